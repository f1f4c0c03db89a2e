import PyProof.Rows.All
import Wide.All
import OpenK.AllK
import Wide.FinOn
import KE.KExcIs
import KE.SortKeyHeap
import KE.SortData
import KE.DataMinMax
import HandS.ForMost
import HandS.ForExc
import HandS.Zip
import HandS.TupAny
import HandS.Codes
import HandS.IsInst
import HandS.Walk
import HandS.Wide
import HandS.TupMul
import HandS.CallSlots
import HandS.ExcInit
import HandS.ExcValue
import HandS.TryOnly
import HandS.SetKeys
import HandS.Rev
import HandS.Conv
import HandS.NoneIn
import HandS.Style
import HandS.Finally
import HandS.BoundDict
import HandS.Hot
import HandS.More
import HandS.Small
import HandS.RaiseOp
import HandS.RaiseFrom
import HandS.ExcValueHot
import HandS.WideBits
import HandS.HotCalls
import HandS.DictComp
import HandS.ForDict
import HandS.ExcIs
import HandS.ExcOwn
import HandS.TryElse
import HandS.TryMany
import HandS.RaiseMore
import HandS.SuiteRaise
import HandS.StrMore
import HandS.Strs
import HandS.StrSplit
import HandS.AnyAll
import HandS.ListItems
import HandS.SetFor
import HandS.Set
import HandS.TupSets
import HandS.SortInts
import HandS.SortRule
import HandS.SortOrd
import HandS.SortKw
import HandS.Lambda
import HandS.DictEq
import HandS.Deep
import KE.GoesNew
import KE.GoesMore
import KE.GoesEnum
import PyProof.ExcBaseAll.ValueError
import KE.KDictPairs
import PyProof.EnumMake
import HandS.Exc
import KE.DataFind
import PySem.Challenge.RW_clusterhall_k30_whole_when_all_are_taken
set_option Elab.async false
set_option linter.all false
set_option maxRecDepth 100000
set_option maxHeartbeats 4000000
namespace Nu
open PySem PySem.Spec L2
open PyProof.Rows hiding St

/-! ### data, cells, stores -/
inductive Exn where
  | HallError | Taken | NoKey | TooMuch | NoHouse | NoGang | NoGuild | NoKind | InUse | TooMany | NoPlan | Past | BadRow
  deriving DecidableEq
def Exn.name : Exn → Str
  | .HallError => "HallError" | .Taken => "Taken" | .NoKey => "NoKey" | .TooMuch => "TooMuch" | .NoHouse => "NoHouse" | .NoGang => "NoGang" | .NoGuild => "NoGuild"
  | .NoKind => "NoKind" | .InUse => "InUse" | .TooMany => "TooMany" | .NoPlan => "NoPlan" | .Past => "Past" | .BadRow => "BadRow"
inductive Fld where
  | room | written | yard | kind | state | book | houses | booked | due | borne | own_names | lent_names | gang | is_owed | is_own | all_lent | estate | begin_ | told | begun | served
  | wares | grace | now | dues | kinds | known | told_many | begun_many | leaving | barred | happened | history | time | counts | row
  deriving DecidableEq
def Fld.name : Fld → Str
  | .room => "room" | .written => "written" | .yard => "yard" | .kind => "kind" | .state => "state" | .book => "book" | .houses => "houses" | .booked => "booked" | .due => "due" | .borne => "borne"
  | .own_names => "own_names" | .lent_names => "lent_names" | .gang => "gang" | .is_owed => "is_owed" | .is_own => "is_own" | .all_lent => "all_lent" | .estate => "estate" | .begin_ => "begin" | .told => "told"
  | .begun => "begun" | .served => "served" | .wares => "wares" | .grace => "grace" | .now => "now" | .dues => "dues" | .kinds => "kinds" | .known => "known" | .told_many => "told_many" | .begun_many => "begun_many"
  | .leaving => "leaving" | .barred => "barred" | .happened => "happened" | .history => "history" | .time => "time" | .counts => "counts" | .row => "row"
theorem Fld.inj : ∀ {f g : Fld}, f.name = g.name → f = g := by
  intro f g h
  cases f <;> cases g <;> first | rfl | exact absurd h (by decide +kernel)
def Exn.fs : Exn → List Fld
  | .TooMuch => [.time] | .NoPlan => [.counts] | .BadRow => [.row] | _ => []
abbrev Exn.flds (c : Exn) : List Str := c.fs.map Fld.name
inductive Cls where
  | Book | House | Estate | Share | Taker | Trial | Standing | Hall
  deriving DecidableEq
def Cls.name : Cls → Str
  | .Book => "Book" | .House => "House" | .Estate => "Estate" | .Share => "Share" | .Taker => "Taker" | .Trial => "Trial" | .Standing => "Standing" | .Hall => "Hall"
def Cls.fs : Cls → List Fld
  | .Book => [.room, .written]
  | .House => [.yard, .kind, .state, .book]
  | .Estate => [.houses, .booked]
  | .Share => [.due, .borne, .own_names, .lent_names]
  | .Taker => [.gang, .is_owed, .is_own, .all_lent]
  | .Trial => [.estate, .gang, .begin_]
  | .Standing => [.gang, .told, .begun, .state, .served]
  | .Hall => [.wares, .grace, .now, .estate, .dues, .kinds, .known, .told_many, .begun_many, .leaving, .barred, .happened, .history]
abbrev Cls.flds (c : Cls) : List Str := c.fs.map Fld.name
/-- the class of that name stands at C -/
def clsAt (K : PySem.W.Frag) (x : Str) (C : Addr) : Prop := PySem.W.nsIn K mainGlobals x = some (some (.ref C))
theorem clsAt.inj {K : PySem.W.Frag} {x : Str} {C C' : Addr} (h : clsAt K x C) (k : clsAt K x C') : C = C' := by
  have e := h.symm.trans k
  cases e; rfl
inductive D where
  | non
  | bl (b : Bool)
  | int (i : Int)
  | str (s : Str)
  | lst (xs : List D)
  | tup (xs : List D)
  | fls (xs : List D)
  | ptp (xs : List D)
  | exn (c : Exn) (xs : List D)
  | raw (v : V)
inductive Cell where
  | lst (xs : List D)
  | dct (kvs : List (Key × D))
  | lck (o : Obj) (vs : List (Key × V)) (kvs : List (Key × D))
  | ins (c : Cls) (xs : List D)
/-- an exception object of the class cls, its dict at d, that isn't in flight -/
def ExV (a : Addr) (cls : Value) (d : Option Addr) : HO := .ext fun h => ∃ (oe : Obj) (vs : Array Value), h.get? a = some oe ∧ Zc cls d oe ∧ oe.data = .fields vs
theorem exV_ok {P : Program} {w : World} {H : Hp} {h : Heap} {a : Addr} {cls : Value} {d : Option Addr} {oe : Obj} {vs : Array Value} (e : h.get? a = some oe) (z : Zc cls d oe) (hd : oe.data = .fields vs) : ObjOk P w H h a (ExV a cls d) :=
  ⟨⟨oe, vs, e, z, hd⟩, ⟨oe, e⟩, fun _ _ ⟨o, v, q, r⟩ k => ⟨o, v, k o q, r⟩⟩
theorem exV_at {P : Program} {w : World} {H : Hp} {h : Heap} {a : Addr} {cls : Value} {d : Option Addr} (hok : HOk P w H h) (he : H a = some (ExV a cls d)) : ∃ (oe : Obj) (vs : Array Value), h.get? a = some oe ∧ Zc cls d oe ∧ oe.data = .fields vs := by
  have x : ObjOk P w H h a (.ext fun h => ∃ (oe : Obj) (vs : Array Value), h.get? a = some oe ∧ Zc cls d oe ∧ oe.data = .fields vs) := hok a _ he
  exact x.1
abbrev MS := Addr → Option Cell
def mset (m : MS) (p : Addr) (c : Cell) : MS := fun a => if a = p then some c else m a
def mdel (m : MS) (p : Addr) : MS := fun a => if a = p then none else m a
theorem mset_same {m : MS} {p : Addr} {c : Cell} : mset m p c p = some c := by unfold mset; rw [if_pos rfl]
theorem mset_ne {m : MS} {p q : Addr} {c : Cell} (h : q ≠ p) : mset m p c q = m q := by unfold mset; rw [if_neg h]
theorem mset_mset {m : MS} {p : Addr} {c c' : Cell} : mset (mset m p c) p c' = mset m p c' := by
  funext a; unfold mset; split <;> rfl
theorem mset_comm {m : MS} {p q : Addr} {c c' : Cell} (h : p ≠ q) : mset (mset m p c) q c' = mset (mset m q c') p c := by
  funext a
  unfold mset
  by_cases h1 : a = q
  · rw [if_pos h1]
    by_cases h2 : a = p
    · exact absurd (h2.symm.trans h1) h
    · rw [if_neg h2, if_pos h1]
  · rw [if_neg h1]
    by_cases h2 : a = p
    · rw [if_pos h2, if_pos h2]
    · rw [if_neg h2, if_neg h2, if_neg h1]
theorem mset_self {m : MS} {p : Addr} {c : Cell} (h : m p = some c) : mset m p c = m := by
  funext a; unfold mset; split
  · next e => rw [e, h]
  · rfl
def fz (m : MS) (H : Hp) : Hp := fun a => match m a with
  | none => H a
  | some _ => none
theorem fz_of {m : MS} {H : Hp} {a : Addr} {o : HO} (h : m a = none) (e : H a = some o) : fz m H a = some o := by
  unfold fz; rw [h]; exact e
theorem of_fz {m : MS} {H : Hp} {a : Addr} {o : HO} (h : fz m H a = some o) : m a = none ∧ H a = some o := by
  unfold fz at h
  cases e : m a with
  | none => rw [e] at h; exact ⟨rfl, h⟩
  | some c => rw [e] at h; cases h

/-- a list that stands, read only: tracked, locked, or of the written part and of plain shape -/
def LsA (K : PySem.W.Frag) (H : Hp) (a : Addr) (xs : List V) : Prop := Rd H a (.lst xs) ∨ ∃ (its : Array Value) (n : Nat), K.lookup a = some { cls := .type "list", data := .seq its n } ∧ its.size ≤ sizeLine ∧ Vals xs its.toList
theorem LsA.sq {K : PySem.W.Frag} {H : Hp} {a : Addr} {xs : List V} (h : LsA K H a xs) : SqL K H a xs := by
  rcases h with h | ⟨its, n, h1, h2, h3⟩
  · exact .inl h
  · exact .inr ⟨_, its, n, h1, rfl, rfl, rfl, h2, h3⟩
theorem LsA.up {K : PySem.W.Frag} {H H' : Hp} {a : Addr} {xs : List V} (e : Same H H') (h : LsA K H a xs) : LsA K H' a xs := by
  rcases h with (h | ⟨o, h⟩) | h
  · exact .inl (.inl (e _ _ h))
  · exact .inl (.inr ⟨o, e _ _ h⟩)
  · exact .inr h
section
variable {K : PySem.W.Frag} {F F' F'' : Hp}
mutual
inductive Rp (K : PySem.W.Frag) (F : Hp) : V → D → Prop
  | non : Rp K F .non .non
  | bl (b : Bool) : Rp K F (.bl b) (.bl b)
  | int (i : Int) : Rp K F (.int i) (.int i)
  | str (x : Str) : Rp K F (.str x) (.str x)
  | lst {a : Addr} {xs : List V} {ds : List D} : F a = some (.lst xs) → Rps K F xs ds → Rp K F (.ref a) (.lst ds)
  | fls {a : Addr} {xs : List V} {ds : List D} : LsA K F a xs → Rps K F xs ds → Rp K F (.ref a) (.fls ds)
  | ptp {a : Addr} {o : Obj} {xs : List V} {ds : List D} : F a = some (.frz o (.tup xs)) → o.dict = none → Rps K F xs ds → Rp K F (.ref a) (.ptp ds)
  | tup {a : Addr} {xs : List V} {ds : List D} : SqT K F a xs → Rps K F xs ds → Rp K F (.ref a) (.tup ds)
  | exn0 {a C : Addr} {c : Exn} : c.flds = [] → clsAt K c.name C → F a = some (ExV a (.ref C) none) → Rp K F (.ref a) (.exn c [])
  | exn1 {a C q : Addr} {c : Exn} {vs : List V} {ds : List D} : c.flds.length = vs.length → vs ≠ [] → clsAt K c.name C → F a = some (ExV a (.ref C) (some q)) → F q = some (.xd (c.flds.zip vs)) → Rps K F vs ds → Rp K F (.ref a) (.exn c ds)
  | raw (v : V) : Rp K F v (.raw v)
inductive Rps (K : PySem.W.Frag) (F : Hp) : List V → List D → Prop
  | nil : Rps K F [] []
  | cons {v : V} {vs : List V} {d : D} {ds : List D} : Rp K F v d → Rps K F vs ds → Rps K F (v :: vs) (d :: ds)
end
theorem Same.seqT {H H' : Hp} {a : Addr} {xs : List V} (e : Same H H') (h : SqT K H a xs) : SqT K H' a xs := by
  rcases h with (h | ⟨o, h⟩) | h
  · exact .inl (.inl (e _ _ h))
  · exact .inl (.inr ⟨o, e _ _ h⟩)
  · exact .inr h
mutual
theorem Rp.up (s : Same F F') : ∀ {v : V} (d : D), Rp K F v d → Rp K F' v d
  | _, .non, h => by cases h; exact .non
  | _, .bl b, h => by cases h; exact .bl b
  | _, .int i, h => by cases h; exact .int i
  | _, .str x, h => by cases h; exact .str x
  | _, .lst ds, h => by
    cases h with
    | lst h1 h2 => exact .lst (s _ _ h1) (Rps.up s ds h2)
  | _, .fls ds, h => by
    cases h with
    | fls h1 h2 => exact .fls (h1.up s) (Rps.up s ds h2)
  | _, .ptp ds, h => by
    cases h with
    | ptp h1 h0 h2 => exact .ptp (s _ _ h1) h0 (Rps.up s ds h2)
  | _, .tup ds, h => by
    cases h with
    | tup h1 h2 => exact .tup (Same.seqT s h1) (Rps.up s ds h2)
  | _, .exn c ds, h => by
    cases h with
    | exn0 h1 h2 h3 => exact .exn0 h1 h2 (s _ _ h3)
    | exn1 h1 h0 h2 h3 h4 h5 => exact .exn1 h1 h0 h2 (s _ _ h3) (s _ _ h4) (Rps.up s ds h5)
  | _, .raw v, h => by cases h; exact .raw _
theorem Rps.up (s : Same F F') : ∀ {vs : List V} (ds : List D), Rps K F vs ds → Rps K F' vs ds
  | _, [], h => by cases h; exact .nil
  | _, d :: ds, h => by
    cases h with
    | cons h1 h2 => exact .cons (Rp.up s d h1) (Rps.up s ds h2)
end
theorem Rps.length : ∀ {vs : List V} {ds : List D}, Rps K F vs ds → vs.length = ds.length
  | _, [], h => by cases h; rfl
  | _, d :: ds, h => by
    cases h with
    | cons h1 h2 => rw [List.length_cons, List.length_cons, Rps.length h2]
theorem Rps.get {vs : List V} {ds : List D} {i : Nat} {d : D} (h : Rps K F vs ds) (e : ds[i]? = some d) : ∃ v, vs[i]? = some v ∧ Rp K F v d := by
  induction ds generalizing vs i with
  | nil => simp at e
  | cons d' ds ih =>
    cases h with
    | @cons v' vs' _ _ h1 h2 =>
      cases i with
      | zero =>
        have e' : d' = d := by simpa using e
        rw [← e']
        exact ⟨v', rfl, h1⟩
      | succ i =>
        obtain ⟨v, a, b⟩ := ih (i := i) h2 (by simpa using e)
        exact ⟨v, by simpa using a, b⟩
theorem Rps.get' {vs : List V} {ds : List D} {i : Nat} {v : V} (h : Rps K F vs ds) (e : vs[i]? = some v) : ∃ d, ds[i]? = some d ∧ Rp K F v d := by
  have hl := h.length
  have hi : i < vs.length := (List.getElem?_eq_some_iff.mp e).1
  obtain ⟨w, a, b⟩ := h.get (i := i) (d := ds[i]'(by omega)) (List.getElem?_eq_getElem _)
  rw [e] at a
  cases a
  exact ⟨_, List.getElem?_eq_getElem _, b⟩
theorem Rps.append : ∀ {vs ws : List V} {ds es : List D}, Rps K F vs ds → Rps K F ws es → Rps K F (vs ++ ws) (ds ++ es)
  | _, _, [], _, h, h' => by cases h; exact h'
  | _, _, d :: ds, _, h, h' => by
    cases h with
    | cons h1 h2 => exact .cons h1 (Rps.append h2 h')
theorem Rps.one {v : V} {d : D} (h : Rp K F v d) : Rps K F [v] [d] := .cons h .nil
theorem Rps.set : ∀ {vs : List V} {ds : List D} {v : V} {d : D} (i : Nat), Rp K F v d → Rps K F vs ds → Rps K F (vs.set i v) (ds.set i d)
  | _, [], _, _, _, _, h => by cases h; exact .nil
  | _, e :: ds, _, _, 0, r, h => by
    cases h with
    | cons h1 h2 => exact .cons r h2
  | _, e :: ds, _, _, i + 1, r, h => by
    cases h with
    | cons h1 h2 => exact .cons h1 (Rps.set i r h2)
theorem Rps.take : ∀ {vs : List V} {ds : List D} (n : Nat), Rps K F vs ds → Rps K F (vs.take n) (ds.take n)
  | _, [], n, h => by cases h; simp; exact .nil
  | _, e :: ds, 0, h => by simp; exact .nil
  | _, e :: ds, n + 1, h => by
    cases h with
    | cons h1 h2 => exact .cons h1 (Rps.take n h2)
theorem Rps.drop : ∀ {vs : List V} {ds : List D} (n : Nat), Rps K F vs ds → Rps K F (vs.drop n) (ds.drop n)
  | _, [], n, h => by cases h; simp; exact .nil
  | _, e :: ds, 0, h => h
  | _, e :: ds, n + 1, h => by
    cases h with
    | cons h1 h2 => exact Rps.drop n h2
theorem Rps.reverse {vs : List V} {ds : List D} (h : Rps K F vs ds) : Rps K F vs.reverse ds.reverse := by
  induction vs generalizing ds with
  | nil => cases h; exact .nil
  | cons v vs ih =>
    cases h with
    | cons h1 h2 =>
      rw [List.reverse_cons, List.reverse_cons]
      exact (ih h2).append (.one h1)
theorem Rps.ints {vs : List V} {is : List Int} (h : Rps K F vs (is.map D.int)) : vs = is.map V.int := by
  induction is generalizing vs with
  | nil => cases h; rfl
  | cons i is ih =>
    cases h with
    | cons h1 h2 => cases h1; rw [ih h2]; rfl
theorem Rps.of_ints : ∀ (is : List Int), Rps K F (is.map V.int) (is.map D.int)
  | [] => .nil
  | i :: is => .cons (.int i) (Rps.of_ints is)
theorem Rps.strs {vs : List V} {is : List Str} (h : Rps K F vs (is.map D.str)) : vs = is.map V.str := by
  induction is generalizing vs with
  | nil => cases h; rfl
  | cons i is ih =>
    cases h with
    | cons h1 h2 => cases h1; rw [ih h2]; rfl
theorem Rps.of_strs : ∀ (is : List Str), Rps K F (is.map V.str) (is.map D.str)
  | [] => .nil
  | i :: is => .cons (.str i) (Rps.of_strs is)
theorem Rps.bls {vs : List V} {is : List Bool} (h : Rps K F vs (is.map D.bl)) : vs = is.map V.bl := by
  induction is generalizing vs with
  | nil => cases h; rfl
  | cons i is ih =>
    cases h with
    | cons h1 h2 => cases h1; rw [ih h2]; rfl
theorem Rps.raws {vs ws : List V} (h : Rps K F vs (ws.map D.raw)) : vs = ws := by
  induction ws generalizing vs with
  | nil => cases h; rfl
  | cons i is ih =>
    cases h with
    | cons h1 h2 => cases h1; rw [ih h2]
theorem Rps.of_raws : ∀ (ws : List V), Rps K F ws (ws.map D.raw)
  | [] => .nil
  | i :: is => .cons (.raw i) (Rps.of_raws is)
end

abbrev RKs (K : PySem.W.Frag) (F : Hp) : List (Key × V) → List (Key × D) → Prop := Paired fun (p : Key × V) (q : Key × D) => p.1 = q.1 ∧ Rp K F p.2 q.2
def CellAt (K : PySem.W.Frag) (F H : Hp) (p : Addr) : Cell → Prop
  | .lst ds => ∃ vs, H p = some (.lst vs) ∧ Rps K F vs ds
  | .dct kds => ∃ kvs, H p = some (.dK kvs) ∧ RKs K F kvs kds
  | .lck o vs kds => H p = some (.frz o (.dK vs)) ∧ RKs K F vs kds
  | .ins c ds => ∃ C dx vs, clsAt K c.name C ∧ H p = some (.ins C dx ((c.flds.take ds.length).zip vs)) ∧ ds.length ≤ c.flds.length ∧ Rps K F vs ds
/-- the store m and the data's heap F stand in H -/
structure Std (K : PySem.W.Frag) (m : MS) (H F : Hp) : Prop where
  sub : Same F (fz m H)
  cells : ∀ p c, m p = some c → CellAt K F H p c
/-- from (m, H, F) to (m', H', F') -/
structure Go (K : PySem.W.Frag) (m : MS) (H F : Hp) (m' : MS) (H' F' : Hp) : Prop where
  same : Same (fz m H) (fz m' H')
  grow : Same F F'
  fresh : ∀ a, F' a ≠ none → F a ≠ none ∨ H a = none ∨ m a ≠ none
  kept : ∀ a, H a ≠ none → H' a ≠ none
  std : Std K m' H' F'
abbrev Env1 := List (Option D)
structure StR (K : PySem.W.Frag) (F0 : Hp) (σ : St) (H F : Hp) (ρ : Env1) (m : MS) : Prop where
  std : Std K m H F
  env : ∀ (i : Nat) (d : D), ρ[i]? = some (some d) → ∃ v, σ[i]? = some (some v) ∧ Rp K F v d
  old : Same F0 F
section
variable {K : PySem.W.Frag} {F F' F'' F0 : Hp} {H H' H'' : Hp} {m m' m'' : MS} {σ : St} {ρ : Env1}
theorem Std.free (s : Std K m H F) {p : Addr} (h : H p = none) : m p = none := by
  cases e : m p with
  | none => rfl
  | some c =>
    have q := s.cells p c e
    cases c with
    | lst ds => obtain ⟨vs, z, _⟩ := q; rw [h] at z; cases z
    | dct ds => obtain ⟨vs, z, _⟩ := q; rw [h] at z; cases z
    | lck lo lv ds => obtain ⟨z, _⟩ := q; rw [h] at z; cases z
    | ins C fs => obtain ⟨_, dx, vs, _, z, _⟩ := q; rw [h] at z; cases z
theorem Std.freeF (s : Std K m H F) {p : Addr} (h : H p = none) : F p = none := by
  cases e : F p with
  | none => rfl
  | some o =>
    have q := (of_fz (s.sub p o e)).2
    rw [h] at q; cases q
theorem Std.at (s : Std K m H F) {p : Addr} {o : HO} (h : F p = some o) : H p = some o := (of_fz (s.sub p o h)).2
theorem Std.toH (s : Std K m H F) : Same F H := fun p o h => s.at h
theorem Std.off (s : Std K m H F) {p : Addr} {o : HO} (h : F p = some o) : m p = none := (of_fz (s.sub p o h)).1
theorem Std.offF (s : Std K m H F) {p : Addr} {c : Cell} (h : m p = some c) : F p = none := by
  cases e : F p with
  | none => rfl
  | some o => have := s.off e; rw [h] at this; cases this
theorem paired_imp {α β : Type} {P Q : α → β → Prop} (f : ∀ a b, P a b → Q a b) : ∀ {l : List α} {r : List β}, Paired P l r → Paired Q l r
  | _, _, .nil => .nil
  | _, _, .cons h t => .cons (f _ _ h) (paired_imp f t)
theorem RKs.up (s : Same F F') {l : List (Key × V)} {r : List (Key × D)} (h : RKs K F l r) : RKs K F' l r := paired_imp (fun _ _ q => ⟨q.1, Rp.up s _ q.2⟩) h
theorem CellAt.up {p : Addr} {c : Cell} (s : Same F F') (e : H' p = H p) (h : CellAt K F H p c) : CellAt K F' H' p c := by
  cases c with
  | lst ds => obtain ⟨vs, z, r⟩ := h; exact ⟨vs, e.trans z, Rps.up s _ r⟩
  | dct ds => obtain ⟨vs, z, r⟩ := h; exact ⟨vs, e.trans z, RKs.up s r⟩
  | lck lo lv ds => obtain ⟨z, r⟩ := h; exact ⟨e.trans z, RKs.up s r⟩
  | ins c ds => obtain ⟨C, dx, vs, k, z, l, r⟩ := h; exact ⟨C, dx, vs, k, e.trans z, l, Rps.up s _ r⟩
theorem Go.refl (s : Std K m H F) : Go K m H F m H F := ⟨Same.refl _, Same.refl _, fun _ h => .inl h, fun _ h => h, s⟩
theorem Go.trans (g : Go K m H F m' H' F') (k : Go K m' H' F' m'' H'' F'') : Go K m H F m'' H'' F'' :=
  ⟨g.same.trans k.same, g.grow.trans k.grow, fun a h => by
    rcases k.fresh a h with q | q | q
    · exact g.fresh a q
    · refine .inr (.inl ?_)
      cases e : H a with
      | none => rfl
      | some o => exact absurd q (g.kept a (by rw [e]; exact fun z => nomatch z))
    · refine .inr ?_
      cases e : H a with
      | none => exact .inl rfl
      | some o =>
        refine .inr fun hm => q ?_
        exact (of_fz (g.same a o (fz_of hm e))).1, fun a h => k.kept a (g.kept a h), k.std⟩
theorem StR.go (s : StR K F0 σ H F ρ m) (g : Go K m H F m' H' F') : StR K F0 σ H' F' ρ m' :=
  ⟨g.std, fun i d e => let ⟨v, a, b⟩ := s.env i d e; ⟨v, a, Rp.up g.grow _ b⟩, s.old.trans g.grow⟩
/-- a new object that never changes -/
theorem Go.new (s : Std K m H F) {p : Addr} {o : HO} (h : H p = none) : Go K m H F m (upd H p o) (upd F p o) := by
  have hm := s.free h
  have hF := s.freeF h
  have g : Same F (upd F p o) := fun a u e => by rw [upd_ne (ne_of_none e hF)]; exact e
  refine ⟨fun a u e => ?_, g, fun a ha => ?_, fun a ha => ?_, ⟨fun a u e => ?_, fun q c e => ?_⟩⟩
  · obtain ⟨e1, e2⟩ := of_fz e
    exact fz_of e1 (by rw [upd_ne (ne_of_none e2 h)]; exact e2)
  · by_cases e : a = p
    · subst e; exact .inr (.inl h)
    · rw [upd_ne e] at ha; exact .inl ha
  · by_cases e : a = p
    · subst e; rw [upd_same]; exact fun z => nomatch z
    · rw [upd_ne e]; exact ha
  · by_cases e' : a = p
    · subst e'; rw [upd_same] at e; cases e; exact fz_of hm upd_same
    · rw [upd_ne e'] at e
      obtain ⟨e1, e2⟩ := of_fz (s.sub a u e)
      exact fz_of e1 (by rw [upd_ne e']; exact e2)
  · refine (s.cells q c e).up g ?_
    rw [upd_ne]
    rintro rfl
    rw [hm] at e; cases e
/-- a new object that no data leans on -/
theorem Go.junk (s : Std K m H F) {p : Addr} {o : HO} (h : H p = none) : Go K m H F m (upd H p o) F := by
  have hm := s.free h
  refine ⟨fun a u e => ?_, Same.refl _, fun a ha => .inl ha, fun a ha => ?_, ⟨fun a u e => ?_, fun q c e => ?_⟩⟩
  · obtain ⟨e1, e2⟩ := of_fz e
    exact fz_of e1 (by rw [upd_ne (ne_of_none e2 h)]; exact e2)
  · by_cases e : a = p
    · subst e; rw [upd_same]; exact fun z => nomatch z
    · rw [upd_ne e]; exact ha
  · obtain ⟨e1, e2⟩ := of_fz (s.sub a u e)
    exact fz_of e1 (by rw [upd_ne (ne_of_none e2 h)]; exact e2)
  · refine (s.cells q c e).up (Same.refl _) ?_
    rw [upd_ne]
    rintro rfl
    rw [hm] at e; cases e
theorem CellAt.upd_ {p q : Addr} {o : HO} {c : Cell} (h : CellAt K F H q c) (ne : q ≠ p) : CellAt K F (upd H p o) q c := h.up (Same.refl _) (upd_ne ne)
/-- a new cell -/
theorem Go.cell (s : Std K m H F) {p : Addr} {o : HO} {c : Cell} (h : H p = none) (hc : CellAt K F (upd H p o) p c) : Go K m H F (mset m p c) (upd H p o) F := by
  have hm := s.free h
  have hF := s.freeF h
  refine ⟨fun a u e => ?_, Same.refl _, fun a ha => .inl ha, fun a ha => ?_, ⟨fun a u e => ?_, fun q c' e => ?_⟩⟩
  · obtain ⟨e1, e2⟩ := of_fz e
    have ne := ne_of_none e2 h
    exact fz_of (by rw [mset_ne ne]; exact e1) (by rw [upd_ne ne]; exact e2)
  · by_cases e : a = p
    · subst e; rw [upd_same]; exact fun z => nomatch z
    · rw [upd_ne e]; exact ha
  · obtain ⟨e1, e2⟩ := of_fz (s.sub a u e)
    have ne := ne_of_none e2 h
    exact fz_of (by rw [mset_ne ne]; exact e1) (by rw [upd_ne ne]; exact e2)
  · by_cases ne : q = p
    · subst ne; rw [mset_same] at e; cases e; exact hc
    · rw [mset_ne ne] at e
      exact (s.cells q c' e).upd_ ne
/-- a cell changed -/
theorem Go.put (s : Std K m H F) {p : Addr} {o : HO} {c c' : Cell} (h : m p = some c) (hc : CellAt K F (upd H p o) p c') : Go K m H F (mset m p c') (upd H p o) F := by
  have hF := s.offF h
  refine ⟨fun a u e => ?_, Same.refl _, fun a ha => .inl ha, fun a ha => ?_, ⟨fun a u e => ?_, fun q c' e => ?_⟩⟩
  · obtain ⟨e1, e2⟩ := of_fz e
    have ne : a ≠ p := by rintro rfl; rw [h] at e1; cases e1
    exact fz_of (by rw [mset_ne ne]; exact e1) (by rw [upd_ne ne]; exact e2)
  · by_cases e : a = p
    · subst e; rw [upd_same]; exact fun z => nomatch z
    · rw [upd_ne e]; exact ha
  · obtain ⟨e1, e2⟩ := of_fz (s.sub a u e)
    have ne : a ≠ p := by rintro rfl; rw [h] at e1; cases e1
    exact fz_of (by rw [mset_ne ne]; exact e1) (by rw [upd_ne ne]; exact e2)
  · by_cases ne : q = p
    · subst ne; rw [mset_same] at e; cases e; exact hc
    · rw [mset_ne ne] at e
      exact (s.cells q _ e).upd_ ne
/-- fewer cells are asked for -/
def MLe (m' m : MS) : Prop := ∀ p c, m' p = some c → m p = some c
theorem MLe.refl (m : MS) : MLe m m := fun _ _ h => h
theorem MLe.trans {a b c : MS} (h : MLe a b) (k : MLe b c) : MLe a c := fun p x e => k p x (h p x e)
theorem MLe.fresh {m' m : MS} {p : Addr} {c : Cell} (h : MLe m' m) (hp : m' p = none) : MLe m' (mset m p c) := fun q x e => by
  rw [mset_ne]
  · exact h q x e
  · rintro rfl; rw [hp] at e; cases e
theorem MLe.put {m' m : MS} {p : Addr} {c : Cell} (h : MLe m' m) : MLe (mset m' p c) (mset m p c) := fun q x e => by
  by_cases ne : q = p
  · subst ne; rw [mset_same] at e; rw [mset_same]; exact e
  · rw [mset_ne ne] at e; rw [mset_ne ne]; exact h q x e
theorem Go.less (s : Std K m H F) (h : MLe m' m) : Go K m H F m' H F := by
  have hn : ∀ a, m a = none → m' a = none := fun a e => by
    cases e' : m' a with
    | none => rfl
    | some c => have := h a c e'; rw [e] at this; cases this
  refine ⟨fun a u e => ?_, Same.refl _, fun a ha => .inl ha, fun a ha => ha, ⟨fun a u e => ?_, fun q c' e => s.cells q c' (h q c' e)⟩⟩
  · obtain ⟨e1, e2⟩ := of_fz e
    exact fz_of (hn a e1) e2
  · obtain ⟨e1, e2⟩ := of_fz (s.sub a u e)
    exact fz_of (hn a e1) e2
/-- a cell that becomes data -/
theorem Go.freeze (s : Std K m H F) {p : Addr} {ds : List D} (h : m p = some (.lst ds)) : ∃ F', Go K m H F (mdel m p) H F' ∧ Rp K F' (.ref p) (.lst ds) := by
  obtain ⟨vs, hp, r⟩ := s.cells p _ h
  have hF := s.offF h
  have g : Same F (upd F p (.lst vs)) := fun a u e => by rw [upd_ne (ne_of_none e hF)]; exact e
  have hd : ∀ a, a ≠ p → mdel m p a = m a := fun a ne => by unfold mdel; rw [if_neg ne]
  have hdp : mdel m p p = none := by unfold mdel; rw [if_pos rfl]
  refine ⟨upd F p (.lst vs), ⟨fun a u e => ?_, g, fun a ha => ?_, fun a ha => ha, ⟨fun a u e => ?_, fun q c e => ?_⟩⟩, .lst upd_same (Rps.up g _ r)⟩
  · obtain ⟨e1, e2⟩ := of_fz e
    have ne : a ≠ p := by rintro rfl; rw [h] at e1; cases e1
    exact fz_of ((hd a ne).trans e1) e2
  · by_cases e : a = p
    · subst e; exact .inr (.inr (by rw [h]; exact fun z => nomatch z))
    · rw [upd_ne e] at ha; exact .inl ha
  · by_cases e' : a = p
    · subst e'; rw [upd_same] at e; cases e; exact fz_of hdp hp
    · rw [upd_ne e'] at e
      obtain ⟨e1, e2⟩ := of_fz (s.sub a u e)
      exact fz_of ((hd a e').trans e1) e2
  · by_cases ne : q = p
    · subst ne; rw [hdp] at e; cases e
    · rw [hd q ne] at e
      exact (s.cells q c e).up g rfl
end
end Nu

namespace Nu
open PySem PySem.Spec L2
open PyProof.Rows hiding St
/-! ### the small language, and what it asks -/
abbrev NX := D → MS → Prop
abbrev EX := Exn → List D → Env1 → MS → Prop
abbrev EZ := Exn → List D → MS → Prop
abbrev ASp := List D → MS → NX → EZ → Prop
abbrev BS := List D → MS → NX → Prop
abbrev IS := List D → MS → (List D → (MS → Prop) → MS → Prop) → Prop
def EX0 : EX := fun _ _ _ _ => False
def EZ0 : EZ := fun _ _ _ => False
inductive Cmp where
  | lt | le | gt | ge
def Cmp.b : Cmp → Int → Int → Bool
  | .lt, i, j => decide (i < j)
  | .le, i, j => decide (i ≤ j)
  | .gt, i, j => decide (j < i)
  | .ge, i, j => decide (j ≤ i)
inductive DW where
  | keys | vals | items
def kD : Key → D
  | .inl k => .int k
  | .inr x => .str x
def valD (kds : List (Key × D)) (k : Key) : Option D := (kds.find? fun kv => decide (kv.1 = k)).map (·.2)
def putD (kds : List (Key × D)) (k : Key) (d : D) : List (Key × D) :=
  if kds.any (fun kv => decide (kv.1 = k)) = true then kds.map (fun kv => if kv.1 = k then (kv.1, d) else kv) else kds ++ [(k, d)]
def dropD (kds : List (Key × D)) (k : Key) : List (Key × D) := kds.filter fun kv => !decide (kv.1 = k)
def mergeD (kds more : List (Key × D)) : List (Key × D) := more.foldl (fun acc kv => putD acc kv.1 kv.2) kds
def DW.its : DW → List (Key × D) → List D
  | .keys, kvs => kvs.map fun kv => kD kv.1
  | .vals, kvs => kvs.map fun kv => kv.2
  | .items, kvs => kvs.map fun kv => .tup [kD kv.1, kv.2]
def keyOf : D → Option Key
  | .int i => some (.inl i)
  | .str s => some (.inr s)
  | _ => none
def getF : List Fld → List D → Fld → Option D
  | f :: fs, d :: ds, g => if f = g then some d else getF fs ds g
  | _, _, _ => none
def setF : List Fld → List D → Fld → D → Option (List D)
  | f :: fs, d :: ds, g, v => if f = g then some (v :: ds) else match setF fs ds g v with
    | some ds' => some (d :: ds')
    | none => none
  | f :: _, [], g, v => if f = g then some [v] else none
  | [], _, _, _ => none
mutual
inductive G where
  | name (i : Nat)
  | tup (gs : Gs)
inductive Gs where
  | nil
  | cons (g : G) (gs : Gs)
end
mutual
def G.vars : G → List Nat
  | .name i => [i]
  | .tup gs => gs.vars
def Gs.vars : Gs → List Nat
  | .nil => []
  | .cons g gs => g.vars ++ gs.vars
end
def setR : Env1 → Nat → D → Env1
  | [], _, _ => []
  | _ :: ρ, 0, d => some d :: ρ
  | x :: ρ, n + 1, d => x :: setR ρ n d
def getR : Env1 → Nat → Option D
  | [], _ => none
  | x :: _, 0 => x
  | _ :: ρ, n + 1 => getR ρ n
def clrR : Env1 → Nat → Env1
  | [], _ => []
  | _ :: ρ, 0 => none :: ρ
  | x :: ρ, n + 1 => x :: clrR ρ n
mutual
def bindG : G → D → Env1 → Option Env1
  | .name i, d, ρ => some (setR ρ i d)
  | .tup gs, .tup ds, ρ => bindGs gs ds ρ
  | .tup _, _, _ => none
def bindGs : Gs → List D → Env1 → Option Env1
  | .nil, [], ρ => some ρ
  | .cons g gs, d :: ds, ρ => match bindG g d ρ with
    | some ρ' => bindGs gs ds ρ'
    | none => none
  | _, _, _ => none
end
mutual
inductive T where
  | var (i : Nat)
  | cst (d : D)
  | bop (s : BS) (ts : Ts)
  | mth (k : D → MS → (BS → Prop) → Prop) (o : T) (ts : Ts)
  | call (a : ASp) (ts : Ts)
  | meth (c : Cls) (a : ASp) (o : T) (ts : Ts)
  | make (c : Cls) (a : ASp) (ts : Ts)
  | and2 (a b : T)
  | or2 (a b : T)
  | ite (c a b : T)
  | chain (o1 o2 : Cmp) (a b c : T)
  | lc (g : G) (s : IS) (ts : Ts) (ifs : Ts) (elt : T)
  | lock (t : T)
inductive Ts where
  | nil
  | cons (t : T) (ts : Ts)
end
mutual
inductive S1 where
  | set (i : Nat) (t : T)
  | unp (gs : Gs) (t : T)
  | par (i j : Nat) (a b : T)
  | aug (i : Nat) (s : BS) (t : T)
  | fset (f : Fld) (o t : T)
  | faug (f : Fld) (o t : T)
  | iset (o i t : T)
  | expr (t : T)
  | ret (t : T)
  | retn
  | pass
  | brk
  | cnt
  | raise (c : Exn) (ts : Ts)
  | iff (c : T) (a b : SS)
  | fo (g : G) (s : IS) (ts : Ts) (body : SS)
  | lock (s : S1)
  | whil (c : T) (body : SS)
  | tri (c : Exn) (i : Option Nat) (body hand : SS)
inductive SS where
  | nil
  | cons (s : S1) (ss : SS)
  | cut (s : S1) (ss : SS)
end
def wipeR (ρ : Env1) : List Nat → Env1
  | [] => ρ
  | i :: vs => wipeR (clrR ρ i) vs
/-- another view of the same: lists frozen, cells and slots forgotten -/
def VwS (ρ : Env1) (m : MS) (ρ' : Env1) (m' : MS) : Prop := ∀ K F0 σ H F, StR K F0 σ H F ρ m → ∃ F', Go K m H F m' H F' ∧ StR K F0 σ H F' ρ' m'
def VwD (d : D) (m : MS) (d' : D) (m' : MS) : Prop := ∀ K H F v, Std K m H F → Rp K F v d → ∃ F', Go K m H F m' H F' ∧ Rp K F' v d'
/-- a new list: as data, or as a cell -/
def NewL (ds : List D) (m : MS) (P : NX) : Prop := P (.lst ds) m ∨ ∀ p, m p = none → P (.raw (.ref p)) (mset m p (.lst ds))
mutual
def W : T → Env1 → MS → NX → EX → Prop
  | .var i, ρ, m, P, _ => match getR ρ i with
    | some d => P d m
    | none => False
  | .cst d, _, m, P, _ => P d m
  | .bop s ts, ρ, m, P, Z => Ws ts ρ m (fun ds m1 => s ds m1 P) Z
  | .mth k o ts, ρ, m, P, Z => W o ρ m (fun d m1 => k d m1 fun s => Ws ts ρ m1 (fun ds m2 => s (d :: ds) m2 P) Z) Z
  | .call a ts, ρ, m, P, Z => Ws ts ρ m (fun ds m1 => a ds m1 P fun c es m2 => Z c es ρ m2) Z
  | .meth c a o ts, ρ, m, P, Z => W o ρ m (fun d m1 => ∃ p xs, d = .raw (.ref p) ∧ m1 p = some (.ins c xs) ∧ Ws ts ρ m1 (fun ds m2 => a (d :: ds) m2 P fun c es m3 => Z c es ρ m3) Z) Z
  | .make c a ts, ρ, m, P, Z => Ws ts ρ m (fun ds m1 => ∀ p, m1 p = none → a (.raw (.ref p) :: ds) (mset m1 p (.ins c [])) (fun v m2 => v = .non ∧ P (.raw (.ref p)) m2) fun c es m3 => Z c es ρ m3) Z
  | .and2 a b, ρ, m, P, Z => W a ρ m (fun d m1 => ∃ k, d = .bl k ∧ ((∃ kb, (k = true → W b ρ m1 (fun d2 m2 => d2 = .bl kb ∧ m2 = m1) EX0) ∧ P (.bl (k && kb)) m1) ∨ ((k = true → W b ρ m1 P Z) ∧ (k = false → P (.bl false) m1)))) Z
  | .or2 a b, ρ, m, P, Z => W a ρ m (fun d m1 => ∃ k, d = .bl k ∧ ((∃ kb, (k = false → W b ρ m1 (fun d2 m2 => d2 = .bl kb ∧ m2 = m1) EX0) ∧ P (.bl (k || kb)) m1) ∨ ((k = false → W b ρ m1 P Z) ∧ (k = true → P (.bl true) m1)))) Z
  | .ite c a b, ρ, m, P, Z => W c ρ m (fun d m1 => ∃ k, d = .bl k ∧ ((∃ d3, (k = true → W a ρ m1 (fun d2 m2 => d2 = d3 ∧ m2 = m1) EX0) ∧ (k = false → W b ρ m1 (fun d2 m2 => d2 = d3 ∧ m2 = m1) EX0) ∧ P d3 m1) ∨ ((k = true → W a ρ m1 P Z) ∧ (k = false → W b ρ m1 P Z)))) Z
  | .chain o1 o2 a b c, ρ, m, P, Z => W a ρ m (fun d1 m1 => W b ρ m1 (fun d2 m2 => ∃ i j k, d1 = .int i ∧ d2 = .int j ∧ W c ρ m2 (fun d3 m3 => d3 = .int k ∧ m3 = m2) EX0 ∧ P (.bl (o1.b i j && o2.b j k)) m2) Z) Z
  | .lc g s ts ifs elt, ρ, m, P, Z => Ws ts ρ m (fun ds m1 => s ds m1 fun items GG m2 => items.length ≤ 100000 ∧ ∃ I : Nat → List D → MS → Prop, I 0 [] m2 ∧ (∀ i acc m', i ≤ items.length → I i acc m' → GG m') ∧
      (∀ i d acc m', items[i]? = some d → I i acc m' → match bindG g d (wipeR ρ g.vars) with
        | some ρ' => Wl ifs ρ' m' (fun b m'' => (b = true → W elt ρ' m'' (fun d' m3 => I (i + 1) (acc ++ [d']) m3) EX0) ∧ (b = false → I (i + 1) acc m''))
        | none => False) ∧ ∀ acc m', I items.length acc m' → NewL acc m' P) Z
  | .lock t, ρ, m, P, Z => (∃ p kds, m p = some (.dct kds) ∧ ∀ o vs, W t ρ (mset m p (.lck o vs kds)) (fun d m1 => m1 p = some (.lck o vs kds) ∧ P d (mset m1 p (.dct kds))) EX0) ∨ W t ρ m P Z
def Ws : Ts → Env1 → MS → (List D → MS → Prop) → EX → Prop
  | .nil, _, m, P, _ => P [] m
  | .cons t ts, ρ, m, P, Z => W t ρ m (fun d m1 => Ws ts ρ m1 (fun ds m2 => P (d :: ds) m2) Z) Z
/-- the one test of a comprehension, or none -/
def Wl : Ts → Env1 → MS → (Bool → MS → Prop) → Prop
  | .nil, _, m, P => P true m
  | .cons t _, ρ, m, P => W t ρ m (fun d m1 => ∃ k, d = .bl k ∧ P k m1) EX0
end
structure AEnds where
  nx : Env1 → MS → Prop
  rt : D → MS → Prop
  bk : Env1 → MS → Prop := fun _ _ => False
  ct : Env1 → MS → Prop := fun _ _ => False
  ex : EX := EX0
def Exn.under : Exn → Exn → Bool
  | _, .HallError => true
  | a, b => decide (a = b)
mutual
def W1 : S1 → Env1 → MS → AEnds → Prop
  | .set i t, ρ, m, E => W t ρ m (fun d m' => E.nx (setR ρ i d) m') E.ex
  | .unp gs t, ρ, m, E => W t ρ m (fun d m' => match bindG (.tup gs) d ρ with
    | some ρ' => E.nx ρ' m'
    | none => False) E.ex
  | .par i j a b, ρ, m, E => W a ρ m (fun d1 m1 => W b ρ m1 (fun d2 m2 => E.nx (setR (setR ρ i d1) j d2) m2) E.ex) E.ex
  | .aug i s t, ρ, m, E => match getR ρ i with
    | some d1 => W t ρ m (fun d2 m1 => s [d1, d2] m1 fun d3 m2 => E.nx (setR ρ i d3) m2) E.ex
    | none => False
  | .fset f o t, ρ, m, E => W t ρ m (fun d m1 => W o ρ m1 (fun x m2 => match x with
    | .raw (.ref p) => ∃ c xs, m2 p = some (.ins c xs) ∧ match setF c.fs xs f d with
      | some xs' => E.nx ρ (mset m2 p (.ins c xs'))
      | none => False
    | _ => False) E.ex) E.ex
  | .faug f o t, ρ, m, E => W o ρ m (fun x m1 => match x with
    | .raw (.ref p) => ∃ c xs, m1 p = some (.ins c xs) ∧ match getF c.fs xs f with
      | some (.int i) => W t ρ m1 (fun d m2 => m2 p = some (.ins c xs) ∧ match d with
        | .int j => match setF c.fs xs f (.int (i + j)) with
          | some xs' => E.nx ρ (mset m2 p (.ins c xs'))
          | none => False
        | _ => False) E.ex
      | _ => False
    | _ => False) E.ex
  | .iset o i t, ρ, m, E => W t ρ m (fun d m1 => W o ρ m1 (fun x m2 => match x with
    | .raw (.ref p) => W i ρ m2 (fun y m3 => ∃ c, m3 p = some c ∧ match c with
      | .lst ds => match y with
        | .int k => ∃ n, ixN ds.length k = some n ∧ E.nx ρ (mset m3 p (.lst (ds.set n d)))
        | _ => False
      | .dct kvs => match keyOf y with
        | some k => kvs.length < 100000 ∧ E.nx ρ (mset m3 p (.dct (putD kvs k d)))
        | none => False
      | _ => False) E.ex
    | _ => False) E.ex) E.ex
  | .expr t, ρ, m, E => W t ρ m (fun _ m' => E.nx ρ m') E.ex
  | .ret t, ρ, m, E => W t ρ m E.rt E.ex
  | .retn, _, m, E => E.rt .non m
  | .pass, ρ, m, E => E.nx ρ m
  | .brk, ρ, m, E => E.bk ρ m
  | .cnt, ρ, m, E => E.ct ρ m
  | .raise c ts, ρ, m, E => Ws ts ρ m (fun ds m1 => ∃ d es, ds = d :: es ∧ es.length = c.flds.length ∧ E.ex c es ρ m1) E.ex
  | .iff c a b, ρ, m, E => W c ρ m (fun d m1 => ∃ k, d = .bl k ∧ (k = true → WB a ρ m1 E) ∧ (k = false → WB b ρ m1 E)) E.ex
  | .fo g s ts body, ρ, m, E => Ws ts ρ m (fun ds m1 => s ds m1 fun items GG m2 => ∃ I : Nat → Env1 → MS → Prop, I 0 ρ m2 ∧ (∀ i ρ' m', I i ρ' m' → GG m') ∧
      (∀ i d ρ' m', items[i]? = some d → I i ρ' m' → match bindG g d ρ' with
        | some ρ2 => WB body ρ2 m' { nx := I (i + 1), rt := E.rt, bk := E.nx, ct := I (i + 1), ex := E.ex }
        | none => False) ∧ ∀ ρ' m', I items.length ρ' m' → E.nx ρ' m') E.ex
  | .lock s, ρ, m, E => (∃ p kds, m p = some (.dct kds) ∧ ∀ o vs, W1 s ρ (mset m p (.lck o vs kds)) { nx := fun ρ2 m2 => m2 p = some (.lck o vs kds) ∧ E.nx ρ2 (mset m2 p (.dct kds)), rt := fun d m2 => m2 p = some (.lck o vs kds) ∧ E.rt d (mset m2 p (.dct kds)), bk := fun ρ2 m2 => m2 p = some (.lck o vs kds) ∧ E.bk ρ2 (mset m2 p (.dct kds)), ct := fun ρ2 m2 => m2 p = some (.lck o vs kds) ∧ E.ct ρ2 (mset m2 p (.dct kds)), ex := EX0 }) ∨ W1 s ρ m E
  | .whil c body, ρ, m, E => ∃ (I : Nat → Env1 → MS → Prop) (n : Nat), I n ρ m ∧ ∀ n ρ' m', I n ρ' m' → W c ρ' m' (fun d m1 => ∃ k, d = .bl k ∧ (k = true → WB body ρ' m1 { nx := fun ρ2 m2 => ∃ n', n' < n ∧ I n' ρ2 m2, rt := E.rt, bk := E.nx, ct := fun ρ2 m2 => ∃ n', n' < n ∧ I n' ρ2 m2, ex := E.ex }) ∧ (k = false → E.nx ρ' m1)) E.ex
  | .tri c i body hand, ρ, m, E => WB body ρ m { nx := E.nx, rt := E.rt, bk := E.bk, ct := E.ct, ex := fun x es ρ' m' =>
      (x.under c = true → match i with
        | some i => WB hand (setR ρ' i (.exn x es)) m' { nx := fun ρ2 m2 => E.nx (clrR ρ2 i) m2, rt := E.rt, bk := fun ρ2 m2 => E.bk (clrR ρ2 i) m2, ct := fun ρ2 m2 => E.ct (clrR ρ2 i) m2, ex := EX0 }
        | none => WB hand ρ' m' { nx := E.nx, rt := E.rt, bk := E.bk, ct := E.ct, ex := EX0 }) ∧ (x.under c = false → E.ex x es ρ' m') }
def WB : SS → Env1 → MS → AEnds → Prop
  | .nil, ρ, m, E => E.nx ρ m
  | .cons s ss, ρ, m, E => W1 s ρ m { nx := fun ρ' m' => WB ss ρ' m' E, rt := E.rt, bk := E.bk, ct := E.ct, ex := E.ex }
  | .cut s ss, ρ, m, E => ∃ J : Env1 → MS → Prop, W1 s ρ m { nx := J, rt := E.rt, bk := E.bk, ct := E.ct, ex := E.ex } ∧ ∀ ρ' m', J ρ' m' → ∃ ρ2 m2, VwS ρ' m' ρ2 m2 ∧ WB ss ρ2 m2 E
end
end Nu

namespace Nu
open PySem PySem.Spec L2
open PyProof.Rows hiding St
/-! ### the weakest readings -/
section
variable (X : Cx)
def wE (e : Expr) : TE := fun σ H Q => ∀ (pins : List (Addr × Obj)) (s : Shared), Inv X pins σ H s → wpAny (model X.prog X.w) X.A (eval e X.env) (EP X pins σ Q) X.xe s
def wT (e : Expr) : TT := fun σ H Q => ∀ (pins : List (Addr × Obj)) (s : Shared), Inv X pins σ H s → wpAny (model X.prog X.w) X.A (isTrue e X.env (eval e X.env)) (TP X pins σ Q) X.xe s
def wW (e : Expr) : TT := fun σ H Q => ∀ (wh : Sem Value) (pins : List (Addr × Obj)) (s : Shared), Inv X pins σ H s → wpAny (model X.prog X.w) X.A (isTrue e X.env wh) (TP X pins σ Q) X.xe s
def wA (es : List Expr) : TA := fun σ H Q => ∀ (pos : Pos) (pins : List (Addr × Obj)) (s : Shared), Inv X pins σ H s → wpAny (model X.prog X.w) X.A (spliced (backTo pos (starEach es X.env))) (AP X pins σ Q) X.xe s
def wS (st : Stmt) : TS := fun D σ H => ∀ (pins : List (Addr × Obj)) (s : Shared), Inv X pins σ H s → wpAny (model X.prog X.w) X.A (exec st X.env) (SP X pins D) X.xe s
def wSs (st : List Stmt) : TS := fun D σ H => ∀ (pins : List (Addr × Obj)) (s : Shared), Inv X pins σ H s → wpAny (model X.prog X.w) X.A (execs st X.env) (SP X pins D) X.xe s
def wG (tg : Expr) : TG := fun v σ H Q => ∀ (pins : List (Addr × Obj)) (s : Shared) (u : Value), Inv X pins σ H s → RelV v u → wpAny (model X.prog X.w) X.A (assign tg X.env u) (fun _ s' => ∃ σ' H', Inv X pins σ' H' s' ∧ Q σ' H') X.xe s
def wI (tg iter : Expr) : TI := fun σ H R => ∀ (pins : List (Addr × Obj)) (s : Shared), Inv X pins σ H s →
    wpAny (model X.prog X.w) X.A (eval iter X.env) (fun v s1 => wpAny (model X.prog X.w) X.A (pyIter v) (PIE X pins σ tg R) X.xe s1) X.xe s
end
section
variable {X : Cx} {e : Expr} {es : List Expr} {st : Stmt} {sts : List Stmt} {tg iter : Expr}
theorem pe_w : PE X e (wE X e) := ⟨fun pins s _ _ _ I h => h pins s I⟩
theorem pt_w : PT X e (wT X e) := ⟨fun pins s _ _ _ I h => h pins s I⟩
theorem pw_w : PW X e (wW X e) := ⟨fun wh pins s _ _ _ I h => h wh pins s I⟩
theorem pa_w : PA X es (wA X es) := ⟨fun pos pins s _ _ _ I h => h pos pins s I⟩
theorem ps_w : PS X st (wS X st) := ⟨fun pins s _ _ _ I h => h pins s I⟩
theorem pss_w : PSs X sts (wSs X sts) := ⟨fun pins s _ _ _ I h => h pins s I⟩
theorem pg_w : PG X tg (wG X tg) := ⟨fun pins s _ _ _ u _ I r h => h pins s u I r⟩
theorem pi_w : PI X tg iter (wI X tg iter) := ⟨fun pins s _ _ _ I h => h pins s I⟩
theorem wE_of {t : TE} {σ : L2.St} {H : Hp} {Q : VK} (h : PE X e t) (q : t σ H Q) : wE X e σ H Q := fun pins s I => h.run pins s σ H Q I q
theorem wT_of {t : TT} {σ : L2.St} {H : Hp} {Q : Bool → Hp → Prop} (h : PT X e t) (q : t σ H Q) : wT X e σ H Q := fun pins s I => h.run pins s σ H Q I q
theorem wW_of {t : TT} {σ : L2.St} {H : Hp} {Q : Bool → Hp → Prop} (h : PW X e t) (q : t σ H Q) : wW X e σ H Q := fun wh pins s I => h.run wh pins s σ H Q I q
theorem wA_of {t : TA} {σ : L2.St} {H : Hp} {Q : List V → Hp → Prop} (h : PA X es t) (q : t σ H Q) : wA X es σ H Q := fun pos pins s I => h.run pos pins s σ H Q I q
theorem wS_of {t : TS} {σ : L2.St} {H : Hp} {D : Ends} (h : PS X st t) (q : t D σ H) : wS X st D σ H := fun pins s I => h.run pins s σ H D I q
theorem wSs_of {t : TS} {σ : L2.St} {H : Hp} {D : Ends} (h : PSs X sts t) (q : t D σ H) : wSs X sts D σ H := fun pins s I => h.run pins s σ H D I q
theorem wG_of {t : TG} {v : V} {σ : L2.St} {H : Hp} {Q : L2.St → Hp → Prop} (h : PG X tg t) (q : t v σ H Q) : wG X tg v σ H Q := fun pins s u I r => h.run pins s σ H v u Q I r q
theorem wI_of {t : TI} {σ : L2.St} {H : Hp} {R : It → Hp → Prop} (h : PI X tg iter t) (q : t σ H R) : wI X tg iter σ H R := fun pins s I => h.run pins s σ H R I q
end
/-! ### exceptions -/
def ExR (K : PySem.W.Frag) (F : Hp) (c : Exn) (ds : List D) (cls : Value) (dd : Option Addr) : Prop :=
  ∃ C, clsAt K c.name C ∧ cls = .ref C ∧ ((c.flds = [] ∧ dd = none ∧ ds = []) ∨ ∃ q vs, dd = some q ∧ c.flds.length = vs.length ∧ vs ≠ [] ∧ F q = some (.xd (c.flds.zip vs)) ∧ Rps K F vs ds)
theorem ExR.up {K : PySem.W.Frag} {F F' : Hp} {c : Exn} {ds : List D} {cls : Value} {dd : Option Addr} (s : Same F F') (h : ExR K F c ds cls dd) : ExR K F' c ds cls dd := by
  obtain ⟨C, h1, h2, h3⟩ := h
  refine ⟨C, h1, h2, ?_⟩
  rcases h3 with h3 | ⟨q, vs, a, b, c, d, e⟩
  · exact .inl h3
  · exact .inr ⟨q, vs, a, b, c, s _ _ d, Rps.up s _ e⟩
def ExK (X : Cx) (F0 : Hp) (m : MS) (H F : Hp) (Z : EX) (V : WX) : Prop := ∀ σ' H' F' ρ' m' c ds cls dd, Z c ds ρ' m' → Go X.K m H F m' H' F' → StR X.K F0 σ' H' F' ρ' m' → ExR X.K F' c ds cls dd → V cls dd σ' H'
section
variable {X : Cx} {F0 H F H' F' : Hp} {m m' : MS} {Z : EX} {V : WX}
theorem ExK.go (k : ExK X F0 m H F Z V) (g : Go X.K m H F m' H' F') : ExK X F0 m' H' F' Z V := fun σ' H1 F1 ρ' m1 c ds cls dd z g1 s r => k σ' H1 F1 ρ' m1 c ds cls dd z (g.trans g1) s r
theorem exk0 : ExK X F0 m H F EX0 V := fun _ _ _ _ _ _ _ _ _ z => z.elim
end
abbrev V0 : WX := fun _ _ _ _ => False
/-! ### the judgements -/
section
variable (X : Cx)
structure XE (e : Expr) (ρ : Env1) (m : MS) (P : NX) (Z : EX) : Prop where
  run : ∀ F0 σ H F, StR X.K F0 σ H F ρ m → ∀ (Q : VK) (V : WX), Takes X V → (∀ v H' F' d m', P d m' → Go X.K m H F m' H' F' → Rp X.K F' v d → Q v H') → ExK X F0 m H F Z V → wE X e σ H Q
structure XT (e : Expr) (ρ : Env1) (m : MS) (P : Bool → MS → Prop) (Z : EX) : Prop where
  run : ∀ F0 σ H F, StR X.K F0 σ H F ρ m → ∀ (Q : Bool → Hp → Prop) (V : WX), Takes X V → (∀ k H' F' m', P k m' → Go X.K m H F m' H' F' → Q k H') → ExK X F0 m H F Z V → wT X e σ H Q
structure XW (e : Expr) (ρ : Env1) (m : MS) (P : Bool → MS → Prop) (Z : EX) : Prop where
  run : ∀ F0 σ H F, StR X.K F0 σ H F ρ m → ∀ (Q : Bool → Hp → Prop) (V : WX), Takes X V → (∀ k H' F' m', P k m' → Go X.K m H F m' H' F' → Q k H') → ExK X F0 m H F Z V → wW X e σ H Q
structure XA (es : List Expr) (ρ : Env1) (m : MS) (P : List D → MS → Prop) (Z : EX) : Prop where
  run : ∀ F0 σ H F, StR X.K F0 σ H F ρ m → ∀ (Q : List V → Hp → Prop) (V : WX), Takes X V → (∀ vs H' F' ds m', P ds m' → Go X.K m H F m' H' F' → Rps X.K F' vs ds → Q vs H') → ExK X F0 m H F Z V → wA X es σ H Q
structure Cont (F0 : Hp) (m : MS) (H F : Hp) (A : AEnds) (E : Ends) (V : WX) : Prop where
  nx : ∀ σ' H' F' ρ' m', A.nx ρ' m' → Go X.K m H F m' H' F' → StR X.K F0 σ' H' F' ρ' m' → E.nx σ' H'
  rt : ∀ v H' F' d m', A.rt d m' → Go X.K m H F m' H' F' → Rp X.K F' v d → E.rt v H'
  bk : ∀ σ' H' F' ρ' m', A.bk ρ' m' → Go X.K m H F m' H' F' → StR X.K F0 σ' H' F' ρ' m' → E.bk σ' H'
  ct : ∀ σ' H' F' ρ' m', A.ct ρ' m' → Go X.K m H F m' H' F' → StR X.K F0 σ' H' F' ρ' m' → E.ct σ' H'
  ex : ExK X F0 m H F A.ex V
structure X1 (st : Stmt) (ρ : Env1) (m : MS) (A : AEnds) : Prop where
  run : ∀ F0 σ H F, StR X.K F0 σ H F ρ m → ∀ (E : Ends) (V : WX), Takes X V → Cont X F0 m H F A E V → wS X st E σ H
structure XS (sts : List Stmt) (ρ : Env1) (m : MS) (A : AEnds) : Prop where
  run : ∀ F0 σ H F, StR X.K F0 σ H F ρ m → ∀ (E : Ends) (V : WX), Takes X V → Cont X F0 m H F A E V → wSs X sts E σ H
structure XG (tg : Expr) (g : G) : Prop where
  run : ∀ F0 σ H F m v d ρ ρ', bindG g d ρ = some ρ' → StR X.K F0 σ H F ρ m → Rp X.K F v d → ∀ Q : L2.St → Hp → Prop,
  (∀ σ', StR X.K F0 σ' H F ρ' m → σ'.length = σ.length → (∀ j : Nat, j ∉ g.vars → σ'[j]? = σ[j]?) → Q σ' H) → wG X tg v σ H Q
structure XGs (tgs : List Expr) (gs : Gs) : Prop where
  run : ∀ F0 σ H F m ws ds ρ ρ', bindGs gs ds ρ = some ρ' → StR X.K F0 σ H F ρ m → Rps X.K F ws ds → ∀ Q : L2.St → Hp → Prop,
  (∀ σ', StR X.K F0 σ' H F ρ' m → σ'.length = σ.length → (∀ j : Nat, j ∉ gs.vars → σ'[j]? = σ[j]?) → Q σ' H) →
  ∀ (pins : List (Addr × Obj)) (s : Shared) (us : List Value), Inv X pins σ H s → Vals ws us → wpAny (model X.prog X.w) X.A (assignInOrder ((assignEach tgs X.env).map (·.2)) us) (fun _ s' => ∃ σ' H', Inv X pins σ' H' s' ∧ Q σ' H') X.xe s
structure SE (e : Expr) (t : T) : Prop where
  go : ∀ ρ m P Z, W t ρ m P Z → XE X e ρ m P Z
structure ST (e : Expr) (t : T) : Prop where
  go : ∀ ρ m (P' : NX) (P : Bool → MS → Prop) Z, W t ρ m P' Z → (∀ d m1, P' d m1 → ∃ k, d = .bl k ∧ P k m1) → XT X e ρ m P Z
structure SWh (e : Expr) (t : T) : Prop where
  go : ∀ ρ m (P' : NX) (P : Bool → MS → Prop) Z, W t ρ m P' Z → (∀ d m1, P' d m1 → ∃ k, d = .bl k ∧ P k m1) → XW X e ρ m P Z
structure SA (es : List Expr) (ts : Ts) : Prop where
  go2 : ∀ ρ m P Z, Ws ts ρ m P Z → XA X es ρ m (fun ds m' => ds.length = es.length ∧ P ds m') Z
structure SS1 (st : Stmt) (t : S1) : Prop where
  go : ∀ ρ m A, W1 t ρ m A → X1 X st ρ m A
structure SSs (sts : List Stmt) (t : SS) : Prop where
  go : ∀ ρ m A, WB t ρ m A → XS X sts ρ m A
end
/-- what a loop walks: items, while the data's heap only grows and the store keeps G -/
structure WalkD (K : PySem.W.Frag) (F1 : Hp) (J : It) (items : List D) (G : MS → Prop) : Prop where
  goes : ∀ i H F m, i < items.length → Same F1 F → Std K m H F → G m → J.go i H
  stops : ∀ H F m, Same F1 F → Std K m H F → G m → J.stop items.length H
  yields : ∀ i H F m x H' d, items[i]? = some d → Same F1 F → Std K m H F → G m → J.yld i H x H' → ∃ F', Go K m H F m H' F' ∧ Rp K F' x d
/-- what is walked -/
structure XI (X : Cx) (tg iter : Expr) (ρ : Env1) (m : MS) (P : List D → (MS → Prop) → MS → Prop) (Z : EX) : Prop where
  run : ∀ F0 σ H F, StR X.K F0 σ H F ρ m → ∀ (R : It → Hp → Prop) (V : WX), Takes X V →
  (∀ J H' F' items GG m', P items GG m' → Go X.K m H F m' H' F' → WalkD X.K F' J items GG → R J H') → ExK X F0 m H F Z V → wI X tg iter σ H R
structure SI (X : Cx) (tg iter : Expr) (s : IS) (ts : Ts) : Prop where
  go : ∀ ρ m P Z, Ws ts ρ m (fun ds m1 => s ds m1 P) Z → XI X tg iter ρ m P Z
theorem getR_some : ∀ {ρ : Env1} {i : Nat} {d : D}, getR ρ i = some d → ρ[i]? = some (some d)
  | [], _, _, h => by cases h
  | x :: ρ, 0, d, h => by
    have h' : x = some d := h
    rw [h']; rfl
  | x :: ρ, n + 1, d, h => by
    have := getR_some (ρ := ρ) (i := n) (d := d) h
    simpa using this
theorem setR_eq : ∀ (ρ : Env1) (i : Nat) (d : D), setR ρ i d = ρ.set i (some d)
  | [], _, _ => rfl
  | _ :: ρ, 0, d => rfl
  | x :: ρ, n + 1, d => by
    show x :: setR ρ n d = x :: ρ.set n (some d)
    rw [setR_eq]
theorem clrR_eq : ∀ (ρ : Env1) (i : Nat), clrR ρ i = ρ.set i none
  | [], _ => rfl
  | _ :: ρ, 0 => rfl
  | x :: ρ, n + 1 => by
    show x :: clrR ρ n = x :: ρ.set n none
    rw [clrR_eq]
section
variable {X : Cx} {F0 : Hp} {e a b c : Expr} {es : List Expr} {stm : Stmt} {sts : List Stmt} {t ta tb tc : T} {ts : Ts} {pos pos' : Pos} {A : AEnds}
theorem Cont.go {m m' : MS} {H F H' F' : Hp} {E : Ends} {V : WX} (k : Cont X F0 m H F A E V) (g : Go X.K m H F m' H' F') : Cont X F0 m' H' F' A E V :=
  ⟨fun σ' H1 F1 ρ' m1 p g1 => k.nx σ' H1 F1 ρ' m1 p (g.trans g1), fun v H1 F1 d m1 p g1 => k.rt v H1 F1 d m1 p (g.trans g1), fun σ' H1 F1 ρ' m1 p g1 => k.bk σ' H1 F1 ρ' m1 p (g.trans g1), fun σ' H1 F1 ρ' m1 p g1 => k.ct σ' H1 F1 ρ' m1 p (g.trans g1), k.ex.go g⟩
/-! ### names, constants -/
theorem se_var (i : Nat) {x : Str} (hN : X.N[i]? = some x := by rfl) (hv : Vis X.env.scope x := by first | exact Or.inl rfl | exact Or.inr (Or.inl rfl) | exact Or.inr (Or.inr rfl)) (h1 : (x == ("__debug__" : Str)) = false := by decide)
    (h2 : (x == ("__classdict__" : Str)) = false := by decide) : SE X (.Name x pos) (.var i) := ⟨fun ρ m P Z h => ⟨fun F0 σ H F S Q V tk q kx => by
  have h' : match getR ρ i with | some d => P d m | none => False := h
  cases e : getR ρ i with
  | none => rw [e] at h'; exact h'.elim
  | some d =>
    rw [e] at h'
    obtain ⟨v, e1, r⟩ := S.env i d (getR_some e)
    exact wE_of (pe_var hN hv h1 h2) ⟨v, e1, q v H F d m h' (Go.refl S.std) r⟩⟩⟩
theorem se_c {v : V} {d : D} (h : PE X e (tC v)) (r : ∀ F, Rp X.K F v d) : SE X e (.cst d) := ⟨fun ρ m P Z p => ⟨fun F0 σ H F S Q V tk q kx => wE_of h (q v H F d m p (Go.refl S.std) (r F))⟩⟩
theorem se_int {i : Int} {j} : SE X (.Constant (.int i) j pos) (.cst (.int i)) := se_c pe_int fun _ => .int i
theorem se_bl {i : Bool} {j} : SE X (.Constant (.bool i) j pos) (.cst (.bl i)) := se_c pe_bl fun _ => .bl i
theorem se_str {i : Str} {j} : SE X (.Constant (.str i) j pos) (.cst (.str i)) := se_c pe_str fun _ => .str i
theorem se_non {j} : SE X (.Constant .none j pos) (.cst .non) := se_c pe_non fun _ => .non
theorem se_gint {x : Str} {i : Int} (hm : ∃ t, X.mg x = some (.int i t)) (hg : Gl X x := by rfl) (h1 : (x == ("__debug__" : Str)) = false := by decide) : SE X (.Name x pos) (.cst (.int i)) := let ⟨t, hm⟩ := hm; se_c (pe_glob (v := .int i) hg hm ⟨t, rfl⟩ h1) fun _ => .int i
theorem se_gstr {x : Str} {i : Str} (hm : ∃ t, X.mg x = some (.str i t)) (hg : Gl X x := by rfl) (h1 : (x == ("__debug__" : Str)) = false := by decide) : SE X (.Name x pos) (.cst (.str i)) := let ⟨t, hm⟩ := hm; se_c (pe_glob (v := .str i) hg hm ⟨t, rfl⟩ h1) fun _ => .str i
/-! ### arguments -/
theorem SA.go (h : SA X es ts) : ∀ ρ m P Z, Ws ts ρ m P Z → XA X es ρ m P Z := fun ρ m P Z p => ⟨fun F0 σ H F S Q V tk q kx => (h.go2 ρ m P Z p).run F0 σ H F S Q V tk (fun vs H1 F1 ds m1 p1 g1 r1 => q vs H1 F1 ds m1 p1.2 g1 r1) kx⟩
theorem sa_nil : SA X [] .nil := ⟨fun ρ m P Z p => ⟨fun F0 σ H F S Q V tk q kx => wA_of pa_nil (q [] H F [] m ⟨rfl, p⟩ (Go.refl S.std) .nil)⟩⟩
theorem sa_cons (h : SE X e t) (k : SA X es ts) (hs : starEach (e :: es) X.env = (false, eval e X.env) :: starEach es X.env := by rfl) : SA X (e :: es) (.cons t ts) := ⟨fun ρ m P Z p => ⟨fun F0 σ H F S Q V tk q kx => by
  refine wA_of (pa_cons pe_w pa_w hs) ?_
  refine (h.go ρ m _ Z p).run F0 σ H F S _ V tk (fun v H1 F1 d m1 p1 g1 r1 => ?_) kx
  refine (k.go2 ρ m1 _ Z p1).run F0 σ H1 F1 (S.go g1) _ V tk (fun vs H2 F2 ds m2 p2 g2 r2 => ?_) (kx.go g1)
  exact q (v :: vs) H2 F2 (d :: ds) m2 ⟨by rw [List.length_cons, List.length_cons, p2.1], p2.2⟩ (g1.trans g2) (.cons (r1.up g2.grow _) r2)⟩⟩
/-! ### operators -/
def Bok2 (K : PySem.W.Frag) (r : R2) (s : BS) : Prop := ∀ d1 d2 m P, s [d1, d2] m P → ∀ x y H F, Std K m H F → Rp K F x d1 → Rp K F y d2 → ∀ Q : VK, (∀ v H' F' d m', P d m' → Go K m H F m' H' F' → Rp K F' v d → Q v H') → r x y H Q
def BokN (K : PySem.W.Frag) (r : List V → Hp → VK → Prop) (s : BS) : Prop := ∀ ds m P, s ds m P → ∀ vs H F, Std K m H F → Rps K F vs ds → ∀ Q : VK, (∀ v H' F' d m', P d m' → Go K m H F m' H' F' → Rp K F' v d → Q v H') → r vs H Q
theorem se_bin {op : Operator} {r : R2} {s : BS} (ho : OpR X (binaryOp op) r) (hs : Bok2 X.K r s) (ha : SE X a ta) (hb : SE X b tb) : SE X (.BinOp a op b pos) (.bop s (.cons ta (.cons tb .nil))) := ⟨fun ρ m P Z p => ⟨fun F0 σ H F S Q V tk q kx => by
  refine wE_of (pe_op ho pe_w pe_w) ?_
  refine (ha.go ρ m _ Z p).run F0 σ H F S _ V tk (fun x H1 F1 d1 m1 p1 g1 r1 => ?_) kx
  refine (hb.go ρ m1 _ Z p1).run F0 σ H1 F1 (S.go g1) _ V tk (fun y H2 F2 d2 m2 p2 g2 r2 => ?_) (kx.go g1)
  exact hs d1 d2 m2 P p2 x y H2 F2 g2.std (r1.up g2.grow _) r2 Q fun v H3 F3 d3 m3 p3 g3 r3 => q v H3 F3 d3 m3 p3 ((g1.trans g2).trans g3) r3⟩⟩
theorem se_cmp {op : CmpOp} {r : R2} {s : BS} (ho : OpR X (compareOp op) r) (hs : Bok2 X.K r s) (ha : SE X a ta) (hb : SE X b tb) (hm : behindInMarks op b = false) : SE X (.Compare a [op] [b] pos) (.bop s (.cons ta (.cons tb .nil))) := ⟨fun ρ m P Z p => ⟨fun F0 σ H F S Q V tk q kx => by
  refine wE_of (pe_cmpR ho pe_w pe_w hm) ?_
  refine (ha.go ρ m _ Z p).run F0 σ H F S _ V tk (fun x H1 F1 d1 m1 p1 g1 r1 => ?_) kx
  refine (hb.go ρ m1 _ Z p1).run F0 σ H1 F1 (S.go g1) _ V tk (fun y H2 F2 d2 m2 p2 g2 r2 => ?_) (kx.go g1)
  exact hs d1 d2 m2 P p2 x y H2 F2 g2.std (r1.up g2.grow _) r2 Q fun v H3 F3 d3 m3 p3 g3 r3 => q v H3 F3 d3 m3 p3 ((g1.trans g2).trans g3) r3⟩⟩
theorem st_cmp {op : CmpOp} {r : R2} {s : BS} (ho : OpR X (compareOp op) r) (hs : Bok2 X.K r s) (ha : SE X a ta) (hb : SE X b tb) (hm : behindInMarks op b = false) : ST X (.Compare a [op] [b] pos) (.bop s (.cons ta (.cons tb .nil))) := ⟨fun ρ m P' P Z p pk => ⟨fun F0 σ H F S Q V tk q kx => by
  refine wT_of (pt_cmpR ho pe_w pe_w hm) ?_
  refine (ha.go ρ m _ Z p).run F0 σ H F S _ V tk (fun x H1 F1 d1 m1 p1 g1 r1 => ?_) kx
  refine (hb.go ρ m1 _ Z p1).run F0 σ H1 F1 (S.go g1) _ V tk (fun y H2 F2 d2 m2 p2 g2 r2 => ?_) (kx.go g1)
  refine hs d1 d2 m2 _ p2 x y H2 F2 g2.std (r1.up g2.grow _) r2 _ fun v H3 F3 d3 m3 p3 g3 r3 => ?_
  obtain ⟨k, rfl, p4⟩ := pk _ _ p3
  cases r3
  exact ⟨k, rfl, q k H3 F3 m3 p4 ((g1.trans g2).trans g3)⟩⟩⟩
theorem st_val (h : SE X e t) (he : ∀ whole, isTrue e X.env whole = (do let v ← whole; standAt e.pos; holding [v] (truthy v)) := by intro _; rfl) : ST X e t := ⟨fun ρ m P' P Z p pk => ⟨fun F0 σ H F S Q V tk q kx => by
  refine wT_of (pt_val pe_w he) ?_
  refine (h.go ρ m _ Z p).run F0 σ H F S _ V tk (fun v H1 F1 d m1 p1 g1 r1 => ?_) kx
  obtain ⟨k, rfl, p2⟩ := pk _ _ p1
  cases r1
  exact ⟨k, rfl, q k H1 F1 m1 p2 g1⟩⟩⟩
/-- not -/
def sNot : BS := fun ds m P => match ds with
  | [.bl k] => P (.bl (!k)) m
  | _ => False
theorem sNot_of {d : D} {m : MS} {P : NX} (h : sNot [d] m P) : ∃ k, d = .bl k ∧ P (.bl (!k)) m := by
  cases d with
  | bl k => exact ⟨k, rfl, h⟩
  | _ => exact h.elim
theorem se_not (h : SE X a t) : SE X (.UnaryOp .Not a pos) (.bop sNot (.cons t .nil)) := ⟨fun ρ m P Z p => ⟨fun F0 σ H F S Q V tk q kx => by
  refine wE_of (pe_not pe_w) ?_
  refine (h.go ρ m _ Z p).run F0 σ H F S _ V tk (fun v H1 F1 d m1 p1 g1 r1 => ?_) kx
  obtain ⟨k, rfl, p1⟩ := sNot_of p1
  cases r1
  exact ⟨k, rfl, q _ H1 F1 _ m1 p1 g1 (.bl _)⟩⟩⟩
theorem st_not (h : ST X a t) : ST X (.UnaryOp .Not a pos) (.bop sNot (.cons t .nil)) := ⟨fun ρ m P' P Z p pk => ⟨fun F0 σ H F S Q V tk q kx => by
  refine wT_of (pt_not pt_w) ?_
  refine (h.go ρ m _ (fun k m1 => P (!k) m1) Z p (fun d m1 z => ?_)).run F0 σ H F S _ V tk (fun k H1 F1 m1 p1 g1 => q _ H1 F1 m1 p1 g1) kx
  obtain ⟨k, rfl, z⟩ := sNot_of z
  obtain ⟨k', e, z⟩ := pk _ _ z
  cases e
  exact ⟨k, rfl, z⟩⟩⟩
/-! ### and, or, if else, chains -/
variable {rest : List Expr}
theorem se_one {op} (h : SE X a t) : SE X (.BoolOp op [a] pos) t := ⟨fun ρ m P Z p => ⟨fun F0 σ H F S Q V tk q kx => wE_of (pe_one pe_w) ((h.go ρ m P Z p).run F0 σ H F S Q V tk q kx)⟩⟩
theorem se_and (ha : SE X a ta) (hb : SE X (.BoolOp .And (b :: rest) pos) tb) : SE X (.BoolOp .And (a :: b :: rest) pos) (.and2 ta tb) := ⟨fun ρ m P Z p => ⟨fun F0 σ H F S Q V tk q kx => by
  refine wE_of (pe_and pe_w pe_w) ?_
  refine (ha.go ρ m _ Z p).run F0 σ H F S _ V tk (fun v H1 F1 d m1 p1 g1 r1 => ?_) kx
  obtain ⟨k, rfl, p1⟩ := p1
  cases r1
  refine ⟨k, rfl, ?_⟩
  rcases p1 with ⟨kb, p1, p2⟩ | ⟨p1, p2⟩
  · cases k with
    | true =>
      refine iteT ((hb.go ρ m1 _ EX0 (p1 rfl)).run F0 σ H1 F1 (S.go g1) _ V tk (fun v2 H2 F2 d2 m2 p3 g2 r2 => ?_) exk0)
      obtain ⟨rfl, rfl⟩ := p3
      exact q v2 H2 F2 _ _ p2 (g1.trans g2) r2
    | false => exact iteF (q _ H1 F1 _ m1 p2 g1 (.bl _))
  · cases k with
    | true => exact iteT ((hb.go ρ m1 _ Z (p1 rfl)).run F0 σ H1 F1 (S.go g1) _ V tk (fun v2 H2 F2 d2 m2 p3 g2 r2 => q v2 H2 F2 d2 m2 p3 (g1.trans g2) r2) (kx.go g1))
    | false => exact iteF (q _ H1 F1 _ m1 (p2 rfl) g1 (.bl _))⟩⟩
theorem se_or (ha : SE X a ta) (hb : SE X (.BoolOp .Or (b :: rest) pos) tb) : SE X (.BoolOp .Or (a :: b :: rest) pos) (.or2 ta tb) := ⟨fun ρ m P Z p => ⟨fun F0 σ H F S Q V tk q kx => by
  refine wE_of (pe_or pe_w pe_w) ?_
  refine (ha.go ρ m _ Z p).run F0 σ H F S _ V tk (fun v H1 F1 d m1 p1 g1 r1 => ?_) kx
  obtain ⟨k, rfl, p1⟩ := p1
  cases r1
  refine ⟨k, rfl, ?_⟩
  rcases p1 with ⟨kb, p1, p2⟩ | ⟨p1, p2⟩
  · cases k with
    | false =>
      refine iteF ((hb.go ρ m1 _ EX0 (p1 rfl)).run F0 σ H1 F1 (S.go g1) _ V tk (fun v2 H2 F2 d2 m2 p3 g2 r2 => ?_) exk0)
      obtain ⟨rfl, rfl⟩ := p3
      exact q v2 H2 F2 _ _ p2 (g1.trans g2) r2
    | true => exact iteT (q _ H1 F1 _ m1 p2 g1 (.bl _))
  · cases k with
    | false => exact iteF ((hb.go ρ m1 _ Z (p1 rfl)).run F0 σ H1 F1 (S.go g1) _ V tk (fun v2 H2 F2 d2 m2 p3 g2 r2 => q v2 H2 F2 d2 m2 p3 (g1.trans g2) r2) (kx.go g1))
    | true => exact iteT (q _ H1 F1 _ m1 (p2 rfl) g1 (.bl _))⟩⟩
theorem SWh.st (h : SWh X e t) : ST X e t := ⟨fun ρ m P' P Z p pk => ⟨fun F0 σ H F S Q V tk q kx pins s I => (h.go ρ m P' P Z p pk).run F0 σ H F S Q V tk q kx _ pins s I⟩⟩
theorem sw_and1 (h : ST X a t) : SWh X (.BoolOp .And [a] pos) t := ⟨fun ρ m P' P Z p pk => ⟨fun F0 σ H F S Q V tk q kx => wW_of (pw_and1 pt_w) ((h.go ρ m P' P Z p pk).run F0 σ H F S Q V tk q kx)⟩⟩
theorem sw_or1 (h : ST X a t) : SWh X (.BoolOp .Or [a] pos) t := ⟨fun ρ m P' P Z p pk => ⟨fun F0 σ H F S Q V tk q kx => wW_of (pw_or1 pt_w) ((h.go ρ m P' P Z p pk).run F0 σ H F S Q V tk q kx)⟩⟩
theorem sw_and (ha : ST X a ta) (hb : SWh X (.BoolOp .And (b :: rest) pos) tb) : SWh X (.BoolOp .And (a :: b :: rest) pos) (.and2 ta tb) := ⟨fun ρ m P' P Z p pk => ⟨fun F0 σ H F S Q V tk q kx => by
  refine wW_of (pw_and pt_w pw_w) ?_
  refine (ha.go ρ m _ (fun k m1 => (∃ kb, (k = true → W tb ρ m1 (fun d2 m2 => d2 = .bl kb ∧ m2 = m1) EX0) ∧ P' (.bl (k && kb)) m1) ∨ ((k = true → W tb ρ m1 P' Z) ∧ (k = false → P' (.bl false) m1))) Z p (fun d m1 z => z)).run F0 σ H F S _ V tk (fun k H1 F1 m1 p1 g1 => ?_) kx
  rcases p1 with ⟨kb, p1, p2⟩ | ⟨p1, p2⟩
  · obtain ⟨k', e, p3⟩ := pk _ _ p2
    cases e
    cases k with
    | true =>
      refine iteT ((hb.go ρ m1 _ (fun k2 m2 => k2 = kb ∧ m2 = m1) EX0 (p1 rfl) (fun d m2 z => ⟨kb, z.1, rfl, z.2⟩)).run F0 σ H1 F1 (S.go g1) _ V tk (fun k2 H2 F2 m2 p4 g2 => ?_) exk0)
      obtain ⟨rfl, rfl⟩ := p4
      exact q _ H2 F2 _ p3 (g1.trans g2)
    | false => exact iteF (q _ H1 F1 m1 p3 g1)
  · cases k with
    | true => exact iteT ((hb.go ρ m1 P' P Z (p1 rfl) pk).run F0 σ H1 F1 (S.go g1) _ V tk (fun k2 H2 F2 m2 p4 g2 => q _ H2 F2 _ p4 (g1.trans g2)) (kx.go g1))
    | false =>
      obtain ⟨k', e, p3⟩ := pk _ _ (p2 rfl)
      cases e
      exact iteF (q _ H1 F1 m1 p3 g1)⟩⟩
theorem sw_or (ha : ST X a ta) (hb : SWh X (.BoolOp .Or (b :: rest) pos) tb) : SWh X (.BoolOp .Or (a :: b :: rest) pos) (.or2 ta tb) := ⟨fun ρ m P' P Z p pk => ⟨fun F0 σ H F S Q V tk q kx => by
  refine wW_of (pw_or pt_w pw_w) ?_
  refine (ha.go ρ m _ (fun k m1 => (∃ kb, (k = false → W tb ρ m1 (fun d2 m2 => d2 = .bl kb ∧ m2 = m1) EX0) ∧ P' (.bl (k || kb)) m1) ∨ ((k = false → W tb ρ m1 P' Z) ∧ (k = true → P' (.bl true) m1))) Z p (fun d m1 z => z)).run F0 σ H F S _ V tk (fun k H1 F1 m1 p1 g1 => ?_) kx
  rcases p1 with ⟨kb, p1, p2⟩ | ⟨p1, p2⟩
  · obtain ⟨k', e, p3⟩ := pk _ _ p2
    cases e
    cases k with
    | false =>
      refine iteF ((hb.go ρ m1 _ (fun k2 m2 => k2 = kb ∧ m2 = m1) EX0 (p1 rfl) (fun d m2 z => ⟨kb, z.1, rfl, z.2⟩)).run F0 σ H1 F1 (S.go g1) _ V tk (fun k2 H2 F2 m2 p4 g2 => ?_) exk0)
      obtain ⟨rfl, rfl⟩ := p4
      exact q _ H2 F2 _ p3 (g1.trans g2)
    | true => exact iteT (q _ H1 F1 m1 p3 g1)
  · cases k with
    | false => exact iteF ((hb.go ρ m1 P' P Z (p1 rfl) pk).run F0 σ H1 F1 (S.go g1) _ V tk (fun k2 H2 F2 m2 p4 g2 => q _ H2 F2 _ p4 (g1.trans g2)) (kx.go g1))
    | true =>
      obtain ⟨k', e, p3⟩ := pk _ _ (p2 rfl)
      cases e
      exact iteT (q _ H1 F1 m1 p3 g1)⟩⟩
theorem se_ite (hc : ST X c tc) (ha : SE X a ta) (hb : SE X b tb) : SE X (.IfExp c a b pos) (.ite tc ta tb) := ⟨fun ρ m P Z p => ⟨fun F0 σ H F S Q V tk q kx => by
  refine wE_of (pe_ifExp pt_w pe_w pe_w) ?_
  refine (hc.go ρ m _ (fun k m1 => (∃ d3, (k = true → W ta ρ m1 (fun d2 m2 => d2 = d3 ∧ m2 = m1) EX0) ∧ (k = false → W tb ρ m1 (fun d2 m2 => d2 = d3 ∧ m2 = m1) EX0) ∧ P d3 m1) ∨ ((k = true → W ta ρ m1 P Z) ∧ (k = false → W tb ρ m1 P Z))) Z p (fun d m1 z => z)).run F0 σ H F S _ V tk (fun k H1 F1 m1 p1 g1 => ?_) kx
  rcases p1 with ⟨d3, p1, p2, p3⟩ | p1
  · cases k with
    | true =>
      refine iteT ((ha.go ρ m1 _ EX0 (p1 rfl)).run F0 σ H1 F1 (S.go g1) _ V tk (fun v2 H2 F2 d2 m2 p4 g2 r2 => ?_) exk0)
      obtain ⟨rfl, rfl⟩ := p4
      exact q v2 H2 F2 _ _ p3 (g1.trans g2) r2
    | false =>
      refine iteF ((hb.go ρ m1 _ EX0 (p2 rfl)).run F0 σ H1 F1 (S.go g1) _ V tk (fun v2 H2 F2 d2 m2 p4 g2 r2 => ?_) exk0)
      obtain ⟨rfl, rfl⟩ := p4
      exact q v2 H2 F2 _ _ p3 (g1.trans g2) r2
  · cases k with
    | true => exact iteT ((ha.go ρ m1 P Z (p1.1 rfl)).run F0 σ H1 F1 (S.go g1) _ V tk (fun v2 H2 F2 d2 m2 p3 g2 r2 => q v2 H2 F2 d2 m2 p3 (g1.trans g2) r2) (kx.go g1))
    | false => exact iteF ((hb.go ρ m1 P Z (p1.2 rfl)).run F0 σ H1 F1 (S.go g1) _ V tk (fun v2 H2 F2 d2 m2 p3 g2 r2 => q v2 H2 F2 d2 m2 p3 (g1.trans g2) r2) (kx.go g1))⟩⟩
def Cmp.op : Cmp → CmpOp
  | .lt => .Lt
  | .le => .LtE
  | .gt => .Gt
  | .ge => .GtE
theorem op_cmpI (o : Cmp) : OpR X (compareOp o.op) (rI0 fun i j => .bl (o.b i j)) := by
  cases o
  · exact op_lt
  · exact op_le
  · exact op_gt
  · exact op_ge
theorem se_chain (o1 o2 : Cmp) (ha : SE X a ta) (hb : SE X b tb) (hc : SE X c tc) (hm : lastMarks [o1.op, o2.op] [b, c] = false := by with_unfolding_all rfl) : SE X (.Compare a [o1.op, o2.op] [b, c] pos) (.chain o1 o2 ta tb tc) := ⟨fun ρ m P Z p => ⟨fun F0 σ H F S Q V tk q kx => by
  refine wE_of (pe_chain (op_cmpI o1) (op_cmpI o2) pe_w pe_w pe_w hm) ?_
  refine (ha.go ρ m _ Z p).run F0 σ H F S _ V tk (fun x H1 F1 d1 m1 p1 g1 r1 => ?_) kx
  refine (hb.go ρ m1 _ Z p1).run F0 σ H1 F1 (S.go g1) _ V tk (fun y H2 F2 d2 m2 p2 g2 r2 => ?_) (kx.go g1)
  obtain ⟨i, j, k, rfl, rfl, p2, p3⟩ := p2
  cases r1
  cases r2
  refine ⟨i, j, rfl, rfl, _, rfl, ?_⟩
  cases e : o1.b i j with
  | true =>
    refine iteT ((hc.go ρ m2 _ EX0 p2).run F0 σ H2 F2 ((S.go g1).go g2) _ V tk (fun z H3 F3 d3 m3 p4 g3 r3 => ?_) exk0)
    obtain ⟨rfl, rfl⟩ := p4
    cases r3
    rw [e, Bool.true_and] at p3
    exact ⟨j, k, rfl, rfl, q _ H3 F3 _ _ p3 ((g1.trans g2).trans g3) (.bl _)⟩
  | false =>
    rw [e, Bool.false_and] at p3
    exact iteF (q _ H2 F2 _ _ p3 (g1.trans g2) (.bl _))⟩⟩
theorem st_chain (o1 o2 : Cmp) (ha : SE X a ta) (hb : SE X b tb) (hc : SE X c tc) (hm : lastMarks [o1.op, o2.op] [b, c] = false := by with_unfolding_all rfl) : ST X (.Compare a [o1.op, o2.op] [b, c] pos) (.chain o1 o2 ta tb tc) := ⟨fun ρ m P' P Z p pk => ⟨fun F0 σ H F S Q V tk q kx => by
  refine wT_of (pt_chain (op_cmpI o1) (op_cmpI o2) pe_w pe_w pe_w hm) ?_
  refine (ha.go ρ m _ Z p).run F0 σ H F S _ V tk (fun x H1 F1 d1 m1 p1 g1 r1 => ?_) kx
  refine (hb.go ρ m1 _ Z p1).run F0 σ H1 F1 (S.go g1) _ V tk (fun y H2 F2 d2 m2 p2 g2 r2 => ?_) (kx.go g1)
  obtain ⟨i, j, k, rfl, rfl, p2, p3⟩ := p2
  cases r1
  cases r2
  refine ⟨i, j, rfl, rfl, _, rfl, ?_⟩
  obtain ⟨k', e', p3⟩ := pk _ _ p3
  cases e'
  cases e : o1.b i j with
  | true =>
    refine iteT ((hc.go ρ m2 _ EX0 p2).run F0 σ H2 F2 ((S.go g1).go g2) _ V tk (fun z H3 F3 d3 m3 p4 g3 r3 => ?_) exk0)
    obtain ⟨rfl, rfl⟩ := p4
    cases r3
    rw [e, Bool.true_and] at p3
    exact ⟨j, k, rfl, rfl, _, rfl, q _ H3 F3 _ p3 ((g1.trans g2).trans g3)⟩
  | false =>
    rw [e, Bool.false_and] at p3
    exact iteF ⟨_, rfl, q _ H2 F2 _ p3 (g1.trans g2)⟩⟩⟩
end
end Nu

namespace Nu
open PySem PySem.Spec L2
open PyProof.Rows hiding St
/-! ### slots -/
theorem wipeR_some : ∀ {vs : List Nat} {ρ : Env1} {i : Nat} {x : D}, (wipeR ρ vs)[i]? = some (some x) → ρ[i]? = some (some x) ∧ i ∉ vs
  | [], ρ, i, x, h => ⟨h, by simp⟩
  | v :: vs, ρ, i, x, h => by
    obtain ⟨h1, h2⟩ := wipeR_some (vs := vs) (ρ := clrR ρ v) h
    rw [clrR_eq] at h1
    by_cases hi : v = i
    · subst hi
      by_cases hv : v < ρ.length
      · rw [List.getElem?_set_self hv] at h1; cases h1
      · rw [List.getElem?_eq_none (by simpa using hv)] at h1; cases h1
    · rw [List.getElem?_set_ne hi] at h1
      exact ⟨h1, by simp only [List.mem_cons, not_or]; exact ⟨fun e => hi e.symm, h2⟩⟩
theorem wipe_eq {σ σ' : L2.St} : ∀ {vs : List Nat}, σ'.length = σ.length → (∀ j : Nat, j ∉ vs → σ'[j]? = σ[j]?) → wipe σ' vs = wipe σ vs := fun {vs} hl h => by
  apply List.ext_getElem?
  intro i
  by_cases hi : i ∈ vs
  · have one : ∀ (τ : L2.St) (us : List Nat), i ∈ us → (wipe τ us)[i]? = if i < τ.length then some none else none := by
      intro τ us
      induction us with
      | nil => intro hu; cases hu
      | cons u us ih =>
        intro hu
        unfold wipe
        by_cases e : u = i
        · subst e
          by_cases hl : u < τ.length
          · rw [List.getElem?_set_self (by rw [wipe_length]; exact hl), if_pos hl]
          · rw [List.getElem?_eq_none (by rw [List.length_set, wipe_length]; omega), if_neg hl]
        · rw [List.getElem?_set_ne e]
          rcases List.mem_cons.mp hu with q | q
          · exact absurd q.symm e
          · exact ih q
    rw [one σ' vs hi, one σ vs hi, hl]
  · rw [wipe_out hi, wipe_out hi]
    exact h i hi
theorem StR.wipe {K : PySem.W.Frag} {F0 : Hp} {σ : L2.St} {H F : Hp} {ρ : Env1} {m : MS} (S : StR K F0 σ H F ρ m) (vs : List Nat) : StR K F0 (L2.wipe σ vs) H F (wipeR ρ vs) m :=
  ⟨S.std, fun i d e => by
    obtain ⟨e1, e2⟩ := wipeR_some e
    obtain ⟨v, a, b⟩ := S.env i d e1
    exact ⟨v, by rw [wipe_out e2]; exact a, b⟩, S.old⟩
theorem StR.set {K : PySem.W.Frag} {F0 : Hp} {σ : L2.St} {H F : Hp} {ρ : Env1} {m : MS} {d : D} {i : Nat} {v : V} (S : StR K F0 σ H F ρ m) (r : Rp K F v d) (hl : i < σ.length) : StR K F0 (σ.set i (some v)) H F (setR ρ i d) m := by
  rw [setR_eq]
  refine ⟨S.std, fun j d' e => ?_, S.old⟩
  by_cases hj : i = j
  · subst hj
    have hi : i < ρ.length := by
      have := (List.getElem?_eq_some_iff.mp e).1
      simpa using this
    rw [List.getElem?_set_self hi] at e
    cases e
    exact ⟨v, List.getElem?_set_self hl, r⟩
  · rw [List.getElem?_set_ne hj] at e
    obtain ⟨v', a, b⟩ := S.env j d' e
    exact ⟨v', by rw [List.getElem?_set_ne hj]; exact a, b⟩
theorem StR.clr {K : PySem.W.Frag} {F0 : Hp} {σ : L2.St} {H F : Hp} {ρ : Env1} {m : MS} {i : Nat} (S : StR K F0 σ H F ρ m) : StR K F0 (σ.set i none) H F (clrR ρ i) m := by
  rw [clrR_eq]
  refine ⟨S.std, fun j d' e => ?_, S.old⟩
  by_cases hj : i = j
  · subst hj
    by_cases hi : i < ρ.length
    · rw [List.getElem?_set_self hi] at e; cases e
    · rw [List.getElem?_eq_none (by simpa using hi)] at e; cases e
  · rw [List.getElem?_set_ne hj] at e
    obtain ⟨v', a, b⟩ := S.env j d' e
    exact ⟨v', by rw [List.getElem?_set_ne hj]; exact a, b⟩
theorem nx_of_inv {X : Cx} {i : Nat} {x : Str} {pins : List (Addr × Obj)} {σ : L2.St} {H : Hp} {s : Shared} (I : Inv X pins σ H s) (hi : X.N[i]? = some x) : i < σ.length := by
  rw [I.len]; exact (List.getElem?_eq_some_iff.mp hi).1
theorem Go.patch {K : PySem.W.Frag} {m m' : MS} {H F H' F' : Hp} {L : Addr} {o : HO} (g : Go K m H F m' H' F') (h1 : H L = none) (h2 : m' L = none) (h3 : F' L = none) : Go K m H F m' (upd H' L o) F' := by
  refine ⟨fun a u e => ?_, g.grow, g.fresh, fun a ha => ?_, ⟨fun a u e => ?_, fun q c e => ?_⟩⟩
  · have ne : a ≠ L := ne_of_none (of_fz e).2 h1
    obtain ⟨e1, e2⟩ := of_fz (g.same a u e)
    exact fz_of e1 (by rw [upd_ne ne]; exact e2)
  · by_cases e : a = L
    · subst e; rw [upd_same]; exact fun z => nomatch z
    · rw [upd_ne e]; exact g.kept a ha
  · have ne : a ≠ L := ne_of_none e h3
    obtain ⟨e1, e2⟩ := of_fz (g.std.sub a u e)
    exact fz_of e1 (by rw [upd_ne ne]; exact e2)
  · refine (g.std.cells q c e).upd_ ?_
    rintro rfl
    rw [h2] at e; cases e
/-- a junk object becomes data -/
theorem Go.adopt {K : PySem.W.Frag} {m m' : MS} {H F H' F' : Hp} {L : Addr} {o : HO} (g : Go K m H F m' H' F') (h1 : H L = none) (h2 : m' L = none) (h3 : F' L = none) (h4 : H' L = some o) : Go K m H F m' H' (upd F' L o) := by
  have up : Same F' (upd F' L o) := fun a u e => by rw [upd_ne (ne_of_none e h3)]; exact e
  refine ⟨g.same, g.grow.trans up, fun a ha => ?_, g.kept, ⟨fun a u e => ?_, fun q c e => (g.std.cells q c e).up up rfl⟩⟩
  · by_cases e : a = L
    · subst e; exact .inr (.inl h1)
    · rw [upd_ne e] at ha; exact g.fresh a ha
  · by_cases e' : a = L
    · subst e'; rw [upd_same] at e; cases e; exact fz_of h2 h4
    · rw [upd_ne e'] at e; exact g.std.sub a u e
/-- a junk object becomes a cell -/
theorem Go.adoptC {K : PySem.W.Frag} {m m' : MS} {H F H' F' : Hp} {L : Addr} {vs : List V} {acc : List D} (g : Go K m H F m' H' F') (h1 : H L = none) (h2 : m' L = none) (h3 : F' L = none) (h4 : H' L = some (.lst vs)) (h5 : Rps K F' vs acc) : Go K m H F (mset m' L (.lst acc)) H' F' := by
  refine ⟨fun a u e => ?_, g.grow, g.fresh, g.kept, ⟨fun a u e => ?_, fun q c e => ?_⟩⟩
  · have ne : a ≠ L := ne_of_none (of_fz e).2 h1
    obtain ⟨e1, e2⟩ := of_fz (g.same a u e)
    exact fz_of (by rw [mset_ne ne]; exact e1) e2
  · have ne : a ≠ L := ne_of_none e h3
    obtain ⟨e1, e2⟩ := of_fz (g.std.sub a u e)
    exact fz_of (by rw [mset_ne ne]; exact e1) e2
  · by_cases e' : q = L
    · subst e'; rw [mset_same] at e; cases e; exact ⟨vs, h4, h5⟩
    · rw [mset_ne e'] at e; exact g.std.cells q c e

section
variable {X : Cx} {e a b c tg iter elt : Expr} {es tgs ifs : List Expr} {stm : Stmt} {sts body : List Stmt} {t ta tb tc te : T} {ts tifs : Ts} {pos pos' : Pos} {u : S1} {us ub : SS} {g : G} {gs : Gs} {is : IS}
/-! ### targets -/
theorem xg_name (i : Nat) {x : Str} (hN : X.N.Nodup) (hi : X.N[i]? = some x := by rfl) (hx : Loc X.env.scope x := by first | exact Or.inl rfl | exact Or.inr rfl) (hf : X.fn x = true ∨ X.env.scope.names.lookup x = some .local := by first | exact .inl rfl | exact .inr rfl) :
    XG X (.Name x pos) (.name i) := .mk fun F0 σ H F m v d ρ ρ' hb S r Q q pins s u I => by
  have hl := nx_of_inv I hi
  have e : setR ρ i d = ρ' := Option.some.inj hb
  subst e
  refine wG_of (pg_name (i := i) hN hi hx hf) ?_ pins s u I
  exact q _ (S.set r hl) (by simp) fun j hj => List.getElem?_set_ne fun e => hj (by rw [← e]; exact List.mem_singleton_self _)
theorem xgs_nil : XGs X [] .nil := .mk fun F0 σ H F m ws ds ρ ρ' hb S r Q q pins s us I rv => by
  cases ds with
  | nil =>
    cases r; cases rv
    have e : ρ = ρ' := Option.some.inj hb
    subst e
    exact assignInOrder_nil ⟨σ, H, I, q σ S rfl fun _ _ => rfl⟩
  | cons d ds => exact nomatch hb
theorem xgs_cons (h1 : XG X tg g) (h2 : XGs X tgs gs) (hs : (assignEach (tg :: tgs) X.env).map (·.2) = assign tg X.env :: (assignEach tgs X.env).map (·.2) := by rfl) : XGs X (tg :: tgs) (.cons g gs) := .mk fun F0 σ H F m ws ds ρ ρ' hb S r Q q pins s us I rv => by
  cases r with
  | nil => exact nomatch hb
  | @cons v vs d ds r1 r2 =>
    cases rv with
    | cons v1 v2 =>
      have hb : (match bindG g d ρ with | some ρ' => bindGs gs ds ρ' | none => none) = some ρ' := hb
      cases e : bindG g d ρ with
      | none => rw [e] at hb; cases hb
      | some ρ1 =>
        rw [e] at hb
        rw [hs]
        refine assignInOrder_cons ?_
        refine thn (h1.run F0 σ H F m _ _ _ _ e S r1 (fun σ1 H1 => H1 = H ∧ StR X.K F0 σ1 H F ρ1 m ∧ σ1.length = σ.length ∧ ∀ j : Nat, j ∉ g.vars → σ1[j]? = σ[j]?) (fun σ1 S1 l1 k1 => ⟨rfl, S1, l1, k1⟩) pins s _ I v1) fun _ s1 ⟨σ1, H1, I1, eH, S1, l1, k1⟩ => ?_
        subst eH
        exact h2.run F0 σ1 H1 F m _ _ _ _ hb S1 r2 Q (fun σ2 S2 l2 k2 => q σ2 S2 (l2.trans l1) fun j hj => (k2 j fun z => hj (List.mem_append_right _ z)).trans (k1 j fun z => hj (List.mem_append_left _ z))) pins s1 _ I1 v2
theorem bindG_tup {ds : List D} {d : D} {ρ ρ' : Env1} (h : bindG (.tup gs) d ρ = some ρ') : ∃ ds, d = .tup ds ∧ bindGs gs ds ρ = some ρ' := by
  cases d with
  | tup ds => exact ⟨ds, rfl, h⟩
  | _ => exact nomatch h
def Gs.len : Gs → Nat
  | .nil => 0
  | .cons _ gs => gs.len + 1
theorem bindGs_length : ∀ (gs : Gs) (ds : List D) (ρ ρ' : Env1), bindGs gs ds ρ = some ρ' → ds.length = gs.len
  | .nil, [], _, _, _ => rfl
  | .nil, _ :: _, _, _, h => nomatch h
  | .cons _ _, [], _, _, h => nomatch h
  | .cons g gs, d :: ds, ρ, ρ', h => by
    have hb : (match bindG g d ρ with | some ρ' => bindGs gs ds ρ' | none => none) = some ρ' := h
    cases e : bindG g d ρ with
    | none => rw [e] at hb; cases hb
    | some ρ1 =>
      rw [e] at hb
      show ds.length + 1 = gs.len + 1
      rw [bindGs_length gs ds ρ1 ρ' hb]
theorem xg_tup {kk : Nat} (h : XGs X tgs gs) (hn : (assignEach tgs X.env).length = gs.len := by rfl) (hst : (assignEach tgs X.env).findIdx? (·.1) = none := by rfl) (hc : X.calm = true := by rfl) : XG X (.Tuple tgs kk pos) (.tup gs) := .mk fun F0 σ H F m v d ρ ρ' hb S r Q q pins s u I rv => by
  obtain ⟨ds, rfl, hb⟩ := bindG_tup (ds := []) hb
  cases r with
  | @tup a xs _ h1 h2 =>
    cases rv
    obtain ⟨its, rv, ht, hz⟩ := I.tuple (Same.seqT S.std.toH h1)
    refine assign_Tuple_tuple (I.ok.hd hc) ht (by simp [hn, ← bindGs_length _ _ _ _ hb, ← h2.length, rv.length]) hst fun h' hx => ?_
    have I1 : Inv X pins σ H { s with heap := h' } := I.kept (t' := s.toks) fun b o e => hx b o (Nat.ne_of_lt (Heap.lt_size e)) e
    exact h.run F0 σ H F m xs ds ρ ρ' hb S h2 Q q pins _ _ I1 (by simpa using rv)
/-! ### statements -/
theorem ss_nil : SSs X [] .nil := ⟨fun ρ m A p => ⟨fun F0 σ H F S E V tk k => wSs_of pss_nil (k.nx σ H F ρ m p (Go.refl S.std) S)⟩⟩
theorem ss_cons (h1 : SS1 X stm u) (h2 : SSs X sts us) : SSs X (stm :: sts) (.cons u us) := ⟨fun ρ m A p => ⟨fun F0 σ H F S E V tk k => by
  refine wSs_of (pss_cons ps_w pss_w) ?_
  refine (h1.go ρ m _ p).run F0 σ H F S _ V tk ⟨?_, k.rt, k.bk, k.ct, k.ex⟩
  exact fun σ' H' F' ρ' m' p1 g S' => (h2.go ρ' m' A p1).run F0 σ' H' F' S' E V tk (k.go g)⟩⟩
theorem ss_cut (h1 : SS1 X stm u) (h2 : SSs X sts us) : SSs X (stm :: sts) (.cut u us) := ⟨fun ρ m A p => ⟨fun F0 σ H F S E V tk k => by
  obtain ⟨J, p1, p2⟩ := p
  refine wSs_of (pss_cons ps_w pss_w) ?_
  refine (h1.go ρ m _ p1).run F0 σ H F S _ V tk ⟨?_, k.rt, k.bk, k.ct, k.ex⟩
  intro σ' H' F' ρ' m' p3 g S'
  obtain ⟨ρ2, m2, vw, p4⟩ := p2 ρ' m' p3
  obtain ⟨F2, g2, S2⟩ := vw _ _ _ _ _ S'
  exact (h2.go ρ2 m2 A p4).run F0 σ' H' F2 S2 E V tk (k.go (g.trans g2))⟩⟩
theorem s_set {i : Nat} {x : Str} (he : SE X e t) (hN : X.N.Nodup) (hi : X.N[i]? = some x := by rfl) (hx : Loc X.env.scope x := by first | exact Or.inl rfl | exact Or.inr rfl)
    (hs : swapsWith e (some (.Name x pos')) pos.line X.env = pure false := by rfl) (hf : X.fn x = true ∨ X.env.scope.names.lookup x = some .local := by first | exact .inl rfl | exact .inr rfl) :
    SS1 X (.Assign [.Name x pos'] e pos) (.set i t) := ⟨fun ρ m A p => ⟨fun F0 σ H F S E V tk k pins s I => by
  have hl := nx_of_inv I hi
  refine wS_of (ps_set (i := i) hN hi hx pe_w hs hf) ?_ pins s I
  refine (he.go ρ m _ _ p).run F0 σ H F S _ V tk (fun v H1 F1 d m1 p1 g r => ?_) k.ex
  exact k.nx _ H1 F1 _ m1 p1 g ((S.go g).set r hl)⟩⟩
theorem s_ret (he : SE X e t) : SS1 X (.Return (some e) pos) (.ret t) := ⟨fun ρ m A p => ⟨fun F0 σ H F S E V tk k => by
  refine wS_of (ps_ret pe_w) ?_
  exact (he.go ρ m _ _ p).run F0 σ H F S _ V tk (fun v H1 F1 d m1 p1 g r => k.rt v H1 F1 d m1 p1 g r) k.ex⟩⟩
theorem s_retn : SS1 X (.Return none pos) .retn := ⟨fun ρ m A p => ⟨fun F0 σ H F S E V tk k => wS_of ps_retN (k.rt .non H F .non m p (Go.refl S.std) .non)⟩⟩
theorem s_pass : SS1 X (.Pass pos) .pass := ⟨fun ρ m A p => ⟨fun F0 σ H F S E V tk k => wS_of ps_pass (k.nx σ H F ρ m p (Go.refl S.std) S)⟩⟩
theorem s_brk : SS1 X (.Break pos) .brk := ⟨fun ρ m A p => ⟨fun F0 σ H F S E V tk k => wS_of ps_break (k.bk σ H F ρ m p (Go.refl S.std) S)⟩⟩
theorem s_cnt : SS1 X (.Continue pos) .cnt := ⟨fun ρ m A p => ⟨fun F0 σ H F S E V tk k => wS_of ps_continue (k.ct σ H F ρ m p (Go.refl S.std) S)⟩⟩
theorem s_doc {x : Str} {j : Nat} : SS1 X (.Expr (.Constant (.str x) j pos) pos') .pass := ⟨fun ρ m A p => ⟨fun F0 σ H F S E V tk k => wS_of ps_doc (k.nx σ H F ρ m p (Go.refl S.std) S)⟩⟩
theorem s_expr (he : SE X e t) (hs : swapsWith e none pos.line X.env = pure false := by rfl) : SS1 X (.Expr e pos) (.expr t) := ⟨fun ρ m A p => ⟨fun F0 σ H F S E V tk k => by
  refine wS_of (ps_expr pe_w hs) ?_
  exact (he.go ρ m _ _ p).run F0 σ H F S _ V tk (fun v H1 F1 d m1 p1 g r => k.nx σ H1 F1 ρ m1 p1 g (S.go g)) k.ex⟩⟩
theorem s_if {sa sb : List Stmt} {ua ub : SS} (hc : ST X c tc) (ha : SSs X sa ua) (hb : SSs X sb ub) : SS1 X (.If c sa sb pos) (.iff tc ua ub) := ⟨fun ρ m A p => ⟨fun F0 σ H F S E V tk k => by
  refine wS_of (ps_if pt_w pss_w pss_w) ?_
  refine (hc.go ρ m _ (fun k m1 => (k = true → WB ua ρ m1 A) ∧ (k = false → WB ub ρ m1 A)) _ p (fun d m1 z => z)).run F0 σ H F S _ V tk (fun kk H1 F1 m1 p1 g => ?_) k.ex
  cases kk with
  | true => exact iteT ((ha.go ρ m1 A (p1.1 rfl)).run F0 σ H1 F1 (S.go g) E V tk (k.go g))
  | false => exact iteF ((hb.go ρ m1 A (p1.2 rfl)).run F0 σ H1 F1 (S.go g) E V tk (k.go g))⟩⟩
theorem s_unp {kk : Nat} {tpos : Pos} (he : SE X e t) (hg : XG X (.Tuple tgs kk tpos) (.tup gs)) (hs : swapsWithSole [.Tuple tgs kk tpos] e pos.line X.env = pure false := by rfl) (hw : swappedStores [.Tuple tgs kk tpos] e X.env = pure none := by rfl)
    (h1 : (assignEach [.Tuple tgs kk tpos] X.env).map (·.2) = [assign (.Tuple tgs kk tpos) X.env] := by rfl) : SS1 X (.Assign [.Tuple tgs kk tpos] e pos) (.unp gs t) := ⟨fun ρ m A p => ⟨fun F0 σ H F S E V tk k => by
  refine wS_of (ps_asg pe_w pg_w hs hw h1) ?_
  refine (he.go ρ m _ _ p).run F0 σ H F S _ V tk (fun v H1 F1 d m1 p1 g r => ?_) k.ex
  have p1 : match bindG (.tup gs) d ρ with | some ρ' => A.nx ρ' m1 | none => False := p1
  cases eb : bindG (.tup gs) d ρ with
  | none => rw [eb] at p1; exact p1.elim
  | some ρ1 =>
    rw [eb] at p1
    exact hg.run F0 σ H1 F1 m1 v d ρ ρ1 eb (S.go g) r _ fun σ' S' _ _ => k.nx σ' H1 F1 ρ1 m1 p1 g S'⟩⟩
theorem s_par {i j : Nat} {x y : Str} {px py pt pt2 : Pos} {kt k2 : Nat} (ha : SE X a ta) (hb : SE X b tb) (hN : X.N.Nodup) (hij : i ≠ j := by decide) (hi : X.N[i]? = some x := by rfl) (hj : X.N[j]? = some y := by rfl) (hc : X.calm = true := by rfl)
    (hx : X.env.scope.names.lookup x = some .local := by rfl) (hy : X.env.scope.names.lookup y = some .local := by rfl)
    (hw : swappedStores [.Tuple [.Name x px, .Name y py] kt pt] (.Tuple [a, b] k2 pt2) X.env = pure (some [x, y]) := by rfl)
    (hs : swapsWithSole [.Tuple [.Name x px, .Name y py] kt pt] (.Tuple [a, b] k2 pt2) pos.line X.env = pure false := by rfl) (h1 : starEach [a, b] X.env = (false, eval a X.env) :: starEach [b] X.env := by rfl) (h2 : starEach [b] X.env = (false, eval b X.env) :: starEach [] X.env := by rfl) :
    SS1 X (.Assign [.Tuple [.Name x px, .Name y py] kt pt] (.Tuple [a, b] k2 pt2) pos) (.par i j ta tb) := ⟨fun ρ m A p => ⟨fun F0 σ H F S E V tk k pins s I => by
  have hl := nx_of_inv I hi
  have hl2 := nx_of_inv I hj
  refine wS_of (ps_par hc hN hi hj hij hx hy (pa_cons pe_w (pa_cons pe_w pa_nil h2) h1) hw hs) ?_ pins s I
  refine (ha.go ρ m _ _ p).run F0 σ H F S _ V tk (fun v H1 F1 d1 m1 p1 g1 r1 => ?_) k.ex
  refine (hb.go ρ m1 _ _ p1).run F0 σ H1 F1 (S.go g1) _ V tk (fun w H2 F2 d2 m2 p2 g2 r2 => ?_) (k.ex.go g1)
  refine ⟨v, w, rfl, k.nx _ H2 F2 _ m2 p2 (g1.trans g2) ?_⟩
  exact (((S.go g1).go g2).set (r1.up g2.grow _) hl).set r2 (by rw [List.length_set]; exact hl2)⟩⟩
/-! ### loops -/
theorem s_for (hi : SI X tg iter is ts) (hg : XG X tg g) (hb : SSs X body ub) (hp : PassesOwn (model X.prog X.w) X.A X.env X.xe := by exact passes_of rfl) (hc : X.calm = true := by rfl) (hs : ∀ x, foldedSetIterable iter X.env x = pure x := by intro _; rfl) : SS1 X (.For tg iter body [] pos) (.fo g is ts ub) := ⟨fun ρ m A p => ⟨fun F0 σ H F S E V tk k => by
  refine wS_of (ps_for hp hc pi_w pg_w pss_w hs) ?_
  refine (hi.go ρ m _ _ p).run F0 σ H F S _ V tk (fun J H1 F1 items GG m1 p1 g1 wd => ?_) k.ex
  obtain ⟨Iv, h0, hG, step, hd⟩ := p1
  refine ⟨fun i n σ' H' => n = items.length - i ∧ i ≤ items.length ∧ ∃ F' ρ' m', Iv i ρ' m' ∧ Go X.K m1 H1 F1 m' H' F' ∧ StR X.K F0 σ' H' F' ρ' m', ⟨items.length, by simp, Nat.zero_le _, F1, ρ, m1, h0, Go.refl g1.std, S.go g1⟩, ?_⟩
  rintro i n σ' H' ⟨rfl, hi, F', ρ', m', iv, g2, S'⟩
  by_cases hlt : i < items.length
  · refine .inr ⟨wd.goes i H' F' m' hlt g2.grow S'.std (hG i _ _ iv), fun σ2 H2 => ∃ F2 ρ2 m2, Iv (i + 1) ρ2 m2 ∧ Go X.K m1 H1 F1 m2 H2 F2 ∧ StR X.K F0 σ2 H2 F2 ρ2 m2, fun σ2 H2 q => ⟨items.length - (i + 1), by omega, rfl, hlt, q⟩, fun x H2 y => ?_⟩
    obtain ⟨F2, g3, r⟩ := wd.yields i H' F' m' x H2 items[i] (List.getElem?_eq_getElem hlt) g2.grow S'.std (hG i _ _ iv) y
    have st := step i items[i] ρ' m' (List.getElem?_eq_getElem hlt) iv
    cases eb : bindG g items[i] ρ' with
    | none => rw [eb] at st; exact st.elim
    | some ρ2 =>
      rw [eb] at st
      refine hg.run F0 σ' H2 F2 m' x _ _ _ eb (S'.go g3) r _ fun σ3 S3 _ _ => ?_
      refine (hb.go ρ2 m' _ st).run F0 σ3 H2 F2 S3 _ V tk ⟨?_, ?_, ?_, ?_, (k.ex.go ((g1.trans g2).trans g3))⟩
      · exact fun σ4 H4 F4 ρ4 m4 p g4 S4 => ⟨F4, ρ4, m4, p, (g2.trans g3).trans g4, S4⟩
      · exact fun v H4 F4 d m4 p g4 r4 => k.rt v H4 F4 d m4 p (((g1.trans g2).trans g3).trans g4) r4
      · exact fun σ4 H4 F4 ρ4 m4 p g4 S4 => k.nx σ4 H4 F4 ρ4 m4 p (((g1.trans g2).trans g3).trans g4) S4
      · exact fun σ4 H4 F4 ρ4 m4 p g4 S4 => ⟨F4, ρ4, m4, p, (g2.trans g3).trans g4, S4⟩
  · have e1 : i = items.length := by omega
    subst e1
    exact .inl ⟨wd.stops H' F' m' g2.grow S'.std (hG _ _ _ iv), k.nx σ' H' F' ρ' m' (hd ρ' m' iv) (g1.trans g2) S'⟩⟩⟩
theorem s_while (hc : ST X c tc) (hb : SSs X body ub) (hp : PassesOwn (model X.prog X.w) X.A X.env X.xe := by exact passes_of rfl) : SS1 X (.While c body [] pos) (.whil tc ub) := ⟨fun ρ m A p => ⟨fun F0 σ H F S E V tk k => by
  obtain ⟨Iv, n0, h0, step⟩ := p
  refine wS_of (ps_while hp pt_w pss_w) ?_
  refine ⟨fun n σ' H' => ∃ F' ρ' m', Iv n ρ' m' ∧ Go X.K m H F m' H' F' ∧ StR X.K F0 σ' H' F' ρ' m', ⟨n0, F, ρ, m, h0, Go.refl S.std, S⟩, ?_⟩
  rintro n σ' H' ⟨F', ρ', m', iv, g, S'⟩
  refine (hc.go ρ' m' _ (fun k m1 => (k = true → WB ub ρ' m1 _) ∧ (k = false → A.nx ρ' m1)) _ (step n ρ' m' iv) (fun d m1 z => z)).run F0 σ' H' F' S' _ V tk (fun kk H1 F1 m1 p1 g1 => ?_) (k.ex.go g)
  cases kk with
  | true =>
    refine iteT ⟨fun σ2 H2 => ∃ n', n' < n ∧ ∃ F2 ρ2 m2, Iv n' ρ2 m2 ∧ Go X.K m H F m2 H2 F2 ∧ StR X.K F0 σ2 H2 F2 ρ2 m2, fun σ2 H2 ⟨n', hn, q⟩ => ⟨n', hn, q⟩, ?_⟩
    refine (hb.go ρ' m1 _ (p1.1 rfl)).run F0 σ' H1 F1 (S'.go g1) _ V tk ⟨?_, ?_, ?_, ?_, k.ex.go (g.trans g1)⟩
    · rintro σ4 H4 F4 ρ4 m4 ⟨n', hn, p⟩ g4 S4
      exact ⟨n', hn, F4, ρ4, m4, p, (g.trans g1).trans g4, S4⟩
    · exact fun v H4 F4 d m4 p g4 r4 => k.rt v H4 F4 d m4 p ((g.trans g1).trans g4) r4
    · exact fun σ4 H4 F4 ρ4 m4 p g4 S4 => k.nx σ4 H4 F4 ρ4 m4 p ((g.trans g1).trans g4) S4
    · rintro σ4 H4 F4 ρ4 m4 ⟨n', hn, p⟩ g4 S4
      exact ⟨n', hn, F4, ρ4, m4, p, (g.trans g1).trans g4, S4⟩
  | false => exact iteF (k.nx σ' H1 F1 ρ' m1 (p1.2 rfl) (g.trans g1) (S'.go g1))⟩⟩

/-! ### comprehensions -/
def bG (X : Cx) (scope : Scope) (tg : Expr) : TG := fun v σ H Q => ∀ (s0 : Shared) (H0 : Hp) (C : Addr) (cl : List (Str × Addr)) (fp : List Addr), wG (X.blk s0 H0 scope (compEnvC scope cl C X.env) fp) tg v σ H Q
def bE (X : Cx) (scope : Scope) (e : Expr) : TE := fun σ H Q => ∀ (s0 : Shared) (H0 : Hp) (C : Addr) (cl : List (Str × Addr)) (fp : List Addr), wE (X.blk s0 H0 scope (compEnvC scope cl C X.env) fp) e σ H Q
def bT (X : Cx) (scope : Scope) (e : Expr) : TT := fun σ H Q => ∀ (s0 : Shared) (H0 : Hp) (C : Addr) (cl : List (Str × Addr)) (fp : List Addr), wT (X.blk s0 H0 scope (compEnvC scope cl C X.env) fp) e σ H Q
def bTs (X : Cx) (scope : Scope) : List Expr → TT
  | [] => tYes
  | [c] => bT X scope c
  | _ => fun _ _ _ => False
theorem bG_pg {scope : Scope} (s0 : Shared) (H0 : Hp) (C : Addr) (cl : List (Str × Addr)) (fp : List Addr) : PG (X.blk s0 H0 scope (compEnvC scope cl C X.env) fp) tg (bG X scope tg) := ⟨fun pins s σ H v u Q I r h => h s0 H0 C cl fp pins s u I r⟩
theorem bE_pe {scope : Scope} (s0 : Shared) (H0 : Hp) (C : Addr) (cl : List (Str × Addr)) (fp : List Addr) : PE (X.blk s0 H0 scope (compEnvC scope cl C X.env) fp) e (bE X scope e) := ⟨fun pins s σ H Q I h => h s0 H0 C cl fp pins s I⟩
theorem bT_pt {scope : Scope} (s0 : Shared) (H0 : Hp) (C : Addr) (cl : List (Str × Addr)) (fp : List Addr) : PT (X.blk s0 H0 scope (compEnvC scope cl C X.env) fp) e (bT X scope e) := ⟨fun pins s σ H Q I h => h s0 H0 C cl fp pins s I⟩
theorem bTs_pts {scope : Scope} (hi : ifs.length ≤ 1) (s0 : Shared) (H0 : Hp) (C : Addr) (cl : List (Str × Addr)) (fp : List Addr) : PTs (X.blk s0 H0 scope (compEnvC scope cl C X.env) fp) ifs (bTs X scope ifs) := by
  match ifs, hi with
  | [], _ => exact pts_nil
  | [c], _ => exact pts_one (bT_pt s0 H0 C cl fp)
/-- the test of a comprehension -/
inductive SL (X : Cx) (scope : Scope) : List Expr → Ts → Prop where
  | no : SL X scope [] .nil
  | one {c : Expr} {t : T} (h : ∀ s H C cl fp, ST (X.blk s H scope (compEnvC scope cl C X.env) fp) c t) : SL X scope [c] (.cons t .nil)
theorem SL.le {scope : Scope} (h : SL X scope ifs tifs) : ifs.length ≤ 1 := by
  cases h with
  | no => exact Nat.zero_le _
  | one h => exact Nat.le_refl _
theorem lc_in {scope : Scope} {own : List (Str × Nat)} {F0 F1 H1 : Hp} {J : L2.It} {items : List D} {GG : MS → Prop} {m1 : MS} {ρ : Env1} {σ : L2.St} (wd : WalkD X.K F1 J items GG) (hv : own.map (·.2) = g.vars) (hg : ∀ s H C cl fp, XG (X.blk s H scope (compEnvC scope cl C X.env) fp) tg g) (hf : SL X scope ifs tifs) (he : ∀ s H C cl fp, SE (X.blk s H scope (compEnvC scope cl C X.env) fp) elt te)
    (Iv : Nat → List D → MS → Prop) (h0 : Iv 0 [] m1) (hG : ∀ i acc mi, i ≤ items.length → Iv i acc mi → GG mi) (hz : items.length ≤ 100000)
    (step : ∀ i d acc m', items[i]? = some d → Iv i acc m' → match bindG g d (wipeR ρ g.vars) with
        | some ρ' => Wl tifs ρ' m' (fun b m'' => (b = true → W te ρ' m'' (fun d' m3 => Iv (i + 1) (acc ++ [d']) m3) EX0) ∧ (b = false → Iv (i + 1) acc m''))
        | none => False)
    (S1 : StR X.K F0 σ H1 F1 ρ m1) {Q : VK} (q : ∀ L vs H' F' acc m', Iv items.length acc m' → Go X.K m1 H1 F1 m' H' F' → H1 L = none → m' L = none → F' L = none → H' L = some (.lst vs) → Rps X.K F' vs acc → Q (.ref L) H') :
    ∀ L, H1 L = none → ∃ W : Nat → Nat → Hp → Prop, (∃ m, W 0 m (upd H1 L (.lst []))) ∧ ∀ i m H, W i m H →
  (J.stop i H ∧ Q (.ref L) H) ∨ (J.go i H ∧ ∃ Nx : Hp → Prop, (∀ H', Nx H' → ∃ m', m' < m ∧ W (i + 1) m' H') ∧ ∀ x H', J.yld i H x H' → bG X scope tg x (wipe σ (own.map (·.2))) H' fun σ2 H2 => wipe σ2 (own.map (·.2)) = wipe σ (own.map (·.2)) ∧ bTs X scope ifs σ2 H2 fun b H3 =>
    if b = true then bE X scope elt σ2 H3 fun y H4 => ∃ acc, H4 L = some (.lst acc) ∧ acc.length < sizeLine ∧ Nx (upd H4 L (.lst (acc ++ [y]))) else Nx H3) := by
  intro L hL
  refine ⟨fun i n H' => n = items.length - i ∧ i ≤ items.length ∧ ∃ F' vs acc mi, Iv i acc mi ∧ acc.length ≤ i ∧ Go X.K m1 H1 F1 mi H' F' ∧ F' L = none ∧ mi L = none ∧ H' L = some (.lst vs) ∧ Rps X.K F' vs acc, ⟨items.length, by simp, Nat.zero_le _, F1, [], [], m1, h0, Nat.le_refl _, Go.junk S1.std hL, S1.std.freeF hL, S1.std.free hL, upd_same, .nil⟩, ?_⟩
  rintro i n H' ⟨rfl, hile, F', vs, acc, mi, iv, hal, g2, hFL, hmL, hHL, hacc⟩
  by_cases hlt : i < items.length
  · refine .inr ⟨wd.goes i H' F' mi hlt g2.grow g2.std (hG i acc mi hile iv), fun H2 => ∃ F2 vs2 acc2 m2, Iv (i + 1) acc2 m2 ∧ acc2.length ≤ i + 1 ∧ Go X.K m1 H1 F1 m2 H2 F2 ∧ F2 L = none ∧ m2 L = none ∧ H2 L = some (.lst vs2) ∧ Rps X.K F2 vs2 acc2, fun H2 q2 => ⟨items.length - (i + 1), by omega, rfl, hlt, q2⟩, fun x H2 y => ?_⟩
    obtain ⟨F2, g3, r⟩ := wd.yields i H' F' mi x H2 items[i] (List.getElem?_eq_getElem hlt) g2.grow g2.std (hG i acc mi hile iv) y
    have st := step i items[i] acc mi (List.getElem?_eq_getElem hlt) iv
    cases eb : bindG g items[i] (wipeR ρ g.vars) with
    | none => rw [eb] at st; exact st.elim
    | some ρ2 =>
    rw [eb] at st
    -- L through a step
    have keep : ∀ {ma mb : MS} {Ha Fa Hb Fb : Hp} {us : List V}, Go X.K ma Ha Fa mb Hb Fb → Fa L = none → ma L = none → Ha L = some (.lst us) → Fb L = none ∧ mb L = none ∧ Hb L = some (.lst us) := fun {ma mb Ha Fa Hb Fb us} g hf hm hh => by
      obtain ⟨e1, e2⟩ := of_fz (g.same L _ (fz_of hm hh))
      refine ⟨?_, e1, e2⟩
      cases e : Fb L with
      | none => rfl
      | some u =>
        rcases g.fresh L (by rw [e]; exact fun z => nomatch z) with z | z | z
        · exact absurd hf z
        · rw [hh] at z; cases z
        · exact absurd hm z
    obtain ⟨k1, k2, k3⟩ := keep g3 hFL hmL hHL
    have S2 : StR X.K F0 (wipe σ (own.map (·.2))) H2 F2 (wipeR ρ g.vars) mi := by
      rw [hv]; exact (S1.wipe _).go (g2.trans g3)
    intro s0 H0 C cl fp
    refine (hg s0 H0 C cl fp).run F0 _ H2 F2 mi x _ _ _ eb S2 r _ fun σ2 S3 l3 e3 => ⟨?_, ?_⟩
    · rw [hv]
      rw [hv] at l3 e3
      rw [wipe_eq (vs := g.vars) l3 e3]
      exact wipe_eq (wipe_length σ _) fun j hj => wipe_out hj
    -- the element
    have elem : ∀ {mc : MS} {H3 F3 : Hp}, W te ρ2 mc (fun d m' => Iv (i + 1) (acc ++ [d]) m') EX0 → Go X.K mi H2 F2 mc H3 F3 →
        bE X scope elt σ2 H3 fun y H4 => ∃ ac, H4 L = some (.lst ac) ∧ ac.length < sizeLine ∧ ∃ F2 vs2 acc2 m2, Iv (i + 1) acc2 m2 ∧ acc2.length ≤ i + 1 ∧ Go X.K m1 H1 F1 m2 (upd H4 L (.lst (ac ++ [y]))) F2 ∧ F2 L = none ∧ m2 L = none ∧ (upd H4 L (.lst (ac ++ [y]))) L = some (.lst vs2) ∧ Rps X.K F2 vs2 acc2 := fun {mc H3 F3} xe g4 s1 H01 C1 cl1 fp1 => by
      obtain ⟨c1, c2, c3⟩ := keep g4 k1 k2 k3
      refine ((he s1 H01 C1 cl1 fp1).go ρ2 mc _ EX0 xe).run F0 σ2 H3 F3 (S3.go g4) _ V0 takes0 (fun y H4 F4 dd m4 p4 g5 r5 => ?_) exk0
      obtain ⟨b1, b2, b3⟩ := keep g5 c1 c2 c3
      refine ⟨vs, b3, ?_, F4, vs ++ [y], acc ++ [dd], m4, p4, ?_, ?_, b1, b2, upd_same, ?_⟩
      · rw [hacc.length]
        exact Nat.lt_of_le_of_lt (show acc.length ≤ 100000 by omega) (by decide)
      · rw [List.length_append]; show acc.length + 1 ≤ i + 1; omega
      · exact (((g2.trans g3).trans g4).trans g5).patch hL b2 b1
      · exact (hacc.up (((g3.trans g4).trans g5).grow)).append (.one r5)
    cases hf with
    | no =>
      have st : ((true = true → W te ρ2 mi (fun d' m3 => Iv (i + 1) (acc ++ [d']) m3) EX0) ∧ (true = false → Iv (i + 1) acc mi)) := st
      simp only [bTs, tYes]
      rw [if_pos trivial]
      exact elem (st.1 rfl) (Go.refl S3.std)
    | @one cc tt hc =>
      show bT X scope cc σ2 H2 _
      intro s1 H01 C1 cl1 fp1
      refine ((hc s1 H01 C1 cl1 fp1).go ρ2 mi _ (fun b m'' => (b = true → W te ρ2 m'' (fun d' m3 => Iv (i + 1) (acc ++ [d']) m3) EX0) ∧ (b = false → Iv (i + 1) acc m'')) EX0 st (fun d m1 z => z)).run F0 σ2 H2 F2 S3 _ V0 takes0 (fun bb H3 F3 mc p4 g4 => ?_) exk0
      cases bb with
      | true => exact iteT (elem (p4.1 rfl) g4)
      | false =>
        obtain ⟨c1, c2, c3⟩ := keep g4 k1 k2 k3
        exact iteF ⟨F3, vs, acc, mc, p4.2 rfl, by omega, (g2.trans g3).trans g4, c1, c2, c3, hacc.up ((g3.trans g4).grow)⟩
  · have e1 : i = items.length := by omega
    subst e1
    exact .inl ⟨wd.stops H' F' mi g2.grow g2.std (hG _ _ _ (Nat.le_refl _) iv), q L vs H' F' acc mi iv g2 hL hmL hFL hHL hacc⟩
theorem newL_fin {K : PySem.W.Frag} {m0 : MS} {H0 F0 H' F' : Hp} {m' : MS} {L : Addr} {vs : List V} {acc : List D} {P : NX} {Q : VK} (n : NewL acc m' P) (q : ∀ v H' F' d m', P d m' → Go K m0 H0 F0 m' H' F' → Rp K F' v d → Q v H') (g : Go K m0 H0 F0 m' H' F') (h1 : H0 L = none) (h2 : m' L = none) (h3 : F' L = none) (h4 : H' L = some (.lst vs)) (h5 : Rps K F' vs acc) : Q (.ref L) H' := by
  rcases n with n | n
  · exact q (.ref L) H' (upd F' L (.lst vs)) _ m' n (g.adopt h1 h2 h3 h4) (.lst upd_same (h5.up fun a u e => by rw [upd_ne (ne_of_none e h3)]; exact e))
  · exact q (.ref L) H' F' _ _ (n L h2) (g.adoptC h1 h2 h3 h4 h5) (.raw _)
/-- a list comprehension -/
theorem lc_go {scope : Scope} {own : List (Str × Nat)} (hi : SI X tg iter is ts) (hv : own.map (·.2) = g.vars) (hg : ∀ s H C cl fp, XG (X.blk s H scope (compEnvC scope cl C X.env) fp) tg g) (hf : SL X scope ifs tifs) (he : ∀ s H C cl fp, SE (X.blk s H scope (compEnvC scope cl C X.env) fp) elt te)
    {ρ : Env1} {m : MS} {P : NX} {Z : EX} (p : W (.lc g is ts tifs te) ρ m P Z) {F0 : Hp} {σ : L2.St} {H F : Hp} (S : StR X.K F0 σ H F ρ m) {Q : VK} {V : WX} (tk : Takes X V) (q : ∀ v H' F' d m', P d m' → Go X.K m H F m' H' F' → Rp X.K F' v d → Q v H') (kx : ExK X F0 m H F Z V) :
    tLc (wI X tg iter) (bG X scope tg) (bTs X scope ifs) (bE X scope elt) (own.map (·.2)) σ H Q := by
  refine (hi.go ρ m _ Z p).run F0 σ H F S _ V tk (fun J H1 F1 items GG m1 p1 g1 wd => ?_) kx
  obtain ⟨hz, Iv, h0, hG, step, hd⟩ := p1
  exact lc_in wd hv hg hf he Iv h0 hG hz step (S.go g1) fun L vs H' F' acc m' iv g a1 a2 a3 a4 a5 => newL_fin (hd acc m' iv) q (g1.trans g) (by
    cases e : H L with
    | none => rfl
    | some u => exact absurd a1 (g1.kept L (by rw [e]; exact fun z => nomatch z))) a2 a3 a4 a5
theorem se_lc {scope : Scope} {own : List (Str × Nat)} (hN : X.N.Nodup) (hi : SI X tg iter is ts) (ok : BlkOk X.N X.env.scope scope own) (hv : own.map (·.2) = g.vars) (hg : ∀ s H C cl fp, XG (X.blk s H scope (compEnvC scope cl C X.env) fp) tg g) (hf : SL X scope ifs tifs) (he : ∀ s H C cl fp, SE (X.blk s H scope (compEnvC scope cl C X.env) fp) elt te)
    (hc : X.calm = true := by rfl) (hs : ∀ x, foldedSetIterable iter X.env x = pure x := by intro _; rfl) : SE X (.ListComp elt [⟨tg, iter, ifs, 0⟩] scope pos) (.lc g is ts tifs te) := ⟨fun ρ m P Z p => ⟨fun F0 σ H F S Q V tk q kx =>
  wE_of (pe_lc hc hN pi_w ok bG_pg (bTs_pts hf.le) bE_pe hs) (lc_go hi hv hg hf he p S tk q kx)⟩⟩
/-- name = [..], the name a local, on one line -/
theorem s_setLc {scope : Scope} {own : List (Str × Nat)} {i : Nat} {y : Str} {py spos : Pos} (hN : X.N.Nodup) (hi : SI X tg iter is ts) (ok : BlkOk X.N X.env.scope scope own) (hv : own.map (·.2) = g.vars) (hg : ∀ s H C cl fp, XG (X.blk s H scope (compEnvC scope cl C X.env) fp) tg g) (hf : SL X scope ifs tifs) (he : ∀ s H C cl fp, SE (X.blk s H scope (compEnvC scope cl C X.env) fp) elt te)
    (hy : X.N[i]? = some y := by rfl) (hyl : X.env.scope.names.lookup y = some .local := by rfl) (hsw : swapsWith (.ListComp elt [⟨tg, iter, ifs, 0⟩] scope pos) (some (.Name y py)) spos.line X.env = pure true := by exact sw_true rfl rfl rfl (by decide +kernel))
    (hc : X.calm = true := by rfl) (hs : ∀ x, foldedSetIterable iter X.env x = pure x := by intro _; rfl) : SS1 X (.Assign [.Name y py] (.ListComp elt [⟨tg, iter, ifs, 0⟩] scope pos) spos) (.set i (.lc g is ts tifs te)) := ⟨fun ρ m A p => ⟨fun F0 σ H F S E V tk k pins s I => by
  have hl := nx_of_inv I hy
  refine wS_of (ps_setLc hc hN hy hyl hsw pi_w ok bG_pg (bTs_pts hf.le) bE_pe hs) ?_ pins s I
  exact lc_go hi hv hg hf he p S tk (fun v H1 F1 d m1 p1 g r => k.nx _ H1 F1 _ m1 p1 g ((S.go g).set r hl)) k.ex⟩⟩
end
end Nu

namespace Nu
open PySem PySem.Spec L2
open PyProof.Rows hiding St
/-! ### a list or a tuple -/
def SqA (K : PySem.W.Frag) : Bool → Hp → Addr → List V → Prop
  | true => SqT K
  | false => SqL K
def ItA : Bool → Heap → Addr → Addr → Nat → Prop
  | true => fun h it l i => h.IsTupleIter it l i
  | false => fun h it l i => h.IsListIter it l i
def CtA : Bool → Heap → Addr → Array Value → Prop
  | true => fun h l its => h.IsTuple l its
  | false => fun h l its => h.IsList l its
def itO : Bool → Addr → Obj
  | true, l => { cls := .type "tuple_iterator", data := .fields #[.ref l, .int 0 0] }
  | false, l => { cls := .type "list_iterator", data := .fields #[.ref l, .int 0 0] }
section
variable {X : Cx} {pins : List (Addr × Obj)} {σ : L2.St} {H : Hp} {s : Shared} {a it l : Addr} {xs ys : List V} {tp : Bool} {h h' : Heap} {i : Nat} {its : Array Value}
theorem seqA_at (I : Inv X pins σ H s) (q : SqA X.K tp H a xs) : ∃ its : List Value, Vals xs its ∧ CtA tp s.heap a its.toArray := by
  cases tp with
  | true =>
    obtain ⟨its, r, p, _⟩ := I.tuple q
    exact ⟨its, r, p⟩
  | false =>
    obtain ⟨its, r, p, _⟩ := I.list q
    exact ⟨its, r, p.isList⟩
theorem seqA_inj (I : Inv X pins σ H s) (q : SqA X.K tp H a xs) (q' : SqA X.K tp H a ys) : xs = ys := by
  cases tp with
  | true => exact I.tuple_inj q q'
  | false => exact I.list_inj q q'
theorem ctA_lt (q : CtA tp h l its) : l < h.objs.size := by
  cases tp with
  | true => obtain ⟨o, e, _⟩ := (show h.IsTuple l its from q); exact Heap.lt_size e
  | false => obtain ⟨o, e, _⟩ := (show h.IsList l its from q); exact Heap.lt_size e
theorem ctA_at (q : CtA tp h l its) (k : ∀ o, h.get? l = some o → h'.get? l = some o) : CtA tp h' l its := by
  cases tp with
  | true => exact (show h.IsTuple l its from q).at k
  | false => exact (show h.IsList l its from q).at k
theorem itA_at (q : ItA tp h it l i) (k : ∀ o, h.get? it = some o → h'.get? it = some o) : ItA tp h' it l i := by
  cases tp with
  | true => exact (show h.IsTupleIter it l i from q).at k
  | false => exact (show h.IsListIter it l i from q).at k
theorem itA_obj (q : ItA tp h it l i) : ∃ o, h.get? it = some o ∧ ∀ v, o.data ≠ .cell v := by
  cases tp with
  | true => obtain ⟨o, e, _, d⟩ := (show h.IsTupleIter it l i from q); exact ⟨o, e, fun v z => by rw [d] at z; cases z⟩
  | false => obtain ⟨o, e, _, d⟩ := (show h.IsListIter it l i from q); exact ⟨o, e, fun v z => by rw [d] at z; cases z⟩
theorem itA_new (q : h.get? it = some (itO tp l)) : ItA tp h it l 0 := by
  cases tp with
  | true => exact ⟨_, q, rfl, rfl⟩
  | false => exact ⟨_, q, rfl, rfl⟩
theorem drawsA {prog : Program} {w : World} {A : Around} (hh : A.handled = none) (tp : Bool) (it l : Addr) (hne : l ≠ it) (items : Array Value) :
    Draws prog w A it [it, l] items.size (fun i v => items[i]? = some v) (fun i h => ItA tp h it l i ∧ CtA tp h l items) := by
  cases tp with
  | true => exact Draws.tuple hh it l hne items
  | false => exact Draws.list hh it l hne items
theorem beginsA (tp : Bool) (l : Addr) (items : Array Value) : Begins (.ref l) (itO tp l) fun h => CtA tp h l items := by
  cases tp with
  | true => exact begins_tuple l items
  | false => exact begins_list l items
end
/-! ### zip of two, of three, enumerate -/
def J2 (K : PySem.W.Frag) (t1 t2 : Bool) (a b : Addr) : It :=
  ⟨fun i H => ∃ (xs ys : List V), SqA K t1 H a xs ∧ SqA K t2 H b ys ∧ i < min xs.length ys.length,
    fun i H v H' => ∃ T x y, v = .ref T ∧ H T = none ∧ H' = upd H T (.tup [x, y]) ∧ (∀ xs, SqA K t1 H a xs → xs[i]? = some x) ∧ ∀ ys, SqA K t2 H b ys → ys[i]? = some y,
    fun i H => ∃ xs ys : List V, SqA K t1 H a xs ∧ SqA K t2 H b ys ∧ i = min xs.length ys.length⟩
def J3 (K : PySem.W.Frag) (t1 t2 t3 : Bool) (a b c : Addr) : It :=
  ⟨fun i H => ∃ (xs ys zs : List V), SqA K t1 H a xs ∧ SqA K t2 H b ys ∧ SqA K t3 H c zs ∧ i < min (min xs.length ys.length) zs.length,
    fun i H v H' => ∃ T x y z, v = .ref T ∧ H T = none ∧ H' = upd H T (.tup [x, y, z]) ∧ (∀ xs, SqA K t1 H a xs → xs[i]? = some x) ∧ (∀ ys, SqA K t2 H b ys → ys[i]? = some y) ∧ ∀ zs, SqA K t3 H c zs → zs[i]? = some z,
    fun i H => ∃ xs ys zs : List V, SqA K t1 H a xs ∧ SqA K t2 H b ys ∧ SqA K t3 H c zs ∧ i = min (min xs.length ys.length) zs.length⟩
def JE (K : PySem.W.Frag) (t1 : Bool) (a : Addr) : It :=
  ⟨fun i H => ∃ (xs : List V), SqA K t1 H a xs ∧ i < xs.length,
    fun i H v H' => ∃ T x, v = .ref T ∧ H T = none ∧ H' = upd H T (.tup [.int (i : Nat), x]) ∧ ∀ xs, SqA K t1 H a xs → xs[i]? = some x,
    fun i H => ∃ xs : List V, SqA K t1 H a xs ∧ i = xs.length⟩
theorem tup_ok {P : Program} {w : World} {H : Hp} {h : Heap} {T : Addr} {xs : List V} {us : List Value} {its : Array Value} (e : its = us.toArray) (hT : h.IsTuple T its) (r : Vals xs us) (hl : xs.length ≤ 100) : ObjOk P w H h T (.tup xs) := by
  subst e
  exact ⟨Nat.le_trans hl (by decide), us, r, hT⟩
theorem turn_z2 {P : Program} {w : World} {K : PySem.W.Frag} {elts : List Expr} {kk : Nat} {tpos : Pos} {t1 t2 : Bool} {a b N : Addr} (la : a < N) (lb : b < N) :
    Turn P w K (.Tuple elts kk tpos) (J2 K t1 t2 a b) [N + 4, N + 2, N + 3, N, N + 1] (N + 4) (fun i h => IsZip h (N + 4) (N + 2) (N + 3) .none ∧ IsTupOf2 h (N + 2) (.ref N) (.ref (N + 1)) ∧ (∃ x y, IsTupOf2 h (N + 3) x y) ∧ ItA t1 h N a i ∧ ItA t2 h (N + 1) b i) where
  mem := by simp
  obj := fun i h st c hc => by
    obtain ⟨hz, hTI, ⟨x, y, hTO⟩, h1, h2⟩ := st
    have e' : c = N + 4 ∨ c = N + 2 ∨ c = N + 3 ∨ c = N ∨ c = N + 1 := by simpa using hc
    rcases e' with q | q | q | q | q
    · rw [q]; exact ⟨_, hz, fun v q => nomatch q⟩
    · rw [q]; exact ⟨_, hTI, fun v q => nomatch q⟩
    · rw [q]; exact ⟨_, hTO, fun v q => nomatch q⟩
    · rw [q]; exact itA_obj h1
    · rw [q]; exact itA_obj h2
  keep := fun i h h' st k => by
    obtain ⟨hz, hTI, ⟨x, y, hTO⟩, h1, h2⟩ := st
    exact ⟨k _ (by simp) _ hz, k _ (by simp) _ hTI, ⟨x, y, k _ (by simp) _ hTO⟩, itA_at h1 fun o q => k _ (by simp) o q, itA_at h2 fun o q => k _ (by simp) o q⟩
  item := by
    intro X hP hw hK hc i pins s σ H E I hf st hg
    subst hP hw hK
    obtain ⟨hz, hTI, hTO, h1, h2⟩ := st
    obtain ⟨xs, ys, hqx, hqy, hi⟩ := hg
    obtain ⟨its, rv, p⟩ := seqA_at I hqx
    obtain ⟨its2, rv2, p2⟩ := seqA_at I hqy
    have l1 := rv.length
    have l2 := rv2.length
    have G := GoesN.zip2 (prog := X.prog) (w := X.w) (A := X.A) (elts := elts) (x1 := kk) (pos := tpos) (zip_sep2 (N := N) (fp1 := [a]) (fp2 := [b]) (by simpa using la) (by simpa using lb))
      (drawsA (A := X.A.in1) (show X.A.in1.handled = none from I.ok.hd hc) t1 N a (Nat.ne_of_lt la) its.toArray) (drawsA (A := X.A.in1) (show X.A.in1.handled = none from I.ok.hd hc) t2 (N + 1) b (Nat.ne_of_lt (Nat.lt_succ_of_lt lb)) its2.toArray)
    refine wpAny_mono (G.goes i s (fun v s2 => ∃ x H', Inv X pins σ H' s2 ∧ RelV x v ∧ (J2 X.K t1 t2 a b).yld i H x H' ∧ (IsZip s2.heap (N + 4) (N + 2) (N + 3) .none ∧ IsTupOf2 s2.heap (N + 2) (.ref N) (.ref (N + 1)) ∧ (∃ x y, IsTupOf2 s2.heap (N + 3) x y) ∧ ItA t1 s2.heap N a (i + 1) ∧ ItA t2 s2.heap (N + 1) b (i + 1)) ∧ ∀ c ∈ [N + 4, N + 2, N + 3, N, N + 1], H' c = none) E (by simp only [List.size_toArray]; omega) ⟨hz, hTI, hTO, ⟨h1, p⟩, ⟨h2, p2⟩⟩ fun v h' tk hY hst hk htk => ?_) (fun r s1 hq => ?_) fun _ _ z => z
    · obtain ⟨T, x, y, rfl, hTn, hx, hy, hT⟩ := hY
      have hx' : its[i]? = some x := by simpa using hx
      have hy' : its2[i]? = some y := by simpa using hy
      have hix : i < xs.length := by omega
      have hiy : i < ys.length := by omega
      obtain ⟨u, hu, ru⟩ := rv.get (List.getElem?_eq_getElem hix)
      obtain ⟨u2, hu2, ru2⟩ := rv2.get (List.getElem?_eq_getElem hiy)
      rw [hx'] at hu; cases hu
      rw [hy'] at hu2; cases hu2
      have new : ObjOk X.prog X.w (upd H T (.tup [xs[i], ys[i]])) h' T (.tup [xs[i], ys[i]]) := tup_ok rfl hT (us := [x, y]) (.cons ru (.cons ru2 .nil)) (by simp)
      have I1 : Inv X pins σ (upd H T (.tup [xs[i], ys[i]])) { s with heap := h', toks := tk } := I.turnedNew (t' := tk) (ch := [N + 4, N + 2, N + 3, N, N + 1]) (fun c o hb q => hk c o (fun hm => hb (by
        have e' : c = N + 4 ∨ c = N + 3 ∨ c = N ∨ c = N + 1 := by simpa using hm
        rcases e' with z | z | z | z <;> simp [z])) q) hf hTn new
      obtain ⟨z1, z2, z3, z4, z5⟩ := hst
      refine ⟨.ref T, _, I1, rfl, ⟨T, _, _, rfl, I.hok.fresh hTn, rfl, fun l hl => ?_, fun l hl => ?_⟩, ⟨z1, z2, z3, z4.1, z5.1⟩, fun c hcm => ?_⟩
      · rw [seqA_inj I hl hqx]; exact List.getElem?_eq_getElem hix
      · rw [seqA_inj I hl hqy]; exact List.getElem?_eq_getElem hiy
      · have hlt : c < s.heap.objs.size := by
          have e' : c = N + 4 ∨ c = N + 2 ∨ c = N + 3 ∨ c = N ∨ c = N + 1 := by simpa using hcm
          obtain ⟨_, _, hTO⟩ := hTO
          rcases e' with q | q | q | q | q
          · rw [q]; exact Heap.lt_size hz
          · rw [q]; exact Heap.lt_size hTI
          · rw [q]; exact Heap.lt_size hTO
          · rw [q]; obtain ⟨_, e1, _⟩ := itA_obj h1; exact Heap.lt_size e1
          · rw [q]; obtain ⟨_, e2, _⟩ := itA_obj h2; exact Heap.lt_size e2
        rw [upd_ne (Nat.ne_of_lt (Nat.lt_of_lt_of_le hlt hTn))]
        exact (hf c hcm).1
    · obtain ⟨v, e, hq⟩ := hq
      exact ⟨v, e, hq⟩
  done := by
    intro X hP hw hK hc i pins s σ H E I hf st hg
    subst hP hw hK
    obtain ⟨hz, hTI, hTO, h1, h2⟩ := st
    obtain ⟨xs, ys, hqx, hqy, rfl⟩ := hg
    obtain ⟨its, rv, p⟩ := seqA_at I hqx
    obtain ⟨its2, rv2, p2⟩ := seqA_at I hqy
    have l1 := rv.length
    have l2 := rv2.length
    have G := GoesN.zip2 (prog := X.prog) (w := X.w) (A := X.A) (elts := elts) (x1 := kk) (pos := tpos) (zip_sep2 (N := N) (fp1 := [a]) (fp2 := [b]) (by simpa using la) (by simpa using lb))
      (drawsA (A := X.A.in1) (show X.A.in1.handled = none from I.ok.hd hc) t1 N a (Nat.ne_of_lt la) its.toArray) (drawsA (A := X.A.in1) (show X.A.in1.handled = none from I.ok.hd hc) t2 (N + 1) b (Nat.ne_of_lt (Nat.lt_succ_of_lt lb)) its2.toArray)
    refine G.stops s _ E ?_ fun h' tk hk htk => I.turnedL (t' := tk) (ch := [N + 4, N + 2, N + 3, N, N + 1]) (fun c o hb q => hk c o (fun hm => hb (by
        have e' : c = N + 4 ∨ c = N + 3 ∨ c = N ∨ c = N + 1 := by simpa using hm
        rcases e' with z | z | z | z <;> simp [z])) q) hf
    simp only [List.size_toArray]
    rw [← l1, ← l2]
    exact ⟨hz, hTI, hTO, ⟨h1, p⟩, ⟨h2, p2⟩⟩
  self := fun A i s Q E st h => wpAny_pyIter_zip st.1 h
theorem turn_z3 {P : Program} {w : World} {K : PySem.W.Frag} {elts : List Expr} {kk : Nat} {tpos : Pos} {t1 t2 t3 : Bool} {a b d N : Addr} (la : a < N) (lb : b < N) (ld : d < N) :
    Turn P w K (.Tuple elts kk tpos) (J3 K t1 t2 t3 a b d) [N + 5, N + 3, N + 4, N, N + 1, N + 2] (N + 5) (fun i h => IsZip h (N + 5) (N + 3) (N + 4) .none ∧ IsTupOf3 h (N + 3) (.ref N) (.ref (N + 1)) (.ref (N + 2)) ∧ (∃ x y z, IsTupOf3 h (N + 4) x y z) ∧ ItA t1 h N a i ∧ ItA t2 h (N + 1) b i ∧ ItA t3 h (N + 2) d i) where
  mem := by simp
  obj := fun i h st c hc => by
    obtain ⟨hz, hTI, ⟨x, y, z, hTO⟩, h1, h2, h3⟩ := st
    have e' : c = N + 5 ∨ c = N + 3 ∨ c = N + 4 ∨ c = N ∨ c = N + 1 ∨ c = N + 2 := by simpa using hc
    rcases e' with q | q | q | q | q | q
    · rw [q]; exact ⟨_, hz, fun v q => nomatch q⟩
    · rw [q]; exact ⟨_, hTI, fun v q => nomatch q⟩
    · rw [q]; exact ⟨_, hTO, fun v q => nomatch q⟩
    · rw [q]; exact itA_obj h1
    · rw [q]; exact itA_obj h2
    · rw [q]; exact itA_obj h3
  keep := fun i h h' st k => by
    obtain ⟨hz, hTI, ⟨x, y, z, hTO⟩, h1, h2, h3⟩ := st
    exact ⟨k _ (by simp) _ hz, k _ (by simp) _ hTI, ⟨x, y, z, k _ (by simp) _ hTO⟩, itA_at h1 fun o q => k _ (by simp) o q, itA_at h2 fun o q => k _ (by simp) o q, itA_at h3 fun o q => k _ (by simp) o q⟩
  item := by
    intro X hP hw hK hc i pins s σ H E I hf st hg
    subst hP hw hK
    obtain ⟨hz, hTI, hTO, h1, h2, h3⟩ := st
    obtain ⟨xs, ys, zs, hqx, hqy, hqz, hi⟩ := hg
    obtain ⟨its, rv, p⟩ := seqA_at I hqx
    obtain ⟨its2, rv2, p2⟩ := seqA_at I hqy
    obtain ⟨its3, rv3, p3⟩ := seqA_at I hqz
    have l1 := rv.length
    have l2 := rv2.length
    have l3 := rv3.length
    have G := GoesN.zip3 (prog := X.prog) (w := X.w) (A := X.A) (elts := elts) (x1 := kk) (pos := tpos) (zip_sep3 (N := N) (fp1 := [a]) (fp2 := [b]) (fp3 := [d]) (by simpa using la) (by simpa using lb) (by simpa using ld))
      (drawsA (A := X.A.in1) (show X.A.in1.handled = none from I.ok.hd hc) t1 N a (Nat.ne_of_lt la) its.toArray) (drawsA (A := X.A.in1) (show X.A.in1.handled = none from I.ok.hd hc) t2 (N + 1) b (Nat.ne_of_lt (Nat.lt_succ_of_lt lb)) its2.toArray) (drawsA (A := X.A.in1) (show X.A.in1.handled = none from I.ok.hd hc) t3 (N + 2) d (Nat.ne_of_lt (Nat.lt_succ_of_lt (Nat.lt_succ_of_lt ld))) its3.toArray)
    refine wpAny_mono (G.goes i s (fun v s2 => ∃ x H', Inv X pins σ H' s2 ∧ RelV x v ∧ (J3 X.K t1 t2 t3 a b d).yld i H x H' ∧ (IsZip s2.heap (N + 5) (N + 3) (N + 4) .none ∧ IsTupOf3 s2.heap (N + 3) (.ref N) (.ref (N + 1)) (.ref (N + 2)) ∧ (∃ x y z, IsTupOf3 s2.heap (N + 4) x y z) ∧ ItA t1 s2.heap N a (i + 1) ∧ ItA t2 s2.heap (N + 1) b (i + 1) ∧ ItA t3 s2.heap (N + 2) d (i + 1)) ∧ ∀ c ∈ [N + 5, N + 3, N + 4, N, N + 1, N + 2], H' c = none) E (by simp only [List.size_toArray]; omega) ⟨hz, hTI, hTO, ⟨h1, p⟩, ⟨h2, p2⟩, ⟨h3, p3⟩⟩ fun v h' tk hY hst hk htk => ?_) (fun r s1 hq => ?_) fun _ _ z => z
    · obtain ⟨T, x, y, z, rfl, hTn, hx, hy, hz', hT⟩ := hY
      have hx' : its[i]? = some x := by simpa using hx
      have hy' : its2[i]? = some y := by simpa using hy
      have hz'' : its3[i]? = some z := by simpa using hz'
      have hix : i < xs.length := by omega
      have hiy : i < ys.length := by omega
      have hiz : i < zs.length := by omega
      obtain ⟨u, hu, ru⟩ := rv.get (List.getElem?_eq_getElem hix)
      obtain ⟨u2, hu2, ru2⟩ := rv2.get (List.getElem?_eq_getElem hiy)
      obtain ⟨u3, hu3, ru3⟩ := rv3.get (List.getElem?_eq_getElem hiz)
      rw [hx'] at hu; cases hu
      rw [hy'] at hu2; cases hu2
      rw [hz''] at hu3; cases hu3
      have new : ObjOk X.prog X.w (upd H T (.tup [xs[i], ys[i], zs[i]])) h' T (.tup [xs[i], ys[i], zs[i]]) := tup_ok rfl hT (us := [x, y, z]) (.cons ru (.cons ru2 (.cons ru3 .nil))) (by simp)
      have I1 : Inv X pins σ (upd H T (.tup [xs[i], ys[i], zs[i]])) { s with heap := h', toks := tk } := I.turnedNew (t' := tk) (ch := [N + 5, N + 3, N + 4, N, N + 1, N + 2]) (fun c o hb q => hk c o (fun hm => hb (by
        have e' : c = N + 5 ∨ c = N + 4 ∨ c = N ∨ c = N + 1 ∨ c = N + 2 := by simpa using hm
        rcases e' with z | z | z | z | z <;> simp [z])) q) hf hTn new
      obtain ⟨z1, z2, z3, z4, z5, z6⟩ := hst
      refine ⟨.ref T, _, I1, rfl, ⟨T, _, _, _, rfl, I.hok.fresh hTn, rfl, fun l hl => ?_, fun l hl => ?_, fun l hl => ?_⟩, ⟨z1, z2, z3, z4.1, z5.1, z6.1⟩, fun c hcm => ?_⟩
      · rw [seqA_inj I hl hqx]; exact List.getElem?_eq_getElem hix
      · rw [seqA_inj I hl hqy]; exact List.getElem?_eq_getElem hiy
      · rw [seqA_inj I hl hqz]; exact List.getElem?_eq_getElem hiz
      · have hlt : c < s.heap.objs.size := by
          have e' : c = N + 5 ∨ c = N + 3 ∨ c = N + 4 ∨ c = N ∨ c = N + 1 ∨ c = N + 2 := by simpa using hcm
          obtain ⟨_, _, _, hTO⟩ := hTO
          rcases e' with q | q | q | q | q | q
          · rw [q]; exact Heap.lt_size hz
          · rw [q]; exact Heap.lt_size hTI
          · rw [q]; exact Heap.lt_size hTO
          · rw [q]; obtain ⟨_, e1, _⟩ := itA_obj h1; exact Heap.lt_size e1
          · rw [q]; obtain ⟨_, e2, _⟩ := itA_obj h2; exact Heap.lt_size e2
          · rw [q]; obtain ⟨_, e2, _⟩ := itA_obj h3; exact Heap.lt_size e2
        rw [upd_ne (Nat.ne_of_lt (Nat.lt_of_lt_of_le hlt hTn))]
        exact (hf c hcm).1
    · obtain ⟨v, e, hq⟩ := hq
      exact ⟨v, e, hq⟩
  done := by
    intro X hP hw hK hc i pins s σ H E I hf st hg
    subst hP hw hK
    obtain ⟨hz, hTI, hTO, h1, h2, h3⟩ := st
    obtain ⟨xs, ys, zs, hqx, hqy, hqz, rfl⟩ := hg
    obtain ⟨its, rv, p⟩ := seqA_at I hqx
    obtain ⟨its2, rv2, p2⟩ := seqA_at I hqy
    obtain ⟨its3, rv3, p3⟩ := seqA_at I hqz
    have l1 := rv.length
    have l2 := rv2.length
    have l3 := rv3.length
    have G := GoesN.zip3 (prog := X.prog) (w := X.w) (A := X.A) (elts := elts) (x1 := kk) (pos := tpos) (zip_sep3 (N := N) (fp1 := [a]) (fp2 := [b]) (fp3 := [d]) (by simpa using la) (by simpa using lb) (by simpa using ld))
      (drawsA (A := X.A.in1) (show X.A.in1.handled = none from I.ok.hd hc) t1 N a (Nat.ne_of_lt la) its.toArray) (drawsA (A := X.A.in1) (show X.A.in1.handled = none from I.ok.hd hc) t2 (N + 1) b (Nat.ne_of_lt (Nat.lt_succ_of_lt lb)) its2.toArray) (drawsA (A := X.A.in1) (show X.A.in1.handled = none from I.ok.hd hc) t3 (N + 2) d (Nat.ne_of_lt (Nat.lt_succ_of_lt (Nat.lt_succ_of_lt ld))) its3.toArray)
    refine G.stops s _ E ?_ fun h' tk hk htk => I.turnedL (t' := tk) (ch := [N + 5, N + 3, N + 4, N, N + 1, N + 2]) (fun c o hb q => hk c o (fun hm => hb (by
        have e' : c = N + 5 ∨ c = N + 4 ∨ c = N ∨ c = N + 1 ∨ c = N + 2 := by simpa using hm
        rcases e' with z | z | z | z | z <;> simp [z])) q) hf
    simp only [List.size_toArray]
    rw [← l1, ← l2, ← l3]
    exact ⟨hz, hTI, hTO, ⟨h1, p⟩, ⟨h2, p2⟩, ⟨h3, p3⟩⟩
  self := fun A i s Q E st h => wpAny_pyIter_zip st.1 h
theorem turn_en {P : Program} {w : World} {K : PySem.W.Frag} {elts : List Expr} {kk : Nat} {tpos : Pos} {t1 : Bool} {a N : Addr} (la : a < N) :
    Turn P w K (.Tuple elts kk tpos) (JE K t1 a) [N + 1, N] (N + 1) (fun i h => (∃ old, IsEnum h (N + 1) N ((0 : Int) + (i : Nat)) old) ∧ ItA t1 h N a i) where
  mem := by simp
  obj := fun i h st c hc => by
    obtain ⟨⟨_, hz⟩, h1⟩ := st
    have e' : c = N + 1 ∨ c = N := by simpa using hc
    rcases e' with q | q
    · rw [q]; exact ⟨_, hz, fun v q => nomatch q⟩
    · rw [q]; exact itA_obj h1
  keep := fun i h h' st k => by
    obtain ⟨⟨o, hz⟩, h1⟩ := st
    exact ⟨⟨o, k _ (by simp) _ hz⟩, itA_at h1 fun o q => k _ (by simp) o q⟩
  item := by
    intro X hP hw hK hc i pins s σ H E I hf st hg
    subst hP hw hK
    obtain ⟨hz, h1⟩ := st
    obtain ⟨xs, hqx, hi⟩ := hg
    obtain ⟨its, rv, p⟩ := seqA_at I hqx
    have l1 := rv.length
    have G := GoesN.enumFrom (prog := X.prog) (w := X.w) (A := X.A) (elts := elts) (x1 := kk) (pos := tpos) 0 (drawsA (A := X.A.in1) (show X.A.in1.handled = none from I.ok.hd hc) t1 N a (Nat.ne_of_lt la) its.toArray) (N + 1) (Nat.succ_ne_self _) (fun hm => by
      have e' : N + 1 = N ∨ N + 1 = a := by simpa using hm
      rcases e' with z | z
      · exact absurd z (Nat.succ_ne_self _)
      · exact absurd z (Nat.ne_of_gt (Nat.lt_succ_of_lt la))) (by simp)
    refine wpAny_mono (G.goes i s (fun v s2 => ∃ x H', Inv X pins σ H' s2 ∧ RelV x v ∧ (JE X.K t1 a).yld i H x H' ∧ ((∃ old, IsEnum s2.heap (N + 1) N ((0 : Int) + ((i + 1 : Nat))) old) ∧ ItA t1 s2.heap N a (i + 1)) ∧ ∀ c ∈ [N + 1, N], H' c = none) E (by simp only [List.size_toArray]; omega) ⟨hz, h1, p⟩ fun v h' tk hY hst hk htk => ?_) (fun r s1 hq => ?_) fun _ _ z => z
    · obtain ⟨T, t, x, rfl, hTn, hx, hT⟩ := hY
      have hx' : its[i]? = some x := by simpa using hx
      have hix : i < xs.length := by omega
      obtain ⟨u, hu, ru⟩ := rv.get (List.getElem?_eq_getElem hix)
      rw [hx'] at hu; cases hu
      have new : ObjOk X.prog X.w (upd H T (.tup [.int (i : Nat), xs[i]])) h' T (.tup [.int (i : Nat), xs[i]]) := tup_ok rfl hT (us := [.int ((0 : Int) + (i : Nat)) t, x]) (.cons ⟨t, by rw [Int.zero_add]⟩ (.cons ru .nil)) (by simp)
      have I1 : Inv X pins σ (upd H T (.tup [.int (i : Nat), xs[i]])) { s with heap := h', toks := tk } := I.turnedNew (t' := tk) (ch := [N + 1, N]) (fun c o hb q => hk c o hb q) hf hTn new
      obtain ⟨z1, z2⟩ := hst
      refine ⟨.ref T, _, I1, rfl, ⟨T, _, rfl, I.hok.fresh hTn, rfl, fun l hl => ?_⟩, ⟨z1, z2.1⟩, fun c hcm => ?_⟩
      · rw [seqA_inj I hl hqx]; exact List.getElem?_eq_getElem hix
      · have hlt : c < s.heap.objs.size := by
          have e' : c = N + 1 ∨ c = N := by simpa using hcm
          obtain ⟨_, hz⟩ := hz
          rcases e' with q | q
          · rw [q]; exact Heap.lt_size hz
          · rw [q]; obtain ⟨_, e1, _⟩ := itA_obj h1; exact Heap.lt_size e1
        rw [upd_ne (Nat.ne_of_lt (Nat.lt_of_lt_of_le hlt hTn))]
        exact (hf c hcm).1
    · obtain ⟨v, e, hq⟩ := hq
      exact ⟨v, e, hq⟩
  done := by
    intro X hP hw hK hc i pins s σ H E I hf st hg
    subst hP hw hK
    obtain ⟨hz, h1⟩ := st
    obtain ⟨xs, hqx, rfl⟩ := hg
    obtain ⟨its, rv, p⟩ := seqA_at I hqx
    have l1 := rv.length
    have G := GoesN.enumFrom (prog := X.prog) (w := X.w) (A := X.A) (elts := elts) (x1 := kk) (pos := tpos) 0 (drawsA (A := X.A.in1) (show X.A.in1.handled = none from I.ok.hd hc) t1 N a (Nat.ne_of_lt la) its.toArray) (N + 1) (Nat.succ_ne_self _) (fun hm => by
      have e' : N + 1 = N ∨ N + 1 = a := by simpa using hm
      rcases e' with z | z
      · exact absurd z (Nat.succ_ne_self _)
      · exact absurd z (Nat.ne_of_gt (Nat.lt_succ_of_lt la))) (by simp)
    refine G.stops s _ E ?_ fun h' tk hk htk => I.turnedL (t' := tk) (ch := [N + 1, N]) (fun c o hb q => hk c o hb q) hf
    simp only [List.size_toArray]
    rw [← l1]
    exact ⟨hz, h1, p⟩
  self := fun A i s Q E st h => by
    obtain ⟨⟨_, e⟩, _⟩ := st
    exact wpAny_pyIter_enum e h
/-! ### what is walked -/
/-- a list, frozen or as a cell, or a tuple -/
def seqD (d : D) (m : MS) (R : List D → (MS → Prop) → Prop) : Prop := match d with
  | .lst xs => R xs fun _ => True
  | .fls xs => R xs fun _ => True
  | .ptp xs => R xs fun _ => True
  | .tup xs => R xs fun _ => True
  | .raw (.ref p) => ∃ xs, m p = some (.lst xs) ∧ R xs fun m' => m' p = some (.lst xs)
  | _ => False
theorem seqD_use {K : PySem.W.Frag} {m : MS} {H F : Hp} {d : D} {v : V} {R : List D → (MS → Prop) → Prop} (h : seqD d m R) (s : Std K m H F) (r : Rp K F v d) :
    ∃ a tp xs GG, v = .ref a ∧ R xs GG ∧ GG m ∧ ∀ m' H' F', Same F F' → Std K m' H' F' → GG m' → ∃ vs, SqA K tp H' a vs ∧ Rps K F' vs xs := by
  cases d with
  | lst xs =>
    cases r with
    | @lst a vs _ h1 h2 => exact ⟨a, false, xs, _, rfl, h, trivial, fun m' H' F' g s' _ => ⟨vs, .inl (.inl (s'.at (g _ _ h1))), h2.up g _⟩⟩
  | fls xs =>
    cases r with
    | @fls a vs _ h1 h2 => exact ⟨a, false, xs, _, rfl, h, trivial, fun m' H' F' g s' _ => ⟨vs, s'.toH.seq (g.seq h1.sq), h2.up g _⟩⟩
  | tup xs =>
    cases r with
    | @tup a vs _ h1 h2 => exact ⟨a, true, xs, _, rfl, h, trivial, fun m' H' F' g s' _ => ⟨vs, Same.seqT s'.toH (Same.seqT g h1), h2.up g _⟩⟩
  | ptp xs =>
    cases r with
    | @ptp a o vs _ h1 h0 h2 => exact ⟨a, true, xs, _, rfl, h, trivial, fun m' H' F' g s' _ => ⟨vs, Same.seqT s'.toH (Same.seqT g (.inl (.inr ⟨o, h1⟩))), h2.up g _⟩⟩
  | raw v =>
    cases v with
    | ref p =>
      cases r
      obtain ⟨xs, e, h⟩ := h
      refine ⟨p, false, xs, _, rfl, h, e, fun m' H' F' g s' e' => ?_⟩
      obtain ⟨vs, h1, h2⟩ := s'.cells p _ e'
      exact ⟨vs, .inl (.inl h1), h2⟩
    | _ => exact h.elim
  | _ => exact h.elim
def signs (z : Str) : List D := z.cps.toList.map fun c => .str ⟨#[c]⟩
def isVal : IS := fun ds m R => match ds with
  | [.str z] => R (signs z) (fun _ => True) m
  | [d] => seqD d m fun xs GG => R xs GG m
  | _ => False
def zipD (xs ys : List D) : List D := (xs.zip ys).map fun p => .tup [p.1, p.2]
def zip3D (xs ys zs : List D) : List D := ((xs.zip ys).zip zs).map fun p => .tup [p.1.1, p.1.2, p.2]
def enumD (xs : List D) : List D := xs.zipIdx.map fun p => .tup [.int (p.2 : Nat), p.1]
def rngD (lo : Int) (n : Nat) : List D := (List.range n).map fun i => D.int (lo + (i : Nat))
def rngC (lo c : Int) (n : Nat) : List D := (List.range n).map fun i => D.int (lo + (i : Nat) * c)
def isZip : IS := fun ds m R => match ds with
  | [a, b] => seqD a m fun xs G1 => seqD b m fun ys G2 => R (zipD xs ys) (fun m' => G1 m' ∧ G2 m') m
  | [a, b, c] => seqD a m fun xs G1 => seqD b m fun ys G2 => seqD c m fun zs G3 => R (zip3D xs ys zs) (fun m' => G1 m' ∧ G2 m' ∧ G3 m') m
  | _ => False
def isEnum : IS := fun ds m R => match ds with
  | [a] => seqD a m fun xs G1 => R (enumD xs) G1 m
  | _ => False
def isRev : IS := fun ds m R => match ds with
  | [a] => seqD a m fun xs G1 => R xs.reverse G1 m
  | _ => False
def isRng : IS := fun ds m R => match ds with
  | [.int j] => (-(2 ^ 62) ≤ j ∧ j < 2 ^ 62) ∧ R (rngD 0 j.toNat) (fun _ => True) m
  | [.int i, .int j] => (-(2 ^ 62) ≤ i ∧ i < 2 ^ 62 ∧ -(2 ^ 62) ≤ j ∧ j < 2 ^ 62) ∧ R (rngD i (j - i).toNat) (fun _ => True) m
  | [.int i, .int j, .int c] => (-(2 ^ 62) ≤ i ∧ i < 2 ^ 62 ∧ -(2 ^ 62) ≤ j ∧ j < 2 ^ 62 ∧ c = -1) ∧ R (rngC i (-1) (i - j).toNat) (fun _ => True) m
  | _ => False
theorem rps_last {K : PySem.W.Frag} {F : Hp} {vs : List V} {ds : List D} {i : Nat} {x : V} {d : D} (h : Rps K F vs ds) (e1 : vs[i]? = some x) (e2 : ds[i]? = some d) : Rp K F x d := by
  obtain ⟨v, a, b⟩ := h.get e2
  rw [e1] at a; cases a; exact b
theorem zipD_len (xs ys : List D) : (zipD xs ys).length = min xs.length ys.length := by simp [zipD]
theorem zip3D_len (xs ys zs : List D) : (zip3D xs ys zs).length = min (min xs.length ys.length) zs.length := by simp [zip3D]
theorem enumD_len (xs : List D) : (enumD xs).length = xs.length := by simp [enumD]
theorem zipD_get {xs ys : List D} {i : Nat} {d : D} (h : (zipD xs ys)[i]? = some d) : ∃ x y, xs[i]? = some x ∧ ys[i]? = some y ∧ d = .tup [x, y] := by
  unfold zipD at h
  rw [List.getElem?_map] at h
  cases e : (xs.zip ys)[i]? with
  | none => rw [e] at h; cases h
  | some p =>
    rw [e] at h
    obtain ⟨h1, h2⟩ := List.getElem?_zip_eq_some.mp e
    exact ⟨p.1, p.2, h1, h2, (Option.some.inj h).symm⟩
theorem zip3D_get {xs ys zs : List D} {i : Nat} {d : D} (h : (zip3D xs ys zs)[i]? = some d) : ∃ x y z, xs[i]? = some x ∧ ys[i]? = some y ∧ zs[i]? = some z ∧ d = .tup [x, y, z] := by
  unfold zip3D at h
  rw [List.getElem?_map] at h
  cases e : ((xs.zip ys).zip zs)[i]? with
  | none => rw [e] at h; cases h
  | some p =>
    rw [e] at h
    obtain ⟨h1, h2⟩ := List.getElem?_zip_eq_some.mp e
    obtain ⟨h3, h4⟩ := List.getElem?_zip_eq_some.mp h1
    exact ⟨_, _, _, h3, h4, h2, (Option.some.inj h).symm⟩
theorem enumD_get {xs : List D} {i : Nat} {d : D} (h : (enumD xs)[i]? = some d) : ∃ x, xs[i]? = some x ∧ d = .tup [.int (i : Nat), x] := by
  unfold enumD at h
  rw [List.getElem?_map, List.getElem?_zipIdx] at h
  cases e : xs[i]? with
  | none => rw [e] at h; cases h
  | some p =>
    rw [e] at h
    have := (Option.some.inj h).symm
    exact ⟨p, rfl, by simpa using this⟩
theorem rngD_get {lo : Int} {n i : Nat} {d : D} (h : (rngD lo n)[i]? = some d) : i < n ∧ d = .int (lo + (i : Nat)) := by
  unfold rngD at h
  rw [List.getElem?_map] at h
  by_cases hi : i < n
  · rw [List.getElem?_range hi] at h
    exact ⟨hi, (Option.some.inj h).symm⟩
  · rw [List.getElem?_eq_none (by simpa using hi)] at h; cases h
theorem rngD_len {lo : Int} {n : Nat} : (rngD lo n).length = n := by simp [rngD]
theorem rngC_get {lo c : Int} {n i : Nat} {d : D} (h : (rngC lo c n)[i]? = some d) : i < n ∧ d = .int (lo + (i : Nat) * c) := by
  unfold rngC at h
  rw [List.getElem?_map] at h
  by_cases hi : i < n
  · rw [List.getElem?_range hi] at h
    exact ⟨hi, (Option.some.inj h).symm⟩
  · rw [List.getElem?_eq_none (by simpa using hi)] at h; cases h
theorem rngC_len {lo c : Int} {n : Nat} : (rngC lo c n).length = n := by simp [rngC]
section
variable {X : Cx} {e a b c tg iter : Expr} {ts : Ts} {t ta tb tc : T} {pos : Pos} {K : PySem.W.Frag} {F1 : Hp} {items : List D} {GG : MS → Prop} {xs : List D} {ad : Addr}
theorem walk_lst (h : ∀ m' H' F', Same F1 F' → Std K m' H' F' → GG m' → ∃ vs, SqA K false H' ad vs ∧ Rps K F' vs items) : WalkD K F1 (Itl K ad) items GG := by
  refine ⟨fun i H F m hi s sd g => ?_, fun H F m s sd g => ?_, fun i H F m x H' d hd s sd g y => ?_⟩
  · obtain ⟨vs, q, r⟩ := h m H F s sd g
    exact ⟨vs, vs[i]'(by rw [r.length]; exact hi), q, List.getElem?_eq_getElem _⟩
  · obtain ⟨vs, q, r⟩ := h m H F s sd g
    exact ⟨vs, q, by rw [r.length]; exact Nat.le_refl _⟩
  · obtain ⟨vs, q, r⟩ := h m H F s sd g
    obtain ⟨rfl, y⟩ := y
    exact ⟨F, Go.refl sd, rps_last r (y vs q) hd⟩
theorem walk_tpl (h : ∀ m' H' F', Same F1 F' → Std K m' H' F' → GG m' → ∃ vs, SqA K true H' ad vs ∧ Rps K F' vs items) : WalkD K F1 (Itt K ad) items GG := by
  refine ⟨fun i H F m hi s sd g => ?_, fun H F m s sd g => ?_, fun i H F m x H' d hd s sd g y => ?_⟩
  · obtain ⟨vs, q, r⟩ := h m H F s sd g
    exact ⟨vs, vs[i]'(by rw [r.length]; exact hi), q, List.getElem?_eq_getElem _⟩
  · obtain ⟨vs, q, r⟩ := h m H F s sd g
    exact ⟨vs, q, by rw [r.length]; exact Nat.le_refl _⟩
  · obtain ⟨vs, q, r⟩ := h m H F s sd g
    obtain ⟨rfl, y⟩ := y
    exact ⟨F, Go.refl sd, rps_last r (y vs q) hd⟩
theorem walk_str {z : Str} : WalkD K F1 (Its z) (signs z) fun _ => True := by
  refine ⟨fun i H F m hi s sd _ => ?_, fun H F m s sd _ => ?_, fun i H F m x H' d hd s sd _ y => ?_⟩
  · unfold signs at hi; rw [List.length_map] at hi; exact hi
  · show z.cps.size ≤ (signs z).length
    unfold signs; rw [List.length_map]; exact Nat.le_refl _
  · obtain ⟨rfl, c, hc, rfl⟩ := y
    unfold signs at hd
    rw [List.getElem?_map, Array.getElem?_toList, hc] at hd
    have e := Option.some.inj hd
    subst e
    exact ⟨F, Go.refl sd, .str _⟩
/-- any value: a text, a list, a tuple -/
theorem si_val (he : SE X iter t) : SI X tg iter isVal (.cons t .nil) := ⟨fun ρ m P Z p => ⟨fun F0 σ H F S R V tk q kx pins s I => by
  refine thn ((he.go ρ m _ Z p).run F0 σ H F S (fun v H1 => ∃ F1 d m1, isVal [d] m1 P ∧ Go X.K m H F m1 H1 F1 ∧ Rp X.K F1 v d) V tk (fun v H1 F1 d m1 p1 g1 r1 => ⟨F1, d, m1, p1, g1, r1⟩) kx pins s I) fun u s1 hh => ?_
  obtain ⟨v, H1, I1, rv, F1, d, m1, p1, g1, r1⟩ := hh
  have gen : (seqD d m1 fun xs GG => P xs GG m1) → wpAny (model X.prog X.w) X.A (pyIter u) (PIE X pins σ tg R) X.xe s1 := fun p1 => by
    obtain ⟨a, tp, xs, GG, rfl, pR, g0, hq⟩ := seqD_use p1 g1.std r1
    obtain ⟨vs, q0, r0⟩ := hq m1 H1 F1 (Same.refl _) g1.std g0
    obtain rfl : u = Value.ref a := rv
    cases tp with
    | true =>
      obtain ⟨its, rr, p', hz⟩ := I1.tuple q0
      exact wpAny_pyIter_tuple (show s1.heap.IsTuple a its.toArray from p') (pi_one (tk := s1.toks) I1 _ (turn_tuple a _) ⟨_, Heap.get?_push_size _ rfl, rfl, rfl⟩ (q _ H1 F1 xs GG m1 pR g1 (walk_tpl fun m' H' F' g s' gg => hq m' H' F' g s' gg)))
    | false =>
      obtain ⟨its, rr, p', hz⟩ := I1.list q0
      exact wpAny_pyIter_list p'.isList (pi_one (tk := s1.toks) I1 _ (turn_list a _) ⟨_, Heap.get?_push_size _ rfl, rfl, rfl⟩ (q _ H1 F1 xs GG m1 pR g1 (walk_lst fun m' H' F' g s' gg => hq m' H' F' g s' gg)))
  cases d with
  | str x =>
    cases r1
    obtain ⟨t, rfl⟩ := (show ∃ t, u = Value.str x t from rv)
    have qq := q _ H1 F1 (signs x) _ m1 p1 g1 walk_str
    cases ha : x.cps.all (· < 128)
    · exact wpAny_pyIter_wide ha (pi_one (tk := s1.toks) I1 _ (turn_str _ x t "str_iterator" (.inr rfl)) ⟨_, Heap.get?_push_size _ rfl, rfl, rfl⟩ qq)
    · exact wpAny_pyIter_ascii ha (pi_one (tk := s1.toks) I1 _ (turn_str _ x t "str_ascii_iterator" (.inl rfl)) ⟨_, Heap.get?_push_size _ rfl, rfl, rfl⟩ qq)
  | _ => exact gen p1⟩⟩
theorem walk_rng {lo : Int} {n : Nat} : WalkD K F1 (Itr lo n) (rngD lo n) fun _ => True := ⟨fun i H F m hi s sd _ => by rw [rngD_len] at hi; exact hi, fun H F m s sd _ => by rw [rngD_len]; exact Nat.le_refl _, fun i H F m x H' d hd s sd _ y => by
  obtain ⟨_, rfl⟩ := rngD_get hd
  obtain ⟨rfl, rfl⟩ := y
  exact ⟨F, Go.refl sd, .int _⟩⟩
theorem walk_rngC {lo c : Int} {n : Nat} : WalkD K F1 (Itc lo c n) (rngC lo c n) fun _ => True := ⟨fun i H F m hi s sd _ => by rw [rngC_len] at hi; exact hi, fun H F m s sd _ => by rw [rngC_len]; exact Nat.le_refl _, fun i H F m x H' d hd s sd _ y => by
  obtain ⟨_, rfl⟩ := rngC_get hd
  obtain ⟨rfl, rfl⟩ := y
  exact ⟨F, Go.refl sd, .int _⟩⟩
theorem isRng1 {d : D} {m : MS} {R : List D → (MS → Prop) → MS → Prop} (h : isRng [d] m R) : ∃ j, d = .int j ∧ (-(2 ^ 62) ≤ j ∧ j < 2 ^ 62) ∧ R (rngD 0 j.toNat) (fun _ => True) m := by
  cases d with
  | int j => exact ⟨j, rfl, h⟩
  | _ => exact h.elim
theorem isRng2 {d d2 : D} {m : MS} {R : List D → (MS → Prop) → MS → Prop} (h : isRng [d, d2] m R) : ∃ i j, d = .int i ∧ d2 = .int j ∧ (-(2 ^ 62) ≤ i ∧ i < 2 ^ 62 ∧ -(2 ^ 62) ≤ j ∧ j < 2 ^ 62) ∧ R (rngD i (j - i).toNat) (fun _ => True) m := by
  cases d with
  | int i =>
    cases d2 with
    | int j => exact ⟨i, j, rfl, rfl, h⟩
    | _ => exact h.elim
  | _ => exact h.elim
theorem isRng3 {d d2 d3 : D} {m : MS} {R : List D → (MS → Prop) → MS → Prop} (h : isRng [d, d2, d3] m R) : ∃ i j, d = .int i ∧ d2 = .int j ∧ d3 = .int (-1) ∧ (-(2 ^ 62) ≤ i ∧ i < 2 ^ 62 ∧ -(2 ^ 62) ≤ j ∧ j < 2 ^ 62) ∧ R (rngC i (-1) (i - j).toNat) (fun _ => True) m := by
  cases d with
  | int i =>
    cases d2 with
    | int j =>
      cases d3 with
      | int c =>
        obtain ⟨⟨a, b, c', d, e⟩, r⟩ := h
        subst e
        exact ⟨i, j, rfl, rfl, rfl, ⟨a, b, c', d⟩, r⟩
      | _ => exact h.elim
    | _ => exact h.elim
  | _ => exact h.elim
theorem si_rng1 {p : Pos} (hm : X.mg "range" = none) (ha : SE X a ta) (hg : Gl X "range" := by rfl) (hs : starEach [a] X.env = (false, eval a X.env) :: starEach [] X.env := by rfl) : SI X tg (.Call (.Name "range" p) [a] [] pos) isRng (.cons ta .nil) := ⟨fun ρ m P Z p => ⟨fun F0 σ H F S R V tk q kx => by
  refine wI_of (pi_range1 hg hm (pa_cons pe_w pa_nil hs) hs) ?_
  refine (ha.go ρ m _ Z p).run F0 σ H F S _ V tk (fun x H1 F1 d1 m1 p1 g1 r1 => ?_) kx
  obtain ⟨j, rfl, ⟨h1, h2⟩, pR⟩ := isRng1 p1
  cases r1
  exact ⟨j, rfl, h1, h2, q _ H1 F1 _ _ m1 pR g1 walk_rng⟩⟩⟩
theorem si_rng2 {p : Pos} (hm : X.mg "range" = none) (ha : SE X a ta) (hb : SE X b tb) (hg : Gl X "range" := by rfl) (hs : starEach [a, b] X.env = (false, eval a X.env) :: starEach [b] X.env := by rfl) (hs2 : starEach [b] X.env = (false, eval b X.env) :: starEach [] X.env := by rfl) : SI X tg (.Call (.Name "range" p) [a, b] [] pos) isRng (.cons ta (.cons tb .nil)) := ⟨fun ρ m P Z p => ⟨fun F0 σ H F S R V tk q kx => by
  refine wI_of (pi_range2 hg hm (pa_cons pe_w (pa_cons pe_w pa_nil hs2) hs) (by rw [hs, hs2]; rfl) (by rw [hs2]; rfl)) ?_
  refine (ha.go ρ m _ Z p).run F0 σ H F S _ V tk (fun x H1 F1 d1 m1 p1 g1 r1 => ?_) kx
  refine (hb.go ρ m1 _ Z p1).run F0 σ H1 F1 (S.go g1) _ V tk (fun y H2 F2 d2 m2 p2 g2 r2 => ?_) (kx.go g1)
  obtain ⟨i, j, rfl, rfl, hz, pR⟩ := isRng2 p2
  cases r1
  cases r2
  exact ⟨i, j, rfl, hz, q _ H2 F2 _ _ m2 pR (g1.trans g2) walk_rng⟩⟩⟩
theorem si_rng3 {p : Pos} (hm : X.mg "range" = none) (ha : SE X a ta) (hb : SE X b tb) (hc : SE X c tc) (hg : Gl X "range" := by rfl) (hs : starEach [a, b, c] X.env = (false, eval a X.env) :: starEach [b, c] X.env := by rfl) (hs2 : starEach [b, c] X.env = (false, eval b X.env) :: starEach [c] X.env := by rfl) (hs3 : starEach [c] X.env = (false, eval c X.env) :: starEach [] X.env := by rfl) (hpl : (backTo pos (starEach [b, c] X.env)).any (·.1) = false := by rfl) : SI X tg (.Call (.Name "range" p) [a, b, c] [] pos) isRng (.cons ta (.cons tb (.cons tc .nil))) := ⟨fun ρ m P Z p => ⟨fun F0 σ H F S R V tk q kx => by
  refine wI_of (pi_range3 hg hm (pa_cons pe_w (pa_cons pe_w (pa_cons pe_w pa_nil hs3) hs2) hs) hs hpl) ?_
  refine (ha.go ρ m _ Z p).run F0 σ H F S _ V tk (fun x H1 F1 d1 m1 p1 g1 r1 => ?_) kx
  refine (hb.go ρ m1 _ Z p1).run F0 σ H1 F1 (S.go g1) _ V tk (fun y H2 F2 d2 m2 p2 g2 r2 => ?_) (kx.go g1)
  refine (hc.go ρ m2 _ Z p2).run F0 σ H2 F2 ((S.go g1).go g2) _ V tk (fun z H3 F3 d3 m3 p3 g3 r3 => ?_) ((kx.go g1).go g2)
  obtain ⟨i, j, rfl, rfl, rfl, ⟨h1, h2, h3, h4⟩, pR⟩ := isRng3 p3
  cases r1
  cases r2
  cases r3
  exact ⟨i, j, -1, _, rfl, RgC.neg h1 h2 h3 h4, q _ H3 F3 _ _ m3 pR ((g1.trans g2).trans g3) walk_rngC⟩⟩⟩
theorem walk_z2 {t1 t2 : Bool} {a1 a2 : Addr} {xs ys : List D} {G1 G2 : MS → Prop} (h1 : ∀ m' H' F', Same F1 F' → Std K m' H' F' → G1 m' → ∃ vs, SqA K t1 H' a1 vs ∧ Rps K F' vs xs) (h2 : ∀ m' H' F', Same F1 F' → Std K m' H' F' → G2 m' → ∃ vs, SqA K t2 H' a2 vs ∧ Rps K F' vs ys) : WalkD K F1 (J2 K t1 t2 a1 a2) (zipD xs ys) fun m' => G1 m' ∧ G2 m' := by
  refine ⟨fun i H F m hi s sd g => ?_, fun H F m s sd g => ?_, fun i H F m x H' d hd s sd g y => ?_⟩
  · obtain ⟨vs, q, r⟩ := h1 m H F s sd g.1
    obtain ⟨ws, q2, r2⟩ := h2 m H F s sd g.2
    rw [zipD_len] at hi
    exact ⟨vs, ws, q, q2, by rw [r.length, r2.length]; exact hi⟩
  · obtain ⟨vs, q, r⟩ := h1 m H F s sd g.1
    obtain ⟨ws, q2, r2⟩ := h2 m H F s sd g.2
    exact ⟨vs, ws, q, q2, by rw [r.length, r2.length, zipD_len]⟩
  · obtain ⟨vs, q, r⟩ := h1 m H F s sd g.1
    obtain ⟨ws, q2, r2⟩ := h2 m H F s sd g.2
    obtain ⟨dx, dy, e1, e2, rfl⟩ := zipD_get hd
    obtain ⟨T, x, y', rfl, hT, rfl, y1, y2⟩ := y
    exact ⟨_, Go.new sd hT, .tup (.inl (.inl upd_same)) ((Rps.cons (rps_last r (y1 vs q) e1) (.cons (rps_last r2 (y2 ws q2) e2) .nil)).up (Go.new sd hT).grow _)⟩
theorem walk_z3 {t1 t2 t3 : Bool} {a1 a2 a3 : Addr} {xs ys zs : List D} {G1 G2 G3 : MS → Prop} (h1 : ∀ m' H' F', Same F1 F' → Std K m' H' F' → G1 m' → ∃ vs, SqA K t1 H' a1 vs ∧ Rps K F' vs xs) (h2 : ∀ m' H' F', Same F1 F' → Std K m' H' F' → G2 m' → ∃ vs, SqA K t2 H' a2 vs ∧ Rps K F' vs ys) (h3 : ∀ m' H' F', Same F1 F' → Std K m' H' F' → G3 m' → ∃ vs, SqA K t3 H' a3 vs ∧ Rps K F' vs zs) : WalkD K F1 (J3 K t1 t2 t3 a1 a2 a3) (zip3D xs ys zs) fun m' => G1 m' ∧ G2 m' ∧ G3 m' := by
  refine ⟨fun i H F m hi s sd g => ?_, fun H F m s sd g => ?_, fun i H F m x H' d hd s sd g y => ?_⟩
  · obtain ⟨vs, q, r⟩ := h1 m H F s sd g.1
    obtain ⟨ws, q2, r2⟩ := h2 m H F s sd g.2.1
    obtain ⟨us, q3, r3⟩ := h3 m H F s sd g.2.2
    rw [zip3D_len] at hi
    exact ⟨vs, ws, us, q, q2, q3, by rw [r.length, r2.length, r3.length]; exact hi⟩
  · obtain ⟨vs, q, r⟩ := h1 m H F s sd g.1
    obtain ⟨ws, q2, r2⟩ := h2 m H F s sd g.2.1
    obtain ⟨us, q3, r3⟩ := h3 m H F s sd g.2.2
    exact ⟨vs, ws, us, q, q2, q3, by rw [r.length, r2.length, r3.length, zip3D_len]⟩
  · obtain ⟨vs, q, r⟩ := h1 m H F s sd g.1
    obtain ⟨ws, q2, r2⟩ := h2 m H F s sd g.2.1
    obtain ⟨us, q3, r3⟩ := h3 m H F s sd g.2.2
    obtain ⟨dx, dy, dz, e1, e2, e3, rfl⟩ := zip3D_get hd
    obtain ⟨T, x, y', z, rfl, hT, rfl, y1, y2, y3⟩ := y
    exact ⟨_, Go.new sd hT, .tup (.inl (.inl upd_same)) ((Rps.cons (rps_last r (y1 vs q) e1) (.cons (rps_last r2 (y2 ws q2) e2) (.cons (rps_last r3 (y3 us q3) e3) .nil))).up (Go.new sd hT).grow _)⟩
theorem walk_en {t1 : Bool} {a1 : Addr} {xs : List D} {G1 : MS → Prop} (h1 : ∀ m' H' F', Same F1 F' → Std K m' H' F' → G1 m' → ∃ vs, SqA K t1 H' a1 vs ∧ Rps K F' vs xs) : WalkD K F1 (JE K t1 a1) (enumD xs) G1 := by
  refine ⟨fun i H F m hi s sd g => ?_, fun H F m s sd g => ?_, fun i H F m x H' d hd s sd g y => ?_⟩
  · obtain ⟨vs, q, r⟩ := h1 m H F s sd g
    rw [enumD_len] at hi
    exact ⟨vs, q, by rw [r.length]; exact hi⟩
  · obtain ⟨vs, q, r⟩ := h1 m H F s sd g
    exact ⟨vs, q, by rw [r.length, enumD_len]⟩
  · obtain ⟨vs, q, r⟩ := h1 m H F s sd g
    obtain ⟨dx, e1, rfl⟩ := enumD_get hd
    obtain ⟨T, x, rfl, hT, rfl, y1⟩ := y
    exact ⟨_, Go.new sd hT, .tup (.inl (.inl upd_same)) ((Rps.cons (.int _) (.cons (rps_last r (y1 vs q) e1) .nil)).up (Go.new sd hT).grow _)⟩
theorem fresh_le {pins : List (Addr × Obj)} {σ : L2.St} {H : Hp} {s : Shared} (I : Inv X pins σ H s) {l : List Addr} (h : ∀ c ∈ l, s.heap.objs.size ≤ c) : ∀ c ∈ l, FpOk X pins H c := fun c hc => I.fpOk (h c hc) (I.hok.fresh (h c hc))
variable {elts : List Expr} {kk : Nat} {tpos : Pos}
theorem si_zip2 {p : Pos} (hm : X.mg "zip" = none) (ha : SE X a ta) (hb : SE X b tb) (hg : Gl X "zip" := by rfl) (hs : starEach [a, b] X.env = (false, eval a X.env) :: starEach [b] X.env := by rfl) (hs2 : starEach [b] X.env = (false, eval b X.env) :: starEach [] X.env := by rfl) (hpl : (backTo pos (starEach [b] X.env)).any (·.1) = false := by rfl) : SI X (.Tuple elts kk tpos) (.Call (.Name "zip" p) [a, b] [] pos) isZip (.cons ta (.cons tb .nil)) := ⟨fun ρ m P Z p => ⟨fun F0 σ H F S R V tk q kx pins s I => by
  refine Call_ (ld_blt I hg hm PyProof.Rows.boot_zip (PyProof.Rows.callWith_type1 (thn ((pa_cons (X := X) pe_w (pa_cons pe_w pa_nil hs2) hs).run pos pins s σ H (fun vs H2 => ∃ v1 v2 F2 d1 d2 m2, vs = [v1, v2] ∧ isZip [d1, d2] m2 P ∧ Go X.K m H F m2 H2 F2 ∧ Rp X.K F2 v1 d1 ∧ Rp X.K F2 v2 d2) I ?_) fun us s1 ⟨vs, H1, I1, r1, q1⟩ => ?_) hs hpl))
  · refine (ha.go ρ m _ Z p).run F0 σ H F S _ V tk (fun x H1 F1 d1 m1 p1 g1 r1 => ?_) kx
    refine (hb.go ρ m1 _ Z p1).run F0 σ H1 F1 (S.go g1) _ V tk (fun y H2 F2 d2 m2 p2 g2 r2 => ?_) (kx.go g1)
    exact ⟨x, y, F2, d1, d2, m2, rfl, p2, g1.trans g2, r1.up g2.grow _, r2⟩
  · obtain ⟨v1, v2, F2, d1, d2, m2, rfl, p2, g2, ra, rb⟩ := q1
    obtain ⟨a1, t1, xs, G1, rfl, p2, g01, h1⟩ := seqD_use (show seqD d1 m2 (fun xs G1 => seqD d2 m2 fun ys G2 => P (zipD xs ys) (fun m' => G1 m' ∧ G2 m') m2) from p2) g2.std ra
    obtain ⟨a2, t2, ys, G2, rfl, pR, g02, h2⟩ := seqD_use p2 g2.std rb
    obtain ⟨w1, q1, _⟩ := h1 m2 H1 F2 (Same.refl _) g2.std g01
    obtain ⟨w2, q2, _⟩ := h2 m2 H1 F2 (Same.refl _) g2.std g02
    obtain ⟨its1, rv1, c1⟩ := seqA_at I1 q1
    obtain ⟨its2, rv2, c2⟩ := seqA_at I1 q2
    cases r1 with
    | cons r rr =>
      cases rr with
      | cons r' rr =>
        cases rr
        cases r
        cases r'
        refine zip_begins2 (beginsA t1 a1 its1.toArray) (beginsA t2 a2 its2.toArray) c1 c2 fun h' hz hTI hTO e1 e2 hsz hk => wpAny_pyIter_zip hz ?_
        have I2 : Inv X pins σ H1 { s1 with heap := h' } := I1.kept (t' := s1.toks) hk
        exact ⟨s1.heap.objs.size + 4, _, _, _, H1, rfl, I2, turn_z2 (ctA_lt c1) (ctA_lt c2), ⟨hz, hTI, ⟨_, _, hTO⟩, itA_new e1, itA_new e2⟩, fresh_le I1 (fun c hc => by
          have e' : c = s1.heap.objs.size + 4 ∨ c = s1.heap.objs.size + 2 ∨ c = s1.heap.objs.size + 3 ∨ c = s1.heap.objs.size ∨ c = s1.heap.objs.size + 1 := by simpa using hc
          rcases e' with z | z | z | z | z <;> rw [z] <;> first | exact Nat.le_add_right _ _ | exact Nat.le_refl _), q _ H1 F2 _ _ m2 pR g2 (walk_z2 h1 h2)⟩⟩⟩
theorem si_zip3 {p : Pos} (hm : X.mg "zip" = none) (ha : SE X a ta) (hb : SE X b tb) (hc : SE X c tc) (hg : Gl X "zip" := by rfl) (hs : starEach [a, b, c] X.env = (false, eval a X.env) :: starEach [b, c] X.env := by rfl) (hs2 : starEach [b, c] X.env = (false, eval b X.env) :: starEach [c] X.env := by rfl) (hs3 : starEach [c] X.env = (false, eval c X.env) :: starEach [] X.env := by rfl) (hpl : (backTo pos (starEach [b, c] X.env)).any (·.1) = false := by rfl) : SI X (.Tuple elts kk tpos) (.Call (.Name "zip" p) [a, b, c] [] pos) isZip (.cons ta (.cons tb (.cons tc .nil))) := ⟨fun ρ m P Z p => ⟨fun F0 σ H F S R V tk q kx pins s I => by
  refine Call_ (ld_blt I hg hm PyProof.Rows.boot_zip (PyProof.Rows.callWith_type1 (thn ((pa_cons (X := X) pe_w (pa_cons pe_w (pa_cons pe_w pa_nil hs3) hs2) hs).run pos pins s σ H (fun vs H2 => ∃ v1 v2 v3 F2 d1 d2 d3 m2, vs = [v1, v2, v3] ∧ isZip [d1, d2, d3] m2 P ∧ Go X.K m H F m2 H2 F2 ∧ Rp X.K F2 v1 d1 ∧ Rp X.K F2 v2 d2 ∧ Rp X.K F2 v3 d3) I ?_) fun us s1 ⟨vs, H1, I1, r1, q1⟩ => ?_) hs hpl))
  · refine (ha.go ρ m _ Z p).run F0 σ H F S _ V tk (fun x H1 F1 d1 m1 p1 g1 r1 => ?_) kx
    refine (hb.go ρ m1 _ Z p1).run F0 σ H1 F1 (S.go g1) _ V tk (fun y H2 F2 d2 m2 p2 g2 r2 => ?_) (kx.go g1)
    refine (hc.go ρ m2 _ Z p2).run F0 σ H2 F2 ((S.go g1).go g2) _ V tk (fun z H3 F3 d3 m3 p3 g3 r3 => ?_) ((kx.go g1).go g2)
    exact ⟨x, y, z, F3, d1, d2, d3, m3, rfl, p3, (g1.trans g2).trans g3, (r1.up g2.grow _).up g3.grow _, r2.up g3.grow _, r3⟩
  · obtain ⟨v1, v2, v3, F2, d1, d2, d3, m2, rfl, p2, g2, ra, rb, rc⟩ := q1
    obtain ⟨a1, t1, xs, G1, rfl, p2, g01, h1⟩ := seqD_use (show seqD d1 m2 (fun xs G1 => seqD d2 m2 fun ys G2 => seqD d3 m2 fun zs G3 => P (zip3D xs ys zs) (fun m' => G1 m' ∧ G2 m' ∧ G3 m') m2) from p2) g2.std ra
    obtain ⟨a2, t2, ys, G2, rfl, p2, g02, h2⟩ := seqD_use p2 g2.std rb
    obtain ⟨a3, t3, zs, G3, rfl, pR, g03, h3⟩ := seqD_use p2 g2.std rc
    obtain ⟨w1, q1, _⟩ := h1 m2 H1 F2 (Same.refl _) g2.std g01
    obtain ⟨w2, q2, _⟩ := h2 m2 H1 F2 (Same.refl _) g2.std g02
    obtain ⟨w3, q3, _⟩ := h3 m2 H1 F2 (Same.refl _) g2.std g03
    obtain ⟨its1, rv1, c1⟩ := seqA_at I1 q1
    obtain ⟨its2, rv2, c2⟩ := seqA_at I1 q2
    obtain ⟨its3, rv3, c3⟩ := seqA_at I1 q3
    cases r1 with
    | cons r rr =>
      cases rr with
      | cons r' rr =>
        cases rr with
        | cons r'' rr =>
        cases rr
        cases r
        cases r'
        cases r''
        refine zip_begins3 (beginsA t1 a1 its1.toArray) (beginsA t2 a2 its2.toArray) (beginsA t3 a3 its3.toArray) c1 c2 c3 fun h' hz hTI hTO e1 e2 e3 hsz hk => wpAny_pyIter_zip hz ?_
        have I2 : Inv X pins σ H1 { s1 with heap := h' } := I1.kept (t' := s1.toks) hk
        exact ⟨s1.heap.objs.size + 5, _, _, _, H1, rfl, I2, turn_z3 (ctA_lt c1) (ctA_lt c2) (ctA_lt c3), ⟨hz, hTI, ⟨_, _, _, hTO⟩, itA_new e1, itA_new e2, itA_new e3⟩, fresh_le I1 (fun c hc => by
          have e' : c = s1.heap.objs.size + 5 ∨ c = s1.heap.objs.size + 3 ∨ c = s1.heap.objs.size + 4 ∨ c = s1.heap.objs.size ∨ c = s1.heap.objs.size + 1 ∨ c = s1.heap.objs.size + 2 := by simpa using hc
          rcases e' with z | z | z | z | z | z <;> rw [z] <;> first | exact Nat.le_add_right _ _ | exact Nat.le_refl _), q _ H1 F2 _ _ m2 pR g2 (walk_z3 h1 h2 h3)⟩⟩⟩
end
end Nu

namespace Nu
open PySem PySem.Spec L2
open PyProof.Rows hiding St
/-! ### views -/
theorem VwS.refl {ρ : Env1} {m : MS} : VwS ρ m ρ m := fun K F0 σ H F S => ⟨F, Go.refl S.std, S⟩
theorem VwD.refl {d : D} {m : MS} : VwD d m d m := fun K H F v S r => ⟨F, Go.refl S, r⟩
theorem VwD.less {d : D} {m m' : MS} (h : MLe m' m) : VwD d m d m' := fun K H F v S r => ⟨F, Go.less S h, r⟩
theorem VwD.freeze {p : Addr} {m : MS} {ds : List D} (h : m p = some (.lst ds)) : VwD (.raw (.ref p)) m (.lst ds) (mdel m p) := fun K H F v S r => by
  cases r
  obtain ⟨F', g, r'⟩ := Go.freeze S h
  exact ⟨F', g, r'⟩
theorem VwD.trans {d d' d'' : D} {m m' m'' : MS} (h : VwD d m d' m') (k : VwD d' m' d'' m'') : VwD d m d'' m'' := fun K H F v S r => by
  obtain ⟨F1, g1, r1⟩ := h K H F v S r
  obtain ⟨F2, g2, r2⟩ := k K H F1 v g1.std r1
  exact ⟨F2, g1.trans g2, r2⟩
theorem VwS.less {ρ : Env1} {m m' : MS} (h : MLe m' m) : VwS ρ m ρ m' := fun K F0 σ H F S => ⟨F, Go.less S.std h, S.go (Go.less S.std h)⟩
theorem VwS.trans {ρ ρ' ρ'' : Env1} {m m' m'' : MS} (h : VwS ρ m ρ' m') (k : VwS ρ' m' ρ'' m'') : VwS ρ m ρ'' m'' := fun K F0 σ H F S => by
  obtain ⟨F1, g1, r1⟩ := h K F0 σ H F S
  obtain ⟨F2, g2, r2⟩ := k K F0 σ H F1 r1
  exact ⟨F2, g1.trans g2, r2⟩
theorem VwS.forget {ρ ρ' : Env1} {m : MS} (h : ∀ (i : Nat) (d : D), ρ'[i]? = some (some d) → ρ[i]? = some (some d)) : VwS ρ m ρ' m := fun K F0 σ H F S => ⟨F, Go.refl S.std, S.std, fun i d e => S.env i d (h i d e), S.old⟩
theorem VwS.freeze {ρ : Env1} {m : MS} {p : Addr} {ds : List D} (i : Nat) (h : getR ρ i = some (.raw (.ref p))) (hp : m p = some (.lst ds)) : VwS ρ m (setR ρ i (.lst ds)) (mdel m p) := fun K F0 σ H F S => by
  obtain ⟨F', g, r⟩ := Go.freeze S.std hp
  obtain ⟨v, hv, rv⟩ := S.env i _ (getR_some h)
  cases rv
  have S' := S.go g
  refine ⟨F', g, S'.std, fun j d e => ?_, S'.old⟩
  rw [setR_eq] at e
  by_cases hj : i = j
  · subst hj
    have hi : i < ρ.length := by
      have := (List.getElem?_eq_some_iff.mp e).1
      simpa using this
    rw [List.getElem?_set_self hi] at e
    cases e
    exact ⟨_, hv, r⟩
  · rw [List.getElem?_set_ne hj] at e
    exact S'.env j d e
/-- what a def gives back, seen as one likes -/
def Ret (P : NX) : NX := fun d m => ∃ d' m', VwD d m d' m' ∧ P d' m'
theorem ret {P : NX} {d : D} {m : MS} (p : P d m) : Ret P d m := ⟨d, m, VwD.refl, p⟩
theorem retL {P : NX} {d : D} {m m' : MS} (h : MLe m' m) (p : P d m') : Ret P d m := ⟨d, m', VwD.less h, p⟩
/-! ### promises -/
def spA (K : PySem.W.Frag) (a : ASp) : Sp := fun vs H Q E => ∃ F ss m P Z, Std K m H F ∧ Rps K F vs ss ∧ a ss m P Z ∧ (∀ v H' F' d m', P d m' → Go K m H F m' H' F' → Rp K F' v d → Q v H') ∧
  ∀ c es H' F' m' cls dd, Z c es m' → Go K m H F m' H' F' → ExR K F' c es cls dd → E cls dd H'
structure Cal (P : Program) (w : World) (K : PySem.W.Frag) (mg : Str → Option Value) (base : Heap) (k : Nat) (x : Str) (sp : Sp) : Prop where
  ex : ∃ (f : Addr) (fd : FuncData) (ps : List Str), FnOk P w K mg base (L2.CX P w) k f fd ps sp ∧ mg x = some (.ref f) ∧ PySem.W.keepIn K (.ref f) = true ∧ Binds K fd ps []
structure MCal (P : Program) (w : World) (K : PySem.W.Frag) (mg : Str → Option Value) (base : Heap) (k : Nat) (c : Cls) (x : Str) (sp : Sp) : Prop where
  ex : ∃ (C f : Addr) (fd : FuncData) (ps : List Str), FnOk P w K mg base (L2.CX P w) k f fd ps sp ∧ clsAt K c.name C ∧ L2.Cls K C ∧ Meth K C x f ∧ Binds K fd ps []
structure KCal (P : Program) (w : World) (K : PySem.W.Frag) (mg : Str → Option Value) (base : Heap) (k : Nat) (c : Cls) (sp : Sp) : Prop where
  ex : ∃ (C f : Addr) (fd : FuncData) (ps : List Str), FnOk P w K mg base (L2.CX P w) k f fd ps sp ∧ clsAt K c.name C ∧ mg c.name = some (.ref C) ∧ Mk K C f ∧ Binds K fd ps []
/-- what the text says of a class of its own -/
structure ClsF (K : PySem.W.Frag) (c : Cls) : Prop where
  ex : ∀ C, clsAt K c.name C → L2.Cls K C ∧ ∀ f ∈ c.fs, NoAttr K C f.name
def startR (N : List Str) (ss : List D) : Env1 := ss.map some ++ List.replicate (N.length - ss.length) none
theorem env_start {K : PySem.W.Frag} {F : Hp} {N : List Str} {vs : List V} {ss : List D} (r : Rps K F vs ss) : ∀ (i : Nat) (d : D), (startR N ss)[i]? = some (some d) → ∃ v, (L2.start N vs)[i]? = some (some v) ∧ Rp K F v d := fun i d e => by
  unfold startR at e
  unfold L2.start
  have hl := r.length
  by_cases hi : i < ss.length
  · rw [List.getElem?_append_left (by simpa using hi)] at e
    rw [List.getElem?_map] at e
    rw [List.getElem?_append_left (by simpa [hl] using hi), List.getElem?_map]
    cases e1 : ss[i]? with
    | none => rw [e1] at e; cases e
    | some d1 =>
      rw [e1] at e
      have e2 : d1 = d := by simpa using e
      subst e2
      obtain ⟨v, h1, h2⟩ := r.get e1
      exact ⟨v, by rw [h1]; rfl, h2⟩
  · rw [List.getElem?_append_right (by simpa using hi)] at e
    rw [List.getElem?_replicate] at e
    split at e <;> cases e
/-- the ends of a def's body -/
def bodyE (P : NX) (Z : EZ) : AEnds := { nx := fun _ m => Ret P .non m, rt := Ret P, ex := fun c es _ m => ∃ m', MLe m' m ∧ Z c es m' }
section
variable {P : Program} {w : World} {K : PySem.W.Frag} {mg : Str → Option Value} {base : Heap}
/-- a def's body keeps its promise -/
theorem fn_ok {a : ASp} {x qual : Str} {stm : Stmt} {f : Addr} {fd : FuncData} {N ps : List Str} {k : Nat} {u : SS} (F : Fun K x qual stm f fd) (S : FnScope N ps (defScope stm)) (len : ∀ ss m P Z, a ss m P Z → ss.length = ps.length)
    (snd : ∀ (cdv : Value) (A : Around) (outer : List Env) (s : Shared) (H : Hp) (E : XK), Room k (A.deeper (envOfC qual (defScope stm) s.heap.objs.size f cdv)) → SSs (cxOf (L2.CX P w) P w K mg base N qual (defScope stm) f cdv A outer s H E) (defBody stm) u)
    (body : ∀ (ss : List D) (m : MS) (P : NX) (Z : EZ), a ss m P Z → WB u (startR N ss) m (bodyE P Z)) : FnOk P w K mg base (L2.CX P w) (k + 1) f fd ps (spA K a) := by
  refine F.okX S (fun vs H Q E h => ?_) fun cdv A outer s H vs Q E hr h => ?_
  · obtain ⟨Fz, ss, m, P1, Z1, _, r, h1, _⟩ := h
    rw [r.length]; exact len ss m P1 Z1 h1
  · obtain ⟨Fz, ss, m, P1, Z1, sd, r, h1, q, qx⟩ := h
    refine ⟨_, pss_w, ?_⟩
    refine ((snd cdv A outer s H E hr).go _ m _ (body ss m P1 Z1 h1)).run Fz _ H Fz ⟨sd, env_start r, Same.refl _⟩ _ (fun cls d _ H => E cls d H) (takes_of rfl rfl rfl rfl) ⟨?_, ?_, ?_, ?_, ?_⟩
    · rintro σ' H' F' ρ' m' ⟨d2, m2, vw, p⟩ g _
      obtain ⟨F2, g2, r2⟩ := vw _ _ _ _ g.std .non
      exact q .non H' F2 d2 m2 p (g.trans g2) r2
    · rintro v H' F' d m' ⟨d2, m2, vw, p⟩ g r
      obtain ⟨F2, g2, r2⟩ := vw _ _ _ _ g.std r
      exact q v H' F2 d2 m2 p (g.trans g2) r2
    · exact fun _ _ _ _ _ p => p.elim
    · exact fun _ _ _ _ _ p => p.elim
    · rintro σ' H' F' ρ' m' c es cls dd ⟨m2, hm, z⟩ g S' r
      exact qx c es H' F' m2 cls dd z (g.trans (Go.less g.std hm)) r
theorem cal_mk {x : Str} {f : Addr} {fd : FuncData} {ps : List Str} {k : Nat} {sp : Sp} (G : FnOk P w K mg base (L2.CX P w) k f fd ps sp) (hm : mg x = some (.ref f)) (kp : PySem.W.keepIn K (.ref f) = true) (b : Binds K fd ps []) : Cal P w K mg base k x sp :=
  ⟨f, fd, ps, G, hm, kp, b⟩
theorem mcal_mk {c : Cls} {x : Str} {C f : Addr} {fd : FuncData} {ps : List Str} {k : Nat} {sp : Sp} (G : FnOk P w K mg base (L2.CX P w) k f fd ps sp) (hC : clsAt K c.name C) (hc : ClsF K c) (hm : Meth K C x f) (b : Binds K fd ps []) : MCal P w K mg base k c x sp :=
  ⟨C, f, fd, ps, G, hC, (hc.ex C hC).1, hm, b⟩
theorem kcal_mk {c : Cls} {C f : Addr} {fd : FuncData} {ps : List Str} {k : Nat} {sp : Sp} (G : FnOk P w K mg base (L2.CX P w) k f fd ps sp) (hC : clsAt K c.name C) (hg : mg c.name = some (.ref C)) (hm : Mk K C f) (b : Binds K fd ps []) : KCal P w K mg base k c sp :=
  ⟨C, f, fd, ps, G, hC, hg, hm, b⟩
end
theorem setF_len : ∀ {fs : List Fld} {xs xs' : List D} {f : Fld} {d : D}, setF fs xs f d = some xs' → xs.length ≤ fs.length → xs'.length ≤ fs.length
  | [], _, _, _, _, h, _ => by cases h
  | f :: fs, [], xs', g, d, h, _ => by
    unfold setF at h
    split at h
    · cases h; simp
    · cases h
  | f :: fs, x :: xs, xs', g, d, h, hl => by
    unfold setF at h
    split at h
    · cases h; simpa using hl
    · split at h
      · rename_i xs2 e
        cases h
        have := setF_len e (by simpa using hl)
        simpa using this
      · cases h
theorem zip_takeA : ∀ {ns : List Str} {vs : List V} {n : Nat}, vs.length = n → (ns.take n).zip vs = ns.zip vs
  | [], _, n, _ => by simp
  | _ :: _, [], n, _ => by simp
  | a :: ns, v :: vs, 0, h => by simp at h
  | a :: ns, v :: vs, n + 1, h => by
    show (a, v) :: (ns.take n).zip vs = (a, v) :: ns.zip vs
    rw [zip_takeA (by simpa using h)]
theorem zip_take {fs : List Fld} {vs : List V} {n : Nat} (h : vs.length = n) : ((fs.map Fld.name).take n).zip vs = (fs.map Fld.name).zip vs := zip_takeA h
theorem lookup_getF {K : PySem.W.Frag} {F : Hp} : ∀ {fs : List Fld} {vs : List V} {xs : List D} {f : Fld} {d : D}, getF fs xs f = some d → Rps K F vs xs → ∃ v, ((fs.map Fld.name).zip vs).lookup f.name = some v ∧ Rp K F v d
  | [], _, xs, _, _, h, _ => by cases xs <;> cases h
  | f :: fs, _, [], _, _, h, _ => by cases h
  | f :: fs, _, x :: xs, g, d, h, r => by
    cases r with
    | @cons v vs _ _ r1 r2 =>
      unfold getF at h
      by_cases e : f = g
      · rw [if_pos e] at h
        cases h
        subst e
        exact ⟨v, by simp [List.lookup], r1⟩
      · rw [if_neg e] at h
        obtain ⟨v', h1, h2⟩ := lookup_getF h r2
        refine ⟨v', ?_, h2⟩
        have ne : (g.name == f.name) = false := beq_eq_false_iff_ne.mpr fun z => e (Fld.inj z).symm
        show List.lookup g.name ((f.name, v) :: ((fs.map Fld.name).zip vs)) = some v'
        rw [List.lookup_cons, ne]
        exact h1
theorem putF_setF {K : PySem.W.Frag} {F : Hp} : ∀ {fs : List Fld} {vs : List V} {xs xs' : List D} {f : Fld} {d : D} {v : V}, setF fs xs f d = some xs' → Rps K F vs xs → Rp K F v d →
    ∃ vs', putF f.name v ((fs.map Fld.name).zip vs) = (fs.map Fld.name).zip vs' ∧ Rps K F vs' xs'
  | [], _, _, _, _, _, _, h, _, _ => by cases h
  | f :: fs, _, [], xs', g, d, v, h, r, rv => by
    cases r
    unfold setF at h
    split at h
    · rename_i e
      subst e
      cases h
      exact ⟨[v], by simp [putF], .cons rv .nil⟩
    · cases h
  | f :: fs, _, x :: xs, xs', g, d, v, h, r, rv => by
    cases r with
    | @cons v0 vs _ _ r1 r2 =>
      unfold setF at h
      split at h
      · rename_i e
        subst e
        cases h
        exact ⟨v :: vs, by simp [putF], .cons rv r2⟩
      · rename_i e
        split at h
        · rename_i xs2 e2
          cases h
          obtain ⟨vs', h1, h2⟩ := putF_setF e2 r2 rv
          refine ⟨v0 :: vs', ?_, .cons r1 h2⟩
          have ne : ¬ f.name = g.name := fun z => e (Fld.inj z)
          show putF g.name v ((f.name, v0) :: ((fs.map Fld.name).zip vs)) = (f.name, v0) :: ((fs.map Fld.name).zip vs')
          unfold putF
          rw [if_neg ne, h1]
        · cases h
section
variable {X : Cx} {e a b c o i value : Expr} {es : List Expr} {t ta tb to ti te : T} {ts : Ts} {pos pos' p : Pos} {apos : Pos}
/-! ### calls -/
theorem spA_run {F0 : Hp} {σ : L2.St} {H F H1 F1 : Hp} {ρ : Env1} {m m1 : MS} {s : ASp} {ds : List D} {vs : List L2.V} {P : NX} {Z : EX} {Q : VK} {V : WX} (S : StR X.K F0 σ H F ρ m) (g1 : Go X.K m H F m1 H1 F1) (r1 : Rps X.K F1 vs ds) (p1 : s ds m1 P fun c es m2 => Z c es ρ m2)
    (q : ∀ v H' F' d m', P d m' → Go X.K m H F m' H' F' → Rp X.K F' v d → Q v H') (kx : ExK X F0 m H F Z V) : spA X.K s vs H1 Q (WE V σ) :=
  ⟨F1, ds, m1, P, _, g1.std, r1, p1, fun v H2 F2 d m2 p g2 r2 => q v H2 F2 d m2 p (g1.trans g2) r2, fun c es H2 F2 m2 cls dd z g2 r => kx σ H2 F2 ρ m2 c es cls dd z (g1.trans g2) (S.go (g1.trans g2)) r⟩
theorem se_call {x : Str} {k j : Nat} {s : ASp} (c : Cal X.prog X.w X.K X.mg X.base k x (spA X.K s)) (hr : Room j X.A) (ha : SA X (e :: es) ts) (hk : k ≤ j := by decide) (hg : Gl X x := by rfl)
    (hdb : (x == ("__debug__" : Str)) = false := by decide) (he : starEach (e :: es) X.env = (false, eval e X.env) :: starEach es X.env := by rfl) (hpl : (backTo pos (starEach es X.env)).any (·.1) = false := by rfl) :
    SE X (.Call (.Name x p) (e :: es) [] pos) (.call s ts) := ⟨fun ρ m P Z p => ⟨fun F0 σ H F S Q V tk q kx => by
  obtain ⟨f, fd, ps, G, hm, kp, bi⟩ := c.ex
  refine wE_of (pe_callS G (hr.mono hk) hg hm kp bi (fun σ => passAt tk σ) pa_w hdb he hpl) ?_
  refine (ha.go ρ m _ Z p).run F0 σ H F S _ V tk (fun vs H1 F1 ds m1 p1 g1 r1 => ?_) kx
  exact spA_run S g1 r1 p1 q kx⟩⟩
theorem methS {C f : Addr} {k : Nat} {fd : FuncData} {ps : List Str} {sp : Sp} {V : WX} {m : Str} {ta : TE} {t : TA} {pl : Sem Bool} (he : PE X o ta) (c : L2.Cls X.K C) (hm : Meth X.K C m f) (F : FnOk X.prog X.w X.K X.mg X.base (L2.CX X.prog X.w) k f fd ps sp) (hr : Room k X.A) (hb : Binds X.K fd ps []) (tk : Takes X V) (ha : PA X (e :: es) t)
    (hst : starEach (e :: es) X.env = (false, eval e X.env) :: starEach es X.env) (hpl : (backTo pos (starEach es X.env)).any (·.1) = false)
    (ht : eval (.Call (.Attribute o m apos) (e :: es) [] pos) X.env = (do
      let ov ← eval o X.env
      standAt apos.atName
      let (f, first) ← holding [ov] (getMethod ov m pl)
      callWith pos f first (backTo pos (starEach (e :: es) X.env)) (backToKw pos (keywordEach [] X.env)))) :
    PE X (.Call (.Attribute o m apos) (e :: es) [] pos) (fun σ H Q => ta σ H fun x H1 => ∃ a dx fs, x = .ref a ∧ H1 a = some (.ins C dx fs) ∧ fs.lookup m = none ∧ t σ H1 fun vs H2 => sp (x :: vs) H2 Q (WE V σ)) := by
  refine ⟨fun pins s σ H Q I h => ?_⟩
  refine PySem.W.methodCall_KW (pl := pl) (thn (he.run pins s σ H _ I h) fun u s1 ⟨x, H1, I1, rx, a, dx, fs, ex, ea, l, q⟩ => ?_) ht
  subst ex
  obtain rfl : u = Value.ref a := rx
  refine getmeth_ok I1 ea c hm l ?_
  refine PySem.W.callWith_K (first := [.ref a]) (h₀ := X.base) I.ok.mod.kin hm.kp (thn (ha.run pos pins s1 σ H1 _ I1 q) fun us s2 ⟨vs, H2, I2, r, q2⟩ => ⟨I2.kIn, ?_⟩) hst hpl
  exact run_fnS (us := .ref a :: us) (vs := .ref a :: vs) F hr hb (passAt tk σ) I2 (.cons rfl r) q2
theorem methS0 {C f : Addr} {k : Nat} {fd : FuncData} {ps : List Str} {sp : Sp} {V : WX} {m : Str} {ta : TE} {pl : Sem Bool} (he : PE X o ta) (c : L2.Cls X.K C) (hm : Meth X.K C m f) (F : FnOk X.prog X.w X.K X.mg X.base (L2.CX X.prog X.w) k f fd ps sp) (hr : Room k X.A) (hb : Binds X.K fd ps []) (tk : Takes X V)
    (ht : eval (.Call (.Attribute o m apos) [] [] pos) X.env = (do
      let ov ← eval o X.env
      standAt apos.atName
      let (f, first) ← holding [ov] (getMethod ov m pl)
      callWith pos f first (backTo pos (starEach [] X.env)) (backToKw pos (keywordEach [] X.env)))) :
    PE X (.Call (.Attribute o m apos) [] [] pos) (fun σ H Q => ta σ H fun x H1 => ∃ a dx fs, x = .ref a ∧ H1 a = some (.ins C dx fs) ∧ fs.lookup m = none ∧ sp [x] H1 Q (WE V σ)) := by
  refine ⟨fun pins s σ H Q I h => ?_⟩
  refine PySem.W.methodCall_KW (pl := pl) (thn (he.run pins s σ H _ I h) fun u s1 ⟨x, H1, I1, rx, a, dx, fs, ex, ea, l, q⟩ => ?_) ht
  subst ex
  obtain rfl : u = Value.ref a := rx
  refine getmeth_ok I1 ea c hm l ?_
  exact PySem.W.callWith_K0 (first := [.ref a]) I1.kIn hm.kp (run_fnS (us := [.ref a]) (vs := [.ref a]) F hr hb (passAt tk σ) I1 (.cons rfl .nil) q)
theorem lookup_zip_none : ∀ {ns : List Str} {vs : List V} {m : Str}, m ∉ ns → (ns.zip vs).lookup m = none
  | [], _, _, _ => by simp
  | n :: ns, [], _, _ => by simp
  | n :: ns, v :: vs, m, h => by
    have ne : (m == n) = false := beq_eq_false_iff_ne.mpr fun z => h (by simp [z])
    show List.lookup m ((n, v) :: ns.zip vs) = none
    rw [List.lookup_cons, ne]
    exact lookup_zip_none fun z => h (List.mem_cons_of_mem _ z)
theorem ins_at {K : PySem.W.Frag} {m : MS} {H F : Hp} {p : Addr} {c : Cls} {xs : List D} (s : Std K m H F) (h : m p = some (.ins c xs)) : ∃ C dx vs, clsAt K c.name C ∧ H p = some (.ins C dx (c.flds.zip vs)) ∧ xs.length ≤ c.fs.length ∧ Rps K F vs xs := by
  obtain ⟨C, dx, vs, h1, h2, h3, h4⟩ := s.cells p _ h
  refine ⟨C, dx, vs, h1, ?_, by simpa using h3, h4⟩
  rw [h2, zip_take h4.length]
theorem se_meth {c : Cls} {mn : Str} {k j : Nat} {s : ASp} (hc : MCal X.prog X.w X.K X.mg X.base k c mn (spA X.K s)) (hr : Room j X.A) (ho : SE X o to) (ha : SA X (e :: es) ts) (hk : k ≤ j := by decide) (hn : mn ∉ c.flds := by decide)
    (hst : starEach (e :: es) X.env = (false, eval e X.env) :: starEach es X.env := by rfl) (hpl : (backTo pos (starEach es X.env)).any (·.1) = false := by rfl) {pl : Sem Bool}
    (ht : eval (.Call (.Attribute o mn apos) (e :: es) [] pos) X.env = (do
      let ov ← eval o X.env
      standAt apos.atName
      let (f, first) ← holding [ov] (getMethod ov mn pl)
      callWith pos f first (backTo pos (starEach (e :: es) X.env)) (backToKw pos (keywordEach [] X.env))) := by rfl) :
    SE X (.Call (.Attribute o mn apos) (e :: es) [] pos) (.meth c s to ts) := ⟨fun ρ m P Z p => ⟨fun F0 σ H F S Q V tk q kx => by
  obtain ⟨C, f, fd, ps, G, hC, cl, hm, bi⟩ := hc.ex
  refine wE_of (methS pe_w cl hm G (hr.mono hk) bi tk pa_w hst hpl ht) ?_
  refine (ho.go ρ m _ Z p).run F0 σ H F S _ V tk (fun x H1 F1 d1 m1 p1 g1 r1 => ?_) kx
  obtain ⟨pa, xs, rfl, hp, p1⟩ := p1
  cases r1
  obtain ⟨C', dx, vs, hC', hH, _, _⟩ := ins_at g1.std hp
  obtain rfl := hC.inj hC'
  refine ⟨pa, dx, _, rfl, hH, lookup_zip_none hn, ?_⟩
  refine (ha.go ρ m1 _ Z p1).run F0 σ H1 F1 (S.go g1) _ V tk (fun vs H2 F2 ds m2 p2 g2 r2 => ?_) (kx.go g1)
  exact spA_run S (g1.trans g2) (.cons (.raw _) r2) p2 q kx⟩⟩
theorem se_meth0 {c : Cls} {mn : Str} {k j : Nat} {s : ASp} (hc : MCal X.prog X.w X.K X.mg X.base k c mn (spA X.K s)) (hr : Room j X.A) (ho : SE X o to) (hk : k ≤ j := by decide) (hn : mn ∉ c.flds := by decide) {pl : Sem Bool}
    (ht : eval (.Call (.Attribute o mn apos) [] [] pos) X.env = (do
      let ov ← eval o X.env
      standAt apos.atName
      let (f, first) ← holding [ov] (getMethod ov mn pl)
      callWith pos f first (backTo pos (starEach [] X.env)) (backToKw pos (keywordEach [] X.env))) := by rfl) :
    SE X (.Call (.Attribute o mn apos) [] [] pos) (.meth c s to .nil) := ⟨fun ρ m P Z p => ⟨fun F0 σ H F S Q V tk q kx => by
  obtain ⟨C, f, fd, ps, G, hC, cl, hm, bi⟩ := hc.ex
  refine wE_of (methS0 pe_w cl hm G (hr.mono hk) bi tk ht) ?_
  refine (ho.go ρ m _ Z p).run F0 σ H F S _ V tk (fun x H1 F1 d1 m1 p1 g1 r1 => ?_) kx
  obtain ⟨pa, xs, rfl, hp, p1⟩ := p1
  cases r1
  obtain ⟨C', dx, vs, hC', hH, _, _⟩ := ins_at g1.std hp
  obtain rfl := hC.inj hC'
  refine ⟨pa, dx, _, rfl, hH, lookup_zip_none hn, ?_⟩
  exact spA_run S g1 (.cons (.raw _) .nil) p1 q kx⟩⟩
/-- C(..) -/
theorem run_makeS {C f : Addr} {k : Nat} {fd : FuncData} {ps : List Str} {sp : Sp} {W0 : WX} {pins : List (Addr × Obj)} {σ : L2.St} {H : Hp} {s : Shared} {Q : VK} {us : List Value} {vs : List L2.V} (M : Mk X.K C f) (F : FnOk X.prog X.w X.K X.mg X.base (L2.CX X.prog X.w) k f fd ps sp) (hr : Room (k + 1) X.A) (hb : Binds X.K fd ps [])
    (tk : Takes X W0) (I : Inv X pins σ H s) (r : Vals vs us)
    (h : ∀ x dx, H x = none → H dx = none → dx ≠ x → sp (.ref x :: vs) (upd (upd H dx (.own x)) x (.ins C dx [])) (fun v H2 => v = .non ∧ Q (.ref x) H2) (WE W0 σ)) :
    wpAny (model X.prog X.w) X.A (call (.ref C) us) (EP X pins σ Q) X.xe s := by
  have hq := h (s.heap.objs.size + 1) s.heap.objs.size (I.hok.fresh (Nat.le_succ _)) (I.hok.fresh (Nat.le_refl _)) (Nat.ne_of_lt (Nat.lt_succ_self _))
  have I2 := Inv.made (C := C) I
  have r2 : Vals (L2.V.ref (s.heap.objs.size + 1) :: vs) (Value.ref (s.heap.objs.size + 1) :: us) := .cons rfl r
  have hl : (Value.ref (s.heap.objs.size + 1) :: us).length = ps.length := by
    have e := r2.length
    rw [F.len _ _ _ _ hq] at e
    exact e.symm
  have b := hb _ (Value.ref (s.heap.objs.size + 1) :: us) I2.kIn (by rw [List.append_nil]; exact hl)
  rw [List.append_nil] at b
  refine wpAny_call (make_map (f := f) I.kIn M.makes M.init (beq_iff_eq.mp M.fn) (codeAny_mono (F.run _ X.stack _ _ ⟨Value.ref (s.heap.objs.size + 1) :: us, []⟩ (Value.ref (s.heap.objs.size + 1) :: us) _ _ (WE W0 σ) (hr.make C us [])
    (I2.env0.make C us []) b r2 hq) fun r s' hq' => ?_))
  cases r with
  | error e => exact passAt tk σ pins _ _ e s' I2 hq'
  | ok fl =>
    cases fl with
    | ret u =>
      obtain ⟨v, H', I3, rv, ev, q3⟩ := I2.after hq'
      subst ev
      exact ⟨rv, ⟨L2.V.ref (s.heap.objs.size + 1), H', I3, rfl, q3⟩⟩
    | next => exact False.elim hq'
    | brk => exact False.elim hq'
    | cont => exact False.elim hq'
theorem make_in {F0 : Hp} {σ : L2.St} {H F H1 F1 : Hp} {ρ : Env1} {m m1 : MS} {s : ASp} {ds : List D} {vs : List L2.V} {P : NX} {Z : EX} {Q : VK} {V : WX} {C : Addr} {c : Cls} (hC : clsAt X.K c.name C) (S : StR X.K F0 σ H F ρ m) (g1 : Go X.K m H F m1 H1 F1) (r1 : Rps X.K F1 vs ds)
    (p1 : ∀ p, m1 p = none → s (.raw (.ref p) :: ds) (mset m1 p (.ins c [])) (fun v m2 => v = .non ∧ P (.raw (.ref p)) m2) fun c es m2 => Z c es ρ m2)
    (q : ∀ v H' F' d m', P d m' → Go X.K m H F m' H' F' → Rp X.K F' v d → Q v H') (kx : ExK X F0 m H F Z V) :
    ∀ x dx, H1 x = none → H1 dx = none → dx ≠ x → spA X.K s (.ref x :: vs) (upd (upd H1 dx (.own x)) x (.ins C dx [])) (fun v H2 => v = .non ∧ Q (.ref x) H2) (WE V σ) := by
  intro x dx hx hdx ne
  have j1 : Go X.K m1 H1 F1 m1 (upd H1 dx (.own x)) F1 := Go.junk g1.std hdx
  have hx' : (upd H1 dx (.own x)) x = none := by rw [upd_ne (Ne.symm ne)]; exact hx
  have j2 : Go X.K m1 (upd H1 dx (.own x)) F1 (mset m1 x (.ins c [])) (upd (upd H1 dx (.own x)) x (.ins C dx [])) F1 := Go.cell j1.std hx' ⟨C, dx, [], hC, by rw [upd_same]; simp, Nat.zero_le _, .nil⟩
  refine ⟨F1, .raw (.ref x) :: ds, _, _, _, j2.std, .cons (.raw _) r1, p1 x (g1.std.free hx), ?_, ?_⟩
  · rintro v H2 F2 d m2 ⟨rfl, p⟩ g2 r2
    cases r2
    exact ⟨rfl, q _ H2 F2 _ m2 p (((g1.trans j1).trans j2).trans g2) (.raw _)⟩
  · exact fun c es H2 F2 m2 cls dd z g2 r => kx σ H2 F2 ρ m2 c es cls dd z (((g1.trans j1).trans j2).trans g2) (S.go (((g1.trans j1).trans j2).trans g2)) r
theorem se_make {c : Cls} {x : Str} {k j : Nat} {s : ASp} (hc : KCal X.prog X.w X.K X.mg X.base k c (spA X.K s)) (hr : Room j X.A) (ha : SA X (e :: es) ts) (hx : x = c.name := by rfl) (hk : k + 1 ≤ j := by decide) (hg : Gl X x := by rfl)
    (hdb : (x == ("__debug__" : Str)) = false := by decide) (he : starEach (e :: es) X.env = (false, eval e X.env) :: starEach es X.env := by rfl) (hpl : (backTo pos (starEach es X.env)).any (·.1) = false := by rfl) :
    SE X (.Call (.Name x p) (e :: es) [] pos) (.make c s ts) := ⟨fun ρ m P Z p => ⟨fun F0 σ H F S Q V tk q kx pins s1 I => by
  obtain ⟨C, f, fd, ps, G, hC, hm, M, bi⟩ := hc.ex
  subst hx
  refine wpAny_Call_Name_kw (ld_glob I hg hm ?_ hdb)
  refine PySem.W.callWith_K (h₀ := X.base) I.ok.mod.kin M.kp (thn (((pa_w (X := X) (es := e :: es)).run pos pins s1 σ H (fun vs H1 => ∀ x dx, H1 x = none → H1 dx = none → dx ≠ x → spA X.K s (.ref x :: vs) (upd (upd H1 dx (.own x)) x (.ins C dx [])) (fun v H2 => v = .non ∧ Q (.ref x) H2) (WE V σ)) I) ?_) fun us s2 ⟨vs, H1, I1, r, q⟩ => ⟨I1.kIn, ?_⟩) he hpl
  · refine (ha.go ρ m _ Z p).run F0 σ H F S _ V tk (fun vs H1 F1 ds m1 p1 g1 r1 => ?_) kx
    exact make_in hC S g1 r1 p1 q kx
  · exact run_makeS M G (hr.mono hk) bi tk I1 r q⟩⟩
theorem se_make0 {c : Cls} {x : Str} {k j : Nat} {s : ASp} (hc : KCal X.prog X.w X.K X.mg X.base k c (spA X.K s)) (hr : Room j X.A) (hx : x = c.name := by rfl) (hk : k + 1 ≤ j := by decide) (hg : Gl X x := by rfl)
    (hdb : (x == ("__debug__" : Str)) = false := by decide) : SE X (.Call (.Name x p) [] [] pos) (.make c s .nil) := ⟨fun ρ m P Z p => ⟨fun F0 σ H F S Q V tk q kx pins s1 I => by
  obtain ⟨C, f, fd, ps, G, hC, hm, M, bi⟩ := hc.ex
  subst hx
  refine wpAny_Call_Name_kw (ld_glob I hg hm ?_ hdb)
  exact PySem.W.callWith_K0 I.kIn M.kp (run_makeS (us := []) M G (hr.mono hk) bi tk I .nil (make_in hC S (Go.refl S.std) .nil p q kx))⟩⟩
/-! ### fields -/
def sFld (f : Fld) : BS := fun ds m P => match ds with
  | [.raw (.ref p)] => ∃ c xs, m p = some (.ins c xs) ∧ match getF c.fs xs f with
    | some d => P d m
    | none => False
  | [.exn c xs] => match getF c.fs xs f with
    | some d => P d m
    | none => False
  | _ => False
theorem sFld_of {f : Fld} {d : D} {m : MS} {P : NX} (h : sFld f [d] m P) : (∃ p c xs d', d = .raw (.ref p) ∧ m p = some (.ins c xs) ∧ getF c.fs xs f = some d' ∧ P d' m) ∨ ∃ c xs d', d = .exn c xs ∧ getF c.fs xs f = some d' ∧ P d' m := by
  cases d with
  | raw v =>
    cases v with
    | ref p =>
      obtain ⟨c, xs, e, h⟩ := h
      cases e2 : getF c.fs xs f with
      | none => rw [e2] at h; exact h.elim
      | some d' => rw [e2] at h; exact .inl ⟨p, c, xs, d', rfl, e, e2, h⟩
    | _ => exact h.elim
  | exn c xs =>
    have h : match getF c.fs xs f with | some d => P d m | none => False := h
    cases e2 : getF c.fs xs f with
    | none => rw [e2] at h; exact h.elim
    | some d' => rw [e2] at h; exact .inr ⟨c, xs, d', rfl, e2, h⟩
  | _ => exact h.elim
/-- what an own exception class must have for its instances' fields to be read -/
structure ExnF (K : PySem.W.Frag) (c : Exn) : Prop where
  ex : ∀ C, clsAt K c.name C → PySem.W.findIn K (.ref C) "__getattribute__" = some (some (.builtin "BaseException.__getattribute__")) ∧ PySem.W.findIn K (.ref C) "__getattr__" = some none ∧ PySem.W.subIn K (.ref C) (.type "BaseException") = some true ∧ PySem.W.hasDictIn K C = true ∧
    ∀ f ∈ c.fs, PySem.W.findIn K (.ref C) f.name = some none
theorem pe_attr {f : Str} {te : TE} (he : PE X e te) (hb : attributeBase e f X.env (eval e X.env) = eval e X.env) : PE X (.Attribute e f pos) (fun σ H Q => te σ H fun x H1 => (∃ a C dx fs v, x = .ref a ∧ H1 a = some (.ins C dx fs) ∧ L2.Cls X.K C ∧ NoAttr X.K C f ∧ fs.lookup f = some v ∧ Q v H1) ∨
    ∃ a C q fs v, x = .ref a ∧ H1 a = some (ExV a (.ref C) (some q)) ∧ H1 q = some (.xd fs) ∧ PySem.W.findIn X.K (.ref C) "__getattribute__" = some (some (.builtin "BaseException.__getattribute__")) ∧ PySem.W.findIn X.K (.ref C) "__getattr__" = some none ∧ PySem.W.subIn X.K (.ref C) (.type "BaseException") = some true ∧ PySem.W.hasDictIn X.K C = true ∧
      PySem.W.findIn X.K (.ref C) f = some none ∧ fs.lookup f = some v ∧ Q v H1) := by
  refine ⟨fun pins s σ H Q I h => ?_⟩
  refine attr_of hb (thn (he.run pins s σ H _ I h) fun u s1 ⟨x, H1, I1, rx, q⟩ => ?_)
  rcases q with ⟨a, C, dx, fs, v, ex, ea, c, n, l, q⟩ | ⟨a, C, qa, fs, v, ex, ea, eq, g1, g2, g3, g4, g5, l, q⟩
  · subst ex
    obtain rfl : u = Value.ref a := rx
    exact getattr_ok I1 ea c n l fun u' s2 I2 ru => ⟨v, H1, I2, ru, q⟩
  · subst ex
    obtain rfl : u = Value.ref a := rx
    obtain ⟨oe, vs, ho, hz, hd⟩ := exV_at I1.hok ea
    have hx : ObjOk X.prog X.w H1 s1.heap qa (.xd fs) := I1.hok qa _ eq
    obtain ⟨mA, hns, hr⟩ := hx
    obtain ⟨od, hod, hl⟩ := lookIn_ns hns
    obtain ⟨u, hu, ru⟩ := RelO.some_of (v := v) (o := mA f) (by rw [← l]; exact hr f)
    have J : PySem.W.InstAt s1.heap a oe C (some od) := ⟨ho, hz.1, by unfold PySem.W.notCls; rw [hd] <;> rfl, by rw [hz.2]; exact hod⟩
    exact HandSPX.exc_get I1.kIn J g1 g2 g3 (PySem.W.findObj_own g4 g5 rfl (by rw [hl, hu])) (handed_of ru) ⟨v, H1, I1.tok _, ru, q⟩
theorem getF_mem : ∀ {fs : List Fld} {xs : List D} {f : Fld} {d : D}, getF fs xs f = some d → f ∈ fs
  | [], xs, _, _, h => by cases xs <;> cases h
  | f :: fs, [], _, _, h => by cases h
  | f :: fs, x :: xs, g, d, h => by
    unfold getF at h
    by_cases e : f = g
    · rw [e]; exact List.mem_cons_self
    · rw [if_neg e] at h
      exact List.mem_cons_of_mem _ (getF_mem h)
theorem setF_mem : ∀ {fs : List Fld} {xs xs' : List D} {f : Fld} {d : D}, setF fs xs f d = some xs' → f ∈ fs
  | [], xs, _, _, _, h => by cases xs <;> cases h
  | f :: fs, [], _, g, _, h => by
    unfold setF at h
    split at h
    · rename_i e; rw [e]; exact List.mem_cons_self
    · cases h
  | f :: fs, x :: xs, _, g, d, h => by
    unfold setF at h
    split at h
    · rename_i e; rw [e]; exact List.mem_cons_self
    · split at h
      · rename_i e2
        exact List.mem_cons_of_mem _ (setF_mem e2)
      · cases h
theorem se_fld {f : Fld} {fn : Str} (TC : ∀ c, ClsF X.K c) (TE : ∀ c, ExnF X.K c) (he : SE X e t) (hf : f.name = fn := by rfl) (hb : attributeBase e fn X.env (eval e X.env) = eval e X.env := by rfl) : SE X (.Attribute e fn pos) (.bop (sFld f) (.cons t .nil)) := ⟨fun ρ m P Z p => ⟨fun F0 σ H F S Q V tk q kx => by
  subst hf
  refine wE_of (pe_attr pe_w hb) ?_
  refine (he.go ρ m _ Z p).run F0 σ H F S _ V tk (fun x H1 F1 d1 m1 p1 g1 r1 => ?_) kx
  rcases sFld_of p1 with ⟨pa, c, xs, d', rfl, hp, hg, p2⟩ | ⟨c, xs, d', rfl, hg, p2⟩
  · cases r1
    obtain ⟨C, dx, vs, hC, hH, _, rs⟩ := ins_at g1.std hp
    obtain ⟨v, hl, rv⟩ := lookup_getF hg rs
    obtain ⟨cl, na⟩ := (TC c).ex C hC
    exact .inl ⟨pa, C, dx, _, v, rfl, hH, cl, na f (getF_mem hg), hl, q v H1 F1 d' m1 p2 g1 rv⟩
  · cases r1 with
    | exn0 h1 h2 h3 =>
      exfalso
      have := getF_mem hg
      have h1' : c.fs = [] := by simpa using h1
      rw [h1'] at this
      cases this
    | @exn1 a C qa _ vs _ h1 h0 h2 h3 h4 h5 =>
      obtain ⟨v, hl, rv⟩ := lookup_getF hg h5
      obtain ⟨a1, a2, a3, a4, a5⟩ := (TE c).ex C h2
      exact .inr ⟨a, C, qa, _, v, rfl, g1.std.at h3, g1.std.at h4, a1, a2, a3, a4, a5 f (getF_mem hg), hl, q v H1 F1 d' m1 p2 g1 rv⟩⟩⟩
theorem ins_put {K : PySem.W.Frag} {m : MS} {H F : Hp} {p C dx : Addr} {c : Cls} {xs xs' : List D} {vs : List V} {f : Fld} {d : D} {v : V} (s : Std K m H F) (hp : m p = some (.ins c xs)) (hC : clsAt K c.name C) (hl : xs.length ≤ c.fs.length) (rs : Rps K F vs xs) (hs : setF c.fs xs f d = some xs') (rv : Rp K F v d) :
    Go K m H F (mset m p (.ins c xs')) (upd H p (.ins C dx (putF f.name v (c.flds.zip vs)))) F := by
  obtain ⟨vs', h1, h2⟩ := putF_setF hs rs rv
  refine Go.put s hp ⟨C, dx, vs', hC, ?_, by simpa using setF_len hs hl, h2⟩
  rw [upd_same, zip_take h2.length, h1]
theorem s_fset {f : Fld} {fn : Str} (TC : ∀ c, ClsF X.K c) (ho : SE X o to) (hv : SE X value te) (hf : f.name = fn := by rfl) (hs : swapsWith value (some (.Attribute o fn pos')) pos.line X.env = pure false := by rfl) : SS1 X (.Assign [.Attribute o fn pos'] value pos) (.fset f to te) := ⟨fun ρ m A p => ⟨fun F0 σ H F S E V tk k => by
  subst hf
  refine wS_of (ps_fld pe_w pe_w hs) ?_
  refine (hv.go ρ m _ _ p).run F0 σ H F S _ V tk (fun y H1 F1 d m1 p1 g1 r1 => ?_) k.ex
  refine (ho.go ρ m1 _ _ p1).run F0 σ H1 F1 (S.go g1) _ V tk (fun x H2 F2 dx m2 p2 g2 r2 => ?_) (k.ex.go g1)
  cases dx with
  | raw v =>
    cases v with
    | ref pa =>
      obtain ⟨c, xs, hp, p2⟩ := p2
      cases e2 : setF c.fs xs f d with
      | none => rw [e2] at p2; exact p2.elim
      | some xs' =>
        rw [e2] at p2
        cases r2
        obtain ⟨C, dx, vs, hC, hH, hl, rs⟩ := ins_at g2.std hp
        obtain ⟨cl, na⟩ := (TC c).ex C hC
        refine ⟨pa, C, dx, _, rfl, hH, cl, na f (setF_mem e2), ?_, ?_⟩
        · have : c.fs.length ≤ 13 := by cases c <;> decide
          have l2 := rs.length
          rw [List.length_zip, List.length_map]
          omega
        · have g3 := ins_put (C := C) (dx := dx) g2.std hp hC hl rs e2 (r1.up g2.grow _)
          exact k.nx σ _ F2 ρ _ p2 ((g1.trans g2).trans g3) (((S.go g1).go g2).go g3)
    | _ => exact p2.elim
  | _ => exact p2.elim⟩⟩
/-- o.f += e -/
theorem s_faug {f : Fld} {fn : Str} (TC : ∀ c, ClsF X.K c) (ho : SE X o to) (hv : SE X value te) (hf : f.name = fn := by rfl) : SS1 X (.AugAssign (.Attribute o fn pos') .Add value pos) (.faug f to te) := ⟨fun ρ m A p => ⟨fun F0 σ H F S E V tk k => by
  subst hf
  refine wS_of (ps_fldaug pe_w pe_w in_add) ?_
  refine (ho.go ρ m _ _ p).run F0 σ H F S _ V tk (fun x H1 F1 dx m1 p1 g1 r1 => ?_) k.ex
  cases dx with
  | raw v =>
    cases v with
    | ref pa =>
      obtain ⟨c, xs, hp, p1⟩ := p1
      cases e1 : getF c.fs xs f with
      | none => rw [e1] at p1; exact p1.elim
      | some d0 =>
        rw [e1] at p1
        cases d0 with
        | int i =>
          cases r1
          obtain ⟨C, dx, vs, hC, hH, hl, rs⟩ := ins_at g1.std hp
          obtain ⟨cl, na⟩ := (TC c).ex C hC
          obtain ⟨v0, hlk, rv0⟩ := lookup_getF e1 rs
          refine ⟨pa, C, dx, _, v0, rfl, hH, cl, na f (getF_mem e1), hlk, ?_⟩
          have p1 : W te ρ m1 _ _ := p1
          refine (hv.go ρ m1 _ _ p1).run F0 σ H1 F1 (S.go g1) _ V tk (fun y H2 F2 d m2 p2 g2 r2 => ?_) (k.ex.go g1)
          obtain ⟨hp2, p2⟩ := p2
          cases d with
          | int j =>
            have p2 : match setF c.fs xs f (.int (i + j)) with | some xs' => A.nx ρ (mset m2 pa (.ins c xs')) | none => False := p2
            cases e2 : setF c.fs xs f (.int (i + j)) with
            | none => rw [e2] at p2; exact p2.elim
            | some xs' =>
              rw [e2] at p2
              cases r2
              cases rv0
              obtain ⟨C', dx', vs', hC', hH', hl', rs'⟩ := ins_at g2.std hp2
              obtain rfl := hC.inj hC'
              refine ⟨i, j, rfl, rfl, dx', _, hH', ?_, ?_⟩
              · have : c.fs.length ≤ 13 := by cases c <;> decide
                rw [List.length_zip, List.length_map]
                omega
              · have g3 := ins_put (C := C) (dx := dx') g2.std hp2 hC hl' rs' e2 (.int (i + j))
                exact k.nx σ _ F2 ρ _ p2 ((g1.trans g2).trans g3) (((S.go g1).go g2).go g3)
          | _ => exact p2.elim
        | _ => exact p1.elim
    | _ => exact p1.elim
  | _ => exact p1.elim⟩⟩
end
end Nu

namespace Nu
open PySem PySem.Spec L2
open PyProof.Rows hiding St
/-! ### operators: what they ask, and that they do so -/
section
variable {K : PySem.W.Frag} {H F : Hp} {m : MS} {P : NX} {Q : VK} {ds es : List D} {vs : List V}
theorem rp_tup {p : Addr} (h : H p = some (.tup vs)) (r : Rps K H vs ds) : Rp K H (.ref p) (.tup ds) := .tup (.inl (.inl h)) r
theorem newL_q (n : NewL ds m P) (s : Std K m H F) (r : Rps K F vs ds) (q : ∀ v H' F' d m', P d m' → Go K m H F m' H' F' → Rp K F' v d → Q v H') : ∀ p, H p = none → Q (.ref p) (upd H p (.lst vs)) := fun p hp => by
  rcases n with n | n
  · exact q _ _ _ _ _ n (Go.new s hp) (.lst upd_same (Rps.up (Go.new s hp).grow _ r))
  · exact q _ _ _ _ _ (n p (s.free hp)) (Go.cell s hp ⟨vs, upd_same, r⟩) (.raw _)
theorem newT_q (n : P (.tup ds) m) (s : Std K m H F) (r : Rps K F vs ds) (q : ∀ v H' F' d m', P d m' → Go K m H F m' H' F' → Rp K F' v d → Q v H') : ∀ p, H p = none → Q (.ref p) (upd H p (.tup vs)) := fun p hp =>
  q _ _ _ _ _ n (Go.new s hp) (.tup (.inl (.inl upd_same)) (Rps.up (Go.new s hp).grow _ r))
/-- a list that may stand as data or as a cell, in the heap itself -/
def asL (d : D) (m : MS) (R : List D → Prop) : Prop := match d with
  | .lst xs => R xs
  | .raw (.ref p) => ∃ xs, m p = some (.lst xs) ∧ R xs
  | _ => False
theorem asL_use {d : D} {v : V} {R : List D → Prop} (h : asL d m R) (s : Std K m H F) (r : Rp K F v d) : ∃ a xs vs, v = .ref a ∧ R xs ∧ H a = some (.lst vs) ∧ Rps K F vs xs := by
  cases d with
  | lst xs =>
    cases r with
    | @lst a vs _ h1 h2 => exact ⟨a, xs, vs, rfl, h, s.at h1, h2⟩
  | raw w =>
    cases w with
    | ref p =>
      cases r
      obtain ⟨xs, e, h⟩ := h
      obtain ⟨vs, h1, h2⟩ := s.cells p _ e
      exact ⟨p, xs, vs, rfl, h, h1, h2⟩
    | _ => exact h.elim
  | _ => exact h.elim
def seqR (d : D) (m : MS) (R : List D → Prop) : Prop := seqD d m fun xs _ => R xs
theorem seqR_use {d : D} {v : V} {R : List D → Prop} (h : seqR d m R) (s : Std K m H F) (r : Rp K F v d) : ∃ a tp xs vs, v = .ref a ∧ R xs ∧ SqA K tp H a vs ∧ Rps K F vs xs := by
  obtain ⟨a, tp, xs, GG, e, h1, g, w⟩ := seqD_use h s r
  obtain ⟨vs, h2, h3⟩ := w m H F (Same.refl _) s g
  exact ⟨a, tp, xs, vs, e, h1, h2, h3⟩
theorem rps1 {vs : List V} {d : D} (h : Rps K F vs [d]) : ∃ v, vs = [v] ∧ Rp K F v d := by
  cases h with
  | cons h1 h2 => cases h2; exact ⟨_, rfl, h1⟩
theorem rps2 {vs : List V} {d e : D} (h : Rps K F vs [d, e]) : ∃ v w, vs = [v, w] ∧ Rp K F v d ∧ Rp K F w e := by
  cases h with
  | cons h1 h2 =>
    obtain ⟨w, rfl, h3⟩ := rps1 h2
    exact ⟨_, w, rfl, h1, h3⟩
theorem rps3 {vs : List V} {d e f : D} (h : Rps K F vs [d, e, f]) : ∃ v w x, vs = [v, w, x] ∧ Rp K F v d ∧ Rp K F w e ∧ Rp K F x f := by
  cases h with
  | cons h1 h2 =>
    obtain ⟨w, x, rfl, h3⟩ := rps2 h2
    exact ⟨_, w, x, rfl, h1, h3⟩
end
/-! + -/
def sAdd : BS := fun ds m P => match ds with
  | [.int i, .int j] => P (.int (i + j)) m
  | [.str a, .str b] => a.length + b.length ≤ sizeLine ∧ P (.str (a ++ b)) m
  | [.tup xs, .tup ys] => xs.length + ys.length ≤ 100000 ∧ P (.tup (xs ++ ys)) m
  | [.fls xs, d2] => asL d2 m fun ys => xs.length + ys.length ≤ 100000 ∧ NewL (xs ++ ys) m P
  | [d1, d2] => asL d1 m fun xs => asL d2 m fun ys => xs.length + ys.length ≤ 100000 ∧ NewL (xs ++ ys) m P
  | _ => False
/-- a list that is only read, and another one -/
def rCatF (K : PySem.W.Frag) : R2 := fun x y H Q => ∃ l b xs zs, x = .ref l ∧ y = .ref b ∧ LsA K H l xs ∧ H b = some (.lst zs) ∧ xs.length + zs.length ≤ sizeLine ∧ ∀ p, H p = none → Q (.ref p) (upd H p (.lst (xs ++ zs)))
theorem op_catF {X : Cx} : OpR X (binaryOp .Add) (rCatF X.K) := fun pins s σ H x y v u Q I rx ry h => by
  obtain ⟨l, b, xs, zs, rfl, rfl, hl, hb, hz, q⟩ := h
  cases rx; cases ry
  obtain ⟨z2, js, n2, r2, c2, e2⟩ := I.lstM hb
  have one : ∃ (is : List Value) (n : Nat), Vals xs is ∧ s.heap.get? l = some { cls := .type "list", data := .seq is.toArray n } := by
    rcases hl with hl | ⟨its, n, h1, h2, h3⟩
    · obtain ⟨_, is, n, r, e⟩ := hl.ok I.hok
      exact ⟨is, n, r, e⟩
    · exact ⟨its.toList, n, h3, by rw [Array.toArray_toList]; exact I.kIn l _ h1⟩
  obtain ⟨is, n, r, e⟩ := one
  have n1 := r.length
  have m1 := r2.length
  refine PySem.P.add_list e e2 ?_ (by simp only [List.size_toArray]; omega)
  rw [show is.toArray ++ js.toArray = (is ++ js).toArray by simp]
  exact ⟨.ref _, _, I.lnew (t' := s.toks) (r.append r2) (by rw [List.length_append]; omega), rfl, q _ I.fresh⟩
def rAdds (K : PySem.W.Frag) : R2 := fun x y H Q => rI0 (fun i j => .int (i + j)) x y H Q ∨ (∃ i j, x = .str i ∧ y = .str j ∧ i.length + j.length ≤ sizeLine ∧ Q (.str (i ++ j)) H) ∨ rCatA K x y H Q ∨ rCatF K x y H Q ∨ rCat x y H Q
theorem op_adds {X : Cx} : OpR X (binaryOp .Add) (rAdds X.K) := op_add.or (op_add_str.or (op_catA.or (op_catF.or op_cat)))
theorem bok_add {K : PySem.W.Frag} : Bok2 K (rAdds K) sAdd := fun d1 d2 m P h x y H F s r1 r2 Q q => by
  unfold sAdd at h
  split at h
  · rename_i e; cases e
    cases r1; cases r2
    exact .inl ⟨_, _, rfl, rfl, q _ _ _ _ _ h (Go.refl s) (.int _)⟩
  · rename_i e; cases e
    cases r1; cases r2
    exact .inr (.inl ⟨_, _, rfl, rfl, h.1, q _ _ _ _ _ h.2 (Go.refl s) (.str _)⟩)
  · rename_i xs ys e; cases e
    cases r1 with
    | @tup a vs _ h1 h2 =>
      cases r2 with
      | @tup b ws _ h3 h4 =>
        refine .inr (.inr (.inl ⟨a, b, vs, ws, rfl, rfl, Same.seqT s.toH h1, Same.seqT s.toH h3, ?_, fun e => ?_, fun _ e => ?_, fun _ _ p hp => ?_⟩))
        · rw [h2.length, h4.length]; exact Nat.le_trans h.1 (by decide)
        · have e1 : xs = [] := List.eq_nil_of_length_eq_zero (by rw [← h2.length, e]; rfl)
          exact q _ H F _ _ h.2 (Go.refl s) (by rw [e1]; exact .tup h3 h4)
        · have e1 : ys = [] := List.eq_nil_of_length_eq_zero (by rw [← h4.length, e]; rfl)
          exact q _ H F _ _ h.2 (Go.refl s) (by rw [e1, List.append_nil]; exact .tup h1 h2)
        · exact newT_q h.2 s (h2.append h4) q p hp
  · rename_i xs d2' e; cases e
    cases r1 with
    | @fls a vs _ h1 h2 =>
      obtain ⟨b, ys, ws, rfl, h, h3, h4⟩ := asL_use h s r2
      exact .inr (.inr (.inr (.inl ⟨a, b, vs, ws, rfl, rfl, h1.up s.toH, h3, by rw [h2.length, h4.length]; exact Nat.le_trans h.1 (by decide), newL_q h.2 s (h2.append h4) q⟩)))
  · rename_i d1' d2' _ _ _ _ e; cases e
    obtain ⟨a, xs, vs, rfl, h, h1, h2⟩ := asL_use h s r1
    obtain ⟨b, ys, ws, rfl, h, h3, h4⟩ := asL_use h s r2
    exact .inr (.inr (.inr (.inr ⟨a, b, vs, ws, rfl, rfl, h1, h3, by rw [h2.length, h4.length]; exact Nat.le_trans h.1 (by decide), newL_q h.2 s (h2.append h4) q⟩)))
  · exact h.elim
/-! - // % -/
def sSub : BS := fun ds m P => match ds with
  | [.int i, .int j] => P (.int (i - j)) m
  | _ => False
def sFdv : BS := fun ds m P => match ds with
  | [.int i, .int j] => (0 < j ∧ j < 2 ^ 200) ∧ P (.int (i / j)) m
  | _ => False
def sMod : BS := fun ds m P => match ds with
  | [.int i, .int j] => 0 < j ∧ P (.int (i % j)) m
  | _ => False
theorem divW_of {i j : Int} (h : 0 < j ∧ j < 2 ^ 200) : CDivW i j := ⟨h.1, by
  have h2 : j.natAbs < 2 ^ 200 := by have := h.2; omega
  have : j.natAbs.log2 < 200 := (Nat.log2_lt (by have := h.1; omega)).mpr h2
  omega⟩
theorem bok_I {K : PySem.W.Frag} {C : Int → Int → Prop} {C' : Int → Int → Prop} {g : Int → Int → V} {gd : Int → Int → D} {s : BS} (hs : ∀ d1 d2 m P, s [d1, d2] m P → ∃ i j, d1 = .int i ∧ d2 = .int j ∧ C i j ∧ P (gd i j) m) (hg : ∀ F i j, Rp K F (g i j) (gd i j)) : Bok2 K (rI C g) s := fun d1 d2 m P h x y H F sd r1 r2 Q q => by
  obtain ⟨i, j, rfl, rfl, c, p⟩ := hs _ _ _ _ h
  cases r1; cases r2
  exact ⟨i, j, rfl, rfl, c, q _ _ _ _ _ p (Go.refl sd) (hg F i j)⟩
theorem bok_I0 {K : PySem.W.Frag} {g : Int → Int → V} {gd : Int → Int → D} {s : BS} (hs : ∀ d1 d2 m P, s [d1, d2] m P → ∃ i j, d1 = .int i ∧ d2 = .int j ∧ P (gd i j) m) (hg : ∀ F i j, Rp K F (g i j) (gd i j)) : Bok2 K (rI0 g) s := fun d1 d2 m P h x y H F sd r1 r2 Q q => by
  obtain ⟨i, j, rfl, rfl, p⟩ := hs _ _ _ _ h
  cases r1; cases r2
  exact ⟨i, j, rfl, rfl, q _ _ _ _ _ p (Go.refl sd) (hg F i j)⟩
theorem bok_sub {K : PySem.W.Frag} : Bok2 K (rI0 fun i j => .int (i - j)) sSub := bok_I0 (gd := fun i j => .int (i - j)) (fun d1 d2 m P h => by
  unfold sSub at h
  split at h
  · rename_i e; cases e; exact ⟨_, _, rfl, rfl, h⟩
  · exact h.elim) fun _ _ _ => .int _
theorem bok_fdv {K : PySem.W.Frag} : Bok2 K (rI CDivW fun i j => .int (i / j)) sFdv := bok_I (C' := CDivW) (gd := fun i j => .int (i / j)) (fun d1 d2 m P h => by
  unfold sFdv at h
  split at h
  · rename_i e; cases e; exact ⟨_, _, rfl, rfl, divW_of h.1, h.2⟩
  · exact h.elim) fun _ _ _ => .int _
theorem bok_mod {K : PySem.W.Frag} : Bok2 K (rI (fun _ j => 0 < j) fun i j => .int (i % j)) sMod := bok_I (C' := fun _ j => 0 < j) (gd := fun i j => .int (i % j)) (fun d1 d2 m P h => by
  unfold sMod at h
  split at h
  · rename_i e; cases e; exact ⟨_, _, rfl, rfl, h.1, h.2⟩
  · exact h.elim) fun _ _ _ => .int _
/-! * -/
theorem tuple_mul1 (l : Addr) (items : Array Value) (n : Nat) (dd : Option Addr) (sl : Array (Option Value)) (u : Tok) :
    Meets (Builtin.«tuple.__mul__» ⟨[.ref l, .int 1 u], []⟩) (fun _ R s => s.heap.get? l = some { cls := .type "tuple", dict := dd, data := .seq items n, slots := sl } ∧ R (.ok (.ret (Value.ref l))) s) :=
  .of_wp fun prog w A R s h => by
    obtain ⟨hp, g, d, tk, os⟩ := s
    obtain ⟨hl, h⟩ := h
    have f1 := AutoSeq1.idx_int
    have c1 : (items.isEmpty || (1 : Int) == 1) = true := by simp
    wp_walk using wpAny_loadPart' hl
    exact ⟨_, rfl, h⟩
def rRepT1 (K : PySem.W.Frag) : R2 := fun x y H Q => ∃ l xs, x = .ref l ∧ y = .int 1 ∧ SqT K H l xs ∧ Q (.ref l) H
theorem op_repT1 {X : Cx} : OpR X (binaryOp .Mult) (rRepT1 X.K) := by
  intro pins s σ H x y v u Q I rx ry h
  obtain ⟨l, xs, rfl, rfl, hT, q⟩ := h
  cases rx
  obtain ⟨t, rfl⟩ := ry
  obtain ⟨its, r, ⟨⟨cls, dd, data, sl⟩, ho, hc, n, hd⟩, hs⟩ := I.tuple hT
  simp only at hc hd
  subst hc hd
  refine wpAny_binaryOp_repeat_ref (T := "tuple") (U := "int") (by decide) ⟨_, ho, rfl⟩ (fun s' => typeIs_int s' 1 t) noFill_tuple_mul F.fills_int_mul F.slot_int_rmul repeat_tuple F.slot_int_index.lookup
    (call_meets F.slot_int_rmul (typeIs_int s 1 t) F.entry_int_rmul (F.args_int_rmul_2 _ _) (int_rmul_tuple 1 t l its.toArray n dd sl)
      ⟨ho, rfl, ⟨_, ho, rfl⟩, call_meets F.slot_tuple_mul ⟨_, ho, rfl⟩ F.entry_tuple_mul (F.args_tuple_mul_2 _ _) (tuple_mul1 l its.toArray n dd sl t) ⟨ho, ?_⟩⟩)
  exact ⟨.ref l, H, I, rfl, q⟩
def repS (z : Str) (n : Nat) : Str := ⟨(List.replicate n z.cps).foldl (· ++ ·) #[]⟩
theorem foldl_app_size (z : Array Nat) : ∀ (n : Nat) (acc : Array Nat), ((List.replicate n z).foldl (· ++ ·) acc).size = acc.size + n * z.size
  | 0, acc => by simp
  | n + 1, acc => by
    rw [List.replicate_succ, List.foldl_cons, foldl_app_size z n, Array.size_append, Nat.succ_mul]
    omega
theorem repS_len (z : Str) (n : Nat) : (repS z n).length = n * z.length := by
  show ((List.replicate n z.cps).foldl (· ++ ·) #[]).size = _
  rw [foldl_app_size]; simp [Str.length]
theorem repS_one (z : Str) : repS z 1 = z := by
  unfold repS
  rw [List.replicate_one, List.foldl_cons, List.foldl_nil, Array.empty_append]
def rMulSn : R2 := fun x y H Q => ∃ z k, x = .str z ∧ y = .int k ∧ (0 ≤ k ∧ k ≤ 1000 ∧ 1 ≤ z.length ∧ z.length ≤ 1000) ∧ Q (.str (repS z k.toNat)) H
theorem op_mulSn {X : Cx} : OpR X (binaryOp .Mult) rMulSn := by
  intro pins s σ H x y v u Q I rx ry h
  obtain ⟨z, k, rfl, rfl, ⟨hk1, hk2, hz1, hz2⟩, q⟩ := h
  obtain ⟨t, rfl⟩ := rx
  obtain ⟨t', rfl⟩ := ry
  by_cases hk0 : k = 0
  · subst hk0
    exact PySem.P.mul_str_none (by decide) (by decide) ⟨.str _, H, I.tok _, ⟨_, rfl⟩, q⟩
  have hl : z.length * k.toNat ≤ 1000 * 1000 := Nat.mul_le_mul hz2 (by omega)
  refine PySem.P.mul_str (by rw [decide_eq_false (by omega), decide_eq_false (by omega)]; rfl) (fun _ _ => ?_) (fun _ _ => ?_) ?_
  · have h1 : (1000 : Int) ≤ (2 ^ 63 - 1) / k := by
      rw [Int.le_ediv_iff_mul_le (by omega)]
      omega
    omega
  · unfold Builtin.Str.tooLong
    exact decide_eq_false (by have : (1000 * 1000 : Nat) < sizeLine := by decide
                              omega)
  · rw [if_neg (by omega)]
    by_cases h1 : k = 1
    · subst h1
      rw [if_pos (by simp)]
      rw [show (1 : Int).toNat = 1 from rfl, repS_one] at q
      exact ⟨.str _, H, I, ⟨_, rfl⟩, q⟩
    · rw [if_neg (by simp only [Bool.or_eq_true, beq_iff_eq]; omega)]
      refine ⟨?_, .str _, H, I.tok _, ⟨_, rfl⟩, q⟩
      have := repS_len z k.toNat
      have e2 : k.toNat * z.length = z.length * k.toNat := Nat.mul_comm _ _
      have : (1000 * 1000 : Nat) < sizeLine := by decide
      show (repS z k.toNat).length ≤ sizeLine
      omega
def repL (k : Int) (ds : List D) : List D := (List.replicate k.toNat ds).flatten
theorem Rps.rep {K : PySem.W.Frag} {F : Hp} {vs : List V} {ds : List D} (h : Rps K F vs ds) (n : Nat) : Rps K F (List.replicate n vs).flatten (List.replicate n ds).flatten := by
  induction n with
  | zero => exact .nil
  | succ n ih =>
    rw [List.replicate_succ, List.flatten_cons, List.replicate_succ, List.flatten_cons]
    exact h.append ih
def sMul : BS := fun ds m P => match ds with
  | [.int i, .int j] => CMul i j ∧ P (.int (i * j)) m
  | [.str z, .int k] => (0 ≤ k ∧ k ≤ 1000 ∧ 1 ≤ z.length ∧ z.length ≤ 1000) ∧ P (.str (repS z k.toNat)) m
  | [.tup xs, .int k] => (1 ≤ k ∧ k ≤ 1000 ∧ xs ≠ [] ∧ xs.length ≤ 1000) ∧ P (.tup (repL k xs)) m
  | [d, .int k] => asL d m fun xs => (-(2 ^ 63) ≤ k ∧ k < 2 ^ 63 ∧ xs.length * k.toNat ≤ 100000) ∧ NewL (repL k xs) m P
  | _ => False
def rMuls (K : PySem.W.Frag) : R2 := fun x y H Q => rI CMul (fun i j => .int (i * j)) x y H Q ∨ rMulSn x y H Q ∨ rRepT1 K x y H Q ∨ rRepT K x y H Q ∨ rRep x y H Q
theorem op_muls {X : Cx} : OpR X (binaryOp .Mult) (rMuls X.K) := op_mul.or (op_mulSn.or (op_repT1.or (op_repT.or op_rep)))
theorem bok_mul {K : PySem.W.Frag} : Bok2 K (rMuls K) sMul := fun d1 d2 m P h x y H F s r1 r2 Q q => by
  unfold sMul at h
  split at h
  · rename_i e; cases e
    cases r1; cases r2
    exact .inl ⟨_, _, rfl, rfl, h.1, q _ _ _ _ _ h.2 (Go.refl s) (.int _)⟩
  · rename_i e; cases e
    cases r1; cases r2
    exact .inr (.inl ⟨_, _, rfl, rfl, h.1, q _ _ _ _ _ h.2 (Go.refl s) (.str _)⟩)
  · rename_i xs k e; cases e
    cases r2
    obtain ⟨⟨k1, k2, hn, hl⟩, h⟩ := h
    cases r1 with
    | @tup a vs _ h1 h2 =>
      by_cases hk : k = 1
      · subst hk
        have e : repL 1 xs = xs := by simp [repL]
        rw [e] at h
        exact .inr (.inr (.inl ⟨a, vs, rfl, rfl, Same.seqT s.toH h1, q _ _ _ _ _ h (Go.refl s) (.tup h1 h2)⟩))
      · refine .inr (.inr (.inr (.inl ⟨a, k, vs, rfl, rfl, Same.seqT s.toH h1, ?_, by omega, k2, by rw [h2.length]; exact hl, newT_q h s (h2.rep _) q⟩)))
        intro e
        have := h2.length
        rw [e] at this
        exact hn (List.eq_nil_of_length_eq_zero this.symm)
  · rename_i d1' k _ _ _ e; cases e
    cases r2
    obtain ⟨a, xs, vs, rfl, ⟨⟨k1, k2, hl⟩, h⟩, h1, h2⟩ := asL_use h s r1
    exact .inr (.inr (.inr (.inr ⟨a, k, vs, rfl, rfl, h1, k1, k2, by rw [h2.length]; exact Nat.le_trans hl (by decide), newL_q h s (h2.rep _) q⟩)))
  · exact h.elim
/-! unary minus -/
def sNeg : BS := fun ds m P => match ds with
  | [.int i] => P (.int (-i)) m
  | _ => False
theorem se_neg {X : Cx} {a : Expr} {t : T} {pos : Pos} (h : SE X a t) : SE X (.UnaryOp .USub a pos) (.bop sNeg (.cons t .nil)) := ⟨fun ρ m P Z p => ⟨fun F0 σ H F S Q V tk q kx => by
  refine wE_of (pe_un un_neg pe_w) ?_
  refine (h.go ρ m _ Z p).run F0 σ H F S _ V tk (fun v H1 F1 d m1 p1 g1 r1 => ?_) kx
  cases d with
  | int i =>
    cases r1
    exact ⟨i, rfl, q _ H1 F1 _ m1 p1 g1 (.int _)⟩
  | _ => exact False.elim p1⟩⟩
/-! < <= > >= -/
def Cmp.s : Cmp → Str → Str → Bool
  | .lt, i, j => decide (i.cps.toList < j.cps.toList)
  | .le, i, j => !decide (j.cps.toList < i.cps.toList)
  | .gt, i, j => decide (j.cps.toList < i.cps.toList)
  | .ge, i, j => !decide (i.cps.toList < j.cps.toList)
def rCmps (K : PySem.W.Frag) (o : Cmp) : R2 := fun x y H Q => rI0 (fun i j => .bl (o.b i j)) x y H Q ∨ (∃ i j, x = .str i ∧ y = .str j ∧ Q (.bl (o.s i j)) H) ∨ o = .lt ∧ rLtT K x y H Q
theorem op_cmps {X : Cx} {k : Nat} (hr : Room k X.A) (o : Cmp) : OpR X (compareOp o.op) (rCmps X.K o) := by
  refine (op_cmpI o).or (OpR.or ?_ ?_)
  · cases o
    · exact op_lt_str
    · exact op_le_str
    · exact op_gt_str
    · exact op_ge_str
  · intro pins s σ H x y v u Q I rx ry h
    obtain ⟨rfl, h⟩ := h
    exact op_ltT hr.units0 pins s σ H x y v u Q I rx ry h
def sCmp (o : Cmp) : BS := fun ds m P => match ds with
  | [.int i, .int j] => P (.bl (o.b i j)) m
  | [.str i, .str j] => P (.bl (o.s i j)) m
  | [.tup xs, .tup ys] => o = .lt ∧ ∃ ns ms : List Int, xs = ns.map .int ∧ ys = ms.map .int ∧ P (.bl (HT.lexLt ns ms)) m
  | _ => False
theorem bok_cmp {K : PySem.W.Frag} {o : Cmp} : Bok2 K (rCmps K o) (sCmp o) := fun d1 d2 m P h x y H F s r1 r2 Q q => by
  unfold sCmp at h
  split at h
  · rename_i e; cases e
    cases r1; cases r2
    exact .inl ⟨_, _, rfl, rfl, q _ _ _ _ _ h (Go.refl s) (.bl _)⟩
  · rename_i e; cases e
    cases r1; cases r2
    exact .inr (.inl ⟨_, _, rfl, rfl, q _ _ _ _ _ h (Go.refl s) (.bl _)⟩)
  · rename_i e; cases e
    obtain ⟨rfl, ns, ms, rfl, rfl, h⟩ := h
    cases r1 with
    | @tup a vs _ h1 h2 =>
      cases r2 with
      | @tup b ws _ h3 h4 =>
        have e1 := h2.ints
        have e2 := h4.ints
        subst e1 e2
        exact .inr (.inr ⟨rfl, a, b, ns, ms, rfl, rfl, Same.seqT s.toH h1, Same.seqT s.toH h3, q _ _ _ _ _ h (Go.refl s) (.bl _)⟩)
  · exact h.elim
/-! ### data compared as data -/
mutual
def toPy : D → PyData
  | .non => .none
  | .bl b => .bool b
  | .int i => .int i
  | .str s => .str s
  | .lst ds => .list (toPys ds)
  | .tup ds => .tuple (toPys ds)
  | .fls ds => .list (toPys ds)
  | .ptp ds => .tuple (toPys ds)
  | .exn _ _ => .none
  | .raw _ => .none
def toPys : List D → List PyData
  | [] => []
  | d :: ds => toPy d :: toPys ds
end
mutual
/-- data that == takes: no references, texts of real signs, not too deep -/
def plD : Nat → D → Bool
  | _, .non => true
  | _, .bl _ => true
  | _, .int _ => true
  | _, .str s => PyData.strOk s
  | 0, .lst _ => false
  | n + 1, .lst ds => plDs n ds
  | 0, .tup _ => false
  | n + 1, .tup ds => plDs n ds
  | _, .fls _ => false
  | _, .ptp _ => false
  | _, .exn _ _ => false
  | _, .raw _ => false
def plDs : Nat → List D → Bool
  | _, [] => true
  | n, d :: ds => plD n d && plDs n ds
end
mutual
theorem canLay_of : ∀ (n : Nat) (d : D), plD n d = true → (toPy d).canLay0 = true ∧ (toPy d).depth ≤ n
  | _, .non, _ => ⟨rfl, Nat.zero_le _⟩
  | _, .bl _, _ => ⟨rfl, Nat.zero_le _⟩
  | _, .int _, _ => ⟨rfl, Nat.zero_le _⟩
  | _, .str s, h => by
    have h' : PyData.strOk s = true := by unfold plD at h; exact h
    exact ⟨by unfold toPy PyData.canLay0; exact h', by unfold toPy PyData.depth; exact Nat.zero_le _⟩
  | 0, .lst _, h => by unfold plD at h; cases h
  | n + 1, .lst ds, h => by
    unfold plD at h
    obtain ⟨a, b⟩ := canLays_of n ds h
    exact ⟨by unfold toPy PyData.canLay0; exact a, by unfold toPy PyData.depth; omega⟩
  | 0, .tup _, h => by unfold plD at h; cases h
  | n + 1, .tup ds, h => by
    unfold plD at h
    obtain ⟨a, b⟩ := canLays_of n ds h
    exact ⟨by unfold toPy PyData.canLay0; exact a, by unfold toPy PyData.depth; omega⟩
  | _, .fls _, h => by unfold plD at h; cases h
  | _, .ptp _, h => by unfold plD at h; cases h
  | _, .exn _ _, h => by unfold plD at h; cases h
  | _, .raw _, h => by unfold plD at h; cases h
theorem canLays_of : ∀ (n : Nat) (ds : List D), plDs n ds = true → PyData.canLayAll0 (toPys ds) = true ∧ PyData.depthAll (toPys ds) ≤ n
  | _, [], _ => ⟨rfl, Nat.zero_le _⟩
  | n, d :: ds, h => by
    unfold plDs at h
    obtain ⟨h1, h2⟩ := Bool.and_eq_true_iff.mp h
    obtain ⟨a1, a2⟩ := canLay_of n d h1
    obtain ⟨b1, b2⟩ := canLays_of n ds h2
    exact ⟨by unfold toPys PyData.canLayAll0; rw [a1, b1]; rfl, by unfold toPys PyData.depthAll; omega⟩
end
theorem shaped_of {n : Nat} {d : D} (h : plD n d = true) (hn : n ≤ 64) : SeqAt.shaped (toPy d) = true := by
  obtain ⟨a, b⟩ := canLay_of n d h
  unfold SeqAt.shaped
  rw [a, decide_eq_true (Nat.le_trans b hn)]
  rfl
def eqD (d e : D) : Bool := PyData.eqv (toPy d) (toPy e)
mutual
def noBl : D → Bool
  | .bl _ => false
  | .lst ds => noBls ds
  | .tup ds => noBls ds
  | .raw _ => false
  | .exn _ _ => false
  | .fls _ => false
  | .ptp _ => false
  | .non => true
  | .int _ => true
  | .str _ => true
def noBls : List D → Bool
  | [] => true
  | d :: ds => noBl d && noBls ds
end
mutual
theorem eqv_iff : ∀ (d e : D), noBl d = true → noBl e = true → (PyData.eqv (toPy d) (toPy e) = true ↔ d = e)
  | .non, e, _, h => by cases e <;> simp [toPy, PyData.eqv, noBl] at *
  | .int i, e, _, h => by cases e <;> simp [toPy, PyData.eqv, noBl] at *
  | .str i, e, _, h => by cases e <;> simp [toPy, PyData.eqv, noBl] at *
  | .lst ds, e, h1, h => by
    unfold noBl at h1
    cases e with
    | lst es =>
      unfold noBl at h
      have := eqvs_iff ds es h1 h
      simp [toPy, PyData.eqv, this]
    | _ => simp [toPy, PyData.eqv, noBl] at *
  | .tup ds, e, h1, h => by
    unfold noBl at h1
    cases e with
    | tup es =>
      unfold noBl at h
      have := eqvs_iff ds es h1 h
      simp [toPy, PyData.eqv, this]
    | _ => simp [toPy, PyData.eqv, noBl] at *
  | .bl _, _, h, _ => by unfold noBl at h; cases h
  | .raw _, _, h, _ => by unfold noBl at h; cases h
  | .exn _ _, _, h, _ => by unfold noBl at h; cases h
  | .fls _, _, h, _ => by unfold noBl at h; cases h
  | .ptp _, _, h, _ => by unfold noBl at h; cases h
theorem eqvs_iff : ∀ (ds es : List D), noBls ds = true → noBls es = true → (PyData.eqvAll (toPys ds) (toPys es) = true ↔ ds = es)
  | [], [], _, _ => by simp [toPys, PyData.eqvAll]
  | [], e :: es, _, _ => by simp [toPys, PyData.eqvAll]
  | d :: ds, [], _, _ => by simp [toPys, PyData.eqvAll]
  | d :: ds, e :: es, h1, h2 => by
    unfold noBls at h1 h2
    obtain ⟨a1, a2⟩ := Bool.and_eq_true_iff.mp h1
    obtain ⟨b1, b2⟩ := Bool.and_eq_true_iff.mp h2
    have i1 := eqv_iff d e a1 b1
    have i2 := eqvs_iff ds es a2 b2
    simp [toPys, PyData.eqvAll, i1, i2]
end
theorem eqD_iff {d e : D} (h1 : noBl d = true) (h2 : noBl e = true) : eqD d e = true ↔ d = e := eqv_iff d e h1 h2
mutual
inductive See (m : MS) : D → D → Prop
  | non : See m .non .non
  | bl (b : Bool) : See m (.bl b) (.bl b)
  | int (i : Int) : See m (.int i) (.int i)
  | str (s : Str) : See m (.str s) (.str s)
  | lst {ds es : List D} (h : Sees m ds es) : See m (.lst ds) (.lst es)
  | fls {ds es : List D} (h : Sees m ds es) : See m (.fls ds) (.lst es)
  | tup {ds es : List D} (h : Sees m ds es) : See m (.tup ds) (.tup es)
  | ptp {ds es : List D} (h : Sees m ds es) : See m (.ptp ds) (.tup es)
  | cell {p : Addr} {ds es : List D} (e : m p = some (.lst ds)) (h : Sees m ds es) : See m (.raw (.ref p)) (.lst es)
inductive Sees (m : MS) : List D → List D → Prop
  | nil : Sees m [] []
  | cons {d e : D} {ds es : List D} (h : See m d e) (t : Sees m ds es) : Sees m (d :: ds) (e :: es)
end
mutual
theorem See.refl {m : MS} : ∀ (n : Nat) (d : D), plD n d = true → See m d d
  | _, .non, _ => .non
  | _, .bl b, _ => .bl b
  | _, .int i, _ => .int i
  | _, .str s, _ => .str s
  | 0, .lst _, h => by unfold plD at h; cases h
  | n + 1, .lst ds, h => by unfold plD at h; exact .lst (Sees.refl n ds h)
  | 0, .tup _, h => by unfold plD at h; cases h
  | n + 1, .tup ds, h => by unfold plD at h; exact .tup (Sees.refl n ds h)
  | _, .fls _, h => by unfold plD at h; cases h
  | _, .ptp _, h => by unfold plD at h; cases h
  | _, .exn _ _, h => by unfold plD at h; cases h
  | _, .raw _, h => by unfold plD at h; cases h
theorem Sees.refl {m : MS} : ∀ (n : Nat) (ds : List D), plDs n ds = true → Sees m ds ds
  | _, [], _ => .nil
  | n, d :: ds, h => by
    unfold plDs at h
    obtain ⟨h1, h2⟩ := Bool.and_eq_true_iff.mp h
    exact .cons (See.refl n d h1) (Sees.refl n ds h2)
end
section
variable {K : PySem.W.Frag} {m : MS} {H F : Hp}
mutual
theorem See.dp (s : Std K m H F) : ∀ (n : Nat) (e : D) {d : D} {v : V}, See m d e → plD n e = true → Rp K F v d → Dp K H v (toPy e)
  | _, .non, _, _, h, _, r => by cases h; cases r; unfold toPy; exact .non
  | _, .bl b, _, _, h, _, r => by cases h; cases r; unfold toPy; exact .bl b
  | _, .int i, _, _, h, _, r => by cases h; cases r; unfold toPy; exact .int i
  | _, .str x, _, _, h, _, r => by cases h; cases r; unfold toPy; exact .str x
  | 0, .lst _, _, _, _, h, _ => by unfold plD at h; cases h
  | n + 1, .lst es, _, _, h, hp, r => by
    unfold plD at hp
    unfold toPy
    cases h with
    | lst h =>
      cases r with
      | lst h1 h2 => exact .lst (.inl (.inl (s.at h1))) (Sees.dp s n es h hp h2)
    | fls h =>
      cases r with
      | fls h1 h2 => exact .lst (s.toH.seq h1.sq) (Sees.dp s n es h hp h2)
    | cell e h =>
      cases r
      obtain ⟨vs, h1, h2⟩ := s.cells _ _ e
      exact .lst (.inl (.inl h1)) (Sees.dp s n es h hp h2)
  | 0, .tup _, _, _, _, h, _ => by unfold plD at h; cases h
  | n + 1, .tup es, _, _, h, hp, r => by
    unfold plD at hp
    unfold toPy
    cases h with
    | tup h =>
      cases r with
      | tup h1 h2 => exact .tup (Same.seqT s.toH h1) (Sees.dp s n es h hp h2)
    | ptp h =>
      cases r with
      | ptp h1 h0 h2 => exact .tup (.inl (.inr ⟨_, s.at h1⟩)) (Sees.dp s n es h hp h2)
  | _, .fls _, _, _, _, h, _ => by unfold plD at h; cases h
  | _, .ptp _, _, _, _, h, _ => by unfold plD at h; cases h
  | _, .exn _ _, _, _, _, h, _ => by unfold plD at h; cases h
  | _, .raw _, _, _, _, h, _ => by unfold plD at h; cases h
theorem Sees.dp (s : Std K m H F) : ∀ (n : Nat) (es : List D) {ds : List D} {vs : List V}, Sees m ds es → plDs n es = true → Rps K F vs ds → DpAll K H vs (toPys es)
  | _, [], _, _, h, _, r => by cases h; cases r; unfold toPys; exact .nil
  | n, e :: es, _, _, h, hp, r => by
    unfold plDs at hp
    obtain ⟨h1, h2⟩ := Bool.and_eq_true_iff.mp hp
    cases h with
    | cons a b =>
      cases r with
      | cons r1 r2 => unfold toPys; exact .cons (See.dp s n e a h1 r1) (Sees.dp s n es b h2 r2)
end
end
/-! == != -/
def sc : D → D → Bool
  | .non, .non => true | .non, .int _ => true | .int _, .non => true | .non, .bl _ => true | .bl _, .non => true | .non, .str _ => true | .str _, .non => true
  | .int _, .int _ => true | .bl _, .bl _ => true | .str _, .str _ => true
  | .int _, .str _ => true | .str _, .int _ => true | .bl _, .str _ => true | .str _, .bl _ => true
  | _, _ => false
def scEq : D → D → Bool
  | .non, .non => true
  | .int i, .int j => decide (i = j)
  | .bl i, .bl j => decide (i = j)
  | .str i, .str j => decide (i = j)
  | _, _ => false
theorem sc_rel {K : PySem.W.Frag} {F : Hp} {x y : V} {d1 d2 : D} (r1 : Rp K F x d1) (r2 : Rp K F y d2) (h : sc d1 d2 = true) : scal x y = true ∧ decide (x = y) = scEq d1 d2 := by
  cases d1 <;> cases d2 <;> first | (exact Bool.noConfusion (show false = true from h)) | (cases r1; cases r2; exact ⟨rfl, by simp [scEq]⟩)
def sEq : BS := fun ds m P => match ds with
  | [.int i, .int j] => P (.bl (decide (i = j))) m
  | [.str i, .str j] => P (.bl (decide (i = j))) m
  | [.bl i, .bl j] => P (.bl (decide (i = j))) m
  | [d1, d2] => (sc d1 d2 = true ∧ P (.bl (scEq d1 d2)) m) ∨ ∃ e1 e2, See m d1 e1 ∧ See m d2 e2 ∧ (plD 40 e1 = true ∧ plD 40 e2 = true) ∧ P (.bl (eqD e1 e2)) m
  | _ => False
def sNe : BS := fun ds m P => match ds with
  | [.int i, .int j] => P (.bl (!decide (i = j))) m
  | [.str i, .str j] => P (.bl (!decide (i = j))) m
  | [.bl i, .bl j] => P (.bl (!decide (i = j))) m
  | [d1, d2] => (sc d1 d2 = true ∧ P (.bl (!scEq d1 d2)) m) ∨ ∃ e1 e2, See m d1 e1 ∧ See m d2 e2 ∧ (plD 40 e1 = true ∧ plD 40 e2 = true) ∧ P (.bl (!eqD e1 e2)) m
  | _ => False
def rEqs (K : PySem.W.Frag) : R2 := fun x y H Q => rEq x y H Q ∨ rEqD K x y H Q
def rNes (K : PySem.W.Frag) : R2 := fun x y H Q => rNe x y H Q ∨ rNeD K x y H Q
theorem op_eqs {X : Cx} {k : Nat} (hr : Room k X.A) : OpR X (compareOp .Eq) (rEqs X.K) := op_eq.or (op_eqD hr.units)
theorem op_nes {X : Cx} {k : Nat} (hr : Room k X.A) : OpR X (compareOp .NotEq) (rNes X.K) := op_ne.or (op_neD hr.units)
theorem bok_eq {K : PySem.W.Frag} : Bok2 K (rEqs K) sEq := fun d1 d2 m P h x y H F s r1 r2 Q q => by
  have sca : ∀ e1 e2, d1 = e1 → d2 = e2 → sc e1 e2 = true → P (.bl (scEq e1 e2)) m → rEqs K x y H Q := by
    rintro _ _ rfl rfl hs p
    obtain ⟨a, b⟩ := sc_rel r1 r2 hs
    exact .inl ⟨a, by rw [b]; exact q _ _ _ _ _ p (Go.refl s) (.bl _)⟩
  unfold sEq at h
  split at h
  · rename_i e; cases e; exact sca _ _ rfl rfl rfl h
  · rename_i e; cases e; exact sca _ _ rfl rfl rfl h
  · rename_i e; cases e; exact sca _ _ rfl rfl rfl h
  · rename_i e; cases e
    rcases h with ⟨hs, h⟩ | ⟨e1, e2, a, b, ⟨c, d⟩, h⟩
    · exact sca _ _ rfl rfl hs h
    · exact .inr ⟨toPy e1, toPy e2, See.dp s 40 e1 a c r1, See.dp s 40 e2 b d r2, shaped_of c (by decide), shaped_of d (by decide), q _ _ _ _ _ h (Go.refl s) (.bl _)⟩
  · exact h.elim
theorem bok_ne {K : PySem.W.Frag} : Bok2 K (rNes K) sNe := fun d1 d2 m P h x y H F s r1 r2 Q q => by
  have sca : ∀ e1 e2, d1 = e1 → d2 = e2 → sc e1 e2 = true → P (.bl (!scEq e1 e2)) m → rNes K x y H Q := by
    rintro _ _ rfl rfl hs p
    obtain ⟨a, b⟩ := sc_rel r1 r2 hs
    exact .inl ⟨a, by rw [b]; exact q _ _ _ _ _ p (Go.refl s) (.bl _)⟩
  unfold sNe at h
  split at h
  · rename_i e; cases e; exact sca _ _ rfl rfl rfl h
  · rename_i e; cases e; exact sca _ _ rfl rfl rfl h
  · rename_i e; cases e; exact sca _ _ rfl rfl rfl h
  · rename_i e; cases e
    rcases h with ⟨hs, h⟩ | ⟨e1, e2, a, b, ⟨c, d⟩, h⟩
    · exact sca _ _ rfl rfl hs h
    · exact .inr ⟨toPy e1, toPy e2, See.dp s 40 e1 a c r1, See.dp s 40 e2 b d r2, shaped_of c (by decide), shaped_of d (by decide), q _ _ _ _ _ h (Go.refl s) (.bl _)⟩
  · exact h.elim
/-! is None -/
def isD : D → Option Bool
  | .non => some true
  | .raw (.ref _) => some false
  | .raw _ => none
  | _ => some false
theorem isD_rel {K : PySem.W.Frag} {F : Hp} {x : V} {d : D} {b : Bool} (r : Rp K F x d) (h : isD d = some b) : decide (x = .non) = b := by
  cases r <;> first | (cases h; rfl) | skip
  cases x <;> first | (cases h; rfl) | (cases h)
def sIs : BS := fun ds m P => match ds with
  | [.bl a, .bl b] => P (.bl (decide (a = b))) m
  | [d, .non] => match isD d with
    | some b => P (.bl b) m
    | none => False
  | _ => False
def sIsnt : BS := fun ds m P => match ds with
  | [d, .non] => match isD d with
    | some b => P (.bl (!b)) m
    | none => False
  | _ => False
def rIss : R2 := fun x y H Q => rIsB x y H Q ∨ y = .non ∧ Q (.bl (decide (x = .non))) H
theorem op_iss {X : Cx} : OpR X (compareOp .Is) rIss := op_isBl.or op_isN
theorem bok_is {K : PySem.W.Frag} : Bok2 K rIss sIs := fun d1 d2 m P h x y H F s r1 r2 Q q => by
  unfold sIs at h
  split at h
  · rename_i e; cases e
    cases r1; cases r2
    exact .inl ⟨_, _, rfl, rfl, q _ _ _ _ _ h (Go.refl s) (.bl _)⟩
  · rename_i e; cases e
    split at h
    · rename_i b hb
      cases r2
      exact .inr ⟨rfl, by rw [isD_rel r1 hb]; exact q _ _ _ _ _ h (Go.refl s) (.bl _)⟩
    · exact h.elim
  · exact h.elim
theorem bok_isnt {K : PySem.W.Frag} : Bok2 K (fun x y H Q => y = .non ∧ Q (.bl (!decide (x = .non))) H) sIsnt := fun d1 d2 m P h x y H F s r1 r2 Q q => by
  unfold sIsnt at h
  split at h
  · rename_i e; cases e
    split at h
    · rename_i b hb
      cases r2
      exact ⟨rfl, by rw [isD_rel r1 hb]; exact q _ _ _ _ _ h (Go.refl s) (.bl _)⟩
    · exact h.elim
  · exact h.elim
end Nu

namespace Nu
open PySem PySem.Spec L2
open PyProof.Rows hiding St
/-! ### dicts -/
section
variable {K : PySem.W.Frag} {F F' H : Hp} {m : MS}
theorem rp_key {v : V} {k : Key} (r : Rp K F v (kD k)) : v = kV k := by
  cases k with
  | inl i => cases r; rfl
  | inr s => cases r; rfl
theorem rp_kD (k : Key) : Rp K F (kV k) (kD k) := by
  cases k with
  | inl i => exact .int _
  | inr s => exact .str _
theorem keyOf_rel {v : V} {d : D} {k : Key} (r : Rp K F v d) (h : keyOf d = some k) : v = kV k := by
  cases d with
  | int i => cases h; cases r; rfl
  | str s => cases h; cases r; rfl
  | _ => cases h
theorem RKs.val {l : List (Key × V)} {r : List (Key × D)} (h : RKs K F l r) (k : Key) : (valV l k = none ∧ valD r k = none) ∨ ∃ v d, valV l k = some v ∧ valD r k = some d ∧ Rp K F v d := by
  induction h with
  | nil => exact .inl ⟨rfl, rfl⟩
  | @cons p q l r hp t ih =>
    by_cases e : p.1 = k
    · refine .inr ⟨p.2, q.2, ?_, ?_, hp.2⟩
      · simp [valV, List.find?_cons, e]
      · simp [valD, List.find?_cons, ← hp.1, e]
    · have e1 : valV (p :: l) k = valV l k := by simp [valV, List.find?_cons, e]
      have e2 : valD (q :: r) k = valD r k := by simp [valD, List.find?_cons, ← hp.1, e]
      rw [e1, e2]; exact ih
theorem RKs.isSome {l : List (Key × V)} {r : List (Key × D)} (h : RKs K F l r) (k : Key) : (valV l k).isSome = (valD r k).isSome := by
  rcases h.val k with ⟨a, b⟩ | ⟨v, d, a, b, _⟩
  · rw [a, b]; rfl
  · rw [a, b]; rfl
theorem RKs.some {l : List (Key × V)} {r : List (Key × D)} {k : Key} {d : D} (h : RKs K F l r) (e : valD r k = some d) : ∃ v, valV l k = some v ∧ Rp K F v d := by
  rcases h.val k with ⟨a, b⟩ | ⟨v, d', a, b, c⟩
  · rw [e] at b; cases b
  · rw [e] at b; cases b; exact ⟨v, a, c⟩
theorem RKs.none {l : List (Key × V)} {r : List (Key × D)} {k : Key} (h : RKs K F l r) (e : valD r k = Option.none) : valV l k = Option.none := by
  rcases h.val k with ⟨a, b⟩ | ⟨v, d', a, b, c⟩
  · exact a
  · rw [e] at b; cases b
theorem RKs.len {l : List (Key × V)} {r : List (Key × D)} (h : RKs K F l r) : l.length = r.length := by
  induction h with
  | nil => rfl
  | cons hp t ih => rw [List.length_cons, List.length_cons, ih]
theorem RKs.keys {l : List (Key × V)} {r : List (Key × D)} (h : RKs K F l r) : l.map (·.1) = r.map (·.1) := by
  induction h with
  | nil => rfl
  | cons hp t ih => rw [List.map_cons, List.map_cons, ih, hp.1]
theorem RKs.any {l : List (Key × V)} {r : List (Key × D)} (h : RKs K F l r) (k : Key) : (l.any fun kv => decide (kv.1 = k)) = (r.any fun kv => decide (kv.1 = k)) := by
  induction h with
  | nil => rfl
  | cons hp t ih => rw [List.any_cons, List.any_cons, ih, hp.1]
theorem RKs.snoc {l : List (Key × V)} {r : List (Key × D)} {k : Key} {v : V} {d : D} (h : RKs K F l r) (rv : Rp K F v d) : RKs K F (l ++ [(k, v)]) (r ++ [(k, d)]) := by
  induction h with
  | nil => exact .cons ⟨rfl, rv⟩ .nil
  | cons hp t ih => exact .cons hp ih
theorem RKs.put {l : List (Key × V)} {r : List (Key × D)} {k : Key} {v : V} {d : D} (h : RKs K F l r) (rv : Rp K F v d) : RKs K F (putK l k v) (putD r k d) := by
  unfold putK putD
  rw [h.any k]
  split
  · next hh =>
    clear hh
    induction h with
    | nil => exact .nil
    | @cons p q l r hp t ih =>
      refine .cons ?_ ih
      show (if p.1 = k then (p.1, v) else p).1 = (if q.1 = k then (q.1, d) else q).1 ∧ Rp K F (if p.1 = k then (p.1, v) else p).2 (if q.1 = k then (q.1, d) else q).2
      rw [← hp.1]
      split
      · exact ⟨rfl, rv⟩
      · exact hp
  · exact h.snoc rv
theorem RKs.merge {l r' : List (Key × V)} {r r2 : List (Key × D)} (h : RKs K F l r) (h2 : RKs K F r' r2) : RKs K F (mergeK l r') (mergeD r r2) := by
  unfold mergeK mergeD
  induction h2 generalizing l r with
  | nil => exact h
  | @cons p q ls rs hp t ih =>
    rw [List.foldl_cons, List.foldl_cons]
    refine ih ?_
    rw [← hp.1]
    exact h.put hp.2
/-- a dict cell, to be read -/
def Cell.kvs : Cell → Option (List (Key × D))
  | .dct kvs => some kvs
  | .lck _ _ kvs => some kvs
  | _ => none
theorem dct_at {p : Addr} {c : Cell} {kds : List (Key × D)} (s : Std K m H F) (e : m p = some c) (hk : c.kvs = some kds) : ∃ kvs, Rd H p (.dK kvs) ∧ RKs K F kvs kds := by
  have h := s.cells p c e
  cases c with
  | dct ds =>
    cases hk
    obtain ⟨kvs, z, r⟩ := h
    exact ⟨kvs, .inl z, r⟩
  | lck lo lv ds =>
    cases hk
    obtain ⟨z, r⟩ := h
    exact ⟨lv, .inr ⟨lo, z⟩, r⟩
  | _ => cases hk
theorem dget_of {p : Addr} {kvs : List (Key × V)} {k : Key} (e : Rd H p (.dK kvs)) : DGet H p (kV k) (valV kvs k) := .inl ⟨kvs, k, e, rfl, rfl⟩
end
/-! ### subscripts -/
def sIx : BS := fun ds m P => match ds with
  | [.lst xs, .int i] => ∃ d, atI xs i = some d ∧ P d m
  | [.tup xs, .int i] => ∃ d, atI xs i = some d ∧ P d m
  | [.fls xs, .int i] => ∃ d, atI xs i = some d ∧ P d m
  | [.ptp xs, .int i] => ∃ d, atI xs i = some d ∧ P d m
  | [.str z, .int i] => z.length ≤ sizeLine ∧ ∃ c, atI z.cps.toList i = some c ∧ P (.str ⟨#[c]⟩) m
  | [.raw (.ref p), y] => ∃ c, m p = some c ∧ match c with
    | .lst xs => match y with
      | .int i => ∃ d, atI xs i = some d ∧ P d m
      | _ => False
    | .dct kvs => match keyOf y with
      | some k => ∃ d, valD kvs k = some d ∧ P d m
      | none => False
    | .lck _ _ kvs => match keyOf y with
      | some k => ∃ d, valD kvs k = some d ∧ P d m
      | none => False
    | _ => False
  | _ => False
def rIxs (K : PySem.W.Frag) : R2 := fun x y H Q => rIx K x y H Q ∨ ∃ a v, x = .ref a ∧ DGet H a y (some v) ∧ Q v H
theorem ix_dct {X : Cx} (hu : X.A.units + 1 < cLine) : IxR X (fun x y H Q => ∃ a v, x = .ref a ∧ DGet H a y (some v) ∧ Q v H) := by
  intro value slice pins s σ H x y v u Q I rx ry h hs
  obtain ⟨a, w, rfl, g, q⟩ := h
  obtain rfl : v = Value.ref a := rx
  have hT := dict_typeIs I g
  unfold subscriptTail
  refine wpAny_bind ?_
  rw [getitemInPython_of_ne hT.not_modules]
  refine wpAny_bind (wpAny_specialOf hT PySem.F.slot_dict_getitem.lookup ?_)
  have fin : wpAny (model X.prog X.w) X.A (subscripted slice false (.ref a) u) (fun r s₃ => wpAny (model X.prog X.w) X.A (letTemporaryGo value (.ref a) r >>= fun _ => pure r) (EP X pins σ Q) X.xe s₃) X.xe s := by
    rw [hs]
    exact wpAny_operating (d_getItem hu I g ry fun w' s3 I3 rw' => wpAny_bind (wpAny_letTemporaryGo (wpAny_pure ⟨w, H, I3, rw', q⟩)))
  first
    | exact wpAny_pure (wpAny_bind fin)
    | exact wpAny_bind (wpAny_pure (wpAny_bind fin))
    | exact wpAny_bind fin
theorem rps_atI {K : PySem.W.Frag} {F : Hp} {vs : List V} {ds : List D} {i : Int} {d : D} (h : Rps K F vs ds) (e : atI ds i = some d) : ∃ v, atI vs i = some v ∧ Rp K F v d := by
  unfold atI at *
  rw [h.length]
  cases q : ixN ds.length i with
  | none => rw [q] at e; cases e
  | some n =>
    rw [q] at e
    exact h.get e
theorem bok_ix {K : PySem.W.Frag} : Bok2 K (rIxs K) sIx := fun d1 d2 m P h x y H F s r1 r2 Q q => by
  unfold sIx at h
  split at h
  · rename_i e; cases e
    cases r2
    obtain ⟨d, h1, h2⟩ := h
    cases r1 with
    | lst a b =>
      obtain ⟨v, e, r⟩ := rps_atI b h1
      exact .inl (.inl ⟨_, _, _, v, rfl, rfl, .inl (.inl (s.at a)), e, q v H F _ _ h2 (Go.refl s) r⟩)
  · rename_i e; cases e
    cases r2
    obtain ⟨d, h1, h2⟩ := h
    cases r1 with
    | tup a b =>
      obtain ⟨v, e, r⟩ := rps_atI b h1
      exact .inl (.inr (.inl ⟨_, _, _, v, rfl, rfl, Same.seqT s.toH a, e, q v H F _ _ h2 (Go.refl s) r⟩))
  · rename_i e; cases e
    cases r2
    obtain ⟨d, h1, h2⟩ := h
    cases r1 with
    | fls a b =>
      obtain ⟨v, e, r⟩ := rps_atI b h1
      exact .inl (.inl ⟨_, _, _, v, rfl, rfl, s.toH.seq a.sq, e, q v H F _ _ h2 (Go.refl s) r⟩)
  · rename_i e; cases e
    cases r2
    obtain ⟨d, h1, h2⟩ := h
    cases r1 with
    | ptp a a0 b =>
      obtain ⟨v, e, r⟩ := rps_atI b h1
      exact .inl (.inr (.inl ⟨_, _, _, v, rfl, rfl, .inl (.inr ⟨_, s.at a⟩), e, q v H F _ _ h2 (Go.refl s) r⟩))
  · rename_i e; cases e
    cases r2
    obtain ⟨hz, d, h1, h2⟩ := h
    cases r1
    exact .inl (.inr (.inr ⟨_, _, _, rfl, rfl, hz, h1, q _ H F _ _ h2 (Go.refl s) (.str _)⟩))
  · rename_i p y' e; cases e
    cases r1
    obtain ⟨c, hc, h⟩ := h
    have dd : ∀ kds k d, c.kvs = some kds → keyOf d2 = some k → valD kds k = some d → P d m → rIxs K (.ref p) y H Q := fun kds k d hk e1 e2 p2 => by
      obtain ⟨kvs, hd, rk⟩ := dct_at s hc hk
      obtain ⟨v, e3, r⟩ := rk.some e2
      refine .inr ⟨p, v, rfl, ?_, q v H F _ _ p2 (Go.refl s) r⟩
      rw [keyOf_rel r2 e1, ← e3]
      exact dget_of hd
    cases c with
    | lst xs =>
      cases d2 with
      | int i =>
        obtain ⟨d, h1, h2⟩ := h
        cases r2
        obtain ⟨vs, a, b⟩ := s.cells _ _ hc
        obtain ⟨v, e, r⟩ := rps_atI b h1
        exact .inl (.inl ⟨_, _, _, v, rfl, rfl, .inl (.inl a), e, q v H F _ _ h2 (Go.refl s) r⟩)
      | _ => exact h.elim
    | dct kds =>
      have h : match keyOf d2 with | some k => ∃ d, valD kds k = some d ∧ P d m | none => False := h
      cases e : keyOf d2 with
      | none => rw [e] at h; exact h.elim
      | some k =>
        rw [e] at h
        obtain ⟨d, h1, h2⟩ := h
        exact dd kds k d rfl e h1 h2
    | lck lo lv kds =>
      have h : match keyOf d2 with | some k => ∃ d, valD kds k = some d ∧ P d m | none => False := h
      cases e : keyOf d2 with
      | none => rw [e] at h; exact h.elim
      | some k =>
        rw [e] at h
        obtain ⟨d, h1, h2⟩ := h
        exact dd kds k d rfl e h1 h2
    | _ => exact h.elim
  · exact h.elim
section
variable {X : Cx} {e a b c o i value : Expr} {es : List Expr} {t ta tb tc to ti te : T} {ts : Ts} {pos pos' p2 tpos : Pos}
theorem se_ix {k : Nat} (hr : Room k X.A) (ha : SE X a ta) (hb : SE X b tb) (hs : PlainIx b := by exact fun _ _ => rfl) : SE X (.Subscript a b pos) (.bop sIx (.cons ta (.cons tb .nil))) := ⟨fun ρ m P Z p => ⟨fun F0 σ H F S Q V tk q kx => by
  refine wE_of (pe_ix (ix_seq.or (ix_dct (by have := hr.units; omega))) pe_w pe_w hs) ?_
  refine (ha.go ρ m _ Z p).run F0 σ H F S _ V tk (fun x H1 F1 d1 m1 p1 g1 r1 => ?_) kx
  refine (hb.go ρ m1 _ Z p1).run F0 σ H1 F1 (S.go g1) _ V tk (fun y H2 F2 d2 m2 p2 g2 r2 => ?_) (kx.go g1)
  exact bok_ix d1 d2 m2 P p2 x y H2 F2 g2.std (r1.up g2.grow _) r2 Q fun v H3 F3 d3 m3 p3 g3 r3 => q v H3 F3 d3 m3 p3 ((g1.trans g2).trans g3) r3⟩⟩
/-! ### slices -/
def cutD (xs : List D) (lo hi : Option Int) : List D := (xs.drop (HT.sIx xs.length 0 lo)).take (HT.sIx xs.length xs.length hi - HT.sIx xs.length 0 lo)
theorem Rps.cut {K : PySem.W.Frag} {F : Hp} {vs : List V} {ds : List D} (h : Rps K F vs ds) (lo hi : Option Int) : Rps K F (cutV vs lo hi) (cutD ds lo hi) := by
  unfold cutV cutD
  rw [h.length]
  exact (h.drop _).take _
def lsR (d : D) (m : MS) (R : List D → Prop) : Prop := match d with
  | .lst xs => R xs
  | .fls xs => R xs
  | .raw (.ref p) => ∃ xs, m p = some (.lst xs) ∧ R xs
  | _ => False
theorem lsR_use {K : PySem.W.Frag} {m : MS} {H F : Hp} {d : D} {v : V} {R : List D → Prop} (h : lsR d m R) (s : Std K m H F) (r : Rp K F v d) : ∃ a xs vs, v = .ref a ∧ R xs ∧ SqL K H a vs ∧ Rps K F vs xs := by
  cases d with
  | lst xs =>
    cases r with
    | @lst a vs _ h1 h2 => exact ⟨a, xs, vs, rfl, h, .inl (.inl (s.at h1)), h2⟩
  | fls xs =>
    cases r with
    | @fls a vs _ h1 h2 => exact ⟨a, xs, vs, rfl, h, s.toH.seq h1.sq, h2⟩
  | raw w =>
    cases w with
    | ref p =>
      cases r
      obtain ⟨xs, e, h⟩ := h
      obtain ⟨vs, h1, h2⟩ := s.cells p _ e
      exact ⟨p, xs, vs, rfl, h, .inl (.inl h1), h2⟩
    | _ => exact h.elim
  | _ => exact h.elim
def slD (d : D) (l h : Option Int) (m : MS) (P : NX) : Prop := match d with
  | .str z => z.length ≤ sizeLine ∧ P (.str (cutS z l h)) m
  | .tup xs => P (.tup (cutD xs l h)) m
  | _ => lsR d m fun xs => NewL (cutD xs l h) m P
def sSlL : BS := fun ds m P => match ds with
  | [d, .int l] => slD d (some l) none m P
  | _ => False
def sSlH : BS := fun ds m P => match ds with
  | [d, .int h] => slD d none (some h) m P
  | _ => False
def sInt : BS := fun ds m P => match ds with
  | [.int i] => P (.int i) m
  | _ => False
def sSlB : BS := fun ds m P => match ds with
  | [d, .int l, .int h] => slD d (some l) (some h) m P
  | _ => False
def rSls (K : PySem.W.Frag) : V → Option Int → Option Int → Hp → VK → Prop := fun x lo hi H Q => rSlA K x lo hi H Q ∨ rSlL K x lo hi H Q ∨ rSlS x lo hi H Q
theorem sl_all' : SlR X (rSls X.K) := sl_tupA.or (sl_list.or sl_str)
theorem bok_sl {K : PySem.W.Frag} {m : MS} {H F : Hp} {d : D} {x : V} {l h : Option Int} {P : NX} {Q : VK} (hs : slD d l h m P) (s : Std K m H F) (r : Rp K F x d) (q : ∀ v H' F' d m', P d m' → Go K m H F m' H' F' → Rp K F' v d → Q v H') : rSls K x l h H Q := by
  unfold slD at hs
  split at hs
  · cases r
    exact .inr (.inr ⟨_, rfl, hs.1, q _ _ _ _ _ hs.2 (Go.refl s) (.str _)⟩)
  · rename_i xs
    cases r with
    | @tup a vs _ h1 h2 =>
      refine .inl ⟨a, vs, rfl, Same.seqT s.toH h1, fun z => ?_, fun _ => newT_q hs s (h2.cut l h) q⟩
      refine q _ H F _ _ hs (Go.refl s) ?_
      have e : cutD xs l h = xs := by
        unfold cutD
        rw [← h2.length, z.1, z.2, List.drop_zero, Nat.sub_zero, h2.length]
        exact List.take_length
      rw [e]
      exact .tup h1 h2
  · obtain ⟨a, xs, vs, rfl, hs, h1, h2⟩ := lsR_use hs s r
    exact .inr (.inl ⟨a, vs, rfl, h1, newL_q hs s (h2.cut l h) q⟩)
theorem se_slL (ha : SE X a ta) (hb : SE X b tb) : SE X (.Subscript a (.Slice (some b) none none p2) pos) (.bop sSlL (.cons ta (.cons tb .nil))) := ⟨fun ρ m P Z p => ⟨fun F0 σ H F S Q V tk q kx => by
  refine wE_of (pe_slice sl_all' pe_w (po_some pe_w) po_none) ?_
  refine (ha.go ρ m _ Z p).run F0 σ H F S _ V tk (fun x H1 F1 d1 m1 p1 g1 r1 => ?_) kx
  refine (hb.go ρ m1 _ Z p1).run F0 σ H1 F1 (S.go g1) _ V tk (fun y H2 F2 d2 m2 p2 g2 r2 => ?_) (kx.go g1)
  cases d2 with
  | int l =>
    cases r2
    exact ⟨l, rfl, bok_sl p2 g2.std (r1.up g2.grow _) fun v H3 F3 d3 m3 p3 g3 r3 => q v H3 F3 d3 m3 p3 ((g1.trans g2).trans g3) r3⟩
  | _ => exact False.elim p2⟩⟩
theorem se_slH (ha : SE X a ta) (hb : SE X b tb) : SE X (.Subscript a (.Slice none (some b) none p2) pos) (.bop sSlH (.cons ta (.cons tb .nil))) := ⟨fun ρ m P Z p => ⟨fun F0 σ H F S Q V tk q kx => by
  refine wE_of (pe_slice sl_all' pe_w po_none (po_some pe_w)) ?_
  refine (ha.go ρ m _ Z p).run F0 σ H F S _ V tk (fun x H1 F1 d1 m1 p1 g1 r1 => ?_) kx
  refine (hb.go ρ m1 _ Z p1).run F0 σ H1 F1 (S.go g1) _ V tk (fun y H2 F2 d2 m2 p2 g2 r2 => ?_) (kx.go g1)
  cases d2 with
  | int l =>
    cases r2
    exact ⟨l, rfl, bok_sl p2 g2.std (r1.up g2.grow _) fun v H3 F3 d3 m3 p3 g3 r3 => q v H3 F3 d3 m3 p3 ((g1.trans g2).trans g3) r3⟩
  | _ => exact False.elim p2⟩⟩
theorem se_slB (ha : SE X a ta) (hb : SE X b tb) (hc : SE X c tc) : SE X (.Subscript a (.Slice (some b) (some c) none p2) pos) (.bop sSlB (.cons ta (.cons (.bop sInt (.cons tb .nil)) (.cons tc .nil)))) := ⟨fun ρ m P Z p => ⟨fun F0 σ H F S Q V tk q kx => by
  refine wE_of (pe_slice sl_all' pe_w (po_some pe_w) (po_some pe_w)) ?_
  refine (ha.go ρ m _ Z p).run F0 σ H F S _ V tk (fun x H1 F1 d1 m1 p1 g1 r1 => ?_) kx
  refine (hb.go ρ m1 _ Z p1).run F0 σ H1 F1 (S.go g1) _ V tk (fun y H2 F2 d2 m2 p2 g2 r2 => ?_) (kx.go g1)
  cases d2 with
  | int l =>
    cases r2
    have p2 : W tc ρ m2 _ Z := p2
    refine ⟨l, rfl, ?_⟩
    refine (hc.go ρ m2 _ Z p2).run F0 σ H2 F2 ((S.go g1).go g2) _ V tk (fun z H3 F3 d3 m3 p3 g3 r3 => ?_) ((kx.go g1).go g2)
    cases d3 with
    | int h =>
      cases r3
      exact ⟨h, rfl, bok_sl p3 g3.std ((r1.up g2.grow _).up g3.grow _) fun v H4 F4 d4 m4 p4 g4 r4 => q v H4 F4 d4 m4 p4 (((g1.trans g2).trans g3).trans g4) r4⟩
    | _ => exact False.elim p3
  | _ => exact False.elim p2⟩⟩
/-! ### displays -/
def sTup : BS := fun ds m P => P (.tup ds) m
def sLst : BS := fun ds m P => NewL ds m P
theorem se_tup {x1} (h : SA X es ts) (hz : es.length ≤ 100000 := by decide) : SE X (.Tuple es x1 pos) (.bop sTup ts) := ⟨fun ρ m P Z p => ⟨fun F0 σ H F S Q V tk q kx => by
  refine wE_of (pe_tup pa_w) ?_
  refine (h.go2 ρ m _ Z p).run F0 σ H F S _ V tk (fun vs H1 F1 ds m1 p1 g1 r1 => ?_) kx
  refine ⟨by rw [r1.length, p1.1]; exact Nat.le_trans hz (by decide), newT_q p1.2 g1.std r1 fun v H3 F3 d3 m3 p3 g3 r3 => q v H3 F3 d3 m3 p3 (g1.trans g3) r3⟩⟩⟩
theorem se_lst (h : SA X es ts) (hz : es.length ≤ 100000 := by decide) : SE X (.List es pos) (.bop sLst ts) := ⟨fun ρ m P Z p => ⟨fun F0 σ H F S Q V tk q kx => by
  refine wE_of (pe_lst pa_w) ?_
  refine (h.go2 ρ m _ Z p).run F0 σ H F S _ V tk (fun vs H1 F1 ds m1 p1 g1 r1 => ?_) kx
  refine ⟨by rw [r1.length, p1.1]; exact Nat.le_trans hz (by decide), newL_q p1.2 g1.std r1 fun v H3 F3 d3 m3 p3 g3 r3 => q v H3 F3 d3 m3 p3 (g1.trans g3) r3⟩⟩⟩
theorem Go.adoptG {K : PySem.W.Frag} {m m' : MS} {H F H' F' : Hp} {L : Addr} {o : HO} {c : Cell} (g : Go K m H F m' H' F') (h1 : H L = none) (h2 : m' L = none) (h3 : F' L = none) (h5 : CellAt K F' (upd H' L o) L c) : Go K m H F (mset m' L c) (upd H' L o) F' := by
  have g2 := g.patch (o := o) h1 h2 h3
  refine ⟨fun a u e => ?_, g2.grow, g2.fresh, g2.kept, ⟨fun a u e => ?_, fun q c' e => ?_⟩⟩
  · have ne : a ≠ L := ne_of_none (of_fz e).2 h1
    obtain ⟨e1, e2⟩ := of_fz (g2.same a u e)
    exact fz_of (by rw [mset_ne ne]; exact e1) e2
  · have ne : a ≠ L := ne_of_none e h3
    obtain ⟨e1, e2⟩ := of_fz (g2.std.sub a u e)
    exact fz_of (by rw [mset_ne ne]; exact e1) e2
  · by_cases e' : q = L
    · subst e'; rw [mset_same] at e; cases e; exact h5
    · rw [mset_ne e'] at e; exact g2.std.cells q c' e
/-- the values of a dict display, its keys texts -/
structure SDp (X : Cx) (pos : Pos) (ks : List Str) (keys : List (Option Expr)) (vals : List Expr) (ts : Ts) : Prop where
  run : ∃ trs, PPs X pos keys vals trs ∧ ∀ ρ m P Z, Ws ts ρ m P Z → ∀ F0 σ H F, StR X.K F0 σ H F ρ m → ∀ (Q : List (L2.V × L2.V) → Hp → Prop) (V : WX), Takes X V →
    (∀ vs H' F' ds m', P ds m' → vs.length = ks.length → Go X.K m H F m' H' F' → Rps X.K F' vs ds → Q ((ks.map L2.V.str).zip vs) H') → ExK X F0 m H F Z V → tPairs trs σ H Q
theorem sdp_nil : SDp X pos [] [] [] .nil := ⟨[], pps_nil, fun ρ m P Z p F0 σ H F S Q V tk q kx => q [] H F [] m p rfl (Go.refl S.std) .nil⟩
theorem sdp_cons {k : Str} {ks : List Str} {keys : List (Option Expr)} {vals : List Expr} (h : SE X e t) (hs : SDp X pos ks keys vals ts) (hk : PE X c (tC (.str k)) := by exact pe_str) : SDp X pos (k :: ks) (some c :: keys) (e :: vals) (.cons t ts) := by
  obtain ⟨trs, pp, f⟩ := hs.run
  refine ⟨_, pps_cons hk pe_w pp, fun ρ m P Z p F0 σ H F S Q V tk q kx => ?_⟩
  show wE X e σ H _
  refine (h.go ρ m _ Z p).run F0 σ H F S _ V tk (fun v H1 F1 d m1 p1 g1 r1 => ?_) kx
  refine f ρ m1 _ Z p1 F0 σ H1 F1 (S.go g1) _ V tk (fun vs H2 F2 ds m2 p2 hl g2 r2 => ?_) (kx.go g1)
  exact q (v :: vs) H2 F2 (d :: ds) m2 p2 (by rw [List.length_cons, List.length_cons, hl]) (g1.trans g2) (.cons (r1.up g2.grow _) r2)
def dctOf (ks : List Str) (ds : List D) : List (Key × D) := mergeD [] ((ks.map Sum.inr).zip ds)
def sDct (ks : List Str) : BS := fun ds m P => ∀ p, m p = none → P (.raw (.ref p)) (mset m p (.dct (dctOf ks ds)))
theorem rks_zip {K : PySem.W.Frag} {F : Hp} : ∀ {ks : List Str} {vs : List V} {ds : List D}, Rps K F vs ds → RKs K F ((ks.map (Sum.inr (α := Int))).zip vs) ((ks.map Sum.inr).zip ds)
  | [], _, _, _ => by simp; exact .nil
  | _ :: _, _, [], h => by cases h; simp; exact .nil
  | k :: ks, _, d :: ds, h => by
    cases h with
    | cons h1 h2 => exact .cons ⟨rfl, h1⟩ (rks_zip h2)
theorem zip_keys : ∀ (ks : List Str) (vs : List L2.V), (ks.map L2.V.str).zip vs = ((ks.map (Sum.inr (α := Int))).zip vs).map fun kv => (kV kv.1, kv.2)
  | [], _ => by simp
  | _ :: _, [] => by simp
  | k :: ks, v :: vs => by
    show (L2.V.str k, v) :: (ks.map L2.V.str).zip vs = (kV (.inr k), v) :: _
    rw [zip_keys ks vs]; rfl
theorem se_dct {k : Str} {ks : List Str} {key : Option Expr} {keys : List (Option Expr)} {v : Expr} {vals : List Expr} (hs : SDp X pos (k :: ks) (key :: keys) (v :: vals) ts) (h15 : (k :: ks).length ≤ 15 := by decide) (hl : (key :: keys).length = (k :: ks).length := by rfl) (hl2 : (key :: keys).length = (v :: vals).length := by rfl) (hall : (key :: keys).all (·.isSome) = true := by rfl) :
    SE X (.Dict (key :: keys) (v :: vals) pos) (.bop (sDct (k :: ks)) ts) := ⟨fun ρ m P Z p => ⟨fun F0 σ H F S Q V tk q kx => by
  obtain ⟨trs, pp, f⟩ := hs.run
  refine wE_of (pe_disp pp hall hl2 (fun z => nomatch z) (by rw [hl]; exact h15)) fun L hL => ?_
  have hm := S.std.free hL
  have hF := S.std.freeF hL
  have j := Go.junk (o := .dK []) S.std hL
  refine f ρ m _ Z p F0 σ _ F (S.go j) _ V tk (fun vs H1 F1 ds m1 p1 hl g1 r1 => ?_) (kx.go j)
  have e0 : fz m1 H1 L = some (.dK []) := g1.same L _ (fz_of hm upd_same)
  obtain ⟨e1, e2⟩ := of_fz e0
  have eF : F1 L = none := by
    cases e3 : F1 L with
    | none => rfl
    | some o =>
      rcases g1.fresh L (by rw [e3]; exact fun z => nomatch z) with z | z | z
      · exact absurd hF z
      · rw [upd_same] at z; cases z
      · exact absurd hm z
  refine ⟨e2, ((k :: ks).map Sum.inr).zip vs, ?_, ?_, ?_⟩
  · exact zip_keys _ _
  · rw [List.length_zip, List.length_map]
    exact Nat.le_trans (Nat.min_le_left _ _) h15
  · have gg : Go X.K m H F m1 H1 F1 := j.trans g1
    have ca : CellAt X.K F1 (upd H1 L (.dK (mergeK [] (((k :: ks).map Sum.inr).zip vs)))) L (.dct (dctOf (k :: ks) ds)) := ⟨_, upd_same, RKs.merge .nil (rks_zip r1)⟩
    exact q _ _ _ _ _ (p1 L e1) (gg.adoptG hL e1 eF ca) (.raw _)⟩⟩
/-! ### o[i] = v -/
def rSets : TSet := fun o i v H Q => rSetL o i v H Q ∨ ∃ a H', o = .ref a ∧ DPut H a i v H' ∧ Q H'
theorem set_both (hu : X.A.units + 1 < cLine) : PSet X rSets := by
  intro pins s σ H o i v ov iv u Q I ro ri rv h
  rcases h with h | ⟨a, H', rfl, g, q⟩
  · exact set_list pins s σ H o i v ov iv u Q I ro ri rv h
  · obtain rfl : ov = Value.ref a := ro
    exact d_setItem hu I g ri rv fun s4 I4 => ⟨H', I4, q⟩
theorem s_iset {k : Nat} (hr : Room k X.A) (ho : SE X o to) (hi : SE X i ti) (hv : SE X value te)
    (hs : swapsWithSole [.Subscript o i tpos] value pos.line X.env = pure false := by rfl) (hw : swappedStores [.Subscript o i tpos] value X.env = pure none := by rfl)
    (h1 : (assignEach [.Subscript o i tpos] X.env).map (·.2) = [assign (.Subscript o i tpos) X.env] := by rfl)
    (hass : ∀ v, assign (.Subscript o i tpos) X.env v = (do
      let ov ← holding [v] (eval o X.env)
      let iv ← holding [v, ov] (eval i X.env)
      standAt tpos
      holding [v, ov, iv] (setItem ov iv v)
      release [v, ov, iv] []) := by intro _; rfl) :
    SS1 X (.Assign [.Subscript o i tpos] value pos) (.iset to ti te) := ⟨fun ρ m A p => ⟨fun F0 σ H F S E V tk k => by
  refine wS_of (ps_asg pe_w (pg_sub pe_w pe_w (set_both (by have := hr.units; omega)) hass) hs hw h1) ?_
  refine (hv.go ρ m _ _ p).run F0 σ H F S _ V tk (fun v H1 F1 d m1 p1 g1 r1 => ?_) k.ex
  refine (ho.go ρ m1 _ _ p1).run F0 σ H1 F1 (S.go g1) _ V tk (fun x H2 F2 dx m2 p2 g2 r2 => ?_) (k.ex.go g1)
  cases dx with
  | raw w =>
    cases w with
    | ref pa =>
      have p2 : W ti ρ m2 _ _ := p2
      refine (hi.go ρ m2 _ _ p2).run F0 σ H2 F2 ((S.go g1).go g2) _ V tk (fun y H3 F3 dy m3 p3 g3 r3 => ?_) ((k.ex.go g1).go g2)
      cases r2
      obtain ⟨c, hc, p3⟩ := p3
      have G := (g1.trans g2).trans g3
      have rv := (r1.up g2.grow _).up g3.grow _
      cases c with
      | lst ds =>
        cases dy with
        | int kk =>
          obtain ⟨n, hn, p3⟩ := p3
          cases r3
          obtain ⟨vs, e1, r⟩ := g3.std.cells pa _ hc
          have g4 : Go X.K m3 H3 F3 (mset m3 pa (.lst (ds.set n d))) (upd H3 pa (.lst (vs.set n v))) F3 := Go.put g3.std hc ⟨_, upd_same, r.set n rv⟩
          exact .inl ⟨pa, vs, kk, n, rfl, rfl, e1, by rw [r.length]; exact hn, k.nx _ _ _ _ _ p3 (G.trans g4) (S.go (G.trans g4))⟩
        | _ => exact p3.elim
      | dct kds =>
        have p3 : match keyOf dy with | some k => kds.length < 100000 ∧ A.nx ρ (mset m3 pa (.dct (putD kds k d))) | none => False := p3
        cases e : keyOf dy with
        | none => rw [e] at p3; exact p3.elim
        | some key =>
          rw [e] at p3
          obtain ⟨kvs, e1, rk⟩ := g3.std.cells pa _ hc
          have g4 : Go X.K m3 H3 F3 (mset m3 pa (.dct (putD kds key d))) (upd H3 pa (.dK (putK kvs key v))) F3 := Go.put g3.std hc ⟨_, upd_same, rk.put rv⟩
          refine .inr ⟨pa, _, rfl, ?_, k.nx _ _ _ _ _ p3.2 (G.trans g4) (S.go (G.trans g4))⟩
          rw [keyOf_rel r3 e]
          exact DPut.k e1 (by rw [rk.len]; exact Nat.lt_trans p3.1 (by decide))
      | _ => exact p3.elim
    | _ => exact p2.elim
  | _ => exact p2.elim⟩⟩
/-! ### x += e, x -= e -/
theorem s_aug {op : Operator} {r : R2} {s : BS} {n : Nat} {x : Str} (hN : X.N.Nodup) (ho : OpR X (inplaceOp op) r) (hs : Bok2 X.K r s) (hv : SE X value te) (hi : X.N[n]? = some x := by rfl) (hx : Loc X.env.scope x := by first | exact Or.inl rfl | exact Or.inr rfl)
    (hf : X.fn x = true ∨ X.env.scope.names.lookup x = some .local := by first | exact .inl rfl | exact .inr rfl) : SS1 X (.AugAssign (.Name x pos') op value pos) (.aug n s te) := ⟨fun ρ m A p => ⟨fun F0 σ H F S E V tk k pins st I => by
  have hl := nx_of_inv I hi
  have p : match getR ρ n with | some d1 => W te ρ m (fun d2 m1 => s [d1, d2] m1 fun d3 m2 => A.nx (setR ρ n d3) m2) A.ex | none => False := p
  cases e : getR ρ n with
  | none => rw [e] at p; exact p.elim
  | some d1 =>
    rw [e] at p
    obtain ⟨v1, hv1, rv1⟩ := S.env n d1 (getR_some e)
    refine wS_of (ps_aug hN hi hx pe_w (fun pins s σ H x y v u Q I rx ry h => ho pins s σ H x y v u Q I rx ry h) hf) ⟨v1, hv1, ?_⟩ pins st I
    refine (hv.go ρ m _ _ p).run F0 σ H F S _ V tk (fun y H1 F1 d2 m1 p1 g1 r1 => ?_) k.ex
    refine hs d1 d2 m1 _ p1 v1 y H1 F1 g1.std (rv1.up g1.grow _) r1 _ fun z H2 F2 d3 m2 p2 g2 r2 => ?_
    exact k.nx _ _ _ _ _ p2 (g1.trans g2) ((S.go (g1.trans g2)).set r2 hl)⟩⟩
theorem op_iadd : OpR X (inplaceOp .Add) (rI0 fun i j => .int (i + j)) := iop_add
theorem op_isub : OpR X (inplaceOp .Sub) (rI0 fun i j => .int (i - j)) := iop_sub
def sAddI : BS := fun ds m P => match ds with
  | [.int i, .int j] => P (.int (i + j)) m
  | _ => False
theorem bok_addI {K : PySem.W.Frag} : Bok2 K (rI0 fun i j => .int (i + j)) sAddI := bok_I0 (gd := fun i j => .int (i + j)) (fun d1 d2 m P h => by
  unfold sAddI at h
  split at h
  · rename_i e; cases e; exact ⟨_, _, rfl, rfl, h⟩
  · exact h.elim) fun _ _ _ => .int _
/-! ### in -/
def flatD : D → Bool
  | .non => true
  | .bl _ => true
  | .int _ => true
  | .str _ => true
  | _ => false
def eqF : D → D → Bool
  | .non, .non => true
  | .bl a, .bl b => a == b
  | .bl a, .int b => (if a then 1 else 0) == b
  | .int a, .bl b => a == (if b then 1 else 0)
  | .int a, .int b => a == b
  | .str a, .str b => a == b
  | _, _ => false
theorem flat_rel {K : PySem.W.Frag} {F : Hp} {v : L2.V} {d : D} (r : Rp K F v d) (h : flatD d = true) : flatV v = true := by
  cases d <;> first | (exact Bool.noConfusion (show false = true from h)) | (cases r; rfl)
theorem eqF_rel {K : PySem.W.Frag} {F : Hp} {v w : L2.V} {d e : D} (r : Rp K F v d) (r' : Rp K F w e) (h : flatD d = true) (h' : flatD e = true) : eqV v w = eqF d e := by
  cases d <;> first | (exact Bool.noConfusion (show false = true from h)) | (cases r; cases e <;> first | (exact Bool.noConfusion (show false = true from h')) | (cases r'; rfl))
theorem flats_rel {K : PySem.W.Frag} {F : Hp} {w : L2.V} {e : D} (r' : Rp K F w e) (h' : flatD e = true) : ∀ {vs : List L2.V} {ds : List D}, Rps K F vs ds → ds.all flatD = true → vs.all flatV = true ∧ (vs.any fun y => eqV y w) = ds.any fun y => eqF y e
  | _, [], r, _ => by cases r; exact ⟨rfl, rfl⟩
  | _, d :: ds, r, h => by
    cases r with
    | cons r1 r2 =>
      rw [List.all_cons, Bool.and_eq_true] at h
      obtain ⟨a, b⟩ := flats_rel r' h' r2 h.2
      refine ⟨by rw [List.all_cons, flat_rel r1 h.1, a]; rfl, by rw [List.any_cons, List.any_cons, b, eqF_rel r1 r' h.1 h']⟩
def inS (d : D) (ds : List D) (m : MS) (R : Bool → Prop) : Prop := (flatD d = true ∧ ds.all flatD = true ∧ R (ds.any fun y => eqF y d)) ∨ ∃ e es, See m d e ∧ Sees m ds es ∧ (plD 40 e = true ∧ plDs 40 es = true) ∧ R (es.any fun z => eqD z e)
def inF (d : D) (ds : List D) (R : Bool → Prop) : Prop := flatD d = true ∧ ds.all flatD = true ∧ R (ds.any fun y => eqF y d)
def inR (d1 d2 : D) (m : MS) (R : Bool → Prop) : Prop := match d2 with
  | .str z => ∃ c, d1 = .str ⟨#[c]⟩ ∧ R (decide (c ∈ z.cps.toList))
  | .lst ds => inS d1 ds m R
  | .fls ds => inS d1 ds m R
  | .tup ds => inF d1 ds R
  | .ptp ds => inF d1 ds R
  | .raw (.ref p) => ∃ c, m p = some c ∧ match c with
    | .lst ds => inS d1 ds m R
    | .dct kvs => match keyOf d1 with
      | some k => R (valD kvs k).isSome
      | none => False
    | .lck _ _ kvs => match keyOf d1 with
      | some k => R (valD kvs k).isSome
      | none => False
    | _ => False
  | _ => False
def sIn : BS := fun ds m P => match ds with
  | [d1, d2] => inR d1 d2 m fun b => P (.bl b) m
  | _ => False
def sNotIn : BS := fun ds m P => match ds with
  | [d1, d2] => inR d1 d2 m fun b => P (.bl (!b)) m
  | _ => False
def rIns (K : PySem.W.Frag) (f : Bool → Bool) : R2 := fun x y H Q => (∃ p xs, y = .ref p ∧ (SqL K H p xs ∨ SqT K H p xs) ∧ flatV x = true ∧ xs.all flatV = true ∧ Q (.bl (f (inV x xs))) H) ∨
  (∃ d ds, Dp K H x d ∧ Dp K H y (.list ds) ∧ SeqAt.shaped d = true ∧ SeqAt.shaped (.list ds) = true ∧ Q (.bl (f (ds.any fun z => PyData.eqv z d))) H) ∨
  (∃ (c : Nat) (z : Str), x = .str ⟨#[c]⟩ ∧ y = .str z ∧ Q (.bl (f (decide (c ∈ z.cps.toList)))) H) ∨ ∃ a o, y = .ref a ∧ DGet H a x o ∧ Q (.bl (f o.isSome)) H
theorem op_ins {k : Nat} (hr : Room k X.A) : OpR X (compareOp .In) (rIns X.K id) := by
  refine op_in_seq.or ((op_inD (by have := hr.un; omega)).or (op_in_sign.or ?_))
  intro pins s σ H x y v u Q I rx ry h
  obtain ⟨a, oo, rfl, g, q⟩ := h
  obtain rfl : u = Value.ref a := ry
  exact d_in (by have := hr.units; omega) I g rx fun s3 I3 => ⟨.bl oo.isSome, H, I3, rfl, q⟩
theorem op_notIns {k : Nat} (hr : Room k X.A) : OpR X (compareOp .NotIn) (rIns X.K not) := by
  refine op_notIn_seq.or ((op_notInD (by have := hr.un; omega)).or (op_notIn_sign.or ?_))
  intro pins s σ H x y v u Q I rx ry h
  obtain ⟨a, oo, rfl, g, q⟩ := h
  obtain rfl : u = Value.ref a := ry
  exact d_notIn (by have := hr.units; omega) I g rx fun s3 I3 => ⟨.bl (!oo.isSome), H, I3, rfl, q⟩
theorem any_toPys (e : D) : ∀ es : List D, ((toPys es).any fun z => PyData.eqv z (toPy e)) = es.any fun z => eqD z e
  | [] => by unfold toPys; rfl
  | d :: es => by unfold toPys; rw [List.any_cons, List.any_cons, any_toPys e es]; rfl
theorem bok_inR {K : PySem.W.Frag} {f : Bool → Bool} {d1 d2 : D} {m : MS} {P : NX} (h : inR d1 d2 m fun b => P (.bl (f b)) m) {x y : L2.V} {H F : Hp} (s : Std K m H F) (r1 : Rp K F x d1) (r2 : Rp K F y d2) {Q : VK} (q : ∀ v H' F' d m', P d m' → Go K m H F m' H' F' → Rp K F' v d → Q v H') : rIns K f x y H Q := by
  have fl : ∀ ds vs p, y = .ref p → (SqL K H p vs ∨ SqT K H p vs) → Rps K F vs ds → inF d1 ds (fun b => P (.bl (f b)) m) → rIns K f x y H Q := by
    rintro ds vs p rfl hq rr ⟨a, b, c⟩
    obtain ⟨e1, e2⟩ := flats_rel r1 a rr b
    refine .inl ⟨p, vs, rfl, hq, flat_rel r1 a, e1, ?_⟩
    rw [show inV x vs = _ from e2]
    exact q _ _ _ _ _ c (Go.refl s) (.bl _)
  have sq : ∀ ds vs p, y = .ref p → SqL K H p vs → Rps K F vs ds → inS d1 ds m (fun b => P (.bl (f b)) m) → rIns K f x y H Q := by
    intro ds vs p hy hq rr h
    rcases h with h | ⟨e, es, a, b, ⟨c, d⟩, h⟩
    · exact fl ds vs p hy (.inl hq) rr h
    · subst hy
      refine .inr (.inl ⟨toPy e, toPys es, See.dp s 40 e a c r1, .lst hq (Sees.dp s 40 es b d rr), shaped_of c (by decide), ?_, ?_⟩)
      · have := shaped_of (n := 41) (d := .lst es) (by unfold plD; exact d) (by decide)
        unfold toPy at this
        exact this
      · rw [any_toPys]; exact q _ _ _ _ _ h (Go.refl s) (.bl _)
  have dc : ∀ c p kds, y = .ref p → m p = some c → c.kvs = some kds → (match keyOf d1 with | some k => P (.bl (f (valD kds k).isSome)) m | none => False) → rIns K f x y H Q := by
    rintro c p kds rfl hc hk h
    cases e : keyOf d1 with
    | none => rw [e] at h; exact h.elim
    | some k =>
      rw [e] at h
      obtain ⟨kvs, hd, rk⟩ := dct_at s hc hk
      refine .inr (.inr (.inr ⟨p, valV kvs k, rfl, ?_, ?_⟩))
      · rw [keyOf_rel r1 e]; exact dget_of hd
      · rw [rk.isSome]; exact q _ _ _ _ _ h (Go.refl s) (.bl _)
  cases d2 with
  | str z =>
    obtain ⟨c, rfl, h⟩ := h
    cases r1; cases r2
    exact .inr (.inr (.inl ⟨c, z, rfl, rfl, q _ _ _ _ _ h (Go.refl s) (.bl _)⟩))
  | lst ds =>
    cases r2 with
    | lst a b => exact sq ds _ _ rfl (.inl (.inl (s.at a))) b h
  | fls ds =>
    cases r2 with
    | fls a b => exact sq ds _ _ rfl (s.toH.seq a.sq) b h
  | tup ds =>
    cases r2 with
    | tup a b => exact fl ds _ _ rfl (.inr (Same.seqT s.toH a)) b h
  | ptp ds =>
    cases r2 with
    | ptp a a0 b => exact fl ds _ _ rfl (.inr (.inl (.inr ⟨_, s.at a⟩))) b h
  | raw w =>
    cases w with
    | ref p =>
      cases r2
      obtain ⟨c, hc, h⟩ := h
      cases c with
      | lst ds =>
        obtain ⟨vs, a, b⟩ := s.cells _ _ hc
        exact sq ds _ _ rfl (.inl (.inl a)) b h
      | dct kds => exact dc _ _ _ rfl hc rfl h
      | lck lo lv kds => exact dc _ _ _ rfl hc rfl h
      | _ => exact h.elim
    | _ => exact h.elim
  | _ => exact h.elim
theorem bok_in {K : PySem.W.Frag} : Bok2 K (rIns K id) sIn := fun d1 d2 m P h x y H F s r1 r2 Q q => bok_inR (f := id) h s r1 r2 q
theorem bok_notIn {K : PySem.W.Frag} : Bok2 K (rIns K not) sNotIn := fun d1 d2 m P h x y H F s r1 r2 Q q => bok_inR (f := not) h s r1 r2 q
/-! ### constants worked out -/
theorem se_negc {i n : Int} (ha : SE X a (.cst (.int i))) (h : -i = n := by decide) : SE X (.UnaryOp .USub a pos) (.cst (.int n)) := ⟨fun ρ m P Z p => (se_neg ha).go ρ m P Z (by subst h; exact p)⟩
theorem se_powc {i j n : Int} (ha : SE X a (.cst (.int i))) (hb : SE X b (.cst (.int j))) (hc : CPow i j := by exact ⟨by decide, by decide, by decide⟩) (h : i ^ j.toNat = n := by decide +kernel) : SE X (.BinOp a .Pow b pos) (.cst (.int n)) := ⟨fun ρ m P Z p => ⟨fun F0 σ H F S Q V tk q kx => by
  refine wE_of (pe_op op_pow pe_w pe_w) ?_
  refine (ha.go ρ m (fun d1 m1 => d1 = .int i ∧ m1 = m) EX0 ⟨rfl, rfl⟩).run F0 σ H F S _ V tk (fun x H1 F1 d1 m1 p1 g1 r1 => ?_) exk0
  obtain ⟨rfl, rfl⟩ := p1
  refine (hb.go ρ m1 (fun d1 m2 => d1 = .int j ∧ m2 = m1) EX0 ⟨rfl, rfl⟩).run F0 σ H1 F1 (S.go g1) _ V tk (fun y H2 F2 d2 m2 p2 g2 r2 => ?_) exk0
  obtain ⟨rfl, rfl⟩ := p2
  cases r1; cases r2
  subst h
  exact ⟨i, j, rfl, rfl, hc, q _ H2 F2 _ _ p (g1.trans g2) (.int _)⟩⟩⟩
def sDnew : BS := fun ds m P => ∀ p, m p = none → P (.raw (.ref p)) (mset m p (.dct []))
theorem se_dnew : SE X (.Dict [] [] pos) (.bop sDnew .nil) := ⟨fun ρ m P Z h => ⟨fun F0 σ H F S Q V tk q kx => by
  refine wE_of pe_dnewK fun p hp => ?_
  have h : ∀ p, m p = none → P (.raw (.ref p)) (mset m p (.dct [])) := h
  exact q _ _ _ _ _ (h p (S.std.free hp)) (Go.cell S.std hp ⟨[], upd_same, .nil⟩) (.raw _)⟩⟩
end
end Nu

namespace Nu
open PySem PySem.Spec L2
open PyProof.Rows hiding St
/-! ### calls of built-ins -/
section
variable {X : Cx} {e a b c o : Expr} {es : List Expr} {t ta tb tc to te : T} {ts : Ts} {pos p apos cpos : Pos}
theorem se_bi {id : String} {x : Str} {r : List L2.V → Hp → VK → Prop} {s : BS} (hc : CallR X (.builtin id) r) (hs : BokN X.K r s) (hm : X.mg x = none) (ha : SA X (e :: es) ts) (hv : bootBuiltins x = some (.builtin id) := by decide +kernel) (hg : Gl X x := by rfl)
    (hn : x ≠ "__name__" := by decide) (hdb : (x == ("__debug__" : Str)) = false := by decide) (he : starEach (e :: es) X.env = (false, eval e X.env) :: starEach es X.env := by rfl) (hpl : (backTo pos (starEach es X.env)).any (·.1) = false := by rfl) :
    SE X (.Call (.Name x p) (e :: es) [] pos) (.bop s ts) := ⟨fun ρ m P Z pp => ⟨fun F0 σ H F S Q V tk q kx => by
  refine wE_of (pe_callB hc hg hm hv pa_w hn hdb he hpl) ?_
  refine (ha.go ρ m _ Z pp).run F0 σ H F S _ V tk (fun vs H1 F1 ds m1 p1 g1 r1 => ?_) kx
  exact hs ds m1 P p1 vs H1 F1 g1.std r1 Q fun v H2 F2 d m2 p2 g2 r2 => q v H2 F2 d m2 p2 (g1.trans g2) r2⟩⟩
theorem se_ty {T : String} {x : Str} {r : List L2.V → Hp → VK → Prop} {s : BS} (hc : CallR X (.type T) r) (hs : BokN X.K r s) (hm : X.mg x = none) (ha : SA X (e :: es) ts) (hv : bootBuiltins x = some (.type T) := by decide +kernel) (hg : Gl X x := by rfl)
    (hn : x ≠ "__name__" := by decide) (hdb : (x == ("__debug__" : Str)) = false := by decide) (he : starEach (e :: es) X.env = (false, eval e X.env) :: starEach es X.env := by rfl) (hpl : (backTo pos (starEach es X.env)).any (·.1) = false := by rfl) :
    SE X (.Call (.Name x p) (e :: es) [] pos) (.bop s ts) := ⟨fun ρ m P Z pp => ⟨fun F0 σ H F S Q V tk q kx => by
  refine wE_of (pe_callTy hc hg hm hv pa_w hn hdb he hpl) ?_
  refine (ha.go ρ m _ Z pp).run F0 σ H F S _ V tk (fun vs H1 F1 ds m1 p1 g1 r1 => ?_) kx
  exact hs ds m1 P p1 vs H1 F1 g1.std r1 Q fun v H2 F2 d m2 p2 g2 r2 => q v H2 F2 d m2 p2 (g1.trans g2) r2⟩⟩
/-! ### calls of built-in methods -/
def TyV2 (X : Cx) (T : String) (x : L2.V) (H : Hp) : Prop := ∀ (pins : List (Addr × Obj)) (σ : L2.St) (s : Shared) (v : Value), Inv X pins σ H s → RelV x v → s.TypeIs v T ∧ ∀ a, v = .ref a → ∃ ob, s.heap.get? a = some ob ∧ ob.dict = none
structure Cand (X : Cx) (name : Str) (T id : String) (r : L2.V → List L2.V → Hp → VK → Prop) : Prop where
  pa : PlainAttrs T
  slot : Slot T name id
  hty : typeOf (.builtin id) = pure (.type "method_descriptor")
  hm : MtR X id r
def tBMX (X : Cx) (name : Str) (to : TE) (t : TA) : TE := fun σ H Q => to σ H fun x H1 => ∃ T id r, Cand X name T id r ∧ TyV2 X T x H1 ∧ t σ H1 fun xs H2 => r x xs H2 Q
theorem pe_bmX {name : Str} {teo : TE} {t : TA} (ho : PE X o teo) (ha : PA X (e :: es) t)
    (hbase : attributeBase o name X.env (eval o X.env) = eval o X.env)
    (hfew : ((backTo cpos (starEach (e :: es) X.env)).all (fun x => !x.1) && (backToKw cpos (keywordEach [] X.env)).all (fun x => x.1.isSome)
      && decide ((e :: es).length + ([] : List Keyword).length + (if ([] : List Keyword).isEmpty then 0 else 1) < 30)) = true)
    (hline : (apos.endLine == cpos.line) = true) (hs : starEach (e :: es) X.env = (false, eval e X.env) :: starEach es X.env) (hplain : (backTo cpos (starEach es X.env)).any (·.1) = false) :
    PE X (.Call (.Attribute o name apos) (e :: es) [] cpos) (tBMX X name teo t) := by
  refine ⟨fun pins s σ H Q I h => ?_⟩
  refine wpAny_Call_method_late hbase hfew hline rfl (thn (ho.run pins s σ H _ I h) fun v s1 ⟨x, H1, I1, r1, T, id, r, c, ty, q1⟩ => ?_)
  obtain ⟨h1, h2⟩ := ty pins σ s1 v I1 r1
  refine ⟨T, id, c.pa, c.slot, c.hty, h1, h2, ?_⟩
  have hA := ha.run cpos pins s1 σ H1 _ I1 q1
  rw [hs] at hA ⊢
  refine Calls.callWith_builtin (by show (false || (backTo cpos (starEach es X.env)).any (·.1)) = false; rw [hplain] <;> rfl) (Calls.evalArgs_plain ?_)
  exact thn hA fun us s2 ⟨vs, H2, I2, r2, q2⟩ => c.hm pins s2 σ H2 x vs v us Q I2 r1 r2 q2
theorem pe_bm0X {name : Str} {teo : TE} (ho : PE X o teo) (hbase : attributeBase o name X.env (eval o X.env) = eval o X.env) (hline : (apos.endLine == cpos.line) = true) :
    PE X (.Call (.Attribute o name apos) [] [] cpos) (fun σ H Q => teo σ H fun x H1 => ∃ T id r, Cand X name T id r ∧ TyV2 X T x H1 ∧ r x [] H1 Q) := by
  refine ⟨fun pins s σ H Q I h => ?_⟩
  refine wpAny_Call_method0_late hbase hline (thn (ho.run pins s σ H _ I h) fun v s1 ⟨x, H1, I1, r1, T, id, r, c, ty, q1⟩ => ?_)
  obtain ⟨h1, h2⟩ := ty pins σ s1 v I1 r1
  exact ⟨T, id, c.pa, c.slot, c.hty, h1, h2, Calls.callWith_builtin rfl (PySem.evalArgs_none (c.hm pins s1 σ H1 x [] v [] Q I1 r1 .nil q1))⟩
def BokM (K : PySem.W.Frag) (r : L2.V → List L2.V → Hp → VK → Prop) (s : BS) : Prop := ∀ d ds m P, s (d :: ds) m P → ∀ x vs H F, Std K m H F → Rp K F x d → Rps K F vs ds → ∀ Q : VK, (∀ v H' F' d m', P d m' → Go K m H F m' H' F' → Rp K F' v d → Q v H') → r x vs H Q
abbrev KR := D → MS → (BS → Prop) → Prop
structure KOk (X : Cx) (name : Str) (k : KR) : Prop where
  ok : ∀ d m R, k d m R → ∀ v H F, Std X.K m H F → Rp X.K F v d → ∃ T id r s, Cand X name T id r ∧ TyV2 X T v H ∧ BokM X.K r s ∧ R s
theorem se_bm {name : Str} {k : KR} (hk : KOk X name k) (ho : SE X o to) (ha : SA X (e :: es) ts)
    (hbase : attributeBase o name X.env (eval o X.env) = eval o X.env := by rfl)
    (hfew : ((backTo cpos (starEach (e :: es) X.env)).all (fun x => !x.1) && (backToKw cpos (keywordEach [] X.env)).all (fun x => x.1.isSome)
      && decide ((e :: es).length + ([] : List Keyword).length + (if ([] : List Keyword).isEmpty then 0 else 1) < 30)) = true := by rfl)
    (hline : (apos.endLine == cpos.line) = true := by rfl) (hs : starEach (e :: es) X.env = (false, eval e X.env) :: starEach es X.env := by rfl) (hplain : (backTo cpos (starEach es X.env)).any (·.1) = false := by rfl) :
    SE X (.Call (.Attribute o name apos) (e :: es) [] cpos) (.mth k to ts) := ⟨fun ρ m P Z pp => ⟨fun F0 σ H F S Q V tk q kx => by
  refine wE_of (pe_bmX pe_w pa_w hbase hfew hline hs hplain) ?_
  refine (ho.go ρ m _ Z pp).run F0 σ H F S _ V tk (fun x H1 F1 d m1 p1 g1 r1 => ?_) kx
  obtain ⟨T, id, r, s, cd, ty, bk, p2⟩ := hk.ok d m1 _ p1 x H1 F1 g1.std r1
  refine ⟨T, id, r, cd, ty, ?_⟩
  refine (ha.go ρ m1 _ Z p2).run F0 σ H1 F1 (S.go g1) _ V tk (fun vs H2 F2 ds m2 p3 g2 r2 => ?_) (kx.go g1)
  exact bk d ds m2 P p3 x vs H2 F2 g2.std (r1.up g2.grow _) r2 Q fun v H3 F3 d3 m3 p4 g3 r3 => q v H3 F3 d3 m3 p4 ((g1.trans g2).trans g3) r3⟩⟩
theorem se_bm0 {name : Str} {k : KR} (hk : KOk X name k) (ho : SE X o to)
    (hbase : attributeBase o name X.env (eval o X.env) = eval o X.env := by rfl) (hline : (apos.endLine == cpos.line) = true := by rfl) :
    SE X (.Call (.Attribute o name apos) [] [] cpos) (.mth k to .nil) := ⟨fun ρ m P Z pp => ⟨fun F0 σ H F S Q V tk q kx => by
  refine wE_of (pe_bm0X pe_w hbase hline) ?_
  refine (ho.go ρ m _ Z pp).run F0 σ H F S _ V tk (fun x H1 F1 d m1 p1 g1 r1 => ?_) kx
  obtain ⟨T, id, r, s, cd, ty, bk, p2⟩ := hk.ok d m1 _ p1 x H1 F1 g1.std r1
  refine ⟨T, id, r, cd, ty, ?_⟩
  exact bk d [] m1 P p2 x [] H1 F1 g1.std r1 .nil Q fun v H3 F3 d3 m3 p4 g3 r3 => q v H3 F3 d3 m3 p4 (g1.trans g3) r3⟩⟩
end
/-! kinds of receivers -/
def kL (s : BS) : KR := fun d m R => match d with
  | .lst _ => R s
  | .fls _ => R s
  | .raw (.ref p) => ∃ xs, m p = some (.lst xs) ∧ R s
  | _ => False
def kS (s : BS) : KR := fun d m R => match d with
  | .str _ => R s
  | _ => False
def kDc (s : BS) : KR := fun d m R => match d with
  | .raw (.ref p) => ∃ c, m p = some c ∧ match c with
    | .dct _ => R s
    | .lck _ _ _ => R s
    | _ => False
  | _ => False
def kLD (sl sd : BS) : KR := fun d m R => match d with
  | .raw (.ref p) => ∃ c, m p = some c ∧ match c with
    | .lst _ => R sl
    | .dct _ => R sd
    | _ => False
  | _ => False
theorem tyL {X : Cx} {x : L2.V} {a : Addr} {H : Hp} {vs : List L2.V} (hx : x = .ref a) (h : SqL X.K H a vs) : TyV2 X "list" x H := fun pins σ s v I r => by
  subst hx
  exact tyV_is I r (.inl ⟨rfl, vs, h⟩)
theorem tyS {X : Cx} {z : Str} {H : Hp} : TyV2 X "str" (.str z) H := fun pins σ s v I r => tyV_is I r rfl
theorem tyDc {X : Cx} {a : Addr} {H : Hp} {kvs : List (Key × L2.V)} (h : Rd H a (.dK kvs)) : TyV2 X "dict" (.ref a) H := fun pins σ s v I r => by
  obtain rfl : v = Value.ref a := r
  have g : DGet H a (kV (.inl 0)) (valV kvs (.inl 0)) := .inl ⟨kvs, .inl 0, h, rfl, rfl⟩
  refine ⟨dict_typeIs I g, fun b e => ?_⟩
  exact dict_noDict I g b e
section
variable {X : Cx} {name : Str} {id : String} {r : L2.V → List L2.V → Hp → VK → Prop} {s sl sd : BS}
theorem kokL (c : Cand X name "list" id r) (h : BokM X.K r s) : KOk X name (kL s) := ⟨fun d m R k v H F sd rr => by
  cases d with
  | lst xs =>
    cases rr with
    | lst a b => exact ⟨_, _, r, s, c, tyL rfl (.inl (.inl (sd.at a))), h, k⟩
  | fls xs =>
    cases rr with
    | fls a b => exact ⟨_, _, r, s, c, tyL rfl (sd.toH.seq a.sq), h, k⟩
  | raw w =>
    cases w with
    | ref p =>
      cases rr
      obtain ⟨xs, e, k⟩ := k
      obtain ⟨vs, a, b⟩ := sd.cells _ _ e
      exact ⟨_, _, r, s, c, tyL rfl (.inl (.inl a)), h, k⟩
    | _ => exact k.elim
  | _ => exact k.elim⟩
theorem kokS (c : Cand X name "str" id r) (h : BokM X.K r s) : KOk X name (kS s) := ⟨fun d m R k v H F sd rr => by
  cases d with
  | str z =>
    cases rr
    exact ⟨_, _, r, s, c, tyS, h, k⟩
  | _ => exact k.elim⟩
theorem kokD (c : Cand X name "dict" id r) (h : BokM X.K r s) : KOk X name (kDc s) := ⟨fun d m R k v H F sd rr => by
  cases d with
  | raw w =>
    cases w with
    | ref p =>
      cases rr
      obtain ⟨cl, e, k⟩ := k
      cases cl with
      | dct kds =>
        obtain ⟨kvs, a, b⟩ := sd.cells _ _ e
        exact ⟨_, _, r, s, c, tyDc (.inl a), h, k⟩
      | lck lo lv kds =>
        obtain ⟨a, b⟩ := sd.cells _ _ e
        exact ⟨_, _, r, s, c, tyDc (.inr ⟨lo, a⟩), h, k⟩
      | _ => exact k.elim
    | _ => exact k.elim
  | _ => exact k.elim⟩
theorem kokLD {id' : String} {r' : L2.V → List L2.V → Hp → VK → Prop} (c : Cand X name "list" id r) (h : BokM X.K r sl) (c' : Cand X name "dict" id' r') (h' : BokM X.K r' sd) : KOk X name (kLD sl sd) := ⟨fun d m R k v H F sdd rr => by
  cases d with
  | raw w =>
    cases w with
    | ref p =>
      cases rr
      obtain ⟨cl, e, k⟩ := k
      cases cl with
      | lst xs =>
        obtain ⟨vs, a, b⟩ := sdd.cells _ _ e
        exact ⟨_, _, r, sl, c, tyL rfl (.inl (.inl a)), h, k⟩
      | dct kds =>
        obtain ⟨kvs, a, b⟩ := sdd.cells _ _ e
        exact ⟨_, _, r', sd, c', tyDc (.inl a), h', k⟩
      | _ => exact k.elim
    | _ => exact k.elim
  | _ => exact k.elim⟩
end
/-! ### methods of lists -/
section
variable {K : PySem.W.Frag}
def sAppend : BS := fun ds m P => match ds with
  | [.raw (.ref p), d] => ∃ xs, m p = some (.lst xs) ∧ xs.length < 100000 ∧ P .non (mset m p (.lst (xs ++ [d])))
  | _ => False
theorem bm_append : BokM K rAppend sAppend := fun d ds m P h x vs H F s r1 rs Q q => by
  unfold sAppend at h
  split at h
  · rename_i e; cases e
    cases r1
    obtain ⟨v, rfl, r2⟩ := rps1 rs
    obtain ⟨xs, e, hz, h⟩ := h
    obtain ⟨ws, a, b⟩ := s.cells _ _ e
    exact ⟨_, ws, v, rfl, rfl, a, by rw [b.length]; exact Nat.lt_trans hz (by decide), q _ _ _ _ _ h (Go.put s e ⟨_, upd_same, b.append (.one r2)⟩) .non⟩
  · exact h.elim
def sExtend : BS := fun ds m P => match ds with
  | [.raw (.ref p), d] => ∃ xs, m p = some (.lst xs) ∧ asL d m fun ys => xs.length + ys.length ≤ 100000 ∧ P .non (mset m p (.lst (xs ++ ys)))
  | _ => False
theorem bm_extend : BokM K rExtend sExtend := fun d ds m P h x vs H F s r1 rs Q q => by
  unfold sExtend at h
  split at h
  · rename_i e; cases e
    cases r1
    obtain ⟨v, rfl, r2⟩ := rps1 rs
    obtain ⟨xs, e, h⟩ := h
    obtain ⟨ws, a, b⟩ := s.cells _ _ e
    obtain ⟨y, ys, us, rfl, h, a2, b2⟩ := asL_use h s r2
    exact ⟨_, y, ws, us, rfl, rfl, a, a2, by rw [b.length, b2.length]; exact Nat.le_trans h.1 (by decide), q _ _ _ _ _ h.2 (Go.put s e ⟨_, upd_same, b.append b2⟩) .non⟩
  · exact h.elim
def sInsert : BS := fun ds m P => match ds with
  | [.raw (.ref p), .int i, d] => ∃ xs, m p = some (.lst xs) ∧ (xs.length < 100000 ∧ 0 ≤ i ∧ i < 2 ^ 63) ∧ P .non (mset m p (.lst (xs.take i.toNat ++ [d] ++ xs.drop i.toNat)))
  | _ => False
theorem bm_insert : BokM K (fun x vs H Q => ∃ (l : Addr) (xs : List L2.V) (i : Int) (y : L2.V), x = .ref l ∧ vs = [.int i, y] ∧ H l = some (.lst xs) ∧ xs.length < sizeLine ∧ 0 ≤ i ∧ i < 2 ^ 63 ∧
    Q .non (upd H l (.lst (xs.take i.toNat ++ [y] ++ xs.drop i.toNat)))) sInsert := fun d ds m P h x vs H F s r1 rs Q q => by
  unfold sInsert at h
  split at h
  · rename_i e; cases e
    cases r1
    obtain ⟨v, w, rfl, r2, r3⟩ := rps2 rs
    cases r2
    obtain ⟨xs, e, ⟨hz, h0, h1⟩, h⟩ := h
    obtain ⟨ws, a, b⟩ := s.cells _ _ e
    exact ⟨_, ws, _, w, rfl, rfl, a, by rw [b.length]; exact Nat.lt_trans hz (by decide), h0, h1, q _ _ _ _ _ h (Go.put s e ⟨_, upd_same, ((b.take _).append (.one r3)).append (b.drop _)⟩) .non⟩
  · exact h.elim
theorem Rps.erase : ∀ {vs : List L2.V} {ds : List D} {F : Hp} (i : Nat), Rps K F vs ds → Rps K F (vs.eraseIdx i) (ds.eraseIdx i)
  | _, [], _, i, h => by cases h; exact .nil
  | _, d :: ds, _, 0, h => by
    cases h with
    | cons a b => exact b
  | _, d :: ds, _, i + 1, h => by
    cases h with
    | cons a b => exact .cons a (Rps.erase i b)
theorem Rps.dropLast {vs : List L2.V} {ds : List D} {F : Hp} (h : Rps K F vs ds) : Rps K F vs.dropLast ds.dropLast := by
  rw [List.dropLast_eq_take, List.dropLast_eq_take, h.length]
  exact h.take _
def sPopL : BS := fun ds m P => match ds with
  | [.raw (.ref p), .int i] => ∃ xs, m p = some (.lst xs) ∧ (-(2 ^ 63) ≤ i ∧ i < 2 ^ 63) ∧ ∃ k, ixN xs.length i = some k ∧ ∃ d, xs[k]? = some d ∧ P d (mset m p (.lst (xs.eraseIdx k)))
  | _ => False
theorem bm_popAt : BokM K rPopAt sPopL := fun d ds m P h x vs H F s r1 rs Q q => by
  unfold sPopL at h
  split at h
  · rename_i e; cases e
    cases r1
    obtain ⟨v, rfl, r2⟩ := rps1 rs
    cases r2
    obtain ⟨xs, e, ⟨h0, h1⟩, k, hk, d, hd, h⟩ := h
    obtain ⟨ws, a, b⟩ := s.cells _ _ e
    obtain ⟨v, e1, rv⟩ := b.get hd
    have g := Go.put s e (c' := .lst (xs.eraseIdx k)) ⟨_, upd_same, b.erase k⟩
    exact ⟨_, ws, _, k, v, rfl, rfl, a, h0, h1, by rw [b.length]; exact (ixN_seq hk).1, e1, q _ _ _ _ _ h g (rv.up g.grow _)⟩
  · exact h.elim
def sPop0 : BS := fun ds m P => match ds with
  | [.raw (.ref p)] => ∃ xs, m p = some (.lst xs) ∧ ∃ d, xs[xs.length - 1]? = some d ∧ P d (mset m p (.lst xs.dropLast))
  | _ => False
theorem bm_pop : BokM K rPop sPop0 := fun d ds m P h x vs H F s r1 rs Q q => by
  unfold sPop0 at h
  split at h
  · rename_i e; cases e
    cases r1; cases rs
    obtain ⟨xs, e, d, hd, h⟩ := h
    obtain ⟨ws, a, b⟩ := s.cells _ _ e
    obtain ⟨v, e1, rv⟩ := b.get hd
    have g := Go.put s e (c' := .lst xs.dropLast) ⟨_, upd_same, b.dropLast⟩
    exact ⟨_, ws, v, rfl, rfl, a, by rw [b.length]; exact e1, q _ _ _ _ _ h g (rv.up g.grow _)⟩
  · exact h.elim
def sReverse : BS := fun ds m P => match ds with
  | [.raw (.ref p)] => ∃ xs, m p = some (.lst xs) ∧ P .non (mset m p (.lst xs.reverse))
  | _ => False
theorem bm_reverse : BokM K rReverse sReverse := fun d ds m P h x vs H F s r1 rs Q q => by
  unfold sReverse at h
  split at h
  · rename_i e; cases e
    cases r1; cases rs
    obtain ⟨xs, e, h⟩ := h
    obtain ⟨ws, a, b⟩ := s.cells _ _ e
    exact ⟨_, ws, rfl, rfl, a, q _ _ _ _ _ h (Go.put s e ⟨_, upd_same, b.reverse⟩) .non⟩
  · exact h.elim
def sClearL : BS := fun ds m P => match ds with
  | [.raw (.ref p)] => ∃ xs, m p = some (.lst xs) ∧ P .non (mset m p (.lst []))
  | _ => False
theorem bm_clear : BokM K rClear sClearL := fun d ds m P h x vs H F s r1 rs Q q => by
  unfold sClearL at h
  split at h
  · rename_i e; cases e
    cases r1; cases rs
    obtain ⟨xs, e, h⟩ := h
    obtain ⟨ws, a, b⟩ := s.cells _ _ e
    exact ⟨_, ws, rfl, rfl, a, q _ _ _ _ _ h (Go.put s e ⟨_, upd_same, .nil⟩) .non⟩
  · exact h.elim
/-- remove, of ints -/
def sRemove : BS := fun ds m P => match ds with
  | [.raw (.ref p), .int k] => ∃ ns : List Int, m p = some (.lst (ns.map .int)) ∧ ∃ j : Nat, ns[j]? = some k ∧ (∀ i : Nat, i < j → ns[i]? ≠ some k) ∧ P .non (mset m p (.lst ((ns.eraseIdx j).map .int)))
  | _ => False
theorem bm_remove : BokM K rRemI sRemove := fun d ds m P h x vs H F s r1 rs Q q => by
  unfold sRemove at h
  split at h
  · rename_i e; cases e
    cases r1
    obtain ⟨v, rfl, r2⟩ := rps1 rs
    cases r2
    obtain ⟨ns, e, j, hj, hn, h⟩ := h
    obtain ⟨ws, a, b⟩ := s.cells _ _ e
    have eb := b.ints
    subst eb
    exact ⟨_, ns, _, j, rfl, rfl, a, hj, hn, q _ _ _ _ _ h (Go.put s e ⟨_, upd_same, Rps.of_ints _⟩) .non⟩
  · exact h.elim
def sIndex : BS := fun ds m P => match ds with
  | [d, x] => lsR d m fun xs => (flatD x = true ∧ xs.all flatD = true) ∧ ∃ (j : Nat) (z : D), xs[j]? = some z ∧ eqF z x = true ∧ (∀ (i : Nat) (z' : D), i < j → xs[i]? = some z' → eqF z' x = false) ∧ P (.int (j : Nat)) m
  | _ => False
theorem flat_all {F : Hp} : ∀ {vs : List L2.V} {ds : List D}, Rps K F vs ds → ds.all flatD = true → vs.all flatV = true
  | _, [], r, _ => by cases r; rfl
  | _, d :: ds, r, h => by
    cases r with
    | cons r1 r2 =>
      rw [List.all_cons, Bool.and_eq_true] at h
      rw [List.all_cons, flat_rel r1 h.1, flat_all r2 h.2]; rfl
theorem bm_index : BokM K (rIndex K) sIndex := fun d ds m P h x vs H F s r1 rs Q q => by
  unfold sIndex at h
  split at h
  · rename_i e; cases e
    obtain ⟨v, rfl, r2⟩ := rps1 rs
    obtain ⟨a, xs, ws, rfl, ⟨⟨f1, f2⟩, j, z, hj, hz, hn, h⟩, h1, h2⟩ := lsR_use h s r1
    obtain ⟨u, e1, ru⟩ := h2.get hj
    have fl : ∀ (i : Nat) (z : D), xs[i]? = some z → flatD z = true := fun i z e => List.all_eq_true.mp f2 z (List.mem_of_getElem? e)
    refine ⟨a, ws, v, j, u, rfl, rfl, h1, flat_rel r2 f1, flat_all h2 f2, e1, by rw [eqF_rel ru r2 (fl _ _ hj) f1]; exact hz, fun i z' hi e => ?_, q _ _ _ _ _ h (Go.refl s) (.int _)⟩
    obtain ⟨d', e2, r'⟩ := h2.get' e
    rw [eqF_rel r' r2 (fl _ _ e2) f1]
    exact hn i d' hi e2
  · exact h.elim
def sCount : BS := fun ds m P => match ds with
  | [d, .int k] => lsR d m fun xs => ∃ ns : List Int, xs = ns.map .int ∧ P (.int (ns.count k : Nat)) m
  | _ => False
theorem bm_count : BokM K (rCntI K) sCount := fun d ds m P h x vs H F s r1 rs Q q => by
  unfold sCount at h
  split at h
  · rename_i e; cases e
    obtain ⟨v, rfl, r2⟩ := rps1 rs
    cases r2
    obtain ⟨a, xs, ws, rfl, ⟨ns, rfl, h⟩, h1, h2⟩ := lsR_use h s r1
    have eb := h2.ints
    subst eb
    exact ⟨a, ns, _, rfl, rfl, h1, q _ _ _ _ _ h (Go.refl s) (.int _)⟩
  · exact h.elim
end
section
variable {X : Cx}
theorem k_append : KOk X "append" (kL sAppend) := kokL ⟨PySem.F.plainAttrs_list, PySem.F.slot_list_append, PySem.F.type_list_append, mt_append⟩ bm_append
theorem k_extend : KOk X "extend" (kL sExtend) := kokL ⟨PySem.F.plainAttrs_list, PySem.F.slot_list_extend, PySem.F.type_list_extend, mt_extend⟩ bm_extend
theorem k_insert : KOk X "insert" (kL sInsert) := kokL ⟨PySem.F.plainAttrs_list, PySem.F.slot_list_insert, PySem.F.type_list_insert, mt_insert⟩ bm_insert
theorem k_pop0 : KOk X "pop" (kL sPop0) := kokL ⟨PySem.F.plainAttrs_list, PySem.F.slot_list_pop, PySem.F.type_list_pop, mt_pop⟩ bm_pop
theorem k_reverse : KOk X "reverse" (kL sReverse) := kokL ⟨PySem.F.plainAttrs_list, PySem.F.slot_list_reverse, PySem.F.type_list_reverse, mt_reverse⟩ bm_reverse
theorem k_remove : KOk X "remove" (kL sRemove) := kokL ⟨PySem.F.plainAttrs_list, PySem.F.slot_list_remove, PySem.F.type_list_remove, mt_remove⟩ bm_remove
theorem k_index : KOk X "index" (kL sIndex) := kokL ⟨PySem.F.plainAttrs_list, PySem.F.slot_list_index, PySem.F.type_list_index, mt_index⟩ bm_index
theorem k_count : KOk X "count" (kL sCount) := kokL ⟨PySem.F.plainAttrs_list, PySem.F.slot_list_count, PySem.F.type_list_count, mt_lcount⟩ bm_count
end
/-! ### methods of dicts -/
section
variable {K : PySem.W.Frag}
def dR (p : Addr) (m : MS) (R : List (Key × D) → Prop) : Prop := ∃ c, m p = some c ∧ match c with
  | .dct kvs => R kvs
  | .lck _ _ kvs => R kvs
  | _ => False
theorem dR_use {m : MS} {H F : Hp} {p : Addr} {R : List (Key × D) → Prop} (h : dR p m R) (s : Std K m H F) : ∃ kds kvs, R kds ∧ Rd H p (.dK kvs) ∧ RKs K F kvs kds := by
  obtain ⟨c, e, h⟩ := h
  cases c with
  | dct kds =>
    obtain ⟨kvs, a, b⟩ := dct_at s e rfl
    exact ⟨kds, kvs, h, a, b⟩
  | lck lo lv kds =>
    obtain ⟨kvs, a, b⟩ := dct_at s e rfl
    exact ⟨kds, kvs, h, a, b⟩
  | _ => exact h.elim
def keyR (d : D) (R : Key → Prop) : Prop := match d with
  | .int i => R (.inl i)
  | .str s => R (.inr s)
  | _ => False
theorem keyR_use {F : Hp} {v : L2.V} {d : D} {R : Key → Prop} (h : keyR d R) (r : Rp K F v d) : ∃ k, v = kV k ∧ R k := by
  cases d with
  | int i => cases r; exact ⟨.inl i, rfl, h⟩
  | str s => cases r; exact ⟨.inr s, rfl, h⟩
  | _ => exact h.elim
def sGet1 : BS := fun ds m P => match ds with
  | [.raw (.ref p), y] => dR p m fun kvs => keyR y fun k => P ((valD kvs k).getD .non) m
  | _ => False
def sGet2 : BS := fun ds m P => match ds with
  | [.raw (.ref p), y, d] => dR p m fun kvs => keyR y fun k => P ((valD kvs k).getD d) m
  | _ => False
def rGet1 : L2.V → List L2.V → Hp → VK → Prop := fun x vs H Q => ∃ a y o, x = .ref a ∧ vs = [y] ∧ DGet H a y o ∧ Q (o.getD .non) H
def rGet2 : L2.V → List L2.V → Hp → VK → Prop := fun x vs H Q => ∃ a y z o, x = .ref a ∧ vs = [y, z] ∧ DGet H a y o ∧ Q (o.getD z) H
theorem mt_get1 {X : Cx} (hu : X.A.units + 1 < cLine) : MtR X "dict.get" rGet1 := by
  intro pins s σ H x vs v us Q I rx rv h
  obtain ⟨a, y, o, rfl, rfl, g, q⟩ := h
  obtain rfl : v = Value.ref a := rx
  obtain ⟨u, rfl, ru⟩ := rv.one
  exact d_get1 hu I g ru fun w' s3 I3 rw' => ⟨_, H, I3, rw', q⟩
theorem mt_get2 {X : Cx} (hu : X.A.units + 1 < cLine) : MtR X "dict.get" rGet2 := by
  intro pins s σ H x vs v us Q I rx rv h
  obtain ⟨a, y, z, o, rfl, rfl, g, q⟩ := h
  obtain rfl : v = Value.ref a := rx
  obtain ⟨u, w, rfl, ru, rw'⟩ := vals2 rv
  exact d_get2 hu I g ru rw' fun w' s3 I3 rw' => ⟨_, H, I3, rw', q⟩
theorem bm_get1 : BokM K rGet1 sGet1 := fun d ds m P h x vs H F s r1 rs Q q => by
  unfold sGet1 at h
  split at h
  · rename_i e; cases e
    cases r1
    obtain ⟨v, rfl, r2⟩ := rps1 rs
    obtain ⟨kds, kvs, h, a, b⟩ := dR_use h s
    obtain ⟨k, rfl, h⟩ := keyR_use h r2
    refine ⟨_, _, _, rfl, rfl, dget_of a, q _ _ _ _ _ h (Go.refl s) ?_⟩
    rcases b.val k with ⟨e1, e2⟩ | ⟨v, d, e1, e2, rv⟩
    · rw [e1, e2]; exact .non
    · rw [e1, e2]; exact rv
  · exact h.elim
theorem bm_get2 : BokM K rGet2 sGet2 := fun d ds m P h x vs H F s r1 rs Q q => by
  unfold sGet2 at h
  split at h
  · rename_i e; cases e
    cases r1
    obtain ⟨v, w, rfl, r2, r3⟩ := rps2 rs
    obtain ⟨kds, kvs, h, a, b⟩ := dR_use h s
    obtain ⟨k, rfl, h⟩ := keyR_use h r2
    refine ⟨_, _, _, _, rfl, rfl, dget_of a, q _ _ _ _ _ h (Go.refl s) ?_⟩
    rcases b.val k with ⟨e1, e2⟩ | ⟨v, d, e1, e2, rv⟩
    · rw [e1, e2]; exact r3
    · rw [e1, e2]; exact rv
  · exact h.elim
theorem RKs.drop {F : Hp} {l : List (Key × L2.V)} {r : List (Key × D)} (k : Key) (h : RKs K F l r) : RKs K F (dropK l k) (dropD r k) := by
  unfold dropK dropD
  induction h with
  | nil => exact .nil
  | @cons p q l r hp t ih =>
    by_cases e : q.1 = k
    · have e1 : p.1 = k := hp.1.trans e
      simpa [List.filter_cons, e, e1] using ih
    · have e1 : ¬ p.1 = k := fun z => e (hp.1.symm.trans z)
      have : RKs K F (p :: List.filter (fun kv => decide (kv.1 ≠ k)) l) (q :: List.filter (fun kv => !decide (kv.1 = k)) r) := Paired.cons hp ih
      simpa [List.filter_cons, e, e1] using this
def sPopD : BS := fun ds m P => match ds with
  | [.raw (.ref p), y] => ∃ kvs, m p = some (.dct kvs) ∧ keyR y fun k => ∃ d, valD kvs k = some d ∧ P d (mset m p (.dct (dropD kvs k)))
  | _ => False
def sPopD2 : BS := fun ds m P => match ds with
  | [.raw (.ref p), y, d0] => ∃ kvs, m p = some (.dct kvs) ∧ keyR y fun k => (∀ d, valD kvs k = some d → P d (mset m p (.dct (dropD kvs k)))) ∧ (valD kvs k = none → P d0 m)
  | _ => False
def rPopD : L2.V → List L2.V → Hp → VK → Prop := fun x vs H Q => ∃ a kvs k v, x = .ref a ∧ vs = [kV k] ∧ H a = some (.dK kvs) ∧ valV kvs k = some v ∧ Q v (upd H a (.dK (dropK kvs k)))
def rPopD2 : L2.V → List L2.V → Hp → VK → Prop := fun x vs H Q => ∃ a kvs k z, x = .ref a ∧ vs = [kV k, z] ∧ H a = some (.dK kvs) ∧ (∀ v, valV kvs k = some v → Q v (upd H a (.dK (dropK kvs k)))) ∧ (valV kvs k = none → Q z H)
theorem mt_popD {X : Cx} : MtR X "dict.pop" rPopD := by
  intro pins s σ H x vs v us Q I rx rv h
  obtain ⟨a, kvs, k, w, rfl, rfl, e, l, q⟩ := h
  obtain rfl : v = Value.ref a := rx
  obtain ⟨u, rfl, ru⟩ := rv.one
  exact d_pop I e ru l (.inl rfl) fun w' s3 I3 rw' => ⟨_, _, I3, rw', q⟩
theorem mt_popD2 {X : Cx} : MtR X "dict.pop" rPopD2 := by
  intro pins s σ H x vs v us Q I rx rv h
  obtain ⟨a, kvs, k, z, rfl, rfl, e, q1, q2⟩ := h
  obtain rfl : v = Value.ref a := rx
  obtain ⟨u, w, rfl, ru, rw'⟩ := vals2 rv
  cases l : valV kvs k with
  | none => exact d_popD I e ru l fun s3 I3 => ⟨_, H, I3, rw', q2 l⟩
  | some y => exact d_pop I e ru l (.inr ⟨_, rfl⟩) fun w' s3 I3 rw' => ⟨_, _, I3, rw', q1 y l⟩
theorem bm_popD : BokM K rPopD sPopD := fun d ds m P h x vs H F s r1 rs Q q => by
  unfold sPopD at h
  split at h
  · rename_i e; cases e
    cases r1
    obtain ⟨v, rfl, r2⟩ := rps1 rs
    obtain ⟨kds, e, h⟩ := h
    obtain ⟨kvs, a, b⟩ := s.cells _ _ e
    obtain ⟨k, rfl, d, hd, h⟩ := keyR_use h r2
    obtain ⟨v, e1, rv⟩ := RKs.some b hd
    have g := Go.put s e (c' := .dct (dropD kds k)) ⟨_, upd_same, RKs.drop k b⟩
    exact ⟨_, kvs, k, v, rfl, rfl, a, e1, q _ _ _ _ _ h g (rv.up g.grow _)⟩
  · exact h.elim
theorem bm_popD2 : BokM K rPopD2 sPopD2 := fun d ds m P h x vs H F s r1 rs Q q => by
  unfold sPopD2 at h
  split at h
  · rename_i e; cases e
    cases r1
    obtain ⟨v, w, rfl, r2, r3⟩ := rps2 rs
    obtain ⟨kds, e, h⟩ := h
    obtain ⟨kvs, a, b⟩ := s.cells _ _ e
    obtain ⟨k, rfl, h1, h2⟩ := keyR_use h r2
    have g := Go.put s e (c' := .dct (dropD kds k)) ⟨_, upd_same, RKs.drop k b⟩
    refine ⟨_, kvs, k, w, rfl, rfl, a, fun v hv => ?_, fun hv => ?_⟩
    · rcases RKs.val b k with ⟨e1, e2⟩ | ⟨v', d, e1, e2, rv⟩
      · rw [hv] at e1; cases e1
      · rw [hv] at e1; cases e1
        exact q _ _ _ _ _ (h1 d e2) g (rv.up g.grow _)
    · rcases RKs.val b k with ⟨e1, e2⟩ | ⟨v', d, e1, e2, rv⟩
      · exact q _ _ _ _ _ (h2 e2) (Go.refl s) r3
      · rw [hv] at e1; cases e1
  · exact h.elim
def sClearD : BS := fun ds m P => match ds with
  | [.raw (.ref p)] => ∃ kvs, m p = some (.dct kvs) ∧ P .non (mset m p (.dct []))
  | _ => False
theorem bm_clearD : BokM K rDClear sClearD := fun d ds m P h x vs H F s r1 rs Q q => by
  unfold sClearD at h
  split at h
  · rename_i e; cases e
    cases r1; cases rs
    obtain ⟨kds, e, h⟩ := h
    obtain ⟨kvs, a, b⟩ := s.cells _ _ e
    exact ⟨_, kvs, rfl, rfl, a, q _ _ _ _ _ h (Go.put s e ⟨_, upd_same, .nil⟩) .non⟩
  · exact h.elim
def sSetd : BS := fun ds m P => match ds with
  | [.raw (.ref p), y, d0] => ∃ kvs, m p = some (.dct kvs) ∧ kvs.length < 100000 ∧ keyR y fun k => (∀ d, valD kvs k = some d → P d m) ∧ (valD kvs k = none → P d0 (mset m p (.dct (putD kvs k d0))))
  | _ => False
theorem mt_setd {X : Cx} : MtR X "dict.setdefault" rSetd := by
  intro pins s σ H x vs v us Q I rx rv h
  obtain ⟨a, kvs, k, w, rfl, rfl, e, hl, q1, q2⟩ := h
  obtain rfl : v = Value.ref a := rx
  obtain ⟨u, z, rfl, ru, rz⟩ := vals2 rv
  exact d_setd I e ru rz hl (fun v hv w' s3 I3 rw' => ⟨v, H, I3, rw', q1 v hv⟩) (fun hv w' s3 I3 rw' => ⟨w, _, I3, rw', q2 hv⟩)
theorem bm_setd : BokM K rSetd sSetd := fun d ds m P h x vs H F s r1 rs Q q => by
  unfold sSetd at h
  split at h
  · rename_i e; cases e
    cases r1
    obtain ⟨v, w, rfl, r2, r3⟩ := rps2 rs
    obtain ⟨kds, e, hz, h⟩ := h
    obtain ⟨kvs, a, b⟩ := s.cells _ _ e
    obtain ⟨k, rfl, h1, h2⟩ := keyR_use h r2
    refine ⟨_, kvs, k, w, rfl, rfl, a, by rw [RKs.len b]; exact Nat.lt_trans hz (by decide), fun v hv => ?_, fun hv => ?_⟩
    · rcases RKs.val b k with ⟨e1, e2⟩ | ⟨v', d, e1, e2, rv⟩
      · rw [hv] at e1; cases e1
      · rw [hv] at e1; cases e1
        exact q _ _ _ _ _ (h1 d e2) (Go.refl s) rv
    · rcases RKs.val b k with ⟨e1, e2⟩ | ⟨v', d, e1, e2, rv⟩
      · exact q _ _ _ _ _ (h2 e2) (Go.put s e ⟨_, upd_same, RKs.put b r3⟩) r3
      · rw [hv] at e1; cases e1
  · exact h.elim
end
section
variable {X : Cx} {k : Nat}
theorem k_get1 (hr : Room k X.A) : KOk X "get" (kDc sGet1) := kokD ⟨PySem.F.plainAttrs_dict, PySem.F.slot_dict_get, PySem.F.type_dict_get, mt_get1 (by have := hr.units; omega)⟩ bm_get1
theorem k_get2 (hr : Room k X.A) : KOk X "get" (kDc sGet2) := kokD ⟨PySem.F.plainAttrs_dict, PySem.F.slot_dict_get, PySem.F.type_dict_get, mt_get2 (by have := hr.units; omega)⟩ bm_get2
theorem k_setd : KOk X "setdefault" (kDc sSetd) := kokD ⟨PySem.F.plainAttrs_dict, PySem.F.slot_dict_setdefault, PySem.F.type_dict_setdefault, mt_setd⟩ bm_setd
theorem k_pop : KOk X "pop" (kLD sPopL sPopD) := kokLD ⟨PySem.F.plainAttrs_list, PySem.F.slot_list_pop, PySem.F.type_list_pop, mt_popAt⟩ bm_popAt ⟨PySem.F.plainAttrs_dict, PySem.F.slot_dict_pop, PySem.F.type_dict_pop, mt_popD⟩ bm_popD
theorem k_pop2 : KOk X "pop" (kDc sPopD2) := kokD ⟨PySem.F.plainAttrs_dict, PySem.F.slot_dict_pop, PySem.F.type_dict_pop, mt_popD2⟩ bm_popD2
theorem k_clear : KOk X "clear" (kLD sClearL sClearD) := kokLD ⟨PySem.F.plainAttrs_list, PySem.F.slot_list_clear, PySem.F.type_list_clear, mt_clear⟩ bm_clear ⟨PySem.F.plainAttrs_dict, PySem.F.slot_dict_clear, PySem.F.type_dict_clear, mtd_clear⟩ bm_clearD
end
end Nu

namespace Nu
open PySem PySem.Spec L2
open PyProof.Rows hiding St
/-! ### built-in functions -/
section
variable {K : PySem.W.Frag}
theorem bokN {r : List L2.V → Hp → VK → Prop} {s : BS} (h : ∀ ds m P, s ds m P → ∀ vs H F, Std K m H F → Rps K F vs ds → ∀ Q : VK, (∀ v H' F' d m', P d m' → Go K m H F m' H' F' → Rp K F' v d → Q v H') → r vs H Q) : BokN K r s := h
/-! len -/
def sLen : BS := fun ds m P => match ds with
  | [.str z] => z.length ≤ sizeLine ∧ P (.int (z.length : Nat)) m
  | [.lst xs] => P (.int (xs.length : Nat)) m
  | [.tup xs] => P (.int (xs.length : Nat)) m
  | [.fls xs] => P (.int (xs.length : Nat)) m
  | [.ptp xs] => P (.int (xs.length : Nat)) m
  | [.raw (.ref p)] => ∃ c, m p = some c ∧ match c with
    | .lst xs => P (.int (xs.length : Nat)) m
    | .dct kvs => P (.int (kvs.length : Nat)) m
    | .lck _ _ kvs => P (.int (kvs.length : Nat)) m
    | _ => False
  | _ => False
def rLen (K : PySem.W.Frag) : List L2.V → Hp → VK → Prop := fun xs H Q => (∃ x n, xs = [x] ∧ LenV K x H n ∧ Q (.int n) H) ∨ ∃ a kvs, xs = [.ref a] ∧ Rd H a (.dK kvs) ∧ Q (.int (kvs.length : Nat)) H
theorem cr_len {X : Cx} : CallR X (.builtin "len") (rLen X.K) := by
  refine call_len.or ?_
  intro pins s σ H xs us Q I r h
  obtain ⟨a, kvs, rfl, ha, q⟩ := h
  rw [Vals.ref1 r]
  exact d_len I ha fun t s' I' => ⟨.int _, H, I', ⟨_, rfl⟩, q⟩
theorem bok_len : BokN K (rLen K) sLen := fun ds m P h vs H F s rs Q q => by
  unfold sLen at h
  split at h
  · obtain ⟨v, rfl, r⟩ := rps1 rs
    cases r
    exact .inl ⟨_, _, rfl, ⟨h.1, rfl⟩, q _ _ _ _ _ h.2 (Go.refl s) (.int _)⟩
  · obtain ⟨v, rfl, r⟩ := rps1 rs
    cases r with
    | lst a b => exact .inl ⟨_, _, rfl, .inl ⟨_, .inl (.inl (s.at a)), rfl⟩, by rw [b.length]; exact q _ _ _ _ _ h (Go.refl s) (.int _)⟩
  · obtain ⟨v, rfl, r⟩ := rps1 rs
    cases r with
    | tup a b => exact .inl ⟨_, _, rfl, .inr ⟨_, Same.seqT s.toH a, rfl⟩, by rw [b.length]; exact q _ _ _ _ _ h (Go.refl s) (.int _)⟩
  · obtain ⟨v, rfl, r⟩ := rps1 rs
    cases r with
    | fls a b => exact .inl ⟨_, _, rfl, .inl ⟨_, s.toH.seq a.sq, rfl⟩, by rw [b.length]; exact q _ _ _ _ _ h (Go.refl s) (.int _)⟩
  · obtain ⟨v, rfl, r⟩ := rps1 rs
    cases r with
    | ptp a a0 b => exact .inl ⟨_, _, rfl, .inr ⟨_, .inl (.inr ⟨_, s.at a⟩), rfl⟩, by rw [b.length]; exact q _ _ _ _ _ h (Go.refl s) (.int _)⟩
  · obtain ⟨v, rfl, r⟩ := rps1 rs
    cases r
    obtain ⟨c, e, h⟩ := h
    cases c with
    | lst xs =>
      obtain ⟨vs, a, b⟩ := s.cells _ _ e
      exact .inl ⟨_, _, rfl, .inl ⟨_, .inl (.inl a), rfl⟩, by rw [b.length]; exact q _ _ _ _ _ h (Go.refl s) (.int _)⟩
    | dct kds =>
      obtain ⟨kvs, a, b⟩ := dct_at s e rfl
      exact .inr ⟨_, kvs, rfl, a, by rw [b.len]; exact q _ _ _ _ _ h (Go.refl s) (.int _)⟩
    | lck lo lv kds =>
      obtain ⟨kvs, a, b⟩ := dct_at s e rfl
      exact .inr ⟨_, kvs, rfl, a, by rw [b.len]; exact q _ _ _ _ _ h (Go.refl s) (.int _)⟩
    | _ => exact h.elim
  · exact h.elim
/-! abs, int, str, divmod -/
def sAbs : BS := fun ds m P => match ds with
  | [.int i] => P (.int (if i < 0 then -i else i)) m
  | _ => False
theorem bok_abs : BokN K (fun xs H Q => ∃ i, xs = [.int i] ∧ Q (.int (if i < 0 then -i else i)) H) sAbs := fun ds m P h vs H F s rs Q q => by
  unfold sAbs at h
  split at h
  · obtain ⟨v, rfl, r⟩ := rps1 rs
    cases r
    exact ⟨_, rfl, q _ _ _ _ _ h (Go.refl s) (.int _)⟩
  · exact h.elim
def sToInt : BS := fun ds m P => match ds with
  | [.int i] => P (.int i) m
  | [.bl k] => P (.int (if k then 1 else 0)) m
  | _ => False
theorem bok_toInt : BokN K (fun xs H Q => (∃ i, xs = [.int i] ∧ Q (.int i) H) ∨ ∃ k, xs = [.bl k] ∧ Q (.int (if k then 1 else 0)) H) sToInt := fun ds m P h vs H F s rs Q q => by
  unfold sToInt at h
  split at h
  · obtain ⟨v, rfl, r⟩ := rps1 rs
    cases r
    exact .inl ⟨_, rfl, q _ _ _ _ _ h (Go.refl s) (.int _)⟩
  · obtain ⟨v, rfl, r⟩ := rps1 rs
    cases r
    exact .inr ⟨_, rfl, q _ _ _ _ _ h (Go.refl s) (.int _)⟩
  · exact h.elim
def sToStr : BS := fun ds m P => match ds with
  | [.int i] => i.natAbs.log2 < 1920 ∧ P (.str (toString i)) m
  | _ => False
theorem bok_toStr : BokN K (fun xs H Q => ∃ i, xs = [.int i] ∧ i.natAbs.log2 < 1920 ∧ Q (.str (toString i)) H) sToStr := fun ds m P h vs H F s rs Q q => by
  unfold sToStr at h
  split at h
  · obtain ⟨v, rfl, r⟩ := rps1 rs
    cases r
    exact ⟨_, rfl, h.1, q _ _ _ _ _ h.2 (Go.refl s) (.str _)⟩
  · exact h.elim
def sDivmod : BS := fun ds m P => match ds with
  | [.int i, .int j] => (0 < j ∧ j < 2 ^ 200) ∧ P (.tup [.int (i / j), .int (i % j)]) m
  | _ => False
theorem bok_divmod : BokN K (fun xs H Q => ∃ i j, xs = [.int i, .int j] ∧ CDivP i j ∧ ∀ p, H p = none → Q (.ref p) (upd H p (.tup [.int (i / j), .int (i % j)]))) sDivmod := fun ds m P h vs H F s rs Q q => by
  unfold sDivmod at h
  split at h
  · obtain ⟨v, w, rfl, r1, r2⟩ := rps2 rs
    cases r1; cases r2
    refine ⟨_, _, rfl, ⟨h.1.1, ?_⟩, newT_q h.2 s (.cons (.int _) (.cons (.int _) .nil)) q⟩
    exact PyProof.noPylong_of_log2 (divW_of (i := 0) h.1).2
  · exact h.elim
/-! min, max of two -/
def sMin2 : BS := fun ds m P => match ds with
  | [.int i, .int j] => P (.int (if j < i then j else i)) m
  | _ => False
def sMax2 : BS := fun ds m P => match ds with
  | [.int i, .int j] => P (.int (if j > i then j else i)) m
  | _ => False
theorem bok_min2 : BokN K (fun xs H Q => ∃ i j, xs = [.int i, .int j] ∧ Q (.int (if j < i then j else i)) H) sMin2 := fun ds m P h vs H F s rs Q q => by
  unfold sMin2 at h
  split at h
  · obtain ⟨v, w, rfl, r1, r2⟩ := rps2 rs
    cases r1; cases r2
    exact ⟨_, _, rfl, q _ _ _ _ _ h (Go.refl s) (.int _)⟩
  · exact h.elim
theorem bok_max2 : BokN K (fun xs H Q => ∃ i j, xs = [.int i, .int j] ∧ Q (.int (if j > i then j else i)) H) sMax2 := fun ds m P h vs H F s rs Q q => by
  unfold sMax2 at h
  split at h
  · obtain ⟨v, w, rfl, r1, r2⟩ := rps2 rs
    cases r1; cases r2
    exact ⟨_, _, rfl, q _ _ _ _ _ h (Go.refl s) (.int _)⟩
  · exact h.elim
end
/-! ### sum, max, min, any, all -/
section
variable {prog : Program} {w : World} {A : Around} {E : Value → Shared → Prop} {s : Shared} {l : Addr} {its : List Value} {ns : List Int} {Q : Value → Shared → Prop} {xs : Array (Int × Tok)}
theorem iter_intTup {Q : Value → Shared → Prop} (hl : s.heap.IsTuple l (intItems xs))
    (h : ∀ s₂ : Shared, s₂ = { s with heap := s.heap.push { cls := .type "tuple_iterator", data := .fields #[.ref l, .int 0 0] } } →
      (s₂.heap.IsTupleIter s.heap.objs.size l 0 ∧ s₂.heap.IsTuple l (intItems xs)) → (∀ b ∈ [s.heap.objs.size, l], b < s₂.heap.objs.size) → l ≠ s.heap.objs.size → Q (.ref s.heap.objs.size) s₂) :
    wpAny (model prog w) A (pyIter (.ref l)) Q E s := by
  have hlt : l < s.heap.objs.size := by obtain ⟨_, e, _⟩ := hl; exact Heap.lt_size e
  refine wpAny_pyIter_tuple hl (h _ rfl ⟨⟨_, Heap.get?_push_size _ rfl, rfl, rfl⟩, hl.push _⟩ (fun b hb => ?_) (Nat.ne_of_lt hlt))
  show b < (s.heap.push _).objs.size
  rw [Heap.size_push]
  rcases List.mem_cons.mp hb with rfl | hb
  · exact Nat.lt_succ_self _
  · rcases List.mem_cons.mp hb with rfl | hb
    · exact Nat.lt_succ_of_lt hlt
    · cases hb
theorem old_keptT {h' : Heap} (hk : ∀ b o, b ∉ [s.heap.objs.size] → (s.heap.push { cls := .type "tuple_iterator", data := .fields #[.ref l, .int 0 0] }).get? b = some o → h'.get? b = some o) :
    ∀ b o, s.heap.get? b = some o → h'.get? b = some o := fun b o e => by
  refine hk b o (fun hm => ?_) (Heap.get?_push_of_some _ e)
  rcases List.mem_cons.mp hm with e1 | hm
  · exact absurd (e1 ▸ Heap.lt_size e) (Nat.lt_irrefl _)
  · cases hm
theorem sum_rawT (hh : A.handled = none) (hl : s.heap.IsTuple l its.toArray) (hi : IntsAre its ns)
    (h : ∀ h' tk t', (∀ b o, s.heap.get? b = some o → h'.get? b = some o) → Q (.int ns.sum t') { s with heap := h', toks := tk }) : wpAny (model prog w) A (call (.builtin "sum") [.ref l]) Q E s := by
  obtain ⟨xs, e⟩ := hi.allInts.items
  have hn : numsOf (intItems xs).toList = ns := by rw [← e]; exact hi.numsOf
  rw [nums_intItems] at hn
  rw [e] at hl
  refine call_sum_walkG (iter_intTup hl fun s₂ e st hfp hlI => ?_)
  subst e
  refine ⟨_, _, _, _, _, _, numAt xs, rfl, Walks.tuple (A := A.in1) hh _ l hlI (intItems xs), st, hfp, (fun _ _ => intItems_at), fun h' tk t' hk => ?_⟩
  have := h h' tk t' (old_keptT hk)
  have e2 : (preSum (numAt xs) (intItems xs).size : Int) = ns.sum := by
    have : (intItems xs).size = xs.size := by simp [intItems]
    rw [this, preSum_eq, List.take_of_length_le (by simp), hn]
  rw [e2]; exact this
theorem max_rawT (hh : A.handled = none) (hl : s.heap.IsTuple l its.toArray) (hi : IntsAre its ns) (hne : 0 < ns.length)
    (h : ∀ h' tk M t', (∀ b o, s.heap.get? b = some o → h'.get? b = some o) → M ∈ ns → (∀ a, a ∈ ns → a ≤ M) → Q (.int M t') { s with heap := h', toks := tk }) : wpAny (model prog w) A (call (.builtin "max") [.ref l]) Q E s := by
  obtain ⟨xs, e⟩ := hi.allInts.items
  have hn : numsOf (intItems xs).toList = ns := by rw [← e]; exact hi.numsOf
  rw [nums_intItems] at hn
  subst hn
  rw [e] at hl
  have hsz : 0 < xs.size := by simpa using hne
  refine call_max_walk (iter_intTup hl fun s₂ e st hfp hlI => ?_)
  subst e
  refine ⟨_, _, _, _, _, _, _, rfl, Walks.tuple (A := A.in1) hh _ l hlI (intItems xs), st, hfp, by simpa [intItems] using hsz, CmpOf.ints_gt (numAt xs) (fun _ _ => intItems_at), fun v h' tk hv hk => ?_⟩
  have hv : (intItems xs)[argBest (fun i j => decide (numAt xs i > numAt xs j)) (xs.size - 1)]? = some v := by simpa [intItems] using hv
  obtain ⟨t, rfl⟩ := intItems_at hv
  obtain ⟨h1, h2⟩ := argBest_gt (numAt xs) (xs.size - 1)
  refine h h' tk _ t (old_keptT hk) ?_ fun a ha => ?_
  · rw [numAt_eq]; exact PySem.getD_mem (by rw [List.length_map, Array.length_toList]; omega)
  · obtain ⟨j, hj, rfl⟩ := mem_getD ha
    rw [List.length_map, Array.length_toList] at hj
    rw [← numAt_eq]; exact h2 j (by omega)
theorem min_rawT (hh : A.handled = none) (hl : s.heap.IsTuple l its.toArray) (hi : IntsAre its ns) (hne : 0 < ns.length)
    (h : ∀ h' tk M t', (∀ b o, s.heap.get? b = some o → h'.get? b = some o) → M ∈ ns → (∀ a, a ∈ ns → M ≤ a) → Q (.int M t') { s with heap := h', toks := tk }) : wpAny (model prog w) A (call (.builtin "min") [.ref l]) Q E s := by
  obtain ⟨xs, e⟩ := hi.allInts.items
  have hn : numsOf (intItems xs).toList = ns := by rw [← e]; exact hi.numsOf
  rw [nums_intItems] at hn
  subst hn
  rw [e] at hl
  have hsz : 0 < xs.size := by simpa using hne
  refine call_min_walk (iter_intTup hl fun s₂ e st hfp hlI => ?_)
  subst e
  refine ⟨_, _, _, _, _, _, _, rfl, Walks.tuple (A := A.in1) hh _ l hlI (intItems xs), st, hfp, by simpa [intItems] using hsz, CmpOf.ints_lt (numAt xs) (fun _ _ => intItems_at), fun v h' tk hv hk => ?_⟩
  have hv : (intItems xs)[argBest (fun i j => decide (numAt xs i < numAt xs j)) (xs.size - 1)]? = some v := by simpa [intItems] using hv
  obtain ⟨t, rfl⟩ := intItems_at hv
  obtain ⟨h1, h2⟩ := argBest_lt (numAt xs) (xs.size - 1)
  refine h h' tk _ t (old_keptT hk) ?_ fun a ha => ?_
  · rw [numAt_eq]; exact PySem.getD_mem (by rw [List.length_map, Array.length_toList]; omega)
  · obtain ⟨j, hj, rfl⟩ := mem_getD ha
    rw [List.length_map, Array.length_toList] at hj
    rw [← numAt_eq]; exact h2 j (by omega)
end
section
variable {K : PySem.W.Frag}
def rSums (K : PySem.W.Frag) : List L2.V → Hp → VK → Prop := fun vs H Q => ∃ (a : Addr) (ns : List Int), vs = [L2.V.ref a] ∧ (SqL K H a (ns.map L2.V.int) ∨ SqT K H a (ns.map L2.V.int)) ∧ Q (.int ns.sum) H
def rMaxs (K : PySem.W.Frag) : List L2.V → Hp → VK → Prop := fun vs H Q => ∃ (a : Addr) (ns : List Int), vs = [L2.V.ref a] ∧ (SqL K H a (ns.map L2.V.int) ∨ SqT K H a (ns.map L2.V.int)) ∧ 0 < ns.length ∧ ∀ m, m ∈ ns → (∀ y, y ∈ ns → y ≤ m) → Q (.int m) H
def rMins (K : PySem.W.Frag) : List L2.V → Hp → VK → Prop := fun vs H Q => ∃ (a : Addr) (ns : List Int), vs = [L2.V.ref a] ∧ (SqL K H a (ns.map L2.V.int) ∨ SqT K H a (ns.map L2.V.int)) ∧ 0 < ns.length ∧ ∀ m, m ∈ ns → (∀ y, y ∈ ns → m ≤ y) → Q (.int m) H
theorem cr_sums {X : Cx} (hc : X.calm = true) : CallR X (.builtin "sum") (rSums X.K) := by
  intro pins s σ H vs us Q I r h
  obtain ⟨a, ns, rfl, hs, q⟩ := h
  rcases hs with hs | hs
  · exact cr_sum hc pins s σ H _ us Q I r ⟨a, ns, rfl, hs, q⟩
  · obtain ⟨its, rv, hl, _⟩ := I.tuple hs
    rw [Vals.ref1 r]
    exact sum_rawT (I.ok.hd hc) hl rv.ints fun h' tk t' hk => ⟨.int _, H, I.kept hk, ⟨_, rfl⟩, q⟩
theorem cr_maxs {X : Cx} (hc : X.calm = true) : CallR X (.builtin "max") (rMaxs X.K) := by
  intro pins s σ H vs us Q I r h
  obtain ⟨a, ns, rfl, hs, hne, q⟩ := h
  rcases hs with hs | hs
  · exact cr_max hc pins s σ H _ us Q I r ⟨a, ns, rfl, hs, hne, q⟩
  · obtain ⟨its, rv, hl, _⟩ := I.tuple hs
    rw [Vals.ref1 r]
    exact max_rawT (I.ok.hd hc) hl rv.ints hne fun h' tk m t' hk h1 h2 => ⟨.int _, H, I.kept hk, ⟨_, rfl⟩, q m h1 h2⟩
theorem cr_mins {X : Cx} (hc : X.calm = true) : CallR X (.builtin "min") (rMins X.K) := by
  intro pins s σ H vs us Q I r h
  obtain ⟨a, ns, rfl, hs, hne, q⟩ := h
  rcases hs with hs | hs
  · exact cr_min hc pins s σ H _ us Q I r ⟨a, ns, rfl, hs, hne, q⟩
  · obtain ⟨its, rv, hl, _⟩ := I.tuple hs
    rw [Vals.ref1 r]
    exact min_rawT (I.ok.hd hc) hl rv.ints hne fun h' tk m t' hk h1 h2 => ⟨.int _, H, I.kept hk, ⟨_, rfl⟩, q m h1 h2⟩
theorem seqLT {H : Hp} {a : Addr} {vs : List L2.V} {tp : Bool} (h : SqA K tp H a vs) : SqL K H a vs ∨ SqT K H a vs := by
  cases tp
  · exact .inl h
  · exact .inr h
def sSum : BS := fun ds m P => match ds with
  | [d] => seqR d m fun xs => ∃ ns : List Int, xs = ns.map .int ∧ P (.int ns.sum) m
  | _ => False
def sMaxL : BS := fun ds m P => match ds with
  | [d] => seqR d m fun xs => ∃ ns : List Int, xs = ns.map .int ∧ 0 < ns.length ∧ ∀ z, z ∈ ns → (∀ y, y ∈ ns → y ≤ z) → P (.int z) m
  | _ => False
def sMinL : BS := fun ds m P => match ds with
  | [d] => seqR d m fun xs => ∃ ns : List Int, xs = ns.map .int ∧ 0 < ns.length ∧ ∀ z, z ∈ ns → (∀ y, y ∈ ns → z ≤ y) → P (.int z) m
  | _ => False
def sAny : BS := fun ds m P => match ds with
  | [d] => lsR d m fun xs => ∃ bs : List Bool, xs = bs.map .bl ∧ P (.bl (bs.any id)) m
  | _ => False
def sAll : BS := fun ds m P => match ds with
  | [d] => lsR d m fun xs => ∃ bs : List Bool, xs = bs.map .bl ∧ P (.bl (bs.all id)) m
  | _ => False
theorem bok_sum : BokN K (rSums K) sSum := fun ds m P h vs H F s rs Q q => by
  unfold sSum at h
  split at h
  · obtain ⟨v, rfl, r⟩ := rps1 rs
    obtain ⟨a, tp, xs, ws, rfl, ⟨ns, rfl, h⟩, h1, h2⟩ := seqR_use h s r
    have e := h2.ints
    subst e
    exact ⟨a, ns, rfl, seqLT h1, q _ _ _ _ _ h (Go.refl s) (.int _)⟩
  · exact h.elim
theorem bok_maxL : BokN K (rMaxs K) sMaxL := fun ds m P h vs H F s rs Q q => by
  unfold sMaxL at h
  split at h
  · obtain ⟨v, rfl, r⟩ := rps1 rs
    obtain ⟨a, tp, xs, ws, rfl, ⟨ns, rfl, hn, h⟩, h1, h2⟩ := seqR_use h s r
    have e := h2.ints
    subst e
    exact ⟨a, ns, rfl, seqLT h1, hn, fun z hz hy => q _ _ _ _ _ (h z hz hy) (Go.refl s) (.int _)⟩
  · exact h.elim
theorem bok_minL : BokN K (rMins K) sMinL := fun ds m P h vs H F s rs Q q => by
  unfold sMinL at h
  split at h
  · obtain ⟨v, rfl, r⟩ := rps1 rs
    obtain ⟨a, tp, xs, ws, rfl, ⟨ns, rfl, hn, h⟩, h1, h2⟩ := seqR_use h s r
    have e := h2.ints
    subst e
    exact ⟨a, ns, rfl, seqLT h1, hn, fun z hz hy => q _ _ _ _ _ (h z hz hy) (Go.refl s) (.int _)⟩
  · exact h.elim
theorem bok_any : BokN K (rAny K) sAny := fun ds m P h vs H F s rs Q q => by
  unfold sAny at h
  split at h
  · obtain ⟨v, rfl, r⟩ := rps1 rs
    obtain ⟨a, xs, ws, rfl, ⟨ns, rfl, h⟩, h1, h2⟩ := lsR_use h s r
    have e := h2.bls
    subst e
    exact ⟨a, ns, rfl, h1, q _ _ _ _ _ h (Go.refl s) (.bl _)⟩
  · exact h.elim
theorem bok_all : BokN K (rAll K) sAll := fun ds m P h vs H F s rs Q q => by
  unfold sAll at h
  split at h
  · obtain ⟨v, rfl, r⟩ := rps1 rs
    obtain ⟨a, xs, ws, rfl, ⟨ns, rfl, h⟩, h1, h2⟩ := lsR_use h s r
    have e := h2.bls
    subst e
    exact ⟨a, ns, rfl, h1, q _ _ _ _ _ h (Go.refl s) (.bl _)⟩
  · exact h.elim
end
end Nu

namespace Nu
open PySem PySem.Spec L2
open PyProof.Rows hiding St
/-! ### tuple, list, dict of a value -/
section
variable {K : PySem.W.Frag}
def sToTup : BS := fun ds m P => match ds with
  | [.tup xs] => P (.tup xs) m
  | [d] => lsR d m fun xs => P (.tup xs) m
  | _ => False
theorem bok_toTup : BokN K (fun xs H Q => ∃ p ys, xs = [L2.V.ref p] ∧ ((SqL K H p ys ∧ ∀ l, H l = none → Q (.ref l) (upd H l (.tup ys))) ∨ (SqT K H p ys ∧ Q (.ref p) H))) sToTup := fun ds m P h vs H F s rs Q q => by
  unfold sToTup at h
  split at h
  · obtain ⟨v, rfl, r⟩ := rps1 rs
    cases r with
    | tup a b => exact ⟨_, _, rfl, .inr ⟨Same.seqT s.toH a, q _ _ _ _ _ h (Go.refl s) (.tup a b)⟩⟩
  · obtain ⟨v, rfl, r⟩ := rps1 rs
    obtain ⟨a, xs, ws, rfl, h, h1, h2⟩ := lsR_use h s r
    exact ⟨a, ws, rfl, .inl ⟨h1, newT_q h s h2 q⟩⟩
  · exact h.elim
def sToLst : BS := fun ds m P => match ds with
  | [.raw (.ref p)] => ∃ c, m p = some c ∧ match c with
    | .lst xs => NewL xs m P
    | .dct kvs => NewL (kvs.map fun kv => kD kv.1) m P
    | .lck _ _ kvs => NewL (kvs.map fun kv => kD kv.1) m P
    | _ => False
  | [d] => seqR d m fun xs => NewL xs m P
  | _ => False
def rToLst (K : PySem.W.Frag) : List L2.V → Hp → VK → Prop := fun xs H Q => (∃ p ys, xs = [L2.V.ref p] ∧ (SqL K H p ys ∨ SqT K H p ys) ∧ ∀ l, H l = none → Q (.ref l) (upd H l (.lst ys))) ∨ ∃ (a : Addr) (kvs : List (Key × L2.V)), xs = [L2.V.ref a] ∧ Rd H a (.dK kvs) ∧ ∀ p, H p = none → Q (.ref p) (upd H p (.lst (kvs.map fun kv => kV kv.1)))
theorem cr_toLst {X : Cx} (hc : X.calm = true) : CallR X (.type "list") (rToLst X.K) := call_list_of.or (call_listD hc)
theorem RKs.kds {F : Hp} {l : List (Key × L2.V)} {r : List (Key × D)} (h : RKs K F l r) : Rps K F (l.map fun kv => kV kv.1) (r.map fun kv => kD kv.1) := by
  induction h with
  | nil => exact .nil
  | @cons p q l r hp t ih =>
    rw [List.map_cons, List.map_cons, hp.1]
    exact .cons (rp_kD _) ih
theorem bok_toLst : BokN K (rToLst K) sToLst := fun ds m P h vs H F s rs Q q => by
  unfold sToLst at h
  split at h
  · obtain ⟨v, rfl, r⟩ := rps1 rs
    cases r
    obtain ⟨c, e, h⟩ := h
    cases c with
    | lst xs =>
      obtain ⟨ws, a, b⟩ := s.cells _ _ e
      exact .inl ⟨_, ws, rfl, .inl (.inl (.inl a)), newL_q h s b q⟩
    | dct kds =>
      obtain ⟨kvs, a, b⟩ := dct_at s e rfl
      exact .inr ⟨_, kvs, rfl, a, newL_q h s b.kds q⟩
    | lck lo lv kds =>
      obtain ⟨kvs, a, b⟩ := dct_at s e rfl
      exact .inr ⟨_, kvs, rfl, a, newL_q h s b.kds q⟩
    | _ => exact h.elim
  · obtain ⟨v, rfl, r⟩ := rps1 rs
    obtain ⟨a, tp, xs, ws, rfl, h, h1, h2⟩ := seqR_use h s r
    exact .inl ⟨a, ws, rfl, seqLT h1, newL_q h s h2 q⟩
  · exact h.elim
/-! dict(pairs), dict(d) -/
def pairK (kv : Key × D) : D := .tup [kD kv.1, kv.2]
theorem pairs_split {F H : Hp} (hs : Same F H) : ∀ {vs : List L2.V} (kds : List (Key × D)), Rps K F vs (kds.map pairK) → ∃ (ps : List Addr) (kvs : List (Key × L2.V)), vs = ps.map L2.V.ref ∧ Paired (fun p (kv : Key × L2.V) => SqT K H p [kV kv.1, kv.2]) ps kvs ∧ RKs K F kvs kds
  | _, [], h => by cases h; exact ⟨[], [], rfl, .nil, .nil⟩
  | _, kd :: kds, h => by
    cases h with
    | cons h1 h2 =>
      obtain ⟨ps, kvs, rfl, hp, hk⟩ := pairs_split hs kds h2
      cases h1 with
      | @tup a xs _ e1 e2 =>
        cases e2 with
        | cons a1 a2 =>
          cases a2 with
          | cons b1 b2 =>
            cases b2
            have ek := rp_key a1
            subst ek
            exact ⟨a :: ps, (kd.1, _) :: kvs, rfl, .cons (Same.seqT hs e1) hp, .cons ⟨rfl, b1⟩ hk⟩
def newD (kds : List (Key × D)) (m : MS) (P : NX) : Prop := ∀ p, m p = none → P (.raw (.ref p)) (mset m p (.dct kds))
def sToDct : BS := fun ds m P => match ds with
  | [.raw (.ref p)] => ∃ c, m p = some c ∧ match c with
    | .lst xs => ∃ kds : List (Key × D), xs = kds.map pairK ∧ newD (mergeD [] kds) m P
    | .dct kvs => newD kvs m P
    | .lck _ _ kvs => newD kvs m P
    | _ => False
  | [d] => lsR d m fun xs => ∃ kds : List (Key × D), xs = kds.map pairK ∧ newD (mergeD [] kds) m P
  | _ => False
def rToDct (K : PySem.W.Frag) : List L2.V → Hp → VK → Prop := fun xs H Q => (∃ (a : Addr) (ps : List Addr) (kvs : List (Key × L2.V)), xs = [L2.V.ref a] ∧ SqL K H a (ps.map L2.V.ref) ∧ Paired (fun p kv => SqT K H p [kV kv.1, kv.2]) ps kvs ∧ ∀ p, H p = none → Q (.ref p) (upd H p (.dK (mergeK [] kvs)))) ∨
  ∃ (a : Addr) (kvs : List (Key × L2.V)), xs = [L2.V.ref a] ∧ Rd H a (.dK kvs) ∧ ∀ p, H p = none → Q (.ref p) (upd H p (.dK kvs))
theorem cr_toDct {X : Cx} (hc : X.calm = true) : CallR X (.type "dict") (rToDct X.K) := (call_dictP hc).or call_dictD
theorem newD_q {m : MS} {H F : Hp} {P : NX} {Q : VK} {kds : List (Key × D)} {kvs : List (Key × L2.V)} (n : newD kds m P) (s : Std K m H F) (r : RKs K F kvs kds) (q : ∀ v H' F' d m', P d m' → Go K m H F m' H' F' → Rp K F' v d → Q v H') : ∀ p, H p = none → Q (.ref p) (upd H p (.dK kvs)) := fun p hp =>
  q _ _ _ _ _ (n p (s.free hp)) (Go.cell s hp ⟨kvs, upd_same, r⟩) (.raw _)
theorem bok_toDct : BokN K (rToDct K) sToDct := fun ds m P h vs H F s rs Q q => by
  unfold sToDct at h
  split at h
  · obtain ⟨v, rfl, r⟩ := rps1 rs
    cases r
    obtain ⟨c, e, h⟩ := h
    cases c with
    | lst xs =>
      obtain ⟨ws, a, b⟩ := s.cells _ _ e
      obtain ⟨kds, rfl, h⟩ := h
      obtain ⟨ps, kvs, rfl, hp, hk⟩ := pairs_split s.toH kds b
      exact .inl ⟨_, ps, kvs, rfl, .inl (.inl a), hp, newD_q h s (RKs.merge .nil hk) q⟩
    | dct kds =>
      obtain ⟨kvs, a, b⟩ := dct_at s e rfl
      exact .inr ⟨_, kvs, rfl, a, newD_q h s b q⟩
    | lck lo lv kds =>
      obtain ⟨kvs, a, b⟩ := dct_at s e rfl
      exact .inr ⟨_, kvs, rfl, a, newD_q h s b q⟩
    | _ => exact h.elim
  · obtain ⟨v, rfl, r⟩ := rps1 rs
    obtain ⟨a, xs, ws, rfl, ⟨kds, rfl, h⟩, h1, h2⟩ := lsR_use h s r
    obtain ⟨ps, kvs, rfl, hp, hk⟩ := pairs_split s.toH kds h2
    exact .inl ⟨_, ps, kvs, rfl, h1, hp, newD_q h s (RKs.merge .nil hk) q⟩
  · exact h.elim
end
/-! ### texts put in order, of any number -/
section
variable {X : Cx}
def rSortedSA (K : PySem.W.Frag) : List L2.V → Hp → VK → Prop := fun vs H Q => ∃ (a : Addr) (xs : List Str), vs = [L2.V.ref a] ∧ SqL K H a (xs.map L2.V.str) ∧
  ∀ (ys : List Str) (p : Addr), ys.Perm xs → sortedS ys = true → H p = none → Q (.ref p) (upd H p (.lst (ys.map L2.V.str)))
theorem cr_sortedSA : CallR X (.builtin "sorted") (rSortedSA X.K) := fun pins s σ H vs us Q I r h => by
  obtain ⟨l, xs, rfl, q1, q⟩ := h
  obtain ⟨its, rr, li, hz⟩ := I.list q1
  rw [Vals.ref1 r]
  have n1 : xs.length = its.length := by have := rr.length; rwa [List.length_map] at this
  have nz : its.length ≤ sizeLine := by rw [List.length_map, n1] at hz; exact hz
  refine PyProof.Rows.sorted_strsAny li.isList rr.strs nz fun o zs b1 b2 b3 => ?_
  obtain ⟨e1, e2⟩ := PyProof.Rows.sortedAll_at s.heap its o
  have small : (zs.map L2.V.str).length ≤ sizeLine := by rw [List.length_map, b2.length_eq, n1]; exact nz
  exact ⟨.ref _, upd H (s.heap.objs.size + 1) (.lst (zs.map L2.V.str)), I.laid (t' := s.toks) (fun _ _ => PyProof.Rows.sortedAll_old) (Nat.le_succ _) ⟨small, o.toList, e1, vals_of_strs b1, e2⟩, rfl, q zs _ b2 b3 (I.hok.fresh (Nat.le_succ _))⟩
theorem strs_keys : ∀ {us : List Value} {ks : List Str}, us.length = ks.length → (∀ (i : Nat) (u : Value), us[i]? = some u → ∃ y t, ks[i]? = some y ∧ u = .str y t) → PyProof.Rows.StrsAre us ks
  | [], [], _, _ => .nil
  | u :: us, y :: ks, n, g => by
    obtain ⟨y', t, e1, e2⟩ := g 0 u rfl
    cases e1
    subst e2
    refine .cons y t (strs_keys (by simpa using n) fun i v e => ?_)
    obtain ⟨y2, t2, a, b⟩ := g (i + 1) v (by simpa using e)
    exact ⟨y2, t2, by simpa using a, b⟩
  | [], _ :: _, n, _ => by simp at n
  | _ :: _, [], n, _ => by simp at n
def rSrtSA (K : PySem.W.Frag) : List L2.V → Hp → VK → Prop := fun xs H Q => ∃ (a : Addr) (kvs : List (Key × L2.V)) (ks : List Str), xs = [L2.V.ref a] ∧ Rd H a (.dK kvs) ∧ kvs.map (·.1) = ks.map Sum.inr ∧
    ∀ ys p, ys.Perm ks → sortedS ys = true → H p = none → Q (.ref p) (upd H p (.lst (ys.map L2.V.str)))
theorem call_srtSA (hcm : X.calm = true) : CallR X (.builtin "sorted") (rSrtSA X.K) := fun pins s σ H xs us Q I r q => by
  obtain ⟨d, kvs, ks, rfl, hd, hks, q⟩ := q
  obtain ⟨u, rfl, rx⟩ := vals1 r
  cases rx
  obtain ⟨z0, lo, vs, rel, dd⟩ := dk_rd I.hok hd
  obtain ⟨ep, hat⟩ := dd.dictAt
  have kk : vs.map (·.1) = ks.map Sum.inr := rel.keys.symm.trans hks
  have nn : vs.length = ks.length := by simpa using congrArg List.length kk
  have nz : vs.length ≤ sizeLine := by
    have := congrArg List.length rel.keys
    rw [List.length_map, List.length_map] at this
    omega
  refine Calls.call_function_entry PyProof.Rows.kind_sorted PyProof.Rows.plain_sorted PyProof.Rows.entry_sorted (PyProof.Rows.args_sorted1 _) ?_
  unfold Builtin.«sorted»
  refine wpAny_bind (m := checkCount "sorted" 1 1 _) (wpAny_pure ?_)
  refine wpAny_bind (PySem.W.kdu_collect (PySem.W.kdl_dict (kvs := vs) (ep := ep) lo) (I.ok.hd hcm) hat nz fun g tk acc keep items => ?_)
  have na : acc.toList.length = ks.length := by rw [Array.length_toList, items.1, nn]
  have sa : PyProof.Rows.StrsAre acc.toList ks := strs_keys na fun i v e => by
    rw [Array.getElem?_toList] at e
    obtain ⟨k, x, c1, c2⟩ := items.2 i v e
    have c3 : (ks.map (Sum.inr : Str → Key))[i]? = some k := by rw [← kk, List.getElem?_map, c1]; rfl
    rw [List.getElem?_map] at c3
    obtain ⟨y, c4, c5⟩ := Option.map_eq_some_iff.mp c3
    subst c5
    obtain ⟨t, c6⟩ := Value.isStrOf_shape (x := y) (v := v) c2
    exact ⟨y, t, c4, c6⟩
  have J : Inv X pins σ H { s with heap := g, toks := tk } := I.kept keep
  have nz2 : acc.toList.length ≤ sizeLine := by rw [na, ← nn]; exact nz
  refine wpAny_bind (wpAny_newList ?_ nz2)
  have at0 : (g.push (seqObj "list" acc.toList.toArray 0)).get? g.objs.size = some (seqObj "list" acc.toList.toArray 0) := Heap.get?_push_size _ rfl
  show wpAny _ _ _ _ _ { s with heap := g.push (seqObj "list" acc.toList.toArray 0), toks := tk }
  refine wpAny_bind (wpAny_holding (wpAny_call_entry PyProof.Rows.slot_list_sort ⟨_, at0, rfl⟩ PyProof.Rows.entry_list_sort (PyProof.Rows.list_sort_treeKAny strKind_oneLt (s := { s with heap := g.push (seqObj "list" acc.toList.toArray 0), toks := tk }) at0 sa.keysOf (fun v₁ v₂ rest e => keyKind_strs (by rw [← e]; exact sa)) nz2 fun st pm so => ⟨_, rfl, ?_⟩) (PyProof.Rows.args_list_sort _)))
  obtain ⟨ys, d1, d2, d3⟩ := sorted_out_str sa pm so
  obtain ⟨e2, at2⟩ := PyProof.Rows.sortedHeap_at (vs := acc.toList) (out := (arrOf st).map (·.2)) at0
  have ny : (ys.map L2.V.str).length ≤ sizeLine := by rw [List.length_map, d2.length_eq, ← nn]; exact nz
  have ob : ObjOk X.prog X.w (upd H g.objs.size (.lst (ys.map L2.V.str))) (sortedHeap (g.push (seqObj "list" acc.toList.toArray 0)) g.objs.size acc.toList ((arrOf st).map (·.2))) g.objs.size (.lst (ys.map L2.V.str)) := ⟨ny, ((arrOf st).map (·.2)).toList, e2, vals_of_strs d1, by rw [Array.toArray_toList]; exact at2⟩
  refine wpAny_pure ⟨_, rfl, .ref g.objs.size, upd H g.objs.size (.lst (ys.map L2.V.str)), J.laid (t' := tk) (fun b o e => ?_) (Nat.le_refl _) ob, rfl, q ys _ d2 d3 (J.hok.fresh (Nat.le_refl _))⟩
  have lt : b < g.objs.size := Heap.lt_size e
  rw [PyProof.Rows.sortedHeap_old (Nat.ne_of_lt lt) (by rw [size_push']; exact Nat.lt_succ_of_lt lt)]
  exact Heap.get?_push_of_some _ e
end
/-! ### sorted -/
section
theorem each_of_vals {R : Value → L2.V × PyData → Prop} : ∀ {bs : List (L2.V × PyData)} {its : List Value}, Vals (bs.map (·.1)) its → (∀ b ∈ bs, ∀ v, RelV b.1 v → R v b) → PySem.W.EachIs R its bs
  | [], _, h, _ => by cases h; exact .nil
  | b :: bs, _, h, k => by
    cases h with
    | cons h1 h2 => exact .cons (k b (by simp) _ h1) (each_of_vals h2 fun b hb => k b (by simp [hb]))
theorem vals_of_each : ∀ {bs : List (L2.V × PyData)} {its : List Value}, PySem.W.EachIs (fun v (b : L2.V × PyData) => RelV b.1 v) its bs → Vals (bs.map (·.1)) its
  | [], _, h => by cases h; exact .nil
  | b :: bs, _, h => by
    cases h with
    | cons h1 h2 => exact .cons h1 (vals_of_each h2)
def rSortedDt (K : PySem.W.Frag) : List L2.V → Hp → VK → Prop := fun vs H Q => ∃ (a : Addr) (bs : List (L2.V × PyData)), vs = [.ref a] ∧ SqL K H a (bs.map (·.1)) ∧ (∀ b ∈ bs, Dp K H b.1 b.2) ∧ PySem.W.AllAlike (bs.map (·.2)) ∧ PySem.W.Sortable (bs.map (·.2)) ∧ (∀ b ∈ bs, b.2.depth ≤ 40) ∧
  ∀ p, H p = none → Q (.ref p) (upd H p (.lst ((bs.mergeSort (PySem.W.dataLe false (·.2))).map (·.1))))
theorem cr_sortedDt {X : Cx} (hu : X.A.units + 64 < cLine) : CallR X (.builtin "sorted") (rSortedDt X.K) := by
  intro pins s σ H vs us Q I r h
  obtain ⟨a, bs, rfl, hs, hd, hal, hk, hdep, q⟩ := h
  obtain ⟨its, rv, hl, hz⟩ := I.list hs
  rw [Vals.ref1 r]
  have hlen : its.length = bs.length := by have := rv.length; rw [List.length_map] at this; exact this.symm
  rw [List.length_map] at hz
  refine PySem.W.sorted_data (R := fun v b => RelV b.1 v) (enc := (·.2)) hl.isList (each_of_vals rv fun b hb v h => h) (each_of_vals rv fun b hb v h => Dp.reads I _ _ _ (hd b hb) h) hal hk hz (fun b hb => ?_) fun out hlo eo => ?_
  · have := hdep b hb
    omega
  · obtain ⟨ep, he'⟩ := PyProof.Rows.sortedAll_at s.heap its out.toArray
    have hlen : ((bs.mergeSort (PySem.W.dataLe false (·.2))).map (·.1)).length ≤ sizeLine := by rw [List.length_map, List.length_mergeSort]; exact hz
    exact ⟨.ref _, upd H (s.heap.objs.size + 1) (.lst ((bs.mergeSort (PySem.W.dataLe false (·.2))).map (·.1))), I.laid (t' := s.toks) (fun _ _ => PyProof.Rows.sortedAll_old) (Nat.le_succ _) ⟨hlen, out, ep, vals_of_each eo, he'⟩, rfl, q _ (I.hok.fresh (Nat.le_succ _))⟩
variable {K : PySem.W.Frag}
def leD (d e : D) : Bool := PySem.W.dataLe false toPy d e
theorem Rps.permBy {F : Hp} : ∀ (L : List (L2.V × D)), (∀ p ∈ L, Rp K F p.1 p.2) → Rps K F (L.map (·.1)) (L.map (·.2))
  | [], _ => .nil
  | p :: L, h => .cons (h p (by simp)) (Rps.permBy L fun q hq => h q (by simp [hq]))
theorem Rps.zipMem {F : Hp} : ∀ {vs : List L2.V} (ds : List D), Rps K F vs ds → (∀ p ∈ vs.zip ds, Rp K F p.1 p.2) ∧ (vs.zip ds).map (·.1) = vs ∧ (vs.zip ds).map (·.2) = ds
  | _, [], h => by cases h; exact ⟨by simp, rfl, rfl⟩
  | _, d :: ds, h => by
    cases h with
    | @cons v vs _ _ h1 h2 =>
      obtain ⟨a, b, c⟩ := Rps.zipMem ds h2
      refine ⟨fun p hp => ?_, by rw [List.zip_cons_cons, List.map_cons, b], by rw [List.zip_cons_cons, List.map_cons, c]⟩
      rcases List.mem_cons.mp hp with rfl | hp
      · exact h1
      · exact a p hp
theorem plDs_mem : ∀ {n : Nat} {ds : List D}, plDs n ds = true → ∀ d ∈ ds, plD n d = true
  | _, [], _, _, h => by cases h
  | n, d :: ds, hp, e, he => by
    unfold plDs at hp
    obtain ⟨h1, h2⟩ := Bool.and_eq_true_iff.mp hp
    rcases List.mem_cons.mp he with rfl | he
    · exact h1
    · exact plDs_mem h2 e he
def rSrtID : List L2.V → Hp → VK → Prop := fun xs H Q => ∃ (a : Addr) (kvs : List (Key × L2.V)) (ks : List Int), xs = [L2.V.ref a] ∧ Rd H a (.dK kvs) ∧ kvs.map (·.1) = ks.map Sum.inl ∧ ks.length < 64 ∧
    ∀ (ys : List Int) (p : Addr), ys.Perm ks → ys.Pairwise (· ≤ ·) → H p = none → Q (.ref p) (upd H p (.lst (ys.map L2.V.int)))
def rSrt (K : PySem.W.Frag) : List L2.V → Hp → VK → Prop := fun xs H Q => rSortedI K xs H Q ∨ rSortedDt K xs H Q ∨ rSrtSA K xs H Q ∨ rSrtID xs H Q ∨ rSortedSA K xs H Q
theorem cr_srt {X : Cx} {k : Nat} (hr : Room k X.A) (hc : X.calm = true) : CallR X (.builtin "sorted") (rSrt X.K) := cr_sortedI.or ((cr_sortedDt hr.units).or ((call_srtSA hc).or ((call_sortedDI hc).or cr_sortedSA)))
/-- a list put in order -/
def srtL (xs : List D) (m : MS) (P : NX) : Prop := (∃ ns : List Int, xs = ns.map .int ∧ ∀ ks : List Int, ks.Perm ns → ks.Pairwise (· ≤ ·) → NewL (ks.map .int) m P) ∨ ((plDs 40 xs = true ∧ PySem.W.AllAlike (xs.map toPy) ∧ PySem.W.Sortable (xs.map toPy)) ∧ NewL (xs.mergeSort leD) m P) ∨
  ∃ ks : List Str, xs = ks.map .str ∧ ∀ ys : List Str, ys.Perm ks → sortedS ys = true → NewL (ys.map .str) m P
def srtK (kvs : List (Key × D)) (m : MS) (P : NX) : Prop := (∃ ks : List Str, kvs.map (·.1) = ks.map Sum.inr ∧ ∀ ys : List Str, ys.Perm ks → sortedS ys = true → NewL (ys.map .str) m P) ∨
  ∃ ks : List Int, kvs.map (·.1) = ks.map Sum.inl ∧ ks.length < 64 ∧ ∀ ys : List Int, ys.Perm ks → ys.Pairwise (· ≤ ·) → NewL (ys.map .int) m P
def sSorted : BS := fun ds m P => match ds with
  | [.raw (.ref p)] => ∃ c, m p = some c ∧ match c with
    | .lst xs => srtL xs m P
    | .dct kvs => srtK kvs m P
    | .lck _ _ kvs => srtK kvs m P
    | _ => False
  | [d] => lsR d m fun xs => srtL xs m P
  | _ => False
theorem srtL_q {m : MS} {H F : Hp} {P : NX} {Q : VK} {xs : List D} {vs : List L2.V} {a : Addr} (h : srtL xs m P) (s : Std K m H F) (h1 : SqL K H a vs) (h2 : Rps K F vs xs) (q : ∀ v H' F' d m', P d m' → Go K m H F m' H' F' → Rp K F' v d → Q v H') : rSrt K [.ref a] H Q := by
  rcases h with ⟨ns, rfl, h⟩ | ⟨⟨hp, hal, hk⟩, h⟩ | ⟨ks, rfl, h⟩
  · have e := h2.ints
    subst e
    exact .inl ⟨a, ns, rfl, h1, fun ks p h3 h4 h5 => newL_q (h ks h3 h4) s (.of_ints _) q p h5⟩
  · obtain ⟨z1, z2, z3⟩ := Rps.zipMem xs h2
    let g : L2.V × D → L2.V × PyData := fun p => (p.1, toPy p.2)
    have e0 : ((vs.zip xs).map g).map (·.2) = xs.map toPy := by
      rw [List.map_map]
      conv => rhs; rw [← z3, List.map_map]
      rfl
    refine .inr (.inl ⟨a, (vs.zip xs).map g, rfl, ?_, fun b hb => ?_, by rw [e0]; exact hal, by rw [e0]; exact hk, fun b hb => ?_, fun p hp0 => ?_⟩)
    · rw [List.map_map]; rw [← z2] at h1; exact h1
    · obtain ⟨p, hp1, rfl⟩ := List.mem_map.mp hb
      have hd : p.2 ∈ xs := by rw [← z3]; exact List.mem_map.mpr ⟨p, hp1, rfl⟩
      exact See.dp s 40 _ (See.refl 40 _ (plDs_mem hp _ hd)) (plDs_mem hp _ hd) (z1 p hp1)
    · obtain ⟨p, hp1, rfl⟩ := List.mem_map.mp hb
      have hd : p.2 ∈ xs := by rw [← z3]; exact List.mem_map.mpr ⟨p, hp1, rfl⟩
      exact (canLay_of 40 _ (plDs_mem hp _ hd)).2
    · have e1 : ((vs.zip xs).map g).mergeSort (PySem.W.dataLe false (·.2)) = ((vs.zip xs).mergeSort fun p q => leD p.2 q.2).map g := (List.map_mergeSort (r := fun p q : L2.V × D => leD p.2 q.2) (s := PySem.W.dataLe false (·.2)) (f := g) (fun a _ b _ => rfl)).symm
      have e2 : ((vs.zip xs).mergeSort fun p q => leD p.2 q.2).map (·.2) = xs.mergeSort leD := by
        rw [List.map_mergeSort (s := leD) (fun a _ b _ => rfl), z3]
      rw [e1, List.map_map, show ((fun (x : L2.V × PyData) => x.1) ∘ g) = (fun (p : L2.V × D) => p.1) from rfl]
      refine newL_q h s ?_ q p hp0
      rw [← e2]
      exact Rps.permBy _ fun p hp1 => z1 p ((List.mergeSort_perm _ _).mem_iff.mp hp1)
  · have e := h2.strs
    subst e
    exact .inr (.inr (.inr (.inr ⟨a, ks, rfl, h1, fun ys p h3 h4 h5 => newL_q (h ys h3 h4) s (.of_strs _) q p h5⟩)))
theorem srtK_q {m : MS} {H F : Hp} {P : NX} {Q : VK} {kds : List (Key × D)} {kvs : List (Key × L2.V)} {a : Addr} (h : srtK kds m P) (s : Std K m H F) (h1 : Rd H a (.dK kvs)) (h2 : RKs K F kvs kds) (q : ∀ v H' F' d m', P d m' → Go K m H F m' H' F' → Rp K F' v d → Q v H') : rSrt K [.ref a] H Q := by
  rcases h with ⟨ks, hk, h⟩ | ⟨ks, hk, hz, h⟩
  · exact .inr (.inr (.inl ⟨a, kvs, ks, rfl, h1, by rw [h2.keys]; exact hk, fun ys p a1 a2 a3 => newL_q (h ys a1 a2) s (.of_strs _) q p a3⟩))
  · exact .inr (.inr (.inr (.inl ⟨a, kvs, ks, rfl, h1, by rw [h2.keys]; exact hk, hz, fun ys p a1 a2 a3 => newL_q (h ys a1 a2) s (.of_ints _) q p a3⟩)))
theorem bok_sorted : BokN K (rSrt K) sSorted := fun ds m P h vs H F s rs Q q => by
  unfold sSorted at h
  split at h
  · obtain ⟨v, rfl, r⟩ := rps1 rs
    cases r
    obtain ⟨c, e, h⟩ := h
    cases c with
    | lst xs =>
      obtain ⟨ws, a, b⟩ := s.cells _ _ e
      exact srtL_q h s (.inl (.inl a)) b q
    | dct kds =>
      obtain ⟨kvs, a, b⟩ := dct_at s e rfl
      exact srtK_q h s a b q
    | lck lo lv kds =>
      obtain ⟨kvs, a, b⟩ := dct_at s e rfl
      exact srtK_q h s a b q
    | _ => exact h.elim
  · obtain ⟨v, rfl, r⟩ := rps1 rs
    obtain ⟨a, xs, ws, rfl, h, h1, h2⟩ := lsR_use h s r
    exact srtL_q h s h1 h2 q
  · exact h.elim
end
/-! ### isinstance of built-in types -/
inductive Ty where
  | int | str | bool | list | tuple
  deriving DecidableEq
def Ty.s : Ty → String
  | .int => "int" | .str => "str" | .bool => "bool" | .list => "list" | .tuple => "tuple"
def Ty.n : Ty → Str
  | .int => "int" | .str => "str" | .bool => "bool" | .list => "list" | .tuple => "tuple"
inductive Kd where
  | non | bl | int | str | lst | tup | dct
def Kd.s : Kd → String
  | .non => "NoneType" | .bl => "bool" | .int => "int" | .str => "str" | .lst => "list" | .tup => "tuple" | .dct => "dict"
def Kd.is : Kd → Ty → Bool
  | .bl, .bool => true | .bl, .int => true | .int, .int => true | .str, .str => true | .lst, .list => true | .tup, .tuple => true
  | _, _ => false
theorem kd_kit (k : Kd) (t : Ty) : kitB k.s t.s = some (k.is t) := by
  cases k <;> cases t <;> decide +kernel
def kdR (d : D) (m : MS) (R : Kd → Prop) : Prop := match d with
  | .non => R .non
  | .bl _ => R .bl
  | .int _ => R .int
  | .str _ => R .str
  | .lst _ => R .lst
  | .tup _ => R .tup
  | .ptp _ => R .tup
  | .raw (.ref p) => ∃ c, m p = some c ∧ match c with
    | .lst _ => R .lst
    | .dct _ => R .dct
    | .lck _ _ _ => R .dct
    | _ => False
  | _ => False
theorem kdR_use {K : PySem.W.Frag} {m : MS} {H F : Hp} {d : D} {v : L2.V} {R : Kd → Prop} (h : kdR d m R) (s : Std K m H F) (r : Rp K F v d) : ∃ k, R k ∧ TyX K H v (.type k.s) := by
  cases d with
  | non => cases r; exact ⟨_, h, .base .non⟩
  | bl b => cases r; exact ⟨_, h, .base (.bl b)⟩
  | int i => cases r; exact ⟨_, h, .base (.int i)⟩
  | str i => cases r; exact ⟨_, h, .base (.str i)⟩
  | lst xs =>
    cases r with
    | lst a b => exact ⟨_, h, .base (.lst (s.at a))⟩
  | tup xs =>
    cases r with
    | tup h1 _ =>
      rcases h1 with (h1 | ⟨o, h1⟩) | ⟨o, its, n, h1, h3, _⟩
      · exact ⟨_, h, .base (.tup (s.at h1))⟩
      · exact ⟨_, h, .fTuple (s.at h1)⟩
      · exact ⟨_, h, .kTuple h1 h3⟩
  | ptp xs =>
    cases r with
    | ptp h1 _ _ => exact ⟨_, h, .fTuple (s.at h1)⟩
  | raw w =>
    cases w with
    | ref p =>
      cases r
      obtain ⟨c, e, h⟩ := h
      cases c with
      | lst xs =>
        obtain ⟨ws, a, b⟩ := s.cells _ _ e
        exact ⟨_, h, .base (.lst a)⟩
      | dct kds =>
        obtain ⟨ws, a, b⟩ := s.cells _ _ e
        exact ⟨_, h, .base (.dK a)⟩
      | lck lo lv kds =>
        obtain ⟨a, b⟩ := s.cells _ _ e
        exact ⟨_, h, .fDict a⟩
      | _ => exact h.elim
    | _ => exact h.elim
  | _ => exact h.elim
def sIsi (t : Ty) : BS := fun ds m P => match ds with
  | [d] => kdR d m fun k => P (.bl (k.is t)) m
  | _ => False
def sIsi2 (t1 t2 : Ty) : BS := fun ds m P => match ds with
  | [d] => kdR d m fun k => P (.bl (k.is t1 || k.is t2)) m
  | _ => False
section
variable {X : Cx} {a : Expr} {ta : T} {pos p p2 p3 tpos : Pos} {k2 : Nat}
theorem pe_tyN {x : Str} {T : String} (hm : X.mg x = none) (hv : bootBuiltins x = some (.type T) := by decide +kernel) (hg : Gl X x := by rfl) (hn : x ≠ "__name__" := by decide) (hd : (x == ("__debug__" : Str)) = false := by decide) : PE X (.Name x pos) (tC (.ty T)) := pe_bltn hg hm hv rfl hn hd
theorem ty_boot (t : Ty) : bootBuiltins t.n = some (.type t.s) := by cases t <;> decide +kernel
theorem ty_name (t : Ty) : t.n ≠ "__name__" := by cases t <;> decide
theorem ty_dbg (t : Ty) : (t.n == ("__debug__" : Str)) = false := by cases t <;> decide
theorem se_isi (t : Ty) {x : Str} (hm : X.mg "isinstance" = none) (hm2 : X.mg x = none) (ha : SE X a ta) (hx : x = t.n := by rfl) (hg : Gl X "isinstance" := by rfl) (hg2 : Gl X x := by rfl)
    (he : starEach [a, .Name x p2] X.env = (false, eval a X.env) :: starEach [.Name x p2] X.env := by rfl) (he2 : starEach [.Name x p2] X.env = (false, eval (.Name x p2) X.env) :: starEach [] X.env := by rfl) (hpl : (backTo pos (starEach [.Name x p2] X.env)).any (·.1) = false := by rfl) :
    SE X (.Call (.Name "isinstance" p) [a, .Name x p2] [] pos) (.bop (sIsi t) (.cons ta .nil)) := ⟨fun ρ m P Z pp => ⟨fun F0 σ H F S Q V tk q kx => by
  have h1 : PE X (.Name x p2) (tC (.ty t.s)) := pe_tyN hm2 (by rw [hx]; exact ty_boot t) hg2 (by rw [hx]; exact ty_name t) (by rw [hx]; exact ty_dbg t)
  refine wE_of (pe_callB call_isi hg hm (by decide +kernel) (pa_cons pe_w (pa_cons h1 pa_nil he2) he) (by decide) (by decide) he hpl) ?_
  refine (ha.go ρ m _ Z pp).run F0 σ H F S _ V tk (fun v H1 F1 d m1 p1 g1 r1 => ?_) kx
  obtain ⟨k, p2, ty⟩ := kdR_use (R := fun k => P (.bl (k.is t)) m1) p1 g1.std r1
  exact ⟨v, .ty t.s, _, _, _, rfl, .ty t.s, ty, kit_ty (kd_kit k t), q _ _ _ _ _ p2 g1 (.bl _)⟩⟩⟩
theorem se_isi2 (t1 t2 : Ty) {x y : Str} (hm : X.mg "isinstance" = none) (hm1 : X.mg x = none) (hm2 : X.mg y = none) (ha : SE X a ta) (hx : x = t1.n := by rfl) (hy : y = t2.n := by rfl) (hg : Gl X "isinstance" := by rfl) (hg1 : Gl X x := by rfl) (hg2 : Gl X y := by rfl)
    (he : starEach [a, .Tuple [.Name x p2, .Name y p3] k2 tpos] X.env = (false, eval a X.env) :: starEach [.Tuple [.Name x p2, .Name y p3] k2 tpos] X.env := by rfl) (he2 : starEach [.Tuple [.Name x p2, .Name y p3] k2 tpos] X.env = (false, eval (.Tuple [.Name x p2, .Name y p3] k2 tpos) X.env) :: starEach [] X.env := by rfl) (hpl : (backTo pos (starEach [.Tuple [.Name x p2, .Name y p3] k2 tpos] X.env)).any (·.1) = false := by rfl)
    (he3 : starEach [.Name x p2, .Name y p3] X.env = (false, eval (.Name x p2) X.env) :: starEach [.Name y p3] X.env := by rfl) (he4 : starEach [.Name y p3] X.env = (false, eval (.Name y p3) X.env) :: starEach [] X.env := by rfl) :
    SE X (.Call (.Name "isinstance" p) [a, .Tuple [.Name x p2, .Name y p3] k2 tpos] [] pos) (.bop (sIsi2 t1 t2) (.cons ta .nil)) := ⟨fun ρ m P Z pp => ⟨fun F0 σ H F S Q V tk q kx => by
  have h1 : PE X (.Name x p2) (tC (.ty t1.s)) := pe_tyN hm1 (by rw [hx]; exact ty_boot t1) hg1 (by rw [hx]; exact ty_name t1) (by rw [hx]; exact ty_dbg t1)
  have h2 : PE X (.Name y p3) (tC (.ty t2.s)) := pe_tyN hm2 (by rw [hy]; exact ty_boot t2) hg2 (by rw [hy]; exact ty_name t2) (by rw [hy]; exact ty_dbg t2)
  refine wE_of (pe_callB call_isiT hg hm (by decide +kernel) (pa_cons pe_w (pa_cons (pe_tup (pa_cons h1 (pa_cons h2 pa_nil he4) he3)) pa_nil he2) he) (by decide) (by decide) he hpl) ?_
  refine (ha.go ρ m _ Z pp).run F0 σ H F S _ V tk (fun v H1 F1 d m1 p1 g1 r1 => ?_) kx
  refine ⟨by show 2 ≤ sizeLine; decide, fun tp hp => ?_⟩
  have g2 : Go X.K m1 H1 F1 m1 (upd H1 tp (.tup [.ty t1.s, .ty t2.s])) F1 := Go.junk (o := .tup [.ty t1.s, .ty t2.s]) g1.std hp
  obtain ⟨k, p2, ty⟩ := kdR_use (R := fun k => P (.bl (k.is t1 || k.is t2)) m1) p1 g2.std r1
  refine ⟨v, tp, [.ty t1.s, .ty t2.s], _, [.type t1.s, .type t2.s], k.is t1 || k.is t2, rfl, upd_same, .cons (.ty t1.s) (.cons (.ty t2.s) .nil), ty, ?_, q _ _ _ _ _ p2 (g1.trans g2) (.bl _)⟩
  refine kitAny_cons (kit_ty (kd_kit k t1)) (fun e => ?_) (fun e => by rw [e]; rfl)
  refine kitAny_cons (kit_ty (kd_kit k t2)) (fun e' => ?_) (fun e' => by rw [e']; cases k.is t1 <;> rfl)
  rw [e, e']
  rfl⟩⟩
end
/-! ### methods of texts -/
section
variable {K : PySem.W.Frag}
def sJoin : BS := fun ds m P => match ds with
  | [.str z, d] => seqR d m fun xs => ∃ ys : List Str, xs = ys.map .str ∧ (ys.map (·.length)).sum + ys.length * z.length ≤ 16777216 ∧ P (.str (Txt.join z ys)) m
  | _ => False
def rJoin (K : PySem.W.Frag) : L2.V → List L2.V → Hp → VK → Prop := fun x xs H Q => ∃ a p, ∃ ys : List Str, x = .str a ∧ xs = [.ref p] ∧ (SqL K H p (ys.map L2.V.str) ∨ SqT K H p (ys.map L2.V.str)) ∧ (ys.map (·.length)).sum + ys.length * a.length ≤ 16777216 ∧ Q (.str (Txt.join a ys)) H
theorem bm_join : BokM K (rJoin K) sJoin := fun d ds m P h x vs H F s r1 rs Q q => by
  unfold sJoin at h
  split at h
  · rename_i e; cases e
    cases r1
    obtain ⟨v, rfl, r2⟩ := rps1 rs
    obtain ⟨a, tp, xs, ws, rfl, ⟨ys, rfl, hz, h⟩, h1, h2⟩ := seqR_use h s r2
    have e := h2.strs
    subst e
    exact ⟨_, a, ys, rfl, rfl, seqLT h1, hz, q _ _ _ _ _ h (Go.refl s) (.str _)⟩
  · exact h.elim
def sSplit : BS := fun ds m P => match ds with
  | [.str a, .str b] => ((b.length == 0) = false ∧ a.length + 2 ≤ sizeLine) ∧ NewL ((Txt.split a b).map .str) m P
  | _ => False
theorem bm_split : BokM K (fun x xs H Q => ∃ a b, x = .str a ∧ xs = [.str b] ∧ (b.length == 0) = false ∧ a.length + 2 ≤ sizeLine ∧ rNewStrs (Txt.split a b) H Q) sSplit := fun d ds m P h x vs H F s r1 rs Q q => by
  unfold sSplit at h
  split at h
  · rename_i e; cases e
    cases r1
    obtain ⟨v, rfl, r2⟩ := rps1 rs
    cases r2
    exact ⟨_, _, rfl, rfl, h.1.1, h.1.2, newL_q h.2 s (.of_strs _) q⟩
  · exact h.elim
def sStrip : BS := fun ds m P => match ds with
  | [.str a] => a.length ≤ sizeLine ∧ P (.str (Txt.strip a)) m
  | _ => False
theorem bm_strip : BokM K (fun x xs H Q => ∃ a, x = .str a ∧ xs = [] ∧ a.length ≤ sizeLine ∧ Q (.str (Txt.strip a)) H) sStrip := fun d ds m P h x vs H F s r1 rs Q q => by
  unfold sStrip at h
  split at h
  · rename_i e; cases e
    cases r1; cases rs
    exact ⟨_, rfl, rfl, h.1, q _ _ _ _ _ h.2 (Go.refl s) (.str _)⟩
  · exact h.elim
def sUpper : BS := fun ds m P => match ds with
  | [.str a] => a.length ≤ 5592405 ∧ P (.str (Txt.upper a)) m
  | _ => False
theorem bm_upper : BokM K (fun x xs H Q => ∃ a, x = .str a ∧ xs = [] ∧ a.length ≤ 5592405 ∧ Q (.str (Txt.upper a)) H) sUpper := fun d ds m P h x vs H F s r1 rs Q q => by
  unfold sUpper at h
  split at h
  · rename_i e; cases e
    cases r1; cases rs
    exact ⟨_, rfl, rfl, h.1, q _ _ _ _ _ h.2 (Go.refl s) (.str _)⟩
  · exact h.elim
def sStarts : BS := fun ds m P => match ds with
  | [.str a, .str b] => P (.bl (Txt.startswith a b)) m
  | _ => False
theorem bm_starts : BokM K (fun x xs H Q => ∃ a b, x = .str a ∧ xs = [.str b] ∧ Q (.bl (Txt.startswith a b)) H) sStarts := fun d ds m P h x vs H F s r1 rs Q q => by
  unfold sStarts at h
  split at h
  · rename_i e; cases e
    cases r1
    obtain ⟨v, rfl, r2⟩ := rps1 rs
    cases r2
    exact ⟨_, _, rfl, rfl, q _ _ _ _ _ h (Go.refl s) (.bl _)⟩
  · exact h.elim
end
section
variable {X : Cx}
theorem k_join : KOk X "join" (kS sJoin) := kokS ⟨PySem.F.plainAttrs_str, PySem.F.slot_str_join, PySem.F.type_str_join, mt_join⟩ bm_join
theorem k_split : KOk X "split" (kS sSplit) := kokS ⟨PySem.F.plainAttrs_str, PySem.F.slot_str_split, PySem.F.type_str_split, mt_split⟩ bm_split
theorem k_strip : KOk X "strip" (kS sStrip) := kokS ⟨PySem.F.plainAttrs_str, PySem.F.slot_str_strip, PySem.F.type_str_strip, mt_strip⟩ bm_strip
theorem k_upper : KOk X "upper" (kS sUpper) := kokS ⟨PySem.F.plainAttrs_str, PySem.F.slot_str_upper, PySem.F.type_str_upper, mt_upper⟩ bm_upper
theorem k_starts : KOk X "startswith" (kS sStarts) := kokS ⟨PySem.F.plainAttrs_str, PySem.F.slot_str_startswith, PySem.F.type_str_startswith, mt_startswith⟩ bm_starts
end
end Nu

namespace Nu
open PySem PySem.Spec L2
open PyProof.Rows hiding St
/-! ### a dict locked while it is walked -/
theorem Go.lockIn {K : PySem.W.Frag} {m : MS} {H F : Hp} {p : Addr} {kds : List (Key × D)} {kvs : List (Key × L2.V)} {o : Obj} (s : Std K m H F) (h : m p = some (.dct kds)) (rk : RKs K F kvs kds) : Go K m H F (mset m p (.lck o kvs kds)) (upd H p (.frz o (.dK kvs))) F :=
  Go.put s h ⟨upd_same, rk⟩
theorem Go.lockOut {K : PySem.W.Frag} {m m2 : MS} {H F H2 F2 : Hp} {p : Addr} {kds : List (Key × D)} {kvs : List (Key × L2.V)} {o : Obj} (h : m p = some (.dct kds)) (g : Go K (mset m p (.lck o kvs kds)) (upd H p (.frz o (.dK kvs))) F m2 H2 F2) (h2 : m2 p = some (.lck o kvs kds)) :
    H2 p = some (.frz o (.dK kvs)) ∧ Go K m H F (mset m2 p (.dct kds)) (upd H2 p (.dK kvs)) F2 := by
  obtain ⟨e, rk⟩ := g.std.cells p _ h2
  have hF := g.std.offF h2
  refine ⟨e, ⟨fun a u q => ?_, g.grow, fun a ha => ?_, fun a ha => ?_, ⟨fun a u q => ?_, fun q c hq => ?_⟩⟩⟩
  · obtain ⟨e1, e2⟩ := of_fz q
    have ne : a ≠ p := by rintro rfl; rw [h] at e1; cases e1
    obtain ⟨e3, e4⟩ := of_fz (g.same a u (fz_of (by rw [mset_ne ne]; exact e1) (by rw [upd_ne ne]; exact e2)))
    exact fz_of (by rw [mset_ne ne]; exact e3) (by rw [upd_ne ne]; exact e4)
  · by_cases ne : a = p
    · subst ne; exact .inr (.inr (by rw [h]; exact fun z => nomatch z))
    · rcases g.fresh a ha with q | q | q
      · exact .inl q
      · rw [upd_ne ne] at q; exact .inr (.inl q)
      · rw [mset_ne ne] at q; exact .inr (.inr q)
  · by_cases ne : a = p
    · subst ne; rw [upd_same]; exact fun z => nomatch z
    · rw [upd_ne ne]
      exact g.kept a (by rw [upd_ne ne]; exact ha)
  · have ne : a ≠ p := by rintro rfl; rw [hF] at q; cases q
    obtain ⟨e1, e2⟩ := of_fz (g.std.sub a u q)
    exact fz_of (by rw [mset_ne ne]; exact e1) (by rw [upd_ne ne]; exact e2)
  · by_cases ne : q = p
    · subst ne; rw [mset_same] at hq; cases hq; exact ⟨kvs, upd_same, rk⟩
    · rw [mset_ne ne] at hq
      exact (g.std.cells q c hq).upd_ ne
section
variable {X : Cx} {e : Expr} {t : T} {stm : Stmt} {u : S1} {apos cpos : Pos} {tg : Expr}
theorem se_lock (h : SE X e t) : SE X e (.lock t) := ⟨fun ρ m P Z p => ⟨fun F0 σ H F S Q V tk q kx => by
  rcases p with ⟨pa, kds, hp, p⟩ | p
  · obtain ⟨kvs, e1, rk⟩ := S.std.cells pa _ hp
    refine wE_of (pe_lock pe_w) ⟨pa, .dK kvs, e1, True.intro, fun od => ?_⟩
    have g0 := Go.lockIn (o := od) S.std hp rk
    refine (h.go ρ _ _ EX0 (p od kvs)).run F0 σ _ F (S.go g0) _ V tk (fun v H1 F1 d m1 p1 g1 r1 => ?_) exk0
    obtain ⟨h2, p1⟩ := p1
    obtain ⟨a1, g2⟩ := Go.lockOut hp g1 h2
    exact ⟨a1, q v _ F1 d _ p1 g2 r1⟩
  · exact (h.go ρ m P Z p).run F0 σ H F S Q V tk q kx⟩⟩
theorem s_lock (h : SS1 X stm u) : SS1 X stm (.lock u) := ⟨fun ρ m A p => ⟨fun F0 σ H F S E V tk k => by
  rcases p with ⟨pa, kds, hp, p⟩ | p
  · obtain ⟨kvs, e1, rk⟩ := S.std.cells pa _ hp
    refine wS_of (ps_lock ps_w) ⟨pa, .dK kvs, e1, True.intro, fun od => ?_⟩
    have g0 := Go.lockIn (o := od) S.std hp rk
    refine (h.go ρ _ _ (p od kvs)).run F0 σ _ F (S.go g0) _ V tk ⟨?_, ?_, ?_, ?_, exk0⟩
    · rintro σ' H' F' ρ' m' ⟨h2, p1⟩ g1 S'
      obtain ⟨a1, g2⟩ := Go.lockOut hp g1 h2
      exact ⟨a1, k.nx _ _ _ _ _ p1 g2 ⟨g2.std, S'.env, S'.old⟩⟩
    · rintro v H' F' d m' ⟨h2, p1⟩ g1 r
      obtain ⟨a1, g2⟩ := Go.lockOut hp g1 h2
      exact ⟨a1, k.rt _ _ _ _ _ p1 g2 r⟩
    · rintro σ' H' F' ρ' m' ⟨h2, p1⟩ g1 S'
      obtain ⟨a1, g2⟩ := Go.lockOut hp g1 h2
      exact ⟨a1, k.bk _ _ _ _ _ p1 g2 ⟨g2.std, S'.env, S'.old⟩⟩
    · rintro σ' H' F' ρ' m' ⟨h2, p1⟩ g1 S'
      obtain ⟨a1, g2⟩ := Go.lockOut hp g1 h2
      exact ⟨a1, k.ct _ _ _ _ _ p1 g2 ⟨g2.std, S'.env, S'.old⟩⟩
  · exact (h.go ρ m A p).run F0 σ H F S E V tk k⟩⟩
/-! what a locked dict gives -/
def isDct (how : DW) : IS := fun ds m R => match ds with
  | [.raw (.ref p)] => ∃ o vs kds, m p = some (.lck o vs kds) ∧ R (how.its kds) (fun m' => m' p = some (.lck o vs kds)) m
  | _ => False
theorem isDct_of {how : DW} {d : D} {m : MS} {R : List D → (MS → Prop) → MS → Prop} (h : isDct how [d] m R) : ∃ p o vs kds, d = .raw (.ref p) ∧ m p = some (.lck o vs kds) ∧ R (how.its kds) (fun m' => m' p = some (.lck o vs kds)) m := by
  cases d with
  | raw w =>
    cases w with
    | ref p =>
      obtain ⟨o, vs, kds, e, h⟩ := h
      exact ⟨p, o, vs, kds, rfl, e, h⟩
    | _ => exact h.elim
  | _ => exact h.elim
theorem rks_get {K : PySem.W.Frag} {F : Hp} {l : List (Key × L2.V)} {r : List (Key × D)} (h : RKs K F l r) : ∀ {i : Nat} {k : Key} {v : L2.V}, l[i]? = some (k, v) → ∃ d, r[i]? = some (k, d) ∧ Rp K F v d := by
  induction h with
  | nil => intro i k v e; simp at e
  | @cons p q l r hp t ih =>
    intro i k v e
    cases i with
    | zero =>
      have e' : p = (k, v) := by simpa using e
      subst e'
      exact ⟨q.2, by rw [List.getElem?_cons_zero]; congr 1; exact Prod.ext hp.1.symm rfl, hp.2⟩
    | succ i =>
      obtain ⟨d, a, b⟩ := ih (i := i) (by simpa using e)
      exact ⟨d, by simpa using a, b⟩
theorem its_len (how : DW) (kds : List (Key × D)) : (how.its kds).length = kds.length := by cases how <;> simp [DW.its]
theorem its_get {how : DW} {kds : List (Key × D)} {i : Nat} {k : Key} {d x : D} (h : kds[i]? = some (k, d)) (e : (how.its kds)[i]? = some x) : x = match how with | .keys => kD k | .vals => d | .items => .tup [kD k, d] := by
  cases how <;> (unfold DW.its at e; rw [List.getElem?_map, h] at e; exact (Option.some.inj e).symm)
theorem walk_dk {K : PySem.W.Frag} {F1 : Hp} {p : Addr} {o : Obj} {vs : List (Key × L2.V)} {kds : List (Key × D)} (hl : vs.length = kds.length) : WalkD K F1 (Itk p o vs) (DW.its .keys kds) fun m' => m' p = some (.lck o vs kds) := by
  refine ⟨fun i H F m hi s sd g => ?_, fun H F m s sd g => ?_, fun i H F m x H' d hd s sd g y => ?_⟩
  · rw [its_len] at hi; exact ⟨(sd.cells _ _ g).1, by rw [hl]; exact hi⟩
  · rw [its_len]; exact ⟨(sd.cells _ _ g).1, Nat.le_of_eq hl⟩
  · obtain ⟨rfl, k, v, e, rfl⟩ := y
    obtain ⟨d', e1, r⟩ := rks_get (sd.cells _ _ g).2 e
    rw [its_get e1 hd]
    exact ⟨F, Go.refl sd, rp_kD k⟩
theorem walk_dv {K : PySem.W.Frag} {F1 : Hp} {p : Addr} {o : Obj} {vs : List (Key × L2.V)} {kds : List (Key × D)} (hl : vs.length = kds.length) : WalkD K F1 (Itd p o vs) (DW.its .vals kds) fun m' => m' p = some (.lck o vs kds) := by
  refine ⟨fun i H F m hi s sd g => ?_, fun H F m s sd g => ?_, fun i H F m x H' d hd s sd g y => ?_⟩
  · rw [its_len] at hi; exact ⟨(sd.cells _ _ g).1, by rw [hl]; exact hi⟩
  · rw [its_len]; exact ⟨(sd.cells _ _ g).1, Nat.le_of_eq hl⟩
  · obtain ⟨rfl, k, e⟩ := y
    obtain ⟨d', e1, r⟩ := rks_get (sd.cells _ _ g).2 e
    rw [its_get e1 hd]
    exact ⟨F, Go.refl sd, r⟩
theorem walk_di {K : PySem.W.Frag} {F1 : Hp} {p : Addr} {o : Obj} {vs : List (Key × L2.V)} {kds : List (Key × D)} (hl : vs.length = kds.length) : WalkD K F1 (Iti p o vs) (DW.its .items kds) fun m' => m' p = some (.lck o vs kds) := by
  refine ⟨fun i H F m hi s sd g => ?_, fun H F m s sd g => ?_, fun i H F m x H' d hd s sd g y => ?_⟩
  · rw [its_len] at hi; exact ⟨(sd.cells _ _ g).1, by rw [hl]; exact hi⟩
  · rw [its_len]; exact ⟨(sd.cells _ _ g).1, Nat.le_of_eq hl⟩
  · obtain ⟨T, k, v, e, rfl, hT, rfl⟩ := y
    obtain ⟨d', e1, r⟩ := rks_get (sd.cells _ _ g).2 e
    rw [its_get e1 hd]
    exact ⟨_, Go.new sd hT, .tup (.inl (.inl upd_same)) ((Rps.cons (rp_kD k) (.cons r .nil)).up (Go.new sd hT).grow _)⟩
theorem si_vals (he : SE X e t) (hbase : attributeBase e "values" X.env (eval e X.env) = eval e X.env := by rfl) (hline : (apos.endLine == cpos.line) = true := by rfl) : SI X tg (.Call (.Attribute e "values" apos) [] [] cpos) (isDct .vals) (.cons t .nil) := ⟨fun ρ m P Z p => ⟨fun F0 σ H F S R V tk q kx => by
  refine wI_of (pi_values pe_w hbase hline) ?_
  refine (he.go ρ m _ Z p).run F0 σ H F S _ V tk (fun v H1 F1 d m1 p1 g1 r1 => ?_) kx
  obtain ⟨pa, o, vs, kds, rfl, hp, p2⟩ := isDct_of p1
  cases r1
  obtain ⟨e1, rk⟩ := g1.std.cells pa _ hp
  exact ⟨pa, o, vs, rfl, e1, q _ H1 F1 _ _ m1 p2 g1 (walk_dv rk.len)⟩⟩⟩
theorem si_items {elts : List Expr} {kk : Nat} {tpos : Pos} (he : SE X e t) (hbase : attributeBase e "items" X.env (eval e X.env) = eval e X.env := by rfl) (hline : (apos.endLine == cpos.line) = true := by rfl) : SI X (.Tuple elts kk tpos) (.Call (.Attribute e "items" apos) [] [] cpos) (isDct .items) (.cons t .nil) := ⟨fun ρ m P Z p => ⟨fun F0 σ H F S R V tk q kx => by
  refine wI_of (pi_items pe_w hbase hline) ?_
  refine (he.go ρ m _ Z p).run F0 σ H F S _ V tk (fun v H1 F1 d m1 p1 g1 r1 => ?_) kx
  obtain ⟨pa, o, vs, kds, rfl, hp, p2⟩ := isDct_of p1
  cases r1
  obtain ⟨e1, rk⟩ := g1.std.cells pa _ hp
  exact ⟨pa, o, vs, rfl, e1, q _ H1 F1 _ _ m1 p2 g1 (walk_di rk.len)⟩⟩⟩
end
end Nu

namespace Nu
open PySem PySem.Spec L2
open PyProof.Rows hiding St
/-! ### what the text says of an own exception class -/
structure XcF (K : PySem.W.Frag) (mg : Str → Option Value) (c : Exn) : Prop where
  ex : ∃ C, clsAt K c.name C ∧ mg c.name = some (.ref C) ∧ PySem.W.keepIn K (.ref C) = true ∧ PySem.W.subIn K (.ref C) (.type "BaseException") = some true ∧ PySem.W.typeIn K (.ref C) = some (.type "type")
/-- .. without own __init__ -/
structure Xc0 (K : PySem.W.Frag) (c : Exn) : Prop where
  ex : ∀ C, clsAt K c.name C → PySem.W.excIn K C [.type "ValueError", .type "Exception", .type "BaseException", .type "object"] "ValueError.__new__" = true
/-- is one class under another -/
structure SubF (K : PySem.W.Frag) (x c : Exn) : Prop where
  ex : ∀ C C0, clsAt K x.name C → clsAt K c.name C0 → PySem.W.exmOne K (.ref C) (.ref C0) = some (x.under c)
section
variable {X : Cx}
theorem s_raise0 (c : Exn) {x mm : Str} {j : Nat} {p p2 pos pos' : Pos} (F : XcF X.K X.mg c) (F0 : Xc0 X.K c) (hx : x = c.name := by rfl) (h0 : c.flds.length = 0 := by rfl) (hg : Gl X x := by rfl) (hdb : (x == ("__debug__" : Str)) = false := by decide) (hc : X.calm = true := by rfl) :
    SS1 X (.Raise (some (.Call (.Name x p) [.Constant (.str mm) j p2] [] pos)) none pos') (.raise c (.cons (.cst (.str mm)) .nil)) := ⟨fun ρ m A pp => ⟨fun F0' σ H Fh S E V tk k => by
  obtain ⟨C, hC, hm, kC, b1, b2⟩ := F.ex
  subst hx
  refine wS_of (ps_raise hc tk (pmk_own PySem.F.excBase_ValueError (F0.ex C hC) hm kC (raises_own b1 b2) hg hdb)) ?_
  obtain ⟨d, es, e, hl, z⟩ := (show ∃ d es, [D.str mm] = d :: es ∧ es.length = c.flds.length ∧ A.ex c es ρ m from pp)
  cases e
  exact k.ex σ H Fh ρ m c [] _ _ z (Go.refl S.std) S ⟨C, hC, rfl, .inl ⟨List.eq_nil_of_length_eq_zero h0, rfl, rfl⟩⟩⟩⟩
end
/-! ### try, the exception kept -/
section
variable {X : Cx} {pins : List (Addr × Obj)} {σ : L2.St} {H : Hp} {s : Shared}
theorem inv_track (J : Inv X pins σ H s) {a : Addr} {oe : Obj} {vs : Array Value} {cls : Value} {d : Option Addr} (he : s.heap.get? a = some oe) (hz : Zc cls d oe) (hd : oe.data = .fields vs) (na : H a = none) (nL : a ≠ X.env.locals)
    (new : X.s_0.heap.get? a = none) (np : ∀ p ∈ X.pn ++ pins, p.1 ≠ a) : Inv (X.suite a (X.pn ++ pins)) [] σ (upd H a (ExV a cls d)) s := by
  refine ⟨J.ok.suite _ _, J.os, J.bare, ⟨J.base.keep, J.base.slot, fun b o e n hx => ?_, J.base.there, fun b xs e => ?_, fun b o u e => ?_, fun b ps e => ?_⟩, J.loc, J.cell, ?_, fun y c e => ?_, fun p hp => ?_, ?_, J.len⟩
  · rw [upd_ne (by rintro rfl; rw [new] at e; cases e)]
    exact J.base.free b o e n hx
  · have := J.base.tups b xs e
    rw [upd_ne (ne_of_none this na)]; exact this
  · have := J.base.frzs b o u e
    rw [upd_ne (ne_of_none this na)]; exact this
  · obtain ⟨more, h⟩ := J.base.tbls b ps e
    exact ⟨more, by rw [upd_ne (ne_of_none h na)]; exact h⟩
  · show upd H a (ExV a cls d) X.env.locals = none
    rw [upd_ne (Ne.symm nL)]; exact J.free
  · have h := J.freeC y c e
    obtain ⟨v, hv⟩ := J.cell y c e
    have ne : c ≠ a := by
      rintro rfl
      obtain ⟨oc, h1, h2⟩ := hv
      rw [he] at h1; cases h1
      rw [hd] at h2
      first
        | cases h2
        | cases h2.2
    rw [upd_ne ne]; exact h
  · have hp' : p ∈ X.pn ++ pins := by rw [List.append_nil] at hp; exact hp
    obtain ⟨a1, a2, a3, a4, a5⟩ := J.pin p hp'
    exact ⟨a1, by rw [upd_ne (np p hp')]; exact a2, a3, a4, a5⟩
  · exact J.hok.laidN (fun _ _ q => q) na (exV_ok he hz hd)
theorem inv_back {a : Addr} (I : Inv (X.suite a (X.pn ++ pins)) [] σ H s) (ok : X.Ok) : Inv X pins σ H s :=
  ⟨ok, I.os, I.bare, I.base, I.loc, I.cell, I.free, I.freeC, fun p hp => I.pin p (List.mem_append_left _ hp), I.hok, I.len⟩
end
section
variable {X : Cx} {x n : Str} {c : Value} {i : Nat} {body suite : List Stmt} {b₀ : Stmt} {np pos pos' : Pos} {tb : WX → TS} {Wout : WX}
/-- what 'except x as n' wishes, the exception kept -/
def wTr (X : Cx) (c : Value) (suite : List Stmt) (i : Option Nat) (Wout : WX) (D : Ends) : WX := fun cls d σ H =>
  ∃ b, PySem.W.exmOne X.K cls c = some b ∧ (b = true → ∀ a pn, H a = none → match i with
      | some i => wSs (X.suite a pn) suite { nx := fun σ' H' => D.nx (σ'.set i none) H', rt := D.rt, bk := fun σ' H' => D.bk (σ'.set i none) H', ct := fun σ' H' => D.ct (σ'.set i none) H' } (σ.set i (some (.ref a))) (upd H a (ExV a cls d))
      | none => wSs (X.suite a pn) suite D σ (upd H a (ExV a cls d))) ∧
    (b = false → Wout cls d σ H)
theorem ps_tryK (as : Option (Str × Nat)) (hs : X.stack = X.env :: X.outer) (hf : X.env.frame = some X.env.locals) (hex : X.ex = []) (hN : X.N.Nodup) (hi : ∀ n i, as = some (n, i) → X.N[i]? = some n ∧ X.env.kindOf n = some .local) (hc : Names X x c) (tk : Takes X Wout)
    (hb : ∀ (W : WX) (pn : List (Addr × Obj)) (xe : Value → Shared → Prop), Takes (X.tr pn xe) W → PassesOwn (model X.prog X.w) X.A X.env xe → PSs (X.tr pn xe) body (tb W)) :
    PS X (.Try body [.ExceptHandler (some (.Name x np)) (as.map (·.1)) (b₀ :: suite) pos'] [] [] pos) (fun D σ H => tb (wTr X c (b₀ :: suite) (as.map (·.2)) Wout D) D σ H) := by
  refine ⟨fun pins s σ H D I h => ?_⟩
  have ok := I.ok
  have hfr : X.A.frames = some (X.env :: X.outer) := by rw [ok.frames, hs]
  refine wpAny_Try_except ?_
  refine wpAny_mono ((hb (wTr X c (b₀ :: suite) (as.map (·.2)) Wout D) (X.pn ++ pins) (fun e s₁ => wpAny (model X.prog X.w) X.A (noteFrame e X.env) (fun _ s₂ => wpAny (model X.prog X.w) X.A (setFlight e none) (fun _ s₃ =>
    wpAny (model X.prog X.w) X.A (handleBy e X.env [.ExceptHandler (some (.Name x np)) (as.map (·.1)) (b₀ :: suite) pos']) (SP X pins D) X.xe s₃) X.xe s₂) X.xe s₁) (fun u s' xx => ?_) PassesOwn.looking).run [] s σ H D (I.toTry _) h) (fun f s1 hsp => ?_) (fun e s1 he => he)
  · -- the catch
    obtain ⟨a, B, sI, pins', σ', H', cls, d, rfl, J', nb, up, sky, na, os, ag, b, hb1, hyes, hno⟩ := xx
    have J : Inv X pins σ' H' sI := J'.ofTry ok
    have sky' : Sky B (X.env :: X.outer) a (Zc cls d) X.env.locals s'.heap := by rw [← hs]; exact sky
    show wpAny (model X.prog X.w) X.A (noteFrame (.ref a) X.env) _ _ _
    refine Sky.land Zc.steady hfr hf sky' fun h3 fl3 up3 => ?_
    have J3 : Inv X pins σ' H' { s' with heap := h3 } := J.landed nb fl3.1 (up.trans up3) os ag
    obtain ⟨oe3, vs3, he3, hz3, hd3⟩ := fl3.there
    have notFr : ∀ {h : Heap} {o : Obj} {vs : Array Value}, h.FunFrames B (X.env :: X.outer) → h.get? a = some o → o.data = .fields vs → a ∉ frs (X.env :: X.outer) := fun {h o vs} ff e dd hm => by
      obtain ⟨_, o', e', hnf⟩ := ff.mem hm
      rw [e] at e'; cases e'
      exact hnf _ dd
    have nfr := notFr fl3.2.2.1 he3 hd3
    have nL : a ≠ X.env.locals := fun z => nfr (List.mem_filterMap.mpr ⟨X.env, List.mem_cons_self, by rw [hf, z]⟩)
    have nF : a ∉ X.fs := fun hm => by
      obtain ⟨e, he, q⟩ := List.mem_filterMap.mp hm
      exact nfr (List.mem_filterMap.mpr ⟨e, List.mem_cons_of_mem _ he, q⟩)
    have nB : B.get? a = none := fl3.2.1
    have nI : sI.heap.get? a = none := by
      cases e : sI.heap.get? a with
      | none => rfl
      | some o =>
        have := nb a o e (by rw [hs]; exact nfr)
        rw [nB] at this; cases this
    have n0 : X.s_0.heap.get? a = none := by
      cases e : X.s_0.heap.get? a with
      | none => rfl
      | some o =>
        obtain ⟨o', e'⟩ := J.base.there a o e (by rw [hex]; exact List.not_mem_nil)
        rw [nI] at e'; cases e'
    have npin : ∀ p ∈ X.pn ++ pins, p.1 ≠ a := fun p hp z => by
      have := (J.pin p hp).1
      rw [z, nI] at this; cases this
    have S3 := J3.suite he3 hd3 na nL nF
    refine wpAny_handleBy_cons (codeAny_handlers_test ?_) (by intro q; cases q)
    have LT : PySem.W.Looks (model X.prog X.w) h3 (typeOf (.ref a)) cls := fun A Q E s k q => wpAny_typeOf_ref (k _ _ he3) (by rw [hz3.1]; exact q)
    have LM := PySem.W.exm_one (M := model X.prog X.w) (J3.kIn) LT hb1
    have test : ∀ {Q : Value → Shared → Prop} {E : Value → Shared → Prop}, Q c { s' with heap := h3 } → wpAny (model X.prog X.w) (X.A.mark (some (.ref a))) (eval (.Name x np) X.env) Q E { s' with heap := h3 } := fun {Q E} q => by
      obtain ⟨hg, hdbg, hm | ⟨hm, hv, hnn⟩⟩ := hc
      · exact ld_glob (X := X.suite a ((a, oe3) :: (X.pn ++ pins))) S3 hg hm q hdbg
      · exact ld_blt (X := X.suite a ((a, oe3) :: (X.pn ++ pins))) S3 hg hm hv q hnn hdbg
    refine test (LM.here ?_)
    cases b with
    | true =>
      cases as with
      | none =>
        refine codeAny_handlers_suite ?_
        refine HandSPX.lands_againZ fl3 fun h4 fl4 up4 => ?_
        have J4 : Inv X pins σ' H' { s' with heap := h4 } := J.landed nb fl4.1 ((up.trans up3).trans up4) os ag
        obtain ⟨oe4, vs4, he4, hz4, hd4⟩ := fl4.there
        have S4 := inv_track J4 he4 hz4 hd4 na nL n0 npin
        refine wpAny_mono (hyes rfl a (X.pn ++ pins) na [] _ S4) (fun f s6 hsp => ?_) (fun _ _ z => False.elim z)
        cases f with
        | next =>
          obtain ⟨σ6, H6, S6, q6⟩ := hsp
          exact ⟨_, _, inv_back S6 ok, q6⟩
        | brk =>
          obtain ⟨σ6, H6, S6, q6⟩ := hsp
          exact ⟨_, _, inv_back S6 ok, q6⟩
        | cont =>
          obtain ⟨σ6, H6, S6, q6⟩ := hsp
          exact ⟨_, _, inv_back S6 ok, q6⟩
        | ret u =>
          obtain ⟨v6, σ6, H6, S6, r6, q6⟩ := hsp
          exact ⟨_, _, _, inv_back S6 ok, r6, q6⟩
      | some ni =>
        obtain ⟨n, i⟩ := ni
        obtain ⟨hi, hln⟩ := hi n i rfl
        have hloc : Loc X.env.scope n := .inl hln
        refine codeAny_handlers_suite_as ?_
        refine HandSPX.lands_againZ fl3 fun h4 fl4 up4 => ?_
        have J4 : Inv X pins σ' H' { s' with heap := h4 } := J.landed nb fl4.1 ((up.trans up3).trans up4) os ag
        obtain ⟨oe4, vs4, he4, hz4, hd4⟩ := fl4.there
        have S4 := inv_track J4 he4 hz4 hd4 na nL n0 npin
        refine store_ok (X := X.suite a (X.pn ++ pins)) (v := .ref a) S4 hN hi hloc rfl (fun s5 S5 => ?_) (.inr hln)
        refine wpAny_mono (hyes rfl a (X.pn ++ pins) na [] s5 S5) (fun f s6 hsp => ?_) (fun _ _ z => False.elim z)
        have end_ : ∀ {σ6 : L2.St} {H6 : Hp} {Q : Shared → Prop}, Inv (X.suite a (X.pn ++ pins)) [] σ6 H6 s6 → (∀ s7, Inv X pins (σ6.set i none) H6 s7 → Q s7) →
            wpAny (model X.prog X.w) X.A (do bindName X.env n .none; unbindBehindTheSuite X.env n pos') (fun _ s7 => Q s7) X.xe s6 := fun {σ6 H6 Q} S6 hq => gone_ok (inv_back S6 ok) hN hi hln hq
        cases f with
        | next =>
          obtain ⟨σ6, H6, S6, q6⟩ := hsp
          exact end_ S6 fun s7 J7 => ⟨_, _, J7, q6⟩
        | brk =>
          obtain ⟨σ6, H6, S6, q6⟩ := hsp
          exact end_ S6 fun s7 J7 => ⟨_, _, J7, q6⟩
        | cont =>
          obtain ⟨σ6, H6, S6, q6⟩ := hsp
          exact end_ S6 fun s7 J7 => ⟨_, _, J7, q6⟩
        | ret u =>
          obtain ⟨v6, σ6, H6, S6, r6, q6⟩ := hsp
          exact end_ S6 fun s7 J7 => ⟨_, _, _, J7, r6, q6⟩
    | false =>
      show wpAny _ X.A (handleBy (.ref a) X.env []) _ _ _
      refine wpAny_handleBy_nil ?_
      obtain ⟨k1, k2, k3, oe, vs, T, oT, ts', he, hz, hd, h1, hr⟩ := id fl3
      unfold PySem.passOn
      refine wpAny_bind (wpAny_field he hd h1 ?_)
      rw [if_neg (show ¬ ((Value.ref T == Value.none) = true) from by simp)]
      have fin : wpAny (model X.prog X.w) X.A (setFlight (.ref a) X.env.frame) (fun _ s4 => wpAny (model X.prog X.w) X.A (throw (.ref a) : Sem Flow) (SP X pins D) X.xe s4) X.xe { s' with heap := h3 } := by
        rw [hf]
        refine HandSPX.setFlight_upZ fl3 fun h4 hh4 up4 => wpAny_throw (tk _ _ ?_)
        exact ⟨a, B, sI, pins, σ', H', cls, d, rfl, J, nb, (up.trans up3).trans up4, .inr (.inr (by rw [hs]; exact hh4)), na, os, ag, hno rfl⟩
      first
        | exact wpAny_bind (wpAny_pure (wpAny_bind fin))
        | exact wpAny_bind fin
  · cases f with
    | next =>
      obtain ⟨σ', H', J', q⟩ := hsp
      exact wpAny_execs_nil ⟨σ', H', J'.ofTry ok, q⟩
    | brk =>
      obtain ⟨σ', H', J', q⟩ := hsp
      exact ⟨σ', H', J'.ofTry ok, q⟩
    | cont =>
      obtain ⟨σ', H', J', q⟩ := hsp
      exact ⟨σ', H', J'.ofTry ok, q⟩
    | ret u =>
      obtain ⟨v, σ', H', J', r, q⟩ := hsp
      exact ⟨v, σ', H', J'.ofTry ok, r, q⟩
end
section
variable {X : Cx} {x n : Str} {body suite : List Stmt} {b₀ : Stmt} {np pos pos' : Pos} {ub uh : SS}
/-- the exception that was caught, laid as data -/
theorem exn_lay {K : PySem.W.Frag} {m : MS} {H F : Hp} {a : Addr} {c : Exn} {ds : List D} {cls : Value} {dd : Option Addr} (s : Std K m H F) (hn : H a = none) (r : ExR K F c ds cls dd) : Go K m H F m (upd H a (ExV a cls dd)) (upd F a (ExV a cls dd)) ∧ Rp K (upd F a (ExV a cls dd)) (.ref a) (.exn c ds) := by
  have g := Go.new (o := ExV a cls dd) s hn
  refine ⟨g, ?_⟩
  obtain ⟨C, h1, rfl, h3⟩ := r
  rcases h3 with ⟨h3, rfl, rfl⟩ | ⟨q, vs, rfl, h4, h5, h6, h7⟩
  · exact .exn0 h3 h1 upd_same
  · exact .exn1 h4 h5 h1 upd_same (g.grow _ _ h6) (h7.up g.grow _)
theorem setR_clr (ρ : Env1) (i : Nat) (d : D) : clrR (setR ρ i d) i = clrR ρ i := by
  rw [setR_eq, clrR_eq, clrR_eq, List.set_set]
theorem s_try (c : Exn) (as : Option (Str × Nat)) (Fc : XcF X.K X.mg c) (TS : ∀ y, SubF X.K y c) (hN : X.N.Nodup)
    (hb : ∀ pn xe, PassesOwn (model X.prog X.w) X.A X.env xe → SSs (X.tr pn xe) body ub) (hh : ∀ a pn, SSs (X.suite a pn) (b₀ :: suite) uh)
    (hi : ∀ n i, as = some (n, i) → X.N[i]? = some n ∧ X.env.kindOf n = some .local := by intro n i e; first | (cases e; exact ⟨rfl, rfl⟩) | cases e) (hx : x = c.name := by rfl)
    (hs : X.stack = X.env :: X.outer := by rfl) (hf : X.env.frame = some X.env.locals := by rfl) (hex : X.ex = [] := by rfl) (hg : Gl X x := by rfl) (hdb : (x == ("__debug__" : Str)) = false := by decide) :
    SS1 X (.Try body [.ExceptHandler (some (.Name x np)) (as.map (·.1)) (b₀ :: suite) pos'] [] [] pos) (.tri c (as.map (·.2)) ub uh) := ⟨fun ρ m A p => ⟨fun F0 σ H F S E V tk k => by
  obtain ⟨C0, hC0, hm, _, _, _⟩ := Fc.ex
  subst hx
  refine wS_of (ps_tryK (c := .ref C0) (tb := fun W => fun D σ H => ∀ pn xe, Takes (X.tr pn xe) W → PassesOwn (model X.prog X.w) X.A X.env xe → wSs (X.tr pn xe) body D σ H) as hs hf hex hN hi ⟨hg, hdb, .inl hm⟩ tk (fun W pn xe tk' hp => ⟨fun pins s σ H D I h => h pn xe tk' hp pins s I⟩)) ?_
  intro pn xe tk' hp
  have p : WB ub ρ m _ := p
  refine ((hb pn xe hp).go ρ m _ p).run F0 σ H F S E _ tk' ⟨fun σ' H' F' ρ' m' q g S' => k.nx σ' H' F' ρ' m' q g S', fun v H' F' d m' q g r => k.rt v H' F' d m' q g r, fun σ' H' F' ρ' m' q g S' => k.bk σ' H' F' ρ' m' q g S', fun σ' H' F' ρ' m' q g S' => k.ct σ' H' F' ρ' m' q g S', ?_⟩
  rintro σ' H' F' ρ' m' y ds cls dd ⟨z1, z2⟩ g S' r
  obtain ⟨C, hC, hcls, _⟩ := id r
  refine ⟨y.under c, by rw [hcls]; exact (TS y).ex C C0 hC hC0, fun hu a pn' hna => ?_, fun hu => k.ex σ' H' F' ρ' m' y ds cls dd (z2 hu) g S' r⟩
  obtain ⟨gl, rl⟩ := exn_lay S'.std hna r
  have Sl := S'.go gl
  have gg := g.trans gl
  have z1 := z1 hu
  cases as with
  | none =>
    have z1 : WB uh ρ' m' _ := z1
    refine ((hh a pn').go ρ' m' _ z1).run F0 σ' _ _ Sl E V0 (fun u s' x => by obtain ⟨_, _, _, _, _, _, _, _, _, _, _, _, _, _, _, _, w⟩ := x; exact w.elim) ⟨?_, ?_, ?_, ?_, exk0⟩
    · exact fun σ2 H2 F2 ρ2 m2 q g2 S2 => k.nx σ2 H2 F2 ρ2 m2 q (gg.trans g2) S2
    · exact fun v H2 F2 d m2 q g2 r2 => k.rt v H2 F2 d m2 q (gg.trans g2) r2
    · exact fun σ2 H2 F2 ρ2 m2 q g2 S2 => k.bk σ2 H2 F2 ρ2 m2 q (gg.trans g2) S2
    · exact fun σ2 H2 F2 ρ2 m2 q g2 S2 => k.ct σ2 H2 F2 ρ2 m2 q (gg.trans g2) S2
  | some ni =>
    obtain ⟨n, i⟩ := ni
    have z1 : WB uh (setR ρ' i (.exn y ds)) m' _ := z1
    intro pins2 s2 I2
    have hl : i < σ'.length := by
      have := nx_of_inv I2 (hi n i rfl).1
      simpa using this
    have Sx := Sl.set rl hl
    refine ((hh a pn').go _ m' _ z1).run F0 _ _ _ Sx _ V0 (fun u s' x => by obtain ⟨_, _, _, _, _, _, _, _, _, _, _, _, _, _, _, _, w⟩ := x; exact w.elim) ⟨?_, ?_, ?_, ?_, exk0⟩ pins2 s2 I2
    · exact fun σ2 H2 F2 ρ2 m2 q g2 S2 => k.nx _ H2 F2 _ m2 q (gg.trans g2) S2.clr
    · exact fun v H2 F2 d m2 q g2 r2 => k.rt v H2 F2 d m2 q (gg.trans g2) r2
    · exact fun σ2 H2 F2 ρ2 m2 q g2 S2 => k.bk _ H2 F2 _ m2 q (gg.trans g2) S2.clr
    · exact fun σ2 H2 F2 ρ2 m2 q g2 S2 => k.ct _ H2 F2 _ m2 q (gg.trans g2) S2.clr⟩⟩
end
end Nu

namespace Nu
open PySem PySem.Spec L2
open PyProof.Rows hiding St
/-! ### isinstance of an exception -/
structure ExnC (K : PySem.W.Frag) (x : Exn) : Prop where
  ex : ∀ C, clsAt K x.name C → L2.ExcC K C
structure SubI (K : PySem.W.Frag) (x c : Exn) : Prop where
  ex : ∀ C C0, clsAt K x.name C → clsAt K c.name C0 → PySem.W.kitOne K (.ref C) (.ref C0) = some (x.under c)
structure SubV (K : PySem.W.Frag) (x : Exn) : Prop where
  ex : ∀ C, clsAt K x.name C → PySem.W.kitOne K (.ref C) (.type "ValueError") = some true
section
variable {X : Cx} {a b : Expr} {ta : T} {pos p p2 : Pos}
def rIsX (K : PySem.W.Frag) : List L2.V → Hp → VK → Prop := fun xs H Q => ∃ (pa C : Addr) (c : L2.V) (cv : Value) (b : Bool) (dd : Option Addr), xs = [.ref pa, c] ∧ (∀ u, RelV c u → u = cv) ∧ H pa = some (ExV pa (.ref C) dd) ∧ (dd = none ∨ ∃ q fs, dd = some q ∧ H q = some (.xd fs)) ∧ L2.ExcC K C ∧ PySem.W.kitOne K (.ref C) cv = some b ∧ Q (.bl b) H
theorem call_isX : CallR X (.builtin "isinstance") (rIsX X.K) := by
  intro pins s σ H xs us Q I r h
  obtain ⟨pa, C, c, cv, b, dd, rfl, hcv, ea, hdd, F, e, q⟩ := h
  obtain ⟨v, w, rfl, rx, rt⟩ := vals2 r
  obtain rfl : v = Value.ref pa := rx
  have ec := hcv _ rt
  subst ec
  obtain ⟨oe, vs, ho, hz, hd⟩ := exV_at I.hok ea
  have hcl : (PySem.W.clsIn X.K C).isSome = true := by
    have := F.hd
    unfold PySem.W.hasDictIn at this
    cases q0 : PySem.W.clsIn X.K C with
    | none => rw [q0] at this; exact absurd this (by decide)
    | some _ => rfl
  have J : ∃ od, PySem.W.InstAt s.heap pa oe C od := by
    rcases hdd with rfl | ⟨q1, fs, rfl, eq⟩
    · obtain ⟨oc, od, oda, osl⟩ := oe
      obtain ⟨h1, h2⟩ := hz
      dsimp only at h1 h2 hd
      subst h1 h2 hd
      exact ⟨none, ho, rfl, rfl, trivial⟩
    · have hx : ObjOk X.prog X.w H s.heap q1 (.xd fs) := I.hok q1 _ eq
      obtain ⟨mA, hns, hr⟩ := hx
      obtain ⟨od, hod, hl⟩ := lookIn_ns hns
      exact ⟨some od, ho, hz.1, by unfold PySem.W.notCls; rw [hd] <;> rfl, by rw [hz.2]; exact hod⟩
  obtain ⟨od, J⟩ := J
  exact PySem.W.kia_one (PySem.W.kitx_exc hcl F.hg F.hk F.hs F.ha F.hn F.ht F.hm) I.kIn J e (fun z => nomatch z) fun tk => ⟨.bl b, H, I.kept (t' := tk) fun _ _ z => z, rfl, q⟩
theorem exn_at {K : PySem.W.Frag} {m : MS} {H F : Hp} {v : L2.V} {x : Exn} {ds : List D} (s : Std K m H F) (r : Rp K F v (.exn x ds)) : ∃ pa C dd, v = .ref pa ∧ clsAt K x.name C ∧ H pa = some (ExV pa (.ref C) dd) ∧ (dd = none ∨ ∃ q fs, dd = some q ∧ H q = some (.xd fs)) := by
  cases r with
  | exn0 h1 h2 h3 => exact ⟨_, _, _, rfl, h2, s.at h3, .inl rfl⟩
  | exn1 h1 h0 h2 h3 h4 h5 => exact ⟨_, _, _, rfl, h2, s.at h3, .inr ⟨_, _, rfl, s.at h4⟩⟩
def sIsX (c : Exn) : BS := fun ds m P => match ds with
  | [.exn x _] => P (.bl (x.under c)) m
  | _ => False
def sIsVE : BS := fun ds m P => match ds with
  | [.exn x _] => P (.bl true) m
  | _ => False
theorem se_isX (c : Exn) {y : Str} (hm : X.mg "isinstance" = none) (Fc : XcF X.K X.mg c) (TX : ∀ x, ExnC X.K x) (TI : ∀ x, SubI X.K x c) (ha : SE X a ta) (hx : y = c.name := by rfl) (hg : Gl X "isinstance" := by rfl) (hg2 : Gl X y := by rfl) (hdb : (y == ("__debug__" : Str)) = false := by decide)
    (he : starEach [a, .Name y p2] X.env = (false, eval a X.env) :: starEach [.Name y p2] X.env := by rfl) (he2 : starEach [.Name y p2] X.env = (false, eval (.Name y p2) X.env) :: starEach [] X.env := by rfl) (hpl : (backTo pos (starEach [.Name y p2] X.env)).any (·.1) = false := by rfl) :
    SE X (.Call (.Name "isinstance" p) [a, .Name y p2] [] pos) (.bop (sIsX c) (.cons ta .nil)) := ⟨fun ρ m P Z pp => ⟨fun F0 σ H F S Q V tk q kx => by
  obtain ⟨C0, hC0, hmg, _, _, _⟩ := Fc.ex
  subst hx
  have h1 : PE X (.Name c.name p2) (tC (.ref C0)) := pe_glob (v := .ref C0) hg2 hmg rfl hdb
  refine wE_of (pe_callB call_isX hg hm (by decide +kernel) (pa_cons pe_w (pa_cons h1 pa_nil he2) he) (by decide) (by decide) he hpl) ?_
  refine (ha.go ρ m _ Z pp).run F0 σ H F S _ V tk (fun v H1 F1 d m1 p1 g1 r1 => ?_) kx
  cases d with
  | exn x ds =>
    obtain ⟨pa, C, dd, rfl, hC, e1, e2⟩ := exn_at g1.std r1
    exact ⟨pa, C, .ref C0, .ref C0, _, dd, rfl, fun u ru => ru, e1, e2, (TX x).ex C hC, (TI x).ex C C0 hC hC0, q _ _ _ _ _ p1 g1 (.bl _)⟩
  | _ => exact False.elim p1⟩⟩
theorem se_isVE (hm : X.mg "isinstance" = none) (hm2 : X.mg "ValueError" = none) (TX : ∀ x, ExnC X.K x) (TV : ∀ x, SubV X.K x) (ha : SE X a ta) (hg : Gl X "isinstance" := by rfl) (hg2 : Gl X "ValueError" := by rfl)
    (he : starEach [a, .Name "ValueError" p2] X.env = (false, eval a X.env) :: starEach [.Name "ValueError" p2] X.env := by rfl) (he2 : starEach [.Name "ValueError" p2] X.env = (false, eval (.Name "ValueError" p2) X.env) :: starEach [] X.env := by rfl) (hpl : (backTo pos (starEach [.Name "ValueError" p2] X.env)).any (·.1) = false := by rfl) :
    SE X (.Call (.Name "isinstance" p) [a, .Name "ValueError" p2] [] pos) (.bop sIsVE (.cons ta .nil)) := ⟨fun ρ m P Z pp => ⟨fun F0 σ H F S Q V tk q kx => by
  have h1 : PE X (.Name "ValueError" p2) (tC (.ty "ValueError")) := pe_tyN hm2 (by decide +kernel) hg2
  refine wE_of (pe_callB call_isX hg hm (by decide +kernel) (pa_cons pe_w (pa_cons h1 pa_nil he2) he) (by decide) (by decide) he hpl) ?_
  refine (ha.go ρ m _ Z pp).run F0 σ H F S _ V tk (fun v H1 F1 d m1 p1 g1 r1 => ?_) kx
  cases d with
  | exn x ds =>
    obtain ⟨pa, C, dd, rfl, hC, e1, e2⟩ := exn_at g1.std r1
    exact ⟨pa, C, .ty "ValueError", .type "ValueError", true, dd, rfl, fun u ru => ru, e1, e2, (TX x).ex C hC, (TV x).ex C hC, q _ _ _ _ _ p1 g1 (.bl _)⟩
  | _ => exact False.elim p1⟩⟩
end
/-! ### exceptions with one field: their __init__, raise -/
structure HeF (K : PySem.W.Frag) (CH : Addr) : Prop where
  sp : PySem.W.specialIn K (.ref CH) "__getattribute__" = some (some (.builtin "type.__getattribute__"))
  rd : PySem.W.readsIn K CH (.type "type") = true
  fc : PySem.W.findCls K (.ref CH) (.type "type") "__init__" = some (.val (.builtin "ValueError.__init__"))
section
variable {X : Cx} {e : Expr} {es : List Expr} {ta : TA} {p p' p1 p2 pos : Pos}
theorem pe_heinit {x : Str} {CH : Addr} {pl : Sem Bool} (hg : Gl X x) (hm : X.mg x = some (.ref CH)) (hf : HeF X.K CH) (ha : PA X (e :: es) ta)
    (hc : eval (.Call (.Attribute (.Name x p1) "__init__" p2) (e :: es) [] pos) X.env = (do
      let ov ← eval (.Name x p1) X.env
      standAt p2.atName
      let (f, first) ← holding [ov] (getMethod ov "__init__" pl)
      callWith pos f first (backTo pos (starEach (e :: es) X.env)) (backToKw pos (keywordEach [] X.env))))
    (hdb : (x == ("__debug__" : Str)) = false) (he : starEach (e :: es) X.env = (false, eval e X.env) :: starEach es X.env) (hpl : (backTo pos (starEach es X.env)).any (·.1) = false) :
    PE X (.Call (.Attribute (.Name x p1) "__init__" p2) (e :: es) [] pos) (tVeI X.K ta) := by
  refine ⟨fun pins s σ H Q I h => ?_⟩
  refine PySem.W.methodCall_KW (ld_glob I hg hm ?_ hdb) hc
  refine PySem.W.method_cls I.kIn hf.sp (PySem.W.cls_value I.kIn hf.rd hf.fc (by decide +kernel) ?_)
  show wpAny _ _ (callWith pos (Value.builtin "ValueError.__init__") [] (backTo pos (starEach (e :: es) X.env)) []) _ _ _
  refine PyProof.Rows.callWith_method1 (thn (ha.run pos pins _ σ H _ (I.tok _) h) fun us s1 ⟨vs, H1, I1, r1, a, C, ws, ev, hl, T, ea, q⟩ => ?_) he hpl
  subst ev
  cases r1 with
  | @cons _ u0 _ ur ra rw' =>
    obtain rfl : u0 = Value.ref a := ra
    have hlen : ur.length ≤ sizeLine := by
      rw [← Paired.length rw', sizeLine_eq]
      omega
    exact oinit_ok T I1 ea hlen fun s' J => ⟨.non, H1, J, rfl, q⟩
end
def spI (C : Addr) (f : Str) : Sp := fun vs H Q E => ∃ a w y, vs = [.ref a, w, y] ∧ H a = some (exo a C none) ∧ ∀ dx, H dx = none → dx ≠ a → Q .non (upd (upd H dx (exd dx [(f, y)])) a (exo a C (some dx)))
structure InitF (P : Program) (w : World) (K : PySem.W.Frag) (mg : Str → Option Value) (base : Heap) (k : Nat) (c : Exn) (g : Fld) : Prop where
  ex : ∃ (C fI : Addr) (fd : FuncData) (ps : List Str), clsAt K c.name C ∧ mg c.name = some (.ref C) ∧ L2.OexC K C ∧ PySem.W.findIn K (.ref C) "__init__" = some (some (.ref fI)) ∧ PySem.W.typeIn K (.ref fI) = some (.type "function") ∧ FnOk P w K mg base (L2.CX P w) k fI fd ps (spI C g.name) ∧ Binds K fd ps []
section
variable {P : Program} {w : World} {K : PySem.W.Frag} {mg : Str → Option Value} {base : Heap}
theorem init_fn {f : Str} {C CH fI : Addr} {fd : FuncData} {stm : Stmt} {qual x : Str} {N : List Str} {k : Nat} {p1 p2 p3 p4 p5 p6 p7 p8 p9 p10 : Pos} (F : Fun K "__init__" qual stm fI fd) (S : FnScope N (["self", "words", f] : List Str) (defScope stm)) (hN : N = (["self", "words", f] : List Str)) (T : L2.OexC K C) (nf : PySem.W.findIn K (.ref C) f = some none) (hx : mg x = some (.ref CH)) (hf : HeF K CH)
    (hb : defBody stm = [.Expr (.Call (.Attribute (.Name x p1) "__init__" p2) [.Name "self" p3, .Name "words" p4] [] p5) p6, .Assign [.Attribute (.Name "self" p7) f p8] (.Name f p9) p10])
    (snd : ∀ cdv A outer s H E, PSs (cxOf (L2.CX P w) P w K mg base N qual (defScope stm) fI cdv A outer s H E) (defBody stm) (tSeq (tDrop (tVeI K (tCons (tVar 0) (tCons (tVar 1) tNil)))) (tSeq (tOst K f (tVar 0) (tVar 2)) tNext))) : FnOk P w K mg base (L2.CX P w) (k + 1) fI fd (["self", "words", f] : List Str) (spI C f) := by
  refine F.okX S (fun vs H Q E h => ?_) fun cdv A outer s H vs Q E hr h => ⟨_, snd cdv A outer s H E, ?_⟩
  · obtain ⟨a, w', y, rfl, _⟩ := h; rfl
  · obtain ⟨a, w', y, rfl, ea, q⟩ := h
    subst hN
    exact ⟨.ref a, rfl, w', rfl, a, C, [w'], rfl, Nat.le_of_ble_eq_true rfl, T, ea, y, rfl, .ref a, rfl, a, C, rfl, T, nf, .inl ⟨ea, q⟩⟩
end
section
variable {X : Cx} {e1 e2 : Expr} {t1 t2 : T} {p pos pos' : Pos}
theorem s_raise1 (c : Exn) (g : Fld) {x : Str} {k j : Nat} (F : XcF X.K X.mg c) (IF : InitF X.prog X.w X.K X.mg X.base k c g) (hr : Room j X.A) (h1 : SE X e1 t1) (h2 : SE X e2 t2) (hfs : c.fs = [g] := by rfl) (hk : k + 1 ≤ j := by decide) (hx : x = c.name := by rfl) (hg : Gl X x := by rfl) (hdb : (x == ("__debug__" : Str)) = false := by decide) (hc : X.calm = true := by rfl)
    (he : starEach [e1, e2] X.env = (false, eval e1 X.env) :: starEach [e2] X.env := by rfl) (he2 : starEach [e2] X.env = (false, eval e2 X.env) :: starEach [] X.env := by rfl) (hpl : (backTo pos (starEach [e2] X.env)).any (·.1) = false := by rfl) :
    SS1 X (.Raise (some (.Call (.Name x p) [e1, e2] [] pos)) none pos') (.raise c (.cons t1 (.cons t2 .nil))) := ⟨fun ρ m A pp => ⟨fun F0 σ H Fh S E V tk kk => by
  obtain ⟨C, fI, fd, ps, hC, hm, T, iC, tI, G, bi⟩ := IF.ex
  subst hx
  refine wS_of (ps_raise hc tk (pmk_oex T iC tI G (hr.mono hk) bi .nil (passes_call tk fun _ _ _ _ h => h.elim) hg hm (pa_cons pe_w (pa_cons pe_w pa_nil he2) he) hdb he hpl)) ?_
  have pp : W t1 ρ m _ A.ex := pp
  refine (h1.go ρ m _ _ pp).run F0 σ H Fh S _ V tk (fun v H1 F1 d m1 p1 g1 r1 => ?_) kk.ex
  have p1 : W t2 ρ m1 _ A.ex := p1
  refine (h2.go ρ m1 _ _ p1).run F0 σ H1 F1 (S.go g1) _ V tk (fun v2 H2 F2 d2 m2 p2 g2 r2 => ?_) (kk.ex.go g1)
  obtain ⟨d0, es, e, hl, z⟩ := (show ∃ d0 es, [d, d2] = d0 :: es ∧ es.length = c.flds.length ∧ A.ex c es ρ m2 from p2)
  cases e
  refine ⟨Nat.le_of_ble_eq_true rfl, fun a ha => ⟨a, v, v2, rfl, upd_same, fun dx hdx ne => ⟨rfl, dx, [(g.name, v2)], upd_same, ?_, ?_, ?_⟩⟩⟩
  · rw [upd_ne ne]; exact upd_same
  · rw [upd_ne ne] at hdx; exact hdx
  · have hdx' : H2 dx = none := by rw [upd_ne ne] at hdx; exact hdx
    have eH : upd (del (upd (upd (upd H2 a (exo a C none)) dx (exd dx [(g.name, v2)])) a (exo a C (some dx))) a) dx (.xd [(g.name, v2)]) = upd H2 dx (.xd [(g.name, v2)]) := by
      funext b
      by_cases hb : b = dx
      · rw [hb, upd_same, upd_same]
      · rw [upd_ne hb, upd_ne hb]
        by_cases hb2 : b = a
        · rw [hb2, del_same]; exact ha.symm
        · rw [del_ne hb2, upd_ne hb2, upd_ne hb, upd_ne hb2]
    rw [eH]
    have g3 := Go.new (o := .xd [(g.name, v2)]) g2.std hdx'
    refine kk.ex σ _ _ ρ m2 c [d2] _ _ z ((g1.trans g2).trans g3) (((S.go g1).go g2).go g3) ⟨C, hC, rfl, .inr ⟨dx, [v2], rfl, ?_, (fun z => nomatch z), ?_, Rps.one (r2.up g3.grow _)⟩⟩
    · unfold Exn.flds; rw [hfs]; rfl
    · unfold Exn.flds; rw [hfs]; exact upd_same⟩⟩
end
end Nu

namespace Nu
open PySem PySem.Spec L2
open PyProof.Rows hiding St
/-! ### the facts of the text, put together -/
section
variable {K : PySem.W.Frag} {mg : Str → Option Value}
theorem cls_some {C : Addr} (h : PySem.W.hasDictIn K C = true) : (PySem.W.clsIn K C).isSome = true := by
  unfold PySem.W.hasDictIn at h
  cases q0 : PySem.W.clsIn K C with
  | none => rw [q0] at h; exact absurd h (by decide)
  | some _ => rfl
theorem no_cls {x : Str} {C : Addr} (h : PySem.W.nsIn K mainGlobals x = some none) (k : clsAt K x C) : False := by
  unfold clsAt at k; rw [h] at k; cases k
theorem clsF_of {c : Cls} {C0 : Addr} (g : clsAt K c.name C0) (pg : PySem.W.plainGet K C0 Str.empty = true) (hd : PySem.W.hasDictIn K C0 = true) (po : PySem.W.plainOver K C0 = true) (sa : PySem.W.findIn K (.ref C0) "__setattr__" = some (some (.builtin "object.__setattr__"))) (na : ∀ f ∈ c.fs, PySem.W.findIn K (.ref C0) f.name = some none) : ClsF K c :=
  ⟨fun C h => by cases h.inj g; exact ⟨⟨pg, hd, po, sa⟩, na⟩⟩
theorem clsF_no {c : Cls} (h : PySem.W.nsIn K mainGlobals c.name = some none) : ClsF K c := ⟨fun C k => (no_cls h k).elim⟩
theorem exnF_of {c : Exn} {C0 : Addr} (g : clsAt K c.name C0) (ga : PySem.W.findIn K (.ref C0) "__getattribute__" = some (some (.builtin "BaseException.__getattribute__"))) (gg : PySem.W.findIn K (.ref C0) "__getattr__" = some none) (sb : PySem.W.subIn K (.ref C0) (.type "BaseException") = some true) (hd : PySem.W.hasDictIn K C0 = true) (na : ∀ f ∈ c.fs, PySem.W.findIn K (.ref C0) f.name = some none) : ExnF K c :=
  ⟨fun C h => by cases h.inj g; exact ⟨ga, gg, sb, hd, na⟩⟩
theorem exnF_no {c : Exn} (h : PySem.W.nsIn K mainGlobals c.name = some none) : ExnF K c := ⟨fun C k => (no_cls h k).elim⟩
theorem exnC_of {c : Exn} {C0 : Addr} (g : clsAt K c.name C0) (ga : PySem.W.findIn K (.ref C0) "__getattribute__" = some (some (.builtin "BaseException.__getattribute__"))) (gg : PySem.W.findIn K (.ref C0) "__getattr__" = some none) (sb : PySem.W.subIn K (.ref C0) (.type "BaseException") = some true) (hd : PySem.W.hasDictIn K C0 = true)
    (cl : PySem.W.findIn K (.ref C0) "__class__" = some (some (.builtin "object.__class__"))) (hn : PySem.W.specialIn K (.builtin "object.__class__") "__get__" = some (some (.builtin "getset_descriptor.__get__"))) (ht : PySem.W.takesIn K (.builtin "object.__class__") = some true) (hm : PySem.W.mroIn K C0 (.type "object") = some true) : ExnC K c :=
  ⟨fun C h => by cases h.inj g; exact ⟨ga, gg, sb, hd, cl, hn, ht, hm⟩⟩
theorem exnC_no {c : Exn} (h : PySem.W.nsIn K mainGlobals c.name = some none) : ExnC K c := ⟨fun C k => (no_cls h k).elim⟩
theorem kitCls_of {C C0 : Addr} {b : Bool} (h2 : PySem.W.hasDictIn K C0 = true) (h3 : PySem.W.typeIn K (.ref C0) = some (.type "type")) (h4 : PySem.W.subIn K (.ref C) (.ref C0) = some b) : PySem.W.kitCls K (.ref C) (.ref C0) = some b := by
  unfold PySem.W.kitCls
  simp only [cls_some h2, h3]
  rw [if_pos (by decide)]; exact h4
theorem subF_of {x c : Exn} {C C0 : Addr} (g : clsAt K x.name C) (g0 : clsAt K c.name C0) (h1 : PySem.W.subIn K (.ref C0) (.type "BaseException") = some true) (h2 : PySem.W.hasDictIn K C0 = true) (h3 : PySem.W.typeIn K (.ref C0) = some (.type "type")) (h4 : PySem.W.subIn K (.ref C) (.ref C0) = some (x.under c)) : SubF K x c :=
  ⟨fun D D0 h h0 => by
    cases h.inj g; cases h0.inj g0
    unfold PySem.W.exmOne
    rw [h1, if_pos (by decide)]
    exact kitCls_of h2 h3 h4⟩
theorem subF_no {x c : Exn} (h : PySem.W.nsIn K mainGlobals x.name = some none) : SubF K x c := ⟨fun C C0 k _ => (no_cls h k).elim⟩
theorem under_self (x : Exn) : x.under x = true := by cases x <;> rfl
theorem subI_of {x c : Exn} {C C0 : Addr} (g : clsAt K x.name C) (g0 : clsAt K c.name C0) (h2 : PySem.W.hasDictIn K C0 = true) (h3 : PySem.W.typeIn K (.ref C0) = some (.type "type")) (h4 : PySem.W.subIn K (.ref C) (.ref C0) = some (x.under c)) (h5 : PySem.W.subIn K (.ref C) (.ref C) = some true) : SubI K x c :=
  ⟨fun D D0 h h0 => by
    cases h.inj g; cases h0.inj g0
    unfold PySem.W.kitOne
    by_cases e : C = C0
    · subst e
      rw [if_pos (by simp)]
      rw [h5] at h4
      rw [← h4]
    · rw [if_neg (by simpa using e)]
      exact kitCls_of h2 h3 h4⟩
theorem subI_no {x c : Exn} (h : PySem.W.nsIn K mainGlobals x.name = some none) : SubI K x c := ⟨fun C C0 k _ => (no_cls h k).elim⟩
theorem subV_of {x : Exn} {C : Addr} (g : clsAt K x.name C) (h : PySem.W.subIn K (.ref C) (.type "ValueError") = some true) : SubV K x := ⟨fun D k => by
  cases k.inj g
  unfold PySem.W.kitOne
  rw [if_neg (show ¬ ((Value.ref C == Value.type "ValueError") = true) from by simp)]
  unfold PySem.W.kitCls
  show (if PySem.W.kitMeta "ValueError" = true then _ else _) = _
  rw [if_pos (by decide +kernel)]; exact h⟩
theorem subV_no {x : Exn} (h : PySem.W.nsIn K mainGlobals x.name = some none) : SubV K x := ⟨fun C k => (no_cls h k).elim⟩
theorem xcF_of {c : Exn} {C : Addr} (g : clsAt K c.name C) (m : mg c.name = some (.ref C)) (kp : PySem.W.keepIn K (.ref C) = true) (sb : PySem.W.subIn K (.ref C) (.type "BaseException") = some true) (tp : PySem.W.typeIn K (.ref C) = some (.type "type")) : XcF K mg c := ⟨C, g, m, kp, sb, tp⟩
theorem xc0_of {c : Exn} {C0 : Addr} (g : clsAt K c.name C0) (h : PySem.W.excIn K C0 [.type "ValueError", .type "Exception", .type "BaseException", .type "object"] "ValueError.__new__" = true) : Xc0 K c := ⟨fun C k => by cases k.inj g; exact h⟩
end
end Nu

namespace Nu
open PySem PySem.Spec L2
open PyProof.Rows hiding St
/-! ### min(ints, default=None) -/
section
variable {prog : Program} {w : World} {A : Around} {E : Value → Shared → Prop} {s : Shared} {l : Addr} {its : List Value} {ns : List Int} {Q : Value → Shared → Prop}
theorem min_rawD {d : Value} (hh : A.handled = none) (hl : s.heap.IsList l its.toArray) (hi : IntsAre its ns) (h0 : ns = [] → ∀ h' tk, (∀ b o, s.heap.get? b = some o → h'.get? b = some o) → Q d { s with heap := h', toks := tk })
    (h : ∀ h' tk M t', (∀ b o, s.heap.get? b = some o → h'.get? b = some o) → M ∈ ns → (∀ a, a ∈ ns → M ≤ a) → Q (.int M t') { s with heap := h', toks := tk }) : wpAny (model prog w) A (call (.builtin "min") [.ref l] [(Str.ofString "default", d)]) Q E s := by
  obtain ⟨xs, e⟩ := hi.allInts.items
  have hn : numsOf (intItems xs).toList = ns := by rw [← e]; exact hi.numsOf
  rw [nums_intItems] at hn
  subst hn
  rw [e] at hl
  refine PySem.call_min_walkD (iter_intList hl fun s₂ e2 st hfp hlI => ?_)
  subst e2
  have emp : ∀ (b : Addr) (o : Obj), ¬ ((({} : Heap).get? b) = some o) := fun b o q => by
    have := Heap.lt_size q
    exact absurd this (Nat.not_lt_zero _)
  refine ⟨_, _, _, _, _, _, _, ({} : Heap), (fun i j => decide (numAt xs i < numAt xs j)), rfl, (Walks.list (A := A.in1) hh _ l hlI (intItems xs)).toS, st, hfp, fun b o q => (emp b o q).elim, fun b o q => (emp b o q).elim, fun hz s' hm => ?_, fun hz => ⟨?_, fun v s' hv hm => ?_⟩⟩
  · have e0 : xs.toList.map (·.1) = [] := by
      have : xs.size = 0 := by simpa [intItems] using hz
      have h2 : xs.toList = [] := List.eq_nil_of_length_eq_zero (by rw [Array.length_toList]; exact this)
      rw [h2]; rfl
    rw [Moved.eq_with hm]
    exact h0 e0 _ _ (old_kept fun b o hb e => hm.heap b o hb e)
  · intro i j vi vj s3 Q3 E3 _ hi hj hq
    exact CmpOf.ints_lt (numAt xs) (fun _ _ => intItems_at) i j vi vj s3 Q3 E3 hi hj hq
  · have hsz : 0 < xs.size := by simpa [intItems] using hz
    have hv : (intItems xs)[argBest (fun i j => decide (numAt xs i < numAt xs j)) (xs.size - 1)]? = some v := by simpa [intItems] using hv
    obtain ⟨t, rfl⟩ := intItems_at hv
    obtain ⟨h1, h2⟩ := argBest_lt (numAt xs) (xs.size - 1)
    rw [Moved.eq_with hm]
    refine h _ _ _ t (old_kept fun b o hb e => hm.heap b o hb e) ?_ fun a ha => ?_
    · rw [numAt_eq]; exact PySem.getD_mem (by rw [List.length_map, Array.length_toList]; omega)
    · obtain ⟨j, hj, rfl⟩ := mem_getD ha
      rw [List.length_map, Array.length_toList] at hj
      rw [← numAt_eq]; exact h2 j (by omega)
end
section
variable {X : Cx} {a : Expr} {ta : T} {pos p kp q2 : Pos} {j : Nat}
def rMinD (K : PySem.W.Frag) : List L2.V → List L2.V → Hp → VK → Prop := fun vs zs H Q => ∃ (l : Addr) (ns : List Int) (z : L2.V), vs = [.ref l] ∧ zs = [z] ∧ SqL K H l (ns.map L2.V.int) ∧ (ns = [] → Q z H) ∧ ∀ m, m ∈ ns → (∀ y, y ∈ ns → m ≤ y) → Q (.int m) H
theorem cr_minD (hc : X.calm = true) : CallRK X (.builtin "min") [Str.ofString "default"] (rMinD X.K) := by
  intro pins s σ H vs zs us ws Q I r rz h
  obtain ⟨l, ns, z, rfl, rfl, hs, h0, h⟩ := h
  obtain ⟨its, rv, hl, _⟩ := I.list hs
  rw [Vals.ref1 r]
  obtain ⟨d, rfl, rd⟩ := vals1 rz
  show wpAny _ _ (call (.builtin "min") [.ref l] [(Str.ofString "default", d)]) _ _ _
  exact min_rawD (I.ok.hd hc) hl.isList rv.ints (fun e h' tk hk => ⟨z, H, I.kept hk, rd, h0 e⟩) fun h' tk M t' hk h1 h2 => ⟨.int _, H, I.kept hk, ⟨_, rfl⟩, h M h1 h2⟩
def sMinD : BS := fun ds m P => match ds with
  | [d] => lsR d m fun xs => ∃ ns : List Int, xs = ns.map .int ∧ (ns = [] → P .non m) ∧ ∀ z, z ∈ ns → (∀ y, y ∈ ns → z ≤ y) → P (.int z) m
  | _ => False
theorem se_minD (hm : X.mg "min" = none) (ha : SE X a ta) (hc : X.calm = true := by rfl) (hg : Gl X "min" := by rfl)
    (he : backTo pos (starEach [a] X.env) = (false, eval a X.env) :: backTo pos (starEach [] X.env) := by rfl) (he0 : starEach [a] X.env = (false, eval a X.env) :: starEach [] X.env := by rfl) (hpl : (backTo pos (starEach [a] X.env)).any (·.1) = false := by rfl)
    (hall : (backToKw pos (keywordEach [⟨some (Str.ofString "default"), .Constant .none j q2, kp⟩] X.env)).all (·.1.isSome) = true := by rfl) (hnone : (backToKw pos (keywordEach [⟨some (Str.ofString "default"), .Constant .none j q2, kp⟩] X.env)).any (·.1.isNone) = false := by rfl) (hks : (backToKw pos (keywordEach [⟨some (Str.ofString "default"), .Constant .none j q2, kp⟩] X.env)).filterMap (·.1) = [Str.ofString "default"] := by rfl) :
    SE X (.Call (.Name "min" p) [a] [⟨some (Str.ofString "default"), .Constant .none j q2, kp⟩] pos) (.bop sMinD (.cons ta .nil)) := ⟨fun ρ m P Z pp => ⟨fun F0 σ H F S Q V tk q kx => by
  refine wE_of (pe_callBK (cr_minD hc) hg hm (by decide +kernel) (pa_cons pe_w pa_nil he0) (pk_cons pe_non pk_nil) (by decide) (by decide) he hpl hall hnone hks) ?_
  refine (ha.go ρ m _ Z pp).run F0 σ H F S _ V tk (fun v H1 F1 d m1 p1 g1 r1 => ?_) kx
  have p1 : lsR d m1 fun xs => ∃ ns : List Int, xs = ns.map .int ∧ (ns = [] → P .non m1) ∧ ∀ z, z ∈ ns → (∀ y, y ∈ ns → z ≤ y) → P (.int z) m1 := p1
  obtain ⟨l, xs, ws, rfl, ⟨ns, rfl, h0, h⟩, h1, h2⟩ := lsR_use p1 g1.std r1
  have e := h2.ints
  subst e
  exact ⟨l, ns, .non, rfl, rfl, h1, fun e => q _ _ _ _ _ (h0 e) g1 .non, fun z hz hy => q _ _ _ _ _ (h z hz hy) g1 (.int _)⟩⟩⟩
end
end Nu

namespace Nu
open PySem PySem.Spec L2
open PyProof.Rows hiding St
section
variable {X : Cx} {F0 : Hp} {e tg : Expr} {t : T}
/-! ### a dict walked by its keys -/
theorem si_keys (he : SE X e t) : SI X tg e (isDct .keys) (.cons t .nil) := ⟨fun ρ m P Z p => ⟨fun F0 σ H F S R V tk q kx => by
  refine wI_of (pi_keys pe_w) ?_
  refine (he.go ρ m _ Z p).run F0 σ H F S _ V tk (fun v H1 F1 d m1 p1 g1 r1 => ?_) kx
  obtain ⟨pa, o, vs, kds, rfl, hp, p2⟩ := isDct_of p1
  cases r1
  obtain ⟨e1, rk⟩ := g1.std.cells pa _ hp
  exact ⟨pa, o, rfl, .inl ⟨vs, e1, q _ H1 F1 _ _ m1 p2 g1 (walk_dk rk.len)⟩⟩⟩⟩
end
end Nu

namespace Nu
open PySem PySem.Spec L2
open PyProof.Rows hiding St
/-! ### isinstance of an instance of an own class -/
structure IsCF (K : PySem.W.Frag) (mg : Str → Option Value) (c : Cls) : Prop where
  ex : ∃ C, clsAt K c.name C ∧ mg c.name = some (.ref C) ∧ C8.InsC K C
theorem isCF_of {K : PySem.W.Frag} {mg : Str → Option Value} {c : Cls} {C : Addr} (hC : clsAt K c.name C) (hm : mg c.name = some (.ref C)) (hc : ClsF K c) (ha : PySem.W.findIn K (.ref C) "__class__" = some (some (.builtin "object.__class__")))
    (hn : PySem.W.specialIn K (.builtin "object.__class__") "__get__" = some (some (.builtin "getset_descriptor.__get__"))) (ht : PySem.W.takesIn K (.builtin "object.__class__") = some true) (ho : PySem.W.mroIn K C (.type "object") = some true) : IsCF K mg c :=
  ⟨C, hC, hm, (hc.ex C hC).1, ha, hn, ht, ho, by unfold PySem.W.kitOne; rw [if_pos (by simp)]⟩
def sIsC (c : Cls) : BS := fun ds m P => match ds with
  | [.raw (.ref p)] => ∃ xs, m p = some (.ins c xs) ∧ P (.bl true) m
  | _ => False
theorem sIsC_of {c : Cls} {d : D} {m : MS} {P : NX} (h : sIsC c [d] m P) : ∃ p xs, d = .raw (.ref p) ∧ m p = some (.ins c xs) ∧ P (.bl true) m := by
  cases d with
  | raw w =>
    cases w with
    | ref p =>
      obtain ⟨xs, e, h⟩ := h
      exact ⟨p, xs, rfl, e, h⟩
    | _ => exact h.elim
  | _ => exact h.elim
section
variable {X : Cx} {a : Expr} {ta : T} {p p2 pos : Pos}
theorem se_isC (c : Cls) {y : Str} (hm : X.mg "isinstance" = none) (Fc : IsCF X.K X.mg c) (ha : SE X a ta) (hx : y = c.name := by rfl) (hg : Gl X "isinstance" := by rfl) (hg2 : Gl X y := by rfl) (hdb : (y == ("__debug__" : Str)) = false := by decide)
    (he : starEach [a, .Name y p2] X.env = (false, eval a X.env) :: starEach [.Name y p2] X.env := by rfl) (he2 : starEach [.Name y p2] X.env = (false, eval (.Name y p2) X.env) :: starEach [] X.env := by rfl) (hpl : (backTo pos (starEach [.Name y p2] X.env)).any (·.1) = false := by rfl) :
    SE X (.Call (.Name "isinstance" p) [a, .Name y p2] [] pos) (.bop (sIsC c) (.cons ta .nil)) := ⟨fun ρ m P Z pp => ⟨fun F0 σ H F S Q V tk q kx => by
  obtain ⟨C0, hC0, hmg, hI⟩ := Fc.ex
  subst hx
  have h1 : PE X (.Name c.name p2) (tC (.ref C0)) := pe_glob (v := .ref C0) hg2 hmg rfl hdb
  refine wE_of (pe_callB (C8.call_isC hI) hg hm (by decide +kernel) (pa_cons pe_w (pa_cons h1 pa_nil he2) he) (by decide) (by decide) he hpl) ?_
  refine (ha.go ρ m _ Z pp).run F0 σ H F S _ V tk (fun v H1 F1 d m1 p1 g1 r1 => ?_) kx
  obtain ⟨pa, xs, rfl, e, p2⟩ := sIsC_of p1
  cases r1
  obtain ⟨C, dx, vs, hC, e1, _, _⟩ := g1.std.cells _ _ e
  rw [clsAt.inj hC hC0] at e1
  exact ⟨pa, dx, _, rfl, e1, q _ _ _ _ _ p2 g1 (.bl _)⟩⟩⟩
end
end Nu

namespace Nu
open PySem PySem.Spec L2
open PyProof.Rows hiding St
/-! ### sets of texts -/
def kSt (e : Int × Value) : Str := match e.2 with
  | .str x _ => x
  | _ => Str.empty
def OkSt (w : World) (e : Int × Value) : Prop := ∃ x u, e.2 = Value.str x u ∧ e.1 = hashStr w x
/-- the set of texts at a, its members in some order -/
def StAt (w : World) (h : Heap) (a : Addr) (M : List Str) : Prop := ∃ (o : Obj) (es : Array (Int × Value)) (ep : Nat) (t : SetTable), h.get? a = some o ∧ o.ExactSet ∧ o.data = .set es ep t ∧ (∀ e ∈ es.toList, OkSt w e) ∧ (es.toList.map kSt).Perm M ∧ M.Nodup ∧
  es.size < scanBound ∧ t.fits es.size = true ∧ Ris t.place.toList ∧ (w.params.followText "set-order" = true ∨ t.led = true)
abbrev newSt (w : World) : Obj := { cls := .type "set", dict := none, data := .set #[] 0 (.fresh 0 0 (!w.params.followText "set-order")) }
section
variable {P : Program} {w : World} {A : Around} {E : Value → Shared → Prop} {s : Shared} {a : Addr} {h h' : Heap} {M : List Str}
theorem StAt.at (R : StAt w h a M) (k : ∀ o, h.get? a = some o → h'.get? a = some o) : StAt w h' a M := by
  obtain ⟨o, es, ep, t, c0, r⟩ := R
  exact ⟨o, es, ep, t, k o c0, r⟩
theorem stAt_new (c0 : h.get? a = some (newSt w)) : StAt w h a [] :=
  ⟨_, #[], 0, _, c0, ⟨rfl, rfl, rfl⟩, rfl, (fun e he => by simp at he), (by simp), (by simp), (by decide), (by rfl), List.Pairwise.nil, by
    show _ ∨ (!w.params.followText "set-order") = true
    cases w.params.followText "set-order" <;> simp⟩
theorem okSt_elems {l : List (Int × Value)} (g : ∀ e ∈ l, OkSt w e) : ElemsOf (PySem.strKind P w) l := fun e he => by
  obtain ⟨x, u, q1, q2⟩ := g e he
  exact ⟨⟨x, by rw [q1]; exact strKind_is P w x u, q2⟩, by rw [q1]; rfl⟩
theorem okSt_is {e : Int × Value} (g : OkSt w e) (x : Str) : (PySem.strKind P w).is x e.2 = true ↔ kSt e = x := by
  obtain ⟨y, u, q1, _⟩ := g
  unfold kSt
  rw [q1]
  constructor
  · intro q
    obtain ⟨t, q3⟩ := Value.isStrOf_shape (x := x) (v := .str y u) q
    cases q3; rfl
  · rintro rfl; exact strKind_is P w _ u
theorem okSt_mem {l : List (Int × Value)} (g : ∀ e ∈ l, OkSt w e) (x : Str) : x ∈ l.map kSt ↔ ∃ e ∈ l, (PySem.strKind P w).is x e.2 = true := by
  constructor
  · intro q
    obtain ⟨e, he, q⟩ := List.mem_map.mp q
    exact ⟨e, he, (okSt_is (g e he) x).2 q⟩
  · rintro ⟨e, he, q⟩
    exact List.mem_map.mpr ⟨e, he, (okSt_is (g e he) x).1 q⟩
theorem st_tail {g : Bool → Sem Unit} (hg : ∀ (b : Bool) (s1 : Shared) (Q1 : Unit → Shared → Prop), Q1 () s1 → wpAny (model P w) A (g b) Q1 E s1)
    {o : Obj} {es : Array (Int × Value)} {ep : Nat} {t : SetTable} (c0 : s.heap.get? a = some o) (c1 : o.ExactSet) (c2 : o.data = .set es ep t)
    {fs : Array (Int × Value)} {t2 : SetTable} (g1 : ∀ e ∈ fs.toList, OkSt w e) (pm : (fs.toList.map kSt).Perm M) (nd : M.Nodup)
    (z1 : fs.size < scanBound) (z2 : t2.fits fs.size = true) (z3 : Ris t2.place.toList) (z4 : w.params.followText "set-order" = true ∨ t2.led = true) {wd : Bool} {R : Option Bool → Shared → Prop}
    (hR : ∀ h', Heap.SameBut a s.heap h' → StAt w h' a M → R (some true) { s with heap := h' }) : wpAny (model P w) A (do
        storeSet a fs t2
        if (!wd && t2.tooFull) = true then do
            g (relayAll t2 fs (SetTable.grown fs.size)).2.2
            storeSet a (relayAll t2 fs (SetTable.grown fs.size)).1 (relayAll t2 fs (SetTable.grown fs.size)).2.1
            pure (some true)
          else pure (some true)) R E s := by
  refine wpAny_bind (wpAny_storeSet_of c0 c2 ?_ (fits_of_scanBound z1))
  have d0 := store_at (es' := fs) (t' := t2) c0 c2
  have sb := Heap.SameBut.update s.heap a (Obj.putSet fs t2)
  split
  · have p1 := relayAll_perm t2 fs (SetTable.grown fs.size)
    have p2 := relayAll_fits t2 fs (SetTable.grown fs.size)
    have p3 := relayAll_ris t2 fs (SetTable.grown fs.size)
    have p4 := relayAll_led t2 fs (SetTable.grown fs.size)
    generalize relayAll t2 fs (SetTable.grown fs.size) = Z at p1 p2 p3 p4 ⊢
    obtain ⟨es2, t3, gv⟩ := Z
    dsimp only at p1 p2 p3 p4 ⊢
    have zz : es2.size = fs.size := by rw [← Array.length_toList, p1.length_eq, Array.length_toList]
    have z5 : es2.size < scanBound := zz ▸ z1
    refine wpAny_bind (hg _ _ _ (wpAny_bind (wpAny_storeSet_of d0 rfl (wpAny_pure (hR _ (sb.trans (Heap.SameBut.update _ a _)) ?_)) (fits_of_scanBound z5))))
    exact ⟨_, es2, _, t3, store_at (es' := es2) (t' := t3) d0 rfl, c1, rfl, fun e he => g1 e (p1.mem_iff.mp he), (p1.map kSt).trans pm, nd, z5, p2, p3, z4.imp id fun z => p4.trans z⟩
  · exact wpAny_pure (hR _ sb ⟨_, fs, _, t2, d0, c1, rfl, g1, pm, nd, z1, z2, z3, z4⟩)
theorem st_add {x : Str} {u : Tok} {Q : Bool → Shared → Prop} (R : StAt w s.heap a M) (room : M.length + 1 < scanBound)
    (hQ : ∀ b h', Heap.SameBut a s.heap h' → StAt w h' a (if x ∈ M then M else x :: M) → Q b { s with heap := h' }) :
    wpAny (model P w) A (setAddHashed a (.str x u) ((PySem.strKind P w).hash x)) Q E s := by
  obtain ⟨o, es, ep, t, c0, c1, c2, g, pm, nd, z1, z2, z3, z4⟩ := R
  have key : (PySem.strKind P w).is x (.str x u) = true := strKind_is P w x u
  have scn : (Value.str x u).scannable = true := rfl
  have el : ElemsOf (PySem.strKind P w) es.toList := okSt_elems g
  unfold setAddHashed setAddHashedIn
  refine wpAny_holding (wpAny_bind (wpAny_setState_of c0 c2 z2 ?_))
  dsimp only
  rw [byScan_of scn z1 el]
  simp only [↓reduceIte]
  unfold setAddByScan
  refine wpAny_bind (wpAny_bind (wpAny_rule (wpAny_bind (wpAny_setScan_of key c0 c2 z2 el ?_))))
  cases hf : List.findIdx? (fun e => (PySem.strKind P w).is x e.2) es.toList with
  | some j =>
    dsimp only
    obtain ⟨hj, pj, _⟩ := List.findIdx?_eq_some_iff_getElem.mp hf
    have hx : x ∈ M := pm.mem_iff.mp ((okSt_mem (P := P) (w := w) g x).2 ⟨es.toList[j], List.getElem_mem hj, pj⟩)
    have q := hQ false s.heap (Heap.SameBut.refl a s.heap)
    rw [if_pos hx] at q
    exact wpAny_pure (wpAny_pure (q ⟨o, es, ep, t, c0, c1, c2, g, pm, nd, z1, z2, z3, z4⟩))
  | none =>
    dsimp only
    have hx : x ∉ M := fun z => by
      obtain ⟨e, he, q⟩ := (okSt_mem (P := P) (w := w) g x).1 (pm.mem_iff.mpr z)
      have c := List.findIdx?_eq_none_iff.mp hf e he
      rw [q] at c; cases c
    have gw : ∀ (b : Bool) {s1 : Shared} {Q1 : Unit → Shared → Prop}, Q1 () s1 → wpAny (model P w) A (match b with | true => rule "set.scan.the-table-gave-way" | false => pure ()) Q1 E s1 :=
      fun b s1 Q1 q => by cases b <;> first | exact wpAny_pure q | exact wpAny_rule q
    have p1 := layNew_perm t es ((PySem.strKind P w).hash x) (.str x u)
    have p2 := layNew_fits t es ((PySem.strKind P w).hash x) (.str x u)
    have p3 := layNew_ris t es ((PySem.strKind P w).hash x) (.str x u) z3
    have p4 := layNew_led t es ((PySem.strKind P w).hash x) (.str x u)
    generalize layNew t es ((PySem.strKind P w).hash x) (.str x u) = Z at p1 p2 p3 p4 ⊢
    obtain ⟨fs, t1, wd, gv⟩ := Z
    dsimp only at p1 p2 p3 p4 ⊢
    rw [Array.toList_push] at p1
    have pc : fs.toList.Perm (((PySem.strKind P w).hash x, Value.str x u) :: es.toList) := p1.trans (List.perm_append_singleton _ _)
    have pk : (fs.toList.map kSt).Perm (x :: M) := (pc.map kSt).trans (List.Perm.cons x pm)
    have g1 : ∀ e ∈ fs.toList, OkSt w e := fun e he => by
      rcases List.mem_cons.mp (pc.mem_iff.mp he) with z | z
      · exact ⟨x, u, by rw [z], by rw [z]; rfl⟩
      · exact g e z
    have nd1 : (x :: M).Nodup := List.nodup_cons.mpr ⟨hx, nd⟩
    have n1 : fs.size = M.length + 1 := by
      have := pk.length_eq
      rwa [List.length_map, Array.length_toList, List.length_cons] at this
    have z5 : fs.size < scanBound := n1 ▸ room
    have z6 : w.params.followText "set-order" = true ∨ t1.led = true := z4.imp id fun z => p4.trans z
    have fin : ∀ h', Heap.SameBut a s.heap h' → StAt w h' a (x :: M) → Q true { s with heap := h' } := fun h' sb r => by
      have q := hQ true h' sb
      rw [if_neg hx] at q
      exact q r
    refine wpAny_bind (gw _ ?_)
    split
    · refine wpAny_bind ?_
      rw [hashByValue_scannable 8 scn]
      refine wpAny_pure ?_
      refine st_tail ?_ c0 c1 c2 g1 pk nd1 z5 ?_ ?_ ?_ ?_
      · intro b s1 Q1 q; cases b <;> first | exact wpAny_pure q | exact wpAny_rule q
      · first | (split <;> first | exact p2 | exact SetTable.fits_plain_off p2) | exact p2
      · first | (split <;> exact p3) | exact p3
      · first | (split <;> exact z6) | exact z6
      · intro h' sb r; dsimp only; exact wpAny_pure (fin h' sb r)
    · refine wpAny_bind (wpAny_pure ?_)
      simp only [↓reduceIte]
      refine st_tail ?_ c0 c1 c2 g1 pk nd1 z5 p2 p3 z6 ?_
      · intro b s1 Q1 q; cases b <;> first | exact wpAny_pure q | exact wpAny_rule q
      · intro h' sb r; dsimp only; exact wpAny_pure (fin h' sb r)
def firstS : List Str → List Str → List Str
  | M, [] => M
  | M, x :: xs => firstS (if x ∈ M then M else x :: M) xs
theorem firstS_nodup : ∀ (xs M : List Str), M.Nodup → (firstS M xs).Nodup
  | [], _, h => h
  | x :: xs, M, h => by
    unfold firstS
    refine firstS_nodup xs _ ?_
    split
    · exact h
    · next hx => exact List.nodup_cons.mpr ⟨hx, h⟩
theorem firstS_mem : ∀ (xs M : List Str) (k : Str), k ∈ firstS M xs ↔ k ∈ M ∨ k ∈ xs
  | [], M, k => by simp [firstS]
  | x :: xs, M, k => by
    unfold firstS
    rw [firstS_mem xs]
    split
    · next hx =>
      rw [List.mem_cons]
      constructor
      · rintro (q | q)
        · exact .inl q
        · exact .inr (.inr q)
      · rintro (q | rfl | q)
        · exact .inl q
        · exact .inl hx
        · exact .inr q
    · rw [List.mem_cons, List.mem_cons]
      constructor
      · rintro ((q | q) | q)
        · exact .inr (.inl q)
        · exact .inl q
        · exact .inr (.inr q)
      · rintro (q | q | q)
        · exact .inl (.inr q)
        · exact .inl (.inl q)
        · exact .inr q
theorem firstS_len : ∀ (xs M : List Str), (firstS M xs).length ≤ M.length + xs.length
  | [], M => by simp [firstS]
  | x :: xs, M => by
    unfold firstS
    have := firstS_len xs (if x ∈ M then M else x :: M)
    have h2 : (if x ∈ M then M else x :: M).length ≤ M.length + 1 := by split <;> simp
    rw [List.length_cons]; omega
theorem firstS_app : ∀ (xs : List Str) (M : List Str) (x : Str), firstS M (xs ++ [x]) = (if x ∈ firstS M xs then firstS M xs else x :: firstS M xs)
  | [], M, x => rfl
  | y :: xs, M, x => by
    rw [List.cons_append]
    show firstS (if y ∈ M then M else y :: M) (xs ++ [x]) = _
    rw [firstS_app xs]; rfl
theorem st_loop {I : Addr} {fp wr : List Addr} {G : Array GenState → Array GenState → Prop} {n : Nat} {Pv : Nat → Value → Prop} {St : Nat → Shared → Prop} {R : Result → Shared → Prop}
    (W : WalksS P w A.in1 I fp wr G n Pv St) (S : Addr) (hSf : S ∉ fp) (xs : List Str) (hn : n = xs.length) (hb : xs.length + 1 < scanBound) (hval : ∀ i v, Pv i v → ∃ x u, xs[i]? = some x ∧ v = .str x u) :
    ∀ (k i : Nat) (s : Shared), n - i = k → i ≤ n → St i s → StAt w s.heap S (firstS [] (xs.take i)) →
      (∀ s', Moved (S :: wr) G s s' → StAt w s'.heap S (firstS [] xs) → R (.ok (.ret .none)) s') →
      codeAny (model P w) A (.builtin "set.update.loop" ⟨[.ref S, .ref I], []⟩) R s := by
  have nw : S ∉ wr := fun h => hSf (W.sub _ h)
  have sub : ∀ b ∈ wr, b ∈ S :: wr := fun b hb => List.mem_cons_of_mem _ hb
  intro k
  induction k with
  | zero =>
    intro i s hk hi hst hS hR
    obtain rfl : i = n := by omega
    refine codeAny_builtin F.entry_set_update_loop ?_
    rw [Around.under_plainId F.plain_set_update_loop _]
    show wpAny _ A.in1 (pyNext (.ref I) >>= _) _ _ s
    refine wpAny_bind (W.done s _ _ hst fun s' hm => ?_)
    rw [List.take_of_length_le (by omega)] at hS
    show wpAny _ A.in1 (PySem.ret Value.none) _ _ s'
    exact wpAny_pure (hR s' (hm.mono sub) (hS.at fun o e => hm.heap S o nw e))
  | succ k ih =>
    intro i s hk hi hst hS hR
    have lt : i < n := by omega
    refine codeAny_builtin F.entry_set_update_loop ?_
    rw [Around.under_plainId F.plain_set_update_loop _]
    show wpAny _ A.in1 (pyNext (.ref I) >>= _) _ _ s
    refine wpAny_bind (W.item i s _ _ lt hst fun v s' hP hst' hm => ?_)
    obtain ⟨x, u, hx, rfl⟩ := hval i v hP
    have hS' : StAt w s'.heap S (firstS [] (xs.take i)) := hS.at fun o e => hm.heap S o nw e
    have hl : (firstS [] (xs.take i)).length ≤ i := by
      have := firstS_len (xs.take i) []
      rw [List.length_take] at this
      simp at this; omega
    show wpAny _ A.in1 (holding [Value.str x u] (setAdd S (.str x u)) >>= _) _ _ s'
    refine wpAny_bind (wpAny_holding ?_)
    unfold setAdd
    refine wpAny_holding (wpAny_bind ((PySem.strKind P w).pyHash (k := x) (strKind_is _ _ _ _) ?_))
    refine st_add (s := { s' with toks := s'.toks + 1 }) hS' (by omega) fun _ h' sb hS2 => ?_
    have et : xs.take (i + 1) = xs.take i ++ [x] := by rw [List.take_add_one, hx]; rfl
    rw [← firstS_app, ← et] at hS2
    refine wpAny_pure ⟨plainId_quiet F.plain_set_update_loop _, ih (i + 1) _ (by omega) lt (W.frame _ s' _ _ hst' (Nat.le_succ _) fun b hb o e => ?_) hS2 fun s'' hm2 hS3 => ?_⟩
    · rw [sb.2 b (fun z : b = S => hSf (by rw [← z]; exact hb))]; exact e
    · refine hR s'' (Moved.trans W.gtrans ((hm.mono sub).then_heap (Nat.le_succ _) fun b o hb e => ?_) hm2) hS3
      rw [sb.2 b (fun z : b = S => hb (by rw [z]; exact List.mem_cons_self))]; exact e
theorem call_set_strs {l : Addr} {items : Array Value} (xs : List Str) {Q : Value → Shared → Prop} (hh : A.handled = none) (hl : s.heap.IsList l items) (hit : PyProof.Rows.StrsAre items.toList xs) (hb : xs.length + 1 < scanBound)
    (q : ∀ (h' : Heap) (tk : Nat), StAt w h' s.heap.objs.size (firstS [] xs) → (∀ b o, s.heap.get? b = some o → h'.get? b = some o) → Q (.ref s.heap.objs.size) { s with heap := h', toks := tk }) :
    wpAny (model P w) A (call (.type "set") [.ref l]) Q E s := by
  have hn : items.size = xs.length := (Array.length_toList ..).symm.trans (StrsAre.len_eq hit)
  obtain ⟨_, _, hmro⟩ := F.called_set.mro
  have f1 := F.called_set.made
  have f2 := F.called_set.sub
  have f3 := F.called_set.notType
  have f4 := F.called_set.canCreate
  have f5 := F.typeCall_set_1 (.ref l)
  refine wpAny_call (codeAny_of_tree ?_)
  show wpAny _ _ (callAny (.type "set") _) _ _ _
  refine wpAny_pure ⟨Code.quiet_builtin _ (by decide +kernel), codeAny_builtin F.entry_type_call ?_⟩
  rw [Around.under_plain (weight_type_call_type "set" [.ref l] []) rfl]
  repeat (any_goals (first | assumption | wp_step))

  refine codeAny_mono (code_set_led1 (.ref l) (E := E) (Q₁ := fun u s1 => u = .ref s.heap.objs.size ∧ s1 = { s with heap := s.heap.push (newSt w) }) ⟨rfl, rfl⟩) fun r s1 hr => ?_
  match r, hr with
  | .error _, hr => exact hr
  | .ok (.ret _), hr =>
    obtain ⟨rfl, rfl⟩ := hr
    have g0 : (s.heap.push (newSt w)).get? s.heap.objs.size = some (newSt w) := Heap.get?_push_size _ rfl
    have gT : Shared.TypeIs { s with heap := s.heap.push (newSt w) } (.ref s.heap.objs.size) "set" := ⟨_, g0, rfl⟩
    have f6 := F.called_set.init.lookup
    have f7 := F.called_set.init.bind (.ref s.heap.objs.size)
    repeat (any_goals (first | assumption | wp_step))

    refine codeAny_mono (codeAny_call_builtin (R := wants (fun r s2 => r = .none ∧ ∃ h' tk, s2 = { s with heap := h', toks := tk } ∧ StAt w h' s.heap.objs.size (firstS [] xs) ∧ (∀ b o, s.heap.get? b = some o → h'.get? b = some o)) E) F.called_set.init.plain F.entry_set_init (check_set_init_1 gT ?_)) fun r2 s2 hr2 => ?_
    · obtain ⟨⟨ocls, odict, odata, oslots⟩, hol, hcl, nl, hdl⟩ := hl
      simp only at hcl hdl
      subst hcl; subst hdl
      have gl : (s.heap.push (newSt w)).get? l = some { cls := .type "list", dict := odict, data := .seq items nl, slots := oslots } := Heap.get?_push_of_some _ hol
      have k1 := F.sub_list_set
      have k2 := F.sub_list_frozenset
      have k3 : (Value.type "list" == Value.type "dict") = false := by decide
      have il : (s.heap.push (newSt w)).IsList l items := ⟨_, gl, rfl, nl, rfl⟩
      have hlt : l < s.heap.objs.size := Heap.lt_size hol
      have hsz : (s.heap.push (newSt w)).objs.size = s.heap.objs.size + 1 := Heap.size_push ..
      unfold Builtin.«set.__init__» noKeywords Builtin.Frozenset.updateFrom
      generalize hPI : pyIter = PI
      wp_walk
      subst hPI

      refine wpAny_pyIter_list il (wpAny_bind (wpAny_runValue ?_))
      have hin : ∀ (i : Nat) (v : Value), items[i]? = some v → ∃ x u, xs[i]? = some x ∧ v = .str x u := fun i v hv => by
        have hi : i < xs.length := hn ▸ (Array.getElem?_eq_some_iff.mp hv).1
        obtain ⟨t, e⟩ := SS.strs_at hit i v (by rw [Array.getElem?_toList]; exact hv)
        exact ⟨xs[i], t, List.getElem?_eq_getElem hi, by rw [e, List.getD_eq_getElem?_getD, List.getElem?_eq_getElem hi]; rfl⟩
      refine st_loop ((Walks.list (A := A.in1.in1.in1) (by simp [hh]) _ l (by rw [hsz]; exact Nat.ne_of_lt (Nat.lt_succ_of_lt hlt)) items).toS) s.heap.objs.size (by rw [hsz]; simp only [List.mem_cons, List.not_mem_nil, or_false, not_or]; exact ⟨Nat.ne_of_lt (Nat.lt_succ_self _), Nat.ne_of_gt hlt⟩) xs hn hb hin (items.size - 0) 0 _ (by omega) (Nat.zero_le _)
        ⟨⟨_, Heap.get?_push_size _ rfl, rfl, rfl⟩, (il.push _)⟩ (stAt_new (Heap.get?_push_of_some _ g0)) fun s' hm hS' => ?_
      obtain ⟨h', g2, d', tk', os'⟩ := s'
      have eg : g2 = s.gens := hm.gens
      have ed : d' = s.drawn := hm.drawn
      have eo : os' = s.os := hm.os
      subst eg; subst ed; subst eo
      show wpAny _ _ _ _ _ _
      refine wpAny_pure ?_
      show wpAny _ _ (PySem.ret Value.none) _ _ _
      refine wpAny_pure ⟨rfl, h', tk', rfl, hS', fun b o e => ?_⟩
      have hb0 : b < s.heap.objs.size := Heap.lt_size e
      exact hm.heap b o (by rw [hsz]; simp only [List.mem_cons, List.not_mem_nil, or_false, not_or]; exact ⟨Nat.ne_of_lt hb0, Nat.ne_of_lt (Nat.lt_succ_of_lt hb0)⟩) (Heap.get?_push_of_some _ (Heap.get?_push_of_some _ e))
    · match r2, hr2 with
      | .error _, hr2 => exact hr2
      | .ok (.ret _), hr2 =>
        obtain ⟨rfl, h', tk, rfl, hS', hk'⟩ := hr2
        repeat (any_goals (first | assumption | wp_step))
        exact q _ _ hS' hk'
end
/-- a set of texts at p -/
def StO (w : World) (p : Addr) (M : List Str) : HO := .ext fun h => StAt w h p M
theorem stO_new {P : Program} {w : World} {H : Hp} {h : Heap} {p : Addr} {M : List Str} (R : StAt w h p M) : ObjOk P w H h p (StO w p M) := ⟨R, (let ⟨o, _, _, _, e, _⟩ := R; ⟨o, e⟩), fun _ _ x k => x.at k⟩
theorem stO_at {P : Program} {w : World} {H : Hp} {h : Heap} {p : Addr} {M : List Str} (hok : HOk P w H h) (e : H p = some (StO w p M)) : StAt w h p M := by
  have x : ObjOk P w H h p (.ext fun h => StAt w h p M) := hok p _ e
  exact x.1
def rSetT (K : PySem.W.Frag) (w : World) : List L2.V → Hp → VK → Prop := fun vs H Q => ∃ (a : Addr) (xs : List Str), vs = [L2.V.ref a] ∧ SqL K H a (xs.map L2.V.str) ∧ xs.length ≤ 1000 ∧ ∀ p M, M.Nodup → (∀ k, k ∈ M ↔ k ∈ xs) → H p = none → Q (.ref p) (upd H p (StO w p M))
theorem cr_setT {X : Cx} (hc : X.calm = true) : CallR X (.type "set") (rSetT X.K X.w) := by
  intro pins s σ H vs us Q I r h
  obtain ⟨a, xs, rfl, hs, hb, q⟩ := h
  obtain ⟨its, rv, hl, _⟩ := I.list hs
  rw [Vals.ref1 r]
  refine call_set_strs xs (I.ok.hd hc) hl.isList rv.strs (by unfold scanBound; omega) fun h' tk R hk => ?_
  exact ⟨.ref _, upd H s.heap.objs.size (StO X.w s.heap.objs.size (firstS [] xs)), I.laid (t' := tk) (fun b u e => hk b u e) (Nat.le_refl _) (stO_new R), rfl, q _ _ (firstS_nodup xs [] (by simp)) (fun k => by rw [firstS_mem]; simp) (I.hok.fresh (Nat.le_refl _))⟩
end Nu

namespace Nu
open PySem PySem.Spec L2
open PyProof.Rows hiding St
/-! ### sorted and len of a set of texts -/
def vStr : Value → Str
  | .str x _ => x
  | _ => Str.empty
theorem kSt_v (e : Int × Value) : kSt e = vStr e.2 := by
  obtain ⟨i, v⟩ := e
  cases v <;> rfl
theorem strsAre_of : ∀ (l : List Value), (∀ v ∈ l, ∃ x u, v = Value.str x u) → PyProof.Rows.StrsAre l (l.map vStr)
  | [], _ => .nil
  | v :: l, h => by
    obtain ⟨x, u, rfl⟩ := h v (List.mem_cons_self ..)
    exact .cons x u (strsAre_of l fun y hy => h y (List.mem_cons_of_mem _ hy))
def rSortT (w : World) : List L2.V → Hp → VK → Prop := fun vs H Q => ∃ (a : Addr) (M : List Str), vs = [L2.V.ref a] ∧ H a = some (StO w a M) ∧ ∀ ys p, ys.Perm M → sortedS ys = true → H p = none → Q (.ref p) (upd H p (.lst (ys.map L2.V.str)))
theorem cr_sortT {X : Cx} (hc : X.calm = true) : CallR X (.builtin "sorted") (rSortT X.w) := fun pins s σ H vs us Q I r q => by
  obtain ⟨a, M, rfl, ha, q⟩ := q
  obtain ⟨o, es, ep, t, c0, c1, c2, g, pm, nd, z1, z2, z3, z4⟩ := stO_at I.hok ha
  rw [Vals.ref1 r]
  refine Calls.call_function_entry PyProof.Rows.kind_sorted PyProof.Rows.plain_sorted PyProof.Rows.entry_sorted (PyProof.Rows.args_sorted1 _) ?_
  unfold Builtin.«sorted»
  refine wpAny_bind (m := checkCount "sorted" 1 1 _) (wpAny_pure ?_)
  refine wpAny_bind (collect_set (A := X.A.in1) (I.ok.hd hc) ⟨o, c0, c1.1, c2⟩ z2 z1 z3 z4 fun s1 acc k1 hz g1 o1 p1 => ?_)
  have J : Inv X pins σ H s1 := I.call' (ch := []) o1 (Un.kept k1) (I.hok.kept k1) (by rw [g1]; exact I.bare) (fun _ z => nomatch z)
  have sa : PyProof.Rows.StrsAre acc (acc.map vStr) := strsAre_of acc fun v hv => by
    obtain ⟨e, he, ev⟩ := List.mem_map.mp (p1.mem_iff.mp hv)
    obtain ⟨x, u, e1, _⟩ := g e he
    exact ⟨x, u, ev.symm.trans e1⟩
  have pk : (acc.map vStr).Perm M := by
    have p2 := p1.map vStr
    rw [List.map_map] at p2
    have e : es.toList.map (vStr ∘ fun x => x.2) = es.toList.map kSt := List.map_congr_left fun e _ => (kSt_v e).symm
    rw [e] at p2
    exact p2.trans pm
  have nz2 : acc.length ≤ sizeLine := by
    rw [p1.length_eq, List.length_map, Array.length_toList]; exact fits_of_scanBound z1
  refine wpAny_bind (wpAny_newList ?_ nz2)
  have at0 : (s1.heap.push (seqObj "list" acc.toArray 0)).get? s1.heap.objs.size = some (seqObj "list" acc.toArray 0) := Heap.get?_push_size _ rfl
  refine wpAny_bind (wpAny_holding (wpAny_call_entry PyProof.Rows.slot_list_sort ⟨_, at0, rfl⟩ PyProof.Rows.entry_list_sort (PyProof.Rows.list_sort_treeKAny strKind_oneLt (s := { s1 with heap := s1.heap.push (seqObj "list" acc.toArray 0) }) at0 sa.keysOf (fun v₁ v₂ rest e => keyKind_strs (by rw [← e]; exact sa)) nz2 fun st pm so => ⟨_, rfl, ?_⟩) (PyProof.Rows.args_list_sort _)))
  obtain ⟨ys, d1, d2, d3⟩ := sorted_out_str sa pm so
  obtain ⟨e2, at2⟩ := PyProof.Rows.sortedHeap_at (vs := acc) (out := (arrOf st).map (·.2)) at0
  have ny : (ys.map L2.V.str).length ≤ sizeLine := by rw [List.length_map, d2.length_eq, List.length_map]; exact nz2
  have ob : ObjOk X.prog X.w (upd H s1.heap.objs.size (.lst (ys.map L2.V.str))) (sortedHeap (s1.heap.push (seqObj "list" acc.toArray 0)) s1.heap.objs.size acc ((arrOf st).map (·.2))) s1.heap.objs.size (.lst (ys.map L2.V.str)) := ⟨ny, ((arrOf st).map (·.2)).toList, e2, vals_of_strs d1, by rw [Array.toArray_toList]; exact at2⟩
  refine wpAny_pure ⟨_, rfl, .ref s1.heap.objs.size, upd H s1.heap.objs.size (.lst (ys.map L2.V.str)), J.laid (t' := s1.toks) (fun b o e => ?_) (Nat.le_refl _) ob, rfl, q ys _ (d2.trans pk) d3 (J.hok.fresh (Nat.le_refl _))⟩
  have lt : b < s1.heap.objs.size := Heap.lt_size e
  rw [PyProof.Rows.sortedHeap_old (Nat.ne_of_lt lt) (by rw [size_push']; exact Nat.lt_succ_of_lt lt)]
  exact Heap.get?_push_of_some _ e
def rLenT (w : World) : List L2.V → Hp → VK → Prop := fun vs H Q => ∃ (a : Addr) (M : List Str), vs = [L2.V.ref a] ∧ H a = some (StO w a M) ∧ Q (.int (M.length : Nat)) H
theorem cr_lenT {X : Cx} : CallR X (.builtin "len") (rLenT X.w) := fun pins s σ H vs us Q I r q => by
  obtain ⟨a, M, rfl, ha, q⟩ := q
  obtain ⟨o, es, ep, t, c0, c1, c2, g, pm, nd, z1, z2, z3, z4⟩ := stO_at I.hok ha
  rw [Vals.ref1 r]
  have e : es.size = M.length := by
    have := pm.length_eq
    rwa [List.length_map, Array.length_toList] at this
  have z : es.size < 2 ^ 40 := Nat.lt_of_lt_of_le z1 (by decide)
  refine call_len_set c0 c1 c2 z2 (by omega) ⟨.int M.length, H, (I.tok _).tok _, ⟨_, by rw [e]⟩, q⟩
def setOfR (d : D) (m : MS) (R : List Str → Prop) : Prop := lsR d m fun xs => ∃ ks : List Str, xs = ks.map .str ∧ ks.length ≤ 1000 ∧ ∀ M : List Str, M.Nodup → (∀ k, k ∈ M ↔ k ∈ ks) → R M
def sSortSet : BS := fun ds m P => match ds with
  | [d] => setOfR d m fun M => ∀ ys : List Str, ys.Perm M → sortedS ys = true → NewL (ys.map .str) m P
  | _ => False
def sLenSet : BS := fun ds m P => match ds with
  | [d] => setOfR d m fun M => P (.int (M.length : Nat)) m
  | _ => False
theorem setOfR_q {K : PySem.W.Frag} {w : World} {d : D} {m : MS} {R : List Str → Prop} {v : L2.V} {H F : Hp} {Q : VK} (h : setOfR d m R) (s : Std K m H F) (r : Rp K F v d)
    (q : ∀ p M, R M → H p = none → Q (.ref p) (upd H p (StO w p M))) : rSetT K w [v] H Q := by
  have f : ∀ (a : Addr) (vs : List L2.V) (xs : List D), SqL K H a vs → Rps K F vs xs → (∃ ks : List Str, xs = ks.map .str ∧ ks.length ≤ 1000 ∧ ∀ M : List Str, M.Nodup → (∀ k, k ∈ M ↔ k ∈ ks) → R M) → rSetT K w [.ref a] H Q := by
    rintro a vs xs h1 h2 ⟨ks, rfl, hl, h3⟩
    have e := h2.strs
    subst e
    exact ⟨a, ks, rfl, h1, hl, fun p M nd hm hp => q p M (h3 M nd hm) hp⟩
  cases d with
  | lst xs =>
    cases r with
    | lst h1 h2 => exact f _ _ xs (.inl (.inl (s.at h1))) h2 h
  | fls xs =>
    cases r with
    | fls h1 h2 => exact f _ _ xs (h1.up s.toH).sq h2 h
  | raw v =>
    cases r
    match v, h with
    | .ref p, ⟨xs, hp, h⟩ =>
      obtain ⟨vs, e, rs⟩ := s.cells p _ hp
      exact f p vs xs (.inl (.inl e)) rs h
  | _ => exact h.elim
section
variable {X : Cx} {a : Expr} {ta : T} {pos p1 p2 pos2 : Pos}
theorem se_sortSet (hm : X.mg "sorted" = none) (hm2 : X.mg "set" = none) (ha : SE X a ta) (hc : X.calm = true := by rfl) (hg : Gl X "sorted" := by rfl) (hg2 : Gl X "set" := by rfl) (he : starEach [a] X.env = (false, eval a X.env) :: starEach [] X.env := by rfl)
    (he2 : starEach [.Call (.Name "set" p2) [a] [] pos2] X.env = (false, eval (.Call (.Name "set" p2) [a] [] pos2) X.env) :: starEach [] X.env := by rfl) :
    SE X (.Call (.Name "sorted" p1) [.Call (.Name "set" p2) [a] [] pos2] [] pos) (.bop sSortSet (.cons ta .nil)) := ⟨fun ρ m P Z pp => ⟨fun F0 σ H F S Q V tk q kx => by
  refine wE_of (pe_callB (cr_sortT hc) hg hm (by decide +kernel) (pa_cons (pe_callTy (cr_setT hc) hg2 hm2 (by decide +kernel) pa_w (by decide) (by decide) he rfl) pa_nil he2) (by decide) (by decide) he2 rfl) ?_
  refine ((sa_cons ha sa_nil he).go ρ m _ Z pp).run F0 σ H F S _ V tk (fun vs H1 F1 ds m1 pd g1 r1 => ?_) kx
  match ds, pd, r1 with
  | [d], pd, .cons r1 .nil =>
    refine setOfR_q pd g1.std r1 fun p M hM hp => ⟨p, M, rfl, upd_same, fun ys p' hy hs hp' => ?_⟩
    have j1 := Go.junk (o := StO X.w p M) g1.std hp
    have np : p' ≠ p := fun e => by rw [e, upd_same] at hp'; cases hp'
    exact newL_q (hM ys hy hs) j1.std (Rps.of_strs ys) (fun v H' F' d m' pd g r => q v H' F' d m' pd ((g1.trans j1).trans g) r) p' hp'⟩⟩
theorem se_lenSet (hm : X.mg "len" = none) (hm2 : X.mg "set" = none) (ha : SE X a ta) (hc : X.calm = true := by rfl) (hg : Gl X "len" := by rfl) (hg2 : Gl X "set" := by rfl) (he : starEach [a] X.env = (false, eval a X.env) :: starEach [] X.env := by rfl)
    (he2 : starEach [.Call (.Name "set" p2) [a] [] pos2] X.env = (false, eval (.Call (.Name "set" p2) [a] [] pos2) X.env) :: starEach [] X.env := by rfl) :
    SE X (.Call (.Name "len" p1) [.Call (.Name "set" p2) [a] [] pos2] [] pos) (.bop sLenSet (.cons ta .nil)) := ⟨fun ρ m P Z pp => ⟨fun F0 σ H F S Q V tk q kx => by
  refine wE_of (pe_callB cr_lenT hg hm (by decide +kernel) (pa_cons (pe_callTy (cr_setT hc) hg2 hm2 (by decide +kernel) pa_w (by decide) (by decide) he rfl) pa_nil he2) (by decide) (by decide) he2 rfl) ?_
  refine ((sa_cons ha sa_nil he).go ρ m _ Z pp).run F0 σ H F S _ V tk (fun vs H1 F1 ds m1 pd g1 r1 => ?_) kx
  match ds, pd, r1 with
  | [d], pd, .cons r1 .nil =>
    refine setOfR_q pd g1.std r1 fun p M hM hp => ⟨p, M, rfl, upd_same, ?_⟩
    have j1 := Go.junk (o := StO X.w p M) g1.std hp
    exact q _ _ _ _ _ hM (g1.trans j1) (.int _)⟩⟩
end
end Nu

namespace Nu
open PySem PySem.Spec L2
open PyProof.Rows hiding St
/-! ### list(reversed(x)) of a list -/
abbrev lsO (acc : Array Value) (c : Nat) : Obj := { cls := .type "list", dict := none, data := .seq acc c, slots := #[] }
section
variable {P : Program} {w : World} {A : Around} {s : Shared} {R : Result → Shared → Prop}
theorem ext_rev {it l S : Addr} {items : Array Value} {res : Value} {c0 : Nat} (hh : A.handled = none) (hit : s.heap.IsRevIter it l ((items.size : Int) - 1)) (hl : s.heap.IsList l items) (hne : l ≠ it) (hz : items.size ≤ sizeLine) (n1 : S ≠ it) (n2 : S ≠ l)
    (hS : s.heap.get? S = some (lsO #[] c0))
    (hR : ∀ h' tk acc c, (∀ b o, b ≠ S → b ≠ it → s.heap.get? b = some o → h'.get? b = some o) → h'.get? S = some (lsO acc c) → ItemsOf (fun i v => items[items.size - 1 - i]? = some v) acc items.size → R (.ok (.ret res)) { s with heap := h', toks := tk }) :
    wpAny (model P w) A.in1 (Builtin.List.listExtendWith (.ref S) (.ref it) res)
      (fun fin s' => match fin with | .done f => R (.ok f) s' | .again c' => c'.quiet = true ∧ codeAny (model P w) A c' R s') (fun e s' => R (.error e) s') s := by
  have WW := (Walks.listRev (prog := P) (w := w) (A := A.in1) hh it l hne items).toS
  have hT : s.TypeIs (.ref it) "list_reverseiterator" := Heap.IsRevIter.typeIs hit
  have nf : S ∉ [it, l] := by simp only [List.mem_cons, List.not_mem_nil, or_false, not_or]; exact ⟨n1, n2⟩
  have e1 : Builtin.List.listSameRef (.ref S) (.ref it) = false := by simp [Builtin.List.listSameRef, n1]
  unfold Builtin.List.listExtendWith
  refine wpAny_bind (wpAny_typeOf hT ?_)
  rw [if_neg (by rw [e1]; decide)]
  refine wpAny_bind (wpAny_pyIter_revIter hit (wpAny_bind (wpAny_holding ?_)))
  unfold Builtin.List.listLengthHint
  refine wpAny_bind (wpAny_specialOf hT RT.nolen_lri ?_)
  show wpAny _ A.in1 (specialOf (Value.ref it) (Str.ofString "__length_hint__") >>= _) _ _ _
  refine wpAny_bind (wpAny_specialOf hT RT.hint_lri ?_)
  generalize hid : ("list_reverseiterator.__length_hint__" : String) = id1
  wp_delta
  rw [show splitId id1 = some ("list_reverseiterator", "__length_hint__") from by subst hid; decide +kernel]
  subst hid
  refine wpAny_bind (wpAny_isInstance (b := true) hT (by rw [isSubtype_type]; kernel_rfl) (wpAny_pure ?_))
  rw [if_neg (by decide)]
  have e0 : ((items.size : Nat) : Int) - 1 - ((0 : Nat) : Int) = (items.size : Int) - 1 := by omega
  refine wpAny_pure ⟨plainId_quiet F.plain_extend_loop _, codeAny_extend_loopS WW hz _ nf _ items.size 0 _ _ _ rfl (Nat.zero_le _) ⟨Nat.zero_le _, by rw [e0]; exact hit, hl⟩ hS (ItemsOf.nil _) fun s1 acc c hm hS1 ha => ?_⟩
  rw [Moved.eq_with hm]
  refine hR s1.heap s1.toks acc c (fun b o b1 b2 e => hm.heap b o (fun q => ?_) e) hS1 ha
  rcases List.mem_cons.mp q with q | q
  · exact b1 q
  · exact b2 (List.mem_singleton.mp q)
theorem call_list_rev {it l : Addr} {items : Array Value} {E : Value → Shared → Prop} {Q : Value → Shared → Prop} (hh : A.handled = none) (hit : s.heap.IsRevIter it l ((items.size : Int) - 1)) (hl : s.heap.IsList l items) (hne : l ≠ it) (hz : items.size ≤ sizeLine)
    (q : ∀ h' tk acc c, (∀ b o, b ≠ it → s.heap.get? b = some o → h'.get? b = some o) → h'.get? s.heap.objs.size = some (lsO acc c) → ItemsOf (fun i v => items[items.size - 1 - i]? = some v) acc items.size → Q (.ref s.heap.objs.size) { s with heap := h', toks := tk }) :
    wpAny (model P w) A (call (.type "list") [.ref it]) Q E s := by
  obtain ⟨oi, hoi, _⟩ := id hit
  obtain ⟨ol, hol, _⟩ := id hl
  have n1 : s.heap.objs.size ≠ it := Nat.ne_of_gt (Heap.lt_size hoi)
  have n2 : s.heap.objs.size ≠ l := Nat.ne_of_gt (Heap.lt_size hol)
  refine callType_codes (Q₁ := fun u s1 => u = .ref s.heap.objs.size ∧ s1 = { s with heap := s.heap.push { cls := .type "list", data := .seq #[] } }) F.called_list (F.typeCall_list_1 _) F.entry_list_init (code_list_new _ ⟨rfl, rfl⟩) fun u s1 h1 => ?_
  obtain ⟨rfl, rfl⟩ := h1
  have hS : (s.heap.push { cls := .type "list", data := .seq #[] }).get? s.heap.objs.size = some { cls := .type "list", data := .seq #[] } := Heap.get?_push_size _ rfl
  refine ⟨⟨_, hS, rfl⟩, F.args_list_init_2 _ _, ?_⟩
  show wpAny _ _ (do let old ← Builtin.List.listItems (.ref s.heap.objs.size); Builtin.List.listUpdate (.ref s.heap.objs.size) (fun _ => #[]); letGo old.toList.reverse; Builtin.List.listExtendWith (.ref s.heap.objs.size) (.ref it) .none) _ _ _
  refine wpAny_bind ?_
  unfold Builtin.List.listItems
  refine wpAny_bind (wpAny_seqItems hS rfl (wpAny_pure ?_))
  show wpAny _ _ (updateSeq s.heap.objs.size (fun _ => #[]) >>= fun _ => letGo (#[] : Array Value).toList.reverse >>= fun _ => Builtin.List.listExtendWith (.ref s.heap.objs.size) (.ref it) .none) _ _ _
  refine wpAny_bind (wpAny_updateSeq hS rfl (wpAny_bind (wpAny_letGo ?_)))
  have hS2 := Heap.get?_update_self (Obj.mapSeq (fun _ => (#[] : Array Value))) hS rfl
  have oth : ∀ b o, b ≠ s.heap.objs.size → s.heap.get? b = some o → ((s.heap.push { cls := .type "list", data := .seq #[] }).update s.heap.objs.size (Obj.mapSeq (fun _ => (#[] : Array Value)))).get? b = some o :=
    fun b o nb e => (Heap.get?_update_other _ _ (Ne.symm nb)).trans (Heap.get?_push_of_some _ e)
  refine ext_rev (A := A.in1) (s := { s with heap := (s.heap.push { cls := .type "list", data := .seq #[] }).update s.heap.objs.size (Obj.mapSeq (fun _ => (#[] : Array Value))) }) hh (hit.at fun o e => oth it o n1.symm e) (hl.at fun o e => oth l o n2.symm e) hne hz n1 n2 hS2 fun h' tk acc c k hS3 ha => ?_
  exact ⟨rfl, q h' tk acc c (fun b o nb e => (have nS : b ≠ s.heap.objs.size := Nat.ne_of_lt (Heap.lt_size e); k b o nS nb (oth b o nS e))) hS3 ha⟩
end
def tLstRev (K : PySem.W.Frag) (te : TE) : TE := fun σ H Q => te σ H fun v H1 => ∃ (a : Addr) (xs : List L2.V), v = .ref a ∧ SqL K H1 a xs ∧ ∀ q, H1 q = none → Q (.ref q) (upd H1 q (.lst xs.reverse))
section
variable {X : Cx}
theorem pe_lstRev {e : Expr} {te : TE} {p p2 pos pos2 : Pos} (hc : X.calm = true) (hg : Gl X "list") (hm : X.mg "list" = none) (hg2 : Gl X "reversed") (hm2 : X.mg "reversed" = none) (he : PE X e te)
    (hs : starEach [e] X.env = (false, eval e X.env) :: starEach [] X.env) (hs2 : starEach [.Call (.Name "reversed" p2) [e] [] pos2] X.env = (false, eval (.Call (.Name "reversed" p2) [e] [] pos2) X.env) :: starEach [] X.env) :
    PE X (.Call (.Name "list" p) [.Call (.Name "reversed" p2) [e] [] pos2] [] pos) (tLstRev X.K te) := by
  refine ⟨fun pins s σ H Q I h => ?_⟩
  refine Call_ (ld_blt I hg hm boot_list (PyProof.Rows.callWith_type1 (args_cons (Call_ (ld_blt I hg2 hm2 PyProof.Rows.boot_reversed (PyProof.Rows.callWith_type1 (args_cons (thn (he.run pins s σ H _ I h) fun u s1 ⟨v, H1, I1, r1, q1⟩ => args_nil ?_) hs) hs rfl))) hs2) hs2 rfl))
  obtain ⟨a, xs, rfl, hq, q⟩ := q1
  obtain rfl : u = Value.ref a := r1
  obtain ⟨its, rv, pl, hz⟩ := I1.list hq
  have hl := pl.isList
  refine call_reversed_list hl (args_nil ?_)
  obtain ⟨ol, hol, _⟩ := id hl
  have ne : a ≠ s1.heap.objs.size := Nat.ne_of_lt (Heap.lt_size hol)
  have nz : its.toArray.size ≤ sizeLine := by rw [List.size_toArray, ← rv.length]; exact hz
  have sz : (s1.heap.push (revObj a ((its.toArray.size : Int) - 1))).objs.size = s1.heap.objs.size + 1 := Heap.size_push ..
  refine call_list_rev (s := { s1 with heap := s1.heap.push (revObj a ((its.toArray.size : Int) - 1)) }) (I1.ok.hd hc) ⟨_, Heap.get?_push_size _ rfl, rfl, rfl⟩ (hl.push _) ne nz fun h' tk acc c hk hS hi => ?_
  have kk : ∀ b o, s1.heap.get? b = some o → h'.get? b = some o := fun b o e => hk b o (Nat.ne_of_lt (Heap.lt_size e)) (Heap.get?_push_of_some _ e)
  have le : s1.heap.objs.size ≤ (s1.heap.push (revObj a ((its.toArray.size : Int) - 1))).objs.size := by rw [sz]; exact Nat.le_succ _
  refine ⟨.ref _, upd H1 _ (.lst xs.reverse), I1.laid (t' := tk) kk le (show ObjOk X.prog X.w _ _ _ (.lst xs.reverse) from ⟨by rw [List.length_reverse]; exact hz, acc.toList, c, RT.vals_rev rv hi, ?_⟩), rfl, q _ (I1.hok.fresh le)⟩
  rw [Array.toArray_toList]
  exact hS
def sLstRev : BS := fun ds m P => match ds with
  | [d] => lsR d m fun xs => NewL xs.reverse m P
  | _ => False
theorem se_lstRev {e : Expr} {t : T} {p p2 pos pos2 : Pos} (hm : X.mg "list" = none) (hm2 : X.mg "reversed" = none) (he : SE X e t) (hc : X.calm = true := by rfl) (hg : Gl X "list" := by rfl) (hg2 : Gl X "reversed" := by rfl)
    (hs : starEach [e] X.env = (false, eval e X.env) :: starEach [] X.env := by rfl) (hs2 : starEach [.Call (.Name "reversed" p2) [e] [] pos2] X.env = (false, eval (.Call (.Name "reversed" p2) [e] [] pos2) X.env) :: starEach [] X.env := by rfl) :
    SE X (.Call (.Name "list" p) [.Call (.Name "reversed" p2) [e] [] pos2] [] pos) (.bop sLstRev (.cons t .nil)) := ⟨fun ρ m P Z pp => ⟨fun F0 σ H F S Q V tk q kx => by
  refine wE_of (pe_lstRev hc hg hm hg2 hm2 pe_w hs hs2) ?_
  refine (he.go ρ m _ Z pp).run F0 σ H F S _ V tk (fun v H1 F1 d m1 pd g1 r1 => ?_) kx
  have f : ∀ (a : Addr) (vs : List L2.V) (xs : List D), SqL X.K H1 a vs → Rps X.K F1 vs xs → NewL xs.reverse m1 P → ∃ (a' : Addr) (xs' : List L2.V), L2.V.ref a = .ref a' ∧ SqL X.K H1 a' xs' ∧ ∀ q', H1 q' = none → Q (.ref q') (upd H1 q' (.lst xs'.reverse)) :=
    fun a vs xs h1 h2 h3 => ⟨a, vs, rfl, h1, fun q' hq' => newL_q h3 g1.std h2.reverse (fun v H' F' d m' pd g r => q v H' F' d m' pd (g1.trans g) r) q' hq'⟩
  cases d with
  | lst xs =>
    cases r1 with
    | lst h1 h2 => exact f _ _ xs (.inl (.inl (g1.std.at h1))) h2 pd
  | fls xs =>
    cases r1 with
    | fls h1 h2 => exact f _ _ xs (h1.up g1.std.toH).sq h2 pd
  | raw v =>
    cases r1
    match v, pd with
    | .ref p, ⟨xs, hp, h⟩ =>
      obtain ⟨vs, e, rs⟩ := g1.std.cells p _ hp
      exact f p vs xs (.inl (.inl e)) rs h
  | _ => exact pd.elim⟩⟩
end
end Nu

namespace Nu
open PySem PySem.Spec L2
open PyProof.Rows hiding St
/-! ### list(zip(x, y)) of two tuples: the pairs handed out stay -/
abbrev IsZ (h : Heap) (z TI TO T0 : Addr) (b : Bool) : Prop := h.get? z = some { cls := .type "zip", dict := none, data := .fields #[rawInt T0, .bool b, .bool false, .ref TI, .ref TO], slots := #[] }
abbrev PairAt (h : Heap) (p : Addr) (x y : Value) : Prop := h.get? p = some { cls := .type "tuple", data := .seq #[x, y] }
section
variable {P : Program} {w : World} {A : Around} {E : Value → Shared → Prop} {s : Shared}
theorem wpAny_alive {M : Model} {a : Addr} {Q : Option Obj → Shared → Prop} (h : Q (s.heap.get? a) s) : wpAny M A (loadIfAlive a) Q E s := fun Γ p _ => by
  unfold loadIfAlive
  rw [Sem.wp_loadIfAlive]
  exact h
theorem z_busy {z TI TO T0 : Addr} {b : Bool} {o : Obj} {Q : Bool → Shared → Prop} (hz : IsZ s.heap z TI TO T0 b) (h0 : s.heap.get? T0 = some o) (q : ∀ h1, IsZ h1 z TI TO T0 true → Heap.SameBut z s.heap h1 → Q false { s with heap := h1 }) :
    wpAny (model P w) A (Builtin.SmallTypes.ownedTupleIsFree (.ref z)) Q E s := by
  unfold Builtin.SmallTypes.ownedTupleIsFree
  refine wpAny_bind (wpAny_field hz rfl (x := rawInt T0) rfl ?_)
  show wpAny _ _ (loadIfAlive ((T0 : Int).toNat) >>= _) _ _ _
  refine wpAny_bind (wpAny_alive ?_)
  rw [Int.toNat_natCast, h0]
  simp only [Option.isNone_some, Bool.false_eq_true, if_false]
  refine wpAny_bind (wpAny_field hz rfl (x := .bool b) rfl ?_)
  cases b with
  | true =>
    simp
    exact wpAny_pure (q s.heap hz (Heap.SameBut.refl z s.heap))
  | false =>
    simp
    refine wpAny_bind (wpAny_setField_rec hz (by simp) fun h1 hz1 sb => wpAny_pure (q h1 hz1 sb))
theorem z_item {z TI TO T0 i1 i2 l1 l2 : Addr} {k1 k2 : Nat} {xs ys : Array Value} {x y : Value} {b : Bool} {o : Obj} {Q : Value → Shared → Prop} (D : ZipApart z TI TO i1 i2 l1 l2) (hz : IsZ s.heap z TI TO T0 b) (h0 : s.heap.get? T0 = some o)
    (hTI : PairAt s.heap TI (.ref i1) (.ref i2)) (h1 : s.heap.IsTupleIter i1 l1 k1) (h2 : s.heap.IsTupleIter i2 l2 k2) (hl1 : s.heap.IsTuple l1 xs) (hl2 : s.heap.IsTuple l2 ys) (hx : xs[k1]? = some x) (hy : ys[k2]? = some y)
    (q : ∀ h', IsZ h' z TI TO T0 true → h'.IsTupleIter i1 l1 (k1 + 1) → h'.IsTupleIter i2 l2 (k2 + 1) → PairAt h' s.heap.objs.size x y → h'.objs.size = s.heap.objs.size + 1 →
      (∀ c o, c ≠ z → c ≠ i1 → c ≠ i2 → s.heap.get? c = some o → h'.get? c = some o) → Q (.ref s.heap.objs.size) { s with heap := h' }) :
    wpAny (model P w) A (Builtin.«zip.__next__» ⟨[.ref z], []⟩) (fun fin s' => ∃ v, fin = .done (.ret v) ∧ Q v s') E s := by
  show wpAny _ _ (field (.ref z) 2 >>= _) _ _ _
  refine wpAny_bind (wpAny_field hz rfl (x := .bool false) rfl ?_)
  show wpAny _ _ (field (.ref z) 3 >>= _) _ _ _
  refine wpAny_bind (wpAny_field hz rfl (x := .ref TI) rfl ?_)
  refine wpAny_bind (wpAny_seqItems hTI rfl ?_)
  show wpAny _ _ (Builtin.SmallTypes.ownedTupleIsFree (.ref z) >>= _) _ _ _
  refine wpAny_bind (z_busy hz h0 fun g1 z1 s1 => ?_)
  simp only [Bool.false_eq_true, if_false]
  rw [← Array.forIn_toList]
  simp only [List.forIn_cons, List.forIn_nil]
  refine wpAny_bind (wpAny_bind (wpAny_bind (wpAny_holding ?_)))
  show wpAny _ _ (Builtin.SmallTypes.nextOf (.ref i1) >>= _) _ _ _
  refine wpAny_bind (RZ.nextOf_tuple_item (h1.extBut s1.extBut D.i1z) (hl1.extBut s1.extBut D.l1z) hx fun g2 j1 s2 => wpAny_pure (wpAny_pure ?_))
  refine wpAny_bind (wpAny_bind (wpAny_holding ?_))
  show wpAny _ _ (Builtin.SmallTypes.nextOf (.ref i2) >>= _) _ _ _
  refine wpAny_bind (RZ.nextOf_tuple_item ((h2.extBut s1.extBut D.i2z).extBut s2.extBut D.i12.symm) ((hl2.extBut s1.extBut D.l2z).extBut s2.extBut D.l2i1) hy fun g3 j2 s3 => wpAny_pure (wpAny_pure ?_))
  refine wpAny_pure ?_
  show wpAny _ _ (newTuple [x, y] >>= fun v => PySem.ret v) _ _ _
  refine wpAny_bind (wpAny_newTuple (wpAny_pure ⟨_, rfl, ?_⟩))
  have hsz : g3.objs.size = s.heap.objs.size := by rw [s3.1, s2.1, s1.1]
  have kk : ∀ c o, c ≠ z → c ≠ i1 → c ≠ i2 → s.heap.get? c = some o → g3.get? c = some o := fun c o c1 c2 c3 e => s3.extBut _ _ c3 (s2.extBut _ _ c2 (s1.extBut _ _ c1 e))
  show Q (.ref g3.objs.size) _
  have q1 := q (g3.push { cls := .type "tuple", data := .seq #[x, y] }) (Heap.get?_push_of_some _ (s3.extBut _ _ D.i2z.symm (s2.extBut _ _ D.i1z.symm z1))) ((Heap.IsTupleIter.extBut j1 s3.extBut D.i12).at fun o e => Heap.get?_push_of_some _ e) (Heap.IsTupleIter.at j2 fun o e => Heap.get?_push_of_some _ e) (by rw [← hsz]; exact Heap.get?_push_size _ rfl) (by rw [Heap.size_push, hsz]) fun c o c1 c2 c3 e => Heap.get?_push_of_some _ (kk c o c1 c2 c3 e)
  rw [← hsz] at q1
  exact q1
theorem z_end {z TI TO T0 i1 i2 l1 l2 : Addr} {k1 k2 : Nat} {xs ys : Array Value} {b : Bool} {o : Obj} {Q : Fin → Shared → Prop} (hh : A.handled = none) (D : ZipApart z TI TO i1 i2 l1 l2) (hz : IsZ s.heap z TI TO T0 b) (h0 : s.heap.get? T0 = some o)
    (hTI : PairAt s.heap TI (.ref i1) (.ref i2)) (h1 : s.heap.IsTupleIter i1 l1 k1) (hl1 : s.heap.IsTuple l1 xs) (hx : xs[k1]? = none)
    (hE : ∀ h' e, (∀ c o, c ≠ z → c ≠ i1 → s.heap.get? c = some o → h'.get? c = some o) → (∃ o, h'.get? e = some o ∧ o.cls = .type "StopIteration") → E (.ref e) { s with heap := h' }) :
    wpAny (model P w) A (Builtin.«zip.__next__» ⟨[.ref z], []⟩) Q E s := by
  show wpAny _ _ (field (.ref z) 2 >>= _) _ _ _
  refine wpAny_bind (wpAny_field hz rfl (x := .bool false) rfl ?_)
  show wpAny _ _ (field (.ref z) 3 >>= _) _ _ _
  refine wpAny_bind (wpAny_field hz rfl (x := .ref TI) rfl ?_)
  refine wpAny_bind (wpAny_seqItems hTI rfl ?_)
  show wpAny _ _ (Builtin.SmallTypes.ownedTupleIsFree (.ref z) >>= _) _ _ _
  refine wpAny_bind (z_busy hz h0 fun g1 z1 s1 => ?_)
  simp only [Bool.false_eq_true, if_false]
  rw [← Array.forIn_toList]
  simp only [List.forIn_cons, List.forIn_nil]
  refine wpAny_bind (wpAny_bind (wpAny_bind (wpAny_holding ?_)))
  show wpAny _ _ (Builtin.SmallTypes.nextOf (.ref i1) >>= _) _ _ _
  refine wpAny_bind (RZ.nextOf_tuple_end hh (h1.extBut s1.extBut D.i1z) (hl1.extBut s1.extBut D.l1z) hx fun g2 e s2 he => ?_)
  exact hE g2 e (fun c o c1 c2 x => s2 _ _ c2 (s1.extBut _ _ c1 x)) he
theorem zn_item {z TI TO T0 i1 i2 l1 l2 : Addr} {k1 k2 : Nat} {xs ys : Array Value} {x y : Value} {b : Bool} {o : Obj} {Q : Option Value → Shared → Prop} (D : ZipApart z TI TO i1 i2 l1 l2) (hz : IsZ s.heap z TI TO T0 b) (h0 : s.heap.get? T0 = some o)
    (hTI : PairAt s.heap TI (.ref i1) (.ref i2)) (h1 : s.heap.IsTupleIter i1 l1 k1) (h2 : s.heap.IsTupleIter i2 l2 k2) (hl1 : s.heap.IsTuple l1 xs) (hl2 : s.heap.IsTuple l2 ys) (hx : xs[k1]? = some x) (hy : ys[k2]? = some y)
    (q : ∀ h', IsZ h' z TI TO T0 true → h'.IsTupleIter i1 l1 (k1 + 1) → h'.IsTupleIter i2 l2 (k2 + 1) → PairAt h' s.heap.objs.size x y → h'.objs.size = s.heap.objs.size + 1 →
      (∀ c o, c ≠ z → c ≠ i1 → c ≠ i2 → s.heap.get? c = some o → h'.get? c = some o) → Q (some (.ref s.heap.objs.size)) { s with heap := h' }) :
    wpAny (model P w) A (pyNext (.ref z)) Q E s := by
  have hT : s.TypeIs (.ref z) "zip" := ⟨_, hz, rfl⟩
  unfold pyNext
  exact wpAny_bind (wpAny_attempt (wpAny_callSpecial?_slot (name := Str.ofString "__next__") hT F.slot_zip_next (wpAny_call_entry F.slot_zip_next hT F.entry_zip_next
      (z_item D hz h0 hTI h1 h2 hl1 hl2 hx hy fun h' a1 a2 a3 a4 a5 a6 => wpAny_pure (q h' a1 a2 a3 a4 a5 a6)) (F.args_zip_next_1 _))))
theorem zn_end {z TI TO T0 i1 i2 l1 l2 : Addr} {k1 k2 : Nat} {xs ys : Array Value} {b : Bool} {o : Obj} {Q : Option Value → Shared → Prop} (hh : A.handled = none) (D : ZipApart z TI TO i1 i2 l1 l2) (hz : IsZ s.heap z TI TO T0 b) (h0 : s.heap.get? T0 = some o)
    (hTI : PairAt s.heap TI (.ref i1) (.ref i2)) (h1 : s.heap.IsTupleIter i1 l1 k1) (hl1 : s.heap.IsTuple l1 xs) (hx : xs[k1]? = none)
    (q : ∀ h', (∀ c o, c ≠ z → c ≠ i1 → s.heap.get? c = some o → h'.get? c = some o) → Q none { s with heap := h' }) : wpAny (model P w) A (pyNext (.ref z)) Q E s := by
  have hT : s.TypeIs (.ref z) "zip" := ⟨_, hz, rfl⟩
  unfold pyNext
  refine wpAny_bind (wpAny_attempt (wpAny_callSpecial?_slot (name := Str.ofString "__next__") hT F.slot_zip_next
    (wpAny_call_entry F.slot_zip_next hT F.entry_zip_next (z_end (k2 := k2) (ys := ys) hh D hz h0 hTI h1 hl1 hx fun h' e hk he => ?_) (F.args_zip_next_1 _))))
  obtain ⟨oe, ho, hc⟩ := he
  exact wpAny_bind (wpAny_isInstance (T := "StopIteration") (b := true) ⟨oe, ho, hc⟩ isSubtype_stop (wpAny_pure (q _ hk)))
end

/-! ### the list's own loop over it -/
def layP : Hp → List (Addr × L2.V × L2.V) → Hp
  | H, [] => H
  | H, (t, x, y) :: r => layP (upd H t (.tup [x, y])) r
def NewP : Hp → List (Addr × L2.V × L2.V) → Prop
  | _, [] => True
  | H, (t, x, y) :: r => H t = none ∧ NewP (upd H t (.tup [x, y])) r
theorem layP_snoc : ∀ (l : List (Addr × L2.V × L2.V)) (H : Hp) (t : Addr) (x y : L2.V), layP H (l ++ [(t, x, y)]) = upd (layP H l) t (.tup [x, y])
  | [], _, _, _, _ => rfl
  | (_, _, _) :: l, H, t, x, y => layP_snoc l _ t x y
theorem newP_snoc : ∀ (l : List (Addr × L2.V × L2.V)) (H : Hp) (t : Addr) (x y : L2.V), NewP H l → layP H l t = none → NewP H (l ++ [(t, x, y)])
  | [], _, _, _, _, _, h => ⟨h, trivial⟩
  | (_, _, _) :: l, H, t, x, y, h, k => ⟨h.1, newP_snoc l _ t x y h.2 k⟩
theorem layP_up : ∀ (l : List (Addr × L2.V × L2.V)) (H : Hp), NewP H l → Same H (layP H l)
  | [], H, _ => Same.refl _
  | (t, x, y) :: l, H, h => Same.trans (fun a u e => by rw [upd_ne (ne_of_none e h.1)]; exact e) (layP_up l _ h.2)
structure ZSt (h : Heap) (z TI TO i1 i2 a b : Addr) (i : Nat) : Prop where
  ti : PairAt h TI (.ref i1) (.ref i2)
  j1 : h.IsTupleIter i1 a i
  j2 : h.IsTupleIter i2 b i
  st : ((∃ u v, PairAt h TO u v) ∧ h.get? z = some { cls := .type "zip", dict := none, data := .fields #[.none, .bool false, .bool false, .ref TI, .ref TO], slots := #[] }) ∨ ∃ T0 bb o, IsZ h z TI TO T0 bb ∧ h.get? T0 = some o ∧ T0 ≠ z ∧ T0 ≠ i1 ∧ T0 ≠ i2
section
variable {X : Cx} {pins : List (Addr × Obj)} {σ : L2.St}
theorem zip_next {A0 : Around} {E : Value → Shared → Prop} {s : Shared} {z TI TO i1 i2 a b : Addr} {i : Nat} {xs ys : Array Value} {x y : Value} {Q : Option Value → Shared → Prop} (D : ZipApart z TI TO i1 i2 a b) (Z : ZSt s.heap z TI TO i1 i2 a b i) (hl1 : s.heap.IsTuple a xs) (hl2 : s.heap.IsTuple b ys) (hx : xs[i]? = some x) (hy : ys[i]? = some y)
    (q : ∀ h', ZSt h' z TI TO i1 i2 a b (i + 1) → PairAt h' s.heap.objs.size x y → (∀ c o, c ≠ z → c ≠ TO → c ≠ i1 → c ≠ i2 → s.heap.get? c = some o → h'.get? c = some o) → Q (some (.ref s.heap.objs.size)) { s with heap := h' }) :
    wpAny (model X.prog X.w) A0 (pyNext (.ref z)) Q E s := by
  have lt : ∀ {c : Addr} {o : Obj}, s.heap.get? c = some o → c < s.heap.objs.size := fun e => Heap.lt_size e
  have lz : z < s.heap.objs.size := by
    rcases Z.st with ⟨_, e⟩ | ⟨_, _, _, e, _⟩
    · exact lt e
    · exact lt e
  have l1 : i1 < s.heap.objs.size := by obtain ⟨o, e, _⟩ := Z.j1; exact lt e
  have l2 : i2 < s.heap.objs.size := by obtain ⟨o, e, _⟩ := Z.j2; exact lt e
  rcases Z.st with ⟨⟨u, v, hTO⟩, hz⟩ | ⟨T0, bb, o, hz, h0, n1, n2, n3⟩
  · refine RZ.pyNext_zipT_item D hz Z.ti hTO Z.j1 Z.j2 hl1 hl2 hx hy fun h' c1 c2 c3 c4 c5 c6 c7 => ?_
    exact q h' ⟨c7 _ _ D.TIz D.TITO D.TIi1 D.TIi2 Z.ti, c3, c4, .inr ⟨_, _, _, c1, c5, Nat.ne_of_gt lz, Nat.ne_of_gt l1, Nat.ne_of_gt l2⟩⟩ c5 c7
  · refine zn_item D hz h0 Z.ti Z.j1 Z.j2 hl1 hl2 hx hy fun h' c1 c3 c4 c5 c6 c7 => ?_
    exact q h' ⟨c7 _ _ D.TIz D.TIi1 D.TIi2 Z.ti, c3, c4, .inr ⟨T0, true, o, c1, c7 _ _ n1 n2 n3 h0, n1, n2, n3⟩⟩ c5 fun c o k1 _ k3 k4 e => c7 c o k1 k3 k4 e
theorem zip_done {A0 : Around} {E : Value → Shared → Prop} {s : Shared} {z TI TO i1 i2 a b : Addr} {i : Nat} {xs ys : Array Value} {Q : Option Value → Shared → Prop} (hh : A0.handled = none) (D : ZipApart z TI TO i1 i2 a b) (Z : ZSt s.heap z TI TO i1 i2 a b i) (hl1 : s.heap.IsTuple a xs) (hl2 : s.heap.IsTuple b ys) (hx : xs[i]? = none)
    (q : ∀ h', (∀ c o, c ≠ z → c ≠ TO → c ≠ i1 → c ≠ i2 → s.heap.get? c = some o → h'.get? c = some o) → Q none { s with heap := h' }) : wpAny (model X.prog X.w) A0 (pyNext (.ref z)) Q E s := by
  rcases Z.st with ⟨⟨u, v, hTO⟩, hz⟩ | ⟨T0, bb, o, hz, h0, n1, n2, n3⟩
  · exact RZ.pyNext_zipT_end hh D hz Z.ti hTO Z.j1 Z.j2 hl1 hl2 (.inl hx) fun h' k => q h' k
  · exact zn_end (k2 := i) (ys := ys) hh D hz h0 Z.ti Z.j1 hl1 hx fun h' k => q h' fun c o k1 _ k3 _ e => k c o k1 k3 e
end
end Nu

namespace Nu
open PySem PySem.Spec L2
open PyProof.Rows hiding St
theorem nolen_zip : typeLookup (.type "zip") "__len__" = pure none := by rw [typeLookup_type, builtinLookup_eq_fast]; kernel_rfl
theorem nohint_zip : typeLookup (.type "zip") "__length_hint__" = pure none := by rw [typeLookup_type, builtinLookup_eq_fast]; kernel_rfl
theorem FpOk.ne {X : Cx} {pins : List (Addr × Obj)} {H : Hp} {b T : Addr} {o : HO} (f : FpOk X pins H b) (h : b ≠ T) : FpOk X pins (upd H T o) b := ⟨by rw [upd_ne h]; exact f.1, f.2⟩
section
variable {X : Cx} {pins : List (Addr × Obj)} {σ : L2.St} {R : Result → Shared → Prop}
theorem zip_loop {A0 : Around} (hh : A0.handled = none) {z TI TO i1 i2 a b S : Addr} (D : ZipApart z TI TO i1 i2 a b) {xs ys : List L2.V} (hxy : xs.length ≤ ys.length) (hsm : xs.length ≤ 100000) {H1 : Hp} (q1 : SqT X.K H1 a xs) (q2 : SqT X.K H1 b ys) (nS : S ≠ z ∧ S ≠ TI ∧ S ≠ TO ∧ S ≠ i1 ∧ S ≠ i2) {res : Value} :
    ∀ (k i : Nat) (s : Shared) (acc : Array Value) (c : Nat) (l : List (Addr × L2.V × L2.V)), xs.length - i = k → i ≤ xs.length → Inv X pins σ (layP H1 l) s → NewP H1 l → (l.map fun e => (e.2.1, e.2.2)) = (xs.zip ys).take i → ZSt s.heap z TI TO i1 i2 a b i → s.heap.get? S = some (lsO acc c) →
      acc.toList = l.map (fun e => Value.ref e.1) → (∀ q ∈ [z, TO, i1, i2, S], FpOk X pins (layP H1 l) q ∧ q < s.heap.objs.size) → (S < s.heap.objs.size) →
      (∀ s' acc' c' l', Inv X pins σ (layP H1 l') s' → NewP H1 l' → (l'.map fun e => (e.2.1, e.2.2)) = xs.zip ys → s'.heap.get? S = some (lsO acc' c') → acc'.toList = l'.map (fun e => Value.ref e.1) → FpOk X pins (layP H1 l') S → (∃ h tk, s' = { s with heap := h, toks := tk }) → R (.ok (.ret res)) s') →
      codeAny (model X.prog X.w) A0 (.builtin "list.extend.loop" ⟨[.ref S, .ref z, res], []⟩) R s := by
  intro k
  induction k with
  | zero =>
    intro i s acc c l hk hi I hN hl Z hS ha hf hlt hR
    obtain rfl : i = xs.length := by omega
    have up := layP_up l H1 hN
    obtain ⟨its, rv, p1, _⟩ := I.tuple (Same.seqT up q1)
    obtain ⟨its2, rv2, p2, _⟩ := I.tuple (Same.seqT up q2)
    refine codeAny_builtin F.entry_extend_loop ?_
    rw [Around.under_plainId F.plain_extend_loop _]
    show wpAny _ A0.in1 (pyNext (.ref z) >>= _) _ _ s
    refine wpAny_bind (zip_done (A0 := A0.in1) hh D Z p1 p2 (by have := rv.length; simp; omega) fun h' hkk => ?_)
    have fS := (hf S (by simp)).1
    refine wpAny_pure (hR { s with heap := h' } acc c l ?_ hN (by rw [hl, List.take_of_length_le (by rw [List.length_zip]; omega)]) (hkk _ _ nS.1 nS.2.2.1 nS.2.2.2.1 nS.2.2.2.2 hS) ha fS ⟨h', s.toks, rfl⟩)
    exact I.turnedL (t' := s.toks) (ch := [z, TO, i1, i2, S]) (fun e o hb q => hkk e o (fun q' => hb (by simp [q'])) (fun q' => hb (by simp [q'])) (fun q' => hb (by simp [q'])) (fun q' => hb (by simp [q'])) q) fun q hq => (hf q hq).1
  | succ k ih =>
    intro i s acc c l hk hi I hN hl Z hS ha hf hlt hR
    have lt : i < xs.length := by omega
    have up := layP_up l H1 hN
    have sx := Same.seqT (a := a) up q1
    have sy := Same.seqT (a := b) up q2
    obtain ⟨its, rv, p1, _⟩ := I.tuple sx
    obtain ⟨its2, rv2, p2, _⟩ := I.tuple sy
    obtain ⟨u, hu, ru⟩ := rv.get (List.getElem?_eq_getElem lt)
    obtain ⟨u2, hu2, ru2⟩ := rv2.get (List.getElem?_eq_getElem (show i < ys.length by omega))
    have nl : l.length = i := by
      have e := congrArg List.length hl
      rw [List.length_map, List.length_take, List.length_zip] at e
      omega
    have nacc : acc.size = i := by rw [← Array.length_toList, ha, List.length_map, nl]
    refine codeAny_builtin F.entry_extend_loop ?_
    rw [Around.under_plainId F.plain_extend_loop _]
    show wpAny _ A0.in1 (pyNext (.ref z) >>= _) _ _ s
    refine wpAny_bind (zip_next D Z p1 p2 (x := u) (y := u2) (by simpa using hu) (by simpa using hu2) fun h' Z' hT hkk => ?_)
    have fz : ∀ q ∈ [z, TO, i1, i2, S], q < s.heap.objs.size := fun q hq => (hf q hq).2
    have ntS : s.heap.objs.size ≠ S := Nat.ne_of_gt hlt
    have hS' := hkk _ _ nS.1 nS.2.2.1 nS.2.2.2.1 nS.2.2.2.2 hS
    have hSu := Heap.get?_update_self (Obj.mapSeq (·.push (.ref s.heap.objs.size))) hS' rfl
    have oth : ∀ e o, e ≠ S → h'.get? e = some o → (h'.update S (Obj.mapSeq (·.push (.ref s.heap.objs.size)))).get? e = some o := fun e o ne q => (Heap.get?_update_other _ _ (Ne.symm ne)).trans q
    have fr : layP H1 l s.heap.objs.size = none := I.hok.fresh (Nat.le_refl _)
    have new : ObjOk X.prog X.w (upd (layP H1 l) s.heap.objs.size (.tup [xs[i], ys[i]'(by omega)])) (h'.update S (Obj.mapSeq (·.push (.ref s.heap.objs.size)))) s.heap.objs.size (.tup [xs[i], ys[i]'(by omega)]) :=
      ⟨by show 2 ≤ sizeLine; decide, [u, u2], .cons ru (.cons ru2 .nil), ⟨_, oth _ _ ntS hT, rfl, _, rfl⟩⟩
    have J : Inv X pins σ (upd (layP H1 l) s.heap.objs.size (.tup [xs[i], ys[i]'(by omega)])) { s with heap := h'.update S (Obj.mapSeq (·.push (.ref s.heap.objs.size))), toks := s.toks } :=
      I.turnedNew (t' := s.toks) (ch := [z, TO, i1, i2, S]) (fun e o hb q => oth e o (fun q' => hb (by simp [q'])) (hkk e o (fun q' => hb (by simp [q'])) (fun q' => hb (by simp [q'])) (fun q' => hb (by simp [q'])) (fun q' => hb (by simp [q'])) q)) (fun q hq => (hf q hq).1) (Nat.le_refl _) new
    have eL : layP H1 (l ++ [(s.heap.objs.size, xs[i], ys[i]'(by omega))]) = upd (layP H1 l) s.heap.objs.size (.tup [xs[i], ys[i]'(by omega)]) := layP_snoc _ _ _ _ _
    show wpAny _ A0.in1 (updateSeq S (·.push (.ref s.heap.objs.size)) >>= _) _ _ _
    have gsz : s.heap.objs.size < (h'.update S (Obj.mapSeq (·.push (.ref s.heap.objs.size)))).objs.size := Heap.lt_size (oth _ _ ntS hT)
    refine wpAny_bind (wpAny_updateSeq hS' rfl (wpAny_pure ⟨plainId_quiet F.plain_extend_loop _, ih (i + 1) _ (acc.push (.ref s.heap.objs.size)) _ (l ++ [(s.heap.objs.size, xs[i], ys[i]'(by omega))]) (by omega) lt (by rw [eL]; exact J) (newP_snoc _ _ _ _ _ hN fr) ?_ ?_ hSu ?_ ?_ ?_ fun s' acc' c' l' a1 a2 a3 a4 a5 a6 a7 => ?_⟩) ?_ ?_)
    · rw [List.map_append, hl, List.take_add_one, List.getElem?_eq_getElem (by rw [List.length_zip]; omega)]
      simp
    · exact ⟨oth _ _ (Ne.symm nS.2.1) Z'.ti, Z'.j1.at fun o e => oth _ _ (Ne.symm nS.2.2.2.1) e, Z'.j2.at fun o e => oth _ _ (Ne.symm nS.2.2.2.2) e, by
        rcases Z'.st with ⟨⟨v1, v2, e1⟩, e2⟩ | ⟨T0, bb, o, e1, e2, n1, n2, n3⟩
        · exact .inl ⟨⟨v1, v2, oth _ _ (Ne.symm nS.2.2.1) e1⟩, oth _ _ (Ne.symm nS.1) e2⟩
        · by_cases hTS : T0 = S
          · subst hTS
            exact .inr ⟨T0, bb, _, oth _ _ (Ne.symm nS.1) e1, hSu, n1, n2, n3⟩
          · exact .inr ⟨T0, bb, o, oth _ _ (Ne.symm nS.1) e1, oth _ _ hTS e2, n1, n2, n3⟩⟩
    · rw [Array.toList_push, ha, List.map_append]; rfl
    · intro q hq
      rw [eL]
      have := fz q hq
      exact ⟨FpOk.ne (hf q hq).1 (Nat.ne_of_lt this), Nat.lt_trans this gsz⟩
    · exact Nat.lt_trans hlt gsz
    · obtain ⟨g, tk, e⟩ := a7
      exact hR s' acc' c' l' a1 a2 a3 a4 a5 a6 ⟨g, tk, e⟩
    · rw [nacc, sizeLine_eq]; omega
    · show (acc.push _).size ≤ sizeLine + 1
      rw [Array.size_push, nacc, sizeLine_eq]; omega
theorem list_of_zip {s : Shared} {H1 : Hp} {z TI TO i1 i2 a b : Addr} {xs ys : List L2.V} {Q : VK} (I : Inv X pins σ H1 s) (hh : X.A.handled = none) (D : ZipApart z TI TO i1 i2 a b) (Z : ZSt s.heap z TI TO i1 i2 a b 0) (hz : IsZip s.heap z TI TO .none) (q1 : SqT X.K H1 a xs) (q2 : SqT X.K H1 b ys)
    (hxy : xs.length ≤ ys.length) (hsm : xs.length ≤ 100000) (hf : ∀ q ∈ [z, TI, TO, i1, i2], FpOk X pins H1 q ∧ q < s.heap.objs.size)
    (hQ : ∀ (l : List (Addr × L2.V × L2.V)) (S : Addr), NewP H1 l → (l.map fun e => (e.2.1, e.2.2)) = xs.zip ys → layP H1 l S = none → Q (.ref S) (upd (layP H1 l) S (.lst (l.map fun e => L2.V.ref e.1)))) :
    wpAny (model X.prog X.w) X.A (call (.type "list") [.ref z]) (EP X pins σ Q) X.xe s := by
  have nz : ∀ q ∈ [z, TI, TO, i1, i2], s.heap.objs.size ≠ q := fun q hq => Nat.ne_of_gt (hf q hq).2
  refine callType_codes (Q₁ := fun u s1 => u = .ref s.heap.objs.size ∧ s1 = { s with heap := s.heap.push { cls := .type "list", data := .seq #[] } }) F.called_list (F.typeCall_list_1 _) F.entry_list_init (code_list_new _ ⟨rfl, rfl⟩) fun u s1 h1 => ?_
  obtain ⟨rfl, rfl⟩ := h1
  have hS : (s.heap.push { cls := .type "list", data := .seq #[] }).get? s.heap.objs.size = some { cls := .type "list", data := .seq #[] } := Heap.get?_push_size _ rfl
  refine ⟨⟨_, hS, rfl⟩, F.args_list_init_2 _ _, ?_⟩
  show wpAny _ _ (do let old ← Builtin.List.listItems (.ref s.heap.objs.size); Builtin.List.listUpdate (.ref s.heap.objs.size) (fun _ => #[]); letGo old.toList.reverse; Builtin.List.listExtendWith (.ref s.heap.objs.size) (.ref z) .none) _ _ _
  refine wpAny_bind ?_
  unfold Builtin.List.listItems
  refine wpAny_bind (wpAny_seqItems hS rfl (wpAny_pure ?_))
  show wpAny _ _ (updateSeq s.heap.objs.size (fun _ => #[]) >>= fun _ => letGo (#[] : Array Value).toList.reverse >>= fun _ => Builtin.List.listExtendWith (.ref s.heap.objs.size) (.ref z) .none) _ _ _
  refine wpAny_bind (wpAny_updateSeq hS rfl (wpAny_bind (wpAny_letGo ?_)))
  have hS2 := Heap.get?_update_self (Obj.mapSeq (fun _ => (#[] : Array Value))) hS rfl
  have oth : ∀ b o, b ≠ s.heap.objs.size → s.heap.get? b = some o → ((s.heap.push { cls := .type "list", data := .seq #[] }).update s.heap.objs.size (Obj.mapSeq (fun _ => (#[] : Array Value)))).get? b = some o :=
    fun b o nb e => (Heap.get?_update_other _ _ (Ne.symm nb)).trans (Heap.get?_push_of_some _ e)
  generalize (s.heap.push { cls := .type "list", data := .seq #[] }).update s.heap.objs.size (Obj.mapSeq (fun _ => (#[] : Array Value))) = g at hS2 oth ⊢
  have hzg := oth z _ (nz z (by simp)).symm hz
  have hT : ({ s with heap := g } : Shared).TypeIs (.ref z) "zip" := ⟨_, hzg, rfl⟩
  have e1 : Builtin.List.listSameRef (.ref s.heap.objs.size) (.ref z) = false := by simp [Builtin.List.listSameRef, nz z (by simp)]
  unfold Builtin.List.listExtendWith
  refine wpAny_bind (wpAny_typeOf hT ?_)
  rw [if_neg (by rw [e1]; decide)]
  refine wpAny_bind (wpAny_pyIter_zip (s := { s with heap := g }) hzg (wpAny_bind (wpAny_holding ?_)))
  unfold Builtin.List.listLengthHint
  refine wpAny_bind (wpAny_specialOf hT nolen_zip ?_)
  show wpAny _ _ (specialOf (Value.ref z) (Str.ofString "__length_hint__") >>= _) _ _ _
  refine wpAny_bind (wpAny_specialOf hT nohint_zip (wpAny_pure ?_))
  show wpAny _ _ (rule "list.extend.makes-room" >>= fun _ => Builtin.List.listTouch (.ref s.heap.objs.size) >>= fun _ => again (.builtin "list.extend.loop" ⟨[.ref s.heap.objs.size, .ref z, .none], []⟩)) _ _ _
  refine wpAny_bind (wpAny_rule (wpAny_bind ?_))
  show wpAny _ _ (updateSeq s.heap.objs.size (·.push .none) >>= fun _ => updateSeq s.heap.objs.size (·.pop)) _ _ _
  refine wpAny_bind (wpAny_updateSeq hS2 rfl ?_)
  have hS3 := Heap.get?_update_self (Obj.mapSeq (·.push Value.none)) hS2 rfl
  refine wpAny_updateSeq hS3 rfl ?_
  have hS4 := Heap.get?_update_self (Obj.mapSeq (·.pop)) hS3 rfl
  have oth2 : ∀ b o, b ≠ s.heap.objs.size → s.heap.get? b = some o → ((g.update s.heap.objs.size (Obj.mapSeq (·.push Value.none))).update s.heap.objs.size (Obj.mapSeq (·.pop))).get? b = some o :=
    fun b o nb e => (Heap.get?_update_other _ _ (Ne.symm nb)).trans ((Heap.get?_update_other _ _ (Ne.symm nb)).trans (oth b o nb e))
  generalize (g.update s.heap.objs.size (Obj.mapSeq (·.push Value.none))).update s.heap.objs.size (Obj.mapSeq (·.pop)) = g2 at hS4 oth2 ⊢
  have kept : ∀ b o, s.heap.get? b = some o → g2.get? b = some o := fun b o e => oth2 b o (Nat.ne_of_lt (Heap.lt_size e)) e
  have I2 : Inv X pins σ H1 { s with heap := g2, toks := s.toks } := I.kept (t' := s.toks) kept
  have gt : s.heap.objs.size < g2.objs.size := Heap.lt_size hS4
  have fS : FpOk X pins H1 s.heap.objs.size := I.fpOk (Nat.le_refl _) (I.hok.fresh (Nat.le_refl _))
  refine wpAny_pure ⟨plainId_quiet F.plain_extend_loop _, zip_loop (A0 := X.A.in1) hh D hxy hsm q1 q2 ⟨nz z (by simp), nz TI (by simp), nz TO (by simp), nz i1 (by simp), nz i2 (by simp)⟩ xs.length 0 { s with heap := g2 } #[] _ [] (by omega) (Nat.zero_le _) I2 trivial (by simp) ?_ hS4 rfl ?_ gt fun s' acc c l a1 a2 a3 a4 a5 a6 a7 => ?_⟩
  · exact ⟨oth2 _ _ (nz TI (by simp)).symm Z.ti, Z.j1.at fun o e => kept _ _ e, Z.j2.at fun o e => kept _ _ e, by
      rcases Z.st with ⟨⟨v1, v2, e1⟩, e2⟩ | ⟨T0, bb, o, e1, e2, n1, n2, n3⟩
      · exact .inl ⟨⟨v1, v2, kept _ _ e1⟩, kept _ _ e2⟩
      · exact .inr ⟨T0, bb, o, kept _ _ e1, kept _ _ e2, n1, n2, n3⟩⟩
  · intro q hq
    by_cases e : q = s.heap.objs.size
    · rw [e]; exact ⟨fS, gt⟩
    · have hq' : q ∈ [z, TI, TO, i1, i2] := by simp only [List.mem_cons, List.not_mem_nil, or_false] at hq ⊢; rcases hq with h | h | h | h | h <;> simp_all
      exact ⟨(hf q hq').1, Nat.lt_trans (hf q hq').2 gt⟩
  · refine ⟨rfl, .ref s.heap.objs.size, upd (layP H1 l) s.heap.objs.size (.lst (l.map fun e => L2.V.ref e.1)), ?_, rfl, hQ l _ a2 a3 a6.1⟩
    have hv : ∀ l : List (Addr × L2.V × L2.V), Vals (l.map fun e => L2.V.ref e.1) (l.map fun e => Value.ref e.1) := fun l => by
      induction l with
      | nil => exact .nil
      | cons e l ih => exact .cons rfl ih
    have nl : l.length ≤ 100000 := by
      have e := congrArg List.length a3
      rw [List.length_map, List.length_zip] at e
      omega
    exact Inv.take (t' := s'.toks) a1 (fun b ob _ e => e) a6 ⟨by rw [List.length_map, sizeLine_eq]; omega, acc.toList, c, by rw [a5]; exact hv l, by rw [Array.toArray_toList]; exact a4⟩
end
def tLstZip (K : PySem.W.Frag) (ta : TA) : TE := fun σ H Q => ta σ H fun vs H1 => ∃ a b xs ys, vs = [L2.V.ref a, L2.V.ref b] ∧ SqT K H1 a xs ∧ SqT K H1 b ys ∧ (xs.length ≤ ys.length ∧ xs.length ≤ 100000) ∧
  ∀ (l : List (Addr × L2.V × L2.V)) (S : Addr), NewP H1 l → (l.map fun e => (e.2.1, e.2.2)) = xs.zip ys → layP H1 l S = none → Q (.ref S) (upd (layP H1 l) S (.lst (l.map fun e => L2.V.ref e.1)))
section
variable {X : Cx}
theorem pe_lstZip {e e2 : Expr} {ta : TA} {p p2 pos pos2 : Pos} (hc : X.calm = true) (hg : Gl X "list") (hm : X.mg "list" = none) (hg2 : Gl X "zip") (hm2 : X.mg "zip" = none) (ha : PA X [e, e2] ta)
    (hs : starEach [e, e2] X.env = (false, eval e X.env) :: starEach [e2] X.env) (hpl : (backTo pos2 (starEach [e2] X.env)).any (·.1) = false)
    (hs2 : starEach [.Call (.Name "zip" p2) [e, e2] [] pos2] X.env = (false, eval (.Call (.Name "zip" p2) [e, e2] [] pos2) X.env) :: starEach [] X.env) :
    PE X (.Call (.Name "list" p) [.Call (.Name "zip" p2) [e, e2] [] pos2] [] pos) (tLstZip X.K ta) := by
  refine ⟨fun pins s σ H Q I h => ?_⟩
  refine Call_ (ld_blt I hg hm boot_list (PyProof.Rows.callWith_type1 (args_cons (Call_ (ld_blt I hg2 hm2 PyProof.Rows.boot_zip (PyProof.Rows.callWith_type1 (thn (ha.run pos2 pins s σ H _ I h) fun us s1 ⟨vs, H1, I1, r1, q1⟩ => ?_) hs hpl))) hs2) hs2 rfl))
  obtain ⟨a, b, xs, ys, rfl, hqx, hqy, ⟨hl, hsm⟩, q⟩ := q1
  cases r1 with
  | cons r rr =>
    cases rr with
    | cons r' rr =>
      cases rr
      cases r
      cases r'
      obtain ⟨its, rv, p1, _⟩ := I1.tuple hqx
      obtain ⟨its2, rv2, p2, _⟩ := I1.tuple hqy
      obtain ⟨o1, ho1, _⟩ := id p1
      obtain ⟨o2, ho2, _⟩ := id p2
      refine RZ.call_zipT (show s1.heap.IsTuple a its.toArray from p1) (show s1.heap.IsTuple b its2.toArray from p2) fun h' hz hTI hTO h1 h2 hsz hk => args_nil ?_
      have I2 : Inv X pins σ H1 { s1 with heap := h' } := I1.kept (t' := s1.toks) hk
      have le : ∀ q ∈ [s1.heap.objs.size + 4, s1.heap.objs.size + 2, s1.heap.objs.size + 3, s1.heap.objs.size, s1.heap.objs.size + 1], s1.heap.objs.size ≤ q ∧ q < s1.heap.objs.size + 5 := fun q hq => by
        simp only [List.mem_cons, List.not_mem_nil, or_false] at hq
        omega
      refine list_of_zip I2 (I1.ok.hd hc) (PySem.W.ktu_apart s1.heap.objs.size a b (Heap.lt_size ho1) (Heap.lt_size ho2)) ⟨hTI, h1, h2, .inl ⟨⟨_, _, hTO⟩, hz⟩⟩ hz hqx hqy hl hsm (fun q hq => ⟨I1.fpOk (le q hq).1 (I1.hok.fresh (le q hq).1), by show q < h'.objs.size; rw [hsz]; exact (le q hq).2⟩) q
def sLstZip : BS := fun ds m P => match ds with
  | [.tup xs, .tup ys] => (xs.length = ys.length ∧ xs.length ≤ 100000) ∧ NewL (zipD xs ys) m P
  | _ => False
theorem Go.pairs {K : PySem.W.Frag} {m : MS} : ∀ (l : List (Addr × L2.V × L2.V)) {H F : Hp} {xs ys : List D}, Std K m H F → NewP H l → Rps K F (l.map fun e => e.2.1) xs → Rps K F (l.map fun e => e.2.2) ys →
    ∃ F', Go K m H F m (layP H l) F' ∧ Rps K F' (l.map fun e => L2.V.ref e.1) (zipD xs ys)
  | [], H, F, xs, ys, s, _, r1, r2 => by
    cases r1; cases r2
    exact ⟨F, Go.refl s, .nil⟩
  | (t, x, y) :: l, H, F, _, _, s, hN, r1, r2 => by
    cases r1 with
    | @cons _ _ dx xs a1 b1 =>
      cases r2 with
      | @cons _ _ dy ys a2 b2 =>
        have g := Go.new (o := .tup [x, y]) s hN.1
        obtain ⟨F', g2, r3⟩ := Go.pairs l g.std hN.2 (Rps.up g.grow _ b1) (Rps.up g.grow _ b2)
        exact ⟨F', g.trans g2, .cons (Rp.up g2.grow _ (.tup (.inl (.inl upd_same)) (.cons (Rp.up g.grow _ a1) (.cons (Rp.up g.grow _ a2) .nil)))) r3⟩
theorem se_lstZip {e e2 : Expr} {t1 t2 : T} {p p2 pos pos2 : Pos} (hm : X.mg "list" = none) (hm2 : X.mg "zip" = none) (h1 : SE X e t1) (h2 : SE X e2 t2) (hc : X.calm = true := by rfl) (hg : Gl X "list" := by rfl) (hg2 : Gl X "zip" := by rfl)
    (hs : starEach [e, e2] X.env = (false, eval e X.env) :: starEach [e2] X.env := by rfl) (hs3 : starEach [e2] X.env = (false, eval e2 X.env) :: starEach [] X.env := by rfl) (hpl : (backTo pos2 (starEach [e2] X.env)).any (·.1) = false := by rfl)
    (hs2 : starEach [.Call (.Name "zip" p2) [e, e2] [] pos2] X.env = (false, eval (.Call (.Name "zip" p2) [e, e2] [] pos2) X.env) :: starEach [] X.env := by rfl) :
    SE X (.Call (.Name "list" p) [.Call (.Name "zip" p2) [e, e2] [] pos2] [] pos) (.bop sLstZip (.cons t1 (.cons t2 .nil))) := ⟨fun ρ m P Z pp => ⟨fun F0 σ H F S Q V tk q kx => by
  refine wE_of (pe_lstZip hc hg hm hg2 hm2 pa_w hs hpl hs2) ?_
  refine ((sa_cons h1 (sa_cons h2 sa_nil hs3) hs).go ρ m _ Z pp).run F0 σ H F S _ V tk (fun vs H1 F1 ds m1 pd g1 r1 => ?_) kx
  match ds, pd, r1 with
  | [.tup xs, .tup ys], ⟨⟨hl, hsm⟩, pd⟩, .cons (.tup a1 b1) (.cons (.tup a2 b2) .nil) =>
    have n1 := b1.length
    have n2 := b2.length
    refine ⟨_, _, _, _, rfl, Same.seqT g1.std.toH a1, Same.seqT g1.std.toH a2, ⟨by omega, by omega⟩, fun l S hN hl2 hS => ?_⟩
    have e1 : (l.map fun e => e.2.1) = (((l.map fun e => (e.2.1, e.2.2))).map Prod.fst) := by rw [List.map_map]; rfl
    have e2 : (l.map fun e => e.2.2) = (((l.map fun e => (e.2.1, e.2.2))).map Prod.snd) := by rw [List.map_map]; rfl
    rw [hl2] at e1 e2
    rw [List.map_fst_zip (by omega)] at e1
    rw [List.map_snd_zip (by omega)] at e2
    obtain ⟨F', g2, r3⟩ := Go.pairs l g1.std hN (by rw [e1]; exact b1) (by rw [e2]; exact b2)
    exact newL_q pd g2.std r3 (fun v H' F' d m' pd g r => q v H' F' d m' pd ((g1.trans g2).trans g) r) S hS⟩⟩
end
end Nu

namespace Nu
open PySem PySem.Spec L2
open PyProof.Rows hiding St
/-! ### xs[lo::step], xs a list of ints: some of them -/
def rSl3 (K : PySem.W.Frag) : L2.V → Int → Int → Hp → VK → Prop := fun x lo st H Q => ∃ (a : Addr) (ns : List Int), x = .ref a ∧ SqL K H a (ns.map L2.V.int) ∧ st ≠ 0 ∧ ∀ (ks : List Int) (p : Addr), (∀ k ∈ ks, k ∈ ns) → ks.length ≤ ns.length → H p = none → Q (.ref p) (upd H p (.lst (ks.map L2.V.int)))
def tSl3 (K : PySem.W.Frag) (te : TE) (tl tk : TO) : TE := fun σ H Q => te σ H fun x H1 => tl σ H1 fun l H2 => tk σ H2 fun k H3 => ∃ i j, l = some i ∧ k = some j ∧ rSl3 K x i j H3 Q
section
variable {X : Cx}
theorem sub_ints : ∀ {its : List Value} {ns : List Int} {ks : List Value}, IntsAre its ns → (∀ v ∈ ks, v ∈ its) → ∃ ms : List Int, IntsAre ks ms ∧ (∀ k ∈ ms, k ∈ ns) ∧ ms.length = ks.length
  | its, ns, [], _, _ => ⟨[], .nil, by simp, rfl⟩
  | its, ns, v :: ks, h, hs => by
    obtain ⟨ms, h1, h2, h3⟩ := sub_ints h fun u hu => hs u (List.mem_cons_of_mem _ hu)
    obtain ⟨i, hi⟩ := List.getElem?_of_mem (hs v (List.mem_cons_self ..))
    obtain ⟨t, e⟩ := PyProof.Rows.IntsAre.int_at h i v hi
    have hil : i < ns.length := by rw [← h.length]; exact (List.getElem?_eq_some_iff.mp hi).1
    rw [List.getD_eq_getElem?_getD, List.getElem?_eq_getElem hil] at e
    subst e
    exact ⟨ns[i] :: ms, .cons _ t h1, fun k hk => by
      rcases List.mem_cons.mp hk with e | hk
      · rw [e]; exact List.getElem_mem hil
      · exact h2 k hk, by simp [h3]⟩
theorem pick_sub {its : Array Value} {lo hi st : Option Int} : ∀ v ∈ (slicePick its lo hi st).toList, v ∈ its.toList := fun v hv => by
  unfold slicePick at hv
  rw [List.toList_toArray] at hv
  obtain ⟨i, _, hi⟩ := List.mem_filterMap.mp hv
  rw [← Array.getElem?_toList] at hi
  exact List.mem_of_getElem? hi
theorem pe_slStep {e k : Expr} {lo : Option Expr} {p2 pos : Pos} {te : TE} {tl tk : TO} (he : PE X e te) (hl : PO X lo tl) (hk : PO X (some k) tk) : PE X (.Subscript e (.Slice lo none (some k) p2) pos) (tSl3 X.K te tl tk) := by
  refine ⟨fun pins s σ H Q I h => ?_⟩
  refine Subscript_ (thn (he.run pins s σ H _ I h) fun v s1 ⟨x, H1, I1, r1, q1⟩ => ?_)
  refine wpAny_Slice (thn (hl.run pins s1 σ H1 _ I1 q1) fun vl s2 ⟨l, H2, I2, pl, q2⟩ => ?_)
  rw [evalPart_none]
  refine wpAny_pure (thn (hk.run pins s2 σ H2 _ I2 q2) fun vk s3 ⟨j, H3, I3, pk, q3⟩ => ?_)
  have I4 : Inv X pins σ H3 { s3 with heap := s3.heap.push { cls := .type "slice", data := .fields #[vl, .none, vk] } } := I3.kept (t' := s3.toks) fun b ob q => Heap.get?_push_of_some _ q
  obtain ⟨i, j, rfl, rfl, a, ns, rfl, hx, hj, q⟩ := q3
  cases r1
  obtain ⟨its, r, ht, hz⟩ := I4.list hx
  show wpAny (model X.prog X.w) X.A (subscriptTail e (.Slice lo none (some k) p2) (.ref a) (.ref s3.heap.objs.size)) (EP X pins σ Q) X.xe { s3 with heap := s3.heap.push { cls := .type "slice", data := .fields #[vl, .none, vk] } }
  refine tail_any (ops := [.ref a, .ref s3.heap.objs.size]) ht.isList.typeIs slot_list_getitem.lookup (wpAny_getItem_list_slice ht.isList (Heap.IsSliceOf.new ..) pl .none pk (fun z => hj (Option.some.inj z)) ?_ (by rw [List.size_toArray, ← r.length]; exact hz)) (by with_unfolding_all rfl)
  obtain ⟨ms, m1, m2, m3⟩ := sub_ints (its := its) (ks := (slicePick its.toArray (some i) none (some j)).toList) r.ints fun v hv => by
    have := pick_sub v hv
    rwa [List.toList_toArray] at this
  have le : ms.length ≤ ns.length := by
    have := slicePick_size_le its.toArray (some i) none (some j)
    have n1 := r.length
    rw [List.length_map] at n1
    rw [m3, Array.length_toList, n1]
    simpa using this
  refine ⟨.ref _, _, I4.laid (t' := s3.toks) (o := .lst (ms.map L2.V.int)) (fun b ob q => Heap.get?_push_of_some _ q) (Nat.le_refl _) ?_, rfl, q ms _ m2 le (I4.hok.fresh (Nat.le_refl _))⟩
  rw [List.length_map] at hz
  exact ⟨by rw [List.length_map]; omega, _, 0, vals_of_ints m1, by rw [Array.toArray_toList]; exact Heap.get?_push_size _ rfl⟩
def sSlStep : BS := fun ds m P => match ds with
  | [d, .int l, .int j] => lsR d m fun xs => j ≠ 0 ∧ ∃ ns : List Int, xs = ns.map .int ∧ ∀ ks : List Int, (∀ k ∈ ks, k ∈ ns) → ks.length ≤ ns.length → NewL (ks.map .int) m P
  | _ => False
theorem se_slStep {a b c : Expr} {ta tb tc : T} {p2 pos : Pos} (ha : SE X a ta) (hb : SE X b tb) (hc : SE X c tc) : SE X (.Subscript a (.Slice (some b) none (some c) p2) pos) (.bop sSlStep (.cons ta (.cons (.bop sInt (.cons tb .nil)) (.cons tc .nil)))) := ⟨fun ρ m P Z p => ⟨fun F0 σ H F S Q V tk q kx => by
  refine wE_of (pe_slStep pe_w (po_some pe_w) (po_some pe_w)) ?_
  refine (ha.go ρ m _ Z p).run F0 σ H F S _ V tk (fun x H1 F1 d1 m1 p1 g1 r1 => ?_) kx
  refine (hb.go ρ m1 _ Z p1).run F0 σ H1 F1 (S.go g1) _ V tk (fun y H2 F2 d2 m2 p2 g2 r2 => ?_) (kx.go g1)
  cases d2 with
  | int l =>
    cases r2
    have p2 : W tc ρ m2 _ Z := p2
    refine ⟨l, rfl, ?_⟩
    refine (hc.go ρ m2 _ Z p2).run F0 σ H2 F2 ((S.go g1).go g2) _ V tk (fun z H3 F3 d3 m3 p3 g3 r3 => ?_) ((kx.go g1).go g2)
    cases d3 with
    | int h =>
      cases r3
      have g123 := (g1.trans g2).trans g3
      have r1 := (r1.up g2.grow _).up g3.grow _
      refine ⟨h, rfl, l, h, rfl, rfl, ?_⟩
      have f : ∀ (a : Addr) (vs : List L2.V) (xs : List D), SqL X.K H3 a vs → Rps X.K F3 vs xs → (h ≠ 0 ∧ ∃ ns : List Int, xs = ns.map .int ∧ ∀ ks : List Int, (∀ k ∈ ks, k ∈ ns) → ks.length ≤ ns.length → NewL (ks.map .int) m3 P) → rSl3 X.K (.ref a) l h H3 Q := by
        rintro a vs xs h1 h2 ⟨h0, ns, rfl, h3⟩
        have e := h2.ints
        subst e
        exact ⟨a, ns, rfl, h1, h0, fun ks p k1 k2 hp => newL_q (h3 ks k1 k2) g123.std (Rps.of_ints ks) (fun v H' F' d m' pd g r => q v H' F' d m' pd (g123.trans g) r) p hp⟩
      cases d1 with
      | lst xs =>
        cases r1 with
        | lst h1 h2 => exact f _ _ xs (.inl (.inl (g123.std.at h1))) h2 p3
      | fls xs =>
        cases r1 with
        | fls h1 h2 => exact f _ _ xs (h1.up g123.std.toH).sq h2 p3
      | raw v =>
        cases r1
        match x, p3 with
        | .ref p, ⟨xs, hp, h⟩ =>
          obtain ⟨vs, e, rs⟩ := g123.std.cells p _ hp
          exact f p vs xs (.inl (.inl e)) rs h
      | _ => exact p3.elim
    | _ => exact False.elim p3
  | _ => exact False.elim p2⟩⟩
end
/-! ### any(xs), xs a list of ints -/
theorem truth_ints {P : Program} {w : World} {A : Around} {ns : List Int} {its : List Value} (e : IntsAre its ns) : TruthOf P w A (fun i v => its.toArray[i]? = some v) (fun i => (ns.map fun n => decide (n ≠ 0)).getD i false) := fun i v s Q E hv hq => by
  have hv' : its[i]? = some v := by simpa using hv
  have hil : i < ns.length := by rw [← e.length]; exact (List.getElem?_eq_some_iff.mp hv').1
  obtain ⟨t, ev⟩ := PyProof.Rows.IntsAre.int_at e i v hv'
  rw [List.getD_eq_getElem?_getD, List.getElem?_eq_getElem hil] at ev
  have hg : (ns.map fun n => decide (n ≠ 0)).getD i false = decide (ns[i] ≠ 0) := by rw [List.getD_eq_getElem?_getD, List.getElem?_map, List.getElem?_eq_getElem hil]; rfl
  have hq' : Q ((ns.map fun n => decide (n ≠ 0)).getD i false) s := hq
  rw [hg] at hq'
  subst ev
  refine truthy_int ?_
  rw [Option.getD_some]
  rw [show (ns[i] != 0) = decide (ns[i] ≠ 0) by rw [Bool.eq_iff_iff]; simp]
  exact hq'
def rAnyN (K : PySem.W.Frag) : List L2.V → Hp → VK → Prop := fun vs H Q => ∃ (a : Addr) (ns : List Int), vs = [L2.V.ref a] ∧ SqL K H a (ns.map L2.V.int) ∧ Q (.bl (ns.any fun n => decide (n ≠ 0))) H
theorem cr_anyN {X : Cx} (hc : X.calm = true) : CallR X (.builtin "any") (rAnyN X.K) := by
  intro pins s σ H vs us Q I r h
  obtain ⟨a, ns, rfl, hs, q⟩ := h
  obtain ⟨its, rv, hl, _⟩ := I.list hs
  rw [Vals.ref1 r]
  have hb := rv.ints
  refine call_any_walk (iter_any hl.isList fun s2 e2 st hne => ?_)
  subst e2
  refine ⟨_, _, _, _, _, _, _, rfl, Walks.list (A := X.A.in1) (I.ok.hd hc) _ a hne its.toArray, st, truth_ints hb, fun h' tk hk => ?_⟩
  refine ⟨.bl _, H, I.kept fun b o eo => hk b o (fun hm => ?_) (Heap.get?_push_of_some _ eo), ?_, q⟩
  · rw [List.mem_singleton.mp hm] at eo
    exact absurd (Heap.lt_size eo) (Nat.lt_irrefl _)
  · show Value.bool _ = Value.bool _
    have e := any_range (ns.map fun n => decide (n ≠ 0))
    rw [List.length_map, List.any_map] at e
    rw [List.size_toArray, hb.length, e]; rfl
def sAnyN : BS := fun ds m P => match ds with
  | [d] => lsR d m fun xs => ∃ ns : List Int, xs = ns.map .int ∧ P (.bl (ns.any fun n => decide (n ≠ 0))) m
  | _ => False
theorem bok_anyN {K : PySem.W.Frag} : BokN K (rAnyN K) sAnyN := fun ds m P h vs H F s rs Q q => by
  match ds, h, rs with
  | [d], h, .cons (v := v) r .nil =>
    have f : ∀ (a : Addr) (us : List L2.V) (xs : List D), SqL K H a us → Rps K F us xs → (∃ ns : List Int, xs = ns.map .int ∧ P (.bl (ns.any fun n => decide (n ≠ 0))) m) → rAnyN K [.ref a] H Q := by
      rintro a us xs h1 h2 ⟨ns, rfl, h3⟩
      have e := h2.ints
      subst e
      exact ⟨a, ns, rfl, h1, q _ _ _ _ _ h3 (Go.refl s) (.bl _)⟩
    cases d with
    | lst xs =>
      cases r with
      | lst h1 h2 => exact f _ _ xs (.inl (.inl (s.at h1))) h2 h
    | fls xs =>
      cases r with
      | fls h1 h2 => exact f _ _ xs (h1.up s.toH).sq h2 h
    | raw v =>
      cases r
      match v, h with
      | .ref p, ⟨xs, hp, h⟩ =>
        obtain ⟨us, e, rs⟩ := s.cells p _ hp
        exact f p us xs (.inl (.inl e)) rs h
    | _ => exact h.elim
end Nu

namespace Nu
open PySem PySem.Spec L2
open PyProof.Rows hiding St
/-! ### dict(t) of a tuple of pairs -/
theorem tuple_nokeys : typeLookup (.type "tuple") "keys" = pure none := am_miss_of_fast (by first | decide +kernel | rfl)
section
variable {P : Program} {w : World} {A : Around} {E : Value → Shared → Prop}
theorem tup_loop {R : Result → Shared → Prop} {S I l : Addr} {items : Array Value} {res : Value} (hh : A.handled = none) (n1 : l ≠ I) (n2 : S ≠ I) (n3 : S ≠ l) :
    ∀ (prs : List (Key × Value)) (i : Nat) (acc : List (Key × Value)) (ix : Int) (t : Tok) (s : Shared), items.size = i + prs.length → acc.length + prs.length ≤ sizeLine →
      (∀ (j : Nat) (q : Key × Value), prs[j]? = some q → ∃ (b : Addr) (u : Value), items[i + j]? = some (.ref b) ∧ b ≠ S ∧ b ≠ I ∧ IsTup s.heap b #[u, q.2] ∧ keyIs q.1 u = true) →
      s.heap.IsTupleIter I l i → s.heap.IsTuple l items → s.heap.DictOf (mixKind P w) S acc →
      (∀ h' tk, h'.DictOf (mixKind P w) S (merged acc prs) → (∀ b o, b ≠ S → b ≠ I → s.heap.get? b = some o → h'.get? b = some o) → R (.ok (.ret res)) { s with heap := h', toks := tk }) →
      codeAny (model P w) A (.builtin "dict.update.loop" ⟨[.ref S, .ref I, .int ix t, res], []⟩) R s
  | [], i, acc, ix, t, s, c1, c2, c3, c4, c5, c6, c7 => by
    refine codeAny_builtin ud_entry ?_
    rw [Around.under_plainId ud_plain _]
    show wpAny _ A.in1 (pyNext (.ref I) >>= _) _ _ s
    refine wpAny_bind (wpAny_pyNext_tuple_end (A := A.in1) hh c4 c5 (by simp at c1; simp; omega) fun h' he => ?_)
    show wpAny _ A.in1 (Builtin.Dict.addKeywords S [] >>= _) _ _ _
    exact wpAny_bind (wpAny_pure (wpAny_pure (c7 h' s.toks (c6.extBut he n2) fun b o _ hb e => he b o hb e)))
  | q :: prs, i, acc, ix, t, s, c1, c2, c3, c4, c5, c6, c7 => by
    obtain ⟨b, u, d1, d2, d3, d4, d5⟩ := c3 0 q rfl
    rw [List.length_cons] at c1 c2
    refine codeAny_builtin ud_entry ?_
    rw [Around.under_plainId ud_plain _]
    show wpAny _ A.in1 (pyNext (.ref I) >>= _) _ _ s
    refine wpAny_bind (wpAny_pyNext_tuple_item (x := .ref b) c4 c5 (by simpa using d1) fun h1 e1 s1 => ?_)
    have t1 : IsTup h1 b #[u, q.2] := d4.extBut s1.extBut d3
    have l1 : h1.IsTuple l items := c5.extBut s1.extBut n1
    have m1 : h1.DictOf (mixKind P w) S acc := c6.extBut s1.extBut n2
    obtain ⟨o, ho, hc, n, hd⟩ := id t1
    show wpAny _ A.in1 (holding [Value.ref b] _ >>= _) _ _ _
    refine wpAny_bind (wpAny_holding (wpAny_bind (wpAny_tryCatch ?_)))
    unfold Builtin.Dict.pairItems
    refine wpAny_bind (wpAny_typeOf (T := "tuple") ⟨o, ho, hc⟩ ?_)
    rw [if_pos (by first | decide | rfl | simp)]
    refine wpAny_bind (wpAny_seqItems ho hd (wpAny_pure ?_))
    show wpAny _ A.in1 (holding [u, q.2] (dictSet S u q.2)) _ _ _
    refine wpAny_holding (wpAny_dictSet_pairs (knd := mixKind P w) (k := q.1) d5 m1 (fun h2 m2 s2 => ?_) (by omega))
    refine wpAny_pure ⟨plainId_quiet ud_plain _, tup_loop (items := items) hh n1 n2 n3 prs (i + 1) (stored acc q.1 q.2) (ix + 1) 0 _ (show items.size = i + 1 + prs.length by omega) ?_ (fun j q' e => ?_) ?_ ?_ m2 fun h' tk hd' k => ?_⟩
    · have := stored_length_le acc q.1 q.2
      omega
    · obtain ⟨b', u', f1, f2, f3, f4, f5⟩ := c3 (j + 1) q' (by simpa using e)
      exact ⟨b', u', by rw [show i + 1 + j = i + (j + 1) by omega]; exact f1, f2, f3, (f4.extBut s1.extBut f3).extBut s2.extBut f2, f5⟩
    · exact e1.at fun o' e => s2.extBut I o' (Ne.symm n2) e
    · exact l1.extBut s2.extBut (Ne.symm n3)
    · exact c7 h' tk hd' fun c oc h3 h4 e => k c oc h3 h4 (s2.extBut c oc h3 (s1.extBut c oc h4 e))
end
/-- dict(t) of a tuple of pairs -/
theorem call_dict_tup {P : Program} {w : World} {A : Around} {E : Value → Shared → Prop} {s : Shared} {l : Addr} {ol : Obj} {items : Array Value} {n : Nat} {prs : List (Key × Value)} {Q : Value → Shared → Prop} (hh : A.handled = none) (hl : s.heap.get? l = some ol) (hc : ol.cls = .type "tuple") (hd : ol.dict = none)
    (hdat : ol.data = .seq items n) (hsz : items.size = prs.length) (hln : prs.length ≤ sizeLine)
    (ht : ∀ (j : Nat) (q : Key × Value), prs[j]? = some q → ∃ (b : Addr) (u : Value), items[j]? = some (.ref b) ∧ IsTup s.heap b #[u, q.2] ∧ keyIs q.1 u = true)
    (h : ∀ h' tk, h'.DictOf (mixKind P w) s.heap.objs.size (merged [] prs) → (∀ b o, s.heap.get? b = some o → h'.get? b = some o) → Q (.ref s.heap.objs.size) { s with heap := h', toks := tk }) :
    wpAny (model P w) A (call (.type "dict") [.ref l]) Q E s := by
  refine callType_codes (Q₁ := fun u s1 => u = .ref s.heap.objs.size ∧ s1 = { s with heap := s.heap.push { cls := .type "dict", data := .dict #[] } }) PySem.F.kt_called_dict (PySem.F.kt_typeCall_dict_1 _) PySem.F.entry_dict_init (kt_code_dict_new _ ⟨rfl, rfl⟩) ?_
  rintro u s1 ⟨rfl, rfl⟩
  have d0 : (s.heap.push { cls := .type "dict", data := .dict #[] }).DictOf (mixKind P w) s.heap.objs.size [] := Heap.DictOf.new s.heap
  have k0 : ∀ b o, s.heap.get? b = some o → (s.heap.push { cls := .type "dict", data := .dict #[] }).get? b = some o := fun b o e => Heap.get?_push_of_some _ e
  refine ⟨d0.typeIs, PySem.F.args_dict_init_2 _ _, ?_⟩
  unfold Builtin.«dict.__init__»
  refine wpAny_bind ?_
  unfold Builtin.Dict.selfAndRest
  refine wpAny_bind (wpAny_notOrdered_dict d0.typeIs ?_)
  show wpAny _ _ (pure (s.heap.objs.size, [Value.ref l])) _ _ _
  refine wpAny_pure ?_
  show wpAny _ _ (Builtin.Dict.updateFrom "dict.__init__" s.heap.objs.size (.ref l) [] .none) _ _ _
  unfold Builtin.Dict.updateFrom
  refine wpAny_bind (wpAny_typeOf (T := "tuple") ⟨ol, k0 _ _ hl, hc⟩ ?_)
  rw [if_pos (by first | decide | rfl | simp)]
  refine wpAny_bind (PySem.getAttrOr_miss_tuple (k0 _ _ hl) hc hdat hd tuple_nokeys (by decide +kernel) hh (fun h1 tk1 hk1 => ?_) (by first | size_fits | decide +kernel))
  rw [if_pos (show (none : Option Value).isNone = true from rfl)]
  refine wpAny_bind (wpAny_rule ?_)
  have hl1 : h1.IsTuple l items := ⟨ol, hk1 _ _ (k0 _ _ hl), hc, n, hdat⟩
  have z1 : s.heap.objs.size < h1.objs.size := by
    have e : (s.heap.push { cls := .type "dict", data := .dict #[] }).get? s.heap.objs.size = some { cls := .type "dict", data := .dict #[] } := Heap.get?_push_size _ rfl
    exact Heap.lt_size (hk1 _ _ e)
  refine wpAny_bind (wpAny_pyIter_tuple hl1 ?_)
  have k2 : ∀ b o, h1.get? b = some o → (h1.push { cls := .type "tuple_iterator", data := .fields #[.ref l, .int 0 0] }).get? b = some o := fun b o e => Heap.get?_push_of_some _ e
  have hlt : l < s.heap.objs.size := Heap.lt_size hl
  have key := tup_loop (P := P) (w := w) (A := A.in1) (R := wants (fun r s₂ => r = .none ∧ Q (.ref s.heap.objs.size) s₂) E) (S := s.heap.objs.size) (I := h1.objs.size) (l := l) (items := items) (res := Value.none) hh
    (Nat.ne_of_lt (Nat.lt_trans hlt z1)) (Nat.ne_of_lt z1) (Nat.ne_of_gt hlt) prs 0 [] 0 0
    { s with heap := h1.push { cls := .type "tuple_iterator", data := .fields #[.ref l, .int 0 0] }, toks := tk1 } (by rw [hsz, Nat.zero_add]) (by rw [List.length_nil, Nat.zero_add]; exact hln)
    (fun j q e => by
      obtain ⟨b, u, e1, e2, e3⟩ := ht j q e
      have hb : b < s.heap.objs.size := e2.lt
      exact ⟨b, u, by rw [Nat.zero_add]; exact e1, Nat.ne_of_lt hb, Nat.ne_of_lt (Nat.lt_trans hb z1), e2.keeps fun c o z => k2 _ _ (hk1 _ _ (k0 _ _ z)), e3⟩)
    ⟨_, Heap.get?_push_size _ rfl, rfl, rfl⟩ (hl1.at fun o e => k2 _ _ e) ((d0.at fun o e => hk1 _ _ e).at fun o e => k2 _ _ e)
    (fun h' tk hd' k => ⟨rfl, h h' tk hd' fun b o e => k b o (Nat.ne_of_lt (Heap.lt_size e)) (Nat.ne_of_lt (Nat.lt_trans (Heap.lt_size e) z1)) (k2 _ _ (hk1 _ _ (k0 _ _ e)))⟩)
  first
    | exact wpAny_pure ⟨plainId_quiet ud_plain _, key⟩
    | exact wpAny_bind (wpAny_pure (wpAny_pure ⟨plainId_quiet ud_plain _, key⟩))
def rDctT (K : PySem.W.Frag) : List L2.V → Hp → VK → Prop := fun xs H Q => ∃ (a : Addr) (o : Obj) (ps : List Addr) (kvs : List (Key × L2.V)), xs = [L2.V.ref a] ∧ H a = some (.frz o (.tup (ps.map L2.V.ref))) ∧ o.dict = none ∧ Paired (fun p kv => SqT K H p [kV kv.1, kv.2]) ps kvs ∧ ∀ p, H p = none → Q (.ref p) (upd H p (.dK (mergeK [] kvs)))
theorem cr_dctT {X : Cx} (hc : X.calm = true) : CallR X (.type "dict") (rDctT X.K) := by
  intro pins s σ H xs us Q I r q
  obtain ⟨a, o, ps, kvs, rfl, hq, h0, hp, q⟩ := q
  rw [Vals.ref1 r]
  obtain ⟨ho, hz, its, rv, ⟨o2, ho2, hcl, n, hdat⟩⟩ := I.hok a _ hq
  obtain rfl : o = o2 := by rw [ho] at ho2; exact Option.some.inj ho2
  have ei := refs_at rv
  subst ei
  rw [List.length_map] at hz
  obtain ⟨prs, rel, hl, hpr⟩ := pairs_of I hp
  refine call_dict_tup (prs := prs) (I.ok.hd hc) ho hcl h0 hdat (by simp [hl]) (by rw [hl]; exact hz) (fun j q' e => ?_) fun h' tk hd' k => ?_
  · obtain ⟨b, u, e1, e2, e3⟩ := hpr j q' e
    exact ⟨b, u, by simp [e1], e2, e3⟩
  · have hm : (s.heap.objs.size == sysModules) = false := beq_eq_false_iff_ne.mpr (Nat.ne_of_gt I.big)
    have hlen : (mergeK [] kvs).length ≤ sizeLine := by
      refine Nat.le_trans (length_mergeK kvs []) ?_
      rw [List.length_nil, Nat.zero_add, rel.length, hl]
      exact hz
    exact ⟨.ref s.heap.objs.size, upd H s.heap.objs.size (.dK (mergeK [] kvs)), I.laid (t' := tk) k (Nat.le_refl _) (show ObjOk X.prog X.w _ _ _ (.dK (mergeK [] kvs)) from ⟨hlen, hm, merged [] prs, KV.merge rel .nil, hd'⟩), rfl, q _ (I.hok.fresh (Nat.le_refl _))⟩
def sToDctT : BS := fun ds m P => match ds with
  | [.ptp xs] => ∃ kds : List (Key × D), xs = kds.map pairK ∧ newD (mergeD [] kds) m P
  | [d] => sToDct [d] m P
  | _ => False
theorem bok_toDctT {K : PySem.W.Frag} : BokN K (fun xs H Q => rToDct K xs H Q ∨ rDctT K xs H Q) sToDctT := fun ds m P h vs H F s rs Q q => by
  unfold sToDctT at h
  split at h
  · obtain ⟨v, rfl, r⟩ := rps1 rs
    obtain ⟨kds, rfl, h⟩ := h
    cases r with
    | ptp h1 h0 h2 =>
      obtain ⟨ps, kvs, rfl, hp, hk⟩ := pairs_split s.toH kds h2
      exact .inr ⟨_, _, ps, kvs, rfl, s.at h1, h0, hp, newD_q h s (RKs.merge .nil hk) q⟩
  · exact .inl (bok_toDct _ m P h vs H F s rs Q q)
  · exact h.elim
theorem cr_toDctT {X : Cx} (hc : X.calm = true) : CallR X (.type "dict") (fun xs H Q => rToDct X.K xs H Q ∨ rDctT X.K xs H Q) := (cr_toDct hc).or (cr_dctT hc)
/-! ### a tuple made of a list, known to be plain -/
def rTupP (K : PySem.W.Frag) : List L2.V → Hp → VK → Prop := fun xs H Q => ∃ p ys, xs = [L2.V.ref p] ∧ SqL K H p ys ∧ ∀ (l : Addr) (o : Obj), o.dict = none → H l = none → Q (.ref l) (upd H l (.frz o (.tup ys)))
theorem cr_tupP {X : Cx} : CallR X (.type "tuple") (rTupP X.K) := by
  intro pins s σ H xs us Q I r q
  obtain ⟨p, ys, rfl, hq, q⟩ := q
  rw [Vals.ref1 r]
  obtain ⟨its, r', pl, hz⟩ := I.list hq
  have n1 := r'.length
  refine call_tuple_list pl.isList (fun h' kp => ?_) (by simp only [List.size_toArray] <;> omega)
  have I1 : Inv X pins σ H { s with heap := h' } := I.kept (t' := s.toks) kp
  exact ⟨.ref h'.objs.size, upd H h'.objs.size (.frz { cls := .type "tuple", data := .seq its.toArray } (.tup ys)), I1.laid (t' := s.toks) (fun b o e => Heap.get?_push_of_some _ e) (Nat.le_refl _) (show ObjOk X.prog X.w _ _ _ (.frz _ (.tup ys)) from ⟨Heap.get?_push_size _ rfl, hz, its, r', IsTup.new _ _⟩), rfl, q _ _ rfl (I1.hok.fresh (Nat.le_refl _))⟩
def sToTupP : BS := fun ds m P => match ds with
  | [d] => lsR d m fun xs => P (.tup xs) m ∨ P (.ptp xs) m
  | _ => False
theorem bok_toTupP {K : PySem.W.Frag} : BokN K (fun vs H Q => (∃ p ys, vs = [L2.V.ref p] ∧ ((SqL K H p ys ∧ ∀ l, H l = none → Q (.ref l) (upd H l (.tup ys))) ∨ (SqT K H p ys ∧ Q (.ref p) H))) ∨ rTupP K vs H Q) sToTupP := fun ds m P h vs H F s rs Q q => by
  unfold sToTupP at h
  split at h
  · obtain ⟨v, rfl, r⟩ := rps1 rs
    obtain ⟨a, xs, ws, rfl, h, h1, h2⟩ := lsR_use h s r
    rcases h with h | h
    · exact .inl ⟨a, ws, rfl, .inl ⟨h1, newT_q h s h2 q⟩⟩
    · refine .inr ⟨a, ws, rfl, h1, fun l o h0 hl => ?_⟩
      have g := Go.new (o := .frz o (.tup ws)) s hl
      exact q _ _ _ _ _ h g (.ptp upd_same h0 (Rps.up g.grow _ h2))
  · exact h.elim
theorem cr_toTupP {X : Cx} : CallR X (.type "tuple") (fun vs H Q => (∃ p ys, vs = [L2.V.ref p] ∧ ((SqL X.K H p ys ∧ ∀ l, H l = none → Q (.ref l) (upd H l (.tup ys))) ∨ (SqT X.K H p ys ∧ Q (.ref p) H))) ∨ rTupP X.K vs H Q) := call_tuple_of.or cr_tupP
end Nu

namespace Nu
open PySem PySem.Spec L2
open PyProof.Rows hiding St
/-! ### enumerate(v) -/
theorem meets_enumerate_newB1 {v : Value} {o : Obj} {H : Heap → Prop} (B : Begins v o H) :
    Meets (Builtin.«enumerate.__new__» ⟨[.type "enumerate", v], []⟩) (fun _ R s => H s.heap ∧
      R (.ok (.ret (.ref (s.heap.push o).objs.size))) { s with heap := (s.heap.push o).push { cls := .type "enumerate", data := .fields #[.none, .bool false, .ref s.heap.objs.size, rawInt 0, .none, .none] } }) :=
  .of_wp fun prog w A R s h => by
    obtain ⟨hp, g, d, tk, os⟩ := s; obtain ⟨h1, h⟩ := h
    have hsub := sub_enumerate
    have q1 : ∀ {A' : Around} {E : Value → Shared → Prop} {Q : Value → Shared → Prop}, Q (.ref hp.objs.size) ⟨hp.push o, g, d, tk, os⟩ → wpAny (model prog w) A' (pyIter v) Q E ⟨hp, g, d, tk, os⟩ :=
      fun q => B.iter prog w _ _ ⟨hp, g, d, tk, os⟩ _ h1 q
    wp_walk using q1
    refine wpAny_stack_any fun st => wpAny_pure ?_
    split
    · rename_i c _ _ _ _ _
      cases (c == Value.type "enumerate")
      · wp_walk using q1
        exact ⟨_, rfl, h⟩
      · wp_walk using q1
        exact ⟨_, rfl, h⟩
    · wp_walk using q1
      exact ⟨_, rfl, h⟩
section
variable {prog : Program} {w : World} {A : Around} {E : Value → Shared → Prop} {s : Shared}
theorem enum_begins1 {v : Value} {o : Obj} {H : Heap → Prop} {Q : Value → Shared → Prop} (B : Begins v o H) (h1 : H s.heap)
    (h : ∀ h', IsEnum h' (s.heap.objs.size + 1) s.heap.objs.size 0 .none → h'.get? s.heap.objs.size = some o → h'.objs.size = s.heap.objs.size + 2 →
      (∀ b o, s.heap.get? b = some o → h'.get? b = some o) → Q (.ref (s.heap.objs.size + 1)) { s with heap := h' }) :
    wpAny (model prog w) A (call (.type "enumerate") [v]) Q E s := by
  refine callType_new F.called_enumerate (by decide) (F.typeCall_enumerate_1 _) (F.newCall_enumerate_1 _) (fun obj => F.args_object_init_2 obj _) F.entry_enumerate_new
    (meets_enumerate_newB1 B) ⟨h1, ?_⟩
  have hz : (s.heap.push o).objs.size = s.heap.objs.size + 1 := Heap.size_push ..
  show _ ∧ _
  rw [hz]
  have he : IsEnum ((s.heap.push o).push { cls := .type "enumerate", data := .fields #[.none, .bool false, .ref s.heap.objs.size, rawInt 0, .none, .none] }) (s.heap.objs.size + 1) s.heap.objs.size 0 .none := by
    have := Heap.get?_push_size (s.heap.push o) (o := { cls := .type "enumerate", data := .fields #[.none, .bool false, .ref s.heap.objs.size, rawInt 0, .none, .none] }) rfl
    rw [hz] at this; exact this
  refine ⟨⟨_, he, rfl⟩, h _ he (Heap.get?_push_of_some _ (Heap.get?_push_size _ B.free)) (by rw [Heap.size_push, hz]) fun b o x => Heap.get?_push_of_some _ (Heap.get?_push_of_some _ x)⟩
end
section
variable {X : Cx} {elts : List Expr} {kk : Nat} {tpos : Pos}
theorem si_enum {a : Expr} {ta : T} {p pos : Pos} (hm : X.mg "enumerate" = none) (ha : SE X a ta) (hg : Gl X "enumerate" := by rfl) (hs : starEach [a] X.env = (false, eval a X.env) :: starEach [] X.env := by rfl) (hpl : (backTo pos (starEach [] X.env)).any (·.1) = false := by rfl) : SI X (.Tuple elts kk tpos) (.Call (.Name "enumerate" p) [a] [] pos) isEnum (.cons ta .nil) := ⟨fun ρ m P Z p => ⟨fun F0 σ H F S R V tk q kx pins s I => by
  refine Call_ (ld_blt I hg hm boot_enumerate (PyProof.Rows.callWith_type1 (thn ((pa_cons (X := X) pe_w pa_nil hs).run pos pins s σ H (fun vs H2 => ∃ v1 F2 d1 m2, vs = [v1] ∧ isEnum [d1] m2 P ∧ Go X.K m H F m2 H2 F2 ∧ Rp X.K F2 v1 d1) I ?_) fun us s1 ⟨vs, H1, I1, r1, q1⟩ => ?_) hs hpl))
  · refine (ha.go ρ m _ Z p).run F0 σ H F S _ V tk (fun x H1 F1 d1 m1 p1 g1 r1 => ?_) kx
    exact ⟨x, F1, d1, m1, rfl, p1, g1, r1⟩
  · obtain ⟨v1, F2, d1, m2, rfl, p2, g2, ra⟩ := q1
    obtain ⟨a1, t1, xs, G1, rfl, pR, g01, h1⟩ := seqD_use (show seqD d1 m2 (fun xs G1 => P (enumD xs) G1 m2) from p2) g2.std ra
    obtain ⟨w1, q1, _⟩ := h1 m2 H1 F2 (Same.refl _) g2.std g01
    obtain ⟨its1, rv1, c1⟩ := seqA_at I1 q1
    cases r1 with
    | cons r rr =>
      cases rr
      cases r
      refine enum_begins1 (beginsA t1 a1 its1.toArray) c1 fun h' hz e1 hsz hk => wpAny_pyIter_enum hz ?_
      have I2 : Inv X pins σ H1 { s1 with heap := h' } := I1.kept (t' := s1.toks) hk
      exact ⟨s1.heap.objs.size + 1, _, _, _, H1, rfl, I2, turn_en (ctA_lt c1), ⟨⟨_, hz⟩, itA_new e1⟩, fresh_le I1 (fun c hc => by
        have e' : c = s1.heap.objs.size + 1 ∨ c = s1.heap.objs.size := by simpa using hc
        rcases e' with z | z <;> rw [z] <;> first | exact Nat.le_add_right _ _ | exact Nat.le_refl _), q _ H1 F2 _ _ m2 pR g2 (walk_en h1)⟩⟩⟩
end
end Nu

namespace Nu
open PySem PySem.Spec L2
open PyProof.Rows hiding St
/-! ### is not, of bools -/
def sIsntB : BS := fun ds m P => match ds with
  | [.bl a, .bl b] => P (.bl (!decide (a = b))) m
  | _ => False
theorem bok_isntB {K : PySem.W.Frag} : Bok2 K rNotB sIsntB := fun d1 d2 m P h x y H F s r1 r2 Q q => by
  unfold sIsntB at h
  split at h
  · rename_i e; cases e
    cases r1; cases r2
    exact ⟨_, _, rfl, rfl, q _ _ _ _ _ h (Go.refl s) (.bl _)⟩
  · exact h.elim
end Nu

/-! ### sorted(xs, key=f), f an own def: what stands between its calls is the prover's -/
namespace NuK
open PySem PySem.W PySem.Calls PyProof.Rows
section
variable {prog : Program} {w : World} {A : Around} {E : Value → Shared → Prop} {s : Shared} {a kS : Addr} {b : Bool} {vs : List Value} {keys : Array Value} {e e1 : Nat} {P : PySem.Fin → Shared → Prop}
def Keeps2 (a kS : Addr) (h h' : Heap) : Prop := ∀ b o, b ≠ a → b ≠ kS → h.get? b = some o → h'.get? b = some o
theorem key2_end {κ : PyProof.Rows.KeyKind} (nk : s.heap.get? kS = some (seqObj "list" keys e)) (na : s.heap.get? a = some (seqObj "list" #[] e1)) (hka : kS ≠ a)
    (S : SortsAt prog w A s κ keys.toList) (hsz : keys.size = vs.length) (hZ : vs.length ≤ sizeLine)
    (h : ∀ h' tk c, Keeps2 a kS s.heap h' → h'.get? a = some (seqObj "list" (sortVals κ b keys.toList vs).toArray c) → P (.done (.ret .none)) { s with heap := h', toks := tk }) :
    wpAny (model prog w) A (ksk_end a b vs.toArray e1 (.ref kS) keys) P E s := by
  obtain ⟨h₁, g1, g2⟩ := L2.restrict s.heap fun b => decide (b ≠ kS)
  refine keyH_end (h₁ := h₁) (fun b o hb q => ?_) (g2 kS (by simp)) nk na hka S hsz hZ fun h' tk c k n => h h' tk c (fun b o hb hk q => k b o hb ((g1 b (by simp [hk])).trans q)) n
  by_cases hk : b = kS
  · rw [hk, g2 kS (by simp)] at q; cases q
  · exact (g1 b (by simp [hk])).symm.trans q
theorem key2_rest {f : Value} (hZ : vs.length ≤ sizeLine) (T : Nat → Array Value → Nat → Shared → Prop) (t0 : T 0 #[] 0 s) (tk : ∀ i kA e s', T i kA e s' → s'.heap.get? kS = some (seqObj "list" kA e) ∧ kA.size = i)
    (turn : ∀ i v kA e s', vs[i]? = some v → T i kA e s' → wpAny (model prog w) A (call f [v]) (fun u s'' => s''.heap.get? kS = some (seqObj "list" kA e) ∧
      ∀ c2, (s''.heap.update kS (Obj.mapSeq (·.push u))).get? kS = some (seqObj "list" (kA.push u) c2) → T (i + 1) (kA.push u) c2 { s'' with heap := s''.heap.update kS (Obj.mapSeq (·.push u)) }) (fun _ _ => False) s')
    (done : ∀ kA e s', T vs.length kA e s' → wpAny (model prog w) A (ksk_end a b vs.toArray e1 (.ref kS) kA) P E s') :
    wpAny (model prog w) A (ksk_rest a f b vs.toArray e1 (.ref kS)) P E s := by
  unfold ksk_rest
  refine wpAny_bind (wpAny_rule ?_)
  first
    | rw [List.forIn_toArray]
    | (rw [← Array.forIn_toList]; simp only [List.toList_toArray])
    | rw [← Array.forIn_toList]
  refine wpAny_bind (ksk_fold (fun i s' => ∃ kA e, T i kA e s') vs 0 s ⟨#[], 0, t0⟩ ?step ?done)
  case step =>
    rintro j x s' hx ⟨kA, e, ht⟩
    simp only [Nat.zero_add] at ht ⊢
    have hj : j < vs.length := (List.getElem?_eq_some_iff.mp hx).1
    obtain ⟨_, hsz⟩ := tk _ _ _ _ ht
    refine wpAny_bind (wpAny_attempt (wpAny_mono (turn j x kA e s' hx ht) (fun v s'' he => ?_) fun _ _ hF => hF.elim))
    obtain ⟨nk2, hnext⟩ := he
    try dsimp only
    obtain ⟨c2, hc2⟩ : ∃ c2, (s''.heap.update kS (Obj.mapSeq (·.push v))).get? kS = some (seqObj "list" (kA.push v) c2) := ⟨_, get?_update_seq nk2 (·.push v)⟩
    refine wpAny_bind (listUpdate_at nk2 rfl ?_ (Nat.le_trans (by omega) hZ) (Nat.le_trans (Nat.le_of_eq (Array.size_push ..)) (Nat.succ_le_succ (Nat.le_trans (by omega) hZ))))
    exact wpAny_pure ⟨rfl, _, _, hnext c2 hc2⟩
  case done =>
    rintro s' ⟨kA, e, ht⟩
    simp only [Nat.zero_add] at ht
    obtain ⟨nk', _⟩ := tk _ _ _ _ ht
    try dsimp only
    exact wpAny_bind (listItems_at nk' rfl (done kA e s' ht))
theorem key2_tree {f : Value} {n : Nat} (ho : s.heap.get? a = some (seqObj "list" vs.toArray n)) (hZ : vs.length ≤ sizeLine)
    (body : ∀ e1, (sortingHeap s.heap a vs).get? (s.heap.objs.size + 1) = some (seqObj "list" #[] 0) → (sortingHeap s.heap a vs).get? a = some (seqObj "list" #[] e1) →
      wpAny (model prog w) A (ksk_rest a f b vs.toArray e1 (.ref (s.heap.objs.size + 1))) P E { s with heap := sortingHeap s.heap a vs }) :
    wpAny (model prog w) A (ksk_tree a f b) P E s := by
  have ha : a < s.heap.objs.size := Heap.lt_size ho
  obtain ⟨e1, ho1⟩ : ∃ e1, (s.heap.update a (Obj.mapSeq fun _ => (#[] : Array Value))).get? a = some (seqObj "list" #[] e1) := ⟨_, get?_update_seq ho fun _ => #[]⟩
  have hkS : ((s.heap.update a (Obj.mapSeq fun _ => (#[] : Array Value))).push (seqObj "tuple" vs.toArray 0)).objs.size = s.heap.objs.size + 1 := by rw [size_push', Heap.size_update]
  unfold ksk_tree
  refine wpAny_bind (listItems_at ho rfl ?_)
  refine wpAny_bind (listUpdate_at ho rfl ?_ (by rw [List.size_toArray]; exact hZ) (Nat.zero_le _))
  refine wpAny_bind (seqEpoch_at ho1 rfl ?_)
  refine wpAny_bind (wpAny_newTuple ?_ (by show vs.length ≤ _; exact hZ))
  refine wpAny_bind (wpAny_newList ?_ (Nat.zero_le _))
  refine wpAny_holding ?_
  have h1 : (sortingHeap s.heap a vs).get? (s.heap.objs.size + 1) = some (seqObj "list" #[] 0) := by
    have := Heap.get?_push_size ((s.heap.update a (Obj.mapSeq fun _ => (#[] : Array Value))).push (seqObj "tuple" vs.toArray 0)) (o := seqObj "list" #[] 0) rfl
    rw [hkS] at this
    exact this
  have h2 : (sortingHeap s.heap a vs).get? a = some (seqObj "list" #[] e1) := Heap.get?_push_of_some _ (Heap.get?_push_of_some _ ho1)
  have := body e1 h1 h2
  rw [← hkS] at this
  exact this
end
end NuK

namespace Nu
open PySem PySem.Spec L2
open PyProof.Rows hiding St
/-! ### sorted(xs, key=f) -/
section
variable {X : Cx} {pins : List (Addr × Obj)} {σ : L2.St}
/-- an object that nobody knew is known from now -/
theorem inv_adopt {H : Hp} {s : Shared} {a : Addr} {o : HO} (I : Inv X pins σ H s) (hf : FpOk X pins H a) (new : ObjOk X.prog X.w (upd H a o) s.heap a o) : Inv X pins σ (upd H a o) s := by
  obtain ⟨h0, h1, h2, h3, h4, h5⟩ := hf
  have nu : ∀ b u, H b = some u → upd H a o b = some u := fun b u e => by rw [upd_ne (ne_of_none e h0)]; exact e
  have := I.step (h' := s.heap) (H' := upd H a o) (g' := s.gens) (d' := s.drawn) (t' := s.toks) (ch := [a]) (fun b hb => by
      rw [List.mem_singleton.mp hb]; exact ⟨h3, h1, h4, h5⟩)
    (fun b o _ _ _ e _ => e) (fun b o _ _ _ e _ => ⟨o.slots, e⟩) (fun b u hb _ n => by rw [upd_ne (fun z => hb (by simp [z]))]; exact n) (fun b o _ e => ⟨o, e⟩)
    (fun b xs e => nu _ _ e) (fun b o u e => nu _ _ e) (fun b ps e => ⟨#[], by rw [nu _ _ e]; simp⟩) (fun m hm => hm) (I.hok.laidN (fun b u e => e) h0 new) I.bare
  exact this
theorem each_reads {K : PySem.W.Frag} {m : MS} {H F : Hp} {s : Shared} (I : Inv X pins σ H s) (sd : Std X.K m H F) : ∀ {kvs : List L2.V} {us : List Value} (ks : List D), Vals kvs us → Rps X.K F kvs ks → plDs 40 ks = true → PySem.W.EachIs (fun v (d : PyData) => ∃ as, Reads s.heap v d as) us (ks.map toPy)
  | _, _, [], hv, hr, _ => by cases hr; cases hv; exact .nil
  | _, _, d :: ks, hv, hr, hp => by
    cases hr with
    | cons r1 r2 =>
      cases hv with
      | cons v1 v2 =>
        have hd := plDs_mem hp d (List.mem_cons_self ..)
        have hp2 : plDs 40 ks = true := by
          unfold plDs at hp
          exact (Bool.and_eq_true_iff.mp hp).2
        exact .cons (Dp.reads I _ _ _ (See.dp sd 40 _ (See.refl 40 _ hd) hd r1) v1) (each_reads (K := K) I sd ks v2 r2 hp2)
theorem each_bs {β : Type} {g : β → L2.V} : ∀ {bs : List β} {its : List Value}, Vals (bs.map g) its → PySem.W.EachIs (fun v b => RelV (g b) v) its bs
  | [], _, h => by cases h; exact .nil
  | b :: bs, _, h => by
    cases h with
    | cons h1 h2 => exact .cons h1 (each_bs h2)
theorem vals_bs {β : Type} {g : β → L2.V} : ∀ {bs : List β} {its : List Value}, PySem.W.EachIs (fun v b => RelV (g b) v) its bs → Vals (bs.map g) its
  | [], _, h => by cases h; exact .nil
  | b :: bs, _, h => by
    cases h with
    | cons h1 h2 => exact .cons h1 (vals_bs h2)
/-- the data in the order of their keys -/
noncomputable def srtKD (xs ks : List D) : List D := ((xs.zip ks).mergeSort fun p q => leD p.2 q.2).map (·.1)
theorem room_in2 {k : Nat} {A : Around} (r : Room (k + 1) A) : Room k A.in1.in1 :=
  ⟨r.hd, by have := r.dp; show A.depth + 3 * k + 5 < _; omega, by have := r.un; show A.units + 1 + 1 + 16 * k + 200 < _; omega⟩
theorem srt_key_run {m : MS} {H F : Hp} {s : Shared} {l : Addr} {vs : List L2.V} {xs ks : List D} {f : Addr} {fd : FuncData} {ps : List Str} {k : Nat} {ac : ASp} {P : NX} {Q : VK}
    (I : Inv X pins σ H s) (sd : Std X.K m H F) (hs : SqL X.K H l vs) (r : Rps X.K F vs xs) (G : FnOk X.prog X.w X.K X.mg X.base (L2.CX X.prog X.w) k f fd ps (spA X.K ac)) (hb : Binds X.K fd ps []) (hr : Room (k + 1) X.A)
    (hl : xs.length = ks.length) (hp : plDs 40 ks = true) (hal : PySem.W.AllAlike (ks.map toPy)) (hsk : PySem.W.Sortable (ks.map toPy))
    (key : ∀ (i : Nat) (x d : D), xs[i]? = some x → ks[i]? = some d → ac [x] m (fun d' m' => d' = d ∧ m' = m) EZ0)
    (n : NewL (srtKD xs ks) m P) (q : ∀ v H' F' d m', P d m' → Go X.K m H F m' H' F' → Rp X.K F' v d → Q v H') :
    wpAny (model X.prog X.w) X.A (call (.builtin "sorted") [.ref l] [(Str.ofString "key", .ref f)]) (EP X pins σ Q) X.xe s := by
  obtain ⟨its, rv, hpl, hz⟩ := I.list hs
  have hvl := rv.length
  have hxl := r.length
  have hzi : its.length ≤ sizeLine := by omega
  refine PySem.W.sorted_of_sort hpl.isList hzi (PyProof.Rows.ksk_s1 _ _) (fun _ => PyProof.Rows.ksk_l1 _ _) fun E' => ?_
  rw [PyProof.Rows.ksk_t1]
  have hat := PySem.W.copyHeap_at s.heap its
  have hlt : (s.heap.objs.size + 1 : Nat) < (PySem.W.copyHeap s.heap its).objs.size := Heap.lt_size hat
  refine NuK.key2_tree (s := { s with heap := PySem.W.copyHeap s.heap its }) hat hzi fun e1 g1 g2 => ?_
  have kk : ∀ b o, s.heap.get? b = some o → (PySem.W.sortingHeap (PySem.W.copyHeap s.heap its) (s.heap.objs.size + 1) its).get? b = some o := fun b o e =>
    PySem.W.sortingHeap_old (Nat.ne_of_lt (Nat.lt_succ_of_lt (Heap.lt_size e))) (PySem.W.copyHeap_old e)
  have I1 : Inv X pins σ H { s with heap := PySem.W.sortingHeap (PySem.W.copyHeap s.heap its) (s.heap.objs.size + 1) its } := I.kept (t' := s.toks) kk
  have ha0 : s.heap.objs.size ≤ s.heap.objs.size + 1 := Nat.le_succ _
  have hk0 : (s.heap.objs.size : Nat) ≤ (PySem.W.copyHeap s.heap its).objs.size + 1 := by omega
  have hka : ((PySem.W.copyHeap s.heap its).objs.size + 1 : Nat) ≠ s.heap.objs.size + 1 := by omega
  refine NuK.key2_rest hzi (fun i kA e s' => ∃ (H' F' : Hp) (kvs : List L2.V), Inv X pins σ H' s' ∧ Go X.K m H F m H' F' ∧ Vals kvs kA.toList ∧ Rps X.K F' kvs (ks.take i) ∧ (kA.size = i ∧ i ≤ its.length) ∧
    (s'.heap.get? ((PySem.W.copyHeap s.heap its).objs.size + 1) = some (PyProof.Rows.seqObj "list" kA e) ∧ FpOk X pins H' ((PySem.W.copyHeap s.heap its).objs.size + 1)) ∧ s'.heap.get? (s.heap.objs.size + 1) = some (PyProof.Rows.seqObj "list" #[] e1) ∧ FpOk X pins H' (s.heap.objs.size + 1))
    ⟨H, F, [], I1, Go.refl sd, .nil, .nil, ⟨rfl, Nat.zero_le _⟩, ⟨g1, I.fpOk hk0 (I.hok.fresh hk0)⟩, g2, I.fpOk ha0 (I.hok.fresh ha0)⟩
    (fun i kA e s' ⟨_, _, _, _, _, _, _, h1, h2, _⟩ => ⟨h2.1, h1.1⟩) (fun i v kA e s' hv ⟨H', F', kvs, I', g, kv, kr, ⟨hsz, hi'⟩, ⟨nk, fk⟩, na, fa⟩ => ?_) fun kA e s' ⟨H', F', kvs, I', g, kv, kr, ⟨hsz, _⟩, ⟨nk, fk⟩, na, fa⟩ => ?_
  · have hi : i < its.length := (List.getElem?_eq_some_iff.mp hv).1
    have hxi : xs[i]? = some (xs[i]'(by omega)) := List.getElem?_eq_getElem (by omega)
    have hki : ks[i]? = some (ks[i]'(by omega)) := List.getElem?_eq_getElem (by omega)
    obtain ⟨x, hx1, hx2⟩ := r.get hxi
    obtain ⟨u, hu, ru⟩ := rv.get hx1
    rw [hv] at hu; cases hu
    have hin : ∀ {b : Addr}, FpOk X pins H' b → b ∉ frs X.stack := fun {b} hf z => by
      rcases List.mem_cons.mp (I'.stkSub b z) with e | e
      · exact hf.2.1 e
      · exact hf.2.2.1 e
    have hlen1 : ([v] ++ ([] : List Value)).length = ps.length := G.len [x] H' (fun v' H'' => ∃ F'', Go X.K m H' F' m H'' F'' ∧ Rp X.K F'' v' (ks[i]'(by omega))) (fun _ _ _ => False)
      ⟨F', [xs[i]'(by omega)], m, _, EZ0, g.std, .cons (Rp.up g.grow _ hx2) .nil, key i _ _ hxi hki, fun v' H'' F'' d' m' ⟨e1, e2⟩ g2 r2 => ⟨F'', by subst e1 e2; exact ⟨g2, r2⟩⟩, fun _ _ _ _ _ _ _ z => z.elim⟩
    refine wpAny_call (codeAny_mono (G.run X.A.in1.in1 X.stack s' H' ⟨[v], []⟩ [v] [x] (fun v' H'' => ∃ F'', Go X.K m H' F' m H'' F'' ∧ Rp X.K F'' v' (ks[i]'(by omega))) (fun _ _ _ => False) (room_in2 hr) I'.env0.in1.in1 (hb s' [v] I'.kIn hlen1) (.cons ru .nil)
      ⟨F', [xs[i]'(by omega)], m, _, EZ0, g.std, .cons (Rp.up g.grow _ hx2) .nil, key i _ _ hxi hki, fun v' H'' F'' d' m' ⟨e1, e2⟩ g2 r2 => ⟨F'', by subst e1 e2; exact ⟨g2, r2⟩⟩, fun _ _ _ _ _ _ _ z => z.elim⟩) fun res s2 hq => ?_)
    cases res with
    | error e => obtain ⟨_, _, _, _, _, _, _, _, _, _, _, _, z⟩ := hq; exact z.elim
    | ok fl =>
      cases fl with
      | ret u =>
        obtain ⟨v', H'', os, bare, un, hok, rel, F'', g2, rp⟩ := hq
        have I2 : Inv X pins σ H'' s2 := I'.call' os un hok bare (ch := []) (fun b z => absurd z (by simp))
        have nk2 := un.keep _ _ nk fk.1 (hin fk) (by simp)
        have na2 := un.keep _ _ na fa.1 (hin fa) (by simp)
        have fk2 : FpOk X pins H'' ((PySem.W.copyHeap s.heap its).objs.size + 1) := ⟨un.free _ _ nk fk.1 (by simp), fk.2⟩
        have fa2 : FpOk X pins H'' (s.heap.objs.size + 1) := ⟨un.free _ _ na fa.1 (by simp), fa.2⟩
        have sb := Heap.SameBut.update s2.heap ((PySem.W.copyHeap s.heap its).objs.size + 1) (Obj.mapSeq (·.push u))
        refine ⟨nk2, fun c2 hc2 => ⟨H'', F'', kvs ++ [v'], ?_, g.trans g2, ?_, ?_, ⟨by rw [Array.size_push, hsz], by omega⟩, ⟨hc2, fk2⟩, (sb.2 _ hka.symm).trans na2, fa2⟩⟩
        · exact I2.turnedL (t' := s2.toks) (ch := [(PySem.W.copyHeap s.heap its).objs.size + 1]) (fun b o hb e => (sb.2 b fun z => hb (by simp [z])).trans e) fun b hb => by rw [List.mem_singleton.mp hb]; exact fk2
        · have : (kA.push u).toList = kA.toList ++ [u] := by simp
          rw [this]
          exact kv.append (.cons rel .nil)
        · have : ks.take (i + 1) = ks.take i ++ [ks[i]'(by omega)] := by rw [List.take_add_one, hki]; rfl
          rw [this]
          exact (kr.up g2.grow).append (.cons rp .nil)
      | next => exact False.elim hq
      | brk => exact False.elim hq
      | cont => exact False.elim hq
  · have hkz : ks.take its.length = ks := List.take_of_length_le (by omega)
    rw [hkz] at kr
    have er := each_reads (K := X.K) I' g.std ks kv kr hp
    have hks : kA.size = its.length := hsz
    have hdep : ∀ d, d ∈ ks.map toPy → d.depth ≤ 40 := fun d hd => by
      obtain ⟨y, hy, rfl⟩ := List.mem_map.mp hd
      exact (canLay_of 40 _ (plDs_mem hp _ hy)).2
    refine NuK.key2_end (κ := PySem.W.dataKind s'.heap (ks.map toPy)) nk na hka (PySem.W.SortsAt.data er hal hsk fun d hd => ?_) hks hzi fun h' tk c kp n' => ⟨rfl, ?_⟩
    · have := hdep d hd
      have := hr.un
      show X.A.units + 1 + 1 + d.depth < cLine
      omega
    -- the order
    have hbz : (vs.zip (xs.zip ks)).map (fun b => toPy b.2.2) = ks.map toPy := by
      have : (vs.zip (xs.zip ks)).map (fun b : L2.V × D × D => b.2.2) = ks := by
        have h1 : (vs.zip (xs.zip ks)).map (fun b : L2.V × D × D => b.2) = xs.zip ks := List.map_snd_zip (by rw [List.length_zip]; omega)
        have h2 : (xs.zip ks).map (fun b : D × D => b.2) = ks := List.map_snd_zip (by omega)
        rw [show (fun b : L2.V × D × D => b.2.2) = (fun b : D × D => b.2) ∘ (fun b : L2.V × D × D => b.2) from rfl, ← List.map_map, h1, h2]
      rw [show (fun b : L2.V × D × D => toPy b.2.2) = toPy ∘ (fun b : L2.V × D × D => b.2.2) from rfl, ← List.map_map, this]
    have hbv : (vs.zip (xs.zip ks)).map (fun b : L2.V × D × D => b.1) = vs := List.map_fst_zip (by rw [List.length_zip]; omega)
    have hbx : (vs.zip (xs.zip ks)).map (fun b : L2.V × D × D => b.2) = xs.zip ks := List.map_snd_zip (by rw [List.length_zip]; omega)
    have ko : PySem.W.KeyedOut false ((vs.zip (xs.zip ks)).map fun b => toPy b.2.2) its (PySem.W.sortVals (PySem.W.dataKind s'.heap (ks.map toPy)) false kA.toList its) := by
      rw [hbz]
      exact ⟨s'.heap, kA.toList, hal, rfl, er⟩
    have eo := PySem.W.keyedOut_each (R := fun v (b : L2.V × D × D) => RelV b.1 v) (fun b => toPy b.2.2) ko (each_bs (g := fun b : L2.V × D × D => b.1) (by rw [hbv]; exact rv))
    have vo := vals_bs (g := fun b : L2.V × D × D => b.1) eo
    have e3 : ((vs.zip (xs.zip ks)).mergeSort (PySem.W.dataLe false fun b => toPy b.2.2)).map (fun b : L2.V × D × D => b.2.1) = srtKD xs ks := by
      unfold srtKD
      have : ((vs.zip (xs.zip ks)).mergeSort (PySem.W.dataLe false fun b : L2.V × D × D => toPy b.2.2)).map (fun b : L2.V × D × D => b.2) = (xs.zip ks).mergeSort fun p q => leD p.2 q.2 := by
        rw [List.map_mergeSort (r := PySem.W.dataLe false fun b : L2.V × D × D => toPy b.2.2) (s := fun p q : D × D => leD p.2 q.2) (f := fun b : L2.V × D × D => b.2) (fun a _ b _ => rfl), hbx]
      rw [← this, List.map_map]; rfl
    have ro : Rps X.K F' (((vs.zip (xs.zip ks)).mergeSort (PySem.W.dataLe false fun b => toPy b.2.2)).map fun b : L2.V × D × D => b.1) (srtKD xs ks) := by
      rw [← e3]
      have := Rps.permBy (K := X.K) (F := F') (((vs.zip (xs.zip ks)).mergeSort (PySem.W.dataLe false fun b : L2.V × D × D => toPy b.2.2)).map fun b => (b.1, b.2.1)) (fun p hp => by
        obtain ⟨b, hb, rfl⟩ := List.mem_map.mp hp
        have hb := (List.mergeSort_perm _ _).mem_iff.mp hb
        obtain ⟨i, hi⟩ := List.getElem?_of_mem hb
        rw [List.getElem?_zip_eq_some] at hi
        have h2 := hi.2
        rw [List.getElem?_zip_eq_some] at h2
        obtain ⟨x, hx1, hx2⟩ := r.get h2.1
        rw [hi.1] at hx1
        cases hx1
        exact Rp.up g.grow _ hx2)
      rw [List.map_map, List.map_map] at this
      exact this
    have hol : (((vs.zip (xs.zip ks)).mergeSort (PySem.W.dataLe false fun b => toPy b.2.2)).map fun b : L2.V × D × D => b.1).length ≤ sizeLine := by
      rw [List.length_map, List.length_mergeSort, List.length_zip]
      omega
    have I2 : Inv X pins σ H' { s' with heap := h', toks := tk } := I'.turnedL (t' := tk) (ch := [s.heap.objs.size + 1, (PySem.W.copyHeap s.heap its).objs.size + 1]) (fun b o hb e => kp b o (fun z => hb (by simp [z])) (fun z => hb (by simp [z])) e) fun b hb => by
      rcases List.mem_cons.mp hb with e | e
      · rw [e]; exact fa
      · rw [List.mem_singleton.mp e]; exact fk
    exact ⟨.ref (s.heap.objs.size + 1), upd H' (s.heap.objs.size + 1) (.lst _), inv_adopt I2 fa ⟨hol, _, c, vo, n'⟩, rfl, newL_q n g.std ro (fun v H3 F3 d m3 pd g3 r3 => q v H3 F3 d m3 pd (g.trans g3) r3) _ fa.1⟩
def sSortK (ac : ASp) : BS := fun ds m P => match ds with
  | [d] => lsR d m fun xs => ∃ ks : List D, xs.length = ks.length ∧ (plDs 40 ks = true ∧ PySem.W.AllAlike (ks.map toPy) ∧ PySem.W.Sortable (ks.map toPy)) ∧ (∀ (i : Nat) (x d : D), xs[i]? = some x → ks[i]? = some d → ac [x] m (fun d' m' => d' = d ∧ m' = m) EZ0) ∧ NewL (srtKD xs ks) m P
  | _ => False
variable {a : Expr} {ta : T} {pos p kp q2 : Pos}
theorem se_sortK {x : Str} {k j : Nat} {ac : ASp} (hm : X.mg "sorted" = none) (c : Cal X.prog X.w X.K X.mg X.base k x (spA X.K ac)) (hr : Room j X.A) (ha : SE X a ta) (hk : k + 1 ≤ j := by decide) (hg : Gl X "sorted" := by rfl) (hg2 : Gl X x := by rfl)
    (hdb : (x == ("__debug__" : Str)) = false := by decide)
    (he : backTo pos (starEach [a] X.env) = (false, eval a X.env) :: backTo pos (starEach [] X.env) := by rfl) (he0 : starEach [a] X.env = (false, eval a X.env) :: starEach [] X.env := by rfl) (hpl : (backTo pos (starEach [a] X.env)).any (·.1) = false := by rfl)
    (hall : (backToKw pos (keywordEach [⟨some (Str.ofString "key"), .Name x q2, kp⟩] X.env)).all (·.1.isSome) = true := by rfl) (hnone : (backToKw pos (keywordEach [⟨some (Str.ofString "key"), .Name x q2, kp⟩] X.env)).any (·.1.isNone) = false := by rfl) (hks : (backToKw pos (keywordEach [⟨some (Str.ofString "key"), .Name x q2, kp⟩] X.env)).filterMap (·.1) = [Str.ofString "key"] := by rfl) :
    SE X (.Call (.Name "sorted" p) [a] [⟨some (Str.ofString "key"), .Name x q2, kp⟩] pos) (.bop (sSortK ac) (.cons ta .nil)) := ⟨fun ρ m P Z pp => ⟨fun F0 σ H F S Q V tk q kx => by
  obtain ⟨f, fd, ps, G, hmx, kpf, bi⟩ := c.ex
  refine wE_of (pe_callBK (id := "sorted") (r := fun vs zs H1 Q1 => zs = [.ref f] ∧ ∃ l ws F1 d1 m1 P1, vs = [.ref l] ∧ Std X.K m1 H1 F1 ∧ SqL X.K H1 l ws ∧ (∃ xs, Rps X.K F1 ws xs ∧ ∃ ks : List D, xs.length = ks.length ∧ (plDs 40 ks = true ∧ PySem.W.AllAlike (ks.map toPy) ∧ PySem.W.Sortable (ks.map toPy)) ∧ (∀ (i : Nat) (x d : D), xs[i]? = some x → ks[i]? = some d → ac [x] m1 (fun d' m' => d' = d ∧ m' = m1) EZ0) ∧ NewL (srtKD xs ks) m1 P1) ∧ d1 = D.non ∧ ∀ v H' F' d m', P1 d m' → Go X.K m1 H1 F1 m' H' F' → Rp X.K F' v d → Q1 v H')
    (fun pins s σ H1 vs zs us ws Q1 I r rz h => ?_) hg hm (by decide +kernel) (pa_cons pe_w pa_nil he0) (pk_cons (pe_glob (v := .ref f) hg2 hmx rfl hdb) pk_nil) (by decide) (by decide) he hpl hall hnone hks) ?_
  · obtain ⟨rfl, l, ws1, F1, d1, m1, P1, rfl, sd, hs, ⟨xs, hx, ks, h1, ⟨h2, h3, h4⟩, h5, h6⟩, _, q1⟩ := h
    rw [Vals.ref1 r]
    obtain ⟨d, rfl, rd⟩ := vals1 rz
    obtain rfl : d = Value.ref f := rd
    exact srt_key_run I sd hs hx G bi (hr.mono hk) h1 h2 h3 h4 h5 h6 q1
  · refine (ha.go ρ m _ Z pp).run F0 σ H F S _ V tk (fun v H1 F1 d m1 p1 g1 r1 => ?_) kx
    have p1 : lsR d m1 fun xs => ∃ ks : List D, xs.length = ks.length ∧ (plDs 40 ks = true ∧ PySem.W.AllAlike (ks.map toPy) ∧ PySem.W.Sortable (ks.map toPy)) ∧ (∀ (i : Nat) (x d : D), xs[i]? = some x → ks[i]? = some d → ac [x] m1 (fun d' m' => d' = d ∧ m' = m1) EZ0) ∧ NewL (srtKD xs ks) m1 P := p1
    obtain ⟨l, xs, ws, rfl, hx, h1, h2⟩ := lsR_use p1 g1.std r1
    exact ⟨rfl, l, ws, F1, .non, m1, P, rfl, g1.std, h1, ⟨xs, h2, hx⟩, rfl, fun v H' F' d m' pd g r => q v H' F' d m' pd (g1.trans g) r⟩⟩⟩
end
end Nu

namespace Nu
open PySem PySem.Spec L2
open PyProof.Rows hiding St
/-! ### remove, of data -/
section
variable {X : Cx}
def rRemD (K : PySem.W.Frag) : L2.V → List L2.V → Hp → VK → Prop := fun x xs H Q => ∃ (l : Addr) (ws : List L2.V) (y : L2.V) (es : List PyData) (d : PyData) (j : Nat), x = .ref l ∧ xs = [y] ∧ H l = some (.lst ws) ∧ (DpAll K H ws es ∧ Dp K H y d) ∧ (PyData.plainAll es = true ∧ d.plain = true ∧ d.depth ≤ 40) ∧ PySem.SeqAt.dataPlace es d = some j ∧ Q .non (upd H l (.lst (ws.eraseIdx j)))
theorem mt_remD (hu : X.A.units + 64 < cLine) : MtM X "list.remove" (rRemD X.K) := by
  intro pins s σ H x xs v us Q I rx rxs h
  obtain ⟨l, ws, y, es, d, j, rfl, rfl, hH, ⟨ha, hy⟩, ⟨hp, hd, hdep⟩, hj, q⟩ := h
  cases rx
  obtain ⟨u, rfl, ru⟩ := rxs.one
  obtain ⟨z, its, n, r, hl, e⟩ := I.lstM hH
  obtain ⟨as, h4⟩ := Dp.readsAll I es _ its ha r
  obtain ⟨bs, r1⟩ := Dp.reads I d y u hy ru
  refine PySem.SeqAt.remove_list_data (as := as) (bs := bs) (vs := its.toArray) ⟨_, e, rfl, n, rfl⟩ (by simpa using h4) r1 hp hd (by have := Nat.min_le_right (PyData.depthAll es) d.depth; omega) hj (by rw [List.size_toArray]; omega) ?_
  refine ⟨.non, _, I.lset (its' := its.eraseIdx j) (t' := s.toks) hH e ?_ (r.eraseIdx j) ?_, rfl, q⟩
  · show its.toArray.eraseIdxIfInBounds j = (its.eraseIdx j).toArray
    rw [List.eraseIdxIfInBounds_toArray]
  · have := List.length_eraseIdx_le ws j
    omega
variable {K : PySem.W.Frag}
theorem Rps.eraseIdx {F : Hp} : ∀ {vs : List L2.V} {ds : List D} (j : Nat), Rps K F vs ds → Rps K F (vs.eraseIdx j) (ds.eraseIdx j)
  | _, [], _, h => by cases h; exact .nil
  | _, d :: ds, 0, h => by
    cases h with
    | cons _ h2 => exact h2
  | _, d :: ds, j + 1, h => by
    cases h with
    | cons h1 h2 => exact .cons h1 (Rps.eraseIdx j h2)
theorem dpAll_of {m : MS} {H F : Hp} (s : Std K m H F) : ∀ {vs : List L2.V} (ds : List D), Rps K F vs ds → plDs 40 ds = true → DpAll K H vs (ds.map toPy)
  | _, [], h, _ => by cases h; exact .nil
  | _, d :: ds, h, hp => by
    cases h with
    | cons h1 h2 =>
      have hd := plDs_mem hp d (List.mem_cons_self ..)
      have hp2 : plDs 40 ds = true := by
        unfold plDs at hp
        exact (Bool.and_eq_true_iff.mp hp).2
      exact .cons (See.dp s 40 _ (See.refl 40 _ hd) hd h1) (dpAll_of s ds h2 hp2)
theorem plainAll_of : ∀ (ds : List D), plDs 40 ds = true → PyData.plainAll (ds.map toPy) = true
  | [], _ => rfl
  | d :: ds, hp => by
    have hd := plDs_mem hp d (List.mem_cons_self ..)
    have hp2 : plDs 40 ds = true := by
      unfold plDs at hp
      exact (Bool.and_eq_true_iff.mp hp).2
    rw [List.map_cons]
    simp only [PyData.plainAll, PyData.plain_of_canLay0 _ (canLay_of 40 _ hd).1, plainAll_of ds hp2, Bool.and_self]
def sRemD : BS := fun ds m P => match ds with
  | [.raw (.ref p), x] => ∃ xs : List D, m p = some (.lst xs) ∧ (plDs 40 xs = true ∧ plD 40 x = true) ∧ ∃ j : Nat, (∃ z, xs[j]? = some z ∧ eqD z x = true) ∧ (∀ (i : Nat) (z : D), i < j → xs[i]? = some z → eqD z x = false) ∧ P .non (mset m p (.lst (xs.eraseIdx j)))
  | _ => False
theorem bm_remD : BokM K (rRemD K) sRemD := fun d ds m P h x vs H F s r1 rs Q q => by
  unfold sRemD at h
  split at h
  · rename_i p0 x0 e; cases e
    cases r1
    obtain ⟨v, rfl, r2⟩ := rps1 rs
    obtain ⟨xs, e, ⟨hp1, hp2⟩, j, ⟨z, hz, hze⟩, hn, h⟩ := h
    obtain ⟨ws, a, b⟩ := s.cells _ _ e
    have hpl : PySem.SeqAt.dataPlace (xs.map toPy) (toPy x0) = some j := by
      unfold PySem.SeqAt.dataPlace
      rw [List.findIdx?_eq_some_iff_getElem]
      obtain ⟨hj, hz2⟩ := List.getElem?_eq_some_iff.mp hz
      refine ⟨by rw [List.length_map]; exact hj, ?_, fun i hi => ?_⟩
      · rw [List.getElem_map, hz2]; exact hze
      · have hil : i < xs.length := by omega
        have := hn i xs[i] hi (List.getElem?_eq_getElem hil)
        rw [List.getElem_map]
        rw [show PyData.eqv (toPy xs[i]) (toPy x0) = false from this]
        decide
    exact ⟨_, ws, v, xs.map toPy, _, j, rfl, rfl, a, ⟨dpAll_of s xs b hp1, See.dp s 40 _ (See.refl 40 _ hp2) hp2 r2⟩, ⟨plainAll_of xs hp1, PyData.plain_of_canLay0 _ (canLay_of 40 _ hp2).1, (canLay_of 40 _ hp2).2⟩, hpl, q _ _ _ _ _ h (Go.put s e ⟨_, upd_same, b.eraseIdx j⟩) .non⟩
  · exact h.elim
theorem k_remD {k : Nat} (hr : Room k X.A) : KOk X "remove" (kL sRemD) := kokL ⟨PySem.F.plainAttrs_list, PySem.F.slot_list_remove, PySem.F.type_list_remove, mt_remD hr.units⟩ bm_remD
end
end Nu

namespace Nu
open PySem PySem.Spec L2
open PyProof.Rows hiding St
/-! ### xs[::step], xs a list: some of them -/
def rSlA (K : PySem.W.Frag) : L2.V → Int → Hp → VK → Prop := fun x st H Q => ∃ (a : Addr) (vs : List L2.V), x = .ref a ∧ SqL K H a vs ∧ st ≠ 0 ∧ ∀ (zs : List L2.V) (p : Addr), (∀ z ∈ zs, z ∈ vs) → zs.length ≤ vs.length → H p = none → Q (.ref p) (upd H p (.lst zs))
def tSlA (K : PySem.W.Frag) (te : TE) (tk : TO) : TE := fun σ H Q => te σ H fun x H1 => tk σ H1 fun k H3 => ∃ j, k = some j ∧ rSlA K x j H3 Q
section
variable {X : Cx}
theorem sub_vals : ∀ {its : List Value} {vs : List L2.V} {us : List Value}, Vals vs its → (∀ u ∈ us, u ∈ its) → ∃ zs : List L2.V, Vals zs us ∧ (∀ z ∈ zs, z ∈ vs)
  | its, vs, [], _, _ => ⟨[], .nil, by simp⟩
  | its, vs, u :: us, h, hs => by
    obtain ⟨zs, h1, h2⟩ := sub_vals h fun u hu => hs u (List.mem_cons_of_mem _ hu)
    obtain ⟨i, hi⟩ := List.getElem?_of_mem (hs u (List.mem_cons_self ..))
    have hil : i < vs.length := by rw [h.length]; exact (List.getElem?_eq_some_iff.mp hi).1
    obtain ⟨u2, hu2, ru⟩ := h.get (List.getElem?_eq_getElem hil)
    rw [hi] at hu2; cases hu2
    exact ⟨vs[i] :: zs, .cons ru h1, fun z hz => by
      rcases List.mem_cons.mp hz with e | hz
      · rw [e]; exact List.getElem_mem hil
      · exact h2 z hz⟩
theorem sub_rps {K : PySem.W.Frag} {F : Hp} {vs : List L2.V} {xs : List D} (h : Rps K F vs xs) : ∀ (zs : List L2.V), (∀ z ∈ zs, z ∈ vs) → ∃ ks : List D, Rps K F zs ks ∧ (∀ k ∈ ks, k ∈ xs) ∧ ks.length = zs.length
  | [], _ => ⟨[], .nil, by simp, rfl⟩
  | z :: zs, hs => by
    obtain ⟨ks, h1, h2, h3⟩ := sub_rps h zs fun u hu => hs u (List.mem_cons_of_mem _ hu)
    obtain ⟨i, hi⟩ := List.getElem?_of_mem (hs z (List.mem_cons_self ..))
    have hil : i < xs.length := by rw [← h.length]; exact (List.getElem?_eq_some_iff.mp hi).1
    obtain ⟨z2, hz2, rz⟩ := h.get (List.getElem?_eq_getElem hil)
    rw [hi] at hz2; cases hz2
    exact ⟨xs[i] :: ks, .cons rz h1, fun k hk => by
      rcases List.mem_cons.mp hk with e | hk
      · rw [e]; exact List.getElem_mem hil
      · exact h2 k hk, by simp [h3]⟩
theorem pe_slAll {e k : Expr} {p2 pos : Pos} {te : TE} {tk : TO} (he : PE X e te) (hk : PO X (some k) tk) : PE X (.Subscript e (.Slice none none (some k) p2) pos) (tSlA X.K te tk) := by
  refine ⟨fun pins s σ H Q I h => ?_⟩
  refine Subscript_ (thn (he.run pins s σ H _ I h) fun v s1 ⟨x, H1, I1, r1, q1⟩ => ?_)
  refine wpAny_Slice ?_
  rw [evalPart_none]
  refine wpAny_pure (wpAny_pure (thn (hk.run pins s1 σ H1 _ I1 q1) fun vk s3 ⟨j, H3, I3, pk, q3⟩ => ?_))
  have I4 : Inv X pins σ H3 { s3 with heap := s3.heap.push { cls := .type "slice", data := .fields #[.none, .none, vk] } } := I3.kept (t' := s3.toks) fun b ob q => Heap.get?_push_of_some _ q
  obtain ⟨j, rfl, a, vs, rfl, hx, hj, q⟩ := q3
  cases r1
  obtain ⟨its, r, ht, hz⟩ := I4.list hx
  show wpAny (model X.prog X.w) X.A (subscriptTail e (.Slice none none (some k) p2) (.ref a) (.ref s3.heap.objs.size)) (EP X pins σ Q) X.xe { s3 with heap := s3.heap.push { cls := .type "slice", data := .fields #[.none, .none, vk] } }
  refine tail_any (ops := [.ref a, .ref s3.heap.objs.size]) ht.isList.typeIs slot_list_getitem.lookup (wpAny_getItem_list_slice ht.isList (Heap.IsSliceOf.new ..) .none .none pk (fun z => hj (Option.some.inj z)) ?_ (by rw [List.size_toArray, ← r.length]; exact hz)) (by with_unfolding_all rfl)
  obtain ⟨zs, m1, m2⟩ := sub_vals (us := (slicePick its.toArray none none (some j)).toList) r fun v hv => by
    have := pick_sub v hv
    rwa [List.toList_toArray] at this
  have le : zs.length ≤ vs.length := by
    have := slicePick_size_le its.toArray none none (some j)
    have n1 := r.length
    have n2 := m1.length
    rw [n2, Array.length_toList, n1]
    simpa using this
  exact ⟨.ref _, _, I4.laid (t' := s3.toks) (o := .lst zs) (fun b ob q => Heap.get?_push_of_some _ q) (Nat.le_refl _) ⟨by omega, _, 0, m1, by rw [Array.toArray_toList]; exact Heap.get?_push_size _ rfl⟩, rfl, q zs _ m2 le (I4.hok.fresh (Nat.le_refl _))⟩
def sSlAll : BS := fun ds m P => match ds with
  | [d, .int j] => lsR d m fun xs => j ≠ 0 ∧ ∀ ks : List D, (∀ k ∈ ks, k ∈ xs) → ks.length ≤ xs.length → NewL ks m P
  | _ => False
theorem se_slAll {a c : Expr} {ta tc : T} {p2 pos : Pos} (ha : SE X a ta) (hc : SE X c tc) : SE X (.Subscript a (.Slice none none (some c) p2) pos) (.bop sSlAll (.cons ta (.cons tc .nil))) := ⟨fun ρ m P Z p => ⟨fun F0 σ H F S Q V tk q kx => by
  refine wE_of (pe_slAll pe_w (po_some pe_w)) ?_
  refine (ha.go ρ m _ Z p).run F0 σ H F S _ V tk (fun x H1 F1 d1 m1 p1 g1 r1 => ?_) kx
  have p1 : W tc ρ m1 _ Z := p1
  refine (hc.go ρ m1 _ Z p1).run F0 σ H1 F1 (S.go g1) _ V tk (fun z H3 F3 d3 m3 p3 g3 r3 => ?_) (kx.go g1)
  cases d3 with
  | int h =>
    cases r3
    have g13 := g1.trans g3
    have r1 := r1.up g3.grow _
    refine ⟨h, rfl, h, rfl, ?_⟩
    have p3 : lsR d1 m3 fun xs => h ≠ 0 ∧ ∀ ks : List D, (∀ k ∈ ks, k ∈ xs) → ks.length ≤ xs.length → NewL ks m3 P := p3
    obtain ⟨a, xs, vs, rfl, ⟨h0, hx⟩, h1, h2⟩ := lsR_use p3 g13.std r1
    refine ⟨a, vs, rfl, h1, h0, fun zs pp k1 k2 hpn => ?_⟩
    obtain ⟨ks, c1, c2, c3⟩ := sub_rps h2 zs k1
    exact newL_q (hx ks c2 (by rw [c3, ← h2.length]; exact k2)) g13.std c1 (fun v H' F' d m' pd g r => q v H' F' d m' pd (g13.trans g) r) pp hpn
  | _ => exact False.elim p3⟩⟩
end
end Nu

namespace Nu
open PySem PySem.Spec L2
open PyProof.Rows hiding St
/-! ### range with a step upwards -/
def isRngS : IS := fun ds m R => match ds with
  | [.int i, .int j, .int c] => (-(2 ^ 40) ≤ i ∧ i < 2 ^ 40 ∧ -(2 ^ 40) ≤ j ∧ j < 2 ^ 40 ∧ 0 < c ∧ c < 2 ^ 20) ∧ ∀ n : Nat, (∀ k : Nat, k < n → i + (k : Nat) * c < j) → R (rngC i c n) (fun _ => True) m
  | _ => False
theorem rgC_pos {i j c : Int} (h1 : -(2 ^ 40) ≤ i) (h2 : i < 2 ^ 40) (h3 : -(2 ^ 40) ≤ j) (h4 : j < 2 ^ 40) (h5 : 0 < c) (h6 : c < 2 ^ 20) : ∃ n : Nat, RgC i j c n ∧ ∀ k : Nat, k < n → i + (k : Nat) * c < j := by
  have hz : Builtin.Range.rangeSize i j c = if i < j then (j - i - 1) / c + 1 else 0 := by
    unfold Builtin.Range.rangeSize
    rw [if_pos h5]
  have hq : i < j → 0 ≤ (j - i - 1) / c ∧ (j - i - 1) / c * c ≤ j - i - 1 ∧ (j - i - 1) / c ≤ j - i - 1 := fun h => by
    have a : 0 ≤ (j - i - 1) / c := Int.ediv_nonneg (by omega) (by omega)
    have b : (j - i - 1) / c * c ≤ j - i - 1 := Int.ediv_mul_le _ (by omega)
    exact ⟨a, b, Int.ediv_le_self _ (by omega)⟩
  refine ⟨(Builtin.Range.rangeSize i j c).toNat, ⟨by omega, by omega, ?_, ?_⟩, ?_⟩
  · unfold Builtin.Range.small
    rw [hz]
    simp only [Builtin.Range.rangeFitsLong, Bool.and_eq_true, Bool.or_eq_true, decide_eq_true_eq, beq_iff_eq, if_pos h5]
    split
    · rename_i h
      obtain ⟨a, b, d⟩ := hq h
      omega
    · omega
  · rw [hz]
    split
    · rename_i h
      have := (hq h).1
      omega
    · rfl
  · intro k hk
    rw [hz] at hk
    split at hk
    · rename_i h
      obtain ⟨a, b, d⟩ := hq h
      have hk' : (k : Int) ≤ (j - i - 1) / c := by omega
      have := Int.mul_le_mul_of_nonneg_right hk' (Int.le_of_lt h5)
      omega
    · exact absurd hk (by simp)
theorem isRngS3 {d d2 d3 : D} {m : MS} {R : List D → (MS → Prop) → MS → Prop} (h : isRngS [d, d2, d3] m R) : ∃ i j c, d = .int i ∧ d2 = .int j ∧ d3 = .int c ∧ (-(2 ^ 40) ≤ i ∧ i < 2 ^ 40 ∧ -(2 ^ 40) ≤ j ∧ j < 2 ^ 40 ∧ 0 < c ∧ c < 2 ^ 20) ∧ ∀ n : Nat, (∀ k : Nat, k < n → i + (k : Nat) * c < j) → R (rngC i c n) (fun _ => True) m := by
  cases d with
  | int i =>
    cases d2 with
    | int j =>
      cases d3 with
      | int c =>
        exact ⟨i, j, c, rfl, rfl, rfl, h.1, h.2⟩
      | _ => exact h.elim
    | _ => exact h.elim
  | _ => exact h.elim
variable {X : Cx} {a b c tg : Expr} {ta tb tc : T} {pos : Pos}
theorem si_rngS {p : Pos} (hm : X.mg "range" = none) (ha : SE X a ta) (hb : SE X b tb) (hc : SE X c tc) (hg : Gl X "range" := by rfl) (hs : starEach [a, b, c] X.env = (false, eval a X.env) :: starEach [b, c] X.env := by rfl) (hs2 : starEach [b, c] X.env = (false, eval b X.env) :: starEach [c] X.env := by rfl) (hs3 : starEach [c] X.env = (false, eval c X.env) :: starEach [] X.env := by rfl) (hpl : (backTo pos (starEach [b, c] X.env)).any (·.1) = false := by rfl) : SI X tg (.Call (.Name "range" p) [a, b, c] [] pos) isRngS (.cons ta (.cons tb (.cons tc .nil))) := ⟨fun ρ m P Z p => ⟨fun F0 σ H F S R V tk q kx => by
  refine wI_of (pi_range3 hg hm (pa_cons pe_w (pa_cons pe_w (pa_cons pe_w pa_nil hs3) hs2) hs) hs hpl) ?_
  refine (ha.go ρ m _ Z p).run F0 σ H F S _ V tk (fun x H1 F1 d1 m1 p1 g1 r1 => ?_) kx
  refine (hb.go ρ m1 _ Z p1).run F0 σ H1 F1 (S.go g1) _ V tk (fun y H2 F2 d2 m2 p2 g2 r2 => ?_) (kx.go g1)
  refine (hc.go ρ m2 _ Z p2).run F0 σ H2 F2 ((S.go g1).go g2) _ V tk (fun z H3 F3 d3 m3 p3 g3 r3 => ?_) ((kx.go g1).go g2)
  obtain ⟨i, j, k, rfl, rfl, rfl, ⟨h1, h2, h3, h4, h5, h6⟩, pR⟩ := isRngS3 p3
  cases r1
  cases r2
  cases r3
  obtain ⟨n, hR, hn⟩ := rgC_pos h1 h2 h3 h4 h5 h6
  exact ⟨i, j, k, n, rfl, hR, q _ H3 F3 _ _ m3 (pR n hn) ((g1.trans g2).trans g3) walk_rngC⟩⟩⟩
end Nu

namespace Nu
open PySem PySem.Spec L2
open PyProof.Rows hiding St
/-! ### tuple(reversed(x)) of a tuple or a list -/
theorem rt_nolen : typeLookup (.type "reversed") "__len__" = pure none := by rw [typeLookup_type, builtinLookup_eq_fast]; kernel_rfl
theorem rt_slot_hint : Slot "reversed" "__length_hint__" "reversed.__length_hint__" :=
  .of (owner := "reversed") (n := "__length_hint__") (by rw [typeLookup_type, builtinLookup_eq_fast]; kernel_rfl) (by decide +kernel) (by decide +kernel) (by decide +kernel)
    (by first | exact .inl (by decide +kernel) | exact .inr (by decide +kernel)) (by rw [isSubtype_type]; kernel_rfl)
theorem rt_entry_hint : entryFor table "reversed.__length_hint__" = some Builtin.«reversed.__length_hint__» := entryFor_of_tree (by kernel_rfl)
theorem rt_args_hint (a : Value) : argsOk "reversed.__length_hint__" ⟨[a], []⟩ := by
  unfold argsOk; rw [signature?_of (id := "reversed.__length_hint__") (n := ['_', '_', 't', 'n', 'i', 'h', '_', 'h', 't', 'g', 'n', 'e', 'l', '_', '_']) (o := ['d', 'e', 's', 'r', 'e', 'v', 'e', 'r']) (by kernel_rfl) RT.owner_rt]; kernel_rfl
section
variable {P : Program} {w : World} {A : Around} {E : Value → Shared → Prop} {s : Shared}
theorem rt_hint {it t : Addr} {items : Array Value} {Q : Value → Shared → Prop} (hit : RT.IsRt s.heap it t ((items.size : Int) - 1)) (ht : IsTup s.heap t items) (hz : (items.size : Int) < 2 ^ 63)
    (h : ∀ u tk, Q (.int items.size u) { s with toks := tk }) : wpAny (model P w) A (call (.builtin "reversed.__length_hint__") [.ref it]) Q E s := by
  obtain ⟨o, ho, hc, hd⟩ := id hit
  refine wpAny_call_entry rt_slot_hint hit.typeIs rt_entry_hint ?_ (rt_args_hint _)
  unfold Builtin.«reversed.__length_hint__»
  refine wpAny_bind (wpAny_of_eq (a := Value.ref it) rfl ?_)
  try dsimp only
  refine wpAny_bind (wpAny_field ho hd (x := .ref t) rfl ?_)
  try dsimp only
  rw [if_neg (show ¬ ((Value.ref t == Value.none) = true) from Bool.false_ne_true)]
  try dsimp only
  refine wpAny_bind (len_tuple ht hz ?_)
  refine wpAny_bind (wpAny_of_eq (a := some ((items.size : Nat) : Int)) rfl ?_)
  try dsimp only
  refine wpAny_bind (wpAny_field (s := { s with toks := s.toks + 1 + 1 }) ho hd (x := rawInt ((items.size : Int) - 1)) rfl ?_)
  show wpAny _ _ (if ((items.size : Nat) : Int) < (items.size : Int) - 1 + 1 then _ else _) _ _ _
  rw [if_neg (by omega)]
  have e : (items.size : Int) - 1 + 1 = items.size := by omega
  show wpAny _ _ (retInt ((items.size : Int) - 1 + 1)) _ _ _
  rw [e]
  refine wpAny_bind (wpAny_mkInt (wpAny_pure ⟨_, rfl, h _ _⟩))
theorem walks_rt (hh : A.handled = none) (I t : Addr) (hne : t ≠ I) (items : Array Value) (hz : items.size ≤ sizeLine) :
    Walks P w A I [I, t] [I] items.size (fun i v => items[items.size - 1 - i]? = some v) (fun i h => i ≤ items.size ∧ RT.IsRt h I t ((items.size : Int) - 1 - (i : Int)) ∧ IsTup h t items) where
  sub := fun b hb => by simp at hb; simp [hb]
  frame := fun _ h h' x hk => ⟨x.1, x.2.1.at fun o e => hk I (by simp) o e, (let ⟨o, ho, r⟩ := x.2.2; ⟨o, hk t (by simp) o ho, r⟩)⟩
  item := fun i s Q E hi x hQ => by
    have e : (items.size : Int) - 1 - (i : Int) = ((items.size - 1 - i : Nat) : Int) := by omega
    have hit := x.2.1
    rw [e] at hit
    have hx : items[items.size - 1 - i]? = some (items[items.size - 1 - i]'(by omega)) := Array.getElem?_eq_getElem (by omega)
    refine RT.next_rt_item hit x.2.2 hx hz fun h' hit' hs' => ?_
    have e2 : ((items.size - 1 - i : Nat) : Int) - 1 = (items.size : Int) - 1 - ((i + 1 : Nat) : Int) := by omega
    rw [e2] at hit'
    exact hQ _ h' (s.toks + 1) hx ⟨hi, hit', x.2.2.extBut hs'.extBut hne⟩ fun b o hb eo => hs'.extBut b o (fun h => hb (by simp [h])) eo
  done := fun s Q E x hQ => by
    have e : (items.size : Int) - 1 - (items.size : Int) = -1 := by omega
    have hit := x.2.1
    rw [e] at hit
    exact RT.next_rt_end hh hit fun h' he' => hQ h' s.toks fun b o hb eo => he' b o (fun h => hb (by simp [h])) eo
  self := fun _ _ _ _ x hQ => RT.iter_rt x.2.1 hQ
theorem collect_rt {it t : Addr} {items : Array Value} {Q : List Value → Shared → Prop} (hh : A.handled = none) (hit : RT.IsRt s.heap it t ((items.size : Int) - 1)) (ht : IsTup s.heap t items) (hne : t ≠ it) (hz : items.size ≤ sizeLine)
    (q : ∀ (h' : Heap) (tk : Nat) (acc : Array Value), (∀ b o, b ≠ it → s.heap.get? b = some o → h'.get? b = some o) → ItemsOf (fun i v => items[items.size - 1 - i]? = some v) acc items.size → Q acc.toList { s with heap := h', toks := tk }) :
    wpAny (model P w) A (collect (.ref it)) Q E s := by
  have WW := (walks_rt (P := P) (w := w) (A := A.in1) hh it t hne items hz).toS
  obtain ⟨oi, hoi, _⟩ := id hit
  have n1 : s.heap.objs.size ≠ it := Nat.ne_of_gt (Heap.lt_size hoi)
  have n2 : s.heap.objs.size ≠ t := Nat.ne_of_gt ht.lt
  have nf : s.heap.objs.size ∉ [it, t] := by simp only [List.mem_cons, List.not_mem_nil, or_false, not_or]; exact ⟨n1, n2⟩
  have z63 : (items.size : Int) < 2 ^ 63 := by have := sizeLine_eq; omega
  unfold collect
  refine wpAny_bind (wpAny_runValue (codeAny_builtin F.entry_proto_collect ?_))
  rw [Around.under_plainId F.plain_proto_collect _]
  show wpAny _ A.in1 (newList [] >>= fun l => again (.builtin "list.__iadd__" ⟨[l, .ref it], []⟩)) _ _ s
  refine wpAny_bind (wpAny_newObj_type (wpAny_pure ⟨plainId_quiet F.plain_list_iadd _, codeAny_builtin F.entry_list_iadd ?_⟩))
  rw [Around.under_plainId F.plain_list_iadd _]
  generalize hg : s.heap.push { cls := .type "list", data := .seq ([] : List Value).toArray } = g
  have k0 : ∀ b o, s.heap.get? b = some o → g.get? b = some o := fun b o e => by rw [← hg]; exact Heap.get?_push_of_some _ e
  have hS : g.get? s.heap.objs.size = some { cls := .type "list", data := .seq ([] : List Value).toArray } := by rw [← hg]; exact Heap.get?_push_size _ rfl
  have it1 : RT.IsRt g it t ((items.size : Int) - 1) := hit.at fun o e => k0 _ _ e
  have t1 : IsTup g t items := ht.keeps k0
  have hT : ({ s with heap := g } : Shared).TypeIs (.ref it) "reversed" := RT.IsRt.typeIs (s := { s with heap := g }) it1
  have e1 : Builtin.List.listSameRef (.ref s.heap.objs.size) (.ref it) = false := by simp [Builtin.List.listSameRef, n1]
  show wpAny _ A.in1 (Builtin.List.listExtendWith (.ref s.heap.objs.size) (.ref it) (.ref s.heap.objs.size)) _ _ _
  unfold Builtin.List.listExtendWith
  refine wpAny_bind (wpAny_typeOf hT ?_)
  rw [if_neg (by rw [e1]; decide)]
  refine wpAny_bind (RT.iter_rt (s := { s with heap := g }) it1 (wpAny_bind (wpAny_holding ?_)))
  unfold Builtin.List.listLengthHint
  refine wpAny_bind (wpAny_specialOf hT rt_nolen ?_)
  show wpAny _ A.in1 (specialOf (Value.ref it) (Str.ofString "__length_hint__") >>= _) _ _ _
  refine wpAny_bind (wpAny_specialOf hT rt_slot_hint.lookup ?_)
  generalize hid : ("reversed.__length_hint__" : String) = id1
  wp_delta
  rw [show splitId id1 = some ("reversed", "__length_hint__") from by subst hid; decide +kernel]
  subst hid
  refine wpAny_bind (wpAny_isInstance (b := true) hT (by rw [isSubtype_type]; kernel_rfl) ?_)
  rw [if_neg (by decide)]
  rw [if_neg (by decide +kernel)]
  refine wpAny_bind (wpAny_rule ?_)
  refine wpAny_bind (wpAny_of_eq (rt_slot_hint.bind _) ?_)
  try dsimp only
  refine wpAny_bind (wpAny_attempt (rt_hint (s := { s with heap := g }) it1 t1 z63 fun u tk => ?_))
  have b1 : Builtin.List.listFitsIndex (items.size : Int) = true := by have sl := sizeLine_eq; unfold Builtin.List.listFitsIndex; simp; omega
  have b2 : Builtin.List.listTooLong (items.size : Int).toNat = false := by unfold Builtin.List.listTooLong; simp; exact hz
  dsimp only
  rw [show asInt? (.int (items.size : Int) u) = pure (some (items.size : Int)) from rfl, pure_bind]
  dsimp only
  rw [if_neg (by rw [b1]; decide), if_neg (by omega), if_neg (by rw [b2]; decide)]
  refine wpAny_pure ?_
  have e0 : ((items.size : Nat) : Int) - 1 - ((0 : Nat) : Int) = (items.size : Int) - 1 := by omega
  by_cases h0 : items.size = 0
  · rw [if_neg (by rw [h0]; decide +kernel)]
    refine wpAny_pure ⟨plainId_quiet F.plain_extend_loop _, codeAny_extend_loopS WW hz _ nf _ items.size 0 _ _ _ rfl (Nat.zero_le _) ⟨Nat.zero_le _, by rw [e0]; exact it1.at fun o e => e, t1.keeps fun _ _ e => e⟩ hS (ItemsOf.nil _) fun s' acc c' hm hS' ha => ?_⟩
    show wpAny _ A (load s.heap.objs.size >>= _) _ _ s'
    refine wpAny_bind (wpAny_load hS' (wpAny_pure ?_))
    rw [Moved.eq_with hm]
    refine q s'.heap s'.toks acc (fun b o hb e => hm.heap b o (fun z => ?_) (k0 b o e)) ha
    rcases List.mem_cons.mp z with z | z
    · exact absurd (Heap.lt_size e) (by rw [z]; exact Nat.lt_irrefl _)
    · exact hb (List.mem_singleton.mp z)
  · rw [if_pos (by rw [show ((items.size : Int) != 0) = true from bne_iff_ne.mpr (by omega)]; rfl)]
    clear b1 b2 z63 WW
    have WW := (walks_rt (P := P) (w := w) (A := A.in1) hh it t hne items hz).toS
    refine wpAny_bind (wpAny_rule (wpAny_bind ?_))
    show wpAny _ A.in1 (updateSeq s.heap.objs.size (·.push .none) >>= fun _ => updateSeq s.heap.objs.size (·.pop)) _ _ _
    refine wpAny_bind (wpAny_updateSeq hS rfl ?_)
    have hS2 := Heap.get?_update_self (Obj.mapSeq (·.push Value.none)) hS rfl
    refine wpAny_updateSeq (hz := by seq_fits) hS2 rfl ?_
    have hS3 := Heap.get?_update_self (Obj.mapSeq (·.pop)) hS2 rfl
    have oth : ∀ b o, b ≠ s.heap.objs.size → g.get? b = some o → ((g.update s.heap.objs.size (Obj.mapSeq (·.push Value.none))).update s.heap.objs.size (Obj.mapSeq (·.pop))).get? b = some o :=
      fun b o hb e => (Heap.get?_update_other _ _ (Ne.symm hb)).trans ((Heap.get?_update_other _ _ (Ne.symm hb)).trans e)
    refine wpAny_pure ⟨plainId_quiet F.plain_extend_loop _, codeAny_extend_loopS WW hz _ nf _ items.size 0 _ _ _ rfl (Nat.zero_le _) ⟨Nat.zero_le _, by rw [e0]; exact it1.at fun o e => oth it o n1.symm e, (let ⟨o, ho, r⟩ := t1; ⟨o, oth t o n2.symm ho, r⟩)⟩ hS3 (ItemsOf.nil _) fun s' acc c' hm hS' ha => ?_⟩
    show wpAny _ A (load s.heap.objs.size >>= _) _ _ s'
    refine wpAny_bind (wpAny_load hS' (wpAny_pure ?_))
    rw [Moved.eq_with hm]
    refine q s'.heap s'.toks acc (fun b o hb e => hm.heap b o (fun z => ?_) (oth b o (Nat.ne_of_lt (Heap.lt_size e)) (k0 b o e))) ha
    rcases List.mem_cons.mp z with z | z
    · exact absurd (Heap.lt_size e) (by rw [z]; exact Nat.lt_irrefl _)
    · exact hb (List.mem_singleton.mp z)
theorem code_tuple_rt {it t : Addr} {items : Array Value} {Q₁ : Value → Shared → Prop} (hh : A.handled = none) (hit : RT.IsRt s.heap it t ((items.size : Int) - 1)) (ht : IsTup s.heap t items) (hne : t ≠ it) (hz : items.size ≤ sizeLine)
    (h : ∀ (h' : Heap) (tk : Nat) (acc : Array Value), (∀ b o, b ≠ it → s.heap.get? b = some o → h'.get? b = some o) → ItemsOf (fun i v => items[items.size - 1 - i]? = some v) acc items.size →
      Q₁ (.ref h'.objs.size) { s with heap := h'.push { cls := .type "tuple", data := .seq acc }, toks := tk }) :
    codeAny (model P w) A (.call (.builtin "tuple.__new__") ⟨[.type "tuple", .ref it], []⟩) (wants Q₁ E) s := by
  refine codeAny_of_tree ?_
  show wpAny _ A.in1 (do checkBuiltinCall "tuple.__new__" ⟨[.type "tuple", .ref it], []⟩; again (.builtin "tuple.__new__" ⟨[.type "tuple", .ref it], []⟩)) _ _ s
  refine wpAny_bind (wpAny_of_eq (F.newCall_tuple_1 _) (wpAny_pure ⟨plainId_quiet F.plain_tuple_new _, codeAny_builtin F.entry_tuple_new ?_⟩))
  rw [Around.under_plainId F.plain_tuple_new _]
  have hsub := sub_tuple_self
  have hinit := init_tuple_lookup
  have hmh := madeHere_tuple
  have hTI : s.TypeIs (.ref it) "reversed" := hit.typeIs
  have h1 : A.in1.handled = none := hh
  wp_walk using wpAny_typeOf hTI, collect_rt (A := A.in1) h1 hit ht hne hz
  intro h' tk acc hk hacc
  show wpAny _ _ (Builtin.Tuple.tupleExact acc.toList.toArray >>= fun v => PySem.ret v) _ _ _
  unfold Builtin.Tuple.tupleExact
  rw [Array.toArray_toList]
  exact wpAny_bind (wpAny_newObj_type (wpAny_pure (h h' tk acc hk hacc)) (by show acc.size ≤ sizeLine; rw [hacc.1]; exact hz))
theorem call_tuple_rt {it t : Addr} {items : Array Value} {Q : Value → Shared → Prop} (hh : A.handled = none) (hit : RT.IsRt s.heap it t ((items.size : Int) - 1)) (ht : IsTup s.heap t items) (hne : t ≠ it) (hz : items.size ≤ sizeLine)
    (q : ∀ (h' : Heap) (tk : Nat) (acc : Array Value), (∀ b o, b ≠ it → s.heap.get? b = some o → h'.get? b = some o) → ItemsOf (fun i v => items[items.size - 1 - i]? = some v) acc items.size →
      Q (.ref h'.objs.size) { s with heap := h'.push { cls := .type "tuple", data := .seq acc }, toks := tk }) :
    wpAny (model P w) A (call (.type "tuple") [.ref it]) Q E s := by
  refine callType_codes (Q₁ := fun obj s₁ => s₁.TypeIs obj "tuple" ∧ Q obj s₁) F.called_tuple (F.typeCall_tuple_1 _) F.entry_object_init
    (code_tuple_rt (A := A.in1) hh hit ht hne hz fun h' tk acc hk hacc => ⟨⟨_, Heap.get?_push_size _ rfl, rfl⟩, q h' tk acc hk hacc⟩) fun obj s₁ h₁ => ?_
  exact ⟨h₁.1, F.args_object_init_2 obj _, object_init_meets F.called_tuple.init.lookup F.called_tuple.made (by decide) P w A.in1 _ s₁ ⟨h₁.1, rfl, h₁.2⟩⟩
end
def tTupRvA (K : PySem.W.Frag) (te : TE) : TE := fun σ H Q => te σ H fun v H1 => ∃ (a : Addr) (tp : Bool) (xs : List L2.V), v = .ref a ∧ SqA K tp H1 a xs ∧ ∀ q, H1 q = none → Q (.ref q) (upd H1 q (.tup xs.reverse))
section
variable {X : Cx}
theorem pe_tupRvA {e : Expr} {te : TE} {p p2 pos pos2 : Pos} (hc : X.calm = true) (hg : Gl X "tuple") (hm : X.mg "tuple" = none) (hg2 : Gl X "reversed") (hm2 : X.mg "reversed" = none) (he : PE X e te)
    (hs : starEach [e] X.env = (false, eval e X.env) :: starEach [] X.env) (hs2 : starEach [.Call (.Name "reversed" p2) [e] [] pos2] X.env = (false, eval (.Call (.Name "reversed" p2) [e] [] pos2) X.env) :: starEach [] X.env) :
    PE X (.Call (.Name "tuple" p) [.Call (.Name "reversed" p2) [e] [] pos2] [] pos) (tTupRvA X.K te) := by
  refine ⟨fun pins s σ H Q I h => ?_⟩
  refine Call_ (ld_blt I hg hm boot_tuple (PyProof.Rows.callWith_type1 (args_cons (Call_ (ld_blt I hg2 hm2 PyProof.Rows.boot_reversed (PyProof.Rows.callWith_type1 (args_cons (thn (he.run pins s σ H _ I h) fun u s1 ⟨v, H1, I1, r1, q1⟩ => args_nil ?_) hs) hs rfl))) hs2) hs2 rfl))
  obtain ⟨a, tp, xs, rfl, hq, q⟩ := q1
  obtain rfl : u = Value.ref a := r1
  obtain ⟨f0, f1, f2, f3, f4, f5⟩ := I1.fpOk (H' := H1) (b := s1.heap.objs.size) (Nat.le_refl _) (I1.hok.fresh (Nat.le_refl _))
  cases tp with
  | false =>
    obtain ⟨its, rv, pl, hz⟩ := I1.list hq
    have hl := pl.isList
    obtain ⟨ol, hol, _⟩ := id hl
    have ne : a ≠ s1.heap.objs.size := Nat.ne_of_lt (Heap.lt_size hol)
    have nz : its.toArray.size ≤ sizeLine := by rw [List.size_toArray, ← rv.length]; exact hz
    refine call_reversed_list hl (args_nil ?_)
    have I2 : Inv X pins σ H1 { s1 with heap := s1.heap.push (revObj a ((its.toArray.size : Int) - 1)) } := I1.kept (t' := s1.toks) fun b o e => Heap.get?_push_of_some _ e
    refine RT.call_tuple_rev (s := { s1 with heap := s1.heap.push (revObj a ((its.toArray.size : Int) - 1)) }) (I1.ok.hd hc) ⟨_, Heap.get?_push_size _ rfl, rfl, rfl⟩ (hl.push _) ne nz fun h' tk acc hk hi => ?_
    have I3 : Inv X pins σ H1 { s1 with heap := h', toks := tk } := I2.turned (t' := tk) (fun b o hb e => hk b o hb e) f0 f1 f3 f4 f5
    refine ⟨.ref h'.objs.size, upd H1 h'.objs.size (.tup xs.reverse), I3.laid (t' := tk) (fun c o e => Heap.get?_push_of_some _ e) (Nat.le_refl _) (show ObjOk X.prog X.w _ _ _ (.tup xs.reverse) from ⟨by rw [List.length_reverse]; exact hz, acc.toList, RT.vals_rev rv hi, ?_⟩), rfl, q _ (I3.hok.fresh (Nat.le_refl _))⟩
    rw [Array.toArray_toList]
    exact IsTup.new _ _
  | true =>
    obtain ⟨its, rv, ht, hz⟩ := I1.tuple hq
    have ne : a ≠ s1.heap.objs.size := Nat.ne_of_lt ht.lt
    have nz : its.toArray.size ≤ sizeLine := by rw [List.size_toArray, ← rv.length]; exact hz
    have z63 : (its.toArray.size : Int) < 2 ^ 63 := by have := sizeLine_eq; omega
    refine RT.call_reversed_tup ht (fun A E Q k => len_tuple ht z63 k) (args_nil ?_)
    have I2 : Inv X pins σ H1 { s1 with heap := s1.heap.push (RT.rtObj a ((its.toArray.size : Int) - 1)), toks := s1.toks + 1 + 1 } := I1.kept (t' := s1.toks + 1 + 1) fun b o e => Heap.get?_push_of_some _ e
    refine call_tuple_rt (s := { s1 with heap := s1.heap.push (RT.rtObj a ((its.toArray.size : Int) - 1)), toks := s1.toks + 1 + 1 }) (I1.ok.hd hc) ⟨_, Heap.get?_push_size _ rfl, rfl, rfl⟩ (ht.push _) ne nz fun h' tk acc hk hi => ?_
    have I3 : Inv X pins σ H1 { s1 with heap := h', toks := tk } := I2.turned (t' := tk) (fun b o hb e => hk b o hb e) f0 f1 f3 f4 f5
    refine ⟨.ref h'.objs.size, upd H1 h'.objs.size (.tup xs.reverse), I3.laid (t' := tk) (fun c o e => Heap.get?_push_of_some _ e) (Nat.le_refl _) (show ObjOk X.prog X.w _ _ _ (.tup xs.reverse) from ⟨by rw [List.length_reverse]; exact hz, acc.toList, RT.vals_rev rv hi, ?_⟩), rfl, q _ (I3.hok.fresh (Nat.le_refl _))⟩
    rw [Array.toArray_toList]
    exact IsTup.new _ _
def sTupRev : BS := fun ds m P => match ds with
  | [d] => seqR d m fun xs => P (.tup xs.reverse) m
  | _ => False
theorem se_tupRev {e : Expr} {t : T} {p p2 pos pos2 : Pos} (hm : X.mg "tuple" = none) (hm2 : X.mg "reversed" = none) (he : SE X e t) (hc : X.calm = true := by rfl) (hg : Gl X "tuple" := by rfl) (hg2 : Gl X "reversed" := by rfl)
    (hs : starEach [e] X.env = (false, eval e X.env) :: starEach [] X.env := by rfl) (hs2 : starEach [.Call (.Name "reversed" p2) [e] [] pos2] X.env = (false, eval (.Call (.Name "reversed" p2) [e] [] pos2) X.env) :: starEach [] X.env := by rfl) :
    SE X (.Call (.Name "tuple" p) [.Call (.Name "reversed" p2) [e] [] pos2] [] pos) (.bop sTupRev (.cons t .nil)) := ⟨fun ρ m P Z pp => ⟨fun F0 σ H F S Q V tk q kx => by
  refine wE_of (pe_tupRvA hc hg hm hg2 hm2 pe_w hs hs2) ?_
  refine (he.go ρ m _ Z pp).run F0 σ H F S _ V tk (fun v H1 F1 d m1 pd g1 r1 => ?_) kx
  obtain ⟨a, tp, xs, vs, rfl, h, h1, h2⟩ := seqR_use pd g1.std r1
  exact ⟨a, tp, vs, rfl, h1, fun q' hq' => newT_q h g1.std h2.reverse (fun v H' F' d m' pd g r => q v H' F' d m' pd (g1.trans g) r) q' hq'⟩⟩⟩
end
end Nu

namespace Nu
open PySem PySem.Spec L2
open PyProof.Rows hiding St
/-! ### list(d.values()) -/
def tLstVals (te : TE) : TE := fun σ H Q => te σ H fun x H1 => ∃ (d : Addr) (kvs : List (Key × L2.V)), x = .ref d ∧ H1 d = some (.dK kvs) ∧ ∀ q, H1 q = none → Q (.ref q) (upd H1 q (.lst (kvs.map (·.2))))
section
variable {X : Cx} {e : Expr} {te : TE} {t : T} {p apos cpos pos : Pos}
theorem vals_of_kv : ∀ {kvs : List (Key × L2.V)} {vs : List (Key × Value)}, KV kvs vs → Vals (kvs.map (·.2)) (vs.map (·.2))
  | _, _, .nil => .nil
  | _, _, .cons h t => .cons h.2 (vals_of_kv t)
theorem items_snd {kvs : List (Key × Value)} {acc : Array Value} (h : ItemsOf (fun i v => ∃ k, kvs[i]? = some (k, v)) acc kvs.length) : acc.toList = kvs.map (·.2) := by
  have hl : acc.toList.length = kvs.length := by rw [Array.length_toList]; exact h.1
  apply List.ext_getElem?
  intro j
  by_cases hj : j < kvs.length
  · have e1 : acc.toList[j]? = some (acc.toList[j]'(by omega)) := List.getElem?_eq_getElem (by omega)
    obtain ⟨k, e2⟩ := h.2 j _ (by rw [← Array.getElem?_toList]; exact e1)
    rw [e1, List.getElem?_map, e2]; rfl
  · rw [List.getElem?_eq_none (by omega), List.getElem?_eq_none (by rw [List.length_map]; omega)]
theorem pe_lstVals (hc : X.calm = true) (he : PE X e te) (hg : Gl X "list") (hm : X.mg "list" = none) (hbase : attributeBase e "values" X.env (eval e X.env) = eval e X.env) (hline : (apos.endLine == cpos.line) = true)
    (hs : starEach [.Call (.Attribute e "values" apos) [] [] cpos] X.env = (false, eval (.Call (.Attribute e "values" apos) [] [] cpos) X.env) :: starEach [] X.env) :
    PE X (.Call (.Name "list" p) [.Call (.Attribute e "values" apos) [] [] cpos] [] pos) (tLstVals te) := by
  refine ⟨fun pins s σ H Q I hq => Call_ (ld_blt I hg hm boot_list (PyProof.Rows.callWith_type1 (args_cons ?_ hs) hs rfl))⟩
  refine wpAny_Call_method (T := "dict") (id := "dict.values") hbase rfl hline F.plainAttrs_dict F.slot_dict_values F.type_dict_values (thn (he.run pins s σ H _ I hq) fun u s1 ⟨x, H1, I1, rx, d, kvs, ex, hd, q⟩ => ?_)
  subst ex
  obtain rfl : u = Value.ref d := rx
  obtain ⟨hz, hs0, vs, kv, hdo⟩ := I1.hok d _ hd
  obtain ⟨ep, hat⟩ := hdo.dictAt
  have lk : kvs.length = vs.length := Paired.length kv
  have I2 : Inv X pins σ H1 { s1 with heap := s1.heap.push { cls := .type "dict_values", data := .fields #[.ref d] } } := I1.kept (t' := s1.toks) fun b ob z => Heap.get?_push_of_some _ z
  refine ⟨hdo.typeIs, hdo.mapOf.noDict, ?_⟩
  show wpAny _ _ (callWith cpos (.builtin "dict.values") [.ref d] [] []) _ X.xe s1
  refine method_meetsIn F.slot_dict_values F.entry_dict_values rfl (PySem.evalArgs_none ⟨rfl, hdo.typeIs, F.args_dict_values_1 _, _, meets_dict_values (mixKind X.prog X.w) d hs0, ⟨vs, hdo⟩, args_nil ?_⟩)
  refine PySem.W.kdl_call (PySem.W.kdl_values (knd := mixKind X.prog X.w) (kvs := vs) (ep := ep) (d := d) (r := s1.heap.objs.size)) (I1.ok.hd hc) ⟨⟨_, Heap.get?_push_size _ rfl, rfl, rfl⟩, hat.push _⟩ (by omega) fun h' tk acc c hk hS ha => ?_
  have e1 := items_snd ha
  have le : s1.heap.objs.size ≤ (s1.heap.push { cls := .type "dict_values", data := .fields #[.ref d] }).objs.size := by rw [Heap.size_push]; exact Nat.le_succ _
  refine ⟨.ref _, upd H1 _ (.lst (kvs.map (·.2))), I1.laid (t' := tk) (fun b o z => hk b o (Heap.get?_push_of_some _ z)) le (show ObjOk X.prog X.w _ _ _ (.lst (kvs.map (·.2))) from ⟨by rw [List.length_map]; exact hz, vs.map (·.2), c, vals_of_kv kv, ?_⟩), rfl, q _ (I1.hok.fresh le)⟩
  rw [← e1, Array.toArray_toList]
  exact hS
theorem RKs.vals {K : PySem.W.Frag} {F : Hp} {l : List (Key × L2.V)} {r : List (Key × D)} (h : RKs K F l r) : Rps K F (l.map (·.2)) (r.map (·.2)) := by
  unfold RKs at h
  induction h with
  | nil => exact .nil
  | cons h t ih => exact .cons h.2 ih
def sLstVals : BS := fun ds m P => match ds with
  | [.raw (.ref p)] => ∃ kds, m p = some (.dct kds) ∧ NewL (kds.map (·.2)) m P
  | _ => False
theorem se_lstVals (hm : X.mg "list" = none) (he : SE X e t) (hc : X.calm = true := by rfl) (hg : Gl X "list" := by rfl) (hbase : attributeBase e "values" X.env (eval e X.env) = eval e X.env := by rfl) (hline : (apos.endLine == cpos.line) = true := by rfl)
    (hs : starEach [.Call (.Attribute e "values" apos) [] [] cpos] X.env = (false, eval (.Call (.Attribute e "values" apos) [] [] cpos) X.env) :: starEach [] X.env := by rfl) :
    SE X (.Call (.Name "list" p) [.Call (.Attribute e "values" apos) [] [] cpos] [] pos) (.bop sLstVals (.cons t .nil)) := ⟨fun ρ m P Z pp => ⟨fun F0 σ H F S Q V tk q kx => by
  refine wE_of (pe_lstVals hc pe_w hg hm hbase hline hs) ?_
  refine (he.go ρ m _ Z pp).run F0 σ H F S _ V tk (fun v H1 F1 d m1 pd g1 r1 => ?_) kx
  have pd : sLstVals [d] m1 P := pd
  unfold sLstVals at pd
  split at pd
  · rename_i pa e; cases e; cases r1
    obtain ⟨kds, hp, h⟩ := pd
    obtain ⟨vs, e1, rk⟩ := g1.std.cells pa _ hp
    exact ⟨pa, vs, rfl, e1, fun q' hq' => newL_q h g1.std rk.vals (fun v H' F' d m' pd g r => q v H' F' d m' pd (g1.trans g) r) q' hq'⟩
  · exact pd.elim⟩⟩
end
end Nu

namespace Nu
open PySem PySem.Spec L2
open PyProof.Rows hiding St
/-! ### sorted(d.items()), d from texts to ints -/
abbrev SIp := Str × Int
def siPy (e : SIp) : PyData := .tuple [.str e.1, .int e.2]
def siK (e : SIp) : Key × L2.V := (.inr e.1, .int e.2)
abbrev AE := Addr × SIp
def aePy (b : AE) : PyData := siPy b.2
def srtAE (L : List AE) : List AE := L.mergeSort (PySem.W.dataLe false aePy)
theorem si_alike (L : List AE) : PySem.W.AllAlike (L.map aePy) := by
  intro d hd e he
  obtain ⟨x, _, rfl⟩ := List.mem_map.mp hd
  obtain ⟨y, _, rfl⟩ := List.mem_map.mp he
  unfold aePy siPy
  rw [PySem.W.alike, PySem.W.alikeAll, PySem.W.alikeAll, PySem.W.alikeAll, PySem.W.alike, PySem.W.alike]; rfl
theorem si_srt (L : List AE) : PySem.W.Sortable (L.map aePy) := .inl fun d hd => by
  obtain ⟨x, _, rfl⟩ := List.mem_map.mp hd
  exact ⟨_, _, rfl⟩
theorem each_refs : ∀ L : List AE, PySem.W.EachIs (fun v (b : AE) => v = Value.ref b.1) (L.map fun b => .ref b.1) L
  | [] => .nil
  | b :: L => .cons rfl (each_refs L)
theorem refs_each : ∀ {L : List AE} {out : List Value}, PySem.W.EachIs (fun v (b : AE) => v = Value.ref b.1) out L → out = L.map fun b => Value.ref b.1
  | [], _, .nil => rfl
  | b :: L, _, .cons h t => by rw [h, refs_each t]; rfl
theorem each_of_all {R : Value → AE → Prop} : ∀ (L : List AE), (∀ b ∈ L, R (.ref b.1) b) → PySem.W.EachIs R (L.map fun b => .ref b.1) L
  | [], _ => .nil
  | b :: L, h => .cons (h b (List.mem_cons_self ..)) (each_of_all L fun c hc => h c (List.mem_cons_of_mem _ hc))
section
variable {P : Program} {w : World} {A : Around} {E : Value → Shared → Prop} {s : Shared}
/-- sorted(v), v gathered as the pairs vs -/
theorem sorted_by {Q : Value → Shared → Prop} {h' : Heap} {tk : Nat} {L : List AE} (hu : A.units + 50 < cLine)
    (hz : L.length ≤ sizeLine) (hr : ∀ b ∈ L, Reads h' (.ref b.1) (aePy b) [])
    (q : ∀ h'' c, (∀ b o, h'.get? b = some o → h''.get? b = some o) → h''.get? h'.objs.size = some (seqObj "list" ((srtAE L).map fun b => Value.ref b.1).toArray c) → Q (.ref h'.objs.size) { s with heap := h'', toks := tk }) :
    wpAny (model P w) A (newList (L.map fun b => .ref b.1) >>= fun l => holding [l] (call (.builtin "list.sort") [l]) >>= fun _ => PySem.ret l) (fun f s' => ∃ u, f = .done (.ret u) ∧ Q u s') E { s with heap := h', toks := tk } := by
  refine wpAny_bind (wpAny_newList ?_ (by rw [List.length_map]; exact hz))
  have at0 : (h'.push (seqObj "list" (L.map fun b => Value.ref b.1).toArray 0)).get? h'.objs.size = some (seqObj "list" (L.map fun b => Value.ref b.1).toArray 0) := Heap.get?_push_size _ rfl
  refine wpAny_bind (wpAny_holding (PySem.W.list_sort_data (s := { s with heap := h'.push (seqObj "list" (L.map fun b => Value.ref b.1).toArray 0), toks := tk }) (R := fun v (b : AE) => v = Value.ref b.1) (enc := aePy) (bs := L) at0 (each_refs L)
    (each_of_all L fun b hb => ⟨[], PyProof.Rows.Reads.keeps (fun _ _ e => Heap.get?_push_of_some _ e) (hr b hb), by simp⟩) (si_alike L) (si_srt L) hz (fun b hb => ?_) fun out ho eo => ?_))
  · have hd : (aePy b).depth ≤ 3 := by unfold aePy siPy; simp [PyData.depth, PyData.depthAll]
    omega
  · have eo' := refs_each eo
    subst eo'
    obtain ⟨c, at2⟩ := PyProof.Rows.sortedHeap_at (vs := L.map fun b => Value.ref b.1) (out := ((srtAE L).map fun b => Value.ref b.1).toArray) at0
    refine wpAny_pure ⟨_, rfl, q _ c (fun b o e => ?_) at2⟩
    have lt : b < h'.objs.size := Heap.lt_size e
    rw [PyProof.Rows.sortedHeap_old (Nat.ne_of_lt lt) (by rw [size_push']; exact Nat.lt_succ_of_lt lt)]
    exact Heap.get?_push_of_some _ e
end
def tSrtItems (te : TE) : TE := fun σ H Q => te σ H fun x H1 => ∃ (d : Addr) (es : List SIp), x = .ref d ∧ H1 d = some (.dK (es.map siK)) ∧
  ∀ (as : List Addr) (p : Addr), as.length = es.length → as.Nodup → (∀ t ∈ as, H1 t = none) → p ∉ as → H1 p = none → Q (.ref p) (upd (LiI.putT H1 as (es.map siK)) p (.lst ((srtAE (as.zip es)).map fun b => .ref b.1)))
section
variable {X : Cx} {e : Expr} {te : TE} {t : T} {p apos cpos pos : Pos}
theorem tups_laid {pins : List (Addr × Obj)} {σ : L2.St} {H : Hp} {s : Shared} {h' : Heap} {tk : Nat} {kvs : List (Key × L2.V)} {vs : List (Key × Value)} {lo : Addr} {as : List Addr} (I : Inv X pins σ H s) (kv : KV kvs vs)
    (hk : ∀ b o, s.heap.get? b = some o → h'.get? b = some o) (hlo : s.heap.objs.size ≤ lo) (hl : as.length = vs.length) (hG : PySem.W.KdxG (mixKind X.prog X.w) vs lo h' as) :
    (∀ t ∈ as, H t = none) ∧ as.Nodup ∧ Inv X pins σ (LiI.putT H as kvs) { s with heap := h', toks := tk } := by
  have lk : kvs.length = vs.length := Paired.length kv
  have nd : as.Nodup := List.Pairwise.imp (fun {a b} (h : a < b) => Nat.ne_of_lt h) hG.rise
  have new : ∀ t ∈ as, H t = none := fun t ht => I.hok.fresh (Nat.le_trans hlo (Nat.le_of_lt (hG.above t ht)))
  have atP := LiI.putT_at as kvs H (by omega) nd
  have off : ∀ b, b ∉ as → LiI.putT H as kvs b = H b := fun b h1 => LiI.putT_off as kvs _ h1
  have low : ∀ b o, s.heap.get? b = some o → b ∉ as := fun b o e z => absurd (Heap.lt_size e) (Nat.not_lt.mpr (Nat.le_trans hlo (Nat.le_of_lt (hG.above b z))))
  have kp : ∀ b u, H b = some u → LiI.putT H as kvs b = some u := fun b u e => by
    rw [off b (fun z => by rw [new b z] at e; cases e)]
    exact e
  refine ⟨new, nd, ?_⟩
  refine I.call' (ch := []) rfl ⟨fun b o q _ _ _ => hk b o q, fun b o q _ _ _ => ⟨o.slots, hk b o q⟩, fun b o q n _ => ?_, fun b o q _ => ⟨o, hk b o q⟩, fun b xs q => kp b _ q, fun b o u q => kp b _ q, fun b ps q => ⟨#[], by rw [kp b _ q]; simp⟩⟩ (fun b u q => ?_) I.bare fun b z => by simp at z
  · rw [off b (low b o q)]
    exact n
  · by_cases hb : b ∈ as
    · obtain ⟨j, pk, e1, e2, e3⟩ := LiI.paired_ix atP hb
      rw [e3] at q
      cases q
      obtain ⟨key, k, x, f1, f2, f3⟩ := hG.pairs j b e1
      obtain ⟨qv, g1, g2, g3⟩ := LiI.paired_get kv e2
      rw [f1] at g1
      cases g1
      have rk : RelV (kV pk.1) key := by
        rw [g2]
        exact relV_key (show keyIs k key = true from f2)
      exact ⟨by show 2 ≤ sizeLine; decide, [key, x], .cons rk (.cons g3 .nil), ⟨_, f3, rfl, _, rfl⟩⟩
    · rw [off b hb] at q
      exact (I.hok b u q).stay (fun d v _ y => hk d v y) (fun d y => kp d _ y) fun d xs y => kp d _ y
theorem zip_ix {as : List Addr} {es : List SIp} {b : AE} (h : b ∈ as.zip es) : ∃ j : Nat, as[j]? = some b.1 ∧ es[j]? = some b.2 := by
  obtain ⟨j, hj⟩ := List.getElem?_of_mem h
  exact ⟨j, List.getElem?_zip_eq_some.mp hj⟩
theorem vals_of_refs : ∀ L : List AE, Vals (L.map fun b => L2.V.ref b.1) (L.map fun b => Value.ref b.1)
  | [] => .nil
  | _ :: L => .cons rfl (vals_of_refs L)
theorem pe_srtItems (hu : X.A.units + 64 < cLine) (hc : X.calm = true) (he : PE X e te) (hg : Gl X "sorted") (hm : X.mg "sorted" = none) (hbase : attributeBase e "items" X.env (eval e X.env) = eval e X.env) (hline : (apos.endLine == cpos.line) = true)
    (hs : starEach [.Call (.Attribute e "items" apos) [] [] cpos] X.env = (false, eval (.Call (.Attribute e "items" apos) [] [] cpos) X.env) :: starEach [] X.env) (hp : (backTo pos (starEach [] X.env)).any (·.1) = false) :
    PE X (.Call (.Name "sorted" p) [.Call (.Attribute e "items" apos) [] [] cpos] [] pos) (tSrtItems te) := by
  refine ⟨fun pins s σ H Q I hq => Call_ (ld_blt I hg hm boot_sorted (PyProof.Rows.callWith_builtin1 (args_cons ?_ hs) hs hp))⟩
  refine wpAny_Call_method (T := "dict") (id := "dict.items") hbase rfl hline F.plainAttrs_dict F.slot_dict_items F.type_dict_items (thn (he.run pins s σ H _ I hq) fun u s1 ⟨x, H1, I1, rx, d, es, ex, hd, q⟩ => ?_)
  subst ex
  obtain rfl : u = Value.ref d := rx
  obtain ⟨hz, hs0, vs, kv, hdo⟩ := I1.hok d _ hd
  obtain ⟨ep, hat⟩ := hdo.dictAt
  have lk : (es.map siK).length = vs.length := Paired.length kv
  have I2 : Inv X pins σ H1 { s1 with heap := s1.heap.push { cls := .type "dict_items", data := .fields #[.ref d] } } := I1.kept (t' := s1.toks) fun b ob z => Heap.get?_push_of_some _ z
  refine ⟨hdo.typeIs, hdo.mapOf.noDict, ?_⟩
  show wpAny _ _ (callWith cpos (.builtin "dict.items") [.ref d] [] []) _ X.xe s1
  refine method_meetsIn F.slot_dict_items F.entry_dict_items rfl (PySem.evalArgs_none ⟨rfl, hdo.typeIs, F.args_dict_items_1 _, _, meets_dict_items (mixKind X.prog X.w) d hs0, ⟨vs, hdo⟩, args_nil ?_⟩)
  refine Calls.call_function_entry PyProof.Rows.kind_sorted PyProof.Rows.plain_sorted PyProof.Rows.entry_sorted (PyProof.Rows.args_sorted1 _) ?_
  unfold Builtin.«sorted»
  refine wpAny_bind (m := checkCount "sorted" 1 1 _) (wpAny_pure ?_)
  refine wpAny_bind (PySem.W.kdx_collect (knd := mixKind X.prog X.w) (kvs := vs) (ep := ep) (A := X.A.in1) (I1.ok.hd hc) ⟨_, Heap.get?_push_size _ rfl, rfl, rfl⟩ (hat.push _) (by omega) fun h' tk as hk hl hG => ?_)
  have sz : (s1.heap.push { cls := .type "dict_items", data := .fields #[.ref d] }).objs.size = s1.heap.objs.size + 1 := Heap.size_push ..
  obtain ⟨n1, n2, J⟩ := tups_laid (tk := tk) I2 kv hk (by first | exact Nat.le_refl _ | omega) hl hG
  have al : as.length = es.length := by rw [hl, ← lk, List.length_map]
  have hzl : (as.zip es).length ≤ sizeLine := by rw [List.length_zip, al, Nat.min_self]; rw [List.length_map] at hz; exact hz
  have em : as.map Value.ref = (as.zip es).map fun b => Value.ref b.1 := by
    rw [← List.map_fst_zip (l₁ := as) (l₂ := es) (by omega), List.map_map]
    congr 1
    rw [List.map_fst_zip (by omega)]
  rw [em]
  have atP := LiI.putT_at as (es.map siK) H1 (by rw [List.length_map]; exact al) n2
  have tupAt : ∀ b ∈ as.zip es, LiI.putT H1 as (es.map siK) b.1 = some (.tup [.str b.2.1, .int b.2.2]) := fun b hb => by
    obtain ⟨j, j1, j2⟩ := zip_ix hb
    obtain ⟨y, y1, y2⟩ := LiI.paired_get atP j1
    rw [List.getElem?_map, j2] at y1
    cases y1
    exact y2
  refine wpAny_mono (sorted_by (A := X.A.in1) (tk := tk) (h' := h') (s := s1) (L := as.zip es) (Q := EP X pins σ Q) (by show X.A.units + 1 + 50 < cLine; omega) hzl (fun b hb => ?_) fun h'' c k2 a2 => ?_) (fun f s' h => h) fun e s' h => h
  · obtain ⟨_, its, rv, o, ho, ho2, n, ho3⟩ := J.hok b.1 _ (tupAt b hb)
    match its, rv with
    | [_, _], .cons r1 (.cons r2 .nil) =>
      obtain ⟨t1, rfl⟩ := r1
      obtain ⟨t2, rfl⟩ := r2
      exact Reads.tuple ho ho2 ho3 (ReadsAll.cons (Reads.str _ _) (ReadsAll.cons (Reads.int _ _) ReadsAll.nil))
  · have np : h'.objs.size ∉ as := fun z => Nat.lt_irrefl _ (hG.there z)
    have f1 := J.hok.fresh (Nat.le_refl h'.objs.size)
    have f2 : H1 h'.objs.size = none := by rw [LiI.putT_off as _ _ np] at f1; exact f1
    have zl : ((srtAE (as.zip es)).map fun b => L2.V.ref b.1).length ≤ sizeLine := by unfold srtAE; rw [List.length_map, List.length_mergeSort]; exact hzl
    exact ⟨.ref h'.objs.size, _, J.laid (t' := tk) k2 (Nat.le_refl _) (show ObjOk X.prog X.w _ _ _ (.lst ((srtAE (as.zip es)).map fun b => L2.V.ref b.1)) from ⟨zl, _, c, vals_of_refs _, a2⟩), rfl, q as _ al n2 n1 np f2⟩
def siD (e : SIp) : D := .tup [.str e.1, .int e.2]
def srtSI (es : List SIp) : List SIp := es.mergeSort (PySem.W.dataLe false siPy)
theorem srtSI_perm (es : List SIp) : (srtSI es).Perm es := List.mergeSort_perm ..
theorem srtAE_snd (as : List Addr) (es : List SIp) (h : as.length = es.length) : (srtAE (as.zip es)).map (·.2) = srtSI es := by
  unfold srtAE srtSI
  rw [List.map_mergeSort (r := PySem.W.dataLe false aePy) (s := PySem.W.dataLe false siPy) (f := fun b : AE => b.2) (fun a _ b _ => rfl), List.map_snd_zip (by omega)]
theorem go_putT {K : PySem.W.Frag} {m : MS} : ∀ (as : List Addr) (es : List SIp) (H F : Hp), Std K m H F → as.length = es.length → as.Nodup → (∀ t ∈ as, H t = none) →
    ∃ F', Go K m H F m (LiI.putT H as (es.map siK)) F' ∧ ∀ b ∈ as.zip es, F' b.1 = some (.tup [.str b.2.1, .int b.2.2])
  | [], _, H, F, s, _, _, _ => ⟨F, Go.refl s, fun b hb => by cases hb⟩
  | _ :: _, [], _, _, _, h, _, _ => by cases h
  | a :: as, e :: es, H, F, s, h, nd, hn => by
    obtain ⟨nd1, nd2⟩ := List.nodup_cons.mp nd
    have g1 := Go.new (o := .tup [.str e.1, .int e.2]) s (hn a (List.mem_cons_self ..))
    obtain ⟨F', g2, k2⟩ := go_putT as es (upd H a (.tup [.str e.1, .int e.2])) (upd F a (.tup [.str e.1, .int e.2])) g1.std (Nat.succ.inj h) nd2 (fun t ht => by
      have ne : t ≠ a := fun z => nd1 (by rw [← z]; exact ht)
      rw [upd_ne ne]
      exact hn t (List.mem_cons_of_mem _ ht))
    refine ⟨F', g1.trans g2, fun b hb => ?_⟩
    rcases List.mem_cons.mp hb with e1 | hb
    · rw [e1]
      exact g2.grow _ _ upd_same
    · exact k2 b hb
theorem rps_si {K : PySem.W.Frag} {F : Hp} : ∀ (L : List AE), (∀ b ∈ L, F b.1 = some (.tup [.str b.2.1, .int b.2.2])) → Rps K F (L.map fun b => .ref b.1) (L.map fun b => siD b.2)
  | [], _ => .nil
  | b :: L, h => .cons (.tup (.inl (.inl (h b (List.mem_cons_self ..)))) (.cons (.str _) (.cons (.int _) .nil))) (rps_si L fun c hc => h c (List.mem_cons_of_mem _ hc))
def sSrtItems : BS := fun ds m P => match ds with
  | [.raw (.ref p)] => ∃ es : List SIp, m p = some (.dct (es.map fun e => (.inr e.1, .int e.2))) ∧ NewL ((srtSI es).map siD) m P
  | _ => False
theorem kvs_si {K : PySem.W.Frag} {F : Hp} : ∀ {es : List SIp} {vs : List (Key × L2.V)}, RKs K F vs (es.map fun e => (.inr e.1, .int e.2)) → vs = es.map siK
  | [], _, h => by unfold RKs at h; cases h; rfl
  | e :: es, _, h => by
    unfold RKs at h
    cases h with
    | cons h t =>
      rename_i p ps
      obtain ⟨k, v⟩ := p
      obtain ⟨h1, h2⟩ := h
      have h1 : k = .inr e.1 := h1
      subst h1
      cases h2
      rw [kvs_si (show RKs K F ps (es.map fun e => (.inr e.1, .int e.2)) from t)]; rfl
theorem se_srtItems {k : Nat} (hr : Room k X.A) (hm : X.mg "sorted" = none) (he : SE X e t) (hc : X.calm = true := by rfl) (hg : Gl X "sorted" := by rfl) (hbase : attributeBase e "items" X.env (eval e X.env) = eval e X.env := by rfl) (hline : (apos.endLine == cpos.line) = true := by rfl)
    (hs : starEach [.Call (.Attribute e "items" apos) [] [] cpos] X.env = (false, eval (.Call (.Attribute e "items" apos) [] [] cpos) X.env) :: starEach [] X.env := by rfl) (hp : (backTo pos (starEach [] X.env)).any (·.1) = false := by rfl) :
    SE X (.Call (.Name "sorted" p) [.Call (.Attribute e "items" apos) [] [] cpos] [] pos) (.bop sSrtItems (.cons t .nil)) := ⟨fun ρ m P Z pp => ⟨fun F0 σ H F S Q V tk q kx => by
  refine wE_of (pe_srtItems hr.units hc pe_w hg hm hbase hline hs hp) ?_
  refine (he.go ρ m _ Z pp).run F0 σ H F S _ V tk (fun v H1 F1 d m1 pd g1 r1 => ?_) kx
  have pd : sSrtItems [d] m1 P := pd
  unfold sSrtItems at pd
  split at pd
  · rename_i pa e; cases e; cases r1
    obtain ⟨es, hp, h⟩ := pd
    obtain ⟨vs, e1, rk⟩ := g1.std.cells pa _ hp
    have ev := kvs_si rk
    subst ev
    refine ⟨pa, es, rfl, e1, fun as p' al nd hn np hp' => ?_⟩
    obtain ⟨F', g2, k2⟩ := go_putT as es H1 F1 g1.std al nd hn
    have hL : ∀ b ∈ srtAE (as.zip es), F' b.1 = some (.tup [.str b.2.1, .int b.2.2]) := fun b hb => k2 b ((List.mergeSort_perm (as.zip es) _).mem_iff.mp hb)
    have r := rps_si (K := X.K) (srtAE (as.zip es)) hL
    have e2 : (srtAE (as.zip es)).map (fun b => siD b.2) = (srtSI es).map siD := by rw [← srtAE_snd as es al, List.map_map]; rfl
    rw [e2] at r
    exact newL_q h g2.std r (fun v H' F' d m' pd g r => q v H' F' d m' pd ((g1.trans g2).trans g) r) p' (by rw [LiI.putT_off as _ _ np]; exact hp')
  · exact pd.elim⟩⟩
end
/-! ### sorted(t), t a tuple of pairs of texts and ints -/
def rSrtPr (K : PySem.W.Frag) : List L2.V → Hp → VK → Prop := fun vs H Q => ∃ (a : Addr) (as : List Addr) (es : List SIp), vs = [L2.V.ref a] ∧ SqT K H a (as.map .ref) ∧ as.length = es.length ∧ (∀ b ∈ as.zip es, SqT K H b.1 [.str b.2.1, .int b.2.2]) ∧
  ∀ p, H p = none → Q (.ref p) (upd H p (.lst ((srtAE (as.zip es)).map fun b => .ref b.1)))
theorem cr_srtPr {X : Cx} {k : Nat} (hr : Room k X.A) : CallR X (.builtin "sorted") (rSrtPr X.K) := fun pins s σ H vs us Q I r q => by
  obtain ⟨a, as, es, rfl, hq, al, hb, q⟩ := q
  rw [Vals.ref1 r]
  obtain ⟨its, rv, ⟨o, ho, ho2, n, ho3⟩, hz⟩ := I.tuple hq
  have hu := hr.units
  rw [List.length_map] at hz
  refine Calls.call_function_entry PyProof.Rows.kind_sorted PyProof.Rows.plain_sorted PyProof.Rows.entry_sorted (PyProof.Rows.args_sorted1 _) ?_
  unfold Builtin.«sorted»
  refine wpAny_bind (m := checkCount "sorted" 1 1 _) (wpAny_pure ?_)
  have ei := refs_at rv
  subst ei
  refine wpAny_bind (wpAny_collect_seq (A := X.A.in1) a (.inr rfl) ho ho2 ho3 (fun h' hk => ?_) (by simp only [List.size_toArray, List.length_map]; exact hz))
  have hzl : (as.zip es).length ≤ sizeLine := by rw [List.length_zip, al, Nat.min_self]; omega
  have em : (as.map Value.ref).toArray.toList = (as.zip es).map fun b => Value.ref b.1 := by
    rw [List.toList_toArray]
    rw [← List.map_fst_zip (l₁ := as) (l₂ := es) (by omega), List.map_map]
    congr 1
    rw [List.map_fst_zip (by omega)]
  rw [em]
  have J : Inv X pins σ H { s with heap := h' } := I.kept (t' := s.toks) hk
  refine wpAny_mono (sorted_by (A := X.A.in1) (tk := s.toks) (h' := h') (s := s) (L := as.zip es) (Q := EP X pins σ Q) (by show X.A.units + 1 + 50 < cLine; omega) hzl (fun b hb2 => ?_) fun h'' c k2 a2 => ?_) (fun f s' h => h) fun e s' h => h
  · obtain ⟨its, rv, ⟨o, ho, ho2, n, ho3⟩, _⟩ := J.tuple (hb b hb2)
    match its, rv with
    | [_, _], .cons r1 (.cons r2 .nil) =>
      obtain ⟨t1, rfl⟩ := r1
      obtain ⟨t2, rfl⟩ := r2
      exact Reads.tuple ho ho2 ho3 (ReadsAll.cons (Reads.str _ _) (ReadsAll.cons (Reads.int _ _) ReadsAll.nil))
  · have zl : ((srtAE (as.zip es)).map fun b => L2.V.ref b.1).length ≤ sizeLine := by unfold srtAE; rw [List.length_map, List.length_mergeSort]; exact hzl
    exact ⟨.ref h'.objs.size, _, J.laid (t' := s.toks) k2 (Nat.le_refl _) (show ObjOk X.prog X.w _ _ _ (.lst ((srtAE (as.zip es)).map fun b => L2.V.ref b.1)) from ⟨zl, _, c, vals_of_refs _, a2⟩), rfl, q _ (J.hok.fresh (Nat.le_refl _))⟩
theorem si_refs {K : PySem.W.Frag} {F : Hp} : ∀ {es : List SIp} {vs : List L2.V}, Rps K F vs (es.map siD) → ∃ as : List Addr, vs = as.map .ref ∧ as.length = es.length ∧ ∀ b ∈ as.zip es, SqT K F b.1 [.str b.2.1, .int b.2.2]
  | [], _, h => by cases h; exact ⟨[], rfl, rfl, fun b hb => by cases hb⟩
  | e :: es, _, h => by
    cases h with
    | cons h t =>
      obtain ⟨as, rfl, h2, h3⟩ := si_refs t
      cases h with
      | @tup a vs _ g1 g2 =>
        cases g2 with
        | cons x1 x2 =>
          cases x2 with
          | cons x3 x4 =>
            cases x4; cases x1; cases x3
            refine ⟨a :: as, rfl, by simp [h2], fun b hb => ?_⟩
            rcases List.mem_cons.mp hb with e1 | hb
            · rw [e1]; exact g1
            · exact h3 b hb
theorem srtPr_q {K : PySem.W.Frag} {m : MS} {H F : Hp} {P : NX} {Q : VK} {es : List SIp} {vs : List L2.V} {a : Addr} (h : NewL ((srtSI es).map siD) m P) (s : Std K m H F) (h1 : SqT K H a vs) (h2 : Rps K F vs (es.map siD)) (q : ∀ v H' F' d m', P d m' → Go K m H F m' H' F' → Rp K F' v d → Q v H') : rSrtPr K [.ref a] H Q := by
  obtain ⟨as, rfl, al, hb⟩ := si_refs h2
  refine ⟨a, as, es, rfl, h1, al, fun b hb2 => Same.seqT s.toH (hb b hb2), fun p hp => ?_⟩
  have e2 : (srtAE (as.zip es)).map (fun b => siD b.2) = (srtSI es).map siD := by rw [← srtAE_snd as es al, List.map_map]; rfl
  have r : ∀ L : List AE, (∀ b ∈ L, b ∈ as.zip es) → Rps K F (L.map fun b => .ref b.1) (L.map fun b => siD b.2) := fun L => by
    induction L with
    | nil => intro _; exact .nil
    | cons b L ih => intro hL; exact .cons (.tup (hb b (hL b (List.mem_cons_self ..))) (.cons (.str _) (.cons (.int _) .nil))) (ih fun c hc => hL c (List.mem_cons_of_mem _ hc))
  have r1 := r (srtAE (as.zip es)) fun b hb => (List.mergeSort_perm (as.zip es) _).mem_iff.mp hb
  rw [e2] at r1
  exact newL_q h s r1 q p hp
def sSortedT : BS := fun ds m P => match ds with
  | [.tup xs] => ∃ es : List SIp, xs = es.map siD ∧ NewL ((srtSI es).map siD) m P
  | [.ptp xs] => ∃ es : List SIp, xs = es.map siD ∧ NewL ((srtSI es).map siD) m P
  | ds => sSorted ds m P
def rSrtT (K : PySem.W.Frag) : List L2.V → Hp → VK → Prop := fun xs H Q => rSrt K xs H Q ∨ rSrtPr K xs H Q
theorem cr_srtT {X : Cx} {k : Nat} (hr : Room k X.A) (hc : X.calm = true) : CallR X (.builtin "sorted") (rSrtT X.K) := (cr_srt hr hc).or (cr_srtPr hr)
theorem bok_sortedT {K : PySem.W.Frag} : BokN K (rSrtT K) sSortedT := fun ds m P h vs H F s rs Q q => by
  unfold sSortedT at h
  split at h
  · obtain ⟨v, rfl, r⟩ := rps1 rs
    obtain ⟨es, rfl, h⟩ := h
    cases r with
    | tup h1 h2 => exact .inr (srtPr_q h s (Same.seqT s.toH h1) h2 q)
  · obtain ⟨v, rfl, r⟩ := rps1 rs
    obtain ⟨es, rfl, h⟩ := h
    cases r with
    | ptp h1 h0 h2 => exact .inr (srtPr_q h s (.inl (.inr ⟨_, s.at h1⟩)) h2 q)
  · exact .inl (bok_sorted _ m P h vs H F s rs Q q)
end Nu

namespace Nu
open PySem PySem.Spec L2
open PyProof.Rows hiding St
/-! ### for x in reversed(v), v a list or a tuple -/
section
variable {K : PySem.W.Frag} {F1 : Hp} {ad : Addr} {items : List D} {GG : MS → Prop} {n : Nat}
theorem walk_rvL (hn : n = items.length) (h : ∀ m' H' F', Same F1 F' → Std K m' H' F' → GG m' → ∃ vs, SqA K false H' ad vs ∧ Rps K F' vs items) : WalkD K F1 (Itv K ad n) items.reverse GG := by
  subst hn
  refine ⟨fun i H F m hi s sd g => ?_, fun H F m s sd g => ?_, fun i H F m x H' d hd s sd g y => ?_⟩
  · obtain ⟨vs, q, r⟩ := h m H F s sd g
    rw [List.length_reverse] at hi
    exact ⟨hi, vs, vs[items.length - 1 - i]'(by rw [r.length]; omega), q, List.getElem?_eq_getElem _⟩
  · show items.length ≤ items.reverse.length
    rw [List.length_reverse]; exact Nat.le_refl _
  · obtain ⟨vs, q, r⟩ := h m H F s sd g
    obtain ⟨rfl, y⟩ := y
    have hi : i < items.length := by have := (List.getElem?_eq_some_iff.mp hd).1; rwa [List.length_reverse] at this
    rw [List.getElem?_reverse hi] at hd
    exact ⟨F, Go.refl sd, rps_last r (y vs q) hd⟩
theorem walk_rvT (hn : n = items.length) (h : ∀ m' H' F', Same F1 F' → Std K m' H' F' → GG m' → ∃ vs, SqA K true H' ad vs ∧ Rps K F' vs items) : WalkD K F1 (RT.ItvT K ad n) items.reverse GG := by
  subst hn
  refine ⟨fun i H F m hi s sd g => ?_, fun H F m s sd g => ?_, fun i H F m x H' d hd s sd g y => ?_⟩
  · obtain ⟨vs, q, r⟩ := h m H F s sd g
    rw [List.length_reverse] at hi
    exact ⟨hi, vs, vs[items.length - 1 - i]'(by rw [r.length]; omega), q, List.getElem?_eq_getElem _⟩
  · show items.length ≤ items.reverse.length
    rw [List.length_reverse]; exact Nat.le_refl _
  · obtain ⟨vs, q, r⟩ := h m H F s sd g
    obtain ⟨rfl, y⟩ := y
    have hi : i < items.length := by have := (List.getElem?_eq_some_iff.mp hd).1; rwa [List.length_reverse] at this
    rw [List.getElem?_reverse hi] at hd
    exact ⟨F, Go.refl sd, rps_last r (y vs q) hd⟩
end
section
variable {X : Cx} {tg e : Expr} {t : T} {p pos : Pos}
theorem si_rev (hm : X.mg "reversed" = none) (he : SE X e t) (hg : Gl X "reversed" := by rfl) (hs : starEach [e] X.env = (false, eval e X.env) :: starEach [] X.env := by rfl) : SI X tg (.Call (.Name "reversed" p) [e] [] pos) isRev (.cons t .nil) := ⟨fun ρ m P Z p => ⟨fun F0 σ H F S R V tk q kx => by
  refine wI_of (RT.pi_revA hg hm pe_w hs) ?_
  refine (he.go ρ m _ Z p).run F0 σ H F S _ V tk (fun v H1 F1 d m1 p1 g1 r1 => ?_) kx
  obtain ⟨a, tp, xs, GG, rfl, pR, g0, hq⟩ := seqD_use (show seqD d m1 fun xs G1 => P xs.reverse G1 m1 from p1) g1.std r1
  obtain ⟨vs, q0, r0⟩ := hq m1 H1 F1 (Same.refl _) g1.std g0
  refine ⟨a, vs, rfl, ?_⟩
  cases tp with
  | true => exact .inr ⟨q0, q _ H1 F1 xs.reverse GG m1 pR g1 (walk_rvT r0.length fun m' H' F' g s' gg => hq m' H' F' g s' gg)⟩
  | false => exact .inl ⟨q0, q _ H1 F1 xs.reverse GG m1 pR g1 (walk_rvL r0.length fun m' H' F' g s' gg => hq m' H' F' g s' gg)⟩⟩⟩
end
end Nu

namespace My
open PySem PySem.Spec L2 Nu
open PyProof.Rows hiding St
/-! ### nb -/
/-! ### small helps -/
theorem ne_cell {m : MS} {p q : Addr} {c c' : Cell} (h : m p = some c) (k : m q = some c') (n : c ≠ c') : p ≠ q := fun e => by
  subst e; rw [h] at k; cases k; exact n rfl
theorem ne_none {m : MS} {p q : Addr} {c : Cell} (h : m p = some c) (k : m q = none) : p ≠ q := fun e => by
  subst e; rw [h] at k; cases k
theorem mset_back {m : MS} {p : Addr} {c c' : Cell} (h : m p = some c) : mset (mset m p c') p c = m := by rw [mset_mset, mset_self h]
theorem mle_new {m : MS} {p : Addr} {c : Cell} (h : m p = none) : MLe m (mset m p c) := MLe.fresh (MLe.refl m) h
/-- a comprehension whose turns change nothing -/
theorem lcP {α : Type} (L : List α) (f : α → D) (p : α → Bool) (g : α → D) {Gt : G} {ρ : Env1} {m : MS} {GG : MS → Prop} {ifs : Ts} {elt : T} {P : NX} {items : List D} (hi : items = L.map f) (hl : L.length ≤ 100000) (hG : GG m)
    (st : ∀ x ∈ L, ∃ ρ', bindG Gt (f x) (wipeR ρ Gt.vars) = some ρ' ∧ (∀ R : Bool → MS → Prop, R (p x) m → Wl ifs ρ' m R) ∧ (p x = true → ∀ R : NX, R (g x) m → W elt ρ' m R EX0))
    (q : NewL ((L.filter p).map g) m P) : items.length ≤ 100000 ∧ ∃ I : Nat → List D → MS → Prop, I 0 [] m ∧ (∀ i acc m', i ≤ items.length → I i acc m' → GG m') ∧
      (∀ i d acc m', items[i]? = some d → I i acc m' → match bindG Gt d (wipeR ρ Gt.vars) with
        | some ρ' => Wl ifs ρ' m' (fun b m'' => (b = true → W elt ρ' m'' (fun d' m3 => I (i + 1) (acc ++ [d']) m3) EX0) ∧ (b = false → I (i + 1) acc m''))
        | none => False) ∧ ∀ acc m', I items.length acc m' → NewL acc m' P := by
  subst hi
  refine ⟨by rw [List.length_map]; exact hl, fun i acc m' => m' = m ∧ acc = ((L.take i).filter p).map g, ⟨rfl, by simp⟩, fun i acc m' _ h => by rw [h.1]; exact hG, fun i d acc m' hd h => ?_, fun acc m' h => ?_⟩
  · obtain ⟨rfl, rfl⟩ := h
    rw [List.getElem?_map] at hd
    cases hx : L[i]? with
    | none => rw [hx] at hd; cases hd
    | some x =>
      rw [hx] at hd
      obtain rfl : f x = d := Option.some.inj hd
      have hi : i < L.length := (List.getElem?_eq_some_iff.mp hx).1
      have hm : x ∈ L := List.mem_of_getElem? hx
      obtain ⟨ρ', e, t1, t2⟩ := st x hm
      have et : L.take (i + 1) = L.take i ++ [x] := by rw [List.take_add_one, hx]; rfl
      rw [e]
      refine t1 _ ⟨fun b => ?_, fun b => ⟨rfl, ?_⟩⟩
      · refine t2 b _ ⟨rfl, ?_⟩
        rw [et, List.filter_append, List.map_append]
        simp [b]
      · rw [et, List.filter_append, List.map_append]
        simp [b]
  · obtain ⟨rfl, rfl⟩ := h
    rw [List.length_map, List.take_length]
    exact q
/-- .. without a test -/
theorem lcM {α : Type} (L : List α) (f g : α → D) {Gt : G} {ρ : Env1} {m : MS} {GG : MS → Prop} {elt : T} {P : NX} {items : List D} (hi : items = L.map f) (hl : L.length ≤ 100000) (hG : GG m)
    (st : ∀ x ∈ L, ∃ ρ', bindG Gt (f x) (wipeR ρ Gt.vars) = some ρ' ∧ ∀ R : NX, R (g x) m → W elt ρ' m R EX0)
    (q : NewL (L.map g) m P) : items.length ≤ 100000 ∧ ∃ I : Nat → List D → MS → Prop, I 0 [] m ∧ (∀ i acc m', i ≤ items.length → I i acc m' → GG m') ∧
      (∀ i d acc m', items[i]? = some d → I i acc m' → match bindG Gt d (wipeR ρ Gt.vars) with
        | some ρ' => Wl .nil ρ' m' (fun b m'' => (b = true → W elt ρ' m'' (fun d' m3 => I (i + 1) (acc ++ [d']) m3) EX0) ∧ (b = false → I (i + 1) acc m''))
        | none => False) ∧ ∀ acc m', I items.length acc m' → NewL acc m' P :=
  lcP L f (fun _ => true) g hi hl hG (fun x hx => by
    obtain ⟨ρ', e, t⟩ := st x hx
    exact ⟨ρ', e, fun R r => r, fun _ => t⟩) (by rw [List.filter_eq_self.mpr (by simp)]; exact q)
/-- a for over data: the invariant, its turn by the item -/
theorem foP {α : Type} (L : List α) (f : α → D) (I : Nat → Env1 → MS → Prop) {Gt : G} {ρ : Env1} {m : MS} {GG : MS → Prop} {body : SS} {E : AEnds} {items : List D} (hi : items = L.map f) (h0 : I 0 ρ m) (hG : ∀ i ρ' m', I i ρ' m' → GG m')
    (st : ∀ i x ρ' m', L[i]? = some x → I i ρ' m' → ∃ ρ2, bindG Gt (f x) ρ' = some ρ2 ∧ WB body ρ2 m' { nx := I (i + 1), rt := E.rt, bk := E.nx, ct := I (i + 1), ex := E.ex })
    (q : ∀ ρ' m', I L.length ρ' m' → E.nx ρ' m') : ∃ I : Nat → Env1 → MS → Prop, I 0 ρ m ∧ (∀ i ρ' m', I i ρ' m' → GG m') ∧
      (∀ i d ρ' m', items[i]? = some d → I i ρ' m' → match bindG Gt d ρ' with
        | some ρ2 => WB body ρ2 m' { nx := I (i + 1), rt := E.rt, bk := E.nx, ct := I (i + 1), ex := E.ex }
        | none => False) ∧ ∀ ρ' m', I items.length ρ' m' → E.nx ρ' m' := by
  subst hi
  refine ⟨I, h0, hG, fun i d ρ' m' hd h => ?_, fun ρ' m' h => q ρ' m' (by rwa [List.length_map] at h)⟩
  rw [List.getElem?_map] at hd
  cases hx : L[i]? with
  | none => rw [hx] at hd; cases hd
  | some x =>
    rw [hx] at hd
    obtain rfl : f x = d := Option.some.inj hd
    obtain ⟨ρ2, e, h2⟩ := st i x ρ' m' hx h
    rw [e]; exact h2
theorem take_succ {α : Type} {L : List α} {i : Nat} {x : α} (h : L[i]? = some x) : L.take (i + 1) = L.take i ++ [x] := by rw [List.take_add_one, h]; rfl
theorem atI_get {α : Type} {xs : List α} {i : Int} {x : α} (h0 : 0 ≤ i) (h : xs[i.toNat]? = some x) : atI xs i = some x := by
  have hi : i.toNat < xs.length := (List.getElem?_eq_some_iff.mp h).1
  unfold atI ixN
  rw [if_pos h0, if_pos (by omega)]
  exact h
/-- the same where the target is a name -/
theorem lcN {α : Type} (L : List α) (f : α → D) (p : α → Bool) (g : α → D) {v : Nat} {ρ : Env1} {m : MS} {GG : MS → Prop} {ifs : Ts} {elt : T} {P : NX} {items : List D} (hi : items = L.map f) (hl : L.length ≤ 100000) (hG : GG m)
    (st : ∀ x ∈ L, (∀ R : Bool → MS → Prop, R (p x) m → Wl ifs (setR (wipeR ρ [v]) v (f x)) m R) ∧ (p x = true → ∀ R : NX, R (g x) m → W elt (setR (wipeR ρ [v]) v (f x)) m R EX0))
    (q : NewL ((L.filter p).map g) m P) : items.length ≤ 100000 ∧ ∃ I : Nat → List D → MS → Prop, I 0 [] m ∧ (∀ i acc m', i ≤ items.length → I i acc m' → GG m') ∧
      (∀ i d acc m', items[i]? = some d → I i acc m' → Wl ifs (setR (wipeR ρ [v]) v d) m' (fun b m'' => (b = true → W elt (setR (wipeR ρ [v]) v d) m'' (fun d' m3 => I (i + 1) (acc ++ [d']) m3) EX0) ∧ (b = false → I (i + 1) acc m''))) ∧ ∀ acc m', I items.length acc m' → NewL acc m' P :=
  lcP (Gt := .name v) L f p g hi hl hG (fun x hx => ⟨_, rfl, st x hx⟩) q
theorem lcNM {α : Type} (L : List α) (f g : α → D) {v : Nat} {ρ : Env1} {m : MS} {GG : MS → Prop} {elt : T} {P : NX} {items : List D} (hi : items = L.map f) (hl : L.length ≤ 100000) (hG : GG m)
    (st : ∀ x ∈ L, ∀ R : NX, R (g x) m → W elt (setR (wipeR ρ [v]) v (f x)) m R EX0)
    (q : NewL (L.map g) m P) : items.length ≤ 100000 ∧ ∃ I : Nat → List D → MS → Prop, I 0 [] m ∧ (∀ i acc m', i ≤ items.length → I i acc m' → GG m') ∧
      (∀ i d acc m', items[i]? = some d → I i acc m' → Wl .nil (setR (wipeR ρ [v]) v d) m' (fun b m'' => (b = true → W elt (setR (wipeR ρ [v]) v d) m'' (fun d' m3 => I (i + 1) (acc ++ [d']) m3) EX0) ∧ (b = false → I (i + 1) acc m''))) ∧ ∀ acc m', I items.length acc m' → NewL acc m' P :=
  lcM (Gt := .name v) L f g hi hl hG (fun x hx => ⟨_, rfl, st x hx⟩) q
theorem foN {α : Type} (L : List α) (f : α → D) (I : Nat → Env1 → MS → Prop) {v : Nat} {ρ : Env1} {m : MS} {GG : MS → Prop} {body : SS} {E : AEnds} {items : List D} (hi : items = L.map f) (h0 : I 0 ρ m) (hG : ∀ i ρ' m', I i ρ' m' → GG m')
    (st : ∀ i x ρ' m', L[i]? = some x → I i ρ' m' → WB body (setR ρ' v (f x)) m' { nx := I (i + 1), rt := E.rt, bk := E.nx, ct := I (i + 1), ex := E.ex })
    (q : ∀ ρ' m', I L.length ρ' m' → E.nx ρ' m') : ∃ I : Nat → Env1 → MS → Prop, I 0 ρ m ∧ (∀ i ρ' m', I i ρ' m' → GG m') ∧
      (∀ i d ρ' m', items[i]? = some d → I i ρ' m' → WB body (setR ρ' v d) m' { nx := I (i + 1), rt := E.rt, bk := E.nx, ct := I (i + 1), ex := E.ex }) ∧ ∀ ρ' m', I items.length ρ' m' → E.nx ρ' m' :=
  foP (Gt := .name v) L f I hi h0 hG (fun i x ρ' m' hx h => ⟨_, rfl, st i x ρ' m' hx h⟩) q

end My
namespace My
open PySem PySem.Spec L2 Nu
open PyProof.Rows hiding St
/-! ### bk -/
/-! ### amounts, rows, books -/
abbrev Rw := Int × Int × List Int
abbrev Row := Str × Rw
def amtD (l : List Int) : D := .tup (l.map .int)
def rwD (r : Rw) : D := .tup [.int r.1, .int r.2.1, amtD r.2.2]
def rowsK (R : List Row) : List (Key × D) := R.map fun r => (.inr r.1, rwD r.2)
def bxc (a c : Int) : Cell := .lst [.int a, .int c]
def Bx (m : MS) (x : Addr) : Prop := ∃ a c, m x = some (bxc a c) ∧ 0 ≤ a ∧ 0 ≤ c ∧ c < 2147483647
def afterB (x : Addr) (m : MS) (R : MS → Prop) : Prop := ∀ a c, 0 ≤ a → 0 ≤ c → c < 2147483647 → R (mset m x (bxc a c))
theorem Bx.put {m : MS} {x : Addr} {a c : Int} (h0 : 0 ≤ a) (h1 : 0 ≤ c) (h2 : c < 2147483647) : Bx (mset m x (bxc a c)) x := ⟨a, c, mset_same, h0, h1, h2⟩
theorem Bx.dct {m : MS} {x p : Addr} {c : Cell} {k : List (Key × D)} (h : Bx m x) (e : m p = some (.dct k)) : mset m x c p = some (.dct k) := by
  obtain ⟨a, b, e2, _⟩ := h
  rw [mset_ne (ne_cell e e2 (by unfold bxc; simp))]; exact e
theorem Bx.ins {m : MS} {x p : Addr} {c : Cell} {k : Cls} {xs : List D} (h : Bx m x) (e : m p = some (.ins k xs)) : mset m x c p = some (.ins k xs) := by
  obtain ⟨a, b, e2, _⟩ := h
  rw [mset_ne (ne_cell e e2 (by unfold bxc; simp))]; exact e
theorem Bx.lst {m : MS} {x p : Addr} {c : Cell} {xs : List D} (h : Bx m x) (ne : p ≠ x) (e : m p = some (.lst xs)) : mset m x c p = some (.lst xs) := by
  rw [mset_ne ne]; exact e
theorem emod_bd (a : Int) {b : Int} (h : 0 < b) : 0 ≤ a % b ∧ a % b < b := ⟨Int.emod_nonneg _ (by omega), Int.emod_lt_of_pos _ h⟩
/-- the amounts of a book's entries at a time, one ware -/
def actv (r : Rw) (t : Int) : Bool := decide (r.1 ≤ t) && decide (t < r.2.1)
def loadI : List Rw → Int → Nat → Int
  | [], _, _ => 0
  | r :: rs, t, i => (if actv r t = true then r.2.2.getD i 0 else 0) + loadI rs t i
def loadL (w : Nat) (R : List Rw) (t : Int) : List Int := (List.range w).map fun i => loadI R t i
structure RowsOk (w : Nat) (R : List Row) : Prop where
  nd : (R.map (·.1)).Nodup
  len : ∀ r ∈ R, r.2.2.2.length = w
  pos : ∀ r ∈ R, ∀ x ∈ r.2.2.2, 0 ≤ x
  key : ∀ r ∈ R, PyData.strOk r.1 = true
def lmK (room : List Int) (top wide : Int) (q : Addr) : List (Key × D) := [(.inr "room", amtD room), (.inr "top", .int top), (.inr "wide", .int wide), (.inr "rows", .raw (.ref q))]
structure LawM (m : MS) (p q : Addr) (room : List Int) (top wide : Int) (R : List Row) : Prop where
  hp : m p = some (.dct (lmK room top wide q))
  hq : m q = some (.dct (rowsK R))
  ne : p ≠ q
structure BookM (m : MS) (b s : Addr) (room : List Int) (R : List Row) : Prop where
  hb : m b = some (.ins .Book [amtD room, .raw (.ref s)])
  hs : m s = some (.dct (rowsK R))
theorem LawM.box {m : MS} {p q x : Addr} {c : Cell} {room : List Int} {top wide : Int} {R : List Row} (h : LawM m p q room top wide R) (b : Bx m x) : LawM (mset m x c) p q room top wide R := ⟨b.dct h.hp, b.dct h.hq, h.ne⟩
theorem BookM.box {m : MS} {b s x : Addr} {c : Cell} {room : List Int} {R : List Row} (h : BookM m b s room R) (k : Bx m x) : BookM (mset m x c) b s room R := ⟨k.ins h.hb, k.dct h.hs⟩
theorem zipD_map {l r : List Int} : zipD (l.map D.int) (r.map D.int) = (l.zip r).map fun p => D.tup [.int p.1, .int p.2] := by
  unfold zipD
  rw [List.zip_map, List.map_map]; rfl
theorem kds_vals (R : List Row) : DW.its .vals (rowsK R) = R.map fun r => rwD r.2 := by
  unfold rowsK; show List.map _ (List.map _ R) = _; rw [List.map_map]; rfl
theorem kds_items (R : List Row) : DW.its .items (rowsK R) = R.map fun r => D.tup [.str r.1, rwD r.2] := by
  unfold rowsK; show List.map _ (List.map _ R) = _; rw [List.map_map]; rfl
theorem loadI_app (A B : List Rw) (t : Int) (i : Nat) : loadI (A ++ B) t i = loadI A t i + loadI B t i := by
  induction A with
  | nil => simp [loadI]
  | cons a A ih => rw [List.cons_append, loadI, loadI, ih]; omega
theorem loadL_len {w : Nat} {R : List Rw} {t : Int} : (loadL w R t).length = w := by unfold loadL; simp
/-- two lists of one length alike at each place -/
theorem ext_getD {a b : List Int} {w : Nat} (ha : a.length = w) (hb : b.length = w) (h : ∀ i, i < w → a.getD i 0 = b.getD i 0) : a = b := by
  refine List.ext_getElem (by omega) fun i h1 h2 => ?_
  have := h i (by omega)
  rw [List.getD_eq_getElem?_getD, List.getD_eq_getElem?_getD, List.getElem?_eq_getElem h1, List.getElem?_eq_getElem h2] at this
  exact this
theorem zipWith_getD {f : Int → Int → Int} {a b : List Int} {w : Nat} (ha : a.length = w) (hb : b.length = w) {i : Nat} (hi : i < w) : (List.zipWith f a b).getD i 0 = f (a.getD i 0) (b.getD i 0) := by
  rw [List.getD_eq_getElem?_getD, List.getD_eq_getElem?_getD, List.getD_eq_getElem?_getD, List.getElem?_zipWith, List.getElem?_eq_getElem (show i < a.length by omega), List.getElem?_eq_getElem (show i < b.length by omega)]
  rfl
theorem loadL_get {w : Nat} {R : List Rw} {t : Int} {i : Nat} (hi : i < w) : (loadL w R t).getD i 0 = loadI R t i := by
  unfold loadL
  rw [List.getD_eq_getElem?_getD, List.getElem?_map, List.getElem?_eq_getElem (by simpa using hi)]
  simp
theorem loadL_add {w : Nat} {R : List Rw} {t : Int} {r : Rw} (hr : r.2.2.length = w) (ha : actv r t = true) : List.zipWith (· + ·) (loadL w R t) r.2.2 = loadL w (R ++ [r]) t := by
  refine ext_getD (w := w) (by rw [List.length_zipWith, loadL_len, hr]; omega) loadL_len fun i hi => ?_
  rw [zipWith_getD loadL_len hr hi, loadL_get hi, loadL_get hi, loadI_app]
  simp only [loadI, ha, if_true]
  omega
theorem loadL_skip {w : Nat} {R : List Rw} {t : Int} {r : Rw} (ha : actv r t = false) : loadL w (R ++ [r]) t = loadL w R t := by
  refine ext_getD (w := w) loadL_len loadL_len fun i hi => ?_
  rw [loadL_get hi, loadL_get hi, loadI_app]
  simp [loadI, ha]
theorem loadL_nil {w : Nat} {t : Int} : loadL w [] t = List.replicate w 0 := by
  refine ext_getD (w := w) loadL_len (by simp) fun i hi => ?_
  rw [loadL_get hi, List.getD_eq_getElem?_getD, List.getElem?_replicate]
  simp [loadI, hi]
theorem zipW_map {f : Int → Int → Int} : ∀ (a b : List Int), (a.zip b).map (fun p => D.int (f p.1 p.2)) = (List.zipWith f a b).map D.int
  | [], _ => by simp
  | _ :: _, [] => rfl
  | x :: a, y :: b => by
    rw [List.zip_cons_cons, List.map_cons, List.zipWith_cons_cons, List.map_cons, zipW_map a b]
theorem LawM.lk {m : MS} {p q : Addr} {room : List Int} {top wide : Int} {R : List Row} {c : Cell} (h : LawM m p q room top wide R) : mset m q c p = some (.dct (lmK room top wide q)) := by rw [mset_ne h.ne]; exact h.hp
theorem BookM.lk {m : MS} {b s : Addr} {room : List Int} {R : List Row} {c : Cell} (h : BookM m b s room R) : mset m s c b = some (.ins .Book [amtD room, .raw (.ref s)]) := by
  rw [mset_ne (ne_cell h.hb h.hs (by simp))]; exact h.hb

end My
namespace My
open PySem PySem.Spec L2 Nu
open PyProof.Rows hiding St
/-! ### fm -/
/-! ### the first time at which there is more than the room; what is left; the next edge -/
theorem cover_t {A : List Int} {R : List Rw} {b e s : Int} (hb : b ∈ A) (hR : ∀ r ∈ R, b < r.1 → r.1 < e → r.1 ∈ A) (h1 : b ≤ s) (h2 : s < e) : ∃ t ∈ A, b ≤ t ∧ t ≤ s ∧ ∀ r ∈ R, r.1 ≤ s → r.1 ≤ t := by
  induction R with
  | nil => exact ⟨b, hb, Int.le_refl _, h1, fun r hr => by cases hr⟩
  | cons a R ih =>
    obtain ⟨t, ht, k1, k2, k3⟩ := ih fun r hr => hR r (List.mem_cons_of_mem _ hr)
    by_cases hc : a.1 ≤ s ∧ t < a.1
    · refine ⟨a.1, hR a (List.mem_cons_self ..) (by omega) (by omega), by omega, hc.1, fun r hr hs => ?_⟩
      rcases List.mem_cons.mp hr with rfl | hr
      · exact Int.le_refl _
      · have := k3 r hr hs; omega
    · refine ⟨t, ht, k1, k2, fun r hr hs => ?_⟩
      rcases List.mem_cons.mp hr with rfl | hr
      · omega
      · exact k3 r hr hs
theorem loadI_le {R : List Rw} {t s : Int} {i : Nat} (hp : ∀ r ∈ R, 0 ≤ r.2.2.getD i 0) (h : t ≤ s) (hc : ∀ r ∈ R, r.1 ≤ s → r.1 ≤ t) : loadI R s i ≤ loadI R t i := by
  induction R with
  | nil => exact Int.le_refl _
  | cons a R ih =>
    have h1 := ih (fun r hr => hp r (List.mem_cons_of_mem _ hr)) fun r hr => hc r (List.mem_cons_of_mem _ hr)
    have h2 := hp a (List.mem_cons_self ..)
    have h3 := hc a (List.mem_cons_self ..)
    unfold loadI
    by_cases e : actv a s = true
    · have e' : actv a t = true := by
        unfold actv at e ⊢
        rw [Bool.and_eq_true, decide_eq_true_eq, decide_eq_true_eq] at e ⊢
        have := h3 e.1
        omega
      rw [if_pos e, if_pos e']; omega
    · rw [if_neg e]
      split <;> omega
theorem getD_pos {l : List Int} (h : ∀ x ∈ l, 0 ≤ x) (i : Nat) : 0 ≤ l.getD i 0 := by
  rw [List.getD_eq_getElem?_getD]
  cases e : l[i]? with
  | none => exact Int.le_refl _
  | some x => exact h x (List.mem_of_getElem? e)
def ovr (w : Nat) (room : List Int) (R : List Rw) (l : List Int) (t : Int) : Prop := ∃ i, i < w ∧ room.getD i 0 < loadI R t i + l.getD i 0
def FM (w : Nat) (room : List Int) (R : List Rw) (b e : Int) (l : List Int) : Option Int → Prop
  | some t => b ≤ t ∧ t < e ∧ ovr w room R l t ∧ ∀ s, b ≤ s → s < t → ¬ ovr w room R l s
  | none => ∀ s, b ≤ s → s < e → ¬ ovr w room R l s
theorem FM.one {w : Nat} {room : List Int} {R : List Rw} {b e : Int} {l : List Int} : ∀ {o o' : Option Int}, FM w room R b e l o → FM w room R b e l o' → o = o'
  | none, none, _, _ => rfl
  | none, some t, h, k => absurd k.2.2.1 (h t k.1 k.2.1)
  | some t, none, h, k => absurd h.2.2.1 (k t h.1 h.2.1)
  | some t, some t', h, k => by
    rcases Int.lt_trichotomy t t' with c | c | c
    · exact absurd h.2.2.1 (k.2.2.2 t h.1 c)
    · rw [c]
    · exact absurd k.2.2.1 (h.2.2.2 t' k.1 c)
/-- a list of times that tells of the whole stretch -/
structure Times (R : List Rw) (b e : Int) (A : List Int) : Prop where
  has : b ∈ A
  rise : ∀ r ∈ R, b < r.1 → r.1 < e → r.1 ∈ A
  inn : ∀ t ∈ A, b ≤ t ∧ t < e
theorem ovr_back {w : Nat} {room : List Int} {R : List Rw} {b e : Int} {l A : List Int} (hp : ∀ r ∈ R, ∀ x ∈ r.2.2, 0 ≤ x) (T : Times R b e A) {s : Int} (h1 : b ≤ s) (h2 : s < e) (o : ovr w room R l s) : ∃ t ∈ A, t ≤ s ∧ ovr w room R l t := by
  obtain ⟨t, ht, _, k2, k3⟩ := cover_t T.has T.rise h1 h2
  obtain ⟨i, hi, h⟩ := o
  have := loadI_le (i := i) (fun r hr => getD_pos (hp r hr) i) k2 k3
  exact ⟨t, ht, k2, i, hi, by omega⟩
theorem FM.of_none {w : Nat} {room : List Int} {R : List Rw} {b e : Int} {l A : List Int} (hp : ∀ r ∈ R, ∀ x ∈ r.2.2, 0 ≤ x) (T : Times R b e A) (h : ∀ t ∈ A, ¬ ovr w room R l t) : FM w room R b e l none := fun s h1 h2 o => by
  obtain ⟨t, ht, _, k⟩ := ovr_back hp T h1 h2 o
  exact h t ht k
theorem FM.of_some {w : Nat} {room : List Int} {R : List Rw} {b e : Int} {l A : List Int} (hp : ∀ r ∈ R, ∀ x ∈ r.2.2, 0 ≤ x) (T : Times R b e A) (hs : A.Pairwise (· ≤ ·)) {k : Nat} {t : Int} (ht : A[k]? = some t) (o : ovr w room R l t)
    (h : ∀ u ∈ A.take k, ¬ ovr w room R l u) : FM w room R b e l (some t) := by
  have hm := T.inn t (List.mem_of_getElem? ht)
  refine ⟨hm.1, hm.2, o, fun s h1 h2 os => ?_⟩
  obtain ⟨u, hu, hus, ou⟩ := ovr_back hp T h1 (by omega) os
  obtain ⟨j, hj⟩ := List.getElem?_of_mem hu
  have hjl : j < A.length := (List.getElem?_eq_some_iff.mp hj).1
  have hkl : k < A.length := (List.getElem?_eq_some_iff.mp ht).1
  rcases Nat.lt_or_ge j k with c | c
  · exact h u (List.mem_of_getElem? (i := j) (by rw [List.getElem?_take]; rw [if_pos c]; exact hj)) ou
  · have ej : A[j] = u := (List.getElem?_eq_some_iff.mp hj).2
    have ek : A[k] = t := (List.getElem?_eq_some_iff.mp ht).2
    rcases Nat.lt_or_ge k j with c' | c'
    · have := List.pairwise_iff_getElem.mp hs k j hkl hjl c'
      omega
    · have : j = k := by omega
      subst this; omega
/-! what is left -/
def minI (i j : Int) : Int := if j < i then j else i
def LP (w : Nat) (room : List Int) (R : List Rw) (T l : List Int) : Prop := l.length = w ∧ ∀ i, i < w → l.getD i 0 ≤ room.getD i 0 ∧ (∀ t ∈ T, l.getD i 0 ≤ room.getD i 0 - loadI R t i) ∧ (l.getD i 0 = room.getD i 0 ∨ ∃ t ∈ T, l.getD i 0 = room.getD i 0 - loadI R t i)
def LF (w : Nat) (room : List Int) (R : List Rw) (b e : Int) (l : List Int) : Prop := l.length = w ∧ ∀ i, i < w → l.getD i 0 ≤ room.getD i 0 ∧ (∀ t, b ≤ t → t < e → l.getD i 0 ≤ room.getD i 0 - loadI R t i) ∧ (l.getD i 0 = room.getD i 0 ∨ ∃ t, b ≤ t ∧ t < e ∧ l.getD i 0 = room.getD i 0 - loadI R t i)
theorem LF.one {w : Nat} {room : List Int} {R : List Rw} {b e : Int} {l l' : List Int} (h : LF w room R b e l) (k : LF w room R b e l') : l = l' := by
  refine ext_getD h.1 k.1 fun i hi => ?_
  obtain ⟨h1, h2, h3⟩ := h.2 i hi
  obtain ⟨k1, k2, k3⟩ := k.2 i hi
  have a : l'.getD i 0 ≤ l.getD i 0 := by
    rcases h3 with h3 | ⟨t, t1, t2, h3⟩
    · omega
    · have := k2 t t1 t2; omega
  have b : l.getD i 0 ≤ l'.getD i 0 := by
    rcases k3 with k3 | ⟨t, t1, t2, k3⟩
    · omega
    · have := h2 t t1 t2; omega
  omega
theorem LP.nil {w : Nat} {room : List Int} {R : List Rw} (h : room.length = w) : LP w room R [] room := ⟨h, fun i hi => ⟨Int.le_refl _, (fun t (ht : t ∈ ([] : List Int)) => nomatch ht), .inl rfl⟩⟩
theorem LP.step {w : Nat} {room : List Int} {R : List Rw} {T l l' : List Int} {t : Int} (h : LP w room R T l) (hl : l'.length = w) (e : ∀ i, i < w → l'.getD i 0 = minI (l.getD i 0) (room.getD i 0 - loadI R t i)) : LP w room R (T ++ [t]) l' := by
  refine ⟨hl, fun i hi => ?_⟩
  obtain ⟨h1, h2, h3⟩ := h.2 i hi
  rw [e i hi]
  unfold minI
  split
  · next c =>
    refine ⟨by omega, fun u hu => ?_, .inr ⟨t, by simp, rfl⟩⟩
    rcases List.mem_append.mp hu with hu | hu
    · have := h2 u hu; omega
    · rw [List.mem_singleton.mp hu]; exact Int.le_refl _
  · next c =>
    refine ⟨h1, fun u hu => ?_, ?_⟩
    · rcases List.mem_append.mp hu with hu | hu
      · exact h2 u hu
      · rw [List.mem_singleton.mp hu]; omega
    · rcases h3 with h3 | ⟨u, hu, h3⟩
      · exact .inl h3
      · exact .inr ⟨u, List.mem_append_left _ hu, h3⟩
theorem LP.done {w : Nat} {room : List Int} {R : List Rw} {b e : Int} {A l : List Int} (hp : ∀ r ∈ R, ∀ x ∈ r.2.2, 0 ≤ x) (T : Times R b e A) (h : LP w room R A l) : LF w room R b e l := by
  refine ⟨h.1, fun i hi => ?_⟩
  obtain ⟨h1, h2, h3⟩ := h.2 i hi
  refine ⟨h1, fun s s1 s2 => ?_, ?_⟩
  · obtain ⟨t, ht, _, k2, k3⟩ := cover_t T.has T.rise s1 s2
    have := loadI_le (i := i) (fun r hr => getD_pos (hp r hr) i) k2 k3
    have := h2 t ht
    omega
  · rcases h3 with h3 | ⟨t, ht, h3⟩
    · exact .inl h3
    · exact .inr ⟨t, (T.inn t ht).1, (T.inn t ht).2, h3⟩
/-! the least later one -/
def optD : Option Int → D
  | some t => .int t
  | none => .non
def NL (E : List Int) (time : Int) : Option Int → Prop
  | some t => t ∈ E ∧ time < t ∧ ∀ u ∈ E, time < u → t ≤ u
  | none => ∀ u ∈ E, u ≤ time
theorem NL.one {E : List Int} {time : Int} : ∀ {o o' : Option Int}, NL E time o → NL E time o' → o = o'
  | none, none, _, _ => rfl
  | none, some t, h, k => by have h1 := h t k.1; have h2 := k.2.1; omega
  | some t, none, h, k => by have h1 := k t h.1; have h2 := h.2.1; omega
  | some t, some t', h, k => by
    have h1 := h.2.2 t' k.1 k.2.1
    have h2 := k.2.2 t h.1 h.2.1
    rw [show t = t' by omega]
def edgesI (R : List Rw) : List Int := R.flatMap fun r => [r.1, r.2.1]
theorem fst_edge {R : List Rw} {r : Rw} (h : r ∈ R) : r.1 ∈ edgesI R := List.mem_flatMap.mpr ⟨r, h, by simp⟩
/-- times of the rises, or of all edges -/
theorem Times.of {R : List Rw} {b e : Int} {E : List Int} (hbe : b < e) (hE : ∀ r ∈ R, r.1 ∈ E) : Times R b e ([b] ++ E.filter fun t => decide (b < t) && decide (t < e)) := by
  refine ⟨by simp, fun r hr h1 h2 => List.mem_append_right _ (List.mem_filter.mpr ⟨hE r hr, by simp [h1, h2]⟩), fun t ht => ?_⟩
  rcases List.mem_append.mp ht with ht | ht
  · rw [List.mem_singleton.mp ht]; exact ⟨Int.le_refl _, hbe⟩
  · have := (List.mem_filter.mp ht).2
    rw [Bool.and_eq_true, decide_eq_true_eq, decide_eq_true_eq] at this
    omega
theorem times_pw {E : List Int} {b e : Int} (h : E.Pairwise (· ≤ ·)) : ([b] ++ E.filter fun t => decide (b < t) && decide (t < e)).Pairwise (· ≤ ·) := by
  refine List.pairwise_cons.mpr ⟨fun t ht => ?_, h.sublist List.filter_sublist⟩
  have := (List.mem_filter.mp ht).2
  rw [Bool.and_eq_true, decide_eq_true_eq, decide_eq_true_eq] at this
  omega

end My
namespace My
open PySem PySem.Spec L2 Nu
open PyProof.Rows hiding St
/-! ### srt -/
/-! ### one sorted list of texts, one sorted list of numbers -/
abbrev leS (a b : Str) : Prop := ltCps b.cps.toList a.cps.toList = false
theorem leS_iff {a b : Str} : leS a b ↔ ¬ (b.cps.toList < a.cps.toList) := by
  unfold leS; rw [ltCps_eq]; simp
theorem leS_trans {a b c : Str} (h : leS a b) (k : leS b c) : leS a c := by
  rw [leS_iff] at *
  rw [List.not_lt] at *
  exact List.le_trans h k
theorem leS_asymm {a b : Str} (h : leS a b) (k : leS b a) : a = b := by
  rw [leS_iff] at *
  rw [List.not_lt] at *
  exact Str.ext' (Array.toList_inj.mp (List.le_antisymm h k))
theorem rising_pw : ∀ {p : Str} {l : List Str}, risingS p l = true → (p :: l).Pairwise leS
  | p, [], _ => by simp
  | p, x :: r, h => by
    unfold risingS at h
    rw [Bool.and_eq_true] at h
    have h1 : leS p x := by simpa using h.1
    have h2 := rising_pw h.2
    refine List.pairwise_cons.mpr ⟨fun y hy => ?_, h2⟩
    rcases List.mem_cons.mp hy with rfl | hy
    · exact h1
    · exact leS_trans h1 ((List.pairwise_cons.mp h2).1 y hy)
theorem sorted_pw : ∀ {l : List Str}, sortedS l = true → l.Pairwise leS
  | [], _ => by simp
  | x :: r, h => rising_pw h
theorem pw_unique {α : Type} {le : α → α → Prop} (as : ∀ a b, le a b → le b a → a = b) : ∀ {l l' : List α}, l.Pairwise le → l'.Pairwise le → l.Perm l' → l = l'
  | [], l', _, _, p => (List.nil_perm.mp p).symm
  | a :: l, [], _, _, p => by have := p.length_eq; simp at this
  | a :: l, b :: l', h, h', p => by
    have e : a = b := by
      have ha : a ∈ b :: l' := p.subset (List.mem_cons_self ..)
      have hb : b ∈ a :: l := p.symm.subset (List.mem_cons_self ..)
      rcases List.mem_cons.mp ha with e | ha
      · exact e
      · rcases List.mem_cons.mp hb with e | hb
        · exact e.symm
        · exact as _ _ ((List.pairwise_cons.mp h).1 b hb) ((List.pairwise_cons.mp h').1 a ha)
    subst e
    rw [pw_unique as (List.pairwise_cons.mp h).2 (List.pairwise_cons.mp h').2 ((List.perm_cons a).mp p)]
theorem sortedS_unique {l l' : List Str} (h : sortedS l = true) (h' : sortedS l' = true) (p : l.Perm l') : l = l' := pw_unique (fun _ _ => leS_asymm) (sorted_pw h) (sorted_pw h') p
theorem ints_unique {l l' : List Int} (h : l.Pairwise (· ≤ ·)) (h' : l'.Pairwise (· ≤ ·)) (p : l.Perm l') : l = l' := pw_unique (fun _ _ => Int.le_antisymm) h h' p

end My
namespace My
open PySem PySem.Spec L2 Nu
open PyProof.Rows hiding St
/-! ### stp -/
/-! ### what is due, as functions -/
noncomputable def the {α : Type} [Inhabited α] (p : α → Prop) : α := by
  classical exact if h : ∃ a, p a then Classical.choose h else default
theorem the_eq {α : Type} [Inhabited α] {p : α → Prop} (one : ∀ a b, p a → p b → a = b) {a : α} (h : p a) : the p = a := by
  classical
  unfold the
  rw [dif_pos ⟨a, h⟩]
  exact one _ _ (Classical.choose_spec (⟨a, h⟩ : ∃ a, p a)) h
abbrev rws (R : List Row) : List Rw := R.map (·.2)
noncomputable def fmT (w : Nat) (room : List Int) (R : List Rw) (b e : Int) (l : List Int) : Option Int := the (FM w room R b e l)
theorem fmT_eq {w : Nat} {room : List Int} {R : List Rw} {b e : Int} {l : List Int} {o : Option Int} (h : FM w room R b e l o) : fmT w room R b e l = o := the_eq (fun _ _ => FM.one) h
noncomputable def lfT (w : Nat) (room : List Int) (R : List Rw) (b e : Int) : List Int := the (LF w room R b e)
theorem lfT_eq {w : Nat} {room : List Int} {R : List Rw} {b e : Int} {l : List Int} (h : LF w room R b e l) : lfT w room R b e = l := the_eq (fun _ _ => LF.one) h
noncomputable def nlT (E : List Int) (t : Int) : Option Int := the (NL E t)
theorem nlT_eq {E : List Int} {t : Int} {o : Option Int} (h : NL E t o) : nlT E t = o := the_eq (fun _ _ => NL.one) h
noncomputable def srtT (ks : List Str) : List Str := the fun ys => ys.Perm ks ∧ sortedS ys = true
theorem srtT_eq {ks ys : List Str} (p : ys.Perm ks) (h : sortedS ys = true) : srtT ks = ys :=
  the_eq (fun (_ _ : List Str) a b => sortedS_unique a.2 b.2 (List.Perm.trans a.1 (List.Perm.symm b.1))) (And.intro p h)
abbrev keysR (R : List Row) : List Str := R.map (·.1)
def rowOf (R : List Row) (k : Str) : Option Rw := (R.find? fun r => decide (r.1 = k)).map (·.2)
def putR (R : List Row) (k : Str) (r : Rw) : List Row := if R.any (fun x => decide (x.1 = k)) = true then R.map (fun x => if x.1 = k then (x.1, r) else x) else R ++ [(k, r)]
def delR (R : List Row) (k : Str) : List Row := R.filter fun x => !decide (x.1 = k)
theorem val_rows : ∀ (R : List Row) (k : Str), valD (rowsK R) (.inr k) = (rowOf R k).map rwD
  | [], _ => rfl
  | r :: R, k => by
    unfold valD rowsK rowOf
    rw [List.map_cons, List.find?_cons, List.find?_cons]
    by_cases e : r.1 = k
    · simp [e]
    · have e' : ¬ ((Sum.inr r.1 : Key) = Sum.inr k) := fun h => e (Sum.inr.inj h)
      rw [decide_eq_false e, decide_eq_false e']
      exact val_rows R k
theorem any_rows (R : List Row) (k : Str) : (rowsK R).any (fun kv => decide (kv.1 = .inr k)) = R.any fun x => decide (x.1 = k) := by
  unfold rowsK
  rw [List.any_map]
  congr 1
  funext x
  simp
theorem put_rows (R : List Row) (k : Str) (r : Rw) : putD (rowsK R) (.inr k) (rwD r) = rowsK (putR R k r) := by
  unfold putD putR
  rw [any_rows]
  split
  · unfold rowsK
    rw [List.map_map, List.map_map]
    refine List.map_congr_left fun x _ => ?_
    by_cases e : x.1 = k
    · simp [e]
    · simp [e]
  · unfold rowsK; rw [List.map_append]; rfl
theorem del_rows (R : List Row) (k : Str) : dropD (rowsK R) (.inr k) = rowsK (delR R k) := by
  unfold dropD delR rowsK
  rw [List.filter_map]
  congr 2
  funext x
  simp
theorem rowsK_len (R : List Row) : (rowsK R).length = R.length := by unfold rowsK; rw [List.length_map]
theorem rowsK_keys (R : List Row) : (rowsK R).map (·.1) = (keysR R).map Sum.inr := by unfold rowsK; rw [List.map_map, List.map_map]; rfl
theorem any_mem (R : List Row) (k : Str) : R.any (fun x => decide (x.1 = k)) = true ↔ k ∈ keysR R := by
  rw [List.any_eq_true, List.mem_map]
  constructor
  · rintro ⟨x, hx, e⟩; exact ⟨x, hx, by simpa using e⟩
  · rintro ⟨x, hx, e⟩; exact ⟨x, hx, by simpa using e⟩
theorem rowOf_none {R : List Row} {k : Str} : rowOf R k = none ↔ k ∉ keysR R := by
  unfold rowOf
  rw [Option.map_eq_none_iff, List.find?_eq_none, List.mem_map]
  constructor
  · rintro h ⟨x, hx, e⟩; exact h x hx (by simpa using e)
  · intro h x hx e; exact h ⟨x, hx, by simpa using e⟩
theorem rowOf_some {R : List Row} {k : Str} {r : Rw} (h : rowOf R k = some r) : (k, r) ∈ R := by
  unfold rowOf at h
  obtain ⟨x, hx, e⟩ := Option.map_eq_some_iff.mp h
  have h1 := List.find?_some hx
  have h2 := List.mem_of_find?_eq_some hx
  have : x.1 = k := by simpa using h1
  rw [← e, ← this]; exact h2
theorem rowOf_mem {R : List Row} {k : Str} (h : k ∈ keysR R) : ∃ r, rowOf R k = some r := by
  cases e : rowOf R k with
  | none => exact absurd h (rowOf_none.mp e)
  | some r => exact ⟨r, rfl⟩
theorem val_some (R : List Row) (k : Str) : (valD (rowsK R) (.inr k)).isSome = decide (k ∈ keysR R) := by
  rw [val_rows]
  cases e : rowOf R k with
  | none => simp [rowOf_none.mp e]
  | some r => simp [List.mem_map]; exact ⟨r.1, r.2.1, r.2.2, rowOf_some e⟩
/-! deeds and what they tell -/
inductive Deed where
  | put (k : Str) (b e : Int) (l : List Int)
  | cut (k : Str) (t : Int)
  | stretch (k : Str) (t : Int)
  | drop (k : Str)
  | past (t : Int)
def Deed.word : Deed → Str
  | .put .. => "put" | .cut .. => "cut" | .stretch .. => "stretch" | .drop .. => "drop" | .past .. => "past"
def deedD : Deed → D
  | .put k b e l => .tup [.str "put", .str k, .int b, .int e, amtD l]
  | .cut k t => .tup [.str "cut", .str k, .int t]
  | .stretch k t => .tup [.str "stretch", .str k, .int t]
  | .drop k => .tup [.str "drop", .str k]
  | .past t => .tup [.str "past", .int t]
inductive Out where
  | told | gone (g : List Str) | taken | nokey | more (t : Int)
def outD : Out → D
  | .told => .tup [.str "told", .non]
  | .gone g => .tup [.str "told", .lst (g.map .str)]
  | .taken => .tup [.str "Taken", .non]
  | .nokey => .tup [.str "NoKey", .non]
  | .more t => .tup [.str "TooMuch", .int t]
noncomputable def goneT (R : List Row) (t : Int) : List Str := srtT ((R.filter fun r => decide (r.2.2.1 ≤ t)).map (·.1))
noncomputable def stepR (w : Nat) (room : List Int) (R : List Row) : Deed → Out × List Row
  | .put k b e l => if k ∈ keysR R then (.taken, R) else match fmT w room (rws R) b e l with
    | some t => (.more t, R)
    | none => (.told, putR R k (b, e, l))
  | .cut k t => match rowOf R k with
    | none => (.nokey, R)
    | some (b, e, l) => if t ≤ b then (.told, delR R k) else (.told, putR R k (b, if t < e then t else e, l))
  | .stretch k t => match rowOf R k with
    | none => (.nokey, R)
    | some (b, e, l) => if e < t then match fmT w room (rws R) e t l with
      | some u => (.more u, R)
      | none => (.told, putR R k (b, t, l)) else (.told, R)
  | .drop k => match rowOf R k with
    | none => (.nokey, R)
    | some _ => (.told, delR R k)
  | .past t => (.gone (goneT R t), (goneT R t).foldl delR R)
def fitD (w : Nat) : Deed → Prop
  | .put k b e l => b < e ∧ l.length = w ∧ (∀ x ∈ l, 0 ≤ x) ∧ PyData.strOk k = true
  | _ => True
theorem del_ok {w : Nat} {R : List Row} {k : Str} (h : RowsOk w R) : RowsOk w (delR R k) :=
  ⟨h.nd.sublist (List.filter_sublist.map _), fun r hr => h.len r (List.mem_filter.mp hr).1, fun r hr => h.pos r (List.mem_filter.mp hr).1, fun r hr => h.key r (List.mem_filter.mp hr).1⟩
theorem put_keys (R : List Row) (k : Str) (r : Rw) : keysR (putR R k r) = if k ∈ keysR R then keysR R else keysR R ++ [k] := by
  unfold putR
  by_cases e : k ∈ keysR R
  · rw [if_pos e, if_pos ((any_mem R k).mpr e)]
    show List.map _ (List.map _ R) = _
    rw [List.map_map]
    refine List.map_congr_left fun x _ => ?_
    show (if x.1 = k then (x.1, r) else x).1 = x.1
    split <;> rfl
  · rw [if_neg e, if_neg (fun h => e ((any_mem R k).mp h))]
    show List.map _ (R ++ [(k, r)]) = _
    rw [List.map_append]; rfl
theorem put_mem {R : List Row} {k : Str} {r : Rw} {x : Row} (h : x ∈ putR R k r) : x ∈ R ∨ x = (k, r) := by
  unfold putR at h
  split at h
  · obtain ⟨y, hy, e⟩ := List.mem_map.mp h
    split at e
    · next c => rw [c] at e; exact .inr e.symm
    · rw [← e]; exact .inl hy
  · rcases List.mem_append.mp h with h | h
    · exact .inl h
    · exact .inr (List.mem_singleton.mp h)
theorem put_ok {w : Nat} {R : List Row} {k : Str} {r : Rw} (h : RowsOk w R) (h1 : r.2.2.length = w) (h2 : ∀ x ∈ r.2.2, 0 ≤ x) (h3 : PyData.strOk k = true) : RowsOk w (putR R k r) := by
  refine ⟨?_, fun x hx => ?_, fun x hx => ?_, fun x hx => ?_⟩
  · show (keysR (putR R k r)).Nodup
    rw [put_keys]
    split
    · exact h.nd
    · next c => exact List.nodup_append.mpr ⟨h.nd, by simp, fun a ha b hb => by rw [List.mem_singleton.mp hb]; rintro rfl; exact c ha⟩
  · rcases put_mem hx with hx | rfl
    · exact h.len x hx
    · exact h1
  · rcases put_mem hx with hx | rfl
    · exact h.pos x hx
    · exact h2
  · rcases put_mem hx with hx | rfl
    · exact h.key x hx
    · exact h3
theorem dels_ok {w : Nat} : ∀ (g : List Str) {R : List Row}, RowsOk w R → RowsOk w (g.foldl delR R)
  | [], _, h => h
  | _ :: g, _, h => dels_ok g (del_ok h)
theorem del_keys {R : List Row} {k x : Str} (h : x ∈ keysR (delR R k)) : x ∈ keysR R := by
  obtain ⟨y, hy, e⟩ := List.mem_map.mp h
  exact List.mem_map.mpr ⟨y, (List.mem_filter.mp hy).1, e⟩
theorem del_len (R : List Row) (k : Str) : (delR R k).length ≤ R.length := List.length_filter_le ..
theorem dels_keys : ∀ (g : List Str) {R : List Row} {x : Str}, x ∈ keysR (g.foldl delR R) → x ∈ keysR R
  | [], _, _, h => h
  | _ :: g, _, _, h => del_keys (dels_keys g h)
theorem dels_len : ∀ (g : List Str) (R : List Row), (g.foldl delR R).length ≤ R.length
  | [], _ => Nat.le_refl _
  | k :: g, R => Nat.le_trans (dels_len g (delR R k)) (del_len R k)
theorem put_len (R : List Row) (k : Str) (r : Rw) : (putR R k r).length ≤ R.length + 1 := by
  have := congrArg List.length (put_keys R k r)
  rw [List.length_map] at this
  rw [this]
  split
  · rw [List.length_map]; omega
  · rw [List.length_append, List.length_map]; simp
theorem put_there {R : List Row} {k : Str} {r x : Rw} (h : rowOf R k = some x) : keysR (putR R k r) = keysR R := by
  rw [put_keys, if_pos (List.mem_map.mpr ⟨_, rowOf_some h, rfl⟩)]
/-- the rows stay sound, and a put alone makes a new key -/
theorem step_ok {w : Nat} {room : List Int} {R : List Row} {d : Deed} (h : RowsOk w R) (hd : fitD w d) : RowsOk w (stepR w room R d).2 := by
  cases d with
  | put k b e l =>
    simp only [stepR]
    split
    · exact h
    · split
      · exact h
      · exact put_ok h hd.2.1 hd.2.2.1 hd.2.2.2
  | cut k t =>
    simp only [stepR]
    split
    · exact h
    · next b e l e1 =>
      have hm := rowOf_some e1
      split
      · exact del_ok h
      · exact put_ok h (h.len _ hm) (h.pos _ hm) (h.key _ hm)
  | stretch k t =>
    simp only [stepR]
    split
    · exact h
    · next b e l e1 =>
      have hm := rowOf_some e1
      split
      · split
        · exact h
        · exact put_ok h (h.len _ hm) (h.pos _ hm) (h.key _ hm)
      · exact h
  | drop k =>
    simp only [stepR]
    split
    · exact h
    · exact del_ok h
  | past t => exact dels_ok _ h
theorem step_keys {w : Nat} {room : List Int} {R : List Row} {d : Deed} {x : Str} (h : x ∈ keysR (stepR w room R d).2) : x ∈ keysR R ∨ ∃ b e l, d = .put x b e l := by
  cases d with
  | put k b e l =>
    simp only [stepR] at h
    split at h
    · exact .inl h
    · split at h
      · exact .inl h
      · rw [put_keys] at h
        split at h
        · exact .inl h
        · rcases List.mem_append.mp h with h | h
          · exact .inl h
          · rw [List.mem_singleton.mp h]; exact .inr ⟨b, e, l, rfl⟩
  | cut k t =>
    simp only [stepR] at h
    split at h
    · exact .inl h
    · next b e l e1 =>
      split at h
      · exact .inl (del_keys h)
      · rw [put_there e1] at h; exact .inl h
  | stretch k t =>
    simp only [stepR] at h
    split at h
    · exact .inl h
    · next b e l e1 =>
      split at h
      · split at h
        · exact .inl h
        · rw [put_there e1] at h; exact .inl h
      · exact .inl h
  | drop k =>
    simp only [stepR] at h
    split at h
    · exact .inl h
    · exact .inl (del_keys h)
  | past t => exact .inl (dels_keys _ h)
theorem step_len {w : Nat} {room : List Int} {R : List Row} {d : Deed} : (stepR w room R d).2.length ≤ R.length + 1 := by
  cases d with
  | put k b e l =>
    simp only [stepR]
    split
    · simp
    · split
      · simp
      · exact put_len ..
  | cut k t =>
    simp only [stepR]
    split
    · simp
    · split
      · exact Nat.le_succ_of_le (del_len ..)
      · exact put_len ..
  | stretch k t =>
    simp only [stepR]
    split
    · simp
    · split
      · split
        · simp
        · exact put_len ..
      · simp
  | drop k =>
    simp only [stepR]
    split
    · simp
    · exact Nat.le_succ_of_le (del_len ..)
  | past t => exact Nat.le_succ_of_le (dels_len ..)
/-- what a stretch of an entry that is there tells -/
noncomputable def strR (w : Nat) (room : List Int) (R : List Row) (k : Str) (b e : Int) (l : List Int) (t : Int) : Out × List Row :=
  if e < t then match fmT w room (rws R) e t l with
      | some u => (.more u, R)
      | none => (.told, putR R k (b, t, l)) else (.told, R)
theorem srt_ex (ks : List Str) : ∃ ys : List Str, ys.Perm ks ∧ sortedS ys = true := by
  refine ⟨ks.mergeSort fun a b => !ltCps b.cps.toList a.cps.toList, List.mergeSort_perm .., sortedS_of_pairwise _ ?_⟩
  refine (List.pairwise_mergeSort (le := fun a b : Str => !ltCps b.cps.toList a.cps.toList) (fun a b c h k => ?_) (fun a b => ?_) ks).imp fun h => by simpa using h
  · have h1 : leS a b := by simpa using h
    have h2 : leS b c := by simpa using k
    simpa using leS_trans h1 h2
  · rw [Bool.or_eq_true, ltCps_eq, ltCps_eq]
    simp only [Bool.not_eq_true', decide_eq_false_iff_not]
    rcases Decidable.em (b.cps.toList < a.cps.toList) with c | c
    · right
      rw [List.not_lt]; exact List.le_of_lt c
    · exact .inl c
theorem srtT_perm (ks : List Str) : (srtT ks).Perm ks := by
  obtain ⟨ys, h1, h2⟩ := srt_ex ks
  rw [srtT_eq h1 h2]; exact h1
theorem goneT_len (R : List Row) (t : Int) : (goneT R t).length ≤ R.length := by
  unfold goneT
  rw [(srtT_perm _).length_eq, List.length_map]
  exact List.length_filter_le ..
def CalP (o : Out) (P : NX) (Z : EZ) (m : MS) : Prop := match o with
  | .told => P .non m
  | .gone g => P (.lst (g.map .str)) m
  | .taken => Z .Taken [] m
  | .nokey => Z .NoKey [] m
  | .more t => Z .TooMuch [.int t] m
theorem BookM.self {m : MS} {b s : Addr} {room : List Int} {R : List Row} (h : BookM m b s room R) : mset m s (.dct (rowsK R)) = m := mset_self h.hs
def DueP (o : Out) (P : NX) (m : MS) : Prop := P (outD o) m
theorem LawM.self {m : MS} {p q : Addr} {room : List Int} {top wide : Int} {R : List Row} (h : LawM m p q room top wide R) : mset m q (.dct (rowsK R)) = m := mset_self h.hq
/-- the name of a number -/
def nmS (n : Int) : Str :=
  (⟨#[("abcdefghijklmnopqrstuvwxyz" : Str).cps.toList.getD (n % 26).toNat 0]⟩ : Str) ++ ([("" : Str), "q", "wz", "longest"].getD (n / 26 % 4).toNat "")

end My
namespace My
open PySem PySem.Spec L2 Nu
open PyProof.Rows hiding St
/-! ### eqs -/
/-! ### lists that are alike nothing -/
theorem sees_ints (m : MS) : ∀ E : List Int, Sees m (E.map .int) (E.map .int)
  | [] => .nil
  | a :: E => .cons (.int a) (sees_ints m E)
theorem sees_strs (m : MS) : ∀ E : List Str, Sees m (E.map .str) (E.map .str)
  | [] => .nil
  | a :: E => .cons (.str a) (sees_strs m E)
theorem pl_ints : ∀ E : List Int, plDs 39 (E.map .int) = true
  | [] => by unfold plDs; rfl
  | a :: E => by
    rw [List.map_cons]; unfold plDs
    rw [pl_ints E, Bool.and_true]; unfold plD; rfl
theorem plI (E : List Int) : plD 40 (.lst (E.map .int)) = true := by unfold plD; exact pl_ints E
theorem plN : plD 40 (.lst []) = true := by unfold plD plDs; rfl
theorem eqNilI (E : List Int) : eqD (.lst (E.map .int)) (.lst []) = decide (E = []) := by
  cases E with
  | nil => rfl
  | cons a E => rfl
theorem eqNilS (E : List Str) : eqD (.lst (E.map .str)) (.lst []) = decide (E = []) := by
  cases E with
  | nil => rfl
  | cons a E => rfl

end My
namespace My
open PySem PySem.Spec L2 Nu
open PyProof.Rows hiding St
/-! ### d3 -/
/-! ### boxes with a counter -/
def bx3 (a c z : Int) : Cell := .lst [.int a, .int c, .int z]
def B3c (n : Int) (B : Cell) : Prop := ∃ a c z, B = bx3 a c z ∧ 0 ≤ a ∧ 0 ≤ c ∧ c < 2147483629 ∧ 0 ≤ z ∧ z ≤ n
def B3 (m : MS) (x : Addr) (n : Int) : Prop := ∃ B, m x = some B ∧ B3c n B
def aft3 (x : Addr) (m : MS) (n : Int) (R : MS → Prop) : Prop := ∀ B, B3c n B → R (mset m x B)
theorem B3c.mono {n k : Int} {B : Cell} (h : B3c n B) (l : n ≤ k) : B3c k B := by
  obtain ⟨a, c, z, e, h0, h1, h2, h3, h4⟩ := h
  exact ⟨a, c, z, e, h0, h1, h2, h3, by omega⟩
theorem B3c.put {m : MS} {x : Addr} {n : Int} {B : Cell} (h : B3c n B) : B3 (mset m x B) x n := ⟨B, mset_same, h⟩
theorem B3.mono {m : MS} {x : Addr} {n k : Int} (h : B3 m x n) (l : n ≤ k) : B3 m x k := let ⟨B, e, h⟩ := h; ⟨B, e, h.mono l⟩
theorem aft3.two {x : Addr} {m : MS} {n k : Int} {R : MS → Prop} {B : Cell} (h : aft3 x m k R) (l : n ≤ k) : aft3 x (mset m x B) n R := fun B' hB => by
  rw [mset_mset]; exact h B' (hB.mono l)
theorem B3.dct {m : MS} {x p : Addr} {n : Int} {c : Cell} {k : List (Key × D)} (h : B3 m x n) (e : m p = some (.dct k)) : mset m x c p = some (.dct k) := by
  obtain ⟨B, e2, a, b, z, rfl, _⟩ := h
  rw [mset_ne (ne_cell e e2 (by unfold bx3; simp))]; exact e
theorem B3.ins {m : MS} {x p : Addr} {n : Int} {c : Cell} {k : Cls} {xs : List D} (h : B3 m x n) (e : m p = some (.ins k xs)) : mset m x c p = some (.ins k xs) := by
  obtain ⟨B, e2, a, b, z, rfl, _⟩ := h
  rw [mset_ne (ne_cell e e2 (by unfold bx3; simp))]; exact e
theorem B3.new {m : MS} {x e : Addr} {n : Int} {c : Cell} (h : B3 m x n) (he : m e = none) : B3 (mset m e c) x n := by
  obtain ⟨B, hx, h0⟩ := h
  exact ⟨B, by rw [mset_ne (by rintro rfl; rw [hx] at he; cases he)]; exact hx, h0⟩
theorem B3.ne {m : MS} {x e : Addr} {n : Int} {c : Cell} (h : B3 m x n) (hn : x ≠ e) : B3 (mset m e c) x n := by
  obtain ⟨B, hx, h0⟩ := h
  exact ⟨B, by rw [mset_ne hn]; exact hx, h0⟩
theorem at3_in {α : Type} {xs : List α} {v : Int} (h0 : 0 ≤ v) (h1 : v < xs.length) : ∃ d, atI xs v = some d ∧ d ∈ xs := by
  have h : v.toNat < xs.length := by omega
  exact ⟨xs[v.toNat], atI_get h0 (List.getElem?_eq_getElem h), List.getElem_mem h⟩
theorem cmR {i j : Int} (h : -(2 ^ 64) < j ∧ j < 2 ^ 64) : CMul i j := .inr h
theorem cmL {i j : Int} (h : -(2 ^ 64) < i ∧ i < 2 ^ 64) : CMul i j := .inl h
theorem mdel_new {m : MS} {p : Addr} {c : Cell} (h : m p = none) : mdel (mset m p c) p = m := by
  funext a
  unfold mdel mset
  by_cases e : a = p
  · rw [if_pos e, e, h]
  · rw [if_neg e, if_neg e]

end My
namespace My
open PySem PySem.Spec L2 Nu
open PyProof.Rows hiding St
/-! ### _law_box_f006 -/
def intsD (d : D) (ns : List Int) : Prop := d = .fls (ns.map .int) ∨ d = .lst (ns.map .int)
def a__law_box_f006 : ASp := fun ss m P _ => ∃ (d : D) (ns : List Int) (k : Int), ss = [d, .int k] ∧ intsD d ns ∧ (ns.length ≤ 200 ∧ 0 ≤ k ∧ k ≤ 1000) ∧ ∀ p, m p = none → ∀ B, B3c 0 B → P (.raw (.ref p)) (mset m p B)
theorem len__law_box_f006 : ∀ ss m P Z, a__law_box_f006 ss m P Z → ss.length = 2 := by
  rintro _ m P Z ⟨d, ns, k, rfl, _⟩; rfl
abbrev n__law_box_f006 : List Str := ["_law_script", "_law_k", "_law_cell", "_law_digits"]
theorem nd__law_box_f006 : (n__law_box_f006).Nodup := by decide +kernel
def u__law_box_f006 : SS :=
  (.cons (.set 2 (.cst (.int 0)))
  (.cut (.iff (.bop (sCmp .lt) (.cons (.var 1) (.cons (.bop sLen (.cons (.var 0) .nil)) .nil))) (.cons (.set 2 (.bop sIx (.cons (.var 0) (.cons (.var 1) .nil))))
  .nil) .nil)
  (.cons (.set 3 (.cst (.int 0)))
  (.cut (.iff (.bop (sCmp .ge) (.cons (.bop sAbs (.cons (.var 2) .nil)) (.cons (.cst (.int 1000000000000000000)) .nil))) (.cons (.set 3 (.bop sAbs (.cons (.var 2) .nil)))
  .nil) .nil)
  (.cons (.ret (.bop sLst (.cons (.var 3) (.cons (.bop sMod (.cons (.bop sMul (.cons (.bop sAdd (.cons (.bop sAdd (.cons (.bop sMod (.cons (.var 2) (.cons (.cst (.int 2147483647)) .nil))) (.cons (.bop sMul (.cons (.cst (.int 7919)) (.cons (.var 1) .nil))) .nil))) (.cons (.cst (.int 11)) .nil))) (.cons (.cst (.int 48271)) .nil))) (.cons (.cst (.int 2147483629)) .nil))) (.cons (.cst (.int 0)) .nil)))))
  .nil)))))
theorem body__law_box_f006 : ∀ (ss : List D) (m : MS) (P : NX) (Z : EZ), a__law_box_f006 ss m P Z → WB u__law_box_f006 (startR n__law_box_f006 ss) m (bodyE P Z) := by
  rintro _ m P Z ⟨d, ns, k, rfl, hd, ⟨hn, h0, h1⟩, q⟩
  have rest : ∀ (c : Int) (x1 : Option D), WB (.cons (.set 3 (.cst (.int 0)))
  (.cut (.iff (.bop (sCmp .ge) (.cons (.bop sAbs (.cons (.var 2) .nil)) (.cons (.cst (.int 1000000000000000000)) .nil))) (.cons (.set 3 (.bop sAbs (.cons (.var 2) .nil)))
  .nil) .nil)
  (.cons (.ret (.bop sLst (.cons (.var 3) (.cons (.bop sMod (.cons (.bop sMul (.cons (.bop sAdd (.cons (.bop sAdd (.cons (.bop sMod (.cons (.var 2) (.cons (.cst (.int 2147483647)) .nil))) (.cons (.bop sMul (.cons (.cst (.int 7919)) (.cons (.var 1) .nil))) .nil))) (.cons (.cst (.int 11)) .nil))) (.cons (.cst (.int 48271)) .nil))) (.cons (.cst (.int 2147483629)) .nil))) (.cons (.cst (.int 0)) .nil)))))
  .nil))) [x1, some (.int k), some (.int c), none] m (bodyE P Z) := by
    intro c x1
    (conv => whnf)
    refine ⟨fun ρ' m' => ∃ g : Int, 0 ≤ g ∧ m' = m ∧ ρ' = [x1, some (.int k), some (.int c), some (.int g)], ?_, ?_⟩
    · (conv => whnf)
      refine ⟨_, rfl, fun hk => ?_, fun hk => ?_⟩
      · (conv => whnf)
        refine ⟨_, ?_, rfl, rfl⟩
        split <;> omega
      · exact ⟨0, by decide, rfl, rfl⟩
    · rintro _ _ ⟨g, hg, rfl, rfl⟩
      refine ⟨_, _, VwS.refl, ?_⟩
      (conv => whnf)
      refine ⟨by decide, cmL (by decide), cmR (by decide), ?_⟩
      (conv => whnf)
      refine ⟨by decide, .inr fun p hp => ?_⟩
      have e1 := emod_bd ((c % 2147483647 + 7919 * k + 11) * 48271) (b := 2147483629) (by decide)
      exact ret (q p hp _ ⟨_, _, _, rfl, hg, e1.1, e1.2, by decide, by decide⟩)
  (conv => whnf)
  refine ⟨fun ρ' m' => ∃ c : Int, m' = m ∧ ρ' = [some d, some (.int k), some (.int c), none], ?_, ?_⟩
  · rcases hd with rfl | rfl
    all_goals
      (conv => whnf)
      rw [List.length_map]
      refine ⟨_, rfl, fun hk => ?_, fun hk => ⟨0, rfl, rfl⟩⟩
      have hk' : k < ns.length := of_decide_eq_true hk
      (conv => whnf)
      refine ⟨.int (ns[k.toNat]'(by omega)), atI_get h0 (by rw [List.getElem?_map, List.getElem?_eq_getElem (by omega)]; rfl), ?_⟩
      exact ⟨_, rfl, rfl⟩
  · rintro _ _ ⟨c, rfl, rfl⟩
    exact ⟨_, _, VwS.refl, rest c _⟩

end My
namespace My
open PySem PySem.Spec L2 Nu
open PyProof.Rows hiding St
/-! ### _law_take_9ad5 -/
def a__law_take_9ad5 : ASp := fun ss m P _ => ∃ (x : Addr) (n k : Int), ss = [.raw (.ref x), .int n] ∧ B3 m x k ∧ (k ≤ 2 ^ 40 ∧ 0 < n ∧ n < 2 ^ 200) ∧ ∀ v, 0 ≤ v → v < n → aft3 x m (k + 1) (P (.int v))
theorem len__law_take_9ad5 : ∀ ss m P Z, a__law_take_9ad5 ss m P Z → ss.length = 2 := by
  rintro _ m P Z ⟨x, n, k, rfl, _⟩; rfl
abbrev n__law_take_9ad5 : List Str := ["_law_box_here", "_law_many", "_law_found", "_law_once"]
theorem nd__law_take_9ad5 : (n__law_take_9ad5).Nodup := by decide +kernel
def u__law_take_9ad5 : SS :=
  (.cons (.iff (.bop (sCmp .gt) (.cons (.bop sIx (.cons (.var 0) (.cons (.cst (.int 0)) .nil))) (.cons (.cst (.int 0)) .nil))) (.cons (.set 2 (.bop sMod (.cons (.bop sIx (.cons (.var 0) (.cons (.cst (.int 0)) .nil))) (.cons (.var 1) .nil))))
  (.cons (.iset (.var 0) (.cst (.int 0)) (.bop sFdv (.cons (.bop sIx (.cons (.var 0) (.cons (.cst (.int 0)) .nil))) (.cons (.var 1) .nil))))
  (.cons (.ret (.var 2))
  .nil))) .nil)
  (.cons (.iset (.var 0) (.cst (.int 2)) (.bop sAdd (.cons (.bop sIx (.cons (.var 0) (.cons (.cst (.int 2)) .nil))) (.cons (.cst (.int 1)) .nil))))
  (.cons (.set 3 (.bop sMod (.cons (.bop sMul (.cons (.bop sAdd (.cons (.bop sIx (.cons (.var 0) (.cons (.cst (.int 1)) .nil))) (.cons (.bop sMul (.cons (.cst (.int 39373)) (.cons (.bop sIx (.cons (.var 0) (.cons (.cst (.int 2)) .nil))) .nil))) .nil))) (.cons (.bop sAdd (.cons (.cst (.int 48271)) (.cons (.bop sIx (.cons (.var 0) (.cons (.cst (.int 2)) .nil))) .nil))) .nil))) (.cons (.cst (.int 2147483647)) .nil))))
  (.cons (.iset (.var 0) (.cst (.int 1)) (.bop sMod (.cons (.bop sAdd (.cons (.bop sMul (.cons (.var 3) (.cons (.bop sAdd (.cons (.bop sMod (.cons (.var 3) (.cons (.cst (.int 40009)) .nil))) (.cons (.cst (.int 7)) .nil))) .nil))) (.cons (.bop sIx (.cons (.var 0) (.cons (.cst (.int 2)) .nil))) .nil))) (.cons (.cst (.int 2147483629)) .nil))))
  (.cons (.ret (.bop sMod (.cons (.bop sFdv (.cons (.bop sMod (.cons (.bop sMul (.cons (.bop sIx (.cons (.var 0) (.cons (.cst (.int 1)) .nil))) (.cons (.bop sAdd (.cons (.bop sMod (.cons (.bop sIx (.cons (.var 0) (.cons (.cst (.int 1)) .nil))) (.cons (.cst (.int 1009)) .nil))) (.cons (.cst (.int 3)) .nil))) .nil))) (.cons (.cst (.int 998244353)) .nil))) (.cons (.cst (.int 7)) .nil))) (.cons (.var 1) .nil))))
  .nil)))))
theorem body__law_take_9ad5 : ∀ (ss : List D) (m : MS) (P : NX) (Z : EZ), a__law_take_9ad5 ss m P Z → WB u__law_take_9ad5 (startR n__law_take_9ad5 ss) m (bodyE P Z) := by
  rintro _ m P Z ⟨x, n, k, rfl, ⟨_, hx, a, c, z, rfl, ha, hc, hc', hz, hz'⟩, ⟨hk, h0, h1⟩, q⟩
  (conv => whnf)
  refine ⟨_, hx, _, rfl, ?_⟩
  (conv => whnf)
  refine ⟨_, rfl, fun hk => ?_, fun hk => ?_⟩
  · (conv => whnf)
    refine ⟨_, hx, _, rfl, ?_⟩
    (conv => whnf)
    refine ⟨h0, ?_⟩
    (conv => whnf)
    refine ⟨_, hx, _, rfl, ?_⟩
    (conv => whnf)
    refine ⟨⟨h0, h1⟩, ?_⟩
    (conv => whnf)
    refine ⟨_, hx, _, rfl, ?_⟩
    (conv => whnf)
    exact ret (q _ (emod_bd a h0).1 (emod_bd a h0).2 _ ⟨_, _, _, rfl, Int.ediv_nonneg ha (by omega), hc, hc', hz, by omega⟩)
  · (conv => whnf)
    refine ⟨_, hx, _, rfl, ?_⟩
    (conv => whnf)
    refine ⟨_, hx, _, rfl, ?_⟩
    (conv => whnf)
    refine ⟨_, mset_same, _, rfl, ?_⟩
    (conv => whnf)
    refine ⟨_, mset_same, _, rfl, ?_⟩
    (conv => whnf)
    refine ⟨cmL (by decide), ?_⟩
    (conv => whnf)
    refine ⟨_, mset_same, _, rfl, ?_⟩
    (conv => whnf)
    refine ⟨cmR (by omega), by decide, ?_⟩
    generalize (c + 39373 * (z + 1)) * (48271 + (z + 1)) % 2147483647 = o
    have e3 := emod_bd o (b := 40009) (by decide)
    (conv => whnf)
    refine ⟨by decide, ?_⟩
    (conv => whnf)
    refine ⟨cmR (by omega), ?_⟩
    (conv => whnf)
    refine ⟨_, mset_same, _, rfl, ?_⟩
    (conv => whnf)
    refine ⟨by decide, ?_⟩
    (conv => whnf)
    refine ⟨_, mset_same, _, rfl, ?_⟩
    have e1 := emod_bd (o * (o % 40009 + 7) + (z + 1)) (b := 2147483629) (by decide)
    generalize (o * (o % 40009 + 7) + (z + 1)) % 2147483629 = c2 at e1 ⊢
    (conv => whnf)
    refine ⟨_, mset_same, _, rfl, ?_⟩
    (conv => whnf)
    refine ⟨_, mset_same, _, rfl, ?_⟩
    (conv => whnf)
    refine ⟨by decide, ?_⟩
    have e2 := emod_bd c2 (b := 1009) (by decide)
    (conv => whnf)
    refine ⟨cmR (by omega), by decide, by decide, h0, ?_⟩
    rw [mset_mset]
    exact ret (q _ (emod_bd _ h0).1 (emod_bd _ h0).2 _ ⟨_, _, _, rfl, ha, e1.1, e1.2, by omega, by omega⟩)

end My
namespace My
open PySem PySem.Spec L2 Nu
open PyProof.Rows hiding St
/-! ### dr -/
/-! ### draws with a list under way -/
theorem box_under {m : MS} {x p : Addr} {B B' c : Cell} (h : p ≠ x) : mset (mset (mset m x B) p c) x B' = mset (mset m x B') p c := by
  rw [mset_comm h, mset_mset]
theorem aft3.under {x p : Addr} {m : MS} {n : Int} {R : MS → Prop} {B c : Cell} (ne : p ≠ x) (h : ∀ B', B3c n B' → R (mset (mset m x B') p c)) : aft3 x (mset (mset m x B) p c) n R := fun B' hB => by
  rw [box_under ne]; exact h B' hB
theorem B3c.put2 {m : MS} {x p : Addr} {n : Int} {B c : Cell} (h : B3c n B) (ne : p ≠ x) : B3 (mset (mset m x B) p c) x n := ⟨B, by rw [mset_ne ne.symm]; exact mset_same, h⟩
theorem new_ne {m : MS} {x p : Addr} {B : Cell} (h : mset m x B p = none) : p ≠ x ∧ m p = none := by
  by_cases e : p = x
  · rw [e, mset_same] at h; cases h
  · rw [mset_ne e] at h; exact ⟨e, h⟩
theorem mle_gar {m : MS} {x p : Addr} {B c : Cell} (h : m p = none) (ne : p ≠ x) : MLe (mset m x B) (mset (mset m x B) p c) := MLe.fresh (MLe.refl _) (by rw [mset_ne ne]; exact h)
theorem rng_i {n : Nat} {j : Nat} {d : D} (h : (rngD 0 n)[j]? = some d) : d = .int (0 + (j : Nat)) ∧ j < n := by
  have hl := (List.getElem?_eq_some_iff.mp h).1
  rw [rngD_len] at hl
  unfold rngD at h
  rw [List.getElem?_map, List.getElem?_range hl] at h
  exact ⟨(Option.some.inj h).symm, hl⟩
/-- an index into four -/
theorem ix4 {a b c d : D} {v : Int} (h0 : 0 ≤ v) (h1 : v < 4) : ∃ e, atI [a, b, c, d] v = some e ∧ (e = a ∨ e = b ∨ e = c ∨ e = d) := by
  have hv : v = 0 ∨ v = 1 ∨ v = 2 ∨ v = 3 := by omega
  rcases hv with rfl | rfl | rfl | rfl
  · exact ⟨a, rfl, by simp⟩
  · exact ⟨b, rfl, by simp⟩
  · exact ⟨c, rfl, by simp⟩
  · exact ⟨d, rfl, by simp⟩
theorem ix5 {a b c d e : D} {v : Int} (h0 : 0 ≤ v) (h1 : v < 5) : ∃ g, atI [a, b, c, d, e] v = some g ∧ (g = a ∨ g = b ∨ g = c ∨ g = d ∨ g = e) := by
  have hv : v = 0 ∨ v = 1 ∨ v = 2 ∨ v = 3 ∨ v = 4 := by omega
  rcases hv with rfl | rfl | rfl | rfl | rfl
  · exact ⟨a, rfl, by simp⟩
  · exact ⟨b, rfl, by simp⟩
  · exact ⟨c, rfl, by simp⟩
  · exact ⟨d, rfl, by simp⟩
  · exact ⟨e, rfl, by simp⟩
theorem ix3 {a b c : D} {v : Int} (h0 : 0 ≤ v) (h1 : v < 3) : ∃ e, atI [a, b, c] v = some e ∧ (e = a ∨ e = b ∨ e = c) := by
  have hv : v = 0 ∨ v = 1 ∨ v = 2 := by omega
  rcases hv with rfl | rfl | rfl
  · exact ⟨a, rfl, by simp⟩
  · exact ⟨b, rfl, by simp⟩
  · exact ⟨c, rfl, by simp⟩
theorem ix2 {a b : D} {v : Int} (h0 : 0 ≤ v) (h1 : v < 2) : ∃ e, atI [a, b] v = some e ∧ (e = a ∨ e = b) := by
  have hv : v = 0 ∨ v = 1 := by omega
  rcases hv with rfl | rfl
  · exact ⟨a, rfl, by simp⟩
  · exact ⟨b, rfl, by simp⟩
theorem map_eraseIdx {α β : Type} (f : α → β) : ∀ (l : List α) (i : Nat), (l.map f).eraseIdx i = (l.eraseIdx i).map f
  | [], _ => rfl
  | _ :: _, 0 => rfl
  | a :: l, i + 1 => by
    show f a :: (l.map f).eraseIdx i = f a :: (l.eraseIdx i).map f
    rw [map_eraseIdx f l i]
theorem erase_perm {α : Type} : ∀ (l : List α) (i : Nat) (y : α), l[i]? = some y → (y :: l.eraseIdx i).Perm l
  | [], _, _, h => by simp at h
  | a :: l, 0, y, h => by
    have e : a = y := by simpa using h
    rw [e]; exact List.Perm.refl _
  | a :: l, i + 1, y, h => by
    show (y :: a :: l.eraseIdx i).Perm (a :: l)
    exact (List.Perm.swap a y _).trans (List.Perm.cons a (erase_perm l i y (by simpa using h)))

end My
namespace My
open PySem PySem.Spec L2 Nu
open PyProof.Rows hiding St
/-! ### sit -/
/-! ### sites -/
abbrev HS := Str × Str × List Int
def hsD (h : HS) : D := .tup [.str h.1, .str h.2.1, amtD h.2.2]
def siteD (S : List HS) : D := .lst (S.map hsD)
structure SiteOk (w : Nat) (S : List HS) : Prop where
  nd : (S.map (·.1)).Nodup
  len : S.length ≤ 41
  lw : ∀ h ∈ S, h.2.2.length = w
  pos : ∀ h ∈ S, ∀ v ∈ h.2.2, 0 ≤ v
  ok1 : ∀ h ∈ S, PyData.strOk h.1 = true ∧ PyData.strOk h.2.1 = true

end My
namespace My
open PySem PySem.Spec L2 Nu
open PyProof.Rows hiding St
/-! ### srb -/
/-! ### data sorted by their heads -/
theorem toPy_tupS (x : Str) (r : List D) : toPy (.tup (.str x :: r)) = .tuple (.str x :: toPys r) := by rw [toPy, toPys, toPy]
theorem toks_tupS (z : Str) (l : List PyData) : PySem.W.keyToks (.tuple (.str z :: l)) = .inl 1 :: .inr z.cps.toList :: PySem.W.keyToksAll l := by
  rw [PySem.W.keyToks, PySem.W.keyToksAll, PySem.W.keyToks]; rfl
theorem leD_lt (d e : D) : leD d e = !PySem.W.dataLt (toPy e) (toPy d) := rfl
theorem leD_head {x y : Str} {r q : List D} (h : x ≠ y) : leD (.tup (.str x :: r)) (.tup (.str y :: q)) = !ltCps y.cps.toList x.cps.toList := by
  rw [leD_lt, toPy_tupS, toPy_tupS]
  unfold PySem.W.dataLt
  rw [toks_tupS, toks_tupS]
  have ne : (Sum.inr y.cps.toList : Int ⊕ List Nat) ≠ .inr x.cps.toList := fun e => h (Str.ext' (Array.toList_inj.mp (Sum.inr.inj e))).symm
  have e1 := PySem.W.lex_pre [.inl 1] (.inr y.cps.toList :: PySem.W.keyToksAll (toPys q)) (.inr x.cps.toList :: PySem.W.keyToksAll (toPys r))
  have e2 := PySem.W.lex_atom ne (PySem.W.keyToksAll (toPys q)) (PySem.W.keyToksAll (toPys r))
  rw [List.singleton_append, List.singleton_append] at e1
  rw [e1, e2, ltCps_eq, PyProof.Rows.lex_diff ne]; rfl
theorem leD_self (d : D) : leD d d = true := by
  rw [leD_lt]
  unfold PySem.W.dataLt
  rw [PyProof.Rows.lex_irrefl]; rfl
theorem leD_tot : PySem.W.TotalLe leD := PySem.W.sortLe_total _ false _
theorem pw_unique_mem {α : Type} {le : α → α → Prop} : ∀ {l l' : List α}, (∀ a ∈ l, ∀ b ∈ l, le a b → le b a → a = b) → l.Pairwise le → l'.Pairwise le → l.Perm l' → l = l'
  | [], l', _, _, _, p => (List.nil_perm.mp p).symm
  | a :: l, [], _, _, _, p => by have := p.length_eq; simp at this
  | a :: l, b :: l', as, h, h', p => by
    have e : a = b := by
      have ha : a ∈ b :: l' := p.subset (List.mem_cons_self ..)
      have hb : b ∈ a :: l := p.symm.subset (List.mem_cons_self ..)
      rcases List.mem_cons.mp ha with e | ha
      · exact e
      · rcases List.mem_cons.mp hb with e | hb'
        · exact e.symm
        · exact as _ (List.mem_cons_self ..) _ hb ((List.pairwise_cons.mp h).1 b hb') ((List.pairwise_cons.mp h').1 a ha)
    subst e
    rw [pw_unique_mem (fun a ha b hb => as a (List.mem_cons_of_mem _ ha) b (List.mem_cons_of_mem _ hb)) (List.pairwise_cons.mp h).2 (List.pairwise_cons.mp h').2 ((List.perm_cons a).mp p)]
theorem leS_total (a b : Str) : leS a b ∨ leS b a := by
  rw [leS_iff, leS_iff]
  rcases Decidable.em (b.cps.toList < a.cps.toList) with c | c
  · right; rw [List.not_lt]; exact List.le_of_lt c
  · exact .inl c
def srtBy {α : Type} (key : α → Str) (L : List α) : List α := L.mergeSort fun a b => !ltCps (key b).cps.toList (key a).cps.toList
section
variable {α : Type} {key : α → Str} {L L' : List α}
theorem srtBy_perm : (srtBy key L).Perm L := List.mergeSort_perm ..
theorem srtBy_pw : (srtBy key L).Pairwise fun a b => leS (key a) (key b) := by
  refine (List.pairwise_mergeSort (le := fun a b : α => !ltCps (key b).cps.toList (key a).cps.toList) (fun a b c h k => ?_) (fun a b => ?_) L).imp fun h => by simpa using h
  · have h1 : leS (key a) (key b) := by simpa using h
    have h2 : leS (key b) (key c) := by simpa using k
    simpa using leS_trans h1 h2
  · rcases leS_total (key a) (key b) with h | h
    · have h : ltCps (key b).cps.toList (key a).cps.toList = false := h
      simp [h]
    · have h : ltCps (key a).cps.toList (key b).cps.toList = false := h
      simp [h]
theorem srtBy_mem {a : α} : a ∈ srtBy key L ↔ a ∈ L := srtBy_perm.mem_iff
theorem srtBy_len : (srtBy key L).length = L.length := srtBy_perm.length_eq
theorem srtBy_nd (h : (L.map key).Nodup) : ((srtBy key L).map key).Nodup := (srtBy_perm.map key).nodup_iff.mpr h
theorem key_inj : ∀ {L : List α}, (L.map key).Nodup → ∀ {a b : α}, a ∈ L → b ∈ L → key a = key b → a = b
  | [], _, _, _, ha, _, _ => by cases ha
  | c :: L, h, a, b, ha, hb, e => by
    rw [List.map_cons, List.nodup_cons] at h
    rcases List.mem_cons.mp ha with h1 | h1
    · rcases List.mem_cons.mp hb with h2 | h2
      · rw [h1, h2]
      · exact absurd (List.mem_map.mpr ⟨b, h2, by rw [← e, h1]⟩) h.1
    · rcases List.mem_cons.mp hb with h2 | h2
      · exact absurd (List.mem_map.mpr ⟨a, h1, by rw [e, h2]⟩) h.1
      · exact key_inj h.2 h1 h2 e
theorem srtBy_uniq (h : (L.map key).Nodup) (p : L.Perm L') (s : L'.Pairwise fun a b => leS (key a) (key b)) : L' = srtBy key L :=
  pw_unique_mem (fun a ha b hb h1 h2 => key_inj h (p.symm.subset ha) (p.symm.subset hb) (leS_asymm h1 h2)) s srtBy_pw (p.symm.trans srtBy_perm.symm)
theorem srtBy_congr (h : (L.map key).Nodup) (p : L.Perm L') : srtBy key L = srtBy key L' := (srtBy_uniq h (p.trans srtBy_perm.symm) srtBy_pw).symm
theorem srtBy_keys : (srtBy key L).map key = srtT (L.map key) := by
  have h1 : sortedS ((srtBy key L).map key) = true := sortedS_of_pairwise _ (List.pairwise_map.mpr srtBy_pw)
  exact (srtT_eq (srtBy_perm.map key) h1).symm
theorem sort_heads {f : α → D} {rest : α → List D} (hf : ∀ a, f a = .tup (.str (key a) :: rest a)) (nd : (L.map key).Nodup) : (L.map f).mergeSort leD = (srtBy key L).map f := by
  have hle : ∀ a ∈ L, ∀ b ∈ L, (leD (f a) (f b) = true ↔ leS (key a) (key b)) := fun a ha b hb => by
    by_cases e : key a = key b
    · obtain rfl := key_inj nd ha hb e
      rw [leD_self]
      refine ⟨fun _ => ?_, fun _ => rfl⟩
      rw [leS_iff]; exact List.lt_irrefl _
    · rw [hf a, hf b, leD_head e]; simp [leS]
  have p1 : ((L.map f).mergeSort leD).Perm (L.map f) := List.mergeSort_perm ..
  have s1 : ((L.map f).mergeSort leD).Pairwise fun d e => leD d e = true := List.pairwise_mergeSort (fun a b c => leD_tot.trans a b c) (fun a b => by rw [Bool.or_eq_true]; exact leD_tot.total a b) _
  have p2 : ((srtBy key L).map f).Perm (L.map f) := srtBy_perm.map f
  have s2 : ((srtBy key L).map f).Pairwise fun d e => leD d e = true := by
    rw [List.pairwise_map]
    exact srtBy_pw.imp_of_mem fun ha hb h => (hle _ (srtBy_mem.mp ha) _ (srtBy_mem.mp hb)).mpr h
  refine pw_unique_mem (fun d hd e he h1 h2 => ?_) s1 s2 (p1.trans p2.symm)
  obtain ⟨a, ha, rfl⟩ := List.mem_map.mp (p1.subset hd)
  obtain ⟨b, hb, rfl⟩ := List.mem_map.mp (p1.subset he)
  rw [key_inj nd ha hb (leS_asymm ((hle a ha b hb).mp h1) ((hle b hb a ha).mp h2))]
end

end My
namespace My
open PySem PySem.Spec L2 Nu
open PyProof.Rows hiding St
/-! ### cnt -/
/-! ### how often a want fits -/
def quo (want left : List Int) : List Int := ((want.zip left).filter fun p => decide (0 < p.1)).map fun p => p.2 / p.1
def cntI (want left : List Int) (most : Int) : Int := (quo want left).foldl min most
theorem fmin_le : ∀ (l : List Int) (a : Int), l.foldl min a ≤ a ∧ (∀ q ∈ l, l.foldl min a ≤ q) ∧ ∀ n, n ≤ a → (∀ q ∈ l, n ≤ q) → n ≤ l.foldl min a
  | [], a => ⟨by simp, by simp, fun n h _ => h⟩
  | b :: l, a => by
    obtain ⟨h1, h2, h3⟩ := fmin_le l (min a b)
    rw [List.foldl_cons]
    refine ⟨by omega, fun q hq => ?_, fun n ha hq => h3 n (by have := hq b (List.mem_cons_self ..); omega) fun q hq' => hq q (List.mem_cons_of_mem _ hq')⟩
    rcases List.mem_cons.mp hq with rfl | hq
    · omega
    · exact h2 q hq
theorem cnt_most {want left : List Int} {most : Int} : cntI want left most ≤ most := (fmin_le _ _).1
theorem cnt_quo {want left : List Int} {most q : Int} (h : q ∈ quo want left) : cntI want left most ≤ q := (fmin_le _ _).2.1 q h
theorem le_cnt {want left : List Int} {most n : Int} (h : n ≤ most) (k : ∀ q ∈ quo want left, n ≤ q) : n ≤ cntI want left most := (fmin_le _ _).2.2 n h k
theorem cnt_min {want left : List Int} {most z : Int} (hz : z ∈ quo want left) (h : ∀ y ∈ quo want left, z ≤ y) : (if z < most then z else most) = cntI want left most := by
  have h1 := cnt_most (want := want) (left := left) (most := most)
  have h2 := cnt_quo (most := most) hz
  have h3 : (if z < most then z else most) ≤ cntI want left most := le_cnt (by split <;> omega) fun q hq => by have := h q hq; split <;> omega
  split at h3 <;> omega
theorem quo_mem {want left : List Int} {q : Int} : q ∈ quo want left ↔ ∃ p ∈ want.zip left, 0 < p.1 ∧ p.2 / p.1 = q := by
  unfold quo
  simp only [List.mem_map, List.mem_filter, decide_eq_true_eq]
  constructor
  · rintro ⟨p, ⟨h1, h2⟩, h3⟩; exact ⟨p, h1, h2, h3⟩
  · rintro ⟨p, h1, h2, h3⟩; exact ⟨p, ⟨h1, h2⟩, h3⟩
theorem cnt_pos {want left : List Int} {most : Int} (hm : 0 ≤ most) (hl : ∀ v ∈ left, 0 ≤ v) : 0 ≤ cntI want left most := le_cnt hm fun q hq => by
  obtain ⟨p, h1, h2, rfl⟩ := quo_mem.mp hq
  exact Int.ediv_nonneg (hl _ (List.of_mem_zip h1).2) (by omega)
theorem quo_ne {want left : List Int} (hl : want.length = left.length) (h : ∃ v ∈ want, 0 < v) : 0 < (quo want left).length := by
  obtain ⟨v, hv, h0⟩ := h
  obtain ⟨i, hi⟩ := List.getElem?_of_mem hv
  have hil : i < want.length := (List.getElem?_eq_some_iff.mp hi).1
  have : v = want[i] := by rw [List.getElem?_eq_getElem hil] at hi; exact (Option.some.inj hi).symm
  have hz : (want[i], left[i]'(by omega)) ∈ want.zip left := by
    refine List.mem_of_getElem? (i := i) ?_
    rw [List.getElem?_zip_eq_some]
    exact ⟨List.getElem?_eq_getElem hil, List.getElem?_eq_getElem (by omega)⟩
  exact List.length_pos_of_mem (quo_mem.mpr ⟨_, hz, by rw [← this]; exact h0, rfl⟩)
/-- counted one by one it is the same -/
theorem cnt_char {want left : List Int} {most n : Int} (hw : ∀ v ∈ want, 0 ≤ v) (hl : ∀ v ∈ left, 0 ≤ v) (h0 : n ≤ most) (h1 : ∀ p ∈ want.zip left, p.1 * n ≤ p.2) (h2 : n = most ∨ ∃ p ∈ want.zip left, p.2 < p.1 * (n + 1)) : n = cntI want left most := by
  refine Int.le_antisymm (le_cnt h0 fun q hq => ?_) ?_
  · obtain ⟨p, hp, hp0, rfl⟩ := quo_mem.mp hq
    refine (Int.le_ediv_iff_mul_le hp0).mpr ?_
    rw [Int.mul_comm]; exact h1 p hp
  · rcases h2 with rfl | ⟨p, hp, h2⟩
    · exact cnt_most
    · have ha := hw _ (List.of_mem_zip hp).1
      have hb := hl _ (List.of_mem_zip hp).2
      have hp0 : 0 < p.1 := by
        rcases Int.lt_or_le 0 p.1 with h | h
        · exact h
        · have : p.1 = 0 := by omega
          rw [this] at h2; omega
      have h3 := cnt_quo (most := most) (quo_mem.mpr ⟨p, hp, hp0, rfl⟩)
      have h4 : p.2 / p.1 < n + 1 := (Int.ediv_lt_iff_lt_mul hp0).mpr (by rw [Int.mul_comm]; exact h2)
      omega
inductive How where
  | any | apart | near | wide
def How.s : How → Str
  | .any => "any" | .apart => "apart" | .near => "near" | .wide => "wide"
def How.most (h : How) (many : Int) : Int := match h with
  | .any => many | .near => many | .apart => 1 | .wide => 1
abbrev Pr := Str × Int
def prD (p : Pr) : D := .tup [.str p.1, .int p.2]
def cntsT (S : List HS) (want : List Int) (most : Int) : List Pr := (srtBy (·.1) S).map fun h => (h.1, cntI want h.2.2 most)
def prsD (p : List Pr) : D := .tup (p.map prD)
theorem cnts_len {S : List HS} {want : List Int} {most : Int} : (cntsT S want most).length = S.length := by unfold cntsT; rw [List.length_map, srtBy_len]
theorem cnts_keys {S : List HS} {want : List Int} {most : Int} : (cntsT S want most).map (·.1) = srtT (S.map (·.1)) := by
  unfold cntsT; rw [List.map_map, ← srtBy_keys]; rfl

end My
namespace My
open PySem PySem.Spec L2 Nu
open PyProof.Rows hiding St
/-! ### kv -/
/-! ### dicts by names -/
def kvs {α : Type} (key : α → Str) (g : α → D) (L : List α) : List (Key × D) := L.map fun a => (.inr (key a), g a)
section
variable {α : Type} {key : α → Str} {g : α → D} {L : List α}
theorem kvs_len : (kvs key g L).length = L.length := by unfold kvs; rw [List.length_map]
theorem kvs_keys : (kvs key g L).map (·.1) = (L.map key).map Sum.inr := by unfold kvs; rw [List.map_map, List.map_map]; rfl
theorem its_keys : DW.its .keys (kvs key g L) = L.map fun a => .str (key a) := by
  unfold kvs; show List.map _ (List.map _ _) = _; rw [List.map_map]; rfl
theorem put_new {kds : List (Key × D)} {k : Key} {d : D} (h : ∀ kv ∈ kds, kv.1 ≠ k) : putD kds k d = kds ++ [(k, d)] := by
  unfold putD
  rw [if_neg]
  rw [List.any_eq_true]
  rintro ⟨kv, h1, h2⟩
  exact h kv h1 (of_decide_eq_true h2)
theorem put_kvs {a : α} (h : key a ∉ L.map key) : putD (kvs key g L) (.inr (key a)) (g a) = kvs key g (L ++ [a]) := by
  rw [put_new]
  · unfold kvs; rw [List.map_append]; rfl
  · intro kv hkv e
    obtain ⟨b, hb, rfl⟩ := List.mem_map.mp hkv
    exact h (List.mem_map.mpr ⟨b, hb, Sum.inr.inj e⟩)
theorem val_kvs : ∀ {L : List α}, (L.map key).Nodup → ∀ {a : α}, a ∈ L → valD (kvs key g L) (.inr (key a)) = some (g a)
  | [], _, _, h => by cases h
  | b :: L, nd, a, h => by
    rw [List.map_cons, List.nodup_cons] at nd
    unfold kvs valD
    rw [List.map_cons, List.find?_cons]
    by_cases e : key b = key a
    · rcases List.mem_cons.mp h with rfl | h
      · simp
      · exact absurd (e ▸ List.mem_map.mpr ⟨a, h, rfl⟩) nd.1
    · have hne : decide ((Sum.inr (key b) : Key) = .inr (key a)) = false := by simp [e]
      rcases List.mem_cons.mp h with rfl | h
      · exact absurd rfl e
      · have := val_kvs nd.2 h
        unfold kvs valD at this
        simp only [hne]
        exact this
theorem val_none : ∀ {L : List α} {k : Str}, k ∉ L.map key → valD (kvs key g L) (.inr k) = none
  | [], _, _ => rfl
  | b :: L, k, h => by
    rw [List.map_cons, List.mem_cons, not_or] at h
    have := val_none h.2
    unfold kvs valD at this ⊢
    have hne : decide ((Sum.inr (key b) : Key) = .inr k) = false := by simp; exact fun e => h.1 e.symm
    rw [List.map_cons, List.find?_cons]
    simp only [hne]
    exact this
theorem val_in {k : Str} : (valD (kvs key g L) (.inr k)).isSome = decide (k ∈ L.map key) := by
  unfold valD
  rw [Option.isSome_map, Bool.eq_iff_iff, List.find?_isSome, decide_eq_true_eq]
  unfold kvs
  constructor
  · rintro ⟨x, hx, e⟩
    obtain ⟨a, ha, rfl⟩ := List.mem_map.mp hx
    exact List.mem_map.mpr ⟨a, ha, Sum.inr.inj (of_decide_eq_true e)⟩
  · intro h
    obtain ⟨a, ha, rfl⟩ := List.mem_map.mp h
    exact ⟨_, List.mem_map.mpr ⟨a, ha, rfl⟩, decide_eq_true rfl⟩
end
/-! ### pairs alike -/
theorem noBl_prs : ∀ p : List Pr, noBls (p.map prD) = true
  | [] => by rw [List.map_nil, noBls]
  | a :: p => by
    rw [List.map_cons, noBls, noBl_prs p, Bool.and_true]
    unfold prD
    rw [noBl, noBls, noBls, noBls, noBl, noBl]; rfl
theorem noBl_prsD (p : List Pr) : noBl (prsD p) = true := by unfold prsD; rw [noBl]; exact noBl_prs p
theorem prD_inj {p q : Pr} (h : prD p = prD q) : p = q := by
  obtain ⟨a, b⟩ := p; obtain ⟨c, d⟩ := q
  unfold prD at h
  simp at h
  rw [h.1, h.2]
theorem map_inj {α β : Type} {f : α → β} (hf : ∀ a b, f a = f b → a = b) : ∀ {l l' : List α}, l.map f = l'.map f → l = l'
  | [], [], _ => rfl
  | [], _ :: _, h => by simp at h
  | _ :: _, [], h => by simp at h
  | a :: l, b :: l', h => by
    rw [List.map_cons, List.map_cons, List.cons.injEq] at h
    rw [hf a b h.1, map_inj hf h.2]
theorem prsD_inj {p q : List Pr} (h : prsD p = prsD q) : p = q := by
  unfold prsD at h
  exact map_inj (fun a b => prD_inj) (D.tup.inj h)
theorem eqD_prs (p q : List Pr) : eqD (prsD p) (prsD q) = decide (p = q) := by
  rw [Bool.eq_iff_iff, eqD_iff (noBl_prsD p) (noBl_prsD q), decide_eq_true_eq]
  exact ⟨prsD_inj, fun h => by rw [h]⟩
theorem pl_mono : ∀ {n : Nat} {p : List Pr}, (∀ e ∈ p, PyData.strOk e.1 = true) → plDs (n + 1) (p.map prD) = true
  | n, [], _ => by rw [List.map_nil, plDs]
  | n, a :: p, h => by
    rw [List.map_cons, plDs, pl_mono fun e he => h e (List.mem_cons_of_mem _ he), Bool.and_true]
    unfold prD
    rw [plD, plDs, plDs, plDs, plD, plD, h a (List.mem_cons_self ..)]; rfl
theorem pl_prs {p : List Pr} (h : ∀ e ∈ p, PyData.strOk e.1 = true) : plD 40 (prsD p) = true := by
  unfold prsD; rw [plD]; exact pl_mono h
theorem see_prs {m : MS} : ∀ p : List Pr, Sees m (p.map prD) (p.map prD)
  | [] => .nil
  | a :: p => .cons (.tup (.cons (.str _) (.cons (.int _) .nil))) (see_prs p)
theorem see_prsD {m : MS} (p : List Pr) : See m (prsD p) (prsD p) := .tup (see_prs p)
theorem pl_intsN (n : Nat) : ∀ E : List Int, plDs n (E.map .int) = true
  | [] => by rw [List.map_nil, plDs]
  | a :: E => by rw [List.map_cons, plDs, pl_intsN n E, Bool.and_true, plD]
theorem site_pls : ∀ {S : List HS}, (∀ h ∈ S, PyData.strOk h.1 = true ∧ PyData.strOk h.2.1 = true) → plDs 40 (S.map hsD) = true
  | [], _ => by rw [List.map_nil, plDs]
  | a :: S, h => by
    have ha := h a (List.mem_cons_self ..)
    rw [List.map_cons, plDs, site_pls fun e he => h e (List.mem_cons_of_mem _ he), Bool.and_true]
    unfold hsD amtD
    rw [plD, plDs, plDs, plDs, plDs, plD, plD, plD, ha.1, ha.2, pl_intsN]; rfl
theorem site_pl {w : Nat} {S : List HS} (h : SiteOk w S) : plDs 40 (S.map hsD) = true := site_pls h.ok1
theorem alike_ints : ∀ (a b : List Int), PySem.W.alikeAll (toPys (a.map .int)) (toPys (b.map .int)) = true
  | [], b => by rw [List.map_nil, toPys, PySem.W.alikeAll]
  | x :: a, [] => by rw [List.map_nil, List.map_cons, toPys, toPys, PySem.W.alikeAll]
  | x :: a, y :: b => by
    rw [List.map_cons, List.map_cons, toPys, toPys, PySem.W.alikeAll, alike_ints a b, Bool.and_true, toPy, toPy, PySem.W.alike]
theorem toPy_hs (h : HS) : toPy (hsD h) = .tuple [.str h.1, .str h.2.1, .tuple (toPys (h.2.2.map .int))] := by
  unfold hsD amtD
  rw [toPy, toPys, toPys, toPys, toPys, toPy, toPy, toPy]
theorem site_alike (S : List HS) : PySem.W.AllAlike ((S.map hsD).map toPy) := by
  intro d hd e he
  obtain ⟨x, hx, rfl⟩ := List.mem_map.mp hd
  obtain ⟨y, hy, rfl⟩ := List.mem_map.mp he
  obtain ⟨a, _, rfl⟩ := List.mem_map.mp hx
  obtain ⟨b, _, rfl⟩ := List.mem_map.mp hy
  rw [toPy_hs, toPy_hs, PySem.W.alike, PySem.W.alikeAll, PySem.W.alikeAll, PySem.W.alikeAll, PySem.W.alikeAll, PySem.W.alike, PySem.W.alike, PySem.W.alike, alike_ints]; rfl
theorem site_tup (S : List HS) : ∀ d, d ∈ (S.map hsD).map toPy → ∃ x r, d = .tuple (x :: r) := by
  intro d hd
  obtain ⟨x, hx, rfl⟩ := List.mem_map.mp hd
  obtain ⟨a, _, rfl⟩ := List.mem_map.mp hx
  exact ⟨_, _, toPy_hs a⟩

end My
namespace My
open PySem PySem.Spec L2 Nu
open PyProof.Rows hiding St
/-! ### lw -/
/-! ### what every law promises -/
def lawA : ASp := fun ss m P _ => ∃ ns : List Int, ss = [.fls (ns.map .int)] ∧ ns.length ≤ 63 ∧ (∀ p, m p = none) ∧ ∀ m', P (.bl true) m'
theorem len_lawA : ∀ ss m P Z, lawA ss m P Z → ss.length = 1 := by
  rintro _ m P Z ⟨ns, rfl, _⟩; rfl
theorem law_in {K : PySem.W.Frag} {H : Hp} (a : Addr) (ns : List Int) (hl : ns.length ≤ 63) (hS : LsA K H a (ns.map V.int)) : spA K lawA [.ref a] H (fun v _ => v = .bl true) (fun _ _ _ => False) := by
  refine ⟨H, [.fls (ns.map .int)], fun _ => none, fun d _ => d = .bl true, EZ0, ⟨fun _ _ e => e, fun _ _ e => by cases e⟩, .cons (.fls hS (Rps.of_ints ns)) .nil, ⟨ns, rfl, hl, fun _ => rfl, fun _ => rfl⟩, ?_, ?_⟩
  · intro v H' F' d m' hd _ r
    subst hd; cases r; rfl
  · intro c es H' F' m' cls dd z
    exact z.elim
theorem walk_nu {l : PySem.W.OpenLaw} {n k : Nat} {q : Program} {loose : List Str} {XP : (Str → Option Value) → Heap → Prop} {YP : World → Heap → Prop} {d : DefRec} {K : Params → PySem.W.Frag} {a : ASp} {x : Str}
    (hn : l.most = some n) (hn2 : n ≤ sizeLine) (hdf : d.params.defaults = []) (hr : Room k callerA)
    (hY : ∀ (w : World) (h : Heap), YP w h → (K w.params).In h)
    (F : ∀ (w : World) (mg : Str → Option Value) (fa : Addr) (h : Heap), (K w.params).In h → h.Ns mainGlobals mg → mg d.name = some (.ref fa) →
      ∃ fd : FuncData, (∀ (s : Shared) (u : Value), BindsTo s fd ⟨[u], []⟩ [(x, u)]) ∧
        ∀ base : Heap, (K w.params).In base → base.Ns mainGlobals mg → FnOk l.prog w (K w.params) mg base (L2.CX l.prog w) k fa fd [x] (spA (K w.params) a))
    (hsp : ∀ (K : PySem.W.Frag) (H : Hp) (b : Addr) (ns : List Int), ns.length ≤ n → LsA K H b (ns.map V.int) → spA K a [.ref b] H (fun v _ => v = .bl true) fun _ _ _ => False) :
    PySem.W.WalkO q loose XP YP l.row.toRowW d [] (fun f vs => PySem.call f vs) := by
  refine Att.attach_call hn hdf fun w s₀ s₁ mg mb fa o pm cd doc b vs ns G Y ho hd hcd hmg hobj hints hlen hg => ?_
  have kx := hY w _ Y
  obtain ⟨fd, h1, h2⟩ := F w mg fa _ kx G.T.g hmg
  refine L2.law_call kx G.T.g G.T.b G.T.builtins G.T.nolimit hg hobj hints (Nat.le_trans hlen hn2) hr h2 h1 (fun H _ hS => hsp (K w.params) H b ns hlen ?_) fun H e s' h => ?_
  · rcases hS with hS | ⟨o, its, m, c1, c2, c3, c4, c5, c6⟩
    · exact .inl hS
    · have c7 := kx b o c1
      rw [hobj] at c7
      cases c7
      exact .inr ⟨its, m, by rw [c1]; congr 1; cases c4; rfl, c5, c6⟩
  · obtain ⟨_, _, _, _, _, _, _, _, _, _, _, _, h⟩ := h
    exact h

end My
namespace My
open PySem PySem.Spec L2 Nu
open PyProof.Rows hiding St
/-! ### gng -/
/-! ### gangs and rows -/
structure Gang where
  name : Str
  guild : Str
  rank : Int
  many : Int
  want : List Int
  how : Str
  cost : Int
  deriving DecidableEq
def gD (g : Gang) : D := .tup [.str g.name, .str g.guild, .int g.rank, .int g.many, amtD g.want, .str g.how, .int g.cost]
abbrev RowG := Gang × Int
def rgD (r : RowG) : D := .tup [gD r.1, .int r.2]
def rgsD (R : List RowG) : D := .lst (R.map rgD)
structure GangOk (w : Nat) (gs : List Str) (g : Gang) : Prop where
  lw : g.want.length = w
  pos : ∀ v ∈ g.want, 0 ≤ v ∧ v ≤ 1000000000000
  some : ∃ v ∈ g.want, 0 < v
  rank : 0 ≤ g.rank ∧ g.rank < 10
  many : 1 ≤ g.many ∧ g.many ≤ 60
  how : ∃ h : How, g.how = h.s
  guild : g.guild ∈ gs
  cost : 1 ≤ g.cost ∧ g.cost ≤ 1000000
  ok : PyData.strOk g.name = true ∧ PyData.strOk g.guild = true
theorem cut_last (xs : List D) (h : 0 < xs.length) : Nu.cutD xs none (some (-1)) = xs.take (xs.length - 1) := by
  unfold Nu.cutD
  rw [HT.sIx_none, List.drop_zero, Nat.sub_zero]
  congr 1
  unfold HT.sIx
  simp
  omega
theorem howOk : ∀ h : How, PyData.strOk h.s = true
  | .any => by decide +kernel
  | .apart => by decide +kernel
  | .near => by decide +kernel
  | .wide => by decide +kernel
def keyG (r : RowG) : D := .tup [.int (-r.1.rank), .int r.2]
theorem cutH (xs : List D) (n : Nat) : Nu.cutD xs none (some (n : Int)) = xs.take n := by
  unfold Nu.cutD
  rw [HT.sIx_none, List.drop_zero, Nat.sub_zero, HT.sIx_nat]
  rcases Nat.le_total n xs.length with h | h
  · rw [Nat.min_eq_left h]
  · rw [Nat.min_eq_right h, List.take_of_length_le (Nat.le_refl _), List.take_of_length_le h]
theorem cutT (xs : List D) (n : Nat) : Nu.cutD xs (some (n : Int)) none = xs.drop n := by
  unfold Nu.cutD
  rw [HT.sIx_none, HT.sIx_nat]
  rcases Nat.le_total n xs.length with h | h
  · rw [Nat.min_eq_left h, List.take_of_length_le (by rw [List.length_drop]; omega)]
  · rw [Nat.min_eq_right h, List.drop_eq_nil_of_le h, List.drop_eq_nil_of_le (Nat.le_refl _), List.take_nil]

end My
namespace My
open PySem PySem.Spec L2 Nu
open PyProof.Rows hiding St
/-! ### _law_gang_69eb -/
def a__law_gang_69eb : ASp := fun ss m P _ => ∃ (x : Addr) (name : Str) (gs : List Str) (w : Nat) (W k : Int), ss = [.raw (.ref x), .str name, .lst (gs.map .str), .int w, .int W] ∧ B3 m x k ∧ (k ≤ 1000000 ∧ 1 ≤ w ∧ w ≤ 8 ∧ 1 ≤ W ∧ W ≤ 1000000000000) ∧ (0 < gs.length ∧ gs.length ≤ 100 ∧ (∀ g ∈ gs, PyData.strOk g = true) ∧ PyData.strOk name = true) ∧ ∀ g : Gang, GangOk w gs g → g.name = name → aft3 x m (k + 40) (P (gD g))
theorem len__law_gang_69eb : ∀ ss m P Z, a__law_gang_69eb ss m P Z → ss.length = 5 := by
  rintro _ m P Z ⟨a, b, c, d, e, f, rfl, _⟩; rfl
abbrev n__law_gang_69eb : List Str := ["_law_box_here", "_law_name", "_law_guilds", "_law_wares", "_law_wide", "_law_want", "_law_many", "_law_rank", "_law_how", "_law_k"]
theorem nd__law_gang_69eb : (n__law_gang_69eb).Nodup := by decide +kernel
def u__law_gang_69eb : SS :=
  (.cons (.set 5 (.bop sToTup (.cons (.lc (.name 9) isRng (.cons (.var 3) .nil) .nil (.call a__law_take_9ad5 (.cons (.var 0) (.cons (.bop sAdd (.cons (.var 4) (.cons (.cst (.int 1)) .nil))) .nil)))) .nil)))
  (.cut (.iff (.bop sEq (.cons (.bop sMaxL (.cons (.var 5) .nil)) (.cons (.cst (.int 0)) .nil))) (.cons (.set 5 (.bop sAdd (.cons (.bop sSlH (.cons (.var 5) (.cons (.cst (.int (-1))) .nil))) (.cons (.bop sTup (.cons (.bop sAdd (.cons (.cst (.int 1)) (.cons (.call a__law_take_9ad5 (.cons (.var 0) (.cons (.var 4) .nil))) .nil))) .nil)) .nil))))
  .nil) .nil)
  (.cons (.set 6 (.bop sIx (.cons (.bop sLst (.cons (.cst (.int 1)) (.cons (.bop sAdd (.cons (.cst (.int 1)) (.cons (.call a__law_take_9ad5 (.cons (.var 0) (.cons (.cst (.int 4)) .nil))) .nil))) (.cons (.bop sAdd (.cons (.cst (.int 1)) (.cons (.call a__law_take_9ad5 (.cons (.var 0) (.cons (.cst (.int 60)) .nil))) .nil))) .nil)))) (.cons (.call a__law_take_9ad5 (.cons (.var 0) (.cons (.cst (.int 3)) .nil))) .nil))))
  (.cons (.set 7 (.bop sIx (.cons (.bop sLst (.cons (.call a__law_take_9ad5 (.cons (.var 0) (.cons (.cst (.int 3)) .nil))) (.cons (.call a__law_take_9ad5 (.cons (.var 0) (.cons (.cst (.int 10)) .nil))) .nil))) (.cons (.call a__law_take_9ad5 (.cons (.var 0) (.cons (.cst (.int 2)) .nil))) .nil))))
  (.cons (.set 8 (.bop sIx (.cons (.bop sLst (.cons (.cst (.str "any")) (.cons (.cst (.str "apart")) (.cons (.cst (.str "near")) (.cons (.cst (.str "wide")) .nil))))) (.cons (.call a__law_take_9ad5 (.cons (.var 0) (.cons (.cst (.int 4)) .nil))) .nil))))
  (.cons (.ret (.bop sTup (.cons (.var 1) (.cons (.bop sIx (.cons (.var 2) (.cons (.call a__law_take_9ad5 (.cons (.var 0) (.cons (.bop sLen (.cons (.var 2) .nil)) .nil))) .nil))) (.cons (.var 7) (.cons (.var 6) (.cons (.var 5) (.cons (.var 8) (.cons (.bop sAdd (.cons (.cst (.int 1)) (.cons (.call a__law_take_9ad5 (.cons (.var 0) (.cons (.cst (.int 1000000)) .nil))) .nil))) .nil)))))))))
  .nil))))))
theorem body__law_gang_69eb : ∀ (ss : List D) (m : MS) (P : NX) (Z : EZ), a__law_gang_69eb ss m P Z → WB u__law_gang_69eb (startR n__law_gang_69eb ss) m (bodyE P Z) := by
  rintro _ m P Z ⟨x, name, gs, w, W, k, rfl, ⟨B0, hx0, hB0⟩, ⟨hk, w1, w8, W1, W2⟩, ⟨hg0, hg1, hgo, hno⟩, q⟩
  have e0 : m = mset m x B0 := (mset_self hx0).symm
  (conv => whnf)
  refine ⟨⟨by omega, by omega⟩, ?_⟩
  (conv => whnf)
  rw [rngD_len]
  refine ⟨by omega, fun j acc m' => ∃ (B : Cell) (l : List Int), m' = mset m x B ∧ B3c (k + j) B ∧ acc = l.map .int ∧ l.length = j ∧ ∀ v ∈ l, 0 ≤ v ∧ v ≤ W, ⟨B0, [], e0, hB0.mono (by omega), rfl, rfl, by simp⟩, fun _ _ _ _ _ => trivial, ?_, ?_⟩
  · rintro j d acc m' hd ⟨B, l, rfl, hB, rfl, hl, hl0⟩
    obtain ⟨hj, rfl⟩ := rngD_get hd
    (conv => whnf)
    refine ⟨fun _ => ?_, fun c => (by cases c)⟩
    (conv => whnf)
    refine ⟨x, W + 1, k + j, rfl, hB.put, ⟨by omega, by omega, by omega⟩, fun v v0 v1 B hB => ?_⟩
    rw [mset_mset]
    refine ⟨B, l ++ [v], rfl, hB.mono (by omega), by rw [List.map_append]; rfl, by simp [hl], fun y hy => ?_⟩
    rcases List.mem_append.mp hy with hy | hy
    · exact hl0 y hy
    · rw [List.mem_singleton.mp hy]; omega
  · rintro acc m' ⟨B, l, rfl, hB, rfl, hl, hl0⟩
    refine .inl ?_
    (conv => whnf)
    refine ⟨fun ρ' m' => ∃ (B : Cell) (l : List Int), m' = mset m x B ∧ B3c (k + 9) B ∧ (l.length = w ∧ (∀ v ∈ l, 0 ≤ v ∧ v ≤ 1000000000000) ∧ ∃ v ∈ l, 0 < v) ∧ ρ' = [some (.raw (.ref x)), some (.str name), some (.lst (gs.map .str)), some (.int w), some (.int W), some (amtD l), none, none, none, none], ?_, ?_⟩
    · (conv => whnf)
      refine ⟨l, rfl, by omega, fun z hz hzm => ?_⟩
      (conv => whnf)
      refine ⟨_, rfl, fun hk2 => ?_, fun hk2 => ?_⟩
      · (conv => whnf)
        rw [cut_last _ (by rw [List.length_map]; omega), List.length_map]
        refine ⟨x, W, _, rfl, hB.put, ⟨by omega, by omega, by omega⟩, fun v v0 v1 B hB => ?_⟩
        rw [mset_mset]
        (conv => whnf)
        refine ⟨by rw [List.length_take, List.length_map]; simp; omega, ?_⟩
        have e : D.tup (List.take (l.length - 1) (l.map D.int) ++ [D.int (1 + v)]) = amtD (l.take (l.length - 1) ++ [1 + v]) := by
          unfold amtD
          rw [List.map_append, List.map_take]; rfl
        rw [e]
        refine ⟨B, l.take (l.length - 1) ++ [1 + v], rfl, hB.mono (by omega), ⟨by rw [List.length_append, List.length_take]; simp; omega, fun y hy => ?_, 1 + v, by simp, by omega⟩, rfl⟩
        rcases List.mem_append.mp hy with hy | hy
        · have := hl0 y (List.mem_of_mem_take hy); omega
        · rw [List.mem_singleton.mp hy]; omega
      · have hz0 : z ≠ 0 := of_decide_eq_false hk2
        have := hl0 z hz
        exact ⟨B, l, rfl, hB.mono (by omega), ⟨by omega, fun v hv => by have := hl0 v hv; omega, z, hz, by omega⟩, rfl⟩
    rintro _ _ ⟨B, l, rfl, hB, ⟨hl, hlp, hl0⟩, rfl⟩
    refine ⟨_, _, VwS.refl, ?_⟩
    (conv => whnf)
    refine ⟨x, 4, k + 9, rfl, hB.put, ⟨by omega, by decide, by decide⟩, fun a a0 a1 B hB => ?_⟩
    rw [mset_mset]
    (conv => whnf)
    refine ⟨x, 60, k + 9 + 1, rfl, hB.put, ⟨by omega, by decide, by decide⟩, fun b b0 b1 B hB => ?_⟩
    rw [mset_mset]
    (conv => whnf)
    refine .inl ?_
    (conv => whnf)
    refine ⟨x, 3, k + 9 + 1 + 1, rfl, hB.put, ⟨by omega, by decide, by decide⟩, fun c c0 c1 B hB => ?_⟩
    rw [mset_mset]
    (conv => whnf)
    obtain ⟨e, he, hm⟩ := ix3 (a := D.int 1) (b := .int (1 + a)) (c := .int (1 + b)) c0 c1
    obtain ⟨many, rfl, hmany⟩ : ∃ t : Int, e = .int t ∧ (1 ≤ t ∧ t ≤ 60) := by
      rcases hm with rfl | rfl | rfl
      · exact ⟨_, rfl, by omega⟩
      · exact ⟨_, rfl, by omega⟩
      · exact ⟨_, rfl, by omega⟩
    refine ⟨_, he, ?_⟩
    (conv => whnf)
    refine ⟨x, 3, k + 9 + 1 + 1 + 1, rfl, hB.put, ⟨by omega, by decide, by decide⟩, fun a a0 a1 B hB => ?_⟩
    rw [mset_mset]
    (conv => whnf)
    refine ⟨x, 10, k + 9 + 1 + 1 + 1 + 1, rfl, hB.put, ⟨by omega, by decide, by decide⟩, fun b b0 b1 B hB => ?_⟩
    rw [mset_mset]
    (conv => whnf)
    refine .inl ?_
    (conv => whnf)
    refine ⟨x, 2, k + 9 + 1 + 1 + 1 + 1 + 1, rfl, hB.put, ⟨by omega, by decide, by decide⟩, fun c c0 c1 B hB => ?_⟩
    rw [mset_mset]
    (conv => whnf)
    obtain ⟨e, he, hm⟩ := ix2 (a := D.int a) (b := .int b) c0 c1
    obtain ⟨rank, rfl, hrank⟩ : ∃ t : Int, e = .int t ∧ (0 ≤ t ∧ t < 10) := by
      rcases hm with rfl | rfl
      · exact ⟨_, rfl, by omega⟩
      · exact ⟨_, rfl, by omega⟩
    refine ⟨_, he, ?_⟩
    (conv => whnf)
    refine .inl ?_
    (conv => whnf)
    refine ⟨x, 4, k + 9 + 1 + 1 + 1 + 1 + 1 + 1, rfl, hB.put, ⟨by omega, by decide, by decide⟩, fun c c0 c1 B hB => ?_⟩
    rw [mset_mset]
    (conv => whnf)
    obtain ⟨e, he, hm⟩ := ix4 (a := D.str How.any.s) (b := .str How.apart.s) (c := .str How.near.s) (d := .str How.wide.s) c0 c1
    obtain ⟨h, rfl⟩ : ∃ h : How, e = .str h.s := by
      rcases hm with rfl | rfl | rfl | rfl <;> exact ⟨_, rfl⟩
    refine ⟨_, he, ?_⟩
    (conv => whnf)
    rw [List.length_map]
    refine ⟨x, gs.length, k + 9 + 1 + 1 + 1 + 1 + 1 + 1 + 1, rfl, hB.put, ⟨by omega, by omega, by omega⟩, fun c c0 c1 B hB => ?_⟩
    rw [mset_mset]
    (conv => whnf)
    have hcn : c.toNat < gs.length := by omega
    refine ⟨.str gs[c.toNat], atI_get c0 (by rw [List.getElem?_map, List.getElem?_eq_getElem hcn]; rfl), ?_⟩
    (conv => whnf)
    refine ⟨x, 1000000, k + 9 + 1 + 1 + 1 + 1 + 1 + 1 + 1 + 1, rfl, hB.put, ⟨by omega, by decide, by decide⟩, fun d d0 d1 B hB => ?_⟩
    rw [mset_mset]
    (conv => whnf)
    have hgm := List.getElem_mem hcn
    exact ret (q ⟨name, gs[c.toNat], rank, many, l, h.s, 1 + d⟩ ⟨hl, hlp, hl0, hrank, hmany, ⟨h, rfl⟩, hgm, ⟨by show 1 ≤ 1 + d; omega, by show 1 + d ≤ 1000000; omega⟩, hno, hgo _ hgm⟩ rfl B (hB.mono (by omega)))

end My
namespace My
open PySem PySem.Spec L2 Nu
open PyProof.Rows hiding St
/-! ### _law_due_ff14 -/
def a__law_due_ff14 : ASp := fun ss m P _ => ∃ (x : Addr) (w : Nat) (W k : Int), ss = [.raw (.ref x), .int w, .int W] ∧ B3 m x k ∧ (k ≤ 1000000 ∧ 1 ≤ w ∧ w ≤ 8 ∧ 1 ≤ W ∧ W ≤ 1000000000000) ∧ ∀ l : List Int, l.length = w → (∀ v ∈ l, 0 ≤ v ∧ v ≤ 1000000000000) → aft3 x m (k + 20) (P (amtD l))
theorem len__law_due_ff14 : ∀ ss m P Z, a__law_due_ff14 ss m P Z → ss.length = 3 := by
  rintro _ m P Z ⟨a, b, c, d, rfl, _⟩; rfl
abbrev n__law_due_ff14 : List Str := ["_law_box_here", "_law_wares", "_law_wide", "_law_much", "_law_due_here", "_law_k"]
theorem nd__law_due_ff14 : (n__law_due_ff14).Nodup := by decide +kernel
def u__law_due_ff14 : SS :=
  (.cons (.set 3 (.bop sMul (.cons (.bop sIx (.cons (.bop sLst (.cons (.cst (.int 0)) (.cons (.cst (.int 2)) (.cons (.cst (.int 8)) (.cons (.cst (.int 40)) (.cons (.cst (.int 300)) .nil)))))) (.cons (.call a__law_take_9ad5 (.cons (.var 0) (.cons (.cst (.int 5)) .nil))) .nil))) (.cons (.var 2) .nil))))
  (.cons (.set 4 (.lc (.name 5) isRng (.cons (.var 1) .nil) .nil (.bop sMin2 (.cons (.cst (.int 1000000000000)) (.cons (.bop sAdd (.cons (.bop sFdv (.cons (.var 3) (.cons (.cst (.int 2)) .nil))) (.cons (.call a__law_take_9ad5 (.cons (.var 0) (.cons (.bop sAdd (.cons (.var 3) (.cons (.cst (.int 1)) .nil))) .nil))) .nil))) .nil)))))
  (.cut (.iff (.bop sEq (.cons (.call a__law_take_9ad5 (.cons (.var 0) (.cons (.cst (.int 8)) .nil))) (.cons (.cst (.int 0)) .nil))) (.cons (.iset (.var 4) (.call a__law_take_9ad5 (.cons (.var 0) (.cons (.var 1) .nil))) (.cst (.int 0)))
  .nil) .nil)
  (.cons (.ret (.bop sToTup (.cons (.var 4) .nil)))
  .nil))))
theorem body__law_due_ff14 : ∀ (ss : List D) (m : MS) (P : NX) (Z : EZ), a__law_due_ff14 ss m P Z → WB u__law_due_ff14 (startR n__law_due_ff14 ss) m (bodyE P Z) := by
  rintro _ m P Z ⟨x, w, W, k, rfl, hb, ⟨hk, w1, w8, W1, W2⟩, q⟩
  (conv => whnf)
  refine .inl ?_
  (conv => whnf)
  refine ⟨x, 5, k, rfl, hb, ⟨by omega, by decide, by decide⟩, fun v v0 v1 B hB => ?_⟩
  (conv => whnf)
  obtain ⟨e, he, hm⟩ := ix5 (a := D.int 0) (b := .int 2) (c := .int 8) (d := .int 40) (e := .int 300) v0 v1
  obtain ⟨t, rfl, ht⟩ : ∃ t : Int, e = .int t ∧ (0 ≤ t ∧ t ≤ 300) := by
    rcases hm with rfl | rfl | rfl | rfl | rfl <;> exact ⟨_, rfl, by omega⟩
  refine ⟨_, he, ?_⟩
  (conv => whnf)
  refine ⟨cmR ⟨by omega, by omega⟩, ?_⟩
  have hM0 : 0 ≤ t * W := Int.mul_nonneg ht.1 (by omega)
  have hM1 : t * W ≤ 300 * 1000000000000 := Int.mul_le_mul ht.2 W2 (by omega) (by decide)
  generalize t * W = M at hM0 hM1
  (conv => whnf)
  refine ⟨⟨by omega, by omega⟩, ?_⟩
  (conv => whnf)
  rw [rngD_len]
  refine ⟨by omega, fun j acc m' => ∃ (B : Cell) (l : List Int), m' = mset m x B ∧ B3c (k + 1 + j) B ∧ acc = l.map .int ∧ l.length = j ∧ ∀ v ∈ l, 0 ≤ v ∧ v ≤ 1000000000000, ⟨B, [], rfl, hB.mono (by omega), rfl, rfl, by simp⟩, fun _ _ _ _ _ => trivial, ?_, ?_⟩
  · rintro j d acc m' hd ⟨B, l, rfl, hB, rfl, hl, hl0⟩
    obtain ⟨hj, rfl⟩ := rngD_get hd
    (conv => whnf)
    refine ⟨fun _ => ?_, fun c => (by cases c)⟩
    (conv => whnf)
    refine ⟨⟨by decide, by decide⟩, ?_⟩
    (conv => whnf)
    refine ⟨x, M + 1, k + 1 + j, rfl, hB.put, ⟨by omega, by omega, by omega⟩, fun v v0 v1 B hB => ?_⟩
    rw [mset_mset]
    (conv => whnf)
    refine ⟨B, l ++ [_], rfl, hB.mono (by omega), by rw [List.map_append]; rfl, by simp [hl], fun y hy => ?_⟩
    rcases List.mem_append.mp hy with hy | hy
    · exact hl0 y hy
    · rw [List.mem_singleton.mp hy]
      have : 0 ≤ M / 2 := by omega
      split <;> omega
  · rintro acc m' ⟨B, l, rfl, hB, rfl, hl, hl0⟩
    refine .inr fun p hp => ?_
    obtain ⟨hpx, hp⟩ := new_ne hp
    (conv => whnf)
    refine ⟨fun ρ' m' => ∃ (B : Cell) (l : List Int), m' = mset (mset m x B) p (.lst (l.map .int)) ∧ B3c (k + 20) B ∧ (l.length = w ∧ (∀ v ∈ l, 0 ≤ v ∧ v ≤ 1000000000000)) ∧ ρ' = [some (.raw (.ref x)), some (.int w), some (.int W), some (.int M), some (.raw (.ref p)), none], ?_, ?_⟩
    · (conv => whnf)
      refine ⟨x, 8, k + 1 + w, rfl, hB.put2 hpx, ⟨by omega, by decide, by decide⟩, fun v v0 v1 => aft3.under hpx fun B hB => ?_⟩
      (conv => whnf)
      refine ⟨_, rfl, fun hk2 => ?_, fun hk2 => ?_⟩
      · (conv => whnf)
        refine ⟨x, w, k + 1 + w + 1, rfl, hB.put2 hpx, ⟨by omega, by omega, by omega⟩, fun u u0 u1 => aft3.under hpx fun B hB => ?_⟩
        have hu : u.toNat < l.length := by omega
        refine ⟨_, mset_same, u.toNat, ?_, ?_⟩
        · unfold ixN
          rw [List.length_map, if_pos u0, if_pos (by omega)]
        rw [mset_mset]
        refine ⟨B, l.set u.toNat 0, by rw [List.map_set], hB.mono (by omega), ⟨by rw [List.length_set]; omega, fun y hy => ?_⟩, rfl⟩
        rcases List.mem_or_eq_of_mem_set hy with hy | rfl
        · exact hl0 y hy
        · omega
      · exact ⟨B, l, rfl, hB.mono (by omega), ⟨by omega, hl0⟩, rfl⟩
    rintro _ _ ⟨B, l, rfl, hB, ⟨hl, hl0⟩, rfl⟩
    refine ⟨_, _, VwS.refl, ?_⟩
    (conv => whnf)
    refine ⟨_, mset_same, ?_⟩
    exact retL (mle_gar hp hpx) (q l hl hl0 B hB)

end My
namespace My
open PySem PySem.Spec L2 Nu
open PyProof.Rows hiding St
/-! ### fil -/
/-! ### placings filled in turn -/
def hr2 (w n : Int) : Int := if w < n then w else n
theorem hr2_le {w n : Int} : hr2 w n ≤ w ∧ hr2 w n ≤ n ∧ (hr2 w n = w ∨ hr2 w n = n) := by unfold hr2; split <;> omega
def oneP (k : Str) (h : Int) : List Pr := if 0 < h then [(k, h)] else []
def fillW : List Pr → Int → List Pr × Int
  | [], w => ([], w)
  | p :: r, w => (oneP p.1 (hr2 w p.2) ++ (fillW r (w - hr2 w p.2)).1, (fillW r (w - hr2 w p.2)).2)
theorem fillW_snoc : ∀ (l : List Pr) (p : Pr) (w : Int), fillW (l ++ [p]) w = ((fillW l w).1 ++ oneP p.1 (hr2 (fillW l w).2 p.2), (fillW l w).2 - hr2 (fillW l w).2 p.2)
  | [], p, w => by
    rw [List.nil_append, fillW, fillW, fillW, List.append_nil, List.nil_append]
  | q :: l, p, w => by
    rw [List.cons_append, fillW, fillW_snoc l p, fillW]
    simp only [List.append_assoc]
theorem fillW_keys : ∀ (l : List Pr) (w : Int), ((fillW l w).1.map (·.1)).Sublist (l.map (·.1))
  | [], w => by rw [fillW]; exact List.Sublist.refl _
  | p :: l, w => by
    rw [fillW, List.map_append, List.map_cons]
    unfold oneP
    by_cases c : 0 < hr2 w p.2
    · rw [if_pos c]; exact List.Sublist.cons₂ _ (fillW_keys l _)
    · rw [if_neg c]; exact List.Sublist.cons _ (fillW_keys l _)
theorem fillW_len (l : List Pr) (w : Int) : (fillW l w).1.length ≤ l.length := by
  have := (fillW_keys l w).length_le
  rwa [List.length_map, List.length_map] at this
def fillT (l : List Pr) (many : Int) : Option (List Pr) := if 0 < (fillW l many).2 then none else some (srtBy (·.1) (fillW l many).1)
def fopD : Option (List Pr) → D
  | none => .non
  | some p => prsD p
/-- the law's own filling -/
def oneL (k : Str) (w n : Int) : List Pr := if 0 < w then [(k, hr2 w n)] else []
def lawW : List Pr → Int → List Pr × Int
  | [], w => ([], w)
  | p :: r, w => (oneL p.1 w p.2 ++ (lawW r (w - p.2)).1, (lawW r (w - p.2)).2)
theorem lawW_snoc : ∀ (l : List Pr) (p : Pr) (w : Int), lawW (l ++ [p]) w = ((lawW l w).1 ++ oneL p.1 (lawW l w).2 p.2, (lawW l w).2 - p.2)
  | [], p, w => by
    rw [List.nil_append, lawW, lawW, lawW, List.append_nil, List.nil_append]
  | q :: l, p, w => by
    rw [List.cons_append, lawW, lawW_snoc l p, lawW]
    simp only [List.append_assoc]
theorem lawW_fill : ∀ (l : List Pr), (∀ e ∈ l, 0 < e.2) → ∀ (w v : Int), v = (if 0 < w then w else 0) → (lawW l w).1 = (fillW l v).1 ∧ (if 0 < (lawW l w).2 then (lawW l w).2 else 0) = (fillW l v).2
  | [], _, w, v, hv => by rw [lawW, fillW, hv]; exact ⟨rfl, rfl⟩
  | p :: l, h, w, v, hv => by
    have hp := h p (List.mem_cons_self ..)
    have hl : ∀ e ∈ l, 0 < e.2 := fun e he => h e (List.mem_cons_of_mem _ he)
    have hh := hr2_le (w := v) (n := p.2)
    rw [lawW, fillW]
    by_cases c : 0 < w
    · rw [if_pos c] at hv
      subst hv
      have hpos : 0 < hr2 v p.2 := by omega
      obtain ⟨i1, i2⟩ := lawW_fill l hl (v - p.2) (v - hr2 v p.2) (by unfold hr2; split <;> split <;> omega)
      dsimp only
      unfold oneL oneP
      rw [if_pos c, if_pos hpos, i1, i2]
      exact ⟨rfl, rfl⟩
    · rw [if_neg c] at hv
      subst hv
      have e0 : hr2 0 p.2 = 0 := by unfold hr2; rw [if_pos hp]
      obtain ⟨i1, i2⟩ := lawW_fill l hl (w - p.2) 0 (by rw [if_neg (by omega)])
      dsimp only
      unfold oneL oneP
      rw [if_neg c, e0, if_neg (by decide), i1, Int.sub_zero]
      exact ⟨rfl, i2⟩
theorem fillW_pos : ∀ (l : List Pr), (∀ e ∈ l, 0 ≤ e.2) → ∀ w, 0 ≤ w → fillW (l.filter fun e => decide (0 < e.2)) w = fillW l w ∧ 0 ≤ (fillW l w).2
  | [], _, w, hw => by rw [List.filter_nil, fillW]; exact ⟨rfl, hw⟩
  | p :: l, h, w, hw => by
    have hp := h p (List.mem_cons_self ..)
    have hl : ∀ e ∈ l, 0 ≤ e.2 := fun e he => h e (List.mem_cons_of_mem _ he)
    have hh := hr2_le (w := w) (n := p.2)
    by_cases c : 0 < p.2
    · obtain ⟨i1, i2⟩ := fillW_pos l hl (w - hr2 w p.2) (by omega)
      rw [List.filter_cons_of_pos (by simp [c]), fillW, fillW, i1]
      exact ⟨rfl, i2⟩
    · have c0 : hr2 w p.2 = 0 := by omega
      obtain ⟨i1, i2⟩ := fillW_pos l hl w hw
      rw [List.filter_cons_of_neg (by simp [c]), fillW, c0, Int.sub_zero, i1]
      exact ⟨rfl, i2⟩
theorem fillT_pos {l : List Pr} (h : ∀ e ∈ l, 0 ≤ e.2) {w : Int} (hw : 0 ≤ w) : fillT (l.filter fun e => decide (0 < e.2)) w = fillT l w := by
  unfold fillT; rw [(fillW_pos l h w hw).1]
theorem fillT_law {l : List Pr} (h : ∀ e ∈ l, 0 < e.2) {w : Int} (hw : 0 < w) : fillT l w = if (lawW l w).2 ≤ 0 then some (srtBy (·.1) (lawW l w).1) else none := by
  obtain ⟨i1, i2⟩ := lawW_fill l h w w (by rw [if_pos hw])
  unfold fillT
  rw [i1, ← i2]
  by_cases c : 0 < (lawW l w).2
  · rw [if_pos c, if_pos c, if_neg (by omega)]
  · rw [if_neg c, if_neg (by decide), if_pos (by omega)]
/-! pairs as data -/
theorem toPy_pr (p : Pr) : toPy (prD p) = .tuple [.str p.1, .int p.2] := by
  unfold prD
  rw [toPy, toPys, toPys, toPys, toPy, toPy]
theorem prs_alike (l : List Pr) : PySem.W.AllAlike ((l.map prD).map toPy) := by
  intro d hd e he
  obtain ⟨x, hx, rfl⟩ := List.mem_map.mp hd
  obtain ⟨y, hy, rfl⟩ := List.mem_map.mp he
  obtain ⟨a, _, rfl⟩ := List.mem_map.mp hx
  obtain ⟨b, _, rfl⟩ := List.mem_map.mp hy
  rw [toPy_pr, toPy_pr, PySem.W.alike, PySem.W.alikeAll, PySem.W.alikeAll, PySem.W.alikeAll, PySem.W.alike, PySem.W.alike]; rfl
theorem prs_tup (l : List Pr) : ∀ d, d ∈ (l.map prD).map toPy → ∃ x r, d = .tuple (x :: r) := by
  intro d hd
  obtain ⟨x, hx, rfl⟩ := List.mem_map.mp hd
  obtain ⟨a, _, rfl⟩ := List.mem_map.mp hx
  exact ⟨_, _, toPy_pr a⟩
theorem pl_prs40 {p : List Pr} (h : ∀ e ∈ p, PyData.strOk e.1 = true) : plDs 40 (p.map prD) = true := pl_mono h
theorem prs_sort {l : List Pr} {m : MS} {P : NX} (nd : (l.map (·.1)).Nodup) (ok : ∀ e ∈ l, PyData.strOk e.1 = true) (h : NewL ((srtBy (·.1) l).map prD) m P) : srtL (l.map prD) m P := by
  refine .inr (.inl ⟨⟨pl_prs40 ok, prs_alike l, .inl (prs_tup l)⟩, ?_⟩)
  rw [sort_heads (key := (·.1)) (f := prD) (fun a => rfl) nd]
  exact h
/-- pairs in whatever list -/
def PrsAt (m : MS) (d : D) (l : List Pr) : Prop := d = prsD l ∨ d = .lst (l.map prD) ∨ ∃ a, d = .raw (.ref a) ∧ m a = some (.lst (l.map prD))
structure PrsOk (l : List Pr) : Prop where
  nd : (l.map (·.1)).Nodup
  ok : ∀ e ∈ l, PyData.strOk e.1 = true
  len : l.length ≤ 100
theorem PrsOk.sub {l l' : List Pr} (h : PrsOk l) (s : l'.Sublist l) : PrsOk l' := ⟨(s.map _).nodup h.nd, fun e he => h.ok e (s.subset he), Nat.le_trans s.length_le h.len⟩
theorem fill_ok {l : List Pr} {w : Int} (h : PrsOk l) : PrsOk (fillW l w).1 := ⟨(fillW_keys l w).nodup h.nd, fun e he => by
  have : e.1 ∈ l.map (·.1) := (fillW_keys l w).subset (List.mem_map.mpr ⟨e, he, rfl⟩)
  obtain ⟨a, ha, e1⟩ := List.mem_map.mp this
  rw [← e1]; exact h.ok a ha, Nat.le_trans (fillW_len l w) h.len⟩

end My
namespace My
open PySem PySem.Spec L2 Nu
open PyProof.Rows hiding St
/-! ### grp -/
/-! ### pairs by yards -/
def ydT (S : List HS) (k : Str) : Str := ((S.find? fun h => decide (h.1 = k)).map (·.2.1)).getD Str.empty
theorem yd_of : ∀ {S : List HS}, (S.map (·.1)).Nodup → ∀ {a : HS}, a ∈ S → ydT S a.1 = a.2.1
  | [], _, _, h => by cases h
  | b :: S, nd, a, h => by
    rw [List.map_cons, List.nodup_cons] at nd
    unfold ydT
    rw [List.find?_cons]
    by_cases e : b.1 = a.1
    · rcases List.mem_cons.mp h with h1 | h1
      · rw [h1]; simp
      · exact absurd (List.mem_map.mpr ⟨a, h1, e.symm⟩) nd.1
    · rcases List.mem_cons.mp h with h1 | h1
      · rw [h1] at e; exact absurd rfl e
      · simp only [e, decide_false]
        exact yd_of nd.2 h1
abbrev yardsK (S : List HS) : List (Key × D) := kvs (·.1) (fun h : HS => .str h.2.1) S
theorem yards_val {S : List HS} (nd : (S.map (·.1)).Nodup) {k : Str} (h : k ∈ S.map (·.1)) : valD (yardsK S) (.inr k) = some (.str (ydT S k)) := by
  obtain ⟨a, ha, rfl⟩ := List.mem_map.mp h
  rw [val_kvs (key := fun h : HS => h.1) nd ha, yd_of nd ha]
def dstS (l : List Str) : List Str := firstS [] l
theorem dst_nd (l : List Str) : (dstS l).Nodup := firstS_nodup l [] (by simp)
theorem dst_mem {l : List Str} {k : Str} : k ∈ dstS l ↔ k ∈ l := by unfold dstS; rw [firstS_mem]; simp
theorem perm_of_mem {l l' : List Str} (h : l.Nodup) (h' : l'.Nodup) (m : ∀ k, k ∈ l ↔ k ∈ l') : l.Perm l' := (List.perm_ext_iff_of_nodup h h').mpr fun k => m k
theorem srtT_sorted (l : List Str) : sortedS (srtT l) = true := by
  obtain ⟨ys, h1, h2⟩ := srt_ex l
  rw [srtT_eq h1 h2]; exact h2
theorem srtT_congr {l l' : List Str} (p : l.Perm l') : srtT l = srtT l' := sortedS_unique (srtT_sorted _) (srtT_sorted _) (((srtT_perm l).trans p).trans (srtT_perm l').symm)
theorem srtT_mem {l : List Str} {k : Str} : k ∈ srtT l ↔ k ∈ l := (srtT_perm l).mem_iff
theorem srtT_nd {l : List Str} (h : l.Nodup) : (srtT l).Nodup := (srtT_perm l).nodup_iff.mpr h
noncomputable def ysT (l : List Pr) (yd : Str → Str) : List Str := srtT (dstS (l.map fun e => yd e.1))
theorem ys_nd {l : List Pr} {yd : Str → Str} : (ysT l yd).Nodup := srtT_nd (dst_nd _)
theorem ys_mem {l : List Pr} {yd : Str → Str} {k : Str} : k ∈ ysT l yd ↔ ∃ e ∈ l, yd e.1 = k := by
  unfold ysT; rw [srtT_mem, dst_mem, List.mem_map]
theorem ys_eq {l : List Pr} {yd : Str → Str} {M ys : List Str} (nd : M.Nodup) (hm : ∀ k, k ∈ M ↔ ∃ e ∈ l, yd e.1 = k) (p : ys.Perm M) (s : sortedS ys = true) : ys = ysT l yd := by
  refine sortedS_unique s (srtT_sorted _) (p.trans ((perm_of_mem nd (dst_nd _) fun k => ?_).trans (srtT_perm _).symm))
  rw [hm, dst_mem, List.mem_map]
def grpT (l : List Pr) (yd : Str → Str) (y : Str) : List Pr := l.filter fun e => decide (yd e.1 = y)
noncomputable def grpsT (l : List Pr) (yd : Str → Str) : List (List Pr) := (ysT l yd).map (grpT l yd)
theorem grp_snoc {l : List Pr} {p : Pr} {yd : Str → Str} {y : Str} : grpT (l ++ [p]) yd y = grpT l yd y ++ (if yd p.1 = y then [p] else []) := by
  unfold grpT
  rw [List.filter_append]
  by_cases c : yd p.1 = y
  · rw [if_pos c]; simp [c]
  · rw [if_neg c]; simp [c]
theorem grp_ok {l : List Pr} {yd : Str → Str} {y : Str} (h : PrsOk l) : PrsOk (grpT l yd y) := h.sub List.filter_sublist
theorem ysT_len {l : List Pr} {yd : Str → Str} : (ysT l yd).length ≤ l.length := by
  unfold ysT dstS
  rw [(srtT_perm _).length_eq]
  have := firstS_len (l.map fun e => yd e.1) []
  rw [List.length_map] at this
  simpa using this
def posP (e : Pr) : Bool := decide (0 < e.2)
def wideP (gs : List (List Pr)) : List Pr := gs.flatMap fun g => (g.filter posP).take 1
theorem wideP_snoc (gs : List (List Pr)) (g : List Pr) : wideP (gs ++ [g]) = wideP gs ++ (g.filter posP).take 1 := by
  unfold wideP; rw [List.flatMap_append]; simp
theorem wide_mem {gs : List (List Pr)} {e : Pr} (h : e ∈ wideP gs) : ∃ g ∈ gs, e ∈ g ∧ 0 < e.2 := by
  unfold wideP at h
  obtain ⟨g, hg, he⟩ := List.mem_flatMap.mp h
  have h2 := List.mem_of_mem_take he
  rw [List.mem_filter] at h2
  exact ⟨g, hg, h2.1, of_decide_eq_true h2.2⟩
theorem wide_sub {l : List Pr} {yd : Str → Str} : ∀ ys : List Str, ((wideP (ys.map (grpT l yd))).map fun e => yd e.1).Sublist ys
  | [] => by rw [List.map_nil]; exact List.Sublist.refl _
  | y :: ys => by
    have ih := wide_sub (l := l) (yd := yd) ys
    show ((wideP (grpT l yd y :: ys.map (grpT l yd))).map fun e => yd e.1).Sublist (y :: ys)
    unfold wideP at ih ⊢
    rw [List.flatMap_cons, List.map_append]
    have hh : ∀ e ∈ ((grpT l yd y).filter posP).take 1, yd e.1 = y := fun e he => by
      have h2 := List.mem_of_mem_take he
      rw [List.mem_filter] at h2
      unfold grpT at h2
      exact of_decide_eq_true (List.mem_filter.mp h2.1).2
    generalize hq : ((grpT l yd y).filter posP).take 1 = q at hh
    have hl : q.length ≤ 1 := by rw [← hq, List.length_take]; omega
    match q, hl, hh with
    | [], _, _ => exact List.Sublist.cons _ ih
    | [e], _, hh =>
      rw [List.map_cons, hh e (List.mem_cons_self ..)]
      exact List.Sublist.cons₂ _ ih
    | _ :: _ :: _, hl, _ => simp at hl
theorem nodup_of_map {α β : Type} (f : α → β) : ∀ {l : List α}, (l.map f).Nodup → l.Nodup
  | [], _ => by simp
  | a :: l, h => by
    rw [List.map_cons, List.nodup_cons] at h
    exact List.nodup_cons.mpr ⟨fun c => h.1 (List.mem_map.mpr ⟨a, c, rfl⟩), nodup_of_map f h.2⟩
theorem wide_ok {l : List Pr} {yd : Str → Str} (h : PrsOk l) : PrsOk (wideP (grpsT l yd)) := by
  have s := wide_sub (l := l) (yd := yd) (ysT l yd)
  have hm : ∀ e ∈ wideP (grpsT l yd), e ∈ l := fun e he => by
    obtain ⟨g, hg, h1, _⟩ := wide_mem he
    obtain ⟨y, _, rfl⟩ := List.mem_map.mp hg
    exact (List.mem_filter.mp h1).1
  refine ⟨?_, fun e he => h.ok e (hm e he), ?_⟩
  · refine nodup_of_map yd ?_
    rw [List.map_map]
    exact s.nodup ys_nd
  · have := s.length_le
    rw [List.length_map] at this
    have h2 := ysT_len (l := l) (yd := yd)
    have h3 := h.len
    exact Nat.le_trans this (Nat.le_trans h2 h3)
def nearT (gs : List (List Pr)) (many : Int) : Option (List Pr) := gs.findSome? fun g => fillT g many
noncomputable def hfT (S : List HS) (l : List Pr) (many : Int) (h : How) : Option (List Pr) := match h with
  | .any => fillT l many
  | .apart => fillT l many
  | .near => nearT (grpsT l (ydT S)) many
  | .wide => fillT (wideP (grpsT l (ydT S))) many
noncomputable def plT (S : List HS) (many : Int) (want : List Int) (h : How) : Option (List Pr) := hfT S (cntsT S want (h.most many)) many h
noncomputable def pcD (S : List HS) (many : Int) (want : List Int) (h : How) : D := match plT S many want h with
  | none => .tup [.str "none", prsD (cntsT S want (h.most many))]
  | some p => .tup [.str "told", prsD p]
theorem cut_one (xs : List D) : Nu.cutD xs none (some 1) = xs.take 1 := by
  unfold Nu.cutD
  rw [HT.sIx_none, List.drop_zero]
  cases xs with
  | nil => simp
  | cons a xs =>
    congr 1
theorem cnts_ok {w : Nat} {S : List HS} {want : List Int} {most : Int} (h : SiteOk w S) : PrsOk (cntsT S want most) := ⟨by
  rw [cnts_keys]; exact srtT_nd h.nd, fun e he => by
  obtain ⟨a, ha, rfl⟩ := List.mem_map.mp he
  exact (h.ok1 a (srtBy_mem.mp ha)).1, by rw [cnts_len]; have := h.len; omega⟩
theorem cnts_in {S : List HS} {want : List Int} {most : Int} : ∀ e ∈ cntsT S want most, e.1 ∈ S.map (·.1) := fun e he => by
  have : e.1 ∈ (cntsT S want most).map (·.1) := List.mem_map.mpr ⟨e, he, rfl⟩
  rw [cnts_keys, srtT_mem] at this
  exact this
theorem MLe.fresh' {m m' : MS} {p : Addr} {c : Cell} (h : MLe m m') (hp : m p = none) : MLe m (mset m' p c) := fun q x e => by
  rw [mset_ne (by rintro rfl; rw [hp] at e; cases e)]
  exact h q x e
theorem pige {α : Type} [DecidableEq α] : ∀ {l U : List α}, l.Nodup → (∀ k ∈ l, k ∈ U) → l.length ≤ U.length
  | [], _, _, _ => by simp
  | a :: l, U, h, hs => by
    have ha := hs a (List.mem_cons_self ..)
    have hn := List.nodup_cons.mp h
    have := pige (U := U.erase a) hn.2 fun k hk => (List.mem_erase_of_ne (by rintro rfl; exact hn.1 hk)).mpr (hs k (List.mem_cons_of_mem _ hk))
    rw [List.length_erase_of_mem ha] at this
    have := List.length_pos_of_mem ha
    rw [List.length_cons]; omega
theorem injG {α β : Type} {key : α → β} : ∀ {L : List α}, (L.map key).Nodup → ∀ {a b : α}, a ∈ L → b ∈ L → key a = key b → a = b
  | [], _, _, _, ha, _, _ => by cases ha
  | c :: L, h, a, b, ha, hb, e => by
    rw [List.map_cons, List.nodup_cons] at h
    rcases List.mem_cons.mp ha with h1 | h1
    · rcases List.mem_cons.mp hb with h2 | h2
      · rw [h1, h2]
      · exact absurd (List.mem_map.mpr ⟨b, h2, by rw [← e, h1]⟩) h.1
    · rcases List.mem_cons.mp hb with h2 | h2
      · exact absurd (List.mem_map.mpr ⟨a, h1, by rw [e, h2]⟩) h.1
      · exact injG h.2 h1 h2 e

end My
namespace My
open PySem PySem.Spec L2 Nu
open PyProof.Rows hiding St
/-! ### ordg -/
/-! ### rows in order -/
def leG (a b : RowG) : Bool := decide (-a.1.rank < -b.1.rank ∨ (-a.1.rank = -b.1.rank ∧ a.2 ≤ b.2))
theorem toPy_key (r : RowG) : toPy (keyG r) = .tuple [.int (-r.1.rank), .int r.2] := by
  unfold keyG
  rw [toPy, toPys, toPys, toPys, toPy, toPy]
theorem leD_key (a b : RowG) : leD (keyG a) (keyG b) = leG a b := by
  have h := congrFun (congrFun (PySem.W.dataLe_ii (fun r : RowG => -r.1.rank) fun r : RowG => r.2) a) b
  rw [leD_lt, toPy_key, toPy_key]
  exact h
theorem leG_trans {a b c : RowG} (h : leG a b = true) (k : leG b c = true) : leG a c = true := by
  unfold leG at *
  simp only [decide_eq_true_eq] at *
  omega
theorem leG_total (a b : RowG) : leG a b = true ∨ leG b a = true := by
  unfold leG
  simp only [decide_eq_true_eq]
  omega
theorem leG_anti {a b : RowG} (h : leG a b = true) (k : leG b a = true) : a.2 = b.2 := by
  unfold leG at *
  simp only [decide_eq_true_eq] at *
  omega
def ordG (R : List RowG) : List RowG := R.mergeSort leG
theorem ordG_perm (R : List RowG) : (ordG R).Perm R := List.mergeSort_perm ..
theorem ordG_pw (R : List RowG) : (ordG R).Pairwise fun a b => leG a b = true := List.pairwise_mergeSort (le := leG) (fun a b c h k => leG_trans h k) (fun a b => by
  rcases leG_total a b with h | h <;> simp [h]) R
theorem told_inj {R : List RowG} (nd : (R.map (·.2)).Nodup) {a b : RowG} (ha : a ∈ R) (hb : b ∈ R) (e : a.2 = b.2) : a = b := injG (key := fun r : RowG => r.2) nd ha hb e
theorem ordG_uniq {R L : List RowG} (nd : (R.map (·.2)).Nodup) (p : R.Perm L) (s : L.Pairwise fun a b => leG a b = true) : L = ordG R :=
  pw_unique_mem (fun a ha b hb h1 h2 => told_inj nd (p.symm.subset ha) (p.symm.subset hb) (leG_anti h1 h2)) s (ordG_pw R) (p.symm.trans (ordG_perm R).symm)
theorem ordG_congr {R L : List RowG} (nd : (R.map (·.2)).Nodup) (p : R.Perm L) : ordG L = ordG R := ordG_uniq nd (p.trans (ordG_perm L).symm) (ordG_pw L)
theorem ordG_min {R : List RowG} {b : RowG} {j : Nat} (nd : (R.map (·.2)).Nodup) (hb : R[j]? = some b) (h : ∀ a ∈ R, leG b a = true) : ordG R = b :: ordG (R.eraseIdx j) := by
  have p := erase_perm R j b hb
  refine (ordG_uniq nd (p.symm.trans (List.Perm.cons b (ordG_perm _).symm)) ?_).symm
  rw [List.pairwise_cons]
  exact ⟨fun a ha => h a (List.mem_of_mem_eraseIdx ((ordG_perm _).subset ha)), ordG_pw _⟩
theorem nd_eraseIdx {R : List RowG} (j : Nat) (nd : (R.map (·.2)).Nodup) : ((R.eraseIdx j).map (·.2)).Nodup := ((List.eraseIdx_sublist R j).map _).nodup nd
theorem srtKD_map (R : List RowG) : srtKD (R.map rgD) (R.map keyG) = (ordG R).map rgD := by
  unfold srtKD ordG
  rw [List.zip_map']
  have : (R.map fun r => (rgD r, keyG r)).mergeSort (fun p q => leD p.2 q.2) = (R.mergeSort leG).map fun r => (rgD r, keyG r) := (List.map_mergeSort (r := leG) (s := fun p q : D × D => leD p.2 q.2) (f := fun r => (rgD r, keyG r)) (fun a _ b _ => (leD_key a b).symm)).symm
  rw [this, List.map_map]; rfl
theorem pl_keys : ∀ R : List RowG, plDs 40 (R.map keyG) = true
  | [] => by rw [List.map_nil, plDs]
  | a :: R => by
    rw [List.map_cons, plDs, pl_keys R]
    unfold keyG
    rw [plD, plDs, plDs, plDs, plD, plD]; rfl
theorem keys_alike (R : List RowG) : PySem.W.AllAlike ((R.map keyG).map toPy) := by
  intro d hd e he
  obtain ⟨x, hx, rfl⟩ := List.mem_map.mp hd
  obtain ⟨y, hy, rfl⟩ := List.mem_map.mp he
  obtain ⟨a, _, rfl⟩ := List.mem_map.mp hx
  obtain ⟨b, _, rfl⟩ := List.mem_map.mp hy
  rw [toPy_key, toPy_key, PySem.W.alike, PySem.W.alikeAll, PySem.W.alikeAll, PySem.W.alikeAll, PySem.W.alike, PySem.W.alike]; rfl
theorem keys_srt (R : List RowG) : PySem.W.Sortable ((R.map keyG).map toPy) := .inl fun d hd => by
  obtain ⟨x, hx, rfl⟩ := List.mem_map.mp hd
  obtain ⟨a, _, rfl⟩ := List.mem_map.mp hx
  exact ⟨_, _, toPy_key a⟩

end My
namespace My
open PySem PySem.Spec L2 Nu
open PyProof.Rows hiding St
/-! ### rgp -/
/-! ### rows as data -/
def RgOk (R : List RowG) : Prop := ∀ r ∈ R, PyData.strOk r.1.name = true ∧ PyData.strOk r.1.guild = true ∧ PyData.strOk r.1.how = true
theorem RgOk.sub {R L : List RowG} (h : RgOk R) (s : ∀ r ∈ L, r ∈ R) : RgOk L := fun r hr => h r (s r hr)
theorem plD_ints (n : Nat) (l : List Int) : plD (n + 1) (.tup (l.map .int)) = true := by rw [plD]; exact pl_intsN _ l
theorem pl_gD {n : Nat} {g : Gang} (h : PyData.strOk g.name = true ∧ PyData.strOk g.guild = true ∧ PyData.strOk g.how = true) : plD (n + 2) (gD g) = true := by
  unfold gD amtD
  rw [plD, plDs, plDs, plDs, plDs, plDs, plDs, plDs, plDs, plD, plD, plD, plD, plD_ints, plD, plD, h.1, h.2.1, h.2.2]; rfl
theorem pl_rgs {n : Nat} : ∀ {R : List RowG}, RgOk R → plDs (n + 3) (R.map rgD) = true
  | [], _ => by rw [List.map_nil, plDs]
  | a :: R, h => by
    rw [List.map_cons, plDs, pl_rgs fun r hr => h r (List.mem_cons_of_mem _ hr)]
    unfold rgD
    rw [plD, plDs, plDs, plDs, pl_gD (h a (List.mem_cons_self ..)), plD]; rfl
theorem pl_rg {n : Nat} {r : RowG} (h : PyData.strOk r.1.name = true ∧ PyData.strOk r.1.guild = true ∧ PyData.strOk r.1.how = true) : plD (n + 3) (rgD r) = true := by
  unfold rgD
  rw [plD, plDs, plDs, plDs, pl_gD h, plD]; rfl
theorem noBl_intsN : ∀ E : List Int, noBls (E.map .int) = true
  | [] => by rw [List.map_nil, noBls]
  | a :: E => by rw [List.map_cons, noBls, noBl_intsN E, noBl]; rfl
theorem noBl_gD (g : Gang) : noBl (gD g) = true := by
  unfold gD amtD
  rw [noBl, noBls, noBls, noBls, noBls, noBls, noBls, noBls, noBls, noBl, noBl, noBl, noBl, noBl, noBl_intsN, noBl, noBl]; rfl
theorem noBl_rgD (r : RowG) : noBl (rgD r) = true := by
  unfold rgD
  rw [noBl, noBls, noBls, noBls, noBl_gD, noBl]; rfl
theorem see_intsT {m : MS} : ∀ E : List Int, Sees m (E.map .int) (E.map .int)
  | [] => .nil
  | a :: E => .cons (.int a) (see_intsT E)
theorem see_gD {m : MS} (g : Gang) : See m (gD g) (gD g) := .tup (.cons (.str _) (.cons (.str _) (.cons (.int _) (.cons (.int _) (.cons (.tup (see_intsT _)) (.cons (.str _) (.cons (.int _) .nil)))))))
theorem see_rgs {m : MS} : ∀ R : List RowG, Sees m (R.map rgD) (R.map rgD)
  | [] => .nil
  | a :: R => .cons (.tup (.cons (see_gD _) (.cons (.int _) .nil))) (see_rgs R)
theorem gD_inj {a b : Gang} (h : gD a = gD b) : a = b := by
  unfold gD amtD at h
  simp only [D.tup.injEq, List.cons.injEq, D.str.injEq, D.int.injEq] at h
  obtain ⟨h1, h2, h3, h4, h5, h6, h7, _⟩ := h
  cases a; cases b
  simp only [Gang.mk.injEq]
  refine ⟨h1, h2, h3, h4, ?_, h6, h7⟩
  exact ints_inj h5
where ints_inj : ∀ {a b : List Int}, a.map D.int = b.map D.int → a = b
  | [], [], _ => rfl
  | [], _ :: _, h => by cases h
  | _ :: _, [], h => by cases h
  | x :: a, y :: b, h => by
    rw [List.map_cons, List.map_cons, List.cons.injEq] at h
    rw [ints_inj h.2, D.int.inj h.1]
theorem rgD_inj {a b : RowG} (h : rgD a = rgD b) : a = b := by
  unfold rgD at h
  simp only [D.tup.injEq, List.cons.injEq, D.int.injEq] at h
  exact Prod.ext (gD_inj h.1) h.2.1
theorem eqD_rg (a b : RowG) : eqD (rgD a) (rgD b) = decide (a = b) := by
  have h := eqD_iff (noBl_rgD a) (noBl_rgD b)
  by_cases c : a = b
  · rw [decide_eq_true c, h, c]
  · rw [decide_eq_false c]
    cases e : eqD (rgD a) (rgD b) with
    | false => rfl
    | true => exact absurd (rgD_inj (h.mp e)) c

end My
namespace My
open PySem PySem.Spec L2 Nu
open PyProof.Rows hiding St
/-! ### dkv -/
/-! ### a dict out of pairs -/
theorem merge_kvs {α : Type} {key : α → Str} {g : α → D} : ∀ {L M : List α}, ((M ++ L).map key).Nodup → mergeD (kvs key g M) (kvs key g L) = kvs key g (M ++ L)
  | [], M, _ => by rw [List.append_nil]; rfl
  | a :: L, M, nd => by
    have h1 : key a ∉ M.map key := fun c => by
      rw [List.map_append, List.nodup_append] at nd
      exact nd.2.2 _ c _ (by simp) rfl
    show mergeD (putD (kvs key g M) (.inr (key a)) (g a)) (kvs key g L) = _
    rw [put_kvs h1, merge_kvs (by rw [List.append_assoc]; exact nd), List.append_assoc]; rfl
theorem dict_kvs {α : Type} {key : α → Str} {g : α → D} {L : List α} (nd : (L.map key).Nodup) : mergeD [] (kvs key g L) = kvs key g L := by
  have := merge_kvs (g := g) (M := []) (L := L) nd
  exact this

end My
namespace My
open PySem PySem.Spec L2 Nu
open PyProof.Rows hiding St
/-! ### mst -/
/-! ### how many tasks there is room for -/
theorem put_has {α : Type} {key : α → Str} {g : α → D} {L : List α} {k : Str} {d : D} (h : k ∈ L.map key) : putD (kvs key g L) (.inr k) d = L.map fun a => (.inr (key a), if key a = k then d else g a) := by
  unfold putD
  rw [if_pos]
  · unfold kvs
    rw [List.map_map]
    refine List.map_congr_left fun a _ => ?_
    dsimp only [Function.comp]
    by_cases c : key a = k
    · rw [if_pos (by rw [c]), if_pos c]
    · rw [if_neg (fun h => c (Sum.inr.inj h)), if_neg c]
  · obtain ⟨a, ha, rfl⟩ := List.mem_map.mp h
    rw [List.any_eq_true]
    exact ⟨_, List.mem_map.mpr ⟨a, ha, rfl⟩, decide_eq_true rfl⟩
/-- the counts of a yard's houses -/
def ycT (S : List HS) (f : HS → Int) (y : Str) : List Int := (S.filter fun h => decide (h.2.1 = y)).map f
structure YarW (S : List HS) (f : HS → Int) (G : List (Str × List Int)) : Prop where
  nd : (G.map (·.1)).Nodup
  eq : ∀ e ∈ G, e.2 = ycT S f e.1
  ys : ∀ y, y ∈ G.map (·.1) ↔ ∃ h ∈ S, h.2.1 = y
def yarK (G : List (Str × List Int)) : List (Key × D) := kvs (·.1) (fun e => .lst (e.2.map .int)) G
theorem yc_snoc {S : List HS} {h : HS} {f : HS → Int} {y : Str} : ycT (S ++ [h]) f y = ycT S f y ++ (if h.2.1 = y then [f h] else []) := by
  unfold ycT
  rw [List.filter_append, List.map_append]
  by_cases c : h.2.1 = y
  · rw [if_pos c]; simp [c]
  · rw [if_neg c]; simp [c]
theorem yar_len {S : List HS} {f : HS → Int} {G : List (Str × List Int)} (h : YarW S f G) : G.length ≤ S.length := by
  have h1 : (G.map (·.1)).length ≤ (S.map fun e => e.2.1).length := pige h.nd fun k hk => by
    obtain ⟨e, he, h2⟩ := (h.ys k).mp hk
    exact List.mem_map.mpr ⟨e, he, h2⟩
  rwa [List.length_map, List.length_map] at h1
/-- a step: what is put, and what stands then -/
theorem yar_step {S : List HS} {f : HS → Int} {G : List (Str × List Int)} (h : YarW S f G) (a : HS) : ∃ (l : List Int) (G' : List (Str × List Int)), ((valD (yarK G) (.inr a.2.1)).getD (.lst []) = .lst (l.map .int)) ∧ l.length ≤ S.length ∧ putD (yarK G) (.inr a.2.1) (.lst ((l ++ [f a]).map .int)) = yarK G' ∧ YarW (S ++ [a]) f G' := by
  have hv := val_in (key := fun e : Str × List Int => e.1) (g := fun e => D.lst (e.2.map .int)) (L := G) (k := a.2.1)
  by_cases c : a.2.1 ∈ G.map (·.1)
  · obtain ⟨e0, he0, h0⟩ := List.mem_map.mp c
    refine ⟨e0.2, G.map fun e => if e.1 = a.2.1 then (e.1, e.2 ++ [f a]) else e, ?_, ?_, ?_, ?_⟩
    · have := val_kvs (key := fun e : Str × List Int => e.1) (g := fun e => D.lst (e.2.map .int)) h.nd he0
      rw [h0] at this
      unfold yarK
      rw [this]; rfl
    · rw [h.eq e0 he0]
      unfold ycT
      rw [List.length_map]
      exact List.length_filter_le ..
    · unfold yarK
      rw [put_has c]
      unfold kvs
      rw [List.map_map]
      refine List.map_congr_left fun e he => ?_
      dsimp only [Function.comp]
      by_cases c2 : e.1 = a.2.1
      · rw [if_pos c2, if_pos c2]
        obtain rfl : e = e0 := injG (key := fun e : Str × List Int => e.1) h.nd he he0 (by rw [c2, h0])
        rfl
      · rw [if_neg c2, if_neg c2]
    · have ek : (G.map fun e => if e.1 = a.2.1 then (e.1, e.2 ++ [f a]) else e).map (·.1) = G.map (·.1) := by
        rw [List.map_map]
        refine List.map_congr_left fun e _ => ?_
        dsimp only [Function.comp]
        split <;> rfl
      refine ⟨by rw [ek]; exact h.nd, fun e he => ?_, fun y => ?_⟩
      · obtain ⟨z, hz, rfl⟩ := List.mem_map.mp he
        by_cases c2 : z.1 = a.2.1
        · rw [if_pos c2]
          dsimp only
          rw [yc_snoc, if_pos c2.symm, h.eq z hz]
        · rw [if_neg c2, yc_snoc, if_neg (fun q => c2 q.symm), List.append_nil, h.eq z hz]
      · rw [ek, h.ys]
        constructor
        · rintro ⟨b, hb, e⟩; exact ⟨b, List.mem_append_left _ hb, e⟩
        · rintro ⟨b, hb, e⟩
          rcases List.mem_append.mp hb with hb | hb
          · exact ⟨b, hb, e⟩
          · rw [List.mem_singleton.mp hb] at e
            rw [← e]; exact (h.ys _).mp c
  · have hn : valD (yarK G) (.inr a.2.1) = none := val_none c
    have hy : ycT S f a.2.1 = [] := by
      unfold ycT
      rw [List.map_eq_nil_iff, List.filter_eq_nil_iff]
      intro b hb e
      exact c ((h.ys _).mpr ⟨b, hb, of_decide_eq_true e⟩)
    refine ⟨[], G ++ [(a.2.1, [f a])], by rw [hn]; rfl, by simp, ?_, ⟨?_, fun e he => ?_, fun y => ?_⟩⟩
    · exact put_kvs (key := fun e : Str × List Int => e.1) (g := fun e => D.lst (e.2.map .int)) (L := G) (a := (a.2.1, [f a])) c
    · rw [List.map_append, List.nodup_append]
      exact ⟨h.nd, by simp, fun x hx b hb e => by rw [List.map_cons, List.map_nil, List.mem_singleton] at hb; rw [e, hb] at hx; exact c hx⟩
    · rw [yc_snoc]
      rcases List.mem_append.mp he with he | he
      · rw [if_neg (fun q => c (by rw [q]; exact List.mem_map.mpr ⟨e, he, rfl⟩)), List.append_nil, h.eq e he]
      · rw [List.mem_singleton.mp he, if_pos rfl, hy, List.nil_append]
    · rw [List.map_append, List.mem_append, h.ys]
      constructor
      · rintro (⟨b, hb, e⟩ | e)
        · exact ⟨b, List.mem_append_left _ hb, e⟩
        · rw [List.map_cons, List.map_nil, List.mem_singleton] at e
          exact ⟨a, by simp, e.symm⟩
      · rintro ⟨b, hb, e⟩
        rcases List.mem_append.mp hb with hb | hb
        · exact .inl ⟨b, hb, e⟩
        · rw [List.mem_singleton.mp hb] at e
          right; rw [← e]; simp
/-- how many there is room for -/
def MostIs (S : List HS) (want : List Int) (h : How) (v : Int) : Prop := match h with
  | .any => v = (S.map fun e => cntI want e.2.2 60).sum
  | .apart => v = (S.map fun e => cntI want e.2.2 1).sum
  | .near => (v = 0 ∨ ∃ e ∈ S, v = (ycT S (fun e => cntI want e.2.2 60) e.2.1).sum) ∧ 0 ≤ v ∧ ∀ e ∈ S, (ycT S (fun e => cntI want e.2.2 60) e.2.1).sum ≤ v
  | .wide => v = (((dstS (S.map fun e => e.2.1)).filter fun y => (ycT S (fun e => cntI want e.2.2 1) y).any fun n => decide (0 < n)).length : Nat)
theorem sum_perm {l l' : List Int} (p : l.Perm l') : l.sum = l'.sum := by
  induction p with
  | nil => rfl
  | cons a _ ih => rw [List.sum_cons, List.sum_cons, ih]
  | swap a b l => rw [List.sum_cons, List.sum_cons, List.sum_cons, List.sum_cons]; omega
  | trans _ _ ih1 ih2 => rw [ih1, ih2]
theorem cnts_val {S : List HS} {want : List Int} {most : Int} (nd : (S.map (·.1)).Nodup) {a : HS} (ha : a ∈ S) : valD (kvs (fun p : Pr => p.1) (fun p => .int p.2) (cntsT S want most)) (.inr a.1) = some (.int (cntI want a.2.2 most)) := by
  have hm : (a.1, cntI want a.2.2 most) ∈ cntsT S want most := List.mem_map.mpr ⟨a, srtBy_mem.mpr ha, rfl⟩
  have hn : ((cntsT S want most).map (fun p : Pr => p.1)).Nodup := by rw [cnts_keys]; exact srtT_nd nd
  exact val_kvs (key := fun p : Pr => p.1) (g := fun p => D.int p.2) hn hm

end My
namespace My
open PySem PySem.Spec L2 Nu
open PyProof.Rows hiding St
/-! ### stt -/
/-! ### the state that the laws of shares begin with -/
abbrev Dues := List (Str × List Int)
abbrev duesK (U : Dues) : List (Key × D) := kvs (·.1) (fun e : Str × List Int => amtD e.2) U
structure DuesOk (w : Nat) (gs : List Str) (U : Dues) : Prop where
  keys : U.map (·.1) = gs
  ok : ∀ e ∈ U, e.2.length = w ∧ ∀ v ∈ e.2, 0 ≤ v ∧ v ≤ 1000000000000
structure RowsG (w : Nat) (gs : List Str) (nm : Nat → Str) (R : List RowG) : Prop where
  ok : ∀ r ∈ R, GangOk w gs r.1
  nm : R.map (·.1.name) = (List.range R.length).map nm
  told : R.map (fun r => r.2 % 100) = (List.range R.length).map fun n => ((n : Nat) : Int)
  tb : ∀ r ∈ R, 0 ≤ r.2 ∧ r.2 < 6100
  len : R.length ≤ 60
structure StM (m m' : MS) (x pd pr : Addr) (k : Int) (U : Dues) (R : List RowG) : Prop where
  up : MLe m m'
  bx : B3 m' x k
  dd : m' pd = some (.dct (duesK U))
  rr : m' pr = some (.lst (R.map rgD))
  fr : m x = none ∧ m pd = none ∧ m pr = none
  ne : x ≠ pd ∧ x ≠ pr ∧ pd ≠ pr
theorem StM.oth {m m' : MS} {x pd pr y : Addr} {k : Int} {U : Dues} {R : List RowG} {c : Cell} (s : StM m m' x pd pr k U R) (hy : y ≠ x ∧ y ≠ pd ∧ y ≠ pr) (hm : m y = none) : StM m (mset m' y c) x pd pr k U R := by
  obtain ⟨B, hx, hB⟩ := s.bx
  exact ⟨MLe.fresh' s.up hm, ⟨B, by rw [mset_ne hy.1.symm]; exact hx, hB⟩, by rw [mset_ne hy.2.1.symm]; exact s.dd, by rw [mset_ne hy.2.2.symm]; exact s.rr, s.fr, s.ne⟩
theorem StM.box {m m' : MS} {x pd pr : Addr} {k k' : Int} {U : Dues} {R : List RowG} {B : Cell} (s : StM m m' x pd pr k U R) (hB : B3c k' B) : StM m (mset m' x B) x pd pr k' U R :=
  ⟨MLe.fresh' s.up s.fr.1, hB.put, by rw [mset_ne s.ne.1.symm]; exact s.dd, by rw [mset_ne s.ne.2.1.symm]; exact s.rr, s.fr, s.ne⟩
theorem StM.row {m m' : MS} {x pd pr : Addr} {k : Int} {U : Dues} {R R' : List RowG} (s : StM m m' x pd pr k U R) : StM m (mset m' pr (.lst (R'.map rgD))) x pd pr k U R' := by
  obtain ⟨B, hx, hB⟩ := s.bx
  exact ⟨MLe.fresh' s.up s.fr.2.2, ⟨B, by rw [mset_ne s.ne.2.1]; exact hx, hB⟩, by rw [mset_ne s.ne.2.2]; exact s.dd, mset_same, s.fr, s.ne⟩
theorem StM.due {m m' : MS} {x pd pr : Addr} {k : Int} {U U' : Dues} {R : List RowG} (s : StM m m' x pd pr k U R) : StM m (mset m' pd (.dct (duesK U'))) x pd pr k U' R := by
  obtain ⟨B, hx, hB⟩ := s.bx
  exact ⟨MLe.fresh' s.up s.fr.2.1, ⟨B, by rw [mset_ne s.ne.1]; exact hx, hB⟩, mset_same, by rw [mset_ne s.ne.2.2.symm]; exact s.rr, s.fr, s.ne⟩
theorem StM.none {m m' : MS} {x pd pr y : Addr} {k : Int} {U : Dues} {R : List RowG} (s : StM m m' x pd pr k U R) (hy : m' y = none) : (y ≠ x ∧ y ≠ pd ∧ y ≠ pr) ∧ m y = none := by
  obtain ⟨B, hx, hB⟩ := s.bx
  refine ⟨⟨?_, ?_, ?_⟩, ?_⟩
  · rintro rfl; rw [hx] at hy; cases hy
  · rintro rfl; rw [s.dd] at hy; cases hy
  · rintro rfl; rw [s.rr] at hy; cases hy
  · cases e : m y with
    | none => rfl
    | some c => rw [s.up _ _ e] at hy; cases hy
def gBase : List Str := ["n", "no", "nor", "north", "s", "so", "e", "west", "westward", "ab", "a", "zz"].map Str.ofString
def tens : Str := Str.ofString "abcdefghij"
def nmT (n : Nat) : Str := repS (signOf (n / 6)) (1 + n % 6)
where signOf (i : Nat) : Str := ⟨#[tens.cps.toList.getD i 0]⟩
theorem nm_nd : ((List.range 60).map nmT).Nodup := by decide +kernel
theorem nm_ok : ∀ n < 60, PyData.strOk (nmT n) = true := by decide +kernel
theorem nm_out : ∀ n < 60, nmT n ≠ Str.ofString "z" ∧ nmT n ≠ Str.ofString "aaaaaaa" ∧ nmT n ≠ Str.ofString "zed" := by decide +kernel
theorem gBase_nd : gBase.Nodup := by decide +kernel
theorem gBase_ok : ∀ g ∈ gBase, PyData.strOk g = true := by decide +kernel
structure StOk (w : Nat) (gs : List Str) (U : Dues) (R : List RowG) (g : Gang) : Prop where
  w1 : 1 ≤ w
  w8 : w ≤ 8
  gnd : gs.Nodup
  gok : ∀ y ∈ gs, PyData.strOk y = true
  glen : 1 ≤ gs.length ∧ gs.length ≤ 12
  du : DuesOk w gs U
  rows : RowsG w gs nmT R
  gang : GangOk w gs g
  out : g.name ∉ R.map (·.1.name)

end My
namespace My
open PySem PySem.Spec L2 Nu
open PyProof.Rows hiding St
/-! ### _law_state_83f3 -/
theorem sumNN : ∀ {l : List Int}, (∀ v ∈ l, 0 ≤ v) → 0 ≤ l.sum
  | [], _ => by simp
  | a :: l, h => by
    rw [List.sum_cons]
    have := h a (List.mem_cons_self ..)
    have := sumNN (l := l) fun v hv => h v (List.mem_cons_of_mem _ hv)
    omega
theorem mdel_ne {m : MS} {p q : Addr} (h : q ≠ p) : mdel m p q = m q := by unfold mdel; rw [if_neg h]
theorem VwD.tupFreeze {m : MS} {v : L2.V} {pr : Addr} {ds : List D} {d3 : D} (h : m pr = some (.lst ds)) : VwD (.tup [.raw v, .raw (.ref pr), d3]) m (.tup [.raw v, .lst ds, d3]) (mdel m pr) := fun K H F u S r => by
  cases r with
  | tup h1 h2 =>
    cases h2 with
    | cons r1 r2 =>
      cases r2 with
      | cons r2 r3 =>
        obtain ⟨F', g, r'⟩ := VwD.freeze h K H F _ S r2
        exact ⟨F', g, .tup (Same.seqT g.grow h1) (.cons (Rp.up g.grow _ r1) (.cons r' (Rps.up g.grow _ r3)))⟩
def a__law_state_83f3 : ASp := fun ss m P _ => ∃ (d0 : D) (ns : List Int), ss = [d0] ∧ intsD d0 ns ∧ ns.length ≤ 63 ∧ ∀ (m' : MS) (pd : Addr) (w : Nat) (gs : List Str) (U : Dues) (R : List RowG) (g : Gang), MLe m m' → m' pd = some (.dct (duesK U)) → StOk w gs U R g → P (.tup [.raw (.ref pd), rgsD R, gD g]) m'
theorem len__law_state_83f3 : ∀ ss m P Z, a__law_state_83f3 ss m P Z → ss.length = 1 := by
  rintro _ m P Z ⟨d0, a, rfl, _⟩; rfl
abbrev n__law_state_83f3 : List Str := ["_law_script", "_law_head", "_law_wares", "_law_wide", "_law_some", "_law_turn", "_law_guilds", "_law_dues", "_law_rows", "_law_k", "_law_box_here", "_law_again", "_law_name", "_law_gang_here", "_law_guild_here", "_law_few", "_law_borne", "_law_row", "_law_one"]
theorem nd__law_state_83f3 : (n__law_state_83f3).Nodup := by decide +kernel
def u__law_state_83f3 : SS :=
  (.cons (.set 1 (.call a__law_box_f006 (.cons (.var 0) (.cons (.cst (.int 0)) .nil))))
  (.cons (.set 2 (.bop sIx (.cons (.bop sLst (.cons (.bop sAdd (.cons (.cst (.int 1)) (.cons (.call a__law_take_9ad5 (.cons (.var 1) (.cons (.cst (.int 2)) .nil))) .nil))) (.cons (.bop sAdd (.cons (.cst (.int 1)) (.cons (.call a__law_take_9ad5 (.cons (.var 1) (.cons (.cst (.int 8)) .nil))) .nil))) .nil))) (.cons (.call a__law_take_9ad5 (.cons (.var 1) (.cons (.cst (.int 2)) .nil))) .nil))))
  (.cons (.set 3 (.bop sIx (.cons (.bop sLst (.cons (.cst (.int 2)) (.cons (.cst (.int 9)) (.cons (.cst (.int 1000)) (.cons (.cst (.int 1000000000000)) .nil))))) (.cons (.call a__law_take_9ad5 (.cons (.var 1) (.cons (.cst (.int 4)) .nil))) .nil))))
  (.cons (.set 4 (.bop sLst (.cons (.cst (.str "n")) (.cons (.cst (.str "no")) (.cons (.cst (.str "nor")) (.cons (.cst (.str "north")) (.cons (.cst (.str "s")) (.cons (.cst (.str "so")) (.cons (.cst (.str "e")) (.cons (.cst (.str "west")) (.cons (.cst (.str "westward")) (.cons (.cst (.str "ab")) (.cons (.cst (.str "a")) (.cons (.cst (.str "zz")) .nil))))))))))))))
  (.cons (.set 5 (.call a__law_take_9ad5 (.cons (.var 1) (.cons (.cst (.int 12)) .nil))))
  (.cons (.set 6 (.bop sSlH (.cons (.bop sAdd (.cons (.bop sSlL (.cons (.var 4) (.cons (.var 5) .nil))) (.cons (.bop sSlH (.cons (.var 4) (.cons (.var 5) .nil))) .nil))) (.cons (.bop sIx (.cons (.bop sLst (.cons (.cst (.int 1)) (.cons (.cst (.int 2)) (.cons (.cst (.int 4)) (.cons (.cst (.int 12)) .nil))))) (.cons (.call a__law_take_9ad5 (.cons (.var 1) (.cons (.cst (.int 4)) .nil))) .nil))) .nil))))
  (.cons (.set 7 (.bop sToDct (.cons (.lc (.name 14) isVal (.cons (.var 6) .nil) .nil (.bop sTup (.cons (.var 14) (.cons (.call a__law_due_ff14 (.cons (.var 1) (.cons (.var 2) (.cons (.var 3) .nil)))) .nil)))) .nil)))
  (.cons (.set 8 (.bop sLst .nil))
  (.cons (.fo (.name 9) isRng (.cons (.cst (.int 1)) (.cons (.bop sLen (.cons (.var 0) .nil)) .nil)) (.cons (.set 10 (.call a__law_box_f006 (.cons (.var 0) (.cons (.var 9) .nil))))
  (.cons (.fo (.name 11) isRng (.cons (.bop sAdd (.cons (.cst (.int 1)) (.cons (.bop sToInt (.cons (.bop sEq (.cons (.call a__law_take_9ad5 (.cons (.var 10) (.cons (.cst (.int 3)) .nil))) (.cons (.cst (.int 0)) .nil))) .nil)) .nil))) .nil) (.cons (.iff (.bop (sCmp .lt) (.cons (.bop sLen (.cons (.var 8) .nil)) (.cons (.cst (.int 60)) .nil))) (.cons (.set 12 (.bop sMul (.cons (.bop sIx (.cons (.cst (.str "abcdefghij")) (.cons (.bop sFdv (.cons (.bop sLen (.cons (.var 8) .nil)) (.cons (.cst (.int 6)) .nil))) .nil))) (.cons (.bop sAdd (.cons (.cst (.int 1)) (.cons (.bop sMod (.cons (.bop sLen (.cons (.var 8) .nil)) (.cons (.cst (.int 6)) .nil))) .nil))) .nil))))
  (.cons (.expr (.mth (kL sAppend) (.var 8) (.cons (.bop sTup (.cons (.call a__law_gang_69eb (.cons (.var 10) (.cons (.var 12) (.cons (.var 6) (.cons (.var 2) (.cons (.var 3) .nil)))))) (.cons (.bop sAdd (.cons (.bop sMul (.cons (.cst (.int 100)) (.cons (.call a__law_take_9ad5 (.cons (.var 10) (.cons (.cst (.int 60)) .nil))) .nil))) (.cons (.bop sLen (.cons (.var 8) .nil)) .nil))) .nil))) .nil)))
  .nil)) .nil)
  .nil))
  .nil)))
  (.cons (.set 13 (.call a__law_gang_69eb (.cons (.var 1) (.cons (.bop sIx (.cons (.bop sLst (.cons (.cst (.str "z")) (.cons (.cst (.str "aaaaaaa")) (.cons (.cst (.str "zed")) .nil)))) (.cons (.call a__law_take_9ad5 (.cons (.var 1) (.cons (.cst (.int 3)) .nil))) .nil))) (.cons (.var 6) (.cons (.var 2) (.cons (.var 3) .nil)))))))
  (.cons (.fo (.name 14) isVal (.cons (.var 6) .nil) (.cons (.set 15 (.bop sAdd (.cons (.bop sSlH (.cons (.lc (.name 17) isVal (.cons (.var 8) .nil) (.cons (.bop sEq (.cons (.bop sIx (.cons (.bop sIx (.cons (.var 17) (.cons (.cst (.int 0)) .nil))) (.cons (.cst (.int 1)) .nil))) (.cons (.var 14) .nil))) .nil) (.bop sIx (.cons (.var 17) (.cons (.cst (.int 0)) .nil)))) (.cons (.call a__law_take_9ad5 (.cons (.var 1) (.cons (.cst (.int 6)) .nil))) .nil))) (.cons (.bop sSlH (.cons (.bop sLst (.cons (.var 13) .nil)) (.cons (.bop sToInt (.cons (.bop sEq (.cons (.var 14) (.cons (.bop sIx (.cons (.var 13) (.cons (.cst (.int 1)) .nil))) .nil))) .nil)) .nil))) .nil))))
  (.cons (.set 16 (.bop sToTup (.cons (.lc (.name 9) isRng (.cons (.var 2) .nil) .nil (.bop sSum (.cons (.lc (.name 18) isVal (.cons (.var 15) .nil) .nil (.bop sMul (.cons (.bop sIx (.cons (.var 18) (.cons (.cst (.int 3)) .nil))) (.cons (.bop sIx (.cons (.bop sIx (.cons (.var 18) (.cons (.cst (.int 4)) .nil))) (.cons (.var 9) .nil))) .nil)))) .nil))) .nil)))
  (.cons (.iff (.and2 (.bop sEq (.cons (.call a__law_take_9ad5 (.cons (.var 1) (.cons (.cst (.int 3)) .nil))) (.cons (.cst (.int 0)) .nil))) (.bop (sCmp .le) (.cons (.bop sMaxL (.cons (.var 16) .nil)) (.cons (.cst (.int 1000000000000)) .nil)))) (.cons (.iset (.var 7) (.var 14) (.var 16))
  .nil) .nil)
  .nil))))
  (.cons (.ret (.bop sTup (.cons (.var 7) (.cons (.var 8) (.cons (.var 13) .nil)))))
  .nil))))))))))))
theorem body__law_state_83f3 : ∀ (ss : List D) (m : MS) (P : NX) (Z : EZ), a__law_state_83f3 ss m P Z → WB u__law_state_83f3 (startR n__law_state_83f3 ss) m (bodyE P Z) := by
  rintro _ m P Z ⟨d0, ns, rfl, hd0, hns, q⟩
  rcases hd0 with rfl | rfl
  · (conv => whnf)
    refine ⟨_, ns, 0, rfl, (.inl rfl), ⟨by omega, by omega, by omega⟩, fun x hx B hB => ?_⟩
    (conv => whnf)
    refine ⟨x, 2, 0, rfl, hB.put, ⟨by decide, by decide, by decide⟩, fun v v0 v1 B hB => ?_⟩
    rw [mset_mset]
    (conv => whnf)
    refine ⟨x, 8, 0 + 1, rfl, hB.put, ⟨by decide, by decide, by decide⟩, fun u u0 u1 B hB => ?_⟩
    rw [mset_mset]
    (conv => whnf)
    refine .inl ?_
    (conv => whnf)
    refine ⟨x, 2, 0 + 1 + 1, rfl, hB.put, ⟨by decide, by decide, by decide⟩, fun z z0 z1 B hB => ?_⟩
    rw [mset_mset]
    (conv => whnf)
    obtain ⟨e, he, hm⟩ := ix2 (a := D.int (1 + v)) (b := .int (1 + u)) z0 z1
    obtain ⟨w, rfl, hw1, hw8⟩ : ∃ w : Nat, e = .int w ∧ 1 ≤ w ∧ w ≤ 8 := by
      rcases hm with rfl | rfl
      · exact ⟨(1 + v).toNat, by rw [Int.toNat_of_nonneg (by omega)], by omega, by omega⟩
      · exact ⟨(1 + u).toNat, by rw [Int.toNat_of_nonneg (by omega)], by omega, by omega⟩
    refine ⟨_, he, ?_⟩
    (conv => whnf)
    refine .inl ?_
    (conv => whnf)
    refine ⟨x, 4, 0 + 1 + 1 + 1, rfl, hB.put, ⟨by decide, by decide, by decide⟩, fun y y0 y1 B hB => ?_⟩
    rw [mset_mset]
    (conv => whnf)
    obtain ⟨e2, he2, hm2⟩ := ix4 (a := D.int 2) (b := .int 9) (c := .int 1000) (d := .int 1000000000000) y0 y1
    obtain ⟨W, rfl, hW1, hW2⟩ : ∃ W : Int, e2 = .int W ∧ 1 ≤ W ∧ W ≤ 1000000000000 := by
      rcases hm2 with rfl | rfl | rfl | rfl
      · exact ⟨2, rfl, by omega, by omega⟩
      · exact ⟨9, rfl, by omega, by omega⟩
      · exact ⟨1000, rfl, by omega, by omega⟩
      · exact ⟨1000000000000, rfl, by omega, by omega⟩
    refine ⟨_, he2, ?_⟩
    (conv => whnf)
    refine .inl ?_
    (conv => whnf)
    refine ⟨x, 12, 0 + 1 + 1 + 1 + 1, rfl, hB.put, ⟨by decide, by decide, by decide⟩, fun a a0 a1 B hB => ?_⟩
    rw [mset_mset]
    obtain ⟨n, rfl, hn⟩ : ∃ n : Nat, a = (n : Int) ∧ n < 12 := ⟨a.toNat, by omega, by omega⟩
    have hgb : [D.str (Str.ofString "n"), D.str (Str.ofString "no"), D.str (Str.ofString "nor"), D.str (Str.ofString "north"), D.str (Str.ofString "s"), D.str (Str.ofString "so"), D.str (Str.ofString "e"), D.str (Str.ofString "west"), D.str (Str.ofString "westward"), D.str (Str.ofString "ab"), D.str (Str.ofString "a"), D.str (Str.ofString "zz")] = gBase.map D.str := rfl
    (conv => whnf)
    rw [hgb]
    refine .inl ?_
    (conv => whnf)
    refine .inl ?_
    have hf1 : Nu.cutD (gBase.map D.str) (some (n : Int)) none = (gBase.drop n).map .str := by rw [cutT, List.map_drop]
    have hf2 : Nu.cutD (gBase.map D.str) none (some (n : Int)) = (gBase.take n).map .str := by rw [cutH, List.map_take]
    have hbl : gBase.length = 12 := rfl
    rw [hf1, hf2]
    (conv => whnf)
    refine ⟨by rw [List.length_map, List.length_map, List.length_drop, List.length_take]; omega, .inl ?_⟩
    (conv => whnf)
    refine .inl ?_
    (conv => whnf)
    refine ⟨x, 4, 0 + 1 + 1 + 1 + 1 + 1, rfl, hB.put, ⟨by decide, by decide, by decide⟩, fun y y0 y1 B hB => ?_⟩
    rw [mset_mset]
    (conv => whnf)
    obtain ⟨e3, he3, hm3⟩ := ix4 (a := D.int 1) (b := .int 2) (c := .int 4) (d := .int 12) y0 y1
    obtain ⟨t, rfl, ht1, ht2⟩ : ∃ t : Nat, e3 = .int t ∧ 1 ≤ t ∧ t ≤ 12 := by
      rcases hm3 with rfl | rfl | rfl | rfl
      · exact ⟨1, rfl, by omega, by omega⟩
      · exact ⟨2, rfl, by omega, by omega⟩
      · exact ⟨4, rfl, by omega, by omega⟩
      · exact ⟨12, rfl, by omega, by omega⟩
    refine ⟨_, he3, ?_⟩
    have hf3 : Nu.cutD ((gBase.drop n).map D.str ++ (gBase.take n).map D.str) none (some (t : Int)) = ((gBase.drop n ++ gBase.take n).take t).map .str := by rw [cutH, ← List.map_append, ← List.map_take]
    (conv => whnf)
    rw [hf3]
    have hgp : (gBase.drop n ++ gBase.take n).Perm gBase := (List.perm_append_comm).trans (by rw [List.take_append_drop])
    have gnd : ((gBase.drop n ++ gBase.take n).take t).Nodup := (List.take_sublist ..).nodup (hgp.nodup_iff.mpr gBase_nd)
    have gok : ∀ y ∈ (gBase.drop n ++ gBase.take n).take t, PyData.strOk y = true := fun y hy => gBase_ok y (hgp.subset (List.mem_of_mem_take hy))
    have glen : 1 ≤ ((gBase.drop n ++ gBase.take n).take t).length ∧ ((gBase.drop n ++ gBase.take n).take t).length ≤ 12 := by
      rw [List.length_take, hgp.length_eq]; omega
    generalize (gBase.drop n ++ gBase.take n).take t = gs at gnd gok glen
    refine .inl ?_
    (conv => whnf)
    have hB : B3c 6 B := hB
    refine ⟨by rw [List.length_map]; omega, fun j acc m' => ∃ (B : Cell) (U : Dues), m' = mset m x B ∧ B3c (6 + 20 * j) B ∧ acc = U.map (fun e => D.tup [.str e.1, amtD e.2]) ∧ DuesOk w (gs.take j) U, ⟨B, [], rfl, hB.mono (by omega), rfl, ⟨rfl, by simp⟩⟩, fun _ _ _ _ _ => trivial, ?_, ?_⟩
    · rintro j d acc m' hd ⟨B, U, rfl, hB, rfl, hU⟩
      rw [List.getElem?_map] at hd
      obtain ⟨y, hy, rfl⟩ := Option.map_eq_some_iff.mp hd
      have hj : j < gs.length := (List.getElem?_eq_some_iff.mp hy).1
      (conv => whnf)
      refine ⟨fun _ => ?_, fun c => (by cases c)⟩
      (conv => whnf)
      refine ⟨x, w, W, 6 + 20 * j, rfl, hB.put, ⟨by omega, hw1, hw8, hW1, hW2⟩, fun l hl hlv B hB => ?_⟩
      rw [mset_mset]
      (conv => whnf)
      refine ⟨B, U ++ [(y, l)], rfl, hB.mono (by omega), by rw [List.map_append]; rfl, ⟨by rw [List.map_append, hU.keys, take_succ hy]; rfl, fun e he => ?_⟩⟩
      rcases List.mem_append.mp he with he | he
      · exact hU.ok e he
      · rw [List.mem_singleton.mp he]; exact ⟨hl, hlv⟩
    rintro acc m' ⟨B, U, rfl, hB, rfl, hU⟩
    rw [List.length_map, List.take_length] at hU
    rw [List.length_map] at hB
    refine .inl ?_
    (conv => whnf)
    refine ⟨duesK U, by unfold duesK kvs; rw [List.map_map]; rfl, ?_⟩
    rw [dict_kvs (by rw [hU.keys]; exact gnd)]
    refine fun pd hpd => ?_
    obtain ⟨hpdx, hpd⟩ := new_ne hpd
    (conv => whnf)
    refine .inr fun pr hpr => ?_
    obtain ⟨hprd, hprx, hpr⟩ : pr ≠ pd ∧ pr ≠ x ∧ m pr = none := by
      by_cases e : pr = pd
      · rw [e, mset_same] at hpr; cases hpr
      · rw [mset_ne e] at hpr
        obtain ⟨e2, hpr⟩ := new_ne hpr
        exact ⟨e, e2, hpr⟩
    have hM : StM m (mset (mset (mset m x B) pd (.dct (duesK U))) pr (.lst (([] : List RowG).map rgD))) x pd pr 300 U [] :=
      ⟨MLe.fresh' (MLe.fresh' (MLe.fresh' (MLe.refl _) hx) hpd) hpr, ⟨B, by rw [mset_ne hprx.symm, mset_ne hpdx.symm]; exact mset_same, hB.mono (by omega)⟩, by rw [mset_ne hprd.symm]; exact mset_same, mset_same, ⟨hx, hpd, hpr⟩, ⟨hpdx.symm, hprx.symm, hprd.symm⟩⟩
    have hM : StM m (mset (mset (mset m x B) pd (.dct (duesK U))) pr (.lst [])) x pd pr 300 U [] := hM
    revert hM
    generalize mset (mset (mset m x B) pd (.dct (duesK U))) pr (.lst []) = M1
    intro hM
    (conv => whnf)
    rw [List.length_map]
    refine ⟨⟨by decide, by decide, by omega, by omega⟩, ?_⟩
    (conv => whnf)
    refine ⟨fun i ρ' m' => ∃ (R : List RowG) (x9 x10 x11 x12 : Option D), StM m m' x pd pr 300 U R ∧ RowsG w gs nmT R ∧ ρ' = [some (.fls (ns.map .int)), some (.raw (.ref x)), some (.int w), some (.int W), some (.lst (gBase.map .str)), some (.int n), some (.lst (gs.map .str)), some (.raw (.ref pd)), some (.raw (.ref pr)), x9, x10, x11, x12, none, none, none, none, none, none], ⟨[], _, _, _, _, hM, ⟨by simp, rfl, rfl, by simp, by simp⟩, rfl⟩, fun _ _ _ _ => trivial, ?_, ?_⟩
    · rintro i d ρ' m' hd ⟨R, x9, x10, x11, x12, hM, hR, rfl⟩
      obtain ⟨hi, rfl⟩ := rngD_get hd
      (conv => whnf)
      refine ⟨_, ns, _, rfl, (.inl rfl), ⟨by omega, by omega, by omega⟩, fun x2 hx2 B2 hB2 => ?_⟩
      obtain ⟨hne2, hm2⟩ := hM.none hx2
      (conv => whnf)
      refine ⟨x2, 3, 0, rfl, hB2.put, ⟨by decide, by decide, by decide⟩, fun b b0 b1 B2 hB2 => ?_⟩
      rw [mset_mset]
      have hM2 := hM.oth (c := B2) hne2 hm2
      have hb2 : B3 (mset m' x2 B2) x2 1 := hB2.put.mono (by omega)
      revert hM2 hb2
      generalize mset m' x2 B2 = M2
      intro hM2 hb2
      (conv => whnf)
      refine ⟨⟨by split <;> omega, by split <;> omega⟩, ?_⟩
      (conv => whnf)
      refine ⟨fun i' ρ' m' => ∃ (R : List RowG) (x11 x12 : Option D), StM m m' x pd pr 300 U R ∧ RowsG w gs nmT R ∧ B3 m' x2 (1 + 100 * i') ∧ ρ' = [some (.fls (ns.map .int)), some (.raw (.ref x)), some (.int w), some (.int W), some (.lst (gBase.map .str)), some (.int n), some (.lst (gs.map .str)), some (.raw (.ref pd)), some (.raw (.ref pr)), some (.int (1 + (i : Nat))), some (.raw (.ref x2)), x11, x12, none, none, none, none, none, none], ⟨R, _, _, hM2, hR, by simpa using hb2, rfl⟩, fun _ _ _ _ => trivial, ?_, ?_⟩
      · rintro j d ρ' m' hd ⟨R, x11, x12, hM, hR, hb2, rfl⟩
        obtain ⟨hj, rfl⟩ := rngD_get hd
        have hj3 : j < 3 := by
          revert hj
          split <;> omega
        have hRl := hR.len
        (conv => whnf)
        refine ⟨_, hM.rr, ?_⟩
        (conv => whnf)
        rw [List.length_map]
        refine ⟨_, rfl, fun hk => ?_, fun hk => ?_⟩
        · have hk : R.length < 60 := by have := of_decide_eq_true hk; omega
          (conv => whnf)
          refine ⟨_, hM.rr, ?_⟩
          (conv => whnf)
          rw [List.length_map]
          refine ⟨⟨by decide, by decide⟩, ?_⟩
          (conv => whnf)
          have hat : atI tens.cps.toList ((R.length : Int) / 6) = some (tens.cps.toList.getD (R.length / 6) 0) := by
            have e : ((R.length : Int) / 6) = ((R.length / 6 : Nat) : Int) := by omega
            rw [e]
            refine atI_get (by omega) ?_
            have hl : tens.cps.toList.length = 10 := by decide +kernel
            rw [Int.toNat_natCast, List.getD_eq_getElem?_getD, List.getElem?_eq_getElem (by omega)]; rfl
          refine ⟨by decide +kernel, _, hat, ?_⟩
          (conv => whnf)
          refine ⟨_, hM.rr, ?_⟩
          (conv => whnf)
          rw [List.length_map]
          refine ⟨by decide, ?_⟩
          (conv => whnf)
          refine ⟨⟨by omega, by omega, Nat.le_refl 1, (by decide : (1 : Nat) ≤ 1000)⟩, ?_⟩
          have hnm : repS ⟨#[tens.cps.toList.getD (R.length / 6) 0]⟩ (1 + (R.length : Int) % 6).toNat = nmT R.length := by
            unfold nmT nmT.signOf
            congr 1
          rw [hnm]
          (conv => whnf)
          refine ⟨_, hM.rr, ?_⟩
          (conv => whnf)
          refine ⟨x2, nmT R.length, gs, w, W, 1 + 100 * j, rfl, hb2, ⟨by omega, hw1, hw8, hW1, hW2⟩, ⟨by omega, by omega, gok, nm_ok _ hk⟩, fun g hg hgn B hB => ?_⟩
          (conv => whnf)
          refine ⟨x2, 60, _, rfl, hB.put, ⟨by omega, by decide, by decide⟩, fun c c0 c1 B hB => ?_⟩
          rw [mset_mset]
          have hM3 := hM.oth (c := B) hne2 hm2
          have hb3 : B3 (mset m' x2 B) x2 (1 + 100 * ((j + 1 : Nat) : Int)) := hB.put.mono (by omega)
          revert hM3 hb3
          generalize mset m' x2 B = M3
          intro hM3 hb3
          (conv => whnf)
          refine ⟨cmL ⟨by decide, by decide⟩, ?_⟩
          (conv => whnf)
          refine ⟨_, hM3.rr, ?_⟩
          (conv => whnf)
          rw [List.length_map]
          refine ⟨_, hM3.rr, by rw [List.length_map]; omega, ?_⟩
          have e : (R.map rgD ++ [D.tup [gD g, .int (100 * c + (R.length : Nat))]]) = (R ++ [(g, 100 * c + (R.length : Nat))]).map rgD := by rw [List.map_append]; rfl
          rw [e]
          obtain ⟨B4, hx4, hB4⟩ := hb3
          refine ⟨R ++ [(g, 100 * c + (R.length : Nat))], _, _, hM3.row, ⟨fun r hr => ?_, ?_, ?_, fun r hr => ?_, ?_⟩, ⟨B4, by rw [mset_ne hne2.2.2]; exact hx4, hB4⟩, rfl⟩
          · rcases List.mem_append.mp hr with hr | hr
            · exact hR.ok r hr
            · rw [List.mem_singleton.mp hr]; exact hg
          · rw [List.map_append, hR.nm, List.length_append, List.length_singleton, List.range_succ, List.map_append]
            show _ ++ [g.name] = _ ++ [nmT R.length]
            rw [hgn]
          · rw [List.map_append, hR.told, List.length_append, List.length_singleton, List.range_succ, List.map_append]
            congr 1
            show [(100 * c + (R.length : Nat)) % 100] = [((R.length : Nat) : Int)]
            congr 1
            omega
          · rcases List.mem_append.mp hr with hr | hr
            · exact hR.tb r hr
            · rw [List.mem_singleton.mp hr]
              show 0 ≤ 100 * c + (R.length : Nat) ∧ 100 * c + ((R.length : Nat) : Int) < 6100
              omega
          · rw [List.length_append, List.length_singleton]; omega
        · exact ⟨R, _, _, hM, hR, hb2.mono (by omega), rfl⟩
      · rintro ρ' m' ⟨R, x11, x12, hM, hR, hb2, rfl⟩
        exact ⟨R, _, _, _, _, hM, hR, rfl⟩
    rintro ρ' m' ⟨R, x9, x10, x11, x12, hM, hR, rfl⟩
    (conv => whnf)
    refine .inl ?_
    (conv => whnf)
    refine ⟨x, 3, 300, rfl, hM.bx, ⟨by decide, by decide, by decide⟩, fun b b0 b1 B hB => ?_⟩
    have hM2 := hM.box hB
    revert hM2
    generalize mset m' x B = M2
    intro hM2
    (conv => whnf)
    obtain ⟨e, he, hm⟩ := ix3 (a := D.str (Str.ofString "z")) (b := .str (Str.ofString "aaaaaaa")) (c := .str (Str.ofString "zed")) b0 b1
    obtain ⟨gn, rfl, hgn, hgno⟩ : ∃ gn : Str, e = .str gn ∧ (∀ j < 60, nmT j ≠ gn) ∧ PyData.strOk gn = true := by
      rcases hm with rfl | rfl | rfl
      · exact ⟨_, rfl, fun j hj => (nm_out j hj).1, by decide +kernel⟩
      · exact ⟨_, rfl, fun j hj => (nm_out j hj).2.1, by decide +kernel⟩
      · exact ⟨_, rfl, fun j hj => (nm_out j hj).2.2, by decide +kernel⟩
    refine ⟨_, he, ?_⟩
    (conv => whnf)
    refine ⟨x, gn, gs, w, W, 300 + 1, rfl, hM2.bx, ⟨by decide, hw1, hw8, hW1, hW2⟩, ⟨by omega, by omega, gok, hgno⟩, fun g hg hgnm B hB => ?_⟩
    have hM3 := hM2.box hB
    have hM3 : StM m (mset M2 x B) x pd pr (400 + 30 * ((0 : Nat) : Int)) U R := ⟨hM3.up, hM3.bx.mono (by omega), hM3.dd, hM3.rr, hM3.fr, hM3.ne⟩
    revert hM3
    generalize mset M2 x B = M3
    intro hM3
    (conv => whnf)
    refine foN gs D.str (fun i ρ' m' => ∃ (U : Dues) (x14 x15 x16 : Option D), StM m m' x pd pr (400 + 30 * i) U R ∧ DuesOk w gs U ∧ ρ' = [some (.fls (ns.map .int)), some (.raw (.ref x)), some (.int w), some (.int W), some (.lst (gBase.map .str)), some (.int n), some (.lst (gs.map .str)), some (.raw (.ref pd)), some (.raw (.ref pr)), x9, x10, x11, x12, some (gD g), x14, x15, x16, none, none]) rfl ⟨U, _, _, _, hM3, hU, rfl⟩ (fun _ _ _ _ => trivial) ?_ ?_
    · rintro i y ρ' m' hy ⟨U, x14, x15, x16, hM, hU, rfl⟩
      have hi : i < gs.length := (List.getElem?_eq_some_iff.mp hy).1
      have hym := List.mem_of_getElem? hy
      have hRl := hR.len
      (conv => whnf)
      refine ⟨_, hM.rr, ?_⟩
      refine lcN R rgD (fun r => decide (r.1.guild = y)) (fun r => gD r.1) rfl (by omega) hM.rr (fun r hr => ⟨fun R2 r2 => ?_, fun _ R2 r2 => ?_⟩) (.inl ?_)
      · (conv => whnf)
        refine ⟨_, rfl, ?_⟩
        (conv => whnf)
        refine ⟨_, rfl, ?_⟩
        (conv => whnf)
        exact ⟨_, rfl, r2⟩
      · (conv => whnf)
        exact ⟨_, rfl, r2⟩
      (conv => whnf)
      refine ⟨x, 6, 400 + 30 * i, rfl, hM.bx, ⟨by omega, by decide, by decide⟩, fun b b0 b1 B hB => ?_⟩
      have hM2 := hM.box hB
      revert hM2
      generalize mset m' x B = M2
      intro hM2
      obtain ⟨c, rfl, hc⟩ : ∃ c : Nat, b = (c : Int) ∧ c < 6 := ⟨b.toNat, by omega, by omega⟩
      (conv => whnf)
      rw [cutH]
      refine .inl ?_
      (conv => whnf)
      refine .inl ?_
      (conv => whnf)
      refine ⟨_, rfl, ?_⟩
      (conv => whnf)
      obtain ⟨c2, hc2⟩ : ∃ c2 : Nat, (if decide (y = g.guild) = true then (1 : Int) else 0) = (c2 : Int) := by
        split
        · exact ⟨1, rfl⟩
        · exact ⟨0, rfl⟩
      rw [hc2, cutH]
      refine .inl ?_
      (conv => whnf)
      have hfs : ((R.filter fun r => decide (r.1.guild = y)).map fun r => gD r.1).take c ++ [gD g].take c2 = (((R.filter fun r => decide (r.1.guild = y)).map (·.1)).take c ++ [g].take c2).map gD := by
        rw [List.map_append, List.map_take, List.map_take, List.map_map]; rfl
      have hfo : ∀ a ∈ ((R.filter fun r => decide (r.1.guild = y)).map (·.1)).take c ++ [g].take c2, GangOk w gs a := fun a ha => by
        rcases List.mem_append.mp ha with ha | ha
        · obtain ⟨r, hr, rfl⟩ := List.mem_map.mp (List.mem_of_mem_take ha)
          exact hR.ok r (List.mem_filter.mp hr).1
        · rw [List.mem_singleton.mp (List.mem_of_mem_take ha)]; exact hg
      have hfl : (((R.filter fun r => decide (r.1.guild = y)).map (·.1)).take c ++ [g].take c2).length ≤ 7 := by
        rw [List.length_append, List.length_take, List.length_take]; simp; omega
      have hl2 : (((R.filter fun r => decide (r.1.guild = y)).map fun r => gD r.1).take c).length + ([gD g].take c2).length ≤ 100000 := by
        rw [List.length_take, List.length_take]; simp; omega
      refine ⟨hl2, .inl ?_⟩
      rw [hfs]
      revert hfo hfl
      generalize ((R.filter fun r => decide (r.1.guild = y)).map (·.1)).take c ++ [g].take c2 = fs
      intro hfo hfl
      (conv => whnf)
      refine ⟨⟨by omega, by omega⟩, ?_⟩
      (conv => whnf)
      refine lcNM (List.range w) (fun k => D.int (0 + (k : Nat))) (fun k => .int (fs.map fun a => a.many * a.want.getD k 0).sum) rfl (by rw [List.length_range]; omega) trivial (fun k hk R2 r2 => ?_) (.inl ?_)
      · have hkw := List.mem_range.mp hk
        (conv => whnf)
        refine lcNM fs gD (fun a => .int (a.many * a.want.getD k 0)) rfl (by omega) trivial (fun a ha R3 r3 => ?_) (.inl ?_)
        · have hao := hfo a ha
          have hkl : k < a.want.length := by rw [hao.lw]; exact hkw
          (conv => whnf)
          refine ⟨_, rfl, ?_⟩
          (conv => whnf)
          refine ⟨_, rfl, ?_⟩
          (conv => whnf)
          refine ⟨.int (a.want.getD k 0), atI_get (by omega) ?_, ?_⟩
          · rw [List.getElem?_map, show (0 + (k : Int)).toNat = k by omega, List.getD_eq_getElem?_getD, List.getElem?_eq_getElem hkl]; rfl
          (conv => whnf)
          exact ⟨cmL ⟨by have := hao.many.1; omega, by have := hao.many.2; omega⟩, r3⟩
        (conv => whnf)
        refine ⟨fs.map fun a => a.many * a.want.getD k 0, by rw [List.map_map]; rfl, r2⟩
      (conv => whnf)
      have hbs : ((List.range w).map fun k => D.int (fs.map fun a => a.many * a.want.getD k 0).sum) = ((List.range w).map fun k => (fs.map fun a => a.many * a.want.getD k 0).sum).map .int := by rw [List.map_map]; rfl
      have hbl : ((List.range w).map fun k => (fs.map fun a => a.many * a.want.getD k 0).sum).length = w := by rw [List.length_map, List.length_range]
      have hb0 : ∀ v ∈ (List.range w).map fun k => (fs.map fun a => a.many * a.want.getD k 0).sum, 0 ≤ v := fun v hv => by
        obtain ⟨k, hk, rfl⟩ := List.mem_map.mp hv
        refine sumNN fun u hu => ?_
        obtain ⟨a, ha, rfl⟩ := List.mem_map.mp hu
        have hao := hfo a ha
        have hkl : k < a.want.length := by rw [hao.lw]; exact List.mem_range.mp hk
        rw [List.getD_eq_getElem?_getD, List.getElem?_eq_getElem hkl]
        exact Int.mul_nonneg (by have := hao.many.1; omega) (hao.pos _ (List.getElem_mem hkl)).1
      rw [hbs]
      revert hbl hb0
      generalize (List.range w).map (fun k => (fs.map fun a => a.many * a.want.getD k 0).sum) = bs
      intro hbl hb0
      refine ⟨x, 3, 400 + 30 * i + 1, rfl, hM2.bx, ⟨by omega, by decide, by decide⟩, fun d d0 d1 B hB => ?_⟩
      have hM3 := hM2.box hB
      have hM3 : StM m (mset M2 x B) x pd pr (400 + 30 * ((i + 1 : Nat) : Int)) U R := ⟨hM3.up, hM3.bx.mono (by omega), hM3.dd, hM3.rr, hM3.fr, hM3.ne⟩
      revert hM3
      generalize mset M2 x B = M3
      intro hM3
      (conv => whnf)
      refine ⟨_, rfl, .inr ⟨fun _ => ?_, fun _ => ?_⟩⟩
      · (conv => whnf)
        refine ⟨bs, rfl, by omega, fun z hz hzm => ?_⟩
        (conv => whnf)
        refine ⟨_, rfl, fun hk => ?_, fun hk => ?_⟩
        · have hk : z ≤ 1000000000000 := of_decide_eq_true hk
          (conv => whnf)
          refine ⟨_, hM3.dd, by rw [kvs_len]; have := congrArg List.length hU.keys; rw [List.length_map] at this; omega, ?_⟩
          have hput : putD (duesK U) (.inr y) (amtD bs) = duesK (U.map fun e => if e.1 = y then (e.1, bs) else e) := by
            unfold duesK
            rw [put_has (by rw [hU.keys]; exact hym)]
            unfold kvs
            rw [List.map_map]
            refine List.map_congr_left fun e _ => ?_
            dsimp only [Function.comp]
            by_cases c : e.1 = y
            · rw [if_pos c, if_pos c]
            · rw [if_neg c, if_neg c]
          have hput : putD (duesK U) (.inr y) (D.tup (bs.map .int)) = duesK (U.map fun e => if e.1 = y then (e.1, bs) else e) := hput
          rw [hput]
          refine ⟨_, _, _, _, hM3.due, ⟨?_, fun e he => ?_⟩, rfl⟩
          · rw [← hU.keys, List.map_map]
            refine List.map_congr_left fun e _ => ?_
            dsimp only [Function.comp]
            split <;> rfl
          · obtain ⟨f, hf, rfl⟩ := List.mem_map.mp he
            by_cases c : f.1 = y
            · rw [if_pos c]
              exact ⟨hbl, fun v hv => ⟨hb0 v hv, by have := hzm v hv; omega⟩⟩
            · rw [if_neg c]; exact hU.ok f hf
        · exact ⟨U, _, _, _, hM3, hU, rfl⟩
      · refine ⟨_, rfl, fun c => (by cases c), fun _ => ?_⟩
        exact ⟨U, _, _, _, hM3, hU, rfl⟩
    · rintro ρ' m' ⟨U, x14, x15, x16, hM, hU, rfl⟩
      (conv => whnf)
      have ho : g.name ∉ R.map (·.1.name) := fun c => by
        rw [hR.nm] at c
        obtain ⟨j, hj, e⟩ := List.mem_map.mp c
        have := List.mem_range.mp hj
        have := hR.len
        exact hgn j (by omega) (e.trans hgnm)
      refine ⟨_, _, VwD.tupFreeze hM.rr, q (mdel m' pr) pd w gs U R g (fun a c e => ?_) ?_ ⟨hw1, hw8, gnd, gok, glen, hU, hR, hg, ho⟩⟩
      · have : a ≠ pr := by rintro rfl; rw [hM.fr.2.2] at e; cases e
        rw [mdel_ne this]
        exact hM.up a c e
      · rw [mdel_ne hM.ne.2.2]
        exact hM.dd
  · (conv => whnf)
    refine ⟨_, ns, 0, rfl, (.inr rfl), ⟨by omega, by omega, by omega⟩, fun x hx B hB => ?_⟩
    (conv => whnf)
    refine ⟨x, 2, 0, rfl, hB.put, ⟨by decide, by decide, by decide⟩, fun v v0 v1 B hB => ?_⟩
    rw [mset_mset]
    (conv => whnf)
    refine ⟨x, 8, 0 + 1, rfl, hB.put, ⟨by decide, by decide, by decide⟩, fun u u0 u1 B hB => ?_⟩
    rw [mset_mset]
    (conv => whnf)
    refine .inl ?_
    (conv => whnf)
    refine ⟨x, 2, 0 + 1 + 1, rfl, hB.put, ⟨by decide, by decide, by decide⟩, fun z z0 z1 B hB => ?_⟩
    rw [mset_mset]
    (conv => whnf)
    obtain ⟨e, he, hm⟩ := ix2 (a := D.int (1 + v)) (b := .int (1 + u)) z0 z1
    obtain ⟨w, rfl, hw1, hw8⟩ : ∃ w : Nat, e = .int w ∧ 1 ≤ w ∧ w ≤ 8 := by
      rcases hm with rfl | rfl
      · exact ⟨(1 + v).toNat, by rw [Int.toNat_of_nonneg (by omega)], by omega, by omega⟩
      · exact ⟨(1 + u).toNat, by rw [Int.toNat_of_nonneg (by omega)], by omega, by omega⟩
    refine ⟨_, he, ?_⟩
    (conv => whnf)
    refine .inl ?_
    (conv => whnf)
    refine ⟨x, 4, 0 + 1 + 1 + 1, rfl, hB.put, ⟨by decide, by decide, by decide⟩, fun y y0 y1 B hB => ?_⟩
    rw [mset_mset]
    (conv => whnf)
    obtain ⟨e2, he2, hm2⟩ := ix4 (a := D.int 2) (b := .int 9) (c := .int 1000) (d := .int 1000000000000) y0 y1
    obtain ⟨W, rfl, hW1, hW2⟩ : ∃ W : Int, e2 = .int W ∧ 1 ≤ W ∧ W ≤ 1000000000000 := by
      rcases hm2 with rfl | rfl | rfl | rfl
      · exact ⟨2, rfl, by omega, by omega⟩
      · exact ⟨9, rfl, by omega, by omega⟩
      · exact ⟨1000, rfl, by omega, by omega⟩
      · exact ⟨1000000000000, rfl, by omega, by omega⟩
    refine ⟨_, he2, ?_⟩
    (conv => whnf)
    refine .inl ?_
    (conv => whnf)
    refine ⟨x, 12, 0 + 1 + 1 + 1 + 1, rfl, hB.put, ⟨by decide, by decide, by decide⟩, fun a a0 a1 B hB => ?_⟩
    rw [mset_mset]
    obtain ⟨n, rfl, hn⟩ : ∃ n : Nat, a = (n : Int) ∧ n < 12 := ⟨a.toNat, by omega, by omega⟩
    have hgb : [D.str (Str.ofString "n"), D.str (Str.ofString "no"), D.str (Str.ofString "nor"), D.str (Str.ofString "north"), D.str (Str.ofString "s"), D.str (Str.ofString "so"), D.str (Str.ofString "e"), D.str (Str.ofString "west"), D.str (Str.ofString "westward"), D.str (Str.ofString "ab"), D.str (Str.ofString "a"), D.str (Str.ofString "zz")] = gBase.map D.str := rfl
    (conv => whnf)
    rw [hgb]
    refine .inl ?_
    (conv => whnf)
    refine .inl ?_
    have hf1 : Nu.cutD (gBase.map D.str) (some (n : Int)) none = (gBase.drop n).map .str := by rw [cutT, List.map_drop]
    have hf2 : Nu.cutD (gBase.map D.str) none (some (n : Int)) = (gBase.take n).map .str := by rw [cutH, List.map_take]
    have hbl : gBase.length = 12 := rfl
    rw [hf1, hf2]
    (conv => whnf)
    refine ⟨by rw [List.length_map, List.length_map, List.length_drop, List.length_take]; omega, .inl ?_⟩
    (conv => whnf)
    refine .inl ?_
    (conv => whnf)
    refine ⟨x, 4, 0 + 1 + 1 + 1 + 1 + 1, rfl, hB.put, ⟨by decide, by decide, by decide⟩, fun y y0 y1 B hB => ?_⟩
    rw [mset_mset]
    (conv => whnf)
    obtain ⟨e3, he3, hm3⟩ := ix4 (a := D.int 1) (b := .int 2) (c := .int 4) (d := .int 12) y0 y1
    obtain ⟨t, rfl, ht1, ht2⟩ : ∃ t : Nat, e3 = .int t ∧ 1 ≤ t ∧ t ≤ 12 := by
      rcases hm3 with rfl | rfl | rfl | rfl
      · exact ⟨1, rfl, by omega, by omega⟩
      · exact ⟨2, rfl, by omega, by omega⟩
      · exact ⟨4, rfl, by omega, by omega⟩
      · exact ⟨12, rfl, by omega, by omega⟩
    refine ⟨_, he3, ?_⟩
    have hf3 : Nu.cutD ((gBase.drop n).map D.str ++ (gBase.take n).map D.str) none (some (t : Int)) = ((gBase.drop n ++ gBase.take n).take t).map .str := by rw [cutH, ← List.map_append, ← List.map_take]
    (conv => whnf)
    rw [hf3]
    have hgp : (gBase.drop n ++ gBase.take n).Perm gBase := (List.perm_append_comm).trans (by rw [List.take_append_drop])
    have gnd : ((gBase.drop n ++ gBase.take n).take t).Nodup := (List.take_sublist ..).nodup (hgp.nodup_iff.mpr gBase_nd)
    have gok : ∀ y ∈ (gBase.drop n ++ gBase.take n).take t, PyData.strOk y = true := fun y hy => gBase_ok y (hgp.subset (List.mem_of_mem_take hy))
    have glen : 1 ≤ ((gBase.drop n ++ gBase.take n).take t).length ∧ ((gBase.drop n ++ gBase.take n).take t).length ≤ 12 := by
      rw [List.length_take, hgp.length_eq]; omega
    generalize (gBase.drop n ++ gBase.take n).take t = gs at gnd gok glen
    refine .inl ?_
    (conv => whnf)
    have hB : B3c 6 B := hB
    refine ⟨by rw [List.length_map]; omega, fun j acc m' => ∃ (B : Cell) (U : Dues), m' = mset m x B ∧ B3c (6 + 20 * j) B ∧ acc = U.map (fun e => D.tup [.str e.1, amtD e.2]) ∧ DuesOk w (gs.take j) U, ⟨B, [], rfl, hB.mono (by omega), rfl, ⟨rfl, by simp⟩⟩, fun _ _ _ _ _ => trivial, ?_, ?_⟩
    · rintro j d acc m' hd ⟨B, U, rfl, hB, rfl, hU⟩
      rw [List.getElem?_map] at hd
      obtain ⟨y, hy, rfl⟩ := Option.map_eq_some_iff.mp hd
      have hj : j < gs.length := (List.getElem?_eq_some_iff.mp hy).1
      (conv => whnf)
      refine ⟨fun _ => ?_, fun c => (by cases c)⟩
      (conv => whnf)
      refine ⟨x, w, W, 6 + 20 * j, rfl, hB.put, ⟨by omega, hw1, hw8, hW1, hW2⟩, fun l hl hlv B hB => ?_⟩
      rw [mset_mset]
      (conv => whnf)
      refine ⟨B, U ++ [(y, l)], rfl, hB.mono (by omega), by rw [List.map_append]; rfl, ⟨by rw [List.map_append, hU.keys, take_succ hy]; rfl, fun e he => ?_⟩⟩
      rcases List.mem_append.mp he with he | he
      · exact hU.ok e he
      · rw [List.mem_singleton.mp he]; exact ⟨hl, hlv⟩
    rintro acc m' ⟨B, U, rfl, hB, rfl, hU⟩
    rw [List.length_map, List.take_length] at hU
    rw [List.length_map] at hB
    refine .inl ?_
    (conv => whnf)
    refine ⟨duesK U, by unfold duesK kvs; rw [List.map_map]; rfl, ?_⟩
    rw [dict_kvs (by rw [hU.keys]; exact gnd)]
    refine fun pd hpd => ?_
    obtain ⟨hpdx, hpd⟩ := new_ne hpd
    (conv => whnf)
    refine .inr fun pr hpr => ?_
    obtain ⟨hprd, hprx, hpr⟩ : pr ≠ pd ∧ pr ≠ x ∧ m pr = none := by
      by_cases e : pr = pd
      · rw [e, mset_same] at hpr; cases hpr
      · rw [mset_ne e] at hpr
        obtain ⟨e2, hpr⟩ := new_ne hpr
        exact ⟨e, e2, hpr⟩
    have hM : StM m (mset (mset (mset m x B) pd (.dct (duesK U))) pr (.lst (([] : List RowG).map rgD))) x pd pr 300 U [] :=
      ⟨MLe.fresh' (MLe.fresh' (MLe.fresh' (MLe.refl _) hx) hpd) hpr, ⟨B, by rw [mset_ne hprx.symm, mset_ne hpdx.symm]; exact mset_same, hB.mono (by omega)⟩, by rw [mset_ne hprd.symm]; exact mset_same, mset_same, ⟨hx, hpd, hpr⟩, ⟨hpdx.symm, hprx.symm, hprd.symm⟩⟩
    have hM : StM m (mset (mset (mset m x B) pd (.dct (duesK U))) pr (.lst [])) x pd pr 300 U [] := hM
    revert hM
    generalize mset (mset (mset m x B) pd (.dct (duesK U))) pr (.lst []) = M1
    intro hM
    (conv => whnf)
    rw [List.length_map]
    refine ⟨⟨by decide, by decide, by omega, by omega⟩, ?_⟩
    (conv => whnf)
    refine ⟨fun i ρ' m' => ∃ (R : List RowG) (x9 x10 x11 x12 : Option D), StM m m' x pd pr 300 U R ∧ RowsG w gs nmT R ∧ ρ' = [some (.lst (ns.map .int)), some (.raw (.ref x)), some (.int w), some (.int W), some (.lst (gBase.map .str)), some (.int n), some (.lst (gs.map .str)), some (.raw (.ref pd)), some (.raw (.ref pr)), x9, x10, x11, x12, none, none, none, none, none, none], ⟨[], _, _, _, _, hM, ⟨by simp, rfl, rfl, by simp, by simp⟩, rfl⟩, fun _ _ _ _ => trivial, ?_, ?_⟩
    · rintro i d ρ' m' hd ⟨R, x9, x10, x11, x12, hM, hR, rfl⟩
      obtain ⟨hi, rfl⟩ := rngD_get hd
      (conv => whnf)
      refine ⟨_, ns, _, rfl, (.inr rfl), ⟨by omega, by omega, by omega⟩, fun x2 hx2 B2 hB2 => ?_⟩
      obtain ⟨hne2, hm2⟩ := hM.none hx2
      (conv => whnf)
      refine ⟨x2, 3, 0, rfl, hB2.put, ⟨by decide, by decide, by decide⟩, fun b b0 b1 B2 hB2 => ?_⟩
      rw [mset_mset]
      have hM2 := hM.oth (c := B2) hne2 hm2
      have hb2 : B3 (mset m' x2 B2) x2 1 := hB2.put.mono (by omega)
      revert hM2 hb2
      generalize mset m' x2 B2 = M2
      intro hM2 hb2
      (conv => whnf)
      refine ⟨⟨by split <;> omega, by split <;> omega⟩, ?_⟩
      (conv => whnf)
      refine ⟨fun i' ρ' m' => ∃ (R : List RowG) (x11 x12 : Option D), StM m m' x pd pr 300 U R ∧ RowsG w gs nmT R ∧ B3 m' x2 (1 + 100 * i') ∧ ρ' = [some (.lst (ns.map .int)), some (.raw (.ref x)), some (.int w), some (.int W), some (.lst (gBase.map .str)), some (.int n), some (.lst (gs.map .str)), some (.raw (.ref pd)), some (.raw (.ref pr)), some (.int (1 + (i : Nat))), some (.raw (.ref x2)), x11, x12, none, none, none, none, none, none], ⟨R, _, _, hM2, hR, by simpa using hb2, rfl⟩, fun _ _ _ _ => trivial, ?_, ?_⟩
      · rintro j d ρ' m' hd ⟨R, x11, x12, hM, hR, hb2, rfl⟩
        obtain ⟨hj, rfl⟩ := rngD_get hd
        have hj3 : j < 3 := by
          revert hj
          split <;> omega
        have hRl := hR.len
        (conv => whnf)
        refine ⟨_, hM.rr, ?_⟩
        (conv => whnf)
        rw [List.length_map]
        refine ⟨_, rfl, fun hk => ?_, fun hk => ?_⟩
        · have hk : R.length < 60 := by have := of_decide_eq_true hk; omega
          (conv => whnf)
          refine ⟨_, hM.rr, ?_⟩
          (conv => whnf)
          rw [List.length_map]
          refine ⟨⟨by decide, by decide⟩, ?_⟩
          (conv => whnf)
          have hat : atI tens.cps.toList ((R.length : Int) / 6) = some (tens.cps.toList.getD (R.length / 6) 0) := by
            have e : ((R.length : Int) / 6) = ((R.length / 6 : Nat) : Int) := by omega
            rw [e]
            refine atI_get (by omega) ?_
            have hl : tens.cps.toList.length = 10 := by decide +kernel
            rw [Int.toNat_natCast, List.getD_eq_getElem?_getD, List.getElem?_eq_getElem (by omega)]; rfl
          refine ⟨by decide +kernel, _, hat, ?_⟩
          (conv => whnf)
          refine ⟨_, hM.rr, ?_⟩
          (conv => whnf)
          rw [List.length_map]
          refine ⟨by decide, ?_⟩
          (conv => whnf)
          refine ⟨⟨by omega, by omega, Nat.le_refl 1, (by decide : (1 : Nat) ≤ 1000)⟩, ?_⟩
          have hnm : repS ⟨#[tens.cps.toList.getD (R.length / 6) 0]⟩ (1 + (R.length : Int) % 6).toNat = nmT R.length := by
            unfold nmT nmT.signOf
            congr 1
          rw [hnm]
          (conv => whnf)
          refine ⟨_, hM.rr, ?_⟩
          (conv => whnf)
          refine ⟨x2, nmT R.length, gs, w, W, 1 + 100 * j, rfl, hb2, ⟨by omega, hw1, hw8, hW1, hW2⟩, ⟨by omega, by omega, gok, nm_ok _ hk⟩, fun g hg hgn B hB => ?_⟩
          (conv => whnf)
          refine ⟨x2, 60, _, rfl, hB.put, ⟨by omega, by decide, by decide⟩, fun c c0 c1 B hB => ?_⟩
          rw [mset_mset]
          have hM3 := hM.oth (c := B) hne2 hm2
          have hb3 : B3 (mset m' x2 B) x2 (1 + 100 * ((j + 1 : Nat) : Int)) := hB.put.mono (by omega)
          revert hM3 hb3
          generalize mset m' x2 B = M3
          intro hM3 hb3
          (conv => whnf)
          refine ⟨cmL ⟨by decide, by decide⟩, ?_⟩
          (conv => whnf)
          refine ⟨_, hM3.rr, ?_⟩
          (conv => whnf)
          rw [List.length_map]
          refine ⟨_, hM3.rr, by rw [List.length_map]; omega, ?_⟩
          have e : (R.map rgD ++ [D.tup [gD g, .int (100 * c + (R.length : Nat))]]) = (R ++ [(g, 100 * c + (R.length : Nat))]).map rgD := by rw [List.map_append]; rfl
          rw [e]
          obtain ⟨B4, hx4, hB4⟩ := hb3
          refine ⟨R ++ [(g, 100 * c + (R.length : Nat))], _, _, hM3.row, ⟨fun r hr => ?_, ?_, ?_, fun r hr => ?_, ?_⟩, ⟨B4, by rw [mset_ne hne2.2.2]; exact hx4, hB4⟩, rfl⟩
          · rcases List.mem_append.mp hr with hr | hr
            · exact hR.ok r hr
            · rw [List.mem_singleton.mp hr]; exact hg
          · rw [List.map_append, hR.nm, List.length_append, List.length_singleton, List.range_succ, List.map_append]
            show _ ++ [g.name] = _ ++ [nmT R.length]
            rw [hgn]
          · rw [List.map_append, hR.told, List.length_append, List.length_singleton, List.range_succ, List.map_append]
            congr 1
            show [(100 * c + (R.length : Nat)) % 100] = [((R.length : Nat) : Int)]
            congr 1
            omega
          · rcases List.mem_append.mp hr with hr | hr
            · exact hR.tb r hr
            · rw [List.mem_singleton.mp hr]
              show 0 ≤ 100 * c + (R.length : Nat) ∧ 100 * c + ((R.length : Nat) : Int) < 6100
              omega
          · rw [List.length_append, List.length_singleton]; omega
        · exact ⟨R, _, _, hM, hR, hb2.mono (by omega), rfl⟩
      · rintro ρ' m' ⟨R, x11, x12, hM, hR, hb2, rfl⟩
        exact ⟨R, _, _, _, _, hM, hR, rfl⟩
    rintro ρ' m' ⟨R, x9, x10, x11, x12, hM, hR, rfl⟩
    (conv => whnf)
    refine .inl ?_
    (conv => whnf)
    refine ⟨x, 3, 300, rfl, hM.bx, ⟨by decide, by decide, by decide⟩, fun b b0 b1 B hB => ?_⟩
    have hM2 := hM.box hB
    revert hM2
    generalize mset m' x B = M2
    intro hM2
    (conv => whnf)
    obtain ⟨e, he, hm⟩ := ix3 (a := D.str (Str.ofString "z")) (b := .str (Str.ofString "aaaaaaa")) (c := .str (Str.ofString "zed")) b0 b1
    obtain ⟨gn, rfl, hgn, hgno⟩ : ∃ gn : Str, e = .str gn ∧ (∀ j < 60, nmT j ≠ gn) ∧ PyData.strOk gn = true := by
      rcases hm with rfl | rfl | rfl
      · exact ⟨_, rfl, fun j hj => (nm_out j hj).1, by decide +kernel⟩
      · exact ⟨_, rfl, fun j hj => (nm_out j hj).2.1, by decide +kernel⟩
      · exact ⟨_, rfl, fun j hj => (nm_out j hj).2.2, by decide +kernel⟩
    refine ⟨_, he, ?_⟩
    (conv => whnf)
    refine ⟨x, gn, gs, w, W, 300 + 1, rfl, hM2.bx, ⟨by decide, hw1, hw8, hW1, hW2⟩, ⟨by omega, by omega, gok, hgno⟩, fun g hg hgnm B hB => ?_⟩
    have hM3 := hM2.box hB
    have hM3 : StM m (mset M2 x B) x pd pr (400 + 30 * ((0 : Nat) : Int)) U R := ⟨hM3.up, hM3.bx.mono (by omega), hM3.dd, hM3.rr, hM3.fr, hM3.ne⟩
    revert hM3
    generalize mset M2 x B = M3
    intro hM3
    (conv => whnf)
    refine foN gs D.str (fun i ρ' m' => ∃ (U : Dues) (x14 x15 x16 : Option D), StM m m' x pd pr (400 + 30 * i) U R ∧ DuesOk w gs U ∧ ρ' = [some (.lst (ns.map .int)), some (.raw (.ref x)), some (.int w), some (.int W), some (.lst (gBase.map .str)), some (.int n), some (.lst (gs.map .str)), some (.raw (.ref pd)), some (.raw (.ref pr)), x9, x10, x11, x12, some (gD g), x14, x15, x16, none, none]) rfl ⟨U, _, _, _, hM3, hU, rfl⟩ (fun _ _ _ _ => trivial) ?_ ?_
    · rintro i y ρ' m' hy ⟨U, x14, x15, x16, hM, hU, rfl⟩
      have hi : i < gs.length := (List.getElem?_eq_some_iff.mp hy).1
      have hym := List.mem_of_getElem? hy
      have hRl := hR.len
      (conv => whnf)
      refine ⟨_, hM.rr, ?_⟩
      refine lcN R rgD (fun r => decide (r.1.guild = y)) (fun r => gD r.1) rfl (by omega) hM.rr (fun r hr => ⟨fun R2 r2 => ?_, fun _ R2 r2 => ?_⟩) (.inl ?_)
      · (conv => whnf)
        refine ⟨_, rfl, ?_⟩
        (conv => whnf)
        refine ⟨_, rfl, ?_⟩
        (conv => whnf)
        exact ⟨_, rfl, r2⟩
      · (conv => whnf)
        exact ⟨_, rfl, r2⟩
      (conv => whnf)
      refine ⟨x, 6, 400 + 30 * i, rfl, hM.bx, ⟨by omega, by decide, by decide⟩, fun b b0 b1 B hB => ?_⟩
      have hM2 := hM.box hB
      revert hM2
      generalize mset m' x B = M2
      intro hM2
      obtain ⟨c, rfl, hc⟩ : ∃ c : Nat, b = (c : Int) ∧ c < 6 := ⟨b.toNat, by omega, by omega⟩
      (conv => whnf)
      rw [cutH]
      refine .inl ?_
      (conv => whnf)
      refine .inl ?_
      (conv => whnf)
      refine ⟨_, rfl, ?_⟩
      (conv => whnf)
      obtain ⟨c2, hc2⟩ : ∃ c2 : Nat, (if decide (y = g.guild) = true then (1 : Int) else 0) = (c2 : Int) := by
        split
        · exact ⟨1, rfl⟩
        · exact ⟨0, rfl⟩
      rw [hc2, cutH]
      refine .inl ?_
      (conv => whnf)
      have hfs : ((R.filter fun r => decide (r.1.guild = y)).map fun r => gD r.1).take c ++ [gD g].take c2 = (((R.filter fun r => decide (r.1.guild = y)).map (·.1)).take c ++ [g].take c2).map gD := by
        rw [List.map_append, List.map_take, List.map_take, List.map_map]; rfl
      have hfo : ∀ a ∈ ((R.filter fun r => decide (r.1.guild = y)).map (·.1)).take c ++ [g].take c2, GangOk w gs a := fun a ha => by
        rcases List.mem_append.mp ha with ha | ha
        · obtain ⟨r, hr, rfl⟩ := List.mem_map.mp (List.mem_of_mem_take ha)
          exact hR.ok r (List.mem_filter.mp hr).1
        · rw [List.mem_singleton.mp (List.mem_of_mem_take ha)]; exact hg
      have hfl : (((R.filter fun r => decide (r.1.guild = y)).map (·.1)).take c ++ [g].take c2).length ≤ 7 := by
        rw [List.length_append, List.length_take, List.length_take]; simp; omega
      have hl2 : (((R.filter fun r => decide (r.1.guild = y)).map fun r => gD r.1).take c).length + ([gD g].take c2).length ≤ 100000 := by
        rw [List.length_take, List.length_take]; simp; omega
      refine ⟨hl2, .inl ?_⟩
      rw [hfs]
      revert hfo hfl
      generalize ((R.filter fun r => decide (r.1.guild = y)).map (·.1)).take c ++ [g].take c2 = fs
      intro hfo hfl
      (conv => whnf)
      refine ⟨⟨by omega, by omega⟩, ?_⟩
      (conv => whnf)
      refine lcNM (List.range w) (fun k => D.int (0 + (k : Nat))) (fun k => .int (fs.map fun a => a.many * a.want.getD k 0).sum) rfl (by rw [List.length_range]; omega) trivial (fun k hk R2 r2 => ?_) (.inl ?_)
      · have hkw := List.mem_range.mp hk
        (conv => whnf)
        refine lcNM fs gD (fun a => .int (a.many * a.want.getD k 0)) rfl (by omega) trivial (fun a ha R3 r3 => ?_) (.inl ?_)
        · have hao := hfo a ha
          have hkl : k < a.want.length := by rw [hao.lw]; exact hkw
          (conv => whnf)
          refine ⟨_, rfl, ?_⟩
          (conv => whnf)
          refine ⟨_, rfl, ?_⟩
          (conv => whnf)
          refine ⟨.int (a.want.getD k 0), atI_get (by omega) ?_, ?_⟩
          · rw [List.getElem?_map, show (0 + (k : Int)).toNat = k by omega, List.getD_eq_getElem?_getD, List.getElem?_eq_getElem hkl]; rfl
          (conv => whnf)
          exact ⟨cmL ⟨by have := hao.many.1; omega, by have := hao.many.2; omega⟩, r3⟩
        (conv => whnf)
        refine ⟨fs.map fun a => a.many * a.want.getD k 0, by rw [List.map_map]; rfl, r2⟩
      (conv => whnf)
      have hbs : ((List.range w).map fun k => D.int (fs.map fun a => a.many * a.want.getD k 0).sum) = ((List.range w).map fun k => (fs.map fun a => a.many * a.want.getD k 0).sum).map .int := by rw [List.map_map]; rfl
      have hbl : ((List.range w).map fun k => (fs.map fun a => a.many * a.want.getD k 0).sum).length = w := by rw [List.length_map, List.length_range]
      have hb0 : ∀ v ∈ (List.range w).map fun k => (fs.map fun a => a.many * a.want.getD k 0).sum, 0 ≤ v := fun v hv => by
        obtain ⟨k, hk, rfl⟩ := List.mem_map.mp hv
        refine sumNN fun u hu => ?_
        obtain ⟨a, ha, rfl⟩ := List.mem_map.mp hu
        have hao := hfo a ha
        have hkl : k < a.want.length := by rw [hao.lw]; exact List.mem_range.mp hk
        rw [List.getD_eq_getElem?_getD, List.getElem?_eq_getElem hkl]
        exact Int.mul_nonneg (by have := hao.many.1; omega) (hao.pos _ (List.getElem_mem hkl)).1
      rw [hbs]
      revert hbl hb0
      generalize (List.range w).map (fun k => (fs.map fun a => a.many * a.want.getD k 0).sum) = bs
      intro hbl hb0
      refine ⟨x, 3, 400 + 30 * i + 1, rfl, hM2.bx, ⟨by omega, by decide, by decide⟩, fun d d0 d1 B hB => ?_⟩
      have hM3 := hM2.box hB
      have hM3 : StM m (mset M2 x B) x pd pr (400 + 30 * ((i + 1 : Nat) : Int)) U R := ⟨hM3.up, hM3.bx.mono (by omega), hM3.dd, hM3.rr, hM3.fr, hM3.ne⟩
      revert hM3
      generalize mset M2 x B = M3
      intro hM3
      (conv => whnf)
      refine ⟨_, rfl, .inr ⟨fun _ => ?_, fun _ => ?_⟩⟩
      · (conv => whnf)
        refine ⟨bs, rfl, by omega, fun z hz hzm => ?_⟩
        (conv => whnf)
        refine ⟨_, rfl, fun hk => ?_, fun hk => ?_⟩
        · have hk : z ≤ 1000000000000 := of_decide_eq_true hk
          (conv => whnf)
          refine ⟨_, hM3.dd, by rw [kvs_len]; have := congrArg List.length hU.keys; rw [List.length_map] at this; omega, ?_⟩
          have hput : putD (duesK U) (.inr y) (amtD bs) = duesK (U.map fun e => if e.1 = y then (e.1, bs) else e) := by
            unfold duesK
            rw [put_has (by rw [hU.keys]; exact hym)]
            unfold kvs
            rw [List.map_map]
            refine List.map_congr_left fun e _ => ?_
            dsimp only [Function.comp]
            by_cases c : e.1 = y
            · rw [if_pos c, if_pos c]
            · rw [if_neg c, if_neg c]
          have hput : putD (duesK U) (.inr y) (D.tup (bs.map .int)) = duesK (U.map fun e => if e.1 = y then (e.1, bs) else e) := hput
          rw [hput]
          refine ⟨_, _, _, _, hM3.due, ⟨?_, fun e he => ?_⟩, rfl⟩
          · rw [← hU.keys, List.map_map]
            refine List.map_congr_left fun e _ => ?_
            dsimp only [Function.comp]
            split <;> rfl
          · obtain ⟨f, hf, rfl⟩ := List.mem_map.mp he
            by_cases c : f.1 = y
            · rw [if_pos c]
              exact ⟨hbl, fun v hv => ⟨hb0 v hv, by have := hzm v hv; omega⟩⟩
            · rw [if_neg c]; exact hU.ok f hf
        · exact ⟨U, _, _, _, hM3, hU, rfl⟩
      · refine ⟨_, rfl, fun c => (by cases c), fun _ => ?_⟩
        exact ⟨U, _, _, _, hM3, hU, rfl⟩
    · rintro ρ' m' ⟨U, x14, x15, x16, hM, hU, rfl⟩
      (conv => whnf)
      have ho : g.name ∉ R.map (·.1.name) := fun c => by
        rw [hR.nm] at c
        obtain ⟨j, hj, e⟩ := List.mem_map.mp c
        have := List.mem_range.mp hj
        have := hR.len
        exact hgn j (by omega) (e.trans hgnm)
      refine ⟨_, _, VwD.tupFreeze hM.rr, q (mdel m' pr) pd w gs U R g (fun a c e => ?_) ?_ ⟨hw1, hw8, gnd, gok, glen, hU, hR, hg, ho⟩⟩
      · have : a ≠ pr := by rintro rfl; rw [hM.fr.2.2] at e; cases e
        rw [mdel_ne this]
        exact hM.up a c e
      · rw [mdel_ne hM.ne.2.2]
        exact hM.dd

end My
namespace My
open PySem PySem.Spec L2 Nu
open PyProof.Rows hiding St
/-! ### _law_guild_d854 -/
def a__law_guild_d854 : ASp := fun ss m P _ => ∃ (R : List RowG) (y : Str), ss = [rgsD R, .str y] ∧ R.length ≤ 1000 ∧ P (rgsD (R.filter fun r => decide (r.1.guild = y))) m
theorem len__law_guild_d854 : ∀ ss m P Z, a__law_guild_d854 ss m P Z → ss.length = 2 := by
  rintro _ m P Z ⟨a, b, rfl, _⟩; rfl
abbrev n__law_guild_d854 : List Str := ["_law_rows", "_law_guild_here", "_law_row"]
theorem nd__law_guild_d854 : (n__law_guild_d854).Nodup := by decide +kernel
def u__law_guild_d854 : SS :=
  (.cons (.ret (.lc (.name 2) isVal (.cons (.var 0) .nil) (.cons (.bop sEq (.cons (.bop sIx (.cons (.bop sIx (.cons (.var 2) (.cons (.cst (.int 0)) .nil))) (.cons (.cst (.int 1)) .nil))) (.cons (.var 1) .nil))) .nil) (.var 2)))
  .nil)
theorem body__law_guild_d854 : ∀ (ss : List D) (m : MS) (P : NX) (Z : EZ), a__law_guild_d854 ss m P Z → WB u__law_guild_d854 (startR n__law_guild_d854 ss) m (bodyE P Z) := by
  rintro _ m P Z ⟨R, y, rfl, hl, q⟩
  (conv => whnf)
  refine lcN R rgD (fun r => decide (r.1.guild = y)) rgD rfl (by omega) trivial (fun r hr => ⟨fun R2 r2 => ?_, fun _ R2 r2 => ?_⟩) (.inl ?_)
  · (conv => whnf)
    refine ⟨_, rfl, ?_⟩
    (conv => whnf)
    refine ⟨_, rfl, ?_⟩
    (conv => whnf)
    exact ⟨_, rfl, r2⟩
  · (conv => whnf)
    exact r2
  exact ret q

end My
namespace My
open PySem PySem.Spec L2 Nu
open PyProof.Rows hiding St
/-! ### amount_fits -/
def a_amount_fits : ASp := fun ss m P _ => ∃ a b : List Int, ss = [amtD a, amtD b] ∧ a.length ≤ 1000 ∧ P (.bl ((List.zip a b).all fun p => decide (p.1 ≤ p.2))) m
theorem len_amount_fits : ∀ ss m P Z, a_amount_fits ss m P Z → ss.length = 2 := by
  rintro _ m P Z ⟨a, b, rfl, _⟩; rfl
abbrev n_amount_fits : List Str := ["one", "other", "a", "b"]
theorem nd_amount_fits : (n_amount_fits).Nodup := by decide +kernel
def u_amount_fits : SS :=
  (.cons (.ret (.bop sAll (.cons (.lc (.tup (.cons (.name 2) (.cons (.name 3) .nil))) isZip (.cons (.var 0) (.cons (.var 1) .nil)) .nil (.bop (sCmp .le) (.cons (.var 2) (.cons (.var 3) .nil)))) .nil)))
  .nil)
theorem body_amount_fits : ∀ (ss : List D) (m : MS) (P : NX) (Z : EZ), a_amount_fits ss m P Z → WB u_amount_fits (startR n_amount_fits ss) m (bodyE P Z) := by
  rintro _ m P Z ⟨a, b, rfl, hl, q⟩
  (conv => whnf)
  refine lcM (a.zip b) (fun p => D.tup [.int p.1, .int p.2]) (fun p => .bl (decide (p.1 ≤ p.2))) zipD_map (by rw [List.length_zip]; omega) ⟨trivial, trivial⟩ (fun x hx => ⟨_, rfl, fun R r => by (conv => whnf); exact r⟩) (.inl ?_)
  (conv => whnf)
  refine ⟨(a.zip b).map fun p => decide (p.1 ≤ p.2), by rw [List.map_map]; rfl, ret ?_⟩
  have e : ((a.zip b).map fun p => decide (p.1 ≤ p.2)).all id = (a.zip b).all fun p => decide (p.1 ≤ p.2) := by rw [List.all_map]; rfl
  rw [e]; exact q

end My
namespace My
open PySem PySem.Spec L2 Nu
open PyProof.Rows hiding St
/-! ### amount_sum -/
def a_amount_sum : ASp := fun ss m P _ => ∃ a b : List Int, ss = [amtD a, amtD b] ∧ a.length ≤ 1000 ∧ P (amtD (List.zipWith (· + ·) a b)) m
theorem len_amount_sum : ∀ ss m P Z, a_amount_sum ss m P Z → ss.length = 2 := by
  rintro _ m P Z ⟨a, b, rfl, _⟩; rfl
abbrev n_amount_sum : List Str := ["one", "other", "a", "b"]
theorem nd_amount_sum : (n_amount_sum).Nodup := by decide +kernel
def u_amount_sum : SS :=
  (.cons (.ret (.bop sToTup (.cons (.lc (.tup (.cons (.name 2) (.cons (.name 3) .nil))) isZip (.cons (.var 0) (.cons (.var 1) .nil)) .nil (.bop sAdd (.cons (.var 2) (.cons (.var 3) .nil)))) .nil)))
  .nil)
theorem body_amount_sum : ∀ (ss : List D) (m : MS) (P : NX) (Z : EZ), a_amount_sum ss m P Z → WB u_amount_sum (startR n_amount_sum ss) m (bodyE P Z) := by
  rintro _ m P Z ⟨a, b, rfl, hl, q⟩
  (conv => whnf)
  refine lcM (a.zip b) (fun p => D.tup [.int p.1, .int p.2]) (fun p => .int (p.1 + p.2)) zipD_map (by rw [List.length_zip]; omega) ⟨trivial, trivial⟩ (fun x hx => ⟨_, rfl, fun R r => by (conv => whnf); exact r⟩) (.inl ?_)
  (conv => whnf)
  refine ret ?_
  rw [zipW_map (f := (· + ·)) a b]; exact q

end My
namespace My
open PySem PySem.Spec L2 Nu
open PyProof.Rows hiding St
/-! ### amount_times -/
def a_amount_times : ASp := fun ss m P _ => ∃ (a : List Int) (n : Int), ss = [amtD a, .int n] ∧ a.length ≤ 1000 ∧ (-(2 ^ 64) < n ∧ n < 2 ^ 64) ∧ P (amtD (a.map fun v => v * n)) m
theorem len_amount_times : ∀ ss m P Z, a_amount_times ss m P Z → ss.length = 2 := by
  rintro _ m P Z ⟨a, b, rfl, _⟩; rfl
abbrev n_amount_times : List Str := ["one", "n", "a"]
theorem nd_amount_times : (n_amount_times).Nodup := by decide +kernel
def u_amount_times : SS :=
  (.cons (.ret (.bop sToTup (.cons (.lc (.name 2) isVal (.cons (.var 0) .nil) .nil (.bop sMul (.cons (.var 2) (.cons (.var 1) .nil)))) .nil)))
  .nil)
theorem body_amount_times : ∀ (ss : List D) (m : MS) (P : NX) (Z : EZ), a_amount_times ss m P Z → WB u_amount_times (startR n_amount_times ss) m (bodyE P Z) := by
  rintro _ m P Z ⟨a, n, rfl, hl, hn, q⟩
  (conv => whnf)
  refine lcNM a D.int (fun v => .int (v * n)) rfl (by omega) trivial (fun v hv R r => ?_) (.inl ?_)
  · (conv => whnf)
    exact ⟨.inr hn, r⟩
  (conv => whnf)
  have e : (a.map fun v => D.int (v * n)) = (a.map fun v => v * n).map .int := by rw [List.map_map]; rfl
  rw [e]
  exact ret q

end My
namespace My
open PySem PySem.Spec L2 Nu
open PyProof.Rows hiding St
/-! ### prt -/
/-! ### own and lent -/
def wholeG (g : Gang) : List Int := g.want.map fun v => v * g.many
def sumL (a b : List Int) : List Int := List.zipWith (· + ·) a b
def fitsL (a b : List Int) : Bool := (List.zip a b).all fun p => decide (p.1 ≤ p.2)
structure Prt where
  own : List Str
  lent : List Str
  borne : List Int
def stepP (due : List Int) (s : Prt) (g : Gang) : Prt := if fitsL (sumL s.borne (wholeG g)) due then ⟨s.own ++ [g.name], s.lent, sumL s.borne (wholeG g)⟩ else ⟨s.own, s.lent ++ [g.name], s.borne⟩
def prt0 (due : List Int) : Prt := ⟨[], [], List.replicate due.length 0⟩
def prtT (due : List Int) (L : List Gang) : Prt := L.foldl (stepP due) (prt0 due)
theorem prt_snoc (due : List Int) (L : List Gang) (g : Gang) : prtT due (L ++ [g]) = stepP due (prtT due L) g := by unfold prtT; rw [List.foldl_append]; rfl
theorem sumL_len {a b : List Int} (h : b.length = a.length) : (sumL a b).length = a.length := by unfold sumL; rw [List.length_zipWith, h, Nat.min_self]
theorem pstep_len {due : List Int} {s : Prt} {g : Gang} (h : s.borne.length = due.length) (hg : g.want.length = due.length) : (stepP due s g).borne.length = due.length ∧ (stepP due s g).own.length + (stepP due s g).lent.length = s.own.length + s.lent.length + 1 := by
  unfold stepP
  split
  · exact ⟨by rw [sumL_len (by unfold wholeG; rw [List.length_map]; omega)]; exact h, by simp; omega⟩
  · exact ⟨h, by simp; omega⟩
theorem pgo_len {due : List Int} : ∀ (L : List Gang) (s : Prt), s.borne.length = due.length → (∀ g ∈ L, g.want.length = due.length) → (L.foldl (stepP due) s).borne.length = due.length ∧ (L.foldl (stepP due) s).own.length + (L.foldl (stepP due) s).lent.length = s.own.length + s.lent.length + L.length
  | [], s, h, _ => ⟨h, rfl⟩
  | g :: L, s, h, hg => by
    obtain ⟨h1, h2⟩ := pstep_len (g := g) h (hg g (List.mem_cons_self ..))
    obtain ⟨h3, h4⟩ := pgo_len L (stepP due s g) h1 fun a ha => hg a (List.mem_cons_of_mem _ ha)
    exact ⟨h3, by rw [List.foldl_cons, h4, h2, List.length_cons]; omega⟩
theorem prt_len {due : List Int} {L : List Gang} (h : ∀ g ∈ L, g.want.length = due.length) : (prtT due L).borne.length = due.length ∧ (prtT due L).own.length + (prtT due L).lent.length = L.length := by
  obtain ⟨h1, h2⟩ := pgo_len L (prt0 due) (by unfold prt0; simp) h
  exact ⟨h1, by unfold prtT; rw [h2]; unfold prt0; simp⟩
theorem pstep_names {due : List Int} {s : Prt} {g : Gang} {Q : Str → Prop} (h : (∀ y ∈ s.own, Q y) ∧ ∀ y ∈ s.lent, Q y) (hg : Q g.name) : (∀ y ∈ (stepP due s g).own, Q y) ∧ ∀ y ∈ (stepP due s g).lent, Q y := by
  unfold stepP
  split
  · refine ⟨fun y hy => ?_, h.2⟩
    rcases List.mem_append.mp hy with hy | hy
    · exact h.1 y hy
    · rw [List.mem_singleton.mp hy]; exact hg
  · refine ⟨h.1, fun y hy => ?_⟩
    rcases List.mem_append.mp hy with hy | hy
    · exact h.2 y hy
    · rw [List.mem_singleton.mp hy]; exact hg
theorem prt_names {due : List Int} {Q : Str → Prop} : ∀ (L : List Gang) (s : Prt), ((∀ y ∈ s.own, Q y) ∧ ∀ y ∈ s.lent, Q y) → (∀ g ∈ L, Q g.name) → (∀ y ∈ (L.foldl (stepP due) s).own, Q y) ∧ ∀ y ∈ (L.foldl (stepP due) s).lent, Q y
  | [], _, h, _ => h
  | g :: L, s, h, hg => prt_names L (stepP due s g) (pstep_names h (hg g (List.mem_cons_self ..))) fun a ha => hg a (List.mem_cons_of_mem _ ha)
/-- a share in the store -/
structure ShAt (m : MS) (p po pl : Addr) (due : List Int) (s : Prt) : Prop where
  ins : m p = some (.ins .Share [amtD due, amtD s.borne, .raw (.ref po), .raw (.ref pl)])
  own : m po = some (.lst (s.own.map .str))
  lent : m pl = some (.lst (s.lent.map .str))
  ne : po ≠ p ∧ pl ≠ p ∧ po ≠ pl
def OthP (m m' : MS) (p po pl : Addr) : Prop := ∀ a, a ≠ p → a ≠ po → a ≠ pl → m' a = m a
theorem range_sum {a b : List Int} {n : Nat} {c : Int} (ha : a.length = n) (hb : b.length = n) : (List.range n).map (fun k => D.int (a.getD k 0 + c * b.getD k 0)) = (sumL a (b.map fun v => v * c)).map .int := by
  refine List.ext_getElem? fun i => ?_
  unfold sumL
  by_cases hi : i < n
  · have hia : i < a.length := by omega
    have hib : i < b.length := by omega
    have ea : a.getD i 0 = a[i] := by rw [List.getD_eq_getElem?_getD, List.getElem?_eq_getElem hia]; rfl
    have eb : b.getD i 0 = b[i] := by rw [List.getD_eq_getElem?_getD, List.getElem?_eq_getElem hib]; rfl
    rw [List.getElem?_map, List.getElem?_range hi, List.getElem?_map, List.getElem?_zipWith, List.getElem?_map, List.getElem?_eq_getElem hia, List.getElem?_eq_getElem hib]
    show some (D.int (a.getD i 0 + c * b.getD i 0)) = some (D.int (a[i] + b[i] * c))
    rw [ea, eb, Int.mul_comm]
  · rw [List.getElem?_eq_none (by rw [List.length_map, List.length_range]; omega), List.getElem?_eq_none (by rw [List.length_map, List.length_zipWith, List.length_map]; omega)]
theorem range_fits {a b : List Int} {n : Nat} (ha : a.length = n) (hb : b.length = n) : ((List.range n).map fun k => decide (a.getD k 0 ≤ b.getD k 0)).all id = fitsL a b := by
  rw [Bool.eq_iff_iff]
  unfold fitsL
  rw [List.all_map, List.all_eq_true, List.all_eq_true]
  constructor
  · intro h p hp
    obtain ⟨i, hi⟩ := List.getElem?_of_mem hp
    rw [List.getElem?_zip_eq_some] at hi
    have hin : i < n := by have := (List.getElem?_eq_some_iff.mp hi.1).1; omega
    have := h i (List.mem_range.mpr hin)
    dsimp only [Function.comp, id] at this
    rw [List.getD_eq_getElem?_getD, List.getD_eq_getElem?_getD, hi.1, hi.2] at this
    exact this
  · intro h k hk
    have hk := List.mem_range.mp hk
    dsimp only [Function.comp, id]
    rw [List.getD_eq_getElem?_getD, List.getD_eq_getElem?_getD, List.getElem?_eq_getElem (by omega), List.getElem?_eq_getElem (by omega)]
    exact h (a[k], b[k]) (List.mem_of_getElem? (i := k) (List.getElem?_zip_eq_some.mpr ⟨List.getElem?_eq_getElem (by omega), List.getElem?_eq_getElem (by omega)⟩))

end My
namespace My
open PySem PySem.Spec L2 Nu
open PyProof.Rows hiding St
/-! ### whole_of -/
def a_whole_of : ASp := fun ss m P _ => ∃ g : Gang, ss = [gD g] ∧ g.want.length ≤ 1000 ∧ (1 ≤ g.many ∧ g.many ≤ 60) ∧ P (amtD (wholeG g)) m
theorem len_whole_of : ∀ ss m P Z, a_whole_of ss m P Z → ss.length = 1 := by
  rintro _ m P Z ⟨a, rfl, _⟩; rfl
abbrev n_whole_of : List Str := ["gang"]
theorem nd_whole_of : (n_whole_of).Nodup := by decide +kernel
def u_whole_of : SS :=
  (.cons (.ret (.call a_amount_times (.cons (.bop sIx (.cons (.var 0) (.cons (.cst (.int 4)) .nil))) (.cons (.bop sIx (.cons (.var 0) (.cons (.cst (.int 3)) .nil))) .nil))))
  .nil)
theorem body_whole_of : ∀ (ss : List D) (m : MS) (P : NX) (Z : EZ), a_whole_of ss m P Z → WB u_whole_of (startR n_whole_of ss) m (bodyE P Z) := by
  rintro _ m P Z ⟨g, rfl, hl, hn, q⟩
  (conv => whnf)
  refine ⟨_, rfl, ?_⟩
  (conv => whnf)
  refine ⟨_, rfl, ?_⟩
  (conv => whnf)
  refine ⟨g.want, g.many, rfl, hl, ⟨by omega, by omega⟩, ?_⟩
  exact ret q

end My
namespace My
open PySem PySem.Spec L2 Nu
open PyProof.Rows hiding St
/-! ### Share_has_room_for -/
def a_Share_has_room_for : ASp := fun ss m P _ => ∃ (p po pl : Addr) (due : List Int) (s : Prt) (g : Gang), ss = [.raw (.ref p), gD g] ∧ ShAt m p po pl due s ∧ (g.want.length ≤ 1000 ∧ s.borne.length ≤ 1000) ∧ (1 ≤ g.many ∧ g.many ≤ 60) ∧ P (.bl (fitsL (sumL s.borne (wholeG g)) due)) m
theorem len_Share_has_room_for : ∀ ss m P Z, a_Share_has_room_for ss m P Z → ss.length = 2 := by
  rintro _ m P Z ⟨a, b, c, d, e, f, rfl, _⟩; rfl
abbrev n_Share_has_room_for : List Str := ["self", "gang"]
theorem nd_Share_has_room_for : (n_Share_has_room_for).Nodup := by decide +kernel
def u_Share_has_room_for : SS :=
  (.cons (.ret (.call a_amount_fits (.cons (.call a_amount_sum (.cons (.bop (sFld .borne) (.cons (.var 0) .nil)) (.cons (.call a_whole_of (.cons (.var 1) .nil)) .nil))) (.cons (.bop (sFld .due) (.cons (.var 0) .nil)) .nil))))
  .nil)
theorem body_Share_has_room_for : ∀ (ss : List D) (m : MS) (P : NX) (Z : EZ), a_Share_has_room_for ss m P Z → WB u_Share_has_room_for (startR n_Share_has_room_for ss) m (bodyE P Z) := by
  rintro _ m P Z ⟨p, po, pl, due, s, g, rfl, h, ⟨hl, hbl⟩, hn, q⟩
  (conv => whnf)
  refine ⟨_, _, h.ins, ?_⟩
  (conv => whnf)
  refine ⟨g, rfl, hl, hn, ?_⟩
  (conv => whnf)
  refine ⟨s.borne, wholeG g, rfl, hbl, ?_⟩
  (conv => whnf)
  refine ⟨_, _, h.ins, ?_⟩
  (conv => whnf)
  refine ⟨_, due, rfl, by have := List.length_zipWith (f := (· + ·)) (l₁ := s.borne) (l₂ := wholeG g); omega, ?_⟩
  exact ret q

end My
namespace My
open PySem PySem.Spec L2 Nu
open PyProof.Rows hiding St
/-! ### nothing_of -/
def a_nothing_of : ASp := fun ss m P _ => ∃ w : Nat, ss = [.int w] ∧ 1 ≤ w ∧ w ≤ 1000 ∧ P (amtD (List.replicate w 0)) m
theorem len_nothing_of : ∀ ss m P Z, a_nothing_of ss m P Z → ss.length = 1 := by
  rintro _ m P Z ⟨w, rfl, _⟩; rfl
abbrev n_nothing_of : List Str := ["wares"]
theorem nd_nothing_of : (n_nothing_of).Nodup := by decide +kernel
def u_nothing_of : SS :=
  (.cons (.ret (.bop sMul (.cons (.bop sTup (.cons (.cst (.int 0)) .nil)) (.cons (.var 0) .nil))))
  .nil)
theorem body_nothing_of : ∀ (ss : List D) (m : MS) (P : NX) (Z : EZ), a_nothing_of ss m P Z → WB u_nothing_of (startR n_nothing_of ss) m (bodyE P Z) := by
  rintro _ m P Z ⟨w, rfl, h1, h2, q⟩
  (conv => whnf)
  refine ⟨⟨by omega, by omega, by simp, by decide⟩, ret ?_⟩
  have e : repL (w : Int) [D.int 0] = (List.replicate w 0).map .int := by
    unfold repL
    rw [Int.toNat_natCast, List.map_replicate]
    clear q h1 h2
    induction w with
    | zero => rfl
    | succ n ih => rw [List.replicate_succ, List.replicate_succ, List.flatten_cons, ih]; rfl
  rw [e]; exact q

end My
namespace My
open PySem PySem.Spec L2 Nu
open PyProof.Rows hiding St
/-! ### stands_by -/

def a_stands_by : ASp := fun ss m P _ => ∃ r : RowG, ss = [rgD r] ∧ P (keyG r) m
theorem len_stands_by : ∀ ss m P Z, a_stands_by ss m P Z → ss.length = 1 := by
  rintro _ m P Z ⟨a, rfl, _⟩; rfl
abbrev n_stands_by : List Str := ["row"]
theorem nd_stands_by : (n_stands_by).Nodup := by decide +kernel
def u_stands_by : SS :=
  (.cons (.ret (.bop sTup (.cons (.bop sNeg (.cons (.bop sIx (.cons (.bop sIx (.cons (.var 0) (.cons (.cst (.int 0)) .nil))) (.cons (.cst (.int 2)) .nil))) .nil)) (.cons (.bop sIx (.cons (.var 0) (.cons (.cst (.int 1)) .nil))) .nil))))
  .nil)
theorem body_stands_by : ∀ (ss : List D) (m : MS) (P : NX) (Z : EZ), a_stands_by ss m P Z → WB u_stands_by (startR n_stands_by ss) m (bodyE P Z) := by
  rintro _ m P Z ⟨r, rfl, q⟩
  (conv => whnf)
  refine ⟨_, rfl, ?_⟩
  (conv => whnf)
  refine ⟨_, rfl, ?_⟩
  (conv => whnf)
  refine ⟨_, rfl, ?_⟩
  (conv => whnf)
  exact ret q

end My
namespace My
open PySem PySem.Spec L2 Nu
open PyProof.Rows hiding St
/-! ### in_order -/
def a_in_order : ASp := fun ss m P _ => ∃ (d : D) (R : List RowG), ss = [d] ∧ (d = rgsD R ∨ ∃ a, d = .raw (.ref a) ∧ m a = some (.lst (R.map rgD))) ∧ R.length ≤ 100000 ∧ NewL ((ordG R).map fun r => gD r.1) m P
theorem len_in_order : ∀ ss m P Z, a_in_order ss m P Z → ss.length = 1 := by
  rintro _ m P Z ⟨a, b, rfl, _⟩; rfl
theorem newL_ret {ds : List D} {m : MS} {P : NX} (h : NewL ds m P) : NewL ds m fun d m' => Ret P d m' := by
  rcases h with h | h
  · exact .inl (ret h)
  · exact .inr fun p hp => ret (h p hp)
abbrev n_in_order : List Str := ["rows", "row"]
theorem nd_in_order : (n_in_order).Nodup := by decide +kernel
def u_in_order : SS :=
  (.cons (.ret (.lc (.name 1) isVal (.cons (.bop (sSortK a_stands_by) (.cons (.var 0) .nil)) .nil) .nil (.bop sIx (.cons (.var 1) (.cons (.cst (.int 0)) .nil)))))
  .nil)
theorem body_in_order : ∀ (ss : List D) (m : MS) (P : NX) (Z : EZ), a_in_order ss m P Z → WB u_in_order (startR n_in_order ss) m (bodyE P Z) := by
  rintro _ m P Z ⟨d, R, rfl, hd, hl, q⟩
  have hkey : ∀ (i : Nat) (x d : D), (R.map rgD)[i]? = some x → (R.map keyG)[i]? = some d → a_stands_by [x] m (fun d' m' => d' = d ∧ m' = m) EZ0 := fun i x d hx hd => by
    rw [List.getElem?_map] at hx hd
    obtain ⟨r, hr, rfl⟩ := Option.map_eq_some_iff.mp hx
    obtain ⟨r2, hr2, rfl⟩ := Option.map_eq_some_iff.mp hd
    rw [hr] at hr2; cases hr2
    exact ⟨r, rfl, rfl, rfl⟩
  have fin : ∀ (P2 : NX), NewL ((ordG R).map rgD) m P2 → ∃ ks : List D, (R.map rgD).length = ks.length ∧ (plDs 40 ks = true ∧ PySem.W.AllAlike (ks.map toPy) ∧ PySem.W.Sortable (ks.map toPy)) ∧ (∀ (i : Nat) (x d : D), (R.map rgD)[i]? = some x → ks[i]? = some d → a_stands_by [x] m (fun d' m' => d' = d ∧ m' = m) EZ0) ∧ NewL (srtKD (R.map rgD) ks) m P2 := fun P2 h => ⟨R.map keyG, by rw [List.length_map, List.length_map], ⟨pl_keys R, keys_alike R, keys_srt R⟩, hkey, by rw [srtKD_map]; exact h⟩
  have hol : (ordG R).length ≤ 100000 := by rw [(ordG_perm R).length_eq]; exact hl
  rcases hd with rfl | ⟨a, rfl, ha⟩
  · (conv => whnf)
    refine fin _ (.inl ?_)
    (conv => whnf)
    refine lcNM (ordG R) rgD (fun r => gD r.1) rfl hol trivial (fun r hr R2 r2 => ?_) ?_
    · (conv => whnf)
      exact ⟨_, rfl, r2⟩
    exact newL_ret q
  · (conv => whnf)
    refine ⟨_, ha, fin _ (.inl ?_)⟩
    (conv => whnf)
    refine lcNM (ordG R) rgD (fun r => gD r.1) rfl hol trivial (fun r hr R2 r2 => ?_) ?_
    · (conv => whnf)
      exact ⟨_, rfl, r2⟩
    exact newL_ret q

end My
namespace My
open PySem PySem.Spec L2 Nu
open PyProof.Rows hiding St
/-! ### Share_add_gang -/
def a_Share_add_gang : ASp := fun ss m P _ => ∃ (p po pl : Addr) (due : List Int) (s : Prt) (g : Gang), ss = [.raw (.ref p), gD g] ∧ ShAt m p po pl due s ∧ (g.want.length ≤ 1000 ∧ s.borne.length ≤ 1000 ∧ s.own.length < 1000 ∧ s.lent.length < 1000) ∧ (1 ≤ g.many ∧ g.many ≤ 60) ∧ ∀ m', ShAt m' p po pl due (stepP due s g) → OthP m m' p po pl → P .non m'
theorem len_Share_add_gang : ∀ ss m P Z, a_Share_add_gang ss m P Z → ss.length = 2 := by
  rintro _ m P Z ⟨a, b, c, d, e, f, rfl, _⟩; rfl
abbrev n_Share_add_gang : List Str := ["self", "gang"]
theorem nd_Share_add_gang : (n_Share_add_gang).Nodup := by decide +kernel
def u_Share_add_gang : SS :=
  (.cons (.iff (.meth .Share a_Share_has_room_for (.var 0) (.cons (.var 1) .nil)) (.cons (.fset .borne (.var 0) (.call a_amount_sum (.cons (.bop (sFld .borne) (.cons (.var 0) .nil)) (.cons (.call a_whole_of (.cons (.var 1) .nil)) .nil))))
  (.cons (.expr (.mth (kL sAppend) (.bop (sFld .own_names) (.cons (.var 0) .nil)) (.cons (.bop sIx (.cons (.var 1) (.cons (.cst (.int 0)) .nil))) .nil)))
  .nil)) (.cons (.expr (.mth (kL sAppend) (.bop (sFld .lent_names) (.cons (.var 0) .nil)) (.cons (.bop sIx (.cons (.var 1) (.cons (.cst (.int 0)) .nil))) .nil)))
  .nil))
  .nil)
theorem body_Share_add_gang : ∀ (ss : List D) (m : MS) (P : NX) (Z : EZ), a_Share_add_gang ss m P Z → WB u_Share_add_gang (startR n_Share_add_gang ss) m (bodyE P Z) := by
  rintro _ m P Z ⟨p, po, pl, due, s, g, rfl, h, ⟨hl, hbl, hol, hll⟩, hn, q⟩
  (conv => whnf)
  refine ⟨p, _, rfl, h.ins, ?_⟩
  (conv => whnf)
  refine ⟨p, po, pl, due, s, g, rfl, h, ⟨hl, hbl⟩, hn, ?_⟩
  refine ⟨_, rfl, fun hk => ?_, fun hk => ?_⟩
  · (conv => whnf)
    refine ⟨_, _, h.ins, ?_⟩
    (conv => whnf)
    refine ⟨g, rfl, hl, hn, ?_⟩
    (conv => whnf)
    refine ⟨s.borne, wholeG g, rfl, hbl, ?_⟩
    (conv => whnf)
    refine ⟨_, _, h.ins, ?_⟩
    (conv => whnf)
    refine ⟨_, _, mset_same, ?_⟩
    (conv => whnf)
    have ho : mset m p (.ins .Share [amtD due, amtD (sumL s.borne (wholeG g)), .raw (.ref po), .raw (.ref pl)]) po = some (.lst (s.own.map .str)) := (mset_ne h.ne.1).trans h.own
    refine ⟨_, ho, ?_⟩
    (conv => whnf)
    refine ⟨_, rfl, ?_⟩
    (conv => whnf)
    refine ⟨_, ho, by rw [List.length_map]; omega, ?_⟩
    have e : stepP due s g = ⟨s.own ++ [g.name], s.lent, sumL s.borne (wholeG g)⟩ := by unfold stepP; rw [if_pos hk]
    refine ret (q _ ?_ fun a a1 a2 a3 => ?_)
    · rw [e]
      exact ⟨by rw [mset_ne h.ne.1.symm]; exact mset_same, by rw [mset_same, List.map_append]; rfl, by rw [mset_ne h.ne.2.2.symm, mset_ne h.ne.2.1]; exact h.lent, h.ne⟩
    · rw [mset_ne a2, mset_ne a1]
  · (conv => whnf)
    refine ⟨_, _, h.ins, ?_⟩
    (conv => whnf)
    refine ⟨_, h.lent, ?_⟩
    (conv => whnf)
    refine ⟨_, rfl, ?_⟩
    (conv => whnf)
    refine ⟨_, h.lent, by rw [List.length_map]; omega, ?_⟩
    have e : stepP due s g = ⟨s.own, s.lent ++ [g.name], s.borne⟩ := by unfold stepP; rw [if_neg (by rw [hk]; decide)]
    refine ret (q _ ?_ fun a a1 a2 a3 => ?_)
    · rw [e]
      exact ⟨by rw [mset_ne h.ne.2.1.symm]; exact h.ins, by rw [mset_ne h.ne.2.2]; exact h.own, by rw [mset_same, List.map_append]; rfl, h.ne⟩
    · rw [mset_ne a3]

end My
namespace My
open PySem PySem.Spec L2 Nu
open PyProof.Rows hiding St
/-! ### Share___init__ -/
def a_Share___init__ : ASp := fun ss m P _ => ∃ (p : Addr) (due : List Int) (d : D) (R : List RowG), ss = [.raw (.ref p), amtD due, d] ∧ m p = some (.ins .Share []) ∧ d = rgsD R ∧ (1 ≤ due.length ∧ due.length ≤ 100 ∧ R.length ≤ 500) ∧ (∀ r ∈ R, r.1.want.length = due.length ∧ 1 ≤ r.1.many ∧ r.1.many ≤ 60) ∧ ∀ m' po pl, ShAt m' p po pl due (prtT due ((ordG R).map (·.1))) → OthP m m' p po pl → (m po = none ∧ m pl = none) → P .non m'
theorem len_Share___init__ : ∀ ss m P Z, a_Share___init__ ss m P Z → ss.length = 3 := by
  rintro _ m P Z ⟨a, b, c, d, rfl, _⟩; rfl
abbrev n_Share___init__ : List Str := ["self", "due", "rows", "gang"]
theorem nd_Share___init__ : (n_Share___init__).Nodup := by decide +kernel
def u_Share___init__ : SS :=
  (.cons (.fset .due (.var 0) (.var 1))
  (.cons (.fset .borne (.var 0) (.call a_nothing_of (.cons (.bop sLen (.cons (.var 1) .nil)) .nil)))
  (.cons (.fset .own_names (.var 0) (.bop sLst .nil))
  (.cons (.fset .lent_names (.var 0) (.bop sLst .nil))
  (.cons (.fo (.name 3) isVal (.cons (.call a_in_order (.cons (.var 2) .nil)) .nil) (.cons (.expr (.meth .Share a_Share_add_gang (.var 0) (.cons (.var 3) .nil)))
  .nil))
  .nil)))))
theorem body_Share___init__ : ∀ (ss : List D) (m : MS) (P : NX) (Z : EZ), a_Share___init__ ss m P Z → WB u_Share___init__ (startR n_Share___init__ ss) m (bodyE P Z) := by
  rintro _ m P Z ⟨p, due, d, R, rfl, hp, rfl, ⟨hd1, hd2, hRl⟩, hR, q⟩
  (conv => whnf)
  refine ⟨_, _, hp, ?_⟩
  (conv => whnf)
  rw [List.length_map]
  refine ⟨due.length, rfl, hd1, by omega, ?_⟩
  (conv => whnf)
  refine ⟨_, _, mset_same, ?_⟩
  (conv => whnf)
  refine .inr fun po hpo => ?_
  rw [mset_mset] at hpo ⊢
  (conv => whnf)
  obtain ⟨npo, hpo⟩ := new_ne hpo
  refine ⟨_, _, by rw [mset_ne npo.symm]; exact mset_same, ?_⟩
  (conv => whnf)
  refine .inr fun pl hpl => ?_
  obtain ⟨nplp, nplo, hpl⟩ : pl ≠ p ∧ pl ≠ po ∧ m pl = none := by
    by_cases e : pl = p
    · rw [e, mset_same] at hpl; cases hpl
    · rw [mset_ne e] at hpl
      by_cases e2 : pl = po
      · rw [e2, mset_same] at hpl; cases hpl
      · rw [mset_ne e2, mset_ne e] at hpl
        exact ⟨e, e2, hpl⟩
  (conv => whnf)
  refine ⟨_, _, by rw [mset_ne nplp.symm]; exact mset_same, ?_⟩
  have hS : ShAt (mset (mset (mset (mset (mset m p (.ins .Share [amtD due, amtD (List.replicate due.length 0)])) po (.lst [])) p (.ins .Share [amtD due, amtD (List.replicate due.length 0), .raw (.ref po)])) pl (.lst [])) p (.ins .Share [amtD due, amtD (List.replicate due.length 0), .raw (.ref po), .raw (.ref pl)])) p po pl due (prtT due []) :=
    ⟨mset_same, by rw [mset_ne npo, mset_ne nplo.symm, mset_ne npo]; exact mset_same, by rw [mset_ne nplp]; exact mset_same, ⟨npo, nplp, nplo.symm⟩⟩
  have hO : OthP m (mset (mset (mset (mset (mset m p (.ins .Share [amtD due, amtD (List.replicate due.length 0)])) po (.lst [])) p (.ins .Share [amtD due, amtD (List.replicate due.length 0), .raw (.ref po)])) pl (.lst [])) p (.ins .Share [amtD due, amtD (List.replicate due.length 0), .raw (.ref po), .raw (.ref pl)])) p po pl := fun a a1 a2 a3 => by
    rw [mset_ne a1, mset_ne a3, mset_ne a1, mset_ne a2, mset_ne a1]
  (conv => whnf)
  refine ⟨_, R, rfl, .inl rfl, by omega, .inl ?_⟩
  have hL : ∀ g ∈ (ordG R).map (·.1), g.want.length = due.length ∧ 1 ≤ g.many ∧ g.many ≤ 60 := fun g hg => by
    obtain ⟨r, hr, rfl⟩ := List.mem_map.mp hg
    exact hR r ((ordG_perm R).subset hr)
  have hLl : ((ordG R).map (·.1)).length ≤ 500 := by rw [List.length_map, (ordG_perm R).length_eq]; exact hRl
  have hi : ((ordG R).map fun r => gD r.1) = ((ordG R).map (·.1)).map gD := by rw [List.map_map]; rfl
  rw [hi]
  revert hL hLl q
  generalize (ordG R).map (·.1) = L
  intro q hL hLl
  (conv => whnf)
  refine foN L gD (fun i ρ' m' => ∃ x3 : Option D, ShAt m' p po pl due (prtT due (L.take i)) ∧ OthP m m' p po pl ∧ ρ' = [some (.raw (.ref p)), some (amtD due), some (rgsD R), x3]) rfl ⟨_, hS, hO, rfl⟩ (fun _ _ _ _ => trivial) ?_ ?_
  · rintro i g ρ' m' hg ⟨x3, hS, hO, rfl⟩
    have hgm := hL g (List.mem_of_getElem? hg)
    obtain ⟨l1, l2⟩ := prt_len (due := due) (L := L.take i) fun a ha => (hL a (List.mem_of_mem_take ha)).1
    have l3 : (L.take i).length ≤ 500 := by rw [List.length_take]; omega
    (conv => whnf)
    refine ⟨p, _, rfl, hS.ins, ?_⟩
    (conv => whnf)
    refine ⟨p, po, pl, due, _, g, rfl, hS, ⟨by omega, by omega, by omega, by omega⟩, hgm.2, fun m2 h2 o2 => ?_⟩
    refine ⟨_, ?_, fun a a1 a2 a3 => (o2 a a1 a2 a3).trans (hO a a1 a2 a3), rfl⟩
    rw [take_succ hg, prt_snoc]
    exact h2
  · rintro ρ' m' ⟨x3, hS, hO, rfl⟩
    rw [List.take_length] at hS
    (conv => whnf)
    exact ret (q m' po pl hS hO ⟨hpo, hpl⟩)

end My
namespace My
open PySem PySem.Spec L2 Nu
open PyProof.Rows hiding St
/-! ### owed -/
def a_owed : ASp := fun ss m P _ => ∃ (due : List Int) (R : List RowG) (g : Gang), ss = [amtD due, rgsD R, gD g] ∧ (1 ≤ due.length ∧ due.length ≤ 100 ∧ R.length ≤ 500) ∧ (∀ r ∈ R, r.1.want.length = due.length ∧ 1 ≤ r.1.many ∧ r.1.many ≤ 60) ∧ (g.want.length ≤ 1000 ∧ 1 ≤ g.many ∧ g.many ≤ 60) ∧ P (.bl (fitsL (sumL (prtT due ((ordG R).map (·.1))).borne (wholeG g)) due)) m
theorem len_owed : ∀ ss m P Z, a_owed ss m P Z → ss.length = 3 := by
  rintro _ m P Z ⟨a, b, c, rfl, _⟩; rfl
abbrev n_owed : List Str := ["due", "rows", "gang"]
theorem nd_owed : (n_owed).Nodup := by decide +kernel
def u_owed : SS :=
  (.cons (.ret (.meth .Share a_Share_has_room_for (.make .Share a_Share___init__ (.cons (.var 0) (.cons (.var 1) .nil))) (.cons (.var 2) .nil)))
  .nil)
theorem body_owed : ∀ (ss : List D) (m : MS) (P : NX) (Z : EZ), a_owed ss m P Z → WB u_owed (startR n_owed ss) m (bodyE P Z) := by
  rintro _ m P Z ⟨due, R, g, rfl, hd, hR, hg, q⟩
  (conv => whnf)
  refine fun p hp => ⟨p, due, _, R, rfl, mset_same, rfl, hd, hR, fun m' po pl hS hO hn => ⟨rfl, ?_⟩⟩
  obtain ⟨n1, n2⟩ := new_ne hn.1
  obtain ⟨n3, n4⟩ := new_ne hn.2
  have hpl := prt_len (due := due) (L := (ordG R).map (·.1)) (fun a ha => by
    obtain ⟨r, hr, rfl⟩ := List.mem_map.mp ha
    exact (hR r ((ordG_perm R).subset hr)).1)
  (conv => whnf)
  refine ⟨p, _, rfl, hS.ins, ?_⟩
  (conv => whnf)
  refine ⟨p, po, pl, due, _, g, rfl, hS, ⟨hg.1, by omega⟩, hg.2, ?_⟩
  refine retL (fun a c e => ?_) q
  have a1 : a ≠ p := by rintro rfl; rw [hp] at e; cases e
  rw [hO a a1 (by rintro rfl; rw [n2] at e; cases e) (by rintro rfl; rw [n4] at e; cases e), mset_ne a1]
  exact e

end My
namespace My
open PySem PySem.Spec L2 Nu
open PyProof.Rows hiding St
/-! ### ins -/
/-! ### one more gang -/
def geR (k : Int) (r : RowG) : Bool := decide (r.1.rank ≥ k)
theorem ord_ins {R : List RowG} {g : Gang} {t : Int} (nd : (R.map (·.2)).Nodup) (ht : ∀ r ∈ R, r.2 < t) : ordG (R ++ [(g, t)]) = ordG (R.filter (geR g.rank)) ++ (g, t) :: ordG (R.filter fun r => !geR g.rank r) := by
  have nd2 : ((R ++ [(g, t)]).map (·.2)).Nodup := by
    rw [List.map_append, List.nodup_append]
    refine ⟨nd, by simp, fun x hx y hy e => ?_⟩
    rw [List.map_cons, List.map_nil, List.mem_singleton] at hy
    obtain ⟨r, hr, rfl⟩ := List.mem_map.mp hx
    have h1 := ht r hr
    have h2 : r.2 = t := by rw [e, hy]
    omega
  have memA : ∀ a ∈ ordG (R.filter (geR g.rank)), a ∈ R ∧ a.1.rank ≥ g.rank := fun a ha => by
    have := List.mem_filter.mp ((ordG_perm _).subset ha)
    exact ⟨this.1, of_decide_eq_true this.2⟩
  have memB : ∀ a ∈ ordG (R.filter fun r => !geR g.rank r), a ∈ R ∧ ¬ a.1.rank ≥ g.rank := fun a ha => by
    have := List.mem_filter.mp ((ordG_perm _).subset ha)
    refine ⟨this.1, fun c => ?_⟩
    have h2 := this.2
    unfold geR at h2
    rw [decide_eq_true c] at h2
    cases h2
  refine (ordG_uniq nd2 ?_ ?_).symm
  · have h1 : (R.filter (geR g.rank) ++ R.filter fun r => !geR g.rank r).Perm R := List.filter_append_perm _ R
    refine ((h1.symm.append_right [(g, t)])).trans ?_
    rw [List.append_assoc]
    refine List.Perm.append (ordG_perm _).symm ?_
    exact (List.perm_append_singleton _ _).trans (List.Perm.cons _ (ordG_perm _).symm)
  · rw [List.pairwise_append]
    refine ⟨ordG_pw _, ?_, fun a ha b hb => ?_⟩
    · rw [List.pairwise_cons]
      refine ⟨fun b hb => ?_, ordG_pw _⟩
      have := memB b hb
      unfold leG
      exact decide_eq_true (by show -g.rank < -b.1.rank ∨ _; omega)
    · have h1 := memA a ha
      have h2 := ht a h1.1
      unfold leG
      rcases List.mem_cons.mp hb with rfl | hb
      · exact decide_eq_true (by show -a.1.rank < -g.rank ∨ (-a.1.rank = -g.rank ∧ a.2 ≤ t); omega)
      · have := memB b hb
        exact decide_eq_true (by omega)
theorem step_own {due : List Int} {s : Prt} {g : Gang} : (∀ y ∈ (stepP due s g).own, y ∈ s.own ∨ y = g.name) ∧ ∀ y ∈ s.own, y ∈ (stepP due s g).own := by
  unfold stepP
  split
  · exact ⟨fun y hy => by simpa using hy, fun y hy => List.mem_append_left _ hy⟩
  · exact ⟨fun y hy => .inl hy, fun y hy => hy⟩
theorem go_own {due : List Int} : ∀ (L : List Gang) (s : Prt), (∀ y ∈ (L.foldl (stepP due) s).own, y ∈ s.own ∨ y ∈ L.map (·.name)) ∧ ∀ y ∈ s.own, y ∈ (L.foldl (stepP due) s).own
  | [], s => ⟨fun y hy => .inl hy, fun y hy => hy⟩
  | g :: L, s => by
    obtain ⟨h1, h2⟩ := go_own L (stepP due s g)
    obtain ⟨h3, h4⟩ := step_own (due := due) (s := s) (g := g)
    refine ⟨fun y hy => ?_, fun y hy => h2 y (h4 y hy)⟩
    rcases h1 y hy with h | h
    · rcases h3 y h with h | h
      · exact .inl h
      · exact .inr (by rw [h]; simp)
    · exact .inr (by rw [List.map_cons]; exact List.mem_cons_of_mem _ h)
theorem own_ins {due : List Int} {A B : List Gang} {g : Gang} (hA : g.name ∉ A.map (·.name)) (hB : g.name ∉ B.map (·.name)) : decide (g.name ∈ (prtT due (A ++ g :: B)).own) = fitsL (sumL (prtT due A).borne (wholeG g)) due := by
  have e : prtT due (A ++ g :: B) = B.foldl (stepP due) (stepP due (prtT due A) g) := by unfold prtT; rw [List.foldl_append, List.foldl_cons]
  have hn : g.name ∉ (prtT due A).own := fun c => by
    rcases (go_own A (prt0 due)).1 _ c with h | h
    · cases h
    · exact hA h
  rw [e]
  by_cases c : fitsL (sumL (prtT due A).borne (wholeG g)) due = true
  · rw [c]
    refine decide_eq_true ((go_own B _).2 _ ?_)
    unfold stepP
    rw [if_pos c]
    simp
  · have c' : fitsL (sumL (prtT due A).borne (wholeG g)) due = false := by simpa using c
    rw [c']
    refine decide_eq_false fun h => ?_
    rcases (go_own B _).1 _ h with h | h
    · unfold stepP at h
      rw [if_neg c] at h
      exact hn h
    · exact hB h
theorem own_row {due : List Int} {R : List RowG} {g : Gang} {t : Int} (nd : (R.map (·.2)).Nodup) (ht : ∀ r ∈ R, r.2 < t) (hg : g.name ∉ R.map (·.1.name)) : decide (g.name ∈ (prtT due ((ordG (R ++ [(g, t)])).map (·.1))).own) = fitsL (sumL (prtT due ((ordG (R.filter (geR g.rank))).map (·.1))).borne (wholeG g)) due := by
  rw [ord_ins nd ht, List.map_append, List.map_cons]
  have sub : ∀ p : RowG → Bool, g.name ∉ ((ordG (R.filter p)).map (·.1)).map (·.name) := fun p c => by
    rw [List.map_map] at c
    obtain ⟨r, hr, e⟩ := List.mem_map.mp c
    exact hg (List.mem_map.mpr ⟨r, (List.mem_filter.mp ((ordG_perm _).subset hr)).1, e⟩)
  exact own_ins (sub _) (sub _)

end My
namespace My
open PySem PySem.Spec L2 Nu
open PyProof.Rows hiding St
/-! ### own_with -/
def a_own_with : ASp := fun ss m P _ => ∃ (due : List Int) (R : List RowG) (g : Gang), ss = [amtD due, rgsD R, gD g] ∧ (1 ≤ due.length ∧ due.length ≤ 100 ∧ R.length ≤ 500) ∧ (∀ r ∈ R, r.1.want.length = due.length ∧ 1 ≤ r.1.many ∧ r.1.many ≤ 60) ∧ (g.want.length ≤ 1000 ∧ 1 ≤ g.many ∧ g.many ≤ 60) ∧ P (.bl (fitsL (sumL (prtT due ((ordG (R.filter (geR g.rank))).map (·.1))).borne (wholeG g)) due)) m
theorem len_own_with : ∀ ss m P Z, a_own_with ss m P Z → ss.length = 3 := by
  rintro _ m P Z ⟨a, b, c, rfl, _⟩; rfl
abbrev n_own_with : List Str := ["due", "rows", "gang", "row"]
theorem nd_own_with : (n_own_with).Nodup := by decide +kernel
def u_own_with : SS :=
  (.cons (.ret (.meth .Share a_Share_has_room_for (.make .Share a_Share___init__ (.cons (.var 0) (.cons (.lc (.name 3) isVal (.cons (.var 1) .nil) (.cons (.bop (sCmp .ge) (.cons (.bop sIx (.cons (.bop sIx (.cons (.var 3) (.cons (.cst (.int 0)) .nil))) (.cons (.cst (.int 2)) .nil))) (.cons (.bop sIx (.cons (.var 2) (.cons (.cst (.int 2)) .nil))) .nil))) .nil) (.var 3)) .nil))) (.cons (.var 2) .nil)))
  .nil)
theorem body_own_with : ∀ (ss : List D) (m : MS) (P : NX) (Z : EZ), a_own_with ss m P Z → WB u_own_with (startR n_own_with ss) m (bodyE P Z) := by
  rintro _ m P Z ⟨due, R, g, rfl, hd, hR, hg, q⟩
  (conv => whnf)
  refine lcN R rgD (geR g.rank) rgD rfl (by omega) trivial (fun r hr => ⟨fun R2 r2 => ?_, fun _ R2 r2 => ?_⟩) (.inl ?_)
  · (conv => whnf)
    refine ⟨_, rfl, ?_⟩
    (conv => whnf)
    refine ⟨_, rfl, ?_⟩
    (conv => whnf)
    refine ⟨_, rfl, ?_⟩
    (conv => whnf)
    exact ⟨_, rfl, r2⟩
  · (conv => whnf)
    exact r2
  have hsub : ∀ r ∈ R.filter (geR g.rank), r ∈ R := fun r hr => (List.mem_filter.mp hr).1
  have hfl : (R.filter (geR g.rank)).length ≤ 500 := Nat.le_trans (List.length_filter_le ..) hd.2.2
  (conv => whnf)
  refine fun p hp => ⟨p, due, _, R.filter (geR g.rank), rfl, mset_same, rfl, ⟨hd.1, hd.2.1, hfl⟩, fun r hr => hR r (hsub r hr), fun m' po pl hS hO hn => ⟨rfl, ?_⟩⟩
  obtain ⟨n1, n2⟩ := new_ne hn.1
  obtain ⟨n3, n4⟩ := new_ne hn.2
  have hpl := prt_len (due := due) (L := (ordG (R.filter (geR g.rank))).map (·.1)) (fun a ha => by
    obtain ⟨r, hr, rfl⟩ := List.mem_map.mp ha
    exact (hR r (hsub r ((ordG_perm _).subset hr))).1)
  (conv => whnf)
  refine ⟨p, _, rfl, hS.ins, ?_⟩
  (conv => whnf)
  refine ⟨p, po, pl, due, _, g, rfl, hS, ⟨hg.1, by omega⟩, hg.2, ?_⟩
  refine retL (fun a c e => ?_) q
  have a1 : a ≠ p := by rintro rfl; rw [hp] at e; cases e
  rw [hO a a1 (by rintro rfl; rw [n2] at e; cases e) (by rintro rfl; rw [n4] at e; cases e), mset_ne a1]
  exact e

end My
namespace My
open PySem PySem.Spec L2 Nu
open PyProof.Rows hiding St
/-! ### parted -/
def a_parted : ASp := fun ss m P _ => ∃ (due : List Int) (R : List RowG), ss = [amtD due, rgsD R] ∧ (1 ≤ due.length ∧ due.length ≤ 100 ∧ R.length ≤ 500) ∧ (∀ r ∈ R, r.1.want.length = due.length ∧ 1 ≤ r.1.many ∧ r.1.many ≤ 60) ∧ ∀ m' po pl, MLe m m' → (m' po = some (.lst ((prtT due ((ordG R).map (·.1))).own.map .str)) ∧ m' pl = some (.lst ((prtT due ((ordG R).map (·.1))).lent.map .str))) → (po ≠ pl ∧ m po = none ∧ m pl = none) → P (.tup [.raw (.ref po), .raw (.ref pl)]) m'
theorem len_parted : ∀ ss m P Z, a_parted ss m P Z → ss.length = 2 := by
  rintro _ m P Z ⟨a, b, rfl, _⟩; rfl
abbrev n_parted : List Str := ["due", "rows", "share"]
theorem nd_parted : (n_parted).Nodup := by decide +kernel
def u_parted : SS :=
  (.cons (.set 2 (.make .Share a_Share___init__ (.cons (.var 0) (.cons (.var 1) .nil))))
  (.cons (.ret (.bop sTup (.cons (.bop (sFld .own_names) (.cons (.var 2) .nil)) (.cons (.bop (sFld .lent_names) (.cons (.var 2) .nil)) .nil))))
  .nil))
theorem body_parted : ∀ (ss : List D) (m : MS) (P : NX) (Z : EZ), a_parted ss m P Z → WB u_parted (startR n_parted ss) m (bodyE P Z) := by
  rintro _ m P Z ⟨due, R, rfl, hd, hR, q⟩
  (conv => whnf)
  refine fun p hp => ⟨p, due, _, R, rfl, mset_same, rfl, hd, hR, fun m' po pl hS hO hn => ⟨rfl, ?_⟩⟩
  obtain ⟨n1, n2⟩ := new_ne hn.1
  obtain ⟨n3, n4⟩ := new_ne hn.2
  (conv => whnf)
  refine ⟨_, _, hS.ins, ?_⟩
  (conv => whnf)
  refine ⟨_, _, hS.ins, ?_⟩
  refine ret (q m' po pl (fun a c e => ?_) ⟨hS.own, hS.lent⟩ ⟨hS.ne.2.2, n2, n4⟩)
  have a1 : a ≠ p := by rintro rfl; rw [hp] at e; cases e
  rw [hO a a1 (by rintro rfl; rw [n2] at e; cases e) (by rintro rfl; rw [n4] at e; cases e), mset_ne a1]
  exact e

end My
namespace My
open PySem PySem.Spec L2 Nu
open PyProof.Rows hiding St
/-! ### rows_of_guild -/
def a_rows_of_guild : ASp := fun ss m P _ => ∃ (R : List RowG) (y : Str), ss = [rgsD R, .str y] ∧ R.length ≤ 1000 ∧ P (rgsD (R.filter fun r => decide (r.1.guild = y))) m
theorem len_rows_of_guild : ∀ ss m P Z, a_rows_of_guild ss m P Z → ss.length = 2 := by
  rintro _ m P Z ⟨a, b, rfl, _⟩; rfl
abbrev n_rows_of_guild : List Str := ["rows", "guild", "row"]
theorem nd_rows_of_guild : (n_rows_of_guild).Nodup := by decide +kernel
def u_rows_of_guild : SS :=
  (.cons (.ret (.lc (.name 2) isVal (.cons (.var 0) .nil) (.cons (.bop sEq (.cons (.bop sIx (.cons (.bop sIx (.cons (.var 2) (.cons (.cst (.int 0)) .nil))) (.cons (.cst (.int 1)) .nil))) (.cons (.var 1) .nil))) .nil) (.var 2)))
  .nil)
theorem body_rows_of_guild : ∀ (ss : List D) (m : MS) (P : NX) (Z : EZ), a_rows_of_guild ss m P Z → WB u_rows_of_guild (startR n_rows_of_guild ss) m (bodyE P Z) := by
  rintro _ m P Z ⟨R, y, rfl, hl, q⟩
  (conv => whnf)
  refine lcN R rgD (fun r => decide (r.1.guild = y)) rgD rfl (by omega) trivial (fun r hr => ⟨fun R2 r2 => ?_, fun _ R2 r2 => ?_⟩) (.inl ?_)
  · (conv => whnf)
    refine ⟨_, rfl, ?_⟩
    (conv => whnf)
    refine ⟨_, rfl, ?_⟩
    (conv => whnf)
    exact ⟨_, rfl, r2⟩
  · (conv => whnf)
    exact r2
  exact ret q

end My
namespace My
open PySem PySem.Spec L2 Nu
open PyProof.Rows hiding St
/-! ### anyst -/
theorem any_str (y : Str) (l : List Str) : (l.map D.str).any (fun z => eqF z (.str y)) = decide (y ∈ l) := by
  induction l with
  | nil => rfl
  | cons a l ih =>
    rw [List.map_cons, List.any_cons, ih, Bool.eq_iff_iff]
    show ((a == y) || decide (y ∈ l)) = true ↔ _
    simp only [Bool.or_eq_true, beq_iff_eq, decide_eq_true_eq, List.mem_cons]
    constructor
    · rintro (h | h)
      · exact .inl h.symm
      · exact .inr h
    · rintro (h | h)
      · exact .inl h.symm
      · exact .inr h
theorem flat_strs (l : List Str) : (l.map D.str).all flatD = true := by
  rw [List.all_map, List.all_eq_true]
  intro _ _; rfl

end My
namespace My
open PySem PySem.Spec L2 Nu
open PyProof.Rows hiding St
/-! ### tkr -/
/-! ### whom one may take from -/
def keyT (r : RowG) : D := .tup [.int r.1.rank, .int (-r.2)]
/-- the ground on which g takes from o -/
def grnd (g : Gang) (ow on : Bool) (lent : List Str) (o : Gang) : Option Str :=
  if !decide (o.name ∈ lent) && !(decide (o.guild = g.guild) && on) then none
  else if !decide (o.guild = g.guild) && ow then some (Str.ofString "share")
  else if decide (o.rank < g.rank) then some (Str.ofString "rank") else none
def grD : Option Str → D
  | none => .non
  | some y => .str y
def leT (a b : RowG) : Bool := leG b a
theorem toPy_keyT (r : RowG) : toPy (keyT r) = .tuple [.int r.1.rank, .int (-r.2)] := by
  unfold keyT
  rw [toPy, toPys, toPys, toPys, toPy, toPy]
theorem leD_keyT (a b : RowG) : leD (keyT a) (keyT b) = leT a b := by
  have h := congrFun (congrFun (PySem.W.dataLe_ii (fun r : RowG => r.1.rank) fun r : RowG => -r.2) a) b
  rw [leD_lt, toPy_keyT, toPy_keyT]
  refine h.trans ?_
  show decide (a.1.rank < b.1.rank ∨ (a.1.rank = b.1.rank ∧ -a.2 ≤ -b.2)) = leG b a
  unfold leG
  rw [decide_eq_decide]
  omega
theorem sort_T {R : List RowG} (nd : (R.map (·.2)).Nodup) : R.mergeSort leT = (ordG R).reverse := by
  have p1 : (R.mergeSort leT).Perm R := List.mergeSort_perm ..
  have s1 : (R.mergeSort leT).Pairwise fun a b => leT a b = true := List.pairwise_mergeSort (le := leT) (fun a b c h k => leG_trans k h) (fun a b => by
    rcases leG_total a b with h | h <;> simp [leT, h]) R
  have : (R.mergeSort leT).reverse = ordG R := ordG_uniq nd (p1.symm.trans (List.reverse_perm _).symm) (List.pairwise_reverse.mpr s1)
  rw [← this, List.reverse_reverse]
theorem srtKT_map {R : List RowG} (nd : (R.map (·.2)).Nodup) : srtKD (R.map rgD) (R.map keyT) = (ordG R).reverse.map rgD := by
  rw [← sort_T nd]
  unfold srtKD
  rw [List.zip_map']
  have : (R.map fun r => (rgD r, keyT r)).mergeSort (fun p q => leD p.2 q.2) = (R.mergeSort leT).map fun r => (rgD r, keyT r) := (List.map_mergeSort (r := leT) (s := fun p q : D × D => leD p.2 q.2) (f := fun r => (rgD r, keyT r)) (fun a _ b _ => (leD_keyT a b).symm)).symm
  rw [this, List.map_map]; rfl
theorem pl_keysT : ∀ R : List RowG, plDs 40 (R.map keyT) = true
  | [] => by rw [List.map_nil, plDs]
  | a :: R => by
    rw [List.map_cons, plDs, pl_keysT R]
    unfold keyT
    rw [plD, plDs, plDs, plDs, plD, plD]; rfl
theorem keysT_alike (R : List RowG) : PySem.W.AllAlike ((R.map keyT).map toPy) := by
  intro d hd e he
  obtain ⟨x, hx, rfl⟩ := List.mem_map.mp hd
  obtain ⟨y, hy, rfl⟩ := List.mem_map.mp he
  obtain ⟨a, _, rfl⟩ := List.mem_map.mp hx
  obtain ⟨b, _, rfl⟩ := List.mem_map.mp hy
  rw [toPy_keyT, toPy_keyT, PySem.W.alike, PySem.W.alikeAll, PySem.W.alikeAll, PySem.W.alikeAll, PySem.W.alike, PySem.W.alike]; rfl
theorem keysT_srt (R : List RowG) : PySem.W.Sortable ((R.map keyT).map toPy) := .inl fun d hd => by
  obtain ⟨x, hx, rfl⟩ := List.mem_map.mp hd
  obtain ⟨a, _, rfl⟩ := List.mem_map.mp hx
  exact ⟨_, _, toPy_keyT a⟩
/-! ### what one taker is shown -/
def dueOf (U : Dues) (y : Str) : List Int := ((U.find? fun e => decide (e.1 = y)).map (·.2)).getD []
def guildR (M : List RowG) (y : Str) : List RowG := M.filter fun r => decide (r.1.guild = y)
def partG (U : Dues) (M : List RowG) (y : Str) : Prt := prtT (dueOf U y) ((ordG (guildR M y)).map (·.1))
def owedG (U : Dues) (M : List RowG) (g : Gang) : Bool := fitsL (sumL (partG U M g.guild).borne (wholeG g)) (dueOf U g.guild)
def ownG (U : Dues) (M : List RowG) (g : Gang) : Bool := fitsL (sumL (prtT (dueOf U g.guild) ((ordG ((guildR M g.guild).filter (geR g.rank))).map (·.1))).borne (wholeG g)) (dueOf U g.guild)
def lentG (U : Dues) (M : List RowG) (ys : List Str) : List Str := ys.flatMap fun y => (partG U M y).lent
structure TkOk (w : Nat) (U : Dues) (M : List RowG) (g : Gang) : Prop where
  ww : 1 ≤ w ∧ w ≤ 8
  und : (U.map (·.1)).Nodup
  ul : U.length ≤ 20
  ok : ∀ e ∈ U, e.2.length = w ∧ ∀ v ∈ e.2, 0 ≤ v
  rows : ∀ r ∈ M, r.1.want.length = w ∧ 1 ≤ r.1.many ∧ r.1.many ≤ 60
  guild : ∀ r ∈ M, r.1.guild ∈ U.map (·.1)
  rok : RgOk M
  nd : (M.map (·.2)).Nodup
  ml : M.length ≤ 60
  gw : g.want.length = w ∧ 1 ≤ g.many ∧ g.many ≤ 60
  gg : g.guild ∈ U.map (·.1)
theorem dueOf_mem {U : Dues} (nd : (U.map (·.1)).Nodup) {e : Str × List Int} (h : e ∈ U) : dueOf U e.1 = e.2 := by
  unfold dueOf
  cases f : U.find? fun k => decide (k.1 = e.1) with
  | none =>
    have := List.find?_eq_none.mp f e h
    exact absurd (decide_eq_true rfl) this
  | some k =>
    have h1 := List.mem_of_find?_eq_some f
    have h2 : k.1 = e.1 := of_decide_eq_true (List.find?_some (p := fun k : Str × List Int => decide (k.1 = e.1)) f)
    rw [injG (key := fun k : Str × List Int => k.1) nd h1 h h2]; rfl
theorem TkOk.due {w : Nat} {U : Dues} {M : List RowG} {g : Gang} (h : TkOk w U M g) {y : Str} (hy : y ∈ U.map (·.1)) : valD (duesK U) (.inr y) = some (amtD (dueOf U y)) ∧ (dueOf U y).length = w := by
  obtain ⟨e, he, rfl⟩ := List.mem_map.mp hy
  rw [dueOf_mem h.und he]
  exact ⟨val_kvs (key := fun e : Str × List Int => e.1) (g := fun e => amtD e.2) h.und he, (h.ok e he).1⟩
theorem guild_sub {M : List RowG} {y : Str} : ∀ r ∈ guildR M y, r ∈ M := fun _ hr => (List.mem_filter.mp hr).1
theorem guild_len {M : List RowG} {y : Str} : (guildR M y).length ≤ M.length := List.length_filter_le ..
theorem part_len {w : Nat} {U : Dues} {M : List RowG} {g : Gang} (h : TkOk w U M g) {y : Str} (hy : y ∈ U.map (·.1)) : (partG U M y).borne.length = w ∧ (partG U M y).lent.length ≤ 60 := by
  have hl := (h.due hy).2
  obtain ⟨h1, h2⟩ := prt_len (due := dueOf U y) (L := (ordG (guildR M y)).map (·.1)) (fun a ha => by
    obtain ⟨r, hr, rfl⟩ := List.mem_map.mp ha
    rw [hl]; exact (h.rows r (guild_sub r ((ordG_perm _).subset hr))).1)
  have h3 : (guildR M y).length ≤ M.length := guild_len
  have h4 := h.ml
  rw [List.length_map, (ordG_perm _).length_eq] at h2
  unfold partG
  exact ⟨by rw [h1, hl], by omega⟩
theorem lentG_len {w : Nat} {U : Dues} {M : List RowG} {g : Gang} (h : TkOk w U M g) : ∀ ys : List Str, (∀ y ∈ ys, y ∈ U.map (·.1)) → (lentG U M ys).length ≤ 60 * ys.length
  | [], _ => by simp [lentG]
  | y :: ys, hy => by
    have h1 := (part_len h (hy y (List.mem_cons_self ..))).2
    have h2 := lentG_len h ys fun z hz => hy z (List.mem_cons_of_mem _ hz)
    unfold lentG at *
    rw [List.flatMap_cons, List.length_append, List.length_cons]
    omega
theorem firstS_len : ∀ (xs M : List Str), (firstS M xs).length ≤ M.length + xs.length
  | [], M => by simp [firstS]
  | x :: xs, M => by
    unfold firstS
    refine Nat.le_trans (firstS_len xs _) ?_
    split
    · rw [List.length_cons]; omega
    · rw [List.length_cons, List.length_cons]; omega
theorem dst_le (l : List Str) : (dstS l).length ≤ l.length := by
  have := firstS_len l []
  simpa [dstS] using this
noncomputable def grG (U : Dues) (M : List RowG) (g o : Gang) : Option Str := grnd g (owedG U M g) (ownG U M g) (lentG U M (srtT (dstS (M.map (·.1.guild))))) o
noncomputable def stepF (U : Dues) (M : List RowG) (ns : List Str) (g : Gang) (r : RowG) : Option (Str × Str) := if decide (r.1.name ∈ ns) then (grG U M g r.1).map fun y => (r.1.name, y) else none
noncomputable def foundG (U : Dues) (M : List RowG) (ns : List Str) (g : Gang) : List (Str × Str) := (ordG M).reverse.filterMap (stepF U M ns g)
def fnD (p : Str × Str) : D := .tup [.str p.1, .str p.2]
theorem lent_nil {U : Dues} {M : List RowG} {y : Str} (h : y ∉ M.map (·.1.guild)) : (partG U M y).lent = [] := by
  have e : guildR M y = [] := List.filter_eq_nil_iff.mpr fun r hr c => h (List.mem_map.mpr ⟨r, hr, of_decide_eq_true c⟩)
  unfold partG
  rw [e]
  have e2 : ordG ([] : List RowG) = [] := (ordG_perm []).eq_nil
  rw [e2]; rfl
theorem lent_mem {U : Dues} {M : List RowG} (hg : ∀ r ∈ M, r.1.guild ∈ U.map (·.1)) (n : Str) : n ∈ lentG U M (U.map (·.1)) ↔ n ∈ lentG U M (srtT (dstS (M.map (·.1.guild)))) := by
  unfold lentG
  rw [List.mem_flatMap, List.mem_flatMap]
  constructor
  · rintro ⟨y, hy, h⟩
    refine ⟨y, srtT_mem.mpr (dst_mem.mpr ?_), h⟩
    by_cases c : y ∈ M.map (·.1.guild)
    · exact c
    · rw [lent_nil c] at h; cases h
  · rintro ⟨y, hy, h⟩
    obtain ⟨r, hr, e⟩ := List.mem_map.mp (dst_mem.mp (srtT_mem.mp hy))
    exact ⟨y, e ▸ hg r hr, h⟩
noncomputable def stepA (U : Dues) (M : List RowG) (g : Gang) (r : RowG) : Option (Str × Str) := (grG U M g r.1).map fun y => (r.1.name, y)
noncomputable def foundA (U : Dues) (M : List RowG) (g : Gang) : List (Str × Str) := (ordG M).reverse.filterMap (stepA U M g)
theorem fm_congr {α β : Type} {f g : α → Option β} : ∀ {l : List α}, (∀ x ∈ l, f x = g x) → l.filterMap f = l.filterMap g
  | [], _ => rfl
  | a :: l, h => by rw [List.filterMap_cons, List.filterMap_cons, h a (List.mem_cons_self ..), fm_congr fun x hx => h x (List.mem_cons_of_mem _ hx)]
theorem found_all {U : Dues} {M : List RowG} {g : Gang} : foundG U M (M.map (·.1.name)) g = foundA U M g := by
  unfold foundG foundA
  refine fm_congr fun r hr => ?_
  have : r ∈ M := (ordG_perm M).subset (List.mem_reverse.mp hr)
  unfold stepF stepA
  rw [if_pos (decide_eq_true (List.mem_map.mpr ⟨r, this, rfl⟩))]
theorem dueOf_nn {w : Nat} {U : Dues} {M : List RowG} {g : Gang} (h : TkOk w U M g) {y : Str} : ∀ v ∈ dueOf U y, 0 ≤ v := fun v hv => by
  unfold dueOf at hv
  cases f : U.find? fun k => decide (k.1 = y) with
  | none => rw [f] at hv; cases hv
  | some k =>
    rw [f] at hv
    exact (h.ok k (List.mem_of_find?_eq_some f)).2 v hv
def setU (U : Dues) (y : Str) (vs : List Int) : Dues := U.map fun e => if e.1 = y then (e.1, vs) else e
theorem setU_keys {U : Dues} {y : Str} {vs : List Int} : (setU U y vs).map (·.1) = U.map (·.1) := by
  unfold setU
  rw [List.map_map]
  refine List.map_congr_left fun e _ => ?_
  dsimp only [Function.comp]
  split <;> rfl
theorem put_setU {U : Dues} {y : Str} {vs : List Int} (h : y ∈ U.map (·.1)) : putD (duesK U) (.inr y) (amtD vs) = duesK (setU U y vs) := by
  unfold duesK
  rw [put_has h]
  unfold kvs setU
  rw [List.map_map]
  refine List.map_congr_left fun e _ => ?_
  dsimp only [Function.comp]
  by_cases c : e.1 = y
  · rw [if_pos c, if_pos c]
  · rw [if_neg c, if_neg c]
theorem TkOk.setU {w : Nat} {U : Dues} {M : List RowG} {g : Gang} (h : TkOk w U M g) {y : Str} {vs : List Int} (hl : vs.length = w) (h0 : ∀ v ∈ vs, 0 ≤ v) : TkOk w (My.setU U y vs) M g where
  ww := h.ww
  und := by rw [setU_keys]; exact h.und
  ul := by unfold My.setU; rw [List.length_map]; exact h.ul
  ok := fun e he => by
    obtain ⟨f, hf, rfl⟩ := List.mem_map.mp he
    by_cases c : f.1 = y
    · rw [if_pos c]; exact ⟨hl, h0⟩
    · rw [if_neg c]; exact h.ok f hf
  rows := h.rows
  guild := by rw [setU_keys]; exact h.guild
  rok := h.rok
  nd := h.nd
  ml := h.ml
  gw := h.gw
  gg := by rw [setU_keys]; exact h.gg

end My
namespace My
open PySem PySem.Spec L2 Nu
open PyProof.Rows hiding St
/-! ### Taker___init__ -/
def a_Taker___init__ : ASp := fun ss m P _ => ∃ (p pd : Addr) (w : Nat) (U : Dues) (M : List RowG) (g : Gang), ss = [.raw (.ref p), .raw (.ref pd), rgsD M, gD g] ∧ m p = some (.ins .Taker []) ∧ m pd = some (.dct (duesK U)) ∧ TkOk w U M g ∧ ∀ m' pl, m' p = some (.ins .Taker [gD g, .bl (owedG U M g), .bl (ownG U M g), .raw (.ref pl)]) → m' pl = some (.lst ((lentG U M (srtT (dstS (M.map (·.1.guild))))).map .str)) → (∀ a, a ≠ p → m a ≠ none → m' a = m a) → (pl ≠ p ∧ m pl = none) → P .non m'
theorem len_Taker___init__ : ∀ ss m P Z, a_Taker___init__ ss m P Z → ss.length = 4 := by
  rintro _ m P Z ⟨a, b, c, d, e, f, rfl, _⟩; rfl
abbrev n_Taker___init__ : List Str := ["self", "dues", "rows", "gang", "mine", "guild", "row"]
theorem nd_Taker___init__ : (n_Taker___init__).Nodup := by decide +kernel
def u_Taker___init__ : SS :=
  (.cons (.fset .gang (.var 0) (.var 3))
  (.cons (.set 4 (.call a_rows_of_guild (.cons (.var 2) (.cons (.bop sIx (.cons (.var 3) (.cons (.cst (.int 1)) .nil))) .nil))))
  (.cons (.fset .is_owed (.var 0) (.call a_owed (.cons (.bop sIx (.cons (.var 1) (.cons (.bop sIx (.cons (.var 3) (.cons (.cst (.int 1)) .nil))) .nil))) (.cons (.var 4) (.cons (.var 3) .nil)))))
  (.cons (.fset .is_own (.var 0) (.call a_own_with (.cons (.bop sIx (.cons (.var 1) (.cons (.bop sIx (.cons (.var 3) (.cons (.cst (.int 1)) .nil))) .nil))) (.cons (.var 4) (.cons (.var 3) .nil)))))
  (.cons (.fset .all_lent (.var 0) (.bop sLst .nil))
  (.cons (.fo (.name 5) isVal (.cons (.bop sSortSet (.cons (.lc (.name 6) isVal (.cons (.var 2) .nil) .nil (.bop sIx (.cons (.bop sIx (.cons (.var 6) (.cons (.cst (.int 0)) .nil))) (.cons (.cst (.int 1)) .nil)))) .nil)) .nil) (.cons (.expr (.mth (kL sExtend) (.bop (sFld .all_lent) (.cons (.var 0) .nil)) (.cons (.bop sIx (.cons (.call a_parted (.cons (.bop sIx (.cons (.var 1) (.cons (.var 5) .nil))) (.cons (.call a_rows_of_guild (.cons (.var 2) (.cons (.var 5) .nil))) .nil))) (.cons (.cst (.int 1)) .nil))) .nil)))
  .nil))
  .nil))))))
theorem body_Taker___init__ : ∀ (ss : List D) (m : MS) (P : NX) (Z : EZ), a_Taker___init__ ss m P Z → WB u_Taker___init__ (startR n_Taker___init__ ss) m (bodyE P Z) := by
  rintro _ m P Z ⟨p, pd, w, U, M, g, rfl, hp, hpd, ok, q⟩
  have npd : pd ≠ p := by rintro rfl; rw [hp] at hpd; cases hpd
  have hpd2 : ∀ X : Cell, mset m p X pd = some (.dct (duesK U)) := fun X => (mset_ne npd).trans hpd
  obtain ⟨gv, gl⟩ := ok.due ok.gg
  have hml := ok.ml
  have hw := ok.ww
  have hgl : (guildR M g.guild).length ≤ M.length := guild_len
  (conv => whnf)
  refine ⟨_, _, hp, ?_⟩
  (conv => whnf)
  refine ⟨_, rfl, ?_⟩
  (conv => whnf)
  refine ⟨M, g.guild, rfl, by omega, ?_⟩
  (conv => whnf)
  refine ⟨_, rfl, ?_⟩
  (conv => whnf)
  refine ⟨_, hpd2 _, _, gv, ?_⟩
  (conv => whnf)
  refine ⟨dueOf U g.guild, guildR M g.guild, g, rfl, ⟨by omega, by omega, by omega⟩, fun r hr => ?_, ⟨by have := ok.gw; omega, ok.gw.2⟩, ?_⟩
  · rw [gl]; exact ok.rows r (guild_sub r hr)
  (conv => whnf)
  refine ⟨_, _, mset_same, ?_⟩
  (conv => whnf)
  rw [mset_mset]
  refine ⟨_, rfl, ?_⟩
  (conv => whnf)
  refine ⟨_, hpd2 _, _, gv, ?_⟩
  (conv => whnf)
  refine ⟨dueOf U g.guild, guildR M g.guild, g, rfl, ⟨by omega, by omega, by omega⟩, fun r hr => ?_, ⟨by have := ok.gw; omega, ok.gw.2⟩, ?_⟩
  · rw [gl]; exact ok.rows r (guild_sub r hr)
  (conv => whnf)
  refine ⟨_, _, mset_same, ?_⟩
  (conv => whnf)
  rw [mset_mset]
  refine .inr fun pl hpl => ?_
  obtain ⟨npl, hpl0⟩ := new_ne hpl
  (conv => whnf)
  refine ⟨_, _, by rw [mset_ne npl.symm]; exact mset_same, ?_⟩
  (conv => whnf)
  refine lcNM M rgD (fun r => .str r.1.guild) rfl (by omega) trivial (fun r hr R2 r2 => ?_) (.inl ?_)
  · (conv => whnf)
    refine ⟨_, rfl, ?_⟩
    (conv => whnf)
    exact ⟨_, rfl, r2⟩
  (conv => whnf)
  refine ⟨M.map (·.1.guild), by rw [List.map_map]; rfl, by rw [List.length_map]; omega, fun K hK hKm ys hys hsr => .inl ?_⟩
  have hys2 : ys = srtT (dstS (M.map (·.1.guild))) := by
    have p1 : K.Perm (dstS (M.map (·.1.guild))) := perm_of_mem hK (dst_nd _) fun k => by rw [hKm, dst_mem]
    exact (srtT_eq (hys.trans p1) hsr).symm
  have hyU : ∀ y ∈ ys, y ∈ U.map (·.1) := fun y hy => by
    obtain ⟨r, hr, e⟩ := List.mem_map.mp ((hKm y).mp (hys.subset hy))
    exact e ▸ ok.guild r hr
  have hyl : ys.length ≤ 60 := by
    rw [hys2, (srtT_perm _).length_eq]
    have h1 : (dstS (M.map (·.1.guild))).length ≤ (M.map (·.1.guild)).length := dst_le _
    rw [List.length_map] at h1
    omega
  (conv => whnf)
  refine foN ys D.str (fun i ρ' m' => ∃ x5 : Option D, m' p = some (.ins .Taker [gD g, .bl (owedG U M g), .bl (ownG U M g), .raw (.ref pl)]) ∧ m' pl = some (.lst ((lentG U M (ys.take i)).map .str)) ∧ (∀ a, a ≠ p → m a ≠ none → m' a = m a) ∧ ρ' = [some (.raw (.ref p)), some (.raw (.ref pd)), some (rgsD M), some (gD g), some (rgsD (guildR M g.guild)), x5, none]) rfl ⟨_, mset_same, by rw [mset_ne npl]; exact mset_same, fun a a1 a2 => by
    have a3 : a ≠ pl := by rintro rfl; exact a2 hpl0
    rw [mset_ne a1, mset_ne a3, mset_ne a1], rfl⟩ (fun _ _ _ _ => trivial) ?_ ?_
  · rintro i y ρ' m' hy ⟨x5, hp2, hpl2, hoth, rfl⟩
    have hyM := List.mem_of_getElem? hy
    obtain ⟨yv, yl⟩ := ok.due (hyU y hyM)
    have hgl2 : (guildR M y).length ≤ M.length := guild_len
    have hpd3 : m' pd = some (.dct (duesK U)) := (hoth pd npd (by rw [hpd]; simp)).trans hpd
    (conv => whnf)
    refine ⟨_, _, hp2, ?_⟩
    (conv => whnf)
    refine ⟨_, hpl2, ?_⟩
    (conv => whnf)
    refine ⟨_, hpd3, _, yv, ?_⟩
    (conv => whnf)
    refine ⟨M, y, rfl, by omega, ?_⟩
    (conv => whnf)
    refine ⟨dueOf U y, guildR M y, rfl, ⟨by omega, by omega, by omega⟩, fun r hr => ?_, fun m2 po pl2 hup hc hne => ?_⟩
    · rw [yl]; exact ok.rows r (guild_sub r hr)
    (conv => whnf)
    refine ⟨_, rfl, ?_⟩
    (conv => whnf)
    refine ⟨_, hup _ _ hpl2, _, hc.2, ?_⟩
    have hl1 := lentG_len ok (ys.take i) fun z hz => hyU z (List.mem_of_mem_take hz)
    have hl2 := (part_len ok (hyU y hyM)).2
    have hl3 : (ys.take i).length ≤ 60 := by rw [List.length_take]; omega
    have hl4 : ((prtT (dueOf U y) ((ordG (guildR M y)).map (·.1))).lent.map D.str).length ≤ 60 := by rw [List.length_map]; exact hl2
    refine ⟨by rw [List.length_map]; omega, ?_⟩
    refine ⟨_, (mset_ne npl.symm).trans (hup _ _ hp2), ?_, fun a a1 a2 => ?_, rfl⟩
    · rw [mset_same, take_succ hy]
      unfold lentG
      rw [List.flatMap_append, List.map_append, List.flatMap_singleton]
      rfl
    · have a3 : a ≠ pl := by rintro rfl; exact a2 hpl0
      rw [mset_ne a3]
      cases e : m a with
      | none => exact absurd e a2
      | some c => exact hup _ _ ((hoth a a1 a2).trans e)
  · rintro ρ' m' ⟨x5, hp2, hpl2, hoth, rfl⟩
    rw [List.take_length, hys2] at hpl2
    (conv => whnf)
    exact ret (q m' pl hp2 hpl2 hoth ⟨npl, hpl0⟩)

end My
namespace My
open PySem PySem.Spec L2 Nu
open PyProof.Rows hiding St
/-! ### Taker_ground_for -/
def a_Taker_ground_for : ASp := fun ss m P _ => ∃ (p pl : Addr) (g o : Gang) (ow on : Bool) (lent : List Str), ss = [.raw (.ref p), gD o] ∧ m p = some (.ins .Taker [gD g, .bl ow, .bl on, .raw (.ref pl)]) ∧ m pl = some (.lst (lent.map .str)) ∧ P (grD (grnd g ow on lent o)) m
theorem len_Taker_ground_for : ∀ ss m P Z, a_Taker_ground_for ss m P Z → ss.length = 2 := by
  rintro _ m P Z ⟨a, b, c, d, e, f, g, rfl, _⟩; rfl
abbrev n_Taker_ground_for : List Str := ["self", "other", "is_mine"]
theorem nd_Taker_ground_for : (n_Taker_ground_for).Nodup := by decide +kernel
def u_Taker_ground_for : SS :=
  (.cons (.set 2 (.bop sEq (.cons (.bop sIx (.cons (.var 1) (.cons (.cst (.int 1)) .nil))) (.cons (.bop sIx (.cons (.bop (sFld .gang) (.cons (.var 0) .nil)) (.cons (.cst (.int 1)) .nil))) .nil))))
  (.cons (.iff (.and2 (.bop sNotIn (.cons (.bop sIx (.cons (.var 1) (.cons (.cst (.int 0)) .nil))) (.cons (.bop (sFld .all_lent) (.cons (.var 0) .nil)) .nil))) (.bop sNot (.cons (.and2 (.var 2) (.bop (sFld .is_own) (.cons (.var 0) .nil))) .nil))) (.cons (.ret (.cst .non))
  .nil) .nil)
  (.cons (.iff (.and2 (.bop sNot (.cons (.var 2) .nil)) (.bop (sFld .is_owed) (.cons (.var 0) .nil))) (.cons (.ret (.cst (.str "share")))
  .nil) .nil)
  (.cons (.iff (.bop (sCmp .lt) (.cons (.bop sIx (.cons (.var 1) (.cons (.cst (.int 2)) .nil))) (.cons (.bop sIx (.cons (.bop (sFld .gang) (.cons (.var 0) .nil)) (.cons (.cst (.int 2)) .nil))) .nil))) (.cons (.ret (.cst (.str "rank")))
  .nil) .nil)
  (.cons (.ret (.cst .non))
  .nil)))))
theorem body_Taker_ground_for : ∀ (ss : List D) (m : MS) (P : NX) (Z : EZ), a_Taker_ground_for ss m P Z → WB u_Taker_ground_for (startR n_Taker_ground_for ss) m (bodyE P Z) := by
  rintro _ m P Z ⟨p, pl, g, o, ow, on, lent, rfl, hp, hpl, q⟩
  (conv => whnf)
  refine ⟨_, rfl, ?_⟩
  (conv => whnf)
  refine ⟨_, _, hp, ?_⟩
  (conv => whnf)
  refine ⟨_, rfl, ?_⟩
  (conv => whnf)
  refine ⟨_, rfl, ?_⟩
  (conv => whnf)
  refine ⟨_, _, hp, ?_⟩
  (conv => whnf)
  refine ⟨_, hpl, .inl ⟨rfl, flat_strs _, ?_⟩⟩
  rw [any_str]
  refine ⟨_, rfl, .inl ⟨!(decide (o.guild = g.guild) && on), fun _ => ?_, ?_⟩⟩
  · (conv => whnf)
    refine ⟨_, rfl, .inl ⟨on, fun _ => ?_, ?_⟩⟩
    · (conv => whnf)
      refine ⟨_, _, hp, ?_⟩
      exact ⟨rfl, rfl⟩
    · exact ⟨rfl, rfl⟩
  have q' := q
  unfold grnd at q'
  refine ⟨_, rfl, fun c => ?_, fun c => ?_⟩
  · rw [if_pos c] at q'
    (conv => whnf)
    exact ret q'
  · rw [if_neg (by rw [c]; decide)] at q'
    (conv => whnf)
    refine ⟨_, rfl, .inl ⟨ow, fun _ => ?_, ?_⟩⟩
    · (conv => whnf)
      refine ⟨_, _, hp, ?_⟩
      exact ⟨rfl, rfl⟩
    refine ⟨_, rfl, fun c => ?_, fun c => ?_⟩
    · rw [if_pos c] at q'
      (conv => whnf)
      exact ret q'
    · rw [if_neg (by rw [c]; decide)] at q'
      (conv => whnf)
      refine ⟨_, rfl, ?_⟩
      (conv => whnf)
      refine ⟨_, _, hp, ?_⟩
      (conv => whnf)
      refine ⟨_, rfl, ?_⟩
      refine ⟨decide (o.rank < g.rank), rfl, fun c => ?_, fun c => ?_⟩
      · rw [if_pos c] at q'
        (conv => whnf)
        exact ret q'
      · rw [if_neg (by rw [c]; decide)] at q'
        (conv => whnf)
        exact ret q'

end My
namespace My
open PySem PySem.Spec L2 Nu
open PyProof.Rows hiding St
/-! ### taken_by -/
def a_taken_by : ASp := fun ss m P _ => ∃ r : RowG, ss = [rgD r] ∧ P (keyT r) m
theorem len_taken_by : ∀ ss m P Z, a_taken_by ss m P Z → ss.length = 1 := by
  rintro _ m P Z ⟨a, rfl, _⟩; rfl
abbrev n_taken_by : List Str := ["row"]
theorem nd_taken_by : (n_taken_by).Nodup := by decide +kernel
def u_taken_by : SS :=
  (.cons (.ret (.bop sTup (.cons (.bop sIx (.cons (.bop sIx (.cons (.var 0) (.cons (.cst (.int 0)) .nil))) (.cons (.cst (.int 2)) .nil))) (.cons (.bop sNeg (.cons (.bop sIx (.cons (.var 0) (.cons (.cst (.int 1)) .nil))) .nil)) .nil))))
  .nil)
theorem body_taken_by : ∀ (ss : List D) (m : MS) (P : NX) (Z : EZ), a_taken_by ss m P Z → WB u_taken_by (startR n_taken_by ss) m (bodyE P Z) := by
  rintro _ m P Z ⟨r, rfl, q⟩
  (conv => whnf)
  refine ⟨_, rfl, ?_⟩
  (conv => whnf)
  refine ⟨_, rfl, ?_⟩
  (conv => whnf)
  refine ⟨_, rfl, ?_⟩
  (conv => whnf)
  exact ret q

end My
namespace My
open PySem PySem.Spec L2 Nu
open PyProof.Rows hiding St
/-! ### may_take -/
def a_may_take : ASp := fun ss m P _ => ∃ (pd : Addr) (w : Nat) (U : Dues) (M : List RowG) (ns : List Str) (g : Gang), ss = [.raw (.ref pd), rgsD M, .lst (ns.map .str), gD g] ∧ m pd = some (.dct (duesK U)) ∧ TkOk w U M g ∧ ns.length ≤ 1000 ∧ ∀ m' pf, MLe m m' → m' pf = some (.lst ((foundG U M ns g).map fnD)) → m pf = none → P (.raw (.ref pf)) m'
theorem len_may_take : ∀ ss m P Z, a_may_take ss m P Z → ss.length = 4 := by
  rintro _ m P Z ⟨a, b, c, d, e, f, rfl, _⟩; rfl
abbrev n_may_take : List Str := ["dues", "rows", "names", "gang", "taker", "found", "other", "number", "ground"]
theorem nd_may_take : (n_may_take).Nodup := by decide +kernel
def u_may_take : SS :=
  (.cons (.set 4 (.make .Taker a_Taker___init__ (.cons (.var 0) (.cons (.var 1) (.cons (.var 3) .nil)))))
  (.cons (.set 5 (.bop sLst .nil))
  (.cons (.fo (.tup (.cons (.name 6) (.cons (.name 7) .nil))) isVal (.cons (.bop (sSortK a_taken_by) (.cons (.var 1) .nil)) .nil) (.cons (.set 8 (.meth .Taker a_Taker_ground_for (.var 4) (.cons (.var 6) .nil)))
  (.cons (.iff (.and2 (.bop sIn (.cons (.bop sIx (.cons (.var 6) (.cons (.cst (.int 0)) .nil))) (.cons (.var 2) .nil))) (.bop sIsnt (.cons (.var 8) (.cons (.cst .non) .nil)))) (.cons (.expr (.mth (kL sAppend) (.var 5) (.cons (.bop sTup (.cons (.bop sIx (.cons (.var 6) (.cons (.cst (.int 0)) .nil))) (.cons (.var 8) .nil))) .nil)))
  .nil) .nil)
  .nil)))
  (.cons (.ret (.var 5))
  .nil))))
theorem body_may_take : ∀ (ss : List D) (m : MS) (P : NX) (Z : EZ), a_may_take ss m P Z → WB u_may_take (startR n_may_take ss) m (bodyE P Z) := by
  rintro _ m P Z ⟨pd, w, U, M, ns, g, rfl, hpd, ok, hnl, q⟩
  have hml := ok.ml
  (conv => whnf)
  refine fun p hp => ⟨p, pd, w, U, M, g, rfl, mset_same, (mset_ne (by rintro rfl; rw [hp] at hpd; cases hpd)).trans hpd, ok, fun m1 pl h1 h2 h3 h4 => ⟨rfl, ?_⟩⟩
  have hup1 : MLe m m1 := fun a c e => by
    have a1 : a ≠ p := by rintro rfl; rw [hp] at e; cases e
    rw [h3 a a1 (by rw [mset_ne a1, e]; simp), mset_ne a1]; exact e
  (conv => whnf)
  refine .inr fun pf hpf => ?_
  (conv => whnf)
  have npf : pf ≠ p := by rintro rfl; rw [h1] at hpf; cases hpf
  have npl : pl ≠ pf := by rintro rfl; rw [h2] at hpf; cases hpf
  have hkey : ∀ (i : Nat) (x d : D), (M.map rgD)[i]? = some x → (M.map keyT)[i]? = some d → a_taken_by [x] (mset m1 pf (.lst [])) (fun d' m' => d' = d ∧ m' = mset m1 pf (.lst [])) EZ0 := fun i x d hx hd => by
    rw [List.getElem?_map] at hx hd
    obtain ⟨r, hr, rfl⟩ := Option.map_eq_some_iff.mp hx
    obtain ⟨r2, hr2, rfl⟩ := Option.map_eq_some_iff.mp hd
    rw [hr] at hr2; cases hr2
    exact ⟨r, rfl, rfl, rfl⟩
  refine ⟨M.map keyT, by rw [List.length_map, List.length_map], ⟨pl_keysT M, keysT_alike M, keysT_srt M⟩, hkey, ?_⟩
  rw [srtKT_map ok.nd]
  refine .inl ?_
  (conv => whnf)
  refine foP (Gt := .tup _) (ordG M).reverse rgD (fun i ρ' m' => ∃ x6 x7 x8 : Option D, m' = mset m1 pf (.lst ((((ordG M).reverse.take i).filterMap (stepF U M ns g)).map fnD)) ∧ ρ' = [some (.raw (.ref pd)), some (rgsD M), some (.lst (ns.map .str)), some (gD g), some (.raw (.ref p)), some (.raw (.ref pf)), x6, x7, x8]) rfl ⟨_, _, _, rfl, rfl⟩ (fun _ _ _ _ => trivial) ?_ ?_
  · rintro i r ρ' m' hr ⟨x6, x7, x8, rfl, rfl⟩
    refine ⟨_, rfl, ?_⟩
    (conv => whnf)
    refine ⟨p, _, rfl, (mset_ne npf.symm).trans h1, ?_⟩
    (conv => whnf)
    refine ⟨p, pl, g, r.1, _, _, _, rfl, (mset_ne npf.symm).trans h1, (mset_ne npl).trans h2, ?_⟩
    (conv => whnf)
    refine ⟨_, rfl, ?_⟩
    (conv => whnf)
    refine .inl ⟨rfl, flat_strs _, ?_⟩
    rw [any_str]
    have hlen : (((ordG M).reverse.take i).filterMap (stepF U M ns g)).length ≤ 60 := by
      refine Nat.le_trans (List.length_filterMap_le ..) ?_
      rw [List.length_take, List.length_reverse, (ordG_perm M).length_eq]
      omega
    have hst : ∀ x, grG U M g r.1 = x → (((ordG M).reverse.take (i + 1)).filterMap (stepF U M ns g)) = ((ordG M).reverse.take i).filterMap (stepF U M ns g) ++ (if decide (r.1.name ∈ ns) then x.map fun y => (r.1.name, y) else none).toList := fun x e => by
      rw [take_succ hr, List.filterMap_append]
      congr 1
      unfold stepF
      rw [List.filterMap_cons, List.filterMap_nil, e]
      cases (if decide (r.1.name ∈ ns) then x.map fun y => (r.1.name, y) else none) <;> rfl
    show ∃ k, _ = _ ∧ _
    have hx : grnd g (owedG U M g) (ownG U M g) (lentG U M (srtT (dstS (M.map (·.1.guild))))) r.1 = grG U M g r.1 := rfl
    rw [hx]
    revert hst
    generalize grG U M g r.1 = x
    intro hst
    have hst := hst x rfl
    refine ⟨_, rfl, .inl ⟨x.isSome, fun _ => ?_, ?_⟩⟩
    · (conv => whnf)
      cases x with
      | none => exact ⟨rfl, rfl⟩
      | some y => exact ⟨rfl, rfl⟩
    refine ⟨_, rfl, fun c => ?_, fun c => ?_⟩
    · rw [Bool.and_eq_true] at c
      obtain ⟨c1, c2⟩ := c
      cases x with
      | none => cases c2
      | some y =>
        rw [if_pos c1] at hst
        (conv => whnf)
        refine ⟨_, mset_same, ?_⟩
        (conv => whnf)
        refine ⟨_, rfl, ?_⟩
        (conv => whnf)
        refine ⟨_, mset_same, by rw [List.length_map]; omega, ?_⟩
        rw [mset_mset]
        refine ⟨_, _, _, ?_, rfl⟩
        rw [hst, List.map_append]; rfl
    · refine ⟨_, _, _, ?_, rfl⟩
      have e : (if decide (r.1.name ∈ ns) then x.map fun y => (r.1.name, y) else none) = none := by
        cases x with
        | none => simp
        | some y =>
          have : decide (r.1.name ∈ ns) = false := by simpa using c
          rw [if_neg (by rw [this]; decide)]
      rw [hst, e]
      simp
  · rintro ρ' m' ⟨x6, x7, x8, rfl, rfl⟩
    rw [List.take_length]
    (conv => whnf)
    exact ret (q _ pf (hup1.trans (mle_new hpf)) mset_same (by
      cases e : m pf with
      | none => rfl
      | some c => rw [hup1 _ _ e] at hpf; cases hpf))

end My
namespace My
open PySem PySem.Spec L2 Nu
open PyProof.Rows hiding St
/-! ### prtw -/
/-! ### the own ones and the lent ones, by their names -/
theorem snocInd {α : Type} {Q : List α → Prop} (nil : Q []) (snoc : ∀ L a, Q L → Q (L ++ [a])) (L : List α) : Q L := by
  have h : ∀ M : List α, Q M.reverse := fun M => by
    induction M with
    | nil => exact nil
    | cons a M ih => rw [List.reverse_cons]; exact snoc _ _ ih
  have := h L.reverse
  rwa [List.reverse_reverse] at this
def brn (n : Nat) (L : List Gang) : List Int := L.foldl (fun b g => sumL b (wholeG g)) (List.replicate n 0)
theorem brn_snoc (n : Nat) (L : List Gang) (g : Gang) : brn n (L ++ [g]) = sumL (brn n L) (wholeG g) := by unfold brn; rw [List.foldl_append]; rfl
theorem brn_len {n : Nat} {L : List Gang} (h : ∀ g ∈ L, g.want.length = n) : (brn n L).length = n := by
  suffices H : ∀ (L : List Gang) (b : List Int), b.length = n → (∀ g ∈ L, g.want.length = n) → (L.foldl (fun b g => sumL b (wholeG g)) b).length = n from H L _ (List.length_replicate ..) h
  intro L
  induction L with
  | nil => intro b hb _; exact hb
  | cons a L ih =>
    intro b hb hL
    refine ih _ ?_ fun g hg => hL g (List.mem_cons_of_mem _ hg)
    rw [sumL_len (by unfold wholeG; rw [List.length_map]; have := hL a (List.mem_cons_self ..); omega)]
    exact hb
theorem brn_at {n : Nat} {k : Nat} (hk : k < n) : ∀ (L : List Gang), (∀ g ∈ L, g.want.length = n) → (brn n L).getD k 0 = (L.map fun g => g.many * g.want.getD k 0).sum := by
  suffices H : ∀ (L : List Gang) (b : List Int), b.length = n → (∀ g ∈ L, g.want.length = n) → (L.foldl (fun b g => sumL b (wholeG g)) b).getD k 0 = b.getD k 0 + (L.map fun g => g.many * g.want.getD k 0).sum by
    intro L hL
    have := H L (List.replicate n 0) (List.length_replicate ..) hL
    unfold brn
    rw [this, List.getD_eq_getElem?_getD, List.getElem?_replicate, if_pos hk]
    simp
  intro L
  induction L with
  | nil => intro b hb _; simp
  | cons a L ih =>
    intro b hb hL
    have ha := hL a (List.mem_cons_self ..)
    rw [List.foldl_cons, ih _ (by rw [sumL_len (by unfold wholeG; rw [List.length_map]; omega)]; exact hb) (fun g hg => hL g (List.mem_cons_of_mem _ hg)), List.map_cons, List.sum_cons]
    have e : (sumL b (wholeG a)).getD k 0 = b.getD k 0 + a.many * a.want.getD k 0 := by
      have e := congrArg (fun l : List D => l[k]?) (range_sum (c := a.many) hb ha)
      rw [List.getElem?_map, List.getElem?_range hk, List.getElem?_map] at e
      have e2 : (sumL b (a.want.map fun v => v * a.many))[k]? = some (b.getD k 0 + a.many * a.want.getD k 0) := by
        cases h : (sumL b (a.want.map fun v => v * a.many))[k]? with
        | none => rw [h] at e; cases e
        | some z => rw [h] at e; have := D.int.inj (Option.some.inj e); rw [this]
      rw [List.getD_eq_getElem?_getD]
      unfold wholeG
      rw [e2]; rfl
    rw [e]
    omega
theorem brn_range {n : Nat} {L : List Gang} (h : ∀ g ∈ L, g.want.length = n) : (List.range n).map (fun k => D.int ((L.map fun g => g.many * g.want.getD k 0).sum)) = (brn n L).map .int := by
  have hl := brn_len h
  refine List.ext_getElem? fun i => ?_
  by_cases hi : i < n
  · rw [List.getElem?_map, List.getElem?_range hi, List.getElem?_map, List.getElem?_eq_getElem (by omega)]
    have := brn_at hi L h
    rw [List.getD_eq_getElem?_getD, List.getElem?_eq_getElem (by omega)] at this
    simp only [Option.map_some, Option.getD_some] at this ⊢
    rw [← this]
  · rw [List.getElem?_eq_none (by rw [List.length_map, List.length_range]; omega), List.getElem?_eq_none (by rw [List.length_map]; omega)]
section
variable {due : List Int}
theorem own_names {L : List Gang} {y : Str} (h : y ∈ (prtT due L).own) : y ∈ L.map (·.name) := by
  rcases (go_own L (prt0 due)).1 y h with h | h
  · cases h
  · exact h
/-- own and lent: those names that are own, and those that are not -/
theorem prt_filt : ∀ (L1 : List Gang), (L1.map (·.name)).Nodup → (prtT due L1).own = (L1.map (·.name)).filter (fun y => decide (y ∈ (prtT due L1).own)) ∧ (prtT due L1).lent = (L1.map (·.name)).filter (fun y => !decide (y ∈ (prtT due L1).own)) := by
  intro L
  induction L using snocInd with
  | nil => intro _; exact ⟨rfl, rfl⟩
  | snoc L g ih =>
    intro nd
    rw [List.map_append, List.nodup_append] at nd
    obtain ⟨nd1, _, hne⟩ := nd
    have hg : g.name ∉ L.map (·.name) := fun c => hne _ c _ (by simp) rfl
    obtain ⟨i1, i2⟩ := ih nd1
    have hgo : g.name ∉ (prtT due L).own := fun c => hg (own_names c)
    have keep : ∀ (b : List Str), (∀ y ∈ b, y = g.name) → ∀ y ∈ L.map (·.name), decide (y ∈ (prtT due L).own ++ b) = decide (y ∈ (prtT due L).own) := fun b hb y hy => by
      rw [decide_eq_decide, List.mem_append]
      exact ⟨fun h => h.elim id fun c => absurd (hb y c ▸ hy) hg, .inl⟩
    rw [prt_snoc, List.map_append]
    unfold stepP
    split
    · rw [List.filter_append, List.filter_append]
      refine ⟨?_, ?_⟩
      · rw [List.filter_congr (keep [g.name] (by simp)), ← i1]
        simp
      · rw [List.filter_congr (q := fun y => !decide (y ∈ (prtT due L).own)) (fun y hy => by rw [keep [g.name] (by simp) y hy]), ← i2]
        simp
    · rw [List.filter_append, List.filter_append]
      refine ⟨?_, ?_⟩
      · rw [← i1]; simp [hgo]
      · rw [← i2]; simp [hgo]
theorem pref_own (L1 L2 : List Gang) (s : Prt) : ∃ X Y : List Str, (L2.foldl (stepP due) s).own = s.own ++ X ∧ (L2.foldl (stepP due) s).lent = s.lent ++ Y ∧ (∀ y ∈ X, y ∈ L2.map (·.name)) ∧ ∀ y ∈ Y, y ∈ L2.map (·.name) := by
  induction L2 generalizing s with
  | nil => exact ⟨[], [], by simp, by simp, by simp, by simp⟩
  | cons g L ih =>
    obtain ⟨X, Y, e1, e2, h1, h2⟩ := ih (stepP due s g)
    rw [List.foldl_cons, e1, e2]
    unfold stepP
    split
    · exact ⟨g.name :: X, Y, by simp, rfl, fun y hy => (List.mem_cons.mp hy).elim (fun c => by rw [c]; simp) fun hy => List.mem_cons_of_mem _ (h1 y hy), fun y hy => List.mem_cons_of_mem _ (h2 y hy)⟩
    · exact ⟨X, g.name :: Y, rfl, by simp, fun y hy => List.mem_cons_of_mem _ (h1 y hy), fun y hy => (List.mem_cons.mp hy).elim (fun c => by rw [c]; simp) fun hy => List.mem_cons_of_mem _ (h2 y hy)⟩
theorem prt_pref {L1 L2 : List Gang} (nd : ((L1 ++ L2).map (·.name)).Nodup) : (prtT due L1).own = (prtT due (L1 ++ L2)).own.filter (fun y => decide (y ∈ L1.map (·.name))) ∧ (prtT due L1).lent = (prtT due (L1 ++ L2)).lent.filter (fun y => decide (y ∈ L1.map (·.name))) := by
  rw [List.map_append, List.nodup_append] at nd
  obtain ⟨nd1, _, hne⟩ := nd
  obtain ⟨X, Y, e1, e2, h1, h2⟩ := pref_own (due := due) L1 L2 (prtT due L1)
  have e : prtT due (L1 ++ L2) = L2.foldl (stepP due) (prtT due L1) := by unfold prtT; rw [List.foldl_append]
  rw [e, e1, e2, List.filter_append, List.filter_append]
  obtain ⟨p1, p2⟩ := prt_filt (due := due) L1 nd1
  have k1 : ∀ y ∈ (prtT due L1).own, y ∈ L1.map (·.name) := fun y => own_names
  have k2 : ∀ y ∈ (prtT due L1).lent, y ∈ L1.map (·.name) := fun y hy => by rw [p2] at hy; exact (List.mem_filter.mp hy).1
  have none : ∀ Z : List Str, (∀ y ∈ Z, y ∈ L2.map (·.name)) → Z.filter (fun y => decide (y ∈ L1.map (·.name))) = [] := fun Z hZ => List.filter_eq_nil_iff.mpr fun y hy c => hne y (of_decide_eq_true c) y (hZ y hy) rfl
  rw [none X h1, none Y h2, List.append_nil, List.append_nil, List.filter_eq_self.mpr fun y hy => decide_eq_true (k1 y hy), List.filter_eq_self.mpr fun y hy => decide_eq_true (k2 y hy)]
  exact ⟨rfl, rfl⟩
/-- what is own ahead of a place, and what it bears -/
theorem brn_own {A B : List Gang} {g : Gang} (nd : ((A ++ g :: B).map (·.name)).Nodup) : decide (g.name ∈ (prtT due (A ++ g :: B)).own) = fitsL (sumL (prtT due A).borne (wholeG g)) due := by
  rw [List.map_append, List.map_cons, List.nodup_append, List.nodup_cons] at nd
  obtain ⟨_, ⟨hB, _⟩, hne⟩ := nd
  exact own_ins (fun c => hne _ c _ (by simp) rfl) hB
theorem brn_pre {L : List Gang} (nd : (L.map (·.name)).Nodup) : ∀ (A B : List Gang), L = A ++ B → brn due.length (A.filter fun g => decide (g.name ∈ (prtT due L).own)) = (prtT due A).borne ∧ prtT due (A.filter fun g => decide (g.name ∈ (prtT due L).own)) = ⟨(prtT due A).own, [], (prtT due A).borne⟩ := by
  intro A
  induction A using snocInd with
  | nil => intro B _; exact ⟨rfl, rfl⟩
  | snoc A g ih =>
    intro B e
    rw [List.append_assoc, List.singleton_append] at e
    obtain ⟨i1, i2⟩ := ih (g :: B) e
    subst e
    have h := brn_own (due := due) nd
    rw [List.filter_append, prt_snoc]
    unfold stepP
    cases c : fitsL (sumL (prtT due A).borne (wholeG g)) due with
    | true =>
      rw [c] at h
      have e1 : [g].filter (fun k => decide (k.name ∈ (prtT due (A ++ g :: B)).own)) = [g] := List.filter_cons_of_pos h
      rw [e1, brn_snoc, prt_snoc, i1, i2]
      unfold stepP
      rw [c]
      exact ⟨rfl, rfl⟩
    | false =>
      rw [c] at h
      have e1 : [g].filter (fun k => decide (k.name ∈ (prtT due (A ++ g :: B)).own)) = [] := List.filter_cons_of_neg (by show ¬ decide (g.name ∈ _) = true; rw [h]; decide)
      rw [e1, List.append_nil, i1, i2]
      exact ⟨rfl, rfl⟩
theorem fits_all {L : List Gang} (h : ∀ v ∈ due, 0 ≤ v) : fitsL (prtT due L).borne due = true := by
  induction L using snocInd with
  | nil =>
    show fitsL (List.replicate due.length 0) due = true
    unfold fitsL
    rw [List.all_eq_true]
    intro p hp
    obtain ⟨i, hi⟩ := List.getElem?_of_mem hp
    rw [List.getElem?_zip_eq_some] at hi
    have e := List.mem_of_getElem? hi.1
    rw [(List.mem_replicate.mp e).2]
    exact decide_eq_true (h _ (List.mem_of_getElem? hi.2))
  | snoc L g ih =>
    rw [prt_snoc]
    unfold stepP
    split
    · assumption
    · exact ih
end
/-- the order of some of the rows -/
theorem ordG_filt {R : List RowG} (nd : (R.map (·.2)).Nodup) (q : RowG → Bool) : ordG (R.filter q) = (ordG R).filter q :=
  (ordG_uniq ((List.filter_sublist.map _).nodup nd) ((ordG_perm R).symm.filter q) ((ordG_pw R).filter q)).symm
theorem ordG_take {R : List RowG} (nd : (R.map (·.2)).Nodup) (k : Nat) : ordG ((ordG R).take k) = (ordG R).take k :=
  (ordG_uniq ((((List.take_sublist k _).map _)).nodup (((ordG_perm R).map _).nodup_iff.mpr nd)) (List.Perm.refl _) ((ordG_pw R).sublist (List.take_sublist k _))).symm

end My
namespace My
open PySem PySem.Spec L2 Nu
open PyProof.Rows hiding St
/-! ### kall -/
/-! ### when all are taken -/
section
variable {due : List Int}
/-- lent ones gone: the own ones stay -/
theorem prt_drop {L : List Gang} (nd : (L.map (·.name)).Nodup) {q : Gang → Bool} (hq : ∀ a ∈ L, q a = false → a.name ∉ (prtT due L).own) : ∀ (A B : List Gang), L = A ++ B → (prtT due (A.filter q)).own = (prtT due A).own ∧ (prtT due (A.filter q)).borne = (prtT due A).borne := by
  intro A
  induction A using snocInd with
  | nil => intro B _; exact ⟨rfl, rfl⟩
  | snoc A g ih =>
    intro B e
    rw [List.append_assoc, List.singleton_append] at e
    obtain ⟨i1, i2⟩ := ih (g :: B) e
    have hg : g ∈ L := by rw [e]; simp
    have hqg := hq g hg
    subst e
    have h := brn_own (due := due) nd
    rw [List.filter_append, prt_snoc]
    cases c : q g with
    | true =>
      have e1 : [g].filter q = [g] := List.filter_cons_of_pos c
      rw [e1, prt_snoc]
      unfold stepP
      rw [i2]
      split
      · exact ⟨by show _ ++ _ = _; rw [i1], rfl⟩
      · exact ⟨i1, rfl⟩
    | false =>
      have e1 : [g].filter q = [] := List.filter_cons_of_neg (by rw [c]; decide)
      have hn := hqg c
      rw [decide_eq_false hn] at h
      rw [e1, List.append_nil]
      unfold stepP
      rw [← h]
      exact ⟨i1, i2⟩
theorem prt_drop' {L : List Gang} (nd : (L.map (·.name)).Nodup) {q : Gang → Bool} (hq : ∀ a ∈ L, q a = false → a.name ∉ (prtT due L).own) : (prtT due (L.filter q)).own = (prtT due L).own ∧ (prtT due (L.filter q)).borne = (prtT due L).borne := prt_drop nd hq L [] (List.append_nil L).symm
/-- who is lent -/
theorem lent_iff {L : List Gang} (nd : (L.map (·.name)).Nodup) {y : Str} : y ∈ (prtT due L).lent ↔ y ∈ L.map (·.name) ∧ y ∉ (prtT due L).own := by
  rw [(prt_filt (due := due) L nd).2, List.mem_filter]
  simp
/-- what is borne doesn't get less -/
theorem brn_mono {n : Nat} : ∀ (L : List Gang) (s : Prt), s.borne.length = n → (∀ g ∈ L, g.want.length = n ∧ 1 ≤ g.many ∧ ∀ v ∈ g.want, 0 ≤ v) → ∀ k, s.borne.getD k 0 ≤ (L.foldl (stepP due) s).borne.getD k 0
  | [], s, _, _, k => Int.le_refl _
  | g :: L, s, hs, hL, k => by
    obtain ⟨h1, h2, h3⟩ := hL g (List.mem_cons_self ..)
    have hlen : (stepP due s g).borne.length = n := by
      unfold stepP
      split
      · show (sumL s.borne (wholeG g)).length = n
        rw [sumL_len (by unfold wholeG; rw [List.length_map]; omega)]; exact hs
      · exact hs
    refine Int.le_trans ?_ (brn_mono L (stepP due s g) hlen (fun a ha => hL a (List.mem_cons_of_mem _ ha)) k)
    unfold stepP
    split
    · show s.borne.getD k 0 ≤ (sumL s.borne (wholeG g)).getD k 0
      unfold sumL wholeG
      rw [List.getD_eq_getElem?_getD, List.getD_eq_getElem?_getD, List.getElem?_zipWith, List.getElem?_map]
      by_cases hk : k < n
      · rw [List.getElem?_eq_getElem (by omega), List.getElem?_eq_getElem (by omega)]
        have := Int.mul_nonneg (h3 _ (List.getElem_mem (show k < g.want.length by omega))) (show 0 ≤ g.many by omega)
        show s.borne[k] ≤ s.borne[k] + g.want[k] * g.many
        omega
      · rw [List.getElem?_eq_none (by omega)]
        simp
    · exact Int.le_refl _
theorem fits_mono {a b c : List Int} (h : ∀ k, a.getD k 0 ≤ b.getD k 0) (hl : a.length = b.length) (hc : c.length = b.length) {g : List Int} (hg : g.length = b.length) (f : fitsL (sumL b g) c = true) : fitsL (sumL a g) c = true := by
  have e1 := range_fits (n := b.length) (a := sumL b g) (b := c) (by rw [sumL_len (by omega)]) hc
  have e2 := range_fits (n := b.length) (a := sumL a g) (b := c) (by rw [sumL_len (by omega)]; omega) hc
  rw [← e2]
  rw [← e1] at f
  rw [List.all_map, List.all_eq_true] at f ⊢
  intro k hk
  have fk := f k hk
  have hk := List.mem_range.mp hk
  dsimp only [Function.comp, id] at fk ⊢
  have fk := of_decide_eq_true fk
  refine decide_eq_true (Int.le_trans ?_ fk)
  have hkk := h k
  unfold sumL
  rw [List.getD_eq_getElem?_getD, List.getD_eq_getElem?_getD] at hkk
  rw [List.getD_eq_getElem?_getD, List.getD_eq_getElem?_getD, List.getElem?_zipWith, List.getElem?_zipWith, List.getElem?_eq_getElem (show k < a.length by omega), List.getElem?_eq_getElem (show k < b.length by omega), List.getElem?_eq_getElem (show k < g.length by omega)]
  rw [List.getElem?_eq_getElem (show k < a.length by omega), List.getElem?_eq_getElem (show k < b.length by omega)] at hkk
  show a[k] + g[k] ≤ b[k] + g[k]
  have : a[k] ≤ b[k] := hkk
  omega
end
theorem pw_split {α : Type} {R : α → α → Prop} {p : α → Bool} (hR : ∀ a b, R a b → p b = true → p a = true) : ∀ {l : List α}, l.Pairwise R → l = l.filter p ++ l.filter (fun a => !p a)
  | [], _ => rfl
  | a :: l, h => by
    obtain ⟨h1, h2⟩ := List.pairwise_cons.mp h
    have ih := pw_split hR h2
    cases c : p a with
    | true =>
      rw [List.filter_cons_of_pos c, List.filter_cons_of_neg (by simp [c]), List.cons_append, ← ih]
    | false =>
      have e : l.filter p = [] := List.filter_eq_nil_iff.mpr fun b hb k => by rw [hR a b (h1 b hb) k] at c; cases c
      rw [List.filter_cons_of_neg (by simp [c]), List.filter_cons_of_pos (by simp [c]), e, List.nil_append]
      rw [e, List.nil_append] at ih
      rw [← ih]
structure KOk (M : List RowG) : Prop where
  nm : (M.map (·.1.name)).Nodup
  nn : ∀ r ∈ M, ∀ v ∈ r.1.want, 0 ≤ v
def lyG (M : List RowG) (y : Str) : List Gang := (ordG (guildR M y)).map (·.1)
section
variable {w : Nat} {U : Dues} {M : List RowG} {g : Gang}
theorem row_inj (k : KOk M) {a b : RowG} (ha : a ∈ M) (hb : b ∈ M) (e : a.1.name = b.1.name) : a = b := injG (key := fun r : RowG => r.1.name) k.nm ha hb e
theorem ly_mem {y : Str} {a : Gang} : a ∈ lyG M y ↔ ∃ r ∈ M, r.1.guild = y ∧ r.1 = a := by
  unfold lyG
  rw [List.mem_map]
  constructor
  · rintro ⟨r, hr, e⟩
    have := (ordG_perm _).subset hr
    unfold guildR at this
    rw [List.mem_filter, decide_eq_true_eq] at this
    exact ⟨r, this.1, this.2, e⟩
  · rintro ⟨r, hr, hy, e⟩
    exact ⟨r, (ordG_perm _).symm.subset (by unfold guildR; rw [List.mem_filter, decide_eq_true_eq]; exact ⟨hr, hy⟩), e⟩
theorem ly_nd (k : KOk M) {y : Str} : ((lyG M y).map (·.name)).Nodup := by
  unfold lyG
  rw [List.map_map]
  have : ((guildR M y).map (·.1.name)).Nodup := (List.filter_sublist.map _).nodup k.nm
  exact (((ordG_perm (guildR M y)).map (fun r : RowG => r.1.name)).nodup_iff).mpr this
theorem part_ly {y : Str} : partG U M y = prtT (dueOf U y) (lyG M y) := rfl
theorem lent_G (k : KOk M) {r : RowG} (hr : r ∈ M) : r.1.name ∈ lentG U M (srtT (dstS (M.map (·.1.guild)))) ↔ r.1.name ∈ (partG U M r.1.guild).lent := by
  unfold lentG
  rw [List.mem_flatMap]
  constructor
  · rintro ⟨y, hy, h⟩
    rw [part_ly, lent_iff (ly_nd k)] at h
    obtain ⟨a, ha, e⟩ := List.mem_map.mp h.1
    obtain ⟨r2, hr2, hy2, e2⟩ := ly_mem.mp ha
    have : r2 = r := row_inj k hr2 hr (by rw [e2]; exact e)
    rw [this] at hy2
    rw [hy2, part_ly, lent_iff (ly_nd k)]
    exact h
  · intro h
    exact ⟨r.1.guild, srtT_mem.mpr (dst_mem.mpr (List.mem_map.mpr ⟨r, hr, rfl⟩)), h⟩
/-- left behind -/
noncomputable def keepG (U : Dues) (M : List RowG) (g : Gang) (a : Gang) : Bool := !(grG U M g a).isSome
noncomputable def leftG (U : Dues) (M : List RowG) (g : Gang) : List RowG := M.filter fun r => keepG U M g r.1
theorem gone_iff (k : KOk M) {r : RowG} (hr : r ∈ M) : r.1.name ∈ (foundA U M g).map (·.1) ↔ (grG U M g r.1).isSome = true := by
  unfold foundA stepA
  rw [List.mem_map]
  constructor
  · rintro ⟨p, hp, e⟩
    obtain ⟨r2, hr2, e2⟩ := List.mem_filterMap.mp hp
    obtain ⟨y, hy, e3⟩ := Option.map_eq_some_iff.mp e2
    have hr2 := (ordG_perm M).subset (List.mem_reverse.mp hr2)
    have : r2 = r := row_inj k hr2 hr (by rw [← e, ← e3])
    rw [← this, hy]; rfl
  · intro h
    obtain ⟨y, hy⟩ := Option.isSome_iff_exists.mp h
    exact ⟨(r.1.name, y), List.mem_filterMap.mpr ⟨r, List.mem_reverse.mpr ((ordG_perm M).symm.subset hr), by rw [hy]; rfl⟩, rfl⟩
theorem left_eq (k : KOk M) : (M.filter fun r => !decide (r.1.name ∈ (foundA U M g).map (·.1))) = leftG U M g := by
  unfold leftG keepG
  refine List.filter_congr fun r hr => ?_
  congr 1
  rw [Bool.eq_iff_iff, decide_eq_true_eq]
  exact gone_iff k hr
theorem guild_nd (nd : (M.map (·.2)).Nodup) {y : Str} : ((guildR M y).map (·.2)).Nodup := (List.filter_sublist.map _).nodup nd
theorem left_ly (nd : (M.map (·.2)).Nodup) {y : Str} : lyG (leftG U M g) y = (lyG M y).filter (keepG U M g) := by
  have e : guildR (leftG U M g) y = (guildR M y).filter fun r => keepG U M g r.1 := by
    unfold guildR leftG
    rw [List.filter_filter, List.filter_filter]
    exact List.filter_congr fun r _ => Bool.and_comm ..
  unfold lyG
  rw [e, ordG_filt (guild_nd nd), List.filter_map]
  rfl
theorem ly_rank {y : Str} : (lyG M y).Pairwise fun a b => b.rank ≤ a.rank := by
  unfold lyG
  rw [List.pairwise_map]
  refine (ordG_pw _).imp fun {a b} h => ?_
  unfold leG at h
  have := of_decide_eq_true h
  omega
theorem own_ly (nd : (M.map (·.2)).Nodup) : ownG U M g = fitsL (sumL (prtT (dueOf U g.guild) ((lyG M g.guild).filter fun a => decide (g.rank ≤ a.rank))).borne (wholeG g)) (dueOf U g.guild) := by
  unfold ownG
  rw [ordG_filt (guild_nd nd)]
  unfold lyG
  rw [List.filter_map]
  rfl
theorem ly_ok (ok : TkOk w U M g) (k : KOk M) {y : Str} (hy : y ∈ U.map (·.1)) : ∀ a ∈ lyG M y, a.want.length = w ∧ 1 ≤ a.many ∧ ∀ v ∈ a.want, 0 ≤ v := fun a ha => by
  obtain ⟨r, hr, _, rfl⟩ := ly_mem.mp ha
  exact ⟨(ok.rows r hr).1, (ok.rows r hr).2.1, k.nn r hr⟩
theorem owed_own (ok : TkOk w U M g) (k : KOk M) (h : owedG U M g = true) : ownG U M g = true := by
  obtain ⟨_, gl⟩ := ok.due ok.gg
  rw [own_ly ok.nd]
  unfold owedG at h
  rw [part_ly] at h
  have sp := pw_split (p := fun a : Gang => decide (g.rank ≤ a.rank)) (fun a b hab hb => decide_eq_true (Int.le_trans (of_decide_eq_true hb) hab)) (ly_rank (M := M) (y := g.guild))
  have lk := ly_ok ok k ok.gg
  have hb : ∀ L : List Gang, (∀ a ∈ L, a ∈ lyG M g.guild) → (prtT (dueOf U g.guild) L).borne.length = w := fun L hL => by
    rw [(prt_len (due := dueOf U g.guild) (L := L) fun a ha => by rw [gl]; exact (lk a (hL a ha)).1).1, gl]
  refine fits_mono (b := (prtT (dueOf U g.guild) (lyG M g.guild)).borne) (fun j => ?_) (by rw [hb _ fun a ha => (List.mem_filter.mp ha).1, hb _ fun _ h => h]) (by rw [hb _ fun _ h => h, gl]) (by unfold wholeG; rw [List.length_map, hb _ fun _ h => h]; exact ok.gw.1) h
  have e : prtT (dueOf U g.guild) (lyG M g.guild) = ((lyG M g.guild).filter fun a => !decide (g.rank ≤ a.rank)).foldl (stepP (dueOf U g.guild)) (prtT (dueOf U g.guild) ((lyG M g.guild).filter fun a => decide (g.rank ≤ a.rank))) := by
    conv => lhs; rw [sp]
    unfold prtT
    rw [List.foldl_append]
  rw [e]
  exact brn_mono (n := w) _ _ (hb _ fun a ha => (List.mem_filter.mp ha).1) (fun a ha => lk a (List.mem_filter.mp ha).1) j
/-- of another guild, or where the gang would not be own: only lent ones are gone -/
theorem keep_own (k : KOk M) {y : Str} (hy : y ≠ g.guild ∨ ownG U M g = false) : ∀ a ∈ lyG M y, keepG U M g a = false → a.name ∉ (prtT (dueOf U y) (lyG M y)).own := fun a ha h => by
  obtain ⟨r, hr, hry, rfl⟩ := ly_mem.mp ha
  unfold keepG grG grnd at h
  by_cases hl : r.1.name ∈ lentG U M (srtT (dstS (M.map (·.1.guild))))
  · rw [lent_G k hr, hry, part_ly, lent_iff (ly_nd k)] at hl
    exact hl.2
  · rw [if_pos] at h
    · simp at h
    · rw [decide_eq_false hl]
      rcases hy with hy | hy
      · rw [hry, decide_eq_false hy]; rfl
      · rw [hy]; simp
theorem keep_lent (k : KOk M) {y : Str} {a : Gang} (ha : a ∈ lyG M y) (hl : a.name ∉ (prtT (dueOf U y) (lyG M y)).own) (h : keepG U M g a = true) : ¬ a.rank < g.rank ∧ (y ≠ g.guild → owedG U M g = false) := by
  obtain ⟨r, hr, hry, rfl⟩ := ly_mem.mp ha
  have hl2 : r.1.name ∈ lentG U M (srtT (dstS (M.map (·.1.guild)))) := by
    rw [lent_G k hr, hry, part_ly, lent_iff (ly_nd k)]
    exact ⟨List.mem_map.mpr ⟨_, ha, rfl⟩, hl⟩
  unfold keepG grG grnd at h
  rw [decide_eq_true hl2, Bool.not_true, Bool.false_and, if_neg (by decide)] at h
  by_cases c : (!decide (r.1.guild = g.guild) && owedG U M g) = true
  · rw [if_pos c] at h; cases h
  · rw [if_neg c] at h
    by_cases c2 : r.1.rank < g.rank
    · rw [if_pos (decide_eq_true c2)] at h; cases h
    · refine ⟨c2, fun hy => ?_⟩
      cases co : owedG U M g with
      | false => rfl
      | true => rw [co, hry, decide_eq_false hy] at c; exact absurd rfl c
theorem keep_rank (k : KOk M) (ho : ownG U M g = true) : ∀ a ∈ lyG M g.guild, keepG U M g a = decide (g.rank ≤ a.rank) := fun a ha => by
  obtain ⟨r, hr, hry, rfl⟩ := ly_mem.mp ha
  unfold keepG grG grnd
  rw [ho, hry, decide_eq_true rfl, Bool.and_true, Bool.not_true, Bool.and_false, if_neg (by decide), Bool.false_and, if_neg (by decide)]
  by_cases c : r.1.rank < g.rank
  · rw [if_pos (decide_eq_true c), decide_eq_false (by omega)]; rfl
  · rw [if_neg (by simpa using c), decide_eq_true (by omega)]; rfl
/-- all that the law asks of a guild -/
theorem kall_guild (ok : TkOk w U M g) (k : KOk M) (y : Str) :
    (∀ a ∈ lyG (leftG U M g) y, a.name ∈ (prtT (dueOf U y) (lyG (leftG U M g) y)).lent → ¬ a.rank < g.rank) ∧
    (y ≠ g.guild → owedG U M g = true → (prtT (dueOf U y) (lyG (leftG U M g) y)).lent = []) ∧
    (y = g.guild → ownG U M g = true → ∀ a ∈ lyG (leftG U M g) y, ¬ a.rank < g.rank) ∧
    ((y ≠ g.guild ∨ ownG U M g = false) → (prtT (dueOf U y) (lyG (leftG U M g) y)).own = (prtT (dueOf U y) (lyG M y)).own) := by
  rw [left_ly ok.nd]
  have ndf : (((lyG M y).filter (keepG U M g)).map (·.name)).Nodup := (List.filter_sublist.map _).nodup (ly_nd k)
  have own : (y ≠ g.guild ∨ ownG U M g = false) → (prtT (dueOf U y) ((lyG M y).filter (keepG U M g))).own = (prtT (dueOf U y) (lyG M y)).own := fun h => (prt_drop' (ly_nd k) (keep_own k h)).1
  have rank : y = g.guild → ownG U M g = true → ∀ a ∈ (lyG M y).filter (keepG U M g), ¬ a.rank < g.rank := fun hy ho a ha => by
    subst hy
    obtain ⟨h1, h2⟩ := List.mem_filter.mp ha
    rw [keep_rank k ho a h1] at h2
    have := of_decide_eq_true h2
    omega
  have both : (y ≠ g.guild ∨ ownG U M g = false) → ∀ a ∈ (lyG M y).filter (keepG U M g), a.name ∈ (prtT (dueOf U y) ((lyG M y).filter (keepG U M g))).lent → ¬ a.rank < g.rank ∧ (y ≠ g.guild → owedG U M g = false) := fun h a ha hl => by
    obtain ⟨h1, h2⟩ := List.mem_filter.mp ha
    rw [lent_iff ndf, own h] at hl
    exact keep_lent k h1 hl.2 h2
  have dec : (y ≠ g.guild ∨ ownG U M g = false) ∨ (y = g.guild ∧ ownG U M g = true) := by
    by_cases c : y = g.guild
    · cases o : ownG U M g with
      | true => exact .inr ⟨c, rfl⟩
      | false => exact .inl (.inr rfl)
    · exact .inl (.inl c)
  refine ⟨fun a ha hl => ?_, fun hy ho => ?_, rank, own⟩
  · rcases dec with d | d
    · exact (both d a ha hl).1
    · exact rank d.1 d.2 a ha
  · refine List.eq_nil_iff_forall_not_mem.mpr fun n hn => ?_
    obtain ⟨a, ha, e⟩ := List.mem_map.mp ((lent_iff ndf).mp hn).1
    have := (both (.inl hy) a ha (by rw [e]; exact hn)).2 hy
    rw [ho] at this; cases this
theorem kall_end (ok : TkOk w U M g) (k : KOk M) : fitsL (sumL (prtT (dueOf U g.guild) (lyG (leftG U M g) g.guild)).borne (wholeG g)) (dueOf U g.guild) = ownG U M g := by
  rw [left_ly ok.nd]
  cases o : ownG U M g with
  | true =>
    have e : (lyG M g.guild).filter (keepG U M g) = (lyG M g.guild).filter fun a => decide (g.rank ≤ a.rank) := List.filter_congr (keep_rank k o)
    rw [e, ← own_ly ok.nd, o]
  | false =>
    rw [(prt_drop' (ly_nd k) (keep_own k (.inr o))).2]
    cases c : owedG U M g with
    | true => rw [owed_own ok k c] at o; cases o
    | false => exact c
end

end My
namespace My
open PySem PySem.Spec L2 Nu
open PyProof.Rows hiding St
/-! ### strs -/
/-! ### lists of texts as data -/
theorem see_strsN {m : MS} : ∀ E : List Str, Sees m (E.map .str) (E.map .str)
  | [] => .nil
  | a :: E => .cons (.str a) (see_strsN E)
theorem pl_strsN (n : Nat) : ∀ E : List Str, (∀ s ∈ E, PyData.strOk s = true) → plDs n (E.map .str) = true
  | [], _ => by rw [List.map_nil, plDs]
  | a :: E, h => by
    rw [List.map_cons, plDs, pl_strsN n E fun s hs => h s (List.mem_cons_of_mem _ hs), Bool.and_true, plD]
    exact h a (List.mem_cons_self ..)
theorem noBl_strsN : ∀ E : List Str, noBls (E.map .str) = true
  | [] => by rw [List.map_nil, noBls]
  | a :: E => by rw [List.map_cons, noBls, noBl_strsN E, noBl]; rfl
theorem strs_inj : ∀ {a b : List Str}, a.map D.str = b.map D.str → a = b
  | [], [], _ => rfl
  | [], _ :: _, h => by cases h
  | _ :: _, [], h => by cases h
  | x :: a, y :: b, h => by
    rw [List.map_cons, List.map_cons, List.cons.injEq] at h
    rw [strs_inj h.2]
    congr 1
    exact D.str.inj h.1
theorem eqD_strs {a b : List Str} : eqD (.lst (a.map .str)) (.lst (b.map .str)) = decide (a = b) := by
  have h := eqD_iff (d := .lst (a.map .str)) (e := .lst (b.map .str)) (by rw [noBl]; exact noBl_strsN a) (by rw [noBl]; exact noBl_strsN b)
  by_cases c : a = b
  · rw [decide_eq_true c, h, c]
  · rw [decide_eq_false c]
    cases e : eqD (.lst (a.map .str)) (.lst (b.map .str)) with
    | false => rfl
    | true => exact absurd (strs_inj (D.lst.inj (h.mp e))) c

end My
namespace My
open PySem PySem.Spec L2 Nu
open PyProof.Rows hiding St
/-! ### _law_right_c83b -/
theorem mle_lock {m m' : MS} {pd : Addr} {c l : Cell} (h : m pd = some c) (u : MLe (mset m pd l) m') : MLe m (mset m' pd c) := fun a d e => by
  by_cases ha : a = pd
  · subst ha; rw [mset_same, ← e, h]
  · rw [mset_ne ha]
    exact u a d (by rw [mset_ne ha]; exact e)
def a__law_right_c83b : ASp := fun ss m P _ => ∃ (pd : Addr) (w : Nat) (U : Dues) (M : List RowG) (g : Gang), ss = [.raw (.ref pd), rgsD M, gD g] ∧ m pd = some (.dct (duesK U)) ∧ TkOk w U M g ∧ KOk M ∧ P (.bl true) m
theorem len__law_right_c83b : ∀ ss m P Z, a__law_right_c83b ss m P Z → ss.length = 3 := by
  rintro _ m P Z ⟨a, b, c, d, e, rfl, _⟩; rfl
abbrev n__law_right_c83b : List Str := ["_law_dues", "_law_rows", "_law_gang_here", "_law_mine", "_law_is_owed", "_law_is_own", "_law_gone", "_law_left", "_law_guild_here", "_law_ranks", "_law_own", "_law_lent", "_law_pair", "_law_row", "_law_name"]
theorem nd__law_right_c83b : (n__law_right_c83b).Nodup := by decide +kernel
def u__law_right_c83b : SS :=
  (.cons (.set 3 (.call a__law_guild_d854 (.cons (.var 1) (.cons (.bop sIx (.cons (.var 2) (.cons (.cst (.int 1)) .nil))) .nil))))
  (.cons (.set 4 (.call a_owed (.cons (.bop sIx (.cons (.var 0) (.cons (.bop sIx (.cons (.var 2) (.cons (.cst (.int 1)) .nil))) .nil))) (.cons (.var 3) (.cons (.var 2) .nil)))))
  (.cons (.set 5 (.call a_own_with (.cons (.bop sIx (.cons (.var 0) (.cons (.bop sIx (.cons (.var 2) (.cons (.cst (.int 1)) .nil))) .nil))) (.cons (.var 3) (.cons (.var 2) .nil)))))
  (.cons (.set 6 (.lc (.name 12) isVal (.cons (.call a_may_take (.cons (.var 0) (.cons (.var 1) (.cons (.lc (.name 13) isVal (.cons (.var 1) .nil) .nil (.bop sIx (.cons (.bop sIx (.cons (.var 13) (.cons (.cst (.int 0)) .nil))) (.cons (.cst (.int 0)) .nil)))) (.cons (.var 2) .nil))))) .nil) .nil (.bop sIx (.cons (.var 12) (.cons (.cst (.int 0)) .nil)))))
  (.cons (.set 7 (.lc (.name 13) isVal (.cons (.var 1) .nil) (.cons (.bop sNotIn (.cons (.bop sIx (.cons (.bop sIx (.cons (.var 13) (.cons (.cst (.int 0)) .nil))) (.cons (.cst (.int 0)) .nil))) (.cons (.var 6) .nil))) .nil) (.var 13)))
  (.cons (.lock (.fo (.name 8) (isDct .keys) (.cons (.var 0) .nil) (.cons (.set 9 (.bop sToDct (.cons (.lc (.name 13) isVal (.cons (.call a__law_guild_d854 (.cons (.var 7) (.cons (.var 8) .nil))) .nil) .nil (.bop sTup (.cons (.bop sIx (.cons (.bop sIx (.cons (.var 13) (.cons (.cst (.int 0)) .nil))) (.cons (.cst (.int 0)) .nil))) (.cons (.bop sIx (.cons (.bop sIx (.cons (.var 13) (.cons (.cst (.int 0)) .nil))) (.cons (.cst (.int 2)) .nil))) .nil)))) .nil)))
  (.cons (.unp (.cons (.name 10) (.cons (.name 11) .nil)) (.call a_parted (.cons (.bop sIx (.cons (.var 0) (.cons (.var 8) .nil))) (.cons (.call a__law_guild_d854 (.cons (.var 7) (.cons (.var 8) .nil))) .nil))))
  (.cons (.iff (.or2 (.bop sAny (.cons (.lc (.name 14) isVal (.cons (.var 11) .nil) .nil (.bop (sCmp .lt) (.cons (.bop sIx (.cons (.var 9) (.cons (.var 14) .nil))) (.cons (.bop sIx (.cons (.var 2) (.cons (.cst (.int 2)) .nil))) .nil)))) .nil)) (.and2 (.bop sNe (.cons (.var 8) (.cons (.bop sIx (.cons (.var 2) (.cons (.cst (.int 1)) .nil))) .nil))) (.and2 (.var 4) (.bop sNe (.cons (.var 11) (.cons (.bop sLst .nil) .nil)))))) (.cons (.ret (.cst (.bl false)))
  .nil) .nil)
  (.cut (.iff (.and2 (.bop sEq (.cons (.var 8) (.cons (.bop sIx (.cons (.var 2) (.cons (.cst (.int 1)) .nil))) .nil))) (.and2 (.var 5) (.bop sAny (.cons (.lock (.lc (.name 14) (isDct .keys) (.cons (.var 9) .nil) .nil (.bop (sCmp .lt) (.cons (.bop sIx (.cons (.var 9) (.cons (.var 14) .nil))) (.cons (.bop sIx (.cons (.var 2) (.cons (.cst (.int 2)) .nil))) .nil))))) .nil)))) (.cons (.ret (.cst (.bl false)))
  .nil) .nil)
  (.cons (.iff (.and2 (.or2 (.bop sNe (.cons (.var 8) (.cons (.bop sIx (.cons (.var 2) (.cons (.cst (.int 1)) .nil))) .nil))) (.bop sNot (.cons (.var 5) .nil))) (.bop sNe (.cons (.var 10) (.cons (.bop sIx (.cons (.call a_parted (.cons (.bop sIx (.cons (.var 0) (.cons (.var 8) .nil))) (.cons (.call a__law_guild_d854 (.cons (.var 1) (.cons (.var 8) .nil))) .nil))) (.cons (.cst (.int 0)) .nil))) .nil)))) (.cons (.ret (.cst (.bl false)))
  .nil) .nil)
  .nil)))))))
  (.cons (.iff (.and2 (.var 4) (.bop sNot (.cons (.var 5) .nil))) (.cons (.ret (.cst (.bl false)))
  .nil) .nil)
  (.cons (.ret (.bop sEq (.cons (.call a_owed (.cons (.bop sIx (.cons (.var 0) (.cons (.bop sIx (.cons (.var 2) (.cons (.cst (.int 1)) .nil))) .nil))) (.cons (.call a__law_guild_d854 (.cons (.var 7) (.cons (.bop sIx (.cons (.var 2) (.cons (.cst (.int 1)) .nil))) .nil))) (.cons (.var 2) .nil)))) (.cons (.var 5) .nil))))
  .nil))))))))
theorem body__law_right_c83b : ∀ (ss : List D) (m : MS) (P : NX) (Z : EZ), a__law_right_c83b ss m P Z → WB u__law_right_c83b (startR n__law_right_c83b ss) m (bodyE P Z) := by
  rintro _ m P Z ⟨pd, w, U, M, g, rfl, hpd, ok, hk, q⟩
  obtain ⟨gv, gl⟩ := ok.due ok.gg
  have hml := ok.ml
  have hw := ok.ww
  have hgw := ok.gw
  have hgl : (guildR M g.guild).length ≤ M.length := guild_len
  have hM : ∀ L : List RowG, (∀ r ∈ L, r ∈ M) → ∀ y ∈ U.map (·.1), ∀ r ∈ L, r.1.want.length = (dueOf U y).length ∧ 1 ≤ r.1.many ∧ r.1.many ≤ 60 := fun L h y hy r hr => by rw [(ok.due hy).2]; exact ok.rows r (h r hr)
  (conv => whnf)
  refine ⟨_, rfl, ?_⟩
  (conv => whnf)
  refine ⟨M, g.guild, rfl, by omega, ?_⟩
  (conv => whnf)
  refine ⟨_, rfl, ?_⟩
  (conv => whnf)
  refine ⟨_, hpd, _, gv, ?_⟩
  (conv => whnf)
  refine ⟨dueOf U g.guild, guildR M g.guild, g, rfl, ⟨by omega, by omega, by omega⟩, hM _ guild_sub _ ok.gg, ⟨by omega, hgw.2⟩, ?_⟩
  (conv => whnf)
  refine ⟨_, rfl, ?_⟩
  (conv => whnf)
  refine ⟨_, hpd, _, gv, ?_⟩
  (conv => whnf)
  refine ⟨dueOf U g.guild, guildR M g.guild, g, rfl, ⟨by omega, by omega, by omega⟩, hM _ guild_sub _ ok.gg, ⟨by omega, hgw.2⟩, ?_⟩
  (conv => whnf)
  refine lcNM M rgD (fun r => .str r.1.name) rfl (by omega) trivial (fun r hr R2 r2 => ?_) (.inl ?_)
  · (conv => whnf)
    refine ⟨_, rfl, ?_⟩
    (conv => whnf)
    exact ⟨_, rfl, r2⟩
  have hnm : M.map (fun r => D.str r.1.name) = (M.map (·.1.name)).map .str := by rw [List.map_map]; rfl
  rw [hnm]
  (conv => whnf)
  refine ⟨pd, w, U, M, M.map (·.1.name), g, rfl, hpd, ok, by rw [List.length_map]; omega, fun m3 pf hup hcf hpf => ?_⟩
  rw [found_all] at hcf
  have hpd3 := hup _ _ hpd
  have hfl : (foundA U M g).length ≤ 60 := by
    unfold foundA
    refine Nat.le_trans (List.length_filterMap_le ..) ?_
    rw [List.length_reverse, (ordG_perm M).length_eq]
    omega
  (conv => whnf)
  refine ⟨_, hcf, ?_⟩
  refine lcNM (foundA U M g) fnD (fun p => .str p.1) rfl (by omega) hcf (fun p hp R2 r2 => ?_) (.inl ?_)
  · (conv => whnf)
    exact ⟨_, rfl, r2⟩
  have hgn : (foundA U M g).map (fun p => D.str p.1) = ((foundA U M g).map (·.1)).map .str := by rw [List.map_map]; rfl
  rw [hgn]
  (conv => whnf)
  refine lcN M rgD (fun r => !decide (r.1.name ∈ (foundA U M g).map (·.1))) rgD rfl (by omega) trivial (fun r hr => ⟨fun R2 r2 => ?_, fun _ R2 r2 => ?_⟩) (.inl ?_)
  · (conv => whnf)
    refine ⟨_, rfl, ?_⟩
    (conv => whnf)
    refine ⟨_, rfl, ?_⟩
    (conv => whnf)
    refine .inl ⟨rfl, flat_strs _, ?_⟩
    rw [any_str]
    exact ⟨_, rfl, r2⟩
  · (conv => whnf)
    exact r2
  rw [left_eq hk]
  have hLs : ∀ r ∈ leftG U M g, r ∈ M := fun r hr => (List.mem_filter.mp hr).1
  have hLl : (leftG U M g).length ≤ M.length := List.length_filter_le ..
  have hown : fitsL (sumL (prtT (dueOf U g.guild) ((ordG ((guildR M g.guild).filter (geR g.rank))).map (·.1))).borne (wholeG g)) (dueOf U g.guild) = ownG U M g := rfl
  have howe : fitsL (sumL (prtT (dueOf U g.guild) ((ordG (guildR M g.guild)).map (·.1))).borne (wholeG g)) (dueOf U g.guild) = owedG U M g := rfl
  rw [hown, howe]
  (conv => whnf)
  refine .inl ⟨pd, _, hpd3, fun o vs => ?_⟩
  (conv => whnf)
  refine ⟨_, _, _, mset_same, ?_⟩
  refine foN U (fun e => D.str e.1) (fun i ρ' m' => ∃ x8 x9 x10 x11 : Option D, MLe (mset m3 pd (.lck o vs (duesK U))) m' ∧ ρ' = [some (.raw (.ref pd)), some (rgsD M), some (gD g), some (rgsD (guildR M g.guild)), some (.bl (owedG U M g)), some (.bl (ownG U M g)), some (.lst (((foundA U M g).map (·.1)).map .str)), some (rgsD (leftG U M g)), x8, x9, x10, x11, none, none, none]) its_keys ⟨_, _, _, _, MLe.refl _, rfl⟩ (fun _ _ _ ⟨_, _, _, _, h, _⟩ => h _ _ mset_same) ?_ ?_
  · rintro i e ρ' m' he ⟨x8, x9, x10, x11, hm', rfl⟩
    have heU := List.mem_of_getElem? he
    have hyU : e.1 ∈ U.map (·.1) := List.mem_map.mpr ⟨e, heU, rfl⟩
    obtain ⟨yv, yl⟩ := ok.due hyU
    have hck := hm' _ _ mset_same
    obtain ⟨k1, k2, k3, k4⟩ := kall_guild ok hk e.1
    have hgl2 : (guildR (leftG U M g) e.1).length ≤ (leftG U M g).length := guild_len
    have hgl3 : (guildR M e.1).length ≤ M.length := guild_len
    (conv => whnf)
    refine ⟨leftG U M g, e.1, rfl, by omega, ?_⟩
    (conv => whnf)
    refine lcNM (guildR (leftG U M g) e.1) rgD (fun r => D.tup [.str r.1.name, .int r.1.rank]) rfl (by omega) trivial (fun r hr R2 r2 => ?_) (.inl ?_)
    · (conv => whnf)
      refine ⟨_, rfl, ?_⟩
      (conv => whnf)
      refine ⟨_, rfl, ?_⟩
      (conv => whnf)
      refine ⟨_, rfl, ?_⟩
      (conv => whnf)
      refine ⟨_, rfl, ?_⟩
      exact r2
    have hrn : ((guildR (leftG U M g) e.1).map fun r : RowG => r.1.name).Nodup := ((List.filter_sublist.trans List.filter_sublist).map _).nodup hk.nm
    (conv => whnf)
    refine ⟨kvs (fun r : RowG => r.1.name) (fun r => .int r.1.rank) (guildR (leftG U M g) e.1), by unfold kvs; rw [List.map_map]; rfl, ?_⟩
    rw [dict_kvs (key := fun r : RowG => r.1.name) (g := fun r => D.int r.1.rank) hrn]
    refine fun pk hpk => ?_
    have npk : pd ≠ pk := by rintro rfl; rw [hck] at hpk; cases hpk
    have up1 : MLe m' (mset m' pk (.dct (kvs (fun r : RowG => r.1.name) (fun r => .int r.1.rank) (guildR (leftG U M g) e.1)))) := MLe.fresh (MLe.refl _) hpk
    have atk : mset m' pk (.dct (kvs (fun r : RowG => r.1.name) (fun r => .int r.1.rank) (guildR (leftG U M g) e.1))) pk = some (.dct (kvs (fun r : RowG => r.1.name) (fun r => .int r.1.rank) (guildR (leftG U M g) e.1))) := mset_same
    revert up1 atk
    generalize mset m' pk (.dct (kvs (fun r : RowG => r.1.name) (fun r => .int r.1.rank) (guildR (leftG U M g) e.1))) = m1
    intro up1 atk
    (conv => whnf)
    refine ⟨_, up1 _ _ hck, _, yv, ?_⟩
    (conv => whnf)
    refine ⟨leftG U M g, e.1, rfl, by omega, ?_⟩
    (conv => whnf)
    refine ⟨dueOf U e.1, guildR (leftG U M g) e.1, rfl, ⟨by omega, by omega, by omega⟩, hM _ (fun r hr => hLs r (guild_sub r hr)) _ hyU, fun m2 po pl up2 hc2 hne2 => ?_⟩
    have hly : (ordG (guildR (leftG U M g) e.1)).map (·.1) = lyG (leftG U M g) e.1 := rfl
    rw [hly] at hc2
    have hkl : KOk (leftG U M g) := ⟨(List.filter_sublist.map _).nodup hk.nm, fun r hr => hk.nn r (hLs r hr)⟩
    have hnl := ly_nd hkl (y := e.1)
    have hlyl : (lyG (leftG U M g) e.1).length ≤ 60 := by unfold lyG; rw [List.length_map, (ordG_perm _).length_eq]; omega
    have hpl := prt_len (due := dueOf U e.1) (L := lyG (leftG U M g) e.1) (fun a ha => by
      obtain ⟨r, hr, _, rfl⟩ := ly_mem.mp ha
      rw [yl]; exact (ok.rows r (hLs r hr)).1)
    have valn : ∀ a ∈ lyG (leftG U M g) e.1, valD (kvs (fun r : RowG => r.1.name) (fun r => .int r.1.rank) (guildR (leftG U M g) e.1)) (.inr a.name) = some (.int a.rank) := fun a ha => by
      obtain ⟨r, hr, hy, rfl⟩ := ly_mem.mp ha
      exact val_kvs (key := fun r : RowG => r.1.name) (g := fun r => D.int r.1.rank) hrn (List.mem_filter.mpr ⟨hr, decide_eq_true hy⟩)
    have atk2 := up2 _ _ atk
    have hck2 := up2 _ _ (up1 _ _ hck)
    have hm2 : MLe (mset m3 pd (.lck o vs (duesK U))) m2 := (hm'.trans up1).trans up2
    (conv => whnf)
    refine ⟨_, hc2.2, ?_⟩
    refine lcNM (prtT (dueOf U e.1) (lyG (leftG U M g) e.1)).lent D.str (fun _ => .bl false) rfl (by omega) hc2.2 (fun n hn R2 r2 => ?_) (.inl ?_)
    · obtain ⟨a, ha, rfl⟩ := List.mem_map.mp ((lent_iff hnl).mp hn).1
      (conv => whnf)
      refine ⟨_, atk2, _, valn a ha, ?_⟩
      (conv => whnf)
      refine ⟨_, rfl, ?_⟩
      have : Cmp.lt.b a.rank g.rank = false := decide_eq_false (k1 a ha hn)
      show R2 (.bl (Cmp.lt.b a.rank g.rank)) m2
      rw [this]; exact r2
    (conv => whnf)
    refine ⟨(prtT (dueOf U e.1) (lyG (leftG U M g) e.1)).lent.map fun _ => false, by rw [List.map_map]; rfl, ?_⟩
    have hany : ((prtT (dueOf U e.1) (lyG (leftG U M g) e.1)).lent.map fun _ => false).any id = false := by rw [List.any_map]; simp
    rw [hany]
    have hno : ∀ n ∈ (lyG (leftG U M g) e.1).map (·.name), PyData.strOk n = true := fun n hn => by
      obtain ⟨a, ha, rfl⟩ := List.mem_map.mp hn
      obtain ⟨r, hr, _, rfl⟩ := ly_mem.mp ha
      exact (ok.rok r (hLs r hr)).1
    have hlo : ∀ n ∈ (prtT (dueOf U e.1) (lyG (leftG U M g) e.1)).lent, PyData.strOk n = true := fun n hn => hno n ((lent_iff hnl).mp hn).1
    have hoo : ∀ n ∈ (prtT (dueOf U e.1) (lyG (leftG U M g) e.1)).own, PyData.strOk n = true := fun n hn => hno n (own_names hn)
    refine ⟨_, rfl, .inl ⟨false, fun _ => ?_, ?_⟩⟩
    · (conv => whnf)
      refine ⟨_, rfl, ?_⟩
      (conv => whnf)
      refine ⟨_, rfl, .inl ⟨owedG U M g && !decide ((prtT (dueOf U e.1) (lyG (leftG U M g) e.1)).lent = []), fun _ => ?_, ?_⟩⟩
      · (conv => whnf)
        refine ⟨_, rfl, .inl ⟨!decide ((prtT (dueOf U e.1) (lyG (leftG U M g) e.1)).lent = []), fun _ => ?_, ?_⟩⟩
        · (conv => whnf)
          refine .inl ?_
          (conv => whnf)
          refine .inr ⟨_, .lst (([] : List Str).map .str), .cell hc2.2 (see_strsN _), .lst .nil, ⟨by rw [plD]; exact pl_strsN _ _ hlo, by rw [plD]; exact pl_strsN _ _ (by simp)⟩, ?_⟩
          rw [eqD_strs]
          exact ⟨rfl, rfl⟩
        · exact ⟨rfl, rfl⟩
      · refine ⟨?_, rfl⟩
        by_cases hy : e.1 = g.guild
        · rw [decide_eq_true hy]; rfl
        · cases c : owedG U M g with
          | true => rw [k2 hy c]; simp
          | false => simp
    refine ⟨_, rfl, fun c => (by cases c), fun _ => ?_⟩
    (conv => whnf)
    refine ⟨fun ρ2 m9 => m9 = m2 ∧ ρ2 = [some (.raw (.ref pd)), some (rgsD M), some (gD g), some (rgsD (guildR M g.guild)), some (.bl (owedG U M g)), some (.bl (ownG U M g)), some (.lst (((foundA U M g).map (·.1)).map .str)), some (rgsD (leftG U M g)), some (.str e.1), some (.raw (.ref pk)), some (.raw (.ref po)), some (.raw (.ref pl)), none, none, none], ?_, ?_⟩
    · (conv => whnf)
      refine ⟨_, rfl, ?_⟩
      (conv => whnf)
      refine ⟨_, rfl, .inl ⟨false, fun hy => ?_, ?_⟩⟩
      · have hy : e.1 = g.guild := of_decide_eq_true hy
        (conv => whnf)
        refine ⟨_, rfl, .inl ⟨false, fun ho => ?_, ?_⟩⟩
        · (conv => whnf)
          refine .inl ⟨pk, _, atk2, fun o2 vs2 => ?_⟩
          (conv => whnf)
          refine ⟨_, _, _, mset_same, ?_⟩
          refine lcNM (guildR (leftG U M g) e.1) (fun r => D.str r.1.name) (fun _ => .bl false) its_keys (by omega) mset_same (fun r hr R2 r2 => ?_) (.inl ?_)
          · (conv => whnf)
            refine ⟨_, mset_same, _, val_kvs (key := fun r : RowG => r.1.name) (g := fun r => D.int r.1.rank) hrn hr, ?_⟩
            (conv => whnf)
            refine ⟨_, rfl, ?_⟩
            have hra : r.1 ∈ lyG (leftG U M g) e.1 := ly_mem.mpr ⟨r, guild_sub r hr, of_decide_eq_true (List.mem_filter.mp hr).2, rfl⟩
            have : Cmp.lt.b r.1.rank g.rank = false := decide_eq_false (k3 hy ho r.1 hra)
            show R2 (.bl (Cmp.lt.b r.1.rank g.rank)) _
            rw [this]; exact r2
          refine ⟨mset_same, ?_⟩
          rw [mset_mset, mset_self atk2]
          (conv => whnf)
          refine ⟨(guildR (leftG U M g) e.1).map fun _ => false, by rw [List.map_map]; rfl, ?_⟩
          have hany2 : ((guildR (leftG U M g) e.1).map fun _ => false).any id = false := by rw [List.any_map]; simp
          rw [hany2]
          exact ⟨rfl, rfl⟩
        · exact ⟨by simp, rfl⟩
      · refine ⟨_, rfl, fun c => ?_, fun _ => ?_⟩
        · simp at c
        · exact ⟨rfl, rfl⟩
    rintro _ _ ⟨rfl, rfl⟩
    refine ⟨_, _, VwS.refl, ?_⟩
    (conv => whnf)
    refine ⟨_, rfl, ?_⟩
    (conv => whnf)
    refine ⟨_, rfl, .inl ⟨!ownG U M g, fun _ => ⟨rfl, rfl⟩, ?_⟩⟩
    refine ⟨_, rfl, .inr ⟨fun hc => ?_, fun _ => ?_⟩⟩
    · have hc : e.1 ≠ g.guild ∨ ownG U M g = false := by
        rcases Bool.or_eq_true_iff.mp hc with c | c
        · exact .inl (by simpa using c)
        · exact .inr (by simpa using c)
      (conv => whnf)
      refine ⟨_, hck2, _, yv, ?_⟩
      (conv => whnf)
      refine ⟨M, e.1, rfl, by omega, ?_⟩
      (conv => whnf)
      refine ⟨dueOf U e.1, guildR M e.1, rfl, ⟨by omega, by omega, by omega⟩, hM _ guild_sub _ hyU, fun m6 po2 pl2 up6 hc6 hne6 => ?_⟩
      (conv => whnf)
      refine ⟨_, rfl, ?_⟩
      (conv => whnf)
      have hly2 : (ordG (guildR M e.1)).map (·.1) = lyG M e.1 := rfl
      rw [hly2, ← k4 hc] at hc6
      refine .inr ⟨_, _, .cell (up6 _ _ hc2.1) (see_strsN _), .cell hc6.1 (see_strsN _), ⟨by rw [plD]; exact pl_strsN _ _ hoo, by rw [plD]; exact pl_strsN _ _ hoo⟩, ?_⟩
      rw [eqD_strs, decide_eq_true rfl]
      refine ⟨_, rfl, fun c => (by cases c), fun _ => ?_⟩
      exact ⟨_, _, _, _, hm2.trans up6, rfl⟩
    · refine ⟨_, rfl, fun c => (by cases c), fun _ => ?_⟩
      exact ⟨_, _, _, _, hm2, rfl⟩
  rintro ρ' m' ⟨x8, x9, x10, x11, hm', rfl⟩
  refine ⟨hm' _ _ mset_same, ?_⟩
  have hup2 := mle_lock hpd3 hm'
  have hpd4 := hup2 _ _ hpd3
  revert hup2 hpd4
  generalize mset m' pd (.dct (duesK U)) = m4
  intro hup2 hpd4
  (conv => whnf)
  refine ⟨_, rfl, .inl ⟨!ownG U M g, fun _ => ?_, ?_⟩⟩
  · exact ⟨rfl, rfl⟩
  have hoo : (owedG U M g && !ownG U M g) = false := by
    cases c : owedG U M g with
    | true => rw [owed_own ok hk c]; rfl
    | false => rfl
  rw [hoo]
  refine ⟨_, rfl, fun c => (by cases c), fun _ => ?_⟩
  have hgl4 : (guildR (leftG U M g) g.guild).length ≤ (leftG U M g).length := guild_len
  (conv => whnf)
  refine ⟨_, rfl, ?_⟩
  (conv => whnf)
  refine ⟨_, hpd4, _, gv, ?_⟩
  (conv => whnf)
  refine ⟨_, rfl, ?_⟩
  (conv => whnf)
  refine ⟨leftG U M g, g.guild, rfl, by omega, ?_⟩
  (conv => whnf)
  refine ⟨dueOf U g.guild, guildR (leftG U M g) g.guild, g, rfl, ⟨by omega, by omega, by omega⟩, hM _ (fun r hr => hLs r (guild_sub r hr)) _ ok.gg, ⟨by omega, hgw.2⟩, ?_⟩
  have hend : fitsL (sumL (prtT (dueOf U g.guild) ((ordG (guildR (leftG U M g) g.guild)).map (·.1))).borne (wholeG g)) (dueOf U g.guild) = ownG U M g := kall_end ok hk
  rw [hend]
  (conv => whnf)
  rw [decide_eq_true rfl]
  exact retL (hup.trans hup2) q

end My
namespace My
open PySem PySem.Spec L2 Nu
open PyProof.Rows hiding St
/-! ### tnd -/
/-! ### of the state's rows -/
theorem told_nd {w : Nat} {gs : List Str} {nm : Nat → Str} {R : List RowG} (h : RowsG w gs nm R) : (R.map (·.2)).Nodup := by
  have : (R.map fun r => r.2 % 100).Nodup := by
    rw [h.told]
    refine List.pairwise_map.mpr ?_
    exact List.nodup_range.imp fun h e => h (by omega)
  refine nodup_of_map (fun v : Int => v % 100) ?_
  rw [List.map_map]; exact this
theorem rgOk_of {w : Nat} {gs : List Str} {nm : Nat → Str} {R : List RowG} (h : RowsG w gs nm R) : RgOk R := fun r hr => by
  have := h.ok r hr
  obtain ⟨hw, e⟩ := this.how
  exact ⟨this.ok.1, this.ok.2, by rw [e]; exact howOk hw⟩
theorem toPy_gD (g : Gang) : toPy (gD g) = .tuple [.str g.name, .str g.guild, .int g.rank, .int g.many, .tuple (toPys (g.want.map .int)), .str g.how, .int g.cost] := by
  unfold gD amtD
  rw [toPy, toPys, toPys, toPys, toPys, toPys, toPys, toPys, toPys, toPy, toPy, toPy, toPy, toPy, toPy, toPy]
theorem toPy_rg (r : RowG) : toPy (rgD r) = .tuple [.tuple [.str r.1.name, .str r.1.guild, .int r.1.rank, .int r.1.many, .tuple (toPys (r.1.want.map .int)), .str r.1.how, .int r.1.cost], .int r.2] := by
  unfold rgD
  rw [toPy, toPys, toPys, toPys, toPy_gD, toPy]
theorem rg_alike (R : List RowG) : PySem.W.AllAlike ((R.map rgD).map toPy) := by
  intro d hd e he
  obtain ⟨x, hx, rfl⟩ := List.mem_map.mp hd
  obtain ⟨y, hy, rfl⟩ := List.mem_map.mp he
  obtain ⟨a, _, rfl⟩ := List.mem_map.mp hx
  obtain ⟨b, _, rfl⟩ := List.mem_map.mp hy
  rw [toPy_rg, toPy_rg]
  simp only [PySem.W.alike, PySem.W.alikeAll, alike_ints, Bool.and_self, Bool.and_true]
theorem rg_tup (R : List RowG) : PySem.W.Sortable ((R.map rgD).map toPy) := .inl fun d hd => by
  obtain ⟨x, hx, rfl⟩ := List.mem_map.mp hd
  obtain ⟨a, _, rfl⟩ := List.mem_map.mp hx
  exact ⟨_, _, toPy_rg a⟩
theorem rg_sort (R : List RowG) : ∃ L : List RowG, R.Perm L ∧ (R.map rgD).mergeSort leD = L.map rgD := ⟨R.mergeSort fun a b => leD (rgD a) (rgD b), (List.mergeSort_perm ..).symm, (List.map_mergeSort (r := fun a b => leD (rgD a) (rgD b)) (s := leD) (f := rgD) (fun a _ b _ => rfl)).symm⟩

end My
namespace My
open PySem PySem.Spec L2 Nu
open PyProof.Rows hiding St
/-! ### tkof -/
/-! ### what a Taker is handed, out of a state -/
theorem StOk.tk {w : Nat} {gs : List Str} {U : Dues} {R : List RowG} {g a : Gang} (h : StOk w gs U R g) (ha : GangOk w gs a) {L : List RowG} (s : L.Sublist R) : TkOk w U L a where
  ww := ⟨h.w1, h.w8⟩
  und := by rw [h.du.keys]; exact h.gnd
  ul := by have := congrArg List.length h.du.keys; rw [List.length_map] at this; have := h.glen; omega
  ok := fun e he => ⟨(h.du.ok e he).1, fun v hv => ((h.du.ok e he).2 v hv).1⟩
  rows := fun r hr => ⟨(h.rows.ok r (s.subset hr)).lw, (h.rows.ok r (s.subset hr)).many⟩
  guild := fun r hr => by rw [h.du.keys]; exact (h.rows.ok r (s.subset hr)).guild
  rok := (rgOk_of h.rows).sub s.subset
  nd := (s.map _).nodup (told_nd h.rows)
  ml := Nat.le_trans s.length_le h.rows.len
  gw := ⟨ha.lw, ha.many⟩
  gg := by rw [h.du.keys]; exact ha.guild
theorem RowsG.names {w : Nat} {gs : List Str} {R : List RowG} (h : RowsG w gs nmT R) : (R.map (·.1.name)).Nodup := by
  rw [h.nm]
  have e : List.range R.length = (List.range 60).take R.length := by rw [List.take_range, Nat.min_eq_left h.len]
  rw [e]
  exact ((List.take_sublist _ _).map _).nodup nm_nd
theorem StOk.kk {w : Nat} {gs : List Str} {U : Dues} {R : List RowG} {g : Gang} (h : StOk w gs U R g) {L : List RowG} (s : L.Sublist R) : KOk L where
  nm := (s.map _).nodup h.rows.names
  nn := fun r hr v hv => ((h.rows.ok r (s.subset hr)).pos v hv).1
theorem rgs_of {R : List RowG} : ∀ {ks : List D}, (∀ k ∈ ks, k ∈ R.map rgD) → ∃ L : List RowG, ks = L.map rgD ∧ ∀ r ∈ L, r ∈ R
  | [], _ => ⟨[], rfl, by simp⟩
  | k :: ks, h => by
    obtain ⟨L, e, hL⟩ := rgs_of fun x hx => h x (List.mem_cons_of_mem _ hx)
    obtain ⟨r, hr, er⟩ := List.mem_map.mp (h k (List.mem_cons_self ..))
    exact ⟨r :: L, by rw [e, ← er]; rfl, fun x hx => (List.mem_cons.mp hx).elim (fun c => by rw [c]; exact hr) (hL x)⟩

end My
namespace My
open PySem PySem.Spec L2 Nu
open PyProof.Rows hiding St
/-! ### law_k30 -/
def a_law_k30 : ASp := lawA
theorem len_law_k30 : ∀ ss m P Z, a_law_k30 ss m P Z → ss.length = 1 := len_lawA
abbrev n_law_k30 : List Str := ["_law_script", "_law_dues", "_law_rows", "_law_gang_here", "_law_row", "_law_other"]
theorem nd_law_k30 : (n_law_k30).Nodup := by decide +kernel
def u_law_k30 : SS :=
  (.cons (.unp (.cons (.name 1) (.cons (.name 2) (.cons (.name 3) .nil))) (.call a__law_state_83f3 (.cons (.var 0) .nil)))
  (.cons (.iff (.bop sNot (.cons (.call a__law_right_c83b (.cons (.var 1) (.cons (.var 2) (.cons (.var 3) .nil)))) .nil)) (.cons (.ret (.cst (.bl false)))
  .nil) .nil)
  (.cons (.fo (.name 4) isVal (.cons (.bop sSlAll (.cons (.var 2) (.cons (.bop sAdd (.cons (.cst (.int 1)) (.cons (.bop sFdv (.cons (.bop sLen (.cons (.var 2) .nil)) (.cons (.cst (.int 8)) .nil))) .nil))) .nil))) .nil) (.cons (.iff (.bop sNot (.cons (.call a__law_right_c83b (.cons (.var 1) (.cons (.lc (.name 5) isVal (.cons (.var 2) .nil) (.cons (.bop sNe (.cons (.var 5) (.cons (.var 4) .nil))) .nil) (.var 5)) (.cons (.bop sIx (.cons (.var 4) (.cons (.cst (.int 0)) .nil))) .nil)))) .nil)) (.cons (.ret (.cst (.bl false)))
  .nil) .nil)
  .nil))
  (.cons (.ret (.cst (.bl true)))
  .nil))))
theorem body_law_k30 : ∀ (ss : List D) (m : MS) (P : NX) (Z : EZ), a_law_k30 ss m P Z → WB u_law_k30 (startR n_law_k30 ss) m (bodyE P Z) := by
  rintro _ m P Z ⟨ns, rfl, hn, hm0, hP⟩
  (conv => whnf)
  refine ⟨_, ns, rfl, .inl rfl, hn, fun m1 pd w gs U R g hup hpd hst => ?_⟩
  have hRl := hst.rows.len
  (conv => whnf)
  refine ⟨pd, w, U, R, g, rfl, hpd, hst.tk hst.gang (List.Sublist.refl _), hst.kk (List.Sublist.refl _), ?_⟩
  refine ⟨_, rfl, fun c => (by cases c), fun _ => ?_⟩
  (conv => whnf)
  rw [List.length_map]
  refine ⟨by decide, ?_⟩
  (conv => whnf)
  refine ⟨by omega, fun ks hks hkl => .inl ?_⟩
  obtain ⟨L, rfl, hL⟩ := rgs_of hks
  (conv => whnf)
  refine foN L rgD (fun i ρ' m' => ∃ x4 : Option D, m' = m1 ∧ ρ' = [some (.fls (ns.map .int)), some (.raw (.ref pd)), some (rgsD R), some (gD g), x4, none]) rfl ⟨_, rfl, rfl⟩ (fun _ _ _ _ => trivial) ?_ ?_
  · rintro i r ρ' m' hr ⟨x4, rfl, rfl⟩
    have hrR := hL r (List.mem_of_getElem? hr)
    have hro := rgOk_of hst.rows
    (conv => whnf)
    refine lcN R rgD (fun o => !eqD (rgD o) (rgD r)) rgD rfl (by omega) trivial (fun o ho => ⟨fun R2 r2 => ?_, fun _ R2 r2 => ?_⟩) (.inl ?_)
    · (conv => whnf)
      refine .inr ⟨_, _, See.refl 40 _ (pl_rg (n := 37) (hro o ho)), See.refl 40 _ (pl_rg (n := 37) (hro r hrR)), ⟨pl_rg (n := 37) (hro o ho), pl_rg (n := 37) (hro r hrR)⟩, ?_⟩
      exact ⟨_, rfl, r2⟩
    · (conv => whnf)
      exact r2
    (conv => whnf)
    refine ⟨_, rfl, ?_⟩
    (conv => whnf)
    refine ⟨pd, w, U, R.filter (fun o => !eqD (rgD o) (rgD r)), r.1, rfl, hpd, hst.tk (hst.rows.ok r hrR) List.filter_sublist, hst.kk List.filter_sublist, ?_⟩
    refine ⟨_, rfl, fun c => (by cases c), fun _ => ?_⟩
    exact ⟨_, rfl, rfl⟩
  · rintro ρ' m' ⟨x4, rfl, rfl⟩
    (conv => whnf)
    exact ret (hP _)

end My
namespace My
open PySem PySem.Spec L2 Nu
open PyProof.Rows hiding St
def topS (i : Nat) : Stmt := PySem.Challenge.pw_clusterhall_k30_whole_when_all_are_taken.main.body.getD i (.Pass ⟨0, 0, 0, 0⟩)
def inS (st : Stmt) (j : Nat) : Stmt := match st with
  | .ClassDef _ _ _ body _ _ _ _ _ _ _ => body.getD j (.Pass ⟨0, 0, 0, 0⟩)
  | _ => .Pass ⟨0, 0, 0, 0⟩
abbrev s__law_box_f006 : Stmt := topS 19
theorem sc__law_box_f006 : FnScope n__law_box_f006 ["_law_script", "_law_k"] (defScope s__law_box_f006) := ⟨rfl, rfl, rfl, by decide +kernel, rfl, by decide +kernel, by decide +kernel⟩
abbrev s__law_take_9ad5 : Stmt := topS 20
theorem sc__law_take_9ad5 : FnScope n__law_take_9ad5 ["_law_box_here", "_law_many"] (defScope s__law_take_9ad5) := ⟨rfl, rfl, rfl, by decide +kernel, rfl, by decide +kernel, by decide +kernel⟩
abbrev s__law_gang_69eb : Stmt := topS 21
theorem sc__law_gang_69eb : FnScope n__law_gang_69eb ["_law_box_here", "_law_name", "_law_guilds", "_law_wares", "_law_wide"] (defScope s__law_gang_69eb) := ⟨rfl, rfl, rfl, by decide +kernel, rfl, by decide +kernel, by decide +kernel⟩
abbrev s__law_due_ff14 : Stmt := topS 22
theorem sc__law_due_ff14 : FnScope n__law_due_ff14 ["_law_box_here", "_law_wares", "_law_wide"] (defScope s__law_due_ff14) := ⟨rfl, rfl, rfl, by decide +kernel, rfl, by decide +kernel, by decide +kernel⟩
abbrev s__law_state_83f3 : Stmt := topS 23
theorem sc__law_state_83f3 : FnScope n__law_state_83f3 ["_law_script"] (defScope s__law_state_83f3) := ⟨rfl, rfl, rfl, by decide +kernel, rfl, by decide +kernel, by decide +kernel⟩
abbrev s__law_guild_d854 : Stmt := topS 24
theorem sc__law_guild_d854 : FnScope n__law_guild_d854 ["_law_rows", "_law_guild_here"] (defScope s__law_guild_d854) := ⟨rfl, rfl, rfl, by decide +kernel, rfl, by decide +kernel, by decide +kernel⟩
abbrev s_amount_fits : Stmt := topS 3
theorem sc_amount_fits : FnScope n_amount_fits ["one", "other"] (defScope s_amount_fits) := ⟨rfl, rfl, rfl, by decide +kernel, rfl, by decide +kernel, by decide +kernel⟩
abbrev s_amount_sum : Stmt := topS 2
theorem sc_amount_sum : FnScope n_amount_sum ["one", "other"] (defScope s_amount_sum) := ⟨rfl, rfl, rfl, by decide +kernel, rfl, by decide +kernel, by decide +kernel⟩
abbrev s_amount_times : Stmt := topS 4
theorem sc_amount_times : FnScope n_amount_times ["one", "n"] (defScope s_amount_times) := ⟨rfl, rfl, rfl, by decide +kernel, rfl, by decide +kernel, by decide +kernel⟩
abbrev s_whole_of : Stmt := topS 6
theorem sc_whole_of : FnScope n_whole_of ["gang"] (defScope s_whole_of) := ⟨rfl, rfl, rfl, by decide +kernel, rfl, by decide +kernel, by decide +kernel⟩
abbrev s_Share_has_room_for : Stmt := inS (topS 10) 1
theorem sc_Share_has_room_for : FnScope n_Share_has_room_for ["self", "gang"] (defScope s_Share_has_room_for) := ⟨rfl, rfl, rfl, by decide +kernel, rfl, by decide +kernel, by decide +kernel⟩
abbrev s_nothing_of : Stmt := topS 1
theorem sc_nothing_of : FnScope n_nothing_of ["wares"] (defScope s_nothing_of) := ⟨rfl, rfl, rfl, by decide +kernel, rfl, by decide +kernel, by decide +kernel⟩
abbrev s_stands_by : Stmt := topS 7
theorem sc_stands_by : FnScope n_stands_by ["row"] (defScope s_stands_by) := ⟨rfl, rfl, rfl, by decide +kernel, rfl, by decide +kernel, by decide +kernel⟩
abbrev s_in_order : Stmt := topS 8
theorem sc_in_order : FnScope n_in_order ["rows"] (defScope s_in_order) := ⟨rfl, rfl, rfl, by decide +kernel, rfl, by decide +kernel, by decide +kernel⟩
abbrev s_Share_add_gang : Stmt := inS (topS 10) 2
theorem sc_Share_add_gang : FnScope n_Share_add_gang ["self", "gang"] (defScope s_Share_add_gang) := ⟨rfl, rfl, rfl, by decide +kernel, rfl, by decide +kernel, by decide +kernel⟩
abbrev s_Share___init__ : Stmt := inS (topS 10) 0
theorem sc_Share___init__ : FnScope n_Share___init__ ["self", "due", "rows"] (defScope s_Share___init__) := ⟨rfl, rfl, rfl, by decide +kernel, rfl, by decide +kernel, by decide +kernel⟩
abbrev s_owed : Stmt := topS 12
theorem sc_owed : FnScope n_owed ["due", "rows", "gang"] (defScope s_owed) := ⟨rfl, rfl, rfl, by decide +kernel, rfl, by decide +kernel, by decide +kernel⟩
abbrev s_own_with : Stmt := topS 13
theorem sc_own_with : FnScope n_own_with ["due", "rows", "gang"] (defScope s_own_with) := ⟨rfl, rfl, rfl, by decide +kernel, rfl, by decide +kernel, by decide +kernel⟩
abbrev s_parted : Stmt := topS 11
theorem sc_parted : FnScope n_parted ["due", "rows"] (defScope s_parted) := ⟨rfl, rfl, rfl, by decide +kernel, rfl, by decide +kernel, by decide +kernel⟩
abbrev s_rows_of_guild : Stmt := topS 14
theorem sc_rows_of_guild : FnScope n_rows_of_guild ["rows", "guild"] (defScope s_rows_of_guild) := ⟨rfl, rfl, rfl, by decide +kernel, rfl, by decide +kernel, by decide +kernel⟩
abbrev s_Taker___init__ : Stmt := inS (topS 16) 0
theorem sc_Taker___init__ : FnScope n_Taker___init__ ["self", "dues", "rows", "gang"] (defScope s_Taker___init__) := ⟨rfl, rfl, rfl, by decide +kernel, rfl, by decide +kernel, by decide +kernel⟩
abbrev s_Taker_ground_for : Stmt := inS (topS 16) 1
theorem sc_Taker_ground_for : FnScope n_Taker_ground_for ["self", "other"] (defScope s_Taker_ground_for) := ⟨rfl, rfl, rfl, by decide +kernel, rfl, by decide +kernel, by decide +kernel⟩
abbrev s_taken_by : Stmt := topS 15
theorem sc_taken_by : FnScope n_taken_by ["row"] (defScope s_taken_by) := ⟨rfl, rfl, rfl, by decide +kernel, rfl, by decide +kernel, by decide +kernel⟩
abbrev s_may_take : Stmt := topS 17
theorem sc_may_take : FnScope n_may_take ["dues", "rows", "names", "gang"] (defScope s_may_take) := ⟨rfl, rfl, rfl, by decide +kernel, rfl, by decide +kernel, by decide +kernel⟩
abbrev s__law_right_c83b : Stmt := topS 25
theorem sc__law_right_c83b : FnScope n__law_right_c83b ["_law_dues", "_law_rows", "_law_gang_here"] (defScope s__law_right_c83b) := ⟨rfl, rfl, rfl, by decide +kernel, rfl, by decide +kernel, by decide +kernel⟩
abbrev s_law_k30 : Stmt := topS 26
theorem sc_law_k30 : FnScope n_law_k30 ["_law_script"] (defScope s_law_k30) := ⟨rfl, rfl, rfl, by decide +kernel, rfl, by decide +kernel, by decide +kernel⟩
structure Tx (K : PySem.W.Frag) (mg : Str → Option Value) : Prop where
  b_abs : mg "abs" = none
  b_all : mg "all" = none
  b_any : mg "any" = none
  b_dict : mg "dict" = none
  b_int : mg "int" = none
  b_len : mg "len" = none
  b_max : mg "max" = none
  b_min : mg "min" = none
  b_range : mg "range" = none
  b_set : mg "set" = none
  b_sorted : mg "sorted" = none
  b_sum : mg "sum" = none
  b_tuple : mg "tuple" = none
  b_zip : mg "zip" = none
  TC : ∀ c, ClsF K c
  TE : ∀ c, ExnF K c
section
variable {P : Program} {w : World} {K : PySem.W.Frag} {mg : Str → Option Value} {base : Heap}
theorem snd__law_box_f006 (T : Tx K mg)  {f : Addr} (cdv : Value) (A : Around) (outer : List Env) (s : Shared) (H : Hp) (E : XK) (hr : Room 0 (A.deeper (envOfC "_law_box" (defScope s__law_box_f006) s.heap.objs.size f cdv))) : SSs (cxOf (L2.CX P w) P w K mg base n__law_box_f006 "_law_box" (defScope s__law_box_f006) f cdv A outer s H E) (defBody s__law_box_f006) u__law_box_f006 := by
  refine ss_cons ?_ ?_
  · refine s_set ?_ nd__law_box_f006
    · exact se_int
  · refine ss_cut ?_ ?_
    · refine s_if ?_ ?_ ?_
      · refine st_cmp (op_cmps hr .lt) bok_cmp ?_ ?_ (nomark _)
        · exact se_var 1
        · refine se_bi cr_len bok_len T.b_len ?_
          · refine sa_cons ?_ ?_
            · exact se_var 0
            · exact sa_nil
      · refine ss_cons ?_ ?_
        · refine s_set ?_ nd__law_box_f006
          · refine se_ix hr ?_ ?_
            · exact se_var 0
            · exact se_var 1
        · exact ss_nil
      · exact ss_nil
    · refine ss_cons ?_ ?_
      · refine s_set ?_ nd__law_box_f006
        · exact se_int
      · refine ss_cut ?_ ?_
        · refine s_if ?_ ?_ ?_
          · refine st_cmp (op_cmps hr .ge) bok_cmp ?_ ?_ (nomark _)
            · refine se_bi call_abs bok_abs T.b_abs ?_
              · refine sa_cons ?_ ?_
                · exact se_var 2
                · exact sa_nil
            · exact se_powc se_int se_int
          · refine ss_cons ?_ ?_
            · refine s_set ?_ nd__law_box_f006
              · refine se_bi call_abs bok_abs T.b_abs ?_
                · refine sa_cons ?_ ?_
                  · exact se_var 2
                  · exact sa_nil
            · exact ss_nil
          · exact ss_nil
        · refine ss_cons ?_ ?_
          · refine s_ret ?_
            · refine se_lst ?_
              · refine sa_cons ?_ ?_
                · exact se_var 3
                · refine sa_cons ?_ ?_
                  · refine se_bin op_mod bok_mod ?_ ?_
                    · refine se_bin op_muls bok_mul ?_ ?_
                      · refine se_bin op_adds bok_add ?_ ?_
                        · refine se_bin op_adds bok_add ?_ ?_
                          · refine se_bin op_mod bok_mod ?_ ?_
                            · exact se_var 2
                            · exact se_int
                          · refine se_bin op_muls bok_mul ?_ ?_
                            · exact se_int
                            · exact se_var 1
                        · exact se_int
                      · exact se_int
                    · exact se_int
                  · refine sa_cons ?_ ?_
                    · exact se_int
                    · exact sa_nil
          · exact ss_nil
theorem ok__law_box_f006 {f : Addr} {fd : FuncData} (F : Fun K "_law_box" "_law_box" s__law_box_f006 f fd) (T : Tx K mg)  : FnOk P w K mg base (L2.CX P w) 1 f fd ["_law_script", "_law_k"] (spA K a__law_box_f006) :=
  fn_ok F sc__law_box_f006 len__law_box_f006 (fun cdv A outer s H E hr => snd__law_box_f006 T  cdv A outer s H E hr) body__law_box_f006
theorem snd__law_take_9ad5 (T : Tx K mg)  {f : Addr} (cdv : Value) (A : Around) (outer : List Env) (s : Shared) (H : Hp) (E : XK) (hr : Room 0 (A.deeper (envOfC "_law_take" (defScope s__law_take_9ad5) s.heap.objs.size f cdv))) : SSs (cxOf (L2.CX P w) P w K mg base n__law_take_9ad5 "_law_take" (defScope s__law_take_9ad5) f cdv A outer s H E) (defBody s__law_take_9ad5) u__law_take_9ad5 := by
  refine ss_cons ?_ ?_
  · refine s_if ?_ ?_ ?_
    · refine st_cmp (op_cmps hr .gt) bok_cmp ?_ ?_ (nomark _)
      · refine se_ix hr ?_ ?_
        · exact se_var 0
        · exact se_int
      · exact se_int
    · refine ss_cons ?_ ?_
      · refine s_set ?_ nd__law_take_9ad5
        · refine se_bin op_mod bok_mod ?_ ?_
          · refine se_ix hr ?_ ?_
            · exact se_var 0
            · exact se_int
          · exact se_var 1
      · refine ss_cons ?_ ?_
        · refine s_iset hr ?_ ?_ ?_
          · exact se_var 0
          · exact se_int
          · refine se_bin op_fdivW bok_fdv ?_ ?_
            · refine se_ix hr ?_ ?_
              · exact se_var 0
              · exact se_int
            · exact se_var 1
        · refine ss_cons ?_ ?_
          · refine s_ret ?_
            · exact se_var 2
          · exact ss_nil
    · exact ss_nil
  · refine ss_cons ?_ ?_
    · refine s_iset hr ?_ ?_ ?_
      · exact se_var 0
      · exact se_int
      · refine se_bin op_adds bok_add ?_ ?_
        · refine se_ix hr ?_ ?_
          · exact se_var 0
          · exact se_int
        · exact se_int
    · refine ss_cons ?_ ?_
      · refine s_set ?_ nd__law_take_9ad5
        · refine se_bin op_mod bok_mod ?_ ?_
          · refine se_bin op_muls bok_mul ?_ ?_
            · refine se_bin op_adds bok_add ?_ ?_
              · refine se_ix hr ?_ ?_
                · exact se_var 0
                · exact se_int
              · refine se_bin op_muls bok_mul ?_ ?_
                · exact se_int
                · refine se_ix hr ?_ ?_
                  · exact se_var 0
                  · exact se_int
            · refine se_bin op_adds bok_add ?_ ?_
              · exact se_int
              · refine se_ix hr ?_ ?_
                · exact se_var 0
                · exact se_int
          · exact se_int
      · refine ss_cons ?_ ?_
        · refine s_iset hr ?_ ?_ ?_
          · exact se_var 0
          · exact se_int
          · refine se_bin op_mod bok_mod ?_ ?_
            · refine se_bin op_adds bok_add ?_ ?_
              · refine se_bin op_muls bok_mul ?_ ?_
                · exact se_var 3
                · refine se_bin op_adds bok_add ?_ ?_
                  · refine se_bin op_mod bok_mod ?_ ?_
                    · exact se_var 3
                    · exact se_int
                  · exact se_int
              · refine se_ix hr ?_ ?_
                · exact se_var 0
                · exact se_int
            · exact se_int
        · refine ss_cons ?_ ?_
          · refine s_ret ?_
            · refine se_bin op_mod bok_mod ?_ ?_
              · refine se_bin op_fdivW bok_fdv ?_ ?_
                · refine se_bin op_mod bok_mod ?_ ?_
                  · refine se_bin op_muls bok_mul ?_ ?_
                    · refine se_ix hr ?_ ?_
                      · exact se_var 0
                      · exact se_int
                    · refine se_bin op_adds bok_add ?_ ?_
                      · refine se_bin op_mod bok_mod ?_ ?_
                        · refine se_ix hr ?_ ?_
                          · exact se_var 0
                          · exact se_int
                        · exact se_int
                      · exact se_int
                  · exact se_int
                · exact se_int
              · exact se_var 1
          · exact ss_nil
theorem ok__law_take_9ad5 {f : Addr} {fd : FuncData} (F : Fun K "_law_take" "_law_take" s__law_take_9ad5 f fd) (T : Tx K mg)  : FnOk P w K mg base (L2.CX P w) 1 f fd ["_law_box_here", "_law_many"] (spA K a__law_take_9ad5) :=
  fn_ok F sc__law_take_9ad5 len__law_take_9ad5 (fun cdv A outer s H E hr => snd__law_take_9ad5 T  cdv A outer s H E hr) body__law_take_9ad5
theorem snd__law_gang_69eb (T : Tx K mg) (c__law_take_9ad5 : Cal P w K mg base 1 "_law_take" (spA K a__law_take_9ad5)) {f : Addr} (cdv : Value) (A : Around) (outer : List Env) (s : Shared) (H : Hp) (E : XK) (hr : Room 1 (A.deeper (envOfC "_law_gang" (defScope s__law_gang_69eb) s.heap.objs.size f cdv))) : SSs (cxOf (L2.CX P w) P w K mg base n__law_gang_69eb "_law_gang" (defScope s__law_gang_69eb) f cdv A outer s H E) (defBody s__law_gang_69eb) u__law_gang_69eb := by
  refine ss_cons ?_ ?_
  · refine s_set ?_ nd__law_gang_69eb
    · refine se_ty call_tuple_of bok_toTup T.b_tuple ?_
      · refine sa_cons ?_ ?_
        · refine se_lc (own := [("_law_k", 9)]) (nd__law_gang_69eb) ?_ (blkOk_by (N := n__law_gang_69eb) (sc := defScope s__law_gang_69eb) (by decide +kernel)) rfl (fun s H C cl fp => ?_) ?_ (fun s H C cl fp => ?_)
          · refine si_rng1 T.b_range ?_
            · exact se_var 3
          · exact xg_name 9 (nd__law_gang_69eb)
          · exact .no
          · refine se_call c__law_take_9ad5 hr ?_
            · refine sa_cons ?_ ?_
              · exact se_var 0
              · refine sa_cons ?_ ?_
                · refine se_bin op_adds bok_add ?_ ?_
                  · exact se_var 4
                  · exact se_int
                · exact sa_nil
        · exact sa_nil
  · refine ss_cut ?_ ?_
    · refine s_if ?_ ?_ ?_
      · refine st_cmp (op_eqs hr) bok_eq ?_ ?_ (nomark _)
        · refine se_bi (cr_maxs rfl) bok_maxL T.b_max ?_
          · refine sa_cons ?_ ?_
            · exact se_var 5
            · exact sa_nil
        · exact se_int
      · refine ss_cons ?_ ?_
        · refine s_set ?_ nd__law_gang_69eb
          · refine se_bin op_adds bok_add ?_ ?_
            · refine se_slH ?_ ?_
              · exact se_var 5
              · exact se_negc se_int
            · refine se_tup ?_
              · refine sa_cons ?_ ?_
                · refine se_bin op_adds bok_add ?_ ?_
                  · exact se_int
                  · refine se_call c__law_take_9ad5 hr ?_
                    · refine sa_cons ?_ ?_
                      · exact se_var 0
                      · refine sa_cons ?_ ?_
                        · exact se_var 4
                        · exact sa_nil
                · exact sa_nil
        · exact ss_nil
      · exact ss_nil
    · refine ss_cons ?_ ?_
      · refine s_set ?_ nd__law_gang_69eb
        · refine se_ix hr ?_ ?_
          · refine se_lst ?_
            · refine sa_cons ?_ ?_
              · exact se_int
              · refine sa_cons ?_ ?_
                · refine se_bin op_adds bok_add ?_ ?_
                  · exact se_int
                  · refine se_call c__law_take_9ad5 hr ?_
                    · refine sa_cons ?_ ?_
                      · exact se_var 0
                      · refine sa_cons ?_ ?_
                        · exact se_int
                        · exact sa_nil
                · refine sa_cons ?_ ?_
                  · refine se_bin op_adds bok_add ?_ ?_
                    · exact se_int
                    · refine se_call c__law_take_9ad5 hr ?_
                      · refine sa_cons ?_ ?_
                        · exact se_var 0
                        · refine sa_cons ?_ ?_
                          · exact se_int
                          · exact sa_nil
                  · exact sa_nil
          · refine se_call c__law_take_9ad5 hr ?_
            · refine sa_cons ?_ ?_
              · exact se_var 0
              · refine sa_cons ?_ ?_
                · exact se_int
                · exact sa_nil
      · refine ss_cons ?_ ?_
        · refine s_set ?_ nd__law_gang_69eb
          · refine se_ix hr ?_ ?_
            · refine se_lst ?_
              · refine sa_cons ?_ ?_
                · refine se_call c__law_take_9ad5 hr ?_
                  · refine sa_cons ?_ ?_
                    · exact se_var 0
                    · refine sa_cons ?_ ?_
                      · exact se_int
                      · exact sa_nil
                · refine sa_cons ?_ ?_
                  · refine se_call c__law_take_9ad5 hr ?_
                    · refine sa_cons ?_ ?_
                      · exact se_var 0
                      · refine sa_cons ?_ ?_
                        · exact se_int
                        · exact sa_nil
                  · exact sa_nil
            · refine se_call c__law_take_9ad5 hr ?_
              · refine sa_cons ?_ ?_
                · exact se_var 0
                · refine sa_cons ?_ ?_
                  · exact se_int
                  · exact sa_nil
        · refine ss_cons ?_ ?_
          · refine s_set ?_ nd__law_gang_69eb
            · refine se_ix hr ?_ ?_
              · refine se_lst ?_
                · refine sa_cons ?_ ?_
                  · exact se_str
                  · refine sa_cons ?_ ?_
                    · exact se_str
                    · refine sa_cons ?_ ?_
                      · exact se_str
                      · refine sa_cons ?_ ?_
                        · exact se_str
                        · exact sa_nil
              · refine se_call c__law_take_9ad5 hr ?_
                · refine sa_cons ?_ ?_
                  · exact se_var 0
                  · refine sa_cons ?_ ?_
                    · exact se_int
                    · exact sa_nil
          · refine ss_cons ?_ ?_
            · refine s_ret ?_
              · refine se_tup ?_
                · refine sa_cons ?_ ?_
                  · exact se_var 1
                  · refine sa_cons ?_ ?_
                    · refine se_ix hr ?_ ?_
                      · exact se_var 2
                      · refine se_call c__law_take_9ad5 hr ?_
                        · refine sa_cons ?_ ?_
                          · exact se_var 0
                          · refine sa_cons ?_ ?_
                            · refine se_bi cr_len bok_len T.b_len ?_
                              · refine sa_cons ?_ ?_
                                · exact se_var 2
                                · exact sa_nil
                            · exact sa_nil
                    · refine sa_cons ?_ ?_
                      · exact se_var 7
                      · refine sa_cons ?_ ?_
                        · exact se_var 6
                        · refine sa_cons ?_ ?_
                          · exact se_var 5
                          · refine sa_cons ?_ ?_
                            · exact se_var 8
                            · refine sa_cons ?_ ?_
                              · refine se_bin op_adds bok_add ?_ ?_
                                · exact se_int
                                · refine se_call c__law_take_9ad5 hr ?_
                                  · refine sa_cons ?_ ?_
                                    · exact se_var 0
                                    · refine sa_cons ?_ ?_
                                      · exact se_powc se_int se_int
                                      · exact sa_nil
                              · exact sa_nil
            · exact ss_nil
theorem ok__law_gang_69eb {f : Addr} {fd : FuncData} (F : Fun K "_law_gang" "_law_gang" s__law_gang_69eb f fd) (T : Tx K mg) (c__law_take_9ad5 : Cal P w K mg base 1 "_law_take" (spA K a__law_take_9ad5)) : FnOk P w K mg base (L2.CX P w) 2 f fd ["_law_box_here", "_law_name", "_law_guilds", "_law_wares", "_law_wide"] (spA K a__law_gang_69eb) :=
  fn_ok F sc__law_gang_69eb len__law_gang_69eb (fun cdv A outer s H E hr => snd__law_gang_69eb T c__law_take_9ad5 cdv A outer s H E hr) body__law_gang_69eb
theorem snd__law_due_ff14 (T : Tx K mg) (c__law_take_9ad5 : Cal P w K mg base 1 "_law_take" (spA K a__law_take_9ad5)) {f : Addr} (cdv : Value) (A : Around) (outer : List Env) (s : Shared) (H : Hp) (E : XK) (hr : Room 1 (A.deeper (envOfC "_law_due" (defScope s__law_due_ff14) s.heap.objs.size f cdv))) : SSs (cxOf (L2.CX P w) P w K mg base n__law_due_ff14 "_law_due" (defScope s__law_due_ff14) f cdv A outer s H E) (defBody s__law_due_ff14) u__law_due_ff14 := by
  refine ss_cons ?_ ?_
  · refine s_set ?_ nd__law_due_ff14
    · refine se_bin op_muls bok_mul ?_ ?_
      · refine se_ix hr ?_ ?_
        · refine se_lst ?_
          · refine sa_cons ?_ ?_
            · exact se_int
            · refine sa_cons ?_ ?_
              · exact se_int
              · refine sa_cons ?_ ?_
                · exact se_int
                · refine sa_cons ?_ ?_
                  · exact se_int
                  · refine sa_cons ?_ ?_
                    · exact se_int
                    · exact sa_nil
        · refine se_call c__law_take_9ad5 hr ?_
          · refine sa_cons ?_ ?_
            · exact se_var 0
            · refine sa_cons ?_ ?_
              · exact se_int
              · exact sa_nil
      · exact se_var 2
  · refine ss_cons ?_ ?_
    · first | refine s_setLc (own := [("_law_k", 5)]) (nd__law_due_ff14) ?_ (blkOk_by (N := n__law_due_ff14) (sc := defScope s__law_due_ff14) (by decide +kernel)) rfl (fun s H C cl fp => ?_) ?_ (fun s H C cl fp => ?_) | (refine s_set ?_ nd__law_due_ff14; refine se_lc (own := [("_law_k", 5)]) (nd__law_due_ff14) ?_ (blkOk_by (N := n__law_due_ff14) (sc := defScope s__law_due_ff14) (by decide +kernel)) rfl (fun s H C cl fp => ?_) ?_ (fun s H C cl fp => ?_))
      · refine si_rng1 T.b_range ?_
        · exact se_var 1
      · exact xg_name 5 (nd__law_due_ff14)
      · exact .no
      · refine se_bi (call_min2 rfl) bok_min2 T.b_min ?_
        · refine sa_cons ?_ ?_
          · exact se_powc se_int se_int
          · refine sa_cons ?_ ?_
            · refine se_bin op_adds bok_add ?_ ?_
              · refine se_bin op_fdivW bok_fdv ?_ ?_
                · exact se_var 3
                · exact se_int
              · refine se_call c__law_take_9ad5 hr ?_
                · refine sa_cons ?_ ?_
                  · exact se_var 0
                  · refine sa_cons ?_ ?_
                    · refine se_bin op_adds bok_add ?_ ?_
                      · exact se_var 3
                      · exact se_int
                    · exact sa_nil
            · exact sa_nil
    · refine ss_cut ?_ ?_
      · refine s_if ?_ ?_ ?_
        · refine st_cmp (op_eqs hr) bok_eq ?_ ?_ (nomark _)
          · refine se_call c__law_take_9ad5 hr ?_
            · refine sa_cons ?_ ?_
              · exact se_var 0
              · refine sa_cons ?_ ?_
                · exact se_int
                · exact sa_nil
          · exact se_int
        · refine ss_cons ?_ ?_
          · refine s_iset hr ?_ ?_ ?_
            · exact se_var 4
            · refine se_call c__law_take_9ad5 hr ?_
              · refine sa_cons ?_ ?_
                · exact se_var 0
                · refine sa_cons ?_ ?_
                  · exact se_var 1
                  · exact sa_nil
            · exact se_int
          · exact ss_nil
        · exact ss_nil
      · refine ss_cons ?_ ?_
        · refine s_ret ?_
          · refine se_ty call_tuple_of bok_toTup T.b_tuple ?_
            · refine sa_cons ?_ ?_
              · exact se_var 4
              · exact sa_nil
        · exact ss_nil
theorem ok__law_due_ff14 {f : Addr} {fd : FuncData} (F : Fun K "_law_due" "_law_due" s__law_due_ff14 f fd) (T : Tx K mg) (c__law_take_9ad5 : Cal P w K mg base 1 "_law_take" (spA K a__law_take_9ad5)) : FnOk P w K mg base (L2.CX P w) 2 f fd ["_law_box_here", "_law_wares", "_law_wide"] (spA K a__law_due_ff14) :=
  fn_ok F sc__law_due_ff14 len__law_due_ff14 (fun cdv A outer s H E hr => snd__law_due_ff14 T c__law_take_9ad5 cdv A outer s H E hr) body__law_due_ff14
theorem snd__law_state_83f3 (T : Tx K mg) (c__law_box_f006 : Cal P w K mg base 1 "_law_box" (spA K a__law_box_f006)) (c__law_take_9ad5 : Cal P w K mg base 1 "_law_take" (spA K a__law_take_9ad5)) (c__law_gang_69eb : Cal P w K mg base 2 "_law_gang" (spA K a__law_gang_69eb)) (c__law_due_ff14 : Cal P w K mg base 2 "_law_due" (spA K a__law_due_ff14)) {f : Addr} (cdv : Value) (A : Around) (outer : List Env) (s : Shared) (H : Hp) (E : XK) (hr : Room 2 (A.deeper (envOfC "_law_state" (defScope s__law_state_83f3) s.heap.objs.size f cdv))) : SSs (cxOf (L2.CX P w) P w K mg base n__law_state_83f3 "_law_state" (defScope s__law_state_83f3) f cdv A outer s H E) (defBody s__law_state_83f3) u__law_state_83f3 := by
  refine ss_cons ?_ ?_
  · refine s_set ?_ nd__law_state_83f3
    · refine se_call c__law_box_f006 hr ?_
      · refine sa_cons ?_ ?_
        · exact se_var 0
        · refine sa_cons ?_ ?_
          · exact se_int
          · exact sa_nil
  · refine ss_cons ?_ ?_
    · refine s_set ?_ nd__law_state_83f3
      · refine se_ix hr ?_ ?_
        · refine se_lst ?_
          · refine sa_cons ?_ ?_
            · refine se_bin op_adds bok_add ?_ ?_
              · exact se_int
              · refine se_call c__law_take_9ad5 hr ?_
                · refine sa_cons ?_ ?_
                  · exact se_var 1
                  · refine sa_cons ?_ ?_
                    · exact se_int
                    · exact sa_nil
            · refine sa_cons ?_ ?_
              · refine se_bin op_adds bok_add ?_ ?_
                · exact se_int
                · refine se_call c__law_take_9ad5 hr ?_
                  · refine sa_cons ?_ ?_
                    · exact se_var 1
                    · refine sa_cons ?_ ?_
                      · exact se_int
                      · exact sa_nil
              · exact sa_nil
        · refine se_call c__law_take_9ad5 hr ?_
          · refine sa_cons ?_ ?_
            · exact se_var 1
            · refine sa_cons ?_ ?_
              · exact se_int
              · exact sa_nil
    · refine ss_cons ?_ ?_
      · refine s_set ?_ nd__law_state_83f3
        · refine se_ix hr ?_ ?_
          · refine se_lst ?_
            · refine sa_cons ?_ ?_
              · exact se_int
              · refine sa_cons ?_ ?_
                · exact se_int
                · refine sa_cons ?_ ?_
                  · exact se_int
                  · refine sa_cons ?_ ?_
                    · exact se_powc se_int se_int
                    · exact sa_nil
          · refine se_call c__law_take_9ad5 hr ?_
            · refine sa_cons ?_ ?_
              · exact se_var 1
              · refine sa_cons ?_ ?_
                · exact se_int
                · exact sa_nil
      · refine ss_cons ?_ ?_
        · refine s_set ?_ nd__law_state_83f3
          · refine se_lst ?_
            · refine sa_cons ?_ ?_
              · exact se_str
              · refine sa_cons ?_ ?_
                · exact se_str
                · refine sa_cons ?_ ?_
                  · exact se_str
                  · refine sa_cons ?_ ?_
                    · exact se_str
                    · refine sa_cons ?_ ?_
                      · exact se_str
                      · refine sa_cons ?_ ?_
                        · exact se_str
                        · refine sa_cons ?_ ?_
                          · exact se_str
                          · refine sa_cons ?_ ?_
                            · exact se_str
                            · refine sa_cons ?_ ?_
                              · exact se_str
                              · refine sa_cons ?_ ?_
                                · exact se_str
                                · refine sa_cons ?_ ?_
                                  · exact se_str
                                  · refine sa_cons ?_ ?_
                                    · exact se_str
                                    · exact sa_nil
        · refine ss_cons ?_ ?_
          · refine s_set ?_ nd__law_state_83f3
            · refine se_call c__law_take_9ad5 hr ?_
              · refine sa_cons ?_ ?_
                · exact se_var 1
                · refine sa_cons ?_ ?_
                  · exact se_int
                  · exact sa_nil
          · refine ss_cons ?_ ?_
            · refine s_set ?_ nd__law_state_83f3
              · refine se_slH ?_ ?_
                · refine se_bin op_adds bok_add ?_ ?_
                  · refine se_slL ?_ ?_
                    · exact se_var 4
                    · exact se_var 5
                  · refine se_slH ?_ ?_
                    · exact se_var 4
                    · exact se_var 5
                · refine se_ix hr ?_ ?_
                  · refine se_lst ?_
                    · refine sa_cons ?_ ?_
                      · exact se_int
                      · refine sa_cons ?_ ?_
                        · exact se_int
                        · refine sa_cons ?_ ?_
                          · exact se_int
                          · refine sa_cons ?_ ?_
                            · exact se_int
                            · exact sa_nil
                  · refine se_call c__law_take_9ad5 hr ?_
                    · refine sa_cons ?_ ?_
                      · exact se_var 1
                      · refine sa_cons ?_ ?_
                        · exact se_int
                        · exact sa_nil
            · refine ss_cons ?_ ?_
              · refine s_set ?_ nd__law_state_83f3
                · refine se_ty (cr_toDct rfl) bok_toDct T.b_dict ?_
                  · refine sa_cons ?_ ?_
                    · refine se_lc (own := [("_law_guild_here", 14)]) (nd__law_state_83f3) ?_ (blkOk_by (N := n__law_state_83f3) (sc := defScope s__law_state_83f3) (by decide +kernel)) rfl (fun s H C cl fp => ?_) ?_ (fun s H C cl fp => ?_)
                      · refine si_val ?_
                        · exact se_var 6
                      · exact xg_name 14 (nd__law_state_83f3)
                      · exact .no
                      · refine se_tup ?_
                        · refine sa_cons ?_ ?_
                          · exact se_var 14
                          · refine sa_cons ?_ ?_
                            · refine se_call c__law_due_ff14 hr ?_
                              · refine sa_cons ?_ ?_
                                · exact se_var 1
                                · refine sa_cons ?_ ?_
                                  · exact se_var 2
                                  · refine sa_cons ?_ ?_
                                    · exact se_var 3
                                    · exact sa_nil
                            · exact sa_nil
                    · exact sa_nil
              · refine ss_cons ?_ ?_
                · refine s_set ?_ nd__law_state_83f3
                  · refine se_lst ?_
                    · exact sa_nil
                · refine ss_cons ?_ ?_
                  · refine s_for ?_ ?_ ?_
                    · refine si_rng2 T.b_range ?_ ?_
                      · exact se_int
                      · refine se_bi cr_len bok_len T.b_len ?_
                        · refine sa_cons ?_ ?_
                          · exact se_var 0
                          · exact sa_nil
                    · exact xg_name 9 (nd__law_state_83f3)
                    · refine ss_cons ?_ ?_
                      · refine s_set ?_ nd__law_state_83f3
                        · refine se_call c__law_box_f006 hr ?_
                          · refine sa_cons ?_ ?_
                            · exact se_var 0
                            · refine sa_cons ?_ ?_
                              · exact se_var 9
                              · exact sa_nil
                      · refine ss_cons ?_ ?_
                        · refine s_for ?_ ?_ ?_
                          · refine si_rng1 T.b_range ?_
                            · refine se_bin op_adds bok_add ?_ ?_
                              · exact se_int
                              · refine se_ty call_int1 bok_toInt T.b_int ?_
                                · refine sa_cons ?_ ?_
                                  · refine se_cmp (op_eqs hr) bok_eq ?_ ?_ (nomark _)
                                    · refine se_call c__law_take_9ad5 hr ?_
                                      · refine sa_cons ?_ ?_
                                        · exact se_var 10
                                        · refine sa_cons ?_ ?_
                                          · exact se_int
                                          · exact sa_nil
                                    · exact se_int
                                  · exact sa_nil
                          · exact xg_name 11 (nd__law_state_83f3)
                          · refine ss_cons ?_ ?_
                            · refine s_if ?_ ?_ ?_
                              · refine st_cmp (op_cmps hr .lt) bok_cmp ?_ ?_ (nomark _)
                                · refine se_bi cr_len bok_len T.b_len ?_
                                  · refine sa_cons ?_ ?_
                                    · exact se_var 8
                                    · exact sa_nil
                                · exact se_int
                              · refine ss_cons ?_ ?_
                                · refine s_set ?_ nd__law_state_83f3
                                  · refine se_bin op_muls bok_mul ?_ ?_
                                    · refine se_ix hr ?_ ?_
                                      · exact se_str
                                      · refine se_bin op_fdivW bok_fdv ?_ ?_
                                        · refine se_bi cr_len bok_len T.b_len ?_
                                          · refine sa_cons ?_ ?_
                                            · exact se_var 8
                                            · exact sa_nil
                                        · exact se_int
                                    · refine se_bin op_adds bok_add ?_ ?_
                                      · exact se_int
                                      · refine se_bin op_mod bok_mod ?_ ?_
                                        · refine se_bi cr_len bok_len T.b_len ?_
                                          · refine sa_cons ?_ ?_
                                            · exact se_var 8
                                            · exact sa_nil
                                        · exact se_int
                                · refine ss_cons ?_ ?_
                                  · refine s_expr ?_
                                    · refine se_bm k_append ?_ ?_
                                      · exact se_var 8
                                      · refine sa_cons ?_ ?_
                                        · refine se_tup ?_
                                          · refine sa_cons ?_ ?_
                                            · refine se_call c__law_gang_69eb hr ?_
                                              · refine sa_cons ?_ ?_
                                                · exact se_var 10
                                                · refine sa_cons ?_ ?_
                                                  · exact se_var 12
                                                  · refine sa_cons ?_ ?_
                                                    · exact se_var 6
                                                    · refine sa_cons ?_ ?_
                                                      · exact se_var 2
                                                      · refine sa_cons ?_ ?_
                                                        · exact se_var 3
                                                        · exact sa_nil
                                            · refine sa_cons ?_ ?_
                                              · refine se_bin op_adds bok_add ?_ ?_
                                                · refine se_bin op_muls bok_mul ?_ ?_
                                                  · exact se_int
                                                  · refine se_call c__law_take_9ad5 hr ?_
                                                    · refine sa_cons ?_ ?_
                                                      · exact se_var 10
                                                      · refine sa_cons ?_ ?_
                                                        · exact se_int
                                                        · exact sa_nil
                                                · refine se_bi cr_len bok_len T.b_len ?_
                                                  · refine sa_cons ?_ ?_
                                                    · exact se_var 8
                                                    · exact sa_nil
                                              · exact sa_nil
                                        · exact sa_nil
                                  · exact ss_nil
                              · exact ss_nil
                            · exact ss_nil
                        · exact ss_nil
                  · refine ss_cons ?_ ?_
                    · refine s_set ?_ nd__law_state_83f3
                      · refine se_call c__law_gang_69eb hr ?_
                        · refine sa_cons ?_ ?_
                          · exact se_var 1
                          · refine sa_cons ?_ ?_
                            · refine se_ix hr ?_ ?_
                              · refine se_lst ?_
                                · refine sa_cons ?_ ?_
                                  · exact se_str
                                  · refine sa_cons ?_ ?_
                                    · exact se_str
                                    · refine sa_cons ?_ ?_
                                      · exact se_str
                                      · exact sa_nil
                              · refine se_call c__law_take_9ad5 hr ?_
                                · refine sa_cons ?_ ?_
                                  · exact se_var 1
                                  · refine sa_cons ?_ ?_
                                    · exact se_int
                                    · exact sa_nil
                            · refine sa_cons ?_ ?_
                              · exact se_var 6
                              · refine sa_cons ?_ ?_
                                · exact se_var 2
                                · refine sa_cons ?_ ?_
                                  · exact se_var 3
                                  · exact sa_nil
                    · refine ss_cons ?_ ?_
                      · refine s_for ?_ ?_ ?_
                        · refine si_val ?_
                          · exact se_var 6
                        · exact xg_name 14 (nd__law_state_83f3)
                        · refine ss_cons ?_ ?_
                          · refine s_set ?_ nd__law_state_83f3
                            · refine se_bin op_adds bok_add ?_ ?_
                              · refine se_slH ?_ ?_
                                · refine se_lc (own := [("_law_row", 17)]) (nd__law_state_83f3) ?_ (blkOk_by (N := n__law_state_83f3) (sc := defScope s__law_state_83f3) (by decide +kernel)) rfl (fun s H C cl fp => ?_) ?_ (fun s H C cl fp => ?_)
                                  · refine si_val ?_
                                    · exact se_var 8
                                  · exact xg_name 17 (nd__law_state_83f3)
                                  · refine .one fun s H C cl fp => ?_
                                    · refine st_cmp (op_eqs hr) bok_eq ?_ ?_ (nomark _)
                                      · refine se_ix hr ?_ ?_
                                        · refine se_ix hr ?_ ?_
                                          · exact se_var 17
                                          · exact se_int
                                        · exact se_int
                                      · exact se_var 14
                                  · refine se_ix hr ?_ ?_
                                    · exact se_var 17
                                    · exact se_int
                                · refine se_call c__law_take_9ad5 hr ?_
                                  · refine sa_cons ?_ ?_
                                    · exact se_var 1
                                    · refine sa_cons ?_ ?_
                                      · exact se_int
                                      · exact sa_nil
                              · refine se_slH ?_ ?_
                                · refine se_lst ?_
                                  · refine sa_cons ?_ ?_
                                    · exact se_var 13
                                    · exact sa_nil
                                · refine se_ty call_int1 bok_toInt T.b_int ?_
                                  · refine sa_cons ?_ ?_
                                    · refine se_cmp (op_eqs hr) bok_eq ?_ ?_ (nomark _)
                                      · exact se_var 14
                                      · refine se_ix hr ?_ ?_
                                        · exact se_var 13
                                        · exact se_int
                                    · exact sa_nil
                          · refine ss_cons ?_ ?_
                            · refine s_set ?_ nd__law_state_83f3
                              · refine se_ty call_tuple_of bok_toTup T.b_tuple ?_
                                · refine sa_cons ?_ ?_
                                  · refine se_lc (own := [("_law_k", 9)]) (nd__law_state_83f3) ?_ (blkOk_by (N := n__law_state_83f3) (sc := defScope s__law_state_83f3) (by decide +kernel)) rfl (fun s H C cl fp => ?_) ?_ (fun s H C cl fp => ?_)
                                    · refine si_rng1 T.b_range ?_
                                      · exact se_var 2
                                    · exact xg_name 9 (nd__law_state_83f3)
                                    · exact .no
                                    · refine se_bi (cr_sums rfl) bok_sum T.b_sum ?_
                                      · refine sa_cons ?_ ?_
                                        · refine se_lc (own := [("_law_one", 18)]) (nd__law_state_83f3) ?_ (blkOk_by (N := n__law_state_83f3) (sc := relS _ (defScope s__law_state_83f3)) (by decide +kernel)) rfl (fun s H C cl fp => ?_) ?_ (fun s H C cl fp => ?_)
                                          · refine si_val ?_
                                            · exact se_var 15
                                          · exact xg_name 18 (nd__law_state_83f3)
                                          · exact .no
                                          · refine se_bin op_muls bok_mul ?_ ?_
                                            · refine se_ix hr ?_ ?_
                                              · exact se_var 18
                                              · exact se_int
                                            · refine se_ix hr ?_ ?_
                                              · refine se_ix hr ?_ ?_
                                                · exact se_var 18
                                                · exact se_int
                                              · exact se_var 9
                                        · exact sa_nil
                                  · exact sa_nil
                            · refine ss_cons ?_ ?_
                              · refine s_if ?_ ?_ ?_
                                · refine SWh.st ?_
                                  · refine sw_and ?_ ?_
                                    · refine st_cmp (op_eqs hr) bok_eq ?_ ?_ (nomark _)
                                      · refine se_call c__law_take_9ad5 hr ?_
                                        · refine sa_cons ?_ ?_
                                          · exact se_var 1
                                          · refine sa_cons ?_ ?_
                                            · exact se_int
                                            · exact sa_nil
                                      · exact se_int
                                    · refine sw_and1 ?_
                                      · refine st_cmp (op_cmps hr .le) bok_cmp ?_ ?_ (nomark _)
                                        · refine se_bi (cr_maxs rfl) bok_maxL T.b_max ?_
                                          · refine sa_cons ?_ ?_
                                            · exact se_var 16
                                            · exact sa_nil
                                        · exact se_powc se_int se_int
                                · refine ss_cons ?_ ?_
                                  · refine s_iset hr ?_ ?_ ?_
                                    · exact se_var 7
                                    · exact se_var 14
                                    · exact se_var 16
                                  · exact ss_nil
                                · exact ss_nil
                              · exact ss_nil
                      · refine ss_cons ?_ ?_
                        · refine s_ret ?_
                          · refine se_tup ?_
                            · refine sa_cons ?_ ?_
                              · exact se_var 7
                              · refine sa_cons ?_ ?_
                                · exact se_var 8
                                · refine sa_cons ?_ ?_
                                  · exact se_var 13
                                  · exact sa_nil
                        · exact ss_nil
theorem ok__law_state_83f3 {f : Addr} {fd : FuncData} (F : Fun K "_law_state" "_law_state" s__law_state_83f3 f fd) (T : Tx K mg) (c__law_box_f006 : Cal P w K mg base 1 "_law_box" (spA K a__law_box_f006)) (c__law_take_9ad5 : Cal P w K mg base 1 "_law_take" (spA K a__law_take_9ad5)) (c__law_gang_69eb : Cal P w K mg base 2 "_law_gang" (spA K a__law_gang_69eb)) (c__law_due_ff14 : Cal P w K mg base 2 "_law_due" (spA K a__law_due_ff14)) : FnOk P w K mg base (L2.CX P w) 3 f fd ["_law_script"] (spA K a__law_state_83f3) :=
  fn_ok F sc__law_state_83f3 len__law_state_83f3 (fun cdv A outer s H E hr => snd__law_state_83f3 T c__law_box_f006 c__law_take_9ad5 c__law_gang_69eb c__law_due_ff14 cdv A outer s H E hr) body__law_state_83f3
theorem snd__law_guild_d854 (T : Tx K mg)  {f : Addr} (cdv : Value) (A : Around) (outer : List Env) (s : Shared) (H : Hp) (E : XK) (hr : Room 0 (A.deeper (envOfC "_law_guild" (defScope s__law_guild_d854) s.heap.objs.size f cdv))) : SSs (cxOf (L2.CX P w) P w K mg base n__law_guild_d854 "_law_guild" (defScope s__law_guild_d854) f cdv A outer s H E) (defBody s__law_guild_d854) u__law_guild_d854 := by
  refine ss_cons ?_ ?_
  · refine s_ret ?_
    · refine se_lc (own := [("_law_row", 2)]) (nd__law_guild_d854) ?_ (blkOk_by (N := n__law_guild_d854) (sc := defScope s__law_guild_d854) (by decide +kernel)) rfl (fun s H C cl fp => ?_) ?_ (fun s H C cl fp => ?_)
      · refine si_val ?_
        · exact se_var 0
      · exact xg_name 2 (nd__law_guild_d854)
      · refine .one fun s H C cl fp => ?_
        · refine st_cmp (op_eqs hr) bok_eq ?_ ?_ (nomark _)
          · refine se_ix hr ?_ ?_
            · refine se_ix hr ?_ ?_
              · exact se_var 2
              · exact se_int
            · exact se_int
          · exact se_var 1
      · exact se_var 2
  · exact ss_nil
theorem ok__law_guild_d854 {f : Addr} {fd : FuncData} (F : Fun K "_law_guild" "_law_guild" s__law_guild_d854 f fd) (T : Tx K mg)  : FnOk P w K mg base (L2.CX P w) 1 f fd ["_law_rows", "_law_guild_here"] (spA K a__law_guild_d854) :=
  fn_ok F sc__law_guild_d854 len__law_guild_d854 (fun cdv A outer s H E hr => snd__law_guild_d854 T  cdv A outer s H E hr) body__law_guild_d854
theorem snd_amount_fits (T : Tx K mg)  {f : Addr} (cdv : Value) (A : Around) (outer : List Env) (s : Shared) (H : Hp) (E : XK) (hr : Room 0 (A.deeper (envOfC "amount_fits" (defScope s_amount_fits) s.heap.objs.size f cdv))) : SSs (cxOf (L2.CX P w) P w K mg base n_amount_fits "amount_fits" (defScope s_amount_fits) f cdv A outer s H E) (defBody s_amount_fits) u_amount_fits := by
  refine ss_cons ?_ ?_
  · refine s_ret ?_
    · refine se_bi (cr_all rfl) bok_all T.b_all ?_
      · refine sa_cons ?_ ?_
        · refine se_lc (own := [("a", 2), ("b", 3)]) (nd_amount_fits) ?_ (blkOk_by (N := n_amount_fits) (sc := defScope s_amount_fits) (by decide +kernel)) rfl (fun s H C cl fp => ?_) ?_ (fun s H C cl fp => ?_)
          · refine si_zip2 T.b_zip ?_ ?_
            · exact se_var 0
            · exact se_var 1
          · refine xg_tup ?_
            · refine xgs_cons ?_ ?_
              · exact xg_name 2 (nd_amount_fits)
              · refine xgs_cons ?_ ?_
                · exact xg_name 3 (nd_amount_fits)
                · exact xgs_nil
          · exact .no
          · refine se_cmp (op_cmps hr .le) bok_cmp ?_ ?_ (nomark _)
            · exact se_var 2
            · exact se_var 3
        · exact sa_nil
  · exact ss_nil
theorem ok_amount_fits {f : Addr} {fd : FuncData} (F : Fun K "amount_fits" "amount_fits" s_amount_fits f fd) (T : Tx K mg)  : FnOk P w K mg base (L2.CX P w) 1 f fd ["one", "other"] (spA K a_amount_fits) :=
  fn_ok F sc_amount_fits len_amount_fits (fun cdv A outer s H E hr => snd_amount_fits T  cdv A outer s H E hr) body_amount_fits
theorem snd_amount_sum (T : Tx K mg)  {f : Addr} (cdv : Value) (A : Around) (outer : List Env) (s : Shared) (H : Hp) (E : XK) (hr : Room 0 (A.deeper (envOfC "amount_sum" (defScope s_amount_sum) s.heap.objs.size f cdv))) : SSs (cxOf (L2.CX P w) P w K mg base n_amount_sum "amount_sum" (defScope s_amount_sum) f cdv A outer s H E) (defBody s_amount_sum) u_amount_sum := by
  refine ss_cons ?_ ?_
  · refine s_ret ?_
    · refine se_ty call_tuple_of bok_toTup T.b_tuple ?_
      · refine sa_cons ?_ ?_
        · refine se_lc (own := [("a", 2), ("b", 3)]) (nd_amount_sum) ?_ (blkOk_by (N := n_amount_sum) (sc := defScope s_amount_sum) (by decide +kernel)) rfl (fun s H C cl fp => ?_) ?_ (fun s H C cl fp => ?_)
          · refine si_zip2 T.b_zip ?_ ?_
            · exact se_var 0
            · exact se_var 1
          · refine xg_tup ?_
            · refine xgs_cons ?_ ?_
              · exact xg_name 2 (nd_amount_sum)
              · refine xgs_cons ?_ ?_
                · exact xg_name 3 (nd_amount_sum)
                · exact xgs_nil
          · exact .no
          · refine se_bin op_adds bok_add ?_ ?_
            · exact se_var 2
            · exact se_var 3
        · exact sa_nil
  · exact ss_nil
theorem ok_amount_sum {f : Addr} {fd : FuncData} (F : Fun K "amount_sum" "amount_sum" s_amount_sum f fd) (T : Tx K mg)  : FnOk P w K mg base (L2.CX P w) 1 f fd ["one", "other"] (spA K a_amount_sum) :=
  fn_ok F sc_amount_sum len_amount_sum (fun cdv A outer s H E hr => snd_amount_sum T  cdv A outer s H E hr) body_amount_sum
theorem snd_amount_times (T : Tx K mg)  {f : Addr} (cdv : Value) (A : Around) (outer : List Env) (s : Shared) (H : Hp) (E : XK) (hr : Room 0 (A.deeper (envOfC "amount_times" (defScope s_amount_times) s.heap.objs.size f cdv))) : SSs (cxOf (L2.CX P w) P w K mg base n_amount_times "amount_times" (defScope s_amount_times) f cdv A outer s H E) (defBody s_amount_times) u_amount_times := by
  refine ss_cons ?_ ?_
  · refine s_ret ?_
    · refine se_ty call_tuple_of bok_toTup T.b_tuple ?_
      · refine sa_cons ?_ ?_
        · refine se_lc (own := [("a", 2)]) (nd_amount_times) ?_ (blkOk_by (N := n_amount_times) (sc := defScope s_amount_times) (by decide +kernel)) rfl (fun s H C cl fp => ?_) ?_ (fun s H C cl fp => ?_)
          · refine si_val ?_
            · exact se_var 0
          · exact xg_name 2 (nd_amount_times)
          · exact .no
          · refine se_bin op_muls bok_mul ?_ ?_
            · exact se_var 2
            · exact se_var 1
        · exact sa_nil
  · exact ss_nil
theorem ok_amount_times {f : Addr} {fd : FuncData} (F : Fun K "amount_times" "amount_times" s_amount_times f fd) (T : Tx K mg)  : FnOk P w K mg base (L2.CX P w) 1 f fd ["one", "n"] (spA K a_amount_times) :=
  fn_ok F sc_amount_times len_amount_times (fun cdv A outer s H E hr => snd_amount_times T  cdv A outer s H E hr) body_amount_times
theorem snd_whole_of (T : Tx K mg) (c_amount_times : Cal P w K mg base 1 "amount_times" (spA K a_amount_times)) {f : Addr} (cdv : Value) (A : Around) (outer : List Env) (s : Shared) (H : Hp) (E : XK) (hr : Room 1 (A.deeper (envOfC "whole_of" (defScope s_whole_of) s.heap.objs.size f cdv))) : SSs (cxOf (L2.CX P w) P w K mg base n_whole_of "whole_of" (defScope s_whole_of) f cdv A outer s H E) (defBody s_whole_of) u_whole_of := by
  refine ss_cons ?_ ?_
  · refine s_ret ?_
    · refine se_call c_amount_times hr ?_
      · refine sa_cons ?_ ?_
        · refine se_ix hr ?_ ?_
          · exact se_var 0
          · exact se_int
        · refine sa_cons ?_ ?_
          · refine se_ix hr ?_ ?_
            · exact se_var 0
            · exact se_int
          · exact sa_nil
  · exact ss_nil
theorem ok_whole_of {f : Addr} {fd : FuncData} (F : Fun K "whole_of" "whole_of" s_whole_of f fd) (T : Tx K mg) (c_amount_times : Cal P w K mg base 1 "amount_times" (spA K a_amount_times)) : FnOk P w K mg base (L2.CX P w) 2 f fd ["gang"] (spA K a_whole_of) :=
  fn_ok F sc_whole_of len_whole_of (fun cdv A outer s H E hr => snd_whole_of T c_amount_times cdv A outer s H E hr) body_whole_of
theorem snd_Share_has_room_for (T : Tx K mg) (c_amount_fits : Cal P w K mg base 1 "amount_fits" (spA K a_amount_fits)) (c_amount_sum : Cal P w K mg base 1 "amount_sum" (spA K a_amount_sum)) (c_whole_of : Cal P w K mg base 2 "whole_of" (spA K a_whole_of)) {f : Addr} (cdv : Value) (A : Around) (outer : List Env) (s : Shared) (H : Hp) (E : XK) (hr : Room 2 (A.deeper (envOfC "Share.has_room_for" (defScope s_Share_has_room_for) s.heap.objs.size f cdv))) : SSs (cxOf (L2.CX P w) P w K mg base n_Share_has_room_for "Share.has_room_for" (defScope s_Share_has_room_for) f cdv A outer s H E) (defBody s_Share_has_room_for) u_Share_has_room_for := by
  refine ss_cons ?_ ?_
  · refine s_ret ?_
    · refine se_call c_amount_fits hr ?_
      · refine sa_cons ?_ ?_
        · refine se_call c_amount_sum hr ?_
          · refine sa_cons ?_ ?_
            · refine se_fld (f := .borne) T.TC T.TE ?_
              · exact se_var 0
            · refine sa_cons ?_ ?_
              · refine se_call c_whole_of hr ?_
                · refine sa_cons ?_ ?_
                  · exact se_var 1
                  · exact sa_nil
              · exact sa_nil
        · refine sa_cons ?_ ?_
          · refine se_fld (f := .due) T.TC T.TE ?_
            · exact se_var 0
          · exact sa_nil
  · exact ss_nil
theorem ok_Share_has_room_for {f : Addr} {fd : FuncData} (F : Fun K "has_room_for" "Share.has_room_for" s_Share_has_room_for f fd) (T : Tx K mg) (c_amount_fits : Cal P w K mg base 1 "amount_fits" (spA K a_amount_fits)) (c_amount_sum : Cal P w K mg base 1 "amount_sum" (spA K a_amount_sum)) (c_whole_of : Cal P w K mg base 2 "whole_of" (spA K a_whole_of)) : FnOk P w K mg base (L2.CX P w) 3 f fd ["self", "gang"] (spA K a_Share_has_room_for) :=
  fn_ok F sc_Share_has_room_for len_Share_has_room_for (fun cdv A outer s H E hr => snd_Share_has_room_for T c_amount_fits c_amount_sum c_whole_of cdv A outer s H E hr) body_Share_has_room_for
theorem snd_nothing_of (T : Tx K mg)  {f : Addr} (cdv : Value) (A : Around) (outer : List Env) (s : Shared) (H : Hp) (E : XK) (hr : Room 0 (A.deeper (envOfC "nothing_of" (defScope s_nothing_of) s.heap.objs.size f cdv))) : SSs (cxOf (L2.CX P w) P w K mg base n_nothing_of "nothing_of" (defScope s_nothing_of) f cdv A outer s H E) (defBody s_nothing_of) u_nothing_of := by
  refine ss_cons ?_ ?_
  · refine s_ret ?_
    · refine se_bin op_muls bok_mul ?_ ?_
      · refine se_tup ?_
        · refine sa_cons ?_ ?_
          · exact se_int
          · exact sa_nil
      · exact se_var 0
  · exact ss_nil
theorem ok_nothing_of {f : Addr} {fd : FuncData} (F : Fun K "nothing_of" "nothing_of" s_nothing_of f fd) (T : Tx K mg)  : FnOk P w K mg base (L2.CX P w) 1 f fd ["wares"] (spA K a_nothing_of) :=
  fn_ok F sc_nothing_of len_nothing_of (fun cdv A outer s H E hr => snd_nothing_of T  cdv A outer s H E hr) body_nothing_of
theorem snd_stands_by (T : Tx K mg)  {f : Addr} (cdv : Value) (A : Around) (outer : List Env) (s : Shared) (H : Hp) (E : XK) (hr : Room 0 (A.deeper (envOfC "stands_by" (defScope s_stands_by) s.heap.objs.size f cdv))) : SSs (cxOf (L2.CX P w) P w K mg base n_stands_by "stands_by" (defScope s_stands_by) f cdv A outer s H E) (defBody s_stands_by) u_stands_by := by
  refine ss_cons ?_ ?_
  · refine s_ret ?_
    · refine se_tup ?_
      · refine sa_cons ?_ ?_
        · refine se_neg ?_
          · refine se_ix hr ?_ ?_
            · refine se_ix hr ?_ ?_
              · exact se_var 0
              · exact se_int
            · exact se_int
        · refine sa_cons ?_ ?_
          · refine se_ix hr ?_ ?_
            · exact se_var 0
            · exact se_int
          · exact sa_nil
  · exact ss_nil
theorem ok_stands_by {f : Addr} {fd : FuncData} (F : Fun K "stands_by" "stands_by" s_stands_by f fd) (T : Tx K mg)  : FnOk P w K mg base (L2.CX P w) 1 f fd ["row"] (spA K a_stands_by) :=
  fn_ok F sc_stands_by len_stands_by (fun cdv A outer s H E hr => snd_stands_by T  cdv A outer s H E hr) body_stands_by
theorem snd_in_order (T : Tx K mg) (c_stands_by : Cal P w K mg base 1 "stands_by" (spA K a_stands_by)) {f : Addr} (cdv : Value) (A : Around) (outer : List Env) (s : Shared) (H : Hp) (E : XK) (hr : Room 2 (A.deeper (envOfC "in_order" (defScope s_in_order) s.heap.objs.size f cdv))) : SSs (cxOf (L2.CX P w) P w K mg base n_in_order "in_order" (defScope s_in_order) f cdv A outer s H E) (defBody s_in_order) u_in_order := by
  refine ss_cons ?_ ?_
  · refine s_ret ?_
    · refine se_lc (own := [("row", 1)]) (nd_in_order) ?_ (blkOk_by (N := n_in_order) (sc := defScope s_in_order) (by decide +kernel)) rfl (fun s H C cl fp => ?_) ?_ (fun s H C cl fp => ?_)
      · refine si_val ?_
        · refine se_sortK T.b_sorted c_stands_by hr ?_
          · exact se_var 0
      · exact xg_name 1 (nd_in_order)
      · exact .no
      · refine se_ix hr ?_ ?_
        · exact se_var 1
        · exact se_int
  · exact ss_nil
theorem ok_in_order {f : Addr} {fd : FuncData} (F : Fun K "in_order" "in_order" s_in_order f fd) (T : Tx K mg) (c_stands_by : Cal P w K mg base 1 "stands_by" (spA K a_stands_by)) : FnOk P w K mg base (L2.CX P w) 3 f fd ["rows"] (spA K a_in_order) :=
  fn_ok F sc_in_order len_in_order (fun cdv A outer s H E hr => snd_in_order T c_stands_by cdv A outer s H E hr) body_in_order
theorem snd_Share_add_gang (T : Tx K mg) (c_Share_has_room_for : MCal P w K mg base 3 .Share "has_room_for" (spA K a_Share_has_room_for)) (c_amount_sum : Cal P w K mg base 1 "amount_sum" (spA K a_amount_sum)) (c_whole_of : Cal P w K mg base 2 "whole_of" (spA K a_whole_of)) {f : Addr} (cdv : Value) (A : Around) (outer : List Env) (s : Shared) (H : Hp) (E : XK) (hr : Room 3 (A.deeper (envOfC "Share.add_gang" (defScope s_Share_add_gang) s.heap.objs.size f cdv))) : SSs (cxOf (L2.CX P w) P w K mg base n_Share_add_gang "Share.add_gang" (defScope s_Share_add_gang) f cdv A outer s H E) (defBody s_Share_add_gang) u_Share_add_gang := by
  refine ss_cons ?_ ?_
  · refine s_if ?_ ?_ ?_
    · refine st_val ?_
      · refine se_meth c_Share_has_room_for hr ?_ ?_
        · exact se_var 0
        · refine sa_cons ?_ ?_
          · exact se_var 1
          · exact sa_nil
    · refine ss_cons ?_ ?_
      · refine s_fset (f := .borne) T.TC ?_ ?_
        · exact se_var 0
        · refine se_call c_amount_sum hr ?_
          · refine sa_cons ?_ ?_
            · refine se_fld (f := .borne) T.TC T.TE ?_
              · exact se_var 0
            · refine sa_cons ?_ ?_
              · refine se_call c_whole_of hr ?_
                · refine sa_cons ?_ ?_
                  · exact se_var 1
                  · exact sa_nil
              · exact sa_nil
      · refine ss_cons ?_ ?_
        · refine s_expr ?_
          · refine se_bm k_append ?_ ?_
            · refine se_fld (f := .own_names) T.TC T.TE ?_
              · exact se_var 0
            · refine sa_cons ?_ ?_
              · refine se_ix hr ?_ ?_
                · exact se_var 1
                · exact se_int
              · exact sa_nil
        · exact ss_nil
    · refine ss_cons ?_ ?_
      · refine s_expr ?_
        · refine se_bm k_append ?_ ?_
          · refine se_fld (f := .lent_names) T.TC T.TE ?_
            · exact se_var 0
          · refine sa_cons ?_ ?_
            · refine se_ix hr ?_ ?_
              · exact se_var 1
              · exact se_int
            · exact sa_nil
      · exact ss_nil
  · exact ss_nil
theorem ok_Share_add_gang {f : Addr} {fd : FuncData} (F : Fun K "add_gang" "Share.add_gang" s_Share_add_gang f fd) (T : Tx K mg) (c_Share_has_room_for : MCal P w K mg base 3 .Share "has_room_for" (spA K a_Share_has_room_for)) (c_amount_sum : Cal P w K mg base 1 "amount_sum" (spA K a_amount_sum)) (c_whole_of : Cal P w K mg base 2 "whole_of" (spA K a_whole_of)) : FnOk P w K mg base (L2.CX P w) 4 f fd ["self", "gang"] (spA K a_Share_add_gang) :=
  fn_ok F sc_Share_add_gang len_Share_add_gang (fun cdv A outer s H E hr => snd_Share_add_gang T c_Share_has_room_for c_amount_sum c_whole_of cdv A outer s H E hr) body_Share_add_gang
theorem snd_Share___init__ (T : Tx K mg) (c_nothing_of : Cal P w K mg base 1 "nothing_of" (spA K a_nothing_of)) (c_in_order : Cal P w K mg base 3 "in_order" (spA K a_in_order)) (c_Share_add_gang : MCal P w K mg base 4 .Share "add_gang" (spA K a_Share_add_gang)) {f : Addr} (cdv : Value) (A : Around) (outer : List Env) (s : Shared) (H : Hp) (E : XK) (hr : Room 4 (A.deeper (envOfC "Share.__init__" (defScope s_Share___init__) s.heap.objs.size f cdv))) : SSs (cxOf (L2.CX P w) P w K mg base n_Share___init__ "Share.__init__" (defScope s_Share___init__) f cdv A outer s H E) (defBody s_Share___init__) u_Share___init__ := by
  refine ss_cons ?_ ?_
  · refine s_fset (f := .due) T.TC ?_ ?_
    · exact se_var 0
    · exact se_var 1
  · refine ss_cons ?_ ?_
    · refine s_fset (f := .borne) T.TC ?_ ?_
      · exact se_var 0
      · refine se_call c_nothing_of hr ?_
        · refine sa_cons ?_ ?_
          · refine se_bi cr_len bok_len T.b_len ?_
            · refine sa_cons ?_ ?_
              · exact se_var 1
              · exact sa_nil
          · exact sa_nil
    · refine ss_cons ?_ ?_
      · refine s_fset (f := .own_names) T.TC ?_ ?_
        · exact se_var 0
        · refine se_lst ?_
          · exact sa_nil
      · refine ss_cons ?_ ?_
        · refine s_fset (f := .lent_names) T.TC ?_ ?_
          · exact se_var 0
          · refine se_lst ?_
            · exact sa_nil
        · refine ss_cons ?_ ?_
          · refine s_for ?_ ?_ ?_
            · refine si_val ?_
              · refine se_call c_in_order hr ?_
                · refine sa_cons ?_ ?_
                  · exact se_var 2
                  · exact sa_nil
            · exact xg_name 3 (nd_Share___init__)
            · refine ss_cons ?_ ?_
              · refine s_expr ?_
                · refine se_meth c_Share_add_gang hr ?_ ?_
                  · exact se_var 0
                  · refine sa_cons ?_ ?_
                    · exact se_var 3
                    · exact sa_nil
              · exact ss_nil
          · exact ss_nil
theorem ok_Share___init__ {f : Addr} {fd : FuncData} (F : Fun K "__init__" "Share.__init__" s_Share___init__ f fd) (T : Tx K mg) (c_nothing_of : Cal P w K mg base 1 "nothing_of" (spA K a_nothing_of)) (c_in_order : Cal P w K mg base 3 "in_order" (spA K a_in_order)) (c_Share_add_gang : MCal P w K mg base 4 .Share "add_gang" (spA K a_Share_add_gang)) : FnOk P w K mg base (L2.CX P w) 5 f fd ["self", "due", "rows"] (spA K a_Share___init__) :=
  fn_ok F sc_Share___init__ len_Share___init__ (fun cdv A outer s H E hr => snd_Share___init__ T c_nothing_of c_in_order c_Share_add_gang cdv A outer s H E hr) body_Share___init__
theorem snd_owed (T : Tx K mg) (c_Share_has_room_for : MCal P w K mg base 3 .Share "has_room_for" (spA K a_Share_has_room_for)) (c_Share___init__ : KCal P w K mg base 5 .Share (spA K a_Share___init__)) {f : Addr} (cdv : Value) (A : Around) (outer : List Env) (s : Shared) (H : Hp) (E : XK) (hr : Room 6 (A.deeper (envOfC "owed" (defScope s_owed) s.heap.objs.size f cdv))) : SSs (cxOf (L2.CX P w) P w K mg base n_owed "owed" (defScope s_owed) f cdv A outer s H E) (defBody s_owed) u_owed := by
  refine ss_cons ?_ ?_
  · refine s_ret ?_
    · refine se_meth c_Share_has_room_for hr ?_ ?_
      · refine se_make c_Share___init__ hr ?_
        · refine sa_cons ?_ ?_
          · exact se_var 0
          · refine sa_cons ?_ ?_
            · exact se_var 1
            · exact sa_nil
      · refine sa_cons ?_ ?_
        · exact se_var 2
        · exact sa_nil
  · exact ss_nil
theorem ok_owed {f : Addr} {fd : FuncData} (F : Fun K "owed" "owed" s_owed f fd) (T : Tx K mg) (c_Share_has_room_for : MCal P w K mg base 3 .Share "has_room_for" (spA K a_Share_has_room_for)) (c_Share___init__ : KCal P w K mg base 5 .Share (spA K a_Share___init__)) : FnOk P w K mg base (L2.CX P w) 7 f fd ["due", "rows", "gang"] (spA K a_owed) :=
  fn_ok F sc_owed len_owed (fun cdv A outer s H E hr => snd_owed T c_Share_has_room_for c_Share___init__ cdv A outer s H E hr) body_owed
theorem snd_own_with (T : Tx K mg) (c_Share_has_room_for : MCal P w K mg base 3 .Share "has_room_for" (spA K a_Share_has_room_for)) (c_Share___init__ : KCal P w K mg base 5 .Share (spA K a_Share___init__)) {f : Addr} (cdv : Value) (A : Around) (outer : List Env) (s : Shared) (H : Hp) (E : XK) (hr : Room 6 (A.deeper (envOfC "own_with" (defScope s_own_with) s.heap.objs.size f cdv))) : SSs (cxOf (L2.CX P w) P w K mg base n_own_with "own_with" (defScope s_own_with) f cdv A outer s H E) (defBody s_own_with) u_own_with := by
  refine ss_cons ?_ ?_
  · refine s_ret ?_
    · refine se_meth c_Share_has_room_for hr ?_ ?_
      · refine se_make c_Share___init__ hr ?_
        · refine sa_cons ?_ ?_
          · exact se_var 0
          · refine sa_cons ?_ ?_
            · refine se_lc (own := [("row", 3)]) (nd_own_with) ?_ (blkOk_by (N := n_own_with) (sc := defScope s_own_with) (by decide +kernel)) rfl (fun s H C cl fp => ?_) ?_ (fun s H C cl fp => ?_)
              · refine si_val ?_
                · exact se_var 1
              · exact xg_name 3 (nd_own_with)
              · refine .one fun s H C cl fp => ?_
                · refine st_cmp (op_cmps hr .ge) bok_cmp ?_ ?_ (nomark _)
                  · refine se_ix hr ?_ ?_
                    · refine se_ix hr ?_ ?_
                      · exact se_var 3
                      · exact se_int
                    · exact se_int
                  · refine se_ix hr ?_ ?_
                    · exact se_var 2
                    · exact se_int
              · exact se_var 3
            · exact sa_nil
      · refine sa_cons ?_ ?_
        · exact se_var 2
        · exact sa_nil
  · exact ss_nil
theorem ok_own_with {f : Addr} {fd : FuncData} (F : Fun K "own_with" "own_with" s_own_with f fd) (T : Tx K mg) (c_Share_has_room_for : MCal P w K mg base 3 .Share "has_room_for" (spA K a_Share_has_room_for)) (c_Share___init__ : KCal P w K mg base 5 .Share (spA K a_Share___init__)) : FnOk P w K mg base (L2.CX P w) 7 f fd ["due", "rows", "gang"] (spA K a_own_with) :=
  fn_ok F sc_own_with len_own_with (fun cdv A outer s H E hr => snd_own_with T c_Share_has_room_for c_Share___init__ cdv A outer s H E hr) body_own_with
theorem snd_parted (T : Tx K mg) (c_Share___init__ : KCal P w K mg base 5 .Share (spA K a_Share___init__)) {f : Addr} (cdv : Value) (A : Around) (outer : List Env) (s : Shared) (H : Hp) (E : XK) (hr : Room 6 (A.deeper (envOfC "parted" (defScope s_parted) s.heap.objs.size f cdv))) : SSs (cxOf (L2.CX P w) P w K mg base n_parted "parted" (defScope s_parted) f cdv A outer s H E) (defBody s_parted) u_parted := by
  refine ss_cons ?_ ?_
  · refine s_set ?_ nd_parted
    · refine se_make c_Share___init__ hr ?_
      · refine sa_cons ?_ ?_
        · exact se_var 0
        · refine sa_cons ?_ ?_
          · exact se_var 1
          · exact sa_nil
  · refine ss_cons ?_ ?_
    · refine s_ret ?_
      · refine se_tup ?_
        · refine sa_cons ?_ ?_
          · refine se_fld (f := .own_names) T.TC T.TE ?_
            · exact se_var 2
          · refine sa_cons ?_ ?_
            · refine se_fld (f := .lent_names) T.TC T.TE ?_
              · exact se_var 2
            · exact sa_nil
    · exact ss_nil
theorem ok_parted {f : Addr} {fd : FuncData} (F : Fun K "parted" "parted" s_parted f fd) (T : Tx K mg) (c_Share___init__ : KCal P w K mg base 5 .Share (spA K a_Share___init__)) : FnOk P w K mg base (L2.CX P w) 7 f fd ["due", "rows"] (spA K a_parted) :=
  fn_ok F sc_parted len_parted (fun cdv A outer s H E hr => snd_parted T c_Share___init__ cdv A outer s H E hr) body_parted
theorem snd_rows_of_guild (T : Tx K mg)  {f : Addr} (cdv : Value) (A : Around) (outer : List Env) (s : Shared) (H : Hp) (E : XK) (hr : Room 0 (A.deeper (envOfC "rows_of_guild" (defScope s_rows_of_guild) s.heap.objs.size f cdv))) : SSs (cxOf (L2.CX P w) P w K mg base n_rows_of_guild "rows_of_guild" (defScope s_rows_of_guild) f cdv A outer s H E) (defBody s_rows_of_guild) u_rows_of_guild := by
  refine ss_cons ?_ ?_
  · refine s_ret ?_
    · refine se_lc (own := [("row", 2)]) (nd_rows_of_guild) ?_ (blkOk_by (N := n_rows_of_guild) (sc := defScope s_rows_of_guild) (by decide +kernel)) rfl (fun s H C cl fp => ?_) ?_ (fun s H C cl fp => ?_)
      · refine si_val ?_
        · exact se_var 0
      · exact xg_name 2 (nd_rows_of_guild)
      · refine .one fun s H C cl fp => ?_
        · refine st_cmp (op_eqs hr) bok_eq ?_ ?_ (nomark _)
          · refine se_ix hr ?_ ?_
            · refine se_ix hr ?_ ?_
              · exact se_var 2
              · exact se_int
            · exact se_int
          · exact se_var 1
      · exact se_var 2
  · exact ss_nil
theorem ok_rows_of_guild {f : Addr} {fd : FuncData} (F : Fun K "rows_of_guild" "rows_of_guild" s_rows_of_guild f fd) (T : Tx K mg)  : FnOk P w K mg base (L2.CX P w) 1 f fd ["rows", "guild"] (spA K a_rows_of_guild) :=
  fn_ok F sc_rows_of_guild len_rows_of_guild (fun cdv A outer s H E hr => snd_rows_of_guild T  cdv A outer s H E hr) body_rows_of_guild
theorem snd_Taker___init__ (T : Tx K mg) (c_rows_of_guild : Cal P w K mg base 1 "rows_of_guild" (spA K a_rows_of_guild)) (c_owed : Cal P w K mg base 7 "owed" (spA K a_owed)) (c_own_with : Cal P w K mg base 7 "own_with" (spA K a_own_with)) (c_parted : Cal P w K mg base 7 "parted" (spA K a_parted)) {f : Addr} (cdv : Value) (A : Around) (outer : List Env) (s : Shared) (H : Hp) (E : XK) (hr : Room 7 (A.deeper (envOfC "Taker.__init__" (defScope s_Taker___init__) s.heap.objs.size f cdv))) : SSs (cxOf (L2.CX P w) P w K mg base n_Taker___init__ "Taker.__init__" (defScope s_Taker___init__) f cdv A outer s H E) (defBody s_Taker___init__) u_Taker___init__ := by
  refine ss_cons ?_ ?_
  · refine s_fset (f := .gang) T.TC ?_ ?_
    · exact se_var 0
    · exact se_var 3
  · refine ss_cons ?_ ?_
    · refine s_set ?_ nd_Taker___init__
      · refine se_call c_rows_of_guild hr ?_
        · refine sa_cons ?_ ?_
          · exact se_var 2
          · refine sa_cons ?_ ?_
            · refine se_ix hr ?_ ?_
              · exact se_var 3
              · exact se_int
            · exact sa_nil
    · refine ss_cons ?_ ?_
      · refine s_fset (f := .is_owed) T.TC ?_ ?_
        · exact se_var 0
        · refine se_call c_owed hr ?_
          · refine sa_cons ?_ ?_
            · refine se_ix hr ?_ ?_
              · exact se_var 1
              · refine se_ix hr ?_ ?_
                · exact se_var 3
                · exact se_int
            · refine sa_cons ?_ ?_
              · exact se_var 4
              · refine sa_cons ?_ ?_
                · exact se_var 3
                · exact sa_nil
      · refine ss_cons ?_ ?_
        · refine s_fset (f := .is_own) T.TC ?_ ?_
          · exact se_var 0
          · refine se_call c_own_with hr ?_
            · refine sa_cons ?_ ?_
              · refine se_ix hr ?_ ?_
                · exact se_var 1
                · refine se_ix hr ?_ ?_
                  · exact se_var 3
                  · exact se_int
              · refine sa_cons ?_ ?_
                · exact se_var 4
                · refine sa_cons ?_ ?_
                  · exact se_var 3
                  · exact sa_nil
        · refine ss_cons ?_ ?_
          · refine s_fset (f := .all_lent) T.TC ?_ ?_
            · exact se_var 0
            · refine se_lst ?_
              · exact sa_nil
          · refine ss_cons ?_ ?_
            · refine s_for ?_ ?_ ?_
              · refine si_val ?_
                · refine se_sortSet T.b_sorted T.b_set ?_
                  · refine se_lc (own := [("row", 6)]) (nd_Taker___init__) ?_ (blkOk_by (N := n_Taker___init__) (sc := defScope s_Taker___init__) (by decide +kernel)) rfl (fun s H C cl fp => ?_) ?_ (fun s H C cl fp => ?_)
                    · refine si_val ?_
                      · exact se_var 2
                    · exact xg_name 6 (nd_Taker___init__)
                    · exact .no
                    · refine se_ix hr ?_ ?_
                      · refine se_ix hr ?_ ?_
                        · exact se_var 6
                        · exact se_int
                      · exact se_int
              · exact xg_name 5 (nd_Taker___init__)
              · refine ss_cons ?_ ?_
                · refine s_expr ?_
                  · refine se_bm k_extend ?_ ?_
                    · refine se_fld (f := .all_lent) T.TC T.TE ?_
                      · exact se_var 0
                    · refine sa_cons ?_ ?_
                      · refine se_ix hr ?_ ?_
                        · refine se_call c_parted hr ?_
                          · refine sa_cons ?_ ?_
                            · refine se_ix hr ?_ ?_
                              · exact se_var 1
                              · exact se_var 5
                            · refine sa_cons ?_ ?_
                              · refine se_call c_rows_of_guild hr ?_
                                · refine sa_cons ?_ ?_
                                  · exact se_var 2
                                  · refine sa_cons ?_ ?_
                                    · exact se_var 5
                                    · exact sa_nil
                              · exact sa_nil
                        · exact se_int
                      · exact sa_nil
                · exact ss_nil
            · exact ss_nil
theorem ok_Taker___init__ {f : Addr} {fd : FuncData} (F : Fun K "__init__" "Taker.__init__" s_Taker___init__ f fd) (T : Tx K mg) (c_rows_of_guild : Cal P w K mg base 1 "rows_of_guild" (spA K a_rows_of_guild)) (c_owed : Cal P w K mg base 7 "owed" (spA K a_owed)) (c_own_with : Cal P w K mg base 7 "own_with" (spA K a_own_with)) (c_parted : Cal P w K mg base 7 "parted" (spA K a_parted)) : FnOk P w K mg base (L2.CX P w) 8 f fd ["self", "dues", "rows", "gang"] (spA K a_Taker___init__) :=
  fn_ok F sc_Taker___init__ len_Taker___init__ (fun cdv A outer s H E hr => snd_Taker___init__ T c_rows_of_guild c_owed c_own_with c_parted cdv A outer s H E hr) body_Taker___init__
theorem snd_Taker_ground_for (T : Tx K mg)  {f : Addr} (cdv : Value) (A : Around) (outer : List Env) (s : Shared) (H : Hp) (E : XK) (hr : Room 0 (A.deeper (envOfC "Taker.ground_for" (defScope s_Taker_ground_for) s.heap.objs.size f cdv))) : SSs (cxOf (L2.CX P w) P w K mg base n_Taker_ground_for "Taker.ground_for" (defScope s_Taker_ground_for) f cdv A outer s H E) (defBody s_Taker_ground_for) u_Taker_ground_for := by
  refine ss_cons ?_ ?_
  · refine s_set ?_ nd_Taker_ground_for
    · refine se_cmp (op_eqs hr) bok_eq ?_ ?_ (nomark _)
      · refine se_ix hr ?_ ?_
        · exact se_var 1
        · exact se_int
      · refine se_ix hr ?_ ?_
        · refine se_fld (f := .gang) T.TC T.TE ?_
          · exact se_var 0
        · exact se_int
  · refine ss_cons ?_ ?_
    · refine s_if ?_ ?_ ?_
      · refine SWh.st ?_
        · refine sw_and ?_ ?_
          · refine st_cmp (op_notIns hr) bok_notIn ?_ ?_ (by rfl)
            · refine se_ix hr ?_ ?_
              · exact se_var 1
              · exact se_int
            · refine se_fld (f := .all_lent) T.TC T.TE ?_
              · exact se_var 0
          · refine sw_and1 ?_
            · refine st_not ?_
              · refine SWh.st ?_
                · refine sw_and ?_ ?_
                  · refine st_val ?_
                    · exact se_var 2
                  · refine sw_and1 ?_
                    · refine st_val ?_
                      · refine se_fld (f := .is_own) T.TC T.TE ?_
                        · exact se_var 0
      · refine ss_cons ?_ ?_
        · refine s_ret ?_
          · exact se_non
        · exact ss_nil
      · exact ss_nil
    · refine ss_cons ?_ ?_
      · refine s_if ?_ ?_ ?_
        · refine SWh.st ?_
          · refine sw_and ?_ ?_
            · refine st_not ?_
              · refine st_val ?_
                · exact se_var 2
            · refine sw_and1 ?_
              · refine st_val ?_
                · refine se_fld (f := .is_owed) T.TC T.TE ?_
                  · exact se_var 0
        · refine ss_cons ?_ ?_
          · refine s_ret ?_
            · exact se_str
          · exact ss_nil
        · exact ss_nil
      · refine ss_cons ?_ ?_
        · refine s_if ?_ ?_ ?_
          · refine st_cmp (op_cmps hr .lt) bok_cmp ?_ ?_ (nomark _)
            · refine se_ix hr ?_ ?_
              · exact se_var 1
              · exact se_int
            · refine se_ix hr ?_ ?_
              · refine se_fld (f := .gang) T.TC T.TE ?_
                · exact se_var 0
              · exact se_int
          · refine ss_cons ?_ ?_
            · refine s_ret ?_
              · exact se_str
            · exact ss_nil
          · exact ss_nil
        · refine ss_cons ?_ ?_
          · refine s_ret ?_
            · exact se_non
          · exact ss_nil
theorem ok_Taker_ground_for {f : Addr} {fd : FuncData} (F : Fun K "ground_for" "Taker.ground_for" s_Taker_ground_for f fd) (T : Tx K mg)  : FnOk P w K mg base (L2.CX P w) 1 f fd ["self", "other"] (spA K a_Taker_ground_for) :=
  fn_ok F sc_Taker_ground_for len_Taker_ground_for (fun cdv A outer s H E hr => snd_Taker_ground_for T  cdv A outer s H E hr) body_Taker_ground_for
theorem snd_taken_by (T : Tx K mg)  {f : Addr} (cdv : Value) (A : Around) (outer : List Env) (s : Shared) (H : Hp) (E : XK) (hr : Room 0 (A.deeper (envOfC "taken_by" (defScope s_taken_by) s.heap.objs.size f cdv))) : SSs (cxOf (L2.CX P w) P w K mg base n_taken_by "taken_by" (defScope s_taken_by) f cdv A outer s H E) (defBody s_taken_by) u_taken_by := by
  refine ss_cons ?_ ?_
  · refine s_ret ?_
    · refine se_tup ?_
      · refine sa_cons ?_ ?_
        · refine se_ix hr ?_ ?_
          · refine se_ix hr ?_ ?_
            · exact se_var 0
            · exact se_int
          · exact se_int
        · refine sa_cons ?_ ?_
          · refine se_neg ?_
            · refine se_ix hr ?_ ?_
              · exact se_var 0
              · exact se_int
          · exact sa_nil
  · exact ss_nil
theorem ok_taken_by {f : Addr} {fd : FuncData} (F : Fun K "taken_by" "taken_by" s_taken_by f fd) (T : Tx K mg)  : FnOk P w K mg base (L2.CX P w) 1 f fd ["row"] (spA K a_taken_by) :=
  fn_ok F sc_taken_by len_taken_by (fun cdv A outer s H E hr => snd_taken_by T  cdv A outer s H E hr) body_taken_by
theorem snd_may_take (T : Tx K mg) (c_Taker___init__ : KCal P w K mg base 8 .Taker (spA K a_Taker___init__)) (c_Taker_ground_for : MCal P w K mg base 1 .Taker "ground_for" (spA K a_Taker_ground_for)) (c_taken_by : Cal P w K mg base 1 "taken_by" (spA K a_taken_by)) {f : Addr} (cdv : Value) (A : Around) (outer : List Env) (s : Shared) (H : Hp) (E : XK) (hr : Room 9 (A.deeper (envOfC "may_take" (defScope s_may_take) s.heap.objs.size f cdv))) : SSs (cxOf (L2.CX P w) P w K mg base n_may_take "may_take" (defScope s_may_take) f cdv A outer s H E) (defBody s_may_take) u_may_take := by
  refine ss_cons ?_ ?_
  · refine s_set ?_ nd_may_take
    · refine se_make c_Taker___init__ hr ?_
      · refine sa_cons ?_ ?_
        · exact se_var 0
        · refine sa_cons ?_ ?_
          · exact se_var 1
          · refine sa_cons ?_ ?_
            · exact se_var 3
            · exact sa_nil
  · refine ss_cons ?_ ?_
    · refine s_set ?_ nd_may_take
      · refine se_lst ?_
        · exact sa_nil
    · refine ss_cons ?_ ?_
      · refine s_for ?_ ?_ ?_
        · refine si_val ?_
          · refine se_sortK T.b_sorted c_taken_by hr ?_
            · exact se_var 1
        · refine xg_tup ?_
          · refine xgs_cons ?_ ?_
            · exact xg_name 6 (nd_may_take)
            · refine xgs_cons ?_ ?_
              · exact xg_name 7 (nd_may_take)
              · exact xgs_nil
        · refine ss_cons ?_ ?_
          · refine s_set ?_ nd_may_take
            · refine se_meth c_Taker_ground_for hr ?_ ?_
              · exact se_var 4
              · refine sa_cons ?_ ?_
                · exact se_var 6
                · exact sa_nil
          · refine ss_cons ?_ ?_
            · refine s_if ?_ ?_ ?_
              · refine SWh.st ?_
                · refine sw_and ?_ ?_
                  · refine st_cmp (op_ins hr) bok_in ?_ ?_ (by rfl)
                    · refine se_ix hr ?_ ?_
                      · exact se_var 6
                      · exact se_int
                    · exact se_var 2
                  · refine sw_and1 ?_
                    · refine st_cmp op_notN bok_isnt ?_ ?_ (nomark _)
                      · exact se_var 8
                      · exact se_non
              · refine ss_cons ?_ ?_
                · refine s_expr ?_
                  · refine se_bm k_append ?_ ?_
                    · exact se_var 5
                    · refine sa_cons ?_ ?_
                      · refine se_tup ?_
                        · refine sa_cons ?_ ?_
                          · refine se_ix hr ?_ ?_
                            · exact se_var 6
                            · exact se_int
                          · refine sa_cons ?_ ?_
                            · exact se_var 8
                            · exact sa_nil
                      · exact sa_nil
                · exact ss_nil
              · exact ss_nil
            · exact ss_nil
      · refine ss_cons ?_ ?_
        · refine s_ret ?_
          · exact se_var 5
        · exact ss_nil
theorem ok_may_take {f : Addr} {fd : FuncData} (F : Fun K "may_take" "may_take" s_may_take f fd) (T : Tx K mg) (c_Taker___init__ : KCal P w K mg base 8 .Taker (spA K a_Taker___init__)) (c_Taker_ground_for : MCal P w K mg base 1 .Taker "ground_for" (spA K a_Taker_ground_for)) (c_taken_by : Cal P w K mg base 1 "taken_by" (spA K a_taken_by)) : FnOk P w K mg base (L2.CX P w) 10 f fd ["dues", "rows", "names", "gang"] (spA K a_may_take) :=
  fn_ok F sc_may_take len_may_take (fun cdv A outer s H E hr => snd_may_take T c_Taker___init__ c_Taker_ground_for c_taken_by cdv A outer s H E hr) body_may_take
theorem snd__law_right_c83b (T : Tx K mg) (c__law_guild_d854 : Cal P w K mg base 1 "_law_guild" (spA K a__law_guild_d854)) (c_owed : Cal P w K mg base 7 "owed" (spA K a_owed)) (c_own_with : Cal P w K mg base 7 "own_with" (spA K a_own_with)) (c_parted : Cal P w K mg base 7 "parted" (spA K a_parted)) (c_may_take : Cal P w K mg base 10 "may_take" (spA K a_may_take)) {f : Addr} (cdv : Value) (A : Around) (outer : List Env) (s : Shared) (H : Hp) (E : XK) (hr : Room 10 (A.deeper (envOfC "_law_right" (defScope s__law_right_c83b) s.heap.objs.size f cdv))) : SSs (cxOf (L2.CX P w) P w K mg base n__law_right_c83b "_law_right" (defScope s__law_right_c83b) f cdv A outer s H E) (defBody s__law_right_c83b) u__law_right_c83b := by
  refine ss_cons ?_ ?_
  · refine s_set ?_ nd__law_right_c83b
    · refine se_call c__law_guild_d854 hr ?_
      · refine sa_cons ?_ ?_
        · exact se_var 1
        · refine sa_cons ?_ ?_
          · refine se_ix hr ?_ ?_
            · exact se_var 2
            · exact se_int
          · exact sa_nil
  · refine ss_cons ?_ ?_
    · refine s_set ?_ nd__law_right_c83b
      · refine se_call c_owed hr ?_
        · refine sa_cons ?_ ?_
          · refine se_ix hr ?_ ?_
            · exact se_var 0
            · refine se_ix hr ?_ ?_
              · exact se_var 2
              · exact se_int
          · refine sa_cons ?_ ?_
            · exact se_var 3
            · refine sa_cons ?_ ?_
              · exact se_var 2
              · exact sa_nil
    · refine ss_cons ?_ ?_
      · refine s_set ?_ nd__law_right_c83b
        · refine se_call c_own_with hr ?_
          · refine sa_cons ?_ ?_
            · refine se_ix hr ?_ ?_
              · exact se_var 0
              · refine se_ix hr ?_ ?_
                · exact se_var 2
                · exact se_int
            · refine sa_cons ?_ ?_
              · exact se_var 3
              · refine sa_cons ?_ ?_
                · exact se_var 2
                · exact sa_nil
      · refine ss_cons ?_ ?_
        · first | refine s_setLc (own := [("_law_pair", 12)]) (nd__law_right_c83b) ?_ (blkOk_by (N := n__law_right_c83b) (sc := defScope s__law_right_c83b) (by decide +kernel)) rfl (fun s H C cl fp => ?_) ?_ (fun s H C cl fp => ?_) | (refine s_set ?_ nd__law_right_c83b; refine se_lc (own := [("_law_pair", 12)]) (nd__law_right_c83b) ?_ (blkOk_by (N := n__law_right_c83b) (sc := defScope s__law_right_c83b) (by decide +kernel)) rfl (fun s H C cl fp => ?_) ?_ (fun s H C cl fp => ?_))
          · refine si_val ?_
            · refine se_call c_may_take hr ?_
              · refine sa_cons ?_ ?_
                · exact se_var 0
                · refine sa_cons ?_ ?_
                  · exact se_var 1
                  · refine sa_cons ?_ ?_
                    · refine se_lc (own := [("_law_row", 13)]) (nd__law_right_c83b) ?_ (blkOk_by (N := n__law_right_c83b) (sc := defScope s__law_right_c83b) (by decide +kernel)) rfl (fun s H C cl fp => ?_) ?_ (fun s H C cl fp => ?_)
                      · refine si_val ?_
                        · exact se_var 1
                      · exact xg_name 13 (nd__law_right_c83b)
                      · exact .no
                      · refine se_ix hr ?_ ?_
                        · refine se_ix hr ?_ ?_
                          · exact se_var 13
                          · exact se_int
                        · exact se_int
                    · refine sa_cons ?_ ?_
                      · exact se_var 2
                      · exact sa_nil
          · exact xg_name 12 (nd__law_right_c83b)
          · exact .no
          · refine se_ix hr ?_ ?_
            · exact se_var 12
            · exact se_int
        · refine ss_cons ?_ ?_
          · first | refine s_setLc (own := [("_law_row", 13)]) (nd__law_right_c83b) ?_ (blkOk_by (N := n__law_right_c83b) (sc := defScope s__law_right_c83b) (by decide +kernel)) rfl (fun s H C cl fp => ?_) ?_ (fun s H C cl fp => ?_) | (refine s_set ?_ nd__law_right_c83b; refine se_lc (own := [("_law_row", 13)]) (nd__law_right_c83b) ?_ (blkOk_by (N := n__law_right_c83b) (sc := defScope s__law_right_c83b) (by decide +kernel)) rfl (fun s H C cl fp => ?_) ?_ (fun s H C cl fp => ?_))
            · refine si_val ?_
              · exact se_var 1
            · exact xg_name 13 (nd__law_right_c83b)
            · refine .one fun s H C cl fp => ?_
              · refine st_cmp (op_notIns hr) bok_notIn ?_ ?_ (by rfl)
                · refine se_ix hr ?_ ?_
                  · refine se_ix hr ?_ ?_
                    · exact se_var 13
                    · exact se_int
                  · exact se_int
                · exact se_var 6
            · exact se_var 13
          · refine ss_cons ?_ ?_
            · refine s_lock ?_
              · refine s_for ?_ ?_ ?_
                · refine si_keys ?_
                  · exact se_var 0
                · exact xg_name 8 (nd__law_right_c83b)
                · refine ss_cons ?_ ?_
                  · refine s_set ?_ nd__law_right_c83b
                    · refine se_ty (cr_toDct rfl) bok_toDct T.b_dict ?_
                      · refine sa_cons ?_ ?_
                        · refine se_lc (own := [("_law_row", 13)]) (nd__law_right_c83b) ?_ (blkOk_by (N := n__law_right_c83b) (sc := defScope s__law_right_c83b) (by decide +kernel)) rfl (fun s H C cl fp => ?_) ?_ (fun s H C cl fp => ?_)
                          · refine si_val ?_
                            · refine se_call c__law_guild_d854 hr ?_
                              · refine sa_cons ?_ ?_
                                · exact se_var 7
                                · refine sa_cons ?_ ?_
                                  · exact se_var 8
                                  · exact sa_nil
                          · exact xg_name 13 (nd__law_right_c83b)
                          · exact .no
                          · refine se_tup ?_
                            · refine sa_cons ?_ ?_
                              · refine se_ix hr ?_ ?_
                                · refine se_ix hr ?_ ?_
                                  · exact se_var 13
                                  · exact se_int
                                · exact se_int
                              · refine sa_cons ?_ ?_
                                · refine se_ix hr ?_ ?_
                                  · refine se_ix hr ?_ ?_
                                    · exact se_var 13
                                    · exact se_int
                                  · exact se_int
                                · exact sa_nil
                        · exact sa_nil
                  · refine ss_cons ?_ ?_
                    · refine s_unp ?_ (xg_tup ?_)
                      · refine se_call c_parted hr ?_
                        · refine sa_cons ?_ ?_
                          · refine se_ix hr ?_ ?_
                            · exact se_var 0
                            · exact se_var 8
                          · refine sa_cons ?_ ?_
                            · refine se_call c__law_guild_d854 hr ?_
                              · refine sa_cons ?_ ?_
                                · exact se_var 7
                                · refine sa_cons ?_ ?_
                                  · exact se_var 8
                                  · exact sa_nil
                            · exact sa_nil
                      · refine xgs_cons ?_ ?_
                        · exact xg_name 10 (nd__law_right_c83b)
                        · refine xgs_cons ?_ ?_
                          · exact xg_name 11 (nd__law_right_c83b)
                          · exact xgs_nil
                    · refine ss_cons ?_ ?_
                      · refine s_if ?_ ?_ ?_
                        · refine SWh.st ?_
                          · refine sw_or ?_ ?_
                            · refine st_val ?_
                              · refine se_bi (cr_any rfl) bok_any T.b_any ?_
                                · refine sa_cons ?_ ?_
                                  · refine se_lc (own := [("_law_name", 14)]) (nd__law_right_c83b) ?_ (blkOk_by (N := n__law_right_c83b) (sc := defScope s__law_right_c83b) (by decide +kernel)) rfl (fun s H C cl fp => ?_) ?_ (fun s H C cl fp => ?_)
                                    · refine si_val ?_
                                      · exact se_var 11
                                    · exact xg_name 14 (nd__law_right_c83b)
                                    · exact .no
                                    · refine se_cmp (op_cmps hr .lt) bok_cmp ?_ ?_ (nomark _)
                                      · refine se_ix hr ?_ ?_
                                        · exact se_var 9
                                        · exact se_var 14
                                      · refine se_ix hr ?_ ?_
                                        · exact se_var 2
                                        · exact se_int
                                  · exact sa_nil
                            · refine sw_or1 ?_
                              · refine SWh.st ?_
                                · refine sw_and ?_ ?_
                                  · refine st_cmp (op_nes hr) bok_ne ?_ ?_ (nomark _)
                                    · exact se_var 8
                                    · refine se_ix hr ?_ ?_
                                      · exact se_var 2
                                      · exact se_int
                                  · refine sw_and ?_ ?_
                                    · refine st_val ?_
                                      · exact se_var 4
                                    · refine sw_and1 ?_
                                      · refine st_cmp (op_nes hr) bok_ne ?_ ?_ (nomark _)
                                        · exact se_var 11
                                        · refine se_lst ?_
                                          · exact sa_nil
                        · refine ss_cons ?_ ?_
                          · refine s_ret ?_
                            · exact se_bl
                          · exact ss_nil
                        · exact ss_nil
                      · refine ss_cut ?_ ?_
                        · refine s_if ?_ ?_ ?_
                          · refine SWh.st ?_
                            · refine sw_and ?_ ?_
                              · refine st_cmp (op_eqs hr) bok_eq ?_ ?_ (nomark _)
                                · exact se_var 8
                                · refine se_ix hr ?_ ?_
                                  · exact se_var 2
                                  · exact se_int
                              · refine sw_and ?_ ?_
                                · refine st_val ?_
                                  · exact se_var 5
                                · refine sw_and1 ?_
                                  · refine st_val ?_
                                    · refine se_bi (cr_any rfl) bok_any T.b_any ?_
                                      · refine sa_cons ?_ ?_
                                        · refine se_lock ?_
                                          · refine se_lc (own := [("_law_name", 14)]) (nd__law_right_c83b) ?_ (blkOk_by (N := n__law_right_c83b) (sc := defScope s__law_right_c83b) (by decide +kernel)) rfl (fun s H C cl fp => ?_) ?_ (fun s H C cl fp => ?_)
                                            · refine si_keys ?_
                                              · exact se_var 9
                                            · exact xg_name 14 (nd__law_right_c83b)
                                            · exact .no
                                            · refine se_cmp (op_cmps hr .lt) bok_cmp ?_ ?_ (nomark _)
                                              · refine se_ix hr ?_ ?_
                                                · exact se_var 9
                                                · exact se_var 14
                                              · refine se_ix hr ?_ ?_
                                                · exact se_var 2
                                                · exact se_int
                                        · exact sa_nil
                          · refine ss_cons ?_ ?_
                            · refine s_ret ?_
                              · exact se_bl
                            · exact ss_nil
                          · exact ss_nil
                        · refine ss_cons ?_ ?_
                          · refine s_if ?_ ?_ ?_
                            · refine SWh.st ?_
                              · refine sw_and ?_ ?_
                                · refine SWh.st ?_
                                  · refine sw_or ?_ ?_
                                    · refine st_cmp (op_nes hr) bok_ne ?_ ?_ (nomark _)
                                      · exact se_var 8
                                      · refine se_ix hr ?_ ?_
                                        · exact se_var 2
                                        · exact se_int
                                    · refine sw_or1 ?_
                                      · refine st_not ?_
                                        · refine st_val ?_
                                          · exact se_var 5
                                · refine sw_and1 ?_
                                  · refine st_cmp (op_nes hr) bok_ne ?_ ?_ (nomark _)
                                    · exact se_var 10
                                    · refine se_ix hr ?_ ?_
                                      · refine se_call c_parted hr ?_
                                        · refine sa_cons ?_ ?_
                                          · refine se_ix hr ?_ ?_
                                            · exact se_var 0
                                            · exact se_var 8
                                          · refine sa_cons ?_ ?_
                                            · refine se_call c__law_guild_d854 hr ?_
                                              · refine sa_cons ?_ ?_
                                                · exact se_var 1
                                                · refine sa_cons ?_ ?_
                                                  · exact se_var 8
                                                  · exact sa_nil
                                            · exact sa_nil
                                      · exact se_int
                            · refine ss_cons ?_ ?_
                              · refine s_ret ?_
                                · exact se_bl
                              · exact ss_nil
                            · exact ss_nil
                          · exact ss_nil
            · refine ss_cons ?_ ?_
              · refine s_if ?_ ?_ ?_
                · refine SWh.st ?_
                  · refine sw_and ?_ ?_
                    · refine st_val ?_
                      · exact se_var 4
                    · refine sw_and1 ?_
                      · refine st_not ?_
                        · refine st_val ?_
                          · exact se_var 5
                · refine ss_cons ?_ ?_
                  · refine s_ret ?_
                    · exact se_bl
                  · exact ss_nil
                · exact ss_nil
              · refine ss_cons ?_ ?_
                · refine s_ret ?_
                  · refine se_cmp (op_eqs hr) bok_eq ?_ ?_ (nomark _)
                    · refine se_call c_owed hr ?_
                      · refine sa_cons ?_ ?_
                        · refine se_ix hr ?_ ?_
                          · exact se_var 0
                          · refine se_ix hr ?_ ?_
                            · exact se_var 2
                            · exact se_int
                        · refine sa_cons ?_ ?_
                          · refine se_call c__law_guild_d854 hr ?_
                            · refine sa_cons ?_ ?_
                              · exact se_var 7
                              · refine sa_cons ?_ ?_
                                · refine se_ix hr ?_ ?_
                                  · exact se_var 2
                                  · exact se_int
                                · exact sa_nil
                          · refine sa_cons ?_ ?_
                            · exact se_var 2
                            · exact sa_nil
                    · exact se_var 5
                · exact ss_nil
theorem ok__law_right_c83b {f : Addr} {fd : FuncData} (F : Fun K "_law_right" "_law_right" s__law_right_c83b f fd) (T : Tx K mg) (c__law_guild_d854 : Cal P w K mg base 1 "_law_guild" (spA K a__law_guild_d854)) (c_owed : Cal P w K mg base 7 "owed" (spA K a_owed)) (c_own_with : Cal P w K mg base 7 "own_with" (spA K a_own_with)) (c_parted : Cal P w K mg base 7 "parted" (spA K a_parted)) (c_may_take : Cal P w K mg base 10 "may_take" (spA K a_may_take)) : FnOk P w K mg base (L2.CX P w) 11 f fd ["_law_dues", "_law_rows", "_law_gang_here"] (spA K a__law_right_c83b) :=
  fn_ok F sc__law_right_c83b len__law_right_c83b (fun cdv A outer s H E hr => snd__law_right_c83b T c__law_guild_d854 c_owed c_own_with c_parted c_may_take cdv A outer s H E hr) body__law_right_c83b
theorem snd_law_k30 (T : Tx K mg) (c__law_state_83f3 : Cal P w K mg base 3 "_law_state" (spA K a__law_state_83f3)) (c__law_right_c83b : Cal P w K mg base 11 "_law_right" (spA K a__law_right_c83b)) {f : Addr} (cdv : Value) (A : Around) (outer : List Env) (s : Shared) (H : Hp) (E : XK) (hr : Room 11 (A.deeper (envOfC "law" (defScope s_law_k30) s.heap.objs.size f cdv))) : SSs (cxOf (L2.CX P w) P w K mg base n_law_k30 "law" (defScope s_law_k30) f cdv A outer s H E) (defBody s_law_k30) u_law_k30 := by
  refine ss_cons ?_ ?_
  · refine s_unp ?_ (xg_tup ?_)
    · refine se_call c__law_state_83f3 hr ?_
      · refine sa_cons ?_ ?_
        · exact se_var 0
        · exact sa_nil
    · refine xgs_cons ?_ ?_
      · exact xg_name 1 (nd_law_k30)
      · refine xgs_cons ?_ ?_
        · exact xg_name 2 (nd_law_k30)
        · refine xgs_cons ?_ ?_
          · exact xg_name 3 (nd_law_k30)
          · exact xgs_nil
  · refine ss_cons ?_ ?_
    · refine s_if ?_ ?_ ?_
      · refine st_not ?_
        · refine st_val ?_
          · refine se_call c__law_right_c83b hr ?_
            · refine sa_cons ?_ ?_
              · exact se_var 1
              · refine sa_cons ?_ ?_
                · exact se_var 2
                · refine sa_cons ?_ ?_
                  · exact se_var 3
                  · exact sa_nil
      · refine ss_cons ?_ ?_
        · refine s_ret ?_
          · exact se_bl
        · exact ss_nil
      · exact ss_nil
    · refine ss_cons ?_ ?_
      · refine s_for ?_ ?_ ?_
        · refine si_val ?_
          · refine se_slAll ?_ ?_
            · exact se_var 2
            · refine se_bin op_adds bok_add ?_ ?_
              · exact se_int
              · refine se_bin op_fdivW bok_fdv ?_ ?_
                · refine se_bi cr_len bok_len T.b_len ?_
                  · refine sa_cons ?_ ?_
                    · exact se_var 2
                    · exact sa_nil
                · exact se_int
        · exact xg_name 4 (nd_law_k30)
        · refine ss_cons ?_ ?_
          · refine s_if ?_ ?_ ?_
            · refine st_not ?_
              · refine st_val ?_
                · refine se_call c__law_right_c83b hr ?_
                  · refine sa_cons ?_ ?_
                    · exact se_var 1
                    · refine sa_cons ?_ ?_
                      · refine se_lc (own := [("_law_other", 5)]) (nd_law_k30) ?_ (blkOk_by (N := n_law_k30) (sc := defScope s_law_k30) (by decide +kernel)) rfl (fun s H C cl fp => ?_) ?_ (fun s H C cl fp => ?_)
                        · refine si_val ?_
                          · exact se_var 2
                        · exact xg_name 5 (nd_law_k30)
                        · refine .one fun s H C cl fp => ?_
                          · refine st_cmp (op_nes hr) bok_ne ?_ ?_ (nomark _)
                            · exact se_var 5
                            · exact se_var 4
                        · exact se_var 5
                      · refine sa_cons ?_ ?_
                        · refine se_ix hr ?_ ?_
                          · exact se_var 4
                          · exact se_int
                        · exact sa_nil
            · refine ss_cons ?_ ?_
              · refine s_ret ?_
                · exact se_bl
              · exact ss_nil
            · exact ss_nil
          · exact ss_nil
      · refine ss_cons ?_ ?_
        · refine s_ret ?_
          · exact se_bl
        · exact ss_nil
theorem ok_law_k30 {f : Addr} {fd : FuncData} (F : Fun K "law" "law" s_law_k30 f fd) (T : Tx K mg) (c__law_state_83f3 : Cal P w K mg base 3 "_law_state" (spA K a__law_state_83f3)) (c__law_right_c83b : Cal P w K mg base 11 "_law_right" (spA K a__law_right_c83b)) : FnOk P w K mg base (L2.CX P w) 12 f fd ["_law_script"] (spA K a_law_k30) :=
  fn_ok F sc_law_k30 len_law_k30 (fun cdv A outer s H E hr => snd_law_k30 T c__law_state_83f3 c__law_right_c83b cdv A outer s H E hr) body_law_k30
end
def allP (P : Fld → Prop) : List Fld → Prop
  | [] => True
  | f :: fs => P f ∧ allP P fs
theorem na_of {P : Fld → Prop} : ∀ {fs : List Fld}, allP P fs → ∀ f ∈ fs, P f
  | [], _, _, h => by cases h
  | _ :: _, h, _, hm => by
    cases hm with
    | head => exact h.1
    | tail _ hm => exact na_of h.2 _ hm
theorem all_mk {l : PySem.W.OpenLaw} {w : World} {K : PySem.W.Frag} {h : Heap} {mg : Str → Option Value} {fa f0 f1 f2 f3 f4 f5 f6 f7 f8 f9 f10 f11 f12 f13 f14 f15 f16 f17 f18 f19 f20 f21 f22 f23 f24 f25 C_Share C_Taker : Addr} (X : K.In h) (G : h.Ns mainGlobals mg) (hfa : mg "law" = some (.ref fa))
    (gC_Share : PySem.W.nsIn K mainGlobals "Share" = some (some (.ref C_Share)))
    (gC_Taker : PySem.W.nsIn K mainGlobals "Taker" = some (some (.ref C_Taker)))
    {od0 an0 : Option Addr} {sl0 : Array (Option Value)} {oc0 kV0 dc0 pm0 cd0 ct0 : Value}
    (a0 : PySem.W.nsIn K mainGlobals "_law_box" = some (some (.ref f0)))
    (l0 : K.lookup f0 = some ⟨oc0, od0, .func (PySem.W.fnOf "_law_box" "_law_box" (defArgs s__law_box_f006) (defBody s__law_box_f006) (defScope s__law_box_f006) .none kV0 dc0 pm0 an0 cd0 ct0), sl0⟩)
    (c0 : PySem.W.codeIn K cd0 "_law_box" = true)
    (k0 : PySem.W.keepIn K (.ref f0) = true)
    {od1 an1 : Option Addr} {sl1 : Array (Option Value)} {oc1 kV1 dc1 pm1 cd1 ct1 : Value}
    (a1 : PySem.W.nsIn K mainGlobals "_law_take" = some (some (.ref f1)))
    (l1 : K.lookup f1 = some ⟨oc1, od1, .func (PySem.W.fnOf "_law_take" "_law_take" (defArgs s__law_take_9ad5) (defBody s__law_take_9ad5) (defScope s__law_take_9ad5) .none kV1 dc1 pm1 an1 cd1 ct1), sl1⟩)
    (c1 : PySem.W.codeIn K cd1 "_law_take" = true)
    (k1 : PySem.W.keepIn K (.ref f1) = true)
    {od2 an2 : Option Addr} {sl2 : Array (Option Value)} {oc2 kV2 dc2 pm2 cd2 ct2 : Value}
    (a2 : PySem.W.nsIn K mainGlobals "_law_gang" = some (some (.ref f2)))
    (l2 : K.lookup f2 = some ⟨oc2, od2, .func (PySem.W.fnOf "_law_gang" "_law_gang" (defArgs s__law_gang_69eb) (defBody s__law_gang_69eb) (defScope s__law_gang_69eb) .none kV2 dc2 pm2 an2 cd2 ct2), sl2⟩)
    (c2 : PySem.W.codeIn K cd2 "_law_gang" = true)
    (k2 : PySem.W.keepIn K (.ref f2) = true)
    {od3 an3 : Option Addr} {sl3 : Array (Option Value)} {oc3 kV3 dc3 pm3 cd3 ct3 : Value}
    (a3 : PySem.W.nsIn K mainGlobals "_law_due" = some (some (.ref f3)))
    (l3 : K.lookup f3 = some ⟨oc3, od3, .func (PySem.W.fnOf "_law_due" "_law_due" (defArgs s__law_due_ff14) (defBody s__law_due_ff14) (defScope s__law_due_ff14) .none kV3 dc3 pm3 an3 cd3 ct3), sl3⟩)
    (c3 : PySem.W.codeIn K cd3 "_law_due" = true)
    (k3 : PySem.W.keepIn K (.ref f3) = true)
    {od4 an4 : Option Addr} {sl4 : Array (Option Value)} {oc4 kV4 dc4 pm4 cd4 ct4 : Value}
    (a4 : PySem.W.nsIn K mainGlobals "_law_state" = some (some (.ref f4)))
    (l4 : K.lookup f4 = some ⟨oc4, od4, .func (PySem.W.fnOf "_law_state" "_law_state" (defArgs s__law_state_83f3) (defBody s__law_state_83f3) (defScope s__law_state_83f3) .none kV4 dc4 pm4 an4 cd4 ct4), sl4⟩)
    (c4 : PySem.W.codeIn K cd4 "_law_state" = true)
    (k4 : PySem.W.keepIn K (.ref f4) = true)
    {od5 an5 : Option Addr} {sl5 : Array (Option Value)} {oc5 kV5 dc5 pm5 cd5 ct5 : Value}
    (a5 : PySem.W.nsIn K mainGlobals "_law_guild" = some (some (.ref f5)))
    (l5 : K.lookup f5 = some ⟨oc5, od5, .func (PySem.W.fnOf "_law_guild" "_law_guild" (defArgs s__law_guild_d854) (defBody s__law_guild_d854) (defScope s__law_guild_d854) .none kV5 dc5 pm5 an5 cd5 ct5), sl5⟩)
    (c5 : PySem.W.codeIn K cd5 "_law_guild" = true)
    (k5 : PySem.W.keepIn K (.ref f5) = true)
    {od6 an6 : Option Addr} {sl6 : Array (Option Value)} {oc6 kV6 dc6 pm6 cd6 ct6 : Value}
    (a6 : PySem.W.nsIn K mainGlobals "amount_fits" = some (some (.ref f6)))
    (l6 : K.lookup f6 = some ⟨oc6, od6, .func (PySem.W.fnOf "amount_fits" "amount_fits" (defArgs s_amount_fits) (defBody s_amount_fits) (defScope s_amount_fits) .none kV6 dc6 pm6 an6 cd6 ct6), sl6⟩)
    (c6 : PySem.W.codeIn K cd6 "amount_fits" = true)
    (k6 : PySem.W.keepIn K (.ref f6) = true)
    {od7 an7 : Option Addr} {sl7 : Array (Option Value)} {oc7 kV7 dc7 pm7 cd7 ct7 : Value}
    (a7 : PySem.W.nsIn K mainGlobals "amount_sum" = some (some (.ref f7)))
    (l7 : K.lookup f7 = some ⟨oc7, od7, .func (PySem.W.fnOf "amount_sum" "amount_sum" (defArgs s_amount_sum) (defBody s_amount_sum) (defScope s_amount_sum) .none kV7 dc7 pm7 an7 cd7 ct7), sl7⟩)
    (c7 : PySem.W.codeIn K cd7 "amount_sum" = true)
    (k7 : PySem.W.keepIn K (.ref f7) = true)
    {od8 an8 : Option Addr} {sl8 : Array (Option Value)} {oc8 kV8 dc8 pm8 cd8 ct8 : Value}
    (a8 : PySem.W.nsIn K mainGlobals "amount_times" = some (some (.ref f8)))
    (l8 : K.lookup f8 = some ⟨oc8, od8, .func (PySem.W.fnOf "amount_times" "amount_times" (defArgs s_amount_times) (defBody s_amount_times) (defScope s_amount_times) .none kV8 dc8 pm8 an8 cd8 ct8), sl8⟩)
    (c8 : PySem.W.codeIn K cd8 "amount_times" = true)
    (k8 : PySem.W.keepIn K (.ref f8) = true)
    {od9 an9 : Option Addr} {sl9 : Array (Option Value)} {oc9 kV9 dc9 pm9 cd9 ct9 : Value}
    (a9 : PySem.W.nsIn K mainGlobals "whole_of" = some (some (.ref f9)))
    (l9 : K.lookup f9 = some ⟨oc9, od9, .func (PySem.W.fnOf "whole_of" "whole_of" (defArgs s_whole_of) (defBody s_whole_of) (defScope s_whole_of) .none kV9 dc9 pm9 an9 cd9 ct9), sl9⟩)
    (c9 : PySem.W.codeIn K cd9 "whole_of" = true)
    (k9 : PySem.W.keepIn K (.ref f9) = true)
    {od10 an10 : Option Addr} {sl10 : Array (Option Value)} {oc10 kV10 dc10 pm10 cd10 ct10 : Value}
    (a10 : PySem.W.findIn K (.ref C_Share) "has_room_for" = some (some (.ref f10)))
    (i10 : PySem.W.isFn K (.ref f10) = true)
    (l10 : K.lookup f10 = some ⟨oc10, od10, .func (PySem.W.fnOf "has_room_for" "Share.has_room_for" (defArgs s_Share_has_room_for) (defBody s_Share_has_room_for) (defScope s_Share_has_room_for) .none kV10 dc10 pm10 an10 cd10 ct10), sl10⟩)
    (c10 : PySem.W.codeIn K cd10 "Share.has_room_for" = true)
    (k10 : PySem.W.keepIn K (.ref f10) = true)
    {od11 an11 : Option Addr} {sl11 : Array (Option Value)} {oc11 kV11 dc11 pm11 cd11 ct11 : Value}
    (a11 : PySem.W.nsIn K mainGlobals "nothing_of" = some (some (.ref f11)))
    (l11 : K.lookup f11 = some ⟨oc11, od11, .func (PySem.W.fnOf "nothing_of" "nothing_of" (defArgs s_nothing_of) (defBody s_nothing_of) (defScope s_nothing_of) .none kV11 dc11 pm11 an11 cd11 ct11), sl11⟩)
    (c11 : PySem.W.codeIn K cd11 "nothing_of" = true)
    (k11 : PySem.W.keepIn K (.ref f11) = true)
    {od12 an12 : Option Addr} {sl12 : Array (Option Value)} {oc12 kV12 dc12 pm12 cd12 ct12 : Value}
    (a12 : PySem.W.nsIn K mainGlobals "stands_by" = some (some (.ref f12)))
    (l12 : K.lookup f12 = some ⟨oc12, od12, .func (PySem.W.fnOf "stands_by" "stands_by" (defArgs s_stands_by) (defBody s_stands_by) (defScope s_stands_by) .none kV12 dc12 pm12 an12 cd12 ct12), sl12⟩)
    (c12 : PySem.W.codeIn K cd12 "stands_by" = true)
    (k12 : PySem.W.keepIn K (.ref f12) = true)
    {od13 an13 : Option Addr} {sl13 : Array (Option Value)} {oc13 kV13 dc13 pm13 cd13 ct13 : Value}
    (a13 : PySem.W.nsIn K mainGlobals "in_order" = some (some (.ref f13)))
    (l13 : K.lookup f13 = some ⟨oc13, od13, .func (PySem.W.fnOf "in_order" "in_order" (defArgs s_in_order) (defBody s_in_order) (defScope s_in_order) .none kV13 dc13 pm13 an13 cd13 ct13), sl13⟩)
    (c13 : PySem.W.codeIn K cd13 "in_order" = true)
    (k13 : PySem.W.keepIn K (.ref f13) = true)
    {od14 an14 : Option Addr} {sl14 : Array (Option Value)} {oc14 kV14 dc14 pm14 cd14 ct14 : Value}
    (a14 : PySem.W.findIn K (.ref C_Share) "add_gang" = some (some (.ref f14)))
    (i14 : PySem.W.isFn K (.ref f14) = true)
    (l14 : K.lookup f14 = some ⟨oc14, od14, .func (PySem.W.fnOf "add_gang" "Share.add_gang" (defArgs s_Share_add_gang) (defBody s_Share_add_gang) (defScope s_Share_add_gang) .none kV14 dc14 pm14 an14 cd14 ct14), sl14⟩)
    (c14 : PySem.W.codeIn K cd14 "Share.add_gang" = true)
    (k14 : PySem.W.keepIn K (.ref f14) = true)
    {od15 an15 : Option Addr} {sl15 : Array (Option Value)} {oc15 kV15 dc15 pm15 cd15 ct15 : Value}
    (a15 : PySem.W.findIn K (.ref C_Share) "__init__" = some (some (.ref f15)))
    (i15 : PySem.W.isFn K (.ref f15) = true)
    (l15 : K.lookup f15 = some ⟨oc15, od15, .func (PySem.W.fnOf "__init__" "Share.__init__" (defArgs s_Share___init__) (defBody s_Share___init__) (defScope s_Share___init__) .none kV15 dc15 pm15 an15 cd15 ct15), sl15⟩)
    (c15 : PySem.W.codeIn K cd15 "Share.__init__" = true)
    (k15 : PySem.W.keepIn K (.ref f15) = true)
    {od16 an16 : Option Addr} {sl16 : Array (Option Value)} {oc16 kV16 dc16 pm16 cd16 ct16 : Value}
    (a16 : PySem.W.nsIn K mainGlobals "owed" = some (some (.ref f16)))
    (l16 : K.lookup f16 = some ⟨oc16, od16, .func (PySem.W.fnOf "owed" "owed" (defArgs s_owed) (defBody s_owed) (defScope s_owed) .none kV16 dc16 pm16 an16 cd16 ct16), sl16⟩)
    (c16 : PySem.W.codeIn K cd16 "owed" = true)
    (k16 : PySem.W.keepIn K (.ref f16) = true)
    {od17 an17 : Option Addr} {sl17 : Array (Option Value)} {oc17 kV17 dc17 pm17 cd17 ct17 : Value}
    (a17 : PySem.W.nsIn K mainGlobals "own_with" = some (some (.ref f17)))
    (l17 : K.lookup f17 = some ⟨oc17, od17, .func (PySem.W.fnOf "own_with" "own_with" (defArgs s_own_with) (defBody s_own_with) (defScope s_own_with) .none kV17 dc17 pm17 an17 cd17 ct17), sl17⟩)
    (c17 : PySem.W.codeIn K cd17 "own_with" = true)
    (k17 : PySem.W.keepIn K (.ref f17) = true)
    {od18 an18 : Option Addr} {sl18 : Array (Option Value)} {oc18 kV18 dc18 pm18 cd18 ct18 : Value}
    (a18 : PySem.W.nsIn K mainGlobals "parted" = some (some (.ref f18)))
    (l18 : K.lookup f18 = some ⟨oc18, od18, .func (PySem.W.fnOf "parted" "parted" (defArgs s_parted) (defBody s_parted) (defScope s_parted) .none kV18 dc18 pm18 an18 cd18 ct18), sl18⟩)
    (c18 : PySem.W.codeIn K cd18 "parted" = true)
    (k18 : PySem.W.keepIn K (.ref f18) = true)
    {od19 an19 : Option Addr} {sl19 : Array (Option Value)} {oc19 kV19 dc19 pm19 cd19 ct19 : Value}
    (a19 : PySem.W.nsIn K mainGlobals "rows_of_guild" = some (some (.ref f19)))
    (l19 : K.lookup f19 = some ⟨oc19, od19, .func (PySem.W.fnOf "rows_of_guild" "rows_of_guild" (defArgs s_rows_of_guild) (defBody s_rows_of_guild) (defScope s_rows_of_guild) .none kV19 dc19 pm19 an19 cd19 ct19), sl19⟩)
    (c19 : PySem.W.codeIn K cd19 "rows_of_guild" = true)
    (k19 : PySem.W.keepIn K (.ref f19) = true)
    {od20 an20 : Option Addr} {sl20 : Array (Option Value)} {oc20 kV20 dc20 pm20 cd20 ct20 : Value}
    (a20 : PySem.W.findIn K (.ref C_Taker) "__init__" = some (some (.ref f20)))
    (i20 : PySem.W.isFn K (.ref f20) = true)
    (l20 : K.lookup f20 = some ⟨oc20, od20, .func (PySem.W.fnOf "__init__" "Taker.__init__" (defArgs s_Taker___init__) (defBody s_Taker___init__) (defScope s_Taker___init__) .none kV20 dc20 pm20 an20 cd20 ct20), sl20⟩)
    (c20 : PySem.W.codeIn K cd20 "Taker.__init__" = true)
    (k20 : PySem.W.keepIn K (.ref f20) = true)
    {od21 an21 : Option Addr} {sl21 : Array (Option Value)} {oc21 kV21 dc21 pm21 cd21 ct21 : Value}
    (a21 : PySem.W.findIn K (.ref C_Taker) "ground_for" = some (some (.ref f21)))
    (i21 : PySem.W.isFn K (.ref f21) = true)
    (l21 : K.lookup f21 = some ⟨oc21, od21, .func (PySem.W.fnOf "ground_for" "Taker.ground_for" (defArgs s_Taker_ground_for) (defBody s_Taker_ground_for) (defScope s_Taker_ground_for) .none kV21 dc21 pm21 an21 cd21 ct21), sl21⟩)
    (c21 : PySem.W.codeIn K cd21 "Taker.ground_for" = true)
    (k21 : PySem.W.keepIn K (.ref f21) = true)
    {od22 an22 : Option Addr} {sl22 : Array (Option Value)} {oc22 kV22 dc22 pm22 cd22 ct22 : Value}
    (a22 : PySem.W.nsIn K mainGlobals "taken_by" = some (some (.ref f22)))
    (l22 : K.lookup f22 = some ⟨oc22, od22, .func (PySem.W.fnOf "taken_by" "taken_by" (defArgs s_taken_by) (defBody s_taken_by) (defScope s_taken_by) .none kV22 dc22 pm22 an22 cd22 ct22), sl22⟩)
    (c22 : PySem.W.codeIn K cd22 "taken_by" = true)
    (k22 : PySem.W.keepIn K (.ref f22) = true)
    {od23 an23 : Option Addr} {sl23 : Array (Option Value)} {oc23 kV23 dc23 pm23 cd23 ct23 : Value}
    (a23 : PySem.W.nsIn K mainGlobals "may_take" = some (some (.ref f23)))
    (l23 : K.lookup f23 = some ⟨oc23, od23, .func (PySem.W.fnOf "may_take" "may_take" (defArgs s_may_take) (defBody s_may_take) (defScope s_may_take) .none kV23 dc23 pm23 an23 cd23 ct23), sl23⟩)
    (c23 : PySem.W.codeIn K cd23 "may_take" = true)
    (k23 : PySem.W.keepIn K (.ref f23) = true)
    {od24 an24 : Option Addr} {sl24 : Array (Option Value)} {oc24 kV24 dc24 pm24 cd24 ct24 : Value}
    (a24 : PySem.W.nsIn K mainGlobals "_law_right" = some (some (.ref f24)))
    (l24 : K.lookup f24 = some ⟨oc24, od24, .func (PySem.W.fnOf "_law_right" "_law_right" (defArgs s__law_right_c83b) (defBody s__law_right_c83b) (defScope s__law_right_c83b) .none kV24 dc24 pm24 an24 cd24 ct24), sl24⟩)
    (c24 : PySem.W.codeIn K cd24 "_law_right" = true)
    (k24 : PySem.W.keepIn K (.ref f24) = true)
    {od25 an25 : Option Addr} {sl25 : Array (Option Value)} {oc25 kV25 dc25 pm25 cd25 ct25 : Value}
    (a25 : PySem.W.nsIn K mainGlobals "law" = some (some (.ref f25)))
    (l25 : K.lookup f25 = some ⟨oc25, od25, .func (PySem.W.fnOf "law" "law" (defArgs s_law_k30) (defBody s_law_k30) (defScope s_law_k30) .none kV25 dc25 pm25 an25 cd25 ct25), sl25⟩)
    (c25 : PySem.W.codeIn K cd25 "law" = true)
    (k25 : PySem.W.keepIn K (.ref f25) = true)
    (z0 : PySem.W.nsIn K mainGlobals "abs" = some none)
    (z1 : PySem.W.nsIn K mainGlobals "all" = some none)
    (z2 : PySem.W.nsIn K mainGlobals "any" = some none)
    (z3 : PySem.W.nsIn K mainGlobals "dict" = some none)
    (z4 : PySem.W.nsIn K mainGlobals "int" = some none)
    (z5 : PySem.W.nsIn K mainGlobals "len" = some none)
    (z6 : PySem.W.nsIn K mainGlobals "max" = some none)
    (z7 : PySem.W.nsIn K mainGlobals "min" = some none)
    (z8 : PySem.W.nsIn K mainGlobals "range" = some none)
    (z9 : PySem.W.nsIn K mainGlobals "set" = some none)
    (z10 : PySem.W.nsIn K mainGlobals "sorted" = some none)
    (z11 : PySem.W.nsIn K mainGlobals "sum" = some none)
    (z12 : PySem.W.nsIn K mainGlobals "tuple" = some none)
    (z13 : PySem.W.nsIn K mainGlobals "zip" = some none)
    (nC_Book : PySem.W.nsIn K mainGlobals "Book" = some none)
    (nC_House : PySem.W.nsIn K mainGlobals "House" = some none)
    (nC_Estate : PySem.W.nsIn K mainGlobals "Estate" = some none)
    (pg_Share : PySem.W.plainGet K C_Share Str.empty = true)
    (hd_Share : PySem.W.hasDictIn K C_Share = true)
    (po_Share : PySem.W.plainOver K C_Share = true)
    (sa_Share : PySem.W.findIn K (.ref C_Share) "__setattr__" = some (some (.builtin "object.__setattr__")))
    (na_Share_due : PySem.W.findIn K (.ref C_Share) "due" = some none)
    (na_Share_borne : PySem.W.findIn K (.ref C_Share) "borne" = some none)
    (na_Share_own_names : PySem.W.findIn K (.ref C_Share) "own_names" = some none)
    (na_Share_lent_names : PySem.W.findIn K (.ref C_Share) "lent_names" = some none)
    (mk_Share : PySem.W.makesIn K C_Share = true)
    (kp_Share : PySem.W.keepIn K (.ref C_Share) = true)
    (pg_Taker : PySem.W.plainGet K C_Taker Str.empty = true)
    (hd_Taker : PySem.W.hasDictIn K C_Taker = true)
    (po_Taker : PySem.W.plainOver K C_Taker = true)
    (sa_Taker : PySem.W.findIn K (.ref C_Taker) "__setattr__" = some (some (.builtin "object.__setattr__")))
    (na_Taker_gang : PySem.W.findIn K (.ref C_Taker) "gang" = some none)
    (na_Taker_is_owed : PySem.W.findIn K (.ref C_Taker) "is_owed" = some none)
    (na_Taker_is_own : PySem.W.findIn K (.ref C_Taker) "is_own" = some none)
    (na_Taker_all_lent : PySem.W.findIn K (.ref C_Taker) "all_lent" = some none)
    (mk_Taker : PySem.W.makesIn K C_Taker = true)
    (kp_Taker : PySem.W.keepIn K (.ref C_Taker) = true)
    (nC_Trial : PySem.W.nsIn K mainGlobals "Trial" = some none)
    (nC_Standing : PySem.W.nsIn K mainGlobals "Standing" = some none)
    (nC_Hall : PySem.W.nsIn K mainGlobals "Hall" = some none)
    (nX_HallError : PySem.W.nsIn K mainGlobals "HallError" = some none)
    (nX_Taken : PySem.W.nsIn K mainGlobals "Taken" = some none)
    (nX_NoKey : PySem.W.nsIn K mainGlobals "NoKey" = some none)
    (nX_TooMuch : PySem.W.nsIn K mainGlobals "TooMuch" = some none)
    (nX_NoHouse : PySem.W.nsIn K mainGlobals "NoHouse" = some none)
    (nX_NoGang : PySem.W.nsIn K mainGlobals "NoGang" = some none)
    (nX_NoGuild : PySem.W.nsIn K mainGlobals "NoGuild" = some none)
    (nX_NoKind : PySem.W.nsIn K mainGlobals "NoKind" = some none)
    (nX_InUse : PySem.W.nsIn K mainGlobals "InUse" = some none)
    (nX_TooMany : PySem.W.nsIn K mainGlobals "TooMany" = some none)
    (nX_NoPlan : PySem.W.nsIn K mainGlobals "NoPlan" = some none)
    (nX_Past : PySem.W.nsIn K mainGlobals "Past" = some none)
    (nX_BadRow : PySem.W.nsIn K mainGlobals "BadRow" = some none)
    : ∃ fd : FuncData, (∀ (s : Shared) (v : Value), BindsTo s fd ⟨[v], []⟩ [("_law_script", v)]) ∧ ∀ base : Heap, K.In base → base.Ns mainGlobals mg → FnOk l.prog w K mg base (L2.CX l.prog w) 12 fa fd ["_law_script"] (spA K a_law_k30) := by
  have e := hfa.symm.trans (PySem.W.mg_of X G a25)
  cases e
  have TCf : ∀ c, ClsF K c := (fun c => match c with | .Book => clsF_no nC_Book | .House => clsF_no nC_House | .Estate => clsF_no nC_Estate | .Share => clsF_of gC_Share pg_Share hd_Share po_Share sa_Share (na_of (fs := [.due, .borne, .own_names, .lent_names]) ⟨na_Share_due, na_Share_borne, na_Share_own_names, na_Share_lent_names, trivial⟩) | .Taker => clsF_of gC_Taker pg_Taker hd_Taker po_Taker sa_Taker (na_of (fs := [.gang, .is_owed, .is_own, .all_lent]) ⟨na_Taker_gang, na_Taker_is_owed, na_Taker_is_own, na_Taker_all_lent, trivial⟩) | .Trial => clsF_no nC_Trial | .Standing => clsF_no nC_Standing | .Hall => clsF_no nC_Hall)
  have T : Tx K mg := ⟨PySem.W.mg_none_of X G z0, PySem.W.mg_none_of X G z1, PySem.W.mg_none_of X G z2, PySem.W.mg_none_of X G z3, PySem.W.mg_none_of X G z4, PySem.W.mg_none_of X G z5, PySem.W.mg_none_of X G z6, PySem.W.mg_none_of X G z7, PySem.W.mg_none_of X G z8, PySem.W.mg_none_of X G z9, PySem.W.mg_none_of X G z10, PySem.W.mg_none_of X G z11, PySem.W.mg_none_of X G z12, PySem.W.mg_none_of X G z13, TCf, (fun c => match c with | .HallError => exnF_no nX_HallError | .Taken => exnF_no nX_Taken | .NoKey => exnF_no nX_NoKey | .TooMuch => exnF_no nX_TooMuch | .NoHouse => exnF_no nX_NoHouse | .NoGang => exnF_no nX_NoGang | .NoGuild => exnF_no nX_NoGuild | .NoKind => exnF_no nX_NoKind | .InUse => exnF_no nX_InUse | .TooMany => exnF_no nX_TooMany | .NoPlan => exnF_no nX_NoPlan | .Past => exnF_no nX_Past | .BadRow => exnF_no nX_BadRow)⟩
  have F0 := fun_mk (st := s__law_box_f006) l0 c0 k0
  have b0 := F0.binds (ps := ["_law_script", "_law_k"]) fun _ _ _ _ _ _ us hl => match us, hl with | [_, _], _ => rfl
  have F1 := fun_mk (st := s__law_take_9ad5) l1 c1 k1
  have b1 := F1.binds (ps := ["_law_box_here", "_law_many"]) fun _ _ _ _ _ _ us hl => match us, hl with | [_, _], _ => rfl
  have F2 := fun_mk (st := s__law_gang_69eb) l2 c2 k2
  have b2 := F2.binds (ps := ["_law_box_here", "_law_name", "_law_guilds", "_law_wares", "_law_wide"]) fun _ _ _ _ _ _ us hl => match us, hl with | [_, _, _, _, _], _ => rfl
  have F3 := fun_mk (st := s__law_due_ff14) l3 c3 k3
  have b3 := F3.binds (ps := ["_law_box_here", "_law_wares", "_law_wide"]) fun _ _ _ _ _ _ us hl => match us, hl with | [_, _, _], _ => rfl
  have F4 := fun_mk (st := s__law_state_83f3) l4 c4 k4
  have b4 := F4.binds (ps := ["_law_script"]) fun _ _ _ _ _ _ us hl => match us, hl with | [_], _ => rfl
  have F5 := fun_mk (st := s__law_guild_d854) l5 c5 k5
  have b5 := F5.binds (ps := ["_law_rows", "_law_guild_here"]) fun _ _ _ _ _ _ us hl => match us, hl with | [_, _], _ => rfl
  have F6 := fun_mk (st := s_amount_fits) l6 c6 k6
  have b6 := F6.binds (ps := ["one", "other"]) fun _ _ _ _ _ _ us hl => match us, hl with | [_, _], _ => rfl
  have F7 := fun_mk (st := s_amount_sum) l7 c7 k7
  have b7 := F7.binds (ps := ["one", "other"]) fun _ _ _ _ _ _ us hl => match us, hl with | [_, _], _ => rfl
  have F8 := fun_mk (st := s_amount_times) l8 c8 k8
  have b8 := F8.binds (ps := ["one", "n"]) fun _ _ _ _ _ _ us hl => match us, hl with | [_, _], _ => rfl
  have F9 := fun_mk (st := s_whole_of) l9 c9 k9
  have b9 := F9.binds (ps := ["gang"]) fun _ _ _ _ _ _ us hl => match us, hl with | [_], _ => rfl
  have F10 := fun_mk (st := s_Share_has_room_for) l10 c10 k10
  have b10 := F10.binds (ps := ["self", "gang"]) fun _ _ _ _ _ _ us hl => match us, hl with | [_, _], _ => rfl
  have F11 := fun_mk (st := s_nothing_of) l11 c11 k11
  have b11 := F11.binds (ps := ["wares"]) fun _ _ _ _ _ _ us hl => match us, hl with | [_], _ => rfl
  have F12 := fun_mk (st := s_stands_by) l12 c12 k12
  have b12 := F12.binds (ps := ["row"]) fun _ _ _ _ _ _ us hl => match us, hl with | [_], _ => rfl
  have F13 := fun_mk (st := s_in_order) l13 c13 k13
  have b13 := F13.binds (ps := ["rows"]) fun _ _ _ _ _ _ us hl => match us, hl with | [_], _ => rfl
  have F14 := fun_mk (st := s_Share_add_gang) l14 c14 k14
  have b14 := F14.binds (ps := ["self", "gang"]) fun _ _ _ _ _ _ us hl => match us, hl with | [_, _], _ => rfl
  have F15 := fun_mk (st := s_Share___init__) l15 c15 k15
  have b15 := F15.binds (ps := ["self", "due", "rows"]) fun _ _ _ _ _ _ us hl => match us, hl with | [_, _, _], _ => rfl
  have F16 := fun_mk (st := s_owed) l16 c16 k16
  have b16 := F16.binds (ps := ["due", "rows", "gang"]) fun _ _ _ _ _ _ us hl => match us, hl with | [_, _, _], _ => rfl
  have F17 := fun_mk (st := s_own_with) l17 c17 k17
  have b17 := F17.binds (ps := ["due", "rows", "gang"]) fun _ _ _ _ _ _ us hl => match us, hl with | [_, _, _], _ => rfl
  have F18 := fun_mk (st := s_parted) l18 c18 k18
  have b18 := F18.binds (ps := ["due", "rows"]) fun _ _ _ _ _ _ us hl => match us, hl with | [_, _], _ => rfl
  have F19 := fun_mk (st := s_rows_of_guild) l19 c19 k19
  have b19 := F19.binds (ps := ["rows", "guild"]) fun _ _ _ _ _ _ us hl => match us, hl with | [_, _], _ => rfl
  have F20 := fun_mk (st := s_Taker___init__) l20 c20 k20
  have b20 := F20.binds (ps := ["self", "dues", "rows", "gang"]) fun _ _ _ _ _ _ us hl => match us, hl with | [_, _, _, _], _ => rfl
  have F21 := fun_mk (st := s_Taker_ground_for) l21 c21 k21
  have b21 := F21.binds (ps := ["self", "other"]) fun _ _ _ _ _ _ us hl => match us, hl with | [_, _], _ => rfl
  have F22 := fun_mk (st := s_taken_by) l22 c22 k22
  have b22 := F22.binds (ps := ["row"]) fun _ _ _ _ _ _ us hl => match us, hl with | [_], _ => rfl
  have F23 := fun_mk (st := s_may_take) l23 c23 k23
  have b23 := F23.binds (ps := ["dues", "rows", "names", "gang"]) fun _ _ _ _ _ _ us hl => match us, hl with | [_, _, _, _], _ => rfl
  have F24 := fun_mk (st := s__law_right_c83b) l24 c24 k24
  have b24 := F24.binds (ps := ["_law_dues", "_law_rows", "_law_gang_here"]) fun _ _ _ _ _ _ us hl => match us, hl with | [_, _, _], _ => rfl
  have F25 := fun_mk (st := s_law_k30) l25 c25 k25
  refine ⟨PySem.W.fnOf "law" "law" (defArgs s_law_k30) (defBody s_law_k30) (defScope s_law_k30) .none kV25 dc25 pm25 an25 cd25 ct25, fun s v => .of_eq rfl, fun base _ _ => ?_⟩
  have C__law_box_f006 : Cal l.prog w K mg base 1 "_law_box" (spA K a__law_box_f006) := cal_mk (ok__law_box_f006 F0 T ) (PySem.W.mg_of X G a0) F0.kp b0
  have C__law_take_9ad5 : Cal l.prog w K mg base 1 "_law_take" (spA K a__law_take_9ad5) := cal_mk (ok__law_take_9ad5 F1 T ) (PySem.W.mg_of X G a1) F1.kp b1
  have C__law_gang_69eb : Cal l.prog w K mg base 2 "_law_gang" (spA K a__law_gang_69eb) := cal_mk (ok__law_gang_69eb F2 T C__law_take_9ad5) (PySem.W.mg_of X G a2) F2.kp b2
  have C__law_due_ff14 : Cal l.prog w K mg base 2 "_law_due" (spA K a__law_due_ff14) := cal_mk (ok__law_due_ff14 F3 T C__law_take_9ad5) (PySem.W.mg_of X G a3) F3.kp b3
  have C__law_state_83f3 : Cal l.prog w K mg base 3 "_law_state" (spA K a__law_state_83f3) := cal_mk (ok__law_state_83f3 F4 T C__law_box_f006 C__law_take_9ad5 C__law_gang_69eb C__law_due_ff14) (PySem.W.mg_of X G a4) F4.kp b4
  have C__law_guild_d854 : Cal l.prog w K mg base 1 "_law_guild" (spA K a__law_guild_d854) := cal_mk (ok__law_guild_d854 F5 T ) (PySem.W.mg_of X G a5) F5.kp b5
  have C_amount_fits : Cal l.prog w K mg base 1 "amount_fits" (spA K a_amount_fits) := cal_mk (ok_amount_fits F6 T ) (PySem.W.mg_of X G a6) F6.kp b6
  have C_amount_sum : Cal l.prog w K mg base 1 "amount_sum" (spA K a_amount_sum) := cal_mk (ok_amount_sum F7 T ) (PySem.W.mg_of X G a7) F7.kp b7
  have C_amount_times : Cal l.prog w K mg base 1 "amount_times" (spA K a_amount_times) := cal_mk (ok_amount_times F8 T ) (PySem.W.mg_of X G a8) F8.kp b8
  have C_whole_of : Cal l.prog w K mg base 2 "whole_of" (spA K a_whole_of) := cal_mk (ok_whole_of F9 T C_amount_times) (PySem.W.mg_of X G a9) F9.kp b9
  have C_Share_has_room_for : MCal l.prog w K mg base 3 .Share "has_room_for" (spA K a_Share_has_room_for) := mcal_mk (ok_Share_has_room_for F10 T C_amount_fits C_amount_sum C_whole_of) gC_Share (T.TC .Share) ⟨a10, i10, k10⟩ b10
  have C_nothing_of : Cal l.prog w K mg base 1 "nothing_of" (spA K a_nothing_of) := cal_mk (ok_nothing_of F11 T ) (PySem.W.mg_of X G a11) F11.kp b11
  have C_stands_by : Cal l.prog w K mg base 1 "stands_by" (spA K a_stands_by) := cal_mk (ok_stands_by F12 T ) (PySem.W.mg_of X G a12) F12.kp b12
  have C_in_order : Cal l.prog w K mg base 3 "in_order" (spA K a_in_order) := cal_mk (ok_in_order F13 T C_stands_by) (PySem.W.mg_of X G a13) F13.kp b13
  have C_Share_add_gang : MCal l.prog w K mg base 4 .Share "add_gang" (spA K a_Share_add_gang) := mcal_mk (ok_Share_add_gang F14 T C_Share_has_room_for C_amount_sum C_whole_of) gC_Share (T.TC .Share) ⟨a14, i14, k14⟩ b14
  have C_Share___init__ : KCal l.prog w K mg base 5 .Share (spA K a_Share___init__) := kcal_mk (ok_Share___init__ F15 T C_nothing_of C_in_order C_Share_add_gang) gC_Share (PySem.W.mg_of X G gC_Share) ⟨mk_Share, a15, i15, kp_Share⟩ b15
  have C_owed : Cal l.prog w K mg base 7 "owed" (spA K a_owed) := cal_mk (ok_owed F16 T C_Share_has_room_for C_Share___init__) (PySem.W.mg_of X G a16) F16.kp b16
  have C_own_with : Cal l.prog w K mg base 7 "own_with" (spA K a_own_with) := cal_mk (ok_own_with F17 T C_Share_has_room_for C_Share___init__) (PySem.W.mg_of X G a17) F17.kp b17
  have C_parted : Cal l.prog w K mg base 7 "parted" (spA K a_parted) := cal_mk (ok_parted F18 T C_Share___init__) (PySem.W.mg_of X G a18) F18.kp b18
  have C_rows_of_guild : Cal l.prog w K mg base 1 "rows_of_guild" (spA K a_rows_of_guild) := cal_mk (ok_rows_of_guild F19 T ) (PySem.W.mg_of X G a19) F19.kp b19
  have C_Taker___init__ : KCal l.prog w K mg base 8 .Taker (spA K a_Taker___init__) := kcal_mk (ok_Taker___init__ F20 T C_rows_of_guild C_owed C_own_with C_parted) gC_Taker (PySem.W.mg_of X G gC_Taker) ⟨mk_Taker, a20, i20, kp_Taker⟩ b20
  have C_Taker_ground_for : MCal l.prog w K mg base 1 .Taker "ground_for" (spA K a_Taker_ground_for) := mcal_mk (ok_Taker_ground_for F21 T ) gC_Taker (T.TC .Taker) ⟨a21, i21, k21⟩ b21
  have C_taken_by : Cal l.prog w K mg base 1 "taken_by" (spA K a_taken_by) := cal_mk (ok_taken_by F22 T ) (PySem.W.mg_of X G a22) F22.kp b22
  have C_may_take : Cal l.prog w K mg base 10 "may_take" (spA K a_may_take) := cal_mk (ok_may_take F23 T C_Taker___init__ C_Taker_ground_for C_taken_by) (PySem.W.mg_of X G a23) F23.kp b23
  have C__law_right_c83b : Cal l.prog w K mg base 11 "_law_right" (spA K a__law_right_c83b) := cal_mk (ok__law_right_c83b F24 T C__law_guild_d854 C_owed C_own_with C_parted C_may_take) (PySem.W.mg_of X G a24) F24.kp b24
  exact ok_law_k30 F25 T C__law_state_83f3 C__law_right_c83b
end My
open PySem PySem.W
open PyProof.Rows hiding St
set_option maxRecDepth 100000 in
set_option maxHeartbeats 0 in
theorem PySem.Challenge.cw_clusterhall_k30_whole_when_all_are_taken_holds : PySem.Challenge.rw_clusterhall_k30_whole_when_all_are_taken.Holds := by
  w_on; o_law; k_head; (case hw => w_witness2)
  k_fill
  refine My.walk_nu (l := PySem.Challenge.rw_clusterhall_k30_whole_when_all_are_taken) (n := 63) (k := 12) (x := "_law_script") (a := My.a_law_k30) rfl (by decide) rfl ⟨rfl, by decide, by decide⟩ (fun w h Y => PySem.W.kIn_of Y) ?F (fun _ _ a ns hl hS => My.law_in a ns hl hS)
  case F =>
    intro w mg fa h KX G hmg
    refine' My.all_mk KX G hmg ?gC_Share ?gC_Taker ?a0 ?l0 ?c0 ?k0 ?a1 ?l1 ?c1 ?k1 ?a2 ?l2 ?c2 ?k2 ?a3 ?l3 ?c3 ?k3 ?a4 ?l4 ?c4 ?k4 ?a5 ?l5 ?c5 ?k5 ?a6 ?l6 ?c6 ?k6 ?a7 ?l7 ?c7 ?k7 ?a8 ?l8 ?c8 ?k8 ?a9 ?l9 ?c9 ?k9 ?a10 ?i10 ?l10 ?c10 ?k10 ?a11 ?l11 ?c11 ?k11 ?a12 ?l12 ?c12 ?k12 ?a13 ?l13 ?c13 ?k13 ?a14 ?i14 ?l14 ?c14 ?k14 ?a15 ?i15 ?l15 ?c15 ?k15 ?a16 ?l16 ?c16 ?k16 ?a17 ?l17 ?c17 ?k17 ?a18 ?l18 ?c18 ?k18 ?a19 ?l19 ?c19 ?k19 ?a20 ?i20 ?l20 ?c20 ?k20 ?a21 ?i21 ?l21 ?c21 ?k21 ?a22 ?l22 ?c22 ?k22 ?a23 ?l23 ?c23 ?k23 ?a24 ?l24 ?c24 ?k24 ?a25 ?l25 ?c25 ?k25 ?z0 ?z1 ?z2 ?z3 ?z4 ?z5 ?z6 ?z7 ?z8 ?z9 ?z10 ?z11 ?z12 ?z13 ?nC_Book ?nC_House ?nC_Estate ?pg_Share ?hd_Share ?po_Share ?sa_Share ?na_Share_due ?na_Share_borne ?na_Share_own_names ?na_Share_lent_names ?mk_Share ?kp_Share ?pg_Taker ?hd_Taker ?po_Taker ?sa_Taker ?na_Taker_gang ?na_Taker_is_owed ?na_Taker_is_own ?na_Taker_all_lent ?mk_Taker ?kp_Taker ?nC_Trial ?nC_Standing ?nC_Hall ?nX_HallError ?nX_Taken ?nX_NoKey ?nX_TooMuch ?nX_NoHouse ?nX_NoGang ?nX_NoGuild ?nX_NoKind ?nX_InUse ?nX_TooMany ?nX_NoPlan ?nX_Past ?nX_BadRow
    (case gC_Share => k_is); (case gC_Taker => k_is); (case a0 => k_is); (case l0 => k_is); (case c0 => k_is); (case k0 => k_is); (case a1 => k_is); (case l1 => k_is); (case c1 => k_is); (case k1 => k_is); (case a2 => k_is); (case l2 => k_is); (case c2 => k_is); (case k2 => k_is); (case a3 => k_is); (case l3 => k_is); (case c3 => k_is); (case k3 => k_is); (case a4 => k_is); (case l4 => k_is); (case c4 => k_is); (case k4 => k_is); (case a5 => k_is); (case l5 => k_is); (case c5 => k_is); (case k5 => k_is); (case a6 => k_is); (case l6 => k_is); (case c6 => k_is); (case k6 => k_is); (case a7 => k_is); (case l7 => k_is); (case c7 => k_is); (case k7 => k_is); (case a8 => k_is); (case l8 => k_is); (case c8 => k_is); (case k8 => k_is); (case a9 => k_is); (case l9 => k_is); (case c9 => k_is); (case k9 => k_is); (case a10 => k_is); (case i10 => k_is); (case l10 => k_is); (case c10 => k_is); (case k10 => k_is); (case a11 => k_is); (case l11 => k_is); (case c11 => k_is); (case k11 => k_is); (case a12 => k_is); (case l12 => k_is); (case c12 => k_is); (case k12 => k_is); (case a13 => k_is); (case l13 => k_is); (case c13 => k_is); (case k13 => k_is); (case a14 => k_is); (case i14 => k_is); (case l14 => k_is); (case c14 => k_is); (case k14 => k_is); (case a15 => k_is); (case i15 => k_is); (case l15 => k_is); (case c15 => k_is); (case k15 => k_is); (case a16 => k_is); (case l16 => k_is); (case c16 => k_is); (case k16 => k_is); (case a17 => k_is); (case l17 => k_is); (case c17 => k_is); (case k17 => k_is); (case a18 => k_is); (case l18 => k_is); (case c18 => k_is); (case k18 => k_is); (case a19 => k_is); (case l19 => k_is); (case c19 => k_is); (case k19 => k_is); (case a20 => k_is); (case i20 => k_is); (case l20 => k_is); (case c20 => k_is); (case k20 => k_is); (case a21 => k_is); (case i21 => k_is); (case l21 => k_is); (case c21 => k_is); (case k21 => k_is); (case a22 => k_is); (case l22 => k_is); (case c22 => k_is); (case k22 => k_is); (case a23 => k_is); (case l23 => k_is); (case c23 => k_is); (case k23 => k_is); (case a24 => k_is); (case l24 => k_is); (case c24 => k_is); (case k24 => k_is); (case a25 => k_is); (case l25 => k_is); (case c25 => k_is); (case k25 => k_is); (case z0 => k_is); (case z1 => k_is); (case z2 => k_is); (case z3 => k_is); (case z4 => k_is); (case z5 => k_is); (case z6 => k_is); (case z7 => k_is); (case z8 => k_is); (case z9 => k_is); (case z10 => k_is); (case z11 => k_is); (case z12 => k_is); (case z13 => k_is); (case nC_Book => k_is); (case nC_House => k_is); (case nC_Estate => k_is); (case pg_Share => k_is); (case hd_Share => k_is); (case po_Share => k_is); (case sa_Share => k_is); (case na_Share_due => k_is); (case na_Share_borne => k_is); (case na_Share_own_names => k_is); (case na_Share_lent_names => k_is); (case mk_Share => k_is); (case kp_Share => k_is); (case pg_Taker => k_is); (case hd_Taker => k_is); (case po_Taker => k_is); (case sa_Taker => k_is); (case na_Taker_gang => k_is); (case na_Taker_is_owed => k_is); (case na_Taker_is_own => k_is); (case na_Taker_all_lent => k_is); (case mk_Taker => k_is); (case kp_Taker => k_is); (case nC_Trial => k_is); (case nC_Standing => k_is); (case nC_Hall => k_is); (case nX_HallError => k_is); (case nX_Taken => k_is); (case nX_NoKey => k_is); (case nX_TooMuch => k_is); (case nX_NoHouse => k_is); (case nX_NoGang => k_is); (case nX_NoGuild => k_is); (case nX_NoKind => k_is); (case nX_InUse => k_is); (case nX_TooMany => k_is); (case nX_NoPlan => k_is); (case nX_Past => k_is); (case nX_BadRow => k_is)
#print axioms PySem.Challenge.cw_clusterhall_k30_whole_when_all_are_taken_holds
