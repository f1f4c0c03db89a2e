import PyProof.Rows.All
import Wide.All
import OpenK.AllK
import Wide.FinOn
import KE.KExcIs
import KE.SortKeyHeap
import KE.SortData
import KE.DataMinMax
import HandS.ForMost
import HandS.ForExc
import HandS.Zip
import HandS.TupAny
import HandS.Codes
import HandS.IsInst
import HandS.Walk
import HandS.Wide
import HandS.TupMul
import HandS.CallSlots
import HandS.ExcInit
import HandS.ExcValue
import HandS.TryOnly
import HandS.SetKeys
import HandS.Rev
import HandS.Conv
import HandS.NoneIn
import HandS.Style
import HandS.Finally
import HandS.BoundDict
import HandS.Hot
import HandS.More
import HandS.Small
import HandS.RaiseOp
import HandS.RaiseFrom
import HandS.ExcValueHot
import HandS.WideBits
import HandS.HotCalls
import HandS.DictComp
import HandS.ForDict
import HandS.ExcIs
import HandS.ExcOwn
import HandS.TryElse
import HandS.TryMany
import HandS.RaiseMore
import HandS.SuiteRaise
import HandS.StrMore
import HandS.Strs
import HandS.StrSplit
import HandS.AnyAll
import HandS.ListItems
import HandS.SetFor
import HandS.Set
import HandS.TupSets
import HandS.SortInts
import HandS.SortRule
import HandS.SortOrd
import HandS.SortKw
import HandS.Lambda
import HandS.DictEq
import HandS.Deep
import KE.GoesNew
import KE.GoesMore
import KE.GoesEnum
import PyProof.ExcBaseAll.ValueError
import PySem.Challenge.RW_clusterhall_k13_whole_book_walked
set_option Elab.async false
set_option linter.all false
set_option maxRecDepth 100000
set_option maxHeartbeats 4000000
namespace Nu
open PySem PySem.Spec L2
open PyProof.Rows hiding St

/-! ### data, cells, stores -/
inductive Exn where
  | HallError | Taken | NoKey | TooMuch | NoHouse | NoGang | NoGuild | NoKind | InUse | TooMany | NoPlan | Past | BadRow
  deriving DecidableEq
def Exn.name : Exn → Str
  | .HallError => "HallError" | .Taken => "Taken" | .NoKey => "NoKey" | .TooMuch => "TooMuch" | .NoHouse => "NoHouse" | .NoGang => "NoGang" | .NoGuild => "NoGuild"
  | .NoKind => "NoKind" | .InUse => "InUse" | .TooMany => "TooMany" | .NoPlan => "NoPlan" | .Past => "Past" | .BadRow => "BadRow"
inductive Fld where
  | room | written | yard | kind | state | book | houses | booked | due | borne | own_names | lent_names | gang | is_owed | is_own | all_lent | estate | begin_ | told | begun | served
  | wares | grace | now | dues | kinds | known | told_many | begun_many | leaving | barred | happened | history | time | counts | row
  deriving DecidableEq
def Fld.name : Fld → Str
  | .room => "room" | .written => "written" | .yard => "yard" | .kind => "kind" | .state => "state" | .book => "book" | .houses => "houses" | .booked => "booked" | .due => "due" | .borne => "borne"
  | .own_names => "own_names" | .lent_names => "lent_names" | .gang => "gang" | .is_owed => "is_owed" | .is_own => "is_own" | .all_lent => "all_lent" | .estate => "estate" | .begin_ => "begin" | .told => "told"
  | .begun => "begun" | .served => "served" | .wares => "wares" | .grace => "grace" | .now => "now" | .dues => "dues" | .kinds => "kinds" | .known => "known" | .told_many => "told_many" | .begun_many => "begun_many"
  | .leaving => "leaving" | .barred => "barred" | .happened => "happened" | .history => "history" | .time => "time" | .counts => "counts" | .row => "row"
theorem Fld.inj : ∀ {f g : Fld}, f.name = g.name → f = g := by
  intro f g h
  cases f <;> cases g <;> first | rfl | exact absurd h (by decide +kernel)
def Exn.fs : Exn → List Fld
  | .TooMuch => [.time] | .NoPlan => [.counts] | .BadRow => [.row] | _ => []
abbrev Exn.flds (c : Exn) : List Str := c.fs.map Fld.name
inductive Cls where
  | Book | House | Estate | Share | Taker | Trial | Standing | Hall
  deriving DecidableEq
def Cls.name : Cls → Str
  | .Book => "Book" | .House => "House" | .Estate => "Estate" | .Share => "Share" | .Taker => "Taker" | .Trial => "Trial" | .Standing => "Standing" | .Hall => "Hall"
def Cls.fs : Cls → List Fld
  | .Book => [.room, .written]
  | .House => [.yard, .kind, .state, .book]
  | .Estate => [.houses, .booked]
  | .Share => [.due, .borne, .own_names, .lent_names]
  | .Taker => [.gang, .is_owed, .is_own, .all_lent]
  | .Trial => [.estate, .gang, .begin_]
  | .Standing => [.gang, .told, .begun, .state, .served]
  | .Hall => [.wares, .grace, .now, .estate, .dues, .kinds, .known, .told_many, .begun_many, .leaving, .barred, .happened, .history]
abbrev Cls.flds (c : Cls) : List Str := c.fs.map Fld.name
/-- the class of that name stands at C -/
def clsAt (K : PySem.W.Frag) (x : Str) (C : Addr) : Prop := PySem.W.nsIn K mainGlobals x = some (some (.ref C))
theorem clsAt.inj {K : PySem.W.Frag} {x : Str} {C C' : Addr} (h : clsAt K x C) (k : clsAt K x C') : C = C' := by
  have e := h.symm.trans k
  cases e; rfl
inductive D where
  | non
  | bl (b : Bool)
  | int (i : Int)
  | str (s : Str)
  | lst (xs : List D)
  | tup (xs : List D)
  | fls (xs : List D)
  | exn (c : Exn) (xs : List D)
  | raw (v : V)
inductive Cell where
  | lst (xs : List D)
  | dct (kvs : List (Key × D))
  | lck (o : Obj) (vs : List (Key × V)) (kvs : List (Key × D))
  | ins (c : Cls) (xs : List D)
/-- an exception object of the class cls, its dict at d, that isn't in flight -/
def ExV (a : Addr) (cls : Value) (d : Option Addr) : HO := .ext fun h => ∃ (oe : Obj) (vs : Array Value), h.get? a = some oe ∧ Zc cls d oe ∧ oe.data = .fields vs
theorem exV_ok {P : Program} {w : World} {H : Hp} {h : Heap} {a : Addr} {cls : Value} {d : Option Addr} {oe : Obj} {vs : Array Value} (e : h.get? a = some oe) (z : Zc cls d oe) (hd : oe.data = .fields vs) : ObjOk P w H h a (ExV a cls d) :=
  ⟨⟨oe, vs, e, z, hd⟩, ⟨oe, e⟩, fun _ _ ⟨o, v, q, r⟩ k => ⟨o, v, k o q, r⟩⟩
theorem exV_at {P : Program} {w : World} {H : Hp} {h : Heap} {a : Addr} {cls : Value} {d : Option Addr} (hok : HOk P w H h) (he : H a = some (ExV a cls d)) : ∃ (oe : Obj) (vs : Array Value), h.get? a = some oe ∧ Zc cls d oe ∧ oe.data = .fields vs := by
  have x : ObjOk P w H h a (.ext fun h => ∃ (oe : Obj) (vs : Array Value), h.get? a = some oe ∧ Zc cls d oe ∧ oe.data = .fields vs) := hok a _ he
  exact x.1
abbrev MS := Addr → Option Cell
def mset (m : MS) (p : Addr) (c : Cell) : MS := fun a => if a = p then some c else m a
def mdel (m : MS) (p : Addr) : MS := fun a => if a = p then none else m a
theorem mset_same {m : MS} {p : Addr} {c : Cell} : mset m p c p = some c := by unfold mset; rw [if_pos rfl]
theorem mset_ne {m : MS} {p q : Addr} {c : Cell} (h : q ≠ p) : mset m p c q = m q := by unfold mset; rw [if_neg h]
theorem mset_mset {m : MS} {p : Addr} {c c' : Cell} : mset (mset m p c) p c' = mset m p c' := by
  funext a; unfold mset; split <;> rfl
theorem mset_comm {m : MS} {p q : Addr} {c c' : Cell} (h : p ≠ q) : mset (mset m p c) q c' = mset (mset m q c') p c := by
  funext a
  unfold mset
  by_cases h1 : a = q
  · rw [if_pos h1]
    by_cases h2 : a = p
    · exact absurd (h2.symm.trans h1) h
    · rw [if_neg h2, if_pos h1]
  · rw [if_neg h1]
    by_cases h2 : a = p
    · rw [if_pos h2, if_pos h2]
    · rw [if_neg h2, if_neg h2, if_neg h1]
theorem mset_self {m : MS} {p : Addr} {c : Cell} (h : m p = some c) : mset m p c = m := by
  funext a; unfold mset; split
  · next e => rw [e, h]
  · rfl
def fz (m : MS) (H : Hp) : Hp := fun a => match m a with
  | none => H a
  | some _ => none
theorem fz_of {m : MS} {H : Hp} {a : Addr} {o : HO} (h : m a = none) (e : H a = some o) : fz m H a = some o := by
  unfold fz; rw [h]; exact e
theorem of_fz {m : MS} {H : Hp} {a : Addr} {o : HO} (h : fz m H a = some o) : m a = none ∧ H a = some o := by
  unfold fz at h
  cases e : m a with
  | none => rw [e] at h; exact ⟨rfl, h⟩
  | some c => rw [e] at h; cases h

section
variable {K : PySem.W.Frag} {F F' F'' : Hp}
mutual
inductive Rp (K : PySem.W.Frag) (F : Hp) : V → D → Prop
  | non : Rp K F .non .non
  | bl (b : Bool) : Rp K F (.bl b) (.bl b)
  | int (i : Int) : Rp K F (.int i) (.int i)
  | str (x : Str) : Rp K F (.str x) (.str x)
  | lst {a : Addr} {xs : List V} {ds : List D} : F a = some (.lst xs) → Rps K F xs ds → Rp K F (.ref a) (.lst ds)
  | fls {a : Addr} {xs : List V} {ds : List D} : SqL K F a xs → Rps K F xs ds → Rp K F (.ref a) (.fls ds)
  | tup {a : Addr} {xs : List V} {ds : List D} : SqT K F a xs → Rps K F xs ds → Rp K F (.ref a) (.tup ds)
  | exn0 {a C : Addr} {c : Exn} : c.flds = [] → clsAt K c.name C → F a = some (ExV a (.ref C) none) → Rp K F (.ref a) (.exn c [])
  | exn1 {a C q : Addr} {c : Exn} {vs : List V} {ds : List D} : c.flds.length = vs.length → vs ≠ [] → clsAt K c.name C → F a = some (ExV a (.ref C) (some q)) → F q = some (.xd (c.flds.zip vs)) → Rps K F vs ds → Rp K F (.ref a) (.exn c ds)
  | raw (v : V) : Rp K F v (.raw v)
inductive Rps (K : PySem.W.Frag) (F : Hp) : List V → List D → Prop
  | nil : Rps K F [] []
  | cons {v : V} {vs : List V} {d : D} {ds : List D} : Rp K F v d → Rps K F vs ds → Rps K F (v :: vs) (d :: ds)
end
theorem Same.seqT {H H' : Hp} {a : Addr} {xs : List V} (e : Same H H') (h : SqT K H a xs) : SqT K H' a xs := by
  rcases h with (h | ⟨o, h⟩) | h
  · exact .inl (.inl (e _ _ h))
  · exact .inl (.inr ⟨o, e _ _ h⟩)
  · exact .inr h
mutual
theorem Rp.up (s : Same F F') : ∀ {v : V} (d : D), Rp K F v d → Rp K F' v d
  | _, .non, h => by cases h; exact .non
  | _, .bl b, h => by cases h; exact .bl b
  | _, .int i, h => by cases h; exact .int i
  | _, .str x, h => by cases h; exact .str x
  | _, .lst ds, h => by
    cases h with
    | lst h1 h2 => exact .lst (s _ _ h1) (Rps.up s ds h2)
  | _, .fls ds, h => by
    cases h with
    | fls h1 h2 => exact .fls (s.seq h1) (Rps.up s ds h2)
  | _, .tup ds, h => by
    cases h with
    | tup h1 h2 => exact .tup (Same.seqT s h1) (Rps.up s ds h2)
  | _, .exn c ds, h => by
    cases h with
    | exn0 h1 h2 h3 => exact .exn0 h1 h2 (s _ _ h3)
    | exn1 h1 h0 h2 h3 h4 h5 => exact .exn1 h1 h0 h2 (s _ _ h3) (s _ _ h4) (Rps.up s ds h5)
  | _, .raw v, h => by cases h; exact .raw _
theorem Rps.up (s : Same F F') : ∀ {vs : List V} (ds : List D), Rps K F vs ds → Rps K F' vs ds
  | _, [], h => by cases h; exact .nil
  | _, d :: ds, h => by
    cases h with
    | cons h1 h2 => exact .cons (Rp.up s d h1) (Rps.up s ds h2)
end
theorem Rps.length : ∀ {vs : List V} {ds : List D}, Rps K F vs ds → vs.length = ds.length
  | _, [], h => by cases h; rfl
  | _, d :: ds, h => by
    cases h with
    | cons h1 h2 => rw [List.length_cons, List.length_cons, Rps.length h2]
theorem Rps.get {vs : List V} {ds : List D} {i : Nat} {d : D} (h : Rps K F vs ds) (e : ds[i]? = some d) : ∃ v, vs[i]? = some v ∧ Rp K F v d := by
  induction ds generalizing vs i with
  | nil => simp at e
  | cons d' ds ih =>
    cases h with
    | @cons v' vs' _ _ h1 h2 =>
      cases i with
      | zero =>
        have e' : d' = d := by simpa using e
        rw [← e']
        exact ⟨v', rfl, h1⟩
      | succ i =>
        obtain ⟨v, a, b⟩ := ih (i := i) h2 (by simpa using e)
        exact ⟨v, by simpa using a, b⟩
theorem Rps.get' {vs : List V} {ds : List D} {i : Nat} {v : V} (h : Rps K F vs ds) (e : vs[i]? = some v) : ∃ d, ds[i]? = some d ∧ Rp K F v d := by
  have hl := h.length
  have hi : i < vs.length := (List.getElem?_eq_some_iff.mp e).1
  obtain ⟨w, a, b⟩ := h.get (i := i) (d := ds[i]'(by omega)) (List.getElem?_eq_getElem _)
  rw [e] at a
  cases a
  exact ⟨_, List.getElem?_eq_getElem _, b⟩
theorem Rps.append : ∀ {vs ws : List V} {ds es : List D}, Rps K F vs ds → Rps K F ws es → Rps K F (vs ++ ws) (ds ++ es)
  | _, _, [], _, h, h' => by cases h; exact h'
  | _, _, d :: ds, _, h, h' => by
    cases h with
    | cons h1 h2 => exact .cons h1 (Rps.append h2 h')
theorem Rps.one {v : V} {d : D} (h : Rp K F v d) : Rps K F [v] [d] := .cons h .nil
theorem Rps.set : ∀ {vs : List V} {ds : List D} {v : V} {d : D} (i : Nat), Rp K F v d → Rps K F vs ds → Rps K F (vs.set i v) (ds.set i d)
  | _, [], _, _, _, _, h => by cases h; exact .nil
  | _, e :: ds, _, _, 0, r, h => by
    cases h with
    | cons h1 h2 => exact .cons r h2
  | _, e :: ds, _, _, i + 1, r, h => by
    cases h with
    | cons h1 h2 => exact .cons h1 (Rps.set i r h2)
theorem Rps.take : ∀ {vs : List V} {ds : List D} (n : Nat), Rps K F vs ds → Rps K F (vs.take n) (ds.take n)
  | _, [], n, h => by cases h; simp; exact .nil
  | _, e :: ds, 0, h => by simp; exact .nil
  | _, e :: ds, n + 1, h => by
    cases h with
    | cons h1 h2 => exact .cons h1 (Rps.take n h2)
theorem Rps.drop : ∀ {vs : List V} {ds : List D} (n : Nat), Rps K F vs ds → Rps K F (vs.drop n) (ds.drop n)
  | _, [], n, h => by cases h; simp; exact .nil
  | _, e :: ds, 0, h => h
  | _, e :: ds, n + 1, h => by
    cases h with
    | cons h1 h2 => exact Rps.drop n h2
theorem Rps.reverse {vs : List V} {ds : List D} (h : Rps K F vs ds) : Rps K F vs.reverse ds.reverse := by
  induction vs generalizing ds with
  | nil => cases h; exact .nil
  | cons v vs ih =>
    cases h with
    | cons h1 h2 =>
      rw [List.reverse_cons, List.reverse_cons]
      exact (ih h2).append (.one h1)
theorem Rps.ints {vs : List V} {is : List Int} (h : Rps K F vs (is.map D.int)) : vs = is.map V.int := by
  induction is generalizing vs with
  | nil => cases h; rfl
  | cons i is ih =>
    cases h with
    | cons h1 h2 => cases h1; rw [ih h2]; rfl
theorem Rps.of_ints : ∀ (is : List Int), Rps K F (is.map V.int) (is.map D.int)
  | [] => .nil
  | i :: is => .cons (.int i) (Rps.of_ints is)
theorem Rps.strs {vs : List V} {is : List Str} (h : Rps K F vs (is.map D.str)) : vs = is.map V.str := by
  induction is generalizing vs with
  | nil => cases h; rfl
  | cons i is ih =>
    cases h with
    | cons h1 h2 => cases h1; rw [ih h2]; rfl
theorem Rps.of_strs : ∀ (is : List Str), Rps K F (is.map V.str) (is.map D.str)
  | [] => .nil
  | i :: is => .cons (.str i) (Rps.of_strs is)
theorem Rps.bls {vs : List V} {is : List Bool} (h : Rps K F vs (is.map D.bl)) : vs = is.map V.bl := by
  induction is generalizing vs with
  | nil => cases h; rfl
  | cons i is ih =>
    cases h with
    | cons h1 h2 => cases h1; rw [ih h2]; rfl
theorem Rps.raws {vs ws : List V} (h : Rps K F vs (ws.map D.raw)) : vs = ws := by
  induction ws generalizing vs with
  | nil => cases h; rfl
  | cons i is ih =>
    cases h with
    | cons h1 h2 => cases h1; rw [ih h2]
theorem Rps.of_raws : ∀ (ws : List V), Rps K F ws (ws.map D.raw)
  | [] => .nil
  | i :: is => .cons (.raw i) (Rps.of_raws is)
end

abbrev RKs (K : PySem.W.Frag) (F : Hp) : List (Key × V) → List (Key × D) → Prop := Paired fun (p : Key × V) (q : Key × D) => p.1 = q.1 ∧ Rp K F p.2 q.2
def CellAt (K : PySem.W.Frag) (F H : Hp) (p : Addr) : Cell → Prop
  | .lst ds => ∃ vs, H p = some (.lst vs) ∧ Rps K F vs ds
  | .dct kds => ∃ kvs, H p = some (.dK kvs) ∧ RKs K F kvs kds
  | .lck o vs kds => H p = some (.frz o (.dK vs)) ∧ RKs K F vs kds
  | .ins c ds => ∃ C dx vs, clsAt K c.name C ∧ H p = some (.ins C dx ((c.flds.take ds.length).zip vs)) ∧ ds.length ≤ c.flds.length ∧ Rps K F vs ds
/-- the store m and the data's heap F stand in H -/
structure Std (K : PySem.W.Frag) (m : MS) (H F : Hp) : Prop where
  sub : Same F (fz m H)
  cells : ∀ p c, m p = some c → CellAt K F H p c
/-- from (m, H, F) to (m', H', F') -/
structure Go (K : PySem.W.Frag) (m : MS) (H F : Hp) (m' : MS) (H' F' : Hp) : Prop where
  same : Same (fz m H) (fz m' H')
  grow : Same F F'
  fresh : ∀ a, F' a ≠ none → F a ≠ none ∨ H a = none ∨ m a ≠ none
  kept : ∀ a, H a ≠ none → H' a ≠ none
  std : Std K m' H' F'
abbrev Env1 := List (Option D)
structure StR (K : PySem.W.Frag) (F0 : Hp) (σ : St) (H F : Hp) (ρ : Env1) (m : MS) : Prop where
  std : Std K m H F
  env : ∀ (i : Nat) (d : D), ρ[i]? = some (some d) → ∃ v, σ[i]? = some (some v) ∧ Rp K F v d
  old : Same F0 F
section
variable {K : PySem.W.Frag} {F F' F'' F0 : Hp} {H H' H'' : Hp} {m m' m'' : MS} {σ : St} {ρ : Env1}
theorem Std.free (s : Std K m H F) {p : Addr} (h : H p = none) : m p = none := by
  cases e : m p with
  | none => rfl
  | some c =>
    have q := s.cells p c e
    cases c with
    | lst ds => obtain ⟨vs, z, _⟩ := q; rw [h] at z; cases z
    | dct ds => obtain ⟨vs, z, _⟩ := q; rw [h] at z; cases z
    | lck lo lv ds => obtain ⟨z, _⟩ := q; rw [h] at z; cases z
    | ins C fs => obtain ⟨_, dx, vs, _, z, _⟩ := q; rw [h] at z; cases z
theorem Std.freeF (s : Std K m H F) {p : Addr} (h : H p = none) : F p = none := by
  cases e : F p with
  | none => rfl
  | some o =>
    have q := (of_fz (s.sub p o e)).2
    rw [h] at q; cases q
theorem Std.at (s : Std K m H F) {p : Addr} {o : HO} (h : F p = some o) : H p = some o := (of_fz (s.sub p o h)).2
theorem Std.toH (s : Std K m H F) : Same F H := fun p o h => s.at h
theorem Std.off (s : Std K m H F) {p : Addr} {o : HO} (h : F p = some o) : m p = none := (of_fz (s.sub p o h)).1
theorem Std.offF (s : Std K m H F) {p : Addr} {c : Cell} (h : m p = some c) : F p = none := by
  cases e : F p with
  | none => rfl
  | some o => have := s.off e; rw [h] at this; cases this
theorem paired_imp {α β : Type} {P Q : α → β → Prop} (f : ∀ a b, P a b → Q a b) : ∀ {l : List α} {r : List β}, Paired P l r → Paired Q l r
  | _, _, .nil => .nil
  | _, _, .cons h t => .cons (f _ _ h) (paired_imp f t)
theorem RKs.up (s : Same F F') {l : List (Key × V)} {r : List (Key × D)} (h : RKs K F l r) : RKs K F' l r := paired_imp (fun _ _ q => ⟨q.1, Rp.up s _ q.2⟩) h
theorem CellAt.up {p : Addr} {c : Cell} (s : Same F F') (e : H' p = H p) (h : CellAt K F H p c) : CellAt K F' H' p c := by
  cases c with
  | lst ds => obtain ⟨vs, z, r⟩ := h; exact ⟨vs, e.trans z, Rps.up s _ r⟩
  | dct ds => obtain ⟨vs, z, r⟩ := h; exact ⟨vs, e.trans z, RKs.up s r⟩
  | lck lo lv ds => obtain ⟨z, r⟩ := h; exact ⟨e.trans z, RKs.up s r⟩
  | ins c ds => obtain ⟨C, dx, vs, k, z, l, r⟩ := h; exact ⟨C, dx, vs, k, e.trans z, l, Rps.up s _ r⟩
theorem Go.refl (s : Std K m H F) : Go K m H F m H F := ⟨Same.refl _, Same.refl _, fun _ h => .inl h, fun _ h => h, s⟩
theorem Go.trans (g : Go K m H F m' H' F') (k : Go K m' H' F' m'' H'' F'') : Go K m H F m'' H'' F'' :=
  ⟨g.same.trans k.same, g.grow.trans k.grow, fun a h => by
    rcases k.fresh a h with q | q | q
    · exact g.fresh a q
    · refine .inr (.inl ?_)
      cases e : H a with
      | none => rfl
      | some o => exact absurd q (g.kept a (by rw [e]; exact fun z => nomatch z))
    · refine .inr ?_
      cases e : H a with
      | none => exact .inl rfl
      | some o =>
        refine .inr fun hm => q ?_
        exact (of_fz (g.same a o (fz_of hm e))).1, fun a h => k.kept a (g.kept a h), k.std⟩
theorem StR.go (s : StR K F0 σ H F ρ m) (g : Go K m H F m' H' F') : StR K F0 σ H' F' ρ m' :=
  ⟨g.std, fun i d e => let ⟨v, a, b⟩ := s.env i d e; ⟨v, a, Rp.up g.grow _ b⟩, s.old.trans g.grow⟩
/-- a new object that never changes -/
theorem Go.new (s : Std K m H F) {p : Addr} {o : HO} (h : H p = none) : Go K m H F m (upd H p o) (upd F p o) := by
  have hm := s.free h
  have hF := s.freeF h
  have g : Same F (upd F p o) := fun a u e => by rw [upd_ne (ne_of_none e hF)]; exact e
  refine ⟨fun a u e => ?_, g, fun a ha => ?_, fun a ha => ?_, ⟨fun a u e => ?_, fun q c e => ?_⟩⟩
  · obtain ⟨e1, e2⟩ := of_fz e
    exact fz_of e1 (by rw [upd_ne (ne_of_none e2 h)]; exact e2)
  · by_cases e : a = p
    · subst e; exact .inr (.inl h)
    · rw [upd_ne e] at ha; exact .inl ha
  · by_cases e : a = p
    · subst e; rw [upd_same]; exact fun z => nomatch z
    · rw [upd_ne e]; exact ha
  · by_cases e' : a = p
    · subst e'; rw [upd_same] at e; cases e; exact fz_of hm upd_same
    · rw [upd_ne e'] at e
      obtain ⟨e1, e2⟩ := of_fz (s.sub a u e)
      exact fz_of e1 (by rw [upd_ne e']; exact e2)
  · refine (s.cells q c e).up g ?_
    rw [upd_ne]
    rintro rfl
    rw [hm] at e; cases e
/-- a new object that no data leans on -/
theorem Go.junk (s : Std K m H F) {p : Addr} {o : HO} (h : H p = none) : Go K m H F m (upd H p o) F := by
  have hm := s.free h
  refine ⟨fun a u e => ?_, Same.refl _, fun a ha => .inl ha, fun a ha => ?_, ⟨fun a u e => ?_, fun q c e => ?_⟩⟩
  · obtain ⟨e1, e2⟩ := of_fz e
    exact fz_of e1 (by rw [upd_ne (ne_of_none e2 h)]; exact e2)
  · by_cases e : a = p
    · subst e; rw [upd_same]; exact fun z => nomatch z
    · rw [upd_ne e]; exact ha
  · obtain ⟨e1, e2⟩ := of_fz (s.sub a u e)
    exact fz_of e1 (by rw [upd_ne (ne_of_none e2 h)]; exact e2)
  · refine (s.cells q c e).up (Same.refl _) ?_
    rw [upd_ne]
    rintro rfl
    rw [hm] at e; cases e
theorem CellAt.upd_ {p q : Addr} {o : HO} {c : Cell} (h : CellAt K F H q c) (ne : q ≠ p) : CellAt K F (upd H p o) q c := h.up (Same.refl _) (upd_ne ne)
/-- a new cell -/
theorem Go.cell (s : Std K m H F) {p : Addr} {o : HO} {c : Cell} (h : H p = none) (hc : CellAt K F (upd H p o) p c) : Go K m H F (mset m p c) (upd H p o) F := by
  have hm := s.free h
  have hF := s.freeF h
  refine ⟨fun a u e => ?_, Same.refl _, fun a ha => .inl ha, fun a ha => ?_, ⟨fun a u e => ?_, fun q c' e => ?_⟩⟩
  · obtain ⟨e1, e2⟩ := of_fz e
    have ne := ne_of_none e2 h
    exact fz_of (by rw [mset_ne ne]; exact e1) (by rw [upd_ne ne]; exact e2)
  · by_cases e : a = p
    · subst e; rw [upd_same]; exact fun z => nomatch z
    · rw [upd_ne e]; exact ha
  · obtain ⟨e1, e2⟩ := of_fz (s.sub a u e)
    have ne := ne_of_none e2 h
    exact fz_of (by rw [mset_ne ne]; exact e1) (by rw [upd_ne ne]; exact e2)
  · by_cases ne : q = p
    · subst ne; rw [mset_same] at e; cases e; exact hc
    · rw [mset_ne ne] at e
      exact (s.cells q c' e).upd_ ne
/-- a cell changed -/
theorem Go.put (s : Std K m H F) {p : Addr} {o : HO} {c c' : Cell} (h : m p = some c) (hc : CellAt K F (upd H p o) p c') : Go K m H F (mset m p c') (upd H p o) F := by
  have hF := s.offF h
  refine ⟨fun a u e => ?_, Same.refl _, fun a ha => .inl ha, fun a ha => ?_, ⟨fun a u e => ?_, fun q c' e => ?_⟩⟩
  · obtain ⟨e1, e2⟩ := of_fz e
    have ne : a ≠ p := by rintro rfl; rw [h] at e1; cases e1
    exact fz_of (by rw [mset_ne ne]; exact e1) (by rw [upd_ne ne]; exact e2)
  · by_cases e : a = p
    · subst e; rw [upd_same]; exact fun z => nomatch z
    · rw [upd_ne e]; exact ha
  · obtain ⟨e1, e2⟩ := of_fz (s.sub a u e)
    have ne : a ≠ p := by rintro rfl; rw [h] at e1; cases e1
    exact fz_of (by rw [mset_ne ne]; exact e1) (by rw [upd_ne ne]; exact e2)
  · by_cases ne : q = p
    · subst ne; rw [mset_same] at e; cases e; exact hc
    · rw [mset_ne ne] at e
      exact (s.cells q _ e).upd_ ne
/-- fewer cells are asked for -/
def MLe (m' m : MS) : Prop := ∀ p c, m' p = some c → m p = some c
theorem MLe.refl (m : MS) : MLe m m := fun _ _ h => h
theorem MLe.trans {a b c : MS} (h : MLe a b) (k : MLe b c) : MLe a c := fun p x e => k p x (h p x e)
theorem MLe.fresh {m' m : MS} {p : Addr} {c : Cell} (h : MLe m' m) (hp : m' p = none) : MLe m' (mset m p c) := fun q x e => by
  rw [mset_ne]
  · exact h q x e
  · rintro rfl; rw [hp] at e; cases e
theorem MLe.put {m' m : MS} {p : Addr} {c : Cell} (h : MLe m' m) : MLe (mset m' p c) (mset m p c) := fun q x e => by
  by_cases ne : q = p
  · subst ne; rw [mset_same] at e; rw [mset_same]; exact e
  · rw [mset_ne ne] at e; rw [mset_ne ne]; exact h q x e
theorem Go.less (s : Std K m H F) (h : MLe m' m) : Go K m H F m' H F := by
  have hn : ∀ a, m a = none → m' a = none := fun a e => by
    cases e' : m' a with
    | none => rfl
    | some c => have := h a c e'; rw [e] at this; cases this
  refine ⟨fun a u e => ?_, Same.refl _, fun a ha => .inl ha, fun a ha => ha, ⟨fun a u e => ?_, fun q c' e => s.cells q c' (h q c' e)⟩⟩
  · obtain ⟨e1, e2⟩ := of_fz e
    exact fz_of (hn a e1) e2
  · obtain ⟨e1, e2⟩ := of_fz (s.sub a u e)
    exact fz_of (hn a e1) e2
/-- a cell that becomes data -/
theorem Go.freeze (s : Std K m H F) {p : Addr} {ds : List D} (h : m p = some (.lst ds)) : ∃ F', Go K m H F (mdel m p) H F' ∧ Rp K F' (.ref p) (.lst ds) := by
  obtain ⟨vs, hp, r⟩ := s.cells p _ h
  have hF := s.offF h
  have g : Same F (upd F p (.lst vs)) := fun a u e => by rw [upd_ne (ne_of_none e hF)]; exact e
  have hd : ∀ a, a ≠ p → mdel m p a = m a := fun a ne => by unfold mdel; rw [if_neg ne]
  have hdp : mdel m p p = none := by unfold mdel; rw [if_pos rfl]
  refine ⟨upd F p (.lst vs), ⟨fun a u e => ?_, g, fun a ha => ?_, fun a ha => ha, ⟨fun a u e => ?_, fun q c e => ?_⟩⟩, .lst upd_same (Rps.up g _ r)⟩
  · obtain ⟨e1, e2⟩ := of_fz e
    have ne : a ≠ p := by rintro rfl; rw [h] at e1; cases e1
    exact fz_of ((hd a ne).trans e1) e2
  · by_cases e : a = p
    · subst e; exact .inr (.inr (by rw [h]; exact fun z => nomatch z))
    · rw [upd_ne e] at ha; exact .inl ha
  · by_cases e' : a = p
    · subst e'; rw [upd_same] at e; cases e; exact fz_of hdp hp
    · rw [upd_ne e'] at e
      obtain ⟨e1, e2⟩ := of_fz (s.sub a u e)
      exact fz_of ((hd a e').trans e1) e2
  · by_cases ne : q = p
    · subst ne; rw [hdp] at e; cases e
    · rw [hd q ne] at e
      exact (s.cells q c e).up g rfl
end
end Nu

namespace Nu
open PySem PySem.Spec L2
open PyProof.Rows hiding St
/-! ### the small language, and what it asks -/
abbrev NX := D → MS → Prop
abbrev EX := Exn → List D → Env1 → MS → Prop
abbrev EZ := Exn → List D → MS → Prop
abbrev ASp := List D → MS → NX → EZ → Prop
abbrev BS := List D → MS → NX → Prop
abbrev IS := List D → MS → (List D → (MS → Prop) → MS → Prop) → Prop
def EX0 : EX := fun _ _ _ _ => False
def EZ0 : EZ := fun _ _ _ => False
inductive Cmp where
  | lt | le | gt | ge
def Cmp.b : Cmp → Int → Int → Bool
  | .lt, i, j => decide (i < j)
  | .le, i, j => decide (i ≤ j)
  | .gt, i, j => decide (j < i)
  | .ge, i, j => decide (j ≤ i)
inductive DW where
  | keys | vals | items
def kD : Key → D
  | .inl k => .int k
  | .inr x => .str x
def valD (kds : List (Key × D)) (k : Key) : Option D := (kds.find? fun kv => decide (kv.1 = k)).map (·.2)
def putD (kds : List (Key × D)) (k : Key) (d : D) : List (Key × D) :=
  if kds.any (fun kv => decide (kv.1 = k)) = true then kds.map (fun kv => if kv.1 = k then (kv.1, d) else kv) else kds ++ [(k, d)]
def dropD (kds : List (Key × D)) (k : Key) : List (Key × D) := kds.filter fun kv => !decide (kv.1 = k)
def mergeD (kds more : List (Key × D)) : List (Key × D) := more.foldl (fun acc kv => putD acc kv.1 kv.2) kds
def DW.its : DW → List (Key × D) → List D
  | .keys, kvs => kvs.map fun kv => kD kv.1
  | .vals, kvs => kvs.map fun kv => kv.2
  | .items, kvs => kvs.map fun kv => .tup [kD kv.1, kv.2]
def keyOf : D → Option Key
  | .int i => some (.inl i)
  | .str s => some (.inr s)
  | _ => none
def getF : List Fld → List D → Fld → Option D
  | f :: fs, d :: ds, g => if f = g then some d else getF fs ds g
  | _, _, _ => none
def setF : List Fld → List D → Fld → D → Option (List D)
  | f :: fs, d :: ds, g, v => if f = g then some (v :: ds) else match setF fs ds g v with
    | some ds' => some (d :: ds')
    | none => none
  | f :: _, [], g, v => if f = g then some [v] else none
  | [], _, _, _ => none
mutual
inductive G where
  | name (i : Nat)
  | tup (gs : Gs)
inductive Gs where
  | nil
  | cons (g : G) (gs : Gs)
end
mutual
def G.vars : G → List Nat
  | .name i => [i]
  | .tup gs => gs.vars
def Gs.vars : Gs → List Nat
  | .nil => []
  | .cons g gs => g.vars ++ gs.vars
end
def setR : Env1 → Nat → D → Env1
  | [], _, _ => []
  | _ :: ρ, 0, d => some d :: ρ
  | x :: ρ, n + 1, d => x :: setR ρ n d
def getR : Env1 → Nat → Option D
  | [], _ => none
  | x :: _, 0 => x
  | _ :: ρ, n + 1 => getR ρ n
def clrR : Env1 → Nat → Env1
  | [], _ => []
  | _ :: ρ, 0 => none :: ρ
  | x :: ρ, n + 1 => x :: clrR ρ n
mutual
def bindG : G → D → Env1 → Option Env1
  | .name i, d, ρ => some (setR ρ i d)
  | .tup gs, .tup ds, ρ => bindGs gs ds ρ
  | .tup _, _, _ => none
def bindGs : Gs → List D → Env1 → Option Env1
  | .nil, [], ρ => some ρ
  | .cons g gs, d :: ds, ρ => match bindG g d ρ with
    | some ρ' => bindGs gs ds ρ'
    | none => none
  | _, _, _ => none
end
mutual
inductive T where
  | var (i : Nat)
  | cst (d : D)
  | bop (s : BS) (ts : Ts)
  | mth (k : D → MS → (BS → Prop) → Prop) (o : T) (ts : Ts)
  | call (a : ASp) (ts : Ts)
  | meth (c : Cls) (a : ASp) (o : T) (ts : Ts)
  | make (c : Cls) (a : ASp) (ts : Ts)
  | and2 (a b : T)
  | or2 (a b : T)
  | ite (c a b : T)
  | chain (o1 o2 : Cmp) (a b c : T)
  | lc (g : G) (s : IS) (ts : Ts) (ifs : Ts) (elt : T)
  | lock (t : T)
inductive Ts where
  | nil
  | cons (t : T) (ts : Ts)
end
mutual
inductive S1 where
  | set (i : Nat) (t : T)
  | unp (gs : Gs) (t : T)
  | par (i j : Nat) (a b : T)
  | aug (i : Nat) (s : BS) (t : T)
  | fset (f : Fld) (o t : T)
  | faug (f : Fld) (o t : T)
  | iset (o i t : T)
  | expr (t : T)
  | ret (t : T)
  | retn
  | pass
  | brk
  | cnt
  | raise (c : Exn) (ts : Ts)
  | iff (c : T) (a b : SS)
  | fo (g : G) (s : IS) (ts : Ts) (body : SS)
  | lock (s : S1)
  | whil (c : T) (body : SS)
  | tri (c : Exn) (i : Option Nat) (body hand : SS)
inductive SS where
  | nil
  | cons (s : S1) (ss : SS)
  | cut (s : S1) (ss : SS)
end
def wipeR (ρ : Env1) : List Nat → Env1
  | [] => ρ
  | i :: vs => wipeR (clrR ρ i) vs
/-- another view of the same: lists frozen, cells and slots forgotten -/
def VwS (ρ : Env1) (m : MS) (ρ' : Env1) (m' : MS) : Prop := ∀ K F0 σ H F, StR K F0 σ H F ρ m → ∃ F', Go K m H F m' H F' ∧ StR K F0 σ H F' ρ' m'
def VwD (d : D) (m : MS) (d' : D) (m' : MS) : Prop := ∀ K H F v, Std K m H F → Rp K F v d → ∃ F', Go K m H F m' H F' ∧ Rp K F' v d'
/-- a new list: as data, or as a cell -/
def NewL (ds : List D) (m : MS) (P : NX) : Prop := P (.lst ds) m ∨ ∀ p, m p = none → P (.raw (.ref p)) (mset m p (.lst ds))
mutual
def W : T → Env1 → MS → NX → EX → Prop
  | .var i, ρ, m, P, _ => match getR ρ i with
    | some d => P d m
    | none => False
  | .cst d, _, m, P, _ => P d m
  | .bop s ts, ρ, m, P, Z => Ws ts ρ m (fun ds m1 => s ds m1 P) Z
  | .mth k o ts, ρ, m, P, Z => W o ρ m (fun d m1 => k d m1 fun s => Ws ts ρ m1 (fun ds m2 => s (d :: ds) m2 P) Z) Z
  | .call a ts, ρ, m, P, Z => Ws ts ρ m (fun ds m1 => a ds m1 P fun c es m2 => Z c es ρ m2) Z
  | .meth c a o ts, ρ, m, P, Z => W o ρ m (fun d m1 => ∃ p xs, d = .raw (.ref p) ∧ m1 p = some (.ins c xs) ∧ Ws ts ρ m1 (fun ds m2 => a (d :: ds) m2 P fun c es m3 => Z c es ρ m3) Z) Z
  | .make c a ts, ρ, m, P, Z => Ws ts ρ m (fun ds m1 => ∀ p, m1 p = none → a (.raw (.ref p) :: ds) (mset m1 p (.ins c [])) (fun v m2 => v = .non ∧ P (.raw (.ref p)) m2) fun c es m3 => Z c es ρ m3) Z
  | .and2 a b, ρ, m, P, Z => W a ρ m (fun d m1 => ∃ k, d = .bl k ∧ ((∃ kb, (k = true → W b ρ m1 (fun d2 m2 => d2 = .bl kb ∧ m2 = m1) EX0) ∧ P (.bl (k && kb)) m1) ∨ ((k = true → W b ρ m1 P Z) ∧ (k = false → P (.bl false) m1)))) Z
  | .or2 a b, ρ, m, P, Z => W a ρ m (fun d m1 => ∃ k, d = .bl k ∧ ((∃ kb, (k = false → W b ρ m1 (fun d2 m2 => d2 = .bl kb ∧ m2 = m1) EX0) ∧ P (.bl (k || kb)) m1) ∨ ((k = false → W b ρ m1 P Z) ∧ (k = true → P (.bl true) m1)))) Z
  | .ite c a b, ρ, m, P, Z => W c ρ m (fun d m1 => ∃ k, d = .bl k ∧ ((∃ d3, (k = true → W a ρ m1 (fun d2 m2 => d2 = d3 ∧ m2 = m1) EX0) ∧ (k = false → W b ρ m1 (fun d2 m2 => d2 = d3 ∧ m2 = m1) EX0) ∧ P d3 m1) ∨ ((k = true → W a ρ m1 P Z) ∧ (k = false → W b ρ m1 P Z)))) Z
  | .chain o1 o2 a b c, ρ, m, P, Z => W a ρ m (fun d1 m1 => W b ρ m1 (fun d2 m2 => ∃ i j k, d1 = .int i ∧ d2 = .int j ∧ W c ρ m2 (fun d3 m3 => d3 = .int k ∧ m3 = m2) EX0 ∧ P (.bl (o1.b i j && o2.b j k)) m2) Z) Z
  | .lc g s ts ifs elt, ρ, m, P, Z => Ws ts ρ m (fun ds m1 => s ds m1 fun items GG m2 => items.length ≤ 100000 ∧ ∃ I : Nat → List D → MS → Prop, I 0 [] m2 ∧ (∀ i acc m', i ≤ items.length → I i acc m' → GG m') ∧
      (∀ i d acc m', items[i]? = some d → I i acc m' → match bindG g d (wipeR ρ g.vars) with
        | some ρ' => Wl ifs ρ' m' (fun b m'' => (b = true → W elt ρ' m'' (fun d' m3 => I (i + 1) (acc ++ [d']) m3) EX0) ∧ (b = false → I (i + 1) acc m''))
        | none => False) ∧ ∀ acc m', I items.length acc m' → NewL acc m' P) Z
  | .lock t, ρ, m, P, Z => (∃ p kds, m p = some (.dct kds) ∧ ∀ o vs, W t ρ (mset m p (.lck o vs kds)) (fun d m1 => m1 p = some (.lck o vs kds) ∧ P d (mset m1 p (.dct kds))) EX0) ∨ W t ρ m P Z
def Ws : Ts → Env1 → MS → (List D → MS → Prop) → EX → Prop
  | .nil, _, m, P, _ => P [] m
  | .cons t ts, ρ, m, P, Z => W t ρ m (fun d m1 => Ws ts ρ m1 (fun ds m2 => P (d :: ds) m2) Z) Z
/-- the one test of a comprehension, or none -/
def Wl : Ts → Env1 → MS → (Bool → MS → Prop) → Prop
  | .nil, _, m, P => P true m
  | .cons t _, ρ, m, P => W t ρ m (fun d m1 => ∃ k, d = .bl k ∧ P k m1) EX0
end
structure AEnds where
  nx : Env1 → MS → Prop
  rt : D → MS → Prop
  bk : Env1 → MS → Prop := fun _ _ => False
  ct : Env1 → MS → Prop := fun _ _ => False
  ex : EX := EX0
def Exn.under : Exn → Exn → Bool
  | _, .HallError => true
  | a, b => decide (a = b)
mutual
def W1 : S1 → Env1 → MS → AEnds → Prop
  | .set i t, ρ, m, E => W t ρ m (fun d m' => E.nx (setR ρ i d) m') E.ex
  | .unp gs t, ρ, m, E => W t ρ m (fun d m' => match bindG (.tup gs) d ρ with
    | some ρ' => E.nx ρ' m'
    | none => False) E.ex
  | .par i j a b, ρ, m, E => W a ρ m (fun d1 m1 => W b ρ m1 (fun d2 m2 => E.nx (setR (setR ρ i d1) j d2) m2) E.ex) E.ex
  | .aug i s t, ρ, m, E => match getR ρ i with
    | some d1 => W t ρ m (fun d2 m1 => s [d1, d2] m1 fun d3 m2 => E.nx (setR ρ i d3) m2) E.ex
    | none => False
  | .fset f o t, ρ, m, E => W t ρ m (fun d m1 => W o ρ m1 (fun x m2 => match x with
    | .raw (.ref p) => ∃ c xs, m2 p = some (.ins c xs) ∧ match setF c.fs xs f d with
      | some xs' => E.nx ρ (mset m2 p (.ins c xs'))
      | none => False
    | _ => False) E.ex) E.ex
  | .faug f o t, ρ, m, E => W o ρ m (fun x m1 => match x with
    | .raw (.ref p) => ∃ c xs, m1 p = some (.ins c xs) ∧ match getF c.fs xs f with
      | some (.int i) => W t ρ m1 (fun d m2 => m2 p = some (.ins c xs) ∧ match d with
        | .int j => match setF c.fs xs f (.int (i + j)) with
          | some xs' => E.nx ρ (mset m2 p (.ins c xs'))
          | none => False
        | _ => False) E.ex
      | _ => False
    | _ => False) E.ex
  | .iset o i t, ρ, m, E => W t ρ m (fun d m1 => W o ρ m1 (fun x m2 => match x with
    | .raw (.ref p) => W i ρ m2 (fun y m3 => ∃ c, m3 p = some c ∧ match c with
      | .lst ds => match y with
        | .int k => ∃ n, ixN ds.length k = some n ∧ E.nx ρ (mset m3 p (.lst (ds.set n d)))
        | _ => False
      | .dct kvs => match keyOf y with
        | some k => kvs.length < 100000 ∧ E.nx ρ (mset m3 p (.dct (putD kvs k d)))
        | none => False
      | _ => False) E.ex
    | _ => False) E.ex) E.ex
  | .expr t, ρ, m, E => W t ρ m (fun _ m' => E.nx ρ m') E.ex
  | .ret t, ρ, m, E => W t ρ m E.rt E.ex
  | .retn, _, m, E => E.rt .non m
  | .pass, ρ, m, E => E.nx ρ m
  | .brk, ρ, m, E => E.bk ρ m
  | .cnt, ρ, m, E => E.ct ρ m
  | .raise c ts, ρ, m, E => Ws ts ρ m (fun ds m1 => ∃ d es, ds = d :: es ∧ es.length = c.flds.length ∧ E.ex c es ρ m1) E.ex
  | .iff c a b, ρ, m, E => W c ρ m (fun d m1 => ∃ k, d = .bl k ∧ (k = true → WB a ρ m1 E) ∧ (k = false → WB b ρ m1 E)) E.ex
  | .fo g s ts body, ρ, m, E => Ws ts ρ m (fun ds m1 => s ds m1 fun items GG m2 => ∃ I : Nat → Env1 → MS → Prop, I 0 ρ m2 ∧ (∀ i ρ' m', I i ρ' m' → GG m') ∧
      (∀ i d ρ' m', items[i]? = some d → I i ρ' m' → match bindG g d ρ' with
        | some ρ2 => WB body ρ2 m' { nx := I (i + 1), rt := E.rt, bk := E.nx, ct := I (i + 1), ex := E.ex }
        | none => False) ∧ ∀ ρ' m', I items.length ρ' m' → E.nx ρ' m') E.ex
  | .lock s, ρ, m, E => (∃ p kds, m p = some (.dct kds) ∧ ∀ o vs, W1 s ρ (mset m p (.lck o vs kds)) { nx := fun ρ2 m2 => m2 p = some (.lck o vs kds) ∧ E.nx ρ2 (mset m2 p (.dct kds)), rt := fun d m2 => m2 p = some (.lck o vs kds) ∧ E.rt d (mset m2 p (.dct kds)), bk := fun ρ2 m2 => m2 p = some (.lck o vs kds) ∧ E.bk ρ2 (mset m2 p (.dct kds)), ct := fun ρ2 m2 => m2 p = some (.lck o vs kds) ∧ E.ct ρ2 (mset m2 p (.dct kds)), ex := EX0 }) ∨ W1 s ρ m E
  | .whil c body, ρ, m, E => ∃ (I : Nat → Env1 → MS → Prop) (n : Nat), I n ρ m ∧ ∀ n ρ' m', I n ρ' m' → W c ρ' m' (fun d m1 => ∃ k, d = .bl k ∧ (k = true → WB body ρ' m1 { nx := fun ρ2 m2 => ∃ n', n' < n ∧ I n' ρ2 m2, rt := E.rt, bk := E.nx, ct := fun ρ2 m2 => ∃ n', n' < n ∧ I n' ρ2 m2, ex := E.ex }) ∧ (k = false → E.nx ρ' m1)) E.ex
  | .tri c i body hand, ρ, m, E => WB body ρ m { nx := E.nx, rt := E.rt, bk := E.bk, ct := E.ct, ex := fun x es ρ' m' =>
      (x.under c = true → match i with
        | some i => WB hand (setR ρ' i (.exn x es)) m' { nx := fun ρ2 m2 => E.nx (clrR ρ2 i) m2, rt := E.rt, bk := fun ρ2 m2 => E.bk (clrR ρ2 i) m2, ct := fun ρ2 m2 => E.ct (clrR ρ2 i) m2, ex := EX0 }
        | none => WB hand ρ' m' { nx := E.nx, rt := E.rt, bk := E.bk, ct := E.ct, ex := EX0 }) ∧ (x.under c = false → E.ex x es ρ' m') }
def WB : SS → Env1 → MS → AEnds → Prop
  | .nil, ρ, m, E => E.nx ρ m
  | .cons s ss, ρ, m, E => W1 s ρ m { nx := fun ρ' m' => WB ss ρ' m' E, rt := E.rt, bk := E.bk, ct := E.ct, ex := E.ex }
  | .cut s ss, ρ, m, E => ∃ J : Env1 → MS → Prop, W1 s ρ m { nx := J, rt := E.rt, bk := E.bk, ct := E.ct, ex := E.ex } ∧ ∀ ρ' m', J ρ' m' → ∃ ρ2 m2, VwS ρ' m' ρ2 m2 ∧ WB ss ρ2 m2 E
end
end Nu

namespace Nu
open PySem PySem.Spec L2
open PyProof.Rows hiding St
/-! ### the weakest readings -/
section
variable (X : Cx)
def wE (e : Expr) : TE := fun σ H Q => ∀ (pins : List (Addr × Obj)) (s : Shared), Inv X pins σ H s → wpAny (model X.prog X.w) X.A (eval e X.env) (EP X pins σ Q) X.xe s
def wT (e : Expr) : TT := fun σ H Q => ∀ (pins : List (Addr × Obj)) (s : Shared), Inv X pins σ H s → wpAny (model X.prog X.w) X.A (isTrue e X.env (eval e X.env)) (TP X pins σ Q) X.xe s
def wW (e : Expr) : TT := fun σ H Q => ∀ (wh : Sem Value) (pins : List (Addr × Obj)) (s : Shared), Inv X pins σ H s → wpAny (model X.prog X.w) X.A (isTrue e X.env wh) (TP X pins σ Q) X.xe s
def wA (es : List Expr) : TA := fun σ H Q => ∀ (pos : Pos) (pins : List (Addr × Obj)) (s : Shared), Inv X pins σ H s → wpAny (model X.prog X.w) X.A (spliced (backTo pos (starEach es X.env))) (AP X pins σ Q) X.xe s
def wS (st : Stmt) : TS := fun D σ H => ∀ (pins : List (Addr × Obj)) (s : Shared), Inv X pins σ H s → wpAny (model X.prog X.w) X.A (exec st X.env) (SP X pins D) X.xe s
def wSs (st : List Stmt) : TS := fun D σ H => ∀ (pins : List (Addr × Obj)) (s : Shared), Inv X pins σ H s → wpAny (model X.prog X.w) X.A (execs st X.env) (SP X pins D) X.xe s
def wG (tg : Expr) : TG := fun v σ H Q => ∀ (pins : List (Addr × Obj)) (s : Shared) (u : Value), Inv X pins σ H s → RelV v u → wpAny (model X.prog X.w) X.A (assign tg X.env u) (fun _ s' => ∃ σ' H', Inv X pins σ' H' s' ∧ Q σ' H') X.xe s
def wI (tg iter : Expr) : TI := fun σ H R => ∀ (pins : List (Addr × Obj)) (s : Shared), Inv X pins σ H s →
    wpAny (model X.prog X.w) X.A (eval iter X.env) (fun v s1 => wpAny (model X.prog X.w) X.A (pyIter v) (PIE X pins σ tg R) X.xe s1) X.xe s
end
section
variable {X : Cx} {e : Expr} {es : List Expr} {st : Stmt} {sts : List Stmt} {tg iter : Expr}
theorem pe_w : PE X e (wE X e) := ⟨fun pins s _ _ _ I h => h pins s I⟩
theorem pt_w : PT X e (wT X e) := ⟨fun pins s _ _ _ I h => h pins s I⟩
theorem pw_w : PW X e (wW X e) := ⟨fun wh pins s _ _ _ I h => h wh pins s I⟩
theorem pa_w : PA X es (wA X es) := ⟨fun pos pins s _ _ _ I h => h pos pins s I⟩
theorem ps_w : PS X st (wS X st) := ⟨fun pins s _ _ _ I h => h pins s I⟩
theorem pss_w : PSs X sts (wSs X sts) := ⟨fun pins s _ _ _ I h => h pins s I⟩
theorem pg_w : PG X tg (wG X tg) := ⟨fun pins s _ _ _ u _ I r h => h pins s u I r⟩
theorem pi_w : PI X tg iter (wI X tg iter) := ⟨fun pins s _ _ _ I h => h pins s I⟩
theorem wE_of {t : TE} {σ : L2.St} {H : Hp} {Q : VK} (h : PE X e t) (q : t σ H Q) : wE X e σ H Q := fun pins s I => h.run pins s σ H Q I q
theorem wT_of {t : TT} {σ : L2.St} {H : Hp} {Q : Bool → Hp → Prop} (h : PT X e t) (q : t σ H Q) : wT X e σ H Q := fun pins s I => h.run pins s σ H Q I q
theorem wW_of {t : TT} {σ : L2.St} {H : Hp} {Q : Bool → Hp → Prop} (h : PW X e t) (q : t σ H Q) : wW X e σ H Q := fun wh pins s I => h.run wh pins s σ H Q I q
theorem wA_of {t : TA} {σ : L2.St} {H : Hp} {Q : List V → Hp → Prop} (h : PA X es t) (q : t σ H Q) : wA X es σ H Q := fun pos pins s I => h.run pos pins s σ H Q I q
theorem wS_of {t : TS} {σ : L2.St} {H : Hp} {D : Ends} (h : PS X st t) (q : t D σ H) : wS X st D σ H := fun pins s I => h.run pins s σ H D I q
theorem wSs_of {t : TS} {σ : L2.St} {H : Hp} {D : Ends} (h : PSs X sts t) (q : t D σ H) : wSs X sts D σ H := fun pins s I => h.run pins s σ H D I q
theorem wG_of {t : TG} {v : V} {σ : L2.St} {H : Hp} {Q : L2.St → Hp → Prop} (h : PG X tg t) (q : t v σ H Q) : wG X tg v σ H Q := fun pins s u I r => h.run pins s σ H v u Q I r q
theorem wI_of {t : TI} {σ : L2.St} {H : Hp} {R : It → Hp → Prop} (h : PI X tg iter t) (q : t σ H R) : wI X tg iter σ H R := fun pins s I => h.run pins s σ H R I q
end
/-! ### exceptions -/
def ExR (K : PySem.W.Frag) (F : Hp) (c : Exn) (ds : List D) (cls : Value) (dd : Option Addr) : Prop :=
  ∃ C, clsAt K c.name C ∧ cls = .ref C ∧ ((c.flds = [] ∧ dd = none ∧ ds = []) ∨ ∃ q vs, dd = some q ∧ c.flds.length = vs.length ∧ vs ≠ [] ∧ F q = some (.xd (c.flds.zip vs)) ∧ Rps K F vs ds)
theorem ExR.up {K : PySem.W.Frag} {F F' : Hp} {c : Exn} {ds : List D} {cls : Value} {dd : Option Addr} (s : Same F F') (h : ExR K F c ds cls dd) : ExR K F' c ds cls dd := by
  obtain ⟨C, h1, h2, h3⟩ := h
  refine ⟨C, h1, h2, ?_⟩
  rcases h3 with h3 | ⟨q, vs, a, b, c, d, e⟩
  · exact .inl h3
  · exact .inr ⟨q, vs, a, b, c, s _ _ d, Rps.up s _ e⟩
def ExK (X : Cx) (F0 : Hp) (m : MS) (H F : Hp) (Z : EX) (V : WX) : Prop := ∀ σ' H' F' ρ' m' c ds cls dd, Z c ds ρ' m' → Go X.K m H F m' H' F' → StR X.K F0 σ' H' F' ρ' m' → ExR X.K F' c ds cls dd → V cls dd σ' H'
section
variable {X : Cx} {F0 H F H' F' : Hp} {m m' : MS} {Z : EX} {V : WX}
theorem ExK.go (k : ExK X F0 m H F Z V) (g : Go X.K m H F m' H' F') : ExK X F0 m' H' F' Z V := fun σ' H1 F1 ρ' m1 c ds cls dd z g1 s r => k σ' H1 F1 ρ' m1 c ds cls dd z (g.trans g1) s r
theorem exk0 : ExK X F0 m H F EX0 V := fun _ _ _ _ _ _ _ _ _ z => z.elim
end
abbrev V0 : WX := fun _ _ _ _ => False
/-! ### the judgements -/
section
variable (X : Cx)
structure XE (e : Expr) (ρ : Env1) (m : MS) (P : NX) (Z : EX) : Prop where
  run : ∀ F0 σ H F, StR X.K F0 σ H F ρ m → ∀ (Q : VK) (V : WX), Takes X V → (∀ v H' F' d m', P d m' → Go X.K m H F m' H' F' → Rp X.K F' v d → Q v H') → ExK X F0 m H F Z V → wE X e σ H Q
structure XT (e : Expr) (ρ : Env1) (m : MS) (P : Bool → MS → Prop) (Z : EX) : Prop where
  run : ∀ F0 σ H F, StR X.K F0 σ H F ρ m → ∀ (Q : Bool → Hp → Prop) (V : WX), Takes X V → (∀ k H' F' m', P k m' → Go X.K m H F m' H' F' → Q k H') → ExK X F0 m H F Z V → wT X e σ H Q
structure XW (e : Expr) (ρ : Env1) (m : MS) (P : Bool → MS → Prop) (Z : EX) : Prop where
  run : ∀ F0 σ H F, StR X.K F0 σ H F ρ m → ∀ (Q : Bool → Hp → Prop) (V : WX), Takes X V → (∀ k H' F' m', P k m' → Go X.K m H F m' H' F' → Q k H') → ExK X F0 m H F Z V → wW X e σ H Q
structure XA (es : List Expr) (ρ : Env1) (m : MS) (P : List D → MS → Prop) (Z : EX) : Prop where
  run : ∀ F0 σ H F, StR X.K F0 σ H F ρ m → ∀ (Q : List V → Hp → Prop) (V : WX), Takes X V → (∀ vs H' F' ds m', P ds m' → Go X.K m H F m' H' F' → Rps X.K F' vs ds → Q vs H') → ExK X F0 m H F Z V → wA X es σ H Q
structure Cont (F0 : Hp) (m : MS) (H F : Hp) (A : AEnds) (E : Ends) (V : WX) : Prop where
  nx : ∀ σ' H' F' ρ' m', A.nx ρ' m' → Go X.K m H F m' H' F' → StR X.K F0 σ' H' F' ρ' m' → E.nx σ' H'
  rt : ∀ v H' F' d m', A.rt d m' → Go X.K m H F m' H' F' → Rp X.K F' v d → E.rt v H'
  bk : ∀ σ' H' F' ρ' m', A.bk ρ' m' → Go X.K m H F m' H' F' → StR X.K F0 σ' H' F' ρ' m' → E.bk σ' H'
  ct : ∀ σ' H' F' ρ' m', A.ct ρ' m' → Go X.K m H F m' H' F' → StR X.K F0 σ' H' F' ρ' m' → E.ct σ' H'
  ex : ExK X F0 m H F A.ex V
structure X1 (st : Stmt) (ρ : Env1) (m : MS) (A : AEnds) : Prop where
  run : ∀ F0 σ H F, StR X.K F0 σ H F ρ m → ∀ (E : Ends) (V : WX), Takes X V → Cont X F0 m H F A E V → wS X st E σ H
structure XS (sts : List Stmt) (ρ : Env1) (m : MS) (A : AEnds) : Prop where
  run : ∀ F0 σ H F, StR X.K F0 σ H F ρ m → ∀ (E : Ends) (V : WX), Takes X V → Cont X F0 m H F A E V → wSs X sts E σ H
structure XG (tg : Expr) (g : G) : Prop where
  run : ∀ F0 σ H F m v d ρ ρ', bindG g d ρ = some ρ' → StR X.K F0 σ H F ρ m → Rp X.K F v d → ∀ Q : L2.St → Hp → Prop,
  (∀ σ', StR X.K F0 σ' H F ρ' m → σ'.length = σ.length → (∀ j : Nat, j ∉ g.vars → σ'[j]? = σ[j]?) → Q σ' H) → wG X tg v σ H Q
structure XGs (tgs : List Expr) (gs : Gs) : Prop where
  run : ∀ F0 σ H F m ws ds ρ ρ', bindGs gs ds ρ = some ρ' → StR X.K F0 σ H F ρ m → Rps X.K F ws ds → ∀ Q : L2.St → Hp → Prop,
  (∀ σ', StR X.K F0 σ' H F ρ' m → σ'.length = σ.length → (∀ j : Nat, j ∉ gs.vars → σ'[j]? = σ[j]?) → Q σ' H) →
  ∀ (pins : List (Addr × Obj)) (s : Shared) (us : List Value), Inv X pins σ H s → Vals ws us → wpAny (model X.prog X.w) X.A (assignInOrder ((assignEach tgs X.env).map (·.2)) us) (fun _ s' => ∃ σ' H', Inv X pins σ' H' s' ∧ Q σ' H') X.xe s
structure SE (e : Expr) (t : T) : Prop where
  go : ∀ ρ m P Z, W t ρ m P Z → XE X e ρ m P Z
structure ST (e : Expr) (t : T) : Prop where
  go : ∀ ρ m (P' : NX) (P : Bool → MS → Prop) Z, W t ρ m P' Z → (∀ d m1, P' d m1 → ∃ k, d = .bl k ∧ P k m1) → XT X e ρ m P Z
structure SWh (e : Expr) (t : T) : Prop where
  go : ∀ ρ m (P' : NX) (P : Bool → MS → Prop) Z, W t ρ m P' Z → (∀ d m1, P' d m1 → ∃ k, d = .bl k ∧ P k m1) → XW X e ρ m P Z
structure SA (es : List Expr) (ts : Ts) : Prop where
  go2 : ∀ ρ m P Z, Ws ts ρ m P Z → XA X es ρ m (fun ds m' => ds.length = es.length ∧ P ds m') Z
structure SS1 (st : Stmt) (t : S1) : Prop where
  go : ∀ ρ m A, W1 t ρ m A → X1 X st ρ m A
structure SSs (sts : List Stmt) (t : SS) : Prop where
  go : ∀ ρ m A, WB t ρ m A → XS X sts ρ m A
end
/-- what a loop walks: items, while the data's heap only grows and the store keeps G -/
structure WalkD (K : PySem.W.Frag) (F1 : Hp) (J : It) (items : List D) (G : MS → Prop) : Prop where
  goes : ∀ i H F m, i < items.length → Same F1 F → Std K m H F → G m → J.go i H
  stops : ∀ H F m, Same F1 F → Std K m H F → G m → J.stop items.length H
  yields : ∀ i H F m x H' d, items[i]? = some d → Same F1 F → Std K m H F → G m → J.yld i H x H' → ∃ F', Go K m H F m H' F' ∧ Rp K F' x d
/-- what is walked -/
structure XI (X : Cx) (tg iter : Expr) (ρ : Env1) (m : MS) (P : List D → (MS → Prop) → MS → Prop) (Z : EX) : Prop where
  run : ∀ F0 σ H F, StR X.K F0 σ H F ρ m → ∀ (R : It → Hp → Prop) (V : WX), Takes X V →
  (∀ J H' F' items GG m', P items GG m' → Go X.K m H F m' H' F' → WalkD X.K F' J items GG → R J H') → ExK X F0 m H F Z V → wI X tg iter σ H R
structure SI (X : Cx) (tg iter : Expr) (s : IS) (ts : Ts) : Prop where
  go : ∀ ρ m P Z, Ws ts ρ m (fun ds m1 => s ds m1 P) Z → XI X tg iter ρ m P Z
theorem getR_some : ∀ {ρ : Env1} {i : Nat} {d : D}, getR ρ i = some d → ρ[i]? = some (some d)
  | [], _, _, h => by cases h
  | x :: ρ, 0, d, h => by
    have h' : x = some d := h
    rw [h']; rfl
  | x :: ρ, n + 1, d, h => by
    have := getR_some (ρ := ρ) (i := n) (d := d) h
    simpa using this
theorem setR_eq : ∀ (ρ : Env1) (i : Nat) (d : D), setR ρ i d = ρ.set i (some d)
  | [], _, _ => rfl
  | _ :: ρ, 0, d => rfl
  | x :: ρ, n + 1, d => by
    show x :: setR ρ n d = x :: ρ.set n (some d)
    rw [setR_eq]
theorem clrR_eq : ∀ (ρ : Env1) (i : Nat), clrR ρ i = ρ.set i none
  | [], _ => rfl
  | _ :: ρ, 0 => rfl
  | x :: ρ, n + 1 => by
    show x :: clrR ρ n = x :: ρ.set n none
    rw [clrR_eq]
section
variable {X : Cx} {F0 : Hp} {e a b c : Expr} {es : List Expr} {stm : Stmt} {sts : List Stmt} {t ta tb tc : T} {ts : Ts} {pos pos' : Pos} {A : AEnds}
theorem Cont.go {m m' : MS} {H F H' F' : Hp} {E : Ends} {V : WX} (k : Cont X F0 m H F A E V) (g : Go X.K m H F m' H' F') : Cont X F0 m' H' F' A E V :=
  ⟨fun σ' H1 F1 ρ' m1 p g1 => k.nx σ' H1 F1 ρ' m1 p (g.trans g1), fun v H1 F1 d m1 p g1 => k.rt v H1 F1 d m1 p (g.trans g1), fun σ' H1 F1 ρ' m1 p g1 => k.bk σ' H1 F1 ρ' m1 p (g.trans g1), fun σ' H1 F1 ρ' m1 p g1 => k.ct σ' H1 F1 ρ' m1 p (g.trans g1), k.ex.go g⟩
/-! ### names, constants -/
theorem se_var (i : Nat) {x : Str} (hN : X.N[i]? = some x := by rfl) (hv : Vis X.env.scope x := by first | exact Or.inl rfl | exact Or.inr (Or.inl rfl) | exact Or.inr (Or.inr rfl)) (h1 : (x == ("__debug__" : Str)) = false := by decide)
    (h2 : (x == ("__classdict__" : Str)) = false := by decide) : SE X (.Name x pos) (.var i) := ⟨fun ρ m P Z h => ⟨fun F0 σ H F S Q V tk q kx => by
  have h' : match getR ρ i with | some d => P d m | none => False := h
  cases e : getR ρ i with
  | none => rw [e] at h'; exact h'.elim
  | some d =>
    rw [e] at h'
    obtain ⟨v, e1, r⟩ := S.env i d (getR_some e)
    exact wE_of (pe_var hN hv h1 h2) ⟨v, e1, q v H F d m h' (Go.refl S.std) r⟩⟩⟩
theorem se_c {v : V} {d : D} (h : PE X e (tC v)) (r : ∀ F, Rp X.K F v d) : SE X e (.cst d) := ⟨fun ρ m P Z p => ⟨fun F0 σ H F S Q V tk q kx => wE_of h (q v H F d m p (Go.refl S.std) (r F))⟩⟩
theorem se_int {i : Int} {j} : SE X (.Constant (.int i) j pos) (.cst (.int i)) := se_c pe_int fun _ => .int i
theorem se_bl {i : Bool} {j} : SE X (.Constant (.bool i) j pos) (.cst (.bl i)) := se_c pe_bl fun _ => .bl i
theorem se_str {i : Str} {j} : SE X (.Constant (.str i) j pos) (.cst (.str i)) := se_c pe_str fun _ => .str i
theorem se_non {j} : SE X (.Constant .none j pos) (.cst .non) := se_c pe_non fun _ => .non
theorem se_gint {x : Str} {i : Int} (hm : ∃ t, X.mg x = some (.int i t)) (hg : Gl X x := by rfl) (h1 : (x == ("__debug__" : Str)) = false := by decide) : SE X (.Name x pos) (.cst (.int i)) := let ⟨t, hm⟩ := hm; se_c (pe_glob (v := .int i) hg hm ⟨t, rfl⟩ h1) fun _ => .int i
theorem se_gstr {x : Str} {i : Str} (hm : ∃ t, X.mg x = some (.str i t)) (hg : Gl X x := by rfl) (h1 : (x == ("__debug__" : Str)) = false := by decide) : SE X (.Name x pos) (.cst (.str i)) := let ⟨t, hm⟩ := hm; se_c (pe_glob (v := .str i) hg hm ⟨t, rfl⟩ h1) fun _ => .str i
/-! ### arguments -/
theorem SA.go (h : SA X es ts) : ∀ ρ m P Z, Ws ts ρ m P Z → XA X es ρ m P Z := fun ρ m P Z p => ⟨fun F0 σ H F S Q V tk q kx => (h.go2 ρ m P Z p).run F0 σ H F S Q V tk (fun vs H1 F1 ds m1 p1 g1 r1 => q vs H1 F1 ds m1 p1.2 g1 r1) kx⟩
theorem sa_nil : SA X [] .nil := ⟨fun ρ m P Z p => ⟨fun F0 σ H F S Q V tk q kx => wA_of pa_nil (q [] H F [] m ⟨rfl, p⟩ (Go.refl S.std) .nil)⟩⟩
theorem sa_cons (h : SE X e t) (k : SA X es ts) (hs : starEach (e :: es) X.env = (false, eval e X.env) :: starEach es X.env := by rfl) : SA X (e :: es) (.cons t ts) := ⟨fun ρ m P Z p => ⟨fun F0 σ H F S Q V tk q kx => by
  refine wA_of (pa_cons pe_w pa_w hs) ?_
  refine (h.go ρ m _ Z p).run F0 σ H F S _ V tk (fun v H1 F1 d m1 p1 g1 r1 => ?_) kx
  refine (k.go2 ρ m1 _ Z p1).run F0 σ H1 F1 (S.go g1) _ V tk (fun vs H2 F2 ds m2 p2 g2 r2 => ?_) (kx.go g1)
  exact q (v :: vs) H2 F2 (d :: ds) m2 ⟨by rw [List.length_cons, List.length_cons, p2.1], p2.2⟩ (g1.trans g2) (.cons (r1.up g2.grow _) r2)⟩⟩
/-! ### operators -/
def Bok2 (K : PySem.W.Frag) (r : R2) (s : BS) : Prop := ∀ d1 d2 m P, s [d1, d2] m P → ∀ x y H F, Std K m H F → Rp K F x d1 → Rp K F y d2 → ∀ Q : VK, (∀ v H' F' d m', P d m' → Go K m H F m' H' F' → Rp K F' v d → Q v H') → r x y H Q
def BokN (K : PySem.W.Frag) (r : List V → Hp → VK → Prop) (s : BS) : Prop := ∀ ds m P, s ds m P → ∀ vs H F, Std K m H F → Rps K F vs ds → ∀ Q : VK, (∀ v H' F' d m', P d m' → Go K m H F m' H' F' → Rp K F' v d → Q v H') → r vs H Q
theorem se_bin {op : Operator} {r : R2} {s : BS} (ho : OpR X (binaryOp op) r) (hs : Bok2 X.K r s) (ha : SE X a ta) (hb : SE X b tb) : SE X (.BinOp a op b pos) (.bop s (.cons ta (.cons tb .nil))) := ⟨fun ρ m P Z p => ⟨fun F0 σ H F S Q V tk q kx => by
  refine wE_of (pe_op ho pe_w pe_w) ?_
  refine (ha.go ρ m _ Z p).run F0 σ H F S _ V tk (fun x H1 F1 d1 m1 p1 g1 r1 => ?_) kx
  refine (hb.go ρ m1 _ Z p1).run F0 σ H1 F1 (S.go g1) _ V tk (fun y H2 F2 d2 m2 p2 g2 r2 => ?_) (kx.go g1)
  exact hs d1 d2 m2 P p2 x y H2 F2 g2.std (r1.up g2.grow _) r2 Q fun v H3 F3 d3 m3 p3 g3 r3 => q v H3 F3 d3 m3 p3 ((g1.trans g2).trans g3) r3⟩⟩
theorem se_cmp {op : CmpOp} {r : R2} {s : BS} (ho : OpR X (compareOp op) r) (hs : Bok2 X.K r s) (ha : SE X a ta) (hb : SE X b tb) (hm : behindInMarks op b = false) : SE X (.Compare a [op] [b] pos) (.bop s (.cons ta (.cons tb .nil))) := ⟨fun ρ m P Z p => ⟨fun F0 σ H F S Q V tk q kx => by
  refine wE_of (pe_cmpR ho pe_w pe_w hm) ?_
  refine (ha.go ρ m _ Z p).run F0 σ H F S _ V tk (fun x H1 F1 d1 m1 p1 g1 r1 => ?_) kx
  refine (hb.go ρ m1 _ Z p1).run F0 σ H1 F1 (S.go g1) _ V tk (fun y H2 F2 d2 m2 p2 g2 r2 => ?_) (kx.go g1)
  exact hs d1 d2 m2 P p2 x y H2 F2 g2.std (r1.up g2.grow _) r2 Q fun v H3 F3 d3 m3 p3 g3 r3 => q v H3 F3 d3 m3 p3 ((g1.trans g2).trans g3) r3⟩⟩
theorem st_cmp {op : CmpOp} {r : R2} {s : BS} (ho : OpR X (compareOp op) r) (hs : Bok2 X.K r s) (ha : SE X a ta) (hb : SE X b tb) (hm : behindInMarks op b = false) : ST X (.Compare a [op] [b] pos) (.bop s (.cons ta (.cons tb .nil))) := ⟨fun ρ m P' P Z p pk => ⟨fun F0 σ H F S Q V tk q kx => by
  refine wT_of (pt_cmpR ho pe_w pe_w hm) ?_
  refine (ha.go ρ m _ Z p).run F0 σ H F S _ V tk (fun x H1 F1 d1 m1 p1 g1 r1 => ?_) kx
  refine (hb.go ρ m1 _ Z p1).run F0 σ H1 F1 (S.go g1) _ V tk (fun y H2 F2 d2 m2 p2 g2 r2 => ?_) (kx.go g1)
  refine hs d1 d2 m2 _ p2 x y H2 F2 g2.std (r1.up g2.grow _) r2 _ fun v H3 F3 d3 m3 p3 g3 r3 => ?_
  obtain ⟨k, rfl, p4⟩ := pk _ _ p3
  cases r3
  exact ⟨k, rfl, q k H3 F3 m3 p4 ((g1.trans g2).trans g3)⟩⟩⟩
theorem st_val (h : SE X e t) (he : ∀ whole, isTrue e X.env whole = (do let v ← whole; standAt e.pos; holding [v] (truthy v)) := by intro _; rfl) : ST X e t := ⟨fun ρ m P' P Z p pk => ⟨fun F0 σ H F S Q V tk q kx => by
  refine wT_of (pt_val pe_w he) ?_
  refine (h.go ρ m _ Z p).run F0 σ H F S _ V tk (fun v H1 F1 d m1 p1 g1 r1 => ?_) kx
  obtain ⟨k, rfl, p2⟩ := pk _ _ p1
  cases r1
  exact ⟨k, rfl, q k H1 F1 m1 p2 g1⟩⟩⟩
/-- not -/
def sNot : BS := fun ds m P => match ds with
  | [.bl k] => P (.bl (!k)) m
  | _ => False
theorem sNot_of {d : D} {m : MS} {P : NX} (h : sNot [d] m P) : ∃ k, d = .bl k ∧ P (.bl (!k)) m := by
  cases d with
  | bl k => exact ⟨k, rfl, h⟩
  | _ => exact h.elim
theorem se_not (h : SE X a t) : SE X (.UnaryOp .Not a pos) (.bop sNot (.cons t .nil)) := ⟨fun ρ m P Z p => ⟨fun F0 σ H F S Q V tk q kx => by
  refine wE_of (pe_not pe_w) ?_
  refine (h.go ρ m _ Z p).run F0 σ H F S _ V tk (fun v H1 F1 d m1 p1 g1 r1 => ?_) kx
  obtain ⟨k, rfl, p1⟩ := sNot_of p1
  cases r1
  exact ⟨k, rfl, q _ H1 F1 _ m1 p1 g1 (.bl _)⟩⟩⟩
theorem st_not (h : ST X a t) : ST X (.UnaryOp .Not a pos) (.bop sNot (.cons t .nil)) := ⟨fun ρ m P' P Z p pk => ⟨fun F0 σ H F S Q V tk q kx => by
  refine wT_of (pt_not pt_w) ?_
  refine (h.go ρ m _ (fun k m1 => P (!k) m1) Z p (fun d m1 z => ?_)).run F0 σ H F S _ V tk (fun k H1 F1 m1 p1 g1 => q _ H1 F1 m1 p1 g1) kx
  obtain ⟨k, rfl, z⟩ := sNot_of z
  obtain ⟨k', e, z⟩ := pk _ _ z
  cases e
  exact ⟨k, rfl, z⟩⟩⟩
/-! ### and, or, if else, chains -/
variable {rest : List Expr}
theorem se_one {op} (h : SE X a t) : SE X (.BoolOp op [a] pos) t := ⟨fun ρ m P Z p => ⟨fun F0 σ H F S Q V tk q kx => wE_of (pe_one pe_w) ((h.go ρ m P Z p).run F0 σ H F S Q V tk q kx)⟩⟩
theorem se_and (ha : SE X a ta) (hb : SE X (.BoolOp .And (b :: rest) pos) tb) : SE X (.BoolOp .And (a :: b :: rest) pos) (.and2 ta tb) := ⟨fun ρ m P Z p => ⟨fun F0 σ H F S Q V tk q kx => by
  refine wE_of (pe_and pe_w pe_w) ?_
  refine (ha.go ρ m _ Z p).run F0 σ H F S _ V tk (fun v H1 F1 d m1 p1 g1 r1 => ?_) kx
  obtain ⟨k, rfl, p1⟩ := p1
  cases r1
  refine ⟨k, rfl, ?_⟩
  rcases p1 with ⟨kb, p1, p2⟩ | ⟨p1, p2⟩
  · cases k with
    | true =>
      refine iteT ((hb.go ρ m1 _ EX0 (p1 rfl)).run F0 σ H1 F1 (S.go g1) _ V tk (fun v2 H2 F2 d2 m2 p3 g2 r2 => ?_) exk0)
      obtain ⟨rfl, rfl⟩ := p3
      exact q v2 H2 F2 _ _ p2 (g1.trans g2) r2
    | false => exact iteF (q _ H1 F1 _ m1 p2 g1 (.bl _))
  · cases k with
    | true => exact iteT ((hb.go ρ m1 _ Z (p1 rfl)).run F0 σ H1 F1 (S.go g1) _ V tk (fun v2 H2 F2 d2 m2 p3 g2 r2 => q v2 H2 F2 d2 m2 p3 (g1.trans g2) r2) (kx.go g1))
    | false => exact iteF (q _ H1 F1 _ m1 (p2 rfl) g1 (.bl _))⟩⟩
theorem se_or (ha : SE X a ta) (hb : SE X (.BoolOp .Or (b :: rest) pos) tb) : SE X (.BoolOp .Or (a :: b :: rest) pos) (.or2 ta tb) := ⟨fun ρ m P Z p => ⟨fun F0 σ H F S Q V tk q kx => by
  refine wE_of (pe_or pe_w pe_w) ?_
  refine (ha.go ρ m _ Z p).run F0 σ H F S _ V tk (fun v H1 F1 d m1 p1 g1 r1 => ?_) kx
  obtain ⟨k, rfl, p1⟩ := p1
  cases r1
  refine ⟨k, rfl, ?_⟩
  rcases p1 with ⟨kb, p1, p2⟩ | ⟨p1, p2⟩
  · cases k with
    | false =>
      refine iteF ((hb.go ρ m1 _ EX0 (p1 rfl)).run F0 σ H1 F1 (S.go g1) _ V tk (fun v2 H2 F2 d2 m2 p3 g2 r2 => ?_) exk0)
      obtain ⟨rfl, rfl⟩ := p3
      exact q v2 H2 F2 _ _ p2 (g1.trans g2) r2
    | true => exact iteT (q _ H1 F1 _ m1 p2 g1 (.bl _))
  · cases k with
    | false => exact iteF ((hb.go ρ m1 _ Z (p1 rfl)).run F0 σ H1 F1 (S.go g1) _ V tk (fun v2 H2 F2 d2 m2 p3 g2 r2 => q v2 H2 F2 d2 m2 p3 (g1.trans g2) r2) (kx.go g1))
    | true => exact iteT (q _ H1 F1 _ m1 (p2 rfl) g1 (.bl _))⟩⟩
theorem SWh.st (h : SWh X e t) : ST X e t := ⟨fun ρ m P' P Z p pk => ⟨fun F0 σ H F S Q V tk q kx pins s I => (h.go ρ m P' P Z p pk).run F0 σ H F S Q V tk q kx _ pins s I⟩⟩
theorem sw_and1 (h : ST X a t) : SWh X (.BoolOp .And [a] pos) t := ⟨fun ρ m P' P Z p pk => ⟨fun F0 σ H F S Q V tk q kx => wW_of (pw_and1 pt_w) ((h.go ρ m P' P Z p pk).run F0 σ H F S Q V tk q kx)⟩⟩
theorem sw_or1 (h : ST X a t) : SWh X (.BoolOp .Or [a] pos) t := ⟨fun ρ m P' P Z p pk => ⟨fun F0 σ H F S Q V tk q kx => wW_of (pw_or1 pt_w) ((h.go ρ m P' P Z p pk).run F0 σ H F S Q V tk q kx)⟩⟩
theorem sw_and (ha : ST X a ta) (hb : SWh X (.BoolOp .And (b :: rest) pos) tb) : SWh X (.BoolOp .And (a :: b :: rest) pos) (.and2 ta tb) := ⟨fun ρ m P' P Z p pk => ⟨fun F0 σ H F S Q V tk q kx => by
  refine wW_of (pw_and pt_w pw_w) ?_
  refine (ha.go ρ m _ (fun k m1 => (∃ kb, (k = true → W tb ρ m1 (fun d2 m2 => d2 = .bl kb ∧ m2 = m1) EX0) ∧ P' (.bl (k && kb)) m1) ∨ ((k = true → W tb ρ m1 P' Z) ∧ (k = false → P' (.bl false) m1))) Z p (fun d m1 z => z)).run F0 σ H F S _ V tk (fun k H1 F1 m1 p1 g1 => ?_) kx
  rcases p1 with ⟨kb, p1, p2⟩ | ⟨p1, p2⟩
  · obtain ⟨k', e, p3⟩ := pk _ _ p2
    cases e
    cases k with
    | true =>
      refine iteT ((hb.go ρ m1 _ (fun k2 m2 => k2 = kb ∧ m2 = m1) EX0 (p1 rfl) (fun d m2 z => ⟨kb, z.1, rfl, z.2⟩)).run F0 σ H1 F1 (S.go g1) _ V tk (fun k2 H2 F2 m2 p4 g2 => ?_) exk0)
      obtain ⟨rfl, rfl⟩ := p4
      exact q _ H2 F2 _ p3 (g1.trans g2)
    | false => exact iteF (q _ H1 F1 m1 p3 g1)
  · cases k with
    | true => exact iteT ((hb.go ρ m1 P' P Z (p1 rfl) pk).run F0 σ H1 F1 (S.go g1) _ V tk (fun k2 H2 F2 m2 p4 g2 => q _ H2 F2 _ p4 (g1.trans g2)) (kx.go g1))
    | false =>
      obtain ⟨k', e, p3⟩ := pk _ _ (p2 rfl)
      cases e
      exact iteF (q _ H1 F1 m1 p3 g1)⟩⟩
theorem sw_or (ha : ST X a ta) (hb : SWh X (.BoolOp .Or (b :: rest) pos) tb) : SWh X (.BoolOp .Or (a :: b :: rest) pos) (.or2 ta tb) := ⟨fun ρ m P' P Z p pk => ⟨fun F0 σ H F S Q V tk q kx => by
  refine wW_of (pw_or pt_w pw_w) ?_
  refine (ha.go ρ m _ (fun k m1 => (∃ kb, (k = false → W tb ρ m1 (fun d2 m2 => d2 = .bl kb ∧ m2 = m1) EX0) ∧ P' (.bl (k || kb)) m1) ∨ ((k = false → W tb ρ m1 P' Z) ∧ (k = true → P' (.bl true) m1))) Z p (fun d m1 z => z)).run F0 σ H F S _ V tk (fun k H1 F1 m1 p1 g1 => ?_) kx
  rcases p1 with ⟨kb, p1, p2⟩ | ⟨p1, p2⟩
  · obtain ⟨k', e, p3⟩ := pk _ _ p2
    cases e
    cases k with
    | false =>
      refine iteF ((hb.go ρ m1 _ (fun k2 m2 => k2 = kb ∧ m2 = m1) EX0 (p1 rfl) (fun d m2 z => ⟨kb, z.1, rfl, z.2⟩)).run F0 σ H1 F1 (S.go g1) _ V tk (fun k2 H2 F2 m2 p4 g2 => ?_) exk0)
      obtain ⟨rfl, rfl⟩ := p4
      exact q _ H2 F2 _ p3 (g1.trans g2)
    | true => exact iteT (q _ H1 F1 m1 p3 g1)
  · cases k with
    | false => exact iteF ((hb.go ρ m1 P' P Z (p1 rfl) pk).run F0 σ H1 F1 (S.go g1) _ V tk (fun k2 H2 F2 m2 p4 g2 => q _ H2 F2 _ p4 (g1.trans g2)) (kx.go g1))
    | true =>
      obtain ⟨k', e, p3⟩ := pk _ _ (p2 rfl)
      cases e
      exact iteT (q _ H1 F1 m1 p3 g1)⟩⟩
theorem se_ite (hc : ST X c tc) (ha : SE X a ta) (hb : SE X b tb) : SE X (.IfExp c a b pos) (.ite tc ta tb) := ⟨fun ρ m P Z p => ⟨fun F0 σ H F S Q V tk q kx => by
  refine wE_of (pe_ifExp pt_w pe_w pe_w) ?_
  refine (hc.go ρ m _ (fun k m1 => (∃ d3, (k = true → W ta ρ m1 (fun d2 m2 => d2 = d3 ∧ m2 = m1) EX0) ∧ (k = false → W tb ρ m1 (fun d2 m2 => d2 = d3 ∧ m2 = m1) EX0) ∧ P d3 m1) ∨ ((k = true → W ta ρ m1 P Z) ∧ (k = false → W tb ρ m1 P Z))) Z p (fun d m1 z => z)).run F0 σ H F S _ V tk (fun k H1 F1 m1 p1 g1 => ?_) kx
  rcases p1 with ⟨d3, p1, p2, p3⟩ | p1
  · cases k with
    | true =>
      refine iteT ((ha.go ρ m1 _ EX0 (p1 rfl)).run F0 σ H1 F1 (S.go g1) _ V tk (fun v2 H2 F2 d2 m2 p4 g2 r2 => ?_) exk0)
      obtain ⟨rfl, rfl⟩ := p4
      exact q v2 H2 F2 _ _ p3 (g1.trans g2) r2
    | false =>
      refine iteF ((hb.go ρ m1 _ EX0 (p2 rfl)).run F0 σ H1 F1 (S.go g1) _ V tk (fun v2 H2 F2 d2 m2 p4 g2 r2 => ?_) exk0)
      obtain ⟨rfl, rfl⟩ := p4
      exact q v2 H2 F2 _ _ p3 (g1.trans g2) r2
  · cases k with
    | true => exact iteT ((ha.go ρ m1 P Z (p1.1 rfl)).run F0 σ H1 F1 (S.go g1) _ V tk (fun v2 H2 F2 d2 m2 p3 g2 r2 => q v2 H2 F2 d2 m2 p3 (g1.trans g2) r2) (kx.go g1))
    | false => exact iteF ((hb.go ρ m1 P Z (p1.2 rfl)).run F0 σ H1 F1 (S.go g1) _ V tk (fun v2 H2 F2 d2 m2 p3 g2 r2 => q v2 H2 F2 d2 m2 p3 (g1.trans g2) r2) (kx.go g1))⟩⟩
def Cmp.op : Cmp → CmpOp
  | .lt => .Lt
  | .le => .LtE
  | .gt => .Gt
  | .ge => .GtE
theorem op_cmpI (o : Cmp) : OpR X (compareOp o.op) (rI0 fun i j => .bl (o.b i j)) := by
  cases o
  · exact op_lt
  · exact op_le
  · exact op_gt
  · exact op_ge
theorem se_chain (o1 o2 : Cmp) (ha : SE X a ta) (hb : SE X b tb) (hc : SE X c tc) (hm : lastMarks [o1.op, o2.op] [b, c] = false := by with_unfolding_all rfl) : SE X (.Compare a [o1.op, o2.op] [b, c] pos) (.chain o1 o2 ta tb tc) := ⟨fun ρ m P Z p => ⟨fun F0 σ H F S Q V tk q kx => by
  refine wE_of (pe_chain (op_cmpI o1) (op_cmpI o2) pe_w pe_w pe_w hm) ?_
  refine (ha.go ρ m _ Z p).run F0 σ H F S _ V tk (fun x H1 F1 d1 m1 p1 g1 r1 => ?_) kx
  refine (hb.go ρ m1 _ Z p1).run F0 σ H1 F1 (S.go g1) _ V tk (fun y H2 F2 d2 m2 p2 g2 r2 => ?_) (kx.go g1)
  obtain ⟨i, j, k, rfl, rfl, p2, p3⟩ := p2
  cases r1
  cases r2
  refine ⟨i, j, rfl, rfl, _, rfl, ?_⟩
  cases e : o1.b i j with
  | true =>
    refine iteT ((hc.go ρ m2 _ EX0 p2).run F0 σ H2 F2 ((S.go g1).go g2) _ V tk (fun z H3 F3 d3 m3 p4 g3 r3 => ?_) exk0)
    obtain ⟨rfl, rfl⟩ := p4
    cases r3
    rw [e, Bool.true_and] at p3
    exact ⟨j, k, rfl, rfl, q _ H3 F3 _ _ p3 ((g1.trans g2).trans g3) (.bl _)⟩
  | false =>
    rw [e, Bool.false_and] at p3
    exact iteF (q _ H2 F2 _ _ p3 (g1.trans g2) (.bl _))⟩⟩
theorem st_chain (o1 o2 : Cmp) (ha : SE X a ta) (hb : SE X b tb) (hc : SE X c tc) (hm : lastMarks [o1.op, o2.op] [b, c] = false := by with_unfolding_all rfl) : ST X (.Compare a [o1.op, o2.op] [b, c] pos) (.chain o1 o2 ta tb tc) := ⟨fun ρ m P' P Z p pk => ⟨fun F0 σ H F S Q V tk q kx => by
  refine wT_of (pt_chain (op_cmpI o1) (op_cmpI o2) pe_w pe_w pe_w hm) ?_
  refine (ha.go ρ m _ Z p).run F0 σ H F S _ V tk (fun x H1 F1 d1 m1 p1 g1 r1 => ?_) kx
  refine (hb.go ρ m1 _ Z p1).run F0 σ H1 F1 (S.go g1) _ V tk (fun y H2 F2 d2 m2 p2 g2 r2 => ?_) (kx.go g1)
  obtain ⟨i, j, k, rfl, rfl, p2, p3⟩ := p2
  cases r1
  cases r2
  refine ⟨i, j, rfl, rfl, _, rfl, ?_⟩
  obtain ⟨k', e', p3⟩ := pk _ _ p3
  cases e'
  cases e : o1.b i j with
  | true =>
    refine iteT ((hc.go ρ m2 _ EX0 p2).run F0 σ H2 F2 ((S.go g1).go g2) _ V tk (fun z H3 F3 d3 m3 p4 g3 r3 => ?_) exk0)
    obtain ⟨rfl, rfl⟩ := p4
    cases r3
    rw [e, Bool.true_and] at p3
    exact ⟨j, k, rfl, rfl, _, rfl, q _ H3 F3 _ p3 ((g1.trans g2).trans g3)⟩
  | false =>
    rw [e, Bool.false_and] at p3
    exact iteF ⟨_, rfl, q _ H2 F2 _ p3 (g1.trans g2)⟩⟩⟩
end
end Nu

namespace Nu
open PySem PySem.Spec L2
open PyProof.Rows hiding St
/-! ### slots -/
theorem wipeR_some : ∀ {vs : List Nat} {ρ : Env1} {i : Nat} {x : D}, (wipeR ρ vs)[i]? = some (some x) → ρ[i]? = some (some x) ∧ i ∉ vs
  | [], ρ, i, x, h => ⟨h, by simp⟩
  | v :: vs, ρ, i, x, h => by
    obtain ⟨h1, h2⟩ := wipeR_some (vs := vs) (ρ := clrR ρ v) h
    rw [clrR_eq] at h1
    by_cases hi : v = i
    · subst hi
      by_cases hv : v < ρ.length
      · rw [List.getElem?_set_self hv] at h1; cases h1
      · rw [List.getElem?_eq_none (by simpa using hv)] at h1; cases h1
    · rw [List.getElem?_set_ne hi] at h1
      exact ⟨h1, by simp only [List.mem_cons, not_or]; exact ⟨fun e => hi e.symm, h2⟩⟩
theorem wipe_eq {σ σ' : L2.St} : ∀ {vs : List Nat}, σ'.length = σ.length → (∀ j : Nat, j ∉ vs → σ'[j]? = σ[j]?) → wipe σ' vs = wipe σ vs := fun {vs} hl h => by
  apply List.ext_getElem?
  intro i
  by_cases hi : i ∈ vs
  · have one : ∀ (τ : L2.St) (us : List Nat), i ∈ us → (wipe τ us)[i]? = if i < τ.length then some none else none := by
      intro τ us
      induction us with
      | nil => intro hu; cases hu
      | cons u us ih =>
        intro hu
        unfold wipe
        by_cases e : u = i
        · subst e
          by_cases hl : u < τ.length
          · rw [List.getElem?_set_self (by rw [wipe_length]; exact hl), if_pos hl]
          · rw [List.getElem?_eq_none (by rw [List.length_set, wipe_length]; omega), if_neg hl]
        · rw [List.getElem?_set_ne e]
          rcases List.mem_cons.mp hu with q | q
          · exact absurd q.symm e
          · exact ih q
    rw [one σ' vs hi, one σ vs hi, hl]
  · rw [wipe_out hi, wipe_out hi]
    exact h i hi
theorem StR.wipe {K : PySem.W.Frag} {F0 : Hp} {σ : L2.St} {H F : Hp} {ρ : Env1} {m : MS} (S : StR K F0 σ H F ρ m) (vs : List Nat) : StR K F0 (L2.wipe σ vs) H F (wipeR ρ vs) m :=
  ⟨S.std, fun i d e => by
    obtain ⟨e1, e2⟩ := wipeR_some e
    obtain ⟨v, a, b⟩ := S.env i d e1
    exact ⟨v, by rw [wipe_out e2]; exact a, b⟩, S.old⟩
theorem StR.set {K : PySem.W.Frag} {F0 : Hp} {σ : L2.St} {H F : Hp} {ρ : Env1} {m : MS} {d : D} {i : Nat} {v : V} (S : StR K F0 σ H F ρ m) (r : Rp K F v d) (hl : i < σ.length) : StR K F0 (σ.set i (some v)) H F (setR ρ i d) m := by
  rw [setR_eq]
  refine ⟨S.std, fun j d' e => ?_, S.old⟩
  by_cases hj : i = j
  · subst hj
    have hi : i < ρ.length := by
      have := (List.getElem?_eq_some_iff.mp e).1
      simpa using this
    rw [List.getElem?_set_self hi] at e
    cases e
    exact ⟨v, List.getElem?_set_self hl, r⟩
  · rw [List.getElem?_set_ne hj] at e
    obtain ⟨v', a, b⟩ := S.env j d' e
    exact ⟨v', by rw [List.getElem?_set_ne hj]; exact a, b⟩
theorem StR.clr {K : PySem.W.Frag} {F0 : Hp} {σ : L2.St} {H F : Hp} {ρ : Env1} {m : MS} {i : Nat} (S : StR K F0 σ H F ρ m) : StR K F0 (σ.set i none) H F (clrR ρ i) m := by
  rw [clrR_eq]
  refine ⟨S.std, fun j d' e => ?_, S.old⟩
  by_cases hj : i = j
  · subst hj
    by_cases hi : i < ρ.length
    · rw [List.getElem?_set_self hi] at e; cases e
    · rw [List.getElem?_eq_none (by simpa using hi)] at e; cases e
  · rw [List.getElem?_set_ne hj] at e
    obtain ⟨v', a, b⟩ := S.env j d' e
    exact ⟨v', by rw [List.getElem?_set_ne hj]; exact a, b⟩
theorem nx_of_inv {X : Cx} {i : Nat} {x : Str} {pins : List (Addr × Obj)} {σ : L2.St} {H : Hp} {s : Shared} (I : Inv X pins σ H s) (hi : X.N[i]? = some x) : i < σ.length := by
  rw [I.len]; exact (List.getElem?_eq_some_iff.mp hi).1
theorem Go.patch {K : PySem.W.Frag} {m m' : MS} {H F H' F' : Hp} {L : Addr} {o : HO} (g : Go K m H F m' H' F') (h1 : H L = none) (h2 : m' L = none) (h3 : F' L = none) : Go K m H F m' (upd H' L o) F' := by
  refine ⟨fun a u e => ?_, g.grow, g.fresh, fun a ha => ?_, ⟨fun a u e => ?_, fun q c e => ?_⟩⟩
  · have ne : a ≠ L := ne_of_none (of_fz e).2 h1
    obtain ⟨e1, e2⟩ := of_fz (g.same a u e)
    exact fz_of e1 (by rw [upd_ne ne]; exact e2)
  · by_cases e : a = L
    · subst e; rw [upd_same]; exact fun z => nomatch z
    · rw [upd_ne e]; exact g.kept a ha
  · have ne : a ≠ L := ne_of_none e h3
    obtain ⟨e1, e2⟩ := of_fz (g.std.sub a u e)
    exact fz_of e1 (by rw [upd_ne ne]; exact e2)
  · refine (g.std.cells q c e).upd_ ?_
    rintro rfl
    rw [h2] at e; cases e
/-- a junk object becomes data -/
theorem Go.adopt {K : PySem.W.Frag} {m m' : MS} {H F H' F' : Hp} {L : Addr} {o : HO} (g : Go K m H F m' H' F') (h1 : H L = none) (h2 : m' L = none) (h3 : F' L = none) (h4 : H' L = some o) : Go K m H F m' H' (upd F' L o) := by
  have up : Same F' (upd F' L o) := fun a u e => by rw [upd_ne (ne_of_none e h3)]; exact e
  refine ⟨g.same, g.grow.trans up, fun a ha => ?_, g.kept, ⟨fun a u e => ?_, fun q c e => (g.std.cells q c e).up up rfl⟩⟩
  · by_cases e : a = L
    · subst e; exact .inr (.inl h1)
    · rw [upd_ne e] at ha; exact g.fresh a ha
  · by_cases e' : a = L
    · subst e'; rw [upd_same] at e; cases e; exact fz_of h2 h4
    · rw [upd_ne e'] at e; exact g.std.sub a u e
/-- a junk object becomes a cell -/
theorem Go.adoptC {K : PySem.W.Frag} {m m' : MS} {H F H' F' : Hp} {L : Addr} {vs : List V} {acc : List D} (g : Go K m H F m' H' F') (h1 : H L = none) (h2 : m' L = none) (h3 : F' L = none) (h4 : H' L = some (.lst vs)) (h5 : Rps K F' vs acc) : Go K m H F (mset m' L (.lst acc)) H' F' := by
  refine ⟨fun a u e => ?_, g.grow, g.fresh, g.kept, ⟨fun a u e => ?_, fun q c e => ?_⟩⟩
  · have ne : a ≠ L := ne_of_none (of_fz e).2 h1
    obtain ⟨e1, e2⟩ := of_fz (g.same a u e)
    exact fz_of (by rw [mset_ne ne]; exact e1) e2
  · have ne : a ≠ L := ne_of_none e h3
    obtain ⟨e1, e2⟩ := of_fz (g.std.sub a u e)
    exact fz_of (by rw [mset_ne ne]; exact e1) e2
  · by_cases e' : q = L
    · subst e'; rw [mset_same] at e; cases e; exact ⟨vs, h4, h5⟩
    · rw [mset_ne e'] at e; exact g.std.cells q c e

section
variable {X : Cx} {e a b c tg iter elt : Expr} {es tgs ifs : List Expr} {stm : Stmt} {sts body : List Stmt} {t ta tb tc te : T} {ts tifs : Ts} {pos pos' : Pos} {u : S1} {us ub : SS} {g : G} {gs : Gs} {is : IS}
/-! ### targets -/
theorem xg_name (i : Nat) {x : Str} (hN : X.N.Nodup) (hi : X.N[i]? = some x := by rfl) (hx : Loc X.env.scope x := by first | exact Or.inl rfl | exact Or.inr rfl) (hf : X.fn x = true ∨ X.env.scope.names.lookup x = some .local := by first | exact .inl rfl | exact .inr rfl) :
    XG X (.Name x pos) (.name i) := .mk fun F0 σ H F m v d ρ ρ' hb S r Q q pins s u I => by
  have hl := nx_of_inv I hi
  have e : setR ρ i d = ρ' := Option.some.inj hb
  subst e
  refine wG_of (pg_name (i := i) hN hi hx hf) ?_ pins s u I
  exact q _ (S.set r hl) (by simp) fun j hj => List.getElem?_set_ne fun e => hj (by rw [← e]; exact List.mem_singleton_self _)
theorem xgs_nil : XGs X [] .nil := .mk fun F0 σ H F m ws ds ρ ρ' hb S r Q q pins s us I rv => by
  cases ds with
  | nil =>
    cases r; cases rv
    have e : ρ = ρ' := Option.some.inj hb
    subst e
    exact assignInOrder_nil ⟨σ, H, I, q σ S rfl fun _ _ => rfl⟩
  | cons d ds => exact nomatch hb
theorem xgs_cons (h1 : XG X tg g) (h2 : XGs X tgs gs) (hs : (assignEach (tg :: tgs) X.env).map (·.2) = assign tg X.env :: (assignEach tgs X.env).map (·.2) := by rfl) : XGs X (tg :: tgs) (.cons g gs) := .mk fun F0 σ H F m ws ds ρ ρ' hb S r Q q pins s us I rv => by
  cases r with
  | nil => exact nomatch hb
  | @cons v vs d ds r1 r2 =>
    cases rv with
    | cons v1 v2 =>
      have hb : (match bindG g d ρ with | some ρ' => bindGs gs ds ρ' | none => none) = some ρ' := hb
      cases e : bindG g d ρ with
      | none => rw [e] at hb; cases hb
      | some ρ1 =>
        rw [e] at hb
        rw [hs]
        refine assignInOrder_cons ?_
        refine thn (h1.run F0 σ H F m _ _ _ _ e S r1 (fun σ1 H1 => H1 = H ∧ StR X.K F0 σ1 H F ρ1 m ∧ σ1.length = σ.length ∧ ∀ j : Nat, j ∉ g.vars → σ1[j]? = σ[j]?) (fun σ1 S1 l1 k1 => ⟨rfl, S1, l1, k1⟩) pins s _ I v1) fun _ s1 ⟨σ1, H1, I1, eH, S1, l1, k1⟩ => ?_
        subst eH
        exact h2.run F0 σ1 H1 F m _ _ _ _ hb S1 r2 Q (fun σ2 S2 l2 k2 => q σ2 S2 (l2.trans l1) fun j hj => (k2 j fun z => hj (List.mem_append_right _ z)).trans (k1 j fun z => hj (List.mem_append_left _ z))) pins s1 _ I1 v2
theorem bindG_tup {ds : List D} {d : D} {ρ ρ' : Env1} (h : bindG (.tup gs) d ρ = some ρ') : ∃ ds, d = .tup ds ∧ bindGs gs ds ρ = some ρ' := by
  cases d with
  | tup ds => exact ⟨ds, rfl, h⟩
  | _ => exact nomatch h
def Gs.len : Gs → Nat
  | .nil => 0
  | .cons _ gs => gs.len + 1
theorem bindGs_length : ∀ (gs : Gs) (ds : List D) (ρ ρ' : Env1), bindGs gs ds ρ = some ρ' → ds.length = gs.len
  | .nil, [], _, _, _ => rfl
  | .nil, _ :: _, _, _, h => nomatch h
  | .cons _ _, [], _, _, h => nomatch h
  | .cons g gs, d :: ds, ρ, ρ', h => by
    have hb : (match bindG g d ρ with | some ρ' => bindGs gs ds ρ' | none => none) = some ρ' := h
    cases e : bindG g d ρ with
    | none => rw [e] at hb; cases hb
    | some ρ1 =>
      rw [e] at hb
      show ds.length + 1 = gs.len + 1
      rw [bindGs_length gs ds ρ1 ρ' hb]
theorem xg_tup {kk : Nat} (h : XGs X tgs gs) (hn : (assignEach tgs X.env).length = gs.len := by rfl) (hst : (assignEach tgs X.env).findIdx? (·.1) = none := by rfl) (hc : X.calm = true := by rfl) : XG X (.Tuple tgs kk pos) (.tup gs) := .mk fun F0 σ H F m v d ρ ρ' hb S r Q q pins s u I rv => by
  obtain ⟨ds, rfl, hb⟩ := bindG_tup (ds := []) hb
  cases r with
  | @tup a xs _ h1 h2 =>
    cases rv
    obtain ⟨its, rv, ht, hz⟩ := I.tuple (Same.seqT S.std.toH h1)
    refine assign_Tuple_tuple (I.ok.hd hc) ht (by simp [hn, ← bindGs_length _ _ _ _ hb, ← h2.length, rv.length]) hst fun h' hx => ?_
    have I1 : Inv X pins σ H { s with heap := h' } := I.kept (t' := s.toks) fun b o e => hx b o (Nat.ne_of_lt (Heap.lt_size e)) e
    exact h.run F0 σ H F m xs ds ρ ρ' hb S h2 Q q pins _ _ I1 (by simpa using rv)
/-! ### statements -/
theorem ss_nil : SSs X [] .nil := ⟨fun ρ m A p => ⟨fun F0 σ H F S E V tk k => wSs_of pss_nil (k.nx σ H F ρ m p (Go.refl S.std) S)⟩⟩
theorem ss_cons (h1 : SS1 X stm u) (h2 : SSs X sts us) : SSs X (stm :: sts) (.cons u us) := ⟨fun ρ m A p => ⟨fun F0 σ H F S E V tk k => by
  refine wSs_of (pss_cons ps_w pss_w) ?_
  refine (h1.go ρ m _ p).run F0 σ H F S _ V tk ⟨?_, k.rt, k.bk, k.ct, k.ex⟩
  exact fun σ' H' F' ρ' m' p1 g S' => (h2.go ρ' m' A p1).run F0 σ' H' F' S' E V tk (k.go g)⟩⟩
theorem ss_cut (h1 : SS1 X stm u) (h2 : SSs X sts us) : SSs X (stm :: sts) (.cut u us) := ⟨fun ρ m A p => ⟨fun F0 σ H F S E V tk k => by
  obtain ⟨J, p1, p2⟩ := p
  refine wSs_of (pss_cons ps_w pss_w) ?_
  refine (h1.go ρ m _ p1).run F0 σ H F S _ V tk ⟨?_, k.rt, k.bk, k.ct, k.ex⟩
  intro σ' H' F' ρ' m' p3 g S'
  obtain ⟨ρ2, m2, vw, p4⟩ := p2 ρ' m' p3
  obtain ⟨F2, g2, S2⟩ := vw _ _ _ _ _ S'
  exact (h2.go ρ2 m2 A p4).run F0 σ' H' F2 S2 E V tk (k.go (g.trans g2))⟩⟩
theorem s_set {i : Nat} {x : Str} (he : SE X e t) (hN : X.N.Nodup) (hi : X.N[i]? = some x := by rfl) (hx : Loc X.env.scope x := by first | exact Or.inl rfl | exact Or.inr rfl)
    (hs : swapsWith e (some (.Name x pos')) pos.line X.env = pure false := by rfl) (hf : X.fn x = true ∨ X.env.scope.names.lookup x = some .local := by first | exact .inl rfl | exact .inr rfl) :
    SS1 X (.Assign [.Name x pos'] e pos) (.set i t) := ⟨fun ρ m A p => ⟨fun F0 σ H F S E V tk k pins s I => by
  have hl := nx_of_inv I hi
  refine wS_of (ps_set (i := i) hN hi hx pe_w hs hf) ?_ pins s I
  refine (he.go ρ m _ _ p).run F0 σ H F S _ V tk (fun v H1 F1 d m1 p1 g r => ?_) k.ex
  exact k.nx _ H1 F1 _ m1 p1 g ((S.go g).set r hl)⟩⟩
theorem s_ret (he : SE X e t) : SS1 X (.Return (some e) pos) (.ret t) := ⟨fun ρ m A p => ⟨fun F0 σ H F S E V tk k => by
  refine wS_of (ps_ret pe_w) ?_
  exact (he.go ρ m _ _ p).run F0 σ H F S _ V tk (fun v H1 F1 d m1 p1 g r => k.rt v H1 F1 d m1 p1 g r) k.ex⟩⟩
theorem s_retn : SS1 X (.Return none pos) .retn := ⟨fun ρ m A p => ⟨fun F0 σ H F S E V tk k => wS_of ps_retN (k.rt .non H F .non m p (Go.refl S.std) .non)⟩⟩
theorem s_pass : SS1 X (.Pass pos) .pass := ⟨fun ρ m A p => ⟨fun F0 σ H F S E V tk k => wS_of ps_pass (k.nx σ H F ρ m p (Go.refl S.std) S)⟩⟩
theorem s_brk : SS1 X (.Break pos) .brk := ⟨fun ρ m A p => ⟨fun F0 σ H F S E V tk k => wS_of ps_break (k.bk σ H F ρ m p (Go.refl S.std) S)⟩⟩
theorem s_cnt : SS1 X (.Continue pos) .cnt := ⟨fun ρ m A p => ⟨fun F0 σ H F S E V tk k => wS_of ps_continue (k.ct σ H F ρ m p (Go.refl S.std) S)⟩⟩
theorem s_doc {x : Str} {j : Nat} : SS1 X (.Expr (.Constant (.str x) j pos) pos') .pass := ⟨fun ρ m A p => ⟨fun F0 σ H F S E V tk k => wS_of ps_doc (k.nx σ H F ρ m p (Go.refl S.std) S)⟩⟩
theorem s_expr (he : SE X e t) (hs : swapsWith e none pos.line X.env = pure false := by rfl) : SS1 X (.Expr e pos) (.expr t) := ⟨fun ρ m A p => ⟨fun F0 σ H F S E V tk k => by
  refine wS_of (ps_expr pe_w hs) ?_
  exact (he.go ρ m _ _ p).run F0 σ H F S _ V tk (fun v H1 F1 d m1 p1 g r => k.nx σ H1 F1 ρ m1 p1 g (S.go g)) k.ex⟩⟩
theorem s_if {sa sb : List Stmt} {ua ub : SS} (hc : ST X c tc) (ha : SSs X sa ua) (hb : SSs X sb ub) : SS1 X (.If c sa sb pos) (.iff tc ua ub) := ⟨fun ρ m A p => ⟨fun F0 σ H F S E V tk k => by
  refine wS_of (ps_if pt_w pss_w pss_w) ?_
  refine (hc.go ρ m _ (fun k m1 => (k = true → WB ua ρ m1 A) ∧ (k = false → WB ub ρ m1 A)) _ p (fun d m1 z => z)).run F0 σ H F S _ V tk (fun kk H1 F1 m1 p1 g => ?_) k.ex
  cases kk with
  | true => exact iteT ((ha.go ρ m1 A (p1.1 rfl)).run F0 σ H1 F1 (S.go g) E V tk (k.go g))
  | false => exact iteF ((hb.go ρ m1 A (p1.2 rfl)).run F0 σ H1 F1 (S.go g) E V tk (k.go g))⟩⟩
theorem s_unp {kk : Nat} {tpos : Pos} (he : SE X e t) (hg : XG X (.Tuple tgs kk tpos) (.tup gs)) (hs : swapsWithSole [.Tuple tgs kk tpos] e pos.line X.env = pure false := by rfl) (hw : swappedStores [.Tuple tgs kk tpos] e X.env = pure none := by rfl)
    (h1 : (assignEach [.Tuple tgs kk tpos] X.env).map (·.2) = [assign (.Tuple tgs kk tpos) X.env] := by rfl) : SS1 X (.Assign [.Tuple tgs kk tpos] e pos) (.unp gs t) := ⟨fun ρ m A p => ⟨fun F0 σ H F S E V tk k => by
  refine wS_of (ps_asg pe_w pg_w hs hw h1) ?_
  refine (he.go ρ m _ _ p).run F0 σ H F S _ V tk (fun v H1 F1 d m1 p1 g r => ?_) k.ex
  have p1 : match bindG (.tup gs) d ρ with | some ρ' => A.nx ρ' m1 | none => False := p1
  cases eb : bindG (.tup gs) d ρ with
  | none => rw [eb] at p1; exact p1.elim
  | some ρ1 =>
    rw [eb] at p1
    exact hg.run F0 σ H1 F1 m1 v d ρ ρ1 eb (S.go g) r _ fun σ' S' _ _ => k.nx σ' H1 F1 ρ1 m1 p1 g S'⟩⟩
theorem s_par {i j : Nat} {x y : Str} {px py pt pt2 : Pos} {kt k2 : Nat} (ha : SE X a ta) (hb : SE X b tb) (hN : X.N.Nodup) (hij : i ≠ j := by decide) (hi : X.N[i]? = some x := by rfl) (hj : X.N[j]? = some y := by rfl) (hc : X.calm = true := by rfl)
    (hx : X.env.scope.names.lookup x = some .local := by rfl) (hy : X.env.scope.names.lookup y = some .local := by rfl)
    (hw : swappedStores [.Tuple [.Name x px, .Name y py] kt pt] (.Tuple [a, b] k2 pt2) X.env = pure (some [x, y]) := by rfl)
    (hs : swapsWithSole [.Tuple [.Name x px, .Name y py] kt pt] (.Tuple [a, b] k2 pt2) pos.line X.env = pure false := by rfl) (h1 : starEach [a, b] X.env = (false, eval a X.env) :: starEach [b] X.env := by rfl) (h2 : starEach [b] X.env = (false, eval b X.env) :: starEach [] X.env := by rfl) :
    SS1 X (.Assign [.Tuple [.Name x px, .Name y py] kt pt] (.Tuple [a, b] k2 pt2) pos) (.par i j ta tb) := ⟨fun ρ m A p => ⟨fun F0 σ H F S E V tk k pins s I => by
  have hl := nx_of_inv I hi
  have hl2 := nx_of_inv I hj
  refine wS_of (ps_par hc hN hi hj hij hx hy (pa_cons pe_w (pa_cons pe_w pa_nil h2) h1) hw hs) ?_ pins s I
  refine (ha.go ρ m _ _ p).run F0 σ H F S _ V tk (fun v H1 F1 d1 m1 p1 g1 r1 => ?_) k.ex
  refine (hb.go ρ m1 _ _ p1).run F0 σ H1 F1 (S.go g1) _ V tk (fun w H2 F2 d2 m2 p2 g2 r2 => ?_) (k.ex.go g1)
  refine ⟨v, w, rfl, k.nx _ H2 F2 _ m2 p2 (g1.trans g2) ?_⟩
  exact (((S.go g1).go g2).set (r1.up g2.grow _) hl).set r2 (by rw [List.length_set]; exact hl2)⟩⟩
/-! ### loops -/
theorem s_for (hi : SI X tg iter is ts) (hg : XG X tg g) (hb : SSs X body ub) (hp : PassesOwn (model X.prog X.w) X.A X.env X.xe := by exact passes_of rfl) (hc : X.calm = true := by rfl) (hs : ∀ x, foldedSetIterable iter X.env x = pure x := by intro _; rfl) : SS1 X (.For tg iter body [] pos) (.fo g is ts ub) := ⟨fun ρ m A p => ⟨fun F0 σ H F S E V tk k => by
  refine wS_of (ps_for hp hc pi_w pg_w pss_w hs) ?_
  refine (hi.go ρ m _ _ p).run F0 σ H F S _ V tk (fun J H1 F1 items GG m1 p1 g1 wd => ?_) k.ex
  obtain ⟨Iv, h0, hG, step, hd⟩ := p1
  refine ⟨fun i n σ' H' => n = items.length - i ∧ i ≤ items.length ∧ ∃ F' ρ' m', Iv i ρ' m' ∧ Go X.K m1 H1 F1 m' H' F' ∧ StR X.K F0 σ' H' F' ρ' m', ⟨items.length, by simp, Nat.zero_le _, F1, ρ, m1, h0, Go.refl g1.std, S.go g1⟩, ?_⟩
  rintro i n σ' H' ⟨rfl, hi, F', ρ', m', iv, g2, S'⟩
  by_cases hlt : i < items.length
  · refine .inr ⟨wd.goes i H' F' m' hlt g2.grow S'.std (hG i _ _ iv), fun σ2 H2 => ∃ F2 ρ2 m2, Iv (i + 1) ρ2 m2 ∧ Go X.K m1 H1 F1 m2 H2 F2 ∧ StR X.K F0 σ2 H2 F2 ρ2 m2, fun σ2 H2 q => ⟨items.length - (i + 1), by omega, rfl, hlt, q⟩, fun x H2 y => ?_⟩
    obtain ⟨F2, g3, r⟩ := wd.yields i H' F' m' x H2 items[i] (List.getElem?_eq_getElem hlt) g2.grow S'.std (hG i _ _ iv) y
    have st := step i items[i] ρ' m' (List.getElem?_eq_getElem hlt) iv
    cases eb : bindG g items[i] ρ' with
    | none => rw [eb] at st; exact st.elim
    | some ρ2 =>
      rw [eb] at st
      refine hg.run F0 σ' H2 F2 m' x _ _ _ eb (S'.go g3) r _ fun σ3 S3 _ _ => ?_
      refine (hb.go ρ2 m' _ st).run F0 σ3 H2 F2 S3 _ V tk ⟨?_, ?_, ?_, ?_, (k.ex.go ((g1.trans g2).trans g3))⟩
      · exact fun σ4 H4 F4 ρ4 m4 p g4 S4 => ⟨F4, ρ4, m4, p, (g2.trans g3).trans g4, S4⟩
      · exact fun v H4 F4 d m4 p g4 r4 => k.rt v H4 F4 d m4 p (((g1.trans g2).trans g3).trans g4) r4
      · exact fun σ4 H4 F4 ρ4 m4 p g4 S4 => k.nx σ4 H4 F4 ρ4 m4 p (((g1.trans g2).trans g3).trans g4) S4
      · exact fun σ4 H4 F4 ρ4 m4 p g4 S4 => ⟨F4, ρ4, m4, p, (g2.trans g3).trans g4, S4⟩
  · have e1 : i = items.length := by omega
    subst e1
    exact .inl ⟨wd.stops H' F' m' g2.grow S'.std (hG _ _ _ iv), k.nx σ' H' F' ρ' m' (hd ρ' m' iv) (g1.trans g2) S'⟩⟩⟩
theorem s_while (hc : ST X c tc) (hb : SSs X body ub) (hp : PassesOwn (model X.prog X.w) X.A X.env X.xe := by exact passes_of rfl) : SS1 X (.While c body [] pos) (.whil tc ub) := ⟨fun ρ m A p => ⟨fun F0 σ H F S E V tk k => by
  obtain ⟨Iv, n0, h0, step⟩ := p
  refine wS_of (ps_while hp pt_w pss_w) ?_
  refine ⟨fun n σ' H' => ∃ F' ρ' m', Iv n ρ' m' ∧ Go X.K m H F m' H' F' ∧ StR X.K F0 σ' H' F' ρ' m', ⟨n0, F, ρ, m, h0, Go.refl S.std, S⟩, ?_⟩
  rintro n σ' H' ⟨F', ρ', m', iv, g, S'⟩
  refine (hc.go ρ' m' _ (fun k m1 => (k = true → WB ub ρ' m1 _) ∧ (k = false → A.nx ρ' m1)) _ (step n ρ' m' iv) (fun d m1 z => z)).run F0 σ' H' F' S' _ V tk (fun kk H1 F1 m1 p1 g1 => ?_) (k.ex.go g)
  cases kk with
  | true =>
    refine iteT ⟨fun σ2 H2 => ∃ n', n' < n ∧ ∃ F2 ρ2 m2, Iv n' ρ2 m2 ∧ Go X.K m H F m2 H2 F2 ∧ StR X.K F0 σ2 H2 F2 ρ2 m2, fun σ2 H2 ⟨n', hn, q⟩ => ⟨n', hn, q⟩, ?_⟩
    refine (hb.go ρ' m1 _ (p1.1 rfl)).run F0 σ' H1 F1 (S'.go g1) _ V tk ⟨?_, ?_, ?_, ?_, k.ex.go (g.trans g1)⟩
    · rintro σ4 H4 F4 ρ4 m4 ⟨n', hn, p⟩ g4 S4
      exact ⟨n', hn, F4, ρ4, m4, p, (g.trans g1).trans g4, S4⟩
    · exact fun v H4 F4 d m4 p g4 r4 => k.rt v H4 F4 d m4 p ((g.trans g1).trans g4) r4
    · exact fun σ4 H4 F4 ρ4 m4 p g4 S4 => k.nx σ4 H4 F4 ρ4 m4 p ((g.trans g1).trans g4) S4
    · rintro σ4 H4 F4 ρ4 m4 ⟨n', hn, p⟩ g4 S4
      exact ⟨n', hn, F4, ρ4, m4, p, (g.trans g1).trans g4, S4⟩
  | false => exact iteF (k.nx σ' H1 F1 ρ' m1 (p1.2 rfl) (g.trans g1) (S'.go g1))⟩⟩

/-! ### comprehensions -/
def bG (X : Cx) (scope : Scope) (tg : Expr) : TG := fun v σ H Q => ∀ (s0 : Shared) (H0 : Hp) (C : Addr) (cl : List (Str × Addr)) (fp : List Addr), wG (X.blk s0 H0 scope (compEnvC scope cl C X.env) fp) tg v σ H Q
def bE (X : Cx) (scope : Scope) (e : Expr) : TE := fun σ H Q => ∀ (s0 : Shared) (H0 : Hp) (C : Addr) (cl : List (Str × Addr)) (fp : List Addr), wE (X.blk s0 H0 scope (compEnvC scope cl C X.env) fp) e σ H Q
def bT (X : Cx) (scope : Scope) (e : Expr) : TT := fun σ H Q => ∀ (s0 : Shared) (H0 : Hp) (C : Addr) (cl : List (Str × Addr)) (fp : List Addr), wT (X.blk s0 H0 scope (compEnvC scope cl C X.env) fp) e σ H Q
def bTs (X : Cx) (scope : Scope) : List Expr → TT
  | [] => tYes
  | [c] => bT X scope c
  | _ => fun _ _ _ => False
theorem bG_pg {scope : Scope} (s0 : Shared) (H0 : Hp) (C : Addr) (cl : List (Str × Addr)) (fp : List Addr) : PG (X.blk s0 H0 scope (compEnvC scope cl C X.env) fp) tg (bG X scope tg) := ⟨fun pins s σ H v u Q I r h => h s0 H0 C cl fp pins s u I r⟩
theorem bE_pe {scope : Scope} (s0 : Shared) (H0 : Hp) (C : Addr) (cl : List (Str × Addr)) (fp : List Addr) : PE (X.blk s0 H0 scope (compEnvC scope cl C X.env) fp) e (bE X scope e) := ⟨fun pins s σ H Q I h => h s0 H0 C cl fp pins s I⟩
theorem bT_pt {scope : Scope} (s0 : Shared) (H0 : Hp) (C : Addr) (cl : List (Str × Addr)) (fp : List Addr) : PT (X.blk s0 H0 scope (compEnvC scope cl C X.env) fp) e (bT X scope e) := ⟨fun pins s σ H Q I h => h s0 H0 C cl fp pins s I⟩
theorem bTs_pts {scope : Scope} (hi : ifs.length ≤ 1) (s0 : Shared) (H0 : Hp) (C : Addr) (cl : List (Str × Addr)) (fp : List Addr) : PTs (X.blk s0 H0 scope (compEnvC scope cl C X.env) fp) ifs (bTs X scope ifs) := by
  match ifs, hi with
  | [], _ => exact pts_nil
  | [c], _ => exact pts_one (bT_pt s0 H0 C cl fp)
/-- the test of a comprehension -/
inductive SL (X : Cx) (scope : Scope) : List Expr → Ts → Prop where
  | no : SL X scope [] .nil
  | one {c : Expr} {t : T} (h : ∀ s H C cl fp, ST (X.blk s H scope (compEnvC scope cl C X.env) fp) c t) : SL X scope [c] (.cons t .nil)
theorem SL.le {scope : Scope} (h : SL X scope ifs tifs) : ifs.length ≤ 1 := by
  cases h with
  | no => exact Nat.zero_le _
  | one h => exact Nat.le_refl _
theorem lc_in {scope : Scope} {own : List (Str × Nat)} {F0 F1 H1 : Hp} {J : L2.It} {items : List D} {GG : MS → Prop} {m1 : MS} {ρ : Env1} {σ : L2.St} (wd : WalkD X.K F1 J items GG) (hv : own.map (·.2) = g.vars) (hg : ∀ s H C cl fp, XG (X.blk s H scope (compEnvC scope cl C X.env) fp) tg g) (hf : SL X scope ifs tifs) (he : ∀ s H C cl fp, SE (X.blk s H scope (compEnvC scope cl C X.env) fp) elt te)
    (Iv : Nat → List D → MS → Prop) (h0 : Iv 0 [] m1) (hG : ∀ i acc mi, i ≤ items.length → Iv i acc mi → GG mi) (hz : items.length ≤ 100000)
    (step : ∀ i d acc m', items[i]? = some d → Iv i acc m' → match bindG g d (wipeR ρ g.vars) with
        | some ρ' => Wl tifs ρ' m' (fun b m'' => (b = true → W te ρ' m'' (fun d' m3 => Iv (i + 1) (acc ++ [d']) m3) EX0) ∧ (b = false → Iv (i + 1) acc m''))
        | none => False)
    (S1 : StR X.K F0 σ H1 F1 ρ m1) {Q : VK} (q : ∀ L vs H' F' acc m', Iv items.length acc m' → Go X.K m1 H1 F1 m' H' F' → H1 L = none → m' L = none → F' L = none → H' L = some (.lst vs) → Rps X.K F' vs acc → Q (.ref L) H') :
    ∀ L, H1 L = none → ∃ W : Nat → Nat → Hp → Prop, (∃ m, W 0 m (upd H1 L (.lst []))) ∧ ∀ i m H, W i m H →
  (J.stop i H ∧ Q (.ref L) H) ∨ (J.go i H ∧ ∃ Nx : Hp → Prop, (∀ H', Nx H' → ∃ m', m' < m ∧ W (i + 1) m' H') ∧ ∀ x H', J.yld i H x H' → bG X scope tg x (wipe σ (own.map (·.2))) H' fun σ2 H2 => wipe σ2 (own.map (·.2)) = wipe σ (own.map (·.2)) ∧ bTs X scope ifs σ2 H2 fun b H3 =>
    if b = true then bE X scope elt σ2 H3 fun y H4 => ∃ acc, H4 L = some (.lst acc) ∧ acc.length < sizeLine ∧ Nx (upd H4 L (.lst (acc ++ [y]))) else Nx H3) := by
  intro L hL
  refine ⟨fun i n H' => n = items.length - i ∧ i ≤ items.length ∧ ∃ F' vs acc mi, Iv i acc mi ∧ acc.length ≤ i ∧ Go X.K m1 H1 F1 mi H' F' ∧ F' L = none ∧ mi L = none ∧ H' L = some (.lst vs) ∧ Rps X.K F' vs acc, ⟨items.length, by simp, Nat.zero_le _, F1, [], [], m1, h0, Nat.le_refl _, Go.junk S1.std hL, S1.std.freeF hL, S1.std.free hL, upd_same, .nil⟩, ?_⟩
  rintro i n H' ⟨rfl, hile, F', vs, acc, mi, iv, hal, g2, hFL, hmL, hHL, hacc⟩
  by_cases hlt : i < items.length
  · refine .inr ⟨wd.goes i H' F' mi hlt g2.grow g2.std (hG i acc mi hile iv), fun H2 => ∃ F2 vs2 acc2 m2, Iv (i + 1) acc2 m2 ∧ acc2.length ≤ i + 1 ∧ Go X.K m1 H1 F1 m2 H2 F2 ∧ F2 L = none ∧ m2 L = none ∧ H2 L = some (.lst vs2) ∧ Rps X.K F2 vs2 acc2, fun H2 q2 => ⟨items.length - (i + 1), by omega, rfl, hlt, q2⟩, fun x H2 y => ?_⟩
    obtain ⟨F2, g3, r⟩ := wd.yields i H' F' mi x H2 items[i] (List.getElem?_eq_getElem hlt) g2.grow g2.std (hG i acc mi hile iv) y
    have st := step i items[i] acc mi (List.getElem?_eq_getElem hlt) iv
    cases eb : bindG g items[i] (wipeR ρ g.vars) with
    | none => rw [eb] at st; exact st.elim
    | some ρ2 =>
    rw [eb] at st
    -- L through a step
    have keep : ∀ {ma mb : MS} {Ha Fa Hb Fb : Hp} {us : List V}, Go X.K ma Ha Fa mb Hb Fb → Fa L = none → ma L = none → Ha L = some (.lst us) → Fb L = none ∧ mb L = none ∧ Hb L = some (.lst us) := fun {ma mb Ha Fa Hb Fb us} g hf hm hh => by
      obtain ⟨e1, e2⟩ := of_fz (g.same L _ (fz_of hm hh))
      refine ⟨?_, e1, e2⟩
      cases e : Fb L with
      | none => rfl
      | some u =>
        rcases g.fresh L (by rw [e]; exact fun z => nomatch z) with z | z | z
        · exact absurd hf z
        · rw [hh] at z; cases z
        · exact absurd hm z
    obtain ⟨k1, k2, k3⟩ := keep g3 hFL hmL hHL
    have S2 : StR X.K F0 (wipe σ (own.map (·.2))) H2 F2 (wipeR ρ g.vars) mi := by
      rw [hv]; exact (S1.wipe _).go (g2.trans g3)
    intro s0 H0 C cl fp
    refine (hg s0 H0 C cl fp).run F0 _ H2 F2 mi x _ _ _ eb S2 r _ fun σ2 S3 l3 e3 => ⟨?_, ?_⟩
    · rw [hv]
      rw [hv] at l3 e3
      rw [wipe_eq (vs := g.vars) l3 e3]
      exact wipe_eq (wipe_length σ _) fun j hj => wipe_out hj
    -- the element
    have elem : ∀ {mc : MS} {H3 F3 : Hp}, W te ρ2 mc (fun d m' => Iv (i + 1) (acc ++ [d]) m') EX0 → Go X.K mi H2 F2 mc H3 F3 →
        bE X scope elt σ2 H3 fun y H4 => ∃ ac, H4 L = some (.lst ac) ∧ ac.length < sizeLine ∧ ∃ F2 vs2 acc2 m2, Iv (i + 1) acc2 m2 ∧ acc2.length ≤ i + 1 ∧ Go X.K m1 H1 F1 m2 (upd H4 L (.lst (ac ++ [y]))) F2 ∧ F2 L = none ∧ m2 L = none ∧ (upd H4 L (.lst (ac ++ [y]))) L = some (.lst vs2) ∧ Rps X.K F2 vs2 acc2 := fun {mc H3 F3} xe g4 s1 H01 C1 cl1 fp1 => by
      obtain ⟨c1, c2, c3⟩ := keep g4 k1 k2 k3
      refine ((he s1 H01 C1 cl1 fp1).go ρ2 mc _ EX0 xe).run F0 σ2 H3 F3 (S3.go g4) _ V0 takes0 (fun y H4 F4 dd m4 p4 g5 r5 => ?_) exk0
      obtain ⟨b1, b2, b3⟩ := keep g5 c1 c2 c3
      refine ⟨vs, b3, ?_, F4, vs ++ [y], acc ++ [dd], m4, p4, ?_, ?_, b1, b2, upd_same, ?_⟩
      · rw [hacc.length]
        exact Nat.lt_of_le_of_lt (show acc.length ≤ 100000 by omega) (by decide)
      · rw [List.length_append]; show acc.length + 1 ≤ i + 1; omega
      · exact (((g2.trans g3).trans g4).trans g5).patch hL b2 b1
      · exact (hacc.up (((g3.trans g4).trans g5).grow)).append (.one r5)
    cases hf with
    | no =>
      have st : ((true = true → W te ρ2 mi (fun d' m3 => Iv (i + 1) (acc ++ [d']) m3) EX0) ∧ (true = false → Iv (i + 1) acc mi)) := st
      simp only [bTs, tYes]
      rw [if_pos trivial]
      exact elem (st.1 rfl) (Go.refl S3.std)
    | @one cc tt hc =>
      show bT X scope cc σ2 H2 _
      intro s1 H01 C1 cl1 fp1
      refine ((hc s1 H01 C1 cl1 fp1).go ρ2 mi _ (fun b m'' => (b = true → W te ρ2 m'' (fun d' m3 => Iv (i + 1) (acc ++ [d']) m3) EX0) ∧ (b = false → Iv (i + 1) acc m'')) EX0 st (fun d m1 z => z)).run F0 σ2 H2 F2 S3 _ V0 takes0 (fun bb H3 F3 mc p4 g4 => ?_) exk0
      cases bb with
      | true => exact iteT (elem (p4.1 rfl) g4)
      | false =>
        obtain ⟨c1, c2, c3⟩ := keep g4 k1 k2 k3
        exact iteF ⟨F3, vs, acc, mc, p4.2 rfl, by omega, (g2.trans g3).trans g4, c1, c2, c3, hacc.up ((g3.trans g4).grow)⟩
  · have e1 : i = items.length := by omega
    subst e1
    exact .inl ⟨wd.stops H' F' mi g2.grow g2.std (hG _ _ _ (Nat.le_refl _) iv), q L vs H' F' acc mi iv g2 hL hmL hFL hHL hacc⟩
theorem newL_fin {K : PySem.W.Frag} {m0 : MS} {H0 F0 H' F' : Hp} {m' : MS} {L : Addr} {vs : List V} {acc : List D} {P : NX} {Q : VK} (n : NewL acc m' P) (q : ∀ v H' F' d m', P d m' → Go K m0 H0 F0 m' H' F' → Rp K F' v d → Q v H') (g : Go K m0 H0 F0 m' H' F') (h1 : H0 L = none) (h2 : m' L = none) (h3 : F' L = none) (h4 : H' L = some (.lst vs)) (h5 : Rps K F' vs acc) : Q (.ref L) H' := by
  rcases n with n | n
  · exact q (.ref L) H' (upd F' L (.lst vs)) _ m' n (g.adopt h1 h2 h3 h4) (.lst upd_same (h5.up fun a u e => by rw [upd_ne (ne_of_none e h3)]; exact e))
  · exact q (.ref L) H' F' _ _ (n L h2) (g.adoptC h1 h2 h3 h4 h5) (.raw _)
/-- a list comprehension -/
theorem lc_go {scope : Scope} {own : List (Str × Nat)} (hi : SI X tg iter is ts) (hv : own.map (·.2) = g.vars) (hg : ∀ s H C cl fp, XG (X.blk s H scope (compEnvC scope cl C X.env) fp) tg g) (hf : SL X scope ifs tifs) (he : ∀ s H C cl fp, SE (X.blk s H scope (compEnvC scope cl C X.env) fp) elt te)
    {ρ : Env1} {m : MS} {P : NX} {Z : EX} (p : W (.lc g is ts tifs te) ρ m P Z) {F0 : Hp} {σ : L2.St} {H F : Hp} (S : StR X.K F0 σ H F ρ m) {Q : VK} {V : WX} (tk : Takes X V) (q : ∀ v H' F' d m', P d m' → Go X.K m H F m' H' F' → Rp X.K F' v d → Q v H') (kx : ExK X F0 m H F Z V) :
    tLc (wI X tg iter) (bG X scope tg) (bTs X scope ifs) (bE X scope elt) (own.map (·.2)) σ H Q := by
  refine (hi.go ρ m _ Z p).run F0 σ H F S _ V tk (fun J H1 F1 items GG m1 p1 g1 wd => ?_) kx
  obtain ⟨hz, Iv, h0, hG, step, hd⟩ := p1
  exact lc_in wd hv hg hf he Iv h0 hG hz step (S.go g1) fun L vs H' F' acc m' iv g a1 a2 a3 a4 a5 => newL_fin (hd acc m' iv) q (g1.trans g) (by
    cases e : H L with
    | none => rfl
    | some u => exact absurd a1 (g1.kept L (by rw [e]; exact fun z => nomatch z))) a2 a3 a4 a5
theorem se_lc {scope : Scope} {own : List (Str × Nat)} (hN : X.N.Nodup) (hi : SI X tg iter is ts) (ok : BlkOk X.N X.env.scope scope own) (hv : own.map (·.2) = g.vars) (hg : ∀ s H C cl fp, XG (X.blk s H scope (compEnvC scope cl C X.env) fp) tg g) (hf : SL X scope ifs tifs) (he : ∀ s H C cl fp, SE (X.blk s H scope (compEnvC scope cl C X.env) fp) elt te)
    (hc : X.calm = true := by rfl) (hs : ∀ x, foldedSetIterable iter X.env x = pure x := by intro _; rfl) : SE X (.ListComp elt [⟨tg, iter, ifs, 0⟩] scope pos) (.lc g is ts tifs te) := ⟨fun ρ m P Z p => ⟨fun F0 σ H F S Q V tk q kx =>
  wE_of (pe_lc hc hN pi_w ok bG_pg (bTs_pts hf.le) bE_pe hs) (lc_go hi hv hg hf he p S tk q kx)⟩⟩
/-- name = [..], the name a local, on one line -/
theorem s_setLc {scope : Scope} {own : List (Str × Nat)} {i : Nat} {y : Str} {py spos : Pos} (hN : X.N.Nodup) (hi : SI X tg iter is ts) (ok : BlkOk X.N X.env.scope scope own) (hv : own.map (·.2) = g.vars) (hg : ∀ s H C cl fp, XG (X.blk s H scope (compEnvC scope cl C X.env) fp) tg g) (hf : SL X scope ifs tifs) (he : ∀ s H C cl fp, SE (X.blk s H scope (compEnvC scope cl C X.env) fp) elt te)
    (hy : X.N[i]? = some y := by rfl) (hyl : X.env.scope.names.lookup y = some .local := by rfl) (hsw : swapsWith (.ListComp elt [⟨tg, iter, ifs, 0⟩] scope pos) (some (.Name y py)) spos.line X.env = pure true := by exact sw_true rfl rfl rfl (by decide +kernel))
    (hc : X.calm = true := by rfl) (hs : ∀ x, foldedSetIterable iter X.env x = pure x := by intro _; rfl) : SS1 X (.Assign [.Name y py] (.ListComp elt [⟨tg, iter, ifs, 0⟩] scope pos) spos) (.set i (.lc g is ts tifs te)) := ⟨fun ρ m A p => ⟨fun F0 σ H F S E V tk k pins s I => by
  have hl := nx_of_inv I hy
  refine wS_of (ps_setLc hc hN hy hyl hsw pi_w ok bG_pg (bTs_pts hf.le) bE_pe hs) ?_ pins s I
  exact lc_go hi hv hg hf he p S tk (fun v H1 F1 d m1 p1 g r => k.nx _ H1 F1 _ m1 p1 g ((S.go g).set r hl)) k.ex⟩⟩
end
end Nu

namespace Nu
open PySem PySem.Spec L2
open PyProof.Rows hiding St
/-! ### a list or a tuple -/
def SqA (K : PySem.W.Frag) : Bool → Hp → Addr → List V → Prop
  | true => SqT K
  | false => SqL K
def ItA : Bool → Heap → Addr → Addr → Nat → Prop
  | true => fun h it l i => h.IsTupleIter it l i
  | false => fun h it l i => h.IsListIter it l i
def CtA : Bool → Heap → Addr → Array Value → Prop
  | true => fun h l its => h.IsTuple l its
  | false => fun h l its => h.IsList l its
def itO : Bool → Addr → Obj
  | true, l => { cls := .type "tuple_iterator", data := .fields #[.ref l, .int 0 0] }
  | false, l => { cls := .type "list_iterator", data := .fields #[.ref l, .int 0 0] }
section
variable {X : Cx} {pins : List (Addr × Obj)} {σ : L2.St} {H : Hp} {s : Shared} {a it l : Addr} {xs ys : List V} {tp : Bool} {h h' : Heap} {i : Nat} {its : Array Value}
theorem seqA_at (I : Inv X pins σ H s) (q : SqA X.K tp H a xs) : ∃ its : List Value, Vals xs its ∧ CtA tp s.heap a its.toArray := by
  cases tp with
  | true =>
    obtain ⟨its, r, p, _⟩ := I.tuple q
    exact ⟨its, r, p⟩
  | false =>
    obtain ⟨its, r, p, _⟩ := I.list q
    exact ⟨its, r, p.isList⟩
theorem seqA_inj (I : Inv X pins σ H s) (q : SqA X.K tp H a xs) (q' : SqA X.K tp H a ys) : xs = ys := by
  cases tp with
  | true => exact I.tuple_inj q q'
  | false => exact I.list_inj q q'
theorem ctA_lt (q : CtA tp h l its) : l < h.objs.size := by
  cases tp with
  | true => obtain ⟨o, e, _⟩ := (show h.IsTuple l its from q); exact Heap.lt_size e
  | false => obtain ⟨o, e, _⟩ := (show h.IsList l its from q); exact Heap.lt_size e
theorem ctA_at (q : CtA tp h l its) (k : ∀ o, h.get? l = some o → h'.get? l = some o) : CtA tp h' l its := by
  cases tp with
  | true => exact (show h.IsTuple l its from q).at k
  | false => exact (show h.IsList l its from q).at k
theorem itA_at (q : ItA tp h it l i) (k : ∀ o, h.get? it = some o → h'.get? it = some o) : ItA tp h' it l i := by
  cases tp with
  | true => exact (show h.IsTupleIter it l i from q).at k
  | false => exact (show h.IsListIter it l i from q).at k
theorem itA_obj (q : ItA tp h it l i) : ∃ o, h.get? it = some o ∧ ∀ v, o.data ≠ .cell v := by
  cases tp with
  | true => obtain ⟨o, e, _, d⟩ := (show h.IsTupleIter it l i from q); exact ⟨o, e, fun v z => by rw [d] at z; cases z⟩
  | false => obtain ⟨o, e, _, d⟩ := (show h.IsListIter it l i from q); exact ⟨o, e, fun v z => by rw [d] at z; cases z⟩
theorem itA_new (q : h.get? it = some (itO tp l)) : ItA tp h it l 0 := by
  cases tp with
  | true => exact ⟨_, q, rfl, rfl⟩
  | false => exact ⟨_, q, rfl, rfl⟩
theorem drawsA {prog : Program} {w : World} {A : Around} (hh : A.handled = none) (tp : Bool) (it l : Addr) (hne : l ≠ it) (items : Array Value) :
    Draws prog w A it [it, l] items.size (fun i v => items[i]? = some v) (fun i h => ItA tp h it l i ∧ CtA tp h l items) := by
  cases tp with
  | true => exact Draws.tuple hh it l hne items
  | false => exact Draws.list hh it l hne items
theorem beginsA (tp : Bool) (l : Addr) (items : Array Value) : Begins (.ref l) (itO tp l) fun h => CtA tp h l items := by
  cases tp with
  | true => exact begins_tuple l items
  | false => exact begins_list l items
end
/-! ### zip of two, of three, enumerate -/
def J2 (K : PySem.W.Frag) (t1 t2 : Bool) (a b : Addr) : It :=
  ⟨fun i H => ∃ (xs ys : List V), SqA K t1 H a xs ∧ SqA K t2 H b ys ∧ i < min xs.length ys.length,
    fun i H v H' => ∃ T x y, v = .ref T ∧ H T = none ∧ H' = upd H T (.tup [x, y]) ∧ (∀ xs, SqA K t1 H a xs → xs[i]? = some x) ∧ ∀ ys, SqA K t2 H b ys → ys[i]? = some y,
    fun i H => ∃ xs ys : List V, SqA K t1 H a xs ∧ SqA K t2 H b ys ∧ i = min xs.length ys.length⟩
def J3 (K : PySem.W.Frag) (t1 t2 t3 : Bool) (a b c : Addr) : It :=
  ⟨fun i H => ∃ (xs ys zs : List V), SqA K t1 H a xs ∧ SqA K t2 H b ys ∧ SqA K t3 H c zs ∧ i < min (min xs.length ys.length) zs.length,
    fun i H v H' => ∃ T x y z, v = .ref T ∧ H T = none ∧ H' = upd H T (.tup [x, y, z]) ∧ (∀ xs, SqA K t1 H a xs → xs[i]? = some x) ∧ (∀ ys, SqA K t2 H b ys → ys[i]? = some y) ∧ ∀ zs, SqA K t3 H c zs → zs[i]? = some z,
    fun i H => ∃ xs ys zs : List V, SqA K t1 H a xs ∧ SqA K t2 H b ys ∧ SqA K t3 H c zs ∧ i = min (min xs.length ys.length) zs.length⟩
def JE (K : PySem.W.Frag) (t1 : Bool) (a : Addr) : It :=
  ⟨fun i H => ∃ (xs : List V), SqA K t1 H a xs ∧ i < xs.length,
    fun i H v H' => ∃ T x, v = .ref T ∧ H T = none ∧ H' = upd H T (.tup [.int (i : Nat), x]) ∧ ∀ xs, SqA K t1 H a xs → xs[i]? = some x,
    fun i H => ∃ xs : List V, SqA K t1 H a xs ∧ i = xs.length⟩
theorem tup_ok {P : Program} {w : World} {H : Hp} {h : Heap} {T : Addr} {xs : List V} {us : List Value} {its : Array Value} (e : its = us.toArray) (hT : h.IsTuple T its) (r : Vals xs us) (hl : xs.length ≤ 100) : ObjOk P w H h T (.tup xs) := by
  subst e
  exact ⟨Nat.le_trans hl (by decide), us, r, hT⟩
theorem turn_z2 {P : Program} {w : World} {K : PySem.W.Frag} {elts : List Expr} {kk : Nat} {tpos : Pos} {t1 t2 : Bool} {a b N : Addr} (la : a < N) (lb : b < N) :
    Turn P w K (.Tuple elts kk tpos) (J2 K t1 t2 a b) [N + 4, N + 2, N + 3, N, N + 1] (N + 4) (fun i h => IsZip h (N + 4) (N + 2) (N + 3) .none ∧ IsTupOf2 h (N + 2) (.ref N) (.ref (N + 1)) ∧ (∃ x y, IsTupOf2 h (N + 3) x y) ∧ ItA t1 h N a i ∧ ItA t2 h (N + 1) b i) where
  mem := by simp
  obj := fun i h st c hc => by
    obtain ⟨hz, hTI, ⟨x, y, hTO⟩, h1, h2⟩ := st
    have e' : c = N + 4 ∨ c = N + 2 ∨ c = N + 3 ∨ c = N ∨ c = N + 1 := by simpa using hc
    rcases e' with q | q | q | q | q
    · rw [q]; exact ⟨_, hz, fun v q => nomatch q⟩
    · rw [q]; exact ⟨_, hTI, fun v q => nomatch q⟩
    · rw [q]; exact ⟨_, hTO, fun v q => nomatch q⟩
    · rw [q]; exact itA_obj h1
    · rw [q]; exact itA_obj h2
  keep := fun i h h' st k => by
    obtain ⟨hz, hTI, ⟨x, y, hTO⟩, h1, h2⟩ := st
    exact ⟨k _ (by simp) _ hz, k _ (by simp) _ hTI, ⟨x, y, k _ (by simp) _ hTO⟩, itA_at h1 fun o q => k _ (by simp) o q, itA_at h2 fun o q => k _ (by simp) o q⟩
  item := by
    intro X hP hw hK hc i pins s σ H E I hf st hg
    subst hP hw hK
    obtain ⟨hz, hTI, hTO, h1, h2⟩ := st
    obtain ⟨xs, ys, hqx, hqy, hi⟩ := hg
    obtain ⟨its, rv, p⟩ := seqA_at I hqx
    obtain ⟨its2, rv2, p2⟩ := seqA_at I hqy
    have l1 := rv.length
    have l2 := rv2.length
    have G := GoesN.zip2 (prog := X.prog) (w := X.w) (A := X.A) (elts := elts) (x1 := kk) (pos := tpos) (zip_sep2 (N := N) (fp1 := [a]) (fp2 := [b]) (by simpa using la) (by simpa using lb))
      (drawsA (A := X.A.in1) (show X.A.in1.handled = none from I.ok.hd hc) t1 N a (Nat.ne_of_lt la) its.toArray) (drawsA (A := X.A.in1) (show X.A.in1.handled = none from I.ok.hd hc) t2 (N + 1) b (Nat.ne_of_lt (Nat.lt_succ_of_lt lb)) its2.toArray)
    refine wpAny_mono (G.goes i s (fun v s2 => ∃ x H', Inv X pins σ H' s2 ∧ RelV x v ∧ (J2 X.K t1 t2 a b).yld i H x H' ∧ (IsZip s2.heap (N + 4) (N + 2) (N + 3) .none ∧ IsTupOf2 s2.heap (N + 2) (.ref N) (.ref (N + 1)) ∧ (∃ x y, IsTupOf2 s2.heap (N + 3) x y) ∧ ItA t1 s2.heap N a (i + 1) ∧ ItA t2 s2.heap (N + 1) b (i + 1)) ∧ ∀ c ∈ [N + 4, N + 2, N + 3, N, N + 1], H' c = none) E (by simp only [List.size_toArray]; omega) ⟨hz, hTI, hTO, ⟨h1, p⟩, ⟨h2, p2⟩⟩ fun v h' tk hY hst hk htk => ?_) (fun r s1 hq => ?_) fun _ _ z => z
    · obtain ⟨T, x, y, rfl, hTn, hx, hy, hT⟩ := hY
      have hx' : its[i]? = some x := by simpa using hx
      have hy' : its2[i]? = some y := by simpa using hy
      have hix : i < xs.length := by omega
      have hiy : i < ys.length := by omega
      obtain ⟨u, hu, ru⟩ := rv.get (List.getElem?_eq_getElem hix)
      obtain ⟨u2, hu2, ru2⟩ := rv2.get (List.getElem?_eq_getElem hiy)
      rw [hx'] at hu; cases hu
      rw [hy'] at hu2; cases hu2
      have new : ObjOk X.prog X.w (upd H T (.tup [xs[i], ys[i]])) h' T (.tup [xs[i], ys[i]]) := tup_ok rfl hT (us := [x, y]) (.cons ru (.cons ru2 .nil)) (by simp)
      have I1 : Inv X pins σ (upd H T (.tup [xs[i], ys[i]])) { s with heap := h', toks := tk } := I.turnedNew (t' := tk) (ch := [N + 4, N + 2, N + 3, N, N + 1]) (fun c o hb q => hk c o (fun hm => hb (by
        have e' : c = N + 4 ∨ c = N + 3 ∨ c = N ∨ c = N + 1 := by simpa using hm
        rcases e' with z | z | z | z <;> simp [z])) q) hf hTn new
      obtain ⟨z1, z2, z3, z4, z5⟩ := hst
      refine ⟨.ref T, _, I1, rfl, ⟨T, _, _, rfl, I.hok.fresh hTn, rfl, fun l hl => ?_, fun l hl => ?_⟩, ⟨z1, z2, z3, z4.1, z5.1⟩, fun c hcm => ?_⟩
      · rw [seqA_inj I hl hqx]; exact List.getElem?_eq_getElem hix
      · rw [seqA_inj I hl hqy]; exact List.getElem?_eq_getElem hiy
      · have hlt : c < s.heap.objs.size := by
          have e' : c = N + 4 ∨ c = N + 2 ∨ c = N + 3 ∨ c = N ∨ c = N + 1 := by simpa using hcm
          obtain ⟨_, _, hTO⟩ := hTO
          rcases e' with q | q | q | q | q
          · rw [q]; exact Heap.lt_size hz
          · rw [q]; exact Heap.lt_size hTI
          · rw [q]; exact Heap.lt_size hTO
          · rw [q]; obtain ⟨_, e1, _⟩ := itA_obj h1; exact Heap.lt_size e1
          · rw [q]; obtain ⟨_, e2, _⟩ := itA_obj h2; exact Heap.lt_size e2
        rw [upd_ne (Nat.ne_of_lt (Nat.lt_of_lt_of_le hlt hTn))]
        exact (hf c hcm).1
    · obtain ⟨v, e, hq⟩ := hq
      exact ⟨v, e, hq⟩
  done := by
    intro X hP hw hK hc i pins s σ H E I hf st hg
    subst hP hw hK
    obtain ⟨hz, hTI, hTO, h1, h2⟩ := st
    obtain ⟨xs, ys, hqx, hqy, rfl⟩ := hg
    obtain ⟨its, rv, p⟩ := seqA_at I hqx
    obtain ⟨its2, rv2, p2⟩ := seqA_at I hqy
    have l1 := rv.length
    have l2 := rv2.length
    have G := GoesN.zip2 (prog := X.prog) (w := X.w) (A := X.A) (elts := elts) (x1 := kk) (pos := tpos) (zip_sep2 (N := N) (fp1 := [a]) (fp2 := [b]) (by simpa using la) (by simpa using lb))
      (drawsA (A := X.A.in1) (show X.A.in1.handled = none from I.ok.hd hc) t1 N a (Nat.ne_of_lt la) its.toArray) (drawsA (A := X.A.in1) (show X.A.in1.handled = none from I.ok.hd hc) t2 (N + 1) b (Nat.ne_of_lt (Nat.lt_succ_of_lt lb)) its2.toArray)
    refine G.stops s _ E ?_ fun h' tk hk htk => I.turnedL (t' := tk) (ch := [N + 4, N + 2, N + 3, N, N + 1]) (fun c o hb q => hk c o (fun hm => hb (by
        have e' : c = N + 4 ∨ c = N + 3 ∨ c = N ∨ c = N + 1 := by simpa using hm
        rcases e' with z | z | z | z <;> simp [z])) q) hf
    simp only [List.size_toArray]
    rw [← l1, ← l2]
    exact ⟨hz, hTI, hTO, ⟨h1, p⟩, ⟨h2, p2⟩⟩
  self := fun A i s Q E st h => wpAny_pyIter_zip st.1 h
theorem turn_z3 {P : Program} {w : World} {K : PySem.W.Frag} {elts : List Expr} {kk : Nat} {tpos : Pos} {t1 t2 t3 : Bool} {a b d N : Addr} (la : a < N) (lb : b < N) (ld : d < N) :
    Turn P w K (.Tuple elts kk tpos) (J3 K t1 t2 t3 a b d) [N + 5, N + 3, N + 4, N, N + 1, N + 2] (N + 5) (fun i h => IsZip h (N + 5) (N + 3) (N + 4) .none ∧ IsTupOf3 h (N + 3) (.ref N) (.ref (N + 1)) (.ref (N + 2)) ∧ (∃ x y z, IsTupOf3 h (N + 4) x y z) ∧ ItA t1 h N a i ∧ ItA t2 h (N + 1) b i ∧ ItA t3 h (N + 2) d i) where
  mem := by simp
  obj := fun i h st c hc => by
    obtain ⟨hz, hTI, ⟨x, y, z, hTO⟩, h1, h2, h3⟩ := st
    have e' : c = N + 5 ∨ c = N + 3 ∨ c = N + 4 ∨ c = N ∨ c = N + 1 ∨ c = N + 2 := by simpa using hc
    rcases e' with q | q | q | q | q | q
    · rw [q]; exact ⟨_, hz, fun v q => nomatch q⟩
    · rw [q]; exact ⟨_, hTI, fun v q => nomatch q⟩
    · rw [q]; exact ⟨_, hTO, fun v q => nomatch q⟩
    · rw [q]; exact itA_obj h1
    · rw [q]; exact itA_obj h2
    · rw [q]; exact itA_obj h3
  keep := fun i h h' st k => by
    obtain ⟨hz, hTI, ⟨x, y, z, hTO⟩, h1, h2, h3⟩ := st
    exact ⟨k _ (by simp) _ hz, k _ (by simp) _ hTI, ⟨x, y, z, k _ (by simp) _ hTO⟩, itA_at h1 fun o q => k _ (by simp) o q, itA_at h2 fun o q => k _ (by simp) o q, itA_at h3 fun o q => k _ (by simp) o q⟩
  item := by
    intro X hP hw hK hc i pins s σ H E I hf st hg
    subst hP hw hK
    obtain ⟨hz, hTI, hTO, h1, h2, h3⟩ := st
    obtain ⟨xs, ys, zs, hqx, hqy, hqz, hi⟩ := hg
    obtain ⟨its, rv, p⟩ := seqA_at I hqx
    obtain ⟨its2, rv2, p2⟩ := seqA_at I hqy
    obtain ⟨its3, rv3, p3⟩ := seqA_at I hqz
    have l1 := rv.length
    have l2 := rv2.length
    have l3 := rv3.length
    have G := GoesN.zip3 (prog := X.prog) (w := X.w) (A := X.A) (elts := elts) (x1 := kk) (pos := tpos) (zip_sep3 (N := N) (fp1 := [a]) (fp2 := [b]) (fp3 := [d]) (by simpa using la) (by simpa using lb) (by simpa using ld))
      (drawsA (A := X.A.in1) (show X.A.in1.handled = none from I.ok.hd hc) t1 N a (Nat.ne_of_lt la) its.toArray) (drawsA (A := X.A.in1) (show X.A.in1.handled = none from I.ok.hd hc) t2 (N + 1) b (Nat.ne_of_lt (Nat.lt_succ_of_lt lb)) its2.toArray) (drawsA (A := X.A.in1) (show X.A.in1.handled = none from I.ok.hd hc) t3 (N + 2) d (Nat.ne_of_lt (Nat.lt_succ_of_lt (Nat.lt_succ_of_lt ld))) its3.toArray)
    refine wpAny_mono (G.goes i s (fun v s2 => ∃ x H', Inv X pins σ H' s2 ∧ RelV x v ∧ (J3 X.K t1 t2 t3 a b d).yld i H x H' ∧ (IsZip s2.heap (N + 5) (N + 3) (N + 4) .none ∧ IsTupOf3 s2.heap (N + 3) (.ref N) (.ref (N + 1)) (.ref (N + 2)) ∧ (∃ x y z, IsTupOf3 s2.heap (N + 4) x y z) ∧ ItA t1 s2.heap N a (i + 1) ∧ ItA t2 s2.heap (N + 1) b (i + 1) ∧ ItA t3 s2.heap (N + 2) d (i + 1)) ∧ ∀ c ∈ [N + 5, N + 3, N + 4, N, N + 1, N + 2], H' c = none) E (by simp only [List.size_toArray]; omega) ⟨hz, hTI, hTO, ⟨h1, p⟩, ⟨h2, p2⟩, ⟨h3, p3⟩⟩ fun v h' tk hY hst hk htk => ?_) (fun r s1 hq => ?_) fun _ _ z => z
    · obtain ⟨T, x, y, z, rfl, hTn, hx, hy, hz', hT⟩ := hY
      have hx' : its[i]? = some x := by simpa using hx
      have hy' : its2[i]? = some y := by simpa using hy
      have hz'' : its3[i]? = some z := by simpa using hz'
      have hix : i < xs.length := by omega
      have hiy : i < ys.length := by omega
      have hiz : i < zs.length := by omega
      obtain ⟨u, hu, ru⟩ := rv.get (List.getElem?_eq_getElem hix)
      obtain ⟨u2, hu2, ru2⟩ := rv2.get (List.getElem?_eq_getElem hiy)
      obtain ⟨u3, hu3, ru3⟩ := rv3.get (List.getElem?_eq_getElem hiz)
      rw [hx'] at hu; cases hu
      rw [hy'] at hu2; cases hu2
      rw [hz''] at hu3; cases hu3
      have new : ObjOk X.prog X.w (upd H T (.tup [xs[i], ys[i], zs[i]])) h' T (.tup [xs[i], ys[i], zs[i]]) := tup_ok rfl hT (us := [x, y, z]) (.cons ru (.cons ru2 (.cons ru3 .nil))) (by simp)
      have I1 : Inv X pins σ (upd H T (.tup [xs[i], ys[i], zs[i]])) { s with heap := h', toks := tk } := I.turnedNew (t' := tk) (ch := [N + 5, N + 3, N + 4, N, N + 1, N + 2]) (fun c o hb q => hk c o (fun hm => hb (by
        have e' : c = N + 5 ∨ c = N + 4 ∨ c = N ∨ c = N + 1 ∨ c = N + 2 := by simpa using hm
        rcases e' with z | z | z | z | z <;> simp [z])) q) hf hTn new
      obtain ⟨z1, z2, z3, z4, z5, z6⟩ := hst
      refine ⟨.ref T, _, I1, rfl, ⟨T, _, _, _, rfl, I.hok.fresh hTn, rfl, fun l hl => ?_, fun l hl => ?_, fun l hl => ?_⟩, ⟨z1, z2, z3, z4.1, z5.1, z6.1⟩, fun c hcm => ?_⟩
      · rw [seqA_inj I hl hqx]; exact List.getElem?_eq_getElem hix
      · rw [seqA_inj I hl hqy]; exact List.getElem?_eq_getElem hiy
      · rw [seqA_inj I hl hqz]; exact List.getElem?_eq_getElem hiz
      · have hlt : c < s.heap.objs.size := by
          have e' : c = N + 5 ∨ c = N + 3 ∨ c = N + 4 ∨ c = N ∨ c = N + 1 ∨ c = N + 2 := by simpa using hcm
          obtain ⟨_, _, _, hTO⟩ := hTO
          rcases e' with q | q | q | q | q | q
          · rw [q]; exact Heap.lt_size hz
          · rw [q]; exact Heap.lt_size hTI
          · rw [q]; exact Heap.lt_size hTO
          · rw [q]; obtain ⟨_, e1, _⟩ := itA_obj h1; exact Heap.lt_size e1
          · rw [q]; obtain ⟨_, e2, _⟩ := itA_obj h2; exact Heap.lt_size e2
          · rw [q]; obtain ⟨_, e2, _⟩ := itA_obj h3; exact Heap.lt_size e2
        rw [upd_ne (Nat.ne_of_lt (Nat.lt_of_lt_of_le hlt hTn))]
        exact (hf c hcm).1
    · obtain ⟨v, e, hq⟩ := hq
      exact ⟨v, e, hq⟩
  done := by
    intro X hP hw hK hc i pins s σ H E I hf st hg
    subst hP hw hK
    obtain ⟨hz, hTI, hTO, h1, h2, h3⟩ := st
    obtain ⟨xs, ys, zs, hqx, hqy, hqz, rfl⟩ := hg
    obtain ⟨its, rv, p⟩ := seqA_at I hqx
    obtain ⟨its2, rv2, p2⟩ := seqA_at I hqy
    obtain ⟨its3, rv3, p3⟩ := seqA_at I hqz
    have l1 := rv.length
    have l2 := rv2.length
    have l3 := rv3.length
    have G := GoesN.zip3 (prog := X.prog) (w := X.w) (A := X.A) (elts := elts) (x1 := kk) (pos := tpos) (zip_sep3 (N := N) (fp1 := [a]) (fp2 := [b]) (fp3 := [d]) (by simpa using la) (by simpa using lb) (by simpa using ld))
      (drawsA (A := X.A.in1) (show X.A.in1.handled = none from I.ok.hd hc) t1 N a (Nat.ne_of_lt la) its.toArray) (drawsA (A := X.A.in1) (show X.A.in1.handled = none from I.ok.hd hc) t2 (N + 1) b (Nat.ne_of_lt (Nat.lt_succ_of_lt lb)) its2.toArray) (drawsA (A := X.A.in1) (show X.A.in1.handled = none from I.ok.hd hc) t3 (N + 2) d (Nat.ne_of_lt (Nat.lt_succ_of_lt (Nat.lt_succ_of_lt ld))) its3.toArray)
    refine G.stops s _ E ?_ fun h' tk hk htk => I.turnedL (t' := tk) (ch := [N + 5, N + 3, N + 4, N, N + 1, N + 2]) (fun c o hb q => hk c o (fun hm => hb (by
        have e' : c = N + 5 ∨ c = N + 4 ∨ c = N ∨ c = N + 1 ∨ c = N + 2 := by simpa using hm
        rcases e' with z | z | z | z | z <;> simp [z])) q) hf
    simp only [List.size_toArray]
    rw [← l1, ← l2, ← l3]
    exact ⟨hz, hTI, hTO, ⟨h1, p⟩, ⟨h2, p2⟩, ⟨h3, p3⟩⟩
  self := fun A i s Q E st h => wpAny_pyIter_zip st.1 h
theorem turn_en {P : Program} {w : World} {K : PySem.W.Frag} {elts : List Expr} {kk : Nat} {tpos : Pos} {t1 : Bool} {a N : Addr} (la : a < N) :
    Turn P w K (.Tuple elts kk tpos) (JE K t1 a) [N + 1, N] (N + 1) (fun i h => (∃ old, IsEnum h (N + 1) N ((0 : Int) + (i : Nat)) old) ∧ ItA t1 h N a i) where
  mem := by simp
  obj := fun i h st c hc => by
    obtain ⟨⟨_, hz⟩, h1⟩ := st
    have e' : c = N + 1 ∨ c = N := by simpa using hc
    rcases e' with q | q
    · rw [q]; exact ⟨_, hz, fun v q => nomatch q⟩
    · rw [q]; exact itA_obj h1
  keep := fun i h h' st k => by
    obtain ⟨⟨o, hz⟩, h1⟩ := st
    exact ⟨⟨o, k _ (by simp) _ hz⟩, itA_at h1 fun o q => k _ (by simp) o q⟩
  item := by
    intro X hP hw hK hc i pins s σ H E I hf st hg
    subst hP hw hK
    obtain ⟨hz, h1⟩ := st
    obtain ⟨xs, hqx, hi⟩ := hg
    obtain ⟨its, rv, p⟩ := seqA_at I hqx
    have l1 := rv.length
    have G := GoesN.enumFrom (prog := X.prog) (w := X.w) (A := X.A) (elts := elts) (x1 := kk) (pos := tpos) 0 (drawsA (A := X.A.in1) (show X.A.in1.handled = none from I.ok.hd hc) t1 N a (Nat.ne_of_lt la) its.toArray) (N + 1) (Nat.succ_ne_self _) (fun hm => by
      have e' : N + 1 = N ∨ N + 1 = a := by simpa using hm
      rcases e' with z | z
      · exact absurd z (Nat.succ_ne_self _)
      · exact absurd z (Nat.ne_of_gt (Nat.lt_succ_of_lt la))) (by simp)
    refine wpAny_mono (G.goes i s (fun v s2 => ∃ x H', Inv X pins σ H' s2 ∧ RelV x v ∧ (JE X.K t1 a).yld i H x H' ∧ ((∃ old, IsEnum s2.heap (N + 1) N ((0 : Int) + ((i + 1 : Nat))) old) ∧ ItA t1 s2.heap N a (i + 1)) ∧ ∀ c ∈ [N + 1, N], H' c = none) E (by simp only [List.size_toArray]; omega) ⟨hz, h1, p⟩ fun v h' tk hY hst hk htk => ?_) (fun r s1 hq => ?_) fun _ _ z => z
    · obtain ⟨T, t, x, rfl, hTn, hx, hT⟩ := hY
      have hx' : its[i]? = some x := by simpa using hx
      have hix : i < xs.length := by omega
      obtain ⟨u, hu, ru⟩ := rv.get (List.getElem?_eq_getElem hix)
      rw [hx'] at hu; cases hu
      have new : ObjOk X.prog X.w (upd H T (.tup [.int (i : Nat), xs[i]])) h' T (.tup [.int (i : Nat), xs[i]]) := tup_ok rfl hT (us := [.int ((0 : Int) + (i : Nat)) t, x]) (.cons ⟨t, by rw [Int.zero_add]⟩ (.cons ru .nil)) (by simp)
      have I1 : Inv X pins σ (upd H T (.tup [.int (i : Nat), xs[i]])) { s with heap := h', toks := tk } := I.turnedNew (t' := tk) (ch := [N + 1, N]) (fun c o hb q => hk c o hb q) hf hTn new
      obtain ⟨z1, z2⟩ := hst
      refine ⟨.ref T, _, I1, rfl, ⟨T, _, rfl, I.hok.fresh hTn, rfl, fun l hl => ?_⟩, ⟨z1, z2.1⟩, fun c hcm => ?_⟩
      · rw [seqA_inj I hl hqx]; exact List.getElem?_eq_getElem hix
      · have hlt : c < s.heap.objs.size := by
          have e' : c = N + 1 ∨ c = N := by simpa using hcm
          obtain ⟨_, hz⟩ := hz
          rcases e' with q | q
          · rw [q]; exact Heap.lt_size hz
          · rw [q]; obtain ⟨_, e1, _⟩ := itA_obj h1; exact Heap.lt_size e1
        rw [upd_ne (Nat.ne_of_lt (Nat.lt_of_lt_of_le hlt hTn))]
        exact (hf c hcm).1
    · obtain ⟨v, e, hq⟩ := hq
      exact ⟨v, e, hq⟩
  done := by
    intro X hP hw hK hc i pins s σ H E I hf st hg
    subst hP hw hK
    obtain ⟨hz, h1⟩ := st
    obtain ⟨xs, hqx, rfl⟩ := hg
    obtain ⟨its, rv, p⟩ := seqA_at I hqx
    have l1 := rv.length
    have G := GoesN.enumFrom (prog := X.prog) (w := X.w) (A := X.A) (elts := elts) (x1 := kk) (pos := tpos) 0 (drawsA (A := X.A.in1) (show X.A.in1.handled = none from I.ok.hd hc) t1 N a (Nat.ne_of_lt la) its.toArray) (N + 1) (Nat.succ_ne_self _) (fun hm => by
      have e' : N + 1 = N ∨ N + 1 = a := by simpa using hm
      rcases e' with z | z
      · exact absurd z (Nat.succ_ne_self _)
      · exact absurd z (Nat.ne_of_gt (Nat.lt_succ_of_lt la))) (by simp)
    refine G.stops s _ E ?_ fun h' tk hk htk => I.turnedL (t' := tk) (ch := [N + 1, N]) (fun c o hb q => hk c o hb q) hf
    simp only [List.size_toArray]
    rw [← l1]
    exact ⟨hz, h1, p⟩
  self := fun A i s Q E st h => by
    obtain ⟨⟨_, e⟩, _⟩ := st
    exact wpAny_pyIter_enum e h
/-! ### what is walked -/
/-- a list, frozen or as a cell, or a tuple -/
def seqD (d : D) (m : MS) (R : List D → (MS → Prop) → Prop) : Prop := match d with
  | .lst xs => R xs fun _ => True
  | .fls xs => R xs fun _ => True
  | .tup xs => R xs fun _ => True
  | .raw (.ref p) => ∃ xs, m p = some (.lst xs) ∧ R xs fun m' => m' p = some (.lst xs)
  | _ => False
theorem seqD_use {K : PySem.W.Frag} {m : MS} {H F : Hp} {d : D} {v : V} {R : List D → (MS → Prop) → Prop} (h : seqD d m R) (s : Std K m H F) (r : Rp K F v d) :
    ∃ a tp xs GG, v = .ref a ∧ R xs GG ∧ GG m ∧ ∀ m' H' F', Same F F' → Std K m' H' F' → GG m' → ∃ vs, SqA K tp H' a vs ∧ Rps K F' vs xs := by
  cases d with
  | lst xs =>
    cases r with
    | @lst a vs _ h1 h2 => exact ⟨a, false, xs, _, rfl, h, trivial, fun m' H' F' g s' _ => ⟨vs, .inl (.inl (s'.at (g _ _ h1))), h2.up g _⟩⟩
  | fls xs =>
    cases r with
    | @fls a vs _ h1 h2 => exact ⟨a, false, xs, _, rfl, h, trivial, fun m' H' F' g s' _ => ⟨vs, s'.toH.seq (g.seq h1), h2.up g _⟩⟩
  | tup xs =>
    cases r with
    | @tup a vs _ h1 h2 => exact ⟨a, true, xs, _, rfl, h, trivial, fun m' H' F' g s' _ => ⟨vs, Same.seqT s'.toH (Same.seqT g h1), h2.up g _⟩⟩
  | raw v =>
    cases v with
    | ref p =>
      cases r
      obtain ⟨xs, e, h⟩ := h
      refine ⟨p, false, xs, _, rfl, h, e, fun m' H' F' g s' e' => ?_⟩
      obtain ⟨vs, h1, h2⟩ := s'.cells p _ e'
      exact ⟨vs, .inl (.inl h1), h2⟩
    | _ => exact h.elim
  | _ => exact h.elim
def signs (z : Str) : List D := z.cps.toList.map fun c => .str ⟨#[c]⟩
def isVal : IS := fun ds m R => match ds with
  | [.str z] => R (signs z) (fun _ => True) m
  | [d] => seqD d m fun xs GG => R xs GG m
  | _ => False
def zipD (xs ys : List D) : List D := (xs.zip ys).map fun p => .tup [p.1, p.2]
def zip3D (xs ys zs : List D) : List D := ((xs.zip ys).zip zs).map fun p => .tup [p.1.1, p.1.2, p.2]
def enumD (xs : List D) : List D := xs.zipIdx.map fun p => .tup [.int (p.2 : Nat), p.1]
def rngD (lo : Int) (n : Nat) : List D := (List.range n).map fun i => D.int (lo + (i : Nat))
def rngC (lo c : Int) (n : Nat) : List D := (List.range n).map fun i => D.int (lo + (i : Nat) * c)
def isZip : IS := fun ds m R => match ds with
  | [a, b] => seqD a m fun xs G1 => seqD b m fun ys G2 => R (zipD xs ys) (fun m' => G1 m' ∧ G2 m') m
  | [a, b, c] => seqD a m fun xs G1 => seqD b m fun ys G2 => seqD c m fun zs G3 => R (zip3D xs ys zs) (fun m' => G1 m' ∧ G2 m' ∧ G3 m') m
  | _ => False
def isEnum : IS := fun ds m R => match ds with
  | [a] => seqD a m fun xs G1 => R (enumD xs) G1 m
  | _ => False
def isRev : IS := fun ds m R => match ds with
  | [a] => seqD a m fun xs G1 => R xs.reverse G1 m
  | _ => False
def isRng : IS := fun ds m R => match ds with
  | [.int j] => (-(2 ^ 62) ≤ j ∧ j < 2 ^ 62) ∧ R (rngD 0 j.toNat) (fun _ => True) m
  | [.int i, .int j] => (-(2 ^ 62) ≤ i ∧ i < 2 ^ 62 ∧ -(2 ^ 62) ≤ j ∧ j < 2 ^ 62) ∧ R (rngD i (j - i).toNat) (fun _ => True) m
  | [.int i, .int j, .int c] => (-(2 ^ 62) ≤ i ∧ i < 2 ^ 62 ∧ -(2 ^ 62) ≤ j ∧ j < 2 ^ 62 ∧ c = -1) ∧ R (rngC i (-1) (i - j).toNat) (fun _ => True) m
  | _ => False
theorem rps_last {K : PySem.W.Frag} {F : Hp} {vs : List V} {ds : List D} {i : Nat} {x : V} {d : D} (h : Rps K F vs ds) (e1 : vs[i]? = some x) (e2 : ds[i]? = some d) : Rp K F x d := by
  obtain ⟨v, a, b⟩ := h.get e2
  rw [e1] at a; cases a; exact b
theorem zipD_len (xs ys : List D) : (zipD xs ys).length = min xs.length ys.length := by simp [zipD]
theorem zip3D_len (xs ys zs : List D) : (zip3D xs ys zs).length = min (min xs.length ys.length) zs.length := by simp [zip3D]
theorem enumD_len (xs : List D) : (enumD xs).length = xs.length := by simp [enumD]
theorem zipD_get {xs ys : List D} {i : Nat} {d : D} (h : (zipD xs ys)[i]? = some d) : ∃ x y, xs[i]? = some x ∧ ys[i]? = some y ∧ d = .tup [x, y] := by
  unfold zipD at h
  rw [List.getElem?_map] at h
  cases e : (xs.zip ys)[i]? with
  | none => rw [e] at h; cases h
  | some p =>
    rw [e] at h
    obtain ⟨h1, h2⟩ := List.getElem?_zip_eq_some.mp e
    exact ⟨p.1, p.2, h1, h2, (Option.some.inj h).symm⟩
theorem zip3D_get {xs ys zs : List D} {i : Nat} {d : D} (h : (zip3D xs ys zs)[i]? = some d) : ∃ x y z, xs[i]? = some x ∧ ys[i]? = some y ∧ zs[i]? = some z ∧ d = .tup [x, y, z] := by
  unfold zip3D at h
  rw [List.getElem?_map] at h
  cases e : ((xs.zip ys).zip zs)[i]? with
  | none => rw [e] at h; cases h
  | some p =>
    rw [e] at h
    obtain ⟨h1, h2⟩ := List.getElem?_zip_eq_some.mp e
    obtain ⟨h3, h4⟩ := List.getElem?_zip_eq_some.mp h1
    exact ⟨_, _, _, h3, h4, h2, (Option.some.inj h).symm⟩
theorem enumD_get {xs : List D} {i : Nat} {d : D} (h : (enumD xs)[i]? = some d) : ∃ x, xs[i]? = some x ∧ d = .tup [.int (i : Nat), x] := by
  unfold enumD at h
  rw [List.getElem?_map, List.getElem?_zipIdx] at h
  cases e : xs[i]? with
  | none => rw [e] at h; cases h
  | some p =>
    rw [e] at h
    have := (Option.some.inj h).symm
    exact ⟨p, rfl, by simpa using this⟩
theorem rngD_get {lo : Int} {n i : Nat} {d : D} (h : (rngD lo n)[i]? = some d) : i < n ∧ d = .int (lo + (i : Nat)) := by
  unfold rngD at h
  rw [List.getElem?_map] at h
  by_cases hi : i < n
  · rw [List.getElem?_range hi] at h
    exact ⟨hi, (Option.some.inj h).symm⟩
  · rw [List.getElem?_eq_none (by simpa using hi)] at h; cases h
theorem rngD_len {lo : Int} {n : Nat} : (rngD lo n).length = n := by simp [rngD]
theorem rngC_get {lo c : Int} {n i : Nat} {d : D} (h : (rngC lo c n)[i]? = some d) : i < n ∧ d = .int (lo + (i : Nat) * c) := by
  unfold rngC at h
  rw [List.getElem?_map] at h
  by_cases hi : i < n
  · rw [List.getElem?_range hi] at h
    exact ⟨hi, (Option.some.inj h).symm⟩
  · rw [List.getElem?_eq_none (by simpa using hi)] at h; cases h
theorem rngC_len {lo c : Int} {n : Nat} : (rngC lo c n).length = n := by simp [rngC]
section
variable {X : Cx} {e a b c tg iter : Expr} {ts : Ts} {t ta tb tc : T} {pos : Pos} {K : PySem.W.Frag} {F1 : Hp} {items : List D} {GG : MS → Prop} {xs : List D} {ad : Addr}
theorem walk_lst (h : ∀ m' H' F', Same F1 F' → Std K m' H' F' → GG m' → ∃ vs, SqA K false H' ad vs ∧ Rps K F' vs items) : WalkD K F1 (Itl K ad) items GG := by
  refine ⟨fun i H F m hi s sd g => ?_, fun H F m s sd g => ?_, fun i H F m x H' d hd s sd g y => ?_⟩
  · obtain ⟨vs, q, r⟩ := h m H F s sd g
    exact ⟨vs, vs[i]'(by rw [r.length]; exact hi), q, List.getElem?_eq_getElem _⟩
  · obtain ⟨vs, q, r⟩ := h m H F s sd g
    exact ⟨vs, q, by rw [r.length]; exact Nat.le_refl _⟩
  · obtain ⟨vs, q, r⟩ := h m H F s sd g
    obtain ⟨rfl, y⟩ := y
    exact ⟨F, Go.refl sd, rps_last r (y vs q) hd⟩
theorem walk_tpl (h : ∀ m' H' F', Same F1 F' → Std K m' H' F' → GG m' → ∃ vs, SqA K true H' ad vs ∧ Rps K F' vs items) : WalkD K F1 (Itt K ad) items GG := by
  refine ⟨fun i H F m hi s sd g => ?_, fun H F m s sd g => ?_, fun i H F m x H' d hd s sd g y => ?_⟩
  · obtain ⟨vs, q, r⟩ := h m H F s sd g
    exact ⟨vs, vs[i]'(by rw [r.length]; exact hi), q, List.getElem?_eq_getElem _⟩
  · obtain ⟨vs, q, r⟩ := h m H F s sd g
    exact ⟨vs, q, by rw [r.length]; exact Nat.le_refl _⟩
  · obtain ⟨vs, q, r⟩ := h m H F s sd g
    obtain ⟨rfl, y⟩ := y
    exact ⟨F, Go.refl sd, rps_last r (y vs q) hd⟩
theorem walk_str {z : Str} : WalkD K F1 (Its z) (signs z) fun _ => True := by
  refine ⟨fun i H F m hi s sd _ => ?_, fun H F m s sd _ => ?_, fun i H F m x H' d hd s sd _ y => ?_⟩
  · unfold signs at hi; rw [List.length_map] at hi; exact hi
  · show z.cps.size ≤ (signs z).length
    unfold signs; rw [List.length_map]; exact Nat.le_refl _
  · obtain ⟨rfl, c, hc, rfl⟩ := y
    unfold signs at hd
    rw [List.getElem?_map, Array.getElem?_toList, hc] at hd
    have e := Option.some.inj hd
    subst e
    exact ⟨F, Go.refl sd, .str _⟩
/-- any value: a text, a list, a tuple -/
theorem si_val (he : SE X iter t) : SI X tg iter isVal (.cons t .nil) := ⟨fun ρ m P Z p => ⟨fun F0 σ H F S R V tk q kx pins s I => by
  refine thn ((he.go ρ m _ Z p).run F0 σ H F S (fun v H1 => ∃ F1 d m1, isVal [d] m1 P ∧ Go X.K m H F m1 H1 F1 ∧ Rp X.K F1 v d) V tk (fun v H1 F1 d m1 p1 g1 r1 => ⟨F1, d, m1, p1, g1, r1⟩) kx pins s I) fun u s1 hh => ?_
  obtain ⟨v, H1, I1, rv, F1, d, m1, p1, g1, r1⟩ := hh
  have gen : (seqD d m1 fun xs GG => P xs GG m1) → wpAny (model X.prog X.w) X.A (pyIter u) (PIE X pins σ tg R) X.xe s1 := fun p1 => by
    obtain ⟨a, tp, xs, GG, rfl, pR, g0, hq⟩ := seqD_use p1 g1.std r1
    obtain ⟨vs, q0, r0⟩ := hq m1 H1 F1 (Same.refl _) g1.std g0
    obtain rfl : u = Value.ref a := rv
    cases tp with
    | true =>
      obtain ⟨its, rr, p', hz⟩ := I1.tuple q0
      exact wpAny_pyIter_tuple (show s1.heap.IsTuple a its.toArray from p') (pi_one (tk := s1.toks) I1 _ (turn_tuple a _) ⟨_, Heap.get?_push_size _ rfl, rfl, rfl⟩ (q _ H1 F1 xs GG m1 pR g1 (walk_tpl fun m' H' F' g s' gg => hq m' H' F' g s' gg)))
    | false =>
      obtain ⟨its, rr, p', hz⟩ := I1.list q0
      exact wpAny_pyIter_list p'.isList (pi_one (tk := s1.toks) I1 _ (turn_list a _) ⟨_, Heap.get?_push_size _ rfl, rfl, rfl⟩ (q _ H1 F1 xs GG m1 pR g1 (walk_lst fun m' H' F' g s' gg => hq m' H' F' g s' gg)))
  cases d with
  | str x =>
    cases r1
    obtain ⟨t, rfl⟩ := (show ∃ t, u = Value.str x t from rv)
    have qq := q _ H1 F1 (signs x) _ m1 p1 g1 walk_str
    cases ha : x.cps.all (· < 128)
    · exact wpAny_pyIter_wide ha (pi_one (tk := s1.toks) I1 _ (turn_str _ x t "str_iterator" (.inr rfl)) ⟨_, Heap.get?_push_size _ rfl, rfl, rfl⟩ qq)
    · exact wpAny_pyIter_ascii ha (pi_one (tk := s1.toks) I1 _ (turn_str _ x t "str_ascii_iterator" (.inl rfl)) ⟨_, Heap.get?_push_size _ rfl, rfl, rfl⟩ qq)
  | _ => exact gen p1⟩⟩
theorem walk_rng {lo : Int} {n : Nat} : WalkD K F1 (Itr lo n) (rngD lo n) fun _ => True := ⟨fun i H F m hi s sd _ => by rw [rngD_len] at hi; exact hi, fun H F m s sd _ => by rw [rngD_len]; exact Nat.le_refl _, fun i H F m x H' d hd s sd _ y => by
  obtain ⟨_, rfl⟩ := rngD_get hd
  obtain ⟨rfl, rfl⟩ := y
  exact ⟨F, Go.refl sd, .int _⟩⟩
theorem walk_rngC {lo c : Int} {n : Nat} : WalkD K F1 (Itc lo c n) (rngC lo c n) fun _ => True := ⟨fun i H F m hi s sd _ => by rw [rngC_len] at hi; exact hi, fun H F m s sd _ => by rw [rngC_len]; exact Nat.le_refl _, fun i H F m x H' d hd s sd _ y => by
  obtain ⟨_, rfl⟩ := rngC_get hd
  obtain ⟨rfl, rfl⟩ := y
  exact ⟨F, Go.refl sd, .int _⟩⟩
theorem isRng1 {d : D} {m : MS} {R : List D → (MS → Prop) → MS → Prop} (h : isRng [d] m R) : ∃ j, d = .int j ∧ (-(2 ^ 62) ≤ j ∧ j < 2 ^ 62) ∧ R (rngD 0 j.toNat) (fun _ => True) m := by
  cases d with
  | int j => exact ⟨j, rfl, h⟩
  | _ => exact h.elim
theorem isRng2 {d d2 : D} {m : MS} {R : List D → (MS → Prop) → MS → Prop} (h : isRng [d, d2] m R) : ∃ i j, d = .int i ∧ d2 = .int j ∧ (-(2 ^ 62) ≤ i ∧ i < 2 ^ 62 ∧ -(2 ^ 62) ≤ j ∧ j < 2 ^ 62) ∧ R (rngD i (j - i).toNat) (fun _ => True) m := by
  cases d with
  | int i =>
    cases d2 with
    | int j => exact ⟨i, j, rfl, rfl, h⟩
    | _ => exact h.elim
  | _ => exact h.elim
theorem isRng3 {d d2 d3 : D} {m : MS} {R : List D → (MS → Prop) → MS → Prop} (h : isRng [d, d2, d3] m R) : ∃ i j, d = .int i ∧ d2 = .int j ∧ d3 = .int (-1) ∧ (-(2 ^ 62) ≤ i ∧ i < 2 ^ 62 ∧ -(2 ^ 62) ≤ j ∧ j < 2 ^ 62) ∧ R (rngC i (-1) (i - j).toNat) (fun _ => True) m := by
  cases d with
  | int i =>
    cases d2 with
    | int j =>
      cases d3 with
      | int c =>
        obtain ⟨⟨a, b, c', d, e⟩, r⟩ := h
        subst e
        exact ⟨i, j, rfl, rfl, rfl, ⟨a, b, c', d⟩, r⟩
      | _ => exact h.elim
    | _ => exact h.elim
  | _ => exact h.elim
theorem si_rng1 {p : Pos} (hm : X.mg "range" = none) (ha : SE X a ta) (hg : Gl X "range" := by rfl) (hs : starEach [a] X.env = (false, eval a X.env) :: starEach [] X.env := by rfl) : SI X tg (.Call (.Name "range" p) [a] [] pos) isRng (.cons ta .nil) := ⟨fun ρ m P Z p => ⟨fun F0 σ H F S R V tk q kx => by
  refine wI_of (pi_range1 hg hm (pa_cons pe_w pa_nil hs) hs) ?_
  refine (ha.go ρ m _ Z p).run F0 σ H F S _ V tk (fun x H1 F1 d1 m1 p1 g1 r1 => ?_) kx
  obtain ⟨j, rfl, ⟨h1, h2⟩, pR⟩ := isRng1 p1
  cases r1
  exact ⟨j, rfl, h1, h2, q _ H1 F1 _ _ m1 pR g1 walk_rng⟩⟩⟩
theorem si_rng2 {p : Pos} (hm : X.mg "range" = none) (ha : SE X a ta) (hb : SE X b tb) (hg : Gl X "range" := by rfl) (hs : starEach [a, b] X.env = (false, eval a X.env) :: starEach [b] X.env := by rfl) (hs2 : starEach [b] X.env = (false, eval b X.env) :: starEach [] X.env := by rfl) : SI X tg (.Call (.Name "range" p) [a, b] [] pos) isRng (.cons ta (.cons tb .nil)) := ⟨fun ρ m P Z p => ⟨fun F0 σ H F S R V tk q kx => by
  refine wI_of (pi_range2 hg hm (pa_cons pe_w (pa_cons pe_w pa_nil hs2) hs) (by rw [hs, hs2]; rfl) (by rw [hs2]; rfl)) ?_
  refine (ha.go ρ m _ Z p).run F0 σ H F S _ V tk (fun x H1 F1 d1 m1 p1 g1 r1 => ?_) kx
  refine (hb.go ρ m1 _ Z p1).run F0 σ H1 F1 (S.go g1) _ V tk (fun y H2 F2 d2 m2 p2 g2 r2 => ?_) (kx.go g1)
  obtain ⟨i, j, rfl, rfl, hz, pR⟩ := isRng2 p2
  cases r1
  cases r2
  exact ⟨i, j, rfl, hz, q _ H2 F2 _ _ m2 pR (g1.trans g2) walk_rng⟩⟩⟩
theorem si_rng3 {p : Pos} (hm : X.mg "range" = none) (ha : SE X a ta) (hb : SE X b tb) (hc : SE X c tc) (hg : Gl X "range" := by rfl) (hs : starEach [a, b, c] X.env = (false, eval a X.env) :: starEach [b, c] X.env := by rfl) (hs2 : starEach [b, c] X.env = (false, eval b X.env) :: starEach [c] X.env := by rfl) (hs3 : starEach [c] X.env = (false, eval c X.env) :: starEach [] X.env := by rfl) (hpl : (backTo pos (starEach [b, c] X.env)).any (·.1) = false := by rfl) : SI X tg (.Call (.Name "range" p) [a, b, c] [] pos) isRng (.cons ta (.cons tb (.cons tc .nil))) := ⟨fun ρ m P Z p => ⟨fun F0 σ H F S R V tk q kx => by
  refine wI_of (pi_range3 hg hm (pa_cons pe_w (pa_cons pe_w (pa_cons pe_w pa_nil hs3) hs2) hs) hs hpl) ?_
  refine (ha.go ρ m _ Z p).run F0 σ H F S _ V tk (fun x H1 F1 d1 m1 p1 g1 r1 => ?_) kx
  refine (hb.go ρ m1 _ Z p1).run F0 σ H1 F1 (S.go g1) _ V tk (fun y H2 F2 d2 m2 p2 g2 r2 => ?_) (kx.go g1)
  refine (hc.go ρ m2 _ Z p2).run F0 σ H2 F2 ((S.go g1).go g2) _ V tk (fun z H3 F3 d3 m3 p3 g3 r3 => ?_) ((kx.go g1).go g2)
  obtain ⟨i, j, rfl, rfl, rfl, ⟨h1, h2, h3, h4⟩, pR⟩ := isRng3 p3
  cases r1
  cases r2
  cases r3
  exact ⟨i, j, -1, _, rfl, RgC.neg h1 h2 h3 h4, q _ H3 F3 _ _ m3 pR ((g1.trans g2).trans g3) walk_rngC⟩⟩⟩
theorem walk_z2 {t1 t2 : Bool} {a1 a2 : Addr} {xs ys : List D} {G1 G2 : MS → Prop} (h1 : ∀ m' H' F', Same F1 F' → Std K m' H' F' → G1 m' → ∃ vs, SqA K t1 H' a1 vs ∧ Rps K F' vs xs) (h2 : ∀ m' H' F', Same F1 F' → Std K m' H' F' → G2 m' → ∃ vs, SqA K t2 H' a2 vs ∧ Rps K F' vs ys) : WalkD K F1 (J2 K t1 t2 a1 a2) (zipD xs ys) fun m' => G1 m' ∧ G2 m' := by
  refine ⟨fun i H F m hi s sd g => ?_, fun H F m s sd g => ?_, fun i H F m x H' d hd s sd g y => ?_⟩
  · obtain ⟨vs, q, r⟩ := h1 m H F s sd g.1
    obtain ⟨ws, q2, r2⟩ := h2 m H F s sd g.2
    rw [zipD_len] at hi
    exact ⟨vs, ws, q, q2, by rw [r.length, r2.length]; exact hi⟩
  · obtain ⟨vs, q, r⟩ := h1 m H F s sd g.1
    obtain ⟨ws, q2, r2⟩ := h2 m H F s sd g.2
    exact ⟨vs, ws, q, q2, by rw [r.length, r2.length, zipD_len]⟩
  · obtain ⟨vs, q, r⟩ := h1 m H F s sd g.1
    obtain ⟨ws, q2, r2⟩ := h2 m H F s sd g.2
    obtain ⟨dx, dy, e1, e2, rfl⟩ := zipD_get hd
    obtain ⟨T, x, y', rfl, hT, rfl, y1, y2⟩ := y
    exact ⟨_, Go.new sd hT, .tup (.inl (.inl upd_same)) ((Rps.cons (rps_last r (y1 vs q) e1) (.cons (rps_last r2 (y2 ws q2) e2) .nil)).up (Go.new sd hT).grow _)⟩
theorem walk_z3 {t1 t2 t3 : Bool} {a1 a2 a3 : Addr} {xs ys zs : List D} {G1 G2 G3 : MS → Prop} (h1 : ∀ m' H' F', Same F1 F' → Std K m' H' F' → G1 m' → ∃ vs, SqA K t1 H' a1 vs ∧ Rps K F' vs xs) (h2 : ∀ m' H' F', Same F1 F' → Std K m' H' F' → G2 m' → ∃ vs, SqA K t2 H' a2 vs ∧ Rps K F' vs ys) (h3 : ∀ m' H' F', Same F1 F' → Std K m' H' F' → G3 m' → ∃ vs, SqA K t3 H' a3 vs ∧ Rps K F' vs zs) : WalkD K F1 (J3 K t1 t2 t3 a1 a2 a3) (zip3D xs ys zs) fun m' => G1 m' ∧ G2 m' ∧ G3 m' := by
  refine ⟨fun i H F m hi s sd g => ?_, fun H F m s sd g => ?_, fun i H F m x H' d hd s sd g y => ?_⟩
  · obtain ⟨vs, q, r⟩ := h1 m H F s sd g.1
    obtain ⟨ws, q2, r2⟩ := h2 m H F s sd g.2.1
    obtain ⟨us, q3, r3⟩ := h3 m H F s sd g.2.2
    rw [zip3D_len] at hi
    exact ⟨vs, ws, us, q, q2, q3, by rw [r.length, r2.length, r3.length]; exact hi⟩
  · obtain ⟨vs, q, r⟩ := h1 m H F s sd g.1
    obtain ⟨ws, q2, r2⟩ := h2 m H F s sd g.2.1
    obtain ⟨us, q3, r3⟩ := h3 m H F s sd g.2.2
    exact ⟨vs, ws, us, q, q2, q3, by rw [r.length, r2.length, r3.length, zip3D_len]⟩
  · obtain ⟨vs, q, r⟩ := h1 m H F s sd g.1
    obtain ⟨ws, q2, r2⟩ := h2 m H F s sd g.2.1
    obtain ⟨us, q3, r3⟩ := h3 m H F s sd g.2.2
    obtain ⟨dx, dy, dz, e1, e2, e3, rfl⟩ := zip3D_get hd
    obtain ⟨T, x, y', z, rfl, hT, rfl, y1, y2, y3⟩ := y
    exact ⟨_, Go.new sd hT, .tup (.inl (.inl upd_same)) ((Rps.cons (rps_last r (y1 vs q) e1) (.cons (rps_last r2 (y2 ws q2) e2) (.cons (rps_last r3 (y3 us q3) e3) .nil))).up (Go.new sd hT).grow _)⟩
theorem walk_en {t1 : Bool} {a1 : Addr} {xs : List D} {G1 : MS → Prop} (h1 : ∀ m' H' F', Same F1 F' → Std K m' H' F' → G1 m' → ∃ vs, SqA K t1 H' a1 vs ∧ Rps K F' vs xs) : WalkD K F1 (JE K t1 a1) (enumD xs) G1 := by
  refine ⟨fun i H F m hi s sd g => ?_, fun H F m s sd g => ?_, fun i H F m x H' d hd s sd g y => ?_⟩
  · obtain ⟨vs, q, r⟩ := h1 m H F s sd g
    rw [enumD_len] at hi
    exact ⟨vs, q, by rw [r.length]; exact hi⟩
  · obtain ⟨vs, q, r⟩ := h1 m H F s sd g
    exact ⟨vs, q, by rw [r.length, enumD_len]⟩
  · obtain ⟨vs, q, r⟩ := h1 m H F s sd g
    obtain ⟨dx, e1, rfl⟩ := enumD_get hd
    obtain ⟨T, x, rfl, hT, rfl, y1⟩ := y
    exact ⟨_, Go.new sd hT, .tup (.inl (.inl upd_same)) ((Rps.cons (.int _) (.cons (rps_last r (y1 vs q) e1) .nil)).up (Go.new sd hT).grow _)⟩
theorem fresh_le {pins : List (Addr × Obj)} {σ : L2.St} {H : Hp} {s : Shared} (I : Inv X pins σ H s) {l : List Addr} (h : ∀ c ∈ l, s.heap.objs.size ≤ c) : ∀ c ∈ l, FpOk X pins H c := fun c hc => I.fpOk (h c hc) (I.hok.fresh (h c hc))
variable {elts : List Expr} {kk : Nat} {tpos : Pos}
theorem si_zip2 {p : Pos} (hm : X.mg "zip" = none) (ha : SE X a ta) (hb : SE X b tb) (hg : Gl X "zip" := by rfl) (hs : starEach [a, b] X.env = (false, eval a X.env) :: starEach [b] X.env := by rfl) (hs2 : starEach [b] X.env = (false, eval b X.env) :: starEach [] X.env := by rfl) (hpl : (backTo pos (starEach [b] X.env)).any (·.1) = false := by rfl) : SI X (.Tuple elts kk tpos) (.Call (.Name "zip" p) [a, b] [] pos) isZip (.cons ta (.cons tb .nil)) := ⟨fun ρ m P Z p => ⟨fun F0 σ H F S R V tk q kx pins s I => by
  refine Call_ (ld_blt I hg hm PyProof.Rows.boot_zip (PyProof.Rows.callWith_type1 (thn ((pa_cons (X := X) pe_w (pa_cons pe_w pa_nil hs2) hs).run pos pins s σ H (fun vs H2 => ∃ v1 v2 F2 d1 d2 m2, vs = [v1, v2] ∧ isZip [d1, d2] m2 P ∧ Go X.K m H F m2 H2 F2 ∧ Rp X.K F2 v1 d1 ∧ Rp X.K F2 v2 d2) I ?_) fun us s1 ⟨vs, H1, I1, r1, q1⟩ => ?_) hs hpl))
  · refine (ha.go ρ m _ Z p).run F0 σ H F S _ V tk (fun x H1 F1 d1 m1 p1 g1 r1 => ?_) kx
    refine (hb.go ρ m1 _ Z p1).run F0 σ H1 F1 (S.go g1) _ V tk (fun y H2 F2 d2 m2 p2 g2 r2 => ?_) (kx.go g1)
    exact ⟨x, y, F2, d1, d2, m2, rfl, p2, g1.trans g2, r1.up g2.grow _, r2⟩
  · obtain ⟨v1, v2, F2, d1, d2, m2, rfl, p2, g2, ra, rb⟩ := q1
    obtain ⟨a1, t1, xs, G1, rfl, p2, g01, h1⟩ := seqD_use (show seqD d1 m2 (fun xs G1 => seqD d2 m2 fun ys G2 => P (zipD xs ys) (fun m' => G1 m' ∧ G2 m') m2) from p2) g2.std ra
    obtain ⟨a2, t2, ys, G2, rfl, pR, g02, h2⟩ := seqD_use p2 g2.std rb
    obtain ⟨w1, q1, _⟩ := h1 m2 H1 F2 (Same.refl _) g2.std g01
    obtain ⟨w2, q2, _⟩ := h2 m2 H1 F2 (Same.refl _) g2.std g02
    obtain ⟨its1, rv1, c1⟩ := seqA_at I1 q1
    obtain ⟨its2, rv2, c2⟩ := seqA_at I1 q2
    cases r1 with
    | cons r rr =>
      cases rr with
      | cons r' rr =>
        cases rr
        cases r
        cases r'
        refine zip_begins2 (beginsA t1 a1 its1.toArray) (beginsA t2 a2 its2.toArray) c1 c2 fun h' hz hTI hTO e1 e2 hsz hk => wpAny_pyIter_zip hz ?_
        have I2 : Inv X pins σ H1 { s1 with heap := h' } := I1.kept (t' := s1.toks) hk
        exact ⟨s1.heap.objs.size + 4, _, _, _, H1, rfl, I2, turn_z2 (ctA_lt c1) (ctA_lt c2), ⟨hz, hTI, ⟨_, _, hTO⟩, itA_new e1, itA_new e2⟩, fresh_le I1 (fun c hc => by
          have e' : c = s1.heap.objs.size + 4 ∨ c = s1.heap.objs.size + 2 ∨ c = s1.heap.objs.size + 3 ∨ c = s1.heap.objs.size ∨ c = s1.heap.objs.size + 1 := by simpa using hc
          rcases e' with z | z | z | z | z <;> rw [z] <;> first | exact Nat.le_add_right _ _ | exact Nat.le_refl _), q _ H1 F2 _ _ m2 pR g2 (walk_z2 h1 h2)⟩⟩⟩
theorem si_zip3 {p : Pos} (hm : X.mg "zip" = none) (ha : SE X a ta) (hb : SE X b tb) (hc : SE X c tc) (hg : Gl X "zip" := by rfl) (hs : starEach [a, b, c] X.env = (false, eval a X.env) :: starEach [b, c] X.env := by rfl) (hs2 : starEach [b, c] X.env = (false, eval b X.env) :: starEach [c] X.env := by rfl) (hs3 : starEach [c] X.env = (false, eval c X.env) :: starEach [] X.env := by rfl) (hpl : (backTo pos (starEach [b, c] X.env)).any (·.1) = false := by rfl) : SI X (.Tuple elts kk tpos) (.Call (.Name "zip" p) [a, b, c] [] pos) isZip (.cons ta (.cons tb (.cons tc .nil))) := ⟨fun ρ m P Z p => ⟨fun F0 σ H F S R V tk q kx pins s I => by
  refine Call_ (ld_blt I hg hm PyProof.Rows.boot_zip (PyProof.Rows.callWith_type1 (thn ((pa_cons (X := X) pe_w (pa_cons pe_w (pa_cons pe_w pa_nil hs3) hs2) hs).run pos pins s σ H (fun vs H2 => ∃ v1 v2 v3 F2 d1 d2 d3 m2, vs = [v1, v2, v3] ∧ isZip [d1, d2, d3] m2 P ∧ Go X.K m H F m2 H2 F2 ∧ Rp X.K F2 v1 d1 ∧ Rp X.K F2 v2 d2 ∧ Rp X.K F2 v3 d3) I ?_) fun us s1 ⟨vs, H1, I1, r1, q1⟩ => ?_) hs hpl))
  · refine (ha.go ρ m _ Z p).run F0 σ H F S _ V tk (fun x H1 F1 d1 m1 p1 g1 r1 => ?_) kx
    refine (hb.go ρ m1 _ Z p1).run F0 σ H1 F1 (S.go g1) _ V tk (fun y H2 F2 d2 m2 p2 g2 r2 => ?_) (kx.go g1)
    refine (hc.go ρ m2 _ Z p2).run F0 σ H2 F2 ((S.go g1).go g2) _ V tk (fun z H3 F3 d3 m3 p3 g3 r3 => ?_) ((kx.go g1).go g2)
    exact ⟨x, y, z, F3, d1, d2, d3, m3, rfl, p3, (g1.trans g2).trans g3, (r1.up g2.grow _).up g3.grow _, r2.up g3.grow _, r3⟩
  · obtain ⟨v1, v2, v3, F2, d1, d2, d3, m2, rfl, p2, g2, ra, rb, rc⟩ := q1
    obtain ⟨a1, t1, xs, G1, rfl, p2, g01, h1⟩ := seqD_use (show seqD d1 m2 (fun xs G1 => seqD d2 m2 fun ys G2 => seqD d3 m2 fun zs G3 => P (zip3D xs ys zs) (fun m' => G1 m' ∧ G2 m' ∧ G3 m') m2) from p2) g2.std ra
    obtain ⟨a2, t2, ys, G2, rfl, p2, g02, h2⟩ := seqD_use p2 g2.std rb
    obtain ⟨a3, t3, zs, G3, rfl, pR, g03, h3⟩ := seqD_use p2 g2.std rc
    obtain ⟨w1, q1, _⟩ := h1 m2 H1 F2 (Same.refl _) g2.std g01
    obtain ⟨w2, q2, _⟩ := h2 m2 H1 F2 (Same.refl _) g2.std g02
    obtain ⟨w3, q3, _⟩ := h3 m2 H1 F2 (Same.refl _) g2.std g03
    obtain ⟨its1, rv1, c1⟩ := seqA_at I1 q1
    obtain ⟨its2, rv2, c2⟩ := seqA_at I1 q2
    obtain ⟨its3, rv3, c3⟩ := seqA_at I1 q3
    cases r1 with
    | cons r rr =>
      cases rr with
      | cons r' rr =>
        cases rr with
        | cons r'' rr =>
        cases rr
        cases r
        cases r'
        cases r''
        refine zip_begins3 (beginsA t1 a1 its1.toArray) (beginsA t2 a2 its2.toArray) (beginsA t3 a3 its3.toArray) c1 c2 c3 fun h' hz hTI hTO e1 e2 e3 hsz hk => wpAny_pyIter_zip hz ?_
        have I2 : Inv X pins σ H1 { s1 with heap := h' } := I1.kept (t' := s1.toks) hk
        exact ⟨s1.heap.objs.size + 5, _, _, _, H1, rfl, I2, turn_z3 (ctA_lt c1) (ctA_lt c2) (ctA_lt c3), ⟨hz, hTI, ⟨_, _, _, hTO⟩, itA_new e1, itA_new e2, itA_new e3⟩, fresh_le I1 (fun c hc => by
          have e' : c = s1.heap.objs.size + 5 ∨ c = s1.heap.objs.size + 3 ∨ c = s1.heap.objs.size + 4 ∨ c = s1.heap.objs.size ∨ c = s1.heap.objs.size + 1 ∨ c = s1.heap.objs.size + 2 := by simpa using hc
          rcases e' with z | z | z | z | z | z <;> rw [z] <;> first | exact Nat.le_add_right _ _ | exact Nat.le_refl _), q _ H1 F2 _ _ m2 pR g2 (walk_z3 h1 h2 h3)⟩⟩⟩
end
end Nu

namespace Nu
open PySem PySem.Spec L2
open PyProof.Rows hiding St
/-! ### views -/
theorem VwS.refl {ρ : Env1} {m : MS} : VwS ρ m ρ m := fun K F0 σ H F S => ⟨F, Go.refl S.std, S⟩
theorem VwD.refl {d : D} {m : MS} : VwD d m d m := fun K H F v S r => ⟨F, Go.refl S, r⟩
theorem VwD.less {d : D} {m m' : MS} (h : MLe m' m) : VwD d m d m' := fun K H F v S r => ⟨F, Go.less S h, r⟩
theorem VwD.freeze {p : Addr} {m : MS} {ds : List D} (h : m p = some (.lst ds)) : VwD (.raw (.ref p)) m (.lst ds) (mdel m p) := fun K H F v S r => by
  cases r
  obtain ⟨F', g, r'⟩ := Go.freeze S h
  exact ⟨F', g, r'⟩
theorem VwD.trans {d d' d'' : D} {m m' m'' : MS} (h : VwD d m d' m') (k : VwD d' m' d'' m'') : VwD d m d'' m'' := fun K H F v S r => by
  obtain ⟨F1, g1, r1⟩ := h K H F v S r
  obtain ⟨F2, g2, r2⟩ := k K H F1 v g1.std r1
  exact ⟨F2, g1.trans g2, r2⟩
theorem VwS.less {ρ : Env1} {m m' : MS} (h : MLe m' m) : VwS ρ m ρ m' := fun K F0 σ H F S => ⟨F, Go.less S.std h, S.go (Go.less S.std h)⟩
theorem VwS.trans {ρ ρ' ρ'' : Env1} {m m' m'' : MS} (h : VwS ρ m ρ' m') (k : VwS ρ' m' ρ'' m'') : VwS ρ m ρ'' m'' := fun K F0 σ H F S => by
  obtain ⟨F1, g1, r1⟩ := h K F0 σ H F S
  obtain ⟨F2, g2, r2⟩ := k K F0 σ H F1 r1
  exact ⟨F2, g1.trans g2, r2⟩
theorem VwS.forget {ρ ρ' : Env1} {m : MS} (h : ∀ (i : Nat) (d : D), ρ'[i]? = some (some d) → ρ[i]? = some (some d)) : VwS ρ m ρ' m := fun K F0 σ H F S => ⟨F, Go.refl S.std, S.std, fun i d e => S.env i d (h i d e), S.old⟩
theorem VwS.freeze {ρ : Env1} {m : MS} {p : Addr} {ds : List D} (i : Nat) (h : getR ρ i = some (.raw (.ref p))) (hp : m p = some (.lst ds)) : VwS ρ m (setR ρ i (.lst ds)) (mdel m p) := fun K F0 σ H F S => by
  obtain ⟨F', g, r⟩ := Go.freeze S.std hp
  obtain ⟨v, hv, rv⟩ := S.env i _ (getR_some h)
  cases rv
  have S' := S.go g
  refine ⟨F', g, S'.std, fun j d e => ?_, S'.old⟩
  rw [setR_eq] at e
  by_cases hj : i = j
  · subst hj
    have hi : i < ρ.length := by
      have := (List.getElem?_eq_some_iff.mp e).1
      simpa using this
    rw [List.getElem?_set_self hi] at e
    cases e
    exact ⟨_, hv, r⟩
  · rw [List.getElem?_set_ne hj] at e
    exact S'.env j d e
/-- what a def gives back, seen as one likes -/
def Ret (P : NX) : NX := fun d m => ∃ d' m', VwD d m d' m' ∧ P d' m'
theorem ret {P : NX} {d : D} {m : MS} (p : P d m) : Ret P d m := ⟨d, m, VwD.refl, p⟩
theorem retL {P : NX} {d : D} {m m' : MS} (h : MLe m' m) (p : P d m') : Ret P d m := ⟨d, m', VwD.less h, p⟩
/-! ### promises -/
def spA (K : PySem.W.Frag) (a : ASp) : Sp := fun vs H Q E => ∃ F ss m P Z, Std K m H F ∧ Rps K F vs ss ∧ a ss m P Z ∧ (∀ v H' F' d m', P d m' → Go K m H F m' H' F' → Rp K F' v d → Q v H') ∧
  ∀ c es H' F' m' cls dd, Z c es m' → Go K m H F m' H' F' → ExR K F' c es cls dd → E cls dd H'
structure Cal (P : Program) (w : World) (K : PySem.W.Frag) (mg : Str → Option Value) (base : Heap) (k : Nat) (x : Str) (sp : Sp) : Prop where
  ex : ∃ (f : Addr) (fd : FuncData) (ps : List Str), FnOk P w K mg base (L2.CX P w) k f fd ps sp ∧ mg x = some (.ref f) ∧ PySem.W.keepIn K (.ref f) = true ∧ Binds K fd ps []
structure MCal (P : Program) (w : World) (K : PySem.W.Frag) (mg : Str → Option Value) (base : Heap) (k : Nat) (c : Cls) (x : Str) (sp : Sp) : Prop where
  ex : ∃ (C f : Addr) (fd : FuncData) (ps : List Str), FnOk P w K mg base (L2.CX P w) k f fd ps sp ∧ clsAt K c.name C ∧ L2.Cls K C ∧ Meth K C x f ∧ Binds K fd ps []
structure KCal (P : Program) (w : World) (K : PySem.W.Frag) (mg : Str → Option Value) (base : Heap) (k : Nat) (c : Cls) (sp : Sp) : Prop where
  ex : ∃ (C f : Addr) (fd : FuncData) (ps : List Str), FnOk P w K mg base (L2.CX P w) k f fd ps sp ∧ clsAt K c.name C ∧ mg c.name = some (.ref C) ∧ Mk K C f ∧ Binds K fd ps []
/-- what the text says of a class of its own -/
structure ClsF (K : PySem.W.Frag) (c : Cls) : Prop where
  ex : ∀ C, clsAt K c.name C → L2.Cls K C ∧ ∀ f ∈ c.fs, NoAttr K C f.name
def startR (N : List Str) (ss : List D) : Env1 := ss.map some ++ List.replicate (N.length - ss.length) none
theorem env_start {K : PySem.W.Frag} {F : Hp} {N : List Str} {vs : List V} {ss : List D} (r : Rps K F vs ss) : ∀ (i : Nat) (d : D), (startR N ss)[i]? = some (some d) → ∃ v, (L2.start N vs)[i]? = some (some v) ∧ Rp K F v d := fun i d e => by
  unfold startR at e
  unfold L2.start
  have hl := r.length
  by_cases hi : i < ss.length
  · rw [List.getElem?_append_left (by simpa using hi)] at e
    rw [List.getElem?_map] at e
    rw [List.getElem?_append_left (by simpa [hl] using hi), List.getElem?_map]
    cases e1 : ss[i]? with
    | none => rw [e1] at e; cases e
    | some d1 =>
      rw [e1] at e
      have e2 : d1 = d := by simpa using e
      subst e2
      obtain ⟨v, h1, h2⟩ := r.get e1
      exact ⟨v, by rw [h1]; rfl, h2⟩
  · rw [List.getElem?_append_right (by simpa using hi)] at e
    rw [List.getElem?_replicate] at e
    split at e <;> cases e
/-- the ends of a def's body -/
def bodyE (P : NX) (Z : EZ) : AEnds := { nx := fun _ m => Ret P .non m, rt := Ret P, ex := fun c es _ m => ∃ m', MLe m' m ∧ Z c es m' }
section
variable {P : Program} {w : World} {K : PySem.W.Frag} {mg : Str → Option Value} {base : Heap}
/-- a def's body keeps its promise -/
theorem fn_ok {a : ASp} {x qual : Str} {stm : Stmt} {f : Addr} {fd : FuncData} {N ps : List Str} {k : Nat} {u : SS} (F : Fun K x qual stm f fd) (S : FnScope N ps (defScope stm)) (len : ∀ ss m P Z, a ss m P Z → ss.length = ps.length)
    (snd : ∀ (cdv : Value) (A : Around) (outer : List Env) (s : Shared) (H : Hp) (E : XK), Room k (A.deeper (envOfC qual (defScope stm) s.heap.objs.size f cdv)) → SSs (cxOf (L2.CX P w) P w K mg base N qual (defScope stm) f cdv A outer s H E) (defBody stm) u)
    (body : ∀ (ss : List D) (m : MS) (P : NX) (Z : EZ), a ss m P Z → WB u (startR N ss) m (bodyE P Z)) : FnOk P w K mg base (L2.CX P w) (k + 1) f fd ps (spA K a) := by
  refine F.okX S (fun vs H Q E h => ?_) fun cdv A outer s H vs Q E hr h => ?_
  · obtain ⟨Fz, ss, m, P1, Z1, _, r, h1, _⟩ := h
    rw [r.length]; exact len ss m P1 Z1 h1
  · obtain ⟨Fz, ss, m, P1, Z1, sd, r, h1, q, qx⟩ := h
    refine ⟨_, pss_w, ?_⟩
    refine ((snd cdv A outer s H E hr).go _ m _ (body ss m P1 Z1 h1)).run Fz _ H Fz ⟨sd, env_start r, Same.refl _⟩ _ (fun cls d _ H => E cls d H) (takes_of rfl rfl rfl rfl) ⟨?_, ?_, ?_, ?_, ?_⟩
    · rintro σ' H' F' ρ' m' ⟨d2, m2, vw, p⟩ g _
      obtain ⟨F2, g2, r2⟩ := vw _ _ _ _ g.std .non
      exact q .non H' F2 d2 m2 p (g.trans g2) r2
    · rintro v H' F' d m' ⟨d2, m2, vw, p⟩ g r
      obtain ⟨F2, g2, r2⟩ := vw _ _ _ _ g.std r
      exact q v H' F2 d2 m2 p (g.trans g2) r2
    · exact fun _ _ _ _ _ p => p.elim
    · exact fun _ _ _ _ _ p => p.elim
    · rintro σ' H' F' ρ' m' c es cls dd ⟨m2, hm, z⟩ g S' r
      exact qx c es H' F' m2 cls dd z (g.trans (Go.less g.std hm)) r
theorem cal_mk {x : Str} {f : Addr} {fd : FuncData} {ps : List Str} {k : Nat} {sp : Sp} (G : FnOk P w K mg base (L2.CX P w) k f fd ps sp) (hm : mg x = some (.ref f)) (kp : PySem.W.keepIn K (.ref f) = true) (b : Binds K fd ps []) : Cal P w K mg base k x sp :=
  ⟨f, fd, ps, G, hm, kp, b⟩
theorem mcal_mk {c : Cls} {x : Str} {C f : Addr} {fd : FuncData} {ps : List Str} {k : Nat} {sp : Sp} (G : FnOk P w K mg base (L2.CX P w) k f fd ps sp) (hC : clsAt K c.name C) (hc : ClsF K c) (hm : Meth K C x f) (b : Binds K fd ps []) : MCal P w K mg base k c x sp :=
  ⟨C, f, fd, ps, G, hC, (hc.ex C hC).1, hm, b⟩
theorem kcal_mk {c : Cls} {C f : Addr} {fd : FuncData} {ps : List Str} {k : Nat} {sp : Sp} (G : FnOk P w K mg base (L2.CX P w) k f fd ps sp) (hC : clsAt K c.name C) (hg : mg c.name = some (.ref C)) (hm : Mk K C f) (b : Binds K fd ps []) : KCal P w K mg base k c sp :=
  ⟨C, f, fd, ps, G, hC, hg, hm, b⟩
end
theorem setF_len : ∀ {fs : List Fld} {xs xs' : List D} {f : Fld} {d : D}, setF fs xs f d = some xs' → xs.length ≤ fs.length → xs'.length ≤ fs.length
  | [], _, _, _, _, h, _ => by cases h
  | f :: fs, [], xs', g, d, h, _ => by
    unfold setF at h
    split at h
    · cases h; simp
    · cases h
  | f :: fs, x :: xs, xs', g, d, h, hl => by
    unfold setF at h
    split at h
    · cases h; simpa using hl
    · split at h
      · rename_i xs2 e
        cases h
        have := setF_len e (by simpa using hl)
        simpa using this
      · cases h
theorem zip_takeA : ∀ {ns : List Str} {vs : List V} {n : Nat}, vs.length = n → (ns.take n).zip vs = ns.zip vs
  | [], _, n, _ => by simp
  | _ :: _, [], n, _ => by simp
  | a :: ns, v :: vs, 0, h => by simp at h
  | a :: ns, v :: vs, n + 1, h => by
    show (a, v) :: (ns.take n).zip vs = (a, v) :: ns.zip vs
    rw [zip_takeA (by simpa using h)]
theorem zip_take {fs : List Fld} {vs : List V} {n : Nat} (h : vs.length = n) : ((fs.map Fld.name).take n).zip vs = (fs.map Fld.name).zip vs := zip_takeA h
theorem lookup_getF {K : PySem.W.Frag} {F : Hp} : ∀ {fs : List Fld} {vs : List V} {xs : List D} {f : Fld} {d : D}, getF fs xs f = some d → Rps K F vs xs → ∃ v, ((fs.map Fld.name).zip vs).lookup f.name = some v ∧ Rp K F v d
  | [], _, xs, _, _, h, _ => by cases xs <;> cases h
  | f :: fs, _, [], _, _, h, _ => by cases h
  | f :: fs, _, x :: xs, g, d, h, r => by
    cases r with
    | @cons v vs _ _ r1 r2 =>
      unfold getF at h
      by_cases e : f = g
      · rw [if_pos e] at h
        cases h
        subst e
        exact ⟨v, by simp [List.lookup], r1⟩
      · rw [if_neg e] at h
        obtain ⟨v', h1, h2⟩ := lookup_getF h r2
        refine ⟨v', ?_, h2⟩
        have ne : (g.name == f.name) = false := beq_eq_false_iff_ne.mpr fun z => e (Fld.inj z).symm
        show List.lookup g.name ((f.name, v) :: ((fs.map Fld.name).zip vs)) = some v'
        rw [List.lookup_cons, ne]
        exact h1
theorem putF_setF {K : PySem.W.Frag} {F : Hp} : ∀ {fs : List Fld} {vs : List V} {xs xs' : List D} {f : Fld} {d : D} {v : V}, setF fs xs f d = some xs' → Rps K F vs xs → Rp K F v d →
    ∃ vs', putF f.name v ((fs.map Fld.name).zip vs) = (fs.map Fld.name).zip vs' ∧ Rps K F vs' xs'
  | [], _, _, _, _, _, _, h, _, _ => by cases h
  | f :: fs, _, [], xs', g, d, v, h, r, rv => by
    cases r
    unfold setF at h
    split at h
    · rename_i e
      subst e
      cases h
      exact ⟨[v], by simp [putF], .cons rv .nil⟩
    · cases h
  | f :: fs, _, x :: xs, xs', g, d, v, h, r, rv => by
    cases r with
    | @cons v0 vs _ _ r1 r2 =>
      unfold setF at h
      split at h
      · rename_i e
        subst e
        cases h
        exact ⟨v :: vs, by simp [putF], .cons rv r2⟩
      · rename_i e
        split at h
        · rename_i xs2 e2
          cases h
          obtain ⟨vs', h1, h2⟩ := putF_setF e2 r2 rv
          refine ⟨v0 :: vs', ?_, .cons r1 h2⟩
          have ne : ¬ f.name = g.name := fun z => e (Fld.inj z)
          show putF g.name v ((f.name, v0) :: ((fs.map Fld.name).zip vs)) = (f.name, v0) :: ((fs.map Fld.name).zip vs')
          unfold putF
          rw [if_neg ne, h1]
        · cases h
section
variable {X : Cx} {e a b c o i value : Expr} {es : List Expr} {t ta tb to ti te : T} {ts : Ts} {pos pos' p : Pos} {apos : Pos}
/-! ### calls -/
theorem spA_run {F0 : Hp} {σ : L2.St} {H F H1 F1 : Hp} {ρ : Env1} {m m1 : MS} {s : ASp} {ds : List D} {vs : List L2.V} {P : NX} {Z : EX} {Q : VK} {V : WX} (S : StR X.K F0 σ H F ρ m) (g1 : Go X.K m H F m1 H1 F1) (r1 : Rps X.K F1 vs ds) (p1 : s ds m1 P fun c es m2 => Z c es ρ m2)
    (q : ∀ v H' F' d m', P d m' → Go X.K m H F m' H' F' → Rp X.K F' v d → Q v H') (kx : ExK X F0 m H F Z V) : spA X.K s vs H1 Q (WE V σ) :=
  ⟨F1, ds, m1, P, _, g1.std, r1, p1, fun v H2 F2 d m2 p g2 r2 => q v H2 F2 d m2 p (g1.trans g2) r2, fun c es H2 F2 m2 cls dd z g2 r => kx σ H2 F2 ρ m2 c es cls dd z (g1.trans g2) (S.go (g1.trans g2)) r⟩
theorem se_call {x : Str} {k j : Nat} {s : ASp} (c : Cal X.prog X.w X.K X.mg X.base k x (spA X.K s)) (hr : Room j X.A) (ha : SA X (e :: es) ts) (hk : k ≤ j := by decide) (hg : Gl X x := by rfl)
    (hdb : (x == ("__debug__" : Str)) = false := by decide) (he : starEach (e :: es) X.env = (false, eval e X.env) :: starEach es X.env := by rfl) (hpl : (backTo pos (starEach es X.env)).any (·.1) = false := by rfl) :
    SE X (.Call (.Name x p) (e :: es) [] pos) (.call s ts) := ⟨fun ρ m P Z p => ⟨fun F0 σ H F S Q V tk q kx => by
  obtain ⟨f, fd, ps, G, hm, kp, bi⟩ := c.ex
  refine wE_of (pe_callS G (hr.mono hk) hg hm kp bi (fun σ => passAt tk σ) pa_w hdb he hpl) ?_
  refine (ha.go ρ m _ Z p).run F0 σ H F S _ V tk (fun vs H1 F1 ds m1 p1 g1 r1 => ?_) kx
  exact spA_run S g1 r1 p1 q kx⟩⟩
theorem methS {C f : Addr} {k : Nat} {fd : FuncData} {ps : List Str} {sp : Sp} {V : WX} {m : Str} {ta : TE} {t : TA} {pl : Sem Bool} (he : PE X o ta) (c : L2.Cls X.K C) (hm : Meth X.K C m f) (F : FnOk X.prog X.w X.K X.mg X.base (L2.CX X.prog X.w) k f fd ps sp) (hr : Room k X.A) (hb : Binds X.K fd ps []) (tk : Takes X V) (ha : PA X (e :: es) t)
    (hst : starEach (e :: es) X.env = (false, eval e X.env) :: starEach es X.env) (hpl : (backTo pos (starEach es X.env)).any (·.1) = false)
    (ht : eval (.Call (.Attribute o m apos) (e :: es) [] pos) X.env = (do
      let ov ← eval o X.env
      standAt apos.atName
      let (f, first) ← holding [ov] (getMethod ov m pl)
      callWith pos f first (backTo pos (starEach (e :: es) X.env)) (backToKw pos (keywordEach [] X.env)))) :
    PE X (.Call (.Attribute o m apos) (e :: es) [] pos) (fun σ H Q => ta σ H fun x H1 => ∃ a dx fs, x = .ref a ∧ H1 a = some (.ins C dx fs) ∧ fs.lookup m = none ∧ t σ H1 fun vs H2 => sp (x :: vs) H2 Q (WE V σ)) := by
  refine ⟨fun pins s σ H Q I h => ?_⟩
  refine PySem.W.methodCall_KW (pl := pl) (thn (he.run pins s σ H _ I h) fun u s1 ⟨x, H1, I1, rx, a, dx, fs, ex, ea, l, q⟩ => ?_) ht
  subst ex
  obtain rfl : u = Value.ref a := rx
  refine getmeth_ok I1 ea c hm l ?_
  refine PySem.W.callWith_K (first := [.ref a]) (h₀ := X.base) I.ok.mod.kin hm.kp (thn (ha.run pos pins s1 σ H1 _ I1 q) fun us s2 ⟨vs, H2, I2, r, q2⟩ => ⟨I2.kIn, ?_⟩) hst hpl
  exact run_fnS (us := .ref a :: us) (vs := .ref a :: vs) F hr hb (passAt tk σ) I2 (.cons rfl r) q2
theorem methS0 {C f : Addr} {k : Nat} {fd : FuncData} {ps : List Str} {sp : Sp} {V : WX} {m : Str} {ta : TE} {pl : Sem Bool} (he : PE X o ta) (c : L2.Cls X.K C) (hm : Meth X.K C m f) (F : FnOk X.prog X.w X.K X.mg X.base (L2.CX X.prog X.w) k f fd ps sp) (hr : Room k X.A) (hb : Binds X.K fd ps []) (tk : Takes X V)
    (ht : eval (.Call (.Attribute o m apos) [] [] pos) X.env = (do
      let ov ← eval o X.env
      standAt apos.atName
      let (f, first) ← holding [ov] (getMethod ov m pl)
      callWith pos f first (backTo pos (starEach [] X.env)) (backToKw pos (keywordEach [] X.env)))) :
    PE X (.Call (.Attribute o m apos) [] [] pos) (fun σ H Q => ta σ H fun x H1 => ∃ a dx fs, x = .ref a ∧ H1 a = some (.ins C dx fs) ∧ fs.lookup m = none ∧ sp [x] H1 Q (WE V σ)) := by
  refine ⟨fun pins s σ H Q I h => ?_⟩
  refine PySem.W.methodCall_KW (pl := pl) (thn (he.run pins s σ H _ I h) fun u s1 ⟨x, H1, I1, rx, a, dx, fs, ex, ea, l, q⟩ => ?_) ht
  subst ex
  obtain rfl : u = Value.ref a := rx
  refine getmeth_ok I1 ea c hm l ?_
  exact PySem.W.callWith_K0 (first := [.ref a]) I1.kIn hm.kp (run_fnS (us := [.ref a]) (vs := [.ref a]) F hr hb (passAt tk σ) I1 (.cons rfl .nil) q)
theorem lookup_zip_none : ∀ {ns : List Str} {vs : List V} {m : Str}, m ∉ ns → (ns.zip vs).lookup m = none
  | [], _, _, _ => by simp
  | n :: ns, [], _, _ => by simp
  | n :: ns, v :: vs, m, h => by
    have ne : (m == n) = false := beq_eq_false_iff_ne.mpr fun z => h (by simp [z])
    show List.lookup m ((n, v) :: ns.zip vs) = none
    rw [List.lookup_cons, ne]
    exact lookup_zip_none fun z => h (List.mem_cons_of_mem _ z)
theorem ins_at {K : PySem.W.Frag} {m : MS} {H F : Hp} {p : Addr} {c : Cls} {xs : List D} (s : Std K m H F) (h : m p = some (.ins c xs)) : ∃ C dx vs, clsAt K c.name C ∧ H p = some (.ins C dx (c.flds.zip vs)) ∧ xs.length ≤ c.fs.length ∧ Rps K F vs xs := by
  obtain ⟨C, dx, vs, h1, h2, h3, h4⟩ := s.cells p _ h
  refine ⟨C, dx, vs, h1, ?_, by simpa using h3, h4⟩
  rw [h2, zip_take h4.length]
theorem se_meth {c : Cls} {mn : Str} {k j : Nat} {s : ASp} (hc : MCal X.prog X.w X.K X.mg X.base k c mn (spA X.K s)) (hr : Room j X.A) (ho : SE X o to) (ha : SA X (e :: es) ts) (hk : k ≤ j := by decide) (hn : mn ∉ c.flds := by decide)
    (hst : starEach (e :: es) X.env = (false, eval e X.env) :: starEach es X.env := by rfl) (hpl : (backTo pos (starEach es X.env)).any (·.1) = false := by rfl) {pl : Sem Bool}
    (ht : eval (.Call (.Attribute o mn apos) (e :: es) [] pos) X.env = (do
      let ov ← eval o X.env
      standAt apos.atName
      let (f, first) ← holding [ov] (getMethod ov mn pl)
      callWith pos f first (backTo pos (starEach (e :: es) X.env)) (backToKw pos (keywordEach [] X.env))) := by rfl) :
    SE X (.Call (.Attribute o mn apos) (e :: es) [] pos) (.meth c s to ts) := ⟨fun ρ m P Z p => ⟨fun F0 σ H F S Q V tk q kx => by
  obtain ⟨C, f, fd, ps, G, hC, cl, hm, bi⟩ := hc.ex
  refine wE_of (methS pe_w cl hm G (hr.mono hk) bi tk pa_w hst hpl ht) ?_
  refine (ho.go ρ m _ Z p).run F0 σ H F S _ V tk (fun x H1 F1 d1 m1 p1 g1 r1 => ?_) kx
  obtain ⟨pa, xs, rfl, hp, p1⟩ := p1
  cases r1
  obtain ⟨C', dx, vs, hC', hH, _, _⟩ := ins_at g1.std hp
  obtain rfl := hC.inj hC'
  refine ⟨pa, dx, _, rfl, hH, lookup_zip_none hn, ?_⟩
  refine (ha.go ρ m1 _ Z p1).run F0 σ H1 F1 (S.go g1) _ V tk (fun vs H2 F2 ds m2 p2 g2 r2 => ?_) (kx.go g1)
  exact spA_run S (g1.trans g2) (.cons (.raw _) r2) p2 q kx⟩⟩
theorem se_meth0 {c : Cls} {mn : Str} {k j : Nat} {s : ASp} (hc : MCal X.prog X.w X.K X.mg X.base k c mn (spA X.K s)) (hr : Room j X.A) (ho : SE X o to) (hk : k ≤ j := by decide) (hn : mn ∉ c.flds := by decide) {pl : Sem Bool}
    (ht : eval (.Call (.Attribute o mn apos) [] [] pos) X.env = (do
      let ov ← eval o X.env
      standAt apos.atName
      let (f, first) ← holding [ov] (getMethod ov mn pl)
      callWith pos f first (backTo pos (starEach [] X.env)) (backToKw pos (keywordEach [] X.env))) := by rfl) :
    SE X (.Call (.Attribute o mn apos) [] [] pos) (.meth c s to .nil) := ⟨fun ρ m P Z p => ⟨fun F0 σ H F S Q V tk q kx => by
  obtain ⟨C, f, fd, ps, G, hC, cl, hm, bi⟩ := hc.ex
  refine wE_of (methS0 pe_w cl hm G (hr.mono hk) bi tk ht) ?_
  refine (ho.go ρ m _ Z p).run F0 σ H F S _ V tk (fun x H1 F1 d1 m1 p1 g1 r1 => ?_) kx
  obtain ⟨pa, xs, rfl, hp, p1⟩ := p1
  cases r1
  obtain ⟨C', dx, vs, hC', hH, _, _⟩ := ins_at g1.std hp
  obtain rfl := hC.inj hC'
  refine ⟨pa, dx, _, rfl, hH, lookup_zip_none hn, ?_⟩
  exact spA_run S g1 (.cons (.raw _) .nil) p1 q kx⟩⟩
/-- C(..) -/
theorem run_makeS {C f : Addr} {k : Nat} {fd : FuncData} {ps : List Str} {sp : Sp} {W0 : WX} {pins : List (Addr × Obj)} {σ : L2.St} {H : Hp} {s : Shared} {Q : VK} {us : List Value} {vs : List L2.V} (M : Mk X.K C f) (F : FnOk X.prog X.w X.K X.mg X.base (L2.CX X.prog X.w) k f fd ps sp) (hr : Room (k + 1) X.A) (hb : Binds X.K fd ps [])
    (tk : Takes X W0) (I : Inv X pins σ H s) (r : Vals vs us)
    (h : ∀ x dx, H x = none → H dx = none → dx ≠ x → sp (.ref x :: vs) (upd (upd H dx (.own x)) x (.ins C dx [])) (fun v H2 => v = .non ∧ Q (.ref x) H2) (WE W0 σ)) :
    wpAny (model X.prog X.w) X.A (call (.ref C) us) (EP X pins σ Q) X.xe s := by
  have hq := h (s.heap.objs.size + 1) s.heap.objs.size (I.hok.fresh (Nat.le_succ _)) (I.hok.fresh (Nat.le_refl _)) (Nat.ne_of_lt (Nat.lt_succ_self _))
  have I2 := Inv.made (C := C) I
  have r2 : Vals (L2.V.ref (s.heap.objs.size + 1) :: vs) (Value.ref (s.heap.objs.size + 1) :: us) := .cons rfl r
  have hl : (Value.ref (s.heap.objs.size + 1) :: us).length = ps.length := by
    have e := r2.length
    rw [F.len _ _ _ _ hq] at e
    exact e.symm
  have b := hb _ (Value.ref (s.heap.objs.size + 1) :: us) I2.kIn (by rw [List.append_nil]; exact hl)
  rw [List.append_nil] at b
  refine wpAny_call (make_map (f := f) I.kIn M.makes M.init (beq_iff_eq.mp M.fn) (codeAny_mono (F.run _ X.stack _ _ ⟨Value.ref (s.heap.objs.size + 1) :: us, []⟩ (Value.ref (s.heap.objs.size + 1) :: us) _ _ (WE W0 σ) (hr.make C us [])
    (I2.env0.make C us []) b r2 hq) fun r s' hq' => ?_))
  cases r with
  | error e => exact passAt tk σ pins _ _ e s' I2 hq'
  | ok fl =>
    cases fl with
    | ret u =>
      obtain ⟨v, H', I3, rv, ev, q3⟩ := I2.after hq'
      subst ev
      exact ⟨rv, ⟨L2.V.ref (s.heap.objs.size + 1), H', I3, rfl, q3⟩⟩
    | next => exact False.elim hq'
    | brk => exact False.elim hq'
    | cont => exact False.elim hq'
theorem make_in {F0 : Hp} {σ : L2.St} {H F H1 F1 : Hp} {ρ : Env1} {m m1 : MS} {s : ASp} {ds : List D} {vs : List L2.V} {P : NX} {Z : EX} {Q : VK} {V : WX} {C : Addr} {c : Cls} (hC : clsAt X.K c.name C) (S : StR X.K F0 σ H F ρ m) (g1 : Go X.K m H F m1 H1 F1) (r1 : Rps X.K F1 vs ds)
    (p1 : ∀ p, m1 p = none → s (.raw (.ref p) :: ds) (mset m1 p (.ins c [])) (fun v m2 => v = .non ∧ P (.raw (.ref p)) m2) fun c es m2 => Z c es ρ m2)
    (q : ∀ v H' F' d m', P d m' → Go X.K m H F m' H' F' → Rp X.K F' v d → Q v H') (kx : ExK X F0 m H F Z V) :
    ∀ x dx, H1 x = none → H1 dx = none → dx ≠ x → spA X.K s (.ref x :: vs) (upd (upd H1 dx (.own x)) x (.ins C dx [])) (fun v H2 => v = .non ∧ Q (.ref x) H2) (WE V σ) := by
  intro x dx hx hdx ne
  have j1 : Go X.K m1 H1 F1 m1 (upd H1 dx (.own x)) F1 := Go.junk g1.std hdx
  have hx' : (upd H1 dx (.own x)) x = none := by rw [upd_ne (Ne.symm ne)]; exact hx
  have j2 : Go X.K m1 (upd H1 dx (.own x)) F1 (mset m1 x (.ins c [])) (upd (upd H1 dx (.own x)) x (.ins C dx [])) F1 := Go.cell j1.std hx' ⟨C, dx, [], hC, by rw [upd_same]; simp, Nat.zero_le _, .nil⟩
  refine ⟨F1, .raw (.ref x) :: ds, _, _, _, j2.std, .cons (.raw _) r1, p1 x (g1.std.free hx), ?_, ?_⟩
  · rintro v H2 F2 d m2 ⟨rfl, p⟩ g2 r2
    cases r2
    exact ⟨rfl, q _ H2 F2 _ m2 p (((g1.trans j1).trans j2).trans g2) (.raw _)⟩
  · exact fun c es H2 F2 m2 cls dd z g2 r => kx σ H2 F2 ρ m2 c es cls dd z (((g1.trans j1).trans j2).trans g2) (S.go (((g1.trans j1).trans j2).trans g2)) r
theorem se_make {c : Cls} {x : Str} {k j : Nat} {s : ASp} (hc : KCal X.prog X.w X.K X.mg X.base k c (spA X.K s)) (hr : Room j X.A) (ha : SA X (e :: es) ts) (hx : x = c.name := by rfl) (hk : k + 1 ≤ j := by decide) (hg : Gl X x := by rfl)
    (hdb : (x == ("__debug__" : Str)) = false := by decide) (he : starEach (e :: es) X.env = (false, eval e X.env) :: starEach es X.env := by rfl) (hpl : (backTo pos (starEach es X.env)).any (·.1) = false := by rfl) :
    SE X (.Call (.Name x p) (e :: es) [] pos) (.make c s ts) := ⟨fun ρ m P Z p => ⟨fun F0 σ H F S Q V tk q kx pins s1 I => by
  obtain ⟨C, f, fd, ps, G, hC, hm, M, bi⟩ := hc.ex
  subst hx
  refine wpAny_Call_Name_kw (ld_glob I hg hm ?_ hdb)
  refine PySem.W.callWith_K (h₀ := X.base) I.ok.mod.kin M.kp (thn (((pa_w (X := X) (es := e :: es)).run pos pins s1 σ H (fun vs H1 => ∀ x dx, H1 x = none → H1 dx = none → dx ≠ x → spA X.K s (.ref x :: vs) (upd (upd H1 dx (.own x)) x (.ins C dx [])) (fun v H2 => v = .non ∧ Q (.ref x) H2) (WE V σ)) I) ?_) fun us s2 ⟨vs, H1, I1, r, q⟩ => ⟨I1.kIn, ?_⟩) he hpl
  · refine (ha.go ρ m _ Z p).run F0 σ H F S _ V tk (fun vs H1 F1 ds m1 p1 g1 r1 => ?_) kx
    exact make_in hC S g1 r1 p1 q kx
  · exact run_makeS M G (hr.mono hk) bi tk I1 r q⟩⟩
theorem se_make0 {c : Cls} {x : Str} {k j : Nat} {s : ASp} (hc : KCal X.prog X.w X.K X.mg X.base k c (spA X.K s)) (hr : Room j X.A) (hx : x = c.name := by rfl) (hk : k + 1 ≤ j := by decide) (hg : Gl X x := by rfl)
    (hdb : (x == ("__debug__" : Str)) = false := by decide) : SE X (.Call (.Name x p) [] [] pos) (.make c s .nil) := ⟨fun ρ m P Z p => ⟨fun F0 σ H F S Q V tk q kx pins s1 I => by
  obtain ⟨C, f, fd, ps, G, hC, hm, M, bi⟩ := hc.ex
  subst hx
  refine wpAny_Call_Name_kw (ld_glob I hg hm ?_ hdb)
  exact PySem.W.callWith_K0 I.kIn M.kp (run_makeS (us := []) M G (hr.mono hk) bi tk I .nil (make_in hC S (Go.refl S.std) .nil p q kx))⟩⟩
/-! ### fields -/
def sFld (f : Fld) : BS := fun ds m P => match ds with
  | [.raw (.ref p)] => ∃ c xs, m p = some (.ins c xs) ∧ match getF c.fs xs f with
    | some d => P d m
    | none => False
  | [.exn c xs] => match getF c.fs xs f with
    | some d => P d m
    | none => False
  | _ => False
theorem sFld_of {f : Fld} {d : D} {m : MS} {P : NX} (h : sFld f [d] m P) : (∃ p c xs d', d = .raw (.ref p) ∧ m p = some (.ins c xs) ∧ getF c.fs xs f = some d' ∧ P d' m) ∨ ∃ c xs d', d = .exn c xs ∧ getF c.fs xs f = some d' ∧ P d' m := by
  cases d with
  | raw v =>
    cases v with
    | ref p =>
      obtain ⟨c, xs, e, h⟩ := h
      cases e2 : getF c.fs xs f with
      | none => rw [e2] at h; exact h.elim
      | some d' => rw [e2] at h; exact .inl ⟨p, c, xs, d', rfl, e, e2, h⟩
    | _ => exact h.elim
  | exn c xs =>
    have h : match getF c.fs xs f with | some d => P d m | none => False := h
    cases e2 : getF c.fs xs f with
    | none => rw [e2] at h; exact h.elim
    | some d' => rw [e2] at h; exact .inr ⟨c, xs, d', rfl, e2, h⟩
  | _ => exact h.elim
/-- what an own exception class must have for its instances' fields to be read -/
structure ExnF (K : PySem.W.Frag) (c : Exn) : Prop where
  ex : ∀ C, clsAt K c.name C → PySem.W.findIn K (.ref C) "__getattribute__" = some (some (.builtin "BaseException.__getattribute__")) ∧ PySem.W.findIn K (.ref C) "__getattr__" = some none ∧ PySem.W.subIn K (.ref C) (.type "BaseException") = some true ∧ PySem.W.hasDictIn K C = true ∧
    ∀ f ∈ c.fs, PySem.W.findIn K (.ref C) f.name = some none
theorem pe_attr {f : Str} {te : TE} (he : PE X e te) (hb : attributeBase e f X.env (eval e X.env) = eval e X.env) : PE X (.Attribute e f pos) (fun σ H Q => te σ H fun x H1 => (∃ a C dx fs v, x = .ref a ∧ H1 a = some (.ins C dx fs) ∧ L2.Cls X.K C ∧ NoAttr X.K C f ∧ fs.lookup f = some v ∧ Q v H1) ∨
    ∃ a C q fs v, x = .ref a ∧ H1 a = some (ExV a (.ref C) (some q)) ∧ H1 q = some (.xd fs) ∧ PySem.W.findIn X.K (.ref C) "__getattribute__" = some (some (.builtin "BaseException.__getattribute__")) ∧ PySem.W.findIn X.K (.ref C) "__getattr__" = some none ∧ PySem.W.subIn X.K (.ref C) (.type "BaseException") = some true ∧ PySem.W.hasDictIn X.K C = true ∧
      PySem.W.findIn X.K (.ref C) f = some none ∧ fs.lookup f = some v ∧ Q v H1) := by
  refine ⟨fun pins s σ H Q I h => ?_⟩
  refine attr_of hb (thn (he.run pins s σ H _ I h) fun u s1 ⟨x, H1, I1, rx, q⟩ => ?_)
  rcases q with ⟨a, C, dx, fs, v, ex, ea, c, n, l, q⟩ | ⟨a, C, qa, fs, v, ex, ea, eq, g1, g2, g3, g4, g5, l, q⟩
  · subst ex
    obtain rfl : u = Value.ref a := rx
    exact getattr_ok I1 ea c n l fun u' s2 I2 ru => ⟨v, H1, I2, ru, q⟩
  · subst ex
    obtain rfl : u = Value.ref a := rx
    obtain ⟨oe, vs, ho, hz, hd⟩ := exV_at I1.hok ea
    have hx : ObjOk X.prog X.w H1 s1.heap qa (.xd fs) := I1.hok qa _ eq
    obtain ⟨mA, hns, hr⟩ := hx
    obtain ⟨od, hod, hl⟩ := lookIn_ns hns
    obtain ⟨u, hu, ru⟩ := RelO.some_of (v := v) (o := mA f) (by rw [← l]; exact hr f)
    have J : PySem.W.InstAt s1.heap a oe C (some od) := ⟨ho, hz.1, by unfold PySem.W.notCls; rw [hd] <;> rfl, by rw [hz.2]; exact hod⟩
    exact HandSPX.exc_get I1.kIn J g1 g2 g3 (PySem.W.findObj_own g4 g5 rfl (by rw [hl, hu])) (handed_of ru) ⟨v, H1, I1.tok _, ru, q⟩
theorem getF_mem : ∀ {fs : List Fld} {xs : List D} {f : Fld} {d : D}, getF fs xs f = some d → f ∈ fs
  | [], xs, _, _, h => by cases xs <;> cases h
  | f :: fs, [], _, _, h => by cases h
  | f :: fs, x :: xs, g, d, h => by
    unfold getF at h
    by_cases e : f = g
    · rw [e]; exact List.mem_cons_self
    · rw [if_neg e] at h
      exact List.mem_cons_of_mem _ (getF_mem h)
theorem setF_mem : ∀ {fs : List Fld} {xs xs' : List D} {f : Fld} {d : D}, setF fs xs f d = some xs' → f ∈ fs
  | [], xs, _, _, _, h => by cases xs <;> cases h
  | f :: fs, [], _, g, _, h => by
    unfold setF at h
    split at h
    · rename_i e; rw [e]; exact List.mem_cons_self
    · cases h
  | f :: fs, x :: xs, _, g, d, h => by
    unfold setF at h
    split at h
    · rename_i e; rw [e]; exact List.mem_cons_self
    · split at h
      · rename_i e2
        exact List.mem_cons_of_mem _ (setF_mem e2)
      · cases h
theorem se_fld {f : Fld} {fn : Str} (TC : ∀ c, ClsF X.K c) (TE : ∀ c, ExnF X.K c) (he : SE X e t) (hf : f.name = fn := by rfl) (hb : attributeBase e fn X.env (eval e X.env) = eval e X.env := by rfl) : SE X (.Attribute e fn pos) (.bop (sFld f) (.cons t .nil)) := ⟨fun ρ m P Z p => ⟨fun F0 σ H F S Q V tk q kx => by
  subst hf
  refine wE_of (pe_attr pe_w hb) ?_
  refine (he.go ρ m _ Z p).run F0 σ H F S _ V tk (fun x H1 F1 d1 m1 p1 g1 r1 => ?_) kx
  rcases sFld_of p1 with ⟨pa, c, xs, d', rfl, hp, hg, p2⟩ | ⟨c, xs, d', rfl, hg, p2⟩
  · cases r1
    obtain ⟨C, dx, vs, hC, hH, _, rs⟩ := ins_at g1.std hp
    obtain ⟨v, hl, rv⟩ := lookup_getF hg rs
    obtain ⟨cl, na⟩ := (TC c).ex C hC
    exact .inl ⟨pa, C, dx, _, v, rfl, hH, cl, na f (getF_mem hg), hl, q v H1 F1 d' m1 p2 g1 rv⟩
  · cases r1 with
    | exn0 h1 h2 h3 =>
      exfalso
      have := getF_mem hg
      have h1' : c.fs = [] := by simpa using h1
      rw [h1'] at this
      cases this
    | @exn1 a C qa _ vs _ h1 h0 h2 h3 h4 h5 =>
      obtain ⟨v, hl, rv⟩ := lookup_getF hg h5
      obtain ⟨a1, a2, a3, a4, a5⟩ := (TE c).ex C h2
      exact .inr ⟨a, C, qa, _, v, rfl, g1.std.at h3, g1.std.at h4, a1, a2, a3, a4, a5 f (getF_mem hg), hl, q v H1 F1 d' m1 p2 g1 rv⟩⟩⟩
theorem ins_put {K : PySem.W.Frag} {m : MS} {H F : Hp} {p C dx : Addr} {c : Cls} {xs xs' : List D} {vs : List V} {f : Fld} {d : D} {v : V} (s : Std K m H F) (hp : m p = some (.ins c xs)) (hC : clsAt K c.name C) (hl : xs.length ≤ c.fs.length) (rs : Rps K F vs xs) (hs : setF c.fs xs f d = some xs') (rv : Rp K F v d) :
    Go K m H F (mset m p (.ins c xs')) (upd H p (.ins C dx (putF f.name v (c.flds.zip vs)))) F := by
  obtain ⟨vs', h1, h2⟩ := putF_setF hs rs rv
  refine Go.put s hp ⟨C, dx, vs', hC, ?_, by simpa using setF_len hs hl, h2⟩
  rw [upd_same, zip_take h2.length, h1]
theorem s_fset {f : Fld} {fn : Str} (TC : ∀ c, ClsF X.K c) (ho : SE X o to) (hv : SE X value te) (hf : f.name = fn := by rfl) (hs : swapsWith value (some (.Attribute o fn pos')) pos.line X.env = pure false := by rfl) : SS1 X (.Assign [.Attribute o fn pos'] value pos) (.fset f to te) := ⟨fun ρ m A p => ⟨fun F0 σ H F S E V tk k => by
  subst hf
  refine wS_of (ps_fld pe_w pe_w hs) ?_
  refine (hv.go ρ m _ _ p).run F0 σ H F S _ V tk (fun y H1 F1 d m1 p1 g1 r1 => ?_) k.ex
  refine (ho.go ρ m1 _ _ p1).run F0 σ H1 F1 (S.go g1) _ V tk (fun x H2 F2 dx m2 p2 g2 r2 => ?_) (k.ex.go g1)
  cases dx with
  | raw v =>
    cases v with
    | ref pa =>
      obtain ⟨c, xs, hp, p2⟩ := p2
      cases e2 : setF c.fs xs f d with
      | none => rw [e2] at p2; exact p2.elim
      | some xs' =>
        rw [e2] at p2
        cases r2
        obtain ⟨C, dx, vs, hC, hH, hl, rs⟩ := ins_at g2.std hp
        obtain ⟨cl, na⟩ := (TC c).ex C hC
        refine ⟨pa, C, dx, _, rfl, hH, cl, na f (setF_mem e2), ?_, ?_⟩
        · have : c.fs.length ≤ 13 := by cases c <;> decide
          have l2 := rs.length
          rw [List.length_zip, List.length_map]
          omega
        · have g3 := ins_put (C := C) (dx := dx) g2.std hp hC hl rs e2 (r1.up g2.grow _)
          exact k.nx σ _ F2 ρ _ p2 ((g1.trans g2).trans g3) (((S.go g1).go g2).go g3)
    | _ => exact p2.elim
  | _ => exact p2.elim⟩⟩
/-- o.f += e -/
theorem s_faug {f : Fld} {fn : Str} (TC : ∀ c, ClsF X.K c) (ho : SE X o to) (hv : SE X value te) (hf : f.name = fn := by rfl) : SS1 X (.AugAssign (.Attribute o fn pos') .Add value pos) (.faug f to te) := ⟨fun ρ m A p => ⟨fun F0 σ H F S E V tk k => by
  subst hf
  refine wS_of (ps_fldaug pe_w pe_w in_add) ?_
  refine (ho.go ρ m _ _ p).run F0 σ H F S _ V tk (fun x H1 F1 dx m1 p1 g1 r1 => ?_) k.ex
  cases dx with
  | raw v =>
    cases v with
    | ref pa =>
      obtain ⟨c, xs, hp, p1⟩ := p1
      cases e1 : getF c.fs xs f with
      | none => rw [e1] at p1; exact p1.elim
      | some d0 =>
        rw [e1] at p1
        cases d0 with
        | int i =>
          cases r1
          obtain ⟨C, dx, vs, hC, hH, hl, rs⟩ := ins_at g1.std hp
          obtain ⟨cl, na⟩ := (TC c).ex C hC
          obtain ⟨v0, hlk, rv0⟩ := lookup_getF e1 rs
          refine ⟨pa, C, dx, _, v0, rfl, hH, cl, na f (getF_mem e1), hlk, ?_⟩
          have p1 : W te ρ m1 _ _ := p1
          refine (hv.go ρ m1 _ _ p1).run F0 σ H1 F1 (S.go g1) _ V tk (fun y H2 F2 d m2 p2 g2 r2 => ?_) (k.ex.go g1)
          obtain ⟨hp2, p2⟩ := p2
          cases d with
          | int j =>
            have p2 : match setF c.fs xs f (.int (i + j)) with | some xs' => A.nx ρ (mset m2 pa (.ins c xs')) | none => False := p2
            cases e2 : setF c.fs xs f (.int (i + j)) with
            | none => rw [e2] at p2; exact p2.elim
            | some xs' =>
              rw [e2] at p2
              cases r2
              cases rv0
              obtain ⟨C', dx', vs', hC', hH', hl', rs'⟩ := ins_at g2.std hp2
              obtain rfl := hC.inj hC'
              refine ⟨i, j, rfl, rfl, dx', _, hH', ?_, ?_⟩
              · have : c.fs.length ≤ 13 := by cases c <;> decide
                rw [List.length_zip, List.length_map]
                omega
              · have g3 := ins_put (C := C) (dx := dx') g2.std hp2 hC hl' rs' e2 (.int (i + j))
                exact k.nx σ _ F2 ρ _ p2 ((g1.trans g2).trans g3) (((S.go g1).go g2).go g3)
          | _ => exact p2.elim
        | _ => exact p1.elim
    | _ => exact p1.elim
  | _ => exact p1.elim⟩⟩
end
end Nu

namespace Nu
open PySem PySem.Spec L2
open PyProof.Rows hiding St
/-! ### operators: what they ask, and that they do so -/
section
variable {K : PySem.W.Frag} {H F : Hp} {m : MS} {P : NX} {Q : VK} {ds es : List D} {vs : List V}
theorem rp_tup {p : Addr} (h : H p = some (.tup vs)) (r : Rps K H vs ds) : Rp K H (.ref p) (.tup ds) := .tup (.inl (.inl h)) r
theorem newL_q (n : NewL ds m P) (s : Std K m H F) (r : Rps K F vs ds) (q : ∀ v H' F' d m', P d m' → Go K m H F m' H' F' → Rp K F' v d → Q v H') : ∀ p, H p = none → Q (.ref p) (upd H p (.lst vs)) := fun p hp => by
  rcases n with n | n
  · exact q _ _ _ _ _ n (Go.new s hp) (.lst upd_same (Rps.up (Go.new s hp).grow _ r))
  · exact q _ _ _ _ _ (n p (s.free hp)) (Go.cell s hp ⟨vs, upd_same, r⟩) (.raw _)
theorem newT_q (n : P (.tup ds) m) (s : Std K m H F) (r : Rps K F vs ds) (q : ∀ v H' F' d m', P d m' → Go K m H F m' H' F' → Rp K F' v d → Q v H') : ∀ p, H p = none → Q (.ref p) (upd H p (.tup vs)) := fun p hp =>
  q _ _ _ _ _ n (Go.new s hp) (.tup (.inl (.inl upd_same)) (Rps.up (Go.new s hp).grow _ r))
/-- a list that may stand as data or as a cell, in the heap itself -/
def asL (d : D) (m : MS) (R : List D → Prop) : Prop := match d with
  | .lst xs => R xs
  | .raw (.ref p) => ∃ xs, m p = some (.lst xs) ∧ R xs
  | _ => False
theorem asL_use {d : D} {v : V} {R : List D → Prop} (h : asL d m R) (s : Std K m H F) (r : Rp K F v d) : ∃ a xs vs, v = .ref a ∧ R xs ∧ H a = some (.lst vs) ∧ Rps K F vs xs := by
  cases d with
  | lst xs =>
    cases r with
    | @lst a vs _ h1 h2 => exact ⟨a, xs, vs, rfl, h, s.at h1, h2⟩
  | raw w =>
    cases w with
    | ref p =>
      cases r
      obtain ⟨xs, e, h⟩ := h
      obtain ⟨vs, h1, h2⟩ := s.cells p _ e
      exact ⟨p, xs, vs, rfl, h, h1, h2⟩
    | _ => exact h.elim
  | _ => exact h.elim
def seqR (d : D) (m : MS) (R : List D → Prop) : Prop := seqD d m fun xs _ => R xs
theorem seqR_use {d : D} {v : V} {R : List D → Prop} (h : seqR d m R) (s : Std K m H F) (r : Rp K F v d) : ∃ a tp xs vs, v = .ref a ∧ R xs ∧ SqA K tp H a vs ∧ Rps K F vs xs := by
  obtain ⟨a, tp, xs, GG, e, h1, g, w⟩ := seqD_use h s r
  obtain ⟨vs, h2, h3⟩ := w m H F (Same.refl _) s g
  exact ⟨a, tp, xs, vs, e, h1, h2, h3⟩
theorem rps1 {vs : List V} {d : D} (h : Rps K F vs [d]) : ∃ v, vs = [v] ∧ Rp K F v d := by
  cases h with
  | cons h1 h2 => cases h2; exact ⟨_, rfl, h1⟩
theorem rps2 {vs : List V} {d e : D} (h : Rps K F vs [d, e]) : ∃ v w, vs = [v, w] ∧ Rp K F v d ∧ Rp K F w e := by
  cases h with
  | cons h1 h2 =>
    obtain ⟨w, rfl, h3⟩ := rps1 h2
    exact ⟨_, w, rfl, h1, h3⟩
theorem rps3 {vs : List V} {d e f : D} (h : Rps K F vs [d, e, f]) : ∃ v w x, vs = [v, w, x] ∧ Rp K F v d ∧ Rp K F w e ∧ Rp K F x f := by
  cases h with
  | cons h1 h2 =>
    obtain ⟨w, x, rfl, h3⟩ := rps2 h2
    exact ⟨_, w, x, rfl, h1, h3⟩
end
/-! + -/
def sAdd : BS := fun ds m P => match ds with
  | [.int i, .int j] => P (.int (i + j)) m
  | [.str a, .str b] => a.length + b.length ≤ sizeLine ∧ P (.str (a ++ b)) m
  | [.tup xs, .tup ys] => xs.length + ys.length ≤ 100000 ∧ P (.tup (xs ++ ys)) m
  | [d1, d2] => asL d1 m fun xs => asL d2 m fun ys => xs.length + ys.length ≤ 100000 ∧ NewL (xs ++ ys) m P
  | _ => False
def rAdds (K : PySem.W.Frag) : R2 := fun x y H Q => rI0 (fun i j => .int (i + j)) x y H Q ∨ (∃ i j, x = .str i ∧ y = .str j ∧ i.length + j.length ≤ sizeLine ∧ Q (.str (i ++ j)) H) ∨ rCatA K x y H Q ∨ rCat x y H Q
theorem op_adds {X : Cx} : OpR X (binaryOp .Add) (rAdds X.K) := op_add.or (op_add_str.or (op_catA.or op_cat))
theorem bok_add {K : PySem.W.Frag} : Bok2 K (rAdds K) sAdd := fun d1 d2 m P h x y H F s r1 r2 Q q => by
  unfold sAdd at h
  split at h
  · rename_i e; cases e
    cases r1; cases r2
    exact .inl ⟨_, _, rfl, rfl, q _ _ _ _ _ h (Go.refl s) (.int _)⟩
  · rename_i e; cases e
    cases r1; cases r2
    exact .inr (.inl ⟨_, _, rfl, rfl, h.1, q _ _ _ _ _ h.2 (Go.refl s) (.str _)⟩)
  · rename_i xs ys e; cases e
    cases r1 with
    | @tup a vs _ h1 h2 =>
      cases r2 with
      | @tup b ws _ h3 h4 =>
        refine .inr (.inr (.inl ⟨a, b, vs, ws, rfl, rfl, Same.seqT s.toH h1, Same.seqT s.toH h3, ?_, fun e => ?_, fun _ e => ?_, fun _ _ p hp => ?_⟩))
        · rw [h2.length, h4.length]; exact Nat.le_trans h.1 (by decide)
        · have e1 : xs = [] := List.eq_nil_of_length_eq_zero (by rw [← h2.length, e]; rfl)
          exact q _ H F _ _ h.2 (Go.refl s) (by rw [e1]; exact .tup h3 h4)
        · have e1 : ys = [] := List.eq_nil_of_length_eq_zero (by rw [← h4.length, e]; rfl)
          exact q _ H F _ _ h.2 (Go.refl s) (by rw [e1, List.append_nil]; exact .tup h1 h2)
        · exact newT_q h.2 s (h2.append h4) q p hp
  · rename_i d1' d2' _ _ _ e; cases e
    obtain ⟨a, xs, vs, rfl, h, h1, h2⟩ := asL_use h s r1
    obtain ⟨b, ys, ws, rfl, h, h3, h4⟩ := asL_use h s r2
    exact .inr (.inr (.inr ⟨a, b, vs, ws, rfl, rfl, h1, h3, by rw [h2.length, h4.length]; exact Nat.le_trans h.1 (by decide), newL_q h.2 s (h2.append h4) q⟩))
  · exact h.elim
/-! - // % -/
def sSub : BS := fun ds m P => match ds with
  | [.int i, .int j] => P (.int (i - j)) m
  | _ => False
def sFdv : BS := fun ds m P => match ds with
  | [.int i, .int j] => (0 < j ∧ j < 2 ^ 200) ∧ P (.int (i / j)) m
  | _ => False
def sMod : BS := fun ds m P => match ds with
  | [.int i, .int j] => 0 < j ∧ P (.int (i % j)) m
  | _ => False
theorem divW_of {i j : Int} (h : 0 < j ∧ j < 2 ^ 200) : CDivW i j := ⟨h.1, by
  have h2 : j.natAbs < 2 ^ 200 := by have := h.2; omega
  have : j.natAbs.log2 < 200 := (Nat.log2_lt (by have := h.1; omega)).mpr h2
  omega⟩
theorem bok_I {K : PySem.W.Frag} {C : Int → Int → Prop} {C' : Int → Int → Prop} {g : Int → Int → V} {gd : Int → Int → D} {s : BS} (hs : ∀ d1 d2 m P, s [d1, d2] m P → ∃ i j, d1 = .int i ∧ d2 = .int j ∧ C i j ∧ P (gd i j) m) (hg : ∀ F i j, Rp K F (g i j) (gd i j)) : Bok2 K (rI C g) s := fun d1 d2 m P h x y H F sd r1 r2 Q q => by
  obtain ⟨i, j, rfl, rfl, c, p⟩ := hs _ _ _ _ h
  cases r1; cases r2
  exact ⟨i, j, rfl, rfl, c, q _ _ _ _ _ p (Go.refl sd) (hg F i j)⟩
theorem bok_I0 {K : PySem.W.Frag} {g : Int → Int → V} {gd : Int → Int → D} {s : BS} (hs : ∀ d1 d2 m P, s [d1, d2] m P → ∃ i j, d1 = .int i ∧ d2 = .int j ∧ P (gd i j) m) (hg : ∀ F i j, Rp K F (g i j) (gd i j)) : Bok2 K (rI0 g) s := fun d1 d2 m P h x y H F sd r1 r2 Q q => by
  obtain ⟨i, j, rfl, rfl, p⟩ := hs _ _ _ _ h
  cases r1; cases r2
  exact ⟨i, j, rfl, rfl, q _ _ _ _ _ p (Go.refl sd) (hg F i j)⟩
theorem bok_sub {K : PySem.W.Frag} : Bok2 K (rI0 fun i j => .int (i - j)) sSub := bok_I0 (gd := fun i j => .int (i - j)) (fun d1 d2 m P h => by
  unfold sSub at h
  split at h
  · rename_i e; cases e; exact ⟨_, _, rfl, rfl, h⟩
  · exact h.elim) fun _ _ _ => .int _
theorem bok_fdv {K : PySem.W.Frag} : Bok2 K (rI CDivW fun i j => .int (i / j)) sFdv := bok_I (C' := CDivW) (gd := fun i j => .int (i / j)) (fun d1 d2 m P h => by
  unfold sFdv at h
  split at h
  · rename_i e; cases e; exact ⟨_, _, rfl, rfl, divW_of h.1, h.2⟩
  · exact h.elim) fun _ _ _ => .int _
theorem bok_mod {K : PySem.W.Frag} : Bok2 K (rI (fun _ j => 0 < j) fun i j => .int (i % j)) sMod := bok_I (C' := fun _ j => 0 < j) (gd := fun i j => .int (i % j)) (fun d1 d2 m P h => by
  unfold sMod at h
  split at h
  · rename_i e; cases e; exact ⟨_, _, rfl, rfl, h.1, h.2⟩
  · exact h.elim) fun _ _ _ => .int _
/-! * -/
theorem tuple_mul1 (l : Addr) (items : Array Value) (n : Nat) (dd : Option Addr) (sl : Array (Option Value)) (u : Tok) :
    Meets (Builtin.«tuple.__mul__» ⟨[.ref l, .int 1 u], []⟩) (fun _ R s => s.heap.get? l = some { cls := .type "tuple", dict := dd, data := .seq items n, slots := sl } ∧ R (.ok (.ret (Value.ref l))) s) :=
  .of_wp fun prog w A R s h => by
    obtain ⟨hp, g, d, tk, os⟩ := s
    obtain ⟨hl, h⟩ := h
    have f1 := AutoSeq1.idx_int
    have c1 : (items.isEmpty || (1 : Int) == 1) = true := by simp
    wp_walk using wpAny_loadPart' hl
    exact ⟨_, rfl, h⟩
def rRepT1 (K : PySem.W.Frag) : R2 := fun x y H Q => ∃ l xs, x = .ref l ∧ y = .int 1 ∧ SqT K H l xs ∧ Q (.ref l) H
theorem op_repT1 {X : Cx} : OpR X (binaryOp .Mult) (rRepT1 X.K) := by
  intro pins s σ H x y v u Q I rx ry h
  obtain ⟨l, xs, rfl, rfl, hT, q⟩ := h
  cases rx
  obtain ⟨t, rfl⟩ := ry
  obtain ⟨its, r, ⟨⟨cls, dd, data, sl⟩, ho, hc, n, hd⟩, hs⟩ := I.tuple hT
  simp only at hc hd
  subst hc hd
  refine wpAny_binaryOp_repeat_ref (T := "tuple") (U := "int") (by decide) ⟨_, ho, rfl⟩ (fun s' => typeIs_int s' 1 t) noFill_tuple_mul F.fills_int_mul F.slot_int_rmul repeat_tuple F.slot_int_index.lookup
    (call_meets F.slot_int_rmul (typeIs_int s 1 t) F.entry_int_rmul (F.args_int_rmul_2 _ _) (int_rmul_tuple 1 t l its.toArray n dd sl)
      ⟨ho, rfl, ⟨_, ho, rfl⟩, call_meets F.slot_tuple_mul ⟨_, ho, rfl⟩ F.entry_tuple_mul (F.args_tuple_mul_2 _ _) (tuple_mul1 l its.toArray n dd sl t) ⟨ho, ?_⟩⟩)
  exact ⟨.ref l, H, I, rfl, q⟩
def repS (z : Str) (n : Nat) : Str := ⟨(List.replicate n z.cps).foldl (· ++ ·) #[]⟩
theorem foldl_app_size (z : Array Nat) : ∀ (n : Nat) (acc : Array Nat), ((List.replicate n z).foldl (· ++ ·) acc).size = acc.size + n * z.size
  | 0, acc => by simp
  | n + 1, acc => by
    rw [List.replicate_succ, List.foldl_cons, foldl_app_size z n, Array.size_append, Nat.succ_mul]
    omega
theorem repS_len (z : Str) (n : Nat) : (repS z n).length = n * z.length := by
  show ((List.replicate n z.cps).foldl (· ++ ·) #[]).size = _
  rw [foldl_app_size]; simp [Str.length]
theorem repS_one (z : Str) : repS z 1 = z := by
  unfold repS
  rw [List.replicate_one, List.foldl_cons, List.foldl_nil, Array.empty_append]
def rMulSn : R2 := fun x y H Q => ∃ z k, x = .str z ∧ y = .int k ∧ (0 ≤ k ∧ k ≤ 1000 ∧ 1 ≤ z.length ∧ z.length ≤ 1000) ∧ Q (.str (repS z k.toNat)) H
theorem op_mulSn {X : Cx} : OpR X (binaryOp .Mult) rMulSn := by
  intro pins s σ H x y v u Q I rx ry h
  obtain ⟨z, k, rfl, rfl, ⟨hk1, hk2, hz1, hz2⟩, q⟩ := h
  obtain ⟨t, rfl⟩ := rx
  obtain ⟨t', rfl⟩ := ry
  by_cases hk0 : k = 0
  · subst hk0
    exact PySem.P.mul_str_none (by decide) (by decide) ⟨.str _, H, I.tok _, ⟨_, rfl⟩, q⟩
  have hl : z.length * k.toNat ≤ 1000 * 1000 := Nat.mul_le_mul hz2 (by omega)
  refine PySem.P.mul_str (by rw [decide_eq_false (by omega), decide_eq_false (by omega)]; rfl) (fun _ _ => ?_) (fun _ _ => ?_) ?_
  · have h1 : (1000 : Int) ≤ (2 ^ 63 - 1) / k := by
      rw [Int.le_ediv_iff_mul_le (by omega)]
      omega
    omega
  · unfold Builtin.Str.tooLong
    exact decide_eq_false (by have : (1000 * 1000 : Nat) < sizeLine := by decide
                              omega)
  · rw [if_neg (by omega)]
    by_cases h1 : k = 1
    · subst h1
      rw [if_pos (by simp)]
      rw [show (1 : Int).toNat = 1 from rfl, repS_one] at q
      exact ⟨.str _, H, I, ⟨_, rfl⟩, q⟩
    · rw [if_neg (by simp only [Bool.or_eq_true, beq_iff_eq]; omega)]
      refine ⟨?_, .str _, H, I.tok _, ⟨_, rfl⟩, q⟩
      have := repS_len z k.toNat
      have e2 : k.toNat * z.length = z.length * k.toNat := Nat.mul_comm _ _
      have : (1000 * 1000 : Nat) < sizeLine := by decide
      show (repS z k.toNat).length ≤ sizeLine
      omega
def repL (k : Int) (ds : List D) : List D := (List.replicate k.toNat ds).flatten
theorem Rps.rep {K : PySem.W.Frag} {F : Hp} {vs : List V} {ds : List D} (h : Rps K F vs ds) (n : Nat) : Rps K F (List.replicate n vs).flatten (List.replicate n ds).flatten := by
  induction n with
  | zero => exact .nil
  | succ n ih =>
    rw [List.replicate_succ, List.flatten_cons, List.replicate_succ, List.flatten_cons]
    exact h.append ih
def sMul : BS := fun ds m P => match ds with
  | [.int i, .int j] => CMul i j ∧ P (.int (i * j)) m
  | [.str z, .int k] => (0 ≤ k ∧ k ≤ 1000 ∧ 1 ≤ z.length ∧ z.length ≤ 1000) ∧ P (.str (repS z k.toNat)) m
  | [.tup xs, .int k] => (1 ≤ k ∧ k ≤ 1000 ∧ xs ≠ [] ∧ xs.length ≤ 1000) ∧ P (.tup (repL k xs)) m
  | [d, .int k] => asL d m fun xs => (-(2 ^ 63) ≤ k ∧ k < 2 ^ 63 ∧ xs.length * k.toNat ≤ 100000) ∧ NewL (repL k xs) m P
  | _ => False
def rMuls (K : PySem.W.Frag) : R2 := fun x y H Q => rI CMul (fun i j => .int (i * j)) x y H Q ∨ rMulSn x y H Q ∨ rRepT1 K x y H Q ∨ rRepT K x y H Q ∨ rRep x y H Q
theorem op_muls {X : Cx} : OpR X (binaryOp .Mult) (rMuls X.K) := op_mul.or (op_mulSn.or (op_repT1.or (op_repT.or op_rep)))
theorem bok_mul {K : PySem.W.Frag} : Bok2 K (rMuls K) sMul := fun d1 d2 m P h x y H F s r1 r2 Q q => by
  unfold sMul at h
  split at h
  · rename_i e; cases e
    cases r1; cases r2
    exact .inl ⟨_, _, rfl, rfl, h.1, q _ _ _ _ _ h.2 (Go.refl s) (.int _)⟩
  · rename_i e; cases e
    cases r1; cases r2
    exact .inr (.inl ⟨_, _, rfl, rfl, h.1, q _ _ _ _ _ h.2 (Go.refl s) (.str _)⟩)
  · rename_i xs k e; cases e
    cases r2
    obtain ⟨⟨k1, k2, hn, hl⟩, h⟩ := h
    cases r1 with
    | @tup a vs _ h1 h2 =>
      by_cases hk : k = 1
      · subst hk
        have e : repL 1 xs = xs := by simp [repL]
        rw [e] at h
        exact .inr (.inr (.inl ⟨a, vs, rfl, rfl, Same.seqT s.toH h1, q _ _ _ _ _ h (Go.refl s) (.tup h1 h2)⟩))
      · refine .inr (.inr (.inr (.inl ⟨a, k, vs, rfl, rfl, Same.seqT s.toH h1, ?_, by omega, k2, by rw [h2.length]; exact hl, newT_q h s (h2.rep _) q⟩)))
        intro e
        have := h2.length
        rw [e] at this
        exact hn (List.eq_nil_of_length_eq_zero this.symm)
  · rename_i d1' k _ _ _ e; cases e
    cases r2
    obtain ⟨a, xs, vs, rfl, ⟨⟨k1, k2, hl⟩, h⟩, h1, h2⟩ := asL_use h s r1
    exact .inr (.inr (.inr (.inr ⟨a, k, vs, rfl, rfl, h1, k1, k2, by rw [h2.length]; exact Nat.le_trans hl (by decide), newL_q h s (h2.rep _) q⟩)))
  · exact h.elim
/-! unary minus -/
def sNeg : BS := fun ds m P => match ds with
  | [.int i] => P (.int (-i)) m
  | _ => False
theorem se_neg {X : Cx} {a : Expr} {t : T} {pos : Pos} (h : SE X a t) : SE X (.UnaryOp .USub a pos) (.bop sNeg (.cons t .nil)) := ⟨fun ρ m P Z p => ⟨fun F0 σ H F S Q V tk q kx => by
  refine wE_of (pe_un un_neg pe_w) ?_
  refine (h.go ρ m _ Z p).run F0 σ H F S _ V tk (fun v H1 F1 d m1 p1 g1 r1 => ?_) kx
  cases d with
  | int i =>
    cases r1
    exact ⟨i, rfl, q _ H1 F1 _ m1 p1 g1 (.int _)⟩
  | _ => exact False.elim p1⟩⟩
/-! < <= > >= -/
def Cmp.s : Cmp → Str → Str → Bool
  | .lt, i, j => decide (i.cps.toList < j.cps.toList)
  | .le, i, j => !decide (j.cps.toList < i.cps.toList)
  | .gt, i, j => decide (j.cps.toList < i.cps.toList)
  | .ge, i, j => !decide (i.cps.toList < j.cps.toList)
def rCmps (K : PySem.W.Frag) (o : Cmp) : R2 := fun x y H Q => rI0 (fun i j => .bl (o.b i j)) x y H Q ∨ (∃ i j, x = .str i ∧ y = .str j ∧ Q (.bl (o.s i j)) H) ∨ o = .lt ∧ rLtT K x y H Q
theorem op_cmps {X : Cx} {k : Nat} (hr : Room k X.A) (o : Cmp) : OpR X (compareOp o.op) (rCmps X.K o) := by
  refine (op_cmpI o).or (OpR.or ?_ ?_)
  · cases o
    · exact op_lt_str
    · exact op_le_str
    · exact op_gt_str
    · exact op_ge_str
  · intro pins s σ H x y v u Q I rx ry h
    obtain ⟨rfl, h⟩ := h
    exact op_ltT hr.units0 pins s σ H x y v u Q I rx ry h
def sCmp (o : Cmp) : BS := fun ds m P => match ds with
  | [.int i, .int j] => P (.bl (o.b i j)) m
  | [.str i, .str j] => P (.bl (o.s i j)) m
  | [.tup xs, .tup ys] => o = .lt ∧ ∃ ns ms : List Int, xs = ns.map .int ∧ ys = ms.map .int ∧ P (.bl (HT.lexLt ns ms)) m
  | _ => False
theorem bok_cmp {K : PySem.W.Frag} {o : Cmp} : Bok2 K (rCmps K o) (sCmp o) := fun d1 d2 m P h x y H F s r1 r2 Q q => by
  unfold sCmp at h
  split at h
  · rename_i e; cases e
    cases r1; cases r2
    exact .inl ⟨_, _, rfl, rfl, q _ _ _ _ _ h (Go.refl s) (.bl _)⟩
  · rename_i e; cases e
    cases r1; cases r2
    exact .inr (.inl ⟨_, _, rfl, rfl, q _ _ _ _ _ h (Go.refl s) (.bl _)⟩)
  · rename_i e; cases e
    obtain ⟨rfl, ns, ms, rfl, rfl, h⟩ := h
    cases r1 with
    | @tup a vs _ h1 h2 =>
      cases r2 with
      | @tup b ws _ h3 h4 =>
        have e1 := h2.ints
        have e2 := h4.ints
        subst e1 e2
        exact .inr (.inr ⟨rfl, a, b, ns, ms, rfl, rfl, Same.seqT s.toH h1, Same.seqT s.toH h3, q _ _ _ _ _ h (Go.refl s) (.bl _)⟩)
  · exact h.elim
/-! ### data compared as data -/
mutual
def toPy : D → PyData
  | .non => .none
  | .bl b => .bool b
  | .int i => .int i
  | .str s => .str s
  | .lst ds => .list (toPys ds)
  | .tup ds => .tuple (toPys ds)
  | .fls ds => .list (toPys ds)
  | .exn _ _ => .none
  | .raw _ => .none
def toPys : List D → List PyData
  | [] => []
  | d :: ds => toPy d :: toPys ds
end
mutual
/-- data that == takes: no references, texts of real signs, not too deep -/
def plD : Nat → D → Bool
  | _, .non => true
  | _, .bl _ => true
  | _, .int _ => true
  | _, .str s => PyData.strOk s
  | 0, .lst _ => false
  | n + 1, .lst ds => plDs n ds
  | 0, .tup _ => false
  | n + 1, .tup ds => plDs n ds
  | _, .fls _ => false
  | _, .exn _ _ => false
  | _, .raw _ => false
def plDs : Nat → List D → Bool
  | _, [] => true
  | n, d :: ds => plD n d && plDs n ds
end
mutual
theorem canLay_of : ∀ (n : Nat) (d : D), plD n d = true → (toPy d).canLay0 = true ∧ (toPy d).depth ≤ n
  | _, .non, _ => ⟨rfl, Nat.zero_le _⟩
  | _, .bl _, _ => ⟨rfl, Nat.zero_le _⟩
  | _, .int _, _ => ⟨rfl, Nat.zero_le _⟩
  | _, .str s, h => by
    have h' : PyData.strOk s = true := by unfold plD at h; exact h
    exact ⟨by unfold toPy PyData.canLay0; exact h', by unfold toPy PyData.depth; exact Nat.zero_le _⟩
  | 0, .lst _, h => by unfold plD at h; cases h
  | n + 1, .lst ds, h => by
    unfold plD at h
    obtain ⟨a, b⟩ := canLays_of n ds h
    exact ⟨by unfold toPy PyData.canLay0; exact a, by unfold toPy PyData.depth; omega⟩
  | 0, .tup _, h => by unfold plD at h; cases h
  | n + 1, .tup ds, h => by
    unfold plD at h
    obtain ⟨a, b⟩ := canLays_of n ds h
    exact ⟨by unfold toPy PyData.canLay0; exact a, by unfold toPy PyData.depth; omega⟩
  | _, .fls _, h => by unfold plD at h; cases h
  | _, .exn _ _, h => by unfold plD at h; cases h
  | _, .raw _, h => by unfold plD at h; cases h
theorem canLays_of : ∀ (n : Nat) (ds : List D), plDs n ds = true → PyData.canLayAll0 (toPys ds) = true ∧ PyData.depthAll (toPys ds) ≤ n
  | _, [], _ => ⟨rfl, Nat.zero_le _⟩
  | n, d :: ds, h => by
    unfold plDs at h
    obtain ⟨h1, h2⟩ := Bool.and_eq_true_iff.mp h
    obtain ⟨a1, a2⟩ := canLay_of n d h1
    obtain ⟨b1, b2⟩ := canLays_of n ds h2
    exact ⟨by unfold toPys PyData.canLayAll0; rw [a1, b1]; rfl, by unfold toPys PyData.depthAll; omega⟩
end
theorem shaped_of {n : Nat} {d : D} (h : plD n d = true) (hn : n ≤ 64) : SeqAt.shaped (toPy d) = true := by
  obtain ⟨a, b⟩ := canLay_of n d h
  unfold SeqAt.shaped
  rw [a, decide_eq_true (Nat.le_trans b hn)]
  rfl
def eqD (d e : D) : Bool := PyData.eqv (toPy d) (toPy e)
mutual
def noBl : D → Bool
  | .bl _ => false
  | .lst ds => noBls ds
  | .tup ds => noBls ds
  | .raw _ => false
  | .exn _ _ => false
  | .fls _ => false
  | .non => true
  | .int _ => true
  | .str _ => true
def noBls : List D → Bool
  | [] => true
  | d :: ds => noBl d && noBls ds
end
mutual
theorem eqv_iff : ∀ (d e : D), noBl d = true → noBl e = true → (PyData.eqv (toPy d) (toPy e) = true ↔ d = e)
  | .non, e, _, h => by cases e <;> simp [toPy, PyData.eqv, noBl] at *
  | .int i, e, _, h => by cases e <;> simp [toPy, PyData.eqv, noBl] at *
  | .str i, e, _, h => by cases e <;> simp [toPy, PyData.eqv, noBl] at *
  | .lst ds, e, h1, h => by
    unfold noBl at h1
    cases e with
    | lst es =>
      unfold noBl at h
      have := eqvs_iff ds es h1 h
      simp [toPy, PyData.eqv, this]
    | _ => simp [toPy, PyData.eqv, noBl] at *
  | .tup ds, e, h1, h => by
    unfold noBl at h1
    cases e with
    | tup es =>
      unfold noBl at h
      have := eqvs_iff ds es h1 h
      simp [toPy, PyData.eqv, this]
    | _ => simp [toPy, PyData.eqv, noBl] at *
  | .bl _, _, h, _ => by unfold noBl at h; cases h
  | .raw _, _, h, _ => by unfold noBl at h; cases h
  | .exn _ _, _, h, _ => by unfold noBl at h; cases h
  | .fls _, _, h, _ => by unfold noBl at h; cases h
theorem eqvs_iff : ∀ (ds es : List D), noBls ds = true → noBls es = true → (PyData.eqvAll (toPys ds) (toPys es) = true ↔ ds = es)
  | [], [], _, _ => by simp [toPys, PyData.eqvAll]
  | [], e :: es, _, _ => by simp [toPys, PyData.eqvAll]
  | d :: ds, [], _, _ => by simp [toPys, PyData.eqvAll]
  | d :: ds, e :: es, h1, h2 => by
    unfold noBls at h1 h2
    obtain ⟨a1, a2⟩ := Bool.and_eq_true_iff.mp h1
    obtain ⟨b1, b2⟩ := Bool.and_eq_true_iff.mp h2
    have i1 := eqv_iff d e a1 b1
    have i2 := eqvs_iff ds es a2 b2
    simp [toPys, PyData.eqvAll, i1, i2]
end
theorem eqD_iff {d e : D} (h1 : noBl d = true) (h2 : noBl e = true) : eqD d e = true ↔ d = e := eqv_iff d e h1 h2
mutual
inductive See (m : MS) : D → D → Prop
  | non : See m .non .non
  | bl (b : Bool) : See m (.bl b) (.bl b)
  | int (i : Int) : See m (.int i) (.int i)
  | str (s : Str) : See m (.str s) (.str s)
  | lst {ds es : List D} (h : Sees m ds es) : See m (.lst ds) (.lst es)
  | fls {ds es : List D} (h : Sees m ds es) : See m (.fls ds) (.lst es)
  | tup {ds es : List D} (h : Sees m ds es) : See m (.tup ds) (.tup es)
  | cell {p : Addr} {ds es : List D} (e : m p = some (.lst ds)) (h : Sees m ds es) : See m (.raw (.ref p)) (.lst es)
inductive Sees (m : MS) : List D → List D → Prop
  | nil : Sees m [] []
  | cons {d e : D} {ds es : List D} (h : See m d e) (t : Sees m ds es) : Sees m (d :: ds) (e :: es)
end
mutual
theorem See.refl {m : MS} : ∀ (n : Nat) (d : D), plD n d = true → See m d d
  | _, .non, _ => .non
  | _, .bl b, _ => .bl b
  | _, .int i, _ => .int i
  | _, .str s, _ => .str s
  | 0, .lst _, h => by unfold plD at h; cases h
  | n + 1, .lst ds, h => by unfold plD at h; exact .lst (Sees.refl n ds h)
  | 0, .tup _, h => by unfold plD at h; cases h
  | n + 1, .tup ds, h => by unfold plD at h; exact .tup (Sees.refl n ds h)
  | _, .fls _, h => by unfold plD at h; cases h
  | _, .exn _ _, h => by unfold plD at h; cases h
  | _, .raw _, h => by unfold plD at h; cases h
theorem Sees.refl {m : MS} : ∀ (n : Nat) (ds : List D), plDs n ds = true → Sees m ds ds
  | _, [], _ => .nil
  | n, d :: ds, h => by
    unfold plDs at h
    obtain ⟨h1, h2⟩ := Bool.and_eq_true_iff.mp h
    exact .cons (See.refl n d h1) (Sees.refl n ds h2)
end
section
variable {K : PySem.W.Frag} {m : MS} {H F : Hp}
mutual
theorem See.dp (s : Std K m H F) : ∀ (n : Nat) (e : D) {d : D} {v : V}, See m d e → plD n e = true → Rp K F v d → Dp K H v (toPy e)
  | _, .non, _, _, h, _, r => by cases h; cases r; unfold toPy; exact .non
  | _, .bl b, _, _, h, _, r => by cases h; cases r; unfold toPy; exact .bl b
  | _, .int i, _, _, h, _, r => by cases h; cases r; unfold toPy; exact .int i
  | _, .str x, _, _, h, _, r => by cases h; cases r; unfold toPy; exact .str x
  | 0, .lst _, _, _, _, h, _ => by unfold plD at h; cases h
  | n + 1, .lst es, _, _, h, hp, r => by
    unfold plD at hp
    unfold toPy
    cases h with
    | lst h =>
      cases r with
      | lst h1 h2 => exact .lst (.inl (.inl (s.at h1))) (Sees.dp s n es h hp h2)
    | fls h =>
      cases r with
      | fls h1 h2 => exact .lst (s.toH.seq h1) (Sees.dp s n es h hp h2)
    | cell e h =>
      cases r
      obtain ⟨vs, h1, h2⟩ := s.cells _ _ e
      exact .lst (.inl (.inl h1)) (Sees.dp s n es h hp h2)
  | 0, .tup _, _, _, _, h, _ => by unfold plD at h; cases h
  | n + 1, .tup es, _, _, h, hp, r => by
    unfold plD at hp
    unfold toPy
    cases h with
    | tup h =>
      cases r with
      | tup h1 h2 => exact .tup (Same.seqT s.toH h1) (Sees.dp s n es h hp h2)
  | _, .fls _, _, _, _, h, _ => by unfold plD at h; cases h
  | _, .exn _ _, _, _, _, h, _ => by unfold plD at h; cases h
  | _, .raw _, _, _, _, h, _ => by unfold plD at h; cases h
theorem Sees.dp (s : Std K m H F) : ∀ (n : Nat) (es : List D) {ds : List D} {vs : List V}, Sees m ds es → plDs n es = true → Rps K F vs ds → DpAll K H vs (toPys es)
  | _, [], _, _, h, _, r => by cases h; cases r; unfold toPys; exact .nil
  | n, e :: es, _, _, h, hp, r => by
    unfold plDs at hp
    obtain ⟨h1, h2⟩ := Bool.and_eq_true_iff.mp hp
    cases h with
    | cons a b =>
      cases r with
      | cons r1 r2 => unfold toPys; exact .cons (See.dp s n e a h1 r1) (Sees.dp s n es b h2 r2)
end
end
/-! == != -/
def sc : D → D → Bool
  | .non, .non => true | .non, .int _ => true | .int _, .non => true | .non, .bl _ => true | .bl _, .non => true | .non, .str _ => true | .str _, .non => true
  | .int _, .int _ => true | .bl _, .bl _ => true | .str _, .str _ => true
  | .int _, .str _ => true | .str _, .int _ => true | .bl _, .str _ => true | .str _, .bl _ => true
  | _, _ => false
def scEq : D → D → Bool
  | .non, .non => true
  | .int i, .int j => decide (i = j)
  | .bl i, .bl j => decide (i = j)
  | .str i, .str j => decide (i = j)
  | _, _ => false
theorem sc_rel {K : PySem.W.Frag} {F : Hp} {x y : V} {d1 d2 : D} (r1 : Rp K F x d1) (r2 : Rp K F y d2) (h : sc d1 d2 = true) : scal x y = true ∧ decide (x = y) = scEq d1 d2 := by
  cases d1 <;> cases d2 <;> first | (exact Bool.noConfusion (show false = true from h)) | (cases r1; cases r2; exact ⟨rfl, by simp [scEq]⟩)
def sEq : BS := fun ds m P => match ds with
  | [.int i, .int j] => P (.bl (decide (i = j))) m
  | [.str i, .str j] => P (.bl (decide (i = j))) m
  | [.bl i, .bl j] => P (.bl (decide (i = j))) m
  | [d1, d2] => (sc d1 d2 = true ∧ P (.bl (scEq d1 d2)) m) ∨ ∃ e1 e2, See m d1 e1 ∧ See m d2 e2 ∧ (plD 40 e1 = true ∧ plD 40 e2 = true) ∧ P (.bl (eqD e1 e2)) m
  | _ => False
def sNe : BS := fun ds m P => match ds with
  | [.int i, .int j] => P (.bl (!decide (i = j))) m
  | [.str i, .str j] => P (.bl (!decide (i = j))) m
  | [.bl i, .bl j] => P (.bl (!decide (i = j))) m
  | [d1, d2] => (sc d1 d2 = true ∧ P (.bl (!scEq d1 d2)) m) ∨ ∃ e1 e2, See m d1 e1 ∧ See m d2 e2 ∧ (plD 40 e1 = true ∧ plD 40 e2 = true) ∧ P (.bl (!eqD e1 e2)) m
  | _ => False
def rEqs (K : PySem.W.Frag) : R2 := fun x y H Q => rEq x y H Q ∨ rEqD K x y H Q
def rNes (K : PySem.W.Frag) : R2 := fun x y H Q => rNe x y H Q ∨ rNeD K x y H Q
theorem op_eqs {X : Cx} {k : Nat} (hr : Room k X.A) : OpR X (compareOp .Eq) (rEqs X.K) := op_eq.or (op_eqD hr.units)
theorem op_nes {X : Cx} {k : Nat} (hr : Room k X.A) : OpR X (compareOp .NotEq) (rNes X.K) := op_ne.or (op_neD hr.units)
theorem bok_eq {K : PySem.W.Frag} : Bok2 K (rEqs K) sEq := fun d1 d2 m P h x y H F s r1 r2 Q q => by
  have sca : ∀ e1 e2, d1 = e1 → d2 = e2 → sc e1 e2 = true → P (.bl (scEq e1 e2)) m → rEqs K x y H Q := by
    rintro _ _ rfl rfl hs p
    obtain ⟨a, b⟩ := sc_rel r1 r2 hs
    exact .inl ⟨a, by rw [b]; exact q _ _ _ _ _ p (Go.refl s) (.bl _)⟩
  unfold sEq at h
  split at h
  · rename_i e; cases e; exact sca _ _ rfl rfl rfl h
  · rename_i e; cases e; exact sca _ _ rfl rfl rfl h
  · rename_i e; cases e; exact sca _ _ rfl rfl rfl h
  · rename_i e; cases e
    rcases h with ⟨hs, h⟩ | ⟨e1, e2, a, b, ⟨c, d⟩, h⟩
    · exact sca _ _ rfl rfl hs h
    · exact .inr ⟨toPy e1, toPy e2, See.dp s 40 e1 a c r1, See.dp s 40 e2 b d r2, shaped_of c (by decide), shaped_of d (by decide), q _ _ _ _ _ h (Go.refl s) (.bl _)⟩
  · exact h.elim
theorem bok_ne {K : PySem.W.Frag} : Bok2 K (rNes K) sNe := fun d1 d2 m P h x y H F s r1 r2 Q q => by
  have sca : ∀ e1 e2, d1 = e1 → d2 = e2 → sc e1 e2 = true → P (.bl (!scEq e1 e2)) m → rNes K x y H Q := by
    rintro _ _ rfl rfl hs p
    obtain ⟨a, b⟩ := sc_rel r1 r2 hs
    exact .inl ⟨a, by rw [b]; exact q _ _ _ _ _ p (Go.refl s) (.bl _)⟩
  unfold sNe at h
  split at h
  · rename_i e; cases e; exact sca _ _ rfl rfl rfl h
  · rename_i e; cases e; exact sca _ _ rfl rfl rfl h
  · rename_i e; cases e; exact sca _ _ rfl rfl rfl h
  · rename_i e; cases e
    rcases h with ⟨hs, h⟩ | ⟨e1, e2, a, b, ⟨c, d⟩, h⟩
    · exact sca _ _ rfl rfl hs h
    · exact .inr ⟨toPy e1, toPy e2, See.dp s 40 e1 a c r1, See.dp s 40 e2 b d r2, shaped_of c (by decide), shaped_of d (by decide), q _ _ _ _ _ h (Go.refl s) (.bl _)⟩
  · exact h.elim
/-! is None -/
def isD : D → Option Bool
  | .non => some true
  | .raw (.ref _) => some false
  | .raw _ => none
  | _ => some false
theorem isD_rel {K : PySem.W.Frag} {F : Hp} {x : V} {d : D} {b : Bool} (r : Rp K F x d) (h : isD d = some b) : decide (x = .non) = b := by
  cases r <;> first | (cases h; rfl) | skip
  cases x <;> first | (cases h; rfl) | (cases h)
def sIs : BS := fun ds m P => match ds with
  | [.bl a, .bl b] => P (.bl (decide (a = b))) m
  | [d, .non] => match isD d with
    | some b => P (.bl b) m
    | none => False
  | _ => False
def sIsnt : BS := fun ds m P => match ds with
  | [d, .non] => match isD d with
    | some b => P (.bl (!b)) m
    | none => False
  | _ => False
def rIss : R2 := fun x y H Q => rIsB x y H Q ∨ y = .non ∧ Q (.bl (decide (x = .non))) H
theorem op_iss {X : Cx} : OpR X (compareOp .Is) rIss := op_isBl.or op_isN
theorem bok_is {K : PySem.W.Frag} : Bok2 K rIss sIs := fun d1 d2 m P h x y H F s r1 r2 Q q => by
  unfold sIs at h
  split at h
  · rename_i e; cases e
    cases r1; cases r2
    exact .inl ⟨_, _, rfl, rfl, q _ _ _ _ _ h (Go.refl s) (.bl _)⟩
  · rename_i e; cases e
    split at h
    · rename_i b hb
      cases r2
      exact .inr ⟨rfl, by rw [isD_rel r1 hb]; exact q _ _ _ _ _ h (Go.refl s) (.bl _)⟩
    · exact h.elim
  · exact h.elim
theorem bok_isnt {K : PySem.W.Frag} : Bok2 K (fun x y H Q => y = .non ∧ Q (.bl (!decide (x = .non))) H) sIsnt := fun d1 d2 m P h x y H F s r1 r2 Q q => by
  unfold sIsnt at h
  split at h
  · rename_i e; cases e
    split at h
    · rename_i b hb
      cases r2
      exact ⟨rfl, by rw [isD_rel r1 hb]; exact q _ _ _ _ _ h (Go.refl s) (.bl _)⟩
    · exact h.elim
  · exact h.elim
end Nu

namespace Nu
open PySem PySem.Spec L2
open PyProof.Rows hiding St
/-! ### dicts -/
section
variable {K : PySem.W.Frag} {F F' H : Hp} {m : MS}
theorem rp_key {v : V} {k : Key} (r : Rp K F v (kD k)) : v = kV k := by
  cases k with
  | inl i => cases r; rfl
  | inr s => cases r; rfl
theorem rp_kD (k : Key) : Rp K F (kV k) (kD k) := by
  cases k with
  | inl i => exact .int _
  | inr s => exact .str _
theorem keyOf_rel {v : V} {d : D} {k : Key} (r : Rp K F v d) (h : keyOf d = some k) : v = kV k := by
  cases d with
  | int i => cases h; cases r; rfl
  | str s => cases h; cases r; rfl
  | _ => cases h
theorem RKs.val {l : List (Key × V)} {r : List (Key × D)} (h : RKs K F l r) (k : Key) : (valV l k = none ∧ valD r k = none) ∨ ∃ v d, valV l k = some v ∧ valD r k = some d ∧ Rp K F v d := by
  induction h with
  | nil => exact .inl ⟨rfl, rfl⟩
  | @cons p q l r hp t ih =>
    by_cases e : p.1 = k
    · refine .inr ⟨p.2, q.2, ?_, ?_, hp.2⟩
      · simp [valV, List.find?_cons, e]
      · simp [valD, List.find?_cons, ← hp.1, e]
    · have e1 : valV (p :: l) k = valV l k := by simp [valV, List.find?_cons, e]
      have e2 : valD (q :: r) k = valD r k := by simp [valD, List.find?_cons, ← hp.1, e]
      rw [e1, e2]; exact ih
theorem RKs.isSome {l : List (Key × V)} {r : List (Key × D)} (h : RKs K F l r) (k : Key) : (valV l k).isSome = (valD r k).isSome := by
  rcases h.val k with ⟨a, b⟩ | ⟨v, d, a, b, _⟩
  · rw [a, b]; rfl
  · rw [a, b]; rfl
theorem RKs.some {l : List (Key × V)} {r : List (Key × D)} {k : Key} {d : D} (h : RKs K F l r) (e : valD r k = some d) : ∃ v, valV l k = some v ∧ Rp K F v d := by
  rcases h.val k with ⟨a, b⟩ | ⟨v, d', a, b, c⟩
  · rw [e] at b; cases b
  · rw [e] at b; cases b; exact ⟨v, a, c⟩
theorem RKs.none {l : List (Key × V)} {r : List (Key × D)} {k : Key} (h : RKs K F l r) (e : valD r k = Option.none) : valV l k = Option.none := by
  rcases h.val k with ⟨a, b⟩ | ⟨v, d', a, b, c⟩
  · exact a
  · rw [e] at b; cases b
theorem RKs.len {l : List (Key × V)} {r : List (Key × D)} (h : RKs K F l r) : l.length = r.length := by
  induction h with
  | nil => rfl
  | cons hp t ih => rw [List.length_cons, List.length_cons, ih]
theorem RKs.keys {l : List (Key × V)} {r : List (Key × D)} (h : RKs K F l r) : l.map (·.1) = r.map (·.1) := by
  induction h with
  | nil => rfl
  | cons hp t ih => rw [List.map_cons, List.map_cons, ih, hp.1]
theorem RKs.any {l : List (Key × V)} {r : List (Key × D)} (h : RKs K F l r) (k : Key) : (l.any fun kv => decide (kv.1 = k)) = (r.any fun kv => decide (kv.1 = k)) := by
  induction h with
  | nil => rfl
  | cons hp t ih => rw [List.any_cons, List.any_cons, ih, hp.1]
theorem RKs.snoc {l : List (Key × V)} {r : List (Key × D)} {k : Key} {v : V} {d : D} (h : RKs K F l r) (rv : Rp K F v d) : RKs K F (l ++ [(k, v)]) (r ++ [(k, d)]) := by
  induction h with
  | nil => exact .cons ⟨rfl, rv⟩ .nil
  | cons hp t ih => exact .cons hp ih
theorem RKs.put {l : List (Key × V)} {r : List (Key × D)} {k : Key} {v : V} {d : D} (h : RKs K F l r) (rv : Rp K F v d) : RKs K F (putK l k v) (putD r k d) := by
  unfold putK putD
  rw [h.any k]
  split
  · next hh =>
    clear hh
    induction h with
    | nil => exact .nil
    | @cons p q l r hp t ih =>
      refine .cons ?_ ih
      show (if p.1 = k then (p.1, v) else p).1 = (if q.1 = k then (q.1, d) else q).1 ∧ Rp K F (if p.1 = k then (p.1, v) else p).2 (if q.1 = k then (q.1, d) else q).2
      rw [← hp.1]
      split
      · exact ⟨rfl, rv⟩
      · exact hp
  · exact h.snoc rv
theorem RKs.merge {l r' : List (Key × V)} {r r2 : List (Key × D)} (h : RKs K F l r) (h2 : RKs K F r' r2) : RKs K F (mergeK l r') (mergeD r r2) := by
  unfold mergeK mergeD
  induction h2 generalizing l r with
  | nil => exact h
  | @cons p q ls rs hp t ih =>
    rw [List.foldl_cons, List.foldl_cons]
    refine ih ?_
    rw [← hp.1]
    exact h.put hp.2
/-- a dict cell, to be read -/
def Cell.kvs : Cell → Option (List (Key × D))
  | .dct kvs => some kvs
  | .lck _ _ kvs => some kvs
  | _ => none
theorem dct_at {p : Addr} {c : Cell} {kds : List (Key × D)} (s : Std K m H F) (e : m p = some c) (hk : c.kvs = some kds) : ∃ kvs, Rd H p (.dK kvs) ∧ RKs K F kvs kds := by
  have h := s.cells p c e
  cases c with
  | dct ds =>
    cases hk
    obtain ⟨kvs, z, r⟩ := h
    exact ⟨kvs, .inl z, r⟩
  | lck lo lv ds =>
    cases hk
    obtain ⟨z, r⟩ := h
    exact ⟨lv, .inr ⟨lo, z⟩, r⟩
  | _ => cases hk
theorem dget_of {p : Addr} {kvs : List (Key × V)} {k : Key} (e : Rd H p (.dK kvs)) : DGet H p (kV k) (valV kvs k) := .inl ⟨kvs, k, e, rfl, rfl⟩
end
/-! ### subscripts -/
def sIx : BS := fun ds m P => match ds with
  | [.lst xs, .int i] => ∃ d, atI xs i = some d ∧ P d m
  | [.tup xs, .int i] => ∃ d, atI xs i = some d ∧ P d m
  | [.fls xs, .int i] => ∃ d, atI xs i = some d ∧ P d m
  | [.str z, .int i] => z.length ≤ sizeLine ∧ ∃ c, atI z.cps.toList i = some c ∧ P (.str ⟨#[c]⟩) m
  | [.raw (.ref p), y] => ∃ c, m p = some c ∧ match c with
    | .lst xs => match y with
      | .int i => ∃ d, atI xs i = some d ∧ P d m
      | _ => False
    | .dct kvs => match keyOf y with
      | some k => ∃ d, valD kvs k = some d ∧ P d m
      | none => False
    | .lck _ _ kvs => match keyOf y with
      | some k => ∃ d, valD kvs k = some d ∧ P d m
      | none => False
    | _ => False
  | _ => False
def rIxs (K : PySem.W.Frag) : R2 := fun x y H Q => rIx K x y H Q ∨ ∃ a v, x = .ref a ∧ DGet H a y (some v) ∧ Q v H
theorem ix_dct {X : Cx} (hu : X.A.units + 1 < cLine) : IxR X (fun x y H Q => ∃ a v, x = .ref a ∧ DGet H a y (some v) ∧ Q v H) := by
  intro value slice pins s σ H x y v u Q I rx ry h hs
  obtain ⟨a, w, rfl, g, q⟩ := h
  obtain rfl : v = Value.ref a := rx
  have hT := dict_typeIs I g
  unfold subscriptTail
  refine wpAny_bind ?_
  rw [getitemInPython_of_ne hT.not_modules]
  refine wpAny_bind (wpAny_specialOf hT PySem.F.slot_dict_getitem.lookup ?_)
  have fin : wpAny (model X.prog X.w) X.A (subscripted slice false (.ref a) u) (fun r s₃ => wpAny (model X.prog X.w) X.A (letTemporaryGo value (.ref a) r >>= fun _ => pure r) (EP X pins σ Q) X.xe s₃) X.xe s := by
    rw [hs]
    exact wpAny_operating (d_getItem hu I g ry fun w' s3 I3 rw' => wpAny_bind (wpAny_letTemporaryGo (wpAny_pure ⟨w, H, I3, rw', q⟩)))
  first
    | exact wpAny_pure (wpAny_bind fin)
    | exact wpAny_bind (wpAny_pure (wpAny_bind fin))
    | exact wpAny_bind fin
theorem rps_atI {K : PySem.W.Frag} {F : Hp} {vs : List V} {ds : List D} {i : Int} {d : D} (h : Rps K F vs ds) (e : atI ds i = some d) : ∃ v, atI vs i = some v ∧ Rp K F v d := by
  unfold atI at *
  rw [h.length]
  cases q : ixN ds.length i with
  | none => rw [q] at e; cases e
  | some n =>
    rw [q] at e
    exact h.get e
theorem bok_ix {K : PySem.W.Frag} : Bok2 K (rIxs K) sIx := fun d1 d2 m P h x y H F s r1 r2 Q q => by
  unfold sIx at h
  split at h
  · rename_i e; cases e
    cases r2
    obtain ⟨d, h1, h2⟩ := h
    cases r1 with
    | lst a b =>
      obtain ⟨v, e, r⟩ := rps_atI b h1
      exact .inl (.inl ⟨_, _, _, v, rfl, rfl, .inl (.inl (s.at a)), e, q v H F _ _ h2 (Go.refl s) r⟩)
  · rename_i e; cases e
    cases r2
    obtain ⟨d, h1, h2⟩ := h
    cases r1 with
    | tup a b =>
      obtain ⟨v, e, r⟩ := rps_atI b h1
      exact .inl (.inr (.inl ⟨_, _, _, v, rfl, rfl, Same.seqT s.toH a, e, q v H F _ _ h2 (Go.refl s) r⟩))
  · rename_i e; cases e
    cases r2
    obtain ⟨d, h1, h2⟩ := h
    cases r1 with
    | fls a b =>
      obtain ⟨v, e, r⟩ := rps_atI b h1
      exact .inl (.inl ⟨_, _, _, v, rfl, rfl, s.toH.seq a, e, q v H F _ _ h2 (Go.refl s) r⟩)
  · rename_i e; cases e
    cases r2
    obtain ⟨hz, d, h1, h2⟩ := h
    cases r1
    exact .inl (.inr (.inr ⟨_, _, _, rfl, rfl, hz, h1, q _ H F _ _ h2 (Go.refl s) (.str _)⟩))
  · rename_i p y' e; cases e
    cases r1
    obtain ⟨c, hc, h⟩ := h
    have dd : ∀ kds k d, c.kvs = some kds → keyOf d2 = some k → valD kds k = some d → P d m → rIxs K (.ref p) y H Q := fun kds k d hk e1 e2 p2 => by
      obtain ⟨kvs, hd, rk⟩ := dct_at s hc hk
      obtain ⟨v, e3, r⟩ := rk.some e2
      refine .inr ⟨p, v, rfl, ?_, q v H F _ _ p2 (Go.refl s) r⟩
      rw [keyOf_rel r2 e1, ← e3]
      exact dget_of hd
    cases c with
    | lst xs =>
      cases d2 with
      | int i =>
        obtain ⟨d, h1, h2⟩ := h
        cases r2
        obtain ⟨vs, a, b⟩ := s.cells _ _ hc
        obtain ⟨v, e, r⟩ := rps_atI b h1
        exact .inl (.inl ⟨_, _, _, v, rfl, rfl, .inl (.inl a), e, q v H F _ _ h2 (Go.refl s) r⟩)
      | _ => exact h.elim
    | dct kds =>
      have h : match keyOf d2 with | some k => ∃ d, valD kds k = some d ∧ P d m | none => False := h
      cases e : keyOf d2 with
      | none => rw [e] at h; exact h.elim
      | some k =>
        rw [e] at h
        obtain ⟨d, h1, h2⟩ := h
        exact dd kds k d rfl e h1 h2
    | lck lo lv kds =>
      have h : match keyOf d2 with | some k => ∃ d, valD kds k = some d ∧ P d m | none => False := h
      cases e : keyOf d2 with
      | none => rw [e] at h; exact h.elim
      | some k =>
        rw [e] at h
        obtain ⟨d, h1, h2⟩ := h
        exact dd kds k d rfl e h1 h2
    | _ => exact h.elim
  · exact h.elim
section
variable {X : Cx} {e a b c o i value : Expr} {es : List Expr} {t ta tb tc to ti te : T} {ts : Ts} {pos pos' p2 tpos : Pos}
theorem se_ix {k : Nat} (hr : Room k X.A) (ha : SE X a ta) (hb : SE X b tb) (hs : PlainIx b := by exact fun _ _ => rfl) : SE X (.Subscript a b pos) (.bop sIx (.cons ta (.cons tb .nil))) := ⟨fun ρ m P Z p => ⟨fun F0 σ H F S Q V tk q kx => by
  refine wE_of (pe_ix (ix_seq.or (ix_dct (by have := hr.units; omega))) pe_w pe_w hs) ?_
  refine (ha.go ρ m _ Z p).run F0 σ H F S _ V tk (fun x H1 F1 d1 m1 p1 g1 r1 => ?_) kx
  refine (hb.go ρ m1 _ Z p1).run F0 σ H1 F1 (S.go g1) _ V tk (fun y H2 F2 d2 m2 p2 g2 r2 => ?_) (kx.go g1)
  exact bok_ix d1 d2 m2 P p2 x y H2 F2 g2.std (r1.up g2.grow _) r2 Q fun v H3 F3 d3 m3 p3 g3 r3 => q v H3 F3 d3 m3 p3 ((g1.trans g2).trans g3) r3⟩⟩
/-! ### slices -/
def cutD (xs : List D) (lo hi : Option Int) : List D := (xs.drop (HT.sIx xs.length 0 lo)).take (HT.sIx xs.length xs.length hi - HT.sIx xs.length 0 lo)
theorem Rps.cut {K : PySem.W.Frag} {F : Hp} {vs : List V} {ds : List D} (h : Rps K F vs ds) (lo hi : Option Int) : Rps K F (cutV vs lo hi) (cutD ds lo hi) := by
  unfold cutV cutD
  rw [h.length]
  exact (h.drop _).take _
def lsR (d : D) (m : MS) (R : List D → Prop) : Prop := match d with
  | .lst xs => R xs
  | .fls xs => R xs
  | .raw (.ref p) => ∃ xs, m p = some (.lst xs) ∧ R xs
  | _ => False
theorem lsR_use {K : PySem.W.Frag} {m : MS} {H F : Hp} {d : D} {v : V} {R : List D → Prop} (h : lsR d m R) (s : Std K m H F) (r : Rp K F v d) : ∃ a xs vs, v = .ref a ∧ R xs ∧ SqL K H a vs ∧ Rps K F vs xs := by
  cases d with
  | lst xs =>
    cases r with
    | @lst a vs _ h1 h2 => exact ⟨a, xs, vs, rfl, h, .inl (.inl (s.at h1)), h2⟩
  | fls xs =>
    cases r with
    | @fls a vs _ h1 h2 => exact ⟨a, xs, vs, rfl, h, s.toH.seq h1, h2⟩
  | raw w =>
    cases w with
    | ref p =>
      cases r
      obtain ⟨xs, e, h⟩ := h
      obtain ⟨vs, h1, h2⟩ := s.cells p _ e
      exact ⟨p, xs, vs, rfl, h, .inl (.inl h1), h2⟩
    | _ => exact h.elim
  | _ => exact h.elim
def slD (d : D) (l h : Option Int) (m : MS) (P : NX) : Prop := match d with
  | .str z => z.length ≤ sizeLine ∧ P (.str (cutS z l h)) m
  | .tup xs => P (.tup (cutD xs l h)) m
  | _ => lsR d m fun xs => NewL (cutD xs l h) m P
def sSlL : BS := fun ds m P => match ds with
  | [d, .int l] => slD d (some l) none m P
  | _ => False
def sSlH : BS := fun ds m P => match ds with
  | [d, .int h] => slD d none (some h) m P
  | _ => False
def sInt : BS := fun ds m P => match ds with
  | [.int i] => P (.int i) m
  | _ => False
def sSlB : BS := fun ds m P => match ds with
  | [d, .int l, .int h] => slD d (some l) (some h) m P
  | _ => False
def rSls (K : PySem.W.Frag) : V → Option Int → Option Int → Hp → VK → Prop := fun x lo hi H Q => rSlA K x lo hi H Q ∨ rSlL K x lo hi H Q ∨ rSlS x lo hi H Q
theorem sl_all' : SlR X (rSls X.K) := sl_tupA.or (sl_list.or sl_str)
theorem bok_sl {K : PySem.W.Frag} {m : MS} {H F : Hp} {d : D} {x : V} {l h : Option Int} {P : NX} {Q : VK} (hs : slD d l h m P) (s : Std K m H F) (r : Rp K F x d) (q : ∀ v H' F' d m', P d m' → Go K m H F m' H' F' → Rp K F' v d → Q v H') : rSls K x l h H Q := by
  unfold slD at hs
  split at hs
  · cases r
    exact .inr (.inr ⟨_, rfl, hs.1, q _ _ _ _ _ hs.2 (Go.refl s) (.str _)⟩)
  · rename_i xs
    cases r with
    | @tup a vs _ h1 h2 =>
      refine .inl ⟨a, vs, rfl, Same.seqT s.toH h1, fun z => ?_, fun _ => newT_q hs s (h2.cut l h) q⟩
      refine q _ H F _ _ hs (Go.refl s) ?_
      have e : cutD xs l h = xs := by
        unfold cutD
        rw [← h2.length, z.1, z.2, List.drop_zero, Nat.sub_zero, h2.length]
        exact List.take_length
      rw [e]
      exact .tup h1 h2
  · obtain ⟨a, xs, vs, rfl, hs, h1, h2⟩ := lsR_use hs s r
    exact .inr (.inl ⟨a, vs, rfl, h1, newL_q hs s (h2.cut l h) q⟩)
theorem se_slL (ha : SE X a ta) (hb : SE X b tb) : SE X (.Subscript a (.Slice (some b) none none p2) pos) (.bop sSlL (.cons ta (.cons tb .nil))) := ⟨fun ρ m P Z p => ⟨fun F0 σ H F S Q V tk q kx => by
  refine wE_of (pe_slice sl_all' pe_w (po_some pe_w) po_none) ?_
  refine (ha.go ρ m _ Z p).run F0 σ H F S _ V tk (fun x H1 F1 d1 m1 p1 g1 r1 => ?_) kx
  refine (hb.go ρ m1 _ Z p1).run F0 σ H1 F1 (S.go g1) _ V tk (fun y H2 F2 d2 m2 p2 g2 r2 => ?_) (kx.go g1)
  cases d2 with
  | int l =>
    cases r2
    exact ⟨l, rfl, bok_sl p2 g2.std (r1.up g2.grow _) fun v H3 F3 d3 m3 p3 g3 r3 => q v H3 F3 d3 m3 p3 ((g1.trans g2).trans g3) r3⟩
  | _ => exact False.elim p2⟩⟩
theorem se_slH (ha : SE X a ta) (hb : SE X b tb) : SE X (.Subscript a (.Slice none (some b) none p2) pos) (.bop sSlH (.cons ta (.cons tb .nil))) := ⟨fun ρ m P Z p => ⟨fun F0 σ H F S Q V tk q kx => by
  refine wE_of (pe_slice sl_all' pe_w po_none (po_some pe_w)) ?_
  refine (ha.go ρ m _ Z p).run F0 σ H F S _ V tk (fun x H1 F1 d1 m1 p1 g1 r1 => ?_) kx
  refine (hb.go ρ m1 _ Z p1).run F0 σ H1 F1 (S.go g1) _ V tk (fun y H2 F2 d2 m2 p2 g2 r2 => ?_) (kx.go g1)
  cases d2 with
  | int l =>
    cases r2
    exact ⟨l, rfl, bok_sl p2 g2.std (r1.up g2.grow _) fun v H3 F3 d3 m3 p3 g3 r3 => q v H3 F3 d3 m3 p3 ((g1.trans g2).trans g3) r3⟩
  | _ => exact False.elim p2⟩⟩
theorem se_slB (ha : SE X a ta) (hb : SE X b tb) (hc : SE X c tc) : SE X (.Subscript a (.Slice (some b) (some c) none p2) pos) (.bop sSlB (.cons ta (.cons (.bop sInt (.cons tb .nil)) (.cons tc .nil)))) := ⟨fun ρ m P Z p => ⟨fun F0 σ H F S Q V tk q kx => by
  refine wE_of (pe_slice sl_all' pe_w (po_some pe_w) (po_some pe_w)) ?_
  refine (ha.go ρ m _ Z p).run F0 σ H F S _ V tk (fun x H1 F1 d1 m1 p1 g1 r1 => ?_) kx
  refine (hb.go ρ m1 _ Z p1).run F0 σ H1 F1 (S.go g1) _ V tk (fun y H2 F2 d2 m2 p2 g2 r2 => ?_) (kx.go g1)
  cases d2 with
  | int l =>
    cases r2
    have p2 : W tc ρ m2 _ Z := p2
    refine ⟨l, rfl, ?_⟩
    refine (hc.go ρ m2 _ Z p2).run F0 σ H2 F2 ((S.go g1).go g2) _ V tk (fun z H3 F3 d3 m3 p3 g3 r3 => ?_) ((kx.go g1).go g2)
    cases d3 with
    | int h =>
      cases r3
      exact ⟨h, rfl, bok_sl p3 g3.std ((r1.up g2.grow _).up g3.grow _) fun v H4 F4 d4 m4 p4 g4 r4 => q v H4 F4 d4 m4 p4 (((g1.trans g2).trans g3).trans g4) r4⟩
    | _ => exact False.elim p3
  | _ => exact False.elim p2⟩⟩
/-! ### displays -/
def sTup : BS := fun ds m P => P (.tup ds) m
def sLst : BS := fun ds m P => NewL ds m P
theorem se_tup {x1} (h : SA X es ts) (hz : es.length ≤ 100000 := by decide) : SE X (.Tuple es x1 pos) (.bop sTup ts) := ⟨fun ρ m P Z p => ⟨fun F0 σ H F S Q V tk q kx => by
  refine wE_of (pe_tup pa_w) ?_
  refine (h.go2 ρ m _ Z p).run F0 σ H F S _ V tk (fun vs H1 F1 ds m1 p1 g1 r1 => ?_) kx
  refine ⟨by rw [r1.length, p1.1]; exact Nat.le_trans hz (by decide), newT_q p1.2 g1.std r1 fun v H3 F3 d3 m3 p3 g3 r3 => q v H3 F3 d3 m3 p3 (g1.trans g3) r3⟩⟩⟩
theorem se_lst (h : SA X es ts) (hz : es.length ≤ 100000 := by decide) : SE X (.List es pos) (.bop sLst ts) := ⟨fun ρ m P Z p => ⟨fun F0 σ H F S Q V tk q kx => by
  refine wE_of (pe_lst pa_w) ?_
  refine (h.go2 ρ m _ Z p).run F0 σ H F S _ V tk (fun vs H1 F1 ds m1 p1 g1 r1 => ?_) kx
  refine ⟨by rw [r1.length, p1.1]; exact Nat.le_trans hz (by decide), newL_q p1.2 g1.std r1 fun v H3 F3 d3 m3 p3 g3 r3 => q v H3 F3 d3 m3 p3 (g1.trans g3) r3⟩⟩⟩
theorem Go.adoptG {K : PySem.W.Frag} {m m' : MS} {H F H' F' : Hp} {L : Addr} {o : HO} {c : Cell} (g : Go K m H F m' H' F') (h1 : H L = none) (h2 : m' L = none) (h3 : F' L = none) (h5 : CellAt K F' (upd H' L o) L c) : Go K m H F (mset m' L c) (upd H' L o) F' := by
  have g2 := g.patch (o := o) h1 h2 h3
  refine ⟨fun a u e => ?_, g2.grow, g2.fresh, g2.kept, ⟨fun a u e => ?_, fun q c' e => ?_⟩⟩
  · have ne : a ≠ L := ne_of_none (of_fz e).2 h1
    obtain ⟨e1, e2⟩ := of_fz (g2.same a u e)
    exact fz_of (by rw [mset_ne ne]; exact e1) e2
  · have ne : a ≠ L := ne_of_none e h3
    obtain ⟨e1, e2⟩ := of_fz (g2.std.sub a u e)
    exact fz_of (by rw [mset_ne ne]; exact e1) e2
  · by_cases e' : q = L
    · subst e'; rw [mset_same] at e; cases e; exact h5
    · rw [mset_ne e'] at e; exact g2.std.cells q c' e
/-- the values of a dict display, its keys texts -/
structure SDp (X : Cx) (pos : Pos) (ks : List Str) (keys : List (Option Expr)) (vals : List Expr) (ts : Ts) : Prop where
  run : ∃ trs, PPs X pos keys vals trs ∧ ∀ ρ m P Z, Ws ts ρ m P Z → ∀ F0 σ H F, StR X.K F0 σ H F ρ m → ∀ (Q : List (L2.V × L2.V) → Hp → Prop) (V : WX), Takes X V →
    (∀ vs H' F' ds m', P ds m' → vs.length = ks.length → Go X.K m H F m' H' F' → Rps X.K F' vs ds → Q ((ks.map L2.V.str).zip vs) H') → ExK X F0 m H F Z V → tPairs trs σ H Q
theorem sdp_nil : SDp X pos [] [] [] .nil := ⟨[], pps_nil, fun ρ m P Z p F0 σ H F S Q V tk q kx => q [] H F [] m p rfl (Go.refl S.std) .nil⟩
theorem sdp_cons {k : Str} {ks : List Str} {keys : List (Option Expr)} {vals : List Expr} (h : SE X e t) (hs : SDp X pos ks keys vals ts) (hk : PE X c (tC (.str k)) := by exact pe_str) : SDp X pos (k :: ks) (some c :: keys) (e :: vals) (.cons t ts) := by
  obtain ⟨trs, pp, f⟩ := hs.run
  refine ⟨_, pps_cons hk pe_w pp, fun ρ m P Z p F0 σ H F S Q V tk q kx => ?_⟩
  show wE X e σ H _
  refine (h.go ρ m _ Z p).run F0 σ H F S _ V tk (fun v H1 F1 d m1 p1 g1 r1 => ?_) kx
  refine f ρ m1 _ Z p1 F0 σ H1 F1 (S.go g1) _ V tk (fun vs H2 F2 ds m2 p2 hl g2 r2 => ?_) (kx.go g1)
  exact q (v :: vs) H2 F2 (d :: ds) m2 p2 (by rw [List.length_cons, List.length_cons, hl]) (g1.trans g2) (.cons (r1.up g2.grow _) r2)
def dctOf (ks : List Str) (ds : List D) : List (Key × D) := mergeD [] ((ks.map Sum.inr).zip ds)
def sDct (ks : List Str) : BS := fun ds m P => ∀ p, m p = none → P (.raw (.ref p)) (mset m p (.dct (dctOf ks ds)))
theorem rks_zip {K : PySem.W.Frag} {F : Hp} : ∀ {ks : List Str} {vs : List V} {ds : List D}, Rps K F vs ds → RKs K F ((ks.map (Sum.inr (α := Int))).zip vs) ((ks.map Sum.inr).zip ds)
  | [], _, _, _ => by simp; exact .nil
  | _ :: _, _, [], h => by cases h; simp; exact .nil
  | k :: ks, _, d :: ds, h => by
    cases h with
    | cons h1 h2 => exact .cons ⟨rfl, h1⟩ (rks_zip h2)
theorem zip_keys : ∀ (ks : List Str) (vs : List L2.V), (ks.map L2.V.str).zip vs = ((ks.map (Sum.inr (α := Int))).zip vs).map fun kv => (kV kv.1, kv.2)
  | [], _ => by simp
  | _ :: _, [] => by simp
  | k :: ks, v :: vs => by
    show (L2.V.str k, v) :: (ks.map L2.V.str).zip vs = (kV (.inr k), v) :: _
    rw [zip_keys ks vs]; rfl
theorem se_dct {k : Str} {ks : List Str} {key : Option Expr} {keys : List (Option Expr)} {v : Expr} {vals : List Expr} (hs : SDp X pos (k :: ks) (key :: keys) (v :: vals) ts) (h15 : (k :: ks).length ≤ 15 := by decide) (hl : (key :: keys).length = (k :: ks).length := by rfl) (hl2 : (key :: keys).length = (v :: vals).length := by rfl) (hall : (key :: keys).all (·.isSome) = true := by rfl) :
    SE X (.Dict (key :: keys) (v :: vals) pos) (.bop (sDct (k :: ks)) ts) := ⟨fun ρ m P Z p => ⟨fun F0 σ H F S Q V tk q kx => by
  obtain ⟨trs, pp, f⟩ := hs.run
  refine wE_of (pe_disp pp hall hl2 (fun z => nomatch z) (by rw [hl]; exact h15)) fun L hL => ?_
  have hm := S.std.free hL
  have hF := S.std.freeF hL
  have j := Go.junk (o := .dK []) S.std hL
  refine f ρ m _ Z p F0 σ _ F (S.go j) _ V tk (fun vs H1 F1 ds m1 p1 hl g1 r1 => ?_) (kx.go j)
  have e0 : fz m1 H1 L = some (.dK []) := g1.same L _ (fz_of hm upd_same)
  obtain ⟨e1, e2⟩ := of_fz e0
  have eF : F1 L = none := by
    cases e3 : F1 L with
    | none => rfl
    | some o =>
      rcases g1.fresh L (by rw [e3]; exact fun z => nomatch z) with z | z | z
      · exact absurd hF z
      · rw [upd_same] at z; cases z
      · exact absurd hm z
  refine ⟨e2, ((k :: ks).map Sum.inr).zip vs, ?_, ?_, ?_⟩
  · exact zip_keys _ _
  · rw [List.length_zip, List.length_map]
    exact Nat.le_trans (Nat.min_le_left _ _) h15
  · have gg : Go X.K m H F m1 H1 F1 := j.trans g1
    have ca : CellAt X.K F1 (upd H1 L (.dK (mergeK [] (((k :: ks).map Sum.inr).zip vs)))) L (.dct (dctOf (k :: ks) ds)) := ⟨_, upd_same, RKs.merge .nil (rks_zip r1)⟩
    exact q _ _ _ _ _ (p1 L e1) (gg.adoptG hL e1 eF ca) (.raw _)⟩⟩
/-! ### o[i] = v -/
def rSets : TSet := fun o i v H Q => rSetL o i v H Q ∨ ∃ a H', o = .ref a ∧ DPut H a i v H' ∧ Q H'
theorem set_both (hu : X.A.units + 1 < cLine) : PSet X rSets := by
  intro pins s σ H o i v ov iv u Q I ro ri rv h
  rcases h with h | ⟨a, H', rfl, g, q⟩
  · exact set_list pins s σ H o i v ov iv u Q I ro ri rv h
  · obtain rfl : ov = Value.ref a := ro
    exact d_setItem hu I g ri rv fun s4 I4 => ⟨H', I4, q⟩
theorem s_iset {k : Nat} (hr : Room k X.A) (ho : SE X o to) (hi : SE X i ti) (hv : SE X value te)
    (hs : swapsWithSole [.Subscript o i tpos] value pos.line X.env = pure false := by rfl) (hw : swappedStores [.Subscript o i tpos] value X.env = pure none := by rfl)
    (h1 : (assignEach [.Subscript o i tpos] X.env).map (·.2) = [assign (.Subscript o i tpos) X.env] := by rfl)
    (hass : ∀ v, assign (.Subscript o i tpos) X.env v = (do
      let ov ← holding [v] (eval o X.env)
      let iv ← holding [v, ov] (eval i X.env)
      standAt tpos
      holding [v, ov, iv] (setItem ov iv v)
      release [v, ov, iv] []) := by intro _; rfl) :
    SS1 X (.Assign [.Subscript o i tpos] value pos) (.iset to ti te) := ⟨fun ρ m A p => ⟨fun F0 σ H F S E V tk k => by
  refine wS_of (ps_asg pe_w (pg_sub pe_w pe_w (set_both (by have := hr.units; omega)) hass) hs hw h1) ?_
  refine (hv.go ρ m _ _ p).run F0 σ H F S _ V tk (fun v H1 F1 d m1 p1 g1 r1 => ?_) k.ex
  refine (ho.go ρ m1 _ _ p1).run F0 σ H1 F1 (S.go g1) _ V tk (fun x H2 F2 dx m2 p2 g2 r2 => ?_) (k.ex.go g1)
  cases dx with
  | raw w =>
    cases w with
    | ref pa =>
      have p2 : W ti ρ m2 _ _ := p2
      refine (hi.go ρ m2 _ _ p2).run F0 σ H2 F2 ((S.go g1).go g2) _ V tk (fun y H3 F3 dy m3 p3 g3 r3 => ?_) ((k.ex.go g1).go g2)
      cases r2
      obtain ⟨c, hc, p3⟩ := p3
      have G := (g1.trans g2).trans g3
      have rv := (r1.up g2.grow _).up g3.grow _
      cases c with
      | lst ds =>
        cases dy with
        | int kk =>
          obtain ⟨n, hn, p3⟩ := p3
          cases r3
          obtain ⟨vs, e1, r⟩ := g3.std.cells pa _ hc
          have g4 : Go X.K m3 H3 F3 (mset m3 pa (.lst (ds.set n d))) (upd H3 pa (.lst (vs.set n v))) F3 := Go.put g3.std hc ⟨_, upd_same, r.set n rv⟩
          exact .inl ⟨pa, vs, kk, n, rfl, rfl, e1, by rw [r.length]; exact hn, k.nx _ _ _ _ _ p3 (G.trans g4) (S.go (G.trans g4))⟩
        | _ => exact p3.elim
      | dct kds =>
        have p3 : match keyOf dy with | some k => kds.length < 100000 ∧ A.nx ρ (mset m3 pa (.dct (putD kds k d))) | none => False := p3
        cases e : keyOf dy with
        | none => rw [e] at p3; exact p3.elim
        | some key =>
          rw [e] at p3
          obtain ⟨kvs, e1, rk⟩ := g3.std.cells pa _ hc
          have g4 : Go X.K m3 H3 F3 (mset m3 pa (.dct (putD kds key d))) (upd H3 pa (.dK (putK kvs key v))) F3 := Go.put g3.std hc ⟨_, upd_same, rk.put rv⟩
          refine .inr ⟨pa, _, rfl, ?_, k.nx _ _ _ _ _ p3.2 (G.trans g4) (S.go (G.trans g4))⟩
          rw [keyOf_rel r3 e]
          exact DPut.k e1 (by rw [rk.len]; exact Nat.lt_trans p3.1 (by decide))
      | _ => exact p3.elim
    | _ => exact p2.elim
  | _ => exact p2.elim⟩⟩
/-! ### x += e, x -= e -/
theorem s_aug {op : Operator} {r : R2} {s : BS} {n : Nat} {x : Str} (hN : X.N.Nodup) (ho : OpR X (inplaceOp op) r) (hs : Bok2 X.K r s) (hv : SE X value te) (hi : X.N[n]? = some x := by rfl) (hx : Loc X.env.scope x := by first | exact Or.inl rfl | exact Or.inr rfl)
    (hf : X.fn x = true ∨ X.env.scope.names.lookup x = some .local := by first | exact .inl rfl | exact .inr rfl) : SS1 X (.AugAssign (.Name x pos') op value pos) (.aug n s te) := ⟨fun ρ m A p => ⟨fun F0 σ H F S E V tk k pins st I => by
  have hl := nx_of_inv I hi
  have p : match getR ρ n with | some d1 => W te ρ m (fun d2 m1 => s [d1, d2] m1 fun d3 m2 => A.nx (setR ρ n d3) m2) A.ex | none => False := p
  cases e : getR ρ n with
  | none => rw [e] at p; exact p.elim
  | some d1 =>
    rw [e] at p
    obtain ⟨v1, hv1, rv1⟩ := S.env n d1 (getR_some e)
    refine wS_of (ps_aug hN hi hx pe_w (fun pins s σ H x y v u Q I rx ry h => ho pins s σ H x y v u Q I rx ry h) hf) ⟨v1, hv1, ?_⟩ pins st I
    refine (hv.go ρ m _ _ p).run F0 σ H F S _ V tk (fun y H1 F1 d2 m1 p1 g1 r1 => ?_) k.ex
    refine hs d1 d2 m1 _ p1 v1 y H1 F1 g1.std (rv1.up g1.grow _) r1 _ fun z H2 F2 d3 m2 p2 g2 r2 => ?_
    exact k.nx _ _ _ _ _ p2 (g1.trans g2) ((S.go (g1.trans g2)).set r2 hl)⟩⟩
theorem op_iadd : OpR X (inplaceOp .Add) (rI0 fun i j => .int (i + j)) := iop_add
theorem op_isub : OpR X (inplaceOp .Sub) (rI0 fun i j => .int (i - j)) := iop_sub
def sAddI : BS := fun ds m P => match ds with
  | [.int i, .int j] => P (.int (i + j)) m
  | _ => False
theorem bok_addI {K : PySem.W.Frag} : Bok2 K (rI0 fun i j => .int (i + j)) sAddI := bok_I0 (gd := fun i j => .int (i + j)) (fun d1 d2 m P h => by
  unfold sAddI at h
  split at h
  · rename_i e; cases e; exact ⟨_, _, rfl, rfl, h⟩
  · exact h.elim) fun _ _ _ => .int _
/-! ### in -/
def flatD : D → Bool
  | .non => true
  | .bl _ => true
  | .int _ => true
  | .str _ => true
  | _ => false
def eqF : D → D → Bool
  | .non, .non => true
  | .bl a, .bl b => a == b
  | .bl a, .int b => (if a then 1 else 0) == b
  | .int a, .bl b => a == (if b then 1 else 0)
  | .int a, .int b => a == b
  | .str a, .str b => a == b
  | _, _ => false
theorem flat_rel {K : PySem.W.Frag} {F : Hp} {v : L2.V} {d : D} (r : Rp K F v d) (h : flatD d = true) : flatV v = true := by
  cases d <;> first | (exact Bool.noConfusion (show false = true from h)) | (cases r; rfl)
theorem eqF_rel {K : PySem.W.Frag} {F : Hp} {v w : L2.V} {d e : D} (r : Rp K F v d) (r' : Rp K F w e) (h : flatD d = true) (h' : flatD e = true) : eqV v w = eqF d e := by
  cases d <;> first | (exact Bool.noConfusion (show false = true from h)) | (cases r; cases e <;> first | (exact Bool.noConfusion (show false = true from h')) | (cases r'; rfl))
theorem flats_rel {K : PySem.W.Frag} {F : Hp} {w : L2.V} {e : D} (r' : Rp K F w e) (h' : flatD e = true) : ∀ {vs : List L2.V} {ds : List D}, Rps K F vs ds → ds.all flatD = true → vs.all flatV = true ∧ (vs.any fun y => eqV y w) = ds.any fun y => eqF y e
  | _, [], r, _ => by cases r; exact ⟨rfl, rfl⟩
  | _, d :: ds, r, h => by
    cases r with
    | cons r1 r2 =>
      rw [List.all_cons, Bool.and_eq_true] at h
      obtain ⟨a, b⟩ := flats_rel r' h' r2 h.2
      refine ⟨by rw [List.all_cons, flat_rel r1 h.1, a]; rfl, by rw [List.any_cons, List.any_cons, b, eqF_rel r1 r' h.1 h']⟩
def inS (d : D) (ds : List D) (m : MS) (R : Bool → Prop) : Prop := (flatD d = true ∧ ds.all flatD = true ∧ R (ds.any fun y => eqF y d)) ∨ ∃ e es, See m d e ∧ Sees m ds es ∧ (plD 40 e = true ∧ plDs 40 es = true) ∧ R (es.any fun z => eqD z e)
def inF (d : D) (ds : List D) (R : Bool → Prop) : Prop := flatD d = true ∧ ds.all flatD = true ∧ R (ds.any fun y => eqF y d)
def inR (d1 d2 : D) (m : MS) (R : Bool → Prop) : Prop := match d2 with
  | .str z => ∃ c, d1 = .str ⟨#[c]⟩ ∧ R (decide (c ∈ z.cps.toList))
  | .lst ds => inS d1 ds m R
  | .fls ds => inS d1 ds m R
  | .tup ds => inF d1 ds R
  | .raw (.ref p) => ∃ c, m p = some c ∧ match c with
    | .lst ds => inS d1 ds m R
    | .dct kvs => match keyOf d1 with
      | some k => R (valD kvs k).isSome
      | none => False
    | .lck _ _ kvs => match keyOf d1 with
      | some k => R (valD kvs k).isSome
      | none => False
    | _ => False
  | _ => False
def sIn : BS := fun ds m P => match ds with
  | [d1, d2] => inR d1 d2 m fun b => P (.bl b) m
  | _ => False
def sNotIn : BS := fun ds m P => match ds with
  | [d1, d2] => inR d1 d2 m fun b => P (.bl (!b)) m
  | _ => False
def rIns (K : PySem.W.Frag) (f : Bool → Bool) : R2 := fun x y H Q => (∃ p xs, y = .ref p ∧ (SqL K H p xs ∨ SqT K H p xs) ∧ flatV x = true ∧ xs.all flatV = true ∧ Q (.bl (f (inV x xs))) H) ∨
  (∃ d ds, Dp K H x d ∧ Dp K H y (.list ds) ∧ SeqAt.shaped d = true ∧ SeqAt.shaped (.list ds) = true ∧ Q (.bl (f (ds.any fun z => PyData.eqv z d))) H) ∨
  (∃ (c : Nat) (z : Str), x = .str ⟨#[c]⟩ ∧ y = .str z ∧ Q (.bl (f (decide (c ∈ z.cps.toList)))) H) ∨ ∃ a o, y = .ref a ∧ DGet H a x o ∧ Q (.bl (f o.isSome)) H
theorem op_ins {k : Nat} (hr : Room k X.A) : OpR X (compareOp .In) (rIns X.K id) := by
  refine op_in_seq.or ((op_inD (by have := hr.un; omega)).or (op_in_sign.or ?_))
  intro pins s σ H x y v u Q I rx ry h
  obtain ⟨a, oo, rfl, g, q⟩ := h
  obtain rfl : u = Value.ref a := ry
  exact d_in (by have := hr.units; omega) I g rx fun s3 I3 => ⟨.bl oo.isSome, H, I3, rfl, q⟩
theorem op_notIns {k : Nat} (hr : Room k X.A) : OpR X (compareOp .NotIn) (rIns X.K not) := by
  refine op_notIn_seq.or ((op_notInD (by have := hr.un; omega)).or (op_notIn_sign.or ?_))
  intro pins s σ H x y v u Q I rx ry h
  obtain ⟨a, oo, rfl, g, q⟩ := h
  obtain rfl : u = Value.ref a := ry
  exact d_notIn (by have := hr.units; omega) I g rx fun s3 I3 => ⟨.bl (!oo.isSome), H, I3, rfl, q⟩
theorem any_toPys (e : D) : ∀ es : List D, ((toPys es).any fun z => PyData.eqv z (toPy e)) = es.any fun z => eqD z e
  | [] => by unfold toPys; rfl
  | d :: es => by unfold toPys; rw [List.any_cons, List.any_cons, any_toPys e es]; rfl
theorem bok_inR {K : PySem.W.Frag} {f : Bool → Bool} {d1 d2 : D} {m : MS} {P : NX} (h : inR d1 d2 m fun b => P (.bl (f b)) m) {x y : L2.V} {H F : Hp} (s : Std K m H F) (r1 : Rp K F x d1) (r2 : Rp K F y d2) {Q : VK} (q : ∀ v H' F' d m', P d m' → Go K m H F m' H' F' → Rp K F' v d → Q v H') : rIns K f x y H Q := by
  have fl : ∀ ds vs p, y = .ref p → (SqL K H p vs ∨ SqT K H p vs) → Rps K F vs ds → inF d1 ds (fun b => P (.bl (f b)) m) → rIns K f x y H Q := by
    rintro ds vs p rfl hq rr ⟨a, b, c⟩
    obtain ⟨e1, e2⟩ := flats_rel r1 a rr b
    refine .inl ⟨p, vs, rfl, hq, flat_rel r1 a, e1, ?_⟩
    rw [show inV x vs = _ from e2]
    exact q _ _ _ _ _ c (Go.refl s) (.bl _)
  have sq : ∀ ds vs p, y = .ref p → SqL K H p vs → Rps K F vs ds → inS d1 ds m (fun b => P (.bl (f b)) m) → rIns K f x y H Q := by
    intro ds vs p hy hq rr h
    rcases h with h | ⟨e, es, a, b, ⟨c, d⟩, h⟩
    · exact fl ds vs p hy (.inl hq) rr h
    · subst hy
      refine .inr (.inl ⟨toPy e, toPys es, See.dp s 40 e a c r1, .lst hq (Sees.dp s 40 es b d rr), shaped_of c (by decide), ?_, ?_⟩)
      · have := shaped_of (n := 41) (d := .lst es) (by unfold plD; exact d) (by decide)
        unfold toPy at this
        exact this
      · rw [any_toPys]; exact q _ _ _ _ _ h (Go.refl s) (.bl _)
  have dc : ∀ c p kds, y = .ref p → m p = some c → c.kvs = some kds → (match keyOf d1 with | some k => P (.bl (f (valD kds k).isSome)) m | none => False) → rIns K f x y H Q := by
    rintro c p kds rfl hc hk h
    cases e : keyOf d1 with
    | none => rw [e] at h; exact h.elim
    | some k =>
      rw [e] at h
      obtain ⟨kvs, hd, rk⟩ := dct_at s hc hk
      refine .inr (.inr (.inr ⟨p, valV kvs k, rfl, ?_, ?_⟩))
      · rw [keyOf_rel r1 e]; exact dget_of hd
      · rw [rk.isSome]; exact q _ _ _ _ _ h (Go.refl s) (.bl _)
  cases d2 with
  | str z =>
    obtain ⟨c, rfl, h⟩ := h
    cases r1; cases r2
    exact .inr (.inr (.inl ⟨c, z, rfl, rfl, q _ _ _ _ _ h (Go.refl s) (.bl _)⟩))
  | lst ds =>
    cases r2 with
    | lst a b => exact sq ds _ _ rfl (.inl (.inl (s.at a))) b h
  | fls ds =>
    cases r2 with
    | fls a b => exact sq ds _ _ rfl (s.toH.seq a) b h
  | tup ds =>
    cases r2 with
    | tup a b => exact fl ds _ _ rfl (.inr (Same.seqT s.toH a)) b h
  | raw w =>
    cases w with
    | ref p =>
      cases r2
      obtain ⟨c, hc, h⟩ := h
      cases c with
      | lst ds =>
        obtain ⟨vs, a, b⟩ := s.cells _ _ hc
        exact sq ds _ _ rfl (.inl (.inl a)) b h
      | dct kds => exact dc _ _ _ rfl hc rfl h
      | lck lo lv kds => exact dc _ _ _ rfl hc rfl h
      | _ => exact h.elim
    | _ => exact h.elim
  | _ => exact h.elim
theorem bok_in {K : PySem.W.Frag} : Bok2 K (rIns K id) sIn := fun d1 d2 m P h x y H F s r1 r2 Q q => bok_inR (f := id) h s r1 r2 q
theorem bok_notIn {K : PySem.W.Frag} : Bok2 K (rIns K not) sNotIn := fun d1 d2 m P h x y H F s r1 r2 Q q => bok_inR (f := not) h s r1 r2 q
/-! ### constants worked out -/
theorem se_negc {i n : Int} (ha : SE X a (.cst (.int i))) (h : -i = n := by decide) : SE X (.UnaryOp .USub a pos) (.cst (.int n)) := ⟨fun ρ m P Z p => (se_neg ha).go ρ m P Z (by subst h; exact p)⟩
theorem se_powc {i j n : Int} (ha : SE X a (.cst (.int i))) (hb : SE X b (.cst (.int j))) (hc : CPow i j := by exact ⟨by decide, by decide, by decide⟩) (h : i ^ j.toNat = n := by decide +kernel) : SE X (.BinOp a .Pow b pos) (.cst (.int n)) := ⟨fun ρ m P Z p => ⟨fun F0 σ H F S Q V tk q kx => by
  refine wE_of (pe_op op_pow pe_w pe_w) ?_
  refine (ha.go ρ m (fun d1 m1 => d1 = .int i ∧ m1 = m) EX0 ⟨rfl, rfl⟩).run F0 σ H F S _ V tk (fun x H1 F1 d1 m1 p1 g1 r1 => ?_) exk0
  obtain ⟨rfl, rfl⟩ := p1
  refine (hb.go ρ m1 (fun d1 m2 => d1 = .int j ∧ m2 = m1) EX0 ⟨rfl, rfl⟩).run F0 σ H1 F1 (S.go g1) _ V tk (fun y H2 F2 d2 m2 p2 g2 r2 => ?_) exk0
  obtain ⟨rfl, rfl⟩ := p2
  cases r1; cases r2
  subst h
  exact ⟨i, j, rfl, rfl, hc, q _ H2 F2 _ _ p (g1.trans g2) (.int _)⟩⟩⟩
def sDnew : BS := fun ds m P => ∀ p, m p = none → P (.raw (.ref p)) (mset m p (.dct []))
theorem se_dnew : SE X (.Dict [] [] pos) (.bop sDnew .nil) := ⟨fun ρ m P Z h => ⟨fun F0 σ H F S Q V tk q kx => by
  refine wE_of pe_dnewK fun p hp => ?_
  have h : ∀ p, m p = none → P (.raw (.ref p)) (mset m p (.dct [])) := h
  exact q _ _ _ _ _ (h p (S.std.free hp)) (Go.cell S.std hp ⟨[], upd_same, .nil⟩) (.raw _)⟩⟩
end
end Nu

namespace Nu
open PySem PySem.Spec L2
open PyProof.Rows hiding St
/-! ### calls of built-ins -/
section
variable {X : Cx} {e a b c o : Expr} {es : List Expr} {t ta tb tc to te : T} {ts : Ts} {pos p apos cpos : Pos}
theorem se_bi {id : String} {x : Str} {r : List L2.V → Hp → VK → Prop} {s : BS} (hc : CallR X (.builtin id) r) (hs : BokN X.K r s) (hm : X.mg x = none) (ha : SA X (e :: es) ts) (hv : bootBuiltins x = some (.builtin id) := by decide +kernel) (hg : Gl X x := by rfl)
    (hn : x ≠ "__name__" := by decide) (hdb : (x == ("__debug__" : Str)) = false := by decide) (he : starEach (e :: es) X.env = (false, eval e X.env) :: starEach es X.env := by rfl) (hpl : (backTo pos (starEach es X.env)).any (·.1) = false := by rfl) :
    SE X (.Call (.Name x p) (e :: es) [] pos) (.bop s ts) := ⟨fun ρ m P Z pp => ⟨fun F0 σ H F S Q V tk q kx => by
  refine wE_of (pe_callB hc hg hm hv pa_w hn hdb he hpl) ?_
  refine (ha.go ρ m _ Z pp).run F0 σ H F S _ V tk (fun vs H1 F1 ds m1 p1 g1 r1 => ?_) kx
  exact hs ds m1 P p1 vs H1 F1 g1.std r1 Q fun v H2 F2 d m2 p2 g2 r2 => q v H2 F2 d m2 p2 (g1.trans g2) r2⟩⟩
theorem se_ty {T : String} {x : Str} {r : List L2.V → Hp → VK → Prop} {s : BS} (hc : CallR X (.type T) r) (hs : BokN X.K r s) (hm : X.mg x = none) (ha : SA X (e :: es) ts) (hv : bootBuiltins x = some (.type T) := by decide +kernel) (hg : Gl X x := by rfl)
    (hn : x ≠ "__name__" := by decide) (hdb : (x == ("__debug__" : Str)) = false := by decide) (he : starEach (e :: es) X.env = (false, eval e X.env) :: starEach es X.env := by rfl) (hpl : (backTo pos (starEach es X.env)).any (·.1) = false := by rfl) :
    SE X (.Call (.Name x p) (e :: es) [] pos) (.bop s ts) := ⟨fun ρ m P Z pp => ⟨fun F0 σ H F S Q V tk q kx => by
  refine wE_of (pe_callTy hc hg hm hv pa_w hn hdb he hpl) ?_
  refine (ha.go ρ m _ Z pp).run F0 σ H F S _ V tk (fun vs H1 F1 ds m1 p1 g1 r1 => ?_) kx
  exact hs ds m1 P p1 vs H1 F1 g1.std r1 Q fun v H2 F2 d m2 p2 g2 r2 => q v H2 F2 d m2 p2 (g1.trans g2) r2⟩⟩
/-! ### calls of built-in methods -/
def TyV2 (X : Cx) (T : String) (x : L2.V) (H : Hp) : Prop := ∀ (pins : List (Addr × Obj)) (σ : L2.St) (s : Shared) (v : Value), Inv X pins σ H s → RelV x v → s.TypeIs v T ∧ ∀ a, v = .ref a → ∃ ob, s.heap.get? a = some ob ∧ ob.dict = none
structure Cand (X : Cx) (name : Str) (T id : String) (r : L2.V → List L2.V → Hp → VK → Prop) : Prop where
  pa : PlainAttrs T
  slot : Slot T name id
  hty : typeOf (.builtin id) = pure (.type "method_descriptor")
  hm : MtR X id r
def tBMX (X : Cx) (name : Str) (to : TE) (t : TA) : TE := fun σ H Q => to σ H fun x H1 => ∃ T id r, Cand X name T id r ∧ TyV2 X T x H1 ∧ t σ H1 fun xs H2 => r x xs H2 Q
theorem pe_bmX {name : Str} {teo : TE} {t : TA} (ho : PE X o teo) (ha : PA X (e :: es) t)
    (hbase : attributeBase o name X.env (eval o X.env) = eval o X.env)
    (hfew : ((backTo cpos (starEach (e :: es) X.env)).all (fun x => !x.1) && (backToKw cpos (keywordEach [] X.env)).all (fun x => x.1.isSome)
      && decide ((e :: es).length + ([] : List Keyword).length + (if ([] : List Keyword).isEmpty then 0 else 1) < 30)) = true)
    (hline : (apos.endLine == cpos.line) = true) (hs : starEach (e :: es) X.env = (false, eval e X.env) :: starEach es X.env) (hplain : (backTo cpos (starEach es X.env)).any (·.1) = false) :
    PE X (.Call (.Attribute o name apos) (e :: es) [] cpos) (tBMX X name teo t) := by
  refine ⟨fun pins s σ H Q I h => ?_⟩
  refine wpAny_Call_method_late hbase hfew hline rfl (thn (ho.run pins s σ H _ I h) fun v s1 ⟨x, H1, I1, r1, T, id, r, c, ty, q1⟩ => ?_)
  obtain ⟨h1, h2⟩ := ty pins σ s1 v I1 r1
  refine ⟨T, id, c.pa, c.slot, c.hty, h1, h2, ?_⟩
  have hA := ha.run cpos pins s1 σ H1 _ I1 q1
  rw [hs] at hA ⊢
  refine Calls.callWith_builtin (by show (false || (backTo cpos (starEach es X.env)).any (·.1)) = false; rw [hplain] <;> rfl) (Calls.evalArgs_plain ?_)
  exact thn hA fun us s2 ⟨vs, H2, I2, r2, q2⟩ => c.hm pins s2 σ H2 x vs v us Q I2 r1 r2 q2
theorem pe_bm0X {name : Str} {teo : TE} (ho : PE X o teo) (hbase : attributeBase o name X.env (eval o X.env) = eval o X.env) (hline : (apos.endLine == cpos.line) = true) :
    PE X (.Call (.Attribute o name apos) [] [] cpos) (fun σ H Q => teo σ H fun x H1 => ∃ T id r, Cand X name T id r ∧ TyV2 X T x H1 ∧ r x [] H1 Q) := by
  refine ⟨fun pins s σ H Q I h => ?_⟩
  refine wpAny_Call_method0_late hbase hline (thn (ho.run pins s σ H _ I h) fun v s1 ⟨x, H1, I1, r1, T, id, r, c, ty, q1⟩ => ?_)
  obtain ⟨h1, h2⟩ := ty pins σ s1 v I1 r1
  exact ⟨T, id, c.pa, c.slot, c.hty, h1, h2, Calls.callWith_builtin rfl (PySem.evalArgs_none (c.hm pins s1 σ H1 x [] v [] Q I1 r1 .nil q1))⟩
def BokM (K : PySem.W.Frag) (r : L2.V → List L2.V → Hp → VK → Prop) (s : BS) : Prop := ∀ d ds m P, s (d :: ds) m P → ∀ x vs H F, Std K m H F → Rp K F x d → Rps K F vs ds → ∀ Q : VK, (∀ v H' F' d m', P d m' → Go K m H F m' H' F' → Rp K F' v d → Q v H') → r x vs H Q
abbrev KR := D → MS → (BS → Prop) → Prop
structure KOk (X : Cx) (name : Str) (k : KR) : Prop where
  ok : ∀ d m R, k d m R → ∀ v H F, Std X.K m H F → Rp X.K F v d → ∃ T id r s, Cand X name T id r ∧ TyV2 X T v H ∧ BokM X.K r s ∧ R s
theorem se_bm {name : Str} {k : KR} (hk : KOk X name k) (ho : SE X o to) (ha : SA X (e :: es) ts)
    (hbase : attributeBase o name X.env (eval o X.env) = eval o X.env := by rfl)
    (hfew : ((backTo cpos (starEach (e :: es) X.env)).all (fun x => !x.1) && (backToKw cpos (keywordEach [] X.env)).all (fun x => x.1.isSome)
      && decide ((e :: es).length + ([] : List Keyword).length + (if ([] : List Keyword).isEmpty then 0 else 1) < 30)) = true := by rfl)
    (hline : (apos.endLine == cpos.line) = true := by rfl) (hs : starEach (e :: es) X.env = (false, eval e X.env) :: starEach es X.env := by rfl) (hplain : (backTo cpos (starEach es X.env)).any (·.1) = false := by rfl) :
    SE X (.Call (.Attribute o name apos) (e :: es) [] cpos) (.mth k to ts) := ⟨fun ρ m P Z pp => ⟨fun F0 σ H F S Q V tk q kx => by
  refine wE_of (pe_bmX pe_w pa_w hbase hfew hline hs hplain) ?_
  refine (ho.go ρ m _ Z pp).run F0 σ H F S _ V tk (fun x H1 F1 d m1 p1 g1 r1 => ?_) kx
  obtain ⟨T, id, r, s, cd, ty, bk, p2⟩ := hk.ok d m1 _ p1 x H1 F1 g1.std r1
  refine ⟨T, id, r, cd, ty, ?_⟩
  refine (ha.go ρ m1 _ Z p2).run F0 σ H1 F1 (S.go g1) _ V tk (fun vs H2 F2 ds m2 p3 g2 r2 => ?_) (kx.go g1)
  exact bk d ds m2 P p3 x vs H2 F2 g2.std (r1.up g2.grow _) r2 Q fun v H3 F3 d3 m3 p4 g3 r3 => q v H3 F3 d3 m3 p4 ((g1.trans g2).trans g3) r3⟩⟩
theorem se_bm0 {name : Str} {k : KR} (hk : KOk X name k) (ho : SE X o to)
    (hbase : attributeBase o name X.env (eval o X.env) = eval o X.env := by rfl) (hline : (apos.endLine == cpos.line) = true := by rfl) :
    SE X (.Call (.Attribute o name apos) [] [] cpos) (.mth k to .nil) := ⟨fun ρ m P Z pp => ⟨fun F0 σ H F S Q V tk q kx => by
  refine wE_of (pe_bm0X pe_w hbase hline) ?_
  refine (ho.go ρ m _ Z pp).run F0 σ H F S _ V tk (fun x H1 F1 d m1 p1 g1 r1 => ?_) kx
  obtain ⟨T, id, r, s, cd, ty, bk, p2⟩ := hk.ok d m1 _ p1 x H1 F1 g1.std r1
  refine ⟨T, id, r, cd, ty, ?_⟩
  exact bk d [] m1 P p2 x [] H1 F1 g1.std r1 .nil Q fun v H3 F3 d3 m3 p4 g3 r3 => q v H3 F3 d3 m3 p4 (g1.trans g3) r3⟩⟩
end
/-! kinds of receivers -/
def kL (s : BS) : KR := fun d m R => match d with
  | .lst _ => R s
  | .fls _ => R s
  | .raw (.ref p) => ∃ xs, m p = some (.lst xs) ∧ R s
  | _ => False
def kS (s : BS) : KR := fun d m R => match d with
  | .str _ => R s
  | _ => False
def kDc (s : BS) : KR := fun d m R => match d with
  | .raw (.ref p) => ∃ c, m p = some c ∧ match c with
    | .dct _ => R s
    | .lck _ _ _ => R s
    | _ => False
  | _ => False
def kLD (sl sd : BS) : KR := fun d m R => match d with
  | .raw (.ref p) => ∃ c, m p = some c ∧ match c with
    | .lst _ => R sl
    | .dct _ => R sd
    | _ => False
  | _ => False
theorem tyL {X : Cx} {x : L2.V} {a : Addr} {H : Hp} {vs : List L2.V} (hx : x = .ref a) (h : SqL X.K H a vs) : TyV2 X "list" x H := fun pins σ s v I r => by
  subst hx
  exact tyV_is I r (.inl ⟨rfl, vs, h⟩)
theorem tyS {X : Cx} {z : Str} {H : Hp} : TyV2 X "str" (.str z) H := fun pins σ s v I r => tyV_is I r rfl
theorem tyDc {X : Cx} {a : Addr} {H : Hp} {kvs : List (Key × L2.V)} (h : Rd H a (.dK kvs)) : TyV2 X "dict" (.ref a) H := fun pins σ s v I r => by
  obtain rfl : v = Value.ref a := r
  have g : DGet H a (kV (.inl 0)) (valV kvs (.inl 0)) := .inl ⟨kvs, .inl 0, h, rfl, rfl⟩
  refine ⟨dict_typeIs I g, fun b e => ?_⟩
  exact dict_noDict I g b e
section
variable {X : Cx} {name : Str} {id : String} {r : L2.V → List L2.V → Hp → VK → Prop} {s sl sd : BS}
theorem kokL (c : Cand X name "list" id r) (h : BokM X.K r s) : KOk X name (kL s) := ⟨fun d m R k v H F sd rr => by
  cases d with
  | lst xs =>
    cases rr with
    | lst a b => exact ⟨_, _, r, s, c, tyL rfl (.inl (.inl (sd.at a))), h, k⟩
  | fls xs =>
    cases rr with
    | fls a b => exact ⟨_, _, r, s, c, tyL rfl (sd.toH.seq a), h, k⟩
  | raw w =>
    cases w with
    | ref p =>
      cases rr
      obtain ⟨xs, e, k⟩ := k
      obtain ⟨vs, a, b⟩ := sd.cells _ _ e
      exact ⟨_, _, r, s, c, tyL rfl (.inl (.inl a)), h, k⟩
    | _ => exact k.elim
  | _ => exact k.elim⟩
theorem kokS (c : Cand X name "str" id r) (h : BokM X.K r s) : KOk X name (kS s) := ⟨fun d m R k v H F sd rr => by
  cases d with
  | str z =>
    cases rr
    exact ⟨_, _, r, s, c, tyS, h, k⟩
  | _ => exact k.elim⟩
theorem kokD (c : Cand X name "dict" id r) (h : BokM X.K r s) : KOk X name (kDc s) := ⟨fun d m R k v H F sd rr => by
  cases d with
  | raw w =>
    cases w with
    | ref p =>
      cases rr
      obtain ⟨cl, e, k⟩ := k
      cases cl with
      | dct kds =>
        obtain ⟨kvs, a, b⟩ := sd.cells _ _ e
        exact ⟨_, _, r, s, c, tyDc (.inl a), h, k⟩
      | lck lo lv kds =>
        obtain ⟨a, b⟩ := sd.cells _ _ e
        exact ⟨_, _, r, s, c, tyDc (.inr ⟨lo, a⟩), h, k⟩
      | _ => exact k.elim
    | _ => exact k.elim
  | _ => exact k.elim⟩
theorem kokLD {id' : String} {r' : L2.V → List L2.V → Hp → VK → Prop} (c : Cand X name "list" id r) (h : BokM X.K r sl) (c' : Cand X name "dict" id' r') (h' : BokM X.K r' sd) : KOk X name (kLD sl sd) := ⟨fun d m R k v H F sdd rr => by
  cases d with
  | raw w =>
    cases w with
    | ref p =>
      cases rr
      obtain ⟨cl, e, k⟩ := k
      cases cl with
      | lst xs =>
        obtain ⟨vs, a, b⟩ := sdd.cells _ _ e
        exact ⟨_, _, r, sl, c, tyL rfl (.inl (.inl a)), h, k⟩
      | dct kds =>
        obtain ⟨kvs, a, b⟩ := sdd.cells _ _ e
        exact ⟨_, _, r', sd, c', tyDc (.inl a), h', k⟩
      | _ => exact k.elim
    | _ => exact k.elim
  | _ => exact k.elim⟩
end
/-! ### methods of lists -/
section
variable {K : PySem.W.Frag}
def sAppend : BS := fun ds m P => match ds with
  | [.raw (.ref p), d] => ∃ xs, m p = some (.lst xs) ∧ xs.length < 100000 ∧ P .non (mset m p (.lst (xs ++ [d])))
  | _ => False
theorem bm_append : BokM K rAppend sAppend := fun d ds m P h x vs H F s r1 rs Q q => by
  unfold sAppend at h
  split at h
  · rename_i e; cases e
    cases r1
    obtain ⟨v, rfl, r2⟩ := rps1 rs
    obtain ⟨xs, e, hz, h⟩ := h
    obtain ⟨ws, a, b⟩ := s.cells _ _ e
    exact ⟨_, ws, v, rfl, rfl, a, by rw [b.length]; exact Nat.lt_trans hz (by decide), q _ _ _ _ _ h (Go.put s e ⟨_, upd_same, b.append (.one r2)⟩) .non⟩
  · exact h.elim
def sExtend : BS := fun ds m P => match ds with
  | [.raw (.ref p), d] => ∃ xs, m p = some (.lst xs) ∧ asL d m fun ys => xs.length + ys.length ≤ 100000 ∧ P .non (mset m p (.lst (xs ++ ys)))
  | _ => False
theorem bm_extend : BokM K rExtend sExtend := fun d ds m P h x vs H F s r1 rs Q q => by
  unfold sExtend at h
  split at h
  · rename_i e; cases e
    cases r1
    obtain ⟨v, rfl, r2⟩ := rps1 rs
    obtain ⟨xs, e, h⟩ := h
    obtain ⟨ws, a, b⟩ := s.cells _ _ e
    obtain ⟨y, ys, us, rfl, h, a2, b2⟩ := asL_use h s r2
    exact ⟨_, y, ws, us, rfl, rfl, a, a2, by rw [b.length, b2.length]; exact Nat.le_trans h.1 (by decide), q _ _ _ _ _ h.2 (Go.put s e ⟨_, upd_same, b.append b2⟩) .non⟩
  · exact h.elim
def sInsert : BS := fun ds m P => match ds with
  | [.raw (.ref p), .int i, d] => ∃ xs, m p = some (.lst xs) ∧ (xs.length < 100000 ∧ 0 ≤ i ∧ i < 2 ^ 63) ∧ P .non (mset m p (.lst (xs.take i.toNat ++ [d] ++ xs.drop i.toNat)))
  | _ => False
theorem bm_insert : BokM K (fun x vs H Q => ∃ (l : Addr) (xs : List L2.V) (i : Int) (y : L2.V), x = .ref l ∧ vs = [.int i, y] ∧ H l = some (.lst xs) ∧ xs.length < sizeLine ∧ 0 ≤ i ∧ i < 2 ^ 63 ∧
    Q .non (upd H l (.lst (xs.take i.toNat ++ [y] ++ xs.drop i.toNat)))) sInsert := fun d ds m P h x vs H F s r1 rs Q q => by
  unfold sInsert at h
  split at h
  · rename_i e; cases e
    cases r1
    obtain ⟨v, w, rfl, r2, r3⟩ := rps2 rs
    cases r2
    obtain ⟨xs, e, ⟨hz, h0, h1⟩, h⟩ := h
    obtain ⟨ws, a, b⟩ := s.cells _ _ e
    exact ⟨_, ws, _, w, rfl, rfl, a, by rw [b.length]; exact Nat.lt_trans hz (by decide), h0, h1, q _ _ _ _ _ h (Go.put s e ⟨_, upd_same, ((b.take _).append (.one r3)).append (b.drop _)⟩) .non⟩
  · exact h.elim
theorem Rps.erase : ∀ {vs : List L2.V} {ds : List D} {F : Hp} (i : Nat), Rps K F vs ds → Rps K F (vs.eraseIdx i) (ds.eraseIdx i)
  | _, [], _, i, h => by cases h; exact .nil
  | _, d :: ds, _, 0, h => by
    cases h with
    | cons a b => exact b
  | _, d :: ds, _, i + 1, h => by
    cases h with
    | cons a b => exact .cons a (Rps.erase i b)
theorem Rps.dropLast {vs : List L2.V} {ds : List D} {F : Hp} (h : Rps K F vs ds) : Rps K F vs.dropLast ds.dropLast := by
  rw [List.dropLast_eq_take, List.dropLast_eq_take, h.length]
  exact h.take _
def sPopL : BS := fun ds m P => match ds with
  | [.raw (.ref p), .int i] => ∃ xs, m p = some (.lst xs) ∧ (-(2 ^ 63) ≤ i ∧ i < 2 ^ 63) ∧ ∃ k, ixN xs.length i = some k ∧ ∃ d, xs[k]? = some d ∧ P d (mset m p (.lst (xs.eraseIdx k)))
  | _ => False
theorem bm_popAt : BokM K rPopAt sPopL := fun d ds m P h x vs H F s r1 rs Q q => by
  unfold sPopL at h
  split at h
  · rename_i e; cases e
    cases r1
    obtain ⟨v, rfl, r2⟩ := rps1 rs
    cases r2
    obtain ⟨xs, e, ⟨h0, h1⟩, k, hk, d, hd, h⟩ := h
    obtain ⟨ws, a, b⟩ := s.cells _ _ e
    obtain ⟨v, e1, rv⟩ := b.get hd
    have g := Go.put s e (c' := .lst (xs.eraseIdx k)) ⟨_, upd_same, b.erase k⟩
    exact ⟨_, ws, _, k, v, rfl, rfl, a, h0, h1, by rw [b.length]; exact (ixN_seq hk).1, e1, q _ _ _ _ _ h g (rv.up g.grow _)⟩
  · exact h.elim
def sPop0 : BS := fun ds m P => match ds with
  | [.raw (.ref p)] => ∃ xs, m p = some (.lst xs) ∧ ∃ d, xs[xs.length - 1]? = some d ∧ P d (mset m p (.lst xs.dropLast))
  | _ => False
theorem bm_pop : BokM K rPop sPop0 := fun d ds m P h x vs H F s r1 rs Q q => by
  unfold sPop0 at h
  split at h
  · rename_i e; cases e
    cases r1; cases rs
    obtain ⟨xs, e, d, hd, h⟩ := h
    obtain ⟨ws, a, b⟩ := s.cells _ _ e
    obtain ⟨v, e1, rv⟩ := b.get hd
    have g := Go.put s e (c' := .lst xs.dropLast) ⟨_, upd_same, b.dropLast⟩
    exact ⟨_, ws, v, rfl, rfl, a, by rw [b.length]; exact e1, q _ _ _ _ _ h g (rv.up g.grow _)⟩
  · exact h.elim
def sReverse : BS := fun ds m P => match ds with
  | [.raw (.ref p)] => ∃ xs, m p = some (.lst xs) ∧ P .non (mset m p (.lst xs.reverse))
  | _ => False
theorem bm_reverse : BokM K rReverse sReverse := fun d ds m P h x vs H F s r1 rs Q q => by
  unfold sReverse at h
  split at h
  · rename_i e; cases e
    cases r1; cases rs
    obtain ⟨xs, e, h⟩ := h
    obtain ⟨ws, a, b⟩ := s.cells _ _ e
    exact ⟨_, ws, rfl, rfl, a, q _ _ _ _ _ h (Go.put s e ⟨_, upd_same, b.reverse⟩) .non⟩
  · exact h.elim
def sClearL : BS := fun ds m P => match ds with
  | [.raw (.ref p)] => ∃ xs, m p = some (.lst xs) ∧ P .non (mset m p (.lst []))
  | _ => False
theorem bm_clear : BokM K rClear sClearL := fun d ds m P h x vs H F s r1 rs Q q => by
  unfold sClearL at h
  split at h
  · rename_i e; cases e
    cases r1; cases rs
    obtain ⟨xs, e, h⟩ := h
    obtain ⟨ws, a, b⟩ := s.cells _ _ e
    exact ⟨_, ws, rfl, rfl, a, q _ _ _ _ _ h (Go.put s e ⟨_, upd_same, .nil⟩) .non⟩
  · exact h.elim
/-- remove, of ints -/
def sRemove : BS := fun ds m P => match ds with
  | [.raw (.ref p), .int k] => ∃ ns : List Int, m p = some (.lst (ns.map .int)) ∧ ∃ j : Nat, ns[j]? = some k ∧ (∀ i : Nat, i < j → ns[i]? ≠ some k) ∧ P .non (mset m p (.lst ((ns.eraseIdx j).map .int)))
  | _ => False
theorem bm_remove : BokM K rRemI sRemove := fun d ds m P h x vs H F s r1 rs Q q => by
  unfold sRemove at h
  split at h
  · rename_i e; cases e
    cases r1
    obtain ⟨v, rfl, r2⟩ := rps1 rs
    cases r2
    obtain ⟨ns, e, j, hj, hn, h⟩ := h
    obtain ⟨ws, a, b⟩ := s.cells _ _ e
    have eb := b.ints
    subst eb
    exact ⟨_, ns, _, j, rfl, rfl, a, hj, hn, q _ _ _ _ _ h (Go.put s e ⟨_, upd_same, Rps.of_ints _⟩) .non⟩
  · exact h.elim
def sIndex : BS := fun ds m P => match ds with
  | [d, x] => lsR d m fun xs => (flatD x = true ∧ xs.all flatD = true) ∧ ∃ (j : Nat) (z : D), xs[j]? = some z ∧ eqF z x = true ∧ (∀ (i : Nat) (z' : D), i < j → xs[i]? = some z' → eqF z' x = false) ∧ P (.int (j : Nat)) m
  | _ => False
theorem flat_all {F : Hp} : ∀ {vs : List L2.V} {ds : List D}, Rps K F vs ds → ds.all flatD = true → vs.all flatV = true
  | _, [], r, _ => by cases r; rfl
  | _, d :: ds, r, h => by
    cases r with
    | cons r1 r2 =>
      rw [List.all_cons, Bool.and_eq_true] at h
      rw [List.all_cons, flat_rel r1 h.1, flat_all r2 h.2]; rfl
theorem bm_index : BokM K (rIndex K) sIndex := fun d ds m P h x vs H F s r1 rs Q q => by
  unfold sIndex at h
  split at h
  · rename_i e; cases e
    obtain ⟨v, rfl, r2⟩ := rps1 rs
    obtain ⟨a, xs, ws, rfl, ⟨⟨f1, f2⟩, j, z, hj, hz, hn, h⟩, h1, h2⟩ := lsR_use h s r1
    obtain ⟨u, e1, ru⟩ := h2.get hj
    have fl : ∀ (i : Nat) (z : D), xs[i]? = some z → flatD z = true := fun i z e => List.all_eq_true.mp f2 z (List.mem_of_getElem? e)
    refine ⟨a, ws, v, j, u, rfl, rfl, h1, flat_rel r2 f1, flat_all h2 f2, e1, by rw [eqF_rel ru r2 (fl _ _ hj) f1]; exact hz, fun i z' hi e => ?_, q _ _ _ _ _ h (Go.refl s) (.int _)⟩
    obtain ⟨d', e2, r'⟩ := h2.get' e
    rw [eqF_rel r' r2 (fl _ _ e2) f1]
    exact hn i d' hi e2
  · exact h.elim
def sCount : BS := fun ds m P => match ds with
  | [d, .int k] => lsR d m fun xs => ∃ ns : List Int, xs = ns.map .int ∧ P (.int (ns.count k : Nat)) m
  | _ => False
theorem bm_count : BokM K (rCntI K) sCount := fun d ds m P h x vs H F s r1 rs Q q => by
  unfold sCount at h
  split at h
  · rename_i e; cases e
    obtain ⟨v, rfl, r2⟩ := rps1 rs
    cases r2
    obtain ⟨a, xs, ws, rfl, ⟨ns, rfl, h⟩, h1, h2⟩ := lsR_use h s r1
    have eb := h2.ints
    subst eb
    exact ⟨a, ns, _, rfl, rfl, h1, q _ _ _ _ _ h (Go.refl s) (.int _)⟩
  · exact h.elim
end
section
variable {X : Cx}
theorem k_append : KOk X "append" (kL sAppend) := kokL ⟨PySem.F.plainAttrs_list, PySem.F.slot_list_append, PySem.F.type_list_append, mt_append⟩ bm_append
theorem k_extend : KOk X "extend" (kL sExtend) := kokL ⟨PySem.F.plainAttrs_list, PySem.F.slot_list_extend, PySem.F.type_list_extend, mt_extend⟩ bm_extend
theorem k_insert : KOk X "insert" (kL sInsert) := kokL ⟨PySem.F.plainAttrs_list, PySem.F.slot_list_insert, PySem.F.type_list_insert, mt_insert⟩ bm_insert
theorem k_pop0 : KOk X "pop" (kL sPop0) := kokL ⟨PySem.F.plainAttrs_list, PySem.F.slot_list_pop, PySem.F.type_list_pop, mt_pop⟩ bm_pop
theorem k_reverse : KOk X "reverse" (kL sReverse) := kokL ⟨PySem.F.plainAttrs_list, PySem.F.slot_list_reverse, PySem.F.type_list_reverse, mt_reverse⟩ bm_reverse
theorem k_remove : KOk X "remove" (kL sRemove) := kokL ⟨PySem.F.plainAttrs_list, PySem.F.slot_list_remove, PySem.F.type_list_remove, mt_remove⟩ bm_remove
theorem k_index : KOk X "index" (kL sIndex) := kokL ⟨PySem.F.plainAttrs_list, PySem.F.slot_list_index, PySem.F.type_list_index, mt_index⟩ bm_index
theorem k_count : KOk X "count" (kL sCount) := kokL ⟨PySem.F.plainAttrs_list, PySem.F.slot_list_count, PySem.F.type_list_count, mt_lcount⟩ bm_count
end
/-! ### methods of dicts -/
section
variable {K : PySem.W.Frag}
def dR (p : Addr) (m : MS) (R : List (Key × D) → Prop) : Prop := ∃ c, m p = some c ∧ match c with
  | .dct kvs => R kvs
  | .lck _ _ kvs => R kvs
  | _ => False
theorem dR_use {m : MS} {H F : Hp} {p : Addr} {R : List (Key × D) → Prop} (h : dR p m R) (s : Std K m H F) : ∃ kds kvs, R kds ∧ Rd H p (.dK kvs) ∧ RKs K F kvs kds := by
  obtain ⟨c, e, h⟩ := h
  cases c with
  | dct kds =>
    obtain ⟨kvs, a, b⟩ := dct_at s e rfl
    exact ⟨kds, kvs, h, a, b⟩
  | lck lo lv kds =>
    obtain ⟨kvs, a, b⟩ := dct_at s e rfl
    exact ⟨kds, kvs, h, a, b⟩
  | _ => exact h.elim
def keyR (d : D) (R : Key → Prop) : Prop := match d with
  | .int i => R (.inl i)
  | .str s => R (.inr s)
  | _ => False
theorem keyR_use {F : Hp} {v : L2.V} {d : D} {R : Key → Prop} (h : keyR d R) (r : Rp K F v d) : ∃ k, v = kV k ∧ R k := by
  cases d with
  | int i => cases r; exact ⟨.inl i, rfl, h⟩
  | str s => cases r; exact ⟨.inr s, rfl, h⟩
  | _ => exact h.elim
def sGet1 : BS := fun ds m P => match ds with
  | [.raw (.ref p), y] => dR p m fun kvs => keyR y fun k => P ((valD kvs k).getD .non) m
  | _ => False
def sGet2 : BS := fun ds m P => match ds with
  | [.raw (.ref p), y, d] => dR p m fun kvs => keyR y fun k => P ((valD kvs k).getD d) m
  | _ => False
def rGet1 : L2.V → List L2.V → Hp → VK → Prop := fun x vs H Q => ∃ a y o, x = .ref a ∧ vs = [y] ∧ DGet H a y o ∧ Q (o.getD .non) H
def rGet2 : L2.V → List L2.V → Hp → VK → Prop := fun x vs H Q => ∃ a y z o, x = .ref a ∧ vs = [y, z] ∧ DGet H a y o ∧ Q (o.getD z) H
theorem mt_get1 {X : Cx} (hu : X.A.units + 1 < cLine) : MtR X "dict.get" rGet1 := by
  intro pins s σ H x vs v us Q I rx rv h
  obtain ⟨a, y, o, rfl, rfl, g, q⟩ := h
  obtain rfl : v = Value.ref a := rx
  obtain ⟨u, rfl, ru⟩ := rv.one
  exact d_get1 hu I g ru fun w' s3 I3 rw' => ⟨_, H, I3, rw', q⟩
theorem mt_get2 {X : Cx} (hu : X.A.units + 1 < cLine) : MtR X "dict.get" rGet2 := by
  intro pins s σ H x vs v us Q I rx rv h
  obtain ⟨a, y, z, o, rfl, rfl, g, q⟩ := h
  obtain rfl : v = Value.ref a := rx
  obtain ⟨u, w, rfl, ru, rw'⟩ := vals2 rv
  exact d_get2 hu I g ru rw' fun w' s3 I3 rw' => ⟨_, H, I3, rw', q⟩
theorem bm_get1 : BokM K rGet1 sGet1 := fun d ds m P h x vs H F s r1 rs Q q => by
  unfold sGet1 at h
  split at h
  · rename_i e; cases e
    cases r1
    obtain ⟨v, rfl, r2⟩ := rps1 rs
    obtain ⟨kds, kvs, h, a, b⟩ := dR_use h s
    obtain ⟨k, rfl, h⟩ := keyR_use h r2
    refine ⟨_, _, _, rfl, rfl, dget_of a, q _ _ _ _ _ h (Go.refl s) ?_⟩
    rcases b.val k with ⟨e1, e2⟩ | ⟨v, d, e1, e2, rv⟩
    · rw [e1, e2]; exact .non
    · rw [e1, e2]; exact rv
  · exact h.elim
theorem bm_get2 : BokM K rGet2 sGet2 := fun d ds m P h x vs H F s r1 rs Q q => by
  unfold sGet2 at h
  split at h
  · rename_i e; cases e
    cases r1
    obtain ⟨v, w, rfl, r2, r3⟩ := rps2 rs
    obtain ⟨kds, kvs, h, a, b⟩ := dR_use h s
    obtain ⟨k, rfl, h⟩ := keyR_use h r2
    refine ⟨_, _, _, _, rfl, rfl, dget_of a, q _ _ _ _ _ h (Go.refl s) ?_⟩
    rcases b.val k with ⟨e1, e2⟩ | ⟨v, d, e1, e2, rv⟩
    · rw [e1, e2]; exact r3
    · rw [e1, e2]; exact rv
  · exact h.elim
theorem RKs.drop {F : Hp} {l : List (Key × L2.V)} {r : List (Key × D)} (k : Key) (h : RKs K F l r) : RKs K F (dropK l k) (dropD r k) := by
  unfold dropK dropD
  induction h with
  | nil => exact .nil
  | @cons p q l r hp t ih =>
    by_cases e : q.1 = k
    · have e1 : p.1 = k := hp.1.trans e
      simpa [List.filter_cons, e, e1] using ih
    · have e1 : ¬ p.1 = k := fun z => e (hp.1.symm.trans z)
      have : RKs K F (p :: List.filter (fun kv => decide (kv.1 ≠ k)) l) (q :: List.filter (fun kv => !decide (kv.1 = k)) r) := Paired.cons hp ih
      simpa [List.filter_cons, e, e1] using this
def sPopD : BS := fun ds m P => match ds with
  | [.raw (.ref p), y] => ∃ kvs, m p = some (.dct kvs) ∧ keyR y fun k => ∃ d, valD kvs k = some d ∧ P d (mset m p (.dct (dropD kvs k)))
  | _ => False
def sPopD2 : BS := fun ds m P => match ds with
  | [.raw (.ref p), y, d0] => ∃ kvs, m p = some (.dct kvs) ∧ keyR y fun k => (∀ d, valD kvs k = some d → P d (mset m p (.dct (dropD kvs k)))) ∧ (valD kvs k = none → P d0 m)
  | _ => False
def rPopD : L2.V → List L2.V → Hp → VK → Prop := fun x vs H Q => ∃ a kvs k v, x = .ref a ∧ vs = [kV k] ∧ H a = some (.dK kvs) ∧ valV kvs k = some v ∧ Q v (upd H a (.dK (dropK kvs k)))
def rPopD2 : L2.V → List L2.V → Hp → VK → Prop := fun x vs H Q => ∃ a kvs k z, x = .ref a ∧ vs = [kV k, z] ∧ H a = some (.dK kvs) ∧ (∀ v, valV kvs k = some v → Q v (upd H a (.dK (dropK kvs k)))) ∧ (valV kvs k = none → Q z H)
theorem mt_popD {X : Cx} : MtR X "dict.pop" rPopD := by
  intro pins s σ H x vs v us Q I rx rv h
  obtain ⟨a, kvs, k, w, rfl, rfl, e, l, q⟩ := h
  obtain rfl : v = Value.ref a := rx
  obtain ⟨u, rfl, ru⟩ := rv.one
  exact d_pop I e ru l (.inl rfl) fun w' s3 I3 rw' => ⟨_, _, I3, rw', q⟩
theorem mt_popD2 {X : Cx} : MtR X "dict.pop" rPopD2 := by
  intro pins s σ H x vs v us Q I rx rv h
  obtain ⟨a, kvs, k, z, rfl, rfl, e, q1, q2⟩ := h
  obtain rfl : v = Value.ref a := rx
  obtain ⟨u, w, rfl, ru, rw'⟩ := vals2 rv
  cases l : valV kvs k with
  | none => exact d_popD I e ru l fun s3 I3 => ⟨_, H, I3, rw', q2 l⟩
  | some y => exact d_pop I e ru l (.inr ⟨_, rfl⟩) fun w' s3 I3 rw' => ⟨_, _, I3, rw', q1 y l⟩
theorem bm_popD : BokM K rPopD sPopD := fun d ds m P h x vs H F s r1 rs Q q => by
  unfold sPopD at h
  split at h
  · rename_i e; cases e
    cases r1
    obtain ⟨v, rfl, r2⟩ := rps1 rs
    obtain ⟨kds, e, h⟩ := h
    obtain ⟨kvs, a, b⟩ := s.cells _ _ e
    obtain ⟨k, rfl, d, hd, h⟩ := keyR_use h r2
    obtain ⟨v, e1, rv⟩ := RKs.some b hd
    have g := Go.put s e (c' := .dct (dropD kds k)) ⟨_, upd_same, RKs.drop k b⟩
    exact ⟨_, kvs, k, v, rfl, rfl, a, e1, q _ _ _ _ _ h g (rv.up g.grow _)⟩
  · exact h.elim
theorem bm_popD2 : BokM K rPopD2 sPopD2 := fun d ds m P h x vs H F s r1 rs Q q => by
  unfold sPopD2 at h
  split at h
  · rename_i e; cases e
    cases r1
    obtain ⟨v, w, rfl, r2, r3⟩ := rps2 rs
    obtain ⟨kds, e, h⟩ := h
    obtain ⟨kvs, a, b⟩ := s.cells _ _ e
    obtain ⟨k, rfl, h1, h2⟩ := keyR_use h r2
    have g := Go.put s e (c' := .dct (dropD kds k)) ⟨_, upd_same, RKs.drop k b⟩
    refine ⟨_, kvs, k, w, rfl, rfl, a, fun v hv => ?_, fun hv => ?_⟩
    · rcases RKs.val b k with ⟨e1, e2⟩ | ⟨v', d, e1, e2, rv⟩
      · rw [hv] at e1; cases e1
      · rw [hv] at e1; cases e1
        exact q _ _ _ _ _ (h1 d e2) g (rv.up g.grow _)
    · rcases RKs.val b k with ⟨e1, e2⟩ | ⟨v', d, e1, e2, rv⟩
      · exact q _ _ _ _ _ (h2 e2) (Go.refl s) r3
      · rw [hv] at e1; cases e1
  · exact h.elim
def sClearD : BS := fun ds m P => match ds with
  | [.raw (.ref p)] => ∃ kvs, m p = some (.dct kvs) ∧ P .non (mset m p (.dct []))
  | _ => False
theorem bm_clearD : BokM K rDClear sClearD := fun d ds m P h x vs H F s r1 rs Q q => by
  unfold sClearD at h
  split at h
  · rename_i e; cases e
    cases r1; cases rs
    obtain ⟨kds, e, h⟩ := h
    obtain ⟨kvs, a, b⟩ := s.cells _ _ e
    exact ⟨_, kvs, rfl, rfl, a, q _ _ _ _ _ h (Go.put s e ⟨_, upd_same, .nil⟩) .non⟩
  · exact h.elim
def sSetd : BS := fun ds m P => match ds with
  | [.raw (.ref p), y, d0] => ∃ kvs, m p = some (.dct kvs) ∧ kvs.length < 100000 ∧ keyR y fun k => (∀ d, valD kvs k = some d → P d m) ∧ (valD kvs k = none → P d0 (mset m p (.dct (putD kvs k d0))))
  | _ => False
theorem mt_setd {X : Cx} : MtR X "dict.setdefault" rSetd := by
  intro pins s σ H x vs v us Q I rx rv h
  obtain ⟨a, kvs, k, w, rfl, rfl, e, hl, q1, q2⟩ := h
  obtain rfl : v = Value.ref a := rx
  obtain ⟨u, z, rfl, ru, rz⟩ := vals2 rv
  exact d_setd I e ru rz hl (fun v hv w' s3 I3 rw' => ⟨v, H, I3, rw', q1 v hv⟩) (fun hv w' s3 I3 rw' => ⟨w, _, I3, rw', q2 hv⟩)
theorem bm_setd : BokM K rSetd sSetd := fun d ds m P h x vs H F s r1 rs Q q => by
  unfold sSetd at h
  split at h
  · rename_i e; cases e
    cases r1
    obtain ⟨v, w, rfl, r2, r3⟩ := rps2 rs
    obtain ⟨kds, e, hz, h⟩ := h
    obtain ⟨kvs, a, b⟩ := s.cells _ _ e
    obtain ⟨k, rfl, h1, h2⟩ := keyR_use h r2
    refine ⟨_, kvs, k, w, rfl, rfl, a, by rw [RKs.len b]; exact Nat.lt_trans hz (by decide), fun v hv => ?_, fun hv => ?_⟩
    · rcases RKs.val b k with ⟨e1, e2⟩ | ⟨v', d, e1, e2, rv⟩
      · rw [hv] at e1; cases e1
      · rw [hv] at e1; cases e1
        exact q _ _ _ _ _ (h1 d e2) (Go.refl s) rv
    · rcases RKs.val b k with ⟨e1, e2⟩ | ⟨v', d, e1, e2, rv⟩
      · exact q _ _ _ _ _ (h2 e2) (Go.put s e ⟨_, upd_same, RKs.put b r3⟩) r3
      · rw [hv] at e1; cases e1
  · exact h.elim
end
section
variable {X : Cx} {k : Nat}
theorem k_get1 (hr : Room k X.A) : KOk X "get" (kDc sGet1) := kokD ⟨PySem.F.plainAttrs_dict, PySem.F.slot_dict_get, PySem.F.type_dict_get, mt_get1 (by have := hr.units; omega)⟩ bm_get1
theorem k_get2 (hr : Room k X.A) : KOk X "get" (kDc sGet2) := kokD ⟨PySem.F.plainAttrs_dict, PySem.F.slot_dict_get, PySem.F.type_dict_get, mt_get2 (by have := hr.units; omega)⟩ bm_get2
theorem k_setd : KOk X "setdefault" (kDc sSetd) := kokD ⟨PySem.F.plainAttrs_dict, PySem.F.slot_dict_setdefault, PySem.F.type_dict_setdefault, mt_setd⟩ bm_setd
theorem k_pop : KOk X "pop" (kLD sPopL sPopD) := kokLD ⟨PySem.F.plainAttrs_list, PySem.F.slot_list_pop, PySem.F.type_list_pop, mt_popAt⟩ bm_popAt ⟨PySem.F.plainAttrs_dict, PySem.F.slot_dict_pop, PySem.F.type_dict_pop, mt_popD⟩ bm_popD
theorem k_pop2 : KOk X "pop" (kDc sPopD2) := kokD ⟨PySem.F.plainAttrs_dict, PySem.F.slot_dict_pop, PySem.F.type_dict_pop, mt_popD2⟩ bm_popD2
theorem k_clear : KOk X "clear" (kLD sClearL sClearD) := kokLD ⟨PySem.F.plainAttrs_list, PySem.F.slot_list_clear, PySem.F.type_list_clear, mt_clear⟩ bm_clear ⟨PySem.F.plainAttrs_dict, PySem.F.slot_dict_clear, PySem.F.type_dict_clear, mtd_clear⟩ bm_clearD
end
end Nu

namespace Nu
open PySem PySem.Spec L2
open PyProof.Rows hiding St
/-! ### built-in functions -/
section
variable {K : PySem.W.Frag}
theorem bokN {r : List L2.V → Hp → VK → Prop} {s : BS} (h : ∀ ds m P, s ds m P → ∀ vs H F, Std K m H F → Rps K F vs ds → ∀ Q : VK, (∀ v H' F' d m', P d m' → Go K m H F m' H' F' → Rp K F' v d → Q v H') → r vs H Q) : BokN K r s := h
/-! len -/
def sLen : BS := fun ds m P => match ds with
  | [.str z] => z.length ≤ sizeLine ∧ P (.int (z.length : Nat)) m
  | [.lst xs] => P (.int (xs.length : Nat)) m
  | [.tup xs] => P (.int (xs.length : Nat)) m
  | [.fls xs] => P (.int (xs.length : Nat)) m
  | [.raw (.ref p)] => ∃ c, m p = some c ∧ match c with
    | .lst xs => P (.int (xs.length : Nat)) m
    | .dct kvs => P (.int (kvs.length : Nat)) m
    | .lck _ _ kvs => P (.int (kvs.length : Nat)) m
    | _ => False
  | _ => False
def rLen (K : PySem.W.Frag) : List L2.V → Hp → VK → Prop := fun xs H Q => (∃ x n, xs = [x] ∧ LenV K x H n ∧ Q (.int n) H) ∨ ∃ a kvs, xs = [.ref a] ∧ Rd H a (.dK kvs) ∧ Q (.int (kvs.length : Nat)) H
theorem cr_len {X : Cx} : CallR X (.builtin "len") (rLen X.K) := by
  refine call_len.or ?_
  intro pins s σ H xs us Q I r h
  obtain ⟨a, kvs, rfl, ha, q⟩ := h
  rw [Vals.ref1 r]
  exact d_len I ha fun t s' I' => ⟨.int _, H, I', ⟨_, rfl⟩, q⟩
theorem bok_len : BokN K (rLen K) sLen := fun ds m P h vs H F s rs Q q => by
  unfold sLen at h
  split at h
  · obtain ⟨v, rfl, r⟩ := rps1 rs
    cases r
    exact .inl ⟨_, _, rfl, ⟨h.1, rfl⟩, q _ _ _ _ _ h.2 (Go.refl s) (.int _)⟩
  · obtain ⟨v, rfl, r⟩ := rps1 rs
    cases r with
    | lst a b => exact .inl ⟨_, _, rfl, .inl ⟨_, .inl (.inl (s.at a)), rfl⟩, by rw [b.length]; exact q _ _ _ _ _ h (Go.refl s) (.int _)⟩
  · obtain ⟨v, rfl, r⟩ := rps1 rs
    cases r with
    | tup a b => exact .inl ⟨_, _, rfl, .inr ⟨_, Same.seqT s.toH a, rfl⟩, by rw [b.length]; exact q _ _ _ _ _ h (Go.refl s) (.int _)⟩
  · obtain ⟨v, rfl, r⟩ := rps1 rs
    cases r with
    | fls a b => exact .inl ⟨_, _, rfl, .inl ⟨_, s.toH.seq a, rfl⟩, by rw [b.length]; exact q _ _ _ _ _ h (Go.refl s) (.int _)⟩
  · obtain ⟨v, rfl, r⟩ := rps1 rs
    cases r
    obtain ⟨c, e, h⟩ := h
    cases c with
    | lst xs =>
      obtain ⟨vs, a, b⟩ := s.cells _ _ e
      exact .inl ⟨_, _, rfl, .inl ⟨_, .inl (.inl a), rfl⟩, by rw [b.length]; exact q _ _ _ _ _ h (Go.refl s) (.int _)⟩
    | dct kds =>
      obtain ⟨kvs, a, b⟩ := dct_at s e rfl
      exact .inr ⟨_, kvs, rfl, a, by rw [b.len]; exact q _ _ _ _ _ h (Go.refl s) (.int _)⟩
    | lck lo lv kds =>
      obtain ⟨kvs, a, b⟩ := dct_at s e rfl
      exact .inr ⟨_, kvs, rfl, a, by rw [b.len]; exact q _ _ _ _ _ h (Go.refl s) (.int _)⟩
    | _ => exact h.elim
  · exact h.elim
/-! abs, int, str, divmod -/
def sAbs : BS := fun ds m P => match ds with
  | [.int i] => P (.int (if i < 0 then -i else i)) m
  | _ => False
theorem bok_abs : BokN K (fun xs H Q => ∃ i, xs = [.int i] ∧ Q (.int (if i < 0 then -i else i)) H) sAbs := fun ds m P h vs H F s rs Q q => by
  unfold sAbs at h
  split at h
  · obtain ⟨v, rfl, r⟩ := rps1 rs
    cases r
    exact ⟨_, rfl, q _ _ _ _ _ h (Go.refl s) (.int _)⟩
  · exact h.elim
def sToInt : BS := fun ds m P => match ds with
  | [.int i] => P (.int i) m
  | [.bl k] => P (.int (if k then 1 else 0)) m
  | _ => False
theorem bok_toInt : BokN K (fun xs H Q => (∃ i, xs = [.int i] ∧ Q (.int i) H) ∨ ∃ k, xs = [.bl k] ∧ Q (.int (if k then 1 else 0)) H) sToInt := fun ds m P h vs H F s rs Q q => by
  unfold sToInt at h
  split at h
  · obtain ⟨v, rfl, r⟩ := rps1 rs
    cases r
    exact .inl ⟨_, rfl, q _ _ _ _ _ h (Go.refl s) (.int _)⟩
  · obtain ⟨v, rfl, r⟩ := rps1 rs
    cases r
    exact .inr ⟨_, rfl, q _ _ _ _ _ h (Go.refl s) (.int _)⟩
  · exact h.elim
def sToStr : BS := fun ds m P => match ds with
  | [.int i] => i.natAbs.log2 < 1920 ∧ P (.str (toString i)) m
  | _ => False
theorem bok_toStr : BokN K (fun xs H Q => ∃ i, xs = [.int i] ∧ i.natAbs.log2 < 1920 ∧ Q (.str (toString i)) H) sToStr := fun ds m P h vs H F s rs Q q => by
  unfold sToStr at h
  split at h
  · obtain ⟨v, rfl, r⟩ := rps1 rs
    cases r
    exact ⟨_, rfl, h.1, q _ _ _ _ _ h.2 (Go.refl s) (.str _)⟩
  · exact h.elim
def sDivmod : BS := fun ds m P => match ds with
  | [.int i, .int j] => (0 < j ∧ j < 2 ^ 200) ∧ P (.tup [.int (i / j), .int (i % j)]) m
  | _ => False
theorem bok_divmod : BokN K (fun xs H Q => ∃ i j, xs = [.int i, .int j] ∧ CDivP i j ∧ ∀ p, H p = none → Q (.ref p) (upd H p (.tup [.int (i / j), .int (i % j)]))) sDivmod := fun ds m P h vs H F s rs Q q => by
  unfold sDivmod at h
  split at h
  · obtain ⟨v, w, rfl, r1, r2⟩ := rps2 rs
    cases r1; cases r2
    refine ⟨_, _, rfl, ⟨h.1.1, ?_⟩, newT_q h.2 s (.cons (.int _) (.cons (.int _) .nil)) q⟩
    exact PyProof.noPylong_of_log2 (divW_of (i := 0) h.1).2
  · exact h.elim
/-! min, max of two -/
def sMin2 : BS := fun ds m P => match ds with
  | [.int i, .int j] => P (.int (if j < i then j else i)) m
  | _ => False
def sMax2 : BS := fun ds m P => match ds with
  | [.int i, .int j] => P (.int (if j > i then j else i)) m
  | _ => False
theorem bok_min2 : BokN K (fun xs H Q => ∃ i j, xs = [.int i, .int j] ∧ Q (.int (if j < i then j else i)) H) sMin2 := fun ds m P h vs H F s rs Q q => by
  unfold sMin2 at h
  split at h
  · obtain ⟨v, w, rfl, r1, r2⟩ := rps2 rs
    cases r1; cases r2
    exact ⟨_, _, rfl, q _ _ _ _ _ h (Go.refl s) (.int _)⟩
  · exact h.elim
theorem bok_max2 : BokN K (fun xs H Q => ∃ i j, xs = [.int i, .int j] ∧ Q (.int (if j > i then j else i)) H) sMax2 := fun ds m P h vs H F s rs Q q => by
  unfold sMax2 at h
  split at h
  · obtain ⟨v, w, rfl, r1, r2⟩ := rps2 rs
    cases r1; cases r2
    exact ⟨_, _, rfl, q _ _ _ _ _ h (Go.refl s) (.int _)⟩
  · exact h.elim
end
/-! ### sum, max, min, any, all -/
section
variable {prog : Program} {w : World} {A : Around} {E : Value → Shared → Prop} {s : Shared} {l : Addr} {its : List Value} {ns : List Int} {Q : Value → Shared → Prop} {xs : Array (Int × Tok)}
theorem iter_intTup {Q : Value → Shared → Prop} (hl : s.heap.IsTuple l (intItems xs))
    (h : ∀ s₂ : Shared, s₂ = { s with heap := s.heap.push { cls := .type "tuple_iterator", data := .fields #[.ref l, .int 0 0] } } →
      (s₂.heap.IsTupleIter s.heap.objs.size l 0 ∧ s₂.heap.IsTuple l (intItems xs)) → (∀ b ∈ [s.heap.objs.size, l], b < s₂.heap.objs.size) → l ≠ s.heap.objs.size → Q (.ref s.heap.objs.size) s₂) :
    wpAny (model prog w) A (pyIter (.ref l)) Q E s := by
  have hlt : l < s.heap.objs.size := by obtain ⟨_, e, _⟩ := hl; exact Heap.lt_size e
  refine wpAny_pyIter_tuple hl (h _ rfl ⟨⟨_, Heap.get?_push_size _ rfl, rfl, rfl⟩, hl.push _⟩ (fun b hb => ?_) (Nat.ne_of_lt hlt))
  show b < (s.heap.push _).objs.size
  rw [Heap.size_push]
  rcases List.mem_cons.mp hb with rfl | hb
  · exact Nat.lt_succ_self _
  · rcases List.mem_cons.mp hb with rfl | hb
    · exact Nat.lt_succ_of_lt hlt
    · cases hb
theorem old_keptT {h' : Heap} (hk : ∀ b o, b ∉ [s.heap.objs.size] → (s.heap.push { cls := .type "tuple_iterator", data := .fields #[.ref l, .int 0 0] }).get? b = some o → h'.get? b = some o) :
    ∀ b o, s.heap.get? b = some o → h'.get? b = some o := fun b o e => by
  refine hk b o (fun hm => ?_) (Heap.get?_push_of_some _ e)
  rcases List.mem_cons.mp hm with e1 | hm
  · exact absurd (e1 ▸ Heap.lt_size e) (Nat.lt_irrefl _)
  · cases hm
theorem sum_rawT (hh : A.handled = none) (hl : s.heap.IsTuple l its.toArray) (hi : IntsAre its ns)
    (h : ∀ h' tk t', (∀ b o, s.heap.get? b = some o → h'.get? b = some o) → Q (.int ns.sum t') { s with heap := h', toks := tk }) : wpAny (model prog w) A (call (.builtin "sum") [.ref l]) Q E s := by
  obtain ⟨xs, e⟩ := hi.allInts.items
  have hn : numsOf (intItems xs).toList = ns := by rw [← e]; exact hi.numsOf
  rw [nums_intItems] at hn
  rw [e] at hl
  refine call_sum_walkG (iter_intTup hl fun s₂ e st hfp hlI => ?_)
  subst e
  refine ⟨_, _, _, _, _, _, numAt xs, rfl, Walks.tuple (A := A.in1) hh _ l hlI (intItems xs), st, hfp, (fun _ _ => intItems_at), fun h' tk t' hk => ?_⟩
  have := h h' tk t' (old_keptT hk)
  have e2 : (preSum (numAt xs) (intItems xs).size : Int) = ns.sum := by
    have : (intItems xs).size = xs.size := by simp [intItems]
    rw [this, preSum_eq, List.take_of_length_le (by simp), hn]
  rw [e2]; exact this
theorem max_rawT (hh : A.handled = none) (hl : s.heap.IsTuple l its.toArray) (hi : IntsAre its ns) (hne : 0 < ns.length)
    (h : ∀ h' tk M t', (∀ b o, s.heap.get? b = some o → h'.get? b = some o) → M ∈ ns → (∀ a, a ∈ ns → a ≤ M) → Q (.int M t') { s with heap := h', toks := tk }) : wpAny (model prog w) A (call (.builtin "max") [.ref l]) Q E s := by
  obtain ⟨xs, e⟩ := hi.allInts.items
  have hn : numsOf (intItems xs).toList = ns := by rw [← e]; exact hi.numsOf
  rw [nums_intItems] at hn
  subst hn
  rw [e] at hl
  have hsz : 0 < xs.size := by simpa using hne
  refine call_max_walk (iter_intTup hl fun s₂ e st hfp hlI => ?_)
  subst e
  refine ⟨_, _, _, _, _, _, _, rfl, Walks.tuple (A := A.in1) hh _ l hlI (intItems xs), st, hfp, by simpa [intItems] using hsz, CmpOf.ints_gt (numAt xs) (fun _ _ => intItems_at), fun v h' tk hv hk => ?_⟩
  have hv : (intItems xs)[argBest (fun i j => decide (numAt xs i > numAt xs j)) (xs.size - 1)]? = some v := by simpa [intItems] using hv
  obtain ⟨t, rfl⟩ := intItems_at hv
  obtain ⟨h1, h2⟩ := argBest_gt (numAt xs) (xs.size - 1)
  refine h h' tk _ t (old_keptT hk) ?_ fun a ha => ?_
  · rw [numAt_eq]; exact PySem.getD_mem (by rw [List.length_map, Array.length_toList]; omega)
  · obtain ⟨j, hj, rfl⟩ := mem_getD ha
    rw [List.length_map, Array.length_toList] at hj
    rw [← numAt_eq]; exact h2 j (by omega)
theorem min_rawT (hh : A.handled = none) (hl : s.heap.IsTuple l its.toArray) (hi : IntsAre its ns) (hne : 0 < ns.length)
    (h : ∀ h' tk M t', (∀ b o, s.heap.get? b = some o → h'.get? b = some o) → M ∈ ns → (∀ a, a ∈ ns → M ≤ a) → Q (.int M t') { s with heap := h', toks := tk }) : wpAny (model prog w) A (call (.builtin "min") [.ref l]) Q E s := by
  obtain ⟨xs, e⟩ := hi.allInts.items
  have hn : numsOf (intItems xs).toList = ns := by rw [← e]; exact hi.numsOf
  rw [nums_intItems] at hn
  subst hn
  rw [e] at hl
  have hsz : 0 < xs.size := by simpa using hne
  refine call_min_walk (iter_intTup hl fun s₂ e st hfp hlI => ?_)
  subst e
  refine ⟨_, _, _, _, _, _, _, rfl, Walks.tuple (A := A.in1) hh _ l hlI (intItems xs), st, hfp, by simpa [intItems] using hsz, CmpOf.ints_lt (numAt xs) (fun _ _ => intItems_at), fun v h' tk hv hk => ?_⟩
  have hv : (intItems xs)[argBest (fun i j => decide (numAt xs i < numAt xs j)) (xs.size - 1)]? = some v := by simpa [intItems] using hv
  obtain ⟨t, rfl⟩ := intItems_at hv
  obtain ⟨h1, h2⟩ := argBest_lt (numAt xs) (xs.size - 1)
  refine h h' tk _ t (old_keptT hk) ?_ fun a ha => ?_
  · rw [numAt_eq]; exact PySem.getD_mem (by rw [List.length_map, Array.length_toList]; omega)
  · obtain ⟨j, hj, rfl⟩ := mem_getD ha
    rw [List.length_map, Array.length_toList] at hj
    rw [← numAt_eq]; exact h2 j (by omega)
end
section
variable {K : PySem.W.Frag}
def rSums (K : PySem.W.Frag) : List L2.V → Hp → VK → Prop := fun vs H Q => ∃ (a : Addr) (ns : List Int), vs = [L2.V.ref a] ∧ (SqL K H a (ns.map L2.V.int) ∨ SqT K H a (ns.map L2.V.int)) ∧ Q (.int ns.sum) H
def rMaxs (K : PySem.W.Frag) : List L2.V → Hp → VK → Prop := fun vs H Q => ∃ (a : Addr) (ns : List Int), vs = [L2.V.ref a] ∧ (SqL K H a (ns.map L2.V.int) ∨ SqT K H a (ns.map L2.V.int)) ∧ 0 < ns.length ∧ ∀ m, m ∈ ns → (∀ y, y ∈ ns → y ≤ m) → Q (.int m) H
def rMins (K : PySem.W.Frag) : List L2.V → Hp → VK → Prop := fun vs H Q => ∃ (a : Addr) (ns : List Int), vs = [L2.V.ref a] ∧ (SqL K H a (ns.map L2.V.int) ∨ SqT K H a (ns.map L2.V.int)) ∧ 0 < ns.length ∧ ∀ m, m ∈ ns → (∀ y, y ∈ ns → m ≤ y) → Q (.int m) H
theorem cr_sums {X : Cx} (hc : X.calm = true) : CallR X (.builtin "sum") (rSums X.K) := by
  intro pins s σ H vs us Q I r h
  obtain ⟨a, ns, rfl, hs, q⟩ := h
  rcases hs with hs | hs
  · exact cr_sum hc pins s σ H _ us Q I r ⟨a, ns, rfl, hs, q⟩
  · obtain ⟨its, rv, hl, _⟩ := I.tuple hs
    rw [Vals.ref1 r]
    exact sum_rawT (I.ok.hd hc) hl rv.ints fun h' tk t' hk => ⟨.int _, H, I.kept hk, ⟨_, rfl⟩, q⟩
theorem cr_maxs {X : Cx} (hc : X.calm = true) : CallR X (.builtin "max") (rMaxs X.K) := by
  intro pins s σ H vs us Q I r h
  obtain ⟨a, ns, rfl, hs, hne, q⟩ := h
  rcases hs with hs | hs
  · exact cr_max hc pins s σ H _ us Q I r ⟨a, ns, rfl, hs, hne, q⟩
  · obtain ⟨its, rv, hl, _⟩ := I.tuple hs
    rw [Vals.ref1 r]
    exact max_rawT (I.ok.hd hc) hl rv.ints hne fun h' tk m t' hk h1 h2 => ⟨.int _, H, I.kept hk, ⟨_, rfl⟩, q m h1 h2⟩
theorem cr_mins {X : Cx} (hc : X.calm = true) : CallR X (.builtin "min") (rMins X.K) := by
  intro pins s σ H vs us Q I r h
  obtain ⟨a, ns, rfl, hs, hne, q⟩ := h
  rcases hs with hs | hs
  · exact cr_min hc pins s σ H _ us Q I r ⟨a, ns, rfl, hs, hne, q⟩
  · obtain ⟨its, rv, hl, _⟩ := I.tuple hs
    rw [Vals.ref1 r]
    exact min_rawT (I.ok.hd hc) hl rv.ints hne fun h' tk m t' hk h1 h2 => ⟨.int _, H, I.kept hk, ⟨_, rfl⟩, q m h1 h2⟩
theorem seqLT {H : Hp} {a : Addr} {vs : List L2.V} {tp : Bool} (h : SqA K tp H a vs) : SqL K H a vs ∨ SqT K H a vs := by
  cases tp
  · exact .inl h
  · exact .inr h
def sSum : BS := fun ds m P => match ds with
  | [d] => seqR d m fun xs => ∃ ns : List Int, xs = ns.map .int ∧ P (.int ns.sum) m
  | _ => False
def sMaxL : BS := fun ds m P => match ds with
  | [d] => seqR d m fun xs => ∃ ns : List Int, xs = ns.map .int ∧ 0 < ns.length ∧ ∀ z, z ∈ ns → (∀ y, y ∈ ns → y ≤ z) → P (.int z) m
  | _ => False
def sMinL : BS := fun ds m P => match ds with
  | [d] => seqR d m fun xs => ∃ ns : List Int, xs = ns.map .int ∧ 0 < ns.length ∧ ∀ z, z ∈ ns → (∀ y, y ∈ ns → z ≤ y) → P (.int z) m
  | _ => False
def sAny : BS := fun ds m P => match ds with
  | [d] => lsR d m fun xs => ∃ bs : List Bool, xs = bs.map .bl ∧ P (.bl (bs.any id)) m
  | _ => False
def sAll : BS := fun ds m P => match ds with
  | [d] => lsR d m fun xs => ∃ bs : List Bool, xs = bs.map .bl ∧ P (.bl (bs.all id)) m
  | _ => False
theorem bok_sum : BokN K (rSums K) sSum := fun ds m P h vs H F s rs Q q => by
  unfold sSum at h
  split at h
  · obtain ⟨v, rfl, r⟩ := rps1 rs
    obtain ⟨a, tp, xs, ws, rfl, ⟨ns, rfl, h⟩, h1, h2⟩ := seqR_use h s r
    have e := h2.ints
    subst e
    exact ⟨a, ns, rfl, seqLT h1, q _ _ _ _ _ h (Go.refl s) (.int _)⟩
  · exact h.elim
theorem bok_maxL : BokN K (rMaxs K) sMaxL := fun ds m P h vs H F s rs Q q => by
  unfold sMaxL at h
  split at h
  · obtain ⟨v, rfl, r⟩ := rps1 rs
    obtain ⟨a, tp, xs, ws, rfl, ⟨ns, rfl, hn, h⟩, h1, h2⟩ := seqR_use h s r
    have e := h2.ints
    subst e
    exact ⟨a, ns, rfl, seqLT h1, hn, fun z hz hy => q _ _ _ _ _ (h z hz hy) (Go.refl s) (.int _)⟩
  · exact h.elim
theorem bok_minL : BokN K (rMins K) sMinL := fun ds m P h vs H F s rs Q q => by
  unfold sMinL at h
  split at h
  · obtain ⟨v, rfl, r⟩ := rps1 rs
    obtain ⟨a, tp, xs, ws, rfl, ⟨ns, rfl, hn, h⟩, h1, h2⟩ := seqR_use h s r
    have e := h2.ints
    subst e
    exact ⟨a, ns, rfl, seqLT h1, hn, fun z hz hy => q _ _ _ _ _ (h z hz hy) (Go.refl s) (.int _)⟩
  · exact h.elim
theorem bok_any : BokN K (rAny K) sAny := fun ds m P h vs H F s rs Q q => by
  unfold sAny at h
  split at h
  · obtain ⟨v, rfl, r⟩ := rps1 rs
    obtain ⟨a, xs, ws, rfl, ⟨ns, rfl, h⟩, h1, h2⟩ := lsR_use h s r
    have e := h2.bls
    subst e
    exact ⟨a, ns, rfl, h1, q _ _ _ _ _ h (Go.refl s) (.bl _)⟩
  · exact h.elim
theorem bok_all : BokN K (rAll K) sAll := fun ds m P h vs H F s rs Q q => by
  unfold sAll at h
  split at h
  · obtain ⟨v, rfl, r⟩ := rps1 rs
    obtain ⟨a, xs, ws, rfl, ⟨ns, rfl, h⟩, h1, h2⟩ := lsR_use h s r
    have e := h2.bls
    subst e
    exact ⟨a, ns, rfl, h1, q _ _ _ _ _ h (Go.refl s) (.bl _)⟩
  · exact h.elim
end
end Nu

namespace Nu
open PySem PySem.Spec L2
open PyProof.Rows hiding St
/-! ### tuple, list, dict of a value -/
section
variable {K : PySem.W.Frag}
def sToTup : BS := fun ds m P => match ds with
  | [.tup xs] => P (.tup xs) m
  | [d] => lsR d m fun xs => P (.tup xs) m
  | _ => False
theorem bok_toTup : BokN K (fun xs H Q => ∃ p ys, xs = [L2.V.ref p] ∧ ((SqL K H p ys ∧ ∀ l, H l = none → Q (.ref l) (upd H l (.tup ys))) ∨ (SqT K H p ys ∧ Q (.ref p) H))) sToTup := fun ds m P h vs H F s rs Q q => by
  unfold sToTup at h
  split at h
  · obtain ⟨v, rfl, r⟩ := rps1 rs
    cases r with
    | tup a b => exact ⟨_, _, rfl, .inr ⟨Same.seqT s.toH a, q _ _ _ _ _ h (Go.refl s) (.tup a b)⟩⟩
  · obtain ⟨v, rfl, r⟩ := rps1 rs
    obtain ⟨a, xs, ws, rfl, h, h1, h2⟩ := lsR_use h s r
    exact ⟨a, ws, rfl, .inl ⟨h1, newT_q h s h2 q⟩⟩
  · exact h.elim
def sToLst : BS := fun ds m P => match ds with
  | [.raw (.ref p)] => ∃ c, m p = some c ∧ match c with
    | .lst xs => NewL xs m P
    | .dct kvs => NewL (kvs.map fun kv => kD kv.1) m P
    | .lck _ _ kvs => NewL (kvs.map fun kv => kD kv.1) m P
    | _ => False
  | [d] => seqR d m fun xs => NewL xs m P
  | _ => False
def rToLst (K : PySem.W.Frag) : List L2.V → Hp → VK → Prop := fun xs H Q => (∃ p ys, xs = [L2.V.ref p] ∧ (SqL K H p ys ∨ SqT K H p ys) ∧ ∀ l, H l = none → Q (.ref l) (upd H l (.lst ys))) ∨ ∃ (a : Addr) (kvs : List (Key × L2.V)), xs = [L2.V.ref a] ∧ Rd H a (.dK kvs) ∧ ∀ p, H p = none → Q (.ref p) (upd H p (.lst (kvs.map fun kv => kV kv.1)))
theorem cr_toLst {X : Cx} (hc : X.calm = true) : CallR X (.type "list") (rToLst X.K) := call_list_of.or (call_listD hc)
theorem RKs.kds {F : Hp} {l : List (Key × L2.V)} {r : List (Key × D)} (h : RKs K F l r) : Rps K F (l.map fun kv => kV kv.1) (r.map fun kv => kD kv.1) := by
  induction h with
  | nil => exact .nil
  | @cons p q l r hp t ih =>
    rw [List.map_cons, List.map_cons, hp.1]
    exact .cons (rp_kD _) ih
theorem bok_toLst : BokN K (rToLst K) sToLst := fun ds m P h vs H F s rs Q q => by
  unfold sToLst at h
  split at h
  · obtain ⟨v, rfl, r⟩ := rps1 rs
    cases r
    obtain ⟨c, e, h⟩ := h
    cases c with
    | lst xs =>
      obtain ⟨ws, a, b⟩ := s.cells _ _ e
      exact .inl ⟨_, ws, rfl, .inl (.inl (.inl a)), newL_q h s b q⟩
    | dct kds =>
      obtain ⟨kvs, a, b⟩ := dct_at s e rfl
      exact .inr ⟨_, kvs, rfl, a, newL_q h s b.kds q⟩
    | lck lo lv kds =>
      obtain ⟨kvs, a, b⟩ := dct_at s e rfl
      exact .inr ⟨_, kvs, rfl, a, newL_q h s b.kds q⟩
    | _ => exact h.elim
  · obtain ⟨v, rfl, r⟩ := rps1 rs
    obtain ⟨a, tp, xs, ws, rfl, h, h1, h2⟩ := seqR_use h s r
    exact .inl ⟨a, ws, rfl, seqLT h1, newL_q h s h2 q⟩
  · exact h.elim
/-! dict(pairs), dict(d) -/
def pairK (kv : Key × D) : D := .tup [kD kv.1, kv.2]
theorem pairs_split {F H : Hp} (hs : Same F H) : ∀ {vs : List L2.V} (kds : List (Key × D)), Rps K F vs (kds.map pairK) → ∃ (ps : List Addr) (kvs : List (Key × L2.V)), vs = ps.map L2.V.ref ∧ Paired (fun p (kv : Key × L2.V) => SqT K H p [kV kv.1, kv.2]) ps kvs ∧ RKs K F kvs kds
  | _, [], h => by cases h; exact ⟨[], [], rfl, .nil, .nil⟩
  | _, kd :: kds, h => by
    cases h with
    | cons h1 h2 =>
      obtain ⟨ps, kvs, rfl, hp, hk⟩ := pairs_split hs kds h2
      cases h1 with
      | @tup a xs _ e1 e2 =>
        cases e2 with
        | cons a1 a2 =>
          cases a2 with
          | cons b1 b2 =>
            cases b2
            have ek := rp_key a1
            subst ek
            exact ⟨a :: ps, (kd.1, _) :: kvs, rfl, .cons (Same.seqT hs e1) hp, .cons ⟨rfl, b1⟩ hk⟩
def newD (kds : List (Key × D)) (m : MS) (P : NX) : Prop := ∀ p, m p = none → P (.raw (.ref p)) (mset m p (.dct kds))
def sToDct : BS := fun ds m P => match ds with
  | [.raw (.ref p)] => ∃ c, m p = some c ∧ match c with
    | .lst xs => ∃ kds : List (Key × D), xs = kds.map pairK ∧ newD (mergeD [] kds) m P
    | .dct kvs => newD kvs m P
    | .lck _ _ kvs => newD kvs m P
    | _ => False
  | [d] => lsR d m fun xs => ∃ kds : List (Key × D), xs = kds.map pairK ∧ newD (mergeD [] kds) m P
  | _ => False
def rToDct (K : PySem.W.Frag) : List L2.V → Hp → VK → Prop := fun xs H Q => (∃ (a : Addr) (ps : List Addr) (kvs : List (Key × L2.V)), xs = [L2.V.ref a] ∧ SqL K H a (ps.map L2.V.ref) ∧ Paired (fun p kv => SqT K H p [kV kv.1, kv.2]) ps kvs ∧ ∀ p, H p = none → Q (.ref p) (upd H p (.dK (mergeK [] kvs)))) ∨
  ∃ (a : Addr) (kvs : List (Key × L2.V)), xs = [L2.V.ref a] ∧ Rd H a (.dK kvs) ∧ ∀ p, H p = none → Q (.ref p) (upd H p (.dK kvs))
theorem cr_toDct {X : Cx} (hc : X.calm = true) : CallR X (.type "dict") (rToDct X.K) := (call_dictP hc).or call_dictD
theorem newD_q {m : MS} {H F : Hp} {P : NX} {Q : VK} {kds : List (Key × D)} {kvs : List (Key × L2.V)} (n : newD kds m P) (s : Std K m H F) (r : RKs K F kvs kds) (q : ∀ v H' F' d m', P d m' → Go K m H F m' H' F' → Rp K F' v d → Q v H') : ∀ p, H p = none → Q (.ref p) (upd H p (.dK kvs)) := fun p hp =>
  q _ _ _ _ _ (n p (s.free hp)) (Go.cell s hp ⟨kvs, upd_same, r⟩) (.raw _)
theorem bok_toDct : BokN K (rToDct K) sToDct := fun ds m P h vs H F s rs Q q => by
  unfold sToDct at h
  split at h
  · obtain ⟨v, rfl, r⟩ := rps1 rs
    cases r
    obtain ⟨c, e, h⟩ := h
    cases c with
    | lst xs =>
      obtain ⟨ws, a, b⟩ := s.cells _ _ e
      obtain ⟨kds, rfl, h⟩ := h
      obtain ⟨ps, kvs, rfl, hp, hk⟩ := pairs_split s.toH kds b
      exact .inl ⟨_, ps, kvs, rfl, .inl (.inl a), hp, newD_q h s (RKs.merge .nil hk) q⟩
    | dct kds =>
      obtain ⟨kvs, a, b⟩ := dct_at s e rfl
      exact .inr ⟨_, kvs, rfl, a, newD_q h s b q⟩
    | lck lo lv kds =>
      obtain ⟨kvs, a, b⟩ := dct_at s e rfl
      exact .inr ⟨_, kvs, rfl, a, newD_q h s b q⟩
    | _ => exact h.elim
  · obtain ⟨v, rfl, r⟩ := rps1 rs
    obtain ⟨a, xs, ws, rfl, ⟨kds, rfl, h⟩, h1, h2⟩ := lsR_use h s r
    obtain ⟨ps, kvs, rfl, hp, hk⟩ := pairs_split s.toH kds h2
    exact .inl ⟨_, ps, kvs, rfl, h1, hp, newD_q h s (RKs.merge .nil hk) q⟩
  · exact h.elim
end
/-! ### texts put in order, of any number -/
section
variable {X : Cx}
def rSortedSA (K : PySem.W.Frag) : List L2.V → Hp → VK → Prop := fun vs H Q => ∃ (a : Addr) (xs : List Str), vs = [L2.V.ref a] ∧ SqL K H a (xs.map L2.V.str) ∧
  ∀ (ys : List Str) (p : Addr), ys.Perm xs → sortedS ys = true → H p = none → Q (.ref p) (upd H p (.lst (ys.map L2.V.str)))
theorem cr_sortedSA : CallR X (.builtin "sorted") (rSortedSA X.K) := fun pins s σ H vs us Q I r h => by
  obtain ⟨l, xs, rfl, q1, q⟩ := h
  obtain ⟨its, rr, li, hz⟩ := I.list q1
  rw [Vals.ref1 r]
  have n1 : xs.length = its.length := by have := rr.length; rwa [List.length_map] at this
  have nz : its.length ≤ sizeLine := by rw [List.length_map, n1] at hz; exact hz
  refine PyProof.Rows.sorted_strsAny li.isList rr.strs nz fun o zs b1 b2 b3 => ?_
  obtain ⟨e1, e2⟩ := PyProof.Rows.sortedAll_at s.heap its o
  have small : (zs.map L2.V.str).length ≤ sizeLine := by rw [List.length_map, b2.length_eq, n1]; exact nz
  exact ⟨.ref _, upd H (s.heap.objs.size + 1) (.lst (zs.map L2.V.str)), I.laid (t' := s.toks) (fun _ _ => PyProof.Rows.sortedAll_old) (Nat.le_succ _) ⟨small, o.toList, e1, vals_of_strs b1, e2⟩, rfl, q zs _ b2 b3 (I.hok.fresh (Nat.le_succ _))⟩
theorem strs_keys : ∀ {us : List Value} {ks : List Str}, us.length = ks.length → (∀ (i : Nat) (u : Value), us[i]? = some u → ∃ y t, ks[i]? = some y ∧ u = .str y t) → PyProof.Rows.StrsAre us ks
  | [], [], _, _ => .nil
  | u :: us, y :: ks, n, g => by
    obtain ⟨y', t, e1, e2⟩ := g 0 u rfl
    cases e1
    subst e2
    refine .cons y t (strs_keys (by simpa using n) fun i v e => ?_)
    obtain ⟨y2, t2, a, b⟩ := g (i + 1) v (by simpa using e)
    exact ⟨y2, t2, by simpa using a, b⟩
  | [], _ :: _, n, _ => by simp at n
  | _ :: _, [], n, _ => by simp at n
def rSrtSA (K : PySem.W.Frag) : List L2.V → Hp → VK → Prop := fun xs H Q => ∃ (a : Addr) (kvs : List (Key × L2.V)) (ks : List Str), xs = [L2.V.ref a] ∧ Rd H a (.dK kvs) ∧ kvs.map (·.1) = ks.map Sum.inr ∧
    ∀ ys p, ys.Perm ks → sortedS ys = true → H p = none → Q (.ref p) (upd H p (.lst (ys.map L2.V.str)))
theorem call_srtSA (hcm : X.calm = true) : CallR X (.builtin "sorted") (rSrtSA X.K) := fun pins s σ H xs us Q I r q => by
  obtain ⟨d, kvs, ks, rfl, hd, hks, q⟩ := q
  obtain ⟨u, rfl, rx⟩ := vals1 r
  cases rx
  obtain ⟨z0, lo, vs, rel, dd⟩ := dk_rd I.hok hd
  obtain ⟨ep, hat⟩ := dd.dictAt
  have kk : vs.map (·.1) = ks.map Sum.inr := rel.keys.symm.trans hks
  have nn : vs.length = ks.length := by simpa using congrArg List.length kk
  have nz : vs.length ≤ sizeLine := by
    have := congrArg List.length rel.keys
    rw [List.length_map, List.length_map] at this
    omega
  refine Calls.call_function_entry PyProof.Rows.kind_sorted PyProof.Rows.plain_sorted PyProof.Rows.entry_sorted (PyProof.Rows.args_sorted1 _) ?_
  unfold Builtin.«sorted»
  refine wpAny_bind (m := checkCount "sorted" 1 1 _) (wpAny_pure ?_)
  refine wpAny_bind (PySem.W.kdu_collect (PySem.W.kdl_dict (kvs := vs) (ep := ep) lo) (I.ok.hd hcm) hat nz fun g tk acc keep items => ?_)
  have na : acc.toList.length = ks.length := by rw [Array.length_toList, items.1, nn]
  have sa : PyProof.Rows.StrsAre acc.toList ks := strs_keys na fun i v e => by
    rw [Array.getElem?_toList] at e
    obtain ⟨k, x, c1, c2⟩ := items.2 i v e
    have c3 : (ks.map (Sum.inr : Str → Key))[i]? = some k := by rw [← kk, List.getElem?_map, c1]; rfl
    rw [List.getElem?_map] at c3
    obtain ⟨y, c4, c5⟩ := Option.map_eq_some_iff.mp c3
    subst c5
    obtain ⟨t, c6⟩ := Value.isStrOf_shape (x := y) (v := v) c2
    exact ⟨y, t, c4, c6⟩
  have J : Inv X pins σ H { s with heap := g, toks := tk } := I.kept keep
  have nz2 : acc.toList.length ≤ sizeLine := by rw [na, ← nn]; exact nz
  refine wpAny_bind (wpAny_newList ?_ nz2)
  have at0 : (g.push (seqObj "list" acc.toList.toArray 0)).get? g.objs.size = some (seqObj "list" acc.toList.toArray 0) := Heap.get?_push_size _ rfl
  show wpAny _ _ _ _ _ { s with heap := g.push (seqObj "list" acc.toList.toArray 0), toks := tk }
  refine wpAny_bind (wpAny_holding (wpAny_call_entry PyProof.Rows.slot_list_sort ⟨_, at0, rfl⟩ PyProof.Rows.entry_list_sort (PyProof.Rows.list_sort_treeKAny strKind_oneLt (s := { s with heap := g.push (seqObj "list" acc.toList.toArray 0), toks := tk }) at0 sa.keysOf (fun v₁ v₂ rest e => keyKind_strs (by rw [← e]; exact sa)) nz2 fun st pm so => ⟨_, rfl, ?_⟩) (PyProof.Rows.args_list_sort _)))
  obtain ⟨ys, d1, d2, d3⟩ := sorted_out_str sa pm so
  obtain ⟨e2, at2⟩ := PyProof.Rows.sortedHeap_at (vs := acc.toList) (out := (arrOf st).map (·.2)) at0
  have ny : (ys.map L2.V.str).length ≤ sizeLine := by rw [List.length_map, d2.length_eq, ← nn]; exact nz
  have ob : ObjOk X.prog X.w (upd H g.objs.size (.lst (ys.map L2.V.str))) (sortedHeap (g.push (seqObj "list" acc.toList.toArray 0)) g.objs.size acc.toList ((arrOf st).map (·.2))) g.objs.size (.lst (ys.map L2.V.str)) := ⟨ny, ((arrOf st).map (·.2)).toList, e2, vals_of_strs d1, by rw [Array.toArray_toList]; exact at2⟩
  refine wpAny_pure ⟨_, rfl, .ref g.objs.size, upd H g.objs.size (.lst (ys.map L2.V.str)), J.laid (t' := tk) (fun b o e => ?_) (Nat.le_refl _) ob, rfl, q ys _ d2 d3 (J.hok.fresh (Nat.le_refl _))⟩
  have lt : b < g.objs.size := Heap.lt_size e
  rw [PyProof.Rows.sortedHeap_old (Nat.ne_of_lt lt) (by rw [size_push']; exact Nat.lt_succ_of_lt lt)]
  exact Heap.get?_push_of_some _ e
end
/-! ### sorted -/
section
theorem each_of_vals {R : Value → L2.V × PyData → Prop} : ∀ {bs : List (L2.V × PyData)} {its : List Value}, Vals (bs.map (·.1)) its → (∀ b ∈ bs, ∀ v, RelV b.1 v → R v b) → PySem.W.EachIs R its bs
  | [], _, h, _ => by cases h; exact .nil
  | b :: bs, _, h, k => by
    cases h with
    | cons h1 h2 => exact .cons (k b (by simp) _ h1) (each_of_vals h2 fun b hb => k b (by simp [hb]))
theorem vals_of_each : ∀ {bs : List (L2.V × PyData)} {its : List Value}, PySem.W.EachIs (fun v (b : L2.V × PyData) => RelV b.1 v) its bs → Vals (bs.map (·.1)) its
  | [], _, h => by cases h; exact .nil
  | b :: bs, _, h => by
    cases h with
    | cons h1 h2 => exact .cons h1 (vals_of_each h2)
def rSortedDt (K : PySem.W.Frag) : List L2.V → Hp → VK → Prop := fun vs H Q => ∃ (a : Addr) (bs : List (L2.V × PyData)), vs = [.ref a] ∧ SqL K H a (bs.map (·.1)) ∧ (∀ b ∈ bs, Dp K H b.1 b.2) ∧ PySem.W.AllAlike (bs.map (·.2)) ∧ PySem.W.Sortable (bs.map (·.2)) ∧ (∀ b ∈ bs, b.2.depth ≤ 40) ∧
  ∀ p, H p = none → Q (.ref p) (upd H p (.lst ((bs.mergeSort (PySem.W.dataLe false (·.2))).map (·.1))))
theorem cr_sortedDt {X : Cx} (hu : X.A.units + 64 < cLine) : CallR X (.builtin "sorted") (rSortedDt X.K) := by
  intro pins s σ H vs us Q I r h
  obtain ⟨a, bs, rfl, hs, hd, hal, hk, hdep, q⟩ := h
  obtain ⟨its, rv, hl, hz⟩ := I.list hs
  rw [Vals.ref1 r]
  have hlen : its.length = bs.length := by have := rv.length; rw [List.length_map] at this; exact this.symm
  rw [List.length_map] at hz
  refine PySem.W.sorted_data (R := fun v b => RelV b.1 v) (enc := (·.2)) hl.isList (each_of_vals rv fun b hb v h => h) (each_of_vals rv fun b hb v h => Dp.reads I _ _ _ (hd b hb) h) hal hk hz (fun b hb => ?_) fun out hlo eo => ?_
  · have := hdep b hb
    omega
  · obtain ⟨ep, he'⟩ := PyProof.Rows.sortedAll_at s.heap its out.toArray
    have hlen : ((bs.mergeSort (PySem.W.dataLe false (·.2))).map (·.1)).length ≤ sizeLine := by rw [List.length_map, List.length_mergeSort]; exact hz
    exact ⟨.ref _, upd H (s.heap.objs.size + 1) (.lst ((bs.mergeSort (PySem.W.dataLe false (·.2))).map (·.1))), I.laid (t' := s.toks) (fun _ _ => PyProof.Rows.sortedAll_old) (Nat.le_succ _) ⟨hlen, out, ep, vals_of_each eo, he'⟩, rfl, q _ (I.hok.fresh (Nat.le_succ _))⟩
variable {K : PySem.W.Frag}
def leD (d e : D) : Bool := PySem.W.dataLe false toPy d e
theorem Rps.permBy {F : Hp} : ∀ (L : List (L2.V × D)), (∀ p ∈ L, Rp K F p.1 p.2) → Rps K F (L.map (·.1)) (L.map (·.2))
  | [], _ => .nil
  | p :: L, h => .cons (h p (by simp)) (Rps.permBy L fun q hq => h q (by simp [hq]))
theorem Rps.zipMem {F : Hp} : ∀ {vs : List L2.V} (ds : List D), Rps K F vs ds → (∀ p ∈ vs.zip ds, Rp K F p.1 p.2) ∧ (vs.zip ds).map (·.1) = vs ∧ (vs.zip ds).map (·.2) = ds
  | _, [], h => by cases h; exact ⟨by simp, rfl, rfl⟩
  | _, d :: ds, h => by
    cases h with
    | @cons v vs _ _ h1 h2 =>
      obtain ⟨a, b, c⟩ := Rps.zipMem ds h2
      refine ⟨fun p hp => ?_, by rw [List.zip_cons_cons, List.map_cons, b], by rw [List.zip_cons_cons, List.map_cons, c]⟩
      rcases List.mem_cons.mp hp with rfl | hp
      · exact h1
      · exact a p hp
theorem plDs_mem : ∀ {n : Nat} {ds : List D}, plDs n ds = true → ∀ d ∈ ds, plD n d = true
  | _, [], _, _, h => by cases h
  | n, d :: ds, hp, e, he => by
    unfold plDs at hp
    obtain ⟨h1, h2⟩ := Bool.and_eq_true_iff.mp hp
    rcases List.mem_cons.mp he with rfl | he
    · exact h1
    · exact plDs_mem h2 e he
def rSrtID : List L2.V → Hp → VK → Prop := fun xs H Q => ∃ (a : Addr) (kvs : List (Key × L2.V)) (ks : List Int), xs = [L2.V.ref a] ∧ Rd H a (.dK kvs) ∧ kvs.map (·.1) = ks.map Sum.inl ∧ ks.length < 64 ∧
    ∀ (ys : List Int) (p : Addr), ys.Perm ks → ys.Pairwise (· ≤ ·) → H p = none → Q (.ref p) (upd H p (.lst (ys.map L2.V.int)))
def rSrt (K : PySem.W.Frag) : List L2.V → Hp → VK → Prop := fun xs H Q => rSortedI K xs H Q ∨ rSortedDt K xs H Q ∨ rSrtSA K xs H Q ∨ rSrtID xs H Q ∨ rSortedSA K xs H Q
theorem cr_srt {X : Cx} {k : Nat} (hr : Room k X.A) (hc : X.calm = true) : CallR X (.builtin "sorted") (rSrt X.K) := cr_sortedI.or ((cr_sortedDt hr.units).or ((call_srtSA hc).or ((call_sortedDI hc).or cr_sortedSA)))
/-- a list put in order -/
def srtL (xs : List D) (m : MS) (P : NX) : Prop := (∃ ns : List Int, xs = ns.map .int ∧ ∀ ks : List Int, ks.Perm ns → ks.Pairwise (· ≤ ·) → NewL (ks.map .int) m P) ∨ ((plDs 40 xs = true ∧ PySem.W.AllAlike (xs.map toPy) ∧ PySem.W.Sortable (xs.map toPy)) ∧ NewL (xs.mergeSort leD) m P) ∨
  ∃ ks : List Str, xs = ks.map .str ∧ ∀ ys : List Str, ys.Perm ks → sortedS ys = true → NewL (ys.map .str) m P
def srtK (kvs : List (Key × D)) (m : MS) (P : NX) : Prop := (∃ ks : List Str, kvs.map (·.1) = ks.map Sum.inr ∧ ∀ ys : List Str, ys.Perm ks → sortedS ys = true → NewL (ys.map .str) m P) ∨
  ∃ ks : List Int, kvs.map (·.1) = ks.map Sum.inl ∧ ks.length < 64 ∧ ∀ ys : List Int, ys.Perm ks → ys.Pairwise (· ≤ ·) → NewL (ys.map .int) m P
def sSorted : BS := fun ds m P => match ds with
  | [.raw (.ref p)] => ∃ c, m p = some c ∧ match c with
    | .lst xs => srtL xs m P
    | .dct kvs => srtK kvs m P
    | .lck _ _ kvs => srtK kvs m P
    | _ => False
  | [d] => lsR d m fun xs => srtL xs m P
  | _ => False
theorem srtL_q {m : MS} {H F : Hp} {P : NX} {Q : VK} {xs : List D} {vs : List L2.V} {a : Addr} (h : srtL xs m P) (s : Std K m H F) (h1 : SqL K H a vs) (h2 : Rps K F vs xs) (q : ∀ v H' F' d m', P d m' → Go K m H F m' H' F' → Rp K F' v d → Q v H') : rSrt K [.ref a] H Q := by
  rcases h with ⟨ns, rfl, h⟩ | ⟨⟨hp, hal, hk⟩, h⟩ | ⟨ks, rfl, h⟩
  · have e := h2.ints
    subst e
    exact .inl ⟨a, ns, rfl, h1, fun ks p h3 h4 h5 => newL_q (h ks h3 h4) s (.of_ints _) q p h5⟩
  · obtain ⟨z1, z2, z3⟩ := Rps.zipMem xs h2
    let g : L2.V × D → L2.V × PyData := fun p => (p.1, toPy p.2)
    have e0 : ((vs.zip xs).map g).map (·.2) = xs.map toPy := by
      rw [List.map_map]
      conv => rhs; rw [← z3, List.map_map]
      rfl
    refine .inr (.inl ⟨a, (vs.zip xs).map g, rfl, ?_, fun b hb => ?_, by rw [e0]; exact hal, by rw [e0]; exact hk, fun b hb => ?_, fun p hp0 => ?_⟩)
    · rw [List.map_map]; rw [← z2] at h1; exact h1
    · obtain ⟨p, hp1, rfl⟩ := List.mem_map.mp hb
      have hd : p.2 ∈ xs := by rw [← z3]; exact List.mem_map.mpr ⟨p, hp1, rfl⟩
      exact See.dp s 40 _ (See.refl 40 _ (plDs_mem hp _ hd)) (plDs_mem hp _ hd) (z1 p hp1)
    · obtain ⟨p, hp1, rfl⟩ := List.mem_map.mp hb
      have hd : p.2 ∈ xs := by rw [← z3]; exact List.mem_map.mpr ⟨p, hp1, rfl⟩
      exact (canLay_of 40 _ (plDs_mem hp _ hd)).2
    · have e1 : ((vs.zip xs).map g).mergeSort (PySem.W.dataLe false (·.2)) = ((vs.zip xs).mergeSort fun p q => leD p.2 q.2).map g := (List.map_mergeSort (r := fun p q : L2.V × D => leD p.2 q.2) (s := PySem.W.dataLe false (·.2)) (f := g) (fun a _ b _ => rfl)).symm
      have e2 : ((vs.zip xs).mergeSort fun p q => leD p.2 q.2).map (·.2) = xs.mergeSort leD := by
        rw [List.map_mergeSort (s := leD) (fun a _ b _ => rfl), z3]
      rw [e1, List.map_map, show ((fun (x : L2.V × PyData) => x.1) ∘ g) = (fun (p : L2.V × D) => p.1) from rfl]
      refine newL_q h s ?_ q p hp0
      rw [← e2]
      exact Rps.permBy _ fun p hp1 => z1 p ((List.mergeSort_perm _ _).mem_iff.mp hp1)
  · have e := h2.strs
    subst e
    exact .inr (.inr (.inr (.inr ⟨a, ks, rfl, h1, fun ys p h3 h4 h5 => newL_q (h ys h3 h4) s (.of_strs _) q p h5⟩)))
theorem srtK_q {m : MS} {H F : Hp} {P : NX} {Q : VK} {kds : List (Key × D)} {kvs : List (Key × L2.V)} {a : Addr} (h : srtK kds m P) (s : Std K m H F) (h1 : Rd H a (.dK kvs)) (h2 : RKs K F kvs kds) (q : ∀ v H' F' d m', P d m' → Go K m H F m' H' F' → Rp K F' v d → Q v H') : rSrt K [.ref a] H Q := by
  rcases h with ⟨ks, hk, h⟩ | ⟨ks, hk, hz, h⟩
  · exact .inr (.inr (.inl ⟨a, kvs, ks, rfl, h1, by rw [h2.keys]; exact hk, fun ys p a1 a2 a3 => newL_q (h ys a1 a2) s (.of_strs _) q p a3⟩))
  · exact .inr (.inr (.inr (.inl ⟨a, kvs, ks, rfl, h1, by rw [h2.keys]; exact hk, hz, fun ys p a1 a2 a3 => newL_q (h ys a1 a2) s (.of_ints _) q p a3⟩)))
theorem bok_sorted : BokN K (rSrt K) sSorted := fun ds m P h vs H F s rs Q q => by
  unfold sSorted at h
  split at h
  · obtain ⟨v, rfl, r⟩ := rps1 rs
    cases r
    obtain ⟨c, e, h⟩ := h
    cases c with
    | lst xs =>
      obtain ⟨ws, a, b⟩ := s.cells _ _ e
      exact srtL_q h s (.inl (.inl a)) b q
    | dct kds =>
      obtain ⟨kvs, a, b⟩ := dct_at s e rfl
      exact srtK_q h s a b q
    | lck lo lv kds =>
      obtain ⟨kvs, a, b⟩ := dct_at s e rfl
      exact srtK_q h s a b q
    | _ => exact h.elim
  · obtain ⟨v, rfl, r⟩ := rps1 rs
    obtain ⟨a, xs, ws, rfl, h, h1, h2⟩ := lsR_use h s r
    exact srtL_q h s h1 h2 q
  · exact h.elim
end
/-! ### isinstance of built-in types -/
inductive Ty where
  | int | str | bool | list | tuple
  deriving DecidableEq
def Ty.s : Ty → String
  | .int => "int" | .str => "str" | .bool => "bool" | .list => "list" | .tuple => "tuple"
def Ty.n : Ty → Str
  | .int => "int" | .str => "str" | .bool => "bool" | .list => "list" | .tuple => "tuple"
inductive Kd where
  | non | bl | int | str | lst | tup | dct
def Kd.s : Kd → String
  | .non => "NoneType" | .bl => "bool" | .int => "int" | .str => "str" | .lst => "list" | .tup => "tuple" | .dct => "dict"
def Kd.is : Kd → Ty → Bool
  | .bl, .bool => true | .bl, .int => true | .int, .int => true | .str, .str => true | .lst, .list => true | .tup, .tuple => true
  | _, _ => false
theorem kd_kit (k : Kd) (t : Ty) : kitB k.s t.s = some (k.is t) := by
  cases k <;> cases t <;> decide +kernel
def kdR (d : D) (m : MS) (R : Kd → Prop) : Prop := match d with
  | .non => R .non
  | .bl _ => R .bl
  | .int _ => R .int
  | .str _ => R .str
  | .lst _ => R .lst
  | .tup _ => R .tup
  | .raw (.ref p) => ∃ c, m p = some c ∧ match c with
    | .lst _ => R .lst
    | .dct _ => R .dct
    | .lck _ _ _ => R .dct
    | _ => False
  | _ => False
theorem kdR_use {K : PySem.W.Frag} {m : MS} {H F : Hp} {d : D} {v : L2.V} {R : Kd → Prop} (h : kdR d m R) (s : Std K m H F) (r : Rp K F v d) : ∃ k, R k ∧ TyX K H v (.type k.s) := by
  cases d with
  | non => cases r; exact ⟨_, h, .base .non⟩
  | bl b => cases r; exact ⟨_, h, .base (.bl b)⟩
  | int i => cases r; exact ⟨_, h, .base (.int i)⟩
  | str i => cases r; exact ⟨_, h, .base (.str i)⟩
  | lst xs =>
    cases r with
    | lst a b => exact ⟨_, h, .base (.lst (s.at a))⟩
  | tup xs =>
    cases r with
    | tup h1 _ =>
      rcases h1 with (h1 | ⟨o, h1⟩) | ⟨o, its, n, h1, h3, _⟩
      · exact ⟨_, h, .base (.tup (s.at h1))⟩
      · exact ⟨_, h, .fTuple (s.at h1)⟩
      · exact ⟨_, h, .kTuple h1 h3⟩
  | raw w =>
    cases w with
    | ref p =>
      cases r
      obtain ⟨c, e, h⟩ := h
      cases c with
      | lst xs =>
        obtain ⟨ws, a, b⟩ := s.cells _ _ e
        exact ⟨_, h, .base (.lst a)⟩
      | dct kds =>
        obtain ⟨ws, a, b⟩ := s.cells _ _ e
        exact ⟨_, h, .base (.dK a)⟩
      | lck lo lv kds =>
        obtain ⟨a, b⟩ := s.cells _ _ e
        exact ⟨_, h, .fDict a⟩
      | _ => exact h.elim
    | _ => exact h.elim
  | _ => exact h.elim
def sIsi (t : Ty) : BS := fun ds m P => match ds with
  | [d] => kdR d m fun k => P (.bl (k.is t)) m
  | _ => False
def sIsi2 (t1 t2 : Ty) : BS := fun ds m P => match ds with
  | [d] => kdR d m fun k => P (.bl (k.is t1 || k.is t2)) m
  | _ => False
section
variable {X : Cx} {a : Expr} {ta : T} {pos p p2 p3 tpos : Pos} {k2 : Nat}
theorem pe_tyN {x : Str} {T : String} (hm : X.mg x = none) (hv : bootBuiltins x = some (.type T) := by decide +kernel) (hg : Gl X x := by rfl) (hn : x ≠ "__name__" := by decide) (hd : (x == ("__debug__" : Str)) = false := by decide) : PE X (.Name x pos) (tC (.ty T)) := pe_bltn hg hm hv rfl hn hd
theorem ty_boot (t : Ty) : bootBuiltins t.n = some (.type t.s) := by cases t <;> decide +kernel
theorem ty_name (t : Ty) : t.n ≠ "__name__" := by cases t <;> decide
theorem ty_dbg (t : Ty) : (t.n == ("__debug__" : Str)) = false := by cases t <;> decide
theorem se_isi (t : Ty) {x : Str} (hm : X.mg "isinstance" = none) (hm2 : X.mg x = none) (ha : SE X a ta) (hx : x = t.n := by rfl) (hg : Gl X "isinstance" := by rfl) (hg2 : Gl X x := by rfl)
    (he : starEach [a, .Name x p2] X.env = (false, eval a X.env) :: starEach [.Name x p2] X.env := by rfl) (he2 : starEach [.Name x p2] X.env = (false, eval (.Name x p2) X.env) :: starEach [] X.env := by rfl) (hpl : (backTo pos (starEach [.Name x p2] X.env)).any (·.1) = false := by rfl) :
    SE X (.Call (.Name "isinstance" p) [a, .Name x p2] [] pos) (.bop (sIsi t) (.cons ta .nil)) := ⟨fun ρ m P Z pp => ⟨fun F0 σ H F S Q V tk q kx => by
  have h1 : PE X (.Name x p2) (tC (.ty t.s)) := pe_tyN hm2 (by rw [hx]; exact ty_boot t) hg2 (by rw [hx]; exact ty_name t) (by rw [hx]; exact ty_dbg t)
  refine wE_of (pe_callB call_isi hg hm (by decide +kernel) (pa_cons pe_w (pa_cons h1 pa_nil he2) he) (by decide) (by decide) he hpl) ?_
  refine (ha.go ρ m _ Z pp).run F0 σ H F S _ V tk (fun v H1 F1 d m1 p1 g1 r1 => ?_) kx
  obtain ⟨k, p2, ty⟩ := kdR_use (R := fun k => P (.bl (k.is t)) m1) p1 g1.std r1
  exact ⟨v, .ty t.s, _, _, _, rfl, .ty t.s, ty, kit_ty (kd_kit k t), q _ _ _ _ _ p2 g1 (.bl _)⟩⟩⟩
theorem se_isi2 (t1 t2 : Ty) {x y : Str} (hm : X.mg "isinstance" = none) (hm1 : X.mg x = none) (hm2 : X.mg y = none) (ha : SE X a ta) (hx : x = t1.n := by rfl) (hy : y = t2.n := by rfl) (hg : Gl X "isinstance" := by rfl) (hg1 : Gl X x := by rfl) (hg2 : Gl X y := by rfl)
    (he : starEach [a, .Tuple [.Name x p2, .Name y p3] k2 tpos] X.env = (false, eval a X.env) :: starEach [.Tuple [.Name x p2, .Name y p3] k2 tpos] X.env := by rfl) (he2 : starEach [.Tuple [.Name x p2, .Name y p3] k2 tpos] X.env = (false, eval (.Tuple [.Name x p2, .Name y p3] k2 tpos) X.env) :: starEach [] X.env := by rfl) (hpl : (backTo pos (starEach [.Tuple [.Name x p2, .Name y p3] k2 tpos] X.env)).any (·.1) = false := by rfl)
    (he3 : starEach [.Name x p2, .Name y p3] X.env = (false, eval (.Name x p2) X.env) :: starEach [.Name y p3] X.env := by rfl) (he4 : starEach [.Name y p3] X.env = (false, eval (.Name y p3) X.env) :: starEach [] X.env := by rfl) :
    SE X (.Call (.Name "isinstance" p) [a, .Tuple [.Name x p2, .Name y p3] k2 tpos] [] pos) (.bop (sIsi2 t1 t2) (.cons ta .nil)) := ⟨fun ρ m P Z pp => ⟨fun F0 σ H F S Q V tk q kx => by
  have h1 : PE X (.Name x p2) (tC (.ty t1.s)) := pe_tyN hm1 (by rw [hx]; exact ty_boot t1) hg1 (by rw [hx]; exact ty_name t1) (by rw [hx]; exact ty_dbg t1)
  have h2 : PE X (.Name y p3) (tC (.ty t2.s)) := pe_tyN hm2 (by rw [hy]; exact ty_boot t2) hg2 (by rw [hy]; exact ty_name t2) (by rw [hy]; exact ty_dbg t2)
  refine wE_of (pe_callB call_isiT hg hm (by decide +kernel) (pa_cons pe_w (pa_cons (pe_tup (pa_cons h1 (pa_cons h2 pa_nil he4) he3)) pa_nil he2) he) (by decide) (by decide) he hpl) ?_
  refine (ha.go ρ m _ Z pp).run F0 σ H F S _ V tk (fun v H1 F1 d m1 p1 g1 r1 => ?_) kx
  refine ⟨by show 2 ≤ sizeLine; decide, fun tp hp => ?_⟩
  have g2 : Go X.K m1 H1 F1 m1 (upd H1 tp (.tup [.ty t1.s, .ty t2.s])) F1 := Go.junk (o := .tup [.ty t1.s, .ty t2.s]) g1.std hp
  obtain ⟨k, p2, ty⟩ := kdR_use (R := fun k => P (.bl (k.is t1 || k.is t2)) m1) p1 g2.std r1
  refine ⟨v, tp, [.ty t1.s, .ty t2.s], _, [.type t1.s, .type t2.s], k.is t1 || k.is t2, rfl, upd_same, .cons (.ty t1.s) (.cons (.ty t2.s) .nil), ty, ?_, q _ _ _ _ _ p2 (g1.trans g2) (.bl _)⟩
  refine kitAny_cons (kit_ty (kd_kit k t1)) (fun e => ?_) (fun e => by rw [e]; rfl)
  refine kitAny_cons (kit_ty (kd_kit k t2)) (fun e' => ?_) (fun e' => by rw [e']; cases k.is t1 <;> rfl)
  rw [e, e']
  rfl⟩⟩
end
/-! ### methods of texts -/
section
variable {K : PySem.W.Frag}
def sJoin : BS := fun ds m P => match ds with
  | [.str z, d] => seqR d m fun xs => ∃ ys : List Str, xs = ys.map .str ∧ (ys.map (·.length)).sum + ys.length * z.length ≤ 16777216 ∧ P (.str (Txt.join z ys)) m
  | _ => False
def rJoin (K : PySem.W.Frag) : L2.V → List L2.V → Hp → VK → Prop := fun x xs H Q => ∃ a p, ∃ ys : List Str, x = .str a ∧ xs = [.ref p] ∧ (SqL K H p (ys.map L2.V.str) ∨ SqT K H p (ys.map L2.V.str)) ∧ (ys.map (·.length)).sum + ys.length * a.length ≤ 16777216 ∧ Q (.str (Txt.join a ys)) H
theorem bm_join : BokM K (rJoin K) sJoin := fun d ds m P h x vs H F s r1 rs Q q => by
  unfold sJoin at h
  split at h
  · rename_i e; cases e
    cases r1
    obtain ⟨v, rfl, r2⟩ := rps1 rs
    obtain ⟨a, tp, xs, ws, rfl, ⟨ys, rfl, hz, h⟩, h1, h2⟩ := seqR_use h s r2
    have e := h2.strs
    subst e
    exact ⟨_, a, ys, rfl, rfl, seqLT h1, hz, q _ _ _ _ _ h (Go.refl s) (.str _)⟩
  · exact h.elim
def sSplit : BS := fun ds m P => match ds with
  | [.str a, .str b] => ((b.length == 0) = false ∧ a.length + 2 ≤ sizeLine) ∧ NewL ((Txt.split a b).map .str) m P
  | _ => False
theorem bm_split : BokM K (fun x xs H Q => ∃ a b, x = .str a ∧ xs = [.str b] ∧ (b.length == 0) = false ∧ a.length + 2 ≤ sizeLine ∧ rNewStrs (Txt.split a b) H Q) sSplit := fun d ds m P h x vs H F s r1 rs Q q => by
  unfold sSplit at h
  split at h
  · rename_i e; cases e
    cases r1
    obtain ⟨v, rfl, r2⟩ := rps1 rs
    cases r2
    exact ⟨_, _, rfl, rfl, h.1.1, h.1.2, newL_q h.2 s (.of_strs _) q⟩
  · exact h.elim
def sStrip : BS := fun ds m P => match ds with
  | [.str a] => a.length ≤ sizeLine ∧ P (.str (Txt.strip a)) m
  | _ => False
theorem bm_strip : BokM K (fun x xs H Q => ∃ a, x = .str a ∧ xs = [] ∧ a.length ≤ sizeLine ∧ Q (.str (Txt.strip a)) H) sStrip := fun d ds m P h x vs H F s r1 rs Q q => by
  unfold sStrip at h
  split at h
  · rename_i e; cases e
    cases r1; cases rs
    exact ⟨_, rfl, rfl, h.1, q _ _ _ _ _ h.2 (Go.refl s) (.str _)⟩
  · exact h.elim
def sUpper : BS := fun ds m P => match ds with
  | [.str a] => a.length ≤ 5592405 ∧ P (.str (Txt.upper a)) m
  | _ => False
theorem bm_upper : BokM K (fun x xs H Q => ∃ a, x = .str a ∧ xs = [] ∧ a.length ≤ 5592405 ∧ Q (.str (Txt.upper a)) H) sUpper := fun d ds m P h x vs H F s r1 rs Q q => by
  unfold sUpper at h
  split at h
  · rename_i e; cases e
    cases r1; cases rs
    exact ⟨_, rfl, rfl, h.1, q _ _ _ _ _ h.2 (Go.refl s) (.str _)⟩
  · exact h.elim
def sStarts : BS := fun ds m P => match ds with
  | [.str a, .str b] => P (.bl (Txt.startswith a b)) m
  | _ => False
theorem bm_starts : BokM K (fun x xs H Q => ∃ a b, x = .str a ∧ xs = [.str b] ∧ Q (.bl (Txt.startswith a b)) H) sStarts := fun d ds m P h x vs H F s r1 rs Q q => by
  unfold sStarts at h
  split at h
  · rename_i e; cases e
    cases r1
    obtain ⟨v, rfl, r2⟩ := rps1 rs
    cases r2
    exact ⟨_, _, rfl, rfl, q _ _ _ _ _ h (Go.refl s) (.bl _)⟩
  · exact h.elim
end
section
variable {X : Cx}
theorem k_join : KOk X "join" (kS sJoin) := kokS ⟨PySem.F.plainAttrs_str, PySem.F.slot_str_join, PySem.F.type_str_join, mt_join⟩ bm_join
theorem k_split : KOk X "split" (kS sSplit) := kokS ⟨PySem.F.plainAttrs_str, PySem.F.slot_str_split, PySem.F.type_str_split, mt_split⟩ bm_split
theorem k_strip : KOk X "strip" (kS sStrip) := kokS ⟨PySem.F.plainAttrs_str, PySem.F.slot_str_strip, PySem.F.type_str_strip, mt_strip⟩ bm_strip
theorem k_upper : KOk X "upper" (kS sUpper) := kokS ⟨PySem.F.plainAttrs_str, PySem.F.slot_str_upper, PySem.F.type_str_upper, mt_upper⟩ bm_upper
theorem k_starts : KOk X "startswith" (kS sStarts) := kokS ⟨PySem.F.plainAttrs_str, PySem.F.slot_str_startswith, PySem.F.type_str_startswith, mt_startswith⟩ bm_starts
end
end Nu

namespace Nu
open PySem PySem.Spec L2
open PyProof.Rows hiding St
/-! ### a dict locked while it is walked -/
theorem Go.lockIn {K : PySem.W.Frag} {m : MS} {H F : Hp} {p : Addr} {kds : List (Key × D)} {kvs : List (Key × L2.V)} {o : Obj} (s : Std K m H F) (h : m p = some (.dct kds)) (rk : RKs K F kvs kds) : Go K m H F (mset m p (.lck o kvs kds)) (upd H p (.frz o (.dK kvs))) F :=
  Go.put s h ⟨upd_same, rk⟩
theorem Go.lockOut {K : PySem.W.Frag} {m m2 : MS} {H F H2 F2 : Hp} {p : Addr} {kds : List (Key × D)} {kvs : List (Key × L2.V)} {o : Obj} (h : m p = some (.dct kds)) (g : Go K (mset m p (.lck o kvs kds)) (upd H p (.frz o (.dK kvs))) F m2 H2 F2) (h2 : m2 p = some (.lck o kvs kds)) :
    H2 p = some (.frz o (.dK kvs)) ∧ Go K m H F (mset m2 p (.dct kds)) (upd H2 p (.dK kvs)) F2 := by
  obtain ⟨e, rk⟩ := g.std.cells p _ h2
  have hF := g.std.offF h2
  refine ⟨e, ⟨fun a u q => ?_, g.grow, fun a ha => ?_, fun a ha => ?_, ⟨fun a u q => ?_, fun q c hq => ?_⟩⟩⟩
  · obtain ⟨e1, e2⟩ := of_fz q
    have ne : a ≠ p := by rintro rfl; rw [h] at e1; cases e1
    obtain ⟨e3, e4⟩ := of_fz (g.same a u (fz_of (by rw [mset_ne ne]; exact e1) (by rw [upd_ne ne]; exact e2)))
    exact fz_of (by rw [mset_ne ne]; exact e3) (by rw [upd_ne ne]; exact e4)
  · by_cases ne : a = p
    · subst ne; exact .inr (.inr (by rw [h]; exact fun z => nomatch z))
    · rcases g.fresh a ha with q | q | q
      · exact .inl q
      · rw [upd_ne ne] at q; exact .inr (.inl q)
      · rw [mset_ne ne] at q; exact .inr (.inr q)
  · by_cases ne : a = p
    · subst ne; rw [upd_same]; exact fun z => nomatch z
    · rw [upd_ne ne]
      exact g.kept a (by rw [upd_ne ne]; exact ha)
  · have ne : a ≠ p := by rintro rfl; rw [hF] at q; cases q
    obtain ⟨e1, e2⟩ := of_fz (g.std.sub a u q)
    exact fz_of (by rw [mset_ne ne]; exact e1) (by rw [upd_ne ne]; exact e2)
  · by_cases ne : q = p
    · subst ne; rw [mset_same] at hq; cases hq; exact ⟨kvs, upd_same, rk⟩
    · rw [mset_ne ne] at hq
      exact (g.std.cells q c hq).upd_ ne
section
variable {X : Cx} {e : Expr} {t : T} {stm : Stmt} {u : S1} {apos cpos : Pos} {tg : Expr}
theorem se_lock (h : SE X e t) : SE X e (.lock t) := ⟨fun ρ m P Z p => ⟨fun F0 σ H F S Q V tk q kx => by
  rcases p with ⟨pa, kds, hp, p⟩ | p
  · obtain ⟨kvs, e1, rk⟩ := S.std.cells pa _ hp
    refine wE_of (pe_lock pe_w) ⟨pa, .dK kvs, e1, True.intro, fun od => ?_⟩
    have g0 := Go.lockIn (o := od) S.std hp rk
    refine (h.go ρ _ _ EX0 (p od kvs)).run F0 σ _ F (S.go g0) _ V tk (fun v H1 F1 d m1 p1 g1 r1 => ?_) exk0
    obtain ⟨h2, p1⟩ := p1
    obtain ⟨a1, g2⟩ := Go.lockOut hp g1 h2
    exact ⟨a1, q v _ F1 d _ p1 g2 r1⟩
  · exact (h.go ρ m P Z p).run F0 σ H F S Q V tk q kx⟩⟩
theorem s_lock (h : SS1 X stm u) : SS1 X stm (.lock u) := ⟨fun ρ m A p => ⟨fun F0 σ H F S E V tk k => by
  rcases p with ⟨pa, kds, hp, p⟩ | p
  · obtain ⟨kvs, e1, rk⟩ := S.std.cells pa _ hp
    refine wS_of (ps_lock ps_w) ⟨pa, .dK kvs, e1, True.intro, fun od => ?_⟩
    have g0 := Go.lockIn (o := od) S.std hp rk
    refine (h.go ρ _ _ (p od kvs)).run F0 σ _ F (S.go g0) _ V tk ⟨?_, ?_, ?_, ?_, exk0⟩
    · rintro σ' H' F' ρ' m' ⟨h2, p1⟩ g1 S'
      obtain ⟨a1, g2⟩ := Go.lockOut hp g1 h2
      exact ⟨a1, k.nx _ _ _ _ _ p1 g2 ⟨g2.std, S'.env, S'.old⟩⟩
    · rintro v H' F' d m' ⟨h2, p1⟩ g1 r
      obtain ⟨a1, g2⟩ := Go.lockOut hp g1 h2
      exact ⟨a1, k.rt _ _ _ _ _ p1 g2 r⟩
    · rintro σ' H' F' ρ' m' ⟨h2, p1⟩ g1 S'
      obtain ⟨a1, g2⟩ := Go.lockOut hp g1 h2
      exact ⟨a1, k.bk _ _ _ _ _ p1 g2 ⟨g2.std, S'.env, S'.old⟩⟩
    · rintro σ' H' F' ρ' m' ⟨h2, p1⟩ g1 S'
      obtain ⟨a1, g2⟩ := Go.lockOut hp g1 h2
      exact ⟨a1, k.ct _ _ _ _ _ p1 g2 ⟨g2.std, S'.env, S'.old⟩⟩
  · exact (h.go ρ m A p).run F0 σ H F S E V tk k⟩⟩
/-! what a locked dict gives -/
def isDct (how : DW) : IS := fun ds m R => match ds with
  | [.raw (.ref p)] => ∃ o vs kds, m p = some (.lck o vs kds) ∧ R (how.its kds) (fun m' => m' p = some (.lck o vs kds)) m
  | _ => False
theorem isDct_of {how : DW} {d : D} {m : MS} {R : List D → (MS → Prop) → MS → Prop} (h : isDct how [d] m R) : ∃ p o vs kds, d = .raw (.ref p) ∧ m p = some (.lck o vs kds) ∧ R (how.its kds) (fun m' => m' p = some (.lck o vs kds)) m := by
  cases d with
  | raw w =>
    cases w with
    | ref p =>
      obtain ⟨o, vs, kds, e, h⟩ := h
      exact ⟨p, o, vs, kds, rfl, e, h⟩
    | _ => exact h.elim
  | _ => exact h.elim
theorem rks_get {K : PySem.W.Frag} {F : Hp} {l : List (Key × L2.V)} {r : List (Key × D)} (h : RKs K F l r) : ∀ {i : Nat} {k : Key} {v : L2.V}, l[i]? = some (k, v) → ∃ d, r[i]? = some (k, d) ∧ Rp K F v d := by
  induction h with
  | nil => intro i k v e; simp at e
  | @cons p q l r hp t ih =>
    intro i k v e
    cases i with
    | zero =>
      have e' : p = (k, v) := by simpa using e
      subst e'
      exact ⟨q.2, by rw [List.getElem?_cons_zero]; congr 1; exact Prod.ext hp.1.symm rfl, hp.2⟩
    | succ i =>
      obtain ⟨d, a, b⟩ := ih (i := i) (by simpa using e)
      exact ⟨d, by simpa using a, b⟩
theorem its_len (how : DW) (kds : List (Key × D)) : (how.its kds).length = kds.length := by cases how <;> simp [DW.its]
theorem its_get {how : DW} {kds : List (Key × D)} {i : Nat} {k : Key} {d x : D} (h : kds[i]? = some (k, d)) (e : (how.its kds)[i]? = some x) : x = match how with | .keys => kD k | .vals => d | .items => .tup [kD k, d] := by
  cases how <;> (unfold DW.its at e; rw [List.getElem?_map, h] at e; exact (Option.some.inj e).symm)
theorem walk_dk {K : PySem.W.Frag} {F1 : Hp} {p : Addr} {o : Obj} {vs : List (Key × L2.V)} {kds : List (Key × D)} (hl : vs.length = kds.length) : WalkD K F1 (Itk p o vs) (DW.its .keys kds) fun m' => m' p = some (.lck o vs kds) := by
  refine ⟨fun i H F m hi s sd g => ?_, fun H F m s sd g => ?_, fun i H F m x H' d hd s sd g y => ?_⟩
  · rw [its_len] at hi; exact ⟨(sd.cells _ _ g).1, by rw [hl]; exact hi⟩
  · rw [its_len]; exact ⟨(sd.cells _ _ g).1, Nat.le_of_eq hl⟩
  · obtain ⟨rfl, k, v, e, rfl⟩ := y
    obtain ⟨d', e1, r⟩ := rks_get (sd.cells _ _ g).2 e
    rw [its_get e1 hd]
    exact ⟨F, Go.refl sd, rp_kD k⟩
theorem walk_dv {K : PySem.W.Frag} {F1 : Hp} {p : Addr} {o : Obj} {vs : List (Key × L2.V)} {kds : List (Key × D)} (hl : vs.length = kds.length) : WalkD K F1 (Itd p o vs) (DW.its .vals kds) fun m' => m' p = some (.lck o vs kds) := by
  refine ⟨fun i H F m hi s sd g => ?_, fun H F m s sd g => ?_, fun i H F m x H' d hd s sd g y => ?_⟩
  · rw [its_len] at hi; exact ⟨(sd.cells _ _ g).1, by rw [hl]; exact hi⟩
  · rw [its_len]; exact ⟨(sd.cells _ _ g).1, Nat.le_of_eq hl⟩
  · obtain ⟨rfl, k, e⟩ := y
    obtain ⟨d', e1, r⟩ := rks_get (sd.cells _ _ g).2 e
    rw [its_get e1 hd]
    exact ⟨F, Go.refl sd, r⟩
theorem walk_di {K : PySem.W.Frag} {F1 : Hp} {p : Addr} {o : Obj} {vs : List (Key × L2.V)} {kds : List (Key × D)} (hl : vs.length = kds.length) : WalkD K F1 (Iti p o vs) (DW.its .items kds) fun m' => m' p = some (.lck o vs kds) := by
  refine ⟨fun i H F m hi s sd g => ?_, fun H F m s sd g => ?_, fun i H F m x H' d hd s sd g y => ?_⟩
  · rw [its_len] at hi; exact ⟨(sd.cells _ _ g).1, by rw [hl]; exact hi⟩
  · rw [its_len]; exact ⟨(sd.cells _ _ g).1, Nat.le_of_eq hl⟩
  · obtain ⟨T, k, v, e, rfl, hT, rfl⟩ := y
    obtain ⟨d', e1, r⟩ := rks_get (sd.cells _ _ g).2 e
    rw [its_get e1 hd]
    exact ⟨_, Go.new sd hT, .tup (.inl (.inl upd_same)) ((Rps.cons (rp_kD k) (.cons r .nil)).up (Go.new sd hT).grow _)⟩
theorem si_vals (he : SE X e t) (hbase : attributeBase e "values" X.env (eval e X.env) = eval e X.env := by rfl) (hline : (apos.endLine == cpos.line) = true := by rfl) : SI X tg (.Call (.Attribute e "values" apos) [] [] cpos) (isDct .vals) (.cons t .nil) := ⟨fun ρ m P Z p => ⟨fun F0 σ H F S R V tk q kx => by
  refine wI_of (pi_values pe_w hbase hline) ?_
  refine (he.go ρ m _ Z p).run F0 σ H F S _ V tk (fun v H1 F1 d m1 p1 g1 r1 => ?_) kx
  obtain ⟨pa, o, vs, kds, rfl, hp, p2⟩ := isDct_of p1
  cases r1
  obtain ⟨e1, rk⟩ := g1.std.cells pa _ hp
  exact ⟨pa, o, vs, rfl, e1, q _ H1 F1 _ _ m1 p2 g1 (walk_dv rk.len)⟩⟩⟩
theorem si_items {elts : List Expr} {kk : Nat} {tpos : Pos} (he : SE X e t) (hbase : attributeBase e "items" X.env (eval e X.env) = eval e X.env := by rfl) (hline : (apos.endLine == cpos.line) = true := by rfl) : SI X (.Tuple elts kk tpos) (.Call (.Attribute e "items" apos) [] [] cpos) (isDct .items) (.cons t .nil) := ⟨fun ρ m P Z p => ⟨fun F0 σ H F S R V tk q kx => by
  refine wI_of (pi_items pe_w hbase hline) ?_
  refine (he.go ρ m _ Z p).run F0 σ H F S _ V tk (fun v H1 F1 d m1 p1 g1 r1 => ?_) kx
  obtain ⟨pa, o, vs, kds, rfl, hp, p2⟩ := isDct_of p1
  cases r1
  obtain ⟨e1, rk⟩ := g1.std.cells pa _ hp
  exact ⟨pa, o, vs, rfl, e1, q _ H1 F1 _ _ m1 p2 g1 (walk_di rk.len)⟩⟩⟩
end
end Nu

namespace Nu
open PySem PySem.Spec L2
open PyProof.Rows hiding St
/-! ### what the text says of an own exception class -/
structure XcF (K : PySem.W.Frag) (mg : Str → Option Value) (c : Exn) : Prop where
  ex : ∃ C, clsAt K c.name C ∧ mg c.name = some (.ref C) ∧ PySem.W.keepIn K (.ref C) = true ∧ PySem.W.subIn K (.ref C) (.type "BaseException") = some true ∧ PySem.W.typeIn K (.ref C) = some (.type "type")
/-- .. without own __init__ -/
structure Xc0 (K : PySem.W.Frag) (c : Exn) : Prop where
  ex : ∀ C, clsAt K c.name C → PySem.W.excIn K C [.type "ValueError", .type "Exception", .type "BaseException", .type "object"] "ValueError.__new__" = true
/-- is one class under another -/
structure SubF (K : PySem.W.Frag) (x c : Exn) : Prop where
  ex : ∀ C C0, clsAt K x.name C → clsAt K c.name C0 → PySem.W.exmOne K (.ref C) (.ref C0) = some (x.under c)
section
variable {X : Cx}
theorem s_raise0 (c : Exn) {x mm : Str} {j : Nat} {p p2 pos pos' : Pos} (F : XcF X.K X.mg c) (F0 : Xc0 X.K c) (hx : x = c.name := by rfl) (h0 : c.flds.length = 0 := by rfl) (hg : Gl X x := by rfl) (hdb : (x == ("__debug__" : Str)) = false := by decide) (hc : X.calm = true := by rfl) :
    SS1 X (.Raise (some (.Call (.Name x p) [.Constant (.str mm) j p2] [] pos)) none pos') (.raise c (.cons (.cst (.str mm)) .nil)) := ⟨fun ρ m A pp => ⟨fun F0' σ H Fh S E V tk k => by
  obtain ⟨C, hC, hm, kC, b1, b2⟩ := F.ex
  subst hx
  refine wS_of (ps_raise hc tk (pmk_own PySem.F.excBase_ValueError (F0.ex C hC) hm kC (raises_own b1 b2) hg hdb)) ?_
  obtain ⟨d, es, e, hl, z⟩ := (show ∃ d es, [D.str mm] = d :: es ∧ es.length = c.flds.length ∧ A.ex c es ρ m from pp)
  cases e
  exact k.ex σ H Fh ρ m c [] _ _ z (Go.refl S.std) S ⟨C, hC, rfl, .inl ⟨List.eq_nil_of_length_eq_zero h0, rfl, rfl⟩⟩⟩⟩
end
/-! ### try, the exception kept -/
section
variable {X : Cx} {pins : List (Addr × Obj)} {σ : L2.St} {H : Hp} {s : Shared}
theorem inv_track (J : Inv X pins σ H s) {a : Addr} {oe : Obj} {vs : Array Value} {cls : Value} {d : Option Addr} (he : s.heap.get? a = some oe) (hz : Zc cls d oe) (hd : oe.data = .fields vs) (na : H a = none) (nL : a ≠ X.env.locals)
    (new : X.s_0.heap.get? a = none) (np : ∀ p ∈ X.pn ++ pins, p.1 ≠ a) : Inv (X.suite a (X.pn ++ pins)) [] σ (upd H a (ExV a cls d)) s := by
  refine ⟨J.ok.suite _ _, J.os, J.bare, ⟨J.base.keep, J.base.slot, fun b o e n hx => ?_, J.base.there, fun b xs e => ?_, fun b o u e => ?_, fun b ps e => ?_⟩, J.loc, J.cell, ?_, fun y c e => ?_, fun p hp => ?_, ?_, J.len⟩
  · rw [upd_ne (by rintro rfl; rw [new] at e; cases e)]
    exact J.base.free b o e n hx
  · have := J.base.tups b xs e
    rw [upd_ne (ne_of_none this na)]; exact this
  · have := J.base.frzs b o u e
    rw [upd_ne (ne_of_none this na)]; exact this
  · obtain ⟨more, h⟩ := J.base.tbls b ps e
    exact ⟨more, by rw [upd_ne (ne_of_none h na)]; exact h⟩
  · show upd H a (ExV a cls d) X.env.locals = none
    rw [upd_ne (Ne.symm nL)]; exact J.free
  · have h := J.freeC y c e
    obtain ⟨v, hv⟩ := J.cell y c e
    have ne : c ≠ a := by
      rintro rfl
      obtain ⟨oc, h1, h2⟩ := hv
      rw [he] at h1; cases h1
      rw [hd] at h2
      first
        | cases h2
        | cases h2.2
    rw [upd_ne ne]; exact h
  · have hp' : p ∈ X.pn ++ pins := by rw [List.append_nil] at hp; exact hp
    obtain ⟨a1, a2, a3, a4, a5⟩ := J.pin p hp'
    exact ⟨a1, by rw [upd_ne (np p hp')]; exact a2, a3, a4, a5⟩
  · exact J.hok.laidN (fun _ _ q => q) na (exV_ok he hz hd)
theorem inv_back {a : Addr} (I : Inv (X.suite a (X.pn ++ pins)) [] σ H s) (ok : X.Ok) : Inv X pins σ H s :=
  ⟨ok, I.os, I.bare, I.base, I.loc, I.cell, I.free, I.freeC, fun p hp => I.pin p (List.mem_append_left _ hp), I.hok, I.len⟩
end
section
variable {X : Cx} {x n : Str} {c : Value} {i : Nat} {body suite : List Stmt} {b₀ : Stmt} {np pos pos' : Pos} {tb : WX → TS} {Wout : WX}
/-- what 'except x as n' wishes, the exception kept -/
def wTr (X : Cx) (c : Value) (suite : List Stmt) (i : Option Nat) (Wout : WX) (D : Ends) : WX := fun cls d σ H =>
  ∃ b, PySem.W.exmOne X.K cls c = some b ∧ (b = true → ∀ a pn, H a = none → match i with
      | some i => wSs (X.suite a pn) suite { nx := fun σ' H' => D.nx (σ'.set i none) H', rt := D.rt, bk := fun σ' H' => D.bk (σ'.set i none) H', ct := fun σ' H' => D.ct (σ'.set i none) H' } (σ.set i (some (.ref a))) (upd H a (ExV a cls d))
      | none => wSs (X.suite a pn) suite D σ (upd H a (ExV a cls d))) ∧
    (b = false → Wout cls d σ H)
theorem ps_tryK (as : Option (Str × Nat)) (hs : X.stack = X.env :: X.outer) (hf : X.env.frame = some X.env.locals) (hex : X.ex = []) (hN : X.N.Nodup) (hi : ∀ n i, as = some (n, i) → X.N[i]? = some n ∧ X.env.kindOf n = some .local) (hc : Names X x c) (tk : Takes X Wout)
    (hb : ∀ (W : WX) (pn : List (Addr × Obj)) (xe : Value → Shared → Prop), Takes (X.tr pn xe) W → PassesOwn (model X.prog X.w) X.A X.env xe → PSs (X.tr pn xe) body (tb W)) :
    PS X (.Try body [.ExceptHandler (some (.Name x np)) (as.map (·.1)) (b₀ :: suite) pos'] [] [] pos) (fun D σ H => tb (wTr X c (b₀ :: suite) (as.map (·.2)) Wout D) D σ H) := by
  refine ⟨fun pins s σ H D I h => ?_⟩
  have ok := I.ok
  have hfr : X.A.frames = some (X.env :: X.outer) := by rw [ok.frames, hs]
  refine wpAny_Try_except ?_
  refine wpAny_mono ((hb (wTr X c (b₀ :: suite) (as.map (·.2)) Wout D) (X.pn ++ pins) (fun e s₁ => wpAny (model X.prog X.w) X.A (noteFrame e X.env) (fun _ s₂ => wpAny (model X.prog X.w) X.A (setFlight e none) (fun _ s₃ =>
    wpAny (model X.prog X.w) X.A (handleBy e X.env [.ExceptHandler (some (.Name x np)) (as.map (·.1)) (b₀ :: suite) pos']) (SP X pins D) X.xe s₃) X.xe s₂) X.xe s₁) (fun u s' xx => ?_) PassesOwn.looking).run [] s σ H D (I.toTry _) h) (fun f s1 hsp => ?_) (fun e s1 he => he)
  · -- the catch
    obtain ⟨a, B, sI, pins', σ', H', cls, d, rfl, J', nb, up, sky, na, os, ag, b, hb1, hyes, hno⟩ := xx
    have J : Inv X pins σ' H' sI := J'.ofTry ok
    have sky' : Sky B (X.env :: X.outer) a (Zc cls d) X.env.locals s'.heap := by rw [← hs]; exact sky
    show wpAny (model X.prog X.w) X.A (noteFrame (.ref a) X.env) _ _ _
    refine Sky.land Zc.steady hfr hf sky' fun h3 fl3 up3 => ?_
    have J3 : Inv X pins σ' H' { s' with heap := h3 } := J.landed nb fl3.1 (up.trans up3) os ag
    obtain ⟨oe3, vs3, he3, hz3, hd3⟩ := fl3.there
    have notFr : ∀ {h : Heap} {o : Obj} {vs : Array Value}, h.FunFrames B (X.env :: X.outer) → h.get? a = some o → o.data = .fields vs → a ∉ frs (X.env :: X.outer) := fun {h o vs} ff e dd hm => by
      obtain ⟨_, o', e', hnf⟩ := ff.mem hm
      rw [e] at e'; cases e'
      exact hnf _ dd
    have nfr := notFr fl3.2.2.1 he3 hd3
    have nL : a ≠ X.env.locals := fun z => nfr (List.mem_filterMap.mpr ⟨X.env, List.mem_cons_self, by rw [hf, z]⟩)
    have nF : a ∉ X.fs := fun hm => by
      obtain ⟨e, he, q⟩ := List.mem_filterMap.mp hm
      exact nfr (List.mem_filterMap.mpr ⟨e, List.mem_cons_of_mem _ he, q⟩)
    have nB : B.get? a = none := fl3.2.1
    have nI : sI.heap.get? a = none := by
      cases e : sI.heap.get? a with
      | none => rfl
      | some o =>
        have := nb a o e (by rw [hs]; exact nfr)
        rw [nB] at this; cases this
    have n0 : X.s_0.heap.get? a = none := by
      cases e : X.s_0.heap.get? a with
      | none => rfl
      | some o =>
        obtain ⟨o', e'⟩ := J.base.there a o e (by rw [hex]; exact List.not_mem_nil)
        rw [nI] at e'; cases e'
    have npin : ∀ p ∈ X.pn ++ pins, p.1 ≠ a := fun p hp z => by
      have := (J.pin p hp).1
      rw [z, nI] at this; cases this
    have S3 := J3.suite he3 hd3 na nL nF
    refine wpAny_handleBy_cons (codeAny_handlers_test ?_) (by intro q; cases q)
    have LT : PySem.W.Looks (model X.prog X.w) h3 (typeOf (.ref a)) cls := fun A Q E s k q => wpAny_typeOf_ref (k _ _ he3) (by rw [hz3.1]; exact q)
    have LM := PySem.W.exm_one (M := model X.prog X.w) (J3.kIn) LT hb1
    have test : ∀ {Q : Value → Shared → Prop} {E : Value → Shared → Prop}, Q c { s' with heap := h3 } → wpAny (model X.prog X.w) (X.A.mark (some (.ref a))) (eval (.Name x np) X.env) Q E { s' with heap := h3 } := fun {Q E} q => by
      obtain ⟨hg, hdbg, hm | ⟨hm, hv, hnn⟩⟩ := hc
      · exact ld_glob (X := X.suite a ((a, oe3) :: (X.pn ++ pins))) S3 hg hm q hdbg
      · exact ld_blt (X := X.suite a ((a, oe3) :: (X.pn ++ pins))) S3 hg hm hv q hnn hdbg
    refine test (LM.here ?_)
    cases b with
    | true =>
      cases as with
      | none =>
        refine codeAny_handlers_suite ?_
        refine HandSPX.lands_againZ fl3 fun h4 fl4 up4 => ?_
        have J4 : Inv X pins σ' H' { s' with heap := h4 } := J.landed nb fl4.1 ((up.trans up3).trans up4) os ag
        obtain ⟨oe4, vs4, he4, hz4, hd4⟩ := fl4.there
        have S4 := inv_track J4 he4 hz4 hd4 na nL n0 npin
        refine wpAny_mono (hyes rfl a (X.pn ++ pins) na [] _ S4) (fun f s6 hsp => ?_) (fun _ _ z => False.elim z)
        cases f with
        | next =>
          obtain ⟨σ6, H6, S6, q6⟩ := hsp
          exact ⟨_, _, inv_back S6 ok, q6⟩
        | brk =>
          obtain ⟨σ6, H6, S6, q6⟩ := hsp
          exact ⟨_, _, inv_back S6 ok, q6⟩
        | cont =>
          obtain ⟨σ6, H6, S6, q6⟩ := hsp
          exact ⟨_, _, inv_back S6 ok, q6⟩
        | ret u =>
          obtain ⟨v6, σ6, H6, S6, r6, q6⟩ := hsp
          exact ⟨_, _, _, inv_back S6 ok, r6, q6⟩
      | some ni =>
        obtain ⟨n, i⟩ := ni
        obtain ⟨hi, hln⟩ := hi n i rfl
        have hloc : Loc X.env.scope n := .inl hln
        refine codeAny_handlers_suite_as ?_
        refine HandSPX.lands_againZ fl3 fun h4 fl4 up4 => ?_
        have J4 : Inv X pins σ' H' { s' with heap := h4 } := J.landed nb fl4.1 ((up.trans up3).trans up4) os ag
        obtain ⟨oe4, vs4, he4, hz4, hd4⟩ := fl4.there
        have S4 := inv_track J4 he4 hz4 hd4 na nL n0 npin
        refine store_ok (X := X.suite a (X.pn ++ pins)) (v := .ref a) S4 hN hi hloc rfl (fun s5 S5 => ?_) (.inr hln)
        refine wpAny_mono (hyes rfl a (X.pn ++ pins) na [] s5 S5) (fun f s6 hsp => ?_) (fun _ _ z => False.elim z)
        have end_ : ∀ {σ6 : L2.St} {H6 : Hp} {Q : Shared → Prop}, Inv (X.suite a (X.pn ++ pins)) [] σ6 H6 s6 → (∀ s7, Inv X pins (σ6.set i none) H6 s7 → Q s7) →
            wpAny (model X.prog X.w) X.A (do bindName X.env n .none; unbindBehindTheSuite X.env n pos') (fun _ s7 => Q s7) X.xe s6 := fun {σ6 H6 Q} S6 hq => gone_ok (inv_back S6 ok) hN hi hln hq
        cases f with
        | next =>
          obtain ⟨σ6, H6, S6, q6⟩ := hsp
          exact end_ S6 fun s7 J7 => ⟨_, _, J7, q6⟩
        | brk =>
          obtain ⟨σ6, H6, S6, q6⟩ := hsp
          exact end_ S6 fun s7 J7 => ⟨_, _, J7, q6⟩
        | cont =>
          obtain ⟨σ6, H6, S6, q6⟩ := hsp
          exact end_ S6 fun s7 J7 => ⟨_, _, J7, q6⟩
        | ret u =>
          obtain ⟨v6, σ6, H6, S6, r6, q6⟩ := hsp
          exact end_ S6 fun s7 J7 => ⟨_, _, _, J7, r6, q6⟩
    | false =>
      show wpAny _ X.A (handleBy (.ref a) X.env []) _ _ _
      refine wpAny_handleBy_nil ?_
      obtain ⟨k1, k2, k3, oe, vs, T, oT, ts', he, hz, hd, h1, hr⟩ := id fl3
      unfold PySem.passOn
      refine wpAny_bind (wpAny_field he hd h1 ?_)
      rw [if_neg (show ¬ ((Value.ref T == Value.none) = true) from by simp)]
      have fin : wpAny (model X.prog X.w) X.A (setFlight (.ref a) X.env.frame) (fun _ s4 => wpAny (model X.prog X.w) X.A (throw (.ref a) : Sem Flow) (SP X pins D) X.xe s4) X.xe { s' with heap := h3 } := by
        rw [hf]
        refine HandSPX.setFlight_upZ fl3 fun h4 hh4 up4 => wpAny_throw (tk _ _ ?_)
        exact ⟨a, B, sI, pins, σ', H', cls, d, rfl, J, nb, (up.trans up3).trans up4, .inr (.inr (by rw [hs]; exact hh4)), na, os, ag, hno rfl⟩
      first
        | exact wpAny_bind (wpAny_pure (wpAny_bind fin))
        | exact wpAny_bind fin
  · cases f with
    | next =>
      obtain ⟨σ', H', J', q⟩ := hsp
      exact wpAny_execs_nil ⟨σ', H', J'.ofTry ok, q⟩
    | brk =>
      obtain ⟨σ', H', J', q⟩ := hsp
      exact ⟨σ', H', J'.ofTry ok, q⟩
    | cont =>
      obtain ⟨σ', H', J', q⟩ := hsp
      exact ⟨σ', H', J'.ofTry ok, q⟩
    | ret u =>
      obtain ⟨v, σ', H', J', r, q⟩ := hsp
      exact ⟨v, σ', H', J'.ofTry ok, r, q⟩
end
section
variable {X : Cx} {x n : Str} {body suite : List Stmt} {b₀ : Stmt} {np pos pos' : Pos} {ub uh : SS}
/-- the exception that was caught, laid as data -/
theorem exn_lay {K : PySem.W.Frag} {m : MS} {H F : Hp} {a : Addr} {c : Exn} {ds : List D} {cls : Value} {dd : Option Addr} (s : Std K m H F) (hn : H a = none) (r : ExR K F c ds cls dd) : Go K m H F m (upd H a (ExV a cls dd)) (upd F a (ExV a cls dd)) ∧ Rp K (upd F a (ExV a cls dd)) (.ref a) (.exn c ds) := by
  have g := Go.new (o := ExV a cls dd) s hn
  refine ⟨g, ?_⟩
  obtain ⟨C, h1, rfl, h3⟩ := r
  rcases h3 with ⟨h3, rfl, rfl⟩ | ⟨q, vs, rfl, h4, h5, h6, h7⟩
  · exact .exn0 h3 h1 upd_same
  · exact .exn1 h4 h5 h1 upd_same (g.grow _ _ h6) (h7.up g.grow _)
theorem setR_clr (ρ : Env1) (i : Nat) (d : D) : clrR (setR ρ i d) i = clrR ρ i := by
  rw [setR_eq, clrR_eq, clrR_eq, List.set_set]
theorem s_try (c : Exn) (as : Option (Str × Nat)) (Fc : XcF X.K X.mg c) (TS : ∀ y, SubF X.K y c) (hN : X.N.Nodup)
    (hb : ∀ pn xe, PassesOwn (model X.prog X.w) X.A X.env xe → SSs (X.tr pn xe) body ub) (hh : ∀ a pn, SSs (X.suite a pn) (b₀ :: suite) uh)
    (hi : ∀ n i, as = some (n, i) → X.N[i]? = some n ∧ X.env.kindOf n = some .local := by intro n i e; first | (cases e; exact ⟨rfl, rfl⟩) | cases e) (hx : x = c.name := by rfl)
    (hs : X.stack = X.env :: X.outer := by rfl) (hf : X.env.frame = some X.env.locals := by rfl) (hex : X.ex = [] := by rfl) (hg : Gl X x := by rfl) (hdb : (x == ("__debug__" : Str)) = false := by decide) :
    SS1 X (.Try body [.ExceptHandler (some (.Name x np)) (as.map (·.1)) (b₀ :: suite) pos'] [] [] pos) (.tri c (as.map (·.2)) ub uh) := ⟨fun ρ m A p => ⟨fun F0 σ H F S E V tk k => by
  obtain ⟨C0, hC0, hm, _, _, _⟩ := Fc.ex
  subst hx
  refine wS_of (ps_tryK (c := .ref C0) (tb := fun W => fun D σ H => ∀ pn xe, Takes (X.tr pn xe) W → PassesOwn (model X.prog X.w) X.A X.env xe → wSs (X.tr pn xe) body D σ H) as hs hf hex hN hi ⟨hg, hdb, .inl hm⟩ tk (fun W pn xe tk' hp => ⟨fun pins s σ H D I h => h pn xe tk' hp pins s I⟩)) ?_
  intro pn xe tk' hp
  have p : WB ub ρ m _ := p
  refine ((hb pn xe hp).go ρ m _ p).run F0 σ H F S E _ tk' ⟨fun σ' H' F' ρ' m' q g S' => k.nx σ' H' F' ρ' m' q g S', fun v H' F' d m' q g r => k.rt v H' F' d m' q g r, fun σ' H' F' ρ' m' q g S' => k.bk σ' H' F' ρ' m' q g S', fun σ' H' F' ρ' m' q g S' => k.ct σ' H' F' ρ' m' q g S', ?_⟩
  rintro σ' H' F' ρ' m' y ds cls dd ⟨z1, z2⟩ g S' r
  obtain ⟨C, hC, hcls, _⟩ := id r
  refine ⟨y.under c, by rw [hcls]; exact (TS y).ex C C0 hC hC0, fun hu a pn' hna => ?_, fun hu => k.ex σ' H' F' ρ' m' y ds cls dd (z2 hu) g S' r⟩
  obtain ⟨gl, rl⟩ := exn_lay S'.std hna r
  have Sl := S'.go gl
  have gg := g.trans gl
  have z1 := z1 hu
  cases as with
  | none =>
    have z1 : WB uh ρ' m' _ := z1
    refine ((hh a pn').go ρ' m' _ z1).run F0 σ' _ _ Sl E V0 (fun u s' x => by obtain ⟨_, _, _, _, _, _, _, _, _, _, _, _, _, _, _, _, w⟩ := x; exact w.elim) ⟨?_, ?_, ?_, ?_, exk0⟩
    · exact fun σ2 H2 F2 ρ2 m2 q g2 S2 => k.nx σ2 H2 F2 ρ2 m2 q (gg.trans g2) S2
    · exact fun v H2 F2 d m2 q g2 r2 => k.rt v H2 F2 d m2 q (gg.trans g2) r2
    · exact fun σ2 H2 F2 ρ2 m2 q g2 S2 => k.bk σ2 H2 F2 ρ2 m2 q (gg.trans g2) S2
    · exact fun σ2 H2 F2 ρ2 m2 q g2 S2 => k.ct σ2 H2 F2 ρ2 m2 q (gg.trans g2) S2
  | some ni =>
    obtain ⟨n, i⟩ := ni
    have z1 : WB uh (setR ρ' i (.exn y ds)) m' _ := z1
    intro pins2 s2 I2
    have hl : i < σ'.length := by
      have := nx_of_inv I2 (hi n i rfl).1
      simpa using this
    have Sx := Sl.set rl hl
    refine ((hh a pn').go _ m' _ z1).run F0 _ _ _ Sx _ V0 (fun u s' x => by obtain ⟨_, _, _, _, _, _, _, _, _, _, _, _, _, _, _, _, w⟩ := x; exact w.elim) ⟨?_, ?_, ?_, ?_, exk0⟩ pins2 s2 I2
    · exact fun σ2 H2 F2 ρ2 m2 q g2 S2 => k.nx _ H2 F2 _ m2 q (gg.trans g2) S2.clr
    · exact fun v H2 F2 d m2 q g2 r2 => k.rt v H2 F2 d m2 q (gg.trans g2) r2
    · exact fun σ2 H2 F2 ρ2 m2 q g2 S2 => k.bk _ H2 F2 _ m2 q (gg.trans g2) S2.clr
    · exact fun σ2 H2 F2 ρ2 m2 q g2 S2 => k.ct _ H2 F2 _ m2 q (gg.trans g2) S2.clr⟩⟩
end
end Nu

namespace Nu
open PySem PySem.Spec L2
open PyProof.Rows hiding St
/-! ### isinstance of an exception -/
structure ExnC (K : PySem.W.Frag) (x : Exn) : Prop where
  ex : ∀ C, clsAt K x.name C → L2.ExcC K C
structure SubI (K : PySem.W.Frag) (x c : Exn) : Prop where
  ex : ∀ C C0, clsAt K x.name C → clsAt K c.name C0 → PySem.W.kitOne K (.ref C) (.ref C0) = some (x.under c)
structure SubV (K : PySem.W.Frag) (x : Exn) : Prop where
  ex : ∀ C, clsAt K x.name C → PySem.W.kitOne K (.ref C) (.type "ValueError") = some true
section
variable {X : Cx} {a b : Expr} {ta : T} {pos p p2 : Pos}
def rIsX (K : PySem.W.Frag) : List L2.V → Hp → VK → Prop := fun xs H Q => ∃ (pa C : Addr) (c : L2.V) (cv : Value) (b : Bool) (dd : Option Addr), xs = [.ref pa, c] ∧ (∀ u, RelV c u → u = cv) ∧ H pa = some (ExV pa (.ref C) dd) ∧ (dd = none ∨ ∃ q fs, dd = some q ∧ H q = some (.xd fs)) ∧ L2.ExcC K C ∧ PySem.W.kitOne K (.ref C) cv = some b ∧ Q (.bl b) H
theorem call_isX : CallR X (.builtin "isinstance") (rIsX X.K) := by
  intro pins s σ H xs us Q I r h
  obtain ⟨pa, C, c, cv, b, dd, rfl, hcv, ea, hdd, F, e, q⟩ := h
  obtain ⟨v, w, rfl, rx, rt⟩ := vals2 r
  obtain rfl : v = Value.ref pa := rx
  have ec := hcv _ rt
  subst ec
  obtain ⟨oe, vs, ho, hz, hd⟩ := exV_at I.hok ea
  have hcl : (PySem.W.clsIn X.K C).isSome = true := by
    have := F.hd
    unfold PySem.W.hasDictIn at this
    cases q0 : PySem.W.clsIn X.K C with
    | none => rw [q0] at this; exact absurd this (by decide)
    | some _ => rfl
  have J : ∃ od, PySem.W.InstAt s.heap pa oe C od := by
    rcases hdd with rfl | ⟨q1, fs, rfl, eq⟩
    · obtain ⟨oc, od, oda, osl⟩ := oe
      obtain ⟨h1, h2⟩ := hz
      dsimp only at h1 h2 hd
      subst h1 h2 hd
      exact ⟨none, ho, rfl, rfl, trivial⟩
    · have hx : ObjOk X.prog X.w H s.heap q1 (.xd fs) := I.hok q1 _ eq
      obtain ⟨mA, hns, hr⟩ := hx
      obtain ⟨od, hod, hl⟩ := lookIn_ns hns
      exact ⟨some od, ho, hz.1, by unfold PySem.W.notCls; rw [hd] <;> rfl, by rw [hz.2]; exact hod⟩
  obtain ⟨od, J⟩ := J
  exact PySem.W.kia_one (PySem.W.kitx_exc hcl F.hg F.hk F.hs F.ha F.hn F.ht F.hm) I.kIn J e (fun z => nomatch z) fun tk => ⟨.bl b, H, I.kept (t' := tk) fun _ _ z => z, rfl, q⟩
theorem exn_at {K : PySem.W.Frag} {m : MS} {H F : Hp} {v : L2.V} {x : Exn} {ds : List D} (s : Std K m H F) (r : Rp K F v (.exn x ds)) : ∃ pa C dd, v = .ref pa ∧ clsAt K x.name C ∧ H pa = some (ExV pa (.ref C) dd) ∧ (dd = none ∨ ∃ q fs, dd = some q ∧ H q = some (.xd fs)) := by
  cases r with
  | exn0 h1 h2 h3 => exact ⟨_, _, _, rfl, h2, s.at h3, .inl rfl⟩
  | exn1 h1 h0 h2 h3 h4 h5 => exact ⟨_, _, _, rfl, h2, s.at h3, .inr ⟨_, _, rfl, s.at h4⟩⟩
def sIsX (c : Exn) : BS := fun ds m P => match ds with
  | [.exn x _] => P (.bl (x.under c)) m
  | _ => False
def sIsVE : BS := fun ds m P => match ds with
  | [.exn x _] => P (.bl true) m
  | _ => False
theorem se_isX (c : Exn) {y : Str} (hm : X.mg "isinstance" = none) (Fc : XcF X.K X.mg c) (TX : ∀ x, ExnC X.K x) (TI : ∀ x, SubI X.K x c) (ha : SE X a ta) (hx : y = c.name := by rfl) (hg : Gl X "isinstance" := by rfl) (hg2 : Gl X y := by rfl) (hdb : (y == ("__debug__" : Str)) = false := by decide)
    (he : starEach [a, .Name y p2] X.env = (false, eval a X.env) :: starEach [.Name y p2] X.env := by rfl) (he2 : starEach [.Name y p2] X.env = (false, eval (.Name y p2) X.env) :: starEach [] X.env := by rfl) (hpl : (backTo pos (starEach [.Name y p2] X.env)).any (·.1) = false := by rfl) :
    SE X (.Call (.Name "isinstance" p) [a, .Name y p2] [] pos) (.bop (sIsX c) (.cons ta .nil)) := ⟨fun ρ m P Z pp => ⟨fun F0 σ H F S Q V tk q kx => by
  obtain ⟨C0, hC0, hmg, _, _, _⟩ := Fc.ex
  subst hx
  have h1 : PE X (.Name c.name p2) (tC (.ref C0)) := pe_glob (v := .ref C0) hg2 hmg rfl hdb
  refine wE_of (pe_callB call_isX hg hm (by decide +kernel) (pa_cons pe_w (pa_cons h1 pa_nil he2) he) (by decide) (by decide) he hpl) ?_
  refine (ha.go ρ m _ Z pp).run F0 σ H F S _ V tk (fun v H1 F1 d m1 p1 g1 r1 => ?_) kx
  cases d with
  | exn x ds =>
    obtain ⟨pa, C, dd, rfl, hC, e1, e2⟩ := exn_at g1.std r1
    exact ⟨pa, C, .ref C0, .ref C0, _, dd, rfl, fun u ru => ru, e1, e2, (TX x).ex C hC, (TI x).ex C C0 hC hC0, q _ _ _ _ _ p1 g1 (.bl _)⟩
  | _ => exact False.elim p1⟩⟩
theorem se_isVE (hm : X.mg "isinstance" = none) (hm2 : X.mg "ValueError" = none) (TX : ∀ x, ExnC X.K x) (TV : ∀ x, SubV X.K x) (ha : SE X a ta) (hg : Gl X "isinstance" := by rfl) (hg2 : Gl X "ValueError" := by rfl)
    (he : starEach [a, .Name "ValueError" p2] X.env = (false, eval a X.env) :: starEach [.Name "ValueError" p2] X.env := by rfl) (he2 : starEach [.Name "ValueError" p2] X.env = (false, eval (.Name "ValueError" p2) X.env) :: starEach [] X.env := by rfl) (hpl : (backTo pos (starEach [.Name "ValueError" p2] X.env)).any (·.1) = false := by rfl) :
    SE X (.Call (.Name "isinstance" p) [a, .Name "ValueError" p2] [] pos) (.bop sIsVE (.cons ta .nil)) := ⟨fun ρ m P Z pp => ⟨fun F0 σ H F S Q V tk q kx => by
  have h1 : PE X (.Name "ValueError" p2) (tC (.ty "ValueError")) := pe_tyN hm2 (by decide +kernel) hg2
  refine wE_of (pe_callB call_isX hg hm (by decide +kernel) (pa_cons pe_w (pa_cons h1 pa_nil he2) he) (by decide) (by decide) he hpl) ?_
  refine (ha.go ρ m _ Z pp).run F0 σ H F S _ V tk (fun v H1 F1 d m1 p1 g1 r1 => ?_) kx
  cases d with
  | exn x ds =>
    obtain ⟨pa, C, dd, rfl, hC, e1, e2⟩ := exn_at g1.std r1
    exact ⟨pa, C, .ty "ValueError", .type "ValueError", true, dd, rfl, fun u ru => ru, e1, e2, (TX x).ex C hC, (TV x).ex C hC, q _ _ _ _ _ p1 g1 (.bl _)⟩
  | _ => exact False.elim p1⟩⟩
end
/-! ### exceptions with one field: their __init__, raise -/
structure HeF (K : PySem.W.Frag) (CH : Addr) : Prop where
  sp : PySem.W.specialIn K (.ref CH) "__getattribute__" = some (some (.builtin "type.__getattribute__"))
  rd : PySem.W.readsIn K CH (.type "type") = true
  fc : PySem.W.findCls K (.ref CH) (.type "type") "__init__" = some (.val (.builtin "ValueError.__init__"))
section
variable {X : Cx} {e : Expr} {es : List Expr} {ta : TA} {p p' p1 p2 pos : Pos}
theorem pe_heinit {x : Str} {CH : Addr} {pl : Sem Bool} (hg : Gl X x) (hm : X.mg x = some (.ref CH)) (hf : HeF X.K CH) (ha : PA X (e :: es) ta)
    (hc : eval (.Call (.Attribute (.Name x p1) "__init__" p2) (e :: es) [] pos) X.env = (do
      let ov ← eval (.Name x p1) X.env
      standAt p2.atName
      let (f, first) ← holding [ov] (getMethod ov "__init__" pl)
      callWith pos f first (backTo pos (starEach (e :: es) X.env)) (backToKw pos (keywordEach [] X.env))))
    (hdb : (x == ("__debug__" : Str)) = false) (he : starEach (e :: es) X.env = (false, eval e X.env) :: starEach es X.env) (hpl : (backTo pos (starEach es X.env)).any (·.1) = false) :
    PE X (.Call (.Attribute (.Name x p1) "__init__" p2) (e :: es) [] pos) (tVeI X.K ta) := by
  refine ⟨fun pins s σ H Q I h => ?_⟩
  refine PySem.W.methodCall_KW (ld_glob I hg hm ?_ hdb) hc
  refine PySem.W.method_cls I.kIn hf.sp (PySem.W.cls_value I.kIn hf.rd hf.fc (by decide +kernel) ?_)
  show wpAny _ _ (callWith pos (Value.builtin "ValueError.__init__") [] (backTo pos (starEach (e :: es) X.env)) []) _ _ _
  refine PyProof.Rows.callWith_method1 (thn (ha.run pos pins _ σ H _ (I.tok _) h) fun us s1 ⟨vs, H1, I1, r1, a, C, ws, ev, hl, T, ea, q⟩ => ?_) he hpl
  subst ev
  cases r1 with
  | @cons _ u0 _ ur ra rw' =>
    obtain rfl : u0 = Value.ref a := ra
    have hlen : ur.length ≤ sizeLine := by
      rw [← Paired.length rw', sizeLine_eq]
      omega
    exact oinit_ok T I1 ea hlen fun s' J => ⟨.non, H1, J, rfl, q⟩
end
def spI (C : Addr) (f : Str) : Sp := fun vs H Q E => ∃ a w y, vs = [.ref a, w, y] ∧ H a = some (exo a C none) ∧ ∀ dx, H dx = none → dx ≠ a → Q .non (upd (upd H dx (exd dx [(f, y)])) a (exo a C (some dx)))
structure InitF (P : Program) (w : World) (K : PySem.W.Frag) (mg : Str → Option Value) (base : Heap) (k : Nat) (c : Exn) (g : Fld) : Prop where
  ex : ∃ (C fI : Addr) (fd : FuncData) (ps : List Str), clsAt K c.name C ∧ mg c.name = some (.ref C) ∧ L2.OexC K C ∧ PySem.W.findIn K (.ref C) "__init__" = some (some (.ref fI)) ∧ PySem.W.typeIn K (.ref fI) = some (.type "function") ∧ FnOk P w K mg base (L2.CX P w) k fI fd ps (spI C g.name) ∧ Binds K fd ps []
section
variable {P : Program} {w : World} {K : PySem.W.Frag} {mg : Str → Option Value} {base : Heap}
theorem init_fn {f : Str} {C CH fI : Addr} {fd : FuncData} {stm : Stmt} {qual x : Str} {N : List Str} {k : Nat} {p1 p2 p3 p4 p5 p6 p7 p8 p9 p10 : Pos} (F : Fun K "__init__" qual stm fI fd) (S : FnScope N (["self", "words", f] : List Str) (defScope stm)) (hN : N = (["self", "words", f] : List Str)) (T : L2.OexC K C) (nf : PySem.W.findIn K (.ref C) f = some none) (hx : mg x = some (.ref CH)) (hf : HeF K CH)
    (hb : defBody stm = [.Expr (.Call (.Attribute (.Name x p1) "__init__" p2) [.Name "self" p3, .Name "words" p4] [] p5) p6, .Assign [.Attribute (.Name "self" p7) f p8] (.Name f p9) p10])
    (snd : ∀ cdv A outer s H E, PSs (cxOf (L2.CX P w) P w K mg base N qual (defScope stm) fI cdv A outer s H E) (defBody stm) (tSeq (tDrop (tVeI K (tCons (tVar 0) (tCons (tVar 1) tNil)))) (tSeq (tOst K f (tVar 0) (tVar 2)) tNext))) : FnOk P w K mg base (L2.CX P w) (k + 1) fI fd (["self", "words", f] : List Str) (spI C f) := by
  refine F.okX S (fun vs H Q E h => ?_) fun cdv A outer s H vs Q E hr h => ⟨_, snd cdv A outer s H E, ?_⟩
  · obtain ⟨a, w', y, rfl, _⟩ := h; rfl
  · obtain ⟨a, w', y, rfl, ea, q⟩ := h
    subst hN
    exact ⟨.ref a, rfl, w', rfl, a, C, [w'], rfl, Nat.le_of_ble_eq_true rfl, T, ea, y, rfl, .ref a, rfl, a, C, rfl, T, nf, .inl ⟨ea, q⟩⟩
end
section
variable {X : Cx} {e1 e2 : Expr} {t1 t2 : T} {p pos pos' : Pos}
theorem s_raise1 (c : Exn) (g : Fld) {x : Str} {k j : Nat} (F : XcF X.K X.mg c) (IF : InitF X.prog X.w X.K X.mg X.base k c g) (hr : Room j X.A) (h1 : SE X e1 t1) (h2 : SE X e2 t2) (hfs : c.fs = [g] := by rfl) (hk : k + 1 ≤ j := by decide) (hx : x = c.name := by rfl) (hg : Gl X x := by rfl) (hdb : (x == ("__debug__" : Str)) = false := by decide) (hc : X.calm = true := by rfl)
    (he : starEach [e1, e2] X.env = (false, eval e1 X.env) :: starEach [e2] X.env := by rfl) (he2 : starEach [e2] X.env = (false, eval e2 X.env) :: starEach [] X.env := by rfl) (hpl : (backTo pos (starEach [e2] X.env)).any (·.1) = false := by rfl) :
    SS1 X (.Raise (some (.Call (.Name x p) [e1, e2] [] pos)) none pos') (.raise c (.cons t1 (.cons t2 .nil))) := ⟨fun ρ m A pp => ⟨fun F0 σ H Fh S E V tk kk => by
  obtain ⟨C, fI, fd, ps, hC, hm, T, iC, tI, G, bi⟩ := IF.ex
  subst hx
  refine wS_of (ps_raise hc tk (pmk_oex T iC tI G (hr.mono hk) bi .nil (passes_call tk fun _ _ _ _ h => h.elim) hg hm (pa_cons pe_w (pa_cons pe_w pa_nil he2) he) hdb he hpl)) ?_
  have pp : W t1 ρ m _ A.ex := pp
  refine (h1.go ρ m _ _ pp).run F0 σ H Fh S _ V tk (fun v H1 F1 d m1 p1 g1 r1 => ?_) kk.ex
  have p1 : W t2 ρ m1 _ A.ex := p1
  refine (h2.go ρ m1 _ _ p1).run F0 σ H1 F1 (S.go g1) _ V tk (fun v2 H2 F2 d2 m2 p2 g2 r2 => ?_) (kk.ex.go g1)
  obtain ⟨d0, es, e, hl, z⟩ := (show ∃ d0 es, [d, d2] = d0 :: es ∧ es.length = c.flds.length ∧ A.ex c es ρ m2 from p2)
  cases e
  refine ⟨Nat.le_of_ble_eq_true rfl, fun a ha => ⟨a, v, v2, rfl, upd_same, fun dx hdx ne => ⟨rfl, dx, [(g.name, v2)], upd_same, ?_, ?_, ?_⟩⟩⟩
  · rw [upd_ne ne]; exact upd_same
  · rw [upd_ne ne] at hdx; exact hdx
  · have hdx' : H2 dx = none := by rw [upd_ne ne] at hdx; exact hdx
    have eH : upd (del (upd (upd (upd H2 a (exo a C none)) dx (exd dx [(g.name, v2)])) a (exo a C (some dx))) a) dx (.xd [(g.name, v2)]) = upd H2 dx (.xd [(g.name, v2)]) := by
      funext b
      by_cases hb : b = dx
      · rw [hb, upd_same, upd_same]
      · rw [upd_ne hb, upd_ne hb]
        by_cases hb2 : b = a
        · rw [hb2, del_same]; exact ha.symm
        · rw [del_ne hb2, upd_ne hb2, upd_ne hb, upd_ne hb2]
    rw [eH]
    have g3 := Go.new (o := .xd [(g.name, v2)]) g2.std hdx'
    refine kk.ex σ _ _ ρ m2 c [d2] _ _ z ((g1.trans g2).trans g3) (((S.go g1).go g2).go g3) ⟨C, hC, rfl, .inr ⟨dx, [v2], rfl, ?_, (fun z => nomatch z), ?_, Rps.one (r2.up g3.grow _)⟩⟩
    · unfold Exn.flds; rw [hfs]; rfl
    · unfold Exn.flds; rw [hfs]; exact upd_same⟩⟩
end
end Nu

namespace Nu
open PySem PySem.Spec L2
open PyProof.Rows hiding St
/-! ### the facts of the text, put together -/
section
variable {K : PySem.W.Frag} {mg : Str → Option Value}
theorem cls_some {C : Addr} (h : PySem.W.hasDictIn K C = true) : (PySem.W.clsIn K C).isSome = true := by
  unfold PySem.W.hasDictIn at h
  cases q0 : PySem.W.clsIn K C with
  | none => rw [q0] at h; exact absurd h (by decide)
  | some _ => rfl
theorem no_cls {x : Str} {C : Addr} (h : PySem.W.nsIn K mainGlobals x = some none) (k : clsAt K x C) : False := by
  unfold clsAt at k; rw [h] at k; cases k
theorem clsF_of {c : Cls} {C0 : Addr} (g : clsAt K c.name C0) (pg : PySem.W.plainGet K C0 Str.empty = true) (hd : PySem.W.hasDictIn K C0 = true) (po : PySem.W.plainOver K C0 = true) (sa : PySem.W.findIn K (.ref C0) "__setattr__" = some (some (.builtin "object.__setattr__"))) (na : ∀ f ∈ c.fs, PySem.W.findIn K (.ref C0) f.name = some none) : ClsF K c :=
  ⟨fun C h => by cases h.inj g; exact ⟨⟨pg, hd, po, sa⟩, na⟩⟩
theorem clsF_no {c : Cls} (h : PySem.W.nsIn K mainGlobals c.name = some none) : ClsF K c := ⟨fun C k => (no_cls h k).elim⟩
theorem exnF_of {c : Exn} {C0 : Addr} (g : clsAt K c.name C0) (ga : PySem.W.findIn K (.ref C0) "__getattribute__" = some (some (.builtin "BaseException.__getattribute__"))) (gg : PySem.W.findIn K (.ref C0) "__getattr__" = some none) (sb : PySem.W.subIn K (.ref C0) (.type "BaseException") = some true) (hd : PySem.W.hasDictIn K C0 = true) (na : ∀ f ∈ c.fs, PySem.W.findIn K (.ref C0) f.name = some none) : ExnF K c :=
  ⟨fun C h => by cases h.inj g; exact ⟨ga, gg, sb, hd, na⟩⟩
theorem exnF_no {c : Exn} (h : PySem.W.nsIn K mainGlobals c.name = some none) : ExnF K c := ⟨fun C k => (no_cls h k).elim⟩
theorem exnC_of {c : Exn} {C0 : Addr} (g : clsAt K c.name C0) (ga : PySem.W.findIn K (.ref C0) "__getattribute__" = some (some (.builtin "BaseException.__getattribute__"))) (gg : PySem.W.findIn K (.ref C0) "__getattr__" = some none) (sb : PySem.W.subIn K (.ref C0) (.type "BaseException") = some true) (hd : PySem.W.hasDictIn K C0 = true)
    (cl : PySem.W.findIn K (.ref C0) "__class__" = some (some (.builtin "object.__class__"))) (hn : PySem.W.specialIn K (.builtin "object.__class__") "__get__" = some (some (.builtin "getset_descriptor.__get__"))) (ht : PySem.W.takesIn K (.builtin "object.__class__") = some true) (hm : PySem.W.mroIn K C0 (.type "object") = some true) : ExnC K c :=
  ⟨fun C h => by cases h.inj g; exact ⟨ga, gg, sb, hd, cl, hn, ht, hm⟩⟩
theorem exnC_no {c : Exn} (h : PySem.W.nsIn K mainGlobals c.name = some none) : ExnC K c := ⟨fun C k => (no_cls h k).elim⟩
theorem kitCls_of {C C0 : Addr} {b : Bool} (h2 : PySem.W.hasDictIn K C0 = true) (h3 : PySem.W.typeIn K (.ref C0) = some (.type "type")) (h4 : PySem.W.subIn K (.ref C) (.ref C0) = some b) : PySem.W.kitCls K (.ref C) (.ref C0) = some b := by
  unfold PySem.W.kitCls
  simp only [cls_some h2, h3]
  rw [if_pos (by decide)]; exact h4
theorem subF_of {x c : Exn} {C C0 : Addr} (g : clsAt K x.name C) (g0 : clsAt K c.name C0) (h1 : PySem.W.subIn K (.ref C0) (.type "BaseException") = some true) (h2 : PySem.W.hasDictIn K C0 = true) (h3 : PySem.W.typeIn K (.ref C0) = some (.type "type")) (h4 : PySem.W.subIn K (.ref C) (.ref C0) = some (x.under c)) : SubF K x c :=
  ⟨fun D D0 h h0 => by
    cases h.inj g; cases h0.inj g0
    unfold PySem.W.exmOne
    rw [h1, if_pos (by decide)]
    exact kitCls_of h2 h3 h4⟩
theorem subF_no {x c : Exn} (h : PySem.W.nsIn K mainGlobals x.name = some none) : SubF K x c := ⟨fun C C0 k _ => (no_cls h k).elim⟩
theorem under_self (x : Exn) : x.under x = true := by cases x <;> rfl
theorem subI_of {x c : Exn} {C C0 : Addr} (g : clsAt K x.name C) (g0 : clsAt K c.name C0) (h2 : PySem.W.hasDictIn K C0 = true) (h3 : PySem.W.typeIn K (.ref C0) = some (.type "type")) (h4 : PySem.W.subIn K (.ref C) (.ref C0) = some (x.under c)) (h5 : PySem.W.subIn K (.ref C) (.ref C) = some true) : SubI K x c :=
  ⟨fun D D0 h h0 => by
    cases h.inj g; cases h0.inj g0
    unfold PySem.W.kitOne
    by_cases e : C = C0
    · subst e
      rw [if_pos (by simp)]
      rw [h5] at h4
      rw [← h4]
    · rw [if_neg (by simpa using e)]
      exact kitCls_of h2 h3 h4⟩
theorem subI_no {x c : Exn} (h : PySem.W.nsIn K mainGlobals x.name = some none) : SubI K x c := ⟨fun C C0 k _ => (no_cls h k).elim⟩
theorem subV_of {x : Exn} {C : Addr} (g : clsAt K x.name C) (h : PySem.W.subIn K (.ref C) (.type "ValueError") = some true) : SubV K x := ⟨fun D k => by
  cases k.inj g
  unfold PySem.W.kitOne
  rw [if_neg (show ¬ ((Value.ref C == Value.type "ValueError") = true) from by simp)]
  unfold PySem.W.kitCls
  show (if PySem.W.kitMeta "ValueError" = true then _ else _) = _
  rw [if_pos (by decide +kernel)]; exact h⟩
theorem subV_no {x : Exn} (h : PySem.W.nsIn K mainGlobals x.name = some none) : SubV K x := ⟨fun C k => (no_cls h k).elim⟩
theorem xcF_of {c : Exn} {C : Addr} (g : clsAt K c.name C) (m : mg c.name = some (.ref C)) (kp : PySem.W.keepIn K (.ref C) = true) (sb : PySem.W.subIn K (.ref C) (.type "BaseException") = some true) (tp : PySem.W.typeIn K (.ref C) = some (.type "type")) : XcF K mg c := ⟨C, g, m, kp, sb, tp⟩
theorem xc0_of {c : Exn} {C0 : Addr} (g : clsAt K c.name C0) (h : PySem.W.excIn K C0 [.type "ValueError", .type "Exception", .type "BaseException", .type "object"] "ValueError.__new__" = true) : Xc0 K c := ⟨fun C k => by cases k.inj g; exact h⟩
end
end Nu

namespace Nu
open PySem PySem.Spec L2
open PyProof.Rows hiding St
/-! ### min(ints, default=None) -/
section
variable {prog : Program} {w : World} {A : Around} {E : Value → Shared → Prop} {s : Shared} {l : Addr} {its : List Value} {ns : List Int} {Q : Value → Shared → Prop}
theorem min_rawD {d : Value} (hh : A.handled = none) (hl : s.heap.IsList l its.toArray) (hi : IntsAre its ns) (h0 : ns = [] → ∀ h' tk, (∀ b o, s.heap.get? b = some o → h'.get? b = some o) → Q d { s with heap := h', toks := tk })
    (h : ∀ h' tk M t', (∀ b o, s.heap.get? b = some o → h'.get? b = some o) → M ∈ ns → (∀ a, a ∈ ns → M ≤ a) → Q (.int M t') { s with heap := h', toks := tk }) : wpAny (model prog w) A (call (.builtin "min") [.ref l] [(Str.ofString "default", d)]) Q E s := by
  obtain ⟨xs, e⟩ := hi.allInts.items
  have hn : numsOf (intItems xs).toList = ns := by rw [← e]; exact hi.numsOf
  rw [nums_intItems] at hn
  subst hn
  rw [e] at hl
  refine PySem.call_min_walkD (iter_intList hl fun s₂ e2 st hfp hlI => ?_)
  subst e2
  have emp : ∀ (b : Addr) (o : Obj), ¬ ((({} : Heap).get? b) = some o) := fun b o q => by
    have := Heap.lt_size q
    exact absurd this (Nat.not_lt_zero _)
  refine ⟨_, _, _, _, _, _, _, ({} : Heap), (fun i j => decide (numAt xs i < numAt xs j)), rfl, (Walks.list (A := A.in1) hh _ l hlI (intItems xs)).toS, st, hfp, fun b o q => (emp b o q).elim, fun b o q => (emp b o q).elim, fun hz s' hm => ?_, fun hz => ⟨?_, fun v s' hv hm => ?_⟩⟩
  · have e0 : xs.toList.map (·.1) = [] := by
      have : xs.size = 0 := by simpa [intItems] using hz
      have h2 : xs.toList = [] := List.eq_nil_of_length_eq_zero (by rw [Array.length_toList]; exact this)
      rw [h2]; rfl
    rw [Moved.eq_with hm]
    exact h0 e0 _ _ (old_kept fun b o hb e => hm.heap b o hb e)
  · intro i j vi vj s3 Q3 E3 _ hi hj hq
    exact CmpOf.ints_lt (numAt xs) (fun _ _ => intItems_at) i j vi vj s3 Q3 E3 hi hj hq
  · have hsz : 0 < xs.size := by simpa [intItems] using hz
    have hv : (intItems xs)[argBest (fun i j => decide (numAt xs i < numAt xs j)) (xs.size - 1)]? = some v := by simpa [intItems] using hv
    obtain ⟨t, rfl⟩ := intItems_at hv
    obtain ⟨h1, h2⟩ := argBest_lt (numAt xs) (xs.size - 1)
    rw [Moved.eq_with hm]
    refine h _ _ _ t (old_kept fun b o hb e => hm.heap b o hb e) ?_ fun a ha => ?_
    · rw [numAt_eq]; exact PySem.getD_mem (by rw [List.length_map, Array.length_toList]; omega)
    · obtain ⟨j, hj, rfl⟩ := mem_getD ha
      rw [List.length_map, Array.length_toList] at hj
      rw [← numAt_eq]; exact h2 j (by omega)
end
section
variable {X : Cx} {a : Expr} {ta : T} {pos p kp q2 : Pos} {j : Nat}
def rMinD (K : PySem.W.Frag) : List L2.V → List L2.V → Hp → VK → Prop := fun vs zs H Q => ∃ (l : Addr) (ns : List Int) (z : L2.V), vs = [.ref l] ∧ zs = [z] ∧ SqL K H l (ns.map L2.V.int) ∧ (ns = [] → Q z H) ∧ ∀ m, m ∈ ns → (∀ y, y ∈ ns → m ≤ y) → Q (.int m) H
theorem cr_minD (hc : X.calm = true) : CallRK X (.builtin "min") [Str.ofString "default"] (rMinD X.K) := by
  intro pins s σ H vs zs us ws Q I r rz h
  obtain ⟨l, ns, z, rfl, rfl, hs, h0, h⟩ := h
  obtain ⟨its, rv, hl, _⟩ := I.list hs
  rw [Vals.ref1 r]
  obtain ⟨d, rfl, rd⟩ := vals1 rz
  show wpAny _ _ (call (.builtin "min") [.ref l] [(Str.ofString "default", d)]) _ _ _
  exact min_rawD (I.ok.hd hc) hl.isList rv.ints (fun e h' tk hk => ⟨z, H, I.kept hk, rd, h0 e⟩) fun h' tk M t' hk h1 h2 => ⟨.int _, H, I.kept hk, ⟨_, rfl⟩, h M h1 h2⟩
def sMinD : BS := fun ds m P => match ds with
  | [d] => lsR d m fun xs => ∃ ns : List Int, xs = ns.map .int ∧ (ns = [] → P .non m) ∧ ∀ z, z ∈ ns → (∀ y, y ∈ ns → z ≤ y) → P (.int z) m
  | _ => False
theorem se_minD (hm : X.mg "min" = none) (ha : SE X a ta) (hc : X.calm = true := by rfl) (hg : Gl X "min" := by rfl)
    (he : backTo pos (starEach [a] X.env) = (false, eval a X.env) :: backTo pos (starEach [] X.env) := by rfl) (he0 : starEach [a] X.env = (false, eval a X.env) :: starEach [] X.env := by rfl) (hpl : (backTo pos (starEach [a] X.env)).any (·.1) = false := by rfl)
    (hall : (backToKw pos (keywordEach [⟨some (Str.ofString "default"), .Constant .none j q2, kp⟩] X.env)).all (·.1.isSome) = true := by rfl) (hnone : (backToKw pos (keywordEach [⟨some (Str.ofString "default"), .Constant .none j q2, kp⟩] X.env)).any (·.1.isNone) = false := by rfl) (hks : (backToKw pos (keywordEach [⟨some (Str.ofString "default"), .Constant .none j q2, kp⟩] X.env)).filterMap (·.1) = [Str.ofString "default"] := by rfl) :
    SE X (.Call (.Name "min" p) [a] [⟨some (Str.ofString "default"), .Constant .none j q2, kp⟩] pos) (.bop sMinD (.cons ta .nil)) := ⟨fun ρ m P Z pp => ⟨fun F0 σ H F S Q V tk q kx => by
  refine wE_of (pe_callBK (cr_minD hc) hg hm (by decide +kernel) (pa_cons pe_w pa_nil he0) (pk_cons pe_non pk_nil) (by decide) (by decide) he hpl hall hnone hks) ?_
  refine (ha.go ρ m _ Z pp).run F0 σ H F S _ V tk (fun v H1 F1 d m1 p1 g1 r1 => ?_) kx
  have p1 : lsR d m1 fun xs => ∃ ns : List Int, xs = ns.map .int ∧ (ns = [] → P .non m1) ∧ ∀ z, z ∈ ns → (∀ y, y ∈ ns → z ≤ y) → P (.int z) m1 := p1
  obtain ⟨l, xs, ws, rfl, ⟨ns, rfl, h0, h⟩, h1, h2⟩ := lsR_use p1 g1.std r1
  have e := h2.ints
  subst e
  exact ⟨l, ns, .non, rfl, rfl, h1, fun e => q _ _ _ _ _ (h0 e) g1 .non, fun z hz hy => q _ _ _ _ _ (h z hz hy) g1 (.int _)⟩⟩⟩
end
end Nu

namespace Nu
open PySem PySem.Spec L2
open PyProof.Rows hiding St
section
variable {X : Cx} {F0 : Hp} {e tg : Expr} {t : T}
/-! ### a dict walked by its keys -/
theorem si_keys (he : SE X e t) : SI X tg e (isDct .keys) (.cons t .nil) := ⟨fun ρ m P Z p => ⟨fun F0 σ H F S R V tk q kx => by
  refine wI_of (pi_keys pe_w) ?_
  refine (he.go ρ m _ Z p).run F0 σ H F S _ V tk (fun v H1 F1 d m1 p1 g1 r1 => ?_) kx
  obtain ⟨pa, o, vs, kds, rfl, hp, p2⟩ := isDct_of p1
  cases r1
  obtain ⟨e1, rk⟩ := g1.std.cells pa _ hp
  exact ⟨pa, o, rfl, .inl ⟨vs, e1, q _ H1 F1 _ _ m1 p2 g1 (walk_dk rk.len)⟩⟩⟩⟩
end
end Nu

namespace Nu
open PySem PySem.Spec L2
open PyProof.Rows hiding St
/-! ### isinstance of an instance of an own class -/
structure IsCF (K : PySem.W.Frag) (mg : Str → Option Value) (c : Cls) : Prop where
  ex : ∃ C, clsAt K c.name C ∧ mg c.name = some (.ref C) ∧ C8.InsC K C
theorem isCF_of {K : PySem.W.Frag} {mg : Str → Option Value} {c : Cls} {C : Addr} (hC : clsAt K c.name C) (hm : mg c.name = some (.ref C)) (hc : ClsF K c) (ha : PySem.W.findIn K (.ref C) "__class__" = some (some (.builtin "object.__class__")))
    (hn : PySem.W.specialIn K (.builtin "object.__class__") "__get__" = some (some (.builtin "getset_descriptor.__get__"))) (ht : PySem.W.takesIn K (.builtin "object.__class__") = some true) (ho : PySem.W.mroIn K C (.type "object") = some true) : IsCF K mg c :=
  ⟨C, hC, hm, (hc.ex C hC).1, ha, hn, ht, ho, by unfold PySem.W.kitOne; rw [if_pos (by simp)]⟩
def sIsC (c : Cls) : BS := fun ds m P => match ds with
  | [.raw (.ref p)] => ∃ xs, m p = some (.ins c xs) ∧ P (.bl true) m
  | _ => False
theorem sIsC_of {c : Cls} {d : D} {m : MS} {P : NX} (h : sIsC c [d] m P) : ∃ p xs, d = .raw (.ref p) ∧ m p = some (.ins c xs) ∧ P (.bl true) m := by
  cases d with
  | raw w =>
    cases w with
    | ref p =>
      obtain ⟨xs, e, h⟩ := h
      exact ⟨p, xs, rfl, e, h⟩
    | _ => exact h.elim
  | _ => exact h.elim
section
variable {X : Cx} {a : Expr} {ta : T} {p p2 pos : Pos}
theorem se_isC (c : Cls) {y : Str} (hm : X.mg "isinstance" = none) (Fc : IsCF X.K X.mg c) (ha : SE X a ta) (hx : y = c.name := by rfl) (hg : Gl X "isinstance" := by rfl) (hg2 : Gl X y := by rfl) (hdb : (y == ("__debug__" : Str)) = false := by decide)
    (he : starEach [a, .Name y p2] X.env = (false, eval a X.env) :: starEach [.Name y p2] X.env := by rfl) (he2 : starEach [.Name y p2] X.env = (false, eval (.Name y p2) X.env) :: starEach [] X.env := by rfl) (hpl : (backTo pos (starEach [.Name y p2] X.env)).any (·.1) = false := by rfl) :
    SE X (.Call (.Name "isinstance" p) [a, .Name y p2] [] pos) (.bop (sIsC c) (.cons ta .nil)) := ⟨fun ρ m P Z pp => ⟨fun F0 σ H F S Q V tk q kx => by
  obtain ⟨C0, hC0, hmg, hI⟩ := Fc.ex
  subst hx
  have h1 : PE X (.Name c.name p2) (tC (.ref C0)) := pe_glob (v := .ref C0) hg2 hmg rfl hdb
  refine wE_of (pe_callB (C8.call_isC hI) hg hm (by decide +kernel) (pa_cons pe_w (pa_cons h1 pa_nil he2) he) (by decide) (by decide) he hpl) ?_
  refine (ha.go ρ m _ Z pp).run F0 σ H F S _ V tk (fun v H1 F1 d m1 p1 g1 r1 => ?_) kx
  obtain ⟨pa, xs, rfl, e, p2⟩ := sIsC_of p1
  cases r1
  obtain ⟨C, dx, vs, hC, e1, _, _⟩ := g1.std.cells _ _ e
  rw [clsAt.inj hC hC0] at e1
  exact ⟨pa, dx, _, rfl, e1, q _ _ _ _ _ p2 g1 (.bl _)⟩⟩⟩
end
end Nu

namespace My
open PySem PySem.Spec L2 Nu
open PyProof.Rows hiding St
/-! ### nb -/
/-! ### small helps -/
theorem ne_cell {m : MS} {p q : Addr} {c c' : Cell} (h : m p = some c) (k : m q = some c') (n : c ≠ c') : p ≠ q := fun e => by
  subst e; rw [h] at k; cases k; exact n rfl
theorem ne_none {m : MS} {p q : Addr} {c : Cell} (h : m p = some c) (k : m q = none) : p ≠ q := fun e => by
  subst e; rw [h] at k; cases k
theorem mset_back {m : MS} {p : Addr} {c c' : Cell} (h : m p = some c) : mset (mset m p c') p c = m := by rw [mset_mset, mset_self h]
theorem mle_new {m : MS} {p : Addr} {c : Cell} (h : m p = none) : MLe m (mset m p c) := MLe.fresh (MLe.refl m) h
/-- a comprehension whose turns change nothing -/
theorem lcP {α : Type} (L : List α) (f : α → D) (p : α → Bool) (g : α → D) {Gt : G} {ρ : Env1} {m : MS} {GG : MS → Prop} {ifs : Ts} {elt : T} {P : NX} {items : List D} (hi : items = L.map f) (hl : L.length ≤ 100000) (hG : GG m)
    (st : ∀ x ∈ L, ∃ ρ', bindG Gt (f x) (wipeR ρ Gt.vars) = some ρ' ∧ (∀ R : Bool → MS → Prop, R (p x) m → Wl ifs ρ' m R) ∧ (p x = true → ∀ R : NX, R (g x) m → W elt ρ' m R EX0))
    (q : NewL ((L.filter p).map g) m P) : items.length ≤ 100000 ∧ ∃ I : Nat → List D → MS → Prop, I 0 [] m ∧ (∀ i acc m', i ≤ items.length → I i acc m' → GG m') ∧
      (∀ i d acc m', items[i]? = some d → I i acc m' → match bindG Gt d (wipeR ρ Gt.vars) with
        | some ρ' => Wl ifs ρ' m' (fun b m'' => (b = true → W elt ρ' m'' (fun d' m3 => I (i + 1) (acc ++ [d']) m3) EX0) ∧ (b = false → I (i + 1) acc m''))
        | none => False) ∧ ∀ acc m', I items.length acc m' → NewL acc m' P := by
  subst hi
  refine ⟨by rw [List.length_map]; exact hl, fun i acc m' => m' = m ∧ acc = ((L.take i).filter p).map g, ⟨rfl, by simp⟩, fun i acc m' _ h => by rw [h.1]; exact hG, fun i d acc m' hd h => ?_, fun acc m' h => ?_⟩
  · obtain ⟨rfl, rfl⟩ := h
    rw [List.getElem?_map] at hd
    cases hx : L[i]? with
    | none => rw [hx] at hd; cases hd
    | some x =>
      rw [hx] at hd
      obtain rfl : f x = d := Option.some.inj hd
      have hi : i < L.length := (List.getElem?_eq_some_iff.mp hx).1
      have hm : x ∈ L := List.mem_of_getElem? hx
      obtain ⟨ρ', e, t1, t2⟩ := st x hm
      have et : L.take (i + 1) = L.take i ++ [x] := by rw [List.take_add_one, hx]; rfl
      rw [e]
      refine t1 _ ⟨fun b => ?_, fun b => ⟨rfl, ?_⟩⟩
      · refine t2 b _ ⟨rfl, ?_⟩
        rw [et, List.filter_append, List.map_append]
        simp [b]
      · rw [et, List.filter_append, List.map_append]
        simp [b]
  · obtain ⟨rfl, rfl⟩ := h
    rw [List.length_map, List.take_length]
    exact q
/-- .. without a test -/
theorem lcM {α : Type} (L : List α) (f g : α → D) {Gt : G} {ρ : Env1} {m : MS} {GG : MS → Prop} {elt : T} {P : NX} {items : List D} (hi : items = L.map f) (hl : L.length ≤ 100000) (hG : GG m)
    (st : ∀ x ∈ L, ∃ ρ', bindG Gt (f x) (wipeR ρ Gt.vars) = some ρ' ∧ ∀ R : NX, R (g x) m → W elt ρ' m R EX0)
    (q : NewL (L.map g) m P) : items.length ≤ 100000 ∧ ∃ I : Nat → List D → MS → Prop, I 0 [] m ∧ (∀ i acc m', i ≤ items.length → I i acc m' → GG m') ∧
      (∀ i d acc m', items[i]? = some d → I i acc m' → match bindG Gt d (wipeR ρ Gt.vars) with
        | some ρ' => Wl .nil ρ' m' (fun b m'' => (b = true → W elt ρ' m'' (fun d' m3 => I (i + 1) (acc ++ [d']) m3) EX0) ∧ (b = false → I (i + 1) acc m''))
        | none => False) ∧ ∀ acc m', I items.length acc m' → NewL acc m' P :=
  lcP L f (fun _ => true) g hi hl hG (fun x hx => by
    obtain ⟨ρ', e, t⟩ := st x hx
    exact ⟨ρ', e, fun R r => r, fun _ => t⟩) (by rw [List.filter_eq_self.mpr (by simp)]; exact q)
/-- a for over data: the invariant, its turn by the item -/
theorem foP {α : Type} (L : List α) (f : α → D) (I : Nat → Env1 → MS → Prop) {Gt : G} {ρ : Env1} {m : MS} {GG : MS → Prop} {body : SS} {E : AEnds} {items : List D} (hi : items = L.map f) (h0 : I 0 ρ m) (hG : ∀ i ρ' m', I i ρ' m' → GG m')
    (st : ∀ i x ρ' m', L[i]? = some x → I i ρ' m' → ∃ ρ2, bindG Gt (f x) ρ' = some ρ2 ∧ WB body ρ2 m' { nx := I (i + 1), rt := E.rt, bk := E.nx, ct := I (i + 1), ex := E.ex })
    (q : ∀ ρ' m', I L.length ρ' m' → E.nx ρ' m') : ∃ I : Nat → Env1 → MS → Prop, I 0 ρ m ∧ (∀ i ρ' m', I i ρ' m' → GG m') ∧
      (∀ i d ρ' m', items[i]? = some d → I i ρ' m' → match bindG Gt d ρ' with
        | some ρ2 => WB body ρ2 m' { nx := I (i + 1), rt := E.rt, bk := E.nx, ct := I (i + 1), ex := E.ex }
        | none => False) ∧ ∀ ρ' m', I items.length ρ' m' → E.nx ρ' m' := by
  subst hi
  refine ⟨I, h0, hG, fun i d ρ' m' hd h => ?_, fun ρ' m' h => q ρ' m' (by rwa [List.length_map] at h)⟩
  rw [List.getElem?_map] at hd
  cases hx : L[i]? with
  | none => rw [hx] at hd; cases hd
  | some x =>
    rw [hx] at hd
    obtain rfl : f x = d := Option.some.inj hd
    obtain ⟨ρ2, e, h2⟩ := st i x ρ' m' hx h
    rw [e]; exact h2
theorem take_succ {α : Type} {L : List α} {i : Nat} {x : α} (h : L[i]? = some x) : L.take (i + 1) = L.take i ++ [x] := by rw [List.take_add_one, h]; rfl
theorem atI_get {α : Type} {xs : List α} {i : Int} {x : α} (h0 : 0 ≤ i) (h : xs[i.toNat]? = some x) : atI xs i = some x := by
  have hi : i.toNat < xs.length := (List.getElem?_eq_some_iff.mp h).1
  unfold atI ixN
  rw [if_pos h0, if_pos (by omega)]
  exact h
/-- the same where the target is a name -/
theorem lcN {α : Type} (L : List α) (f : α → D) (p : α → Bool) (g : α → D) {v : Nat} {ρ : Env1} {m : MS} {GG : MS → Prop} {ifs : Ts} {elt : T} {P : NX} {items : List D} (hi : items = L.map f) (hl : L.length ≤ 100000) (hG : GG m)
    (st : ∀ x ∈ L, (∀ R : Bool → MS → Prop, R (p x) m → Wl ifs (setR (wipeR ρ [v]) v (f x)) m R) ∧ (p x = true → ∀ R : NX, R (g x) m → W elt (setR (wipeR ρ [v]) v (f x)) m R EX0))
    (q : NewL ((L.filter p).map g) m P) : items.length ≤ 100000 ∧ ∃ I : Nat → List D → MS → Prop, I 0 [] m ∧ (∀ i acc m', i ≤ items.length → I i acc m' → GG m') ∧
      (∀ i d acc m', items[i]? = some d → I i acc m' → Wl ifs (setR (wipeR ρ [v]) v d) m' (fun b m'' => (b = true → W elt (setR (wipeR ρ [v]) v d) m'' (fun d' m3 => I (i + 1) (acc ++ [d']) m3) EX0) ∧ (b = false → I (i + 1) acc m''))) ∧ ∀ acc m', I items.length acc m' → NewL acc m' P :=
  lcP (Gt := .name v) L f p g hi hl hG (fun x hx => ⟨_, rfl, st x hx⟩) q
theorem lcNM {α : Type} (L : List α) (f g : α → D) {v : Nat} {ρ : Env1} {m : MS} {GG : MS → Prop} {elt : T} {P : NX} {items : List D} (hi : items = L.map f) (hl : L.length ≤ 100000) (hG : GG m)
    (st : ∀ x ∈ L, ∀ R : NX, R (g x) m → W elt (setR (wipeR ρ [v]) v (f x)) m R EX0)
    (q : NewL (L.map g) m P) : items.length ≤ 100000 ∧ ∃ I : Nat → List D → MS → Prop, I 0 [] m ∧ (∀ i acc m', i ≤ items.length → I i acc m' → GG m') ∧
      (∀ i d acc m', items[i]? = some d → I i acc m' → Wl .nil (setR (wipeR ρ [v]) v d) m' (fun b m'' => (b = true → W elt (setR (wipeR ρ [v]) v d) m'' (fun d' m3 => I (i + 1) (acc ++ [d']) m3) EX0) ∧ (b = false → I (i + 1) acc m''))) ∧ ∀ acc m', I items.length acc m' → NewL acc m' P :=
  lcM (Gt := .name v) L f g hi hl hG (fun x hx => ⟨_, rfl, st x hx⟩) q
theorem foN {α : Type} (L : List α) (f : α → D) (I : Nat → Env1 → MS → Prop) {v : Nat} {ρ : Env1} {m : MS} {GG : MS → Prop} {body : SS} {E : AEnds} {items : List D} (hi : items = L.map f) (h0 : I 0 ρ m) (hG : ∀ i ρ' m', I i ρ' m' → GG m')
    (st : ∀ i x ρ' m', L[i]? = some x → I i ρ' m' → WB body (setR ρ' v (f x)) m' { nx := I (i + 1), rt := E.rt, bk := E.nx, ct := I (i + 1), ex := E.ex })
    (q : ∀ ρ' m', I L.length ρ' m' → E.nx ρ' m') : ∃ I : Nat → Env1 → MS → Prop, I 0 ρ m ∧ (∀ i ρ' m', I i ρ' m' → GG m') ∧
      (∀ i d ρ' m', items[i]? = some d → I i ρ' m' → WB body (setR ρ' v d) m' { nx := I (i + 1), rt := E.rt, bk := E.nx, ct := I (i + 1), ex := E.ex }) ∧ ∀ ρ' m', I items.length ρ' m' → E.nx ρ' m' :=
  foP (Gt := .name v) L f I hi h0 hG (fun i x ρ' m' hx h => ⟨_, rfl, st i x ρ' m' hx h⟩) q

end My
namespace My
open PySem PySem.Spec L2 Nu
open PyProof.Rows hiding St
/-! ### bk -/
/-! ### amounts, rows, books -/
abbrev Rw := Int × Int × List Int
abbrev Row := Str × Rw
def amtD (l : List Int) : D := .tup (l.map .int)
def rwD (r : Rw) : D := .tup [.int r.1, .int r.2.1, amtD r.2.2]
def rowsK (R : List Row) : List (Key × D) := R.map fun r => (.inr r.1, rwD r.2)
def bxc (a c : Int) : Cell := .lst [.int a, .int c]
def Bx (m : MS) (x : Addr) : Prop := ∃ a c, m x = some (bxc a c) ∧ 0 ≤ a ∧ 0 ≤ c ∧ c < 2147483647
def afterB (x : Addr) (m : MS) (R : MS → Prop) : Prop := ∀ a c, 0 ≤ a → 0 ≤ c → c < 2147483647 → R (mset m x (bxc a c))
theorem Bx.put {m : MS} {x : Addr} {a c : Int} (h0 : 0 ≤ a) (h1 : 0 ≤ c) (h2 : c < 2147483647) : Bx (mset m x (bxc a c)) x := ⟨a, c, mset_same, h0, h1, h2⟩
theorem Bx.dct {m : MS} {x p : Addr} {c : Cell} {k : List (Key × D)} (h : Bx m x) (e : m p = some (.dct k)) : mset m x c p = some (.dct k) := by
  obtain ⟨a, b, e2, _⟩ := h
  rw [mset_ne (ne_cell e e2 (by unfold bxc; simp))]; exact e
theorem Bx.ins {m : MS} {x p : Addr} {c : Cell} {k : Cls} {xs : List D} (h : Bx m x) (e : m p = some (.ins k xs)) : mset m x c p = some (.ins k xs) := by
  obtain ⟨a, b, e2, _⟩ := h
  rw [mset_ne (ne_cell e e2 (by unfold bxc; simp))]; exact e
theorem Bx.lst {m : MS} {x p : Addr} {c : Cell} {xs : List D} (h : Bx m x) (ne : p ≠ x) (e : m p = some (.lst xs)) : mset m x c p = some (.lst xs) := by
  rw [mset_ne ne]; exact e
theorem emod_bd (a : Int) {b : Int} (h : 0 < b) : 0 ≤ a % b ∧ a % b < b := ⟨Int.emod_nonneg _ (by omega), Int.emod_lt_of_pos _ h⟩
/-- the amounts of a book's entries at a time, one ware -/
def actv (r : Rw) (t : Int) : Bool := decide (r.1 ≤ t) && decide (t < r.2.1)
def loadI : List Rw → Int → Nat → Int
  | [], _, _ => 0
  | r :: rs, t, i => (if actv r t = true then r.2.2.getD i 0 else 0) + loadI rs t i
def loadL (w : Nat) (R : List Rw) (t : Int) : List Int := (List.range w).map fun i => loadI R t i
structure RowsOk (w : Nat) (R : List Row) : Prop where
  nd : (R.map (·.1)).Nodup
  len : ∀ r ∈ R, r.2.2.2.length = w
  pos : ∀ r ∈ R, ∀ x ∈ r.2.2.2, 0 ≤ x
  key : ∀ r ∈ R, PyData.strOk r.1 = true
def lmK (room : List Int) (top wide : Int) (q : Addr) : List (Key × D) := [(.inr "room", amtD room), (.inr "top", .int top), (.inr "wide", .int wide), (.inr "rows", .raw (.ref q))]
structure LawM (m : MS) (p q : Addr) (room : List Int) (top wide : Int) (R : List Row) : Prop where
  hp : m p = some (.dct (lmK room top wide q))
  hq : m q = some (.dct (rowsK R))
  ne : p ≠ q
structure BookM (m : MS) (b s : Addr) (room : List Int) (R : List Row) : Prop where
  hb : m b = some (.ins .Book [amtD room, .raw (.ref s)])
  hs : m s = some (.dct (rowsK R))
theorem LawM.box {m : MS} {p q x : Addr} {c : Cell} {room : List Int} {top wide : Int} {R : List Row} (h : LawM m p q room top wide R) (b : Bx m x) : LawM (mset m x c) p q room top wide R := ⟨b.dct h.hp, b.dct h.hq, h.ne⟩
theorem BookM.box {m : MS} {b s x : Addr} {c : Cell} {room : List Int} {R : List Row} (h : BookM m b s room R) (k : Bx m x) : BookM (mset m x c) b s room R := ⟨k.ins h.hb, k.dct h.hs⟩
theorem zipD_map {l r : List Int} : zipD (l.map D.int) (r.map D.int) = (l.zip r).map fun p => D.tup [.int p.1, .int p.2] := by
  unfold zipD
  rw [List.zip_map, List.map_map]; rfl
theorem kds_vals (R : List Row) : DW.its .vals (rowsK R) = R.map fun r => rwD r.2 := by
  unfold rowsK; show List.map _ (List.map _ R) = _; rw [List.map_map]; rfl
theorem kds_items (R : List Row) : DW.its .items (rowsK R) = R.map fun r => D.tup [.str r.1, rwD r.2] := by
  unfold rowsK; show List.map _ (List.map _ R) = _; rw [List.map_map]; rfl
theorem loadI_app (A B : List Rw) (t : Int) (i : Nat) : loadI (A ++ B) t i = loadI A t i + loadI B t i := by
  induction A with
  | nil => simp [loadI]
  | cons a A ih => rw [List.cons_append, loadI, loadI, ih]; omega
theorem loadL_len {w : Nat} {R : List Rw} {t : Int} : (loadL w R t).length = w := by unfold loadL; simp
/-- two lists of one length alike at each place -/
theorem ext_getD {a b : List Int} {w : Nat} (ha : a.length = w) (hb : b.length = w) (h : ∀ i, i < w → a.getD i 0 = b.getD i 0) : a = b := by
  refine List.ext_getElem (by omega) fun i h1 h2 => ?_
  have := h i (by omega)
  rw [List.getD_eq_getElem?_getD, List.getD_eq_getElem?_getD, List.getElem?_eq_getElem h1, List.getElem?_eq_getElem h2] at this
  exact this
theorem zipWith_getD {f : Int → Int → Int} {a b : List Int} {w : Nat} (ha : a.length = w) (hb : b.length = w) {i : Nat} (hi : i < w) : (List.zipWith f a b).getD i 0 = f (a.getD i 0) (b.getD i 0) := by
  rw [List.getD_eq_getElem?_getD, List.getD_eq_getElem?_getD, List.getD_eq_getElem?_getD, List.getElem?_zipWith, List.getElem?_eq_getElem (show i < a.length by omega), List.getElem?_eq_getElem (show i < b.length by omega)]
  rfl
theorem loadL_get {w : Nat} {R : List Rw} {t : Int} {i : Nat} (hi : i < w) : (loadL w R t).getD i 0 = loadI R t i := by
  unfold loadL
  rw [List.getD_eq_getElem?_getD, List.getElem?_map, List.getElem?_eq_getElem (by simpa using hi)]
  simp
theorem loadL_add {w : Nat} {R : List Rw} {t : Int} {r : Rw} (hr : r.2.2.length = w) (ha : actv r t = true) : List.zipWith (· + ·) (loadL w R t) r.2.2 = loadL w (R ++ [r]) t := by
  refine ext_getD (w := w) (by rw [List.length_zipWith, loadL_len, hr]; omega) loadL_len fun i hi => ?_
  rw [zipWith_getD loadL_len hr hi, loadL_get hi, loadL_get hi, loadI_app]
  simp only [loadI, ha, if_true]
  omega
theorem loadL_skip {w : Nat} {R : List Rw} {t : Int} {r : Rw} (ha : actv r t = false) : loadL w (R ++ [r]) t = loadL w R t := by
  refine ext_getD (w := w) loadL_len loadL_len fun i hi => ?_
  rw [loadL_get hi, loadL_get hi, loadI_app]
  simp [loadI, ha]
theorem loadL_nil {w : Nat} {t : Int} : loadL w [] t = List.replicate w 0 := by
  refine ext_getD (w := w) loadL_len (by simp) fun i hi => ?_
  rw [loadL_get hi, List.getD_eq_getElem?_getD, List.getElem?_replicate]
  simp [loadI, hi]
theorem zipW_map {f : Int → Int → Int} : ∀ (a b : List Int), (a.zip b).map (fun p => D.int (f p.1 p.2)) = (List.zipWith f a b).map D.int
  | [], _ => by simp
  | _ :: _, [] => rfl
  | x :: a, y :: b => by
    rw [List.zip_cons_cons, List.map_cons, List.zipWith_cons_cons, List.map_cons, zipW_map a b]
theorem LawM.lk {m : MS} {p q : Addr} {room : List Int} {top wide : Int} {R : List Row} {c : Cell} (h : LawM m p q room top wide R) : mset m q c p = some (.dct (lmK room top wide q)) := by rw [mset_ne h.ne]; exact h.hp
theorem BookM.lk {m : MS} {b s : Addr} {room : List Int} {R : List Row} {c : Cell} (h : BookM m b s room R) : mset m s c b = some (.ins .Book [amtD room, .raw (.ref s)]) := by
  rw [mset_ne (ne_cell h.hb h.hs (by simp))]; exact h.hb

end My
namespace My
open PySem PySem.Spec L2 Nu
open PyProof.Rows hiding St
/-! ### fm -/
/-! ### the first time at which there is more than the room; what is left; the next edge -/
theorem cover_t {A : List Int} {R : List Rw} {b e s : Int} (hb : b ∈ A) (hR : ∀ r ∈ R, b < r.1 → r.1 < e → r.1 ∈ A) (h1 : b ≤ s) (h2 : s < e) : ∃ t ∈ A, b ≤ t ∧ t ≤ s ∧ ∀ r ∈ R, r.1 ≤ s → r.1 ≤ t := by
  induction R with
  | nil => exact ⟨b, hb, Int.le_refl _, h1, fun r hr => by cases hr⟩
  | cons a R ih =>
    obtain ⟨t, ht, k1, k2, k3⟩ := ih fun r hr => hR r (List.mem_cons_of_mem _ hr)
    by_cases hc : a.1 ≤ s ∧ t < a.1
    · refine ⟨a.1, hR a (List.mem_cons_self ..) (by omega) (by omega), by omega, hc.1, fun r hr hs => ?_⟩
      rcases List.mem_cons.mp hr with rfl | hr
      · exact Int.le_refl _
      · have := k3 r hr hs; omega
    · refine ⟨t, ht, k1, k2, fun r hr hs => ?_⟩
      rcases List.mem_cons.mp hr with rfl | hr
      · omega
      · exact k3 r hr hs
theorem loadI_le {R : List Rw} {t s : Int} {i : Nat} (hp : ∀ r ∈ R, 0 ≤ r.2.2.getD i 0) (h : t ≤ s) (hc : ∀ r ∈ R, r.1 ≤ s → r.1 ≤ t) : loadI R s i ≤ loadI R t i := by
  induction R with
  | nil => exact Int.le_refl _
  | cons a R ih =>
    have h1 := ih (fun r hr => hp r (List.mem_cons_of_mem _ hr)) fun r hr => hc r (List.mem_cons_of_mem _ hr)
    have h2 := hp a (List.mem_cons_self ..)
    have h3 := hc a (List.mem_cons_self ..)
    unfold loadI
    by_cases e : actv a s = true
    · have e' : actv a t = true := by
        unfold actv at e ⊢
        rw [Bool.and_eq_true, decide_eq_true_eq, decide_eq_true_eq] at e ⊢
        have := h3 e.1
        omega
      rw [if_pos e, if_pos e']; omega
    · rw [if_neg e]
      split <;> omega
theorem getD_pos {l : List Int} (h : ∀ x ∈ l, 0 ≤ x) (i : Nat) : 0 ≤ l.getD i 0 := by
  rw [List.getD_eq_getElem?_getD]
  cases e : l[i]? with
  | none => exact Int.le_refl _
  | some x => exact h x (List.mem_of_getElem? e)
def ovr (w : Nat) (room : List Int) (R : List Rw) (l : List Int) (t : Int) : Prop := ∃ i, i < w ∧ room.getD i 0 < loadI R t i + l.getD i 0
def FM (w : Nat) (room : List Int) (R : List Rw) (b e : Int) (l : List Int) : Option Int → Prop
  | some t => b ≤ t ∧ t < e ∧ ovr w room R l t ∧ ∀ s, b ≤ s → s < t → ¬ ovr w room R l s
  | none => ∀ s, b ≤ s → s < e → ¬ ovr w room R l s
theorem FM.one {w : Nat} {room : List Int} {R : List Rw} {b e : Int} {l : List Int} : ∀ {o o' : Option Int}, FM w room R b e l o → FM w room R b e l o' → o = o'
  | none, none, _, _ => rfl
  | none, some t, h, k => absurd k.2.2.1 (h t k.1 k.2.1)
  | some t, none, h, k => absurd h.2.2.1 (k t h.1 h.2.1)
  | some t, some t', h, k => by
    rcases Int.lt_trichotomy t t' with c | c | c
    · exact absurd h.2.2.1 (k.2.2.2 t h.1 c)
    · rw [c]
    · exact absurd k.2.2.1 (h.2.2.2 t' k.1 c)
/-- a list of times that tells of the whole stretch -/
structure Times (R : List Rw) (b e : Int) (A : List Int) : Prop where
  has : b ∈ A
  rise : ∀ r ∈ R, b < r.1 → r.1 < e → r.1 ∈ A
  inn : ∀ t ∈ A, b ≤ t ∧ t < e
theorem ovr_back {w : Nat} {room : List Int} {R : List Rw} {b e : Int} {l A : List Int} (hp : ∀ r ∈ R, ∀ x ∈ r.2.2, 0 ≤ x) (T : Times R b e A) {s : Int} (h1 : b ≤ s) (h2 : s < e) (o : ovr w room R l s) : ∃ t ∈ A, t ≤ s ∧ ovr w room R l t := by
  obtain ⟨t, ht, _, k2, k3⟩ := cover_t T.has T.rise h1 h2
  obtain ⟨i, hi, h⟩ := o
  have := loadI_le (i := i) (fun r hr => getD_pos (hp r hr) i) k2 k3
  exact ⟨t, ht, k2, i, hi, by omega⟩
theorem FM.of_none {w : Nat} {room : List Int} {R : List Rw} {b e : Int} {l A : List Int} (hp : ∀ r ∈ R, ∀ x ∈ r.2.2, 0 ≤ x) (T : Times R b e A) (h : ∀ t ∈ A, ¬ ovr w room R l t) : FM w room R b e l none := fun s h1 h2 o => by
  obtain ⟨t, ht, _, k⟩ := ovr_back hp T h1 h2 o
  exact h t ht k
theorem FM.of_some {w : Nat} {room : List Int} {R : List Rw} {b e : Int} {l A : List Int} (hp : ∀ r ∈ R, ∀ x ∈ r.2.2, 0 ≤ x) (T : Times R b e A) (hs : A.Pairwise (· ≤ ·)) {k : Nat} {t : Int} (ht : A[k]? = some t) (o : ovr w room R l t)
    (h : ∀ u ∈ A.take k, ¬ ovr w room R l u) : FM w room R b e l (some t) := by
  have hm := T.inn t (List.mem_of_getElem? ht)
  refine ⟨hm.1, hm.2, o, fun s h1 h2 os => ?_⟩
  obtain ⟨u, hu, hus, ou⟩ := ovr_back hp T h1 (by omega) os
  obtain ⟨j, hj⟩ := List.getElem?_of_mem hu
  have hjl : j < A.length := (List.getElem?_eq_some_iff.mp hj).1
  have hkl : k < A.length := (List.getElem?_eq_some_iff.mp ht).1
  rcases Nat.lt_or_ge j k with c | c
  · exact h u (List.mem_of_getElem? (i := j) (by rw [List.getElem?_take]; rw [if_pos c]; exact hj)) ou
  · have ej : A[j] = u := (List.getElem?_eq_some_iff.mp hj).2
    have ek : A[k] = t := (List.getElem?_eq_some_iff.mp ht).2
    rcases Nat.lt_or_ge k j with c' | c'
    · have := List.pairwise_iff_getElem.mp hs k j hkl hjl c'
      omega
    · have : j = k := by omega
      subst this; omega
/-! what is left -/
def minI (i j : Int) : Int := if j < i then j else i
def LP (w : Nat) (room : List Int) (R : List Rw) (T l : List Int) : Prop := l.length = w ∧ ∀ i, i < w → l.getD i 0 ≤ room.getD i 0 ∧ (∀ t ∈ T, l.getD i 0 ≤ room.getD i 0 - loadI R t i) ∧ (l.getD i 0 = room.getD i 0 ∨ ∃ t ∈ T, l.getD i 0 = room.getD i 0 - loadI R t i)
def LF (w : Nat) (room : List Int) (R : List Rw) (b e : Int) (l : List Int) : Prop := l.length = w ∧ ∀ i, i < w → l.getD i 0 ≤ room.getD i 0 ∧ (∀ t, b ≤ t → t < e → l.getD i 0 ≤ room.getD i 0 - loadI R t i) ∧ (l.getD i 0 = room.getD i 0 ∨ ∃ t, b ≤ t ∧ t < e ∧ l.getD i 0 = room.getD i 0 - loadI R t i)
theorem LF.one {w : Nat} {room : List Int} {R : List Rw} {b e : Int} {l l' : List Int} (h : LF w room R b e l) (k : LF w room R b e l') : l = l' := by
  refine ext_getD h.1 k.1 fun i hi => ?_
  obtain ⟨h1, h2, h3⟩ := h.2 i hi
  obtain ⟨k1, k2, k3⟩ := k.2 i hi
  have a : l'.getD i 0 ≤ l.getD i 0 := by
    rcases h3 with h3 | ⟨t, t1, t2, h3⟩
    · omega
    · have := k2 t t1 t2; omega
  have b : l.getD i 0 ≤ l'.getD i 0 := by
    rcases k3 with k3 | ⟨t, t1, t2, k3⟩
    · omega
    · have := h2 t t1 t2; omega
  omega
theorem LP.nil {w : Nat} {room : List Int} {R : List Rw} (h : room.length = w) : LP w room R [] room := ⟨h, fun i hi => ⟨Int.le_refl _, (fun t (ht : t ∈ ([] : List Int)) => nomatch ht), .inl rfl⟩⟩
theorem LP.step {w : Nat} {room : List Int} {R : List Rw} {T l l' : List Int} {t : Int} (h : LP w room R T l) (hl : l'.length = w) (e : ∀ i, i < w → l'.getD i 0 = minI (l.getD i 0) (room.getD i 0 - loadI R t i)) : LP w room R (T ++ [t]) l' := by
  refine ⟨hl, fun i hi => ?_⟩
  obtain ⟨h1, h2, h3⟩ := h.2 i hi
  rw [e i hi]
  unfold minI
  split
  · next c =>
    refine ⟨by omega, fun u hu => ?_, .inr ⟨t, by simp, rfl⟩⟩
    rcases List.mem_append.mp hu with hu | hu
    · have := h2 u hu; omega
    · rw [List.mem_singleton.mp hu]; exact Int.le_refl _
  · next c =>
    refine ⟨h1, fun u hu => ?_, ?_⟩
    · rcases List.mem_append.mp hu with hu | hu
      · exact h2 u hu
      · rw [List.mem_singleton.mp hu]; omega
    · rcases h3 with h3 | ⟨u, hu, h3⟩
      · exact .inl h3
      · exact .inr ⟨u, List.mem_append_left _ hu, h3⟩
theorem LP.done {w : Nat} {room : List Int} {R : List Rw} {b e : Int} {A l : List Int} (hp : ∀ r ∈ R, ∀ x ∈ r.2.2, 0 ≤ x) (T : Times R b e A) (h : LP w room R A l) : LF w room R b e l := by
  refine ⟨h.1, fun i hi => ?_⟩
  obtain ⟨h1, h2, h3⟩ := h.2 i hi
  refine ⟨h1, fun s s1 s2 => ?_, ?_⟩
  · obtain ⟨t, ht, _, k2, k3⟩ := cover_t T.has T.rise s1 s2
    have := loadI_le (i := i) (fun r hr => getD_pos (hp r hr) i) k2 k3
    have := h2 t ht
    omega
  · rcases h3 with h3 | ⟨t, ht, h3⟩
    · exact .inl h3
    · exact .inr ⟨t, (T.inn t ht).1, (T.inn t ht).2, h3⟩
/-! the least later one -/
def optD : Option Int → D
  | some t => .int t
  | none => .non
def NL (E : List Int) (time : Int) : Option Int → Prop
  | some t => t ∈ E ∧ time < t ∧ ∀ u ∈ E, time < u → t ≤ u
  | none => ∀ u ∈ E, u ≤ time
theorem NL.one {E : List Int} {time : Int} : ∀ {o o' : Option Int}, NL E time o → NL E time o' → o = o'
  | none, none, _, _ => rfl
  | none, some t, h, k => by have h1 := h t k.1; have h2 := k.2.1; omega
  | some t, none, h, k => by have h1 := k t h.1; have h2 := h.2.1; omega
  | some t, some t', h, k => by
    have h1 := h.2.2 t' k.1 k.2.1
    have h2 := k.2.2 t h.1 h.2.1
    rw [show t = t' by omega]
def edgesI (R : List Rw) : List Int := R.flatMap fun r => [r.1, r.2.1]
theorem fst_edge {R : List Rw} {r : Rw} (h : r ∈ R) : r.1 ∈ edgesI R := List.mem_flatMap.mpr ⟨r, h, by simp⟩
/-- times of the rises, or of all edges -/
theorem Times.of {R : List Rw} {b e : Int} {E : List Int} (hbe : b < e) (hE : ∀ r ∈ R, r.1 ∈ E) : Times R b e ([b] ++ E.filter fun t => decide (b < t) && decide (t < e)) := by
  refine ⟨by simp, fun r hr h1 h2 => List.mem_append_right _ (List.mem_filter.mpr ⟨hE r hr, by simp [h1, h2]⟩), fun t ht => ?_⟩
  rcases List.mem_append.mp ht with ht | ht
  · rw [List.mem_singleton.mp ht]; exact ⟨Int.le_refl _, hbe⟩
  · have := (List.mem_filter.mp ht).2
    rw [Bool.and_eq_true, decide_eq_true_eq, decide_eq_true_eq] at this
    omega
theorem times_pw {E : List Int} {b e : Int} (h : E.Pairwise (· ≤ ·)) : ([b] ++ E.filter fun t => decide (b < t) && decide (t < e)).Pairwise (· ≤ ·) := by
  refine List.pairwise_cons.mpr ⟨fun t ht => ?_, h.sublist List.filter_sublist⟩
  have := (List.mem_filter.mp ht).2
  rw [Bool.and_eq_true, decide_eq_true_eq, decide_eq_true_eq] at this
  omega

end My
namespace My
open PySem PySem.Spec L2 Nu
open PyProof.Rows hiding St
/-! ### srt -/
/-! ### one sorted list of texts, one sorted list of numbers -/
abbrev leS (a b : Str) : Prop := ltCps b.cps.toList a.cps.toList = false
theorem leS_iff {a b : Str} : leS a b ↔ ¬ (b.cps.toList < a.cps.toList) := by
  unfold leS; rw [ltCps_eq]; simp
theorem leS_trans {a b c : Str} (h : leS a b) (k : leS b c) : leS a c := by
  rw [leS_iff] at *
  rw [List.not_lt] at *
  exact List.le_trans h k
theorem leS_asymm {a b : Str} (h : leS a b) (k : leS b a) : a = b := by
  rw [leS_iff] at *
  rw [List.not_lt] at *
  exact Str.ext' (Array.toList_inj.mp (List.le_antisymm h k))
theorem rising_pw : ∀ {p : Str} {l : List Str}, risingS p l = true → (p :: l).Pairwise leS
  | p, [], _ => by simp
  | p, x :: r, h => by
    unfold risingS at h
    rw [Bool.and_eq_true] at h
    have h1 : leS p x := by simpa using h.1
    have h2 := rising_pw h.2
    refine List.pairwise_cons.mpr ⟨fun y hy => ?_, h2⟩
    rcases List.mem_cons.mp hy with rfl | hy
    · exact h1
    · exact leS_trans h1 ((List.pairwise_cons.mp h2).1 y hy)
theorem sorted_pw : ∀ {l : List Str}, sortedS l = true → l.Pairwise leS
  | [], _ => by simp
  | x :: r, h => rising_pw h
theorem pw_unique {α : Type} {le : α → α → Prop} (as : ∀ a b, le a b → le b a → a = b) : ∀ {l l' : List α}, l.Pairwise le → l'.Pairwise le → l.Perm l' → l = l'
  | [], l', _, _, p => (List.nil_perm.mp p).symm
  | a :: l, [], _, _, p => by have := p.length_eq; simp at this
  | a :: l, b :: l', h, h', p => by
    have e : a = b := by
      have ha : a ∈ b :: l' := p.subset (List.mem_cons_self ..)
      have hb : b ∈ a :: l := p.symm.subset (List.mem_cons_self ..)
      rcases List.mem_cons.mp ha with e | ha
      · exact e
      · rcases List.mem_cons.mp hb with e | hb
        · exact e.symm
        · exact as _ _ ((List.pairwise_cons.mp h).1 b hb) ((List.pairwise_cons.mp h').1 a ha)
    subst e
    rw [pw_unique as (List.pairwise_cons.mp h).2 (List.pairwise_cons.mp h').2 ((List.perm_cons a).mp p)]
theorem sortedS_unique {l l' : List Str} (h : sortedS l = true) (h' : sortedS l' = true) (p : l.Perm l') : l = l' := pw_unique (fun _ _ => leS_asymm) (sorted_pw h) (sorted_pw h') p
theorem ints_unique {l l' : List Int} (h : l.Pairwise (· ≤ ·)) (h' : l'.Pairwise (· ≤ ·)) (p : l.Perm l') : l = l' := pw_unique (fun _ _ => Int.le_antisymm) h h' p

end My
namespace My
open PySem PySem.Spec L2 Nu
open PyProof.Rows hiding St
/-! ### stp -/
/-! ### what is due, as functions -/
noncomputable def the {α : Type} [Inhabited α] (p : α → Prop) : α := by
  classical exact if h : ∃ a, p a then Classical.choose h else default
theorem the_eq {α : Type} [Inhabited α] {p : α → Prop} (one : ∀ a b, p a → p b → a = b) {a : α} (h : p a) : the p = a := by
  classical
  unfold the
  rw [dif_pos ⟨a, h⟩]
  exact one _ _ (Classical.choose_spec (⟨a, h⟩ : ∃ a, p a)) h
abbrev rws (R : List Row) : List Rw := R.map (·.2)
noncomputable def fmT (w : Nat) (room : List Int) (R : List Rw) (b e : Int) (l : List Int) : Option Int := the (FM w room R b e l)
theorem fmT_eq {w : Nat} {room : List Int} {R : List Rw} {b e : Int} {l : List Int} {o : Option Int} (h : FM w room R b e l o) : fmT w room R b e l = o := the_eq (fun _ _ => FM.one) h
noncomputable def lfT (w : Nat) (room : List Int) (R : List Rw) (b e : Int) : List Int := the (LF w room R b e)
theorem lfT_eq {w : Nat} {room : List Int} {R : List Rw} {b e : Int} {l : List Int} (h : LF w room R b e l) : lfT w room R b e = l := the_eq (fun _ _ => LF.one) h
noncomputable def nlT (E : List Int) (t : Int) : Option Int := the (NL E t)
theorem nlT_eq {E : List Int} {t : Int} {o : Option Int} (h : NL E t o) : nlT E t = o := the_eq (fun _ _ => NL.one) h
noncomputable def srtT (ks : List Str) : List Str := the fun ys => ys.Perm ks ∧ sortedS ys = true
theorem srtT_eq {ks ys : List Str} (p : ys.Perm ks) (h : sortedS ys = true) : srtT ks = ys :=
  the_eq (fun (_ _ : List Str) a b => sortedS_unique a.2 b.2 (List.Perm.trans a.1 (List.Perm.symm b.1))) (And.intro p h)
abbrev keysR (R : List Row) : List Str := R.map (·.1)
def rowOf (R : List Row) (k : Str) : Option Rw := (R.find? fun r => decide (r.1 = k)).map (·.2)
def putR (R : List Row) (k : Str) (r : Rw) : List Row := if R.any (fun x => decide (x.1 = k)) = true then R.map (fun x => if x.1 = k then (x.1, r) else x) else R ++ [(k, r)]
def delR (R : List Row) (k : Str) : List Row := R.filter fun x => !decide (x.1 = k)
theorem val_rows : ∀ (R : List Row) (k : Str), valD (rowsK R) (.inr k) = (rowOf R k).map rwD
  | [], _ => rfl
  | r :: R, k => by
    unfold valD rowsK rowOf
    rw [List.map_cons, List.find?_cons, List.find?_cons]
    by_cases e : r.1 = k
    · simp [e]
    · have e' : ¬ ((Sum.inr r.1 : Key) = Sum.inr k) := fun h => e (Sum.inr.inj h)
      rw [decide_eq_false e, decide_eq_false e']
      exact val_rows R k
theorem any_rows (R : List Row) (k : Str) : (rowsK R).any (fun kv => decide (kv.1 = .inr k)) = R.any fun x => decide (x.1 = k) := by
  unfold rowsK
  rw [List.any_map]
  congr 1
  funext x
  simp
theorem put_rows (R : List Row) (k : Str) (r : Rw) : putD (rowsK R) (.inr k) (rwD r) = rowsK (putR R k r) := by
  unfold putD putR
  rw [any_rows]
  split
  · unfold rowsK
    rw [List.map_map, List.map_map]
    refine List.map_congr_left fun x _ => ?_
    by_cases e : x.1 = k
    · simp [e]
    · simp [e]
  · unfold rowsK; rw [List.map_append]; rfl
theorem del_rows (R : List Row) (k : Str) : dropD (rowsK R) (.inr k) = rowsK (delR R k) := by
  unfold dropD delR rowsK
  rw [List.filter_map]
  congr 2
  funext x
  simp
theorem rowsK_len (R : List Row) : (rowsK R).length = R.length := by unfold rowsK; rw [List.length_map]
theorem rowsK_keys (R : List Row) : (rowsK R).map (·.1) = (keysR R).map Sum.inr := by unfold rowsK; rw [List.map_map, List.map_map]; rfl
theorem any_mem (R : List Row) (k : Str) : R.any (fun x => decide (x.1 = k)) = true ↔ k ∈ keysR R := by
  rw [List.any_eq_true, List.mem_map]
  constructor
  · rintro ⟨x, hx, e⟩; exact ⟨x, hx, by simpa using e⟩
  · rintro ⟨x, hx, e⟩; exact ⟨x, hx, by simpa using e⟩
theorem rowOf_none {R : List Row} {k : Str} : rowOf R k = none ↔ k ∉ keysR R := by
  unfold rowOf
  rw [Option.map_eq_none_iff, List.find?_eq_none, List.mem_map]
  constructor
  · rintro h ⟨x, hx, e⟩; exact h x hx (by simpa using e)
  · intro h x hx e; exact h ⟨x, hx, by simpa using e⟩
theorem rowOf_some {R : List Row} {k : Str} {r : Rw} (h : rowOf R k = some r) : (k, r) ∈ R := by
  unfold rowOf at h
  obtain ⟨x, hx, e⟩ := Option.map_eq_some_iff.mp h
  have h1 := List.find?_some hx
  have h2 := List.mem_of_find?_eq_some hx
  have : x.1 = k := by simpa using h1
  rw [← e, ← this]; exact h2
theorem rowOf_mem {R : List Row} {k : Str} (h : k ∈ keysR R) : ∃ r, rowOf R k = some r := by
  cases e : rowOf R k with
  | none => exact absurd h (rowOf_none.mp e)
  | some r => exact ⟨r, rfl⟩
theorem val_some (R : List Row) (k : Str) : (valD (rowsK R) (.inr k)).isSome = decide (k ∈ keysR R) := by
  rw [val_rows]
  cases e : rowOf R k with
  | none => simp [rowOf_none.mp e]
  | some r => simp [List.mem_map]; exact ⟨r.1, r.2.1, r.2.2, rowOf_some e⟩
/-! deeds and what they tell -/
inductive Deed where
  | put (k : Str) (b e : Int) (l : List Int)
  | cut (k : Str) (t : Int)
  | stretch (k : Str) (t : Int)
  | drop (k : Str)
  | past (t : Int)
def Deed.word : Deed → Str
  | .put .. => "put" | .cut .. => "cut" | .stretch .. => "stretch" | .drop .. => "drop" | .past .. => "past"
def deedD : Deed → D
  | .put k b e l => .tup [.str "put", .str k, .int b, .int e, amtD l]
  | .cut k t => .tup [.str "cut", .str k, .int t]
  | .stretch k t => .tup [.str "stretch", .str k, .int t]
  | .drop k => .tup [.str "drop", .str k]
  | .past t => .tup [.str "past", .int t]
inductive Out where
  | told | gone (g : List Str) | taken | nokey | more (t : Int)
def outD : Out → D
  | .told => .tup [.str "told", .non]
  | .gone g => .tup [.str "told", .lst (g.map .str)]
  | .taken => .tup [.str "Taken", .non]
  | .nokey => .tup [.str "NoKey", .non]
  | .more t => .tup [.str "TooMuch", .int t]
noncomputable def goneT (R : List Row) (t : Int) : List Str := srtT ((R.filter fun r => decide (r.2.2.1 ≤ t)).map (·.1))
noncomputable def stepR (w : Nat) (room : List Int) (R : List Row) : Deed → Out × List Row
  | .put k b e l => if k ∈ keysR R then (.taken, R) else match fmT w room (rws R) b e l with
    | some t => (.more t, R)
    | none => (.told, putR R k (b, e, l))
  | .cut k t => match rowOf R k with
    | none => (.nokey, R)
    | some (b, e, l) => if t ≤ b then (.told, delR R k) else (.told, putR R k (b, if t < e then t else e, l))
  | .stretch k t => match rowOf R k with
    | none => (.nokey, R)
    | some (b, e, l) => if e < t then match fmT w room (rws R) e t l with
      | some u => (.more u, R)
      | none => (.told, putR R k (b, t, l)) else (.told, R)
  | .drop k => match rowOf R k with
    | none => (.nokey, R)
    | some _ => (.told, delR R k)
  | .past t => (.gone (goneT R t), (goneT R t).foldl delR R)
def fitD (w : Nat) : Deed → Prop
  | .put k b e l => b < e ∧ l.length = w ∧ (∀ x ∈ l, 0 ≤ x) ∧ PyData.strOk k = true
  | _ => True
theorem del_ok {w : Nat} {R : List Row} {k : Str} (h : RowsOk w R) : RowsOk w (delR R k) :=
  ⟨h.nd.sublist (List.filter_sublist.map _), fun r hr => h.len r (List.mem_filter.mp hr).1, fun r hr => h.pos r (List.mem_filter.mp hr).1, fun r hr => h.key r (List.mem_filter.mp hr).1⟩
theorem put_keys (R : List Row) (k : Str) (r : Rw) : keysR (putR R k r) = if k ∈ keysR R then keysR R else keysR R ++ [k] := by
  unfold putR
  by_cases e : k ∈ keysR R
  · rw [if_pos e, if_pos ((any_mem R k).mpr e)]
    show List.map _ (List.map _ R) = _
    rw [List.map_map]
    refine List.map_congr_left fun x _ => ?_
    show (if x.1 = k then (x.1, r) else x).1 = x.1
    split <;> rfl
  · rw [if_neg e, if_neg (fun h => e ((any_mem R k).mp h))]
    show List.map _ (R ++ [(k, r)]) = _
    rw [List.map_append]; rfl
theorem put_mem {R : List Row} {k : Str} {r : Rw} {x : Row} (h : x ∈ putR R k r) : x ∈ R ∨ x = (k, r) := by
  unfold putR at h
  split at h
  · obtain ⟨y, hy, e⟩ := List.mem_map.mp h
    split at e
    · next c => rw [c] at e; exact .inr e.symm
    · rw [← e]; exact .inl hy
  · rcases List.mem_append.mp h with h | h
    · exact .inl h
    · exact .inr (List.mem_singleton.mp h)
theorem put_ok {w : Nat} {R : List Row} {k : Str} {r : Rw} (h : RowsOk w R) (h1 : r.2.2.length = w) (h2 : ∀ x ∈ r.2.2, 0 ≤ x) (h3 : PyData.strOk k = true) : RowsOk w (putR R k r) := by
  refine ⟨?_, fun x hx => ?_, fun x hx => ?_, fun x hx => ?_⟩
  · show (keysR (putR R k r)).Nodup
    rw [put_keys]
    split
    · exact h.nd
    · next c => exact List.nodup_append.mpr ⟨h.nd, by simp, fun a ha b hb => by rw [List.mem_singleton.mp hb]; rintro rfl; exact c ha⟩
  · rcases put_mem hx with hx | rfl
    · exact h.len x hx
    · exact h1
  · rcases put_mem hx with hx | rfl
    · exact h.pos x hx
    · exact h2
  · rcases put_mem hx with hx | rfl
    · exact h.key x hx
    · exact h3
theorem dels_ok {w : Nat} : ∀ (g : List Str) {R : List Row}, RowsOk w R → RowsOk w (g.foldl delR R)
  | [], _, h => h
  | _ :: g, _, h => dels_ok g (del_ok h)
theorem del_keys {R : List Row} {k x : Str} (h : x ∈ keysR (delR R k)) : x ∈ keysR R := by
  obtain ⟨y, hy, e⟩ := List.mem_map.mp h
  exact List.mem_map.mpr ⟨y, (List.mem_filter.mp hy).1, e⟩
theorem del_len (R : List Row) (k : Str) : (delR R k).length ≤ R.length := List.length_filter_le ..
theorem dels_keys : ∀ (g : List Str) {R : List Row} {x : Str}, x ∈ keysR (g.foldl delR R) → x ∈ keysR R
  | [], _, _, h => h
  | _ :: g, _, _, h => del_keys (dels_keys g h)
theorem dels_len : ∀ (g : List Str) (R : List Row), (g.foldl delR R).length ≤ R.length
  | [], _ => Nat.le_refl _
  | k :: g, R => Nat.le_trans (dels_len g (delR R k)) (del_len R k)
theorem put_len (R : List Row) (k : Str) (r : Rw) : (putR R k r).length ≤ R.length + 1 := by
  have := congrArg List.length (put_keys R k r)
  rw [List.length_map] at this
  rw [this]
  split
  · rw [List.length_map]; omega
  · rw [List.length_append, List.length_map]; simp
theorem put_there {R : List Row} {k : Str} {r x : Rw} (h : rowOf R k = some x) : keysR (putR R k r) = keysR R := by
  rw [put_keys, if_pos (List.mem_map.mpr ⟨_, rowOf_some h, rfl⟩)]
/-- the rows stay sound, and a put alone makes a new key -/
theorem step_ok {w : Nat} {room : List Int} {R : List Row} {d : Deed} (h : RowsOk w R) (hd : fitD w d) : RowsOk w (stepR w room R d).2 := by
  cases d with
  | put k b e l =>
    simp only [stepR]
    split
    · exact h
    · split
      · exact h
      · exact put_ok h hd.2.1 hd.2.2.1 hd.2.2.2
  | cut k t =>
    simp only [stepR]
    split
    · exact h
    · next b e l e1 =>
      have hm := rowOf_some e1
      split
      · exact del_ok h
      · exact put_ok h (h.len _ hm) (h.pos _ hm) (h.key _ hm)
  | stretch k t =>
    simp only [stepR]
    split
    · exact h
    · next b e l e1 =>
      have hm := rowOf_some e1
      split
      · split
        · exact h
        · exact put_ok h (h.len _ hm) (h.pos _ hm) (h.key _ hm)
      · exact h
  | drop k =>
    simp only [stepR]
    split
    · exact h
    · exact del_ok h
  | past t => exact dels_ok _ h
theorem step_keys {w : Nat} {room : List Int} {R : List Row} {d : Deed} {x : Str} (h : x ∈ keysR (stepR w room R d).2) : x ∈ keysR R ∨ ∃ b e l, d = .put x b e l := by
  cases d with
  | put k b e l =>
    simp only [stepR] at h
    split at h
    · exact .inl h
    · split at h
      · exact .inl h
      · rw [put_keys] at h
        split at h
        · exact .inl h
        · rcases List.mem_append.mp h with h | h
          · exact .inl h
          · rw [List.mem_singleton.mp h]; exact .inr ⟨b, e, l, rfl⟩
  | cut k t =>
    simp only [stepR] at h
    split at h
    · exact .inl h
    · next b e l e1 =>
      split at h
      · exact .inl (del_keys h)
      · rw [put_there e1] at h; exact .inl h
  | stretch k t =>
    simp only [stepR] at h
    split at h
    · exact .inl h
    · next b e l e1 =>
      split at h
      · split at h
        · exact .inl h
        · rw [put_there e1] at h; exact .inl h
      · exact .inl h
  | drop k =>
    simp only [stepR] at h
    split at h
    · exact .inl h
    · exact .inl (del_keys h)
  | past t => exact .inl (dels_keys _ h)
theorem step_len {w : Nat} {room : List Int} {R : List Row} {d : Deed} : (stepR w room R d).2.length ≤ R.length + 1 := by
  cases d with
  | put k b e l =>
    simp only [stepR]
    split
    · simp
    · split
      · simp
      · exact put_len ..
  | cut k t =>
    simp only [stepR]
    split
    · simp
    · split
      · exact Nat.le_succ_of_le (del_len ..)
      · exact put_len ..
  | stretch k t =>
    simp only [stepR]
    split
    · simp
    · split
      · split
        · simp
        · exact put_len ..
      · simp
  | drop k =>
    simp only [stepR]
    split
    · simp
    · exact Nat.le_succ_of_le (del_len ..)
  | past t => exact Nat.le_succ_of_le (dels_len ..)
/-- what a stretch of an entry that is there tells -/
noncomputable def strR (w : Nat) (room : List Int) (R : List Row) (k : Str) (b e : Int) (l : List Int) (t : Int) : Out × List Row :=
  if e < t then match fmT w room (rws R) e t l with
      | some u => (.more u, R)
      | none => (.told, putR R k (b, t, l)) else (.told, R)
theorem srt_ex (ks : List Str) : ∃ ys : List Str, ys.Perm ks ∧ sortedS ys = true := by
  refine ⟨ks.mergeSort fun a b => !ltCps b.cps.toList a.cps.toList, List.mergeSort_perm .., sortedS_of_pairwise _ ?_⟩
  refine (List.pairwise_mergeSort (le := fun a b : Str => !ltCps b.cps.toList a.cps.toList) (fun a b c h k => ?_) (fun a b => ?_) ks).imp fun h => by simpa using h
  · have h1 : leS a b := by simpa using h
    have h2 : leS b c := by simpa using k
    simpa using leS_trans h1 h2
  · rw [Bool.or_eq_true, ltCps_eq, ltCps_eq]
    simp only [Bool.not_eq_true', decide_eq_false_iff_not]
    rcases Decidable.em (b.cps.toList < a.cps.toList) with c | c
    · right
      rw [List.not_lt]; exact List.le_of_lt c
    · exact .inl c
theorem srtT_perm (ks : List Str) : (srtT ks).Perm ks := by
  obtain ⟨ys, h1, h2⟩ := srt_ex ks
  rw [srtT_eq h1 h2]; exact h1
theorem goneT_len (R : List Row) (t : Int) : (goneT R t).length ≤ R.length := by
  unfold goneT
  rw [(srtT_perm _).length_eq, List.length_map]
  exact List.length_filter_le ..
def CalP (o : Out) (P : NX) (Z : EZ) (m : MS) : Prop := match o with
  | .told => P .non m
  | .gone g => P (.lst (g.map .str)) m
  | .taken => Z .Taken [] m
  | .nokey => Z .NoKey [] m
  | .more t => Z .TooMuch [.int t] m
theorem BookM.self {m : MS} {b s : Addr} {room : List Int} {R : List Row} (h : BookM m b s room R) : mset m s (.dct (rowsK R)) = m := mset_self h.hs
def DueP (o : Out) (P : NX) (m : MS) : Prop := P (outD o) m
theorem LawM.self {m : MS} {p q : Addr} {room : List Int} {top wide : Int} {R : List Row} (h : LawM m p q room top wide R) : mset m q (.dct (rowsK R)) = m := mset_self h.hq
/-- the name of a number -/
def nmS (n : Int) : Str :=
  (⟨#[("abcdefghijklmnopqrstuvwxyz" : Str).cps.toList.getD (n % 26).toNat 0]⟩ : Str) ++ ([("" : Str), "q", "wz", "longest"].getD (n / 26 % 4).toNat "")

end My
namespace My
open PySem PySem.Spec L2 Nu
open PyProof.Rows hiding St
/-! ### dw -/
/-! ### draws -/
theorem atI_in {α : Type} {xs : List α} {v : Int} (h0 : 0 ≤ v) (h1 : v < xs.length) : ∃ d, atI xs v = some d ∧ d ∈ xs := by
  have h : v.toNat < xs.length := by omega
  exact ⟨xs[v.toNat], atI_get h0 (List.getElem?_eq_getElem h), List.getElem_mem h⟩
theorem afterB.two {x : Addr} {m : MS} {a c : Int} {R : MS → Prop} (h : afterB x m R) : afterB x (mset m x (bxc a c)) R := fun a' c' h0 h1 h2 => by
  rw [mset_mset]; exact h a' c' h0 h1 h2
theorem cmulR {i j : Int} (h : -(2 ^ 64) < j ∧ j < 2 ^ 64) : CMul i j := .inr h
theorem cmulL {i j : Int} (h : -(2 ^ 64) < i ∧ i < 2 ^ 64) : CMul i j := .inl h
theorem cmulS {i j : Int} (h : 0 ≤ j ∧ j < 2 ^ 40) : CMul i j := .inr ⟨by omega, by omega⟩

end My
namespace My
open PySem PySem.Spec L2 Nu
open PyProof.Rows hiding St
/-! ### _law_box_fa59 -/
def a__law_box_fa59 : ASp := fun ss m P _ => ∃ (ns : List Int) (k : Int), ss = [.fls (ns.map .int), .int k] ∧ (ns.length ≤ 63 ∧ 0 ≤ k ∧ k ≤ 1000000) ∧ ∀ p, m p = none → ∀ a c, 0 ≤ a → 0 ≤ c → c < 2147483647 → P (.raw (.ref p)) (mset m p (bxc a c))
theorem len__law_box_fa59 : ∀ ss m P Z, a__law_box_fa59 ss m P Z → ss.length = 2 := by
  rintro _ m P Z ⟨ns, k, rfl, _⟩; rfl
abbrev n__law_box_fa59 : List Str := ["_law_script", "_law_k", "_law_cell"]
theorem nd__law_box_fa59 : (n__law_box_fa59).Nodup := by decide +kernel
def u__law_box_fa59 : SS :=
  (.cons (.set 2 (.cst (.int 3)))
  (.cut (.iff (.bop (sCmp .gt) (.cons (.bop sLen (.cons (.var 0) .nil)) (.cons (.cst (.int 0)) .nil))) (.cons (.set 2 (.bop sIx (.cons (.var 0) (.cons (.bop sMod (.cons (.var 1) (.cons (.bop sLen (.cons (.var 0) .nil)) .nil))) .nil))))
  .nil) .nil)
  (.cons (.ret (.bop sLst (.cons (.bop sMul (.cons (.bop sAbs (.cons (.var 2) .nil)) (.cons (.bop sToInt (.cons (.bop (sCmp .ge) (.cons (.bop sAbs (.cons (.var 2) .nil)) (.cons (.cst (.int 1000000000000000000)) .nil))) .nil)) .nil))) (.cons (.bop sMod (.cons (.bop sAdd (.cons (.bop sAdd (.cons (.bop sMul (.cons (.bop sMod (.cons (.var 2) (.cons (.cst (.int 2147483647)) .nil))) (.cons (.cst (.int 48271)) .nil))) (.cons (.bop sMul (.cons (.cst (.int 7919)) (.cons (.var 1) .nil))) .nil))) (.cons (.cst (.int 17)) .nil))) (.cons (.cst (.int 2147483647)) .nil))) .nil))))
  .nil)))
theorem body__law_box_fa59 : ∀ (ss : List D) (m : MS) (P : NX) (Z : EZ), a__law_box_fa59 ss m P Z → WB u__law_box_fa59 (startR n__law_box_fa59 ss) m (bodyE P Z) := by
  rintro _ m P Z ⟨ns, k, rfl, ⟨hn, h0, h1⟩, q⟩
  (conv => whnf)
  refine ⟨fun ρ' m' => m' = m ∧ ∃ cell : Int, ρ' = [some (.fls (ns.map .int)), some (.int k), some (.int cell)], ?_, ?_⟩
  · (conv => whnf)
    refine ⟨_, rfl, fun hk => ?_, fun hk => ?_⟩
    · have hl : 0 < ns.length := by
        have := of_decide_eq_true hk
        rw [List.length_map] at this; omega
      (conv => whnf)
      rw [List.length_map]
      refine ⟨by omega, ?_⟩
      have hb := emod_bd k (b := (ns.length : Int)) (by omega)
      obtain ⟨d, e, hd⟩ := atI_in (xs := ns.map D.int) (v := k % (ns.length : Int)) hb.1 (by rw [List.length_map]; exact hb.2)
      obtain ⟨z, hz, rfl⟩ := List.mem_map.mp hd
      exact ⟨_, e, rfl, z, rfl⟩
    · exact ⟨rfl, 3, rfl⟩
  · rintro _ _ ⟨rfl, cell, rfl⟩
    refine ⟨_, _, VwS.refl, ?_⟩
    (conv => whnf)
    refine ⟨cmulR ?_, ?_⟩
    · split <;> (split <;> decide)
    (conv => whnf)
    refine ⟨by decide, cmulR (by decide), cmulL (by decide), ?_⟩
    (conv => whnf)
    refine ⟨by decide, ?_⟩
    (conv => whnf)
    refine .inr fun p hp => ?_
    have e1 := emod_bd (cell % 2147483647 * 48271 + 7919 * k + 17) (b := 2147483647) (by decide)
    refine ret (q p hp _ _ ?_ e1.1 e1.2)
    refine Int.mul_nonneg ?_ ?_
    · split <;> omega
    · split <;> (split <;> decide)

end My
namespace My
open PySem PySem.Spec L2 Nu
open PyProof.Rows hiding St
/-! ### _law_take_bafe -/
def a__law_take_bafe : ASp := fun ss m P _ => ∃ (x : Addr) (n : Int), ss = [.raw (.ref x), .int n] ∧ Bx m x ∧ (0 < n ∧ n < 2 ^ 200) ∧ ∀ v, 0 ≤ v → v < n → afterB x m (P (.int v))
theorem len__law_take_bafe : ∀ ss m P Z, a__law_take_bafe ss m P Z → ss.length = 2 := by
  rintro _ m P Z ⟨x, n, rfl, _⟩; rfl
abbrev n__law_take_bafe : List Str := ["_law_box_here", "_law_many", "_law_found", "_law_once"]
theorem nd__law_take_bafe : (n__law_take_bafe).Nodup := by decide +kernel
def u__law_take_bafe : SS :=
  (.cons (.iff (.bop (sCmp .gt) (.cons (.bop sIx (.cons (.var 0) (.cons (.cst (.int 0)) .nil))) (.cons (.cst (.int 0)) .nil))) (.cons (.set 2 (.bop sMod (.cons (.bop sIx (.cons (.var 0) (.cons (.cst (.int 0)) .nil))) (.cons (.var 1) .nil))))
  (.cons (.iset (.var 0) (.cst (.int 0)) (.bop sFdv (.cons (.bop sIx (.cons (.var 0) (.cons (.cst (.int 0)) .nil))) (.cons (.var 1) .nil))))
  (.cons (.ret (.var 2))
  .nil))) .nil)
  (.cons (.iset (.var 0) (.cst (.int 1)) (.bop sMod (.cons (.bop sAdd (.cons (.bop sMul (.cons (.bop sIx (.cons (.var 0) (.cons (.cst (.int 1)) .nil))) (.cons (.cst (.int 48271)) .nil))) (.cons (.cst (.int 12345)) .nil))) (.cons (.cst (.int 2147483647)) .nil))))
  (.cons (.set 3 (.bop sMod (.cons (.bop sMul (.cons (.bop sIx (.cons (.var 0) (.cons (.cst (.int 1)) .nil))) (.cons (.bop sAdd (.cons (.bop sMod (.cons (.bop sIx (.cons (.var 0) (.cons (.cst (.int 1)) .nil))) (.cons (.cst (.int 1009)) .nil))) (.cons (.cst (.int 3)) .nil))) .nil))) (.cons (.cst (.int 2147483629)) .nil))))
  (.cons (.ret (.bop sMod (.cons (.bop sMod (.cons (.bop sMul (.cons (.var 3) (.cons (.bop sAdd (.cons (.bop sMod (.cons (.var 3) (.cons (.cst (.int 997)) .nil))) (.cons (.cst (.int 5)) .nil))) .nil))) (.cons (.cst (.int 998244353)) .nil))) (.cons (.var 1) .nil))))
  .nil))))
theorem body__law_take_bafe : ∀ (ss : List D) (m : MS) (P : NX) (Z : EZ), a__law_take_bafe ss m P Z → WB u__law_take_bafe (startR n__law_take_bafe ss) m (bodyE P Z) := by
  rintro _ m P Z ⟨x, n, rfl, ⟨a, c, hx, ha, hc, hc'⟩, ⟨h0, h1⟩, q⟩
  (conv => whnf)
  refine ⟨_, hx, _, rfl, ?_⟩
  (conv => whnf)
  refine ⟨_, rfl, fun hk => ?_, fun hk => ?_⟩
  · (conv => whnf)
    refine ⟨_, hx, _, rfl, ?_⟩
    (conv => whnf)
    refine ⟨h0, ?_⟩
    (conv => whnf)
    refine ⟨_, hx, _, rfl, ?_⟩
    (conv => whnf)
    refine ⟨⟨h0, h1⟩, ?_⟩
    (conv => whnf)
    refine ⟨_, hx, _, rfl, ?_⟩
    (conv => whnf)
    exact ret (q _ (emod_bd a h0).1 (emod_bd a h0).2 _ _ (Int.ediv_nonneg ha (by omega)) hc hc')
  · (conv => whnf)
    refine ⟨_, hx, _, rfl, ?_⟩
    (conv => whnf)
    refine ⟨cmulS (by omega), ?_⟩
    (conv => whnf)
    refine ⟨by decide, ?_⟩
    (conv => whnf)
    refine ⟨_, hx, _, rfl, ?_⟩
    (conv => whnf)
    refine ⟨_, mset_same, _, rfl, ?_⟩
    (conv => whnf)
    refine ⟨_, mset_same, _, rfl, ?_⟩
    (conv => whnf)
    refine ⟨by decide, ?_⟩
    have e1 := emod_bd (c * 48271 + 12345) (b := 2147483647) (by decide)
    have e2 := emod_bd ((c * 48271 + 12345) % 2147483647) (b := 1009) (by decide)
    refine ⟨cmulR (by omega), ?_⟩
    (conv => whnf)
    refine ⟨by decide, ?_⟩
    generalize hz : (c * 48271 + 12345) % 2147483647 * ((c * 48271 + 12345) % 2147483647 % 1009 + 3) % 2147483629 = z
    have e3 := emod_bd z (b := 997) (by decide)
    (conv => whnf)
    refine ⟨by decide, cmulR (by omega), ?_⟩
    (conv => whnf)
    refine ⟨by decide, ?_⟩
    (conv => whnf)
    refine ⟨h0, ?_⟩
    (conv => whnf)
    exact ret (q _ (emod_bd _ h0).1 (emod_bd _ h0).2 _ _ ha e1.1 e1.2)

end My
namespace My
open PySem PySem.Spec L2 Nu
open PyProof.Rows hiding St
/-! ### _law_number -/
def a__law_number : ASp := fun ss m P _ => ∃ (x : Addr) (n : Int), ss = [.raw (.ref x), .int n] ∧ Bx m x ∧ (0 ≤ n ∧ n < 2 ^ 60) ∧ ∀ v, 0 ≤ v → v ≤ n → afterB x m (P (.int v))
theorem len__law_number : ∀ ss m P Z, a__law_number ss m P Z → ss.length = 2 := by
  rintro _ m P Z ⟨x, n, rfl, _⟩; rfl
abbrev n__law_number : List Str := ["_law_box_here", "_law_top"]
theorem nd__law_number : (n__law_number).Nodup := by decide +kernel
def u__law_number : SS :=
  (.cons (.iff (.bop sEq (.cons (.call a__law_take_bafe (.cons (.var 0) (.cons (.cst (.int 6)) .nil))) (.cons (.cst (.int 0)) .nil))) (.cons (.ret (.bop sIx (.cons (.bop sLst (.cons (.cst (.int 0)) (.cons (.var 1) (.cons (.bop sMax2 (.cons (.cst (.int 0)) (.cons (.bop sSub (.cons (.var 1) (.cons (.cst (.int 1)) .nil))) .nil))) (.cons (.bop sMin2 (.cons (.cst (.int 1)) (.cons (.var 1) .nil))) .nil))))) (.cons (.call a__law_take_bafe (.cons (.var 0) (.cons (.cst (.int 4)) .nil))) .nil))))
  .nil) .nil)
  (.cons (.ret (.bop sMod (.cons (.bop sAdd (.cons (.bop sMul (.cons (.call a__law_take_bafe (.cons (.var 0) (.cons (.cst (.int 1000000)) .nil))) (.cons (.cst (.int 1000000)) .nil))) (.cons (.call a__law_take_bafe (.cons (.var 0) (.cons (.cst (.int 1000000)) .nil))) .nil))) (.cons (.bop sAdd (.cons (.var 1) (.cons (.cst (.int 1)) .nil))) .nil))))
  .nil))
theorem body__law_number : ∀ (ss : List D) (m : MS) (P : NX) (Z : EZ), a__law_number ss m P Z → WB u__law_number (startR n__law_number ss) m (bodyE P Z) := by
  rintro _ m P Z ⟨x, n, rfl, hb, ⟨h0, h1⟩, q⟩
  (conv => whnf)
  refine ⟨x, 6, rfl, hb, by decide, fun v v0 v1 a c k0 k1 k2 => ?_⟩
  (conv => whnf)
  refine ⟨_, rfl, fun hk => ?_, fun hk => ?_⟩
  · (conv => whnf)
    refine .inl ?_
    (conv => whnf)
    refine ⟨x, 4, rfl, Bx.put k0 k1 k2, by decide, fun v v0 v1 a c k0 k1 k2 => ?_⟩
    rw [mset_mset]
    have hv : v = 0 ∨ v = 1 ∨ v = 2 ∨ v = 3 := by omega
    (conv => whnf)
    rcases hv with rfl | rfl | rfl | rfl
    · exact ⟨_, rfl, ret (q _ (by omega) (by omega) _ _ k0 k1 k2)⟩
    · exact ⟨_, rfl, ret (q _ (by omega) (by omega) _ _ k0 k1 k2)⟩
    · exact ⟨_, rfl, ret (q _ (by split <;> omega) (by split <;> omega) _ _ k0 k1 k2)⟩
    · exact ⟨_, rfl, ret (q _ (by split <;> omega) (by split <;> omega) _ _ k0 k1 k2)⟩
  · (conv => whnf)
    refine ⟨x, 1000000, rfl, Bx.put k0 k1 k2, by decide, fun v v0 v1 a c k0 k1 k2 => ?_⟩
    (conv => whnf)
    refine ⟨cmulR (by decide), ?_⟩
    (conv => whnf)
    refine ⟨x, 1000000, rfl, by rw [mset_mset]; exact Bx.put k0 k1 k2, by decide, fun u u0 u1 a c k0 k1 k2 => ?_⟩
    rw [mset_mset, mset_mset]
    (conv => whnf)
    refine ⟨by omega, ?_⟩
    (conv => whnf)
    have e := emod_bd (v * 1000000 + u) (b := n + 1) (by omega)
    exact ret (q _ e.1 (by omega) _ _ k0 k1 k2)

end My
namespace My
open PySem PySem.Spec L2 Nu
open PyProof.Rows hiding St
/-! ### _law_amount_7792 -/
def a__law_amount_7792 : ASp := fun ss m P _ => ∃ (x : Addr) (w : Nat) (n : Int), ss = [.raw (.ref x), .int w, .int n] ∧ Bx m x ∧ (w ≤ 1000 ∧ 0 ≤ n ∧ n < 2 ^ 60) ∧ ∀ l : List Int, l.length = w → (∀ v ∈ l, 0 ≤ v ∧ v ≤ n) → afterB x m (P (amtD l))
theorem len__law_amount_7792 : ∀ ss m P Z, a__law_amount_7792 ss m P Z → ss.length = 3 := by
  rintro _ m P Z ⟨x, w, n, rfl, _⟩; rfl
abbrev n__law_amount_7792 : List Str := ["_law_box_here", "_law_wares", "_law_top", "_law_k"]
theorem nd__law_amount_7792 : (n__law_amount_7792).Nodup := by decide +kernel
def u__law_amount_7792 : SS :=
  (.cons (.ret (.bop sToTup (.cons (.lc (.name 3) isRng (.cons (.var 1) .nil) .nil (.call a__law_number (.cons (.var 0) (.cons (.var 2) .nil)))) .nil)))
  .nil)
theorem body__law_amount_7792 : ∀ (ss : List D) (m : MS) (P : NX) (Z : EZ), a__law_amount_7792 ss m P Z → WB u__law_amount_7792 (startR n__law_amount_7792 ss) m (bodyE P Z) := by
  rintro _ m P Z ⟨x, w, n, rfl, ⟨a, c, hx, b0, b1, b2⟩, ⟨h0, h1, h2⟩, q⟩
  (conv => whnf)
  refine ⟨⟨by omega, by omega⟩, by unfold rngD; simp; omega, fun i acc m' => ∃ (l : List Int) (a c : Int), acc = l.map .int ∧ l.length = i ∧ (∀ v ∈ l, 0 ≤ v ∧ v ≤ n) ∧ m' = mset m x (bxc a c) ∧ 0 ≤ a ∧ 0 ≤ c ∧ c < 2147483647, ⟨[], a, c, rfl, rfl, by simp, (mset_self hx).symm, b0, b1, b2⟩, fun _ _ _ _ _ => trivial, ?_, ?_⟩
  · rintro i d acc m' hd ⟨l, a, c, rfl, hl, hv, rfl, k0, k1, k2⟩
    (conv => whnf)
    refine ⟨fun _ => ?_, fun h => by cases h⟩
    (conv => whnf)
    refine ⟨x, n, rfl, Bx.put k0 k1 k2, ⟨h1, h2⟩, fun v v0 v1 a c k0 k1 k2 => ?_⟩
    rw [mset_mset]
    refine ⟨l ++ [v], a, c, by simp, by simp [hl], fun u hu => ?_, rfl, k0, k1, k2⟩
    rcases List.mem_append.mp hu with hu | hu
    · exact hv u hu
    · rw [List.mem_singleton.mp hu]; exact ⟨v0, v1⟩
  · rintro acc m' ⟨l, a, c, rfl, hl, hv, rfl, k0, k1, k2⟩
    refine .inl ?_
    (conv => whnf)
    exact ret (q l (by rw [hl]; unfold rngD; simp) hv _ _ k0 k1 k2)

end My
namespace My
open PySem PySem.Spec L2 Nu
open PyProof.Rows hiding St
/-! ### _law_keeping -/
structure KeepOk (room : List Int) (top wide : Int) : Prop where
  hw : room.length = 1 ∨ room.length = 2 ∨ room.length = 3 ∨ room.length = 8
  ht : top = 9 ∨ top = 30 ∨ top = 1000000000000
  hr : ∀ v ∈ room, 0 ≤ v ∧ v ≤ top
  hwd : 0 < wide ∧ wide ≤ 1000000000
def a__law_keeping : ASp := fun ss m P _ => ∃ (x : Addr), ss = [.raw (.ref x)] ∧ Bx m x ∧ ∀ room top wide, KeepOk room top wide → ∀ a c, 0 ≤ a → 0 ≤ c → c < 2147483647 → ∀ p q, m p = none → m q = none → q ≠ p → P (.raw (.ref p)) (mset (mset (mset m x (bxc a c)) q (.dct [])) p (.dct (lmK room top wide q)))
theorem len__law_keeping : ∀ ss m P Z, a__law_keeping ss m P Z → ss.length = 1 := by
  rintro _ m P Z ⟨x, rfl, _⟩; rfl
abbrev n__law_keeping : List Str := ["_law_box_here", "_law_wares", "_law_top", "_law_room"]
theorem nd__law_keeping : (n__law_keeping).Nodup := by decide +kernel
def u__law_keeping : SS :=
  (.cons (.set 1 (.bop sIx (.cons (.bop sLst (.cons (.cst (.int 1)) (.cons (.cst (.int 2)) (.cons (.cst (.int 3)) (.cons (.cst (.int 8)) .nil))))) (.cons (.call a__law_take_bafe (.cons (.var 0) (.cons (.cst (.int 4)) .nil))) .nil))))
  (.cons (.set 2 (.bop sIx (.cons (.bop sLst (.cons (.cst (.int 9)) (.cons (.cst (.int 30)) (.cons (.cst (.int 1000000000000)) .nil)))) (.cons (.call a__law_take_bafe (.cons (.var 0) (.cons (.cst (.int 3)) .nil))) .nil))))
  (.cons (.set 3 (.call a__law_amount_7792 (.cons (.var 0) (.cons (.var 1) (.cons (.var 2) .nil)))))
  (.cut (.iff (.bop sEq (.cons (.call a__law_take_bafe (.cons (.var 0) (.cons (.cst (.int 2)) .nil))) (.cons (.cst (.int 0)) .nil))) (.cons (.set 3 (.bop sToTup (.cons (.bop sMul (.cons (.bop sLst (.cons (.var 2) .nil)) (.cons (.var 1) .nil))) .nil)))
  .nil) .nil)
  (.cons (.ret (.bop (sDct ["room", "top", "wide", "rows"]) (.cons (.var 3) (.cons (.var 2) (.cons (.bop sIx (.cons (.bop sLst (.cons (.cst (.int 12)) (.cons (.cst (.int 40)) (.cons (.cst (.int 1000000000)) .nil)))) (.cons (.call a__law_take_bafe (.cons (.var 0) (.cons (.cst (.int 3)) .nil))) .nil))) (.cons (.bop sDnew .nil) .nil))))))
  .nil)))))
theorem body__law_keeping : ∀ (ss : List D) (m : MS) (P : NX) (Z : EZ), a__law_keeping ss m P Z → WB u__law_keeping (startR n__law_keeping ss) m (bodyE P Z) := by
  rintro _ m P Z ⟨x, rfl, hb, q⟩
  (conv => whnf)
  refine .inl ?_
  (conv => whnf)
  refine ⟨x, 4, rfl, hb, by decide, fun v v0 v1 a c k0 k1 k2 => ?_⟩
  (conv => whnf)
  obtain ⟨d, hd, hm⟩ := atI_in (xs := [D.int 1, .int 2, .int 3, .int 8]) (v := v) v0 v1
  obtain ⟨w, rfl, hw⟩ : ∃ w : Nat, d = .int w ∧ (w = 1 ∨ w = 2 ∨ w = 3 ∨ w = 8) := by
    simp only [List.mem_cons, List.not_mem_nil, or_false] at hm
    rcases hm with rfl | rfl | rfl | rfl
    · exact ⟨1, rfl, by simp⟩
    · exact ⟨2, rfl, by simp⟩
    · exact ⟨3, rfl, by simp⟩
    · exact ⟨8, rfl, by simp⟩
  refine ⟨_, hd, ?_⟩
  (conv => whnf)
  refine .inl ?_
  (conv => whnf)
  refine ⟨x, 3, rfl, Bx.put k0 k1 k2, by decide, fun v v0 v1 a c k0 k1 k2 => ?_⟩
  rw [mset_mset]
  (conv => whnf)
  clear hm hd
  obtain ⟨d, hd, hm⟩ := atI_in (xs := [D.int 9, .int 30, .int 1000000000000]) (v := v) v0 v1
  obtain ⟨top, rfl, ht⟩ : ∃ t : Int, d = .int t ∧ (t = 9 ∨ t = 30 ∨ t = 1000000000000) := by
    simp only [List.mem_cons, List.not_mem_nil, or_false] at hm
    rcases hm with rfl | rfl | rfl
    · exact ⟨9, rfl, by simp⟩
    · exact ⟨30, rfl, by simp⟩
    · exact ⟨_, rfl, by simp⟩
  refine ⟨_, hd, ?_⟩
  (conv => whnf)
  refine ⟨x, w, top, rfl, Bx.put k0 k1 k2, by omega, fun l hl hv a c k0 k1 k2 => ?_⟩
  rw [mset_mset]
  (conv => whnf)
  refine ⟨fun ρ' m' => ∃ (room : List Int) (a c : Int), room.length = w ∧ (∀ v ∈ room, 0 ≤ v ∧ v ≤ top) ∧ m' = mset m x (bxc a c) ∧ 0 ≤ a ∧ 0 ≤ c ∧ c < 2147483647 ∧ ρ' = [some (.raw (.ref x)), some (.int w), some (.int top), some (amtD room)], ?_, ?_⟩
  · (conv => whnf)
    refine ⟨x, 2, rfl, Bx.put k0 k1 k2, by decide, fun v v0 v1 a c k0 k1 k2 => ?_⟩
    rw [mset_mset]
    (conv => whnf)
    refine ⟨_, rfl, fun _ => ?_, fun _ => ?_⟩
    · (conv => whnf)
      refine .inl ?_
      (conv => whnf)
      refine ⟨⟨by omega, by omega, by simp; omega⟩, .inl ?_⟩
      (conv => whnf)
      refine ⟨List.replicate w top, a, c, by simp, fun v hv => by rw [List.eq_of_mem_replicate hv]; omega, rfl, k0, k1, k2, ?_⟩
      have e : repL (w : Int) [D.int top] = (List.replicate w top).map .int := by
        unfold repL
        rw [Int.toNat_natCast, List.map_replicate]
        clear hw hl
        induction w with
        | zero => rfl
        | succ n ih => rw [List.replicate_succ, List.replicate_succ, List.flatten_cons, ih]; rfl
      rw [e]; rfl
    · exact ⟨l, a, c, hl, hv, rfl, k0, k1, k2, rfl⟩
  · rintro _ _ ⟨room, a, c, hl, hv, rfl, k0, k1, k2, rfl⟩
    refine ⟨_, _, VwS.refl, ?_⟩
    (conv => whnf)
    refine .inl ?_
    (conv => whnf)
    refine ⟨x, 3, rfl, Bx.put k0 k1 k2, by decide, fun v v0 v1 a c k0 k1 k2 => ?_⟩
    rw [mset_mset]
    (conv => whnf)
    clear hm hd
    obtain ⟨d, hd, hm⟩ := atI_in (xs := [D.int 12, .int 40, .int 1000000000]) (v := v) v0 v1
    obtain ⟨wide, rfl, hw'⟩ : ∃ t : Int, d = .int t ∧ (0 < t ∧ t ≤ 1000000000) := by
      simp only [List.mem_cons, List.not_mem_nil, or_false] at hm
      rcases hm with rfl | rfl | rfl
      · exact ⟨12, rfl, by decide⟩
      · exact ⟨40, rfl, by decide⟩
      · exact ⟨_, rfl, by decide⟩
    refine ⟨_, hd, ?_⟩
    (conv => whnf)
    intro p1 hp1
    (conv => whnf)
    intro p2 hp2
    obtain ⟨a0, c0, hx, _⟩ := hb
    have n1 : m p1 = none := by
      by_cases e : p1 = x
      · rw [e, mset_same] at hp1; cases hp1
      · rwa [mset_ne e] at hp1
    have ne : p1 ≠ p2 := by rintro rfl; rw [mset_same] at hp2; cases hp2
    have n2 : m p2 = none := by
      rw [mset_ne ne.symm] at hp2
      by_cases e : p2 = x
      · rw [e, mset_same] at hp2; cases hp2
      · rwa [mset_ne e] at hp2
    exact ret (q room top wide ⟨by rw [hl]; exact hw, ht, hv, hw'⟩ a c k0 k1 k2 p2 p1 n2 n1 ne)

end My
namespace My
open PySem PySem.Spec L2 Nu
open PyProof.Rows hiding St
/-! ### Book___init__ -/
def a_Book___init__ : ASp := fun ss m P _ => ∃ (p : Addr) (room : List Int), ss = [.raw (.ref p), amtD room] ∧ m p = some (.ins .Book []) ∧ ∀ s, m s = none → s ≠ p → P .non (mset (mset m s (.dct [])) p (.ins .Book [amtD room, .raw (.ref s)]))
theorem len_Book___init__ : ∀ ss m P Z, a_Book___init__ ss m P Z → ss.length = 2 := by
  rintro _ m P Z ⟨p, room, rfl, _⟩; rfl
abbrev n_Book___init__ : List Str := ["self", "room"]
theorem nd_Book___init__ : (n_Book___init__).Nodup := by decide +kernel
def u_Book___init__ : SS :=
  (.cons (.fset .room (.var 0) (.bop sToTup (.cons (.var 1) .nil)))
  (.cons (.fset .written (.var 0) (.bop sDnew .nil))
  .nil))
theorem body_Book___init__ : ∀ (ss : List D) (m : MS) (P : NX) (Z : EZ), a_Book___init__ ss m P Z → WB u_Book___init__ (startR n_Book___init__ ss) m (bodyE P Z) := by
  rintro _ m P Z ⟨p, room, rfl, hp, q⟩
  (conv => whnf)
  refine ⟨_, _, hp, ?_⟩
  (conv => whnf)
  intro s hs
  (conv => whnf)
  have ne : s ≠ p := by rintro rfl; rw [mset_same] at hs; cases hs
  have ns : m s = none := by rwa [mset_ne ne] at hs
  refine ⟨_, _, by rw [mset_ne ne.symm]; exact mset_same, ?_⟩
  (conv => whnf)
  refine ret ?_
  show P .non (mset (mset (mset m p (.ins .Book [amtD room])) s (.dct [])) p (.ins .Book [amtD room, .raw (.ref s)]))
  rw [mset_comm ne.symm, mset_mset]
  exact q s ns ne

end My
namespace My
open PySem PySem.Spec L2 Nu
open PyProof.Rows hiding St
/-! ### _law_edges -/
def a__law_edges : ASp := fun ss m P _ => ∃ (p q : Addr) (room : List Int) (top wide : Int) (R : List Row), ss = [.raw (.ref p)] ∧ LawM m p q room top wide R ∧ R.length ≤ 1000 ∧ ∀ E : List Int, E.Perm (edgesI (rws R)) → E.Pairwise (· ≤ ·) → P (.lst (E.map .int)) m
theorem len__law_edges : ∀ ss m P Z, a__law_edges ss m P Z → ss.length = 1 := by
  rintro _ m P Z ⟨p, q, room, top, wide, R, rfl, _⟩; rfl
abbrev n__law_edges : List Str := ["_law_m", "_law_edges_here", "_law_begin", "_law_end", "_law_amount_here"]
theorem nd__law_edges : (n__law_edges).Nodup := by decide +kernel
def u__law_edges : SS :=
  (.cons (.set 1 (.bop sLst .nil))
  (.cons (.lock (.fo (.tup (.cons (.name 2) (.cons (.name 3) (.cons (.name 4) .nil)))) (isDct .vals) (.cons (.bop sIx (.cons (.var 0) (.cons (.cst (.str "rows")) .nil))) .nil) (.cons (.set 1 (.bop sAdd (.cons (.var 1) (.cons (.bop sLst (.cons (.var 2) (.cons (.var 3) .nil))) .nil))))
  .nil)))
  (.cons (.ret (.bop sSorted (.cons (.var 1) .nil)))
  .nil)))
theorem body__law_edges : ∀ (ss : List D) (m : MS) (P : NX) (Z : EZ), a__law_edges ss m P Z → WB u__law_edges (startR n__law_edges ss) m (bodyE P Z) := by
  rintro _ m P Z ⟨p, q, room, top, wide, R, rfl, hL, hR, k⟩
  (conv => whnf)
  refine .inl ?_
  (conv => whnf)
  refine .inl ⟨q, _, hL.hq, fun o vs => ?_⟩
  (conv => whnf)
  refine ⟨_, hL.lk, _, rfl, ?_⟩
  (conv => whnf)
  refine ⟨o, vs, _, mset_same, ?_⟩
  (conv => whnf)
  refine foP R (fun r => rwD r.2) (fun i ρ' m' => m' = mset m q (.lck o vs (rowsK R)) ∧ ∃ x2 x3 x4, ρ' = [some (.raw (.ref p)), some (.lst ((edgesI (rws (R.take i))).map .int)), x2, x3, x4]) (kds_vals R) ⟨rfl, _, _, _, rfl⟩ (fun i ρ' m' h => by rw [h.1]; exact mset_same) ?_ ?_
  · rintro i r ρ' m' hr ⟨rfl, x2, x3, x4, rfl⟩
    refine ⟨_, rfl, ?_⟩
    (conv => whnf)
    refine .inl ?_
    (conv => whnf)
    have hi := (List.getElem?_eq_some_iff.mp hr).1
    have hl : ∀ R : List Row, (edgesI (rws R)).length = 2 * R.length := fun R => by
      induction R with
      | nil => rfl
      | cons a R ih => unfold edgesI rws at *; simp at *; omega
    refine ⟨?_, .inl ?_⟩
    · rw [List.length_map, hl, List.length_take]; simp; omega
    refine ⟨rfl, some (.int r.2.1), some (.int r.2.2.1), some (amtD r.2.2.2), ?_⟩
    have e : edgesI (rws (R.take (i + 1))) = edgesI (rws (R.take i)) ++ [r.2.1, r.2.2.1] := by
      rw [take_succ hr]; unfold edgesI rws; simp
    rw [e, List.map_append]; rfl
  · rintro ρ' m' ⟨rfl, x2, x3, x4, rfl⟩
    refine ⟨mset_same, ?_⟩
    rw [mset_back hL.hq, List.take_length]
    (conv => whnf)
    refine .inl ⟨edgesI (rws R), rfl, fun ks hp hs => .inl ?_⟩
    (conv => whnf)
    exact ret (k ks hp hs)

end My
namespace My
open PySem PySem.Spec L2 Nu
open PyProof.Rows hiding St
/-! ### nothing_of -/
def a_nothing_of : ASp := fun ss m P _ => ∃ w : Nat, ss = [.int w] ∧ 1 ≤ w ∧ w ≤ 1000 ∧ P (amtD (List.replicate w 0)) m
theorem len_nothing_of : ∀ ss m P Z, a_nothing_of ss m P Z → ss.length = 1 := by
  rintro _ m P Z ⟨w, rfl, _⟩; rfl
abbrev n_nothing_of : List Str := ["wares"]
theorem nd_nothing_of : (n_nothing_of).Nodup := by decide +kernel
def u_nothing_of : SS :=
  (.cons (.ret (.bop sMul (.cons (.bop sTup (.cons (.cst (.int 0)) .nil)) (.cons (.var 0) .nil))))
  .nil)
theorem body_nothing_of : ∀ (ss : List D) (m : MS) (P : NX) (Z : EZ), a_nothing_of ss m P Z → WB u_nothing_of (startR n_nothing_of ss) m (bodyE P Z) := by
  rintro _ m P Z ⟨w, rfl, h1, h2, q⟩
  (conv => whnf)
  refine ⟨⟨by omega, by omega, by simp, by decide⟩, ret ?_⟩
  have e : repL (w : Int) [D.int 0] = (List.replicate w 0).map .int := by
    unfold repL
    rw [Int.toNat_natCast, List.map_replicate]
    clear q h1 h2
    induction w with
    | zero => rfl
    | succ n ih => rw [List.replicate_succ, List.replicate_succ, List.flatten_cons, ih]; rfl
  rw [e]; exact q

end My
namespace My
open PySem PySem.Spec L2 Nu
open PyProof.Rows hiding St
/-! ### amount_sum -/
def a_amount_sum : ASp := fun ss m P _ => ∃ a b : List Int, ss = [amtD a, amtD b] ∧ a.length ≤ 1000 ∧ P (amtD (List.zipWith (· + ·) a b)) m
theorem len_amount_sum : ∀ ss m P Z, a_amount_sum ss m P Z → ss.length = 2 := by
  rintro _ m P Z ⟨a, b, rfl, _⟩; rfl
abbrev n_amount_sum : List Str := ["one", "other", "a", "b"]
theorem nd_amount_sum : (n_amount_sum).Nodup := by decide +kernel
def u_amount_sum : SS :=
  (.cons (.ret (.bop sToTup (.cons (.lc (.tup (.cons (.name 2) (.cons (.name 3) .nil))) isZip (.cons (.var 0) (.cons (.var 1) .nil)) .nil (.bop sAdd (.cons (.var 2) (.cons (.var 3) .nil)))) .nil)))
  .nil)
theorem body_amount_sum : ∀ (ss : List D) (m : MS) (P : NX) (Z : EZ), a_amount_sum ss m P Z → WB u_amount_sum (startR n_amount_sum ss) m (bodyE P Z) := by
  rintro _ m P Z ⟨a, b, rfl, hl, q⟩
  (conv => whnf)
  refine lcM (a.zip b) (fun p => D.tup [.int p.1, .int p.2]) (fun p => .int (p.1 + p.2)) zipD_map (by rw [List.length_zip]; omega) ⟨trivial, trivial⟩ (fun x hx => ⟨_, rfl, fun R r => by (conv => whnf); exact r⟩) (.inl ?_)
  (conv => whnf)
  refine ret ?_
  rw [zipW_map (f := (· + ·)) a b]; exact q

end My
namespace My
open PySem PySem.Spec L2 Nu
open PyProof.Rows hiding St
/-! ### Book_load_at -/
def a_Book_load_at : ASp := fun ss m P _ => ∃ (b s : Addr) (room : List Int) (R : List Row) (t : Int), ss = [.raw (.ref b), .int t] ∧ BookM m b s room R ∧ RowsOk room.length R ∧ (1 ≤ room.length ∧ room.length ≤ 1000) ∧ P (amtD (loadL room.length (rws R) t)) m
theorem len_Book_load_at : ∀ ss m P Z, a_Book_load_at ss m P Z → ss.length = 2 := by
  rintro _ m P Z ⟨b, s, room, R, t, rfl, _⟩; rfl
abbrev n_Book_load_at : List Str := ["self", "time", "load", "begin", "end", "amount"]
theorem nd_Book_load_at : (n_Book_load_at).Nodup := by decide +kernel
def u_Book_load_at : SS :=
  (.cons (.set 2 (.call a_nothing_of (.cons (.bop sLen (.cons (.bop (sFld .room) (.cons (.var 0) .nil)) .nil)) .nil)))
  (.cons (.lock (.fo (.tup (.cons (.name 3) (.cons (.name 4) (.cons (.name 5) .nil)))) (isDct .vals) (.cons (.bop (sFld .written) (.cons (.var 0) .nil)) .nil) (.cons (.iff (.chain .le .lt (.var 3) (.var 1) (.var 4)) (.cons (.set 2 (.call a_amount_sum (.cons (.var 2) (.cons (.var 5) .nil))))
  .nil) .nil)
  .nil)))
  (.cons (.ret (.var 2))
  .nil)))
theorem body_Book_load_at : ∀ (ss : List D) (m : MS) (P : NX) (Z : EZ), a_Book_load_at ss m P Z → WB u_Book_load_at (startR n_Book_load_at ss) m (bodyE P Z) := by
  rintro _ m P Z ⟨b, s, room, R, t, rfl, hB, hR, ⟨w0, w1⟩, k⟩
  (conv => whnf)
  refine ⟨_, _, hB.hb, ?_⟩
  (conv => whnf)
  rw [List.length_map]
  refine ⟨room.length, rfl, w0, w1, ?_⟩
  (conv => whnf)
  refine .inl ⟨s, _, hB.hs, fun o vs => ?_⟩
  (conv => whnf)
  refine ⟨_, _, hB.lk, ?_⟩
  (conv => whnf)
  refine ⟨o, vs, _, mset_same, ?_⟩
  (conv => whnf)
  refine foP R (fun r => rwD r.2) (fun i ρ' m' => m' = mset m s (.lck o vs (rowsK R)) ∧ ∃ x3 x4 x5, ρ' = [some (.raw (.ref b)), some (.int t), some (amtD (loadL room.length (rws (R.take i)) t)), x3, x4, x5]) (kds_vals R) ⟨rfl, _, _, _, by rw [List.take_zero, rws, List.map_nil, loadL_nil]; rfl⟩ (fun i ρ' m' h => by rw [h.1]; exact mset_same) ?_ ?_
  · rintro i r ρ' m' hr ⟨rfl, x3, x4, x5, rfl⟩
    refine ⟨_, rfl, ?_⟩
    have hrl := hR.len r (List.mem_of_getElem? hr)
    have ht : rws (R.take (i + 1)) = rws (R.take i) ++ [r.2] := by rw [take_succ hr, rws, List.map_append]; rfl
    (conv => whnf)
    refine ⟨_, _, _, rfl, rfl, ⟨rfl, rfl⟩, ?_⟩
    (conv => whnf)
    refine ⟨_, rfl, fun hk => ?_, fun hk => ?_⟩
    · (conv => whnf)
      refine ⟨_, _, rfl, by rw [loadL_len]; exact w1, ?_⟩
      rw [loadL_add hrl hk, ← ht]
      exact ⟨rfl, _, _, _, rfl⟩
    · refine ⟨rfl, some (.int r.2.1), some (.int r.2.2.1), some (amtD r.2.2.2), ?_⟩
      rw [ht, loadL_skip hk]; rfl
  · rintro ρ' m' ⟨rfl, x2, x3, x4, rfl⟩
    refine ⟨mset_same, ?_⟩
    rw [mset_back hB.hs, List.take_length]
    (conv => whnf)
    exact ret k

end My
namespace My
open PySem PySem.Spec L2 Nu
open PyProof.Rows hiding St
/-! ### ovl -/
/-! ### the room is overborne, by lists -/
theorem any3 {w : Nat} {a l room : List Int} (h1 : a.length = w) (h2 : l.length = w) (h3 : room.length = w) : ((a.zip l).zip room).any (fun p => decide (p.2 < p.1.1 + p.1.2)) = true ↔ ∃ i, i < w ∧ room.getD i 0 < a.getD i 0 + l.getD i 0 := by
  rw [List.any_eq_true]
  constructor
  · rintro ⟨p, hp, e⟩
    obtain ⟨i, hi, e2⟩ := List.getElem_of_mem hp
    have hw : i < w := by rw [List.length_zip, List.length_zip] at hi; omega
    refine ⟨i, hw, ?_⟩
    rw [List.getElem_zip, List.getElem_zip] at e2
    rw [← e2] at e
    rw [List.getD_eq_getElem?_getD, List.getD_eq_getElem?_getD, List.getD_eq_getElem?_getD, List.getElem?_eq_getElem (show i < a.length by omega), List.getElem?_eq_getElem (show i < l.length by omega), List.getElem?_eq_getElem (show i < room.length by omega)]
    exact of_decide_eq_true e
  · rintro ⟨i, hi, e⟩
    rw [List.getD_eq_getElem?_getD, List.getD_eq_getElem?_getD, List.getD_eq_getElem?_getD, List.getElem?_eq_getElem (show i < a.length by omega), List.getElem?_eq_getElem (show i < l.length by omega), List.getElem?_eq_getElem (show i < room.length by omega)] at e
    have hl : i < ((a.zip l).zip room).length := by rw [List.length_zip, List.length_zip]; omega
    refine ⟨((a.zip l).zip room)[i], List.getElem_mem hl, ?_⟩
    rw [List.getElem_zip, List.getElem_zip]
    exact decide_eq_true e
theorem all2 {w : Nat} {a room : List Int} (h1 : a.length = w) (h3 : room.length = w) : (a.zip room).all (fun p => decide (p.1 ≤ p.2)) = true ↔ ∀ i, i < w → a.getD i 0 ≤ room.getD i 0 := by
  rw [List.all_eq_true]
  constructor
  · intro h i hi
    have hl : i < (a.zip room).length := by rw [List.length_zip]; omega
    have := h (a.zip room)[i] (List.getElem_mem hl)
    rw [List.getElem_zip] at this
    rw [List.getD_eq_getElem?_getD, List.getD_eq_getElem?_getD, List.getElem?_eq_getElem (show i < a.length by omega), List.getElem?_eq_getElem (show i < room.length by omega)]
    exact of_decide_eq_true this
  · intro h p hp
    obtain ⟨i, hi, e2⟩ := List.getElem_of_mem hp
    have hw : i < w := by rw [List.length_zip] at hi; omega
    have := h i hw
    rw [List.getD_eq_getElem?_getD, List.getD_eq_getElem?_getD, List.getElem?_eq_getElem (show i < a.length by omega), List.getElem?_eq_getElem (show i < room.length by omega)] at this
    rw [List.getElem_zip] at e2
    rw [← e2]
    exact decide_eq_true this
theorem ovr_any {w : Nat} {room l : List Int} {R : List Rw} {t : Int} (h2 : l.length = w) (h3 : room.length = w) : (((loadL w R t).zip l).zip room).any (fun p => decide (p.2 < p.1.1 + p.1.2)) = true ↔ ovr w room R l t := by
  rw [any3 loadL_len h2 h3]
  unfold ovr
  constructor
  · rintro ⟨i, hi, e⟩; rw [loadL_get hi] at e; exact ⟨i, hi, e⟩
  · rintro ⟨i, hi, e⟩; refine ⟨i, hi, ?_⟩; rw [loadL_get hi]; exact e
theorem ovr_fits {w : Nat} {room l : List Int} {R : List Rw} {t : Int} (h2 : l.length = w) (h3 : room.length = w) : ((List.zipWith (· + ·) (loadL w R t) l).zip room).all (fun p => decide (p.1 ≤ p.2)) = false ↔ ovr w room R l t := by
  rw [← Bool.not_eq_true, all2 (w := w) (by rw [List.length_zipWith, loadL_len]; omega) h3]
  unfold ovr
  constructor
  · intro h
    apply Classical.byContradiction
    intro hn
    refine h fun i hi => ?_
    rw [zipWith_getD loadL_len h2 hi, loadL_get hi]
    rcases Int.lt_or_le (room.getD i 0) (loadI R t i + l.getD i 0) with c | c
    · exact absurd ⟨i, hi, c⟩ hn
    · exact c
  · rintro ⟨i, hi, e⟩ h
    have := h i hi
    rw [zipWith_getD loadL_len h2 hi, loadL_get hi] at this
    omega
theorem zip3_map {a l r : List Int} : zip3D (a.map D.int) (l.map D.int) (r.map D.int) = ((a.zip l).zip r).map fun p => D.tup [.int p.1.1, .int p.1.2, .int p.2] := by
  unfold zip3D
  rw [List.zip_map, List.zip_map, List.map_map]; rfl
theorem edges_len : ∀ R : List Row, (edgesI (rws R)).length = 2 * R.length := fun R => by
  induction R with
  | nil => rfl
  | cons a R ih => unfold edgesI rws at *; simp at *; omega
/-- the law's times: the begin, then each edge between -/
theorem law_times {R : List Row} {b e : Int} {E : List Int} (hbe : b < e) (hE : E.Perm (edgesI (rws R))) : Times (rws R) b e (b :: E.filter fun t => decide (b < t) && decide (t < e)) :=
  Times.of hbe fun r hr => hE.symm.subset (fst_edge hr)

end My
namespace My
open PySem PySem.Spec L2 Nu
open PyProof.Rows hiding St
/-! ### ent -/
def entS (R : List Row) (k : Str) : D := match rowOf R k with
  | some r => .tup [.str k, .int r.1, .int r.2.1, amtD r.2.2]
  | none => .non
noncomputable def entsD (R : List Row) : List D := (srtT (keysR R)).map (entS R)
/-- the edges later than a time -/
theorem nl_none {E : List Int} {t : Int} (h : (E.filter fun u => decide (t < u)) = []) : NL E t none := fun u hu => by
  have := List.filter_eq_nil_iff.mp h u hu
  rw [decide_eq_true_eq] at this; omega
theorem nl_some {E : List Int} {t z : Int} (hz : z ∈ E.filter fun u => decide (t < u)) (h : ∀ y ∈ E.filter fun u => decide (t < u), z ≤ y) : NL E t (some z) := by
  have h1 := List.mem_filter.mp hz
  exact ⟨h1.1, of_decide_eq_true h1.2, fun u hu htu => h u (List.mem_filter.mpr ⟨hu, decide_eq_true htu⟩)⟩
/-- the least of a rising list of the later ones -/
theorem nl_head {E F : List Int} {t : Int} (hF : F.Perm E) (hs : F.Pairwise (· ≤ ·)) : NL E t (F.filter fun u => decide (t < u)).head? := by
  have hm : ∀ u, u ∈ E ↔ u ∈ F := fun u => ⟨fun h => hF.symm.subset h, fun h => hF.subset h⟩
  cases e : F.filter fun u => decide (t < u) with
  | nil => exact fun u hu => nl_none e u ((hm u).mp hu)
  | cons z A =>
    have hp : (z :: A).Pairwise (· ≤ ·) := by rw [← e]; exact hs.sublist List.filter_sublist
    obtain ⟨h1, h2, h3⟩ := nl_some (E := F) (t := t) (z := z) (by rw [e]; simp) (fun y hy => by
      rw [e] at hy
      rcases List.mem_cons.mp hy with rfl | hy
      · exact Int.le_refl _
      · exact (List.pairwise_cons.mp hp).1 y hy)
    exact ⟨(hm z).mpr h1, h2, fun u hu => h3 u ((hm u).mp hu)⟩
def endsI (R : List Rw) : List Int := R.map fun r => r.2.1
theorem nl_least {E F : List Int} {t : Int} (hF : F.Perm (E.filter fun u => decide (t < u))) (hs : F.Pairwise (· ≤ ·)) : NL E t F.head? := by
  have hm : ∀ u, u ∈ F ↔ u ∈ E ∧ t < u := fun u => by rw [hF.mem_iff, List.mem_filter, decide_eq_true_eq]
  cases F with
  | nil =>
    intro u hu
    rcases Int.lt_or_le t u with c | c
    · exact absurd ((hm u).mpr ⟨hu, c⟩) (by simp)
    · exact c
  | cons z A =>
    have h1 := (hm z).mp (List.mem_cons_self ..)
    refine ⟨h1.1, h1.2, fun u hu c => ?_⟩
    rcases List.mem_cons.mp ((hm u).mpr ⟨hu, c⟩) with rfl | hA
    · exact Int.le_refl _
    · exact (List.pairwise_cons.mp hs).1 u hA
theorem LP.ex {w : Nat} {room : List Int} {R : List Rw} : ∀ (T U l : List Int), LP w room R U l → ∃ l', LP w room R (U ++ T) l'
  | [], U, l, h => ⟨l, by rw [List.append_nil]; exact h⟩
  | t :: T, U, l, h => by
    have h1 : LP w room R (U ++ [t]) ((List.range w).map fun i => minI (l.getD i 0) (room.getD i 0 - loadI R t i)) := by
      refine h.step (by simp) fun i hi => ?_
      rw [List.getD_eq_getElem?_getD, List.getElem?_map, List.getElem?_eq_getElem (by simpa using hi)]
      simp
    obtain ⟨l', h2⟩ := LP.ex T (U ++ [t]) _ h1
    exact ⟨l', by rw [List.append_assoc] at h2; exact h2⟩
theorem lfT_spec {room : List Int} {R : List Row} {b e : Int} (hR : RowsOk room.length R) (hbe : b < e) : LF room.length room (rws R) b e (lfT room.length room (rws R) b e) := by
  obtain ⟨l, h⟩ := LP.ex (w := room.length) (room := room) (R := rws R) ([b] ++ ((rws R).map (·.1)).filter fun t => decide (b < t) && decide (t < e)) [] room (LP.nil rfl)
  rw [List.nil_append] at h
  have h2 := h.done (fun r hr => by obtain ⟨y, hy, rfl⟩ := List.mem_map.mp hr; exact hR.pos y hy) (Times.of hbe fun r hr => List.mem_map.mpr ⟨r, hr, rfl⟩)
  rw [lfT_eq h2]; exact h2

end My
namespace My
open PySem PySem.Spec L2 Nu
open PyProof.Rows hiding St
/-! ### gon -/
/-! ### the keys of what is past are dropped one by one -/
theorem gone_key {R : List Row} {t : Int} {k : Str} (h : k ∈ (R.filter fun r => decide (r.2.2.1 ≤ t)).map (·.1)) : k ∈ keysR R := by
  obtain ⟨r, hr, e⟩ := List.mem_map.mp h
  exact List.mem_map.mpr ⟨r, (List.mem_filter.mp hr).1, e⟩
theorem dels_stay : ∀ (g : List Str) {R : List Row} {k : Str}, k ∈ keysR R → k ∉ g → k ∈ keysR (g.foldl delR R)
  | [], _, _, h, _ => h
  | a :: g, R, k, h, n => by
    refine dels_stay g (R := delR R a) ?_ fun c => n (List.mem_cons_of_mem _ c)
    obtain ⟨r, hr, e⟩ := List.mem_map.mp h
    refine List.mem_map.mpr ⟨r, List.mem_filter.mpr ⟨hr, ?_⟩, e⟩
    have : r.1 ≠ a := fun c => n (by rw [← e, c]; exact List.mem_cons_self ..)
    simp [this]
theorem take_nodup {g : List Str} (h : g.Nodup) {i : Nat} {k : Str} (hk : g[i]? = some k) : k ∉ g.take i := by
  intro hm
  obtain ⟨j, hj⟩ := List.getElem?_of_mem hm
  rw [List.getElem?_take] at hj
  split at hj
  · next c =>
    have hi := (List.getElem?_eq_some_iff.mp hk)
    have hj' := (List.getElem?_eq_some_iff.mp hj)
    have := (List.getElem_inj h).mp (hj'.2.trans hi.2.symm)
    omega
  · cases hj
/-- the rows after i keys are dropped -/
theorem gone_next {R : List Row} {t : Int} {g : List Str} (nd : (keysR R).Nodup) (hp : g.Perm ((R.filter fun r => decide (r.2.2.1 ≤ t)).map (·.1))) {i : Nat} {k : Str} (hk : g[i]? = some k) :
    ∃ r, rowOf ((g.take i).foldl delR R) k = some r ∧ (g.take (i + 1)).foldl delR R = delR ((g.take i).foldl delR R) k := by
  have hg : g.Nodup := hp.nodup_iff.mpr (nd.sublist ((List.filter_sublist).map _))
  refine ⟨_, (rowOf_mem (dels_stay _ (gone_key (hp.subset (List.mem_of_getElem? hk))) (take_nodup hg hk))).choose_spec, ?_⟩
  rw [take_succ hk, List.foldl_append]; rfl

end My
namespace My
open PySem PySem.Spec L2 Nu
open PyProof.Rows hiding St
/-! ### alk -/
/-! ### told ones that are alike -/
mutual
/-- told data, in so many layers -/
def dpt : Nat → D → Bool
  | 0, _ => false
  | _ + 1, .non => true
  | _ + 1, .int _ => true
  | _ + 1, .str _ => true
  | n + 1, .lst xs => decide (xs.length ≤ 1000) && dpts n xs
  | n + 1, .tup xs => decide (xs.length ≤ 1000) && dpts n xs
  | _, _ => false
def dpts : Nat → List D → Bool
  | _, [] => true
  | n, x :: xs => dpt n x && dpts n xs
end
theorem dpts_mem {n : Nat} : ∀ {xs : List D}, dpts n xs = true → ∀ x ∈ xs, dpt n x = true
  | [], _, _, h => by cases h
  | y :: xs, h, x, hx => by
    unfold dpts at h
    rw [Bool.and_eq_true] at h
    rcases List.mem_cons.mp hx with rfl | hx
    · exact h.1
    · exact dpts_mem h.2 x hx
theorem dpts_of {n : Nat} : ∀ {xs : List D}, (∀ x ∈ xs, dpt n x = true) → dpts n xs = true
  | [], _ => by unfold dpts; rfl
  | y :: xs, h => by
    unfold dpts
    rw [h y (List.mem_cons_self ..), dpts_of fun x hx => h x (List.mem_cons_of_mem _ hx)]; rfl
def alkL (r : D → D → Prop) (xs ys : List D) : Prop := xs.length = ys.length ∧ xs.length ≤ 1000 ∧ ∀ (i : Nat) (x y : D), xs[i]? = some x → ys[i]? = some y → r x y
/-- two told ones are alike: the one may hold lists that are cells -/
def alk (m : MS) : Nat → D → D → Prop
  | 0, _, _ => False
  | n + 1, d, e => match d, e with
    | .non, .non => True
    | .int i, .int j => i = j
    | .str i, .str j => i = j
    | .lst xs, .lst ys => alkL (alk m n) xs ys
    | .tup xs, .tup ys => alkL (alk m n) xs ys
    | .raw (.ref p), .lst ys => ∃ xs, m p = some (.lst xs) ∧ alkL (alk m n) xs ys
    | _, _ => False
theorem alk_refl {m : MS} : ∀ (n : Nat) {d : D}, dpt n d = true → alk m n d d
  | 0, _, h => by unfold dpt at h; cases h
  | n + 1, d, h => by
    have ll : ∀ xs : List D, (decide (xs.length ≤ 1000) && dpts n xs) = true → alkL (alk m n) xs xs := fun xs h => by
      rw [Bool.and_eq_true] at h
      refine ⟨rfl, of_decide_eq_true h.1, fun i x y hx hy => ?_⟩
      rw [hx] at hy
      cases hy
      exact alk_refl n (dpts_mem h.2 x (List.mem_of_getElem? hx))
    cases d with
    | non => exact trivial
    | int i => exact rfl
    | str i => exact rfl
    | lst xs => unfold dpt at h; exact ll xs h
    | tup xs => unfold dpt at h; exact ll xs h
    | _ => unfold dpt at h; cases h
theorem zipD_pairs (xs ys : List D) : zipD xs ys = (xs.zip ys).map fun p => D.tup [p.1, p.2] := rfl
theorem alk_zip {r : D → D → Prop} {xs ys : List D} (h : alkL r xs ys) {p : D × D} (hp : p ∈ xs.zip ys) : r p.1 p.2 := by
  obtain ⟨i, hi⟩ := List.getElem?_of_mem hp
  obtain ⟨a, b⟩ := List.getElem?_zip_eq_some.mp hi
  exact h.2.2 i _ _ a b

end My
namespace My
open PySem PySem.Spec L2 Nu
open PyProof.Rows hiding St
/-! ### bth -/
/-! ### the book and the law's own keeping beside it -/
structure Both (m : MS) (p q b s : Addr) (room : List Int) (top wide : Int) (R : List Row) : Prop where
  hL : LawM m p q room top wide R
  hB : BookM m b s room R
  nsq : s ≠ q
  nps : p ≠ s
abbrev mB (m : MS) (s q : Addr) (R : List Row) : MS := mset (mset m s (.dct (rowsK R))) q (.dct (rowsK R))
theorem Both.box {m : MS} {p q b s x : Addr} {room : List Int} {top wide : Int} {R : List Row} {c : Cell} (h : Both m p q b s room top wide R) (k : Bx m x) : Both (mset m x c) p q b s room top wide R := ⟨h.hL.box k, h.hB.box k, h.nsq, h.nps⟩
theorem Both.mB {m : MS} {p q b s : Addr} {room : List Int} {top wide : Int} {R R' : List Row} (h : Both m p q b s room top wide R) : Both (mB m s q R') p q b s room top wide R' := by
  have hbs : b ≠ s := ne_cell h.hB.hb h.hB.hs (by simp)
  have hbq : b ≠ q := ne_cell h.hB.hb h.hL.hq (by simp)
  exact ⟨⟨by unfold My.mB; rw [mset_ne h.hL.ne, mset_ne h.nps]; exact h.hL.hp, mset_same, h.hL.ne⟩, ⟨by unfold My.mB; rw [mset_ne hbq, mset_ne hbs]; exact h.hB.hb, by unfold My.mB; rw [mset_ne h.nsq, mset_same]⟩, h.nsq, h.nps⟩
theorem Both.bx {m : MS} {p q b s x : Addr} {room : List Int} {top wide : Int} {R R' : List Row} (h : Both m p q b s room top wide R) (k : Bx m x) : Bx (My.mB m s q R') x := by
  obtain ⟨a, c, hx, h0⟩ := k
  have hxs : x ≠ s := ne_cell hx h.hB.hs (by unfold bxc; simp)
  have hxq : x ≠ q := ne_cell hx h.hL.hq (by unfold bxc; simp)
  exact ⟨a, c, by unfold My.mB; rw [mset_ne hxq, mset_ne hxs]; exact hx, h0⟩
theorem amt_dpt {n : Nat} {l : List Int} (h : l.length ≤ 1000) : dpt (n + 2) (amtD l) = true := by
  unfold amtD dpt
  rw [Bool.and_eq_true, List.length_map]
  refine ⟨decide_eq_true h, dpts_of fun x hx => ?_⟩
  obtain ⟨z, _, rfl⟩ := List.mem_map.mp hx
  unfold dpt; rfl
theorem opt_dpt {n : Nat} (o : Option Int) : dpt (n + 1) (optD o) = true := by
  cases o <;> (unfold optD dpt; rfl)
theorem ents_dpt {w : Nat} {R : List Row} (h : RowsOk w R) (hw : w ≤ 1000) (hl : R.length ≤ 1000) : dpt 6 (.lst (entsD R)) = true := by
  unfold entsD dpt
  rw [Bool.and_eq_true, List.length_map, (srtT_perm _).length_eq, List.length_map]
  refine ⟨decide_eq_true hl, dpts_of fun x hx => ?_⟩
  obtain ⟨k, hk, rfl⟩ := List.mem_map.mp hx
  obtain ⟨r, hr⟩ := rowOf_mem ((srtT_perm _).subset hk)
  unfold entS
  rw [hr]
  show dpt 5 (.tup [.str k, .int r.1, .int r.2.1, amtD r.2.2]) = true
  unfold dpt
  rw [Bool.and_eq_true]
  refine ⟨by simp, dpts_of fun x hx => ?_⟩
  simp only [List.mem_cons, List.not_mem_nil, or_false] at hx
  rcases hx with rfl | rfl | rfl | rfl
  · unfold dpt; rfl
  · unfold dpt; rfl
  · unfold dpt; rfl
  · exact amt_dpt (by rw [h.len _ (rowOf_some hr)]; exact hw)
theorem out_dpt {w : Nat} {room : List Int} {R : List Row} {d : Deed} (hl : R.length ≤ 1000) : dpt 6 (outD (stepR w room R d).1) = true := by
  have gen : ∀ o : Out, (∀ g, o = .gone g → g.length ≤ 1000) → dpt 6 (outD o) = true := fun o h => by
    cases o with
    | gone g =>
      unfold outD dpt
      rw [Bool.and_eq_true]
      refine ⟨by simp, dpts_of fun x hx => ?_⟩
      simp only [List.mem_cons, List.not_mem_nil, or_false] at hx
      rcases hx with rfl | rfl
      · unfold dpt; rfl
      · unfold dpt
        rw [Bool.and_eq_true, List.length_map]
        refine ⟨decide_eq_true (h g rfl), dpts_of fun x hx => ?_⟩
        obtain ⟨z, _, rfl⟩ := List.mem_map.mp hx
        unfold dpt; rfl
    | _ => rfl
  refine gen _ fun g hg => ?_
  cases d with
  | past t =>
    have : goneT R t = g := by simpa [stepR] using hg
    rw [← this]
    exact Nat.le_trans (goneT_len R t) hl
  | put k b e l =>
    simp only [stepR] at hg
    split at hg
    · cases hg
    · split at hg <;> cases hg
  | cut k t =>
    simp only [stepR] at hg
    split at hg
    · cases hg
    · split at hg <;> cases hg
  | stretch k t =>
    simp only [stepR] at hg
    split at hg
    · cases hg
    · split at hg
      · split at hg <;> cases hg
      · cases hg
  | drop k =>
    simp only [stepR] at hg
    split at hg <;> cases hg
/-! names -/
def KeyIn (many : Int) (k : Str) : Prop := ∃ n, 0 ≤ n ∧ n < many ∧ k = nmS n
theorem nmS_ok (n : Int) : PyData.strOk (nmS n) = true := by
  unfold nmS
  have e1 := emod_bd n (b := 26) (by decide)
  have e2 := emod_bd (n / 26) (b := 4) (by decide)
  have h1 : (n % 26).toNat < 26 := by omega
  have h2 : (n / 26 % 4).toNat < 4 := by omega
  revert h1 h2
  generalize (n % 26).toNat = i
  generalize (n / 26 % 4).toNat = j
  have : ∀ i : Fin 26, ∀ j : Fin 4, PyData.strOk ((⟨#[("abcdefghijklmnopqrstuvwxyz" : Str).cps.toList.getD i.1 0]⟩ : Str) ++ ([("" : Str), "q", "wz", "longest"].getD j.1 "")) = true := by decide +kernel
  exact fun h1 h2 => this ⟨i, h1⟩ ⟨j, h2⟩
/-- what a drawn deed may be -/
def DeedOk (ws : List Str) (many : Int) (w : Nat) (top wide : Int) (d : Deed) : Prop := d.word ∈ ws ∧ match d with
  | .put k b e l => KeyIn many k ∧ 0 ≤ b ∧ b < e ∧ e ≤ wide + 3 ∧ l.length = w ∧ ∀ v ∈ l, 0 ≤ v ∧ v ≤ top
  | .past t => 0 ≤ t ∧ t ≤ wide
  | .cut _ t => 0 ≤ t ∧ t ≤ wide
  | .stretch _ t => 0 ≤ t ∧ t ≤ wide
  | .drop _ => True
theorem DeedOk.fit {ws : List Str} {many : Int} {w : Nat} {top wide : Int} {d : Deed} (h : DeedOk ws many w top wide d) : fitD w d := by
  cases d with
  | put k b e l =>
    obtain ⟨n, _, _, rfl⟩ := h.2.1
    exact ⟨h.2.2.2.1, h.2.2.2.2.2.1, fun x hx => (h.2.2.2.2.2.2 x hx).1, nmS_ok n⟩
  | _ => exact trivial
theorem DeedOk.keys {ws : List Str} {many : Int} {w w' : Nat} {room : List Int} {top wide : Int} {d : Deed} {R : List Row} {x : Str} (h : DeedOk ws many w top wide d) (hx : x ∈ keysR (stepR w' room R d).2) : x ∈ keysR R ∨ KeyIn many x := by
  rcases step_keys hx with hx | ⟨b, e, l, rfl⟩
  · exact .inl hx
  · exact .inr h.2.1
def wordOk (ws : List Str) : Prop := ws ≠ [] ∧ ws.length ≤ 100 ∧ ∀ w ∈ ws, w = "put" ∨ w = "cut" ∨ w = "stretch" ∨ w = "drop" ∨ w = "past"
theorem Both.new {m : MS} {p q b s e : Addr} {room : List Int} {top wide : Int} {R : List Row} {c : Cell} (h : Both m p q b s room top wide R) (he : m e = none) : Both (mset m e c) p q b s room top wide R := by
  have ne : ∀ {a : Addr} {c' : Cell}, m a = some c' → a ≠ e := fun ha => by rintro rfl; rw [ha] at he; cases he
  exact ⟨⟨by rw [mset_ne (ne h.hL.hp)]; exact h.hL.hp, by rw [mset_ne (ne h.hL.hq)]; exact h.hL.hq, h.hL.ne⟩, ⟨by rw [mset_ne (ne h.hB.hb)]; exact h.hB.hb, by rw [mset_ne (ne h.hB.hs)]; exact h.hB.hs⟩, h.nsq, h.nps⟩
theorem Both.put {m : MS} {p q b s e : Addr} {room : List Int} {top wide : Int} {R : List Row} {c c' : Cell} (h : Both (mset m e c) p q b s room top wide R) (he : m e = none) (hp : p ≠ e) (hq : q ≠ e) (hb : b ≠ e) (hs : s ≠ e) : Both (mset m e c') p q b s room top wide R := by
  have g : ∀ {a : Addr}, a ≠ e → mset m e c' a = mset m e c a := fun n => by rw [mset_ne n, mset_ne n]
  exact ⟨⟨by rw [g hp]; exact h.hL.hp, by rw [g hq]; exact h.hL.hq, h.hL.ne⟩, ⟨by rw [g hb]; exact h.hB.hb, by rw [g hs]; exact h.hB.hs⟩, h.nsq, h.nps⟩
/-- the first start: a keeping, a book, both without rows -/
theorem Both.start {m : MS} {x p q b s : Addr} {a c : Int} {room : List Int} {top wide : Int} (hp : m p = none) (hq : m q = none) (hqp : q ≠ p) (hb : mset (mset (mset m x (bxc a c)) q (.dct [])) p (.dct (lmK room top wide q)) b = none)
    (hs : mset (mset (mset (mset m x (bxc a c)) q (.dct [])) p (.dct (lmK room top wide q))) b (.ins .Book []) s = none) (hsb : s ≠ b) :
    Both (mset (mset (mset (mset (mset (mset m x (bxc a c)) q (.dct [])) p (.dct (lmK room top wide q))) b (.ins .Book [])) s (.dct [])) b (.ins .Book [amtD room, .raw (.ref s)])) p q b s room top wide [] := by
  have bp : p ≠ b := by rintro rfl; rw [mset_same] at hb; cases hb
  have bq : q ≠ b := by rintro rfl; rw [mset_ne hqp, mset_same] at hb; cases hb
  have sp : p ≠ s := by rintro rfl; rw [mset_ne bp, mset_same] at hs; cases hs
  have sq : q ≠ s := by rintro rfl; rw [mset_ne bq, mset_ne hqp, mset_same] at hs; cases hs
  exact ⟨⟨by rw [mset_ne bp, mset_ne sp, mset_ne bp, mset_same], by rw [mset_ne bq, mset_ne sq, mset_ne bq, mset_ne hqp, mset_same]; rfl, hqp.symm⟩, ⟨mset_same, by rw [mset_ne hsb, mset_same]; rfl⟩, sq.symm, sp⟩
theorem rowsOk_nil {w : Nat} : RowsOk w [] := ⟨by simp, by simp, by simp, by simp⟩
theorem nodup_le {α : Type} [DecidableEq α] : ∀ {l U : List α}, l.Nodup → (∀ k ∈ l, k ∈ U) → l.length ≤ U.length
  | [], _, _, _ => by simp
  | a :: l, U, h, hs => by
    have ha := hs a (List.mem_cons_self ..)
    have hn := List.nodup_cons.mp h
    have := nodup_le (U := U.erase a) hn.2 fun k hk => (List.mem_erase_of_ne (by rintro rfl; exact hn.1 hk)).mpr (hs k (List.mem_cons_of_mem _ hk))
    rw [List.length_erase_of_mem ha] at this
    have := List.length_pos_of_mem ha
    rw [List.length_cons]; omega
theorem keys_le {w : Nat} {R : List Row} {U : List Str} (h : RowsOk w R) (hk : ∀ k ∈ keysR R, k ∈ U) : R.length ≤ U.length := by
  have : (keysR R).length ≤ U.length := nodup_le h.nd hk
  rwa [List.length_map] at this
def namesL (n : Nat) : List Str := (List.range n).map fun (i : Nat) => nmS (i : Int)
theorem keyIn_names {n : Nat} {k : Str} (h : KeyIn n k) : k ∈ namesL n := by
  obtain ⟨i, h0, h1, rfl⟩ := h
  refine List.mem_map.mpr ⟨i.toNat, List.mem_range.mpr (by omega), ?_⟩
  rw [Int.toNat_of_nonneg h0]
theorem namesL_len (n : Nat) : (namesL n).length = n := by unfold namesL; simp
theorem Both.startX {m : MS} {x p q b s : Addr} {a c : Int} {room : List Int} {top wide : Int} (hx : ∃ c', m x = some c') (h0 : 0 ≤ a) (h1 : 0 ≤ c) (h2 : c < 2147483647) (hp : m p = none) (hq : m q = none) (hb : mset (mset (mset m x (bxc a c)) q (.dct [])) p (.dct (lmK room top wide q)) b = none)
    (hs : mset (mset (mset (mset m x (bxc a c)) q (.dct [])) p (.dct (lmK room top wide q))) b (.ins .Book []) s = none) :
    Bx (mset (mset (mset (mset (mset (mset m x (bxc a c)) q (.dct [])) p (.dct (lmK room top wide q))) b (.ins .Book [])) s (.dct [])) b (.ins .Book [amtD room, .raw (.ref s)])) x := by
  obtain ⟨c', hx⟩ := hx
  have xp : x ≠ p := by rintro rfl; rw [hx] at hp; cases hp
  have xq : x ≠ q := by rintro rfl; rw [hx] at hq; cases hq
  have xb : x ≠ b := by rintro rfl; rw [mset_ne xp, mset_ne xq, mset_same] at hb; cases hb
  have xs : x ≠ s := by rintro rfl; rw [mset_ne xb, mset_ne xp, mset_ne xq, mset_same] at hs; cases hs
  exact ⟨a, c, by rw [mset_ne xb, mset_ne xs, mset_ne xb, mset_ne xp, mset_ne xq, mset_same], h0, h1, h2⟩
theorem Bx.new {m : MS} {x e : Addr} {c : Cell} (h : Bx m x) (he : m e = none) : Bx (mset m e c) x := by
  obtain ⟨a, b, hx, h0⟩ := h
  exact ⟨a, b, by rw [mset_ne (by rintro rfl; rw [hx] at he; cases he)]; exact hx, h0⟩
theorem Bx.put2 {m : MS} {x : Addr} {a c : Int} (_ : Bx m x) (h0 : 0 ≤ a) (h1 : 0 ≤ c) (h2 : c < 2147483647) : Bx (mset m x (bxc a c)) x := Bx.put h0 h1 h2

end My
namespace My
open PySem PySem.Spec L2 Nu
open PyProof.Rows hiding St
/-! ### fit -/
/-! ### at no time is there more than the room -/
def cI (r : Rw) (t : Int) (i : Nat) : Int := if actv r t = true then r.2.2.getD i 0 else 0
def FitR (w : Nat) (room : List Int) (R : List Row) : Prop := ∀ t i, i < w → loadI (rws R) t i ≤ room.getD i 0
theorem loadI_cons (r : Rw) (R : List Rw) (t : Int) (i : Nat) : loadI (r :: R) t i = cI r t i + loadI R t i := rfl
theorem cI_pos {r : Rw} (h : ∀ x ∈ r.2.2, 0 ≤ x) (t : Int) (i : Nat) : 0 ≤ cI r t i := by
  unfold cI; split
  · exact getD_pos h i
  · exact Int.le_refl _
theorem map_same {R : List Row} {k : Str} {r : Rw} (h : k ∉ keysR R) : R.map (fun x => if x.1 = k then (x.1, r) else x) = R := by
  have e : R.map (fun x => if x.1 = k then (x.1, r) else x) = R.map fun x => x := List.map_congr_left fun x hx => by
    rw [if_neg]; rintro rfl; exact h (List.mem_map.mpr ⟨x, hx, rfl⟩)
  rw [e, List.map_id']
theorem load_map {k : Str} {r r0 : Rw} {t : Int} {i : Nat} : ∀ {R : List Row}, (keysR R).Nodup → rowOf R k = some r0 → loadI (rws (R.map fun x => if x.1 = k then (x.1, r) else x)) t i + cI r0 t i = loadI (rws R) t i + cI r t i
  | [], _, h => by cases h
  | a :: R, nd, h => by
    have hn := List.nodup_cons.mp nd
    rw [List.map_cons]
    by_cases e : a.1 = k
    · have h0 : a.2 = r0 := by
        unfold rowOf at h
        rw [List.find?_cons_of_pos (by simpa using e)] at h
        exact Option.some.inj h
      rw [if_pos e, map_same (by rw [← e]; exact hn.1)]
      show loadI (r :: rws R) t i + _ = loadI (a.2 :: rws R) t i + _
      rw [loadI_cons, loadI_cons, h0]; omega
    · have h0 : rowOf R k = some r0 := by
        unfold rowOf at h ⊢
        rwa [List.find?_cons_of_neg (by simpa using e)] at h
      rw [if_neg e]
      show loadI (a.2 :: rws (R.map fun x => if x.1 = k then (x.1, r) else x)) t i + _ = loadI (a.2 :: rws R) t i + _
      rw [loadI_cons, loadI_cons]
      have := load_map (r := r) (t := t) (i := i) hn.2 h0
      omega
theorem load_put {k : Str} {r r0 : Rw} {R : List Row} (nd : (keysR R).Nodup) (h : rowOf R k = some r0) (t : Int) (i : Nat) : loadI (rws (putR R k r)) t i + cI r0 t i = loadI (rws R) t i + cI r t i := by
  unfold putR
  rw [if_pos ((any_mem R k).mpr (List.mem_map.mpr ⟨_, rowOf_some h, rfl⟩))]
  exact load_map nd h
theorem load_new {k : Str} {r : Rw} {R : List Row} (h : k ∉ keysR R) (t : Int) (i : Nat) : loadI (rws (putR R k r)) t i = loadI (rws R) t i + cI r t i := by
  unfold putR
  rw [if_neg (fun c => h ((any_mem R k).mp c))]
  show loadI (List.map _ (R ++ [(k, r)])) t i = _
  rw [List.map_append, loadI_app]
  show loadI (rws R) t i + (cI r t i + 0) = loadI (rws R) t i + cI r t i
  omega
theorem load_del {w : Nat} {R : List Row} (hR : RowsOk w R) (k : Str) (t : Int) (i : Nat) : loadI (rws (delR R k)) t i ≤ loadI (rws R) t i := by
  have hp := hR.pos
  clear hR
  induction R with
  | nil => exact Int.le_refl _
  | cons a R ih =>
    have h1 := ih fun r hr => hp r (List.mem_cons_of_mem _ hr)
    have h2 := cI_pos (hp a (List.mem_cons_self ..)) t i
    unfold delR
    rw [List.filter_cons]
    split
    · show loadI (a.2 :: rws (delR R k)) t i ≤ loadI (a.2 :: rws R) t i
      rw [loadI_cons, loadI_cons]; omega
    · show loadI (rws (delR R k)) t i ≤ loadI (a.2 :: rws R) t i
      rw [loadI_cons]; omega
theorem fit_del {w : Nat} {room : List Int} {R : List Row} (hR : RowsOk w R) (h : FitR w room R) (k : Str) : FitR w room (delR R k) := fun t i hi => Int.le_trans (load_del hR k t i) (h t i hi)
theorem fit_dels {w : Nat} {room : List Int} : ∀ (g : List Str) {R : List Row}, RowsOk w R → FitR w room R → FitR w room (g.foldl delR R)
  | [], _, _, h => h
  | k :: g, _, hR, h => fit_dels g (del_ok hR) (fit_del hR h k)
/-- FM none tells of each time -/
theorem fm_ex {w : Nat} {room : List Int} {R : List Row} {b e : Int} {l : List Int} (hR : RowsOk w R) (hbe : b < e) : ∃ o, FM w room (rws R) b e l o := by
  have hp : ∀ r ∈ rws R, ∀ x ∈ r.2.2, 0 ≤ x := fun r hr => by obtain ⟨y, hy, rfl⟩ := List.mem_map.mp hr; exact hR.pos y hy
  let E := (((rws R).map (·.1)).mergeSort fun a b : Int => decide (a ≤ b))
  have hE : E.Perm ((rws R).map (·.1)) := List.mergeSort_perm ..
  have hs : E.Pairwise (· ≤ ·) := (List.pairwise_mergeSort (le := fun a b : Int => decide (a ≤ b)) (fun a b c h k => by simp at *; omega) (fun a b => by simp; omega) ((rws R).map (·.1))).imp fun h => by simpa using h
  have T : Times (rws R) b e ([b] ++ E.filter fun t => decide (b < t) && decide (t < e)) := Times.of hbe fun r hr => hE.symm.subset (List.mem_map.mpr ⟨r, hr, rfl⟩)
  have hA := times_pw (b := b) (e := e) hs
  revert T hA
  generalize ([b] ++ E.filter fun t => decide (b < t) && decide (t < e)) = A
  intro T hA
  -- the first of the list
  have first : ∀ (n : Nat), n ≤ A.length → (∀ u ∈ A.take n, ¬ ovr w room (rws R) l u) ∨ ∃ o, FM w room (rws R) b e l o := fun n => by
    induction n with
    | zero => exact fun _ => .inl (by simp)
    | succ n ih =>
      intro hn
      rcases ih (by omega) with ih | ih
      · have ht : A[n]? = some A[n] := List.getElem?_eq_getElem (by omega)
        by_cases c : ovr w room (rws R) l A[n]
        · exact .inr ⟨_, FM.of_some hp T hA ht c ih⟩
        · refine .inl fun u hu => ?_
          rw [take_succ ht] at hu
          rcases List.mem_append.mp hu with hu | hu
          · exact ih u hu
          · rw [List.mem_singleton.mp hu]; exact c
      · exact .inr ih
  rcases first A.length (Nat.le_refl _) with h | h
  · rw [List.take_length] at h; exact ⟨_, FM.of_none hp T h⟩
  · exact h
theorem fm_none {w : Nat} {room : List Int} {R : List Row} {b e : Int} {l : List Int} (hR : RowsOk w R) (hbe : b < e) (h : fmT w room (rws R) b e l = none) : ∀ t, b ≤ t → t < e → ∀ i, i < w → loadI (rws R) t i + l.getD i 0 ≤ room.getD i 0 := by
  obtain ⟨o, ho⟩ := fm_ex (room := room) (l := l) hR hbe
  rw [fmT_eq ho] at h
  subst h
  intro t h1 h2 i hi
  rcases Int.lt_or_le (room.getD i 0) (loadI (rws R) t i + l.getD i 0) with c | c
  · exact absurd ⟨i, hi, c⟩ (ho t h1 h2)
  · exact c
theorem actv_iff {r : Rw} {t : Int} : actv r t = true ↔ r.1 ≤ t ∧ t < r.2.1 := by
  unfold actv; rw [Bool.and_eq_true, decide_eq_true_eq, decide_eq_true_eq]
theorem fit_step {w : Nat} {room : List Int} {R : List Row} {d : Deed} (hR : RowsOk w R) (hd : fitD w d) (h : FitR w room R) : FitR w room (stepR w room R d).2 := by
  cases d with
  | put k b e l =>
    simp only [stepR]
    split
    · exact h
    · next c =>
      split
      · exact h
      · next hf =>
        intro t i hi
        show loadI (rws (putR R k (b, e, l))) t i ≤ _
        rw [load_new c]
        have h1 := h t i hi
        unfold cI
        split
        · next ha =>
          have ha := actv_iff.mp ha
          exact fm_none hR hd.1 hf t ha.1 ha.2 i hi
        · omega
  | cut k t0 =>
    simp only [stepR]
    split
    · exact h
    · next b e l e1 =>
      have hm := rowOf_some e1
      split
      · exact fit_del hR h k
      · intro t i hi
        show loadI (rws (putR R k (b, if t0 < e then t0 else e, l))) t i ≤ _
        have h2 := load_put (r := (b, if t0 < e then t0 else e, l)) hR.nd e1 t i
        have h1 := h t i hi
        have h3 : cI (b, if t0 < e then t0 else e, l) t i ≤ cI (b, e, l) t i := by
          have hp := getD_pos (hR.pos _ hm) i
          unfold cI
          by_cases ha : actv (b, if t0 < e then t0 else e, l) t = true
          · rw [if_pos ha]
            have ha := actv_iff.mp ha
            have ha2 : t < if t0 < e then t0 else e := ha.2
            have ha3 : actv (b, e, l) t = true := actv_iff.mpr ⟨ha.1, by show t < e; split at ha2 <;> omega⟩
            rw [if_pos ha3]
            exact Int.le_refl _
          · rw [if_neg ha]
            split
            · exact hp
            · exact Int.le_refl _
        omega
  | stretch k t0 =>
    simp only [stepR]
    split
    · exact h
    · next b e l e1 =>
      have hm := rowOf_some e1
      split
      · next c =>
        split
        · exact h
        · next hf =>
          intro t i hi
          show loadI (rws (putR R k (b, t0, l))) t i ≤ _
          have h2 := load_put (r := (b, t0, l)) hR.nd e1 t i
          have h1 := h t i hi
          by_cases ha : actv (b, e, l) t = true
          · have h3 : cI (b, t0, l) t i ≤ cI (b, e, l) t i := by
              unfold cI
              rw [if_pos ha]
              split
              · exact Int.le_refl _
              · exact getD_pos (hR.pos _ hm) i
            omega
          · have h4 : cI (b, e, l) t i = 0 := by unfold cI; rw [if_neg ha]
            by_cases ha2 : actv (b, t0, l) t = true
            · have h5 : cI (b, t0, l) t i = l.getD i 0 := by unfold cI; rw [if_pos ha2]
              have k1 := actv_iff.mp ha2
              have k2 : ¬ (b ≤ t ∧ t < e) := fun c => ha (actv_iff.mpr c)
              have k3 : b ≤ t ∧ t < t0 := k1
              have := fm_none hR c hf t (by omega) k3.2 i hi
              omega
            · have h5 : cI (b, t0, l) t i = 0 := by unfold cI; rw [if_neg ha2]
              omega
      · exact h
  | drop k =>
    simp only [stepR]
    split
    · exact h
    · exact fit_del hR h k
  | past t => exact fit_dels _ hR h
theorem fit_nil {w : Nat} {room : List Int} (h : ∀ v ∈ room, 0 ≤ v) : FitR w room [] := fun t i _ => getD_pos h i
/-- what is left is not below nought -/
theorem left_pos {room : List Int} {R : List Row} {b e : Int} (hR : RowsOk room.length R) (hbe : b < e) (h : FitR room.length room R) (h0 : ∀ v ∈ room, 0 ≤ v) : ∀ v ∈ lfT room.length room (rws R) b e, 0 ≤ v := by
  intro v hv
  have hs := lfT_spec (R := R) hR hbe
  obtain ⟨i, hi⟩ := List.getElem?_of_mem hv
  have hil : i < room.length := by have := (List.getElem?_eq_some_iff.mp hi).1; rwa [hs.1] at this
  have e1 : (lfT room.length room (rws R) b e).getD i 0 = v := by rw [List.getD_eq_getElem?_getD, hi]; rfl
  obtain ⟨_, _, h3⟩ := hs.2 i hil
  rw [e1] at h3
  rcases h3 with h3 | ⟨t, _, _, h3⟩
  · rw [h3]; exact getD_pos h0 i
  · have := h t i hil; omega
theorem fmT_spec {w : Nat} {room : List Int} {R : List Row} {b e : Int} {l : List Int} (hR : RowsOk w R) (hbe : b < e) : FM w room (rws R) b e l (fmT w room (rws R) b e l) := by
  obtain ⟨o, ho⟩ := fm_ex (room := room) (l := l) hR hbe
  rw [fmT_eq ho]; exact ho

end My
namespace My
open PySem PySem.Spec L2 Nu
open PyProof.Rows hiding St
/-! ### _law_borne_0ae7 -/
theorem fit_none {w : Nat} {room : List Int} {R : List Row} (hF : FitR w room R) (hr : room.length = w) (t : Int) : (((loadL w (rws R) t).zip room).map fun p => decide (p.2 < p.1)).any id = false := by
  rw [List.any_eq_false]
  intro c hc
  obtain ⟨p, hp, rfl⟩ := List.mem_map.mp hc
  obtain ⟨i, hi⟩ := List.getElem?_of_mem hp
  obtain ⟨h1, h2⟩ := List.getElem?_zip_eq_some.mp hi
  have hil := (List.getElem?_eq_some_iff.mp h1).1
  rw [loadL_len] at hil
  have h3 := hF t i hil
  rw [← loadL_get hil, List.getD_eq_getElem?_getD, List.getD_eq_getElem?_getD, h1, h2] at h3
  have h4 : p.1 ≤ p.2 := h3
  simp; omega
def a__law_borne_0ae7 : ASp := fun ss m P _ => ∃ (p q b s : Addr) (room : List Int) (top wide : Int) (R : List Row), ss = [.raw (.ref b), .raw (.ref p)] ∧ Both m p q b s room top wide R ∧ RowsOk room.length R ∧ FitR room.length room R ∧ ((1 ≤ room.length ∧ room.length ≤ 1000) ∧ R.length ≤ 1000) ∧ P (.bl true) m
theorem len__law_borne_0ae7 : ∀ ss m P Z, a__law_borne_0ae7 ss m P Z → ss.length = 2 := by
  rintro _ m P Z ⟨p, q, b, s, room, top, wide, R, rfl, _⟩; rfl
abbrev n__law_borne_0ae7 : List Str := ["_law_book", "_law_m", "_law_edge", "_law_one", "_law_other"]
theorem nd__law_borne_0ae7 : (n__law_borne_0ae7).Nodup := by decide +kernel
def u__law_borne_0ae7 : SS :=
  (.cons (.fo (.name 2) isVal (.cons (.call a__law_edges (.cons (.var 1) .nil)) .nil) (.cons (.iff (.bop sAny (.cons (.lc (.tup (.cons (.name 3) (.cons (.name 4) .nil))) isZip (.cons (.meth .Book a_Book_load_at (.var 0) (.cons (.var 2) .nil)) (.cons (.bop sIx (.cons (.var 1) (.cons (.cst (.str "room")) .nil))) .nil)) .nil (.bop (sCmp .gt) (.cons (.var 3) (.cons (.var 4) .nil)))) .nil)) (.cons (.ret (.cst (.bl false)))
  .nil) .nil)
  .nil))
  (.cons (.ret (.cst (.bl true)))
  .nil))
theorem body__law_borne_0ae7 : ∀ (ss : List D) (m : MS) (P : NX) (Z : EZ), a__law_borne_0ae7 ss m P Z → WB u__law_borne_0ae7 (startR n__law_borne_0ae7 ss) m (bodyE P Z) := by
  rintro _ m P Z ⟨p, q, b, s, room, top, wide, R, rfl, hT, hR, hF, ⟨hw, hl⟩, h⟩
  (conv => whnf)
  refine ⟨p, q, room, top, wide, R, rfl, hT.hL, hl, fun E hE hs => ?_⟩
  (conv => whnf)
  refine foN E D.int (fun i ρ' m' => m' = m ∧ ∃ x2, ρ' = [some (.raw (.ref b)), some (.raw (.ref p)), x2, none, none]) rfl ⟨rfl, _, rfl⟩ (fun i ρ' m' h => trivial) ?_ ?_
  · rintro i t ρ' m' ht ⟨rfl, x2, rfl⟩
    (conv => whnf)
    refine ⟨_, _, rfl, hT.hB.hb, ?_⟩
    (conv => whnf)
    refine ⟨b, s, room, R, t, rfl, hT.hB, hR, hw, ?_⟩
    (conv => whnf)
    refine ⟨_, hT.hL.hp, _, rfl, ?_⟩
    (conv => whnf)
    refine lcM ((loadL room.length (rws R) t).zip room) (fun p => D.tup [.int p.1, .int p.2]) (fun p => .bl (decide (p.2 < p.1))) zipD_map (by rw [List.length_zip, loadL_len]; omega) ⟨trivial, trivial⟩ (fun x hx => ⟨_, rfl, fun R r => by ((conv => whnf)); exact r⟩) (.inl ?_)
    (conv => whnf)
    refine ⟨_, by rw [List.map_map]; rfl, ?_⟩
    rw [fit_none hF rfl t]
    (conv => whnf)
    refine ⟨_, rfl, fun c => (by cases c), fun _ => ?_⟩
    exact ⟨rfl, _, rfl⟩
  · rintro ρ' m' ⟨rfl, x2, rfl⟩
    (conv => whnf)
    exact ret h

end My
namespace My
open PySem PySem.Spec L2 Nu
open PyProof.Rows hiding St
/-! ### _law_alike_2e9a -/
def r__law_alike_2e9a (n : Nat) : ASp := fun ss m P _ => ∃ d e, ss = [d, e] ∧ alk m n d e ∧ P (.bl true) m
theorem zero__law_alike_2e9a : ∀ ss m P Z, ¬ r__law_alike_2e9a 0 ss m P Z := by
  rintro _ m P Z ⟨d, e, rfl, h, _⟩; exact h
theorem len__law_alike_2e9a : ∀ n ss m P Z, r__law_alike_2e9a n ss m P Z → ss.length = 2 := by
  rintro n _ m P Z ⟨d, e, rfl, _⟩; rfl
abbrev a__law_alike_2e9a : ASp := r__law_alike_2e9a 6
abbrev n__law_alike_2e9a : List Str := ["_law_found", "_law_due_here", "_law_one", "_law_other"]
theorem nd__law_alike_2e9a : (n__law_alike_2e9a).Nodup := by decide +kernel
def u__law_alike_2e9a (aR : ASp) : SS :=
  (.cons (.iff (.bop sIs (.cons (.var 1) (.cons (.cst .non) .nil))) (.cons (.ret (.bop sIs (.cons (.var 0) (.cons (.cst .non) .nil))))
  .nil) .nil)
  (.cons (.iff (.bop (sIsi2 .list .tuple) (.cons (.var 1) .nil)) (.cons (.iff (.or2 (.bop sNot (.cons (.bop (sIsi2 .list .tuple) (.cons (.var 0) .nil)) .nil)) (.bop sNe (.cons (.bop (sIsi .list) (.cons (.var 0) .nil)) (.cons (.bop (sIsi .list) (.cons (.var 1) .nil)) .nil)))) (.cons (.ret (.cst (.bl false)))
  .nil) .nil)
  (.cons (.ret (.and2 (.bop sEq (.cons (.bop sLen (.cons (.var 0) .nil)) (.cons (.bop sLen (.cons (.var 1) .nil)) .nil))) (.bop sAll (.cons (.lc (.tup (.cons (.name 2) (.cons (.name 3) .nil))) isZip (.cons (.var 0) (.cons (.var 1) .nil)) .nil (.call aR (.cons (.var 2) (.cons (.var 3) .nil)))) .nil))))
  .nil)) .nil)
  (.cons (.iff (.bop (sIsi .str) (.cons (.var 1) .nil)) (.cons (.ret (.and2 (.bop (sIsi .str) (.cons (.var 0) .nil)) (.bop sEq (.cons (.var 0) (.cons (.var 1) .nil)))))
  .nil) .nil)
  (.cons (.ret (.and2 (.bop (sIsi .int) (.cons (.var 0) .nil)) (.and2 (.bop sNot (.cons (.bop (sIsi .bool) (.cons (.var 0) .nil)) .nil)) (.bop sEq (.cons (.var 0) (.cons (.var 1) .nil))))))
  .nil))))
theorem body__law_alike_2e9a : ∀ (n : Nat) (ss : List D) (m : MS) (P : NX) (Z : EZ), r__law_alike_2e9a (n + 1) ss m P Z → WB (u__law_alike_2e9a (r__law_alike_2e9a n)) (startR n__law_alike_2e9a ss) m (bodyE P Z) := by
  rintro n _ m P Z ⟨d, e, rfl, h, q⟩
  unfold alk at h
  split at h
  · (conv => whnf)
    refine ⟨_, rfl, fun _ => ?_, fun c => (by cases c)⟩
    (conv => whnf)
    exact ret q
  · subst h
    (conv => whnf)
    refine ⟨_, rfl, fun c => (by cases c), fun _ => ?_⟩
    (conv => whnf)
    refine ⟨_, rfl, fun c => (by cases c), fun _ => ?_⟩
    (conv => whnf)
    refine ⟨_, rfl, fun c => (by cases c), fun _ => ?_⟩
    (conv => whnf)
    refine ⟨_, rfl, .inr ⟨fun _ => ?_, fun c => (by cases c)⟩⟩
    (conv => whnf)
    refine ⟨_, rfl, .inr ⟨fun _ => ?_, fun c => (by cases c)⟩⟩
    (conv => whnf)
    rw [decide_eq_true rfl]
    exact ret q
  · subst h
    (conv => whnf)
    refine ⟨_, rfl, fun c => (by cases c), fun _ => ?_⟩
    (conv => whnf)
    refine ⟨_, rfl, fun c => (by cases c), fun _ => ?_⟩
    (conv => whnf)
    refine ⟨_, rfl, fun _ => ?_, fun c => (by cases c)⟩
    (conv => whnf)
    refine ⟨_, rfl, .inr ⟨fun _ => ?_, fun c => (by cases c)⟩⟩
    (conv => whnf)
    rw [decide_eq_true rfl]
    exact ret q
  · next xs ys =>
    (conv => whnf)
    refine ⟨_, rfl, fun c => (by cases c), fun _ => ?_⟩
    (conv => whnf)
    refine ⟨_, rfl, fun _ => ?_, fun c => (by cases c)⟩
    (conv => whnf)
    refine ⟨_, rfl, .inr ⟨fun _ => ?_, fun c => (by cases c)⟩⟩
    (conv => whnf)
    refine ⟨_, rfl, fun c => (by cases c), fun _ => ?_⟩
    (conv => whnf)
    refine ⟨_, rfl, .inr ⟨fun _ => ?_, fun c => ?_⟩⟩
    · (conv => whnf)
      refine lcM (xs.zip ys) (fun p => D.tup [p.1, p.2]) (fun _ => .bl true) (zipD_pairs xs ys) (by have := h.2.1; rw [List.length_zip]; omega) ⟨trivial, trivial⟩ (fun x hx => ⟨_, rfl, fun R r => ?_⟩) (.inl ?_)
      · (conv => whnf)
        exact ⟨_, _, rfl, alk_zip h hx, r⟩
      · (conv => whnf)
        refine ⟨(xs.zip ys).map fun _ => true, by rw [List.map_map]; rfl, ?_⟩
        rw [show ((xs.zip ys).map fun _ => true).all id = true by rw [List.all_map]; simp]
        exact ret q
    · rw [decide_eq_true (by rw [h.1])] at c; cases c
  · next xs ys =>
    (conv => whnf)
    refine ⟨_, rfl, fun c => (by cases c), fun _ => ?_⟩
    (conv => whnf)
    refine ⟨_, rfl, fun _ => ?_, fun c => (by cases c)⟩
    (conv => whnf)
    refine ⟨_, rfl, .inr ⟨fun _ => ?_, fun c => (by cases c)⟩⟩
    (conv => whnf)
    refine ⟨_, rfl, fun c => (by cases c), fun _ => ?_⟩
    (conv => whnf)
    refine ⟨_, rfl, .inr ⟨fun _ => ?_, fun c => ?_⟩⟩
    · (conv => whnf)
      refine lcM (xs.zip ys) (fun p => D.tup [p.1, p.2]) (fun _ => .bl true) (zipD_pairs xs ys) (by have := h.2.1; rw [List.length_zip]; omega) ⟨trivial, trivial⟩ (fun x hx => ⟨_, rfl, fun R r => ?_⟩) (.inl ?_)
      · (conv => whnf)
        exact ⟨_, _, rfl, alk_zip h hx, r⟩
      · (conv => whnf)
        refine ⟨(xs.zip ys).map fun _ => true, by rw [List.map_map]; rfl, ?_⟩
        rw [show ((xs.zip ys).map fun _ => true).all id = true by rw [List.all_map]; simp]
        exact ret q
    · rw [decide_eq_true (by rw [h.1])] at c; cases c
  · next p ys =>
    obtain ⟨xs, hp, h⟩ := h
    (conv => whnf)
    refine ⟨_, rfl, fun c => (by cases c), fun _ => ?_⟩
    (conv => whnf)
    refine ⟨_, rfl, fun _ => ?_, fun c => (by cases c)⟩
    (conv => whnf)
    refine ⟨_, hp, ?_⟩
    (conv => whnf)
    refine ⟨_, rfl, .inr ⟨fun _ => ?_, fun c => (by cases c)⟩⟩
    (conv => whnf)
    refine ⟨_, hp, ?_⟩
    (conv => whnf)
    refine ⟨_, rfl, fun c => (by cases c), fun _ => ?_⟩
    (conv => whnf)
    refine ⟨_, hp, ?_⟩
    (conv => whnf)
    refine ⟨_, rfl, .inr ⟨fun _ => ?_, fun c => ?_⟩⟩
    · (conv => whnf)
      refine ⟨_, hp, ?_⟩
      (conv => whnf)
      refine lcM (xs.zip ys) (fun p => D.tup [p.1, p.2]) (fun _ => .bl true) (zipD_pairs xs ys) (by have := h.2.1; rw [List.length_zip]; omega) ⟨hp, trivial⟩ (fun x hx => ⟨_, rfl, fun R r => ?_⟩) (.inl ?_)
      · (conv => whnf)
        exact ⟨_, _, rfl, alk_zip h hx, r⟩
      · (conv => whnf)
        refine ⟨(xs.zip ys).map fun _ => true, by rw [List.map_map]; rfl, ?_⟩
        rw [show ((xs.zip ys).map fun _ => true).all id = true by rw [List.all_map]; simp]
        exact ret q
    · rw [decide_eq_true (by rw [h.1])] at c; cases c
  · exact h.elim

end My
namespace My
open PySem PySem.Spec L2 Nu
open PyProof.Rows hiding St
/-! ### Book_entry_rows -/
def a_Book_entry_rows : ASp := fun ss m P _ => ∃ (b s : Addr) (room : List Int) (R : List Row), ss = [.raw (.ref b)] ∧ BookM m b s room R ∧ R.length ≤ 1000 ∧ NewL (entsD R) m P
theorem len_Book_entry_rows : ∀ ss m P Z, a_Book_entry_rows ss m P Z → ss.length = 1 := by
  rintro _ m P Z ⟨b, s, room, R, rfl, _⟩; rfl
abbrev n_Book_entry_rows : List Str := ["self", "key"]
theorem nd_Book_entry_rows : (n_Book_entry_rows).Nodup := by decide +kernel
def u_Book_entry_rows : SS :=
  (.cons (.ret (.lc (.name 1) isVal (.cons (.bop sSorted (.cons (.bop (sFld .written) (.cons (.var 0) .nil)) .nil)) .nil) .nil (.bop sAdd (.cons (.bop sTup (.cons (.var 1) .nil)) (.cons (.bop sIx (.cons (.bop (sFld .written) (.cons (.var 0) .nil)) (.cons (.var 1) .nil))) .nil)))))
  .nil)
theorem body_Book_entry_rows : ∀ (ss : List D) (m : MS) (P : NX) (Z : EZ), a_Book_entry_rows ss m P Z → WB u_Book_entry_rows (startR n_Book_entry_rows ss) m (bodyE P Z) := by
  rintro _ m P Z ⟨b, s, room, R, rfl, hB, hlen, k⟩
  (conv => whnf)
  refine ⟨_, _, hB.hb, ?_⟩
  (conv => whnf)
  refine ⟨_, hB.hs, .inl ⟨keysR R, rowsK_keys R, fun ys hp hs => .inl ?_⟩⟩
  have hl : ys.length ≤ 1000 := by rw [hp.length_eq, List.length_map]; exact hlen
  (conv => whnf)
  have e : entsD R = ys.map (entS R) := by unfold entsD; rw [srtT_eq hp hs]
  rw [e] at k
  refine lcNM ys D.str (entS R) rfl (by omega) trivial ?_ ?_
  · intro y hy Q h
    obtain ⟨r, hr⟩ := rowOf_mem (hp.subset hy)
    (conv => whnf)
    refine ⟨_, _, hB.hb, ?_⟩
    (conv => whnf)
    refine ⟨_, hB.hs, rwD r, by rw [val_rows, hr]; rfl, ?_⟩
    (conv => whnf)
    refine ⟨by simp, ?_⟩
    have : entS R y = .tup [.str y, .int r.1, .int r.2.1, amtD r.2.2] := by unfold entS; rw [hr]
    rw [this] at h
    exact h
  · rcases k with k | k
    · exact .inl (ret k)
    · exact .inr fun p hp => ret (k p hp)

end My
namespace My
open PySem PySem.Spec L2 Nu
open PyProof.Rows hiding St
/-! ### _law_rows_due_422a -/
def a__law_rows_due_422a : ASp := fun ss m P _ => ∃ (p q : Addr) (room : List Int) (top wide : Int) (R : List Row), ss = [.raw (.ref p)] ∧ LawM m p q room top wide R ∧ R.length ≤ 1000 ∧ P (.lst (entsD R)) m
theorem len__law_rows_due_422a : ∀ ss m P Z, a__law_rows_due_422a ss m P Z → ss.length = 1 := by
  rintro _ m P Z ⟨p, q, room, top, wide, R, rfl, _⟩; rfl
abbrev n__law_rows_due_422a : List Str := ["_law_m", "_law_key"]
theorem nd__law_rows_due_422a : (n__law_rows_due_422a).Nodup := by decide +kernel
def u__law_rows_due_422a : SS :=
  (.cons (.ret (.lc (.name 1) isVal (.cons (.bop sSorted (.cons (.bop sIx (.cons (.var 0) (.cons (.cst (.str "rows")) .nil))) .nil)) .nil) .nil (.bop sAdd (.cons (.bop sTup (.cons (.var 1) .nil)) (.cons (.bop sIx (.cons (.bop sIx (.cons (.var 0) (.cons (.cst (.str "rows")) .nil))) (.cons (.var 1) .nil))) .nil)))))
  .nil)
theorem body__law_rows_due_422a : ∀ (ss : List D) (m : MS) (P : NX) (Z : EZ), a__law_rows_due_422a ss m P Z → WB u__law_rows_due_422a (startR n__law_rows_due_422a ss) m (bodyE P Z) := by
  rintro _ m P Z ⟨p, q, room, top, wide, R, rfl, hL, hlen, k⟩
  (conv => whnf)
  refine ⟨_, hL.hp, _, rfl, ?_⟩
  (conv => whnf)
  refine ⟨_, hL.hq, .inl ⟨keysR R, rowsK_keys R, fun ys hp hs => .inl ?_⟩⟩
  have hl : ys.length ≤ 1000 := by rw [hp.length_eq, List.length_map]; exact hlen
  (conv => whnf)
  have e : entsD R = ys.map (entS R) := by unfold entsD; rw [srtT_eq hp hs]
  rw [e] at k
  refine lcNM ys D.str (entS R) rfl (by omega) trivial ?_ (.inl (ret k))
  · intro y hy Q h
    obtain ⟨r, hr⟩ := rowOf_mem (hp.subset hy)
    (conv => whnf)
    refine ⟨_, hL.hp, _, rfl, ?_⟩
    (conv => whnf)
    refine ⟨_, hL.hq, rwD r, by rw [val_rows, hr]; rfl, ?_⟩
    (conv => whnf)
    refine ⟨by simp, ?_⟩
    have : entS R y = .tup [.str y, .int r.1, .int r.2.1, amtD r.2.2] := by unfold entS; rw [hr]
    rw [this] at h
    exact h

end My
namespace My
open PySem PySem.Spec L2 Nu
open PyProof.Rows hiding St
/-! ### Book_whole_room -/
def a_Book_whole_room : ASp := fun ss m P _ => ∃ (b s : Addr) (room : List Int) (R : List Row), ss = [.raw (.ref b)] ∧ BookM m b s room R ∧ P (amtD room) m
theorem len_Book_whole_room : ∀ ss m P Z, a_Book_whole_room ss m P Z → ss.length = 1 := by
  rintro _ m P Z ⟨b, s, room, R, rfl, _⟩; rfl
abbrev n_Book_whole_room : List Str := ["self"]
theorem nd_Book_whole_room : (n_Book_whole_room).Nodup := by decide +kernel
def u_Book_whole_room : SS :=
  (.cons (.ret (.bop (sFld .room) (.cons (.var 0) .nil)))
  .nil)
theorem body_Book_whole_room : ∀ (ss : List D) (m : MS) (P : NX) (Z : EZ), a_Book_whole_room ss m P Z → WB u_Book_whole_room (startR n_Book_whole_room ss) m (bodyE P Z) := by
  rintro _ m P Z ⟨b, s, room, R, rfl, hB, k⟩
  (conv => whnf)
  refine ⟨_, _, hB.hb, ?_⟩
  (conv => whnf)
  exact ret k

end My
namespace My
open PySem PySem.Spec L2 Nu
open PyProof.Rows hiding St
/-! ### _law_stands_ede1 -/
def a__law_stands_ede1 : ASp := fun ss m P _ => ∃ (p q b s : Addr) (room : List Int) (top wide : Int) (R : List Row), ss = [.raw (.ref b), .raw (.ref p)] ∧ Both m p q b s room top wide R ∧ RowsOk room.length R ∧ ((1 ≤ room.length ∧ room.length ≤ 1000) ∧ R.length ≤ 1000) ∧ P (.bl true) m
theorem len__law_stands_ede1 : ∀ ss m P Z, a__law_stands_ede1 ss m P Z → ss.length = 2 := by
  rintro _ m P Z ⟨p, q, b, s, room, top, wide, R, rfl, _⟩; rfl
abbrev n__law_stands_ede1 : List Str := ["_law_book", "_law_m"]
theorem nd__law_stands_ede1 : (n__law_stands_ede1).Nodup := by decide +kernel
def u__law_stands_ede1 : SS :=
  (.cons (.ret (.and2 (.call a__law_alike_2e9a (.cons (.meth .Book a_Book_entry_rows (.var 0) .nil) (.cons (.call a__law_rows_due_422a (.cons (.var 1) .nil)) .nil))) (.call a__law_alike_2e9a (.cons (.meth .Book a_Book_whole_room (.var 0) .nil) (.cons (.bop sIx (.cons (.var 1) (.cons (.cst (.str "room")) .nil))) .nil)))))
  .nil)
theorem body__law_stands_ede1 : ∀ (ss : List D) (m : MS) (P : NX) (Z : EZ), a__law_stands_ede1 ss m P Z → WB u__law_stands_ede1 (startR n__law_stands_ede1 ss) m (bodyE P Z) := by
  rintro _ m P Z ⟨p, q, b, s, room, top, wide, R, rfl, hT, hR, ⟨hw, hlen⟩, h⟩
  (conv => whnf)
  refine ⟨_, _, rfl, hT.hB.hb, ?_⟩
  (conv => whnf)
  refine ⟨b, s, room, R, rfl, hT.hB, hlen, .inl ?_⟩
  (conv => whnf)
  refine ⟨p, q, room, top, wide, R, rfl, hT.hL, hlen, ?_⟩
  (conv => whnf)
  refine ⟨_, _, rfl, alk_refl 6 (ents_dpt hR hw.2 (by omega)), ?_⟩
  (conv => whnf)
  refine ⟨_, rfl, .inr ⟨fun _ => ?_, fun c => (by cases c)⟩⟩
  (conv => whnf)
  refine ⟨_, _, rfl, hT.hB.hb, ?_⟩
  (conv => whnf)
  refine ⟨b, s, room, R, rfl, hT.hB, ?_⟩
  (conv => whnf)
  refine ⟨_, hT.hL.hp, _, rfl, ?_⟩
  (conv => whnf)
  refine ⟨_, _, rfl, alk_refl 6 (amt_dpt hw.2), ?_⟩
  exact ret h

end My
namespace My
open PySem PySem.Spec L2 Nu
open PyProof.Rows hiding St
/-! ### Book_rises_in -/
def a_Book_rises_in : ASp := fun ss m P _ => ∃ (b0 s : Addr) (room : List Int) (R : List Row) (b e : Int), ss = [.raw (.ref b0), .int b, .int e] ∧ BookM m b0 s room R ∧ (b < e ∧ R.length ≤ 1000) ∧ ∀ A : List Int, Times (rws R) b e A → A.Pairwise (· ≤ ·) → A.length ≤ 1001 → P (.lst (A.map .int)) m
theorem len_Book_rises_in : ∀ ss m P Z, a_Book_rises_in ss m P Z → ss.length = 3 := by
  rintro _ m P Z ⟨b0, s, room, R, b, e, rfl, _⟩; rfl
abbrev n_Book_rises_in : List Str := ["self", "begin", "end", "row"]
theorem nd_Book_rises_in : (n_Book_rises_in).Nodup := by decide +kernel
def u_Book_rises_in : SS :=
  (.cons (.ret (.bop sAdd (.cons (.bop sLst (.cons (.var 1) .nil)) (.cons (.bop sSorted (.cons (.lock (.lc (.name 3) (isDct .vals) (.cons (.bop (sFld .written) (.cons (.var 0) .nil)) .nil) (.cons (.chain .lt .lt (.var 1) (.bop sIx (.cons (.var 3) (.cons (.cst (.int 0)) .nil))) (.var 2)) .nil) (.bop sIx (.cons (.var 3) (.cons (.cst (.int 0)) .nil))))) .nil)) .nil))))
  .nil)
theorem body_Book_rises_in : ∀ (ss : List D) (m : MS) (P : NX) (Z : EZ), a_Book_rises_in ss m P Z → WB u_Book_rises_in (startR n_Book_rises_in ss) m (bodyE P Z) := by
  rintro _ m P Z ⟨b0, s, room, R, b, e, rfl, hB, ⟨hbe, hl⟩, k⟩
  (conv => whnf)
  refine .inl ?_
  (conv => whnf)
  refine .inl ⟨s, _, hB.hs, fun o vs => ?_⟩
  (conv => whnf)
  refine ⟨_, _, hB.lk, ?_⟩
  (conv => whnf)
  refine ⟨o, vs, _, mset_same, ?_⟩
  (conv => whnf)
  refine lcN R (fun r => rwD r.2) (fun r => decide (b < r.2.1) && decide (r.2.1 < e)) (fun r => .int r.2.1) (kds_vals R) (by omega) mset_same ?_ (.inl ?_)
  · intro r hr
    refine ⟨fun Q h => ?_, fun hp Q h => ?_⟩
    · (conv => whnf)
      refine ⟨_, rfl, ?_⟩
      (conv => whnf)
      refine ⟨_, _, _, rfl, rfl, ⟨rfl, rfl⟩, ?_⟩
      exact ⟨_, rfl, h⟩
    · (conv => whnf)
      refine ⟨_, rfl, ?_⟩
      (conv => whnf)
      exact h
  refine ⟨mset_same, ?_⟩
  rw [mset_back hB.hs]
  have e1 : (R.filter fun r => decide (b < r.2.1) && decide (r.2.1 < e)).map (fun r => (.int r.2.1 : D)) = (((rws R).map (·.1)).filter fun t => decide (b < t) && decide (t < e)).map .int := by
    rw [rws, List.map_map, List.filter_map, List.map_map]; rfl
  rw [e1]
  (conv => whnf)
  refine .inl ⟨_, rfl, fun ks hp hs => .inl ?_⟩
  (conv => whnf)
  have hlen : ks.length ≤ R.length := by
    rw [hp.length_eq]
    refine Nat.le_trans (List.length_filter_le ..) ?_
    rw [List.length_map, List.length_map]; exact Nat.le_refl _
  refine ⟨by rw [List.length_map]; simp; omega, .inl ?_⟩
  refine ret (k (b :: ks) ⟨by simp, fun r hr h1 h2 => ?_, fun t ht => ?_⟩ ?_ (by simp; omega))
  · refine List.mem_cons_of_mem _ (hp.symm.subset (List.mem_filter.mpr ⟨List.mem_map.mpr ⟨r, hr, rfl⟩, by simp [h1, h2]⟩))
  · rcases List.mem_cons.mp ht with rfl | ht
    · exact ⟨Int.le_refl _, hbe⟩
    · have := (List.mem_filter.mp (hp.subset ht)).2
      rw [Bool.and_eq_true, decide_eq_true_eq, decide_eq_true_eq] at this
      omega
  · refine List.pairwise_cons.mpr ⟨fun t ht => ?_, hs⟩
    have := (List.mem_filter.mp (hp.subset ht)).2
    rw [Bool.and_eq_true, decide_eq_true_eq, decide_eq_true_eq] at this
    omega

end My
namespace My
open PySem PySem.Spec L2 Nu
open PyProof.Rows hiding St
/-! ### amount_fits -/
def a_amount_fits : ASp := fun ss m P _ => ∃ a b : List Int, ss = [amtD a, amtD b] ∧ a.length ≤ 1000 ∧ P (.bl ((List.zip a b).all fun p => decide (p.1 ≤ p.2))) m
theorem len_amount_fits : ∀ ss m P Z, a_amount_fits ss m P Z → ss.length = 2 := by
  rintro _ m P Z ⟨a, b, rfl, _⟩; rfl
abbrev n_amount_fits : List Str := ["one", "other", "a", "b"]
theorem nd_amount_fits : (n_amount_fits).Nodup := by decide +kernel
def u_amount_fits : SS :=
  (.cons (.ret (.bop sAll (.cons (.lc (.tup (.cons (.name 2) (.cons (.name 3) .nil))) isZip (.cons (.var 0) (.cons (.var 1) .nil)) .nil (.bop (sCmp .le) (.cons (.var 2) (.cons (.var 3) .nil)))) .nil)))
  .nil)
theorem body_amount_fits : ∀ (ss : List D) (m : MS) (P : NX) (Z : EZ), a_amount_fits ss m P Z → WB u_amount_fits (startR n_amount_fits ss) m (bodyE P Z) := by
  rintro _ m P Z ⟨a, b, rfl, hl, q⟩
  (conv => whnf)
  refine lcM (a.zip b) (fun p => D.tup [.int p.1, .int p.2]) (fun p => .bl (decide (p.1 ≤ p.2))) zipD_map (by rw [List.length_zip]; omega) ⟨trivial, trivial⟩ (fun x hx => ⟨_, rfl, fun R r => by (conv => whnf); exact r⟩) (.inl ?_)
  (conv => whnf)
  refine ⟨(a.zip b).map fun p => decide (p.1 ≤ p.2), by rw [List.map_map]; rfl, ret ?_⟩
  have e : ((a.zip b).map fun p => decide (p.1 ≤ p.2)).all id = (a.zip b).all fun p => decide (p.1 ≤ p.2) := by rw [List.all_map]; rfl
  rw [e]; exact q

end My
namespace My
open PySem PySem.Spec L2 Nu
open PyProof.Rows hiding St
/-! ### Book_look_room -/
def a_Book_look_room : ASp := fun ss m P Z => ∃ (b0 s : Addr) (room : List Int) (R : List Row) (b e : Int) (l : List Int), ss = [.raw (.ref b0), .int b, .int e, amtD l] ∧ BookM m b0 s room R ∧ RowsOk room.length R ∧ ((1 ≤ room.length ∧ room.length ≤ 1000) ∧ R.length ≤ 1000 ∧ b < e ∧ l.length = room.length) ∧
  match fmT room.length room (rws R) b e l with
  | some t => Z .TooMuch [.int t] m
  | none => P .non m
theorem len_Book_look_room : ∀ ss m P Z, a_Book_look_room ss m P Z → ss.length = 4 := by
  rintro _ m P Z ⟨b0, s, room, R, b, e, l, rfl, _⟩; rfl
abbrev n_Book_look_room : List Str := ["self", "begin", "end", "amount", "time"]
theorem nd_Book_look_room : (n_Book_look_room).Nodup := by decide +kernel
def u_Book_look_room : SS :=
  (.cons (.fo (.name 4) isVal (.cons (.meth .Book a_Book_rises_in (.var 0) (.cons (.var 1) (.cons (.var 2) .nil))) .nil) (.cons (.iff (.bop sNot (.cons (.call a_amount_fits (.cons (.call a_amount_sum (.cons (.meth .Book a_Book_load_at (.var 0) (.cons (.var 4) .nil)) (.cons (.var 3) .nil))) (.cons (.bop (sFld .room) (.cons (.var 0) .nil)) .nil))) .nil)) (.cons (.raise .TooMuch (.cons (.cst (.str "more than the house has")) (.cons (.var 4) .nil)))
  .nil) .nil)
  .nil))
  .nil)
theorem body_Book_look_room : ∀ (ss : List D) (m : MS) (P : NX) (Z : EZ), a_Book_look_room ss m P Z → WB u_Book_look_room (startR n_Book_look_room ss) m (bodyE P Z) := by
  rintro _ m P Z ⟨b0, s, room, R, b, e, l, rfl, hB, hR, ⟨hw, hlen, hbe, hl⟩, k⟩
  (conv => whnf)
  refine ⟨_, _, rfl, hB.hb, ?_⟩
  (conv => whnf)
  refine ⟨b0, s, room, R, b, e, rfl, hB, ⟨hbe, hlen⟩, fun A T hA hAl => ?_⟩
  (conv => whnf)
  refine foN A D.int (fun i ρ' m' => m' = m ∧ (∀ u ∈ A.take i, ¬ ovr room.length room (rws R) l u) ∧ ∃ x4, ρ' = [some (.raw (.ref b0)), some (.int b), some (.int e), some (amtD l), x4]) rfl ⟨rfl, by simp, _, rfl⟩ (fun i ρ' m' h => trivial) ?_ ?_
  · rintro i t ρ' m' ht ⟨rfl, hu, x4, rfl⟩
    (conv => whnf)
    refine ⟨_, _, rfl, hB.hb, ?_⟩
    (conv => whnf)
    refine ⟨b0, s, room, R, t, rfl, hB, hR, hw, ?_⟩
    (conv => whnf)
    refine ⟨_, _, rfl, by rw [loadL_len]; exact hw.2, ?_⟩
    (conv => whnf)
    refine ⟨_, _, hB.hb, ?_⟩
    (conv => whnf)
    refine ⟨_, _, rfl, by rw [List.length_zipWith, loadL_len]; omega, ?_⟩
    (conv => whnf)
    refine ⟨_, rfl, fun hk => ?_, fun hk => ?_⟩
    · (conv => whnf)
      have o := (ovr_fits hl rfl).mp (by simpa using hk)
      have := fmT_eq (FM.of_some (w := room.length) (room := room) (l := l) (fun r hr => by obtain ⟨y, hy, rfl⟩ := List.mem_map.mp hr; exact hR.pos y hy) T hA ht o hu)
      rw [this] at k
      exact ⟨_, _, rfl, rfl, _, MLe.refl _, k⟩
    · refine ⟨rfl, fun u hu' => ?_, _, rfl⟩
      rw [take_succ ht] at hu'
      rcases List.mem_append.mp hu' with h | h
      · exact hu u h
      · rw [List.mem_singleton.mp h]
        intro o
        have := (ovr_fits hl rfl).mpr o
        rw [this] at hk; cases hk
  · rintro ρ' m' ⟨rfl, hu, x4, rfl⟩
    rw [List.take_length] at hu
    have := fmT_eq (FM.of_none (w := room.length) (room := room) (l := l) (fun r hr => by obtain ⟨y, hy, rfl⟩ := List.mem_map.mp hr; exact hR.pos y hy) T hu)
    rw [this] at k
    exact ret k

end My
namespace My
open PySem PySem.Spec L2 Nu
open PyProof.Rows hiding St
/-! ### Book_put_entry -/
def a_Book_put_entry : ASp := fun ss m P Z => ∃ (b0 s : Addr) (room : List Int) (R : List Row) (k : Str) (b e : Int) (l : List Int), ss = [.raw (.ref b0), .str k, .int b, .int e, amtD l] ∧ BookM m b0 s room R ∧ RowsOk room.length R ∧ ((1 ≤ room.length ∧ room.length ≤ 1000) ∧ R.length ≤ 1000) ∧ fitD room.length (.put k b e l) ∧
  CalP (stepR room.length room R (.put k b e l)).1 P Z (mset m s (.dct (rowsK (stepR room.length room R (.put k b e l)).2)))
theorem len_Book_put_entry : ∀ ss m P Z, a_Book_put_entry ss m P Z → ss.length = 5 := by
  rintro _ m P Z ⟨b0, s, room, R, k, b, e, l, rfl, _⟩; rfl
abbrev n_Book_put_entry : List Str := ["self", "key", "begin", "end", "amount"]
theorem nd_Book_put_entry : (n_Book_put_entry).Nodup := by decide +kernel
def u_Book_put_entry : SS :=
  (.cons (.iff (.bop sIn (.cons (.var 1) (.cons (.bop (sFld .written) (.cons (.var 0) .nil)) .nil))) (.cons (.raise .Taken (.cons (.cst (.str "an entry of that key is there")) .nil))
  .nil) .nil)
  (.cons (.expr (.meth .Book a_Book_look_room (.var 0) (.cons (.var 2) (.cons (.var 3) (.cons (.var 4) .nil)))))
  (.cons (.iset (.bop (sFld .written) (.cons (.var 0) .nil)) (.var 1) (.bop sTup (.cons (.var 2) (.cons (.var 3) (.cons (.bop sToTup (.cons (.var 4) .nil)) .nil)))))
  .nil)))
theorem body_Book_put_entry : ∀ (ss : List D) (m : MS) (P : NX) (Z : EZ), a_Book_put_entry ss m P Z → WB u_Book_put_entry (startR n_Book_put_entry ss) m (bodyE P Z) := by
  rintro _ m P Z ⟨b0, s, room, R, k, b, e, l, rfl, hB, hR, ⟨hw, hlen⟩, ⟨hbe, hl, hp, hk0⟩, h⟩
  (conv => whnf)
  refine ⟨_, _, hB.hb, ?_⟩
  (conv => whnf)
  refine ⟨_, hB.hs, ?_⟩
  (conv => whnf)
  rw [val_some]
  simp only [stepR] at h
  by_cases hk : k ∈ keysR R
  · rw [if_pos hk] at h
    refine ⟨_, rfl, fun _ => ?_, fun c => ?_⟩
    · (conv => whnf)
      refine ⟨_, _, rfl, rfl, _, MLe.refl _, ?_⟩
      have h' : Z .Taken [] (mset m s (.dct (rowsK R))) := h
      rw [hB.self] at h'
      exact h'
    · simp [hk] at c
  · rw [if_neg hk] at h
    refine ⟨_, rfl, fun c => ?_, fun _ => ?_⟩
    · simp [hk] at c
    (conv => whnf)
    refine ⟨_, _, rfl, hB.hb, ?_⟩
    (conv => whnf)
    refine ⟨b0, s, room, R, b, e, l, rfl, hB, hR, ⟨hw, hlen, hbe, hl⟩, ?_⟩
    cases hf : fmT room.length room (rws R) b e l with
    | some t =>
      rw [hf] at h
      have h' : Z .TooMuch [.int t] (mset m s (.dct (rowsK R))) := h
      rw [hB.self] at h'
      exact ⟨_, MLe.refl _, h'⟩
    | none =>
      rw [hf] at h
      have h' : P .non (mset m s (.dct (rowsK (putR R k (b, e, l))))) := h
      (conv => whnf)
      refine ⟨_, _, hB.hb, ?_⟩
      (conv => whnf)
      refine ⟨_, hB.hs, by rw [rowsK_len]; omega, ?_⟩
      rw [← put_rows] at h'
      exact ret h'

end My
namespace My
open PySem PySem.Spec L2 Nu
open PyProof.Rows hiding St
/-! ### Book_row_of -/
def a_Book_row_of : ASp := fun ss m P Z => ∃ (b s : Addr) (room : List Int) (R : List Row) (k : Str), ss = [.raw (.ref b), .str k] ∧ BookM m b s room R ∧ match rowOf R k with
  | some r => P (rwD r) m
  | none => Z .NoKey [] m
theorem len_Book_row_of : ∀ ss m P Z, a_Book_row_of ss m P Z → ss.length = 2 := by
  rintro _ m P Z ⟨b, s, room, R, k, rfl, _⟩; rfl
abbrev n_Book_row_of : List Str := ["self", "key"]
theorem nd_Book_row_of : (n_Book_row_of).Nodup := by decide +kernel
def u_Book_row_of : SS :=
  (.cons (.iff (.bop sNotIn (.cons (.var 1) (.cons (.bop (sFld .written) (.cons (.var 0) .nil)) .nil))) (.cons (.raise .NoKey (.cons (.cst (.str "no entry of that key")) .nil))
  .nil) .nil)
  (.cons (.ret (.bop sIx (.cons (.bop (sFld .written) (.cons (.var 0) .nil)) (.cons (.var 1) .nil))))
  .nil))
theorem body_Book_row_of : ∀ (ss : List D) (m : MS) (P : NX) (Z : EZ), a_Book_row_of ss m P Z → WB u_Book_row_of (startR n_Book_row_of ss) m (bodyE P Z) := by
  rintro _ m P Z ⟨b, s, room, R, k, rfl, hB, h⟩
  (conv => whnf)
  refine ⟨_, _, hB.hb, ?_⟩
  (conv => whnf)
  refine ⟨_, hB.hs, ?_⟩
  (conv => whnf)
  rw [val_some]
  cases e : rowOf R k with
  | none =>
    rw [e] at h
    refine ⟨_, rfl, fun _ => ?_, fun hk => ?_⟩
    · (conv => whnf)
      exact ⟨_, _, rfl, rfl, _, MLe.refl _, h⟩
    · have := rowOf_none.mp e
      simp [this] at hk
  | some r =>
    rw [e] at h
    refine ⟨_, rfl, fun hk => ?_, fun _ => ?_⟩
    · have : k ∈ keysR R := List.mem_map.mpr ⟨_, rowOf_some e, rfl⟩
      simp [this] at hk
    · (conv => whnf)
      refine ⟨_, _, hB.hb, ?_⟩
      (conv => whnf)
      refine ⟨_, hB.hs, rwD r, by rw [val_rows, e]; rfl, ?_⟩
      (conv => whnf)
      exact ret h

end My
namespace My
open PySem PySem.Spec L2 Nu
open PyProof.Rows hiding St
/-! ### Book_cut_entry -/
def a_Book_cut_entry : ASp := fun ss m P Z => ∃ (b0 s : Addr) (room : List Int) (R : List Row) (k : Str) (t : Int), ss = [.raw (.ref b0), .str k, .int t] ∧ BookM m b0 s room R ∧ R.length ≤ 1000 ∧
  CalP (stepR room.length room R (.cut k t)).1 P Z (mset m s (.dct (rowsK (stepR room.length room R (.cut k t)).2)))
theorem len_Book_cut_entry : ∀ ss m P Z, a_Book_cut_entry ss m P Z → ss.length = 3 := by
  rintro _ m P Z ⟨b0, s, room, R, k, t, rfl, _⟩; rfl
abbrev n_Book_cut_entry : List Str := ["self", "key", "time", "begin", "end", "amount"]
theorem nd_Book_cut_entry : (n_Book_cut_entry).Nodup := by decide +kernel
def u_Book_cut_entry : SS :=
  (.cons (.unp (.cons (.name 3) (.cons (.name 4) (.cons (.name 5) .nil))) (.meth .Book a_Book_row_of (.var 0) (.cons (.var 1) .nil)))
  (.cons (.iff (.bop (sCmp .ge) (.cons (.var 3) (.cons (.var 2) .nil))) (.cons (.expr (.mth (kLD sPopL sPopD) (.bop (sFld .written) (.cons (.var 0) .nil)) (.cons (.var 1) .nil)))
  .nil) (.cons (.iset (.bop (sFld .written) (.cons (.var 0) .nil)) (.var 1) (.bop sTup (.cons (.var 3) (.cons (.bop sMin2 (.cons (.var 4) (.cons (.var 2) .nil))) (.cons (.var 5) .nil)))))
  .nil))
  .nil))
theorem body_Book_cut_entry : ∀ (ss : List D) (m : MS) (P : NX) (Z : EZ), a_Book_cut_entry ss m P Z → WB u_Book_cut_entry (startR n_Book_cut_entry ss) m (bodyE P Z) := by
  rintro _ m P Z ⟨b0, s, room, R, k, t, rfl, hB, hlen, h⟩
  (conv => whnf)
  refine ⟨_, _, rfl, hB.hb, ?_⟩
  (conv => whnf)
  refine ⟨b0, s, room, R, k, rfl, hB, ?_⟩
  simp only [stepR] at h
  cases e : rowOf R k with
  | none =>
    rw [e] at h
    have h' : Z .NoKey [] (mset m s (.dct (rowsK R))) := h
    rw [hB.self] at h'
    exact ⟨_, MLe.refl _, h'⟩
  | some r =>
    obtain ⟨b, en, l⟩ := r
    rw [e] at h
    (conv => whnf)
    refine ⟨_, rfl, fun hk => ?_, fun hk => ?_⟩
    · have hk' : t ≤ b := of_decide_eq_true hk
      have h' : CalP (if t ≤ b then (Out.told, delR R k) else (Out.told, putR R k (b, if t < en then t else en, l))).1 P Z (mset m s (.dct (rowsK (if t ≤ b then (Out.told, delR R k) else (Out.told, putR R k (b, if t < en then t else en, l))).2))) := h
      rw [if_pos hk'] at h'
      have h2 : P .non (mset m s (.dct (rowsK (delR R k)))) := h'
      (conv => whnf)
      refine ⟨_, _, hB.hb, ?_⟩
      (conv => whnf)
      refine ⟨_, hB.hs, ?_⟩
      (conv => whnf)
      refine ⟨_, hB.hs, rwD (b, en, l), by rw [val_rows, e]; rfl, ?_⟩
      rw [del_rows]
      exact ret h2
    · have hk' : ¬ t ≤ b := of_decide_eq_false hk
      have h' : CalP (if t ≤ b then (Out.told, delR R k) else (Out.told, putR R k (b, if t < en then t else en, l))).1 P Z (mset m s (.dct (rowsK (if t ≤ b then (Out.told, delR R k) else (Out.told, putR R k (b, if t < en then t else en, l))).2))) := h
      rw [if_neg hk'] at h'
      have h2 : P .non (mset m s (.dct (rowsK (putR R k (b, if t < en then t else en, l))))) := h'
      rw [← put_rows] at h2
      (conv => whnf)
      refine ⟨_, _, hB.hb, ?_⟩
      (conv => whnf)
      refine ⟨_, hB.hs, by rw [rowsK_len]; omega, ?_⟩
      exact ret h2

end My
namespace My
open PySem PySem.Spec L2 Nu
open PyProof.Rows hiding St
/-! ### Book_stretch_entry -/
def a_Book_stretch_entry : ASp := fun ss m P Z => ∃ (b0 s : Addr) (room : List Int) (R : List Row) (k : Str) (t : Int), ss = [.raw (.ref b0), .str k, .int t] ∧ BookM m b0 s room R ∧ RowsOk room.length R ∧ ((1 ≤ room.length ∧ room.length ≤ 1000) ∧ R.length ≤ 1000) ∧
  CalP (stepR room.length room R (.stretch k t)).1 P Z (mset m s (.dct (rowsK (stepR room.length room R (.stretch k t)).2)))
theorem len_Book_stretch_entry : ∀ ss m P Z, a_Book_stretch_entry ss m P Z → ss.length = 3 := by
  rintro _ m P Z ⟨b0, s, room, R, k, t, rfl, _⟩; rfl
abbrev n_Book_stretch_entry : List Str := ["self", "key", "end", "begin", "old", "amount"]
theorem nd_Book_stretch_entry : (n_Book_stretch_entry).Nodup := by decide +kernel
def u_Book_stretch_entry : SS :=
  (.cons (.unp (.cons (.name 3) (.cons (.name 4) (.cons (.name 5) .nil))) (.meth .Book a_Book_row_of (.var 0) (.cons (.var 1) .nil)))
  (.cons (.iff (.bop (sCmp .lt) (.cons (.var 4) (.cons (.var 2) .nil))) (.cons (.expr (.meth .Book a_Book_look_room (.var 0) (.cons (.var 4) (.cons (.var 2) (.cons (.var 5) .nil)))))
  (.cons (.iset (.bop (sFld .written) (.cons (.var 0) .nil)) (.var 1) (.bop sTup (.cons (.var 3) (.cons (.var 2) (.cons (.var 5) .nil)))))
  .nil)) .nil)
  .nil))
theorem body_Book_stretch_entry : ∀ (ss : List D) (m : MS) (P : NX) (Z : EZ), a_Book_stretch_entry ss m P Z → WB u_Book_stretch_entry (startR n_Book_stretch_entry ss) m (bodyE P Z) := by
  rintro _ m P Z ⟨b0, s, room, R, k, t, rfl, hB, hR, ⟨hw, hlen⟩, h⟩
  (conv => whnf)
  refine ⟨_, _, rfl, hB.hb, ?_⟩
  (conv => whnf)
  refine ⟨b0, s, room, R, k, rfl, hB, ?_⟩
  simp only [stepR] at h
  cases e : rowOf R k with
  | none =>
    rw [e] at h
    have h' : Z .NoKey [] (mset m s (.dct (rowsK R))) := h
    rw [hB.self] at h'
    exact ⟨_, MLe.refl _, h'⟩
  | some r =>
    obtain ⟨b, en, l⟩ := r
    rw [e] at h
    have h' : CalP (strR room.length room R k b en l t).1 P Z (mset m s (.dct (rowsK (strR room.length room R k b en l t).2))) := h
    unfold strR at h'
    (conv => whnf)
    refine ⟨_, rfl, fun hk => ?_, fun hk => ?_⟩
    · have hk' : en < t := of_decide_eq_true hk
      rw [if_pos hk'] at h'
      (conv => whnf)
      refine ⟨_, _, rfl, hB.hb, ?_⟩
      (conv => whnf)
      refine ⟨b0, s, room, R, en, t, l, rfl, hB, hR, ⟨hw, hlen, hk', hR.len _ (rowOf_some e)⟩, ?_⟩
      cases hf : fmT room.length room (rws R) en t l with
      | some u =>
        rw [hf] at h'
        have h2 : Z .TooMuch [.int u] (mset m s (.dct (rowsK R))) := h'
        rw [hB.self] at h2
        exact ⟨_, MLe.refl _, h2⟩
      | none =>
        rw [hf] at h'
        have h2 : P .non (mset m s (.dct (rowsK (putR R k (b, t, l))))) := h'
        rw [← put_rows] at h2
        (conv => whnf)
        refine ⟨_, _, hB.hb, ?_⟩
        (conv => whnf)
        refine ⟨_, hB.hs, by rw [rowsK_len]; omega, ?_⟩
        exact ret h2
    · have hk' : ¬ en < t := of_decide_eq_false hk
      rw [if_neg hk'] at h'
      have h2 : P .non (mset m s (.dct (rowsK R))) := h'
      rw [hB.self] at h2
      exact ret h2

end My
namespace My
open PySem PySem.Spec L2 Nu
open PyProof.Rows hiding St
/-! ### Book_drop_entry -/
def a_Book_drop_entry : ASp := fun ss m P Z => ∃ (b0 s : Addr) (room : List Int) (R : List Row) (k : Str), ss = [.raw (.ref b0), .str k] ∧ BookM m b0 s room R ∧
  CalP (stepR room.length room R (.drop k)).1 P Z (mset m s (.dct (rowsK (stepR room.length room R (.drop k)).2)))
theorem len_Book_drop_entry : ∀ ss m P Z, a_Book_drop_entry ss m P Z → ss.length = 2 := by
  rintro _ m P Z ⟨b0, s, room, R, k, rfl, _⟩; rfl
abbrev n_Book_drop_entry : List Str := ["self", "key"]
theorem nd_Book_drop_entry : (n_Book_drop_entry).Nodup := by decide +kernel
def u_Book_drop_entry : SS :=
  (.cons (.expr (.meth .Book a_Book_row_of (.var 0) (.cons (.var 1) .nil)))
  (.cons (.expr (.mth (kLD sPopL sPopD) (.bop (sFld .written) (.cons (.var 0) .nil)) (.cons (.var 1) .nil)))
  .nil))
theorem body_Book_drop_entry : ∀ (ss : List D) (m : MS) (P : NX) (Z : EZ), a_Book_drop_entry ss m P Z → WB u_Book_drop_entry (startR n_Book_drop_entry ss) m (bodyE P Z) := by
  rintro _ m P Z ⟨b0, s, room, R, k, rfl, hB, h⟩
  (conv => whnf)
  refine ⟨_, _, rfl, hB.hb, ?_⟩
  (conv => whnf)
  refine ⟨b0, s, room, R, k, rfl, hB, ?_⟩
  simp only [stepR] at h
  cases e : rowOf R k with
  | none =>
    rw [e] at h
    have h' : Z .NoKey [] (mset m s (.dct (rowsK R))) := h
    rw [hB.self] at h'
    exact ⟨_, MLe.refl _, h'⟩
  | some r =>
    rw [e] at h
    have h2 : P .non (mset m s (.dct (rowsK (delR R k)))) := h
    (conv => whnf)
    refine ⟨_, _, hB.hb, ?_⟩
    (conv => whnf)
    refine ⟨_, hB.hs, ?_⟩
    (conv => whnf)
    refine ⟨_, hB.hs, rwD r, by rw [val_rows, e]; rfl, ?_⟩
    rw [del_rows]
    exact ret h2

end My
namespace My
open PySem PySem.Spec L2 Nu
open PyProof.Rows hiding St
/-! ### Book_drop_past -/
def a_Book_drop_past : ASp := fun ss m P Z => ∃ (b0 s : Addr) (room : List Int) (R : List Row) (t : Int), ss = [.raw (.ref b0), .int t] ∧ BookM m b0 s room R ∧ (keysR R).Nodup ∧ R.length ≤ 1000 ∧
  NewL ((goneT R t).map .str) (mset m s (.dct (rowsK ((goneT R t).foldl delR R)))) P
theorem len_Book_drop_past : ∀ ss m P Z, a_Book_drop_past ss m P Z → ss.length = 2 := by
  rintro _ m P Z ⟨b0, s, room, R, t, rfl, _⟩; rfl
abbrev n_Book_drop_past : List Str := ["self", "time", "gone", "key", "row"]
theorem nd_Book_drop_past : (n_Book_drop_past).Nodup := by decide +kernel
def u_Book_drop_past : SS :=
  (.cons (.set 2 (.bop sSorted (.cons (.lock (.lc (.tup (.cons (.name 3) (.cons (.name 4) .nil))) (isDct .items) (.cons (.bop (sFld .written) (.cons (.var 0) .nil)) .nil) (.cons (.bop (sCmp .le) (.cons (.bop sIx (.cons (.var 4) (.cons (.cst (.int 1)) .nil))) (.cons (.var 1) .nil))) .nil) (.var 3))) .nil)))
  (.cons (.fo (.name 3) isVal (.cons (.var 2) .nil) (.cons (.expr (.mth (kLD sPopL sPopD) (.bop (sFld .written) (.cons (.var 0) .nil)) (.cons (.var 3) .nil)))
  .nil))
  (.cons (.ret (.var 2))
  .nil)))
theorem body_Book_drop_past : ∀ (ss : List D) (m : MS) (P : NX) (Z : EZ), a_Book_drop_past ss m P Z → WB u_Book_drop_past (startR n_Book_drop_past ss) m (bodyE P Z) := by
  rintro _ m P Z ⟨b0, s, room, R, t, rfl, hB, nd, hlen, h⟩
  (conv => whnf)
  refine .inl ⟨s, _, hB.hs, fun o vs => ?_⟩
  (conv => whnf)
  refine ⟨_, _, hB.lk, ?_⟩
  (conv => whnf)
  refine ⟨o, vs, _, mset_same, ?_⟩
  (conv => whnf)
  refine lcP R (fun r => D.tup [.str r.1, rwD r.2]) (fun r => decide (r.2.2.1 ≤ t)) (fun r => .str r.1) (kds_items R) (by omega) mset_same (fun r hr => ⟨_, rfl, fun Q h => ?_, fun hp Q h => ?_⟩) (.inl ?_)
  · (conv => whnf)
    refine ⟨_, rfl, ?_⟩
    (conv => whnf)
    exact ⟨_, rfl, h⟩
  · (conv => whnf)
    exact h
  refine ⟨mset_same, ?_⟩
  rw [mset_back hB.hs]
  have e1 : (R.filter fun r => decide (r.2.2.1 ≤ t)).map (fun r => (.str r.1 : D)) = ((R.filter fun r => decide (r.2.2.1 ≤ t)).map (·.1)).map .str := by
    rw [List.map_map]; rfl
  rw [e1]
  (conv => whnf)
  refine .inr (.inr ⟨_, rfl, fun g hp hs => ?_⟩)
  have eg : goneT R t = g := srtT_eq hp hs
  rw [eg] at h
  rcases h with h | h
  · refine .inl ?_
    (conv => whnf)
    refine foN g D.str (fun i ρ' m' => m' = mset m s (.dct (rowsK ((g.take i).foldl delR R))) ∧ ∃ x3 x4, ρ' = [some (.raw (.ref b0)), some (.int t), some (.lst (g.map .str)), x3, x4]) rfl ⟨by rw [List.take_zero]; exact hB.self.symm, _, _, rfl⟩ (fun i ρ' m' h => trivial) ?_ ?_
    · rintro i k ρ' m' hk ⟨rfl, x3, x4, rfl⟩
      obtain ⟨r, e2, e3⟩ := gone_next nd hp hk
      (conv => whnf)
      refine ⟨_, _, hB.lk, ?_⟩
      (conv => whnf)
      refine ⟨_, mset_same, ?_⟩
      (conv => whnf)
      refine ⟨_, mset_same, rwD r, by rw [val_rows, e2]; rfl, ?_⟩
      rw [del_rows, mset_mset, ← e3]
      exact ⟨rfl, _, _, rfl⟩
    · rintro ρ' m' ⟨rfl, x3, x4, rfl⟩
      rw [List.take_length]
      (conv => whnf)
      exact ret h
  · refine .inr fun p hp0 => ?_
    have hsp : s ≠ p := by rintro rfl; rw [hB.hs] at hp0; cases hp0
    have hbp : b0 ≠ p := by rintro rfl; rw [hB.hb] at hp0; cases hp0
    have hbs : b0 ≠ s := ne_cell hB.hb hB.hs (by simp)
    have hq : ∀ X c, (mset (mset m p (.lst X)) s c) p = some (.lst X) := fun X c => by rw [mset_ne hsp.symm, mset_same]
    (conv => whnf)
    refine ⟨_, mset_same, ?_⟩
    refine foN g D.str (fun i ρ' m' => m' = mset (mset m p (.lst (g.map .str))) s (.dct (rowsK ((g.take i).foldl delR R))) ∧ ∃ x3 x4, ρ' = [some (.raw (.ref b0)), some (.int t), some (.raw (.ref p)), x3, x4]) rfl ⟨?_, _, _, rfl⟩ (fun i ρ' m' h => ?_) ?_ ?_
    · rw [List.take_zero]
      refine (mset_self ?_).symm
      rw [mset_ne hsp]; exact hB.hs
    · rw [h.1]; exact hq _ _
    · rintro i k ρ' m' hk ⟨rfl, x3, x4, rfl⟩
      obtain ⟨r, e2, e3⟩ := gone_next nd hp hk
      (conv => whnf)
      refine ⟨.Book, _, by rw [mset_ne hbs, mset_ne hbp]; exact hB.hb, ?_⟩
      (conv => whnf)
      refine ⟨_, mset_same, ?_⟩
      (conv => whnf)
      refine ⟨_, mset_same, rwD r, by rw [val_rows, e2]; rfl, ?_⟩
      rw [del_rows, mset_mset, ← e3]
      exact ⟨rfl, _, _, rfl⟩
    · rintro ρ' m' ⟨rfl, x3, x4, rfl⟩
      rw [List.take_length]
      (conv => whnf)
      have h2 := h p (by rw [mset_ne hsp.symm]; exact hp0)
      rw [mset_comm hsp] at h2
      exact ret h2

end My
namespace My
open PySem PySem.Spec L2 Nu
open PyProof.Rows hiding St
/-! ### _law_called -/
def a__law_called : ASp := fun ss m P Z => ∃ (b s : Addr) (room : List Int) (R : List Row) (d : Deed), ss = [.raw (.ref b), deedD d] ∧ BookM m b s room R ∧ RowsOk room.length R ∧ ((1 ≤ room.length ∧ room.length ≤ 1000) ∧ R.length ≤ 1000) ∧ fitD room.length d ∧
  CalP (stepR room.length room R d).1 P Z (mset m s (.dct (rowsK (stepR room.length room R d).2)))
theorem len__law_called : ∀ ss m P Z, a__law_called ss m P Z → ss.length = 2 := by
  rintro _ m P Z ⟨b, s, room, R, d, rfl, _⟩; rfl
abbrev n__law_called : List Str := ["_law_book", "_law_deed_here"]
theorem nd__law_called : (n__law_called).Nodup := by decide +kernel
def u__law_called : SS :=
  (.cut (.iff (.bop sEq (.cons (.bop sIx (.cons (.var 1) (.cons (.cst (.int 0)) .nil))) (.cons (.cst (.str "put")) .nil))) (.cons (.expr (.meth .Book a_Book_put_entry (.var 0) (.cons (.bop sIx (.cons (.var 1) (.cons (.cst (.int 1)) .nil))) (.cons (.bop sIx (.cons (.var 1) (.cons (.cst (.int 2)) .nil))) (.cons (.bop sIx (.cons (.var 1) (.cons (.cst (.int 3)) .nil))) (.cons (.bop sIx (.cons (.var 1) (.cons (.cst (.int 4)) .nil))) .nil))))))
  .nil) (.cons (.iff (.bop sEq (.cons (.bop sIx (.cons (.var 1) (.cons (.cst (.int 0)) .nil))) (.cons (.cst (.str "cut")) .nil))) (.cons (.expr (.meth .Book a_Book_cut_entry (.var 0) (.cons (.bop sIx (.cons (.var 1) (.cons (.cst (.int 1)) .nil))) (.cons (.bop sIx (.cons (.var 1) (.cons (.cst (.int 2)) .nil))) .nil))))
  .nil) (.cons (.iff (.bop sEq (.cons (.bop sIx (.cons (.var 1) (.cons (.cst (.int 0)) .nil))) (.cons (.cst (.str "stretch")) .nil))) (.cons (.expr (.meth .Book a_Book_stretch_entry (.var 0) (.cons (.bop sIx (.cons (.var 1) (.cons (.cst (.int 1)) .nil))) (.cons (.bop sIx (.cons (.var 1) (.cons (.cst (.int 2)) .nil))) .nil))))
  .nil) (.cons (.iff (.bop sEq (.cons (.bop sIx (.cons (.var 1) (.cons (.cst (.int 0)) .nil))) (.cons (.cst (.str "drop")) .nil))) (.cons (.expr (.meth .Book a_Book_drop_entry (.var 0) (.cons (.bop sIx (.cons (.var 1) (.cons (.cst (.int 1)) .nil))) .nil)))
  .nil) (.cons (.ret (.meth .Book a_Book_drop_past (.var 0) (.cons (.bop sIx (.cons (.var 1) (.cons (.cst (.int 1)) .nil))) .nil)))
  .nil))
  .nil))
  .nil))
  .nil))
  (.cons (.ret (.cst .non))
  .nil))
theorem body__law_called : ∀ (ss : List D) (m : MS) (P : NX) (Z : EZ), a__law_called ss m P Z → WB u__law_called (startR n__law_called ss) m (bodyE P Z) := by
  rintro _ m P Z ⟨b, s, room, R, d, rfl, hB, hR, ⟨hw, hlen⟩, hfit, h⟩
  have out : ∀ o : Out, (∀ g, o ≠ .gone g) → ∀ m', CalP o P Z m' → CalP o (fun v m' => v = .non ∧ P .non m') Z m' := fun o ho m' h => by
    cases o with
    | told => exact ⟨rfl, h⟩
    | gone g => exact absurd rfl (ho g)
    | taken => exact h
    | nokey => exact h
    | more t => exact h
  cases d with
  | put k b1 e l =>
    (conv => whnf)
    refine ⟨fun ρ' m' => Ret P .non m', ?_, fun ρ' m' hJ => ⟨ρ', m', VwS.refl, ?_⟩⟩
    · (conv => whnf)
      refine ⟨_, rfl, ?_⟩
      (conv => whnf)
      refine ⟨_, rfl, fun _ => ?_, fun c => (by cases c)⟩
      (conv => whnf)
      refine ⟨_, _, rfl, hB.hb, ?_⟩
      (conv => whnf)
      refine ⟨_, rfl, ?_⟩
      (conv => whnf)
      refine ⟨_, rfl, ?_⟩
      (conv => whnf)
      refine ⟨_, rfl, ?_⟩
      (conv => whnf)
      refine ⟨_, rfl, ?_⟩
      (conv => whnf)
      refine ⟨b, s, room, R, k, b1, e, l, rfl, hB, hR, ⟨hw, by omega⟩, hfit, ?_⟩
      simp only [stepR] at h ⊢
      split
      · next c => rw [if_pos c] at h; exact ⟨_, MLe.refl _, h⟩
      · next c =>
        rw [if_neg c] at h
        cases hf : fmT room.length room (rws R) b1 e l with
        | some t => rw [hf] at h; exact ⟨_, MLe.refl _, h⟩
        | none => rw [hf] at h; exact ret h
    · (conv => whnf)
      exact hJ
  | cut k t =>
    (conv => whnf)
    refine ⟨fun ρ' m' => Ret P .non m', ?_, fun ρ' m' hJ => ⟨ρ', m', VwS.refl, ?_⟩⟩
    · (conv => whnf)
      refine ⟨_, rfl, ?_⟩
      (conv => whnf)
      refine ⟨_, rfl, fun c => (by cases c), fun _ => ?_⟩
      (conv => whnf)
      refine ⟨_, rfl, ?_⟩
      (conv => whnf)
      refine ⟨_, rfl, fun _ => ?_, fun c => (by cases c)⟩
      (conv => whnf)
      refine ⟨_, _, rfl, hB.hb, ?_⟩
      (conv => whnf)
      refine ⟨_, rfl, ?_⟩
      (conv => whnf)
      refine ⟨_, rfl, ?_⟩
      (conv => whnf)
      refine ⟨b, s, room, R, k, t, rfl, hB, by omega, ?_⟩
      simp only [stepR] at h ⊢
      cases e : rowOf R k with
      | none => rw [e] at h; exact ⟨_, MLe.refl _, h⟩
      | some r =>
        obtain ⟨b1, e1, l⟩ := r
        rw [e] at h
        have h' : CalP (if t ≤ b1 then (Out.told, delR R k) else (Out.told, putR R k (b1, if t < e1 then t else e1, l))).1 P Z (mset m s (.dct (rowsK (if t ≤ b1 then (Out.told, delR R k) else (Out.told, putR R k (b1, if t < e1 then t else e1, l))).2))) := h
        show CalP (if t ≤ b1 then (Out.told, delR R k) else (Out.told, putR R k (b1, if t < e1 then t else e1, l))).1 _ _ (mset m s (.dct (rowsK (if t ≤ b1 then (Out.told, delR R k) else (Out.told, putR R k (b1, if t < e1 then t else e1, l))).2)))
        by_cases c : t ≤ b1
        · rw [if_pos c] at h' ⊢; exact ret h'
        · rw [if_neg c] at h' ⊢; exact ret h'
    · (conv => whnf)
      exact hJ
  | stretch k t =>
    (conv => whnf)
    refine ⟨fun ρ' m' => Ret P .non m', ?_, fun ρ' m' hJ => ⟨ρ', m', VwS.refl, ?_⟩⟩
    · (conv => whnf)
      refine ⟨_, rfl, ?_⟩
      (conv => whnf)
      refine ⟨_, rfl, fun c => (by cases c), fun _ => ?_⟩
      (conv => whnf)
      refine ⟨_, rfl, ?_⟩
      (conv => whnf)
      refine ⟨_, rfl, fun c => (by cases c), fun _ => ?_⟩
      (conv => whnf)
      refine ⟨_, rfl, ?_⟩
      (conv => whnf)
      refine ⟨_, rfl, fun _ => ?_, fun c => (by cases c)⟩
      (conv => whnf)
      refine ⟨_, _, rfl, hB.hb, ?_⟩
      (conv => whnf)
      refine ⟨_, rfl, ?_⟩
      (conv => whnf)
      refine ⟨_, rfl, ?_⟩
      (conv => whnf)
      refine ⟨b, s, room, R, k, t, rfl, hB, hR, ⟨hw, by omega⟩, ?_⟩
      simp only [stepR] at h ⊢
      cases e : rowOf R k with
      | none => rw [e] at h; exact ⟨_, MLe.refl _, h⟩
      | some r =>
        obtain ⟨b1, e1, l⟩ := r
        rw [e] at h
        have h' : CalP (strR room.length room R k b1 e1 l t).1 P Z (mset m s (.dct (rowsK (strR room.length room R k b1 e1 l t).2))) := h
        show CalP (strR room.length room R k b1 e1 l t).1 _ _ (mset m s (.dct (rowsK (strR room.length room R k b1 e1 l t).2)))
        unfold strR at h' ⊢
        by_cases c : e1 < t
        · rw [if_pos c] at h' ⊢
          cases hf : fmT room.length room (rws R) e1 t l with
          | some u => rw [hf] at h'; exact ⟨_, MLe.refl _, h'⟩
          | none => rw [hf] at h'; exact ret h'
        · rw [if_neg c] at h' ⊢; exact ret h'
    · (conv => whnf)
      exact hJ
  | drop k =>
    (conv => whnf)
    refine ⟨fun ρ' m' => Ret P .non m', ?_, fun ρ' m' hJ => ⟨ρ', m', VwS.refl, ?_⟩⟩
    · (conv => whnf)
      refine ⟨_, rfl, ?_⟩
      (conv => whnf)
      refine ⟨_, rfl, fun c => (by cases c), fun _ => ?_⟩
      (conv => whnf)
      refine ⟨_, rfl, ?_⟩
      (conv => whnf)
      refine ⟨_, rfl, fun c => (by cases c), fun _ => ?_⟩
      (conv => whnf)
      refine ⟨_, rfl, ?_⟩
      (conv => whnf)
      refine ⟨_, rfl, fun c => (by cases c), fun _ => ?_⟩
      (conv => whnf)
      refine ⟨_, rfl, ?_⟩
      (conv => whnf)
      refine ⟨_, rfl, fun _ => ?_, fun c => (by cases c)⟩
      (conv => whnf)
      refine ⟨_, _, rfl, hB.hb, ?_⟩
      (conv => whnf)
      refine ⟨_, rfl, ?_⟩
      (conv => whnf)
      refine ⟨b, s, room, R, k, rfl, hB, ?_⟩
      simp only [stepR] at h ⊢
      cases e : rowOf R k with
      | none => rw [e] at h; exact ⟨_, MLe.refl _, h⟩
      | some r => rw [e] at h; exact ret h
    · (conv => whnf)
      exact hJ
  | past t =>
    (conv => whnf)
    refine ⟨fun ρ' m' => Ret P .non m', ?_, fun ρ' m' hJ => ⟨ρ', m', VwS.refl, ?_⟩⟩
    · (conv => whnf)
      refine ⟨_, rfl, ?_⟩
      (conv => whnf)
      refine ⟨_, rfl, fun c => (by cases c), fun _ => ?_⟩
      (conv => whnf)
      refine ⟨_, rfl, ?_⟩
      (conv => whnf)
      refine ⟨_, rfl, fun c => (by cases c), fun _ => ?_⟩
      (conv => whnf)
      refine ⟨_, rfl, ?_⟩
      (conv => whnf)
      refine ⟨_, rfl, fun c => (by cases c), fun _ => ?_⟩
      (conv => whnf)
      refine ⟨_, rfl, ?_⟩
      (conv => whnf)
      refine ⟨_, rfl, fun c => (by cases c), fun _ => ?_⟩
      (conv => whnf)
      refine ⟨_, _, rfl, hB.hb, ?_⟩
      (conv => whnf)
      refine ⟨_, rfl, ?_⟩
      (conv => whnf)
      exact ⟨b, s, room, R, t, rfl, hB, hR.nd, hlen, .inl (ret h)⟩
    · (conv => whnf)
      exact hJ

end My
namespace My
open PySem PySem.Spec L2 Nu
open PyProof.Rows hiding St
/-! ### _law_word_5e12 -/
def a__law_word_5e12 : ASp := fun ss m P _ => ∃ (c : Exn) (es : List D), ss = [.exn c es] ∧ c ≠ .HallError ∧ P (.str c.name) m
theorem len__law_word_5e12 : ∀ ss m P Z, a__law_word_5e12 ss m P Z → ss.length = 1 := by
  rintro _ m P Z ⟨c, es, rfl, _⟩; rfl
theorem zip12 {ws : List Str} {bs : List Bool} : zipD (ws.map D.str) (bs.map D.bl) = (ws.zip bs).map fun p => D.tup [.str p.1, .bl p.2] := by
  unfold zipD
  rw [List.zip_map, List.map_map]; rfl
def wordsL : List Str := ["Taken", "NoKey", "TooMuch", "NoHouse", "NoGang", "NoGuild", "NoKind", "InUse", "TooMany", "NoPlan", "Past", "BadRow"]
def underL (c : Exn) : List Bool := [c.under .Taken, c.under .NoKey, c.under .TooMuch, c.under .NoHouse, c.under .NoGang, c.under .NoGuild, c.under .NoKind, c.under .InUse, c.under .TooMany, c.under .NoPlan, c.under .Past, c.under .BadRow]
theorem word_one {c : Exn} (h : c ≠ .HallError) : ((wordsL.zip (underL c)).filter fun p => p.2).map (fun p => (.str p.1 : D)) = [.str c.name] := by
  cases c <;> first | rfl | exact absurd rfl h
abbrev n__law_word_5e12 : List Str := ["_law_e", "_law_words", "_law_told_here", "_law_some", "_law_word_here", "_law_one"]
theorem nd__law_word_5e12 : (n__law_word_5e12).Nodup := by decide +kernel
def u__law_word_5e12 : SS :=
  (.cons (.set 1 (.bop sLst (.cons (.cst (.str "Taken")) (.cons (.cst (.str "NoKey")) (.cons (.cst (.str "TooMuch")) (.cons (.cst (.str "NoHouse")) (.cons (.cst (.str "NoGang")) (.cons (.cst (.str "NoGuild")) (.cons (.cst (.str "NoKind")) (.cons (.cst (.str "InUse")) (.cons (.cst (.str "TooMany")) (.cons (.cst (.str "NoPlan")) .nil))))))))))))
  (.cons (.set 1 (.bop sAdd (.cons (.var 1) (.cons (.bop sLst (.cons (.cst (.str "Past")) (.cons (.cst (.str "BadRow")) .nil))) .nil))))
  (.cons (.set 2 (.bop sLst (.cons (.bop (sIsX .Taken) (.cons (.var 0) .nil)) (.cons (.bop (sIsX .NoKey) (.cons (.var 0) .nil)) (.cons (.bop (sIsX .TooMuch) (.cons (.var 0) .nil)) (.cons (.bop (sIsX .NoHouse) (.cons (.var 0) .nil)) .nil))))))
  (.cons (.set 2 (.bop sAdd (.cons (.var 2) (.cons (.bop sLst (.cons (.bop (sIsX .NoGang) (.cons (.var 0) .nil)) (.cons (.bop (sIsX .NoGuild) (.cons (.var 0) .nil)) (.cons (.bop (sIsX .NoKind) (.cons (.var 0) .nil)) (.cons (.bop (sIsX .InUse) (.cons (.var 0) .nil)) .nil))))) .nil))))
  (.cons (.set 2 (.bop sAdd (.cons (.var 2) (.cons (.bop sLst (.cons (.bop (sIsX .TooMany) (.cons (.var 0) .nil)) (.cons (.bop (sIsX .NoPlan) (.cons (.var 0) .nil)) (.cons (.bop (sIsX .Past) (.cons (.var 0) .nil)) (.cons (.bop (sIsX .BadRow) (.cons (.var 0) .nil)) .nil))))) .nil))))
  (.cons (.set 3 (.lc (.tup (.cons (.name 4) (.cons (.name 5) .nil))) isZip (.cons (.var 1) (.cons (.var 2) .nil)) (.cons (.var 5) .nil) (.var 4)))
  (.cons (.iff (.or2 (.bop sNe (.cons (.bop sLen (.cons (.var 3) .nil)) (.cons (.cst (.int 1)) .nil))) (.bop sNot (.cons (.bop sIsVE (.cons (.var 0) .nil)) .nil))) (.cons (.ret (.cst (.str "other")))
  .nil) .nil)
  (.cons (.ret (.bop sIx (.cons (.var 3) (.cons (.cst (.int 0)) .nil))))
  .nil))))))))
theorem body__law_word_5e12 : ∀ (ss : List D) (m : MS) (P : NX) (Z : EZ), a__law_word_5e12 ss m P Z → WB u__law_word_5e12 (startR n__law_word_5e12 ss) m (bodyE P Z) := by
  rintro _ m P Z ⟨c, es, rfl, hc, h⟩
  (conv => whnf)
  refine .inl ?_
  (conv => whnf)
  refine .inl ?_
  (conv => whnf)
  refine ⟨by simp, .inl ?_⟩
  (conv => whnf)
  refine .inl ?_
  (conv => whnf)
  refine .inl ?_
  (conv => whnf)
  refine ⟨by simp, .inl ?_⟩
  (conv => whnf)
  refine .inl ?_
  (conv => whnf)
  refine ⟨by simp, .inl ?_⟩
  (conv => whnf)
  refine lcP (wordsL.zip (underL c)) (fun p => D.tup [.str p.1, .bl p.2]) (fun p => p.2) (fun p => .str p.1) (zip12 (ws := wordsL) (bs := underL c)) (by simp [wordsL, underL]) ⟨trivial, trivial⟩ ?_ (.inl ?_)
  · intro x hx
    refine ⟨_, rfl, fun Q h => ?_, fun hp Q h => ?_⟩
    · (conv => whnf)
      exact ⟨_, rfl, h⟩
    · (conv => whnf)
      exact h
  rw [word_one hc]
  (conv => whnf)
  refine ⟨_, rfl, .inl ⟨false, fun _ => ⟨rfl, rfl⟩, ?_⟩⟩
  (conv => whnf)
  refine ⟨_, rfl, fun c => (by cases c), fun _ => ?_⟩
  (conv => whnf)
  refine ⟨_, rfl, ?_⟩
  (conv => whnf)
  exact ret h

end My
namespace My
open PySem PySem.Spec L2 Nu
open PyProof.Rows hiding St
/-! ### _law_told_0ead -/
def a__law_told_0ead : ASp := fun ss m P _ => ∃ (b s : Addr) (room : List Int) (R : List Row) (d : Deed), ss = [.raw (.ref b), deedD d] ∧ BookM m b s room R ∧ RowsOk room.length R ∧ ((1 ≤ room.length ∧ room.length ≤ 1000) ∧ R.length ≤ 1000) ∧ fitD room.length d ∧
  P (outD (stepR room.length room R d).1) (mset m s (.dct (rowsK (stepR room.length room R d).2)))
theorem len__law_told_0ead : ∀ ss m P Z, a__law_told_0ead ss m P Z → ss.length = 2 := by
  rintro _ m P Z ⟨b, s, room, R, d, rfl, _⟩; rfl
def wtD (c : Exn) (es : List D) : D := match c with
  | .TooMuch => es.headD .non
  | _ => .non
abbrev n__law_told_0ead : List Str := ["_law_book", "_law_deed_here", "_law_told_here", "_law_error", "_law_e"]
theorem nd__law_told_0ead : (n__law_told_0ead).Nodup := by decide +kernel
def u__law_told_0ead : SS :=
  (.cons (.unp (.cons (.name 2) (.cons (.name 3) .nil)) (.bop sTup (.cons (.cst .non) (.cons (.cst .non) .nil))))
  (.cut (.tri .HallError (some 4) (.cons (.set 2 (.call a__law_called (.cons (.var 0) (.cons (.var 1) .nil))))
  .nil) (.cons (.set 3 (.var 4))
  .nil))
  (.cons (.iff (.bop sIs (.cons (.var 3) (.cons (.cst .non) .nil))) (.cons (.ret (.bop sTup (.cons (.cst (.str "told")) (.cons (.var 2) .nil))))
  .nil) .nil)
  (.cons (.ret (.bop sTup (.cons (.call a__law_word_5e12 (.cons (.var 3) .nil)) (.cons (.ite (.bop (sIsX .TooMuch) (.cons (.var 3) .nil)) (.bop (sFld .time) (.cons (.var 3) .nil)) (.cst .non)) .nil))))
  .nil))))
theorem body__law_told_0ead : ∀ (ss : List D) (m : MS) (P : NX) (Z : EZ), a__law_told_0ead ss m P Z → WB u__law_told_0ead (startR n__law_told_0ead ss) m (bodyE P Z) := by
  rintro _ m P Z ⟨b, s, room, R, d, rfl, hB, hR, hw, hfit, h⟩
  (conv => whnf)
  refine ⟨fun ρ' m' => m' = mset m s (.dct (rowsK (stepR room.length room R d).2)) ∧ ∃ x2 x3, ρ' = [some (.raw (.ref b)), some (deedD d), some x2, some x3, none] ∧ ((x3 = .non ∧ outD (stepR room.length room R d).1 = .tup [.str "told", x2]) ∨ ∃ c es, x3 = .exn c es ∧ c ≠ .HallError ∧ outD (stepR room.length room R d).1 = .tup [.str c.name, wtD c es] ∧ (c = .TooMuch → ∃ t, es = [.int t])), ?_, ?_⟩
  · (conv => whnf)
    refine ⟨b, s, room, R, d, rfl, hB, hR, hw, hfit, ?_⟩
    generalize (stepR room.length room R d).1 = o
    generalize mset m s (.dct (rowsK (stepR room.length room R d).2)) = m'
    cases o with
    | told => exact ⟨rfl, .non, .non, rfl, .inl ⟨rfl, rfl⟩⟩
    | gone g => exact ⟨rfl, .lst (g.map .str), .non, rfl, .inl ⟨rfl, rfl⟩⟩
    | taken =>
      refine ⟨fun _ => ?_, fun c => (by cases c)⟩
      exact ⟨rfl, .non, .exn .Taken [], rfl, .inr ⟨.Taken, [], rfl, by simp, rfl, fun c => by cases c⟩⟩
    | nokey =>
      refine ⟨fun _ => ?_, fun c => (by cases c)⟩
      exact ⟨rfl, .non, .exn .NoKey [], rfl, .inr ⟨.NoKey, [], rfl, by simp, rfl, fun c => by cases c⟩⟩
    | more t =>
      refine ⟨fun _ => ?_, fun c => (by cases c)⟩
      exact ⟨rfl, .non, .exn .TooMuch [.int t], rfl, .inr ⟨.TooMuch, [.int t], rfl, by simp, rfl, fun _ => ⟨t, rfl⟩⟩⟩
  · rintro ρ' m' ⟨rfl, x2, x3, rfl, hx⟩
    refine ⟨_, _, VwS.refl, ?_⟩
    rcases hx with ⟨rfl, e⟩ | ⟨c, es, rfl, hc, e, ht⟩
    · rw [e] at h
      (conv => whnf)
      refine ⟨_, rfl, fun _ => ?_, fun c => (by cases c)⟩
      (conv => whnf)
      exact ret h
    · rw [e] at h
      (conv => whnf)
      refine ⟨_, rfl, fun c => (by cases c), fun _ => ?_⟩
      (conv => whnf)
      refine ⟨c, es, rfl, hc, ?_⟩
      (conv => whnf)
      by_cases hm : c = .TooMuch
      · subst hm
        obtain ⟨t, rfl⟩ := ht rfl
        refine ⟨_, rfl, .inr ⟨fun _ => ?_, fun c => (by cases c)⟩⟩
        (conv => whnf)
        exact ret h
      · have e2 : c.under .TooMuch = false := by cases c <;> first | rfl | exact absurd rfl hm
        rw [e2]
        refine ⟨_, rfl, .inr ⟨fun c => (by cases c), fun _ => ?_⟩⟩
        (conv => whnf)
        have e3 : wtD c es = .non := by cases c <;> first | rfl | exact absurd rfl hm
        rw [e3] at h
        exact ret h

end My
namespace My
open PySem PySem.Spec L2 Nu
open PyProof.Rows hiding St
/-! ### _law_load_eb54 -/
def a__law_load_eb54 : ASp := fun ss m P _ => ∃ (p q : Addr) (room : List Int) (top wide : Int) (R : List Row) (t : Int), ss = [.raw (.ref p), .int t] ∧ LawM m p q room top wide R ∧ RowsOk room.length R ∧ (1 ≤ room.length ∧ room.length ≤ 1000) ∧ P (amtD (loadL room.length (rws R) t)) m
theorem len__law_load_eb54 : ∀ ss m P Z, a__law_load_eb54 ss m P Z → ss.length = 2 := by
  rintro _ m P Z ⟨p, q, room, top, wide, R, t, rfl, _⟩; rfl
abbrev n__law_load_eb54 : List Str := ["_law_m", "_law_time_here", "_law_load_here", "_law_begin", "_law_end", "_law_amount_here", "_law_one", "_law_other"]
theorem nd__law_load_eb54 : (n__law_load_eb54).Nodup := by decide +kernel
def u__law_load_eb54 : SS :=
  (.cons (.set 2 (.bop sMul (.cons (.bop sLst (.cons (.cst (.int 0)) .nil)) (.cons (.bop sLen (.cons (.bop sIx (.cons (.var 0) (.cons (.cst (.str "room")) .nil))) .nil)) .nil))))
  (.cons (.lock (.fo (.tup (.cons (.name 3) (.cons (.name 4) (.cons (.name 5) .nil)))) (isDct .vals) (.cons (.bop sIx (.cons (.var 0) (.cons (.cst (.str "rows")) .nil))) .nil) (.cons (.iff (.chain .le .lt (.var 3) (.var 1) (.var 4)) (.cons (.set 2 (.lc (.tup (.cons (.name 6) (.cons (.name 7) .nil))) isZip (.cons (.var 2) (.cons (.var 5) .nil)) .nil (.bop sAdd (.cons (.var 6) (.cons (.var 7) .nil)))))
  .nil) .nil)
  .nil)))
  (.cons (.ret (.bop sToTup (.cons (.var 2) .nil)))
  .nil)))
theorem body__law_load_eb54 : ∀ (ss : List D) (m : MS) (P : NX) (Z : EZ), a__law_load_eb54 ss m P Z → WB u__law_load_eb54 (startR n__law_load_eb54 ss) m (bodyE P Z) := by
  rintro _ m P Z ⟨p, q, room, top, wide, R, t, rfl, hL, hR, ⟨w0, w1⟩, k⟩
  (conv => whnf)
  refine .inl ?_
  (conv => whnf)
  refine ⟨_, hL.hp, _, rfl, ?_⟩
  (conv => whnf)
  rw [List.length_map]
  refine ⟨⟨by omega, by omega, by simp; omega⟩, .inl ?_⟩
  (conv => whnf)
  refine .inl ⟨q, _, hL.hq, fun o vs => ?_⟩
  (conv => whnf)
  refine ⟨_, hL.lk, _, rfl, ?_⟩
  (conv => whnf)
  refine ⟨o, vs, _, mset_same, ?_⟩
  (conv => whnf)
  have e0 : repL ((room.length : Nat) : Int) [D.int 0] = (loadL room.length (rws (R.take 0)) t).map .int := by
    rw [List.take_zero]; show _ = (loadL room.length [] t).map D.int
    rw [loadL_nil]
    unfold repL
    rw [Int.toNat_natCast, List.map_replicate]
    generalize room.length = w
    induction w with
    | zero => rfl
    | succ n ih => rw [List.replicate_succ, List.replicate_succ, List.flatten_cons, ih]; rfl
  refine foP R (fun r => rwD r.2) (fun i ρ' m' => m' = mset m q (.lck o vs (rowsK R)) ∧ ∃ x3 x4 x5, ρ' = [some (.raw (.ref p)), some (.int t), some (.lst ((loadL room.length (rws (R.take i)) t).map .int)), x3, x4, x5, none, none]) (kds_vals R) ⟨rfl, _, _, _, by rw [e0]; rfl⟩ (fun i ρ' m' h => by rw [h.1]; exact mset_same) ?_ ?_
  · rintro i r ρ' m' hr ⟨rfl, x3, x4, x5, rfl⟩
    refine ⟨_, rfl, ?_⟩
    have hrl := hR.len r (List.mem_of_getElem? hr)
    have ht : rws (R.take (i + 1)) = rws (R.take i) ++ [r.2] := by rw [take_succ hr, rws, List.map_append]; rfl
    (conv => whnf)
    refine ⟨_, _, _, rfl, rfl, ⟨rfl, rfl⟩, ?_⟩
    (conv => whnf)
    refine ⟨_, rfl, fun hk => ?_, fun hk => ?_⟩
    · (conv => whnf)
      refine lcM ((loadL room.length (rws (R.take i)) t).zip r.2.2.2) (fun p => D.tup [.int p.1, .int p.2]) (fun p => .int (p.1 + p.2)) zipD_map (by rw [List.length_zip, loadL_len]; omega) ⟨trivial, trivial⟩ (fun x hx => ⟨_, rfl, fun R r => by (conv => whnf); exact r⟩) (.inl ?_)
      rw [zipW_map (f := (· + ·)), loadL_add hrl hk, ← ht]
      exact ⟨rfl, _, _, _, rfl⟩
    · refine ⟨rfl, some (.int r.2.1), some (.int r.2.2.1), some (amtD r.2.2.2), ?_⟩
      rw [ht, loadL_skip hk]; rfl
  · rintro ρ' m' ⟨rfl, x2, x3, x4, rfl⟩
    refine ⟨mset_same, ?_⟩
    rw [mset_back hL.hq, List.take_length]
    (conv => whnf)
    exact ret k

end My
namespace My
open PySem PySem.Spec L2 Nu
open PyProof.Rows hiding St
/-! ### _law_first_more -/
def a__law_first_more : ASp := fun ss m P _ => ∃ (p q : Addr) (room : List Int) (top wide : Int) (R : List Row) (b e : Int) (l : List Int), ss = [.raw (.ref p), .int b, .int e, amtD l] ∧ LawM m p q room top wide R ∧ RowsOk room.length R ∧ ((1 ≤ room.length ∧ room.length ≤ 1000) ∧ R.length ≤ 1000 ∧ b < e ∧ l.length = room.length) ∧ P (optD (fmT room.length room (rws R) b e l)) m
theorem len__law_first_more : ∀ ss m P Z, a__law_first_more ss m P Z → ss.length = 4 := by
  rintro _ m P Z ⟨p, q, room, top, wide, R, b, e, l, rfl, _⟩; rfl
abbrev n__law_first_more : List Str := ["_law_m", "_law_begin", "_law_end", "_law_amount_here", "_law_time_here", "_law_edge", "_law_a", "_law_b", "_law_c"]
theorem nd__law_first_more : (n__law_first_more).Nodup := by decide +kernel
def u__law_first_more : SS :=
  (.cons (.fo (.name 4) isVal (.cons (.bop sAdd (.cons (.bop sLst (.cons (.var 1) .nil)) (.cons (.lc (.name 5) isVal (.cons (.call a__law_edges (.cons (.var 0) .nil)) .nil) (.cons (.chain .lt .lt (.var 1) (.var 5) (.var 2)) .nil) (.var 5)) .nil))) .nil) (.cons (.iff (.bop sAny (.cons (.lc (.tup (.cons (.name 6) (.cons (.name 7) (.cons (.name 8) .nil)))) isZip (.cons (.call a__law_load_eb54 (.cons (.var 0) (.cons (.var 4) .nil))) (.cons (.var 3) (.cons (.bop sIx (.cons (.var 0) (.cons (.cst (.str "room")) .nil))) .nil))) .nil (.bop (sCmp .gt) (.cons (.bop sAdd (.cons (.var 6) (.cons (.var 7) .nil))) (.cons (.var 8) .nil)))) .nil)) (.cons (.ret (.var 4))
  .nil) .nil)
  .nil))
  (.cons (.ret (.cst .non))
  .nil))
theorem body__law_first_more : ∀ (ss : List D) (m : MS) (P : NX) (Z : EZ), a__law_first_more ss m P Z → WB u__law_first_more (startR n__law_first_more ss) m (bodyE P Z) := by
  rintro _ m P Z ⟨p, q, room, top, wide, R, b, e, l, rfl, hL, hR, ⟨hw, hlen, hbe, hl⟩, k⟩
  (conv => whnf)
  refine .inl ?_
  (conv => whnf)
  refine ⟨p, q, room, top, wide, R, rfl, hL, hlen, fun E hE hs => ?_⟩
  have hEl : E.length ≤ 2000 := by rw [hE.length_eq, edges_len]; omega
  (conv => whnf)
  refine lcN E D.int (fun t => decide (b < t) && decide (t < e)) D.int rfl (by omega) trivial ?_ (.inl ?_)
  · intro t ht
    refine ⟨fun Q h => ?_, fun _ Q h => ?_⟩
    · (conv => whnf)
      refine ⟨_, _, _, rfl, rfl, ⟨rfl, rfl⟩, ?_⟩
      exact ⟨_, rfl, h⟩
    · (conv => whnf)
      exact h
  have hEf : (E.filter fun t => decide (b < t) && decide (t < e)).length ≤ 2000 := Nat.le_trans (List.length_filter_le ..) hEl
  (conv => whnf)
  refine ⟨by rw [List.length_map]; simp; omega, .inl ?_⟩
  (conv => whnf)
  have T := law_times (R := R) hbe hE
  have hA := times_pw (b := b) (e := e) hs
  refine foN (b :: E.filter fun t => decide (b < t) && decide (t < e)) D.int (fun i ρ' m' => m' = m ∧ (∀ u ∈ (b :: E.filter fun t => decide (b < t) && decide (t < e)).take i, ¬ ovr room.length room (rws R) l u) ∧ ∃ x4, ρ' = [some (.raw (.ref p)), some (.int b), some (.int e), some (amtD l), x4, none, none, none, none]) rfl ⟨rfl, by simp, _, rfl⟩ (fun i ρ' m' h => trivial) ?_ ?_
  · rintro i t ρ' m' ht ⟨rfl, hu, x4, rfl⟩
    (conv => whnf)
    refine ⟨p, q, room, top, wide, R, t, rfl, hL, hR, hw, ?_⟩
    (conv => whnf)
    refine ⟨_, hL.hp, _, rfl, ?_⟩
    (conv => whnf)
    refine lcM (((loadL room.length (rws R) t).zip l).zip room) (fun p => D.tup [.int p.1.1, .int p.1.2, .int p.2]) (fun p => .bl (decide (p.2 < p.1.1 + p.1.2))) zip3_map (by rw [List.length_zip, List.length_zip]; omega) ⟨trivial, trivial, trivial⟩ (fun x hx => ⟨_, rfl, fun R r => by (conv => whnf); exact r⟩) (.inl ?_)
    (conv => whnf)
    refine ⟨(((loadL room.length (rws R) t).zip l).zip room).map fun p => decide (p.2 < p.1.1 + p.1.2), by rw [List.map_map]; rfl, ?_⟩
    rw [List.any_map]
    (conv => whnf)
    refine ⟨_, rfl, fun hk => ?_, fun hk => ?_⟩
    · (conv => whnf)
      have o := (ovr_any hl rfl).mp hk
      have := fmT_eq (FM.of_some (w := room.length) (room := room) (l := l) (fun r hr => by obtain ⟨y, hy, rfl⟩ := List.mem_map.mp hr; exact hR.pos y hy) T hA ht o hu)
      rw [this] at k
      exact ret k
    · refine ⟨rfl, fun u hu' => ?_, _, rfl⟩
      rw [take_succ ht] at hu'
      rcases List.mem_append.mp hu' with h | h
      · exact hu u h
      · rw [List.mem_singleton.mp h]
        intro o
        have := (ovr_any hl rfl).mpr o
        have h2 : true = false := this.symm.trans hk
        cases h2
  · rintro ρ' m' ⟨rfl, hu, x4, rfl⟩
    (conv => whnf)
    rw [List.take_length] at hu
    have := fmT_eq (FM.of_none (w := room.length) (room := room) (l := l) (fun r hr => by obtain ⟨y, hy, rfl⟩ := List.mem_map.mp hr; exact hR.pos y hy) T hu)
    rw [this] at k
    exact ret k

end My
namespace My
open PySem PySem.Spec L2 Nu
open PyProof.Rows hiding St
/-! ### _law_put_due -/
def a__law_put_due : ASp := fun ss m P _ => ∃ (p q : Addr) (room : List Int) (top wide : Int) (R : List Row) (k : Str) (b e : Int) (l : List Int), ss = [.raw (.ref p), deedD (.put k b e l)] ∧ LawM m p q room top wide R ∧ RowsOk room.length R ∧ ((1 ≤ room.length ∧ room.length ≤ 1000) ∧ R.length ≤ 1000) ∧ fitD room.length (.put k b e l) ∧
  DueP (stepR room.length room R (.put k b e l)).1 P (mset m q (.dct (rowsK (stepR room.length room R (.put k b e l)).2)))
theorem len__law_put_due : ∀ ss m P Z, a__law_put_due ss m P Z → ss.length = 2 := by
  rintro _ m P Z ⟨p, q, room, top, wide, R, k, b, e, l, rfl, _⟩; rfl
abbrev n__law_put_due : List Str := ["_law_m", "_law_deed_here", "_law_word_here", "_law_key", "_law_begin", "_law_end", "_law_amount_here", "_law_time_here"]
theorem nd__law_put_due : (n__law_put_due).Nodup := by decide +kernel
def u__law_put_due : SS :=
  (.cons (.unp (.cons (.name 2) (.cons (.name 3) (.cons (.name 4) (.cons (.name 5) (.cons (.name 6) .nil))))) (.var 1))
  (.cons (.iff (.bop sIn (.cons (.var 3) (.cons (.bop sIx (.cons (.var 0) (.cons (.cst (.str "rows")) .nil))) .nil))) (.cons (.ret (.bop sTup (.cons (.cst (.str "Taken")) (.cons (.cst .non) .nil))))
  .nil) .nil)
  (.cons (.set 7 (.call a__law_first_more (.cons (.var 0) (.cons (.var 4) (.cons (.var 5) (.cons (.var 6) .nil))))))
  (.cons (.iff (.bop sIsnt (.cons (.var 7) (.cons (.cst .non) .nil))) (.cons (.ret (.bop sTup (.cons (.cst (.str "TooMuch")) (.cons (.var 7) .nil))))
  .nil) .nil)
  (.cons (.iset (.bop sIx (.cons (.var 0) (.cons (.cst (.str "rows")) .nil))) (.var 3) (.bop sTup (.cons (.var 4) (.cons (.var 5) (.cons (.var 6) .nil)))))
  (.cons (.ret (.bop sTup (.cons (.cst (.str "told")) (.cons (.cst .non) .nil))))
  .nil))))))
theorem body__law_put_due : ∀ (ss : List D) (m : MS) (P : NX) (Z : EZ), a__law_put_due ss m P Z → WB u__law_put_due (startR n__law_put_due ss) m (bodyE P Z) := by
  rintro _ m P Z ⟨p, q, room, top, wide, R, k, b, e, l, rfl, hL, hR, ⟨hw, hlen⟩, ⟨hbe, hl, hp, hk0⟩, h⟩
  (conv => whnf)
  refine ⟨_, hL.hp, _, rfl, ?_⟩
  (conv => whnf)
  refine ⟨_, hL.hq, ?_⟩
  (conv => whnf)
  rw [val_some]
  simp only [stepR] at h
  by_cases hk : k ∈ keysR R
  · rw [if_pos hk] at h
    refine ⟨_, rfl, fun _ => ?_, fun c => ?_⟩
    · (conv => whnf)
      have h' : P (outD .taken) (mset m q (.dct (rowsK R))) := h
      rw [hL.self] at h'
      exact ret h'
    · simp [hk] at c
  · rw [if_neg hk] at h
    refine ⟨_, rfl, fun c => ?_, fun _ => ?_⟩
    · simp [hk] at c
    (conv => whnf)
    refine ⟨p, q, room, top, wide, R, b, e, l, rfl, hL, hR, ⟨hw, hlen, hbe, hl⟩, ?_⟩
    cases hf : fmT room.length room (rws R) b e l with
    | some t =>
      rw [hf] at h
      have h' : P (outD (.more t)) (mset m q (.dct (rowsK R))) := h
      rw [hL.self] at h'
      (conv => whnf)
      refine ⟨_, rfl, fun _ => ?_, fun c => by cases c⟩
      (conv => whnf)
      exact ret h'
    | none =>
      rw [hf] at h
      have h' : P (outD .told) (mset m q (.dct (rowsK (putR R k (b, e, l))))) := h
      (conv => whnf)
      refine ⟨_, rfl, fun c => (by cases c), fun _ => ?_⟩
      (conv => whnf)
      refine ⟨_, hL.hp, _, rfl, ?_⟩
      (conv => whnf)
      refine ⟨_, hL.hq, by rw [rowsK_len]; omega, ?_⟩
      rw [← put_rows] at h'
      exact ret h'

end My
namespace My
open PySem PySem.Spec L2 Nu
open PyProof.Rows hiding St
/-! ### _law_due_3a95 -/
def a__law_due_3a95 : ASp := fun ss m P _ => ∃ (p q : Addr) (room : List Int) (top wide : Int) (R : List Row) (d : Deed), ss = [.raw (.ref p), deedD d] ∧ LawM m p q room top wide R ∧ RowsOk room.length R ∧ ((1 ≤ room.length ∧ room.length ≤ 1000) ∧ R.length ≤ 1000) ∧ fitD room.length d ∧
  DueP (stepR room.length room R d).1 P (mset m q (.dct (rowsK (stepR room.length room R d).2)))
theorem len__law_due_3a95 : ∀ ss m P Z, a__law_due_3a95 ss m P Z → ss.length = 2 := by
  rintro _ m P Z ⟨p, q, room, top, wide, R, d, rfl, _⟩; rfl
abbrev n__law_due_3a95 : List Str := ["_law_m", "_law_deed_here", "_law_rows", "_law_word_here", "_law_key", "_law_gone", "_law_name_here", "_law_begin", "_law_end", "_law_amount_here", "_law_time_here"]
theorem nd__law_due_3a95 : (n__law_due_3a95).Nodup := by decide +kernel
def u__law_due_3a95 : SS :=
  (.cons (.set 2 (.bop sIx (.cons (.var 0) (.cons (.cst (.str "rows")) .nil))))
  (.cons (.unp (.cons (.name 3) (.cons (.name 4) .nil)) (.bop sSlH (.cons (.var 1) (.cons (.cst (.int 2)) .nil))))
  (.cons (.iff (.bop sEq (.cons (.var 3) (.cons (.cst (.str "past")) .nil))) (.cons (.set 5 (.bop sSorted (.cons (.lock (.lc (.name 6) (isDct .keys) (.cons (.var 2) .nil) (.cons (.bop (sCmp .le) (.cons (.bop sIx (.cons (.bop sIx (.cons (.var 2) (.cons (.var 6) .nil))) (.cons (.cst (.int 1)) .nil))) (.cons (.var 4) .nil))) .nil) (.var 6))) .nil)))
  (.cons (.fo (.name 6) isVal (.cons (.var 5) .nil) (.cons (.expr (.mth (kLD sPopL sPopD) (.var 2) (.cons (.var 6) .nil)))
  .nil))
  (.cons (.ret (.bop sTup (.cons (.cst (.str "told")) (.cons (.var 5) .nil))))
  .nil))) .nil)
  (.cons (.iff (.bop sEq (.cons (.var 3) (.cons (.cst (.str "put")) .nil))) (.cons (.ret (.call a__law_put_due (.cons (.var 0) (.cons (.var 1) .nil))))
  .nil) .nil)
  (.cons (.iff (.bop sNotIn (.cons (.var 4) (.cons (.var 2) .nil))) (.cons (.ret (.bop sTup (.cons (.cst (.str "NoKey")) (.cons (.cst .non) .nil))))
  .nil) .nil)
  (.cons (.unp (.cons (.name 7) (.cons (.name 8) (.cons (.name 9) .nil))) (.bop sIx (.cons (.var 2) (.cons (.var 4) .nil))))
  (.cut (.iff (.or2 (.bop sEq (.cons (.var 3) (.cons (.cst (.str "drop")) .nil))) (.and2 (.bop sEq (.cons (.var 3) (.cons (.cst (.str "cut")) .nil))) (.bop (sCmp .ge) (.cons (.var 7) (.cons (.bop sIx (.cons (.var 1) (.cons (.cst (.int 2)) .nil))) .nil))))) (.cons (.expr (.mth (kLD sPopL sPopD) (.var 2) (.cons (.var 4) .nil)))
  .nil) (.cons (.iff (.bop sEq (.cons (.var 3) (.cons (.cst (.str "cut")) .nil))) (.cons (.iset (.var 2) (.var 4) (.bop sTup (.cons (.var 7) (.cons (.bop sMin2 (.cons (.var 8) (.cons (.bop sIx (.cons (.var 1) (.cons (.cst (.int 2)) .nil))) .nil))) (.cons (.var 9) .nil)))))
  .nil) (.cons (.iff (.bop (sCmp .lt) (.cons (.var 8) (.cons (.bop sIx (.cons (.var 1) (.cons (.cst (.int 2)) .nil))) .nil))) (.cons (.set 10 (.call a__law_first_more (.cons (.var 0) (.cons (.var 8) (.cons (.bop sIx (.cons (.var 1) (.cons (.cst (.int 2)) .nil))) (.cons (.var 9) .nil))))))
  (.cons (.iff (.bop sIsnt (.cons (.var 10) (.cons (.cst .non) .nil))) (.cons (.ret (.bop sTup (.cons (.cst (.str "TooMuch")) (.cons (.var 10) .nil))))
  .nil) .nil)
  (.cons (.iset (.var 2) (.var 4) (.bop sTup (.cons (.var 7) (.cons (.bop sIx (.cons (.var 1) (.cons (.cst (.int 2)) .nil))) (.cons (.var 9) .nil)))))
  .nil))) .nil)
  .nil))
  .nil))
  (.cons (.ret (.bop sTup (.cons (.cst (.str "told")) (.cons (.cst .non) .nil))))
  .nil))))))))
theorem body__law_due_3a95 : ∀ (ss : List D) (m : MS) (P : NX) (Z : EZ), a__law_due_3a95 ss m P Z → WB u__law_due_3a95 (startR n__law_due_3a95 ss) m (bodyE P Z) := by
  rintro _ m P Z ⟨p, q, room, top, wide, R, d, rfl, hL, hR, ⟨hw, hlen⟩, hfit, h⟩
  cases d with
  | put k b e l =>
    (conv => whnf)
    refine ⟨_, hL.hp, _, rfl, ?_⟩
    (conv => whnf)
    refine ⟨_, rfl, fun c => (by cases c), fun _ => ?_⟩
    (conv => whnf)
    refine ⟨_, rfl, fun _ => ?_, fun c => (by cases c)⟩
    (conv => whnf)
    exact ⟨p, q, room, top, wide, R, k, b, e, l, rfl, hL, hR, ⟨hw, by omega⟩, hfit, ret h⟩
  | past t =>
    (conv => whnf)
    refine ⟨_, hL.hp, _, rfl, ?_⟩
    (conv => whnf)
    refine ⟨_, rfl, fun _ => ?_, fun c => (by cases c)⟩
    (conv => whnf)
    refine .inl ⟨q, _, hL.hq, fun o vs => ?_⟩
    (conv => whnf)
    refine ⟨o, vs, _, mset_same, ?_⟩
    (conv => whnf)
    refine lcN R (fun r => D.str r.1) (fun r => decide (r.2.2.1 ≤ t)) (fun r => .str r.1) (by show List.map _ (List.map _ R) = _; rw [List.map_map]; rfl) (by omega) mset_same ?_ (.inl ?_)
    · intro r hr
      refine ⟨fun Q h => ?_, fun hp Q h => ?_⟩
      · have e1 : rowOf R r.1 = some r.2 := by
          obtain ⟨r2, e2⟩ := rowOf_mem (R := R) (k := r.1) (List.mem_map.mpr ⟨r, hr, rfl⟩)
          rw [e2]
          have h3 := rowOf_some e2
          obtain ⟨i, hi⟩ := List.getElem?_of_mem h3
          obtain ⟨j, hj⟩ := List.getElem?_of_mem hr
          have hi' := List.getElem?_eq_some_iff.mp hi
          have hj' := List.getElem?_eq_some_iff.mp hj
          have : i = j := (List.getElem_inj (xs := keysR R) (h₀ := by rw [List.length_map]; exact hi'.1) (h₁ := by rw [List.length_map]; exact hj'.1) hR.nd).mp (by rw [List.getElem_map, List.getElem_map, hi'.2, hj'.2])
          subst this
          rw [hi] at hj
          rw [← Option.some.inj hj]
        (conv => whnf)
        refine ⟨_, mset_same, rwD r.2, by rw [val_rows, e1]; rfl, ?_⟩
        (conv => whnf)
        refine ⟨_, rfl, ?_⟩
        (conv => whnf)
        exact ⟨_, rfl, h⟩
      · (conv => whnf)
        exact h
    refine ⟨mset_same, ?_⟩
    rw [mset_back hL.hq]
    have e1 : (R.filter fun r => decide (r.2.2.1 ≤ t)).map (fun r => (.str r.1 : D)) = ((R.filter fun r => decide (r.2.2.1 ≤ t)).map (·.1)).map .str := by
      rw [List.map_map]; rfl
    rw [e1]
    (conv => whnf)
    refine .inr (.inr ⟨_, rfl, fun g hp hs => .inl ?_⟩)
    have eg : goneT R t = g := srtT_eq hp hs
    have h' : P (.tup [.str "told", .lst ((goneT R t).map .str)]) (mset m q (.dct (rowsK ((goneT R t).foldl delR R)))) := h
    rw [eg] at h'
    (conv => whnf)
    refine foN g D.str (fun i ρ' m' => m' = mset m q (.dct (rowsK ((g.take i).foldl delR R))) ∧ ∃ x6, ρ' = [some (.raw (.ref p)), some (deedD (.past t)), some (.raw (.ref q)), some (.str "past"), some (.int t), some (.lst (g.map .str)), x6, none, none, none, none]) rfl ⟨by rw [List.take_zero]; exact hL.self.symm, _, rfl⟩ (fun i ρ' m' h => trivial) ?_ ?_
    · rintro i k ρ' m' hk ⟨rfl, x3, rfl⟩
      obtain ⟨r, e2, e3⟩ := gone_next hR.nd hp hk
      (conv => whnf)
      refine ⟨_, mset_same, ?_⟩
      (conv => whnf)
      refine ⟨_, mset_same, rwD r, by rw [val_rows, e2]; rfl, ?_⟩
      rw [del_rows, mset_mset, ← e3]
      exact ⟨rfl, _, rfl⟩
    · rintro ρ' m' ⟨rfl, x3, rfl⟩
      rw [List.take_length]
      (conv => whnf)
      exact ret h'
  | cut k t =>
    (conv => whnf)
    refine ⟨_, hL.hp, _, rfl, ?_⟩
    (conv => whnf)
    refine ⟨_, rfl, fun c => (by cases c), fun _ => ?_⟩
    (conv => whnf)
    refine ⟨_, rfl, fun c => (by cases c), fun _ => ?_⟩
    (conv => whnf)
    refine ⟨_, hL.hq, ?_⟩
    (conv => whnf)
    rw [val_some]
    simp only [stepR] at h
    cases e : rowOf R k with
    | none =>
      rw [e] at h
      have h' : P (outD .nokey) (mset m q (.dct (rowsK R))) := h
      rw [hL.self] at h'
      have hn := rowOf_none.mp e
      refine ⟨_, rfl, fun _ => ?_, fun c => ?_⟩
      · (conv => whnf)
        exact ret h'
      · simp [hn] at c
    | some r =>
      obtain ⟨b, en, l⟩ := r
      rw [e] at h
      have hy : k ∈ keysR R := List.mem_map.mpr ⟨_, rowOf_some e, rfl⟩
      refine ⟨_, rfl, fun c => ?_, fun _ => ?_⟩
      · simp [hy] at c
      (conv => whnf)
      refine ⟨_, hL.hq, rwD (b, en, l), by rw [val_rows, e]; rfl, ?_⟩
      (conv => whnf)
      refine ⟨fun ρ' m' => Ret P (.tup [.str "told", .non]) m', ?_, fun ρ' m' hJ => ⟨ρ', m', VwS.refl, ?_⟩⟩
      · (conv => whnf)
        refine ⟨_, rfl, .inr ⟨fun _ => ?_, fun c => (by cases c)⟩⟩
        (conv => whnf)
        refine ⟨_, rfl, .inr ⟨fun _ => ?_, fun c => (by cases c)⟩⟩
        (conv => whnf)
        refine ⟨_, rfl, ?_⟩
        (conv => whnf)
        by_cases hk : t ≤ b
        · have h2 : P (outD .told) (mset m q (.dct (rowsK (delR R k)))) := by
            have h' : DueP (if t ≤ b then (Out.told, delR R k) else (Out.told, putR R k (b, if t < en then t else en, l))).1 P (mset m q (.dct (rowsK (if t ≤ b then (Out.told, delR R k) else (Out.told, putR R k (b, if t < en then t else en, l))).2))) := h
            rw [if_pos hk] at h'; exact h'
          refine ⟨_, rfl, fun _ => ?_, fun c => absurd hk (of_decide_eq_false c)⟩
          (conv => whnf)
          refine ⟨_, hL.hq, ?_⟩
          (conv => whnf)
          refine ⟨_, hL.hq, rwD (b, en, l), by rw [val_rows, e]; rfl, ?_⟩
          rw [del_rows]
          exact ret h2
        · have h2 : P (outD .told) (mset m q (.dct (rowsK (putR R k (b, if t < en then t else en, l))))) := by
            have h' : DueP (if t ≤ b then (Out.told, delR R k) else (Out.told, putR R k (b, if t < en then t else en, l))).1 P (mset m q (.dct (rowsK (if t ≤ b then (Out.told, delR R k) else (Out.told, putR R k (b, if t < en then t else en, l))).2))) := h
            rw [if_neg hk] at h'; exact h'
          rw [← put_rows] at h2
          refine ⟨_, rfl, fun c => absurd (of_decide_eq_true c) hk, fun _ => ?_⟩
          (conv => whnf)
          refine ⟨_, rfl, fun _ => ?_, fun c => (by cases c)⟩
          (conv => whnf)
          refine ⟨_, rfl, ?_⟩
          (conv => whnf)
          refine ⟨_, hL.hq, by rw [rowsK_len]; omega, ?_⟩
          exact ret h2
      · (conv => whnf)
        exact hJ
  | stretch k t =>
    (conv => whnf)
    refine ⟨_, hL.hp, _, rfl, ?_⟩
    (conv => whnf)
    refine ⟨_, rfl, fun c => (by cases c), fun _ => ?_⟩
    (conv => whnf)
    refine ⟨_, rfl, fun c => (by cases c), fun _ => ?_⟩
    (conv => whnf)
    refine ⟨_, hL.hq, ?_⟩
    (conv => whnf)
    rw [val_some]
    simp only [stepR] at h
    cases e : rowOf R k with
    | none =>
      rw [e] at h
      have h' : P (outD .nokey) (mset m q (.dct (rowsK R))) := h
      rw [hL.self] at h'
      have hn := rowOf_none.mp e
      refine ⟨_, rfl, fun _ => ?_, fun c => ?_⟩
      · (conv => whnf)
        exact ret h'
      · simp [hn] at c
    | some r =>
      obtain ⟨b, en, l⟩ := r
      rw [e] at h
      have hy : k ∈ keysR R := List.mem_map.mpr ⟨_, rowOf_some e, rfl⟩
      refine ⟨_, rfl, fun c => ?_, fun _ => ?_⟩
      · simp [hy] at c
      (conv => whnf)
      refine ⟨_, hL.hq, rwD (b, en, l), by rw [val_rows, e]; rfl, ?_⟩
      (conv => whnf)
      refine ⟨fun ρ' m' => Ret P (.tup [.str "told", .non]) m', ?_, fun ρ' m' hJ => ⟨ρ', m', VwS.refl, ?_⟩⟩
      · (conv => whnf)
        refine ⟨_, rfl, .inr ⟨fun _ => ?_, fun c => (by cases c)⟩⟩
        (conv => whnf)
        refine ⟨_, rfl, .inr ⟨fun c => (by cases c), fun _ => ?_⟩⟩
        (conv => whnf)
        refine ⟨_, rfl, fun c => (by cases c), fun _ => ?_⟩
        (conv => whnf)
        refine ⟨_, rfl, fun c => (by cases c), fun _ => ?_⟩
        (conv => whnf)
        refine ⟨_, rfl, ?_⟩
        (conv => whnf)
        have h' : DueP (strR room.length room R k b en l t).1 P (mset m q (.dct (rowsK (strR room.length room R k b en l t).2))) := h
        unfold strR at h'
        refine ⟨_, rfl, fun hk => ?_, fun hk => ?_⟩
        · have hk' : en < t := of_decide_eq_true hk
          rw [if_pos hk'] at h'
          (conv => whnf)
          refine ⟨_, rfl, ?_⟩
          (conv => whnf)
          refine ⟨p, q, room, top, wide, R, en, t, l, rfl, hL, hR, ⟨hw, by omega, hk', hR.len _ (rowOf_some e)⟩, ?_⟩
          cases hf : fmT room.length room (rws R) en t l with
          | some u =>
            rw [hf] at h'
            have h2 : P (outD (.more u)) (mset m q (.dct (rowsK R))) := h'
            rw [hL.self] at h2
            (conv => whnf)
            refine ⟨_, rfl, fun _ => ?_, fun c => (by cases c)⟩
            (conv => whnf)
            exact ret h2
          | none =>
            rw [hf] at h'
            have h2 : P (outD .told) (mset m q (.dct (rowsK (putR R k (b, t, l))))) := h'
            rw [← put_rows] at h2
            (conv => whnf)
            refine ⟨_, rfl, fun c => (by cases c), fun _ => ?_⟩
            (conv => whnf)
            refine ⟨_, rfl, ?_⟩
            (conv => whnf)
            refine ⟨_, hL.hq, by rw [rowsK_len]; omega, ?_⟩
            exact ret h2
        · have hk' : ¬ en < t := of_decide_eq_false hk
          rw [if_neg hk'] at h'
          have h2 : P (outD .told) (mset m q (.dct (rowsK R))) := h'
          rw [hL.self] at h2
          exact ret h2
      · (conv => whnf)
        exact hJ
  | drop k =>
    (conv => whnf)
    refine ⟨_, hL.hp, _, rfl, ?_⟩
    (conv => whnf)
    refine ⟨_, rfl, fun c => (by cases c), fun _ => ?_⟩
    (conv => whnf)
    refine ⟨_, rfl, fun c => (by cases c), fun _ => ?_⟩
    (conv => whnf)
    refine ⟨_, hL.hq, ?_⟩
    (conv => whnf)
    rw [val_some]
    simp only [stepR] at h
    cases e : rowOf R k with
    | none =>
      rw [e] at h
      have h' : P (outD .nokey) (mset m q (.dct (rowsK R))) := h
      rw [hL.self] at h'
      have hn := rowOf_none.mp e
      refine ⟨_, rfl, fun _ => ?_, fun c => ?_⟩
      · (conv => whnf)
        exact ret h'
      · simp [hn] at c
    | some r =>
      obtain ⟨b, en, l⟩ := r
      rw [e] at h
      have hy : k ∈ keysR R := List.mem_map.mpr ⟨_, rowOf_some e, rfl⟩
      have h2 : P (outD .told) (mset m q (.dct (rowsK (delR R k)))) := h
      refine ⟨_, rfl, fun c => ?_, fun _ => ?_⟩
      · simp [hy] at c
      (conv => whnf)
      refine ⟨_, hL.hq, rwD (b, en, l), by rw [val_rows, e]; rfl, ?_⟩
      (conv => whnf)
      refine ⟨fun ρ' m' => Ret P (.tup [.str "told", .non]) m', ?_, fun ρ' m' hJ => ⟨ρ', m', VwS.refl, ?_⟩⟩
      · (conv => whnf)
        refine ⟨_, rfl, .inr ⟨fun c => (by cases c), fun _ => ?_⟩⟩
        (conv => whnf)
        refine ⟨_, rfl, fun _ => ?_, fun c => (by cases c)⟩
        (conv => whnf)
        refine ⟨_, hL.hq, ?_⟩
        (conv => whnf)
        refine ⟨_, hL.hq, rwD (b, en, l), by rw [val_rows, e]; rfl, ?_⟩
        rw [del_rows]
        exact ret h2
      · (conv => whnf)
        exact hJ

end My
namespace My
open PySem PySem.Spec L2 Nu
open PyProof.Rows hiding St
/-! ### _law_goes_be0d -/
def a__law_goes_be0d : ASp := fun ss m P _ => ∃ (p q b s : Addr) (room : List Int) (top wide : Int) (R : List Row) (d : Deed), ss = [.raw (.ref b), .raw (.ref p), deedD d] ∧ Both m p q b s room top wide R ∧ RowsOk room.length R ∧ ((1 ≤ room.length ∧ room.length ≤ 1000) ∧ R.length ≤ 999) ∧ fitD room.length d ∧ P (.bl true) (mB m s q (stepR room.length room R d).2)
theorem len__law_goes_be0d : ∀ ss m P Z, a__law_goes_be0d ss m P Z → ss.length = 3 := by
  rintro _ m P Z ⟨p, q, b, s, room, top, wide, R, d, rfl, _⟩; rfl
abbrev n__law_goes_be0d : List Str := ["_law_book", "_law_m", "_law_deed_here"]
theorem nd__law_goes_be0d : (n__law_goes_be0d).Nodup := by decide +kernel
def u__law_goes_be0d : SS :=
  (.cons (.ret (.and2 (.call a__law_alike_2e9a (.cons (.call a__law_told_0ead (.cons (.var 0) (.cons (.var 2) .nil))) (.cons (.call a__law_due_3a95 (.cons (.var 1) (.cons (.var 2) .nil))) .nil))) (.call a__law_stands_ede1 (.cons (.var 0) (.cons (.var 1) .nil)))))
  .nil)
theorem body__law_goes_be0d : ∀ (ss : List D) (m : MS) (P : NX) (Z : EZ), a__law_goes_be0d ss m P Z → WB u__law_goes_be0d (startR n__law_goes_be0d ss) m (bodyE P Z) := by
  rintro _ m P Z ⟨p, q, b, s, room, top, wide, R, d, rfl, hT, hR, ⟨hw, hlen⟩, hfit, h⟩
  have hR' := step_ok (room := room) hR hfit
  have hl' := step_len (w := room.length) (room := room) (R := R) (d := d)
  (conv => whnf)
  refine ⟨b, s, room, R, d, rfl, hT.hB, hR, ⟨hw, by omega⟩, hfit, ?_⟩
  (conv => whnf)
  refine ⟨p, q, room, top, wide, R, d, rfl, ⟨by rw [mset_ne hT.nps]; exact hT.hL.hp, by rw [mset_ne hT.nsq.symm]; exact hT.hL.hq, hT.hL.ne⟩, hR, ⟨hw, by omega⟩, hfit, ?_⟩
  (conv => whnf)
  refine ⟨_, _, rfl, alk_refl 6 (out_dpt (by omega)), ?_⟩
  (conv => whnf)
  refine ⟨_, rfl, .inr ⟨fun _ => ?_, fun c => (by cases c)⟩⟩
  (conv => whnf)
  exact ⟨p, q, b, s, room, top, wide, _, rfl, hT.mB, hR', ⟨hw, by omega⟩, ret h⟩

end My
namespace My
open PySem PySem.Spec L2 Nu
open PyProof.Rows hiding St
/-! ### _law_name_d25c -/
def a__law_name_d25c : ASp := fun ss m P _ => ∃ n : Int, ss = [.int n] ∧ P (.str (nmS n)) m
theorem len__law_name_d25c : ∀ ss m P Z, a__law_name_d25c ss m P Z → ss.length = 1 := by
  rintro _ m P Z ⟨n, rfl, _⟩; rfl
abbrev n__law_name_d25c : List Str := ["_law_n"]
theorem nd__law_name_d25c : (n__law_name_d25c).Nodup := by decide +kernel
def u__law_name_d25c : SS :=
  (.cons (.ret (.bop sAdd (.cons (.bop sIx (.cons (.cst (.str "abcdefghijklmnopqrstuvwxyz")) (.cons (.bop sMod (.cons (.var 0) (.cons (.cst (.int 26)) .nil))) .nil))) (.cons (.bop sIx (.cons (.bop sLst (.cons (.cst (.str "")) (.cons (.cst (.str "q")) (.cons (.cst (.str "wz")) (.cons (.cst (.str "longest")) .nil))))) (.cons (.bop sMod (.cons (.bop sFdv (.cons (.var 0) (.cons (.cst (.int 26)) .nil))) (.cons (.cst (.int 4)) .nil))) .nil))) .nil))))
  .nil)
theorem body__law_name_d25c : ∀ (ss : List D) (m : MS) (P : NX) (Z : EZ), a__law_name_d25c ss m P Z → WB u__law_name_d25c (startR n__law_name_d25c ss) m (bodyE P Z) := by
  rintro _ m P Z ⟨n, rfl, q⟩
  (conv => whnf)
  refine ⟨by decide, ?_⟩
  have e1 := emod_bd n (b := 26) (by decide)
  have e2 := emod_bd (n / 26) (b := 4) (by decide)
  (conv => whnf)
  have hl : ("abcdefghijklmnopqrstuvwxyz" : Str).cps.toList.length = 26 := by decide
  refine ⟨by decide, ("abcdefghijklmnopqrstuvwxyz" : Str).cps.toList.getD (n % 26).toNat 0, ?_, ?_⟩
  · refine atI_get e1.1 ?_
    rw [List.getD_eq_getElem?_getD, List.getElem?_eq_getElem (by omega)]; rfl
  (conv => whnf)
  refine .inl ?_
  (conv => whnf)
  refine ⟨by decide, by decide, ?_⟩
  (conv => whnf)
  refine ⟨.str ([("" : Str), "q", "wz", "longest"].getD (n / 26 % 4).toNat ""), ?_, ?_⟩
  · have hv : n / 26 % 4 = 0 ∨ n / 26 % 4 = 1 ∨ n / 26 % 4 = 2 ∨ n / 26 % 4 = 3 := by omega
    rcases hv with h | h | h | h <;> rw [h] <;> rfl
  (conv => whnf)
  refine ⟨?_, ret q⟩
  have hv : n / 26 % 4 = 0 ∨ n / 26 % 4 = 1 ∨ n / 26 % 4 = 2 ∨ n / 26 % 4 = 3 := by omega
  rcases hv with h | h | h | h <;> rw [h] <;> (show 1 + Str.length _ ≤ sizeLine; decide)

end My
namespace My
open PySem PySem.Spec L2 Nu
open PyProof.Rows hiding St
/-! ### eqs -/
/-! ### lists that are alike nothing -/
theorem sees_ints (m : MS) : ∀ E : List Int, Sees m (E.map .int) (E.map .int)
  | [] => .nil
  | a :: E => .cons (.int a) (sees_ints m E)
theorem sees_strs (m : MS) : ∀ E : List Str, Sees m (E.map .str) (E.map .str)
  | [] => .nil
  | a :: E => .cons (.str a) (sees_strs m E)
theorem pl_ints : ∀ E : List Int, plDs 39 (E.map .int) = true
  | [] => by unfold plDs; rfl
  | a :: E => by
    rw [List.map_cons]; unfold plDs
    rw [pl_ints E, Bool.and_true]; unfold plD; rfl
theorem plI (E : List Int) : plD 40 (.lst (E.map .int)) = true := by unfold plD; exact pl_ints E
theorem plN : plD 40 (.lst []) = true := by unfold plD plDs; rfl
theorem eqNilI (E : List Int) : eqD (.lst (E.map .int)) (.lst []) = decide (E = []) := by
  cases E with
  | nil => rfl
  | cons a E => rfl
theorem eqNilS (E : List Str) : eqD (.lst (E.map .str)) (.lst []) = decide (E = []) := by
  cases E with
  | nil => rfl
  | cons a E => rfl

end My
namespace My
open PySem PySem.Spec L2 Nu
open PyProof.Rows hiding St
/-! ### _law_time_e328 -/
def a__law_time_e328 : ASp := fun ss m P _ => ∃ (x p q : Addr) (room : List Int) (top wide : Int) (R : List Row), ss = [.raw (.ref x), .raw (.ref p)] ∧ Bx m x ∧ LawM m p q room top wide R ∧ R.length ≤ 1000 ∧ (0 ≤ wide ∧ wide < 2 ^ 50) ∧ ∀ v, 0 ≤ v → v ≤ wide → afterB x m (P (.int v))
theorem len__law_time_e328 : ∀ ss m P Z, a__law_time_e328 ss m P Z → ss.length = 2 := by
  rintro _ m P Z ⟨x, p, q, room, top, wide, R, rfl, _⟩; rfl
abbrev n__law_time_e328 : List Str := ["_law_box_here", "_law_m", "_law_edges_here"]
theorem nd__law_time_e328 : (n__law_time_e328).Nodup := by decide +kernel
def u__law_time_e328 : SS :=
  (.cons (.set 2 (.call a__law_edges (.cons (.var 1) .nil)))
  (.cons (.iff (.or2 (.bop sEq (.cons (.var 2) (.cons (.bop sLst .nil) .nil))) (.bop sEq (.cons (.call a__law_take_bafe (.cons (.var 0) (.cons (.cst (.int 2)) .nil))) (.cons (.cst (.int 0)) .nil)))) (.cons (.ret (.call a__law_number (.cons (.var 0) (.cons (.bop sIx (.cons (.var 1) (.cons (.cst (.str "wide")) .nil))) .nil))))
  .nil) .nil)
  (.cons (.ret (.bop sMin2 (.cons (.bop sIx (.cons (.var 1) (.cons (.cst (.str "wide")) .nil))) (.cons (.bop sMax2 (.cons (.cst (.int 0)) (.cons (.bop sSub (.cons (.bop sAdd (.cons (.bop sIx (.cons (.var 2) (.cons (.call a__law_take_bafe (.cons (.var 0) (.cons (.bop sLen (.cons (.var 2) .nil)) .nil))) .nil))) (.cons (.call a__law_take_bafe (.cons (.var 0) (.cons (.cst (.int 3)) .nil))) .nil))) (.cons (.cst (.int 1)) .nil))) .nil))) .nil))))
  .nil)))
theorem body__law_time_e328 : ∀ (ss : List D) (m : MS) (P : NX) (Z : EZ), a__law_time_e328 ss m P Z → WB u__law_time_e328 (startR n__law_time_e328 ss) m (bodyE P Z) := by
  rintro _ m P Z ⟨x, p, q, room, top, wide, R, rfl, hb, hL, hR, ⟨w0, w1⟩, k⟩
  (conv => whnf)
  refine ⟨p, q, room, top, wide, R, rfl, hL, hR, fun E hE hs => ?_⟩
  have hlen : E.length ≤ 2000 := by
    rw [hE.length_eq]
    have hl : ∀ R : List Row, (edgesI (rws R)).length = 2 * R.length := fun R => by
      induction R with
      | nil => rfl
      | cons a R ih => unfold edgesI rws at *; simp at *; omega
    rw [hl]; omega
  (conv => whnf)
  refine .inl ?_
  (conv => whnf)
  refine .inr ⟨_, _, .lst (sees_ints m E), .lst .nil, ⟨plI E, plN⟩, ?_⟩
  rw [eqNilI]
  (conv => whnf)
  refine ⟨_, rfl, .inr ⟨fun he => ?_, fun he => ?_⟩⟩
  · (conv => whnf)
    refine ⟨x, 2, rfl, hb, by decide, fun v v0 v1 a c k0 k1 k2 => ?_⟩
    (conv => whnf)
    refine ⟨_, rfl, fun hk => ?_, fun hk => ?_⟩
    · (conv => whnf)
      refine ⟨_, (hL.box hb).hp, _, rfl, ?_⟩
      (conv => whnf)
      refine ⟨x, wide, rfl, Bx.put k0 k1 k2, by omega, fun v v0 v1 a c k0 k1 k2 => ?_⟩
      rw [mset_mset]
      exact ret (k v v0 v1 _ _ k0 k1 k2)
    · (conv => whnf)
      refine ⟨_, (hL.box hb).hp, _, rfl, ?_⟩
      (conv => whnf)
      have hE0 : 0 < E.length := by
        cases E with
        | nil => simp at he
        | cons a E => simp
      rw [List.length_map]
      refine ⟨x, (E.length : Int), rfl, Bx.put k0 k1 k2, by omega, fun v v0 v1 a c k0 k1 k2 => ?_⟩
      rw [mset_mset]
      (conv => whnf)
      obtain ⟨d, hd, hm⟩ := atI_in (xs := E.map D.int) (v := v) v0 (by rw [List.length_map]; exact v1)
      obtain ⟨z, _, rfl⟩ := List.mem_map.mp hm
      refine ⟨_, hd, ?_⟩
      (conv => whnf)
      refine ⟨x, 3, rfl, Bx.put k0 k1 k2, by decide, fun v v0 v1 a c k0 k1 k2 => ?_⟩
      rw [mset_mset]
      (conv => whnf)
      refine ret (k _ ?_ ?_ _ _ k0 k1 k2)
      · split <;> (try split) <;> omega
      · split <;> (try split) <;> omega
  · (conv => whnf)
    refine ⟨_, rfl, fun _ => ?_, fun h => by cases h⟩
    (conv => whnf)
    refine ⟨_, hL.hp, _, rfl, ?_⟩
    (conv => whnf)
    refine ⟨x, wide, rfl, hb, by omega, fun v v0 v1 a c k0 k1 k2 => ?_⟩
    exact ret (k v v0 v1 _ _ k0 k1 k2)

end My
namespace My
open PySem PySem.Spec L2 Nu
open PyProof.Rows hiding St
/-! ### _law_span -/
def a__law_span : ASp := fun ss m P _ => ∃ (x p q : Addr) (room : List Int) (top wide : Int) (R : List Row), ss = [.raw (.ref x), .raw (.ref p)] ∧ Bx m x ∧ LawM m p q room top wide R ∧ R.length ≤ 1000 ∧ (0 ≤ wide ∧ wide < 2 ^ 50) ∧ ∀ b e, 0 ≤ b → b < e → e ≤ wide + 3 → afterB x m (P (.tup [.int b, .int e]))
theorem len__law_span : ∀ ss m P Z, a__law_span ss m P Z → ss.length = 2 := by
  rintro _ m P Z ⟨x, p, q, room, top, wide, R, rfl, _⟩; rfl
abbrev n__law_span : List Str := ["_law_box_here", "_law_m", "_law_one", "_law_other"]
theorem nd__law_span : (n__law_span).Nodup := by decide +kernel
def u__law_span : SS :=
  (.cons (.set 2 (.call a__law_time_e328 (.cons (.var 0) (.cons (.var 1) .nil))))
  (.cons (.set 3 (.call a__law_time_e328 (.cons (.var 0) (.cons (.var 1) .nil))))
  (.cons (.iff (.bop sEq (.cons (.var 2) (.cons (.var 3) .nil))) (.cons (.ret (.bop sTup (.cons (.bop sMax2 (.cons (.cst (.int 0)) (.cons (.bop sSub (.cons (.var 2) (.cons (.cst (.int 1)) .nil))) .nil))) (.cons (.bop sAdd (.cons (.bop sAdd (.cons (.bop sMax2 (.cons (.cst (.int 0)) (.cons (.bop sSub (.cons (.var 2) (.cons (.cst (.int 1)) .nil))) .nil))) (.cons (.cst (.int 1)) .nil))) (.cons (.call a__law_take_bafe (.cons (.var 0) (.cons (.cst (.int 3)) .nil))) .nil))) .nil))))
  .nil) .nil)
  (.cons (.ret (.bop sTup (.cons (.bop sMin2 (.cons (.var 2) (.cons (.var 3) .nil))) (.cons (.bop sMax2 (.cons (.var 2) (.cons (.var 3) .nil))) .nil))))
  .nil))))
theorem body__law_span : ∀ (ss : List D) (m : MS) (P : NX) (Z : EZ), a__law_span ss m P Z → WB u__law_span (startR n__law_span ss) m (bodyE P Z) := by
  rintro _ m P Z ⟨x, p, q, room, top, wide, R, rfl, hb, hL, hR, hw, k⟩
  (conv => whnf)
  refine ⟨x, p, q, room, top, wide, R, rfl, hb, hL, hR, hw, fun v v0 v1 a c k0 k1 k2 => ?_⟩
  (conv => whnf)
  refine ⟨x, p, q, room, top, wide, R, rfl, Bx.put k0 k1 k2, hL.box hb, hR, hw, fun u u0 u1 a c k0 k1 k2 => ?_⟩
  rw [mset_mset]
  (conv => whnf)
  refine ⟨_, rfl, fun hk => ?_, fun hk => ?_⟩
  · (conv => whnf)
    refine ⟨x, 3, rfl, Bx.put k0 k1 k2, by decide, fun z z0 z1 a c k0 k1 k2 => ?_⟩
    rw [mset_mset]
    (conv => whnf)
    refine ret (k _ _ ?_ ?_ ?_ _ _ k0 k1 k2)
    · split <;> omega
    · split <;> omega
    · split <;> omega
  · have hne : v ≠ u := of_decide_eq_false hk
    (conv => whnf)
    refine ret (k _ _ ?_ ?_ ?_ _ _ k0 k1 k2)
    · split <;> omega
    · split <;> split <;> omega
    · split <;> omega

end My
namespace My
open PySem PySem.Spec L2 Nu
open PyProof.Rows hiding St
/-! ### _law_wanted -/
def a__law_wanted : ASp := fun ss m P _ => ∃ (x p q : Addr) (room : List Int) (top wide : Int) (R : List Row), ss = [.raw (.ref x), .raw (.ref p)] ∧ Bx m x ∧ LawM m p q room top wide R ∧ (room.length ≤ 1000 ∧ 0 ≤ top ∧ top < 2 ^ 50) ∧ ∀ l : List Int, l.length = room.length → (∀ v ∈ l, 0 ≤ v ∧ v ≤ top) → afterB x m (P (amtD l))
theorem len__law_wanted : ∀ ss m P Z, a__law_wanted ss m P Z → ss.length = 2 := by
  rintro _ m P Z ⟨x, p, q, room, top, wide, R, rfl, _⟩; rfl
abbrev n__law_wanted : List Str := ["_law_box_here", "_law_m"]
theorem nd__law_wanted : (n__law_wanted).Nodup := by decide +kernel
def u__law_wanted : SS :=
  (.cons (.ret (.call a__law_amount_7792 (.cons (.var 0) (.cons (.bop sLen (.cons (.bop sIx (.cons (.var 1) (.cons (.cst (.str "room")) .nil))) .nil)) (.cons (.bop sFdv (.cons (.bop sIx (.cons (.var 1) (.cons (.cst (.str "top")) .nil))) (.cons (.bop sIx (.cons (.bop sLst (.cons (.cst (.int 1)) (.cons (.cst (.int 3)) (.cons (.cst (.int 12)) (.cons (.cst (.int 40)) .nil))))) (.cons (.call a__law_take_bafe (.cons (.var 0) (.cons (.cst (.int 4)) .nil))) .nil))) .nil))) .nil)))))
  .nil)
theorem body__law_wanted : ∀ (ss : List D) (m : MS) (P : NX) (Z : EZ), a__law_wanted ss m P Z → WB u__law_wanted (startR n__law_wanted ss) m (bodyE P Z) := by
  rintro _ m P Z ⟨x, p, q, room, top, wide, R, rfl, hb, hL, ⟨hr, t0, t1⟩, k⟩
  (conv => whnf)
  refine ⟨_, hL.hp, _, rfl, ?_⟩
  (conv => whnf)
  refine ⟨_, hL.hp, _, rfl, ?_⟩
  (conv => whnf)
  refine .inl ?_
  (conv => whnf)
  refine ⟨x, 4, rfl, hb, by decide, fun v v0 v1 a c k0 k1 k2 => ?_⟩
  (conv => whnf)
  obtain ⟨d, hd, hm⟩ := atI_in (xs := [D.int 1, .int 3, .int 12, .int 40]) (v := v) v0 v1
  obtain ⟨z, rfl, hz⟩ : ∃ t : Int, d = .int t ∧ (0 < t ∧ t < 50) := by
    simp only [List.mem_cons, List.not_mem_nil, or_false] at hm
    rcases hm with rfl | rfl | rfl | rfl
    · exact ⟨1, rfl, by decide⟩
    · exact ⟨3, rfl, by decide⟩
    · exact ⟨12, rfl, by decide⟩
    · exact ⟨40, rfl, by decide⟩
  refine ⟨_, hd, ?_⟩
  (conv => whnf)
  refine ⟨by omega, ?_⟩
  (conv => whnf)
  have h1 : 0 ≤ top / z := Int.ediv_nonneg t0 (by omega)
  have h2 : top / z ≤ top := Int.ediv_le_self z t0
  rw [List.length_map]
  refine ⟨x, room.length, top / z, rfl, Bx.put k0 k1 k2, by omega, fun l hl hv a c k0 k1 k2 => ?_⟩
  rw [mset_mset]
  exact ret (k l hl (fun v hm => by have := hv v hm; omega) _ _ k0 k1 k2)

end My
namespace My
open PySem PySem.Spec L2 Nu
open PyProof.Rows hiding St
/-! ### _law_deed_17e3 -/
def a__law_deed_17e3 : ASp := fun ss m P _ => ∃ (x p q : Addr) (room : List Int) (top wide : Int) (R : List Row) (ws : List Str) (many : Int), ss = [.raw (.ref x), .raw (.ref p), .lst (ws.map .str), .int many] ∧ Bx m x ∧ LawM m p q room top wide R ∧ RowsOk room.length R ∧
  ((1 ≤ room.length ∧ room.length ≤ 1000) ∧ R.length ≤ 1000 ∧ wordOk ws ∧ (0 < many ∧ many < 2 ^ 100) ∧ (0 ≤ top ∧ top < 2 ^ 50) ∧ (0 ≤ wide ∧ wide < 2 ^ 50)) ∧ ∀ d, DeedOk ws many room.length top wide d → afterB x m (P (deedD d))
theorem len__law_deed_17e3 : ∀ ss m P Z, a__law_deed_17e3 ss m P Z → ss.length = 4 := by
  rintro _ m P Z ⟨x, p, q, room, top, wide, R, ws, many, rfl, _⟩; rfl
theorem pl_strs : ∀ E : List Str, (∀ s ∈ E, PyData.strOk s = true) → plDs 39 (E.map .str) = true
  | [], _ => by unfold plDs; rfl
  | a :: E, h => by
    rw [List.map_cons]; unfold plDs
    rw [pl_strs E fun s hs => h s (List.mem_cons_of_mem _ hs), Bool.and_true]; unfold plD; exact h a (List.mem_cons_self ..)
abbrev n__law_deed_17e3 : List Str := ["_law_box_here", "_law_m", "_law_words", "_law_many", "_law_word_here", "_law_key", "_law_there"]
theorem nd__law_deed_17e3 : (n__law_deed_17e3).Nodup := by decide +kernel
def u__law_deed_17e3 : SS :=
  (.cons (.set 4 (.bop sIx (.cons (.var 2) (.cons (.call a__law_take_bafe (.cons (.var 0) (.cons (.bop sLen (.cons (.var 2) .nil)) .nil))) .nil))))
  (.cons (.set 5 (.call a__law_name_d25c (.cons (.call a__law_take_bafe (.cons (.var 0) (.cons (.var 3) .nil))) .nil)))
  (.cons (.set 6 (.bop sSorted (.cons (.bop sIx (.cons (.var 1) (.cons (.cst (.str "rows")) .nil))) .nil)))
  (.cons (.iff (.bop sEq (.cons (.var 4) (.cons (.cst (.str "put")) .nil))) (.cons (.ret (.bop sAdd (.cons (.bop sAdd (.cons (.bop sTup (.cons (.var 4) (.cons (.var 5) .nil))) (.cons (.call a__law_span (.cons (.var 0) (.cons (.var 1) .nil))) .nil))) (.cons (.bop sTup (.cons (.call a__law_wanted (.cons (.var 0) (.cons (.var 1) .nil))) .nil)) .nil))))
  .nil) .nil)
  (.cons (.iff (.bop sEq (.cons (.var 4) (.cons (.cst (.str "past")) .nil))) (.cons (.ret (.bop sTup (.cons (.var 4) (.cons (.call a__law_time_e328 (.cons (.var 0) (.cons (.var 1) .nil))) .nil))))
  .nil) .nil)
  (.cut (.iff (.and2 (.bop sNe (.cons (.var 6) (.cons (.bop sLst .nil) .nil))) (.bop (sCmp .gt) (.cons (.call a__law_take_bafe (.cons (.var 0) (.cons (.cst (.int 6)) .nil))) (.cons (.cst (.int 0)) .nil)))) (.cons (.set 5 (.bop sIx (.cons (.var 6) (.cons (.call a__law_take_bafe (.cons (.var 0) (.cons (.bop sLen (.cons (.var 6) .nil)) .nil))) .nil))))
  .nil) .nil)
  (.cons (.iff (.bop sEq (.cons (.var 4) (.cons (.cst (.str "drop")) .nil))) (.cons (.ret (.bop sTup (.cons (.var 4) (.cons (.var 5) .nil))))
  .nil) .nil)
  (.cons (.ret (.bop sTup (.cons (.var 4) (.cons (.var 5) (.cons (.call a__law_time_e328 (.cons (.var 0) (.cons (.var 1) .nil))) .nil)))))
  .nil))))))))
theorem body__law_deed_17e3 : ∀ (ss : List D) (m : MS) (P : NX) (Z : EZ), a__law_deed_17e3 ss m P Z → WB u__law_deed_17e3 (startR n__law_deed_17e3 ss) m (bodyE P Z) := by
  rintro _ m P Z ⟨x, p, q, room, top, wide, R, ws, many, rfl, hb, hL, hR, ⟨hw, hlen, ⟨hne, hwl, hwo⟩, hmany, htop, hwide⟩, h⟩
  have hws : 0 < ws.length := by
    cases ws with
    | nil => exact absurd rfl hne
    | cons a l => simp
  (conv => whnf)
  rw [List.length_map]
  refine ⟨x, (ws.length : Int), rfl, hb, by omega, fun v v0 v1 a c k0 k1 k2 => ?_⟩
  (conv => whnf)
  obtain ⟨dw, hd, hm⟩ := atI_in (xs := ws.map D.str) (v := v) v0 (by rw [List.length_map]; exact v1)
  obtain ⟨wd, hwd, rfl⟩ := List.mem_map.mp hm
  refine ⟨_, hd, ?_⟩
  (conv => whnf)
  refine ⟨x, many, rfl, Bx.put k0 k1 k2, ⟨hmany.1, by omega⟩, fun n n0 n1 a c k0 k1 k2 => ?_⟩
  rw [mset_mset]
  (conv => whnf)
  refine ⟨n, rfl, ?_⟩
  have hL' : ∀ a c, LawM (mset m x (bxc a c)) p q room top wide R := fun a c => hL.box hb
  (conv => whnf)
  refine ⟨_, (hL' _ _).hp, _, rfl, ?_⟩
  (conv => whnf)
  refine ⟨_, (hL' _ _).hq, .inl ⟨keysR R, rowsK_keys R, fun ys hp hs => .inl ?_⟩⟩
  have hyl : ys.length ≤ 1000 := by rw [hp.length_eq, List.length_map]; exact hlen
  have hyo : ∀ s ∈ ys, PyData.strOk s = true := fun s hs => by
    obtain ⟨r, hr, rfl⟩ := List.mem_map.mp (hp.subset hs)
    exact hR.key r hr
  have hplY : plD 40 (.lst (ys.map .str)) = true := by unfold plD; exact pl_strs ys hyo
  have hplN : plD 40 (.lst []) = true := by unfold plD plDs; rfl
  clear hd hm
  -- what is left for the three other words
  have rest : ∀ (wd : Str) (E : AEnds), (∀ k a c, 0 ≤ a → 0 ≤ c → c < 2147483647 → E.nx [some (.raw (.ref x)), some (.raw (.ref p)), some (.lst (ws.map .str)), some (.int many), some (.str wd), some (.str k), some (.lst (ys.map .str))] (mset m x (bxc a c))) → W1 (.iff (.and2 (.bop sNe (.cons (.var 6) (.cons (.bop sLst .nil) .nil))) (.bop (sCmp .gt) (.cons (.call a__law_take_bafe (.cons (.var 0) (.cons (.cst (.int 6)) .nil))) (.cons (.cst (.int 0)) .nil)))) (.cons (.set 5 (.bop sIx (.cons (.var 6) (.cons (.call a__law_take_bafe (.cons (.var 0) (.cons (.bop sLen (.cons (.var 6) .nil)) .nil))) .nil)))) .nil) .nil)
      [some (.raw (.ref x)), some (.raw (.ref p)), some (.lst (ws.map .str)), some (.int many), some (.str wd), some (.str (nmS n)), some (.lst (ys.map .str))] (mset m x (bxc a c))
      E := by
    intro wd E hE
    (conv => whnf)
    refine .inl ?_
    (conv => whnf)
    refine .inr ⟨_, _, .lst (sees_strs _ ys), .lst .nil, ⟨hplY, hplN⟩, ?_⟩
    rw [eqNilS]
    (conv => whnf)
    refine ⟨_, rfl, .inr ⟨fun he => ?_, fun he => ?_⟩⟩
    · have hy0 : 0 < ys.length := by
        cases ys with
        | nil => simp at he
        | cons a l => simp
      (conv => whnf)
      refine ⟨x, 6, rfl, Bx.put k0 k1 k2, by decide, fun v v0 v1 a c k0 k1 k2 => ?_⟩
      rw [mset_mset]
      (conv => whnf)
      refine ⟨_, rfl, fun _ => ?_, fun _ => ?_⟩
      · (conv => whnf)
        rw [List.length_map]
        refine ⟨x, (ys.length : Int), rfl, Bx.put k0 k1 k2, by omega, fun v v0 v1 a c k0 k1 k2 => ?_⟩
        rw [mset_mset]
        (conv => whnf)
        obtain ⟨dw, hd, hm⟩ := atI_in (xs := ys.map D.str) (v := v) v0 (by rw [List.length_map]; exact v1)
        obtain ⟨k, hk, rfl⟩ := List.mem_map.mp hm
        refine ⟨_, hd, ?_⟩
        exact hE k _ _ k0 k1 k2
      · exact hE (nmS n) _ _ k0 k1 k2
    · (conv => whnf)
      refine ⟨_, rfl, fun c => (by cases c), fun _ => ?_⟩
      exact hE (nmS n) _ _ k0 k1 k2
  have hone := hwo wd hwd
  (conv => whnf)
  rcases hone with rfl | rfl | rfl | rfl | rfl
  · refine ⟨_, rfl, fun _ => ?_, fun c => (by cases c)⟩
    (conv => whnf)
    refine ⟨x, p, q, room, top, wide, R, rfl, Bx.put k0 k1 k2, hL' _ _, by omega, hwide, fun b e b0 b1 b2 a c k0 k1 k2 => ?_⟩
    rw [mset_mset]
    (conv => whnf)
    refine ⟨by simp, ?_⟩
    (conv => whnf)
    refine ⟨x, p, q, room, top, wide, R, rfl, Bx.put k0 k1 k2, hL' _ _, ⟨hw.2, htop⟩, fun l hl hv a c k0 k1 k2 => ?_⟩
    rw [mset_mset]
    (conv => whnf)
    refine ⟨by simp, ?_⟩
    exact ret (h (.put (nmS n) b e l) ⟨hwd, ⟨n, n0, n1, rfl⟩, b0, b1, b2, hl, hv⟩ _ _ k0 k1 k2)
  · refine ⟨_, rfl, fun c => (by cases c), fun _ => ?_⟩
    (conv => whnf)
    refine ⟨_, rfl, fun c => (by cases c), fun _ => ?_⟩
    (conv => whnf)
    refine ⟨fun ρ' m' => ∃ k a c, ρ' = [some (.raw (.ref x)), some (.raw (.ref p)), some (.lst (ws.map .str)), some (.int many), some (.str "cut"), some (.str k), some (.lst (ys.map .str))] ∧ m' = mset m x (bxc a c) ∧ 0 ≤ a ∧ 0 ≤ c ∧ c < 2147483647, rest _ _ fun k a c k0 k1 k2 => ⟨k, a, c, rfl, rfl, k0, k1, k2⟩, ?_⟩
    rintro _ _ ⟨k, a, c, rfl, rfl, k0, k1, k2⟩
    refine ⟨_, _, VwS.refl, ?_⟩
    (conv => whnf)
    refine ⟨_, rfl, fun c => (by cases c), fun _ => ?_⟩
    (conv => whnf)
    refine ⟨x, p, q, room, top, wide, R, rfl, Bx.put k0 k1 k2, hL' _ _, by omega, hwide, fun v v0 v1 a c k0 k1 k2 => ?_⟩
    rw [mset_mset]
    exact ret (h (.cut k v) ⟨hwd, v0, v1⟩ _ _ k0 k1 k2)
  · refine ⟨_, rfl, fun c => (by cases c), fun _ => ?_⟩
    (conv => whnf)
    refine ⟨_, rfl, fun c => (by cases c), fun _ => ?_⟩
    (conv => whnf)
    refine ⟨fun ρ' m' => ∃ k a c, ρ' = [some (.raw (.ref x)), some (.raw (.ref p)), some (.lst (ws.map .str)), some (.int many), some (.str "stretch"), some (.str k), some (.lst (ys.map .str))] ∧ m' = mset m x (bxc a c) ∧ 0 ≤ a ∧ 0 ≤ c ∧ c < 2147483647, rest _ _ fun k a c k0 k1 k2 => ⟨k, a, c, rfl, rfl, k0, k1, k2⟩, ?_⟩
    rintro _ _ ⟨k, a, c, rfl, rfl, k0, k1, k2⟩
    refine ⟨_, _, VwS.refl, ?_⟩
    (conv => whnf)
    refine ⟨_, rfl, fun c => (by cases c), fun _ => ?_⟩
    (conv => whnf)
    refine ⟨x, p, q, room, top, wide, R, rfl, Bx.put k0 k1 k2, hL' _ _, by omega, hwide, fun v v0 v1 a c k0 k1 k2 => ?_⟩
    rw [mset_mset]
    exact ret (h (.stretch k v) ⟨hwd, v0, v1⟩ _ _ k0 k1 k2)
  · refine ⟨_, rfl, fun c => (by cases c), fun _ => ?_⟩
    (conv => whnf)
    refine ⟨_, rfl, fun c => (by cases c), fun _ => ?_⟩
    (conv => whnf)
    refine ⟨fun ρ' m' => ∃ k a c, ρ' = [some (.raw (.ref x)), some (.raw (.ref p)), some (.lst (ws.map .str)), some (.int many), some (.str "drop"), some (.str k), some (.lst (ys.map .str))] ∧ m' = mset m x (bxc a c) ∧ 0 ≤ a ∧ 0 ≤ c ∧ c < 2147483647, rest _ _ fun k a c k0 k1 k2 => ⟨k, a, c, rfl, rfl, k0, k1, k2⟩, ?_⟩
    rintro _ _ ⟨k, a, c, rfl, rfl, k0, k1, k2⟩
    refine ⟨_, _, VwS.refl, ?_⟩
    (conv => whnf)
    refine ⟨_, rfl, fun _ => ?_, fun c => (by cases c)⟩
    (conv => whnf)
    exact ret (h (.drop k) ⟨hwd, trivial⟩ _ _ k0 k1 k2)
  · refine ⟨_, rfl, fun c => (by cases c), fun _ => ?_⟩
    (conv => whnf)
    refine ⟨_, rfl, fun _ => ?_, fun c => (by cases c)⟩
    (conv => whnf)
    refine ⟨x, p, q, room, top, wide, R, rfl, Bx.put k0 k1 k2, hL' _ _, by omega, hwide, fun v v0 v1 a c k0 k1 k2 => ?_⟩
    rw [mset_mset]
    exact ret (h (.past v) ⟨hwd, v0, v1⟩ _ _ k0 k1 k2)

end My
namespace My
open PySem PySem.Spec L2 Nu
open PyProof.Rows hiding St
/-! ### _law_filled_77eb -/
/-- what puts of those names may make of the rows -/
structure Grown (w : Nat) (room : List Int) (R : List Row) (many : Int) (n : Nat) (R' : List Row) : Prop where
  ok : RowsOk w R'
  keys : ∀ k ∈ keysR R', k ∈ keysR R ∨ KeyIn many k
  len : R'.length ≤ R.length + n
  fit : FitR w room R → FitR w room R'
theorem Grown.step {w : Nat} {R R' : List Row} {many : Int} {n : Nat} {room : List Int} {ws : List Str} {top wide : Int} {d : Deed} (h : Grown w room R many n R') (hd : DeedOk ws many w top wide d) : Grown w room R many (n + 1) (stepR w room R' d).2 :=
  ⟨step_ok h.ok hd.fit, fun k hk => by
    rcases hd.keys hk with hk | hk
    · exact h.keys k hk
    · exact .inr hk, by
    have := step_len (w := w) (room := room) (R := R') (d := d)
    have := h.len
    omega, fun hf => fit_step h.ok hd.fit (h.fit hf)⟩
def a__law_filled_77eb : ASp := fun ss m P _ => ∃ (x p q b s : Addr) (room : List Int) (top wide : Int) (R : List Row) (turns : Nat) (many : Int), ss = [.raw (.ref b), .raw (.ref p), .raw (.ref x), .int turns, .int many] ∧ Bx m x ∧ Both m p q b s room top wide R ∧ RowsOk room.length R ∧
  ((1 ≤ room.length ∧ room.length ≤ 1000) ∧ turns ≤ 1000 ∧ (0 < many ∧ many < 2 ^ 100) ∧ (0 ≤ top ∧ top < 2 ^ 50) ∧ (0 ≤ wide ∧ wide < 2 ^ 50)) ∧ (∀ n R', n ≤ turns → Grown room.length room R many n R' → R'.length ≤ 900) ∧
  ∀ m' R', Both m' p q b s room top wide R' → Bx m' x → Grown room.length room R many turns R' → P (.bl true) m'
theorem len__law_filled_77eb : ∀ ss m P Z, a__law_filled_77eb ss m P Z → ss.length = 5 := by
  rintro _ m P Z ⟨x, p, q, b, s, room, top, wide, R, turns, many, rfl, _⟩; rfl
abbrev n__law_filled_77eb : List Str := ["_law_book", "_law_m", "_law_box_here", "_law_turns", "_law_many", "_law_turn"]
theorem nd__law_filled_77eb : (n__law_filled_77eb).Nodup := by decide +kernel
def u__law_filled_77eb : SS :=
  (.cons (.fo (.name 5) isRng (.cons (.var 3) .nil) (.cons (.iff (.bop sNot (.cons (.call a__law_goes_be0d (.cons (.var 0) (.cons (.var 1) (.cons (.call a__law_deed_17e3 (.cons (.var 2) (.cons (.var 1) (.cons (.bop sLst (.cons (.cst (.str "put")) .nil)) (.cons (.var 4) .nil))))) .nil)))) .nil)) (.cons (.ret (.cst (.bl false)))
  .nil) .nil)
  .nil))
  (.cons (.ret (.cst (.bl true)))
  .nil))
theorem body__law_filled_77eb : ∀ (ss : List D) (m : MS) (P : NX) (Z : EZ), a__law_filled_77eb ss m P Z → WB u__law_filled_77eb (startR n__law_filled_77eb ss) m (bodyE P Z) := by
  rintro _ m P Z ⟨x, p, q, b, s, room, top, wide, R, turns, many, rfl, hb, hT, hR, ⟨hw, ht, hmany, htop, hwide⟩, hroom, h⟩
  (conv => whnf)
  refine ⟨⟨by omega, by omega⟩, ?_⟩
  rw [Int.toNat_natCast]
  (conv => whnf)
  refine foN (List.range turns) (fun i => D.int (0 + (i : Nat))) (fun i ρ' m' => ∃ R' x5, Both m' p q b s room top wide R' ∧ Bx m' x ∧ Grown room.length room R many i R' ∧ ρ' = [some (.raw (.ref b)), some (.raw (.ref p)), some (.raw (.ref x)), some (.int turns), some (.int many), x5]) rfl ⟨R, _, hT, hb, ⟨hR, fun k hk => .inl hk, by omega, fun h => h⟩, rfl⟩ (fun i ρ' m' h => trivial) ?_ ?_
  · rintro i j ρ' m' hj ⟨R', x5, hT', hb', hg, rfl⟩
    have hi : i < turns := by have := (List.getElem?_eq_some_iff.mp hj).1; rwa [List.length_range] at this
    have hl := hroom i R' (by omega) hg
    (conv => whnf)
    refine .inl ?_
    (conv => whnf)
    refine ⟨x, p, q, room, top, wide, R', ["put"], many, rfl, hb', hT'.hL, hg.ok, ⟨hw, by omega, ⟨by simp, by simp, by simp⟩, hmany, htop, hwide⟩, fun d hd a c k0 k1 k2 => ?_⟩
    (conv => whnf)
    refine ⟨p, q, b, s, room, top, wide, R', d, rfl, hT'.box hb', hg.ok, ⟨hw, by omega⟩, hd.fit, ?_⟩
    (conv => whnf)
    refine ⟨_, rfl, fun c => (by cases c), fun _ => ?_⟩
    exact ⟨_, _, (hT'.box hb').mB, (hT'.box hb').bx (Bx.put k0 k1 k2), hg.step hd, rfl⟩
  · rintro ρ' m' ⟨R', x5, hT', hb', hg, rfl⟩
    rw [List.length_range] at hg
    (conv => whnf)
    exact ret (h m' R' hT' hb' hg)

end My
namespace My
open PySem PySem.Spec L2 Nu
open PyProof.Rows hiding St
/-! ### Book_next_edge -/
def a_Book_next_edge : ASp := fun ss m P _ => ∃ (b s : Addr) (room : List Int) (R : List Row) (t : Int), ss = [.raw (.ref b), .int t] ∧ BookM m b s room R ∧ R.length ≤ 1000 ∧ P (optD (nlT (edgesI (rws R)) t)) m
theorem len_Book_next_edge : ∀ ss m P Z, a_Book_next_edge ss m P Z → ss.length = 2 := by
  rintro _ m P Z ⟨b, s, room, R, t, rfl, _⟩; rfl
abbrev n_Book_next_edge : List Str := ["self", "time", "edges", "begin", "end", "amount", "edge"]
theorem nd_Book_next_edge : (n_Book_next_edge).Nodup := by decide +kernel
def u_Book_next_edge : SS :=
  (.cons (.set 2 (.bop sLst .nil))
  (.cons (.lock (.fo (.tup (.cons (.name 3) (.cons (.name 4) (.cons (.name 5) .nil)))) (isDct .vals) (.cons (.bop (sFld .written) (.cons (.var 0) .nil)) .nil) (.cons (.expr (.mth (kL sExtend) (.var 2) (.cons (.lc (.name 6) isVal (.cons (.bop sTup (.cons (.var 3) (.cons (.var 4) .nil))) .nil) (.cons (.bop (sCmp .gt) (.cons (.var 6) (.cons (.var 1) .nil))) .nil) (.var 6)) .nil)))
  .nil)))
  (.cons (.ret (.bop sMinD (.cons (.var 2) .nil)))
  .nil)))
theorem body_Book_next_edge : ∀ (ss : List D) (m : MS) (P : NX) (Z : EZ), a_Book_next_edge ss m P Z → WB u_Book_next_edge (startR n_Book_next_edge ss) m (bodyE P Z) := by
  rintro _ m P Z ⟨b, s, room, R, t, rfl, hB, hlen, k⟩
  (conv => whnf)
  refine .inr fun e he => ?_
  have hes : s ≠ e := by rintro rfl; rw [hB.hs] at he; cases he
  have hbe : b ≠ e := by rintro rfl; rw [hB.hb] at he; cases he
  have hB' : ∀ c, BookM (mset m e c) b s room R := fun c => ⟨by rw [mset_ne hbe]; exact hB.hb, by rw [mset_ne hes]; exact hB.hs⟩
  (conv => whnf)
  refine .inl ⟨s, _, (hB' _).hs, fun o vs => ?_⟩
  (conv => whnf)
  refine ⟨_, _, (hB' _).lk, ?_⟩
  (conv => whnf)
  refine ⟨o, vs, _, mset_same, ?_⟩
  (conv => whnf)
  refine foP R (fun r => rwD r.2) (fun i ρ' m' => m' = mset (mset m e (.lst (((edgesI (rws (R.take i))).filter fun u => decide (t < u)).map .int))) s (.lck o vs (rowsK R)) ∧ ∃ x3 x4 x5, ρ' = [some (.raw (.ref b)), some (.int t), some (.raw (.ref e)), x3, x4, x5, none]) (kds_vals R) ⟨rfl, _, _, _, rfl⟩ (fun i ρ' m' h => by rw [h.1]; exact mset_same) ?_ ?_
  · rintro i r ρ' m' hr ⟨rfl, x3, x4, x5, rfl⟩
    refine ⟨_, rfl, ?_⟩
    have hi := (List.getElem?_eq_some_iff.mp hr).1
    have hc : ∀ X, (mset (mset m e (.lst X)) s (.lck o vs (rowsK R))) e = some (.lst X) := fun X => by rw [mset_ne hes.symm, mset_same]
    (conv => whnf)
    refine ⟨_, hc _, ?_⟩
    (conv => whnf)
    refine lcN [r.2.1, r.2.2.1] D.int (fun u => decide (t < u)) D.int rfl (by simp) trivial ?_ (.inl ?_)
    · intro u hu
      refine ⟨fun Q h => ?_, fun _ Q h => ?_⟩
      · (conv => whnf)
        exact ⟨_, rfl, h⟩
      · (conv => whnf)
        exact h
    (conv => whnf)
    refine ⟨_, hc _, ?_⟩
    have hl1 : ((edgesI (rws (R.take i))).filter fun u => decide (t < u)).length ≤ 2000 := by
      refine Nat.le_trans (List.length_filter_le ..) ?_
      rw [edges_len, List.length_take]; omega
    have hl2 : ([r.2.1, r.2.2.1].filter fun u => decide (t < u)).length ≤ 2 := List.length_filter_le ..
    (conv => whnf)
    refine ⟨by rw [List.length_map, List.length_map]; omega, ?_⟩
    have ee : edgesI (rws (R.take (i + 1))) = edgesI (rws (R.take i)) ++ [r.2.1, r.2.2.1] := by
      rw [take_succ hr]; unfold edgesI rws; simp
    refine ⟨?_, some (.int r.2.1), some (.int r.2.2.1), some (amtD r.2.2.2), rfl⟩
    rw [ee, List.filter_append, List.map_append, mset_comm hes, mset_mset, mset_comm hes.symm]
  · rintro ρ' m' ⟨rfl, x2, x3, x4, rfl⟩
    refine ⟨mset_same, ?_⟩
    rw [mset_mset, List.take_length, mset_self (hB' _).hs]
    (conv => whnf)
    refine ⟨_, mset_same, _, rfl, fun hn => ?_, fun z hz hm => ?_⟩
    · (conv => whnf)
      rw [nlT_eq (nl_none hn)] at k
      exact retL (mle_new he) k
    · (conv => whnf)
      rw [nlT_eq (nl_some hz hm)] at k
      exact retL (mle_new he) k

end My
namespace My
open PySem PySem.Spec L2 Nu
open PyProof.Rows hiding St
/-! ### _law_next -/
def a__law_next : ASp := fun ss m P _ => ∃ (p q : Addr) (room : List Int) (top wide : Int) (R : List Row) (t : Int), ss = [.raw (.ref p), .int t] ∧ LawM m p q room top wide R ∧ R.length ≤ 1000 ∧ P (optD (nlT (edgesI (rws R)) t)) m
theorem len__law_next : ∀ ss m P Z, a__law_next ss m P Z → ss.length = 2 := by
  rintro _ m P Z ⟨p, q, room, top, wide, R, t, rfl, _⟩; rfl
abbrev n__law_next : List Str := ["_law_m", "_law_time_here", "_law_later", "_law_edge"]
theorem nd__law_next : (n__law_next).Nodup := by decide +kernel
def u__law_next : SS :=
  (.cons (.set 2 (.lc (.name 3) isVal (.cons (.call a__law_edges (.cons (.var 0) .nil)) .nil) (.cons (.bop (sCmp .gt) (.cons (.var 3) (.cons (.var 1) .nil))) .nil) (.var 3)))
  (.cons (.ret (.ite (.bop sNe (.cons (.var 2) (.cons (.bop sLst .nil) .nil))) (.bop sIx (.cons (.var 2) (.cons (.cst (.int 0)) .nil))) (.cst .non)))
  .nil))
theorem body__law_next : ∀ (ss : List D) (m : MS) (P : NX) (Z : EZ), a__law_next ss m P Z → WB u__law_next (startR n__law_next ss) m (bodyE P Z) := by
  rintro _ m P Z ⟨p, q, room, top, wide, R, t, rfl, hL, hlen, k⟩
  (conv => whnf)
  refine ⟨p, q, room, top, wide, R, rfl, hL, hlen, fun E hE hs => ?_⟩
  have hEl : E.length ≤ 2000 := by rw [hE.length_eq, edges_len]; omega
  (conv => whnf)
  refine lcN E D.int (fun u => decide (t < u)) D.int rfl (by omega) trivial ?_ (.inl ?_)
  · intro u hu
    refine ⟨fun Q h => ?_, fun _ Q h => ?_⟩
    · (conv => whnf)
      exact ⟨_, rfl, h⟩
    · (conv => whnf)
      exact h
  rw [nlT_eq (nl_head hE hs)] at k
  revert k
  generalize (E.filter fun u => decide (t < u)) = F
  intro k
  (conv => whnf)
  refine .inl ?_
  (conv => whnf)
  refine .inr ⟨_, _, .lst (sees_ints m F), .lst .nil, ⟨plI F, plN⟩, ?_⟩
  rw [eqNilI]
  (conv => whnf)
  cases F with
  | nil =>
    refine ⟨_, rfl, .inr ⟨fun h => (by cases h), fun _ => ?_⟩⟩
    (conv => whnf)
    exact ret k
  | cons z F =>
    refine ⟨_, rfl, .inr ⟨fun _ => ?_, fun h => (by cases h)⟩⟩
    (conv => whnf)
    refine ⟨.int z, atI_get (by decide) rfl, ?_⟩
    (conv => whnf)
    exact ret k

end My
namespace My
open PySem PySem.Spec L2 Nu
open PyProof.Rows hiding St
/-! ### Book_next_end -/
def a_Book_next_end : ASp := fun ss m P _ => ∃ (b s : Addr) (room : List Int) (R : List Row) (t : Int), ss = [.raw (.ref b), .int t] ∧ BookM m b s room R ∧ R.length ≤ 1000 ∧ P (optD (nlT (endsI (rws R)) t)) m
theorem len_Book_next_end : ∀ ss m P Z, a_Book_next_end ss m P Z → ss.length = 2 := by
  rintro _ m P Z ⟨b, s, room, R, t, rfl, _⟩; rfl
abbrev n_Book_next_end : List Str := ["self", "time", "row"]
theorem nd_Book_next_end : (n_Book_next_end).Nodup := by decide +kernel
def u_Book_next_end : SS :=
  (.cons (.ret (.bop sMinD (.cons (.lock (.lc (.name 2) (isDct .vals) (.cons (.bop (sFld .written) (.cons (.var 0) .nil)) .nil) (.cons (.bop (sCmp .gt) (.cons (.bop sIx (.cons (.var 2) (.cons (.cst (.int 1)) .nil))) (.cons (.var 1) .nil))) .nil) (.bop sIx (.cons (.var 2) (.cons (.cst (.int 1)) .nil))))) .nil)))
  .nil)
theorem body_Book_next_end : ∀ (ss : List D) (m : MS) (P : NX) (Z : EZ), a_Book_next_end ss m P Z → WB u_Book_next_end (startR n_Book_next_end ss) m (bodyE P Z) := by
  rintro _ m P Z ⟨b, s, room, R, t, rfl, hB, hlen, k⟩
  (conv => whnf)
  refine .inl ⟨s, _, hB.hs, fun o vs => ?_⟩
  (conv => whnf)
  refine ⟨_, _, hB.lk, ?_⟩
  (conv => whnf)
  refine ⟨o, vs, _, mset_same, ?_⟩
  (conv => whnf)
  refine lcN R (fun r => rwD r.2) (fun r => decide (t < r.2.2.1)) (fun r => .int r.2.2.1) (kds_vals R) (by omega) mset_same ?_ (.inl ?_)
  · intro r hr
    refine ⟨fun Q h => ?_, fun hp Q h => ?_⟩
    · (conv => whnf)
      refine ⟨_, rfl, ?_⟩
      (conv => whnf)
      exact ⟨_, rfl, h⟩
    · (conv => whnf)
      refine ⟨_, rfl, ?_⟩
      (conv => whnf)
      exact h
  refine ⟨mset_same, ?_⟩
  rw [mset_back hB.hs]
  have e1 : (R.filter fun r => decide (t < r.2.2.1)).map (fun r => (.int r.2.2.1 : D)) = ((endsI (rws R)).filter fun u => decide (t < u)).map .int := by
    rw [endsI, rws, List.map_map, List.filter_map, List.map_map]; rfl
  rw [e1]
  (conv => whnf)
  refine ⟨_, rfl, fun hn => ?_, fun z hz hm => ?_⟩
  · (conv => whnf)
    rw [nlT_eq (nl_none hn)] at k
    exact ret k
  · (conv => whnf)
    rw [nlT_eq (nl_some hz hm)] at k
    exact ret k

end My
namespace My
open PySem PySem.Spec L2 Nu
open PyProof.Rows hiding St
/-! ### amount_least -/
def a_amount_least : ASp := fun ss m P _ => ∃ a b : List Int, ss = [amtD a, amtD b] ∧ a.length ≤ 1000 ∧ P (amtD (List.zipWith (fun x y => if y < x then y else x) a b)) m
theorem len_amount_least : ∀ ss m P Z, a_amount_least ss m P Z → ss.length = 2 := by
  rintro _ m P Z ⟨a, b, rfl, _⟩; rfl
abbrev n_amount_least : List Str := ["one", "other", "a", "b"]
theorem nd_amount_least : (n_amount_least).Nodup := by decide +kernel
def u_amount_least : SS :=
  (.cons (.ret (.bop sToTup (.cons (.lc (.tup (.cons (.name 2) (.cons (.name 3) .nil))) isZip (.cons (.var 0) (.cons (.var 1) .nil)) .nil (.bop sMin2 (.cons (.var 2) (.cons (.var 3) .nil)))) .nil)))
  .nil)
theorem body_amount_least : ∀ (ss : List D) (m : MS) (P : NX) (Z : EZ), a_amount_least ss m P Z → WB u_amount_least (startR n_amount_least ss) m (bodyE P Z) := by
  rintro _ m P Z ⟨a, b, rfl, hl, q⟩
  (conv => whnf)
  refine lcM (a.zip b) (fun p => D.tup [.int p.1, .int p.2]) (fun p => .int (if p.2 < p.1 then p.2 else p.1)) zipD_map (by rw [List.length_zip]; omega) ⟨trivial, trivial⟩ (fun x hx => ⟨_, rfl, fun R r => by (conv => whnf); exact r⟩) (.inl ?_)
  (conv => whnf)
  refine ret ?_
  rw [zipW_map (f := fun x y => if y < x then y else x) a b]; exact q

end My
namespace My
open PySem PySem.Spec L2 Nu
open PyProof.Rows hiding St
/-! ### amount_less -/
def a_amount_less : ASp := fun ss m P _ => ∃ a b : List Int, ss = [amtD a, amtD b] ∧ a.length ≤ 1000 ∧ P (amtD (List.zipWith (· - ·) a b)) m
theorem len_amount_less : ∀ ss m P Z, a_amount_less ss m P Z → ss.length = 2 := by
  rintro _ m P Z ⟨a, b, rfl, _⟩; rfl
abbrev n_amount_less : List Str := ["one", "other", "a", "b"]
theorem nd_amount_less : (n_amount_less).Nodup := by decide +kernel
def u_amount_less : SS :=
  (.cons (.ret (.bop sToTup (.cons (.lc (.tup (.cons (.name 2) (.cons (.name 3) .nil))) isZip (.cons (.var 0) (.cons (.var 1) .nil)) .nil (.bop sSub (.cons (.var 2) (.cons (.var 3) .nil)))) .nil)))
  .nil)
theorem body_amount_less : ∀ (ss : List D) (m : MS) (P : NX) (Z : EZ), a_amount_less ss m P Z → WB u_amount_less (startR n_amount_less ss) m (bodyE P Z) := by
  rintro _ m P Z ⟨a, b, rfl, hl, q⟩
  (conv => whnf)
  refine lcM (a.zip b) (fun p => D.tup [.int p.1, .int p.2]) (fun p => .int (p.1 - p.2)) zipD_map (by rw [List.length_zip]; omega) ⟨trivial, trivial⟩ (fun x hx => ⟨_, rfl, fun R r => by (conv => whnf); exact r⟩) (.inl ?_)
  (conv => whnf)
  refine ret ?_
  rw [zipW_map (f := (· - ·)) a b]; exact q

end My
namespace My
open PySem PySem.Spec L2 Nu
open PyProof.Rows hiding St
/-! ### Book_left_over -/
def a_Book_left_over : ASp := fun ss m P _ => ∃ (b0 s : Addr) (room : List Int) (R : List Row) (b e : Int), ss = [.raw (.ref b0), .int b, .int e] ∧ BookM m b0 s room R ∧ RowsOk room.length R ∧ ((1 ≤ room.length ∧ room.length ≤ 1000) ∧ R.length ≤ 1000 ∧ b < e) ∧ P (amtD (lfT room.length room (rws R) b e)) m
theorem len_Book_left_over : ∀ ss m P Z, a_Book_left_over ss m P Z → ss.length = 3 := by
  rintro _ m P Z ⟨b0, s, room, R, b, e, rfl, _⟩; rfl
abbrev n_Book_left_over : List Str := ["self", "begin", "end", "left", "time"]
theorem nd_Book_left_over : (n_Book_left_over).Nodup := by decide +kernel
def u_Book_left_over : SS :=
  (.cons (.set 3 (.bop (sFld .room) (.cons (.var 0) .nil)))
  (.cons (.fo (.name 4) isVal (.cons (.meth .Book a_Book_rises_in (.var 0) (.cons (.var 1) (.cons (.var 2) .nil))) .nil) (.cons (.set 3 (.call a_amount_least (.cons (.var 3) (.cons (.call a_amount_less (.cons (.bop (sFld .room) (.cons (.var 0) .nil)) (.cons (.meth .Book a_Book_load_at (.var 0) (.cons (.var 4) .nil)) .nil))) .nil))))
  .nil))
  (.cons (.ret (.var 3))
  .nil)))
theorem body_Book_left_over : ∀ (ss : List D) (m : MS) (P : NX) (Z : EZ), a_Book_left_over ss m P Z → WB u_Book_left_over (startR n_Book_left_over ss) m (bodyE P Z) := by
  rintro _ m P Z ⟨b0, s, room, R, b, e, rfl, hB, hR, ⟨hw, hlen, hbe⟩, k⟩
  (conv => whnf)
  refine ⟨_, _, hB.hb, ?_⟩
  (conv => whnf)
  refine ⟨_, _, rfl, hB.hb, ?_⟩
  (conv => whnf)
  refine ⟨b0, s, room, R, b, e, rfl, hB, ⟨hbe, hlen⟩, fun A T hA hAl => ?_⟩
  (conv => whnf)
  refine foN A D.int (fun i ρ' m' => m' = m ∧ ∃ a, LP room.length room (rws R) (A.take i) a ∧ ∃ x4, ρ' = [some (.raw (.ref b0)), some (.int b), some (.int e), some (amtD a), x4]) rfl ⟨rfl, room, LP.nil rfl, _, rfl⟩ (fun i ρ' m' h => trivial) ?_ ?_
  · rintro i t ρ' m' ht ⟨rfl, a, hu, x4, rfl⟩
    (conv => whnf)
    refine ⟨_, _, hB.hb, ?_⟩
    (conv => whnf)
    refine ⟨_, _, rfl, hB.hb, ?_⟩
    (conv => whnf)
    refine ⟨b0, s, room, R, t, rfl, hB, hR, hw, ?_⟩
    (conv => whnf)
    refine ⟨room, loadL room.length (rws R) t, rfl, hw.2, ?_⟩
    (conv => whnf)
    refine ⟨a, List.zipWith (· - ·) room (loadL room.length (rws R) t), rfl, by rw [hu.1]; exact hw.2, ?_⟩
    refine ⟨rfl, _, ?_, _, rfl⟩
    rw [take_succ ht]
    have hz : (List.zipWith (· - ·) room (loadL room.length (rws R) t)).length = room.length := by rw [List.length_zipWith, loadL_len]; omega
    refine hu.step ?_ fun i hi => ?_
    · rw [List.length_zipWith, hz, hu.1]; omega
    · rw [zipWith_getD hu.1 hz hi, zipWith_getD rfl loadL_len hi, loadL_get hi]; rfl
  · rintro ρ' m' ⟨rfl, a, hu, x4, rfl⟩
    rw [List.take_length] at hu
    (conv => whnf)
    have := lfT_eq (hu.done (fun r hr => by obtain ⟨y, hy, rfl⟩ := List.mem_map.mp hr; exact hR.pos y hy) T)
    rw [this] at k
    exact ret k

end My
namespace My
open PySem PySem.Spec L2 Nu
open PyProof.Rows hiding St
/-! ### _law_left_c244 -/
def a__law_left_c244 : ASp := fun ss m P _ => ∃ (p q : Addr) (room : List Int) (top wide : Int) (R : List Row) (b e : Int), ss = [.raw (.ref p), .int b, .int e] ∧ LawM m p q room top wide R ∧ RowsOk room.length R ∧ ((1 ≤ room.length ∧ room.length ≤ 1000) ∧ R.length ≤ 1000 ∧ b < e) ∧ P (amtD (lfT room.length room (rws R) b e)) m
theorem len__law_left_c244 : ∀ ss m P Z, a__law_left_c244 ss m P Z → ss.length = 3 := by
  rintro _ m P Z ⟨p, q, room, top, wide, R, b, e, rfl, _⟩; rfl
theorem min3_get {w : Nat} {a r l : List Int} (ha : a.length = w) (hr : r.length = w) (hl : l.length = w) {i : Nat} (hi : i < w) : (((a.zip r).zip l).map fun p => if p.1.2 - p.2 < p.1.1 then p.1.2 - p.2 else p.1.1).getD i 0 = minI (a.getD i 0) (r.getD i 0 - l.getD i 0) := by
  rw [List.getD_eq_getElem?_getD, List.getD_eq_getElem?_getD, List.getD_eq_getElem?_getD, List.getD_eq_getElem?_getD, List.getElem?_map, List.getElem?_eq_getElem (show i < ((a.zip r).zip l).length by rw [List.length_zip, List.length_zip]; omega), List.getElem?_eq_getElem (show i < a.length by omega), List.getElem?_eq_getElem (show i < r.length by omega), List.getElem?_eq_getElem (show i < l.length by omega)]
  rw [List.getElem_zip, List.getElem_zip]
  rfl
abbrev n__law_left_c244 : List Str := ["_law_m", "_law_begin", "_law_end", "_law_left_here", "_law_time_here", "_law_edge", "_law_a", "_law_b", "_law_c"]
theorem nd__law_left_c244 : (n__law_left_c244).Nodup := by decide +kernel
def u__law_left_c244 : SS :=
  (.cons (.set 3 (.bop sToLst (.cons (.bop sIx (.cons (.var 0) (.cons (.cst (.str "room")) .nil))) .nil)))
  (.cons (.fo (.name 4) isVal (.cons (.bop sAdd (.cons (.bop sLst (.cons (.var 1) .nil)) (.cons (.lc (.name 5) isVal (.cons (.call a__law_edges (.cons (.var 0) .nil)) .nil) (.cons (.chain .lt .lt (.var 1) (.var 5) (.var 2)) .nil) (.var 5)) .nil))) .nil) (.cons (.set 3 (.lc (.tup (.cons (.name 6) (.cons (.name 7) (.cons (.name 8) .nil)))) isZip (.cons (.var 3) (.cons (.bop sIx (.cons (.var 0) (.cons (.cst (.str "room")) .nil))) (.cons (.call a__law_load_eb54 (.cons (.var 0) (.cons (.var 4) .nil))) .nil))) .nil (.bop sMin2 (.cons (.var 6) (.cons (.bop sSub (.cons (.var 7) (.cons (.var 8) .nil))) .nil)))))
  .nil))
  (.cons (.ret (.bop sToTup (.cons (.var 3) .nil)))
  .nil)))
theorem body__law_left_c244 : ∀ (ss : List D) (m : MS) (P : NX) (Z : EZ), a__law_left_c244 ss m P Z → WB u__law_left_c244 (startR n__law_left_c244 ss) m (bodyE P Z) := by
  rintro _ m P Z ⟨p, q, room, top, wide, R, b, e, rfl, hL, hR, ⟨hw, hlen, hbe⟩, k⟩
  (conv => whnf)
  refine ⟨_, hL.hp, _, rfl, ?_⟩
  (conv => whnf)
  refine .inl ?_
  (conv => whnf)
  refine .inl ?_
  (conv => whnf)
  refine ⟨p, q, room, top, wide, R, rfl, hL, hlen, fun E hE hs => ?_⟩
  have hEl : E.length ≤ 2000 := by rw [hE.length_eq, edges_len]; omega
  (conv => whnf)
  refine lcN E D.int (fun t => decide (b < t) && decide (t < e)) D.int rfl (by omega) trivial ?_ (.inl ?_)
  · intro t ht
    refine ⟨fun Q h => ?_, fun _ Q h => ?_⟩
    · (conv => whnf)
      refine ⟨_, _, _, rfl, rfl, ⟨rfl, rfl⟩, ?_⟩
      exact ⟨_, rfl, h⟩
    · (conv => whnf)
      exact h
  have hEf : (E.filter fun t => decide (b < t) && decide (t < e)).length ≤ 2000 := Nat.le_trans (List.length_filter_le ..) hEl
  (conv => whnf)
  refine ⟨by rw [List.length_map]; simp; omega, .inl ?_⟩
  (conv => whnf)
  have T := law_times (R := R) hbe hE
  refine foN (b :: E.filter fun t => decide (b < t) && decide (t < e)) D.int (fun i ρ' m' => m' = m ∧ ∃ a, LP room.length room (rws R) ((b :: E.filter fun t => decide (b < t) && decide (t < e)).take i) a ∧ ∃ x4, ρ' = [some (.raw (.ref p)), some (.int b), some (.int e), some (.lst (a.map .int)), x4, none, none, none, none]) rfl ⟨rfl, room, LP.nil rfl, _, rfl⟩ (fun i ρ' m' h => trivial) ?_ ?_
  · rintro i t ρ' m' ht ⟨rfl, a, hu, x4, rfl⟩
    (conv => whnf)
    refine ⟨_, hL.hp, _, rfl, ?_⟩
    (conv => whnf)
    refine ⟨p, q, room, top, wide, R, t, rfl, hL, hR, hw, ?_⟩
    (conv => whnf)
    refine lcM ((a.zip room).zip (loadL room.length (rws R) t)) (fun p => D.tup [.int p.1.1, .int p.1.2, .int p.2]) (fun p => .int (if p.1.2 - p.2 < p.1.1 then p.1.2 - p.2 else p.1.1)) zip3_map (by rw [List.length_zip, List.length_zip]; omega) ⟨trivial, trivial, trivial⟩ (fun x hx => ⟨_, rfl, fun R r => by ((conv => whnf)); exact r⟩) (.inl ?_)
    (conv => whnf)
    refine ⟨rfl, ((a.zip room).zip (loadL room.length (rws R) t)).map fun p => if p.1.2 - p.2 < p.1.1 then p.1.2 - p.2 else p.1.1, ?_, _, by rw [List.map_map]; rfl⟩
    rw [take_succ ht]
    refine hu.step ?_ fun i hi => ?_
    · rw [List.length_map, List.length_zip, List.length_zip, loadL_len, hu.1]; omega
    · rw [min3_get hu.1 rfl loadL_len hi, loadL_get hi]
  · rintro ρ' m' ⟨rfl, a, hu, x4, rfl⟩
    rw [List.take_length] at hu
    (conv => whnf)
    have := lfT_eq (hu.done (fun r hr => by obtain ⟨y, hy, rfl⟩ := List.mem_map.mp hr; exact hR.pos y hy) T)
    rw [this] at k
    exact ret k

end My
namespace My
open PySem PySem.Spec L2 Nu
open PyProof.Rows hiding St
/-! ### _law_asked_7df9 -/
def a__law_asked_7df9 : ASp := fun ss m P _ => ∃ (x p q b s : Addr) (room : List Int) (top wide : Int) (R : List Row) (turns : Nat), ss = [.raw (.ref b), .raw (.ref p), .raw (.ref x), .int turns] ∧ Bx m x ∧ Both m p q b s room top wide R ∧ RowsOk room.length R ∧
  ((1 ≤ room.length ∧ room.length ≤ 1000) ∧ turns ≤ 1000 ∧ R.length ≤ 1000 ∧ (0 ≤ wide ∧ wide < 2 ^ 50)) ∧ afterB x m (P (.bl true))
theorem len__law_asked_7df9 : ∀ ss m P Z, a__law_asked_7df9 ss m P Z → ss.length = 4 := by
  rintro _ m P Z ⟨x, p, q, b, s, room, top, wide, R, turns, rfl, _⟩; rfl
abbrev n__law_asked_7df9 : List Str := ["_law_book", "_law_m", "_law_box_here", "_law_turns", "_law_turn", "_law_time_here", "_law_begin", "_law_end", "_law_ends", "_law_row"]
theorem nd__law_asked_7df9 : (n__law_asked_7df9).Nodup := by decide +kernel
def u__law_asked_7df9 : SS :=
  (.cons (.fo (.name 4) isRng (.cons (.var 3) .nil) (.cons (.set 5 (.call a__law_time_e328 (.cons (.var 2) (.cons (.var 1) .nil))))
  (.cons (.unp (.cons (.name 6) (.cons (.name 7) .nil)) (.call a__law_span (.cons (.var 2) (.cons (.var 1) .nil))))
  (.cons (.iff (.bop sNot (.cons (.call a__law_alike_2e9a (.cons (.meth .Book a_Book_load_at (.var 0) (.cons (.var 5) .nil)) (.cons (.call a__law_load_eb54 (.cons (.var 1) (.cons (.var 5) .nil))) .nil))) .nil)) (.cons (.ret (.cst (.bl false)))
  .nil) .nil)
  (.cons (.iff (.bop sNot (.cons (.call a__law_alike_2e9a (.cons (.meth .Book a_Book_next_edge (.var 0) (.cons (.var 5) .nil)) (.cons (.call a__law_next (.cons (.var 1) (.cons (.var 5) .nil))) .nil))) .nil)) (.cons (.ret (.cst (.bl false)))
  .nil) .nil)
  (.cons (.set 8 (.bop sSorted (.cons (.lock (.lc (.name 9) (isDct .vals) (.cons (.bop sIx (.cons (.var 1) (.cons (.cst (.str "rows")) .nil))) .nil) (.cons (.bop (sCmp .gt) (.cons (.bop sIx (.cons (.var 9) (.cons (.cst (.int 1)) .nil))) (.cons (.var 5) .nil))) .nil) (.bop sIx (.cons (.var 9) (.cons (.cst (.int 1)) .nil))))) .nil)))
  (.cons (.iff (.bop sNot (.cons (.call a__law_alike_2e9a (.cons (.meth .Book a_Book_next_end (.var 0) (.cons (.var 5) .nil)) (.cons (.ite (.bop sNe (.cons (.var 8) (.cons (.bop sLst .nil) .nil))) (.bop sIx (.cons (.var 8) (.cons (.cst (.int 0)) .nil))) (.cst .non)) .nil))) .nil)) (.cons (.ret (.cst (.bl false)))
  .nil) .nil)
  (.cons (.iff (.bop sNot (.cons (.call a__law_alike_2e9a (.cons (.meth .Book a_Book_left_over (.var 0) (.cons (.var 6) (.cons (.var 7) .nil))) (.cons (.call a__law_left_c244 (.cons (.var 1) (.cons (.var 6) (.cons (.var 7) .nil)))) .nil))) .nil)) (.cons (.ret (.cst (.bl false)))
  .nil) .nil)
  .nil))))))))
  (.cons (.ret (.cst (.bl true)))
  .nil))
theorem body__law_asked_7df9 : ∀ (ss : List D) (m : MS) (P : NX) (Z : EZ), a__law_asked_7df9 ss m P Z → WB u__law_asked_7df9 (startR n__law_asked_7df9 ss) m (bodyE P Z) := by
  rintro _ m P Z ⟨x, p, q, b, s, room, top, wide, R, turns, rfl, hb, hT, hR, ⟨hw, ht, hlen, hwide⟩, h⟩
  obtain ⟨a0, c0, hx0, h00, h01, h02⟩ := hb
  have hb : Bx m x := ⟨a0, c0, hx0, h00, h01, h02⟩
  (conv => whnf)
  refine ⟨⟨by omega, by omega⟩, ?_⟩
  rw [Int.toNat_natCast]
  (conv => whnf)
  refine foN (List.range turns) (fun i => D.int (0 + (i : Nat))) (fun i ρ' m' => ∃ a c x4 x5 x6 x7 x8, m' = mset m x (bxc a c) ∧ 0 ≤ a ∧ 0 ≤ c ∧ c < 2147483647 ∧ ρ' = [some (.raw (.ref b)), some (.raw (.ref p)), some (.raw (.ref x)), some (.int turns), x4, x5, x6, x7, x8, none]) rfl ⟨a0, c0, _, _, _, _, _, (mset_self hx0).symm, h00, h01, h02, rfl⟩ (fun i ρ' m' h => trivial) ?_ ?_
  · rintro i j ρ' m' hj ⟨a, c, x4, x5, x6, x7, x8, rfl, k0, k1, k2, rfl⟩
    (conv => whnf)
    refine ⟨x, p, q, room, top, wide, R, rfl, Bx.put k0 k1 k2, (hT.box hb).hL, hlen, hwide, fun t t0 t1 a c k0 k1 k2 => ?_⟩
    rw [mset_mset]
    (conv => whnf)
    refine ⟨x, p, q, room, top, wide, R, rfl, Bx.put k0 k1 k2, (hT.box hb).hL, hlen, hwide, fun b1 e1 e10 e11 e12 a c k0 k1 k2 => ?_⟩
    rw [mset_mset]
    have hT' := hT.box (c := bxc a c) hb
    (conv => whnf)
    refine ⟨_, _, rfl, hT'.hB.hb, ?_⟩
    (conv => whnf)
    refine ⟨b, s, room, R, t, rfl, hT'.hB, hR, hw, ?_⟩
    (conv => whnf)
    refine ⟨p, q, room, top, wide, R, t, rfl, hT'.hL, hR, hw, ?_⟩
    (conv => whnf)
    refine ⟨_, _, rfl, alk_refl 6 (amt_dpt (by rw [loadL_len]; exact hw.2)), ?_⟩
    (conv => whnf)
    refine ⟨_, rfl, fun c => (by cases c), fun _ => ?_⟩
    (conv => whnf)
    refine ⟨_, _, rfl, hT'.hB.hb, ?_⟩
    (conv => whnf)
    refine ⟨b, s, room, R, t, rfl, hT'.hB, hlen, ?_⟩
    (conv => whnf)
    refine ⟨p, q, room, top, wide, R, t, rfl, hT'.hL, hlen, ?_⟩
    (conv => whnf)
    refine ⟨_, _, rfl, alk_refl 6 (opt_dpt _), ?_⟩
    (conv => whnf)
    refine ⟨_, rfl, fun c => (by cases c), fun _ => ?_⟩
    (conv => whnf)
    refine .inl ⟨q, _, hT'.hL.hq, fun o vs => ?_⟩
    (conv => whnf)
    refine ⟨_, hT'.hL.lk, _, rfl, ?_⟩
    (conv => whnf)
    refine ⟨o, vs, _, mset_same, ?_⟩
    (conv => whnf)
    refine lcN R (fun r => rwD r.2) (fun r => decide (t < r.2.2.1)) (fun r => .int r.2.2.1) (kds_vals R) (by omega) mset_same ?_ (.inl ?_)
    · intro r hr
      refine ⟨fun Q h => ?_, fun hp Q h => ?_⟩
      · (conv => whnf)
        refine ⟨_, rfl, ?_⟩
        (conv => whnf)
        exact ⟨_, rfl, h⟩
      · (conv => whnf)
        refine ⟨_, rfl, ?_⟩
        (conv => whnf)
        exact h
    refine ⟨mset_same, ?_⟩
    rw [mset_back hT'.hL.hq]
    have ee : (R.filter fun r => decide (t < r.2.2.1)).map (fun r => (.int r.2.2.1 : D)) = ((endsI (rws R)).filter fun u => decide (t < u)).map .int := by
      rw [endsI, rws, List.map_map, List.filter_map, List.map_map]; rfl
    rw [ee]
    (conv => whnf)
    refine .inl ⟨_, rfl, fun F hF hs => .inl ?_⟩
    have hnl : nlT (endsI (rws R)) t = F.head? := nlT_eq (nl_least hF hs)
    have hFl : F.length ≤ 1000 := by
      rw [hF.length_eq]
      refine Nat.le_trans (List.length_filter_le ..) ?_
      rw [endsI, rws, List.length_map, List.length_map]; exact hlen
    (conv => whnf)
    refine ⟨_, _, rfl, hT'.hB.hb, ?_⟩
    (conv => whnf)
    refine ⟨b, s, room, R, t, rfl, hT'.hB, hlen, ?_⟩
    rw [hnl]
    (conv => whnf)
    refine .inl ?_
    (conv => whnf)
    refine .inr ⟨_, _, .lst (sees_ints _ F), .lst .nil, ⟨plI F, plN⟩, ?_⟩
    rw [eqNilI]
    (conv => whnf)
    have hll : (lfT room.length room (rws R) b1 e1).length ≤ 1000 := by rw [(lfT_spec hR e11).1]; exact hw.2
    cases F with
    | nil =>
      refine ⟨_, rfl, .inr ⟨fun c => (by cases c), fun _ => ?_⟩⟩
      (conv => whnf)
      refine ⟨_, _, rfl, alk_refl 6 (opt_dpt none), ?_⟩
      (conv => whnf)
      refine ⟨_, rfl, fun c => (by cases c), fun _ => ?_⟩
      (conv => whnf)
      refine ⟨_, _, rfl, hT'.hB.hb, ?_⟩
      (conv => whnf)
      refine ⟨b, s, room, R, b1, e1, rfl, hT'.hB, hR, ⟨hw, hlen, e11⟩, ?_⟩
      (conv => whnf)
      refine ⟨p, q, room, top, wide, R, b1, e1, rfl, hT'.hL, hR, ⟨hw, hlen, e11⟩, ?_⟩
      (conv => whnf)
      refine ⟨_, _, rfl, alk_refl 6 (amt_dpt hll), ?_⟩
      (conv => whnf)
      refine ⟨_, rfl, fun c => (by cases c), fun _ => ?_⟩
      exact ⟨a, c, _, _, _, _, _, rfl, k0, k1, k2, rfl⟩
    | cons z F =>
      refine ⟨_, rfl, .inr ⟨fun _ => ?_, fun c => (by cases c)⟩⟩
      (conv => whnf)
      refine ⟨.int z, atI_get (by decide) rfl, ?_⟩
      (conv => whnf)
      refine ⟨_, _, rfl, alk_refl 6 (opt_dpt (some z)), ?_⟩
      (conv => whnf)
      refine ⟨_, rfl, fun c => (by cases c), fun _ => ?_⟩
      (conv => whnf)
      refine ⟨_, _, rfl, hT'.hB.hb, ?_⟩
      (conv => whnf)
      refine ⟨b, s, room, R, b1, e1, rfl, hT'.hB, hR, ⟨hw, hlen, e11⟩, ?_⟩
      (conv => whnf)
      refine ⟨p, q, room, top, wide, R, b1, e1, rfl, hT'.hL, hR, ⟨hw, hlen, e11⟩, ?_⟩
      (conv => whnf)
      refine ⟨_, _, rfl, alk_refl 6 (amt_dpt hll), ?_⟩
      (conv => whnf)
      refine ⟨_, rfl, fun c => (by cases c), fun _ => ?_⟩
      exact ⟨a, c, _, _, _, _, _, rfl, k0, k1, k2, rfl⟩
  · rintro ρ' m' ⟨a, c, x4, x5, x6, x7, x8, rfl, k0, k1, k2, rfl⟩
    (conv => whnf)
    exact ret (h _ _ k0 k1 k2)

end My
namespace My
open PySem PySem.Spec L2 Nu
open PyProof.Rows hiding St
/-! ### lw -/
/-! ### what every law promises -/
def lawA : ASp := fun ss m P _ => ∃ ns : List Int, ss = [.fls (ns.map .int)] ∧ ns.length ≤ 63 ∧ (∀ p, m p = none) ∧ ∀ m', P (.bl true) m'
theorem len_lawA : ∀ ss m P Z, lawA ss m P Z → ss.length = 1 := by
  rintro _ m P Z ⟨ns, rfl, _⟩; rfl
theorem law_in {K : PySem.W.Frag} {H : Hp} (a : Addr) (ns : List Int) (hl : ns.length ≤ 63) (hS : SqL K H a (ns.map V.int)) : spA K lawA [.ref a] H (fun v _ => v = .bl true) (fun _ _ _ => False) := by
  refine ⟨H, [.fls (ns.map .int)], fun _ => none, fun d _ => d = .bl true, EZ0, ⟨fun _ _ e => e, fun _ _ e => by cases e⟩, .cons (.fls hS (Rps.of_ints ns)) .nil, ⟨ns, rfl, hl, fun _ => rfl, fun _ => rfl⟩, ?_, ?_⟩
  · intro v H' F' d m' hd _ r
    subst hd; cases r; rfl
  · intro c es H' F' m' cls dd z
    exact z.elim
theorem walk_nu {l : PySem.W.OpenLaw} {n k : Nat} {q : Program} {loose : List Str} {XP : (Str → Option Value) → Heap → Prop} {YP : World → Heap → Prop} {d : DefRec} {K : Params → PySem.W.Frag} {a : ASp} {x : Str}
    (hn : l.most = some n) (hn2 : n ≤ sizeLine) (hdf : d.params.defaults = []) (hr : Room k callerA)
    (hY : ∀ (w : World) (h : Heap), YP w h → (K w.params).In h)
    (F : ∀ (w : World) (mg : Str → Option Value) (fa : Addr) (h : Heap), (K w.params).In h → h.Ns mainGlobals mg → mg d.name = some (.ref fa) →
      ∃ fd : FuncData, (∀ (s : Shared) (u : Value), BindsTo s fd ⟨[u], []⟩ [(x, u)]) ∧
        ∀ base : Heap, (K w.params).In base → base.Ns mainGlobals mg → FnOk l.prog w (K w.params) mg base (L2.CX l.prog w) k fa fd [x] (spA (K w.params) a))
    (hsp : ∀ (K : PySem.W.Frag) (H : Hp) (b : Addr) (ns : List Int), ns.length ≤ n → SqL K H b (ns.map V.int) → spA K a [.ref b] H (fun v _ => v = .bl true) fun _ _ _ => False) :
    PySem.W.WalkO q loose XP YP l.row.toRowW d [] (fun f vs => PySem.call f vs) :=
  L2.walk_of (K := K) (CX := fun w => L2.CX l.prog w) (sp := fun w => spA (K w.params) a) hn hn2 hdf hr hY F (fun w H b ns h1 _ h3 => hsp (K w.params) H b ns h1 h3) fun w H s e s' h => by
    obtain ⟨_, _, _, _, _, _, _, _, _, _, _, _, h⟩ := h
    exact h

end My
namespace My
open PySem PySem.Spec L2 Nu
open PyProof.Rows hiding St
/-! ### law_k13 -/
def a_law_k13 : ASp := lawA
theorem len_law_k13 : ∀ ss m P Z, a_law_k13 ss m P Z → ss.length = 1 := len_lawA
abbrev n_law_k13 : List Str := ["_law_script", "_law_box_here", "_law_m", "_law_book", "_law_great", "_law_words", "_law_k", "_law_turn", "_law_turns"]
theorem nd_law_k13 : (n_law_k13).Nodup := by decide +kernel
def u_law_k13 : SS :=
  (.cons (.set 1 (.call a__law_box_fa59 (.cons (.var 0) (.cons (.bop sFdv (.cons (.bop sLen (.cons (.var 0) .nil)) (.cons (.cst (.int 2)) .nil))) .nil))))
  (.cons (.set 2 (.call a__law_keeping (.cons (.var 1) .nil)))
  (.cons (.set 3 (.make .Book a_Book___init__ (.cons (.bop sIx (.cons (.var 2) (.cons (.cst (.str "room")) .nil))) .nil)))
  (.cons (.set 4 (.bop sEq (.cons (.call a__law_take_bafe (.cons (.var 1) (.cons (.cst (.int 8)) .nil))) (.cons (.cst (.int 0)) .nil))))
  (.cons (.set 5 (.bop sLst (.cons (.cst (.str "put")) (.cons (.cst (.str "put")) (.cons (.cst (.str "put")) (.cons (.cst (.str "put")) (.cons (.cst (.str "cut")) (.cons (.cst (.str "stretch")) (.cons (.cst (.str "stretch")) (.cons (.cst (.str "drop")) (.cons (.cst (.str "past")) .nil)))))))))))
  (.cons (.fo (.name 6) isRng (.cons (.bop sMax2 (.cons (.cst (.int 8)) (.cons (.bop sMin2 (.cons (.bop sLen (.cons (.var 0) .nil)) (.cons (.bop sSub (.cons (.cst (.int 63)) (.cons (.bop sMul (.cons (.cst (.int 39)) (.cons (.bop sToInt (.cons (.var 4) .nil)) .nil))) .nil))) .nil))) .nil))) .nil) (.cons (.set 1 (.call a__law_box_fa59 (.cons (.var 0) (.cons (.var 6) .nil))))
  (.cut (.iff (.and2 (.var 4) (.and2 (.bop (sCmp .lt) (.cons (.bop sLen (.cons (.bop sIx (.cons (.var 2) (.cons (.cst (.str "rows")) .nil))) .nil)) (.cons (.cst (.int 36)) .nil))) (.bop sNot (.cons (.call a__law_filled_77eb (.cons (.var 3) (.cons (.var 2) (.cons (.var 1) (.cons (.cst (.int 6)) (.cons (.cst (.int 100)) .nil)))))) .nil)))) (.cons (.ret (.cst (.bl false)))
  .nil) .nil)
  (.cons (.fo (.name 7) isRng (.cons (.bop sAdd (.cons (.cst (.int 1)) (.cons (.bop sToInt (.cons (.bop (sCmp .lt) (.cons (.bop sLen (.cons (.var 0) .nil)) (.cons (.cst (.int 30)) .nil))) .nil)) .nil))) .nil) (.cons (.iff (.bop sNot (.cons (.call a__law_goes_be0d (.cons (.var 3) (.cons (.var 2) (.cons (.call a__law_deed_17e3 (.cons (.var 1) (.cons (.var 2) (.cons (.var 5) (.cons (.bop sAdd (.cons (.cst (.int 24)) (.cons (.bop sMul (.cons (.cst (.int 70)) (.cons (.bop sToInt (.cons (.var 4) .nil)) .nil))) .nil))) .nil))))) .nil)))) .nil)) (.cons (.ret (.cst (.bl false)))
  .nil) .nil)
  .nil))
  (.cons (.set 8 (.ite (.bop (sCmp .lt) (.cons (.bop sLen (.cons (.bop sIx (.cons (.var 2) (.cons (.cst (.str "rows")) .nil))) .nil)) (.cons (.cst (.int 20)) .nil))) (.cst (.int 1)) (.bop sToInt (.cons (.bop sEq (.cons (.bop sMod (.cons (.var 6) (.cons (.cst (.int 4)) .nil))) (.cons (.cst (.int 0)) .nil))) .nil))))
  (.cons (.iff (.or2 (.bop sNot (.cons (.call a__law_asked_7df9 (.cons (.var 3) (.cons (.var 2) (.cons (.var 1) (.cons (.var 8) .nil))))) .nil)) (.and2 (.bop sEq (.cons (.bop sMod (.cons (.var 6) (.cons (.cst (.int 8)) .nil))) (.cons (.cst (.int 7)) .nil))) (.bop sNot (.cons (.call a__law_borne_0ae7 (.cons (.var 3) (.cons (.var 2) .nil))) .nil)))) (.cons (.ret (.cst (.bl false)))
  .nil) .nil)
  .nil))))))
  (.cons (.ret (.call a__law_borne_0ae7 (.cons (.var 3) (.cons (.var 2) .nil))))
  .nil)))))))
theorem body_law_k13 : ∀ (ss : List D) (m : MS) (P : NX) (Z : EZ), a_law_k13 ss m P Z → WB u_law_k13 (startR n_law_k13 ss) m (bodyE P Z) := by
  rintro _ m P Z ⟨ns, rfl, hn, hm0, hP⟩
  (conv => whnf)
  refine ⟨by decide, ?_⟩
  (conv => whnf)
  rw [List.length_map]
  refine ⟨ns, _, rfl, ⟨hn, by omega, by omega⟩, fun x hx a c k0 k1 k2 => ?_⟩
  (conv => whnf)
  refine ⟨x, rfl, Bx.put k0 k1 k2, fun room top wide hk a c k0 k1 k2 p q hp hq hqp => ?_⟩
  have hw : 1 ≤ room.length ∧ room.length ≤ 1000 := by have := hk.hw; omega
  have htop : 0 ≤ top ∧ top < 2 ^ 50 := by have := hk.ht; omega
  have hwide : 0 ≤ wide ∧ wide < 2 ^ 50 := by have := hk.hwd; omega
  (conv => whnf)
  refine ⟨_, mset_same, _, rfl, ?_⟩
  (conv => whnf)
  intro b hb
  (conv => whnf)
  refine ⟨b, room, rfl, mset_same, fun s hs hsb => ⟨rfl, ?_⟩⟩
  have hT := Both.start hp hq hqp hb hs hsb
  have hX := Both.startX (room := room) (top := top) (wide := wide) ⟨_, mset_same⟩ k0 k1 k2 hp hq hb hs
  revert hT hX
  generalize (mset (mset (mset (mset (mset (mset (mset m x (bxc _ _)) x (bxc a c)) q (.dct [])) p (.dct (lmK room top wide q))) b (.ins .Book [])) s (.dct [])) b (.ins .Book [amtD room, .raw (.ref s)])) = m1
  intro hT hX
  (conv => whnf)
  refine ⟨x, 8, rfl, hX, by decide, fun v v0 v1 a c k0 k1 k2 => ?_⟩
  have hT := hT.box (c := bxc a c) hX
  revert hT
  generalize mset m1 x (bxc a c) = m2
  intro hT
  (conv => whnf)
  generalize decide (v = 0) = great
  refine .inl ?_
  (conv => whnf)
  rw [List.length_map]
  refine ⟨cmulL (by decide), ?_⟩
  (conv => whnf)
  have hg39 : ((39 : Int) * (if great = true then 1 else 0) = 39 ∨ (39 : Int) * (if great = true then 1 else 0) = 0) := by
    cases great
    · exact .inr rfl
    · exact .inl rfl
  refine ⟨⟨by split <;> (try split) <;> omega, by split <;> (try split) <;> omega⟩, ?_⟩
  (conv => whnf)
  refine foN (List.range _) (fun (i : Nat) => D.int (0 + (i : Nat))) (fun i ρ' m' => ∃ (R : List Row) (x1 x6 x7 x8 : Option D), Both m' p q b s room top wide R ∧ RowsOk room.length R ∧ FitR room.length room R ∧ R.length ≤ 8 * i ∧ ρ' = [some (.fls (ns.map .int)), x1, some (.raw (.ref p)), some (.raw (.ref b)), some (.bl great), some (.lst [.str "put", .str "put", .str "put", .str "put", .str "cut", .str "stretch", .str "stretch", .str "drop", .str "past"]), x6, x7, x8]) rfl ⟨[], _, _, _, _, hT, rowsOk_nil, fit_nil fun v hv => (hk.hr v hv).1, by simp, rfl⟩ (fun i ρ' m' h => trivial) ?_ ?_
  · rintro i j ρ' m' hj ⟨R, x1, x6, x7, x8, hT, hR, hF, hl, rfl⟩
    have hj63 : j < 63 ∧ 0 ≤ (j : Int) ∧ i = j := by
      obtain ⟨h1, h2⟩ := List.getElem?_eq_some_iff.mp hj
      rw [List.getElem_range] at h2
      rw [List.length_range] at h1
      refine ⟨?_, by omega, h2⟩
      revert h1
      split <;> (try split) <;> omega
    (conv => whnf)
    refine ⟨ns, _, rfl, ⟨hn, by omega, by omega⟩, fun x hx a c k0 k1 k2 => ?_⟩
    have hT := hT.new (c := bxc a c) hx
    have hX : Bx (mset m' x (bxc a c)) x := Bx.put k0 k1 k2
    revert hT hX
    generalize mset m' x (bxc a c) = m4
    intro hT hX
    (conv => whnf)
    refine ⟨fun ρ' m' => ∃ R, Both m' p q b s room top wide R ∧ RowsOk room.length R ∧ FitR room.length room R ∧ R.length ≤ 8 * i + 6 ∧ Bx m' x ∧ ρ' = [some (.fls (ns.map .int)), some (.raw (.ref x)), some (.raw (.ref p)), some (.raw (.ref b)), some (.bl great), some (.lst [.str "put", .str "put", .str "put", .str "put", .str "cut", .str "stretch", .str "stretch", .str "drop", .str "past"]), some (.int (0 + (j : Nat))), x7, x8], ?_, ?_⟩
    · (conv => whnf)
      refine ⟨_, rfl, .inr ⟨fun _ => ?_, fun _ => ?_⟩⟩
      · (conv => whnf)
        refine ⟨_, hT.hL.hp, _, rfl, ?_⟩
        (conv => whnf)
        refine ⟨_, hT.hL.hq, ?_⟩
        (conv => whnf)
        refine ⟨_, rfl, .inr ⟨fun _ => ?_, fun _ => ?_⟩⟩
        · (conv => whnf)
          refine ⟨x, p, q, b, s, room, top, wide, R, 6, 100, rfl, hX, hT, hR, ⟨hw, by decide, by decide, htop, hwide⟩, fun n R' hn hg => by have := hg.len; omega, fun m5 R2 hT hX hg => ?_⟩
          (conv => whnf)
          refine ⟨_, rfl, fun c => (by cases c), fun _ => ?_⟩
          exact ⟨R2, hT, hg.ok, hg.fit hF, by have := hg.len; omega, hX, rfl⟩
        · (conv => whnf)
          refine ⟨_, rfl, fun c => (by cases c), fun _ => ?_⟩
          exact ⟨R, hT, hR, hF, by omega, hX, rfl⟩
      · (conv => whnf)
        refine ⟨_, rfl, fun c => (by cases c), fun _ => ?_⟩
        exact ⟨R, hT, hR, hF, by omega, hX, rfl⟩
    · clear hT hR hF hl hX
      rintro _ m5 ⟨R, hT, hR, hF, hl, hX, rfl⟩
      refine ⟨_, _, VwS.refl, ?_⟩
      (conv => whnf)
      obtain ⟨tn, ht2, ht1⟩ : ∃ tn : Nat, tn ≤ 2 ∧ (tn : Int) = 1 + (if Cmp.lt.b ((ns.map D.int).length : Nat) 30 = true then 1 else 0) := by
        by_cases c : Cmp.lt.b ((ns.map D.int).length : Nat) 30 = true
        · exact ⟨2, by decide, by rw [if_pos c]; rfl⟩
        · exact ⟨1, by decide, by rw [if_neg c]; rfl⟩
      rw [← ht1]
      refine ⟨⟨by omega, by omega⟩, ?_⟩
      rw [Int.toNat_natCast]
      refine foN (List.range tn) (fun (i : Nat) => D.int (0 + (i : Nat))) (fun i2 ρ' m' => ∃ (R : List Row) (x7 : Option D), Both m' p q b s room top wide R ∧ RowsOk room.length R ∧ FitR room.length room R ∧ R.length ≤ 8 * i + 6 + i2 ∧ Bx m' x ∧ ρ' = [some (.fls (ns.map .int)), some (.raw (.ref x)), some (.raw (.ref p)), some (.raw (.ref b)), some (.bl great), some (.lst [.str "put", .str "put", .str "put", .str "put", .str "cut", .str "stretch", .str "stretch", .str "drop", .str "past"]), some (.int (0 + (j : Nat))), x7, x8]) rfl ⟨R, _, hT, hR, hF, by omega, hX, rfl⟩ (fun i ρ' m' h => trivial) ?_ ?_
      · clear hT hR hF hl hX
        rintro i2 j2 ρ' m6 hj2 ⟨R, x7, hT, hR, hF, hl, hX, rfl⟩
        have hi2 : i2 < tn := by have := (List.getElem?_eq_some_iff.mp hj2).1; rwa [List.length_range] at this
        (conv => whnf)
        refine ⟨cmulL (by decide), ?_⟩
        (conv => whnf)
        have hmany : (0 : Int) < 24 + 70 * (if great = true then 1 else 0) ∧ (24 : Int) + 70 * (if great = true then 1 else 0) < 2 ^ 100 := by
          cases great
          · decide
          · decide
        refine ⟨x, p, q, room, top, wide, R, ["put", "put", "put", "put", "cut", "stretch", "stretch", "drop", "past"], _, rfl, hX, hT.hL, hR, ⟨hw, by omega, ⟨by simp, by simp, by simp⟩, hmany, htop, hwide⟩, fun d hd a c k0 k1 k2 => ?_⟩
        have hT := hT.box (c := bxc a c) hX
        have hX := hX.put2 (c := c) k0 k1 k2
        revert hT hX
        generalize mset m6 x (bxc a c) = m6
        intro hT hX
        (conv => whnf)
        refine ⟨p, q, b, s, room, top, wide, R, d, rfl, hT, hR, ⟨hw, by omega⟩, hd.fit, ?_⟩
        (conv => whnf)
        refine ⟨_, rfl, fun c => (by cases c), fun _ => ?_⟩
        exact ⟨_, _, hT.mB, step_ok hR hd.fit, fit_step hR hd.fit hF, by have := step_len (w := room.length) (room := room) (R := R) (d := d); omega, hT.bx hX, rfl⟩
      · clear hT hR hF hl hX
        rintro ρ' m6 ⟨R, x7, hT, hR, hF, hl, hX, rfl⟩
        rw [List.length_range] at hl
        have hlR : R.length ≤ 900 := by omega
        (conv => whnf)
        refine ⟨_, hT.hL.hp, _, rfl, ?_⟩
        (conv => whnf)
        refine ⟨_, hT.hL.hq, ?_⟩
        (conv => whnf)
        rw [rowsK_len]
        refine ⟨_, rfl, .inl ⟨.int (((if (R.length : Int) < 20 then 1 else if ((0 + (j : Int)) % 4 = 0) then 1 else 0 : Nat)) : Nat), fun hk => ?_, fun hk => ?_, ?_⟩⟩
        · (conv => whnf)
          rw [if_pos (of_decide_eq_true hk)]
          exact ⟨rfl, rfl⟩
        · (conv => whnf)
          refine ⟨by decide, ?_⟩
          (conv => whnf)
          rw [if_neg (of_decide_eq_false hk)]
          refine ⟨?_, rfl⟩
          by_cases c : (0 + (j : Int)) % 4 = 0
          · rw [if_pos c, if_pos (decide_eq_true c)]; rfl
          · rw [if_neg c, if_neg (by rw [decide_eq_false c]; simp)]; rfl
        (conv => whnf)
        refine ⟨x, p, q, b, s, room, top, wide, R, _, rfl, hX, hT, hR, ⟨hw, by split <;> (try split) <;> omega, by omega, hwide⟩, fun a c k0 k1 k2 => ?_⟩
        have hT := hT.box (c := bxc a c) hX
        revert hT
        generalize mset m6 x (bxc a c) = m7
        intro hT
        (conv => whnf)
        refine ⟨_, rfl, .inr ⟨fun _ => ?_, fun c => (by cases c)⟩⟩
        (conv => whnf)
        refine ⟨by decide, ?_⟩
        (conv => whnf)
        refine ⟨_, rfl, .inr ⟨fun _ => ?_, fun _ => ?_⟩⟩
        · (conv => whnf)
          refine ⟨p, q, b, s, room, top, wide, R, rfl, hT, hR, hF, ⟨hw, by omega⟩, ?_⟩
          (conv => whnf)
          refine ⟨_, rfl, fun c => (by cases c), fun _ => ?_⟩
          exact ⟨R, _, _, _, _, hT, hR, hF, by omega, rfl⟩
        · (conv => whnf)
          refine ⟨_, rfl, fun c => (by cases c), fun _ => ?_⟩
          exact ⟨R, _, _, _, _, hT, hR, hF, by omega, rfl⟩
  · rintro ρ' m' ⟨R, x1, x6, x7, x8, hT, hR, hF, hl, rfl⟩
    have hl2 : R.length ≤ 900 := by
      refine Nat.le_trans hl ?_
      rw [List.length_range]
      split <;> (try split) <;> omega
    (conv => whnf)
    exact ⟨p, q, b, s, room, top, wide, R, rfl, hT, hR, hF, ⟨hw, by omega⟩, ret (hP _)⟩

end My
namespace My
open PySem PySem.Spec L2 Nu
open PyProof.Rows hiding St
def topS (i : Nat) : Stmt := PySem.Challenge.pw_clusterhall_k13_whole_book_walked.main.body.getD i (.Pass ⟨0, 0, 0, 0⟩)
def inS (st : Stmt) (j : Nat) : Stmt := match st with
  | .ClassDef _ _ _ body _ _ _ _ _ _ _ => body.getD j (.Pass ⟨0, 0, 0, 0⟩)
  | _ => .Pass ⟨0, 0, 0, 0⟩
abbrev s__law_box_fa59 : Stmt := topS 24
theorem sc__law_box_fa59 : FnScope n__law_box_fa59 ["_law_script", "_law_k"] (defScope s__law_box_fa59) := ⟨rfl, rfl, rfl, by decide +kernel, rfl, by decide +kernel, by decide +kernel⟩
abbrev s__law_take_bafe : Stmt := topS 25
theorem sc__law_take_bafe : FnScope n__law_take_bafe ["_law_box_here", "_law_many"] (defScope s__law_take_bafe) := ⟨rfl, rfl, rfl, by decide +kernel, rfl, by decide +kernel, by decide +kernel⟩
abbrev s__law_number : Stmt := topS 26
theorem sc__law_number : FnScope n__law_number ["_law_box_here", "_law_top"] (defScope s__law_number) := ⟨rfl, rfl, rfl, by decide +kernel, rfl, by decide +kernel, by decide +kernel⟩
abbrev s__law_amount_7792 : Stmt := topS 27
theorem sc__law_amount_7792 : FnScope n__law_amount_7792 ["_law_box_here", "_law_wares", "_law_top"] (defScope s__law_amount_7792) := ⟨rfl, rfl, rfl, by decide +kernel, rfl, by decide +kernel, by decide +kernel⟩
abbrev s__law_keeping : Stmt := topS 29
theorem sc__law_keeping : FnScope n__law_keeping ["_law_box_here"] (defScope s__law_keeping) := ⟨rfl, rfl, rfl, by decide +kernel, rfl, by decide +kernel, by decide +kernel⟩
abbrev s_Book___init__ : Stmt := inS (topS 22) 0
theorem sc_Book___init__ : FnScope n_Book___init__ ["self", "room"] (defScope s_Book___init__) := ⟨rfl, rfl, rfl, by decide +kernel, rfl, by decide +kernel, by decide +kernel⟩
abbrev s__law_edges : Stmt := topS 30
theorem sc__law_edges : FnScope n__law_edges ["_law_m"] (defScope s__law_edges) := ⟨rfl, rfl, rfl, by decide +kernel, rfl, by decide +kernel, by decide +kernel⟩
abbrev s_nothing_of : Stmt := topS 2
theorem sc_nothing_of : FnScope n_nothing_of ["wares"] (defScope s_nothing_of) := ⟨rfl, rfl, rfl, by decide +kernel, rfl, by decide +kernel, by decide +kernel⟩
abbrev s_amount_sum : Stmt := topS 3
theorem sc_amount_sum : FnScope n_amount_sum ["one", "other"] (defScope s_amount_sum) := ⟨rfl, rfl, rfl, by decide +kernel, rfl, by decide +kernel, by decide +kernel⟩
abbrev s_Book_load_at : Stmt := inS (topS 22) 1
theorem sc_Book_load_at : FnScope n_Book_load_at ["self", "time"] (defScope s_Book_load_at) := ⟨rfl, rfl, rfl, by decide +kernel, rfl, by decide +kernel, by decide +kernel⟩
abbrev s__law_borne_0ae7 : Stmt := topS 50
theorem sc__law_borne_0ae7 : FnScope n__law_borne_0ae7 ["_law_book", "_law_m"] (defScope s__law_borne_0ae7) := ⟨rfl, rfl, rfl, by decide +kernel, rfl, by decide +kernel, by decide +kernel⟩
abbrev s__law_alike_2e9a : Stmt := topS 44
theorem sc__law_alike_2e9a : FnScope n__law_alike_2e9a ["_law_found", "_law_due_here"] (defScope s__law_alike_2e9a) := ⟨rfl, rfl, rfl, by decide +kernel, rfl, by decide +kernel, by decide +kernel⟩
abbrev s_Book_entry_rows : Stmt := inS (topS 22) 11
theorem sc_Book_entry_rows : FnScope n_Book_entry_rows ["self"] (defScope s_Book_entry_rows) := ⟨rfl, rfl, rfl, by decide +kernel, rfl, by decide +kernel, by decide +kernel⟩
abbrev s__law_rows_due_422a : Stmt := topS 45
theorem sc__law_rows_due_422a : FnScope n__law_rows_due_422a ["_law_m"] (defScope s__law_rows_due_422a) := ⟨rfl, rfl, rfl, by decide +kernel, rfl, by decide +kernel, by decide +kernel⟩
abbrev s_Book_whole_room : Stmt := inS (topS 22) 14
theorem sc_Book_whole_room : FnScope n_Book_whole_room ["self"] (defScope s_Book_whole_room) := ⟨rfl, rfl, rfl, by decide +kernel, rfl, by decide +kernel, by decide +kernel⟩
abbrev s__law_stands_ede1 : Stmt := topS 46
theorem sc__law_stands_ede1 : FnScope n__law_stands_ede1 ["_law_book", "_law_m"] (defScope s__law_stands_ede1) := ⟨rfl, rfl, rfl, by decide +kernel, rfl, by decide +kernel, by decide +kernel⟩
abbrev s_Book_rises_in : Stmt := inS (topS 22) 2
theorem sc_Book_rises_in : FnScope n_Book_rises_in ["self", "begin", "end"] (defScope s_Book_rises_in) := ⟨rfl, rfl, rfl, by decide +kernel, rfl, by decide +kernel, by decide +kernel⟩
abbrev s_amount_fits : Stmt := topS 5
theorem sc_amount_fits : FnScope n_amount_fits ["one", "other"] (defScope s_amount_fits) := ⟨rfl, rfl, rfl, by decide +kernel, rfl, by decide +kernel, by decide +kernel⟩
abbrev s_Book_look_room : Stmt := inS (topS 22) 3
theorem sc_Book_look_room : FnScope n_Book_look_room ["self", "begin", "end", "amount"] (defScope s_Book_look_room) := ⟨rfl, rfl, rfl, by decide +kernel, rfl, by decide +kernel, by decide +kernel⟩
abbrev s_Book_put_entry : Stmt := inS (topS 22) 5
theorem sc_Book_put_entry : FnScope n_Book_put_entry ["self", "key", "begin", "end", "amount"] (defScope s_Book_put_entry) := ⟨rfl, rfl, rfl, by decide +kernel, rfl, by decide +kernel, by decide +kernel⟩
abbrev s_Book_row_of : Stmt := inS (topS 22) 4
theorem sc_Book_row_of : FnScope n_Book_row_of ["self", "key"] (defScope s_Book_row_of) := ⟨rfl, rfl, rfl, by decide +kernel, rfl, by decide +kernel, by decide +kernel⟩
abbrev s_Book_cut_entry : Stmt := inS (topS 22) 6
theorem sc_Book_cut_entry : FnScope n_Book_cut_entry ["self", "key", "time"] (defScope s_Book_cut_entry) := ⟨rfl, rfl, rfl, by decide +kernel, rfl, by decide +kernel, by decide +kernel⟩
abbrev s_Book_stretch_entry : Stmt := inS (topS 22) 7
theorem sc_Book_stretch_entry : FnScope n_Book_stretch_entry ["self", "key", "end"] (defScope s_Book_stretch_entry) := ⟨rfl, rfl, rfl, by decide +kernel, rfl, by decide +kernel, by decide +kernel⟩
abbrev s_Book_drop_entry : Stmt := inS (topS 22) 8
theorem sc_Book_drop_entry : FnScope n_Book_drop_entry ["self", "key"] (defScope s_Book_drop_entry) := ⟨rfl, rfl, rfl, by decide +kernel, rfl, by decide +kernel, by decide +kernel⟩
abbrev s_Book_drop_past : Stmt := inS (topS 22) 9
theorem sc_Book_drop_past : FnScope n_Book_drop_past ["self", "time"] (defScope s_Book_drop_past) := ⟨rfl, rfl, rfl, by decide +kernel, rfl, by decide +kernel, by decide +kernel⟩
abbrev s__law_called : Stmt := topS 41
theorem sc__law_called : FnScope n__law_called ["_law_book", "_law_deed_here"] (defScope s__law_called) := ⟨rfl, rfl, rfl, by decide +kernel, rfl, by decide +kernel, by decide +kernel⟩
abbrev s__law_word_5e12 : Stmt := topS 42
theorem sc__law_word_5e12 : FnScope n__law_word_5e12 ["_law_e"] (defScope s__law_word_5e12) := ⟨rfl, rfl, rfl, by decide +kernel, rfl, by decide +kernel, by decide +kernel⟩
abbrev s__law_told_0ead : Stmt := topS 43
theorem sc__law_told_0ead : FnScope n__law_told_0ead ["_law_book", "_law_deed_here"] (defScope s__law_told_0ead) := ⟨rfl, rfl, rfl, by decide +kernel, rfl, by decide +kernel, by decide +kernel⟩
abbrev s__law_load_eb54 : Stmt := topS 34
theorem sc__law_load_eb54 : FnScope n__law_load_eb54 ["_law_m", "_law_time_here"] (defScope s__law_load_eb54) := ⟨rfl, rfl, rfl, by decide +kernel, rfl, by decide +kernel, by decide +kernel⟩
abbrev s__law_first_more : Stmt := topS 35
theorem sc__law_first_more : FnScope n__law_first_more ["_law_m", "_law_begin", "_law_end", "_law_amount_here"] (defScope s__law_first_more) := ⟨rfl, rfl, rfl, by decide +kernel, rfl, by decide +kernel, by decide +kernel⟩
abbrev s__law_put_due : Stmt := topS 40
theorem sc__law_put_due : FnScope n__law_put_due ["_law_m", "_law_deed_here"] (defScope s__law_put_due) := ⟨rfl, rfl, rfl, by decide +kernel, rfl, by decide +kernel, by decide +kernel⟩
abbrev s__law_due_3a95 : Stmt := topS 39
theorem sc__law_due_3a95 : FnScope n__law_due_3a95 ["_law_m", "_law_deed_here"] (defScope s__law_due_3a95) := ⟨rfl, rfl, rfl, by decide +kernel, rfl, by decide +kernel, by decide +kernel⟩
abbrev s__law_goes_be0d : Stmt := topS 47
theorem sc__law_goes_be0d : FnScope n__law_goes_be0d ["_law_book", "_law_m", "_law_deed_here"] (defScope s__law_goes_be0d) := ⟨rfl, rfl, rfl, by decide +kernel, rfl, by decide +kernel, by decide +kernel⟩
abbrev s__law_name_d25c : Stmt := topS 28
theorem sc__law_name_d25c : FnScope n__law_name_d25c ["_law_n"] (defScope s__law_name_d25c) := ⟨rfl, rfl, rfl, by decide +kernel, rfl, by decide +kernel, by decide +kernel⟩
abbrev s__law_time_e328 : Stmt := topS 31
theorem sc__law_time_e328 : FnScope n__law_time_e328 ["_law_box_here", "_law_m"] (defScope s__law_time_e328) := ⟨rfl, rfl, rfl, by decide +kernel, rfl, by decide +kernel, by decide +kernel⟩
abbrev s__law_span : Stmt := topS 32
theorem sc__law_span : FnScope n__law_span ["_law_box_here", "_law_m"] (defScope s__law_span) := ⟨rfl, rfl, rfl, by decide +kernel, rfl, by decide +kernel, by decide +kernel⟩
abbrev s__law_wanted : Stmt := topS 33
theorem sc__law_wanted : FnScope n__law_wanted ["_law_box_here", "_law_m"] (defScope s__law_wanted) := ⟨rfl, rfl, rfl, by decide +kernel, rfl, by decide +kernel, by decide +kernel⟩
abbrev s__law_deed_17e3 : Stmt := topS 38
theorem sc__law_deed_17e3 : FnScope n__law_deed_17e3 ["_law_box_here", "_law_m", "_law_words", "_law_many"] (defScope s__law_deed_17e3) := ⟨rfl, rfl, rfl, by decide +kernel, rfl, by decide +kernel, by decide +kernel⟩
abbrev s__law_filled_77eb : Stmt := topS 48
theorem sc__law_filled_77eb : FnScope n__law_filled_77eb ["_law_book", "_law_m", "_law_box_here", "_law_turns", "_law_many"] (defScope s__law_filled_77eb) := ⟨rfl, rfl, rfl, by decide +kernel, rfl, by decide +kernel, by decide +kernel⟩
abbrev s_Book_next_edge : Stmt := inS (topS 22) 12
theorem sc_Book_next_edge : FnScope n_Book_next_edge ["self", "time"] (defScope s_Book_next_edge) := ⟨rfl, rfl, rfl, by decide +kernel, rfl, by decide +kernel, by decide +kernel⟩
abbrev s__law_next : Stmt := topS 37
theorem sc__law_next : FnScope n__law_next ["_law_m", "_law_time_here"] (defScope s__law_next) := ⟨rfl, rfl, rfl, by decide +kernel, rfl, by decide +kernel, by decide +kernel⟩
abbrev s_Book_next_end : Stmt := inS (topS 22) 13
theorem sc_Book_next_end : FnScope n_Book_next_end ["self", "time"] (defScope s_Book_next_end) := ⟨rfl, rfl, rfl, by decide +kernel, rfl, by decide +kernel, by decide +kernel⟩
abbrev s_amount_least : Stmt := topS 6
theorem sc_amount_least : FnScope n_amount_least ["one", "other"] (defScope s_amount_least) := ⟨rfl, rfl, rfl, by decide +kernel, rfl, by decide +kernel, by decide +kernel⟩
abbrev s_amount_less : Stmt := topS 4
theorem sc_amount_less : FnScope n_amount_less ["one", "other"] (defScope s_amount_less) := ⟨rfl, rfl, rfl, by decide +kernel, rfl, by decide +kernel, by decide +kernel⟩
abbrev s_Book_left_over : Stmt := inS (topS 22) 10
theorem sc_Book_left_over : FnScope n_Book_left_over ["self", "begin", "end"] (defScope s_Book_left_over) := ⟨rfl, rfl, rfl, by decide +kernel, rfl, by decide +kernel, by decide +kernel⟩
abbrev s__law_left_c244 : Stmt := topS 36
theorem sc__law_left_c244 : FnScope n__law_left_c244 ["_law_m", "_law_begin", "_law_end"] (defScope s__law_left_c244) := ⟨rfl, rfl, rfl, by decide +kernel, rfl, by decide +kernel, by decide +kernel⟩
abbrev s__law_asked_7df9 : Stmt := topS 49
theorem sc__law_asked_7df9 : FnScope n__law_asked_7df9 ["_law_book", "_law_m", "_law_box_here", "_law_turns"] (defScope s__law_asked_7df9) := ⟨rfl, rfl, rfl, by decide +kernel, rfl, by decide +kernel, by decide +kernel⟩
abbrev s_law_k13 : Stmt := topS 51
theorem sc_law_k13 : FnScope n_law_k13 ["_law_script"] (defScope s_law_k13) := ⟨rfl, rfl, rfl, by decide +kernel, rfl, by decide +kernel, by decide +kernel⟩
structure Tx (K : PySem.W.Frag) (mg : Str → Option Value) : Prop where
  b_ValueError : mg "ValueError" = none
  b_abs : mg "abs" = none
  b_all : mg "all" = none
  b_any : mg "any" = none
  b_bool : mg "bool" = none
  b_int : mg "int" = none
  b_isinstance : mg "isinstance" = none
  b_len : mg "len" = none
  b_list : mg "list" = none
  b_max : mg "max" = none
  b_min : mg "min" = none
  b_range : mg "range" = none
  b_sorted : mg "sorted" = none
  b_str : mg "str" = none
  b_tuple : mg "tuple" = none
  b_zip : mg "zip" = none
  TC : ∀ c, ClsF K c
  TE : ∀ c, ExnF K c
  TX : ∀ c, ExnC K c
  TV : ∀ c, SubV K c
  x_BadRow : XcF K mg .BadRow
  x_HallError : XcF K mg .HallError
  x_InUse : XcF K mg .InUse
  x_NoGang : XcF K mg .NoGang
  x_NoGuild : XcF K mg .NoGuild
  x_NoHouse : XcF K mg .NoHouse
  x_NoKey : XcF K mg .NoKey
  x_NoKind : XcF K mg .NoKind
  x_NoPlan : XcF K mg .NoPlan
  x_Past : XcF K mg .Past
  x_Taken : XcF K mg .Taken
  x_TooMany : XcF K mg .TooMany
  x_TooMuch : XcF K mg .TooMuch
  x0_NoKey : Xc0 K .NoKey
  x0_Taken : Xc0 K .Taken
  TS_HallError : ∀ y, SubF K y .HallError
  TI_BadRow : ∀ y, SubI K y .BadRow
  TI_InUse : ∀ y, SubI K y .InUse
  TI_NoGang : ∀ y, SubI K y .NoGang
  TI_NoGuild : ∀ y, SubI K y .NoGuild
  TI_NoHouse : ∀ y, SubI K y .NoHouse
  TI_NoKey : ∀ y, SubI K y .NoKey
  TI_NoKind : ∀ y, SubI K y .NoKind
  TI_NoPlan : ∀ y, SubI K y .NoPlan
  TI_Past : ∀ y, SubI K y .Past
  TI_Taken : ∀ y, SubI K y .Taken
  TI_TooMany : ∀ y, SubI K y .TooMany
  TI_TooMuch : ∀ y, SubI K y .TooMuch
section
variable {P : Program} {w : World} {K : PySem.W.Frag} {mg : Str → Option Value} {base : Heap}
abbrev sI_TooMuch : Stmt := inS (topS 11) 0
theorem scI_TooMuch : FnScope ["self", "words", "time"] ["self", "words", "time"] (defScope sI_TooMuch) := ⟨rfl, rfl, rfl, by decide +kernel, rfl, by decide +kernel, by decide +kernel⟩
theorem okI_TooMuch {C CH fI : Addr} {fd : FuncData} (F : Fun K "__init__" "TooMuch.__init__" sI_TooMuch fI fd) (T : L2.OexC K C) (nf : PySem.W.findIn K (.ref C) "time" = some none) (hx : mg "HallError" = some (.ref CH)) (hf : HeF K CH) : FnOk P w K mg base (L2.CX P w) 1 fI fd ["self", "words", "time"] (spI C "time") :=
  init_fn F scI_TooMuch rfl T nf hx hf rfl fun cdv A outer s H E => pss_cons (ps_expr (pe_heinit (x := "HallError") rfl hx hf (pa_cons (pv 0) (pa_cons (pv 1) pa_nil)) rfl rfl rfl rfl)) (pss_cons (ps_ost (pv 0) (pv 2)) pss_nil)
theorem snd__law_box_fa59 (T : Tx K mg)  {f : Addr} (cdv : Value) (A : Around) (outer : List Env) (s : Shared) (H : Hp) (E : XK) (hr : Room 0 (A.deeper (envOfC "_law_box" (defScope s__law_box_fa59) s.heap.objs.size f cdv))) : SSs (cxOf (L2.CX P w) P w K mg base n__law_box_fa59 "_law_box" (defScope s__law_box_fa59) f cdv A outer s H E) (defBody s__law_box_fa59) u__law_box_fa59 := by
  refine ss_cons ?_ ?_
  · refine s_set ?_ nd__law_box_fa59
    · exact se_int
  · refine ss_cut ?_ ?_
    · refine s_if ?_ ?_ ?_
      · refine st_cmp (op_cmps hr .gt) bok_cmp ?_ ?_ (nomark _)
        · refine se_bi cr_len bok_len T.b_len ?_
          · refine sa_cons ?_ ?_
            · exact se_var 0
            · exact sa_nil
        · exact se_int
      · refine ss_cons ?_ ?_
        · refine s_set ?_ nd__law_box_fa59
          · refine se_ix hr ?_ ?_
            · exact se_var 0
            · refine se_bin op_mod bok_mod ?_ ?_
              · exact se_var 1
              · refine se_bi cr_len bok_len T.b_len ?_
                · refine sa_cons ?_ ?_
                  · exact se_var 0
                  · exact sa_nil
        · exact ss_nil
      · exact ss_nil
    · refine ss_cons ?_ ?_
      · refine s_ret ?_
        · refine se_lst ?_
          · refine sa_cons ?_ ?_
            · refine se_bin op_muls bok_mul ?_ ?_
              · refine se_bi call_abs bok_abs T.b_abs ?_
                · refine sa_cons ?_ ?_
                  · exact se_var 2
                  · exact sa_nil
              · refine se_ty call_int1 bok_toInt T.b_int ?_
                · refine sa_cons ?_ ?_
                  · refine se_cmp (op_cmps hr .ge) bok_cmp ?_ ?_ (nomark _)
                    · refine se_bi call_abs bok_abs T.b_abs ?_
                      · refine sa_cons ?_ ?_
                        · exact se_var 2
                        · exact sa_nil
                    · exact se_powc se_int se_int
                  · exact sa_nil
            · refine sa_cons ?_ ?_
              · refine se_bin op_mod bok_mod ?_ ?_
                · refine se_bin op_adds bok_add ?_ ?_
                  · refine se_bin op_adds bok_add ?_ ?_
                    · refine se_bin op_muls bok_mul ?_ ?_
                      · refine se_bin op_mod bok_mod ?_ ?_
                        · exact se_var 2
                        · exact se_int
                      · exact se_int
                    · refine se_bin op_muls bok_mul ?_ ?_
                      · exact se_int
                      · exact se_var 1
                  · exact se_int
                · exact se_int
              · exact sa_nil
      · exact ss_nil
theorem ok__law_box_fa59 {f : Addr} {fd : FuncData} (F : Fun K "_law_box" "_law_box" s__law_box_fa59 f fd) (T : Tx K mg)  : FnOk P w K mg base (L2.CX P w) 1 f fd ["_law_script", "_law_k"] (spA K a__law_box_fa59) :=
  fn_ok F sc__law_box_fa59 len__law_box_fa59 (fun cdv A outer s H E hr => snd__law_box_fa59 T  cdv A outer s H E hr) body__law_box_fa59
theorem snd__law_take_bafe (T : Tx K mg)  {f : Addr} (cdv : Value) (A : Around) (outer : List Env) (s : Shared) (H : Hp) (E : XK) (hr : Room 0 (A.deeper (envOfC "_law_take" (defScope s__law_take_bafe) s.heap.objs.size f cdv))) : SSs (cxOf (L2.CX P w) P w K mg base n__law_take_bafe "_law_take" (defScope s__law_take_bafe) f cdv A outer s H E) (defBody s__law_take_bafe) u__law_take_bafe := by
  refine ss_cons ?_ ?_
  · refine s_if ?_ ?_ ?_
    · refine st_cmp (op_cmps hr .gt) bok_cmp ?_ ?_ (nomark _)
      · refine se_ix hr ?_ ?_
        · exact se_var 0
        · exact se_int
      · exact se_int
    · refine ss_cons ?_ ?_
      · refine s_set ?_ nd__law_take_bafe
        · refine se_bin op_mod bok_mod ?_ ?_
          · refine se_ix hr ?_ ?_
            · exact se_var 0
            · exact se_int
          · exact se_var 1
      · refine ss_cons ?_ ?_
        · refine s_iset hr ?_ ?_ ?_
          · exact se_var 0
          · exact se_int
          · refine se_bin op_fdivW bok_fdv ?_ ?_
            · refine se_ix hr ?_ ?_
              · exact se_var 0
              · exact se_int
            · exact se_var 1
        · refine ss_cons ?_ ?_
          · refine s_ret ?_
            · exact se_var 2
          · exact ss_nil
    · exact ss_nil
  · refine ss_cons ?_ ?_
    · refine s_iset hr ?_ ?_ ?_
      · exact se_var 0
      · exact se_int
      · refine se_bin op_mod bok_mod ?_ ?_
        · refine se_bin op_adds bok_add ?_ ?_
          · refine se_bin op_muls bok_mul ?_ ?_
            · refine se_ix hr ?_ ?_
              · exact se_var 0
              · exact se_int
            · exact se_int
          · exact se_int
        · exact se_int
    · refine ss_cons ?_ ?_
      · refine s_set ?_ nd__law_take_bafe
        · refine se_bin op_mod bok_mod ?_ ?_
          · refine se_bin op_muls bok_mul ?_ ?_
            · refine se_ix hr ?_ ?_
              · exact se_var 0
              · exact se_int
            · refine se_bin op_adds bok_add ?_ ?_
              · refine se_bin op_mod bok_mod ?_ ?_
                · refine se_ix hr ?_ ?_
                  · exact se_var 0
                  · exact se_int
                · exact se_int
              · exact se_int
          · exact se_int
      · refine ss_cons ?_ ?_
        · refine s_ret ?_
          · refine se_bin op_mod bok_mod ?_ ?_
            · refine se_bin op_mod bok_mod ?_ ?_
              · refine se_bin op_muls bok_mul ?_ ?_
                · exact se_var 3
                · refine se_bin op_adds bok_add ?_ ?_
                  · refine se_bin op_mod bok_mod ?_ ?_
                    · exact se_var 3
                    · exact se_int
                  · exact se_int
              · exact se_int
            · exact se_var 1
        · exact ss_nil
theorem ok__law_take_bafe {f : Addr} {fd : FuncData} (F : Fun K "_law_take" "_law_take" s__law_take_bafe f fd) (T : Tx K mg)  : FnOk P w K mg base (L2.CX P w) 1 f fd ["_law_box_here", "_law_many"] (spA K a__law_take_bafe) :=
  fn_ok F sc__law_take_bafe len__law_take_bafe (fun cdv A outer s H E hr => snd__law_take_bafe T  cdv A outer s H E hr) body__law_take_bafe
theorem snd__law_number (T : Tx K mg) (c__law_take_bafe : Cal P w K mg base 1 "_law_take" (spA K a__law_take_bafe)) {f : Addr} (cdv : Value) (A : Around) (outer : List Env) (s : Shared) (H : Hp) (E : XK) (hr : Room 1 (A.deeper (envOfC "_law_number" (defScope s__law_number) s.heap.objs.size f cdv))) : SSs (cxOf (L2.CX P w) P w K mg base n__law_number "_law_number" (defScope s__law_number) f cdv A outer s H E) (defBody s__law_number) u__law_number := by
  refine ss_cons ?_ ?_
  · refine s_if ?_ ?_ ?_
    · refine st_cmp (op_eqs hr) bok_eq ?_ ?_ (nomark _)
      · refine se_call c__law_take_bafe hr ?_
        · refine sa_cons ?_ ?_
          · exact se_var 0
          · refine sa_cons ?_ ?_
            · exact se_int
            · exact sa_nil
      · exact se_int
    · refine ss_cons ?_ ?_
      · refine s_ret ?_
        · refine se_ix hr ?_ ?_
          · refine se_lst ?_
            · refine sa_cons ?_ ?_
              · exact se_int
              · refine sa_cons ?_ ?_
                · exact se_var 1
                · refine sa_cons ?_ ?_
                  · refine se_bi (call_max2 rfl) bok_max2 T.b_max ?_
                    · refine sa_cons ?_ ?_
                      · exact se_int
                      · refine sa_cons ?_ ?_
                        · refine se_bin op_sub bok_sub ?_ ?_
                          · exact se_var 1
                          · exact se_int
                        · exact sa_nil
                  · refine sa_cons ?_ ?_
                    · refine se_bi (call_min2 rfl) bok_min2 T.b_min ?_
                      · refine sa_cons ?_ ?_
                        · exact se_int
                        · refine sa_cons ?_ ?_
                          · exact se_var 1
                          · exact sa_nil
                    · exact sa_nil
          · refine se_call c__law_take_bafe hr ?_
            · refine sa_cons ?_ ?_
              · exact se_var 0
              · refine sa_cons ?_ ?_
                · exact se_int
                · exact sa_nil
      · exact ss_nil
    · exact ss_nil
  · refine ss_cons ?_ ?_
    · refine s_ret ?_
      · refine se_bin op_mod bok_mod ?_ ?_
        · refine se_bin op_adds bok_add ?_ ?_
          · refine se_bin op_muls bok_mul ?_ ?_
            · refine se_call c__law_take_bafe hr ?_
              · refine sa_cons ?_ ?_
                · exact se_var 0
                · refine sa_cons ?_ ?_
                  · exact se_powc se_int se_int
                  · exact sa_nil
            · exact se_powc se_int se_int
          · refine se_call c__law_take_bafe hr ?_
            · refine sa_cons ?_ ?_
              · exact se_var 0
              · refine sa_cons ?_ ?_
                · exact se_powc se_int se_int
                · exact sa_nil
        · refine se_bin op_adds bok_add ?_ ?_
          · exact se_var 1
          · exact se_int
    · exact ss_nil
theorem ok__law_number {f : Addr} {fd : FuncData} (F : Fun K "_law_number" "_law_number" s__law_number f fd) (T : Tx K mg) (c__law_take_bafe : Cal P w K mg base 1 "_law_take" (spA K a__law_take_bafe)) : FnOk P w K mg base (L2.CX P w) 2 f fd ["_law_box_here", "_law_top"] (spA K a__law_number) :=
  fn_ok F sc__law_number len__law_number (fun cdv A outer s H E hr => snd__law_number T c__law_take_bafe cdv A outer s H E hr) body__law_number
theorem snd__law_amount_7792 (T : Tx K mg) (c__law_number : Cal P w K mg base 2 "_law_number" (spA K a__law_number)) {f : Addr} (cdv : Value) (A : Around) (outer : List Env) (s : Shared) (H : Hp) (E : XK) (hr : Room 2 (A.deeper (envOfC "_law_amount" (defScope s__law_amount_7792) s.heap.objs.size f cdv))) : SSs (cxOf (L2.CX P w) P w K mg base n__law_amount_7792 "_law_amount" (defScope s__law_amount_7792) f cdv A outer s H E) (defBody s__law_amount_7792) u__law_amount_7792 := by
  refine ss_cons ?_ ?_
  · refine s_ret ?_
    · refine se_ty call_tuple_of bok_toTup T.b_tuple ?_
      · refine sa_cons ?_ ?_
        · refine se_lc (own := [("_law_k", 3)]) (nd__law_amount_7792) ?_ (blkOk_by (N := n__law_amount_7792) (sc := defScope s__law_amount_7792) (by decide +kernel)) rfl (fun s H C cl fp => ?_) ?_ (fun s H C cl fp => ?_)
          · refine si_rng1 T.b_range ?_
            · exact se_var 1
          · exact xg_name 3 (nd__law_amount_7792)
          · exact .no
          · refine se_call c__law_number hr ?_
            · refine sa_cons ?_ ?_
              · exact se_var 0
              · refine sa_cons ?_ ?_
                · exact se_var 2
                · exact sa_nil
        · exact sa_nil
  · exact ss_nil
theorem ok__law_amount_7792 {f : Addr} {fd : FuncData} (F : Fun K "_law_amount" "_law_amount" s__law_amount_7792 f fd) (T : Tx K mg) (c__law_number : Cal P w K mg base 2 "_law_number" (spA K a__law_number)) : FnOk P w K mg base (L2.CX P w) 3 f fd ["_law_box_here", "_law_wares", "_law_top"] (spA K a__law_amount_7792) :=
  fn_ok F sc__law_amount_7792 len__law_amount_7792 (fun cdv A outer s H E hr => snd__law_amount_7792 T c__law_number cdv A outer s H E hr) body__law_amount_7792
theorem snd__law_keeping (T : Tx K mg) (c__law_amount_7792 : Cal P w K mg base 3 "_law_amount" (spA K a__law_amount_7792)) (c__law_take_bafe : Cal P w K mg base 1 "_law_take" (spA K a__law_take_bafe)) {f : Addr} (cdv : Value) (A : Around) (outer : List Env) (s : Shared) (H : Hp) (E : XK) (hr : Room 3 (A.deeper (envOfC "_law_keeping" (defScope s__law_keeping) s.heap.objs.size f cdv))) : SSs (cxOf (L2.CX P w) P w K mg base n__law_keeping "_law_keeping" (defScope s__law_keeping) f cdv A outer s H E) (defBody s__law_keeping) u__law_keeping := by
  refine ss_cons ?_ ?_
  · refine s_set ?_ nd__law_keeping
    · refine se_ix hr ?_ ?_
      · refine se_lst ?_
        · refine sa_cons ?_ ?_
          · exact se_int
          · refine sa_cons ?_ ?_
            · exact se_int
            · refine sa_cons ?_ ?_
              · exact se_int
              · refine sa_cons ?_ ?_
                · exact se_int
                · exact sa_nil
      · refine se_call c__law_take_bafe hr ?_
        · refine sa_cons ?_ ?_
          · exact se_var 0
          · refine sa_cons ?_ ?_
            · exact se_int
            · exact sa_nil
  · refine ss_cons ?_ ?_
    · refine s_set ?_ nd__law_keeping
      · refine se_ix hr ?_ ?_
        · refine se_lst ?_
          · refine sa_cons ?_ ?_
            · exact se_int
            · refine sa_cons ?_ ?_
              · exact se_int
              · refine sa_cons ?_ ?_
                · exact se_powc se_int se_int
                · exact sa_nil
        · refine se_call c__law_take_bafe hr ?_
          · refine sa_cons ?_ ?_
            · exact se_var 0
            · refine sa_cons ?_ ?_
              · exact se_int
              · exact sa_nil
    · refine ss_cons ?_ ?_
      · refine s_set ?_ nd__law_keeping
        · refine se_call c__law_amount_7792 hr ?_
          · refine sa_cons ?_ ?_
            · exact se_var 0
            · refine sa_cons ?_ ?_
              · exact se_var 1
              · refine sa_cons ?_ ?_
                · exact se_var 2
                · exact sa_nil
      · refine ss_cut ?_ ?_
        · refine s_if ?_ ?_ ?_
          · refine st_cmp (op_eqs hr) bok_eq ?_ ?_ (nomark _)
            · refine se_call c__law_take_bafe hr ?_
              · refine sa_cons ?_ ?_
                · exact se_var 0
                · refine sa_cons ?_ ?_
                  · exact se_int
                  · exact sa_nil
            · exact se_int
          · refine ss_cons ?_ ?_
            · refine s_set ?_ nd__law_keeping
              · refine se_ty call_tuple_of bok_toTup T.b_tuple ?_
                · refine sa_cons ?_ ?_
                  · refine se_bin op_muls bok_mul ?_ ?_
                    · refine se_lst ?_
                      · refine sa_cons ?_ ?_
                        · exact se_var 2
                        · exact sa_nil
                    · exact se_var 1
                  · exact sa_nil
            · exact ss_nil
          · exact ss_nil
        · refine ss_cons ?_ ?_
          · refine s_ret ?_
            · refine se_dct ?_
              · refine sdp_cons ?_ ?_
                · exact se_var 3
                · refine sdp_cons ?_ ?_
                  · exact se_var 2
                  · refine sdp_cons ?_ ?_
                    · refine se_ix hr ?_ ?_
                      · refine se_lst ?_
                        · refine sa_cons ?_ ?_
                          · exact se_int
                          · refine sa_cons ?_ ?_
                            · exact se_int
                            · refine sa_cons ?_ ?_
                              · exact se_powc se_int se_int
                              · exact sa_nil
                      · refine se_call c__law_take_bafe hr ?_
                        · refine sa_cons ?_ ?_
                          · exact se_var 0
                          · refine sa_cons ?_ ?_
                            · exact se_int
                            · exact sa_nil
                    · refine sdp_cons ?_ ?_
                      · exact se_dnew
                      · exact sdp_nil
          · exact ss_nil
theorem ok__law_keeping {f : Addr} {fd : FuncData} (F : Fun K "_law_keeping" "_law_keeping" s__law_keeping f fd) (T : Tx K mg) (c__law_amount_7792 : Cal P w K mg base 3 "_law_amount" (spA K a__law_amount_7792)) (c__law_take_bafe : Cal P w K mg base 1 "_law_take" (spA K a__law_take_bafe)) : FnOk P w K mg base (L2.CX P w) 4 f fd ["_law_box_here"] (spA K a__law_keeping) :=
  fn_ok F sc__law_keeping len__law_keeping (fun cdv A outer s H E hr => snd__law_keeping T c__law_amount_7792 c__law_take_bafe cdv A outer s H E hr) body__law_keeping
theorem snd_Book___init__ (T : Tx K mg)  {f : Addr} (cdv : Value) (A : Around) (outer : List Env) (s : Shared) (H : Hp) (E : XK) (hr : Room 0 (A.deeper (envOfC "Book.__init__" (defScope s_Book___init__) s.heap.objs.size f cdv))) : SSs (cxOf (L2.CX P w) P w K mg base n_Book___init__ "Book.__init__" (defScope s_Book___init__) f cdv A outer s H E) (defBody s_Book___init__) u_Book___init__ := by
  refine ss_cons ?_ ?_
  · refine s_fset (f := .room) T.TC ?_ ?_
    · exact se_var 0
    · refine se_ty call_tuple_of bok_toTup T.b_tuple ?_
      · refine sa_cons ?_ ?_
        · exact se_var 1
        · exact sa_nil
  · refine ss_cons ?_ ?_
    · refine s_fset (f := .written) T.TC ?_ ?_
      · exact se_var 0
      · exact se_dnew
    · exact ss_nil
theorem ok_Book___init__ {f : Addr} {fd : FuncData} (F : Fun K "__init__" "Book.__init__" s_Book___init__ f fd) (T : Tx K mg)  : FnOk P w K mg base (L2.CX P w) 1 f fd ["self", "room"] (spA K a_Book___init__) :=
  fn_ok F sc_Book___init__ len_Book___init__ (fun cdv A outer s H E hr => snd_Book___init__ T  cdv A outer s H E hr) body_Book___init__
theorem snd__law_edges (T : Tx K mg)  {f : Addr} (cdv : Value) (A : Around) (outer : List Env) (s : Shared) (H : Hp) (E : XK) (hr : Room 0 (A.deeper (envOfC "_law_edges" (defScope s__law_edges) s.heap.objs.size f cdv))) : SSs (cxOf (L2.CX P w) P w K mg base n__law_edges "_law_edges" (defScope s__law_edges) f cdv A outer s H E) (defBody s__law_edges) u__law_edges := by
  refine ss_cons ?_ ?_
  · refine s_set ?_ nd__law_edges
    · refine se_lst ?_
      · exact sa_nil
  · refine ss_cons ?_ ?_
    · refine s_lock ?_
      · refine s_for ?_ ?_ ?_
        · refine si_vals ?_
          · refine se_ix hr ?_ ?_
            · exact se_var 0
            · exact se_str
        · refine xg_tup ?_
          · refine xgs_cons ?_ ?_
            · exact xg_name 2 (nd__law_edges)
            · refine xgs_cons ?_ ?_
              · exact xg_name 3 (nd__law_edges)
              · refine xgs_cons ?_ ?_
                · exact xg_name 4 (nd__law_edges)
                · exact xgs_nil
        · refine ss_cons ?_ ?_
          · refine s_set ?_ nd__law_edges
            · refine se_bin op_adds bok_add ?_ ?_
              · exact se_var 1
              · refine se_lst ?_
                · refine sa_cons ?_ ?_
                  · exact se_var 2
                  · refine sa_cons ?_ ?_
                    · exact se_var 3
                    · exact sa_nil
          · exact ss_nil
    · refine ss_cons ?_ ?_
      · refine s_ret ?_
        · refine se_bi (cr_srt hr rfl) bok_sorted T.b_sorted ?_
          · refine sa_cons ?_ ?_
            · exact se_var 1
            · exact sa_nil
      · exact ss_nil
theorem ok__law_edges {f : Addr} {fd : FuncData} (F : Fun K "_law_edges" "_law_edges" s__law_edges f fd) (T : Tx K mg)  : FnOk P w K mg base (L2.CX P w) 1 f fd ["_law_m"] (spA K a__law_edges) :=
  fn_ok F sc__law_edges len__law_edges (fun cdv A outer s H E hr => snd__law_edges T  cdv A outer s H E hr) body__law_edges
theorem snd_nothing_of (T : Tx K mg)  {f : Addr} (cdv : Value) (A : Around) (outer : List Env) (s : Shared) (H : Hp) (E : XK) (hr : Room 0 (A.deeper (envOfC "nothing_of" (defScope s_nothing_of) s.heap.objs.size f cdv))) : SSs (cxOf (L2.CX P w) P w K mg base n_nothing_of "nothing_of" (defScope s_nothing_of) f cdv A outer s H E) (defBody s_nothing_of) u_nothing_of := by
  refine ss_cons ?_ ?_
  · refine s_ret ?_
    · refine se_bin op_muls bok_mul ?_ ?_
      · refine se_tup ?_
        · refine sa_cons ?_ ?_
          · exact se_int
          · exact sa_nil
      · exact se_var 0
  · exact ss_nil
theorem ok_nothing_of {f : Addr} {fd : FuncData} (F : Fun K "nothing_of" "nothing_of" s_nothing_of f fd) (T : Tx K mg)  : FnOk P w K mg base (L2.CX P w) 1 f fd ["wares"] (spA K a_nothing_of) :=
  fn_ok F sc_nothing_of len_nothing_of (fun cdv A outer s H E hr => snd_nothing_of T  cdv A outer s H E hr) body_nothing_of
theorem snd_amount_sum (T : Tx K mg)  {f : Addr} (cdv : Value) (A : Around) (outer : List Env) (s : Shared) (H : Hp) (E : XK) (hr : Room 0 (A.deeper (envOfC "amount_sum" (defScope s_amount_sum) s.heap.objs.size f cdv))) : SSs (cxOf (L2.CX P w) P w K mg base n_amount_sum "amount_sum" (defScope s_amount_sum) f cdv A outer s H E) (defBody s_amount_sum) u_amount_sum := by
  refine ss_cons ?_ ?_
  · refine s_ret ?_
    · refine se_ty call_tuple_of bok_toTup T.b_tuple ?_
      · refine sa_cons ?_ ?_
        · refine se_lc (own := [("a", 2), ("b", 3)]) (nd_amount_sum) ?_ (blkOk_by (N := n_amount_sum) (sc := defScope s_amount_sum) (by decide +kernel)) rfl (fun s H C cl fp => ?_) ?_ (fun s H C cl fp => ?_)
          · refine si_zip2 T.b_zip ?_ ?_
            · exact se_var 0
            · exact se_var 1
          · refine xg_tup ?_
            · refine xgs_cons ?_ ?_
              · exact xg_name 2 (nd_amount_sum)
              · refine xgs_cons ?_ ?_
                · exact xg_name 3 (nd_amount_sum)
                · exact xgs_nil
          · exact .no
          · refine se_bin op_adds bok_add ?_ ?_
            · exact se_var 2
            · exact se_var 3
        · exact sa_nil
  · exact ss_nil
theorem ok_amount_sum {f : Addr} {fd : FuncData} (F : Fun K "amount_sum" "amount_sum" s_amount_sum f fd) (T : Tx K mg)  : FnOk P w K mg base (L2.CX P w) 1 f fd ["one", "other"] (spA K a_amount_sum) :=
  fn_ok F sc_amount_sum len_amount_sum (fun cdv A outer s H E hr => snd_amount_sum T  cdv A outer s H E hr) body_amount_sum
theorem snd_Book_load_at (T : Tx K mg) (c_nothing_of : Cal P w K mg base 1 "nothing_of" (spA K a_nothing_of)) (c_amount_sum : Cal P w K mg base 1 "amount_sum" (spA K a_amount_sum)) {f : Addr} (cdv : Value) (A : Around) (outer : List Env) (s : Shared) (H : Hp) (E : XK) (hr : Room 1 (A.deeper (envOfC "Book.load_at" (defScope s_Book_load_at) s.heap.objs.size f cdv))) : SSs (cxOf (L2.CX P w) P w K mg base n_Book_load_at "Book.load_at" (defScope s_Book_load_at) f cdv A outer s H E) (defBody s_Book_load_at) u_Book_load_at := by
  refine ss_cons ?_ ?_
  · refine s_set ?_ nd_Book_load_at
    · refine se_call c_nothing_of hr ?_
      · refine sa_cons ?_ ?_
        · refine se_bi cr_len bok_len T.b_len ?_
          · refine sa_cons ?_ ?_
            · refine se_fld (f := .room) T.TC T.TE ?_
              · exact se_var 0
            · exact sa_nil
        · exact sa_nil
  · refine ss_cons ?_ ?_
    · refine s_lock ?_
      · refine s_for ?_ ?_ ?_
        · refine si_vals ?_
          · refine se_fld (f := .written) T.TC T.TE ?_
            · exact se_var 0
        · refine xg_tup ?_
          · refine xgs_cons ?_ ?_
            · exact xg_name 3 (nd_Book_load_at)
            · refine xgs_cons ?_ ?_
              · exact xg_name 4 (nd_Book_load_at)
              · refine xgs_cons ?_ ?_
                · exact xg_name 5 (nd_Book_load_at)
                · exact xgs_nil
        · refine ss_cons ?_ ?_
          · refine s_if ?_ ?_ ?_
            · refine st_chain .le .lt ?_ ?_ ?_
              · exact se_var 3
              · exact se_var 1
              · exact se_var 4
            · refine ss_cons ?_ ?_
              · refine s_set ?_ nd_Book_load_at
                · refine se_call c_amount_sum hr ?_
                  · refine sa_cons ?_ ?_
                    · exact se_var 2
                    · refine sa_cons ?_ ?_
                      · exact se_var 5
                      · exact sa_nil
              · exact ss_nil
            · exact ss_nil
          · exact ss_nil
    · refine ss_cons ?_ ?_
      · refine s_ret ?_
        · exact se_var 2
      · exact ss_nil
theorem ok_Book_load_at {f : Addr} {fd : FuncData} (F : Fun K "load_at" "Book.load_at" s_Book_load_at f fd) (T : Tx K mg) (c_nothing_of : Cal P w K mg base 1 "nothing_of" (spA K a_nothing_of)) (c_amount_sum : Cal P w K mg base 1 "amount_sum" (spA K a_amount_sum)) : FnOk P w K mg base (L2.CX P w) 2 f fd ["self", "time"] (spA K a_Book_load_at) :=
  fn_ok F sc_Book_load_at len_Book_load_at (fun cdv A outer s H E hr => snd_Book_load_at T c_nothing_of c_amount_sum cdv A outer s H E hr) body_Book_load_at
theorem snd__law_borne_0ae7 (T : Tx K mg) (c__law_edges : Cal P w K mg base 1 "_law_edges" (spA K a__law_edges)) (c_Book_load_at : MCal P w K mg base 2 .Book "load_at" (spA K a_Book_load_at)) {f : Addr} (cdv : Value) (A : Around) (outer : List Env) (s : Shared) (H : Hp) (E : XK) (hr : Room 2 (A.deeper (envOfC "_law_borne" (defScope s__law_borne_0ae7) s.heap.objs.size f cdv))) : SSs (cxOf (L2.CX P w) P w K mg base n__law_borne_0ae7 "_law_borne" (defScope s__law_borne_0ae7) f cdv A outer s H E) (defBody s__law_borne_0ae7) u__law_borne_0ae7 := by
  refine ss_cons ?_ ?_
  · refine s_for ?_ ?_ ?_
    · refine si_val ?_
      · refine se_call c__law_edges hr ?_
        · refine sa_cons ?_ ?_
          · exact se_var 1
          · exact sa_nil
    · exact xg_name 2 (nd__law_borne_0ae7)
    · refine ss_cons ?_ ?_
      · refine s_if ?_ ?_ ?_
        · refine st_val ?_
          · refine se_bi (cr_any rfl) bok_any T.b_any ?_
            · refine sa_cons ?_ ?_
              · refine se_lc (own := [("_law_one", 3), ("_law_other", 4)]) (nd__law_borne_0ae7) ?_ (blkOk_by (N := n__law_borne_0ae7) (sc := defScope s__law_borne_0ae7) (by decide +kernel)) rfl (fun s H C cl fp => ?_) ?_ (fun s H C cl fp => ?_)
                · refine si_zip2 T.b_zip ?_ ?_
                  · refine se_meth c_Book_load_at hr ?_ ?_
                    · exact se_var 0
                    · refine sa_cons ?_ ?_
                      · exact se_var 2
                      · exact sa_nil
                  · refine se_ix hr ?_ ?_
                    · exact se_var 1
                    · exact se_str
                · refine xg_tup ?_
                  · refine xgs_cons ?_ ?_
                    · exact xg_name 3 (nd__law_borne_0ae7)
                    · refine xgs_cons ?_ ?_
                      · exact xg_name 4 (nd__law_borne_0ae7)
                      · exact xgs_nil
                · exact .no
                · refine se_cmp (op_cmps hr .gt) bok_cmp ?_ ?_ (nomark _)
                  · exact se_var 3
                  · exact se_var 4
              · exact sa_nil
        · refine ss_cons ?_ ?_
          · refine s_ret ?_
            · exact se_bl
          · exact ss_nil
        · exact ss_nil
      · exact ss_nil
  · refine ss_cons ?_ ?_
    · refine s_ret ?_
      · exact se_bl
    · exact ss_nil
theorem ok__law_borne_0ae7 {f : Addr} {fd : FuncData} (F : Fun K "_law_borne" "_law_borne" s__law_borne_0ae7 f fd) (T : Tx K mg) (c__law_edges : Cal P w K mg base 1 "_law_edges" (spA K a__law_edges)) (c_Book_load_at : MCal P w K mg base 2 .Book "load_at" (spA K a_Book_load_at)) : FnOk P w K mg base (L2.CX P w) 3 f fd ["_law_book", "_law_m"] (spA K a__law_borne_0ae7) :=
  fn_ok F sc__law_borne_0ae7 len__law_borne_0ae7 (fun cdv A outer s H E hr => snd__law_borne_0ae7 T c__law_edges c_Book_load_at cdv A outer s H E hr) body__law_borne_0ae7
theorem snd__law_alike_2e9a (T : Tx K mg)  {aR : ASp} {kR jR : Nat} (cR : Cal P w K mg base kR "_law_alike" (spA K aR)) (hkR : kR ≤ jR) {f : Addr} (cdv : Value) (A : Around) (outer : List Env) (s : Shared) (H : Hp) (E : XK) (hr : Room jR (A.deeper (envOfC "_law_alike" (defScope s__law_alike_2e9a) s.heap.objs.size f cdv))) : SSs (cxOf (L2.CX P w) P w K mg base n__law_alike_2e9a "_law_alike" (defScope s__law_alike_2e9a) f cdv A outer s H E) (defBody s__law_alike_2e9a) (u__law_alike_2e9a aR) := by
  refine ss_cons ?_ ?_
  · refine s_if ?_ ?_ ?_
    · refine st_cmp op_iss bok_is ?_ ?_ (nomark _)
      · exact se_var 1
      · exact se_non
    · refine ss_cons ?_ ?_
      · refine s_ret ?_
        · refine se_cmp op_iss bok_is ?_ ?_ (nomark _)
          · exact se_var 0
          · exact se_non
      · exact ss_nil
    · exact ss_nil
  · refine ss_cons ?_ ?_
    · refine s_if ?_ ?_ ?_
      · refine st_val ?_
        · refine se_isi2 .list .tuple T.b_isinstance T.b_list T.b_tuple ?_
          · exact se_var 1
      · refine ss_cons ?_ ?_
        · refine s_if ?_ ?_ ?_
          · refine SWh.st ?_
            · refine sw_or ?_ ?_
              · refine st_not ?_
                · refine st_val ?_
                  · refine se_isi2 .list .tuple T.b_isinstance T.b_list T.b_tuple ?_
                    · exact se_var 0
              · refine sw_or1 ?_
                · refine st_cmp (op_nes hr) bok_ne ?_ ?_ (nomark _)
                  · refine se_isi .list T.b_isinstance T.b_list ?_
                    · exact se_var 0
                  · refine se_isi .list T.b_isinstance T.b_list ?_
                    · exact se_var 1
          · refine ss_cons ?_ ?_
            · refine s_ret ?_
              · exact se_bl
            · exact ss_nil
          · exact ss_nil
        · refine ss_cons ?_ ?_
          · refine s_ret ?_
            · refine se_and ?_ ?_
              · refine se_cmp (op_eqs hr) bok_eq ?_ ?_ (nomark _)
                · refine se_bi cr_len bok_len T.b_len ?_
                  · refine sa_cons ?_ ?_
                    · exact se_var 0
                    · exact sa_nil
                · refine se_bi cr_len bok_len T.b_len ?_
                  · refine sa_cons ?_ ?_
                    · exact se_var 1
                    · exact sa_nil
              · refine se_one ?_
                · refine se_bi (cr_all rfl) bok_all T.b_all ?_
                  · refine sa_cons ?_ ?_
                    · refine se_lc (own := [("_law_one", 2), ("_law_other", 3)]) (nd__law_alike_2e9a) ?_ (blkOk_by (N := n__law_alike_2e9a) (sc := defScope s__law_alike_2e9a) (by decide +kernel)) rfl (fun s H C cl fp => ?_) ?_ (fun s H C cl fp => ?_)
                      · refine si_zip2 T.b_zip ?_ ?_
                        · exact se_var 0
                        · exact se_var 1
                      · refine xg_tup ?_
                        · refine xgs_cons ?_ ?_
                          · exact xg_name 2 (nd__law_alike_2e9a)
                          · refine xgs_cons ?_ ?_
                            · exact xg_name 3 (nd__law_alike_2e9a)
                            · exact xgs_nil
                      · exact .no
                      · refine se_call cR hr ?_ (hk := hkR)
                        · refine sa_cons ?_ ?_
                          · exact se_var 2
                          · refine sa_cons ?_ ?_
                            · exact se_var 3
                            · exact sa_nil
                    · exact sa_nil
          · exact ss_nil
      · exact ss_nil
    · refine ss_cons ?_ ?_
      · refine s_if ?_ ?_ ?_
        · refine st_val ?_
          · refine se_isi .str T.b_isinstance T.b_str ?_
            · exact se_var 1
        · refine ss_cons ?_ ?_
          · refine s_ret ?_
            · refine se_and ?_ ?_
              · refine se_isi .str T.b_isinstance T.b_str ?_
                · exact se_var 0
              · refine se_one ?_
                · refine se_cmp (op_eqs hr) bok_eq ?_ ?_ (nomark _)
                  · exact se_var 0
                  · exact se_var 1
          · exact ss_nil
        · exact ss_nil
      · refine ss_cons ?_ ?_
        · refine s_ret ?_
          · refine se_and ?_ ?_
            · refine se_isi .int T.b_isinstance T.b_int ?_
              · exact se_var 0
            · refine se_and ?_ ?_
              · refine se_not ?_
                · refine se_isi .bool T.b_isinstance T.b_bool ?_
                  · exact se_var 0
              · refine se_one ?_
                · refine se_cmp (op_eqs hr) bok_eq ?_ ?_ (nomark _)
                  · exact se_var 0
                  · exact se_var 1
        · exact ss_nil
theorem ok__law_alike_2e9a {f : Addr} {fd : FuncData} (F : Fun K "_law_alike" "_law_alike" s__law_alike_2e9a f fd) (T : Tx K mg)  (hm : mg "_law_alike" = some (.ref f)) (b : Binds K fd ["_law_found", "_law_due_here"] []) : ∀ n : Nat, FnOk P w K mg base (L2.CX P w) (1 + n) f fd ["_law_found", "_law_due_here"] (spA K (r__law_alike_2e9a n))
  | 0 => ⟨fun _ _ _ _ h => (let ⟨_, _, _, _, _, _, _, h, _⟩ := h; absurd h (zero__law_alike_2e9a _ _ _ _)), fun _ _ _ _ _ _ _ _ _ _ _ _ _ h => (let ⟨_, _, _, _, _, _, _, h, _⟩ := h; absurd h (zero__law_alike_2e9a _ _ _ _))⟩
  | n + 1 => fn_ok F sc__law_alike_2e9a (len__law_alike_2e9a (n + 1)) (fun cdv A outer s H E hr => snd__law_alike_2e9a T  (cal_mk (ok__law_alike_2e9a F T  hm b n) hm F.kp b) (Nat.le_refl _) cdv A outer s H E hr) (body__law_alike_2e9a n)
theorem snd_Book_entry_rows (T : Tx K mg)  {f : Addr} (cdv : Value) (A : Around) (outer : List Env) (s : Shared) (H : Hp) (E : XK) (hr : Room 0 (A.deeper (envOfC "Book.entry_rows" (defScope s_Book_entry_rows) s.heap.objs.size f cdv))) : SSs (cxOf (L2.CX P w) P w K mg base n_Book_entry_rows "Book.entry_rows" (defScope s_Book_entry_rows) f cdv A outer s H E) (defBody s_Book_entry_rows) u_Book_entry_rows := by
  refine ss_cons ?_ ?_
  · refine s_ret ?_
    · refine se_lc (own := [("key", 1)]) (nd_Book_entry_rows) ?_ (blkOk_by (N := n_Book_entry_rows) (sc := defScope s_Book_entry_rows) (by decide +kernel)) rfl (fun s H C cl fp => ?_) ?_ (fun s H C cl fp => ?_)
      · refine si_val ?_
        · refine se_bi (cr_srt hr rfl) bok_sorted T.b_sorted ?_
          · refine sa_cons ?_ ?_
            · refine se_fld (f := .written) T.TC T.TE ?_
              · exact se_var 0
            · exact sa_nil
      · exact xg_name 1 (nd_Book_entry_rows)
      · exact .no
      · refine se_bin op_adds bok_add ?_ ?_
        · refine se_tup ?_
          · refine sa_cons ?_ ?_
            · exact se_var 1
            · exact sa_nil
        · refine se_ix hr ?_ ?_
          · refine se_fld (f := .written) T.TC T.TE ?_
            · exact se_var 0
          · exact se_var 1
  · exact ss_nil
theorem ok_Book_entry_rows {f : Addr} {fd : FuncData} (F : Fun K "entry_rows" "Book.entry_rows" s_Book_entry_rows f fd) (T : Tx K mg)  : FnOk P w K mg base (L2.CX P w) 1 f fd ["self"] (spA K a_Book_entry_rows) :=
  fn_ok F sc_Book_entry_rows len_Book_entry_rows (fun cdv A outer s H E hr => snd_Book_entry_rows T  cdv A outer s H E hr) body_Book_entry_rows
theorem snd__law_rows_due_422a (T : Tx K mg)  {f : Addr} (cdv : Value) (A : Around) (outer : List Env) (s : Shared) (H : Hp) (E : XK) (hr : Room 0 (A.deeper (envOfC "_law_rows_due" (defScope s__law_rows_due_422a) s.heap.objs.size f cdv))) : SSs (cxOf (L2.CX P w) P w K mg base n__law_rows_due_422a "_law_rows_due" (defScope s__law_rows_due_422a) f cdv A outer s H E) (defBody s__law_rows_due_422a) u__law_rows_due_422a := by
  refine ss_cons ?_ ?_
  · refine s_ret ?_
    · refine se_lc (own := [("_law_key", 1)]) (nd__law_rows_due_422a) ?_ (blkOk_by (N := n__law_rows_due_422a) (sc := defScope s__law_rows_due_422a) (by decide +kernel)) rfl (fun s H C cl fp => ?_) ?_ (fun s H C cl fp => ?_)
      · refine si_val ?_
        · refine se_bi (cr_srt hr rfl) bok_sorted T.b_sorted ?_
          · refine sa_cons ?_ ?_
            · refine se_ix hr ?_ ?_
              · exact se_var 0
              · exact se_str
            · exact sa_nil
      · exact xg_name 1 (nd__law_rows_due_422a)
      · exact .no
      · refine se_bin op_adds bok_add ?_ ?_
        · refine se_tup ?_
          · refine sa_cons ?_ ?_
            · exact se_var 1
            · exact sa_nil
        · refine se_ix hr ?_ ?_
          · refine se_ix hr ?_ ?_
            · exact se_var 0
            · exact se_str
          · exact se_var 1
  · exact ss_nil
theorem ok__law_rows_due_422a {f : Addr} {fd : FuncData} (F : Fun K "_law_rows_due" "_law_rows_due" s__law_rows_due_422a f fd) (T : Tx K mg)  : FnOk P w K mg base (L2.CX P w) 1 f fd ["_law_m"] (spA K a__law_rows_due_422a) :=
  fn_ok F sc__law_rows_due_422a len__law_rows_due_422a (fun cdv A outer s H E hr => snd__law_rows_due_422a T  cdv A outer s H E hr) body__law_rows_due_422a
theorem snd_Book_whole_room (T : Tx K mg)  {f : Addr} (cdv : Value) (A : Around) (outer : List Env) (s : Shared) (H : Hp) (E : XK) (hr : Room 0 (A.deeper (envOfC "Book.whole_room" (defScope s_Book_whole_room) s.heap.objs.size f cdv))) : SSs (cxOf (L2.CX P w) P w K mg base n_Book_whole_room "Book.whole_room" (defScope s_Book_whole_room) f cdv A outer s H E) (defBody s_Book_whole_room) u_Book_whole_room := by
  refine ss_cons ?_ ?_
  · refine s_ret ?_
    · refine se_fld (f := .room) T.TC T.TE ?_
      · exact se_var 0
  · exact ss_nil
theorem ok_Book_whole_room {f : Addr} {fd : FuncData} (F : Fun K "whole_room" "Book.whole_room" s_Book_whole_room f fd) (T : Tx K mg)  : FnOk P w K mg base (L2.CX P w) 1 f fd ["self"] (spA K a_Book_whole_room) :=
  fn_ok F sc_Book_whole_room len_Book_whole_room (fun cdv A outer s H E hr => snd_Book_whole_room T  cdv A outer s H E hr) body_Book_whole_room
theorem snd__law_stands_ede1 (T : Tx K mg) (c__law_alike_2e9a : Cal P w K mg base 7 "_law_alike" (spA K a__law_alike_2e9a)) (c_Book_entry_rows : MCal P w K mg base 1 .Book "entry_rows" (spA K a_Book_entry_rows)) (c__law_rows_due_422a : Cal P w K mg base 1 "_law_rows_due" (spA K a__law_rows_due_422a)) (c_Book_whole_room : MCal P w K mg base 1 .Book "whole_room" (spA K a_Book_whole_room)) {f : Addr} (cdv : Value) (A : Around) (outer : List Env) (s : Shared) (H : Hp) (E : XK) (hr : Room 7 (A.deeper (envOfC "_law_stands" (defScope s__law_stands_ede1) s.heap.objs.size f cdv))) : SSs (cxOf (L2.CX P w) P w K mg base n__law_stands_ede1 "_law_stands" (defScope s__law_stands_ede1) f cdv A outer s H E) (defBody s__law_stands_ede1) u__law_stands_ede1 := by
  refine ss_cons ?_ ?_
  · refine s_ret ?_
    · refine se_and ?_ ?_
      · refine se_call c__law_alike_2e9a hr ?_
        · refine sa_cons ?_ ?_
          · refine se_meth0 c_Book_entry_rows hr ?_
            · exact se_var 0
          · refine sa_cons ?_ ?_
            · refine se_call c__law_rows_due_422a hr ?_
              · refine sa_cons ?_ ?_
                · exact se_var 1
                · exact sa_nil
            · exact sa_nil
      · refine se_one ?_
        · refine se_call c__law_alike_2e9a hr ?_
          · refine sa_cons ?_ ?_
            · refine se_meth0 c_Book_whole_room hr ?_
              · exact se_var 0
            · refine sa_cons ?_ ?_
              · refine se_ix hr ?_ ?_
                · exact se_var 1
                · exact se_str
              · exact sa_nil
  · exact ss_nil
theorem ok__law_stands_ede1 {f : Addr} {fd : FuncData} (F : Fun K "_law_stands" "_law_stands" s__law_stands_ede1 f fd) (T : Tx K mg) (c__law_alike_2e9a : Cal P w K mg base 7 "_law_alike" (spA K a__law_alike_2e9a)) (c_Book_entry_rows : MCal P w K mg base 1 .Book "entry_rows" (spA K a_Book_entry_rows)) (c__law_rows_due_422a : Cal P w K mg base 1 "_law_rows_due" (spA K a__law_rows_due_422a)) (c_Book_whole_room : MCal P w K mg base 1 .Book "whole_room" (spA K a_Book_whole_room)) : FnOk P w K mg base (L2.CX P w) 8 f fd ["_law_book", "_law_m"] (spA K a__law_stands_ede1) :=
  fn_ok F sc__law_stands_ede1 len__law_stands_ede1 (fun cdv A outer s H E hr => snd__law_stands_ede1 T c__law_alike_2e9a c_Book_entry_rows c__law_rows_due_422a c_Book_whole_room cdv A outer s H E hr) body__law_stands_ede1
theorem snd_Book_rises_in (T : Tx K mg)  {f : Addr} (cdv : Value) (A : Around) (outer : List Env) (s : Shared) (H : Hp) (E : XK) (hr : Room 0 (A.deeper (envOfC "Book.rises_in" (defScope s_Book_rises_in) s.heap.objs.size f cdv))) : SSs (cxOf (L2.CX P w) P w K mg base n_Book_rises_in "Book.rises_in" (defScope s_Book_rises_in) f cdv A outer s H E) (defBody s_Book_rises_in) u_Book_rises_in := by
  refine ss_cons ?_ ?_
  · refine s_ret ?_
    · refine se_bin op_adds bok_add ?_ ?_
      · refine se_lst ?_
        · refine sa_cons ?_ ?_
          · exact se_var 1
          · exact sa_nil
      · refine se_bi (cr_srt hr rfl) bok_sorted T.b_sorted ?_
        · refine sa_cons ?_ ?_
          · refine se_lock ?_
            · refine se_lc (own := [("row", 3)]) (nd_Book_rises_in) ?_ (blkOk_by (N := n_Book_rises_in) (sc := defScope s_Book_rises_in) (by decide +kernel)) rfl (fun s H C cl fp => ?_) ?_ (fun s H C cl fp => ?_)
              · refine si_vals ?_
                · refine se_fld (f := .written) T.TC T.TE ?_
                  · exact se_var 0
              · exact xg_name 3 (nd_Book_rises_in)
              · refine .one fun s H C cl fp => ?_
                · refine st_chain .lt .lt ?_ ?_ ?_
                  · exact se_var 1
                  · refine se_ix hr ?_ ?_
                    · exact se_var 3
                    · exact se_int
                  · exact se_var 2
              · refine se_ix hr ?_ ?_
                · exact se_var 3
                · exact se_int
          · exact sa_nil
  · exact ss_nil
theorem ok_Book_rises_in {f : Addr} {fd : FuncData} (F : Fun K "rises_in" "Book.rises_in" s_Book_rises_in f fd) (T : Tx K mg)  : FnOk P w K mg base (L2.CX P w) 1 f fd ["self", "begin", "end"] (spA K a_Book_rises_in) :=
  fn_ok F sc_Book_rises_in len_Book_rises_in (fun cdv A outer s H E hr => snd_Book_rises_in T  cdv A outer s H E hr) body_Book_rises_in
theorem snd_amount_fits (T : Tx K mg)  {f : Addr} (cdv : Value) (A : Around) (outer : List Env) (s : Shared) (H : Hp) (E : XK) (hr : Room 0 (A.deeper (envOfC "amount_fits" (defScope s_amount_fits) s.heap.objs.size f cdv))) : SSs (cxOf (L2.CX P w) P w K mg base n_amount_fits "amount_fits" (defScope s_amount_fits) f cdv A outer s H E) (defBody s_amount_fits) u_amount_fits := by
  refine ss_cons ?_ ?_
  · refine s_ret ?_
    · refine se_bi (cr_all rfl) bok_all T.b_all ?_
      · refine sa_cons ?_ ?_
        · refine se_lc (own := [("a", 2), ("b", 3)]) (nd_amount_fits) ?_ (blkOk_by (N := n_amount_fits) (sc := defScope s_amount_fits) (by decide +kernel)) rfl (fun s H C cl fp => ?_) ?_ (fun s H C cl fp => ?_)
          · refine si_zip2 T.b_zip ?_ ?_
            · exact se_var 0
            · exact se_var 1
          · refine xg_tup ?_
            · refine xgs_cons ?_ ?_
              · exact xg_name 2 (nd_amount_fits)
              · refine xgs_cons ?_ ?_
                · exact xg_name 3 (nd_amount_fits)
                · exact xgs_nil
          · exact .no
          · refine se_cmp (op_cmps hr .le) bok_cmp ?_ ?_ (nomark _)
            · exact se_var 2
            · exact se_var 3
        · exact sa_nil
  · exact ss_nil
theorem ok_amount_fits {f : Addr} {fd : FuncData} (F : Fun K "amount_fits" "amount_fits" s_amount_fits f fd) (T : Tx K mg)  : FnOk P w K mg base (L2.CX P w) 1 f fd ["one", "other"] (spA K a_amount_fits) :=
  fn_ok F sc_amount_fits len_amount_fits (fun cdv A outer s H E hr => snd_amount_fits T  cdv A outer s H E hr) body_amount_fits
theorem snd_Book_look_room (T : Tx K mg) (c_Book_rises_in : MCal P w K mg base 1 .Book "rises_in" (spA K a_Book_rises_in)) (c_amount_fits : Cal P w K mg base 1 "amount_fits" (spA K a_amount_fits)) (c_amount_sum : Cal P w K mg base 1 "amount_sum" (spA K a_amount_sum)) (c_Book_load_at : MCal P w K mg base 2 .Book "load_at" (spA K a_Book_load_at)) (i_TooMuch : InitF P w K mg base 1 .TooMuch .time) {f : Addr} (cdv : Value) (A : Around) (outer : List Env) (s : Shared) (H : Hp) (E : XK) (hr : Room 2 (A.deeper (envOfC "Book.look_room" (defScope s_Book_look_room) s.heap.objs.size f cdv))) : SSs (cxOf (L2.CX P w) P w K mg base n_Book_look_room "Book.look_room" (defScope s_Book_look_room) f cdv A outer s H E) (defBody s_Book_look_room) u_Book_look_room := by
  refine ss_cons ?_ ?_
  · refine s_for ?_ ?_ ?_
    · refine si_val ?_
      · refine se_meth c_Book_rises_in hr ?_ ?_
        · exact se_var 0
        · refine sa_cons ?_ ?_
          · exact se_var 1
          · refine sa_cons ?_ ?_
            · exact se_var 2
            · exact sa_nil
    · exact xg_name 4 (nd_Book_look_room)
    · refine ss_cons ?_ ?_
      · refine s_if ?_ ?_ ?_
        · refine st_not ?_
          · refine st_val ?_
            · refine se_call c_amount_fits hr ?_
              · refine sa_cons ?_ ?_
                · refine se_call c_amount_sum hr ?_
                  · refine sa_cons ?_ ?_
                    · refine se_meth c_Book_load_at hr ?_ ?_
                      · exact se_var 0
                      · refine sa_cons ?_ ?_
                        · exact se_var 4
                        · exact sa_nil
                    · refine sa_cons ?_ ?_
                      · exact se_var 3
                      · exact sa_nil
                · refine sa_cons ?_ ?_
                  · refine se_fld (f := .room) T.TC T.TE ?_
                    · exact se_var 0
                  · exact sa_nil
        · refine ss_cons ?_ ?_
          · refine s_raise1 .TooMuch .time T.x_TooMuch i_TooMuch hr ?_ ?_
            · exact se_str
            · exact se_var 4
          · exact ss_nil
        · exact ss_nil
      · exact ss_nil
  · exact ss_nil
theorem ok_Book_look_room {f : Addr} {fd : FuncData} (F : Fun K "look_room" "Book.look_room" s_Book_look_room f fd) (T : Tx K mg) (c_Book_rises_in : MCal P w K mg base 1 .Book "rises_in" (spA K a_Book_rises_in)) (c_amount_fits : Cal P w K mg base 1 "amount_fits" (spA K a_amount_fits)) (c_amount_sum : Cal P w K mg base 1 "amount_sum" (spA K a_amount_sum)) (c_Book_load_at : MCal P w K mg base 2 .Book "load_at" (spA K a_Book_load_at)) (i_TooMuch : InitF P w K mg base 1 .TooMuch .time) : FnOk P w K mg base (L2.CX P w) 3 f fd ["self", "begin", "end", "amount"] (spA K a_Book_look_room) :=
  fn_ok F sc_Book_look_room len_Book_look_room (fun cdv A outer s H E hr => snd_Book_look_room T c_Book_rises_in c_amount_fits c_amount_sum c_Book_load_at i_TooMuch cdv A outer s H E hr) body_Book_look_room
theorem snd_Book_put_entry (T : Tx K mg) (c_Book_look_room : MCal P w K mg base 3 .Book "look_room" (spA K a_Book_look_room)) {f : Addr} (cdv : Value) (A : Around) (outer : List Env) (s : Shared) (H : Hp) (E : XK) (hr : Room 3 (A.deeper (envOfC "Book.put_entry" (defScope s_Book_put_entry) s.heap.objs.size f cdv))) : SSs (cxOf (L2.CX P w) P w K mg base n_Book_put_entry "Book.put_entry" (defScope s_Book_put_entry) f cdv A outer s H E) (defBody s_Book_put_entry) u_Book_put_entry := by
  refine ss_cons ?_ ?_
  · refine s_if ?_ ?_ ?_
    · refine st_cmp (op_ins hr) bok_in ?_ ?_ (by rfl)
      · exact se_var 1
      · refine se_fld (f := .written) T.TC T.TE ?_
        · exact se_var 0
    · refine ss_cons ?_ ?_
      · exact s_raise0 .Taken T.x_Taken T.x0_Taken
      · exact ss_nil
    · exact ss_nil
  · refine ss_cons ?_ ?_
    · refine s_expr ?_
      · refine se_meth c_Book_look_room hr ?_ ?_
        · exact se_var 0
        · refine sa_cons ?_ ?_
          · exact se_var 2
          · refine sa_cons ?_ ?_
            · exact se_var 3
            · refine sa_cons ?_ ?_
              · exact se_var 4
              · exact sa_nil
    · refine ss_cons ?_ ?_
      · refine s_iset hr ?_ ?_ ?_
        · refine se_fld (f := .written) T.TC T.TE ?_
          · exact se_var 0
        · exact se_var 1
        · refine se_tup ?_
          · refine sa_cons ?_ ?_
            · exact se_var 2
            · refine sa_cons ?_ ?_
              · exact se_var 3
              · refine sa_cons ?_ ?_
                · refine se_ty call_tuple_of bok_toTup T.b_tuple ?_
                  · refine sa_cons ?_ ?_
                    · exact se_var 4
                    · exact sa_nil
                · exact sa_nil
      · exact ss_nil
theorem ok_Book_put_entry {f : Addr} {fd : FuncData} (F : Fun K "put_entry" "Book.put_entry" s_Book_put_entry f fd) (T : Tx K mg) (c_Book_look_room : MCal P w K mg base 3 .Book "look_room" (spA K a_Book_look_room)) : FnOk P w K mg base (L2.CX P w) 4 f fd ["self", "key", "begin", "end", "amount"] (spA K a_Book_put_entry) :=
  fn_ok F sc_Book_put_entry len_Book_put_entry (fun cdv A outer s H E hr => snd_Book_put_entry T c_Book_look_room cdv A outer s H E hr) body_Book_put_entry
theorem snd_Book_row_of (T : Tx K mg)  {f : Addr} (cdv : Value) (A : Around) (outer : List Env) (s : Shared) (H : Hp) (E : XK) (hr : Room 0 (A.deeper (envOfC "Book.row_of" (defScope s_Book_row_of) s.heap.objs.size f cdv))) : SSs (cxOf (L2.CX P w) P w K mg base n_Book_row_of "Book.row_of" (defScope s_Book_row_of) f cdv A outer s H E) (defBody s_Book_row_of) u_Book_row_of := by
  refine ss_cons ?_ ?_
  · refine s_if ?_ ?_ ?_
    · refine st_cmp (op_notIns hr) bok_notIn ?_ ?_ (by rfl)
      · exact se_var 1
      · refine se_fld (f := .written) T.TC T.TE ?_
        · exact se_var 0
    · refine ss_cons ?_ ?_
      · exact s_raise0 .NoKey T.x_NoKey T.x0_NoKey
      · exact ss_nil
    · exact ss_nil
  · refine ss_cons ?_ ?_
    · refine s_ret ?_
      · refine se_ix hr ?_ ?_
        · refine se_fld (f := .written) T.TC T.TE ?_
          · exact se_var 0
        · exact se_var 1
    · exact ss_nil
theorem ok_Book_row_of {f : Addr} {fd : FuncData} (F : Fun K "row_of" "Book.row_of" s_Book_row_of f fd) (T : Tx K mg)  : FnOk P w K mg base (L2.CX P w) 1 f fd ["self", "key"] (spA K a_Book_row_of) :=
  fn_ok F sc_Book_row_of len_Book_row_of (fun cdv A outer s H E hr => snd_Book_row_of T  cdv A outer s H E hr) body_Book_row_of
theorem snd_Book_cut_entry (T : Tx K mg) (c_Book_row_of : MCal P w K mg base 1 .Book "row_of" (spA K a_Book_row_of)) {f : Addr} (cdv : Value) (A : Around) (outer : List Env) (s : Shared) (H : Hp) (E : XK) (hr : Room 1 (A.deeper (envOfC "Book.cut_entry" (defScope s_Book_cut_entry) s.heap.objs.size f cdv))) : SSs (cxOf (L2.CX P w) P w K mg base n_Book_cut_entry "Book.cut_entry" (defScope s_Book_cut_entry) f cdv A outer s H E) (defBody s_Book_cut_entry) u_Book_cut_entry := by
  refine ss_cons ?_ ?_
  · refine s_unp ?_ (xg_tup ?_)
    · refine se_meth c_Book_row_of hr ?_ ?_
      · exact se_var 0
      · refine sa_cons ?_ ?_
        · exact se_var 1
        · exact sa_nil
    · refine xgs_cons ?_ ?_
      · exact xg_name 3 (nd_Book_cut_entry)
      · refine xgs_cons ?_ ?_
        · exact xg_name 4 (nd_Book_cut_entry)
        · refine xgs_cons ?_ ?_
          · exact xg_name 5 (nd_Book_cut_entry)
          · exact xgs_nil
  · refine ss_cons ?_ ?_
    · refine s_if ?_ ?_ ?_
      · refine st_cmp (op_cmps hr .ge) bok_cmp ?_ ?_ (nomark _)
        · exact se_var 3
        · exact se_var 2
      · refine ss_cons ?_ ?_
        · refine s_expr ?_
          · refine se_bm k_pop ?_ ?_
            · refine se_fld (f := .written) T.TC T.TE ?_
              · exact se_var 0
            · refine sa_cons ?_ ?_
              · exact se_var 1
              · exact sa_nil
        · exact ss_nil
      · refine ss_cons ?_ ?_
        · refine s_iset hr ?_ ?_ ?_
          · refine se_fld (f := .written) T.TC T.TE ?_
            · exact se_var 0
          · exact se_var 1
          · refine se_tup ?_
            · refine sa_cons ?_ ?_
              · exact se_var 3
              · refine sa_cons ?_ ?_
                · refine se_bi (call_min2 rfl) bok_min2 T.b_min ?_
                  · refine sa_cons ?_ ?_
                    · exact se_var 4
                    · refine sa_cons ?_ ?_
                      · exact se_var 2
                      · exact sa_nil
                · refine sa_cons ?_ ?_
                  · exact se_var 5
                  · exact sa_nil
        · exact ss_nil
    · exact ss_nil
theorem ok_Book_cut_entry {f : Addr} {fd : FuncData} (F : Fun K "cut_entry" "Book.cut_entry" s_Book_cut_entry f fd) (T : Tx K mg) (c_Book_row_of : MCal P w K mg base 1 .Book "row_of" (spA K a_Book_row_of)) : FnOk P w K mg base (L2.CX P w) 2 f fd ["self", "key", "time"] (spA K a_Book_cut_entry) :=
  fn_ok F sc_Book_cut_entry len_Book_cut_entry (fun cdv A outer s H E hr => snd_Book_cut_entry T c_Book_row_of cdv A outer s H E hr) body_Book_cut_entry
theorem snd_Book_stretch_entry (T : Tx K mg) (c_Book_row_of : MCal P w K mg base 1 .Book "row_of" (spA K a_Book_row_of)) (c_Book_look_room : MCal P w K mg base 3 .Book "look_room" (spA K a_Book_look_room)) {f : Addr} (cdv : Value) (A : Around) (outer : List Env) (s : Shared) (H : Hp) (E : XK) (hr : Room 3 (A.deeper (envOfC "Book.stretch_entry" (defScope s_Book_stretch_entry) s.heap.objs.size f cdv))) : SSs (cxOf (L2.CX P w) P w K mg base n_Book_stretch_entry "Book.stretch_entry" (defScope s_Book_stretch_entry) f cdv A outer s H E) (defBody s_Book_stretch_entry) u_Book_stretch_entry := by
  refine ss_cons ?_ ?_
  · refine s_unp ?_ (xg_tup ?_)
    · refine se_meth c_Book_row_of hr ?_ ?_
      · exact se_var 0
      · refine sa_cons ?_ ?_
        · exact se_var 1
        · exact sa_nil
    · refine xgs_cons ?_ ?_
      · exact xg_name 3 (nd_Book_stretch_entry)
      · refine xgs_cons ?_ ?_
        · exact xg_name 4 (nd_Book_stretch_entry)
        · refine xgs_cons ?_ ?_
          · exact xg_name 5 (nd_Book_stretch_entry)
          · exact xgs_nil
  · refine ss_cons ?_ ?_
    · refine s_if ?_ ?_ ?_
      · refine st_cmp (op_cmps hr .lt) bok_cmp ?_ ?_ (nomark _)
        · exact se_var 4
        · exact se_var 2
      · refine ss_cons ?_ ?_
        · refine s_expr ?_
          · refine se_meth c_Book_look_room hr ?_ ?_
            · exact se_var 0
            · refine sa_cons ?_ ?_
              · exact se_var 4
              · refine sa_cons ?_ ?_
                · exact se_var 2
                · refine sa_cons ?_ ?_
                  · exact se_var 5
                  · exact sa_nil
        · refine ss_cons ?_ ?_
          · refine s_iset hr ?_ ?_ ?_
            · refine se_fld (f := .written) T.TC T.TE ?_
              · exact se_var 0
            · exact se_var 1
            · refine se_tup ?_
              · refine sa_cons ?_ ?_
                · exact se_var 3
                · refine sa_cons ?_ ?_
                  · exact se_var 2
                  · refine sa_cons ?_ ?_
                    · exact se_var 5
                    · exact sa_nil
          · exact ss_nil
      · exact ss_nil
    · exact ss_nil
theorem ok_Book_stretch_entry {f : Addr} {fd : FuncData} (F : Fun K "stretch_entry" "Book.stretch_entry" s_Book_stretch_entry f fd) (T : Tx K mg) (c_Book_row_of : MCal P w K mg base 1 .Book "row_of" (spA K a_Book_row_of)) (c_Book_look_room : MCal P w K mg base 3 .Book "look_room" (spA K a_Book_look_room)) : FnOk P w K mg base (L2.CX P w) 4 f fd ["self", "key", "end"] (spA K a_Book_stretch_entry) :=
  fn_ok F sc_Book_stretch_entry len_Book_stretch_entry (fun cdv A outer s H E hr => snd_Book_stretch_entry T c_Book_row_of c_Book_look_room cdv A outer s H E hr) body_Book_stretch_entry
theorem snd_Book_drop_entry (T : Tx K mg) (c_Book_row_of : MCal P w K mg base 1 .Book "row_of" (spA K a_Book_row_of)) {f : Addr} (cdv : Value) (A : Around) (outer : List Env) (s : Shared) (H : Hp) (E : XK) (hr : Room 1 (A.deeper (envOfC "Book.drop_entry" (defScope s_Book_drop_entry) s.heap.objs.size f cdv))) : SSs (cxOf (L2.CX P w) P w K mg base n_Book_drop_entry "Book.drop_entry" (defScope s_Book_drop_entry) f cdv A outer s H E) (defBody s_Book_drop_entry) u_Book_drop_entry := by
  refine ss_cons ?_ ?_
  · refine s_expr ?_
    · refine se_meth c_Book_row_of hr ?_ ?_
      · exact se_var 0
      · refine sa_cons ?_ ?_
        · exact se_var 1
        · exact sa_nil
  · refine ss_cons ?_ ?_
    · refine s_expr ?_
      · refine se_bm k_pop ?_ ?_
        · refine se_fld (f := .written) T.TC T.TE ?_
          · exact se_var 0
        · refine sa_cons ?_ ?_
          · exact se_var 1
          · exact sa_nil
    · exact ss_nil
theorem ok_Book_drop_entry {f : Addr} {fd : FuncData} (F : Fun K "drop_entry" "Book.drop_entry" s_Book_drop_entry f fd) (T : Tx K mg) (c_Book_row_of : MCal P w K mg base 1 .Book "row_of" (spA K a_Book_row_of)) : FnOk P w K mg base (L2.CX P w) 2 f fd ["self", "key"] (spA K a_Book_drop_entry) :=
  fn_ok F sc_Book_drop_entry len_Book_drop_entry (fun cdv A outer s H E hr => snd_Book_drop_entry T c_Book_row_of cdv A outer s H E hr) body_Book_drop_entry
theorem snd_Book_drop_past (T : Tx K mg)  {f : Addr} (cdv : Value) (A : Around) (outer : List Env) (s : Shared) (H : Hp) (E : XK) (hr : Room 0 (A.deeper (envOfC "Book.drop_past" (defScope s_Book_drop_past) s.heap.objs.size f cdv))) : SSs (cxOf (L2.CX P w) P w K mg base n_Book_drop_past "Book.drop_past" (defScope s_Book_drop_past) f cdv A outer s H E) (defBody s_Book_drop_past) u_Book_drop_past := by
  refine ss_cons ?_ ?_
  · refine s_set ?_ nd_Book_drop_past
    · refine se_bi (cr_srt hr rfl) bok_sorted T.b_sorted ?_
      · refine sa_cons ?_ ?_
        · refine se_lock ?_
          · refine se_lc (own := [("key", 3), ("row", 4)]) (nd_Book_drop_past) ?_ (blkOk_by (N := n_Book_drop_past) (sc := defScope s_Book_drop_past) (by decide +kernel)) rfl (fun s H C cl fp => ?_) ?_ (fun s H C cl fp => ?_)
            · refine si_items ?_
              · refine se_fld (f := .written) T.TC T.TE ?_
                · exact se_var 0
            · refine xg_tup ?_
              · refine xgs_cons ?_ ?_
                · exact xg_name 3 (nd_Book_drop_past)
                · refine xgs_cons ?_ ?_
                  · exact xg_name 4 (nd_Book_drop_past)
                  · exact xgs_nil
            · refine .one fun s H C cl fp => ?_
              · refine st_cmp (op_cmps hr .le) bok_cmp ?_ ?_ (nomark _)
                · refine se_ix hr ?_ ?_
                  · exact se_var 4
                  · exact se_int
                · exact se_var 1
            · exact se_var 3
        · exact sa_nil
  · refine ss_cons ?_ ?_
    · refine s_for ?_ ?_ ?_
      · refine si_val ?_
        · exact se_var 2
      · exact xg_name 3 (nd_Book_drop_past)
      · refine ss_cons ?_ ?_
        · refine s_expr ?_
          · refine se_bm k_pop ?_ ?_
            · refine se_fld (f := .written) T.TC T.TE ?_
              · exact se_var 0
            · refine sa_cons ?_ ?_
              · exact se_var 3
              · exact sa_nil
        · exact ss_nil
    · refine ss_cons ?_ ?_
      · refine s_ret ?_
        · exact se_var 2
      · exact ss_nil
theorem ok_Book_drop_past {f : Addr} {fd : FuncData} (F : Fun K "drop_past" "Book.drop_past" s_Book_drop_past f fd) (T : Tx K mg)  : FnOk P w K mg base (L2.CX P w) 1 f fd ["self", "time"] (spA K a_Book_drop_past) :=
  fn_ok F sc_Book_drop_past len_Book_drop_past (fun cdv A outer s H E hr => snd_Book_drop_past T  cdv A outer s H E hr) body_Book_drop_past
theorem snd__law_called (T : Tx K mg) (c_Book_put_entry : MCal P w K mg base 4 .Book "put_entry" (spA K a_Book_put_entry)) (c_Book_cut_entry : MCal P w K mg base 2 .Book "cut_entry" (spA K a_Book_cut_entry)) (c_Book_stretch_entry : MCal P w K mg base 4 .Book "stretch_entry" (spA K a_Book_stretch_entry)) (c_Book_drop_entry : MCal P w K mg base 2 .Book "drop_entry" (spA K a_Book_drop_entry)) (c_Book_drop_past : MCal P w K mg base 1 .Book "drop_past" (spA K a_Book_drop_past)) {f : Addr} (cdv : Value) (A : Around) (outer : List Env) (s : Shared) (H : Hp) (E : XK) (hr : Room 4 (A.deeper (envOfC "_law_called" (defScope s__law_called) s.heap.objs.size f cdv))) : SSs (cxOf (L2.CX P w) P w K mg base n__law_called "_law_called" (defScope s__law_called) f cdv A outer s H E) (defBody s__law_called) u__law_called := by
  refine ss_cut ?_ ?_
  · refine s_if ?_ ?_ ?_
    · refine st_cmp (op_eqs hr) bok_eq ?_ ?_ (nomark _)
      · refine se_ix hr ?_ ?_
        · exact se_var 1
        · exact se_int
      · exact se_str
    · refine ss_cons ?_ ?_
      · refine s_expr ?_
        · refine se_meth c_Book_put_entry hr ?_ ?_
          · exact se_var 0
          · refine sa_cons ?_ ?_
            · refine se_ix hr ?_ ?_
              · exact se_var 1
              · exact se_int
            · refine sa_cons ?_ ?_
              · refine se_ix hr ?_ ?_
                · exact se_var 1
                · exact se_int
              · refine sa_cons ?_ ?_
                · refine se_ix hr ?_ ?_
                  · exact se_var 1
                  · exact se_int
                · refine sa_cons ?_ ?_
                  · refine se_ix hr ?_ ?_
                    · exact se_var 1
                    · exact se_int
                  · exact sa_nil
      · exact ss_nil
    · refine ss_cons ?_ ?_
      · refine s_if ?_ ?_ ?_
        · refine st_cmp (op_eqs hr) bok_eq ?_ ?_ (nomark _)
          · refine se_ix hr ?_ ?_
            · exact se_var 1
            · exact se_int
          · exact se_str
        · refine ss_cons ?_ ?_
          · refine s_expr ?_
            · refine se_meth c_Book_cut_entry hr ?_ ?_
              · exact se_var 0
              · refine sa_cons ?_ ?_
                · refine se_ix hr ?_ ?_
                  · exact se_var 1
                  · exact se_int
                · refine sa_cons ?_ ?_
                  · refine se_ix hr ?_ ?_
                    · exact se_var 1
                    · exact se_int
                  · exact sa_nil
          · exact ss_nil
        · refine ss_cons ?_ ?_
          · refine s_if ?_ ?_ ?_
            · refine st_cmp (op_eqs hr) bok_eq ?_ ?_ (nomark _)
              · refine se_ix hr ?_ ?_
                · exact se_var 1
                · exact se_int
              · exact se_str
            · refine ss_cons ?_ ?_
              · refine s_expr ?_
                · refine se_meth c_Book_stretch_entry hr ?_ ?_
                  · exact se_var 0
                  · refine sa_cons ?_ ?_
                    · refine se_ix hr ?_ ?_
                      · exact se_var 1
                      · exact se_int
                    · refine sa_cons ?_ ?_
                      · refine se_ix hr ?_ ?_
                        · exact se_var 1
                        · exact se_int
                      · exact sa_nil
              · exact ss_nil
            · refine ss_cons ?_ ?_
              · refine s_if ?_ ?_ ?_
                · refine st_cmp (op_eqs hr) bok_eq ?_ ?_ (nomark _)
                  · refine se_ix hr ?_ ?_
                    · exact se_var 1
                    · exact se_int
                  · exact se_str
                · refine ss_cons ?_ ?_
                  · refine s_expr ?_
                    · refine se_meth c_Book_drop_entry hr ?_ ?_
                      · exact se_var 0
                      · refine sa_cons ?_ ?_
                        · refine se_ix hr ?_ ?_
                          · exact se_var 1
                          · exact se_int
                        · exact sa_nil
                  · exact ss_nil
                · refine ss_cons ?_ ?_
                  · refine s_ret ?_
                    · refine se_meth c_Book_drop_past hr ?_ ?_
                      · exact se_var 0
                      · refine sa_cons ?_ ?_
                        · refine se_ix hr ?_ ?_
                          · exact se_var 1
                          · exact se_int
                        · exact sa_nil
                  · exact ss_nil
              · exact ss_nil
          · exact ss_nil
      · exact ss_nil
  · refine ss_cons ?_ ?_
    · refine s_ret ?_
      · exact se_non
    · exact ss_nil
theorem ok__law_called {f : Addr} {fd : FuncData} (F : Fun K "_law_called" "_law_called" s__law_called f fd) (T : Tx K mg) (c_Book_put_entry : MCal P w K mg base 4 .Book "put_entry" (spA K a_Book_put_entry)) (c_Book_cut_entry : MCal P w K mg base 2 .Book "cut_entry" (spA K a_Book_cut_entry)) (c_Book_stretch_entry : MCal P w K mg base 4 .Book "stretch_entry" (spA K a_Book_stretch_entry)) (c_Book_drop_entry : MCal P w K mg base 2 .Book "drop_entry" (spA K a_Book_drop_entry)) (c_Book_drop_past : MCal P w K mg base 1 .Book "drop_past" (spA K a_Book_drop_past)) : FnOk P w K mg base (L2.CX P w) 5 f fd ["_law_book", "_law_deed_here"] (spA K a__law_called) :=
  fn_ok F sc__law_called len__law_called (fun cdv A outer s H E hr => snd__law_called T c_Book_put_entry c_Book_cut_entry c_Book_stretch_entry c_Book_drop_entry c_Book_drop_past cdv A outer s H E hr) body__law_called
theorem snd__law_word_5e12 (T : Tx K mg)  {f : Addr} (cdv : Value) (A : Around) (outer : List Env) (s : Shared) (H : Hp) (E : XK) (hr : Room 0 (A.deeper (envOfC "_law_word" (defScope s__law_word_5e12) s.heap.objs.size f cdv))) : SSs (cxOf (L2.CX P w) P w K mg base n__law_word_5e12 "_law_word" (defScope s__law_word_5e12) f cdv A outer s H E) (defBody s__law_word_5e12) u__law_word_5e12 := by
  refine ss_cons ?_ ?_
  · refine s_set ?_ nd__law_word_5e12
    · refine se_lst ?_
      · refine sa_cons ?_ ?_
        · exact se_str
        · refine sa_cons ?_ ?_
          · exact se_str
          · refine sa_cons ?_ ?_
            · exact se_str
            · refine sa_cons ?_ ?_
              · exact se_str
              · refine sa_cons ?_ ?_
                · exact se_str
                · refine sa_cons ?_ ?_
                  · exact se_str
                  · refine sa_cons ?_ ?_
                    · exact se_str
                    · refine sa_cons ?_ ?_
                      · exact se_str
                      · refine sa_cons ?_ ?_
                        · exact se_str
                        · refine sa_cons ?_ ?_
                          · exact se_str
                          · exact sa_nil
  · refine ss_cons ?_ ?_
    · refine s_set ?_ nd__law_word_5e12
      · refine se_bin op_adds bok_add ?_ ?_
        · exact se_var 1
        · refine se_lst ?_
          · refine sa_cons ?_ ?_
            · exact se_str
            · refine sa_cons ?_ ?_
              · exact se_str
              · exact sa_nil
    · refine ss_cons ?_ ?_
      · refine s_set ?_ nd__law_word_5e12
        · refine se_lst ?_
          · refine sa_cons ?_ ?_
            · refine se_isX .Taken T.b_isinstance T.x_Taken T.TX T.TI_Taken ?_
              · exact se_var 0
            · refine sa_cons ?_ ?_
              · refine se_isX .NoKey T.b_isinstance T.x_NoKey T.TX T.TI_NoKey ?_
                · exact se_var 0
              · refine sa_cons ?_ ?_
                · refine se_isX .TooMuch T.b_isinstance T.x_TooMuch T.TX T.TI_TooMuch ?_
                  · exact se_var 0
                · refine sa_cons ?_ ?_
                  · refine se_isX .NoHouse T.b_isinstance T.x_NoHouse T.TX T.TI_NoHouse ?_
                    · exact se_var 0
                  · exact sa_nil
      · refine ss_cons ?_ ?_
        · refine s_set ?_ nd__law_word_5e12
          · refine se_bin op_adds bok_add ?_ ?_
            · exact se_var 2
            · refine se_lst ?_
              · refine sa_cons ?_ ?_
                · refine se_isX .NoGang T.b_isinstance T.x_NoGang T.TX T.TI_NoGang ?_
                  · exact se_var 0
                · refine sa_cons ?_ ?_
                  · refine se_isX .NoGuild T.b_isinstance T.x_NoGuild T.TX T.TI_NoGuild ?_
                    · exact se_var 0
                  · refine sa_cons ?_ ?_
                    · refine se_isX .NoKind T.b_isinstance T.x_NoKind T.TX T.TI_NoKind ?_
                      · exact se_var 0
                    · refine sa_cons ?_ ?_
                      · refine se_isX .InUse T.b_isinstance T.x_InUse T.TX T.TI_InUse ?_
                        · exact se_var 0
                      · exact sa_nil
        · refine ss_cons ?_ ?_
          · refine s_set ?_ nd__law_word_5e12
            · refine se_bin op_adds bok_add ?_ ?_
              · exact se_var 2
              · refine se_lst ?_
                · refine sa_cons ?_ ?_
                  · refine se_isX .TooMany T.b_isinstance T.x_TooMany T.TX T.TI_TooMany ?_
                    · exact se_var 0
                  · refine sa_cons ?_ ?_
                    · refine se_isX .NoPlan T.b_isinstance T.x_NoPlan T.TX T.TI_NoPlan ?_
                      · exact se_var 0
                    · refine sa_cons ?_ ?_
                      · refine se_isX .Past T.b_isinstance T.x_Past T.TX T.TI_Past ?_
                        · exact se_var 0
                      · refine sa_cons ?_ ?_
                        · refine se_isX .BadRow T.b_isinstance T.x_BadRow T.TX T.TI_BadRow ?_
                          · exact se_var 0
                        · exact sa_nil
          · refine ss_cons ?_ ?_
            · refine s_setLc (own := [("_law_word_here", 4), ("_law_one", 5)]) (nd__law_word_5e12) ?_ (blkOk_by (N := n__law_word_5e12) (sc := defScope s__law_word_5e12) (by decide +kernel)) rfl (fun s H C cl fp => ?_) ?_ (fun s H C cl fp => ?_)
              · refine si_zip2 T.b_zip ?_ ?_
                · exact se_var 1
                · exact se_var 2
              · refine xg_tup ?_
                · refine xgs_cons ?_ ?_
                  · exact xg_name 4 (nd__law_word_5e12)
                  · refine xgs_cons ?_ ?_
                    · exact xg_name 5 (nd__law_word_5e12)
                    · exact xgs_nil
              · refine .one fun s H C cl fp => ?_
                · refine st_val ?_
                  · exact se_var 5
              · exact se_var 4
            · refine ss_cons ?_ ?_
              · refine s_if ?_ ?_ ?_
                · refine SWh.st ?_
                  · refine sw_or ?_ ?_
                    · refine st_cmp (op_nes hr) bok_ne ?_ ?_ (nomark _)
                      · refine se_bi cr_len bok_len T.b_len ?_
                        · refine sa_cons ?_ ?_
                          · exact se_var 3
                          · exact sa_nil
                      · exact se_int
                    · refine sw_or1 ?_
                      · refine st_not ?_
                        · refine st_val ?_
                          · refine se_isVE T.b_isinstance T.b_ValueError T.TX T.TV ?_
                            · exact se_var 0
                · refine ss_cons ?_ ?_
                  · refine s_ret ?_
                    · exact se_str
                  · exact ss_nil
                · exact ss_nil
              · refine ss_cons ?_ ?_
                · refine s_ret ?_
                  · refine se_ix hr ?_ ?_
                    · exact se_var 3
                    · exact se_int
                · exact ss_nil
theorem ok__law_word_5e12 {f : Addr} {fd : FuncData} (F : Fun K "_law_word" "_law_word" s__law_word_5e12 f fd) (T : Tx K mg)  : FnOk P w K mg base (L2.CX P w) 1 f fd ["_law_e"] (spA K a__law_word_5e12) :=
  fn_ok F sc__law_word_5e12 len__law_word_5e12 (fun cdv A outer s H E hr => snd__law_word_5e12 T  cdv A outer s H E hr) body__law_word_5e12
theorem snd__law_told_0ead (T : Tx K mg) (c__law_called : Cal P w K mg base 5 "_law_called" (spA K a__law_called)) (c__law_word_5e12 : Cal P w K mg base 1 "_law_word" (spA K a__law_word_5e12)) {f : Addr} (cdv : Value) (A : Around) (outer : List Env) (s : Shared) (H : Hp) (E : XK) (hr : Room 5 (A.deeper (envOfC "_law_told" (defScope s__law_told_0ead) s.heap.objs.size f cdv))) : SSs (cxOf (L2.CX P w) P w K mg base n__law_told_0ead "_law_told" (defScope s__law_told_0ead) f cdv A outer s H E) (defBody s__law_told_0ead) u__law_told_0ead := by
  refine ss_cons ?_ ?_
  · refine s_unp ?_ (xg_tup ?_)
    · refine se_tup ?_
      · refine sa_cons ?_ ?_
        · exact se_non
        · refine sa_cons ?_ ?_
          · exact se_non
          · exact sa_nil
    · refine xgs_cons ?_ ?_
      · exact xg_name 2 (nd__law_told_0ead)
      · refine xgs_cons ?_ ?_
        · exact xg_name 3 (nd__law_told_0ead)
        · exact xgs_nil
  · refine ss_cut ?_ ?_
    · refine s_try .HallError (some ("_law_e", 4)) T.x_HallError T.TS_HallError nd__law_told_0ead (fun pn xe hp => ?_) (fun a pn => ?_)
      · refine ss_cons ?_ ?_
        · refine s_set ?_ nd__law_told_0ead
          · refine se_call c__law_called hr ?_
            · refine sa_cons ?_ ?_
              · exact se_var 0
              · refine sa_cons ?_ ?_
                · exact se_var 1
                · exact sa_nil
        · exact ss_nil
      · refine ss_cons ?_ ?_
        · refine s_set ?_ nd__law_told_0ead
          · exact se_var 4
        · exact ss_nil
    · refine ss_cons ?_ ?_
      · refine s_if ?_ ?_ ?_
        · refine st_cmp op_iss bok_is ?_ ?_ (nomark _)
          · exact se_var 3
          · exact se_non
        · refine ss_cons ?_ ?_
          · refine s_ret ?_
            · refine se_tup ?_
              · refine sa_cons ?_ ?_
                · exact se_str
                · refine sa_cons ?_ ?_
                  · exact se_var 2
                  · exact sa_nil
          · exact ss_nil
        · exact ss_nil
      · refine ss_cons ?_ ?_
        · refine s_ret ?_
          · refine se_tup ?_
            · refine sa_cons ?_ ?_
              · refine se_call c__law_word_5e12 hr ?_
                · refine sa_cons ?_ ?_
                  · exact se_var 3
                  · exact sa_nil
              · refine sa_cons ?_ ?_
                · refine se_ite ?_ ?_ ?_
                  · refine st_val ?_
                    · refine se_isX .TooMuch T.b_isinstance T.x_TooMuch T.TX T.TI_TooMuch ?_
                      · exact se_var 3
                  · refine se_fld (f := .time) T.TC T.TE ?_
                    · exact se_var 3
                  · exact se_non
                · exact sa_nil
        · exact ss_nil
theorem ok__law_told_0ead {f : Addr} {fd : FuncData} (F : Fun K "_law_told" "_law_told" s__law_told_0ead f fd) (T : Tx K mg) (c__law_called : Cal P w K mg base 5 "_law_called" (spA K a__law_called)) (c__law_word_5e12 : Cal P w K mg base 1 "_law_word" (spA K a__law_word_5e12)) : FnOk P w K mg base (L2.CX P w) 6 f fd ["_law_book", "_law_deed_here"] (spA K a__law_told_0ead) :=
  fn_ok F sc__law_told_0ead len__law_told_0ead (fun cdv A outer s H E hr => snd__law_told_0ead T c__law_called c__law_word_5e12 cdv A outer s H E hr) body__law_told_0ead
theorem snd__law_load_eb54 (T : Tx K mg)  {f : Addr} (cdv : Value) (A : Around) (outer : List Env) (s : Shared) (H : Hp) (E : XK) (hr : Room 0 (A.deeper (envOfC "_law_load" (defScope s__law_load_eb54) s.heap.objs.size f cdv))) : SSs (cxOf (L2.CX P w) P w K mg base n__law_load_eb54 "_law_load" (defScope s__law_load_eb54) f cdv A outer s H E) (defBody s__law_load_eb54) u__law_load_eb54 := by
  refine ss_cons ?_ ?_
  · refine s_set ?_ nd__law_load_eb54
    · refine se_bin op_muls bok_mul ?_ ?_
      · refine se_lst ?_
        · refine sa_cons ?_ ?_
          · exact se_int
          · exact sa_nil
      · refine se_bi cr_len bok_len T.b_len ?_
        · refine sa_cons ?_ ?_
          · refine se_ix hr ?_ ?_
            · exact se_var 0
            · exact se_str
          · exact sa_nil
  · refine ss_cons ?_ ?_
    · refine s_lock ?_
      · refine s_for ?_ ?_ ?_
        · refine si_vals ?_
          · refine se_ix hr ?_ ?_
            · exact se_var 0
            · exact se_str
        · refine xg_tup ?_
          · refine xgs_cons ?_ ?_
            · exact xg_name 3 (nd__law_load_eb54)
            · refine xgs_cons ?_ ?_
              · exact xg_name 4 (nd__law_load_eb54)
              · refine xgs_cons ?_ ?_
                · exact xg_name 5 (nd__law_load_eb54)
                · exact xgs_nil
        · refine ss_cons ?_ ?_
          · refine s_if ?_ ?_ ?_
            · refine st_chain .le .lt ?_ ?_ ?_
              · exact se_var 3
              · exact se_var 1
              · exact se_var 4
            · refine ss_cons ?_ ?_
              · refine s_setLc (own := [("_law_one", 6), ("_law_other", 7)]) (nd__law_load_eb54) ?_ (blkOk_by (N := n__law_load_eb54) (sc := defScope s__law_load_eb54) (by decide +kernel)) rfl (fun s H C cl fp => ?_) ?_ (fun s H C cl fp => ?_)
                · refine si_zip2 T.b_zip ?_ ?_
                  · exact se_var 2
                  · exact se_var 5
                · refine xg_tup ?_
                  · refine xgs_cons ?_ ?_
                    · exact xg_name 6 (nd__law_load_eb54)
                    · refine xgs_cons ?_ ?_
                      · exact xg_name 7 (nd__law_load_eb54)
                      · exact xgs_nil
                · exact .no
                · refine se_bin op_adds bok_add ?_ ?_
                  · exact se_var 6
                  · exact se_var 7
              · exact ss_nil
            · exact ss_nil
          · exact ss_nil
    · refine ss_cons ?_ ?_
      · refine s_ret ?_
        · refine se_ty call_tuple_of bok_toTup T.b_tuple ?_
          · refine sa_cons ?_ ?_
            · exact se_var 2
            · exact sa_nil
      · exact ss_nil
theorem ok__law_load_eb54 {f : Addr} {fd : FuncData} (F : Fun K "_law_load" "_law_load" s__law_load_eb54 f fd) (T : Tx K mg)  : FnOk P w K mg base (L2.CX P w) 1 f fd ["_law_m", "_law_time_here"] (spA K a__law_load_eb54) :=
  fn_ok F sc__law_load_eb54 len__law_load_eb54 (fun cdv A outer s H E hr => snd__law_load_eb54 T  cdv A outer s H E hr) body__law_load_eb54
theorem snd__law_first_more (T : Tx K mg) (c__law_edges : Cal P w K mg base 1 "_law_edges" (spA K a__law_edges)) (c__law_load_eb54 : Cal P w K mg base 1 "_law_load" (spA K a__law_load_eb54)) {f : Addr} (cdv : Value) (A : Around) (outer : List Env) (s : Shared) (H : Hp) (E : XK) (hr : Room 1 (A.deeper (envOfC "_law_first_more" (defScope s__law_first_more) s.heap.objs.size f cdv))) : SSs (cxOf (L2.CX P w) P w K mg base n__law_first_more "_law_first_more" (defScope s__law_first_more) f cdv A outer s H E) (defBody s__law_first_more) u__law_first_more := by
  refine ss_cons ?_ ?_
  · refine s_for ?_ ?_ ?_
    · refine si_val ?_
      · refine se_bin op_adds bok_add ?_ ?_
        · refine se_lst ?_
          · refine sa_cons ?_ ?_
            · exact se_var 1
            · exact sa_nil
        · refine se_lc (own := [("_law_edge", 5)]) (nd__law_first_more) ?_ (blkOk_by (N := n__law_first_more) (sc := defScope s__law_first_more) (by decide +kernel)) rfl (fun s H C cl fp => ?_) ?_ (fun s H C cl fp => ?_)
          · refine si_val ?_
            · refine se_call c__law_edges hr ?_
              · refine sa_cons ?_ ?_
                · exact se_var 0
                · exact sa_nil
          · exact xg_name 5 (nd__law_first_more)
          · refine .one fun s H C cl fp => ?_
            · refine st_chain .lt .lt ?_ ?_ ?_
              · exact se_var 1
              · exact se_var 5
              · exact se_var 2
          · exact se_var 5
    · exact xg_name 4 (nd__law_first_more)
    · refine ss_cons ?_ ?_
      · refine s_if ?_ ?_ ?_
        · refine st_val ?_
          · refine se_bi (cr_any rfl) bok_any T.b_any ?_
            · refine sa_cons ?_ ?_
              · refine se_lc (own := [("_law_a", 6), ("_law_b", 7), ("_law_c", 8)]) (nd__law_first_more) ?_ (blkOk_by (N := n__law_first_more) (sc := defScope s__law_first_more) (by decide +kernel)) rfl (fun s H C cl fp => ?_) ?_ (fun s H C cl fp => ?_)
                · refine si_zip3 T.b_zip ?_ ?_ ?_
                  · refine se_call c__law_load_eb54 hr ?_
                    · refine sa_cons ?_ ?_
                      · exact se_var 0
                      · refine sa_cons ?_ ?_
                        · exact se_var 4
                        · exact sa_nil
                  · exact se_var 3
                  · refine se_ix hr ?_ ?_
                    · exact se_var 0
                    · exact se_str
                · refine xg_tup ?_
                  · refine xgs_cons ?_ ?_
                    · exact xg_name 6 (nd__law_first_more)
                    · refine xgs_cons ?_ ?_
                      · exact xg_name 7 (nd__law_first_more)
                      · refine xgs_cons ?_ ?_
                        · exact xg_name 8 (nd__law_first_more)
                        · exact xgs_nil
                · exact .no
                · refine se_cmp (op_cmps hr .gt) bok_cmp ?_ ?_ (nomark _)
                  · refine se_bin op_adds bok_add ?_ ?_
                    · exact se_var 6
                    · exact se_var 7
                  · exact se_var 8
              · exact sa_nil
        · refine ss_cons ?_ ?_
          · refine s_ret ?_
            · exact se_var 4
          · exact ss_nil
        · exact ss_nil
      · exact ss_nil
  · refine ss_cons ?_ ?_
    · refine s_ret ?_
      · exact se_non
    · exact ss_nil
theorem ok__law_first_more {f : Addr} {fd : FuncData} (F : Fun K "_law_first_more" "_law_first_more" s__law_first_more f fd) (T : Tx K mg) (c__law_edges : Cal P w K mg base 1 "_law_edges" (spA K a__law_edges)) (c__law_load_eb54 : Cal P w K mg base 1 "_law_load" (spA K a__law_load_eb54)) : FnOk P w K mg base (L2.CX P w) 2 f fd ["_law_m", "_law_begin", "_law_end", "_law_amount_here"] (spA K a__law_first_more) :=
  fn_ok F sc__law_first_more len__law_first_more (fun cdv A outer s H E hr => snd__law_first_more T c__law_edges c__law_load_eb54 cdv A outer s H E hr) body__law_first_more
theorem snd__law_put_due (T : Tx K mg) (c__law_first_more : Cal P w K mg base 2 "_law_first_more" (spA K a__law_first_more)) {f : Addr} (cdv : Value) (A : Around) (outer : List Env) (s : Shared) (H : Hp) (E : XK) (hr : Room 2 (A.deeper (envOfC "_law_put_due" (defScope s__law_put_due) s.heap.objs.size f cdv))) : SSs (cxOf (L2.CX P w) P w K mg base n__law_put_due "_law_put_due" (defScope s__law_put_due) f cdv A outer s H E) (defBody s__law_put_due) u__law_put_due := by
  refine ss_cons ?_ ?_
  · refine s_unp ?_ (xg_tup ?_)
    · exact se_var 1
    · refine xgs_cons ?_ ?_
      · exact xg_name 2 (nd__law_put_due)
      · refine xgs_cons ?_ ?_
        · exact xg_name 3 (nd__law_put_due)
        · refine xgs_cons ?_ ?_
          · exact xg_name 4 (nd__law_put_due)
          · refine xgs_cons ?_ ?_
            · exact xg_name 5 (nd__law_put_due)
            · refine xgs_cons ?_ ?_
              · exact xg_name 6 (nd__law_put_due)
              · exact xgs_nil
  · refine ss_cons ?_ ?_
    · refine s_if ?_ ?_ ?_
      · refine st_cmp (op_ins hr) bok_in ?_ ?_ (by rfl)
        · exact se_var 3
        · refine se_ix hr ?_ ?_
          · exact se_var 0
          · exact se_str
      · refine ss_cons ?_ ?_
        · refine s_ret ?_
          · refine se_tup ?_
            · refine sa_cons ?_ ?_
              · exact se_str
              · refine sa_cons ?_ ?_
                · exact se_non
                · exact sa_nil
        · exact ss_nil
      · exact ss_nil
    · refine ss_cons ?_ ?_
      · refine s_set ?_ nd__law_put_due
        · refine se_call c__law_first_more hr ?_
          · refine sa_cons ?_ ?_
            · exact se_var 0
            · refine sa_cons ?_ ?_
              · exact se_var 4
              · refine sa_cons ?_ ?_
                · exact se_var 5
                · refine sa_cons ?_ ?_
                  · exact se_var 6
                  · exact sa_nil
      · refine ss_cons ?_ ?_
        · refine s_if ?_ ?_ ?_
          · refine st_cmp op_notN bok_isnt ?_ ?_ (nomark _)
            · exact se_var 7
            · exact se_non
          · refine ss_cons ?_ ?_
            · refine s_ret ?_
              · refine se_tup ?_
                · refine sa_cons ?_ ?_
                  · exact se_str
                  · refine sa_cons ?_ ?_
                    · exact se_var 7
                    · exact sa_nil
            · exact ss_nil
          · exact ss_nil
        · refine ss_cons ?_ ?_
          · refine s_iset hr ?_ ?_ ?_
            · refine se_ix hr ?_ ?_
              · exact se_var 0
              · exact se_str
            · exact se_var 3
            · refine se_tup ?_
              · refine sa_cons ?_ ?_
                · exact se_var 4
                · refine sa_cons ?_ ?_
                  · exact se_var 5
                  · refine sa_cons ?_ ?_
                    · exact se_var 6
                    · exact sa_nil
          · refine ss_cons ?_ ?_
            · refine s_ret ?_
              · refine se_tup ?_
                · refine sa_cons ?_ ?_
                  · exact se_str
                  · refine sa_cons ?_ ?_
                    · exact se_non
                    · exact sa_nil
            · exact ss_nil
theorem ok__law_put_due {f : Addr} {fd : FuncData} (F : Fun K "_law_put_due" "_law_put_due" s__law_put_due f fd) (T : Tx K mg) (c__law_first_more : Cal P w K mg base 2 "_law_first_more" (spA K a__law_first_more)) : FnOk P w K mg base (L2.CX P w) 3 f fd ["_law_m", "_law_deed_here"] (spA K a__law_put_due) :=
  fn_ok F sc__law_put_due len__law_put_due (fun cdv A outer s H E hr => snd__law_put_due T c__law_first_more cdv A outer s H E hr) body__law_put_due
theorem snd__law_due_3a95 (T : Tx K mg) (c__law_put_due : Cal P w K mg base 3 "_law_put_due" (spA K a__law_put_due)) (c__law_first_more : Cal P w K mg base 2 "_law_first_more" (spA K a__law_first_more)) {f : Addr} (cdv : Value) (A : Around) (outer : List Env) (s : Shared) (H : Hp) (E : XK) (hr : Room 3 (A.deeper (envOfC "_law_due" (defScope s__law_due_3a95) s.heap.objs.size f cdv))) : SSs (cxOf (L2.CX P w) P w K mg base n__law_due_3a95 "_law_due" (defScope s__law_due_3a95) f cdv A outer s H E) (defBody s__law_due_3a95) u__law_due_3a95 := by
  refine ss_cons ?_ ?_
  · refine s_set ?_ nd__law_due_3a95
    · refine se_ix hr ?_ ?_
      · exact se_var 0
      · exact se_str
  · refine ss_cons ?_ ?_
    · refine s_unp ?_ (xg_tup ?_)
      · refine se_slH ?_ ?_
        · exact se_var 1
        · exact se_int
      · refine xgs_cons ?_ ?_
        · exact xg_name 3 (nd__law_due_3a95)
        · refine xgs_cons ?_ ?_
          · exact xg_name 4 (nd__law_due_3a95)
          · exact xgs_nil
    · refine ss_cons ?_ ?_
      · refine s_if ?_ ?_ ?_
        · refine st_cmp (op_eqs hr) bok_eq ?_ ?_ (nomark _)
          · exact se_var 3
          · exact se_str
        · refine ss_cons ?_ ?_
          · refine s_set ?_ nd__law_due_3a95
            · refine se_bi (cr_srt hr rfl) bok_sorted T.b_sorted ?_
              · refine sa_cons ?_ ?_
                · refine se_lock ?_
                  · refine se_lc (own := [("_law_name_here", 6)]) (nd__law_due_3a95) ?_ (blkOk_by (N := n__law_due_3a95) (sc := defScope s__law_due_3a95) (by decide +kernel)) rfl (fun s H C cl fp => ?_) ?_ (fun s H C cl fp => ?_)
                    · refine si_keys ?_
                      · exact se_var 2
                    · exact xg_name 6 (nd__law_due_3a95)
                    · refine .one fun s H C cl fp => ?_
                      · refine st_cmp (op_cmps hr .le) bok_cmp ?_ ?_ (nomark _)
                        · refine se_ix hr ?_ ?_
                          · refine se_ix hr ?_ ?_
                            · exact se_var 2
                            · exact se_var 6
                          · exact se_int
                        · exact se_var 4
                    · exact se_var 6
                · exact sa_nil
          · refine ss_cons ?_ ?_
            · refine s_for ?_ ?_ ?_
              · refine si_val ?_
                · exact se_var 5
              · exact xg_name 6 (nd__law_due_3a95)
              · refine ss_cons ?_ ?_
                · refine s_expr ?_
                  · refine se_bm k_pop ?_ ?_
                    · exact se_var 2
                    · refine sa_cons ?_ ?_
                      · exact se_var 6
                      · exact sa_nil
                · exact ss_nil
            · refine ss_cons ?_ ?_
              · refine s_ret ?_
                · refine se_tup ?_
                  · refine sa_cons ?_ ?_
                    · exact se_str
                    · refine sa_cons ?_ ?_
                      · exact se_var 5
                      · exact sa_nil
              · exact ss_nil
        · exact ss_nil
      · refine ss_cons ?_ ?_
        · refine s_if ?_ ?_ ?_
          · refine st_cmp (op_eqs hr) bok_eq ?_ ?_ (nomark _)
            · exact se_var 3
            · exact se_str
          · refine ss_cons ?_ ?_
            · refine s_ret ?_
              · refine se_call c__law_put_due hr ?_
                · refine sa_cons ?_ ?_
                  · exact se_var 0
                  · refine sa_cons ?_ ?_
                    · exact se_var 1
                    · exact sa_nil
            · exact ss_nil
          · exact ss_nil
        · refine ss_cons ?_ ?_
          · refine s_if ?_ ?_ ?_
            · refine st_cmp (op_notIns hr) bok_notIn ?_ ?_ (by rfl)
              · exact se_var 4
              · exact se_var 2
            · refine ss_cons ?_ ?_
              · refine s_ret ?_
                · refine se_tup ?_
                  · refine sa_cons ?_ ?_
                    · exact se_str
                    · refine sa_cons ?_ ?_
                      · exact se_non
                      · exact sa_nil
              · exact ss_nil
            · exact ss_nil
          · refine ss_cons ?_ ?_
            · refine s_unp ?_ (xg_tup ?_)
              · refine se_ix hr ?_ ?_
                · exact se_var 2
                · exact se_var 4
              · refine xgs_cons ?_ ?_
                · exact xg_name 7 (nd__law_due_3a95)
                · refine xgs_cons ?_ ?_
                  · exact xg_name 8 (nd__law_due_3a95)
                  · refine xgs_cons ?_ ?_
                    · exact xg_name 9 (nd__law_due_3a95)
                    · exact xgs_nil
            · refine ss_cut ?_ ?_
              · refine s_if ?_ ?_ ?_
                · refine SWh.st ?_
                  · refine sw_or ?_ ?_
                    · refine st_cmp (op_eqs hr) bok_eq ?_ ?_ (nomark _)
                      · exact se_var 3
                      · exact se_str
                    · refine sw_or1 ?_
                      · refine SWh.st ?_
                        · refine sw_and ?_ ?_
                          · refine st_cmp (op_eqs hr) bok_eq ?_ ?_ (nomark _)
                            · exact se_var 3
                            · exact se_str
                          · refine sw_and1 ?_
                            · refine st_cmp (op_cmps hr .ge) bok_cmp ?_ ?_ (nomark _)
                              · exact se_var 7
                              · refine se_ix hr ?_ ?_
                                · exact se_var 1
                                · exact se_int
                · refine ss_cons ?_ ?_
                  · refine s_expr ?_
                    · refine se_bm k_pop ?_ ?_
                      · exact se_var 2
                      · refine sa_cons ?_ ?_
                        · exact se_var 4
                        · exact sa_nil
                  · exact ss_nil
                · refine ss_cons ?_ ?_
                  · refine s_if ?_ ?_ ?_
                    · refine st_cmp (op_eqs hr) bok_eq ?_ ?_ (nomark _)
                      · exact se_var 3
                      · exact se_str
                    · refine ss_cons ?_ ?_
                      · refine s_iset hr ?_ ?_ ?_
                        · exact se_var 2
                        · exact se_var 4
                        · refine se_tup ?_
                          · refine sa_cons ?_ ?_
                            · exact se_var 7
                            · refine sa_cons ?_ ?_
                              · refine se_bi (call_min2 rfl) bok_min2 T.b_min ?_
                                · refine sa_cons ?_ ?_
                                  · exact se_var 8
                                  · refine sa_cons ?_ ?_
                                    · refine se_ix hr ?_ ?_
                                      · exact se_var 1
                                      · exact se_int
                                    · exact sa_nil
                              · refine sa_cons ?_ ?_
                                · exact se_var 9
                                · exact sa_nil
                      · exact ss_nil
                    · refine ss_cons ?_ ?_
                      · refine s_if ?_ ?_ ?_
                        · refine st_cmp (op_cmps hr .lt) bok_cmp ?_ ?_ (nomark _)
                          · exact se_var 8
                          · refine se_ix hr ?_ ?_
                            · exact se_var 1
                            · exact se_int
                        · refine ss_cons ?_ ?_
                          · refine s_set ?_ nd__law_due_3a95
                            · refine se_call c__law_first_more hr ?_
                              · refine sa_cons ?_ ?_
                                · exact se_var 0
                                · refine sa_cons ?_ ?_
                                  · exact se_var 8
                                  · refine sa_cons ?_ ?_
                                    · refine se_ix hr ?_ ?_
                                      · exact se_var 1
                                      · exact se_int
                                    · refine sa_cons ?_ ?_
                                      · exact se_var 9
                                      · exact sa_nil
                          · refine ss_cons ?_ ?_
                            · refine s_if ?_ ?_ ?_
                              · refine st_cmp op_notN bok_isnt ?_ ?_ (nomark _)
                                · exact se_var 10
                                · exact se_non
                              · refine ss_cons ?_ ?_
                                · refine s_ret ?_
                                  · refine se_tup ?_
                                    · refine sa_cons ?_ ?_
                                      · exact se_str
                                      · refine sa_cons ?_ ?_
                                        · exact se_var 10
                                        · exact sa_nil
                                · exact ss_nil
                              · exact ss_nil
                            · refine ss_cons ?_ ?_
                              · refine s_iset hr ?_ ?_ ?_
                                · exact se_var 2
                                · exact se_var 4
                                · refine se_tup ?_
                                  · refine sa_cons ?_ ?_
                                    · exact se_var 7
                                    · refine sa_cons ?_ ?_
                                      · refine se_ix hr ?_ ?_
                                        · exact se_var 1
                                        · exact se_int
                                      · refine sa_cons ?_ ?_
                                        · exact se_var 9
                                        · exact sa_nil
                              · exact ss_nil
                        · exact ss_nil
                      · exact ss_nil
                  · exact ss_nil
              · refine ss_cons ?_ ?_
                · refine s_ret ?_
                  · refine se_tup ?_
                    · refine sa_cons ?_ ?_
                      · exact se_str
                      · refine sa_cons ?_ ?_
                        · exact se_non
                        · exact sa_nil
                · exact ss_nil
theorem ok__law_due_3a95 {f : Addr} {fd : FuncData} (F : Fun K "_law_due" "_law_due" s__law_due_3a95 f fd) (T : Tx K mg) (c__law_put_due : Cal P w K mg base 3 "_law_put_due" (spA K a__law_put_due)) (c__law_first_more : Cal P w K mg base 2 "_law_first_more" (spA K a__law_first_more)) : FnOk P w K mg base (L2.CX P w) 4 f fd ["_law_m", "_law_deed_here"] (spA K a__law_due_3a95) :=
  fn_ok F sc__law_due_3a95 len__law_due_3a95 (fun cdv A outer s H E hr => snd__law_due_3a95 T c__law_put_due c__law_first_more cdv A outer s H E hr) body__law_due_3a95
theorem snd__law_goes_be0d (T : Tx K mg) (c__law_alike_2e9a : Cal P w K mg base 7 "_law_alike" (spA K a__law_alike_2e9a)) (c__law_stands_ede1 : Cal P w K mg base 8 "_law_stands" (spA K a__law_stands_ede1)) (c__law_told_0ead : Cal P w K mg base 6 "_law_told" (spA K a__law_told_0ead)) (c__law_due_3a95 : Cal P w K mg base 4 "_law_due" (spA K a__law_due_3a95)) {f : Addr} (cdv : Value) (A : Around) (outer : List Env) (s : Shared) (H : Hp) (E : XK) (hr : Room 8 (A.deeper (envOfC "_law_goes" (defScope s__law_goes_be0d) s.heap.objs.size f cdv))) : SSs (cxOf (L2.CX P w) P w K mg base n__law_goes_be0d "_law_goes" (defScope s__law_goes_be0d) f cdv A outer s H E) (defBody s__law_goes_be0d) u__law_goes_be0d := by
  refine ss_cons ?_ ?_
  · refine s_ret ?_
    · refine se_and ?_ ?_
      · refine se_call c__law_alike_2e9a hr ?_
        · refine sa_cons ?_ ?_
          · refine se_call c__law_told_0ead hr ?_
            · refine sa_cons ?_ ?_
              · exact se_var 0
              · refine sa_cons ?_ ?_
                · exact se_var 2
                · exact sa_nil
          · refine sa_cons ?_ ?_
            · refine se_call c__law_due_3a95 hr ?_
              · refine sa_cons ?_ ?_
                · exact se_var 1
                · refine sa_cons ?_ ?_
                  · exact se_var 2
                  · exact sa_nil
            · exact sa_nil
      · refine se_one ?_
        · refine se_call c__law_stands_ede1 hr ?_
          · refine sa_cons ?_ ?_
            · exact se_var 0
            · refine sa_cons ?_ ?_
              · exact se_var 1
              · exact sa_nil
  · exact ss_nil
theorem ok__law_goes_be0d {f : Addr} {fd : FuncData} (F : Fun K "_law_goes" "_law_goes" s__law_goes_be0d f fd) (T : Tx K mg) (c__law_alike_2e9a : Cal P w K mg base 7 "_law_alike" (spA K a__law_alike_2e9a)) (c__law_stands_ede1 : Cal P w K mg base 8 "_law_stands" (spA K a__law_stands_ede1)) (c__law_told_0ead : Cal P w K mg base 6 "_law_told" (spA K a__law_told_0ead)) (c__law_due_3a95 : Cal P w K mg base 4 "_law_due" (spA K a__law_due_3a95)) : FnOk P w K mg base (L2.CX P w) 9 f fd ["_law_book", "_law_m", "_law_deed_here"] (spA K a__law_goes_be0d) :=
  fn_ok F sc__law_goes_be0d len__law_goes_be0d (fun cdv A outer s H E hr => snd__law_goes_be0d T c__law_alike_2e9a c__law_stands_ede1 c__law_told_0ead c__law_due_3a95 cdv A outer s H E hr) body__law_goes_be0d
theorem snd__law_name_d25c (T : Tx K mg)  {f : Addr} (cdv : Value) (A : Around) (outer : List Env) (s : Shared) (H : Hp) (E : XK) (hr : Room 0 (A.deeper (envOfC "_law_name" (defScope s__law_name_d25c) s.heap.objs.size f cdv))) : SSs (cxOf (L2.CX P w) P w K mg base n__law_name_d25c "_law_name" (defScope s__law_name_d25c) f cdv A outer s H E) (defBody s__law_name_d25c) u__law_name_d25c := by
  refine ss_cons ?_ ?_
  · refine s_ret ?_
    · refine se_bin op_adds bok_add ?_ ?_
      · refine se_ix hr ?_ ?_
        · exact se_str
        · refine se_bin op_mod bok_mod ?_ ?_
          · exact se_var 0
          · exact se_int
      · refine se_ix hr ?_ ?_
        · refine se_lst ?_
          · refine sa_cons ?_ ?_
            · exact se_str
            · refine sa_cons ?_ ?_
              · exact se_str
              · refine sa_cons ?_ ?_
                · exact se_str
                · refine sa_cons ?_ ?_
                  · exact se_str
                  · exact sa_nil
        · refine se_bin op_mod bok_mod ?_ ?_
          · refine se_bin op_fdivW bok_fdv ?_ ?_
            · exact se_var 0
            · exact se_int
          · exact se_int
  · exact ss_nil
theorem ok__law_name_d25c {f : Addr} {fd : FuncData} (F : Fun K "_law_name" "_law_name" s__law_name_d25c f fd) (T : Tx K mg)  : FnOk P w K mg base (L2.CX P w) 1 f fd ["_law_n"] (spA K a__law_name_d25c) :=
  fn_ok F sc__law_name_d25c len__law_name_d25c (fun cdv A outer s H E hr => snd__law_name_d25c T  cdv A outer s H E hr) body__law_name_d25c
theorem snd__law_time_e328 (T : Tx K mg) (c__law_edges : Cal P w K mg base 1 "_law_edges" (spA K a__law_edges)) (c__law_number : Cal P w K mg base 2 "_law_number" (spA K a__law_number)) (c__law_take_bafe : Cal P w K mg base 1 "_law_take" (spA K a__law_take_bafe)) {f : Addr} (cdv : Value) (A : Around) (outer : List Env) (s : Shared) (H : Hp) (E : XK) (hr : Room 2 (A.deeper (envOfC "_law_time" (defScope s__law_time_e328) s.heap.objs.size f cdv))) : SSs (cxOf (L2.CX P w) P w K mg base n__law_time_e328 "_law_time" (defScope s__law_time_e328) f cdv A outer s H E) (defBody s__law_time_e328) u__law_time_e328 := by
  refine ss_cons ?_ ?_
  · refine s_set ?_ nd__law_time_e328
    · refine se_call c__law_edges hr ?_
      · refine sa_cons ?_ ?_
        · exact se_var 1
        · exact sa_nil
  · refine ss_cons ?_ ?_
    · refine s_if ?_ ?_ ?_
      · refine SWh.st ?_
        · refine sw_or ?_ ?_
          · refine st_cmp (op_eqs hr) bok_eq ?_ ?_ (nomark _)
            · exact se_var 2
            · refine se_lst ?_
              · exact sa_nil
          · refine sw_or1 ?_
            · refine st_cmp (op_eqs hr) bok_eq ?_ ?_ (nomark _)
              · refine se_call c__law_take_bafe hr ?_
                · refine sa_cons ?_ ?_
                  · exact se_var 0
                  · refine sa_cons ?_ ?_
                    · exact se_int
                    · exact sa_nil
              · exact se_int
      · refine ss_cons ?_ ?_
        · refine s_ret ?_
          · refine se_call c__law_number hr ?_
            · refine sa_cons ?_ ?_
              · exact se_var 0
              · refine sa_cons ?_ ?_
                · refine se_ix hr ?_ ?_
                  · exact se_var 1
                  · exact se_str
                · exact sa_nil
        · exact ss_nil
      · exact ss_nil
    · refine ss_cons ?_ ?_
      · refine s_ret ?_
        · refine se_bi (call_min2 rfl) bok_min2 T.b_min ?_
          · refine sa_cons ?_ ?_
            · refine se_ix hr ?_ ?_
              · exact se_var 1
              · exact se_str
            · refine sa_cons ?_ ?_
              · refine se_bi (call_max2 rfl) bok_max2 T.b_max ?_
                · refine sa_cons ?_ ?_
                  · exact se_int
                  · refine sa_cons ?_ ?_
                    · refine se_bin op_sub bok_sub ?_ ?_
                      · refine se_bin op_adds bok_add ?_ ?_
                        · refine se_ix hr ?_ ?_
                          · exact se_var 2
                          · refine se_call c__law_take_bafe hr ?_
                            · refine sa_cons ?_ ?_
                              · exact se_var 0
                              · refine sa_cons ?_ ?_
                                · refine se_bi cr_len bok_len T.b_len ?_
                                  · refine sa_cons ?_ ?_
                                    · exact se_var 2
                                    · exact sa_nil
                                · exact sa_nil
                        · refine se_call c__law_take_bafe hr ?_
                          · refine sa_cons ?_ ?_
                            · exact se_var 0
                            · refine sa_cons ?_ ?_
                              · exact se_int
                              · exact sa_nil
                      · exact se_int
                    · exact sa_nil
              · exact sa_nil
      · exact ss_nil
theorem ok__law_time_e328 {f : Addr} {fd : FuncData} (F : Fun K "_law_time" "_law_time" s__law_time_e328 f fd) (T : Tx K mg) (c__law_edges : Cal P w K mg base 1 "_law_edges" (spA K a__law_edges)) (c__law_number : Cal P w K mg base 2 "_law_number" (spA K a__law_number)) (c__law_take_bafe : Cal P w K mg base 1 "_law_take" (spA K a__law_take_bafe)) : FnOk P w K mg base (L2.CX P w) 3 f fd ["_law_box_here", "_law_m"] (spA K a__law_time_e328) :=
  fn_ok F sc__law_time_e328 len__law_time_e328 (fun cdv A outer s H E hr => snd__law_time_e328 T c__law_edges c__law_number c__law_take_bafe cdv A outer s H E hr) body__law_time_e328
theorem snd__law_span (T : Tx K mg) (c__law_time_e328 : Cal P w K mg base 3 "_law_time" (spA K a__law_time_e328)) (c__law_take_bafe : Cal P w K mg base 1 "_law_take" (spA K a__law_take_bafe)) {f : Addr} (cdv : Value) (A : Around) (outer : List Env) (s : Shared) (H : Hp) (E : XK) (hr : Room 3 (A.deeper (envOfC "_law_span" (defScope s__law_span) s.heap.objs.size f cdv))) : SSs (cxOf (L2.CX P w) P w K mg base n__law_span "_law_span" (defScope s__law_span) f cdv A outer s H E) (defBody s__law_span) u__law_span := by
  refine ss_cons ?_ ?_
  · refine s_set ?_ nd__law_span
    · refine se_call c__law_time_e328 hr ?_
      · refine sa_cons ?_ ?_
        · exact se_var 0
        · refine sa_cons ?_ ?_
          · exact se_var 1
          · exact sa_nil
  · refine ss_cons ?_ ?_
    · refine s_set ?_ nd__law_span
      · refine se_call c__law_time_e328 hr ?_
        · refine sa_cons ?_ ?_
          · exact se_var 0
          · refine sa_cons ?_ ?_
            · exact se_var 1
            · exact sa_nil
    · refine ss_cons ?_ ?_
      · refine s_if ?_ ?_ ?_
        · refine st_cmp (op_eqs hr) bok_eq ?_ ?_ (nomark _)
          · exact se_var 2
          · exact se_var 3
        · refine ss_cons ?_ ?_
          · refine s_ret ?_
            · refine se_tup ?_
              · refine sa_cons ?_ ?_
                · refine se_bi (call_max2 rfl) bok_max2 T.b_max ?_
                  · refine sa_cons ?_ ?_
                    · exact se_int
                    · refine sa_cons ?_ ?_
                      · refine se_bin op_sub bok_sub ?_ ?_
                        · exact se_var 2
                        · exact se_int
                      · exact sa_nil
                · refine sa_cons ?_ ?_
                  · refine se_bin op_adds bok_add ?_ ?_
                    · refine se_bin op_adds bok_add ?_ ?_
                      · refine se_bi (call_max2 rfl) bok_max2 T.b_max ?_
                        · refine sa_cons ?_ ?_
                          · exact se_int
                          · refine sa_cons ?_ ?_
                            · refine se_bin op_sub bok_sub ?_ ?_
                              · exact se_var 2
                              · exact se_int
                            · exact sa_nil
                      · exact se_int
                    · refine se_call c__law_take_bafe hr ?_
                      · refine sa_cons ?_ ?_
                        · exact se_var 0
                        · refine sa_cons ?_ ?_
                          · exact se_int
                          · exact sa_nil
                  · exact sa_nil
          · exact ss_nil
        · exact ss_nil
      · refine ss_cons ?_ ?_
        · refine s_ret ?_
          · refine se_tup ?_
            · refine sa_cons ?_ ?_
              · refine se_bi (call_min2 rfl) bok_min2 T.b_min ?_
                · refine sa_cons ?_ ?_
                  · exact se_var 2
                  · refine sa_cons ?_ ?_
                    · exact se_var 3
                    · exact sa_nil
              · refine sa_cons ?_ ?_
                · refine se_bi (call_max2 rfl) bok_max2 T.b_max ?_
                  · refine sa_cons ?_ ?_
                    · exact se_var 2
                    · refine sa_cons ?_ ?_
                      · exact se_var 3
                      · exact sa_nil
                · exact sa_nil
        · exact ss_nil
theorem ok__law_span {f : Addr} {fd : FuncData} (F : Fun K "_law_span" "_law_span" s__law_span f fd) (T : Tx K mg) (c__law_time_e328 : Cal P w K mg base 3 "_law_time" (spA K a__law_time_e328)) (c__law_take_bafe : Cal P w K mg base 1 "_law_take" (spA K a__law_take_bafe)) : FnOk P w K mg base (L2.CX P w) 4 f fd ["_law_box_here", "_law_m"] (spA K a__law_span) :=
  fn_ok F sc__law_span len__law_span (fun cdv A outer s H E hr => snd__law_span T c__law_time_e328 c__law_take_bafe cdv A outer s H E hr) body__law_span
theorem snd__law_wanted (T : Tx K mg) (c__law_amount_7792 : Cal P w K mg base 3 "_law_amount" (spA K a__law_amount_7792)) (c__law_take_bafe : Cal P w K mg base 1 "_law_take" (spA K a__law_take_bafe)) {f : Addr} (cdv : Value) (A : Around) (outer : List Env) (s : Shared) (H : Hp) (E : XK) (hr : Room 3 (A.deeper (envOfC "_law_wanted" (defScope s__law_wanted) s.heap.objs.size f cdv))) : SSs (cxOf (L2.CX P w) P w K mg base n__law_wanted "_law_wanted" (defScope s__law_wanted) f cdv A outer s H E) (defBody s__law_wanted) u__law_wanted := by
  refine ss_cons ?_ ?_
  · refine s_ret ?_
    · refine se_call c__law_amount_7792 hr ?_
      · refine sa_cons ?_ ?_
        · exact se_var 0
        · refine sa_cons ?_ ?_
          · refine se_bi cr_len bok_len T.b_len ?_
            · refine sa_cons ?_ ?_
              · refine se_ix hr ?_ ?_
                · exact se_var 1
                · exact se_str
              · exact sa_nil
          · refine sa_cons ?_ ?_
            · refine se_bin op_fdivW bok_fdv ?_ ?_
              · refine se_ix hr ?_ ?_
                · exact se_var 1
                · exact se_str
              · refine se_ix hr ?_ ?_
                · refine se_lst ?_
                  · refine sa_cons ?_ ?_
                    · exact se_int
                    · refine sa_cons ?_ ?_
                      · exact se_int
                      · refine sa_cons ?_ ?_
                        · exact se_int
                        · refine sa_cons ?_ ?_
                          · exact se_int
                          · exact sa_nil
                · refine se_call c__law_take_bafe hr ?_
                  · refine sa_cons ?_ ?_
                    · exact se_var 0
                    · refine sa_cons ?_ ?_
                      · exact se_int
                      · exact sa_nil
            · exact sa_nil
  · exact ss_nil
theorem ok__law_wanted {f : Addr} {fd : FuncData} (F : Fun K "_law_wanted" "_law_wanted" s__law_wanted f fd) (T : Tx K mg) (c__law_amount_7792 : Cal P w K mg base 3 "_law_amount" (spA K a__law_amount_7792)) (c__law_take_bafe : Cal P w K mg base 1 "_law_take" (spA K a__law_take_bafe)) : FnOk P w K mg base (L2.CX P w) 4 f fd ["_law_box_here", "_law_m"] (spA K a__law_wanted) :=
  fn_ok F sc__law_wanted len__law_wanted (fun cdv A outer s H E hr => snd__law_wanted T c__law_amount_7792 c__law_take_bafe cdv A outer s H E hr) body__law_wanted
theorem snd__law_deed_17e3 (T : Tx K mg) (c__law_name_d25c : Cal P w K mg base 1 "_law_name" (spA K a__law_name_d25c)) (c__law_take_bafe : Cal P w K mg base 1 "_law_take" (spA K a__law_take_bafe)) (c__law_time_e328 : Cal P w K mg base 3 "_law_time" (spA K a__law_time_e328)) (c__law_span : Cal P w K mg base 4 "_law_span" (spA K a__law_span)) (c__law_wanted : Cal P w K mg base 4 "_law_wanted" (spA K a__law_wanted)) {f : Addr} (cdv : Value) (A : Around) (outer : List Env) (s : Shared) (H : Hp) (E : XK) (hr : Room 4 (A.deeper (envOfC "_law_deed" (defScope s__law_deed_17e3) s.heap.objs.size f cdv))) : SSs (cxOf (L2.CX P w) P w K mg base n__law_deed_17e3 "_law_deed" (defScope s__law_deed_17e3) f cdv A outer s H E) (defBody s__law_deed_17e3) u__law_deed_17e3 := by
  refine ss_cons ?_ ?_
  · refine s_set ?_ nd__law_deed_17e3
    · refine se_ix hr ?_ ?_
      · exact se_var 2
      · refine se_call c__law_take_bafe hr ?_
        · refine sa_cons ?_ ?_
          · exact se_var 0
          · refine sa_cons ?_ ?_
            · refine se_bi cr_len bok_len T.b_len ?_
              · refine sa_cons ?_ ?_
                · exact se_var 2
                · exact sa_nil
            · exact sa_nil
  · refine ss_cons ?_ ?_
    · refine s_set ?_ nd__law_deed_17e3
      · refine se_call c__law_name_d25c hr ?_
        · refine sa_cons ?_ ?_
          · refine se_call c__law_take_bafe hr ?_
            · refine sa_cons ?_ ?_
              · exact se_var 0
              · refine sa_cons ?_ ?_
                · exact se_var 3
                · exact sa_nil
          · exact sa_nil
    · refine ss_cons ?_ ?_
      · refine s_set ?_ nd__law_deed_17e3
        · refine se_bi (cr_srt hr rfl) bok_sorted T.b_sorted ?_
          · refine sa_cons ?_ ?_
            · refine se_ix hr ?_ ?_
              · exact se_var 1
              · exact se_str
            · exact sa_nil
      · refine ss_cons ?_ ?_
        · refine s_if ?_ ?_ ?_
          · refine st_cmp (op_eqs hr) bok_eq ?_ ?_ (nomark _)
            · exact se_var 4
            · exact se_str
          · refine ss_cons ?_ ?_
            · refine s_ret ?_
              · refine se_bin op_adds bok_add ?_ ?_
                · refine se_bin op_adds bok_add ?_ ?_
                  · refine se_tup ?_
                    · refine sa_cons ?_ ?_
                      · exact se_var 4
                      · refine sa_cons ?_ ?_
                        · exact se_var 5
                        · exact sa_nil
                  · refine se_call c__law_span hr ?_
                    · refine sa_cons ?_ ?_
                      · exact se_var 0
                      · refine sa_cons ?_ ?_
                        · exact se_var 1
                        · exact sa_nil
                · refine se_tup ?_
                  · refine sa_cons ?_ ?_
                    · refine se_call c__law_wanted hr ?_
                      · refine sa_cons ?_ ?_
                        · exact se_var 0
                        · refine sa_cons ?_ ?_
                          · exact se_var 1
                          · exact sa_nil
                    · exact sa_nil
            · exact ss_nil
          · exact ss_nil
        · refine ss_cons ?_ ?_
          · refine s_if ?_ ?_ ?_
            · refine st_cmp (op_eqs hr) bok_eq ?_ ?_ (nomark _)
              · exact se_var 4
              · exact se_str
            · refine ss_cons ?_ ?_
              · refine s_ret ?_
                · refine se_tup ?_
                  · refine sa_cons ?_ ?_
                    · exact se_var 4
                    · refine sa_cons ?_ ?_
                      · refine se_call c__law_time_e328 hr ?_
                        · refine sa_cons ?_ ?_
                          · exact se_var 0
                          · refine sa_cons ?_ ?_
                            · exact se_var 1
                            · exact sa_nil
                      · exact sa_nil
              · exact ss_nil
            · exact ss_nil
          · refine ss_cut ?_ ?_
            · refine s_if ?_ ?_ ?_
              · refine SWh.st ?_
                · refine sw_and ?_ ?_
                  · refine st_cmp (op_nes hr) bok_ne ?_ ?_ (nomark _)
                    · exact se_var 6
                    · refine se_lst ?_
                      · exact sa_nil
                  · refine sw_and1 ?_
                    · refine st_cmp (op_cmps hr .gt) bok_cmp ?_ ?_ (nomark _)
                      · refine se_call c__law_take_bafe hr ?_
                        · refine sa_cons ?_ ?_
                          · exact se_var 0
                          · refine sa_cons ?_ ?_
                            · exact se_int
                            · exact sa_nil
                      · exact se_int
              · refine ss_cons ?_ ?_
                · refine s_set ?_ nd__law_deed_17e3
                  · refine se_ix hr ?_ ?_
                    · exact se_var 6
                    · refine se_call c__law_take_bafe hr ?_
                      · refine sa_cons ?_ ?_
                        · exact se_var 0
                        · refine sa_cons ?_ ?_
                          · refine se_bi cr_len bok_len T.b_len ?_
                            · refine sa_cons ?_ ?_
                              · exact se_var 6
                              · exact sa_nil
                          · exact sa_nil
                · exact ss_nil
              · exact ss_nil
            · refine ss_cons ?_ ?_
              · refine s_if ?_ ?_ ?_
                · refine st_cmp (op_eqs hr) bok_eq ?_ ?_ (nomark _)
                  · exact se_var 4
                  · exact se_str
                · refine ss_cons ?_ ?_
                  · refine s_ret ?_
                    · refine se_tup ?_
                      · refine sa_cons ?_ ?_
                        · exact se_var 4
                        · refine sa_cons ?_ ?_
                          · exact se_var 5
                          · exact sa_nil
                  · exact ss_nil
                · exact ss_nil
              · refine ss_cons ?_ ?_
                · refine s_ret ?_
                  · refine se_tup ?_
                    · refine sa_cons ?_ ?_
                      · exact se_var 4
                      · refine sa_cons ?_ ?_
                        · exact se_var 5
                        · refine sa_cons ?_ ?_
                          · refine se_call c__law_time_e328 hr ?_
                            · refine sa_cons ?_ ?_
                              · exact se_var 0
                              · refine sa_cons ?_ ?_
                                · exact se_var 1
                                · exact sa_nil
                          · exact sa_nil
                · exact ss_nil
theorem ok__law_deed_17e3 {f : Addr} {fd : FuncData} (F : Fun K "_law_deed" "_law_deed" s__law_deed_17e3 f fd) (T : Tx K mg) (c__law_name_d25c : Cal P w K mg base 1 "_law_name" (spA K a__law_name_d25c)) (c__law_take_bafe : Cal P w K mg base 1 "_law_take" (spA K a__law_take_bafe)) (c__law_time_e328 : Cal P w K mg base 3 "_law_time" (spA K a__law_time_e328)) (c__law_span : Cal P w K mg base 4 "_law_span" (spA K a__law_span)) (c__law_wanted : Cal P w K mg base 4 "_law_wanted" (spA K a__law_wanted)) : FnOk P w K mg base (L2.CX P w) 5 f fd ["_law_box_here", "_law_m", "_law_words", "_law_many"] (spA K a__law_deed_17e3) :=
  fn_ok F sc__law_deed_17e3 len__law_deed_17e3 (fun cdv A outer s H E hr => snd__law_deed_17e3 T c__law_name_d25c c__law_take_bafe c__law_time_e328 c__law_span c__law_wanted cdv A outer s H E hr) body__law_deed_17e3
theorem snd__law_filled_77eb (T : Tx K mg) (c__law_goes_be0d : Cal P w K mg base 9 "_law_goes" (spA K a__law_goes_be0d)) (c__law_deed_17e3 : Cal P w K mg base 5 "_law_deed" (spA K a__law_deed_17e3)) {f : Addr} (cdv : Value) (A : Around) (outer : List Env) (s : Shared) (H : Hp) (E : XK) (hr : Room 9 (A.deeper (envOfC "_law_filled" (defScope s__law_filled_77eb) s.heap.objs.size f cdv))) : SSs (cxOf (L2.CX P w) P w K mg base n__law_filled_77eb "_law_filled" (defScope s__law_filled_77eb) f cdv A outer s H E) (defBody s__law_filled_77eb) u__law_filled_77eb := by
  refine ss_cons ?_ ?_
  · refine s_for ?_ ?_ ?_
    · refine si_rng1 T.b_range ?_
      · exact se_var 3
    · exact xg_name 5 (nd__law_filled_77eb)
    · refine ss_cons ?_ ?_
      · refine s_if ?_ ?_ ?_
        · refine st_not ?_
          · refine st_val ?_
            · refine se_call c__law_goes_be0d hr ?_
              · refine sa_cons ?_ ?_
                · exact se_var 0
                · refine sa_cons ?_ ?_
                  · exact se_var 1
                  · refine sa_cons ?_ ?_
                    · refine se_call c__law_deed_17e3 hr ?_
                      · refine sa_cons ?_ ?_
                        · exact se_var 2
                        · refine sa_cons ?_ ?_
                          · exact se_var 1
                          · refine sa_cons ?_ ?_
                            · refine se_lst ?_
                              · refine sa_cons ?_ ?_
                                · exact se_str
                                · exact sa_nil
                            · refine sa_cons ?_ ?_
                              · exact se_var 4
                              · exact sa_nil
                    · exact sa_nil
        · refine ss_cons ?_ ?_
          · refine s_ret ?_
            · exact se_bl
          · exact ss_nil
        · exact ss_nil
      · exact ss_nil
  · refine ss_cons ?_ ?_
    · refine s_ret ?_
      · exact se_bl
    · exact ss_nil
theorem ok__law_filled_77eb {f : Addr} {fd : FuncData} (F : Fun K "_law_filled" "_law_filled" s__law_filled_77eb f fd) (T : Tx K mg) (c__law_goes_be0d : Cal P w K mg base 9 "_law_goes" (spA K a__law_goes_be0d)) (c__law_deed_17e3 : Cal P w K mg base 5 "_law_deed" (spA K a__law_deed_17e3)) : FnOk P w K mg base (L2.CX P w) 10 f fd ["_law_book", "_law_m", "_law_box_here", "_law_turns", "_law_many"] (spA K a__law_filled_77eb) :=
  fn_ok F sc__law_filled_77eb len__law_filled_77eb (fun cdv A outer s H E hr => snd__law_filled_77eb T c__law_goes_be0d c__law_deed_17e3 cdv A outer s H E hr) body__law_filled_77eb
theorem snd_Book_next_edge (T : Tx K mg)  {f : Addr} (cdv : Value) (A : Around) (outer : List Env) (s : Shared) (H : Hp) (E : XK) (hr : Room 0 (A.deeper (envOfC "Book.next_edge" (defScope s_Book_next_edge) s.heap.objs.size f cdv))) : SSs (cxOf (L2.CX P w) P w K mg base n_Book_next_edge "Book.next_edge" (defScope s_Book_next_edge) f cdv A outer s H E) (defBody s_Book_next_edge) u_Book_next_edge := by
  refine ss_cons ?_ ?_
  · refine s_set ?_ nd_Book_next_edge
    · refine se_lst ?_
      · exact sa_nil
  · refine ss_cons ?_ ?_
    · refine s_lock ?_
      · refine s_for ?_ ?_ ?_
        · refine si_vals ?_
          · refine se_fld (f := .written) T.TC T.TE ?_
            · exact se_var 0
        · refine xg_tup ?_
          · refine xgs_cons ?_ ?_
            · exact xg_name 3 (nd_Book_next_edge)
            · refine xgs_cons ?_ ?_
              · exact xg_name 4 (nd_Book_next_edge)
              · refine xgs_cons ?_ ?_
                · exact xg_name 5 (nd_Book_next_edge)
                · exact xgs_nil
        · refine ss_cons ?_ ?_
          · refine s_expr ?_
            · refine se_bm k_extend ?_ ?_
              · exact se_var 2
              · refine sa_cons ?_ ?_
                · refine se_lc (own := [("edge", 6)]) (nd_Book_next_edge) ?_ (blkOk_by (N := n_Book_next_edge) (sc := defScope s_Book_next_edge) (by decide +kernel)) rfl (fun s H C cl fp => ?_) ?_ (fun s H C cl fp => ?_)
                  · refine si_val ?_
                    · refine se_tup ?_
                      · refine sa_cons ?_ ?_
                        · exact se_var 3
                        · refine sa_cons ?_ ?_
                          · exact se_var 4
                          · exact sa_nil
                  · exact xg_name 6 (nd_Book_next_edge)
                  · refine .one fun s H C cl fp => ?_
                    · refine st_cmp (op_cmps hr .gt) bok_cmp ?_ ?_ (nomark _)
                      · exact se_var 6
                      · exact se_var 1
                  · exact se_var 6
                · exact sa_nil
          · exact ss_nil
    · refine ss_cons ?_ ?_
      · refine s_ret ?_
        · refine se_minD T.b_min ?_
          · exact se_var 2
      · exact ss_nil
theorem ok_Book_next_edge {f : Addr} {fd : FuncData} (F : Fun K "next_edge" "Book.next_edge" s_Book_next_edge f fd) (T : Tx K mg)  : FnOk P w K mg base (L2.CX P w) 1 f fd ["self", "time"] (spA K a_Book_next_edge) :=
  fn_ok F sc_Book_next_edge len_Book_next_edge (fun cdv A outer s H E hr => snd_Book_next_edge T  cdv A outer s H E hr) body_Book_next_edge
theorem snd__law_next (T : Tx K mg) (c__law_edges : Cal P w K mg base 1 "_law_edges" (spA K a__law_edges)) {f : Addr} (cdv : Value) (A : Around) (outer : List Env) (s : Shared) (H : Hp) (E : XK) (hr : Room 1 (A.deeper (envOfC "_law_next" (defScope s__law_next) s.heap.objs.size f cdv))) : SSs (cxOf (L2.CX P w) P w K mg base n__law_next "_law_next" (defScope s__law_next) f cdv A outer s H E) (defBody s__law_next) u__law_next := by
  refine ss_cons ?_ ?_
  · refine s_setLc (own := [("_law_edge", 3)]) (nd__law_next) ?_ (blkOk_by (N := n__law_next) (sc := defScope s__law_next) (by decide +kernel)) rfl (fun s H C cl fp => ?_) ?_ (fun s H C cl fp => ?_)
    · refine si_val ?_
      · refine se_call c__law_edges hr ?_
        · refine sa_cons ?_ ?_
          · exact se_var 0
          · exact sa_nil
    · exact xg_name 3 (nd__law_next)
    · refine .one fun s H C cl fp => ?_
      · refine st_cmp (op_cmps hr .gt) bok_cmp ?_ ?_ (nomark _)
        · exact se_var 3
        · exact se_var 1
    · exact se_var 3
  · refine ss_cons ?_ ?_
    · refine s_ret ?_
      · refine se_ite ?_ ?_ ?_
        · refine st_cmp (op_nes hr) bok_ne ?_ ?_ (nomark _)
          · exact se_var 2
          · refine se_lst ?_
            · exact sa_nil
        · refine se_ix hr ?_ ?_
          · exact se_var 2
          · exact se_int
        · exact se_non
    · exact ss_nil
theorem ok__law_next {f : Addr} {fd : FuncData} (F : Fun K "_law_next" "_law_next" s__law_next f fd) (T : Tx K mg) (c__law_edges : Cal P w K mg base 1 "_law_edges" (spA K a__law_edges)) : FnOk P w K mg base (L2.CX P w) 2 f fd ["_law_m", "_law_time_here"] (spA K a__law_next) :=
  fn_ok F sc__law_next len__law_next (fun cdv A outer s H E hr => snd__law_next T c__law_edges cdv A outer s H E hr) body__law_next
theorem snd_Book_next_end (T : Tx K mg)  {f : Addr} (cdv : Value) (A : Around) (outer : List Env) (s : Shared) (H : Hp) (E : XK) (hr : Room 0 (A.deeper (envOfC "Book.next_end" (defScope s_Book_next_end) s.heap.objs.size f cdv))) : SSs (cxOf (L2.CX P w) P w K mg base n_Book_next_end "Book.next_end" (defScope s_Book_next_end) f cdv A outer s H E) (defBody s_Book_next_end) u_Book_next_end := by
  refine ss_cons ?_ ?_
  · refine s_ret ?_
    · refine se_minD T.b_min ?_
      · refine se_lock ?_
        · refine se_lc (own := [("row", 2)]) (nd_Book_next_end) ?_ (blkOk_by (N := n_Book_next_end) (sc := defScope s_Book_next_end) (by decide +kernel)) rfl (fun s H C cl fp => ?_) ?_ (fun s H C cl fp => ?_)
          · refine si_vals ?_
            · refine se_fld (f := .written) T.TC T.TE ?_
              · exact se_var 0
          · exact xg_name 2 (nd_Book_next_end)
          · refine .one fun s H C cl fp => ?_
            · refine st_cmp (op_cmps hr .gt) bok_cmp ?_ ?_ (nomark _)
              · refine se_ix hr ?_ ?_
                · exact se_var 2
                · exact se_int
              · exact se_var 1
          · refine se_ix hr ?_ ?_
            · exact se_var 2
            · exact se_int
  · exact ss_nil
theorem ok_Book_next_end {f : Addr} {fd : FuncData} (F : Fun K "next_end" "Book.next_end" s_Book_next_end f fd) (T : Tx K mg)  : FnOk P w K mg base (L2.CX P w) 1 f fd ["self", "time"] (spA K a_Book_next_end) :=
  fn_ok F sc_Book_next_end len_Book_next_end (fun cdv A outer s H E hr => snd_Book_next_end T  cdv A outer s H E hr) body_Book_next_end
theorem snd_amount_least (T : Tx K mg)  {f : Addr} (cdv : Value) (A : Around) (outer : List Env) (s : Shared) (H : Hp) (E : XK) (hr : Room 0 (A.deeper (envOfC "amount_least" (defScope s_amount_least) s.heap.objs.size f cdv))) : SSs (cxOf (L2.CX P w) P w K mg base n_amount_least "amount_least" (defScope s_amount_least) f cdv A outer s H E) (defBody s_amount_least) u_amount_least := by
  refine ss_cons ?_ ?_
  · refine s_ret ?_
    · refine se_ty call_tuple_of bok_toTup T.b_tuple ?_
      · refine sa_cons ?_ ?_
        · refine se_lc (own := [("a", 2), ("b", 3)]) (nd_amount_least) ?_ (blkOk_by (N := n_amount_least) (sc := defScope s_amount_least) (by decide +kernel)) rfl (fun s H C cl fp => ?_) ?_ (fun s H C cl fp => ?_)
          · refine si_zip2 T.b_zip ?_ ?_
            · exact se_var 0
            · exact se_var 1
          · refine xg_tup ?_
            · refine xgs_cons ?_ ?_
              · exact xg_name 2 (nd_amount_least)
              · refine xgs_cons ?_ ?_
                · exact xg_name 3 (nd_amount_least)
                · exact xgs_nil
          · exact .no
          · refine se_bi (call_min2 rfl) bok_min2 T.b_min ?_
            · refine sa_cons ?_ ?_
              · exact se_var 2
              · refine sa_cons ?_ ?_
                · exact se_var 3
                · exact sa_nil
        · exact sa_nil
  · exact ss_nil
theorem ok_amount_least {f : Addr} {fd : FuncData} (F : Fun K "amount_least" "amount_least" s_amount_least f fd) (T : Tx K mg)  : FnOk P w K mg base (L2.CX P w) 1 f fd ["one", "other"] (spA K a_amount_least) :=
  fn_ok F sc_amount_least len_amount_least (fun cdv A outer s H E hr => snd_amount_least T  cdv A outer s H E hr) body_amount_least
theorem snd_amount_less (T : Tx K mg)  {f : Addr} (cdv : Value) (A : Around) (outer : List Env) (s : Shared) (H : Hp) (E : XK) (hr : Room 0 (A.deeper (envOfC "amount_less" (defScope s_amount_less) s.heap.objs.size f cdv))) : SSs (cxOf (L2.CX P w) P w K mg base n_amount_less "amount_less" (defScope s_amount_less) f cdv A outer s H E) (defBody s_amount_less) u_amount_less := by
  refine ss_cons ?_ ?_
  · refine s_ret ?_
    · refine se_ty call_tuple_of bok_toTup T.b_tuple ?_
      · refine sa_cons ?_ ?_
        · refine se_lc (own := [("a", 2), ("b", 3)]) (nd_amount_less) ?_ (blkOk_by (N := n_amount_less) (sc := defScope s_amount_less) (by decide +kernel)) rfl (fun s H C cl fp => ?_) ?_ (fun s H C cl fp => ?_)
          · refine si_zip2 T.b_zip ?_ ?_
            · exact se_var 0
            · exact se_var 1
          · refine xg_tup ?_
            · refine xgs_cons ?_ ?_
              · exact xg_name 2 (nd_amount_less)
              · refine xgs_cons ?_ ?_
                · exact xg_name 3 (nd_amount_less)
                · exact xgs_nil
          · exact .no
          · refine se_bin op_sub bok_sub ?_ ?_
            · exact se_var 2
            · exact se_var 3
        · exact sa_nil
  · exact ss_nil
theorem ok_amount_less {f : Addr} {fd : FuncData} (F : Fun K "amount_less" "amount_less" s_amount_less f fd) (T : Tx K mg)  : FnOk P w K mg base (L2.CX P w) 1 f fd ["one", "other"] (spA K a_amount_less) :=
  fn_ok F sc_amount_less len_amount_less (fun cdv A outer s H E hr => snd_amount_less T  cdv A outer s H E hr) body_amount_less
theorem snd_Book_left_over (T : Tx K mg) (c_Book_rises_in : MCal P w K mg base 1 .Book "rises_in" (spA K a_Book_rises_in)) (c_amount_least : Cal P w K mg base 1 "amount_least" (spA K a_amount_least)) (c_amount_less : Cal P w K mg base 1 "amount_less" (spA K a_amount_less)) (c_Book_load_at : MCal P w K mg base 2 .Book "load_at" (spA K a_Book_load_at)) {f : Addr} (cdv : Value) (A : Around) (outer : List Env) (s : Shared) (H : Hp) (E : XK) (hr : Room 2 (A.deeper (envOfC "Book.left_over" (defScope s_Book_left_over) s.heap.objs.size f cdv))) : SSs (cxOf (L2.CX P w) P w K mg base n_Book_left_over "Book.left_over" (defScope s_Book_left_over) f cdv A outer s H E) (defBody s_Book_left_over) u_Book_left_over := by
  refine ss_cons ?_ ?_
  · refine s_set ?_ nd_Book_left_over
    · refine se_fld (f := .room) T.TC T.TE ?_
      · exact se_var 0
  · refine ss_cons ?_ ?_
    · refine s_for ?_ ?_ ?_
      · refine si_val ?_
        · refine se_meth c_Book_rises_in hr ?_ ?_
          · exact se_var 0
          · refine sa_cons ?_ ?_
            · exact se_var 1
            · refine sa_cons ?_ ?_
              · exact se_var 2
              · exact sa_nil
      · exact xg_name 4 (nd_Book_left_over)
      · refine ss_cons ?_ ?_
        · refine s_set ?_ nd_Book_left_over
          · refine se_call c_amount_least hr ?_
            · refine sa_cons ?_ ?_
              · exact se_var 3
              · refine sa_cons ?_ ?_
                · refine se_call c_amount_less hr ?_
                  · refine sa_cons ?_ ?_
                    · refine se_fld (f := .room) T.TC T.TE ?_
                      · exact se_var 0
                    · refine sa_cons ?_ ?_
                      · refine se_meth c_Book_load_at hr ?_ ?_
                        · exact se_var 0
                        · refine sa_cons ?_ ?_
                          · exact se_var 4
                          · exact sa_nil
                      · exact sa_nil
                · exact sa_nil
        · exact ss_nil
    · refine ss_cons ?_ ?_
      · refine s_ret ?_
        · exact se_var 3
      · exact ss_nil
theorem ok_Book_left_over {f : Addr} {fd : FuncData} (F : Fun K "left_over" "Book.left_over" s_Book_left_over f fd) (T : Tx K mg) (c_Book_rises_in : MCal P w K mg base 1 .Book "rises_in" (spA K a_Book_rises_in)) (c_amount_least : Cal P w K mg base 1 "amount_least" (spA K a_amount_least)) (c_amount_less : Cal P w K mg base 1 "amount_less" (spA K a_amount_less)) (c_Book_load_at : MCal P w K mg base 2 .Book "load_at" (spA K a_Book_load_at)) : FnOk P w K mg base (L2.CX P w) 3 f fd ["self", "begin", "end"] (spA K a_Book_left_over) :=
  fn_ok F sc_Book_left_over len_Book_left_over (fun cdv A outer s H E hr => snd_Book_left_over T c_Book_rises_in c_amount_least c_amount_less c_Book_load_at cdv A outer s H E hr) body_Book_left_over
theorem snd__law_left_c244 (T : Tx K mg) (c__law_edges : Cal P w K mg base 1 "_law_edges" (spA K a__law_edges)) (c__law_load_eb54 : Cal P w K mg base 1 "_law_load" (spA K a__law_load_eb54)) {f : Addr} (cdv : Value) (A : Around) (outer : List Env) (s : Shared) (H : Hp) (E : XK) (hr : Room 1 (A.deeper (envOfC "_law_left" (defScope s__law_left_c244) s.heap.objs.size f cdv))) : SSs (cxOf (L2.CX P w) P w K mg base n__law_left_c244 "_law_left" (defScope s__law_left_c244) f cdv A outer s H E) (defBody s__law_left_c244) u__law_left_c244 := by
  refine ss_cons ?_ ?_
  · refine s_set ?_ nd__law_left_c244
    · refine se_ty (cr_toLst rfl) bok_toLst T.b_list ?_
      · refine sa_cons ?_ ?_
        · refine se_ix hr ?_ ?_
          · exact se_var 0
          · exact se_str
        · exact sa_nil
  · refine ss_cons ?_ ?_
    · refine s_for ?_ ?_ ?_
      · refine si_val ?_
        · refine se_bin op_adds bok_add ?_ ?_
          · refine se_lst ?_
            · refine sa_cons ?_ ?_
              · exact se_var 1
              · exact sa_nil
          · refine se_lc (own := [("_law_edge", 5)]) (nd__law_left_c244) ?_ (blkOk_by (N := n__law_left_c244) (sc := defScope s__law_left_c244) (by decide +kernel)) rfl (fun s H C cl fp => ?_) ?_ (fun s H C cl fp => ?_)
            · refine si_val ?_
              · refine se_call c__law_edges hr ?_
                · refine sa_cons ?_ ?_
                  · exact se_var 0
                  · exact sa_nil
            · exact xg_name 5 (nd__law_left_c244)
            · refine .one fun s H C cl fp => ?_
              · refine st_chain .lt .lt ?_ ?_ ?_
                · exact se_var 1
                · exact se_var 5
                · exact se_var 2
            · exact se_var 5
      · exact xg_name 4 (nd__law_left_c244)
      · refine ss_cons ?_ ?_
        · refine s_setLc (own := [("_law_a", 6), ("_law_b", 7), ("_law_c", 8)]) (nd__law_left_c244) ?_ (blkOk_by (N := n__law_left_c244) (sc := defScope s__law_left_c244) (by decide +kernel)) rfl (fun s H C cl fp => ?_) ?_ (fun s H C cl fp => ?_)
          · refine si_zip3 T.b_zip ?_ ?_ ?_
            · exact se_var 3
            · refine se_ix hr ?_ ?_
              · exact se_var 0
              · exact se_str
            · refine se_call c__law_load_eb54 hr ?_
              · refine sa_cons ?_ ?_
                · exact se_var 0
                · refine sa_cons ?_ ?_
                  · exact se_var 4
                  · exact sa_nil
          · refine xg_tup ?_
            · refine xgs_cons ?_ ?_
              · exact xg_name 6 (nd__law_left_c244)
              · refine xgs_cons ?_ ?_
                · exact xg_name 7 (nd__law_left_c244)
                · refine xgs_cons ?_ ?_
                  · exact xg_name 8 (nd__law_left_c244)
                  · exact xgs_nil
          · exact .no
          · refine se_bi (call_min2 rfl) bok_min2 T.b_min ?_
            · refine sa_cons ?_ ?_
              · exact se_var 6
              · refine sa_cons ?_ ?_
                · refine se_bin op_sub bok_sub ?_ ?_
                  · exact se_var 7
                  · exact se_var 8
                · exact sa_nil
        · exact ss_nil
    · refine ss_cons ?_ ?_
      · refine s_ret ?_
        · refine se_ty call_tuple_of bok_toTup T.b_tuple ?_
          · refine sa_cons ?_ ?_
            · exact se_var 3
            · exact sa_nil
      · exact ss_nil
theorem ok__law_left_c244 {f : Addr} {fd : FuncData} (F : Fun K "_law_left" "_law_left" s__law_left_c244 f fd) (T : Tx K mg) (c__law_edges : Cal P w K mg base 1 "_law_edges" (spA K a__law_edges)) (c__law_load_eb54 : Cal P w K mg base 1 "_law_load" (spA K a__law_load_eb54)) : FnOk P w K mg base (L2.CX P w) 2 f fd ["_law_m", "_law_begin", "_law_end"] (spA K a__law_left_c244) :=
  fn_ok F sc__law_left_c244 len__law_left_c244 (fun cdv A outer s H E hr => snd__law_left_c244 T c__law_edges c__law_load_eb54 cdv A outer s H E hr) body__law_left_c244
theorem snd__law_asked_7df9 (T : Tx K mg) (c__law_time_e328 : Cal P w K mg base 3 "_law_time" (spA K a__law_time_e328)) (c__law_span : Cal P w K mg base 4 "_law_span" (spA K a__law_span)) (c__law_alike_2e9a : Cal P w K mg base 7 "_law_alike" (spA K a__law_alike_2e9a)) (c_Book_load_at : MCal P w K mg base 2 .Book "load_at" (spA K a_Book_load_at)) (c__law_load_eb54 : Cal P w K mg base 1 "_law_load" (spA K a__law_load_eb54)) (c_Book_next_edge : MCal P w K mg base 1 .Book "next_edge" (spA K a_Book_next_edge)) (c__law_next : Cal P w K mg base 2 "_law_next" (spA K a__law_next)) (c_Book_next_end : MCal P w K mg base 1 .Book "next_end" (spA K a_Book_next_end)) (c_Book_left_over : MCal P w K mg base 3 .Book "left_over" (spA K a_Book_left_over)) (c__law_left_c244 : Cal P w K mg base 2 "_law_left" (spA K a__law_left_c244)) {f : Addr} (cdv : Value) (A : Around) (outer : List Env) (s : Shared) (H : Hp) (E : XK) (hr : Room 7 (A.deeper (envOfC "_law_asked" (defScope s__law_asked_7df9) s.heap.objs.size f cdv))) : SSs (cxOf (L2.CX P w) P w K mg base n__law_asked_7df9 "_law_asked" (defScope s__law_asked_7df9) f cdv A outer s H E) (defBody s__law_asked_7df9) u__law_asked_7df9 := by
  refine ss_cons ?_ ?_
  · refine s_for ?_ ?_ ?_
    · refine si_rng1 T.b_range ?_
      · exact se_var 3
    · exact xg_name 4 (nd__law_asked_7df9)
    · refine ss_cons ?_ ?_
      · refine s_set ?_ nd__law_asked_7df9
        · refine se_call c__law_time_e328 hr ?_
          · refine sa_cons ?_ ?_
            · exact se_var 2
            · refine sa_cons ?_ ?_
              · exact se_var 1
              · exact sa_nil
      · refine ss_cons ?_ ?_
        · refine s_unp ?_ (xg_tup ?_)
          · refine se_call c__law_span hr ?_
            · refine sa_cons ?_ ?_
              · exact se_var 2
              · refine sa_cons ?_ ?_
                · exact se_var 1
                · exact sa_nil
          · refine xgs_cons ?_ ?_
            · exact xg_name 6 (nd__law_asked_7df9)
            · refine xgs_cons ?_ ?_
              · exact xg_name 7 (nd__law_asked_7df9)
              · exact xgs_nil
        · refine ss_cons ?_ ?_
          · refine s_if ?_ ?_ ?_
            · refine st_not ?_
              · refine st_val ?_
                · refine se_call c__law_alike_2e9a hr ?_
                  · refine sa_cons ?_ ?_
                    · refine se_meth c_Book_load_at hr ?_ ?_
                      · exact se_var 0
                      · refine sa_cons ?_ ?_
                        · exact se_var 5
                        · exact sa_nil
                    · refine sa_cons ?_ ?_
                      · refine se_call c__law_load_eb54 hr ?_
                        · refine sa_cons ?_ ?_
                          · exact se_var 1
                          · refine sa_cons ?_ ?_
                            · exact se_var 5
                            · exact sa_nil
                      · exact sa_nil
            · refine ss_cons ?_ ?_
              · refine s_ret ?_
                · exact se_bl
              · exact ss_nil
            · exact ss_nil
          · refine ss_cons ?_ ?_
            · refine s_if ?_ ?_ ?_
              · refine st_not ?_
                · refine st_val ?_
                  · refine se_call c__law_alike_2e9a hr ?_
                    · refine sa_cons ?_ ?_
                      · refine se_meth c_Book_next_edge hr ?_ ?_
                        · exact se_var 0
                        · refine sa_cons ?_ ?_
                          · exact se_var 5
                          · exact sa_nil
                      · refine sa_cons ?_ ?_
                        · refine se_call c__law_next hr ?_
                          · refine sa_cons ?_ ?_
                            · exact se_var 1
                            · refine sa_cons ?_ ?_
                              · exact se_var 5
                              · exact sa_nil
                        · exact sa_nil
              · refine ss_cons ?_ ?_
                · refine s_ret ?_
                  · exact se_bl
                · exact ss_nil
              · exact ss_nil
            · refine ss_cons ?_ ?_
              · refine s_set ?_ nd__law_asked_7df9
                · refine se_bi (cr_srt hr rfl) bok_sorted T.b_sorted ?_
                  · refine sa_cons ?_ ?_
                    · refine se_lock ?_
                      · refine se_lc (own := [("_law_row", 9)]) (nd__law_asked_7df9) ?_ (blkOk_by (N := n__law_asked_7df9) (sc := defScope s__law_asked_7df9) (by decide +kernel)) rfl (fun s H C cl fp => ?_) ?_ (fun s H C cl fp => ?_)
                        · refine si_vals ?_
                          · refine se_ix hr ?_ ?_
                            · exact se_var 1
                            · exact se_str
                        · exact xg_name 9 (nd__law_asked_7df9)
                        · refine .one fun s H C cl fp => ?_
                          · refine st_cmp (op_cmps hr .gt) bok_cmp ?_ ?_ (nomark _)
                            · refine se_ix hr ?_ ?_
                              · exact se_var 9
                              · exact se_int
                            · exact se_var 5
                        · refine se_ix hr ?_ ?_
                          · exact se_var 9
                          · exact se_int
                    · exact sa_nil
              · refine ss_cons ?_ ?_
                · refine s_if ?_ ?_ ?_
                  · refine st_not ?_
                    · refine st_val ?_
                      · refine se_call c__law_alike_2e9a hr ?_
                        · refine sa_cons ?_ ?_
                          · refine se_meth c_Book_next_end hr ?_ ?_
                            · exact se_var 0
                            · refine sa_cons ?_ ?_
                              · exact se_var 5
                              · exact sa_nil
                          · refine sa_cons ?_ ?_
                            · refine se_ite ?_ ?_ ?_
                              · refine st_cmp (op_nes hr) bok_ne ?_ ?_ (nomark _)
                                · exact se_var 8
                                · refine se_lst ?_
                                  · exact sa_nil
                              · refine se_ix hr ?_ ?_
                                · exact se_var 8
                                · exact se_int
                              · exact se_non
                            · exact sa_nil
                  · refine ss_cons ?_ ?_
                    · refine s_ret ?_
                      · exact se_bl
                    · exact ss_nil
                  · exact ss_nil
                · refine ss_cons ?_ ?_
                  · refine s_if ?_ ?_ ?_
                    · refine st_not ?_
                      · refine st_val ?_
                        · refine se_call c__law_alike_2e9a hr ?_
                          · refine sa_cons ?_ ?_
                            · refine se_meth c_Book_left_over hr ?_ ?_
                              · exact se_var 0
                              · refine sa_cons ?_ ?_
                                · exact se_var 6
                                · refine sa_cons ?_ ?_
                                  · exact se_var 7
                                  · exact sa_nil
                            · refine sa_cons ?_ ?_
                              · refine se_call c__law_left_c244 hr ?_
                                · refine sa_cons ?_ ?_
                                  · exact se_var 1
                                  · refine sa_cons ?_ ?_
                                    · exact se_var 6
                                    · refine sa_cons ?_ ?_
                                      · exact se_var 7
                                      · exact sa_nil
                              · exact sa_nil
                    · refine ss_cons ?_ ?_
                      · refine s_ret ?_
                        · exact se_bl
                      · exact ss_nil
                    · exact ss_nil
                  · exact ss_nil
  · refine ss_cons ?_ ?_
    · refine s_ret ?_
      · exact se_bl
    · exact ss_nil
theorem ok__law_asked_7df9 {f : Addr} {fd : FuncData} (F : Fun K "_law_asked" "_law_asked" s__law_asked_7df9 f fd) (T : Tx K mg) (c__law_time_e328 : Cal P w K mg base 3 "_law_time" (spA K a__law_time_e328)) (c__law_span : Cal P w K mg base 4 "_law_span" (spA K a__law_span)) (c__law_alike_2e9a : Cal P w K mg base 7 "_law_alike" (spA K a__law_alike_2e9a)) (c_Book_load_at : MCal P w K mg base 2 .Book "load_at" (spA K a_Book_load_at)) (c__law_load_eb54 : Cal P w K mg base 1 "_law_load" (spA K a__law_load_eb54)) (c_Book_next_edge : MCal P w K mg base 1 .Book "next_edge" (spA K a_Book_next_edge)) (c__law_next : Cal P w K mg base 2 "_law_next" (spA K a__law_next)) (c_Book_next_end : MCal P w K mg base 1 .Book "next_end" (spA K a_Book_next_end)) (c_Book_left_over : MCal P w K mg base 3 .Book "left_over" (spA K a_Book_left_over)) (c__law_left_c244 : Cal P w K mg base 2 "_law_left" (spA K a__law_left_c244)) : FnOk P w K mg base (L2.CX P w) 8 f fd ["_law_book", "_law_m", "_law_box_here", "_law_turns"] (spA K a__law_asked_7df9) :=
  fn_ok F sc__law_asked_7df9 len__law_asked_7df9 (fun cdv A outer s H E hr => snd__law_asked_7df9 T c__law_time_e328 c__law_span c__law_alike_2e9a c_Book_load_at c__law_load_eb54 c_Book_next_edge c__law_next c_Book_next_end c_Book_left_over c__law_left_c244 cdv A outer s H E hr) body__law_asked_7df9
theorem snd_law_k13 (T : Tx K mg) (c__law_box_fa59 : Cal P w K mg base 1 "_law_box" (spA K a__law_box_fa59)) (c__law_keeping : Cal P w K mg base 4 "_law_keeping" (spA K a__law_keeping)) (c_Book___init__ : KCal P w K mg base 1 .Book (spA K a_Book___init__)) (c__law_borne_0ae7 : Cal P w K mg base 3 "_law_borne" (spA K a__law_borne_0ae7)) (c__law_take_bafe : Cal P w K mg base 1 "_law_take" (spA K a__law_take_bafe)) (c__law_filled_77eb : Cal P w K mg base 10 "_law_filled" (spA K a__law_filled_77eb)) (c__law_goes_be0d : Cal P w K mg base 9 "_law_goes" (spA K a__law_goes_be0d)) (c__law_asked_7df9 : Cal P w K mg base 8 "_law_asked" (spA K a__law_asked_7df9)) (c__law_deed_17e3 : Cal P w K mg base 5 "_law_deed" (spA K a__law_deed_17e3)) {f : Addr} (cdv : Value) (A : Around) (outer : List Env) (s : Shared) (H : Hp) (E : XK) (hr : Room 10 (A.deeper (envOfC "law" (defScope s_law_k13) s.heap.objs.size f cdv))) : SSs (cxOf (L2.CX P w) P w K mg base n_law_k13 "law" (defScope s_law_k13) f cdv A outer s H E) (defBody s_law_k13) u_law_k13 := by
  refine ss_cons ?_ ?_
  · refine s_set ?_ nd_law_k13
    · refine se_call c__law_box_fa59 hr ?_
      · refine sa_cons ?_ ?_
        · exact se_var 0
        · refine sa_cons ?_ ?_
          · refine se_bin op_fdivW bok_fdv ?_ ?_
            · refine se_bi cr_len bok_len T.b_len ?_
              · refine sa_cons ?_ ?_
                · exact se_var 0
                · exact sa_nil
            · exact se_int
          · exact sa_nil
  · refine ss_cons ?_ ?_
    · refine s_set ?_ nd_law_k13
      · refine se_call c__law_keeping hr ?_
        · refine sa_cons ?_ ?_
          · exact se_var 1
          · exact sa_nil
    · refine ss_cons ?_ ?_
      · refine s_set ?_ nd_law_k13
        · refine se_make c_Book___init__ hr ?_
          · refine sa_cons ?_ ?_
            · refine se_ix hr ?_ ?_
              · exact se_var 2
              · exact se_str
            · exact sa_nil
      · refine ss_cons ?_ ?_
        · refine s_set ?_ nd_law_k13
          · refine se_cmp (op_eqs hr) bok_eq ?_ ?_ (nomark _)
            · refine se_call c__law_take_bafe hr ?_
              · refine sa_cons ?_ ?_
                · exact se_var 1
                · refine sa_cons ?_ ?_
                  · exact se_int
                  · exact sa_nil
            · exact se_int
        · refine ss_cons ?_ ?_
          · refine s_set ?_ nd_law_k13
            · refine se_lst ?_
              · refine sa_cons ?_ ?_
                · exact se_str
                · refine sa_cons ?_ ?_
                  · exact se_str
                  · refine sa_cons ?_ ?_
                    · exact se_str
                    · refine sa_cons ?_ ?_
                      · exact se_str
                      · refine sa_cons ?_ ?_
                        · exact se_str
                        · refine sa_cons ?_ ?_
                          · exact se_str
                          · refine sa_cons ?_ ?_
                            · exact se_str
                            · refine sa_cons ?_ ?_
                              · exact se_str
                              · refine sa_cons ?_ ?_
                                · exact se_str
                                · exact sa_nil
          · refine ss_cons ?_ ?_
            · refine s_for ?_ ?_ ?_
              · refine si_rng1 T.b_range ?_
                · refine se_bi (call_max2 rfl) bok_max2 T.b_max ?_
                  · refine sa_cons ?_ ?_
                    · exact se_int
                    · refine sa_cons ?_ ?_
                      · refine se_bi (call_min2 rfl) bok_min2 T.b_min ?_
                        · refine sa_cons ?_ ?_
                          · refine se_bi cr_len bok_len T.b_len ?_
                            · refine sa_cons ?_ ?_
                              · exact se_var 0
                              · exact sa_nil
                          · refine sa_cons ?_ ?_
                            · refine se_bin op_sub bok_sub ?_ ?_
                              · exact se_int
                              · refine se_bin op_muls bok_mul ?_ ?_
                                · exact se_int
                                · refine se_ty call_int1 bok_toInt T.b_int ?_
                                  · refine sa_cons ?_ ?_
                                    · exact se_var 4
                                    · exact sa_nil
                            · exact sa_nil
                      · exact sa_nil
              · exact xg_name 6 (nd_law_k13)
              · refine ss_cons ?_ ?_
                · refine s_set ?_ nd_law_k13
                  · refine se_call c__law_box_fa59 hr ?_
                    · refine sa_cons ?_ ?_
                      · exact se_var 0
                      · refine sa_cons ?_ ?_
                        · exact se_var 6
                        · exact sa_nil
                · refine ss_cut ?_ ?_
                  · refine s_if ?_ ?_ ?_
                    · refine SWh.st ?_
                      · refine sw_and ?_ ?_
                        · refine st_val ?_
                          · exact se_var 4
                        · refine sw_and ?_ ?_
                          · refine st_cmp (op_cmps hr .lt) bok_cmp ?_ ?_ (nomark _)
                            · refine se_bi cr_len bok_len T.b_len ?_
                              · refine sa_cons ?_ ?_
                                · refine se_ix hr ?_ ?_
                                  · exact se_var 2
                                  · exact se_str
                                · exact sa_nil
                            · exact se_int
                          · refine sw_and1 ?_
                            · refine st_not ?_
                              · refine st_val ?_
                                · refine se_call c__law_filled_77eb hr ?_
                                  · refine sa_cons ?_ ?_
                                    · exact se_var 3
                                    · refine sa_cons ?_ ?_
                                      · exact se_var 2
                                      · refine sa_cons ?_ ?_
                                        · exact se_var 1
                                        · refine sa_cons ?_ ?_
                                          · exact se_int
                                          · refine sa_cons ?_ ?_
                                            · exact se_int
                                            · exact sa_nil
                    · refine ss_cons ?_ ?_
                      · refine s_ret ?_
                        · exact se_bl
                      · exact ss_nil
                    · exact ss_nil
                  · refine ss_cons ?_ ?_
                    · refine s_for ?_ ?_ ?_
                      · refine si_rng1 T.b_range ?_
                        · refine se_bin op_adds bok_add ?_ ?_
                          · exact se_int
                          · refine se_ty call_int1 bok_toInt T.b_int ?_
                            · refine sa_cons ?_ ?_
                              · refine se_cmp (op_cmps hr .lt) bok_cmp ?_ ?_ (nomark _)
                                · refine se_bi cr_len bok_len T.b_len ?_
                                  · refine sa_cons ?_ ?_
                                    · exact se_var 0
                                    · exact sa_nil
                                · exact se_int
                              · exact sa_nil
                      · exact xg_name 7 (nd_law_k13)
                      · refine ss_cons ?_ ?_
                        · refine s_if ?_ ?_ ?_
                          · refine st_not ?_
                            · refine st_val ?_
                              · refine se_call c__law_goes_be0d hr ?_
                                · refine sa_cons ?_ ?_
                                  · exact se_var 3
                                  · refine sa_cons ?_ ?_
                                    · exact se_var 2
                                    · refine sa_cons ?_ ?_
                                      · refine se_call c__law_deed_17e3 hr ?_
                                        · refine sa_cons ?_ ?_
                                          · exact se_var 1
                                          · refine sa_cons ?_ ?_
                                            · exact se_var 2
                                            · refine sa_cons ?_ ?_
                                              · exact se_var 5
                                              · refine sa_cons ?_ ?_
                                                · refine se_bin op_adds bok_add ?_ ?_
                                                  · exact se_int
                                                  · refine se_bin op_muls bok_mul ?_ ?_
                                                    · exact se_int
                                                    · refine se_ty call_int1 bok_toInt T.b_int ?_
                                                      · refine sa_cons ?_ ?_
                                                        · exact se_var 4
                                                        · exact sa_nil
                                                · exact sa_nil
                                      · exact sa_nil
                          · refine ss_cons ?_ ?_
                            · refine s_ret ?_
                              · exact se_bl
                            · exact ss_nil
                          · exact ss_nil
                        · exact ss_nil
                    · refine ss_cons ?_ ?_
                      · refine s_set ?_ nd_law_k13
                        · refine se_ite ?_ ?_ ?_
                          · refine st_cmp (op_cmps hr .lt) bok_cmp ?_ ?_ (nomark _)
                            · refine se_bi cr_len bok_len T.b_len ?_
                              · refine sa_cons ?_ ?_
                                · refine se_ix hr ?_ ?_
                                  · exact se_var 2
                                  · exact se_str
                                · exact sa_nil
                            · exact se_int
                          · exact se_int
                          · refine se_ty call_int1 bok_toInt T.b_int ?_
                            · refine sa_cons ?_ ?_
                              · refine se_cmp (op_eqs hr) bok_eq ?_ ?_ (nomark _)
                                · refine se_bin op_mod bok_mod ?_ ?_
                                  · exact se_var 6
                                  · exact se_int
                                · exact se_int
                              · exact sa_nil
                      · refine ss_cons ?_ ?_
                        · refine s_if ?_ ?_ ?_
                          · refine SWh.st ?_
                            · refine sw_or ?_ ?_
                              · refine st_not ?_
                                · refine st_val ?_
                                  · refine se_call c__law_asked_7df9 hr ?_
                                    · refine sa_cons ?_ ?_
                                      · exact se_var 3
                                      · refine sa_cons ?_ ?_
                                        · exact se_var 2
                                        · refine sa_cons ?_ ?_
                                          · exact se_var 1
                                          · refine sa_cons ?_ ?_
                                            · exact se_var 8
                                            · exact sa_nil
                              · refine sw_or1 ?_
                                · refine SWh.st ?_
                                  · refine sw_and ?_ ?_
                                    · refine st_cmp (op_eqs hr) bok_eq ?_ ?_ (nomark _)
                                      · refine se_bin op_mod bok_mod ?_ ?_
                                        · exact se_var 6
                                        · exact se_int
                                      · exact se_int
                                    · refine sw_and1 ?_
                                      · refine st_not ?_
                                        · refine st_val ?_
                                          · refine se_call c__law_borne_0ae7 hr ?_
                                            · refine sa_cons ?_ ?_
                                              · exact se_var 3
                                              · refine sa_cons ?_ ?_
                                                · exact se_var 2
                                                · exact sa_nil
                          · refine ss_cons ?_ ?_
                            · refine s_ret ?_
                              · exact se_bl
                            · exact ss_nil
                          · exact ss_nil
                        · exact ss_nil
            · refine ss_cons ?_ ?_
              · refine s_ret ?_
                · refine se_call c__law_borne_0ae7 hr ?_
                  · refine sa_cons ?_ ?_
                    · exact se_var 3
                    · refine sa_cons ?_ ?_
                      · exact se_var 2
                      · exact sa_nil
              · exact ss_nil
theorem ok_law_k13 {f : Addr} {fd : FuncData} (F : Fun K "law" "law" s_law_k13 f fd) (T : Tx K mg) (c__law_box_fa59 : Cal P w K mg base 1 "_law_box" (spA K a__law_box_fa59)) (c__law_keeping : Cal P w K mg base 4 "_law_keeping" (spA K a__law_keeping)) (c_Book___init__ : KCal P w K mg base 1 .Book (spA K a_Book___init__)) (c__law_borne_0ae7 : Cal P w K mg base 3 "_law_borne" (spA K a__law_borne_0ae7)) (c__law_take_bafe : Cal P w K mg base 1 "_law_take" (spA K a__law_take_bafe)) (c__law_filled_77eb : Cal P w K mg base 10 "_law_filled" (spA K a__law_filled_77eb)) (c__law_goes_be0d : Cal P w K mg base 9 "_law_goes" (spA K a__law_goes_be0d)) (c__law_asked_7df9 : Cal P w K mg base 8 "_law_asked" (spA K a__law_asked_7df9)) (c__law_deed_17e3 : Cal P w K mg base 5 "_law_deed" (spA K a__law_deed_17e3)) : FnOk P w K mg base (L2.CX P w) 11 f fd ["_law_script"] (spA K a_law_k13) :=
  fn_ok F sc_law_k13 len_law_k13 (fun cdv A outer s H E hr => snd_law_k13 T c__law_box_fa59 c__law_keeping c_Book___init__ c__law_borne_0ae7 c__law_take_bafe c__law_filled_77eb c__law_goes_be0d c__law_asked_7df9 c__law_deed_17e3 cdv A outer s H E hr) body_law_k13
end
def allP (P : Fld → Prop) : List Fld → Prop
  | [] => True
  | f :: fs => P f ∧ allP P fs
theorem na_of {P : Fld → Prop} : ∀ {fs : List Fld}, allP P fs → ∀ f ∈ fs, P f
  | [], _, _, h => by cases h
  | _ :: _, h, _, hm => by
    cases hm with
    | head => exact h.1
    | tail _ hm => exact na_of h.2 _ hm
theorem all_mk {l : PySem.W.OpenLaw} {w : World} {K : PySem.W.Frag} {h : Heap} {mg : Str → Option Value} {fa f0 f1 f2 f3 f4 f5 f6 f7 f8 f9 f10 f11 f12 f13 f14 f15 f16 f17 f18 f19 f20 f21 f22 f23 f24 f25 f26 f27 f28 f29 f30 f31 f32 f33 f34 f35 f36 f37 f38 f39 f40 f41 f42 f43 f44 f45 f46 f47 C_Book X_HallError X_Taken X_NoKey X_TooMuch X_NoHouse X_NoGang X_NoGuild X_NoKind X_InUse X_TooMany X_NoPlan X_Past X_BadRow fI_TooMuch : Addr} (X : K.In h) (G : h.Ns mainGlobals mg) (hfa : mg "law" = some (.ref fa))
    (gC_Book : PySem.W.nsIn K mainGlobals "Book" = some (some (.ref C_Book)))
    (gX_HallError : PySem.W.nsIn K mainGlobals "HallError" = some (some (.ref X_HallError)))
    (gX_Taken : PySem.W.nsIn K mainGlobals "Taken" = some (some (.ref X_Taken)))
    (gX_NoKey : PySem.W.nsIn K mainGlobals "NoKey" = some (some (.ref X_NoKey)))
    (gX_TooMuch : PySem.W.nsIn K mainGlobals "TooMuch" = some (some (.ref X_TooMuch)))
    (gX_NoHouse : PySem.W.nsIn K mainGlobals "NoHouse" = some (some (.ref X_NoHouse)))
    (gX_NoGang : PySem.W.nsIn K mainGlobals "NoGang" = some (some (.ref X_NoGang)))
    (gX_NoGuild : PySem.W.nsIn K mainGlobals "NoGuild" = some (some (.ref X_NoGuild)))
    (gX_NoKind : PySem.W.nsIn K mainGlobals "NoKind" = some (some (.ref X_NoKind)))
    (gX_InUse : PySem.W.nsIn K mainGlobals "InUse" = some (some (.ref X_InUse)))
    (gX_TooMany : PySem.W.nsIn K mainGlobals "TooMany" = some (some (.ref X_TooMany)))
    (gX_NoPlan : PySem.W.nsIn K mainGlobals "NoPlan" = some (some (.ref X_NoPlan)))
    (gX_Past : PySem.W.nsIn K mainGlobals "Past" = some (some (.ref X_Past)))
    (gX_BadRow : PySem.W.nsIn K mainGlobals "BadRow" = some (some (.ref X_BadRow)))
    {od0 an0 : Option Addr} {sl0 : Array (Option Value)} {oc0 kV0 dc0 pm0 cd0 ct0 : Value}
    (a0 : PySem.W.nsIn K mainGlobals "_law_box" = some (some (.ref f0)))
    (l0 : K.lookup f0 = some ⟨oc0, od0, .func (PySem.W.fnOf "_law_box" "_law_box" (defArgs s__law_box_fa59) (defBody s__law_box_fa59) (defScope s__law_box_fa59) .none kV0 dc0 pm0 an0 cd0 ct0), sl0⟩)
    (c0 : PySem.W.codeIn K cd0 "_law_box" = true)
    (k0 : PySem.W.keepIn K (.ref f0) = true)
    {od1 an1 : Option Addr} {sl1 : Array (Option Value)} {oc1 kV1 dc1 pm1 cd1 ct1 : Value}
    (a1 : PySem.W.nsIn K mainGlobals "_law_take" = some (some (.ref f1)))
    (l1 : K.lookup f1 = some ⟨oc1, od1, .func (PySem.W.fnOf "_law_take" "_law_take" (defArgs s__law_take_bafe) (defBody s__law_take_bafe) (defScope s__law_take_bafe) .none kV1 dc1 pm1 an1 cd1 ct1), sl1⟩)
    (c1 : PySem.W.codeIn K cd1 "_law_take" = true)
    (k1 : PySem.W.keepIn K (.ref f1) = true)
    {od2 an2 : Option Addr} {sl2 : Array (Option Value)} {oc2 kV2 dc2 pm2 cd2 ct2 : Value}
    (a2 : PySem.W.nsIn K mainGlobals "_law_number" = some (some (.ref f2)))
    (l2 : K.lookup f2 = some ⟨oc2, od2, .func (PySem.W.fnOf "_law_number" "_law_number" (defArgs s__law_number) (defBody s__law_number) (defScope s__law_number) .none kV2 dc2 pm2 an2 cd2 ct2), sl2⟩)
    (c2 : PySem.W.codeIn K cd2 "_law_number" = true)
    (k2 : PySem.W.keepIn K (.ref f2) = true)
    {od3 an3 : Option Addr} {sl3 : Array (Option Value)} {oc3 kV3 dc3 pm3 cd3 ct3 : Value}
    (a3 : PySem.W.nsIn K mainGlobals "_law_amount" = some (some (.ref f3)))
    (l3 : K.lookup f3 = some ⟨oc3, od3, .func (PySem.W.fnOf "_law_amount" "_law_amount" (defArgs s__law_amount_7792) (defBody s__law_amount_7792) (defScope s__law_amount_7792) .none kV3 dc3 pm3 an3 cd3 ct3), sl3⟩)
    (c3 : PySem.W.codeIn K cd3 "_law_amount" = true)
    (k3 : PySem.W.keepIn K (.ref f3) = true)
    {od4 an4 : Option Addr} {sl4 : Array (Option Value)} {oc4 kV4 dc4 pm4 cd4 ct4 : Value}
    (a4 : PySem.W.nsIn K mainGlobals "_law_keeping" = some (some (.ref f4)))
    (l4 : K.lookup f4 = some ⟨oc4, od4, .func (PySem.W.fnOf "_law_keeping" "_law_keeping" (defArgs s__law_keeping) (defBody s__law_keeping) (defScope s__law_keeping) .none kV4 dc4 pm4 an4 cd4 ct4), sl4⟩)
    (c4 : PySem.W.codeIn K cd4 "_law_keeping" = true)
    (k4 : PySem.W.keepIn K (.ref f4) = true)
    {od5 an5 : Option Addr} {sl5 : Array (Option Value)} {oc5 kV5 dc5 pm5 cd5 ct5 : Value}
    (a5 : PySem.W.findIn K (.ref C_Book) "__init__" = some (some (.ref f5)))
    (i5 : PySem.W.isFn K (.ref f5) = true)
    (l5 : K.lookup f5 = some ⟨oc5, od5, .func (PySem.W.fnOf "__init__" "Book.__init__" (defArgs s_Book___init__) (defBody s_Book___init__) (defScope s_Book___init__) .none kV5 dc5 pm5 an5 cd5 ct5), sl5⟩)
    (c5 : PySem.W.codeIn K cd5 "Book.__init__" = true)
    (k5 : PySem.W.keepIn K (.ref f5) = true)
    {od6 an6 : Option Addr} {sl6 : Array (Option Value)} {oc6 kV6 dc6 pm6 cd6 ct6 : Value}
    (a6 : PySem.W.nsIn K mainGlobals "_law_edges" = some (some (.ref f6)))
    (l6 : K.lookup f6 = some ⟨oc6, od6, .func (PySem.W.fnOf "_law_edges" "_law_edges" (defArgs s__law_edges) (defBody s__law_edges) (defScope s__law_edges) .none kV6 dc6 pm6 an6 cd6 ct6), sl6⟩)
    (c6 : PySem.W.codeIn K cd6 "_law_edges" = true)
    (k6 : PySem.W.keepIn K (.ref f6) = true)
    {od7 an7 : Option Addr} {sl7 : Array (Option Value)} {oc7 kV7 dc7 pm7 cd7 ct7 : Value}
    (a7 : PySem.W.nsIn K mainGlobals "nothing_of" = some (some (.ref f7)))
    (l7 : K.lookup f7 = some ⟨oc7, od7, .func (PySem.W.fnOf "nothing_of" "nothing_of" (defArgs s_nothing_of) (defBody s_nothing_of) (defScope s_nothing_of) .none kV7 dc7 pm7 an7 cd7 ct7), sl7⟩)
    (c7 : PySem.W.codeIn K cd7 "nothing_of" = true)
    (k7 : PySem.W.keepIn K (.ref f7) = true)
    {od8 an8 : Option Addr} {sl8 : Array (Option Value)} {oc8 kV8 dc8 pm8 cd8 ct8 : Value}
    (a8 : PySem.W.nsIn K mainGlobals "amount_sum" = some (some (.ref f8)))
    (l8 : K.lookup f8 = some ⟨oc8, od8, .func (PySem.W.fnOf "amount_sum" "amount_sum" (defArgs s_amount_sum) (defBody s_amount_sum) (defScope s_amount_sum) .none kV8 dc8 pm8 an8 cd8 ct8), sl8⟩)
    (c8 : PySem.W.codeIn K cd8 "amount_sum" = true)
    (k8 : PySem.W.keepIn K (.ref f8) = true)
    {od9 an9 : Option Addr} {sl9 : Array (Option Value)} {oc9 kV9 dc9 pm9 cd9 ct9 : Value}
    (a9 : PySem.W.findIn K (.ref C_Book) "load_at" = some (some (.ref f9)))
    (i9 : PySem.W.isFn K (.ref f9) = true)
    (l9 : K.lookup f9 = some ⟨oc9, od9, .func (PySem.W.fnOf "load_at" "Book.load_at" (defArgs s_Book_load_at) (defBody s_Book_load_at) (defScope s_Book_load_at) .none kV9 dc9 pm9 an9 cd9 ct9), sl9⟩)
    (c9 : PySem.W.codeIn K cd9 "Book.load_at" = true)
    (k9 : PySem.W.keepIn K (.ref f9) = true)
    {od10 an10 : Option Addr} {sl10 : Array (Option Value)} {oc10 kV10 dc10 pm10 cd10 ct10 : Value}
    (a10 : PySem.W.nsIn K mainGlobals "_law_borne" = some (some (.ref f10)))
    (l10 : K.lookup f10 = some ⟨oc10, od10, .func (PySem.W.fnOf "_law_borne" "_law_borne" (defArgs s__law_borne_0ae7) (defBody s__law_borne_0ae7) (defScope s__law_borne_0ae7) .none kV10 dc10 pm10 an10 cd10 ct10), sl10⟩)
    (c10 : PySem.W.codeIn K cd10 "_law_borne" = true)
    (k10 : PySem.W.keepIn K (.ref f10) = true)
    {od11 an11 : Option Addr} {sl11 : Array (Option Value)} {oc11 kV11 dc11 pm11 cd11 ct11 : Value}
    (a11 : PySem.W.nsIn K mainGlobals "_law_alike" = some (some (.ref f11)))
    (l11 : K.lookup f11 = some ⟨oc11, od11, .func (PySem.W.fnOf "_law_alike" "_law_alike" (defArgs s__law_alike_2e9a) (defBody s__law_alike_2e9a) (defScope s__law_alike_2e9a) .none kV11 dc11 pm11 an11 cd11 ct11), sl11⟩)
    (c11 : PySem.W.codeIn K cd11 "_law_alike" = true)
    (k11 : PySem.W.keepIn K (.ref f11) = true)
    {od12 an12 : Option Addr} {sl12 : Array (Option Value)} {oc12 kV12 dc12 pm12 cd12 ct12 : Value}
    (a12 : PySem.W.findIn K (.ref C_Book) "entry_rows" = some (some (.ref f12)))
    (i12 : PySem.W.isFn K (.ref f12) = true)
    (l12 : K.lookup f12 = some ⟨oc12, od12, .func (PySem.W.fnOf "entry_rows" "Book.entry_rows" (defArgs s_Book_entry_rows) (defBody s_Book_entry_rows) (defScope s_Book_entry_rows) .none kV12 dc12 pm12 an12 cd12 ct12), sl12⟩)
    (c12 : PySem.W.codeIn K cd12 "Book.entry_rows" = true)
    (k12 : PySem.W.keepIn K (.ref f12) = true)
    {od13 an13 : Option Addr} {sl13 : Array (Option Value)} {oc13 kV13 dc13 pm13 cd13 ct13 : Value}
    (a13 : PySem.W.nsIn K mainGlobals "_law_rows_due" = some (some (.ref f13)))
    (l13 : K.lookup f13 = some ⟨oc13, od13, .func (PySem.W.fnOf "_law_rows_due" "_law_rows_due" (defArgs s__law_rows_due_422a) (defBody s__law_rows_due_422a) (defScope s__law_rows_due_422a) .none kV13 dc13 pm13 an13 cd13 ct13), sl13⟩)
    (c13 : PySem.W.codeIn K cd13 "_law_rows_due" = true)
    (k13 : PySem.W.keepIn K (.ref f13) = true)
    {od14 an14 : Option Addr} {sl14 : Array (Option Value)} {oc14 kV14 dc14 pm14 cd14 ct14 : Value}
    (a14 : PySem.W.findIn K (.ref C_Book) "whole_room" = some (some (.ref f14)))
    (i14 : PySem.W.isFn K (.ref f14) = true)
    (l14 : K.lookup f14 = some ⟨oc14, od14, .func (PySem.W.fnOf "whole_room" "Book.whole_room" (defArgs s_Book_whole_room) (defBody s_Book_whole_room) (defScope s_Book_whole_room) .none kV14 dc14 pm14 an14 cd14 ct14), sl14⟩)
    (c14 : PySem.W.codeIn K cd14 "Book.whole_room" = true)
    (k14 : PySem.W.keepIn K (.ref f14) = true)
    {od15 an15 : Option Addr} {sl15 : Array (Option Value)} {oc15 kV15 dc15 pm15 cd15 ct15 : Value}
    (a15 : PySem.W.nsIn K mainGlobals "_law_stands" = some (some (.ref f15)))
    (l15 : K.lookup f15 = some ⟨oc15, od15, .func (PySem.W.fnOf "_law_stands" "_law_stands" (defArgs s__law_stands_ede1) (defBody s__law_stands_ede1) (defScope s__law_stands_ede1) .none kV15 dc15 pm15 an15 cd15 ct15), sl15⟩)
    (c15 : PySem.W.codeIn K cd15 "_law_stands" = true)
    (k15 : PySem.W.keepIn K (.ref f15) = true)
    {od16 an16 : Option Addr} {sl16 : Array (Option Value)} {oc16 kV16 dc16 pm16 cd16 ct16 : Value}
    (a16 : PySem.W.findIn K (.ref C_Book) "rises_in" = some (some (.ref f16)))
    (i16 : PySem.W.isFn K (.ref f16) = true)
    (l16 : K.lookup f16 = some ⟨oc16, od16, .func (PySem.W.fnOf "rises_in" "Book.rises_in" (defArgs s_Book_rises_in) (defBody s_Book_rises_in) (defScope s_Book_rises_in) .none kV16 dc16 pm16 an16 cd16 ct16), sl16⟩)
    (c16 : PySem.W.codeIn K cd16 "Book.rises_in" = true)
    (k16 : PySem.W.keepIn K (.ref f16) = true)
    {od17 an17 : Option Addr} {sl17 : Array (Option Value)} {oc17 kV17 dc17 pm17 cd17 ct17 : Value}
    (a17 : PySem.W.nsIn K mainGlobals "amount_fits" = some (some (.ref f17)))
    (l17 : K.lookup f17 = some ⟨oc17, od17, .func (PySem.W.fnOf "amount_fits" "amount_fits" (defArgs s_amount_fits) (defBody s_amount_fits) (defScope s_amount_fits) .none kV17 dc17 pm17 an17 cd17 ct17), sl17⟩)
    (c17 : PySem.W.codeIn K cd17 "amount_fits" = true)
    (k17 : PySem.W.keepIn K (.ref f17) = true)
    {od18 an18 : Option Addr} {sl18 : Array (Option Value)} {oc18 kV18 dc18 pm18 cd18 ct18 : Value}
    (a18 : PySem.W.findIn K (.ref C_Book) "look_room" = some (some (.ref f18)))
    (i18 : PySem.W.isFn K (.ref f18) = true)
    (l18 : K.lookup f18 = some ⟨oc18, od18, .func (PySem.W.fnOf "look_room" "Book.look_room" (defArgs s_Book_look_room) (defBody s_Book_look_room) (defScope s_Book_look_room) .none kV18 dc18 pm18 an18 cd18 ct18), sl18⟩)
    (c18 : PySem.W.codeIn K cd18 "Book.look_room" = true)
    (k18 : PySem.W.keepIn K (.ref f18) = true)
    {od19 an19 : Option Addr} {sl19 : Array (Option Value)} {oc19 kV19 dc19 pm19 cd19 ct19 : Value}
    (a19 : PySem.W.findIn K (.ref C_Book) "put_entry" = some (some (.ref f19)))
    (i19 : PySem.W.isFn K (.ref f19) = true)
    (l19 : K.lookup f19 = some ⟨oc19, od19, .func (PySem.W.fnOf "put_entry" "Book.put_entry" (defArgs s_Book_put_entry) (defBody s_Book_put_entry) (defScope s_Book_put_entry) .none kV19 dc19 pm19 an19 cd19 ct19), sl19⟩)
    (c19 : PySem.W.codeIn K cd19 "Book.put_entry" = true)
    (k19 : PySem.W.keepIn K (.ref f19) = true)
    {od20 an20 : Option Addr} {sl20 : Array (Option Value)} {oc20 kV20 dc20 pm20 cd20 ct20 : Value}
    (a20 : PySem.W.findIn K (.ref C_Book) "row_of" = some (some (.ref f20)))
    (i20 : PySem.W.isFn K (.ref f20) = true)
    (l20 : K.lookup f20 = some ⟨oc20, od20, .func (PySem.W.fnOf "row_of" "Book.row_of" (defArgs s_Book_row_of) (defBody s_Book_row_of) (defScope s_Book_row_of) .none kV20 dc20 pm20 an20 cd20 ct20), sl20⟩)
    (c20 : PySem.W.codeIn K cd20 "Book.row_of" = true)
    (k20 : PySem.W.keepIn K (.ref f20) = true)
    {od21 an21 : Option Addr} {sl21 : Array (Option Value)} {oc21 kV21 dc21 pm21 cd21 ct21 : Value}
    (a21 : PySem.W.findIn K (.ref C_Book) "cut_entry" = some (some (.ref f21)))
    (i21 : PySem.W.isFn K (.ref f21) = true)
    (l21 : K.lookup f21 = some ⟨oc21, od21, .func (PySem.W.fnOf "cut_entry" "Book.cut_entry" (defArgs s_Book_cut_entry) (defBody s_Book_cut_entry) (defScope s_Book_cut_entry) .none kV21 dc21 pm21 an21 cd21 ct21), sl21⟩)
    (c21 : PySem.W.codeIn K cd21 "Book.cut_entry" = true)
    (k21 : PySem.W.keepIn K (.ref f21) = true)
    {od22 an22 : Option Addr} {sl22 : Array (Option Value)} {oc22 kV22 dc22 pm22 cd22 ct22 : Value}
    (a22 : PySem.W.findIn K (.ref C_Book) "stretch_entry" = some (some (.ref f22)))
    (i22 : PySem.W.isFn K (.ref f22) = true)
    (l22 : K.lookup f22 = some ⟨oc22, od22, .func (PySem.W.fnOf "stretch_entry" "Book.stretch_entry" (defArgs s_Book_stretch_entry) (defBody s_Book_stretch_entry) (defScope s_Book_stretch_entry) .none kV22 dc22 pm22 an22 cd22 ct22), sl22⟩)
    (c22 : PySem.W.codeIn K cd22 "Book.stretch_entry" = true)
    (k22 : PySem.W.keepIn K (.ref f22) = true)
    {od23 an23 : Option Addr} {sl23 : Array (Option Value)} {oc23 kV23 dc23 pm23 cd23 ct23 : Value}
    (a23 : PySem.W.findIn K (.ref C_Book) "drop_entry" = some (some (.ref f23)))
    (i23 : PySem.W.isFn K (.ref f23) = true)
    (l23 : K.lookup f23 = some ⟨oc23, od23, .func (PySem.W.fnOf "drop_entry" "Book.drop_entry" (defArgs s_Book_drop_entry) (defBody s_Book_drop_entry) (defScope s_Book_drop_entry) .none kV23 dc23 pm23 an23 cd23 ct23), sl23⟩)
    (c23 : PySem.W.codeIn K cd23 "Book.drop_entry" = true)
    (k23 : PySem.W.keepIn K (.ref f23) = true)
    {od24 an24 : Option Addr} {sl24 : Array (Option Value)} {oc24 kV24 dc24 pm24 cd24 ct24 : Value}
    (a24 : PySem.W.findIn K (.ref C_Book) "drop_past" = some (some (.ref f24)))
    (i24 : PySem.W.isFn K (.ref f24) = true)
    (l24 : K.lookup f24 = some ⟨oc24, od24, .func (PySem.W.fnOf "drop_past" "Book.drop_past" (defArgs s_Book_drop_past) (defBody s_Book_drop_past) (defScope s_Book_drop_past) .none kV24 dc24 pm24 an24 cd24 ct24), sl24⟩)
    (c24 : PySem.W.codeIn K cd24 "Book.drop_past" = true)
    (k24 : PySem.W.keepIn K (.ref f24) = true)
    {od25 an25 : Option Addr} {sl25 : Array (Option Value)} {oc25 kV25 dc25 pm25 cd25 ct25 : Value}
    (a25 : PySem.W.nsIn K mainGlobals "_law_called" = some (some (.ref f25)))
    (l25 : K.lookup f25 = some ⟨oc25, od25, .func (PySem.W.fnOf "_law_called" "_law_called" (defArgs s__law_called) (defBody s__law_called) (defScope s__law_called) .none kV25 dc25 pm25 an25 cd25 ct25), sl25⟩)
    (c25 : PySem.W.codeIn K cd25 "_law_called" = true)
    (k25 : PySem.W.keepIn K (.ref f25) = true)
    {od26 an26 : Option Addr} {sl26 : Array (Option Value)} {oc26 kV26 dc26 pm26 cd26 ct26 : Value}
    (a26 : PySem.W.nsIn K mainGlobals "_law_word" = some (some (.ref f26)))
    (l26 : K.lookup f26 = some ⟨oc26, od26, .func (PySem.W.fnOf "_law_word" "_law_word" (defArgs s__law_word_5e12) (defBody s__law_word_5e12) (defScope s__law_word_5e12) .none kV26 dc26 pm26 an26 cd26 ct26), sl26⟩)
    (c26 : PySem.W.codeIn K cd26 "_law_word" = true)
    (k26 : PySem.W.keepIn K (.ref f26) = true)
    {od27 an27 : Option Addr} {sl27 : Array (Option Value)} {oc27 kV27 dc27 pm27 cd27 ct27 : Value}
    (a27 : PySem.W.nsIn K mainGlobals "_law_told" = some (some (.ref f27)))
    (l27 : K.lookup f27 = some ⟨oc27, od27, .func (PySem.W.fnOf "_law_told" "_law_told" (defArgs s__law_told_0ead) (defBody s__law_told_0ead) (defScope s__law_told_0ead) .none kV27 dc27 pm27 an27 cd27 ct27), sl27⟩)
    (c27 : PySem.W.codeIn K cd27 "_law_told" = true)
    (k27 : PySem.W.keepIn K (.ref f27) = true)
    {od28 an28 : Option Addr} {sl28 : Array (Option Value)} {oc28 kV28 dc28 pm28 cd28 ct28 : Value}
    (a28 : PySem.W.nsIn K mainGlobals "_law_load" = some (some (.ref f28)))
    (l28 : K.lookup f28 = some ⟨oc28, od28, .func (PySem.W.fnOf "_law_load" "_law_load" (defArgs s__law_load_eb54) (defBody s__law_load_eb54) (defScope s__law_load_eb54) .none kV28 dc28 pm28 an28 cd28 ct28), sl28⟩)
    (c28 : PySem.W.codeIn K cd28 "_law_load" = true)
    (k28 : PySem.W.keepIn K (.ref f28) = true)
    {od29 an29 : Option Addr} {sl29 : Array (Option Value)} {oc29 kV29 dc29 pm29 cd29 ct29 : Value}
    (a29 : PySem.W.nsIn K mainGlobals "_law_first_more" = some (some (.ref f29)))
    (l29 : K.lookup f29 = some ⟨oc29, od29, .func (PySem.W.fnOf "_law_first_more" "_law_first_more" (defArgs s__law_first_more) (defBody s__law_first_more) (defScope s__law_first_more) .none kV29 dc29 pm29 an29 cd29 ct29), sl29⟩)
    (c29 : PySem.W.codeIn K cd29 "_law_first_more" = true)
    (k29 : PySem.W.keepIn K (.ref f29) = true)
    {od30 an30 : Option Addr} {sl30 : Array (Option Value)} {oc30 kV30 dc30 pm30 cd30 ct30 : Value}
    (a30 : PySem.W.nsIn K mainGlobals "_law_put_due" = some (some (.ref f30)))
    (l30 : K.lookup f30 = some ⟨oc30, od30, .func (PySem.W.fnOf "_law_put_due" "_law_put_due" (defArgs s__law_put_due) (defBody s__law_put_due) (defScope s__law_put_due) .none kV30 dc30 pm30 an30 cd30 ct30), sl30⟩)
    (c30 : PySem.W.codeIn K cd30 "_law_put_due" = true)
    (k30 : PySem.W.keepIn K (.ref f30) = true)
    {od31 an31 : Option Addr} {sl31 : Array (Option Value)} {oc31 kV31 dc31 pm31 cd31 ct31 : Value}
    (a31 : PySem.W.nsIn K mainGlobals "_law_due" = some (some (.ref f31)))
    (l31 : K.lookup f31 = some ⟨oc31, od31, .func (PySem.W.fnOf "_law_due" "_law_due" (defArgs s__law_due_3a95) (defBody s__law_due_3a95) (defScope s__law_due_3a95) .none kV31 dc31 pm31 an31 cd31 ct31), sl31⟩)
    (c31 : PySem.W.codeIn K cd31 "_law_due" = true)
    (k31 : PySem.W.keepIn K (.ref f31) = true)
    {od32 an32 : Option Addr} {sl32 : Array (Option Value)} {oc32 kV32 dc32 pm32 cd32 ct32 : Value}
    (a32 : PySem.W.nsIn K mainGlobals "_law_goes" = some (some (.ref f32)))
    (l32 : K.lookup f32 = some ⟨oc32, od32, .func (PySem.W.fnOf "_law_goes" "_law_goes" (defArgs s__law_goes_be0d) (defBody s__law_goes_be0d) (defScope s__law_goes_be0d) .none kV32 dc32 pm32 an32 cd32 ct32), sl32⟩)
    (c32 : PySem.W.codeIn K cd32 "_law_goes" = true)
    (k32 : PySem.W.keepIn K (.ref f32) = true)
    {od33 an33 : Option Addr} {sl33 : Array (Option Value)} {oc33 kV33 dc33 pm33 cd33 ct33 : Value}
    (a33 : PySem.W.nsIn K mainGlobals "_law_name" = some (some (.ref f33)))
    (l33 : K.lookup f33 = some ⟨oc33, od33, .func (PySem.W.fnOf "_law_name" "_law_name" (defArgs s__law_name_d25c) (defBody s__law_name_d25c) (defScope s__law_name_d25c) .none kV33 dc33 pm33 an33 cd33 ct33), sl33⟩)
    (c33 : PySem.W.codeIn K cd33 "_law_name" = true)
    (k33 : PySem.W.keepIn K (.ref f33) = true)
    {od34 an34 : Option Addr} {sl34 : Array (Option Value)} {oc34 kV34 dc34 pm34 cd34 ct34 : Value}
    (a34 : PySem.W.nsIn K mainGlobals "_law_time" = some (some (.ref f34)))
    (l34 : K.lookup f34 = some ⟨oc34, od34, .func (PySem.W.fnOf "_law_time" "_law_time" (defArgs s__law_time_e328) (defBody s__law_time_e328) (defScope s__law_time_e328) .none kV34 dc34 pm34 an34 cd34 ct34), sl34⟩)
    (c34 : PySem.W.codeIn K cd34 "_law_time" = true)
    (k34 : PySem.W.keepIn K (.ref f34) = true)
    {od35 an35 : Option Addr} {sl35 : Array (Option Value)} {oc35 kV35 dc35 pm35 cd35 ct35 : Value}
    (a35 : PySem.W.nsIn K mainGlobals "_law_span" = some (some (.ref f35)))
    (l35 : K.lookup f35 = some ⟨oc35, od35, .func (PySem.W.fnOf "_law_span" "_law_span" (defArgs s__law_span) (defBody s__law_span) (defScope s__law_span) .none kV35 dc35 pm35 an35 cd35 ct35), sl35⟩)
    (c35 : PySem.W.codeIn K cd35 "_law_span" = true)
    (k35 : PySem.W.keepIn K (.ref f35) = true)
    {od36 an36 : Option Addr} {sl36 : Array (Option Value)} {oc36 kV36 dc36 pm36 cd36 ct36 : Value}
    (a36 : PySem.W.nsIn K mainGlobals "_law_wanted" = some (some (.ref f36)))
    (l36 : K.lookup f36 = some ⟨oc36, od36, .func (PySem.W.fnOf "_law_wanted" "_law_wanted" (defArgs s__law_wanted) (defBody s__law_wanted) (defScope s__law_wanted) .none kV36 dc36 pm36 an36 cd36 ct36), sl36⟩)
    (c36 : PySem.W.codeIn K cd36 "_law_wanted" = true)
    (k36 : PySem.W.keepIn K (.ref f36) = true)
    {od37 an37 : Option Addr} {sl37 : Array (Option Value)} {oc37 kV37 dc37 pm37 cd37 ct37 : Value}
    (a37 : PySem.W.nsIn K mainGlobals "_law_deed" = some (some (.ref f37)))
    (l37 : K.lookup f37 = some ⟨oc37, od37, .func (PySem.W.fnOf "_law_deed" "_law_deed" (defArgs s__law_deed_17e3) (defBody s__law_deed_17e3) (defScope s__law_deed_17e3) .none kV37 dc37 pm37 an37 cd37 ct37), sl37⟩)
    (c37 : PySem.W.codeIn K cd37 "_law_deed" = true)
    (k37 : PySem.W.keepIn K (.ref f37) = true)
    {od38 an38 : Option Addr} {sl38 : Array (Option Value)} {oc38 kV38 dc38 pm38 cd38 ct38 : Value}
    (a38 : PySem.W.nsIn K mainGlobals "_law_filled" = some (some (.ref f38)))
    (l38 : K.lookup f38 = some ⟨oc38, od38, .func (PySem.W.fnOf "_law_filled" "_law_filled" (defArgs s__law_filled_77eb) (defBody s__law_filled_77eb) (defScope s__law_filled_77eb) .none kV38 dc38 pm38 an38 cd38 ct38), sl38⟩)
    (c38 : PySem.W.codeIn K cd38 "_law_filled" = true)
    (k38 : PySem.W.keepIn K (.ref f38) = true)
    {od39 an39 : Option Addr} {sl39 : Array (Option Value)} {oc39 kV39 dc39 pm39 cd39 ct39 : Value}
    (a39 : PySem.W.findIn K (.ref C_Book) "next_edge" = some (some (.ref f39)))
    (i39 : PySem.W.isFn K (.ref f39) = true)
    (l39 : K.lookup f39 = some ⟨oc39, od39, .func (PySem.W.fnOf "next_edge" "Book.next_edge" (defArgs s_Book_next_edge) (defBody s_Book_next_edge) (defScope s_Book_next_edge) .none kV39 dc39 pm39 an39 cd39 ct39), sl39⟩)
    (c39 : PySem.W.codeIn K cd39 "Book.next_edge" = true)
    (k39 : PySem.W.keepIn K (.ref f39) = true)
    {od40 an40 : Option Addr} {sl40 : Array (Option Value)} {oc40 kV40 dc40 pm40 cd40 ct40 : Value}
    (a40 : PySem.W.nsIn K mainGlobals "_law_next" = some (some (.ref f40)))
    (l40 : K.lookup f40 = some ⟨oc40, od40, .func (PySem.W.fnOf "_law_next" "_law_next" (defArgs s__law_next) (defBody s__law_next) (defScope s__law_next) .none kV40 dc40 pm40 an40 cd40 ct40), sl40⟩)
    (c40 : PySem.W.codeIn K cd40 "_law_next" = true)
    (k40 : PySem.W.keepIn K (.ref f40) = true)
    {od41 an41 : Option Addr} {sl41 : Array (Option Value)} {oc41 kV41 dc41 pm41 cd41 ct41 : Value}
    (a41 : PySem.W.findIn K (.ref C_Book) "next_end" = some (some (.ref f41)))
    (i41 : PySem.W.isFn K (.ref f41) = true)
    (l41 : K.lookup f41 = some ⟨oc41, od41, .func (PySem.W.fnOf "next_end" "Book.next_end" (defArgs s_Book_next_end) (defBody s_Book_next_end) (defScope s_Book_next_end) .none kV41 dc41 pm41 an41 cd41 ct41), sl41⟩)
    (c41 : PySem.W.codeIn K cd41 "Book.next_end" = true)
    (k41 : PySem.W.keepIn K (.ref f41) = true)
    {od42 an42 : Option Addr} {sl42 : Array (Option Value)} {oc42 kV42 dc42 pm42 cd42 ct42 : Value}
    (a42 : PySem.W.nsIn K mainGlobals "amount_least" = some (some (.ref f42)))
    (l42 : K.lookup f42 = some ⟨oc42, od42, .func (PySem.W.fnOf "amount_least" "amount_least" (defArgs s_amount_least) (defBody s_amount_least) (defScope s_amount_least) .none kV42 dc42 pm42 an42 cd42 ct42), sl42⟩)
    (c42 : PySem.W.codeIn K cd42 "amount_least" = true)
    (k42 : PySem.W.keepIn K (.ref f42) = true)
    {od43 an43 : Option Addr} {sl43 : Array (Option Value)} {oc43 kV43 dc43 pm43 cd43 ct43 : Value}
    (a43 : PySem.W.nsIn K mainGlobals "amount_less" = some (some (.ref f43)))
    (l43 : K.lookup f43 = some ⟨oc43, od43, .func (PySem.W.fnOf "amount_less" "amount_less" (defArgs s_amount_less) (defBody s_amount_less) (defScope s_amount_less) .none kV43 dc43 pm43 an43 cd43 ct43), sl43⟩)
    (c43 : PySem.W.codeIn K cd43 "amount_less" = true)
    (k43 : PySem.W.keepIn K (.ref f43) = true)
    {od44 an44 : Option Addr} {sl44 : Array (Option Value)} {oc44 kV44 dc44 pm44 cd44 ct44 : Value}
    (a44 : PySem.W.findIn K (.ref C_Book) "left_over" = some (some (.ref f44)))
    (i44 : PySem.W.isFn K (.ref f44) = true)
    (l44 : K.lookup f44 = some ⟨oc44, od44, .func (PySem.W.fnOf "left_over" "Book.left_over" (defArgs s_Book_left_over) (defBody s_Book_left_over) (defScope s_Book_left_over) .none kV44 dc44 pm44 an44 cd44 ct44), sl44⟩)
    (c44 : PySem.W.codeIn K cd44 "Book.left_over" = true)
    (k44 : PySem.W.keepIn K (.ref f44) = true)
    {od45 an45 : Option Addr} {sl45 : Array (Option Value)} {oc45 kV45 dc45 pm45 cd45 ct45 : Value}
    (a45 : PySem.W.nsIn K mainGlobals "_law_left" = some (some (.ref f45)))
    (l45 : K.lookup f45 = some ⟨oc45, od45, .func (PySem.W.fnOf "_law_left" "_law_left" (defArgs s__law_left_c244) (defBody s__law_left_c244) (defScope s__law_left_c244) .none kV45 dc45 pm45 an45 cd45 ct45), sl45⟩)
    (c45 : PySem.W.codeIn K cd45 "_law_left" = true)
    (k45 : PySem.W.keepIn K (.ref f45) = true)
    {od46 an46 : Option Addr} {sl46 : Array (Option Value)} {oc46 kV46 dc46 pm46 cd46 ct46 : Value}
    (a46 : PySem.W.nsIn K mainGlobals "_law_asked" = some (some (.ref f46)))
    (l46 : K.lookup f46 = some ⟨oc46, od46, .func (PySem.W.fnOf "_law_asked" "_law_asked" (defArgs s__law_asked_7df9) (defBody s__law_asked_7df9) (defScope s__law_asked_7df9) .none kV46 dc46 pm46 an46 cd46 ct46), sl46⟩)
    (c46 : PySem.W.codeIn K cd46 "_law_asked" = true)
    (k46 : PySem.W.keepIn K (.ref f46) = true)
    {od47 an47 : Option Addr} {sl47 : Array (Option Value)} {oc47 kV47 dc47 pm47 cd47 ct47 : Value}
    (a47 : PySem.W.nsIn K mainGlobals "law" = some (some (.ref f47)))
    (l47 : K.lookup f47 = some ⟨oc47, od47, .func (PySem.W.fnOf "law" "law" (defArgs s_law_k13) (defBody s_law_k13) (defScope s_law_k13) .none kV47 dc47 pm47 an47 cd47 ct47), sl47⟩)
    (c47 : PySem.W.codeIn K cd47 "law" = true)
    (k47 : PySem.W.keepIn K (.ref f47) = true)
    (z0 : PySem.W.nsIn K mainGlobals "ValueError" = some none)
    (z1 : PySem.W.nsIn K mainGlobals "abs" = some none)
    (z2 : PySem.W.nsIn K mainGlobals "all" = some none)
    (z3 : PySem.W.nsIn K mainGlobals "any" = some none)
    (z4 : PySem.W.nsIn K mainGlobals "bool" = some none)
    (z5 : PySem.W.nsIn K mainGlobals "int" = some none)
    (z6 : PySem.W.nsIn K mainGlobals "isinstance" = some none)
    (z7 : PySem.W.nsIn K mainGlobals "len" = some none)
    (z8 : PySem.W.nsIn K mainGlobals "list" = some none)
    (z9 : PySem.W.nsIn K mainGlobals "max" = some none)
    (z10 : PySem.W.nsIn K mainGlobals "min" = some none)
    (z11 : PySem.W.nsIn K mainGlobals "range" = some none)
    (z12 : PySem.W.nsIn K mainGlobals "sorted" = some none)
    (z13 : PySem.W.nsIn K mainGlobals "str" = some none)
    (z14 : PySem.W.nsIn K mainGlobals "tuple" = some none)
    (z15 : PySem.W.nsIn K mainGlobals "zip" = some none)
    (pg_Book : PySem.W.plainGet K C_Book Str.empty = true)
    (hd_Book : PySem.W.hasDictIn K C_Book = true)
    (po_Book : PySem.W.plainOver K C_Book = true)
    (sa_Book : PySem.W.findIn K (.ref C_Book) "__setattr__" = some (some (.builtin "object.__setattr__")))
    (na_Book_room : PySem.W.findIn K (.ref C_Book) "room" = some none)
    (na_Book_written : PySem.W.findIn K (.ref C_Book) "written" = some none)
    (mk_Book : PySem.W.makesIn K C_Book = true)
    (kp_Book : PySem.W.keepIn K (.ref C_Book) = true)
    (nC_House : PySem.W.nsIn K mainGlobals "House" = some none)
    (nC_Estate : PySem.W.nsIn K mainGlobals "Estate" = some none)
    (nC_Share : PySem.W.nsIn K mainGlobals "Share" = some none)
    (nC_Taker : PySem.W.nsIn K mainGlobals "Taker" = some none)
    (nC_Trial : PySem.W.nsIn K mainGlobals "Trial" = some none)
    (nC_Standing : PySem.W.nsIn K mainGlobals "Standing" = some none)
    (nC_Hall : PySem.W.nsIn K mainGlobals "Hall" = some none)
    (eb_HallError : PySem.W.subIn K (.ref X_HallError) (.type "BaseException") = some true)
    (eh_HallError : PySem.W.hasDictIn K X_HallError = true)
    (ea_HallError : PySem.W.findIn K (.ref X_HallError) "__getattribute__" = some (some (.builtin "BaseException.__getattribute__")))
    (eg_HallError : PySem.W.findIn K (.ref X_HallError) "__getattr__" = some none)
    (el_HallError : PySem.W.findIn K (.ref X_HallError) "__class__" = some (some (.builtin "object.__class__")))
    (eo_HallError : PySem.W.mroIn K X_HallError (.type "object") = some true)
    (ev_HallError : PySem.W.subIn K (.ref X_HallError) (.type "ValueError") = some true)
    (ek_HallError : PySem.W.keepIn K (.ref X_HallError) = true)
    (et_HallError : PySem.W.typeIn K (.ref X_HallError) = some (.type "type"))
    (eb_Taken : PySem.W.subIn K (.ref X_Taken) (.type "BaseException") = some true)
    (eh_Taken : PySem.W.hasDictIn K X_Taken = true)
    (ea_Taken : PySem.W.findIn K (.ref X_Taken) "__getattribute__" = some (some (.builtin "BaseException.__getattribute__")))
    (eg_Taken : PySem.W.findIn K (.ref X_Taken) "__getattr__" = some none)
    (el_Taken : PySem.W.findIn K (.ref X_Taken) "__class__" = some (some (.builtin "object.__class__")))
    (eo_Taken : PySem.W.mroIn K X_Taken (.type "object") = some true)
    (ev_Taken : PySem.W.subIn K (.ref X_Taken) (.type "ValueError") = some true)
    (ek_Taken : PySem.W.keepIn K (.ref X_Taken) = true)
    (et_Taken : PySem.W.typeIn K (.ref X_Taken) = some (.type "type"))
    (e0_Taken : PySem.W.excIn K X_Taken [.type "ValueError", .type "Exception", .type "BaseException", .type "object"] "ValueError.__new__" = true)
    (eb_NoKey : PySem.W.subIn K (.ref X_NoKey) (.type "BaseException") = some true)
    (eh_NoKey : PySem.W.hasDictIn K X_NoKey = true)
    (ea_NoKey : PySem.W.findIn K (.ref X_NoKey) "__getattribute__" = some (some (.builtin "BaseException.__getattribute__")))
    (eg_NoKey : PySem.W.findIn K (.ref X_NoKey) "__getattr__" = some none)
    (el_NoKey : PySem.W.findIn K (.ref X_NoKey) "__class__" = some (some (.builtin "object.__class__")))
    (eo_NoKey : PySem.W.mroIn K X_NoKey (.type "object") = some true)
    (ev_NoKey : PySem.W.subIn K (.ref X_NoKey) (.type "ValueError") = some true)
    (ek_NoKey : PySem.W.keepIn K (.ref X_NoKey) = true)
    (et_NoKey : PySem.W.typeIn K (.ref X_NoKey) = some (.type "type"))
    (e0_NoKey : PySem.W.excIn K X_NoKey [.type "ValueError", .type "Exception", .type "BaseException", .type "object"] "ValueError.__new__" = true)
    (eb_TooMuch : PySem.W.subIn K (.ref X_TooMuch) (.type "BaseException") = some true)
    (eh_TooMuch : PySem.W.hasDictIn K X_TooMuch = true)
    (ea_TooMuch : PySem.W.findIn K (.ref X_TooMuch) "__getattribute__" = some (some (.builtin "BaseException.__getattribute__")))
    (eg_TooMuch : PySem.W.findIn K (.ref X_TooMuch) "__getattr__" = some none)
    (na_TooMuch_time : PySem.W.findIn K (.ref X_TooMuch) "time" = some none)
    (el_TooMuch : PySem.W.findIn K (.ref X_TooMuch) "__class__" = some (some (.builtin "object.__class__")))
    (eo_TooMuch : PySem.W.mroIn K X_TooMuch (.type "object") = some true)
    (ev_TooMuch : PySem.W.subIn K (.ref X_TooMuch) (.type "ValueError") = some true)
    (ek_TooMuch : PySem.W.keepIn K (.ref X_TooMuch) = true)
    (et_TooMuch : PySem.W.typeIn K (.ref X_TooMuch) = some (.type "type"))
    (eb_NoHouse : PySem.W.subIn K (.ref X_NoHouse) (.type "BaseException") = some true)
    (eh_NoHouse : PySem.W.hasDictIn K X_NoHouse = true)
    (ea_NoHouse : PySem.W.findIn K (.ref X_NoHouse) "__getattribute__" = some (some (.builtin "BaseException.__getattribute__")))
    (eg_NoHouse : PySem.W.findIn K (.ref X_NoHouse) "__getattr__" = some none)
    (el_NoHouse : PySem.W.findIn K (.ref X_NoHouse) "__class__" = some (some (.builtin "object.__class__")))
    (eo_NoHouse : PySem.W.mroIn K X_NoHouse (.type "object") = some true)
    (ev_NoHouse : PySem.W.subIn K (.ref X_NoHouse) (.type "ValueError") = some true)
    (ek_NoHouse : PySem.W.keepIn K (.ref X_NoHouse) = true)
    (et_NoHouse : PySem.W.typeIn K (.ref X_NoHouse) = some (.type "type"))
    (eb_NoGang : PySem.W.subIn K (.ref X_NoGang) (.type "BaseException") = some true)
    (eh_NoGang : PySem.W.hasDictIn K X_NoGang = true)
    (ea_NoGang : PySem.W.findIn K (.ref X_NoGang) "__getattribute__" = some (some (.builtin "BaseException.__getattribute__")))
    (eg_NoGang : PySem.W.findIn K (.ref X_NoGang) "__getattr__" = some none)
    (el_NoGang : PySem.W.findIn K (.ref X_NoGang) "__class__" = some (some (.builtin "object.__class__")))
    (eo_NoGang : PySem.W.mroIn K X_NoGang (.type "object") = some true)
    (ev_NoGang : PySem.W.subIn K (.ref X_NoGang) (.type "ValueError") = some true)
    (ek_NoGang : PySem.W.keepIn K (.ref X_NoGang) = true)
    (et_NoGang : PySem.W.typeIn K (.ref X_NoGang) = some (.type "type"))
    (eb_NoGuild : PySem.W.subIn K (.ref X_NoGuild) (.type "BaseException") = some true)
    (eh_NoGuild : PySem.W.hasDictIn K X_NoGuild = true)
    (ea_NoGuild : PySem.W.findIn K (.ref X_NoGuild) "__getattribute__" = some (some (.builtin "BaseException.__getattribute__")))
    (eg_NoGuild : PySem.W.findIn K (.ref X_NoGuild) "__getattr__" = some none)
    (el_NoGuild : PySem.W.findIn K (.ref X_NoGuild) "__class__" = some (some (.builtin "object.__class__")))
    (eo_NoGuild : PySem.W.mroIn K X_NoGuild (.type "object") = some true)
    (ev_NoGuild : PySem.W.subIn K (.ref X_NoGuild) (.type "ValueError") = some true)
    (ek_NoGuild : PySem.W.keepIn K (.ref X_NoGuild) = true)
    (et_NoGuild : PySem.W.typeIn K (.ref X_NoGuild) = some (.type "type"))
    (eb_NoKind : PySem.W.subIn K (.ref X_NoKind) (.type "BaseException") = some true)
    (eh_NoKind : PySem.W.hasDictIn K X_NoKind = true)
    (ea_NoKind : PySem.W.findIn K (.ref X_NoKind) "__getattribute__" = some (some (.builtin "BaseException.__getattribute__")))
    (eg_NoKind : PySem.W.findIn K (.ref X_NoKind) "__getattr__" = some none)
    (el_NoKind : PySem.W.findIn K (.ref X_NoKind) "__class__" = some (some (.builtin "object.__class__")))
    (eo_NoKind : PySem.W.mroIn K X_NoKind (.type "object") = some true)
    (ev_NoKind : PySem.W.subIn K (.ref X_NoKind) (.type "ValueError") = some true)
    (ek_NoKind : PySem.W.keepIn K (.ref X_NoKind) = true)
    (et_NoKind : PySem.W.typeIn K (.ref X_NoKind) = some (.type "type"))
    (eb_InUse : PySem.W.subIn K (.ref X_InUse) (.type "BaseException") = some true)
    (eh_InUse : PySem.W.hasDictIn K X_InUse = true)
    (ea_InUse : PySem.W.findIn K (.ref X_InUse) "__getattribute__" = some (some (.builtin "BaseException.__getattribute__")))
    (eg_InUse : PySem.W.findIn K (.ref X_InUse) "__getattr__" = some none)
    (el_InUse : PySem.W.findIn K (.ref X_InUse) "__class__" = some (some (.builtin "object.__class__")))
    (eo_InUse : PySem.W.mroIn K X_InUse (.type "object") = some true)
    (ev_InUse : PySem.W.subIn K (.ref X_InUse) (.type "ValueError") = some true)
    (ek_InUse : PySem.W.keepIn K (.ref X_InUse) = true)
    (et_InUse : PySem.W.typeIn K (.ref X_InUse) = some (.type "type"))
    (eb_TooMany : PySem.W.subIn K (.ref X_TooMany) (.type "BaseException") = some true)
    (eh_TooMany : PySem.W.hasDictIn K X_TooMany = true)
    (ea_TooMany : PySem.W.findIn K (.ref X_TooMany) "__getattribute__" = some (some (.builtin "BaseException.__getattribute__")))
    (eg_TooMany : PySem.W.findIn K (.ref X_TooMany) "__getattr__" = some none)
    (el_TooMany : PySem.W.findIn K (.ref X_TooMany) "__class__" = some (some (.builtin "object.__class__")))
    (eo_TooMany : PySem.W.mroIn K X_TooMany (.type "object") = some true)
    (ev_TooMany : PySem.W.subIn K (.ref X_TooMany) (.type "ValueError") = some true)
    (ek_TooMany : PySem.W.keepIn K (.ref X_TooMany) = true)
    (et_TooMany : PySem.W.typeIn K (.ref X_TooMany) = some (.type "type"))
    (eb_NoPlan : PySem.W.subIn K (.ref X_NoPlan) (.type "BaseException") = some true)
    (eh_NoPlan : PySem.W.hasDictIn K X_NoPlan = true)
    (ea_NoPlan : PySem.W.findIn K (.ref X_NoPlan) "__getattribute__" = some (some (.builtin "BaseException.__getattribute__")))
    (eg_NoPlan : PySem.W.findIn K (.ref X_NoPlan) "__getattr__" = some none)
    (na_NoPlan_counts : PySem.W.findIn K (.ref X_NoPlan) "counts" = some none)
    (el_NoPlan : PySem.W.findIn K (.ref X_NoPlan) "__class__" = some (some (.builtin "object.__class__")))
    (eo_NoPlan : PySem.W.mroIn K X_NoPlan (.type "object") = some true)
    (ev_NoPlan : PySem.W.subIn K (.ref X_NoPlan) (.type "ValueError") = some true)
    (ek_NoPlan : PySem.W.keepIn K (.ref X_NoPlan) = true)
    (et_NoPlan : PySem.W.typeIn K (.ref X_NoPlan) = some (.type "type"))
    (eb_Past : PySem.W.subIn K (.ref X_Past) (.type "BaseException") = some true)
    (eh_Past : PySem.W.hasDictIn K X_Past = true)
    (ea_Past : PySem.W.findIn K (.ref X_Past) "__getattribute__" = some (some (.builtin "BaseException.__getattribute__")))
    (eg_Past : PySem.W.findIn K (.ref X_Past) "__getattr__" = some none)
    (el_Past : PySem.W.findIn K (.ref X_Past) "__class__" = some (some (.builtin "object.__class__")))
    (eo_Past : PySem.W.mroIn K X_Past (.type "object") = some true)
    (ev_Past : PySem.W.subIn K (.ref X_Past) (.type "ValueError") = some true)
    (ek_Past : PySem.W.keepIn K (.ref X_Past) = true)
    (et_Past : PySem.W.typeIn K (.ref X_Past) = some (.type "type"))
    (eb_BadRow : PySem.W.subIn K (.ref X_BadRow) (.type "BaseException") = some true)
    (eh_BadRow : PySem.W.hasDictIn K X_BadRow = true)
    (ea_BadRow : PySem.W.findIn K (.ref X_BadRow) "__getattribute__" = some (some (.builtin "BaseException.__getattribute__")))
    (eg_BadRow : PySem.W.findIn K (.ref X_BadRow) "__getattr__" = some none)
    (na_BadRow_row : PySem.W.findIn K (.ref X_BadRow) "row" = some none)
    (el_BadRow : PySem.W.findIn K (.ref X_BadRow) "__class__" = some (some (.builtin "object.__class__")))
    (eo_BadRow : PySem.W.mroIn K X_BadRow (.type "object") = some true)
    (ev_BadRow : PySem.W.subIn K (.ref X_BadRow) (.type "ValueError") = some true)
    (ek_BadRow : PySem.W.keepIn K (.ref X_BadRow) = true)
    (et_BadRow : PySem.W.typeIn K (.ref X_BadRow) = some (.type "type"))
    (hn : PySem.W.specialIn K (.builtin "object.__class__") "__get__" = some (some (.builtin "getset_descriptor.__get__")))
    (ht : PySem.W.takesIn K (.builtin "object.__class__") = some true)
    (p_BadRow_BadRow : PySem.W.subIn K (.ref X_BadRow) (.ref X_BadRow) = some true)
    (p_BadRow_HallError : PySem.W.subIn K (.ref X_BadRow) (.ref X_HallError) = some true)
    (p_BadRow_InUse : PySem.W.subIn K (.ref X_BadRow) (.ref X_InUse) = some false)
    (p_BadRow_NoGang : PySem.W.subIn K (.ref X_BadRow) (.ref X_NoGang) = some false)
    (p_BadRow_NoGuild : PySem.W.subIn K (.ref X_BadRow) (.ref X_NoGuild) = some false)
    (p_BadRow_NoHouse : PySem.W.subIn K (.ref X_BadRow) (.ref X_NoHouse) = some false)
    (p_BadRow_NoKey : PySem.W.subIn K (.ref X_BadRow) (.ref X_NoKey) = some false)
    (p_BadRow_NoKind : PySem.W.subIn K (.ref X_BadRow) (.ref X_NoKind) = some false)
    (p_BadRow_NoPlan : PySem.W.subIn K (.ref X_BadRow) (.ref X_NoPlan) = some false)
    (p_BadRow_Past : PySem.W.subIn K (.ref X_BadRow) (.ref X_Past) = some false)
    (p_BadRow_Taken : PySem.W.subIn K (.ref X_BadRow) (.ref X_Taken) = some false)
    (p_BadRow_TooMany : PySem.W.subIn K (.ref X_BadRow) (.ref X_TooMany) = some false)
    (p_BadRow_TooMuch : PySem.W.subIn K (.ref X_BadRow) (.ref X_TooMuch) = some false)
    (p_HallError_BadRow : PySem.W.subIn K (.ref X_HallError) (.ref X_BadRow) = some false)
    (p_HallError_HallError : PySem.W.subIn K (.ref X_HallError) (.ref X_HallError) = some true)
    (p_HallError_InUse : PySem.W.subIn K (.ref X_HallError) (.ref X_InUse) = some false)
    (p_HallError_NoGang : PySem.W.subIn K (.ref X_HallError) (.ref X_NoGang) = some false)
    (p_HallError_NoGuild : PySem.W.subIn K (.ref X_HallError) (.ref X_NoGuild) = some false)
    (p_HallError_NoHouse : PySem.W.subIn K (.ref X_HallError) (.ref X_NoHouse) = some false)
    (p_HallError_NoKey : PySem.W.subIn K (.ref X_HallError) (.ref X_NoKey) = some false)
    (p_HallError_NoKind : PySem.W.subIn K (.ref X_HallError) (.ref X_NoKind) = some false)
    (p_HallError_NoPlan : PySem.W.subIn K (.ref X_HallError) (.ref X_NoPlan) = some false)
    (p_HallError_Past : PySem.W.subIn K (.ref X_HallError) (.ref X_Past) = some false)
    (p_HallError_Taken : PySem.W.subIn K (.ref X_HallError) (.ref X_Taken) = some false)
    (p_HallError_TooMany : PySem.W.subIn K (.ref X_HallError) (.ref X_TooMany) = some false)
    (p_HallError_TooMuch : PySem.W.subIn K (.ref X_HallError) (.ref X_TooMuch) = some false)
    (p_InUse_BadRow : PySem.W.subIn K (.ref X_InUse) (.ref X_BadRow) = some false)
    (p_InUse_HallError : PySem.W.subIn K (.ref X_InUse) (.ref X_HallError) = some true)
    (p_InUse_InUse : PySem.W.subIn K (.ref X_InUse) (.ref X_InUse) = some true)
    (p_InUse_NoGang : PySem.W.subIn K (.ref X_InUse) (.ref X_NoGang) = some false)
    (p_InUse_NoGuild : PySem.W.subIn K (.ref X_InUse) (.ref X_NoGuild) = some false)
    (p_InUse_NoHouse : PySem.W.subIn K (.ref X_InUse) (.ref X_NoHouse) = some false)
    (p_InUse_NoKey : PySem.W.subIn K (.ref X_InUse) (.ref X_NoKey) = some false)
    (p_InUse_NoKind : PySem.W.subIn K (.ref X_InUse) (.ref X_NoKind) = some false)
    (p_InUse_NoPlan : PySem.W.subIn K (.ref X_InUse) (.ref X_NoPlan) = some false)
    (p_InUse_Past : PySem.W.subIn K (.ref X_InUse) (.ref X_Past) = some false)
    (p_InUse_Taken : PySem.W.subIn K (.ref X_InUse) (.ref X_Taken) = some false)
    (p_InUse_TooMany : PySem.W.subIn K (.ref X_InUse) (.ref X_TooMany) = some false)
    (p_InUse_TooMuch : PySem.W.subIn K (.ref X_InUse) (.ref X_TooMuch) = some false)
    (p_NoGang_BadRow : PySem.W.subIn K (.ref X_NoGang) (.ref X_BadRow) = some false)
    (p_NoGang_HallError : PySem.W.subIn K (.ref X_NoGang) (.ref X_HallError) = some true)
    (p_NoGang_InUse : PySem.W.subIn K (.ref X_NoGang) (.ref X_InUse) = some false)
    (p_NoGang_NoGang : PySem.W.subIn K (.ref X_NoGang) (.ref X_NoGang) = some true)
    (p_NoGang_NoGuild : PySem.W.subIn K (.ref X_NoGang) (.ref X_NoGuild) = some false)
    (p_NoGang_NoHouse : PySem.W.subIn K (.ref X_NoGang) (.ref X_NoHouse) = some false)
    (p_NoGang_NoKey : PySem.W.subIn K (.ref X_NoGang) (.ref X_NoKey) = some false)
    (p_NoGang_NoKind : PySem.W.subIn K (.ref X_NoGang) (.ref X_NoKind) = some false)
    (p_NoGang_NoPlan : PySem.W.subIn K (.ref X_NoGang) (.ref X_NoPlan) = some false)
    (p_NoGang_Past : PySem.W.subIn K (.ref X_NoGang) (.ref X_Past) = some false)
    (p_NoGang_Taken : PySem.W.subIn K (.ref X_NoGang) (.ref X_Taken) = some false)
    (p_NoGang_TooMany : PySem.W.subIn K (.ref X_NoGang) (.ref X_TooMany) = some false)
    (p_NoGang_TooMuch : PySem.W.subIn K (.ref X_NoGang) (.ref X_TooMuch) = some false)
    (p_NoGuild_BadRow : PySem.W.subIn K (.ref X_NoGuild) (.ref X_BadRow) = some false)
    (p_NoGuild_HallError : PySem.W.subIn K (.ref X_NoGuild) (.ref X_HallError) = some true)
    (p_NoGuild_InUse : PySem.W.subIn K (.ref X_NoGuild) (.ref X_InUse) = some false)
    (p_NoGuild_NoGang : PySem.W.subIn K (.ref X_NoGuild) (.ref X_NoGang) = some false)
    (p_NoGuild_NoGuild : PySem.W.subIn K (.ref X_NoGuild) (.ref X_NoGuild) = some true)
    (p_NoGuild_NoHouse : PySem.W.subIn K (.ref X_NoGuild) (.ref X_NoHouse) = some false)
    (p_NoGuild_NoKey : PySem.W.subIn K (.ref X_NoGuild) (.ref X_NoKey) = some false)
    (p_NoGuild_NoKind : PySem.W.subIn K (.ref X_NoGuild) (.ref X_NoKind) = some false)
    (p_NoGuild_NoPlan : PySem.W.subIn K (.ref X_NoGuild) (.ref X_NoPlan) = some false)
    (p_NoGuild_Past : PySem.W.subIn K (.ref X_NoGuild) (.ref X_Past) = some false)
    (p_NoGuild_Taken : PySem.W.subIn K (.ref X_NoGuild) (.ref X_Taken) = some false)
    (p_NoGuild_TooMany : PySem.W.subIn K (.ref X_NoGuild) (.ref X_TooMany) = some false)
    (p_NoGuild_TooMuch : PySem.W.subIn K (.ref X_NoGuild) (.ref X_TooMuch) = some false)
    (p_NoHouse_BadRow : PySem.W.subIn K (.ref X_NoHouse) (.ref X_BadRow) = some false)
    (p_NoHouse_HallError : PySem.W.subIn K (.ref X_NoHouse) (.ref X_HallError) = some true)
    (p_NoHouse_InUse : PySem.W.subIn K (.ref X_NoHouse) (.ref X_InUse) = some false)
    (p_NoHouse_NoGang : PySem.W.subIn K (.ref X_NoHouse) (.ref X_NoGang) = some false)
    (p_NoHouse_NoGuild : PySem.W.subIn K (.ref X_NoHouse) (.ref X_NoGuild) = some false)
    (p_NoHouse_NoHouse : PySem.W.subIn K (.ref X_NoHouse) (.ref X_NoHouse) = some true)
    (p_NoHouse_NoKey : PySem.W.subIn K (.ref X_NoHouse) (.ref X_NoKey) = some false)
    (p_NoHouse_NoKind : PySem.W.subIn K (.ref X_NoHouse) (.ref X_NoKind) = some false)
    (p_NoHouse_NoPlan : PySem.W.subIn K (.ref X_NoHouse) (.ref X_NoPlan) = some false)
    (p_NoHouse_Past : PySem.W.subIn K (.ref X_NoHouse) (.ref X_Past) = some false)
    (p_NoHouse_Taken : PySem.W.subIn K (.ref X_NoHouse) (.ref X_Taken) = some false)
    (p_NoHouse_TooMany : PySem.W.subIn K (.ref X_NoHouse) (.ref X_TooMany) = some false)
    (p_NoHouse_TooMuch : PySem.W.subIn K (.ref X_NoHouse) (.ref X_TooMuch) = some false)
    (p_NoKey_BadRow : PySem.W.subIn K (.ref X_NoKey) (.ref X_BadRow) = some false)
    (p_NoKey_HallError : PySem.W.subIn K (.ref X_NoKey) (.ref X_HallError) = some true)
    (p_NoKey_InUse : PySem.W.subIn K (.ref X_NoKey) (.ref X_InUse) = some false)
    (p_NoKey_NoGang : PySem.W.subIn K (.ref X_NoKey) (.ref X_NoGang) = some false)
    (p_NoKey_NoGuild : PySem.W.subIn K (.ref X_NoKey) (.ref X_NoGuild) = some false)
    (p_NoKey_NoHouse : PySem.W.subIn K (.ref X_NoKey) (.ref X_NoHouse) = some false)
    (p_NoKey_NoKey : PySem.W.subIn K (.ref X_NoKey) (.ref X_NoKey) = some true)
    (p_NoKey_NoKind : PySem.W.subIn K (.ref X_NoKey) (.ref X_NoKind) = some false)
    (p_NoKey_NoPlan : PySem.W.subIn K (.ref X_NoKey) (.ref X_NoPlan) = some false)
    (p_NoKey_Past : PySem.W.subIn K (.ref X_NoKey) (.ref X_Past) = some false)
    (p_NoKey_Taken : PySem.W.subIn K (.ref X_NoKey) (.ref X_Taken) = some false)
    (p_NoKey_TooMany : PySem.W.subIn K (.ref X_NoKey) (.ref X_TooMany) = some false)
    (p_NoKey_TooMuch : PySem.W.subIn K (.ref X_NoKey) (.ref X_TooMuch) = some false)
    (p_NoKind_BadRow : PySem.W.subIn K (.ref X_NoKind) (.ref X_BadRow) = some false)
    (p_NoKind_HallError : PySem.W.subIn K (.ref X_NoKind) (.ref X_HallError) = some true)
    (p_NoKind_InUse : PySem.W.subIn K (.ref X_NoKind) (.ref X_InUse) = some false)
    (p_NoKind_NoGang : PySem.W.subIn K (.ref X_NoKind) (.ref X_NoGang) = some false)
    (p_NoKind_NoGuild : PySem.W.subIn K (.ref X_NoKind) (.ref X_NoGuild) = some false)
    (p_NoKind_NoHouse : PySem.W.subIn K (.ref X_NoKind) (.ref X_NoHouse) = some false)
    (p_NoKind_NoKey : PySem.W.subIn K (.ref X_NoKind) (.ref X_NoKey) = some false)
    (p_NoKind_NoKind : PySem.W.subIn K (.ref X_NoKind) (.ref X_NoKind) = some true)
    (p_NoKind_NoPlan : PySem.W.subIn K (.ref X_NoKind) (.ref X_NoPlan) = some false)
    (p_NoKind_Past : PySem.W.subIn K (.ref X_NoKind) (.ref X_Past) = some false)
    (p_NoKind_Taken : PySem.W.subIn K (.ref X_NoKind) (.ref X_Taken) = some false)
    (p_NoKind_TooMany : PySem.W.subIn K (.ref X_NoKind) (.ref X_TooMany) = some false)
    (p_NoKind_TooMuch : PySem.W.subIn K (.ref X_NoKind) (.ref X_TooMuch) = some false)
    (p_NoPlan_BadRow : PySem.W.subIn K (.ref X_NoPlan) (.ref X_BadRow) = some false)
    (p_NoPlan_HallError : PySem.W.subIn K (.ref X_NoPlan) (.ref X_HallError) = some true)
    (p_NoPlan_InUse : PySem.W.subIn K (.ref X_NoPlan) (.ref X_InUse) = some false)
    (p_NoPlan_NoGang : PySem.W.subIn K (.ref X_NoPlan) (.ref X_NoGang) = some false)
    (p_NoPlan_NoGuild : PySem.W.subIn K (.ref X_NoPlan) (.ref X_NoGuild) = some false)
    (p_NoPlan_NoHouse : PySem.W.subIn K (.ref X_NoPlan) (.ref X_NoHouse) = some false)
    (p_NoPlan_NoKey : PySem.W.subIn K (.ref X_NoPlan) (.ref X_NoKey) = some false)
    (p_NoPlan_NoKind : PySem.W.subIn K (.ref X_NoPlan) (.ref X_NoKind) = some false)
    (p_NoPlan_NoPlan : PySem.W.subIn K (.ref X_NoPlan) (.ref X_NoPlan) = some true)
    (p_NoPlan_Past : PySem.W.subIn K (.ref X_NoPlan) (.ref X_Past) = some false)
    (p_NoPlan_Taken : PySem.W.subIn K (.ref X_NoPlan) (.ref X_Taken) = some false)
    (p_NoPlan_TooMany : PySem.W.subIn K (.ref X_NoPlan) (.ref X_TooMany) = some false)
    (p_NoPlan_TooMuch : PySem.W.subIn K (.ref X_NoPlan) (.ref X_TooMuch) = some false)
    (p_Past_BadRow : PySem.W.subIn K (.ref X_Past) (.ref X_BadRow) = some false)
    (p_Past_HallError : PySem.W.subIn K (.ref X_Past) (.ref X_HallError) = some true)
    (p_Past_InUse : PySem.W.subIn K (.ref X_Past) (.ref X_InUse) = some false)
    (p_Past_NoGang : PySem.W.subIn K (.ref X_Past) (.ref X_NoGang) = some false)
    (p_Past_NoGuild : PySem.W.subIn K (.ref X_Past) (.ref X_NoGuild) = some false)
    (p_Past_NoHouse : PySem.W.subIn K (.ref X_Past) (.ref X_NoHouse) = some false)
    (p_Past_NoKey : PySem.W.subIn K (.ref X_Past) (.ref X_NoKey) = some false)
    (p_Past_NoKind : PySem.W.subIn K (.ref X_Past) (.ref X_NoKind) = some false)
    (p_Past_NoPlan : PySem.W.subIn K (.ref X_Past) (.ref X_NoPlan) = some false)
    (p_Past_Past : PySem.W.subIn K (.ref X_Past) (.ref X_Past) = some true)
    (p_Past_Taken : PySem.W.subIn K (.ref X_Past) (.ref X_Taken) = some false)
    (p_Past_TooMany : PySem.W.subIn K (.ref X_Past) (.ref X_TooMany) = some false)
    (p_Past_TooMuch : PySem.W.subIn K (.ref X_Past) (.ref X_TooMuch) = some false)
    (p_Taken_BadRow : PySem.W.subIn K (.ref X_Taken) (.ref X_BadRow) = some false)
    (p_Taken_HallError : PySem.W.subIn K (.ref X_Taken) (.ref X_HallError) = some true)
    (p_Taken_InUse : PySem.W.subIn K (.ref X_Taken) (.ref X_InUse) = some false)
    (p_Taken_NoGang : PySem.W.subIn K (.ref X_Taken) (.ref X_NoGang) = some false)
    (p_Taken_NoGuild : PySem.W.subIn K (.ref X_Taken) (.ref X_NoGuild) = some false)
    (p_Taken_NoHouse : PySem.W.subIn K (.ref X_Taken) (.ref X_NoHouse) = some false)
    (p_Taken_NoKey : PySem.W.subIn K (.ref X_Taken) (.ref X_NoKey) = some false)
    (p_Taken_NoKind : PySem.W.subIn K (.ref X_Taken) (.ref X_NoKind) = some false)
    (p_Taken_NoPlan : PySem.W.subIn K (.ref X_Taken) (.ref X_NoPlan) = some false)
    (p_Taken_Past : PySem.W.subIn K (.ref X_Taken) (.ref X_Past) = some false)
    (p_Taken_Taken : PySem.W.subIn K (.ref X_Taken) (.ref X_Taken) = some true)
    (p_Taken_TooMany : PySem.W.subIn K (.ref X_Taken) (.ref X_TooMany) = some false)
    (p_Taken_TooMuch : PySem.W.subIn K (.ref X_Taken) (.ref X_TooMuch) = some false)
    (p_TooMany_BadRow : PySem.W.subIn K (.ref X_TooMany) (.ref X_BadRow) = some false)
    (p_TooMany_HallError : PySem.W.subIn K (.ref X_TooMany) (.ref X_HallError) = some true)
    (p_TooMany_InUse : PySem.W.subIn K (.ref X_TooMany) (.ref X_InUse) = some false)
    (p_TooMany_NoGang : PySem.W.subIn K (.ref X_TooMany) (.ref X_NoGang) = some false)
    (p_TooMany_NoGuild : PySem.W.subIn K (.ref X_TooMany) (.ref X_NoGuild) = some false)
    (p_TooMany_NoHouse : PySem.W.subIn K (.ref X_TooMany) (.ref X_NoHouse) = some false)
    (p_TooMany_NoKey : PySem.W.subIn K (.ref X_TooMany) (.ref X_NoKey) = some false)
    (p_TooMany_NoKind : PySem.W.subIn K (.ref X_TooMany) (.ref X_NoKind) = some false)
    (p_TooMany_NoPlan : PySem.W.subIn K (.ref X_TooMany) (.ref X_NoPlan) = some false)
    (p_TooMany_Past : PySem.W.subIn K (.ref X_TooMany) (.ref X_Past) = some false)
    (p_TooMany_Taken : PySem.W.subIn K (.ref X_TooMany) (.ref X_Taken) = some false)
    (p_TooMany_TooMany : PySem.W.subIn K (.ref X_TooMany) (.ref X_TooMany) = some true)
    (p_TooMany_TooMuch : PySem.W.subIn K (.ref X_TooMany) (.ref X_TooMuch) = some false)
    (p_TooMuch_BadRow : PySem.W.subIn K (.ref X_TooMuch) (.ref X_BadRow) = some false)
    (p_TooMuch_HallError : PySem.W.subIn K (.ref X_TooMuch) (.ref X_HallError) = some true)
    (p_TooMuch_InUse : PySem.W.subIn K (.ref X_TooMuch) (.ref X_InUse) = some false)
    (p_TooMuch_NoGang : PySem.W.subIn K (.ref X_TooMuch) (.ref X_NoGang) = some false)
    (p_TooMuch_NoGuild : PySem.W.subIn K (.ref X_TooMuch) (.ref X_NoGuild) = some false)
    (p_TooMuch_NoHouse : PySem.W.subIn K (.ref X_TooMuch) (.ref X_NoHouse) = some false)
    (p_TooMuch_NoKey : PySem.W.subIn K (.ref X_TooMuch) (.ref X_NoKey) = some false)
    (p_TooMuch_NoKind : PySem.W.subIn K (.ref X_TooMuch) (.ref X_NoKind) = some false)
    (p_TooMuch_NoPlan : PySem.W.subIn K (.ref X_TooMuch) (.ref X_NoPlan) = some false)
    (p_TooMuch_Past : PySem.W.subIn K (.ref X_TooMuch) (.ref X_Past) = some false)
    (p_TooMuch_Taken : PySem.W.subIn K (.ref X_TooMuch) (.ref X_Taken) = some false)
    (p_TooMuch_TooMany : PySem.W.subIn K (.ref X_TooMuch) (.ref X_TooMany) = some false)
    (p_TooMuch_TooMuch : PySem.W.subIn K (.ref X_TooMuch) (.ref X_TooMuch) = some true)
    {nm_TooMuch q_TooMuch : Str} {N_TooMuch : Addr} {bs_TooMuch bm_TooMuch : List Value} {sn_TooMuch : List Str} {sub_TooMuch : List Value} {ab_TooMuch : Bool} {col_TooMuch : Option Bool} {dd_TooMuch : Option Addr} {m0_TooMuch m1_TooMuch m2_TooMuch m3_TooMuch m5_TooMuch : Option Value}
    {odI_TooMuch anI_TooMuch : Option Addr} {slI_TooMuch : Array (Option Value)} {ocI_TooMuch kVI_TooMuch dcI_TooMuch pmI_TooMuch cdI_TooMuch ctI_TooMuch : Value}
    (xl_TooMuch : K.lookup X_TooMuch = some (excClassObj nm_TooMuch q_TooMuch X_TooMuch N_TooMuch bs_TooMuch bm_TooMuch true sn_TooMuch sub_TooMuch ab_TooMuch col_TooMuch dd_TooMuch m0_TooMuch m1_TooMuch m2_TooMuch m3_TooMuch m5_TooMuch "ValueError.__new__"))
    (xr_TooMuch : PySem.HandSPX.refsVE bm_TooMuch = true)
    (xs_TooMuch : PySem.W.findIn K (.ref X_TooMuch) "__setattr__" = some (some (.builtin "object.__setattr__")))
    (xi_TooMuch : PySem.W.findIn K (.ref X_TooMuch) "__init__" = some (some (.ref fI_TooMuch)))
    (xt_TooMuch : PySem.W.typeIn K (.ref fI_TooMuch) = some (.type "function"))
    (lI_TooMuch : K.lookup fI_TooMuch = some ⟨ocI_TooMuch, odI_TooMuch, .func (PySem.W.fnOf "__init__" "TooMuch.__init__" (defArgs sI_TooMuch) (defBody sI_TooMuch) (defScope sI_TooMuch) .none kVI_TooMuch dcI_TooMuch pmI_TooMuch anI_TooMuch cdI_TooMuch ctI_TooMuch), slI_TooMuch⟩)
    (cI_TooMuch : PySem.W.codeIn K cdI_TooMuch "TooMuch.__init__" = true)
    (kI_TooMuch : PySem.W.keepIn K (.ref fI_TooMuch) = true)
    (hsp : PySem.W.specialIn K (.ref X_HallError) "__getattribute__" = some (some (.builtin "type.__getattribute__")))
    (hrd : PySem.W.readsIn K X_HallError (.type "type") = true)
    (hfc : PySem.W.findCls K (.ref X_HallError) (.type "type") "__init__" = some (.val (.builtin "ValueError.__init__")))
    : ∃ fd : FuncData, (∀ (s : Shared) (v : Value), BindsTo s fd ⟨[v], []⟩ [("_law_script", v)]) ∧ ∀ base : Heap, K.In base → base.Ns mainGlobals mg → FnOk l.prog w K mg base (L2.CX l.prog w) 11 fa fd ["_law_script"] (spA K a_law_k13) := by
  have e := hfa.symm.trans (PySem.W.mg_of X G a47)
  cases e
  have TCf : ∀ c, ClsF K c := (fun c => match c with | .Book => clsF_of gC_Book pg_Book hd_Book po_Book sa_Book (na_of (fs := [.room, .written]) ⟨na_Book_room, na_Book_written, trivial⟩) | .House => clsF_no nC_House | .Estate => clsF_no nC_Estate | .Share => clsF_no nC_Share | .Taker => clsF_no nC_Taker | .Trial => clsF_no nC_Trial | .Standing => clsF_no nC_Standing | .Hall => clsF_no nC_Hall)
  have T : Tx K mg := ⟨PySem.W.mg_none_of X G z0, PySem.W.mg_none_of X G z1, PySem.W.mg_none_of X G z2, PySem.W.mg_none_of X G z3, PySem.W.mg_none_of X G z4, PySem.W.mg_none_of X G z5, PySem.W.mg_none_of X G z6, PySem.W.mg_none_of X G z7, PySem.W.mg_none_of X G z8, PySem.W.mg_none_of X G z9, PySem.W.mg_none_of X G z10, PySem.W.mg_none_of X G z11, PySem.W.mg_none_of X G z12, PySem.W.mg_none_of X G z13, PySem.W.mg_none_of X G z14, PySem.W.mg_none_of X G z15, TCf, (fun c => match c with | .HallError => exnF_of gX_HallError ea_HallError eg_HallError eb_HallError eh_HallError (na_of (fs := []) trivial) | .Taken => exnF_of gX_Taken ea_Taken eg_Taken eb_Taken eh_Taken (na_of (fs := []) trivial) | .NoKey => exnF_of gX_NoKey ea_NoKey eg_NoKey eb_NoKey eh_NoKey (na_of (fs := []) trivial) | .TooMuch => exnF_of gX_TooMuch ea_TooMuch eg_TooMuch eb_TooMuch eh_TooMuch (na_of (fs := [.time]) ⟨na_TooMuch_time, trivial⟩) | .NoHouse => exnF_of gX_NoHouse ea_NoHouse eg_NoHouse eb_NoHouse eh_NoHouse (na_of (fs := []) trivial) | .NoGang => exnF_of gX_NoGang ea_NoGang eg_NoGang eb_NoGang eh_NoGang (na_of (fs := []) trivial) | .NoGuild => exnF_of gX_NoGuild ea_NoGuild eg_NoGuild eb_NoGuild eh_NoGuild (na_of (fs := []) trivial) | .NoKind => exnF_of gX_NoKind ea_NoKind eg_NoKind eb_NoKind eh_NoKind (na_of (fs := []) trivial) | .InUse => exnF_of gX_InUse ea_InUse eg_InUse eb_InUse eh_InUse (na_of (fs := []) trivial) | .TooMany => exnF_of gX_TooMany ea_TooMany eg_TooMany eb_TooMany eh_TooMany (na_of (fs := []) trivial) | .NoPlan => exnF_of gX_NoPlan ea_NoPlan eg_NoPlan eb_NoPlan eh_NoPlan (na_of (fs := [.counts]) ⟨na_NoPlan_counts, trivial⟩) | .Past => exnF_of gX_Past ea_Past eg_Past eb_Past eh_Past (na_of (fs := []) trivial) | .BadRow => exnF_of gX_BadRow ea_BadRow eg_BadRow eb_BadRow eh_BadRow (na_of (fs := [.row]) ⟨na_BadRow_row, trivial⟩)), (fun c => match c with | .HallError => exnC_of gX_HallError ea_HallError eg_HallError eb_HallError eh_HallError el_HallError hn ht eo_HallError | .Taken => exnC_of gX_Taken ea_Taken eg_Taken eb_Taken eh_Taken el_Taken hn ht eo_Taken | .NoKey => exnC_of gX_NoKey ea_NoKey eg_NoKey eb_NoKey eh_NoKey el_NoKey hn ht eo_NoKey | .TooMuch => exnC_of gX_TooMuch ea_TooMuch eg_TooMuch eb_TooMuch eh_TooMuch el_TooMuch hn ht eo_TooMuch | .NoHouse => exnC_of gX_NoHouse ea_NoHouse eg_NoHouse eb_NoHouse eh_NoHouse el_NoHouse hn ht eo_NoHouse | .NoGang => exnC_of gX_NoGang ea_NoGang eg_NoGang eb_NoGang eh_NoGang el_NoGang hn ht eo_NoGang | .NoGuild => exnC_of gX_NoGuild ea_NoGuild eg_NoGuild eb_NoGuild eh_NoGuild el_NoGuild hn ht eo_NoGuild | .NoKind => exnC_of gX_NoKind ea_NoKind eg_NoKind eb_NoKind eh_NoKind el_NoKind hn ht eo_NoKind | .InUse => exnC_of gX_InUse ea_InUse eg_InUse eb_InUse eh_InUse el_InUse hn ht eo_InUse | .TooMany => exnC_of gX_TooMany ea_TooMany eg_TooMany eb_TooMany eh_TooMany el_TooMany hn ht eo_TooMany | .NoPlan => exnC_of gX_NoPlan ea_NoPlan eg_NoPlan eb_NoPlan eh_NoPlan el_NoPlan hn ht eo_NoPlan | .Past => exnC_of gX_Past ea_Past eg_Past eb_Past eh_Past el_Past hn ht eo_Past | .BadRow => exnC_of gX_BadRow ea_BadRow eg_BadRow eb_BadRow eh_BadRow el_BadRow hn ht eo_BadRow), (fun c => match c with | .HallError => subV_of gX_HallError ev_HallError | .Taken => subV_of gX_Taken ev_Taken | .NoKey => subV_of gX_NoKey ev_NoKey | .TooMuch => subV_of gX_TooMuch ev_TooMuch | .NoHouse => subV_of gX_NoHouse ev_NoHouse | .NoGang => subV_of gX_NoGang ev_NoGang | .NoGuild => subV_of gX_NoGuild ev_NoGuild | .NoKind => subV_of gX_NoKind ev_NoKind | .InUse => subV_of gX_InUse ev_InUse | .TooMany => subV_of gX_TooMany ev_TooMany | .NoPlan => subV_of gX_NoPlan ev_NoPlan | .Past => subV_of gX_Past ev_Past | .BadRow => subV_of gX_BadRow ev_BadRow), xcF_of gX_BadRow (PySem.W.mg_of X G gX_BadRow) ek_BadRow eb_BadRow et_BadRow, xcF_of gX_HallError (PySem.W.mg_of X G gX_HallError) ek_HallError eb_HallError et_HallError, xcF_of gX_InUse (PySem.W.mg_of X G gX_InUse) ek_InUse eb_InUse et_InUse, xcF_of gX_NoGang (PySem.W.mg_of X G gX_NoGang) ek_NoGang eb_NoGang et_NoGang, xcF_of gX_NoGuild (PySem.W.mg_of X G gX_NoGuild) ek_NoGuild eb_NoGuild et_NoGuild, xcF_of gX_NoHouse (PySem.W.mg_of X G gX_NoHouse) ek_NoHouse eb_NoHouse et_NoHouse, xcF_of gX_NoKey (PySem.W.mg_of X G gX_NoKey) ek_NoKey eb_NoKey et_NoKey, xcF_of gX_NoKind (PySem.W.mg_of X G gX_NoKind) ek_NoKind eb_NoKind et_NoKind, xcF_of gX_NoPlan (PySem.W.mg_of X G gX_NoPlan) ek_NoPlan eb_NoPlan et_NoPlan, xcF_of gX_Past (PySem.W.mg_of X G gX_Past) ek_Past eb_Past et_Past, xcF_of gX_Taken (PySem.W.mg_of X G gX_Taken) ek_Taken eb_Taken et_Taken, xcF_of gX_TooMany (PySem.W.mg_of X G gX_TooMany) ek_TooMany eb_TooMany et_TooMany, xcF_of gX_TooMuch (PySem.W.mg_of X G gX_TooMuch) ek_TooMuch eb_TooMuch et_TooMuch, xc0_of gX_NoKey e0_NoKey, xc0_of gX_Taken e0_Taken, (fun c => match c with | .HallError => subF_of gX_HallError gX_HallError eb_HallError eh_HallError et_HallError p_HallError_HallError | .Taken => subF_of gX_Taken gX_HallError eb_HallError eh_HallError et_HallError p_Taken_HallError | .NoKey => subF_of gX_NoKey gX_HallError eb_HallError eh_HallError et_HallError p_NoKey_HallError | .TooMuch => subF_of gX_TooMuch gX_HallError eb_HallError eh_HallError et_HallError p_TooMuch_HallError | .NoHouse => subF_of gX_NoHouse gX_HallError eb_HallError eh_HallError et_HallError p_NoHouse_HallError | .NoGang => subF_of gX_NoGang gX_HallError eb_HallError eh_HallError et_HallError p_NoGang_HallError | .NoGuild => subF_of gX_NoGuild gX_HallError eb_HallError eh_HallError et_HallError p_NoGuild_HallError | .NoKind => subF_of gX_NoKind gX_HallError eb_HallError eh_HallError et_HallError p_NoKind_HallError | .InUse => subF_of gX_InUse gX_HallError eb_HallError eh_HallError et_HallError p_InUse_HallError | .TooMany => subF_of gX_TooMany gX_HallError eb_HallError eh_HallError et_HallError p_TooMany_HallError | .NoPlan => subF_of gX_NoPlan gX_HallError eb_HallError eh_HallError et_HallError p_NoPlan_HallError | .Past => subF_of gX_Past gX_HallError eb_HallError eh_HallError et_HallError p_Past_HallError | .BadRow => subF_of gX_BadRow gX_HallError eb_HallError eh_HallError et_HallError p_BadRow_HallError), (fun c => match c with | .HallError => subI_of gX_HallError gX_BadRow eh_BadRow et_BadRow p_HallError_BadRow p_HallError_HallError | .Taken => subI_of gX_Taken gX_BadRow eh_BadRow et_BadRow p_Taken_BadRow p_Taken_Taken | .NoKey => subI_of gX_NoKey gX_BadRow eh_BadRow et_BadRow p_NoKey_BadRow p_NoKey_NoKey | .TooMuch => subI_of gX_TooMuch gX_BadRow eh_BadRow et_BadRow p_TooMuch_BadRow p_TooMuch_TooMuch | .NoHouse => subI_of gX_NoHouse gX_BadRow eh_BadRow et_BadRow p_NoHouse_BadRow p_NoHouse_NoHouse | .NoGang => subI_of gX_NoGang gX_BadRow eh_BadRow et_BadRow p_NoGang_BadRow p_NoGang_NoGang | .NoGuild => subI_of gX_NoGuild gX_BadRow eh_BadRow et_BadRow p_NoGuild_BadRow p_NoGuild_NoGuild | .NoKind => subI_of gX_NoKind gX_BadRow eh_BadRow et_BadRow p_NoKind_BadRow p_NoKind_NoKind | .InUse => subI_of gX_InUse gX_BadRow eh_BadRow et_BadRow p_InUse_BadRow p_InUse_InUse | .TooMany => subI_of gX_TooMany gX_BadRow eh_BadRow et_BadRow p_TooMany_BadRow p_TooMany_TooMany | .NoPlan => subI_of gX_NoPlan gX_BadRow eh_BadRow et_BadRow p_NoPlan_BadRow p_NoPlan_NoPlan | .Past => subI_of gX_Past gX_BadRow eh_BadRow et_BadRow p_Past_BadRow p_Past_Past | .BadRow => subI_of gX_BadRow gX_BadRow eh_BadRow et_BadRow p_BadRow_BadRow p_BadRow_BadRow), (fun c => match c with | .HallError => subI_of gX_HallError gX_InUse eh_InUse et_InUse p_HallError_InUse p_HallError_HallError | .Taken => subI_of gX_Taken gX_InUse eh_InUse et_InUse p_Taken_InUse p_Taken_Taken | .NoKey => subI_of gX_NoKey gX_InUse eh_InUse et_InUse p_NoKey_InUse p_NoKey_NoKey | .TooMuch => subI_of gX_TooMuch gX_InUse eh_InUse et_InUse p_TooMuch_InUse p_TooMuch_TooMuch | .NoHouse => subI_of gX_NoHouse gX_InUse eh_InUse et_InUse p_NoHouse_InUse p_NoHouse_NoHouse | .NoGang => subI_of gX_NoGang gX_InUse eh_InUse et_InUse p_NoGang_InUse p_NoGang_NoGang | .NoGuild => subI_of gX_NoGuild gX_InUse eh_InUse et_InUse p_NoGuild_InUse p_NoGuild_NoGuild | .NoKind => subI_of gX_NoKind gX_InUse eh_InUse et_InUse p_NoKind_InUse p_NoKind_NoKind | .InUse => subI_of gX_InUse gX_InUse eh_InUse et_InUse p_InUse_InUse p_InUse_InUse | .TooMany => subI_of gX_TooMany gX_InUse eh_InUse et_InUse p_TooMany_InUse p_TooMany_TooMany | .NoPlan => subI_of gX_NoPlan gX_InUse eh_InUse et_InUse p_NoPlan_InUse p_NoPlan_NoPlan | .Past => subI_of gX_Past gX_InUse eh_InUse et_InUse p_Past_InUse p_Past_Past | .BadRow => subI_of gX_BadRow gX_InUse eh_InUse et_InUse p_BadRow_InUse p_BadRow_BadRow), (fun c => match c with | .HallError => subI_of gX_HallError gX_NoGang eh_NoGang et_NoGang p_HallError_NoGang p_HallError_HallError | .Taken => subI_of gX_Taken gX_NoGang eh_NoGang et_NoGang p_Taken_NoGang p_Taken_Taken | .NoKey => subI_of gX_NoKey gX_NoGang eh_NoGang et_NoGang p_NoKey_NoGang p_NoKey_NoKey | .TooMuch => subI_of gX_TooMuch gX_NoGang eh_NoGang et_NoGang p_TooMuch_NoGang p_TooMuch_TooMuch | .NoHouse => subI_of gX_NoHouse gX_NoGang eh_NoGang et_NoGang p_NoHouse_NoGang p_NoHouse_NoHouse | .NoGang => subI_of gX_NoGang gX_NoGang eh_NoGang et_NoGang p_NoGang_NoGang p_NoGang_NoGang | .NoGuild => subI_of gX_NoGuild gX_NoGang eh_NoGang et_NoGang p_NoGuild_NoGang p_NoGuild_NoGuild | .NoKind => subI_of gX_NoKind gX_NoGang eh_NoGang et_NoGang p_NoKind_NoGang p_NoKind_NoKind | .InUse => subI_of gX_InUse gX_NoGang eh_NoGang et_NoGang p_InUse_NoGang p_InUse_InUse | .TooMany => subI_of gX_TooMany gX_NoGang eh_NoGang et_NoGang p_TooMany_NoGang p_TooMany_TooMany | .NoPlan => subI_of gX_NoPlan gX_NoGang eh_NoGang et_NoGang p_NoPlan_NoGang p_NoPlan_NoPlan | .Past => subI_of gX_Past gX_NoGang eh_NoGang et_NoGang p_Past_NoGang p_Past_Past | .BadRow => subI_of gX_BadRow gX_NoGang eh_NoGang et_NoGang p_BadRow_NoGang p_BadRow_BadRow), (fun c => match c with | .HallError => subI_of gX_HallError gX_NoGuild eh_NoGuild et_NoGuild p_HallError_NoGuild p_HallError_HallError | .Taken => subI_of gX_Taken gX_NoGuild eh_NoGuild et_NoGuild p_Taken_NoGuild p_Taken_Taken | .NoKey => subI_of gX_NoKey gX_NoGuild eh_NoGuild et_NoGuild p_NoKey_NoGuild p_NoKey_NoKey | .TooMuch => subI_of gX_TooMuch gX_NoGuild eh_NoGuild et_NoGuild p_TooMuch_NoGuild p_TooMuch_TooMuch | .NoHouse => subI_of gX_NoHouse gX_NoGuild eh_NoGuild et_NoGuild p_NoHouse_NoGuild p_NoHouse_NoHouse | .NoGang => subI_of gX_NoGang gX_NoGuild eh_NoGuild et_NoGuild p_NoGang_NoGuild p_NoGang_NoGang | .NoGuild => subI_of gX_NoGuild gX_NoGuild eh_NoGuild et_NoGuild p_NoGuild_NoGuild p_NoGuild_NoGuild | .NoKind => subI_of gX_NoKind gX_NoGuild eh_NoGuild et_NoGuild p_NoKind_NoGuild p_NoKind_NoKind | .InUse => subI_of gX_InUse gX_NoGuild eh_NoGuild et_NoGuild p_InUse_NoGuild p_InUse_InUse | .TooMany => subI_of gX_TooMany gX_NoGuild eh_NoGuild et_NoGuild p_TooMany_NoGuild p_TooMany_TooMany | .NoPlan => subI_of gX_NoPlan gX_NoGuild eh_NoGuild et_NoGuild p_NoPlan_NoGuild p_NoPlan_NoPlan | .Past => subI_of gX_Past gX_NoGuild eh_NoGuild et_NoGuild p_Past_NoGuild p_Past_Past | .BadRow => subI_of gX_BadRow gX_NoGuild eh_NoGuild et_NoGuild p_BadRow_NoGuild p_BadRow_BadRow), (fun c => match c with | .HallError => subI_of gX_HallError gX_NoHouse eh_NoHouse et_NoHouse p_HallError_NoHouse p_HallError_HallError | .Taken => subI_of gX_Taken gX_NoHouse eh_NoHouse et_NoHouse p_Taken_NoHouse p_Taken_Taken | .NoKey => subI_of gX_NoKey gX_NoHouse eh_NoHouse et_NoHouse p_NoKey_NoHouse p_NoKey_NoKey | .TooMuch => subI_of gX_TooMuch gX_NoHouse eh_NoHouse et_NoHouse p_TooMuch_NoHouse p_TooMuch_TooMuch | .NoHouse => subI_of gX_NoHouse gX_NoHouse eh_NoHouse et_NoHouse p_NoHouse_NoHouse p_NoHouse_NoHouse | .NoGang => subI_of gX_NoGang gX_NoHouse eh_NoHouse et_NoHouse p_NoGang_NoHouse p_NoGang_NoGang | .NoGuild => subI_of gX_NoGuild gX_NoHouse eh_NoHouse et_NoHouse p_NoGuild_NoHouse p_NoGuild_NoGuild | .NoKind => subI_of gX_NoKind gX_NoHouse eh_NoHouse et_NoHouse p_NoKind_NoHouse p_NoKind_NoKind | .InUse => subI_of gX_InUse gX_NoHouse eh_NoHouse et_NoHouse p_InUse_NoHouse p_InUse_InUse | .TooMany => subI_of gX_TooMany gX_NoHouse eh_NoHouse et_NoHouse p_TooMany_NoHouse p_TooMany_TooMany | .NoPlan => subI_of gX_NoPlan gX_NoHouse eh_NoHouse et_NoHouse p_NoPlan_NoHouse p_NoPlan_NoPlan | .Past => subI_of gX_Past gX_NoHouse eh_NoHouse et_NoHouse p_Past_NoHouse p_Past_Past | .BadRow => subI_of gX_BadRow gX_NoHouse eh_NoHouse et_NoHouse p_BadRow_NoHouse p_BadRow_BadRow), (fun c => match c with | .HallError => subI_of gX_HallError gX_NoKey eh_NoKey et_NoKey p_HallError_NoKey p_HallError_HallError | .Taken => subI_of gX_Taken gX_NoKey eh_NoKey et_NoKey p_Taken_NoKey p_Taken_Taken | .NoKey => subI_of gX_NoKey gX_NoKey eh_NoKey et_NoKey p_NoKey_NoKey p_NoKey_NoKey | .TooMuch => subI_of gX_TooMuch gX_NoKey eh_NoKey et_NoKey p_TooMuch_NoKey p_TooMuch_TooMuch | .NoHouse => subI_of gX_NoHouse gX_NoKey eh_NoKey et_NoKey p_NoHouse_NoKey p_NoHouse_NoHouse | .NoGang => subI_of gX_NoGang gX_NoKey eh_NoKey et_NoKey p_NoGang_NoKey p_NoGang_NoGang | .NoGuild => subI_of gX_NoGuild gX_NoKey eh_NoKey et_NoKey p_NoGuild_NoKey p_NoGuild_NoGuild | .NoKind => subI_of gX_NoKind gX_NoKey eh_NoKey et_NoKey p_NoKind_NoKey p_NoKind_NoKind | .InUse => subI_of gX_InUse gX_NoKey eh_NoKey et_NoKey p_InUse_NoKey p_InUse_InUse | .TooMany => subI_of gX_TooMany gX_NoKey eh_NoKey et_NoKey p_TooMany_NoKey p_TooMany_TooMany | .NoPlan => subI_of gX_NoPlan gX_NoKey eh_NoKey et_NoKey p_NoPlan_NoKey p_NoPlan_NoPlan | .Past => subI_of gX_Past gX_NoKey eh_NoKey et_NoKey p_Past_NoKey p_Past_Past | .BadRow => subI_of gX_BadRow gX_NoKey eh_NoKey et_NoKey p_BadRow_NoKey p_BadRow_BadRow), (fun c => match c with | .HallError => subI_of gX_HallError gX_NoKind eh_NoKind et_NoKind p_HallError_NoKind p_HallError_HallError | .Taken => subI_of gX_Taken gX_NoKind eh_NoKind et_NoKind p_Taken_NoKind p_Taken_Taken | .NoKey => subI_of gX_NoKey gX_NoKind eh_NoKind et_NoKind p_NoKey_NoKind p_NoKey_NoKey | .TooMuch => subI_of gX_TooMuch gX_NoKind eh_NoKind et_NoKind p_TooMuch_NoKind p_TooMuch_TooMuch | .NoHouse => subI_of gX_NoHouse gX_NoKind eh_NoKind et_NoKind p_NoHouse_NoKind p_NoHouse_NoHouse | .NoGang => subI_of gX_NoGang gX_NoKind eh_NoKind et_NoKind p_NoGang_NoKind p_NoGang_NoGang | .NoGuild => subI_of gX_NoGuild gX_NoKind eh_NoKind et_NoKind p_NoGuild_NoKind p_NoGuild_NoGuild | .NoKind => subI_of gX_NoKind gX_NoKind eh_NoKind et_NoKind p_NoKind_NoKind p_NoKind_NoKind | .InUse => subI_of gX_InUse gX_NoKind eh_NoKind et_NoKind p_InUse_NoKind p_InUse_InUse | .TooMany => subI_of gX_TooMany gX_NoKind eh_NoKind et_NoKind p_TooMany_NoKind p_TooMany_TooMany | .NoPlan => subI_of gX_NoPlan gX_NoKind eh_NoKind et_NoKind p_NoPlan_NoKind p_NoPlan_NoPlan | .Past => subI_of gX_Past gX_NoKind eh_NoKind et_NoKind p_Past_NoKind p_Past_Past | .BadRow => subI_of gX_BadRow gX_NoKind eh_NoKind et_NoKind p_BadRow_NoKind p_BadRow_BadRow), (fun c => match c with | .HallError => subI_of gX_HallError gX_NoPlan eh_NoPlan et_NoPlan p_HallError_NoPlan p_HallError_HallError | .Taken => subI_of gX_Taken gX_NoPlan eh_NoPlan et_NoPlan p_Taken_NoPlan p_Taken_Taken | .NoKey => subI_of gX_NoKey gX_NoPlan eh_NoPlan et_NoPlan p_NoKey_NoPlan p_NoKey_NoKey | .TooMuch => subI_of gX_TooMuch gX_NoPlan eh_NoPlan et_NoPlan p_TooMuch_NoPlan p_TooMuch_TooMuch | .NoHouse => subI_of gX_NoHouse gX_NoPlan eh_NoPlan et_NoPlan p_NoHouse_NoPlan p_NoHouse_NoHouse | .NoGang => subI_of gX_NoGang gX_NoPlan eh_NoPlan et_NoPlan p_NoGang_NoPlan p_NoGang_NoGang | .NoGuild => subI_of gX_NoGuild gX_NoPlan eh_NoPlan et_NoPlan p_NoGuild_NoPlan p_NoGuild_NoGuild | .NoKind => subI_of gX_NoKind gX_NoPlan eh_NoPlan et_NoPlan p_NoKind_NoPlan p_NoKind_NoKind | .InUse => subI_of gX_InUse gX_NoPlan eh_NoPlan et_NoPlan p_InUse_NoPlan p_InUse_InUse | .TooMany => subI_of gX_TooMany gX_NoPlan eh_NoPlan et_NoPlan p_TooMany_NoPlan p_TooMany_TooMany | .NoPlan => subI_of gX_NoPlan gX_NoPlan eh_NoPlan et_NoPlan p_NoPlan_NoPlan p_NoPlan_NoPlan | .Past => subI_of gX_Past gX_NoPlan eh_NoPlan et_NoPlan p_Past_NoPlan p_Past_Past | .BadRow => subI_of gX_BadRow gX_NoPlan eh_NoPlan et_NoPlan p_BadRow_NoPlan p_BadRow_BadRow), (fun c => match c with | .HallError => subI_of gX_HallError gX_Past eh_Past et_Past p_HallError_Past p_HallError_HallError | .Taken => subI_of gX_Taken gX_Past eh_Past et_Past p_Taken_Past p_Taken_Taken | .NoKey => subI_of gX_NoKey gX_Past eh_Past et_Past p_NoKey_Past p_NoKey_NoKey | .TooMuch => subI_of gX_TooMuch gX_Past eh_Past et_Past p_TooMuch_Past p_TooMuch_TooMuch | .NoHouse => subI_of gX_NoHouse gX_Past eh_Past et_Past p_NoHouse_Past p_NoHouse_NoHouse | .NoGang => subI_of gX_NoGang gX_Past eh_Past et_Past p_NoGang_Past p_NoGang_NoGang | .NoGuild => subI_of gX_NoGuild gX_Past eh_Past et_Past p_NoGuild_Past p_NoGuild_NoGuild | .NoKind => subI_of gX_NoKind gX_Past eh_Past et_Past p_NoKind_Past p_NoKind_NoKind | .InUse => subI_of gX_InUse gX_Past eh_Past et_Past p_InUse_Past p_InUse_InUse | .TooMany => subI_of gX_TooMany gX_Past eh_Past et_Past p_TooMany_Past p_TooMany_TooMany | .NoPlan => subI_of gX_NoPlan gX_Past eh_Past et_Past p_NoPlan_Past p_NoPlan_NoPlan | .Past => subI_of gX_Past gX_Past eh_Past et_Past p_Past_Past p_Past_Past | .BadRow => subI_of gX_BadRow gX_Past eh_Past et_Past p_BadRow_Past p_BadRow_BadRow), (fun c => match c with | .HallError => subI_of gX_HallError gX_Taken eh_Taken et_Taken p_HallError_Taken p_HallError_HallError | .Taken => subI_of gX_Taken gX_Taken eh_Taken et_Taken p_Taken_Taken p_Taken_Taken | .NoKey => subI_of gX_NoKey gX_Taken eh_Taken et_Taken p_NoKey_Taken p_NoKey_NoKey | .TooMuch => subI_of gX_TooMuch gX_Taken eh_Taken et_Taken p_TooMuch_Taken p_TooMuch_TooMuch | .NoHouse => subI_of gX_NoHouse gX_Taken eh_Taken et_Taken p_NoHouse_Taken p_NoHouse_NoHouse | .NoGang => subI_of gX_NoGang gX_Taken eh_Taken et_Taken p_NoGang_Taken p_NoGang_NoGang | .NoGuild => subI_of gX_NoGuild gX_Taken eh_Taken et_Taken p_NoGuild_Taken p_NoGuild_NoGuild | .NoKind => subI_of gX_NoKind gX_Taken eh_Taken et_Taken p_NoKind_Taken p_NoKind_NoKind | .InUse => subI_of gX_InUse gX_Taken eh_Taken et_Taken p_InUse_Taken p_InUse_InUse | .TooMany => subI_of gX_TooMany gX_Taken eh_Taken et_Taken p_TooMany_Taken p_TooMany_TooMany | .NoPlan => subI_of gX_NoPlan gX_Taken eh_Taken et_Taken p_NoPlan_Taken p_NoPlan_NoPlan | .Past => subI_of gX_Past gX_Taken eh_Taken et_Taken p_Past_Taken p_Past_Past | .BadRow => subI_of gX_BadRow gX_Taken eh_Taken et_Taken p_BadRow_Taken p_BadRow_BadRow), (fun c => match c with | .HallError => subI_of gX_HallError gX_TooMany eh_TooMany et_TooMany p_HallError_TooMany p_HallError_HallError | .Taken => subI_of gX_Taken gX_TooMany eh_TooMany et_TooMany p_Taken_TooMany p_Taken_Taken | .NoKey => subI_of gX_NoKey gX_TooMany eh_TooMany et_TooMany p_NoKey_TooMany p_NoKey_NoKey | .TooMuch => subI_of gX_TooMuch gX_TooMany eh_TooMany et_TooMany p_TooMuch_TooMany p_TooMuch_TooMuch | .NoHouse => subI_of gX_NoHouse gX_TooMany eh_TooMany et_TooMany p_NoHouse_TooMany p_NoHouse_NoHouse | .NoGang => subI_of gX_NoGang gX_TooMany eh_TooMany et_TooMany p_NoGang_TooMany p_NoGang_NoGang | .NoGuild => subI_of gX_NoGuild gX_TooMany eh_TooMany et_TooMany p_NoGuild_TooMany p_NoGuild_NoGuild | .NoKind => subI_of gX_NoKind gX_TooMany eh_TooMany et_TooMany p_NoKind_TooMany p_NoKind_NoKind | .InUse => subI_of gX_InUse gX_TooMany eh_TooMany et_TooMany p_InUse_TooMany p_InUse_InUse | .TooMany => subI_of gX_TooMany gX_TooMany eh_TooMany et_TooMany p_TooMany_TooMany p_TooMany_TooMany | .NoPlan => subI_of gX_NoPlan gX_TooMany eh_TooMany et_TooMany p_NoPlan_TooMany p_NoPlan_NoPlan | .Past => subI_of gX_Past gX_TooMany eh_TooMany et_TooMany p_Past_TooMany p_Past_Past | .BadRow => subI_of gX_BadRow gX_TooMany eh_TooMany et_TooMany p_BadRow_TooMany p_BadRow_BadRow), (fun c => match c with | .HallError => subI_of gX_HallError gX_TooMuch eh_TooMuch et_TooMuch p_HallError_TooMuch p_HallError_HallError | .Taken => subI_of gX_Taken gX_TooMuch eh_TooMuch et_TooMuch p_Taken_TooMuch p_Taken_Taken | .NoKey => subI_of gX_NoKey gX_TooMuch eh_TooMuch et_TooMuch p_NoKey_TooMuch p_NoKey_NoKey | .TooMuch => subI_of gX_TooMuch gX_TooMuch eh_TooMuch et_TooMuch p_TooMuch_TooMuch p_TooMuch_TooMuch | .NoHouse => subI_of gX_NoHouse gX_TooMuch eh_TooMuch et_TooMuch p_NoHouse_TooMuch p_NoHouse_NoHouse | .NoGang => subI_of gX_NoGang gX_TooMuch eh_TooMuch et_TooMuch p_NoGang_TooMuch p_NoGang_NoGang | .NoGuild => subI_of gX_NoGuild gX_TooMuch eh_TooMuch et_TooMuch p_NoGuild_TooMuch p_NoGuild_NoGuild | .NoKind => subI_of gX_NoKind gX_TooMuch eh_TooMuch et_TooMuch p_NoKind_TooMuch p_NoKind_NoKind | .InUse => subI_of gX_InUse gX_TooMuch eh_TooMuch et_TooMuch p_InUse_TooMuch p_InUse_InUse | .TooMany => subI_of gX_TooMany gX_TooMuch eh_TooMuch et_TooMuch p_TooMany_TooMuch p_TooMany_TooMany | .NoPlan => subI_of gX_NoPlan gX_TooMuch eh_TooMuch et_TooMuch p_NoPlan_TooMuch p_NoPlan_NoPlan | .Past => subI_of gX_Past gX_TooMuch eh_TooMuch et_TooMuch p_Past_TooMuch p_Past_Past | .BadRow => subI_of gX_BadRow gX_TooMuch eh_TooMuch et_TooMuch p_BadRow_TooMuch p_BadRow_BadRow)⟩
  have FI_TooMuch := fun_mk (st := sI_TooMuch) lI_TooMuch cI_TooMuch kI_TooMuch
  have bI_TooMuch := FI_TooMuch.binds (ps := ["self", "words", "time"]) fun _ _ _ _ _ _ us hl => match us, hl with | [_, _, _], _ => rfl
  have O_TooMuch : L2.OexC K X_TooMuch := ⟨⟨_, _, _, _, _, _, _, _, _, _, _, _, _, _, _, xl_TooMuch, xr_TooMuch⟩, xs_TooMuch, eb_TooMuch, et_TooMuch, ek_TooMuch⟩
  have F0 := fun_mk (st := s__law_box_fa59) l0 c0 k0
  have b0 := F0.binds (ps := ["_law_script", "_law_k"]) fun _ _ _ _ _ _ us hl => match us, hl with | [_, _], _ => rfl
  have F1 := fun_mk (st := s__law_take_bafe) l1 c1 k1
  have b1 := F1.binds (ps := ["_law_box_here", "_law_many"]) fun _ _ _ _ _ _ us hl => match us, hl with | [_, _], _ => rfl
  have F2 := fun_mk (st := s__law_number) l2 c2 k2
  have b2 := F2.binds (ps := ["_law_box_here", "_law_top"]) fun _ _ _ _ _ _ us hl => match us, hl with | [_, _], _ => rfl
  have F3 := fun_mk (st := s__law_amount_7792) l3 c3 k3
  have b3 := F3.binds (ps := ["_law_box_here", "_law_wares", "_law_top"]) fun _ _ _ _ _ _ us hl => match us, hl with | [_, _, _], _ => rfl
  have F4 := fun_mk (st := s__law_keeping) l4 c4 k4
  have b4 := F4.binds (ps := ["_law_box_here"]) fun _ _ _ _ _ _ us hl => match us, hl with | [_], _ => rfl
  have F5 := fun_mk (st := s_Book___init__) l5 c5 k5
  have b5 := F5.binds (ps := ["self", "room"]) fun _ _ _ _ _ _ us hl => match us, hl with | [_, _], _ => rfl
  have F6 := fun_mk (st := s__law_edges) l6 c6 k6
  have b6 := F6.binds (ps := ["_law_m"]) fun _ _ _ _ _ _ us hl => match us, hl with | [_], _ => rfl
  have F7 := fun_mk (st := s_nothing_of) l7 c7 k7
  have b7 := F7.binds (ps := ["wares"]) fun _ _ _ _ _ _ us hl => match us, hl with | [_], _ => rfl
  have F8 := fun_mk (st := s_amount_sum) l8 c8 k8
  have b8 := F8.binds (ps := ["one", "other"]) fun _ _ _ _ _ _ us hl => match us, hl with | [_, _], _ => rfl
  have F9 := fun_mk (st := s_Book_load_at) l9 c9 k9
  have b9 := F9.binds (ps := ["self", "time"]) fun _ _ _ _ _ _ us hl => match us, hl with | [_, _], _ => rfl
  have F10 := fun_mk (st := s__law_borne_0ae7) l10 c10 k10
  have b10 := F10.binds (ps := ["_law_book", "_law_m"]) fun _ _ _ _ _ _ us hl => match us, hl with | [_, _], _ => rfl
  have F11 := fun_mk (st := s__law_alike_2e9a) l11 c11 k11
  have b11 := F11.binds (ps := ["_law_found", "_law_due_here"]) fun _ _ _ _ _ _ us hl => match us, hl with | [_, _], _ => rfl
  have F12 := fun_mk (st := s_Book_entry_rows) l12 c12 k12
  have b12 := F12.binds (ps := ["self"]) fun _ _ _ _ _ _ us hl => match us, hl with | [_], _ => rfl
  have F13 := fun_mk (st := s__law_rows_due_422a) l13 c13 k13
  have b13 := F13.binds (ps := ["_law_m"]) fun _ _ _ _ _ _ us hl => match us, hl with | [_], _ => rfl
  have F14 := fun_mk (st := s_Book_whole_room) l14 c14 k14
  have b14 := F14.binds (ps := ["self"]) fun _ _ _ _ _ _ us hl => match us, hl with | [_], _ => rfl
  have F15 := fun_mk (st := s__law_stands_ede1) l15 c15 k15
  have b15 := F15.binds (ps := ["_law_book", "_law_m"]) fun _ _ _ _ _ _ us hl => match us, hl with | [_, _], _ => rfl
  have F16 := fun_mk (st := s_Book_rises_in) l16 c16 k16
  have b16 := F16.binds (ps := ["self", "begin", "end"]) fun _ _ _ _ _ _ us hl => match us, hl with | [_, _, _], _ => rfl
  have F17 := fun_mk (st := s_amount_fits) l17 c17 k17
  have b17 := F17.binds (ps := ["one", "other"]) fun _ _ _ _ _ _ us hl => match us, hl with | [_, _], _ => rfl
  have F18 := fun_mk (st := s_Book_look_room) l18 c18 k18
  have b18 := F18.binds (ps := ["self", "begin", "end", "amount"]) fun _ _ _ _ _ _ us hl => match us, hl with | [_, _, _, _], _ => rfl
  have F19 := fun_mk (st := s_Book_put_entry) l19 c19 k19
  have b19 := F19.binds (ps := ["self", "key", "begin", "end", "amount"]) fun _ _ _ _ _ _ us hl => match us, hl with | [_, _, _, _, _], _ => rfl
  have F20 := fun_mk (st := s_Book_row_of) l20 c20 k20
  have b20 := F20.binds (ps := ["self", "key"]) fun _ _ _ _ _ _ us hl => match us, hl with | [_, _], _ => rfl
  have F21 := fun_mk (st := s_Book_cut_entry) l21 c21 k21
  have b21 := F21.binds (ps := ["self", "key", "time"]) fun _ _ _ _ _ _ us hl => match us, hl with | [_, _, _], _ => rfl
  have F22 := fun_mk (st := s_Book_stretch_entry) l22 c22 k22
  have b22 := F22.binds (ps := ["self", "key", "end"]) fun _ _ _ _ _ _ us hl => match us, hl with | [_, _, _], _ => rfl
  have F23 := fun_mk (st := s_Book_drop_entry) l23 c23 k23
  have b23 := F23.binds (ps := ["self", "key"]) fun _ _ _ _ _ _ us hl => match us, hl with | [_, _], _ => rfl
  have F24 := fun_mk (st := s_Book_drop_past) l24 c24 k24
  have b24 := F24.binds (ps := ["self", "time"]) fun _ _ _ _ _ _ us hl => match us, hl with | [_, _], _ => rfl
  have F25 := fun_mk (st := s__law_called) l25 c25 k25
  have b25 := F25.binds (ps := ["_law_book", "_law_deed_here"]) fun _ _ _ _ _ _ us hl => match us, hl with | [_, _], _ => rfl
  have F26 := fun_mk (st := s__law_word_5e12) l26 c26 k26
  have b26 := F26.binds (ps := ["_law_e"]) fun _ _ _ _ _ _ us hl => match us, hl with | [_], _ => rfl
  have F27 := fun_mk (st := s__law_told_0ead) l27 c27 k27
  have b27 := F27.binds (ps := ["_law_book", "_law_deed_here"]) fun _ _ _ _ _ _ us hl => match us, hl with | [_, _], _ => rfl
  have F28 := fun_mk (st := s__law_load_eb54) l28 c28 k28
  have b28 := F28.binds (ps := ["_law_m", "_law_time_here"]) fun _ _ _ _ _ _ us hl => match us, hl with | [_, _], _ => rfl
  have F29 := fun_mk (st := s__law_first_more) l29 c29 k29
  have b29 := F29.binds (ps := ["_law_m", "_law_begin", "_law_end", "_law_amount_here"]) fun _ _ _ _ _ _ us hl => match us, hl with | [_, _, _, _], _ => rfl
  have F30 := fun_mk (st := s__law_put_due) l30 c30 k30
  have b30 := F30.binds (ps := ["_law_m", "_law_deed_here"]) fun _ _ _ _ _ _ us hl => match us, hl with | [_, _], _ => rfl
  have F31 := fun_mk (st := s__law_due_3a95) l31 c31 k31
  have b31 := F31.binds (ps := ["_law_m", "_law_deed_here"]) fun _ _ _ _ _ _ us hl => match us, hl with | [_, _], _ => rfl
  have F32 := fun_mk (st := s__law_goes_be0d) l32 c32 k32
  have b32 := F32.binds (ps := ["_law_book", "_law_m", "_law_deed_here"]) fun _ _ _ _ _ _ us hl => match us, hl with | [_, _, _], _ => rfl
  have F33 := fun_mk (st := s__law_name_d25c) l33 c33 k33
  have b33 := F33.binds (ps := ["_law_n"]) fun _ _ _ _ _ _ us hl => match us, hl with | [_], _ => rfl
  have F34 := fun_mk (st := s__law_time_e328) l34 c34 k34
  have b34 := F34.binds (ps := ["_law_box_here", "_law_m"]) fun _ _ _ _ _ _ us hl => match us, hl with | [_, _], _ => rfl
  have F35 := fun_mk (st := s__law_span) l35 c35 k35
  have b35 := F35.binds (ps := ["_law_box_here", "_law_m"]) fun _ _ _ _ _ _ us hl => match us, hl with | [_, _], _ => rfl
  have F36 := fun_mk (st := s__law_wanted) l36 c36 k36
  have b36 := F36.binds (ps := ["_law_box_here", "_law_m"]) fun _ _ _ _ _ _ us hl => match us, hl with | [_, _], _ => rfl
  have F37 := fun_mk (st := s__law_deed_17e3) l37 c37 k37
  have b37 := F37.binds (ps := ["_law_box_here", "_law_m", "_law_words", "_law_many"]) fun _ _ _ _ _ _ us hl => match us, hl with | [_, _, _, _], _ => rfl
  have F38 := fun_mk (st := s__law_filled_77eb) l38 c38 k38
  have b38 := F38.binds (ps := ["_law_book", "_law_m", "_law_box_here", "_law_turns", "_law_many"]) fun _ _ _ _ _ _ us hl => match us, hl with | [_, _, _, _, _], _ => rfl
  have F39 := fun_mk (st := s_Book_next_edge) l39 c39 k39
  have b39 := F39.binds (ps := ["self", "time"]) fun _ _ _ _ _ _ us hl => match us, hl with | [_, _], _ => rfl
  have F40 := fun_mk (st := s__law_next) l40 c40 k40
  have b40 := F40.binds (ps := ["_law_m", "_law_time_here"]) fun _ _ _ _ _ _ us hl => match us, hl with | [_, _], _ => rfl
  have F41 := fun_mk (st := s_Book_next_end) l41 c41 k41
  have b41 := F41.binds (ps := ["self", "time"]) fun _ _ _ _ _ _ us hl => match us, hl with | [_, _], _ => rfl
  have F42 := fun_mk (st := s_amount_least) l42 c42 k42
  have b42 := F42.binds (ps := ["one", "other"]) fun _ _ _ _ _ _ us hl => match us, hl with | [_, _], _ => rfl
  have F43 := fun_mk (st := s_amount_less) l43 c43 k43
  have b43 := F43.binds (ps := ["one", "other"]) fun _ _ _ _ _ _ us hl => match us, hl with | [_, _], _ => rfl
  have F44 := fun_mk (st := s_Book_left_over) l44 c44 k44
  have b44 := F44.binds (ps := ["self", "begin", "end"]) fun _ _ _ _ _ _ us hl => match us, hl with | [_, _, _], _ => rfl
  have F45 := fun_mk (st := s__law_left_c244) l45 c45 k45
  have b45 := F45.binds (ps := ["_law_m", "_law_begin", "_law_end"]) fun _ _ _ _ _ _ us hl => match us, hl with | [_, _, _], _ => rfl
  have F46 := fun_mk (st := s__law_asked_7df9) l46 c46 k46
  have b46 := F46.binds (ps := ["_law_book", "_law_m", "_law_box_here", "_law_turns"]) fun _ _ _ _ _ _ us hl => match us, hl with | [_, _, _, _], _ => rfl
  have F47 := fun_mk (st := s_law_k13) l47 c47 k47
  refine ⟨PySem.W.fnOf "law" "law" (defArgs s_law_k13) (defBody s_law_k13) (defScope s_law_k13) .none kV47 dc47 pm47 an47 cd47 ct47, fun s v => .of_eq rfl, fun base _ _ => ?_⟩
  have i_TooMuch : InitF l.prog w K mg base 1 .TooMuch .time := ⟨X_TooMuch, fI_TooMuch, _, _, gX_TooMuch, PySem.W.mg_of X G gX_TooMuch, O_TooMuch, xi_TooMuch, xt_TooMuch, okI_TooMuch FI_TooMuch O_TooMuch na_TooMuch_time (PySem.W.mg_of X G gX_HallError) ⟨hsp, hrd, hfc⟩, bI_TooMuch⟩
  have C__law_box_fa59 : Cal l.prog w K mg base 1 "_law_box" (spA K a__law_box_fa59) := cal_mk (ok__law_box_fa59 F0 T ) (PySem.W.mg_of X G a0) F0.kp b0
  have C__law_take_bafe : Cal l.prog w K mg base 1 "_law_take" (spA K a__law_take_bafe) := cal_mk (ok__law_take_bafe F1 T ) (PySem.W.mg_of X G a1) F1.kp b1
  have C__law_number : Cal l.prog w K mg base 2 "_law_number" (spA K a__law_number) := cal_mk (ok__law_number F2 T C__law_take_bafe) (PySem.W.mg_of X G a2) F2.kp b2
  have C__law_amount_7792 : Cal l.prog w K mg base 3 "_law_amount" (spA K a__law_amount_7792) := cal_mk (ok__law_amount_7792 F3 T C__law_number) (PySem.W.mg_of X G a3) F3.kp b3
  have C__law_keeping : Cal l.prog w K mg base 4 "_law_keeping" (spA K a__law_keeping) := cal_mk (ok__law_keeping F4 T C__law_amount_7792 C__law_take_bafe) (PySem.W.mg_of X G a4) F4.kp b4
  have C_Book___init__ : KCal l.prog w K mg base 1 .Book (spA K a_Book___init__) := kcal_mk (ok_Book___init__ F5 T ) gC_Book (PySem.W.mg_of X G gC_Book) ⟨mk_Book, a5, i5, kp_Book⟩ b5
  have C__law_edges : Cal l.prog w K mg base 1 "_law_edges" (spA K a__law_edges) := cal_mk (ok__law_edges F6 T ) (PySem.W.mg_of X G a6) F6.kp b6
  have C_nothing_of : Cal l.prog w K mg base 1 "nothing_of" (spA K a_nothing_of) := cal_mk (ok_nothing_of F7 T ) (PySem.W.mg_of X G a7) F7.kp b7
  have C_amount_sum : Cal l.prog w K mg base 1 "amount_sum" (spA K a_amount_sum) := cal_mk (ok_amount_sum F8 T ) (PySem.W.mg_of X G a8) F8.kp b8
  have C_Book_load_at : MCal l.prog w K mg base 2 .Book "load_at" (spA K a_Book_load_at) := mcal_mk (ok_Book_load_at F9 T C_nothing_of C_amount_sum) gC_Book (T.TC .Book) ⟨a9, i9, k9⟩ b9
  have C__law_borne_0ae7 : Cal l.prog w K mg base 3 "_law_borne" (spA K a__law_borne_0ae7) := cal_mk (ok__law_borne_0ae7 F10 T C__law_edges C_Book_load_at) (PySem.W.mg_of X G a10) F10.kp b10
  have C__law_alike_2e9a : Cal l.prog w K mg base 7 "_law_alike" (spA K a__law_alike_2e9a) := cal_mk (ok__law_alike_2e9a F11 T  (PySem.W.mg_of X G a11) b11 6) (PySem.W.mg_of X G a11) F11.kp b11
  have C_Book_entry_rows : MCal l.prog w K mg base 1 .Book "entry_rows" (spA K a_Book_entry_rows) := mcal_mk (ok_Book_entry_rows F12 T ) gC_Book (T.TC .Book) ⟨a12, i12, k12⟩ b12
  have C__law_rows_due_422a : Cal l.prog w K mg base 1 "_law_rows_due" (spA K a__law_rows_due_422a) := cal_mk (ok__law_rows_due_422a F13 T ) (PySem.W.mg_of X G a13) F13.kp b13
  have C_Book_whole_room : MCal l.prog w K mg base 1 .Book "whole_room" (spA K a_Book_whole_room) := mcal_mk (ok_Book_whole_room F14 T ) gC_Book (T.TC .Book) ⟨a14, i14, k14⟩ b14
  have C__law_stands_ede1 : Cal l.prog w K mg base 8 "_law_stands" (spA K a__law_stands_ede1) := cal_mk (ok__law_stands_ede1 F15 T C__law_alike_2e9a C_Book_entry_rows C__law_rows_due_422a C_Book_whole_room) (PySem.W.mg_of X G a15) F15.kp b15
  have C_Book_rises_in : MCal l.prog w K mg base 1 .Book "rises_in" (spA K a_Book_rises_in) := mcal_mk (ok_Book_rises_in F16 T ) gC_Book (T.TC .Book) ⟨a16, i16, k16⟩ b16
  have C_amount_fits : Cal l.prog w K mg base 1 "amount_fits" (spA K a_amount_fits) := cal_mk (ok_amount_fits F17 T ) (PySem.W.mg_of X G a17) F17.kp b17
  have C_Book_look_room : MCal l.prog w K mg base 3 .Book "look_room" (spA K a_Book_look_room) := mcal_mk (ok_Book_look_room F18 T C_Book_rises_in C_amount_fits C_amount_sum C_Book_load_at i_TooMuch) gC_Book (T.TC .Book) ⟨a18, i18, k18⟩ b18
  have C_Book_put_entry : MCal l.prog w K mg base 4 .Book "put_entry" (spA K a_Book_put_entry) := mcal_mk (ok_Book_put_entry F19 T C_Book_look_room) gC_Book (T.TC .Book) ⟨a19, i19, k19⟩ b19
  have C_Book_row_of : MCal l.prog w K mg base 1 .Book "row_of" (spA K a_Book_row_of) := mcal_mk (ok_Book_row_of F20 T ) gC_Book (T.TC .Book) ⟨a20, i20, k20⟩ b20
  have C_Book_cut_entry : MCal l.prog w K mg base 2 .Book "cut_entry" (spA K a_Book_cut_entry) := mcal_mk (ok_Book_cut_entry F21 T C_Book_row_of) gC_Book (T.TC .Book) ⟨a21, i21, k21⟩ b21
  have C_Book_stretch_entry : MCal l.prog w K mg base 4 .Book "stretch_entry" (spA K a_Book_stretch_entry) := mcal_mk (ok_Book_stretch_entry F22 T C_Book_row_of C_Book_look_room) gC_Book (T.TC .Book) ⟨a22, i22, k22⟩ b22
  have C_Book_drop_entry : MCal l.prog w K mg base 2 .Book "drop_entry" (spA K a_Book_drop_entry) := mcal_mk (ok_Book_drop_entry F23 T C_Book_row_of) gC_Book (T.TC .Book) ⟨a23, i23, k23⟩ b23
  have C_Book_drop_past : MCal l.prog w K mg base 1 .Book "drop_past" (spA K a_Book_drop_past) := mcal_mk (ok_Book_drop_past F24 T ) gC_Book (T.TC .Book) ⟨a24, i24, k24⟩ b24
  have C__law_called : Cal l.prog w K mg base 5 "_law_called" (spA K a__law_called) := cal_mk (ok__law_called F25 T C_Book_put_entry C_Book_cut_entry C_Book_stretch_entry C_Book_drop_entry C_Book_drop_past) (PySem.W.mg_of X G a25) F25.kp b25
  have C__law_word_5e12 : Cal l.prog w K mg base 1 "_law_word" (spA K a__law_word_5e12) := cal_mk (ok__law_word_5e12 F26 T ) (PySem.W.mg_of X G a26) F26.kp b26
  have C__law_told_0ead : Cal l.prog w K mg base 6 "_law_told" (spA K a__law_told_0ead) := cal_mk (ok__law_told_0ead F27 T C__law_called C__law_word_5e12) (PySem.W.mg_of X G a27) F27.kp b27
  have C__law_load_eb54 : Cal l.prog w K mg base 1 "_law_load" (spA K a__law_load_eb54) := cal_mk (ok__law_load_eb54 F28 T ) (PySem.W.mg_of X G a28) F28.kp b28
  have C__law_first_more : Cal l.prog w K mg base 2 "_law_first_more" (spA K a__law_first_more) := cal_mk (ok__law_first_more F29 T C__law_edges C__law_load_eb54) (PySem.W.mg_of X G a29) F29.kp b29
  have C__law_put_due : Cal l.prog w K mg base 3 "_law_put_due" (spA K a__law_put_due) := cal_mk (ok__law_put_due F30 T C__law_first_more) (PySem.W.mg_of X G a30) F30.kp b30
  have C__law_due_3a95 : Cal l.prog w K mg base 4 "_law_due" (spA K a__law_due_3a95) := cal_mk (ok__law_due_3a95 F31 T C__law_put_due C__law_first_more) (PySem.W.mg_of X G a31) F31.kp b31
  have C__law_goes_be0d : Cal l.prog w K mg base 9 "_law_goes" (spA K a__law_goes_be0d) := cal_mk (ok__law_goes_be0d F32 T C__law_alike_2e9a C__law_stands_ede1 C__law_told_0ead C__law_due_3a95) (PySem.W.mg_of X G a32) F32.kp b32
  have C__law_name_d25c : Cal l.prog w K mg base 1 "_law_name" (spA K a__law_name_d25c) := cal_mk (ok__law_name_d25c F33 T ) (PySem.W.mg_of X G a33) F33.kp b33
  have C__law_time_e328 : Cal l.prog w K mg base 3 "_law_time" (spA K a__law_time_e328) := cal_mk (ok__law_time_e328 F34 T C__law_edges C__law_number C__law_take_bafe) (PySem.W.mg_of X G a34) F34.kp b34
  have C__law_span : Cal l.prog w K mg base 4 "_law_span" (spA K a__law_span) := cal_mk (ok__law_span F35 T C__law_time_e328 C__law_take_bafe) (PySem.W.mg_of X G a35) F35.kp b35
  have C__law_wanted : Cal l.prog w K mg base 4 "_law_wanted" (spA K a__law_wanted) := cal_mk (ok__law_wanted F36 T C__law_amount_7792 C__law_take_bafe) (PySem.W.mg_of X G a36) F36.kp b36
  have C__law_deed_17e3 : Cal l.prog w K mg base 5 "_law_deed" (spA K a__law_deed_17e3) := cal_mk (ok__law_deed_17e3 F37 T C__law_name_d25c C__law_take_bafe C__law_time_e328 C__law_span C__law_wanted) (PySem.W.mg_of X G a37) F37.kp b37
  have C__law_filled_77eb : Cal l.prog w K mg base 10 "_law_filled" (spA K a__law_filled_77eb) := cal_mk (ok__law_filled_77eb F38 T C__law_goes_be0d C__law_deed_17e3) (PySem.W.mg_of X G a38) F38.kp b38
  have C_Book_next_edge : MCal l.prog w K mg base 1 .Book "next_edge" (spA K a_Book_next_edge) := mcal_mk (ok_Book_next_edge F39 T ) gC_Book (T.TC .Book) ⟨a39, i39, k39⟩ b39
  have C__law_next : Cal l.prog w K mg base 2 "_law_next" (spA K a__law_next) := cal_mk (ok__law_next F40 T C__law_edges) (PySem.W.mg_of X G a40) F40.kp b40
  have C_Book_next_end : MCal l.prog w K mg base 1 .Book "next_end" (spA K a_Book_next_end) := mcal_mk (ok_Book_next_end F41 T ) gC_Book (T.TC .Book) ⟨a41, i41, k41⟩ b41
  have C_amount_least : Cal l.prog w K mg base 1 "amount_least" (spA K a_amount_least) := cal_mk (ok_amount_least F42 T ) (PySem.W.mg_of X G a42) F42.kp b42
  have C_amount_less : Cal l.prog w K mg base 1 "amount_less" (spA K a_amount_less) := cal_mk (ok_amount_less F43 T ) (PySem.W.mg_of X G a43) F43.kp b43
  have C_Book_left_over : MCal l.prog w K mg base 3 .Book "left_over" (spA K a_Book_left_over) := mcal_mk (ok_Book_left_over F44 T C_Book_rises_in C_amount_least C_amount_less C_Book_load_at) gC_Book (T.TC .Book) ⟨a44, i44, k44⟩ b44
  have C__law_left_c244 : Cal l.prog w K mg base 2 "_law_left" (spA K a__law_left_c244) := cal_mk (ok__law_left_c244 F45 T C__law_edges C__law_load_eb54) (PySem.W.mg_of X G a45) F45.kp b45
  have C__law_asked_7df9 : Cal l.prog w K mg base 8 "_law_asked" (spA K a__law_asked_7df9) := cal_mk (ok__law_asked_7df9 F46 T C__law_time_e328 C__law_span C__law_alike_2e9a C_Book_load_at C__law_load_eb54 C_Book_next_edge C__law_next C_Book_next_end C_Book_left_over C__law_left_c244) (PySem.W.mg_of X G a46) F46.kp b46
  exact ok_law_k13 F47 T C__law_box_fa59 C__law_keeping C_Book___init__ C__law_borne_0ae7 C__law_take_bafe C__law_filled_77eb C__law_goes_be0d C__law_asked_7df9 C__law_deed_17e3
end My
open PySem PySem.W
open PyProof.Rows hiding St
set_option maxRecDepth 100000 in
set_option maxHeartbeats 0 in
theorem PySem.Challenge.cw_clusterhall_k13_whole_book_walked_holds : PySem.Challenge.rw_clusterhall_k13_whole_book_walked.Holds := by
  w_on; o_law; k_head; (case hw => w_witness2)
  k_fill
  refine My.walk_nu (l := PySem.Challenge.rw_clusterhall_k13_whole_book_walked) (n := 63) (k := 11) (x := "_law_script") (a := My.a_law_k13) rfl (by decide) rfl ⟨rfl, by decide, by decide⟩ (fun w h Y => PySem.W.kIn_of Y) ?F (fun _ _ a ns hl hS => My.law_in a ns hl hS)
  case F =>
    intro w mg fa h KX G hmg
    refine' My.all_mk KX G hmg ?gC_Book ?gX_HallError ?gX_Taken ?gX_NoKey ?gX_TooMuch ?gX_NoHouse ?gX_NoGang ?gX_NoGuild ?gX_NoKind ?gX_InUse ?gX_TooMany ?gX_NoPlan ?gX_Past ?gX_BadRow ?a0 ?l0 ?c0 ?k0 ?a1 ?l1 ?c1 ?k1 ?a2 ?l2 ?c2 ?k2 ?a3 ?l3 ?c3 ?k3 ?a4 ?l4 ?c4 ?k4 ?a5 ?i5 ?l5 ?c5 ?k5 ?a6 ?l6 ?c6 ?k6 ?a7 ?l7 ?c7 ?k7 ?a8 ?l8 ?c8 ?k8 ?a9 ?i9 ?l9 ?c9 ?k9 ?a10 ?l10 ?c10 ?k10 ?a11 ?l11 ?c11 ?k11 ?a12 ?i12 ?l12 ?c12 ?k12 ?a13 ?l13 ?c13 ?k13 ?a14 ?i14 ?l14 ?c14 ?k14 ?a15 ?l15 ?c15 ?k15 ?a16 ?i16 ?l16 ?c16 ?k16 ?a17 ?l17 ?c17 ?k17 ?a18 ?i18 ?l18 ?c18 ?k18 ?a19 ?i19 ?l19 ?c19 ?k19 ?a20 ?i20 ?l20 ?c20 ?k20 ?a21 ?i21 ?l21 ?c21 ?k21 ?a22 ?i22 ?l22 ?c22 ?k22 ?a23 ?i23 ?l23 ?c23 ?k23 ?a24 ?i24 ?l24 ?c24 ?k24 ?a25 ?l25 ?c25 ?k25 ?a26 ?l26 ?c26 ?k26 ?a27 ?l27 ?c27 ?k27 ?a28 ?l28 ?c28 ?k28 ?a29 ?l29 ?c29 ?k29 ?a30 ?l30 ?c30 ?k30 ?a31 ?l31 ?c31 ?k31 ?a32 ?l32 ?c32 ?k32 ?a33 ?l33 ?c33 ?k33 ?a34 ?l34 ?c34 ?k34 ?a35 ?l35 ?c35 ?k35 ?a36 ?l36 ?c36 ?k36 ?a37 ?l37 ?c37 ?k37 ?a38 ?l38 ?c38 ?k38 ?a39 ?i39 ?l39 ?c39 ?k39 ?a40 ?l40 ?c40 ?k40 ?a41 ?i41 ?l41 ?c41 ?k41 ?a42 ?l42 ?c42 ?k42 ?a43 ?l43 ?c43 ?k43 ?a44 ?i44 ?l44 ?c44 ?k44 ?a45 ?l45 ?c45 ?k45 ?a46 ?l46 ?c46 ?k46 ?a47 ?l47 ?c47 ?k47 ?z0 ?z1 ?z2 ?z3 ?z4 ?z5 ?z6 ?z7 ?z8 ?z9 ?z10 ?z11 ?z12 ?z13 ?z14 ?z15 ?pg_Book ?hd_Book ?po_Book ?sa_Book ?na_Book_room ?na_Book_written ?mk_Book ?kp_Book ?nC_House ?nC_Estate ?nC_Share ?nC_Taker ?nC_Trial ?nC_Standing ?nC_Hall ?eb_HallError ?eh_HallError ?ea_HallError ?eg_HallError ?el_HallError ?eo_HallError ?ev_HallError ?ek_HallError ?et_HallError ?eb_Taken ?eh_Taken ?ea_Taken ?eg_Taken ?el_Taken ?eo_Taken ?ev_Taken ?ek_Taken ?et_Taken ?e0_Taken ?eb_NoKey ?eh_NoKey ?ea_NoKey ?eg_NoKey ?el_NoKey ?eo_NoKey ?ev_NoKey ?ek_NoKey ?et_NoKey ?e0_NoKey ?eb_TooMuch ?eh_TooMuch ?ea_TooMuch ?eg_TooMuch ?na_TooMuch_time ?el_TooMuch ?eo_TooMuch ?ev_TooMuch ?ek_TooMuch ?et_TooMuch ?eb_NoHouse ?eh_NoHouse ?ea_NoHouse ?eg_NoHouse ?el_NoHouse ?eo_NoHouse ?ev_NoHouse ?ek_NoHouse ?et_NoHouse ?eb_NoGang ?eh_NoGang ?ea_NoGang ?eg_NoGang ?el_NoGang ?eo_NoGang ?ev_NoGang ?ek_NoGang ?et_NoGang ?eb_NoGuild ?eh_NoGuild ?ea_NoGuild ?eg_NoGuild ?el_NoGuild ?eo_NoGuild ?ev_NoGuild ?ek_NoGuild ?et_NoGuild ?eb_NoKind ?eh_NoKind ?ea_NoKind ?eg_NoKind ?el_NoKind ?eo_NoKind ?ev_NoKind ?ek_NoKind ?et_NoKind ?eb_InUse ?eh_InUse ?ea_InUse ?eg_InUse ?el_InUse ?eo_InUse ?ev_InUse ?ek_InUse ?et_InUse ?eb_TooMany ?eh_TooMany ?ea_TooMany ?eg_TooMany ?el_TooMany ?eo_TooMany ?ev_TooMany ?ek_TooMany ?et_TooMany ?eb_NoPlan ?eh_NoPlan ?ea_NoPlan ?eg_NoPlan ?na_NoPlan_counts ?el_NoPlan ?eo_NoPlan ?ev_NoPlan ?ek_NoPlan ?et_NoPlan ?eb_Past ?eh_Past ?ea_Past ?eg_Past ?el_Past ?eo_Past ?ev_Past ?ek_Past ?et_Past ?eb_BadRow ?eh_BadRow ?ea_BadRow ?eg_BadRow ?na_BadRow_row ?el_BadRow ?eo_BadRow ?ev_BadRow ?ek_BadRow ?et_BadRow ?hn ?ht ?p_BadRow_BadRow ?p_BadRow_HallError ?p_BadRow_InUse ?p_BadRow_NoGang ?p_BadRow_NoGuild ?p_BadRow_NoHouse ?p_BadRow_NoKey ?p_BadRow_NoKind ?p_BadRow_NoPlan ?p_BadRow_Past ?p_BadRow_Taken ?p_BadRow_TooMany ?p_BadRow_TooMuch ?p_HallError_BadRow ?p_HallError_HallError ?p_HallError_InUse ?p_HallError_NoGang ?p_HallError_NoGuild ?p_HallError_NoHouse ?p_HallError_NoKey ?p_HallError_NoKind ?p_HallError_NoPlan ?p_HallError_Past ?p_HallError_Taken ?p_HallError_TooMany ?p_HallError_TooMuch ?p_InUse_BadRow ?p_InUse_HallError ?p_InUse_InUse ?p_InUse_NoGang ?p_InUse_NoGuild ?p_InUse_NoHouse ?p_InUse_NoKey ?p_InUse_NoKind ?p_InUse_NoPlan ?p_InUse_Past ?p_InUse_Taken ?p_InUse_TooMany ?p_InUse_TooMuch ?p_NoGang_BadRow ?p_NoGang_HallError ?p_NoGang_InUse ?p_NoGang_NoGang ?p_NoGang_NoGuild ?p_NoGang_NoHouse ?p_NoGang_NoKey ?p_NoGang_NoKind ?p_NoGang_NoPlan ?p_NoGang_Past ?p_NoGang_Taken ?p_NoGang_TooMany ?p_NoGang_TooMuch ?p_NoGuild_BadRow ?p_NoGuild_HallError ?p_NoGuild_InUse ?p_NoGuild_NoGang ?p_NoGuild_NoGuild ?p_NoGuild_NoHouse ?p_NoGuild_NoKey ?p_NoGuild_NoKind ?p_NoGuild_NoPlan ?p_NoGuild_Past ?p_NoGuild_Taken ?p_NoGuild_TooMany ?p_NoGuild_TooMuch ?p_NoHouse_BadRow ?p_NoHouse_HallError ?p_NoHouse_InUse ?p_NoHouse_NoGang ?p_NoHouse_NoGuild ?p_NoHouse_NoHouse ?p_NoHouse_NoKey ?p_NoHouse_NoKind ?p_NoHouse_NoPlan ?p_NoHouse_Past ?p_NoHouse_Taken ?p_NoHouse_TooMany ?p_NoHouse_TooMuch ?p_NoKey_BadRow ?p_NoKey_HallError ?p_NoKey_InUse ?p_NoKey_NoGang ?p_NoKey_NoGuild ?p_NoKey_NoHouse ?p_NoKey_NoKey ?p_NoKey_NoKind ?p_NoKey_NoPlan ?p_NoKey_Past ?p_NoKey_Taken ?p_NoKey_TooMany ?p_NoKey_TooMuch ?p_NoKind_BadRow ?p_NoKind_HallError ?p_NoKind_InUse ?p_NoKind_NoGang ?p_NoKind_NoGuild ?p_NoKind_NoHouse ?p_NoKind_NoKey ?p_NoKind_NoKind ?p_NoKind_NoPlan ?p_NoKind_Past ?p_NoKind_Taken ?p_NoKind_TooMany ?p_NoKind_TooMuch ?p_NoPlan_BadRow ?p_NoPlan_HallError ?p_NoPlan_InUse ?p_NoPlan_NoGang ?p_NoPlan_NoGuild ?p_NoPlan_NoHouse ?p_NoPlan_NoKey ?p_NoPlan_NoKind ?p_NoPlan_NoPlan ?p_NoPlan_Past ?p_NoPlan_Taken ?p_NoPlan_TooMany ?p_NoPlan_TooMuch ?p_Past_BadRow ?p_Past_HallError ?p_Past_InUse ?p_Past_NoGang ?p_Past_NoGuild ?p_Past_NoHouse ?p_Past_NoKey ?p_Past_NoKind ?p_Past_NoPlan ?p_Past_Past ?p_Past_Taken ?p_Past_TooMany ?p_Past_TooMuch ?p_Taken_BadRow ?p_Taken_HallError ?p_Taken_InUse ?p_Taken_NoGang ?p_Taken_NoGuild ?p_Taken_NoHouse ?p_Taken_NoKey ?p_Taken_NoKind ?p_Taken_NoPlan ?p_Taken_Past ?p_Taken_Taken ?p_Taken_TooMany ?p_Taken_TooMuch ?p_TooMany_BadRow ?p_TooMany_HallError ?p_TooMany_InUse ?p_TooMany_NoGang ?p_TooMany_NoGuild ?p_TooMany_NoHouse ?p_TooMany_NoKey ?p_TooMany_NoKind ?p_TooMany_NoPlan ?p_TooMany_Past ?p_TooMany_Taken ?p_TooMany_TooMany ?p_TooMany_TooMuch ?p_TooMuch_BadRow ?p_TooMuch_HallError ?p_TooMuch_InUse ?p_TooMuch_NoGang ?p_TooMuch_NoGuild ?p_TooMuch_NoHouse ?p_TooMuch_NoKey ?p_TooMuch_NoKind ?p_TooMuch_NoPlan ?p_TooMuch_Past ?p_TooMuch_Taken ?p_TooMuch_TooMany ?p_TooMuch_TooMuch ?xl_TooMuch ?xr_TooMuch ?xs_TooMuch ?xi_TooMuch ?xt_TooMuch ?lI_TooMuch ?cI_TooMuch ?kI_TooMuch ?hsp ?hrd ?hfc
    (case gC_Book => k_is); (case gX_HallError => k_is); (case gX_Taken => k_is); (case gX_NoKey => k_is); (case gX_TooMuch => k_is); (case gX_NoHouse => k_is); (case gX_NoGang => k_is); (case gX_NoGuild => k_is); (case gX_NoKind => k_is); (case gX_InUse => k_is); (case gX_TooMany => k_is); (case gX_NoPlan => k_is); (case gX_Past => k_is); (case gX_BadRow => k_is); (case a0 => k_is); (case l0 => k_is); (case c0 => k_is); (case k0 => k_is); (case a1 => k_is); (case l1 => k_is); (case c1 => k_is); (case k1 => k_is); (case a2 => k_is); (case l2 => k_is); (case c2 => k_is); (case k2 => k_is); (case a3 => k_is); (case l3 => k_is); (case c3 => k_is); (case k3 => k_is); (case a4 => k_is); (case l4 => k_is); (case c4 => k_is); (case k4 => k_is); (case a5 => k_is); (case i5 => k_is); (case l5 => k_is); (case c5 => k_is); (case k5 => k_is); (case a6 => k_is); (case l6 => k_is); (case c6 => k_is); (case k6 => k_is); (case a7 => k_is); (case l7 => k_is); (case c7 => k_is); (case k7 => k_is); (case a8 => k_is); (case l8 => k_is); (case c8 => k_is); (case k8 => k_is); (case a9 => k_is); (case i9 => k_is); (case l9 => k_is); (case c9 => k_is); (case k9 => k_is); (case a10 => k_is); (case l10 => k_is); (case c10 => k_is); (case k10 => k_is); (case a11 => k_is); (case l11 => k_is); (case c11 => k_is); (case k11 => k_is); (case a12 => k_is); (case i12 => k_is); (case l12 => k_is); (case c12 => k_is); (case k12 => k_is); (case a13 => k_is); (case l13 => k_is); (case c13 => k_is); (case k13 => k_is); (case a14 => k_is); (case i14 => k_is); (case l14 => k_is); (case c14 => k_is); (case k14 => k_is); (case a15 => k_is); (case l15 => k_is); (case c15 => k_is); (case k15 => k_is); (case a16 => k_is); (case i16 => k_is); (case l16 => k_is); (case c16 => k_is); (case k16 => k_is); (case a17 => k_is); (case l17 => k_is); (case c17 => k_is); (case k17 => k_is); (case a18 => k_is); (case i18 => k_is); (case l18 => k_is); (case c18 => k_is); (case k18 => k_is); (case a19 => k_is); (case i19 => k_is); (case l19 => k_is); (case c19 => k_is); (case k19 => k_is); (case a20 => k_is); (case i20 => k_is); (case l20 => k_is); (case c20 => k_is); (case k20 => k_is); (case a21 => k_is); (case i21 => k_is); (case l21 => k_is); (case c21 => k_is); (case k21 => k_is); (case a22 => k_is); (case i22 => k_is); (case l22 => k_is); (case c22 => k_is); (case k22 => k_is); (case a23 => k_is); (case i23 => k_is); (case l23 => k_is); (case c23 => k_is); (case k23 => k_is); (case a24 => k_is); (case i24 => k_is); (case l24 => k_is); (case c24 => k_is); (case k24 => k_is); (case a25 => k_is); (case l25 => k_is); (case c25 => k_is); (case k25 => k_is); (case a26 => k_is); (case l26 => k_is); (case c26 => k_is); (case k26 => k_is); (case a27 => k_is); (case l27 => k_is); (case c27 => k_is); (case k27 => k_is); (case a28 => k_is); (case l28 => k_is); (case c28 => k_is); (case k28 => k_is); (case a29 => k_is); (case l29 => k_is); (case c29 => k_is); (case k29 => k_is); (case a30 => k_is); (case l30 => k_is); (case c30 => k_is); (case k30 => k_is); (case a31 => k_is); (case l31 => k_is); (case c31 => k_is); (case k31 => k_is); (case a32 => k_is); (case l32 => k_is); (case c32 => k_is); (case k32 => k_is); (case a33 => k_is); (case l33 => k_is); (case c33 => k_is); (case k33 => k_is); (case a34 => k_is); (case l34 => k_is); (case c34 => k_is); (case k34 => k_is); (case a35 => k_is); (case l35 => k_is); (case c35 => k_is); (case k35 => k_is); (case a36 => k_is); (case l36 => k_is); (case c36 => k_is); (case k36 => k_is); (case a37 => k_is); (case l37 => k_is); (case c37 => k_is); (case k37 => k_is); (case a38 => k_is); (case l38 => k_is); (case c38 => k_is); (case k38 => k_is); (case a39 => k_is); (case i39 => k_is); (case l39 => k_is); (case c39 => k_is); (case k39 => k_is); (case a40 => k_is); (case l40 => k_is); (case c40 => k_is); (case k40 => k_is); (case a41 => k_is); (case i41 => k_is); (case l41 => k_is); (case c41 => k_is); (case k41 => k_is); (case a42 => k_is); (case l42 => k_is); (case c42 => k_is); (case k42 => k_is); (case a43 => k_is); (case l43 => k_is); (case c43 => k_is); (case k43 => k_is); (case a44 => k_is); (case i44 => k_is); (case l44 => k_is); (case c44 => k_is); (case k44 => k_is); (case a45 => k_is); (case l45 => k_is); (case c45 => k_is); (case k45 => k_is); (case a46 => k_is); (case l46 => k_is); (case c46 => k_is); (case k46 => k_is); (case a47 => k_is); (case l47 => k_is); (case c47 => k_is); (case k47 => k_is); (case z0 => k_is); (case z1 => k_is); (case z2 => k_is); (case z3 => k_is); (case z4 => k_is); (case z5 => k_is); (case z6 => k_is); (case z7 => k_is); (case z8 => k_is); (case z9 => k_is); (case z10 => k_is); (case z11 => k_is); (case z12 => k_is); (case z13 => k_is); (case z14 => k_is); (case z15 => k_is); (case pg_Book => k_is); (case hd_Book => k_is); (case po_Book => k_is); (case sa_Book => k_is); (case na_Book_room => k_is); (case na_Book_written => k_is); (case mk_Book => k_is); (case kp_Book => k_is); (case nC_House => k_is); (case nC_Estate => k_is); (case nC_Share => k_is); (case nC_Taker => k_is); (case nC_Trial => k_is); (case nC_Standing => k_is); (case nC_Hall => k_is); (case eb_HallError => k_is); (case eh_HallError => k_is); (case ea_HallError => k_is); (case eg_HallError => k_is); (case el_HallError => k_is); (case eo_HallError => k_is); (case ev_HallError => k_is); (case ek_HallError => k_is); (case et_HallError => k_is); (case eb_Taken => k_is); (case eh_Taken => k_is); (case ea_Taken => k_is); (case eg_Taken => k_is); (case el_Taken => k_is); (case eo_Taken => k_is); (case ev_Taken => k_is); (case ek_Taken => k_is); (case et_Taken => k_is); (case e0_Taken => k_exc); (case eb_NoKey => k_is); (case eh_NoKey => k_is); (case ea_NoKey => k_is); (case eg_NoKey => k_is); (case el_NoKey => k_is); (case eo_NoKey => k_is); (case ev_NoKey => k_is); (case ek_NoKey => k_is); (case et_NoKey => k_is); (case e0_NoKey => k_exc); (case eb_TooMuch => k_is); (case eh_TooMuch => k_is); (case ea_TooMuch => k_is); (case eg_TooMuch => k_is); (case na_TooMuch_time => k_is); (case el_TooMuch => k_is); (case eo_TooMuch => k_is); (case ev_TooMuch => k_is); (case ek_TooMuch => k_is); (case et_TooMuch => k_is); (case eb_NoHouse => k_is); (case eh_NoHouse => k_is); (case ea_NoHouse => k_is); (case eg_NoHouse => k_is); (case el_NoHouse => k_is); (case eo_NoHouse => k_is); (case ev_NoHouse => k_is); (case ek_NoHouse => k_is); (case et_NoHouse => k_is); (case eb_NoGang => k_is); (case eh_NoGang => k_is); (case ea_NoGang => k_is); (case eg_NoGang => k_is); (case el_NoGang => k_is); (case eo_NoGang => k_is); (case ev_NoGang => k_is); (case ek_NoGang => k_is); (case et_NoGang => k_is); (case eb_NoGuild => k_is); (case eh_NoGuild => k_is); (case ea_NoGuild => k_is); (case eg_NoGuild => k_is); (case el_NoGuild => k_is); (case eo_NoGuild => k_is); (case ev_NoGuild => k_is); (case ek_NoGuild => k_is); (case et_NoGuild => k_is); (case eb_NoKind => k_is); (case eh_NoKind => k_is); (case ea_NoKind => k_is); (case eg_NoKind => k_is); (case el_NoKind => k_is); (case eo_NoKind => k_is); (case ev_NoKind => k_is); (case ek_NoKind => k_is); (case et_NoKind => k_is); (case eb_InUse => k_is); (case eh_InUse => k_is); (case ea_InUse => k_is); (case eg_InUse => k_is); (case el_InUse => k_is); (case eo_InUse => k_is); (case ev_InUse => k_is); (case ek_InUse => k_is); (case et_InUse => k_is); (case eb_TooMany => k_is); (case eh_TooMany => k_is); (case ea_TooMany => k_is); (case eg_TooMany => k_is); (case el_TooMany => k_is); (case eo_TooMany => k_is); (case ev_TooMany => k_is); (case ek_TooMany => k_is); (case et_TooMany => k_is); (case eb_NoPlan => k_is); (case eh_NoPlan => k_is); (case ea_NoPlan => k_is); (case eg_NoPlan => k_is); (case na_NoPlan_counts => k_is); (case el_NoPlan => k_is); (case eo_NoPlan => k_is); (case ev_NoPlan => k_is); (case ek_NoPlan => k_is); (case et_NoPlan => k_is); (case eb_Past => k_is); (case eh_Past => k_is); (case ea_Past => k_is); (case eg_Past => k_is); (case el_Past => k_is); (case eo_Past => k_is); (case ev_Past => k_is); (case ek_Past => k_is); (case et_Past => k_is); (case eb_BadRow => k_is); (case eh_BadRow => k_is); (case ea_BadRow => k_is); (case eg_BadRow => k_is); (case na_BadRow_row => k_is); (case el_BadRow => k_is); (case eo_BadRow => k_is); (case ev_BadRow => k_is); (case ek_BadRow => k_is); (case et_BadRow => k_is); (case hn => k_is); (case ht => k_is); (case p_BadRow_BadRow => (first | rfl | k_is)); (case p_BadRow_HallError => (first | rfl | k_is)); (case p_BadRow_InUse => (first | rfl | k_is)); (case p_BadRow_NoGang => (first | rfl | k_is)); (case p_BadRow_NoGuild => (first | rfl | k_is)); (case p_BadRow_NoHouse => (first | rfl | k_is)); (case p_BadRow_NoKey => (first | rfl | k_is)); (case p_BadRow_NoKind => (first | rfl | k_is)); (case p_BadRow_NoPlan => (first | rfl | k_is)); (case p_BadRow_Past => (first | rfl | k_is)); (case p_BadRow_Taken => (first | rfl | k_is)); (case p_BadRow_TooMany => (first | rfl | k_is)); (case p_BadRow_TooMuch => (first | rfl | k_is)); (case p_HallError_BadRow => (first | rfl | k_is)); (case p_HallError_HallError => (first | rfl | k_is)); (case p_HallError_InUse => (first | rfl | k_is)); (case p_HallError_NoGang => (first | rfl | k_is)); (case p_HallError_NoGuild => (first | rfl | k_is)); (case p_HallError_NoHouse => (first | rfl | k_is)); (case p_HallError_NoKey => (first | rfl | k_is)); (case p_HallError_NoKind => (first | rfl | k_is)); (case p_HallError_NoPlan => (first | rfl | k_is)); (case p_HallError_Past => (first | rfl | k_is)); (case p_HallError_Taken => (first | rfl | k_is)); (case p_HallError_TooMany => (first | rfl | k_is)); (case p_HallError_TooMuch => (first | rfl | k_is)); (case p_InUse_BadRow => (first | rfl | k_is)); (case p_InUse_HallError => (first | rfl | k_is)); (case p_InUse_InUse => (first | rfl | k_is)); (case p_InUse_NoGang => (first | rfl | k_is)); (case p_InUse_NoGuild => (first | rfl | k_is)); (case p_InUse_NoHouse => (first | rfl | k_is)); (case p_InUse_NoKey => (first | rfl | k_is)); (case p_InUse_NoKind => (first | rfl | k_is)); (case p_InUse_NoPlan => (first | rfl | k_is)); (case p_InUse_Past => (first | rfl | k_is)); (case p_InUse_Taken => (first | rfl | k_is)); (case p_InUse_TooMany => (first | rfl | k_is)); (case p_InUse_TooMuch => (first | rfl | k_is)); (case p_NoGang_BadRow => (first | rfl | k_is)); (case p_NoGang_HallError => (first | rfl | k_is)); (case p_NoGang_InUse => (first | rfl | k_is)); (case p_NoGang_NoGang => (first | rfl | k_is)); (case p_NoGang_NoGuild => (first | rfl | k_is)); (case p_NoGang_NoHouse => (first | rfl | k_is)); (case p_NoGang_NoKey => (first | rfl | k_is)); (case p_NoGang_NoKind => (first | rfl | k_is)); (case p_NoGang_NoPlan => (first | rfl | k_is)); (case p_NoGang_Past => (first | rfl | k_is)); (case p_NoGang_Taken => (first | rfl | k_is)); (case p_NoGang_TooMany => (first | rfl | k_is)); (case p_NoGang_TooMuch => (first | rfl | k_is)); (case p_NoGuild_BadRow => (first | rfl | k_is)); (case p_NoGuild_HallError => (first | rfl | k_is)); (case p_NoGuild_InUse => (first | rfl | k_is)); (case p_NoGuild_NoGang => (first | rfl | k_is)); (case p_NoGuild_NoGuild => (first | rfl | k_is)); (case p_NoGuild_NoHouse => (first | rfl | k_is)); (case p_NoGuild_NoKey => (first | rfl | k_is)); (case p_NoGuild_NoKind => (first | rfl | k_is)); (case p_NoGuild_NoPlan => (first | rfl | k_is)); (case p_NoGuild_Past => (first | rfl | k_is)); (case p_NoGuild_Taken => (first | rfl | k_is)); (case p_NoGuild_TooMany => (first | rfl | k_is)); (case p_NoGuild_TooMuch => (first | rfl | k_is)); (case p_NoHouse_BadRow => (first | rfl | k_is)); (case p_NoHouse_HallError => (first | rfl | k_is)); (case p_NoHouse_InUse => (first | rfl | k_is)); (case p_NoHouse_NoGang => (first | rfl | k_is)); (case p_NoHouse_NoGuild => (first | rfl | k_is)); (case p_NoHouse_NoHouse => (first | rfl | k_is)); (case p_NoHouse_NoKey => (first | rfl | k_is)); (case p_NoHouse_NoKind => (first | rfl | k_is)); (case p_NoHouse_NoPlan => (first | rfl | k_is)); (case p_NoHouse_Past => (first | rfl | k_is)); (case p_NoHouse_Taken => (first | rfl | k_is)); (case p_NoHouse_TooMany => (first | rfl | k_is)); (case p_NoHouse_TooMuch => (first | rfl | k_is)); (case p_NoKey_BadRow => (first | rfl | k_is)); (case p_NoKey_HallError => (first | rfl | k_is)); (case p_NoKey_InUse => (first | rfl | k_is)); (case p_NoKey_NoGang => (first | rfl | k_is)); (case p_NoKey_NoGuild => (first | rfl | k_is)); (case p_NoKey_NoHouse => (first | rfl | k_is)); (case p_NoKey_NoKey => (first | rfl | k_is)); (case p_NoKey_NoKind => (first | rfl | k_is)); (case p_NoKey_NoPlan => (first | rfl | k_is)); (case p_NoKey_Past => (first | rfl | k_is)); (case p_NoKey_Taken => (first | rfl | k_is)); (case p_NoKey_TooMany => (first | rfl | k_is)); (case p_NoKey_TooMuch => (first | rfl | k_is)); (case p_NoKind_BadRow => (first | rfl | k_is)); (case p_NoKind_HallError => (first | rfl | k_is)); (case p_NoKind_InUse => (first | rfl | k_is)); (case p_NoKind_NoGang => (first | rfl | k_is)); (case p_NoKind_NoGuild => (first | rfl | k_is)); (case p_NoKind_NoHouse => (first | rfl | k_is)); (case p_NoKind_NoKey => (first | rfl | k_is)); (case p_NoKind_NoKind => (first | rfl | k_is)); (case p_NoKind_NoPlan => (first | rfl | k_is)); (case p_NoKind_Past => (first | rfl | k_is)); (case p_NoKind_Taken => (first | rfl | k_is)); (case p_NoKind_TooMany => (first | rfl | k_is)); (case p_NoKind_TooMuch => (first | rfl | k_is)); (case p_NoPlan_BadRow => (first | rfl | k_is)); (case p_NoPlan_HallError => (first | rfl | k_is)); (case p_NoPlan_InUse => (first | rfl | k_is)); (case p_NoPlan_NoGang => (first | rfl | k_is)); (case p_NoPlan_NoGuild => (first | rfl | k_is)); (case p_NoPlan_NoHouse => (first | rfl | k_is)); (case p_NoPlan_NoKey => (first | rfl | k_is)); (case p_NoPlan_NoKind => (first | rfl | k_is)); (case p_NoPlan_NoPlan => (first | rfl | k_is)); (case p_NoPlan_Past => (first | rfl | k_is)); (case p_NoPlan_Taken => (first | rfl | k_is)); (case p_NoPlan_TooMany => (first | rfl | k_is)); (case p_NoPlan_TooMuch => (first | rfl | k_is)); (case p_Past_BadRow => (first | rfl | k_is)); (case p_Past_HallError => (first | rfl | k_is)); (case p_Past_InUse => (first | rfl | k_is)); (case p_Past_NoGang => (first | rfl | k_is)); (case p_Past_NoGuild => (first | rfl | k_is)); (case p_Past_NoHouse => (first | rfl | k_is)); (case p_Past_NoKey => (first | rfl | k_is)); (case p_Past_NoKind => (first | rfl | k_is)); (case p_Past_NoPlan => (first | rfl | k_is)); (case p_Past_Past => (first | rfl | k_is)); (case p_Past_Taken => (first | rfl | k_is)); (case p_Past_TooMany => (first | rfl | k_is)); (case p_Past_TooMuch => (first | rfl | k_is)); (case p_Taken_BadRow => (first | rfl | k_is)); (case p_Taken_HallError => (first | rfl | k_is)); (case p_Taken_InUse => (first | rfl | k_is)); (case p_Taken_NoGang => (first | rfl | k_is)); (case p_Taken_NoGuild => (first | rfl | k_is)); (case p_Taken_NoHouse => (first | rfl | k_is)); (case p_Taken_NoKey => (first | rfl | k_is)); (case p_Taken_NoKind => (first | rfl | k_is)); (case p_Taken_NoPlan => (first | rfl | k_is)); (case p_Taken_Past => (first | rfl | k_is)); (case p_Taken_Taken => (first | rfl | k_is)); (case p_Taken_TooMany => (first | rfl | k_is)); (case p_Taken_TooMuch => (first | rfl | k_is)); (case p_TooMany_BadRow => (first | rfl | k_is)); (case p_TooMany_HallError => (first | rfl | k_is)); (case p_TooMany_InUse => (first | rfl | k_is)); (case p_TooMany_NoGang => (first | rfl | k_is)); (case p_TooMany_NoGuild => (first | rfl | k_is)); (case p_TooMany_NoHouse => (first | rfl | k_is)); (case p_TooMany_NoKey => (first | rfl | k_is)); (case p_TooMany_NoKind => (first | rfl | k_is)); (case p_TooMany_NoPlan => (first | rfl | k_is)); (case p_TooMany_Past => (first | rfl | k_is)); (case p_TooMany_Taken => (first | rfl | k_is)); (case p_TooMany_TooMany => (first | rfl | k_is)); (case p_TooMany_TooMuch => (first | rfl | k_is)); (case p_TooMuch_BadRow => (first | rfl | k_is)); (case p_TooMuch_HallError => (first | rfl | k_is)); (case p_TooMuch_InUse => (first | rfl | k_is)); (case p_TooMuch_NoGang => (first | rfl | k_is)); (case p_TooMuch_NoGuild => (first | rfl | k_is)); (case p_TooMuch_NoHouse => (first | rfl | k_is)); (case p_TooMuch_NoKey => (first | rfl | k_is)); (case p_TooMuch_NoKind => (first | rfl | k_is)); (case p_TooMuch_NoPlan => (first | rfl | k_is)); (case p_TooMuch_Past => (first | rfl | k_is)); (case p_TooMuch_Taken => (first | rfl | k_is)); (case p_TooMuch_TooMany => (first | rfl | k_is)); (case p_TooMuch_TooMuch => (first | rfl | k_is)); (case xl_TooMuch => k_is); (case xr_TooMuch => (first | rfl | decide +kernel | k_is)); (case xs_TooMuch => k_is); (case xi_TooMuch => k_is); (case xt_TooMuch => k_is); (case lI_TooMuch => k_is); (case cI_TooMuch => k_is); (case kI_TooMuch => k_is); (case hsp => k_is); (case hrd => k_is); (case hfc => k_is)
#print axioms PySem.Challenge.cw_clusterhall_k13_whole_book_walked_holds
