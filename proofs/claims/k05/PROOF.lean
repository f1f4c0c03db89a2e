import PyProof.Rows.All
import Wide.All
import OpenK.AllK
import Wide.FinOn
import KE.KExcIs
import KE.SortKeyHeap
import KE.SortData
import KE.DataMinMax
import HandS.ForMost
import HandS.ForExc
import HandS.Zip
import HandS.TupAny
import HandS.Codes
import HandS.IsInst
import HandS.Walk
import HandS.Wide
import HandS.TupMul
import HandS.CallSlots
import HandS.ExcInit
import HandS.ExcValue
import HandS.TryOnly
import HandS.SetKeys
import HandS.Rev
import HandS.Conv
import HandS.NoneIn
import HandS.Style
import HandS.Finally
import HandS.BoundDict
import HandS.Hot
import HandS.More
import HandS.Small
import HandS.RaiseOp
import HandS.RaiseFrom
import HandS.ExcValueHot
import HandS.WideBits
import HandS.HotCalls
import HandS.DictComp
import HandS.ForDict
import HandS.ExcIs
import HandS.ExcOwn
import HandS.TryElse
import HandS.TryMany
import HandS.RaiseMore
import HandS.SuiteRaise
import HandS.StrMore
import HandS.Strs
import HandS.StrSplit
import HandS.AnyAll
import HandS.ListItems
import HandS.SetFor
import HandS.Set
import HandS.TupSets
import HandS.SortInts
import HandS.SortRule
import HandS.SortOrd
import HandS.SortKw
import HandS.Lambda
import HandS.DictEq
import HandS.Deep
import KE.GoesNew
import KE.GoesMore
import KE.GoesEnum
import PyProof.ExcBaseAll.ValueError
import KE.KDictPairs
import PyProof.EnumMake
import HandS.Exc
import KE.DataFind
import HandS.DeepEq
import PyProof.NeKinds
import HandS.TupLe
import PyProof.MinMaxWalk
import PySem.Challenge.RW_clusterhall_k05_refusals
set_option Elab.async false
set_option linter.all false
set_option maxRecDepth 100000
set_option maxHeartbeats 4000000
namespace Nu
open PySem PySem.Spec L2
open PyProof.Rows hiding St
inductive Exn where
  | HallError | Taken | NoKey | TooMuch | NoHouse | NoGang | NoGuild | NoKind | InUse | TooMany | NoPlan | Past | BadRow
  deriving DecidableEq
def Exn.name : Exn → Str
  | .HallError => "HallError" | .Taken => "Taken" | .NoKey => "NoKey" | .TooMuch => "TooMuch" | .NoHouse => "NoHouse" | .NoGang => "NoGang" | .NoGuild => "NoGuild"
  | .NoKind => "NoKind" | .InUse => "InUse" | .TooMany => "TooMany" | .NoPlan => "NoPlan" | .Past => "Past" | .BadRow => "BadRow"
inductive Fld where
  | room | written | yard | kind | state | book | houses | booked | due | borne | own_names | lent_names | gang | is_owed | is_own | all_lent | estate | begin_ | told | begun | served
  | wares | grace | now | dues | kinds | known | told_many | begun_many | leaving | barred | happened | history | time | counts | row
  deriving DecidableEq
def Fld.name : Fld → Str
  | .room => "room" | .written => "written" | .yard => "yard" | .kind => "kind" | .state => "state" | .book => "book" | .houses => "houses" | .booked => "booked" | .due => "due" | .borne => "borne"
  | .own_names => "own_names" | .lent_names => "lent_names" | .gang => "gang" | .is_owed => "is_owed" | .is_own => "is_own" | .all_lent => "all_lent" | .estate => "estate" | .begin_ => "begin" | .told => "told"
  | .begun => "begun" | .served => "served" | .wares => "wares" | .grace => "grace" | .now => "now" | .dues => "dues" | .kinds => "kinds" | .known => "known" | .told_many => "told_many" | .begun_many => "begun_many"
  | .leaving => "leaving" | .barred => "barred" | .happened => "happened" | .history => "history" | .time => "time" | .counts => "counts" | .row => "row"
theorem Fld.inj : ∀ {f g : Fld}, f.name = g.name → f = g := by
  intro f g h
  cases f <;> cases g <;> first | rfl | exact absurd h (by decide +kernel)
def Exn.fs : Exn → List Fld
  | .TooMuch => [.time] | .NoPlan => [.counts] | .BadRow => [.row] | _ => []
abbrev Exn.flds (c : Exn) : List Str := c.fs.map Fld.name
inductive Cls where
  | Book | House | Estate | Share | Taker | Trial | Standing | Hall
  deriving DecidableEq
def Cls.name : Cls → Str
  | .Book => "Book" | .House => "House" | .Estate => "Estate" | .Share => "Share" | .Taker => "Taker" | .Trial => "Trial" | .Standing => "Standing" | .Hall => "Hall"
def Cls.fs : Cls → List Fld
  | .Book => [.room, .written]
  | .House => [.yard, .kind, .state, .book]
  | .Estate => [.houses, .booked]
  | .Share => [.due, .borne, .own_names, .lent_names]
  | .Taker => [.gang, .is_owed, .is_own, .all_lent]
  | .Trial => [.estate, .gang, .begin_]
  | .Standing => [.gang, .told, .begun, .state, .served]
  | .Hall => [.wares, .grace, .now, .estate, .dues, .kinds, .known, .told_many, .begun_many, .leaving, .barred, .happened, .history]
abbrev Cls.flds (c : Cls) : List Str := c.fs.map Fld.name
/-- the class of that name stands at C -/
def clsAt (K : PySem.W.Frag) (x : Str) (C : Addr) : Prop := PySem.W.nsIn K mainGlobals x = some (some (.ref C))
theorem clsAt.inj {K : PySem.W.Frag} {x : Str} {C C' : Addr} (h : clsAt K x C) (k : clsAt K x C') : C = C' := by
  have e := h.symm.trans k
  cases e; rfl
inductive D where
  | non
  | bl (b : Bool)
  | int (i : Int)
  | str (s : Str)
  | lst (xs : List D)
  | tup (xs : List D)
  | fls (xs : List D)
  | ptp (xs : List D)
  | exn (c : Exn) (xs : List D)
  | raw (v : V)
inductive Cell where
  | lst (xs : List D)
  | dct (kvs : List (Key × D))
  | lck (o : Obj) (vs : List (Key × V)) (kvs : List (Key × D))
  | ins (c : Cls) (xs : List D)
/-- an exception object of the class cls, its dict at d, that isn't in flight -/
def ExV (a : Addr) (cls : Value) (d : Option Addr) : HO := .ext fun h => ∃ (oe : Obj) (vs : Array Value), h.get? a = some oe ∧ Zc cls d oe ∧ oe.data = .fields vs
theorem exV_ok {P : Program} {w : World} {H : Hp} {h : Heap} {a : Addr} {cls : Value} {d : Option Addr} {oe : Obj} {vs : Array Value} (e : h.get? a = some oe) (z : Zc cls d oe) (hd : oe.data = .fields vs) : ObjOk P w H h a (ExV a cls d) :=
  ⟨⟨oe, vs, e, z, hd⟩, ⟨oe, e⟩, fun _ _ ⟨o, v, q, r⟩ k => ⟨o, v, k o q, r⟩⟩
theorem exV_at {P : Program} {w : World} {H : Hp} {h : Heap} {a : Addr} {cls : Value} {d : Option Addr} (hok : HOk P w H h) (he : H a = some (ExV a cls d)) : ∃ (oe : Obj) (vs : Array Value), h.get? a = some oe ∧ Zc cls d oe ∧ oe.data = .fields vs := by
  have x : ObjOk P w H h a (.ext fun h => ∃ (oe : Obj) (vs : Array Value), h.get? a = some oe ∧ Zc cls d oe ∧ oe.data = .fields vs) := hok a _ he
  exact x.1
abbrev MS := Addr → Option Cell
def mset (m : MS) (p : Addr) (c : Cell) : MS := fun a => if a = p then some c else m a
theorem mset_same {m : MS} {p : Addr} {c : Cell} : mset m p c p = some c := by unfold mset; rw [if_pos rfl]
theorem mset_ne {m : MS} {p q : Addr} {c : Cell} (h : q ≠ p) : mset m p c q = m q := by unfold mset; rw [if_neg h]
theorem mset_mset {m : MS} {p : Addr} {c c' : Cell} : mset (mset m p c) p c' = mset m p c' := by
  funext a; unfold mset; split <;> rfl
theorem mset_comm {m : MS} {p q : Addr} {c c' : Cell} (h : p ≠ q) : mset (mset m p c) q c' = mset (mset m q c') p c := by
  funext a
  unfold mset
  by_cases h1 : a = q
  · rw [if_pos h1]
    by_cases h2 : a = p
    · exact absurd (h2.symm.trans h1) h
    · rw [if_neg h2, if_pos h1]
  · rw [if_neg h1]
    by_cases h2 : a = p
    · rw [if_pos h2, if_pos h2]
    · rw [if_neg h2, if_neg h2, if_neg h1]
theorem mset_self {m : MS} {p : Addr} {c : Cell} (h : m p = some c) : mset m p c = m := by
  funext a; unfold mset; split
  · next e => rw [e, h]
  · rfl
def fz (m : MS) (H : Hp) : Hp := fun a => match m a with
  | none => H a
  | some _ => none
theorem fz_of {m : MS} {H : Hp} {a : Addr} {o : HO} (h : m a = none) (e : H a = some o) : fz m H a = some o := by
  unfold fz; rw [h]; exact e
theorem of_fz {m : MS} {H : Hp} {a : Addr} {o : HO} (h : fz m H a = some o) : m a = none ∧ H a = some o := by
  unfold fz at h
  cases e : m a with
  | none => rw [e] at h; exact ⟨rfl, h⟩
  | some c => rw [e] at h; cases h
/-- a list that stands, read only: tracked, locked, or of the written part and of plain shape -/
def LsA (K : PySem.W.Frag) (H : Hp) (a : Addr) (xs : List V) : Prop := Rd H a (.lst xs) ∨ ∃ (its : Array Value) (n : Nat), K.lookup a = some { cls := .type "list", data := .seq its n } ∧ its.size ≤ sizeLine ∧ Vals xs its.toList
theorem LsA.sq {K : PySem.W.Frag} {H : Hp} {a : Addr} {xs : List V} (h : LsA K H a xs) : SqL K H a xs := by
  rcases h with h | ⟨its, n, h1, h2, h3⟩
  · exact .inl h
  · exact .inr ⟨_, its, n, h1, rfl, rfl, rfl, h2, h3⟩
theorem LsA.up {K : PySem.W.Frag} {H H' : Hp} {a : Addr} {xs : List V} (e : Same H H') (h : LsA K H a xs) : LsA K H' a xs := by
  rcases h with (h | ⟨o, h⟩) | h
  · exact .inl (.inl (e _ _ h))
  · exact .inl (.inr ⟨o, e _ _ h⟩)
  · exact .inr h
section
variable {K : PySem.W.Frag} {F F' F'' : Hp}
mutual
inductive Rp (K : PySem.W.Frag) (F : Hp) : V → D → Prop
  | non : Rp K F .non .non
  | bl (b : Bool) : Rp K F (.bl b) (.bl b)
  | int (i : Int) : Rp K F (.int i) (.int i)
  | str (x : Str) : Rp K F (.str x) (.str x)
  | lst {a : Addr} {xs : List V} {ds : List D} : F a = some (.lst xs) → Rps K F xs ds → Rp K F (.ref a) (.lst ds)
  | fls {a : Addr} {xs : List V} {ds : List D} : LsA K F a xs → Rps K F xs ds → Rp K F (.ref a) (.fls ds)
  | ptp {a : Addr} {o : Obj} {xs : List V} {ds : List D} : F a = some (.frz o (.tup xs)) → o.dict = none → Rps K F xs ds → Rp K F (.ref a) (.ptp ds)
  | tup {a : Addr} {xs : List V} {ds : List D} : SqT K F a xs → Rps K F xs ds → Rp K F (.ref a) (.tup ds)
  | exn0 {a C : Addr} {c : Exn} : c.flds = [] → clsAt K c.name C → F a = some (ExV a (.ref C) none) → Rp K F (.ref a) (.exn c [])
  | exn1 {a C q : Addr} {c : Exn} {vs : List V} {ds : List D} : c.flds.length = vs.length → vs ≠ [] → clsAt K c.name C → F a = some (ExV a (.ref C) (some q)) → F q = some (.xd (c.flds.zip vs)) → Rps K F vs ds → Rp K F (.ref a) (.exn c ds)
  | raw (v : V) : Rp K F v (.raw v)
inductive Rps (K : PySem.W.Frag) (F : Hp) : List V → List D → Prop
  | nil : Rps K F [] []
  | cons {v : V} {vs : List V} {d : D} {ds : List D} : Rp K F v d → Rps K F vs ds → Rps K F (v :: vs) (d :: ds)
end
theorem Same.seqT {H H' : Hp} {a : Addr} {xs : List V} (e : Same H H') (h : SqT K H a xs) : SqT K H' a xs := by
  rcases h with (h | ⟨o, h⟩) | h
  · exact .inl (.inl (e _ _ h))
  · exact .inl (.inr ⟨o, e _ _ h⟩)
  · exact .inr h
mutual
theorem Rp.up (s : Same F F') : ∀ {v : V} (d : D), Rp K F v d → Rp K F' v d
  | _, .non, h => by cases h; exact .non
  | _, .bl b, h => by cases h; exact .bl b
  | _, .int i, h => by cases h; exact .int i
  | _, .str x, h => by cases h; exact .str x
  | _, .lst ds, h => by
    cases h with
    | lst h1 h2 => exact .lst (s _ _ h1) (Rps.up s ds h2)
  | _, .fls ds, h => by
    cases h with
    | fls h1 h2 => exact .fls (h1.up s) (Rps.up s ds h2)
  | _, .ptp ds, h => by
    cases h with
    | ptp h1 h0 h2 => exact .ptp (s _ _ h1) h0 (Rps.up s ds h2)
  | _, .tup ds, h => by
    cases h with
    | tup h1 h2 => exact .tup (Same.seqT s h1) (Rps.up s ds h2)
  | _, .exn c ds, h => by
    cases h with
    | exn0 h1 h2 h3 => exact .exn0 h1 h2 (s _ _ h3)
    | exn1 h1 h0 h2 h3 h4 h5 => exact .exn1 h1 h0 h2 (s _ _ h3) (s _ _ h4) (Rps.up s ds h5)
  | _, .raw v, h => by cases h; exact .raw _
theorem Rps.up (s : Same F F') : ∀ {vs : List V} (ds : List D), Rps K F vs ds → Rps K F' vs ds
  | _, [], h => by cases h; exact .nil
  | _, d :: ds, h => by
    cases h with
    | cons h1 h2 => exact .cons (Rp.up s d h1) (Rps.up s ds h2)
end
theorem Rps.length : ∀ {vs : List V} {ds : List D}, Rps K F vs ds → vs.length = ds.length
  | _, [], h => by cases h; rfl
  | _, d :: ds, h => by
    cases h with
    | cons h1 h2 => rw [List.length_cons, List.length_cons, Rps.length h2]
theorem Rps.get {vs : List V} {ds : List D} {i : Nat} {d : D} (h : Rps K F vs ds) (e : ds[i]? = some d) : ∃ v, vs[i]? = some v ∧ Rp K F v d := by
  induction ds generalizing vs i with
  | nil => simp at e
  | cons d' ds ih =>
    cases h with
    | @cons v' vs' _ _ h1 h2 =>
      cases i with
      | zero =>
        have e' : d' = d := by simpa using e
        rw [← e']
        exact ⟨v', rfl, h1⟩
      | succ i =>
        obtain ⟨v, a, b⟩ := ih (i := i) h2 (by simpa using e)
        exact ⟨v, by simpa using a, b⟩
theorem Rps.append : ∀ {vs ws : List V} {ds es : List D}, Rps K F vs ds → Rps K F ws es → Rps K F (vs ++ ws) (ds ++ es)
  | _, _, [], _, h, h' => by cases h; exact h'
  | _, _, d :: ds, _, h, h' => by
    cases h with
    | cons h1 h2 => exact .cons h1 (Rps.append h2 h')
theorem Rps.one {v : V} {d : D} (h : Rp K F v d) : Rps K F [v] [d] := .cons h .nil
theorem Rps.set : ∀ {vs : List V} {ds : List D} {v : V} {d : D} (i : Nat), Rp K F v d → Rps K F vs ds → Rps K F (vs.set i v) (ds.set i d)
  | _, [], _, _, _, _, h => by cases h; exact .nil
  | _, e :: ds, _, _, 0, r, h => by
    cases h with
    | cons h1 h2 => exact .cons r h2
  | _, e :: ds, _, _, i + 1, r, h => by
    cases h with
    | cons h1 h2 => exact .cons h1 (Rps.set i r h2)
theorem Rps.take : ∀ {vs : List V} {ds : List D} (n : Nat), Rps K F vs ds → Rps K F (vs.take n) (ds.take n)
  | _, [], n, h => by cases h; simp; exact .nil
  | _, e :: ds, 0, h => by simp; exact .nil
  | _, e :: ds, n + 1, h => by
    cases h with
    | cons h1 h2 => exact .cons h1 (Rps.take n h2)
theorem Rps.drop : ∀ {vs : List V} {ds : List D} (n : Nat), Rps K F vs ds → Rps K F (vs.drop n) (ds.drop n)
  | _, [], n, h => by cases h; simp; exact .nil
  | _, e :: ds, 0, h => h
  | _, e :: ds, n + 1, h => by
    cases h with
    | cons h1 h2 => exact Rps.drop n h2
theorem Rps.reverse {vs : List V} {ds : List D} (h : Rps K F vs ds) : Rps K F vs.reverse ds.reverse := by
  induction vs generalizing ds with
  | nil => cases h; exact .nil
  | cons v vs ih =>
    cases h with
    | cons h1 h2 =>
      rw [List.reverse_cons, List.reverse_cons]
      exact (ih h2).append (.one h1)
theorem Rps.ints {vs : List V} {is : List Int} (h : Rps K F vs (is.map D.int)) : vs = is.map V.int := by
  induction is generalizing vs with
  | nil => cases h; rfl
  | cons i is ih =>
    cases h with
    | cons h1 h2 => cases h1; rw [ih h2]; rfl
theorem Rps.of_ints : ∀ (is : List Int), Rps K F (is.map V.int) (is.map D.int)
  | [] => .nil
  | i :: is => .cons (.int i) (Rps.of_ints is)
theorem Rps.strs {vs : List V} {is : List Str} (h : Rps K F vs (is.map D.str)) : vs = is.map V.str := by
  induction is generalizing vs with
  | nil => cases h; rfl
  | cons i is ih =>
    cases h with
    | cons h1 h2 => cases h1; rw [ih h2]; rfl
theorem Rps.bls {vs : List V} {is : List Bool} (h : Rps K F vs (is.map D.bl)) : vs = is.map V.bl := by
  induction is generalizing vs with
  | nil => cases h; rfl
  | cons i is ih =>
    cases h with
    | cons h1 h2 => cases h1; rw [ih h2]; rfl
end
abbrev RKs (K : PySem.W.Frag) (F : Hp) : List (Key × V) → List (Key × D) → Prop := Paired fun (p : Key × V) (q : Key × D) => p.1 = q.1 ∧ Rp K F p.2 q.2
def CellAt (K : PySem.W.Frag) (F H : Hp) (p : Addr) : Cell → Prop
  | .lst ds => ∃ vs, H p = some (.lst vs) ∧ Rps K F vs ds
  | .dct kds => ∃ kvs, H p = some (.dK kvs) ∧ RKs K F kvs kds
  | .lck o vs kds => H p = some (.frz o (.dK vs)) ∧ RKs K F vs kds
  | .ins c ds => ∃ C dx vs, clsAt K c.name C ∧ H p = some (.ins C dx ((c.flds.take ds.length).zip vs)) ∧ ds.length ≤ c.flds.length ∧ Rps K F vs ds
/-- the store m and the data's heap F stand in H -/
structure Std (K : PySem.W.Frag) (m : MS) (H F : Hp) : Prop where
  sub : Same F (fz m H)
  cells : ∀ p c, m p = some c → CellAt K F H p c
/-- from (m, H, F) to (m', H', F') -/
structure Go (K : PySem.W.Frag) (m : MS) (H F : Hp) (m' : MS) (H' F' : Hp) : Prop where
  same : Same (fz m H) (fz m' H')
  grow : Same F F'
  fresh : ∀ a, F' a ≠ none → F a ≠ none ∨ H a = none ∨ m a ≠ none
  kept : ∀ a, H a ≠ none → H' a ≠ none
  std : Std K m' H' F'
abbrev Env1 := List (Option D)
structure StR (K : PySem.W.Frag) (F0 : Hp) (σ : St) (H F : Hp) (ρ : Env1) (m : MS) : Prop where
  std : Std K m H F
  env : ∀ (i : Nat) (d : D), ρ[i]? = some (some d) → ∃ v, σ[i]? = some (some v) ∧ Rp K F v d
  old : Same F0 F
section
variable {K : PySem.W.Frag} {F F' F'' F0 : Hp} {H H' H'' : Hp} {m m' m'' : MS} {σ : St} {ρ : Env1}
theorem Std.free (s : Std K m H F) {p : Addr} (h : H p = none) : m p = none := by
  cases e : m p with
  | none => rfl
  | some c =>
    have q := s.cells p c e
    cases c with
    | lst ds => obtain ⟨vs, z, _⟩ := q; rw [h] at z; cases z
    | dct ds => obtain ⟨vs, z, _⟩ := q; rw [h] at z; cases z
    | lck lo lv ds => obtain ⟨z, _⟩ := q; rw [h] at z; cases z
    | ins C fs => obtain ⟨_, dx, vs, _, z, _⟩ := q; rw [h] at z; cases z
theorem Std.freeF (s : Std K m H F) {p : Addr} (h : H p = none) : F p = none := by
  cases e : F p with
  | none => rfl
  | some o =>
    have q := (of_fz (s.sub p o e)).2
    rw [h] at q; cases q
theorem Std.at (s : Std K m H F) {p : Addr} {o : HO} (h : F p = some o) : H p = some o := (of_fz (s.sub p o h)).2
theorem Std.toH (s : Std K m H F) : Same F H := fun p o h => s.at h
theorem Std.off (s : Std K m H F) {p : Addr} {o : HO} (h : F p = some o) : m p = none := (of_fz (s.sub p o h)).1
theorem Std.offF (s : Std K m H F) {p : Addr} {c : Cell} (h : m p = some c) : F p = none := by
  cases e : F p with
  | none => rfl
  | some o => have := s.off e; rw [h] at this; cases this
theorem paired_imp {α β : Type} {P Q : α → β → Prop} (f : ∀ a b, P a b → Q a b) : ∀ {l : List α} {r : List β}, Paired P l r → Paired Q l r
  | _, _, .nil => .nil
  | _, _, .cons h t => .cons (f _ _ h) (paired_imp f t)
theorem RKs.up (s : Same F F') {l : List (Key × V)} {r : List (Key × D)} (h : RKs K F l r) : RKs K F' l r := paired_imp (fun _ _ q => ⟨q.1, Rp.up s _ q.2⟩) h
theorem CellAt.up {p : Addr} {c : Cell} (s : Same F F') (e : H' p = H p) (h : CellAt K F H p c) : CellAt K F' H' p c := by
  cases c with
  | lst ds => obtain ⟨vs, z, r⟩ := h; exact ⟨vs, e.trans z, Rps.up s _ r⟩
  | dct ds => obtain ⟨vs, z, r⟩ := h; exact ⟨vs, e.trans z, RKs.up s r⟩
  | lck lo lv ds => obtain ⟨z, r⟩ := h; exact ⟨e.trans z, RKs.up s r⟩
  | ins c ds => obtain ⟨C, dx, vs, k, z, l, r⟩ := h; exact ⟨C, dx, vs, k, e.trans z, l, Rps.up s _ r⟩
theorem Go.refl (s : Std K m H F) : Go K m H F m H F := ⟨Same.refl _, Same.refl _, fun _ h => .inl h, fun _ h => h, s⟩
theorem Go.trans (g : Go K m H F m' H' F') (k : Go K m' H' F' m'' H'' F'') : Go K m H F m'' H'' F'' :=
  ⟨g.same.trans k.same, g.grow.trans k.grow, fun a h => by
    rcases k.fresh a h with q | q | q
    · exact g.fresh a q
    · refine .inr (.inl ?_)
      cases e : H a with
      | none => rfl
      | some o => exact absurd q (g.kept a (by rw [e]; exact fun z => nomatch z))
    · refine .inr ?_
      cases e : H a with
      | none => exact .inl rfl
      | some o =>
        refine .inr fun hm => q ?_
        exact (of_fz (g.same a o (fz_of hm e))).1, fun a h => k.kept a (g.kept a h), k.std⟩
theorem StR.go (s : StR K F0 σ H F ρ m) (g : Go K m H F m' H' F') : StR K F0 σ H' F' ρ m' :=
  ⟨g.std, fun i d e => let ⟨v, a, b⟩ := s.env i d e; ⟨v, a, Rp.up g.grow _ b⟩, s.old.trans g.grow⟩
/-- a new object that never changes -/
theorem Go.new (s : Std K m H F) {p : Addr} {o : HO} (h : H p = none) : Go K m H F m (upd H p o) (upd F p o) := by
  have hm := s.free h
  have hF := s.freeF h
  have g : Same F (upd F p o) := fun a u e => by rw [upd_ne (ne_of_none e hF)]; exact e
  refine ⟨fun a u e => ?_, g, fun a ha => ?_, fun a ha => ?_, ⟨fun a u e => ?_, fun q c e => ?_⟩⟩
  · obtain ⟨e1, e2⟩ := of_fz e
    exact fz_of e1 (by rw [upd_ne (ne_of_none e2 h)]; exact e2)
  · by_cases e : a = p
    · subst e; exact .inr (.inl h)
    · rw [upd_ne e] at ha; exact .inl ha
  · by_cases e : a = p
    · subst e; rw [upd_same]; exact fun z => nomatch z
    · rw [upd_ne e]; exact ha
  · by_cases e' : a = p
    · subst e'; rw [upd_same] at e; cases e; exact fz_of hm upd_same
    · rw [upd_ne e'] at e
      obtain ⟨e1, e2⟩ := of_fz (s.sub a u e)
      exact fz_of e1 (by rw [upd_ne e']; exact e2)
  · refine (s.cells q c e).up g ?_
    rw [upd_ne]
    rintro rfl
    rw [hm] at e; cases e
/-- a new object that no data leans on -/
theorem Go.junk (s : Std K m H F) {p : Addr} {o : HO} (h : H p = none) : Go K m H F m (upd H p o) F := by
  have hm := s.free h
  refine ⟨fun a u e => ?_, Same.refl _, fun a ha => .inl ha, fun a ha => ?_, ⟨fun a u e => ?_, fun q c e => ?_⟩⟩
  · obtain ⟨e1, e2⟩ := of_fz e
    exact fz_of e1 (by rw [upd_ne (ne_of_none e2 h)]; exact e2)
  · by_cases e : a = p
    · subst e; rw [upd_same]; exact fun z => nomatch z
    · rw [upd_ne e]; exact ha
  · obtain ⟨e1, e2⟩ := of_fz (s.sub a u e)
    exact fz_of e1 (by rw [upd_ne (ne_of_none e2 h)]; exact e2)
  · refine (s.cells q c e).up (Same.refl _) ?_
    rw [upd_ne]
    rintro rfl
    rw [hm] at e; cases e
theorem CellAt.upd_ {p q : Addr} {o : HO} {c : Cell} (h : CellAt K F H q c) (ne : q ≠ p) : CellAt K F (upd H p o) q c := h.up (Same.refl _) (upd_ne ne)
/-- a new cell -/
theorem Go.cell (s : Std K m H F) {p : Addr} {o : HO} {c : Cell} (h : H p = none) (hc : CellAt K F (upd H p o) p c) : Go K m H F (mset m p c) (upd H p o) F := by
  have hm := s.free h
  have hF := s.freeF h
  refine ⟨fun a u e => ?_, Same.refl _, fun a ha => .inl ha, fun a ha => ?_, ⟨fun a u e => ?_, fun q c' e => ?_⟩⟩
  · obtain ⟨e1, e2⟩ := of_fz e
    have ne := ne_of_none e2 h
    exact fz_of (by rw [mset_ne ne]; exact e1) (by rw [upd_ne ne]; exact e2)
  · by_cases e : a = p
    · subst e; rw [upd_same]; exact fun z => nomatch z
    · rw [upd_ne e]; exact ha
  · obtain ⟨e1, e2⟩ := of_fz (s.sub a u e)
    have ne := ne_of_none e2 h
    exact fz_of (by rw [mset_ne ne]; exact e1) (by rw [upd_ne ne]; exact e2)
  · by_cases ne : q = p
    · subst ne; rw [mset_same] at e; cases e; exact hc
    · rw [mset_ne ne] at e
      exact (s.cells q c' e).upd_ ne
/-- a cell changed -/
theorem Go.put (s : Std K m H F) {p : Addr} {o : HO} {c c' : Cell} (h : m p = some c) (hc : CellAt K F (upd H p o) p c') : Go K m H F (mset m p c') (upd H p o) F := by
  have hF := s.offF h
  refine ⟨fun a u e => ?_, Same.refl _, fun a ha => .inl ha, fun a ha => ?_, ⟨fun a u e => ?_, fun q c' e => ?_⟩⟩
  · obtain ⟨e1, e2⟩ := of_fz e
    have ne : a ≠ p := by rintro rfl; rw [h] at e1; cases e1
    exact fz_of (by rw [mset_ne ne]; exact e1) (by rw [upd_ne ne]; exact e2)
  · by_cases e : a = p
    · subst e; rw [upd_same]; exact fun z => nomatch z
    · rw [upd_ne e]; exact ha
  · obtain ⟨e1, e2⟩ := of_fz (s.sub a u e)
    have ne : a ≠ p := by rintro rfl; rw [h] at e1; cases e1
    exact fz_of (by rw [mset_ne ne]; exact e1) (by rw [upd_ne ne]; exact e2)
  · by_cases ne : q = p
    · subst ne; rw [mset_same] at e; cases e; exact hc
    · rw [mset_ne ne] at e
      exact (s.cells q _ e).upd_ ne
/-- fewer cells are asked for -/
def MLe (m' m : MS) : Prop := ∀ p c, m' p = some c → m p = some c
theorem MLe.refl (m : MS) : MLe m m := fun _ _ h => h
theorem MLe.trans {a b c : MS} (h : MLe a b) (k : MLe b c) : MLe a c := fun p x e => k p x (h p x e)
theorem MLe.fresh {m' m : MS} {p : Addr} {c : Cell} (h : MLe m' m) (hp : m' p = none) : MLe m' (mset m p c) := fun q x e => by
  rw [mset_ne]
  · exact h q x e
  · rintro rfl; rw [hp] at e; cases e
theorem MLe.put {m' m : MS} {p : Addr} {c : Cell} (h : MLe m' m) : MLe (mset m' p c) (mset m p c) := fun q x e => by
  by_cases ne : q = p
  · subst ne; rw [mset_same] at e; rw [mset_same]; exact e
  · rw [mset_ne ne] at e; rw [mset_ne ne]; exact h q x e
theorem Go.less (s : Std K m H F) (h : MLe m' m) : Go K m H F m' H F := by
  have hn : ∀ a, m a = none → m' a = none := fun a e => by
    cases e' : m' a with
    | none => rfl
    | some c => have := h a c e'; rw [e] at this; cases this
  refine ⟨fun a u e => ?_, Same.refl _, fun a ha => .inl ha, fun a ha => ha, ⟨fun a u e => ?_, fun q c' e => s.cells q c' (h q c' e)⟩⟩
  · obtain ⟨e1, e2⟩ := of_fz e
    exact fz_of (hn a e1) e2
  · obtain ⟨e1, e2⟩ := of_fz (s.sub a u e)
    exact fz_of (hn a e1) e2
end
end Nu
namespace Nu
open PySem PySem.Spec L2
open PyProof.Rows hiding St
abbrev NX := D → MS → Prop
abbrev EX := Exn → List D → Env1 → MS → Prop
abbrev EZ := Exn → List D → MS → Prop
abbrev ASp := List D → MS → NX → EZ → Prop
abbrev BS := List D → MS → NX → Prop
abbrev IS := List D → MS → (List D → (MS → Prop) → MS → Prop) → Prop
def EX0 : EX := fun _ _ _ _ => False
def EZ0 : EZ := fun _ _ _ => False
inductive Cmp where
  | lt | le | gt | ge
def Cmp.b : Cmp → Int → Int → Bool
  | .lt, i, j => decide (i < j)
  | .le, i, j => decide (i ≤ j)
  | .gt, i, j => decide (j < i)
  | .ge, i, j => decide (j ≤ i)
inductive DW where
  | keys | vals | items
def kD : Key → D
  | .inl k => .int k
  | .inr x => .str x
def valD (kds : List (Key × D)) (k : Key) : Option D := (kds.find? fun kv => decide (kv.1 = k)).map (·.2)
def putD (kds : List (Key × D)) (k : Key) (d : D) : List (Key × D) :=
  if kds.any (fun kv => decide (kv.1 = k)) = true then kds.map (fun kv => if kv.1 = k then (kv.1, d) else kv) else kds ++ [(k, d)]
def dropD (kds : List (Key × D)) (k : Key) : List (Key × D) := kds.filter fun kv => !decide (kv.1 = k)
def DW.its : DW → List (Key × D) → List D
  | .keys, kvs => kvs.map fun kv => kD kv.1
  | .vals, kvs => kvs.map fun kv => kv.2
  | .items, kvs => kvs.map fun kv => .tup [kD kv.1, kv.2]
def keyOf : D → Option Key
  | .int i => some (.inl i)
  | .str s => some (.inr s)
  | _ => none
def getF : List Fld → List D → Fld → Option D
  | f :: fs, d :: ds, g => if f = g then some d else getF fs ds g
  | _, _, _ => none
def setF : List Fld → List D → Fld → D → Option (List D)
  | f :: fs, d :: ds, g, v => if f = g then some (v :: ds) else match setF fs ds g v with
    | some ds' => some (d :: ds')
    | none => none
  | f :: _, [], g, v => if f = g then some [v] else none
  | [], _, _, _ => none
mutual
inductive G where
  | name (i : Nat)
  | tup (gs : Gs)
inductive Gs where
  | nil
  | cons (g : G) (gs : Gs)
end
mutual
def G.vars : G → List Nat
  | .name i => [i]
  | .tup gs => gs.vars
def Gs.vars : Gs → List Nat
  | .nil => []
  | .cons g gs => g.vars ++ gs.vars
end
def setR : Env1 → Nat → D → Env1
  | [], _, _ => []
  | _ :: ρ, 0, d => some d :: ρ
  | x :: ρ, n + 1, d => x :: setR ρ n d
def getR : Env1 → Nat → Option D
  | [], _ => none
  | x :: _, 0 => x
  | _ :: ρ, n + 1 => getR ρ n
def clrR : Env1 → Nat → Env1
  | [], _ => []
  | _ :: ρ, 0 => none :: ρ
  | x :: ρ, n + 1 => x :: clrR ρ n
mutual
def bindG : G → D → Env1 → Option Env1
  | .name i, d, ρ => some (setR ρ i d)
  | .tup gs, .tup ds, ρ => bindGs gs ds ρ
  | .tup _, _, _ => none
def bindGs : Gs → List D → Env1 → Option Env1
  | .nil, [], ρ => some ρ
  | .cons g gs, d :: ds, ρ => match bindG g d ρ with
    | some ρ' => bindGs gs ds ρ'
    | none => none
  | _, _, _ => none
end
mutual
inductive T where
  | var (i : Nat)
  | cst (d : D)
  | bop (s : BS) (ts : Ts)
  | mth (k : D → MS → (BS → Prop) → Prop) (o : T) (ts : Ts)
  | call (a : ASp) (ts : Ts)
  | meth (c : Cls) (a : ASp) (o : T) (ts : Ts)
  | make (c : Cls) (a : ASp) (ts : Ts)
  | and2 (a b : T)
  | or2 (a b : T)
  | ite (c a b : T)
  | chain (o1 o2 : Cmp) (a b c : T)
  | lc (g : G) (s : IS) (ts : Ts) (ifs : Ts) (elt : T)
  | lock (t : T)
inductive Ts where
  | nil
  | cons (t : T) (ts : Ts)
end
mutual
inductive S1 where
  | set (i : Nat) (t : T)
  | unp (gs : Gs) (t : T)
  | par (i j : Nat) (a b : T)
  | aug (i : Nat) (s : BS) (t : T)
  | fset (f : Fld) (o t : T)
  | faug (f : Fld) (o t : T)
  | iset (o i t : T)
  | expr (t : T)
  | ret (t : T)
  | retn
  | pass
  | brk
  | cnt
  | raise (c : Exn) (ts : Ts)
  | iff (c : T) (a b : SS)
  | fo (g : G) (s : IS) (ts : Ts) (body : SS)
  | lock (s : S1)
  | whil (c : T) (body : SS)
  | tri (c : Exn) (i : Option Nat) (body hand : SS)
inductive SS where
  | nil
  | cons (s : S1) (ss : SS)
  | cut (s : S1) (ss : SS)
end
def wipeR (ρ : Env1) : List Nat → Env1
  | [] => ρ
  | i :: vs => wipeR (clrR ρ i) vs
/-- another view of the same: lists frozen, cells and slots forgotten -/
def VwS (ρ : Env1) (m : MS) (ρ' : Env1) (m' : MS) : Prop := ∀ K F0 σ H F, StR K F0 σ H F ρ m → ∃ F', Go K m H F m' H F' ∧ StR K F0 σ H F' ρ' m'
def VwD (d : D) (m : MS) (d' : D) (m' : MS) : Prop := ∀ K H F v, Std K m H F → Rp K F v d → ∃ F', Go K m H F m' H F' ∧ Rp K F' v d'
/-- a new list: as data, or as a cell -/
def NewL (ds : List D) (m : MS) (P : NX) : Prop := P (.lst ds) m ∨ ∀ p, m p = none → P (.raw (.ref p)) (mset m p (.lst ds))
mutual
def W : T → Env1 → MS → NX → EX → Prop
  | .var i, ρ, m, P, _ => match getR ρ i with
    | some d => P d m
    | none => False
  | .cst d, _, m, P, _ => P d m
  | .bop s ts, ρ, m, P, Z => Ws ts ρ m (fun ds m1 => s ds m1 P) Z
  | .mth k o ts, ρ, m, P, Z => W o ρ m (fun d m1 => k d m1 fun s => Ws ts ρ m1 (fun ds m2 => s (d :: ds) m2 P) Z) Z
  | .call a ts, ρ, m, P, Z => Ws ts ρ m (fun ds m1 => a ds m1 P fun c es m2 => Z c es ρ m2) Z
  | .meth c a o ts, ρ, m, P, Z => W o ρ m (fun d m1 => ∃ p xs, d = .raw (.ref p) ∧ m1 p = some (.ins c xs) ∧ Ws ts ρ m1 (fun ds m2 => a (d :: ds) m2 P fun c es m3 => Z c es ρ m3) Z) Z
  | .make c a ts, ρ, m, P, Z => Ws ts ρ m (fun ds m1 => ∀ p, m1 p = none → a (.raw (.ref p) :: ds) (mset m1 p (.ins c [])) (fun v m2 => v = .non ∧ P (.raw (.ref p)) m2) fun c es m3 => Z c es ρ m3) Z
  | .and2 a b, ρ, m, P, Z => W a ρ m (fun d m1 => ∃ k, d = .bl k ∧ ((∃ kb, (k = true → W b ρ m1 (fun d2 m2 => d2 = .bl kb ∧ m2 = m1) EX0) ∧ P (.bl (k && kb)) m1) ∨ ((k = true → W b ρ m1 P Z) ∧ (k = false → P (.bl false) m1)))) Z
  | .or2 a b, ρ, m, P, Z => W a ρ m (fun d m1 => ∃ k, d = .bl k ∧ ((∃ kb, (k = false → W b ρ m1 (fun d2 m2 => d2 = .bl kb ∧ m2 = m1) EX0) ∧ P (.bl (k || kb)) m1) ∨ ((k = false → W b ρ m1 P Z) ∧ (k = true → P (.bl true) m1)))) Z
  | .ite c a b, ρ, m, P, Z => W c ρ m (fun d m1 => ∃ k, d = .bl k ∧ ((∃ d3, (k = true → W a ρ m1 (fun d2 m2 => d2 = d3 ∧ m2 = m1) EX0) ∧ (k = false → W b ρ m1 (fun d2 m2 => d2 = d3 ∧ m2 = m1) EX0) ∧ P d3 m1) ∨ ((k = true → W a ρ m1 P Z) ∧ (k = false → W b ρ m1 P Z)))) Z
  | .chain o1 o2 a b c, ρ, m, P, Z => W a ρ m (fun d1 m1 => W b ρ m1 (fun d2 m2 => ∃ i j k, d1 = .int i ∧ d2 = .int j ∧ W c ρ m2 (fun d3 m3 => d3 = .int k ∧ m3 = m2) EX0 ∧ P (.bl (o1.b i j && o2.b j k)) m2) Z) Z
  | .lc g s ts ifs elt, ρ, m, P, Z => Ws ts ρ m (fun ds m1 => s ds m1 fun items GG m2 => items.length ≤ 100000 ∧ ∃ I : Nat → List D → MS → Prop, I 0 [] m2 ∧ (∀ i acc m', i ≤ items.length → I i acc m' → GG m') ∧
      (∀ i d acc m', items[i]? = some d → I i acc m' → match bindG g d (wipeR ρ g.vars) with
        | some ρ' => Wl ifs ρ' m' (fun b m'' => (b = true → W elt ρ' m'' (fun d' m3 => I (i + 1) (acc ++ [d']) m3) EX0) ∧ (b = false → I (i + 1) acc m''))
        | none => False) ∧ ∀ acc m', I items.length acc m' → NewL acc m' P) Z
  | .lock t, ρ, m, P, Z => (∃ p kds, m p = some (.dct kds) ∧ ∀ o vs, W t ρ (mset m p (.lck o vs kds)) (fun d m1 => m1 p = some (.lck o vs kds) ∧ P d (mset m1 p (.dct kds))) EX0) ∨ W t ρ m P Z
def Ws : Ts → Env1 → MS → (List D → MS → Prop) → EX → Prop
  | .nil, _, m, P, _ => P [] m
  | .cons t ts, ρ, m, P, Z => W t ρ m (fun d m1 => Ws ts ρ m1 (fun ds m2 => P (d :: ds) m2) Z) Z
/-- the one test of a comprehension, or none -/
def Wl : Ts → Env1 → MS → (Bool → MS → Prop) → Prop
  | .nil, _, m, P => P true m
  | .cons t _, ρ, m, P => W t ρ m (fun d m1 => ∃ k, d = .bl k ∧ P k m1) EX0
end
structure AEnds where
  nx : Env1 → MS → Prop
  rt : D → MS → Prop
  bk : Env1 → MS → Prop := fun _ _ => False
  ct : Env1 → MS → Prop := fun _ _ => False
  ex : EX := EX0
def Exn.under : Exn → Exn → Bool
  | _, .HallError => true
  | a, b => decide (a = b)
mutual
def W1 : S1 → Env1 → MS → AEnds → Prop
  | .set i t, ρ, m, E => W t ρ m (fun d m' => E.nx (setR ρ i d) m') E.ex
  | .unp gs t, ρ, m, E => W t ρ m (fun d m' => match bindG (.tup gs) d ρ with
    | some ρ' => E.nx ρ' m'
    | none => False) E.ex
  | .par i j a b, ρ, m, E => W a ρ m (fun d1 m1 => W b ρ m1 (fun d2 m2 => E.nx (setR (setR ρ i d1) j d2) m2) E.ex) E.ex
  | .aug i s t, ρ, m, E => match getR ρ i with
    | some d1 => W t ρ m (fun d2 m1 => s [d1, d2] m1 fun d3 m2 => E.nx (setR ρ i d3) m2) E.ex
    | none => False
  | .fset f o t, ρ, m, E => W t ρ m (fun d m1 => W o ρ m1 (fun x m2 => match x with
    | .raw (.ref p) => ∃ c xs, m2 p = some (.ins c xs) ∧ match setF c.fs xs f d with
      | some xs' => E.nx ρ (mset m2 p (.ins c xs'))
      | none => False
    | _ => False) E.ex) E.ex
  | .faug f o t, ρ, m, E => W o ρ m (fun x m1 => match x with
    | .raw (.ref p) => ∃ c xs, m1 p = some (.ins c xs) ∧ match getF c.fs xs f with
      | some (.int i) => W t ρ m1 (fun d m2 => m2 p = some (.ins c xs) ∧ match d with
        | .int j => match setF c.fs xs f (.int (i + j)) with
          | some xs' => E.nx ρ (mset m2 p (.ins c xs'))
          | none => False
        | _ => False) E.ex
      | _ => False
    | _ => False) E.ex
  | .iset o i t, ρ, m, E => W t ρ m (fun d m1 => W o ρ m1 (fun x m2 => match x with
    | .raw (.ref p) => W i ρ m2 (fun y m3 => ∃ c, m3 p = some c ∧ match c with
      | .lst ds => match y with
        | .int k => ∃ n, ixN ds.length k = some n ∧ E.nx ρ (mset m3 p (.lst (ds.set n d)))
        | _ => False
      | .dct kvs => match keyOf y with
        | some k => kvs.length < 100000 ∧ E.nx ρ (mset m3 p (.dct (putD kvs k d)))
        | none => False
      | _ => False) E.ex
    | _ => False) E.ex) E.ex
  | .expr t, ρ, m, E => W t ρ m (fun _ m' => E.nx ρ m') E.ex
  | .ret t, ρ, m, E => W t ρ m E.rt E.ex
  | .retn, _, m, E => E.rt .non m
  | .pass, ρ, m, E => E.nx ρ m
  | .brk, ρ, m, E => E.bk ρ m
  | .cnt, ρ, m, E => E.ct ρ m
  | .raise c ts, ρ, m, E => Ws ts ρ m (fun ds m1 => ∃ d es, ds = d :: es ∧ es.length = c.flds.length ∧ E.ex c es ρ m1) E.ex
  | .iff c a b, ρ, m, E => W c ρ m (fun d m1 => ∃ k, d = .bl k ∧ (k = true → WB a ρ m1 E) ∧ (k = false → WB b ρ m1 E)) E.ex
  | .fo g s ts body, ρ, m, E => Ws ts ρ m (fun ds m1 => s ds m1 fun items GG m2 => ∃ I : Nat → Env1 → MS → Prop, I 0 ρ m2 ∧ (∀ i ρ' m', I i ρ' m' → GG m') ∧
      (∀ i d ρ' m', items[i]? = some d → I i ρ' m' → match bindG g d ρ' with
        | some ρ2 => WB body ρ2 m' { nx := I (i + 1), rt := E.rt, bk := E.nx, ct := I (i + 1), ex := E.ex }
        | none => False) ∧ ∀ ρ' m', I items.length ρ' m' → E.nx ρ' m') E.ex
  | .lock s, ρ, m, E => (∃ p kds, m p = some (.dct kds) ∧ ∀ o vs, W1 s ρ (mset m p (.lck o vs kds)) { nx := fun ρ2 m2 => m2 p = some (.lck o vs kds) ∧ E.nx ρ2 (mset m2 p (.dct kds)), rt := fun d m2 => m2 p = some (.lck o vs kds) ∧ E.rt d (mset m2 p (.dct kds)), bk := fun ρ2 m2 => m2 p = some (.lck o vs kds) ∧ E.bk ρ2 (mset m2 p (.dct kds)), ct := fun ρ2 m2 => m2 p = some (.lck o vs kds) ∧ E.ct ρ2 (mset m2 p (.dct kds)), ex := EX0 }) ∨ W1 s ρ m E
  | .whil c body, ρ, m, E => ∃ (I : Nat → Env1 → MS → Prop) (n : Nat), I n ρ m ∧ ∀ n ρ' m', I n ρ' m' → W c ρ' m' (fun d m1 => ∃ k, d = .bl k ∧ (k = true → WB body ρ' m1 { nx := fun ρ2 m2 => ∃ n', n' < n ∧ I n' ρ2 m2, rt := E.rt, bk := E.nx, ct := fun ρ2 m2 => ∃ n', n' < n ∧ I n' ρ2 m2, ex := E.ex }) ∧ (k = false → E.nx ρ' m1)) E.ex
  | .tri c i body hand, ρ, m, E => WB body ρ m { nx := E.nx, rt := E.rt, bk := E.bk, ct := E.ct, ex := fun x es ρ' m' =>
      (x.under c = true → match i with
        | some i => WB hand (setR ρ' i (.exn x es)) m' { nx := fun ρ2 m2 => E.nx (clrR ρ2 i) m2, rt := E.rt, bk := fun ρ2 m2 => E.bk (clrR ρ2 i) m2, ct := fun ρ2 m2 => E.ct (clrR ρ2 i) m2, ex := EX0 }
        | none => WB hand ρ' m' { nx := E.nx, rt := E.rt, bk := E.bk, ct := E.ct, ex := EX0 }) ∧ (x.under c = false → E.ex x es ρ' m') }
def WB : SS → Env1 → MS → AEnds → Prop
  | .nil, ρ, m, E => E.nx ρ m
  | .cons s ss, ρ, m, E => W1 s ρ m { nx := fun ρ' m' => WB ss ρ' m' E, rt := E.rt, bk := E.bk, ct := E.ct, ex := E.ex }
  | .cut s ss, ρ, m, E => ∃ J : Env1 → MS → Prop, W1 s ρ m { nx := J, rt := E.rt, bk := E.bk, ct := E.ct, ex := E.ex } ∧ ∀ ρ' m', J ρ' m' → ∃ ρ2 m2, VwS ρ' m' ρ2 m2 ∧ WB ss ρ2 m2 E
end
end Nu
namespace Nu
open PySem PySem.Spec L2
open PyProof.Rows hiding St
section
variable (X : Cx)
def wE (e : Expr) : TE := fun σ H Q => ∀ (pins : List (Addr × Obj)) (s : Shared), Inv X pins σ H s → wpAny (model X.prog X.w) X.A (eval e X.env) (EP X pins σ Q) X.xe s
def wT (e : Expr) : TT := fun σ H Q => ∀ (pins : List (Addr × Obj)) (s : Shared), Inv X pins σ H s → wpAny (model X.prog X.w) X.A (isTrue e X.env (eval e X.env)) (TP X pins σ Q) X.xe s
def wW (e : Expr) : TT := fun σ H Q => ∀ (wh : Sem Value) (pins : List (Addr × Obj)) (s : Shared), Inv X pins σ H s → wpAny (model X.prog X.w) X.A (isTrue e X.env wh) (TP X pins σ Q) X.xe s
def wA (es : List Expr) : TA := fun σ H Q => ∀ (pos : Pos) (pins : List (Addr × Obj)) (s : Shared), Inv X pins σ H s → wpAny (model X.prog X.w) X.A (spliced (backTo pos (starEach es X.env))) (AP X pins σ Q) X.xe s
def wS (st : Stmt) : TS := fun D σ H => ∀ (pins : List (Addr × Obj)) (s : Shared), Inv X pins σ H s → wpAny (model X.prog X.w) X.A (exec st X.env) (SP X pins D) X.xe s
def wSs (st : List Stmt) : TS := fun D σ H => ∀ (pins : List (Addr × Obj)) (s : Shared), Inv X pins σ H s → wpAny (model X.prog X.w) X.A (execs st X.env) (SP X pins D) X.xe s
def wG (tg : Expr) : TG := fun v σ H Q => ∀ (pins : List (Addr × Obj)) (s : Shared) (u : Value), Inv X pins σ H s → RelV v u → wpAny (model X.prog X.w) X.A (assign tg X.env u) (fun _ s' => ∃ σ' H', Inv X pins σ' H' s' ∧ Q σ' H') X.xe s
def wI (tg iter : Expr) : TI := fun σ H R => ∀ (pins : List (Addr × Obj)) (s : Shared), Inv X pins σ H s →
    wpAny (model X.prog X.w) X.A (eval iter X.env) (fun v s1 => wpAny (model X.prog X.w) X.A (pyIter v) (PIE X pins σ tg R) X.xe s1) X.xe s
end
section
variable {X : Cx} {e : Expr} {es : List Expr} {st : Stmt} {sts : List Stmt} {tg iter : Expr}
theorem pe_w : PE X e (wE X e) := ⟨fun pins s _ _ _ I h => h pins s I⟩
theorem pt_w : PT X e (wT X e) := ⟨fun pins s _ _ _ I h => h pins s I⟩
theorem pw_w : PW X e (wW X e) := ⟨fun wh pins s _ _ _ I h => h wh pins s I⟩
theorem pa_w : PA X es (wA X es) := ⟨fun pos pins s _ _ _ I h => h pos pins s I⟩
theorem ps_w : PS X st (wS X st) := ⟨fun pins s _ _ _ I h => h pins s I⟩
theorem pss_w : PSs X sts (wSs X sts) := ⟨fun pins s _ _ _ I h => h pins s I⟩
theorem pg_w : PG X tg (wG X tg) := ⟨fun pins s _ _ _ u _ I r h => h pins s u I r⟩
theorem pi_w : PI X tg iter (wI X tg iter) := ⟨fun pins s _ _ _ I h => h pins s I⟩
theorem wE_of {t : TE} {σ : L2.St} {H : Hp} {Q : VK} (h : PE X e t) (q : t σ H Q) : wE X e σ H Q := fun pins s I => h.run pins s σ H Q I q
theorem wT_of {t : TT} {σ : L2.St} {H : Hp} {Q : Bool → Hp → Prop} (h : PT X e t) (q : t σ H Q) : wT X e σ H Q := fun pins s I => h.run pins s σ H Q I q
theorem wW_of {t : TT} {σ : L2.St} {H : Hp} {Q : Bool → Hp → Prop} (h : PW X e t) (q : t σ H Q) : wW X e σ H Q := fun wh pins s I => h.run wh pins s σ H Q I q
theorem wA_of {t : TA} {σ : L2.St} {H : Hp} {Q : List V → Hp → Prop} (h : PA X es t) (q : t σ H Q) : wA X es σ H Q := fun pos pins s I => h.run pos pins s σ H Q I q
theorem wS_of {t : TS} {σ : L2.St} {H : Hp} {D : Ends} (h : PS X st t) (q : t D σ H) : wS X st D σ H := fun pins s I => h.run pins s σ H D I q
theorem wSs_of {t : TS} {σ : L2.St} {H : Hp} {D : Ends} (h : PSs X sts t) (q : t D σ H) : wSs X sts D σ H := fun pins s I => h.run pins s σ H D I q
theorem wG_of {t : TG} {v : V} {σ : L2.St} {H : Hp} {Q : L2.St → Hp → Prop} (h : PG X tg t) (q : t v σ H Q) : wG X tg v σ H Q := fun pins s u I r => h.run pins s σ H v u Q I r q
theorem wI_of {t : TI} {σ : L2.St} {H : Hp} {R : It → Hp → Prop} (h : PI X tg iter t) (q : t σ H R) : wI X tg iter σ H R := fun pins s I => h.run pins s σ H R I q
end
def ExR (K : PySem.W.Frag) (F : Hp) (c : Exn) (ds : List D) (cls : Value) (dd : Option Addr) : Prop :=
  ∃ C, clsAt K c.name C ∧ cls = .ref C ∧ ((c.flds = [] ∧ dd = none ∧ ds = []) ∨ ∃ q vs, dd = some q ∧ c.flds.length = vs.length ∧ vs ≠ [] ∧ F q = some (.xd (c.flds.zip vs)) ∧ Rps K F vs ds)
theorem ExR.up {K : PySem.W.Frag} {F F' : Hp} {c : Exn} {ds : List D} {cls : Value} {dd : Option Addr} (s : Same F F') (h : ExR K F c ds cls dd) : ExR K F' c ds cls dd := by
  obtain ⟨C, h1, h2, h3⟩ := h
  refine ⟨C, h1, h2, ?_⟩
  rcases h3 with h3 | ⟨q, vs, a, b, c, d, e⟩
  · exact .inl h3
  · exact .inr ⟨q, vs, a, b, c, s _ _ d, Rps.up s _ e⟩
def ExK (X : Cx) (F0 : Hp) (m : MS) (H F : Hp) (Z : EX) (V : WX) : Prop := ∀ σ' H' F' ρ' m' c ds cls dd, Z c ds ρ' m' → Go X.K m H F m' H' F' → StR X.K F0 σ' H' F' ρ' m' → ExR X.K F' c ds cls dd → V cls dd σ' H'
section
variable {X : Cx} {F0 H F H' F' : Hp} {m m' : MS} {Z : EX} {V : WX}
theorem ExK.go (k : ExK X F0 m H F Z V) (g : Go X.K m H F m' H' F') : ExK X F0 m' H' F' Z V := fun σ' H1 F1 ρ' m1 c ds cls dd z g1 s r => k σ' H1 F1 ρ' m1 c ds cls dd z (g.trans g1) s r
theorem exk0 : ExK X F0 m H F EX0 V := fun _ _ _ _ _ _ _ _ _ z => z.elim
end
abbrev V0 : WX := fun _ _ _ _ => False
section
variable (X : Cx)
structure XE (e : Expr) (ρ : Env1) (m : MS) (P : NX) (Z : EX) : Prop where
  run : ∀ F0 σ H F, StR X.K F0 σ H F ρ m → ∀ (Q : VK) (V : WX), Takes X V → (∀ v H' F' d m', P d m' → Go X.K m H F m' H' F' → Rp X.K F' v d → Q v H') → ExK X F0 m H F Z V → wE X e σ H Q
structure XT (e : Expr) (ρ : Env1) (m : MS) (P : Bool → MS → Prop) (Z : EX) : Prop where
  run : ∀ F0 σ H F, StR X.K F0 σ H F ρ m → ∀ (Q : Bool → Hp → Prop) (V : WX), Takes X V → (∀ k H' F' m', P k m' → Go X.K m H F m' H' F' → Q k H') → ExK X F0 m H F Z V → wT X e σ H Q
structure XW (e : Expr) (ρ : Env1) (m : MS) (P : Bool → MS → Prop) (Z : EX) : Prop where
  run : ∀ F0 σ H F, StR X.K F0 σ H F ρ m → ∀ (Q : Bool → Hp → Prop) (V : WX), Takes X V → (∀ k H' F' m', P k m' → Go X.K m H F m' H' F' → Q k H') → ExK X F0 m H F Z V → wW X e σ H Q
structure XA (es : List Expr) (ρ : Env1) (m : MS) (P : List D → MS → Prop) (Z : EX) : Prop where
  run : ∀ F0 σ H F, StR X.K F0 σ H F ρ m → ∀ (Q : List V → Hp → Prop) (V : WX), Takes X V → (∀ vs H' F' ds m', P ds m' → Go X.K m H F m' H' F' → Rps X.K F' vs ds → Q vs H') → ExK X F0 m H F Z V → wA X es σ H Q
structure Cont (F0 : Hp) (m : MS) (H F : Hp) (A : AEnds) (E : Ends) (V : WX) : Prop where
  nx : ∀ σ' H' F' ρ' m', A.nx ρ' m' → Go X.K m H F m' H' F' → StR X.K F0 σ' H' F' ρ' m' → E.nx σ' H'
  rt : ∀ v H' F' d m', A.rt d m' → Go X.K m H F m' H' F' → Rp X.K F' v d → E.rt v H'
  bk : ∀ σ' H' F' ρ' m', A.bk ρ' m' → Go X.K m H F m' H' F' → StR X.K F0 σ' H' F' ρ' m' → E.bk σ' H'
  ct : ∀ σ' H' F' ρ' m', A.ct ρ' m' → Go X.K m H F m' H' F' → StR X.K F0 σ' H' F' ρ' m' → E.ct σ' H'
  ex : ExK X F0 m H F A.ex V
structure X1 (st : Stmt) (ρ : Env1) (m : MS) (A : AEnds) : Prop where
  run : ∀ F0 σ H F, StR X.K F0 σ H F ρ m → ∀ (E : Ends) (V : WX), Takes X V → Cont X F0 m H F A E V → wS X st E σ H
structure XS (sts : List Stmt) (ρ : Env1) (m : MS) (A : AEnds) : Prop where
  run : ∀ F0 σ H F, StR X.K F0 σ H F ρ m → ∀ (E : Ends) (V : WX), Takes X V → Cont X F0 m H F A E V → wSs X sts E σ H
structure XG (tg : Expr) (g : G) : Prop where
  run : ∀ F0 σ H F m v d ρ ρ', bindG g d ρ = some ρ' → StR X.K F0 σ H F ρ m → Rp X.K F v d → ∀ Q : L2.St → Hp → Prop,
  (∀ σ', StR X.K F0 σ' H F ρ' m → σ'.length = σ.length → (∀ j : Nat, j ∉ g.vars → σ'[j]? = σ[j]?) → Q σ' H) → wG X tg v σ H Q
structure XGs (tgs : List Expr) (gs : Gs) : Prop where
  run : ∀ F0 σ H F m ws ds ρ ρ', bindGs gs ds ρ = some ρ' → StR X.K F0 σ H F ρ m → Rps X.K F ws ds → ∀ Q : L2.St → Hp → Prop,
  (∀ σ', StR X.K F0 σ' H F ρ' m → σ'.length = σ.length → (∀ j : Nat, j ∉ gs.vars → σ'[j]? = σ[j]?) → Q σ' H) →
  ∀ (pins : List (Addr × Obj)) (s : Shared) (us : List Value), Inv X pins σ H s → Vals ws us → wpAny (model X.prog X.w) X.A (assignInOrder ((assignEach tgs X.env).map (·.2)) us) (fun _ s' => ∃ σ' H', Inv X pins σ' H' s' ∧ Q σ' H') X.xe s
structure SE (e : Expr) (t : T) : Prop where
  go : ∀ ρ m P Z, W t ρ m P Z → XE X e ρ m P Z
structure ST (e : Expr) (t : T) : Prop where
  go : ∀ ρ m (P' : NX) (P : Bool → MS → Prop) Z, W t ρ m P' Z → (∀ d m1, P' d m1 → ∃ k, d = .bl k ∧ P k m1) → XT X e ρ m P Z
structure SWh (e : Expr) (t : T) : Prop where
  go : ∀ ρ m (P' : NX) (P : Bool → MS → Prop) Z, W t ρ m P' Z → (∀ d m1, P' d m1 → ∃ k, d = .bl k ∧ P k m1) → XW X e ρ m P Z
structure SA (es : List Expr) (ts : Ts) : Prop where
  go2 : ∀ ρ m P Z, Ws ts ρ m P Z → XA X es ρ m (fun ds m' => ds.length = es.length ∧ P ds m') Z
structure SS1 (st : Stmt) (t : S1) : Prop where
  go : ∀ ρ m A, W1 t ρ m A → X1 X st ρ m A
structure SSs (sts : List Stmt) (t : SS) : Prop where
  go : ∀ ρ m A, WB t ρ m A → XS X sts ρ m A
end
/-- what a loop walks: items, while the data's heap only grows and the store keeps G -/
structure WalkD (K : PySem.W.Frag) (F1 : Hp) (J : It) (items : List D) (G : MS → Prop) : Prop where
  goes : ∀ i H F m, i < items.length → Same F1 F → Std K m H F → G m → J.go i H
  stops : ∀ H F m, Same F1 F → Std K m H F → G m → J.stop items.length H
  yields : ∀ i H F m x H' d, items[i]? = some d → Same F1 F → Std K m H F → G m → J.yld i H x H' → ∃ F', Go K m H F m H' F' ∧ Rp K F' x d
/-- what is walked -/
structure XI (X : Cx) (tg iter : Expr) (ρ : Env1) (m : MS) (P : List D → (MS → Prop) → MS → Prop) (Z : EX) : Prop where
  run : ∀ F0 σ H F, StR X.K F0 σ H F ρ m → ∀ (R : It → Hp → Prop) (V : WX), Takes X V →
  (∀ J H' F' items GG m', P items GG m' → Go X.K m H F m' H' F' → WalkD X.K F' J items GG → R J H') → ExK X F0 m H F Z V → wI X tg iter σ H R
structure SI (X : Cx) (tg iter : Expr) (s : IS) (ts : Ts) : Prop where
  go : ∀ ρ m P Z, Ws ts ρ m (fun ds m1 => s ds m1 P) Z → XI X tg iter ρ m P Z
theorem getR_some : ∀ {ρ : Env1} {i : Nat} {d : D}, getR ρ i = some d → ρ[i]? = some (some d)
  | [], _, _, h => by cases h
  | x :: ρ, 0, d, h => by
    have h' : x = some d := h
    rw [h']; rfl
  | x :: ρ, n + 1, d, h => by
    have := getR_some (ρ := ρ) (i := n) (d := d) h
    simpa using this
theorem setR_eq : ∀ (ρ : Env1) (i : Nat) (d : D), setR ρ i d = ρ.set i (some d)
  | [], _, _ => rfl
  | _ :: ρ, 0, d => rfl
  | x :: ρ, n + 1, d => by
    show x :: setR ρ n d = x :: ρ.set n (some d)
    rw [setR_eq]
theorem clrR_eq : ∀ (ρ : Env1) (i : Nat), clrR ρ i = ρ.set i none
  | [], _ => rfl
  | _ :: ρ, 0 => rfl
  | x :: ρ, n + 1 => by
    show x :: clrR ρ n = x :: ρ.set n none
    rw [clrR_eq]
section
variable {X : Cx} {F0 : Hp} {e a b c : Expr} {es : List Expr} {stm : Stmt} {sts : List Stmt} {t ta tb tc : T} {ts : Ts} {pos pos' : Pos} {A : AEnds}
theorem Cont.go {m m' : MS} {H F H' F' : Hp} {E : Ends} {V : WX} (k : Cont X F0 m H F A E V) (g : Go X.K m H F m' H' F') : Cont X F0 m' H' F' A E V :=
  ⟨fun σ' H1 F1 ρ' m1 p g1 => k.nx σ' H1 F1 ρ' m1 p (g.trans g1), fun v H1 F1 d m1 p g1 => k.rt v H1 F1 d m1 p (g.trans g1), fun σ' H1 F1 ρ' m1 p g1 => k.bk σ' H1 F1 ρ' m1 p (g.trans g1), fun σ' H1 F1 ρ' m1 p g1 => k.ct σ' H1 F1 ρ' m1 p (g.trans g1), k.ex.go g⟩
theorem se_var (i : Nat) {x : Str} (hN : X.N[i]? = some x := by rfl) (hv : Vis X.env.scope x := by first | exact Or.inl rfl | exact Or.inr (Or.inl rfl) | exact Or.inr (Or.inr rfl)) (h1 : (x == ("__debug__" : Str)) = false := by decide)
    (h2 : (x == ("__classdict__" : Str)) = false := by decide) : SE X (.Name x pos) (.var i) := ⟨fun ρ m P Z h => ⟨fun F0 σ H F S Q V tk q kx => by
  have h' : match getR ρ i with | some d => P d m | none => False := h
  cases e : getR ρ i with
  | none => rw [e] at h'; exact h'.elim
  | some d =>
    rw [e] at h'
    obtain ⟨v, e1, r⟩ := S.env i d (getR_some e)
    exact wE_of (pe_var hN hv h1 h2) ⟨v, e1, q v H F d m h' (Go.refl S.std) r⟩⟩⟩
theorem se_c {v : V} {d : D} (h : PE X e (tC v)) (r : ∀ F, Rp X.K F v d) : SE X e (.cst d) := ⟨fun ρ m P Z p => ⟨fun F0 σ H F S Q V tk q kx => wE_of h (q v H F d m p (Go.refl S.std) (r F))⟩⟩
theorem se_int {i : Int} {j} : SE X (.Constant (.int i) j pos) (.cst (.int i)) := se_c pe_int fun _ => .int i
theorem se_bl {i : Bool} {j} : SE X (.Constant (.bool i) j pos) (.cst (.bl i)) := se_c pe_bl fun _ => .bl i
theorem se_str {i : Str} {j} : SE X (.Constant (.str i) j pos) (.cst (.str i)) := se_c pe_str fun _ => .str i
theorem se_non {j} : SE X (.Constant .none j pos) (.cst .non) := se_c pe_non fun _ => .non
theorem SA.go (h : SA X es ts) : ∀ ρ m P Z, Ws ts ρ m P Z → XA X es ρ m P Z := fun ρ m P Z p => ⟨fun F0 σ H F S Q V tk q kx => (h.go2 ρ m P Z p).run F0 σ H F S Q V tk (fun vs H1 F1 ds m1 p1 g1 r1 => q vs H1 F1 ds m1 p1.2 g1 r1) kx⟩
theorem sa_nil : SA X [] .nil := ⟨fun ρ m P Z p => ⟨fun F0 σ H F S Q V tk q kx => wA_of pa_nil (q [] H F [] m ⟨rfl, p⟩ (Go.refl S.std) .nil)⟩⟩
theorem sa_cons (h : SE X e t) (k : SA X es ts) (hs : starEach (e :: es) X.env = (false, eval e X.env) :: starEach es X.env := by rfl) : SA X (e :: es) (.cons t ts) := ⟨fun ρ m P Z p => ⟨fun F0 σ H F S Q V tk q kx => by
  refine wA_of (pa_cons pe_w pa_w hs) ?_
  refine (h.go ρ m _ Z p).run F0 σ H F S _ V tk (fun v H1 F1 d m1 p1 g1 r1 => ?_) kx
  refine (k.go2 ρ m1 _ Z p1).run F0 σ H1 F1 (S.go g1) _ V tk (fun vs H2 F2 ds m2 p2 g2 r2 => ?_) (kx.go g1)
  exact q (v :: vs) H2 F2 (d :: ds) m2 ⟨by rw [List.length_cons, List.length_cons, p2.1], p2.2⟩ (g1.trans g2) (.cons (r1.up g2.grow _) r2)⟩⟩
def Bok2 (K : PySem.W.Frag) (r : R2) (s : BS) : Prop := ∀ d1 d2 m P, s [d1, d2] m P → ∀ x y H F, Std K m H F → Rp K F x d1 → Rp K F y d2 → ∀ Q : VK, (∀ v H' F' d m', P d m' → Go K m H F m' H' F' → Rp K F' v d → Q v H') → r x y H Q
def BokN (K : PySem.W.Frag) (r : List V → Hp → VK → Prop) (s : BS) : Prop := ∀ ds m P, s ds m P → ∀ vs H F, Std K m H F → Rps K F vs ds → ∀ Q : VK, (∀ v H' F' d m', P d m' → Go K m H F m' H' F' → Rp K F' v d → Q v H') → r vs H Q
theorem se_bin {op : Operator} {r : R2} {s : BS} (ho : OpR X (binaryOp op) r) (hs : Bok2 X.K r s) (ha : SE X a ta) (hb : SE X b tb) : SE X (.BinOp a op b pos) (.bop s (.cons ta (.cons tb .nil))) := ⟨fun ρ m P Z p => ⟨fun F0 σ H F S Q V tk q kx => by
  refine wE_of (pe_op ho pe_w pe_w) ?_
  refine (ha.go ρ m _ Z p).run F0 σ H F S _ V tk (fun x H1 F1 d1 m1 p1 g1 r1 => ?_) kx
  refine (hb.go ρ m1 _ Z p1).run F0 σ H1 F1 (S.go g1) _ V tk (fun y H2 F2 d2 m2 p2 g2 r2 => ?_) (kx.go g1)
  exact hs d1 d2 m2 P p2 x y H2 F2 g2.std (r1.up g2.grow _) r2 Q fun v H3 F3 d3 m3 p3 g3 r3 => q v H3 F3 d3 m3 p3 ((g1.trans g2).trans g3) r3⟩⟩
theorem se_cmp {op : CmpOp} {r : R2} {s : BS} (ho : OpR X (compareOp op) r) (hs : Bok2 X.K r s) (ha : SE X a ta) (hb : SE X b tb) (hm : behindInMarks op b = false) : SE X (.Compare a [op] [b] pos) (.bop s (.cons ta (.cons tb .nil))) := ⟨fun ρ m P Z p => ⟨fun F0 σ H F S Q V tk q kx => by
  refine wE_of (pe_cmpR ho pe_w pe_w hm) ?_
  refine (ha.go ρ m _ Z p).run F0 σ H F S _ V tk (fun x H1 F1 d1 m1 p1 g1 r1 => ?_) kx
  refine (hb.go ρ m1 _ Z p1).run F0 σ H1 F1 (S.go g1) _ V tk (fun y H2 F2 d2 m2 p2 g2 r2 => ?_) (kx.go g1)
  exact hs d1 d2 m2 P p2 x y H2 F2 g2.std (r1.up g2.grow _) r2 Q fun v H3 F3 d3 m3 p3 g3 r3 => q v H3 F3 d3 m3 p3 ((g1.trans g2).trans g3) r3⟩⟩
theorem st_cmp {op : CmpOp} {r : R2} {s : BS} (ho : OpR X (compareOp op) r) (hs : Bok2 X.K r s) (ha : SE X a ta) (hb : SE X b tb) (hm : behindInMarks op b = false) : ST X (.Compare a [op] [b] pos) (.bop s (.cons ta (.cons tb .nil))) := ⟨fun ρ m P' P Z p pk => ⟨fun F0 σ H F S Q V tk q kx => by
  refine wT_of (pt_cmpR ho pe_w pe_w hm) ?_
  refine (ha.go ρ m _ Z p).run F0 σ H F S _ V tk (fun x H1 F1 d1 m1 p1 g1 r1 => ?_) kx
  refine (hb.go ρ m1 _ Z p1).run F0 σ H1 F1 (S.go g1) _ V tk (fun y H2 F2 d2 m2 p2 g2 r2 => ?_) (kx.go g1)
  refine hs d1 d2 m2 _ p2 x y H2 F2 g2.std (r1.up g2.grow _) r2 _ fun v H3 F3 d3 m3 p3 g3 r3 => ?_
  obtain ⟨k, rfl, p4⟩ := pk _ _ p3
  cases r3
  exact ⟨k, rfl, q k H3 F3 m3 p4 ((g1.trans g2).trans g3)⟩⟩⟩
theorem st_val (h : SE X e t) (he : ∀ whole, isTrue e X.env whole = (do let v ← whole; standAt e.pos; holding [v] (truthy v)) := by intro _; rfl) : ST X e t := ⟨fun ρ m P' P Z p pk => ⟨fun F0 σ H F S Q V tk q kx => by
  refine wT_of (pt_val pe_w he) ?_
  refine (h.go ρ m _ Z p).run F0 σ H F S _ V tk (fun v H1 F1 d m1 p1 g1 r1 => ?_) kx
  obtain ⟨k, rfl, p2⟩ := pk _ _ p1
  cases r1
  exact ⟨k, rfl, q k H1 F1 m1 p2 g1⟩⟩⟩
/-- not -/
def sNot : BS := fun ds m P => match ds with
  | [.bl k] => P (.bl (!k)) m
  | _ => False
theorem sNot_of {d : D} {m : MS} {P : NX} (h : sNot [d] m P) : ∃ k, d = .bl k ∧ P (.bl (!k)) m := by
  cases d with
  | bl k => exact ⟨k, rfl, h⟩
  | _ => exact h.elim
theorem st_not (h : ST X a t) : ST X (.UnaryOp .Not a pos) (.bop sNot (.cons t .nil)) := ⟨fun ρ m P' P Z p pk => ⟨fun F0 σ H F S Q V tk q kx => by
  refine wT_of (pt_not pt_w) ?_
  refine (h.go ρ m _ (fun k m1 => P (!k) m1) Z p (fun d m1 z => ?_)).run F0 σ H F S _ V tk (fun k H1 F1 m1 p1 g1 => q _ H1 F1 m1 p1 g1) kx
  obtain ⟨k, rfl, z⟩ := sNot_of z
  obtain ⟨k', e, z⟩ := pk _ _ z
  cases e
  exact ⟨k, rfl, z⟩⟩⟩
variable {rest : List Expr}
theorem se_one {op} (h : SE X a t) : SE X (.BoolOp op [a] pos) t := ⟨fun ρ m P Z p => ⟨fun F0 σ H F S Q V tk q kx => wE_of (pe_one pe_w) ((h.go ρ m P Z p).run F0 σ H F S Q V tk q kx)⟩⟩
theorem se_and (ha : SE X a ta) (hb : SE X (.BoolOp .And (b :: rest) pos) tb) : SE X (.BoolOp .And (a :: b :: rest) pos) (.and2 ta tb) := ⟨fun ρ m P Z p => ⟨fun F0 σ H F S Q V tk q kx => by
  refine wE_of (pe_and pe_w pe_w) ?_
  refine (ha.go ρ m _ Z p).run F0 σ H F S _ V tk (fun v H1 F1 d m1 p1 g1 r1 => ?_) kx
  obtain ⟨k, rfl, p1⟩ := p1
  cases r1
  refine ⟨k, rfl, ?_⟩
  rcases p1 with ⟨kb, p1, p2⟩ | ⟨p1, p2⟩
  · cases k with
    | true =>
      refine iteT ((hb.go ρ m1 _ EX0 (p1 rfl)).run F0 σ H1 F1 (S.go g1) _ V tk (fun v2 H2 F2 d2 m2 p3 g2 r2 => ?_) exk0)
      obtain ⟨rfl, rfl⟩ := p3
      exact q v2 H2 F2 _ _ p2 (g1.trans g2) r2
    | false => exact iteF (q _ H1 F1 _ m1 p2 g1 (.bl _))
  · cases k with
    | true => exact iteT ((hb.go ρ m1 _ Z (p1 rfl)).run F0 σ H1 F1 (S.go g1) _ V tk (fun v2 H2 F2 d2 m2 p3 g2 r2 => q v2 H2 F2 d2 m2 p3 (g1.trans g2) r2) (kx.go g1))
    | false => exact iteF (q _ H1 F1 _ m1 (p2 rfl) g1 (.bl _))⟩⟩
theorem SWh.st (h : SWh X e t) : ST X e t := ⟨fun ρ m P' P Z p pk => ⟨fun F0 σ H F S Q V tk q kx pins s I => (h.go ρ m P' P Z p pk).run F0 σ H F S Q V tk q kx _ pins s I⟩⟩
theorem sw_or1 (h : ST X a t) : SWh X (.BoolOp .Or [a] pos) t := ⟨fun ρ m P' P Z p pk => ⟨fun F0 σ H F S Q V tk q kx => wW_of (pw_or1 pt_w) ((h.go ρ m P' P Z p pk).run F0 σ H F S Q V tk q kx)⟩⟩
theorem sw_or (ha : ST X a ta) (hb : SWh X (.BoolOp .Or (b :: rest) pos) tb) : SWh X (.BoolOp .Or (a :: b :: rest) pos) (.or2 ta tb) := ⟨fun ρ m P' P Z p pk => ⟨fun F0 σ H F S Q V tk q kx => by
  refine wW_of (pw_or pt_w pw_w) ?_
  refine (ha.go ρ m _ (fun k m1 => (∃ kb, (k = false → W tb ρ m1 (fun d2 m2 => d2 = .bl kb ∧ m2 = m1) EX0) ∧ P' (.bl (k || kb)) m1) ∨ ((k = false → W tb ρ m1 P' Z) ∧ (k = true → P' (.bl true) m1))) Z p (fun d m1 z => z)).run F0 σ H F S _ V tk (fun k H1 F1 m1 p1 g1 => ?_) kx
  rcases p1 with ⟨kb, p1, p2⟩ | ⟨p1, p2⟩
  · obtain ⟨k', e, p3⟩ := pk _ _ p2
    cases e
    cases k with
    | false =>
      refine iteF ((hb.go ρ m1 _ (fun k2 m2 => k2 = kb ∧ m2 = m1) EX0 (p1 rfl) (fun d m2 z => ⟨kb, z.1, rfl, z.2⟩)).run F0 σ H1 F1 (S.go g1) _ V tk (fun k2 H2 F2 m2 p4 g2 => ?_) exk0)
      obtain ⟨rfl, rfl⟩ := p4
      exact q _ H2 F2 _ p3 (g1.trans g2)
    | true => exact iteT (q _ H1 F1 m1 p3 g1)
  · cases k with
    | false => exact iteF ((hb.go ρ m1 P' P Z (p1 rfl) pk).run F0 σ H1 F1 (S.go g1) _ V tk (fun k2 H2 F2 m2 p4 g2 => q _ H2 F2 _ p4 (g1.trans g2)) (kx.go g1))
    | true =>
      obtain ⟨k', e, p3⟩ := pk _ _ (p2 rfl)
      cases e
      exact iteT (q _ H1 F1 m1 p3 g1)⟩⟩
theorem se_ite (hc : ST X c tc) (ha : SE X a ta) (hb : SE X b tb) : SE X (.IfExp c a b pos) (.ite tc ta tb) := ⟨fun ρ m P Z p => ⟨fun F0 σ H F S Q V tk q kx => by
  refine wE_of (pe_ifExp pt_w pe_w pe_w) ?_
  refine (hc.go ρ m _ (fun k m1 => (∃ d3, (k = true → W ta ρ m1 (fun d2 m2 => d2 = d3 ∧ m2 = m1) EX0) ∧ (k = false → W tb ρ m1 (fun d2 m2 => d2 = d3 ∧ m2 = m1) EX0) ∧ P d3 m1) ∨ ((k = true → W ta ρ m1 P Z) ∧ (k = false → W tb ρ m1 P Z))) Z p (fun d m1 z => z)).run F0 σ H F S _ V tk (fun k H1 F1 m1 p1 g1 => ?_) kx
  rcases p1 with ⟨d3, p1, p2, p3⟩ | p1
  · cases k with
    | true =>
      refine iteT ((ha.go ρ m1 _ EX0 (p1 rfl)).run F0 σ H1 F1 (S.go g1) _ V tk (fun v2 H2 F2 d2 m2 p4 g2 r2 => ?_) exk0)
      obtain ⟨rfl, rfl⟩ := p4
      exact q v2 H2 F2 _ _ p3 (g1.trans g2) r2
    | false =>
      refine iteF ((hb.go ρ m1 _ EX0 (p2 rfl)).run F0 σ H1 F1 (S.go g1) _ V tk (fun v2 H2 F2 d2 m2 p4 g2 r2 => ?_) exk0)
      obtain ⟨rfl, rfl⟩ := p4
      exact q v2 H2 F2 _ _ p3 (g1.trans g2) r2
  · cases k with
    | true => exact iteT ((ha.go ρ m1 P Z (p1.1 rfl)).run F0 σ H1 F1 (S.go g1) _ V tk (fun v2 H2 F2 d2 m2 p3 g2 r2 => q v2 H2 F2 d2 m2 p3 (g1.trans g2) r2) (kx.go g1))
    | false => exact iteF ((hb.go ρ m1 P Z (p1.2 rfl)).run F0 σ H1 F1 (S.go g1) _ V tk (fun v2 H2 F2 d2 m2 p3 g2 r2 => q v2 H2 F2 d2 m2 p3 (g1.trans g2) r2) (kx.go g1))⟩⟩
def Cmp.op : Cmp → CmpOp
  | .lt => .Lt
  | .le => .LtE
  | .gt => .Gt
  | .ge => .GtE
theorem op_cmpI (o : Cmp) : OpR X (compareOp o.op) (rI0 fun i j => .bl (o.b i j)) := by
  cases o
  · exact op_lt
  · exact op_le
  · exact op_gt
  · exact op_ge
end
end Nu
namespace Nu
open PySem PySem.Spec L2
open PyProof.Rows hiding St
theorem wipeR_some : ∀ {vs : List Nat} {ρ : Env1} {i : Nat} {x : D}, (wipeR ρ vs)[i]? = some (some x) → ρ[i]? = some (some x) ∧ i ∉ vs
  | [], ρ, i, x, h => ⟨h, by simp⟩
  | v :: vs, ρ, i, x, h => by
    obtain ⟨h1, h2⟩ := wipeR_some (vs := vs) (ρ := clrR ρ v) h
    rw [clrR_eq] at h1
    by_cases hi : v = i
    · subst hi
      by_cases hv : v < ρ.length
      · rw [List.getElem?_set_self hv] at h1; cases h1
      · rw [List.getElem?_eq_none (by simpa using hv)] at h1; cases h1
    · rw [List.getElem?_set_ne hi] at h1
      exact ⟨h1, by simp only [List.mem_cons, not_or]; exact ⟨fun e => hi e.symm, h2⟩⟩
theorem wipe_eq {σ σ' : L2.St} : ∀ {vs : List Nat}, σ'.length = σ.length → (∀ j : Nat, j ∉ vs → σ'[j]? = σ[j]?) → wipe σ' vs = wipe σ vs := fun {vs} hl h => by
  apply List.ext_getElem?
  intro i
  by_cases hi : i ∈ vs
  · have one : ∀ (τ : L2.St) (us : List Nat), i ∈ us → (wipe τ us)[i]? = if i < τ.length then some none else none := by
      intro τ us
      induction us with
      | nil => intro hu; cases hu
      | cons u us ih =>
        intro hu
        unfold wipe
        by_cases e : u = i
        · subst e
          by_cases hl : u < τ.length
          · rw [List.getElem?_set_self (by rw [wipe_length]; exact hl), if_pos hl]
          · rw [List.getElem?_eq_none (by rw [List.length_set, wipe_length]; omega), if_neg hl]
        · rw [List.getElem?_set_ne e]
          rcases List.mem_cons.mp hu with q | q
          · exact absurd q.symm e
          · exact ih q
    rw [one σ' vs hi, one σ vs hi, hl]
  · rw [wipe_out hi, wipe_out hi]
    exact h i hi
theorem StR.wipe {K : PySem.W.Frag} {F0 : Hp} {σ : L2.St} {H F : Hp} {ρ : Env1} {m : MS} (S : StR K F0 σ H F ρ m) (vs : List Nat) : StR K F0 (L2.wipe σ vs) H F (wipeR ρ vs) m :=
  ⟨S.std, fun i d e => by
    obtain ⟨e1, e2⟩ := wipeR_some e
    obtain ⟨v, a, b⟩ := S.env i d e1
    exact ⟨v, by rw [wipe_out e2]; exact a, b⟩, S.old⟩
theorem StR.set {K : PySem.W.Frag} {F0 : Hp} {σ : L2.St} {H F : Hp} {ρ : Env1} {m : MS} {d : D} {i : Nat} {v : V} (S : StR K F0 σ H F ρ m) (r : Rp K F v d) (hl : i < σ.length) : StR K F0 (σ.set i (some v)) H F (setR ρ i d) m := by
  rw [setR_eq]
  refine ⟨S.std, fun j d' e => ?_, S.old⟩
  by_cases hj : i = j
  · subst hj
    have hi : i < ρ.length := by
      have := (List.getElem?_eq_some_iff.mp e).1
      simpa using this
    rw [List.getElem?_set_self hi] at e
    cases e
    exact ⟨v, List.getElem?_set_self hl, r⟩
  · rw [List.getElem?_set_ne hj] at e
    obtain ⟨v', a, b⟩ := S.env j d' e
    exact ⟨v', by rw [List.getElem?_set_ne hj]; exact a, b⟩
theorem nx_of_inv {X : Cx} {i : Nat} {x : Str} {pins : List (Addr × Obj)} {σ : L2.St} {H : Hp} {s : Shared} (I : Inv X pins σ H s) (hi : X.N[i]? = some x) : i < σ.length := by
  rw [I.len]; exact (List.getElem?_eq_some_iff.mp hi).1
theorem Go.patch {K : PySem.W.Frag} {m m' : MS} {H F H' F' : Hp} {L : Addr} {o : HO} (g : Go K m H F m' H' F') (h1 : H L = none) (h2 : m' L = none) (h3 : F' L = none) : Go K m H F m' (upd H' L o) F' := by
  refine ⟨fun a u e => ?_, g.grow, g.fresh, fun a ha => ?_, ⟨fun a u e => ?_, fun q c e => ?_⟩⟩
  · have ne : a ≠ L := ne_of_none (of_fz e).2 h1
    obtain ⟨e1, e2⟩ := of_fz (g.same a u e)
    exact fz_of e1 (by rw [upd_ne ne]; exact e2)
  · by_cases e : a = L
    · subst e; rw [upd_same]; exact fun z => nomatch z
    · rw [upd_ne e]; exact g.kept a ha
  · have ne : a ≠ L := ne_of_none e h3
    obtain ⟨e1, e2⟩ := of_fz (g.std.sub a u e)
    exact fz_of e1 (by rw [upd_ne ne]; exact e2)
  · refine (g.std.cells q c e).upd_ ?_
    rintro rfl
    rw [h2] at e; cases e
/-- a junk object becomes data -/
theorem Go.adopt {K : PySem.W.Frag} {m m' : MS} {H F H' F' : Hp} {L : Addr} {o : HO} (g : Go K m H F m' H' F') (h1 : H L = none) (h2 : m' L = none) (h3 : F' L = none) (h4 : H' L = some o) : Go K m H F m' H' (upd F' L o) := by
  have up : Same F' (upd F' L o) := fun a u e => by rw [upd_ne (ne_of_none e h3)]; exact e
  refine ⟨g.same, g.grow.trans up, fun a ha => ?_, g.kept, ⟨fun a u e => ?_, fun q c e => (g.std.cells q c e).up up rfl⟩⟩
  · by_cases e : a = L
    · subst e; exact .inr (.inl h1)
    · rw [upd_ne e] at ha; exact g.fresh a ha
  · by_cases e' : a = L
    · subst e'; rw [upd_same] at e; cases e; exact fz_of h2 h4
    · rw [upd_ne e'] at e; exact g.std.sub a u e
/-- a junk object becomes a cell -/
theorem Go.adoptC {K : PySem.W.Frag} {m m' : MS} {H F H' F' : Hp} {L : Addr} {vs : List V} {acc : List D} (g : Go K m H F m' H' F') (h1 : H L = none) (h2 : m' L = none) (h3 : F' L = none) (h4 : H' L = some (.lst vs)) (h5 : Rps K F' vs acc) : Go K m H F (mset m' L (.lst acc)) H' F' := by
  refine ⟨fun a u e => ?_, g.grow, g.fresh, g.kept, ⟨fun a u e => ?_, fun q c e => ?_⟩⟩
  · have ne : a ≠ L := ne_of_none (of_fz e).2 h1
    obtain ⟨e1, e2⟩ := of_fz (g.same a u e)
    exact fz_of (by rw [mset_ne ne]; exact e1) e2
  · have ne : a ≠ L := ne_of_none e h3
    obtain ⟨e1, e2⟩ := of_fz (g.std.sub a u e)
    exact fz_of (by rw [mset_ne ne]; exact e1) e2
  · by_cases e' : q = L
    · subst e'; rw [mset_same] at e; cases e; exact ⟨vs, h4, h5⟩
    · rw [mset_ne e'] at e; exact g.std.cells q c e
section
variable {X : Cx} {e a b c tg iter elt : Expr} {es tgs ifs : List Expr} {stm : Stmt} {sts body : List Stmt} {t ta tb tc te : T} {ts tifs : Ts} {pos pos' : Pos} {u : S1} {us ub : SS} {g : G} {gs : Gs} {is : IS}
theorem xg_name (i : Nat) {x : Str} (hN : X.N.Nodup) (hi : X.N[i]? = some x := by rfl) (hx : Loc X.env.scope x := by first | exact Or.inl rfl | exact Or.inr rfl) (hf : X.fn x = true ∨ X.env.scope.names.lookup x = some .local := by first | exact .inl rfl | exact .inr rfl) :
    XG X (.Name x pos) (.name i) := .mk fun F0 σ H F m v d ρ ρ' hb S r Q q pins s u I => by
  have hl := nx_of_inv I hi
  have e : setR ρ i d = ρ' := Option.some.inj hb
  subst e
  refine wG_of (pg_name (i := i) hN hi hx hf) ?_ pins s u I
  exact q _ (S.set r hl) (by simp) fun j hj => List.getElem?_set_ne fun e => hj (by rw [← e]; exact List.mem_singleton_self _)
theorem xgs_nil : XGs X [] .nil := .mk fun F0 σ H F m ws ds ρ ρ' hb S r Q q pins s us I rv => by
  cases ds with
  | nil =>
    cases r; cases rv
    have e : ρ = ρ' := Option.some.inj hb
    subst e
    exact assignInOrder_nil ⟨σ, H, I, q σ S rfl fun _ _ => rfl⟩
  | cons d ds => exact nomatch hb
theorem xgs_cons (h1 : XG X tg g) (h2 : XGs X tgs gs) (hs : (assignEach (tg :: tgs) X.env).map (·.2) = assign tg X.env :: (assignEach tgs X.env).map (·.2) := by rfl) : XGs X (tg :: tgs) (.cons g gs) := .mk fun F0 σ H F m ws ds ρ ρ' hb S r Q q pins s us I rv => by
  cases r with
  | nil => exact nomatch hb
  | @cons v vs d ds r1 r2 =>
    cases rv with
    | cons v1 v2 =>
      have hb : (match bindG g d ρ with | some ρ' => bindGs gs ds ρ' | none => none) = some ρ' := hb
      cases e : bindG g d ρ with
      | none => rw [e] at hb; cases hb
      | some ρ1 =>
        rw [e] at hb
        rw [hs]
        refine assignInOrder_cons ?_
        refine thn (h1.run F0 σ H F m _ _ _ _ e S r1 (fun σ1 H1 => H1 = H ∧ StR X.K F0 σ1 H F ρ1 m ∧ σ1.length = σ.length ∧ ∀ j : Nat, j ∉ g.vars → σ1[j]? = σ[j]?) (fun σ1 S1 l1 k1 => ⟨rfl, S1, l1, k1⟩) pins s _ I v1) fun _ s1 ⟨σ1, H1, I1, eH, S1, l1, k1⟩ => ?_
        subst eH
        exact h2.run F0 σ1 H1 F m _ _ _ _ hb S1 r2 Q (fun σ2 S2 l2 k2 => q σ2 S2 (l2.trans l1) fun j hj => (k2 j fun z => hj (List.mem_append_right _ z)).trans (k1 j fun z => hj (List.mem_append_left _ z))) pins s1 _ I1 v2
theorem bindG_tup {ds : List D} {d : D} {ρ ρ' : Env1} (h : bindG (.tup gs) d ρ = some ρ') : ∃ ds, d = .tup ds ∧ bindGs gs ds ρ = some ρ' := by
  cases d with
  | tup ds => exact ⟨ds, rfl, h⟩
  | _ => exact nomatch h
def Gs.len : Gs → Nat
  | .nil => 0
  | .cons _ gs => gs.len + 1
theorem bindGs_length : ∀ (gs : Gs) (ds : List D) (ρ ρ' : Env1), bindGs gs ds ρ = some ρ' → ds.length = gs.len
  | .nil, [], _, _, _ => rfl
  | .nil, _ :: _, _, _, h => nomatch h
  | .cons _ _, [], _, _, h => nomatch h
  | .cons g gs, d :: ds, ρ, ρ', h => by
    have hb : (match bindG g d ρ with | some ρ' => bindGs gs ds ρ' | none => none) = some ρ' := h
    cases e : bindG g d ρ with
    | none => rw [e] at hb; cases hb
    | some ρ1 =>
      rw [e] at hb
      show ds.length + 1 = gs.len + 1
      rw [bindGs_length gs ds ρ1 ρ' hb]
theorem xg_tup {kk : Nat} (h : XGs X tgs gs) (hn : (assignEach tgs X.env).length = gs.len := by rfl) (hst : (assignEach tgs X.env).findIdx? (·.1) = none := by rfl) (hc : X.calm = true := by rfl) : XG X (.Tuple tgs kk pos) (.tup gs) := .mk fun F0 σ H F m v d ρ ρ' hb S r Q q pins s u I rv => by
  obtain ⟨ds, rfl, hb⟩ := bindG_tup (ds := []) hb
  cases r with
  | @tup a xs _ h1 h2 =>
    cases rv
    obtain ⟨its, rv, ht, hz⟩ := I.tuple (Same.seqT S.std.toH h1)
    refine assign_Tuple_tuple (I.ok.hd hc) ht (by simp [hn, ← bindGs_length _ _ _ _ hb, ← h2.length, rv.length]) hst fun h' hx => ?_
    have I1 : Inv X pins σ H { s with heap := h' } := I.kept (t' := s.toks) fun b o e => hx b o (Nat.ne_of_lt (Heap.lt_size e)) e
    exact h.run F0 σ H F m xs ds ρ ρ' hb S h2 Q q pins _ _ I1 (by simpa using rv)
theorem ss_nil : SSs X [] .nil := ⟨fun ρ m A p => ⟨fun F0 σ H F S E V tk k => wSs_of pss_nil (k.nx σ H F ρ m p (Go.refl S.std) S)⟩⟩
theorem ss_cons (h1 : SS1 X stm u) (h2 : SSs X sts us) : SSs X (stm :: sts) (.cons u us) := ⟨fun ρ m A p => ⟨fun F0 σ H F S E V tk k => by
  refine wSs_of (pss_cons ps_w pss_w) ?_
  refine (h1.go ρ m _ p).run F0 σ H F S _ V tk ⟨?_, k.rt, k.bk, k.ct, k.ex⟩
  exact fun σ' H' F' ρ' m' p1 g S' => (h2.go ρ' m' A p1).run F0 σ' H' F' S' E V tk (k.go g)⟩⟩
theorem ss_cut (h1 : SS1 X stm u) (h2 : SSs X sts us) : SSs X (stm :: sts) (.cut u us) := ⟨fun ρ m A p => ⟨fun F0 σ H F S E V tk k => by
  obtain ⟨J, p1, p2⟩ := p
  refine wSs_of (pss_cons ps_w pss_w) ?_
  refine (h1.go ρ m _ p1).run F0 σ H F S _ V tk ⟨?_, k.rt, k.bk, k.ct, k.ex⟩
  intro σ' H' F' ρ' m' p3 g S'
  obtain ⟨ρ2, m2, vw, p4⟩ := p2 ρ' m' p3
  obtain ⟨F2, g2, S2⟩ := vw _ _ _ _ _ S'
  exact (h2.go ρ2 m2 A p4).run F0 σ' H' F2 S2 E V tk (k.go (g.trans g2))⟩⟩
theorem s_set {i : Nat} {x : Str} (he : SE X e t) (hN : X.N.Nodup) (hi : X.N[i]? = some x := by rfl) (hx : Loc X.env.scope x := by first | exact Or.inl rfl | exact Or.inr rfl)
    (hs : swapsWith e (some (.Name x pos')) pos.line X.env = pure false := by rfl) (hf : X.fn x = true ∨ X.env.scope.names.lookup x = some .local := by first | exact .inl rfl | exact .inr rfl) :
    SS1 X (.Assign [.Name x pos'] e pos) (.set i t) := ⟨fun ρ m A p => ⟨fun F0 σ H F S E V tk k pins s I => by
  have hl := nx_of_inv I hi
  refine wS_of (ps_set (i := i) hN hi hx pe_w hs hf) ?_ pins s I
  refine (he.go ρ m _ _ p).run F0 σ H F S _ V tk (fun v H1 F1 d m1 p1 g r => ?_) k.ex
  exact k.nx _ H1 F1 _ m1 p1 g ((S.go g).set r hl)⟩⟩
theorem s_ret (he : SE X e t) : SS1 X (.Return (some e) pos) (.ret t) := ⟨fun ρ m A p => ⟨fun F0 σ H F S E V tk k => by
  refine wS_of (ps_ret pe_w) ?_
  exact (he.go ρ m _ _ p).run F0 σ H F S _ V tk (fun v H1 F1 d m1 p1 g r => k.rt v H1 F1 d m1 p1 g r) k.ex⟩⟩
theorem s_if {sa sb : List Stmt} {ua ub : SS} (hc : ST X c tc) (ha : SSs X sa ua) (hb : SSs X sb ub) : SS1 X (.If c sa sb pos) (.iff tc ua ub) := ⟨fun ρ m A p => ⟨fun F0 σ H F S E V tk k => by
  refine wS_of (ps_if pt_w pss_w pss_w) ?_
  refine (hc.go ρ m _ (fun k m1 => (k = true → WB ua ρ m1 A) ∧ (k = false → WB ub ρ m1 A)) _ p (fun d m1 z => z)).run F0 σ H F S _ V tk (fun kk H1 F1 m1 p1 g => ?_) k.ex
  cases kk with
  | true => exact iteT ((ha.go ρ m1 A (p1.1 rfl)).run F0 σ H1 F1 (S.go g) E V tk (k.go g))
  | false => exact iteF ((hb.go ρ m1 A (p1.2 rfl)).run F0 σ H1 F1 (S.go g) E V tk (k.go g))⟩⟩
theorem s_for (hi : SI X tg iter is ts) (hg : XG X tg g) (hb : SSs X body ub) (hp : PassesOwn (model X.prog X.w) X.A X.env X.xe := by exact passes_of rfl) (hc : X.calm = true := by rfl) (hs : ∀ x, foldedSetIterable iter X.env x = pure x := by intro _; rfl) : SS1 X (.For tg iter body [] pos) (.fo g is ts ub) := ⟨fun ρ m A p => ⟨fun F0 σ H F S E V tk k => by
  refine wS_of (ps_for hp hc pi_w pg_w pss_w hs) ?_
  refine (hi.go ρ m _ _ p).run F0 σ H F S _ V tk (fun J H1 F1 items GG m1 p1 g1 wd => ?_) k.ex
  obtain ⟨Iv, h0, hG, step, hd⟩ := p1
  refine ⟨fun i n σ' H' => n = items.length - i ∧ i ≤ items.length ∧ ∃ F' ρ' m', Iv i ρ' m' ∧ Go X.K m1 H1 F1 m' H' F' ∧ StR X.K F0 σ' H' F' ρ' m', ⟨items.length, by simp, Nat.zero_le _, F1, ρ, m1, h0, Go.refl g1.std, S.go g1⟩, ?_⟩
  rintro i n σ' H' ⟨rfl, hi, F', ρ', m', iv, g2, S'⟩
  by_cases hlt : i < items.length
  · refine .inr ⟨wd.goes i H' F' m' hlt g2.grow S'.std (hG i _ _ iv), fun σ2 H2 => ∃ F2 ρ2 m2, Iv (i + 1) ρ2 m2 ∧ Go X.K m1 H1 F1 m2 H2 F2 ∧ StR X.K F0 σ2 H2 F2 ρ2 m2, fun σ2 H2 q => ⟨items.length - (i + 1), by omega, rfl, hlt, q⟩, fun x H2 y => ?_⟩
    obtain ⟨F2, g3, r⟩ := wd.yields i H' F' m' x H2 items[i] (List.getElem?_eq_getElem hlt) g2.grow S'.std (hG i _ _ iv) y
    have st := step i items[i] ρ' m' (List.getElem?_eq_getElem hlt) iv
    cases eb : bindG g items[i] ρ' with
    | none => rw [eb] at st; exact st.elim
    | some ρ2 =>
      rw [eb] at st
      refine hg.run F0 σ' H2 F2 m' x _ _ _ eb (S'.go g3) r _ fun σ3 S3 _ _ => ?_
      refine (hb.go ρ2 m' _ st).run F0 σ3 H2 F2 S3 _ V tk ⟨?_, ?_, ?_, ?_, (k.ex.go ((g1.trans g2).trans g3))⟩
      · exact fun σ4 H4 F4 ρ4 m4 p g4 S4 => ⟨F4, ρ4, m4, p, (g2.trans g3).trans g4, S4⟩
      · exact fun v H4 F4 d m4 p g4 r4 => k.rt v H4 F4 d m4 p (((g1.trans g2).trans g3).trans g4) r4
      · exact fun σ4 H4 F4 ρ4 m4 p g4 S4 => k.nx σ4 H4 F4 ρ4 m4 p (((g1.trans g2).trans g3).trans g4) S4
      · exact fun σ4 H4 F4 ρ4 m4 p g4 S4 => ⟨F4, ρ4, m4, p, (g2.trans g3).trans g4, S4⟩
  · have e1 : i = items.length := by omega
    subst e1
    exact .inl ⟨wd.stops H' F' m' g2.grow S'.std (hG _ _ _ iv), k.nx σ' H' F' ρ' m' (hd ρ' m' iv) (g1.trans g2) S'⟩⟩⟩
def bG (X : Cx) (scope : Scope) (tg : Expr) : TG := fun v σ H Q => ∀ (s0 : Shared) (H0 : Hp) (C : Addr) (cl : List (Str × Addr)) (fp : List Addr), wG (X.blk s0 H0 scope (compEnvC scope cl C X.env) fp) tg v σ H Q
def bE (X : Cx) (scope : Scope) (e : Expr) : TE := fun σ H Q => ∀ (s0 : Shared) (H0 : Hp) (C : Addr) (cl : List (Str × Addr)) (fp : List Addr), wE (X.blk s0 H0 scope (compEnvC scope cl C X.env) fp) e σ H Q
def bT (X : Cx) (scope : Scope) (e : Expr) : TT := fun σ H Q => ∀ (s0 : Shared) (H0 : Hp) (C : Addr) (cl : List (Str × Addr)) (fp : List Addr), wT (X.blk s0 H0 scope (compEnvC scope cl C X.env) fp) e σ H Q
def bTs (X : Cx) (scope : Scope) : List Expr → TT
  | [] => tYes
  | [c] => bT X scope c
  | _ => fun _ _ _ => False
theorem bG_pg {scope : Scope} (s0 : Shared) (H0 : Hp) (C : Addr) (cl : List (Str × Addr)) (fp : List Addr) : PG (X.blk s0 H0 scope (compEnvC scope cl C X.env) fp) tg (bG X scope tg) := ⟨fun pins s σ H v u Q I r h => h s0 H0 C cl fp pins s u I r⟩
theorem bE_pe {scope : Scope} (s0 : Shared) (H0 : Hp) (C : Addr) (cl : List (Str × Addr)) (fp : List Addr) : PE (X.blk s0 H0 scope (compEnvC scope cl C X.env) fp) e (bE X scope e) := ⟨fun pins s σ H Q I h => h s0 H0 C cl fp pins s I⟩
theorem bT_pt {scope : Scope} (s0 : Shared) (H0 : Hp) (C : Addr) (cl : List (Str × Addr)) (fp : List Addr) : PT (X.blk s0 H0 scope (compEnvC scope cl C X.env) fp) e (bT X scope e) := ⟨fun pins s σ H Q I h => h s0 H0 C cl fp pins s I⟩
theorem bTs_pts {scope : Scope} (hi : ifs.length ≤ 1) (s0 : Shared) (H0 : Hp) (C : Addr) (cl : List (Str × Addr)) (fp : List Addr) : PTs (X.blk s0 H0 scope (compEnvC scope cl C X.env) fp) ifs (bTs X scope ifs) := by
  match ifs, hi with
  | [], _ => exact pts_nil
  | [c], _ => exact pts_one (bT_pt s0 H0 C cl fp)
/-- the test of a comprehension -/
inductive SL (X : Cx) (scope : Scope) : List Expr → Ts → Prop where
  | no : SL X scope [] .nil
  | one {c : Expr} {t : T} (h : ∀ s H C cl fp, ST (X.blk s H scope (compEnvC scope cl C X.env) fp) c t) : SL X scope [c] (.cons t .nil)
theorem SL.le {scope : Scope} (h : SL X scope ifs tifs) : ifs.length ≤ 1 := by
  cases h with
  | no => exact Nat.zero_le _
  | one h => exact Nat.le_refl _
theorem lc_in {scope : Scope} {own : List (Str × Nat)} {F0 F1 H1 : Hp} {J : L2.It} {items : List D} {GG : MS → Prop} {m1 : MS} {ρ : Env1} {σ : L2.St} (wd : WalkD X.K F1 J items GG) (hv : own.map (·.2) = g.vars) (hg : ∀ s H C cl fp, XG (X.blk s H scope (compEnvC scope cl C X.env) fp) tg g) (hf : SL X scope ifs tifs) (he : ∀ s H C cl fp, SE (X.blk s H scope (compEnvC scope cl C X.env) fp) elt te)
    (Iv : Nat → List D → MS → Prop) (h0 : Iv 0 [] m1) (hG : ∀ i acc mi, i ≤ items.length → Iv i acc mi → GG mi) (hz : items.length ≤ 100000)
    (step : ∀ i d acc m', items[i]? = some d → Iv i acc m' → match bindG g d (wipeR ρ g.vars) with
        | some ρ' => Wl tifs ρ' m' (fun b m'' => (b = true → W te ρ' m'' (fun d' m3 => Iv (i + 1) (acc ++ [d']) m3) EX0) ∧ (b = false → Iv (i + 1) acc m''))
        | none => False)
    (S1 : StR X.K F0 σ H1 F1 ρ m1) {Q : VK} (q : ∀ L vs H' F' acc m', Iv items.length acc m' → Go X.K m1 H1 F1 m' H' F' → H1 L = none → m' L = none → F' L = none → H' L = some (.lst vs) → Rps X.K F' vs acc → Q (.ref L) H') :
    ∀ L, H1 L = none → ∃ W : Nat → Nat → Hp → Prop, (∃ m, W 0 m (upd H1 L (.lst []))) ∧ ∀ i m H, W i m H →
  (J.stop i H ∧ Q (.ref L) H) ∨ (J.go i H ∧ ∃ Nx : Hp → Prop, (∀ H', Nx H' → ∃ m', m' < m ∧ W (i + 1) m' H') ∧ ∀ x H', J.yld i H x H' → bG X scope tg x (wipe σ (own.map (·.2))) H' fun σ2 H2 => wipe σ2 (own.map (·.2)) = wipe σ (own.map (·.2)) ∧ bTs X scope ifs σ2 H2 fun b H3 =>
    if b = true then bE X scope elt σ2 H3 fun y H4 => ∃ acc, H4 L = some (.lst acc) ∧ acc.length < sizeLine ∧ Nx (upd H4 L (.lst (acc ++ [y]))) else Nx H3) := by
  intro L hL
  refine ⟨fun i n H' => n = items.length - i ∧ i ≤ items.length ∧ ∃ F' vs acc mi, Iv i acc mi ∧ acc.length ≤ i ∧ Go X.K m1 H1 F1 mi H' F' ∧ F' L = none ∧ mi L = none ∧ H' L = some (.lst vs) ∧ Rps X.K F' vs acc, ⟨items.length, by simp, Nat.zero_le _, F1, [], [], m1, h0, Nat.le_refl _, Go.junk S1.std hL, S1.std.freeF hL, S1.std.free hL, upd_same, .nil⟩, ?_⟩
  rintro i n H' ⟨rfl, hile, F', vs, acc, mi, iv, hal, g2, hFL, hmL, hHL, hacc⟩
  by_cases hlt : i < items.length
  · refine .inr ⟨wd.goes i H' F' mi hlt g2.grow g2.std (hG i acc mi hile iv), fun H2 => ∃ F2 vs2 acc2 m2, Iv (i + 1) acc2 m2 ∧ acc2.length ≤ i + 1 ∧ Go X.K m1 H1 F1 m2 H2 F2 ∧ F2 L = none ∧ m2 L = none ∧ H2 L = some (.lst vs2) ∧ Rps X.K F2 vs2 acc2, fun H2 q2 => ⟨items.length - (i + 1), by omega, rfl, hlt, q2⟩, fun x H2 y => ?_⟩
    obtain ⟨F2, g3, r⟩ := wd.yields i H' F' mi x H2 items[i] (List.getElem?_eq_getElem hlt) g2.grow g2.std (hG i acc mi hile iv) y
    have st := step i items[i] acc mi (List.getElem?_eq_getElem hlt) iv
    cases eb : bindG g items[i] (wipeR ρ g.vars) with
    | none => rw [eb] at st; exact st.elim
    | some ρ2 =>
    rw [eb] at st
    -- L through a step
    have keep : ∀ {ma mb : MS} {Ha Fa Hb Fb : Hp} {us : List V}, Go X.K ma Ha Fa mb Hb Fb → Fa L = none → ma L = none → Ha L = some (.lst us) → Fb L = none ∧ mb L = none ∧ Hb L = some (.lst us) := fun {ma mb Ha Fa Hb Fb us} g hf hm hh => by
      obtain ⟨e1, e2⟩ := of_fz (g.same L _ (fz_of hm hh))
      refine ⟨?_, e1, e2⟩
      cases e : Fb L with
      | none => rfl
      | some u =>
        rcases g.fresh L (by rw [e]; exact fun z => nomatch z) with z | z | z
        · exact absurd hf z
        · rw [hh] at z; cases z
        · exact absurd hm z
    obtain ⟨k1, k2, k3⟩ := keep g3 hFL hmL hHL
    have S2 : StR X.K F0 (wipe σ (own.map (·.2))) H2 F2 (wipeR ρ g.vars) mi := by
      rw [hv]; exact (S1.wipe _).go (g2.trans g3)
    intro s0 H0 C cl fp
    refine (hg s0 H0 C cl fp).run F0 _ H2 F2 mi x _ _ _ eb S2 r _ fun σ2 S3 l3 e3 => ⟨?_, ?_⟩
    · rw [hv]
      rw [hv] at l3 e3
      rw [wipe_eq (vs := g.vars) l3 e3]
      exact wipe_eq (wipe_length σ _) fun j hj => wipe_out hj
    -- the element
    have elem : ∀ {mc : MS} {H3 F3 : Hp}, W te ρ2 mc (fun d m' => Iv (i + 1) (acc ++ [d]) m') EX0 → Go X.K mi H2 F2 mc H3 F3 →
        bE X scope elt σ2 H3 fun y H4 => ∃ ac, H4 L = some (.lst ac) ∧ ac.length < sizeLine ∧ ∃ F2 vs2 acc2 m2, Iv (i + 1) acc2 m2 ∧ acc2.length ≤ i + 1 ∧ Go X.K m1 H1 F1 m2 (upd H4 L (.lst (ac ++ [y]))) F2 ∧ F2 L = none ∧ m2 L = none ∧ (upd H4 L (.lst (ac ++ [y]))) L = some (.lst vs2) ∧ Rps X.K F2 vs2 acc2 := fun {mc H3 F3} xe g4 s1 H01 C1 cl1 fp1 => by
      obtain ⟨c1, c2, c3⟩ := keep g4 k1 k2 k3
      refine ((he s1 H01 C1 cl1 fp1).go ρ2 mc _ EX0 xe).run F0 σ2 H3 F3 (S3.go g4) _ V0 takes0 (fun y H4 F4 dd m4 p4 g5 r5 => ?_) exk0
      obtain ⟨b1, b2, b3⟩ := keep g5 c1 c2 c3
      refine ⟨vs, b3, ?_, F4, vs ++ [y], acc ++ [dd], m4, p4, ?_, ?_, b1, b2, upd_same, ?_⟩
      · rw [hacc.length]
        exact Nat.lt_of_le_of_lt (show acc.length ≤ 100000 by omega) (by decide)
      · rw [List.length_append]; show acc.length + 1 ≤ i + 1; omega
      · exact (((g2.trans g3).trans g4).trans g5).patch hL b2 b1
      · exact (hacc.up (((g3.trans g4).trans g5).grow)).append (.one r5)
    cases hf with
    | no =>
      have st : ((true = true → W te ρ2 mi (fun d' m3 => Iv (i + 1) (acc ++ [d']) m3) EX0) ∧ (true = false → Iv (i + 1) acc mi)) := st
      simp only [bTs, tYes]
      rw [if_pos trivial]
      exact elem (st.1 rfl) (Go.refl S3.std)
    | @one cc tt hc =>
      show bT X scope cc σ2 H2 _
      intro s1 H01 C1 cl1 fp1
      refine ((hc s1 H01 C1 cl1 fp1).go ρ2 mi _ (fun b m'' => (b = true → W te ρ2 m'' (fun d' m3 => Iv (i + 1) (acc ++ [d']) m3) EX0) ∧ (b = false → Iv (i + 1) acc m'')) EX0 st (fun d m1 z => z)).run F0 σ2 H2 F2 S3 _ V0 takes0 (fun bb H3 F3 mc p4 g4 => ?_) exk0
      cases bb with
      | true => exact iteT (elem (p4.1 rfl) g4)
      | false =>
        obtain ⟨c1, c2, c3⟩ := keep g4 k1 k2 k3
        exact iteF ⟨F3, vs, acc, mc, p4.2 rfl, by omega, (g2.trans g3).trans g4, c1, c2, c3, hacc.up ((g3.trans g4).grow)⟩
  · have e1 : i = items.length := by omega
    subst e1
    exact .inl ⟨wd.stops H' F' mi g2.grow g2.std (hG _ _ _ (Nat.le_refl _) iv), q L vs H' F' acc mi iv g2 hL hmL hFL hHL hacc⟩
theorem newL_fin {K : PySem.W.Frag} {m0 : MS} {H0 F0 H' F' : Hp} {m' : MS} {L : Addr} {vs : List V} {acc : List D} {P : NX} {Q : VK} (n : NewL acc m' P) (q : ∀ v H' F' d m', P d m' → Go K m0 H0 F0 m' H' F' → Rp K F' v d → Q v H') (g : Go K m0 H0 F0 m' H' F') (h1 : H0 L = none) (h2 : m' L = none) (h3 : F' L = none) (h4 : H' L = some (.lst vs)) (h5 : Rps K F' vs acc) : Q (.ref L) H' := by
  rcases n with n | n
  · exact q (.ref L) H' (upd F' L (.lst vs)) _ m' n (g.adopt h1 h2 h3 h4) (.lst upd_same (h5.up fun a u e => by rw [upd_ne (ne_of_none e h3)]; exact e))
  · exact q (.ref L) H' F' _ _ (n L h2) (g.adoptC h1 h2 h3 h4 h5) (.raw _)
/-- a list comprehension -/
theorem lc_go {scope : Scope} {own : List (Str × Nat)} (hi : SI X tg iter is ts) (hv : own.map (·.2) = g.vars) (hg : ∀ s H C cl fp, XG (X.blk s H scope (compEnvC scope cl C X.env) fp) tg g) (hf : SL X scope ifs tifs) (he : ∀ s H C cl fp, SE (X.blk s H scope (compEnvC scope cl C X.env) fp) elt te)
    {ρ : Env1} {m : MS} {P : NX} {Z : EX} (p : W (.lc g is ts tifs te) ρ m P Z) {F0 : Hp} {σ : L2.St} {H F : Hp} (S : StR X.K F0 σ H F ρ m) {Q : VK} {V : WX} (tk : Takes X V) (q : ∀ v H' F' d m', P d m' → Go X.K m H F m' H' F' → Rp X.K F' v d → Q v H') (kx : ExK X F0 m H F Z V) :
    tLc (wI X tg iter) (bG X scope tg) (bTs X scope ifs) (bE X scope elt) (own.map (·.2)) σ H Q := by
  refine (hi.go ρ m _ Z p).run F0 σ H F S _ V tk (fun J H1 F1 items GG m1 p1 g1 wd => ?_) kx
  obtain ⟨hz, Iv, h0, hG, step, hd⟩ := p1
  exact lc_in wd hv hg hf he Iv h0 hG hz step (S.go g1) fun L vs H' F' acc m' iv g a1 a2 a3 a4 a5 => newL_fin (hd acc m' iv) q (g1.trans g) (by
    cases e : H L with
    | none => rfl
    | some u => exact absurd a1 (g1.kept L (by rw [e]; exact fun z => nomatch z))) a2 a3 a4 a5
theorem se_lc {scope : Scope} {own : List (Str × Nat)} (hN : X.N.Nodup) (hi : SI X tg iter is ts) (ok : BlkOk X.N X.env.scope scope own) (hv : own.map (·.2) = g.vars) (hg : ∀ s H C cl fp, XG (X.blk s H scope (compEnvC scope cl C X.env) fp) tg g) (hf : SL X scope ifs tifs) (he : ∀ s H C cl fp, SE (X.blk s H scope (compEnvC scope cl C X.env) fp) elt te)
    (hc : X.calm = true := by rfl) (hs : ∀ x, foldedSetIterable iter X.env x = pure x := by intro _; rfl) : SE X (.ListComp elt [⟨tg, iter, ifs, 0⟩] scope pos) (.lc g is ts tifs te) := ⟨fun ρ m P Z p => ⟨fun F0 σ H F S Q V tk q kx =>
  wE_of (pe_lc hc hN pi_w ok bG_pg (bTs_pts hf.le) bE_pe hs) (lc_go hi hv hg hf he p S tk q kx)⟩⟩
end
end Nu
namespace Nu
open PySem PySem.Spec L2
open PyProof.Rows hiding St
def SqA (K : PySem.W.Frag) : Bool → Hp → Addr → List V → Prop
  | true => SqT K
  | false => SqL K
def ItA : Bool → Heap → Addr → Addr → Nat → Prop
  | true => fun h it l i => h.IsTupleIter it l i
  | false => fun h it l i => h.IsListIter it l i
def CtA : Bool → Heap → Addr → Array Value → Prop
  | true => fun h l its => h.IsTuple l its
  | false => fun h l its => h.IsList l its
def itO : Bool → Addr → Obj
  | true, l => { cls := .type "tuple_iterator", data := .fields #[.ref l, .int 0 0] }
  | false, l => { cls := .type "list_iterator", data := .fields #[.ref l, .int 0 0] }
section
variable {X : Cx} {pins : List (Addr × Obj)} {σ : L2.St} {H : Hp} {s : Shared} {a it l : Addr} {xs ys : List V} {tp : Bool} {h h' : Heap} {i : Nat} {its : Array Value}
theorem seqA_at (I : Inv X pins σ H s) (q : SqA X.K tp H a xs) : ∃ its : List Value, Vals xs its ∧ CtA tp s.heap a its.toArray := by
  cases tp with
  | true =>
    obtain ⟨its, r, p, _⟩ := I.tuple q
    exact ⟨its, r, p⟩
  | false =>
    obtain ⟨its, r, p, _⟩ := I.list q
    exact ⟨its, r, p.isList⟩
theorem seqA_inj (I : Inv X pins σ H s) (q : SqA X.K tp H a xs) (q' : SqA X.K tp H a ys) : xs = ys := by
  cases tp with
  | true => exact I.tuple_inj q q'
  | false => exact I.list_inj q q'
theorem ctA_lt (q : CtA tp h l its) : l < h.objs.size := by
  cases tp with
  | true => obtain ⟨o, e, _⟩ := (show h.IsTuple l its from q); exact Heap.lt_size e
  | false => obtain ⟨o, e, _⟩ := (show h.IsList l its from q); exact Heap.lt_size e
theorem itA_at (q : ItA tp h it l i) (k : ∀ o, h.get? it = some o → h'.get? it = some o) : ItA tp h' it l i := by
  cases tp with
  | true => exact (show h.IsTupleIter it l i from q).at k
  | false => exact (show h.IsListIter it l i from q).at k
theorem itA_obj (q : ItA tp h it l i) : ∃ o, h.get? it = some o ∧ ∀ v, o.data ≠ .cell v := by
  cases tp with
  | true => obtain ⟨o, e, _, d⟩ := (show h.IsTupleIter it l i from q); exact ⟨o, e, fun v z => by rw [d] at z; cases z⟩
  | false => obtain ⟨o, e, _, d⟩ := (show h.IsListIter it l i from q); exact ⟨o, e, fun v z => by rw [d] at z; cases z⟩
theorem itA_new (q : h.get? it = some (itO tp l)) : ItA tp h it l 0 := by
  cases tp with
  | true => exact ⟨_, q, rfl, rfl⟩
  | false => exact ⟨_, q, rfl, rfl⟩
theorem drawsA {prog : Program} {w : World} {A : Around} (hh : A.handled = none) (tp : Bool) (it l : Addr) (hne : l ≠ it) (items : Array Value) :
    Draws prog w A it [it, l] items.size (fun i v => items[i]? = some v) (fun i h => ItA tp h it l i ∧ CtA tp h l items) := by
  cases tp with
  | true => exact Draws.tuple hh it l hne items
  | false => exact Draws.list hh it l hne items
theorem beginsA (tp : Bool) (l : Addr) (items : Array Value) : Begins (.ref l) (itO tp l) fun h => CtA tp h l items := by
  cases tp with
  | true => exact begins_tuple l items
  | false => exact begins_list l items
end
def J2 (K : PySem.W.Frag) (t1 t2 : Bool) (a b : Addr) : It :=
  ⟨fun i H => ∃ (xs ys : List V), SqA K t1 H a xs ∧ SqA K t2 H b ys ∧ i < min xs.length ys.length,
    fun i H v H' => ∃ T x y, v = .ref T ∧ H T = none ∧ H' = upd H T (.tup [x, y]) ∧ (∀ xs, SqA K t1 H a xs → xs[i]? = some x) ∧ ∀ ys, SqA K t2 H b ys → ys[i]? = some y,
    fun i H => ∃ xs ys : List V, SqA K t1 H a xs ∧ SqA K t2 H b ys ∧ i = min xs.length ys.length⟩
def JE (K : PySem.W.Frag) (t1 : Bool) (a : Addr) : It :=
  ⟨fun i H => ∃ (xs : List V), SqA K t1 H a xs ∧ i < xs.length,
    fun i H v H' => ∃ T x, v = .ref T ∧ H T = none ∧ H' = upd H T (.tup [.int (i : Nat), x]) ∧ ∀ xs, SqA K t1 H a xs → xs[i]? = some x,
    fun i H => ∃ xs : List V, SqA K t1 H a xs ∧ i = xs.length⟩
theorem tup_ok {P : Program} {w : World} {H : Hp} {h : Heap} {T : Addr} {xs : List V} {us : List Value} {its : Array Value} (e : its = us.toArray) (hT : h.IsTuple T its) (r : Vals xs us) (hl : xs.length ≤ 100) : ObjOk P w H h T (.tup xs) := by
  subst e
  exact ⟨Nat.le_trans hl (by decide), us, r, hT⟩
theorem turn_z2 {P : Program} {w : World} {K : PySem.W.Frag} {elts : List Expr} {kk : Nat} {tpos : Pos} {t1 t2 : Bool} {a b N : Addr} (la : a < N) (lb : b < N) :
    Turn P w K (.Tuple elts kk tpos) (J2 K t1 t2 a b) [N + 4, N + 2, N + 3, N, N + 1] (N + 4) (fun i h => IsZip h (N + 4) (N + 2) (N + 3) .none ∧ IsTupOf2 h (N + 2) (.ref N) (.ref (N + 1)) ∧ (∃ x y, IsTupOf2 h (N + 3) x y) ∧ ItA t1 h N a i ∧ ItA t2 h (N + 1) b i) where
  mem := by simp
  obj := fun i h st c hc => by
    obtain ⟨hz, hTI, ⟨x, y, hTO⟩, h1, h2⟩ := st
    have e' : c = N + 4 ∨ c = N + 2 ∨ c = N + 3 ∨ c = N ∨ c = N + 1 := by simpa using hc
    rcases e' with q | q | q | q | q
    · rw [q]; exact ⟨_, hz, fun v q => nomatch q⟩
    · rw [q]; exact ⟨_, hTI, fun v q => nomatch q⟩
    · rw [q]; exact ⟨_, hTO, fun v q => nomatch q⟩
    · rw [q]; exact itA_obj h1
    · rw [q]; exact itA_obj h2
  keep := fun i h h' st k => by
    obtain ⟨hz, hTI, ⟨x, y, hTO⟩, h1, h2⟩ := st
    exact ⟨k _ (by simp) _ hz, k _ (by simp) _ hTI, ⟨x, y, k _ (by simp) _ hTO⟩, itA_at h1 fun o q => k _ (by simp) o q, itA_at h2 fun o q => k _ (by simp) o q⟩
  item := by
    intro X hP hw hK hc i pins s σ H E I hf st hg
    subst hP hw hK
    obtain ⟨hz, hTI, hTO, h1, h2⟩ := st
    obtain ⟨xs, ys, hqx, hqy, hi⟩ := hg
    obtain ⟨its, rv, p⟩ := seqA_at I hqx
    obtain ⟨its2, rv2, p2⟩ := seqA_at I hqy
    have l1 := rv.length
    have l2 := rv2.length
    have G := GoesN.zip2 (prog := X.prog) (w := X.w) (A := X.A) (elts := elts) (x1 := kk) (pos := tpos) (zip_sep2 (N := N) (fp1 := [a]) (fp2 := [b]) (by simpa using la) (by simpa using lb))
      (drawsA (A := X.A.in1) (show X.A.in1.handled = none from I.ok.hd hc) t1 N a (Nat.ne_of_lt la) its.toArray) (drawsA (A := X.A.in1) (show X.A.in1.handled = none from I.ok.hd hc) t2 (N + 1) b (Nat.ne_of_lt (Nat.lt_succ_of_lt lb)) its2.toArray)
    refine wpAny_mono (G.goes i s (fun v s2 => ∃ x H', Inv X pins σ H' s2 ∧ RelV x v ∧ (J2 X.K t1 t2 a b).yld i H x H' ∧ (IsZip s2.heap (N + 4) (N + 2) (N + 3) .none ∧ IsTupOf2 s2.heap (N + 2) (.ref N) (.ref (N + 1)) ∧ (∃ x y, IsTupOf2 s2.heap (N + 3) x y) ∧ ItA t1 s2.heap N a (i + 1) ∧ ItA t2 s2.heap (N + 1) b (i + 1)) ∧ ∀ c ∈ [N + 4, N + 2, N + 3, N, N + 1], H' c = none) E (by simp only [List.size_toArray]; omega) ⟨hz, hTI, hTO, ⟨h1, p⟩, ⟨h2, p2⟩⟩ fun v h' tk hY hst hk htk => ?_) (fun r s1 hq => ?_) fun _ _ z => z
    · obtain ⟨T, x, y, rfl, hTn, hx, hy, hT⟩ := hY
      have hx' : its[i]? = some x := by simpa using hx
      have hy' : its2[i]? = some y := by simpa using hy
      have hix : i < xs.length := by omega
      have hiy : i < ys.length := by omega
      obtain ⟨u, hu, ru⟩ := rv.get (List.getElem?_eq_getElem hix)
      obtain ⟨u2, hu2, ru2⟩ := rv2.get (List.getElem?_eq_getElem hiy)
      rw [hx'] at hu; cases hu
      rw [hy'] at hu2; cases hu2
      have new : ObjOk X.prog X.w (upd H T (.tup [xs[i], ys[i]])) h' T (.tup [xs[i], ys[i]]) := tup_ok rfl hT (us := [x, y]) (.cons ru (.cons ru2 .nil)) (by simp)
      have I1 : Inv X pins σ (upd H T (.tup [xs[i], ys[i]])) { s with heap := h', toks := tk } := I.turnedNew (t' := tk) (ch := [N + 4, N + 2, N + 3, N, N + 1]) (fun c o hb q => hk c o (fun hm => hb (by
        have e' : c = N + 4 ∨ c = N + 3 ∨ c = N ∨ c = N + 1 := by simpa using hm
        rcases e' with z | z | z | z <;> simp [z])) q) hf hTn new
      obtain ⟨z1, z2, z3, z4, z5⟩ := hst
      refine ⟨.ref T, _, I1, rfl, ⟨T, _, _, rfl, I.hok.fresh hTn, rfl, fun l hl => ?_, fun l hl => ?_⟩, ⟨z1, z2, z3, z4.1, z5.1⟩, fun c hcm => ?_⟩
      · rw [seqA_inj I hl hqx]; exact List.getElem?_eq_getElem hix
      · rw [seqA_inj I hl hqy]; exact List.getElem?_eq_getElem hiy
      · have hlt : c < s.heap.objs.size := by
          have e' : c = N + 4 ∨ c = N + 2 ∨ c = N + 3 ∨ c = N ∨ c = N + 1 := by simpa using hcm
          obtain ⟨_, _, hTO⟩ := hTO
          rcases e' with q | q | q | q | q
          · rw [q]; exact Heap.lt_size hz
          · rw [q]; exact Heap.lt_size hTI
          · rw [q]; exact Heap.lt_size hTO
          · rw [q]; obtain ⟨_, e1, _⟩ := itA_obj h1; exact Heap.lt_size e1
          · rw [q]; obtain ⟨_, e2, _⟩ := itA_obj h2; exact Heap.lt_size e2
        rw [upd_ne (Nat.ne_of_lt (Nat.lt_of_lt_of_le hlt hTn))]
        exact (hf c hcm).1
    · obtain ⟨v, e, hq⟩ := hq
      exact ⟨v, e, hq⟩
  done := by
    intro X hP hw hK hc i pins s σ H E I hf st hg
    subst hP hw hK
    obtain ⟨hz, hTI, hTO, h1, h2⟩ := st
    obtain ⟨xs, ys, hqx, hqy, rfl⟩ := hg
    obtain ⟨its, rv, p⟩ := seqA_at I hqx
    obtain ⟨its2, rv2, p2⟩ := seqA_at I hqy
    have l1 := rv.length
    have l2 := rv2.length
    have G := GoesN.zip2 (prog := X.prog) (w := X.w) (A := X.A) (elts := elts) (x1 := kk) (pos := tpos) (zip_sep2 (N := N) (fp1 := [a]) (fp2 := [b]) (by simpa using la) (by simpa using lb))
      (drawsA (A := X.A.in1) (show X.A.in1.handled = none from I.ok.hd hc) t1 N a (Nat.ne_of_lt la) its.toArray) (drawsA (A := X.A.in1) (show X.A.in1.handled = none from I.ok.hd hc) t2 (N + 1) b (Nat.ne_of_lt (Nat.lt_succ_of_lt lb)) its2.toArray)
    refine G.stops s _ E ?_ fun h' tk hk htk => I.turnedL (t' := tk) (ch := [N + 4, N + 2, N + 3, N, N + 1]) (fun c o hb q => hk c o (fun hm => hb (by
        have e' : c = N + 4 ∨ c = N + 3 ∨ c = N ∨ c = N + 1 := by simpa using hm
        rcases e' with z | z | z | z <;> simp [z])) q) hf
    simp only [List.size_toArray]
    rw [← l1, ← l2]
    exact ⟨hz, hTI, hTO, ⟨h1, p⟩, ⟨h2, p2⟩⟩
  self := fun A i s Q E st h => wpAny_pyIter_zip st.1 h
theorem turn_en {P : Program} {w : World} {K : PySem.W.Frag} {elts : List Expr} {kk : Nat} {tpos : Pos} {t1 : Bool} {a N : Addr} (la : a < N) :
    Turn P w K (.Tuple elts kk tpos) (JE K t1 a) [N + 1, N] (N + 1) (fun i h => (∃ old, IsEnum h (N + 1) N ((0 : Int) + (i : Nat)) old) ∧ ItA t1 h N a i) where
  mem := by simp
  obj := fun i h st c hc => by
    obtain ⟨⟨_, hz⟩, h1⟩ := st
    have e' : c = N + 1 ∨ c = N := by simpa using hc
    rcases e' with q | q
    · rw [q]; exact ⟨_, hz, fun v q => nomatch q⟩
    · rw [q]; exact itA_obj h1
  keep := fun i h h' st k => by
    obtain ⟨⟨o, hz⟩, h1⟩ := st
    exact ⟨⟨o, k _ (by simp) _ hz⟩, itA_at h1 fun o q => k _ (by simp) o q⟩
  item := by
    intro X hP hw hK hc i pins s σ H E I hf st hg
    subst hP hw hK
    obtain ⟨hz, h1⟩ := st
    obtain ⟨xs, hqx, hi⟩ := hg
    obtain ⟨its, rv, p⟩ := seqA_at I hqx
    have l1 := rv.length
    have G := GoesN.enumFrom (prog := X.prog) (w := X.w) (A := X.A) (elts := elts) (x1 := kk) (pos := tpos) 0 (drawsA (A := X.A.in1) (show X.A.in1.handled = none from I.ok.hd hc) t1 N a (Nat.ne_of_lt la) its.toArray) (N + 1) (Nat.succ_ne_self _) (fun hm => by
      have e' : N + 1 = N ∨ N + 1 = a := by simpa using hm
      rcases e' with z | z
      · exact absurd z (Nat.succ_ne_self _)
      · exact absurd z (Nat.ne_of_gt (Nat.lt_succ_of_lt la))) (by simp)
    refine wpAny_mono (G.goes i s (fun v s2 => ∃ x H', Inv X pins σ H' s2 ∧ RelV x v ∧ (JE X.K t1 a).yld i H x H' ∧ ((∃ old, IsEnum s2.heap (N + 1) N ((0 : Int) + ((i + 1 : Nat))) old) ∧ ItA t1 s2.heap N a (i + 1)) ∧ ∀ c ∈ [N + 1, N], H' c = none) E (by simp only [List.size_toArray]; omega) ⟨hz, h1, p⟩ fun v h' tk hY hst hk htk => ?_) (fun r s1 hq => ?_) fun _ _ z => z
    · obtain ⟨T, t, x, rfl, hTn, hx, hT⟩ := hY
      have hx' : its[i]? = some x := by simpa using hx
      have hix : i < xs.length := by omega
      obtain ⟨u, hu, ru⟩ := rv.get (List.getElem?_eq_getElem hix)
      rw [hx'] at hu; cases hu
      have new : ObjOk X.prog X.w (upd H T (.tup [.int (i : Nat), xs[i]])) h' T (.tup [.int (i : Nat), xs[i]]) := tup_ok rfl hT (us := [.int ((0 : Int) + (i : Nat)) t, x]) (.cons ⟨t, by rw [Int.zero_add]⟩ (.cons ru .nil)) (by simp)
      have I1 : Inv X pins σ (upd H T (.tup [.int (i : Nat), xs[i]])) { s with heap := h', toks := tk } := I.turnedNew (t' := tk) (ch := [N + 1, N]) (fun c o hb q => hk c o hb q) hf hTn new
      obtain ⟨z1, z2⟩ := hst
      refine ⟨.ref T, _, I1, rfl, ⟨T, _, rfl, I.hok.fresh hTn, rfl, fun l hl => ?_⟩, ⟨z1, z2.1⟩, fun c hcm => ?_⟩
      · rw [seqA_inj I hl hqx]; exact List.getElem?_eq_getElem hix
      · have hlt : c < s.heap.objs.size := by
          have e' : c = N + 1 ∨ c = N := by simpa using hcm
          obtain ⟨_, hz⟩ := hz
          rcases e' with q | q
          · rw [q]; exact Heap.lt_size hz
          · rw [q]; obtain ⟨_, e1, _⟩ := itA_obj h1; exact Heap.lt_size e1
        rw [upd_ne (Nat.ne_of_lt (Nat.lt_of_lt_of_le hlt hTn))]
        exact (hf c hcm).1
    · obtain ⟨v, e, hq⟩ := hq
      exact ⟨v, e, hq⟩
  done := by
    intro X hP hw hK hc i pins s σ H E I hf st hg
    subst hP hw hK
    obtain ⟨hz, h1⟩ := st
    obtain ⟨xs, hqx, rfl⟩ := hg
    obtain ⟨its, rv, p⟩ := seqA_at I hqx
    have l1 := rv.length
    have G := GoesN.enumFrom (prog := X.prog) (w := X.w) (A := X.A) (elts := elts) (x1 := kk) (pos := tpos) 0 (drawsA (A := X.A.in1) (show X.A.in1.handled = none from I.ok.hd hc) t1 N a (Nat.ne_of_lt la) its.toArray) (N + 1) (Nat.succ_ne_self _) (fun hm => by
      have e' : N + 1 = N ∨ N + 1 = a := by simpa using hm
      rcases e' with z | z
      · exact absurd z (Nat.succ_ne_self _)
      · exact absurd z (Nat.ne_of_gt (Nat.lt_succ_of_lt la))) (by simp)
    refine G.stops s _ E ?_ fun h' tk hk htk => I.turnedL (t' := tk) (ch := [N + 1, N]) (fun c o hb q => hk c o hb q) hf
    simp only [List.size_toArray]
    rw [← l1]
    exact ⟨hz, h1, p⟩
  self := fun A i s Q E st h => by
    obtain ⟨⟨_, e⟩, _⟩ := st
    exact wpAny_pyIter_enum e h
/-- a list, frozen or as a cell, or a tuple -/
def seqD (d : D) (m : MS) (R : List D → (MS → Prop) → Prop) : Prop := match d with
  | .lst xs => R xs fun _ => True
  | .fls xs => R xs fun _ => True
  | .ptp xs => R xs fun _ => True
  | .tup xs => R xs fun _ => True
  | .raw (.ref p) => ∃ xs, m p = some (.lst xs) ∧ R xs fun m' => m' p = some (.lst xs)
  | _ => False
theorem seqD_use {K : PySem.W.Frag} {m : MS} {H F : Hp} {d : D} {v : V} {R : List D → (MS → Prop) → Prop} (h : seqD d m R) (s : Std K m H F) (r : Rp K F v d) :
    ∃ a tp xs GG, v = .ref a ∧ R xs GG ∧ GG m ∧ ∀ m' H' F', Same F F' → Std K m' H' F' → GG m' → ∃ vs, SqA K tp H' a vs ∧ Rps K F' vs xs := by
  cases d with
  | lst xs =>
    cases r with
    | @lst a vs _ h1 h2 => exact ⟨a, false, xs, _, rfl, h, trivial, fun m' H' F' g s' _ => ⟨vs, .inl (.inl (s'.at (g _ _ h1))), h2.up g _⟩⟩
  | fls xs =>
    cases r with
    | @fls a vs _ h1 h2 => exact ⟨a, false, xs, _, rfl, h, trivial, fun m' H' F' g s' _ => ⟨vs, s'.toH.seq (g.seq h1.sq), h2.up g _⟩⟩
  | tup xs =>
    cases r with
    | @tup a vs _ h1 h2 => exact ⟨a, true, xs, _, rfl, h, trivial, fun m' H' F' g s' _ => ⟨vs, Same.seqT s'.toH (Same.seqT g h1), h2.up g _⟩⟩
  | ptp xs =>
    cases r with
    | @ptp a o vs _ h1 h0 h2 => exact ⟨a, true, xs, _, rfl, h, trivial, fun m' H' F' g s' _ => ⟨vs, Same.seqT s'.toH (Same.seqT g (.inl (.inr ⟨o, h1⟩))), h2.up g _⟩⟩
  | raw v =>
    cases v with
    | ref p =>
      cases r
      obtain ⟨xs, e, h⟩ := h
      refine ⟨p, false, xs, _, rfl, h, e, fun m' H' F' g s' e' => ?_⟩
      obtain ⟨vs, h1, h2⟩ := s'.cells p _ e'
      exact ⟨vs, .inl (.inl h1), h2⟩
    | _ => exact h.elim
  | _ => exact h.elim
def signs (z : Str) : List D := z.cps.toList.map fun c => .str ⟨#[c]⟩
def isVal : IS := fun ds m R => match ds with
  | [.str z] => R (signs z) (fun _ => True) m
  | [d] => seqD d m fun xs GG => R xs GG m
  | _ => False
def zipD (xs ys : List D) : List D := (xs.zip ys).map fun p => .tup [p.1, p.2]
def zip3D (xs ys zs : List D) : List D := ((xs.zip ys).zip zs).map fun p => .tup [p.1.1, p.1.2, p.2]
def enumD (xs : List D) : List D := xs.zipIdx.map fun p => .tup [.int (p.2 : Nat), p.1]
def rngD (lo : Int) (n : Nat) : List D := (List.range n).map fun i => D.int (lo + (i : Nat))
def rngC (lo c : Int) (n : Nat) : List D := (List.range n).map fun i => D.int (lo + (i : Nat) * c)
def isZip : IS := fun ds m R => match ds with
  | [a, b] => seqD a m fun xs G1 => seqD b m fun ys G2 => R (zipD xs ys) (fun m' => G1 m' ∧ G2 m') m
  | [a, b, c] => seqD a m fun xs G1 => seqD b m fun ys G2 => seqD c m fun zs G3 => R (zip3D xs ys zs) (fun m' => G1 m' ∧ G2 m' ∧ G3 m') m
  | _ => False
def isEnum : IS := fun ds m R => match ds with
  | [a] => seqD a m fun xs G1 => R (enumD xs) G1 m
  | _ => False
def isRng : IS := fun ds m R => match ds with
  | [.int j] => (-(2 ^ 62) ≤ j ∧ j < 2 ^ 62) ∧ R (rngD 0 j.toNat) (fun _ => True) m
  | [.int i, .int j] => (-(2 ^ 62) ≤ i ∧ i < 2 ^ 62 ∧ -(2 ^ 62) ≤ j ∧ j < 2 ^ 62) ∧ R (rngD i (j - i).toNat) (fun _ => True) m
  | [.int i, .int j, .int c] => (-(2 ^ 62) ≤ i ∧ i < 2 ^ 62 ∧ -(2 ^ 62) ≤ j ∧ j < 2 ^ 62 ∧ c = -1) ∧ R (rngC i (-1) (i - j).toNat) (fun _ => True) m
  | _ => False
theorem rps_last {K : PySem.W.Frag} {F : Hp} {vs : List V} {ds : List D} {i : Nat} {x : V} {d : D} (h : Rps K F vs ds) (e1 : vs[i]? = some x) (e2 : ds[i]? = some d) : Rp K F x d := by
  obtain ⟨v, a, b⟩ := h.get e2
  rw [e1] at a; cases a; exact b
theorem zipD_len (xs ys : List D) : (zipD xs ys).length = min xs.length ys.length := by simp [zipD]
theorem enumD_len (xs : List D) : (enumD xs).length = xs.length := by simp [enumD]
theorem zipD_get {xs ys : List D} {i : Nat} {d : D} (h : (zipD xs ys)[i]? = some d) : ∃ x y, xs[i]? = some x ∧ ys[i]? = some y ∧ d = .tup [x, y] := by
  unfold zipD at h
  rw [List.getElem?_map] at h
  cases e : (xs.zip ys)[i]? with
  | none => rw [e] at h; cases h
  | some p =>
    rw [e] at h
    obtain ⟨h1, h2⟩ := List.getElem?_zip_eq_some.mp e
    exact ⟨p.1, p.2, h1, h2, (Option.some.inj h).symm⟩
theorem enumD_get {xs : List D} {i : Nat} {d : D} (h : (enumD xs)[i]? = some d) : ∃ x, xs[i]? = some x ∧ d = .tup [.int (i : Nat), x] := by
  unfold enumD at h
  rw [List.getElem?_map, List.getElem?_zipIdx] at h
  cases e : xs[i]? with
  | none => rw [e] at h; cases h
  | some p =>
    rw [e] at h
    have := (Option.some.inj h).symm
    exact ⟨p, rfl, by simpa using this⟩
theorem rngD_get {lo : Int} {n i : Nat} {d : D} (h : (rngD lo n)[i]? = some d) : i < n ∧ d = .int (lo + (i : Nat)) := by
  unfold rngD at h
  rw [List.getElem?_map] at h
  by_cases hi : i < n
  · rw [List.getElem?_range hi] at h
    exact ⟨hi, (Option.some.inj h).symm⟩
  · rw [List.getElem?_eq_none (by simpa using hi)] at h; cases h
theorem rngD_len {lo : Int} {n : Nat} : (rngD lo n).length = n := by simp [rngD]
section
variable {X : Cx} {e a b c tg iter : Expr} {ts : Ts} {t ta tb tc : T} {pos : Pos} {K : PySem.W.Frag} {F1 : Hp} {items : List D} {GG : MS → Prop} {xs : List D} {ad : Addr}
theorem walk_lst (h : ∀ m' H' F', Same F1 F' → Std K m' H' F' → GG m' → ∃ vs, SqA K false H' ad vs ∧ Rps K F' vs items) : WalkD K F1 (Itl K ad) items GG := by
  refine ⟨fun i H F m hi s sd g => ?_, fun H F m s sd g => ?_, fun i H F m x H' d hd s sd g y => ?_⟩
  · obtain ⟨vs, q, r⟩ := h m H F s sd g
    exact ⟨vs, vs[i]'(by rw [r.length]; exact hi), q, List.getElem?_eq_getElem _⟩
  · obtain ⟨vs, q, r⟩ := h m H F s sd g
    exact ⟨vs, q, by rw [r.length]; exact Nat.le_refl _⟩
  · obtain ⟨vs, q, r⟩ := h m H F s sd g
    obtain ⟨rfl, y⟩ := y
    exact ⟨F, Go.refl sd, rps_last r (y vs q) hd⟩
theorem walk_tpl (h : ∀ m' H' F', Same F1 F' → Std K m' H' F' → GG m' → ∃ vs, SqA K true H' ad vs ∧ Rps K F' vs items) : WalkD K F1 (Itt K ad) items GG := by
  refine ⟨fun i H F m hi s sd g => ?_, fun H F m s sd g => ?_, fun i H F m x H' d hd s sd g y => ?_⟩
  · obtain ⟨vs, q, r⟩ := h m H F s sd g
    exact ⟨vs, vs[i]'(by rw [r.length]; exact hi), q, List.getElem?_eq_getElem _⟩
  · obtain ⟨vs, q, r⟩ := h m H F s sd g
    exact ⟨vs, q, by rw [r.length]; exact Nat.le_refl _⟩
  · obtain ⟨vs, q, r⟩ := h m H F s sd g
    obtain ⟨rfl, y⟩ := y
    exact ⟨F, Go.refl sd, rps_last r (y vs q) hd⟩
theorem walk_str {z : Str} : WalkD K F1 (Its z) (signs z) fun _ => True := by
  refine ⟨fun i H F m hi s sd _ => ?_, fun H F m s sd _ => ?_, fun i H F m x H' d hd s sd _ y => ?_⟩
  · unfold signs at hi; rw [List.length_map] at hi; exact hi
  · show z.cps.size ≤ (signs z).length
    unfold signs; rw [List.length_map]; exact Nat.le_refl _
  · obtain ⟨rfl, c, hc, rfl⟩ := y
    unfold signs at hd
    rw [List.getElem?_map, Array.getElem?_toList, hc] at hd
    have e := Option.some.inj hd
    subst e
    exact ⟨F, Go.refl sd, .str _⟩
/-- any value: a text, a list, a tuple -/
theorem si_val (he : SE X iter t) : SI X tg iter isVal (.cons t .nil) := ⟨fun ρ m P Z p => ⟨fun F0 σ H F S R V tk q kx pins s I => by
  refine thn ((he.go ρ m _ Z p).run F0 σ H F S (fun v H1 => ∃ F1 d m1, isVal [d] m1 P ∧ Go X.K m H F m1 H1 F1 ∧ Rp X.K F1 v d) V tk (fun v H1 F1 d m1 p1 g1 r1 => ⟨F1, d, m1, p1, g1, r1⟩) kx pins s I) fun u s1 hh => ?_
  obtain ⟨v, H1, I1, rv, F1, d, m1, p1, g1, r1⟩ := hh
  have gen : (seqD d m1 fun xs GG => P xs GG m1) → wpAny (model X.prog X.w) X.A (pyIter u) (PIE X pins σ tg R) X.xe s1 := fun p1 => by
    obtain ⟨a, tp, xs, GG, rfl, pR, g0, hq⟩ := seqD_use p1 g1.std r1
    obtain ⟨vs, q0, r0⟩ := hq m1 H1 F1 (Same.refl _) g1.std g0
    obtain rfl : u = Value.ref a := rv
    cases tp with
    | true =>
      obtain ⟨its, rr, p', hz⟩ := I1.tuple q0
      exact wpAny_pyIter_tuple (show s1.heap.IsTuple a its.toArray from p') (pi_one (tk := s1.toks) I1 _ (turn_tuple a _) ⟨_, Heap.get?_push_size _ rfl, rfl, rfl⟩ (q _ H1 F1 xs GG m1 pR g1 (walk_tpl fun m' H' F' g s' gg => hq m' H' F' g s' gg)))
    | false =>
      obtain ⟨its, rr, p', hz⟩ := I1.list q0
      exact wpAny_pyIter_list p'.isList (pi_one (tk := s1.toks) I1 _ (turn_list a _) ⟨_, Heap.get?_push_size _ rfl, rfl, rfl⟩ (q _ H1 F1 xs GG m1 pR g1 (walk_lst fun m' H' F' g s' gg => hq m' H' F' g s' gg)))
  cases d with
  | str x =>
    cases r1
    obtain ⟨t, rfl⟩ := (show ∃ t, u = Value.str x t from rv)
    have qq := q _ H1 F1 (signs x) _ m1 p1 g1 walk_str
    cases ha : x.cps.all (· < 128)
    · exact wpAny_pyIter_wide ha (pi_one (tk := s1.toks) I1 _ (turn_str _ x t "str_iterator" (.inr rfl)) ⟨_, Heap.get?_push_size _ rfl, rfl, rfl⟩ qq)
    · exact wpAny_pyIter_ascii ha (pi_one (tk := s1.toks) I1 _ (turn_str _ x t "str_ascii_iterator" (.inl rfl)) ⟨_, Heap.get?_push_size _ rfl, rfl, rfl⟩ qq)
  | _ => exact gen p1⟩⟩
theorem walk_rng {lo : Int} {n : Nat} : WalkD K F1 (Itr lo n) (rngD lo n) fun _ => True := ⟨fun i H F m hi s sd _ => by rw [rngD_len] at hi; exact hi, fun H F m s sd _ => by rw [rngD_len]; exact Nat.le_refl _, fun i H F m x H' d hd s sd _ y => by
  obtain ⟨_, rfl⟩ := rngD_get hd
  obtain ⟨rfl, rfl⟩ := y
  exact ⟨F, Go.refl sd, .int _⟩⟩
theorem isRng1 {d : D} {m : MS} {R : List D → (MS → Prop) → MS → Prop} (h : isRng [d] m R) : ∃ j, d = .int j ∧ (-(2 ^ 62) ≤ j ∧ j < 2 ^ 62) ∧ R (rngD 0 j.toNat) (fun _ => True) m := by
  cases d with
  | int j => exact ⟨j, rfl, h⟩
  | _ => exact h.elim
theorem si_rng1 {p : Pos} (hm : X.mg "range" = none) (ha : SE X a ta) (hg : Gl X "range" := by rfl) (hs : starEach [a] X.env = (false, eval a X.env) :: starEach [] X.env := by rfl) : SI X tg (.Call (.Name "range" p) [a] [] pos) isRng (.cons ta .nil) := ⟨fun ρ m P Z p => ⟨fun F0 σ H F S R V tk q kx => by
  refine wI_of (pi_range1 hg hm (pa_cons pe_w pa_nil hs) hs) ?_
  refine (ha.go ρ m _ Z p).run F0 σ H F S _ V tk (fun x H1 F1 d1 m1 p1 g1 r1 => ?_) kx
  obtain ⟨j, rfl, ⟨h1, h2⟩, pR⟩ := isRng1 p1
  cases r1
  exact ⟨j, rfl, h1, h2, q _ H1 F1 _ _ m1 pR g1 walk_rng⟩⟩⟩
theorem walk_z2 {t1 t2 : Bool} {a1 a2 : Addr} {xs ys : List D} {G1 G2 : MS → Prop} (h1 : ∀ m' H' F', Same F1 F' → Std K m' H' F' → G1 m' → ∃ vs, SqA K t1 H' a1 vs ∧ Rps K F' vs xs) (h2 : ∀ m' H' F', Same F1 F' → Std K m' H' F' → G2 m' → ∃ vs, SqA K t2 H' a2 vs ∧ Rps K F' vs ys) : WalkD K F1 (J2 K t1 t2 a1 a2) (zipD xs ys) fun m' => G1 m' ∧ G2 m' := by
  refine ⟨fun i H F m hi s sd g => ?_, fun H F m s sd g => ?_, fun i H F m x H' d hd s sd g y => ?_⟩
  · obtain ⟨vs, q, r⟩ := h1 m H F s sd g.1
    obtain ⟨ws, q2, r2⟩ := h2 m H F s sd g.2
    rw [zipD_len] at hi
    exact ⟨vs, ws, q, q2, by rw [r.length, r2.length]; exact hi⟩
  · obtain ⟨vs, q, r⟩ := h1 m H F s sd g.1
    obtain ⟨ws, q2, r2⟩ := h2 m H F s sd g.2
    exact ⟨vs, ws, q, q2, by rw [r.length, r2.length, zipD_len]⟩
  · obtain ⟨vs, q, r⟩ := h1 m H F s sd g.1
    obtain ⟨ws, q2, r2⟩ := h2 m H F s sd g.2
    obtain ⟨dx, dy, e1, e2, rfl⟩ := zipD_get hd
    obtain ⟨T, x, y', rfl, hT, rfl, y1, y2⟩ := y
    exact ⟨_, Go.new sd hT, .tup (.inl (.inl upd_same)) ((Rps.cons (rps_last r (y1 vs q) e1) (.cons (rps_last r2 (y2 ws q2) e2) .nil)).up (Go.new sd hT).grow _)⟩
theorem walk_en {t1 : Bool} {a1 : Addr} {xs : List D} {G1 : MS → Prop} (h1 : ∀ m' H' F', Same F1 F' → Std K m' H' F' → G1 m' → ∃ vs, SqA K t1 H' a1 vs ∧ Rps K F' vs xs) : WalkD K F1 (JE K t1 a1) (enumD xs) G1 := by
  refine ⟨fun i H F m hi s sd g => ?_, fun H F m s sd g => ?_, fun i H F m x H' d hd s sd g y => ?_⟩
  · obtain ⟨vs, q, r⟩ := h1 m H F s sd g
    rw [enumD_len] at hi
    exact ⟨vs, q, by rw [r.length]; exact hi⟩
  · obtain ⟨vs, q, r⟩ := h1 m H F s sd g
    exact ⟨vs, q, by rw [r.length, enumD_len]⟩
  · obtain ⟨vs, q, r⟩ := h1 m H F s sd g
    obtain ⟨dx, e1, rfl⟩ := enumD_get hd
    obtain ⟨T, x, rfl, hT, rfl, y1⟩ := y
    exact ⟨_, Go.new sd hT, .tup (.inl (.inl upd_same)) ((Rps.cons (.int _) (.cons (rps_last r (y1 vs q) e1) .nil)).up (Go.new sd hT).grow _)⟩
theorem fresh_le {pins : List (Addr × Obj)} {σ : L2.St} {H : Hp} {s : Shared} (I : Inv X pins σ H s) {l : List Addr} (h : ∀ c ∈ l, s.heap.objs.size ≤ c) : ∀ c ∈ l, FpOk X pins H c := fun c hc => I.fpOk (h c hc) (I.hok.fresh (h c hc))
variable {elts : List Expr} {kk : Nat} {tpos : Pos}
theorem si_zip2 {p : Pos} (hm : X.mg "zip" = none) (ha : SE X a ta) (hb : SE X b tb) (hg : Gl X "zip" := by rfl) (hs : starEach [a, b] X.env = (false, eval a X.env) :: starEach [b] X.env := by rfl) (hs2 : starEach [b] X.env = (false, eval b X.env) :: starEach [] X.env := by rfl) (hpl : (backTo pos (starEach [b] X.env)).any (·.1) = false := by rfl) : SI X (.Tuple elts kk tpos) (.Call (.Name "zip" p) [a, b] [] pos) isZip (.cons ta (.cons tb .nil)) := ⟨fun ρ m P Z p => ⟨fun F0 σ H F S R V tk q kx pins s I => by
  refine Call_ (ld_blt I hg hm PyProof.Rows.boot_zip (PyProof.Rows.callWith_type1 (thn ((pa_cons (X := X) pe_w (pa_cons pe_w pa_nil hs2) hs).run pos pins s σ H (fun vs H2 => ∃ v1 v2 F2 d1 d2 m2, vs = [v1, v2] ∧ isZip [d1, d2] m2 P ∧ Go X.K m H F m2 H2 F2 ∧ Rp X.K F2 v1 d1 ∧ Rp X.K F2 v2 d2) I ?_) fun us s1 ⟨vs, H1, I1, r1, q1⟩ => ?_) hs hpl))
  · refine (ha.go ρ m _ Z p).run F0 σ H F S _ V tk (fun x H1 F1 d1 m1 p1 g1 r1 => ?_) kx
    refine (hb.go ρ m1 _ Z p1).run F0 σ H1 F1 (S.go g1) _ V tk (fun y H2 F2 d2 m2 p2 g2 r2 => ?_) (kx.go g1)
    exact ⟨x, y, F2, d1, d2, m2, rfl, p2, g1.trans g2, r1.up g2.grow _, r2⟩
  · obtain ⟨v1, v2, F2, d1, d2, m2, rfl, p2, g2, ra, rb⟩ := q1
    obtain ⟨a1, t1, xs, G1, rfl, p2, g01, h1⟩ := seqD_use (show seqD d1 m2 (fun xs G1 => seqD d2 m2 fun ys G2 => P (zipD xs ys) (fun m' => G1 m' ∧ G2 m') m2) from p2) g2.std ra
    obtain ⟨a2, t2, ys, G2, rfl, pR, g02, h2⟩ := seqD_use p2 g2.std rb
    obtain ⟨w1, q1, _⟩ := h1 m2 H1 F2 (Same.refl _) g2.std g01
    obtain ⟨w2, q2, _⟩ := h2 m2 H1 F2 (Same.refl _) g2.std g02
    obtain ⟨its1, rv1, c1⟩ := seqA_at I1 q1
    obtain ⟨its2, rv2, c2⟩ := seqA_at I1 q2
    cases r1 with
    | cons r rr =>
      cases rr with
      | cons r' rr =>
        cases rr
        cases r
        cases r'
        refine zip_begins2 (beginsA t1 a1 its1.toArray) (beginsA t2 a2 its2.toArray) c1 c2 fun h' hz hTI hTO e1 e2 hsz hk => wpAny_pyIter_zip hz ?_
        have I2 : Inv X pins σ H1 { s1 with heap := h' } := I1.kept (t' := s1.toks) hk
        exact ⟨s1.heap.objs.size + 4, _, _, _, H1, rfl, I2, turn_z2 (ctA_lt c1) (ctA_lt c2), ⟨hz, hTI, ⟨_, _, hTO⟩, itA_new e1, itA_new e2⟩, fresh_le I1 (fun c hc => by
          have e' : c = s1.heap.objs.size + 4 ∨ c = s1.heap.objs.size + 2 ∨ c = s1.heap.objs.size + 3 ∨ c = s1.heap.objs.size ∨ c = s1.heap.objs.size + 1 := by simpa using hc
          rcases e' with z | z | z | z | z <;> rw [z] <;> first | exact Nat.le_add_right _ _ | exact Nat.le_refl _), q _ H1 F2 _ _ m2 pR g2 (walk_z2 h1 h2)⟩⟩⟩
end
end Nu
namespace Nu
open PySem PySem.Spec L2
open PyProof.Rows hiding St
theorem VwS.refl {ρ : Env1} {m : MS} : VwS ρ m ρ m := fun K F0 σ H F S => ⟨F, Go.refl S.std, S⟩
theorem VwD.refl {d : D} {m : MS} : VwD d m d m := fun K H F v S r => ⟨F, Go.refl S, r⟩
theorem VwD.less {d : D} {m m' : MS} (h : MLe m' m) : VwD d m d m' := fun K H F v S r => ⟨F, Go.less S h, r⟩
theorem VwD.trans {d d' d'' : D} {m m' m'' : MS} (h : VwD d m d' m') (k : VwD d' m' d'' m'') : VwD d m d'' m'' := fun K H F v S r => by
  obtain ⟨F1, g1, r1⟩ := h K H F v S r
  obtain ⟨F2, g2, r2⟩ := k K H F1 v g1.std r1
  exact ⟨F2, g1.trans g2, r2⟩
theorem VwS.less {ρ : Env1} {m m' : MS} (h : MLe m' m) : VwS ρ m ρ m' := fun K F0 σ H F S => ⟨F, Go.less S.std h, S.go (Go.less S.std h)⟩
theorem VwS.trans {ρ ρ' ρ'' : Env1} {m m' m'' : MS} (h : VwS ρ m ρ' m') (k : VwS ρ' m' ρ'' m'') : VwS ρ m ρ'' m'' := fun K F0 σ H F S => by
  obtain ⟨F1, g1, r1⟩ := h K F0 σ H F S
  obtain ⟨F2, g2, r2⟩ := k K F0 σ H F1 r1
  exact ⟨F2, g1.trans g2, r2⟩
/-- what a def gives back, seen as one likes -/
def Ret (P : NX) : NX := fun d m => ∃ d' m', VwD d m d' m' ∧ P d' m'
theorem ret {P : NX} {d : D} {m : MS} (p : P d m) : Ret P d m := ⟨d, m, VwD.refl, p⟩
def spA (K : PySem.W.Frag) (a : ASp) : Sp := fun vs H Q E => ∃ F ss m P Z, Std K m H F ∧ Rps K F vs ss ∧ a ss m P Z ∧ (∀ v H' F' d m', P d m' → Go K m H F m' H' F' → Rp K F' v d → Q v H') ∧
  ∀ c es H' F' m' cls dd, Z c es m' → Go K m H F m' H' F' → ExR K F' c es cls dd → E cls dd H'
structure Cal (P : Program) (w : World) (K : PySem.W.Frag) (mg : Str → Option Value) (base : Heap) (k : Nat) (x : Str) (sp : Sp) : Prop where
  ex : ∃ (f : Addr) (fd : FuncData) (ps : List Str), FnOk P w K mg base (L2.CX P w) k f fd ps sp ∧ mg x = some (.ref f) ∧ PySem.W.keepIn K (.ref f) = true ∧ Binds K fd ps []
/-- what the text says of a class of its own -/
structure ClsF (K : PySem.W.Frag) (c : Cls) : Prop where
  ex : ∀ C, clsAt K c.name C → L2.Cls K C ∧ ∀ f ∈ c.fs, NoAttr K C f.name
def startR (N : List Str) (ss : List D) : Env1 := ss.map some ++ List.replicate (N.length - ss.length) none
theorem env_start {K : PySem.W.Frag} {F : Hp} {N : List Str} {vs : List V} {ss : List D} (r : Rps K F vs ss) : ∀ (i : Nat) (d : D), (startR N ss)[i]? = some (some d) → ∃ v, (L2.start N vs)[i]? = some (some v) ∧ Rp K F v d := fun i d e => by
  unfold startR at e
  unfold L2.start
  have hl := r.length
  by_cases hi : i < ss.length
  · rw [List.getElem?_append_left (by simpa using hi)] at e
    rw [List.getElem?_map] at e
    rw [List.getElem?_append_left (by simpa [hl] using hi), List.getElem?_map]
    cases e1 : ss[i]? with
    | none => rw [e1] at e; cases e
    | some d1 =>
      rw [e1] at e
      have e2 : d1 = d := by simpa using e
      subst e2
      obtain ⟨v, h1, h2⟩ := r.get e1
      exact ⟨v, by rw [h1]; rfl, h2⟩
  · rw [List.getElem?_append_right (by simpa using hi)] at e
    rw [List.getElem?_replicate] at e
    split at e <;> cases e
/-- the ends of a def's body -/
def bodyE (P : NX) (Z : EZ) : AEnds := { nx := fun _ m => Ret P .non m, rt := Ret P, ex := fun c es _ m => ∃ m', MLe m' m ∧ Z c es m' }
section
variable {P : Program} {w : World} {K : PySem.W.Frag} {mg : Str → Option Value} {base : Heap}
/-- a def's body keeps its promise -/
theorem fn_ok {a : ASp} {x qual : Str} {stm : Stmt} {f : Addr} {fd : FuncData} {N ps : List Str} {k : Nat} {u : SS} (F : Fun K x qual stm f fd) (S : FnScope N ps (defScope stm)) (len : ∀ ss m P Z, a ss m P Z → ss.length = ps.length)
    (snd : ∀ (cdv : Value) (A : Around) (outer : List Env) (s : Shared) (H : Hp) (E : XK), Room k (A.deeper (envOfC qual (defScope stm) s.heap.objs.size f cdv)) → SSs (cxOf (L2.CX P w) P w K mg base N qual (defScope stm) f cdv A outer s H E) (defBody stm) u)
    (body : ∀ (ss : List D) (m : MS) (P : NX) (Z : EZ), a ss m P Z → WB u (startR N ss) m (bodyE P Z)) : FnOk P w K mg base (L2.CX P w) (k + 1) f fd ps (spA K a) := by
  refine F.okX S (fun vs H Q E h => ?_) fun cdv A outer s H vs Q E hr h => ?_
  · obtain ⟨Fz, ss, m, P1, Z1, _, r, h1, _⟩ := h
    rw [r.length]; exact len ss m P1 Z1 h1
  · obtain ⟨Fz, ss, m, P1, Z1, sd, r, h1, q, qx⟩ := h
    refine ⟨_, pss_w, ?_⟩
    refine ((snd cdv A outer s H E hr).go _ m _ (body ss m P1 Z1 h1)).run Fz _ H Fz ⟨sd, env_start r, Same.refl _⟩ _ (fun cls d _ H => E cls d H) (takes_of rfl rfl rfl rfl) ⟨?_, ?_, ?_, ?_, ?_⟩
    · rintro σ' H' F' ρ' m' ⟨d2, m2, vw, p⟩ g _
      obtain ⟨F2, g2, r2⟩ := vw _ _ _ _ g.std .non
      exact q .non H' F2 d2 m2 p (g.trans g2) r2
    · rintro v H' F' d m' ⟨d2, m2, vw, p⟩ g r
      obtain ⟨F2, g2, r2⟩ := vw _ _ _ _ g.std r
      exact q v H' F2 d2 m2 p (g.trans g2) r2
    · exact fun _ _ _ _ _ p => p.elim
    · exact fun _ _ _ _ _ p => p.elim
    · rintro σ' H' F' ρ' m' c es cls dd ⟨m2, hm, z⟩ g S' r
      exact qx c es H' F' m2 cls dd z (g.trans (Go.less g.std hm)) r
theorem cal_mk {x : Str} {f : Addr} {fd : FuncData} {ps : List Str} {k : Nat} {sp : Sp} (G : FnOk P w K mg base (L2.CX P w) k f fd ps sp) (hm : mg x = some (.ref f)) (kp : PySem.W.keepIn K (.ref f) = true) (b : Binds K fd ps []) : Cal P w K mg base k x sp :=
  ⟨f, fd, ps, G, hm, kp, b⟩
end
theorem zip_takeA : ∀ {ns : List Str} {vs : List V} {n : Nat}, vs.length = n → (ns.take n).zip vs = ns.zip vs
  | [], _, n, _ => by simp
  | _ :: _, [], n, _ => by simp
  | a :: ns, v :: vs, 0, h => by simp at h
  | a :: ns, v :: vs, n + 1, h => by
    show (a, v) :: (ns.take n).zip vs = (a, v) :: ns.zip vs
    rw [zip_takeA (by simpa using h)]
theorem zip_take {fs : List Fld} {vs : List V} {n : Nat} (h : vs.length = n) : ((fs.map Fld.name).take n).zip vs = (fs.map Fld.name).zip vs := zip_takeA h
theorem lookup_getF {K : PySem.W.Frag} {F : Hp} : ∀ {fs : List Fld} {vs : List V} {xs : List D} {f : Fld} {d : D}, getF fs xs f = some d → Rps K F vs xs → ∃ v, ((fs.map Fld.name).zip vs).lookup f.name = some v ∧ Rp K F v d
  | [], _, xs, _, _, h, _ => by cases xs <;> cases h
  | f :: fs, _, [], _, _, h, _ => by cases h
  | f :: fs, _, x :: xs, g, d, h, r => by
    cases r with
    | @cons v vs _ _ r1 r2 =>
      unfold getF at h
      by_cases e : f = g
      · rw [if_pos e] at h
        cases h
        subst e
        exact ⟨v, by simp [List.lookup], r1⟩
      · rw [if_neg e] at h
        obtain ⟨v', h1, h2⟩ := lookup_getF h r2
        refine ⟨v', ?_, h2⟩
        have ne : (g.name == f.name) = false := beq_eq_false_iff_ne.mpr fun z => e (Fld.inj z).symm
        show List.lookup g.name ((f.name, v) :: ((fs.map Fld.name).zip vs)) = some v'
        rw [List.lookup_cons, ne]
        exact h1
section
variable {X : Cx} {e a b c o i value : Expr} {es : List Expr} {t ta tb to ti te : T} {ts : Ts} {pos pos' p : Pos} {apos : Pos}
theorem spA_run {F0 : Hp} {σ : L2.St} {H F H1 F1 : Hp} {ρ : Env1} {m m1 : MS} {s : ASp} {ds : List D} {vs : List L2.V} {P : NX} {Z : EX} {Q : VK} {V : WX} (S : StR X.K F0 σ H F ρ m) (g1 : Go X.K m H F m1 H1 F1) (r1 : Rps X.K F1 vs ds) (p1 : s ds m1 P fun c es m2 => Z c es ρ m2)
    (q : ∀ v H' F' d m', P d m' → Go X.K m H F m' H' F' → Rp X.K F' v d → Q v H') (kx : ExK X F0 m H F Z V) : spA X.K s vs H1 Q (WE V σ) :=
  ⟨F1, ds, m1, P, _, g1.std, r1, p1, fun v H2 F2 d m2 p g2 r2 => q v H2 F2 d m2 p (g1.trans g2) r2, fun c es H2 F2 m2 cls dd z g2 r => kx σ H2 F2 ρ m2 c es cls dd z (g1.trans g2) (S.go (g1.trans g2)) r⟩
theorem se_call {x : Str} {k j : Nat} {s : ASp} (c : Cal X.prog X.w X.K X.mg X.base k x (spA X.K s)) (hr : Room j X.A) (ha : SA X (e :: es) ts) (hk : k ≤ j := by decide) (hg : Gl X x := by rfl)
    (hdb : (x == ("__debug__" : Str)) = false := by decide) (he : starEach (e :: es) X.env = (false, eval e X.env) :: starEach es X.env := by rfl) (hpl : (backTo pos (starEach es X.env)).any (·.1) = false := by rfl) :
    SE X (.Call (.Name x p) (e :: es) [] pos) (.call s ts) := ⟨fun ρ m P Z p => ⟨fun F0 σ H F S Q V tk q kx => by
  obtain ⟨f, fd, ps, G, hm, kp, bi⟩ := c.ex
  refine wE_of (pe_callS G (hr.mono hk) hg hm kp bi (fun σ => passAt tk σ) pa_w hdb he hpl) ?_
  refine (ha.go ρ m _ Z p).run F0 σ H F S _ V tk (fun vs H1 F1 ds m1 p1 g1 r1 => ?_) kx
  exact spA_run S g1 r1 p1 q kx⟩⟩
theorem ins_at {K : PySem.W.Frag} {m : MS} {H F : Hp} {p : Addr} {c : Cls} {xs : List D} (s : Std K m H F) (h : m p = some (.ins c xs)) : ∃ C dx vs, clsAt K c.name C ∧ H p = some (.ins C dx (c.flds.zip vs)) ∧ xs.length ≤ c.fs.length ∧ Rps K F vs xs := by
  obtain ⟨C, dx, vs, h1, h2, h3, h4⟩ := s.cells p _ h
  refine ⟨C, dx, vs, h1, ?_, by simpa using h3, h4⟩
  rw [h2, zip_take h4.length]
def sFld (f : Fld) : BS := fun ds m P => match ds with
  | [.raw (.ref p)] => ∃ c xs, m p = some (.ins c xs) ∧ match getF c.fs xs f with
    | some d => P d m
    | none => False
  | [.exn c xs] => match getF c.fs xs f with
    | some d => P d m
    | none => False
  | _ => False
theorem sFld_of {f : Fld} {d : D} {m : MS} {P : NX} (h : sFld f [d] m P) : (∃ p c xs d', d = .raw (.ref p) ∧ m p = some (.ins c xs) ∧ getF c.fs xs f = some d' ∧ P d' m) ∨ ∃ c xs d', d = .exn c xs ∧ getF c.fs xs f = some d' ∧ P d' m := by
  cases d with
  | raw v =>
    cases v with
    | ref p =>
      obtain ⟨c, xs, e, h⟩ := h
      cases e2 : getF c.fs xs f with
      | none => rw [e2] at h; exact h.elim
      | some d' => rw [e2] at h; exact .inl ⟨p, c, xs, d', rfl, e, e2, h⟩
    | _ => exact h.elim
  | exn c xs =>
    have h : match getF c.fs xs f with | some d => P d m | none => False := h
    cases e2 : getF c.fs xs f with
    | none => rw [e2] at h; exact h.elim
    | some d' => rw [e2] at h; exact .inr ⟨c, xs, d', rfl, e2, h⟩
  | _ => exact h.elim
/-- what an own exception class must have for its instances' fields to be read -/
structure ExnF (K : PySem.W.Frag) (c : Exn) : Prop where
  ex : ∀ C, clsAt K c.name C → PySem.W.findIn K (.ref C) "__getattribute__" = some (some (.builtin "BaseException.__getattribute__")) ∧ PySem.W.findIn K (.ref C) "__getattr__" = some none ∧ PySem.W.subIn K (.ref C) (.type "BaseException") = some true ∧ PySem.W.hasDictIn K C = true ∧
    ∀ f ∈ c.fs, PySem.W.findIn K (.ref C) f.name = some none
theorem pe_attr {f : Str} {te : TE} (he : PE X e te) (hb : attributeBase e f X.env (eval e X.env) = eval e X.env) : PE X (.Attribute e f pos) (fun σ H Q => te σ H fun x H1 => (∃ a C dx fs v, x = .ref a ∧ H1 a = some (.ins C dx fs) ∧ L2.Cls X.K C ∧ NoAttr X.K C f ∧ fs.lookup f = some v ∧ Q v H1) ∨
    ∃ a C q fs v, x = .ref a ∧ H1 a = some (ExV a (.ref C) (some q)) ∧ H1 q = some (.xd fs) ∧ PySem.W.findIn X.K (.ref C) "__getattribute__" = some (some (.builtin "BaseException.__getattribute__")) ∧ PySem.W.findIn X.K (.ref C) "__getattr__" = some none ∧ PySem.W.subIn X.K (.ref C) (.type "BaseException") = some true ∧ PySem.W.hasDictIn X.K C = true ∧
      PySem.W.findIn X.K (.ref C) f = some none ∧ fs.lookup f = some v ∧ Q v H1) := by
  refine ⟨fun pins s σ H Q I h => ?_⟩
  refine attr_of hb (thn (he.run pins s σ H _ I h) fun u s1 ⟨x, H1, I1, rx, q⟩ => ?_)
  rcases q with ⟨a, C, dx, fs, v, ex, ea, c, n, l, q⟩ | ⟨a, C, qa, fs, v, ex, ea, eq, g1, g2, g3, g4, g5, l, q⟩
  · subst ex
    obtain rfl : u = Value.ref a := rx
    exact getattr_ok I1 ea c n l fun u' s2 I2 ru => ⟨v, H1, I2, ru, q⟩
  · subst ex
    obtain rfl : u = Value.ref a := rx
    obtain ⟨oe, vs, ho, hz, hd⟩ := exV_at I1.hok ea
    have hx : ObjOk X.prog X.w H1 s1.heap qa (.xd fs) := I1.hok qa _ eq
    obtain ⟨mA, hns, hr⟩ := hx
    obtain ⟨od, hod, hl⟩ := lookIn_ns hns
    obtain ⟨u, hu, ru⟩ := RelO.some_of (v := v) (o := mA f) (by rw [← l]; exact hr f)
    have J : PySem.W.InstAt s1.heap a oe C (some od) := ⟨ho, hz.1, by unfold PySem.W.notCls; rw [hd] <;> rfl, by rw [hz.2]; exact hod⟩
    exact HandSPX.exc_get I1.kIn J g1 g2 g3 (PySem.W.findObj_own g4 g5 rfl (by rw [hl, hu])) (handed_of ru) ⟨v, H1, I1.tok _, ru, q⟩
theorem getF_mem : ∀ {fs : List Fld} {xs : List D} {f : Fld} {d : D}, getF fs xs f = some d → f ∈ fs
  | [], xs, _, _, h => by cases xs <;> cases h
  | f :: fs, [], _, _, h => by cases h
  | f :: fs, x :: xs, g, d, h => by
    unfold getF at h
    by_cases e : f = g
    · rw [e]; exact List.mem_cons_self
    · rw [if_neg e] at h
      exact List.mem_cons_of_mem _ (getF_mem h)
theorem se_fld {f : Fld} {fn : Str} (TC : ∀ c, ClsF X.K c) (TE : ∀ c, ExnF X.K c) (he : SE X e t) (hf : f.name = fn := by rfl) (hb : attributeBase e fn X.env (eval e X.env) = eval e X.env := by rfl) : SE X (.Attribute e fn pos) (.bop (sFld f) (.cons t .nil)) := ⟨fun ρ m P Z p => ⟨fun F0 σ H F S Q V tk q kx => by
  subst hf
  refine wE_of (pe_attr pe_w hb) ?_
  refine (he.go ρ m _ Z p).run F0 σ H F S _ V tk (fun x H1 F1 d1 m1 p1 g1 r1 => ?_) kx
  rcases sFld_of p1 with ⟨pa, c, xs, d', rfl, hp, hg, p2⟩ | ⟨c, xs, d', rfl, hg, p2⟩
  · cases r1
    obtain ⟨C, dx, vs, hC, hH, _, rs⟩ := ins_at g1.std hp
    obtain ⟨v, hl, rv⟩ := lookup_getF hg rs
    obtain ⟨cl, na⟩ := (TC c).ex C hC
    exact .inl ⟨pa, C, dx, _, v, rfl, hH, cl, na f (getF_mem hg), hl, q v H1 F1 d' m1 p2 g1 rv⟩
  · cases r1 with
    | exn0 h1 h2 h3 =>
      exfalso
      have := getF_mem hg
      have h1' : c.fs = [] := by simpa using h1
      rw [h1'] at this
      cases this
    | @exn1 a C qa _ vs _ h1 h0 h2 h3 h4 h5 =>
      obtain ⟨v, hl, rv⟩ := lookup_getF hg h5
      obtain ⟨a1, a2, a3, a4, a5⟩ := (TE c).ex C h2
      exact .inr ⟨a, C, qa, _, v, rfl, g1.std.at h3, g1.std.at h4, a1, a2, a3, a4, a5 f (getF_mem hg), hl, q v H1 F1 d' m1 p2 g1 rv⟩⟩⟩
end
end Nu
namespace Nu
open PySem PySem.Spec L2
open PyProof.Rows hiding St
section
variable {K : PySem.W.Frag} {H F : Hp} {m : MS} {P : NX} {Q : VK} {ds es : List D} {vs : List V}
theorem newL_q (n : NewL ds m P) (s : Std K m H F) (r : Rps K F vs ds) (q : ∀ v H' F' d m', P d m' → Go K m H F m' H' F' → Rp K F' v d → Q v H') : ∀ p, H p = none → Q (.ref p) (upd H p (.lst vs)) := fun p hp => by
  rcases n with n | n
  · exact q _ _ _ _ _ n (Go.new s hp) (.lst upd_same (Rps.up (Go.new s hp).grow _ r))
  · exact q _ _ _ _ _ (n p (s.free hp)) (Go.cell s hp ⟨vs, upd_same, r⟩) (.raw _)
theorem newT_q (n : P (.tup ds) m) (s : Std K m H F) (r : Rps K F vs ds) (q : ∀ v H' F' d m', P d m' → Go K m H F m' H' F' → Rp K F' v d → Q v H') : ∀ p, H p = none → Q (.ref p) (upd H p (.tup vs)) := fun p hp =>
  q _ _ _ _ _ n (Go.new s hp) (.tup (.inl (.inl upd_same)) (Rps.up (Go.new s hp).grow _ r))
/-- a list that may stand as data or as a cell, in the heap itself -/
def asL (d : D) (m : MS) (R : List D → Prop) : Prop := match d with
  | .lst xs => R xs
  | .raw (.ref p) => ∃ xs, m p = some (.lst xs) ∧ R xs
  | _ => False
theorem asL_use {d : D} {v : V} {R : List D → Prop} (h : asL d m R) (s : Std K m H F) (r : Rp K F v d) : ∃ a xs vs, v = .ref a ∧ R xs ∧ H a = some (.lst vs) ∧ Rps K F vs xs := by
  cases d with
  | lst xs =>
    cases r with
    | @lst a vs _ h1 h2 => exact ⟨a, xs, vs, rfl, h, s.at h1, h2⟩
  | raw w =>
    cases w with
    | ref p =>
      cases r
      obtain ⟨xs, e, h⟩ := h
      obtain ⟨vs, h1, h2⟩ := s.cells p _ e
      exact ⟨p, xs, vs, rfl, h, h1, h2⟩
    | _ => exact h.elim
  | _ => exact h.elim
def seqR (d : D) (m : MS) (R : List D → Prop) : Prop := seqD d m fun xs _ => R xs
theorem seqR_use {d : D} {v : V} {R : List D → Prop} (h : seqR d m R) (s : Std K m H F) (r : Rp K F v d) : ∃ a tp xs vs, v = .ref a ∧ R xs ∧ SqA K tp H a vs ∧ Rps K F vs xs := by
  obtain ⟨a, tp, xs, GG, e, h1, g, w⟩ := seqD_use h s r
  obtain ⟨vs, h2, h3⟩ := w m H F (Same.refl _) s g
  exact ⟨a, tp, xs, vs, e, h1, h2, h3⟩
theorem rps1 {vs : List V} {d : D} (h : Rps K F vs [d]) : ∃ v, vs = [v] ∧ Rp K F v d := by
  cases h with
  | cons h1 h2 => cases h2; exact ⟨_, rfl, h1⟩
theorem rps2 {vs : List V} {d e : D} (h : Rps K F vs [d, e]) : ∃ v w, vs = [v, w] ∧ Rp K F v d ∧ Rp K F w e := by
  cases h with
  | cons h1 h2 =>
    obtain ⟨w, rfl, h3⟩ := rps1 h2
    exact ⟨_, w, rfl, h1, h3⟩
end
def sAdd : BS := fun ds m P => match ds with
  | [.int i, .int j] => P (.int (i + j)) m
  | [.str a, .str b] => a.length + b.length ≤ sizeLine ∧ P (.str (a ++ b)) m
  | [.tup xs, .tup ys] => xs.length + ys.length ≤ 100000 ∧ P (.tup (xs ++ ys)) m
  | [.fls xs, d2] => asL d2 m fun ys => xs.length + ys.length ≤ 100000 ∧ NewL (xs ++ ys) m P
  | [d1, d2] => asL d1 m fun xs => asL d2 m fun ys => xs.length + ys.length ≤ 100000 ∧ NewL (xs ++ ys) m P
  | _ => False
/-- a list that is only read, and another one -/
def rCatF (K : PySem.W.Frag) : R2 := fun x y H Q => ∃ l b xs zs, x = .ref l ∧ y = .ref b ∧ LsA K H l xs ∧ H b = some (.lst zs) ∧ xs.length + zs.length ≤ sizeLine ∧ ∀ p, H p = none → Q (.ref p) (upd H p (.lst (xs ++ zs)))
theorem op_catF {X : Cx} : OpR X (binaryOp .Add) (rCatF X.K) := fun pins s σ H x y v u Q I rx ry h => by
  obtain ⟨l, b, xs, zs, rfl, rfl, hl, hb, hz, q⟩ := h
  cases rx; cases ry
  obtain ⟨z2, js, n2, r2, c2, e2⟩ := I.lstM hb
  have one : ∃ (is : List Value) (n : Nat), Vals xs is ∧ s.heap.get? l = some { cls := .type "list", data := .seq is.toArray n } := by
    rcases hl with hl | ⟨its, n, h1, h2, h3⟩
    · obtain ⟨_, is, n, r, e⟩ := hl.ok I.hok
      exact ⟨is, n, r, e⟩
    · exact ⟨its.toList, n, h3, by rw [Array.toArray_toList]; exact I.kIn l _ h1⟩
  obtain ⟨is, n, r, e⟩ := one
  have n1 := r.length
  have m1 := r2.length
  refine PySem.P.add_list e e2 ?_ (by simp only [List.size_toArray]; omega)
  rw [show is.toArray ++ js.toArray = (is ++ js).toArray by simp]
  exact ⟨.ref _, _, I.lnew (t' := s.toks) (r.append r2) (by rw [List.length_append]; omega), rfl, q _ I.fresh⟩
def rAdds (K : PySem.W.Frag) : R2 := fun x y H Q => rI0 (fun i j => .int (i + j)) x y H Q ∨ (∃ i j, x = .str i ∧ y = .str j ∧ i.length + j.length ≤ sizeLine ∧ Q (.str (i ++ j)) H) ∨ rCatA K x y H Q ∨ rCatF K x y H Q ∨ rCat x y H Q
theorem op_adds {X : Cx} : OpR X (binaryOp .Add) (rAdds X.K) := op_add.or (op_add_str.or (op_catA.or (op_catF.or op_cat)))
theorem bok_add {K : PySem.W.Frag} : Bok2 K (rAdds K) sAdd := fun d1 d2 m P h x y H F s r1 r2 Q q => by
  unfold sAdd at h
  split at h
  · rename_i e; cases e
    cases r1; cases r2
    exact .inl ⟨_, _, rfl, rfl, q _ _ _ _ _ h (Go.refl s) (.int _)⟩
  · rename_i e; cases e
    cases r1; cases r2
    exact .inr (.inl ⟨_, _, rfl, rfl, h.1, q _ _ _ _ _ h.2 (Go.refl s) (.str _)⟩)
  · rename_i xs ys e; cases e
    cases r1 with
    | @tup a vs _ h1 h2 =>
      cases r2 with
      | @tup b ws _ h3 h4 =>
        refine .inr (.inr (.inl ⟨a, b, vs, ws, rfl, rfl, Same.seqT s.toH h1, Same.seqT s.toH h3, ?_, fun e => ?_, fun _ e => ?_, fun _ _ p hp => ?_⟩))
        · rw [h2.length, h4.length]; exact Nat.le_trans h.1 (by decide)
        · have e1 : xs = [] := List.eq_nil_of_length_eq_zero (by rw [← h2.length, e]; rfl)
          exact q _ H F _ _ h.2 (Go.refl s) (by rw [e1]; exact .tup h3 h4)
        · have e1 : ys = [] := List.eq_nil_of_length_eq_zero (by rw [← h4.length, e]; rfl)
          exact q _ H F _ _ h.2 (Go.refl s) (by rw [e1, List.append_nil]; exact .tup h1 h2)
        · exact newT_q h.2 s (h2.append h4) q p hp
  · rename_i xs d2' e; cases e
    cases r1 with
    | @fls a vs _ h1 h2 =>
      obtain ⟨b, ys, ws, rfl, h, h3, h4⟩ := asL_use h s r2
      exact .inr (.inr (.inr (.inl ⟨a, b, vs, ws, rfl, rfl, h1.up s.toH, h3, by rw [h2.length, h4.length]; exact Nat.le_trans h.1 (by decide), newL_q h.2 s (h2.append h4) q⟩)))
  · rename_i d1' d2' _ _ _ _ e; cases e
    obtain ⟨a, xs, vs, rfl, h, h1, h2⟩ := asL_use h s r1
    obtain ⟨b, ys, ws, rfl, h, h3, h4⟩ := asL_use h s r2
    exact .inr (.inr (.inr (.inr ⟨a, b, vs, ws, rfl, rfl, h1, h3, by rw [h2.length, h4.length]; exact Nat.le_trans h.1 (by decide), newL_q h.2 s (h2.append h4) q⟩)))
  · exact h.elim
def sFdv : BS := fun ds m P => match ds with
  | [.int i, .int j] => (0 < j ∧ j < 2 ^ 200) ∧ P (.int (i / j)) m
  | _ => False
def sMod : BS := fun ds m P => match ds with
  | [.int i, .int j] => 0 < j ∧ P (.int (i % j)) m
  | _ => False
theorem divW_of {i j : Int} (h : 0 < j ∧ j < 2 ^ 200) : CDivW i j := ⟨h.1, by
  have h2 : j.natAbs < 2 ^ 200 := by have := h.2; omega
  have : j.natAbs.log2 < 200 := (Nat.log2_lt (by have := h.1; omega)).mpr h2
  omega⟩
theorem bok_I {K : PySem.W.Frag} {C : Int → Int → Prop} {C' : Int → Int → Prop} {g : Int → Int → V} {gd : Int → Int → D} {s : BS} (hs : ∀ d1 d2 m P, s [d1, d2] m P → ∃ i j, d1 = .int i ∧ d2 = .int j ∧ C i j ∧ P (gd i j) m) (hg : ∀ F i j, Rp K F (g i j) (gd i j)) : Bok2 K (rI C g) s := fun d1 d2 m P h x y H F sd r1 r2 Q q => by
  obtain ⟨i, j, rfl, rfl, c, p⟩ := hs _ _ _ _ h
  cases r1; cases r2
  exact ⟨i, j, rfl, rfl, c, q _ _ _ _ _ p (Go.refl sd) (hg F i j)⟩
theorem bok_fdv {K : PySem.W.Frag} : Bok2 K (rI CDivW fun i j => .int (i / j)) sFdv := bok_I (C' := CDivW) (gd := fun i j => .int (i / j)) (fun d1 d2 m P h => by
  unfold sFdv at h
  split at h
  · rename_i e; cases e; exact ⟨_, _, rfl, rfl, divW_of h.1, h.2⟩
  · exact h.elim) fun _ _ _ => .int _
theorem bok_mod {K : PySem.W.Frag} : Bok2 K (rI (fun _ j => 0 < j) fun i j => .int (i % j)) sMod := bok_I (C' := fun _ j => 0 < j) (gd := fun i j => .int (i % j)) (fun d1 d2 m P h => by
  unfold sMod at h
  split at h
  · rename_i e; cases e; exact ⟨_, _, rfl, rfl, h.1, h.2⟩
  · exact h.elim) fun _ _ _ => .int _
theorem tuple_mul1 (l : Addr) (items : Array Value) (n : Nat) (dd : Option Addr) (sl : Array (Option Value)) (u : Tok) :
    Meets (Builtin.«tuple.__mul__» ⟨[.ref l, .int 1 u], []⟩) (fun _ R s => s.heap.get? l = some { cls := .type "tuple", dict := dd, data := .seq items n, slots := sl } ∧ R (.ok (.ret (Value.ref l))) s) :=
  .of_wp fun prog w A R s h => by
    obtain ⟨hp, g, d, tk, os⟩ := s
    obtain ⟨hl, h⟩ := h
    have f1 := AutoSeq1.idx_int
    have c1 : (items.isEmpty || (1 : Int) == 1) = true := by simp
    wp_walk using wpAny_loadPart' hl
    exact ⟨_, rfl, h⟩
def rRepT1 (K : PySem.W.Frag) : R2 := fun x y H Q => ∃ l xs, x = .ref l ∧ y = .int 1 ∧ SqT K H l xs ∧ Q (.ref l) H
theorem op_repT1 {X : Cx} : OpR X (binaryOp .Mult) (rRepT1 X.K) := by
  intro pins s σ H x y v u Q I rx ry h
  obtain ⟨l, xs, rfl, rfl, hT, q⟩ := h
  cases rx
  obtain ⟨t, rfl⟩ := ry
  obtain ⟨its, r, ⟨⟨cls, dd, data, sl⟩, ho, hc, n, hd⟩, hs⟩ := I.tuple hT
  simp only at hc hd
  subst hc hd
  refine wpAny_binaryOp_repeat_ref (T := "tuple") (U := "int") (by decide) ⟨_, ho, rfl⟩ (fun s' => typeIs_int s' 1 t) noFill_tuple_mul F.fills_int_mul F.slot_int_rmul repeat_tuple F.slot_int_index.lookup
    (call_meets F.slot_int_rmul (typeIs_int s 1 t) F.entry_int_rmul (F.args_int_rmul_2 _ _) (int_rmul_tuple 1 t l its.toArray n dd sl)
      ⟨ho, rfl, ⟨_, ho, rfl⟩, call_meets F.slot_tuple_mul ⟨_, ho, rfl⟩ F.entry_tuple_mul (F.args_tuple_mul_2 _ _) (tuple_mul1 l its.toArray n dd sl t) ⟨ho, ?_⟩⟩)
  exact ⟨.ref l, H, I, rfl, q⟩
def repS (z : Str) (n : Nat) : Str := ⟨(List.replicate n z.cps).foldl (· ++ ·) #[]⟩
theorem foldl_app_size (z : Array Nat) : ∀ (n : Nat) (acc : Array Nat), ((List.replicate n z).foldl (· ++ ·) acc).size = acc.size + n * z.size
  | 0, acc => by simp
  | n + 1, acc => by
    rw [List.replicate_succ, List.foldl_cons, foldl_app_size z n, Array.size_append, Nat.succ_mul]
    omega
theorem repS_len (z : Str) (n : Nat) : (repS z n).length = n * z.length := by
  show ((List.replicate n z.cps).foldl (· ++ ·) #[]).size = _
  rw [foldl_app_size]; simp [Str.length]
theorem repS_one (z : Str) : repS z 1 = z := by
  unfold repS
  rw [List.replicate_one, List.foldl_cons, List.foldl_nil, Array.empty_append]
def rMulSn : R2 := fun x y H Q => ∃ z k, x = .str z ∧ y = .int k ∧ (0 ≤ k ∧ k ≤ 1000 ∧ 1 ≤ z.length ∧ z.length ≤ 1000) ∧ Q (.str (repS z k.toNat)) H
theorem op_mulSn {X : Cx} : OpR X (binaryOp .Mult) rMulSn := by
  intro pins s σ H x y v u Q I rx ry h
  obtain ⟨z, k, rfl, rfl, ⟨hk1, hk2, hz1, hz2⟩, q⟩ := h
  obtain ⟨t, rfl⟩ := rx
  obtain ⟨t', rfl⟩ := ry
  by_cases hk0 : k = 0
  · subst hk0
    exact PySem.P.mul_str_none (by decide) (by decide) ⟨.str _, H, I.tok _, ⟨_, rfl⟩, q⟩
  have hl : z.length * k.toNat ≤ 1000 * 1000 := Nat.mul_le_mul hz2 (by omega)
  refine PySem.P.mul_str (by rw [decide_eq_false (by omega), decide_eq_false (by omega)]; rfl) (fun _ _ => ?_) (fun _ _ => ?_) ?_
  · have h1 : (1000 : Int) ≤ (2 ^ 63 - 1) / k := by
      rw [Int.le_ediv_iff_mul_le (by omega)]
      omega
    omega
  · unfold Builtin.Str.tooLong
    exact decide_eq_false (by have : (1000 * 1000 : Nat) < sizeLine := by decide
                              omega)
  · rw [if_neg (by omega)]
    by_cases h1 : k = 1
    · subst h1
      rw [if_pos (by simp)]
      rw [show (1 : Int).toNat = 1 from rfl, repS_one] at q
      exact ⟨.str _, H, I, ⟨_, rfl⟩, q⟩
    · rw [if_neg (by simp only [Bool.or_eq_true, beq_iff_eq]; omega)]
      refine ⟨?_, .str _, H, I.tok _, ⟨_, rfl⟩, q⟩
      have := repS_len z k.toNat
      have e2 : k.toNat * z.length = z.length * k.toNat := Nat.mul_comm _ _
      have : (1000 * 1000 : Nat) < sizeLine := by decide
      show (repS z k.toNat).length ≤ sizeLine
      omega
def repL (k : Int) (ds : List D) : List D := (List.replicate k.toNat ds).flatten
theorem Rps.rep {K : PySem.W.Frag} {F : Hp} {vs : List V} {ds : List D} (h : Rps K F vs ds) (n : Nat) : Rps K F (List.replicate n vs).flatten (List.replicate n ds).flatten := by
  induction n with
  | zero => exact .nil
  | succ n ih =>
    rw [List.replicate_succ, List.flatten_cons, List.replicate_succ, List.flatten_cons]
    exact h.append ih
def sMul : BS := fun ds m P => match ds with
  | [.int i, .int j] => CMul i j ∧ P (.int (i * j)) m
  | [.str z, .int k] => (0 ≤ k ∧ k ≤ 1000 ∧ 1 ≤ z.length ∧ z.length ≤ 1000) ∧ P (.str (repS z k.toNat)) m
  | [.tup xs, .int k] => (1 ≤ k ∧ k ≤ 1000 ∧ xs ≠ [] ∧ xs.length ≤ 1000) ∧ P (.tup (repL k xs)) m
  | [d, .int k] => asL d m fun xs => (-(2 ^ 63) ≤ k ∧ k < 2 ^ 63 ∧ xs.length * k.toNat ≤ 100000) ∧ NewL (repL k xs) m P
  | _ => False
def rMuls (K : PySem.W.Frag) : R2 := fun x y H Q => rI CMul (fun i j => .int (i * j)) x y H Q ∨ rMulSn x y H Q ∨ rRepT1 K x y H Q ∨ rRepT K x y H Q ∨ rRep x y H Q
theorem op_muls {X : Cx} : OpR X (binaryOp .Mult) (rMuls X.K) := op_mul.or (op_mulSn.or (op_repT1.or (op_repT.or op_rep)))
theorem bok_mul {K : PySem.W.Frag} : Bok2 K (rMuls K) sMul := fun d1 d2 m P h x y H F s r1 r2 Q q => by
  unfold sMul at h
  split at h
  · rename_i e; cases e
    cases r1; cases r2
    exact .inl ⟨_, _, rfl, rfl, h.1, q _ _ _ _ _ h.2 (Go.refl s) (.int _)⟩
  · rename_i e; cases e
    cases r1; cases r2
    exact .inr (.inl ⟨_, _, rfl, rfl, h.1, q _ _ _ _ _ h.2 (Go.refl s) (.str _)⟩)
  · rename_i xs k e; cases e
    cases r2
    obtain ⟨⟨k1, k2, hn, hl⟩, h⟩ := h
    cases r1 with
    | @tup a vs _ h1 h2 =>
      by_cases hk : k = 1
      · subst hk
        have e : repL 1 xs = xs := by simp [repL]
        rw [e] at h
        exact .inr (.inr (.inl ⟨a, vs, rfl, rfl, Same.seqT s.toH h1, q _ _ _ _ _ h (Go.refl s) (.tup h1 h2)⟩))
      · refine .inr (.inr (.inr (.inl ⟨a, k, vs, rfl, rfl, Same.seqT s.toH h1, ?_, by omega, k2, by rw [h2.length]; exact hl, newT_q h s (h2.rep _) q⟩)))
        intro e
        have := h2.length
        rw [e] at this
        exact hn (List.eq_nil_of_length_eq_zero this.symm)
  · rename_i d1' k _ _ _ e; cases e
    cases r2
    obtain ⟨a, xs, vs, rfl, ⟨⟨k1, k2, hl⟩, h⟩, h1, h2⟩ := asL_use h s r1
    exact .inr (.inr (.inr (.inr ⟨a, k, vs, rfl, rfl, h1, k1, k2, by rw [h2.length]; exact Nat.le_trans hl (by decide), newL_q h s (h2.rep _) q⟩)))
  · exact h.elim
def Cmp.s : Cmp → Str → Str → Bool
  | .lt, i, j => decide (i.cps.toList < j.cps.toList)
  | .le, i, j => !decide (j.cps.toList < i.cps.toList)
  | .gt, i, j => decide (j.cps.toList < i.cps.toList)
  | .ge, i, j => !decide (i.cps.toList < j.cps.toList)
def rCmps (K : PySem.W.Frag) (o : Cmp) : R2 := fun x y H Q => rI0 (fun i j => .bl (o.b i j)) x y H Q ∨ (∃ i j, x = .str i ∧ y = .str j ∧ Q (.bl (o.s i j)) H) ∨ o = .lt ∧ rLtT K x y H Q
theorem op_cmps {X : Cx} {k : Nat} (hr : Room k X.A) (o : Cmp) : OpR X (compareOp o.op) (rCmps X.K o) := by
  refine (op_cmpI o).or (OpR.or ?_ ?_)
  · cases o
    · exact op_lt_str
    · exact op_le_str
    · exact op_gt_str
    · exact op_ge_str
  · intro pins s σ H x y v u Q I rx ry h
    obtain ⟨rfl, h⟩ := h
    exact op_ltT hr.units0 pins s σ H x y v u Q I rx ry h
def sCmp (o : Cmp) : BS := fun ds m P => match ds with
  | [.int i, .int j] => P (.bl (o.b i j)) m
  | [.str i, .str j] => P (.bl (o.s i j)) m
  | [.tup xs, .tup ys] => o = .lt ∧ ∃ ns ms : List Int, xs = ns.map .int ∧ ys = ms.map .int ∧ P (.bl (HT.lexLt ns ms)) m
  | _ => False
theorem bok_cmp {K : PySem.W.Frag} {o : Cmp} : Bok2 K (rCmps K o) (sCmp o) := fun d1 d2 m P h x y H F s r1 r2 Q q => by
  unfold sCmp at h
  split at h
  · rename_i e; cases e
    cases r1; cases r2
    exact .inl ⟨_, _, rfl, rfl, q _ _ _ _ _ h (Go.refl s) (.bl _)⟩
  · rename_i e; cases e
    cases r1; cases r2
    exact .inr (.inl ⟨_, _, rfl, rfl, q _ _ _ _ _ h (Go.refl s) (.bl _)⟩)
  · rename_i e; cases e
    obtain ⟨rfl, ns, ms, rfl, rfl, h⟩ := h
    cases r1 with
    | @tup a vs _ h1 h2 =>
      cases r2 with
      | @tup b ws _ h3 h4 =>
        have e1 := h2.ints
        have e2 := h4.ints
        subst e1 e2
        exact .inr (.inr ⟨rfl, a, b, ns, ms, rfl, rfl, Same.seqT s.toH h1, Same.seqT s.toH h3, q _ _ _ _ _ h (Go.refl s) (.bl _)⟩)
  · exact h.elim
mutual
def toPy : D → PyData
  | .non => .none
  | .bl b => .bool b
  | .int i => .int i
  | .str s => .str s
  | .lst ds => .list (toPys ds)
  | .tup ds => .tuple (toPys ds)
  | .fls ds => .list (toPys ds)
  | .ptp ds => .tuple (toPys ds)
  | .exn _ _ => .none
  | .raw _ => .none
def toPys : List D → List PyData
  | [] => []
  | d :: ds => toPy d :: toPys ds
end
mutual
/-- data that == takes: no references, texts of real signs, not too deep -/
def plD : Nat → D → Bool
  | _, .non => true
  | _, .bl _ => true
  | _, .int _ => true
  | _, .str s => PyData.strOk s
  | 0, .lst _ => false
  | n + 1, .lst ds => plDs n ds
  | 0, .tup _ => false
  | n + 1, .tup ds => plDs n ds
  | _, .fls _ => false
  | _, .ptp _ => false
  | _, .exn _ _ => false
  | _, .raw _ => false
def plDs : Nat → List D → Bool
  | _, [] => true
  | n, d :: ds => plD n d && plDs n ds
end
mutual
theorem canLay_of : ∀ (n : Nat) (d : D), plD n d = true → (toPy d).canLay0 = true ∧ (toPy d).depth ≤ n
  | _, .non, _ => ⟨rfl, Nat.zero_le _⟩
  | _, .bl _, _ => ⟨rfl, Nat.zero_le _⟩
  | _, .int _, _ => ⟨rfl, Nat.zero_le _⟩
  | _, .str s, h => by
    have h' : PyData.strOk s = true := by unfold plD at h; exact h
    exact ⟨by unfold toPy PyData.canLay0; exact h', by unfold toPy PyData.depth; exact Nat.zero_le _⟩
  | 0, .lst _, h => by unfold plD at h; cases h
  | n + 1, .lst ds, h => by
    unfold plD at h
    obtain ⟨a, b⟩ := canLays_of n ds h
    exact ⟨by unfold toPy PyData.canLay0; exact a, by unfold toPy PyData.depth; omega⟩
  | 0, .tup _, h => by unfold plD at h; cases h
  | n + 1, .tup ds, h => by
    unfold plD at h
    obtain ⟨a, b⟩ := canLays_of n ds h
    exact ⟨by unfold toPy PyData.canLay0; exact a, by unfold toPy PyData.depth; omega⟩
  | _, .fls _, h => by unfold plD at h; cases h
  | _, .ptp _, h => by unfold plD at h; cases h
  | _, .exn _ _, h => by unfold plD at h; cases h
  | _, .raw _, h => by unfold plD at h; cases h
theorem canLays_of : ∀ (n : Nat) (ds : List D), plDs n ds = true → PyData.canLayAll0 (toPys ds) = true ∧ PyData.depthAll (toPys ds) ≤ n
  | _, [], _ => ⟨rfl, Nat.zero_le _⟩
  | n, d :: ds, h => by
    unfold plDs at h
    obtain ⟨h1, h2⟩ := Bool.and_eq_true_iff.mp h
    obtain ⟨a1, a2⟩ := canLay_of n d h1
    obtain ⟨b1, b2⟩ := canLays_of n ds h2
    exact ⟨by unfold toPys PyData.canLayAll0; rw [a1, b1]; rfl, by unfold toPys PyData.depthAll; omega⟩
end
theorem shaped_of {n : Nat} {d : D} (h : plD n d = true) (hn : n ≤ 64) : SeqAt.shaped (toPy d) = true := by
  obtain ⟨a, b⟩ := canLay_of n d h
  unfold SeqAt.shaped
  rw [a, decide_eq_true (Nat.le_trans b hn)]
  rfl
def eqD (d e : D) : Bool := PyData.eqv (toPy d) (toPy e)
mutual
inductive See (m : MS) : D → D → Prop
  | non : See m .non .non
  | bl (b : Bool) : See m (.bl b) (.bl b)
  | int (i : Int) : See m (.int i) (.int i)
  | str (s : Str) : See m (.str s) (.str s)
  | lst {ds es : List D} (h : Sees m ds es) : See m (.lst ds) (.lst es)
  | fls {ds es : List D} (h : Sees m ds es) : See m (.fls ds) (.lst es)
  | tup {ds es : List D} (h : Sees m ds es) : See m (.tup ds) (.tup es)
  | ptp {ds es : List D} (h : Sees m ds es) : See m (.ptp ds) (.tup es)
  | cell {p : Addr} {ds es : List D} (e : m p = some (.lst ds)) (h : Sees m ds es) : See m (.raw (.ref p)) (.lst es)
inductive Sees (m : MS) : List D → List D → Prop
  | nil : Sees m [] []
  | cons {d e : D} {ds es : List D} (h : See m d e) (t : Sees m ds es) : Sees m (d :: ds) (e :: es)
end
mutual
theorem See.refl {m : MS} : ∀ (n : Nat) (d : D), plD n d = true → See m d d
  | _, .non, _ => .non
  | _, .bl b, _ => .bl b
  | _, .int i, _ => .int i
  | _, .str s, _ => .str s
  | 0, .lst _, h => by unfold plD at h; cases h
  | n + 1, .lst ds, h => by unfold plD at h; exact .lst (Sees.refl n ds h)
  | 0, .tup _, h => by unfold plD at h; cases h
  | n + 1, .tup ds, h => by unfold plD at h; exact .tup (Sees.refl n ds h)
  | _, .fls _, h => by unfold plD at h; cases h
  | _, .ptp _, h => by unfold plD at h; cases h
  | _, .exn _ _, h => by unfold plD at h; cases h
  | _, .raw _, h => by unfold plD at h; cases h
theorem Sees.refl {m : MS} : ∀ (n : Nat) (ds : List D), plDs n ds = true → Sees m ds ds
  | _, [], _ => .nil
  | n, d :: ds, h => by
    unfold plDs at h
    obtain ⟨h1, h2⟩ := Bool.and_eq_true_iff.mp h
    exact .cons (See.refl n d h1) (Sees.refl n ds h2)
end
section
variable {K : PySem.W.Frag} {m : MS} {H F : Hp}
mutual
theorem See.dp (s : Std K m H F) : ∀ (n : Nat) (e : D) {d : D} {v : V}, See m d e → plD n e = true → Rp K F v d → Dp K H v (toPy e)
  | _, .non, _, _, h, _, r => by cases h; cases r; unfold toPy; exact .non
  | _, .bl b, _, _, h, _, r => by cases h; cases r; unfold toPy; exact .bl b
  | _, .int i, _, _, h, _, r => by cases h; cases r; unfold toPy; exact .int i
  | _, .str x, _, _, h, _, r => by cases h; cases r; unfold toPy; exact .str x
  | 0, .lst _, _, _, _, h, _ => by unfold plD at h; cases h
  | n + 1, .lst es, _, _, h, hp, r => by
    unfold plD at hp
    unfold toPy
    cases h with
    | lst h =>
      cases r with
      | lst h1 h2 => exact .lst (.inl (.inl (s.at h1))) (Sees.dp s n es h hp h2)
    | fls h =>
      cases r with
      | fls h1 h2 => exact .lst (s.toH.seq h1.sq) (Sees.dp s n es h hp h2)
    | cell e h =>
      cases r
      obtain ⟨vs, h1, h2⟩ := s.cells _ _ e
      exact .lst (.inl (.inl h1)) (Sees.dp s n es h hp h2)
  | 0, .tup _, _, _, _, h, _ => by unfold plD at h; cases h
  | n + 1, .tup es, _, _, h, hp, r => by
    unfold plD at hp
    unfold toPy
    cases h with
    | tup h =>
      cases r with
      | tup h1 h2 => exact .tup (Same.seqT s.toH h1) (Sees.dp s n es h hp h2)
    | ptp h =>
      cases r with
      | ptp h1 h0 h2 => exact .tup (.inl (.inr ⟨_, s.at h1⟩)) (Sees.dp s n es h hp h2)
  | _, .fls _, _, _, _, h, _ => by unfold plD at h; cases h
  | _, .ptp _, _, _, _, h, _ => by unfold plD at h; cases h
  | _, .exn _ _, _, _, _, h, _ => by unfold plD at h; cases h
  | _, .raw _, _, _, _, h, _ => by unfold plD at h; cases h
theorem Sees.dp (s : Std K m H F) : ∀ (n : Nat) (es : List D) {ds : List D} {vs : List V}, Sees m ds es → plDs n es = true → Rps K F vs ds → DpAll K H vs (toPys es)
  | _, [], _, _, h, _, r => by cases h; cases r; unfold toPys; exact .nil
  | n, e :: es, _, _, h, hp, r => by
    unfold plDs at hp
    obtain ⟨h1, h2⟩ := Bool.and_eq_true_iff.mp hp
    cases h with
    | cons a b =>
      cases r with
      | cons r1 r2 => unfold toPys; exact .cons (See.dp s n e a h1 r1) (Sees.dp s n es b h2 r2)
end
end
def sc : D → D → Bool
  | .non, .non => true | .non, .int _ => true | .int _, .non => true | .non, .bl _ => true | .bl _, .non => true | .non, .str _ => true | .str _, .non => true
  | .int _, .int _ => true | .bl _, .bl _ => true | .str _, .str _ => true
  | .int _, .str _ => true | .str _, .int _ => true | .bl _, .str _ => true | .str _, .bl _ => true
  | _, _ => false
def scEq : D → D → Bool
  | .non, .non => true
  | .int i, .int j => decide (i = j)
  | .bl i, .bl j => decide (i = j)
  | .str i, .str j => decide (i = j)
  | _, _ => false
theorem sc_rel {K : PySem.W.Frag} {F : Hp} {x y : V} {d1 d2 : D} (r1 : Rp K F x d1) (r2 : Rp K F y d2) (h : sc d1 d2 = true) : scal x y = true ∧ decide (x = y) = scEq d1 d2 := by
  cases d1 <;> cases d2 <;> first | (exact Bool.noConfusion (show false = true from h)) | (cases r1; cases r2; exact ⟨rfl, by simp [scEq]⟩)
def sEq : BS := fun ds m P => match ds with
  | [.int i, .int j] => P (.bl (decide (i = j))) m
  | [.str i, .str j] => P (.bl (decide (i = j))) m
  | [.bl i, .bl j] => P (.bl (decide (i = j))) m
  | [d1, d2] => (sc d1 d2 = true ∧ P (.bl (scEq d1 d2)) m) ∨ ∃ e1 e2, See m d1 e1 ∧ See m d2 e2 ∧ (plD 40 e1 = true ∧ plD 40 e2 = true) ∧ P (.bl (eqD e1 e2)) m
  | _ => False
def sNe : BS := fun ds m P => match ds with
  | [.int i, .int j] => P (.bl (!decide (i = j))) m
  | [.str i, .str j] => P (.bl (!decide (i = j))) m
  | [.bl i, .bl j] => P (.bl (!decide (i = j))) m
  | [d1, d2] => (sc d1 d2 = true ∧ P (.bl (!scEq d1 d2)) m) ∨ ∃ e1 e2, See m d1 e1 ∧ See m d2 e2 ∧ (plD 40 e1 = true ∧ plD 40 e2 = true) ∧ P (.bl (!eqD e1 e2)) m
  | _ => False
def rEqs (K : PySem.W.Frag) : R2 := fun x y H Q => rEq x y H Q ∨ rEqD K x y H Q
def rNes (K : PySem.W.Frag) : R2 := fun x y H Q => rNe x y H Q ∨ rNeD K x y H Q
theorem op_eqs {X : Cx} {k : Nat} (hr : Room k X.A) : OpR X (compareOp .Eq) (rEqs X.K) := op_eq.or (op_eqD hr.units)
theorem op_nes {X : Cx} {k : Nat} (hr : Room k X.A) : OpR X (compareOp .NotEq) (rNes X.K) := op_ne.or (op_neD hr.units)
theorem bok_eq {K : PySem.W.Frag} : Bok2 K (rEqs K) sEq := fun d1 d2 m P h x y H F s r1 r2 Q q => by
  have sca : ∀ e1 e2, d1 = e1 → d2 = e2 → sc e1 e2 = true → P (.bl (scEq e1 e2)) m → rEqs K x y H Q := by
    rintro _ _ rfl rfl hs p
    obtain ⟨a, b⟩ := sc_rel r1 r2 hs
    exact .inl ⟨a, by rw [b]; exact q _ _ _ _ _ p (Go.refl s) (.bl _)⟩
  unfold sEq at h
  split at h
  · rename_i e; cases e; exact sca _ _ rfl rfl rfl h
  · rename_i e; cases e; exact sca _ _ rfl rfl rfl h
  · rename_i e; cases e; exact sca _ _ rfl rfl rfl h
  · rename_i e; cases e
    rcases h with ⟨hs, h⟩ | ⟨e1, e2, a, b, ⟨c, d⟩, h⟩
    · exact sca _ _ rfl rfl hs h
    · exact .inr ⟨toPy e1, toPy e2, See.dp s 40 e1 a c r1, See.dp s 40 e2 b d r2, shaped_of c (by decide), shaped_of d (by decide), q _ _ _ _ _ h (Go.refl s) (.bl _)⟩
  · exact h.elim
theorem bok_ne {K : PySem.W.Frag} : Bok2 K (rNes K) sNe := fun d1 d2 m P h x y H F s r1 r2 Q q => by
  have sca : ∀ e1 e2, d1 = e1 → d2 = e2 → sc e1 e2 = true → P (.bl (!scEq e1 e2)) m → rNes K x y H Q := by
    rintro _ _ rfl rfl hs p
    obtain ⟨a, b⟩ := sc_rel r1 r2 hs
    exact .inl ⟨a, by rw [b]; exact q _ _ _ _ _ p (Go.refl s) (.bl _)⟩
  unfold sNe at h
  split at h
  · rename_i e; cases e; exact sca _ _ rfl rfl rfl h
  · rename_i e; cases e; exact sca _ _ rfl rfl rfl h
  · rename_i e; cases e; exact sca _ _ rfl rfl rfl h
  · rename_i e; cases e
    rcases h with ⟨hs, h⟩ | ⟨e1, e2, a, b, ⟨c, d⟩, h⟩
    · exact sca _ _ rfl rfl hs h
    · exact .inr ⟨toPy e1, toPy e2, See.dp s 40 e1 a c r1, See.dp s 40 e2 b d r2, shaped_of c (by decide), shaped_of d (by decide), q _ _ _ _ _ h (Go.refl s) (.bl _)⟩
  · exact h.elim
def isD : D → Option Bool
  | .non => some true
  | .raw (.ref _) => some false
  | .raw _ => none
  | _ => some false
theorem isD_rel {K : PySem.W.Frag} {F : Hp} {x : V} {d : D} {b : Bool} (r : Rp K F x d) (h : isD d = some b) : decide (x = .non) = b := by
  cases r <;> first | (cases h; rfl) | skip
  cases x <;> first | (cases h; rfl) | (cases h)
def sIs : BS := fun ds m P => match ds with
  | [.bl a, .bl b] => P (.bl (decide (a = b))) m
  | [d, .non] => match isD d with
    | some b => P (.bl b) m
    | none => False
  | _ => False
def rIss : R2 := fun x y H Q => rIsB x y H Q ∨ y = .non ∧ Q (.bl (decide (x = .non))) H
theorem op_iss {X : Cx} : OpR X (compareOp .Is) rIss := op_isBl.or op_isN
theorem bok_is {K : PySem.W.Frag} : Bok2 K rIss sIs := fun d1 d2 m P h x y H F s r1 r2 Q q => by
  unfold sIs at h
  split at h
  · rename_i e; cases e
    cases r1; cases r2
    exact .inl ⟨_, _, rfl, rfl, q _ _ _ _ _ h (Go.refl s) (.bl _)⟩
  · rename_i e; cases e
    split at h
    · rename_i b hb
      cases r2
      exact .inr ⟨rfl, by rw [isD_rel r1 hb]; exact q _ _ _ _ _ h (Go.refl s) (.bl _)⟩
    · exact h.elim
  · exact h.elim
end Nu
namespace Nu
open PySem PySem.Spec L2
open PyProof.Rows hiding St
section
variable {K : PySem.W.Frag} {F F' H : Hp} {m : MS}
theorem rp_kD (k : Key) : Rp K F (kV k) (kD k) := by
  cases k with
  | inl i => exact .int _
  | inr s => exact .str _
theorem keyOf_rel {v : V} {d : D} {k : Key} (r : Rp K F v d) (h : keyOf d = some k) : v = kV k := by
  cases d with
  | int i => cases h; cases r; rfl
  | str s => cases h; cases r; rfl
  | _ => cases h
theorem RKs.val {l : List (Key × V)} {r : List (Key × D)} (h : RKs K F l r) (k : Key) : (valV l k = none ∧ valD r k = none) ∨ ∃ v d, valV l k = some v ∧ valD r k = some d ∧ Rp K F v d := by
  induction h with
  | nil => exact .inl ⟨rfl, rfl⟩
  | @cons p q l r hp t ih =>
    by_cases e : p.1 = k
    · refine .inr ⟨p.2, q.2, ?_, ?_, hp.2⟩
      · simp [valV, List.find?_cons, e]
      · simp [valD, List.find?_cons, ← hp.1, e]
    · have e1 : valV (p :: l) k = valV l k := by simp [valV, List.find?_cons, e]
      have e2 : valD (q :: r) k = valD r k := by simp [valD, List.find?_cons, ← hp.1, e]
      rw [e1, e2]; exact ih
theorem RKs.isSome {l : List (Key × V)} {r : List (Key × D)} (h : RKs K F l r) (k : Key) : (valV l k).isSome = (valD r k).isSome := by
  rcases h.val k with ⟨a, b⟩ | ⟨v, d, a, b, _⟩
  · rw [a, b]; rfl
  · rw [a, b]; rfl
theorem RKs.some {l : List (Key × V)} {r : List (Key × D)} {k : Key} {d : D} (h : RKs K F l r) (e : valD r k = some d) : ∃ v, valV l k = some v ∧ Rp K F v d := by
  rcases h.val k with ⟨a, b⟩ | ⟨v, d', a, b, c⟩
  · rw [e] at b; cases b
  · rw [e] at b; cases b; exact ⟨v, a, c⟩
theorem RKs.none {l : List (Key × V)} {r : List (Key × D)} {k : Key} (h : RKs K F l r) (e : valD r k = Option.none) : valV l k = Option.none := by
  rcases h.val k with ⟨a, b⟩ | ⟨v, d', a, b, c⟩
  · exact a
  · rw [e] at b; cases b
theorem RKs.len {l : List (Key × V)} {r : List (Key × D)} (h : RKs K F l r) : l.length = r.length := by
  induction h with
  | nil => rfl
  | cons hp t ih => rw [List.length_cons, List.length_cons, ih]
theorem RKs.keys {l : List (Key × V)} {r : List (Key × D)} (h : RKs K F l r) : l.map (·.1) = r.map (·.1) := by
  induction h with
  | nil => rfl
  | cons hp t ih => rw [List.map_cons, List.map_cons, ih, hp.1]
theorem RKs.any {l : List (Key × V)} {r : List (Key × D)} (h : RKs K F l r) (k : Key) : (l.any fun kv => decide (kv.1 = k)) = (r.any fun kv => decide (kv.1 = k)) := by
  induction h with
  | nil => rfl
  | cons hp t ih => rw [List.any_cons, List.any_cons, ih, hp.1]
theorem RKs.snoc {l : List (Key × V)} {r : List (Key × D)} {k : Key} {v : V} {d : D} (h : RKs K F l r) (rv : Rp K F v d) : RKs K F (l ++ [(k, v)]) (r ++ [(k, d)]) := by
  induction h with
  | nil => exact .cons ⟨rfl, rv⟩ .nil
  | cons hp t ih => exact .cons hp ih
theorem RKs.put {l : List (Key × V)} {r : List (Key × D)} {k : Key} {v : V} {d : D} (h : RKs K F l r) (rv : Rp K F v d) : RKs K F (putK l k v) (putD r k d) := by
  unfold putK putD
  rw [h.any k]
  split
  · next hh =>
    clear hh
    induction h with
    | nil => exact .nil
    | @cons p q l r hp t ih =>
      refine .cons ?_ ih
      show (if p.1 = k then (p.1, v) else p).1 = (if q.1 = k then (q.1, d) else q).1 ∧ Rp K F (if p.1 = k then (p.1, v) else p).2 (if q.1 = k then (q.1, d) else q).2
      rw [← hp.1]
      split
      · exact ⟨rfl, rv⟩
      · exact hp
  · exact h.snoc rv
/-- a dict cell, to be read -/
def Cell.kvs : Cell → Option (List (Key × D))
  | .dct kvs => some kvs
  | .lck _ _ kvs => some kvs
  | _ => none
theorem dct_at {p : Addr} {c : Cell} {kds : List (Key × D)} (s : Std K m H F) (e : m p = some c) (hk : c.kvs = some kds) : ∃ kvs, Rd H p (.dK kvs) ∧ RKs K F kvs kds := by
  have h := s.cells p c e
  cases c with
  | dct ds =>
    cases hk
    obtain ⟨kvs, z, r⟩ := h
    exact ⟨kvs, .inl z, r⟩
  | lck lo lv ds =>
    cases hk
    obtain ⟨z, r⟩ := h
    exact ⟨lv, .inr ⟨lo, z⟩, r⟩
  | _ => cases hk
theorem dget_of {p : Addr} {kvs : List (Key × V)} {k : Key} (e : Rd H p (.dK kvs)) : DGet H p (kV k) (valV kvs k) := .inl ⟨kvs, k, e, rfl, rfl⟩
end
def sIx : BS := fun ds m P => match ds with
  | [.lst xs, .int i] => ∃ d, atI xs i = some d ∧ P d m
  | [.tup xs, .int i] => ∃ d, atI xs i = some d ∧ P d m
  | [.fls xs, .int i] => ∃ d, atI xs i = some d ∧ P d m
  | [.ptp xs, .int i] => ∃ d, atI xs i = some d ∧ P d m
  | [.str z, .int i] => z.length ≤ sizeLine ∧ ∃ c, atI z.cps.toList i = some c ∧ P (.str ⟨#[c]⟩) m
  | [.raw (.ref p), y] => ∃ c, m p = some c ∧ match c with
    | .lst xs => match y with
      | .int i => ∃ d, atI xs i = some d ∧ P d m
      | _ => False
    | .dct kvs => match keyOf y with
      | some k => ∃ d, valD kvs k = some d ∧ P d m
      | none => False
    | .lck _ _ kvs => match keyOf y with
      | some k => ∃ d, valD kvs k = some d ∧ P d m
      | none => False
    | _ => False
  | _ => False
def rIxs (K : PySem.W.Frag) : R2 := fun x y H Q => rIx K x y H Q ∨ ∃ a v, x = .ref a ∧ DGet H a y (some v) ∧ Q v H
theorem ix_dct {X : Cx} (hu : X.A.units + 1 < cLine) : IxR X (fun x y H Q => ∃ a v, x = .ref a ∧ DGet H a y (some v) ∧ Q v H) := by
  intro value slice pins s σ H x y v u Q I rx ry h hs
  obtain ⟨a, w, rfl, g, q⟩ := h
  obtain rfl : v = Value.ref a := rx
  have hT := dict_typeIs I g
  unfold subscriptTail
  refine wpAny_bind ?_
  rw [getitemInPython_of_ne hT.not_modules]
  refine wpAny_bind (wpAny_specialOf hT PySem.F.slot_dict_getitem.lookup ?_)
  have fin : wpAny (model X.prog X.w) X.A (subscripted slice false (.ref a) u) (fun r s₃ => wpAny (model X.prog X.w) X.A (letTemporaryGo value (.ref a) r >>= fun _ => pure r) (EP X pins σ Q) X.xe s₃) X.xe s := by
    rw [hs]
    exact wpAny_operating (d_getItem hu I g ry fun w' s3 I3 rw' => wpAny_bind (wpAny_letTemporaryGo (wpAny_pure ⟨w, H, I3, rw', q⟩)))
  first
    | exact wpAny_pure (wpAny_bind fin)
    | exact wpAny_bind (wpAny_pure (wpAny_bind fin))
    | exact wpAny_bind fin
theorem rps_atI {K : PySem.W.Frag} {F : Hp} {vs : List V} {ds : List D} {i : Int} {d : D} (h : Rps K F vs ds) (e : atI ds i = some d) : ∃ v, atI vs i = some v ∧ Rp K F v d := by
  unfold atI at *
  rw [h.length]
  cases q : ixN ds.length i with
  | none => rw [q] at e; cases e
  | some n =>
    rw [q] at e
    exact h.get e
theorem bok_ix {K : PySem.W.Frag} : Bok2 K (rIxs K) sIx := fun d1 d2 m P h x y H F s r1 r2 Q q => by
  unfold sIx at h
  split at h
  · rename_i e; cases e
    cases r2
    obtain ⟨d, h1, h2⟩ := h
    cases r1 with
    | lst a b =>
      obtain ⟨v, e, r⟩ := rps_atI b h1
      exact .inl (.inl ⟨_, _, _, v, rfl, rfl, .inl (.inl (s.at a)), e, q v H F _ _ h2 (Go.refl s) r⟩)
  · rename_i e; cases e
    cases r2
    obtain ⟨d, h1, h2⟩ := h
    cases r1 with
    | tup a b =>
      obtain ⟨v, e, r⟩ := rps_atI b h1
      exact .inl (.inr (.inl ⟨_, _, _, v, rfl, rfl, Same.seqT s.toH a, e, q v H F _ _ h2 (Go.refl s) r⟩))
  · rename_i e; cases e
    cases r2
    obtain ⟨d, h1, h2⟩ := h
    cases r1 with
    | fls a b =>
      obtain ⟨v, e, r⟩ := rps_atI b h1
      exact .inl (.inl ⟨_, _, _, v, rfl, rfl, s.toH.seq a.sq, e, q v H F _ _ h2 (Go.refl s) r⟩)
  · rename_i e; cases e
    cases r2
    obtain ⟨d, h1, h2⟩ := h
    cases r1 with
    | ptp a a0 b =>
      obtain ⟨v, e, r⟩ := rps_atI b h1
      exact .inl (.inr (.inl ⟨_, _, _, v, rfl, rfl, .inl (.inr ⟨_, s.at a⟩), e, q v H F _ _ h2 (Go.refl s) r⟩))
  · rename_i e; cases e
    cases r2
    obtain ⟨hz, d, h1, h2⟩ := h
    cases r1
    exact .inl (.inr (.inr ⟨_, _, _, rfl, rfl, hz, h1, q _ H F _ _ h2 (Go.refl s) (.str _)⟩))
  · rename_i p y' e; cases e
    cases r1
    obtain ⟨c, hc, h⟩ := h
    have dd : ∀ kds k d, c.kvs = some kds → keyOf d2 = some k → valD kds k = some d → P d m → rIxs K (.ref p) y H Q := fun kds k d hk e1 e2 p2 => by
      obtain ⟨kvs, hd, rk⟩ := dct_at s hc hk
      obtain ⟨v, e3, r⟩ := rk.some e2
      refine .inr ⟨p, v, rfl, ?_, q v H F _ _ p2 (Go.refl s) r⟩
      rw [keyOf_rel r2 e1, ← e3]
      exact dget_of hd
    cases c with
    | lst xs =>
      cases d2 with
      | int i =>
        obtain ⟨d, h1, h2⟩ := h
        cases r2
        obtain ⟨vs, a, b⟩ := s.cells _ _ hc
        obtain ⟨v, e, r⟩ := rps_atI b h1
        exact .inl (.inl ⟨_, _, _, v, rfl, rfl, .inl (.inl a), e, q v H F _ _ h2 (Go.refl s) r⟩)
      | _ => exact h.elim
    | dct kds =>
      have h : match keyOf d2 with | some k => ∃ d, valD kds k = some d ∧ P d m | none => False := h
      cases e : keyOf d2 with
      | none => rw [e] at h; exact h.elim
      | some k =>
        rw [e] at h
        obtain ⟨d, h1, h2⟩ := h
        exact dd kds k d rfl e h1 h2
    | lck lo lv kds =>
      have h : match keyOf d2 with | some k => ∃ d, valD kds k = some d ∧ P d m | none => False := h
      cases e : keyOf d2 with
      | none => rw [e] at h; exact h.elim
      | some k =>
        rw [e] at h
        obtain ⟨d, h1, h2⟩ := h
        exact dd kds k d rfl e h1 h2
    | _ => exact h.elim
  · exact h.elim
section
variable {X : Cx} {e a b c o i value : Expr} {es : List Expr} {t ta tb tc to ti te : T} {ts : Ts} {pos pos' p2 tpos : Pos}
theorem se_ix {k : Nat} (hr : Room k X.A) (ha : SE X a ta) (hb : SE X b tb) (hs : PlainIx b := by exact fun _ _ => rfl) : SE X (.Subscript a b pos) (.bop sIx (.cons ta (.cons tb .nil))) := ⟨fun ρ m P Z p => ⟨fun F0 σ H F S Q V tk q kx => by
  refine wE_of (pe_ix (ix_seq.or (ix_dct (by have := hr.units; omega))) pe_w pe_w hs) ?_
  refine (ha.go ρ m _ Z p).run F0 σ H F S _ V tk (fun x H1 F1 d1 m1 p1 g1 r1 => ?_) kx
  refine (hb.go ρ m1 _ Z p1).run F0 σ H1 F1 (S.go g1) _ V tk (fun y H2 F2 d2 m2 p2 g2 r2 => ?_) (kx.go g1)
  exact bok_ix d1 d2 m2 P p2 x y H2 F2 g2.std (r1.up g2.grow _) r2 Q fun v H3 F3 d3 m3 p3 g3 r3 => q v H3 F3 d3 m3 p3 ((g1.trans g2).trans g3) r3⟩⟩
def cutD (xs : List D) (lo hi : Option Int) : List D := (xs.drop (HT.sIx xs.length 0 lo)).take (HT.sIx xs.length xs.length hi - HT.sIx xs.length 0 lo)
theorem Rps.cut {K : PySem.W.Frag} {F : Hp} {vs : List V} {ds : List D} (h : Rps K F vs ds) (lo hi : Option Int) : Rps K F (cutV vs lo hi) (cutD ds lo hi) := by
  unfold cutV cutD
  rw [h.length]
  exact (h.drop _).take _
def lsR (d : D) (m : MS) (R : List D → Prop) : Prop := match d with
  | .lst xs => R xs
  | .fls xs => R xs
  | .raw (.ref p) => ∃ xs, m p = some (.lst xs) ∧ R xs
  | _ => False
theorem lsR_use {K : PySem.W.Frag} {m : MS} {H F : Hp} {d : D} {v : V} {R : List D → Prop} (h : lsR d m R) (s : Std K m H F) (r : Rp K F v d) : ∃ a xs vs, v = .ref a ∧ R xs ∧ SqL K H a vs ∧ Rps K F vs xs := by
  cases d with
  | lst xs =>
    cases r with
    | @lst a vs _ h1 h2 => exact ⟨a, xs, vs, rfl, h, .inl (.inl (s.at h1)), h2⟩
  | fls xs =>
    cases r with
    | @fls a vs _ h1 h2 => exact ⟨a, xs, vs, rfl, h, s.toH.seq h1.sq, h2⟩
  | raw w =>
    cases w with
    | ref p =>
      cases r
      obtain ⟨xs, e, h⟩ := h
      obtain ⟨vs, h1, h2⟩ := s.cells p _ e
      exact ⟨p, xs, vs, rfl, h, .inl (.inl h1), h2⟩
    | _ => exact h.elim
  | _ => exact h.elim
def slD (d : D) (l h : Option Int) (m : MS) (P : NX) : Prop := match d with
  | .str z => z.length ≤ sizeLine ∧ P (.str (cutS z l h)) m
  | .tup xs => P (.tup (cutD xs l h)) m
  | _ => lsR d m fun xs => NewL (cutD xs l h) m P
def sSlH : BS := fun ds m P => match ds with
  | [d, .int h] => slD d none (some h) m P
  | _ => False
def rSls (K : PySem.W.Frag) : V → Option Int → Option Int → Hp → VK → Prop := fun x lo hi H Q => rSlA K x lo hi H Q ∨ rSlL K x lo hi H Q ∨ rSlS x lo hi H Q
theorem sl_all' : SlR X (rSls X.K) := sl_tupA.or (sl_list.or sl_str)
theorem bok_sl {K : PySem.W.Frag} {m : MS} {H F : Hp} {d : D} {x : V} {l h : Option Int} {P : NX} {Q : VK} (hs : slD d l h m P) (s : Std K m H F) (r : Rp K F x d) (q : ∀ v H' F' d m', P d m' → Go K m H F m' H' F' → Rp K F' v d → Q v H') : rSls K x l h H Q := by
  unfold slD at hs
  split at hs
  · cases r
    exact .inr (.inr ⟨_, rfl, hs.1, q _ _ _ _ _ hs.2 (Go.refl s) (.str _)⟩)
  · rename_i xs
    cases r with
    | @tup a vs _ h1 h2 =>
      refine .inl ⟨a, vs, rfl, Same.seqT s.toH h1, fun z => ?_, fun _ => newT_q hs s (h2.cut l h) q⟩
      refine q _ H F _ _ hs (Go.refl s) ?_
      have e : cutD xs l h = xs := by
        unfold cutD
        rw [← h2.length, z.1, z.2, List.drop_zero, Nat.sub_zero, h2.length]
        exact List.take_length
      rw [e]
      exact .tup h1 h2
  · obtain ⟨a, xs, vs, rfl, hs, h1, h2⟩ := lsR_use hs s r
    exact .inr (.inl ⟨a, vs, rfl, h1, newL_q hs s (h2.cut l h) q⟩)
theorem se_slH (ha : SE X a ta) (hb : SE X b tb) : SE X (.Subscript a (.Slice none (some b) none p2) pos) (.bop sSlH (.cons ta (.cons tb .nil))) := ⟨fun ρ m P Z p => ⟨fun F0 σ H F S Q V tk q kx => by
  refine wE_of (pe_slice sl_all' pe_w po_none (po_some pe_w)) ?_
  refine (ha.go ρ m _ Z p).run F0 σ H F S _ V tk (fun x H1 F1 d1 m1 p1 g1 r1 => ?_) kx
  refine (hb.go ρ m1 _ Z p1).run F0 σ H1 F1 (S.go g1) _ V tk (fun y H2 F2 d2 m2 p2 g2 r2 => ?_) (kx.go g1)
  cases d2 with
  | int l =>
    cases r2
    exact ⟨l, rfl, bok_sl p2 g2.std (r1.up g2.grow _) fun v H3 F3 d3 m3 p3 g3 r3 => q v H3 F3 d3 m3 p3 ((g1.trans g2).trans g3) r3⟩
  | _ => exact False.elim p2⟩⟩
def sTup : BS := fun ds m P => P (.tup ds) m
def sLst : BS := fun ds m P => NewL ds m P
theorem se_tup {x1} (h : SA X es ts) (hz : es.length ≤ 100000 := by decide) : SE X (.Tuple es x1 pos) (.bop sTup ts) := ⟨fun ρ m P Z p => ⟨fun F0 σ H F S Q V tk q kx => by
  refine wE_of (pe_tup pa_w) ?_
  refine (h.go2 ρ m _ Z p).run F0 σ H F S _ V tk (fun vs H1 F1 ds m1 p1 g1 r1 => ?_) kx
  refine ⟨by rw [r1.length, p1.1]; exact Nat.le_trans hz (by decide), newT_q p1.2 g1.std r1 fun v H3 F3 d3 m3 p3 g3 r3 => q v H3 F3 d3 m3 p3 (g1.trans g3) r3⟩⟩⟩
theorem se_lst (h : SA X es ts) (hz : es.length ≤ 100000 := by decide) : SE X (.List es pos) (.bop sLst ts) := ⟨fun ρ m P Z p => ⟨fun F0 σ H F S Q V tk q kx => by
  refine wE_of (pe_lst pa_w) ?_
  refine (h.go2 ρ m _ Z p).run F0 σ H F S _ V tk (fun vs H1 F1 ds m1 p1 g1 r1 => ?_) kx
  refine ⟨by rw [r1.length, p1.1]; exact Nat.le_trans hz (by decide), newL_q p1.2 g1.std r1 fun v H3 F3 d3 m3 p3 g3 r3 => q v H3 F3 d3 m3 p3 (g1.trans g3) r3⟩⟩⟩
def rSets : TSet := fun o i v H Q => rSetL o i v H Q ∨ ∃ a H', o = .ref a ∧ DPut H a i v H' ∧ Q H'
theorem set_both (hu : X.A.units + 1 < cLine) : PSet X rSets := by
  intro pins s σ H o i v ov iv u Q I ro ri rv h
  rcases h with h | ⟨a, H', rfl, g, q⟩
  · exact set_list pins s σ H o i v ov iv u Q I ro ri rv h
  · obtain rfl : ov = Value.ref a := ro
    exact d_setItem hu I g ri rv fun s4 I4 => ⟨H', I4, q⟩
theorem s_iset {k : Nat} (hr : Room k X.A) (ho : SE X o to) (hi : SE X i ti) (hv : SE X value te)
    (hs : swapsWithSole [.Subscript o i tpos] value pos.line X.env = pure false := by rfl) (hw : swappedStores [.Subscript o i tpos] value X.env = pure none := by rfl)
    (h1 : (assignEach [.Subscript o i tpos] X.env).map (·.2) = [assign (.Subscript o i tpos) X.env] := by rfl)
    (hass : ∀ v, assign (.Subscript o i tpos) X.env v = (do
      let ov ← holding [v] (eval o X.env)
      let iv ← holding [v, ov] (eval i X.env)
      standAt tpos
      holding [v, ov, iv] (setItem ov iv v)
      release [v, ov, iv] []) := by intro _; rfl) :
    SS1 X (.Assign [.Subscript o i tpos] value pos) (.iset to ti te) := ⟨fun ρ m A p => ⟨fun F0 σ H F S E V tk k => by
  refine wS_of (ps_asg pe_w (pg_sub pe_w pe_w (set_both (by have := hr.units; omega)) hass) hs hw h1) ?_
  refine (hv.go ρ m _ _ p).run F0 σ H F S _ V tk (fun v H1 F1 d m1 p1 g1 r1 => ?_) k.ex
  refine (ho.go ρ m1 _ _ p1).run F0 σ H1 F1 (S.go g1) _ V tk (fun x H2 F2 dx m2 p2 g2 r2 => ?_) (k.ex.go g1)
  cases dx with
  | raw w =>
    cases w with
    | ref pa =>
      have p2 : W ti ρ m2 _ _ := p2
      refine (hi.go ρ m2 _ _ p2).run F0 σ H2 F2 ((S.go g1).go g2) _ V tk (fun y H3 F3 dy m3 p3 g3 r3 => ?_) ((k.ex.go g1).go g2)
      cases r2
      obtain ⟨c, hc, p3⟩ := p3
      have G := (g1.trans g2).trans g3
      have rv := (r1.up g2.grow _).up g3.grow _
      cases c with
      | lst ds =>
        cases dy with
        | int kk =>
          obtain ⟨n, hn, p3⟩ := p3
          cases r3
          obtain ⟨vs, e1, r⟩ := g3.std.cells pa _ hc
          have g4 : Go X.K m3 H3 F3 (mset m3 pa (.lst (ds.set n d))) (upd H3 pa (.lst (vs.set n v))) F3 := Go.put g3.std hc ⟨_, upd_same, r.set n rv⟩
          exact .inl ⟨pa, vs, kk, n, rfl, rfl, e1, by rw [r.length]; exact hn, k.nx _ _ _ _ _ p3 (G.trans g4) (S.go (G.trans g4))⟩
        | _ => exact p3.elim
      | dct kds =>
        have p3 : match keyOf dy with | some k => kds.length < 100000 ∧ A.nx ρ (mset m3 pa (.dct (putD kds k d))) | none => False := p3
        cases e : keyOf dy with
        | none => rw [e] at p3; exact p3.elim
        | some key =>
          rw [e] at p3
          obtain ⟨kvs, e1, rk⟩ := g3.std.cells pa _ hc
          have g4 : Go X.K m3 H3 F3 (mset m3 pa (.dct (putD kds key d))) (upd H3 pa (.dK (putK kvs key v))) F3 := Go.put g3.std hc ⟨_, upd_same, rk.put rv⟩
          refine .inr ⟨pa, _, rfl, ?_, k.nx _ _ _ _ _ p3.2 (G.trans g4) (S.go (G.trans g4))⟩
          rw [keyOf_rel r3 e]
          exact DPut.k e1 (by rw [rk.len]; exact Nat.lt_trans p3.1 (by decide))
      | _ => exact p3.elim
    | _ => exact p2.elim
  | _ => exact p2.elim⟩⟩
def flatD : D → Bool
  | .non => true
  | .bl _ => true
  | .int _ => true
  | .str _ => true
  | _ => false
def eqF : D → D → Bool
  | .non, .non => true
  | .bl a, .bl b => a == b
  | .bl a, .int b => (if a then 1 else 0) == b
  | .int a, .bl b => a == (if b then 1 else 0)
  | .int a, .int b => a == b
  | .str a, .str b => a == b
  | _, _ => false
theorem flat_rel {K : PySem.W.Frag} {F : Hp} {v : L2.V} {d : D} (r : Rp K F v d) (h : flatD d = true) : flatV v = true := by
  cases d <;> first | (exact Bool.noConfusion (show false = true from h)) | (cases r; rfl)
theorem eqF_rel {K : PySem.W.Frag} {F : Hp} {v w : L2.V} {d e : D} (r : Rp K F v d) (r' : Rp K F w e) (h : flatD d = true) (h' : flatD e = true) : eqV v w = eqF d e := by
  cases d <;> first | (exact Bool.noConfusion (show false = true from h)) | (cases r; cases e <;> first | (exact Bool.noConfusion (show false = true from h')) | (cases r'; rfl))
theorem flats_rel {K : PySem.W.Frag} {F : Hp} {w : L2.V} {e : D} (r' : Rp K F w e) (h' : flatD e = true) : ∀ {vs : List L2.V} {ds : List D}, Rps K F vs ds → ds.all flatD = true → vs.all flatV = true ∧ (vs.any fun y => eqV y w) = ds.any fun y => eqF y e
  | _, [], r, _ => by cases r; exact ⟨rfl, rfl⟩
  | _, d :: ds, r, h => by
    cases r with
    | cons r1 r2 =>
      rw [List.all_cons, Bool.and_eq_true] at h
      obtain ⟨a, b⟩ := flats_rel r' h' r2 h.2
      refine ⟨by rw [List.all_cons, flat_rel r1 h.1, a]; rfl, by rw [List.any_cons, List.any_cons, b, eqF_rel r1 r' h.1 h']⟩
def inS (d : D) (ds : List D) (m : MS) (R : Bool → Prop) : Prop := (flatD d = true ∧ ds.all flatD = true ∧ R (ds.any fun y => eqF y d)) ∨ ∃ e es, See m d e ∧ Sees m ds es ∧ (plD 40 e = true ∧ plDs 40 es = true) ∧ R (es.any fun z => eqD z e)
def inF (d : D) (ds : List D) (R : Bool → Prop) : Prop := flatD d = true ∧ ds.all flatD = true ∧ R (ds.any fun y => eqF y d)
def inR (d1 d2 : D) (m : MS) (R : Bool → Prop) : Prop := match d2 with
  | .str z => ∃ c, d1 = .str ⟨#[c]⟩ ∧ R (decide (c ∈ z.cps.toList))
  | .lst ds => inS d1 ds m R
  | .fls ds => inS d1 ds m R
  | .tup ds => inF d1 ds R
  | .ptp ds => inF d1 ds R
  | .raw (.ref p) => ∃ c, m p = some c ∧ match c with
    | .lst ds => inS d1 ds m R
    | .dct kvs => match keyOf d1 with
      | some k => R (valD kvs k).isSome
      | none => False
    | .lck _ _ kvs => match keyOf d1 with
      | some k => R (valD kvs k).isSome
      | none => False
    | _ => False
  | _ => False
def sNotIn : BS := fun ds m P => match ds with
  | [d1, d2] => inR d1 d2 m fun b => P (.bl (!b)) m
  | _ => False
def rIns (K : PySem.W.Frag) (f : Bool → Bool) : R2 := fun x y H Q => (∃ p xs, y = .ref p ∧ (SqL K H p xs ∨ SqT K H p xs) ∧ flatV x = true ∧ xs.all flatV = true ∧ Q (.bl (f (inV x xs))) H) ∨
  (∃ d ds, Dp K H x d ∧ Dp K H y (.list ds) ∧ SeqAt.shaped d = true ∧ SeqAt.shaped (.list ds) = true ∧ Q (.bl (f (ds.any fun z => PyData.eqv z d))) H) ∨
  (∃ (c : Nat) (z : Str), x = .str ⟨#[c]⟩ ∧ y = .str z ∧ Q (.bl (f (decide (c ∈ z.cps.toList)))) H) ∨ ∃ a o, y = .ref a ∧ DGet H a x o ∧ Q (.bl (f o.isSome)) H
theorem op_notIns {k : Nat} (hr : Room k X.A) : OpR X (compareOp .NotIn) (rIns X.K not) := by
  refine op_notIn_seq.or ((op_notInD (by have := hr.un; omega)).or (op_notIn_sign.or ?_))
  intro pins s σ H x y v u Q I rx ry h
  obtain ⟨a, oo, rfl, g, q⟩ := h
  obtain rfl : u = Value.ref a := ry
  exact d_notIn (by have := hr.units; omega) I g rx fun s3 I3 => ⟨.bl (!oo.isSome), H, I3, rfl, q⟩
theorem any_toPys (e : D) : ∀ es : List D, ((toPys es).any fun z => PyData.eqv z (toPy e)) = es.any fun z => eqD z e
  | [] => by unfold toPys; rfl
  | d :: es => by unfold toPys; rw [List.any_cons, List.any_cons, any_toPys e es]; rfl
theorem bok_inR {K : PySem.W.Frag} {f : Bool → Bool} {d1 d2 : D} {m : MS} {P : NX} (h : inR d1 d2 m fun b => P (.bl (f b)) m) {x y : L2.V} {H F : Hp} (s : Std K m H F) (r1 : Rp K F x d1) (r2 : Rp K F y d2) {Q : VK} (q : ∀ v H' F' d m', P d m' → Go K m H F m' H' F' → Rp K F' v d → Q v H') : rIns K f x y H Q := by
  have fl : ∀ ds vs p, y = .ref p → (SqL K H p vs ∨ SqT K H p vs) → Rps K F vs ds → inF d1 ds (fun b => P (.bl (f b)) m) → rIns K f x y H Q := by
    rintro ds vs p rfl hq rr ⟨a, b, c⟩
    obtain ⟨e1, e2⟩ := flats_rel r1 a rr b
    refine .inl ⟨p, vs, rfl, hq, flat_rel r1 a, e1, ?_⟩
    rw [show inV x vs = _ from e2]
    exact q _ _ _ _ _ c (Go.refl s) (.bl _)
  have sq : ∀ ds vs p, y = .ref p → SqL K H p vs → Rps K F vs ds → inS d1 ds m (fun b => P (.bl (f b)) m) → rIns K f x y H Q := by
    intro ds vs p hy hq rr h
    rcases h with h | ⟨e, es, a, b, ⟨c, d⟩, h⟩
    · exact fl ds vs p hy (.inl hq) rr h
    · subst hy
      refine .inr (.inl ⟨toPy e, toPys es, See.dp s 40 e a c r1, .lst hq (Sees.dp s 40 es b d rr), shaped_of c (by decide), ?_, ?_⟩)
      · have := shaped_of (n := 41) (d := .lst es) (by unfold plD; exact d) (by decide)
        unfold toPy at this
        exact this
      · rw [any_toPys]; exact q _ _ _ _ _ h (Go.refl s) (.bl _)
  have dc : ∀ c p kds, y = .ref p → m p = some c → c.kvs = some kds → (match keyOf d1 with | some k => P (.bl (f (valD kds k).isSome)) m | none => False) → rIns K f x y H Q := by
    rintro c p kds rfl hc hk h
    cases e : keyOf d1 with
    | none => rw [e] at h; exact h.elim
    | some k =>
      rw [e] at h
      obtain ⟨kvs, hd, rk⟩ := dct_at s hc hk
      refine .inr (.inr (.inr ⟨p, valV kvs k, rfl, ?_, ?_⟩))
      · rw [keyOf_rel r1 e]; exact dget_of hd
      · rw [rk.isSome]; exact q _ _ _ _ _ h (Go.refl s) (.bl _)
  cases d2 with
  | str z =>
    obtain ⟨c, rfl, h⟩ := h
    cases r1; cases r2
    exact .inr (.inr (.inl ⟨c, z, rfl, rfl, q _ _ _ _ _ h (Go.refl s) (.bl _)⟩))
  | lst ds =>
    cases r2 with
    | lst a b => exact sq ds _ _ rfl (.inl (.inl (s.at a))) b h
  | fls ds =>
    cases r2 with
    | fls a b => exact sq ds _ _ rfl (s.toH.seq a.sq) b h
  | tup ds =>
    cases r2 with
    | tup a b => exact fl ds _ _ rfl (.inr (Same.seqT s.toH a)) b h
  | ptp ds =>
    cases r2 with
    | ptp a a0 b => exact fl ds _ _ rfl (.inr (.inl (.inr ⟨_, s.at a⟩))) b h
  | raw w =>
    cases w with
    | ref p =>
      cases r2
      obtain ⟨c, hc, h⟩ := h
      cases c with
      | lst ds =>
        obtain ⟨vs, a, b⟩ := s.cells _ _ hc
        exact sq ds _ _ rfl (.inl (.inl a)) b h
      | dct kds => exact dc _ _ _ rfl hc rfl h
      | lck lo lv kds => exact dc _ _ _ rfl hc rfl h
      | _ => exact h.elim
    | _ => exact h.elim
  | _ => exact h.elim
theorem bok_notIn {K : PySem.W.Frag} : Bok2 K (rIns K not) sNotIn := fun d1 d2 m P h x y H F s r1 r2 Q q => bok_inR (f := not) h s r1 r2 q
theorem se_powc {i j n : Int} (ha : SE X a (.cst (.int i))) (hb : SE X b (.cst (.int j))) (hc : CPow i j := by exact ⟨by decide, by decide, by decide⟩) (h : i ^ j.toNat = n := by decide +kernel) : SE X (.BinOp a .Pow b pos) (.cst (.int n)) := ⟨fun ρ m P Z p => ⟨fun F0 σ H F S Q V tk q kx => by
  refine wE_of (pe_op op_pow pe_w pe_w) ?_
  refine (ha.go ρ m (fun d1 m1 => d1 = .int i ∧ m1 = m) EX0 ⟨rfl, rfl⟩).run F0 σ H F S _ V tk (fun x H1 F1 d1 m1 p1 g1 r1 => ?_) exk0
  obtain ⟨rfl, rfl⟩ := p1
  refine (hb.go ρ m1 (fun d1 m2 => d1 = .int j ∧ m2 = m1) EX0 ⟨rfl, rfl⟩).run F0 σ H1 F1 (S.go g1) _ V tk (fun y H2 F2 d2 m2 p2 g2 r2 => ?_) exk0
  obtain ⟨rfl, rfl⟩ := p2
  cases r1; cases r2
  subst h
  exact ⟨i, j, rfl, rfl, hc, q _ H2 F2 _ _ p (g1.trans g2) (.int _)⟩⟩⟩
end
end Nu
namespace Nu
open PySem PySem.Spec L2
open PyProof.Rows hiding St
section
variable {X : Cx} {e a b c o : Expr} {es : List Expr} {t ta tb tc to te : T} {ts : Ts} {pos p apos cpos : Pos}
theorem se_bi {id : String} {x : Str} {r : List L2.V → Hp → VK → Prop} {s : BS} (hc : CallR X (.builtin id) r) (hs : BokN X.K r s) (hm : X.mg x = none) (ha : SA X (e :: es) ts) (hv : bootBuiltins x = some (.builtin id) := by decide +kernel) (hg : Gl X x := by rfl)
    (hn : x ≠ "__name__" := by decide) (hdb : (x == ("__debug__" : Str)) = false := by decide) (he : starEach (e :: es) X.env = (false, eval e X.env) :: starEach es X.env := by rfl) (hpl : (backTo pos (starEach es X.env)).any (·.1) = false := by rfl) :
    SE X (.Call (.Name x p) (e :: es) [] pos) (.bop s ts) := ⟨fun ρ m P Z pp => ⟨fun F0 σ H F S Q V tk q kx => by
  refine wE_of (pe_callB hc hg hm hv pa_w hn hdb he hpl) ?_
  refine (ha.go ρ m _ Z pp).run F0 σ H F S _ V tk (fun vs H1 F1 ds m1 p1 g1 r1 => ?_) kx
  exact hs ds m1 P p1 vs H1 F1 g1.std r1 Q fun v H2 F2 d m2 p2 g2 r2 => q v H2 F2 d m2 p2 (g1.trans g2) r2⟩⟩
theorem se_ty {T : String} {x : Str} {r : List L2.V → Hp → VK → Prop} {s : BS} (hc : CallR X (.type T) r) (hs : BokN X.K r s) (hm : X.mg x = none) (ha : SA X (e :: es) ts) (hv : bootBuiltins x = some (.type T) := by decide +kernel) (hg : Gl X x := by rfl)
    (hn : x ≠ "__name__" := by decide) (hdb : (x == ("__debug__" : Str)) = false := by decide) (he : starEach (e :: es) X.env = (false, eval e X.env) :: starEach es X.env := by rfl) (hpl : (backTo pos (starEach es X.env)).any (·.1) = false := by rfl) :
    SE X (.Call (.Name x p) (e :: es) [] pos) (.bop s ts) := ⟨fun ρ m P Z pp => ⟨fun F0 σ H F S Q V tk q kx => by
  refine wE_of (pe_callTy hc hg hm hv pa_w hn hdb he hpl) ?_
  refine (ha.go ρ m _ Z pp).run F0 σ H F S _ V tk (fun vs H1 F1 ds m1 p1 g1 r1 => ?_) kx
  exact hs ds m1 P p1 vs H1 F1 g1.std r1 Q fun v H2 F2 d m2 p2 g2 r2 => q v H2 F2 d m2 p2 (g1.trans g2) r2⟩⟩
def TyV2 (X : Cx) (T : String) (x : L2.V) (H : Hp) : Prop := ∀ (pins : List (Addr × Obj)) (σ : L2.St) (s : Shared) (v : Value), Inv X pins σ H s → RelV x v → s.TypeIs v T ∧ ∀ a, v = .ref a → ∃ ob, s.heap.get? a = some ob ∧ ob.dict = none
structure Cand (X : Cx) (name : Str) (T id : String) (r : L2.V → List L2.V → Hp → VK → Prop) : Prop where
  pa : PlainAttrs T
  slot : Slot T name id
  hty : typeOf (.builtin id) = pure (.type "method_descriptor")
  hm : MtR X id r
def tBMX (X : Cx) (name : Str) (to : TE) (t : TA) : TE := fun σ H Q => to σ H fun x H1 => ∃ T id r, Cand X name T id r ∧ TyV2 X T x H1 ∧ t σ H1 fun xs H2 => r x xs H2 Q
theorem pe_bmX {name : Str} {teo : TE} {t : TA} (ho : PE X o teo) (ha : PA X (e :: es) t)
    (hbase : attributeBase o name X.env (eval o X.env) = eval o X.env)
    (hfew : ((backTo cpos (starEach (e :: es) X.env)).all (fun x => !x.1) && (backToKw cpos (keywordEach [] X.env)).all (fun x => x.1.isSome)
      && decide ((e :: es).length + ([] : List Keyword).length + (if ([] : List Keyword).isEmpty then 0 else 1) < 30)) = true)
    (hline : (apos.endLine == cpos.line) = true) (hs : starEach (e :: es) X.env = (false, eval e X.env) :: starEach es X.env) (hplain : (backTo cpos (starEach es X.env)).any (·.1) = false) :
    PE X (.Call (.Attribute o name apos) (e :: es) [] cpos) (tBMX X name teo t) := by
  refine ⟨fun pins s σ H Q I h => ?_⟩
  refine wpAny_Call_method_late hbase hfew hline rfl (thn (ho.run pins s σ H _ I h) fun v s1 ⟨x, H1, I1, r1, T, id, r, c, ty, q1⟩ => ?_)
  obtain ⟨h1, h2⟩ := ty pins σ s1 v I1 r1
  refine ⟨T, id, c.pa, c.slot, c.hty, h1, h2, ?_⟩
  have hA := ha.run cpos pins s1 σ H1 _ I1 q1
  rw [hs] at hA ⊢
  refine Calls.callWith_builtin (by show (false || (backTo cpos (starEach es X.env)).any (·.1)) = false; rw [hplain] <;> rfl) (Calls.evalArgs_plain ?_)
  exact thn hA fun us s2 ⟨vs, H2, I2, r2, q2⟩ => c.hm pins s2 σ H2 x vs v us Q I2 r1 r2 q2
def BokM (K : PySem.W.Frag) (r : L2.V → List L2.V → Hp → VK → Prop) (s : BS) : Prop := ∀ d ds m P, s (d :: ds) m P → ∀ x vs H F, Std K m H F → Rp K F x d → Rps K F vs ds → ∀ Q : VK, (∀ v H' F' d m', P d m' → Go K m H F m' H' F' → Rp K F' v d → Q v H') → r x vs H Q
abbrev KR := D → MS → (BS → Prop) → Prop
structure KOk (X : Cx) (name : Str) (k : KR) : Prop where
  ok : ∀ d m R, k d m R → ∀ v H F, Std X.K m H F → Rp X.K F v d → ∃ T id r s, Cand X name T id r ∧ TyV2 X T v H ∧ BokM X.K r s ∧ R s
theorem se_bm {name : Str} {k : KR} (hk : KOk X name k) (ho : SE X o to) (ha : SA X (e :: es) ts)
    (hbase : attributeBase o name X.env (eval o X.env) = eval o X.env := by rfl)
    (hfew : ((backTo cpos (starEach (e :: es) X.env)).all (fun x => !x.1) && (backToKw cpos (keywordEach [] X.env)).all (fun x => x.1.isSome)
      && decide ((e :: es).length + ([] : List Keyword).length + (if ([] : List Keyword).isEmpty then 0 else 1) < 30)) = true := by rfl)
    (hline : (apos.endLine == cpos.line) = true := by rfl) (hs : starEach (e :: es) X.env = (false, eval e X.env) :: starEach es X.env := by rfl) (hplain : (backTo cpos (starEach es X.env)).any (·.1) = false := by rfl) :
    SE X (.Call (.Attribute o name apos) (e :: es) [] cpos) (.mth k to ts) := ⟨fun ρ m P Z pp => ⟨fun F0 σ H F S Q V tk q kx => by
  refine wE_of (pe_bmX pe_w pa_w hbase hfew hline hs hplain) ?_
  refine (ho.go ρ m _ Z pp).run F0 σ H F S _ V tk (fun x H1 F1 d m1 p1 g1 r1 => ?_) kx
  obtain ⟨T, id, r, s, cd, ty, bk, p2⟩ := hk.ok d m1 _ p1 x H1 F1 g1.std r1
  refine ⟨T, id, r, cd, ty, ?_⟩
  refine (ha.go ρ m1 _ Z p2).run F0 σ H1 F1 (S.go g1) _ V tk (fun vs H2 F2 ds m2 p3 g2 r2 => ?_) (kx.go g1)
  exact bk d ds m2 P p3 x vs H2 F2 g2.std (r1.up g2.grow _) r2 Q fun v H3 F3 d3 m3 p4 g3 r3 => q v H3 F3 d3 m3 p4 ((g1.trans g2).trans g3) r3⟩⟩
end
def kS (s : BS) : KR := fun d m R => match d with
  | .str _ => R s
  | _ => False
theorem tyS {X : Cx} {z : Str} {H : Hp} : TyV2 X "str" (.str z) H := fun pins σ s v I r => tyV_is I r rfl
section
variable {X : Cx} {name : Str} {id : String} {r : L2.V → List L2.V → Hp → VK → Prop} {s sl sd : BS}
theorem kokS (c : Cand X name "str" id r) (h : BokM X.K r s) : KOk X name (kS s) := ⟨fun d m R k v H F sd rr => by
  cases d with
  | str z =>
    cases rr
    exact ⟨_, _, r, s, c, tyS, h, k⟩
  | _ => exact k.elim⟩
end
section
variable {K : PySem.W.Frag}
theorem Rps.erase : ∀ {vs : List L2.V} {ds : List D} {F : Hp} (i : Nat), Rps K F vs ds → Rps K F (vs.eraseIdx i) (ds.eraseIdx i)
  | _, [], _, i, h => by cases h; exact .nil
  | _, d :: ds, _, 0, h => by
    cases h with
    | cons a b => exact b
  | _, d :: ds, _, i + 1, h => by
    cases h with
    | cons a b => exact .cons a (Rps.erase i b)
end
section
variable {X : Cx}
end
section
variable {K : PySem.W.Frag}
theorem RKs.drop {F : Hp} {l : List (Key × L2.V)} {r : List (Key × D)} (k : Key) (h : RKs K F l r) : RKs K F (dropK l k) (dropD r k) := by
  unfold dropK dropD
  induction h with
  | nil => exact .nil
  | @cons p q l r hp t ih =>
    by_cases e : q.1 = k
    · have e1 : p.1 = k := hp.1.trans e
      simpa [List.filter_cons, e, e1] using ih
    · have e1 : ¬ p.1 = k := fun z => e (hp.1.symm.trans z)
      have : RKs K F (p :: List.filter (fun kv => decide (kv.1 ≠ k)) l) (q :: List.filter (fun kv => !decide (kv.1 = k)) r) := Paired.cons hp ih
      simpa [List.filter_cons, e, e1] using this
end
section
variable {X : Cx} {k : Nat}
end
end Nu
namespace Nu
open PySem PySem.Spec L2
open PyProof.Rows hiding St
section
variable {K : PySem.W.Frag}
def sLen : BS := fun ds m P => match ds with
  | [.str z] => z.length ≤ sizeLine ∧ P (.int (z.length : Nat)) m
  | [.lst xs] => P (.int (xs.length : Nat)) m
  | [.tup xs] => P (.int (xs.length : Nat)) m
  | [.fls xs] => P (.int (xs.length : Nat)) m
  | [.ptp xs] => P (.int (xs.length : Nat)) m
  | [.raw (.ref p)] => ∃ c, m p = some c ∧ match c with
    | .lst xs => P (.int (xs.length : Nat)) m
    | .dct kvs => P (.int (kvs.length : Nat)) m
    | .lck _ _ kvs => P (.int (kvs.length : Nat)) m
    | _ => False
  | _ => False
def rLen (K : PySem.W.Frag) : List L2.V → Hp → VK → Prop := fun xs H Q => (∃ x n, xs = [x] ∧ LenV K x H n ∧ Q (.int n) H) ∨ ∃ a kvs, xs = [.ref a] ∧ Rd H a (.dK kvs) ∧ Q (.int (kvs.length : Nat)) H
theorem cr_len {X : Cx} : CallR X (.builtin "len") (rLen X.K) := by
  refine call_len.or ?_
  intro pins s σ H xs us Q I r h
  obtain ⟨a, kvs, rfl, ha, q⟩ := h
  rw [Vals.ref1 r]
  exact d_len I ha fun t s' I' => ⟨.int _, H, I', ⟨_, rfl⟩, q⟩
theorem bok_len : BokN K (rLen K) sLen := fun ds m P h vs H F s rs Q q => by
  unfold sLen at h
  split at h
  · obtain ⟨v, rfl, r⟩ := rps1 rs
    cases r
    exact .inl ⟨_, _, rfl, ⟨h.1, rfl⟩, q _ _ _ _ _ h.2 (Go.refl s) (.int _)⟩
  · obtain ⟨v, rfl, r⟩ := rps1 rs
    cases r with
    | lst a b => exact .inl ⟨_, _, rfl, .inl ⟨_, .inl (.inl (s.at a)), rfl⟩, by rw [b.length]; exact q _ _ _ _ _ h (Go.refl s) (.int _)⟩
  · obtain ⟨v, rfl, r⟩ := rps1 rs
    cases r with
    | tup a b => exact .inl ⟨_, _, rfl, .inr ⟨_, Same.seqT s.toH a, rfl⟩, by rw [b.length]; exact q _ _ _ _ _ h (Go.refl s) (.int _)⟩
  · obtain ⟨v, rfl, r⟩ := rps1 rs
    cases r with
    | fls a b => exact .inl ⟨_, _, rfl, .inl ⟨_, s.toH.seq a.sq, rfl⟩, by rw [b.length]; exact q _ _ _ _ _ h (Go.refl s) (.int _)⟩
  · obtain ⟨v, rfl, r⟩ := rps1 rs
    cases r with
    | ptp a a0 b => exact .inl ⟨_, _, rfl, .inr ⟨_, .inl (.inr ⟨_, s.at a⟩), rfl⟩, by rw [b.length]; exact q _ _ _ _ _ h (Go.refl s) (.int _)⟩
  · obtain ⟨v, rfl, r⟩ := rps1 rs
    cases r
    obtain ⟨c, e, h⟩ := h
    cases c with
    | lst xs =>
      obtain ⟨vs, a, b⟩ := s.cells _ _ e
      exact .inl ⟨_, _, rfl, .inl ⟨_, .inl (.inl a), rfl⟩, by rw [b.length]; exact q _ _ _ _ _ h (Go.refl s) (.int _)⟩
    | dct kds =>
      obtain ⟨kvs, a, b⟩ := dct_at s e rfl
      exact .inr ⟨_, kvs, rfl, a, by rw [b.len]; exact q _ _ _ _ _ h (Go.refl s) (.int _)⟩
    | lck lo lv kds =>
      obtain ⟨kvs, a, b⟩ := dct_at s e rfl
      exact .inr ⟨_, kvs, rfl, a, by rw [b.len]; exact q _ _ _ _ _ h (Go.refl s) (.int _)⟩
    | _ => exact h.elim
  · exact h.elim
def sAbs : BS := fun ds m P => match ds with
  | [.int i] => P (.int (if i < 0 then -i else i)) m
  | _ => False
theorem bok_abs : BokN K (fun xs H Q => ∃ i, xs = [.int i] ∧ Q (.int (if i < 0 then -i else i)) H) sAbs := fun ds m P h vs H F s rs Q q => by
  unfold sAbs at h
  split at h
  · obtain ⟨v, rfl, r⟩ := rps1 rs
    cases r
    exact ⟨_, rfl, q _ _ _ _ _ h (Go.refl s) (.int _)⟩
  · exact h.elim
def sMin2 : BS := fun ds m P => match ds with
  | [.int i, .int j] => P (.int (if j < i then j else i)) m
  | _ => False
def sMax2 : BS := fun ds m P => match ds with
  | [.int i, .int j] => P (.int (if j > i then j else i)) m
  | _ => False
theorem bok_min2 : BokN K (fun xs H Q => ∃ i j, xs = [.int i, .int j] ∧ Q (.int (if j < i then j else i)) H) sMin2 := fun ds m P h vs H F s rs Q q => by
  unfold sMin2 at h
  split at h
  · obtain ⟨v, w, rfl, r1, r2⟩ := rps2 rs
    cases r1; cases r2
    exact ⟨_, _, rfl, q _ _ _ _ _ h (Go.refl s) (.int _)⟩
  · exact h.elim
theorem bok_max2 : BokN K (fun xs H Q => ∃ i j, xs = [.int i, .int j] ∧ Q (.int (if j > i then j else i)) H) sMax2 := fun ds m P h vs H F s rs Q q => by
  unfold sMax2 at h
  split at h
  · obtain ⟨v, w, rfl, r1, r2⟩ := rps2 rs
    cases r1; cases r2
    exact ⟨_, _, rfl, q _ _ _ _ _ h (Go.refl s) (.int _)⟩
  · exact h.elim
end
section
variable {prog : Program} {w : World} {A : Around} {E : Value → Shared → Prop} {s : Shared} {l : Addr} {its : List Value} {ns : List Int} {Q : Value → Shared → Prop} {xs : Array (Int × Tok)}
end
section
variable {K : PySem.W.Frag}
theorem seqLT {H : Hp} {a : Addr} {vs : List L2.V} {tp : Bool} (h : SqA K tp H a vs) : SqL K H a vs ∨ SqT K H a vs := by
  cases tp
  · exact .inl h
  · exact .inr h
def sAll : BS := fun ds m P => match ds with
  | [d] => lsR d m fun xs => ∃ bs : List Bool, xs = bs.map .bl ∧ P (.bl (bs.all id)) m
  | _ => False
theorem bok_all : BokN K (rAll K) sAll := fun ds m P h vs H F s rs Q q => by
  unfold sAll at h
  split at h
  · obtain ⟨v, rfl, r⟩ := rps1 rs
    obtain ⟨a, xs, ws, rfl, ⟨ns, rfl, h⟩, h1, h2⟩ := lsR_use h s r
    have e := h2.bls
    subst e
    exact ⟨a, ns, rfl, h1, q _ _ _ _ _ h (Go.refl s) (.bl _)⟩
  · exact h.elim
end
end Nu
namespace Nu
open PySem PySem.Spec L2
open PyProof.Rows hiding St
section
variable {K : PySem.W.Frag}
def sToTup : BS := fun ds m P => match ds with
  | [.tup xs] => P (.tup xs) m
  | [d] => lsR d m fun xs => P (.tup xs) m
  | _ => False
theorem bok_toTup : BokN K (fun xs H Q => ∃ p ys, xs = [L2.V.ref p] ∧ ((SqL K H p ys ∧ ∀ l, H l = none → Q (.ref l) (upd H l (.tup ys))) ∨ (SqT K H p ys ∧ Q (.ref p) H))) sToTup := fun ds m P h vs H F s rs Q q => by
  unfold sToTup at h
  split at h
  · obtain ⟨v, rfl, r⟩ := rps1 rs
    cases r with
    | tup a b => exact ⟨_, _, rfl, .inr ⟨Same.seqT s.toH a, q _ _ _ _ _ h (Go.refl s) (.tup a b)⟩⟩
  · obtain ⟨v, rfl, r⟩ := rps1 rs
    obtain ⟨a, xs, ws, rfl, h, h1, h2⟩ := lsR_use h s r
    exact ⟨a, ws, rfl, .inl ⟨h1, newT_q h s h2 q⟩⟩
  · exact h.elim
theorem RKs.kds {F : Hp} {l : List (Key × L2.V)} {r : List (Key × D)} (h : RKs K F l r) : Rps K F (l.map fun kv => kV kv.1) (r.map fun kv => kD kv.1) := by
  induction h with
  | nil => exact .nil
  | @cons p q l r hp t ih =>
    rw [List.map_cons, List.map_cons, hp.1]
    exact .cons (rp_kD _) ih
end
section
variable {X : Cx}
end
section
variable {K : PySem.W.Frag}
end
inductive Ty where
  | int | str | bool | list | tuple
  deriving DecidableEq
def Ty.s : Ty → String
  | .int => "int" | .str => "str" | .bool => "bool" | .list => "list" | .tuple => "tuple"
def Ty.n : Ty → Str
  | .int => "int" | .str => "str" | .bool => "bool" | .list => "list" | .tuple => "tuple"
inductive Kd where
  | non | bl | int | str | lst | tup | dct
def Kd.s : Kd → String
  | .non => "NoneType" | .bl => "bool" | .int => "int" | .str => "str" | .lst => "list" | .tup => "tuple" | .dct => "dict"
def Kd.is : Kd → Ty → Bool
  | .bl, .bool => true | .bl, .int => true | .int, .int => true | .str, .str => true | .lst, .list => true | .tup, .tuple => true
  | _, _ => false
theorem kd_kit (k : Kd) (t : Ty) : kitB k.s t.s = some (k.is t) := by
  cases k <;> cases t <;> decide +kernel
def kdR (d : D) (m : MS) (R : Kd → Prop) : Prop := match d with
  | .non => R .non
  | .bl _ => R .bl
  | .int _ => R .int
  | .str _ => R .str
  | .lst _ => R .lst
  | .tup _ => R .tup
  | .ptp _ => R .tup
  | .raw (.ref p) => ∃ c, m p = some c ∧ match c with
    | .lst _ => R .lst
    | .dct _ => R .dct
    | .lck _ _ _ => R .dct
    | _ => False
  | _ => False
theorem kdR_use {K : PySem.W.Frag} {m : MS} {H F : Hp} {d : D} {v : L2.V} {R : Kd → Prop} (h : kdR d m R) (s : Std K m H F) (r : Rp K F v d) : ∃ k, R k ∧ TyX K H v (.type k.s) := by
  cases d with
  | non => cases r; exact ⟨_, h, .base .non⟩
  | bl b => cases r; exact ⟨_, h, .base (.bl b)⟩
  | int i => cases r; exact ⟨_, h, .base (.int i)⟩
  | str i => cases r; exact ⟨_, h, .base (.str i)⟩
  | lst xs =>
    cases r with
    | lst a b => exact ⟨_, h, .base (.lst (s.at a))⟩
  | tup xs =>
    cases r with
    | tup h1 _ =>
      rcases h1 with (h1 | ⟨o, h1⟩) | ⟨o, its, n, h1, h3, _⟩
      · exact ⟨_, h, .base (.tup (s.at h1))⟩
      · exact ⟨_, h, .fTuple (s.at h1)⟩
      · exact ⟨_, h, .kTuple h1 h3⟩
  | ptp xs =>
    cases r with
    | ptp h1 _ _ => exact ⟨_, h, .fTuple (s.at h1)⟩
  | raw w =>
    cases w with
    | ref p =>
      cases r
      obtain ⟨c, e, h⟩ := h
      cases c with
      | lst xs =>
        obtain ⟨ws, a, b⟩ := s.cells _ _ e
        exact ⟨_, h, .base (.lst a)⟩
      | dct kds =>
        obtain ⟨ws, a, b⟩ := s.cells _ _ e
        exact ⟨_, h, .base (.dK a)⟩
      | lck lo lv kds =>
        obtain ⟨a, b⟩ := s.cells _ _ e
        exact ⟨_, h, .fDict a⟩
      | _ => exact h.elim
    | _ => exact h.elim
  | _ => exact h.elim
def sIsi (t : Ty) : BS := fun ds m P => match ds with
  | [d] => kdR d m fun k => P (.bl (k.is t)) m
  | _ => False
def sIsi2 (t1 t2 : Ty) : BS := fun ds m P => match ds with
  | [d] => kdR d m fun k => P (.bl (k.is t1 || k.is t2)) m
  | _ => False
section
variable {X : Cx} {a : Expr} {ta : T} {pos p p2 p3 tpos : Pos} {k2 : Nat}
theorem pe_tyN {x : Str} {T : String} (hm : X.mg x = none) (hv : bootBuiltins x = some (.type T) := by decide +kernel) (hg : Gl X x := by rfl) (hn : x ≠ "__name__" := by decide) (hd : (x == ("__debug__" : Str)) = false := by decide) : PE X (.Name x pos) (tC (.ty T)) := pe_bltn hg hm hv rfl hn hd
theorem ty_boot (t : Ty) : bootBuiltins t.n = some (.type t.s) := by cases t <;> decide +kernel
theorem ty_name (t : Ty) : t.n ≠ "__name__" := by cases t <;> decide
theorem ty_dbg (t : Ty) : (t.n == ("__debug__" : Str)) = false := by cases t <;> decide
theorem se_isi (t : Ty) {x : Str} (hm : X.mg "isinstance" = none) (hm2 : X.mg x = none) (ha : SE X a ta) (hx : x = t.n := by rfl) (hg : Gl X "isinstance" := by rfl) (hg2 : Gl X x := by rfl)
    (he : starEach [a, .Name x p2] X.env = (false, eval a X.env) :: starEach [.Name x p2] X.env := by rfl) (he2 : starEach [.Name x p2] X.env = (false, eval (.Name x p2) X.env) :: starEach [] X.env := by rfl) (hpl : (backTo pos (starEach [.Name x p2] X.env)).any (·.1) = false := by rfl) :
    SE X (.Call (.Name "isinstance" p) [a, .Name x p2] [] pos) (.bop (sIsi t) (.cons ta .nil)) := ⟨fun ρ m P Z pp => ⟨fun F0 σ H F S Q V tk q kx => by
  have h1 : PE X (.Name x p2) (tC (.ty t.s)) := pe_tyN hm2 (by rw [hx]; exact ty_boot t) hg2 (by rw [hx]; exact ty_name t) (by rw [hx]; exact ty_dbg t)
  refine wE_of (pe_callB call_isi hg hm (by decide +kernel) (pa_cons pe_w (pa_cons h1 pa_nil he2) he) (by decide) (by decide) he hpl) ?_
  refine (ha.go ρ m _ Z pp).run F0 σ H F S _ V tk (fun v H1 F1 d m1 p1 g1 r1 => ?_) kx
  obtain ⟨k, p2, ty⟩ := kdR_use (R := fun k => P (.bl (k.is t)) m1) p1 g1.std r1
  exact ⟨v, .ty t.s, _, _, _, rfl, .ty t.s, ty, kit_ty (kd_kit k t), q _ _ _ _ _ p2 g1 (.bl _)⟩⟩⟩
theorem se_isi2 (t1 t2 : Ty) {x y : Str} (hm : X.mg "isinstance" = none) (hm1 : X.mg x = none) (hm2 : X.mg y = none) (ha : SE X a ta) (hx : x = t1.n := by rfl) (hy : y = t2.n := by rfl) (hg : Gl X "isinstance" := by rfl) (hg1 : Gl X x := by rfl) (hg2 : Gl X y := by rfl)
    (he : starEach [a, .Tuple [.Name x p2, .Name y p3] k2 tpos] X.env = (false, eval a X.env) :: starEach [.Tuple [.Name x p2, .Name y p3] k2 tpos] X.env := by rfl) (he2 : starEach [.Tuple [.Name x p2, .Name y p3] k2 tpos] X.env = (false, eval (.Tuple [.Name x p2, .Name y p3] k2 tpos) X.env) :: starEach [] X.env := by rfl) (hpl : (backTo pos (starEach [.Tuple [.Name x p2, .Name y p3] k2 tpos] X.env)).any (·.1) = false := by rfl)
    (he3 : starEach [.Name x p2, .Name y p3] X.env = (false, eval (.Name x p2) X.env) :: starEach [.Name y p3] X.env := by rfl) (he4 : starEach [.Name y p3] X.env = (false, eval (.Name y p3) X.env) :: starEach [] X.env := by rfl) :
    SE X (.Call (.Name "isinstance" p) [a, .Tuple [.Name x p2, .Name y p3] k2 tpos] [] pos) (.bop (sIsi2 t1 t2) (.cons ta .nil)) := ⟨fun ρ m P Z pp => ⟨fun F0 σ H F S Q V tk q kx => by
  have h1 : PE X (.Name x p2) (tC (.ty t1.s)) := pe_tyN hm1 (by rw [hx]; exact ty_boot t1) hg1 (by rw [hx]; exact ty_name t1) (by rw [hx]; exact ty_dbg t1)
  have h2 : PE X (.Name y p3) (tC (.ty t2.s)) := pe_tyN hm2 (by rw [hy]; exact ty_boot t2) hg2 (by rw [hy]; exact ty_name t2) (by rw [hy]; exact ty_dbg t2)
  refine wE_of (pe_callB call_isiT hg hm (by decide +kernel) (pa_cons pe_w (pa_cons (pe_tup (pa_cons h1 (pa_cons h2 pa_nil he4) he3)) pa_nil he2) he) (by decide) (by decide) he hpl) ?_
  refine (ha.go ρ m _ Z pp).run F0 σ H F S _ V tk (fun v H1 F1 d m1 p1 g1 r1 => ?_) kx
  refine ⟨by show 2 ≤ sizeLine; decide, fun tp hp => ?_⟩
  have g2 : Go X.K m1 H1 F1 m1 (upd H1 tp (.tup [.ty t1.s, .ty t2.s])) F1 := Go.junk (o := .tup [.ty t1.s, .ty t2.s]) g1.std hp
  obtain ⟨k, p2, ty⟩ := kdR_use (R := fun k => P (.bl (k.is t1 || k.is t2)) m1) p1 g2.std r1
  refine ⟨v, tp, [.ty t1.s, .ty t2.s], _, [.type t1.s, .type t2.s], k.is t1 || k.is t2, rfl, upd_same, .cons (.ty t1.s) (.cons (.ty t2.s) .nil), ty, ?_, q _ _ _ _ _ p2 (g1.trans g2) (.bl _)⟩
  refine kitAny_cons (kit_ty (kd_kit k t1)) (fun e => ?_) (fun e => by rw [e]; rfl)
  refine kitAny_cons (kit_ty (kd_kit k t2)) (fun e' => ?_) (fun e' => by rw [e']; cases k.is t1 <;> rfl)
  rw [e, e']
  rfl⟩⟩
end
section
variable {K : PySem.W.Frag}
def sJoin : BS := fun ds m P => match ds with
  | [.str z, d] => seqR d m fun xs => ∃ ys : List Str, xs = ys.map .str ∧ (ys.map (·.length)).sum + ys.length * z.length ≤ 16777216 ∧ P (.str (Txt.join z ys)) m
  | _ => False
def rJoin (K : PySem.W.Frag) : L2.V → List L2.V → Hp → VK → Prop := fun x xs H Q => ∃ a p, ∃ ys : List Str, x = .str a ∧ xs = [.ref p] ∧ (SqL K H p (ys.map L2.V.str) ∨ SqT K H p (ys.map L2.V.str)) ∧ (ys.map (·.length)).sum + ys.length * a.length ≤ 16777216 ∧ Q (.str (Txt.join a ys)) H
theorem bm_join : BokM K (rJoin K) sJoin := fun d ds m P h x vs H F s r1 rs Q q => by
  unfold sJoin at h
  split at h
  · rename_i e; cases e
    cases r1
    obtain ⟨v, rfl, r2⟩ := rps1 rs
    obtain ⟨a, tp, xs, ws, rfl, ⟨ys, rfl, hz, h⟩, h1, h2⟩ := seqR_use h s r2
    have e := h2.strs
    subst e
    exact ⟨_, a, ys, rfl, rfl, seqLT h1, hz, q _ _ _ _ _ h (Go.refl s) (.str _)⟩
  · exact h.elim
end
section
variable {X : Cx}
theorem k_join : KOk X "join" (kS sJoin) := kokS ⟨PySem.F.plainAttrs_str, PySem.F.slot_str_join, PySem.F.type_str_join, mt_join⟩ bm_join
end
end Nu
namespace Nu
open PySem PySem.Spec L2
open PyProof.Rows hiding St
section
variable {X : Cx} {e : Expr} {t : T} {stm : Stmt} {u : S1} {apos cpos : Pos} {tg : Expr}
end
end Nu
namespace Nu
open PySem PySem.Spec L2
open PyProof.Rows hiding St
structure XcF (K : PySem.W.Frag) (mg : Str → Option Value) (c : Exn) : Prop where
  ex : ∃ C, clsAt K c.name C ∧ mg c.name = some (.ref C) ∧ PySem.W.keepIn K (.ref C) = true ∧ PySem.W.subIn K (.ref C) (.type "BaseException") = some true ∧ PySem.W.typeIn K (.ref C) = some (.type "type")
/-- .. without own __init__ -/
structure Xc0 (K : PySem.W.Frag) (c : Exn) : Prop where
  ex : ∀ C, clsAt K c.name C → PySem.W.excIn K C [.type "ValueError", .type "Exception", .type "BaseException", .type "object"] "ValueError.__new__" = true
section
variable {X : Cx}
end
section
variable {X : Cx} {pins : List (Addr × Obj)} {σ : L2.St} {H : Hp} {s : Shared}
end
section
variable {X : Cx} {x n : Str} {c : Value} {i : Nat} {body suite : List Stmt} {b₀ : Stmt} {np pos pos' : Pos} {tb : WX → TS} {Wout : WX}
end
section
variable {X : Cx} {x n : Str} {body suite : List Stmt} {b₀ : Stmt} {np pos pos' : Pos} {ub uh : SS}
/-- the exception that was caught, laid as data -/
theorem exn_lay {K : PySem.W.Frag} {m : MS} {H F : Hp} {a : Addr} {c : Exn} {ds : List D} {cls : Value} {dd : Option Addr} (s : Std K m H F) (hn : H a = none) (r : ExR K F c ds cls dd) : Go K m H F m (upd H a (ExV a cls dd)) (upd F a (ExV a cls dd)) ∧ Rp K (upd F a (ExV a cls dd)) (.ref a) (.exn c ds) := by
  have g := Go.new (o := ExV a cls dd) s hn
  refine ⟨g, ?_⟩
  obtain ⟨C, h1, rfl, h3⟩ := r
  rcases h3 with ⟨h3, rfl, rfl⟩ | ⟨q, vs, rfl, h4, h5, h6, h7⟩
  · exact .exn0 h3 h1 upd_same
  · exact .exn1 h4 h5 h1 upd_same (g.grow _ _ h6) (h7.up g.grow _)
end
end Nu
namespace Nu
open PySem PySem.Spec L2
open PyProof.Rows hiding St
structure ExnC (K : PySem.W.Frag) (x : Exn) : Prop where
  ex : ∀ C, clsAt K x.name C → L2.ExcC K C
structure SubI (K : PySem.W.Frag) (x c : Exn) : Prop where
  ex : ∀ C C0, clsAt K x.name C → clsAt K c.name C0 → PySem.W.kitOne K (.ref C) (.ref C0) = some (x.under c)
structure SubV (K : PySem.W.Frag) (x : Exn) : Prop where
  ex : ∀ C, clsAt K x.name C → PySem.W.kitOne K (.ref C) (.type "ValueError") = some true
section
variable {X : Cx} {a b : Expr} {ta : T} {pos p p2 : Pos}
def rIsX (K : PySem.W.Frag) : List L2.V → Hp → VK → Prop := fun xs H Q => ∃ (pa C : Addr) (c : L2.V) (cv : Value) (b : Bool) (dd : Option Addr), xs = [.ref pa, c] ∧ (∀ u, RelV c u → u = cv) ∧ H pa = some (ExV pa (.ref C) dd) ∧ (dd = none ∨ ∃ q fs, dd = some q ∧ H q = some (.xd fs)) ∧ L2.ExcC K C ∧ PySem.W.kitOne K (.ref C) cv = some b ∧ Q (.bl b) H
theorem call_isX : CallR X (.builtin "isinstance") (rIsX X.K) := by
  intro pins s σ H xs us Q I r h
  obtain ⟨pa, C, c, cv, b, dd, rfl, hcv, ea, hdd, F, e, q⟩ := h
  obtain ⟨v, w, rfl, rx, rt⟩ := vals2 r
  obtain rfl : v = Value.ref pa := rx
  have ec := hcv _ rt
  subst ec
  obtain ⟨oe, vs, ho, hz, hd⟩ := exV_at I.hok ea
  have hcl : (PySem.W.clsIn X.K C).isSome = true := by
    have := F.hd
    unfold PySem.W.hasDictIn at this
    cases q0 : PySem.W.clsIn X.K C with
    | none => rw [q0] at this; exact absurd this (by decide)
    | some _ => rfl
  have J : ∃ od, PySem.W.InstAt s.heap pa oe C od := by
    rcases hdd with rfl | ⟨q1, fs, rfl, eq⟩
    · obtain ⟨oc, od, oda, osl⟩ := oe
      obtain ⟨h1, h2⟩ := hz
      dsimp only at h1 h2 hd
      subst h1 h2 hd
      exact ⟨none, ho, rfl, rfl, trivial⟩
    · have hx : ObjOk X.prog X.w H s.heap q1 (.xd fs) := I.hok q1 _ eq
      obtain ⟨mA, hns, hr⟩ := hx
      obtain ⟨od, hod, hl⟩ := lookIn_ns hns
      exact ⟨some od, ho, hz.1, by unfold PySem.W.notCls; rw [hd] <;> rfl, by rw [hz.2]; exact hod⟩
  obtain ⟨od, J⟩ := J
  exact PySem.W.kia_one (PySem.W.kitx_exc hcl F.hg F.hk F.hs F.ha F.hn F.ht F.hm) I.kIn J e (fun z => nomatch z) fun tk => ⟨.bl b, H, I.kept (t' := tk) fun _ _ z => z, rfl, q⟩
theorem exn_at {K : PySem.W.Frag} {m : MS} {H F : Hp} {v : L2.V} {x : Exn} {ds : List D} (s : Std K m H F) (r : Rp K F v (.exn x ds)) : ∃ pa C dd, v = .ref pa ∧ clsAt K x.name C ∧ H pa = some (ExV pa (.ref C) dd) ∧ (dd = none ∨ ∃ q fs, dd = some q ∧ H q = some (.xd fs)) := by
  cases r with
  | exn0 h1 h2 h3 => exact ⟨_, _, _, rfl, h2, s.at h3, .inl rfl⟩
  | exn1 h1 h0 h2 h3 h4 h5 => exact ⟨_, _, _, rfl, h2, s.at h3, .inr ⟨_, _, rfl, s.at h4⟩⟩
def sIsX (c : Exn) : BS := fun ds m P => match ds with
  | [.exn x _] => P (.bl (x.under c)) m
  | _ => False
def sIsVE : BS := fun ds m P => match ds with
  | [.exn x _] => P (.bl true) m
  | _ => False
theorem se_isX (c : Exn) {y : Str} (hm : X.mg "isinstance" = none) (Fc : XcF X.K X.mg c) (TX : ∀ x, ExnC X.K x) (TI : ∀ x, SubI X.K x c) (ha : SE X a ta) (hx : y = c.name := by rfl) (hg : Gl X "isinstance" := by rfl) (hg2 : Gl X y := by rfl) (hdb : (y == ("__debug__" : Str)) = false := by decide)
    (he : starEach [a, .Name y p2] X.env = (false, eval a X.env) :: starEach [.Name y p2] X.env := by rfl) (he2 : starEach [.Name y p2] X.env = (false, eval (.Name y p2) X.env) :: starEach [] X.env := by rfl) (hpl : (backTo pos (starEach [.Name y p2] X.env)).any (·.1) = false := by rfl) :
    SE X (.Call (.Name "isinstance" p) [a, .Name y p2] [] pos) (.bop (sIsX c) (.cons ta .nil)) := ⟨fun ρ m P Z pp => ⟨fun F0 σ H F S Q V tk q kx => by
  obtain ⟨C0, hC0, hmg, _, _, _⟩ := Fc.ex
  subst hx
  have h1 : PE X (.Name c.name p2) (tC (.ref C0)) := pe_glob (v := .ref C0) hg2 hmg rfl hdb
  refine wE_of (pe_callB call_isX hg hm (by decide +kernel) (pa_cons pe_w (pa_cons h1 pa_nil he2) he) (by decide) (by decide) he hpl) ?_
  refine (ha.go ρ m _ Z pp).run F0 σ H F S _ V tk (fun v H1 F1 d m1 p1 g1 r1 => ?_) kx
  cases d with
  | exn x ds =>
    obtain ⟨pa, C, dd, rfl, hC, e1, e2⟩ := exn_at g1.std r1
    exact ⟨pa, C, .ref C0, .ref C0, _, dd, rfl, fun u ru => ru, e1, e2, (TX x).ex C hC, (TI x).ex C C0 hC hC0, q _ _ _ _ _ p1 g1 (.bl _)⟩
  | _ => exact False.elim p1⟩⟩
theorem se_isVE (hm : X.mg "isinstance" = none) (hm2 : X.mg "ValueError" = none) (TX : ∀ x, ExnC X.K x) (TV : ∀ x, SubV X.K x) (ha : SE X a ta) (hg : Gl X "isinstance" := by rfl) (hg2 : Gl X "ValueError" := by rfl)
    (he : starEach [a, .Name "ValueError" p2] X.env = (false, eval a X.env) :: starEach [.Name "ValueError" p2] X.env := by rfl) (he2 : starEach [.Name "ValueError" p2] X.env = (false, eval (.Name "ValueError" p2) X.env) :: starEach [] X.env := by rfl) (hpl : (backTo pos (starEach [.Name "ValueError" p2] X.env)).any (·.1) = false := by rfl) :
    SE X (.Call (.Name "isinstance" p) [a, .Name "ValueError" p2] [] pos) (.bop sIsVE (.cons ta .nil)) := ⟨fun ρ m P Z pp => ⟨fun F0 σ H F S Q V tk q kx => by
  have h1 : PE X (.Name "ValueError" p2) (tC (.ty "ValueError")) := pe_tyN hm2 (by decide +kernel) hg2
  refine wE_of (pe_callB call_isX hg hm (by decide +kernel) (pa_cons pe_w (pa_cons h1 pa_nil he2) he) (by decide) (by decide) he hpl) ?_
  refine (ha.go ρ m _ Z pp).run F0 σ H F S _ V tk (fun v H1 F1 d m1 p1 g1 r1 => ?_) kx
  cases d with
  | exn x ds =>
    obtain ⟨pa, C, dd, rfl, hC, e1, e2⟩ := exn_at g1.std r1
    exact ⟨pa, C, .ty "ValueError", .type "ValueError", true, dd, rfl, fun u ru => ru, e1, e2, (TX x).ex C hC, (TV x).ex C hC, q _ _ _ _ _ p1 g1 (.bl _)⟩
  | _ => exact False.elim p1⟩⟩
end
structure HeF (K : PySem.W.Frag) (CH : Addr) : Prop where
  sp : PySem.W.specialIn K (.ref CH) "__getattribute__" = some (some (.builtin "type.__getattribute__"))
  rd : PySem.W.readsIn K CH (.type "type") = true
  fc : PySem.W.findCls K (.ref CH) (.type "type") "__init__" = some (.val (.builtin "ValueError.__init__"))
section
variable {X : Cx} {e : Expr} {es : List Expr} {ta : TA} {p p' p1 p2 pos : Pos}
theorem pe_heinit {x : Str} {CH : Addr} {pl : Sem Bool} (hg : Gl X x) (hm : X.mg x = some (.ref CH)) (hf : HeF X.K CH) (ha : PA X (e :: es) ta)
    (hc : eval (.Call (.Attribute (.Name x p1) "__init__" p2) (e :: es) [] pos) X.env = (do
      let ov ← eval (.Name x p1) X.env
      standAt p2.atName
      let (f, first) ← holding [ov] (getMethod ov "__init__" pl)
      callWith pos f first (backTo pos (starEach (e :: es) X.env)) (backToKw pos (keywordEach [] X.env))))
    (hdb : (x == ("__debug__" : Str)) = false) (he : starEach (e :: es) X.env = (false, eval e X.env) :: starEach es X.env) (hpl : (backTo pos (starEach es X.env)).any (·.1) = false) :
    PE X (.Call (.Attribute (.Name x p1) "__init__" p2) (e :: es) [] pos) (tVeI X.K ta) := by
  refine ⟨fun pins s σ H Q I h => ?_⟩
  refine PySem.W.methodCall_KW (ld_glob I hg hm ?_ hdb) hc
  refine PySem.W.method_cls I.kIn hf.sp (PySem.W.cls_value I.kIn hf.rd hf.fc (by decide +kernel) ?_)
  show wpAny _ _ (callWith pos (Value.builtin "ValueError.__init__") [] (backTo pos (starEach (e :: es) X.env)) []) _ _ _
  refine PyProof.Rows.callWith_method1 (thn (ha.run pos pins _ σ H _ (I.tok _) h) fun us s1 ⟨vs, H1, I1, r1, a, C, ws, ev, hl, T, ea, q⟩ => ?_) he hpl
  subst ev
  cases r1 with
  | @cons _ u0 _ ur ra rw' =>
    obtain rfl : u0 = Value.ref a := ra
    have hlen : ur.length ≤ sizeLine := by
      rw [← Paired.length rw', sizeLine_eq]
      omega
    exact oinit_ok T I1 ea hlen fun s' J => ⟨.non, H1, J, rfl, q⟩
end
def spI (C : Addr) (f : Str) : Sp := fun vs H Q E => ∃ a w y, vs = [.ref a, w, y] ∧ H a = some (exo a C none) ∧ ∀ dx, H dx = none → dx ≠ a → Q .non (upd (upd H dx (exd dx [(f, y)])) a (exo a C (some dx)))
structure InitF (P : Program) (w : World) (K : PySem.W.Frag) (mg : Str → Option Value) (base : Heap) (k : Nat) (c : Exn) (g : Fld) : Prop where
  ex : ∃ (C fI : Addr) (fd : FuncData) (ps : List Str), clsAt K c.name C ∧ mg c.name = some (.ref C) ∧ L2.OexC K C ∧ PySem.W.findIn K (.ref C) "__init__" = some (some (.ref fI)) ∧ PySem.W.typeIn K (.ref fI) = some (.type "function") ∧ FnOk P w K mg base (L2.CX P w) k fI fd ps (spI C g.name) ∧ Binds K fd ps []
section
variable {P : Program} {w : World} {K : PySem.W.Frag} {mg : Str → Option Value} {base : Heap}
theorem init_fn {f : Str} {C CH fI : Addr} {fd : FuncData} {stm : Stmt} {qual x : Str} {N : List Str} {k : Nat} {p1 p2 p3 p4 p5 p6 p7 p8 p9 p10 : Pos} (F : Fun K "__init__" qual stm fI fd) (S : FnScope N (["self", "words", f] : List Str) (defScope stm)) (hN : N = (["self", "words", f] : List Str)) (T : L2.OexC K C) (nf : PySem.W.findIn K (.ref C) f = some none) (hx : mg x = some (.ref CH)) (hf : HeF K CH)
    (hb : defBody stm = [.Expr (.Call (.Attribute (.Name x p1) "__init__" p2) [.Name "self" p3, .Name "words" p4] [] p5) p6, .Assign [.Attribute (.Name "self" p7) f p8] (.Name f p9) p10])
    (snd : ∀ cdv A outer s H E, PSs (cxOf (L2.CX P w) P w K mg base N qual (defScope stm) fI cdv A outer s H E) (defBody stm) (tSeq (tDrop (tVeI K (tCons (tVar 0) (tCons (tVar 1) tNil)))) (tSeq (tOst K f (tVar 0) (tVar 2)) tNext))) : FnOk P w K mg base (L2.CX P w) (k + 1) fI fd (["self", "words", f] : List Str) (spI C f) := by
  refine F.okX S (fun vs H Q E h => ?_) fun cdv A outer s H vs Q E hr h => ⟨_, snd cdv A outer s H E, ?_⟩
  · obtain ⟨a, w', y, rfl, _⟩ := h; rfl
  · obtain ⟨a, w', y, rfl, ea, q⟩ := h
    subst hN
    exact ⟨.ref a, rfl, w', rfl, a, C, [w'], rfl, Nat.le_of_ble_eq_true rfl, T, ea, y, rfl, .ref a, rfl, a, C, rfl, T, nf, .inl ⟨ea, q⟩⟩
end
section
variable {X : Cx} {e1 e2 : Expr} {t1 t2 : T} {p pos pos' : Pos}
end
end Nu
namespace Nu
open PySem PySem.Spec L2
open PyProof.Rows hiding St
section
variable {K : PySem.W.Frag} {mg : Str → Option Value}
theorem cls_some {C : Addr} (h : PySem.W.hasDictIn K C = true) : (PySem.W.clsIn K C).isSome = true := by
  unfold PySem.W.hasDictIn at h
  cases q0 : PySem.W.clsIn K C with
  | none => rw [q0] at h; exact absurd h (by decide)
  | some _ => rfl
theorem no_cls {x : Str} {C : Addr} (h : PySem.W.nsIn K mainGlobals x = some none) (k : clsAt K x C) : False := by
  unfold clsAt at k; rw [h] at k; cases k
theorem clsF_no {c : Cls} (h : PySem.W.nsIn K mainGlobals c.name = some none) : ClsF K c := ⟨fun C k => (no_cls h k).elim⟩
theorem exnF_of {c : Exn} {C0 : Addr} (g : clsAt K c.name C0) (ga : PySem.W.findIn K (.ref C0) "__getattribute__" = some (some (.builtin "BaseException.__getattribute__"))) (gg : PySem.W.findIn K (.ref C0) "__getattr__" = some none) (sb : PySem.W.subIn K (.ref C0) (.type "BaseException") = some true) (hd : PySem.W.hasDictIn K C0 = true) (na : ∀ f ∈ c.fs, PySem.W.findIn K (.ref C0) f.name = some none) : ExnF K c :=
  ⟨fun C h => by cases h.inj g; exact ⟨ga, gg, sb, hd, na⟩⟩
theorem exnC_of {c : Exn} {C0 : Addr} (g : clsAt K c.name C0) (ga : PySem.W.findIn K (.ref C0) "__getattribute__" = some (some (.builtin "BaseException.__getattribute__"))) (gg : PySem.W.findIn K (.ref C0) "__getattr__" = some none) (sb : PySem.W.subIn K (.ref C0) (.type "BaseException") = some true) (hd : PySem.W.hasDictIn K C0 = true)
    (cl : PySem.W.findIn K (.ref C0) "__class__" = some (some (.builtin "object.__class__"))) (hn : PySem.W.specialIn K (.builtin "object.__class__") "__get__" = some (some (.builtin "getset_descriptor.__get__"))) (ht : PySem.W.takesIn K (.builtin "object.__class__") = some true) (hm : PySem.W.mroIn K C0 (.type "object") = some true) : ExnC K c :=
  ⟨fun C h => by cases h.inj g; exact ⟨ga, gg, sb, hd, cl, hn, ht, hm⟩⟩
theorem kitCls_of {C C0 : Addr} {b : Bool} (h2 : PySem.W.hasDictIn K C0 = true) (h3 : PySem.W.typeIn K (.ref C0) = some (.type "type")) (h4 : PySem.W.subIn K (.ref C) (.ref C0) = some b) : PySem.W.kitCls K (.ref C) (.ref C0) = some b := by
  unfold PySem.W.kitCls
  simp only [cls_some h2, h3]
  rw [if_pos (by decide)]; exact h4
theorem subI_of {x c : Exn} {C C0 : Addr} (g : clsAt K x.name C) (g0 : clsAt K c.name C0) (h2 : PySem.W.hasDictIn K C0 = true) (h3 : PySem.W.typeIn K (.ref C0) = some (.type "type")) (h4 : PySem.W.subIn K (.ref C) (.ref C0) = some (x.under c)) (h5 : PySem.W.subIn K (.ref C) (.ref C) = some true) : SubI K x c :=
  ⟨fun D D0 h h0 => by
    cases h.inj g; cases h0.inj g0
    unfold PySem.W.kitOne
    by_cases e : C = C0
    · subst e
      rw [if_pos (by simp)]
      rw [h5] at h4
      rw [← h4]
    · rw [if_neg (by simpa using e)]
      exact kitCls_of h2 h3 h4⟩
theorem subV_of {x : Exn} {C : Addr} (g : clsAt K x.name C) (h : PySem.W.subIn K (.ref C) (.type "ValueError") = some true) : SubV K x := ⟨fun D k => by
  cases k.inj g
  unfold PySem.W.kitOne
  rw [if_neg (show ¬ ((Value.ref C == Value.type "ValueError") = true) from by simp)]
  unfold PySem.W.kitCls
  show (if PySem.W.kitMeta "ValueError" = true then _ else _) = _
  rw [if_pos (by decide +kernel)]; exact h⟩
theorem xcF_of {c : Exn} {C : Addr} (g : clsAt K c.name C) (m : mg c.name = some (.ref C)) (kp : PySem.W.keepIn K (.ref C) = true) (sb : PySem.W.subIn K (.ref C) (.type "BaseException") = some true) (tp : PySem.W.typeIn K (.ref C) = some (.type "type")) : XcF K mg c := ⟨C, g, m, kp, sb, tp⟩
theorem xc0_of {c : Exn} {C0 : Addr} (g : clsAt K c.name C0) (h : PySem.W.excIn K C0 [.type "ValueError", .type "Exception", .type "BaseException", .type "object"] "ValueError.__new__" = true) : Xc0 K c := ⟨fun C k => by cases k.inj g; exact h⟩
end
end Nu
namespace Nu
open PySem PySem.Spec L2
open PyProof.Rows hiding St
section
variable {prog : Program} {w : World} {A : Around} {E : Value → Shared → Prop} {s : Shared} {l : Addr} {its : List Value} {ns : List Int} {Q : Value → Shared → Prop}
end
section
variable {X : Cx} {a : Expr} {ta : T} {pos p kp q2 : Pos} {j : Nat}
end
end Nu
namespace Nu
open PySem PySem.Spec L2
open PyProof.Rows hiding St
section
variable {X : Cx} {F0 : Hp} {e tg : Expr} {t : T}
end
end Nu
namespace Nu
open PySem PySem.Spec L2
open PyProof.Rows hiding St
section
variable {X : Cx} {a : Expr} {ta : T} {p p2 pos : Pos}
end
end Nu
namespace Nu
open PySem PySem.Spec L2
open PyProof.Rows hiding St
def kSt (e : Int × Value) : Str := match e.2 with
  | .str x _ => x
  | _ => Str.empty
def OkSt (w : World) (e : Int × Value) : Prop := ∃ x u, e.2 = Value.str x u ∧ e.1 = hashStr w x
/-- the set of texts at a, its members in some order -/
def StAt (w : World) (h : Heap) (a : Addr) (M : List Str) : Prop := ∃ (o : Obj) (es : Array (Int × Value)) (ep : Nat) (t : SetTable), h.get? a = some o ∧ o.ExactSet ∧ o.data = .set es ep t ∧ (∀ e ∈ es.toList, OkSt w e) ∧ (es.toList.map kSt).Perm M ∧ M.Nodup ∧
  es.size < scanBound ∧ t.fits es.size = true ∧ Ris t.place.toList ∧ (w.params.followText "set-order" = true ∨ t.led = true)
section
variable {P : Program} {w : World} {A : Around} {E : Value → Shared → Prop} {s : Shared} {a : Addr} {h h' : Heap} {M : List Str}
theorem StAt.at (R : StAt w h a M) (k : ∀ o, h.get? a = some o → h'.get? a = some o) : StAt w h' a M := by
  obtain ⟨o, es, ep, t, c0, r⟩ := R
  exact ⟨o, es, ep, t, k o c0, r⟩
end
end Nu
namespace Nu
open PySem PySem.Spec L2
open PyProof.Rows hiding St
section
variable {X : Cx} {a : Expr} {ta : T} {pos p1 p2 pos2 : Pos}
end
end Nu
namespace Nu
open PySem PySem.Spec L2
open PyProof.Rows hiding St
section
variable {P : Program} {w : World} {A : Around} {s : Shared} {R : Result → Shared → Prop}
end
section
variable {X : Cx}
end
end Nu
namespace Nu
open PySem PySem.Spec L2
open PyProof.Rows hiding St
section
variable {P : Program} {w : World} {A : Around} {E : Value → Shared → Prop} {s : Shared}
end
def layP : Hp → List (Addr × L2.V × L2.V) → Hp
  | H, [] => H
  | H, (t, x, y) :: r => layP (upd H t (.tup [x, y])) r
def NewP : Hp → List (Addr × L2.V × L2.V) → Prop
  | _, [] => True
  | H, (t, x, y) :: r => H t = none ∧ NewP (upd H t (.tup [x, y])) r
section
variable {X : Cx} {pins : List (Addr × Obj)} {σ : L2.St}
end
end Nu
namespace Nu
open PySem PySem.Spec L2
open PyProof.Rows hiding St
theorem FpOk.ne {X : Cx} {pins : List (Addr × Obj)} {H : Hp} {b T : Addr} {o : HO} (f : FpOk X pins H b) (h : b ≠ T) : FpOk X pins (upd H T o) b := ⟨by rw [upd_ne h]; exact f.1, f.2⟩
section
variable {X : Cx} {pins : List (Addr × Obj)} {σ : L2.St} {R : Result → Shared → Prop}
end
section
variable {X : Cx}
theorem Go.pairs {K : PySem.W.Frag} {m : MS} : ∀ (l : List (Addr × L2.V × L2.V)) {H F : Hp} {xs ys : List D}, Std K m H F → NewP H l → Rps K F (l.map fun e => e.2.1) xs → Rps K F (l.map fun e => e.2.2) ys →
    ∃ F', Go K m H F m (layP H l) F' ∧ Rps K F' (l.map fun e => L2.V.ref e.1) (zipD xs ys)
  | [], H, F, xs, ys, s, _, r1, r2 => by
    cases r1; cases r2
    exact ⟨F, Go.refl s, .nil⟩
  | (t, x, y) :: l, H, F, _, _, s, hN, r1, r2 => by
    cases r1 with
    | @cons _ _ dx xs a1 b1 =>
      cases r2 with
      | @cons _ _ dy ys a2 b2 =>
        have g := Go.new (o := .tup [x, y]) s hN.1
        obtain ⟨F', g2, r3⟩ := Go.pairs l g.std hN.2 (Rps.up g.grow _ b1) (Rps.up g.grow _ b2)
        exact ⟨F', g.trans g2, .cons (Rp.up g2.grow _ (.tup (.inl (.inl upd_same)) (.cons (Rp.up g.grow _ a1) (.cons (Rp.up g.grow _ a2) .nil)))) r3⟩
end
end Nu
namespace Nu
open PySem PySem.Spec L2
open PyProof.Rows hiding St
section
variable {X : Cx}
end
end Nu
namespace Nu
open PySem PySem.Spec L2
open PyProof.Rows hiding St
section
variable {P : Program} {w : World} {A : Around} {E : Value → Shared → Prop}
end
end Nu
namespace Nu
open PySem PySem.Spec L2
open PyProof.Rows hiding St
theorem meets_enumerate_newB1 {v : Value} {o : Obj} {H : Heap → Prop} (B : Begins v o H) :
    Meets (Builtin.«enumerate.__new__» ⟨[.type "enumerate", v], []⟩) (fun _ R s => H s.heap ∧
      R (.ok (.ret (.ref (s.heap.push o).objs.size))) { s with heap := (s.heap.push o).push { cls := .type "enumerate", data := .fields #[.none, .bool false, .ref s.heap.objs.size, rawInt 0, .none, .none] } }) :=
  .of_wp fun prog w A R s h => by
    obtain ⟨hp, g, d, tk, os⟩ := s; obtain ⟨h1, h⟩ := h
    have hsub := sub_enumerate
    have q1 : ∀ {A' : Around} {E : Value → Shared → Prop} {Q : Value → Shared → Prop}, Q (.ref hp.objs.size) ⟨hp.push o, g, d, tk, os⟩ → wpAny (model prog w) A' (pyIter v) Q E ⟨hp, g, d, tk, os⟩ :=
      fun q => B.iter prog w _ _ ⟨hp, g, d, tk, os⟩ _ h1 q
    wp_walk using q1
    refine wpAny_stack_any fun st => wpAny_pure ?_
    split
    · rename_i c _ _ _ _ _
      cases (c == Value.type "enumerate")
      · wp_walk using q1
        exact ⟨_, rfl, h⟩
      · wp_walk using q1
        exact ⟨_, rfl, h⟩
    · wp_walk using q1
      exact ⟨_, rfl, h⟩
section
variable {prog : Program} {w : World} {A : Around} {E : Value → Shared → Prop} {s : Shared}
theorem enum_begins1 {v : Value} {o : Obj} {H : Heap → Prop} {Q : Value → Shared → Prop} (B : Begins v o H) (h1 : H s.heap)
    (h : ∀ h', IsEnum h' (s.heap.objs.size + 1) s.heap.objs.size 0 .none → h'.get? s.heap.objs.size = some o → h'.objs.size = s.heap.objs.size + 2 →
      (∀ b o, s.heap.get? b = some o → h'.get? b = some o) → Q (.ref (s.heap.objs.size + 1)) { s with heap := h' }) :
    wpAny (model prog w) A (call (.type "enumerate") [v]) Q E s := by
  refine callType_new F.called_enumerate (by decide) (F.typeCall_enumerate_1 _) (F.newCall_enumerate_1 _) (fun obj => F.args_object_init_2 obj _) F.entry_enumerate_new
    (meets_enumerate_newB1 B) ⟨h1, ?_⟩
  have hz : (s.heap.push o).objs.size = s.heap.objs.size + 1 := Heap.size_push ..
  show _ ∧ _
  rw [hz]
  have he : IsEnum ((s.heap.push o).push { cls := .type "enumerate", data := .fields #[.none, .bool false, .ref s.heap.objs.size, rawInt 0, .none, .none] }) (s.heap.objs.size + 1) s.heap.objs.size 0 .none := by
    have := Heap.get?_push_size (s.heap.push o) (o := { cls := .type "enumerate", data := .fields #[.none, .bool false, .ref s.heap.objs.size, rawInt 0, .none, .none] }) rfl
    rw [hz] at this; exact this
  refine ⟨⟨_, he, rfl⟩, h _ he (Heap.get?_push_of_some _ (Heap.get?_push_size _ B.free)) (by rw [Heap.size_push, hz]) fun b o x => Heap.get?_push_of_some _ (Heap.get?_push_of_some _ x)⟩
end
section
variable {X : Cx} {elts : List Expr} {kk : Nat} {tpos : Pos}
theorem si_enum {a : Expr} {ta : T} {p pos : Pos} (hm : X.mg "enumerate" = none) (ha : SE X a ta) (hg : Gl X "enumerate" := by rfl) (hs : starEach [a] X.env = (false, eval a X.env) :: starEach [] X.env := by rfl) (hpl : (backTo pos (starEach [] X.env)).any (·.1) = false := by rfl) : SI X (.Tuple elts kk tpos) (.Call (.Name "enumerate" p) [a] [] pos) isEnum (.cons ta .nil) := ⟨fun ρ m P Z p => ⟨fun F0 σ H F S R V tk q kx pins s I => by
  refine Call_ (ld_blt I hg hm boot_enumerate (PyProof.Rows.callWith_type1 (thn ((pa_cons (X := X) pe_w pa_nil hs).run pos pins s σ H (fun vs H2 => ∃ v1 F2 d1 m2, vs = [v1] ∧ isEnum [d1] m2 P ∧ Go X.K m H F m2 H2 F2 ∧ Rp X.K F2 v1 d1) I ?_) fun us s1 ⟨vs, H1, I1, r1, q1⟩ => ?_) hs hpl))
  · refine (ha.go ρ m _ Z p).run F0 σ H F S _ V tk (fun x H1 F1 d1 m1 p1 g1 r1 => ?_) kx
    exact ⟨x, F1, d1, m1, rfl, p1, g1, r1⟩
  · obtain ⟨v1, F2, d1, m2, rfl, p2, g2, ra⟩ := q1
    obtain ⟨a1, t1, xs, G1, rfl, pR, g01, h1⟩ := seqD_use (show seqD d1 m2 (fun xs G1 => P (enumD xs) G1 m2) from p2) g2.std ra
    obtain ⟨w1, q1, _⟩ := h1 m2 H1 F2 (Same.refl _) g2.std g01
    obtain ⟨its1, rv1, c1⟩ := seqA_at I1 q1
    cases r1 with
    | cons r rr =>
      cases rr
      cases r
      refine enum_begins1 (beginsA t1 a1 its1.toArray) c1 fun h' hz e1 hsz hk => wpAny_pyIter_enum hz ?_
      have I2 : Inv X pins σ H1 { s1 with heap := h' } := I1.kept (t' := s1.toks) hk
      exact ⟨s1.heap.objs.size + 1, _, _, _, H1, rfl, I2, turn_en (ctA_lt c1), ⟨⟨_, hz⟩, itA_new e1⟩, fresh_le I1 (fun c hc => by
        have e' : c = s1.heap.objs.size + 1 ∨ c = s1.heap.objs.size := by simpa using hc
        rcases e' with z | z <;> rw [z] <;> first | exact Nat.le_add_right _ _ | exact Nat.le_refl _), q _ H1 F2 _ _ m2 pR g2 (walk_en h1)⟩⟩⟩
end
end Nu
namespace NuK
open PySem PySem.W PySem.Calls PyProof.Rows
section
variable {prog : Program} {w : World} {A : Around} {E : Value → Shared → Prop} {s : Shared} {a kS : Addr} {b : Bool} {vs : List Value} {keys : Array Value} {e e1 : Nat} {P : PySem.Fin → Shared → Prop}
end
end NuK
namespace Nu
open PySem PySem.Spec L2
open PyProof.Rows hiding St
section
variable {X : Cx} {pins : List (Addr × Obj)} {σ : L2.St}
variable {a : Expr} {ta : T} {pos p kp q2 : Pos}
end
end Nu
namespace Nu
open PySem PySem.Spec L2
open PyProof.Rows hiding St
section
variable {X : Cx}
variable {K : PySem.W.Frag}
theorem Rps.eraseIdx {F : Hp} : ∀ {vs : List L2.V} {ds : List D} (j : Nat), Rps K F vs ds → Rps K F (vs.eraseIdx j) (ds.eraseIdx j)
  | _, [], _, h => by cases h; exact .nil
  | _, d :: ds, 0, h => by
    cases h with
    | cons _ h2 => exact h2
  | _, d :: ds, j + 1, h => by
    cases h with
    | cons h1 h2 => exact .cons h1 (Rps.eraseIdx j h2)
end
end Nu
namespace Nu
open PySem PySem.Spec L2
open PyProof.Rows hiding St
def rSlA (K : PySem.W.Frag) : L2.V → Int → Hp → VK → Prop := fun x st H Q => ∃ (a : Addr) (vs : List L2.V), x = .ref a ∧ SqL K H a vs ∧ st ≠ 0 ∧ ∀ (zs : List L2.V) (p : Addr), (∀ z ∈ zs, z ∈ vs) → zs.length ≤ vs.length → H p = none → Q (.ref p) (upd H p (.lst zs))
section
variable {X : Cx}
end
end Nu
namespace Nu
open PySem PySem.Spec L2
open PyProof.Rows hiding St
variable {X : Cx} {a b c tg : Expr} {ta tb tc : T} {pos : Pos}
end Nu
namespace Nu
open PySem PySem.Spec L2
open PyProof.Rows hiding St
section
variable {P : Program} {w : World} {A : Around} {E : Value → Shared → Prop} {s : Shared}
end
section
variable {X : Cx}
end
end Nu
namespace Nu
open PySem PySem.Spec L2
open PyProof.Rows hiding St
section
variable {X : Cx} {e : Expr} {te : TE} {t : T} {p apos cpos pos : Pos}
theorem RKs.vals {K : PySem.W.Frag} {F : Hp} {l : List (Key × L2.V)} {r : List (Key × D)} (h : RKs K F l r) : Rps K F (l.map (·.2)) (r.map (·.2)) := by
  unfold RKs at h
  induction h with
  | nil => exact .nil
  | cons h t ih => exact .cons h.2 ih
end
end Nu
namespace Nu
open PySem PySem.Spec L2
open PyProof.Rows hiding St
section
variable {P : Program} {w : World} {A : Around} {E : Value → Shared → Prop} {s : Shared}
end
section
variable {X : Cx} {e : Expr} {te : TE} {t : T} {p apos cpos pos : Pos}
end
end Nu
namespace Nu
open PySem PySem.Spec L2
open PyProof.Rows hiding St
section
variable {K : PySem.W.Frag} {F1 : Hp} {ad : Addr} {items : List D} {GG : MS → Prop} {n : Nat}
end
section
variable {X : Cx} {tg e : Expr} {t : T} {p pos : Pos}
end
end Nu
namespace Nu
open PySem PySem.Spec L2
open PyProof.Rows hiding St
section
variable {X : Cx} {pins : List (Addr × Obj)} {σ : L2.St} {H : Hp} {s : Shared}
end
theorem RKs.mem {K : PySem.W.Frag} {F : Hp} {l : List (Key × L2.V)} {r : List (Key × D)} (h : RKs K F l r) : ∀ p ∈ l, ∃ d, (p.1, d) ∈ r ∧ Rp K F p.2 d := by
  unfold RKs at h
  induction h with
  | nil => intro p hp; cases hp
  | @cons p q ps qs h t ih =>
    intro x hx
    rcases List.mem_cons.mp hx with e | hx
    · rw [e]; exact ⟨q.2, by rw [show (p.1, q.2) = q from Prod.ext h.1 rfl]; exact List.mem_cons_self .., h.2⟩
    · obtain ⟨d, h1, h2⟩ := ih x hx
      exact ⟨d, List.mem_cons_of_mem _ h1, h2⟩
end Nu
namespace Nu
open PySem PySem.Spec L2
open PyProof.Rows hiding St
section
variable {P : Program} {w : World} {A : Around} {E : Value → Shared → Prop} {s : Shared} {α : Type}
end
section
variable {X : Cx} {a : Expr} {ta : T} {pos p1 p2 pos2 : Pos}
end
end Nu
namespace Nu
open PySem PySem.Spec L2
open PyProof.Rows hiding St
section
variable {X : Cx} {es : List Expr} {ts : Ts} {pos : Pos}
end
end Nu
namespace Nu
open PySem PySem.Spec L2
open PyProof.Rows hiding St
section
variable {prog : Program} {w : World} {A : Around} {R : Result → Shared → Prop} {I : Addr} {fp wr : List Addr} {n : Nat} {P : Nat → Value → Prop} {St : Nat → Heap → Prop}
end
end Nu
namespace Nu
open PySem PySem.Spec L2
open PyProof.Rows hiding St
section
variable {X : Cx} {o a b : Expr} {to ta tb : T} {n : Nat} {x : Str} {tpos px pt p cpos ip pos : Pos} {kt zj : Nat}
end
end Nu
namespace Nu
open PySem PySem.Spec L2
open PyProof.Rows hiding St
section
variable {X : Cx} {e : Expr} {t : T} {tgs : List Expr} {gs : Gs} {pos tpos : Pos} {kk : Nat}
end
end Nu
namespace Nu
open PySem PySem.Spec L2
open PyProof.Rows hiding St
section
variable {X : Cx}
end
end Nu
namespace Nu
open PySem PySem.Spec L2
open PyProof.Rows hiding St
section
variable {X : Cx}
theorem pe_mkv {e : Expr} {t : L2.St → Hp → XK → Prop} (hm : PMk X e t) : PE X e (fun σ H Q => t σ H fun cls d H' => ∀ a, H' a = none → Q (.ref a) (upd H' a (ExV a cls d))) := by
  refine ⟨fun pins s σ H Q I h => wpAny_mono (hm pins s σ H _ I h) (fun u s1 hu => ?_) (fun _ _ x => x)⟩
  obtain ⟨a, oe, vs, sI, H', cls, d, rfl, J, k, hne, ha, hz, hd, h1, na, os, ag, r, q⟩ := hu
  exact ⟨.ref a, upd H' a (ExV a cls d), J.call' (ch := []) os (Un.laidN k hne na) (J.hok.laidN k na (exV_ok ha hz hd)) ag (fun b z => absurd z (by simp)), rfl, q a na⟩
def sExn0 (c : Exn) : BS := fun ds m P => match ds with
  | [_] => P (.exn c []) m
  | _ => False
def sExn1 (c : Exn) : BS := fun ds m P => match ds with
  | [_, d] => P (.exn c [d]) m
  | _ => False
theorem se_exn0 (c : Exn) {x : Str} {e : Expr} {t : T} {p pos : Pos} (Fc : XcF X.K X.mg c) (F0 : Xc0 X.K c) (he : SE X e t) (hx : x = c.name := by rfl) (h0 : c.flds.length = 0 := by rfl) (hg : Gl X x := by rfl) (hs : starEach [e] X.env = (false, eval e X.env) :: starEach [] X.env := by rfl) (hdb : (x == ("__debug__" : Str)) = false := by decide) :
    SE X (.Call (.Name x p) [e] [] pos) (.bop (sExn0 c) (.cons t .nil)) := ⟨fun ρ m P Z pp => ⟨fun F0' σ H F S Q V tk q kx => by
  obtain ⟨C, hC, hm, kC, b1, b2⟩ := Fc.ex
  subst hx
  refine wE_of (pe_mkv (SkE.pmk_own1 PySem.F.excBase_ValueError (F0.ex C hC) hm kC (raises_own b1 b2) hg pe_w hs hdb)) ?_
  refine (he.go ρ m _ Z pp).run F0' σ H F S _ V tk (fun v H1 F1 d m1 p1 g1 r1 => ?_) kx
  intro a ha
  have p1 : P (.exn c []) m1 := p1
  obtain ⟨g2, r2⟩ := exn_lay g1.std ha (c := c) (ds := []) (cls := .ref C) (dd := none) ⟨C, hC, rfl, .inl ⟨List.eq_nil_of_length_eq_zero h0, rfl, rfl⟩⟩
  exact q _ _ _ _ _ p1 (g1.trans g2) r2⟩⟩
theorem se_exn1 (c : Exn) (g : Fld) {x : Str} {e1 e2 : Expr} {t1 t2 : T} {p pos : Pos} {k j : Nat} (IF : InitF X.prog X.w X.K X.mg X.base k c g) (hr : Room j X.A) (h1 : SE X e1 t1) (h2 : SE X e2 t2) (hfs : c.fs = [g] := by rfl) (hk : k + 1 ≤ j := by decide) (hx : x = c.name := by rfl) (hg : Gl X x := by rfl) (hdb : (x == ("__debug__" : Str)) = false := by decide)
    (he : starEach [e1, e2] X.env = (false, eval e1 X.env) :: starEach [e2] X.env := by rfl) (he2 : starEach [e2] X.env = (false, eval e2 X.env) :: starEach [] X.env := by rfl) (hpl : (backTo pos (starEach [e2] X.env)).any (·.1) = false := by rfl) :
    SE X (.Call (.Name x p) [e1, e2] [] pos) (.bop (sExn1 c) (.cons t1 (.cons t2 .nil))) := ⟨fun ρ m P Z pp => ⟨fun F0 σ H Fh S Q V tk q kx => by
  obtain ⟨C, fI, fd, ps, hC, hm, T, iC, tI, G, bi⟩ := IF.ex
  subst hx
  refine wE_of (pe_mkv (pmk_oex T iC tI G (hr.mono hk) bi .nil (passes_call tk fun _ _ _ _ h => h.elim) hg hm (pa_cons pe_w (pa_cons pe_w pa_nil he2) he) hdb he hpl)) ?_
  have pp : W t1 ρ m _ Z := pp
  refine (h1.go ρ m _ _ pp).run F0 σ H Fh S _ V tk (fun v H1 F1 d m1 p1 g1 r1 => ?_) kx
  have p1 : W t2 ρ m1 _ Z := p1
  refine (h2.go ρ m1 _ _ p1).run F0 σ H1 F1 (S.go g1) _ V tk (fun v2 H2 F2 d2 m2 p2 g2 r2 => ?_) (kx.go g1)
  have p2 : P (.exn c [d2]) m2 := p2
  refine ⟨Nat.le_of_ble_eq_true rfl, fun a ha => ⟨a, v, v2, rfl, upd_same, fun dx hdx ne => ⟨rfl, dx, [(g.name, v2)], upd_same, ?_, ?_, ?_⟩⟩⟩
  · rw [upd_ne ne]; exact upd_same
  · rw [upd_ne ne] at hdx; exact hdx
  · have hdx' : H2 dx = none := by rw [upd_ne ne] at hdx; exact hdx
    have eH : upd (del (upd (upd (upd H2 a (exo a C none)) dx (exd dx [(g.name, v2)])) a (exo a C (some dx))) a) dx (.xd [(g.name, v2)]) = upd H2 dx (.xd [(g.name, v2)]) := by
      funext b
      by_cases hb : b = dx
      · rw [hb, upd_same, upd_same]
      · rw [upd_ne hb, upd_ne hb]
        by_cases hb2 : b = a
        · rw [hb2, del_same]; exact ha.symm
        · rw [del_ne hb2, upd_ne hb2, upd_ne hb, upd_ne hb2]
    rw [eH]
    intro a2 ha2
    have g3 := Go.new (o := .xd [(g.name, v2)]) g2.std hdx'
    have rr : ExR X.K (upd F2 dx (.xd [(g.name, v2)])) c [d2] (.ref C) (some dx) := ⟨C, hC, rfl, .inr ⟨dx, [v2], rfl, by unfold Exn.flds; rw [hfs]; rfl, (fun z => nomatch z), by unfold Exn.flds; rw [hfs]; exact upd_same, Rps.one (r2.up g3.grow _)⟩⟩
    obtain ⟨g4, r4⟩ := exn_lay g3.std ha2 rr
    exact q _ _ _ _ _ p2 (((g1.trans g2).trans g3).trans g4) r4⟩⟩
end
end Nu
namespace Nu
open PySem PySem.Spec L2
open PyProof.Rows hiding St
def tPar3 (i j l : Nat) (ta : TA) : TS := fun D σ H => ta σ H fun vs H1 => ∃ v w z, vs = [v, w, z] ∧ D.nx (((σ.set i (some v)).set j (some w)).set l (some z)) H1
section
variable {X : Cx}
theorem ps_par3 {i j l : Nat} {x y z : Str} {a b c : Expr} {ta : TA} {px py pz pt pos : Pos} {kt k2 pt2} (hc : X.calm = true) (hN : X.N.Nodup) (hi : X.N[i]? = some x) (hj : X.N[j]? = some y) (hl : X.N[l]? = some z) (hij : i ≠ j) (hil : i ≠ l) (hjl : j ≠ l)
    (hx : X.env.scope.names.lookup x = some .local) (hy : X.env.scope.names.lookup y = some .local) (hz : X.env.scope.names.lookup z = some .local) (ha : PA X [a, b, c] ta)
    (hw : swappedStores [.Tuple [.Name x px, .Name y py, .Name z pz] kt pt] (.Tuple [a, b, c] k2 pt2) X.env = pure (some [x, y, z]))
    (hs : swapsWithSole [.Tuple [.Name x px, .Name y py, .Name z pz] kt pt] (.Tuple [a, b, c] k2 pt2) pos.line X.env = pure false := by rfl) :
    PS X (.Assign [.Tuple [.Name x px, .Name y py, .Name z pz] kt pt] (.Tuple [a, b, c] k2 pt2) pos) (tPar3 i j l ta) := by
  refine ⟨fun pins s σ H D I h => ?_⟩
  rw [exec_Assign_arm]
  refine wpAny_bind (wpAny_standAt ?_)
  rw [hs]
  refine wpAny_bind (wpAny_pure ?_)
  rw [if_neg (by decide)]
  refine wpAny_bind (Tuple_ (thn (ha.run _ pins s σ H _ I h) fun us s1 ⟨vs, H1, I1, r1, q1⟩ => ?_))
  obtain ⟨v, w, t, e1, q1⟩ := q1
  subst e1
  obtain ⟨u1, u2, u3, rfl, rv, rw', rt⟩ : ∃ u1 u2 u3, us = [u1, u2, u3] ∧ RelV v u1 ∧ RelV w u2 ∧ RelV t u3 := by
    cases r1 with
    | cons p q =>
      cases q with
      | cons p' q' =>
        cases q' with
        | cons p2 q2 =>
          cases q2
          exact ⟨_, _, _, rfl, p, p', p2⟩
  refine wpAny_newObj_type ?_ (by show 3 ≤ sizeLine; decide)
  have I2 : Inv X pins σ H1 { s1 with heap := s1.heap.push { cls := .type "tuple", data := .seq [u1, u2, u3].toArray } } := I1.kept (t' := s1.toks) fun b o e => Heap.get?_push_of_some _ e
  rw [hw]
  refine wpAny_bind (wpAny_pure ?_)
  show wpAny (model X.prog X.w) X.A (do rule "assign.swapped-stores"; let items ← unpackItems (.ref s1.heap.objs.size) 3 none; assignInOrder [fun v => bindName X.env z v, fun v => bindName X.env y v, fun v => bindName X.env x v] items.reverse; pure Flow.next) _ _ _
  refine wpAny_bind (wpAny_rule (wpAny_bind (unpackItems_tuple (items := #[u1, u2, u3]) (I.ok.hd hc) (IsTup.new s1.heap _) fun h' hx' => ?_)))
  have I3 := I2.kept (h' := h') (t' := s1.toks) fun b o e => hx' b o (Nat.ne_of_lt (Heap.lt_size e)) e
  show wpAny _ _ (assignInOrder [fun v => bindName X.env z v, fun v => bindName X.env y v, fun v => bindName X.env x v] [u3, u2, u1] >>= fun _ => pure Flow.next) _ _ _
  refine wpAny_bind (assignInOrder_cons (wpAny_bindName (store_ok I3 hN hl (.inl hz) rt (fun s2 I4 => ?_) (.inr hz))))
  refine assignInOrder_cons (wpAny_bindName (store_ok I4 hN hj (.inl hy) rw' (fun s3 I5 => ?_) (.inr hy)))
  refine assignInOrder_cons (wpAny_bindName (store_ok I5 hN hi (.inl hx) rv (fun s4 I6 => assignInOrder_nil (wpAny_pure ?_)) (.inr hx)))
  have e : ((σ.set l (some t)).set j (some w)).set i (some v) = ((σ.set i (some v)).set j (some w)).set l (some t) := by
    rw [List.set_comm _ _ (Ne.symm hij), List.set_comm _ _ (Ne.symm hil), List.set_comm _ _ (Ne.symm hjl)]
  rw [e] at I6
  exact ⟨_, H1, I6, q1⟩
theorem s_par3 {i j l : Nat} {x y z : Str} {a b c : Expr} {ta tb tc : T} {px py pz pt pt2 pos : Pos} {kt k2 : Nat} (ha : SE X a ta) (hb : SE X b tb) (hcc : SE X c tc) (hN : X.N.Nodup) (hij : i ≠ j := by decide) (hil : i ≠ l := by decide) (hjl : j ≠ l := by decide) (hi : X.N[i]? = some x := by rfl) (hj : X.N[j]? = some y := by rfl) (hl : X.N[l]? = some z := by rfl) (hc : X.calm = true := by rfl)
    (hx : X.env.scope.names.lookup x = some .local := by rfl) (hy : X.env.scope.names.lookup y = some .local := by rfl) (hz : X.env.scope.names.lookup z = some .local := by rfl)
    (hw : swappedStores [.Tuple [.Name x px, .Name y py, .Name z pz] kt pt] (.Tuple [a, b, c] k2 pt2) X.env = pure (some [x, y, z]) := by rfl)
    (hs : swapsWithSole [.Tuple [.Name x px, .Name y py, .Name z pz] kt pt] (.Tuple [a, b, c] k2 pt2) pos.line X.env = pure false := by rfl) (h1 : starEach [a, b, c] X.env = (false, eval a X.env) :: starEach [b, c] X.env := by rfl) (h2 : starEach [b, c] X.env = (false, eval b X.env) :: starEach [c] X.env := by rfl) (h3 : starEach [c] X.env = (false, eval c X.env) :: starEach [] X.env := by rfl) :
    SS1 X (.Assign [.Tuple [.Name x px, .Name y py, .Name z pz] kt pt] (.Tuple [a, b, c] k2 pt2) pos) (.unp (.cons (.name i) (.cons (.name j) (.cons (.name l) .nil))) (.bop sTup (.cons ta (.cons tb (.cons tc .nil))))) := ⟨fun ρ m A p => ⟨fun F0 σ H F S E V tk k pins s I => by
  have hli := nx_of_inv I hi
  have hlj := nx_of_inv I hj
  have hll := nx_of_inv I hl
  refine wS_of (ps_par3 hc hN hi hj hl hij hil hjl hx hy hz (pa_cons pe_w (pa_cons pe_w (pa_cons pe_w pa_nil h3) h2) h1) hw hs) ?_ pins s I
  have p : W ta ρ m _ A.ex := p
  refine (ha.go ρ m _ _ p).run F0 σ H F S _ V tk (fun v H1 F1 d1 m1 p1 g1 r1 => ?_) k.ex
  have p1 : W tb ρ m1 _ A.ex := p1
  refine (hb.go ρ m1 _ _ p1).run F0 σ H1 F1 (S.go g1) _ V tk (fun w H2 F2 d2 m2 p2 g2 r2 => ?_) (k.ex.go g1)
  have p2 : W tc ρ m2 _ A.ex := p2
  refine (hcc.go ρ m2 _ _ p2).run F0 σ H2 F2 ((S.go g1).go g2) _ V tk (fun t H3 F3 d3 m3 p3 g3 r3 => ?_) ((k.ex.go g1).go g2)
  have p3 : A.nx (setR (setR (setR ρ i d1) j d2) l d3) m3 := p3
  refine ⟨v, w, t, rfl, k.nx _ H3 F3 _ m3 p3 ((g1.trans g2).trans g3) ?_⟩
  exact (((((S.go g1).go g2).go g3).set ((r1.up g2.grow _).up g3.grow _) hli).set (r2.up g3.grow _) (by rw [List.length_set]; exact hlj)).set r3 (by rw [List.length_set, List.length_set]; exact hll)⟩⟩
end
end Nu
namespace My
open PySem PySem.Spec L2 Nu
open PyProof.Rows hiding St
theorem ne_cell {m : MS} {p q : Addr} {c c' : Cell} (h : m p = some c) (k : m q = some c') (n : c ≠ c') : p ≠ q := fun e => by
  subst e; rw [h] at k; cases k; exact n rfl
/-- a comprehension whose turns change nothing -/
theorem lcP {α : Type} (L : List α) (f : α → D) (p : α → Bool) (g : α → D) {Gt : G} {ρ : Env1} {m : MS} {GG : MS → Prop} {ifs : Ts} {elt : T} {P : NX} {items : List D} (hi : items = L.map f) (hl : L.length ≤ 100000) (hG : GG m)
    (st : ∀ x ∈ L, ∃ ρ', bindG Gt (f x) (wipeR ρ Gt.vars) = some ρ' ∧ (∀ R : Bool → MS → Prop, R (p x) m → Wl ifs ρ' m R) ∧ (p x = true → ∀ R : NX, R (g x) m → W elt ρ' m R EX0))
    (q : NewL ((L.filter p).map g) m P) : items.length ≤ 100000 ∧ ∃ I : Nat → List D → MS → Prop, I 0 [] m ∧ (∀ i acc m', i ≤ items.length → I i acc m' → GG m') ∧
      (∀ i d acc m', items[i]? = some d → I i acc m' → match bindG Gt d (wipeR ρ Gt.vars) with
        | some ρ' => Wl ifs ρ' m' (fun b m'' => (b = true → W elt ρ' m'' (fun d' m3 => I (i + 1) (acc ++ [d']) m3) EX0) ∧ (b = false → I (i + 1) acc m''))
        | none => False) ∧ ∀ acc m', I items.length acc m' → NewL acc m' P := by
  subst hi
  refine ⟨by rw [List.length_map]; exact hl, fun i acc m' => m' = m ∧ acc = ((L.take i).filter p).map g, ⟨rfl, by simp⟩, fun i acc m' _ h => by rw [h.1]; exact hG, fun i d acc m' hd h => ?_, fun acc m' h => ?_⟩
  · obtain ⟨rfl, rfl⟩ := h
    rw [List.getElem?_map] at hd
    cases hx : L[i]? with
    | none => rw [hx] at hd; cases hd
    | some x =>
      rw [hx] at hd
      obtain rfl : f x = d := Option.some.inj hd
      have hi : i < L.length := (List.getElem?_eq_some_iff.mp hx).1
      have hm : x ∈ L := List.mem_of_getElem? hx
      obtain ⟨ρ', e, t1, t2⟩ := st x hm
      have et : L.take (i + 1) = L.take i ++ [x] := by rw [List.take_add_one, hx]; rfl
      rw [e]
      refine t1 _ ⟨fun b => ?_, fun b => ⟨rfl, ?_⟩⟩
      · refine t2 b _ ⟨rfl, ?_⟩
        rw [et, List.filter_append, List.map_append]
        simp [b]
      · rw [et, List.filter_append, List.map_append]
        simp [b]
  · obtain ⟨rfl, rfl⟩ := h
    rw [List.length_map, List.take_length]
    exact q
/-- .. without a test -/
theorem lcM {α : Type} (L : List α) (f g : α → D) {Gt : G} {ρ : Env1} {m : MS} {GG : MS → Prop} {elt : T} {P : NX} {items : List D} (hi : items = L.map f) (hl : L.length ≤ 100000) (hG : GG m)
    (st : ∀ x ∈ L, ∃ ρ', bindG Gt (f x) (wipeR ρ Gt.vars) = some ρ' ∧ ∀ R : NX, R (g x) m → W elt ρ' m R EX0)
    (q : NewL (L.map g) m P) : items.length ≤ 100000 ∧ ∃ I : Nat → List D → MS → Prop, I 0 [] m ∧ (∀ i acc m', i ≤ items.length → I i acc m' → GG m') ∧
      (∀ i d acc m', items[i]? = some d → I i acc m' → match bindG Gt d (wipeR ρ Gt.vars) with
        | some ρ' => Wl .nil ρ' m' (fun b m'' => (b = true → W elt ρ' m'' (fun d' m3 => I (i + 1) (acc ++ [d']) m3) EX0) ∧ (b = false → I (i + 1) acc m''))
        | none => False) ∧ ∀ acc m', I items.length acc m' → NewL acc m' P :=
  lcP L f (fun _ => true) g hi hl hG (fun x hx => by
    obtain ⟨ρ', e, t⟩ := st x hx
    exact ⟨ρ', e, fun R r => r, fun _ => t⟩) (by rw [List.filter_eq_self.mpr (by simp)]; exact q)
/-- a for over data: the invariant, its turn by the item -/
theorem foP {α : Type} (L : List α) (f : α → D) (I : Nat → Env1 → MS → Prop) {Gt : G} {ρ : Env1} {m : MS} {GG : MS → Prop} {body : SS} {E : AEnds} {items : List D} (hi : items = L.map f) (h0 : I 0 ρ m) (hG : ∀ i ρ' m', I i ρ' m' → GG m')
    (st : ∀ i x ρ' m', L[i]? = some x → I i ρ' m' → ∃ ρ2, bindG Gt (f x) ρ' = some ρ2 ∧ WB body ρ2 m' { nx := I (i + 1), rt := E.rt, bk := E.nx, ct := I (i + 1), ex := E.ex })
    (q : ∀ ρ' m', I L.length ρ' m' → E.nx ρ' m') : ∃ I : Nat → Env1 → MS → Prop, I 0 ρ m ∧ (∀ i ρ' m', I i ρ' m' → GG m') ∧
      (∀ i d ρ' m', items[i]? = some d → I i ρ' m' → match bindG Gt d ρ' with
        | some ρ2 => WB body ρ2 m' { nx := I (i + 1), rt := E.rt, bk := E.nx, ct := I (i + 1), ex := E.ex }
        | none => False) ∧ ∀ ρ' m', I items.length ρ' m' → E.nx ρ' m' := by
  subst hi
  refine ⟨I, h0, hG, fun i d ρ' m' hd h => ?_, fun ρ' m' h => q ρ' m' (by rwa [List.length_map] at h)⟩
  rw [List.getElem?_map] at hd
  cases hx : L[i]? with
  | none => rw [hx] at hd; cases hd
  | some x =>
    rw [hx] at hd
    obtain rfl : f x = d := Option.some.inj hd
    obtain ⟨ρ2, e, h2⟩ := st i x ρ' m' hx h
    rw [e]; exact h2
theorem take_succ {α : Type} {L : List α} {i : Nat} {x : α} (h : L[i]? = some x) : L.take (i + 1) = L.take i ++ [x] := by rw [List.take_add_one, h]; rfl
theorem atI_get {α : Type} {xs : List α} {i : Int} {x : α} (h0 : 0 ≤ i) (h : xs[i.toNat]? = some x) : atI xs i = some x := by
  have hi : i.toNat < xs.length := (List.getElem?_eq_some_iff.mp h).1
  unfold atI ixN
  rw [if_pos h0, if_pos (by omega)]
  exact h
theorem foN {α : Type} (L : List α) (f : α → D) (I : Nat → Env1 → MS → Prop) {v : Nat} {ρ : Env1} {m : MS} {GG : MS → Prop} {body : SS} {E : AEnds} {items : List D} (hi : items = L.map f) (h0 : I 0 ρ m) (hG : ∀ i ρ' m', I i ρ' m' → GG m')
    (st : ∀ i x ρ' m', L[i]? = some x → I i ρ' m' → WB body (setR ρ' v (f x)) m' { nx := I (i + 1), rt := E.rt, bk := E.nx, ct := I (i + 1), ex := E.ex })
    (q : ∀ ρ' m', I L.length ρ' m' → E.nx ρ' m') : ∃ I : Nat → Env1 → MS → Prop, I 0 ρ m ∧ (∀ i ρ' m', I i ρ' m' → GG m') ∧
      (∀ i d ρ' m', items[i]? = some d → I i ρ' m' → WB body (setR ρ' v d) m' { nx := I (i + 1), rt := E.rt, bk := E.nx, ct := I (i + 1), ex := E.ex }) ∧ ∀ ρ' m', I items.length ρ' m' → E.nx ρ' m' :=
  foP (Gt := .name v) L f I hi h0 hG (fun i x ρ' m' hx h => ⟨_, rfl, st i x ρ' m' hx h⟩) q
end My
namespace My
open PySem PySem.Spec L2 Nu
open PyProof.Rows hiding St
abbrev Rw := Int × Int × List Int
abbrev Row := Str × Rw
def amtD (l : List Int) : D := .tup (l.map .int)
def rwD (r : Rw) : D := .tup [.int r.1, .int r.2.1, amtD r.2.2]
def rowsK (R : List Row) : List (Key × D) := R.map fun r => (.inr r.1, rwD r.2)
def bxc (a c : Int) : Cell := .lst [.int a, .int c]
def Bx (m : MS) (x : Addr) : Prop := ∃ a c, m x = some (bxc a c) ∧ 0 ≤ a ∧ 0 ≤ c ∧ c < 2147483647
theorem Bx.put {m : MS} {x : Addr} {a c : Int} (h0 : 0 ≤ a) (h1 : 0 ≤ c) (h2 : c < 2147483647) : Bx (mset m x (bxc a c)) x := ⟨a, c, mset_same, h0, h1, h2⟩
theorem Bx.dct {m : MS} {x p : Addr} {c : Cell} {k : List (Key × D)} (h : Bx m x) (e : m p = some (.dct k)) : mset m x c p = some (.dct k) := by
  obtain ⟨a, b, e2, _⟩ := h
  rw [mset_ne (ne_cell e e2 (by unfold bxc; simp))]; exact e
theorem Bx.ins {m : MS} {x p : Addr} {c : Cell} {k : Cls} {xs : List D} (h : Bx m x) (e : m p = some (.ins k xs)) : mset m x c p = some (.ins k xs) := by
  obtain ⟨a, b, e2, _⟩ := h
  rw [mset_ne (ne_cell e e2 (by unfold bxc; simp))]; exact e
theorem Bx.lst {m : MS} {x p : Addr} {c : Cell} {xs : List D} (h : Bx m x) (ne : p ≠ x) (e : m p = some (.lst xs)) : mset m x c p = some (.lst xs) := by
  rw [mset_ne ne]; exact e
theorem emod_bd (a : Int) {b : Int} (h : 0 < b) : 0 ≤ a % b ∧ a % b < b := ⟨Int.emod_nonneg _ (by omega), Int.emod_lt_of_pos _ h⟩
/-- the amounts of a book's entries at a time, one ware -/
def actv (r : Rw) (t : Int) : Bool := decide (r.1 ≤ t) && decide (t < r.2.1)
def loadI : List Rw → Int → Nat → Int
  | [], _, _ => 0
  | r :: rs, t, i => (if actv r t = true then r.2.2.getD i 0 else 0) + loadI rs t i
structure RowsOk (w : Nat) (R : List Row) : Prop where
  nd : (R.map (·.1)).Nodup
  len : ∀ r ∈ R, r.2.2.2.length = w
  pos : ∀ r ∈ R, ∀ x ∈ r.2.2.2, 0 ≤ x
  key : ∀ r ∈ R, PyData.strOk r.1 = true
def lmK (room : List Int) (top wide : Int) (q : Addr) : List (Key × D) := [(.inr "room", amtD room), (.inr "top", .int top), (.inr "wide", .int wide), (.inr "rows", .raw (.ref q))]
structure LawM (m : MS) (p q : Addr) (room : List Int) (top wide : Int) (R : List Row) : Prop where
  hp : m p = some (.dct (lmK room top wide q))
  hq : m q = some (.dct (rowsK R))
  ne : p ≠ q
structure BookM (m : MS) (b s : Addr) (room : List Int) (R : List Row) : Prop where
  hb : m b = some (.ins .Book [amtD room, .raw (.ref s)])
  hs : m s = some (.dct (rowsK R))
theorem loadI_app (A B : List Rw) (t : Int) (i : Nat) : loadI (A ++ B) t i = loadI A t i + loadI B t i := by
  induction A with
  | nil => simp [loadI]
  | cons a A ih => rw [List.cons_append, loadI, loadI, ih]; omega
/-- two lists of one length alike at each place -/
theorem ext_getD {a b : List Int} {w : Nat} (ha : a.length = w) (hb : b.length = w) (h : ∀ i, i < w → a.getD i 0 = b.getD i 0) : a = b := by
  refine List.ext_getElem (by omega) fun i h1 h2 => ?_
  have := h i (by omega)
  rw [List.getD_eq_getElem?_getD, List.getD_eq_getElem?_getD, List.getElem?_eq_getElem h1, List.getElem?_eq_getElem h2] at this
  exact this
end My
namespace My
open PySem PySem.Spec L2 Nu
open PyProof.Rows hiding St
theorem cover_t {A : List Int} {R : List Rw} {b e s : Int} (hb : b ∈ A) (hR : ∀ r ∈ R, b < r.1 → r.1 < e → r.1 ∈ A) (h1 : b ≤ s) (h2 : s < e) : ∃ t ∈ A, b ≤ t ∧ t ≤ s ∧ ∀ r ∈ R, r.1 ≤ s → r.1 ≤ t := by
  induction R with
  | nil => exact ⟨b, hb, Int.le_refl _, h1, fun r hr => by cases hr⟩
  | cons a R ih =>
    obtain ⟨t, ht, k1, k2, k3⟩ := ih fun r hr => hR r (List.mem_cons_of_mem _ hr)
    by_cases hc : a.1 ≤ s ∧ t < a.1
    · refine ⟨a.1, hR a (List.mem_cons_self ..) (by omega) (by omega), by omega, hc.1, fun r hr hs => ?_⟩
      rcases List.mem_cons.mp hr with rfl | hr
      · exact Int.le_refl _
      · have := k3 r hr hs; omega
    · refine ⟨t, ht, k1, k2, fun r hr hs => ?_⟩
      rcases List.mem_cons.mp hr with rfl | hr
      · omega
      · exact k3 r hr hs
theorem loadI_le {R : List Rw} {t s : Int} {i : Nat} (hp : ∀ r ∈ R, 0 ≤ r.2.2.getD i 0) (h : t ≤ s) (hc : ∀ r ∈ R, r.1 ≤ s → r.1 ≤ t) : loadI R s i ≤ loadI R t i := by
  induction R with
  | nil => exact Int.le_refl _
  | cons a R ih =>
    have h1 := ih (fun r hr => hp r (List.mem_cons_of_mem _ hr)) fun r hr => hc r (List.mem_cons_of_mem _ hr)
    have h2 := hp a (List.mem_cons_self ..)
    have h3 := hc a (List.mem_cons_self ..)
    unfold loadI
    by_cases e : actv a s = true
    · have e' : actv a t = true := by
        unfold actv at e ⊢
        rw [Bool.and_eq_true, decide_eq_true_eq, decide_eq_true_eq] at e ⊢
        have := h3 e.1
        omega
      rw [if_pos e, if_pos e']; omega
    · rw [if_neg e]
      split <;> omega
theorem getD_pos {l : List Int} (h : ∀ x ∈ l, 0 ≤ x) (i : Nat) : 0 ≤ l.getD i 0 := by
  rw [List.getD_eq_getElem?_getD]
  cases e : l[i]? with
  | none => exact Int.le_refl _
  | some x => exact h x (List.mem_of_getElem? e)
def ovr (w : Nat) (room : List Int) (R : List Rw) (l : List Int) (t : Int) : Prop := ∃ i, i < w ∧ room.getD i 0 < loadI R t i + l.getD i 0
def FM (w : Nat) (room : List Int) (R : List Rw) (b e : Int) (l : List Int) : Option Int → Prop
  | some t => b ≤ t ∧ t < e ∧ ovr w room R l t ∧ ∀ s, b ≤ s → s < t → ¬ ovr w room R l s
  | none => ∀ s, b ≤ s → s < e → ¬ ovr w room R l s
theorem FM.one {w : Nat} {room : List Int} {R : List Rw} {b e : Int} {l : List Int} : ∀ {o o' : Option Int}, FM w room R b e l o → FM w room R b e l o' → o = o'
  | none, none, _, _ => rfl
  | none, some t, h, k => absurd k.2.2.1 (h t k.1 k.2.1)
  | some t, none, h, k => absurd h.2.2.1 (k t h.1 h.2.1)
  | some t, some t', h, k => by
    rcases Int.lt_trichotomy t t' with c | c | c
    · exact absurd h.2.2.1 (k.2.2.2 t h.1 c)
    · rw [c]
    · exact absurd k.2.2.1 (h.2.2.2 t' k.1 c)
/-- a list of times that tells of the whole stretch -/
structure Times (R : List Rw) (b e : Int) (A : List Int) : Prop where
  has : b ∈ A
  rise : ∀ r ∈ R, b < r.1 → r.1 < e → r.1 ∈ A
  inn : ∀ t ∈ A, b ≤ t ∧ t < e
theorem ovr_back {w : Nat} {room : List Int} {R : List Rw} {b e : Int} {l A : List Int} (hp : ∀ r ∈ R, ∀ x ∈ r.2.2, 0 ≤ x) (T : Times R b e A) {s : Int} (h1 : b ≤ s) (h2 : s < e) (o : ovr w room R l s) : ∃ t ∈ A, t ≤ s ∧ ovr w room R l t := by
  obtain ⟨t, ht, _, k2, k3⟩ := cover_t T.has T.rise h1 h2
  obtain ⟨i, hi, h⟩ := o
  have := loadI_le (i := i) (fun r hr => getD_pos (hp r hr) i) k2 k3
  exact ⟨t, ht, k2, i, hi, by omega⟩
theorem FM.of_none {w : Nat} {room : List Int} {R : List Rw} {b e : Int} {l A : List Int} (hp : ∀ r ∈ R, ∀ x ∈ r.2.2, 0 ≤ x) (T : Times R b e A) (h : ∀ t ∈ A, ¬ ovr w room R l t) : FM w room R b e l none := fun s h1 h2 o => by
  obtain ⟨t, ht, _, k⟩ := ovr_back hp T h1 h2 o
  exact h t ht k
theorem FM.of_some {w : Nat} {room : List Int} {R : List Rw} {b e : Int} {l A : List Int} (hp : ∀ r ∈ R, ∀ x ∈ r.2.2, 0 ≤ x) (T : Times R b e A) (hs : A.Pairwise (· ≤ ·)) {k : Nat} {t : Int} (ht : A[k]? = some t) (o : ovr w room R l t)
    (h : ∀ u ∈ A.take k, ¬ ovr w room R l u) : FM w room R b e l (some t) := by
  have hm := T.inn t (List.mem_of_getElem? ht)
  refine ⟨hm.1, hm.2, o, fun s h1 h2 os => ?_⟩
  obtain ⟨u, hu, hus, ou⟩ := ovr_back hp T h1 (by omega) os
  obtain ⟨j, hj⟩ := List.getElem?_of_mem hu
  have hjl : j < A.length := (List.getElem?_eq_some_iff.mp hj).1
  have hkl : k < A.length := (List.getElem?_eq_some_iff.mp ht).1
  rcases Nat.lt_or_ge j k with c | c
  · exact h u (List.mem_of_getElem? (i := j) (by rw [List.getElem?_take]; rw [if_pos c]; exact hj)) ou
  · have ej : A[j] = u := (List.getElem?_eq_some_iff.mp hj).2
    have ek : A[k] = t := (List.getElem?_eq_some_iff.mp ht).2
    rcases Nat.lt_or_ge k j with c' | c'
    · have := List.pairwise_iff_getElem.mp hs k j hkl hjl c'
      omega
    · have : j = k := by omega
      subst this; omega
def minI (i j : Int) : Int := if j < i then j else i
def LP (w : Nat) (room : List Int) (R : List Rw) (T l : List Int) : Prop := l.length = w ∧ ∀ i, i < w → l.getD i 0 ≤ room.getD i 0 ∧ (∀ t ∈ T, l.getD i 0 ≤ room.getD i 0 - loadI R t i) ∧ (l.getD i 0 = room.getD i 0 ∨ ∃ t ∈ T, l.getD i 0 = room.getD i 0 - loadI R t i)
def LF (w : Nat) (room : List Int) (R : List Rw) (b e : Int) (l : List Int) : Prop := l.length = w ∧ ∀ i, i < w → l.getD i 0 ≤ room.getD i 0 ∧ (∀ t, b ≤ t → t < e → l.getD i 0 ≤ room.getD i 0 - loadI R t i) ∧ (l.getD i 0 = room.getD i 0 ∨ ∃ t, b ≤ t ∧ t < e ∧ l.getD i 0 = room.getD i 0 - loadI R t i)
theorem LF.one {w : Nat} {room : List Int} {R : List Rw} {b e : Int} {l l' : List Int} (h : LF w room R b e l) (k : LF w room R b e l') : l = l' := by
  refine ext_getD h.1 k.1 fun i hi => ?_
  obtain ⟨h1, h2, h3⟩ := h.2 i hi
  obtain ⟨k1, k2, k3⟩ := k.2 i hi
  have a : l'.getD i 0 ≤ l.getD i 0 := by
    rcases h3 with h3 | ⟨t, t1, t2, h3⟩
    · omega
    · have := k2 t t1 t2; omega
  have b : l.getD i 0 ≤ l'.getD i 0 := by
    rcases k3 with k3 | ⟨t, t1, t2, k3⟩
    · omega
    · have := h2 t t1 t2; omega
  omega
theorem LP.nil {w : Nat} {room : List Int} {R : List Rw} (h : room.length = w) : LP w room R [] room := ⟨h, fun i hi => ⟨Int.le_refl _, (fun t (ht : t ∈ ([] : List Int)) => nomatch ht), .inl rfl⟩⟩
theorem LP.step {w : Nat} {room : List Int} {R : List Rw} {T l l' : List Int} {t : Int} (h : LP w room R T l) (hl : l'.length = w) (e : ∀ i, i < w → l'.getD i 0 = minI (l.getD i 0) (room.getD i 0 - loadI R t i)) : LP w room R (T ++ [t]) l' := by
  refine ⟨hl, fun i hi => ?_⟩
  obtain ⟨h1, h2, h3⟩ := h.2 i hi
  rw [e i hi]
  unfold minI
  split
  · next c =>
    refine ⟨by omega, fun u hu => ?_, .inr ⟨t, by simp, rfl⟩⟩
    rcases List.mem_append.mp hu with hu | hu
    · have := h2 u hu; omega
    · rw [List.mem_singleton.mp hu]; exact Int.le_refl _
  · next c =>
    refine ⟨h1, fun u hu => ?_, ?_⟩
    · rcases List.mem_append.mp hu with hu | hu
      · exact h2 u hu
      · rw [List.mem_singleton.mp hu]; omega
    · rcases h3 with h3 | ⟨u, hu, h3⟩
      · exact .inl h3
      · exact .inr ⟨u, List.mem_append_left _ hu, h3⟩
theorem LP.done {w : Nat} {room : List Int} {R : List Rw} {b e : Int} {A l : List Int} (hp : ∀ r ∈ R, ∀ x ∈ r.2.2, 0 ≤ x) (T : Times R b e A) (h : LP w room R A l) : LF w room R b e l := by
  refine ⟨h.1, fun i hi => ?_⟩
  obtain ⟨h1, h2, h3⟩ := h.2 i hi
  refine ⟨h1, fun s s1 s2 => ?_, ?_⟩
  · obtain ⟨t, ht, _, k2, k3⟩ := cover_t T.has T.rise s1 s2
    have := loadI_le (i := i) (fun r hr => getD_pos (hp r hr) i) k2 k3
    have := h2 t ht
    omega
  · rcases h3 with h3 | ⟨t, ht, h3⟩
    · exact .inl h3
    · exact .inr ⟨t, (T.inn t ht).1, (T.inn t ht).2, h3⟩
def NL (E : List Int) (time : Int) : Option Int → Prop
  | some t => t ∈ E ∧ time < t ∧ ∀ u ∈ E, time < u → t ≤ u
  | none => ∀ u ∈ E, u ≤ time
theorem NL.one {E : List Int} {time : Int} : ∀ {o o' : Option Int}, NL E time o → NL E time o' → o = o'
  | none, none, _, _ => rfl
  | none, some t, h, k => by have h1 := h t k.1; have h2 := k.2.1; omega
  | some t, none, h, k => by have h1 := k t h.1; have h2 := h.2.1; omega
  | some t, some t', h, k => by
    have h1 := h.2.2 t' k.1 k.2.1
    have h2 := k.2.2 t h.1 h.2.1
    rw [show t = t' by omega]
/-- times of the rises, or of all edges -/
theorem Times.of {R : List Rw} {b e : Int} {E : List Int} (hbe : b < e) (hE : ∀ r ∈ R, r.1 ∈ E) : Times R b e ([b] ++ E.filter fun t => decide (b < t) && decide (t < e)) := by
  refine ⟨by simp, fun r hr h1 h2 => List.mem_append_right _ (List.mem_filter.mpr ⟨hE r hr, by simp [h1, h2]⟩), fun t ht => ?_⟩
  rcases List.mem_append.mp ht with ht | ht
  · rw [List.mem_singleton.mp ht]; exact ⟨Int.le_refl _, hbe⟩
  · have := (List.mem_filter.mp ht).2
    rw [Bool.and_eq_true, decide_eq_true_eq, decide_eq_true_eq] at this
    omega
theorem times_pw {E : List Int} {b e : Int} (h : E.Pairwise (· ≤ ·)) : ([b] ++ E.filter fun t => decide (b < t) && decide (t < e)).Pairwise (· ≤ ·) := by
  refine List.pairwise_cons.mpr ⟨fun t ht => ?_, h.sublist List.filter_sublist⟩
  have := (List.mem_filter.mp ht).2
  rw [Bool.and_eq_true, decide_eq_true_eq, decide_eq_true_eq] at this
  omega
end My
namespace My
open PySem PySem.Spec L2 Nu
open PyProof.Rows hiding St
abbrev leS (a b : Str) : Prop := ltCps b.cps.toList a.cps.toList = false
theorem leS_iff {a b : Str} : leS a b ↔ ¬ (b.cps.toList < a.cps.toList) := by
  unfold leS; rw [ltCps_eq]; simp
theorem leS_trans {a b c : Str} (h : leS a b) (k : leS b c) : leS a c := by
  rw [leS_iff] at *
  rw [List.not_lt] at *
  exact List.le_trans h k
theorem leS_asymm {a b : Str} (h : leS a b) (k : leS b a) : a = b := by
  rw [leS_iff] at *
  rw [List.not_lt] at *
  exact Str.ext' (Array.toList_inj.mp (List.le_antisymm h k))
theorem rising_pw : ∀ {p : Str} {l : List Str}, risingS p l = true → (p :: l).Pairwise leS
  | p, [], _ => by simp
  | p, x :: r, h => by
    unfold risingS at h
    rw [Bool.and_eq_true] at h
    have h1 : leS p x := by simpa using h.1
    have h2 := rising_pw h.2
    refine List.pairwise_cons.mpr ⟨fun y hy => ?_, h2⟩
    rcases List.mem_cons.mp hy with rfl | hy
    · exact h1
    · exact leS_trans h1 ((List.pairwise_cons.mp h2).1 y hy)
theorem sorted_pw : ∀ {l : List Str}, sortedS l = true → l.Pairwise leS
  | [], _ => by simp
  | x :: r, h => rising_pw h
theorem pw_unique {α : Type} {le : α → α → Prop} (as : ∀ a b, le a b → le b a → a = b) : ∀ {l l' : List α}, l.Pairwise le → l'.Pairwise le → l.Perm l' → l = l'
  | [], l', _, _, p => (List.nil_perm.mp p).symm
  | a :: l, [], _, _, p => by have := p.length_eq; simp at this
  | a :: l, b :: l', h, h', p => by
    have e : a = b := by
      have ha : a ∈ b :: l' := p.subset (List.mem_cons_self ..)
      have hb : b ∈ a :: l := p.symm.subset (List.mem_cons_self ..)
      rcases List.mem_cons.mp ha with e | ha
      · exact e
      · rcases List.mem_cons.mp hb with e | hb
        · exact e.symm
        · exact as _ _ ((List.pairwise_cons.mp h).1 b hb) ((List.pairwise_cons.mp h').1 a ha)
    subst e
    rw [pw_unique as (List.pairwise_cons.mp h).2 (List.pairwise_cons.mp h').2 ((List.perm_cons a).mp p)]
theorem sortedS_unique {l l' : List Str} (h : sortedS l = true) (h' : sortedS l' = true) (p : l.Perm l') : l = l' := pw_unique (fun _ _ => leS_asymm) (sorted_pw h) (sorted_pw h') p
end My
namespace My
open PySem PySem.Spec L2 Nu
open PyProof.Rows hiding St
noncomputable def the {α : Type} [Inhabited α] (p : α → Prop) : α := by
  classical exact if h : ∃ a, p a then Classical.choose h else default
theorem the_eq {α : Type} [Inhabited α] {p : α → Prop} (one : ∀ a b, p a → p b → a = b) {a : α} (h : p a) : the p = a := by
  classical
  unfold the
  rw [dif_pos ⟨a, h⟩]
  exact one _ _ (Classical.choose_spec (⟨a, h⟩ : ∃ a, p a)) h
abbrev rws (R : List Row) : List Rw := R.map (·.2)
noncomputable def fmT (w : Nat) (room : List Int) (R : List Rw) (b e : Int) (l : List Int) : Option Int := the (FM w room R b e l)
theorem fmT_eq {w : Nat} {room : List Int} {R : List Rw} {b e : Int} {l : List Int} {o : Option Int} (h : FM w room R b e l o) : fmT w room R b e l = o := the_eq (fun _ _ => FM.one) h
noncomputable def srtT (ks : List Str) : List Str := the fun ys => ys.Perm ks ∧ sortedS ys = true
theorem srtT_eq {ks ys : List Str} (p : ys.Perm ks) (h : sortedS ys = true) : srtT ks = ys :=
  the_eq (fun (_ _ : List Str) a b => sortedS_unique a.2 b.2 (List.Perm.trans a.1 (List.Perm.symm b.1))) (And.intro p h)
abbrev keysR (R : List Row) : List Str := R.map (·.1)
def rowOf (R : List Row) (k : Str) : Option Rw := (R.find? fun r => decide (r.1 = k)).map (·.2)
def putR (R : List Row) (k : Str) (r : Rw) : List Row := if R.any (fun x => decide (x.1 = k)) = true then R.map (fun x => if x.1 = k then (x.1, r) else x) else R ++ [(k, r)]
def delR (R : List Row) (k : Str) : List Row := R.filter fun x => !decide (x.1 = k)
theorem any_mem (R : List Row) (k : Str) : R.any (fun x => decide (x.1 = k)) = true ↔ k ∈ keysR R := by
  rw [List.any_eq_true, List.mem_map]
  constructor
  · rintro ⟨x, hx, e⟩; exact ⟨x, hx, by simpa using e⟩
  · rintro ⟨x, hx, e⟩; exact ⟨x, hx, by simpa using e⟩
theorem rowOf_none {R : List Row} {k : Str} : rowOf R k = none ↔ k ∉ keysR R := by
  unfold rowOf
  rw [Option.map_eq_none_iff, List.find?_eq_none, List.mem_map]
  constructor
  · rintro h ⟨x, hx, e⟩; exact h x hx (by simpa using e)
  · intro h x hx e; exact h ⟨x, hx, by simpa using e⟩
theorem rowOf_some {R : List Row} {k : Str} {r : Rw} (h : rowOf R k = some r) : (k, r) ∈ R := by
  unfold rowOf at h
  obtain ⟨x, hx, e⟩ := Option.map_eq_some_iff.mp h
  have h1 := List.find?_some hx
  have h2 := List.mem_of_find?_eq_some hx
  have : x.1 = k := by simpa using h1
  rw [← e, ← this]; exact h2
theorem rowOf_mem {R : List Row} {k : Str} (h : k ∈ keysR R) : ∃ r, rowOf R k = some r := by
  cases e : rowOf R k with
  | none => exact absurd h (rowOf_none.mp e)
  | some r => exact ⟨r, rfl⟩
inductive Deed where
  | put (k : Str) (b e : Int) (l : List Int)
  | cut (k : Str) (t : Int)
  | stretch (k : Str) (t : Int)
  | drop (k : Str)
  | past (t : Int)
def Deed.word : Deed → Str
  | .put .. => "put" | .cut .. => "cut" | .stretch .. => "stretch" | .drop .. => "drop" | .past .. => "past"
inductive Out where
  | told | gone (g : List Str) | taken | nokey | more (t : Int)
noncomputable def goneT (R : List Row) (t : Int) : List Str := srtT ((R.filter fun r => decide (r.2.2.1 ≤ t)).map (·.1))
noncomputable def stepR (w : Nat) (room : List Int) (R : List Row) : Deed → Out × List Row
  | .put k b e l => if k ∈ keysR R then (.taken, R) else match fmT w room (rws R) b e l with
    | some t => (.more t, R)
    | none => (.told, putR R k (b, e, l))
  | .cut k t => match rowOf R k with
    | none => (.nokey, R)
    | some (b, e, l) => if t ≤ b then (.told, delR R k) else (.told, putR R k (b, if t < e then t else e, l))
  | .stretch k t => match rowOf R k with
    | none => (.nokey, R)
    | some (b, e, l) => if e < t then match fmT w room (rws R) e t l with
      | some u => (.more u, R)
      | none => (.told, putR R k (b, t, l)) else (.told, R)
  | .drop k => match rowOf R k with
    | none => (.nokey, R)
    | some _ => (.told, delR R k)
  | .past t => (.gone (goneT R t), (goneT R t).foldl delR R)
def fitD (w : Nat) : Deed → Prop
  | .put k b e l => b < e ∧ l.length = w ∧ (∀ x ∈ l, 0 ≤ x) ∧ PyData.strOk k = true
  | _ => True
theorem del_ok {w : Nat} {R : List Row} {k : Str} (h : RowsOk w R) : RowsOk w (delR R k) :=
  ⟨h.nd.sublist (List.filter_sublist.map _), fun r hr => h.len r (List.mem_filter.mp hr).1, fun r hr => h.pos r (List.mem_filter.mp hr).1, fun r hr => h.key r (List.mem_filter.mp hr).1⟩
theorem put_keys (R : List Row) (k : Str) (r : Rw) : keysR (putR R k r) = if k ∈ keysR R then keysR R else keysR R ++ [k] := by
  unfold putR
  by_cases e : k ∈ keysR R
  · rw [if_pos e, if_pos ((any_mem R k).mpr e)]
    show List.map _ (List.map _ R) = _
    rw [List.map_map]
    refine List.map_congr_left fun x _ => ?_
    show (if x.1 = k then (x.1, r) else x).1 = x.1
    split <;> rfl
  · rw [if_neg e, if_neg (fun h => e ((any_mem R k).mp h))]
    show List.map _ (R ++ [(k, r)]) = _
    rw [List.map_append]; rfl
theorem put_mem {R : List Row} {k : Str} {r : Rw} {x : Row} (h : x ∈ putR R k r) : x ∈ R ∨ x = (k, r) := by
  unfold putR at h
  split at h
  · obtain ⟨y, hy, e⟩ := List.mem_map.mp h
    split at e
    · next c => rw [c] at e; exact .inr e.symm
    · rw [← e]; exact .inl hy
  · rcases List.mem_append.mp h with h | h
    · exact .inl h
    · exact .inr (List.mem_singleton.mp h)
theorem put_ok {w : Nat} {R : List Row} {k : Str} {r : Rw} (h : RowsOk w R) (h1 : r.2.2.length = w) (h2 : ∀ x ∈ r.2.2, 0 ≤ x) (h3 : PyData.strOk k = true) : RowsOk w (putR R k r) := by
  refine ⟨?_, fun x hx => ?_, fun x hx => ?_, fun x hx => ?_⟩
  · show (keysR (putR R k r)).Nodup
    rw [put_keys]
    split
    · exact h.nd
    · next c => exact List.nodup_append.mpr ⟨h.nd, by simp, fun a ha b hb => by rw [List.mem_singleton.mp hb]; rintro rfl; exact c ha⟩
  · rcases put_mem hx with hx | rfl
    · exact h.len x hx
    · exact h1
  · rcases put_mem hx with hx | rfl
    · exact h.pos x hx
    · exact h2
  · rcases put_mem hx with hx | rfl
    · exact h.key x hx
    · exact h3
theorem dels_ok {w : Nat} : ∀ (g : List Str) {R : List Row}, RowsOk w R → RowsOk w (g.foldl delR R)
  | [], _, h => h
  | _ :: g, _, h => dels_ok g (del_ok h)
theorem del_keys {R : List Row} {k x : Str} (h : x ∈ keysR (delR R k)) : x ∈ keysR R := by
  obtain ⟨y, hy, e⟩ := List.mem_map.mp h
  exact List.mem_map.mpr ⟨y, (List.mem_filter.mp hy).1, e⟩
theorem del_len (R : List Row) (k : Str) : (delR R k).length ≤ R.length := List.length_filter_le ..
theorem dels_keys : ∀ (g : List Str) {R : List Row} {x : Str}, x ∈ keysR (g.foldl delR R) → x ∈ keysR R
  | [], _, _, h => h
  | _ :: g, _, _, h => del_keys (dels_keys g h)
theorem dels_len : ∀ (g : List Str) (R : List Row), (g.foldl delR R).length ≤ R.length
  | [], _ => Nat.le_refl _
  | k :: g, R => Nat.le_trans (dels_len g (delR R k)) (del_len R k)
theorem put_len (R : List Row) (k : Str) (r : Rw) : (putR R k r).length ≤ R.length + 1 := by
  have := congrArg List.length (put_keys R k r)
  rw [List.length_map] at this
  rw [this]
  split
  · rw [List.length_map]; omega
  · rw [List.length_append, List.length_map]; simp
theorem put_there {R : List Row} {k : Str} {r x : Rw} (h : rowOf R k = some x) : keysR (putR R k r) = keysR R := by
  rw [put_keys, if_pos (List.mem_map.mpr ⟨_, rowOf_some h, rfl⟩)]
/-- the rows stay sound, and a put alone makes a new key -/
theorem step_ok {w : Nat} {room : List Int} {R : List Row} {d : Deed} (h : RowsOk w R) (hd : fitD w d) : RowsOk w (stepR w room R d).2 := by
  cases d with
  | put k b e l =>
    simp only [stepR]
    split
    · exact h
    · split
      · exact h
      · exact put_ok h hd.2.1 hd.2.2.1 hd.2.2.2
  | cut k t =>
    simp only [stepR]
    split
    · exact h
    · next b e l e1 =>
      have hm := rowOf_some e1
      split
      · exact del_ok h
      · exact put_ok h (h.len _ hm) (h.pos _ hm) (h.key _ hm)
  | stretch k t =>
    simp only [stepR]
    split
    · exact h
    · next b e l e1 =>
      have hm := rowOf_some e1
      split
      · split
        · exact h
        · exact put_ok h (h.len _ hm) (h.pos _ hm) (h.key _ hm)
      · exact h
  | drop k =>
    simp only [stepR]
    split
    · exact h
    · exact del_ok h
  | past t => exact dels_ok _ h
theorem step_keys {w : Nat} {room : List Int} {R : List Row} {d : Deed} {x : Str} (h : x ∈ keysR (stepR w room R d).2) : x ∈ keysR R ∨ ∃ b e l, d = .put x b e l := by
  cases d with
  | put k b e l =>
    simp only [stepR] at h
    split at h
    · exact .inl h
    · split at h
      · exact .inl h
      · rw [put_keys] at h
        split at h
        · exact .inl h
        · rcases List.mem_append.mp h with h | h
          · exact .inl h
          · rw [List.mem_singleton.mp h]; exact .inr ⟨b, e, l, rfl⟩
  | cut k t =>
    simp only [stepR] at h
    split at h
    · exact .inl h
    · next b e l e1 =>
      split at h
      · exact .inl (del_keys h)
      · rw [put_there e1] at h; exact .inl h
  | stretch k t =>
    simp only [stepR] at h
    split at h
    · exact .inl h
    · next b e l e1 =>
      split at h
      · split at h
        · exact .inl h
        · rw [put_there e1] at h; exact .inl h
      · exact .inl h
  | drop k =>
    simp only [stepR] at h
    split at h
    · exact .inl h
    · exact .inl (del_keys h)
  | past t => exact .inl (dels_keys _ h)
theorem step_len {w : Nat} {room : List Int} {R : List Row} {d : Deed} : (stepR w room R d).2.length ≤ R.length + 1 := by
  cases d with
  | put k b e l =>
    simp only [stepR]
    split
    · simp
    · split
      · simp
      · exact put_len ..
  | cut k t =>
    simp only [stepR]
    split
    · simp
    · split
      · exact Nat.le_succ_of_le (del_len ..)
      · exact put_len ..
  | stretch k t =>
    simp only [stepR]
    split
    · simp
    · split
      · split
        · simp
        · exact put_len ..
      · simp
  | drop k =>
    simp only [stepR]
    split
    · simp
    · exact Nat.le_succ_of_le (del_len ..)
  | past t => exact Nat.le_succ_of_le (dels_len ..)
theorem srt_ex (ks : List Str) : ∃ ys : List Str, ys.Perm ks ∧ sortedS ys = true := by
  refine ⟨ks.mergeSort fun a b => !ltCps b.cps.toList a.cps.toList, List.mergeSort_perm .., sortedS_of_pairwise _ ?_⟩
  refine (List.pairwise_mergeSort (le := fun a b : Str => !ltCps b.cps.toList a.cps.toList) (fun a b c h k => ?_) (fun a b => ?_) ks).imp fun h => by simpa using h
  · have h1 : leS a b := by simpa using h
    have h2 : leS b c := by simpa using k
    simpa using leS_trans h1 h2
  · rw [Bool.or_eq_true, ltCps_eq, ltCps_eq]
    simp only [Bool.not_eq_true', decide_eq_false_iff_not]
    rcases Decidable.em (b.cps.toList < a.cps.toList) with c | c
    · right
      rw [List.not_lt]; exact List.le_of_lt c
    · exact .inl c
theorem srtT_perm (ks : List Str) : (srtT ks).Perm ks := by
  obtain ⟨ys, h1, h2⟩ := srt_ex ks
  rw [srtT_eq h1 h2]; exact h1
theorem BookM.self {m : MS} {b s : Addr} {room : List Int} {R : List Row} (h : BookM m b s room R) : mset m s (.dct (rowsK R)) = m := mset_self h.hs
theorem LawM.self {m : MS} {p q : Addr} {room : List Int} {top wide : Int} {R : List Row} (h : LawM m p q room top wide R) : mset m q (.dct (rowsK R)) = m := mset_self h.hq
/-- the name of a number -/
def nmS (n : Int) : Str :=
  (⟨#[("abcdefghijklmnopqrstuvwxyz" : Str).cps.toList.getD (n % 26).toNat 0]⟩ : Str) ++ ([("" : Str), "q", "wz", "longest"].getD (n / 26 % 4).toNat "")
end My
namespace My
open PySem PySem.Spec L2 Nu
open PyProof.Rows hiding St
def bx3 (a c z : Int) : Cell := .lst [.int a, .int c, .int z]
def B3c (n : Int) (B : Cell) : Prop := ∃ a c z, B = bx3 a c z ∧ 0 ≤ a ∧ 0 ≤ c ∧ c < 2147483629 ∧ 0 ≤ z ∧ z ≤ n
def B3 (m : MS) (x : Addr) (n : Int) : Prop := ∃ B, m x = some B ∧ B3c n B
def aft3 (x : Addr) (m : MS) (n : Int) (R : MS → Prop) : Prop := ∀ B, B3c n B → R (mset m x B)
theorem B3c.mono {n k : Int} {B : Cell} (h : B3c n B) (l : n ≤ k) : B3c k B := by
  obtain ⟨a, c, z, e, h0, h1, h2, h3, h4⟩ := h
  exact ⟨a, c, z, e, h0, h1, h2, h3, by omega⟩
theorem B3c.put {m : MS} {x : Addr} {n : Int} {B : Cell} (h : B3c n B) : B3 (mset m x B) x n := ⟨B, mset_same, h⟩
theorem B3.mono {m : MS} {x : Addr} {n k : Int} (h : B3 m x n) (l : n ≤ k) : B3 m x k := let ⟨B, e, h⟩ := h; ⟨B, e, h.mono l⟩
theorem aft3.two {x : Addr} {m : MS} {n k : Int} {R : MS → Prop} {B : Cell} (h : aft3 x m k R) (l : n ≤ k) : aft3 x (mset m x B) n R := fun B' hB => by
  rw [mset_mset]; exact h B' (hB.mono l)
theorem B3.dct {m : MS} {x p : Addr} {n : Int} {c : Cell} {k : List (Key × D)} (h : B3 m x n) (e : m p = some (.dct k)) : mset m x c p = some (.dct k) := by
  obtain ⟨B, e2, a, b, z, rfl, _⟩ := h
  rw [mset_ne (ne_cell e e2 (by unfold bx3; simp))]; exact e
theorem B3.ins {m : MS} {x p : Addr} {n : Int} {c : Cell} {k : Cls} {xs : List D} (h : B3 m x n) (e : m p = some (.ins k xs)) : mset m x c p = some (.ins k xs) := by
  obtain ⟨B, e2, a, b, z, rfl, _⟩ := h
  rw [mset_ne (ne_cell e e2 (by unfold bx3; simp))]; exact e
theorem B3.new {m : MS} {x e : Addr} {n : Int} {c : Cell} (h : B3 m x n) (he : m e = none) : B3 (mset m e c) x n := by
  obtain ⟨B, hx, h0⟩ := h
  exact ⟨B, by rw [mset_ne (by rintro rfl; rw [hx] at he; cases he)]; exact hx, h0⟩
theorem B3.ne {m : MS} {x e : Addr} {n : Int} {c : Cell} (h : B3 m x n) (hn : x ≠ e) : B3 (mset m e c) x n := by
  obtain ⟨B, hx, h0⟩ := h
  exact ⟨B, by rw [mset_ne hn]; exact hx, h0⟩
theorem at3_in {α : Type} {xs : List α} {v : Int} (h0 : 0 ≤ v) (h1 : v < xs.length) : ∃ d, atI xs v = some d ∧ d ∈ xs := by
  have h : v.toNat < xs.length := by omega
  exact ⟨xs[v.toNat], atI_get h0 (List.getElem?_eq_getElem h), List.getElem_mem h⟩
theorem cmR {i j : Int} (h : -(2 ^ 64) < j ∧ j < 2 ^ 64) : CMul i j := .inr h
theorem cmL {i j : Int} (h : -(2 ^ 64) < i ∧ i < 2 ^ 64) : CMul i j := .inl h
end My
namespace My
open PySem PySem.Spec L2 Nu
open PyProof.Rows hiding St
def a__law_box_f64f : ASp := fun ss m P _ => ∃ (ns : List Int) (k : Nat), ss = [.fls (ns.map .int), .int k] ∧ k ≤ 1000 ∧ ∀ p, m p = none → ∀ B, B3c 0 B → P (.raw (.ref p)) (mset m p B)
theorem len__law_box_f64f : ∀ ss m P Z, a__law_box_f64f ss m P Z → ss.length = 2 := by
  rintro _ m P Z ⟨ns, k, rfl, _⟩; rfl
abbrev n__law_box_f64f : List Str := ["_law_script", "_law_k", "_law_cell", "_law_digits"]
theorem nd__law_box_f64f : (n__law_box_f64f).Nodup := by decide +kernel
def u__law_box_f64f : SS :=
  (.cons (.set 2 (.ite (.bop (sCmp .lt) (.cons (.var 1) (.cons (.bop sLen (.cons (.var 0) .nil)) .nil))) (.bop sIx (.cons (.var 0) (.cons (.var 1) .nil))) (.cst (.int 0))))
  (.cons (.set 3 (.ite (.bop (sCmp .ge) (.cons (.bop sAbs (.cons (.var 2) .nil)) (.cons (.cst (.int 1000000000000000000)) .nil))) (.bop sAbs (.cons (.var 2) .nil)) (.cst (.int 0))))
  (.cons (.ret (.bop sLst (.cons (.var 3) (.cons (.bop sMod (.cons (.bop sMul (.cons (.bop sAdd (.cons (.bop sAdd (.cons (.bop sMod (.cons (.var 2) (.cons (.cst (.int 2147483647)) .nil))) (.cons (.bop sMul (.cons (.cst (.int 7919)) (.cons (.var 1) .nil))) .nil))) (.cons (.cst (.int 11)) .nil))) (.cons (.cst (.int 48271)) .nil))) (.cons (.cst (.int 2147483629)) .nil))) (.cons (.cst (.int 0)) .nil)))))
  .nil)))
theorem body__law_box_f64f : ∀ (ss : List D) (m : MS) (P : NX) (Z : EZ), a__law_box_f64f ss m P Z → WB u__law_box_f64f (startR n__law_box_f64f ss) m (bodyE P Z) := by
  rintro _ m P Z ⟨ns, k, rfl, hk, q⟩
  (conv => whnf)
  refine ⟨_, rfl, .inl ⟨.int (ns.getD k 0), fun h => ?_, fun h => ?_, ?_⟩⟩
  · have hk : k < ns.length := by
      have := of_decide_eq_true h
      rw [List.length_map] at this
      omega
    (conv => whnf)
    refine ⟨_, atI_get (by omega) ?_, rfl, rfl⟩
    rw [Int.toNat_natCast, List.getElem?_map, List.getElem?_eq_getElem hk, List.getD_eq_getElem?_getD, List.getElem?_eq_getElem hk]; rfl
  · have hk : ¬ k < ns.length := by
      have := of_decide_eq_false h
      rw [List.length_map] at this
      omega
    (conv => whnf)
    refine ⟨?_, rfl⟩
    rw [List.getD_eq_getElem?_getD, List.getElem?_eq_none (by omega)]; rfl
  generalize ns.getD k 0 = cell
  (conv => whnf)
  obtain ⟨ab, eab, habs⟩ : ∃ ab, (if cell < 0 then -cell else cell) = ab ∧ 0 ≤ ab := ⟨_, rfl, by split <;> omega⟩
  rw [eab]
  refine ⟨_, rfl, .inl ⟨.int (if ab ≥ 1000000000000000000 then ab else 0), fun h => ?_, fun h => ?_, ?_⟩⟩
  · have := of_decide_eq_true h
    rw [if_pos this]
    (conv => whnf)
    rw [eab]
    exact ⟨rfl, rfl⟩
  · have := of_decide_eq_false h
    rw [if_neg this]
    (conv => whnf)
    exact ⟨rfl, rfl⟩
  have hd : 0 ≤ (if ab ≥ 1000000000000000000 then ab else 0) := by split <;> omega
  generalize (if ab ≥ 1000000000000000000 then ab else 0) = dg at hd
  (conv => whnf)
  refine ⟨by decide, cmL (by decide), ?_⟩
  (conv => whnf)
  refine ⟨cmR (by decide), ?_⟩
  (conv => whnf)
  refine ⟨by decide, .inr fun p hp => ?_⟩
  have e1 := emod_bd ((cell % 2147483647 + 7919 * k + 11) * 48271) (b := 2147483629) (by decide)
  exact ret (q p hp _ ⟨_, _, _, rfl, hd, e1.1, e1.2, by decide, by decide⟩)
end My
namespace My
open PySem PySem.Spec L2 Nu
open PyProof.Rows hiding St
theorem box_under {m : MS} {x p : Addr} {B B' c : Cell} (h : p ≠ x) : mset (mset (mset m x B) p c) x B' = mset (mset m x B') p c := by
  rw [mset_comm h, mset_mset]
theorem aft3.under {x p : Addr} {m : MS} {n : Int} {R : MS → Prop} {B c : Cell} (ne : p ≠ x) (h : ∀ B', B3c n B' → R (mset (mset m x B') p c)) : aft3 x (mset (mset m x B) p c) n R := fun B' hB => by
  rw [box_under ne]; exact h B' hB
theorem rng_i {n : Nat} {j : Nat} {d : D} (h : (rngD 0 n)[j]? = some d) : d = .int (0 + (j : Nat)) ∧ j < n := by
  have hl := (List.getElem?_eq_some_iff.mp h).1
  rw [rngD_len] at hl
  unfold rngD at h
  rw [List.getElem?_map, List.getElem?_range hl] at h
  exact ⟨(Option.some.inj h).symm, hl⟩
end My
namespace My
open PySem PySem.Spec L2 Nu
open PyProof.Rows hiding St
def a__law_cells : ASp := fun ss m P _ => ∃ (ns : List Int), ss = [.fls (ns.map .int)] ∧ (ns.length ≤ 1000) ∧ ∀ (ps : List Addr) m', ps.Nodup → ps.length ≤ 63 → (∀ p ∈ ps, B3 m' p 0 ∧ m p = none) → MLe m m' → P (.lst (ps.map fun p => .raw (.ref p))) m'
theorem len__law_cells : ∀ ss m P Z, a__law_cells ss m P Z → ss.length = 1 := by
  rintro _ m P Z ⟨ns, rfl, _⟩; rfl
abbrev n__law_cells : List Str := ["_law_script", "_law_k"]
theorem nd__law_cells : (n__law_cells).Nodup := by decide +kernel
def u__law_cells : SS :=
  (.cons (.ret (.lc (.name 1) isRng (.cons (.bop sMax2 (.cons (.cst (.int 1)) (.cons (.bop sMin2 (.cons (.bop sLen (.cons (.var 0) .nil)) (.cons (.cst (.int 63)) .nil))) .nil))) .nil) .nil (.call a__law_box_f64f (.cons (.var 0) (.cons (.var 1) .nil)))))
  .nil)
theorem body__law_cells : ∀ (ss : List D) (m : MS) (P : NX) (Z : EZ), a__law_cells ss m P Z → WB u__law_cells (startR n__law_cells ss) m (bodyE P Z) := by
  rintro _ m P Z ⟨ns, rfl, hn, q⟩
  (conv => whnf)
  obtain ⟨r, er, hr⟩ : ∃ r : Nat, (if (if (63 : Int) < ((ns.map D.int).length : Int) then 63 else ((ns.map D.int).length : Int)) > 1 then (if (63 : Int) < ((ns.map D.int).length : Int) then 63 else ((ns.map D.int).length : Int)) else 1) = (r : Int) ∧ r ≤ 63 := by
    generalize ((ns.map D.int).length : Int) = z
    refine ⟨(if (if (63 : Int) < z then 63 else z) > 1 then (if (63 : Int) < z then 63 else z) else 1).toNat, ?_, ?_⟩ <;> split <;> (try split) <;> omega
  rw [er]
  refine ⟨⟨by omega, by omega⟩, ?_⟩
  rw [Int.toNat_natCast]
  refine ⟨by rw [rngD_len]; omega, fun i acc m' => ∃ ps : List Addr, acc = ps.map (fun p => D.raw (.ref p)) ∧ ps.length = i ∧ ps.Nodup ∧ (∀ z ∈ ps, B3 m' z 0 ∧ m z = none) ∧ MLe m m', ⟨[], rfl, rfl, by simp, (fun z hz => by cases hz), MLe.refl _⟩, fun _ _ _ _ _ => trivial, ?_, ?_⟩
  · rintro i d acc m' hd ⟨ps, rfl, hpl, hnd, hps, up⟩
    obtain ⟨rfl, hi⟩ := rng_i hd
    (conv => whnf)
    refine ⟨fun _ => ?_, fun c => (by cases c)⟩
    (conv => whnf)
    refine ⟨ns, i, by rw [Int.zero_add], by omega, fun z hz B hB => ?_⟩
    have hz0 : m z = none := by
      cases e : m z with
      | none => rfl
      | some c => rw [up _ _ e] at hz; cases hz
    refine ⟨ps ++ [z], by rw [List.map_append]; rfl, by simp [hpl], ?_, fun y hy => ?_, up.trans ((MLe.refl _).fresh hz)⟩
    · rw [List.nodup_append]
      exact ⟨hnd, by simp, fun a ha b hb e => by
        rw [List.mem_singleton.mp hb] at e
        subst e
        obtain ⟨⟨C, hC, _⟩, _⟩ := hps _ ha
        rw [hz] at hC; cases hC⟩
    · rcases List.mem_append.mp hy with hy | hy
      · exact ⟨(hps y hy).1.new hz, (hps y hy).2⟩
      · rw [List.mem_singleton.mp hy]; exact ⟨hB.put, hz0⟩
  rintro acc m' ⟨ps, rfl, hpl, hnd, hps, up⟩
  rw [rngD_len] at hpl
  exact .inl (ret (q ps m' hnd (by omega) hps up))
end My
namespace My
open PySem PySem.Spec L2 Nu
open PyProof.Rows hiding St
def a__law_take_9ad5 : ASp := fun ss m P _ => ∃ (x : Addr) (n k : Int), ss = [.raw (.ref x), .int n] ∧ B3 m x k ∧ (k ≤ 2 ^ 40 ∧ 0 < n ∧ n < 2 ^ 200) ∧ ∀ v, 0 ≤ v → v < n → aft3 x m (k + 1) (P (.int v))
theorem len__law_take_9ad5 : ∀ ss m P Z, a__law_take_9ad5 ss m P Z → ss.length = 2 := by
  rintro _ m P Z ⟨x, n, k, rfl, _⟩; rfl
abbrev n__law_take_9ad5 : List Str := ["_law_box_here", "_law_many", "_law_found", "_law_once"]
theorem nd__law_take_9ad5 : (n__law_take_9ad5).Nodup := by decide +kernel
def u__law_take_9ad5 : SS :=
  (.cons (.iff (.bop (sCmp .gt) (.cons (.bop sIx (.cons (.var 0) (.cons (.cst (.int 0)) .nil))) (.cons (.cst (.int 0)) .nil))) (.cons (.set 2 (.bop sMod (.cons (.bop sIx (.cons (.var 0) (.cons (.cst (.int 0)) .nil))) (.cons (.var 1) .nil))))
  (.cons (.iset (.var 0) (.cst (.int 0)) (.bop sFdv (.cons (.bop sIx (.cons (.var 0) (.cons (.cst (.int 0)) .nil))) (.cons (.var 1) .nil))))
  (.cons (.ret (.var 2))
  .nil))) .nil)
  (.cons (.iset (.var 0) (.cst (.int 2)) (.bop sAdd (.cons (.bop sIx (.cons (.var 0) (.cons (.cst (.int 2)) .nil))) (.cons (.cst (.int 1)) .nil))))
  (.cons (.set 3 (.bop sMod (.cons (.bop sMul (.cons (.bop sAdd (.cons (.bop sIx (.cons (.var 0) (.cons (.cst (.int 1)) .nil))) (.cons (.bop sMul (.cons (.cst (.int 39373)) (.cons (.bop sIx (.cons (.var 0) (.cons (.cst (.int 2)) .nil))) .nil))) .nil))) (.cons (.bop sAdd (.cons (.cst (.int 48271)) (.cons (.bop sIx (.cons (.var 0) (.cons (.cst (.int 2)) .nil))) .nil))) .nil))) (.cons (.cst (.int 2147483647)) .nil))))
  (.cons (.iset (.var 0) (.cst (.int 1)) (.bop sMod (.cons (.bop sAdd (.cons (.bop sMul (.cons (.var 3) (.cons (.bop sAdd (.cons (.bop sMod (.cons (.var 3) (.cons (.cst (.int 40009)) .nil))) (.cons (.cst (.int 7)) .nil))) .nil))) (.cons (.bop sIx (.cons (.var 0) (.cons (.cst (.int 2)) .nil))) .nil))) (.cons (.cst (.int 2147483629)) .nil))))
  (.cons (.ret (.bop sMod (.cons (.bop sFdv (.cons (.bop sMod (.cons (.bop sMul (.cons (.bop sIx (.cons (.var 0) (.cons (.cst (.int 1)) .nil))) (.cons (.bop sAdd (.cons (.bop sMod (.cons (.bop sIx (.cons (.var 0) (.cons (.cst (.int 1)) .nil))) (.cons (.cst (.int 1009)) .nil))) (.cons (.cst (.int 3)) .nil))) .nil))) (.cons (.cst (.int 998244353)) .nil))) (.cons (.cst (.int 7)) .nil))) (.cons (.var 1) .nil))))
  .nil)))))
theorem body__law_take_9ad5 : ∀ (ss : List D) (m : MS) (P : NX) (Z : EZ), a__law_take_9ad5 ss m P Z → WB u__law_take_9ad5 (startR n__law_take_9ad5 ss) m (bodyE P Z) := by
  rintro _ m P Z ⟨x, n, k, rfl, ⟨_, hx, a, c, z, rfl, ha, hc, hc', hz, hz'⟩, ⟨hk, h0, h1⟩, q⟩
  (conv => whnf)
  refine ⟨_, hx, _, rfl, ?_⟩
  (conv => whnf)
  refine ⟨_, rfl, fun hk => ?_, fun hk => ?_⟩
  · (conv => whnf)
    refine ⟨_, hx, _, rfl, ?_⟩
    (conv => whnf)
    refine ⟨h0, ?_⟩
    (conv => whnf)
    refine ⟨_, hx, _, rfl, ?_⟩
    (conv => whnf)
    refine ⟨⟨h0, h1⟩, ?_⟩
    (conv => whnf)
    refine ⟨_, hx, _, rfl, ?_⟩
    (conv => whnf)
    exact ret (q _ (emod_bd a h0).1 (emod_bd a h0).2 _ ⟨_, _, _, rfl, Int.ediv_nonneg ha (by omega), hc, hc', hz, by omega⟩)
  · (conv => whnf)
    refine ⟨_, hx, _, rfl, ?_⟩
    (conv => whnf)
    refine ⟨_, hx, _, rfl, ?_⟩
    (conv => whnf)
    refine ⟨_, mset_same, _, rfl, ?_⟩
    (conv => whnf)
    refine ⟨_, mset_same, _, rfl, ?_⟩
    (conv => whnf)
    refine ⟨cmL (by decide), ?_⟩
    (conv => whnf)
    refine ⟨_, mset_same, _, rfl, ?_⟩
    (conv => whnf)
    refine ⟨cmR (by omega), by decide, ?_⟩
    generalize (c + 39373 * (z + 1)) * (48271 + (z + 1)) % 2147483647 = o
    have e3 := emod_bd o (b := 40009) (by decide)
    (conv => whnf)
    refine ⟨by decide, ?_⟩
    (conv => whnf)
    refine ⟨cmR (by omega), ?_⟩
    (conv => whnf)
    refine ⟨_, mset_same, _, rfl, ?_⟩
    (conv => whnf)
    refine ⟨by decide, ?_⟩
    (conv => whnf)
    refine ⟨_, mset_same, _, rfl, ?_⟩
    have e1 := emod_bd (o * (o % 40009 + 7) + (z + 1)) (b := 2147483629) (by decide)
    generalize (o * (o % 40009 + 7) + (z + 1)) % 2147483629 = c2 at e1 ⊢
    (conv => whnf)
    refine ⟨_, mset_same, _, rfl, ?_⟩
    (conv => whnf)
    refine ⟨_, mset_same, _, rfl, ?_⟩
    (conv => whnf)
    refine ⟨by decide, ?_⟩
    have e2 := emod_bd c2 (b := 1009) (by decide)
    (conv => whnf)
    refine ⟨cmR (by omega), by decide, by decide, h0, ?_⟩
    rw [mset_mset]
    exact ret (q _ (emod_bd _ h0).1 (emod_bd _ h0).2 _ ⟨_, _, _, rfl, ha, e1.1, e1.2, by omega, by omega⟩)
end My
namespace My
open PySem PySem.Spec L2 Nu
open PyProof.Rows hiding St
section
variable {α : Type} {key : α → Str} {L L' : List α}
end
end My
namespace My
open PySem PySem.Spec L2 Nu
open PyProof.Rows hiding St
inductive How where
  | any | apart | near | wide
def How.s : How → Str
  | .any => "any" | .apart => "apart" | .near => "near" | .wide => "wide"
def How.most (h : How) (many : Int) : Int := match h with
  | .any => many | .near => many | .apart => 1 | .wide => 1
abbrev Pr := Str × Int
def prD (p : Pr) : D := .tup [.str p.1, .int p.2]
def prsD (p : List Pr) : D := .tup (p.map prD)
end My
namespace My
open PySem PySem.Spec L2 Nu
open PyProof.Rows hiding St
theorem LP.ex {w : Nat} {room : List Int} {R : List Rw} : ∀ (T U l : List Int), LP w room R U l → ∃ l', LP w room R (U ++ T) l'
  | [], U, l, h => ⟨l, by rw [List.append_nil]; exact h⟩
  | t :: T, U, l, h => by
    have h1 : LP w room R (U ++ [t]) ((List.range w).map fun i => minI (l.getD i 0) (room.getD i 0 - loadI R t i)) := by
      refine h.step (by simp) fun i hi => ?_
      rw [List.getD_eq_getElem?_getD, List.getElem?_map, List.getElem?_eq_getElem (by simpa using hi)]
      simp
    obtain ⟨l', h2⟩ := LP.ex T (U ++ [t]) _ h1
    exact ⟨l', by rw [List.append_assoc] at h2; exact h2⟩
end My
namespace My
open PySem PySem.Spec L2 Nu
open PyProof.Rows hiding St
def kvs {α : Type} (key : α → Str) (g : α → D) (L : List α) : List (Key × D) := L.map fun a => (.inr (key a), g a)
section
variable {α : Type} {key : α → Str} {g : α → D} {L : List α}
end
end My
namespace My
open PySem PySem.Spec L2 Nu
open PyProof.Rows hiding St
structure PrsOk (l : List Pr) : Prop where
  nd : (l.map (·.1)).Nodup
  ok : ∀ e ∈ l, PyData.strOk e.1 = true
  len : l.length ≤ 100
theorem PrsOk.sub {l l' : List Pr} (h : PrsOk l) (s : l'.Sublist l) : PrsOk l' := ⟨(s.map _).nodup h.nd, fun e he => h.ok e (s.subset he), Nat.le_trans s.length_le h.len⟩
end My
namespace My
open PySem PySem.Spec L2 Nu
open PyProof.Rows hiding St
theorem srtT_mem {l : List Str} {k : Str} : k ∈ srtT l ↔ k ∈ l := (srtT_perm l).mem_iff
theorem pige {α : Type} [DecidableEq α] : ∀ {l U : List α}, l.Nodup → (∀ k ∈ l, k ∈ U) → l.length ≤ U.length
  | [], _, _, _ => by simp
  | a :: l, U, h, hs => by
    have ha := hs a (List.mem_cons_self ..)
    have hn := List.nodup_cons.mp h
    have := pige (U := U.erase a) hn.2 fun k hk => (List.mem_erase_of_ne (by rintro rfl; exact hn.1 hk)).mpr (hs k (List.mem_cons_of_mem _ hk))
    rw [List.length_erase_of_mem ha] at this
    have := List.length_pos_of_mem ha
    rw [List.length_cons]; omega
theorem injG {α β : Type} {key : α → β} : ∀ {L : List α}, (L.map key).Nodup → ∀ {a b : α}, a ∈ L → b ∈ L → key a = key b → a = b
  | [], _, _, _, ha, _, _ => by cases ha
  | c :: L, h, a, b, ha, hb, e => by
    rw [List.map_cons, List.nodup_cons] at h
    rcases List.mem_cons.mp ha with h1 | h1
    · rcases List.mem_cons.mp hb with h2 | h2
      · rw [h1, h2]
      · exact absurd (List.mem_map.mpr ⟨b, h2, by rw [← e, h1]⟩) h.1
    · rcases List.mem_cons.mp hb with h2 | h2
      · exact absurd (List.mem_map.mpr ⟨a, h1, by rw [e, h2]⟩) h.1
      · exact injG h.2 h1 h2 e
end My
namespace My
open PySem PySem.Spec L2 Nu
open PyProof.Rows hiding St
structure HouA where
  name : Str
  yard : Str
  kind : Option Str
  state : Str
  room : List Int
  rows : List Row
  a : Addr
  b : Addr
  w : Addr
def kdD : Option Str → D
  | none => .non
  | some k => .str k
structure HAt (m : MS) (h : HouA) : Prop where
  hin : m h.a = some (.ins .House [.str h.yard, kdD h.kind, .str h.state, .raw (.ref h.b)])
  bk : BookM m h.b h.w h.room h.rows
structure BkA where
  name : Str
  pl : List (Str × Int)
  q : Addr
abbrev housK (E : List HouA) : List (Key × D) := kvs (fun h : HouA => h.name) (fun h => .raw (.ref h.a)) E
abbrev bkdK (B : List BkA) : List (Key × D) := kvs (fun b : BkA => b.name) (fun b => .raw (.ref b.q)) B
abbrev plK (p : List (Str × Int)) : List (Key × D) := kvs (fun e : Str × Int => e.1) (fun e => .int e.2) p
structure EstM (m : MS) (pe ph pb : Addr) (E : List HouA) (B : List BkA) : Prop where
  es : m pe = some (.ins .Estate [.raw (.ref ph), .raw (.ref pb)])
  hs : m ph = some (.dct (housK E))
  bk : m pb = some (.dct (bkdK B))
  hat : ∀ h ∈ E, HAt m h
  bat : ∀ b ∈ B, m b.q = some (.dct (plK b.pl))
  na : (E.map (·.a)).Nodup
  nb : (E.map (·.b)).Nodup
  nw : (ph :: pb :: (E.map (·.w) ++ B.map (·.q))).Nodup
  names : (E.map (·.name)).Nodup
  keys : (B.map (·.name)).Nodup
  pln : ∀ b ∈ B, (b.pl.map (·.1)).Nodup
/-- the estate's own places -/
def InE (pe ph pb : Addr) (E : List HouA) (B : List BkA) (q : Addr) : Prop := q = pe ∨ q = ph ∨ q = pb ∨ (∃ h ∈ E, q = h.a ∨ q = h.b ∨ q = h.w) ∨ ∃ b ∈ B, q = b.q
theorem neC {m : MS} {p q : Addr} {c d : Cell} (hp : m p = some c) (hq : m q = some d) (h : c ≠ d) : p ≠ q := fun e => h (by rw [e, hq] at hp; exact (Option.some.inj hp).symm)
section
variable {m : MS} {pe ph pb : Addr} {E : List HouA} {B : List BkA}
theorem EstM.of (h : EstM m pe ph pb E B) {m' : MS} (k : ∀ q c, InE pe ph pb E B q → m q = some c → m' q = some c) : EstM m' pe ph pb E B where
  es := k _ _ (.inl rfl) h.es
  hs := k _ _ (.inr (.inl rfl)) h.hs
  bk := k _ _ (.inr (.inr (.inl rfl))) h.bk
  hat := fun x hx => ⟨k _ _ (.inr (.inr (.inr (.inl ⟨x, hx, .inl rfl⟩)))) (h.hat x hx).hin, k _ _ (.inr (.inr (.inr (.inl ⟨x, hx, .inr (.inl rfl)⟩)))) (h.hat x hx).bk.hb, k _ _ (.inr (.inr (.inr (.inl ⟨x, hx, .inr (.inr rfl)⟩)))) (h.hat x hx).bk.hs⟩
  bat := fun b hb => k _ _ (.inr (.inr (.inr (.inr ⟨b, hb, rfl⟩)))) (h.bat b hb)
  na := h.na
  nb := h.nb
  nw := h.nw
  names := h.names
  keys := h.keys
  pln := h.pln
theorem EstM.up (h : EstM m pe ph pb E B) {m' : MS} (k : MLe m m') : EstM m' pe ph pb E B := h.of fun q c _ e => k q c e
theorem EstM.some (h : EstM m pe ph pb E B) {q : Addr} (k : InE pe ph pb E B q) : ∃ c, m q = some c := by
  rcases k with rfl | rfl | rfl | ⟨x, hx, rfl | rfl | rfl⟩ | ⟨b, hb, rfl⟩
  · exact ⟨_, h.es⟩
  · exact ⟨_, h.hs⟩
  · exact ⟨_, h.bk⟩
  · exact ⟨_, (h.hat x hx).hin⟩
  · exact ⟨_, (h.hat x hx).bk.hb⟩
  · exact ⟨_, (h.hat x hx).bk.hs⟩
  · exact ⟨_, h.bat b hb⟩
theorem EstM.oth (h : EstM m pe ph pb E B) {x : Addr} {c : Cell} (k : ¬ InE pe ph pb E B x) : EstM (mset m x c) pe ph pb E B := h.of fun q d hq e => by
  rw [mset_ne (fun z => k (by rw [← z]; exact hq))]; exact e
theorem InE.new {m : MS} (h : EstM m pe ph pb E B) {x : Addr} (hx : m x = none) : ¬ InE pe ph pb E B x := fun k => by
  obtain ⟨c, e⟩ := h.some k
  rw [hx] at e; cases e
theorem EstM.nwd (h : EstM m pe ph pb E B) : ph ≠ pb ∧ (∀ x ∈ E, x.w ≠ ph ∧ x.w ≠ pb) ∧ (∀ b ∈ B, b.q ≠ ph ∧ b.q ≠ pb) ∧ (E.map (·.w)).Nodup ∧ (B.map (·.q)).Nodup ∧ ∀ x ∈ E, ∀ b ∈ B, x.w ≠ b.q := by
  have n := h.nw
  rw [List.nodup_cons, List.nodup_cons, List.nodup_append] at n
  obtain ⟨n1, n2, n3, n4, n5⟩ := n
  simp only [List.mem_cons, List.mem_append, List.mem_map, not_or] at n1 n2
  refine ⟨n1.1, fun x hx => ⟨fun e => n1.2.1 ⟨x, hx, e⟩, fun e => n2.1 ⟨x, hx, e⟩⟩, fun b hb => ⟨fun e => n1.2.2 ⟨b, hb, e⟩, fun e => n2.2 ⟨b, hb, e⟩⟩, n3, n4, fun x hx b hb e => n5 _ (List.mem_map.mpr ⟨x, hx, rfl⟩) _ (List.mem_map.mpr ⟨b, hb, rfl⟩) e⟩
theorem EstM.inj (h : EstM m pe ph pb E B) {x y : HouA} (hx : x ∈ E) (hy : y ∈ E) : (x.name = y.name → x = y) ∧ (x.a = y.a → x = y) ∧ (x.b = y.b → x = y) ∧ (x.w = y.w → x = y) :=
  ⟨fun e => injG (key := fun x : HouA => x.name) h.names hx hy e, fun e => injG (key := fun x : HouA => x.a) h.na hx hy e, fun e => injG (key := fun x : HouA => x.b) h.nb hx hy e, fun e => injG (key := fun x : HouA => x.w) h.nwd.2.2.2.1 hx hy e⟩
def updH (E : List HouA) (n : Str) (f : HouA → HouA) : List HouA := E.map fun x => if x.name = n then f x else x
structure Keeps (f : HouA → HouA) : Prop where
  name : ∀ x, (f x).name = x.name
  a : ∀ x, (f x).a = x.a
  b : ∀ x, (f x).b = x.b
  w : ∀ x, (f x).w = x.w
theorem updH_map {α : Type} {g : HouA → α} {f : HouA → HouA} (hf : ∀ x, g (f x) = g x) {n : Str} : (updH E n f).map g = E.map g := by
  unfold updH
  rw [List.map_map]
  refine List.map_congr_left fun x _ => ?_
  dsimp only [Function.comp]
  split
  · exact hf x
  · rfl
theorem updH_mem {f : HouA → HouA} {n : Str} {y : HouA} (h : y ∈ updH E n f) : ∃ x ∈ E, (x.name = n ∧ y = f x) ∨ (x.name ≠ n ∧ y = x) := by
  obtain ⟨x, hx, rfl⟩ := List.mem_map.mp h
  by_cases c : x.name = n
  · exact ⟨x, hx, .inl ⟨c, by rw [if_pos c]⟩⟩
  · exact ⟨x, hx, .inr ⟨c, by rw [if_neg c]⟩⟩
theorem housK_upd {f : HouA → HouA} (k : Keeps f) {n : Str} : housK (updH E n f) = housK E := by
  unfold housK kvs updH
  rw [List.map_map]
  refine List.map_congr_left fun x _ => ?_
  dsimp only [Function.comp]
  split
  · rw [k.name, k.a]
  · rfl
/-- one place of a house changed -/
theorem EstM.upd (h : EstM m pe ph pb E B) {f : HouA → HouA} (k : Keeps f) {n : Str} {p : Addr} {c : Cell} (hp : pe ≠ p ∧ ph ≠ p ∧ pb ≠ p ∧ ∀ b ∈ B, b.q ≠ p) (ho : ∀ x ∈ E, x.name ≠ n → x.a ≠ p ∧ x.b ≠ p ∧ x.w ≠ p)
    (hn : ∀ x ∈ E, x.name = n → HAt (mset m p c) (f x)) : EstM (mset m p c) pe ph pb (updH E n f) B where
  es := by rw [mset_ne hp.1]; exact h.es
  hs := by rw [mset_ne hp.2.1, housK_upd k]; exact h.hs
  bk := by rw [mset_ne hp.2.2.1]; exact h.bk
  hat := fun y hy => by
    obtain ⟨x, hx, ⟨e, rfl⟩ | ⟨e, rfl⟩⟩ := updH_mem hy
    · exact hn x hx e
    · obtain ⟨o1, o2, o3⟩ := ho _ hx e
      have := h.hat _ hx
      exact ⟨by rw [mset_ne o1]; exact this.hin, by rw [mset_ne o2]; exact this.bk.hb, by rw [mset_ne o3]; exact this.bk.hs⟩
  bat := fun b hb => by rw [mset_ne (hp.2.2.2 b hb)]; exact h.bat b hb
  na := by rw [updH_map k.a]; exact h.na
  nb := by rw [updH_map k.b]; exact h.nb
  nw := by rw [updH_map k.w]; exact h.nw
  names := by rw [updH_map k.name]; exact h.names
  keys := h.keys
  pln := h.pln
theorem EstM.rows (h : EstM m pe ph pb E B) {x : HouA} (hx : x ∈ E) (R : List Row) : EstM (mset m x.w (.dct (rowsK R))) pe ph pb (updH E x.name fun y => { y with rows := R }) B := by
  have n := h.nwd
  have hxw := (h.hat x hx).bk.hs
  refine h.upd (f := fun y => { y with rows := R }) ⟨fun _ => rfl, fun _ => rfl, fun _ => rfl, fun _ => rfl⟩ ⟨neC h.es hxw (by simp), (n.2.1 x hx).1.symm, (n.2.1 x hx).2.symm, fun b hb => (n.2.2.2.2.2 x hx b hb).symm⟩ (fun y hy e => ⟨neC (h.hat y hy).hin hxw (by simp), neC (h.hat y hy).bk.hb hxw (by simp), fun z => e (by rw [(h.inj hy hx).2.2.2 z])⟩) fun y hy e => ?_
  have := (h.inj hy hx).1 e
  subst this
  exact ⟨by rw [mset_ne (neC (h.hat _ hx).hin hxw (by simp))]; exact (h.hat _ hx).hin, ⟨by rw [mset_ne (neC (h.hat _ hx).bk.hb hxw (by simp))]; exact (h.hat _ hx).bk.hb, mset_same⟩⟩
theorem EstM.state (h : EstM m pe ph pb E B) {x : HouA} (hx : x ∈ E) (s : Str) : EstM (mset m x.a (.ins .House [.str x.yard, kdD x.kind, .str s, .raw (.ref x.b)])) pe ph pb (updH E x.name fun y => { y with state := s }) B := by
  have n := h.nwd
  have hxa := (h.hat x hx).hin
  refine h.upd (f := fun y => { y with state := s }) ⟨fun _ => rfl, fun _ => rfl, fun _ => rfl, fun _ => rfl⟩ ⟨neC h.es hxa (by simp), neC h.hs hxa (by simp), neC h.bk hxa (by simp), fun b hb => neC (h.bat b hb) hxa (by simp)⟩ (fun y hy e => ⟨fun z => e (by rw [(h.inj hy hx).2.1 z]), neC (h.hat y hy).bk.hb hxa (by simp), neC (h.hat y hy).bk.hs hxa (by simp)⟩) fun y hy e => ?_
  have := (h.inj hy hx).1 e
  subst this
  exact ⟨mset_same, ⟨by rw [mset_ne (neC (h.hat _ hx).bk.hb hxa (by simp))]; exact (h.hat _ hx).bk.hb, by rw [mset_ne (neC (h.hat _ hx).bk.hs hxa (by simp))]; exact (h.hat _ hx).bk.hs⟩⟩
end
/-- from an estate to the next: nobody else's place is touched, and its new places are new -/
structure EstU (m m' : MS) (pe ph pb : Addr) (E : List HouA) (B : List BkA) (E' : List HouA) (B' : List BkA) : Prop where
  est : EstM m' pe ph pb E' B'
  frm : ∀ q c, ¬ InE pe ph pb E B q → m q = some c → m' q = some c
  new : ∀ q, InE pe ph pb E' B' q → InE pe ph pb E B q ∨ m q = none
theorem EstU.refl {m m' : MS} {pe ph pb : Addr} {E : List HouA} {B : List BkA} (h : EstM m pe ph pb E B) (k : MLe m m') : EstU m m' pe ph pb E B E B := ⟨h.up k, fun q c _ e => k q c e, fun q h => .inl h⟩
theorem EstU.trans {m m1 m2 : MS} {pe ph pb : Addr} {E E1 E2 : List HouA} {B B1 B2 : List BkA} (h : EstU m m1 pe ph pb E B E1 B1) (k : EstU m1 m2 pe ph pb E1 B1 E2 B2) : EstU m m2 pe ph pb E B E2 B2 where
  est := k.est
  frm := fun q c hq e => k.frm q c (fun z => (h.new q z).elim hq fun n => by rw [n] at e; cases e) (h.frm q c hq e)
  new := fun q hq => by
    rcases k.new q hq with z | z
    · exact h.new q z
    · by_cases c : InE pe ph pb E B q
      · exact .inl c
      · refine .inr ?_
        cases e : m q with
        | none => rfl
        | some d => rw [h.frm q d c e] at z; cases z
def houseOf (E : List HouA) (n : Str) : Option HouA := E.find? fun h => decide (h.name = n)
theorem houseOf_some {E : List HouA} {n : Str} {h : HouA} (e : houseOf E n = some h) : h ∈ E ∧ h.name = n := ⟨List.mem_of_find?_eq_some e, of_decide_eq_true (List.find?_some (p := fun h : HouA => decide (h.name = n)) e)⟩
theorem houseOf_none {E : List HouA} {n : Str} (e : houseOf E n = none) : n ∉ E.map (·.name) := fun k => by
  obtain ⟨h, hh, en⟩ := List.mem_map.mp k
  have := List.find?_eq_none.mp e h hh
  exact this (decide_eq_true en)
theorem houseOf_mem {E : List HouA} (nd : (E.map (·.name)).Nodup) {h : HouA} (hh : h ∈ E) : houseOf E h.name = some h := by
  cases e : houseOf E h.name with
  | none => exact absurd (List.mem_map.mpr ⟨h, hh, rfl⟩) (houseOf_none e)
  | some x => rw [injG (key := fun x : HouA => x.name) nd (houseOf_some e).1 hh (houseOf_some e).2]
def bkOf (B : List BkA) (n : Str) : Option BkA := B.find? fun b => decide (b.name = n)
theorem bkOf_some {B : List BkA} {n : Str} {b : BkA} (e : bkOf B n = some b) : b ∈ B ∧ b.name = n := ⟨List.mem_of_find?_eq_some e, of_decide_eq_true (List.find?_some (p := fun b : BkA => decide (b.name = n)) e)⟩
theorem bkOf_none {B : List BkA} {n : Str} (e : bkOf B n = none) : n ∉ B.map (·.name) := fun k => by
  obtain ⟨h, hh, en⟩ := List.mem_map.mp k
  have := List.find?_eq_none.mp e h hh
  exact this (decide_eq_true en)
end My
namespace My
open PySem PySem.Spec L2 Nu
open PyProof.Rows hiding St
def rowH (h : HouA) : D := .tup [.str h.name, .str h.yard, amtD h.room, kdD h.kind, .str h.state]
end My
namespace My
open PySem PySem.Spec L2 Nu
open PyProof.Rows hiding St
mutual
/-- told data, in so many layers -/
def dpt : Nat → D → Bool
  | 0, _ => false
  | _ + 1, .non => true
  | _ + 1, .int _ => true
  | _ + 1, .str _ => true
  | n + 1, .lst xs => decide (xs.length ≤ 1000) && dpts n xs
  | n + 1, .tup xs => decide (xs.length ≤ 1000) && dpts n xs
  | _, _ => false
def dpts : Nat → List D → Bool
  | _, [] => true
  | n, x :: xs => dpt n x && dpts n xs
end
theorem dpts_mem {n : Nat} : ∀ {xs : List D}, dpts n xs = true → ∀ x ∈ xs, dpt n x = true
  | [], _, _, h => by cases h
  | y :: xs, h, x, hx => by
    unfold dpts at h
    rw [Bool.and_eq_true] at h
    rcases List.mem_cons.mp hx with rfl | hx
    · exact h.1
    · exact dpts_mem h.2 x hx
theorem dpts_of {n : Nat} : ∀ {xs : List D}, (∀ x ∈ xs, dpt n x = true) → dpts n xs = true
  | [], _ => by unfold dpts; rfl
  | y :: xs, h => by
    unfold dpts
    rw [h y (List.mem_cons_self ..), dpts_of fun x hx => h x (List.mem_cons_of_mem _ hx)]; rfl
def alkL (r : D → D → Prop) (xs ys : List D) : Prop := xs.length = ys.length ∧ xs.length ≤ 1000 ∧ ∀ (i : Nat) (x y : D), xs[i]? = some x → ys[i]? = some y → r x y
/-- two told ones are alike: the one may hold lists that are cells -/
def alk (m : MS) : Nat → D → D → Prop
  | 0, _, _ => False
  | n + 1, d, e => match d, e with
    | .non, .non => True
    | .int i, .int j => i = j
    | .str i, .str j => i = j
    | .lst xs, .lst ys => alkL (alk m n) xs ys
    | .tup xs, .tup ys => alkL (alk m n) xs ys
    | .raw (.ref p), .lst ys => ∃ xs, m p = some (.lst xs) ∧ alkL (alk m n) xs ys
    | _, _ => False
theorem zipD_pairs (xs ys : List D) : zipD xs ys = (xs.zip ys).map fun p => D.tup [p.1, p.2] := rfl
end My
namespace My
open PySem PySem.Spec L2 Nu
open PyProof.Rows hiding St
structure Both (m : MS) (p q b s : Addr) (room : List Int) (top wide : Int) (R : List Row) : Prop where
  hL : LawM m p q room top wide R
  hB : BookM m b s room R
  nsq : s ≠ q
  nps : p ≠ s
def KeyIn (many : Int) (k : Str) : Prop := ∃ n, 0 ≤ n ∧ n < many ∧ k = nmS n
theorem nmS_ok (n : Int) : PyData.strOk (nmS n) = true := by
  unfold nmS
  have e1 := emod_bd n (b := 26) (by decide)
  have e2 := emod_bd (n / 26) (b := 4) (by decide)
  have h1 : (n % 26).toNat < 26 := by omega
  have h2 : (n / 26 % 4).toNat < 4 := by omega
  revert h1 h2
  generalize (n % 26).toNat = i
  generalize (n / 26 % 4).toNat = j
  have : ∀ i : Fin 26, ∀ j : Fin 4, PyData.strOk ((⟨#[("abcdefghijklmnopqrstuvwxyz" : Str).cps.toList.getD i.1 0]⟩ : Str) ++ ([("" : Str), "q", "wz", "longest"].getD j.1 "")) = true := by decide +kernel
  exact fun h1 h2 => this ⟨i, h1⟩ ⟨j, h2⟩
/-- what a drawn deed may be -/
def DeedOk (ws : List Str) (many : Int) (w : Nat) (top wide : Int) (d : Deed) : Prop := d.word ∈ ws ∧ match d with
  | .put k b e l => KeyIn many k ∧ 0 ≤ b ∧ b < e ∧ e ≤ wide + 3 ∧ l.length = w ∧ ∀ v ∈ l, 0 ≤ v ∧ v ≤ top
  | .past t => 0 ≤ t ∧ t ≤ wide
  | .cut _ t => 0 ≤ t ∧ t ≤ wide
  | .stretch _ t => 0 ≤ t ∧ t ≤ wide
  | .drop _ => True
theorem DeedOk.fit {ws : List Str} {many : Int} {w : Nat} {top wide : Int} {d : Deed} (h : DeedOk ws many w top wide d) : fitD w d := by
  cases d with
  | put k b e l =>
    obtain ⟨n, _, _, rfl⟩ := h.2.1
    exact ⟨h.2.2.2.1, h.2.2.2.2.2.1, fun x hx => (h.2.2.2.2.2.2 x hx).1, nmS_ok n⟩
  | _ => exact trivial
theorem DeedOk.keys {ws : List Str} {many : Int} {w w' : Nat} {room : List Int} {top wide : Int} {d : Deed} {R : List Row} {x : Str} (h : DeedOk ws many w top wide d) (hx : x ∈ keysR (stepR w' room R d).2) : x ∈ keysR R ∨ KeyIn many x := by
  rcases step_keys hx with hx | ⟨b, e, l, rfl⟩
  · exact .inl hx
  · exact .inr h.2.1
theorem Both.new {m : MS} {p q b s e : Addr} {room : List Int} {top wide : Int} {R : List Row} {c : Cell} (h : Both m p q b s room top wide R) (he : m e = none) : Both (mset m e c) p q b s room top wide R := by
  have ne : ∀ {a : Addr} {c' : Cell}, m a = some c' → a ≠ e := fun ha => by rintro rfl; rw [ha] at he; cases he
  exact ⟨⟨by rw [mset_ne (ne h.hL.hp)]; exact h.hL.hp, by rw [mset_ne (ne h.hL.hq)]; exact h.hL.hq, h.hL.ne⟩, ⟨by rw [mset_ne (ne h.hB.hb)]; exact h.hB.hb, by rw [mset_ne (ne h.hB.hs)]; exact h.hB.hs⟩, h.nsq, h.nps⟩
theorem Both.put {m : MS} {p q b s e : Addr} {room : List Int} {top wide : Int} {R : List Row} {c c' : Cell} (h : Both (mset m e c) p q b s room top wide R) (he : m e = none) (hp : p ≠ e) (hq : q ≠ e) (hb : b ≠ e) (hs : s ≠ e) : Both (mset m e c') p q b s room top wide R := by
  have g : ∀ {a : Addr}, a ≠ e → mset m e c' a = mset m e c a := fun n => by rw [mset_ne n, mset_ne n]
  exact ⟨⟨by rw [g hp]; exact h.hL.hp, by rw [g hq]; exact h.hL.hq, h.hL.ne⟩, ⟨by rw [g hb]; exact h.hB.hb, by rw [g hs]; exact h.hB.hs⟩, h.nsq, h.nps⟩
/-- the first start: a keeping, a book, both without rows -/
theorem Both.start {m : MS} {x p q b s : Addr} {a c : Int} {room : List Int} {top wide : Int} (hp : m p = none) (hq : m q = none) (hqp : q ≠ p) (hb : mset (mset (mset m x (bxc a c)) q (.dct [])) p (.dct (lmK room top wide q)) b = none)
    (hs : mset (mset (mset (mset m x (bxc a c)) q (.dct [])) p (.dct (lmK room top wide q))) b (.ins .Book []) s = none) (hsb : s ≠ b) :
    Both (mset (mset (mset (mset (mset (mset m x (bxc a c)) q (.dct [])) p (.dct (lmK room top wide q))) b (.ins .Book [])) s (.dct [])) b (.ins .Book [amtD room, .raw (.ref s)])) p q b s room top wide [] := by
  have bp : p ≠ b := by rintro rfl; rw [mset_same] at hb; cases hb
  have bq : q ≠ b := by rintro rfl; rw [mset_ne hqp, mset_same] at hb; cases hb
  have sp : p ≠ s := by rintro rfl; rw [mset_ne bp, mset_same] at hs; cases hs
  have sq : q ≠ s := by rintro rfl; rw [mset_ne bq, mset_ne hqp, mset_same] at hs; cases hs
  exact ⟨⟨by rw [mset_ne bp, mset_ne sp, mset_ne bp, mset_same], by rw [mset_ne bq, mset_ne sq, mset_ne bq, mset_ne hqp, mset_same]; rfl, hqp.symm⟩, ⟨mset_same, by rw [mset_ne hsb, mset_same]; rfl⟩, sq.symm, sp⟩
theorem Bx.new {m : MS} {x e : Addr} {c : Cell} (h : Bx m x) (he : m e = none) : Bx (mset m e c) x := by
  obtain ⟨a, b, hx, h0⟩ := h
  exact ⟨a, b, by rw [mset_ne (by rintro rfl; rw [hx] at he; cases he)]; exact hx, h0⟩
end My
namespace My
open PySem PySem.Spec L2 Nu
open PyProof.Rows hiding St
def delB (B : List BkA) (k : Str) : List BkA := B.filter fun b => !decide (b.name = k)
theorem bkOf_mem {B : List BkA} (nd : (B.map (·.name)).Nodup) {b : BkA} (hb : b ∈ B) : bkOf B b.name = some b := by
  cases e : bkOf B b.name with
  | none => exact absurd (List.mem_map.mpr ⟨b, hb, rfl⟩) (bkOf_none e)
  | some x => rw [injG (key := fun x : BkA => x.name) nd (bkOf_some e).1 hb (bkOf_some e).2]
section
variable {m : MS} {pe ph pb : Addr} {E : List HouA} {B : List BkA}
theorem InE.sub {E' : List HouA} {B' : List BkA} (hE : E' ⊆ E) (hB : B' ⊆ B) {q : Addr} (h : InE pe ph pb E' B' q) : InE pe ph pb E B q := by
  rcases h with h | h | h | ⟨x, hx, h⟩ | ⟨b, hb, h⟩
  · exact .inl h
  · exact .inr (.inl h)
  · exact .inr (.inr (.inl h))
  · exact .inr (.inr (.inr (.inl ⟨x, hE hx, h⟩)))
  · exact .inr (.inr (.inr (.inr ⟨b, hB hb, h⟩)))
end
end My
namespace My
open PySem PySem.Spec L2 Nu
open PyProof.Rows hiding St
def lawA : ASp := fun ss m P _ => ∃ ns : List Int, ss = [.fls (ns.map .int)] ∧ ns.length ≤ 63 ∧ (∀ p, m p = none) ∧ ∀ m', P (.bl true) m'
theorem len_lawA : ∀ ss m P Z, lawA ss m P Z → ss.length = 1 := by
  rintro _ m P Z ⟨ns, rfl, _⟩; rfl
theorem law_in {K : PySem.W.Frag} {H : Hp} (a : Addr) (ns : List Int) (hl : ns.length ≤ 63) (hS : LsA K H a (ns.map V.int)) : spA K lawA [.ref a] H (fun v _ => v = .bl true) (fun _ _ _ => False) := by
  refine ⟨H, [.fls (ns.map .int)], fun _ => none, fun d _ => d = .bl true, EZ0, ⟨fun _ _ e => e, fun _ _ e => by cases e⟩, .cons (.fls hS (Rps.of_ints ns)) .nil, ⟨ns, rfl, hl, fun _ => rfl, fun _ => rfl⟩, ?_, ?_⟩
  · intro v H' F' d m' hd _ r
    subst hd; cases r; rfl
  · intro c es H' F' m' cls dd z
    exact z.elim
theorem walk_nu {l : PySem.W.OpenLaw} {n k : Nat} {q : Program} {loose : List Str} {XP : (Str → Option Value) → Heap → Prop} {YP : World → Heap → Prop} {d : DefRec} {K : Params → PySem.W.Frag} {a : ASp} {x : Str}
    (hn : l.most = some n) (hn2 : n ≤ sizeLine) (hdf : d.params.defaults = []) (hr : Room k callerA)
    (hY : ∀ (w : World) (h : Heap), YP w h → (K w.params).In h)
    (F : ∀ (w : World) (mg : Str → Option Value) (fa : Addr) (h : Heap), (K w.params).In h → h.Ns mainGlobals mg → mg d.name = some (.ref fa) →
      ∃ fd : FuncData, (∀ (s : Shared) (u : Value), BindsTo s fd ⟨[u], []⟩ [(x, u)]) ∧
        ∀ base : Heap, (K w.params).In base → base.Ns mainGlobals mg → FnOk l.prog w (K w.params) mg base (L2.CX l.prog w) k fa fd [x] (spA (K w.params) a))
    (hsp : ∀ (K : PySem.W.Frag) (H : Hp) (b : Addr) (ns : List Int), ns.length ≤ n → LsA K H b (ns.map V.int) → spA K a [.ref b] H (fun v _ => v = .bl true) fun _ _ _ => False) :
    PySem.W.WalkO q loose XP YP l.row.toRowW d [] (fun f vs => PySem.call f vs) := by
  refine Att.attach_call hn hdf fun w s₀ s₁ mg mb fa o pm cd doc b vs ns G Y ho hd hcd hmg hobj hints hlen hg => ?_
  have kx := hY w _ Y
  obtain ⟨fd, h1, h2⟩ := F w mg fa _ kx G.T.g hmg
  refine L2.law_call kx G.T.g G.T.b G.T.builtins G.T.nolimit hg hobj hints (Nat.le_trans hlen hn2) hr h2 h1 (fun H _ hS => hsp (K w.params) H b ns hlen ?_) fun H e s' h => ?_
  · rcases hS with hS | ⟨o, its, m, c1, c2, c3, c4, c5, c6⟩
    · exact .inl hS
    · have c7 := kx b o c1
      rw [hobj] at c7
      cases c7
      exact .inr ⟨its, m, by rw [c1]; congr 1; cases c4; rfl, c5, c6⟩
  · obtain ⟨_, _, _, _, _, _, _, _, _, _, _, _, h⟩ := h
    exact h
end My
namespace My
open PySem PySem.Spec L2 Nu
open PyProof.Rows hiding St
structure Gang where
  name : Str
  guild : Str
  rank : Int
  many : Int
  want : List Int
  how : Str
  cost : Int
  deriving DecidableEq
end My
namespace My
open PySem PySem.Spec L2 Nu
open PyProof.Rows hiding St
def Out.ok : Out → Bool
  | .told => true
  | .gone _ => true
  | _ => false
noncomputable def putS (g : Gang) (t : Int) (n : Int) (h : HouA) : Out × List Row := stepR h.room.length h.room h.rows (.put g.name t (t + g.cost) (g.want.map fun v => v * n))
noncomputable def putH (g : Gang) (t : Int) (n : Int) (h : HouA) : HouA := { h with rows := (putS g t n h).2 }
noncomputable def putO (E : List HouA) (g : Gang) (t : Int) (p : Str × Int) : Out := ((houseOf E p.1).map fun h => (putS g t p.2 h).1).getD .told
noncomputable def bookE (E : List HouA) (g : Gang) (t : Int) (pl : List (Str × Int)) : List HouA := pl.foldl (fun E p => updH E p.1 (putH g t p.2)) E
noncomputable def badO (E : List HouA) (g : Gang) (t : Int) (pl : List (Str × Int)) : Option Out := (pl.map (putO E g t)).find? fun o => !o.ok
theorem putH_keeps {g : Gang} {t n : Int} : Keeps (putH g t n) := ⟨fun _ => rfl, fun _ => rfl, fun _ => rfl, fun _ => rfl⟩
theorem houseOf_upd {E : List HouA} {n k : Str} {f : HouA → HouA} (hf : Keeps f) : houseOf (updH E n f) k = (houseOf E k).map fun h => if h.name = n then f h else h := by
  unfold houseOf updH
  rw [List.find?_map]
  congr 2
  funext x
  dsimp only [Function.comp]
  split
  · rw [hf.name]
  · rfl
theorem EstU.twin {m m' m'' : MS} {pe ph pb : Addr} {E : List HouA} {B : List BkA} (u : EstU m m' pe ph pb E B E B) {s : Addr} {c : Cell} (hs : m' s = none) (k : MLe m' m'') : EstU m (mset m'' s c) pe ph pb E B E B where
  est := (u.est.up k).oth (InE.new u.est hs)
  frm := fun q c hq e => by
    have := u.frm q c hq e
    rw [mset_ne (by rintro rfl; rw [hs] at this; cases this)]
    exact k _ _ this
  new := fun q hq => .inl hq
theorem bad_ok {E : List HouA} {g : Gang} {t : Int} {pl : List (Str × Int)} (h : badO E g t pl = none) {q : Str × Int} (hq : q ∈ pl) : (putO E g t q).ok = true := by
  have := List.find?_eq_none.mp h _ (List.mem_map.mpr ⟨q, hq, rfl⟩)
  simpa using this
theorem putO_of {E : List HouA} {g : Gang} {t : Int} {p : Str × Int} {x : HouA} (h : houseOf E p.1 = some x) : putO E g t p = (putS g t p.2 x).1 := by unfold putO; rw [h]; rfl
end My
namespace My
open PySem PySem.Spec L2 Nu
open PyProof.Rows hiding St
def updA (E : List HouA) (ns : List Str) (f : HouA → HouA) : List HouA := E.map fun x => if x.name ∈ ns then f x else x
theorem houseOf_updA {E : List HouA} {ns : List Str} {n : Str} {f : HouA → HouA} (k : Keeps f) : houseOf (updA E ns f) n = (houseOf E n).map fun x => if x.name ∈ ns then f x else x := by
  unfold houseOf updA
  rw [List.find?_map]
  have : ((fun h : HouA => decide (h.name = n)) ∘ fun x => if x.name ∈ ns then f x else x) = fun h => decide (h.name = n) := by
    funext x
    dsimp only [Function.comp]
    split
    · rw [k.name]
    · rfl
  rw [this]
def cutR (R : List Row) (n : Str) (t : Int) : List Row := match rowOf R n with
  | none => R
  | some (b, e, l) => if t ≤ b then delR R n else putR R n (b, if t < e then t else e, l)
def cutHo (n : Str) (t : Int) (x : HouA) : HouA := { x with rows := cutR x.rows n t }
def dropHo (n : Str) (x : HouA) : HouA := { x with rows := delR x.rows n }
theorem cutHo_keeps {n : Str} {t : Int} : Keeps (cutHo n t) := ⟨fun _ => rfl, fun _ => rfl, fun _ => rfl, fun _ => rfl⟩
theorem dropHo_keeps {n : Str} : Keeps (dropHo n) := ⟨fun _ => rfl, fun _ => rfl, fun _ => rfl, fun _ => rfl⟩
theorem step_cut {w : Nat} {room : List Int} {R : List Row} {k : Str} {t : Int} {r : Rw} (h : rowOf R k = some r) : stepR w room R (.cut k t) = (.told, cutR R k t) := by
  obtain ⟨b, e, l⟩ := r
  unfold stepR cutR
  dsimp only
  rw [h]
  dsimp only
  split <;> rfl
theorem step_drop {w : Nat} {room : List Int} {R : List Row} {k : Str} {r : Rw} (h : rowOf R k = some r) : stepR w room R (.drop k) = (.told, delR R k) := by
  unfold stepR
  dsimp only
  rw [h]
/-- a booked gang's entries are all of one stretch -/
def Spr (E : List HouA) (b : BkA) (s e : Int) : Prop := ∀ p ∈ b.pl, ∃ x, houseOf E p.1 = some x ∧ ∃ l, rowOf x.rows b.name = some (s, e, l)
def lessG (lost : Str → Str → Bool) (b : BkA) : Option BkA := if (b.pl.filter fun e => !lost b.name e.1).isEmpty then none else some { b with pl := b.pl.filter fun e => !lost b.name e.1 }
def BL (B : List BkA) (lost : Str → Str → Bool) : List BkA := B.filterMap (lessG lost)
theorem lessG_name {lost : Str → Str → Bool} {b c : BkA} (h : lessG lost b = some c) : c.name = b.name ∧ c.q = b.q ∧ c.pl = b.pl.filter fun e => !lost b.name e.1 := by
  unfold lessG at h
  split at h
  · cases h
  · cases h; exact ⟨rfl, rfl, rfl⟩
theorem BL_names {B : List BkA} {lost : Str → Str → Bool} : ((BL B lost).map (·.name)).Sublist (B.map (·.name)) := by
  unfold BL
  induction B with
  | nil => exact List.Sublist.refl _
  | cons b B ih =>
    rw [List.filterMap_cons]
    cases e : lessG lost b with
    | none => exact List.Sublist.cons _ ih
    | some c =>
      dsimp only
      rw [List.map_cons, List.map_cons, (lessG_name e).1]
      exact List.Sublist.cons₂ _ ih
theorem bkOf_BL {B : List BkA} (nd : (B.map (·.name)).Nodup) {lost : Str → Str → Bool} {b c : BkA} (hb : b ∈ B) (h : lessG lost b = some c) : bkOf (BL B lost) b.name = some c := by
  have : c ∈ BL B lost := List.mem_filterMap.mpr ⟨b, hb, h⟩
  rw [← (lessG_name h).1]
  exact bkOf_mem (BL_names.nodup nd) this
end My
namespace My
open PySem PySem.Spec L2 Nu
open PyProof.Rows hiding St
def cI (r : Rw) (t : Int) (i : Nat) : Int := if actv r t = true then r.2.2.getD i 0 else 0
def FitR (w : Nat) (room : List Int) (R : List Row) : Prop := ∀ t i, i < w → loadI (rws R) t i ≤ room.getD i 0
theorem loadI_cons (r : Rw) (R : List Rw) (t : Int) (i : Nat) : loadI (r :: R) t i = cI r t i + loadI R t i := rfl
theorem cI_pos {r : Rw} (h : ∀ x ∈ r.2.2, 0 ≤ x) (t : Int) (i : Nat) : 0 ≤ cI r t i := by
  unfold cI; split
  · exact getD_pos h i
  · exact Int.le_refl _
theorem map_same {R : List Row} {k : Str} {r : Rw} (h : k ∉ keysR R) : R.map (fun x => if x.1 = k then (x.1, r) else x) = R := by
  have e : R.map (fun x => if x.1 = k then (x.1, r) else x) = R.map fun x => x := List.map_congr_left fun x hx => by
    rw [if_neg]; rintro rfl; exact h (List.mem_map.mpr ⟨x, hx, rfl⟩)
  rw [e, List.map_id']
theorem load_map {k : Str} {r r0 : Rw} {t : Int} {i : Nat} : ∀ {R : List Row}, (keysR R).Nodup → rowOf R k = some r0 → loadI (rws (R.map fun x => if x.1 = k then (x.1, r) else x)) t i + cI r0 t i = loadI (rws R) t i + cI r t i
  | [], _, h => by cases h
  | a :: R, nd, h => by
    have hn := List.nodup_cons.mp nd
    rw [List.map_cons]
    by_cases e : a.1 = k
    · have h0 : a.2 = r0 := by
        unfold rowOf at h
        rw [List.find?_cons_of_pos (by simpa using e)] at h
        exact Option.some.inj h
      rw [if_pos e, map_same (by rw [← e]; exact hn.1)]
      show loadI (r :: rws R) t i + _ = loadI (a.2 :: rws R) t i + _
      rw [loadI_cons, loadI_cons, h0]; omega
    · have h0 : rowOf R k = some r0 := by
        unfold rowOf at h ⊢
        rwa [List.find?_cons_of_neg (by simpa using e)] at h
      rw [if_neg e]
      show loadI (a.2 :: rws (R.map fun x => if x.1 = k then (x.1, r) else x)) t i + _ = loadI (a.2 :: rws R) t i + _
      rw [loadI_cons, loadI_cons]
      have := load_map (r := r) (t := t) (i := i) hn.2 h0
      omega
theorem load_put {k : Str} {r r0 : Rw} {R : List Row} (nd : (keysR R).Nodup) (h : rowOf R k = some r0) (t : Int) (i : Nat) : loadI (rws (putR R k r)) t i + cI r0 t i = loadI (rws R) t i + cI r t i := by
  unfold putR
  rw [if_pos ((any_mem R k).mpr (List.mem_map.mpr ⟨_, rowOf_some h, rfl⟩))]
  exact load_map nd h
theorem load_new {k : Str} {r : Rw} {R : List Row} (h : k ∉ keysR R) (t : Int) (i : Nat) : loadI (rws (putR R k r)) t i = loadI (rws R) t i + cI r t i := by
  unfold putR
  rw [if_neg (fun c => h ((any_mem R k).mp c))]
  show loadI (List.map _ (R ++ [(k, r)])) t i = _
  rw [List.map_append, loadI_app]
  show loadI (rws R) t i + (cI r t i + 0) = loadI (rws R) t i + cI r t i
  omega
theorem load_del {w : Nat} {R : List Row} (hR : RowsOk w R) (k : Str) (t : Int) (i : Nat) : loadI (rws (delR R k)) t i ≤ loadI (rws R) t i := by
  have hp := hR.pos
  clear hR
  induction R with
  | nil => exact Int.le_refl _
  | cons a R ih =>
    have h1 := ih fun r hr => hp r (List.mem_cons_of_mem _ hr)
    have h2 := cI_pos (hp a (List.mem_cons_self ..)) t i
    unfold delR
    rw [List.filter_cons]
    split
    · show loadI (a.2 :: rws (delR R k)) t i ≤ loadI (a.2 :: rws R) t i
      rw [loadI_cons, loadI_cons]; omega
    · show loadI (rws (delR R k)) t i ≤ loadI (a.2 :: rws R) t i
      rw [loadI_cons]; omega
theorem fit_del {w : Nat} {room : List Int} {R : List Row} (hR : RowsOk w R) (h : FitR w room R) (k : Str) : FitR w room (delR R k) := fun t i hi => Int.le_trans (load_del hR k t i) (h t i hi)
theorem fit_dels {w : Nat} {room : List Int} : ∀ (g : List Str) {R : List Row}, RowsOk w R → FitR w room R → FitR w room (g.foldl delR R)
  | [], _, _, h => h
  | k :: g, _, hR, h => fit_dels g (del_ok hR) (fit_del hR h k)
/-- FM none tells of each time -/
theorem fm_ex {w : Nat} {room : List Int} {R : List Row} {b e : Int} {l : List Int} (hR : RowsOk w R) (hbe : b < e) : ∃ o, FM w room (rws R) b e l o := by
  have hp : ∀ r ∈ rws R, ∀ x ∈ r.2.2, 0 ≤ x := fun r hr => by obtain ⟨y, hy, rfl⟩ := List.mem_map.mp hr; exact hR.pos y hy
  let E := (((rws R).map (·.1)).mergeSort fun a b : Int => decide (a ≤ b))
  have hE : E.Perm ((rws R).map (·.1)) := List.mergeSort_perm ..
  have hs : E.Pairwise (· ≤ ·) := (List.pairwise_mergeSort (le := fun a b : Int => decide (a ≤ b)) (fun a b c h k => by simp at *; omega) (fun a b => by simp; omega) ((rws R).map (·.1))).imp fun h => by simpa using h
  have T : Times (rws R) b e ([b] ++ E.filter fun t => decide (b < t) && decide (t < e)) := Times.of hbe fun r hr => hE.symm.subset (List.mem_map.mpr ⟨r, hr, rfl⟩)
  have hA := times_pw (b := b) (e := e) hs
  revert T hA
  generalize ([b] ++ E.filter fun t => decide (b < t) && decide (t < e)) = A
  intro T hA
  -- the first of the list
  have first : ∀ (n : Nat), n ≤ A.length → (∀ u ∈ A.take n, ¬ ovr w room (rws R) l u) ∨ ∃ o, FM w room (rws R) b e l o := fun n => by
    induction n with
    | zero => exact fun _ => .inl (by simp)
    | succ n ih =>
      intro hn
      rcases ih (by omega) with ih | ih
      · have ht : A[n]? = some A[n] := List.getElem?_eq_getElem (by omega)
        by_cases c : ovr w room (rws R) l A[n]
        · exact .inr ⟨_, FM.of_some hp T hA ht c ih⟩
        · refine .inl fun u hu => ?_
          rw [take_succ ht] at hu
          rcases List.mem_append.mp hu with hu | hu
          · exact ih u hu
          · rw [List.mem_singleton.mp hu]; exact c
      · exact .inr ih
  rcases first A.length (Nat.le_refl _) with h | h
  · rw [List.take_length] at h; exact ⟨_, FM.of_none hp T h⟩
  · exact h
theorem fm_none {w : Nat} {room : List Int} {R : List Row} {b e : Int} {l : List Int} (hR : RowsOk w R) (hbe : b < e) (h : fmT w room (rws R) b e l = none) : ∀ t, b ≤ t → t < e → ∀ i, i < w → loadI (rws R) t i + l.getD i 0 ≤ room.getD i 0 := by
  obtain ⟨o, ho⟩ := fm_ex (room := room) (l := l) hR hbe
  rw [fmT_eq ho] at h
  subst h
  intro t h1 h2 i hi
  rcases Int.lt_or_le (room.getD i 0) (loadI (rws R) t i + l.getD i 0) with c | c
  · exact absurd ⟨i, hi, c⟩ (ho t h1 h2)
  · exact c
theorem actv_iff {r : Rw} {t : Int} : actv r t = true ↔ r.1 ≤ t ∧ t < r.2.1 := by
  unfold actv; rw [Bool.and_eq_true, decide_eq_true_eq, decide_eq_true_eq]
theorem fit_step {w : Nat} {room : List Int} {R : List Row} {d : Deed} (hR : RowsOk w R) (hd : fitD w d) (h : FitR w room R) : FitR w room (stepR w room R d).2 := by
  cases d with
  | put k b e l =>
    simp only [stepR]
    split
    · exact h
    · next c =>
      split
      · exact h
      · next hf =>
        intro t i hi
        show loadI (rws (putR R k (b, e, l))) t i ≤ _
        rw [load_new c]
        have h1 := h t i hi
        unfold cI
        split
        · next ha =>
          have ha := actv_iff.mp ha
          exact fm_none hR hd.1 hf t ha.1 ha.2 i hi
        · omega
  | cut k t0 =>
    simp only [stepR]
    split
    · exact h
    · next b e l e1 =>
      have hm := rowOf_some e1
      split
      · exact fit_del hR h k
      · intro t i hi
        show loadI (rws (putR R k (b, if t0 < e then t0 else e, l))) t i ≤ _
        have h2 := load_put (r := (b, if t0 < e then t0 else e, l)) hR.nd e1 t i
        have h1 := h t i hi
        have h3 : cI (b, if t0 < e then t0 else e, l) t i ≤ cI (b, e, l) t i := by
          have hp := getD_pos (hR.pos _ hm) i
          unfold cI
          by_cases ha : actv (b, if t0 < e then t0 else e, l) t = true
          · rw [if_pos ha]
            have ha := actv_iff.mp ha
            have ha2 : t < if t0 < e then t0 else e := ha.2
            have ha3 : actv (b, e, l) t = true := actv_iff.mpr ⟨ha.1, by show t < e; split at ha2 <;> omega⟩
            rw [if_pos ha3]
            exact Int.le_refl _
          · rw [if_neg ha]
            split
            · exact hp
            · exact Int.le_refl _
        omega
  | stretch k t0 =>
    simp only [stepR]
    split
    · exact h
    · next b e l e1 =>
      have hm := rowOf_some e1
      split
      · next c =>
        split
        · exact h
        · next hf =>
          intro t i hi
          show loadI (rws (putR R k (b, t0, l))) t i ≤ _
          have h2 := load_put (r := (b, t0, l)) hR.nd e1 t i
          have h1 := h t i hi
          by_cases ha : actv (b, e, l) t = true
          · have h3 : cI (b, t0, l) t i ≤ cI (b, e, l) t i := by
              unfold cI
              rw [if_pos ha]
              split
              · exact Int.le_refl _
              · exact getD_pos (hR.pos _ hm) i
            omega
          · have h4 : cI (b, e, l) t i = 0 := by unfold cI; rw [if_neg ha]
            by_cases ha2 : actv (b, t0, l) t = true
            · have h5 : cI (b, t0, l) t i = l.getD i 0 := by unfold cI; rw [if_pos ha2]
              have k1 := actv_iff.mp ha2
              have k2 : ¬ (b ≤ t ∧ t < e) := fun c => ha (actv_iff.mpr c)
              have k3 : b ≤ t ∧ t < t0 := k1
              have := fm_none hR c hf t (by omega) k3.2 i hi
              omega
            · have h5 : cI (b, t0, l) t i = 0 := by unfold cI; rw [if_neg ha2]
              omega
      · exact h
  | drop k =>
    simp only [stepR]
    split
    · exact h
    · exact fit_del hR h k
  | past t => exact fit_dels _ hR h
end My
namespace My
open PySem PySem.Spec L2 Nu
open PyProof.Rows hiding St
/-- an estate whose books are in order -/
structure HousesOk (w : Nat) (E : List HouA) : Prop where
  room : ∀ h ∈ E, h.room.length = w ∧ ∀ v ∈ h.room, 0 ≤ v
  rok : ∀ h ∈ E, RowsOk w h.rows
  fit : ∀ h ∈ E, FitR w h.room h.rows
  ok : ∀ h ∈ E, PyData.strOk h.name = true ∧ PyData.strOk h.yard = true
  len : ∀ h ∈ E, h.rows.length ≤ 1000
end My
namespace My
open PySem PySem.Spec L2 Nu
open PyProof.Rows hiding St
theorem cut_len (R : List Row) (n : Str) (t : Int) : (cutR R n t).length ≤ R.length := by
  unfold cutR
  split
  · exact Nat.le_refl _
  · next b e l h =>
    split
    · exact del_len R n
    · have := congrArg List.length (put_there (r := (b, if t < e then t else e, l)) h)
      rw [List.length_map, List.length_map] at this
      omega
/-- what a stretch comes to in a house: the first time of too much -/
noncomputable def strO (n : Str) (t : Int) (x : HouA) : Option Int := match rowOf x.rows n with
  | none => none
  | some (_, e, l) => if e < t then fmT x.room.length x.room (rws x.rows) e t l else none
def strRw (R : List Row) (n : Str) (t : Int) : List Row := match rowOf R n with
  | none => R
  | some (b, e, l) => if e < t then putR R n (b, t, l) else R
def strHo (n : Str) (t : Int) (x : HouA) : HouA := { x with rows := strRw x.rows n t }
theorem strHo_keeps {n : Str} {t : Int} : Keeps (strHo n t) := ⟨fun _ => rfl, fun _ => rfl, fun _ => rfl, fun _ => rfl⟩
noncomputable def strE (E : List HouA) (n : Str) (t : Int) (h : Str) : Option Int := (houseOf E h).bind (strO n t)
noncomputable def badS (E : List HouA) (b : BkA) (t : Int) : Option Int := (srtT (b.pl.map (·.1))).findSome? (strE E b.name t)
theorem step_str {x : HouA} {k : Str} {t : Int} {r : Rw} (h : rowOf x.rows k = some r) : stepR x.room.length x.room x.rows (.stretch k t) = match strO k t x with
    | some u => (.more u, x.rows)
    | none => (.told, strRw x.rows k t) := by
  obtain ⟨b, e, l⟩ := r
  unfold stepR strO strRw
  dsimp only
  rw [h]
  dsimp only
  by_cases c : e < t
  · rw [if_pos c, if_pos c, if_pos c]
    all_goals (cases fmT x.room.length x.room (rws x.rows) e t l <;> rfl)
  · rw [if_neg c, if_neg c, if_neg c]
noncomputable def pastH (t : Int) (x : HouA) : HouA := { x with rows := (goneT x.rows t).foldl delR x.rows }
noncomputable def lostT (E : List HouA) (t : Int) (k h : Str) : Bool := ((houseOf E h).map fun x => decide (k ∈ goneT x.rows t)).getD false
theorem lessG_none {lost : Str → Str → Bool} {b : BkA} : lessG lost b = none ↔ ∀ e ∈ b.pl, lost b.name e.1 = true := by
  unfold lessG
  constructor
  · intro h e he
    by_cases c : (b.pl.filter fun e => !lost b.name e.1).isEmpty = true
    · rw [List.isEmpty_iff] at c
      have := List.filter_eq_nil_iff.mp c e he
      simpa using this
    · rw [if_neg c] at h; cases h
  · intro h
    have : b.pl.filter (fun e => !lost b.name e.1) = [] := List.filter_eq_nil_iff.mpr fun e he => by rw [h e he]; simp
    rw [this]; rfl
structure Fnd (B : List BkA) (lost : Str → Str → Bool) (f : List Str) : Prop where
  nd : f.Nodup
  mem : ∀ k, k ∈ f ↔ ∃ b ∈ B, b.name = k ∧ lessG lost b = none
theorem Fnd.len {B : List BkA} {lost : Str → Str → Bool} {f : List Str} (h : Fnd B lost f) : f.length ≤ B.length := by
  have := pige h.nd (U := B.map (·.name)) fun k hk => by
    obtain ⟨b, hb, e, _⟩ := (h.mem k).mp hk
    exact List.mem_map.mpr ⟨b, hb, e⟩
  rwa [List.length_map] at this
theorem Fnd.congr {B : List BkA} {lost lost' : Str → Str → Bool} {f : List Str} (h : Fnd B lost f) (e : ∀ b ∈ B, ∀ x ∈ b.pl, lost b.name x.1 = lost' b.name x.1) : Fnd B lost' f := ⟨h.nd, fun k => (h.mem k).trans (by
  constructor
  · rintro ⟨b, hb, e1, e2⟩
    exact ⟨b, hb, e1, lessG_none.mpr fun x hx => by rw [← e b hb x hx]; exact lessG_none.mp e2 x hx⟩
  · rintro ⟨b, hb, e1, e2⟩
    exact ⟨b, hb, e1, lessG_none.mpr fun x hx => by rw [e b hb x hx]; exact lessG_none.mp e2 x hx⟩)⟩
end My
namespace My
open PySem PySem.Spec L2 Nu
open PyProof.Rows hiding St
theorem rowOf_del (R : List Row) (n k : Str) : rowOf (delR R n) k = if k = n then none else rowOf R k := by
  by_cases c : k = n
  · subst c
    rw [if_pos rfl, rowOf_none]
    intro h
    obtain ⟨r, hr, e⟩ := List.mem_map.mp h
    have := (List.mem_filter.mp hr).2
    rw [e] at this; simp at this
  · rw [if_neg c]
    unfold rowOf delR
    rw [List.find?_filter]
    congr 2
    funext x
    by_cases d : x.1 = k
    · simp [d, c]
    · simp [d]
theorem rowOf_put (R : List Row) (n k : Str) (r : Rw) : rowOf (putR R n r) k = if k = n then some r else rowOf R k := by
  unfold putR
  by_cases a : R.any (fun x => decide (x.1 = n)) = true
  · rw [if_pos a]
    unfold rowOf
    rw [List.find?_map]
    have : ((fun x : Row => decide (x.1 = k)) ∘ fun x => if x.1 = n then (x.1, r) else x) = fun x => decide (x.1 = k) := by
      funext x
      dsimp only [Function.comp]
      split <;> rfl
    rw [this]
    by_cases c : k = n
    · subst c
      rw [if_pos rfl]
      cases e : R.find? (fun x => decide (x.1 = k)) with
      | none =>
        exfalso
        rw [List.any_eq_true] at a
        obtain ⟨x, hx, h⟩ := a
        exact List.find?_eq_none.mp e x hx h
      | some x =>
        have := of_decide_eq_true (List.find?_some (p := fun x : Row => decide (x.1 = k)) e)
        simp [this]
    · rw [if_neg c]
      cases e : R.find? (fun x => decide (x.1 = k)) with
      | none => rfl
      | some x =>
        have := of_decide_eq_true (List.find?_some (p := fun x : Row => decide (x.1 = k)) e)
        simp [this, c]
  · rw [if_neg a]
    unfold rowOf
    rw [List.find?_append]
    by_cases c : k = n
    · subst c
      rw [if_pos rfl]
      have : R.find? (fun x => decide (x.1 = k)) = none := List.find?_eq_none.mpr fun x hx h => a (List.any_eq_true.mpr ⟨x, hx, h⟩)
      rw [this]; simp
    · rw [if_neg c]
      have : ([(n, r)] : List Row).find? (fun x => decide (x.1 = k)) = none := List.find?_eq_none.mpr fun x hx h => by
        rw [List.mem_singleton.mp hx] at h
        exact c (of_decide_eq_true h).symm
      rw [this, Option.or_none]
def cutO (t : Int) (r : Rw) : Option Rw := if t ≤ r.1 then none else some (r.1, if t < r.2.1 then t else r.2.1, r.2.2)
theorem rowOf_cut (R : List Row) (n k : Str) (t : Int) : rowOf (cutR R n t) k = if k = n then (rowOf R n).bind (cutO t) else rowOf R k := by
  unfold cutR
  cases e : rowOf R n with
  | none =>
    by_cases c : k = n
    · rw [if_pos c, c]; exact e
    · rw [if_neg c]
  | some r =>
    obtain ⟨b, en, l⟩ := r
    dsimp only
    by_cases ht : t ≤ b
    · rw [if_pos ht, rowOf_del, Option.bind_some]
      unfold cutO
      rw [if_pos ht]
    · rw [if_neg ht, rowOf_put, Option.bind_some]
      unfold cutO
      rw [if_neg ht]
def strR1 (t : Int) (r : Rw) : Rw := (r.1, if r.2.1 < t then t else r.2.1, r.2.2)
theorem rowOf_str (R : List Row) (n k : Str) (t : Int) : rowOf (strRw R n t) k = if k = n then (rowOf R n).map (strR1 t) else rowOf R k := by
  unfold strRw
  cases e : rowOf R n with
  | none =>
    by_cases c : k = n
    · rw [if_pos c, c]; exact e
    · rw [if_neg c]
  | some r =>
    obtain ⟨b, en, l⟩ := r
    dsimp only
    by_cases ht : en < t
    · rw [if_pos ht, rowOf_put]
      by_cases c : k = n
      · rw [if_pos c, if_pos c, Option.map_some]
        unfold strR1
        rw [if_pos ht]
      · rw [if_neg c, if_neg c]
    · rw [if_neg ht]
      by_cases c : k = n
      · rw [if_pos c, c, e, Option.map_some]
        unfold strR1
        rw [if_neg ht]
      · rw [if_neg c]
theorem rowOf_dels : ∀ (g : List Str) (R : List Row) (k : Str), rowOf (g.foldl delR R) k = if k ∈ g then none else rowOf R k
  | [], R, k => by simp
  | n :: g, R, k => by
    rw [List.foldl_cons, rowOf_dels g, rowOf_del]
    by_cases c : k ∈ g
    · rw [if_pos c, if_pos (List.mem_cons_of_mem _ c)]
    · rw [if_neg c]
      by_cases d : k = n
      · rw [if_pos d, if_pos (by rw [d]; exact List.mem_cons_self ..)]
      · rw [if_neg d, if_neg (by simp [c, d])]
theorem gone_iff {R : List Row} (nd : (keysR R).Nodup) {t : Int} {k : Str} : k ∈ goneT R t ↔ ∃ r, rowOf R k = some r ∧ r.2.1 ≤ t := by
  unfold goneT
  rw [srtT_mem, List.mem_map]
  constructor
  · rintro ⟨r, hr, rfl⟩
    obtain ⟨h1, h2⟩ := List.mem_filter.mp hr
    obtain ⟨q, hq⟩ := rowOf_mem (List.mem_map.mpr ⟨r, h1, rfl⟩ : r.1 ∈ keysR R)
    have := injG (key := fun r : Row => r.1) nd h1 (rowOf_some hq) rfl
    refine ⟨q, hq, ?_⟩
    rw [this] at h2
    exact of_decide_eq_true h2
  · rintro ⟨r, hr, h⟩
    exact ⟨(k, r), List.mem_filter.mpr ⟨rowOf_some hr, decide_eq_true h⟩, rfl⟩
/-- the entry of a key in a house -/
def ent (E : List HouA) (h k : Str) : Option Rw := (houseOf E h).bind fun x => rowOf x.rows k
/-- how many of a gang's tasks are booked in a house -/
def plm (B : List BkA) (k h : Str) : Option Int := (bkOf B k).bind fun b => (b.pl.find? fun e => decide (e.1 = h)).map (·.2)
theorem find_pl {p : List (Str × Int)} {h : Str} : (p.find? fun e => decide (e.1 = h)).isSome = true ↔ h ∈ p.map (·.1) := by
  rw [List.find?_isSome, List.mem_map]
  constructor
  · rintro ⟨e, he, c⟩; exact ⟨e, he, of_decide_eq_true c⟩
  · rintro ⟨e, he, c⟩; exact ⟨e, he, decide_eq_true c⟩
theorem plm_some {B : List BkA} {k h : Str} : (plm B k h).isSome = true ↔ ∃ b, bkOf B k = some b ∧ h ∈ b.pl.map (·.1) := by
  unfold plm
  cases e : bkOf B k with
  | none => simp
  | some b =>
    rw [Option.bind_some, Option.isSome_map, find_pl]
    constructor
    · intro h; exact ⟨b, rfl, h⟩
    · rintro ⟨_, e, h⟩; cases e; exact h
structure EOk (w : Nat) (E : List HouA) (B : List BkA) : Prop where
  hs : HousesOk w E
  lnk : ∀ h k, (ent E h k).isSome = (plm B k h).isSome
  str : ∀ k h h' r r', ent E h k = some r → ent E h' k = some r' → r'.1 = r.1 ∧ r'.2.1 = r.2.1
  lt : ∀ h k r, ent E h k = some r → r.1 < r.2.1
  ne : ∀ b ∈ B, b.pl ≠ []
  bok : ∀ b ∈ B, PyData.strOk b.name = true
section
variable {w : Nat} {E : List HouA} {B : List BkA}
theorem ent_of {h k : Str} {r : Rw} (e : ent E h k = some r) : ∃ x, houseOf E h = some x ∧ rowOf x.rows k = some r := by
  unfold ent at e
  cases eh : houseOf E h with
  | none => rw [eh] at e; cases e
  | some x => rw [eh] at e; exact ⟨x, rfl, e⟩
theorem ent_at {x : HouA} {h : Str} (e : houseOf E h = some x) (k : Str) : ent E h k = rowOf x.rows k := by unfold ent; rw [e]; rfl
theorem EOk.rev (h : EOk w E B) (hn : (E.map (·.name)).Nodup) {x : HouA} (hx : x ∈ E) {k : Str} (hk : k ∈ keysR x.rows) : ∃ b, bkOf B k = some b ∧ x.name ∈ b.pl.map (·.1) := by
  obtain ⟨r, hr⟩ := rowOf_mem hk
  have := h.lnk x.name k
  rw [ent_at (houseOf_mem hn hx), hr] at this
  exact plm_some.mp this.symm
theorem EOk.rlen (h : EOk w E B) (hn : (E.map (·.name)).Nodup) {x : HouA} (hx : x ∈ E) : x.rows.length ≤ B.length := by
  have := pige (h.hs.rok x hx).nd (U := B.map (·.name)) fun k hk => by
    obtain ⟨b, hb, _⟩ := h.rev hn hx hk
    obtain ⟨h1, h2⟩ := bkOf_some hb
    exact List.mem_map.mpr ⟨b, h1, h2⟩
  rwa [List.length_map, List.length_map] at this
theorem EOk.nil : EOk w [] [] := ⟨⟨(fun _ h => by cases h), (fun _ h => by cases h), (fun _ h => by cases h), (fun _ h => by cases h), (fun _ h => by cases h)⟩, fun _ _ => rfl, (fun _ _ _ _ _ e => by cases e), (fun _ _ _ e => by cases e), (fun _ h => by cases h), (fun _ h => by cases h)⟩
theorem ent_updA {ns : List Str} {f : HouA → HouA} (kf : Keeps f) (h k : Str) : ent (updA E ns f) h k = (houseOf E h).bind fun x => rowOf (if h ∈ ns then f x else x).rows k := by
  unfold ent
  rw [houseOf_updA kf]
  cases e : houseOf E h with
  | none => rfl
  | some x =>
    have := (houseOf_some e).2
    rw [Option.map_some, Option.bind_some, Option.bind_some, this]
theorem stp_cut (x : HouA) (n : Str) (t : Int) : cutR x.rows n t = (stepR w x.room x.rows (.cut n t)).2 := by
  cases e : rowOf x.rows n with
  | some r => rw [step_cut e]
  | none => unfold cutR stepR; dsimp only; rw [e]
theorem stp_drop (x : HouA) (n : Str) : delR x.rows n = (stepR w x.room x.rows (.drop n)).2 := by
  cases e : rowOf x.rows n with
  | some r => rw [step_drop e]
  | none =>
    have : delR x.rows n = x.rows := by
      unfold delR
      refine List.filter_eq_self.mpr fun r hr => ?_
      have := rowOf_none.mp e
      have hne : r.1 ≠ n := fun c => this (List.mem_map.mpr ⟨r, hr, c⟩)
      simp [hne]
    rw [this]
    unfold stepR; dsimp only; rw [e]
theorem HousesOk.step (hO : HousesOk w E) {E' : List HouA} (h : ∀ y ∈ E', ∃ x ∈ E, (y.name = x.name ∧ y.yard = x.yard ∧ y.room = x.room) ∧ (y.rows = x.rows ∨ ∃ d, fitD w d ∧ y.rows = (stepR w x.room x.rows d).2) ∧ y.rows.length ≤ 1000) : HousesOk w E' := by
  have key : ∀ y ∈ E', (y.room.length = w ∧ ∀ v ∈ y.room, 0 ≤ v) ∧ RowsOk w y.rows ∧ FitR w y.room y.rows ∧ (PyData.strOk y.name = true ∧ PyData.strOk y.yard = true) ∧ y.rows.length ≤ 1000 := fun y hy => by
    obtain ⟨x, hx, ⟨e1, e2, e3⟩, hr, hl⟩ := h y hy
    rw [e1, e2, e3]
    refine ⟨hO.room x hx, ?_, ?_, hO.ok x hx, hl⟩
    · rcases hr with hr | ⟨d, hd, hr⟩
      · rw [hr]; exact hO.rok x hx
      · rw [hr]; exact step_ok (hO.rok x hx) hd
    · rcases hr with hr | ⟨d, hd, hr⟩
      · rw [hr]; exact hO.fit x hx
      · rw [hr]; exact fit_step (hO.rok x hx) hd (hO.fit x hx)
  exact ⟨fun y hy => (key y hy).1, fun y hy => (key y hy).2.1, fun y hy => (key y hy).2.2.1, fun y hy => (key y hy).2.2.2.1, fun y hy => (key y hy).2.2.2.2⟩
theorem updA_mem {ns : List Str} {f : HouA → HouA} {y : HouA} (h : y ∈ updA E ns f) : ∃ x ∈ E, y = f x ∨ y = x := by
  obtain ⟨x, hx, rfl⟩ := List.mem_map.mp h
  refine ⟨x, hx, ?_⟩
  split
  · exact .inl rfl
  · exact .inr rfl
theorem plm_delB (n k h : Str) : plm (delB B n) k h = if k = n then none else plm B k h := by
  unfold plm
  have : bkOf (delB B n) k = if k = n then none else bkOf B k := by
    unfold delB bkOf
    rw [List.find?_filter]
    by_cases c : k = n
    · rw [if_pos c, List.find?_eq_none]
      intro b _ z
      simp only [c, Bool.and_eq_true, Bool.not_eq_true', decide_eq_false_iff_not, decide_eq_true_eq] at z
      exact z.1 z.2
    · rw [if_neg c]
      congr 1
      funext x
      by_cases d : x.name = k
      · simp [d, c]
      · simp [d]
  rw [this]
  by_cases c : k = n
  · rw [if_pos c, if_pos c]; rfl
  · rw [if_neg c, if_neg c]
theorem bkOf_BL' (nd : (B.map (·.name)).Nodup) (lost : Str → Str → Bool) (k : Str) : bkOf (BL B lost) k = (bkOf B k).bind (lessG lost) := by
  cases e : bkOf B k with
  | none =>
    rw [Option.bind_none]
    cases e2 : bkOf (BL B lost) k with
    | none => rfl
    | some c =>
      obtain ⟨h1, h2⟩ := bkOf_some e2
      obtain ⟨b, hb, eb⟩ := List.mem_filterMap.mp h1
      exact absurd (List.mem_map.mpr ⟨b, hb, by rw [← (lessG_name eb).1]; exact h2⟩) (bkOf_none e)
  | some b =>
    obtain ⟨hb, rfl⟩ := bkOf_some e
    rw [Option.bind_some]
    cases el : lessG lost b with
    | some c => exact bkOf_BL nd hb el
    | none =>
      cases e2 : bkOf (BL B lost) b.name with
      | none => rfl
      | some c =>
        obtain ⟨h1, h2⟩ := bkOf_some e2
        obtain ⟨b2, hb2, eb⟩ := List.mem_filterMap.mp h1
        have := injG (key := fun b : BkA => b.name) nd hb2 hb ((lessG_name eb).1.symm.trans h2)
        rw [this, el] at eb; cases eb
theorem plm_BL (nd : (B.map (·.name)).Nodup) (lost : Str → Str → Bool) (k h : Str) : plm (BL B lost) k h = if lost k h = true then none else plm B k h := by
  unfold plm
  rw [bkOf_BL' nd]
  cases e : bkOf B k with
  | none => simp
  | some b =>
    obtain ⟨hb, rfl⟩ := bkOf_some e
    rw [Option.bind_some, Option.bind_some]
    have ef : (b.pl.filter fun e => !lost b.name e.1).find? (fun e => decide (e.1 = h)) = if lost b.name h = true then none else b.pl.find? fun e => decide (e.1 = h) := by
      rw [List.find?_filter]
      by_cases c : lost b.name h = true
      · rw [if_pos c, List.find?_eq_none]
        intro x _ z
        simp only [Bool.and_eq_true, Bool.not_eq_true', decide_eq_true_eq] at z
        rw [z.2, c] at z
        exact absurd z.1 (by decide)
      · rw [if_neg c]
        congr 1
        funext x
        by_cases d : x.1 = h
        · simp [d, c]
        · simp [d]
    unfold lessG
    by_cases c : (b.pl.filter fun e => !lost b.name e.1).isEmpty = true
    · rw [if_pos c, Option.bind_none]
      rw [List.isEmpty_iff] at c
      rw [c] at ef
      by_cases d : lost b.name h = true
      · rw [if_pos d]
      · rw [if_neg d] at ef ⊢
        rw [← ef]; rfl
    · rw [if_neg c, Option.bind_some]
      dsimp only
      rw [ef]
      split <;> rfl
theorem BL_ne {lost : Str → Str → Bool} : ∀ b ∈ BL B lost, b.pl ≠ [] := fun c hc => by
  obtain ⟨b, hb, e⟩ := List.mem_filterMap.mp hc
  unfold lessG at e
  split at e
  · cases e
  · next h =>
    cases e
    rw [List.isEmpty_iff] at h
    exact h
theorem BL_ok {lost : Str → Str → Bool} (h : ∀ b ∈ B, PyData.strOk b.name = true) : ∀ b ∈ BL B lost, PyData.strOk b.name = true := fun c hc => by
  obtain ⟨b, hb, e⟩ := List.mem_filterMap.mp hc
  rw [(lessG_name e).1]; exact h b hb
end
end My
namespace My
open PySem PySem.Spec L2 Nu
open PyProof.Rows hiding St
section
variable {w : Nat} {E : List HouA} {B : List BkA}
theorem EOk.mk' {E' : List HouA} {B' : List BkA} (hs : HousesOk w E') (hl : ∀ h k, (ent E' h k).isSome = (plm B' k h).isSome) (f : Str → Rw → Rw) (he : ∀ h k r, ent E' h k = some r → ∃ r0, ent E h k = some r0 ∧ r = f k r0) (hf : ∀ k r r', r'.1 = r.1 → r'.2.1 = r.2.1 → (f k r').1 = (f k r).1 ∧ (f k r').2.1 = (f k r).2.1) (hlt : ∀ h k r, ent E' h k = some r → r.1 < r.2.1)
    (hne : ∀ b ∈ B', b.pl ≠ []) (hb : ∀ b ∈ B', PyData.strOk b.name = true) (h : EOk w E B) : EOk w E' B' :=
  ⟨hs, hl, fun k h1 h2 r r' e e' => by
    obtain ⟨r0, e0, rfl⟩ := he _ _ _ e
    obtain ⟨r1, e1, rfl⟩ := he _ _ _ e'
    obtain ⟨a, b⟩ := h.str _ _ _ _ _ e0 e1
    exact hf k _ _ a b, hlt, hne, hb⟩
theorem cut_ent {n : Str} {t : Int} {ns : List Str} (hns : ∀ h, (ent E h n).isSome = true → h ∈ ns) (h k : Str) : ent (updA E ns (cutHo n t)) h k = if k = n then (ent E h n).bind (cutO t) else ent E h k := by
  rw [ent_updA cutHo_keeps]
  cases e : houseOf E h with
  | none =>
    rw [Option.bind_none]
    unfold ent
    rw [e]; simp
  | some x =>
    rw [Option.bind_some, ent_at e, ent_at e]
    by_cases c : h ∈ ns
    · rw [if_pos c]
      exact rowOf_cut _ _ _ _
    · rw [if_neg c]
      by_cases d : k = n
      · rw [if_pos d, d]
        have : rowOf x.rows n = none := by
          cases e2 : rowOf x.rows n with
          | none => rfl
          | some r => exact absurd (hns h (by rw [ent_at e, e2]; rfl)) c
        rw [this]; rfl
      · rw [if_neg d]
theorem ent_names {b : BkA} {n : Str} (h : EOk w E B) (hb : bkOf B n = some b) (x : Str) (he : (ent E x n).isSome = true) : x ∈ b.pl.map (·.1) := by
  have := h.lnk x n
  rw [he] at this
  obtain ⟨b2, e2, hm⟩ := plm_some.mp this.symm
  rw [hb] at e2
  cases e2; exact hm
theorem cut_bnd {t : Int} {r r2 : Rw} (h : r.1 < r.2.1) (e : cutO t r = some r2) : r2.1 < r2.2.1 := by
  unfold cutO at e
  split at e
  · cases e
  · cases e
    dsimp only
    split <;> omega
theorem EOk.cut {n : Str} {t s e : Int} {b : BkA} (h : EOk w E B) (hk : (B.map (·.name)).Nodup) (hb : bkOf B n = some b) (hsp : Spr E b s e) : EOk w (updA E (b.pl.map (·.1)) (cutHo n t)) (if t ≤ s then delB B n else B) := by
  have ee := cut_ent (E := E) (t := t) (ent_names h hb)
  obtain ⟨hbB, hbn⟩ := bkOf_some hb
  have hse : ∀ {h' : Str} {r : Rw}, ent E h' n = some r → r.1 = s := fun {h' r} e' => by
    have hm := ent_names h hb h' (by rw [e']; rfl)
    obtain ⟨p, hp, rfl⟩ := List.mem_map.mp hm
    obtain ⟨x, ex, l, hr⟩ := hsp p hp
    rw [ent_at ex, ← hbn, hr] at e'
    cases e'; rfl
  have isS : ∀ h', ((ent E h' n).bind (cutO t)).isSome = (decide (¬ t ≤ s) && (ent E h' n).isSome) := fun h' => by
    cases e1 : ent E h' n with
    | none => simp
    | some r =>
      have := hse e1
      rw [Option.bind_some]
      unfold cutO
      rw [this]
      by_cases c : t ≤ s
      · rw [if_pos c]; simp [c]
      · rw [if_neg c]; simp [c]
  refine EOk.mk' ?_ (fun h' k => ?_) (fun k r => if k = n then (r.1, if t < r.2.1 then t else r.2.1, r.2.2) else r) (fun h' k r e' => ?_) (fun k r r' a b => ?_) (fun h' k r e' => ?_) (fun c hc => ?_) (fun c hc => ?_) h
  · refine h.hs.step fun y hy => ?_
    obtain ⟨x, hx, rfl | rfl⟩ := updA_mem hy
    · exact ⟨x, hx, ⟨rfl, rfl, rfl⟩, .inr ⟨.cut n t, trivial, stp_cut x n t⟩, Nat.le_trans (cut_len _ _ _) (h.hs.len x hx)⟩
    · exact ⟨_, hx, ⟨rfl, rfl, rfl⟩, .inl rfl, h.hs.len _ hx⟩
  · rw [ee]
    by_cases c : k = n
    · subst c
      rw [if_pos rfl, isS]
      by_cases d : t ≤ s
      · rw [if_pos d, plm_delB, if_pos rfl]; simp [d]
      · rw [if_neg d, h.lnk]; simp [d]
    · rw [if_neg c, h.lnk]
      by_cases d : t ≤ s
      · rw [if_pos d, plm_delB, if_neg c]
      · rw [if_neg d]
  · rw [ee] at e'
    by_cases c : k = n
    · subst c
      rw [if_pos rfl] at e'
      obtain ⟨r0, e0, e1⟩ := Option.bind_eq_some_iff.mp e'
      refine ⟨r0, e0, ?_⟩
      rw [if_pos rfl]
      unfold cutO at e1
      split at e1
      · cases e1
      · cases e1; rfl
    · rw [if_neg c] at e'
      exact ⟨r, e', by rw [if_neg c]⟩
  · by_cases c : k = n
    · rw [if_pos c, if_pos c]
      dsimp only
      rw [a, b]; exact ⟨rfl, rfl⟩
    · rw [if_neg c, if_neg c]; exact ⟨a, b⟩
  · rw [ee] at e'
    by_cases c : k = n
    · subst c
      rw [if_pos rfl] at e'
      obtain ⟨r0, e0, e1⟩ := Option.bind_eq_some_iff.mp e'
      exact cut_bnd (h.lt _ _ _ e0) e1
    · rw [if_neg c] at e'; exact h.lt _ _ _ e'
  · split at hc
    · exact h.ne c (List.mem_filter.mp hc).1
    · exact h.ne c hc
  · split at hc
    · exact h.bok c (List.mem_filter.mp hc).1
    · exact h.bok c hc
theorem drop_ent {n : Str} {ns : List Str} (hns : ∀ h, (ent E h n).isSome = true → h ∈ ns) (h k : Str) : ent (updA E ns (dropHo n)) h k = if k = n then none else ent E h k := by
  rw [ent_updA dropHo_keeps]
  cases e : houseOf E h with
  | none =>
    rw [Option.bind_none]
    unfold ent
    rw [e]; simp
  | some x =>
    rw [Option.bind_some, ent_at e]
    by_cases c : h ∈ ns
    · rw [if_pos c]
      exact rowOf_del _ _ _
    · rw [if_neg c]
      by_cases d : k = n
      · rw [if_pos d, d]
        cases e2 : rowOf x.rows n with
        | none => rfl
        | some r => exact absurd (hns h (by rw [ent_at e, e2]; rfl)) c
      · rw [if_neg d]
theorem EOk.drop {n : Str} {b : BkA} (h : EOk w E B) (hb : bkOf B n = some b) : EOk w (updA E (b.pl.map (·.1)) (dropHo n)) (delB B n) := by
  have ee := drop_ent (E := E) (ent_names h hb)
  refine EOk.mk' ?_ (fun h' k => ?_) (fun _ r => r) (fun h' k r e' => ?_) (fun k r r' a b => ⟨a, b⟩) (fun h' k r e' => ?_) (fun c hc => h.ne c (List.mem_filter.mp hc).1) (fun c hc => h.bok c (List.mem_filter.mp hc).1) h
  · refine h.hs.step fun y hy => ?_
    obtain ⟨x, hx, rfl | rfl⟩ := updA_mem hy
    · exact ⟨x, hx, ⟨rfl, rfl, rfl⟩, .inr ⟨.drop n, trivial, stp_drop x n⟩, Nat.le_trans (del_len _ _) (h.hs.len x hx)⟩
    · exact ⟨_, hx, ⟨rfl, rfl, rfl⟩, .inl rfl, h.hs.len _ hx⟩
  · rw [ee, plm_delB]
    by_cases c : k = n
    · rw [if_pos c, if_pos c]; rfl
    · rw [if_neg c, if_neg c, h.lnk]
  · rw [ee] at e'
    split at e'
    · cases e'
    · exact ⟨r, e', rfl⟩
  · rw [ee] at e'
    split at e'
    · cases e'
    · exact h.lt _ _ _ e'
theorem str_ent {n : Str} {t : Int} {ns : List Str} (hns : ∀ h, (ent E h n).isSome = true → h ∈ ns) (h k : Str) : ent (updA E ns (strHo n t)) h k = if k = n then (ent E h n).map (strR1 t) else ent E h k := by
  rw [ent_updA strHo_keeps]
  cases e : houseOf E h with
  | none =>
    rw [Option.bind_none]
    unfold ent
    rw [e]; simp
  | some x =>
    rw [Option.bind_some, ent_at e, ent_at e]
    by_cases c : h ∈ ns
    · rw [if_pos c]
      exact rowOf_str _ _ _ _
    · rw [if_neg c]
      by_cases d : k = n
      · rw [if_pos d, d]
        have : rowOf x.rows n = none := by
          cases e2 : rowOf x.rows n with
          | none => rfl
          | some r => exact absurd (hns h (by rw [ent_at e, e2]; rfl)) c
        rw [this]; rfl
      · rw [if_neg d]
theorem bad_none' {b : BkA} {t : Int} (h : badS E b t = none) {x : Str} (hx : x ∈ b.pl.map (·.1)) : strE E b.name t x = none := by
  unfold badS at h
  exact List.findSome?_eq_none_iff.mp h x (srtT_mem.mpr hx)
theorem EOk.stretch {n : Str} {t : Int} {b : BkA} (h : EOk w E B) (hn : (E.map (·.name)).Nodup) (hb : bkOf B n = some b) (hbad : badS E b t = none) : EOk w (updA E (b.pl.map (·.1)) (strHo n t)) B := by
  have ee := str_ent (E := E) (t := t) (ent_names h hb)
  obtain ⟨hbB, hbn⟩ := bkOf_some hb
  refine EOk.mk' ?_ (fun h' k => ?_) (fun k r => if k = n then strR1 t r else r) (fun h' k r e' => ?_) (fun k r r' a b => ?_) (fun h' k r e' => ?_) h.ne h.bok h
  · refine h.hs.step fun y hy => ?_
    obtain ⟨x, hx, rfl⟩ := List.mem_map.mp hy
    by_cases c : x.name ∈ b.pl.map (·.1)
    · rw [if_pos c]
      have hno := bad_none' hbad c
      unfold strE at hno
      rw [houseOf_mem hn hx, hbn] at hno
      have hno : strO n t x = none := hno
      have hr : (strHo n t x).rows = (stepR w x.room x.rows (.stretch n t)).2 := by
        show strRw x.rows n t = _
        cases e1 : rowOf x.rows n with
        | none => unfold strRw stepR; dsimp only; rw [e1]
        | some r =>
          have := step_str (t := t) e1
          rw [hno, (h.hs.room x hx).1] at this
          rw [this]
      refine ⟨x, hx, ⟨rfl, rfl, rfl⟩, .inr ⟨.stretch n t, trivial, hr⟩, ?_⟩
      rw [hr]
      have hk : ∀ k ∈ keysR (stepR w x.room x.rows (.stretch n t)).2, k ∈ keysR x.rows := fun k hk => by
        rcases step_keys hk with z | ⟨_, _, _, z⟩
        · exact z
        · cases z
      have := pige (step_ok (room := x.room) (d := .stretch n t) (h.hs.rok x hx) trivial).nd hk
      rw [List.length_map, List.length_map] at this
      exact Nat.le_trans this (h.hs.len x hx)
    · rw [if_neg c]
      exact ⟨x, hx, ⟨rfl, rfl, rfl⟩, .inl rfl, h.hs.len x hx⟩
  · rw [ee]
    by_cases c : k = n
    · subst c
      rw [if_pos rfl, Option.isSome_map, h.lnk]
    · rw [if_neg c, h.lnk]
  · rw [ee] at e'
    by_cases c : k = n
    · subst c
      rw [if_pos rfl] at e'
      obtain ⟨r0, e0, e1⟩ := Option.map_eq_some_iff.mp e'
      exact ⟨r0, e0, by rw [if_pos rfl, e1]⟩
    · rw [if_neg c] at e'
      exact ⟨r, e', by rw [if_neg c]⟩
  · by_cases c : k = n
    · rw [if_pos c, if_pos c]
      unfold strR1
      dsimp only
      rw [a, b]; exact ⟨rfl, rfl⟩
    · rw [if_neg c, if_neg c]; exact ⟨a, b⟩
  · rw [ee] at e'
    by_cases c : k = n
    · subst c
      rw [if_pos rfl] at e'
      obtain ⟨r0, e0, rfl⟩ := Option.map_eq_some_iff.mp e'
      have := h.lt _ _ _ e0
      unfold strR1
      dsimp only
      split <;> omega
    · rw [if_neg c] at e'; exact h.lt _ _ _ e'
theorem past_ent (hr : ∀ x ∈ E, (keysR x.rows).Nodup) (t : Int) (h k : Str) : ent (E.map (pastH t)) h k = (ent E h k).bind fun r => if r.2.1 ≤ t then none else some r := by
  have ho : houseOf (E.map (pastH t)) h = (houseOf E h).map (pastH t) := by
    unfold houseOf
    rw [List.find?_map]; rfl
  unfold ent
  rw [ho]
  cases e : houseOf E h with
  | none => rfl
  | some x =>
    rw [Option.map_some, Option.bind_some, Option.bind_some]
    show rowOf ((goneT x.rows t).foldl delR x.rows) k = _
    rw [rowOf_dels]
    have gi := gone_iff (hr x (houseOf_some e).1) (t := t) (k := k)
    by_cases c : k ∈ goneT x.rows t
    · rw [if_pos c]
      obtain ⟨r, h1, h2⟩ := gi.mp c
      rw [h1, Option.bind_some, if_pos h2]
    · rw [if_neg c]
      cases e2 : rowOf x.rows k with
      | none => rfl
      | some r =>
        rw [Option.bind_some, if_neg fun z => c (gi.mpr ⟨r, e2, z⟩)]
theorem lostT_iff (hr : ∀ x ∈ E, (keysR x.rows).Nodup) (t : Int) (k h : Str) : lostT E t k h = true ↔ ∃ r, ent E h k = some r ∧ r.2.1 ≤ t := by
  unfold lostT ent
  cases e : houseOf E h with
  | none => simp
  | some x =>
    rw [Option.map_some, Option.getD_some, decide_eq_true_eq, Option.bind_some]
    exact gone_iff (hr x (houseOf_some e).1)
theorem EOk.past {t : Int} (h : EOk w E B) (hk : (B.map (·.name)).Nodup) : EOk w (E.map (pastH t)) (BL B (lostT E t)) := by
  have hr : ∀ x ∈ E, (keysR x.rows).Nodup := fun x hx => (h.hs.rok x hx).nd
  have ee := past_ent hr t
  refine EOk.mk' ?_ (fun h' k => ?_) (fun _ r => r) (fun h' k r e' => ?_) (fun k r r' a b => ⟨a, b⟩) (fun h' k r e' => ?_) BL_ne (BL_ok h.bok) h
  · refine h.hs.step fun y hy => ?_
    obtain ⟨x, hx, rfl⟩ := List.mem_map.mp hy
    exact ⟨x, hx, ⟨rfl, rfl, rfl⟩, .inr ⟨.past t, trivial, rfl⟩, Nat.le_trans (dels_len _ _) (h.hs.len x hx)⟩
  · rw [ee, plm_BL hk]
    have li := lostT_iff hr t k h'
    cases e1 : ent E h' k with
    | none =>
      rw [Option.bind_none, if_neg fun c => (by
        obtain ⟨r, z, _⟩ := li.mp c
        rw [e1] at z; cases z), ← h.lnk, e1]
    | some r =>
      rw [Option.bind_some]
      by_cases c : r.2.1 ≤ t
      · rw [if_pos c, if_pos (li.mpr ⟨r, e1, c⟩)]; rfl
      · rw [if_neg c, if_neg fun z => (by
          obtain ⟨r2, z1, z2⟩ := li.mp z
          rw [e1] at z1
          cases z1; exact c z2), ← h.lnk, e1]
        first | rfl | done
  · rw [ee] at e'
    obtain ⟨r0, e0, e1⟩ := Option.bind_eq_some_iff.mp e'
    split at e1
    · cases e1
    · cases e1; exact ⟨r, e0, rfl⟩
  · rw [ee] at e'
    obtain ⟨r0, e0, e1⟩ := Option.bind_eq_some_iff.mp e'
    split at e1
    · cases e1
    · cases e1; exact h.lt _ _ _ e0
theorem EOk.state {n s : Str} (h : EOk w E B) : EOk w (updH E n fun y => { y with state := s }) B := by
  have kf : Keeps fun y : HouA => { y with state := s } := ⟨fun _ => rfl, fun _ => rfl, fun _ => rfl, fun _ => rfl⟩
  have ee : ∀ h' k, ent (updH E n fun y => { y with state := s }) h' k = ent E h' k := fun h' k => by
    unfold ent
    rw [houseOf_upd kf]
    cases e : houseOf E h' with
    | none => rfl
    | some x =>
      rw [Option.map_some, Option.bind_some, Option.bind_some]
      split <;> rfl
  refine ⟨h.hs.step fun y hy => ?_, fun h' k => by rw [ee, h.lnk], fun k h1 h2 r r' e e' => ?_, fun h' k r e => ?_, h.ne, h.bok⟩
  · obtain ⟨x, hx, ⟨_, rfl⟩ | ⟨_, rfl⟩⟩ := updH_mem hy
    · exact ⟨x, hx, ⟨rfl, rfl, rfl⟩, .inl rfl, h.hs.len x hx⟩
    · exact ⟨_, hx, ⟨rfl, rfl, rfl⟩, .inl rfl, h.hs.len _ hx⟩
  · rw [ee] at e e'
    exact h.str _ _ _ _ _ e e'
  · rw [ee] at e
    exact h.lt _ _ _ e
theorem ent_book {g : Gang} {t : Int} : ∀ {pl : List (Str × Int)} {E : List HouA}, (pl.map (·.1)).Nodup → (∀ p ∈ pl, ∃ x, houseOf E p.1 = some x ∧ g.name ∉ keysR x.rows) → (∀ p ∈ pl, (putO E g t p).ok = true) → ∀ h k, ent (bookE E g t pl) h k = if k = g.name ∧ h ∈ pl.map (·.1) then (pl.find? fun e => decide (e.1 = h)).map fun e => (t, t + g.cost, g.want.map fun v => v * e.2) else ent E h k
  | [], E, _, _, _, h, k => by
    rw [if_neg (by simp)]; rfl
  | p :: pl, E, nd, hin, hok, h, k => by
    rw [List.map_cons, List.nodup_cons] at nd
    obtain ⟨x, ex, hx⟩ := hin p (List.mem_cons_self ..)
    have hp := hok p (List.mem_cons_self ..)
    rw [putO_of ex] at hp
    have hrw : (putH g t p.2 x).rows = putR x.rows g.name (t, t + g.cost, g.want.map fun v => v * p.2) := by
      show (putS g t p.2 x).2 = _
      unfold putS at hp ⊢
      unfold stepR at hp ⊢
      dsimp only at hp ⊢
      rw [if_neg hx] at hp ⊢
      cases ef : fmT x.room.length x.room (rws x.rows) t (t + g.cost) (g.want.map fun v => v * p.2) with
      | none => rfl
      | some u => rw [ef] at hp; cases hp
    have ho : ∀ q, q ≠ p.1 → houseOf (updH E p.1 (putH g t p.2)) q = houseOf E q := fun q hq => by
      rw [houseOf_upd putH_keeps]
      cases e : houseOf E q with
      | none => rfl
      | some y => rw [Option.map_some, if_neg (by rw [(houseOf_some e).2]; exact hq)]
    have hne : ∀ q ∈ pl, q.1 ≠ p.1 := fun q hq e => nd.1 (List.mem_map.mpr ⟨q, hq, e⟩)
    have ih := ent_book (g := g) (t := t) (pl := pl) (E := updH E p.1 (putH g t p.2)) nd.2 (fun q hq => by rw [ho _ (hne q hq)]; exact hin q (List.mem_cons_of_mem _ hq)) (fun q hq => by
      have := hok q (List.mem_cons_of_mem _ hq)
      unfold putO at this ⊢
      rw [ho _ (hne q hq)]; exact this) h k
    show ent (bookE (updH E p.1 (putH g t p.2)) g t pl) h k = _
    rw [ih]
    have he : ent (updH E p.1 (putH g t p.2)) h k = if k = g.name ∧ h = p.1 then some (t, t + g.cost, g.want.map fun v => v * p.2) else ent E h k := by
      by_cases c : h = p.1
      · subst c
        have : houseOf (updH E p.1 (putH g t p.2)) p.1 = some (putH g t p.2 x) := by
          rw [houseOf_upd putH_keeps, ex, Option.map_some, if_pos (houseOf_some ex).2]
        rw [ent_at this, ent_at ex, hrw, rowOf_put]
        by_cases d : k = g.name
        · rw [if_pos d, if_pos ⟨d, rfl⟩]
        · rw [if_neg d, if_neg fun z => d z.1]
      · unfold ent
        rw [ho h c, if_neg fun z => c z.2]
    rw [he]
    by_cases d : k = g.name
    · by_cases c : h = p.1
      · have hnp : ¬ h ∈ pl.map (·.1) := by rw [c]; exact nd.1
        rw [if_neg fun z => hnp z.2, if_pos ⟨d, c⟩, if_pos ⟨d, by rw [c]; simp⟩, List.find?_cons_of_pos (by simp [c])]
        rfl
      · by_cases m : h ∈ pl.map (·.1)
        · rw [if_pos ⟨d, m⟩, if_pos ⟨d, by rw [List.map_cons]; exact List.mem_cons_of_mem _ m⟩, List.find?_cons_of_neg (by simp; exact fun z => c z.symm)]
        · rw [if_neg fun z => m z.2, if_neg fun z => c z.2, if_neg]
          rintro ⟨_, z⟩
          rw [List.map_cons] at z
          rcases List.mem_cons.mp z with z | z
          · exact c z
          · exact m z
    · rw [if_neg fun z => d z.1, if_neg fun z => d z.1, if_neg fun z => d z.1]
theorem plm_snoc {b : BkA} (hn : b.name ∉ B.map (·.name)) (k h : Str) : plm (B ++ [b]) k h = if k = b.name then (b.pl.find? fun e => decide (e.1 = h)).map (·.2) else plm B k h := by
  unfold plm bkOf
  rw [List.find?_append]
  by_cases c : k = b.name
  · subst c
    have : B.find? (fun x => decide (x.name = b.name)) = none := List.find?_eq_none.mpr fun x hx z => hn (List.mem_map.mpr ⟨x, hx, of_decide_eq_true z⟩)
    rw [if_pos rfl, this, Option.none_or, List.find?_cons_of_pos (by simp)]; rfl
  · rw [if_neg c]
    have : [b].find? (fun x => decide (x.name = k)) = none := List.find?_eq_none.mpr fun x hx z => by
      rw [List.mem_singleton.mp hx] at z
      exact c (of_decide_eq_true z).symm
    rw [this, Option.or_none]
theorem bookE_mem {g : Gang} {t : Int} : ∀ {pl : List (Str × Int)} {E : List HouA} {y : HouA}, (pl.map (·.1)).Nodup → y ∈ bookE E g t pl → ∃ x ∈ E, y = x ∨ ∃ p ∈ pl, x.name = p.1 ∧ y = putH g t p.2 x
  | [], E, y, _, h => ⟨y, h, .inl rfl⟩
  | p :: pl, E, y, nd, h => by
    rw [List.map_cons, List.nodup_cons] at nd
    obtain ⟨x, hx, hy⟩ := bookE_mem (pl := pl) (E := updH E p.1 (putH g t p.2)) nd.2 h
    obtain ⟨z, hz, ⟨hzn, rfl⟩ | ⟨hzn, rfl⟩⟩ := updH_mem hx
    · rcases hy with rfl | ⟨q, hq, e, rfl⟩
      · exact ⟨z, hz, .inr ⟨p, List.mem_cons_self .., hzn, rfl⟩⟩
      · exfalso
        have e : z.name = q.1 := e
        exact nd.1 (List.mem_map.mpr ⟨q, hq, by rw [← e, hzn]⟩)
    · rcases hy with rfl | ⟨q, hq, e, rfl⟩
      · exact ⟨_, hz, .inl rfl⟩
      · exact ⟨_, hz, .inr ⟨q, List.mem_cons_of_mem _ hq, e, rfl⟩⟩
theorem EOk.book {g : Gang} {t : Int} {pl : List (Str × Int)} {q : Addr} (h : EOk w E B) (hn : (E.map (·.name)).Nodup) (hB : B.length < 1000) (hnew : bkOf B g.name = none) (nd : (pl.map (·.1)).Nodup) (hp0 : pl ≠ []) (hin : ∀ p ∈ pl, ∃ x, houseOf E p.1 = some x) (hpos : ∀ p ∈ pl, 0 ≤ p.2) (hg : 0 < g.cost ∧ g.want.length = w ∧ (∀ v ∈ g.want, 0 ≤ v) ∧ PyData.strOk g.name = true) (hbad : badO E g t pl = none) : EOk w (bookE E g t pl) (B ++ [⟨g.name, pl, q⟩]) := by
  have hnb := bkOf_none hnew
  have hno : ∀ x ∈ E, g.name ∉ keysR x.rows := fun x hx z => by
    obtain ⟨b, hb, _⟩ := h.rev hn hx z
    rw [hnew] at hb; cases hb
  have ee := ent_book (g := g) (t := t) nd (fun p hp => by
    obtain ⟨x, ex⟩ := hin p hp
    exact ⟨x, ex, hno x (houseOf_some ex).1⟩) (fun p hp => bad_ok hbad hp)
  have eg : ∀ h', ent E h' g.name = none := fun h' => by
    cases e : ent E h' g.name with
    | none => rfl
    | some r =>
      obtain ⟨x, ex, hr⟩ := ent_of e
      exact absurd (List.mem_map.mpr ⟨_, rowOf_some hr, rfl⟩) (hno x (houseOf_some ex).1)
  refine ⟨h.hs.step fun y hy => ?_, fun h' k => ?_, fun k h1 h2 r r' e e' => ?_, fun h' k r e => ?_, fun b hb => ?_, fun b hb => ?_⟩
  · obtain ⟨x, hx, rfl | ⟨p, hp, _, rfl⟩⟩ := bookE_mem nd hy
    · exact ⟨_, hx, ⟨rfl, rfl, rfl⟩, .inl rfl, h.hs.len _ hx⟩
    · refine ⟨x, hx, ⟨rfl, rfl, rfl⟩, .inr ⟨.put g.name t (t + g.cost) (g.want.map fun v => v * p.2), ⟨by omega, by rw [List.length_map]; exact hg.2.1, fun v hv => ?_, hg.2.2.2⟩, ?_⟩, ?_⟩
      · obtain ⟨u, hu, rfl⟩ := List.mem_map.mp hv
        exact Int.mul_nonneg (hg.2.2.1 u hu) (hpos p hp)
      · show (putS g t p.2 x).2 = _
        unfold putS
        rw [(h.hs.room x hx).1]
      · show (putS g t p.2 x).2.length ≤ 1000
        unfold putS
        have h1 := step_len (w := x.room.length) (room := x.room) (R := x.rows) (d := .put g.name t (t + g.cost) (g.want.map fun v => v * p.2))
        have h2 := h.rlen hn hx
        omega
  · rw [ee, plm_snoc (b := ⟨g.name, pl, q⟩) hnb]
    by_cases c : k = g.name
    · subst c
      by_cases d : h' ∈ pl.map (·.1)
      · rw [if_pos ⟨rfl, d⟩, if_pos rfl, Option.isSome_map, Option.isSome_map]
      · rw [if_neg fun z => d z.2, if_pos rfl, eg, Option.isSome_map]
        cases e : pl.find? fun e => decide (e.1 = h') with
        | none => rfl
        | some x => exact absurd (find_pl.mp (by rw [e]; rfl)) d
    · rw [if_neg fun z => c z.1, if_neg (by exact c), h.lnk]
  · rw [ee] at e e'
    by_cases c : k = g.name
    · subst c
      have z : ∀ h'' r'', (if g.name = g.name ∧ h'' ∈ pl.map (·.1) then (pl.find? fun e => decide (e.1 = h'')).map fun e => (t, t + g.cost, g.want.map fun v => v * e.2) else ent E h'' g.name) = some r'' → r''.1 = t ∧ r''.2.1 = t + g.cost := fun h'' r'' z => by
        split at z
        · obtain ⟨x, _, rfl⟩ := Option.map_eq_some_iff.mp z
          exact ⟨rfl, rfl⟩
        · rw [eg] at z; cases z
      obtain ⟨a1, a2⟩ := z _ _ e
      obtain ⟨b1, b2⟩ := z _ _ e'
      exact ⟨by rw [a1, b1], by rw [a2, b2]⟩
    · rw [if_neg fun z => c z.1] at e e'
      exact h.str _ _ _ _ _ e e'
  · rw [ee] at e
    split at e
    · obtain ⟨x, _, rfl⟩ := Option.map_eq_some_iff.mp e
      show t < t + g.cost
      omega
    · exact h.lt _ _ _ e
  · rcases List.mem_append.mp hb with hb | hb
    · exact h.ne b hb
    · rw [List.mem_singleton.mp hb]; exact hp0
  · rcases List.mem_append.mp hb with hb | hb
    · exact h.bok b hb
    · rw [List.mem_singleton.mp hb]; exact hg.2.2.2
end
end My
namespace My
open PySem PySem.Spec L2 Nu
open PyProof.Rows hiding St
theorem EOk.off {w : Nat} {E : List HouA} {B : List BkA} (h : EOk w E B) (hn : (E.map (·.name)).Nodup) {n : Str} {b : BkA} (hb : bkOf B n = some b) {x : HouA} (hx : x ∈ E) (c : x.name ∉ b.pl.map (·.1)) : rowOf x.rows n = none := by
  cases e : rowOf x.rows n with
  | none => rfl
  | some r =>
    exact absurd (ent_names h hb x.name (by rw [ent_at (houseOf_mem hn hx), e]; rfl)) c
/-- the names of an estate's gangs, in whatever is walked -/
def StrsAt (m : MS) (d : D) (ns : List Str) : Prop := d = .lst (ns.map .str) ∨ d = .tup (ns.map .str) ∨ ∃ p, d = .raw (.ref p) ∧ m p = some (.lst (ns.map .str))
theorem StrsAt.le {m m' : MS} {d : D} {ns : List Str} (h : StrsAt m d ns) (l : MLe m m') : StrsAt m' d ns := by
  rcases h with h | h | ⟨p, h, k⟩
  · exact .inl h
  · exact .inr (.inl h)
  · exact .inr (.inr ⟨p, h, l _ _ k⟩)
structure ButOk (w : Nat) (E : List HouA) (B : List BkA) (ns ps : List Str) : Prop where
  eok : EOk w E B
  ww : 1 ≤ w ∧ w ≤ 8
  len : E.length ≤ 100 ∧ B.length ≤ 1000
  nsk : ns.Nodup ∧ ∀ n ∈ ns, ∃ b, bkOf B n = some b
  psk : ps.Nodup ∧ ∀ n ∈ ps, n ∉ ns ∧ ∃ b, bkOf B n = some b
end My
namespace My
open PySem PySem.Spec L2 Nu
open PyProof.Rows hiding St
theorem ButOk.sub {w : Nat} {E : List HouA} {B : List BkA} {ns ps ns' ps' : List Str} (h : ButOk w E B ns ps) (hn : ns'.Sublist ns) (hp : ps'.Sublist ps) : ButOk w E B ns' ps' :=
  ⟨h.eok, h.ww, h.len, ⟨hn.nodup h.nsk.1, fun n k => h.nsk.2 n (hn.subset k)⟩, ⟨hp.nodup h.psk.1, fun n k => ⟨fun z => (h.psk.2 n (hp.subset k)).1 (hn.subset z), (h.psk.2 n (hp.subset k)).2⟩⟩⟩
theorem cutH3 (xs : List D) (n : Nat) : Nu.cutD xs none (some (n : Int)) = xs.take n := by
  unfold Nu.cutD
  rw [HT.sIx_none, List.drop_zero, Nat.sub_zero, HT.sIx_nat]
  rcases Nat.le_total n xs.length with h | h
  · rw [Nat.min_eq_left h]
  · rw [Nat.min_eq_right h, List.take_of_length_le (Nat.le_refl _), List.take_of_length_le h]
end My
namespace My
open PySem PySem.Spec L2 Nu
open PyProof.Rows hiding St
def a__law_counts_d162 : ASp := fun ss m P _ => ∃ (x : Addr) (k : Int), ss = [.raw (.ref x)] ∧ B3 m x k ∧ (0 ≤ k ∧ k ≤ 900000) ∧ ∀ l : List Pr, l.length ≤ 9 → aft3 x m (k + 10) (P (prsD l))
theorem len__law_counts_d162 : ∀ ss m P Z, a__law_counts_d162 ss m P Z → ss.length = 1 := by
  rintro _ m P Z ⟨x, k, rfl, _⟩; rfl
abbrev n__law_counts_d162 : List Str := ["_law_box_here", "_law_names", "_law_name"]
theorem nd__law_counts_d162 : (n__law_counts_d162).Nodup := by decide +kernel
def u__law_counts_d162 : SS :=
  (.cons (.set 1 (.bop sSlH (.cons (.bop sLst (.cons (.cst (.str "a")) (.cons (.cst (.str "b")) (.cons (.cst (.str "ca")) (.cons (.cst (.str "d")) (.cons (.cst (.str "e")) (.cons (.cst (.str "fox")) (.cons (.cst (.str "g")) (.cons (.cst (.str "h")) (.cons (.cst (.str "zzzzzzzz")) .nil)))))))))) (.cons (.call a__law_take_9ad5 (.cons (.var 0) (.cons (.cst (.int 10)) .nil))) .nil))))
  (.cons (.ret (.bop sToTup (.cons (.lc (.name 2) isVal (.cons (.var 1) .nil) .nil (.bop sTup (.cons (.var 2) (.cons (.call a__law_take_9ad5 (.cons (.var 0) (.cons (.cst (.int 61)) .nil))) .nil)))) .nil)))
  .nil))
theorem body__law_counts_d162 : ∀ (ss : List D) (m : MS) (P : NX) (Z : EZ), a__law_counts_d162 ss m P Z → WB u__law_counts_d162 (startR n__law_counts_d162 ss) m (bodyE P Z) := by
  rintro _ m P Z ⟨x, k, rfl, hB, ⟨hk0, hk⟩, q⟩
  (conv => whnf)
  refine .inl ?_
  (conv => whnf)
  refine ⟨x, 10, k, rfl, hB, ⟨by omega, by decide, by decide⟩, fun v v0 v1 B hB => ?_⟩
  (conv => whnf)
  refine .inl ?_
  obtain ⟨n, rfl⟩ : ∃ n : Nat, v = n := ⟨v.toNat, by omega⟩
  have hc := cutH3 [D.str "a", D.str "b", D.str "ca", D.str "d", D.str "e", D.str "fox", D.str "g", D.str "h", D.str "zzzzzzzz"] n
  rw [hc]
  have hS : ([D.str "a", D.str "b", D.str "ca", D.str "d", D.str "e", D.str "fox", D.str "g", D.str "h", D.str "zzzzzzzz"] : List D).take n = ((["a", "b", "ca", "d", "e", "fox", "g", "h", "zzzzzzzz"] : List Str).take n).map D.str := by
    rw [List.map_take]; rfl
  rw [hS]
  have hl : ((["a", "b", "ca", "d", "e", "fox", "g", "h", "zzzzzzzz"] : List Str).take n).length ≤ 9 := by
    rw [List.length_take]
    exact Nat.min_le_right _ _
  generalize (["a", "b", "ca", "d", "e", "fox", "g", "h", "zzzzzzzz"] : List Str).take n = S at hl
  (conv => whnf)
  refine ⟨by rw [List.length_map]; omega, fun i acc m' => ∃ (l : List Pr) (B : Cell), acc = l.map prD ∧ m' = mset m x B ∧ B3c (k + 1 + i) B ∧ l.length = i, ⟨[], B, rfl, rfl, hB.mono (by omega), rfl⟩, fun _ _ _ _ _ => trivial, ?_, ?_⟩
  · rintro i d acc m' hd ⟨l, B, rfl, rfl, hB, hll⟩
    rw [List.getElem?_map] at hd
    obtain ⟨s, hs, rfl⟩ := Option.map_eq_some_iff.mp hd
    have hil : i < 9 := by
      have := (List.getElem?_eq_some_iff.mp hs).1
      omega
    (conv => whnf)
    refine ⟨fun _ => ?_, fun c => (by cases c)⟩
    (conv => whnf)
    refine ⟨x, 61, k + 1 + i, rfl, hB.put, ⟨by omega, by decide, by decide⟩, fun v v0 v1 B hB => ?_⟩
    rw [mset_mset]
    (conv => whnf)
    exact ⟨l ++ [(s, v)], B, by rw [List.map_append]; rfl, rfl, hB.mono (by omega), by simp [hll]⟩
  rintro acc m' ⟨l, B, rfl, rfl, hB, hll⟩
  rw [List.length_map] at hll hB
  refine .inl ?_
  (conv => whnf)
  exact ret (q l (by omega) B (hB.mono (by omega)))
end My
namespace My
open PySem PySem.Spec L2 Nu
open PyProof.Rows hiding St
def smk (m : MS) : Nat → D → D → Prop
  | 0, _, _ => False
  | n + 1, d, e => match d, e with
    | .non, .non => True
    | .int i, .int j => i = j
    | .str i, .str j => i = j
    | .lst xs, .lst ys => alkL (smk m n) xs ys
    | .tup xs, .tup ys => alkL (smk m n) xs ys
    | .tup xs, .ptp ys => alkL (smk m n) xs ys
    | .raw (.ref p), .lst ys => ∃ xs, m p = some (.lst xs) ∧ alkL (smk m n) xs ys
    | _, _ => False
theorem dpt_tup {n : Nat} {xs : List D} (h : xs.length ≤ 1000) (k : ∀ x ∈ xs, dpt n x = true) : dpt (n + 1) (.tup xs) = true := by
  unfold dpt
  rw [decide_eq_true h, dpts_of k]; rfl
theorem dpt_lst {n : Nat} {xs : List D} (h : xs.length ≤ 1000) (k : ∀ x ∈ xs, dpt n x = true) : dpt (n + 1) (.lst xs) = true := by
  unfold dpt
  rw [decide_eq_true h, dpts_of k]; rfl
theorem dpt_int {n : Nat} {i : Int} : dpt (n + 1) (.int i) = true := by unfold dpt; rfl
theorem dpt_str {n : Nat} {i : Str} : dpt (n + 1) (.str i) = true := by unfold dpt; rfl
theorem dpt_pair {n : Nat} {s : Str} {i : Int} : dpt (n + 2) (.tup [.str s, .int i]) = true := dpt_tup (by simp) fun x hx => by
  simp only [List.mem_cons, List.not_mem_nil, or_false] at hx
  rcases hx with rfl | rfl
  · exact dpt_str
  · exact dpt_int
end My
namespace My
open PySem PySem.Spec L2 Nu
open PyProof.Rows hiding St
def r__law_alike_56a9 (n : Nat) : ASp := fun ss m P _ => ∃ d, ss = [d, d] ∧ dpt n d = true ∧ P (.bl true) m
theorem zero__law_alike_56a9 : ∀ ss m P Z, ¬ r__law_alike_56a9 0 ss m P Z := by
  rintro _ m P Z ⟨d, rfl, h, _⟩
  unfold dpt at h; cases h
theorem len__law_alike_56a9 : ∀ n ss m P Z, r__law_alike_56a9 n ss m P Z → ss.length = 2 := by
  rintro n _ m P Z ⟨d, rfl, _⟩; rfl
abbrev a__law_alike_56a9 : ASp := r__law_alike_56a9 6
abbrev n__law_alike_56a9 : List Str := ["_law_found", "_law_due", "_law_one", "_law_other"]
theorem nd__law_alike_56a9 : (n__law_alike_56a9).Nodup := by decide +kernel
def u__law_alike_56a9 (aR : ASp) : SS :=
  (.cons (.iff (.bop (sIsi2 .list .tuple) (.cons (.var 1) .nil)) (.cons (.iff (.or2 (.bop sNot (.cons (.bop (sIsi2 .list .tuple) (.cons (.var 0) .nil)) .nil)) (.bop sNe (.cons (.bop (sIsi .list) (.cons (.var 0) .nil)) (.cons (.bop (sIsi .list) (.cons (.var 1) .nil)) .nil)))) (.cons (.ret (.cst (.bl false)))
  .nil) .nil)
  (.cons (.ret (.and2 (.bop sEq (.cons (.bop sLen (.cons (.var 0) .nil)) (.cons (.bop sLen (.cons (.var 1) .nil)) .nil))) (.bop sAll (.cons (.lc (.tup (.cons (.name 2) (.cons (.name 3) .nil))) isZip (.cons (.var 0) (.cons (.var 1) .nil)) .nil (.call aR (.cons (.var 2) (.cons (.var 3) .nil)))) .nil))))
  .nil)) .nil)
  (.cons (.iff (.or2 (.bop sIs (.cons (.var 1) (.cons (.cst .non) .nil))) (.bop (sIsi .str) (.cons (.var 1) .nil))) (.cons (.ret (.and2 (.bop sEq (.cons (.var 0) (.cons (.var 1) .nil))) (.bop sEq (.cons (.bop (sIsi .str) (.cons (.var 0) .nil)) (.cons (.bop (sIsi .str) (.cons (.var 1) .nil)) .nil)))))
  .nil) .nil)
  (.cons (.ret (.and2 (.bop (sIsi .int) (.cons (.var 0) .nil)) (.and2 (.bop sEq (.cons (.bop (sIsi .bool) (.cons (.var 0) .nil)) (.cons (.bop (sIsi .bool) (.cons (.var 1) .nil)) .nil))) (.bop sEq (.cons (.var 0) (.cons (.var 1) .nil))))))
  .nil)))
theorem body__law_alike_56a9 : ∀ (n : Nat) (ss : List D) (m : MS) (P : NX) (Z : EZ), r__law_alike_56a9 (n + 1) ss m P Z → WB (u__law_alike_56a9 (r__law_alike_56a9 n)) (startR n__law_alike_56a9 ss) m (bodyE P Z) := by
  rintro n _ m P Z ⟨d, rfl, h, q⟩
  cases d with
  | int i =>
    (conv => whnf)
    refine ⟨_, rfl, fun c => (by cases c), fun _ => ?_⟩
    (conv => whnf)
    refine ⟨_, rfl, .inr ⟨fun _ => ?_, fun c => (by cases c)⟩⟩
    (conv => whnf)
    refine ⟨_, rfl, fun c => (by cases c), fun _ => ?_⟩
    (conv => whnf)
    refine ⟨_, rfl, .inr ⟨fun _ => ?_, fun c => (by cases c)⟩⟩
    (conv => whnf)
    rw [decide_eq_true rfl]
    refine ⟨_, rfl, .inr ⟨fun _ => ?_, fun c => (by cases c)⟩⟩
    (conv => whnf)
    rw [decide_eq_true rfl]
    exact ret q
  | str i =>
    (conv => whnf)
    refine ⟨_, rfl, fun c => (by cases c), fun _ => ?_⟩
    (conv => whnf)
    refine ⟨_, rfl, .inr ⟨fun _ => ?_, fun c => (by cases c)⟩⟩
    (conv => whnf)
    refine ⟨_, rfl, fun _ => ?_, fun c => (by cases c)⟩
    (conv => whnf)
    rw [decide_eq_true rfl]
    refine ⟨_, rfl, .inr ⟨fun _ => ?_, fun c => (by cases c)⟩⟩
    (conv => whnf)
    rw [decide_eq_true rfl]
    exact ret q
  | non =>
    (conv => whnf)
    refine ⟨_, rfl, fun c => (by cases c), fun _ => ?_⟩
    (conv => whnf)
    refine ⟨_, rfl, .inl ⟨true, fun c => (by cases c), ?_⟩⟩
    refine ⟨_, rfl, fun _ => ?_, fun c => (by cases c)⟩
    (conv => whnf)
    refine .inl ⟨rfl, ?_⟩
    refine ⟨_, rfl, .inr ⟨fun _ => ?_, fun c => (by cases c)⟩⟩
    (conv => whnf)
    rw [decide_eq_true rfl]
    exact ret q
  | lst xs =>
    unfold dpt at h
    rw [Bool.and_eq_true] at h
    have hl := of_decide_eq_true h.1
    (conv => whnf)
    refine ⟨_, rfl, fun _ => ?_, fun c => (by cases c)⟩
    (conv => whnf)
    refine ⟨_, rfl, .inr ⟨fun _ => ?_, fun c => (by cases c)⟩⟩
    (conv => whnf)
    refine ⟨_, rfl, fun c => (by cases c), fun _ => ?_⟩
    (conv => whnf)
    rw [decide_eq_true rfl]
    refine ⟨_, rfl, .inr ⟨fun _ => ?_, fun c => (by cases c)⟩⟩
    (conv => whnf)
    refine lcM (xs.zip xs) (fun p => D.tup [p.1, p.2]) (fun _ => .bl true) (zipD_pairs xs xs) (by rw [List.length_zip]; omega) ⟨trivial, trivial⟩ (fun x hx => ⟨_, rfl, fun R r => ?_⟩) (.inl ?_)
    · (conv => whnf)
      have hz : x.1 = x.2 ∧ x.1 ∈ xs := by
        obtain ⟨i, hi⟩ := List.getElem?_of_mem hx
        obtain ⟨a, b⟩ := List.getElem?_zip_eq_some.mp hi
        rw [a] at b
        exact ⟨Option.some.inj b, List.mem_of_getElem? a⟩
      exact ⟨x.1, by rw [← hz.1], dpts_mem h.2 _ hz.2, r⟩
    · (conv => whnf)
      refine ⟨(xs.zip xs).map fun _ => true, by rw [List.map_map]; rfl, ?_⟩
      rw [show ((xs.zip xs).map fun _ => true).all id = true by rw [List.all_map]; simp]
      exact ret q
  | tup xs =>
    unfold dpt at h
    rw [Bool.and_eq_true] at h
    have hl := of_decide_eq_true h.1
    (conv => whnf)
    refine ⟨_, rfl, fun _ => ?_, fun c => (by cases c)⟩
    (conv => whnf)
    refine ⟨_, rfl, .inr ⟨fun _ => ?_, fun c => (by cases c)⟩⟩
    (conv => whnf)
    refine ⟨_, rfl, fun c => (by cases c), fun _ => ?_⟩
    (conv => whnf)
    rw [decide_eq_true rfl]
    refine ⟨_, rfl, .inr ⟨fun _ => ?_, fun c => (by cases c)⟩⟩
    (conv => whnf)
    refine lcM (xs.zip xs) (fun p => D.tup [p.1, p.2]) (fun _ => .bl true) (zipD_pairs xs xs) (by rw [List.length_zip]; omega) ⟨trivial, trivial⟩ (fun x hx => ⟨_, rfl, fun R r => ?_⟩) (.inl ?_)
    · (conv => whnf)
      have hz : x.1 = x.2 ∧ x.1 ∈ xs := by
        obtain ⟨i, hi⟩ := List.getElem?_of_mem hx
        obtain ⟨a, b⟩ := List.getElem?_zip_eq_some.mp hi
        rw [a] at b
        exact ⟨Option.some.inj b, List.mem_of_getElem? a⟩
      exact ⟨x.1, by rw [← hz.1], dpts_mem h.2 _ hz.2, r⟩
    · (conv => whnf)
      refine ⟨(xs.zip xs).map fun _ => true, by rw [List.map_map]; rfl, ?_⟩
      rw [show ((xs.zip xs).map fun _ => true).all id = true by rw [List.all_map]; simp]
      exact ret q
  | _ => unfold dpt at h; cases h
end My
namespace My
open PySem PySem.Spec L2 Nu
open PyProof.Rows hiding St
/-- the marks of an exception's classes -/
def marksB (x : Exn) : List Bool := [x.under .Taken, x.under .NoKey, x.under .TooMuch, x.under .NoHouse, x.under .NoGang, x.under .NoGuild, x.under .NoKind, x.under .InUse, x.under .TooMany, x.under .NoPlan, x.under .Past, x.under .BadRow]
def a__law_classes : ASp := fun ss m P _ => ∃ (x : Exn) (ds : List D), ss = [.exn x ds] ∧ P (.lst ((marksB x).map .bl)) m
theorem len__law_classes : ∀ ss m P Z, a__law_classes ss m P Z → ss.length = 1 := by
  rintro _ m P Z ⟨x, ds, rfl, _⟩; rfl
abbrev n__law_classes : List Str := ["_law_error", "_law_marks"]
theorem nd__law_classes : (n__law_classes).Nodup := by decide +kernel
def u__law_classes : SS :=
  (.cons (.set 1 (.bop sLst (.cons (.bop (sIsX .Taken) (.cons (.var 0) .nil)) (.cons (.bop (sIsX .NoKey) (.cons (.var 0) .nil)) (.cons (.bop (sIsX .TooMuch) (.cons (.var 0) .nil)) .nil)))))
  (.cons (.set 1 (.bop sAdd (.cons (.var 1) (.cons (.bop sLst (.cons (.bop (sIsX .NoHouse) (.cons (.var 0) .nil)) (.cons (.bop (sIsX .NoGang) (.cons (.var 0) .nil)) (.cons (.bop (sIsX .NoGuild) (.cons (.var 0) .nil)) .nil)))) .nil))))
  (.cons (.set 1 (.bop sAdd (.cons (.var 1) (.cons (.bop sLst (.cons (.bop (sIsX .NoKind) (.cons (.var 0) .nil)) (.cons (.bop (sIsX .InUse) (.cons (.var 0) .nil)) (.cons (.bop (sIsX .TooMany) (.cons (.var 0) .nil)) .nil)))) .nil))))
  (.cons (.ret (.bop sAdd (.cons (.var 1) (.cons (.bop sLst (.cons (.bop (sIsX .NoPlan) (.cons (.var 0) .nil)) (.cons (.bop (sIsX .Past) (.cons (.var 0) .nil)) (.cons (.bop (sIsX .BadRow) (.cons (.var 0) .nil)) .nil)))) .nil))))
  .nil))))
theorem body__law_classes : ∀ (ss : List D) (m : MS) (P : NX) (Z : EZ), a__law_classes ss m P Z → WB u__law_classes (startR n__law_classes ss) m (bodyE P Z) := by
  rintro _ m P Z ⟨x, ds, rfl, q⟩
  (conv => whnf)
  refine .inl ?_
  (conv => whnf)
  refine .inl ?_
  (conv => whnf)
  refine ⟨by show 6 ≤ 100000; decide, .inl ?_⟩
  (conv => whnf)
  refine .inl ?_
  (conv => whnf)
  refine ⟨by show 9 ≤ 100000; decide, .inl ?_⟩
  (conv => whnf)
  refine .inl ?_
  (conv => whnf)
  refine ⟨by show 12 ≤ 100000; decide, .inl ?_⟩
  exact ret q
end My
namespace My
open PySem PySem.Spec L2 Nu
open PyProof.Rows hiding St
theorem LawM.le {m m' : MS} {p q : Addr} {room : List Int} {top wide : Int} {R : List Row} (h : LawM m p q room top wide R) (l : MLe m m') : LawM m' p q room top wide R := ⟨l _ _ h.hp, l _ _ h.hq, h.ne⟩
theorem BookM.le {m m' : MS} {b s : Addr} {room : List Int} {R : List Row} (h : BookM m b s room R) (l : MLe m m') : BookM m' b s room R := ⟨l _ _ h.hb, l _ _ h.hs⟩
theorem Both.le {m m' : MS} {p q b s : Addr} {room : List Int} {top wide : Int} {R : List Row} (h : Both m p q b s room top wide R) (l : MLe m m') : Both m' p q b s room top wide R := ⟨h.hL.le l, h.hB.le l, h.nsq, h.nps⟩
theorem Bx.le {m m' : MS} {x : Addr} (h : Bx m x) (l : MLe m m') : Bx m' x := by
  obtain ⟨a, c, e, h0⟩ := h
  exact ⟨a, c, l _ _ e, h0⟩
end My
namespace My
open PySem PySem.Spec L2 Nu
open PyProof.Rows hiding St
structure KindA where
  name : Str
  yard : Str
  room : List Int
  most : Int
def kindD (k : KindA) : D := .tup [.str k.name, .str k.yard, amtD k.room, .int k.most]
structure KindsOk (w : Nat) (K : List KindA) : Prop where
  len : 1 ≤ K.length ∧ K.length ≤ 7
  nd : (K.map (·.name)).Nodup
  room : ∀ k ∈ K, k.room.length = w ∧ ∀ v ∈ k.room, 0 ≤ v ∧ v ≤ 1000000000000
  most : ∀ k ∈ K, 1 ≤ k.most ∧ k.most ≤ 40
  ok : ∀ k ∈ K, PyData.strOk k.name = true ∧ PyData.strOk k.yard = true
structure EntA where
  key : Str
  house : Str
  b : Int
  e : Int
  l : List Int
def eD (e : EntA) : D := .tup [.str e.house, .int e.b, .int e.e, amtD e.l]
def rowsOf (n : Str) (T : List EntA) : List Row := (T.filter fun e => decide (e.house = n)).map fun e => (e.key, e.b, e.e, e.l)
abbrev wdK (w : Nat) (wh we : Addr) (K : List KindA) : List (Key × D) := [(.inr "wares", .int w), (.inr "houses", .raw (.ref wh)), (.inr "entries", .raw (.ref we)), (.inr "kinds", .lst (K.map kindD))]
structure WdM (m : MS) (pw wh we : Addr) (w : Nat) (K : List KindA) (E : List HouA) (T : List EntA) : Prop where
  hw : m pw = some (.dct (wdK w wh we K))
  hh : m wh = some (.lst (E.map rowH))
  he : m we = some (.lst (T.map eD))
  ne : wh ≠ we
theorem WdM.le {m m' : MS} {pw wh we : Addr} {w : Nat} {K : List KindA} {E : List HouA} {T : List EntA} (h : WdM m pw wh we w K E T) (l : MLe m m') : WdM m' pw wh we w K E T := ⟨l _ _ h.hw, l _ _ h.hh, l _ _ h.he, h.ne⟩
theorem rowsOf_snoc {n : Str} {e : EntA} {T : List EntA} : rowsOf n (T ++ [e]) = rowsOf n T ++ (if e.house = n then [(e.key, e.b, e.e, e.l)] else []) := by
  unfold rowsOf
  rw [List.filter_append, List.map_append]
  by_cases c : e.house = n
  · simp [c]
  · simp [c]
end My
namespace My
open PySem PySem.Spec L2 Nu
open PyProof.Rows hiding St
def gkey (k : Nat) : Str := ("gang" : Str) ++ ⟨#[("abcdefghijklmnopqrstuvwxyz" : Str).cps.toList.getD (k % 26) 0]⟩ ++ ⟨#[("ab" : Str).cps.toList.getD (k / 26) 0]⟩
theorem gkey_ok : ∀ k, k < 52 → PyData.strOk (gkey k) = true := by decide +kernel
theorem gkey_inj0 : ((List.range 52).map gkey).Nodup := by decide +kernel
theorem gkey_inj {i j : Nat} (hi : i < 52) (hj : j < 52) (h : gkey i = gkey j) : i = j := injG (key := gkey) gkey_inj0 (List.mem_range.mpr hi) (List.mem_range.mpr hj) h
structure HouOk (w : Nat) (K : List KindA) (T : List EntA) (h : HouA) : Prop where
  room : h.room.length = w ∧ ∀ v ∈ h.room, 0 ≤ v ∧ v ≤ 1000000000000
  rows : h.rows = rowsOf h.name T
  rok : RowsOk w h.rows
  fit : FitR w h.room h.rows
  ok : PyData.strOk h.name = true ∧ PyData.strOk h.yard = true
  kind : h.kind = none ∨ ∃ c ∈ K, h.kind = some c.name ∧ h.yard = c.yard ∧ h.room = c.room
  state : h.state = "open" ∨ h.state = "shut"
structure EntOk (w : Nat) (E : List HouA) (n : Nat) (e : EntA) : Prop where
  len : e.l.length = w
  pos : ∀ v ∈ e.l, 0 ≤ v
  be : e.b < e.e
  house : e.house ∈ E.map (·.name)
  key : ∃ j, j < n ∧ e.key = gkey j
structure MadeOk (w : Nat) (K : List KindA) (E : List HouA) (B : List BkA) (T : List EntA) (n : Nat) : Prop where
  kinds : KindsOk w K
  ww : 1 ≤ w ∧ w ≤ 8
  elen : E.length ≤ 14
  tlen : T.length ≤ n
  house : ∀ h ∈ E, HouOk w K T h
  ent : ∀ e ∈ T, EntOk w E n e
  bk : B.map (fun b => (b.name, b.pl.map (·.1))) = T.map fun e => (e.key, [e.house])
  tkey : (T.map (·.key)).Nodup
structure WorldM (m : MS) (pw wh we pe ph pb : Addr) (w : Nat) (K : List KindA) (E : List HouA) (B : List BkA) (T : List EntA) (n : Nat) : Prop where
  wd : WdM m pw wh we w K E T
  es : EstM m pe ph pb E B
  ok : MadeOk w K E B T n
  nin : ¬ InE pe ph pb E B pw ∧ ¬ InE pe ph pb E B wh ∧ ¬ InE pe ph pb E B we
theorem WorldM.le {m m' : MS} {pw wh we pe ph pb : Addr} {w : Nat} {K : List KindA} {E : List HouA} {B : List BkA} {T : List EntA} {n : Nat} (h : WorldM m pw wh we pe ph pb w K E B T n) (l : MLe m m') : WorldM m' pw wh we pe ph pb w K E B T n := ⟨h.wd.le l, h.es.up l, h.ok, h.nin⟩
/-- a cell of nobody's changed -/
theorem WorldM.oth {m : MS} {pw wh we pe ph pb : Addr} {w : Nat} {K : List KindA} {E : List HouA} {B : List BkA} {T : List EntA} {n : Nat} (h : WorldM m pw wh we pe ph pb w K E B T n) {x : Addr} {c : Cell} (hx : pw ≠ x ∧ wh ≠ x ∧ we ≠ x ∧ ¬ InE pe ph pb E B x) : WorldM (mset m x c) pw wh we pe ph pb w K E B T n :=
  ⟨⟨by rw [mset_ne hx.1]; exact h.wd.hw, by rw [mset_ne hx.2.1]; exact h.wd.hh, by rw [mset_ne hx.2.2.1]; exact h.wd.he, h.wd.ne⟩, h.es.oth hx.2.2.2, h.ok, h.nin⟩
theorem rowsOf_keys {n : Str} {T : List EntA} {k : Str} (h : k ∈ keysR (rowsOf n T)) : k ∈ T.map (·.key) := by
  obtain ⟨r, hr, rfl⟩ := List.mem_map.mp h
  unfold rowsOf at hr
  obtain ⟨e, he, rfl⟩ := List.mem_map.mp hr
  exact List.mem_map.mpr ⟨e, (List.mem_filter.mp he).1, rfl⟩
theorem MadeOk.up {w : Nat} {K : List KindA} {E : List HouA} {B : List BkA} {T : List EntA} {n : Nat} (h : MadeOk w K E B T n) : MadeOk w K E B T (n + 1) :=
  ⟨h.kinds, h.ww, h.elen, Nat.le_succ_of_le h.tlen, h.house, fun e he => by
    have := h.ent e he
    obtain ⟨j, hj, e2⟩ := this.key
    exact ⟨this.len, this.pos, this.be, this.house, j, by omega, e2⟩, h.bk, h.tkey⟩
/-- a gang booked in one house -/
theorem MadeOk.book {w : Nat} {K : List KindA} {E : List HouA} {B : List BkA} {T : List EntA} {n : Nat} (h : MadeOk w K E B T n) {x : HouA} (hx : x ∈ E) {b e : Int} {l : List Int} {c : Int} {q : Addr} (hn : n < 52) (nd : (E.map (·.name)).Nodup)
    (hl : l.length = w ∧ ∀ v ∈ l, 0 ≤ v) (hbe : b < e) (hf : FitR w x.room (x.rows ++ [(gkey n, b, e, l)])) :
    MadeOk w K (updH E x.name fun y => { y with rows := y.rows ++ [(gkey n, b, e, l)] }) (B ++ [⟨gkey n, [(x.name, c)], q⟩]) (T ++ [⟨gkey n, x.name, b, e, l⟩]) (n + 1) ∧ gkey n ∉ T.map (·.key) := by
  have hfresh : gkey n ∉ T.map (·.key) := fun k => by
    obtain ⟨e, he, e2⟩ := List.mem_map.mp k
    obtain ⟨j, hj, e3⟩ := (h.ent e he).key
    have := gkey_inj (i := n) (j := j) hn (by omega) (by rw [← e3, e2])
    omega
  have hnames : (updH E x.name fun y => { y with rows := y.rows ++ [(gkey n, b, e, l)] }).map (·.name) = E.map (·.name) := updH_map (f := fun y => { y with rows := y.rows ++ [(gkey n, b, e, l)] }) fun _ => rfl
  refine ⟨⟨h.kinds, h.ww, ?_, ?_, fun y hy => ?_, fun z hz => ?_, ?_, ?_⟩, hfresh⟩
  · unfold updH; rw [List.length_map]; exact h.elen
  · rw [List.length_append]; have := h.tlen; simp; omega
  · obtain ⟨z, hz, ⟨ez, rfl⟩ | ⟨ez, rfl⟩⟩ := updH_mem hy
    · have hzo := h.house z hz
      obtain rfl := injG (key := fun h : HouA => h.name) nd hz hx ez
      have hk : gkey n ∉ keysR z.rows := fun k => hfresh (rowsOf_keys (by rw [← hzo.rows]; exact k))
      refine ⟨hzo.room, ?_, ⟨?_, fun r hr => ?_, fun r hr => ?_, fun r hr => ?_⟩, hf, hzo.ok, hzo.kind, hzo.state⟩
      · show z.rows ++ _ = rowsOf z.name (T ++ [⟨gkey n, z.name, b, e, l⟩])
        rw [rowsOf_snoc, if_pos rfl, ← hzo.rows]
      · show ((z.rows ++ [(gkey n, b, e, l)]).map (·.1)).Nodup
        rw [List.map_append, List.nodup_append]
        exact ⟨hzo.rok.nd, by simp, fun p hp q hq e => by
          simp at hq
          rw [e, hq] at hp
          exact hk hp⟩
      · rcases List.mem_append.mp hr with hr | hr
        · exact hzo.rok.len r hr
        · rw [List.mem_singleton.mp hr]; exact hl.1
      · rcases List.mem_append.mp hr with hr | hr
        · exact hzo.rok.pos r hr
        · rw [List.mem_singleton.mp hr]; exact hl.2
      · rcases List.mem_append.mp hr with hr | hr
        · exact hzo.rok.key r hr
        · rw [List.mem_singleton.mp hr]; exact gkey_ok n hn
    · have hzo := h.house _ hz
      refine ⟨hzo.room, ?_, hzo.rok, hzo.fit, hzo.ok, hzo.kind, hzo.state⟩
      rw [rowsOf_snoc, if_neg (fun c => ez c.symm), List.append_nil]
      exact hzo.rows
  · rcases List.mem_append.mp hz with hz | hz
    · have := h.ent z hz
      obtain ⟨j, hj, e2⟩ := this.key
      exact ⟨this.len, this.pos, this.be, by rw [hnames]; exact this.house, j, by omega, e2⟩
    · rw [List.mem_singleton.mp hz]
      exact ⟨hl.1, hl.2, hbe, by rw [hnames]; exact List.mem_map.mpr ⟨x, hx, rfl⟩, n, by omega, rfl⟩
  · rw [List.map_append, List.map_append, h.bk]; rfl
  · rw [List.map_append, List.nodup_append]
    exact ⟨h.tkey, by simp, fun p hp q hq e => by
      simp at hq
      rw [e, hq] at hp
      exact hfresh hp⟩
theorem pl_amt {n : Nat} {l : List Int} : plD (n + 1) (amtD l) = true := by
  unfold amtD plD
  induction l with
  | nil => rfl
  | cons a l ih => rw [List.map_cons]; unfold plDs; rw [ih]; rfl
theorem pl_row {n : Nat} {h : HouA} (h1 : PyData.strOk h.name = true ∧ PyData.strOk h.yard = true) (h2 : ∀ k, h.kind = some k → PyData.strOk k = true) (h3 : h.state = "open" ∨ h.state = "shut") : plD (n + 2) (rowH h) = true := by
  have e1 : plD (n + 1) (kdD h.kind) = true := by
    cases e : h.kind with
    | none => rfl
    | some k => exact h2 k e
  have e2 : PyData.strOk h.state = true := by rcases h3 with e | e <;> rw [e] <;> decide +kernel
  have e3 : plD (n + 1) (amtD h.room) = true := pl_amt
  unfold rowH
  simp only [plD, plDs, h1.1, h1.2, e1, e2, e3, Bool.and_self]
theorem MadeOk.pl {w : Nat} {K : List KindA} {E : List HouA} {B : List BkA} {T : List EntA} {n : Nat} (h : MadeOk w K E B T n) {m : Nat} : plDs (m + 2) (E.map rowH) = true := by
  have : ∀ x ∈ E, plD (m + 2) (rowH x) = true := fun x hx => by
    have hx := h.house x hx
    refine pl_row hx.ok (fun k e => ?_) hx.state
    rcases hx.kind with c | ⟨c, hc, e2, _⟩
    · rw [c] at e; cases e
    · rw [e2] at e; cases e; exact (h.kinds.ok c hc).1
  clear h
  induction E with
  | nil => rfl
  | cons a E ih =>
    rw [List.map_cons]; unfold plDs
    rw [this a (List.mem_cons_self ..), ih fun x hx => this x (List.mem_cons_of_mem _ hx)]; rfl
theorem MadeOk.mono {w : Nat} {K : List KindA} {E : List HouA} {B : List BkA} {T : List EntA} {n k : Nat} (h : MadeOk w K E B T n) (l : n ≤ k) : MadeOk w K E B T k := by
  induction l with
  | refl => exact h
  | step _ ih => exact ih.up
end My
namespace My
open PySem PySem.Spec L2 Nu
open PyProof.Rows hiding St
/-- the refusals that are made -/
def exsL (t r : Int) (c : D) : List (Exn × List D) := [(.Taken, []), (.NoKey, []), (.TooMuch, [.int t]), (.NoHouse, []), (.NoGang, []), (.NoGuild, []), (.NoKind, []), (.InUse, []), (.TooMany, []), (.NoPlan, [c]), (.Past, []), (.BadRow, [.int r])]
def exsN : List Exn := [.Taken, .NoKey, .TooMuch, .NoHouse, .NoGang, .NoGuild, .NoKind, .InUse, .TooMany, .NoPlan, .Past, .BadRow]
theorem exs_at : ∀ {i : Nat} {x : Exn}, exsN[i]? = some x → x.under .HallError = true ∧ eqD (.lst ((marksB x).map .bl)) (.lst ((List.range 12).map fun j : Nat => .bl (decide (0 + (j : Int) = (i : Int))))) = true ∧ plD 40 (.lst ((marksB x).map .bl)) = true ∧ plD 40 (.lst ((List.range 12).map fun j : Nat => .bl (decide (0 + (j : Int) = (i : Int))))) = true := by
  intro i x h
  match i with
  | 0 | 1 | 2 | 3 | 4 | 5 | 6 | 7 | 8 | 9 | 10 | 11 =>
    cases h
    exact ⟨rfl, by decide +kernel, by decide +kernel, by decide +kernel⟩
  | n + 12 => simp [exsN] at h
def a_law_k05 : ASp := lawA
theorem len_law_k05 : ∀ ss m P Z, a_law_k05 ss m P Z → ss.length = 1 := len_lawA
abbrev n_law_k05 : List Str := ["_law_script", "_law_box_here", "_law_words", "_law_time", "_law_counts_here", "_law_row", "_law_made", "_law_k", "_law_error", "_law_base", "_law_j"]
theorem nd_law_k05 : (n_law_k05).Nodup := by decide +kernel
def u_law_k05 : SS :=
  (.cut (.fo (.name 1) isVal (.cons (.call a__law_cells (.cons (.var 0) .nil)) .nil) (.cons (.set 2 (.mth (kS sJoin) (.cst (.str "")) (.cons (.lc (.name 7) isRng (.cons (.call a__law_take_9ad5 (.cons (.var 1) (.cons (.cst (.int 13)) .nil))) .nil) .nil (.bop sIx (.cons (.cst (.str "abcdefgh ")) (.cons (.call a__law_take_9ad5 (.cons (.var 1) (.cons (.cst (.int 9)) .nil))) .nil)))) .nil)))
  (.cons (.unp (.cons (.name 3) (.cons (.name 4) (.cons (.name 5) .nil))) (.bop sTup (.cons (.call a__law_take_9ad5 (.cons (.var 1) (.cons (.bop sAdd (.cons (.cst (.int 1000000000)) (.cons (.cst (.int 1)) .nil))) .nil))) (.cons (.call a__law_counts_d162 (.cons (.var 1) .nil)) (.cons (.call a__law_take_9ad5 (.cons (.var 1) (.cons (.cst (.int 301)) .nil))) .nil)))))
  (.cons (.set 6 (.bop sLst (.cons (.bop (sExn0 .Taken) (.cons (.var 2) .nil)) (.cons (.bop (sExn0 .NoKey) (.cons (.var 2) .nil)) (.cons (.bop (sExn1 .TooMuch) (.cons (.var 2) (.cons (.var 3) .nil))) (.cons (.bop (sExn0 .NoHouse) (.cons (.var 2) .nil)) (.cons (.bop (sExn0 .NoGang) (.cons (.var 2) .nil)) (.cons (.bop (sExn0 .NoGuild) (.cons (.var 2) .nil)) .nil))))))))
  (.cons (.set 6 (.bop sAdd (.cons (.var 6) (.cons (.bop sLst (.cons (.bop (sExn0 .NoKind) (.cons (.var 2) .nil)) (.cons (.bop (sExn0 .InUse) (.cons (.var 2) .nil)) (.cons (.bop (sExn0 .TooMany) (.cons (.var 2) .nil)) (.cons (.bop (sExn1 .NoPlan) (.cons (.var 2) (.cons (.var 4) .nil))) (.cons (.bop (sExn0 .Past) (.cons (.var 2) .nil)) .nil)))))) .nil))))
  (.cons (.set 6 (.bop sAdd (.cons (.var 6) (.cons (.bop sLst (.cons (.bop (sExn1 .BadRow) (.cons (.var 2) (.cons (.var 5) .nil))) .nil)) .nil))))
  (.cut (.fo (.tup (.cons (.name 7) (.cons (.name 8) .nil))) isEnum (.cons (.var 6) .nil) (.cons (.iff (.or2 (.bop sNot (.cons (.bop (sIsX .HallError) (.cons (.var 8) .nil)) .nil)) (.bop sNot (.cons (.bop sIsVE (.cons (.var 8) .nil)) .nil))) (.cons (.ret (.cst (.bl false)))
  .nil) .nil)
  (.cons (.iff (.bop sNe (.cons (.call a__law_classes (.cons (.var 8) .nil)) (.cons (.lc (.name 10) isRng (.cons (.cst (.int 12)) .nil) .nil (.bop sEq (.cons (.var 10) (.cons (.var 7) .nil)))) .nil))) (.cons (.ret (.cst (.bl false)))
  .nil) .nil)
  .nil)))
  (.cons (.iff (.bop sNot (.cons (.call a__law_alike_56a9 (.cons (.bop sLst (.cons (.bop (sFld .time) (.cons (.bop sIx (.cons (.var 6) (.cons (.cst (.int 2)) .nil))) .nil)) (.cons (.bop (sFld .counts) (.cons (.bop sIx (.cons (.var 6) (.cons (.cst (.int 9)) .nil))) .nil)) (.cons (.bop (sFld .row) (.cons (.bop sIx (.cons (.var 6) (.cons (.cst (.int 11)) .nil))) .nil)) .nil)))) (.cons (.bop sLst (.cons (.var 3) (.cons (.var 4) (.cons (.var 5) .nil)))) .nil))) .nil)) (.cons (.ret (.cst (.bl false)))
  .nil) .nil)
  .nil))))))))
  (.cons (.set 9 (.bop (sExn0 .HallError) (.cons (.cst (.str "any")) .nil)))
  (.cons (.ret (.and2 (.bop sIsVE (.cons (.var 9) .nil)) (.bop sNotIn (.cons (.cst (.bl true)) (.cons (.call a__law_classes (.cons (.var 9) .nil)) .nil)))))
  .nil)))
theorem body_law_k05 : ∀ (ss : List D) (m : MS) (P : NX) (Z : EZ), a_law_k05 ss m P Z → WB u_law_k05 (startR n_law_k05 ss) m (bodyE P Z) := by
  rintro _ m P Z ⟨ns, rfl, hn, hm0, hP⟩
  (conv => whnf)
  refine ⟨fun ρ' m' => ∃ (x1 x2 x3 x4 x5 x6 x7 x8 : Option D), ρ' = [some (.fls (ns.map .int)), x1, x2, x3, x4, x5, x6, x7, x8, none, none], ?_, ?_⟩
  · (conv => whnf)
    refine ⟨ns, rfl, by omega, fun ps m1 hnd hpl hps up => ?_⟩
    (conv => whnf)
    refine foN ps (fun p => .raw (.ref p)) (fun i ρ' m' => ∃ (x1 x2 x3 x4 x5 x6 x7 x8 : Option D), (∀ p ∈ ps.drop i, B3 m' p 0) ∧ ρ' = [some (.fls (ns.map .int)), x1, x2, x3, x4, x5, x6, x7, x8, none, none]) rfl ⟨_, _, _, _, _, _, _, _, fun p hp => (hps p hp).1, rfl⟩ (fun i ρ' m' h => trivial) ?_ ?_
    · rintro i x ρ' m' hx ⟨x1, x2, x3, x4, x5, x6, x7, x8, hb3, rfl⟩
      have hil : i < ps.length := (List.getElem?_eq_some_iff.mp hx).1
      have hd : ps.drop i = x :: ps.drop (i + 1) := by rw [← (List.getElem?_eq_some_iff.mp hx).2]; exact List.drop_eq_getElem_cons hil
      obtain ⟨B0, hx0, hB0⟩ := hb3 x (by rw [hd]; exact List.mem_cons_self ..)
      have hnx : ∀ p ∈ ps.drop (i + 1), p ≠ x := fun p hp e => by
        have := hnd.sublist (List.drop_sublist i _)
        rw [hd] at this
        exact (List.nodup_cons.mp this).1 (by rw [← e]; exact hp)
      have hbn : ∀ C, ∀ p ∈ ps.drop (i + 1), B3 (mset m' x C) p 0 := fun C p hp => (hb3 p (by rw [hd]; exact List.mem_cons_of_mem _ hp)).ne (hnx p hp)
      (conv => whnf)
      refine ⟨x, 13, 0, rfl, ⟨B0, hx0, hB0⟩, ⟨by decide, by decide, by decide⟩, fun u u0 u1 B hB => ?_⟩
      (conv => whnf)
      refine ⟨⟨by omega, by omega⟩, ?_⟩
      refine ⟨by rw [rngD_len]; omega, fun i acc m3 => ∃ (l : List Str) (B : Cell), acc = l.map .str ∧ m3 = mset m' x B ∧ B3c (1 + i) B ∧ l.length = i ∧ ∀ s ∈ l, s.length = 1, ⟨[], B, rfl, rfl, hB.mono (by omega), rfl, fun s hs => by cases hs⟩, fun _ _ _ _ _ => trivial, ?_, ?_⟩
      · rintro i d acc m3 hd ⟨l, B, rfl, rfl, hB, hl, hls⟩
        obtain ⟨rfl, hi⟩ := rng_i hd
        (conv => whnf)
        refine ⟨fun _ => ?_, fun c => (by cases c)⟩
        (conv => whnf)
        refine ⟨x, 9, 1 + i, rfl, hB.put, ⟨by omega, by decide, by decide⟩, fun v v0 v1 B hB => ?_⟩
        rw [mset_mset]
        (conv => whnf)
        have hlen : ("abcdefgh " : Str).length = 9 := by decide +kernel
        have hlen2 : ("abcdefgh " : Str).cps.toList.length = 9 := by decide +kernel
        refine ⟨by rw [hlen]; decide, ?_⟩
        obtain ⟨c, hc, _⟩ := at3_in (xs := ("abcdefgh " : Str).cps.toList) (v := v) v0 (by rw [hlen2]; exact v1)
        refine ⟨c, hc, l ++ [⟨#[c]⟩], B, by rw [List.map_append]; rfl, rfl, hB.mono (by omega), by simp [hl], fun s hs => ?_⟩
        rcases List.mem_append.mp hs with hs | hs
        · exact hls s hs
        · rw [List.mem_singleton.mp hs]; rfl
      rintro acc m3 ⟨l, B, rfl, rfl, hB, hl, hls⟩
      rw [rngD_len] at hl hB
      refine .inl ?_
      (conv => whnf)
      have hsum : (l.map fun s : Str => s.length).sum ≤ l.length := by
        clear hl hB
        induction l with
        | nil => exact Nat.le_refl _
        | cons s l ih =>
          rw [List.map_cons, List.sum_cons, List.length_cons, hls s (List.mem_cons_self ..)]
          have := ih fun z hz => hls z (List.mem_cons_of_mem _ hz)
          omega
      have he : ("" : Str).length = 0 := by decide +kernel
      refine ⟨l, rfl, by rw [he]; omega, ?_⟩
      generalize Txt.join ("" : Str) l = words
      (conv => whnf)
      refine ⟨x, _, 1 + u.toNat, rfl, hB.put, ⟨by omega, by decide, by decide⟩, fun t t0 t1 B hB => ?_⟩
      rw [mset_mset]
      (conv => whnf)
      refine ⟨x, 1 + u.toNat + 1, rfl, hB.put, ⟨by omega, by omega⟩, fun cl hcl B hB => ?_⟩
      rw [mset_mset]
      (conv => whnf)
      refine ⟨x, 301, 1 + u.toNat + 1 + 10, rfl, hB.put, ⟨by omega, by decide, by decide⟩, fun r r0 r1 B hB => ?_⟩
      rw [mset_mset]
      (conv => whnf)
      refine .inl ?_
      (conv => whnf)
      refine .inl ?_
      (conv => whnf)
      refine ⟨by show 11 ≤ 100000; decide, .inl ?_⟩
      (conv => whnf)
      refine .inl ?_
      (conv => whnf)
      refine ⟨by show 12 ≤ 100000; decide, .inl ?_⟩
      have hbn := hbn B
      revert hbn
      generalize mset m' x B = m2
      intro hbn
      (conv => whnf)
      refine ⟨fun ρ' m' => ∃ (x7 x8 : Option D), m2 = m' ∧ ρ' = [some (.fls (ns.map .int)), some (.raw (.ref x)), some (.str words), some (.int t), some (prsD cl), some (.int r), some (.lst ((exsL t r (prsD cl)).map fun p => .exn p.1 p.2)), x7, x8, none, none], ?_, ?_⟩
      · (conv => whnf)
        refine foP (exsL t r (prsD cl)).zipIdx (fun p => D.tup [.int (p.2 : Nat), .exn p.1.1 p.1.2]) (fun _ ρ' m' => ∃ (x7 x8 : Option D), m2 = m' ∧ ρ' = [some (.fls (ns.map .int)), some (.raw (.ref x)), some (.str words), some (.int t), some (prsD cl), some (.int r), some (.lst ((exsL t r (prsD cl)).map fun p => .exn p.1 p.2)), x7, x8, none, none]) rfl ⟨_, _, rfl, rfl⟩ (fun i ρ' m' h => trivial) ?_ ?_
        · rintro i2 p ρ' _ hp ⟨x7, x8, rfl, rfl⟩
          rw [List.getElem?_zipIdx] at hp
          obtain ⟨q, hq, eq⟩ := Option.map_eq_some_iff.mp hp
          rw [Nat.zero_add] at eq
          subst eq
          have hN : exsN[i2]? = some q.1 := by
            have : (exsL t r (prsD cl)).map (·.1) = exsN := rfl
            rw [← this, List.getElem?_map, hq]; rfl
          obtain ⟨hu, he, p1, p2⟩ := exs_at hN
          refine ⟨_, rfl, ?_⟩
          (conv => whnf)
          rw [hu]
          refine ⟨_, rfl, .inr ⟨fun _ => ?_, fun c => (by cases c)⟩⟩
          (conv => whnf)
          refine ⟨_, rfl, fun c => (by cases c), fun _ => ?_⟩
          (conv => whnf)
          refine ⟨q.1, q.2, rfl, ?_⟩
          (conv => whnf)
          refine ⟨by decide, ?_⟩
          refine lcM (Gt := .name 10) (List.range 12) (fun j : Nat => D.int (0 + (j : Int))) (fun j : Nat => D.bl (decide (0 + (j : Int) = (i2 : Int)))) rfl (by decide) trivial (fun j hj => ⟨_, rfl, fun R rr => ?_⟩) (.inl ?_)
          · (conv => whnf)
            exact rr
          (conv => whnf)
          refine .inr ⟨_, _, See.refl 40 _ p1, See.refl 40 _ p2, ⟨p1, p2⟩, ?_⟩
          rw [he]
          refine ⟨_, rfl, fun c => (by cases c), fun _ => ?_⟩
          (conv => whnf)
          exact ⟨_, _, rfl, rfl⟩
        · rintro ρ' _ ⟨x7, x8, rfl, rfl⟩
          exact ⟨_, _, rfl, rfl⟩
      · rintro _ _ ⟨x7, x8, rfl, rfl⟩
        refine ⟨_, _, VwS.refl, ?_⟩
        have hd : dpt 6 (.lst [.int t, prsD cl, .int r]) = true := dpt_lst (by simp) fun y hy => by
          simp only [List.mem_cons, List.not_mem_nil, or_false] at hy
          rcases hy with rfl | rfl | rfl
          · exact dpt_int
          · refine dpt_tup (by rw [List.length_map]; omega) fun z hz => ?_
            obtain ⟨p, _, rfl⟩ := List.mem_map.mp hz
            exact dpt_pair
          · exact dpt_int
        (conv => whnf)
        refine ⟨_, rfl, ?_⟩
        (conv => whnf)
        refine ⟨_, rfl, ?_⟩
        (conv => whnf)
        refine ⟨_, rfl, ?_⟩
        (conv => whnf)
        refine .inl ?_
        (conv => whnf)
        refine .inl ?_
        (conv => whnf)
        refine ⟨.lst [.int t, prsD cl, .int r], rfl, hd, ?_⟩
        (conv => whnf)
        refine ⟨_, rfl, fun c => (by cases c), fun _ => ?_⟩
        (conv => whnf)
        exact ⟨_, _, _, _, _, _, _, _, hbn, rfl⟩
    · rintro ρ' m' ⟨x1, x2, x3, x4, x5, x6, x7, x8, hb3, rfl⟩
      exact ⟨_, _, _, _, _, _, _, _, rfl⟩
  · rintro _ m' ⟨x1, x2, x3, x4, x5, x6, x7, x8, rfl⟩
    refine ⟨_, _, VwS.refl, ?_⟩
    (conv => whnf)
    refine ⟨_, rfl, .inr ⟨fun _ => ?_, fun c => (by cases c)⟩⟩
    (conv => whnf)
    refine ⟨.HallError, [], rfl, ?_⟩
    (conv => whnf)
    refine .inl ⟨rfl, by decide +kernel, ?_⟩
    rw [show ((marksB .HallError).map D.bl).any (fun y => eqF y (.bl true)) = false by decide +kernel]
    exact ret (hP _)
end My
namespace My
open PySem PySem.Spec L2 Nu
open PyProof.Rows hiding St
def topS (i : Nat) : Stmt := PySem.Challenge.pw_clusterhall_k05_refusals.main.body.getD i (.Pass ⟨0, 0, 0, 0⟩)
def inS (st : Stmt) (j : Nat) : Stmt := match st with
  | .ClassDef _ _ _ body _ _ _ _ _ _ _ => body.getD j (.Pass ⟨0, 0, 0, 0⟩)
  | _ => .Pass ⟨0, 0, 0, 0⟩
abbrev s__law_box_f64f : Stmt := topS 15
theorem sc__law_box_f64f : FnScope n__law_box_f64f ["_law_script", "_law_k"] (defScope s__law_box_f64f) := ⟨rfl, rfl, rfl, by decide +kernel, rfl, by decide +kernel, by decide +kernel⟩
abbrev s__law_cells : Stmt := topS 18
theorem sc__law_cells : FnScope n__law_cells ["_law_script"] (defScope s__law_cells) := ⟨rfl, rfl, rfl, by decide +kernel, rfl, by decide +kernel, by decide +kernel⟩
abbrev s__law_take_9ad5 : Stmt := topS 16
theorem sc__law_take_9ad5 : FnScope n__law_take_9ad5 ["_law_box_here", "_law_many"] (defScope s__law_take_9ad5) := ⟨rfl, rfl, rfl, by decide +kernel, rfl, by decide +kernel, by decide +kernel⟩
abbrev s__law_counts_d162 : Stmt := topS 20
theorem sc__law_counts_d162 : FnScope n__law_counts_d162 ["_law_box_here"] (defScope s__law_counts_d162) := ⟨rfl, rfl, rfl, by decide +kernel, rfl, by decide +kernel, by decide +kernel⟩
abbrev s__law_alike_56a9 : Stmt := topS 17
theorem sc__law_alike_56a9 : FnScope n__law_alike_56a9 ["_law_found", "_law_due"] (defScope s__law_alike_56a9) := ⟨rfl, rfl, rfl, by decide +kernel, rfl, by decide +kernel, by decide +kernel⟩
abbrev s__law_classes : Stmt := topS 19
theorem sc__law_classes : FnScope n__law_classes ["_law_error"] (defScope s__law_classes) := ⟨rfl, rfl, rfl, by decide +kernel, rfl, by decide +kernel, by decide +kernel⟩
abbrev s_law_k05 : Stmt := topS 21
theorem sc_law_k05 : FnScope n_law_k05 ["_law_script"] (defScope s_law_k05) := ⟨rfl, rfl, rfl, by decide +kernel, rfl, by decide +kernel, by decide +kernel⟩
structure Tx (K : PySem.W.Frag) (mg : Str → Option Value) : Prop where
  b_ValueError : mg "ValueError" = none
  b_abs : mg "abs" = none
  b_all : mg "all" = none
  b_bool : mg "bool" = none
  b_enumerate : mg "enumerate" = none
  b_int : mg "int" = none
  b_isinstance : mg "isinstance" = none
  b_len : mg "len" = none
  b_list : mg "list" = none
  b_max : mg "max" = none
  b_min : mg "min" = none
  b_range : mg "range" = none
  b_str : mg "str" = none
  b_tuple : mg "tuple" = none
  b_zip : mg "zip" = none
  TC : ∀ c, ClsF K c
  TE : ∀ c, ExnF K c
  TX : ∀ c, ExnC K c
  TV : ∀ c, SubV K c
  x_BadRow : XcF K mg .BadRow
  x_HallError : XcF K mg .HallError
  x_InUse : XcF K mg .InUse
  x_NoGang : XcF K mg .NoGang
  x_NoGuild : XcF K mg .NoGuild
  x_NoHouse : XcF K mg .NoHouse
  x_NoKey : XcF K mg .NoKey
  x_NoKind : XcF K mg .NoKind
  x_NoPlan : XcF K mg .NoPlan
  x_Past : XcF K mg .Past
  x_Taken : XcF K mg .Taken
  x_TooMany : XcF K mg .TooMany
  x_TooMuch : XcF K mg .TooMuch
  x0_HallError : Xc0 K .HallError
  x0_InUse : Xc0 K .InUse
  x0_NoGang : Xc0 K .NoGang
  x0_NoGuild : Xc0 K .NoGuild
  x0_NoHouse : Xc0 K .NoHouse
  x0_NoKey : Xc0 K .NoKey
  x0_NoKind : Xc0 K .NoKind
  x0_Past : Xc0 K .Past
  x0_Taken : Xc0 K .Taken
  x0_TooMany : Xc0 K .TooMany
  TI_BadRow : ∀ y, SubI K y .BadRow
  TI_HallError : ∀ y, SubI K y .HallError
  TI_InUse : ∀ y, SubI K y .InUse
  TI_NoGang : ∀ y, SubI K y .NoGang
  TI_NoGuild : ∀ y, SubI K y .NoGuild
  TI_NoHouse : ∀ y, SubI K y .NoHouse
  TI_NoKey : ∀ y, SubI K y .NoKey
  TI_NoKind : ∀ y, SubI K y .NoKind
  TI_NoPlan : ∀ y, SubI K y .NoPlan
  TI_Past : ∀ y, SubI K y .Past
  TI_Taken : ∀ y, SubI K y .Taken
  TI_TooMany : ∀ y, SubI K y .TooMany
  TI_TooMuch : ∀ y, SubI K y .TooMuch
section
variable {P : Program} {w : World} {K : PySem.W.Frag} {mg : Str → Option Value} {base : Heap}
abbrev sI_BadRow : Stmt := inS (topS 13) 0
theorem scI_BadRow : FnScope ["self", "words", "row"] ["self", "words", "row"] (defScope sI_BadRow) := ⟨rfl, rfl, rfl, by decide +kernel, rfl, by decide +kernel, by decide +kernel⟩
theorem okI_BadRow {C CH fI : Addr} {fd : FuncData} (F : Fun K "__init__" "BadRow.__init__" sI_BadRow fI fd) (T : L2.OexC K C) (nf : PySem.W.findIn K (.ref C) "row" = some none) (hx : mg "HallError" = some (.ref CH)) (hf : HeF K CH) : FnOk P w K mg base (L2.CX P w) 1 fI fd ["self", "words", "row"] (spI C "row") :=
  init_fn F scI_BadRow rfl T nf hx hf rfl fun cdv A outer s H E => pss_cons (ps_expr (pe_heinit (x := "HallError") rfl hx hf (pa_cons (pv 0) (pa_cons (pv 1) pa_nil)) rfl rfl rfl rfl)) (pss_cons (ps_ost (pv 0) (pv 2)) pss_nil)
abbrev sI_NoPlan : Stmt := inS (topS 11) 0
theorem scI_NoPlan : FnScope ["self", "words", "counts"] ["self", "words", "counts"] (defScope sI_NoPlan) := ⟨rfl, rfl, rfl, by decide +kernel, rfl, by decide +kernel, by decide +kernel⟩
theorem okI_NoPlan {C CH fI : Addr} {fd : FuncData} (F : Fun K "__init__" "NoPlan.__init__" sI_NoPlan fI fd) (T : L2.OexC K C) (nf : PySem.W.findIn K (.ref C) "counts" = some none) (hx : mg "HallError" = some (.ref CH)) (hf : HeF K CH) : FnOk P w K mg base (L2.CX P w) 1 fI fd ["self", "words", "counts"] (spI C "counts") :=
  init_fn F scI_NoPlan rfl T nf hx hf rfl fun cdv A outer s H E => pss_cons (ps_expr (pe_heinit (x := "HallError") rfl hx hf (pa_cons (pv 0) (pa_cons (pv 1) pa_nil)) rfl rfl rfl rfl)) (pss_cons (ps_ost (pv 0) (pv 2)) pss_nil)
abbrev sI_TooMuch : Stmt := inS (topS 4) 0
theorem scI_TooMuch : FnScope ["self", "words", "time"] ["self", "words", "time"] (defScope sI_TooMuch) := ⟨rfl, rfl, rfl, by decide +kernel, rfl, by decide +kernel, by decide +kernel⟩
theorem okI_TooMuch {C CH fI : Addr} {fd : FuncData} (F : Fun K "__init__" "TooMuch.__init__" sI_TooMuch fI fd) (T : L2.OexC K C) (nf : PySem.W.findIn K (.ref C) "time" = some none) (hx : mg "HallError" = some (.ref CH)) (hf : HeF K CH) : FnOk P w K mg base (L2.CX P w) 1 fI fd ["self", "words", "time"] (spI C "time") :=
  init_fn F scI_TooMuch rfl T nf hx hf rfl fun cdv A outer s H E => pss_cons (ps_expr (pe_heinit (x := "HallError") rfl hx hf (pa_cons (pv 0) (pa_cons (pv 1) pa_nil)) rfl rfl rfl rfl)) (pss_cons (ps_ost (pv 0) (pv 2)) pss_nil)
theorem snd__law_box_f64f (T : Tx K mg)  {f : Addr} (cdv : Value) (A : Around) (outer : List Env) (s : Shared) (H : Hp) (E : XK) (hr : Room 0 (A.deeper (envOfC "_law_box" (defScope s__law_box_f64f) s.heap.objs.size f cdv))) : SSs (cxOf (L2.CX P w) P w K mg base n__law_box_f64f "_law_box" (defScope s__law_box_f64f) f cdv A outer s H E) (defBody s__law_box_f64f) u__law_box_f64f := by
  refine ss_cons ?_ ?_
  · refine s_set ?_ nd__law_box_f64f
    · refine se_ite ?_ ?_ ?_
      · refine st_cmp (op_cmps hr .lt) bok_cmp ?_ ?_ (nomark _)
        · exact se_var 1
        · refine se_bi cr_len bok_len T.b_len ?_
          · refine sa_cons ?_ ?_
            · exact se_var 0
            · exact sa_nil
      · refine se_ix hr ?_ ?_
        · exact se_var 0
        · exact se_var 1
      · exact se_int
  · refine ss_cons ?_ ?_
    · refine s_set ?_ nd__law_box_f64f
      · refine se_ite ?_ ?_ ?_
        · refine st_cmp (op_cmps hr .ge) bok_cmp ?_ ?_ (nomark _)
          · refine se_bi call_abs bok_abs T.b_abs ?_
            · refine sa_cons ?_ ?_
              · exact se_var 2
              · exact sa_nil
          · exact se_powc se_int se_int
        · refine se_bi call_abs bok_abs T.b_abs ?_
          · refine sa_cons ?_ ?_
            · exact se_var 2
            · exact sa_nil
        · exact se_int
    · refine ss_cons ?_ ?_
      · refine s_ret ?_
        · refine se_lst ?_
          · refine sa_cons ?_ ?_
            · exact se_var 3
            · refine sa_cons ?_ ?_
              · refine se_bin op_mod bok_mod ?_ ?_
                · refine se_bin op_muls bok_mul ?_ ?_
                  · refine se_bin op_adds bok_add ?_ ?_
                    · refine se_bin op_adds bok_add ?_ ?_
                      · refine se_bin op_mod bok_mod ?_ ?_
                        · exact se_var 2
                        · exact se_int
                      · refine se_bin op_muls bok_mul ?_ ?_
                        · exact se_int
                        · exact se_var 1
                    · exact se_int
                  · exact se_int
                · exact se_int
              · refine sa_cons ?_ ?_
                · exact se_int
                · exact sa_nil
      · exact ss_nil
theorem ok__law_box_f64f {f : Addr} {fd : FuncData} (F : Fun K "_law_box" "_law_box" s__law_box_f64f f fd) (T : Tx K mg)  : FnOk P w K mg base (L2.CX P w) 1 f fd ["_law_script", "_law_k"] (spA K a__law_box_f64f) :=
  fn_ok F sc__law_box_f64f len__law_box_f64f (fun cdv A outer s H E hr => snd__law_box_f64f T  cdv A outer s H E hr) body__law_box_f64f
theorem snd__law_cells (T : Tx K mg) (c__law_box_f64f : Cal P w K mg base 1 "_law_box" (spA K a__law_box_f64f)) {f : Addr} (cdv : Value) (A : Around) (outer : List Env) (s : Shared) (H : Hp) (E : XK) (hr : Room 1 (A.deeper (envOfC "_law_cells" (defScope s__law_cells) s.heap.objs.size f cdv))) : SSs (cxOf (L2.CX P w) P w K mg base n__law_cells "_law_cells" (defScope s__law_cells) f cdv A outer s H E) (defBody s__law_cells) u__law_cells := by
  refine ss_cons ?_ ?_
  · refine s_ret ?_
    · refine se_lc (own := [("_law_k", 1)]) (nd__law_cells) ?_ (blkOk_by (N := n__law_cells) (sc := defScope s__law_cells) (by decide +kernel)) rfl (fun s H C cl fp => ?_) ?_ (fun s H C cl fp => ?_)
      · refine si_rng1 T.b_range ?_
        · refine se_bi (call_max2 rfl) bok_max2 T.b_max ?_
          · refine sa_cons ?_ ?_
            · exact se_int
            · refine sa_cons ?_ ?_
              · refine se_bi (call_min2 rfl) bok_min2 T.b_min ?_
                · refine sa_cons ?_ ?_
                  · refine se_bi cr_len bok_len T.b_len ?_
                    · refine sa_cons ?_ ?_
                      · exact se_var 0
                      · exact sa_nil
                  · refine sa_cons ?_ ?_
                    · exact se_int
                    · exact sa_nil
              · exact sa_nil
      · exact xg_name 1 (nd__law_cells)
      · exact .no
      · refine se_call c__law_box_f64f hr ?_
        · refine sa_cons ?_ ?_
          · exact se_var 0
          · refine sa_cons ?_ ?_
            · exact se_var 1
            · exact sa_nil
  · exact ss_nil
theorem ok__law_cells {f : Addr} {fd : FuncData} (F : Fun K "_law_cells" "_law_cells" s__law_cells f fd) (T : Tx K mg) (c__law_box_f64f : Cal P w K mg base 1 "_law_box" (spA K a__law_box_f64f)) : FnOk P w K mg base (L2.CX P w) 2 f fd ["_law_script"] (spA K a__law_cells) :=
  fn_ok F sc__law_cells len__law_cells (fun cdv A outer s H E hr => snd__law_cells T c__law_box_f64f cdv A outer s H E hr) body__law_cells
theorem snd__law_take_9ad5 (T : Tx K mg)  {f : Addr} (cdv : Value) (A : Around) (outer : List Env) (s : Shared) (H : Hp) (E : XK) (hr : Room 0 (A.deeper (envOfC "_law_take" (defScope s__law_take_9ad5) s.heap.objs.size f cdv))) : SSs (cxOf (L2.CX P w) P w K mg base n__law_take_9ad5 "_law_take" (defScope s__law_take_9ad5) f cdv A outer s H E) (defBody s__law_take_9ad5) u__law_take_9ad5 := by
  refine ss_cons ?_ ?_
  · refine s_if ?_ ?_ ?_
    · refine st_cmp (op_cmps hr .gt) bok_cmp ?_ ?_ (nomark _)
      · refine se_ix hr ?_ ?_
        · exact se_var 0
        · exact se_int
      · exact se_int
    · refine ss_cons ?_ ?_
      · refine s_set ?_ nd__law_take_9ad5
        · refine se_bin op_mod bok_mod ?_ ?_
          · refine se_ix hr ?_ ?_
            · exact se_var 0
            · exact se_int
          · exact se_var 1
      · refine ss_cons ?_ ?_
        · refine s_iset hr ?_ ?_ ?_
          · exact se_var 0
          · exact se_int
          · refine se_bin op_fdivW bok_fdv ?_ ?_
            · refine se_ix hr ?_ ?_
              · exact se_var 0
              · exact se_int
            · exact se_var 1
        · refine ss_cons ?_ ?_
          · refine s_ret ?_
            · exact se_var 2
          · exact ss_nil
    · exact ss_nil
  · refine ss_cons ?_ ?_
    · refine s_iset hr ?_ ?_ ?_
      · exact se_var 0
      · exact se_int
      · refine se_bin op_adds bok_add ?_ ?_
        · refine se_ix hr ?_ ?_
          · exact se_var 0
          · exact se_int
        · exact se_int
    · refine ss_cons ?_ ?_
      · refine s_set ?_ nd__law_take_9ad5
        · refine se_bin op_mod bok_mod ?_ ?_
          · refine se_bin op_muls bok_mul ?_ ?_
            · refine se_bin op_adds bok_add ?_ ?_
              · refine se_ix hr ?_ ?_
                · exact se_var 0
                · exact se_int
              · refine se_bin op_muls bok_mul ?_ ?_
                · exact se_int
                · refine se_ix hr ?_ ?_
                  · exact se_var 0
                  · exact se_int
            · refine se_bin op_adds bok_add ?_ ?_
              · exact se_int
              · refine se_ix hr ?_ ?_
                · exact se_var 0
                · exact se_int
          · exact se_int
      · refine ss_cons ?_ ?_
        · refine s_iset hr ?_ ?_ ?_
          · exact se_var 0
          · exact se_int
          · refine se_bin op_mod bok_mod ?_ ?_
            · refine se_bin op_adds bok_add ?_ ?_
              · refine se_bin op_muls bok_mul ?_ ?_
                · exact se_var 3
                · refine se_bin op_adds bok_add ?_ ?_
                  · refine se_bin op_mod bok_mod ?_ ?_
                    · exact se_var 3
                    · exact se_int
                  · exact se_int
              · refine se_ix hr ?_ ?_
                · exact se_var 0
                · exact se_int
            · exact se_int
        · refine ss_cons ?_ ?_
          · refine s_ret ?_
            · refine se_bin op_mod bok_mod ?_ ?_
              · refine se_bin op_fdivW bok_fdv ?_ ?_
                · refine se_bin op_mod bok_mod ?_ ?_
                  · refine se_bin op_muls bok_mul ?_ ?_
                    · refine se_ix hr ?_ ?_
                      · exact se_var 0
                      · exact se_int
                    · refine se_bin op_adds bok_add ?_ ?_
                      · refine se_bin op_mod bok_mod ?_ ?_
                        · refine se_ix hr ?_ ?_
                          · exact se_var 0
                          · exact se_int
                        · exact se_int
                      · exact se_int
                  · exact se_int
                · exact se_int
              · exact se_var 1
          · exact ss_nil
theorem ok__law_take_9ad5 {f : Addr} {fd : FuncData} (F : Fun K "_law_take" "_law_take" s__law_take_9ad5 f fd) (T : Tx K mg)  : FnOk P w K mg base (L2.CX P w) 1 f fd ["_law_box_here", "_law_many"] (spA K a__law_take_9ad5) :=
  fn_ok F sc__law_take_9ad5 len__law_take_9ad5 (fun cdv A outer s H E hr => snd__law_take_9ad5 T  cdv A outer s H E hr) body__law_take_9ad5
theorem snd__law_counts_d162 (T : Tx K mg) (c__law_take_9ad5 : Cal P w K mg base 1 "_law_take" (spA K a__law_take_9ad5)) {f : Addr} (cdv : Value) (A : Around) (outer : List Env) (s : Shared) (H : Hp) (E : XK) (hr : Room 1 (A.deeper (envOfC "_law_counts" (defScope s__law_counts_d162) s.heap.objs.size f cdv))) : SSs (cxOf (L2.CX P w) P w K mg base n__law_counts_d162 "_law_counts" (defScope s__law_counts_d162) f cdv A outer s H E) (defBody s__law_counts_d162) u__law_counts_d162 := by
  refine ss_cons ?_ ?_
  · refine s_set ?_ nd__law_counts_d162
    · refine se_slH ?_ ?_
      · refine se_lst ?_
        · refine sa_cons ?_ ?_
          · exact se_str
          · refine sa_cons ?_ ?_
            · exact se_str
            · refine sa_cons ?_ ?_
              · exact se_str
              · refine sa_cons ?_ ?_
                · exact se_str
                · refine sa_cons ?_ ?_
                  · exact se_str
                  · refine sa_cons ?_ ?_
                    · exact se_str
                    · refine sa_cons ?_ ?_
                      · exact se_str
                      · refine sa_cons ?_ ?_
                        · exact se_str
                        · refine sa_cons ?_ ?_
                          · exact se_str
                          · exact sa_nil
      · refine se_call c__law_take_9ad5 hr ?_
        · refine sa_cons ?_ ?_
          · exact se_var 0
          · refine sa_cons ?_ ?_
            · exact se_int
            · exact sa_nil
  · refine ss_cons ?_ ?_
    · refine s_ret ?_
      · refine se_ty call_tuple_of bok_toTup T.b_tuple ?_
        · refine sa_cons ?_ ?_
          · refine se_lc (own := [("_law_name", 2)]) (nd__law_counts_d162) ?_ (blkOk_by (N := n__law_counts_d162) (sc := defScope s__law_counts_d162) (by decide +kernel)) rfl (fun s H C cl fp => ?_) ?_ (fun s H C cl fp => ?_)
            · refine si_val ?_
              · exact se_var 1
            · exact xg_name 2 (nd__law_counts_d162)
            · exact .no
            · refine se_tup ?_
              · refine sa_cons ?_ ?_
                · exact se_var 2
                · refine sa_cons ?_ ?_
                  · refine se_call c__law_take_9ad5 hr ?_
                    · refine sa_cons ?_ ?_
                      · exact se_var 0
                      · refine sa_cons ?_ ?_
                        · exact se_int
                        · exact sa_nil
                  · exact sa_nil
          · exact sa_nil
    · exact ss_nil
theorem ok__law_counts_d162 {f : Addr} {fd : FuncData} (F : Fun K "_law_counts" "_law_counts" s__law_counts_d162 f fd) (T : Tx K mg) (c__law_take_9ad5 : Cal P w K mg base 1 "_law_take" (spA K a__law_take_9ad5)) : FnOk P w K mg base (L2.CX P w) 2 f fd ["_law_box_here"] (spA K a__law_counts_d162) :=
  fn_ok F sc__law_counts_d162 len__law_counts_d162 (fun cdv A outer s H E hr => snd__law_counts_d162 T c__law_take_9ad5 cdv A outer s H E hr) body__law_counts_d162
theorem snd__law_alike_56a9 (T : Tx K mg)  {aR : ASp} {kR jR : Nat} (cR : Cal P w K mg base kR "_law_alike" (spA K aR)) (hkR : kR ≤ jR) {f : Addr} (cdv : Value) (A : Around) (outer : List Env) (s : Shared) (H : Hp) (E : XK) (hr : Room jR (A.deeper (envOfC "_law_alike" (defScope s__law_alike_56a9) s.heap.objs.size f cdv))) : SSs (cxOf (L2.CX P w) P w K mg base n__law_alike_56a9 "_law_alike" (defScope s__law_alike_56a9) f cdv A outer s H E) (defBody s__law_alike_56a9) (u__law_alike_56a9 aR) := by
  refine ss_cons ?_ ?_
  · refine s_if ?_ ?_ ?_
    · refine st_val ?_
      · refine se_isi2 .list .tuple T.b_isinstance T.b_list T.b_tuple ?_
        · exact se_var 1
    · refine ss_cons ?_ ?_
      · refine s_if ?_ ?_ ?_
        · refine SWh.st ?_
          · refine sw_or ?_ ?_
            · refine st_not ?_
              · refine st_val ?_
                · refine se_isi2 .list .tuple T.b_isinstance T.b_list T.b_tuple ?_
                  · exact se_var 0
            · refine sw_or1 ?_
              · refine st_cmp (op_nes hr) bok_ne ?_ ?_ (nomark _)
                · refine se_isi .list T.b_isinstance T.b_list ?_
                  · exact se_var 0
                · refine se_isi .list T.b_isinstance T.b_list ?_
                  · exact se_var 1
        · refine ss_cons ?_ ?_
          · refine s_ret ?_
            · exact se_bl
          · exact ss_nil
        · exact ss_nil
      · refine ss_cons ?_ ?_
        · refine s_ret ?_
          · refine se_and ?_ ?_
            · refine se_cmp (op_eqs hr) bok_eq ?_ ?_ (nomark _)
              · refine se_bi cr_len bok_len T.b_len ?_
                · refine sa_cons ?_ ?_
                  · exact se_var 0
                  · exact sa_nil
              · refine se_bi cr_len bok_len T.b_len ?_
                · refine sa_cons ?_ ?_
                  · exact se_var 1
                  · exact sa_nil
            · refine se_one ?_
              · refine se_bi (cr_all rfl) bok_all T.b_all ?_
                · refine sa_cons ?_ ?_
                  · refine se_lc (own := [("_law_one", 2), ("_law_other", 3)]) (nd__law_alike_56a9) ?_ (blkOk_by (N := n__law_alike_56a9) (sc := defScope s__law_alike_56a9) (by decide +kernel)) rfl (fun s H C cl fp => ?_) ?_ (fun s H C cl fp => ?_)
                    · refine si_zip2 T.b_zip ?_ ?_
                      · exact se_var 0
                      · exact se_var 1
                    · refine xg_tup ?_
                      · refine xgs_cons ?_ ?_
                        · exact xg_name 2 (nd__law_alike_56a9)
                        · refine xgs_cons ?_ ?_
                          · exact xg_name 3 (nd__law_alike_56a9)
                          · exact xgs_nil
                    · exact .no
                    · refine se_call cR hr ?_ (hk := hkR)
                      · refine sa_cons ?_ ?_
                        · exact se_var 2
                        · refine sa_cons ?_ ?_
                          · exact se_var 3
                          · exact sa_nil
                  · exact sa_nil
        · exact ss_nil
    · exact ss_nil
  · refine ss_cons ?_ ?_
    · refine s_if ?_ ?_ ?_
      · refine SWh.st ?_
        · refine sw_or ?_ ?_
          · refine st_cmp op_iss bok_is ?_ ?_ (nomark _)
            · exact se_var 1
            · exact se_non
          · refine sw_or1 ?_
            · refine st_val ?_
              · refine se_isi .str T.b_isinstance T.b_str ?_
                · exact se_var 1
      · refine ss_cons ?_ ?_
        · refine s_ret ?_
          · refine se_and ?_ ?_
            · refine se_cmp (op_eqs hr) bok_eq ?_ ?_ (nomark _)
              · exact se_var 0
              · exact se_var 1
            · refine se_one ?_
              · refine se_cmp (op_eqs hr) bok_eq ?_ ?_ (nomark _)
                · refine se_isi .str T.b_isinstance T.b_str ?_
                  · exact se_var 0
                · refine se_isi .str T.b_isinstance T.b_str ?_
                  · exact se_var 1
        · exact ss_nil
      · exact ss_nil
    · refine ss_cons ?_ ?_
      · refine s_ret ?_
        · refine se_and ?_ ?_
          · refine se_isi .int T.b_isinstance T.b_int ?_
            · exact se_var 0
          · refine se_and ?_ ?_
            · refine se_cmp (op_eqs hr) bok_eq ?_ ?_ (nomark _)
              · refine se_isi .bool T.b_isinstance T.b_bool ?_
                · exact se_var 0
              · refine se_isi .bool T.b_isinstance T.b_bool ?_
                · exact se_var 1
            · refine se_one ?_
              · refine se_cmp (op_eqs hr) bok_eq ?_ ?_ (nomark _)
                · exact se_var 0
                · exact se_var 1
      · exact ss_nil
theorem ok__law_alike_56a9 {f : Addr} {fd : FuncData} (F : Fun K "_law_alike" "_law_alike" s__law_alike_56a9 f fd) (T : Tx K mg)  (hm : mg "_law_alike" = some (.ref f)) (b : Binds K fd ["_law_found", "_law_due"] []) : ∀ n : Nat, FnOk P w K mg base (L2.CX P w) (1 + n) f fd ["_law_found", "_law_due"] (spA K (r__law_alike_56a9 n))
  | 0 => ⟨fun _ _ _ _ h => (let ⟨_, _, _, _, _, _, _, h, _⟩ := h; absurd h (zero__law_alike_56a9 _ _ _ _)), fun _ _ _ _ _ _ _ _ _ _ _ _ _ h => (let ⟨_, _, _, _, _, _, _, h, _⟩ := h; absurd h (zero__law_alike_56a9 _ _ _ _))⟩
  | n + 1 => fn_ok F sc__law_alike_56a9 (len__law_alike_56a9 (n + 1)) (fun cdv A outer s H E hr => snd__law_alike_56a9 T  (cal_mk (ok__law_alike_56a9 F T  hm b n) hm F.kp b) (Nat.le_refl _) cdv A outer s H E hr) (body__law_alike_56a9 n)
theorem snd__law_classes (T : Tx K mg)  {f : Addr} (cdv : Value) (A : Around) (outer : List Env) (s : Shared) (H : Hp) (E : XK) (hr : Room 0 (A.deeper (envOfC "_law_classes" (defScope s__law_classes) s.heap.objs.size f cdv))) : SSs (cxOf (L2.CX P w) P w K mg base n__law_classes "_law_classes" (defScope s__law_classes) f cdv A outer s H E) (defBody s__law_classes) u__law_classes := by
  refine ss_cons ?_ ?_
  · refine s_set ?_ nd__law_classes
    · refine se_lst ?_
      · refine sa_cons ?_ ?_
        · refine se_isX .Taken T.b_isinstance T.x_Taken T.TX T.TI_Taken ?_
          · exact se_var 0
        · refine sa_cons ?_ ?_
          · refine se_isX .NoKey T.b_isinstance T.x_NoKey T.TX T.TI_NoKey ?_
            · exact se_var 0
          · refine sa_cons ?_ ?_
            · refine se_isX .TooMuch T.b_isinstance T.x_TooMuch T.TX T.TI_TooMuch ?_
              · exact se_var 0
            · exact sa_nil
  · refine ss_cons ?_ ?_
    · refine s_set ?_ nd__law_classes
      · refine se_bin op_adds bok_add ?_ ?_
        · exact se_var 1
        · refine se_lst ?_
          · refine sa_cons ?_ ?_
            · refine se_isX .NoHouse T.b_isinstance T.x_NoHouse T.TX T.TI_NoHouse ?_
              · exact se_var 0
            · refine sa_cons ?_ ?_
              · refine se_isX .NoGang T.b_isinstance T.x_NoGang T.TX T.TI_NoGang ?_
                · exact se_var 0
              · refine sa_cons ?_ ?_
                · refine se_isX .NoGuild T.b_isinstance T.x_NoGuild T.TX T.TI_NoGuild ?_
                  · exact se_var 0
                · exact sa_nil
    · refine ss_cons ?_ ?_
      · refine s_set ?_ nd__law_classes
        · refine se_bin op_adds bok_add ?_ ?_
          · exact se_var 1
          · refine se_lst ?_
            · refine sa_cons ?_ ?_
              · refine se_isX .NoKind T.b_isinstance T.x_NoKind T.TX T.TI_NoKind ?_
                · exact se_var 0
              · refine sa_cons ?_ ?_
                · refine se_isX .InUse T.b_isinstance T.x_InUse T.TX T.TI_InUse ?_
                  · exact se_var 0
                · refine sa_cons ?_ ?_
                  · refine se_isX .TooMany T.b_isinstance T.x_TooMany T.TX T.TI_TooMany ?_
                    · exact se_var 0
                  · exact sa_nil
      · refine ss_cons ?_ ?_
        · refine s_ret ?_
          · refine se_bin op_adds bok_add ?_ ?_
            · exact se_var 1
            · refine se_lst ?_
              · refine sa_cons ?_ ?_
                · refine se_isX .NoPlan T.b_isinstance T.x_NoPlan T.TX T.TI_NoPlan ?_
                  · exact se_var 0
                · refine sa_cons ?_ ?_
                  · refine se_isX .Past T.b_isinstance T.x_Past T.TX T.TI_Past ?_
                    · exact se_var 0
                  · refine sa_cons ?_ ?_
                    · refine se_isX .BadRow T.b_isinstance T.x_BadRow T.TX T.TI_BadRow ?_
                      · exact se_var 0
                    · exact sa_nil
        · exact ss_nil
theorem ok__law_classes {f : Addr} {fd : FuncData} (F : Fun K "_law_classes" "_law_classes" s__law_classes f fd) (T : Tx K mg)  : FnOk P w K mg base (L2.CX P w) 1 f fd ["_law_error"] (spA K a__law_classes) :=
  fn_ok F sc__law_classes len__law_classes (fun cdv A outer s H E hr => snd__law_classes T  cdv A outer s H E hr) body__law_classes
theorem snd_law_k05 (T : Tx K mg) (c__law_cells : Cal P w K mg base 2 "_law_cells" (spA K a__law_cells)) (c__law_take_9ad5 : Cal P w K mg base 1 "_law_take" (spA K a__law_take_9ad5)) (c__law_counts_d162 : Cal P w K mg base 2 "_law_counts" (spA K a__law_counts_d162)) (c__law_alike_56a9 : Cal P w K mg base 7 "_law_alike" (spA K a__law_alike_56a9)) (c__law_classes : Cal P w K mg base 1 "_law_classes" (spA K a__law_classes)) (i_BadRow : InitF P w K mg base 1 .BadRow .row) (i_NoPlan : InitF P w K mg base 1 .NoPlan .counts) (i_TooMuch : InitF P w K mg base 1 .TooMuch .time) {f : Addr} (cdv : Value) (A : Around) (outer : List Env) (s : Shared) (H : Hp) (E : XK) (hr : Room 7 (A.deeper (envOfC "law" (defScope s_law_k05) s.heap.objs.size f cdv))) : SSs (cxOf (L2.CX P w) P w K mg base n_law_k05 "law" (defScope s_law_k05) f cdv A outer s H E) (defBody s_law_k05) u_law_k05 := by
  refine ss_cut ?_ ?_
  · refine s_for ?_ ?_ ?_
    · refine si_val ?_
      · refine se_call c__law_cells hr ?_
        · refine sa_cons ?_ ?_
          · exact se_var 0
          · exact sa_nil
    · exact xg_name 1 (nd_law_k05)
    · refine ss_cons ?_ ?_
      · refine s_set ?_ nd_law_k05
        · refine se_bm k_join ?_ ?_
          · exact se_str
          · refine sa_cons ?_ ?_
            · refine se_lc (own := [("_law_k", 7)]) (nd_law_k05) ?_ (blkOk_by (N := n_law_k05) (sc := defScope s_law_k05) (by decide +kernel)) rfl (fun s H C cl fp => ?_) ?_ (fun s H C cl fp => ?_)
              · refine si_rng1 T.b_range ?_
                · refine se_call c__law_take_9ad5 hr ?_
                  · refine sa_cons ?_ ?_
                    · exact se_var 1
                    · refine sa_cons ?_ ?_
                      · exact se_int
                      · exact sa_nil
              · exact xg_name 7 (nd_law_k05)
              · exact .no
              · refine se_ix hr ?_ ?_
                · exact se_str
                · refine se_call c__law_take_9ad5 hr ?_
                  · refine sa_cons ?_ ?_
                    · exact se_var 1
                    · refine sa_cons ?_ ?_
                      · exact se_int
                      · exact sa_nil
            · exact sa_nil
      · refine ss_cons ?_ ?_
        · refine s_par3 ?_ ?_ ?_ nd_law_k05
          · refine se_call c__law_take_9ad5 hr ?_
            · refine sa_cons ?_ ?_
              · exact se_var 1
              · refine sa_cons ?_ ?_
                · refine se_bin op_adds bok_add ?_ ?_
                  · exact se_powc se_int se_int
                  · exact se_int
                · exact sa_nil
          · refine se_call c__law_counts_d162 hr ?_
            · refine sa_cons ?_ ?_
              · exact se_var 1
              · exact sa_nil
          · refine se_call c__law_take_9ad5 hr ?_
            · refine sa_cons ?_ ?_
              · exact se_var 1
              · refine sa_cons ?_ ?_
                · exact se_int
                · exact sa_nil
        · refine ss_cons ?_ ?_
          · refine s_set ?_ nd_law_k05
            · refine se_lst ?_
              · refine sa_cons ?_ ?_
                · refine se_exn0 .Taken T.x_Taken T.x0_Taken ?_
                  · exact se_var 2
                · refine sa_cons ?_ ?_
                  · refine se_exn0 .NoKey T.x_NoKey T.x0_NoKey ?_
                    · exact se_var 2
                  · refine sa_cons ?_ ?_
                    · refine se_exn1 .TooMuch .time i_TooMuch hr ?_ ?_
                      · exact se_var 2
                      · exact se_var 3
                    · refine sa_cons ?_ ?_
                      · refine se_exn0 .NoHouse T.x_NoHouse T.x0_NoHouse ?_
                        · exact se_var 2
                      · refine sa_cons ?_ ?_
                        · refine se_exn0 .NoGang T.x_NoGang T.x0_NoGang ?_
                          · exact se_var 2
                        · refine sa_cons ?_ ?_
                          · refine se_exn0 .NoGuild T.x_NoGuild T.x0_NoGuild ?_
                            · exact se_var 2
                          · exact sa_nil
          · refine ss_cons ?_ ?_
            · refine s_set ?_ nd_law_k05
              · refine se_bin op_adds bok_add ?_ ?_
                · exact se_var 6
                · refine se_lst ?_
                  · refine sa_cons ?_ ?_
                    · refine se_exn0 .NoKind T.x_NoKind T.x0_NoKind ?_
                      · exact se_var 2
                    · refine sa_cons ?_ ?_
                      · refine se_exn0 .InUse T.x_InUse T.x0_InUse ?_
                        · exact se_var 2
                      · refine sa_cons ?_ ?_
                        · refine se_exn0 .TooMany T.x_TooMany T.x0_TooMany ?_
                          · exact se_var 2
                        · refine sa_cons ?_ ?_
                          · refine se_exn1 .NoPlan .counts i_NoPlan hr ?_ ?_
                            · exact se_var 2
                            · exact se_var 4
                          · refine sa_cons ?_ ?_
                            · refine se_exn0 .Past T.x_Past T.x0_Past ?_
                              · exact se_var 2
                            · exact sa_nil
            · refine ss_cons ?_ ?_
              · refine s_set ?_ nd_law_k05
                · refine se_bin op_adds bok_add ?_ ?_
                  · exact se_var 6
                  · refine se_lst ?_
                    · refine sa_cons ?_ ?_
                      · refine se_exn1 .BadRow .row i_BadRow hr ?_ ?_
                        · exact se_var 2
                        · exact se_var 5
                      · exact sa_nil
              · refine ss_cut ?_ ?_
                · refine s_for ?_ ?_ ?_
                  · refine si_enum T.b_enumerate ?_
                    · exact se_var 6
                  · refine xg_tup ?_
                    · refine xgs_cons ?_ ?_
                      · exact xg_name 7 (nd_law_k05)
                      · refine xgs_cons ?_ ?_
                        · exact xg_name 8 (nd_law_k05)
                        · exact xgs_nil
                  · refine ss_cons ?_ ?_
                    · refine s_if ?_ ?_ ?_
                      · refine SWh.st ?_
                        · refine sw_or ?_ ?_
                          · refine st_not ?_
                            · refine st_val ?_
                              · refine se_isX .HallError T.b_isinstance T.x_HallError T.TX T.TI_HallError ?_
                                · exact se_var 8
                          · refine sw_or1 ?_
                            · refine st_not ?_
                              · refine st_val ?_
                                · refine se_isVE T.b_isinstance T.b_ValueError T.TX T.TV ?_
                                  · exact se_var 8
                      · refine ss_cons ?_ ?_
                        · refine s_ret ?_
                          · exact se_bl
                        · exact ss_nil
                      · exact ss_nil
                    · refine ss_cons ?_ ?_
                      · refine s_if ?_ ?_ ?_
                        · refine st_cmp (op_nes hr) bok_ne ?_ ?_ (nomark _)
                          · refine se_call c__law_classes hr ?_
                            · refine sa_cons ?_ ?_
                              · exact se_var 8
                              · exact sa_nil
                          · refine se_lc (own := [("_law_j", 10)]) (nd_law_k05) ?_ (blkOk_by (N := n_law_k05) (sc := defScope s_law_k05) (by decide +kernel)) rfl (fun s H C cl fp => ?_) ?_ (fun s H C cl fp => ?_)
                            · refine si_rng1 T.b_range ?_
                              · exact se_int
                            · exact xg_name 10 (nd_law_k05)
                            · exact .no
                            · refine se_cmp (op_eqs hr) bok_eq ?_ ?_ (nomark _)
                              · exact se_var 10
                              · exact se_var 7
                        · refine ss_cons ?_ ?_
                          · refine s_ret ?_
                            · exact se_bl
                          · exact ss_nil
                        · exact ss_nil
                      · exact ss_nil
                · refine ss_cons ?_ ?_
                  · refine s_if ?_ ?_ ?_
                    · refine st_not ?_
                      · refine st_val ?_
                        · refine se_call c__law_alike_56a9 hr ?_
                          · refine sa_cons ?_ ?_
                            · refine se_lst ?_
                              · refine sa_cons ?_ ?_
                                · refine se_fld (f := .time) T.TC T.TE ?_
                                  · refine se_ix hr ?_ ?_
                                    · exact se_var 6
                                    · exact se_int
                                · refine sa_cons ?_ ?_
                                  · refine se_fld (f := .counts) T.TC T.TE ?_
                                    · refine se_ix hr ?_ ?_
                                      · exact se_var 6
                                      · exact se_int
                                  · refine sa_cons ?_ ?_
                                    · refine se_fld (f := .row) T.TC T.TE ?_
                                      · refine se_ix hr ?_ ?_
                                        · exact se_var 6
                                        · exact se_int
                                    · exact sa_nil
                            · refine sa_cons ?_ ?_
                              · refine se_lst ?_
                                · refine sa_cons ?_ ?_
                                  · exact se_var 3
                                  · refine sa_cons ?_ ?_
                                    · exact se_var 4
                                    · refine sa_cons ?_ ?_
                                      · exact se_var 5
                                      · exact sa_nil
                              · exact sa_nil
                    · refine ss_cons ?_ ?_
                      · refine s_ret ?_
                        · exact se_bl
                      · exact ss_nil
                    · exact ss_nil
                  · exact ss_nil
  · refine ss_cons ?_ ?_
    · refine s_set ?_ nd_law_k05
      · refine se_exn0 .HallError T.x_HallError T.x0_HallError ?_
        · exact se_str
    · refine ss_cons ?_ ?_
      · refine s_ret ?_
        · refine se_and ?_ ?_
          · refine se_isVE T.b_isinstance T.b_ValueError T.TX T.TV ?_
            · exact se_var 9
          · refine se_one ?_
            · refine se_cmp (op_notIns hr) bok_notIn ?_ ?_ (by rfl)
              · exact se_bl
              · refine se_call c__law_classes hr ?_
                · refine sa_cons ?_ ?_
                  · exact se_var 9
                  · exact sa_nil
      · exact ss_nil
theorem ok_law_k05 {f : Addr} {fd : FuncData} (F : Fun K "law" "law" s_law_k05 f fd) (T : Tx K mg) (c__law_cells : Cal P w K mg base 2 "_law_cells" (spA K a__law_cells)) (c__law_take_9ad5 : Cal P w K mg base 1 "_law_take" (spA K a__law_take_9ad5)) (c__law_counts_d162 : Cal P w K mg base 2 "_law_counts" (spA K a__law_counts_d162)) (c__law_alike_56a9 : Cal P w K mg base 7 "_law_alike" (spA K a__law_alike_56a9)) (c__law_classes : Cal P w K mg base 1 "_law_classes" (spA K a__law_classes)) (i_BadRow : InitF P w K mg base 1 .BadRow .row) (i_NoPlan : InitF P w K mg base 1 .NoPlan .counts) (i_TooMuch : InitF P w K mg base 1 .TooMuch .time) : FnOk P w K mg base (L2.CX P w) 8 f fd ["_law_script"] (spA K a_law_k05) :=
  fn_ok F sc_law_k05 len_law_k05 (fun cdv A outer s H E hr => snd_law_k05 T c__law_cells c__law_take_9ad5 c__law_counts_d162 c__law_alike_56a9 c__law_classes i_BadRow i_NoPlan i_TooMuch cdv A outer s H E hr) body_law_k05
end
def allP (P : Fld → Prop) : List Fld → Prop
  | [] => True
  | f :: fs => P f ∧ allP P fs
theorem na_of {P : Fld → Prop} : ∀ {fs : List Fld}, allP P fs → ∀ f ∈ fs, P f
  | [], _, _, h => by cases h
  | _ :: _, h, _, hm => by
    cases hm with
    | head => exact h.1
    | tail _ hm => exact na_of h.2 _ hm
theorem all_mk {l : PySem.W.OpenLaw} {w : World} {K : PySem.W.Frag} {h : Heap} {mg : Str → Option Value} {fa f0 f1 f2 f3 f4 f5 f6 X_HallError X_Taken X_NoKey X_TooMuch X_NoHouse X_NoGang X_NoGuild X_NoKind X_InUse X_TooMany X_NoPlan X_Past X_BadRow fI_BadRow fI_NoPlan fI_TooMuch : Addr} (X : K.In h) (G : h.Ns mainGlobals mg) (hfa : mg "law" = some (.ref fa))
    (gX_HallError : PySem.W.nsIn K mainGlobals "HallError" = some (some (.ref X_HallError)))
    (gX_Taken : PySem.W.nsIn K mainGlobals "Taken" = some (some (.ref X_Taken)))
    (gX_NoKey : PySem.W.nsIn K mainGlobals "NoKey" = some (some (.ref X_NoKey)))
    (gX_TooMuch : PySem.W.nsIn K mainGlobals "TooMuch" = some (some (.ref X_TooMuch)))
    (gX_NoHouse : PySem.W.nsIn K mainGlobals "NoHouse" = some (some (.ref X_NoHouse)))
    (gX_NoGang : PySem.W.nsIn K mainGlobals "NoGang" = some (some (.ref X_NoGang)))
    (gX_NoGuild : PySem.W.nsIn K mainGlobals "NoGuild" = some (some (.ref X_NoGuild)))
    (gX_NoKind : PySem.W.nsIn K mainGlobals "NoKind" = some (some (.ref X_NoKind)))
    (gX_InUse : PySem.W.nsIn K mainGlobals "InUse" = some (some (.ref X_InUse)))
    (gX_TooMany : PySem.W.nsIn K mainGlobals "TooMany" = some (some (.ref X_TooMany)))
    (gX_NoPlan : PySem.W.nsIn K mainGlobals "NoPlan" = some (some (.ref X_NoPlan)))
    (gX_Past : PySem.W.nsIn K mainGlobals "Past" = some (some (.ref X_Past)))
    (gX_BadRow : PySem.W.nsIn K mainGlobals "BadRow" = some (some (.ref X_BadRow)))
    {od0 an0 : Option Addr} {sl0 : Array (Option Value)} {oc0 kV0 dc0 pm0 cd0 ct0 : Value}
    (a0 : PySem.W.nsIn K mainGlobals "_law_box" = some (some (.ref f0)))
    (l0 : K.lookup f0 = some ⟨oc0, od0, .func (PySem.W.fnOf "_law_box" "_law_box" (defArgs s__law_box_f64f) (defBody s__law_box_f64f) (defScope s__law_box_f64f) .none kV0 dc0 pm0 an0 cd0 ct0), sl0⟩)
    (c0 : PySem.W.codeIn K cd0 "_law_box" = true)
    (k0 : PySem.W.keepIn K (.ref f0) = true)
    {od1 an1 : Option Addr} {sl1 : Array (Option Value)} {oc1 kV1 dc1 pm1 cd1 ct1 : Value}
    (a1 : PySem.W.nsIn K mainGlobals "_law_cells" = some (some (.ref f1)))
    (l1 : K.lookup f1 = some ⟨oc1, od1, .func (PySem.W.fnOf "_law_cells" "_law_cells" (defArgs s__law_cells) (defBody s__law_cells) (defScope s__law_cells) .none kV1 dc1 pm1 an1 cd1 ct1), sl1⟩)
    (c1 : PySem.W.codeIn K cd1 "_law_cells" = true)
    (k1 : PySem.W.keepIn K (.ref f1) = true)
    {od2 an2 : Option Addr} {sl2 : Array (Option Value)} {oc2 kV2 dc2 pm2 cd2 ct2 : Value}
    (a2 : PySem.W.nsIn K mainGlobals "_law_take" = some (some (.ref f2)))
    (l2 : K.lookup f2 = some ⟨oc2, od2, .func (PySem.W.fnOf "_law_take" "_law_take" (defArgs s__law_take_9ad5) (defBody s__law_take_9ad5) (defScope s__law_take_9ad5) .none kV2 dc2 pm2 an2 cd2 ct2), sl2⟩)
    (c2 : PySem.W.codeIn K cd2 "_law_take" = true)
    (k2 : PySem.W.keepIn K (.ref f2) = true)
    {od3 an3 : Option Addr} {sl3 : Array (Option Value)} {oc3 kV3 dc3 pm3 cd3 ct3 : Value}
    (a3 : PySem.W.nsIn K mainGlobals "_law_counts" = some (some (.ref f3)))
    (l3 : K.lookup f3 = some ⟨oc3, od3, .func (PySem.W.fnOf "_law_counts" "_law_counts" (defArgs s__law_counts_d162) (defBody s__law_counts_d162) (defScope s__law_counts_d162) .none kV3 dc3 pm3 an3 cd3 ct3), sl3⟩)
    (c3 : PySem.W.codeIn K cd3 "_law_counts" = true)
    (k3 : PySem.W.keepIn K (.ref f3) = true)
    {od4 an4 : Option Addr} {sl4 : Array (Option Value)} {oc4 kV4 dc4 pm4 cd4 ct4 : Value}
    (a4 : PySem.W.nsIn K mainGlobals "_law_alike" = some (some (.ref f4)))
    (l4 : K.lookup f4 = some ⟨oc4, od4, .func (PySem.W.fnOf "_law_alike" "_law_alike" (defArgs s__law_alike_56a9) (defBody s__law_alike_56a9) (defScope s__law_alike_56a9) .none kV4 dc4 pm4 an4 cd4 ct4), sl4⟩)
    (c4 : PySem.W.codeIn K cd4 "_law_alike" = true)
    (k4 : PySem.W.keepIn K (.ref f4) = true)
    {od5 an5 : Option Addr} {sl5 : Array (Option Value)} {oc5 kV5 dc5 pm5 cd5 ct5 : Value}
    (a5 : PySem.W.nsIn K mainGlobals "_law_classes" = some (some (.ref f5)))
    (l5 : K.lookup f5 = some ⟨oc5, od5, .func (PySem.W.fnOf "_law_classes" "_law_classes" (defArgs s__law_classes) (defBody s__law_classes) (defScope s__law_classes) .none kV5 dc5 pm5 an5 cd5 ct5), sl5⟩)
    (c5 : PySem.W.codeIn K cd5 "_law_classes" = true)
    (k5 : PySem.W.keepIn K (.ref f5) = true)
    {od6 an6 : Option Addr} {sl6 : Array (Option Value)} {oc6 kV6 dc6 pm6 cd6 ct6 : Value}
    (a6 : PySem.W.nsIn K mainGlobals "law" = some (some (.ref f6)))
    (l6 : K.lookup f6 = some ⟨oc6, od6, .func (PySem.W.fnOf "law" "law" (defArgs s_law_k05) (defBody s_law_k05) (defScope s_law_k05) .none kV6 dc6 pm6 an6 cd6 ct6), sl6⟩)
    (c6 : PySem.W.codeIn K cd6 "law" = true)
    (k6 : PySem.W.keepIn K (.ref f6) = true)
    (z0 : PySem.W.nsIn K mainGlobals "ValueError" = some none)
    (z1 : PySem.W.nsIn K mainGlobals "abs" = some none)
    (z2 : PySem.W.nsIn K mainGlobals "all" = some none)
    (z3 : PySem.W.nsIn K mainGlobals "bool" = some none)
    (z4 : PySem.W.nsIn K mainGlobals "enumerate" = some none)
    (z5 : PySem.W.nsIn K mainGlobals "int" = some none)
    (z6 : PySem.W.nsIn K mainGlobals "isinstance" = some none)
    (z7 : PySem.W.nsIn K mainGlobals "len" = some none)
    (z8 : PySem.W.nsIn K mainGlobals "list" = some none)
    (z9 : PySem.W.nsIn K mainGlobals "max" = some none)
    (z10 : PySem.W.nsIn K mainGlobals "min" = some none)
    (z11 : PySem.W.nsIn K mainGlobals "range" = some none)
    (z12 : PySem.W.nsIn K mainGlobals "str" = some none)
    (z13 : PySem.W.nsIn K mainGlobals "tuple" = some none)
    (z14 : PySem.W.nsIn K mainGlobals "zip" = some none)
    (nC_Book : PySem.W.nsIn K mainGlobals "Book" = some none)
    (nC_House : PySem.W.nsIn K mainGlobals "House" = some none)
    (nC_Estate : PySem.W.nsIn K mainGlobals "Estate" = some none)
    (nC_Share : PySem.W.nsIn K mainGlobals "Share" = some none)
    (nC_Taker : PySem.W.nsIn K mainGlobals "Taker" = some none)
    (nC_Trial : PySem.W.nsIn K mainGlobals "Trial" = some none)
    (nC_Standing : PySem.W.nsIn K mainGlobals "Standing" = some none)
    (nC_Hall : PySem.W.nsIn K mainGlobals "Hall" = some none)
    (eb_HallError : PySem.W.subIn K (.ref X_HallError) (.type "BaseException") = some true)
    (eh_HallError : PySem.W.hasDictIn K X_HallError = true)
    (ea_HallError : PySem.W.findIn K (.ref X_HallError) "__getattribute__" = some (some (.builtin "BaseException.__getattribute__")))
    (eg_HallError : PySem.W.findIn K (.ref X_HallError) "__getattr__" = some none)
    (el_HallError : PySem.W.findIn K (.ref X_HallError) "__class__" = some (some (.builtin "object.__class__")))
    (eo_HallError : PySem.W.mroIn K X_HallError (.type "object") = some true)
    (ev_HallError : PySem.W.subIn K (.ref X_HallError) (.type "ValueError") = some true)
    (ek_HallError : PySem.W.keepIn K (.ref X_HallError) = true)
    (et_HallError : PySem.W.typeIn K (.ref X_HallError) = some (.type "type"))
    (e0_HallError : PySem.W.excIn K X_HallError [.type "ValueError", .type "Exception", .type "BaseException", .type "object"] "ValueError.__new__" = true)
    (eb_Taken : PySem.W.subIn K (.ref X_Taken) (.type "BaseException") = some true)
    (eh_Taken : PySem.W.hasDictIn K X_Taken = true)
    (ea_Taken : PySem.W.findIn K (.ref X_Taken) "__getattribute__" = some (some (.builtin "BaseException.__getattribute__")))
    (eg_Taken : PySem.W.findIn K (.ref X_Taken) "__getattr__" = some none)
    (el_Taken : PySem.W.findIn K (.ref X_Taken) "__class__" = some (some (.builtin "object.__class__")))
    (eo_Taken : PySem.W.mroIn K X_Taken (.type "object") = some true)
    (ev_Taken : PySem.W.subIn K (.ref X_Taken) (.type "ValueError") = some true)
    (ek_Taken : PySem.W.keepIn K (.ref X_Taken) = true)
    (et_Taken : PySem.W.typeIn K (.ref X_Taken) = some (.type "type"))
    (e0_Taken : PySem.W.excIn K X_Taken [.type "ValueError", .type "Exception", .type "BaseException", .type "object"] "ValueError.__new__" = true)
    (eb_NoKey : PySem.W.subIn K (.ref X_NoKey) (.type "BaseException") = some true)
    (eh_NoKey : PySem.W.hasDictIn K X_NoKey = true)
    (ea_NoKey : PySem.W.findIn K (.ref X_NoKey) "__getattribute__" = some (some (.builtin "BaseException.__getattribute__")))
    (eg_NoKey : PySem.W.findIn K (.ref X_NoKey) "__getattr__" = some none)
    (el_NoKey : PySem.W.findIn K (.ref X_NoKey) "__class__" = some (some (.builtin "object.__class__")))
    (eo_NoKey : PySem.W.mroIn K X_NoKey (.type "object") = some true)
    (ev_NoKey : PySem.W.subIn K (.ref X_NoKey) (.type "ValueError") = some true)
    (ek_NoKey : PySem.W.keepIn K (.ref X_NoKey) = true)
    (et_NoKey : PySem.W.typeIn K (.ref X_NoKey) = some (.type "type"))
    (e0_NoKey : PySem.W.excIn K X_NoKey [.type "ValueError", .type "Exception", .type "BaseException", .type "object"] "ValueError.__new__" = true)
    (eb_TooMuch : PySem.W.subIn K (.ref X_TooMuch) (.type "BaseException") = some true)
    (eh_TooMuch : PySem.W.hasDictIn K X_TooMuch = true)
    (ea_TooMuch : PySem.W.findIn K (.ref X_TooMuch) "__getattribute__" = some (some (.builtin "BaseException.__getattribute__")))
    (eg_TooMuch : PySem.W.findIn K (.ref X_TooMuch) "__getattr__" = some none)
    (na_TooMuch_time : PySem.W.findIn K (.ref X_TooMuch) "time" = some none)
    (el_TooMuch : PySem.W.findIn K (.ref X_TooMuch) "__class__" = some (some (.builtin "object.__class__")))
    (eo_TooMuch : PySem.W.mroIn K X_TooMuch (.type "object") = some true)
    (ev_TooMuch : PySem.W.subIn K (.ref X_TooMuch) (.type "ValueError") = some true)
    (ek_TooMuch : PySem.W.keepIn K (.ref X_TooMuch) = true)
    (et_TooMuch : PySem.W.typeIn K (.ref X_TooMuch) = some (.type "type"))
    (eb_NoHouse : PySem.W.subIn K (.ref X_NoHouse) (.type "BaseException") = some true)
    (eh_NoHouse : PySem.W.hasDictIn K X_NoHouse = true)
    (ea_NoHouse : PySem.W.findIn K (.ref X_NoHouse) "__getattribute__" = some (some (.builtin "BaseException.__getattribute__")))
    (eg_NoHouse : PySem.W.findIn K (.ref X_NoHouse) "__getattr__" = some none)
    (el_NoHouse : PySem.W.findIn K (.ref X_NoHouse) "__class__" = some (some (.builtin "object.__class__")))
    (eo_NoHouse : PySem.W.mroIn K X_NoHouse (.type "object") = some true)
    (ev_NoHouse : PySem.W.subIn K (.ref X_NoHouse) (.type "ValueError") = some true)
    (ek_NoHouse : PySem.W.keepIn K (.ref X_NoHouse) = true)
    (et_NoHouse : PySem.W.typeIn K (.ref X_NoHouse) = some (.type "type"))
    (e0_NoHouse : PySem.W.excIn K X_NoHouse [.type "ValueError", .type "Exception", .type "BaseException", .type "object"] "ValueError.__new__" = true)
    (eb_NoGang : PySem.W.subIn K (.ref X_NoGang) (.type "BaseException") = some true)
    (eh_NoGang : PySem.W.hasDictIn K X_NoGang = true)
    (ea_NoGang : PySem.W.findIn K (.ref X_NoGang) "__getattribute__" = some (some (.builtin "BaseException.__getattribute__")))
    (eg_NoGang : PySem.W.findIn K (.ref X_NoGang) "__getattr__" = some none)
    (el_NoGang : PySem.W.findIn K (.ref X_NoGang) "__class__" = some (some (.builtin "object.__class__")))
    (eo_NoGang : PySem.W.mroIn K X_NoGang (.type "object") = some true)
    (ev_NoGang : PySem.W.subIn K (.ref X_NoGang) (.type "ValueError") = some true)
    (ek_NoGang : PySem.W.keepIn K (.ref X_NoGang) = true)
    (et_NoGang : PySem.W.typeIn K (.ref X_NoGang) = some (.type "type"))
    (e0_NoGang : PySem.W.excIn K X_NoGang [.type "ValueError", .type "Exception", .type "BaseException", .type "object"] "ValueError.__new__" = true)
    (eb_NoGuild : PySem.W.subIn K (.ref X_NoGuild) (.type "BaseException") = some true)
    (eh_NoGuild : PySem.W.hasDictIn K X_NoGuild = true)
    (ea_NoGuild : PySem.W.findIn K (.ref X_NoGuild) "__getattribute__" = some (some (.builtin "BaseException.__getattribute__")))
    (eg_NoGuild : PySem.W.findIn K (.ref X_NoGuild) "__getattr__" = some none)
    (el_NoGuild : PySem.W.findIn K (.ref X_NoGuild) "__class__" = some (some (.builtin "object.__class__")))
    (eo_NoGuild : PySem.W.mroIn K X_NoGuild (.type "object") = some true)
    (ev_NoGuild : PySem.W.subIn K (.ref X_NoGuild) (.type "ValueError") = some true)
    (ek_NoGuild : PySem.W.keepIn K (.ref X_NoGuild) = true)
    (et_NoGuild : PySem.W.typeIn K (.ref X_NoGuild) = some (.type "type"))
    (e0_NoGuild : PySem.W.excIn K X_NoGuild [.type "ValueError", .type "Exception", .type "BaseException", .type "object"] "ValueError.__new__" = true)
    (eb_NoKind : PySem.W.subIn K (.ref X_NoKind) (.type "BaseException") = some true)
    (eh_NoKind : PySem.W.hasDictIn K X_NoKind = true)
    (ea_NoKind : PySem.W.findIn K (.ref X_NoKind) "__getattribute__" = some (some (.builtin "BaseException.__getattribute__")))
    (eg_NoKind : PySem.W.findIn K (.ref X_NoKind) "__getattr__" = some none)
    (el_NoKind : PySem.W.findIn K (.ref X_NoKind) "__class__" = some (some (.builtin "object.__class__")))
    (eo_NoKind : PySem.W.mroIn K X_NoKind (.type "object") = some true)
    (ev_NoKind : PySem.W.subIn K (.ref X_NoKind) (.type "ValueError") = some true)
    (ek_NoKind : PySem.W.keepIn K (.ref X_NoKind) = true)
    (et_NoKind : PySem.W.typeIn K (.ref X_NoKind) = some (.type "type"))
    (e0_NoKind : PySem.W.excIn K X_NoKind [.type "ValueError", .type "Exception", .type "BaseException", .type "object"] "ValueError.__new__" = true)
    (eb_InUse : PySem.W.subIn K (.ref X_InUse) (.type "BaseException") = some true)
    (eh_InUse : PySem.W.hasDictIn K X_InUse = true)
    (ea_InUse : PySem.W.findIn K (.ref X_InUse) "__getattribute__" = some (some (.builtin "BaseException.__getattribute__")))
    (eg_InUse : PySem.W.findIn K (.ref X_InUse) "__getattr__" = some none)
    (el_InUse : PySem.W.findIn K (.ref X_InUse) "__class__" = some (some (.builtin "object.__class__")))
    (eo_InUse : PySem.W.mroIn K X_InUse (.type "object") = some true)
    (ev_InUse : PySem.W.subIn K (.ref X_InUse) (.type "ValueError") = some true)
    (ek_InUse : PySem.W.keepIn K (.ref X_InUse) = true)
    (et_InUse : PySem.W.typeIn K (.ref X_InUse) = some (.type "type"))
    (e0_InUse : PySem.W.excIn K X_InUse [.type "ValueError", .type "Exception", .type "BaseException", .type "object"] "ValueError.__new__" = true)
    (eb_TooMany : PySem.W.subIn K (.ref X_TooMany) (.type "BaseException") = some true)
    (eh_TooMany : PySem.W.hasDictIn K X_TooMany = true)
    (ea_TooMany : PySem.W.findIn K (.ref X_TooMany) "__getattribute__" = some (some (.builtin "BaseException.__getattribute__")))
    (eg_TooMany : PySem.W.findIn K (.ref X_TooMany) "__getattr__" = some none)
    (el_TooMany : PySem.W.findIn K (.ref X_TooMany) "__class__" = some (some (.builtin "object.__class__")))
    (eo_TooMany : PySem.W.mroIn K X_TooMany (.type "object") = some true)
    (ev_TooMany : PySem.W.subIn K (.ref X_TooMany) (.type "ValueError") = some true)
    (ek_TooMany : PySem.W.keepIn K (.ref X_TooMany) = true)
    (et_TooMany : PySem.W.typeIn K (.ref X_TooMany) = some (.type "type"))
    (e0_TooMany : PySem.W.excIn K X_TooMany [.type "ValueError", .type "Exception", .type "BaseException", .type "object"] "ValueError.__new__" = true)
    (eb_NoPlan : PySem.W.subIn K (.ref X_NoPlan) (.type "BaseException") = some true)
    (eh_NoPlan : PySem.W.hasDictIn K X_NoPlan = true)
    (ea_NoPlan : PySem.W.findIn K (.ref X_NoPlan) "__getattribute__" = some (some (.builtin "BaseException.__getattribute__")))
    (eg_NoPlan : PySem.W.findIn K (.ref X_NoPlan) "__getattr__" = some none)
    (na_NoPlan_counts : PySem.W.findIn K (.ref X_NoPlan) "counts" = some none)
    (el_NoPlan : PySem.W.findIn K (.ref X_NoPlan) "__class__" = some (some (.builtin "object.__class__")))
    (eo_NoPlan : PySem.W.mroIn K X_NoPlan (.type "object") = some true)
    (ev_NoPlan : PySem.W.subIn K (.ref X_NoPlan) (.type "ValueError") = some true)
    (ek_NoPlan : PySem.W.keepIn K (.ref X_NoPlan) = true)
    (et_NoPlan : PySem.W.typeIn K (.ref X_NoPlan) = some (.type "type"))
    (eb_Past : PySem.W.subIn K (.ref X_Past) (.type "BaseException") = some true)
    (eh_Past : PySem.W.hasDictIn K X_Past = true)
    (ea_Past : PySem.W.findIn K (.ref X_Past) "__getattribute__" = some (some (.builtin "BaseException.__getattribute__")))
    (eg_Past : PySem.W.findIn K (.ref X_Past) "__getattr__" = some none)
    (el_Past : PySem.W.findIn K (.ref X_Past) "__class__" = some (some (.builtin "object.__class__")))
    (eo_Past : PySem.W.mroIn K X_Past (.type "object") = some true)
    (ev_Past : PySem.W.subIn K (.ref X_Past) (.type "ValueError") = some true)
    (ek_Past : PySem.W.keepIn K (.ref X_Past) = true)
    (et_Past : PySem.W.typeIn K (.ref X_Past) = some (.type "type"))
    (e0_Past : PySem.W.excIn K X_Past [.type "ValueError", .type "Exception", .type "BaseException", .type "object"] "ValueError.__new__" = true)
    (eb_BadRow : PySem.W.subIn K (.ref X_BadRow) (.type "BaseException") = some true)
    (eh_BadRow : PySem.W.hasDictIn K X_BadRow = true)
    (ea_BadRow : PySem.W.findIn K (.ref X_BadRow) "__getattribute__" = some (some (.builtin "BaseException.__getattribute__")))
    (eg_BadRow : PySem.W.findIn K (.ref X_BadRow) "__getattr__" = some none)
    (na_BadRow_row : PySem.W.findIn K (.ref X_BadRow) "row" = some none)
    (el_BadRow : PySem.W.findIn K (.ref X_BadRow) "__class__" = some (some (.builtin "object.__class__")))
    (eo_BadRow : PySem.W.mroIn K X_BadRow (.type "object") = some true)
    (ev_BadRow : PySem.W.subIn K (.ref X_BadRow) (.type "ValueError") = some true)
    (ek_BadRow : PySem.W.keepIn K (.ref X_BadRow) = true)
    (et_BadRow : PySem.W.typeIn K (.ref X_BadRow) = some (.type "type"))
    (hn : PySem.W.specialIn K (.builtin "object.__class__") "__get__" = some (some (.builtin "getset_descriptor.__get__")))
    (ht : PySem.W.takesIn K (.builtin "object.__class__") = some true)
    (p_BadRow_BadRow : PySem.W.subIn K (.ref X_BadRow) (.ref X_BadRow) = some true)
    (p_BadRow_HallError : PySem.W.subIn K (.ref X_BadRow) (.ref X_HallError) = some true)
    (p_BadRow_InUse : PySem.W.subIn K (.ref X_BadRow) (.ref X_InUse) = some false)
    (p_BadRow_NoGang : PySem.W.subIn K (.ref X_BadRow) (.ref X_NoGang) = some false)
    (p_BadRow_NoGuild : PySem.W.subIn K (.ref X_BadRow) (.ref X_NoGuild) = some false)
    (p_BadRow_NoHouse : PySem.W.subIn K (.ref X_BadRow) (.ref X_NoHouse) = some false)
    (p_BadRow_NoKey : PySem.W.subIn K (.ref X_BadRow) (.ref X_NoKey) = some false)
    (p_BadRow_NoKind : PySem.W.subIn K (.ref X_BadRow) (.ref X_NoKind) = some false)
    (p_BadRow_NoPlan : PySem.W.subIn K (.ref X_BadRow) (.ref X_NoPlan) = some false)
    (p_BadRow_Past : PySem.W.subIn K (.ref X_BadRow) (.ref X_Past) = some false)
    (p_BadRow_Taken : PySem.W.subIn K (.ref X_BadRow) (.ref X_Taken) = some false)
    (p_BadRow_TooMany : PySem.W.subIn K (.ref X_BadRow) (.ref X_TooMany) = some false)
    (p_BadRow_TooMuch : PySem.W.subIn K (.ref X_BadRow) (.ref X_TooMuch) = some false)
    (p_HallError_BadRow : PySem.W.subIn K (.ref X_HallError) (.ref X_BadRow) = some false)
    (p_HallError_HallError : PySem.W.subIn K (.ref X_HallError) (.ref X_HallError) = some true)
    (p_HallError_InUse : PySem.W.subIn K (.ref X_HallError) (.ref X_InUse) = some false)
    (p_HallError_NoGang : PySem.W.subIn K (.ref X_HallError) (.ref X_NoGang) = some false)
    (p_HallError_NoGuild : PySem.W.subIn K (.ref X_HallError) (.ref X_NoGuild) = some false)
    (p_HallError_NoHouse : PySem.W.subIn K (.ref X_HallError) (.ref X_NoHouse) = some false)
    (p_HallError_NoKey : PySem.W.subIn K (.ref X_HallError) (.ref X_NoKey) = some false)
    (p_HallError_NoKind : PySem.W.subIn K (.ref X_HallError) (.ref X_NoKind) = some false)
    (p_HallError_NoPlan : PySem.W.subIn K (.ref X_HallError) (.ref X_NoPlan) = some false)
    (p_HallError_Past : PySem.W.subIn K (.ref X_HallError) (.ref X_Past) = some false)
    (p_HallError_Taken : PySem.W.subIn K (.ref X_HallError) (.ref X_Taken) = some false)
    (p_HallError_TooMany : PySem.W.subIn K (.ref X_HallError) (.ref X_TooMany) = some false)
    (p_HallError_TooMuch : PySem.W.subIn K (.ref X_HallError) (.ref X_TooMuch) = some false)
    (p_InUse_BadRow : PySem.W.subIn K (.ref X_InUse) (.ref X_BadRow) = some false)
    (p_InUse_HallError : PySem.W.subIn K (.ref X_InUse) (.ref X_HallError) = some true)
    (p_InUse_InUse : PySem.W.subIn K (.ref X_InUse) (.ref X_InUse) = some true)
    (p_InUse_NoGang : PySem.W.subIn K (.ref X_InUse) (.ref X_NoGang) = some false)
    (p_InUse_NoGuild : PySem.W.subIn K (.ref X_InUse) (.ref X_NoGuild) = some false)
    (p_InUse_NoHouse : PySem.W.subIn K (.ref X_InUse) (.ref X_NoHouse) = some false)
    (p_InUse_NoKey : PySem.W.subIn K (.ref X_InUse) (.ref X_NoKey) = some false)
    (p_InUse_NoKind : PySem.W.subIn K (.ref X_InUse) (.ref X_NoKind) = some false)
    (p_InUse_NoPlan : PySem.W.subIn K (.ref X_InUse) (.ref X_NoPlan) = some false)
    (p_InUse_Past : PySem.W.subIn K (.ref X_InUse) (.ref X_Past) = some false)
    (p_InUse_Taken : PySem.W.subIn K (.ref X_InUse) (.ref X_Taken) = some false)
    (p_InUse_TooMany : PySem.W.subIn K (.ref X_InUse) (.ref X_TooMany) = some false)
    (p_InUse_TooMuch : PySem.W.subIn K (.ref X_InUse) (.ref X_TooMuch) = some false)
    (p_NoGang_BadRow : PySem.W.subIn K (.ref X_NoGang) (.ref X_BadRow) = some false)
    (p_NoGang_HallError : PySem.W.subIn K (.ref X_NoGang) (.ref X_HallError) = some true)
    (p_NoGang_InUse : PySem.W.subIn K (.ref X_NoGang) (.ref X_InUse) = some false)
    (p_NoGang_NoGang : PySem.W.subIn K (.ref X_NoGang) (.ref X_NoGang) = some true)
    (p_NoGang_NoGuild : PySem.W.subIn K (.ref X_NoGang) (.ref X_NoGuild) = some false)
    (p_NoGang_NoHouse : PySem.W.subIn K (.ref X_NoGang) (.ref X_NoHouse) = some false)
    (p_NoGang_NoKey : PySem.W.subIn K (.ref X_NoGang) (.ref X_NoKey) = some false)
    (p_NoGang_NoKind : PySem.W.subIn K (.ref X_NoGang) (.ref X_NoKind) = some false)
    (p_NoGang_NoPlan : PySem.W.subIn K (.ref X_NoGang) (.ref X_NoPlan) = some false)
    (p_NoGang_Past : PySem.W.subIn K (.ref X_NoGang) (.ref X_Past) = some false)
    (p_NoGang_Taken : PySem.W.subIn K (.ref X_NoGang) (.ref X_Taken) = some false)
    (p_NoGang_TooMany : PySem.W.subIn K (.ref X_NoGang) (.ref X_TooMany) = some false)
    (p_NoGang_TooMuch : PySem.W.subIn K (.ref X_NoGang) (.ref X_TooMuch) = some false)
    (p_NoGuild_BadRow : PySem.W.subIn K (.ref X_NoGuild) (.ref X_BadRow) = some false)
    (p_NoGuild_HallError : PySem.W.subIn K (.ref X_NoGuild) (.ref X_HallError) = some true)
    (p_NoGuild_InUse : PySem.W.subIn K (.ref X_NoGuild) (.ref X_InUse) = some false)
    (p_NoGuild_NoGang : PySem.W.subIn K (.ref X_NoGuild) (.ref X_NoGang) = some false)
    (p_NoGuild_NoGuild : PySem.W.subIn K (.ref X_NoGuild) (.ref X_NoGuild) = some true)
    (p_NoGuild_NoHouse : PySem.W.subIn K (.ref X_NoGuild) (.ref X_NoHouse) = some false)
    (p_NoGuild_NoKey : PySem.W.subIn K (.ref X_NoGuild) (.ref X_NoKey) = some false)
    (p_NoGuild_NoKind : PySem.W.subIn K (.ref X_NoGuild) (.ref X_NoKind) = some false)
    (p_NoGuild_NoPlan : PySem.W.subIn K (.ref X_NoGuild) (.ref X_NoPlan) = some false)
    (p_NoGuild_Past : PySem.W.subIn K (.ref X_NoGuild) (.ref X_Past) = some false)
    (p_NoGuild_Taken : PySem.W.subIn K (.ref X_NoGuild) (.ref X_Taken) = some false)
    (p_NoGuild_TooMany : PySem.W.subIn K (.ref X_NoGuild) (.ref X_TooMany) = some false)
    (p_NoGuild_TooMuch : PySem.W.subIn K (.ref X_NoGuild) (.ref X_TooMuch) = some false)
    (p_NoHouse_BadRow : PySem.W.subIn K (.ref X_NoHouse) (.ref X_BadRow) = some false)
    (p_NoHouse_HallError : PySem.W.subIn K (.ref X_NoHouse) (.ref X_HallError) = some true)
    (p_NoHouse_InUse : PySem.W.subIn K (.ref X_NoHouse) (.ref X_InUse) = some false)
    (p_NoHouse_NoGang : PySem.W.subIn K (.ref X_NoHouse) (.ref X_NoGang) = some false)
    (p_NoHouse_NoGuild : PySem.W.subIn K (.ref X_NoHouse) (.ref X_NoGuild) = some false)
    (p_NoHouse_NoHouse : PySem.W.subIn K (.ref X_NoHouse) (.ref X_NoHouse) = some true)
    (p_NoHouse_NoKey : PySem.W.subIn K (.ref X_NoHouse) (.ref X_NoKey) = some false)
    (p_NoHouse_NoKind : PySem.W.subIn K (.ref X_NoHouse) (.ref X_NoKind) = some false)
    (p_NoHouse_NoPlan : PySem.W.subIn K (.ref X_NoHouse) (.ref X_NoPlan) = some false)
    (p_NoHouse_Past : PySem.W.subIn K (.ref X_NoHouse) (.ref X_Past) = some false)
    (p_NoHouse_Taken : PySem.W.subIn K (.ref X_NoHouse) (.ref X_Taken) = some false)
    (p_NoHouse_TooMany : PySem.W.subIn K (.ref X_NoHouse) (.ref X_TooMany) = some false)
    (p_NoHouse_TooMuch : PySem.W.subIn K (.ref X_NoHouse) (.ref X_TooMuch) = some false)
    (p_NoKey_BadRow : PySem.W.subIn K (.ref X_NoKey) (.ref X_BadRow) = some false)
    (p_NoKey_HallError : PySem.W.subIn K (.ref X_NoKey) (.ref X_HallError) = some true)
    (p_NoKey_InUse : PySem.W.subIn K (.ref X_NoKey) (.ref X_InUse) = some false)
    (p_NoKey_NoGang : PySem.W.subIn K (.ref X_NoKey) (.ref X_NoGang) = some false)
    (p_NoKey_NoGuild : PySem.W.subIn K (.ref X_NoKey) (.ref X_NoGuild) = some false)
    (p_NoKey_NoHouse : PySem.W.subIn K (.ref X_NoKey) (.ref X_NoHouse) = some false)
    (p_NoKey_NoKey : PySem.W.subIn K (.ref X_NoKey) (.ref X_NoKey) = some true)
    (p_NoKey_NoKind : PySem.W.subIn K (.ref X_NoKey) (.ref X_NoKind) = some false)
    (p_NoKey_NoPlan : PySem.W.subIn K (.ref X_NoKey) (.ref X_NoPlan) = some false)
    (p_NoKey_Past : PySem.W.subIn K (.ref X_NoKey) (.ref X_Past) = some false)
    (p_NoKey_Taken : PySem.W.subIn K (.ref X_NoKey) (.ref X_Taken) = some false)
    (p_NoKey_TooMany : PySem.W.subIn K (.ref X_NoKey) (.ref X_TooMany) = some false)
    (p_NoKey_TooMuch : PySem.W.subIn K (.ref X_NoKey) (.ref X_TooMuch) = some false)
    (p_NoKind_BadRow : PySem.W.subIn K (.ref X_NoKind) (.ref X_BadRow) = some false)
    (p_NoKind_HallError : PySem.W.subIn K (.ref X_NoKind) (.ref X_HallError) = some true)
    (p_NoKind_InUse : PySem.W.subIn K (.ref X_NoKind) (.ref X_InUse) = some false)
    (p_NoKind_NoGang : PySem.W.subIn K (.ref X_NoKind) (.ref X_NoGang) = some false)
    (p_NoKind_NoGuild : PySem.W.subIn K (.ref X_NoKind) (.ref X_NoGuild) = some false)
    (p_NoKind_NoHouse : PySem.W.subIn K (.ref X_NoKind) (.ref X_NoHouse) = some false)
    (p_NoKind_NoKey : PySem.W.subIn K (.ref X_NoKind) (.ref X_NoKey) = some false)
    (p_NoKind_NoKind : PySem.W.subIn K (.ref X_NoKind) (.ref X_NoKind) = some true)
    (p_NoKind_NoPlan : PySem.W.subIn K (.ref X_NoKind) (.ref X_NoPlan) = some false)
    (p_NoKind_Past : PySem.W.subIn K (.ref X_NoKind) (.ref X_Past) = some false)
    (p_NoKind_Taken : PySem.W.subIn K (.ref X_NoKind) (.ref X_Taken) = some false)
    (p_NoKind_TooMany : PySem.W.subIn K (.ref X_NoKind) (.ref X_TooMany) = some false)
    (p_NoKind_TooMuch : PySem.W.subIn K (.ref X_NoKind) (.ref X_TooMuch) = some false)
    (p_NoPlan_BadRow : PySem.W.subIn K (.ref X_NoPlan) (.ref X_BadRow) = some false)
    (p_NoPlan_HallError : PySem.W.subIn K (.ref X_NoPlan) (.ref X_HallError) = some true)
    (p_NoPlan_InUse : PySem.W.subIn K (.ref X_NoPlan) (.ref X_InUse) = some false)
    (p_NoPlan_NoGang : PySem.W.subIn K (.ref X_NoPlan) (.ref X_NoGang) = some false)
    (p_NoPlan_NoGuild : PySem.W.subIn K (.ref X_NoPlan) (.ref X_NoGuild) = some false)
    (p_NoPlan_NoHouse : PySem.W.subIn K (.ref X_NoPlan) (.ref X_NoHouse) = some false)
    (p_NoPlan_NoKey : PySem.W.subIn K (.ref X_NoPlan) (.ref X_NoKey) = some false)
    (p_NoPlan_NoKind : PySem.W.subIn K (.ref X_NoPlan) (.ref X_NoKind) = some false)
    (p_NoPlan_NoPlan : PySem.W.subIn K (.ref X_NoPlan) (.ref X_NoPlan) = some true)
    (p_NoPlan_Past : PySem.W.subIn K (.ref X_NoPlan) (.ref X_Past) = some false)
    (p_NoPlan_Taken : PySem.W.subIn K (.ref X_NoPlan) (.ref X_Taken) = some false)
    (p_NoPlan_TooMany : PySem.W.subIn K (.ref X_NoPlan) (.ref X_TooMany) = some false)
    (p_NoPlan_TooMuch : PySem.W.subIn K (.ref X_NoPlan) (.ref X_TooMuch) = some false)
    (p_Past_BadRow : PySem.W.subIn K (.ref X_Past) (.ref X_BadRow) = some false)
    (p_Past_HallError : PySem.W.subIn K (.ref X_Past) (.ref X_HallError) = some true)
    (p_Past_InUse : PySem.W.subIn K (.ref X_Past) (.ref X_InUse) = some false)
    (p_Past_NoGang : PySem.W.subIn K (.ref X_Past) (.ref X_NoGang) = some false)
    (p_Past_NoGuild : PySem.W.subIn K (.ref X_Past) (.ref X_NoGuild) = some false)
    (p_Past_NoHouse : PySem.W.subIn K (.ref X_Past) (.ref X_NoHouse) = some false)
    (p_Past_NoKey : PySem.W.subIn K (.ref X_Past) (.ref X_NoKey) = some false)
    (p_Past_NoKind : PySem.W.subIn K (.ref X_Past) (.ref X_NoKind) = some false)
    (p_Past_NoPlan : PySem.W.subIn K (.ref X_Past) (.ref X_NoPlan) = some false)
    (p_Past_Past : PySem.W.subIn K (.ref X_Past) (.ref X_Past) = some true)
    (p_Past_Taken : PySem.W.subIn K (.ref X_Past) (.ref X_Taken) = some false)
    (p_Past_TooMany : PySem.W.subIn K (.ref X_Past) (.ref X_TooMany) = some false)
    (p_Past_TooMuch : PySem.W.subIn K (.ref X_Past) (.ref X_TooMuch) = some false)
    (p_Taken_BadRow : PySem.W.subIn K (.ref X_Taken) (.ref X_BadRow) = some false)
    (p_Taken_HallError : PySem.W.subIn K (.ref X_Taken) (.ref X_HallError) = some true)
    (p_Taken_InUse : PySem.W.subIn K (.ref X_Taken) (.ref X_InUse) = some false)
    (p_Taken_NoGang : PySem.W.subIn K (.ref X_Taken) (.ref X_NoGang) = some false)
    (p_Taken_NoGuild : PySem.W.subIn K (.ref X_Taken) (.ref X_NoGuild) = some false)
    (p_Taken_NoHouse : PySem.W.subIn K (.ref X_Taken) (.ref X_NoHouse) = some false)
    (p_Taken_NoKey : PySem.W.subIn K (.ref X_Taken) (.ref X_NoKey) = some false)
    (p_Taken_NoKind : PySem.W.subIn K (.ref X_Taken) (.ref X_NoKind) = some false)
    (p_Taken_NoPlan : PySem.W.subIn K (.ref X_Taken) (.ref X_NoPlan) = some false)
    (p_Taken_Past : PySem.W.subIn K (.ref X_Taken) (.ref X_Past) = some false)
    (p_Taken_Taken : PySem.W.subIn K (.ref X_Taken) (.ref X_Taken) = some true)
    (p_Taken_TooMany : PySem.W.subIn K (.ref X_Taken) (.ref X_TooMany) = some false)
    (p_Taken_TooMuch : PySem.W.subIn K (.ref X_Taken) (.ref X_TooMuch) = some false)
    (p_TooMany_BadRow : PySem.W.subIn K (.ref X_TooMany) (.ref X_BadRow) = some false)
    (p_TooMany_HallError : PySem.W.subIn K (.ref X_TooMany) (.ref X_HallError) = some true)
    (p_TooMany_InUse : PySem.W.subIn K (.ref X_TooMany) (.ref X_InUse) = some false)
    (p_TooMany_NoGang : PySem.W.subIn K (.ref X_TooMany) (.ref X_NoGang) = some false)
    (p_TooMany_NoGuild : PySem.W.subIn K (.ref X_TooMany) (.ref X_NoGuild) = some false)
    (p_TooMany_NoHouse : PySem.W.subIn K (.ref X_TooMany) (.ref X_NoHouse) = some false)
    (p_TooMany_NoKey : PySem.W.subIn K (.ref X_TooMany) (.ref X_NoKey) = some false)
    (p_TooMany_NoKind : PySem.W.subIn K (.ref X_TooMany) (.ref X_NoKind) = some false)
    (p_TooMany_NoPlan : PySem.W.subIn K (.ref X_TooMany) (.ref X_NoPlan) = some false)
    (p_TooMany_Past : PySem.W.subIn K (.ref X_TooMany) (.ref X_Past) = some false)
    (p_TooMany_Taken : PySem.W.subIn K (.ref X_TooMany) (.ref X_Taken) = some false)
    (p_TooMany_TooMany : PySem.W.subIn K (.ref X_TooMany) (.ref X_TooMany) = some true)
    (p_TooMany_TooMuch : PySem.W.subIn K (.ref X_TooMany) (.ref X_TooMuch) = some false)
    (p_TooMuch_BadRow : PySem.W.subIn K (.ref X_TooMuch) (.ref X_BadRow) = some false)
    (p_TooMuch_HallError : PySem.W.subIn K (.ref X_TooMuch) (.ref X_HallError) = some true)
    (p_TooMuch_InUse : PySem.W.subIn K (.ref X_TooMuch) (.ref X_InUse) = some false)
    (p_TooMuch_NoGang : PySem.W.subIn K (.ref X_TooMuch) (.ref X_NoGang) = some false)
    (p_TooMuch_NoGuild : PySem.W.subIn K (.ref X_TooMuch) (.ref X_NoGuild) = some false)
    (p_TooMuch_NoHouse : PySem.W.subIn K (.ref X_TooMuch) (.ref X_NoHouse) = some false)
    (p_TooMuch_NoKey : PySem.W.subIn K (.ref X_TooMuch) (.ref X_NoKey) = some false)
    (p_TooMuch_NoKind : PySem.W.subIn K (.ref X_TooMuch) (.ref X_NoKind) = some false)
    (p_TooMuch_NoPlan : PySem.W.subIn K (.ref X_TooMuch) (.ref X_NoPlan) = some false)
    (p_TooMuch_Past : PySem.W.subIn K (.ref X_TooMuch) (.ref X_Past) = some false)
    (p_TooMuch_Taken : PySem.W.subIn K (.ref X_TooMuch) (.ref X_Taken) = some false)
    (p_TooMuch_TooMany : PySem.W.subIn K (.ref X_TooMuch) (.ref X_TooMany) = some false)
    (p_TooMuch_TooMuch : PySem.W.subIn K (.ref X_TooMuch) (.ref X_TooMuch) = some true)
    {nm_BadRow q_BadRow : Str} {N_BadRow : Addr} {bs_BadRow bm_BadRow : List Value} {sn_BadRow : List Str} {sub_BadRow : List Value} {ab_BadRow : Bool} {col_BadRow : Option Bool} {dd_BadRow : Option Addr} {m0_BadRow m1_BadRow m2_BadRow m3_BadRow m5_BadRow : Option Value}
    {odI_BadRow anI_BadRow : Option Addr} {slI_BadRow : Array (Option Value)} {ocI_BadRow kVI_BadRow dcI_BadRow pmI_BadRow cdI_BadRow ctI_BadRow : Value}
    (xl_BadRow : K.lookup X_BadRow = some (excClassObj nm_BadRow q_BadRow X_BadRow N_BadRow bs_BadRow bm_BadRow true sn_BadRow sub_BadRow ab_BadRow col_BadRow dd_BadRow m0_BadRow m1_BadRow m2_BadRow m3_BadRow m5_BadRow "ValueError.__new__"))
    (xr_BadRow : PySem.HandSPX.refsVE bm_BadRow = true)
    (xs_BadRow : PySem.W.findIn K (.ref X_BadRow) "__setattr__" = some (some (.builtin "object.__setattr__")))
    (xi_BadRow : PySem.W.findIn K (.ref X_BadRow) "__init__" = some (some (.ref fI_BadRow)))
    (xt_BadRow : PySem.W.typeIn K (.ref fI_BadRow) = some (.type "function"))
    (lI_BadRow : K.lookup fI_BadRow = some ⟨ocI_BadRow, odI_BadRow, .func (PySem.W.fnOf "__init__" "BadRow.__init__" (defArgs sI_BadRow) (defBody sI_BadRow) (defScope sI_BadRow) .none kVI_BadRow dcI_BadRow pmI_BadRow anI_BadRow cdI_BadRow ctI_BadRow), slI_BadRow⟩)
    (cI_BadRow : PySem.W.codeIn K cdI_BadRow "BadRow.__init__" = true)
    (kI_BadRow : PySem.W.keepIn K (.ref fI_BadRow) = true)
    {nm_NoPlan q_NoPlan : Str} {N_NoPlan : Addr} {bs_NoPlan bm_NoPlan : List Value} {sn_NoPlan : List Str} {sub_NoPlan : List Value} {ab_NoPlan : Bool} {col_NoPlan : Option Bool} {dd_NoPlan : Option Addr} {m0_NoPlan m1_NoPlan m2_NoPlan m3_NoPlan m5_NoPlan : Option Value}
    {odI_NoPlan anI_NoPlan : Option Addr} {slI_NoPlan : Array (Option Value)} {ocI_NoPlan kVI_NoPlan dcI_NoPlan pmI_NoPlan cdI_NoPlan ctI_NoPlan : Value}
    (xl_NoPlan : K.lookup X_NoPlan = some (excClassObj nm_NoPlan q_NoPlan X_NoPlan N_NoPlan bs_NoPlan bm_NoPlan true sn_NoPlan sub_NoPlan ab_NoPlan col_NoPlan dd_NoPlan m0_NoPlan m1_NoPlan m2_NoPlan m3_NoPlan m5_NoPlan "ValueError.__new__"))
    (xr_NoPlan : PySem.HandSPX.refsVE bm_NoPlan = true)
    (xs_NoPlan : PySem.W.findIn K (.ref X_NoPlan) "__setattr__" = some (some (.builtin "object.__setattr__")))
    (xi_NoPlan : PySem.W.findIn K (.ref X_NoPlan) "__init__" = some (some (.ref fI_NoPlan)))
    (xt_NoPlan : PySem.W.typeIn K (.ref fI_NoPlan) = some (.type "function"))
    (lI_NoPlan : K.lookup fI_NoPlan = some ⟨ocI_NoPlan, odI_NoPlan, .func (PySem.W.fnOf "__init__" "NoPlan.__init__" (defArgs sI_NoPlan) (defBody sI_NoPlan) (defScope sI_NoPlan) .none kVI_NoPlan dcI_NoPlan pmI_NoPlan anI_NoPlan cdI_NoPlan ctI_NoPlan), slI_NoPlan⟩)
    (cI_NoPlan : PySem.W.codeIn K cdI_NoPlan "NoPlan.__init__" = true)
    (kI_NoPlan : PySem.W.keepIn K (.ref fI_NoPlan) = true)
    {nm_TooMuch q_TooMuch : Str} {N_TooMuch : Addr} {bs_TooMuch bm_TooMuch : List Value} {sn_TooMuch : List Str} {sub_TooMuch : List Value} {ab_TooMuch : Bool} {col_TooMuch : Option Bool} {dd_TooMuch : Option Addr} {m0_TooMuch m1_TooMuch m2_TooMuch m3_TooMuch m5_TooMuch : Option Value}
    {odI_TooMuch anI_TooMuch : Option Addr} {slI_TooMuch : Array (Option Value)} {ocI_TooMuch kVI_TooMuch dcI_TooMuch pmI_TooMuch cdI_TooMuch ctI_TooMuch : Value}
    (xl_TooMuch : K.lookup X_TooMuch = some (excClassObj nm_TooMuch q_TooMuch X_TooMuch N_TooMuch bs_TooMuch bm_TooMuch true sn_TooMuch sub_TooMuch ab_TooMuch col_TooMuch dd_TooMuch m0_TooMuch m1_TooMuch m2_TooMuch m3_TooMuch m5_TooMuch "ValueError.__new__"))
    (xr_TooMuch : PySem.HandSPX.refsVE bm_TooMuch = true)
    (xs_TooMuch : PySem.W.findIn K (.ref X_TooMuch) "__setattr__" = some (some (.builtin "object.__setattr__")))
    (xi_TooMuch : PySem.W.findIn K (.ref X_TooMuch) "__init__" = some (some (.ref fI_TooMuch)))
    (xt_TooMuch : PySem.W.typeIn K (.ref fI_TooMuch) = some (.type "function"))
    (lI_TooMuch : K.lookup fI_TooMuch = some ⟨ocI_TooMuch, odI_TooMuch, .func (PySem.W.fnOf "__init__" "TooMuch.__init__" (defArgs sI_TooMuch) (defBody sI_TooMuch) (defScope sI_TooMuch) .none kVI_TooMuch dcI_TooMuch pmI_TooMuch anI_TooMuch cdI_TooMuch ctI_TooMuch), slI_TooMuch⟩)
    (cI_TooMuch : PySem.W.codeIn K cdI_TooMuch "TooMuch.__init__" = true)
    (kI_TooMuch : PySem.W.keepIn K (.ref fI_TooMuch) = true)
    (hsp : PySem.W.specialIn K (.ref X_HallError) "__getattribute__" = some (some (.builtin "type.__getattribute__")))
    (hrd : PySem.W.readsIn K X_HallError (.type "type") = true)
    (hfc : PySem.W.findCls K (.ref X_HallError) (.type "type") "__init__" = some (.val (.builtin "ValueError.__init__")))
    : ∃ fd : FuncData, (∀ (s : Shared) (v : Value), BindsTo s fd ⟨[v], []⟩ [("_law_script", v)]) ∧ ∀ base : Heap, K.In base → base.Ns mainGlobals mg → FnOk l.prog w K mg base (L2.CX l.prog w) 8 fa fd ["_law_script"] (spA K a_law_k05) := by
  have e := hfa.symm.trans (PySem.W.mg_of X G a6)
  cases e
  have TCf : ∀ c, ClsF K c := (fun c => match c with | .Book => clsF_no nC_Book | .House => clsF_no nC_House | .Estate => clsF_no nC_Estate | .Share => clsF_no nC_Share | .Taker => clsF_no nC_Taker | .Trial => clsF_no nC_Trial | .Standing => clsF_no nC_Standing | .Hall => clsF_no nC_Hall)
  have T : Tx K mg := ⟨PySem.W.mg_none_of X G z0, PySem.W.mg_none_of X G z1, PySem.W.mg_none_of X G z2, PySem.W.mg_none_of X G z3, PySem.W.mg_none_of X G z4, PySem.W.mg_none_of X G z5, PySem.W.mg_none_of X G z6, PySem.W.mg_none_of X G z7, PySem.W.mg_none_of X G z8, PySem.W.mg_none_of X G z9, PySem.W.mg_none_of X G z10, PySem.W.mg_none_of X G z11, PySem.W.mg_none_of X G z12, PySem.W.mg_none_of X G z13, PySem.W.mg_none_of X G z14, TCf, (fun c => match c with | .HallError => exnF_of gX_HallError ea_HallError eg_HallError eb_HallError eh_HallError (na_of (fs := []) trivial) | .Taken => exnF_of gX_Taken ea_Taken eg_Taken eb_Taken eh_Taken (na_of (fs := []) trivial) | .NoKey => exnF_of gX_NoKey ea_NoKey eg_NoKey eb_NoKey eh_NoKey (na_of (fs := []) trivial) | .TooMuch => exnF_of gX_TooMuch ea_TooMuch eg_TooMuch eb_TooMuch eh_TooMuch (na_of (fs := [.time]) ⟨na_TooMuch_time, trivial⟩) | .NoHouse => exnF_of gX_NoHouse ea_NoHouse eg_NoHouse eb_NoHouse eh_NoHouse (na_of (fs := []) trivial) | .NoGang => exnF_of gX_NoGang ea_NoGang eg_NoGang eb_NoGang eh_NoGang (na_of (fs := []) trivial) | .NoGuild => exnF_of gX_NoGuild ea_NoGuild eg_NoGuild eb_NoGuild eh_NoGuild (na_of (fs := []) trivial) | .NoKind => exnF_of gX_NoKind ea_NoKind eg_NoKind eb_NoKind eh_NoKind (na_of (fs := []) trivial) | .InUse => exnF_of gX_InUse ea_InUse eg_InUse eb_InUse eh_InUse (na_of (fs := []) trivial) | .TooMany => exnF_of gX_TooMany ea_TooMany eg_TooMany eb_TooMany eh_TooMany (na_of (fs := []) trivial) | .NoPlan => exnF_of gX_NoPlan ea_NoPlan eg_NoPlan eb_NoPlan eh_NoPlan (na_of (fs := [.counts]) ⟨na_NoPlan_counts, trivial⟩) | .Past => exnF_of gX_Past ea_Past eg_Past eb_Past eh_Past (na_of (fs := []) trivial) | .BadRow => exnF_of gX_BadRow ea_BadRow eg_BadRow eb_BadRow eh_BadRow (na_of (fs := [.row]) ⟨na_BadRow_row, trivial⟩)), (fun c => match c with | .HallError => exnC_of gX_HallError ea_HallError eg_HallError eb_HallError eh_HallError el_HallError hn ht eo_HallError | .Taken => exnC_of gX_Taken ea_Taken eg_Taken eb_Taken eh_Taken el_Taken hn ht eo_Taken | .NoKey => exnC_of gX_NoKey ea_NoKey eg_NoKey eb_NoKey eh_NoKey el_NoKey hn ht eo_NoKey | .TooMuch => exnC_of gX_TooMuch ea_TooMuch eg_TooMuch eb_TooMuch eh_TooMuch el_TooMuch hn ht eo_TooMuch | .NoHouse => exnC_of gX_NoHouse ea_NoHouse eg_NoHouse eb_NoHouse eh_NoHouse el_NoHouse hn ht eo_NoHouse | .NoGang => exnC_of gX_NoGang ea_NoGang eg_NoGang eb_NoGang eh_NoGang el_NoGang hn ht eo_NoGang | .NoGuild => exnC_of gX_NoGuild ea_NoGuild eg_NoGuild eb_NoGuild eh_NoGuild el_NoGuild hn ht eo_NoGuild | .NoKind => exnC_of gX_NoKind ea_NoKind eg_NoKind eb_NoKind eh_NoKind el_NoKind hn ht eo_NoKind | .InUse => exnC_of gX_InUse ea_InUse eg_InUse eb_InUse eh_InUse el_InUse hn ht eo_InUse | .TooMany => exnC_of gX_TooMany ea_TooMany eg_TooMany eb_TooMany eh_TooMany el_TooMany hn ht eo_TooMany | .NoPlan => exnC_of gX_NoPlan ea_NoPlan eg_NoPlan eb_NoPlan eh_NoPlan el_NoPlan hn ht eo_NoPlan | .Past => exnC_of gX_Past ea_Past eg_Past eb_Past eh_Past el_Past hn ht eo_Past | .BadRow => exnC_of gX_BadRow ea_BadRow eg_BadRow eb_BadRow eh_BadRow el_BadRow hn ht eo_BadRow), (fun c => match c with | .HallError => subV_of gX_HallError ev_HallError | .Taken => subV_of gX_Taken ev_Taken | .NoKey => subV_of gX_NoKey ev_NoKey | .TooMuch => subV_of gX_TooMuch ev_TooMuch | .NoHouse => subV_of gX_NoHouse ev_NoHouse | .NoGang => subV_of gX_NoGang ev_NoGang | .NoGuild => subV_of gX_NoGuild ev_NoGuild | .NoKind => subV_of gX_NoKind ev_NoKind | .InUse => subV_of gX_InUse ev_InUse | .TooMany => subV_of gX_TooMany ev_TooMany | .NoPlan => subV_of gX_NoPlan ev_NoPlan | .Past => subV_of gX_Past ev_Past | .BadRow => subV_of gX_BadRow ev_BadRow), xcF_of gX_BadRow (PySem.W.mg_of X G gX_BadRow) ek_BadRow eb_BadRow et_BadRow, xcF_of gX_HallError (PySem.W.mg_of X G gX_HallError) ek_HallError eb_HallError et_HallError, xcF_of gX_InUse (PySem.W.mg_of X G gX_InUse) ek_InUse eb_InUse et_InUse, xcF_of gX_NoGang (PySem.W.mg_of X G gX_NoGang) ek_NoGang eb_NoGang et_NoGang, xcF_of gX_NoGuild (PySem.W.mg_of X G gX_NoGuild) ek_NoGuild eb_NoGuild et_NoGuild, xcF_of gX_NoHouse (PySem.W.mg_of X G gX_NoHouse) ek_NoHouse eb_NoHouse et_NoHouse, xcF_of gX_NoKey (PySem.W.mg_of X G gX_NoKey) ek_NoKey eb_NoKey et_NoKey, xcF_of gX_NoKind (PySem.W.mg_of X G gX_NoKind) ek_NoKind eb_NoKind et_NoKind, xcF_of gX_NoPlan (PySem.W.mg_of X G gX_NoPlan) ek_NoPlan eb_NoPlan et_NoPlan, xcF_of gX_Past (PySem.W.mg_of X G gX_Past) ek_Past eb_Past et_Past, xcF_of gX_Taken (PySem.W.mg_of X G gX_Taken) ek_Taken eb_Taken et_Taken, xcF_of gX_TooMany (PySem.W.mg_of X G gX_TooMany) ek_TooMany eb_TooMany et_TooMany, xcF_of gX_TooMuch (PySem.W.mg_of X G gX_TooMuch) ek_TooMuch eb_TooMuch et_TooMuch, xc0_of gX_HallError e0_HallError, xc0_of gX_InUse e0_InUse, xc0_of gX_NoGang e0_NoGang, xc0_of gX_NoGuild e0_NoGuild, xc0_of gX_NoHouse e0_NoHouse, xc0_of gX_NoKey e0_NoKey, xc0_of gX_NoKind e0_NoKind, xc0_of gX_Past e0_Past, xc0_of gX_Taken e0_Taken, xc0_of gX_TooMany e0_TooMany, (fun c => match c with | .HallError => subI_of gX_HallError gX_BadRow eh_BadRow et_BadRow p_HallError_BadRow p_HallError_HallError | .Taken => subI_of gX_Taken gX_BadRow eh_BadRow et_BadRow p_Taken_BadRow p_Taken_Taken | .NoKey => subI_of gX_NoKey gX_BadRow eh_BadRow et_BadRow p_NoKey_BadRow p_NoKey_NoKey | .TooMuch => subI_of gX_TooMuch gX_BadRow eh_BadRow et_BadRow p_TooMuch_BadRow p_TooMuch_TooMuch | .NoHouse => subI_of gX_NoHouse gX_BadRow eh_BadRow et_BadRow p_NoHouse_BadRow p_NoHouse_NoHouse | .NoGang => subI_of gX_NoGang gX_BadRow eh_BadRow et_BadRow p_NoGang_BadRow p_NoGang_NoGang | .NoGuild => subI_of gX_NoGuild gX_BadRow eh_BadRow et_BadRow p_NoGuild_BadRow p_NoGuild_NoGuild | .NoKind => subI_of gX_NoKind gX_BadRow eh_BadRow et_BadRow p_NoKind_BadRow p_NoKind_NoKind | .InUse => subI_of gX_InUse gX_BadRow eh_BadRow et_BadRow p_InUse_BadRow p_InUse_InUse | .TooMany => subI_of gX_TooMany gX_BadRow eh_BadRow et_BadRow p_TooMany_BadRow p_TooMany_TooMany | .NoPlan => subI_of gX_NoPlan gX_BadRow eh_BadRow et_BadRow p_NoPlan_BadRow p_NoPlan_NoPlan | .Past => subI_of gX_Past gX_BadRow eh_BadRow et_BadRow p_Past_BadRow p_Past_Past | .BadRow => subI_of gX_BadRow gX_BadRow eh_BadRow et_BadRow p_BadRow_BadRow p_BadRow_BadRow), (fun c => match c with | .HallError => subI_of gX_HallError gX_HallError eh_HallError et_HallError p_HallError_HallError p_HallError_HallError | .Taken => subI_of gX_Taken gX_HallError eh_HallError et_HallError p_Taken_HallError p_Taken_Taken | .NoKey => subI_of gX_NoKey gX_HallError eh_HallError et_HallError p_NoKey_HallError p_NoKey_NoKey | .TooMuch => subI_of gX_TooMuch gX_HallError eh_HallError et_HallError p_TooMuch_HallError p_TooMuch_TooMuch | .NoHouse => subI_of gX_NoHouse gX_HallError eh_HallError et_HallError p_NoHouse_HallError p_NoHouse_NoHouse | .NoGang => subI_of gX_NoGang gX_HallError eh_HallError et_HallError p_NoGang_HallError p_NoGang_NoGang | .NoGuild => subI_of gX_NoGuild gX_HallError eh_HallError et_HallError p_NoGuild_HallError p_NoGuild_NoGuild | .NoKind => subI_of gX_NoKind gX_HallError eh_HallError et_HallError p_NoKind_HallError p_NoKind_NoKind | .InUse => subI_of gX_InUse gX_HallError eh_HallError et_HallError p_InUse_HallError p_InUse_InUse | .TooMany => subI_of gX_TooMany gX_HallError eh_HallError et_HallError p_TooMany_HallError p_TooMany_TooMany | .NoPlan => subI_of gX_NoPlan gX_HallError eh_HallError et_HallError p_NoPlan_HallError p_NoPlan_NoPlan | .Past => subI_of gX_Past gX_HallError eh_HallError et_HallError p_Past_HallError p_Past_Past | .BadRow => subI_of gX_BadRow gX_HallError eh_HallError et_HallError p_BadRow_HallError p_BadRow_BadRow), (fun c => match c with | .HallError => subI_of gX_HallError gX_InUse eh_InUse et_InUse p_HallError_InUse p_HallError_HallError | .Taken => subI_of gX_Taken gX_InUse eh_InUse et_InUse p_Taken_InUse p_Taken_Taken | .NoKey => subI_of gX_NoKey gX_InUse eh_InUse et_InUse p_NoKey_InUse p_NoKey_NoKey | .TooMuch => subI_of gX_TooMuch gX_InUse eh_InUse et_InUse p_TooMuch_InUse p_TooMuch_TooMuch | .NoHouse => subI_of gX_NoHouse gX_InUse eh_InUse et_InUse p_NoHouse_InUse p_NoHouse_NoHouse | .NoGang => subI_of gX_NoGang gX_InUse eh_InUse et_InUse p_NoGang_InUse p_NoGang_NoGang | .NoGuild => subI_of gX_NoGuild gX_InUse eh_InUse et_InUse p_NoGuild_InUse p_NoGuild_NoGuild | .NoKind => subI_of gX_NoKind gX_InUse eh_InUse et_InUse p_NoKind_InUse p_NoKind_NoKind | .InUse => subI_of gX_InUse gX_InUse eh_InUse et_InUse p_InUse_InUse p_InUse_InUse | .TooMany => subI_of gX_TooMany gX_InUse eh_InUse et_InUse p_TooMany_InUse p_TooMany_TooMany | .NoPlan => subI_of gX_NoPlan gX_InUse eh_InUse et_InUse p_NoPlan_InUse p_NoPlan_NoPlan | .Past => subI_of gX_Past gX_InUse eh_InUse et_InUse p_Past_InUse p_Past_Past | .BadRow => subI_of gX_BadRow gX_InUse eh_InUse et_InUse p_BadRow_InUse p_BadRow_BadRow), (fun c => match c with | .HallError => subI_of gX_HallError gX_NoGang eh_NoGang et_NoGang p_HallError_NoGang p_HallError_HallError | .Taken => subI_of gX_Taken gX_NoGang eh_NoGang et_NoGang p_Taken_NoGang p_Taken_Taken | .NoKey => subI_of gX_NoKey gX_NoGang eh_NoGang et_NoGang p_NoKey_NoGang p_NoKey_NoKey | .TooMuch => subI_of gX_TooMuch gX_NoGang eh_NoGang et_NoGang p_TooMuch_NoGang p_TooMuch_TooMuch | .NoHouse => subI_of gX_NoHouse gX_NoGang eh_NoGang et_NoGang p_NoHouse_NoGang p_NoHouse_NoHouse | .NoGang => subI_of gX_NoGang gX_NoGang eh_NoGang et_NoGang p_NoGang_NoGang p_NoGang_NoGang | .NoGuild => subI_of gX_NoGuild gX_NoGang eh_NoGang et_NoGang p_NoGuild_NoGang p_NoGuild_NoGuild | .NoKind => subI_of gX_NoKind gX_NoGang eh_NoGang et_NoGang p_NoKind_NoGang p_NoKind_NoKind | .InUse => subI_of gX_InUse gX_NoGang eh_NoGang et_NoGang p_InUse_NoGang p_InUse_InUse | .TooMany => subI_of gX_TooMany gX_NoGang eh_NoGang et_NoGang p_TooMany_NoGang p_TooMany_TooMany | .NoPlan => subI_of gX_NoPlan gX_NoGang eh_NoGang et_NoGang p_NoPlan_NoGang p_NoPlan_NoPlan | .Past => subI_of gX_Past gX_NoGang eh_NoGang et_NoGang p_Past_NoGang p_Past_Past | .BadRow => subI_of gX_BadRow gX_NoGang eh_NoGang et_NoGang p_BadRow_NoGang p_BadRow_BadRow), (fun c => match c with | .HallError => subI_of gX_HallError gX_NoGuild eh_NoGuild et_NoGuild p_HallError_NoGuild p_HallError_HallError | .Taken => subI_of gX_Taken gX_NoGuild eh_NoGuild et_NoGuild p_Taken_NoGuild p_Taken_Taken | .NoKey => subI_of gX_NoKey gX_NoGuild eh_NoGuild et_NoGuild p_NoKey_NoGuild p_NoKey_NoKey | .TooMuch => subI_of gX_TooMuch gX_NoGuild eh_NoGuild et_NoGuild p_TooMuch_NoGuild p_TooMuch_TooMuch | .NoHouse => subI_of gX_NoHouse gX_NoGuild eh_NoGuild et_NoGuild p_NoHouse_NoGuild p_NoHouse_NoHouse | .NoGang => subI_of gX_NoGang gX_NoGuild eh_NoGuild et_NoGuild p_NoGang_NoGuild p_NoGang_NoGang | .NoGuild => subI_of gX_NoGuild gX_NoGuild eh_NoGuild et_NoGuild p_NoGuild_NoGuild p_NoGuild_NoGuild | .NoKind => subI_of gX_NoKind gX_NoGuild eh_NoGuild et_NoGuild p_NoKind_NoGuild p_NoKind_NoKind | .InUse => subI_of gX_InUse gX_NoGuild eh_NoGuild et_NoGuild p_InUse_NoGuild p_InUse_InUse | .TooMany => subI_of gX_TooMany gX_NoGuild eh_NoGuild et_NoGuild p_TooMany_NoGuild p_TooMany_TooMany | .NoPlan => subI_of gX_NoPlan gX_NoGuild eh_NoGuild et_NoGuild p_NoPlan_NoGuild p_NoPlan_NoPlan | .Past => subI_of gX_Past gX_NoGuild eh_NoGuild et_NoGuild p_Past_NoGuild p_Past_Past | .BadRow => subI_of gX_BadRow gX_NoGuild eh_NoGuild et_NoGuild p_BadRow_NoGuild p_BadRow_BadRow), (fun c => match c with | .HallError => subI_of gX_HallError gX_NoHouse eh_NoHouse et_NoHouse p_HallError_NoHouse p_HallError_HallError | .Taken => subI_of gX_Taken gX_NoHouse eh_NoHouse et_NoHouse p_Taken_NoHouse p_Taken_Taken | .NoKey => subI_of gX_NoKey gX_NoHouse eh_NoHouse et_NoHouse p_NoKey_NoHouse p_NoKey_NoKey | .TooMuch => subI_of gX_TooMuch gX_NoHouse eh_NoHouse et_NoHouse p_TooMuch_NoHouse p_TooMuch_TooMuch | .NoHouse => subI_of gX_NoHouse gX_NoHouse eh_NoHouse et_NoHouse p_NoHouse_NoHouse p_NoHouse_NoHouse | .NoGang => subI_of gX_NoGang gX_NoHouse eh_NoHouse et_NoHouse p_NoGang_NoHouse p_NoGang_NoGang | .NoGuild => subI_of gX_NoGuild gX_NoHouse eh_NoHouse et_NoHouse p_NoGuild_NoHouse p_NoGuild_NoGuild | .NoKind => subI_of gX_NoKind gX_NoHouse eh_NoHouse et_NoHouse p_NoKind_NoHouse p_NoKind_NoKind | .InUse => subI_of gX_InUse gX_NoHouse eh_NoHouse et_NoHouse p_InUse_NoHouse p_InUse_InUse | .TooMany => subI_of gX_TooMany gX_NoHouse eh_NoHouse et_NoHouse p_TooMany_NoHouse p_TooMany_TooMany | .NoPlan => subI_of gX_NoPlan gX_NoHouse eh_NoHouse et_NoHouse p_NoPlan_NoHouse p_NoPlan_NoPlan | .Past => subI_of gX_Past gX_NoHouse eh_NoHouse et_NoHouse p_Past_NoHouse p_Past_Past | .BadRow => subI_of gX_BadRow gX_NoHouse eh_NoHouse et_NoHouse p_BadRow_NoHouse p_BadRow_BadRow), (fun c => match c with | .HallError => subI_of gX_HallError gX_NoKey eh_NoKey et_NoKey p_HallError_NoKey p_HallError_HallError | .Taken => subI_of gX_Taken gX_NoKey eh_NoKey et_NoKey p_Taken_NoKey p_Taken_Taken | .NoKey => subI_of gX_NoKey gX_NoKey eh_NoKey et_NoKey p_NoKey_NoKey p_NoKey_NoKey | .TooMuch => subI_of gX_TooMuch gX_NoKey eh_NoKey et_NoKey p_TooMuch_NoKey p_TooMuch_TooMuch | .NoHouse => subI_of gX_NoHouse gX_NoKey eh_NoKey et_NoKey p_NoHouse_NoKey p_NoHouse_NoHouse | .NoGang => subI_of gX_NoGang gX_NoKey eh_NoKey et_NoKey p_NoGang_NoKey p_NoGang_NoGang | .NoGuild => subI_of gX_NoGuild gX_NoKey eh_NoKey et_NoKey p_NoGuild_NoKey p_NoGuild_NoGuild | .NoKind => subI_of gX_NoKind gX_NoKey eh_NoKey et_NoKey p_NoKind_NoKey p_NoKind_NoKind | .InUse => subI_of gX_InUse gX_NoKey eh_NoKey et_NoKey p_InUse_NoKey p_InUse_InUse | .TooMany => subI_of gX_TooMany gX_NoKey eh_NoKey et_NoKey p_TooMany_NoKey p_TooMany_TooMany | .NoPlan => subI_of gX_NoPlan gX_NoKey eh_NoKey et_NoKey p_NoPlan_NoKey p_NoPlan_NoPlan | .Past => subI_of gX_Past gX_NoKey eh_NoKey et_NoKey p_Past_NoKey p_Past_Past | .BadRow => subI_of gX_BadRow gX_NoKey eh_NoKey et_NoKey p_BadRow_NoKey p_BadRow_BadRow), (fun c => match c with | .HallError => subI_of gX_HallError gX_NoKind eh_NoKind et_NoKind p_HallError_NoKind p_HallError_HallError | .Taken => subI_of gX_Taken gX_NoKind eh_NoKind et_NoKind p_Taken_NoKind p_Taken_Taken | .NoKey => subI_of gX_NoKey gX_NoKind eh_NoKind et_NoKind p_NoKey_NoKind p_NoKey_NoKey | .TooMuch => subI_of gX_TooMuch gX_NoKind eh_NoKind et_NoKind p_TooMuch_NoKind p_TooMuch_TooMuch | .NoHouse => subI_of gX_NoHouse gX_NoKind eh_NoKind et_NoKind p_NoHouse_NoKind p_NoHouse_NoHouse | .NoGang => subI_of gX_NoGang gX_NoKind eh_NoKind et_NoKind p_NoGang_NoKind p_NoGang_NoGang | .NoGuild => subI_of gX_NoGuild gX_NoKind eh_NoKind et_NoKind p_NoGuild_NoKind p_NoGuild_NoGuild | .NoKind => subI_of gX_NoKind gX_NoKind eh_NoKind et_NoKind p_NoKind_NoKind p_NoKind_NoKind | .InUse => subI_of gX_InUse gX_NoKind eh_NoKind et_NoKind p_InUse_NoKind p_InUse_InUse | .TooMany => subI_of gX_TooMany gX_NoKind eh_NoKind et_NoKind p_TooMany_NoKind p_TooMany_TooMany | .NoPlan => subI_of gX_NoPlan gX_NoKind eh_NoKind et_NoKind p_NoPlan_NoKind p_NoPlan_NoPlan | .Past => subI_of gX_Past gX_NoKind eh_NoKind et_NoKind p_Past_NoKind p_Past_Past | .BadRow => subI_of gX_BadRow gX_NoKind eh_NoKind et_NoKind p_BadRow_NoKind p_BadRow_BadRow), (fun c => match c with | .HallError => subI_of gX_HallError gX_NoPlan eh_NoPlan et_NoPlan p_HallError_NoPlan p_HallError_HallError | .Taken => subI_of gX_Taken gX_NoPlan eh_NoPlan et_NoPlan p_Taken_NoPlan p_Taken_Taken | .NoKey => subI_of gX_NoKey gX_NoPlan eh_NoPlan et_NoPlan p_NoKey_NoPlan p_NoKey_NoKey | .TooMuch => subI_of gX_TooMuch gX_NoPlan eh_NoPlan et_NoPlan p_TooMuch_NoPlan p_TooMuch_TooMuch | .NoHouse => subI_of gX_NoHouse gX_NoPlan eh_NoPlan et_NoPlan p_NoHouse_NoPlan p_NoHouse_NoHouse | .NoGang => subI_of gX_NoGang gX_NoPlan eh_NoPlan et_NoPlan p_NoGang_NoPlan p_NoGang_NoGang | .NoGuild => subI_of gX_NoGuild gX_NoPlan eh_NoPlan et_NoPlan p_NoGuild_NoPlan p_NoGuild_NoGuild | .NoKind => subI_of gX_NoKind gX_NoPlan eh_NoPlan et_NoPlan p_NoKind_NoPlan p_NoKind_NoKind | .InUse => subI_of gX_InUse gX_NoPlan eh_NoPlan et_NoPlan p_InUse_NoPlan p_InUse_InUse | .TooMany => subI_of gX_TooMany gX_NoPlan eh_NoPlan et_NoPlan p_TooMany_NoPlan p_TooMany_TooMany | .NoPlan => subI_of gX_NoPlan gX_NoPlan eh_NoPlan et_NoPlan p_NoPlan_NoPlan p_NoPlan_NoPlan | .Past => subI_of gX_Past gX_NoPlan eh_NoPlan et_NoPlan p_Past_NoPlan p_Past_Past | .BadRow => subI_of gX_BadRow gX_NoPlan eh_NoPlan et_NoPlan p_BadRow_NoPlan p_BadRow_BadRow), (fun c => match c with | .HallError => subI_of gX_HallError gX_Past eh_Past et_Past p_HallError_Past p_HallError_HallError | .Taken => subI_of gX_Taken gX_Past eh_Past et_Past p_Taken_Past p_Taken_Taken | .NoKey => subI_of gX_NoKey gX_Past eh_Past et_Past p_NoKey_Past p_NoKey_NoKey | .TooMuch => subI_of gX_TooMuch gX_Past eh_Past et_Past p_TooMuch_Past p_TooMuch_TooMuch | .NoHouse => subI_of gX_NoHouse gX_Past eh_Past et_Past p_NoHouse_Past p_NoHouse_NoHouse | .NoGang => subI_of gX_NoGang gX_Past eh_Past et_Past p_NoGang_Past p_NoGang_NoGang | .NoGuild => subI_of gX_NoGuild gX_Past eh_Past et_Past p_NoGuild_Past p_NoGuild_NoGuild | .NoKind => subI_of gX_NoKind gX_Past eh_Past et_Past p_NoKind_Past p_NoKind_NoKind | .InUse => subI_of gX_InUse gX_Past eh_Past et_Past p_InUse_Past p_InUse_InUse | .TooMany => subI_of gX_TooMany gX_Past eh_Past et_Past p_TooMany_Past p_TooMany_TooMany | .NoPlan => subI_of gX_NoPlan gX_Past eh_Past et_Past p_NoPlan_Past p_NoPlan_NoPlan | .Past => subI_of gX_Past gX_Past eh_Past et_Past p_Past_Past p_Past_Past | .BadRow => subI_of gX_BadRow gX_Past eh_Past et_Past p_BadRow_Past p_BadRow_BadRow), (fun c => match c with | .HallError => subI_of gX_HallError gX_Taken eh_Taken et_Taken p_HallError_Taken p_HallError_HallError | .Taken => subI_of gX_Taken gX_Taken eh_Taken et_Taken p_Taken_Taken p_Taken_Taken | .NoKey => subI_of gX_NoKey gX_Taken eh_Taken et_Taken p_NoKey_Taken p_NoKey_NoKey | .TooMuch => subI_of gX_TooMuch gX_Taken eh_Taken et_Taken p_TooMuch_Taken p_TooMuch_TooMuch | .NoHouse => subI_of gX_NoHouse gX_Taken eh_Taken et_Taken p_NoHouse_Taken p_NoHouse_NoHouse | .NoGang => subI_of gX_NoGang gX_Taken eh_Taken et_Taken p_NoGang_Taken p_NoGang_NoGang | .NoGuild => subI_of gX_NoGuild gX_Taken eh_Taken et_Taken p_NoGuild_Taken p_NoGuild_NoGuild | .NoKind => subI_of gX_NoKind gX_Taken eh_Taken et_Taken p_NoKind_Taken p_NoKind_NoKind | .InUse => subI_of gX_InUse gX_Taken eh_Taken et_Taken p_InUse_Taken p_InUse_InUse | .TooMany => subI_of gX_TooMany gX_Taken eh_Taken et_Taken p_TooMany_Taken p_TooMany_TooMany | .NoPlan => subI_of gX_NoPlan gX_Taken eh_Taken et_Taken p_NoPlan_Taken p_NoPlan_NoPlan | .Past => subI_of gX_Past gX_Taken eh_Taken et_Taken p_Past_Taken p_Past_Past | .BadRow => subI_of gX_BadRow gX_Taken eh_Taken et_Taken p_BadRow_Taken p_BadRow_BadRow), (fun c => match c with | .HallError => subI_of gX_HallError gX_TooMany eh_TooMany et_TooMany p_HallError_TooMany p_HallError_HallError | .Taken => subI_of gX_Taken gX_TooMany eh_TooMany et_TooMany p_Taken_TooMany p_Taken_Taken | .NoKey => subI_of gX_NoKey gX_TooMany eh_TooMany et_TooMany p_NoKey_TooMany p_NoKey_NoKey | .TooMuch => subI_of gX_TooMuch gX_TooMany eh_TooMany et_TooMany p_TooMuch_TooMany p_TooMuch_TooMuch | .NoHouse => subI_of gX_NoHouse gX_TooMany eh_TooMany et_TooMany p_NoHouse_TooMany p_NoHouse_NoHouse | .NoGang => subI_of gX_NoGang gX_TooMany eh_TooMany et_TooMany p_NoGang_TooMany p_NoGang_NoGang | .NoGuild => subI_of gX_NoGuild gX_TooMany eh_TooMany et_TooMany p_NoGuild_TooMany p_NoGuild_NoGuild | .NoKind => subI_of gX_NoKind gX_TooMany eh_TooMany et_TooMany p_NoKind_TooMany p_NoKind_NoKind | .InUse => subI_of gX_InUse gX_TooMany eh_TooMany et_TooMany p_InUse_TooMany p_InUse_InUse | .TooMany => subI_of gX_TooMany gX_TooMany eh_TooMany et_TooMany p_TooMany_TooMany p_TooMany_TooMany | .NoPlan => subI_of gX_NoPlan gX_TooMany eh_TooMany et_TooMany p_NoPlan_TooMany p_NoPlan_NoPlan | .Past => subI_of gX_Past gX_TooMany eh_TooMany et_TooMany p_Past_TooMany p_Past_Past | .BadRow => subI_of gX_BadRow gX_TooMany eh_TooMany et_TooMany p_BadRow_TooMany p_BadRow_BadRow), (fun c => match c with | .HallError => subI_of gX_HallError gX_TooMuch eh_TooMuch et_TooMuch p_HallError_TooMuch p_HallError_HallError | .Taken => subI_of gX_Taken gX_TooMuch eh_TooMuch et_TooMuch p_Taken_TooMuch p_Taken_Taken | .NoKey => subI_of gX_NoKey gX_TooMuch eh_TooMuch et_TooMuch p_NoKey_TooMuch p_NoKey_NoKey | .TooMuch => subI_of gX_TooMuch gX_TooMuch eh_TooMuch et_TooMuch p_TooMuch_TooMuch p_TooMuch_TooMuch | .NoHouse => subI_of gX_NoHouse gX_TooMuch eh_TooMuch et_TooMuch p_NoHouse_TooMuch p_NoHouse_NoHouse | .NoGang => subI_of gX_NoGang gX_TooMuch eh_TooMuch et_TooMuch p_NoGang_TooMuch p_NoGang_NoGang | .NoGuild => subI_of gX_NoGuild gX_TooMuch eh_TooMuch et_TooMuch p_NoGuild_TooMuch p_NoGuild_NoGuild | .NoKind => subI_of gX_NoKind gX_TooMuch eh_TooMuch et_TooMuch p_NoKind_TooMuch p_NoKind_NoKind | .InUse => subI_of gX_InUse gX_TooMuch eh_TooMuch et_TooMuch p_InUse_TooMuch p_InUse_InUse | .TooMany => subI_of gX_TooMany gX_TooMuch eh_TooMuch et_TooMuch p_TooMany_TooMuch p_TooMany_TooMany | .NoPlan => subI_of gX_NoPlan gX_TooMuch eh_TooMuch et_TooMuch p_NoPlan_TooMuch p_NoPlan_NoPlan | .Past => subI_of gX_Past gX_TooMuch eh_TooMuch et_TooMuch p_Past_TooMuch p_Past_Past | .BadRow => subI_of gX_BadRow gX_TooMuch eh_TooMuch et_TooMuch p_BadRow_TooMuch p_BadRow_BadRow)⟩
  have FI_BadRow := fun_mk (st := sI_BadRow) lI_BadRow cI_BadRow kI_BadRow
  have bI_BadRow := FI_BadRow.binds (ps := ["self", "words", "row"]) fun _ _ _ _ _ _ us hl => match us, hl with | [_, _, _], _ => rfl
  have O_BadRow : L2.OexC K X_BadRow := ⟨⟨_, _, _, _, _, _, _, _, _, _, _, _, _, _, _, xl_BadRow, xr_BadRow⟩, xs_BadRow, eb_BadRow, et_BadRow, ek_BadRow⟩
  have FI_NoPlan := fun_mk (st := sI_NoPlan) lI_NoPlan cI_NoPlan kI_NoPlan
  have bI_NoPlan := FI_NoPlan.binds (ps := ["self", "words", "counts"]) fun _ _ _ _ _ _ us hl => match us, hl with | [_, _, _], _ => rfl
  have O_NoPlan : L2.OexC K X_NoPlan := ⟨⟨_, _, _, _, _, _, _, _, _, _, _, _, _, _, _, xl_NoPlan, xr_NoPlan⟩, xs_NoPlan, eb_NoPlan, et_NoPlan, ek_NoPlan⟩
  have FI_TooMuch := fun_mk (st := sI_TooMuch) lI_TooMuch cI_TooMuch kI_TooMuch
  have bI_TooMuch := FI_TooMuch.binds (ps := ["self", "words", "time"]) fun _ _ _ _ _ _ us hl => match us, hl with | [_, _, _], _ => rfl
  have O_TooMuch : L2.OexC K X_TooMuch := ⟨⟨_, _, _, _, _, _, _, _, _, _, _, _, _, _, _, xl_TooMuch, xr_TooMuch⟩, xs_TooMuch, eb_TooMuch, et_TooMuch, ek_TooMuch⟩
  have F0 := fun_mk (st := s__law_box_f64f) l0 c0 k0
  have b0 := F0.binds (ps := ["_law_script", "_law_k"]) fun _ _ _ _ _ _ us hl => match us, hl with | [_, _], _ => rfl
  have F1 := fun_mk (st := s__law_cells) l1 c1 k1
  have b1 := F1.binds (ps := ["_law_script"]) fun _ _ _ _ _ _ us hl => match us, hl with | [_], _ => rfl
  have F2 := fun_mk (st := s__law_take_9ad5) l2 c2 k2
  have b2 := F2.binds (ps := ["_law_box_here", "_law_many"]) fun _ _ _ _ _ _ us hl => match us, hl with | [_, _], _ => rfl
  have F3 := fun_mk (st := s__law_counts_d162) l3 c3 k3
  have b3 := F3.binds (ps := ["_law_box_here"]) fun _ _ _ _ _ _ us hl => match us, hl with | [_], _ => rfl
  have F4 := fun_mk (st := s__law_alike_56a9) l4 c4 k4
  have b4 := F4.binds (ps := ["_law_found", "_law_due"]) fun _ _ _ _ _ _ us hl => match us, hl with | [_, _], _ => rfl
  have F5 := fun_mk (st := s__law_classes) l5 c5 k5
  have b5 := F5.binds (ps := ["_law_error"]) fun _ _ _ _ _ _ us hl => match us, hl with | [_], _ => rfl
  have F6 := fun_mk (st := s_law_k05) l6 c6 k6
  refine ⟨PySem.W.fnOf "law" "law" (defArgs s_law_k05) (defBody s_law_k05) (defScope s_law_k05) .none kV6 dc6 pm6 an6 cd6 ct6, fun s v => .of_eq rfl, fun base _ _ => ?_⟩
  have i_BadRow : InitF l.prog w K mg base 1 .BadRow .row := ⟨X_BadRow, fI_BadRow, _, _, gX_BadRow, PySem.W.mg_of X G gX_BadRow, O_BadRow, xi_BadRow, xt_BadRow, okI_BadRow FI_BadRow O_BadRow na_BadRow_row (PySem.W.mg_of X G gX_HallError) ⟨hsp, hrd, hfc⟩, bI_BadRow⟩
  have i_NoPlan : InitF l.prog w K mg base 1 .NoPlan .counts := ⟨X_NoPlan, fI_NoPlan, _, _, gX_NoPlan, PySem.W.mg_of X G gX_NoPlan, O_NoPlan, xi_NoPlan, xt_NoPlan, okI_NoPlan FI_NoPlan O_NoPlan na_NoPlan_counts (PySem.W.mg_of X G gX_HallError) ⟨hsp, hrd, hfc⟩, bI_NoPlan⟩
  have i_TooMuch : InitF l.prog w K mg base 1 .TooMuch .time := ⟨X_TooMuch, fI_TooMuch, _, _, gX_TooMuch, PySem.W.mg_of X G gX_TooMuch, O_TooMuch, xi_TooMuch, xt_TooMuch, okI_TooMuch FI_TooMuch O_TooMuch na_TooMuch_time (PySem.W.mg_of X G gX_HallError) ⟨hsp, hrd, hfc⟩, bI_TooMuch⟩
  have C__law_box_f64f : Cal l.prog w K mg base 1 "_law_box" (spA K a__law_box_f64f) := cal_mk (ok__law_box_f64f F0 T ) (PySem.W.mg_of X G a0) F0.kp b0
  have C__law_cells : Cal l.prog w K mg base 2 "_law_cells" (spA K a__law_cells) := cal_mk (ok__law_cells F1 T C__law_box_f64f) (PySem.W.mg_of X G a1) F1.kp b1
  have C__law_take_9ad5 : Cal l.prog w K mg base 1 "_law_take" (spA K a__law_take_9ad5) := cal_mk (ok__law_take_9ad5 F2 T ) (PySem.W.mg_of X G a2) F2.kp b2
  have C__law_counts_d162 : Cal l.prog w K mg base 2 "_law_counts" (spA K a__law_counts_d162) := cal_mk (ok__law_counts_d162 F3 T C__law_take_9ad5) (PySem.W.mg_of X G a3) F3.kp b3
  have C__law_alike_56a9 : Cal l.prog w K mg base 7 "_law_alike" (spA K a__law_alike_56a9) := cal_mk (ok__law_alike_56a9 F4 T  (PySem.W.mg_of X G a4) b4 6) (PySem.W.mg_of X G a4) F4.kp b4
  have C__law_classes : Cal l.prog w K mg base 1 "_law_classes" (spA K a__law_classes) := cal_mk (ok__law_classes F5 T ) (PySem.W.mg_of X G a5) F5.kp b5
  exact ok_law_k05 F6 T C__law_cells C__law_take_9ad5 C__law_counts_d162 C__law_alike_56a9 C__law_classes i_BadRow i_NoPlan i_TooMuch
end My
open PySem PySem.W
open PyProof.Rows hiding St
set_option maxRecDepth 100000 in
set_option maxHeartbeats 0 in
theorem PySem.Challenge.cw_clusterhall_k05_refusals_holds : PySem.Challenge.rw_clusterhall_k05_refusals.Holds := by
  w_on; o_law; k_head; (case hw => w_witness2)
  k_fill
  refine My.walk_nu (l := PySem.Challenge.rw_clusterhall_k05_refusals) (n := 63) (k := 8) (x := "_law_script") (a := My.a_law_k05) rfl (by decide) rfl ⟨rfl, by decide, by decide⟩ (fun w h Y => PySem.W.kIn_of Y) ?F (fun _ _ a ns hl hS => My.law_in a ns hl hS)
  case F =>
    intro w mg fa h KX G hmg
    refine' My.all_mk KX G hmg ?gX_HallError ?gX_Taken ?gX_NoKey ?gX_TooMuch ?gX_NoHouse ?gX_NoGang ?gX_NoGuild ?gX_NoKind ?gX_InUse ?gX_TooMany ?gX_NoPlan ?gX_Past ?gX_BadRow ?a0 ?l0 ?c0 ?k0 ?a1 ?l1 ?c1 ?k1 ?a2 ?l2 ?c2 ?k2 ?a3 ?l3 ?c3 ?k3 ?a4 ?l4 ?c4 ?k4 ?a5 ?l5 ?c5 ?k5 ?a6 ?l6 ?c6 ?k6 ?z0 ?z1 ?z2 ?z3 ?z4 ?z5 ?z6 ?z7 ?z8 ?z9 ?z10 ?z11 ?z12 ?z13 ?z14 ?nC_Book ?nC_House ?nC_Estate ?nC_Share ?nC_Taker ?nC_Trial ?nC_Standing ?nC_Hall ?eb_HallError ?eh_HallError ?ea_HallError ?eg_HallError ?el_HallError ?eo_HallError ?ev_HallError ?ek_HallError ?et_HallError ?e0_HallError ?eb_Taken ?eh_Taken ?ea_Taken ?eg_Taken ?el_Taken ?eo_Taken ?ev_Taken ?ek_Taken ?et_Taken ?e0_Taken ?eb_NoKey ?eh_NoKey ?ea_NoKey ?eg_NoKey ?el_NoKey ?eo_NoKey ?ev_NoKey ?ek_NoKey ?et_NoKey ?e0_NoKey ?eb_TooMuch ?eh_TooMuch ?ea_TooMuch ?eg_TooMuch ?na_TooMuch_time ?el_TooMuch ?eo_TooMuch ?ev_TooMuch ?ek_TooMuch ?et_TooMuch ?eb_NoHouse ?eh_NoHouse ?ea_NoHouse ?eg_NoHouse ?el_NoHouse ?eo_NoHouse ?ev_NoHouse ?ek_NoHouse ?et_NoHouse ?e0_NoHouse ?eb_NoGang ?eh_NoGang ?ea_NoGang ?eg_NoGang ?el_NoGang ?eo_NoGang ?ev_NoGang ?ek_NoGang ?et_NoGang ?e0_NoGang ?eb_NoGuild ?eh_NoGuild ?ea_NoGuild ?eg_NoGuild ?el_NoGuild ?eo_NoGuild ?ev_NoGuild ?ek_NoGuild ?et_NoGuild ?e0_NoGuild ?eb_NoKind ?eh_NoKind ?ea_NoKind ?eg_NoKind ?el_NoKind ?eo_NoKind ?ev_NoKind ?ek_NoKind ?et_NoKind ?e0_NoKind ?eb_InUse ?eh_InUse ?ea_InUse ?eg_InUse ?el_InUse ?eo_InUse ?ev_InUse ?ek_InUse ?et_InUse ?e0_InUse ?eb_TooMany ?eh_TooMany ?ea_TooMany ?eg_TooMany ?el_TooMany ?eo_TooMany ?ev_TooMany ?ek_TooMany ?et_TooMany ?e0_TooMany ?eb_NoPlan ?eh_NoPlan ?ea_NoPlan ?eg_NoPlan ?na_NoPlan_counts ?el_NoPlan ?eo_NoPlan ?ev_NoPlan ?ek_NoPlan ?et_NoPlan ?eb_Past ?eh_Past ?ea_Past ?eg_Past ?el_Past ?eo_Past ?ev_Past ?ek_Past ?et_Past ?e0_Past ?eb_BadRow ?eh_BadRow ?ea_BadRow ?eg_BadRow ?na_BadRow_row ?el_BadRow ?eo_BadRow ?ev_BadRow ?ek_BadRow ?et_BadRow ?hn ?ht ?p_BadRow_BadRow ?p_BadRow_HallError ?p_BadRow_InUse ?p_BadRow_NoGang ?p_BadRow_NoGuild ?p_BadRow_NoHouse ?p_BadRow_NoKey ?p_BadRow_NoKind ?p_BadRow_NoPlan ?p_BadRow_Past ?p_BadRow_Taken ?p_BadRow_TooMany ?p_BadRow_TooMuch ?p_HallError_BadRow ?p_HallError_HallError ?p_HallError_InUse ?p_HallError_NoGang ?p_HallError_NoGuild ?p_HallError_NoHouse ?p_HallError_NoKey ?p_HallError_NoKind ?p_HallError_NoPlan ?p_HallError_Past ?p_HallError_Taken ?p_HallError_TooMany ?p_HallError_TooMuch ?p_InUse_BadRow ?p_InUse_HallError ?p_InUse_InUse ?p_InUse_NoGang ?p_InUse_NoGuild ?p_InUse_NoHouse ?p_InUse_NoKey ?p_InUse_NoKind ?p_InUse_NoPlan ?p_InUse_Past ?p_InUse_Taken ?p_InUse_TooMany ?p_InUse_TooMuch ?p_NoGang_BadRow ?p_NoGang_HallError ?p_NoGang_InUse ?p_NoGang_NoGang ?p_NoGang_NoGuild ?p_NoGang_NoHouse ?p_NoGang_NoKey ?p_NoGang_NoKind ?p_NoGang_NoPlan ?p_NoGang_Past ?p_NoGang_Taken ?p_NoGang_TooMany ?p_NoGang_TooMuch ?p_NoGuild_BadRow ?p_NoGuild_HallError ?p_NoGuild_InUse ?p_NoGuild_NoGang ?p_NoGuild_NoGuild ?p_NoGuild_NoHouse ?p_NoGuild_NoKey ?p_NoGuild_NoKind ?p_NoGuild_NoPlan ?p_NoGuild_Past ?p_NoGuild_Taken ?p_NoGuild_TooMany ?p_NoGuild_TooMuch ?p_NoHouse_BadRow ?p_NoHouse_HallError ?p_NoHouse_InUse ?p_NoHouse_NoGang ?p_NoHouse_NoGuild ?p_NoHouse_NoHouse ?p_NoHouse_NoKey ?p_NoHouse_NoKind ?p_NoHouse_NoPlan ?p_NoHouse_Past ?p_NoHouse_Taken ?p_NoHouse_TooMany ?p_NoHouse_TooMuch ?p_NoKey_BadRow ?p_NoKey_HallError ?p_NoKey_InUse ?p_NoKey_NoGang ?p_NoKey_NoGuild ?p_NoKey_NoHouse ?p_NoKey_NoKey ?p_NoKey_NoKind ?p_NoKey_NoPlan ?p_NoKey_Past ?p_NoKey_Taken ?p_NoKey_TooMany ?p_NoKey_TooMuch ?p_NoKind_BadRow ?p_NoKind_HallError ?p_NoKind_InUse ?p_NoKind_NoGang ?p_NoKind_NoGuild ?p_NoKind_NoHouse ?p_NoKind_NoKey ?p_NoKind_NoKind ?p_NoKind_NoPlan ?p_NoKind_Past ?p_NoKind_Taken ?p_NoKind_TooMany ?p_NoKind_TooMuch ?p_NoPlan_BadRow ?p_NoPlan_HallError ?p_NoPlan_InUse ?p_NoPlan_NoGang ?p_NoPlan_NoGuild ?p_NoPlan_NoHouse ?p_NoPlan_NoKey ?p_NoPlan_NoKind ?p_NoPlan_NoPlan ?p_NoPlan_Past ?p_NoPlan_Taken ?p_NoPlan_TooMany ?p_NoPlan_TooMuch ?p_Past_BadRow ?p_Past_HallError ?p_Past_InUse ?p_Past_NoGang ?p_Past_NoGuild ?p_Past_NoHouse ?p_Past_NoKey ?p_Past_NoKind ?p_Past_NoPlan ?p_Past_Past ?p_Past_Taken ?p_Past_TooMany ?p_Past_TooMuch ?p_Taken_BadRow ?p_Taken_HallError ?p_Taken_InUse ?p_Taken_NoGang ?p_Taken_NoGuild ?p_Taken_NoHouse ?p_Taken_NoKey ?p_Taken_NoKind ?p_Taken_NoPlan ?p_Taken_Past ?p_Taken_Taken ?p_Taken_TooMany ?p_Taken_TooMuch ?p_TooMany_BadRow ?p_TooMany_HallError ?p_TooMany_InUse ?p_TooMany_NoGang ?p_TooMany_NoGuild ?p_TooMany_NoHouse ?p_TooMany_NoKey ?p_TooMany_NoKind ?p_TooMany_NoPlan ?p_TooMany_Past ?p_TooMany_Taken ?p_TooMany_TooMany ?p_TooMany_TooMuch ?p_TooMuch_BadRow ?p_TooMuch_HallError ?p_TooMuch_InUse ?p_TooMuch_NoGang ?p_TooMuch_NoGuild ?p_TooMuch_NoHouse ?p_TooMuch_NoKey ?p_TooMuch_NoKind ?p_TooMuch_NoPlan ?p_TooMuch_Past ?p_TooMuch_Taken ?p_TooMuch_TooMany ?p_TooMuch_TooMuch ?xl_BadRow ?xr_BadRow ?xs_BadRow ?xi_BadRow ?xt_BadRow ?lI_BadRow ?cI_BadRow ?kI_BadRow ?xl_NoPlan ?xr_NoPlan ?xs_NoPlan ?xi_NoPlan ?xt_NoPlan ?lI_NoPlan ?cI_NoPlan ?kI_NoPlan ?xl_TooMuch ?xr_TooMuch ?xs_TooMuch ?xi_TooMuch ?xt_TooMuch ?lI_TooMuch ?cI_TooMuch ?kI_TooMuch ?hsp ?hrd ?hfc
    (case gX_HallError => k_is); (case gX_Taken => k_is); (case gX_NoKey => k_is); (case gX_TooMuch => k_is); (case gX_NoHouse => k_is); (case gX_NoGang => k_is); (case gX_NoGuild => k_is); (case gX_NoKind => k_is); (case gX_InUse => k_is); (case gX_TooMany => k_is); (case gX_NoPlan => k_is); (case gX_Past => k_is); (case gX_BadRow => k_is); (case a0 => k_is); (case l0 => k_is); (case c0 => k_is); (case k0 => k_is); (case a1 => k_is); (case l1 => k_is); (case c1 => k_is); (case k1 => k_is); (case a2 => k_is); (case l2 => k_is); (case c2 => k_is); (case k2 => k_is); (case a3 => k_is); (case l3 => k_is); (case c3 => k_is); (case k3 => k_is); (case a4 => k_is); (case l4 => k_is); (case c4 => k_is); (case k4 => k_is); (case a5 => k_is); (case l5 => k_is); (case c5 => k_is); (case k5 => k_is); (case a6 => k_is); (case l6 => k_is); (case c6 => k_is); (case k6 => k_is); (case z0 => k_is); (case z1 => k_is); (case z2 => k_is); (case z3 => k_is); (case z4 => k_is); (case z5 => k_is); (case z6 => k_is); (case z7 => k_is); (case z8 => k_is); (case z9 => k_is); (case z10 => k_is); (case z11 => k_is); (case z12 => k_is); (case z13 => k_is); (case z14 => k_is); (case nC_Book => k_is); (case nC_House => k_is); (case nC_Estate => k_is); (case nC_Share => k_is); (case nC_Taker => k_is); (case nC_Trial => k_is); (case nC_Standing => k_is); (case nC_Hall => k_is); (case eb_HallError => k_is); (case eh_HallError => k_is); (case ea_HallError => k_is); (case eg_HallError => k_is); (case el_HallError => k_is); (case eo_HallError => k_is); (case ev_HallError => k_is); (case ek_HallError => k_is); (case et_HallError => k_is); (case e0_HallError => k_exc); (case eb_Taken => k_is); (case eh_Taken => k_is); (case ea_Taken => k_is); (case eg_Taken => k_is); (case el_Taken => k_is); (case eo_Taken => k_is); (case ev_Taken => k_is); (case ek_Taken => k_is); (case et_Taken => k_is); (case e0_Taken => k_exc); (case eb_NoKey => k_is); (case eh_NoKey => k_is); (case ea_NoKey => k_is); (case eg_NoKey => k_is); (case el_NoKey => k_is); (case eo_NoKey => k_is); (case ev_NoKey => k_is); (case ek_NoKey => k_is); (case et_NoKey => k_is); (case e0_NoKey => k_exc); (case eb_TooMuch => k_is); (case eh_TooMuch => k_is); (case ea_TooMuch => k_is); (case eg_TooMuch => k_is); (case na_TooMuch_time => k_is); (case el_TooMuch => k_is); (case eo_TooMuch => k_is); (case ev_TooMuch => k_is); (case ek_TooMuch => k_is); (case et_TooMuch => k_is); (case eb_NoHouse => k_is); (case eh_NoHouse => k_is); (case ea_NoHouse => k_is); (case eg_NoHouse => k_is); (case el_NoHouse => k_is); (case eo_NoHouse => k_is); (case ev_NoHouse => k_is); (case ek_NoHouse => k_is); (case et_NoHouse => k_is); (case e0_NoHouse => k_exc); (case eb_NoGang => k_is); (case eh_NoGang => k_is); (case ea_NoGang => k_is); (case eg_NoGang => k_is); (case el_NoGang => k_is); (case eo_NoGang => k_is); (case ev_NoGang => k_is); (case ek_NoGang => k_is); (case et_NoGang => k_is); (case e0_NoGang => k_exc); (case eb_NoGuild => k_is); (case eh_NoGuild => k_is); (case ea_NoGuild => k_is); (case eg_NoGuild => k_is); (case el_NoGuild => k_is); (case eo_NoGuild => k_is); (case ev_NoGuild => k_is); (case ek_NoGuild => k_is); (case et_NoGuild => k_is); (case e0_NoGuild => k_exc); (case eb_NoKind => k_is); (case eh_NoKind => k_is); (case ea_NoKind => k_is); (case eg_NoKind => k_is); (case el_NoKind => k_is); (case eo_NoKind => k_is); (case ev_NoKind => k_is); (case ek_NoKind => k_is); (case et_NoKind => k_is); (case e0_NoKind => k_exc); (case eb_InUse => k_is); (case eh_InUse => k_is); (case ea_InUse => k_is); (case eg_InUse => k_is); (case el_InUse => k_is); (case eo_InUse => k_is); (case ev_InUse => k_is); (case ek_InUse => k_is); (case et_InUse => k_is); (case e0_InUse => k_exc); (case eb_TooMany => k_is); (case eh_TooMany => k_is); (case ea_TooMany => k_is); (case eg_TooMany => k_is); (case el_TooMany => k_is); (case eo_TooMany => k_is); (case ev_TooMany => k_is); (case ek_TooMany => k_is); (case et_TooMany => k_is); (case e0_TooMany => k_exc); (case eb_NoPlan => k_is); (case eh_NoPlan => k_is); (case ea_NoPlan => k_is); (case eg_NoPlan => k_is); (case na_NoPlan_counts => k_is); (case el_NoPlan => k_is); (case eo_NoPlan => k_is); (case ev_NoPlan => k_is); (case ek_NoPlan => k_is); (case et_NoPlan => k_is); (case eb_Past => k_is); (case eh_Past => k_is); (case ea_Past => k_is); (case eg_Past => k_is); (case el_Past => k_is); (case eo_Past => k_is); (case ev_Past => k_is); (case ek_Past => k_is); (case et_Past => k_is); (case e0_Past => k_exc); (case eb_BadRow => k_is); (case eh_BadRow => k_is); (case ea_BadRow => k_is); (case eg_BadRow => k_is); (case na_BadRow_row => k_is); (case el_BadRow => k_is); (case eo_BadRow => k_is); (case ev_BadRow => k_is); (case ek_BadRow => k_is); (case et_BadRow => k_is); (case hn => k_is); (case ht => k_is); (case p_BadRow_BadRow => (first | rfl | k_is)); (case p_BadRow_HallError => (first | rfl | k_is)); (case p_BadRow_InUse => (first | rfl | k_is)); (case p_BadRow_NoGang => (first | rfl | k_is)); (case p_BadRow_NoGuild => (first | rfl | k_is)); (case p_BadRow_NoHouse => (first | rfl | k_is)); (case p_BadRow_NoKey => (first | rfl | k_is)); (case p_BadRow_NoKind => (first | rfl | k_is)); (case p_BadRow_NoPlan => (first | rfl | k_is)); (case p_BadRow_Past => (first | rfl | k_is)); (case p_BadRow_Taken => (first | rfl | k_is)); (case p_BadRow_TooMany => (first | rfl | k_is)); (case p_BadRow_TooMuch => (first | rfl | k_is)); (case p_HallError_BadRow => (first | rfl | k_is)); (case p_HallError_HallError => (first | rfl | k_is)); (case p_HallError_InUse => (first | rfl | k_is)); (case p_HallError_NoGang => (first | rfl | k_is)); (case p_HallError_NoGuild => (first | rfl | k_is)); (case p_HallError_NoHouse => (first | rfl | k_is)); (case p_HallError_NoKey => (first | rfl | k_is)); (case p_HallError_NoKind => (first | rfl | k_is)); (case p_HallError_NoPlan => (first | rfl | k_is)); (case p_HallError_Past => (first | rfl | k_is)); (case p_HallError_Taken => (first | rfl | k_is)); (case p_HallError_TooMany => (first | rfl | k_is)); (case p_HallError_TooMuch => (first | rfl | k_is)); (case p_InUse_BadRow => (first | rfl | k_is)); (case p_InUse_HallError => (first | rfl | k_is)); (case p_InUse_InUse => (first | rfl | k_is)); (case p_InUse_NoGang => (first | rfl | k_is)); (case p_InUse_NoGuild => (first | rfl | k_is)); (case p_InUse_NoHouse => (first | rfl | k_is)); (case p_InUse_NoKey => (first | rfl | k_is)); (case p_InUse_NoKind => (first | rfl | k_is)); (case p_InUse_NoPlan => (first | rfl | k_is)); (case p_InUse_Past => (first | rfl | k_is)); (case p_InUse_Taken => (first | rfl | k_is)); (case p_InUse_TooMany => (first | rfl | k_is)); (case p_InUse_TooMuch => (first | rfl | k_is)); (case p_NoGang_BadRow => (first | rfl | k_is)); (case p_NoGang_HallError => (first | rfl | k_is)); (case p_NoGang_InUse => (first | rfl | k_is)); (case p_NoGang_NoGang => (first | rfl | k_is)); (case p_NoGang_NoGuild => (first | rfl | k_is)); (case p_NoGang_NoHouse => (first | rfl | k_is)); (case p_NoGang_NoKey => (first | rfl | k_is)); (case p_NoGang_NoKind => (first | rfl | k_is)); (case p_NoGang_NoPlan => (first | rfl | k_is)); (case p_NoGang_Past => (first | rfl | k_is)); (case p_NoGang_Taken => (first | rfl | k_is)); (case p_NoGang_TooMany => (first | rfl | k_is)); (case p_NoGang_TooMuch => (first | rfl | k_is)); (case p_NoGuild_BadRow => (first | rfl | k_is)); (case p_NoGuild_HallError => (first | rfl | k_is)); (case p_NoGuild_InUse => (first | rfl | k_is)); (case p_NoGuild_NoGang => (first | rfl | k_is)); (case p_NoGuild_NoGuild => (first | rfl | k_is)); (case p_NoGuild_NoHouse => (first | rfl | k_is)); (case p_NoGuild_NoKey => (first | rfl | k_is)); (case p_NoGuild_NoKind => (first | rfl | k_is)); (case p_NoGuild_NoPlan => (first | rfl | k_is)); (case p_NoGuild_Past => (first | rfl | k_is)); (case p_NoGuild_Taken => (first | rfl | k_is)); (case p_NoGuild_TooMany => (first | rfl | k_is)); (case p_NoGuild_TooMuch => (first | rfl | k_is)); (case p_NoHouse_BadRow => (first | rfl | k_is)); (case p_NoHouse_HallError => (first | rfl | k_is)); (case p_NoHouse_InUse => (first | rfl | k_is)); (case p_NoHouse_NoGang => (first | rfl | k_is)); (case p_NoHouse_NoGuild => (first | rfl | k_is)); (case p_NoHouse_NoHouse => (first | rfl | k_is)); (case p_NoHouse_NoKey => (first | rfl | k_is)); (case p_NoHouse_NoKind => (first | rfl | k_is)); (case p_NoHouse_NoPlan => (first | rfl | k_is)); (case p_NoHouse_Past => (first | rfl | k_is)); (case p_NoHouse_Taken => (first | rfl | k_is)); (case p_NoHouse_TooMany => (first | rfl | k_is)); (case p_NoHouse_TooMuch => (first | rfl | k_is)); (case p_NoKey_BadRow => (first | rfl | k_is)); (case p_NoKey_HallError => (first | rfl | k_is)); (case p_NoKey_InUse => (first | rfl | k_is)); (case p_NoKey_NoGang => (first | rfl | k_is)); (case p_NoKey_NoGuild => (first | rfl | k_is)); (case p_NoKey_NoHouse => (first | rfl | k_is)); (case p_NoKey_NoKey => (first | rfl | k_is)); (case p_NoKey_NoKind => (first | rfl | k_is)); (case p_NoKey_NoPlan => (first | rfl | k_is)); (case p_NoKey_Past => (first | rfl | k_is)); (case p_NoKey_Taken => (first | rfl | k_is)); (case p_NoKey_TooMany => (first | rfl | k_is)); (case p_NoKey_TooMuch => (first | rfl | k_is)); (case p_NoKind_BadRow => (first | rfl | k_is)); (case p_NoKind_HallError => (first | rfl | k_is)); (case p_NoKind_InUse => (first | rfl | k_is)); (case p_NoKind_NoGang => (first | rfl | k_is)); (case p_NoKind_NoGuild => (first | rfl | k_is)); (case p_NoKind_NoHouse => (first | rfl | k_is)); (case p_NoKind_NoKey => (first | rfl | k_is)); (case p_NoKind_NoKind => (first | rfl | k_is)); (case p_NoKind_NoPlan => (first | rfl | k_is)); (case p_NoKind_Past => (first | rfl | k_is)); (case p_NoKind_Taken => (first | rfl | k_is)); (case p_NoKind_TooMany => (first | rfl | k_is)); (case p_NoKind_TooMuch => (first | rfl | k_is)); (case p_NoPlan_BadRow => (first | rfl | k_is)); (case p_NoPlan_HallError => (first | rfl | k_is)); (case p_NoPlan_InUse => (first | rfl | k_is)); (case p_NoPlan_NoGang => (first | rfl | k_is)); (case p_NoPlan_NoGuild => (first | rfl | k_is)); (case p_NoPlan_NoHouse => (first | rfl | k_is)); (case p_NoPlan_NoKey => (first | rfl | k_is)); (case p_NoPlan_NoKind => (first | rfl | k_is)); (case p_NoPlan_NoPlan => (first | rfl | k_is)); (case p_NoPlan_Past => (first | rfl | k_is)); (case p_NoPlan_Taken => (first | rfl | k_is)); (case p_NoPlan_TooMany => (first | rfl | k_is)); (case p_NoPlan_TooMuch => (first | rfl | k_is)); (case p_Past_BadRow => (first | rfl | k_is)); (case p_Past_HallError => (first | rfl | k_is)); (case p_Past_InUse => (first | rfl | k_is)); (case p_Past_NoGang => (first | rfl | k_is)); (case p_Past_NoGuild => (first | rfl | k_is)); (case p_Past_NoHouse => (first | rfl | k_is)); (case p_Past_NoKey => (first | rfl | k_is)); (case p_Past_NoKind => (first | rfl | k_is)); (case p_Past_NoPlan => (first | rfl | k_is)); (case p_Past_Past => (first | rfl | k_is)); (case p_Past_Taken => (first | rfl | k_is)); (case p_Past_TooMany => (first | rfl | k_is)); (case p_Past_TooMuch => (first | rfl | k_is)); (case p_Taken_BadRow => (first | rfl | k_is)); (case p_Taken_HallError => (first | rfl | k_is)); (case p_Taken_InUse => (first | rfl | k_is)); (case p_Taken_NoGang => (first | rfl | k_is)); (case p_Taken_NoGuild => (first | rfl | k_is)); (case p_Taken_NoHouse => (first | rfl | k_is)); (case p_Taken_NoKey => (first | rfl | k_is)); (case p_Taken_NoKind => (first | rfl | k_is)); (case p_Taken_NoPlan => (first | rfl | k_is)); (case p_Taken_Past => (first | rfl | k_is)); (case p_Taken_Taken => (first | rfl | k_is)); (case p_Taken_TooMany => (first | rfl | k_is)); (case p_Taken_TooMuch => (first | rfl | k_is)); (case p_TooMany_BadRow => (first | rfl | k_is)); (case p_TooMany_HallError => (first | rfl | k_is)); (case p_TooMany_InUse => (first | rfl | k_is)); (case p_TooMany_NoGang => (first | rfl | k_is)); (case p_TooMany_NoGuild => (first | rfl | k_is)); (case p_TooMany_NoHouse => (first | rfl | k_is)); (case p_TooMany_NoKey => (first | rfl | k_is)); (case p_TooMany_NoKind => (first | rfl | k_is)); (case p_TooMany_NoPlan => (first | rfl | k_is)); (case p_TooMany_Past => (first | rfl | k_is)); (case p_TooMany_Taken => (first | rfl | k_is)); (case p_TooMany_TooMany => (first | rfl | k_is)); (case p_TooMany_TooMuch => (first | rfl | k_is)); (case p_TooMuch_BadRow => (first | rfl | k_is)); (case p_TooMuch_HallError => (first | rfl | k_is)); (case p_TooMuch_InUse => (first | rfl | k_is)); (case p_TooMuch_NoGang => (first | rfl | k_is)); (case p_TooMuch_NoGuild => (first | rfl | k_is)); (case p_TooMuch_NoHouse => (first | rfl | k_is)); (case p_TooMuch_NoKey => (first | rfl | k_is)); (case p_TooMuch_NoKind => (first | rfl | k_is)); (case p_TooMuch_NoPlan => (first | rfl | k_is)); (case p_TooMuch_Past => (first | rfl | k_is)); (case p_TooMuch_Taken => (first | rfl | k_is)); (case p_TooMuch_TooMany => (first | rfl | k_is)); (case p_TooMuch_TooMuch => (first | rfl | k_is)); (case xl_BadRow => k_is); (case xr_BadRow => (first | rfl | decide +kernel | k_is)); (case xs_BadRow => k_is); (case xi_BadRow => k_is); (case xt_BadRow => k_is); (case lI_BadRow => k_is); (case cI_BadRow => k_is); (case kI_BadRow => k_is); (case xl_NoPlan => k_is); (case xr_NoPlan => (first | rfl | decide +kernel | k_is)); (case xs_NoPlan => k_is); (case xi_NoPlan => k_is); (case xt_NoPlan => k_is); (case lI_NoPlan => k_is); (case cI_NoPlan => k_is); (case kI_NoPlan => k_is); (case xl_TooMuch => k_is); (case xr_TooMuch => (first | rfl | decide +kernel | k_is)); (case xs_TooMuch => k_is); (case xi_TooMuch => k_is); (case xt_TooMuch => k_is); (case lI_TooMuch => k_is); (case cI_TooMuch => k_is); (case kI_TooMuch => k_is); (case hsp => k_is); (case hrd => k_is); (case hfc => k_is)
#print axioms PySem.Challenge.cw_clusterhall_k05_refusals_holds
