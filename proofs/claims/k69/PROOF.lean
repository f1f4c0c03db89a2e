import PyProof.Rows.All
import Wide.All
import OpenK.AllK
import Wide.FinOn
import HandS.ForMost
import HandS.Zip
import HandS.TupAny
import HandS.Codes
import HandS.IsInst
import HandS.Walk
import HandS.Wide
import HandS.TupMul
import PyProof.StrOps2
import KE.SortData
import HandS.SetKeys
import HandS.SetFor
import HandS.Strs
import HandS.SortInts
import PySem.Challenge.RW_clusterhall_k69_overborne
set_option Elab.async false
set_option linter.all false
set_option maxRecDepth 100000
set_option maxHeartbeats 4000000
set_option Elab.async false
set_option linter.all false
set_option maxRecDepth 100000
set_option maxHeartbeats 4000000
namespace Mu
open PySem PySem.Spec L2
open PyProof.Rows hiding St

/-! ### data, cells, stores -/
inductive D where
  | non
  | bl (b : Bool)
  | int (i : Int)
  | str (s : Str)
  | lst (xs : List D)
  | tup (xs : List D)
  | fls (xs : List D)
  | raw (v : V)
inductive Cell where
  | lst (xs : List D)
  | dct (kvs : List (Key × D))
  | lck (kvs : List (Key × D))
  | ins (C : Addr) (fs : List (Str × D))
abbrev MS := Addr → Option Cell
def mset (m : MS) (p : Addr) (c : Cell) : MS := fun a => if a = p then some c else m a
def mdel (m : MS) (p : Addr) : MS := fun a => if a = p then none else m a
theorem mset_same {m : MS} {p : Addr} {c : Cell} : mset m p c p = some c := by unfold mset; rw [if_pos rfl]
theorem mset_ne {m : MS} {p q : Addr} {c : Cell} (h : q ≠ p) : mset m p c q = m q := by unfold mset; rw [if_neg h]
theorem mset_mset {m : MS} {p : Addr} {c c' : Cell} : mset (mset m p c) p c' = mset m p c' := by
  funext a; unfold mset; split <;> rfl
theorem mset_comm {m : MS} {p q : Addr} {c c' : Cell} (h : p ≠ q) : mset (mset m p c) q c' = mset (mset m q c') p c := by
  funext a
  unfold mset
  by_cases h1 : a = q
  · rw [if_pos h1]
    by_cases h2 : a = p
    · exact absurd (h2.symm.trans h1) h
    · rw [if_neg h2, if_pos h1]
  · rw [if_neg h1]
    by_cases h2 : a = p
    · rw [if_pos h2, if_pos h2]
    · rw [if_neg h2, if_neg h2, if_neg h1]
theorem mset_self {m : MS} {p : Addr} {c : Cell} (h : m p = some c) : mset m p c = m := by
  funext a; unfold mset; split
  · next e => rw [e, h]
  · rfl
def fz (m : MS) (H : Hp) : Hp := fun a => match m a with
  | none => H a
  | some _ => none
theorem fz_of {m : MS} {H : Hp} {a : Addr} {o : HO} (h : m a = none) (e : H a = some o) : fz m H a = some o := by
  unfold fz; rw [h]; exact e
theorem of_fz {m : MS} {H : Hp} {a : Addr} {o : HO} (h : fz m H a = some o) : m a = none ∧ H a = some o := by
  unfold fz at h
  cases e : m a with
  | none => rw [e] at h; exact ⟨rfl, h⟩
  | some c => rw [e] at h; cases h

section
variable {K : PySem.W.Frag} {F F' F'' : Hp}
mutual
inductive Rp (K : PySem.W.Frag) (F : Hp) : V → D → Prop
  | non : Rp K F .non .non
  | bl (b : Bool) : Rp K F (.bl b) (.bl b)
  | int (i : Int) : Rp K F (.int i) (.int i)
  | str (x : Str) : Rp K F (.str x) (.str x)
  | lst {a : Addr} {xs : List V} {ds : List D} : F a = some (.lst xs) → Rps K F xs ds → Rp K F (.ref a) (.lst ds)
  | fls {a : Addr} {xs : List V} {ds : List D} : SqL K F a xs → Rps K F xs ds → Rp K F (.ref a) (.fls ds)
  | tup {a : Addr} {xs : List V} {ds : List D} : SqT K F a xs → Rps K F xs ds → Rp K F (.ref a) (.tup ds)
  | raw (v : V) : Rp K F v (.raw v)
inductive Rps (K : PySem.W.Frag) (F : Hp) : List V → List D → Prop
  | nil : Rps K F [] []
  | cons {v : V} {vs : List V} {d : D} {ds : List D} : Rp K F v d → Rps K F vs ds → Rps K F (v :: vs) (d :: ds)
end
theorem Same.seqT {H H' : Hp} {a : Addr} {xs : List V} (e : Same H H') (h : SqT K H a xs) : SqT K H' a xs := by
  rcases h with (h | ⟨o, h⟩) | h
  · exact .inl (.inl (e _ _ h))
  · exact .inl (.inr ⟨o, e _ _ h⟩)
  · exact .inr h
mutual
theorem Rp.up (s : Same F F') : ∀ {v : V} (d : D), Rp K F v d → Rp K F' v d
  | _, .non, h => by cases h; exact .non
  | _, .bl b, h => by cases h; exact .bl b
  | _, .int i, h => by cases h; exact .int i
  | _, .str x, h => by cases h; exact .str x
  | _, .lst ds, h => by
    cases h with
    | lst h1 h2 => exact .lst (s _ _ h1) (Rps.up s ds h2)
  | _, .fls ds, h => by
    cases h with
    | fls h1 h2 => exact .fls (s.seq h1) (Rps.up s ds h2)
  | _, .tup ds, h => by
    cases h with
    | tup h1 h2 => exact .tup (Same.seqT s h1) (Rps.up s ds h2)
  | _, .raw v, h => by cases h; exact .raw _
theorem Rps.up (s : Same F F') : ∀ {vs : List V} (ds : List D), Rps K F vs ds → Rps K F' vs ds
  | _, [], h => by cases h; exact .nil
  | _, d :: ds, h => by
    cases h with
    | cons h1 h2 => exact .cons (Rp.up s d h1) (Rps.up s ds h2)
end
theorem Rps.length : ∀ {vs : List V} {ds : List D}, Rps K F vs ds → vs.length = ds.length
  | _, [], h => by cases h; rfl
  | _, d :: ds, h => by
    cases h with
    | cons h1 h2 => rw [List.length_cons, List.length_cons, Rps.length h2]
theorem Rps.get {vs : List V} {ds : List D} {i : Nat} {d : D} (h : Rps K F vs ds) (e : ds[i]? = some d) : ∃ v, vs[i]? = some v ∧ Rp K F v d := by
  induction ds generalizing vs i with
  | nil => simp at e
  | cons d' ds ih =>
    cases h with
    | @cons v' vs' _ _ h1 h2 =>
      cases i with
      | zero =>
        have e' : d' = d := by simpa using e
        rw [← e']
        exact ⟨v', rfl, h1⟩
      | succ i =>
        obtain ⟨v, a, b⟩ := ih (i := i) h2 (by simpa using e)
        exact ⟨v, by simpa using a, b⟩
theorem Rps.get' {vs : List V} {ds : List D} {i : Nat} {v : V} (h : Rps K F vs ds) (e : vs[i]? = some v) : ∃ d, ds[i]? = some d ∧ Rp K F v d := by
  have hl := h.length
  have hi : i < vs.length := (List.getElem?_eq_some_iff.mp e).1
  obtain ⟨w, a, b⟩ := h.get (i := i) (d := ds[i]'(by omega)) (List.getElem?_eq_getElem _)
  rw [e] at a
  cases a
  exact ⟨_, List.getElem?_eq_getElem _, b⟩
theorem Rps.append : ∀ {vs ws : List V} {ds es : List D}, Rps K F vs ds → Rps K F ws es → Rps K F (vs ++ ws) (ds ++ es)
  | _, _, [], _, h, h' => by cases h; exact h'
  | _, _, d :: ds, _, h, h' => by
    cases h with
    | cons h1 h2 => exact .cons h1 (Rps.append h2 h')
theorem Rps.one {v : V} {d : D} (h : Rp K F v d) : Rps K F [v] [d] := .cons h .nil
theorem Rps.set : ∀ {vs : List V} {ds : List D} {v : V} {d : D} (i : Nat), Rp K F v d → Rps K F vs ds → Rps K F (vs.set i v) (ds.set i d)
  | _, [], _, _, _, _, h => by cases h; exact .nil
  | _, e :: ds, _, _, 0, r, h => by
    cases h with
    | cons h1 h2 => exact .cons r h2
  | _, e :: ds, _, _, i + 1, r, h => by
    cases h with
    | cons h1 h2 => exact .cons h1 (Rps.set i r h2)
theorem Rps.take : ∀ {vs : List V} {ds : List D} (n : Nat), Rps K F vs ds → Rps K F (vs.take n) (ds.take n)
  | _, [], n, h => by cases h; simp; exact .nil
  | _, e :: ds, 0, h => by simp; exact .nil
  | _, e :: ds, n + 1, h => by
    cases h with
    | cons h1 h2 => exact .cons h1 (Rps.take n h2)
theorem Rps.drop : ∀ {vs : List V} {ds : List D} (n : Nat), Rps K F vs ds → Rps K F (vs.drop n) (ds.drop n)
  | _, [], n, h => by cases h; simp; exact .nil
  | _, e :: ds, 0, h => h
  | _, e :: ds, n + 1, h => by
    cases h with
    | cons h1 h2 => exact Rps.drop n h2
theorem Rps.reverse {vs : List V} {ds : List D} (h : Rps K F vs ds) : Rps K F vs.reverse ds.reverse := by
  induction vs generalizing ds with
  | nil => cases h; exact .nil
  | cons v vs ih =>
    cases h with
    | cons h1 h2 =>
      rw [List.reverse_cons, List.reverse_cons]
      exact (ih h2).append (.one h1)
theorem Rps.ints {vs : List V} {is : List Int} (h : Rps K F vs (is.map D.int)) : vs = is.map V.int := by
  induction is generalizing vs with
  | nil => cases h; rfl
  | cons i is ih =>
    cases h with
    | cons h1 h2 => cases h1; rw [ih h2]; rfl
theorem Rps.of_ints : ∀ (is : List Int), Rps K F (is.map V.int) (is.map D.int)
  | [] => .nil
  | i :: is => .cons (.int i) (Rps.of_ints is)
theorem Rps.strs {vs : List V} {is : List Str} (h : Rps K F vs (is.map D.str)) : vs = is.map V.str := by
  induction is generalizing vs with
  | nil => cases h; rfl
  | cons i is ih =>
    cases h with
    | cons h1 h2 => cases h1; rw [ih h2]; rfl
theorem Rps.of_strs : ∀ (is : List Str), Rps K F (is.map V.str) (is.map D.str)
  | [] => .nil
  | i :: is => .cons (.str i) (Rps.of_strs is)
theorem Rps.bls {vs : List V} {is : List Bool} (h : Rps K F vs (is.map D.bl)) : vs = is.map V.bl := by
  induction is generalizing vs with
  | nil => cases h; rfl
  | cons i is ih =>
    cases h with
    | cons h1 h2 => cases h1; rw [ih h2]; rfl
theorem Rps.raws {vs ws : List V} (h : Rps K F vs (ws.map D.raw)) : vs = ws := by
  induction ws generalizing vs with
  | nil => cases h; rfl
  | cons i is ih =>
    cases h with
    | cons h1 h2 => cases h1; rw [ih h2]
theorem Rps.of_raws : ∀ (ws : List V), Rps K F ws (ws.map D.raw)
  | [] => .nil
  | i :: is => .cons (.raw i) (Rps.of_raws is)
end

abbrev RKs (K : PySem.W.Frag) (F : Hp) : List (Key × V) → List (Key × D) → Prop := Paired fun (p : Key × V) (q : Key × D) => p.1 = q.1 ∧ Rp K F p.2 q.2
abbrev RFs (K : PySem.W.Frag) (F : Hp) : List (Str × V) → List (Str × D) → Prop := Paired fun (p : Str × V) (q : Str × D) => p.1 = q.1 ∧ Rp K F p.2 q.2
def CellAt (K : PySem.W.Frag) (F H : Hp) (p : Addr) : Cell → Prop
  | .lst ds => ∃ vs, H p = some (.lst vs) ∧ Rps K F vs ds
  | .dct kds => ∃ kvs, H p = some (.dK kvs) ∧ RKs K F kvs kds
  | .lck kds => ∃ o kvs, H p = some (.frz o (.dK kvs)) ∧ RKs K F kvs kds
  | .ins C fs => ∃ dx fvs, H p = some (.ins C dx fvs) ∧ RFs K F fvs fs
/-- the store m and the data's heap F stand in H -/
structure Std (K : PySem.W.Frag) (m : MS) (H F : Hp) : Prop where
  sub : Same F (fz m H)
  cells : ∀ p c, m p = some c → CellAt K F H p c
/-- from (m, H, F) to (m', H', F') -/
structure Go (K : PySem.W.Frag) (m : MS) (H F : Hp) (m' : MS) (H' F' : Hp) : Prop where
  same : Same (fz m H) (fz m' H')
  grow : Same F F'
  fresh : ∀ a, F' a ≠ none → F a ≠ none ∨ H a = none ∨ m a ≠ none
  kept : ∀ a, H a ≠ none → H' a ≠ none
  std : Std K m' H' F'
abbrev Env1 := List (Option D)
structure StR (K : PySem.W.Frag) (F0 : Hp) (σ : St) (H F : Hp) (ρ : Env1) (m : MS) : Prop where
  std : Std K m H F
  env : ∀ (i : Nat) (d : D), ρ[i]? = some (some d) → ∃ v, σ[i]? = some (some v) ∧ Rp K F v d
  old : Same F0 F
section
variable {K : PySem.W.Frag} {F F' F'' F0 : Hp} {H H' H'' : Hp} {m m' m'' : MS} {σ : St} {ρ : Env1}
theorem Std.free (s : Std K m H F) {p : Addr} (h : H p = none) : m p = none := by
  cases e : m p with
  | none => rfl
  | some c =>
    have q := s.cells p c e
    cases c with
    | lst ds => obtain ⟨vs, z, _⟩ := q; rw [h] at z; cases z
    | dct ds => obtain ⟨vs, z, _⟩ := q; rw [h] at z; cases z
    | lck ds => obtain ⟨_, vs, z, _⟩ := q; rw [h] at z; cases z
    | ins C fs => obtain ⟨dx, vs, z, _⟩ := q; rw [h] at z; cases z
theorem Std.freeF (s : Std K m H F) {p : Addr} (h : H p = none) : F p = none := by
  cases e : F p with
  | none => rfl
  | some o =>
    have q := (of_fz (s.sub p o e)).2
    rw [h] at q; cases q
theorem Std.at (s : Std K m H F) {p : Addr} {o : HO} (h : F p = some o) : H p = some o := (of_fz (s.sub p o h)).2
theorem Std.toH (s : Std K m H F) : Same F H := fun p o h => s.at h
theorem Std.off (s : Std K m H F) {p : Addr} {o : HO} (h : F p = some o) : m p = none := (of_fz (s.sub p o h)).1
theorem Std.offF (s : Std K m H F) {p : Addr} {c : Cell} (h : m p = some c) : F p = none := by
  cases e : F p with
  | none => rfl
  | some o => have := s.off e; rw [h] at this; cases this
theorem paired_imp {α β : Type} {P Q : α → β → Prop} (f : ∀ a b, P a b → Q a b) : ∀ {l : List α} {r : List β}, Paired P l r → Paired Q l r
  | _, _, .nil => .nil
  | _, _, .cons h t => .cons (f _ _ h) (paired_imp f t)
theorem RKs.up (s : Same F F') {l : List (Key × V)} {r : List (Key × D)} (h : RKs K F l r) : RKs K F' l r := paired_imp (fun _ _ q => ⟨q.1, Rp.up s _ q.2⟩) h
theorem RFs.up (s : Same F F') {l : List (Str × V)} {r : List (Str × D)} (h : RFs K F l r) : RFs K F' l r := paired_imp (fun _ _ q => ⟨q.1, Rp.up s _ q.2⟩) h
theorem CellAt.up {p : Addr} {c : Cell} (s : Same F F') (e : H' p = H p) (h : CellAt K F H p c) : CellAt K F' H' p c := by
  cases c with
  | lst ds => obtain ⟨vs, z, r⟩ := h; exact ⟨vs, e.trans z, Rps.up s _ r⟩
  | dct ds => obtain ⟨vs, z, r⟩ := h; exact ⟨vs, e.trans z, RKs.up s r⟩
  | lck ds => obtain ⟨o, vs, z, r⟩ := h; exact ⟨o, vs, e.trans z, RKs.up s r⟩
  | ins C fs => obtain ⟨dx, vs, z, r⟩ := h; exact ⟨dx, vs, e.trans z, RFs.up s r⟩
theorem Go.refl (s : Std K m H F) : Go K m H F m H F := ⟨Same.refl _, Same.refl _, fun _ h => .inl h, fun _ h => h, s⟩
theorem Go.trans (g : Go K m H F m' H' F') (k : Go K m' H' F' m'' H'' F'') : Go K m H F m'' H'' F'' :=
  ⟨g.same.trans k.same, g.grow.trans k.grow, fun a h => by
    rcases k.fresh a h with q | q | q
    · exact g.fresh a q
    · refine .inr (.inl ?_)
      cases e : H a with
      | none => rfl
      | some o => exact absurd q (g.kept a (by rw [e]; exact fun z => nomatch z))
    · refine .inr ?_
      cases e : H a with
      | none => exact .inl rfl
      | some o =>
        refine .inr fun hm => q ?_
        exact (of_fz (g.same a o (fz_of hm e))).1, fun a h => k.kept a (g.kept a h), k.std⟩
theorem StR.go (s : StR K F0 σ H F ρ m) (g : Go K m H F m' H' F') : StR K F0 σ H' F' ρ m' :=
  ⟨g.std, fun i d e => let ⟨v, a, b⟩ := s.env i d e; ⟨v, a, Rp.up g.grow _ b⟩, s.old.trans g.grow⟩
/-- a new object that never changes -/
theorem Go.new (s : Std K m H F) {p : Addr} {o : HO} (h : H p = none) : Go K m H F m (upd H p o) (upd F p o) := by
  have hm := s.free h
  have hF := s.freeF h
  have g : Same F (upd F p o) := fun a u e => by rw [upd_ne (ne_of_none e hF)]; exact e
  refine ⟨fun a u e => ?_, g, fun a ha => ?_, fun a ha => ?_, ⟨fun a u e => ?_, fun q c e => ?_⟩⟩
  · obtain ⟨e1, e2⟩ := of_fz e
    exact fz_of e1 (by rw [upd_ne (ne_of_none e2 h)]; exact e2)
  · by_cases e : a = p
    · subst e; exact .inr (.inl h)
    · rw [upd_ne e] at ha; exact .inl ha
  · by_cases e : a = p
    · subst e; rw [upd_same]; exact fun z => nomatch z
    · rw [upd_ne e]; exact ha
  · by_cases e' : a = p
    · subst e'; rw [upd_same] at e; cases e; exact fz_of hm upd_same
    · rw [upd_ne e'] at e
      obtain ⟨e1, e2⟩ := of_fz (s.sub a u e)
      exact fz_of e1 (by rw [upd_ne e']; exact e2)
  · refine (s.cells q c e).up g ?_
    rw [upd_ne]
    rintro rfl
    rw [hm] at e; cases e
/-- a new object that no data leans on -/
theorem Go.junk (s : Std K m H F) {p : Addr} {o : HO} (h : H p = none) : Go K m H F m (upd H p o) F := by
  have hm := s.free h
  refine ⟨fun a u e => ?_, Same.refl _, fun a ha => .inl ha, fun a ha => ?_, ⟨fun a u e => ?_, fun q c e => ?_⟩⟩
  · obtain ⟨e1, e2⟩ := of_fz e
    exact fz_of e1 (by rw [upd_ne (ne_of_none e2 h)]; exact e2)
  · by_cases e : a = p
    · subst e; rw [upd_same]; exact fun z => nomatch z
    · rw [upd_ne e]; exact ha
  · obtain ⟨e1, e2⟩ := of_fz (s.sub a u e)
    exact fz_of e1 (by rw [upd_ne (ne_of_none e2 h)]; exact e2)
  · refine (s.cells q c e).up (Same.refl _) ?_
    rw [upd_ne]
    rintro rfl
    rw [hm] at e; cases e
theorem CellAt.upd_ {p q : Addr} {o : HO} {c : Cell} (h : CellAt K F H q c) (ne : q ≠ p) : CellAt K F (upd H p o) q c := h.up (Same.refl _) (upd_ne ne)
/-- a new cell -/
theorem Go.cell (s : Std K m H F) {p : Addr} {o : HO} {c : Cell} (h : H p = none) (hc : CellAt K F (upd H p o) p c) : Go K m H F (mset m p c) (upd H p o) F := by
  have hm := s.free h
  have hF := s.freeF h
  refine ⟨fun a u e => ?_, Same.refl _, fun a ha => .inl ha, fun a ha => ?_, ⟨fun a u e => ?_, fun q c' e => ?_⟩⟩
  · obtain ⟨e1, e2⟩ := of_fz e
    have ne := ne_of_none e2 h
    exact fz_of (by rw [mset_ne ne]; exact e1) (by rw [upd_ne ne]; exact e2)
  · by_cases e : a = p
    · subst e; rw [upd_same]; exact fun z => nomatch z
    · rw [upd_ne e]; exact ha
  · obtain ⟨e1, e2⟩ := of_fz (s.sub a u e)
    have ne := ne_of_none e2 h
    exact fz_of (by rw [mset_ne ne]; exact e1) (by rw [upd_ne ne]; exact e2)
  · by_cases ne : q = p
    · subst ne; rw [mset_same] at e; cases e; exact hc
    · rw [mset_ne ne] at e
      exact (s.cells q c' e).upd_ ne
/-- a cell changed -/
theorem Go.put (s : Std K m H F) {p : Addr} {o : HO} {c c' : Cell} (h : m p = some c) (hc : CellAt K F (upd H p o) p c') : Go K m H F (mset m p c') (upd H p o) F := by
  have hF := s.offF h
  refine ⟨fun a u e => ?_, Same.refl _, fun a ha => .inl ha, fun a ha => ?_, ⟨fun a u e => ?_, fun q c' e => ?_⟩⟩
  · obtain ⟨e1, e2⟩ := of_fz e
    have ne : a ≠ p := by rintro rfl; rw [h] at e1; cases e1
    exact fz_of (by rw [mset_ne ne]; exact e1) (by rw [upd_ne ne]; exact e2)
  · by_cases e : a = p
    · subst e; rw [upd_same]; exact fun z => nomatch z
    · rw [upd_ne e]; exact ha
  · obtain ⟨e1, e2⟩ := of_fz (s.sub a u e)
    have ne : a ≠ p := by rintro rfl; rw [h] at e1; cases e1
    exact fz_of (by rw [mset_ne ne]; exact e1) (by rw [upd_ne ne]; exact e2)
  · by_cases ne : q = p
    · subst ne; rw [mset_same] at e; cases e; exact hc
    · rw [mset_ne ne] at e
      exact (s.cells q _ e).upd_ ne
/-- fewer cells are asked for -/
def MLe (m' m : MS) : Prop := ∀ p c, m' p = some c → m p = some c
theorem MLe.refl (m : MS) : MLe m m := fun _ _ h => h
theorem MLe.trans {a b c : MS} (h : MLe a b) (k : MLe b c) : MLe a c := fun p x e => k p x (h p x e)
theorem MLe.fresh {m' m : MS} {p : Addr} {c : Cell} (h : MLe m' m) (hp : m' p = none) : MLe m' (mset m p c) := fun q x e => by
  rw [mset_ne]
  · exact h q x e
  · rintro rfl; rw [hp] at e; cases e
theorem MLe.put {m' m : MS} {p : Addr} {c : Cell} (h : MLe m' m) : MLe (mset m' p c) (mset m p c) := fun q x e => by
  by_cases ne : q = p
  · subst ne; rw [mset_same] at e; rw [mset_same]; exact e
  · rw [mset_ne ne] at e; rw [mset_ne ne]; exact h q x e
theorem Go.less (s : Std K m H F) (h : MLe m' m) : Go K m H F m' H F := by
  have hn : ∀ a, m a = none → m' a = none := fun a e => by
    cases e' : m' a with
    | none => rfl
    | some c => have := h a c e'; rw [e] at this; cases this
  refine ⟨fun a u e => ?_, Same.refl _, fun a ha => .inl ha, fun a ha => ha, ⟨fun a u e => ?_, fun q c' e => s.cells q c' (h q c' e)⟩⟩
  · obtain ⟨e1, e2⟩ := of_fz e
    exact fz_of (hn a e1) e2
  · obtain ⟨e1, e2⟩ := of_fz (s.sub a u e)
    exact fz_of (hn a e1) e2
/-- a cell that becomes data -/
theorem Go.freeze (s : Std K m H F) {p : Addr} {ds : List D} (h : m p = some (.lst ds)) : ∃ F', Go K m H F (mdel m p) H F' ∧ Rp K F' (.ref p) (.lst ds) := by
  obtain ⟨vs, hp, r⟩ := s.cells p _ h
  have hF := s.offF h
  have g : Same F (upd F p (.lst vs)) := fun a u e => by rw [upd_ne (ne_of_none e hF)]; exact e
  have hd : ∀ a, a ≠ p → mdel m p a = m a := fun a ne => by unfold mdel; rw [if_neg ne]
  have hdp : mdel m p p = none := by unfold mdel; rw [if_pos rfl]
  refine ⟨upd F p (.lst vs), ⟨fun a u e => ?_, g, fun a ha => ?_, fun a ha => ha, ⟨fun a u e => ?_, fun q c e => ?_⟩⟩, .lst upd_same (Rps.up g _ r)⟩
  · obtain ⟨e1, e2⟩ := of_fz e
    have ne : a ≠ p := by rintro rfl; rw [h] at e1; cases e1
    exact fz_of ((hd a ne).trans e1) e2
  · by_cases e : a = p
    · subst e; exact .inr (.inr (by rw [h]; exact fun z => nomatch z))
    · rw [upd_ne e] at ha; exact .inl ha
  · by_cases e' : a = p
    · subst e'; rw [upd_same] at e; cases e; exact fz_of hdp hp
    · rw [upd_ne e'] at e
      obtain ⟨e1, e2⟩ := of_fz (s.sub a u e)
      exact fz_of ((hd a e').trans e1) e2
  · by_cases ne : q = p
    · subst ne; rw [hdp] at e; cases e
    · rw [hd q ne] at e
      exact (s.cells q c e).up g rfl
end
end Mu

set_option Elab.async false
set_option linter.all false
set_option maxRecDepth 100000
set_option maxHeartbeats 4000000
namespace Mu
open PySem PySem.Spec L2
open PyProof.Rows hiding St
/-! ### the weakest readings -/
section
variable (X : Cx)
def wE (e : Expr) : TE := fun σ H Q => ∀ (pins : List (Addr × Obj)) (s : Shared), Inv X pins σ H s → wpAny (model X.prog X.w) X.A (eval e X.env) (EP X pins σ Q) X.xe s
def wT (e : Expr) : TT := fun σ H Q => ∀ (pins : List (Addr × Obj)) (s : Shared), Inv X pins σ H s → wpAny (model X.prog X.w) X.A (isTrue e X.env (eval e X.env)) (TP X pins σ Q) X.xe s
def wW (e : Expr) : TT := fun σ H Q => ∀ (wh : Sem Value) (pins : List (Addr × Obj)) (s : Shared), Inv X pins σ H s → wpAny (model X.prog X.w) X.A (isTrue e X.env wh) (TP X pins σ Q) X.xe s
def wA (es : List Expr) : TA := fun σ H Q => ∀ (pos : Pos) (pins : List (Addr × Obj)) (s : Shared), Inv X pins σ H s → wpAny (model X.prog X.w) X.A (spliced (backTo pos (starEach es X.env))) (AP X pins σ Q) X.xe s
def wS (st : Stmt) : TS := fun D σ H => ∀ (pins : List (Addr × Obj)) (s : Shared), Inv X pins σ H s → wpAny (model X.prog X.w) X.A (exec st X.env) (SP X pins D) X.xe s
def wSs (st : List Stmt) : TS := fun D σ H => ∀ (pins : List (Addr × Obj)) (s : Shared), Inv X pins σ H s → wpAny (model X.prog X.w) X.A (execs st X.env) (SP X pins D) X.xe s
def wG (tg : Expr) : TG := fun v σ H Q => ∀ (pins : List (Addr × Obj)) (s : Shared) (u : Value), Inv X pins σ H s → RelV v u → wpAny (model X.prog X.w) X.A (assign tg X.env u) (fun _ s' => ∃ σ' H', Inv X pins σ' H' s' ∧ Q σ' H') X.xe s
def wI (tg iter : Expr) : TI := fun σ H R => ∀ (pins : List (Addr × Obj)) (s : Shared), Inv X pins σ H s →
    wpAny (model X.prog X.w) X.A (eval iter X.env) (fun v s1 => wpAny (model X.prog X.w) X.A (pyIter v) (PIE X pins σ tg R) X.xe s1) X.xe s
end
section
variable {X : Cx} {e : Expr} {es : List Expr} {st : Stmt} {sts : List Stmt} {tg iter : Expr}
theorem pe_w : PE X e (wE X e) := ⟨fun pins s _ _ _ I h => h pins s I⟩
theorem pt_w : PT X e (wT X e) := ⟨fun pins s _ _ _ I h => h pins s I⟩
theorem pw_w : PW X e (wW X e) := ⟨fun wh pins s _ _ _ I h => h wh pins s I⟩
theorem pa_w : PA X es (wA X es) := ⟨fun pos pins s _ _ _ I h => h pos pins s I⟩
theorem ps_w : PS X st (wS X st) := ⟨fun pins s _ _ _ I h => h pins s I⟩
theorem pss_w : PSs X sts (wSs X sts) := ⟨fun pins s _ _ _ I h => h pins s I⟩
theorem pg_w : PG X tg (wG X tg) := ⟨fun pins s _ _ _ u _ I r h => h pins s u I r⟩
theorem pi_w : PI X tg iter (wI X tg iter) := ⟨fun pins s _ _ _ I h => h pins s I⟩
theorem wE_of {t : TE} {σ : L2.St} {H : Hp} {Q : VK} (h : PE X e t) (q : t σ H Q) : wE X e σ H Q := fun pins s I => h.run pins s σ H Q I q
theorem wT_of {t : TT} {σ : L2.St} {H : Hp} {Q : Bool → Hp → Prop} (h : PT X e t) (q : t σ H Q) : wT X e σ H Q := fun pins s I => h.run pins s σ H Q I q
theorem wW_of {t : TT} {σ : L2.St} {H : Hp} {Q : Bool → Hp → Prop} (h : PW X e t) (q : t σ H Q) : wW X e σ H Q := fun wh pins s I => h.run wh pins s σ H Q I q
theorem wA_of {t : TA} {σ : L2.St} {H : Hp} {Q : List V → Hp → Prop} (h : PA X es t) (q : t σ H Q) : wA X es σ H Q := fun pos pins s I => h.run pos pins s σ H Q I q
theorem wS_of {t : TS} {σ : L2.St} {H : Hp} {D : Ends} (h : PS X st t) (q : t D σ H) : wS X st D σ H := fun pins s I => h.run pins s σ H D I q
theorem wSs_of {t : TS} {σ : L2.St} {H : Hp} {D : Ends} (h : PSs X sts t) (q : t D σ H) : wSs X sts D σ H := fun pins s I => h.run pins s σ H D I q
theorem wG_of {t : TG} {v : V} {σ : L2.St} {H : Hp} {Q : L2.St → Hp → Prop} (h : PG X tg t) (q : t v σ H Q) : wG X tg v σ H Q := fun pins s u I r => h.run pins s σ H v u Q I r q
theorem wI_of {t : TI} {σ : L2.St} {H : Hp} {R : It → Hp → Prop} (h : PI X tg iter t) (q : t σ H R) : wI X tg iter σ H R := fun pins s I => h.run pins s σ H R I q
end

/-! ### the judgements -/
section
variable (X : Cx) (F0 : Hp)
structure XE (e : Expr) (ρ : Env1) (m : MS) (P : D → MS → Prop) : Prop where
  run : ∀ σ H F, StR X.K F0 σ H F ρ m → ∀ Q : VK, (∀ v H' F' d m', P d m' → Go X.K m H F m' H' F' → Rp X.K F' v d → Q v H') → wE X e σ H Q
structure XD (e : Expr) (ρ : Env1) (m : MS) (d : D) (m' : MS) : Prop where
  run : ∀ σ H F, StR X.K F0 σ H F ρ m → ∀ Q : VK, (∀ v H' F', Go X.K m H F m' H' F' → Rp X.K F' v d → Q v H') → wE X e σ H Q
structure XT (e : Expr) (ρ : Env1) (m : MS) (b : Bool) (m' : MS) : Prop where
  run : ∀ σ H F, StR X.K F0 σ H F ρ m → ∀ Q : Bool → Hp → Prop, (∀ H' F', Go X.K m H F m' H' F' → Q b H') → wT X e σ H Q
structure XW (e : Expr) (ρ : Env1) (m : MS) (b : Bool) (m' : MS) : Prop where
  run : ∀ σ H F, StR X.K F0 σ H F ρ m → ∀ Q : Bool → Hp → Prop, (∀ H' F', Go X.K m H F m' H' F' → Q b H') → wW X e σ H Q
structure XA (es : List Expr) (ρ : Env1) (m : MS) (ds : List D) (m' : MS) : Prop where
  run : ∀ σ H F, StR X.K F0 σ H F ρ m → ∀ Q : List V → Hp → Prop, (∀ vs H' F', Go X.K m H F m' H' F' → Rps X.K F' vs ds → Q vs H') → wA X es σ H Q
structure AEnds where
  nx : Env1 → MS → Prop
  rt : D → MS → Prop
  bk : Env1 → MS → Prop := fun _ _ => False
  ct : Env1 → MS → Prop := fun _ _ => False
structure Cont (K : PySem.W.Frag) (m : MS) (H F : Hp) (A : AEnds) (E : Ends) : Prop where
  nx : ∀ σ' H' F' ρ' m', A.nx ρ' m' → Go K m H F m' H' F' → StR K F0 σ' H' F' ρ' m' → E.nx σ' H'
  rt : ∀ v H' F' d m', A.rt d m' → Go K m H F m' H' F' → Rp K F' v d → E.rt v H'
  bk : ∀ σ' H' F' ρ' m', A.bk ρ' m' → Go K m H F m' H' F' → StR K F0 σ' H' F' ρ' m' → E.bk σ' H'
  ct : ∀ σ' H' F' ρ' m', A.ct ρ' m' → Go K m H F m' H' F' → StR K F0 σ' H' F' ρ' m' → E.ct σ' H'
structure X1 (st : Stmt) (ρ : Env1) (m : MS) (A : AEnds) : Prop where
  run : ∀ σ H F, StR X.K F0 σ H F ρ m → ∀ E : Ends, Cont F0 X.K m H F A E → wS X st E σ H
structure XS (sts : List Stmt) (ρ : Env1) (m : MS) (A : AEnds) : Prop where
  run : ∀ σ H F, StR X.K F0 σ H F ρ m → ∀ E : Ends, Cont F0 X.K m H F A E → wSs X sts E σ H
structure XG (tg : Expr) (d : D) (ρ ρ' : Env1) (vs : List Nat) : Prop where
  run : ∀ σ H F m v, StR X.K F0 σ H F ρ m → Rp X.K F v d → ∀ Q : L2.St → Hp → Prop,
  (∀ σ', StR X.K F0 σ' H F ρ' m → σ'.length = σ.length → (∀ j : Nat, j ∉ vs → σ'[j]? = σ[j]?) → Q σ' H) → wG X tg v σ H Q
structure XGs (tgs : List Expr) (ds : List D) (ρ ρ' : Env1) (vs : List Nat) : Prop where
  run : ∀ σ H F m ws, StR X.K F0 σ H F ρ m → Rps X.K F ws ds → ∀ Q : L2.St → Hp → Prop,
  (∀ σ', StR X.K F0 σ' H F ρ' m → σ'.length = σ.length → (∀ j : Nat, j ∉ vs → σ'[j]? = σ[j]?) → Q σ' H) →
  ∀ (pins : List (Addr × Obj)) (s : Shared) (us : List Value), Inv X pins σ H s → Vals ws us → wpAny (model X.prog X.w) X.A (assignInOrder ((assignEach tgs X.env).map (·.2)) us) (fun _ s' => ∃ σ' H', Inv X pins σ' H' s' ∧ Q σ' H') X.xe s
end
/-- what a loop walks: items, while the data's heap only grows and the store keeps G -/
structure WalkD (K : PySem.W.Frag) (F1 : Hp) (J : It) (items : List D) (G : MS → Prop) : Prop where
  goes : ∀ i H F m, i < items.length → Same F1 F → Std K m H F → G m → J.go i H
  stops : ∀ H F m, Same F1 F → Std K m H F → G m → J.stop items.length H
  yields : ∀ i H F m x H' d, items[i]? = some d → Same F1 F → Std K m H F → G m → J.yld i H x H' → ∃ F', Go K m H F m H' F' ∧ Rp K F' x d
structure XI (X : Cx) (F0 : Hp) (tg iter : Expr) (ρ : Env1) (m : MS) (items : List D) (m' : MS) (G : MS → Prop) : Prop where
  run : ∀ σ H F, StR X.K F0 σ H F ρ m → ∀ R : It → Hp → Prop,
  (∀ J H' F', Go X.K m H F m' H' F' → WalkD X.K F' J items G → R J H') → wI X tg iter σ H R

section
variable {X : Cx} {F0 : Hp} {e a b c : Expr} {es : List Expr} {ρ ρ' ρ1 : Env1} {m m' m1 m2 m3 : MS} {d d1 d2 d3 : D} {pos : Pos} {P : D → MS → Prop}
theorem XD.xe (h : XD X F0 e ρ m d m') (p : P d m') : XE X F0 e ρ m P := .mk fun σ H F S Q q => h.run σ H F S Q fun v H' F' g r => q v H' F' d m' p g r
theorem XE.xd (h : XE X F0 e ρ m fun d1 m1 => d1 = d ∧ m1 = m') : XD X F0 e ρ m d m' := .mk fun σ H F S Q q => h.run σ H F S Q fun v H' F' d1 m1 p g r => by
  obtain ⟨rfl, rfl⟩ := p; exact q v H' F' g r
theorem XE.mono {P' : D → MS → Prop} (h : XE X F0 e ρ m P) (k : ∀ d m, P d m → P' d m) : XE X F0 e ρ m P' := .mk fun σ H F S Q q => h.run σ H F S Q fun v H' F' d m' p => q v H' F' d m' (k d m' p)
theorem XD.eq {e : Expr} (h : XD X F0 e ρ m d m') (e1 : d = d1) (e2 : m' = m1) : XD X F0 e ρ m d1 m1 := by subst e1; subst e2; exact h
theorem XD.to {e : Expr} (h : XD X F0 e ρ m d m') (e1 : d = d1) : XD X F0 e ρ m d1 m' := by subst e1; exact h
theorem xdto {e : Expr} (e1 : d = d1) (h : XD X F0 e ρ m d m') : XD X F0 e ρ m d1 m' := by subst e1; exact h
theorem xtto {e : Expr} {b1 b2 : Bool} (e1 : b1 = b2) (h : XT X F0 e ρ m b1 m') : XT X F0 e ρ m b2 m' := by subst e1; exact h
theorem XT.to {e : Expr} {b1 b2 : Bool} (h : XT X F0 e ρ m b1 m') (e1 : b1 = b2) : XT X F0 e ρ m b2 m' := by subst e1; exact h

/-! ### names, constants -/
theorem xd_var (i : Nat) {x : Str} (hd : ρ[i]? = some (some d)) (hN : X.N[i]? = some x := by rfl) (hv : Vis X.env.scope x := by first | exact Or.inl rfl | exact Or.inr (Or.inl rfl) | exact Or.inr (Or.inr rfl)) (h1 : (x == ("__debug__" : Str)) = false := by decide)
    (h2 : (x == ("__classdict__" : Str)) = false := by decide) : XD X F0 (.Name x pos) ρ m d m := .mk fun σ H F S Q q => by
  obtain ⟨v, e1, r⟩ := S.env i d hd
  exact wE_of (pe_var hN hv h1 h2) ⟨v, e1, q v H F (Go.refl S.std) r⟩
theorem xd_c {v : V} (h : PE X e (tC v)) (r : ∀ F, Rp X.K F v d) : XD X F0 e ρ m d m := .mk fun σ H F S Q q => wE_of h (q v H F (Go.refl S.std) (r F))
theorem xd_int {i : Int} {j} : XD X F0 (.Constant (.int i) j pos) ρ m (.int i) m := xd_c pe_int fun _ => .int i
theorem xd_bl {i : Bool} {j} : XD X F0 (.Constant (.bool i) j pos) ρ m (.bl i) m := xd_c pe_bl fun _ => .bl i
theorem xd_str {i : Str} {j} : XD X F0 (.Constant (.str i) j pos) ρ m (.str i) m := xd_c pe_str fun _ => .str i
theorem xd_non {j} : XD X F0 (.Constant .none j pos) ρ m .non m := xd_c pe_non fun _ => .non
/-- a module's constant that is an int or a text -/
theorem xd_gint {x : Str} {i : Int} {t : Tok} (hm : X.mg x = some (.int i t)) (hg : Gl X x := by rfl) (h1 : (x == ("__debug__" : Str)) = false := by decide) : XD X F0 (.Name x pos) ρ m (.int i) m := xd_c (pe_glob (v := .int i) hg hm ⟨t, rfl⟩ h1) fun _ => .int i
theorem xd_gstr {x : Str} {i : Str} {t : Tok} (hm : X.mg x = some (.str i t)) (hg : Gl X x := by rfl) (h1 : (x == ("__debug__" : Str)) = false := by decide) : XD X F0 (.Name x pos) ρ m (.str i) m := xd_c (pe_glob (v := .str i) hg hm ⟨t, rfl⟩ h1) fun _ => .str i

/-! ### operators -/
def RD2 (K : PySem.W.Frag) (r : R2) (d1 d2 : D) (m : MS) (d3 : D) (m' : MS) : Prop := ∀ x y H F, Std K m H F → Rp K F x d1 → Rp K F y d2 → ∀ Q : VK, (∀ v H' F', Go K m H F m' H' F' → Rp K F' v d3 → Q v H') → r x y H Q
theorem xd_op {op : Operator} {r : R2} (ho : OpR X (binaryOp op) r) (hr : RD2 X.K r d1 d2 m2 d3 m3) (ha : XD X F0 a ρ m d1 m1) (hb : XD X F0 b ρ m1 d2 m2) : XD X F0 (.BinOp a op b pos) ρ m d3 m3 := .mk fun σ H F S Q q => by
  refine wE_of (pe_op ho pe_w pe_w) ?_
  refine ha.run σ H F S _ fun x H1 F1 g1 r1 => hb.run σ H1 F1 (S.go g1) _ fun y H2 F2 g2 r2 => ?_
  exact hr x y H2 F2 g2.std (r1.up g2.grow _) r2 _ fun v H3 F3 g3 r3 => q v H3 F3 ((g1.trans g2).trans g3) r3
theorem xd_cmp {op : CmpOp} {r : R2} (ho : OpR X (compareOp op) r) (hr : RD2 X.K r d1 d2 m2 d3 m3) (ha : XD X F0 a ρ m d1 m1) (hb : XD X F0 b ρ m1 d2 m2) (hm : behindInMarks op b = false) : XD X F0 (.Compare a [op] [b] pos) ρ m d3 m3 := .mk fun σ H F S Q q => by
  refine wE_of (pe_cmpR ho pe_w pe_w hm) ?_
  refine ha.run σ H F S _ fun x H1 F1 g1 r1 => hb.run σ H1 F1 (S.go g1) _ fun y H2 F2 g2 r2 => ?_
  exact hr x y H2 F2 g2.std (r1.up g2.grow _) r2 _ fun v H3 F3 g3 r3 => q v H3 F3 ((g1.trans g2).trans g3) r3
theorem xt_cmp {op : CmpOp} {r : R2} {k : Bool} (ho : OpR X (compareOp op) r) (hr : RD2 X.K r d1 d2 m2 (.bl k) m3) (ha : XD X F0 a ρ m d1 m1) (hb : XD X F0 b ρ m1 d2 m2) (hm : behindInMarks op b = false) : XT X F0 (.Compare a [op] [b] pos) ρ m k m3 := .mk fun σ H F S Q q => by
  refine wT_of (pt_cmpR ho pe_w pe_w hm) ?_
  refine ha.run σ H F S _ fun x H1 F1 g1 r1 => hb.run σ H1 F1 (S.go g1) _ fun y H2 F2 g2 r2 => ?_
  exact hr x y H2 F2 g2.std (r1.up g2.grow _) r2 _ fun v H3 F3 g3 r3 => by
    cases r3; exact ⟨k, rfl, q H3 F3 ((g1.trans g2).trans g3)⟩
theorem rd_I {C : Int → Int → Prop} {g : Int → Int → V} {i j : Int} {K : PySem.W.Frag} (hc : C i j) (hg : ∀ F, Rp K F (g i j) d3) : RD2 K (rI C g) (.int i) (.int j) m d3 m := fun x y H F s r1 r2 Q q => by
  cases r1; cases r2
  exact ⟨i, j, rfl, rfl, hc, q _ H F (Go.refl s) (hg F)⟩
theorem rd_I0 {g : Int → Int → V} {i j : Int} {K : PySem.W.Frag} (hg : ∀ F, Rp K F (g i j) d3) : RD2 K (rI0 g) (.int i) (.int j) m d3 m := fun x y H F s r1 r2 Q q => by
  cases r1; cases r2
  exact ⟨i, j, rfl, rfl, q _ H F (Go.refl s) (hg F)⟩
variable {i j : Int}
theorem xd_add (ha : XD X F0 a ρ m (.int i) m1) (hb : XD X F0 b ρ m1 (.int j) m2) : XD X F0 (.BinOp a .Add b pos) ρ m (.int (i + j)) m2 := xd_op op_add (rd_I0 fun _ => .int _) ha hb
theorem xd_sub (ha : XD X F0 a ρ m (.int i) m1) (hb : XD X F0 b ρ m1 (.int j) m2) : XD X F0 (.BinOp a .Sub b pos) ρ m (.int (i - j)) m2 := xd_op op_sub (rd_I0 fun _ => .int _) ha hb
theorem xd_mul (ha : XD X F0 a ρ m (.int i) m1) (hb : XD X F0 b ρ m1 (.int j) m2) (hc : CMul i j) : XD X F0 (.BinOp a .Mult b pos) ρ m (.int (i * j)) m2 := xd_op op_mul (rd_I hc fun _ => .int _) ha hb
theorem xd_fdiv (ha : XD X F0 a ρ m (.int i) m1) (hb : XD X F0 b ρ m1 (.int j) m2) (hc : CDiv i j) : XD X F0 (.BinOp a .FloorDiv b pos) ρ m (.int (i / j)) m2 := xd_op op_fdiv (rd_I hc fun _ => .int _) ha hb
theorem xd_fdivW (ha : XD X F0 a ρ m (.int i) m1) (hb : XD X F0 b ρ m1 (.int j) m2) (hc : CDivW i j) : XD X F0 (.BinOp a .FloorDiv b pos) ρ m (.int (i / j)) m2 := xd_op op_fdivW (rd_I hc fun _ => .int _) ha hb
theorem xd_mod (ha : XD X F0 a ρ m (.int i) m1) (hb : XD X F0 b ρ m1 (.int j) m2) (hc : 0 < j) : XD X F0 (.BinOp a .Mod b pos) ρ m (.int (i % j)) m2 := xd_op op_mod (rd_I hc fun _ => .int _) ha hb
theorem xd_pow (ha : XD X F0 a ρ m (.int i) m1) (hb : XD X F0 b ρ m1 (.int j) m2) (hc : CPow i j) : XD X F0 (.BinOp a .Pow b pos) ρ m (.int (i ^ j.toNat)) m2 := xd_op op_pow (rd_I hc fun _ => .int _) ha hb
theorem xt_lt (ha : XD X F0 a ρ m (.int i) m1) (hb : XD X F0 b ρ m1 (.int j) m2) : XT X F0 (.Compare a [.Lt] [b] pos) ρ m (decide (i < j)) m2 := xt_cmp op_lt (rd_I0 fun _ => .bl _) ha hb (nomark _)
theorem xt_le (ha : XD X F0 a ρ m (.int i) m1) (hb : XD X F0 b ρ m1 (.int j) m2) : XT X F0 (.Compare a [.LtE] [b] pos) ρ m (decide (i ≤ j)) m2 := xt_cmp op_le (rd_I0 fun _ => .bl _) ha hb (nomark _)
theorem xt_gt (ha : XD X F0 a ρ m (.int i) m1) (hb : XD X F0 b ρ m1 (.int j) m2) : XT X F0 (.Compare a [.Gt] [b] pos) ρ m (decide (j < i)) m2 := xt_cmp op_gt (rd_I0 fun _ => .bl _) ha hb (nomark _)
theorem xt_ge (ha : XD X F0 a ρ m (.int i) m1) (hb : XD X F0 b ρ m1 (.int j) m2) : XT X F0 (.Compare a [.GtE] [b] pos) ρ m (decide (j ≤ i)) m2 := xt_cmp op_ge (rd_I0 fun _ => .bl _) ha hb (nomark _)
theorem xd_lt (ha : XD X F0 a ρ m (.int i) m1) (hb : XD X F0 b ρ m1 (.int j) m2) : XD X F0 (.Compare a [.Lt] [b] pos) ρ m (.bl (decide (i < j))) m2 := xd_cmp op_lt (rd_I0 fun _ => .bl _) ha hb (nomark _)
theorem xd_le (ha : XD X F0 a ρ m (.int i) m1) (hb : XD X F0 b ρ m1 (.int j) m2) : XD X F0 (.Compare a [.LtE] [b] pos) ρ m (.bl (decide (i ≤ j))) m2 := xd_cmp op_le (rd_I0 fun _ => .bl _) ha hb (nomark _)
theorem xd_gt (ha : XD X F0 a ρ m (.int i) m1) (hb : XD X F0 b ρ m1 (.int j) m2) : XD X F0 (.Compare a [.Gt] [b] pos) ρ m (.bl (decide (j < i))) m2 := xd_cmp op_gt (rd_I0 fun _ => .bl _) ha hb (nomark _)
theorem xd_ge (ha : XD X F0 a ρ m (.int i) m1) (hb : XD X F0 b ρ m1 (.int j) m2) : XD X F0 (.Compare a [.GtE] [b] pos) ρ m (.bl (decide (j ≤ i))) m2 := xd_cmp op_ge (rd_I0 fun _ => .bl _) ha hb (nomark _)
/-- == of two scalars -/
def sc : D → D → Bool
  | .non, .non => true | .non, .int _ => true | .int _, .non => true | .non, .bl _ => true | .bl _, .non => true | .non, .str _ => true | .str _, .non => true
  | .int _, .int _ => true | .bl _, .bl _ => true | .str _, .str _ => true
  | .int _, .str _ => true | .str _, .int _ => true | .bl _, .str _ => true | .str _, .bl _ => true
  | _, _ => false
def scEq : D → D → Bool
  | .non, .non => true
  | .int i, .int j => decide (i = j)
  | .bl i, .bl j => decide (i = j)
  | .str i, .str j => decide (i = j)
  | _, _ => false
theorem sc_rel {K : PySem.W.Frag} {F : Hp} {x y : V} (r1 : Rp K F x d1) (r2 : Rp K F y d2) (h : sc d1 d2 = true) : scal x y = true ∧ decide (x = y) = scEq d1 d2 := by
  cases r1 <;> cases r2 <;> first
    | (simp [sc] at h; done)
    | (refine ⟨rfl, ?_⟩; simp [scEq]; done)
    | (refine ⟨rfl, ?_⟩; simp [scEq])
theorem rd_eq {K : PySem.W.Frag} (h : sc d1 d2 = true) : RD2 K rEq d1 d2 m (.bl (scEq d1 d2)) m := fun x y H F s r1 r2 Q q => by
  obtain ⟨h1, h2⟩ := sc_rel r1 r2 h
  refine ⟨h1, ?_⟩
  rw [h2]
  exact q _ H F (Go.refl s) (.bl _)
theorem rd_ne {K : PySem.W.Frag} (h : sc d1 d2 = true) : RD2 K rNe d1 d2 m (.bl (!scEq d1 d2)) m := fun x y H F s r1 r2 Q q => by
  obtain ⟨h1, h2⟩ := sc_rel r1 r2 h
  refine ⟨h1, ?_⟩
  rw [h2]
  exact q _ H F (Go.refl s) (.bl _)
theorem xt_eq (ha : XD X F0 a ρ m d1 m1) (hb : XD X F0 b ρ m1 d2 m2) (h : sc d1 d2 = true := by rfl) : XT X F0 (.Compare a [.Eq] [b] pos) ρ m (scEq d1 d2) m2 := xt_cmp op_eq (rd_eq h) ha hb (nomark _)
theorem xt_ne (ha : XD X F0 a ρ m d1 m1) (hb : XD X F0 b ρ m1 d2 m2) (h : sc d1 d2 = true := by rfl) : XT X F0 (.Compare a [.NotEq] [b] pos) ρ m (!scEq d1 d2) m2 := xt_cmp op_ne (rd_ne h) ha hb (nomark _)
theorem xd_eq (ha : XD X F0 a ρ m d1 m1) (hb : XD X F0 b ρ m1 d2 m2) (h : sc d1 d2 = true := by rfl) : XD X F0 (.Compare a [.Eq] [b] pos) ρ m (.bl (scEq d1 d2)) m2 := xd_cmp op_eq (rd_eq h) ha hb (nomark _)
theorem xd_ne (ha : XD X F0 a ρ m d1 m1) (hb : XD X F0 b ρ m1 d2 m2) (h : sc d1 d2 = true := by rfl) : XD X F0 (.Compare a [.NotEq] [b] pos) ρ m (.bl (!scEq d1 d2)) m2 := xd_cmp op_ne (rd_ne h) ha hb (nomark _)
/-- is None -/
def isNon : D → Bool
  | .non => true
  | _ => false
def notRaw : D → Bool
  | .raw _ => false
  | _ => true
theorem isNon_rel {K : PySem.W.Frag} {F : Hp} {x : V} (r : Rp K F x d) (h : notRaw d = true) : decide (x = .non) = isNon d := by
  cases r <;> first
    | (simp [notRaw] at h; done)
    | (simp [isNon])
theorem xd_isN {jj} {pp} (ha : XD X F0 a ρ m d m1) (h : notRaw d = true := by rfl) : XD X F0 (.Compare a [.Is] [.Constant .none jj pp] pos) ρ m (.bl (isNon d)) m1 := .mk fun σ H F S Q q => by
  refine wE_of (pe_cmp (pc_isN pe_w)) ?_
  refine ha.run σ H F S _ fun x H1 F1 g1 r1 => ?_
  show Q (.bl (decide (x = .non))) H1
  rw [isNon_rel r1 h]
  exact q _ H1 F1 g1 (.bl _)
theorem xd_notN {jj} {pp} (ha : XD X F0 a ρ m d m1) (h : notRaw d = true := by rfl) : XD X F0 (.Compare a [.IsNot] [.Constant .none jj pp] pos) ρ m (.bl (!isNon d)) m1 := .mk fun σ H F S Q q => by
  refine wE_of (pe_cmp (pc_notN pe_w)) ?_
  refine ha.run σ H F S _ fun x H1 F1 g1 r1 => ?_
  show Q (.bl (!decide (x = .non))) H1
  rw [isNon_rel r1 h]
  exact q _ H1 F1 g1 (.bl _)

/-! ### tests -/
theorem xt_val {k : Bool} (h : XD X F0 e ρ m (.bl k) m') (he : ∀ whole, isTrue e X.env whole = (do let v ← whole; standAt e.pos; holding [v] (truthy v)) := by intro _; rfl) : XT X F0 e ρ m k m' := .mk fun σ H F S Q q => by
  refine wT_of (pt_val pe_w he) ?_
  refine h.run σ H F S _ fun v H1 F1 g r => ?_
  cases r
  exact ⟨k, rfl, q H1 F1 g⟩
theorem xt_isN {jj} {pp} (ha : XD X F0 a ρ m d m1) (h : notRaw d = true := by rfl) : XT X F0 (.Compare a [.Is] [.Constant .none jj pp] pos) ρ m (isNon d) m1 := .mk fun σ H F S Q q => by
  refine wT_of (pt_cmp (pc_isN pe_w)) ?_
  refine ha.run σ H F S _ fun x H1 F1 g1 r1 => ?_
  show ∃ c, V.bl (decide (x = .non)) = .bl c ∧ Q c H1
  rw [isNon_rel r1 h]
  exact ⟨_, rfl, q H1 F1 g1⟩
theorem xt_notN {jj} {pp} (ha : XD X F0 a ρ m d m1) (h : notRaw d = true := by rfl) : XT X F0 (.Compare a [.IsNot] [.Constant .none jj pp] pos) ρ m (!isNon d) m1 := .mk fun σ H F S Q q => by
  refine wT_of (pt_cmp (pc_notN pe_w)) ?_
  refine ha.run σ H F S _ fun x H1 F1 g1 r1 => ?_
  show ∃ c, V.bl (!decide (x = .non)) = .bl c ∧ Q c H1
  rw [isNon_rel r1 h]
  exact ⟨_, rfl, q H1 F1 g1⟩
theorem xt_not {k : Bool} (h : XT X F0 a ρ m k m') : XT X F0 (.UnaryOp .Not a pos) ρ m (!k) m' := .mk fun σ H F S Q q => by
  refine wT_of (pt_not pt_w) ?_
  exact h.run σ H F S _ fun H1 F1 g => q H1 F1 g
theorem xd_not {k : Bool} (h : XD X F0 a ρ m (.bl k) m') : XD X F0 (.UnaryOp .Not a pos) ρ m (.bl (!k)) m' := .mk fun σ H F S Q q => by
  refine wE_of (pe_not pe_w) ?_
  refine h.run σ H F S _ fun v H1 F1 g r => ?_
  cases r
  exact ⟨k, rfl, q _ H1 F1 g (.bl _)⟩
variable {rest : List Expr} {k k1 k2 : Bool}
theorem XW.xt (h : XW X F0 e ρ m k m') : XT X F0 e ρ m k m' := .mk fun σ H F S Q q pins s I => h.run σ H F S Q q _ pins s I
theorem xw_and1 (h : XT X F0 a ρ m k m') : XW X F0 (.BoolOp .And [a] pos) ρ m k m' := .mk fun σ H F S Q q => wW_of (pw_and1 pt_w) (h.run σ H F S Q q)
theorem xw_or1 (h : XT X F0 a ρ m k m') : XW X F0 (.BoolOp .Or [a] pos) ρ m k m' := .mk fun σ H F S Q q => wW_of (pw_or1 pt_w) (h.run σ H F S Q q)
theorem xw_and (ha : XT X F0 a ρ m k1 m1) (hb : k1 = true → XW X F0 (.BoolOp .And (b :: rest) pos) ρ m1 k2 m2) (hm : k1 = false → m2 = m1) : XW X F0 (.BoolOp .And (a :: b :: rest) pos) ρ m (k1 && k2) m2 := .mk fun σ H F S Q q => by
  refine wW_of (pw_and pt_w pw_w) ?_
  refine ha.run σ H F S _ fun H1 F1 g1 => ?_
  cases k1 with
  | true => exact iteT ((hb rfl).run σ H1 F1 (S.go g1) _ fun H2 F2 g2 => q H2 F2 (g1.trans g2))
  | false => have e := hm rfl; subst e; exact iteF (q H1 F1 g1)
theorem xw_or (ha : XT X F0 a ρ m k1 m1) (hb : k1 = false → XW X F0 (.BoolOp .Or (b :: rest) pos) ρ m1 k2 m2) (hm : k1 = true → m2 = m1) : XW X F0 (.BoolOp .Or (a :: b :: rest) pos) ρ m (k1 || k2) m2 := .mk fun σ H F S Q q => by
  refine wW_of (pw_or pt_w pw_w) ?_
  refine ha.run σ H F S _ fun H1 F1 g1 => ?_
  cases k1 with
  | false => exact iteF ((hb rfl).run σ H1 F1 (S.go g1) _ fun H2 F2 g2 => q H2 F2 (g1.trans g2))
  | true => have e := hm rfl; subst e; exact iteT (q H1 F1 g1)
theorem xd_one {op} (h : XD X F0 a ρ m d m') : XD X F0 (.BoolOp op [a] pos) ρ m d m' := .mk fun σ H F S Q q => wE_of (pe_one pe_w) (h.run σ H F S Q q)
theorem xd_and (ha : XD X F0 a ρ m (.bl k1) m1) (hb : k1 = true → XD X F0 (.BoolOp .And (b :: rest) pos) ρ m1 (.bl k2) m2) (hm : k1 = false → m2 = m1) : XD X F0 (.BoolOp .And (a :: b :: rest) pos) ρ m (.bl (k1 && k2)) m2 := .mk fun σ H F S Q q => by
  refine wE_of (pe_and pe_w pe_w) ?_
  refine ha.run σ H F S _ fun v H1 F1 g1 r1 => ?_
  cases r1
  refine ⟨k1, rfl, ?_⟩
  cases k1 with
  | true => exact iteT ((hb rfl).run σ H1 F1 (S.go g1) _ fun v H2 F2 g2 r2 => q v H2 F2 (g1.trans g2) r2)
  | false => have e := hm rfl; subst e; exact iteF (q _ H1 F1 g1 (.bl _))
theorem xd_or (ha : XD X F0 a ρ m (.bl k1) m1) (hb : k1 = false → XD X F0 (.BoolOp .Or (b :: rest) pos) ρ m1 (.bl k2) m2) (hm : k1 = true → m2 = m1) : XD X F0 (.BoolOp .Or (a :: b :: rest) pos) ρ m (.bl (k1 || k2)) m2 := .mk fun σ H F S Q q => by
  refine wE_of (pe_or pe_w pe_w) ?_
  refine ha.run σ H F S _ fun v H1 F1 g1 r1 => ?_
  cases r1
  refine ⟨k1, rfl, ?_⟩
  cases k1 with
  | false => exact iteF ((hb rfl).run σ H1 F1 (S.go g1) _ fun v H2 F2 g2 r2 => q v H2 F2 (g1.trans g2) r2)
  | true => have e := hm rfl; subst e; exact iteT (q _ H1 F1 g1 (.bl _))
theorem xd_if (hc : XT X F0 c ρ m k m1) (ha : k = true → XD X F0 a ρ m1 d m2) (hb : k = false → XD X F0 b ρ m1 d m2) : XD X F0 (.IfExp c a b pos) ρ m d m2 := .mk fun σ H F S Q q => by
  refine wE_of (pe_ifExp pt_w pe_w pe_w) ?_
  refine hc.run σ H F S _ fun H1 F1 g1 => ?_
  cases k with
  | true => exact iteT ((ha rfl).run σ H1 F1 (S.go g1) _ fun v H2 F2 g2 r2 => q v H2 F2 (g1.trans g2) r2)
  | false => exact iteF ((hb rfl).run σ H1 F1 (S.go g1) _ fun v H2 F2 g2 r2 => q v H2 F2 (g1.trans g2) r2)

/-! ### arguments, tuples, lists -/
theorem xa_nil : XA X F0 [] ρ m [] m := .mk fun σ H F S Q q => wA_of pa_nil (q [] H F (Go.refl S.std) .nil)
theorem xa_cons {ds : List D} (h : XD X F0 e ρ m d m1) (t : XA X F0 es ρ m1 ds m2) (hs : starEach (e :: es) X.env = (false, eval e X.env) :: starEach es X.env := by rfl) : XA X F0 (e :: es) ρ m (d :: ds) m2 := .mk fun σ H F S Q q => by
  refine wA_of (pa_cons pe_w pa_w hs) ?_
  refine h.run σ H F S _ fun v H1 F1 g1 r1 => t.run σ H1 F1 (S.go g1) _ fun vs H2 F2 g2 r2 => ?_
  exact q _ H2 F2 (g1.trans g2) (.cons (r1.up g2.grow _) r2)
theorem rp_newTup {K : PySem.W.Frag} {H F : Hp} {p : Addr} {vs : List V} {ds : List D} (s : Std K m H F) (hp : H p = none) (r : Rps K F vs ds) : Rp K (upd F p (.tup vs)) (.ref p) (.tup ds) :=
  .tup (.inl (.inl upd_same)) (r.up (Go.new s hp).grow _)
theorem rp_newLst {K : PySem.W.Frag} {H F : Hp} {p : Addr} {vs : List V} {ds : List D} (s : Std K m H F) (hp : H p = none) (r : Rps K F vs ds) : Rp K (upd F p (.lst vs)) (.ref p) (.lst ds) :=
  .lst upd_same (r.up (Go.new s hp).grow _)
theorem xd_tup {ds : List D} {x1} (h : XA X F0 es ρ m ds m') (hz : ds.length ≤ 100000 := by simp only [List.length_cons, List.length_nil]; decide) : XD X F0 (.Tuple es x1 pos) ρ m (.tup ds) m' := .mk fun σ H F S Q q => by
  refine wE_of (pe_tup pa_w) ?_
  refine h.run σ H F S _ fun vs H1 F1 g1 r1 => ⟨?_, fun p hp => ?_⟩
  · rw [r1.length]; exact Nat.le_trans hz (by decide)
  · exact q _ _ _ (g1.trans (Go.new g1.std hp)) (rp_newTup g1.std hp r1)
theorem xd_lst {ds : List D} (h : XA X F0 es ρ m ds m') (hz : ds.length ≤ 100000 := by simp only [List.length_cons, List.length_nil]; decide) : XD X F0 (.List es pos) ρ m (.lst ds) m' := .mk fun σ H F S Q q => by
  refine wE_of (pe_lst pa_w) ?_
  refine h.run σ H F S _ fun vs H1 F1 g1 r1 => ⟨?_, fun p hp => ?_⟩
  · rw [r1.length]; exact Nat.le_trans hz (by decide)
  · exact q _ _ _ (g1.trans (Go.new g1.std hp)) (rp_newLst g1.std hp r1)
/-- a new list that will change -/
theorem xe_lstM {ds : List D} (h : XA X F0 es ρ m ds m') (k : ∀ p, m' p = none → P (.raw (.ref p)) (mset m' p (.lst ds))) (hz : ds.length ≤ 100000 := by simp only [List.length_cons, List.length_nil]; decide) : XE X F0 (.List es pos) ρ m P := .mk fun σ H F S Q q => by
  refine wE_of (pe_lst pa_w) ?_
  refine h.run σ H F S _ fun vs H1 F1 g1 r1 => ⟨?_, fun p hp => ?_⟩
  · rw [r1.length]; exact Nat.le_trans hz (by decide)
  · exact q _ _ _ _ _ (k p (g1.std.free hp)) (g1.trans (Go.cell g1.std hp ⟨vs, upd_same, r1⟩)) (.raw _)

/-! ### calls of built-ins -/
def RDC (K : PySem.W.Frag) (r : List V → Hp → VK → Prop) (ds : List D) (m : MS) (d : D) (m' : MS) : Prop := ∀ vs H F, Std K m H F → Rps K F vs ds → ∀ Q : VK, (∀ v H' F', Go K m H F m' H' F' → Rp K F' v d → Q v H') → r vs H Q
theorem xd_callB {id : String} {x : Str} {p : Pos} {r : List V → Hp → VK → Prop} {ds : List D} (hc : CallR X (.builtin id) r) (hr : RDC X.K r ds m1 d m2) (hm : X.mg x = none) (ha : XA X F0 (e :: es) ρ m ds m1) (hv : bootBuiltins x = some (.builtin id) := by decide +kernel) (hg : Gl X x := by rfl)
    (hn : x ≠ "__name__" := by decide) (hdb : (x == ("__debug__" : Str)) = false := by decide) (he : starEach (e :: es) X.env = (false, eval e X.env) :: starEach es X.env := by rfl) (hpl : (backTo pos (starEach es X.env)).any (·.1) = false := by rfl) :
    XD X F0 (.Call (.Name x p) (e :: es) [] pos) ρ m d m2 := .mk fun σ H F S Q q => by
  refine wE_of (pe_callB hc hg hm hv pa_w hn hdb he hpl) ?_
  refine ha.run σ H F S _ fun vs H1 F1 g1 r1 => hr vs H1 F1 g1.std r1 _ fun v H2 F2 g2 r2 => q v H2 F2 (g1.trans g2) r2
theorem xd_callTy {T : String} {x : Str} {p : Pos} {r : List V → Hp → VK → Prop} {ds : List D} (hc : CallR X (.type T) r) (hr : RDC X.K r ds m1 d m2) (hm : X.mg x = none) (ha : XA X F0 (e :: es) ρ m ds m1) (hv : bootBuiltins x = some (.type T) := by decide +kernel) (hg : Gl X x := by rfl)
    (hn : x ≠ "__name__" := by decide) (hdb : (x == ("__debug__" : Str)) = false := by decide) (he : starEach (e :: es) X.env = (false, eval e X.env) :: starEach es X.env := by rfl) (hpl : (backTo pos (starEach es X.env)).any (·.1) = false := by rfl) :
    XD X F0 (.Call (.Name x p) (e :: es) [] pos) ρ m d m2 := .mk fun σ H F S Q q => by
  refine wE_of (pe_callTy hc hg hm hv pa_w hn hdb he hpl) ?_
  refine ha.run σ H F S _ fun vs H1 F1 g1 r1 => hr vs H1 F1 g1.std r1 _ fun v H2 F2 g2 r2 => q v H2 F2 (g1.trans g2) r2
end
end Mu

set_option Elab.async false
set_option linter.all false
set_option maxRecDepth 100000
set_option maxHeartbeats 4000000
namespace Mu
open PySem PySem.Spec L2
open PyProof.Rows hiding St
/-! ### calls of own defs -/
abbrev ASp := List D → MS → (D → MS → Prop) → Prop
def spA (K : PySem.W.Frag) (a : ASp) : Sp := fun vs H Q _ => ∃ F ss m P, Std K m H F ∧ Rps K F vs ss ∧ a ss m P ∧ ∀ v H' F' d m', P d m' → Go K m H F m' H' F' → Rp K F' v d → Q v H'
/-- a def of the module, called by its name -/
structure Cal (P : Program) (w : World) (K : PySem.W.Frag) (mg : Str → Option Value) (base : Heap) (k : Nat) (x : Str) (sp : Sp) : Prop where
  ex : ∃ (f : Addr) (fd : FuncData) (ps : List Str), FnOk P w K mg base CX0 k f fd ps sp ∧ mg x = some (.ref f) ∧ PySem.W.keepIn K (.ref f) = true ∧ Binds K fd ps []
def startR (N : List Str) (ss : List D) : Env1 := ss.map some ++ List.replicate (N.length - ss.length) none
section
variable {X : Cx} {F0 : Hp} {e a b c : Expr} {es : List Expr} {ρ ρ' ρ1 : Env1} {m m' m1 m2 m3 : MS} {d d1 d2 d3 : D} {pos : Pos} {P : D → MS → Prop}
theorem xe_call {x : Str} {p : Pos} {k j : Nat} {s : ASp} {ds : List D} (c : Cal X.prog X.w X.K X.mg X.base k x (spA X.K s)) (hr : Room j X.A) (ha : XA X F0 (e :: es) ρ m ds m1) (h : s ds m1 P) (hk : k ≤ j := by decide) (hg : Gl X x := by rfl)
    (hdb : (x == ("__debug__" : Str)) = false := by decide) (he : starEach (e :: es) X.env = (false, eval e X.env) :: starEach es X.env := by rfl) (hpl : (backTo pos (starEach es X.env)).any (·.1) = false := by rfl) :
    XE X F0 (.Call (.Name x p) (e :: es) [] pos) ρ m P := .mk fun σ H F S Q q => by
  obtain ⟨f, fd, ps, G, hm, kp, bi⟩ := c.ex
  refine wE_of (pe_call G (hr.mono hk) hg hm kp bi .nil pass0 pa_w hdb he hpl) ?_
  refine ha.run σ H F S _ fun vs H1 F1 g1 r1 => ?_
  show spA X.K s (vs ++ []) H1 Q E0
  rw [List.append_nil]
  exact ⟨F1, ds, m1, P, g1.std, r1, h, fun v H2 F2 d m2 p g2 r2 => q v H2 F2 d m2 p (g1.trans g2) r2⟩
theorem xd_call {x : Str} {p : Pos} {k j : Nat} {s : ASp} {ds : List D} (c : Cal X.prog X.w X.K X.mg X.base k x (spA X.K s)) (hr : Room j X.A) (ha : XA X F0 (e :: es) ρ m ds m1) (h : s ds m1 fun d1 m3 => d1 = d ∧ m3 = m2) (hk : k ≤ j := by decide) (hg : Gl X x := by rfl)
    (hdb : (x == ("__debug__" : Str)) = false := by decide) (he : starEach (e :: es) X.env = (false, eval e X.env) :: starEach es X.env := by rfl) (hpl : (backTo pos (starEach es X.env)).any (·.1) = false := by rfl) :
    XD X F0 (.Call (.Name x p) (e :: es) [] pos) ρ m d m2 := (xe_call c hr ha h hk hg hdb he hpl).xd
end
section
variable {P : Program} {w : World} {K : PySem.W.Frag} {mg : Str → Option Value} {base : Heap}
theorem env_start {K : PySem.W.Frag} {F : Hp} {N : List Str} {vs : List V} {ss : List D} (r : Rps K F vs ss) : ∀ (i : Nat) (d : D), (startR N ss)[i]? = some (some d) → ∃ v, (L2.start N vs)[i]? = some (some v) ∧ Rp K F v d := fun i d e => by
  unfold startR at e
  unfold L2.start
  have hl := r.length
  by_cases hi : i < ss.length
  · rw [List.getElem?_append_left (by simpa using hi)] at e
    rw [List.getElem?_map] at e
    rw [List.getElem?_append_left (by simpa [hl] using hi), List.getElem?_map]
    cases e1 : ss[i]? with
    | none => rw [e1] at e; cases e
    | some d1 =>
      rw [e1] at e
      have e2 : d1 = d := by simpa using e
      subst e2
      obtain ⟨v, h1, h2⟩ := r.get e1
      exact ⟨v, by rw [h1]; rfl, h2⟩
  · rw [List.getElem?_append_right (by simpa using hi)] at e
    rw [List.getElem?_replicate] at e
    split at e <;> cases e
/-- a def's body keeps its promise -/
theorem fn_ok {a : ASp} {x qual : Str} {st : Stmt} {f : Addr} {fd : FuncData} {N ps : List Str} {k : Nat} (F : Fun K x qual st f fd) (S : FnScope N ps (defScope st)) (len : ∀ ss m Q, a ss m Q → ss.length = ps.length)
    (body : ∀ (cdv : Value) (A : Around) (outer : List Env) (s : Shared) (H : Hp) (E : XK), Room k (A.deeper (envOfC qual (defScope st) s.heap.objs.size f cdv)) → ∀ (F0 : Hp) (ss : List D) (m : MS) (Q : D → MS → Prop), a ss m Q →
      XS (cxOf CX0 P w K mg base N qual (defScope st) f cdv A outer s H E).nox F0 (defBody st) (startR N ss) m { nx := fun _ m' => Q .non m', rt := Q }) : FnOk P w K mg base CX0 (k + 1) f fd ps (spA K a) := by
  refine F.ok S (fun vs H Q E h => ?_) fun cdv A outer s H vs Q E hr h => ?_
  · obtain ⟨Fz, ss, m, P1, _, r, h1, _⟩ := h
    rw [r.length]; exact len ss m P1 h1
  · obtain ⟨Fz, ss, m, P1, sd, r, h1, q⟩ := h
    refine ⟨_, pss_w, ?_⟩
    refine (body cdv A outer s H E hr Fz ss m P1 h1).run _ H Fz ⟨sd, env_start r, Same.refl _⟩ _ ⟨?_, ?_, ?_, ?_⟩
    · exact fun σ' H' F' ρ' m' p g _ => q .non H' F' .non m' p g .non
    · exact fun v H' F' d m' p g r => q v H' F' d m' p g r
    · exact fun _ _ _ _ _ p => p.elim
    · exact fun _ _ _ _ _ p => p.elim
theorem cal_mk {x : Str} {f : Addr} {fd : FuncData} {ps : List Str} {k : Nat} {sp : Sp} (G : FnOk P w K mg base CX0 k f fd ps sp) (hm : mg x = some (.ref f)) (kp : PySem.W.keepIn K (.ref f) = true) (b : Binds K fd ps []) : Cal P w K mg base k x sp :=
  ⟨f, fd, ps, G, hm, kp, b⟩
end

/-! ### statements -/
section
variable {X : Cx} {F0 : Hp} {e a b c : Expr} {es : List Expr} {st : Stmt} {sts : List Stmt} {ρ ρ' ρ1 : Env1} {m m' m1 m2 m3 : MS} {d d1 d2 d3 : D} {pos pos' : Pos} {P : D → MS → Prop} {A : AEnds}
theorem Cont.go {K : PySem.W.Frag} {H F H' F' : Hp} {E : Ends} (k : Cont F0 K m H F A E) (g : Go K m H F m' H' F') : Cont F0 K m' H' F' A E :=
  ⟨fun σ' H1 F1 ρ' m1 p g1 => k.nx σ' H1 F1 ρ' m1 p (g.trans g1), fun v H1 F1 d m1 p g1 => k.rt v H1 F1 d m1 p (g.trans g1), fun σ' H1 F1 ρ' m1 p g1 => k.bk σ' H1 F1 ρ' m1 p (g.trans g1), fun σ' H1 F1 ρ' m1 p g1 => k.ct σ' H1 F1 ρ' m1 p (g.trans g1)⟩
theorem xs_nil (h : A.nx ρ m) : XS X F0 [] ρ m A := .mk fun σ H F S E k => wSs_of pss_nil (k.nx σ H F ρ m h (Go.refl S.std) S)
theorem xs_cons (h : X1 X F0 st ρ m { A with nx := fun ρ' m' => XS X F0 sts ρ' m' A }) : XS X F0 (st :: sts) ρ m A := .mk fun σ H F S E k => by
  refine wSs_of (pss_cons ps_w pss_w) ?_
  refine h.run σ H F S _ ⟨?_, k.rt, k.bk, k.ct⟩
  exact fun σ' H' F' ρ' m' p g S' => p.run σ' H' F' S' E (k.go g)
theorem X1.mono {A' : AEnds} (h : X1 X F0 st ρ m A) (h1 : ∀ ρ m, A.nx ρ m → A'.nx ρ m) (h2 : ∀ d m, A.rt d m → A'.rt d m) (h3 : ∀ ρ m, A.bk ρ m → A'.bk ρ m) (h4 : ∀ ρ m, A.ct ρ m → A'.ct ρ m) : X1 X F0 st ρ m A' := .mk fun σ H F S E k =>
  h.run σ H F S E ⟨fun σ' H1 F1 ρ' m1 p => k.nx σ' H1 F1 ρ' m1 (h1 _ _ p), fun v H1 F1 d m1 p => k.rt v H1 F1 d m1 (h2 _ _ p), fun σ' H1 F1 ρ' m1 p => k.bk σ' H1 F1 ρ' m1 (h3 _ _ p), fun σ' H1 F1 ρ' m1 p => k.ct σ' H1 F1 ρ' m1 (h4 _ _ p)⟩
theorem XS.mono {A' : AEnds} (h : XS X F0 sts ρ m A) (h1 : ∀ ρ m, A.nx ρ m → A'.nx ρ m) (h2 : ∀ d m, A.rt d m → A'.rt d m) (h3 : ∀ ρ m, A.bk ρ m → A'.bk ρ m) (h4 : ∀ ρ m, A.ct ρ m → A'.ct ρ m) : XS X F0 sts ρ m A' := .mk fun σ H F S E k =>
  h.run σ H F S E ⟨fun σ' H1 F1 ρ' m1 p => k.nx σ' H1 F1 ρ' m1 (h1 _ _ p), fun v H1 F1 d m1 p => k.rt v H1 F1 d m1 (h2 _ _ p), fun σ' H1 F1 ρ' m1 p => k.bk σ' H1 F1 ρ' m1 (h3 _ _ p), fun σ' H1 F1 ρ' m1 p => k.ct σ' H1 F1 ρ' m1 (h4 _ _ p)⟩
/-- fewer cells wanted -/
theorem xs_less (hm : MLe m' m) (h : XS X F0 sts ρ m' A) : XS X F0 sts ρ m A := .mk fun σ H F S E k => by
  have g := Go.less S.std hm
  exact h.run σ H F (S.go g) E (k.go g)
theorem xs_forget (hρ : ∀ (i : Nat) (d : D), ρ'[i]? = some (some d) → ρ[i]? = some (some d)) (h : XS X F0 sts ρ' m A) : XS X F0 sts ρ m A := .mk fun σ H F S E k =>
  h.run σ H F ⟨S.std, fun i d e => S.env i d (hρ i d e), S.old⟩ E k
theorem StR.set {K : PySem.W.Frag} {σ : L2.St} {H F : Hp} {i : Nat} {v : V} (S : StR K F0 σ H F ρ m) (r : Rp K F v d) (hl : i < σ.length) : StR K F0 (σ.set i (some v)) H F (ρ.set i (some d)) m := by
  refine ⟨S.std, fun j d' e => ?_, S.old⟩
  by_cases hj : i = j
  · subst hj
    have hi : i < ρ.length := by
      have := (List.getElem?_eq_some_iff.mp e).1
      simpa using this
    rw [List.getElem?_set_self hi] at e
    cases e
    exact ⟨v, List.getElem?_set_self hl, r⟩
  · rw [List.getElem?_set_ne hj] at e
    obtain ⟨v', a, b⟩ := S.env j d' e
    exact ⟨v', by rw [List.getElem?_set_ne hj]; exact a, b⟩
theorem nx_of_inv {i : Nat} {x : Str} {pins : List (Addr × Obj)} {σ : L2.St} {H : Hp} {s : Shared} (I : Inv X pins σ H s) (hi : X.N[i]? = some x) : i < σ.length := by
  rw [I.len]; exact (List.getElem?_eq_some_iff.mp hi).1
/-- name = e -/
theorem x1_set {i : Nat} {x : Str} (he : XE X F0 e ρ m fun d m' => A.nx (ρ.set i (some d)) m') (hN : X.N.Nodup) (hi : X.N[i]? = some x := by rfl) (hx : Loc X.env.scope x := by first | exact Or.inl rfl | exact Or.inr rfl)
    (hs : swapsWith e (some (.Name x pos')) pos.line X.env = pure false := by rfl) (hf : X.fn x = true ∨ X.env.scope.names.lookup x = some .local := by first | exact .inl rfl | exact .inr rfl) :
    X1 X F0 (.Assign [.Name x pos'] e pos) ρ m A := .mk fun σ H F S E k pins s I => by
  have hl := nx_of_inv I hi
  refine wS_of (ps_set (i := i) hN hi hx pe_w hs hf) ?_ pins s I
  refine he.run σ H F S _ fun v H1 F1 d m1 p g r => ?_
  exact k.nx _ H1 F1 _ m1 p g ((S.go g).set r hl)
theorem x1_setD {i : Nat} {x : Str} (he : XD X F0 e ρ m d m') (h : A.nx (ρ.set i (some d)) m') (hN : X.N.Nodup) (hi : X.N[i]? = some x := by rfl) (hx : Loc X.env.scope x := by first | exact Or.inl rfl | exact Or.inr rfl)
    (hs : swapsWith e (some (.Name x pos')) pos.line X.env = pure false := by rfl) (hf : X.fn x = true ∨ X.env.scope.names.lookup x = some .local := by first | exact .inl rfl | exact .inr rfl) :
    X1 X F0 (.Assign [.Name x pos'] e pos) ρ m A := x1_set (he.xe h) hN hi hx hs hf
theorem x1_ret (he : XE X F0 e ρ m A.rt) : X1 X F0 (.Return (some e) pos) ρ m A := .mk fun σ H F S E k => by
  refine wS_of (ps_ret pe_w) ?_
  refine he.run σ H F S _ fun v H1 F1 d m1 p g r => k.rt v H1 F1 d m1 p g r
theorem x1_retD (he : XD X F0 e ρ m d m') (h : A.rt d m') : X1 X F0 (.Return (some e) pos) ρ m A := x1_ret (he.xe h)
theorem x1_retN (h : A.rt .non m) : X1 X F0 (.Return none pos) ρ m A := .mk fun σ H F S E k => wS_of ps_retN (k.rt .non H F .non m h (Go.refl S.std) .non)
theorem x1_pass (h : A.nx ρ m) : X1 X F0 (.Pass pos) ρ m A := .mk fun σ H F S E k => wS_of ps_pass (k.nx σ H F ρ m h (Go.refl S.std) S)
theorem x1_brk (h : A.bk ρ m) : X1 X F0 (.Break pos) ρ m A := .mk fun σ H F S E k => wS_of ps_break (k.bk σ H F ρ m h (Go.refl S.std) S)
theorem x1_cont (h : A.ct ρ m) : X1 X F0 (.Continue pos) ρ m A := .mk fun σ H F S E k => wS_of ps_continue (k.ct σ H F ρ m h (Go.refl S.std) S)
theorem x1_doc {x : Str} {j : Nat} (h : A.nx ρ m) : X1 X F0 (.Expr (.Constant (.str x) j pos) pos') ρ m A := .mk fun σ H F S E k => wS_of ps_doc (k.nx σ H F ρ m h (Go.refl S.std) S)
theorem x1_expr (he : XE X F0 e ρ m fun _ m' => A.nx ρ m') (hs : swapsWith e none pos.line X.env = pure false := by rfl) : X1 X F0 (.Expr e pos) ρ m A := .mk fun σ H F S E k => by
  refine wS_of (ps_expr pe_w hs) ?_
  exact he.run σ H F S _ fun v H1 F1 d m1 p g r => k.nx σ H1 F1 ρ m1 p g (S.go g)
theorem x1_exprD (he : XD X F0 e ρ m d m') (h : A.nx ρ m') (hs : swapsWith e none pos.line X.env = pure false := by rfl) : X1 X F0 (.Expr e pos) ρ m A := x1_expr (he.xe h) hs
variable {k : Bool} {sa sb : List Stmt}
theorem x1_if (hc : XT X F0 c ρ m k m') (ha : k = true → XS X F0 sa ρ m' A) (hb : k = false → XS X F0 sb ρ m' A) : X1 X F0 (.If c sa sb pos) ρ m A := .mk fun σ H F S E kk => by
  refine wS_of (ps_if pt_w pss_w pss_w) ?_
  refine hc.run σ H F S _ fun H1 F1 g => ?_
  cases k with
  | true => exact iteT ((ha rfl).run σ H1 F1 (S.go g) E (kk.go g))
  | false => exact iteF ((hb rfl).run σ H1 F1 (S.go g) E (kk.go g))
/-- name op= e -/
def IpD (K : PySem.W.Frag) (t : TIp) (d1 d2 : D) (m : MS) (d3 : D) : Prop := ∀ x y H F, Std K m H F → Rp K F x d1 → Rp K F y d2 → ∀ Q : VK, (∀ v, Rp K F v d3 → Q v H) → t x y H Q
theorem ipd_I {K : PySem.W.Frag} {f : Int → Int → Int} {i j : Int} : IpD K (ipI f) (.int i) (.int j) m (.int (f i j)) := fun x y H F s r1 r2 Q q => by
  cases r1; cases r2
  exact ⟨i, j, rfl, rfl, q _ (.int _)⟩
theorem x1_aug {i : Nat} {x : Str} {op : Operator} {t : TIp} (ho : PIp X op t) (hd : ρ[i]? = some (some d1)) (he : XD X F0 e ρ m d2 m') (hi2 : IpD X.K t d1 d2 m' d3) (h : A.nx (ρ.set i (some d3)) m') (hN : X.N.Nodup) (hi : X.N[i]? = some x := by rfl)
    (hx : Loc X.env.scope x := by first | exact Or.inl rfl | exact Or.inr rfl) (hf : X.fn x = true ∨ X.env.scope.names.lookup x = some .local := by first | exact .inl rfl | exact .inr rfl) :
    X1 X F0 (.AugAssign (.Name x pos') op e pos) ρ m A := .mk fun σ H F S E k pins s I => by
  have hl := nx_of_inv I hi
  refine wS_of (ps_aug (i := i) hN hi hx pe_w ho hf) ?_ pins s I
  obtain ⟨v, e1, r⟩ := S.env i d1 hd
  refine ⟨v, e1, ?_⟩
  refine he.run σ H F S _ fun y H1 F1 g r2 => ?_
  refine hi2 v y H1 F1 g.std (r.up g.grow _) r2 _ fun z r3 => ?_
  exact k.nx _ H1 F1 _ m' h g ((S.go g).set r3 hl)
theorem x1_augAdd {i : Nat} {x : Str} {p q : Int} (hd : ρ[i]? = some (some (.int p))) (he : XD X F0 e ρ m (.int q) m') (h : A.nx (ρ.set i (some (.int (p + q)))) m') (hN : X.N.Nodup) (hi : X.N[i]? = some x := by rfl)
    (hx : Loc X.env.scope x := by first | exact Or.inl rfl | exact Or.inr rfl) (hf : X.fn x = true ∨ X.env.scope.names.lookup x = some .local := by first | exact .inl rfl | exact .inr rfl) :
    X1 X F0 (.AugAssign (.Name x pos') .Add e pos) ρ m A := x1_aug ip_add hd he ipd_I h hN hi hx hf
theorem x1_augSub {i : Nat} {x : Str} {p q : Int} (hd : ρ[i]? = some (some (.int p))) (he : XD X F0 e ρ m (.int q) m') (h : A.nx (ρ.set i (some (.int (p - q)))) m') (hN : X.N.Nodup) (hi : X.N[i]? = some x := by rfl)
    (hx : Loc X.env.scope x := by first | exact Or.inl rfl | exact Or.inr rfl) (hf : X.fn x = true ∨ X.env.scope.names.lookup x = some .local := by first | exact .inl rfl | exact .inr rfl) :
    X1 X F0 (.AugAssign (.Name x pos') .Sub e pos) ρ m A := x1_aug ip_sub hd he ipd_I h hN hi hx hf

/-! ### targets -/
variable {tgs : List Expr} {tg iter elt : Expr} {ds items : List D} {vs : List Nat}
theorem xg_name (i : Nat) {x : Str} (hi' : i ∈ vs) (hN : X.N.Nodup) (hi : X.N[i]? = some x := by rfl) (hx : Loc X.env.scope x := by first | exact Or.inl rfl | exact Or.inr rfl) (hf : X.fn x = true ∨ X.env.scope.names.lookup x = some .local := by first | exact .inl rfl | exact .inr rfl) :
    XG X F0 (.Name x pos) d ρ (ρ.set i (some d)) vs := .mk fun σ H F m v S r Q q pins s u I => by
  have hl := nx_of_inv I hi
  refine wG_of (pg_name (i := i) hN hi hx hf) ?_ pins s u I
  exact q _ (S.set r hl) (by simp) fun j hj => List.getElem?_set_ne fun e => hj (by rw [← e]; exact hi')
theorem xgs_nil : XGs X F0 [] [] ρ ρ vs := .mk fun σ H F m ws S r Q q pins s us I rv => by
  cases r; cases rv
  exact assignInOrder_nil ⟨σ, H, I, q σ S rfl fun _ _ => rfl⟩
theorem xgs_cons (h1 : XG X F0 tg d ρ ρ1 vs) (h2 : XGs X F0 tgs ds ρ1 ρ' vs) (hs : (assignEach (tg :: tgs) X.env).map (·.2) = assign tg X.env :: (assignEach tgs X.env).map (·.2) := by rfl) : XGs X F0 (tg :: tgs) (d :: ds) ρ ρ' vs := .mk fun σ H F m ws S r Q q pins s us I rv => by
  cases r with
  | cons r1 r2 =>
    cases rv with
    | cons v1 v2 =>
      rw [hs]
      refine assignInOrder_cons ?_
      refine thn (h1.run σ H F m _ S r1 (fun σ1 H1 => H1 = H ∧ StR X.K F0 σ1 H F ρ1 m ∧ σ1.length = σ.length ∧ ∀ j : Nat, j ∉ vs → σ1[j]? = σ[j]?) (fun σ1 S1 l1 k1 => ⟨rfl, S1, l1, k1⟩) pins s _ I v1) fun _ s1 ⟨σ1, H1, I1, eH, S1, l1, k1⟩ => ?_
      subst eH
      exact h2.run σ1 H1 F m _ S1 r2 Q (fun σ2 S2 l2 k2 => q σ2 S2 (l2.trans l1) fun j hj => (k2 j hj).trans (k1 j hj)) pins s1 _ I1 v2
theorem xg_tup {kk : Nat} (hc : X.calm = true) (h : XGs X F0 tgs ds ρ ρ' vs) (hn : (assignEach tgs X.env).length = ds.length := by rfl) (hst : (assignEach tgs X.env).findIdx? (·.1) = none := by rfl) : XG X F0 (.Tuple tgs kk pos) (.tup ds) ρ ρ' vs := .mk fun σ H F m v S r Q q pins s u I rv => by
  cases r with
  | @tup a xs _ h1 h2 =>
    cases rv
    obtain ⟨its, rv, ht, hz⟩ := I.tuple (Same.seqT S.std.toH h1)
    refine assign_Tuple_tuple (I.ok.hd hc) ht (by simp [hn, ← h2.length, rv.length]) hst fun h' hx => ?_
    have I1 : Inv X pins σ H { s with heap := h' } := I.kept (t' := s.toks) fun b o e => hx b o (Nat.ne_of_lt (Heap.lt_size e)) e
    exact h.run σ H F m xs S h2 Q q pins _ _ I1 (by simpa using rv)
/-- a, b = e -/
theorem x1_unpack {kk : Nat} {tpos : Pos} (he : XD X F0 e ρ m d m') (hg : XG X F0 (.Tuple tgs kk tpos) d ρ ρ' vs) (h : A.nx ρ' m') (hs : swapsWithSole [.Tuple tgs kk tpos] e pos.line X.env = pure false := by rfl) (hw : swappedStores [.Tuple tgs kk tpos] e X.env = pure none := by rfl)
    (h1 : (assignEach [.Tuple tgs kk tpos] X.env).map (·.2) = [assign (.Tuple tgs kk tpos) X.env] := by rfl) : X1 X F0 (.Assign [.Tuple tgs kk tpos] e pos) ρ m A := .mk fun σ H F S E k => by
  refine wS_of (ps_asg pe_w pg_w hs hw h1) ?_
  refine he.run σ H F S _ fun v H1 F1 g r => ?_
  exact hg.run σ H1 F1 m' v (S.go g) r _ fun σ' S' _ _ => k.nx σ' H1 F1 ρ' m' h g S'

/-! ### loops -/
variable {G : MS → Prop} {body : List Stmt}
theorem x1_for (hi : XI X F0 tg iter ρ m items m1 G) (Iv : Nat → Env1 → MS → Prop) (h0 : Iv 0 ρ m1) (hG : ∀ i ρ m, Iv i ρ m → G m)
    (step : ∀ (i : Nat) (d : D) ρ' m', items[i]? = some d → Iv i ρ' m' → ∃ ρ2 vs, XG X F0 tg d ρ' ρ2 vs ∧ XS X F0 body ρ2 m' { nx := Iv (i + 1), rt := A.rt, bk := A.nx, ct := Iv (i + 1) }) (hd : ∀ ρ' m', Iv items.length ρ' m' → A.nx ρ' m')
    (hp : PassesOwn (model X.prog X.w) X.A X.env X.xe := by exact PassesOwn.never) (hc : X.calm = true := by rfl) (hs : ∀ x, foldedSetIterable iter X.env x = pure x := by intro _; rfl) : X1 X F0 (.For tg iter body [] pos) ρ m A := .mk fun σ H F S E k => by
  refine wS_of (ps_for hp hc pi_w pg_w pss_w hs) ?_
  refine hi.run σ H F S _ fun J H1 F1 g1 wd => ?_
  refine ⟨fun i n σ' H' => n = items.length - i ∧ i ≤ items.length ∧ ∃ F' ρ' m', Iv i ρ' m' ∧ Go X.K m1 H1 F1 m' H' F' ∧ StR X.K F0 σ' H' F' ρ' m', ⟨items.length, by simp, Nat.zero_le _, F1, ρ, m1, h0, Go.refl g1.std, S.go g1⟩, ?_⟩
  rintro i n σ' H' ⟨rfl, hi, F', ρ', m', iv, g2, S'⟩
  by_cases hlt : i < items.length
  · refine .inr ⟨wd.goes i H' F' m' hlt g2.grow S'.std (hG i _ _ iv), fun σ2 H2 => ∃ F2 ρ2 m2, Iv (i + 1) ρ2 m2 ∧ Go X.K m1 H1 F1 m2 H2 F2 ∧ StR X.K F0 σ2 H2 F2 ρ2 m2, fun σ2 H2 q => ⟨items.length - (i + 1), by omega, rfl, hlt, q⟩, fun x H2 y => ?_⟩
    obtain ⟨F2, g3, r⟩ := wd.yields i H' F' m' x H2 items[i] (List.getElem?_eq_getElem hlt) g2.grow S'.std (hG i _ _ iv) y
    obtain ⟨ρ2, vs, xg, xb⟩ := step i items[i] ρ' m' (List.getElem?_eq_getElem hlt) iv
    refine xg.run σ' H2 F2 m' x (S'.go g3) r _ fun σ3 S3 _ _ => ?_
    refine xb.run σ3 H2 F2 S3 _ ⟨?_, ?_, ?_, ?_⟩
    · exact fun σ4 H4 F4 ρ4 m4 p g4 S4 => ⟨F4, ρ4, m4, p, (g2.trans g3).trans g4, S4⟩
    · exact fun v H4 F4 d m4 p g4 r4 => k.rt v H4 F4 d m4 p (((g1.trans g2).trans g3).trans g4) r4
    · exact fun σ4 H4 F4 ρ4 m4 p g4 S4 => k.nx σ4 H4 F4 ρ4 m4 p (((g1.trans g2).trans g3).trans g4) S4
    · exact fun σ4 H4 F4 ρ4 m4 p g4 S4 => ⟨F4, ρ4, m4, p, (g2.trans g3).trans g4, S4⟩
  · have e1 : i = items.length := by omega
    subst e1
    exact .inl ⟨wd.stops H' F' m' g2.grow S'.std (hG _ _ _ iv), k.nx σ' H' F' ρ' m' (hd ρ' m' iv) (g1.trans g2) S'⟩
/-- what is walked: a list, a tuple, the script, a range -/
theorem xi_list (h : XD X F0 iter ρ m (.lst items) m1) : XI X F0 tg iter ρ m items m1 fun _ => True := .mk fun σ H F S R q => by
  refine wI_of (pi_list pe_w) ?_
  refine h.run σ H F S _ fun v H1 F1 g1 r1 => ?_
  cases r1 with
  | @lst a xs _ h1 h2 =>
    refine ⟨a, rfl, ⟨xs, .inl (.inl (g1.std.at h1))⟩, q _ H1 F1 g1 ⟨fun i H F m hi s sd _ => ?_, fun H F m s sd _ => ?_, fun i H F m x H' d hd s sd _ y => ?_⟩⟩
    · rw [← h2.length] at hi
      exact ⟨xs, xs[i], .inl (.inl (sd.at (s _ _ h1))), by simp [hi]⟩
    · exact ⟨xs, .inl (.inl (sd.at (s _ _ h1))), by rw [h2.length]; exact Nat.le_refl _⟩
    · obtain ⟨rfl, y⟩ := y
      have e := y xs (.inl (.inl (sd.at (s _ _ h1))))
      obtain ⟨v, e2, r⟩ := h2.get hd
      rw [e] at e2; cases e2
      exact ⟨F, Go.refl sd, r.up s _⟩
theorem xi_fls (h : XD X F0 iter ρ m (.fls items) m1) : XI X F0 tg iter ρ m items m1 fun _ => True := .mk fun σ H F S R q => by
  refine wI_of (pi_list pe_w) ?_
  refine h.run σ H F S _ fun v H1 F1 g1 r1 => ?_
  cases r1 with
  | @fls a xs _ h1 h2 =>
    refine ⟨a, rfl, ⟨xs, g1.std.toH.seq h1⟩, q _ H1 F1 g1 ⟨fun i H F m hi s sd _ => ?_, fun H F m s sd _ => ?_, fun i H F m x H' d hd s sd _ y => ?_⟩⟩
    · rw [← h2.length] at hi
      exact ⟨xs, xs[i], sd.toH.seq (s.seq h1), by simp [hi]⟩
    · exact ⟨xs, sd.toH.seq (s.seq h1), by rw [h2.length]; exact Nat.le_refl _⟩
    · obtain ⟨rfl, y⟩ := y
      have e := y xs (sd.toH.seq (s.seq h1))
      obtain ⟨v, e2, r⟩ := h2.get hd
      rw [e] at e2; cases e2
      exact ⟨F, Go.refl sd, r.up s _⟩
theorem xi_tup (h : XD X F0 iter ρ m (.tup items) m1) : XI X F0 tg iter ρ m items m1 fun _ => True := .mk fun σ H F S R q => by
  refine wI_of (pi_tup pe_w) ?_
  refine h.run σ H F S _ fun v H1 F1 g1 r1 => ?_
  cases r1 with
  | @tup a xs _ h1 h2 =>
    refine ⟨a, rfl, ⟨xs, Same.seqT g1.std.toH h1⟩, q _ H1 F1 g1 ⟨fun i H F m hi s sd _ => ?_, fun H F m s sd _ => ?_, fun i H F m x H' d hd s sd _ y => ?_⟩⟩
    · rw [← h2.length] at hi
      exact ⟨xs, xs[i], Same.seqT sd.toH (Same.seqT s h1), by simp [hi]⟩
    · exact ⟨xs, Same.seqT sd.toH (Same.seqT s h1), by rw [h2.length]; exact Nat.le_refl _⟩
    · obtain ⟨rfl, y⟩ := y
      have e := y xs (Same.seqT sd.toH (Same.seqT s h1))
      obtain ⟨v, e2, r⟩ := h2.get hd
      rw [e] at e2; cases e2
      exact ⟨F, Go.refl sd, r.up s _⟩
def rng (lo : Int) (n : Nat) : List D := (List.range n).map fun i => D.int (lo + (i : Nat))
theorem rng_get {lo : Int} {n i : Nat} {d : D} (h : (rng lo n)[i]? = some d) : i < n ∧ d = .int (lo + (i : Nat)) := by
  unfold rng at h
  rw [List.getElem?_map] at h
  by_cases hi : i < n
  · rw [List.getElem?_range hi] at h
    exact ⟨hi, (Option.some.inj h).symm⟩
  · rw [List.getElem?_eq_none (by simpa using hi)] at h
    cases h
theorem rng_len {lo : Int} {n : Nat} : (rng lo n).length = n := by simp [rng]
theorem walk_rng {K : PySem.W.Frag} {F1 : Hp} {lo : Int} {n : Nat} : WalkD K F1 (Itr lo n) (rng lo n) fun _ => True := ⟨fun i H F m hi s sd _ => by rw [rng_len] at hi; exact hi, fun H F m s sd _ => by rw [rng_len]; exact Nat.le_refl _, fun i H F m x H' d hd s sd _ y => by
  obtain ⟨rfl, rfl⟩ := y
  obtain ⟨hi, rfl⟩ := rng_get hd
  exact ⟨F, Go.refl sd, .int _⟩⟩
theorem xi_range1 {p : Pos} {j : Int} (hm : X.mg "range" = none) (h : XD X F0 a ρ m (.int j) m1) (h1 : -(2 ^ 62) ≤ j) (h2 : j < 2 ^ 62) (hg : Gl X "range" := by rfl) (hs : starEach [a] X.env = (false, eval a X.env) :: starEach [] X.env := by rfl) : XI X F0 tg (.Call (.Name "range" p) [a] [] pos) ρ m (rng 0 j.toNat) m1 fun _ => True := .mk fun σ H F S R q => by
  refine wI_of (pi_range1 hg hm (pa_cons pe_w pa_nil hs) hs) ?_
  refine h.run σ H F S _ fun v H1 F1 g1 r1 => ?_
  cases r1
  exact ⟨j, rfl, h1, h2, q _ H1 F1 g1 walk_rng⟩
theorem xi_range2 {p : Pos} {i j : Int} (hm : X.mg "range" = none) (ha : XD X F0 a ρ m (.int i) m1) (hb : XD X F0 b ρ m1 (.int j) m2) (hz : -(2 ^ 62) ≤ i ∧ i < 2 ^ 62 ∧ -(2 ^ 62) ≤ j ∧ j < 2 ^ 62) (hg : Gl X "range" := by rfl) (hs : starEach [a, b] X.env = (false, eval a X.env) :: starEach [b] X.env := by rfl) (hs2 : starEach [b] X.env = (false, eval b X.env) :: starEach [] X.env := by rfl) :
    XI X F0 tg (.Call (.Name "range" p) [a, b] [] pos) ρ m (rng i (j - i).toNat) m2 fun _ => True := .mk fun σ H F S R q => by
  refine wI_of (pi_range2 hg hm (pa_cons pe_w (pa_cons pe_w pa_nil hs2) hs) (by rw [hs, hs2]; rfl) hs2) ?_
  refine ha.run σ H F S _ fun v H1 F1 g1 r1 => hb.run σ H1 F1 (S.go g1) _ fun v2 H2 F2 g2 r2 => ?_
  cases r1; cases r2
  exact ⟨i, j, rfl, hz, q _ H2 F2 (g1.trans g2) walk_rng⟩
def zipD (xs ys : List D) : List D := (xs.zip ys).map fun p => .tup [p.1, p.2]
theorem zipD_len (xs ys : List D) : (zipD xs ys).length = min xs.length ys.length := by simp [zipD]
theorem zipD_get {xs ys : List D} {i : Nat} {d : D} (h : (zipD xs ys)[i]? = some d) : ∃ x y, xs[i]? = some x ∧ ys[i]? = some y ∧ d = .tup [x, y] := by
  unfold zipD at h
  rw [List.getElem?_map] at h
  cases e : (xs.zip ys)[i]? with
  | none => rw [e] at h; cases h
  | some p =>
    rw [e] at h
    obtain ⟨e1, e2⟩ := List.getElem?_zip_eq_some.mp e
    exact ⟨_, _, e1, e2, (Option.some.inj h).symm⟩
/-- zip of two tuples, of two lists -/
theorem xi_zipT {p tpos : Pos} {kk : Nat} {xs ys : List D} (hm : X.mg "zip" = none) (ha : XD X F0 a ρ m (.tup xs) m1) (hb : XD X F0 b ρ m1 (.tup ys) m2) (hg : Gl X "zip" := by rfl) (hs : starEach [a, b] X.env = (false, eval a X.env) :: starEach [b] X.env := by rfl) (hs2 : starEach [b] X.env = (false, eval b X.env) :: starEach [] X.env := by rfl)
    (hpl : (backTo pos (starEach [b] X.env)).any (·.1) = false := by rfl) : XI X F0 (.Tuple tgs kk tpos) (.Call (.Name "zip" p) [a, b] [] pos) ρ m (zipD xs ys) m2 fun _ => True := .mk fun σ H F S R q => by
  refine wI_of (RZ.pi_zipA hg hm (pa_cons pe_w (pa_cons pe_w pa_nil hs2) hs) hs hpl) ?_
  refine ha.run σ H F S _ fun v H1 F1 g1 r1 => hb.run σ H1 F1 (S.go g1) _ fun v2 H2 F2 g2 r2 => ?_
  cases r1 with
  | @tup p1 us _ h1 h2 =>
    cases r2 with
    | @tup p2 ws _ h3 h4 =>
      have h1' := Same.seqT g2.grow h1
      have h2' := h2.up g2.grow
      refine ⟨p1, p2, us, ws, rfl, .inr ⟨Same.seqT g2.std.toH h1', Same.seqT g2.std.toH h3, q _ H2 F2 (g1.trans g2) ⟨fun i H F m hi s sd _ => ?_, fun H F m s sd _ => ?_, fun i H F m x H' d hd s sd _ y => ?_⟩⟩⟩
      · rw [zipD_len] at hi
        have e1 := h2.length
        have e2 := h4.length
        exact ⟨us, ws, us[i]'(by omega), ws[i]'(by omega), Same.seqT sd.toH (Same.seqT s h1'), Same.seqT sd.toH (Same.seqT s h3), by simp [show i < us.length by omega], by simp [show i < ws.length by omega]⟩
      · refine ⟨us, ws, Same.seqT sd.toH (Same.seqT s h1'), Same.seqT sd.toH (Same.seqT s h3), ?_⟩
        rw [zipD_len, h2.length, h4.length]; omega
      · obtain ⟨T, x1, x2, rfl, hT, rfl, f1, f2⟩ := y
        obtain ⟨dx, dy, e1, e2, rfl⟩ := zipD_get hd
        obtain ⟨v1, q1, r1⟩ := h2'.get e1
        obtain ⟨v2, q2, r2⟩ := h4.get e2
        have z1 := f1 _ (Same.seqT sd.toH (Same.seqT s h1'))
        have z2 := f2 _ (Same.seqT sd.toH (Same.seqT s h3))
        rw [q1] at z1; cases z1
        rw [q2] at z2; cases z2
        exact ⟨_, Go.new sd hT, rp_newTup sd hT (.cons (r1.up s _) (.one (r2.up s _)))⟩
theorem xi_zipL {p tpos : Pos} {kk : Nat} {xs ys : List D} (hm : X.mg "zip" = none) (ha : XD X F0 a ρ m (.lst xs) m1) (hb : XD X F0 b ρ m1 (.lst ys) m2) (hg : Gl X "zip" := by rfl) (hs : starEach [a, b] X.env = (false, eval a X.env) :: starEach [b] X.env := by rfl) (hs2 : starEach [b] X.env = (false, eval b X.env) :: starEach [] X.env := by rfl)
    (hpl : (backTo pos (starEach [b] X.env)).any (·.1) = false := by rfl) : XI X F0 (.Tuple tgs kk tpos) (.Call (.Name "zip" p) [a, b] [] pos) ρ m (zipD xs ys) m2 fun _ => True := .mk fun σ H F S R q => by
  refine wI_of (RZ.pi_zipA hg hm (pa_cons pe_w (pa_cons pe_w pa_nil hs2) hs) hs hpl) ?_
  refine ha.run σ H F S _ fun v H1 F1 g1 r1 => hb.run σ H1 F1 (S.go g1) _ fun v2 H2 F2 g2 r2 => ?_
  cases r1 with
  | @lst p1 us _ h1 h2 =>
    cases r2 with
    | @lst p2 ws _ h3 h4 =>
      have h1' := g2.grow _ _ h1
      have h2' := h2.up g2.grow
      have L : ∀ {F H : Hp} {m : MS} {p : Addr} {us : List V}, Std X.K m H F → F p = some (.lst us) → SqL X.K H p us := fun sd h => .inl (.inl (sd.at h))
      refine ⟨p1, p2, us, ws, rfl, .inl ⟨L g2.std h1', L g2.std h3, q _ H2 F2 (g1.trans g2) ⟨fun i H F m hi s sd _ => ?_, fun H F m s sd _ => ?_, fun i H F m x H' d hd s sd _ y => ?_⟩⟩⟩
      · rw [zipD_len] at hi
        have e1 := h2.length
        have e2 := h4.length
        exact ⟨us, ws, us[i]'(by omega), ws[i]'(by omega), L sd (s _ _ h1'), L sd (s _ _ h3), by simp [show i < us.length by omega], by simp [show i < ws.length by omega]⟩
      · refine ⟨us, ws, L sd (s _ _ h1'), L sd (s _ _ h3), ?_⟩
        rw [zipD_len, h2.length, h4.length]; omega
      · obtain ⟨T, x1, x2, rfl, hT, rfl, f1, f2⟩ := y
        obtain ⟨dx, dy, e1, e2, rfl⟩ := zipD_get hd
        obtain ⟨v1, q1, r1⟩ := h2'.get e1
        obtain ⟨v2, q2, r2⟩ := h4.get e2
        have z1 := f1 _ (L sd (s _ _ h1'))
        have z2 := f2 _ (L sd (s _ _ h3))
        rw [q1] at z1; cases z1
        rw [q2] at z2; cases z2
        exact ⟨_, Go.new sd hT, rp_newTup sd hT (.cons (r1.up s _) (.one (r2.up s _)))⟩
theorem XI.to {items' : List D} (h : XI X F0 tg iter ρ m items m1 G) (e : items = items') : XI X F0 tg iter ρ m items' m1 G := by subst e; exact h
end
end Mu

set_option Elab.async false
set_option linter.all false
set_option maxRecDepth 100000
set_option maxHeartbeats 4000000
namespace Mu
open PySem PySem.Spec L2
open PyProof.Rows hiding St
/-! ### comprehensions -/
def wipeR (ρ : Env1) : List Nat → Env1
  | [] => ρ
  | v :: vs => (wipeR ρ vs).set v none
theorem wipeR_some {ρ : Env1} {i : Nat} {x : D} : ∀ {vs : List Nat}, (wipeR ρ vs)[i]? = some (some x) → ρ[i]? = some (some x) ∧ i ∉ vs
  | [], h => ⟨h, by simp⟩
  | v :: vs, h => by
    unfold wipeR at h
    by_cases hi : v = i
    · subst hi
      by_cases hv : v < (wipeR ρ vs).length
      · rw [List.getElem?_set_self hv] at h; cases h
      · rw [List.getElem?_eq_none (by simpa using hv)] at h; cases h
    · rw [List.getElem?_set_ne hi] at h
      obtain ⟨h1, h2⟩ := wipeR_some h
      exact ⟨h1, by simp only [List.mem_cons, not_or]; exact ⟨fun e => hi e.symm, h2⟩⟩
theorem wipe_eq {σ σ' : L2.St} : ∀ {vs : List Nat}, σ'.length = σ.length → (∀ j : Nat, j ∉ vs → σ'[j]? = σ[j]?) → wipe σ' vs = wipe σ vs := fun {vs} hl h => by
  apply List.ext_getElem?
  intro i
  by_cases hi : i ∈ vs
  · have one : ∀ (τ : L2.St) (us : List Nat), i ∈ us → (wipe τ us)[i]? = if i < τ.length then some none else none := by
      intro τ us
      induction us with
      | nil => intro hu; cases hu
      | cons u us ih =>
        intro hu
        unfold wipe
        by_cases e : u = i
        · subst e
          by_cases hl : u < τ.length
          · rw [List.getElem?_set_self (by rw [wipe_length]; exact hl), if_pos hl]
          · rw [List.getElem?_eq_none (by rw [List.length_set, wipe_length]; omega), if_neg hl]
        · rw [List.getElem?_set_ne e]
          rcases List.mem_cons.mp hu with q | q
          · exact absurd q.symm e
          · exact ih q
    rw [one σ' vs hi, one σ vs hi, hl]
  · rw [wipe_out hi, wipe_out hi]
    exact h i hi
theorem StR.wipe {K : PySem.W.Frag} {F0 : Hp} {σ : L2.St} {H F : Hp} {ρ : Env1} {m : MS} (S : StR K F0 σ H F ρ m) (vs : List Nat) : StR K F0 (L2.wipe σ vs) H F (wipeR ρ vs) m :=
  ⟨S.std, fun i d e => by
    obtain ⟨e1, e2⟩ := wipeR_some e
    obtain ⟨v, a, b⟩ := S.env i d e1
    exact ⟨v, by rw [wipe_out e2]; exact a, b⟩, S.old⟩
theorem Go.patch {K : PySem.W.Frag} {m m' : MS} {H F H' F' : Hp} {L : Addr} {o : HO} (g : Go K m H F m' H' F') (h1 : H L = none) (h2 : m' L = none) (h3 : F' L = none) : Go K m H F m' (upd H' L o) F' := by
  refine ⟨fun a u e => ?_, g.grow, g.fresh, fun a ha => ?_, ⟨fun a u e => ?_, fun q c e => ?_⟩⟩
  · have ne : a ≠ L := ne_of_none (of_fz e).2 h1
    obtain ⟨e1, e2⟩ := of_fz (g.same a u e)
    exact fz_of e1 (by rw [upd_ne ne]; exact e2)
  · by_cases e : a = L
    · subst e; rw [upd_same]; exact fun z => nomatch z
    · rw [upd_ne e]; exact g.kept a ha
  · have ne : a ≠ L := ne_of_none e h3
    obtain ⟨e1, e2⟩ := of_fz (g.std.sub a u e)
    exact fz_of e1 (by rw [upd_ne ne]; exact e2)
  · refine (g.std.cells q c e).upd_ ?_
    rintro rfl
    rw [h2] at e; cases e
/-- a junk object becomes data -/
theorem Go.adopt {K : PySem.W.Frag} {m m' : MS} {H F H' F' : Hp} {L : Addr} {o : HO} (g : Go K m H F m' H' F') (h1 : H L = none) (h2 : m' L = none) (h3 : F' L = none) (h4 : H' L = some o) : Go K m H F m' H' (upd F' L o) := by
  have up : Same F' (upd F' L o) := fun a u e => by rw [upd_ne (ne_of_none e h3)]; exact e
  refine ⟨g.same, g.grow.trans up, fun a ha => ?_, g.kept, ⟨fun a u e => ?_, fun q c e => (g.std.cells q c e).up up rfl⟩⟩
  · by_cases e : a = L
    · subst e; exact .inr (.inl h1)
    · rw [upd_ne e] at ha; exact g.fresh a ha
  · by_cases e' : a = L
    · subst e'; rw [upd_same] at e; cases e; exact fz_of h2 h4
    · rw [upd_ne e'] at e; exact g.std.sub a u e
/-- a junk object becomes a cell -/
theorem Go.adoptC {K : PySem.W.Frag} {m m' : MS} {H F H' F' : Hp} {L : Addr} {vs : List V} {acc : List D} (g : Go K m H F m' H' F') (h1 : H L = none) (h2 : m' L = none) (h3 : F' L = none) (h4 : H' L = some (.lst vs)) (h5 : Rps K F' vs acc) : Go K m H F (mset m' L (.lst acc)) H' F' := by
  refine ⟨fun a u e => ?_, g.grow, g.fresh, g.kept, ⟨fun a u e => ?_, fun q c e => ?_⟩⟩
  · have ne : a ≠ L := ne_of_none (of_fz e).2 h1
    obtain ⟨e1, e2⟩ := of_fz (g.same a u e)
    exact fz_of (by rw [mset_ne ne]; exact e1) e2
  · have ne : a ≠ L := ne_of_none e h3
    obtain ⟨e1, e2⟩ := of_fz (g.std.sub a u e)
    exact fz_of (by rw [mset_ne ne]; exact e1) e2
  · by_cases e' : q = L
    · subst e'; rw [mset_same] at e; cases e; exact ⟨vs, h4, h5⟩
    · rw [mset_ne e'] at e; exact g.std.cells q c e
section
variable (X : Cx) (F0 : Hp)
def LcTailE (scope : Scope) (elt : Expr) (ρ2 : Env1) (m : MS) (o : Option D → MS → Prop) : List Expr → Prop
  | [] => ∀ s H C cl fp, XE (X.blk s H scope (compEnvC scope cl C X.env) fp) F0 elt ρ2 m fun d m' => o (some d) m'
  | [c] => ∃ b mc, (∀ s H C cl fp, XT (X.blk s H scope (compEnvC scope cl C X.env) fp) F0 c ρ2 m b mc) ∧
      (b = true → ∀ s H C cl fp, XE (X.blk s H scope (compEnvC scope cl C X.env) fp) F0 elt ρ2 mc fun d m' => o (some d) m') ∧ (b = false → o none mc)
  | _ => False
def LcStepE (scope : Scope) (tg : Expr) (ifs : List Expr) (elt : Expr) (ρw : Env1) (vs : List Nat) (d : D) (m : MS) (o : Option D → MS → Prop) : Prop :=
  ∃ ρ2, (∀ s H C cl fp, XG (X.blk s H scope (compEnvC scope cl C X.env) fp) F0 tg d ρw ρ2 vs) ∧ LcTailE X F0 scope elt ρ2 m o ifs
def bG (scope : Scope) (tg : Expr) : TG := fun v σ H Q => ∀ (s0 : Shared) (H0 : Hp) (C : Addr) (cl : List (Str × Addr)) (fp : List Addr), wG (X.blk s0 H0 scope (compEnvC scope cl C X.env) fp) tg v σ H Q
def bE (scope : Scope) (e : Expr) : TE := fun σ H Q => ∀ (s0 : Shared) (H0 : Hp) (C : Addr) (cl : List (Str × Addr)) (fp : List Addr), wE (X.blk s0 H0 scope (compEnvC scope cl C X.env) fp) e σ H Q
def bT (scope : Scope) (e : Expr) : TT := fun σ H Q => ∀ (s0 : Shared) (H0 : Hp) (C : Addr) (cl : List (Str × Addr)) (fp : List Addr), wT (X.blk s0 H0 scope (compEnvC scope cl C X.env) fp) e σ H Q
def bTs (scope : Scope) : List Expr → TT
  | [] => tYes
  | [c] => bT X scope c
  | _ => fun _ _ _ => False
end
section
variable {X : Cx} {F0 : Hp} {e a b c : Expr} {es : List Expr} {ρ ρ' ρ1 : Env1} {m m' m1 m2 m3 : MS} {d d1 d2 d3 : D} {pos : Pos} {P : D → MS → Prop} {tg iter elt : Expr} {ifs : List Expr} {items : List D} {G : MS → Prop} {scope : Scope} {own : List (Str × Nat)} {A : AEnds}
theorem bG_pg (s0 : Shared) (H0 : Hp) (C : Addr) (cl : List (Str × Addr)) (fp : List Addr) : PG (X.blk s0 H0 scope (compEnvC scope cl C X.env) fp) tg (bG X scope tg) := ⟨fun pins s σ H v u Q I r h => h s0 H0 C cl fp pins s u I r⟩
theorem bE_pe (s0 : Shared) (H0 : Hp) (C : Addr) (cl : List (Str × Addr)) (fp : List Addr) : PE (X.blk s0 H0 scope (compEnvC scope cl C X.env) fp) e (bE X scope e) := ⟨fun pins s σ H Q I h => h s0 H0 C cl fp pins s I⟩
theorem bT_pt (s0 : Shared) (H0 : Hp) (C : Addr) (cl : List (Str × Addr)) (fp : List Addr) : PT (X.blk s0 H0 scope (compEnvC scope cl C X.env) fp) e (bT X scope e) := ⟨fun pins s σ H Q I h => h s0 H0 C cl fp pins s I⟩
theorem bTs_pts (hi : ifs.length ≤ 1) (s0 : Shared) (H0 : Hp) (C : Addr) (cl : List (Str × Addr)) (fp : List Addr) : PTs (X.blk s0 H0 scope (compEnvC scope cl C X.env) fp) ifs (bTs X scope ifs) := by
  match ifs, hi with
  | [], _ => exact pts_nil
  | [c], _ => exact pts_one (bT_pt s0 H0 C cl fp)
def accD (o : Nat → Option D) (n : Nat) : List D := (List.range n).filterMap o
theorem accD_succ (o : Nat → Option D) (n : Nat) : accD o (n + 1) = accD o n ++ (match o n with | none => [] | some d => [d]) := by
  unfold accD
  rw [List.range_succ, List.filterMap_append]
  congr 1
  cases h : o n <;> simp [h]
theorem accD_len (o : Nat → Option D) (n : Nat) : (accD o n).length ≤ n := by
  have := List.length_filterMap_le o (List.range n)
  rw [List.length_range] at this
  exact this
theorem lc_readT {ti : TI} {σ : L2.St} {H F : Hp} (hi : ∀ R : It → Hp → Prop, (∀ J H' F', Go X.K m H F m1 H' F' → WalkD X.K F' J items G → R J H') → ti σ H R) (Iv : Nat → List D → MS → Prop) (h0 : Iv 0 [] m1) (hG : ∀ i acc mi, i ≤ items.length → Iv i acc mi → G mi) (hz : items.length ≤ 100000)
    (step : ∀ (i : Nat) (d : D) acc mi, items[i]? = some d → Iv i acc mi → LcStepE X F0 scope tg ifs elt (wipeR ρ (own.map (·.2))) (own.map (·.2)) d mi fun o m' => Iv (i + 1) (acc ++ o.toList) m')
    (S : StR X.K F0 σ H F ρ m) {Q : VK} (q : ∀ L vs H' F' acc m', Iv items.length acc m' → Go X.K m H F m' H' F' → H L = none → m' L = none → F' L = none → H' L = some (.lst vs) → Rps X.K F' vs acc → Q (.ref L) H') :
    tLc ti (bG X scope tg) (bTs X scope ifs) (bE X scope elt) (own.map (·.2)) σ H Q := by
  refine hi _ fun J H1 F1 g1 wd => fun L hL => ?_
  have S1 := S.go g1
  refine ⟨fun i n H' => n = items.length - i ∧ i ≤ items.length ∧ ∃ F' vs acc mi, Iv i acc mi ∧ acc.length ≤ i ∧ Go X.K m1 H1 F1 mi H' F' ∧ F' L = none ∧ mi L = none ∧ H' L = some (.lst vs) ∧ Rps X.K F' vs acc, ⟨items.length, by simp, Nat.zero_le _, F1, [], [], m1, h0, Nat.le_refl _, Go.junk g1.std hL, g1.std.freeF hL, g1.std.free hL, upd_same, .nil⟩, ?_⟩
  rintro i n H' ⟨rfl, hile, F', vs, acc, mi, iv, hal, g2, hFL, hmL, hHL, hacc⟩
  by_cases hlt : i < items.length
  · refine .inr ⟨wd.goes i H' F' mi hlt g2.grow g2.std (hG i acc mi hile iv), fun H2 => ∃ F2 vs2 acc2 m2, Iv (i + 1) acc2 m2 ∧ acc2.length ≤ i + 1 ∧ Go X.K m1 H1 F1 m2 H2 F2 ∧ F2 L = none ∧ m2 L = none ∧ H2 L = some (.lst vs2) ∧ Rps X.K F2 vs2 acc2, fun H2 q2 => ⟨items.length - (i + 1), by omega, rfl, hlt, q2⟩, fun x H2 y => ?_⟩
    obtain ⟨F2, g3, r⟩ := wd.yields i H' F' mi x H2 items[i] (List.getElem?_eq_getElem hlt) g2.grow g2.std (hG i acc mi hile iv) y
    obtain ⟨ρ2, xg, xt⟩ := step i items[i] acc mi (List.getElem?_eq_getElem hlt) iv
    -- L through a step
    have keep : ∀ {ma mb : MS} {Ha Fa Hb Fb : Hp} {us : List V}, Go X.K ma Ha Fa mb Hb Fb → Fa L = none → ma L = none → Ha L = some (.lst us) → Fb L = none ∧ mb L = none ∧ Hb L = some (.lst us) := fun {ma mb Ha Fa Hb Fb us} g hf hm hh => by
      obtain ⟨e1, e2⟩ := of_fz (g.same L _ (fz_of hm hh))
      refine ⟨?_, e1, e2⟩
      cases e : Fb L with
      | none => rfl
      | some u =>
        rcases g.fresh L (by rw [e]; exact fun z => nomatch z) with z | z | z
        · exact absurd hf z
        · rw [hh] at z; cases z
        · exact absurd hm z
    obtain ⟨k1, k2, k3⟩ := keep g3 hFL hmL hHL
    have S2 : StR X.K F0 (wipe σ (own.map (·.2))) H2 F2 (wipeR ρ (own.map (·.2))) mi := (S.wipe _).go ((g1.trans g2).trans g3)
    intro s0 H0 C cl fp
    refine (xg s0 H0 C cl fp).run _ H2 F2 mi x S2 r _ fun σ2 S3 l3 e3 => ⟨?_, ?_⟩
    · rw [wipe_eq (vs := own.map (·.2)) l3 e3]
      exact wipe_eq (wipe_length σ _) fun j hj => wipe_out hj
    -- the element
    have elem : ∀ {mc : MS} {H3 F3 : Hp}, (∀ s H C cl fp, XE (X.blk s H scope (compEnvC scope cl C X.env) fp) F0 elt ρ2 mc fun d m' => Iv (i + 1) (acc ++ (some d).toList) m') → Go X.K mi H2 F2 mc H3 F3 →
        bE X scope elt σ2 H3 fun y H4 => ∃ ac, H4 L = some (.lst ac) ∧ ac.length < sizeLine ∧ ∃ F2 vs2 acc2 m2, Iv (i + 1) acc2 m2 ∧ acc2.length ≤ i + 1 ∧ Go X.K m1 H1 F1 m2 (upd H4 L (.lst (ac ++ [y]))) F2 ∧ F2 L = none ∧ m2 L = none ∧ (upd H4 L (.lst (ac ++ [y]))) L = some (.lst vs2) ∧ Rps X.K F2 vs2 acc2 := fun {mc H3 F3} xe g4 s1 H01 C1 cl1 fp1 => by
      obtain ⟨c1, c2, c3⟩ := keep g4 k1 k2 k3
      refine (xe s1 H01 C1 cl1 fp1).run σ2 H3 F3 (S3.go g4) _ fun y H4 F4 dd m4 p4 g5 r5 => ?_
      obtain ⟨b1, b2, b3⟩ := keep g5 c1 c2 c3
      refine ⟨vs, b3, ?_, F4, vs ++ [y], acc ++ [dd], m4, p4, ?_, ?_, b1, b2, upd_same, ?_⟩
      · rw [hacc.length]
        exact Nat.lt_of_le_of_lt (show acc.length ≤ 100000 by omega) (by decide)
      · rw [List.length_append]; show acc.length + 1 ≤ i + 1; omega
      · exact (((g2.trans g3).trans g4).trans g5).patch hL b2 b1
      · exact (hacc.up (((g3.trans g4).trans g5).grow)).append (.one r5)
    match ifs, xt with
    | [], xt =>
      simp only [bTs, tYes]
      rw [if_pos trivial]
      exact elem xt (Go.refl S3.std)
    | [c], xt =>
      obtain ⟨bb, mc, xc, ht, hf⟩ := xt
      show bT X scope c σ2 H2 _
      intro s1 H01 C1 cl1 fp1
      refine (xc s1 H01 C1 cl1 fp1).run σ2 H2 F2 S3 _ fun H3 F3 g4 => ?_
      cases bb with
      | true => exact iteT (elem (ht rfl) g4)
      | false =>
        have p : Iv (i + 1) acc mc := by simpa using hf rfl
        obtain ⟨c1, c2, c3⟩ := keep g4 k1 k2 k3
        refine iteF ⟨F3, vs, acc, mc, ?_, by omega, (g2.trans g3).trans g4, c1, c2, c3, hacc.up ((g3.trans g4).grow)⟩
        exact p
    | _ :: _ :: _, xt => exact xt.elim
  · have e1 : i = items.length := by omega
    subst e1
    refine .inl ⟨wd.stops H' F' mi g2.grow g2.std (hG _ _ _ (Nat.le_refl _) iv), ?_⟩
    refine q L vs H' F' acc mi iv (g1.trans g2) ?_ hmL hFL hHL hacc
    cases e : H L with
    | none => rfl
    | some u => exact absurd hL (g1.kept L (by rw [e]; exact fun z => nomatch z))
theorem lc_fin {K : PySem.W.Frag} {H F : Hp} {Q : VK} {Pq : List D → MS → Prop} (q : ∀ v H' F' acc m', Pq acc m' → Go K m H F m' H' F' → Rp K F' v (.lst acc) → Q v H') :
    ∀ L vs H' F' acc m', Pq acc m' → Go K m H F m' H' F' → H L = none → m' L = none → F' L = none → H' L = some (.lst vs) → Rps K F' vs acc → Q (.ref L) H' := fun L vs H' F' acc m' p g h1 h2 h3 h4 h5 =>
  q (.ref L) H' (upd F' L (.lst vs)) acc m' p (g.adopt h1 h2 h3 h4) (.lst upd_same (h5.up (fun a u e => by rw [upd_ne (ne_of_none e h3)]; exact e)))
theorem lc_read (hi : XI X F0 tg iter ρ m items m1 G) (Iv : Nat → List D → MS → Prop) (h0 : Iv 0 [] m1) (hG : ∀ i acc mi, i ≤ items.length → Iv i acc mi → G mi) (hz : items.length ≤ 100000)
    (step : ∀ (i : Nat) (d : D) acc mi, items[i]? = some d → Iv i acc mi → LcStepE X F0 scope tg ifs elt (wipeR ρ (own.map (·.2))) (own.map (·.2)) d mi fun o m' => Iv (i + 1) (acc ++ o.toList) m')
    {σ : L2.St} {H F : Hp} (S : StR X.K F0 σ H F ρ m) {Q : VK} (q : ∀ v H' F' acc m', Iv items.length acc m' → Go X.K m H F m' H' F' → Rp X.K F' v (.lst acc) → Q v H') :
    tLc (wI X tg iter) (bG X scope tg) (bTs X scope ifs) (bE X scope elt) (own.map (·.2)) σ H Q := lc_readT (hi.run σ H F S) Iv h0 hG hz step S (lc_fin (Pq := Iv items.length) q)
theorem xe_lc (Iv : Nat → List D → MS → Prop) (hN : X.N.Nodup) (hi : XI X F0 tg iter ρ m items m1 G) (ok : BlkOk X.N X.env.scope scope own) (h0 : Iv 0 [] m1) (hG : ∀ i acc mi, i ≤ items.length → Iv i acc mi → G mi) (hz : items.length ≤ 100000)
    (step : ∀ (i : Nat) (d : D) acc mi, items[i]? = some d → Iv i acc mi → LcStepE X F0 scope tg ifs elt (wipeR ρ (own.map (·.2))) (own.map (·.2)) d mi fun o m' => Iv (i + 1) (acc ++ o.toList) m') (hd : ∀ acc m', Iv items.length acc m' → P (.lst acc) m')
    (hc : X.calm = true := by rfl) (hl : ifs.length ≤ 1 := by decide) (hs : ∀ x, foldedSetIterable iter X.env x = pure x := by intro _; rfl) :
    XE X F0 (.ListComp elt [⟨tg, iter, ifs, 0⟩] scope pos) ρ m P := .mk fun σ H F S Q q =>
  wE_of (pe_lc (own := own) hc hN pi_w ok bG_pg (bTs_pts hl) bE_pe hs) (lc_read hi Iv h0 hG hz step S fun v H' F' acc m' p g r => q v H' F' _ m' (hd acc m' p) g r)
theorem x1_setLcE (Iv : Nat → List D → MS → Prop) {i : Nat} {y : Str} {py spos : Pos} (hN : X.N.Nodup) (hi : XI X F0 tg iter ρ m items m1 G) (ok : BlkOk X.N X.env.scope scope own) (h0 : Iv 0 [] m1) (hG : ∀ i acc mi, i ≤ items.length → Iv i acc mi → G mi) (hz : items.length ≤ 100000)
    (step : ∀ (i : Nat) (d : D) acc mi, items[i]? = some d → Iv i acc mi → LcStepE X F0 scope tg ifs elt (wipeR ρ (own.map (·.2))) (own.map (·.2)) d mi fun o m' => Iv (i + 1) (acc ++ o.toList) m') (hd : ∀ acc m', Iv items.length acc m' → A.nx (ρ.set i (some (.lst acc))) m')
    (hsw : swapsWith (.ListComp elt [⟨tg, iter, ifs, 0⟩] scope pos) (some (.Name y py)) spos.line X.env = pure true) (hy : X.N[i]? = some y := by rfl) (hyl : X.env.scope.names.lookup y = some .local := by rfl) (hc : X.calm = true := by rfl) (hl : ifs.length ≤ 1 := by decide) (hs : ∀ x, foldedSetIterable iter X.env x = pure x := by intro _; rfl) :
    X1 X F0 (.Assign [.Name y py] (.ListComp elt [⟨tg, iter, ifs, 0⟩] scope pos) spos) ρ m A := .mk fun σ H F S E k pins s I => by
  have hlen := nx_of_inv I hy
  refine wS_of (ps_setLc (own := own) hc hN hy hyl hsw pi_w ok bG_pg (bTs_pts hl) bE_pe hs) ?_ pins s I
  refine lc_read (Q := fun v H' => E.nx (σ.set i (some v)) H') hi Iv h0 hG hz step S fun v H1 F1 acc m' p g r => ?_
  exact k.nx _ H1 F1 _ _ (hd acc m' p) g ((S.go g).set r hlen)
def LcStep (X : Cx) (F0 : Hp) (scope : Scope) (tg : Expr) (ifs : List Expr) (elt : Expr) (ρw : Env1) (vs : List Nat) (d : D) (m m' : MS) (o : Option D) : Prop :=
  LcStepE X F0 scope tg ifs elt ρw vs d m fun o1 m1 => o1 = o ∧ m1 = m'
theorem LcStepE.mono {ρw : Env1} {vs : List Nat} {o o' : Option D → MS → Prop} (h : LcStepE X F0 scope tg ifs elt ρw vs d m o) (k : ∀ x m, o x m → o' x m) : LcStepE X F0 scope tg ifs elt ρw vs d m o' := by
  obtain ⟨ρ2, h1, h2⟩ := h
  refine ⟨ρ2, h1, ?_⟩
  match ifs, h2 with
  | [], h2 => exact fun s H C cl fp => (h2 s H C cl fp).mono fun d m q => k _ _ q
  | [c], h2 =>
    obtain ⟨b, mc, a1, a2, a3⟩ := h2
    exact ⟨b, mc, a1, fun e s H C cl fp => (a2 e s H C cl fp).mono fun d m q => k _ _ q, fun e => k _ _ (a3 e)⟩
  | _ :: _ :: _, h2 => exact h2.elim
/-- [elt for tg in iter if ..] -/
theorem xd_lc (hN : X.N.Nodup) (hi : XI X F0 tg iter ρ m items m1 G) (ok : BlkOk X.N X.env.scope scope own) (ms : Nat → MS) (o : Nat → Option D) (hm0 : ms 0 = m1) (hG : ∀ i, i ≤ items.length → G (ms i)) (hz : items.length ≤ 100000)
    (step : ∀ (i : Nat) (d : D), items[i]? = some d → LcStep X F0 scope tg ifs elt (wipeR ρ (own.map (·.2))) (own.map (·.2)) d (ms i) (ms (i + 1)) (o i)) (hc : X.calm = true := by rfl) (hl : ifs.length ≤ 1 := by decide) (hs : ∀ x, foldedSetIterable iter X.env x = pure x := by intro _; rfl) :
    XD X F0 (.ListComp elt [⟨tg, iter, ifs, 0⟩] scope pos) ρ m (.lst (accD o items.length)) (ms items.length) := XE.xd (xe_lc (own := own) (fun i acc mi => acc = accD o i ∧ mi = ms i) hN hi ok ⟨rfl, hm0.symm⟩ (fun i acc mi hi h => by rw [h.2]; exact hG i hi) hz (fun i d acc mi hd h => by
      obtain ⟨rfl, rfl⟩ := h
      refine (step i d hd).mono fun o1 m1 q => ?_
      obtain ⟨rfl, rfl⟩ := q
      refine ⟨?_, rfl⟩
      rw [accD_succ]
      cases o i <;> rfl) (fun acc m' h => by obtain ⟨rfl, rfl⟩ := h; exact ⟨rfl, rfl⟩) hc hl hs)
theorem x1_setLc {i : Nat} {y : Str} {py spos : Pos} (hN : X.N.Nodup) (hi : XI X F0 tg iter ρ m items m1 G) (ok : BlkOk X.N X.env.scope scope own) (ms : Nat → MS) (o : Nat → Option D) (hm0 : ms 0 = m1) (hG : ∀ i, i ≤ items.length → G (ms i)) (hz : items.length ≤ 100000)
    (step : ∀ (i : Nat) (d : D), items[i]? = some d → LcStep X F0 scope tg ifs elt (wipeR ρ (own.map (·.2))) (own.map (·.2)) d (ms i) (ms (i + 1)) (o i)) (h : A.nx (ρ.set i (some (.lst (accD o items.length)))) (ms items.length))
    (hsw : swapsWith (.ListComp elt [⟨tg, iter, ifs, 0⟩] scope pos) (some (.Name y py)) spos.line X.env = pure true) (hy : X.N[i]? = some y := by rfl) (hyl : X.env.scope.names.lookup y = some .local := by rfl) (hc : X.calm = true := by rfl) (hl : ifs.length ≤ 1 := by decide) (hs : ∀ x, foldedSetIterable iter X.env x = pure x := by intro _; rfl) :
    X1 X F0 (.Assign [.Name y py] (.ListComp elt [⟨tg, iter, ifs, 0⟩] scope pos) spos) ρ m A := x1_setLcE (own := own) (fun i acc mi => acc = accD o i ∧ mi = ms i) hN hi ok ⟨rfl, hm0.symm⟩ (fun i acc mi hi h => by rw [h.2]; exact hG i hi) hz (fun i d acc mi hd h => by
      obtain ⟨rfl, rfl⟩ := h
      refine (step i d hd).mono fun o1 m1 q => ?_
      obtain ⟨rfl, rfl⟩ := q
      refine ⟨?_, rfl⟩
      rw [accD_succ]
      cases o i <;> rfl) (fun acc m' q => by obtain ⟨rfl, rfl⟩ := q; exact h) hsw hy hyl hc hl hs
theorem accD_map (f : D → D) (items : List D) : accD (fun i => (items[i]?).map f) items.length = items.map f := by
  apply List.ext_getElem?
  suffices h : ∀ n, n ≤ items.length → accD (fun i => (items[i]?).map f) n = (items.take n).map f by
    intro i; rw [h items.length (Nat.le_refl _), List.take_length]
  intro n
  induction n with
  | zero => intro _; rfl
  | succ n ih =>
    intro h
    rw [accD_succ, ih (by omega), List.take_add_one, List.map_append, List.getElem?_eq_getElem (show n < items.length by omega)]
    rfl
theorem accD_filt (f : D → Option D) (items : List D) : accD (fun i => (items[i]?).bind f) items.length = items.filterMap f := by
  suffices h : ∀ n, n ≤ items.length → accD (fun i => (items[i]?).bind f) n = (items.take n).filterMap f by
    rw [h items.length (Nat.le_refl _), List.take_length]
  intro n
  induction n with
  | zero => intro _; rfl
  | succ n ih =>
    intro h
    rw [accD_succ, ih (by omega), List.take_add_one, List.getElem?_eq_getElem (show n < items.length by omega), List.filterMap_append]
    congr 1
    cases e : f items[n] <;> simp [e]
/-- .. of data alone: the element is a function of the item -/
theorem xd_map (f : D → D) (hN : X.N.Nodup) (hi : XI X F0 tg iter ρ m items m1 G) (ok : BlkOk X.N X.env.scope scope own) (hG : G m1) (hz : items.length ≤ 100000)
    (step : ∀ (i : Nat) (d : D), items[i]? = some d → LcStep X F0 scope tg [] elt (wipeR ρ (own.map (·.2))) (own.map (·.2)) d m1 m1 (some (f d))) (hc : X.calm = true := by rfl) (hs : ∀ x, foldedSetIterable iter X.env x = pure x := by intro _; rfl) :
    XD X F0 (.ListComp elt [⟨tg, iter, [], 0⟩] scope pos) ρ m (.lst (items.map f)) m1 :=
  (xd_lc hN hi ok (fun _ => m1) (fun i => (items[i]?).map f) rfl (fun _ _ => hG) hz (fun i d h => by rw [h]; exact step i d h) hc (by decide) hs).to (congrArg D.lst (accD_map f items))
theorem xd_filt (f : D → Option D) (hN : X.N.Nodup) (hi : XI X F0 tg iter ρ m items m1 G) (ok : BlkOk X.N X.env.scope scope own) (hG : G m1) (hz : items.length ≤ 100000)
    (step : ∀ (i : Nat) (d : D), items[i]? = some d → LcStep X F0 scope tg [c] elt (wipeR ρ (own.map (·.2))) (own.map (·.2)) d m1 m1 (f d)) (hc : X.calm = true := by rfl) (hs : ∀ x, foldedSetIterable iter X.env x = pure x := by intro _; rfl) :
    XD X F0 (.ListComp elt [⟨tg, iter, [c], 0⟩] scope pos) ρ m (.lst (items.filterMap f)) m1 :=
  (xd_lc hN hi ok (fun _ => m1) (fun i => (items[i]?).bind f) rfl (fun _ _ => hG) hz (fun i d h => by rw [h]; exact step i d h) hc (by simp) hs).to (congrArg D.lst (accD_filt f items))
theorem lcs_elt {ρw ρ2 : Env1} {vs : List Nat} (hg : ∀ s H C cl fp, XG (X.blk s H scope (compEnvC scope cl C X.env) fp) F0 tg d ρw ρ2 vs) (he : ∀ s H C cl fp, XD (X.blk s H scope (compEnvC scope cl C X.env) fp) F0 elt ρ2 m d1 m') : LcStep X F0 scope tg [] elt ρw vs d m m' (some d1) := ⟨ρ2, hg, fun s H C cl fp => (he s H C cl fp).xe ⟨rfl, rfl⟩⟩
theorem lcs_if {ρw ρ2 : Env1} {vs : List Nat} {k : Bool} {mc : MS} {o : Option D} (hg : ∀ s H C cl fp, XG (X.blk s H scope (compEnvC scope cl C X.env) fp) F0 tg d ρw ρ2 vs) (ht : ∀ s H C cl fp, XT (X.blk s H scope (compEnvC scope cl C X.env) fp) F0 c ρ2 m k mc)
    (he : k = true → ∀ s H C cl fp, XD (X.blk s H scope (compEnvC scope cl C X.env) fp) F0 elt ρ2 mc d1 m') (ho : o = if k = true then some d1 else none) (hm : k = false → m' = mc) : LcStep X F0 scope tg [c] elt ρw vs d m m' o := by
  refine ⟨ρ2, hg, k, mc, ht, fun h s H C cl fp => (he h s H C cl fp).xe ⟨by rw [ho, if_pos h], rfl⟩, fun h => ⟨by rw [ho, h]; rfl, (hm h).symm⟩⟩
theorem lce_elt {ρw ρ2 : Env1} {vs : List Nat} {o : Option D → MS → Prop} (hg : ∀ s H C cl fp, XG (X.blk s H scope (compEnvC scope cl C X.env) fp) F0 tg d ρw ρ2 vs) (he : ∀ s H C cl fp, XE (X.blk s H scope (compEnvC scope cl C X.env) fp) F0 elt ρ2 m fun d m' => o (some d) m') : LcStepE X F0 scope tg [] elt ρw vs d m o := ⟨ρ2, hg, he⟩
theorem lce_if {ρw ρ2 : Env1} {vs : List Nat} {o : Option D → MS → Prop} {k : Bool} {mc : MS} (hg : ∀ s H C cl fp, XG (X.blk s H scope (compEnvC scope cl C X.env) fp) F0 tg d ρw ρ2 vs) (ht : ∀ s H C cl fp, XT (X.blk s H scope (compEnvC scope cl C X.env) fp) F0 c ρ2 m k mc)
    (he : k = true → ∀ s H C cl fp, XE (X.blk s H scope (compEnvC scope cl C X.env) fp) F0 elt ρ2 mc fun d m' => o (some d) m') (hf : k = false → o none mc) : LcStepE X F0 scope tg [c] elt ρw vs d m o := ⟨ρ2, hg, k, mc, ht, he, hf⟩

/-! ### built-ins by data -/
variable {i j : Int} {K : PySem.W.Frag}
theorem rdc_id {r : List V → Hp → VK → Prop} {ds : List D} (h : ∀ vs H F, Std K m H F → Rps K F vs ds → ∃ v, Rp K F v d ∧ ∀ Q : VK, Q v H → r vs H Q) : RDC K r ds m d m := fun vs H F s rv Q q => by
  obtain ⟨v, r1, k⟩ := h vs H F s rv
  exact k Q (q v H F (Go.refl s) r1)
theorem rps1 {F : Hp} {vs : List V} (h : Rps K F vs [d]) : ∃ v, vs = [v] ∧ Rp K F v d := by
  cases h with
  | cons h1 h2 => cases h2; exact ⟨_, rfl, h1⟩
theorem rps2 {F : Hp} {vs : List V} (h : Rps K F vs [d, d1]) : ∃ v w, vs = [v, w] ∧ Rp K F v d ∧ Rp K F w d1 := by
  cases h with
  | cons h1 h2 =>
    obtain ⟨w, rfl, h3⟩ := rps1 h2
    exact ⟨_, w, rfl, h1, h3⟩
/-- how long -/
inductive LenD : D → Nat → Prop
  | lst (ds : List D) : LenD (.lst ds) ds.length
  | tup (ds : List D) : LenD (.tup ds) ds.length
  | fls (ds : List D) : LenD (.fls ds) ds.length
  | str (s : Str) (h : s.length ≤ sizeLine) : LenD (.str s) s.length
theorem xd_len {p : Pos} {n : Nat} (hm : X.mg "len" = none) (ha : XD X F0 a ρ m d m1) (hn : LenD d n) (hg : Gl X "len" := by rfl) (he : starEach [a] X.env = (false, eval a X.env) :: starEach [] X.env := by rfl) : XD X F0 (.Call (.Name "len" p) [a] [] pos) ρ m (.int n) m1 := by
  refine xd_callB call_len ?_ hm (xa_cons ha xa_nil he) PySem.boot_len hg (by decide) (by decide) he rfl
  refine rdc_id fun vs H F s rv => ⟨.int n, .int _, fun Q q => ?_⟩
  obtain ⟨v, rfl, r⟩ := rps1 rv
  refine ⟨v, n, rfl, ?_, q⟩
  cases hn with
  | lst ds => cases r with | lst h1 h2 => exact .inl ⟨_, .inl (.inl (s.at h1)), h2.length.symm⟩
  | tup ds => cases r with | tup h1 h2 => exact .inr ⟨_, Same.seqT s.toH h1, h2.length.symm⟩
  | fls ds => cases r with | fls h1 h2 => exact .inl ⟨_, s.toH.seq h1, h2.length.symm⟩
  | str z hz => cases r; exact ⟨hz, rfl⟩
theorem xd_abs {p : Pos} (hm : X.mg "abs" = none) (ha : XD X F0 a ρ m (.int i) m1) (hg : Gl X "abs" := by rfl) (he : starEach [a] X.env = (false, eval a X.env) :: starEach [] X.env := by rfl) : XD X F0 (.Call (.Name "abs" p) [a] [] pos) ρ m (.int (if i < 0 then -i else i)) m1 := by
  refine xd_callB call_abs ?_ hm (xa_cons ha xa_nil he) (by decide +kernel) hg (by decide) (by decide) he rfl
  refine rdc_id fun vs H F s rv => ⟨_, .int _, fun Q q => ?_⟩
  obtain ⟨v, rfl, r⟩ := rps1 rv
  cases r
  exact ⟨i, rfl, q⟩
theorem xd_max2 {p : Pos} (hm : X.mg "max" = none) (ha : XD X F0 a ρ m (.int i) m1) (hb : XD X F0 b ρ m1 (.int j) m2) (hc : X.calm = true := by rfl) (hg : Gl X "max" := by rfl) (he : starEach [a, b] X.env = (false, eval a X.env) :: starEach [b] X.env := by rfl) (he2 : starEach [b] X.env = (false, eval b X.env) :: starEach [] X.env := by rfl) (hpl : (backTo pos (starEach [b] X.env)).any (·.1) = false := by rfl) :
    XD X F0 (.Call (.Name "max" p) [a, b] [] pos) ρ m (.int (if j > i then j else i)) m2 := by
  refine xd_callB (call_max2 hc) ?_ hm (xa_cons ha (xa_cons hb xa_nil he2) he) (by decide +kernel) hg (by decide) (by decide) he hpl
  refine rdc_id fun vs H F s rv => ⟨_, .int _, fun Q q => ?_⟩
  obtain ⟨v, w, rfl, r1, r2⟩ := rps2 rv
  cases r1; cases r2
  exact ⟨i, j, rfl, q⟩
theorem xd_min2 {p : Pos} (hm : X.mg "min" = none) (ha : XD X F0 a ρ m (.int i) m1) (hb : XD X F0 b ρ m1 (.int j) m2) (hc : X.calm = true := by rfl) (hg : Gl X "min" := by rfl) (he : starEach [a, b] X.env = (false, eval a X.env) :: starEach [b] X.env := by rfl) (he2 : starEach [b] X.env = (false, eval b X.env) :: starEach [] X.env := by rfl) (hpl : (backTo pos (starEach [b] X.env)).any (·.1) = false := by rfl) :
    XD X F0 (.Call (.Name "min" p) [a, b] [] pos) ρ m (.int (if j < i then j else i)) m2 := by
  refine xd_callB (call_min2 hc) ?_ hm (xa_cons ha (xa_cons hb xa_nil he2) he) (by decide +kernel) hg (by decide) (by decide) he hpl
  refine rdc_id fun vs H F s rv => ⟨_, .int _, fun Q q => ?_⟩
  obtain ⟨v, w, rfl, r1, r2⟩ := rps2 rv
  cases r1; cases r2
  exact ⟨i, j, rfl, q⟩
/-- all, any of a list of truth values -/
theorem xd_all {p : Pos} {bs : List Bool} (hm : X.mg "all" = none) (ha : XD X F0 a ρ m (.lst (bs.map D.bl)) m1) (hc : X.calm = true := by rfl) (hg : Gl X "all" := by rfl) (he : starEach [a] X.env = (false, eval a X.env) :: starEach [] X.env := by rfl) : XD X F0 (.Call (.Name "all" p) [a] [] pos) ρ m (.bl (bs.all id)) m1 := by
  refine xd_callB (cr_all hc) ?_ hm (xa_cons ha xa_nil he) (by decide +kernel) hg (by decide) (by decide) he rfl
  refine rdc_id fun vs H F s rv => ⟨_, .bl _, fun Q q => ?_⟩
  obtain ⟨v, rfl, r⟩ := rps1 rv
  cases r with
  | lst h1 h2 => exact ⟨_, bs, rfl, by rw [← h2.bls]; exact .inl (.inl (s.at h1)), q⟩
theorem xd_any {p : Pos} {bs : List Bool} (hm : X.mg "any" = none) (ha : XD X F0 a ρ m (.lst (bs.map D.bl)) m1) (hc : X.calm = true := by rfl) (hg : Gl X "any" := by rfl) (he : starEach [a] X.env = (false, eval a X.env) :: starEach [] X.env := by rfl) : XD X F0 (.Call (.Name "any" p) [a] [] pos) ρ m (.bl (bs.any id)) m1 := by
  refine xd_callB (cr_any hc) ?_ hm (xa_cons ha xa_nil he) (by decide +kernel) hg (by decide) (by decide) he rfl
  refine rdc_id fun vs H F s rv => ⟨_, .bl _, fun Q q => ?_⟩
  obtain ⟨v, rfl, r⟩ := rps1 rv
  cases r with
  | lst h1 h2 => exact ⟨_, bs, rfl, by rw [← h2.bls]; exact .inl (.inl (s.at h1)), q⟩
theorem xd_sum {p : Pos} {is : List Int} (hm : X.mg "sum" = none) (ha : XD X F0 a ρ m (.lst (is.map D.int)) m1) (hc : X.calm = true := by rfl) (hg : Gl X "sum" := by rfl) (he : starEach [a] X.env = (false, eval a X.env) :: starEach [] X.env := by rfl) : XD X F0 (.Call (.Name "sum" p) [a] [] pos) ρ m (.int is.sum) m1 := by
  refine xd_callB (cr_sum hc) ?_ hm (xa_cons ha xa_nil he) (by decide +kernel) hg (by decide) (by decide) he rfl
  refine rdc_id fun vs H F s rv => ⟨_, .int _, fun Q q => ?_⟩
  obtain ⟨v, rfl, r⟩ := rps1 rv
  cases r with
  | lst h1 h2 => exact ⟨_, is, rfl, by rw [← h2.ints]; exact .inl (.inl (s.at h1)), q⟩
theorem least_one {is : List Int} {z w : Int} (h1 : z ∈ is) (h2 : ∀ y ∈ is, z ≤ y) (h3 : w ∈ is) (h4 : ∀ y ∈ is, w ≤ y) : z = w := by
  have := h2 w h3; have := h4 z h1; omega
theorem xd_minL {p : Pos} {is : List Int} {z : Int} (hm : X.mg "min" = none) (ha : XD X F0 a ρ m (.lst (is.map D.int)) m1) (hz : z ∈ is) (hl : ∀ y ∈ is, z ≤ y) (hc : X.calm = true := by rfl) (hg : Gl X "min" := by rfl) (he : starEach [a] X.env = (false, eval a X.env) :: starEach [] X.env := by rfl) : XD X F0 (.Call (.Name "min" p) [a] [] pos) ρ m (.int z) m1 := by
  refine xd_callB (cr_min hc) ?_ hm (xa_cons ha xa_nil he) (by decide +kernel) hg (by decide) (by decide) he rfl
  refine rdc_id fun vs H F s rv => ⟨_, .int _, fun Q q => ?_⟩
  obtain ⟨v, rfl, r⟩ := rps1 rv
  cases r with
  | lst h1 h2 => exact ⟨_, is, rfl, by rw [← h2.ints]; exact .inl (.inl (s.at h1)), List.length_pos_of_mem hz, fun w w1 w2 => by rw [least_one w1 w2 hz hl]; exact q⟩
theorem xd_maxL {p : Pos} {is : List Int} {z : Int} (hm : X.mg "max" = none) (ha : XD X F0 a ρ m (.lst (is.map D.int)) m1) (hz : z ∈ is) (hl : ∀ y ∈ is, y ≤ z) (hc : X.calm = true := by rfl) (hg : Gl X "max" := by rfl) (he : starEach [a] X.env = (false, eval a X.env) :: starEach [] X.env := by rfl) : XD X F0 (.Call (.Name "max" p) [a] [] pos) ρ m (.int z) m1 := by
  refine xd_callB (cr_max hc) ?_ hm (xa_cons ha xa_nil he) (by decide +kernel) hg (by decide) (by decide) he rfl
  refine rdc_id fun vs H F s rv => ⟨_, .int _, fun Q q => ?_⟩
  obtain ⟨v, rfl, r⟩ := rps1 rv
  cases r with
  | lst h1 h2 => exact ⟨_, is, rfl, by rw [← h2.ints]; exact .inl (.inl (s.at h1)), List.length_pos_of_mem hz, fun w w1 w2 => by
      have e : w = z := by
        have := hl w w1; have := w2 z hz; omega
      rw [e]; exact q⟩
theorem xd_intB {p : Pos} {k : Bool} (hm : X.mg "int" = none) (ha : XD X F0 a ρ m (.bl k) m1) (hg : Gl X "int" := by rfl) (he : starEach [a] X.env = (false, eval a X.env) :: starEach [] X.env := by rfl) : XD X F0 (.Call (.Name "int" p) [a] [] pos) ρ m (.int (if k then 1 else 0)) m1 := by
  refine xd_callTy call_int1 ?_ hm (xa_cons ha xa_nil he) (by decide +kernel) hg (by decide) (by decide) he rfl
  refine rdc_id fun vs H F s rv => ⟨_, .int _, fun Q q => ?_⟩
  obtain ⟨v, rfl, r⟩ := rps1 rv
  cases r
  exact .inr ⟨k, rfl, q⟩
/-- tuple(list), tuple(tuple), list(list), list(tuple) -/
theorem xd_tupleL {p : Pos} {ds : List D} (hm : X.mg "tuple" = none) (ha : XD X F0 a ρ m (.lst ds) m1) (hg : Gl X "tuple" := by rfl) (he : starEach [a] X.env = (false, eval a X.env) :: starEach [] X.env := by rfl) : XD X F0 (.Call (.Name "tuple" p) [a] [] pos) ρ m (.tup ds) m1 := by
  refine xd_callTy call_tuple_of ?_ hm (xa_cons ha xa_nil he) (by decide +kernel) hg (by decide) (by decide) he rfl
  intro vs H F s rv Q q
  obtain ⟨v, rfl, r⟩ := rps1 rv
  cases r with
  | lst h1 h2 => exact ⟨_, _, rfl, .inl ⟨.inl (.inl (s.at h1)), fun l hl => q _ _ _ (Go.new s hl) (rp_newTup s hl h2)⟩⟩
theorem xd_tupleT {p : Pos} {ds : List D} (hm : X.mg "tuple" = none) (ha : XD X F0 a ρ m (.tup ds) m1) (hg : Gl X "tuple" := by rfl) (he : starEach [a] X.env = (false, eval a X.env) :: starEach [] X.env := by rfl) : XD X F0 (.Call (.Name "tuple" p) [a] [] pos) ρ m (.tup ds) m1 := by
  refine xd_callTy call_tuple_of ?_ hm (xa_cons ha xa_nil he) (by decide +kernel) hg (by decide) (by decide) he rfl
  intro vs H F s rv Q q
  obtain ⟨v, rfl, r⟩ := rps1 rv
  cases r with
  | tup h1 h2 => exact ⟨_, _, rfl, .inr ⟨Same.seqT s.toH h1, q _ _ _ (Go.refl s) (.tup h1 h2)⟩⟩
theorem xd_listS {p : Pos} {ds : List D} (hm : X.mg "list" = none) (ha : (∃ z, XD X F0 a ρ m z m1 ∧ (z = .lst ds ∨ z = .tup ds ∨ z = .fls ds))) (hg : Gl X "list" := by rfl) (he : starEach [a] X.env = (false, eval a X.env) :: starEach [] X.env := by rfl) : XD X F0 (.Call (.Name "list" p) [a] [] pos) ρ m (.lst ds) m1 := by
  obtain ⟨z, ha, hz⟩ := ha
  refine xd_callTy call_list_of ?_ hm (xa_cons ha xa_nil he) (by decide +kernel) hg (by decide) (by decide) he rfl
  intro vs H F s rv Q q
  obtain ⟨v, rfl, r⟩ := rps1 rv
  rcases hz with rfl | rfl | rfl
  · cases r with
    | lst h1 h2 => exact ⟨_, _, rfl, .inl (.inl (.inl (s.at h1))), fun l hl => q _ _ _ (Go.new s hl) (rp_newLst s hl h2)⟩
  · cases r with
    | tup h1 h2 => exact ⟨_, _, rfl, .inr (Same.seqT s.toH h1), fun l hl => q _ _ _ (Go.new s hl) (rp_newLst s hl h2)⟩
  · cases r with
    | fls h1 h2 => exact ⟨_, _, rfl, .inl (s.toH.seq h1), fun l hl => q _ _ _ (Go.new s hl) (rp_newLst s hl h2)⟩
/-! ### subscripts, slices -/
inductive IxD : D → Int → D → Prop
  | lst {ds : List D} {i : Int} {d : D} (h : atI ds i = some d) : IxD (.lst ds) i d
  | tup {ds : List D} {i : Int} {d : D} (h : atI ds i = some d) : IxD (.tup ds) i d
  | fls {ds : List D} {i : Int} {d : D} (h : atI ds i = some d) : IxD (.fls ds) i d
  | str {z : Str} {i : Int} {c : Nat} (hz : z.length ≤ sizeLine) (h : atI z.cps.toList i = some c) : IxD (.str z) i (.str ⟨#[c]⟩)
theorem rps_atI {F : Hp} {vs : List V} {ds : List D} (h : Rps K F vs ds) (e : atI ds i = some d) : ∃ v, atI vs i = some v ∧ Rp K F v d := by
  unfold atI at *
  rw [h.length]
  cases q : ixN ds.length i with
  | none => rw [q] at e; cases e
  | some n =>
    rw [q] at e
    exact h.get e
theorem xd_ix (ha : XD X F0 a ρ m d1 m1) (hb : XD X F0 b ρ m1 (.int i) m2) (h : IxD d1 i d) (hs : PlainIx b := by exact fun _ _ => rfl) : XD X F0 (.Subscript a b pos) ρ m d m2 := .mk fun σ H F S Q q => by
  refine wE_of (pe_ix ix_seq pe_w pe_w hs) ?_
  refine ha.run σ H F S _ fun x H1 F1 g1 r1 => hb.run σ H1 F1 (S.go g1) _ fun y H2 F2 g2 r2 => ?_
  have r1 := r1.up g2.grow
  cases r2
  cases h with
  | lst h =>
    cases r1 with
    | lst h1 h2 =>
      obtain ⟨v, e, r⟩ := rps_atI h2 h
      exact .inl ⟨_, _, i, v, rfl, rfl, .inl (.inl (g2.std.at h1)), e, q v H2 F2 (g1.trans g2) r⟩
  | fls h =>
    cases r1 with
    | fls h1 h2 =>
      obtain ⟨v, e, r⟩ := rps_atI h2 h
      exact .inl ⟨_, _, i, v, rfl, rfl, g2.std.toH.seq h1, e, q v H2 F2 (g1.trans g2) r⟩
  | tup h =>
    cases r1 with
    | tup h1 h2 =>
      obtain ⟨v, e, r⟩ := rps_atI h2 h
      exact .inr (.inl ⟨_, _, i, v, rfl, rfl, Same.seqT g2.std.toH h1, e, q v H2 F2 (g1.trans g2) r⟩)
  | str hz h =>
    cases r1
    exact .inr (.inr ⟨_, i, _, rfl, rfl, hz, h, q _ H2 F2 (g1.trans g2) (.str _)⟩)
/-- a place of a list that changes -/
theorem xd_ixM {p : Addr} {ds : List D} (ha : XD X F0 a ρ m (.raw (.ref p)) m1) (hb : XD X F0 b ρ m1 (.int i) m2) (hp : m2 p = some (.lst ds)) (h : atI ds i = some d) (hs : PlainIx b := by exact fun _ _ => rfl) : XD X F0 (.Subscript a b pos) ρ m d m2 := .mk fun σ H F S Q q => by
  refine wE_of (pe_ix ix_list pe_w pe_w hs) ?_
  refine ha.run σ H F S _ fun x H1 F1 g1 r1 => hb.run σ H1 F1 (S.go g1) _ fun y H2 F2 g2 r2 => ?_
  cases r1; cases r2
  obtain ⟨vs, e, r⟩ := g2.std.cells p _ hp
  obtain ⟨v, e1, r1⟩ := rps_atI r h
  exact ⟨p, vs, i, v, rfl, rfl, .inl (.inl e), e1, q v H2 F2 (g1.trans g2) r1⟩
theorem x1_setIxM {p : Addr} {ds : List D} {n : Nat} {tpos : Pos} (he : XD X F0 e ρ m d m1) (ha : XD X F0 a ρ m1 (.raw (.ref p)) m2) (hb : XD X F0 b ρ m2 (.int i) m3) (hp : m3 p = some (.lst ds)) (h : ixN ds.length i = some n) (hA : A.nx ρ (mset m3 p (.lst (ds.set n d))))
    (hs : swapsWithSole [.Subscript a b tpos] e pos.line X.env = pure false := by rfl) (hw : swappedStores [.Subscript a b tpos] e X.env = pure none := by rfl)
    (h1 : (assignEach [.Subscript a b tpos] X.env).map (·.2) = [assign (.Subscript a b tpos) X.env] := by rfl)
    (hass : ∀ v, assign (.Subscript a b tpos) X.env v = (do
      let ov ← holding [v] (eval a X.env)
      let iv ← holding [v, ov] (eval b X.env)
      standAt tpos
      holding [v, ov, iv] (setItem ov iv v)
      release [v, ov, iv] []) := by intro _; rfl) :
    X1 X F0 (.Assign [.Subscript a b tpos] e pos) ρ m A := .mk fun σ H F S E k => by
  refine wS_of (ps_asg pe_w (pg_sub pe_w pe_w set_list hass) hs hw h1) ?_
  refine he.run σ H F S _ fun v H1 F1 g1 r1 => ?_
  refine ha.run σ H1 F1 (S.go g1) _ fun x H2 F2 g2 r2 => hb.run σ H2 F2 ((S.go g1).go g2) _ fun y H3 F3 g3 r3 => ?_
  cases r2; cases r3
  obtain ⟨vs, e1, r⟩ := g3.std.cells p _ hp
  have G := (g1.trans g2).trans g3
  have g4 : Go X.K m3 H3 F3 (mset m3 p (.lst (ds.set n d))) (upd H3 p (.lst (vs.set n v))) F3 := Go.put g3.std hp ⟨_, upd_same, r.set n ((r1.up g2.grow _).up g3.grow _)⟩
  exact ⟨p, vs, i, n, rfl, rfl, e1, by rw [r.length]; exact h, k.nx _ _ _ _ _ hA (G.trans g4) (S.go (G.trans g4))⟩
end
end Mu

set_option Elab.async false
set_option linter.all false
set_option maxRecDepth 100000
set_option maxHeartbeats 4000000
namespace Mu
open PySem PySem.Spec L2
open PyProof.Rows hiding St
/-! ### what follows a value, when the value is known only by what is true of it -/
section
variable (X : Cx) (F0 : Hp)
structure XAE (es : List Expr) (ρ : Env1) (m : MS) (P : List D → MS → Prop) : Prop where
  run : ∀ σ H F, StR X.K F0 σ H F ρ m → ∀ Q : List V → Hp → Prop, (∀ vs H' F' ds m', P ds m' → Go X.K m H F m' H' F' → Rps X.K F' vs ds → Q vs H') → wA X es σ H Q
structure XTE (e : Expr) (ρ : Env1) (m : MS) (P : Bool → MS → Prop) : Prop where
  run : ∀ σ H F, StR X.K F0 σ H F ρ m → ∀ Q : Bool → Hp → Prop, (∀ b H' F' m', P b m' → Go X.K m H F m' H' F' → Q b H') → wT X e σ H Q
end
section
variable {X : Cx} {F0 : Hp} {e a b c : Expr} {es : List Expr} {ρ ρ' ρ1 : Env1} {m m' m1 m2 m3 : MS} {d d1 d2 d3 : D} {pos : Pos} {P : D → MS → Prop} {A : AEnds}
theorem XT.xte {k : Bool} {P : Bool → MS → Prop} (h : XT X F0 e ρ m k m') (p : P k m') : XTE X F0 e ρ m P := .mk fun σ H F S Q q => h.run σ H F S Q fun H' F' g => q k H' F' m' p g
theorem xae_nil {P : List D → MS → Prop} (h : P [] m) : XAE X F0 [] ρ m P := .mk fun σ H F S Q q => wA_of pa_nil (q [] H F [] m h (Go.refl S.std) .nil)
theorem xae_cons {P : List D → MS → Prop} (h : XE X F0 e ρ m fun d m1 => XAE X F0 es ρ m1 fun ds m2 => P (d :: ds) m2) (hs : starEach (e :: es) X.env = (false, eval e X.env) :: starEach es X.env := by rfl) : XAE X F0 (e :: es) ρ m P := .mk fun σ H F S Q q => by
  refine wA_of (pa_cons pe_w pa_w hs) ?_
  refine h.run σ H F S _ fun v H1 F1 d m1 p g1 r1 => p.run σ H1 F1 (S.go g1) _ fun vs H2 F2 ds m2 p2 g2 r2 => ?_
  exact q _ H2 F2 _ m2 p2 (g1.trans g2) (.cons (r1.up g2.grow _) r2)
theorem xe_op {op : Operator} {r : R2} (ho : OpR X (binaryOp op) r) (h : XE X F0 a ρ m fun d1 m1 => XE X F0 b ρ m1 fun d2 m2 => ∃ d3 m3, RD2 X.K r d1 d2 m2 d3 m3 ∧ P d3 m3) : XE X F0 (.BinOp a op b pos) ρ m P := .mk fun σ H F S Q q => by
  refine wE_of (pe_op ho pe_w pe_w) ?_
  refine h.run σ H F S _ fun x H1 F1 d1 m1 p1 g1 r1 => p1.run σ H1 F1 (S.go g1) _ fun y H2 F2 d2 m2 p2 g2 r2 => ?_
  obtain ⟨d3, m3, hr, p3⟩ := p2
  exact hr x y H2 F2 g2.std (r1.up g2.grow _) r2 _ fun v H3 F3 g3 r3 => q v H3 F3 d3 m3 p3 ((g1.trans g2).trans g3) r3
theorem xe_add (h : XE X F0 a ρ m fun d1 m1 => ∃ i, d1 = .int i ∧ XE X F0 b ρ m1 fun d2 m2 => ∃ j, d2 = .int j ∧ P (.int (i + j)) m2) : XE X F0 (.BinOp a .Add b pos) ρ m P := xe_op op_add (h.mono fun d1 m1 q => by
  obtain ⟨i, rfl, q⟩ := q
  refine q.mono fun d2 m2 q => ?_
  obtain ⟨j, rfl, q⟩ := q
  exact ⟨_, _, rd_I0 fun _ => .int _, q⟩)
theorem xe_sub (h : XE X F0 a ρ m fun d1 m1 => ∃ i, d1 = .int i ∧ XE X F0 b ρ m1 fun d2 m2 => ∃ j, d2 = .int j ∧ P (.int (i - j)) m2) : XE X F0 (.BinOp a .Sub b pos) ρ m P := xe_op op_sub (h.mono fun d1 m1 q => by
  obtain ⟨i, rfl, q⟩ := q
  refine q.mono fun d2 m2 q => ?_
  obtain ⟨j, rfl, q⟩ := q
  exact ⟨_, _, rd_I0 fun _ => .int _, q⟩)
theorem xe_mul (h : XE X F0 a ρ m fun d1 m1 => ∃ i, d1 = .int i ∧ XE X F0 b ρ m1 fun d2 m2 => ∃ j, d2 = .int j ∧ CMul i j ∧ P (.int (i * j)) m2) : XE X F0 (.BinOp a .Mult b pos) ρ m P := xe_op op_mul (h.mono fun d1 m1 q => by
  obtain ⟨i, rfl, q⟩ := q
  refine q.mono fun d2 m2 q => ?_
  obtain ⟨j, rfl, hc, q⟩ := q
  exact ⟨_, _, rd_I hc fun _ => .int _, q⟩)
theorem xe_mod (h : XE X F0 a ρ m fun d1 m1 => ∃ i, d1 = .int i ∧ XE X F0 b ρ m1 fun d2 m2 => ∃ j, d2 = .int j ∧ 0 < j ∧ P (.int (i % j)) m2) : XE X F0 (.BinOp a .Mod b pos) ρ m P := xe_op op_mod (h.mono fun d1 m1 q => by
  obtain ⟨i, rfl, q⟩ := q
  refine q.mono fun d2 m2 q => ?_
  obtain ⟨j, rfl, hc, q⟩ := q
  exact ⟨_, _, rd_I hc fun _ => .int _, q⟩)
theorem xe_fdiv (h : XE X F0 a ρ m fun d1 m1 => ∃ i, d1 = .int i ∧ XE X F0 b ρ m1 fun d2 m2 => ∃ j, d2 = .int j ∧ CDiv i j ∧ P (.int (i / j)) m2) : XE X F0 (.BinOp a .FloorDiv b pos) ρ m P := xe_op op_fdiv (h.mono fun d1 m1 q => by
  obtain ⟨i, rfl, q⟩ := q
  refine q.mono fun d2 m2 q => ?_
  obtain ⟨j, rfl, hc, q⟩ := q
  exact ⟨_, _, rd_I hc fun _ => .int _, q⟩)
theorem xte_cmp {op : CmpOp} {r : R2} {PT : Bool → MS → Prop} (ho : OpR X (compareOp op) r) (h : XE X F0 a ρ m fun d1 m1 => XE X F0 b ρ m1 fun d2 m2 => ∃ k m3, RD2 X.K r d1 d2 m2 (.bl k) m3 ∧ PT k m3) (hm : behindInMarks op b = false) : XTE X F0 (.Compare a [op] [b] pos) ρ m PT := .mk fun σ H F S Q q => by
  refine wT_of (pt_cmpR ho pe_w pe_w hm) ?_
  refine h.run σ H F S _ fun x H1 F1 d1 m1 p1 g1 r1 => p1.run σ H1 F1 (S.go g1) _ fun y H2 F2 d2 m2 p2 g2 r2 => ?_
  obtain ⟨k, m3, hr, p3⟩ := p2
  refine hr x y H2 F2 g2.std (r1.up g2.grow _) r2 _ fun v H3 F3 g3 r3 => ?_
  cases r3
  exact ⟨k, rfl, q k H3 F3 m3 p3 ((g1.trans g2).trans g3)⟩
theorem xe_cmp {op : CmpOp} {r : R2} (ho : OpR X (compareOp op) r) (h : XE X F0 a ρ m fun d1 m1 => XE X F0 b ρ m1 fun d2 m2 => ∃ d3 m3, RD2 X.K r d1 d2 m2 d3 m3 ∧ P d3 m3) (hm : behindInMarks op b = false) : XE X F0 (.Compare a [op] [b] pos) ρ m P := .mk fun σ H F S Q q => by
  refine wE_of (pe_cmpR ho pe_w pe_w hm) ?_
  refine h.run σ H F S _ fun x H1 F1 d1 m1 p1 g1 r1 => p1.run σ H1 F1 (S.go g1) _ fun y H2 F2 d2 m2 p2 g2 r2 => ?_
  obtain ⟨d3, m3, hr, p3⟩ := p2
  exact hr x y H2 F2 g2.std (r1.up g2.grow _) r2 _ fun v H3 F3 g3 r3 => q v H3 F3 d3 m3 p3 ((g1.trans g2).trans g3) r3
theorem xe_gt (h : XE X F0 a ρ m fun d1 m1 => ∃ i, d1 = .int i ∧ XE X F0 b ρ m1 fun d2 m2 => ∃ j, d2 = .int j ∧ P (.bl (decide (j < i))) m2) : XE X F0 (.Compare a [.Gt] [b] pos) ρ m P := xe_cmp op_gt (h.mono fun d1 m1 q => by
  obtain ⟨i, rfl, q⟩ := q
  refine q.mono fun d2 m2 q => ?_
  obtain ⟨j, rfl, q⟩ := q
  exact ⟨_, _, rd_I0 fun _ => .bl _, q⟩) (nomark _)
theorem xe_tup {x1} (h : XAE X F0 es ρ m fun ds m' => ds.length ≤ 100000 ∧ P (.tup ds) m') : XE X F0 (.Tuple es x1 pos) ρ m P := .mk fun σ H F S Q q => by
  refine wE_of (pe_tup pa_w) ?_
  refine h.run σ H F S _ fun vs H1 F1 ds m1 p1 g1 r1 => ⟨?_, fun p hp => ?_⟩
  · rw [r1.length]; exact Nat.le_trans p1.1 (by decide)
  · exact q _ _ _ _ _ p1.2 (g1.trans (Go.new g1.std hp)) (rp_newTup g1.std hp r1)
theorem xe_lst (h : XAE X F0 es ρ m fun ds m' => ds.length ≤ 100000 ∧ P (.lst ds) m') : XE X F0 (.List es pos) ρ m P := .mk fun σ H F S Q q => by
  refine wE_of (pe_lst pa_w) ?_
  refine h.run σ H F S _ fun vs H1 F1 ds m1 p1 g1 r1 => ⟨?_, fun p hp => ?_⟩
  · rw [r1.length]; exact Nat.le_trans p1.1 (by decide)
  · exact q _ _ _ _ _ p1.2 (g1.trans (Go.new g1.std hp)) (rp_newLst g1.std hp r1)
/-- a new list that will change -/
theorem xe_lstC (h : XAE X F0 es ρ m fun ds m' => ds.length ≤ 100000 ∧ ∀ p, m' p = none → P (.raw (.ref p)) (mset m' p (.lst ds))) : XE X F0 (.List es pos) ρ m P := .mk fun σ H F S Q q => by
  refine wE_of (pe_lst pa_w) ?_
  refine h.run σ H F S _ fun vs H1 F1 ds m1 p1 g1 r1 => ⟨?_, fun p hp => ?_⟩
  · rw [r1.length]; exact Nat.le_trans p1.1 (by decide)
  · exact q _ _ _ _ _ (p1.2 p (g1.std.free hp)) (g1.trans (Go.cell g1.std hp ⟨vs, upd_same, r1⟩)) (.raw _)
theorem xe_callE {x : Str} {p : Pos} {k j : Nat} {s : ASp} (c : Cal X.prog X.w X.K X.mg X.base k x (spA X.K s)) (hr : Room j X.A) (h : XAE X F0 (e :: es) ρ m fun ds m1 => s ds m1 P) (hk : k ≤ j := by decide) (hg : Gl X x := by rfl)
    (hdb : (x == ("__debug__" : Str)) = false := by decide) (he : starEach (e :: es) X.env = (false, eval e X.env) :: starEach es X.env := by rfl) (hpl : (backTo pos (starEach es X.env)).any (·.1) = false := by rfl) :
    XE X F0 (.Call (.Name x p) (e :: es) [] pos) ρ m P := .mk fun σ H F S Q q => by
  obtain ⟨f, fd, ps, G, hm, kp, bi⟩ := c.ex
  refine wE_of (pe_call G (hr.mono hk) hg hm kp bi .nil pass0 pa_w hdb he hpl) ?_
  refine h.run σ H F S _ fun vs H1 F1 ds m1 p1 g1 r1 => ?_
  show spA X.K s (vs ++ []) H1 Q E0
  rw [List.append_nil]
  exact ⟨F1, ds, m1, P, g1.std, r1, p1, fun v H2 F2 d m2 p g2 r2 => q v H2 F2 d m2 p (g1.trans g2) r2⟩
theorem xe_callBE {id : String} {x : Str} {p : Pos} {r : List V → Hp → VK → Prop} (hc : CallR X (.builtin id) r) (hm : X.mg x = none) (h : XAE X F0 (e :: es) ρ m fun ds m1 => ∃ d m2, RDC X.K r ds m1 d m2 ∧ P d m2) (hv : bootBuiltins x = some (.builtin id) := by decide +kernel) (hg : Gl X x := by rfl)
    (hn : x ≠ "__name__" := by decide) (hdb : (x == ("__debug__" : Str)) = false := by decide) (he : starEach (e :: es) X.env = (false, eval e X.env) :: starEach es X.env := by rfl) (hpl : (backTo pos (starEach es X.env)).any (·.1) = false := by rfl) :
    XE X F0 (.Call (.Name x p) (e :: es) [] pos) ρ m P := .mk fun σ H F S Q q => by
  refine wE_of (pe_callB hc hg hm hv pa_w hn hdb he hpl) ?_
  refine h.run σ H F S _ fun vs H1 F1 ds m1 p1 g1 r1 => ?_
  obtain ⟨d, m2, hr, p2⟩ := p1
  exact hr vs H1 F1 g1.std r1 _ fun v H2 F2 g2 r2 => q v H2 F2 d m2 p2 (g1.trans g2) r2
theorem xe_callTyE {T : String} {x : Str} {p : Pos} {r : List V → Hp → VK → Prop} (hc : CallR X (.type T) r) (hm : X.mg x = none) (h : XAE X F0 (e :: es) ρ m fun ds m1 => ∃ d m2, RDC X.K r ds m1 d m2 ∧ P d m2) (hv : bootBuiltins x = some (.type T) := by decide +kernel) (hg : Gl X x := by rfl)
    (hn : x ≠ "__name__" := by decide) (hdb : (x == ("__debug__" : Str)) = false := by decide) (he : starEach (e :: es) X.env = (false, eval e X.env) :: starEach es X.env := by rfl) (hpl : (backTo pos (starEach es X.env)).any (·.1) = false := by rfl) :
    XE X F0 (.Call (.Name x p) (e :: es) [] pos) ρ m P := .mk fun σ H F S Q q => by
  refine wE_of (pe_callTy hc hg hm hv pa_w hn hdb he hpl) ?_
  refine h.run σ H F S _ fun vs H1 F1 ds m1 p1 g1 r1 => ?_
  obtain ⟨d, m2, hr, p2⟩ := p1
  exact hr vs H1 F1 g1.std r1 _ fun v H2 F2 g2 r2 => q v H2 F2 d m2 p2 (g1.trans g2) r2
theorem rdc_min2 {i j : Int} {K : PySem.W.Frag} : RDC K (fun xs H Q => ∃ i j, xs = [.int i, .int j] ∧ Q (.int (if j < i then j else i)) H) [.int i, .int j] m (.int (if j < i then j else i)) m :=
  rdc_id fun vs H F s rv => ⟨_, .int _, fun Q q => by
    obtain ⟨v, w, rfl, r1, r2⟩ := rps2 rv
    cases r1; cases r2
    exact ⟨i, j, rfl, q⟩⟩
theorem rdc_max2 {i j : Int} {K : PySem.W.Frag} : RDC K (fun xs H Q => ∃ i j, xs = [.int i, .int j] ∧ Q (.int (if j > i then j else i)) H) [.int i, .int j] m (.int (if j > i then j else i)) m :=
  rdc_id fun vs H F s rv => ⟨_, .int _, fun Q q => by
    obtain ⟨v, w, rfl, r1, r2⟩ := rps2 rv
    cases r1; cases r2
    exact ⟨i, j, rfl, q⟩⟩
theorem rdc_intB {k : Bool} {K : PySem.W.Frag} : RDC K (fun xs H Q => (∃ i, xs = [.int i] ∧ Q (.int i) H) ∨ ∃ k, xs = [.bl k] ∧ Q (.int (if k then 1 else 0)) H) [.bl k] m (.int (if k then 1 else 0)) m :=
  rdc_id fun vs H F s rv => ⟨_, .int _, fun Q q => by
    obtain ⟨v, rfl, r1⟩ := rps1 rv
    cases r1
    exact .inr ⟨k, rfl, q⟩⟩
theorem rdc_tupleL {ds : List D} {K : PySem.W.Frag} : RDC K (fun xs H Q => ∃ p ys, xs = [.ref p] ∧ ((SqL K H p ys ∧ ∀ l, H l = none → Q (.ref l) (upd H l (.tup ys))) ∨ (SqT K H p ys ∧ Q (.ref p) H))) [.lst ds] m (.tup ds) m := fun vs H F s rv Q q => by
  obtain ⟨v, rfl, r⟩ := rps1 rv
  cases r with
  | lst h1 h2 => exact ⟨_, _, rfl, .inl ⟨.inl (.inl (s.at h1)), fun l hl => q _ _ _ (Go.new s hl) (rp_newTup s hl h2)⟩⟩
theorem xe_if {PT : Bool → MS → Prop} (hc : XTE X F0 c ρ m PT) (ha : ∀ m1, PT true m1 → XE X F0 a ρ m1 P) (hb : ∀ m1, PT false m1 → XE X F0 b ρ m1 P) : XE X F0 (.IfExp c a b pos) ρ m P := .mk fun σ H F S Q q => by
  refine wE_of (pe_ifExp pt_w pe_w pe_w) ?_
  refine hc.run σ H F S _ fun k H1 F1 m1 p1 g1 => ?_
  cases k with
  | true => exact iteT ((ha m1 p1).run σ H1 F1 (S.go g1) _ fun v H2 F2 d m2 p2 g2 r2 => q v H2 F2 d m2 p2 (g1.trans g2) r2)
  | false => exact iteF ((hb m1 p1).run σ H1 F1 (S.go g1) _ fun v H2 F2 d m2 p2 g2 r2 => q v H2 F2 d m2 p2 (g1.trans g2) r2)
theorem xte_val {PT : Bool → MS → Prop} (h : XE X F0 e ρ m fun d m' => ∃ k, d = .bl k ∧ PT k m') (he : ∀ whole, isTrue e X.env whole = (do let v ← whole; standAt e.pos; holding [v] (truthy v)) := by intro _; rfl) : XTE X F0 e ρ m PT := .mk fun σ H F S Q q => by
  refine wT_of (pt_val pe_w he) ?_
  refine h.run σ H F S _ fun v H1 F1 d m1 p1 g1 r1 => ?_
  obtain ⟨k, rfl, p1⟩ := p1
  cases r1
  exact ⟨k, rfl, q k H1 F1 m1 p1 g1⟩
theorem xte_not {PT : Bool → MS → Prop} (h : XTE X F0 a ρ m fun k m' => PT (!k) m') : XTE X F0 (.UnaryOp .Not a pos) ρ m PT := .mk fun σ H F S Q q => by
  refine wT_of (pt_not pt_w) ?_
  exact h.run σ H F S _ fun k H1 F1 m1 p1 g1 => q _ H1 F1 m1 p1 g1
theorem xe_ix (h : XE X F0 a ρ m fun d1 m1 => XE X F0 b ρ m1 fun d2 m2 => ∃ i d, d2 = .int i ∧ IxD d1 i d ∧ P d m2) (hs : PlainIx b := by exact fun _ _ => rfl) : XE X F0 (.Subscript a b pos) ρ m P := .mk fun σ H F S Q q => by
  refine wE_of (pe_ix ix_seq pe_w pe_w hs) ?_
  refine h.run σ H F S _ fun x H1 F1 d1 m1 p1 g1 r1 => p1.run σ H1 F1 (S.go g1) _ fun y H2 F2 d2 m2 p2 g2 r2 => ?_
  obtain ⟨i, d, rfl, hi, p2⟩ := p2
  have r1 := r1.up g2.grow
  cases r2
  cases hi with
  | lst h =>
    cases r1 with
    | lst h1 h2 =>
      obtain ⟨v, e, r⟩ := rps_atI h2 h
      exact .inl ⟨_, _, i, v, rfl, rfl, .inl (.inl (g2.std.at h1)), e, q v H2 F2 _ _ p2 (g1.trans g2) r⟩
  | fls h =>
    cases r1 with
    | fls h1 h2 =>
      obtain ⟨v, e, r⟩ := rps_atI h2 h
      exact .inl ⟨_, _, i, v, rfl, rfl, g2.std.toH.seq h1, e, q v H2 F2 _ _ p2 (g1.trans g2) r⟩
  | tup h =>
    cases r1 with
    | tup h1 h2 =>
      obtain ⟨v, e, r⟩ := rps_atI h2 h
      exact .inr (.inl ⟨_, _, i, v, rfl, rfl, Same.seqT g2.std.toH h1, e, q v H2 F2 _ _ p2 (g1.trans g2) r⟩)
  | str hz h =>
    cases r1
    exact .inr (.inr ⟨_, i, _, rfl, rfl, hz, h, q _ H2 F2 _ _ p2 (g1.trans g2) (.str _)⟩)
/-- a place of a list that changes -/
theorem xe_ixM {p : Addr} (h : XE X F0 a ρ m fun d1 m1 => d1 = .raw (.ref p) ∧ XE X F0 b ρ m1 fun d2 m2 => ∃ i ds d, d2 = .int i ∧ m2 p = some (.lst ds) ∧ atI ds i = some d ∧ P d m2) (hs : PlainIx b := by exact fun _ _ => rfl) : XE X F0 (.Subscript a b pos) ρ m P := .mk fun σ H F S Q q => by
  refine wE_of (pe_ix ix_list pe_w pe_w hs) ?_
  refine h.run σ H F S _ fun x H1 F1 d1 m1 p1 g1 r1 => ?_
  obtain ⟨rfl, p1⟩ := p1
  refine p1.run σ H1 F1 (S.go g1) _ fun y H2 F2 d2 m2 p2 g2 r2 => ?_
  obtain ⟨i, ds, d, rfl, hp, hi, p2⟩ := p2
  cases r1; cases r2
  obtain ⟨vs, e, r⟩ := g2.std.cells p _ hp
  obtain ⟨v, e1, r1⟩ := rps_atI r hi
  exact ⟨p, vs, i, v, rfl, rfl, .inl (.inl e), e1, q v H2 F2 _ _ p2 (g1.trans g2) r1⟩
/-- if, with a test known by what is true of it -/
theorem x1_ifE {sa sb : List Stmt} {PT : Bool → MS → Prop} (hc : XTE X F0 c ρ m PT) (ha : ∀ m1, PT true m1 → XS X F0 sa ρ m1 A) (hb : ∀ m1, PT false m1 → XS X F0 sb ρ m1 A) : X1 X F0 (.If c sa sb pos) ρ m A := .mk fun σ H F S E kk => by
  refine wS_of (ps_if pt_w pss_w pss_w) ?_
  refine hc.run σ H F S _ fun k H1 F1 m1 p1 g => ?_
  cases k with
  | true => exact iteT ((ha m1 p1).run σ H1 F1 (S.go g) E (kk.go g))
  | false => exact iteF ((hb m1 p1).run σ H1 F1 (S.go g) E (kk.go g))
/-- xs.append(e), xs a list that changes -/
theorem x1_append {p : Addr} {apos cpos : Pos} (h : XE X F0 a ρ m fun d1 m1 => d1 = .raw (.ref p) ∧ (∃ ds, m1 p = some (.lst ds)) ∧ XE X F0 e ρ m1 fun d m2 => ∃ ds, m2 p = some (.lst ds) ∧ ds.length < 100000 ∧ A.nx ρ (mset m2 p (.lst (ds ++ [d]))))
    (hs : swapsWith (.Call (.Attribute a "append" apos) [e] [] cpos) none pos.line X.env = pure false := by rfl)
    (hbm : ∀ {ta : TE} {te : TE}, PE X a ta → PE X e te → PE X (.Call (.Attribute a "append" apos) [e] [] cpos) (tBM X.K "list" rAppend ta (tCons te tNil)) := by
      intro ta te h1 h2
      exact pe_bm PySem.F.plainAttrs_list PySem.F.slot_list_append PySem.F.type_list_append mt_append h1 (pa_cons h2 pa_nil)) :
    X1 X F0 (.Expr (.Call (.Attribute a "append" apos) [e] [] cpos) pos) ρ m A := .mk fun σ H F S E k => by
  refine wS_of (ps_expr (hbm pe_w pe_w) hs) ?_
  refine h.run σ H F S _ fun x H1 F1 d1 m1 p1 g1 r1 => ?_
  obtain ⟨rfl, ⟨ds0, hp0⟩, p1⟩ := p1
  cases r1
  obtain ⟨vs0, e0, _⟩ := g1.std.cells p _ hp0
  refine ⟨.inl ⟨rfl, _, .inl (.inl e0)⟩, ?_⟩
  refine p1.run σ H1 F1 (S.go g1) _ fun y H2 F2 d m2 p2 g2 r2 => ?_
  obtain ⟨ds, hp, hz, hA⟩ := p2
  obtain ⟨vs, e1, r⟩ := g2.std.cells p _ hp
  have g4 : Go X.K m2 H2 F2 (mset m2 p (.lst (ds ++ [d]))) (upd H2 p (.lst (vs ++ [y]))) F2 := Go.put g2.std hp ⟨_, upd_same, r.append (.one r2)⟩
  refine ⟨p, vs, y, rfl, rfl, e1, by rw [r.length]; exact Nat.lt_trans hz (by decide), ?_⟩
  exact k.nx _ _ _ _ _ hA ((g1.trans g2).trans g4) (S.go ((g1.trans g2).trans g4))
/-! ### isinstance of built-in types -/
def tyD : D → String
  | .non => "NoneType" | .bl _ => "bool" | .int _ => "int" | .str _ => "str" | .lst _ => "list" | .tup _ => "tuple" | .fls _ => "list" | .raw _ => ""
def goodTy : D → Bool
  | .raw _ => false
  | .fls _ => false
  | _ => true
theorem tyX_of {K : PySem.W.Frag} {H F : Hp} {v : V} (s : Std K m H F) (r : Rp K F v d) (h : goodTy d = true) : TyX K H v (.type (tyD d)) := by
  cases r with
  | non => exact .base .non
  | bl b => exact .base (.bl b)
  | int i => exact .base (.int i)
  | str x => exact .base (.str x)
  | lst h1 _ => exact .base (.lst (s.at h1))
  | tup h1 _ =>
    rcases h1 with (h1 | ⟨o, h1⟩) | ⟨o, its, n, h1, h3, _⟩
    · exact .base (.tup (s.at h1))
    · exact .fTuple (s.at h1)
    · exact .kTuple h1 h3
  | fls _ _ => cases h
  | raw v => cases h
theorem xd_isinst {p : Pos} {T : String} {k : Bool} (hm : X.mg "isinstance" = none) (ha : XD X F0 a ρ m d m1) (hb : XD X F0 b ρ m1 (.raw (.ty T)) m2) (hk : kitB (tyD d) T = some k) (h : goodTy d = true) (hg : Gl X "isinstance" := by rfl)
    (he : starEach [a, b] X.env = (false, eval a X.env) :: starEach [b] X.env := by rfl) (he2 : starEach [b] X.env = (false, eval b X.env) :: starEach [] X.env := by rfl) (hpl : (backTo pos (starEach [b] X.env)).any (·.1) = false := by rfl) : XD X F0 (.Call (.Name "isinstance" p) [a, b] [] pos) ρ m (.bl k) m2 := by
  refine xd_callB call_isi ?_ hm (xa_cons ha (xa_cons hb xa_nil he2) he) (by decide +kernel) hg (by decide) (by decide) he hpl
  refine rdc_id fun vs H F s rv => ⟨_, .bl _, fun Q q => ?_⟩
  obtain ⟨v, w, rfl, r1, r2⟩ := rps2 rv
  cases r2
  exact ⟨v, .ty T, _, _, k, rfl, .ty T, tyX_of s r1 h, kit_ty hk, q⟩
theorem xd_isinst2 {p tpos : Pos} {T1 T2 : String} {k1 k2 : Bool} {e1 e2 : Expr} {kk : Nat} (hm : X.mg "isinstance" = none) (ha : XD X F0 a ρ m d m1) (h1 : PE X e1 (tC (.ty T1))) (h2 : PE X e2 (tC (.ty T2))) (hk1 : kitB (tyD d) T1 = some k1) (hk2 : kitB (tyD d) T2 = some k2) (h : goodTy d = true) (hg : Gl X "isinstance" := by rfl)
    (he : starEach [a, .Tuple [e1, e2] kk tpos] X.env = (false, eval a X.env) :: starEach [.Tuple [e1, e2] kk tpos] X.env := by rfl) (he2 : starEach [.Tuple [e1, e2] kk tpos] X.env = (false, eval (.Tuple [e1, e2] kk tpos) X.env) :: starEach [] X.env := by rfl) (hpl : (backTo pos (starEach [.Tuple [e1, e2] kk tpos] X.env)).any (·.1) = false := by rfl)
    (he3 : starEach [e1, e2] X.env = (false, eval e1 X.env) :: starEach [e2] X.env := by rfl) (he4 : starEach [e2] X.env = (false, eval e2 X.env) :: starEach [] X.env := by rfl) : XD X F0 (.Call (.Name "isinstance" p) [a, .Tuple [e1, e2] kk tpos] [] pos) ρ m (.bl (k1 || k2)) m1 := .mk fun σ H F S Q q => by
  refine wE_of (pe_callB call_isiT hg hm (by decide +kernel) (pa_cons pe_w (pa_cons (pe_tup (pa_cons h1 (pa_cons h2 pa_nil he4) he3)) pa_nil he2) he) (by decide) (by decide) he hpl) ?_
  refine ha.run σ H F S _ fun x H1 F1 g1 r1 => ?_
  refine ⟨by show 2 ≤ sizeLine; decide, fun tp hp => ?_⟩
  have g2 := g1.trans (Go.junk (o := .tup [.ty T1, .ty T2]) g1.std hp)
  refine ⟨x, tp, [.ty T1, .ty T2], _, [.type T1, .type T2], k1 || k2, rfl, upd_same, .cons (.ty T1) (.cons (.ty T2) .nil), tyX_of (m := m1) g2.std r1 h, ?_, q _ _ _ g2 (.bl _)⟩
  refine kitAny_cons (kit_ty hk1) (fun e => ?_) (fun e => by rw [e]; rfl)
  refine kitAny_cons (kit_ty hk2) (fun e' => ?_) (fun e' => by rw [e']; cases k1 <;> rfl)
  rw [e, e']
  rfl
theorem pe_tyN {x : Str} {T : String} (hm : X.mg x = none) (hv : bootBuiltins x = some (.type T) := by decide +kernel) (hg : Gl X x := by rfl) (hn : x ≠ "__name__" := by decide) (hd : (x == ("__debug__" : Str)) = false := by decide) : PE X (.Name x pos) (tC (.ty T)) := pe_bltn hg hm hv rfl hn hd
theorem xd_ty {x : Str} {T : String} (hm : X.mg x = none) (hv : bootBuiltins x = some (.type T) := by decide +kernel) (hg : Gl X x := by rfl) (hn : x ≠ "__name__" := by decide) (hd : (x == ("__debug__" : Str)) = false := by decide) : XD X F0 (.Name x pos) ρ m (.raw (.ty T)) m := xd_c (pe_tyN hm hv hg hn hd) fun _ => .raw _
end
/-! ### a law's end -/
def m00 : MS := fun _ => none
def a_law : ASp := fun ss m Q => ∃ ns : List Int, ss = [.fls (ns.map D.int)] ∧ ns.length ≤ 63 ∧ m = m00 ∧ ∀ m', Q (.bl true) m'
theorem law_in {K : PySem.W.Frag} {H : Hp} (a : Addr) (ns : List Int) (hl : ns.length ≤ 63) (hS : SqL K H a (ns.map V.int)) : spA K a_law [.ref a] H (fun v _ => v = .bl true) fun _ _ _ => False := by
  refine ⟨H, [.fls (ns.map D.int)], m00, fun d _ => d = .bl true, ⟨fun b o e => fz_of rfl e, fun p c e => nomatch e⟩, .one (.fls hS (Rps.of_ints ns)), ⟨ns, rfl, hl, rfl, fun _ => rfl⟩, fun v H' F' d m' p g r => ?_⟩
  subst p
  cases r
  rfl
end Mu

set_option Elab.async false
set_option linter.all false
set_option maxRecDepth 100000
set_option maxHeartbeats 4000000
namespace Mu
open PySem PySem.Spec L2
open PyProof.Rows hiding St
/-! ### data of a type of one's own -/
abbrev tupI (xs : List Int) : D := .tup (xs.map D.int)
theorem zipD_map {α β : Type} (f : α → D) (g : β → D) (xs : List α) (ys : List β) : zipD (xs.map f) (ys.map g) = (xs.zip ys).map fun p => .tup [f p.1, g p.2] := by
  unfold zipD
  rw [List.zip_map, List.map_map]
  rfl
theorem map_get {α : Type} {f : α → D} {L : List α} {i : Nat} {d : D} (h : (L.map f)[i]? = some d) : ∃ x, L[i]? = some x ∧ x ∈ L ∧ d = f x := by
  rw [List.getElem?_map] at h
  cases e : L[i]? with
  | none => rw [e] at h; cases h
  | some x => rw [e] at h; exact ⟨x, rfl, List.mem_of_getElem? e, (Option.some.inj h).symm⟩
section
variable {X : Cx} {F0 : Hp} {e a b c : Expr} {es : List Expr} {ρ ρ' ρ1 : Env1} {m m' m1 m2 m3 : MS} {d d1 d2 d3 : D} {pos : Pos} {P : D → MS → Prop} {tg iter elt : Expr} {ifs : List Expr} {items : List D} {G : MS → Prop} {scope : Scope} {own : List (Str × Nat)} {A : AEnds}
theorem xd_mapA {α : Type} {L : List α} (g h : α → D) (hN : X.N.Nodup) (hi : XI X F0 tg iter ρ m (L.map g) m1 G) (ok : BlkOk X.N X.env.scope scope own) (hG : G m1) (hz : L.length ≤ 100000)
    (step : ∀ x ∈ L, LcStep X F0 scope tg [] elt (wipeR ρ (own.map (·.2))) (own.map (·.2)) (g x) m1 m1 (some (h x))) (hc : X.calm = true := by rfl) (hs : ∀ x, foldedSetIterable iter X.env x = pure x := by intro _; rfl) :
    XD X F0 (.ListComp elt [⟨tg, iter, [], 0⟩] scope pos) ρ m (.lst (L.map h)) m1 := XE.xd (xe_lc (own := own) (fun i acc mi => acc = (L.take i).map h ∧ mi = m1) hN hi ok ⟨rfl, rfl⟩ (fun i acc mi _ q => by rw [q.2]; exact hG) (by rw [List.length_map]; exact hz) (fun i d acc mi hd q => by
      obtain ⟨rfl, rfl⟩ := q
      obtain ⟨x, e1, e2, rfl⟩ := map_get hd
      refine (step x e2).mono fun o m q => ?_
      obtain ⟨rfl, rfl⟩ := q
      refine ⟨?_, rfl⟩
      rw [List.take_add_one, e1, List.map_append]
      rfl) (fun acc m' q => by
      obtain ⟨rfl, rfl⟩ := q
      refine ⟨?_, rfl⟩
      rw [List.length_map, List.take_length]) hc (by decide) hs)
theorem filterMap_take {α : Type} (f : α → Option D) {L : List α} {i : Nat} {x : α} (e : L[i]? = some x) : (L.take (i + 1)).filterMap f = (L.take i).filterMap f ++ (f x).toList := by
  rw [List.take_add_one, e, List.filterMap_append]
  cases h : f x <;> simp [h]
theorem xd_filtA {α : Type} {L : List α} (g : α → D) (h : α → Option D) (hN : X.N.Nodup) (hi : XI X F0 tg iter ρ m (L.map g) m1 G) (ok : BlkOk X.N X.env.scope scope own) (hG : G m1) (hz : L.length ≤ 100000)
    (step : ∀ x ∈ L, LcStep X F0 scope tg [c] elt (wipeR ρ (own.map (·.2))) (own.map (·.2)) (g x) m1 m1 (h x)) (hc : X.calm = true := by rfl) (hs : ∀ x, foldedSetIterable iter X.env x = pure x := by intro _; rfl) :
    XD X F0 (.ListComp elt [⟨tg, iter, [c], 0⟩] scope pos) ρ m (.lst (L.filterMap h)) m1 := XE.xd (xe_lc (own := own) (fun i acc mi => acc = (L.take i).filterMap h ∧ mi = m1) hN hi ok ⟨rfl, rfl⟩ (fun i acc mi _ q => by rw [q.2]; exact hG) (by rw [List.length_map]; exact hz) (fun i d acc mi hd q => by
      obtain ⟨rfl, rfl⟩ := q
      obtain ⟨x, e1, e2, rfl⟩ := map_get hd
      refine (step x e2).mono fun o m q => ?_
      obtain ⟨rfl, rfl⟩ := q
      exact ⟨filterMap_take h e1 ▸ rfl, rfl⟩) (fun acc m' q => by
      obtain ⟨rfl, rfl⟩ := q
      refine ⟨?_, rfl⟩
      rw [List.length_map, List.take_length]) hc (by simp) hs)
/-- cells that are no more asked for -/
theorem xe_drop (h : XE X F0 e ρ m fun d m' => ∃ m'', MLe m'' m' ∧ P d m'') : XE X F0 e ρ m P := .mk fun σ H F S Q q => by
  refine h.run σ H F S _ fun v H1 F1 d m1 p g r => ?_
  obtain ⟨m2, hm, p⟩ := p
  have k := Go.less g.std hm
  exact q v H1 F1 d m2 p (g.trans k) r
/-- tuple * int -/
theorem rdt_one {K : PySem.W.Frag} {ds : List D} {k : Int} (h1 : 2 ≤ k) (h2 : k ≤ 1000) (hd : ds ≠ []) (hl : ds.length ≤ 1000) : RD2 K (rRepT K) (.tup ds) (.int k) m (.tup (List.replicate k.toNat ds).flatten) m := fun x y H F s r1 r2 Q q => by
  cases r2
  cases r1 with
  | @tup a xs _ q1 q2 =>
    refine ⟨a, k, xs, rfl, rfl, Same.seqT s.toH q1, ?_, h1, h2, by rw [q2.length]; exact hl, fun p hp => q _ _ _ (Go.new s hp) (rp_newTup s hp ?_)⟩
    · intro e
      have := q2.length
      rw [e] at this
      exact hd (List.eq_nil_of_length_eq_zero this.symm)
    · generalize k.toNat = n
      induction n with
      | zero => exact .nil
      | succ n ih =>
        rw [List.replicate_succ, List.flatten_cons, List.replicate_succ, List.flatten_cons]
        exact q2.append ih
end
/-- a tuple times one is itself -/
theorem tuple_mul1 (l : Addr) (items : Array Value) (n : Nat) (dd : Option Addr) (sl : Array (Option Value)) (u : Tok) :
    Meets (Builtin.«tuple.__mul__» ⟨[.ref l, .int 1 u], []⟩) (fun _ R s => s.heap.get? l = some { cls := .type "tuple", dict := dd, data := .seq items n, slots := sl } ∧ R (.ok (.ret (Value.ref l))) s) :=
  .of_wp fun prog w A R s h => by
    obtain ⟨hp, g, d, tk, os⟩ := s
    obtain ⟨hl, h⟩ := h
    have f1 := AutoSeq1.idx_int
    have c1 : (items.isEmpty || (1 : Int) == 1) = true := by simp
    wp_walk using wpAny_loadPart' hl
    exact ⟨_, rfl, h⟩
def rRepT1 (K : PySem.W.Frag) : R2 := fun x y H Q => ∃ l xs, x = .ref l ∧ y = .int 1 ∧ SqT K H l xs ∧ Q (.ref l) H
theorem op_repT1 {X : Cx} : OpR X (binaryOp .Mult) (rRepT1 X.K) := by
  intro pins s σ H x y v u Q I rx ry h
  obtain ⟨l, xs, rfl, rfl, hT, q⟩ := h
  cases rx
  obtain ⟨t, rfl⟩ := ry
  obtain ⟨its, r, ⟨⟨cls, dd, data, sl⟩, ho, hc, n, hd⟩, hs⟩ := I.tuple hT
  simp only at hc hd
  subst hc hd
  refine wpAny_binaryOp_repeat_ref (T := "tuple") (U := "int") (by decide) ⟨_, ho, rfl⟩ (fun s' => typeIs_int s' 1 t) noFill_tuple_mul F.fills_int_mul F.slot_int_rmul repeat_tuple F.slot_int_index.lookup
    (call_meets F.slot_int_rmul (typeIs_int s 1 t) F.entry_int_rmul (F.args_int_rmul_2 _ _) (int_rmul_tuple 1 t l its.toArray n dd sl)
      ⟨ho, rfl, ⟨_, ho, rfl⟩, call_meets F.slot_tuple_mul ⟨_, ho, rfl⟩ F.entry_tuple_mul (F.args_tuple_mul_2 _ _) (tuple_mul1 l its.toArray n dd sl t) ⟨ho, ?_⟩⟩)
  exact ⟨.ref l, H, I, rfl, q⟩
theorem xd_mulT {X : Cx} {F0 : Hp} {a b : Expr} {ρ : Env1} {m m1 m2 : MS} {pos : Pos} {ds : List D} {k : Int} (ha : XD X F0 a ρ m (.tup ds) m1) (hb : XD X F0 b ρ m1 (.int k) m2) (h1 : 1 ≤ k) (h2 : k ≤ 1000) (hd : ds ≠ []) (hl : ds.length ≤ 1000) : XD X F0 (.BinOp a .Mult b pos) ρ m (.tup (List.replicate k.toNat ds).flatten) m2 := by
  by_cases h : k = 1
  · subst h
    have e : (List.replicate (1 : Int).toNat ds).flatten = ds := by simp
    rw [e]
    refine xd_op op_repT1 (fun x y H F s r1 r2 Q q => ?_) ha hb
    cases r2
    cases r1 with
    | @tup p xs _ q1 q2 => exact ⟨p, xs, rfl, rfl, Same.seqT s.toH q1, q _ _ _ (Go.refl s) (.tup q1 q2)⟩
  · exact xd_op op_repT (rdt_one (by omega) h2 hd hl) ha hb
/-! ### data that _law_alike may be asked of -/
def okD : Nat → D → Prop
  | _, .non => True
  | _, .bl _ => True
  | _, .int _ => True
  | _, .str _ => True
  | n + 1, .lst ds => ds.length ≤ 100000 ∧ ∀ d ∈ ds, okD n d
  | n + 1, .tup ds => ds.length ≤ 100000 ∧ ∀ d ∈ ds, okD n d
  | _, _ => False
theorem okD_ints (n : Nat) (xs : List Int) (h : xs.length ≤ 100000) : okD (n + 1) (tupI xs) := ⟨by rw [List.length_map]; exact h, fun d hd => by
  obtain ⟨x, _, rfl⟩ := List.mem_map.mp hd
  cases n <;> trivial⟩
theorem okD_int (n : Nat) (i : Int) : okD n (.int i) := by cases n <;> trivial
theorem okD_bl (n : Nat) (i : Bool) : okD n (.bl i) := by cases n <;> trivial
theorem okD_str (n : Nat) (i : Str) : okD n (.str i) := by cases n <;> trivial
theorem okD_non (n : Nat) : okD n .non := by cases n <;> trivial
theorem kit_yes {a : String} : kitB a a = some true := by unfold kitB; rw [if_pos (beq_self_eq_true _)]
section
variable {X : Cx} {F0 : Hp} {e a b c : Expr} {ρ ρ' ρ1 : Env1} {m m' m1 m2 m3 : MS} {d d1 d2 d3 : D} {pos : Pos} {P : D → MS → Prop} {A : AEnds}
/-- a, b = x, y of plain local names -/
theorem x1_par {i j : Nat} {x y : Str} {px py pt pt2 : Pos} {kt k2 : Nat} (h : XE X F0 a ρ m fun d1 m1 => XE X F0 b ρ m1 fun d2 m2 => A.nx ((ρ.set i (some d1)).set j (some d2)) m2) (hN : X.N.Nodup) (hij : i ≠ j) (hi : X.N[i]? = some x := by rfl) (hj : X.N[j]? = some y := by rfl) (hc : X.calm = true := by rfl)
    (hx : X.env.scope.names.lookup x = some .local := by rfl) (hy : X.env.scope.names.lookup y = some .local := by rfl)
    (hw : swappedStores [.Tuple [.Name x px, .Name y py] kt pt] (.Tuple [a, b] k2 pt2) X.env = pure (some [x, y]) := by rfl)
    (hs : swapsWithSole [.Tuple [.Name x px, .Name y py] kt pt] (.Tuple [a, b] k2 pt2) pos.line X.env = pure false := by rfl) (h1 : starEach [a, b] X.env = (false, eval a X.env) :: starEach [b] X.env := by rfl) (h2 : starEach [b] X.env = (false, eval b X.env) :: starEach [] X.env := by rfl) :
    X1 X F0 (.Assign [.Tuple [.Name x px, .Name y py] kt pt] (.Tuple [a, b] k2 pt2) pos) ρ m A := .mk fun σ H F S E k pins s I => by
  have hl := nx_of_inv I hi
  have hl2 := nx_of_inv I hj
  refine wS_of (ps_par hc hN hi hj hij hx hy (pa_cons pe_w (pa_cons pe_w pa_nil h2) h1) hw hs) ?_ pins s I
  refine h.run σ H F S _ fun v H1 F1 d1 m1 p1 g1 r1 => p1.run σ H1 F1 (S.go g1) _ fun w H2 F2 d2 m2 p2 g2 r2 => ?_
  refine ⟨v, w, rfl, k.nx _ H2 F2 _ m2 p2 (g1.trans g2) ?_⟩
  exact (((S.go g1).go g2).set (r1.up g2.grow _) hl).set r2 (by rw [List.length_set]; exact hl2)
end
/-! ### a loop over what is known by what is true of it -/
structure XIE (X : Cx) (F0 : Hp) (tg iter : Expr) (ρ : Env1) (m : MS) (P : List D → MS → (MS → Prop) → Prop) : Prop where
  run : ∀ σ H F, StR X.K F0 σ H F ρ m → ∀ R : It → Hp → Prop, (∀ J H' F' items m' G, P items m' G → Go X.K m H F m' H' F' → WalkD X.K F' J items G → R J H') → wI X tg iter σ H R
section
variable {X : Cx} {F0 : Hp} {e a b c tg iter : Expr} {body : List Stmt} {ρ ρ' ρ1 : Env1} {m m' m1 m2 m3 : MS} {d d1 d2 d3 : D} {pos : Pos} {P : D → MS → Prop} {A : AEnds} {items : List D} {G : MS → Prop}
theorem XI.xie {P : List D → MS → (MS → Prop) → Prop} (h : XI X F0 tg iter ρ m items m' G) (p : P items m' G) : XIE X F0 tg iter ρ m P := .mk fun σ H F S R q => h.run σ H F S R fun J H' F' g wd => q J H' F' items m' G p g wd
theorem walkD_lst {K : PySem.W.Frag} {F1 : Hp} {a : Addr} {xs : List V} (h1 : F1 a = some (.lst xs)) (h2 : Rps K F1 xs items) : WalkD K F1 (Itl K a) items fun _ => True := by
  refine ⟨fun i H F m hi s sd _ => ?_, fun H F m s sd _ => ?_, fun i H F m x H' d hd s sd _ y => ?_⟩
  · rw [← h2.length] at hi
    exact ⟨xs, xs[i], .inl (.inl (sd.at (s _ _ h1))), by simp [hi]⟩
  · exact ⟨xs, .inl (.inl (sd.at (s _ _ h1))), by rw [h2.length]; exact Nat.le_refl _⟩
  · obtain ⟨rfl, y⟩ := y
    have e := y xs (.inl (.inl (sd.at (s _ _ h1))))
    obtain ⟨v, e2, r⟩ := h2.get hd
    rw [e] at e2; cases e2
    exact ⟨F, Go.refl sd, r.up s _⟩
theorem xie_list {P : List D → MS → (MS → Prop) → Prop} (h : XE X F0 iter ρ m fun d m1 => ∃ items, d = .lst items ∧ P items m1 fun _ => True) : XIE X F0 tg iter ρ m P := .mk fun σ H F S R q => by
  refine wI_of (pi_list pe_w) ?_
  refine h.run σ H F S _ fun v H1 F1 d m1 p1 g1 r1 => ?_
  obtain ⟨items, rfl, p1⟩ := p1
  cases r1 with
  | @lst a xs _ h1 h2 => exact ⟨a, rfl, ⟨xs, .inl (.inl (g1.std.at h1))⟩, q _ H1 F1 items m1 _ p1 g1 (walkD_lst h1 h2)⟩
theorem x1_forE (hi : XIE X F0 tg iter ρ m fun items m1 G => ∃ Iv : Nat → Env1 → MS → Prop, Iv 0 ρ m1 ∧ (∀ i ρ m, Iv i ρ m → G m) ∧
      (∀ (i : Nat) (d : D) ρ' m', items[i]? = some d → Iv i ρ' m' → ∃ ρ2 vs, XG X F0 tg d ρ' ρ2 vs ∧ XS X F0 body ρ2 m' { nx := Iv (i + 1), rt := A.rt, bk := A.nx, ct := Iv (i + 1) }) ∧ (∀ ρ' m', Iv items.length ρ' m' → A.nx ρ' m'))
    (hp : PassesOwn (model X.prog X.w) X.A X.env X.xe := by exact PassesOwn.never) (hc : X.calm = true := by rfl) (hs : ∀ x, foldedSetIterable iter X.env x = pure x := by intro _; rfl) : X1 X F0 (.For tg iter body [] pos) ρ m A := .mk fun σ H F S E k => by
  refine wS_of (ps_for hp hc pi_w pg_w pss_w hs) ?_
  refine hi.run σ H F S _ fun J H1 F1 items m1 G p1 g1 wd => ?_
  obtain ⟨Iv, h0, hG, step, hd⟩ := p1
  refine ⟨fun i n σ' H' => n = items.length - i ∧ i ≤ items.length ∧ ∃ F' ρ' m', Iv i ρ' m' ∧ Go X.K m1 H1 F1 m' H' F' ∧ StR X.K F0 σ' H' F' ρ' m', ⟨items.length, by simp, Nat.zero_le _, F1, ρ, m1, h0, Go.refl g1.std, S.go g1⟩, ?_⟩
  rintro i n σ' H' ⟨rfl, hi, F', ρ', m', iv, g2, S'⟩
  by_cases hlt : i < items.length
  · refine .inr ⟨wd.goes i H' F' m' hlt g2.grow S'.std (hG i _ _ iv), fun σ2 H2 => ∃ F2 ρ2 m2, Iv (i + 1) ρ2 m2 ∧ Go X.K m1 H1 F1 m2 H2 F2 ∧ StR X.K F0 σ2 H2 F2 ρ2 m2, fun σ2 H2 q => ⟨items.length - (i + 1), by omega, rfl, hlt, q⟩, fun x H2 y => ?_⟩
    obtain ⟨F2, g3, r⟩ := wd.yields i H' F' m' x H2 items[i] (List.getElem?_eq_getElem hlt) g2.grow S'.std (hG i _ _ iv) y
    obtain ⟨ρ2, vs, xg, xb⟩ := step i items[i] ρ' m' (List.getElem?_eq_getElem hlt) iv
    refine xg.run σ' H2 F2 m' x (S'.go g3) r _ fun σ3 S3 _ _ => ?_
    refine xb.run σ3 H2 F2 S3 _ ⟨?_, ?_, ?_, ?_⟩
    · exact fun σ4 H4 F4 ρ4 m4 p g4 S4 => ⟨F4, ρ4, m4, p, (g2.trans g3).trans g4, S4⟩
    · exact fun v H4 F4 d m4 p g4 r4 => k.rt v H4 F4 d m4 p (((g1.trans g2).trans g3).trans g4) r4
    · exact fun σ4 H4 F4 ρ4 m4 p g4 S4 => k.nx σ4 H4 F4 ρ4 m4 p (((g1.trans g2).trans g3).trans g4) S4
    · exact fun σ4 H4 F4 ρ4 m4 p g4 S4 => ⟨F4, ρ4, m4, p, (g2.trans g3).trans g4, S4⟩
  · have e1 : i = items.length := by omega
    subst e1
    exact .inl ⟨wd.stops H' F' m' g2.grow S'.std (hG _ _ _ iv), k.nx σ' H' F' ρ' m' (hd ρ' m' iv) (g1.trans g2) S'⟩
end
section
variable {X : Cx} {F0 : Hp} {e : Expr} {ρ : Env1} {m : MS} {pos : Pos} {A : AEnds}
theorem x1_unpackE {tgs : List Expr} {kk : Nat} {tpos : Pos} (vs : List Nat) (he : XE X F0 e ρ m fun d m' => ∃ ρ', XG X F0 (.Tuple tgs kk tpos) d ρ ρ' vs ∧ A.nx ρ' m') (hs : swapsWithSole [.Tuple tgs kk tpos] e pos.line X.env = pure false := by rfl) (hw : swappedStores [.Tuple tgs kk tpos] e X.env = pure none := by rfl)
    (h1 : (assignEach [.Tuple tgs kk tpos] X.env).map (·.2) = [assign (.Tuple tgs kk tpos) X.env] := by rfl) : X1 X F0 (.Assign [.Tuple tgs kk tpos] e pos) ρ m A := .mk fun σ H F S E k => by
  refine wS_of (ps_asg pe_w pg_w hs hw h1) ?_
  refine he.run σ H F S _ fun v H1 F1 d m1 p1 g r => ?_
  obtain ⟨ρ', hg, h⟩ := p1
  exact hg.run σ H1 F1 m1 v (S.go g) r _ fun σ' S' _ _ => k.nx σ' H1 F1 ρ' m1 h g S'
end
end Mu

set_option Elab.async false
set_option linter.all false
set_option maxRecDepth 100000
set_option maxHeartbeats 4000000
namespace Mu
open PySem PySem.Spec L2
open PyProof.Rows hiding St
/-! ### data compared as data -/
mutual
def toPy : D → PyData
  | .non => .none
  | .bl b => .bool b
  | .int i => .int i
  | .str s => .str s
  | .lst ds => .list (toPys ds)
  | .tup ds => .tuple (toPys ds)
  | .fls ds => .list (toPys ds)
  | .raw _ => .none
def toPys : List D → List PyData
  | [] => []
  | d :: ds => toPy d :: toPys ds
end
mutual
/-- data that == takes: no references, texts of real signs, not too deep -/
def plD : Nat → D → Bool
  | _, .non => true
  | _, .bl _ => true
  | _, .int _ => true
  | _, .str s => PyData.strOk s
  | 0, .lst _ => false
  | n + 1, .lst ds => plDs n ds
  | 0, .tup _ => false
  | n + 1, .tup ds => plDs n ds
  | _, .fls _ => false
  | _, .raw _ => false
def plDs : Nat → List D → Bool
  | _, [] => true
  | n, d :: ds => plD n d && plDs n ds
end
mutual
theorem canLay_of : ∀ (n : Nat) (d : D), plD n d = true → (toPy d).canLay0 = true ∧ (toPy d).depth ≤ n
  | _, .non, _ => ⟨rfl, Nat.zero_le _⟩
  | _, .bl _, _ => ⟨rfl, Nat.zero_le _⟩
  | _, .int _, _ => ⟨rfl, Nat.zero_le _⟩
  | _, .str s, h => by
    have h' : PyData.strOk s = true := by unfold plD at h; exact h
    exact ⟨by unfold toPy PyData.canLay0; exact h', by unfold toPy PyData.depth; exact Nat.zero_le _⟩
  | 0, .lst _, h => by unfold plD at h; cases h
  | n + 1, .lst ds, h => by
    unfold plD at h
    obtain ⟨a, b⟩ := canLays_of n ds h
    exact ⟨by unfold toPy PyData.canLay0; exact a, by unfold toPy PyData.depth; omega⟩
  | 0, .tup _, h => by unfold plD at h; cases h
  | n + 1, .tup ds, h => by
    unfold plD at h
    obtain ⟨a, b⟩ := canLays_of n ds h
    exact ⟨by unfold toPy PyData.canLay0; exact a, by unfold toPy PyData.depth; omega⟩
  | _, .fls _, h => by unfold plD at h; cases h
  | _, .raw _, h => by unfold plD at h; cases h
theorem canLays_of : ∀ (n : Nat) (ds : List D), plDs n ds = true → PyData.canLayAll0 (toPys ds) = true ∧ PyData.depthAll (toPys ds) ≤ n
  | _, [], _ => ⟨rfl, Nat.zero_le _⟩
  | n, d :: ds, h => by
    unfold plDs at h
    obtain ⟨h1, h2⟩ := Bool.and_eq_true_iff.mp h
    obtain ⟨a1, a2⟩ := canLay_of n d h1
    obtain ⟨b1, b2⟩ := canLays_of n ds h2
    exact ⟨by unfold toPys PyData.canLayAll0; rw [a1, b1]; rfl, by unfold toPys PyData.depthAll; omega⟩
end
theorem shaped_of {n : Nat} {d : D} (h : plD n d = true) (hn : n ≤ 64) : SeqAt.shaped (toPy d) = true := by
  obtain ⟨a, b⟩ := canLay_of n d h
  unfold SeqAt.shaped
  rw [a, decide_eq_true (Nat.le_trans b hn)]
  rfl
section
variable {K : PySem.W.Frag} {m : MS} {H F : Hp}
mutual
theorem Rp.dp (s : Std K m H F) : ∀ (n : Nat) (d : D) {v : V}, plD n d = true → Rp K F v d → Dp K H v (toPy d)
  | _, .non, _, _, r => by cases r; unfold toPy; exact .non
  | _, .bl b, _, _, r => by cases r; unfold toPy; exact .bl b
  | _, .int i, _, _, r => by cases r; unfold toPy; exact .int i
  | _, .str x, _, _, r => by cases r; unfold toPy; exact .str x
  | 0, .lst _, _, h, _ => by unfold plD at h; cases h
  | n + 1, .lst ds, _, h, r => by
    unfold plD at h
    cases r with
    | lst h1 h2 => unfold toPy; exact .lst (.inl (.inl (s.at h1))) (Rps.dp s n ds h h2)
  | 0, .tup _, _, h, _ => by unfold plD at h; cases h
  | n + 1, .tup ds, _, h, r => by
    unfold plD at h
    cases r with
    | tup h1 h2 => unfold toPy; exact .tup (Same.seqT s.toH h1) (Rps.dp s n ds h h2)
  | _, .fls _, _, h, _ => by unfold plD at h; cases h
  | _, .raw _, _, h, _ => by unfold plD at h; cases h
theorem Rps.dp (s : Std K m H F) : ∀ (n : Nat) (ds : List D) {vs : List V}, plDs n ds = true → Rps K F vs ds → DpAll K H vs (toPys ds)
  | _, [], _, _, r => by cases r; unfold toPys; exact .nil
  | n, d :: ds, _, h, r => by
    unfold plDs at h
    obtain ⟨h1, h2⟩ := Bool.and_eq_true_iff.mp h
    cases r with
    | cons r1 r2 => unfold toPys; exact .cons (Rp.dp s n d h1 r1) (Rps.dp s n ds h2 r2)
end
end
def eqD (d e : D) : Bool := PyData.eqv (toPy d) (toPy e)
section
variable {X : Cx} {F0 : Hp} {e a b c : Expr} {es : List Expr} {ρ ρ' ρ1 : Env1} {m m' m1 m2 m3 : MS} {d d1 d2 d3 : D} {pos : Pos} {P : D → MS → Prop} {A : AEnds}
theorem rd_eqD {K : PySem.W.Frag} {n : Nat} (h1 : plD n d1 = true) (h2 : plD n d2 = true) (hn : n ≤ 64) : RD2 K (rEqD K) d1 d2 m (.bl (eqD d1 d2)) m := fun x y H F s r1 r2 Q q =>
  ⟨toPy d1, toPy d2, r1.dp s n d1 h1, r2.dp s n d2 h2, shaped_of h1 hn, shaped_of h2 hn, q _ H F (Go.refl s) (.bl _)⟩
theorem rd_neD {K : PySem.W.Frag} {n : Nat} (h1 : plD n d1 = true) (h2 : plD n d2 = true) (hn : n ≤ 64) : RD2 K (rNeD K) d1 d2 m (.bl (!eqD d1 d2)) m := fun x y H F s r1 r2 Q q =>
  ⟨toPy d1, toPy d2, r1.dp s n d1 h1, r2.dp s n d2 h2, shaped_of h1 hn, shaped_of h2 hn, q _ H F (Go.refl s) (.bl _)⟩
theorem xd_eqD {k : Nat} (n : Nat) (hr : Room k X.A) (ha : XD X F0 a ρ m d1 m1) (hb : XD X F0 b ρ m1 d2 m2) (h1 : plD n d1 = true) (h2 : plD n d2 = true) (hn : n ≤ 64 := by decide) : XD X F0 (.Compare a [.Eq] [b] pos) ρ m (.bl (eqD d1 d2)) m2 := xd_cmp (op_eqD hr.units) (rd_eqD h1 h2 hn) ha hb (nomark _)
theorem xd_neD {k : Nat} (n : Nat) (hr : Room k X.A) (ha : XD X F0 a ρ m d1 m1) (hb : XD X F0 b ρ m1 d2 m2) (h1 : plD n d1 = true) (h2 : plD n d2 = true) (hn : n ≤ 64 := by decide) : XD X F0 (.Compare a [.NotEq] [b] pos) ρ m (.bl (!eqD d1 d2)) m2 := xd_cmp (op_neD hr.units) (rd_neD h1 h2 hn) ha hb (nomark _)
theorem xt_eqD {k : Nat} (n : Nat) (hr : Room k X.A) (ha : XD X F0 a ρ m d1 m1) (hb : XD X F0 b ρ m1 d2 m2) (h1 : plD n d1 = true) (h2 : plD n d2 = true) (hn : n ≤ 64 := by decide) : XT X F0 (.Compare a [.Eq] [b] pos) ρ m (eqD d1 d2) m2 := xt_cmp (op_eqD hr.units) (rd_eqD h1 h2 hn) ha hb (nomark _)
theorem xt_neD {k : Nat} (n : Nat) (hr : Room k X.A) (ha : XD X F0 a ρ m d1 m1) (hb : XD X F0 b ρ m1 d2 m2) (h1 : plD n d1 = true) (h2 : plD n d2 = true) (hn : n ≤ 64 := by decide) : XT X F0 (.Compare a [.NotEq] [b] pos) ρ m (!eqD d1 d2) m2 := xt_cmp (op_neD hr.units) (rd_neD h1 h2 hn) ha hb (nomark _)
mutual
def noBl : D → Bool
  | .bl _ => false
  | .lst ds => noBls ds
  | .tup ds => noBls ds
  | .raw _ => false
  | .fls _ => false
  | _ => true
def noBls : List D → Bool
  | [] => true
  | d :: ds => noBl d && noBls ds
end
mutual
theorem eqv_iff : ∀ (d e : D), noBl d = true → noBl e = true → (PyData.eqv (toPy d) (toPy e) = true ↔ d = e)
  | .non, e, _, h => by cases e <;> simp [toPy, PyData.eqv, noBl] at *
  | .int i, e, _, h => by cases e <;> simp [toPy, PyData.eqv, noBl] at *
  | .str i, e, _, h => by cases e <;> simp [toPy, PyData.eqv, noBl] at *
  | .lst ds, e, h1, h => by
    unfold noBl at h1
    cases e with
    | lst es =>
      unfold noBl at h
      have := eqvs_iff ds es h1 h
      simp [toPy, PyData.eqv, this]
    | _ => simp [toPy, PyData.eqv, noBl] at *
  | .tup ds, e, h1, h => by
    unfold noBl at h1
    cases e with
    | tup es =>
      unfold noBl at h
      have := eqvs_iff ds es h1 h
      simp [toPy, PyData.eqv, this]
    | _ => simp [toPy, PyData.eqv, noBl] at *
  | .bl _, _, h, _ => by unfold noBl at h; cases h
  | .raw _, _, h, _ => by unfold noBl at h; cases h
  | .fls _, _, h, _ => by unfold noBl at h; cases h
theorem eqvs_iff : ∀ (ds es : List D), noBls ds = true → noBls es = true → (PyData.eqvAll (toPys ds) (toPys es) = true ↔ ds = es)
  | [], [], _, _ => by simp [toPys, PyData.eqvAll]
  | [], e :: es, _, _ => by simp [toPys, PyData.eqvAll]
  | d :: ds, [], _, _ => by simp [toPys, PyData.eqvAll]
  | d :: ds, e :: es, h1, h2 => by
    unfold noBls at h1 h2
    obtain ⟨a1, a2⟩ := Bool.and_eq_true_iff.mp h1
    obtain ⟨b1, b2⟩ := Bool.and_eq_true_iff.mp h2
    have i1 := eqv_iff d e a1 b1
    have i2 := eqvs_iff ds es a2 b2
    simp [toPys, PyData.eqvAll, i1, i2]
end
theorem eqD_iff {d e : D} (h1 : noBl d = true) (h2 : noBl e = true) : eqD d e = true ↔ d = e := eqv_iff d e h1 h2

/-! ### slices, + of tuples, lists and texts -/
structure XO (X : Cx) (F0 : Hp) (e : Option Expr) (ρ : Env1) (m : MS) (o : Option Int) (m' : MS) : Prop where
  run : ∃ t, PO X e t ∧ ∀ σ H F, StR X.K F0 σ H F ρ m → ∀ Q : Option Int → Hp → Prop, (∀ H' F', Go X.K m H F m' H' F' → Q o H') → t σ H Q
theorem xo_none : XO X F0 none ρ m none m := ⟨_, po_none, fun σ H F S Q q => q H F (Go.refl S.std)⟩
theorem xo_some {i : Int} (h : XD X F0 e ρ m (.int i) m') : XO X F0 (some e) ρ m (some i) m' := ⟨_, po_some pe_w, fun σ H F S Q q => by
  refine h.run σ H F S _ fun v H1 F1 g r => ?_
  cases r
  exact ⟨i, rfl, q H1 F1 g⟩⟩
def cutD (xs : List D) (lo hi : Option Int) : List D := (xs.drop (HT.sIx xs.length 0 lo)).take (HT.sIx xs.length xs.length hi - HT.sIx xs.length 0 lo)
theorem Rps.cut {K : PySem.W.Frag} {F : Hp} {vs : List V} {ds : List D} (h : Rps K F vs ds) (lo hi : Option Int) : Rps K F (cutV vs lo hi) (cutD ds lo hi) := by
  unfold cutV cutD
  rw [h.length]
  exact (h.drop _).take _
variable {lo hi : Option Expr} {l u : Option Int} {p2 : Pos}
theorem xd_slT {ds : List D} (ha : XD X F0 a ρ m (.tup ds) m1) (hl : XO X F0 lo ρ m1 l m2) (hh : XO X F0 hi ρ m2 u m3) : XD X F0 (.Subscript a (.Slice lo hi none p2) pos) ρ m (.tup (cutD ds l u)) m3 := .mk fun σ H F S Q q => by
  obtain ⟨tl, pl, kl⟩ := hl.run
  obtain ⟨th, ph, kh⟩ := hh.run
  refine wE_of (pe_slice sl_tupA pe_w pl ph) ?_
  refine ha.run σ H F S _ fun x H1 F1 g1 r1 => kl σ H1 F1 (S.go g1) _ fun H2 F2 g2 => kh σ H2 F2 ((S.go g1).go g2) _ fun H3 F3 g3 => ?_
  have g := (g1.trans g2).trans g3
  have r1 := (r1.up g2.grow).up g3.grow
  cases r1 with
  | @tup p vs _ h1 h2 =>
    refine ⟨p, vs, rfl, Same.seqT g3.std.toH h1, fun z => ?_, fun _ q1 hq1 => ?_⟩
    · refine q _ _ _ g ?_
      have e : cutD ds l u = ds := by
        unfold cutD
        rw [← h2.length, z.1, z.2, List.drop_zero, Nat.sub_zero, h2.length]
        exact List.take_length
      rw [e]
      exact .tup h1 h2
    · exact q _ _ _ (g.trans (Go.new g3.std hq1)) (rp_newTup g3.std hq1 (h2.cut l u))
theorem xd_slL {ds : List D} (ha : XD X F0 a ρ m (.lst ds) m1) (hl : XO X F0 lo ρ m1 l m2) (hh : XO X F0 hi ρ m2 u m3) : XD X F0 (.Subscript a (.Slice lo hi none p2) pos) ρ m (.lst (cutD ds l u)) m3 := .mk fun σ H F S Q q => by
  obtain ⟨tl, pl, kl⟩ := hl.run
  obtain ⟨th, ph, kh⟩ := hh.run
  refine wE_of (pe_slice sl_list pe_w pl ph) ?_
  refine ha.run σ H F S _ fun x H1 F1 g1 r1 => kl σ H1 F1 (S.go g1) _ fun H2 F2 g2 => kh σ H2 F2 ((S.go g1).go g2) _ fun H3 F3 g3 => ?_
  have g := (g1.trans g2).trans g3
  have r1 := (r1.up g2.grow).up g3.grow
  cases r1 with
  | @lst p vs _ h1 h2 =>
    refine ⟨p, vs, rfl, .inl (.inl (g3.std.at h1)), fun q1 hq1 => ?_⟩
    exact q _ _ _ (g.trans (Go.new g3.std hq1)) (rp_newLst g3.std hq1 (h2.cut l u))
theorem xd_slS {z : Str} (ha : XD X F0 a ρ m (.str z) m1) (hl : XO X F0 lo ρ m1 l m2) (hh : XO X F0 hi ρ m2 u m3) (hz : z.length ≤ sizeLine) : XD X F0 (.Subscript a (.Slice lo hi none p2) pos) ρ m (.str (cutS z l u)) m3 := .mk fun σ H F S Q q => by
  obtain ⟨tl, pl, kl⟩ := hl.run
  obtain ⟨th, ph, kh⟩ := hh.run
  refine wE_of (pe_slice sl_str pe_w pl ph) ?_
  refine ha.run σ H F S _ fun x H1 F1 g1 r1 => kl σ H1 F1 (S.go g1) _ fun H2 F2 g2 => kh σ H2 F2 ((S.go g1).go g2) _ fun H3 F3 g3 => ?_
  cases r1
  exact ⟨z, rfl, hz, q _ _ _ ((g1.trans g2).trans g3) (.str _)⟩
theorem rd_catT {K : PySem.W.Frag} {xs ys : List D} (hz : xs.length + ys.length ≤ 100000) : RD2 K (rCatA K) (.tup xs) (.tup ys) m (.tup (xs ++ ys)) m := fun x y H F s r1 r2 Q q => by
  cases r1 with
  | @tup a vs _ h1 h2 =>
    cases r2 with
    | @tup b ws _ h3 h4 =>
      refine ⟨a, b, vs, ws, rfl, rfl, Same.seqT s.toH h1, Same.seqT s.toH h3, ?_, fun e => ?_, fun _ e => ?_, fun _ _ p hp => ?_⟩
      · rw [h2.length, h4.length]; exact Nat.le_trans hz (by decide)
      · have e1 : xs = [] := List.eq_nil_of_length_eq_zero (by rw [← h2.length, e]; rfl)
        exact q _ H F (Go.refl s) (by rw [e1]; exact .tup h3 h4)
      · have e1 : ys = [] := List.eq_nil_of_length_eq_zero (by rw [← h4.length, e]; rfl)
        exact q _ H F (Go.refl s) (by rw [e1, List.append_nil]; exact .tup h1 h2)
      · exact q _ _ _ (Go.new s hp) (rp_newTup s hp (h2.append h4))
theorem xd_catT {xs ys : List D} (ha : XD X F0 a ρ m (.tup xs) m1) (hb : XD X F0 b ρ m1 (.tup ys) m2) (hz : xs.length + ys.length ≤ 100000) : XD X F0 (.BinOp a .Add b pos) ρ m (.tup (xs ++ ys)) m2 := xd_op op_catA (rd_catT hz) ha hb
theorem rd_catL {K : PySem.W.Frag} {xs ys : List D} (hz : xs.length + ys.length ≤ 100000) : RD2 K rCat (.lst xs) (.lst ys) m (.lst (xs ++ ys)) m := fun x y H F s r1 r2 Q q => by
  cases r1 with
  | @lst a vs _ h1 h2 =>
    cases r2 with
    | @lst b ws _ h3 h4 =>
      refine ⟨a, b, vs, ws, rfl, rfl, s.at h1, s.at h3, ?_, fun p hp => ?_⟩
      · rw [h2.length, h4.length]; exact Nat.le_trans hz (by decide)
      · exact q _ _ _ (Go.new s hp) (rp_newLst s hp (h2.append h4))
theorem xd_catL {xs ys : List D} (ha : XD X F0 a ρ m (.lst xs) m1) (hb : XD X F0 b ρ m1 (.lst ys) m2) (hz : xs.length + ys.length ≤ 100000) : XD X F0 (.BinOp a .Add b pos) ρ m (.lst (xs ++ ys)) m2 := xd_op op_cat (rd_catL hz) ha hb
theorem xe_catT (h : XE X F0 a ρ m fun d1 m1 => ∃ xs, d1 = .tup xs ∧ XE X F0 b ρ m1 fun d2 m2 => ∃ ys, d2 = .tup ys ∧ xs.length + ys.length ≤ 100000 ∧ P (.tup (xs ++ ys)) m2) : XE X F0 (.BinOp a .Add b pos) ρ m P := xe_op op_catA (h.mono fun d1 m1 q => by
  obtain ⟨i, rfl, q⟩ := q
  refine q.mono fun d2 m2 q => ?_
  obtain ⟨j, rfl, hz, q⟩ := q
  exact ⟨_, _, rd_catT hz, q⟩)
def rAddS1 : R2 := fun x y H Q => ∃ i j, x = .str i ∧ y = .str j ∧ i.length + j.length ≤ sizeLine ∧ Q (.str (i ++ j)) H
theorem xd_addS {z w : Str} (ha : XD X F0 a ρ m (.str z) m1) (hb : XD X F0 b ρ m1 (.str w) m2) (hz : z.length + w.length ≤ sizeLine) : XD X F0 (.BinOp a .Add b pos) ρ m (.str (z ++ w)) m2 := xd_op (r := rAddS1) op_add_str (fun x y H F s r1 r2 Q q => by
  cases r1; cases r2
  exact ⟨z, w, rfl, rfl, hz, q _ H F (Go.refl s) (.str _)⟩) ha hb
end
end Mu

set_option Elab.async false
set_option linter.all false
set_option maxRecDepth 100000
set_option maxHeartbeats 4000000
namespace Mu
open PySem PySem.Spec L2
open PyProof.Rows hiding St
section
variable {X : Cx} {F0 : Hp} {e a b c : Expr} {es : List Expr} {ρ ρ' ρ1 : Env1} {m m' m1 m2 m3 : MS} {d d1 d2 d3 : D} {pos : Pos} {P : D → MS → Prop} {A : AEnds} {i j : Int}
theorem xd_neg (h : XD X F0 a ρ m (.int i) m1) : XD X F0 (.UnaryOp .USub a pos) ρ m (.int (-i)) m1 := .mk fun σ H F S Q q => by
  refine wE_of (pe_un un_neg pe_w) ?_
  refine h.run σ H F S _ fun v H1 F1 g r => ?_
  cases r
  exact ⟨_, rfl, q _ H1 F1 g (.int _)⟩
variable {tg : Expr}
theorem xi_rlen {p p2 pos2 : Pos} {n : Nat} (hm : X.mg "range" = none) (hl : X.mg "len" = none) (ha : XD X F0 a ρ m d m1) (hn : LenD d n) (hz : n ≤ 1000000) (hg : Gl X "range" := by rfl) (hg2 : Gl X "len" := by rfl) (he : starEach [a] X.env = (false, eval a X.env) :: starEach [] X.env := by rfl)
    (hs : starEach [.Call (.Name "len" p2) [a] [] pos2] X.env = (false, eval (.Call (.Name "len" p2) [a] [] pos2) X.env) :: starEach [] X.env := by rfl) :
    XI X F0 tg (.Call (.Name "range" p) [.Call (.Name "len" p2) [a] [] pos2] [] pos) ρ m ((List.range n).map fun i => .int ((0 : Int) + (i : Nat))) m1 fun _ => True := xi_range1 hm (xd_len hl ha hn hg2 he) (by omega) (by omega) hg hs
theorem xte_lt {PT : Bool → MS → Prop} (h : XE X F0 a ρ m fun d1 m1 => ∃ i, d1 = .int i ∧ XE X F0 b ρ m1 fun d2 m2 => ∃ j, d2 = .int j ∧ PT (decide (i < j)) m2) : XTE X F0 (.Compare a [.Lt] [b] pos) ρ m PT := xte_cmp op_lt (h.mono fun d1 m1 q => by
  obtain ⟨i, rfl, q⟩ := q
  refine q.mono fun d2 m2 q => ?_
  obtain ⟨j, rfl, q⟩ := q
  exact ⟨_, _, rd_I0 fun _ => .bl _, q⟩) (nomark _)
theorem xte_le {PT : Bool → MS → Prop} (h : XE X F0 a ρ m fun d1 m1 => ∃ i, d1 = .int i ∧ XE X F0 b ρ m1 fun d2 m2 => ∃ j, d2 = .int j ∧ PT (decide (i ≤ j)) m2) : XTE X F0 (.Compare a [.LtE] [b] pos) ρ m PT := xte_cmp op_le (h.mono fun d1 m1 q => by
  obtain ⟨i, rfl, q⟩ := q
  refine q.mono fun d2 m2 q => ?_
  obtain ⟨j, rfl, q⟩ := q
  exact ⟨_, _, rd_I0 fun _ => .bl _, q⟩) (nomark _)
theorem xte_gt {PT : Bool → MS → Prop} (h : XE X F0 a ρ m fun d1 m1 => ∃ i, d1 = .int i ∧ XE X F0 b ρ m1 fun d2 m2 => ∃ j, d2 = .int j ∧ PT (decide (j < i)) m2) : XTE X F0 (.Compare a [.Gt] [b] pos) ρ m PT := xte_cmp op_gt (h.mono fun d1 m1 q => by
  obtain ⟨i, rfl, q⟩ := q
  refine q.mono fun d2 m2 q => ?_
  obtain ⟨j, rfl, q⟩ := q
  exact ⟨_, _, rd_I0 fun _ => .bl _, q⟩) (nomark _)
theorem xte_ge {PT : Bool → MS → Prop} (h : XE X F0 a ρ m fun d1 m1 => ∃ i, d1 = .int i ∧ XE X F0 b ρ m1 fun d2 m2 => ∃ j, d2 = .int j ∧ PT (decide (j ≤ i)) m2) : XTE X F0 (.Compare a [.GtE] [b] pos) ρ m PT := xte_cmp op_ge (h.mono fun d1 m1 q => by
  obtain ⟨i, rfl, q⟩ := q
  refine q.mono fun d2 m2 q => ?_
  obtain ⟨j, rfl, q⟩ := q
  exact ⟨_, _, rd_I0 fun _ => .bl _, q⟩) (nomark _)
theorem xte_eq {PT : Bool → MS → Prop} (h : XE X F0 a ρ m fun d1 m1 => XE X F0 b ρ m1 fun d2 m2 => sc d1 d2 = true ∧ PT (scEq d1 d2) m2) : XTE X F0 (.Compare a [.Eq] [b] pos) ρ m PT := xte_cmp op_eq (h.mono fun d1 m1 q => q.mono fun d2 m2 q => ⟨_, _, rd_eq q.1, q.2⟩) (nomark _)
theorem xte_ne {PT : Bool → MS → Prop} (h : XE X F0 a ρ m fun d1 m1 => XE X F0 b ρ m1 fun d2 m2 => sc d1 d2 = true ∧ PT (!scEq d1 d2) m2) : XTE X F0 (.Compare a [.NotEq] [b] pos) ρ m PT := xte_cmp op_ne (h.mono fun d1 m1 q => q.mono fun d2 m2 q => ⟨_, _, rd_ne q.1, q.2⟩) (nomark _)
end
/-! ### cuts of typed lists -/
def cutA {α : Type} (xs : List α) (lo hi : Option Int) : List α := (xs.drop (HT.sIx xs.length 0 lo)).take (HT.sIx xs.length xs.length hi - HT.sIx xs.length 0 lo)
theorem cutD_map {α : Type} (f : α → D) (xs : List α) (lo hi : Option Int) : cutD (xs.map f) lo hi = (cutA xs lo hi).map f := by
  unfold cutD cutA
  rw [List.length_map, List.map_take, List.map_drop]
theorem cutD_len (ds : List D) (lo hi : Option Int) : (cutD ds lo hi).length ≤ ds.length := by
  unfold cutD
  rw [List.length_take, List.length_drop]
  omega
theorem at_ints (l : List Int) {i : Int} (h0 : 0 ≤ i) (h1 : i < l.length) : atI (l.map D.int) i = some (.int (l.getD i.toNat 0)) := by
  obtain ⟨k, rfl⟩ := Int.eq_ofNat_of_zero_le h0
  have hk : k < l.length := by omega
  refine atI_nat ?_
  rw [List.getElem?_map, List.getElem?_eq_getElem hk, Int.toNat_natCast, List.getD_eq_getElem?_getD, List.getElem?_eq_getElem hk]
  rfl
theorem cutA_to {α : Type} (xs : List α) (k : Nat) : cutA xs none (some (k : Int)) = xs.take k := by
  unfold cutA
  rw [HT.sIx_none, HT.sIx_nat, List.drop_zero, Nat.sub_zero]
  by_cases h : k ≤ xs.length
  · rw [Nat.min_eq_left h]
  · rw [Nat.min_eq_right (by omega), List.take_length, List.take_of_length_le (by omega)]
theorem cutA_from {α : Type} (xs : List α) (k : Nat) : cutA xs (some (k : Int)) none = xs.drop k := by
  unfold cutA
  rw [HT.sIx_none, HT.sIx_nat]
  by_cases h : k ≤ xs.length
  · rw [Nat.min_eq_left h, List.take_of_length_le (by rw [List.length_drop]; omega)]
  · rw [Nat.min_eq_right (by omega), List.drop_length, List.drop_eq_nil_of_le (by omega), List.take_nil]
end Mu
namespace Mu
open PySem PySem.Spec L2
open PyProof.Rows hiding St
/-! ### max, min of a tuple of ints -/
section
variable {prog : Program} {w : World} {A : Around} {E : Value → Shared → Prop} {s : Shared} {l : Addr} {its : List Value} {ns : List Int} {Q : Value → Shared → Prop} {xs : Array (Int × Tok)}
theorem iter_intTup {Q : Value → Shared → Prop} (hl : s.heap.IsTuple l (intItems xs))
    (h : ∀ s₂ : Shared, s₂ = { s with heap := s.heap.push { cls := .type "tuple_iterator", data := .fields #[.ref l, .int 0 0] } } →
      (s₂.heap.IsTupleIter s.heap.objs.size l 0 ∧ s₂.heap.IsTuple l (intItems xs)) → (∀ b ∈ [s.heap.objs.size, l], b < s₂.heap.objs.size) → l ≠ s.heap.objs.size → Q (.ref s.heap.objs.size) s₂) :
    wpAny (model prog w) A (pyIter (.ref l)) Q E s := by
  have hlt : l < s.heap.objs.size := by obtain ⟨_, e, _⟩ := hl; exact Heap.lt_size e
  refine wpAny_pyIter_tuple hl (h _ rfl ⟨⟨_, Heap.get?_push_size _ rfl, rfl, rfl⟩, hl.push _⟩ (fun b hb => ?_) (Nat.ne_of_lt hlt))
  show b < (s.heap.push _).objs.size
  rw [Heap.size_push]
  rcases List.mem_cons.mp hb with rfl | hb
  · exact Nat.lt_succ_self _
  · rcases List.mem_cons.mp hb with rfl | hb
    · exact Nat.lt_succ_of_lt hlt
    · cases hb
theorem old_keptT {h' : Heap} (hk : ∀ b o, b ∉ [s.heap.objs.size] → (s.heap.push { cls := .type "tuple_iterator", data := .fields #[.ref l, .int 0 0] }).get? b = some o → h'.get? b = some o) :
    ∀ b o, s.heap.get? b = some o → h'.get? b = some o := fun b o e => by
  refine hk b o (fun hm => ?_) (Heap.get?_push_of_some _ e)
  rcases List.mem_cons.mp hm with e1 | hm
  · exact absurd (e1 ▸ Heap.lt_size e) (Nat.lt_irrefl _)
  · cases hm
theorem max_intTup {Q : Value → Shared → Prop} (hh : A.handled = none) (hl : s.heap.IsTuple l (intItems xs)) (hne : 0 < xs.size)
    (h : ∀ v h' tk, (intItems xs)[argBest (fun i j => decide (numAt xs i > numAt xs j)) (xs.size - 1)]? = some v → (∀ b o, s.heap.get? b = some o → h'.get? b = some o) → Q v { s with heap := h', toks := tk }) :
    wpAny (model prog w) A (call (.builtin "max") [.ref l]) Q E s := by
  refine call_max_walk (iter_intTup hl fun s₂ e st hfp hlI => ?_)
  subst e
  refine ⟨_, _, _, _, _, _, _, rfl, Walks.tuple (A := A.in1) hh _ l hlI (intItems xs), st, hfp, by simpa [intItems] using hne, CmpOf.ints_gt (numAt xs) (fun _ _ => intItems_at), fun v h' tk hP hk => ?_⟩
  exact h v h' tk (by simpa [intItems] using hP) (old_keptT hk)
theorem max_rawT (hh : A.handled = none) (hl : s.heap.IsTuple l its.toArray) (hi : IntsAre its ns) (hne : 0 < ns.length)
    (h : ∀ h' tk M t', (∀ b o, s.heap.get? b = some o → h'.get? b = some o) → M ∈ ns → (∀ a, a ∈ ns → a ≤ M) → Q (.int M t') { s with heap := h', toks := tk }) : wpAny (model prog w) A (call (.builtin "max") [.ref l]) Q E s := by
  obtain ⟨xs, e⟩ := hi.allInts.items
  have hn : numsOf (intItems xs).toList = ns := by rw [← e]; exact hi.numsOf
  rw [nums_intItems] at hn
  subst hn
  rw [e] at hl
  have hsz : 0 < xs.size := by simpa using hne
  refine max_intTup hh hl hsz fun v h' tk hv hk => ?_
  obtain ⟨t, rfl⟩ := intItems_at hv
  obtain ⟨h1, h2⟩ := argBest_gt (numAt xs) (xs.size - 1)
  refine h h' tk _ t hk ?_ fun a ha => ?_
  · rw [numAt_eq]; exact PySem.getD_mem (by rw [List.length_map, Array.length_toList]; omega)
  · obtain ⟨j, hj, rfl⟩ := mem_getD ha
    rw [List.length_map, Array.length_toList] at hj
    rw [← numAt_eq]; exact h2 j (by omega)
end
section
variable {X : Cx} {F0 : Hp} {e a b c : Expr} {es : List Expr} {ρ ρ' ρ1 : Env1} {m m' m1 m2 m3 : MS} {d d1 d2 d3 : D} {pos : Pos} {P : D → MS → Prop} {A : AEnds} {i j : Int} {sts : List Stmt}
def rMaxT (K : PySem.W.Frag) : List V → Hp → VK → Prop := fun vs H Q => ∃ (a : Addr) (ns : List Int), vs = [V.ref a] ∧ SqT K H a (ns.map V.int) ∧ 0 < ns.length ∧ ∀ m, m ∈ ns → (∀ y, y ∈ ns → y ≤ m) → Q (.int m) H
theorem cr_maxT (hc : X.calm = true) : CallR X (.builtin "max") (rMaxT X.K) := by
  intro pins s σ H vs us Q I r h
  obtain ⟨a, ns, rfl, hs, hne, q⟩ := h
  obtain ⟨its, rv, hl, _⟩ := I.tuple hs
  rw [Vals.ref1 r]
  exact max_rawT (I.ok.hd hc) hl rv.ints hne fun h' tk m t' hk h1 h2 => ⟨.int _, H, I.kept hk, ⟨_, rfl⟩, q m h1 h2⟩
theorem xd_maxT {p : Pos} {is : List Int} {z : Int} (hm : X.mg "max" = none) (ha : XD X F0 a ρ m (tupI is) m1) (hz : z ∈ is) (hl : ∀ y ∈ is, y ≤ z) (hc : X.calm = true := by rfl) (hg : Gl X "max" := by rfl) (he : starEach [a] X.env = (false, eval a X.env) :: starEach [] X.env := by rfl) : XD X F0 (.Call (.Name "max" p) [a] [] pos) ρ m (.int z) m1 := by
  refine xd_callB (cr_maxT hc) ?_ hm (xa_cons ha xa_nil he) (by decide +kernel) hg (by decide) (by decide) he rfl
  refine rdc_id fun vs H F s rv => ⟨_, .int _, fun Q q => ?_⟩
  obtain ⟨v, rfl, r⟩ := rps1 rv
  cases r with
  | tup h1 h2 => exact ⟨_, is, rfl, by rw [← h2.ints]; exact Same.seqT s.toH h1, List.length_pos_of_mem hz, fun w w1 w2 => by
      have e1 := hl w w1; have e2 := w2 z hz
      rw [show w = z by omega]; exact q⟩
/-- a list that is no more changed becomes data -/
theorem xs_freeze (i : Nat) {p : Addr} {ds : List D} (hd : ρ[i]? = some (some (.raw (.ref p)))) (hp : m p = some (.lst ds)) (h : XS X F0 sts (ρ.set i (some (.lst ds))) (mdel m p) A) : XS X F0 sts ρ m A := .mk fun σ H F S E k => by
  obtain ⟨F', g, r⟩ := Go.freeze S.std hp
  obtain ⟨v, e1, e2⟩ := S.env i _ hd
  cases e2
  refine h.run σ H F' ⟨g.std, fun j d' e => ?_, S.old.trans g.grow⟩ E (k.go g)
  by_cases hj : i = j
  · subst hj
    rw [List.getElem?_set_self (List.getElem?_eq_some_iff.mp hd).1] at e
    cases e
    exact ⟨_, e1, r⟩
  · rw [List.getElem?_set_ne hj] at e
    obtain ⟨v, a, b⟩ := S.env j d' e
    exact ⟨v, a, b.up g.grow _⟩
end
theorem mdel_mset {m : MS} {p : Addr} {c : Cell} (h : m p = none) : mdel (mset m p c) p = m := by
  funext a; unfold mdel mset; split
  · next e => rw [e, h]
  · rfl
end Mu

set_option Elab.async false
set_option linter.all false
set_option maxRecDepth 100000
set_option maxHeartbeats 4000000
namespace Mu
open PySem PySem.Spec L2
open PyProof.Rows hiding St
section
variable {X : Cx} {F0 : Hp} {e a b c tg iter : Expr} {es : List Expr} {ρ ρ' ρ1 : Env1} {m m' m1 m2 m3 : MS} {d d1 d2 d3 : D} {pos : Pos} {P : D → MS → Prop} {A : AEnds} {i j : Int} {sts : List Stmt}
/-! ### texts -/
def signs (z : Str) : List D := z.cps.toList.map fun c => .str ⟨#[c]⟩
theorem xi_str {z : Str} (h : XD X F0 iter ρ m (.str z) m1) : XI X F0 tg iter ρ m (signs z) m1 fun _ => True := .mk fun σ H F S R q => by
  refine wI_of (pi_str pe_w) ?_
  refine h.run σ H F S _ fun v H1 F1 g1 r1 => ?_
  cases r1
  have hl : (signs z).length = z.cps.size := by unfold signs; rw [List.length_map, Array.length_toList]
  refine ⟨z, rfl, q _ H1 F1 g1 ⟨fun i H F m hi s sd _ => ?_, fun H F m s sd _ => ?_, fun i H F m x H' d hd s sd _ y => ?_⟩⟩
  · show i < z.cps.size; omega
  · show z.cps.size ≤ (signs z).length; omega
  · obtain ⟨rfl, c, hc, rfl⟩ := y
    unfold signs at hd
    rw [List.getElem?_map, Array.getElem?_toList, hc] at hd
    cases hd
    exact ⟨F, Go.refl sd, .str _⟩
theorem xe_joinL {apos : Pos} (h : XE X F0 a ρ m fun d1 m1 => ∃ z, d1 = .str z ∧ XE X F0 e ρ m1 fun d2 m2 => ∃ ys : List Str, d2 = .lst (ys.map D.str) ∧ (ys.map (·.length)).sum + ys.length * z.length ≤ 16777216 ∧ P (.str (Txt.join z ys)) m2)
    (hs : starEach [e] X.env = [(false, eval e X.env)] := by rfl) (hbase : attributeBase a "join" X.env (eval a X.env) = eval a X.env := by rfl) (hline : (apos.endLine == pos.line) = true := by rfl) :
    XE X F0 (.Call (.Attribute a "join" apos) [e] [] pos) ρ m P := .mk fun σ H F S Q q => by
  refine wE_of (pe_join pe_w pe_w hs hbase hline) ?_
  refine h.run σ H F S _ fun x H1 F1 d1 m1 p1 g1 r1 => ?_
  obtain ⟨z, rfl, p1⟩ := p1
  cases r1
  refine ⟨⟨z, rfl⟩, p1.run σ H1 F1 (S.go g1) _ fun y H2 F2 d2 m2 p2 g2 r2 => ?_⟩
  obtain ⟨ys, rfl, hz, p2⟩ := p2
  cases r2 with
  | lst h1 h2 => exact ⟨z, _, ys, rfl, rfl, .inl (by rw [← h2.strs]; exact .inl (.inl (g2.std.at h1))), hz, q _ H2 F2 _ m2 p2 (g1.trans g2) (.str _)⟩
/-- a text once or not at all -/
def rMulS : R2 := fun x y H Q => ∃ z k, x = .str z ∧ y = .int k ∧ (k = 0 ∨ k = 1) ∧ Q (.str (if k = 1 then z else Str.empty)) H
theorem op_mulS : OpR X (binaryOp .Mult) rMulS := by
  intro pins s σ H x y v u Q I rx ry h
  obtain ⟨z, k, rfl, rfl, hk, q⟩ := h
  obtain ⟨t, rfl⟩ := rx
  obtain ⟨t', rfl⟩ := ry
  rcases hk with rfl | rfl
  · rw [if_neg (by decide)] at q
    exact PySem.P.mul_str_none (by decide) (by decide) ⟨.str _, H, I.tok _, ⟨_, rfl⟩, q⟩
  · rw [if_pos rfl] at q
    refine PySem.P.mul_str (by decide) (fun _ h => by simp at h) (fun _ h => by simp at h) ?_
    rw [if_neg (by decide), if_pos (by simp)]
    exact ⟨.str _, H, I, ⟨_, rfl⟩, q⟩
theorem xe_mulS (h : XE X F0 a ρ m fun d1 m1 => ∃ z, d1 = .str z ∧ XE X F0 b ρ m1 fun d2 m2 => ∃ k, d2 = .int k ∧ (k = 0 ∨ k = 1) ∧ P (.str (if k = 1 then z else Str.empty)) m2) : XE X F0 (.BinOp a .Mult b pos) ρ m P := xe_op op_mulS (h.mono fun d1 m1 q => by
  obtain ⟨i, rfl, q⟩ := q
  refine q.mono fun d2 m2 q => ?_
  obtain ⟨j, rfl, hk, q⟩ := q
  exact ⟨_, _, fun x y H F s r1 r2 Q q => by
    cases r1; cases r2
    exact ⟨_, _, rfl, rfl, hk, q _ H F (Go.refl s) (.str _)⟩, q⟩)
theorem xe_addS (h : XE X F0 a ρ m fun d1 m1 => ∃ z, d1 = .str z ∧ XE X F0 b ρ m1 fun d2 m2 => ∃ w, d2 = .str w ∧ z.length + w.length ≤ sizeLine ∧ P (.str (z ++ w)) m2) : XE X F0 (.BinOp a .Add b pos) ρ m P := xe_op (r := rAddS1) op_add_str (h.mono fun d1 m1 q => by
  obtain ⟨i, rfl, q⟩ := q
  refine q.mono fun d2 m2 q => ?_
  obtain ⟨j, rfl, hz, q⟩ := q
  exact ⟨_, _, fun x y H F s r1 r2 Q q => by
    cases r1; cases r2
    exact ⟨_, _, rfl, rfl, hz, q _ H F (Go.refl s) (.str _)⟩, q⟩)
variable {p2 : Pos}
theorem xe_slS_from (h : XE X F0 a ρ m fun d1 m1 => ∃ z, d1 = .str z ∧ z.length ≤ sizeLine ∧ XE X F0 e ρ m1 fun d2 m2 => ∃ i, d2 = .int i ∧ P (.str (cutS z (some i) none)) m2) : XE X F0 (.Subscript a (.Slice (some e) none none p2) pos) ρ m P := .mk fun σ H F S Q q => by
  refine wE_of (pe_slice sl_str pe_w (po_some pe_w) po_none) ?_
  refine h.run σ H F S _ fun x H1 F1 d1 m1 p1 g1 r1 => ?_
  obtain ⟨z, rfl, hz, p1⟩ := p1
  cases r1
  refine p1.run σ H1 F1 (S.go g1) _ fun y H2 F2 d2 m2 p2 g2 r2 => ?_
  obtain ⟨i, rfl, p2⟩ := p2
  cases r2
  exact ⟨i, rfl, z, rfl, hz, q _ H2 F2 _ m2 p2 (g1.trans g2) (.str _)⟩
/-- a op b op c -/
theorem xd_chain {op op' : CmpOp} {r r' : R2} {k1 k2 : Bool} (ho : OpR X (compareOp op) r) (ho' : OpR X (compareOp op') r') (h1 : RD2 X.K r d1 d2 m2 (.bl k1) m2) (h2 : RD2 X.K r' d2 d3 m2 (.bl k2) m2) (ha : XD X F0 a ρ m d1 m1) (hb : XD X F0 b ρ m1 d2 m2) (hc : XD X F0 c ρ m2 d3 m2)
    (hm : lastMarks [op, op'] [b, c] = false := by with_unfolding_all rfl) : XD X F0 (.Compare a [op, op'] [b, c] pos) ρ m (.bl (k1 && k2)) m2 := .mk fun σ H F S Q q => by
  refine wE_of (pe_chain ho ho' pe_w pe_w pe_w hm) ?_
  refine ha.run σ H F S _ fun x H1 F1 g1 r1 => hb.run σ H1 F1 (S.go g1) _ fun y H2 F2 g2 r2 => ?_
  refine h1 x y H2 F2 g2.std (r1.up g2.grow _) r2 _ fun z H3 F3 g3 r3 => ?_
  cases r3
  refine ⟨k1, rfl, ?_⟩
  cases k1 with
  | false => exact q _ H3 F3 ((g1.trans g2).trans g3) (.bl _)
  | true =>
    refine hc.run σ H3 F3 (((S.go g1).go g2).go g3) _ fun w' H4 F4 g4 r4 => ?_
    refine h2 y w' H4 F4 g4.std ((r2.up g3.grow _).up g4.grow _) r4 _ fun z H5 F5 g5 r5 => ?_
    exact q z H5 F5 ((((g1.trans g2).trans g3).trans g4).trans g5) r5
theorem xd_inSign {z : Str} {cc : Nat} (ha : XD X F0 a ρ m (.str ⟨#[cc]⟩) m1) (hb : XD X F0 b ρ m1 (.str z) m2) (hm : behindInMarks .In b = false := by rfl) : XD X F0 (.Compare a [.In] [b] pos) ρ m (.bl (decide (cc ∈ z.cps.toList))) m2 := xd_cmp op_in_sign (fun x y H F s r1 r2 Q q => by
  cases r1; cases r2
  exact ⟨_, _, rfl, rfl, q _ H F (Go.refl s) (.bl _)⟩) ha hb hm
theorem rd_leS {K : PySem.W.Frag} {z w : Str} : RD2 K (fun x y H Q => ∃ i j, x = .str i ∧ y = .str j ∧ Q (.bl (!decide (j.cps.toList < i.cps.toList))) H) (.str z) (.str w) m (.bl (!decide (w.cps.toList < z.cps.toList))) m := fun x y H F s r1 r2 Q q => by
  cases r1; cases r2
  exact ⟨_, _, rfl, rfl, q _ H F (Go.refl s) (.bl _)⟩
theorem rd_mulL {K : PySem.W.Frag} {ds : List D} {k : Int} (h1 : -(2 ^ 63) ≤ k) (h2 : k < 2 ^ 63) (hz : ds.length * k.toNat ≤ sizeLine) : RD2 K rRep (.lst ds) (.int k) m (.lst (List.replicate k.toNat ds).flatten) m := fun x y H F s r1 r2 Q q => by
  cases r2
  cases r1 with
  | @lst a xs _ q1 q2 =>
    refine ⟨a, k, xs, rfl, rfl, s.at q1, h1, h2, by rw [q2.length]; exact hz, fun p hp => q _ _ _ (Go.new s hp) (rp_newLst s hp ?_)⟩
    generalize k.toNat = n
    induction n with
    | zero => exact .nil
    | succ n ih =>
      rw [List.replicate_succ, List.flatten_cons, List.replicate_succ, List.flatten_cons]
      exact q2.append ih
theorem xd_mulL {ds : List D} {k : Int} (ha : XD X F0 a ρ m (.lst ds) m1) (hb : XD X F0 b ρ m1 (.int k) m2) (h1 : -(2 ^ 63) ≤ k) (h2 : k < 2 ^ 63) (hz : ds.length * k.toNat ≤ sizeLine) : XD X F0 (.BinOp a .Mult b pos) ρ m (.lst (List.replicate k.toNat ds).flatten) m2 := xd_op op_rep (rd_mulL h1 h2 hz) ha hb
end
section
variable {X : Cx} {F0 : Hp} {elt tg iter : Expr} {ifs : List Expr} {ρ : Env1} {m : MS} {pos : Pos} {P : D → MS → Prop} {scope : Scope} {own : List (Str × Nat)}
/-- a comprehension over what is known by what is true of it -/
theorem xe_lcE (hN : X.N.Nodup) (ok : BlkOk X.N X.env.scope scope own) (hi : XIE X F0 tg iter ρ m fun items m1 G => ∃ Iv : Nat → List D → MS → Prop, Iv 0 [] m1 ∧ (∀ i acc mi, i ≤ items.length → Iv i acc mi → G mi) ∧ items.length ≤ 100000 ∧
      (∀ (i : Nat) (d : D) acc mi, items[i]? = some d → Iv i acc mi → LcStepE X F0 scope tg ifs elt (wipeR ρ (own.map (·.2))) (own.map (·.2)) d mi fun o m' => Iv (i + 1) (acc ++ o.toList) m') ∧ (∀ acc m', Iv items.length acc m' → P (.lst acc) m'))
    (hc : X.calm = true := by rfl) (hl : ifs.length ≤ 1 := by decide) (hs : ∀ x, foldedSetIterable iter X.env x = pure x := by intro _; rfl) :
    XE X F0 (.ListComp elt [⟨tg, iter, ifs, 0⟩] scope pos) ρ m P := .mk fun σ H F S Q q => by
  refine wE_of (pe_lc (own := own) hc hN pi_w ok bG_pg (bTs_pts hl) bE_pe hs) ?_
  refine hi.run σ H F S _ fun J H1 F1 items m1 G p g1 wd => ?_
  obtain ⟨Iv, h0, hG, hz, step, hd⟩ := p
  exact lc_readT (ti := fun _ _ R => R J H1) (fun R k => k J H1 F1 g1 wd) Iv h0 hG hz step S (lc_fin (Pq := Iv items.length) fun v H' F' acc m' p g r => q v H' F' _ m' (hd acc m' p) g r)
/-- a comprehension's list that changes later -/
theorem xe_lcC (hN : X.N.Nodup) (ok : BlkOk X.N X.env.scope scope own) (hi : XIE X F0 tg iter ρ m fun items m1 G => ∃ Iv : Nat → List D → MS → Prop, Iv 0 [] m1 ∧ (∀ i acc mi, i ≤ items.length → Iv i acc mi → G mi) ∧ items.length ≤ 100000 ∧
      (∀ (i : Nat) (d : D) acc mi, items[i]? = some d → Iv i acc mi → LcStepE X F0 scope tg ifs elt (wipeR ρ (own.map (·.2))) (own.map (·.2)) d mi fun o m' => Iv (i + 1) (acc ++ o.toList) m') ∧ (∀ acc m' L, Iv items.length acc m' → m' L = none → P (.raw (.ref L)) (mset m' L (.lst acc))))
    (hc : X.calm = true := by rfl) (hl : ifs.length ≤ 1 := by decide) (hs : ∀ x, foldedSetIterable iter X.env x = pure x := by intro _; rfl) :
    XE X F0 (.ListComp elt [⟨tg, iter, ifs, 0⟩] scope pos) ρ m P := .mk fun σ H F S Q q => by
  refine wE_of (pe_lc (own := own) hc hN pi_w ok bG_pg (bTs_pts hl) bE_pe hs) ?_
  refine hi.run σ H F S _ fun J H1 F1 items m1 G p g1 wd => ?_
  obtain ⟨Iv, h0, hG, hz, step, hd⟩ := p
  exact lc_readT (ti := fun _ _ R => R J H1) (fun R k => k J H1 F1 g1 wd) Iv h0 hG hz step S fun L vs H' F' acc m' p g h1 h2 h3 h4 h5 => q _ _ _ _ _ (hd acc m' L p h2) (g.adoptC h1 h2 h3 h4 h5) (.raw _)
theorem x1_setLcC {A : AEnds} {i : Nat} {y : Str} {py spos : Pos} (hN : X.N.Nodup) (ok : BlkOk X.N X.env.scope scope own) (hi : XIE X F0 tg iter ρ m fun items m1 G => ∃ Iv : Nat → List D → MS → Prop, Iv 0 [] m1 ∧ (∀ i acc mi, i ≤ items.length → Iv i acc mi → G mi) ∧ items.length ≤ 100000 ∧
      (∀ (i : Nat) (d : D) acc mi, items[i]? = some d → Iv i acc mi → LcStepE X F0 scope tg ifs elt (wipeR ρ (own.map (·.2))) (own.map (·.2)) d mi fun o m' => Iv (i + 1) (acc ++ o.toList) m') ∧ (∀ acc m' L, Iv items.length acc m' → m' L = none → A.nx (ρ.set i (some (.raw (.ref L)))) (mset m' L (.lst acc))))
    (hsw : swapsWith (.ListComp elt [⟨tg, iter, ifs, 0⟩] scope pos) (some (.Name y py)) spos.line X.env = pure true := by rfl) (hy : X.N[i]? = some y := by rfl) (hyl : X.env.scope.names.lookup y = some .local := by rfl) (hc : X.calm = true := by rfl) (hl : ifs.length ≤ 1 := by decide) (hs : ∀ x, foldedSetIterable iter X.env x = pure x := by intro _; rfl) :
    X1 X F0 (.Assign [.Name y py] (.ListComp elt [⟨tg, iter, ifs, 0⟩] scope pos) spos) ρ m A := .mk fun σ H F S E k pins s I => by
  have hlen := nx_of_inv I hy
  refine wS_of (ps_setLc (own := own) hc hN hy hyl hsw pi_w ok bG_pg (bTs_pts hl) bE_pe hs) ?_ pins s I
  refine hi.run σ H F S _ fun J H1 F1 items m1 G p g1 wd => ?_
  obtain ⟨Iv, h0, hG, hz, step, hd⟩ := p
  refine lc_readT (Q := fun v H' => E.nx (σ.set i (some v)) H') (ti := fun _ _ R => R J H1) (fun R k => k J H1 F1 g1 wd) Iv h0 hG hz step S fun L vs H' F' acc m' p g h1 h2 h3 h4 h5 => ?_
  have g2 := g.adoptC h1 h2 h3 h4 h5
  exact k.nx _ _ _ _ _ (hd acc m' L p h2) g2 ((S.go g2).set (.raw _) hlen)
theorem x1_setLcD {A : AEnds} {i : Nat} {y : Str} {py spos : Pos} (hN : X.N.Nodup) (ok : BlkOk X.N X.env.scope scope own) (hi : XIE X F0 tg iter ρ m fun items m1 G => ∃ Iv : Nat → List D → MS → Prop, Iv 0 [] m1 ∧ (∀ i acc mi, i ≤ items.length → Iv i acc mi → G mi) ∧ items.length ≤ 100000 ∧
      (∀ (i : Nat) (d : D) acc mi, items[i]? = some d → Iv i acc mi → LcStepE X F0 scope tg ifs elt (wipeR ρ (own.map (·.2))) (own.map (·.2)) d mi fun o m' => Iv (i + 1) (acc ++ o.toList) m') ∧ (∀ acc m', Iv items.length acc m' → A.nx (ρ.set i (some (.lst acc))) m'))
    (hsw : swapsWith (.ListComp elt [⟨tg, iter, ifs, 0⟩] scope pos) (some (.Name y py)) spos.line X.env = pure true := by rfl) (hy : X.N[i]? = some y := by rfl) (hyl : X.env.scope.names.lookup y = some .local := by rfl) (hc : X.calm = true := by rfl) (hl : ifs.length ≤ 1 := by decide) (hs : ∀ x, foldedSetIterable iter X.env x = pure x := by intro _; rfl) :
    X1 X F0 (.Assign [.Name y py] (.ListComp elt [⟨tg, iter, ifs, 0⟩] scope pos) spos) ρ m A := .mk fun σ H F S E k pins s I => by
  have hlen := nx_of_inv I hy
  refine wS_of (ps_setLc (own := own) hc hN hy hyl hsw pi_w ok bG_pg (bTs_pts hl) bE_pe hs) ?_ pins s I
  refine hi.run σ H F S _ fun J H1 F1 items m1 G p g1 wd => ?_
  obtain ⟨Iv, h0, hG, hz, step, hd⟩ := p
  refine lc_readT (Q := fun v H' => E.nx (σ.set i (some v)) H') (ti := fun _ _ R => R J H1) (fun R k => k J H1 F1 g1 wd) Iv h0 hG hz step S (lc_fin (K := X.K) (m := m) (H := H) (F := F) (Q := fun v H' => E.nx (σ.set i (some v)) H') (Pq := Iv items.length) fun v H' F' acc m' p g r => ?_)
  exact k.nx _ _ _ _ _ (hd acc m' p) g ((S.go g).set r hlen)
theorem xie_range1 {a : Expr} {p : Pos} {P : List D → MS → (MS → Prop) → Prop} (hm : X.mg "range" = none) (h : XE X F0 a ρ m fun d m1 => ∃ j : Int, d = .int j ∧ -(2 ^ 62) ≤ j ∧ j < 2 ^ 62 ∧ P (rng 0 j.toNat) m1 fun _ => True) (hg : Gl X "range" := by rfl) (hs : starEach [a] X.env = (false, eval a X.env) :: starEach [] X.env := by rfl) : XIE X F0 tg (.Call (.Name "range" p) [a] [] pos) ρ m P := .mk fun σ H F S R q => by
  refine wI_of (pi_range1 hg hm (pa_cons pe_w pa_nil hs) hs) ?_
  refine h.run σ H F S _ fun v H1 F1 d m1 p1 g1 r1 => ?_
  obtain ⟨j, rfl, h1, h2, p1⟩ := p1
  cases r1
  exact ⟨j, rfl, h1, h2, q _ H1 F1 _ m1 _ p1 g1 walk_rng⟩
end
/-! ### how long texts are -/
theorem strlen_append (a b : Str) : (a ++ b).length = a.length + b.length := by
  show (a.cps ++ b.cps).size = _
  rw [Array.size_append]; rfl
theorem join_len : ∀ (ys : List Str) {z : Str}, z.length = 0 → (Txt.join z ys).length = (ys.map (·.length)).sum := fun ys z hz => by
  rw [TL.join_eq]
  induction ys with
  | nil => rfl
  | cons y ys ih =>
    cases ys with
    | nil => show y.length = _; simp
    | cons w ys =>
      show (y ++ z ++ Str.join z (w :: ys)).length = _
      rw [strlen_append, strlen_append, ih, hz]
      simp
theorem signs_len (z : Str) : (signs z).length = z.length := by unfold signs Str.length; rw [List.length_map, Array.length_toList]
end Mu

set_option Elab.async false
set_option linter.all false
set_option maxRecDepth 100000
set_option maxHeartbeats 4000000
namespace Mu
open PySem PySem.Spec L2
open PyProof.Rows hiding St
/-! ### dicts that change -/
def kD : Key → D
  | .inl i => .int i
  | .inr s => .str s
def valD (kds : List (Key × D)) (k : Key) : Option D := (kds.find? fun kv => decide (kv.1 = k)).map (·.2)
def putD (kds : List (Key × D)) (k : Key) (d : D) : List (Key × D) :=
  if (kds.any fun kv => decide (kv.1 = k)) = true then kds.map (fun kv => if kv.1 = k then (kv.1, d) else kv) else kds ++ [(k, d)]
def mergeD (kds more : List (Key × D)) : List (Key × D) := more.foldl (fun acc kv => putD acc kv.1 kv.2) kds
section
variable {K : PySem.W.Frag} {F F' H : Hp} {m : MS}
theorem rp_key {v : V} {k : Key} (r : Rp K F v (kD k)) : v = kV k := by
  cases k with
  | inl i => cases r; rfl
  | inr s => cases r; rfl
theorem rp_kD (k : Key) : Rp K F (kV k) (kD k) := by
  cases k with
  | inl i => exact .int _
  | inr s => exact .str _
theorem RKs.val {l : List (Key × V)} {r : List (Key × D)} (h : RKs K F l r) (k : Key) : (valV l k = none ∧ valD r k = none) ∨ ∃ v d, valV l k = some v ∧ valD r k = some d ∧ Rp K F v d := by
  induction h with
  | nil => exact .inl ⟨rfl, rfl⟩
  | @cons p q l r hp t ih =>
    by_cases e : p.1 = k
    · refine .inr ⟨p.2, q.2, ?_, ?_, hp.2⟩
      · simp [valV, List.find?_cons, e]
      · simp [valD, List.find?_cons, ← hp.1, e]
    · have e1 : valV (p :: l) k = valV l k := by simp [valV, List.find?_cons, e]
      have e2 : valD (q :: r) k = valD r k := by simp [valD, List.find?_cons, ← hp.1, e]
      rw [e1, e2]; exact ih
theorem RKs.len {l : List (Key × V)} {r : List (Key × D)} (h : RKs K F l r) : l.length = r.length := by
  induction h with
  | nil => rfl
  | cons hp t ih => rw [List.length_cons, List.length_cons, ih]
theorem RKs.keys {l : List (Key × V)} {r : List (Key × D)} (h : RKs K F l r) : l.map (·.1) = r.map (·.1) := by
  induction h with
  | nil => rfl
  | cons hp t ih => rw [List.map_cons, List.map_cons, ih, hp.1]
theorem RKs.any {l : List (Key × V)} {r : List (Key × D)} (h : RKs K F l r) (k : Key) : (l.any fun kv => decide (kv.1 = k)) = (r.any fun kv => decide (kv.1 = k)) := by
  induction h with
  | nil => rfl
  | cons hp t ih => rw [List.any_cons, List.any_cons, ih, hp.1]
theorem RKs.snoc {l : List (Key × V)} {r : List (Key × D)} {k : Key} {v : V} {d : D} (h : RKs K F l r) (rv : Rp K F v d) : RKs K F (l ++ [(k, v)]) (r ++ [(k, d)]) := by
  induction h with
  | nil => exact .cons ⟨rfl, rv⟩ .nil
  | cons hp t ih => exact .cons hp ih
theorem RKs.put {l : List (Key × V)} {r : List (Key × D)} {k : Key} {v : V} {d : D} (h : RKs K F l r) (rv : Rp K F v d) : RKs K F (putK l k v) (putD r k d) := by
  unfold putK putD
  rw [h.any k]
  split
  · next hh =>
    clear hh
    induction h with
    | nil => exact .nil
    | @cons p q l r hp t ih =>
      refine .cons ?_ ih
      show (if p.1 = k then (p.1, v) else p).1 = (if q.1 = k then (q.1, d) else q).1 ∧ Rp K F (if p.1 = k then (p.1, v) else p).2 (if q.1 = k then (q.1, d) else q).2
      rw [← hp.1]
      split
      · exact ⟨rfl, rv⟩
      · exact hp
  · exact h.snoc rv
theorem RKs.merge {l r' : List (Key × V)} {r r2 : List (Key × D)} (h : RKs K F l r) (h2 : RKs K F r' r2) : RKs K F (mergeK l r') (mergeD r r2) := by
  unfold mergeK mergeD
  induction h2 generalizing l r with
  | nil => exact h
  | @cons p q ls rs hp t ih =>
    rw [List.foldl_cons, List.foldl_cons]
    refine ih ?_
    rw [← hp.1]
    exact h.put hp.2
end
section
variable {X : Cx} {F0 : Hp} {e f a b c o i tg iter value : Expr} {es : List Expr} {ρ ρ' ρ1 : Env1} {m m' m1 m2 m3 : MS} {d d1 d2 d3 : D} {pos : Pos} {P : D → MS → Prop} {A : AEnds} {sts : List Stmt} {j : Nat}
theorem xe_dnew (h : ∀ p, m p = none → P (.raw (.ref p)) (mset m p (.dct []))) : XE X F0 (.Dict [] [] pos) ρ m P := .mk fun σ H F S Q q => by
  refine wE_of pe_dnewK fun p hp => ?_
  exact q _ _ _ _ _ (h p (S.std.free hp)) (Go.cell S.std hp ⟨[], upd_same, .nil⟩) (.raw _)
theorem xe_dget (hr : Room j X.A) (h : XE X F0 o ρ m fun d1 m1 => ∃ p, d1 = .raw (.ref p) ∧ XE X F0 i ρ m1 fun d2 m2 => ∃ k kds d, d2 = kD k ∧ m2 p = some (.dct kds) ∧ valD kds k = some d ∧ P d m2) (hs : NoSl i := by exact fun _ _ => rfl) : XE X F0 (.Subscript o i pos) ρ m P := .mk fun σ H F S Q q => by
  refine wE_of (pe_dget (by have := hr.units; omega) pe_w pe_w hs) ?_
  refine h.run σ H F S _ fun x H1 F1 d1 m1 p1 g1 r1 => ?_
  obtain ⟨p, rfl, p1⟩ := p1
  cases r1
  refine p1.run σ H1 F1 (S.go g1) _ fun y H2 F2 d2 m2 p2 g2 r2 => ?_
  obtain ⟨k, kds, d, rfl, hm, hv, p2⟩ := p2
  obtain ⟨kvs, e, rk⟩ := g2.std.cells p _ hm
  rcases rk.val k with ⟨e1, e2⟩ | ⟨v, d', e1, e2, rv⟩
  · rw [hv] at e2; cases e2
  · rw [hv] at e2; cases e2
    refine ⟨p, v, rfl, ?_, q v H2 F2 d m2 p2 (g1.trans g2) rv⟩
    rw [rp_key r2, ← e1]; exact DGet.k e
theorem x1_dput {pos' : Pos} (hr : Room j X.A) (h : XE X F0 value ρ m fun d m1 => XE X F0 o ρ m1 fun d1 m2 => ∃ p, d1 = .raw (.ref p) ∧ XE X F0 i ρ m2 fun d2 m3 => ∃ k kds, d2 = kD k ∧ m3 p = some (.dct kds) ∧ kds.length < 100000 ∧ A.nx ρ (mset m3 p (.dct (putD kds k d))))
    (hs : swapsWith value (some (.Subscript o i pos')) pos.line X.env = pure false := by rfl) : X1 X F0 (.Assign [.Subscript o i pos'] value pos) ρ m A := .mk fun σ H F S E kk => by
  refine wS_of (ps_dput (by have := hr.units; omega) pe_w pe_w pe_w hs) ?_
  refine h.run σ H F S _ fun v H1 F1 d m1 p1 g1 r1 => p1.run σ H1 F1 (S.go g1) _ fun x H2 F2 d1 m2 p2 g2 r2 => ?_
  obtain ⟨p, rfl, p2⟩ := p2
  cases r2
  refine p2.run σ H2 F2 ((S.go g1).go g2) _ fun y H3 F3 d2 m3 p3 g3 r3 => ?_
  obtain ⟨k, kds, rfl, hm, hz, hA⟩ := p3
  obtain ⟨kvs, e, rk⟩ := g3.std.cells p _ hm
  have G := (g1.trans g2).trans g3
  have g4 : Go X.K m3 H3 F3 (mset m3 p (.dct (putD kds k d))) (upd H3 p (.dK (putK kvs k v))) F3 := Go.put g3.std hm ⟨_, upd_same, rk.put ((r1.up g2.grow _).up g3.grow _)⟩
  refine ⟨p, _, rfl, ?_, kk.nx _ _ _ _ _ hA (G.trans g4) (S.go (G.trans g4))⟩
  rw [rp_key r3]
  exact DPut.k e (by rw [rk.len]; exact Nat.lt_trans hz (by decide))
theorem xte_din {PT : Bool → MS → Prop} (hr : Room j X.A) (h : XE X F0 i ρ m fun d1 m1 => XE X F0 o ρ m1 fun d2 m2 => ∃ p k kds, d2 = .raw (.ref p) ∧ d1 = kD k ∧ m2 p = some (.dct kds) ∧ PT (valD kds k).isSome m2) (hb : behindInMarks .In o = false := by rfl) : XTE X F0 (.Compare i [.In] [o] pos) ρ m PT := .mk fun σ H F S Q q => by
  refine wT_of (pt_cmp (pc_din (by have := hr.units; omega) pe_w pe_w) hb) ?_
  refine h.run σ H F S _ fun y H1 F1 d1 m1 p1 g1 r1 => p1.run σ H1 F1 (S.go g1) _ fun x H2 F2 d2 m2 p2 g2 r2 => ?_
  obtain ⟨p, k, kds, rfl, rfl, hm, hP⟩ := p2
  cases r2
  obtain ⟨kvs, e, rk⟩ := g2.std.cells p _ hm
  refine ⟨p, valV kvs k, rfl, by rw [rp_key r1]; exact DGet.k e, _, rfl, ?_⟩
  have es : (valV kvs k).isSome = (valD kds k).isSome := by
    rcases rk.val k with ⟨e1, e2⟩ | ⟨v, d', e1, e2, rv⟩
    · rw [e1, e2]; rfl
    · rw [e1, e2]; rfl
  rw [es]
  exact q _ H2 F2 m2 hP (g1.trans g2)
theorem xe_dsetd {apos cpos : Pos} (h : XE X F0 o ρ m fun d1 m1 => ∃ p, d1 = .raw (.ref p) ∧ (∃ kds0, m1 p = some (.dct kds0)) ∧ XE X F0 e ρ m1 fun d2 m2 => XE X F0 f ρ m2 fun d3 m3 => ∃ k kds, d2 = kD k ∧ m3 p = some (.dct kds) ∧ kds.length < 100000 ∧
      (∀ d, valD kds k = some d → P d m3) ∧ (valD kds k = none → P d3 (mset m3 p (.dct (putD kds k d3)))))
    (mm : M2 X o "setdefault" apos e f cpos := by exact ⟨rfl, rfl, rfl, rfl⟩) : XE X F0 (.Call (.Attribute o "setdefault" apos) [e, f] [] cpos) ρ m P := .mk fun σ H F S Q q => by
  refine wE_of (pe_dsetd pe_w pe_w pe_w mm) ?_
  refine h.run σ H F S _ fun x H1 F1 d1 m1 p1 g1 r1 => ?_
  obtain ⟨p, rfl, ⟨kds0, hm0⟩, p1⟩ := p1
  cases r1
  obtain ⟨kvs0, e0, _⟩ := g1.std.cells p _ hm0
  refine ⟨p, rfl, .inl ⟨_, .inl e0⟩, ?_⟩
  refine p1.run σ H1 F1 (S.go g1) _ fun y H2 F2 d2 m2 p2 g2 r2 => p2.run σ H2 F2 ((S.go g1).go g2) _ fun z H3 F3 d3 m3 p3 g3 r3 => ?_
  obtain ⟨k, kds, rfl, hm, hz, q1, q2⟩ := p3
  obtain ⟨kvs, e, rk⟩ := g3.std.cells p _ hm
  have G := (g1.trans g2).trans g3
  refine ⟨kvs, k, e, rp_key r2, by rw [rk.len]; exact Nat.lt_trans hz (by decide), fun v hv => ?_, fun hv => ?_⟩
  · rcases rk.val k with ⟨e1, e2⟩ | ⟨v', d', e1, e2, rv⟩
    · rw [hv] at e1; cases e1
    · rw [hv] at e1; cases e1
      exact q _ H3 F3 _ m3 (q1 _ e2) G rv
  · rcases rk.val k with ⟨e1, e2⟩ | ⟨v', d', e1, e2, rv⟩
    · have g4 : Go X.K m3 H3 F3 (mset m3 p (.dct (putD kds k d3))) (upd H3 p (.dK (putK kvs k z))) F3 := Go.put g3.std hm ⟨_, upd_same, rk.put r3⟩
      exact q _ _ _ _ _ (q2 e2) (G.trans g4) (r3.up g4.grow _)
    · rw [hv] at e1; cases e1
/-! ### calls of built-ins whose answer is known by what is true of it -/
def RDE (K : PySem.W.Frag) (r : List V → Hp → VK → Prop) (ds : List D) (m : MS) (P : D → MS → Prop) : Prop := ∀ vs H F, Std K m H F → Rps K F vs ds → ∀ Q : VK, (∀ v H' F' d m', P d m' → Go K m H F m' H' F' → Rp K F' v d → Q v H') → r vs H Q
theorem xe_callBX {id : String} {x : Str} {p : Pos} {r : List V → Hp → VK → Prop} (hc : CallR X (.builtin id) r) (hm : X.mg x = none) (h : XAE X F0 (e :: es) ρ m fun ds m1 => RDE X.K r ds m1 P) (hv : bootBuiltins x = some (.builtin id) := by decide +kernel) (hg : Gl X x := by rfl)
    (hn : x ≠ "__name__" := by decide) (hdb : (x == ("__debug__" : Str)) = false := by decide) (he : starEach (e :: es) X.env = (false, eval e X.env) :: starEach es X.env := by rfl) (hpl : (backTo pos (starEach es X.env)).any (·.1) = false := by rfl) :
    XE X F0 (.Call (.Name x p) (e :: es) [] pos) ρ m P := .mk fun σ H F S Q q => by
  refine wE_of (pe_callB hc hg hm hv pa_w hn hdb he hpl) ?_
  refine h.run σ H F S _ fun vs H1 F1 ds m1 p1 g1 r1 => ?_
  exact p1 vs H1 F1 g1.std r1 _ fun v H2 F2 d m2 p2 g2 r2 => q v H2 F2 d m2 p2 (g1.trans g2) r2
theorem xe_callTyX {T : String} {x : Str} {p : Pos} {r : List V → Hp → VK → Prop} (hc : CallR X (.type T) r) (hm : X.mg x = none) (h : XAE X F0 (e :: es) ρ m fun ds m1 => RDE X.K r ds m1 P) (hv : bootBuiltins x = some (.type T) := by decide +kernel) (hg : Gl X x := by rfl)
    (hn : x ≠ "__name__" := by decide) (hdb : (x == ("__debug__" : Str)) = false := by decide) (he : starEach (e :: es) X.env = (false, eval e X.env) :: starEach es X.env := by rfl) (hpl : (backTo pos (starEach es X.env)).any (·.1) = false := by rfl) :
    XE X F0 (.Call (.Name x p) (e :: es) [] pos) ρ m P := .mk fun σ H F S Q q => by
  refine wE_of (pe_callTy hc hg hm hv pa_w hn hdb he hpl) ?_
  refine h.run σ H F S _ fun vs H1 F1 ds m1 p1 g1 r1 => ?_
  exact p1 vs H1 F1 g1.std r1 _ fun v H2 F2 d m2 p2 g2 r2 => q v H2 F2 d m2 p2 (g1.trans g2) r2
theorem RDC.rde {K : PySem.W.Frag} {r : List V → Hp → VK → Prop} {ds : List D} {d : D} (h : RDC K r ds m d m') (p : P d m') : RDE K r ds m P := fun vs H F s rv Q q => h vs H F s rv Q fun v H' F' g r => q v H' F' d m' p g r
/-- dict of a list of pairs -/
def pairK (kv : Key × D) : D := .tup [kD kv.1, kv.2]
theorem pairs_split {K : PySem.W.Frag} {F H : Hp} (hs : Same F H) : ∀ {vs : List V} (kds : List (Key × D)), Rps K F vs (kds.map pairK) → ∃ (ps : List Addr) (kvs : List (Key × V)), vs = ps.map V.ref ∧ Paired (fun p (kv : Key × V) => SqT K H p [kV kv.1, kv.2]) ps kvs ∧ RKs K F kvs kds
  | _, [], h => by cases h; exact ⟨[], [], rfl, .nil, .nil⟩
  | _, kd :: kds, h => by
    cases h with
    | cons h1 h2 =>
      obtain ⟨ps, kvs, rfl, hp, hk⟩ := pairs_split hs kds h2
      cases h1 with
      | @tup a xs _ e1 e2 =>
        cases e2 with
        | cons a1 a2 =>
          cases a2 with
          | cons b1 b2 =>
            cases b2
            have ek := rp_key a1
            subst ek
            exact ⟨a :: ps, (kd.1, _) :: kvs, rfl, .cons (Same.seqT hs e1) hp, .cons ⟨rfl, b1⟩ hk⟩
theorem rde_dictP {K : PySem.W.Frag} {kds : List (Key × D)} (h : ∀ p, m p = none → P (.raw (.ref p)) (mset m p (.dct (mergeD [] kds)))) :
    RDE K (fun xs H Q => ∃ (a : Addr) (ps : List Addr) (kvs : List (Key × V)), xs = [.ref a] ∧ SqL K H a (ps.map V.ref) ∧ Paired (fun p kv => SqT K H p [kV kv.1, kv.2]) ps kvs ∧ ∀ p, H p = none → Q (.ref p) (upd H p (.dK (mergeK [] kvs)))) [.lst (kds.map pairK)] m P := fun vs H F s rv Q q => by
  obtain ⟨v, rfl, r⟩ := rps1 rv
  cases r with
  | @lst a xs _ h1 h2 =>
    obtain ⟨ps, kvs, rfl, hp, hk⟩ := pairs_split s.toH kds h2
    refine ⟨a, ps, kvs, rfl, .inl (.inl (s.at h1)), hp, fun p hp0 => ?_⟩
    exact q _ _ _ _ _ (h p (s.free hp0)) (Go.cell s hp0 ⟨_, upd_same, RKs.merge .nil hk⟩) (.raw _)
/-- sorted of a dict's keys, texts -/
theorem rde_sortedK {K : PySem.W.Frag} {p : Addr} {kds : List (Key × D)} {ks : List Str} (hm : m p = some (.dct kds)) (hk : kds.map (·.1) = ks.map Sum.inr) (hz : ks.length < 64) (h : ∀ ys : List Str, ys.Perm ks → sortedS ys = true → P (.lst (ys.map D.str)) m) :
    RDE K (fun xs H Q => ∃ (a : Addr) (kvs : List (Key × V)) (ks : List Str), xs = [.ref a] ∧ Rd H a (.dK kvs) ∧ kvs.map (·.1) = ks.map Sum.inr ∧ ks.length < 64 ∧
    ∀ ys p, ys.Perm ks → sortedS ys = true → H p = none → Q (.ref p) (upd H p (.lst (ys.map V.str)))) [.raw (.ref p)] m P := fun vs H F s rv Q q => by
  obtain ⟨v, rfl, r⟩ := rps1 rv
  cases r
  obtain ⟨kvs, e, rk⟩ := s.cells p _ hm
  refine ⟨p, kvs, ks, rfl, .inl e, by rw [rk.keys]; exact hk, hz, fun ys l h1 h2 hl => ?_⟩
  exact q _ _ _ _ _ (h ys h1 h2) (Go.new s hl) (rp_newLst s hl (.of_strs _))
end
end Mu

set_option Elab.async false
set_option linter.all false
set_option maxRecDepth 100000
set_option maxHeartbeats 4000000
namespace Mu
open PySem PySem.Spec L2
open PyProof.Rows hiding St
/-! ### sorted of a list of data -/
theorem each_of_vals {R : Value → V × PyData → Prop} : ∀ {bs : List (V × PyData)} {its : List Value}, Vals (bs.map (·.1)) its → (∀ b ∈ bs, ∀ v, RelV b.1 v → R v b) → PySem.W.EachIs R its bs
  | [], _, h, _ => by cases h; exact .nil
  | b :: bs, _, h, k => by
    cases h with
    | cons h1 h2 => exact .cons (k b (by simp) _ h1) (each_of_vals h2 fun b hb => k b (by simp [hb]))
theorem vals_of_each : ∀ {bs : List (V × PyData)} {its : List Value}, PySem.W.EachIs (fun v (b : V × PyData) => RelV b.1 v) its bs → Vals (bs.map (·.1)) its
  | [], _, h => by cases h; exact .nil
  | b :: bs, _, h => by
    cases h with
    | cons h1 h2 => exact .cons h1 (vals_of_each h2)
def rSortedDt (K : PySem.W.Frag) : List V → Hp → VK → Prop := fun vs H Q => ∃ (a : Addr) (bs : List (V × PyData)), vs = [.ref a] ∧ SqL K H a (bs.map (·.1)) ∧ (∀ b ∈ bs, Dp K H b.1 b.2) ∧ PySem.W.AllAlike (bs.map (·.2)) ∧ PySem.W.Sortable (bs.map (·.2)) ∧ (∀ b ∈ bs, b.2.depth ≤ 40) ∧
  ∀ p, H p = none → Q (.ref p) (upd H p (.lst ((bs.mergeSort (PySem.W.dataLe false (·.2))).map (·.1))))
theorem cr_sortedDt {X : Cx} (hu : X.A.units + 64 < cLine) : CallR X (.builtin "sorted") (rSortedDt X.K) := by
  intro pins s σ H vs us Q I r h
  obtain ⟨a, bs, rfl, hs, hd, hal, hk, hdep, q⟩ := h
  obtain ⟨its, rv, hl, hz⟩ := I.list hs
  rw [Vals.ref1 r]
  have hlen : its.length = bs.length := by have := rv.length; rw [List.length_map] at this; exact this.symm
  rw [List.length_map] at hz
  refine PySem.W.sorted_data (R := fun v b => RelV b.1 v) (enc := (·.2)) hl.isList (each_of_vals rv fun b hb v h => h) (each_of_vals rv fun b hb v h => Dp.reads I _ _ _ (hd b hb) h) hal hk hz (fun b hb => ?_) fun out hlo eo => ?_
  · have := hdep b hb
    omega
  · obtain ⟨ep, he'⟩ := PyProof.Rows.sortedAll_at s.heap its out.toArray
    have hlen : ((bs.mergeSort (PySem.W.dataLe false (·.2))).map (·.1)).length ≤ sizeLine := by rw [List.length_map, List.length_mergeSort]; exact hz
    exact ⟨.ref _, upd H (s.heap.objs.size + 1) (.lst ((bs.mergeSort (PySem.W.dataLe false (·.2))).map (·.1))), I.laid (t' := s.toks) (fun _ _ => PyProof.Rows.sortedAll_old) (Nat.le_succ _) ⟨hlen, out, ep, vals_of_each eo, he'⟩, rfl, q _ (I.hok.fresh (Nat.le_succ _))⟩
def leD (d e : D) : Bool := PySem.W.dataLe false toPy d e
theorem Rps.zipMap {K : PySem.W.Frag} {F : Hp} : ∀ {vs : List V} (ds : List D), Rps K F vs ds → (vs.zip (ds.map toPy)).map (·.1) = vs ∧ (vs.zip (ds.map toPy)).map (·.2) = ds.map toPy
  | _, [], h => by cases h; exact ⟨rfl, rfl⟩
  | _, d :: ds, h => by
    cases h with
    | cons h1 h2 =>
      obtain ⟨a, b⟩ := Rps.zipMap ds h2
      exact ⟨by rw [List.map_cons, List.zip_cons_cons, List.map_cons, a], by rw [List.map_cons, List.zip_cons_cons, List.map_cons, b]⟩
/-- the data of values that were put in another order alike -/
theorem Rps.permBy {K : PySem.W.Frag} {F : Hp} : ∀ (L : List (V × D)), (∀ p ∈ L, Rp K F p.1 p.2) → Rps K F (L.map (·.1)) (L.map (·.2))
  | [], _ => .nil
  | p :: L, h => .cons (h p (by simp)) (Rps.permBy L fun q hq => h q (by simp [hq]))
theorem Rps.zipMem {K : PySem.W.Frag} {F : Hp} : ∀ {vs : List V} (ds : List D), Rps K F vs ds → (∀ p ∈ vs.zip ds, Rp K F p.1 p.2) ∧ (vs.zip ds).map (·.1) = vs ∧ (vs.zip ds).map (·.2) = ds
  | _, [], h => by cases h; exact ⟨by simp, rfl, rfl⟩
  | _, d :: ds, h => by
    cases h with
    | @cons v vs _ _ h1 h2 =>
      obtain ⟨a, b, c⟩ := Rps.zipMem ds h2
      refine ⟨fun p hp => ?_, by rw [List.zip_cons_cons, List.map_cons, b], by rw [List.zip_cons_cons, List.map_cons, c]⟩
      rcases List.mem_cons.mp hp with rfl | hp
      · exact h1
      · exact a p hp
theorem plDs_mem : ∀ {n : Nat} {ds : List D}, plDs n ds = true → ∀ d ∈ ds, plD n d = true
  | _, [], _, _, h => by cases h
  | n, d :: ds, hp, e, he => by
    unfold plDs at hp
    obtain ⟨h1, h2⟩ := Bool.and_eq_true_iff.mp hp
    rcases List.mem_cons.mp he with rfl | he
    · exact h1
    · exact plDs_mem h2 e he
theorem rde_sortedD {K : PySem.W.Frag} {m : MS} {P : D → MS → Prop} {ds : List D} {d0 : D} (n : Nat) (hsrc : d0 = .lst ds ∨ d0 = .fls ds) (hn : n ≤ 40) (hp : plDs n ds = true) (hal : PySem.W.AllAlike (ds.map toPy)) (hk : PySem.W.Sortable (ds.map toPy)) (h : P (.lst (ds.mergeSort leD)) m) : RDE K (rSortedDt K) [d0] m P := fun vs H F s rv Q q => by
  obtain ⟨v, rfl, r⟩ := rps1 rv
  have core : ∀ a xs, SqL K H a xs → Rps K F xs ds → rSortedDt K [.ref a] H Q := fun a xs h1 h2 => by
    obtain ⟨z1, z2, z3⟩ := Rps.zipMem ds h2
    let g : V × D → V × PyData := fun p => (p.1, toPy p.2)
    refine ⟨a, (xs.zip ds).map g, rfl, ?_, fun b hb => ?_, ?_, ?_, fun b hb => ?_, fun p hp0 => ?_⟩
    · rw [List.map_map]; rw [← z2] at h1; exact h1
    · obtain ⟨p, hp1, rfl⟩ := List.mem_map.mp hb
      have hd : p.2 ∈ ds := by rw [← z3]; exact List.mem_map.mpr ⟨p, hp1, rfl⟩
      exact (z1 p hp1).dp s n _ (plDs_mem hp _ hd)
    · rw [List.map_map]
      have e : (xs.zip ds).map ((·.2) ∘ g) = ds.map toPy := by
        conv => rhs; rw [← z3, List.map_map]
        rfl
      rw [e]; exact hal
    · rw [List.map_map]
      have e : (xs.zip ds).map ((·.2) ∘ g) = ds.map toPy := by
        conv => rhs; rw [← z3, List.map_map]
        rfl
      rw [e]; exact hk
    · obtain ⟨p, hp1, rfl⟩ := List.mem_map.mp hb
      have hd : p.2 ∈ ds := by rw [← z3]; exact List.mem_map.mpr ⟨p, hp1, rfl⟩
      exact Nat.le_trans (canLay_of n _ (plDs_mem hp _ hd)).2 hn
    · have e1 : ((xs.zip ds).map g).mergeSort (PySem.W.dataLe false (·.2)) = ((xs.zip ds).mergeSort fun p q => leD p.2 q.2).map g := (List.map_mergeSort (r := fun p q : V × D => leD p.2 q.2) (s := PySem.W.dataLe false (·.2)) (f := g) (fun a _ b _ => rfl)).symm
      have e2 : ((xs.zip ds).mergeSort fun p q => leD p.2 q.2).map (·.2) = ds.mergeSort leD := by
        rw [List.map_mergeSort (s := leD) (fun a _ b _ => rfl), z3]
      rw [e1, List.map_map, show ((fun (x : V × PyData) => x.1) ∘ g) = (fun (p : V × D) => p.1) from rfl]
      refine q _ _ _ _ _ h (Go.new s hp0) (rp_newLst s hp0 ?_)
      rw [← e2]
      exact Rps.permBy _ fun p hp1 => z1 p ((List.mergeSort_perm _ _).mem_iff.mp hp1)
  rcases hsrc with rfl | rfl
  · cases r with
    | @lst a xs _ h1 h2 => exact core a xs (.inl (.inl (s.at h1))) h2
  · cases r with
    | @fls a xs _ h1 h2 => exact core a xs (s.toH.seq h1) h2
section
variable {X : Cx} {F0 : Hp} {e f a b c o i tg iter value : Expr} {es : List Expr} {ρ ρ' ρ1 : Env1} {m m' m1 m2 m3 : MS} {d d1 d2 d3 : D} {pos : Pos} {P : D → MS → Prop} {A : AEnds} {sts body : List Stmt} {j : Nat}
theorem xe_sortedD {p : Pos} (n : Nat) (hr : Room j X.A) (hm : X.mg "sorted" = none) (h : XE X F0 a ρ m fun d1 m1 => ∃ ds, (d1 = .lst ds ∨ d1 = .fls ds) ∧ plDs n ds = true ∧ PySem.W.AllAlike (ds.map toPy) ∧ PySem.W.Sortable (ds.map toPy) ∧ P (.lst (ds.mergeSort leD)) m1) (hn : n ≤ 40 := by decide) (hg : Gl X "sorted" := by rfl)
    (he : starEach [a] X.env = (false, eval a X.env) :: starEach [] X.env := by rfl) : XE X F0 (.Call (.Name "sorted" p) [a] [] pos) ρ m P :=
  xe_callBX (cr_sortedDt hr.units) hm (xae_cons (h.mono fun d1 m1 q => by
    obtain ⟨ds, hsrc, q1, q2, q3, q4⟩ := q
    exact xae_nil (rde_sortedD n hsrc hn q1 q2 q3 q4)) he) (by decide +kernel) hg (by decide) (by decide) he rfl
theorem xs_env (e : ρ = ρ1) (h : XS X F0 sts ρ1 m A) : XS X F0 sts ρ m A := by rw [e]; exact h
theorem xs_mem (e : m = m1) (h : XS X F0 sts ρ m1 A) : XS X F0 sts ρ m A := by rw [e]; exact h
theorem x1_setIxE {tpos : Pos} (h : XE X F0 e ρ m fun d m1 => XE X F0 a ρ m1 fun d1 m2 => ∃ p, d1 = .raw (.ref p) ∧ XE X F0 b ρ m2 fun d2 m3 => ∃ i ds n, d2 = .int i ∧ m3 p = some (.lst ds) ∧ ixN ds.length i = some n ∧ A.nx ρ (mset m3 p (.lst (ds.set n d))))
    (hs : swapsWithSole [.Subscript a b tpos] e pos.line X.env = pure false := by rfl) (hw : swappedStores [.Subscript a b tpos] e X.env = pure none := by rfl)
    (h1 : (assignEach [.Subscript a b tpos] X.env).map (·.2) = [assign (.Subscript a b tpos) X.env] := by rfl)
    (hass : ∀ v, assign (.Subscript a b tpos) X.env v = (do
      let ov ← holding [v] (eval a X.env)
      let iv ← holding [v, ov] (eval b X.env)
      standAt tpos
      holding [v, ov, iv] (setItem ov iv v)
      release [v, ov, iv] []) := by intro _; rfl) :
    X1 X F0 (.Assign [.Subscript a b tpos] e pos) ρ m A := .mk fun σ H F S E k => by
  refine wS_of (ps_asg pe_w (pg_sub pe_w pe_w set_list hass) hs hw h1) ?_
  refine h.run σ H F S _ fun v H1 F1 d m1 p1 g1 r1 => p1.run σ H1 F1 (S.go g1) _ fun x H2 F2 d1 m2 p2 g2 r2 => ?_
  obtain ⟨p, rfl, p2⟩ := p2
  refine p2.run σ H2 F2 ((S.go g1).go g2) _ fun y H3 F3 d2 m3 p3 g3 r3 => ?_
  obtain ⟨i, ds, n, rfl, hp, hn, hA⟩ := p3
  cases r2; cases r3
  obtain ⟨vs, e1, r⟩ := g3.std.cells p _ hp
  have G := (g1.trans g2).trans g3
  have g4 : Go X.K m3 H3 F3 (mset m3 p (.lst (ds.set n d))) (upd H3 p (.lst (vs.set n v))) F3 := Go.put g3.std hp ⟨_, upd_same, r.set n ((r1.up g2.grow _).up g3.grow _)⟩
  exact ⟨p, vs, i, n, rfl, rfl, e1, by rw [r.length]; exact hn, k.nx _ _ _ _ _ hA (G.trans g4) (S.go (G.trans g4))⟩
/-- a statement, then what holds behind it -/
theorem xs_cut {st : Stmt} (J : Env1 → MS → Prop) (h : X1 X F0 st ρ m { A with nx := J }) (k : ∀ ρ' m', J ρ' m' → XS X F0 sts ρ' m' A) : XS X F0 (st :: sts) ρ m A := xs_cons (h.mono k (fun _ _ h => h) (fun _ _ h => h) (fun _ _ h => h))
/-! ### while -/
theorem x1_while (Iv : Nat → Env1 → MS → Prop) (n : Nat) (h0 : Iv n ρ m) (step : ∀ n ρ' m', Iv n ρ' m' → XTE X F0 c ρ' m' fun k m1 => if k = true then XS X F0 body ρ' m1 { nx := fun ρ2 m2 => ∃ n', n' < n ∧ Iv n' ρ2 m2, rt := A.rt, bk := A.nx, ct := fun ρ2 m2 => ∃ n', n' < n ∧ Iv n' ρ2 m2 } else A.nx ρ' m1)
    (hp : PassesOwn (model X.prog X.w) X.A X.env X.xe := by exact PassesOwn.never) : X1 X F0 (.While c body [] pos) ρ m A := .mk fun σ H F S E k => by
  refine wS_of (ps_while hp pt_w pss_w) ?_
  refine ⟨fun n σ' H' => ∃ F' ρ' m', Iv n ρ' m' ∧ Go X.K m H F m' H' F' ∧ StR X.K F0 σ' H' F' ρ' m', ⟨n, F, ρ, m, h0, Go.refl S.std, S⟩, ?_⟩
  rintro n σ' H' ⟨F', ρ', m', iv, g1, S'⟩
  refine (step n ρ' m' iv).run σ' H' F' S' _ fun b H1 F1 m1 p1 g2 => ?_
  cases b with
  | true =>
    rw [if_pos rfl] at p1
    refine iteT ⟨fun σ2 H2 => ∃ F2 ρ2 m2 n', n' < n ∧ Iv n' ρ2 m2 ∧ Go X.K m H F m2 H2 F2 ∧ StR X.K F0 σ2 H2 F2 ρ2 m2, ?_, ?_⟩
    · rintro σ2 H2 ⟨F2, ρ2, m2, n', hn, iv2, g3, S2⟩
      exact ⟨n', hn, F2, ρ2, m2, iv2, g3, S2⟩
    · refine p1.run σ' H1 F1 (S'.go g2) _ ⟨?_, ?_, ?_, ?_⟩
      · rintro σ4 H4 F4 ρ4 m4 ⟨n', hn, iv4⟩ g4 S4
        exact ⟨F4, ρ4, m4, n', hn, iv4, (g1.trans g2).trans g4, S4⟩
      · exact fun v H4 F4 d m4 p g4 r4 => k.rt v H4 F4 d m4 p ((g1.trans g2).trans g4) r4
      · exact fun σ4 H4 F4 ρ4 m4 p g4 S4 => k.nx σ4 H4 F4 ρ4 m4 p ((g1.trans g2).trans g4) S4
      · rintro σ4 H4 F4 ρ4 m4 ⟨n', hn, iv4⟩ g4 S4
        exact ⟨F4, ρ4, m4, n', hn, iv4, (g1.trans g2).trans g4, S4⟩
  | false =>
    rw [if_neg (by decide)] at p1
    exact iteF (k.nx σ' H1 F1 ρ' m1 p1 (g1.trans g2) (S'.go g2))
end
end Mu
namespace Mu
open PySem PySem.Spec L2
open PyProof.Rows hiding St
/-! ### a text so many times -/
def repS (z : Str) (n : Nat) : Str := ⟨(List.replicate n z.cps).foldl (· ++ ·) #[]⟩
theorem foldl_app_size (z : Array Nat) : ∀ (n : Nat) (acc : Array Nat), ((List.replicate n z).foldl (· ++ ·) acc).size = acc.size + n * z.size
  | 0, acc => by simp
  | n + 1, acc => by
    rw [List.replicate_succ, List.foldl_cons, foldl_app_size z n, Array.size_append, Nat.succ_mul]
    omega
theorem repS_len (z : Str) (n : Nat) : (repS z n).length = n * z.length := by
  show ((List.replicate n z.cps).foldl (· ++ ·) #[]).size = _
  rw [foldl_app_size]; simp [Str.length]
theorem repS_one (z : Str) : repS z 1 = z := by
  unfold repS
  rw [List.replicate_one, List.foldl_cons, List.foldl_nil, Array.empty_append]
def rMulSn : R2 := fun x y H Q => ∃ z k, x = .str z ∧ y = .int k ∧ 1 ≤ k ∧ k ≤ 1000 ∧ 1 ≤ z.length ∧ z.length ≤ 1000 ∧ Q (.str (repS z k.toNat)) H
theorem op_mulSn {X : Cx} : OpR X (binaryOp .Mult) rMulSn := by
  intro pins s σ H x y v u Q I rx ry h
  obtain ⟨z, k, rfl, rfl, hk1, hk2, hz1, hz2, q⟩ := h
  obtain ⟨t, rfl⟩ := rx
  obtain ⟨t', rfl⟩ := ry
  have hl : z.length * k.toNat ≤ 1000 * 1000 := Nat.mul_le_mul hz2 (by omega)
  refine PySem.P.mul_str (by rw [decide_eq_false (by omega), decide_eq_false (by omega)]; rfl) (fun _ _ => ?_) (fun _ _ => ?_) ?_
  · have h1 : (1000 : Int) ≤ (2 ^ 63 - 1) / k := by
      rw [Int.le_ediv_iff_mul_le (by omega)]
      omega
    omega
  · unfold Builtin.Str.tooLong
    exact decide_eq_false (by have : (1000 * 1000 : Nat) < sizeLine := by decide
                              omega)
  · rw [if_neg (by omega)]
    by_cases h1 : k = 1
    · subst h1
      rw [if_pos (by simp)]
      rw [show (1 : Int).toNat = 1 from rfl, repS_one] at q
      exact ⟨.str _, H, I, ⟨_, rfl⟩, q⟩
    · rw [if_neg (by simp only [Bool.or_eq_true, beq_iff_eq]; omega)]
      refine ⟨?_, .str _, H, I.tok _, ⟨_, rfl⟩, q⟩
      have := repS_len z k.toNat
      have e2 : k.toNat * z.length = z.length * k.toNat := Nat.mul_comm _ _
      have : (1000 * 1000 : Nat) < sizeLine := by decide
      show (repS z k.toNat).length ≤ sizeLine
      omega
section
variable {X : Cx} {F0 : Hp} {e f a b c o i tg iter value : Expr} {es : List Expr} {ρ ρ' ρ1 : Env1} {m m' m1 m2 m3 : MS} {d d1 d2 d3 : D} {pos p2 : Pos} {P : D → MS → Prop} {A : AEnds} {sts body : List Stmt} {j : Nat}
theorem xd_mulSn {z : Str} {k : Int} (ha : XD X F0 a ρ m (.str z) m1) (hb : XD X F0 b ρ m1 (.int k) m2) (h1 : 1 ≤ k) (h2 : k ≤ 1000) (h3 : 1 ≤ z.length) (h4 : z.length ≤ 1000) : XD X F0 (.BinOp a .Mult b pos) ρ m (.str (repS z k.toNat)) m2 := xd_op (r := rMulSn) op_mulSn (fun x y H F s r1 r2 Q q => by
  cases r1; cases r2
  exact ⟨z, k, rfl, rfl, h1, h2, h3, h4, q _ H F (Go.refl s) (.str _)⟩) ha hb
/-- a list's cut, its end drawn -/
theorem xe_slL_to (h : XE X F0 a ρ m fun d1 m1 => ∃ ds, d1 = .lst ds ∧ XE X F0 e ρ m1 fun d2 m2 => ∃ i, d2 = .int i ∧ P (.lst (cutD ds none (some i))) m2) : XE X F0 (.Subscript a (.Slice none (some e) none p2) pos) ρ m P := .mk fun σ H F S Q q => by
  refine wE_of (pe_slice sl_list pe_w po_none (po_some pe_w)) ?_
  refine h.run σ H F S _ fun x H1 F1 d1 m1 p1 g1 r1 => ?_
  obtain ⟨ds, rfl, p1⟩ := p1
  refine p1.run σ H1 F1 (S.go g1) _ fun y H2 F2 d2 m2 p2 g2 r2 => ?_
  obtain ⟨i, rfl, p2⟩ := p2
  cases r2
  have r1 := r1.up g2.grow
  cases r1 with
  | @lst p vs _ h1 h2 =>
    refine ⟨i, rfl, p, vs, rfl, .inl (.inl (g2.std.at h1)), fun q1 hq1 => ?_⟩
    exact q _ _ _ _ _ p2 ((g1.trans g2).trans (Go.new g2.std hq1)) (rp_newLst g2.std hq1 (h2.cut none (some i)))
theorem xe_catL (h : XE X F0 a ρ m fun d1 m1 => ∃ xs, d1 = .lst xs ∧ XE X F0 b ρ m1 fun d2 m2 => ∃ ys, d2 = .lst ys ∧ xs.length + ys.length ≤ 100000 ∧ P (.lst (xs ++ ys)) m2) : XE X F0 (.BinOp a .Add b pos) ρ m P := xe_op op_cat (h.mono fun d1 m1 q => by
  obtain ⟨i, rfl, q⟩ := q
  refine q.mono fun d2 m2 q => ?_
  obtain ⟨j, rfl, hz, q⟩ := q
  exact ⟨_, _, rd_catL hz, q⟩)
theorem xd_lenM {p : Pos} {q : Addr} {ds : List D} (hm : X.mg "len" = none) (ha : XD X F0 a ρ m (.raw (.ref q)) m1) (hp : m1 q = some (.lst ds)) (hg : Gl X "len" := by rfl) (he : starEach [a] X.env = (false, eval a X.env) :: starEach [] X.env := by rfl) : XD X F0 (.Call (.Name "len" p) [a] [] pos) ρ m (.int ds.length) m1 := by
  refine XE.xd (xe_callBX call_len hm (xae_cons (ha.xe (xae_nil fun vs H F s rv Q qq => ?_)) he) PySem.boot_len hg (by decide) (by decide) he rfl)
  obtain ⟨v, rfl, r⟩ := rps1 rv
  cases r
  obtain ⟨vs, e, r⟩ := s.cells q _ hp
  exact ⟨_, ds.length, rfl, .inl ⟨vs, .inl (.inl e), r.length.symm⟩, qq _ H F _ _ ⟨rfl, rfl⟩ (Go.refl s) (.int _)⟩
theorem xe_eq (h : XE X F0 a ρ m fun d1 m1 => XE X F0 b ρ m1 fun d2 m2 => sc d1 d2 = true ∧ P (.bl (scEq d1 d2)) m2) : XE X F0 (.Compare a [.Eq] [b] pos) ρ m P := xe_cmp op_eq (h.mono fun d1 m1 q => q.mono fun d2 m2 q => ⟨_, _, rd_eq q.1, q.2⟩) (nomark _)
/-! ### and, or of tests known by what is true of them -/
structure XWE (X : Cx) (F0 : Hp) (e : Expr) (ρ : Env1) (m : MS) (P : Bool → MS → Prop) : Prop where
  run : ∀ σ H F, StR X.K F0 σ H F ρ m → ∀ Q : Bool → Hp → Prop, (∀ b H' F' m', P b m' → Go X.K m H F m' H' F' → Q b H') → wW X e σ H Q
variable {rest : List Expr} {PT : Bool → MS → Prop}
theorem XWE.xte (h : XWE X F0 e ρ m PT) : XTE X F0 e ρ m PT := .mk fun σ H F S Q q pins s I => h.run σ H F S Q q _ pins s I
theorem xwe_and1 (h : XTE X F0 a ρ m PT) : XWE X F0 (.BoolOp .And [a] pos) ρ m PT := .mk fun σ H F S Q q => wW_of (pw_and1 pt_w) (h.run σ H F S Q q)
theorem xwe_or1 (h : XTE X F0 a ρ m PT) : XWE X F0 (.BoolOp .Or [a] pos) ρ m PT := .mk fun σ H F S Q q => wW_of (pw_or1 pt_w) (h.run σ H F S Q q)
theorem xwe_and (h : XTE X F0 a ρ m fun k m1 => (k = true → XWE X F0 (.BoolOp .And (b :: rest) pos) ρ m1 PT) ∧ (k = false → PT false m1)) : XWE X F0 (.BoolOp .And (a :: b :: rest) pos) ρ m PT := .mk fun σ H F S Q q => by
  refine wW_of (pw_and pt_w pw_w) ?_
  refine h.run σ H F S _ fun k H1 F1 m1 p1 g1 => ?_
  cases k with
  | true => exact iteT ((p1.1 rfl).run σ H1 F1 (S.go g1) _ fun b H2 F2 m2 p2 g2 => q b H2 F2 m2 p2 (g1.trans g2))
  | false => exact iteF (q false H1 F1 m1 (p1.2 rfl) g1)
theorem xwe_or (h : XTE X F0 a ρ m fun k m1 => (k = false → XWE X F0 (.BoolOp .Or (b :: rest) pos) ρ m1 PT) ∧ (k = true → PT true m1)) : XWE X F0 (.BoolOp .Or (a :: b :: rest) pos) ρ m PT := .mk fun σ H F S Q q => by
  refine wW_of (pw_or pt_w pw_w) ?_
  refine h.run σ H F S _ fun k H1 F1 m1 p1 g1 => ?_
  cases k with
  | false => exact iteF ((p1.1 rfl).run σ H1 F1 (S.go g1) _ fun b H2 F2 m2 p2 g2 => q b H2 F2 m2 p2 (g1.trans g2))
  | true => exact iteT (q true H1 F1 m1 (p1.2 rfl) g1)
end
theorem mset_upd2 {m : MS} {p q : Addr} {c c' d : Cell} (h : p ≠ q) : mset (mset (mset m p c) q d) p c' = mset (mset m p c') q d := by
  rw [← mset_comm h, mset_mset]
end Mu

set_option Elab.async false
set_option linter.all false
set_option maxRecDepth 100000
set_option maxHeartbeats 8000000
namespace Mu
open PySem PySem.Spec L2 PyProof.Rows
/-! ### set(..) of a list of ints -/
section
variable {P : Program} {w : World} {A : Around} {E : Value → Shared → Prop} {s : Shared}
abbrev newSetO (w : World) : Obj := { cls := .type "set", dict := none, data := .set #[] 0 (.fresh 0 0 (!w.params.followText "set-order")) }
theorem call_set_lst {l : Addr} {items : Array Value} (ns : List Int) {Q : Value → Shared → Prop} (hh : A.handled = none) (hl : s.heap.IsList l items) (hit : IntsAre items.toList ns) (hb : ns.length + 1 < scanBound)
    (h : ∀ (h' : Heap) (tk c : Nat), SetR w h' s.heap.objs.size (fun j => decide (j ∈ ns)) c → c ≤ ns.length → (∀ b o, s.heap.get? b = some o → h'.get? b = some o) → Q (.ref s.heap.objs.size) { s with heap := h', toks := tk }) :
    wpAny (model P w) A (call (.type "set") [.ref l]) Q E s := by
  have hn : items.size = ns.length := (Array.length_toList ..).symm.trans (IntsAre.length hit)
  obtain ⟨_, _, hmro⟩ := F.called_set.mro
  have f1 := F.called_set.made
  have f2 := F.called_set.sub
  have f3 := F.called_set.notType
  have f4 := F.called_set.canCreate
  have f5 := F.typeCall_set_1 (.ref l)
  refine wpAny_call (codeAny_of_tree ?_)
  show wpAny _ _ (callAny (.type "set") _) _ _ _
  refine wpAny_pure ⟨Code.quiet_builtin _ (by decide +kernel), codeAny_builtin F.entry_type_call ?_⟩
  rw [Around.under_plain (weight_type_call_type "set" [.ref l] []) rfl]
  repeat (any_goals (first | assumption | wp_step))

  refine codeAny_mono (code_set_led1 (.ref l) (E := E) (Q₁ := fun u s1 => u = .ref s.heap.objs.size ∧ s1 = { s with heap := s.heap.push (newSetO w) }) ⟨rfl, rfl⟩) fun r s1 hr => ?_
  match r, hr with
  | .error _, hr => exact hr
  | .ok (.ret _), hr =>
    obtain ⟨rfl, rfl⟩ := hr
    have g0 : (s.heap.push (newSetO w)).get? s.heap.objs.size = some (newSetO w) := Heap.get?_push_size _ rfl
    have gT : Shared.TypeIs { s with heap := s.heap.push (newSetO w) } (.ref s.heap.objs.size) "set" := ⟨_, g0, rfl⟩
    have f6 := F.called_set.init.lookup
    have f7 := F.called_set.init.bind (.ref s.heap.objs.size)
    repeat (any_goals (first | assumption | wp_step))

    refine codeAny_mono (codeAny_call_builtin (R := wants (fun r s2 => r = .none ∧ ∃ h' tk c, s2 = { s with heap := h', toks := tk } ∧ SetR w h' s.heap.objs.size (fun j => decide (j ∈ ns)) c ∧ c ≤ ns.length ∧ (∀ b o, s.heap.get? b = some o → h'.get? b = some o)) E) F.called_set.init.plain F.entry_set_init (check_set_init_1 gT ?_)) fun r2 s2 hr2 => ?_
    · obtain ⟨⟨ocls, odict, odata, oslots⟩, hol, hcl, nl, hdl⟩ := hl
      simp only at hcl hdl
      subst hcl; subst hdl
      have gl : (s.heap.push (newSetO w)).get? l = some { cls := .type "list", dict := odict, data := .seq items nl, slots := oslots } := Heap.get?_push_of_some _ hol
      have k1 := F.sub_list_set
      have k2 := F.sub_list_frozenset
      have k3 : (Value.type "list" == Value.type "dict") = false := by decide
      have il : (s.heap.push (newSetO w)).IsList l items := ⟨_, gl, rfl, nl, rfl⟩
      have hlt : l < s.heap.objs.size := Heap.lt_size hol
      have hsz : (s.heap.push (newSetO w)).objs.size = s.heap.objs.size + 1 := Heap.size_push ..
      unfold Builtin.«set.__init__» noKeywords Builtin.Frozenset.updateFrom
      generalize hPI : pyIter = PI
      wp_walk
      subst hPI

      refine wpAny_pyIter_list il (wpAny_bind (wpAny_runValue ?_))
      have hin : ∀ (i : Nat) (v : Value), items[i]? = some v → ∃ k t, ns[i]? = some k ∧ v = .int k t := fun i v hv => by
        have hi : i < ns.length := hn ▸ (Array.getElem?_eq_some_iff.mp hv).1
        obtain ⟨t, e⟩ := PyProof.Rows.IntsAre.int_at hit i v (by rw [Array.getElem?_toList]; exact hv)
        exact ⟨ns[i], t, List.getElem?_eq_getElem hi, by rw [e, List.getD_eq_getElem?_getD, List.getElem?_eq_getElem hi]; rfl⟩
      refine set_update_ints ((Walks.list (A := A.in1.in1.in1) (by simp [hh]) _ l (by rw [hsz]; exact Nat.ne_of_lt (Nat.lt_succ_of_lt hlt)) items).toS) s.heap.objs.size (by rw [hsz]; simp only [List.mem_cons, List.not_mem_nil, or_false, not_or]; exact ⟨Nat.ne_of_lt (Nat.lt_succ_self _), Nat.ne_of_gt hlt⟩) ns hn hb hin (items.size - 0) 0 _ (by omega) (Nat.zero_le _)
        ⟨⟨_, Heap.get?_push_size _ rfl, rfl, rfl⟩, (il.push _)⟩ ⟨0, Nat.le_refl 0, setR_new_at (Heap.get?_push_of_some _ g0)⟩ fun s' c' hm hc' hS' => ?_
      obtain ⟨h', g2, d', tk', os'⟩ := s'
      have eg : g2 = s.gens := hm.gens
      have ed : d' = s.drawn := hm.drawn
      have eo : os' = s.os := hm.os
      subst eg; subst ed; subst eo
      show wpAny _ _ _ _ _ _
      refine wpAny_pure ?_
      show wpAny _ _ (ret Value.none) _ _ _
      refine wpAny_pure ⟨rfl, h', tk', c', rfl, hS', hn ▸ hc', fun b o e => ?_⟩
      have hb0 : b < s.heap.objs.size := Heap.lt_size e
      exact hm.heap b o (by rw [hsz]; simp only [List.mem_cons, List.not_mem_nil, or_false, not_or]; exact ⟨Nat.ne_of_lt hb0, Nat.ne_of_lt (Nat.lt_succ_of_lt hb0)⟩) (Heap.get?_push_of_some _ (Heap.get?_push_of_some _ e))
    · match r2, hr2 with
      | .error _, hr2 => exact hr2
      | .ok (.ret _), hr2 =>
        obtain ⟨rfl, h', tk, c', rfl, hS', hc', hk'⟩ := hr2
        repeat (any_goals (first | assumption | wp_step))
        exact h _ _ _ hS' hc' hk'
end
def rSetL (K : PySem.W.Frag) (w : World) : List V → Hp → VK → Prop := fun vs H Q => ∃ (a : Addr) (ns : List Int), vs = [V.ref a] ∧ SqL K H a (ns.map V.int) ∧ ns.length + 1 < scanBound ∧ ∀ p n, n ≤ ns.length → H p = none → Q (.ref p) (upd H p (SetO w p (fun j => decide (j ∈ ns)) n))
theorem cr_setL {X : Cx} (hc : X.calm = true) : CallR X (.type "set") (rSetL X.K X.w) := by
  intro pins s σ H vs us Q I r h
  obtain ⟨a, ns, rfl, hs, hb, q⟩ := h
  obtain ⟨its, rv, hl, _⟩ := I.list hs
  rw [Vals.ref1 r]
  refine call_set_lst ns (I.ok.hd hc) hl.isList rv.ints hb fun h' tk c R hcn hk => ?_
  exact ⟨.ref _, upd H s.heap.objs.size (SetO X.w s.heap.objs.size (fun j => decide (j ∈ ns)) c), I.laid (t' := tk) (fun b u e => hk b u e) (Nat.le_refl _) (setO_new R), rfl, q _ c hcn (I.hok.fresh (Nat.le_refl _))⟩
section
variable {X : Cx} {F0 : Hp} {a : Expr} {ρ : Env1} {m : MS} {pos p1 p2 pos2 : Pos} {P : D → MS → Prop}
/-- sorted(set(xs)), xs a list of ints -/
theorem xe_sortedSetI (hm : X.mg "sorted" = none) (hm2 : X.mg "set" = none) (h : XE X F0 a ρ m fun d1 m1 => ∃ ns : List Int, d1 = .lst (ns.map D.int) ∧ ns.length < 63 ∧ ∀ ks : List Int, ks.Pairwise (· < ·) → (∀ k, k ∈ ks ↔ k ∈ ns) → P (.lst (ks.map D.int)) m1)
    (hc : X.calm = true := by rfl) (hg : Gl X "sorted" := by rfl) (hg2 : Gl X "set" := by rfl) (he : starEach [a] X.env = (false, eval a X.env) :: starEach [] X.env := by rfl)
    (he2 : starEach [.Call (.Name "set" p2) [a] [] pos2] X.env = (false, eval (.Call (.Name "set" p2) [a] [] pos2) X.env) :: starEach [] X.env := by rfl) :
    XE X F0 (.Call (.Name "sorted" p1) [.Call (.Name "set" p2) [a] [] pos2] [] pos) ρ m P := .mk fun σ H F S Q q => by
  refine wE_of (pe_callB (cr_sortedSet hc) hg hm (by decide +kernel) (pa_cons (pe_callTy (cr_setL hc) hg2 hm2 (by decide +kernel) (pa_cons pe_w pa_nil he) (by decide) (by decide) he rfl) pa_nil he2) (by decide) (by decide) he2 rfl) ?_
  refine h.run σ H F S _ fun v H1 F1 d m1 p1 g1 r1 => ?_
  obtain ⟨ns, rfl, hz, p1⟩ := p1
  cases r1 with
  | @lst l xs _ h1 h2 =>
    refine ⟨l, ns, rfl, by rw [← h2.ints]; exact .inl (.inl (g1.std.at h1)), Nat.lt_of_lt_of_le (show ns.length + 1 < 64 by omega) (by decide), fun p n hn hp => ?_⟩
    refine ⟨p, _, n, rfl, upd_same, by omega, fun ks p' hs hm hl hp' => ?_⟩
    have j1 := Go.junk (o := SetO X.w p (fun j => decide (j ∈ ns)) n) g1.std hp
    have hks : ∀ k, k ∈ ks ↔ k ∈ ns := fun k => by rw [hm k, decide_eq_true_iff]
    have hp0 : p' ≠ p := fun e => by rw [e, upd_same] at hp'; cases hp'
    exact q _ _ _ _ _ (p1 ks hs hks) ((g1.trans j1).trans (Go.new j1.std hp')) (rp_newLst j1.std hp' (.of_ints ks))
end
theorem rde_sortedI {K : PySem.W.Frag} {m : MS} {P : D → MS → Prop} {ns : List Int} (h : ∀ ks : List Int, ks.Perm ns → ks.Pairwise (· ≤ ·) → P (.lst (ks.map D.int)) m) : RDE K (rSortedI K) [.lst (ns.map D.int)] m P := fun vs H F s rv Q q => by
  obtain ⟨v, rfl, r⟩ := rps1 rv
  cases r with
  | @lst l xs _ h1 h2 => exact ⟨l, ns, rfl, by rw [← h2.ints]; exact .inl (.inl (s.at h1)), fun ks p hp hs hp0 => q _ _ _ _ _ (h ks hp hs) (Go.new s hp0) (rp_newLst s hp0 (.of_ints ks))⟩
theorem xt_chain {X : Cx} {F0 : Hp} {a b c : Expr} {ρ : Env1} {m m1 m2 : MS} {d1 d2 d3 : D} {pos : Pos} {op op' : CmpOp} {r r' : R2} {k1 k2 : Bool} (ho : OpR X (compareOp op) r) (ho' : OpR X (compareOp op') r') (h1 : RD2 X.K r d1 d2 m2 (.bl k1) m2) (h2 : RD2 X.K r' d2 d3 m2 (.bl k2) m2) (ha : XD X F0 a ρ m d1 m1) (hb : XD X F0 b ρ m1 d2 m2) (hc : XD X F0 c ρ m2 d3 m2)
    (hm : lastMarks [op, op'] [b, c] = false := by with_unfolding_all rfl) : XT X F0 (.Compare a [op, op'] [b, c] pos) ρ m (k1 && k2) m2 := .mk fun σ H F S Q q => by
  refine wT_of (pt_chain ho ho' pe_w pe_w pe_w hm) ?_
  refine ha.run σ H F S _ fun x H1 F1 g1 r1 => hb.run σ H1 F1 (S.go g1) _ fun y H2 F2 g2 r2 => ?_
  refine h1 x y H2 F2 g2.std (r1.up g2.grow _) r2 _ fun z H3 F3 g3 r3 => ?_
  cases r3
  refine ⟨k1, rfl, ?_⟩
  cases k1 with
  | false => exact ⟨false, rfl, q H3 F3 ((g1.trans g2).trans g3)⟩
  | true =>
    refine hc.run σ H3 F3 (((S.go g1).go g2).go g3) _ fun w' H4 F4 g4 r4 => ?_
    refine h2 y w' H4 F4 g4.std ((r2.up g3.grow _).up g4.grow _) r4 _ fun z H5 F5 g5 r5 => ?_
    cases r5
    exact ⟨k2, rfl, q H5 F5 ((((g1.trans g2).trans g3).trans g4).trans g5)⟩
theorem xe_ixMe {X : Cx} {F0 : Hp} {a b : Expr} {ρ : Env1} {m : MS} {pos : Pos} {P : D → MS → Prop} (h : XE X F0 a ρ m fun d1 m1 => ∃ p, d1 = .raw (.ref p) ∧ XE X F0 b ρ m1 fun d2 m2 => ∃ i ds d, d2 = .int i ∧ m2 p = some (.lst ds) ∧ atI ds i = some d ∧ P d m2) (hs : PlainIx b := by exact fun _ _ => rfl) : XE X F0 (.Subscript a b pos) ρ m P := .mk fun σ H F S Q q => by
  refine wE_of (pe_ix ix_list pe_w pe_w hs) ?_
  refine h.run σ H F S _ fun x H1 F1 d1 m1 p1 g1 r1 => ?_
  obtain ⟨p, rfl, p1⟩ := p1
  refine p1.run σ H1 F1 (S.go g1) _ fun y H2 F2 d2 m2 p2 g2 r2 => ?_
  obtain ⟨i, ds, d, rfl, hp, h, p2⟩ := p2
  cases r1; cases r2
  obtain ⟨vs, e, r⟩ := g2.std.cells p _ hp
  obtain ⟨v, e1, r1⟩ := rps_atI r h
  exact ⟨p, vs, i, v, rfl, rfl, .inl (.inl e), e1, q v H2 F2 d m2 p2 (g1.trans g2) r1⟩
theorem rde_maxL {K : PySem.W.Frag} {m : MS} {P : D → MS → Prop} {is : List Int} (hne : 0 < is.length) (h : ∀ z, z ∈ is → P (.int z) m) : RDE K (rMax K) [.lst (is.map D.int)] m P := fun vs H F s rv Q q => by
  obtain ⟨v, rfl, r⟩ := rps1 rv
  cases r with
  | @lst l xs _ h1 h2 => exact ⟨l, is, rfl, by rw [← h2.ints]; exact .inl (.inl (s.at h1)), hne, fun z hz _ => q _ H F _ m (h z hz) (Go.refl s) (.int _)⟩
end Mu

namespace My
open PySem PySem.Spec L2 Mu
open PyProof.Rows hiding St
/-! ### short tactics: "v" closes a value that is a constant or a name; "s" goes one step; "s*" as far as it goes -/
local macro_rules | `(tactic| walk_at "v") => `(tactic| first | exact xd_int | exact xd_str | exact xd_bl | exact xd_non | exact xd_var 0 rfl | exact xd_var 1 rfl | exact xd_var 2 rfl | exact xd_var 3 rfl | exact xd_var 4 rfl | exact xd_var 5 rfl | exact xd_var 6 rfl | exact xd_var 7 rfl | exact xd_var 8 rfl | exact xd_var 9 rfl | exact xd_var 10 rfl | exact xd_var 11 rfl | exact xd_var 12 rfl | exact xd_var 13 rfl | exact xd_var 14 rfl | exact xd_var 15 rfl)
local macro_rules | `(tactic| walk_at "s") => `(tactic| first
  | refine xae_nil ?_
  | refine xae_cons ?_
  | refine XD.xe (by walk_at "v") ?_
  | refine xe_add ?_
  | refine xe_sub ?_
  | refine xe_mul ?_
  | refine xe_mod ?_
  | refine xe_fdiv ?_
  | refine XD.xe (xd_pow xd_int xd_int ⟨by decide, by decide, by decide⟩) ?_
  | (with_reducible refine ⟨_, rfl, ?_⟩)
  | refine ⟨Nat.le_of_ble_eq_true rfl, ?_⟩)
local macro_rules | `(tactic| walk_at "s*") => `(tactic| repeat walk_at "s")
theorem mset_at2 {m : MS} {p q : Addr} {c c' : Cell} (h : m q = some c') (ne : q ≠ p) : mset m p c q = some c' := by rw [mset_ne ne]; exact h
theorem ne_fresh {m : MS} {p b : Addr} {c : Cell} (h : m b = some c) (hp : m p = none) : p ≠ b := fun e => by rw [e, h] at hp; cases hp
theorem mset_off {m : MS} {p b : Addr} {c : Cell} (h : mset m b c p = none) (ne : p ≠ b) : m p = none := by rw [mset_ne ne] at h; exact h
set_option hygiene false in
local macro_rules | `(tactic| walk_at "t") => `(tactic| (refine xe_callE c__law_take hr ?_; walk_at "s*"))

/-! ### bx -/
/-- a box: what is left of a cell's own digits, the mixed number, how many were drawn -/
def BxC (n : Int) (c : Cell) : Prop := ∃ x y z : Int, c = .lst [.int x, .int y, .int z] ∧ 0 ≤ x ∧ 0 ≤ y ∧ y < 2147483647 ∧ 0 ≤ z ∧ z ≤ n
theorem BxC.up {n k : Int} {c : Cell} (h : BxC n c) (e : n ≤ k) : BxC k c := by
  obtain ⟨x, y, z, rfl, h1, h2, h3, h4, h5⟩ := h
  exact ⟨x, y, z, rfl, h1, h2, h3, h4, Int.le_trans h5 e⟩
/-- the boxes from the i-th on are as they were made -/
def Bxs (ps : List Addr) (i : Nat) (m : MS) : Prop := ∀ (j : Nat) (p : Addr), i ≤ j → ps[j]? = some p → ∃ c, m p = some c ∧ BxC 0 c
theorem Bxs.start {ps : List Addr} {m : MS} (h : ∀ p ∈ ps, ∃ c, m p = some c ∧ BxC 0 c) : Bxs ps 0 m := fun j p _ e => h p (List.mem_of_getElem? e)
theorem Bxs.here {ps : List Addr} {i : Nat} {m : MS} {p : Addr} (h : Bxs ps i m) (e : ps[i]? = some p) : ∃ c, m p = some c ∧ BxC 0 c := h i p (Nat.le_refl _) e
theorem nodup_at {ps : List Addr} (hn : ps.Nodup) {i j : Nat} {p : Addr} (a : ps[i]? = some p) (b : ps[j]? = some p) : i = j := by
  obtain ⟨h1, e1⟩ := List.getElem?_eq_some_iff.mp a
  obtain ⟨h2, e2⟩ := List.getElem?_eq_some_iff.mp b
  exact (List.getElem_inj hn).mp (e1.trans e2.symm)
theorem Bxs.next {ps : List Addr} {i : Nat} {m : MS} {p : Addr} {c : Cell} (hn : ps.Nodup) (h : Bxs ps i m) (e : ps[i]? = some p) : Bxs ps (i + 1) (mset m p c) := fun j q hj e2 => by
  have ne : q ≠ p := fun z => by
    rw [z] at e2
    have := nodup_at hn e e2
    omega
  rw [mset_ne ne]
  exact h j q (by omega) e2
theorem raw_get {ps : List Addr} {i : Nat} {d : D} (h : (ps.map fun p => D.raw (.ref p))[i]? = some d) : ∃ p, ps[i]? = some p ∧ d = .raw (.ref p) := by
  rw [List.getElem?_map] at h
  cases e : ps[i]? with
  | none => rw [e] at h; cases h
  | some p => rw [e] at h; exact ⟨p, rfl, (Option.some.inj h).symm⟩

/-! ### boxlc -/
/-- a comprehension that draws from a box -/
theorem xe_lcB {α : Type} {X : Cx} {F0 : Hp} {elt tg iter : Expr} {ρ : Env1} {m : MS} {pos : Pos} {P : D → MS → Prop} {scope : Scope} {own : List (Str × Nat)} {items : List D} (enc : α → D) (R : Nat → α → Prop) (k n : Int) (b : Addr) {c0 : Cell} (hb : m b = some c0) (hc0 : BxC n c0) (hN : X.N.Nodup) (hi : XI X F0 tg iter ρ m items m fun _ => True) (ok : BlkOk X.N X.env.scope scope own) (hz : items.length ≤ 100000)
    (step : ∀ (i : Nat) (d : D) (c' : Cell), items[i]? = some d → BxC (n + k * i) c' → LcStepE X F0 scope tg [] elt (wipeR ρ (own.map (·.2))) (own.map (·.2)) d (mset m b c') fun o m' => ∃ a c2, o = some (enc a) ∧ R i a ∧ m' = mset m b c2 ∧ BxC (n + k * i + k) c2)
    (hP : ∀ (xs : List α) (c' : Cell), xs.length = items.length → (∀ i a, xs[i]? = some a → R i a) → BxC (n + k * items.length) c' → P (.lst (xs.map enc)) (mset m b c'))
    (hc : X.calm = true := by rfl) (hs : ∀ x, foldedSetIterable iter X.env x = pure x := by intro _; rfl) :
    XE X F0 (.ListComp elt [⟨tg, iter, [], 0⟩] scope pos) ρ m P :=
  xe_lc (own := own) (fun i acc mi => ∃ (xs : List α) (c' : Cell), acc = xs.map enc ∧ xs.length = i ∧ (∀ i a, xs[i]? = some a → R i a) ∧ mi = mset m b c' ∧ BxC (n + k * i) c') hN hi ok ⟨[], c0, rfl, rfl, by simp, (mset_self hb).symm, hc0.up (by omega)⟩ (fun _ _ _ _ _ => trivial) hz (fun i d acc mi hd h => by
      obtain ⟨xs, c', rfl, rfl, hR, rfl, hc'⟩ := h
      refine (step xs.length d c' hd hc').mono fun o m' q => ?_
      obtain ⟨a, c2, rfl, ra, rfl, h2⟩ := q
      refine ⟨xs ++ [a], c2, by simp, by simp, fun j e he => ?_, rfl, h2.up ?_⟩
      · by_cases hj : j < xs.length
        · rw [List.getElem?_append_left hj] at he; exact hR j e he
        · rw [List.getElem?_append_right (by omega)] at he
          have hj0 : j - xs.length = 0 := by
            cases hq : j - xs.length with
            | zero => rfl
            | succ q => rw [hq] at he; simp at he
          rw [hj0] at he
          have e1 : a = e := by simpa using he
          have e2 : j = xs.length := by omega
          rw [← e1, e2]; exact ra
      · exact Int.le_of_eq (by simp [Int.mul_add, Int.add_assoc])) (fun acc m' h => by
      obtain ⟨xs, c', rfl, h1, hR, rfl, hc'⟩ := h
      exact hP xs c' h1 hR hc') hc (by decide) hs
theorem mem_get {α : Type} {xs : List α} {R : Nat → α → Prop} (h : ∀ i a, xs[i]? = some a → R i a) {S : α → Prop} (k : ∀ i a, R i a → S a) : ∀ a ∈ xs, S a := fun a ha => by
  obtain ⟨i, hi, rfl⟩ := List.mem_iff_getElem.mp ha
  exact k i _ (h i _ (List.getElem?_eq_getElem hi))

/-! ### amt -/
theorem okD_tupI {n : Nat} {xs : List Int} (h : xs.length ≤ 1000) : okD (n + 1) (tupI xs) := okD_ints n xs (by omega)
theorem okD_list {n : Nat} {ds : List D} (hl : ds.length ≤ 1000) (h : ∀ d ∈ ds, okD n d) : okD (n + 1) (.lst ds) := ⟨by omega, h⟩
theorem okD_tuple {n : Nat} {ds : List D} (hl : ds.length ≤ 1000) (h : ∀ d ∈ ds, okD n d) : okD (n + 1) (.tup ds) := ⟨by omega, h⟩
theorem ixT {xs : List Int} {i : Nat} (h : i < xs.length) : IxD (tupI xs) ((0 : Int) + (i : Nat)) (.int (xs.getD i 0)) := by
  refine .tup ?_
  rw [Int.zero_add]
  refine atI_nat ?_
  rw [List.getElem?_map, List.getElem?_eq_getElem h, List.getD_eq_getElem?_getD, List.getElem?_eq_getElem h]
  rfl
theorem ixT' {xs : List Int} {i : Int} (h0 : 0 ≤ i) (h : i < xs.length) : IxD (tupI xs) i (.int (xs.getD i.toNat 0)) := by
  have := ixT (xs := xs) (i := i.toNat) (by omega)
  rwa [show (0 : Int) + (i.toNat : Nat) = i by omega] at this
/-- no ware of the one is more than the other's -/
def fitB (xs ys : List Int) : Bool := (List.zipWith (fun a b => decide (a ≤ b)) xs ys).all id
theorem fitB_iff : ∀ {xs ys : List Int}, xs.length = ys.length → (fitB xs ys = true ↔ ∀ i, i < xs.length → xs.getD i 0 ≤ ys.getD i 0)
  | [], [], _ => by simp [fitB]
  | x :: xs, y :: ys, h => by
    have ih := fitB_iff (xs := xs) (ys := ys) (by simpa using h)
    have e : fitB (x :: xs) (y :: ys) = (decide (x ≤ y) && fitB xs ys) := rfl
    rw [e, Bool.and_eq_true_iff, ih, decide_eq_true_iff]
    constructor
    · rintro ⟨h1, h2⟩ i hi
      cases i with
      | zero => exact h1
      | succ i => exact h2 i (by simpa using hi)
    · intro h
      refine ⟨h 0 (by simp), fun i hi => ?_⟩
      exact h (i + 1) (by simpa using hi)
  | [], y :: ys, h => by simp at h
  | x :: xs, [], h => by simp at h
/-- the lesser number in each ware -/
def leastI (xs ys : List Int) : List Int := List.zipWith (fun a b => if a < b then a else b) xs ys
theorem leastI_len {xs ys : List Int} (h : xs.length = ys.length) : (leastI xs ys).length = xs.length := by
  unfold leastI; rw [List.length_zipWith]; omega
theorem range_zipWith (f : Int → Int → Int) (xs ys : List Int) (n : Nat) (h1 : xs.length = n) (h2 : ys.length = n) : (List.range n).map (fun i => D.int (f (xs.getD i 0) (ys.getD i 0))) = (List.zipWith f xs ys).map D.int := by
  apply List.ext_getElem?
  intro i
  rw [List.getElem?_map, List.getElem?_map]
  by_cases hi : i < n
  · rw [List.getElem?_range hi, List.getElem?_zipWith, List.getElem?_eq_getElem (show i < xs.length by omega), List.getElem?_eq_getElem (show i < ys.length by omega)]
    simp only [Option.map_some, List.getD_eq_getElem?_getD, List.getElem?_eq_getElem (show i < xs.length by omega), List.getElem?_eq_getElem (show i < ys.length by omega), Option.getD_some]
  · rw [List.getElem?_eq_none (by simpa using hi), List.getElem?_eq_none (by rw [List.length_zipWith]; omega)]
    rfl
/-- a list of ints is empty -/
theorem ints_pl : ∀ (l : List D), (∀ d ∈ l, ∃ i, d = .int i) → ∀ n, plDs n l = true ∧ noBls l = true
  | [], _, n => ⟨rfl, rfl⟩
  | d :: l, h, n => by
    obtain ⟨i, rfl⟩ := h d (by simp)
    obtain ⟨a, b⟩ := ints_pl l (fun d hd => h d (by simp [hd])) n
    exact ⟨by unfold plDs plD; rw [a]; rfl, by unfold noBls noBl; rw [b]; rfl⟩
theorem eqD_nil {l : List D} (h : ∀ d ∈ l, ∃ i, d = .int i) : eqD (.lst l) (.lst []) = decide (l = []) := by
  have e := eqD_iff (d := .lst l) (e := .lst []) (by unfold noBl; exact (ints_pl l h 0).2) rfl
  cases hd : eqD (.lst l) (.lst []) with
  | true => rw [hd] at e; rw [decide_eq_true]; simpa using e
  | false => rw [hd] at e; rw [decide_eq_false]; simpa using e
theorem lenT (xs : List Int) : LenD (tupI xs) xs.length := by
  have := LenD.tup (xs.map D.int)
  rwa [List.length_map] at this

/-! ### rw69 -/
/-- an entry's row -/
structure Rw where
  key : Str
  b : Int
  e : Int
  am : List Int
def Rw.d (r : Rw) : D := .tup [.str r.key, .int r.b, .int r.e, tupI r.am]
structure Rw.ok (w : Nat) (r : Rw) : Prop where
  key : r.key.length ≤ 8
  sk : PyData.strOk r.key = true
  be : r.b < r.e
  wl : r.am.length = w
  nn : ∀ x ∈ r.am, 0 ≤ x
def actB (t : Int) (r : Rw) : Bool := decide (r.b ≤ t) && decide (t < r.e)
/-- the load of a time, ware by ware -/
def loadI (w : Nat) (rs : List Rw) (t : Int) : List Int := (List.range w).map fun j => ((rs.filter (actB t)).map fun r => r.am.getD j 0).sum
theorem loadI_len (w : Nat) (rs : List Rw) (t : Int) : (loadI w rs t).length = w := by unfold loadI; rw [List.length_map, List.length_range]
theorem rows_empty (rs : List Rw) : eqD (.lst (rs.map Rw.d)) (.lst []) = rs.isEmpty := by
  cases rs <;> rfl
theorem ints_plD : ∀ (xs : List Int) (n : Nat), plDs n (xs.map D.int) = true ∧ noBls (xs.map D.int) = true := fun xs n => ints_pl _ (fun d hd => by
  obtain ⟨x, _, rfl⟩ := List.mem_map.mp hd
  exact ⟨x, rfl⟩) n
theorem rows_pl {w : Nat} : ∀ (rs : List Rw), (∀ r ∈ rs, r.ok w) → plDs 3 (rs.map Rw.d) = true ∧ noBls (rs.map Rw.d) = true
  | [], _ => ⟨rfl, rfl⟩
  | r :: rs, h => by
    obtain ⟨a, b⟩ := rows_pl rs fun q hq => h q (by simp [hq])
    have hk := (h r (by simp)).sk
    have i1 := ints_plD r.am 1
    constructor
    · rw [List.map_cons]
      have e : plD 3 r.d = true := by
        unfold Rw.d
        simp only [plD, plDs, hk, i1.1, Bool.and_self]
      unfold plDs
      rw [a, e]; rfl
    · rw [List.map_cons]
      have e : noBl r.d = true := by
        unfold Rw.d
        simp only [noBl, noBls, i1.2, Bool.and_self]
      unfold noBls
      rw [b, e]; rfl

/-! ### most -/
/-- all are at least nought -/
def geZ (xs : List Int) : Prop := ∀ x ∈ xs, 0 ≤ x ∧ x ≤ 10 ^ 12
def mostL (xs ys : List Int) : List Int := (xs.zip ys).filterMap fun p => if decide (0 < p.1) = true then some (p.2 / p.1) else none
theorem least_of : ∀ (l : List Int), l ≠ [] → ∃ z, z ∈ l ∧ ∀ y ∈ l, z ≤ y
  | [], h => absurd rfl h
  | [a], _ => ⟨a, by simp, by simp⟩
  | a :: b :: l, _ => by
    obtain ⟨z, h1, h2⟩ := least_of (b :: l) (by simp)
    by_cases h : a ≤ z
    · refine ⟨a, by simp, fun y hy => ?_⟩
      rcases List.mem_cons.mp hy with rfl | hy
      · omega
      · have := h2 y hy; omega
    · refine ⟨z, by simp [h1], fun y hy => ?_⟩
      rcases List.mem_cons.mp hy with rfl | hy
      · omega
      · exact h2 y hy
theorem zip_get {xs ys : List Int} {p : Int × Int} (h : p ∈ xs.zip ys) : ∃ i, i < xs.length ∧ i < ys.length ∧ p = (xs.getD i 0, ys.getD i 0) := by
  obtain ⟨i, hi, e⟩ := List.mem_iff_getElem.mp h
  rw [List.length_zip] at hi
  refine ⟨i, by omega, by omega, ?_⟩
  rw [← e, List.getElem_zip, List.getD_eq_getElem?_getD, List.getD_eq_getElem?_getD, List.getElem?_eq_getElem (show i < xs.length by omega), List.getElem?_eq_getElem (show i < ys.length by omega)]
  rfl
theorem zip_mem {xs ys : List Int} {i : Nat} (h1 : i < xs.length) (h2 : i < ys.length) : (xs.getD i 0, ys.getD i 0) ∈ xs.zip ys := by
  refine List.mem_iff_getElem.mpr ⟨i, by rw [List.length_zip]; omega, ?_⟩
  rw [List.getElem_zip, List.getD_eq_getElem?_getD, List.getD_eq_getElem?_getD, List.getElem?_eq_getElem h1, List.getElem?_eq_getElem h2]
  rfl
theorem getD_map_mul (xs : List Int) (k : Int) (i : Nat) : (xs.map (· * k)).getD i 0 = xs.getD i 0 * k := by
  rw [List.getD_eq_getElem?_getD, List.getD_eq_getElem?_getD, List.getElem?_map]
  cases xs[i]? <;> simp
theorem getD_mem' {xs : List Int} {i : Nat} (h : i < xs.length) : xs.getD i 0 ∈ xs := by
  rw [List.getD_eq_getElem?_getD, List.getElem?_eq_getElem h]
  exact List.getElem_mem h
theorem mostL_ne {xs ys : List Int} (he : xs.length = ys.length) (hp : ∃ x ∈ xs, 0 < x) : mostL xs ys ≠ [] := by
  obtain ⟨x, hx, h0⟩ := hp
  obtain ⟨i, hi, rfl⟩ := List.mem_iff_getElem.mp hx
  have e : xs[i] = xs.getD i 0 := by rw [List.getD_eq_getElem?_getD, List.getElem?_eq_getElem hi]; rfl
  rw [e] at h0
  intro z
  have := List.filterMap_eq_nil_iff.mp z _ (zip_mem hi (show i < ys.length by omega))
  simp only [decide_eq_true h0, if_true] at this
  cases this
/-- the least of them is the greatest count whose times fit -/
theorem most_fits {xs ys : List Int} {z : Int} (he : xs.length = ys.length) (hx : geZ xs) (hy : geZ ys) (h1 : z ∈ mostL xs ys) (h2 : ∀ y ∈ mostL xs ys, z ≤ y) :
    0 ≤ z ∧ z ≤ 10 ^ 12 ∧ fitB (xs.map (· * z)) ys = true ∧ fitB (xs.map (· * (z + 1))) ys = false := by
  obtain ⟨p, hp, e⟩ := List.mem_filterMap.mp h1
  obtain ⟨i, hi, hi', rfl⟩ := zip_get hp
  have gy := hy _ (getD_mem' hi')
  have gx := hx _ (getD_mem' hi)
  simp only at e
  split at e
  · next hpos =>
    have hpos := of_decide_eq_true hpos
    have ez := Option.some.inj e
    have hz0 : 0 ≤ z := by rw [← ez]; exact Int.ediv_nonneg gy.1 gx.1
    have hz1 : z ≤ 10 ^ 12 := by
      have := Int.ediv_le_self (xs.getD i 0) gy.1
      omega
    refine ⟨hz0, hz1, ?_, ?_⟩
    · refine (fitB_iff (by rw [List.length_map]; exact he)).mpr fun j hj => ?_
      rw [List.length_map] at hj
      rw [getD_map_mul]
      have gxj := hx _ (getD_mem' hj)
      have gyj := hy _ (getD_mem' (show j < ys.length by omega))
      by_cases h0 : 0 < xs.getD j 0
      · have hm : ys.getD j 0 / xs.getD j 0 ∈ mostL xs ys := List.mem_filterMap.mpr ⟨_, zip_mem hj (show j < ys.length by omega), by simp only [decide_eq_true h0, if_true]⟩
        have hle := h2 _ hm
        have := Int.mul_ediv_self_le (x := ys.getD j 0) (k := xs.getD j 0) (by omega)
        have := Int.mul_le_mul_of_nonneg_left hle gxj.1
        omega
      · have : xs.getD j 0 = 0 := by omega
        rw [this, Int.zero_mul]; exact gyj.1
    · cases hf : fitB (xs.map (· * (z + 1))) ys with
      | false => rfl
      | true =>
        have := (fitB_iff (by rw [List.length_map]; exact he)).mp hf i (by rw [List.length_map]; exact hi)
        rw [getD_map_mul] at this
        have h3 := Int.lt_mul_ediv_self_add (x := ys.getD i 0) (k := xs.getD i 0) hpos
        rw [ez] at h3
        have : xs.getD i 0 * (z + 1) = xs.getD i 0 * z + xs.getD i 0 := by rw [Int.mul_add, Int.mul_one]
        omega
  · cases e
theorem log2_12 {x : Int} (h0 : 0 ≤ x) (h1 : x ≤ 10 ^ 12) : x.natAbs.log2 < 9000 := by
  have : x.natAbs < 2 ^ 9000 := by
    have h : x.natAbs ≤ 10 ^ 12 := by omega
    exact Nat.lt_of_le_of_lt h (by decide +kernel)
  by_cases h : x.natAbs = 0
  · rw [h]; decide
  · exact (Nat.log2_lt h).mpr this
theorem greatest_of : ∀ (l : List Int), l ≠ [] → ∃ z, z ∈ l ∧ ∀ y ∈ l, y ≤ z
  | [], h => absurd rfl h
  | [a], _ => ⟨a, by simp, by simp⟩
  | a :: b :: l, _ => by
    obtain ⟨z, h1, h2⟩ := greatest_of (b :: l) (by simp)
    by_cases h : z ≤ a
    · refine ⟨a, by simp, fun y hy => ?_⟩
      rcases List.mem_cons.mp hy with rfl | hy
      · omega
      · have := h2 y hy; omega
    · refine ⟨z, by simp [h1], fun y hy => ?_⟩
      rcases List.mem_cons.mp hy with rfl | hy
      · omega
      · exact h2 y hy
theorem cutA_but (xs : List Int) : cutA xs none (some (-1)) = xs.take (xs.length - 1) := by
  unfold cutA
  rw [HT.sIx_none, List.drop_zero, Nat.sub_zero]
  show xs.take (if (-1 : Int) < 0 then ((-1 : Int) + (xs.length : Int)).toNat else min (-1 : Int).toNat xs.length) = _
  rw [if_pos (by decide)]
  congr 1
  omega

/-! ### gng -/
/-- a gang as data -/
structure Gng where
  name : Str
  guild : Str
  rank : Int
  many : Int
  want : List Int
  how : Str
  long : Int
def Gng.d (g : Gng) : D := .tup [.str g.name, .str g.guild, .int g.rank, .int g.many, tupI g.want, .str g.how, .int g.long]
structure Gng.ok (g : Gng) : Prop where
  n1 : 1 ≤ g.name.length
  n2 : g.name.length ≤ 8
  gl : g.guild.length ≤ 8
  rank1 : 0 ≤ g.rank
  rank2 : g.rank < 10
  many1 : 1 ≤ g.many
  many2 : g.many ≤ 60
  w1 : 1 ≤ g.want.length
  wl : g.want.length ≤ 8
  wz : geZ g.want
  wp : ∃ x ∈ g.want, 0 < x
  how : g.how = "any" ∨ g.how = "apart" ∨ g.how = "near" ∨ g.how = "wide"
  l1 : 1 ≤ g.long
  l2 : g.long ≤ 10 ^ 6

/-! ### over69 -/
def optD : Option Int → D
  | none => .non
  | some t => .int t
/-- the first of the times S at which there is more than the room -/
def FirstB (xs : List Int) (rs : List Rw) (S : List Int) : Option Int → Prop
  | none => ∀ t ∈ S, fitB (loadI xs.length rs t) xs = true
  | some t => t ∈ S ∧ fitB (loadI xs.length rs t) xs = false ∧ ∀ t' ∈ S, t' < t → fitB (loadI xs.length rs t') xs = true
theorem first_at {xs : List Int} {rs : List Rw} {S ks : List Int} (hm : ∀ k, k ∈ ks ↔ k ∈ S) (hs : ks.Pairwise (· ≤ ·)) {i : Nat} {t : Int} (hi : ks[i]? = some t) (hb : ∀ j u, j < i → ks[j]? = some u → fitB (loadI xs.length rs u) xs = true) (hf : fitB (loadI xs.length rs t) xs = false) : FirstB xs rs S (some t) := by
  refine ⟨(hm t).mp (List.mem_of_getElem? hi), hf, fun t' ht' hlt => ?_⟩
  obtain ⟨j, hj, e⟩ := List.mem_iff_getElem.mp ((hm t').mpr ht')
  by_cases hji : j < i
  · exact hb j t' hji (by rw [List.getElem?_eq_getElem hj, e])
  · exfalso
    obtain ⟨hil, ei⟩ := List.getElem?_eq_some_iff.mp hi
    by_cases hij : i = j
    · subst hij
      rw [e] at ei
      omega
    · have := List.pairwise_iff_getElem.mp hs i j hil hj (by omega)
      rw [e, ei] at this
      omega
theorem first_none {xs : List Int} {rs : List Rw} {S ks : List Int} (hm : ∀ k, k ∈ ks ↔ k ∈ S) (hb : ∀ j u, j < ks.length → ks[j]? = some u → fitB (loadI xs.length rs u) xs = true) : FirstB xs rs S none := fun t ht => by
  obtain ⟨j, hj, e⟩ := List.mem_iff_getElem.mp ((hm t).mpr ht)
  exact hb j t hj (by rw [List.getElem?_eq_getElem hj, e])
theorem sum_le_sub {rs : List Rw} {f g : Rw → Bool} {h : Rw → Int} (hn : ∀ r ∈ rs, 0 ≤ h r) (hfg : ∀ r ∈ rs, f r = true → g r = true) : ((rs.filter f).map h).sum ≤ ((rs.filter g).map h).sum := by
  induction rs with
  | nil => simp
  | cons r rs ih =>
    have ih := ih (fun r hr => hn r (by simp [hr])) (fun r hr => hfg r (by simp [hr]))
    have h0 := hn r (by simp)
    have h1 := hfg r (by simp)
    rw [List.filter_cons, List.filter_cons]
    cases hf : f r with
    | true => rw [h1 hf]; simp only [if_true, List.map_cons, List.sum_cons]; omega
    | false =>
      cases hg : g r with
      | true => simp only [if_true, List.map_cons, List.sum_cons]; simp; omega
      | false => simpa using ih
theorem max_begin : ∀ (l : List Rw), l ≠ [] → ∃ r ∈ l, ∀ q ∈ l, q.b ≤ r.b
  | [], h => absurd rfl h
  | [a], _ => ⟨a, by simp, by simp⟩
  | a :: c :: l, _ => by
    obtain ⟨r, h1, h2⟩ := max_begin (c :: l) (by simp)
    by_cases h : r.b ≤ a.b
    · refine ⟨a, by simp, fun q hq => ?_⟩
      rcases List.mem_cons.mp hq with rfl | hq
      · omega
      · have := h2 q hq; omega
    · refine ⟨r, by simp [h1], fun q hq => ?_⟩
      rcases List.mem_cons.mp hq with rfl | hq
      · omega
      · exact h2 q hq
theorem loadI_get {w : Nat} {rs : List Rw} {t : Int} {j : Nat} (h : j < w) : (loadI w rs t).getD j 0 = ((rs.filter (actB t)).map fun r => r.am.getD j 0).sum := by
  unfold loadI
  rw [List.getD_eq_getElem?_getD, List.getElem?_map, List.getElem?_range h]; rfl
/-- where there is more than the room, there is a begin by then at which there is, too -/
theorem over_begin {xs : List Int} {rs : List Rw} {t : Int} (hx : ∀ x ∈ xs, 0 ≤ x) (hok : ∀ r ∈ rs, r.ok xs.length) (h : fitB (loadI xs.length rs t) xs = false) : ∃ r ∈ rs, r.b ≤ t ∧ fitB (loadI xs.length rs r.b) xs = false := by
  have hlen := loadI_len xs.length rs t
  have hn : ¬ ∀ i, i < (loadI xs.length rs t).length → (loadI xs.length rs t).getD i 0 ≤ xs.getD i 0 := fun hc => by
    rw [(fitB_iff hlen).mpr hc] at h; cases h
  obtain ⟨j, hj⟩ := Classical.not_forall.mp hn
  have hj1 : j < (loadI xs.length rs t).length := Classical.byContradiction fun hc => hj fun h => absurd h hc
  have hj2 : ¬ (loadI xs.length rs t).getD j 0 ≤ xs.getD j 0 := fun hc => hj fun _ => hc
  rw [hlen] at hj1
  rw [loadI_get hj1] at hj2
  have hxj : 0 ≤ xs.getD j 0 := hx _ (by rw [List.getD_eq_getElem?_getD, List.getElem?_eq_getElem hj1]; exact List.getElem_mem hj1)
  have hne : rs.filter (actB t) ≠ [] := fun e => by rw [e] at hj2; exact hj2 hxj
  obtain ⟨r, hr, hmax⟩ := max_begin _ hne
  obtain ⟨hrs, hra⟩ := List.mem_filter.mp hr
  have ha : ∀ q : Rw, actB t q = true ↔ q.b ≤ t ∧ t < q.e := fun q => by
    unfold actB; rw [Bool.and_eq_true_iff, decide_eq_true_iff, decide_eq_true_iff]
  refine ⟨r, hrs, ((ha r).mp hra).1, ?_⟩
  cases hf : fitB (loadI xs.length rs r.b) xs with
  | false => rfl
  | true =>
    exfalso
    have := (fitB_iff (loadI_len xs.length rs r.b)).mp hf j (by rw [loadI_len]; exact hj1)
    rw [loadI_get hj1] at this
    have hle := sum_le_sub (rs := rs) (f := actB t) (g := actB r.b) (h := fun r => r.am.getD j 0) (fun q hq => (hok q hq).nn _ (by
      have hw := (hok q hq).wl
      rw [List.getD_eq_getElem?_getD, List.getElem?_eq_getElem (show j < q.am.length by omega)]; exact List.getElem_mem _)) (fun q hq hqa => by
      have h1 := (ha q).mp hqa
      have h2 := hmax q (List.mem_filter.mpr ⟨hq, hqa⟩)
      have h3 := ((ha r).mp hra).1
      unfold actB
      rw [decide_eq_true h2, decide_eq_true (show r.b < q.e by omega)]; rfl)
    omega
theorem first_same {xs : List Int} {rs : List Rw} {o1 o2 : Option Int} (hx : ∀ x ∈ xs, 0 ≤ x) (hok : ∀ r ∈ rs, r.ok xs.length) (h1 : FirstB xs rs (rs.map (·.b)) o1) (h2 : FirstB xs rs (rs.map (·.b) ++ rs.map (·.e)) o2) : o1 = o2 := by
  have hb : ∀ r ∈ rs, r.b ∈ rs.map (·.b) := fun r hr => List.mem_map.mpr ⟨r, hr, rfl⟩
  cases o1 with
  | none =>
    cases o2 with
    | none => rfl
    | some t =>
      obtain ⟨_, hf, _⟩ := h2
      obtain ⟨r, hr, _, hf2⟩ := over_begin hx hok hf
      rw [h1 r.b (hb r hr)] at hf2; cases hf2
  | some t1 =>
    obtain ⟨m1, f1, l1⟩ := h1
    cases o2 with
    | none => rw [h2 t1 (List.mem_append.mpr (.inl m1))] at f1; cases f1
    | some t2 =>
      obtain ⟨m2, f2, l2⟩ := h2
      obtain ⟨r, hr, hle, hf⟩ := over_begin hx hok f2
      by_cases e1 : t1 < t2
      · rw [l2 t1 (List.mem_append.mpr (.inl m1)) e1] at f1; cases f1
      · by_cases e2 : r.b < t1
        · rw [l1 r.b (hb r hr) e2] at hf; cases hf
        · rw [show t1 = t2 by omega]
/-- the wares in which there is more, as the law lists them -/
def moreL (ls xs : List Int) : List D := (List.range xs.length).filterMap fun i => if decide (xs.getD i 0 < ls.getD i 0) = true then some (D.int ((0 : Int) + (i : Nat))) else none
theorem moreL_ints (ls xs : List Int) : ∀ d ∈ moreL ls xs, ∃ i, d = D.int i := fun d hd => by
  obtain ⟨i, _, e⟩ := List.mem_filterMap.mp hd
  split at e
  · exact ⟨_, (Option.some.inj e).symm⟩
  · cases e
theorem moreL_fit {ls xs : List Int} (he : ls.length = xs.length) : eqD (.lst (moreL ls xs)) (.lst []) = fitB ls xs := by
  rw [eqD_nil (moreL_ints ls xs)]
  have e := fitB_iff he
  cases hf : fitB ls xs with
  | true =>
    refine decide_eq_true ?_
    rw [hf] at e
    refine List.filterMap_eq_nil_iff.mpr fun i hi => ?_
    have := e.mp rfl i (by rw [he]; exact List.mem_range.mp hi)
    rw [decide_eq_false (by omega)]; rfl
  | false =>
    refine decide_eq_false fun z => ?_
    rw [hf] at e
    refine absurd (e.mpr fun i hi => ?_) (by decide)
    have := List.filterMap_eq_nil_iff.mp z i (List.mem_range.mpr (by omega))
    by_cases hlt : xs.getD i 0 < ls.getD i 0
    · rw [decide_eq_true hlt] at this; cases this
    · omega

def topS (i : Nat) : Stmt := PySem.Challenge.pw_clusterhall_k69_overborne.main.body.getD i (.Pass ⟨0, 0, 0, 0⟩)
abbrev s__law_box : Stmt := topS 8
abbrev n__law_box : List Str := ["_law_script", "_law_k", "_law_cell", "_law_digits"]
theorem sc__law_box : FnScope n__law_box ["_law_script", "_law_k"] (defScope s__law_box) := ⟨rfl, rfl, rfl, by decide +kernel, rfl, by decide +kernel, by decide +kernel⟩
abbrev s__law_take : Stmt := topS 9
abbrev n__law_take : List Str := ["_law_box_here", "_law_many", "_law_found", "_law_once"]
theorem sc__law_take : FnScope n__law_take ["_law_box_here", "_law_many"] (defScope s__law_take) := ⟨rfl, rfl, rfl, by decide +kernel, rfl, by decide +kernel, by decide +kernel⟩
abbrev s__law_rows : Stmt := topS 11
abbrev n__law_rows : List Str := ["_law_box_here", "_law_wares", "_law_rows_here", "_law_far", "_law_many", "_law_k", "_law_begin", "_law_amount", "_law_ware"]
theorem sc__law_rows : FnScope n__law_rows ["_law_box_here", "_law_wares"] (defScope s__law_rows) := ⟨rfl, rfl, rfl, by decide +kernel, rfl, by decide +kernel, by decide +kernel⟩
abbrev s__law_load : Stmt := topS 12
abbrev n__law_load : List Str := ["_law_rows_here", "_law_wares", "_law_time", "_law_some", "_law_row", "_law_amount", "_law_ware"]
theorem sc__law_load : FnScope n__law_load ["_law_rows_here", "_law_wares", "_law_time"] (defScope s__law_load) := ⟨rfl, rfl, rfl, by decide +kernel, rfl, by decide +kernel, by decide +kernel⟩
abbrev s__law_room : Stmt := topS 13
abbrev n__law_room : List Str := ["_law_box_here", "_law_rows_here", "_law_wares", "_law_room_here", "_law_at", "_law_ware", "_law_row"]
theorem sc__law_room : FnScope n__law_room ["_law_box_here", "_law_rows_here", "_law_wares"] (defScope s__law_room) := ⟨rfl, rfl, rfl, by decide +kernel, rfl, by decide +kernel, by decide +kernel⟩
abbrev s_amount_fits : Stmt := topS 3
abbrev n_amount_fits : List Str := ["one", "other", "a", "b"]
theorem sc_amount_fits : FnScope n_amount_fits ["one", "other"] (defScope s_amount_fits) := ⟨rfl, rfl, rfl, by decide +kernel, rfl, by decide +kernel, by decide +kernel⟩
abbrev s_nothing_of : Stmt := topS 1
abbrev n_nothing_of : List Str := ["wares"]
theorem sc_nothing_of : FnScope n_nothing_of ["wares"] (defScope s_nothing_of) := ⟨rfl, rfl, rfl, by decide +kernel, rfl, by decide +kernel, by decide +kernel⟩
abbrev s_amount_sum : Stmt := topS 2
abbrev n_amount_sum : List Str := ["one", "other", "a", "b"]
theorem sc_amount_sum : FnScope n_amount_sum ["one", "other"] (defScope s_amount_sum) := ⟨rfl, rfl, rfl, by decide +kernel, rfl, by decide +kernel, by decide +kernel⟩
abbrev s_load_then : Stmt := topS 5
abbrev n_load_then : List Str := ["wares", "rows", "time", "load", "key", "begin", "end", "amount"]
theorem sc_load_then : FnScope n_load_then ["wares", "rows", "time"] (defScope s_load_then) := ⟨rfl, rfl, rfl, by decide +kernel, rfl, by decide +kernel, by decide +kernel⟩
abbrev s_overborne : Stmt := topS 6
abbrev n_overborne : List Str := ["room", "rows", "time", "row"]
theorem sc_overborne : FnScope n_overborne ["room", "rows"] (defScope s_overborne) := ⟨rfl, rfl, rfl, by decide +kernel, rfl, by decide +kernel, by decide +kernel⟩
abbrev s__law_alike : Stmt := topS 10
abbrev n__law_alike : List Str := ["_law_found", "_law_due_here", "_law_one", "_law_other"]
theorem sc__law_alike : FnScope n__law_alike ["_law_found", "_law_due_here"] (defScope s__law_alike) := ⟨rfl, rfl, rfl, by decide +kernel, rfl, by decide +kernel, by decide +kernel⟩
abbrev s__law_due : Stmt := topS 14
abbrev n__law_due : List Str := ["_law_room_here", "_law_rows_here", "_law_time", "_law_load_here", "_law_row", "_law_ware"]
theorem sc__law_due : FnScope n__law_due ["_law_room_here", "_law_rows_here"] (defScope s__law_due) := ⟨rfl, rfl, rfl, by decide +kernel, rfl, by decide +kernel, by decide +kernel⟩
abbrev s_law : Stmt := topS 15
abbrev n_law : List Str := ["_law_script", "_law_k", "_law_box_here", "_law_wares", "_law_rows_here", "_law_room_here", "_law_handed"]
theorem sc_law : FnScope n_law ["_law_script"] (defScope s_law) := ⟨rfl, rfl, rfl, by decide +kernel, rfl, by decide +kernel, by decide +kernel⟩
structure Tx (K : PySem.W.Frag) (mg : Str → Option Value) : Prop where
  b_abs : mg "abs" = none
  b_all : mg "all" = none
  b_bool : mg "bool" = none
  b_int : mg "int" = none
  b_isinstance : mg "isinstance" = none
  b_len : mg "len" = none
  b_list : mg "list" = none
  b_max : mg "max" = none
  b_min : mg "min" = none
  b_range : mg "range" = none
  b_set : mg "set" = none
  b_sorted : mg "sorted" = none
  b_str : mg "str" = none
  b_sum : mg "sum" = none
  b_tuple : mg "tuple" = none
  b_zip : mg "zip" = none
section
variable {P : Program} {w : World} {K : PySem.W.Frag} {mg : Str → Option Value} {base : Heap}
/-! ### _law_box -/
def cellAt (ns : List Int) (k : Int) : Int := ns.getD k.toNat 0
def a__law_box : ASp := fun ss m Q => ∃ (ns : List Int) (k : Int), ss = [.fls (ns.map D.int), .int k] ∧ 0 ≤ k ∧ k < 1000 ∧ ∀ p, m p = none → ∀ c, BxC 0 c → Q (.raw (.ref p)) (mset m p c)
theorem ok__law_box {f : Addr} {fd : FuncData} (F : Fun K "_law_box" "_law_box" s__law_box f fd) (T : Tx K mg) : FnOk P w K mg base CX0 1 f fd ["_law_script", "_law_k"] (spA K a__law_box) := by
  refine fn_ok F sc__law_box (by intro ss m Q h; unfold a__law_box at h; (repeat (obtain ⟨_, h⟩ := h)); subst_vars; rfl) fun cdv A outer s H E hr F0 ss m Q h => ?_
  obtain ⟨ns, k, rfl, h0, h1, q⟩ := h
  refine xs_cons (x1_setD (i := 2) (d := .int (cellAt ns k)) (xd_if (xt_lt (xd_var 1 rfl) (xd_len T.b_len (xd_var 0 rfl) (.fls _))) (fun h => xd_ix (xd_var 0 rfl) (xd_var 1 rfl) (.fls ?_)) (fun h => xd_int.to ?_)) ?_ sc__law_box.nd)
  · have hk : k < (ns.map D.int).length := of_decide_eq_true h
    rw [List.length_map] at hk
    have e : k = ((k.toNat : Nat) : Int) := by omega
    unfold cellAt
    rw [e]
    refine atI_nat ?_
    rw [List.getElem?_map, List.getElem?_eq_getElem (show k.toNat < ns.length by omega)]
    simp only [Int.toNat_natCast, List.getD_eq_getElem?_getD, List.getElem?_eq_getElem (show k.toNat < ns.length by omega)]
    rfl
  · have hk : ¬ k < (ns.map D.int).length := of_decide_eq_false h
    rw [List.length_map] at hk
    unfold cellAt
    rw [List.getD_eq_getElem?_getD, List.getElem?_eq_none (by omega)]
    rfl
  generalize hv : (if cellAt ns k < 0 then -cellAt ns k else cellAt ns k) = v
  have hv0 : 0 ≤ v := by rw [← hv]; split <;> omega
  refine xs_cons (x1_setD (i := 3) (d := .int (if (10 : Int) ^ (18 : Int).toNat ≤ v then v else 0)) (xd_if (xt_ge ((xd_abs T.b_abs (xd_var 2 rfl)).to (congrArg D.int hv)) (xd_pow xd_int xd_int ⟨by decide, by decide, by decide⟩)) (fun h => ((xd_abs T.b_abs (xd_var 2 rfl)).to (congrArg D.int hv)).to ?_) (fun h => xd_int.to ?_)) ?_ sc__law_box.nd)
  · rw [if_pos (of_decide_eq_true h)]
  · rw [if_neg (of_decide_eq_false h)]
  refine xs_cons (x1_ret (xe_lstC (xae_cons (XD.xe (xd_var 3 rfl) (xae_cons (XD.xe (xd_mod (xd_mul (xd_add (xd_add (xd_mod (xd_var 2 rfl) xd_int (by decide)) (xd_mul xd_int (xd_var 1 rfl) (.inl (by decide)))) xd_int) xd_int (.inr (by decide))) xd_int (by decide)) (xae_cons (XD.xe xd_int (xae_nil ⟨Nat.le_of_ble_eq_true rfl, fun p hp => ?_⟩)))))))))
  refine q p hp _ ⟨_, _, _, rfl, ?_, ?_, ?_, by decide, by decide⟩
  · split
    · exact hv0
    · decide
  · exact Int.emod_nonneg _ (by decide)
  · exact Int.lt_trans (Int.emod_lt_of_pos _ (by decide)) (by decide)

/-! ### _law_take -/
def a__law_take : ASp := fun ss m Q => ∃ (b : Addr) (k n : Int) (c : Cell), ss = [.raw (.ref b), .int k] ∧ m b = some c ∧ BxC n c ∧ n ≤ 10 ^ 18 ∧ 0 < k ∧ k < 1152921504606846976 ∧ ∀ r c', 0 ≤ r → r < k → BxC (n + 1) c' → Q (.int r) (mset m b c')
theorem emod_bd (a : Int) {b : Int} (h : 0 < b) : 0 ≤ a % b ∧ a % b < b := ⟨Int.emod_nonneg _ (by omega), Int.emod_lt_of_pos _ h⟩
theorem log2_60 {x : Int} (h0 : 0 < x) (h1 : x < 1152921504606846976) : x.natAbs.log2 < 9000 := by
  have h : x.natAbs < 1152921504606846976 := by omega
  exact (Nat.log2_lt (by omega)).mpr (Nat.lt_of_lt_of_le h (by decide +kernel))
theorem ix3_0 {a b c : D} : atI [a, b, c] 0 = some a := rfl
theorem ix3_1 {a b c : D} : atI [a, b, c] 1 = some b := rfl
theorem ix3_2 {a b c : D} : atI [a, b, c] 2 = some c := rfl
theorem ok__law_take {f : Addr} {fd : FuncData} (F : Fun K "_law_take" "_law_take" s__law_take f fd) (T : Tx K mg) : FnOk P w K mg base CX0 1 f fd ["_law_box_here", "_law_many"] (spA K a__law_take) := by
  refine fn_ok F sc__law_take (by intro ss m Q h; unfold a__law_take at h; (repeat (obtain ⟨_, h⟩ := h)); subst_vars; rfl) fun cdv A outer s H E hr F0 ss m Q h => ?_
  obtain ⟨b, k, n, c, rfl, hb, ⟨x, y, z, rfl, hx, hy, hy2, hz, hz2⟩, hn, hk0, hk, q⟩ := h
  refine xs_cons (x1_if (xt_gt (xd_ixM (xd_var 0 rfl) xd_int hb ix3_0) xd_int) (fun h => ?_) (fun h => ?_))
  · refine xs_cons (x1_setD (i := 2) (xd_mod (xd_ixM (xd_var 0 rfl) xd_int hb ix3_0) (xd_var 1 rfl) hk0) ?_ sc__law_take.nd)
    refine xs_cons (x1_setIxM (n := 0) (xd_fdivW (xd_ixM (xd_var 0 rfl) xd_int hb ix3_0) (xd_var 1 rfl) ⟨hk0, log2_60 hk0 hk⟩) (xd_var 0 rfl) xd_int hb rfl ?_)
    refine xs_cons (x1_retD (xd_var 2 rfl) ?_)
    exact q _ _ (emod_bd _ hk0).1 (emod_bd _ hk0).2 ⟨_, _, _, rfl, Int.ediv_nonneg hx (by omega), hy, hy2, hz, by omega⟩
  · refine xs_nil ?_
    have h0 : ¬ 0 < x := of_decide_eq_false h
    refine xs_cons (x1_setIxM (n := 2) (xd_add (xd_ixM (xd_var 0 rfl) xd_int hb ix3_2) xd_int) (xd_var 0 rfl) xd_int hb rfl ?_)
    have hb1 : ∀ (a b1 c1 : D), (mset m b (.lst [a, b1, c1])) b = some (.lst [a, b1, c1]) := fun _ _ _ => mset_same
    show XS _ _ _ _ (mset m b (.lst [.int x, .int y, .int (z + 1)])) _
    refine xs_cons (x1_setD (i := 3) (xd_mod (xd_mul (xd_add (xd_ixM (xd_var 0 rfl) xd_int (hb1 _ _ _) ix3_1) (xd_mul xd_int (xd_ixM (xd_var 0 rfl) xd_int (hb1 _ _ _) ix3_2) (.inl (by decide)))) (xd_add xd_int (xd_ixM (xd_var 0 rfl) xd_int (hb1 _ _ _) ix3_2)) (.inr (by omega))) xd_int (by decide)) ?_ sc__law_take.nd)
    generalize ho : (y + 39373 * (z + 1)) * (48271 + (z + 1)) % 2147483647 = o
    have ho1 : 0 ≤ o ∧ o < 2147483647 := by rw [← ho]; exact emod_bd _ (by decide)
    refine xs_cons (x1_setIxM (n := 1) (xd_mod (xd_add (xd_mul (xd_var 3 rfl) (xd_add (xd_mod (xd_var 3 rfl) xd_int (by decide)) xd_int) (.inl (by omega))) (xd_ixM (xd_var 0 rfl) xd_int (hb1 _ _ _) ix3_2)) xd_int (by decide)) (xd_var 0 rfl) xd_int (hb1 _ _ _) rfl ?_)
    rw [mset_mset]
    show XS _ _ _ _ (mset m b (.lst [.int x, .int _, .int (z + 1)])) _
    generalize hy' : (o * (o % 40009 + 7) + (z + 1)) % 2147483629 = y'
    have hy1 : 0 ≤ y' ∧ y' < 2147483629 := by rw [← hy']; exact emod_bd _ (by decide)
    refine xs_cons (x1_retD (xd_mod (xd_fdiv (xd_mod (xd_mul (xd_ixM (xd_var 0 rfl) xd_int (hb1 _ _ _) ix3_1) (xd_add (xd_mod (xd_ixM (xd_var 0 rfl) xd_int (hb1 _ _ _) ix3_1) xd_int (by decide)) xd_int) (.inl (by omega))) xd_int (by decide)) xd_int ⟨by decide, by decide⟩) (xd_var 1 rfl) hk0) ?_)
    exact q _ _ (emod_bd _ hk0).1 (emod_bd _ hk0).2 ⟨_, _, _, rfl, hx, hy1.1, by omega, by omega, by omega⟩

/-! ### _law_rows -/
def a__law_rows : ASp := fun ss m Q => ∃ (b : Addr) (w : Nat) (n : Int) (c : Cell), ss = [.raw (.ref b), .int w] ∧ m b = some c ∧ BxC n c ∧ n ≤ 10 ^ 16 ∧ 1 ≤ w ∧ w ≤ 10 ∧ ∀ (rs : List Rw) c', rs.length ≤ 13 → (∀ r ∈ rs, r.ok w) → BxC (n + 1000) c' → Q (.lst (rs.map Rw.d)) (mset m b c')
theorem at_strs' (l : List Str) {i : Int} (h0 : 0 ≤ i) (h1 : i < l.length) : ∃ s ∈ l, atI (l.map D.str) i = some (.str s) := by
  obtain ⟨k, rfl⟩ := Int.eq_ofNat_of_zero_le h0
  have hk : k < l.length := by omega
  refine ⟨l[k], List.getElem_mem hk, atI_nat ?_⟩
  rw [List.getElem?_map, List.getElem?_eq_getElem hk]; rfl
theorem mem_getDi {xs : List Int} {i : Nat} {d : Int} (h : i < xs.length) : xs.getD i d ∈ xs := by
  rw [List.getD_eq_getElem?_getD, List.getElem?_eq_getElem h]
  exact List.getElem_mem h
theorem ok__law_rows {f : Addr} {fd : FuncData} (F : Fun K "_law_rows" "_law_rows" s__law_rows f fd) (T : Tx K mg) (c__law_take : Cal P w K mg base 1 "_law_take" (spA K a__law_take)) : FnOk P w K mg base CX0 2 f fd ["_law_box_here", "_law_wares"] (spA K a__law_rows) := by
  refine fn_ok F sc__law_rows (by intro ss m Q h; unfold a__law_rows at h; (repeat (obtain ⟨_, h⟩ := h)); subst_vars; rfl) fun cdv A outer s H E hr F0 ss m Q h => ?_
  obtain ⟨b, w, n, c, rfl, hb, hc, hn, hw1, hw2, q⟩ := h
  refine xs_cons (x1_set (i := 2) (xe_lstC (xae_nil ⟨Nat.zero_le _, fun rp hrp => ?_⟩)) sc__law_rows.nd)
  have hrb : rp ≠ b := ne_fresh hb hrp
  have hB : ∀ (c1 c2 : Cell), (mset (mset m b c1) rp c2) b = some c1 := fun c1 c2 => mset_at2 mset_same hrb.symm
  refine xs_mem (m1 := mset (mset m b c) rp (.lst [])) (by rw [mset_self hb]) ?_
  -- far
  refine xs_cons (x1_set (i := 3) (xe_ix (xe_lst ?_)) sc__law_rows.nd)
  walk_at "s*"; walk_at "t"
  refine ⟨b, _, _, c, rfl, hB _ _, hc, by omega, by omega, by omega, fun r1 c1 h1 h1' hc1 => ?_⟩
  rw [mset_upd2 hrb.symm]
  refine ⟨_, _, rfl, .lst (at_ints [12, 60, (10 : Int) ^ (9 : Int).toNat] h1 h1'), ?_⟩
  have hm := mem_getDi (xs := [12, 60, (10 : Int) ^ 9]) (i := r1.toNat) (d := 0) (by simp only [List.length_cons, List.length_nil]; omega)
  have hfar : 1 ≤ [12, 60, (10 : Int) ^ (9 : Int).toNat].getD r1.toNat 0 ∧ [12, 60, (10 : Int) ^ (9 : Int).toNat].getD r1.toNat 0 ≤ 10 ^ 9 := by
    show 1 ≤ [12, 60, (10 : Int) ^ 9].getD r1.toNat 0 ∧ [12, 60, (10 : Int) ^ 9].getD r1.toNat 0 ≤ 10 ^ 9
    simp only [List.mem_cons, List.not_mem_nil, or_false] at hm
    omega
  revert hfar
  generalize [12, 60, (10 : Int) ^ (9 : Int).toNat].getD r1.toNat 0 = far
  intro hfar
  clear hm
  -- many
  refine xs_cons (x1_set (i := 4) ?_ sc__law_rows.nd)
  walk_at "t"
  refine ⟨b, _, _, c1, rfl, hB _ _, hc1, by omega, by omega, by omega, fun r2 c2 h2 h2' hc2 => ?_⟩
  rw [mset_upd2 hrb.symm]
  refine xs_cut (fun ρ m1 => ∃ (k : Int) (c3 : Cell), 0 ≤ k ∧ k ≤ 13 ∧ BxC (n + 10) c3 ∧ ρ = [some (.raw (.ref b)), some (.int w), some (.raw (.ref rp)), some (.int far), some (.int k), none, none, none, none] ∧ m1 = mset (mset m b c3) rp (.lst [])) (x1_ifE (PT := fun k m1 => ∃ c4, m1 = mset (mset m b c4) rp (.lst []) ∧ BxC (n + 5) c4) (xte_eq ?_) ?_ ?_) ?_
  · walk_at "t"
    refine ⟨b, _, _, c2, rfl, hB _ _, hc2, by omega, by omega, by omega, fun r3 c3 h3 h3' hc3 => ?_⟩
    rw [mset_upd2 hrb.symm]
    walk_at "s*"
    exact ⟨rfl, c3, rfl, hc3.up (by omega)⟩
  · rintro m1 ⟨c4, rfl, hc4⟩
    refine xs_cons (x1_set (i := 4) (xe_add (XD.xe xd_int ⟨_, rfl, ?_⟩)) sc__law_rows.nd)
    walk_at "t"
    refine ⟨b, _, _, c4, rfl, hB _ _, hc4, by omega, by omega, by omega, fun r3 c3 h3 h3' hc3 => ?_⟩
    rw [mset_upd2 hrb.symm]
    exact ⟨_, rfl, xs_nil ⟨8 + r3, c3, by omega, by omega, hc3.up (by omega), rfl, rfl⟩⟩
  · rintro m1 ⟨c4, rfl, hc4⟩
    exact xs_nil ⟨r2, c4, h2, by omega, hc4.up (by omega), rfl, rfl⟩
  rintro ρ m1 ⟨k, c3, hk0, hk1, hc3, rfl, rfl⟩
  refine xs_cons (x1_for (xi_range1 T.b_range (xd_var 4 rfl) (by omega) (by omega)) (fun i ρ mi => ∃ (rs : List Rw) (c' : Cell) (v5 v6 v7 : Option D), ρ = [some (.raw (.ref b)), some (.int w), some (.raw (.ref rp)), some (.int far), some (.int k), v5, v6, v7, none] ∧ rs.length = i ∧ (∀ r ∈ rs, r.ok w) ∧ mi = mset (mset m b c') rp (.lst (rs.map Rw.d)) ∧ BxC (n + 10 + 50 * i) c') ⟨[], c3, _, _, _, rfl, rfl, by simp, rfl, hc3.up (by omega)⟩ (fun _ _ _ _ => trivial) ?_ ?_)
  · rintro i d ρ mi hd ⟨rs, c', v5, v6, v7, rfl, hrl, hok, rfl, hc'⟩
    obtain ⟨hi, rfl⟩ := rng_get hd
    refine ⟨_, [5], xg_name 5 (by decide) sc__law_rows.nd, ?_⟩
    -- begin
    refine xs_cons (x1_set (i := 6) ?_ sc__law_rows.nd)
    walk_at "t"
    refine ⟨b, _, _, c', rfl, hB _ _, hc', by omega, by omega, by omega, fun r4 c4 h4 h4' hc4 => ?_⟩
    rw [mset_upd2 hrb.symm]
    -- amount
    refine xs_cons (x1_set (i := 7) (xe_callTyE call_tuple_of T.b_tuple (xae_cons (xe_lcB (own := [("_law_ware", 8)]) D.int (fun _ x => 0 ≤ x) 2 _ b (hB _ _) hc4 sc__law_rows.nd (xi_range1 T.b_range (xd_var 1 rfl) (by omega) (by omega)) (blkOk_by (N := n__law_rows) (sc := defScope s__law_rows) (by decide +kernel)) (by rw [rng_len]; omega) ?_ ?_))) sc__law_rows.nd)
    · intro j d c5 hd hc5
      obtain ⟨hj, rfl⟩ := rng_get hd
      refine lce_elt (fun s H C cl fp => xg_name 8 (by decide) sc__law_rows.nd) fun s H C cl fp => ?_
      refine xe_callE c__law_take hr (xae_cons (XD.xe (xd_var 0 rfl) (xae_cons (xe_ix (xe_lst ?_)))))
      walk_at "s*"; walk_at "t"
      refine ⟨b, _, _, c5, rfl, mset_same, hc5, by omega, by omega, by omega, fun r5 c6 h5 h5' hc6 => ?_⟩
      rw [mset_mset]
      refine ⟨_, _, rfl, .lst (at_ints [4, (10 : Int) ^ (6 : Int).toNat] h5 h5'), xae_nil ?_⟩
      have hm := mem_getDi (xs := [4, (10 : Int) ^ 6]) (i := r5.toNat) (d := 0) (by simp only [List.length_cons, List.length_nil]; omega)
      have hfar : 1 ≤ [4, (10 : Int) ^ (6 : Int).toNat].getD r5.toNat 0 ∧ [4, (10 : Int) ^ (6 : Int).toNat].getD r5.toNat 0 ≤ 10 ^ 6 := by
        show 1 ≤ [4, (10 : Int) ^ 6].getD r5.toNat 0 ∧ [4, (10 : Int) ^ 6].getD r5.toNat 0 ≤ 10 ^ 6
        simp only [List.mem_cons, List.not_mem_nil, or_false] at hm
        omega
      refine ⟨b, _, _, c6, rfl, mset_same, hc6, by omega, by omega, by omega, fun r6 c7 h6 h6' hc7 => ?_⟩
      rw [mset_mset]
      exact ⟨r6, c7, rfl, h6, rfl, hc7.up (by omega)⟩
    intro xs c5 hxl hxR hc5
    rw [rng_len] at hxl hc5
    walk_at "s*"
    refine ⟨_, _, rdc_tupleL, ?_⟩
    rw [mset_upd2 hrb.symm]
    have hml : (rs.map Rw.d).length = rs.length := List.length_map ..
    -- append
    refine xs_cons (x1_append (p := rp) (XD.xe (xd_var 2 rfl) ⟨rfl, ⟨_, mset_same⟩, xe_tup (xae_cons (xe_ix (xe_lst ?_)))⟩))
    walk_at "s*"; walk_at "t"
    refine ⟨b, _, _, c5, rfl, hB _ _, hc5, by omega, by omega, by omega, fun r7 c6 h7 h7' hc6 => ?_⟩
    rw [mset_upd2 hrb.symm]
    obtain ⟨key, hkey, hat⟩ := at_strs' ["a", "b", "key", "z"] h7 h7'
    refine ⟨_, _, rfl, .lst hat, ?_⟩
    walk_at "s*"; walk_at "t"
    refine ⟨b, _, _, c6, rfl, hB _ _, hc6, by omega, by omega, by omega, fun r8 c7 h8 h8' hc7 => ?_⟩
    rw [mset_upd2 hrb.symm]
    walk_at "s*"
    refine ⟨_, mset_same, by omega, ?_⟩
    rw [mset_mset]
    have hkl : ∀ s ∈ (["a", "b", "key", "z"] : List Str), s.length ≤ 8 ∧ PyData.strOk s = true := by decide +kernel
    refine xs_nil ⟨rs ++ [⟨key, r4, r4 + 1 + r8, xs⟩], c7, _, _, _, rfl, by simp [hrl], fun r hr => ?_, by rw [List.map_append]; rfl, hc7.up (by omega)⟩
    rcases List.mem_append.mp hr with h | h
    · exact hok r h
    · have e : r = ⟨key, r4, r4 + 1 + r8, xs⟩ := by simpa using h
      rw [e]
      exact ⟨(hkl key hkey).1, (hkl key hkey).2, by show r4 < r4 + 1 + r8; omega, by show xs.length = w; omega, mem_get hxR fun i a h => h⟩
  · rintro ρ mi ⟨rs, c', v5, v6, v7, rfl, hrl, hok, rfl, hc'⟩
    rw [rng_len] at hrl hc'
    refine xs_freeze 2 rfl mset_same ?_
    rw [mdel_mset (by rw [mset_ne hrb]; exact hrp)]
    exact xs_cons (x1_retD (xd_var 2 rfl) (q rs c' (by omega) hok (hc'.up (by omega))))

/-! ### _law_load -/
def a__law_load : ASp := fun ss m Q => ∃ (w : Nat) (rs : List Rw) (t : Int), ss = [.lst (rs.map Rw.d), .int w, .int t] ∧ w ≤ 100 ∧ rs.length ≤ 1000 ∧ (∀ r ∈ rs, r.ok w) ∧ ∀ L, m L = none → Q (.raw (.ref L)) (mset m L (.lst ((loadI w rs t).map D.int)))
theorem fm_act (rs : List Rw) (t : Int) : (rs.filterMap fun r => if actB t r = true then some (tupI r.am) else none) = ((rs.filter (actB t)).map (·.am)).map tupI := by
  induction rs with
  | nil => rfl
  | cons a L ih =>
    rw [List.filterMap_cons, List.filter_cons]
    cases h : actB t a with
    | true => simp only [if_true, List.map_cons, ih]
    | false => simpa using ih
theorem ok__law_load {f : Addr} {fd : FuncData} (F : Fun K "_law_load" "_law_load" s__law_load f fd) (T : Tx K mg) : FnOk P w K mg base CX0 1 f fd ["_law_rows_here", "_law_wares", "_law_time"] (spA K a__law_load) := by
  refine fn_ok F sc__law_load (by intro ss m Q h; unfold a__law_load at h; (repeat (obtain ⟨_, h⟩ := h)); subst_vars; rfl) fun cdv A outer s H E hr F0 ss m Q h => ?_
  obtain ⟨w, rs, t, rfl, hw, hl, hok, q⟩ := h
  have hfl := List.length_filter_le (actB t) rs
  refine xs_cons (x1_setD (i := 3) (d := .lst (((rs.filter (actB t)).map (·.am)).map tupI)) (xdto (congrArg D.lst (fm_act rs t)) (xd_filtA (L := rs) (own := [("_law_row", 4)]) Rw.d (fun r => if actB t r = true then some (tupI r.am) else none) sc__law_load.nd (xi_list (xd_var 0 rfl)) (blkOk_by (N := n__law_load) (sc := defScope s__law_load) (by decide +kernel)) trivial (by omega) fun r hrm => lcs_if (fun s H C cl fp => xg_name 4 (by decide) sc__law_load.nd) (fun s H C cl fp => XW.xt (xw_and (xt_le (xd_ix (xd_var 4 rfl) xd_int (.tup rfl)) (xd_var 2 rfl)) (fun _ => xw_and1 (xt_lt (xd_var 2 rfl) (xd_ix (xd_var 4 rfl) xd_int (.tup rfl)))) (fun _ => rfl))) (fun h s H C cl fp => xd_ix (xd_var 4 rfl) xd_int (.tup rfl)) rfl (fun _ => rfl))) ?_ sc__law_load.nd)
  refine xs_cons (x1_ret (xe_lcC (own := [("_law_ware", 6)]) sc__law_load.nd (blkOk_by (N := n__law_load) (sc := defScope s__law_load) (by decide +kernel)) (XI.xie (xi_range1 T.b_range (xd_var 1 rfl) (by omega) (by omega)) ⟨fun i acc mi => acc = (((List.range w).take i).map fun j => ((rs.filter (actB t)).map fun r => r.am.getD j 0).sum).map D.int ∧ mi = m, ⟨rfl, rfl⟩, fun _ _ _ _ _ => trivial, by rw [rng_len]; omega, ?_, ?_⟩)))
  · rintro i d acc mi hd ⟨rfl, rfl⟩
    obtain ⟨hi, rfl⟩ := rng_get hd
    have hi : i < w := by omega
    refine LcStepE.mono (o := fun o m1 => o = some (.int (((rs.filter (actB t)).map fun r => r.am.getD i 0).sum)) ∧ m1 = mi) (lcs_elt (fun s H C cl fp => xg_name 6 (by decide) sc__law_load.nd) fun s H C cl fp => xd_sum T.b_sum (xdto (by rw [List.map_map, List.map_map]; rfl) (xd_mapA (L := (rs.filter (actB t)).map (·.am)) (own := [("_law_amount", 5)]) tupI (fun xs => .int (xs.getD i 0)) sc__law_load.nd (xi_list (xd_var 3 rfl)) (blkOk_by (by rfl)) trivial (by rw [List.length_map]; omega) fun xs hx => lcs_elt (fun s H C cl fp => xg_name 5 (by decide) sc__law_load.nd) fun s H C cl fp => xd_ix (xd_var 5 rfl) (xd_var 6 rfl) (ixT ?_)))) ?_
    · obtain ⟨r, hr1, rfl⟩ := List.mem_map.mp hx
      have := (hok r (List.mem_filter.mp hr1).1).wl
      omega
    · rintro o m1 ⟨rfl, rfl⟩
      refine ⟨?_, rfl⟩
      rw [List.take_add_one, List.getElem?_range hi, List.map_append, List.map_append]
      rfl
  · rintro acc m1 L ⟨rfl, rfl⟩ hL
    rw [rng_len, show ((w : Nat) : Int).toNat = w by omega, show (List.range w).take w = List.range w by rw [List.take_of_length_le]; rw [List.length_range]; exact Nat.le_refl _]
    exact q L hL

/-! ### _law_room -/
def a__law_room : ASp := fun ss m Q => ∃ (b : Addr) (rs : List Rw) (w : Nat) (n : Int) (c : Cell), ss = [.raw (.ref b), .lst (rs.map Rw.d), .int w] ∧ m b = some c ∧ BxC n c ∧ n ≤ 10 ^ 15 ∧ 1 ≤ w ∧ w ≤ 10 ∧ rs.length ≤ 30 ∧ (∀ r ∈ rs, r.ok w) ∧ ∀ (xs : List Int) c', xs.length = w → (∀ x ∈ xs, 0 ≤ x) → BxC (n + 1000) c' → Q (tupI xs) (mset m b c')
theorem ixN_pos' {n : Nat} {i : Int} (h0 : 0 ≤ i) (h1 : i < n) : ixN n i = some i.toNat := by
  unfold ixN
  rw [if_pos h0, if_pos h1]
theorem sum_nn' : ∀ (l : List Int), (∀ x ∈ l, 0 ≤ x) → 0 ≤ l.sum
  | [], _ => by simp
  | x :: l, h => by
    rw [List.sum_cons]
    have := h x (by simp)
    have := sum_nn' l fun y hy => h y (by simp [hy])
    omega
theorem loadI_nn {w : Nat} {rs : List Rw} (t : Int) (hok : ∀ r ∈ rs, r.ok w) : ∀ x ∈ loadI w rs t, 0 ≤ x := fun x hx => by
  obtain ⟨j, hj, rfl⟩ := List.mem_map.mp hx
  refine sum_nn' _ fun y hy => ?_
  obtain ⟨r, hr, rfl⟩ := List.mem_map.mp hy
  have hk := hok r (List.mem_filter.mp hr).1
  have hj := List.mem_range.mp hj
  have hw := hk.wl
  exact hk.nn _ (by rw [List.getD_eq_getElem?_getD, List.getElem?_eq_getElem (show j < r.am.length by omega)]; exact List.getElem_mem _)
theorem ok__law_room {f : Addr} {fd : FuncData} (F : Fun K "_law_room" "_law_room" s__law_room f fd) (T : Tx K mg) (c__law_take : Cal P w K mg base 1 "_law_take" (spA K a__law_take)) (c__law_load : Cal P w K mg base 1 "_law_load" (spA K a__law_load)) : FnOk P w K mg base CX0 2 f fd ["_law_box_here", "_law_rows_here", "_law_wares"] (spA K a__law_room) := by
  refine fn_ok F sc__law_room (by intro ss m Q h; unfold a__law_room at h; (repeat (obtain ⟨_, h⟩ := h)); subst_vars; rfl) fun cdv A outer s H E hr F0 ss m Q h => ?_
  obtain ⟨b, rs, w, n, c, rfl, hb, hc, hn, hw1, hw2, hl, hok, q⟩ := h
  refine xs_cons (x1_ifE (PT := fun k m1 => ∃ c4, m1 = mset m b c4 ∧ BxC (n + 5) c4 ∧ (k = false → rs ≠ [])) (XWE.xte (xwe_or (XT.xte (xtto (rows_empty rs) (xt_eqD 4 hr (xd_var 1 rfl) (xd_lst xa_nil (Nat.le_of_ble_eq_true rfl)) ?_ rfl)) ⟨fun h => xwe_or1 (xte_eq ?_), fun h => ⟨c, (mset_self hb).symm, hc.up (by omega), fun h => nomatch h⟩⟩))) ?_ ?_)
  · unfold plD; exact (rows_pl rs hok).1
  · walk_at "t"
    refine ⟨b, _, _, c, rfl, hb, hc, by omega, by omega, by omega, fun r3 c3 h3 h3' hc3 => ?_⟩
    walk_at "s*"
    exact ⟨rfl, c3, rfl, hc3.up (by omega), fun _ e => by rw [e] at h; cases h⟩
  · rintro m1 ⟨c4, rfl, hc4, _⟩
    refine xs_cons (x1_ret (xe_callTyE call_tuple_of T.b_tuple (xae_cons (xe_lcB (own := [("_law_ware", 5)]) D.int (fun _ x => 0 ≤ x) 1 _ b mset_same hc4 sc__law_room.nd (xi_range1 T.b_range (xd_var 2 rfl) (by omega) (by omega)) (blkOk_by (N := n__law_room) (sc := defScope s__law_room) (by decide +kernel)) (by rw [rng_len]; omega) ?_ ?_))))
    · intro j d c5 hd hc5
      obtain ⟨hj, rfl⟩ := rng_get hd
      refine lce_elt (fun s H C cl fp => xg_name 5 (by decide) sc__law_room.nd) fun s H C cl fp => ?_
      walk_at "t"
      refine ⟨b, _, _, c5, rfl, mset_same, hc5, by omega, by omega, by omega, fun r6 c7 h6 h6' hc7 => ?_⟩
      rw [mset_mset]
      exact ⟨r6, c7, rfl, h6, by rw [mset_mset], hc7.up (by omega)⟩
    · intro xs c5 hxl hxR hc5
      rw [rng_len] at hxl hc5
      rw [mset_mset]
      walk_at "s*"
      exact ⟨_, _, rdc_tupleL, q xs c5 (by omega) (mem_get hxR fun i a h => h) (hc5.up (by omega))⟩
  · rintro m1 ⟨c4, rfl, hc4, hne⟩
    have hne := hne rfl
    have hrl : 0 < rs.length := List.length_pos_iff.mpr hne
    refine xs_nil ?_
    refine xs_cons (x1_setLcC (i := 3) (own := [("_law_ware", 5)]) sc__law_room.nd (blkOk_by (N := n__law_room) (sc := defScope s__law_room) (by decide +kernel)) (XI.xie (xi_range1 T.b_range (xd_var 2 rfl) (by omega) (by omega)) ⟨fun i acc mi => ∃ xs : List Int, acc = xs.map D.int ∧ xs.length = i ∧ (∀ x ∈ xs, 0 ≤ x) ∧ mi = mset m b c4, ⟨[], rfl, rfl, by simp, rfl⟩, fun _ _ _ _ _ => trivial, by rw [rng_len]; omega, ?_, ?_⟩))
    · rintro i d acc mi hd ⟨xs, rfl, rfl, hx, rfl⟩
      obtain ⟨hi, rfl⟩ := rng_get hd
      have hi : xs.length < w := by omega
      refine lce_elt (fun s H C cl fp => xg_name 5 (by decide) sc__law_room.nd) fun s H C cl fp => ?_
      refine xe_callBX (cr_max rfl) T.b_max (xae_cons (xe_lc (own := [("_law_row", 6)]) (fun j acc mi => ∃ ys : List Int, acc = ys.map D.int ∧ ys.length = j ∧ (∀ y ∈ ys, 0 ≤ y) ∧ mi = mset m b c4) sc__law_room.nd (xi_list (xd_var 1 rfl)) (blkOk_by (by rfl)) ⟨[], rfl, rfl, by simp, rfl⟩ (fun _ _ _ _ _ => trivial) (by rw [List.length_map]; omega) ?_ ?_))
      · rintro j d acc mi hd ⟨ys, rfl, rfl, hy, rfl⟩
        obtain ⟨r, hrj, hrm, rfl⟩ := map_get hd
        refine lce_elt (fun s H C cl fp => xg_name 6 (by decide) sc__law_room.nd) fun s H C cl fp => xe_drop (xe_ixMe ?_)
        refine xe_callE c__law_load hr (xae_cons (XD.xe (xd_var 1 rfl) (xae_cons (XD.xe (xd_var 2 rfl) (xae_cons (XD.xe (xd_ix (xd_var 6 rfl) xd_int (.tup rfl)) (xae_nil ⟨w, rs, r.b, rfl, by omega, by omega, hok, fun L hL => ⟨L, rfl, XD.xe (xd_var 5 rfl) ⟨_, _, _, rfl, mset_same, at_ints (loadI w rs r.b) (by omega) (by rw [loadI_len]; omega), mset m b c4, (MLe.refl _).fresh hL, ?_⟩⟩⟩)))))))
        refine ⟨ys ++ [(loadI w rs r.b).getD ((0 : Int) + (xs.length : Nat)).toNat 0], by simp, by simp, fun y hy' => ?_, rfl⟩
        rcases List.mem_append.mp hy' with h | h
        · exact hy y h
        · have e : y = (loadI w rs r.b).getD ((0 : Int) + (xs.length : Nat)).toNat 0 := by simpa using h
          rw [e]
          refine loadI_nn r.b hok _ ?_
          rw [List.getD_eq_getElem?_getD, List.getElem?_eq_getElem (show ((0 : Int) + (xs.length : Nat)).toNat < (loadI w rs r.b).length by rw [loadI_len]; omega)]
          exact List.getElem_mem _
      · rintro acc m' ⟨ys, rfl, hyl, hy, rfl⟩
        rw [List.length_map] at hyl
        refine xae_nil (rde_maxL (by omega) fun z hz => ⟨xs ++ [z], by simp, by simp, fun x hx' => ?_, rfl⟩)
        rcases List.mem_append.mp hx' with h | h
        · exact hx x h
        · have e : x = z := by simpa using h
          rw [e]; exact hy z hz
    rintro acc m' L ⟨xs, rfl, hxl, hx, rfl⟩ hL
    rw [rng_len] at hxl
    have hLb : L ≠ b := ne_fresh mset_same hL
    have hLm : m L = none := mset_off hL hLb
    have hmd : ∀ (L2 : Addr) (c5 c6 : Cell), (mset (mset m b c5) L2 c6) b = some c5 ∨ L2 = b := fun L2 c5 c6 => by
      by_cases e : L2 = b
      · exact .inr e
      · exact .inl (mset_at2 mset_same (Ne.symm e))
    refine xs_cut (fun ρ m1 => ∃ (ys : List Int) (L2 : Addr) (c5 : Cell), ρ = [some (.raw (.ref b)), some (.lst (rs.map Rw.d)), some (.int w), some (.raw (.ref L2)), none, none, none] ∧ ys.length = w ∧ (∀ y ∈ ys, 0 ≤ y) ∧ L2 ≠ b ∧ m L2 = none ∧ m1 = mset (mset m b c5) L2 (.lst (ys.map D.int)) ∧ BxC (n + 20) c5) (x1_ifE (PT := fun k m1 => ∃ c5, m1 = mset (mset m b c5) L (.lst (xs.map D.int)) ∧ BxC (n + 10) c5) (xte_eq ?_) ?_ ?_) ?_
    · walk_at "t"
      refine ⟨b, _, _, c4, rfl, mset_at2 mset_same hLb.symm, hc4, by omega, by omega, by omega, fun r3 c5 h3 h3' hc5 => ?_⟩
      rw [mset_upd2 hLb.symm]
      walk_at "s*"
      exact ⟨rfl, c5, rfl, hc5.up (by omega)⟩
    · rintro m1 ⟨c5, rfl, hc5⟩
      refine xs_less (m' := mset m b c5) ((MLe.refl _).fresh (by rw [mset_ne hLb]; exact hLm)) ?_
      refine xs_cons (x1_set (i := 3) (xe_callE c__law_load hr (xae_cons (XD.xe (xd_var 1 rfl) (xae_cons (XD.xe (xd_var 2 rfl) (xae_cons (xe_ix (xe_ix (XD.xe (xd_var 1 rfl) ?_))))))))) sc__law_room.nd)
      refine xe_callE c__law_take hr (xae_cons (XD.xe (xd_var 0 rfl) (xae_cons (XD.xe (xd_len T.b_len (xd_var 1 rfl) (.lst _)) (xae_nil ?_)))))
      rw [List.length_map]
      refine ⟨b, _, _, c5, rfl, mset_same, hc5, by omega, by omega, by omega, fun r6 c6 h6 h6' hc6 => ?_⟩
      rw [mset_mset]
      obtain ⟨k, rfl⟩ := Int.eq_ofNat_of_zero_le h6
      have hk : k < rs.length := by omega
      refine ⟨_, rs[k].d, rfl, .lst (atI_nat (by rw [List.getElem?_map, List.getElem?_eq_getElem hk]; rfl)), XD.xe xd_int ⟨_, _, rfl, .tup rfl, xae_nil ⟨w, rs, rs[k].b, rfl, by omega, by omega, hok, fun L2 hL2 => ?_⟩⟩⟩
      have h2b : L2 ≠ b := ne_fresh mset_same hL2
      exact xs_nil ⟨_, L2, c6, rfl, loadI_len _ _ _, loadI_nn _ hok, h2b, mset_off hL2 h2b, rfl, hc6.up (by omega)⟩
    · rintro m1 ⟨c5, rfl, hc5⟩
      exact xs_nil ⟨xs, L, c5, rfl, by omega, hx, hLb, hLm, rfl, hc5.up (by omega)⟩
    clear hL hLb hLm hxl hx hmd
    rintro ρ m1 ⟨ys, L2, c5, rfl, hyl, hy, hLb, hLm, rfl, hc5⟩
    refine xs_cons (x1_set (i := 4) ?_ sc__law_room.nd)
    walk_at "t"
    refine ⟨b, _, _, c5, rfl, mset_at2 mset_same hLb.symm, hc5, by omega, by omega, by omega, fun r7 c7 h7 h7' hc7 => ?_⟩
    rw [mset_upd2 hLb.symm]
    refine xs_cons (x1_setIxE (xe_callBE (call_max2 rfl) T.b_max (xae_cons (XD.xe xd_int (xae_cons (xe_sub (xe_ixMe (XD.xe (xd_var 3 rfl) ⟨L2, rfl, XD.xe (xd_var 4 rfl) ⟨_, _, _, rfl, mset_same, at_ints ys h7 (by omega), _, rfl, ?_⟩⟩))))))))
    walk_at "t"
    refine ⟨b, _, _, c7, rfl, mset_at2 mset_same hLb.symm, hc7, by omega, by omega, by omega, fun r8 c8 h8 h8' hc8 => ?_⟩
    rw [mset_upd2 hLb.symm]
    refine ⟨_, rfl, xae_nil ⟨_, _, rdc_max2, XD.xe (xd_var 3 rfl) ⟨L2, rfl, XD.xe (xd_var 4 rfl) ⟨_, _, r7.toNat, rfl, mset_same, ixN_pos' h7 (by rw [List.length_map]; omega), ?_⟩⟩⟩⟩
    rw [mset_mset]
    refine xs_freeze 3 rfl mset_same ?_
    rw [mdel_mset (by rw [mset_ne hLb]; exact hLm)]
    refine xs_cons (x1_retD (d := tupI (ys.set r7.toNat (if ys.getD r7.toNat 0 - r8 > 0 then ys.getD r7.toNat 0 - r8 else 0))) (xdto (congrArg D.tup ?_) (xd_tupleL T.b_tuple (xd_var 3 rfl))) (q _ c8 (by rw [List.length_set]; omega) (fun x hx => ?_) (hc8.up (by omega))))
    · rw [List.map_set]
    · rcases List.mem_or_eq_of_mem_set hx with h | h
      · exact hy x h
      · rw [h]; split <;> omega

/-! ### amount_fits -/
def a_amount_fits : ASp := fun ss m Q => ∃ xs ys : List Int, ss = [tupI xs, tupI ys] ∧ xs.length ≤ 1000 ∧ Q (.bl (fitB xs ys)) m
theorem ok_amount_fits {f : Addr} {fd : FuncData} (F : Fun K "amount_fits" "amount_fits" s_amount_fits f fd) (T : Tx K mg) : FnOk P w K mg base CX0 1 f fd ["one", "other"] (spA K a_amount_fits) := by
  refine fn_ok F sc_amount_fits (by intro ss m Q h; unfold a_amount_fits at h; (repeat (obtain ⟨_, h⟩ := h)); subst_vars; rfl) fun cdv A outer s H E hr F0 ss m Q h => ?_
  obtain ⟨xs, ys, rfl, hl, q⟩ := h
  refine xs_cons (x1_retD (xd_all (bs := List.zipWith (fun a b => decide (a ≤ b)) xs ys) T.b_all (xdto ?_ (xd_mapA (L := xs.zip ys) (own := [("a", 2), ("b", 3)]) (fun p => .tup [.int p.1, .int p.2]) (fun p => .bl (decide (p.1 ≤ p.2))) sc_amount_fits.nd ((xi_zipT T.b_zip (xd_var 0 rfl) (xd_var 1 rfl)).to (zipD_map _ _ xs ys)) (blkOk_by (N := n_amount_fits) (sc := defScope s_amount_fits) (by decide +kernel)) trivial ?_ fun p _ => ?_))) q)
  · rw [List.zip_eq_zipWith, List.map_zipWith, List.map_zipWith]
  · rw [List.length_zip]; omega
  · exact lcs_elt (fun s H C cl fp => xg_tup rfl (xgs_cons (xg_name 2 (by decide) sc_amount_fits.nd) (xgs_cons (xg_name 3 (by decide) sc_amount_fits.nd) xgs_nil))) fun s H C cl fp => xd_le (xd_var 2 rfl) (xd_var 3 rfl)

/-! ### nothing_of -/
def zeros (n : Nat) : List Int := List.replicate n 0
theorem zeros_flat (n : Nat) : (List.replicate n [D.int 0]).flatten = (zeros n).map D.int := by
  unfold zeros
  induction n with
  | zero => rfl
  | succ n ih => rw [List.replicate_succ, List.flatten_cons, ih, List.replicate_succ, List.map_cons]; rfl
def a_nothing_of : ASp := fun ss m Q => ∃ k : Int, ss = [.int k] ∧ 1 ≤ k ∧ k ≤ 1000 ∧ Q (tupI (zeros k.toNat)) m
theorem ok_nothing_of {f : Addr} {fd : FuncData} (F : Fun K "nothing_of" "nothing_of" s_nothing_of f fd) (T : Tx K mg) : FnOk P w K mg base CX0 1 f fd ["wares"] (spA K a_nothing_of) := by
  refine fn_ok F sc_nothing_of (by intro ss m Q h; unfold a_nothing_of at h; (repeat (obtain ⟨_, h⟩ := h)); subst_vars; rfl) fun cdv A outer s H E hr F0 ss m Q h => ?_
  obtain ⟨k, rfl, h1, h2, q⟩ := h
  refine xs_cons (x1_retD ((xd_mulT (xd_tup (xa_cons xd_int xa_nil)) (xd_var 0 rfl) h1 h2 (by simp) (by simp)).to (congrArg D.tup (zeros_flat _))) q)

/-! ### amount_sum -/
def a_amount_sum : ASp := fun ss m Q => ∃ xs ys : List Int, ss = [tupI xs, tupI ys] ∧ xs.length ≤ 1000 ∧ Q (tupI (List.zipWith (· + ·) xs ys)) m
theorem ok_amount_sum {f : Addr} {fd : FuncData} (F : Fun K "amount_sum" "amount_sum" s_amount_sum f fd) (T : Tx K mg) : FnOk P w K mg base CX0 1 f fd ["one", "other"] (spA K a_amount_sum) := by
  refine fn_ok F sc_amount_sum (by intro ss m Q h; unfold a_amount_sum at h; (repeat (obtain ⟨_, h⟩ := h)); subst_vars; rfl) fun cdv A outer s H E hr F0 ss m Q h => ?_
  obtain ⟨xs, ys, rfl, hl, q⟩ := h
  refine xs_cons (x1_retD (xd_tupleL T.b_tuple (xd_mapA (L := xs.zip ys) (own := [("a", 2), ("b", 3)]) (fun p => .tup [.int p.1, .int p.2]) (fun p => .int (p.1 + p.2)) sc_amount_sum.nd ((xi_zipT T.b_zip (xd_var 0 rfl) (xd_var 1 rfl)).to (zipD_map _ _ xs ys)) (blkOk_by (N := n_amount_sum) (sc := defScope s_amount_sum) (by decide +kernel)) trivial ?_ fun p _ => ?_)) ?_)
  · rw [List.length_zip]; omega
  · exact lcs_elt (fun s H C cl fp => xg_tup rfl (xgs_cons (xg_name 2 (by decide) sc_amount_sum.nd) (xgs_cons (xg_name 3 (by decide) sc_amount_sum.nd) xgs_nil))) fun s H C cl fp => xd_add (xd_var 2 rfl) (xd_var 3 rfl)
  · have e : (xs.zip ys).map (fun p => D.int (p.1 + p.2)) = (List.zipWith (· + ·) xs ys).map D.int := by
      rw [List.zip_eq_zipWith, List.map_zipWith, List.map_zipWith]
    rw [e]
    exact q

/-! ### load_then -/
def a_load_then : ASp := fun ss m Q => ∃ (w : Nat) (rs : List Rw) (t : Int), ss = [.int w, .lst (rs.map Rw.d), .int t] ∧ 1 ≤ w ∧ w ≤ 100 ∧ rs.length ≤ 1000 ∧ (∀ r ∈ rs, r.ok w) ∧ Q (tupI (loadI w rs t)) m
theorem loadI_snoc (w : Nat) (rs : List Rw) (r : Rw) (t : Int) (hr : r.am.length = w) : loadI w (rs ++ [r]) t = if actB t r = true then List.zipWith (· + ·) (loadI w rs t) r.am else loadI w rs t := by
  unfold loadI
  rw [List.filter_append]
  by_cases h : actB t r = true
  · rw [if_pos h]
    apply List.ext_getElem?
    intro i
    rw [List.getElem?_map, List.getElem?_zipWith, List.getElem?_map]
    by_cases hi : i < w
    · rw [List.getElem?_range hi, List.getElem?_eq_getElem (show i < r.am.length by omega)]
      simp [List.filter_cons, h, List.sum_append, List.getD_eq_getElem?_getD, List.getElem?_eq_getElem (show i < r.am.length by omega)]
    · rw [List.getElem?_eq_none (by simpa using hi)]; rfl
  · rw [if_neg h]
    simp [List.filter_cons, h]
theorem loadI_nil (w : Nat) (t : Int) : loadI w [] t = zeros w := by
  unfold loadI zeros
  simp only [List.filter_nil, List.map_nil, List.sum_nil]
  rw [List.map_const', List.length_range]
theorem ok_load_then {f : Addr} {fd : FuncData} (F : Fun K "load_then" "load_then" s_load_then f fd) (T : Tx K mg) (c_nothing_of : Cal P w K mg base 1 "nothing_of" (spA K a_nothing_of)) (c_amount_sum : Cal P w K mg base 1 "amount_sum" (spA K a_amount_sum)) : FnOk P w K mg base CX0 2 f fd ["wares", "rows", "time"] (spA K a_load_then) := by
  refine fn_ok F sc_load_then (by intro ss m Q h; unfold a_load_then at h; (repeat (obtain ⟨_, h⟩ := h)); subst_vars; rfl) fun cdv A outer s H E hr F0 ss m Q h => ?_
  obtain ⟨w, rs, t, rfl, hw0, hw1, hl, hok, q⟩ := h
  refine xs_cons (x1_setD (i := 3) (d := tupI (zeros w)) (xd_call c_nothing_of hr (xa_cons (xd_var 0 rfl) xa_nil) ⟨w, rfl, by omega, by omega, rfl, rfl⟩) ?_ sc_load_then.nd)
  refine xs_cons (x1_for (xi_list (xd_var 1 rfl)) (fun i ρ m1 => ∃ (v4 v5 v6 v7 : Option D), ρ = [some (.int w), some (.lst (rs.map Rw.d)), some (.int t), some (tupI (loadI w (rs.take i) t)), v4, v5, v6, v7] ∧ m1 = m) ⟨_, _, _, _, by rw [List.take_zero, loadI_nil]; rfl, rfl⟩ (fun _ _ _ _ => trivial) ?_ ?_)
  · rintro i d ρ mi hd ⟨v4, v5, v6, v7, rfl, rfl⟩
    obtain ⟨r, hri, hrm, rfl⟩ := map_get hd
    have hk := hok r hrm
    refine ⟨_, [4, 5, 6, 7], xg_tup rfl (xgs_cons (xg_name 4 (by decide) sc_load_then.nd) (xgs_cons (xg_name 5 (by decide) sc_load_then.nd) (xgs_cons (xg_name 6 (by decide) sc_load_then.nd) (xgs_cons (xg_name 7 (by decide) sc_load_then.nd) xgs_nil)))), ?_⟩
    have e := loadI_snoc w (rs.take i) r t hk.wl
    have et : rs.take (i + 1) = rs.take i ++ [r] := by rw [List.take_add_one, hri]; rfl
    refine xs_cons (x1_if (k := actB t r) (xt_chain op_le op_lt (rd_I0 fun _ => .bl _) (rd_I0 fun _ => .bl _) (xd_var 5 rfl) (xd_var 2 rfl) (xd_var 6 rfl)) (fun h => ?_) (fun h => ?_))
    · refine xs_cons (x1_setD (i := 3) (d := tupI (loadI w (rs.take (i + 1)) t)) (xd_call c_amount_sum hr (xa_cons (xd_var 3 rfl) (xa_cons (xd_var 7 rfl) xa_nil)) ⟨_, _, rfl, by rw [loadI_len]; omega, by rw [et, e, if_pos h], rfl⟩) ?_ sc_load_then.nd)
      exact xs_nil (xs_nil ⟨_, _, _, _, rfl, rfl⟩)
    · exact xs_nil (xs_nil ⟨_, _, _, _, by rw [et, e, if_neg (by rw [h]; decide)]; rfl, rfl⟩)
  · rintro ρ mi ⟨v4, v5, v6, v7, rfl, rfl⟩
    rw [List.length_map, List.take_length]
    exact xs_cons (x1_retD (xd_var 3 rfl) q)

/-! ### overborne -/
def a_overborne : ASp := fun ss m Q => ∃ (xs : List Int) (rs : List Rw), ss = [tupI xs, .lst (rs.map Rw.d)] ∧ 1 ≤ xs.length ∧ xs.length ≤ 100 ∧ rs.length ≤ 1000 ∧ (∀ r ∈ rs, r.ok xs.length) ∧ ∀ o, FirstB xs rs (rs.map (·.b)) o → Q (optD o) m
theorem ok_overborne {f : Addr} {fd : FuncData} (F : Fun K "overborne" "overborne" s_overborne f fd) (T : Tx K mg) (c_amount_fits : Cal P w K mg base 1 "amount_fits" (spA K a_amount_fits)) (c_load_then : Cal P w K mg base 2 "load_then" (spA K a_load_then)) : FnOk P w K mg base CX0 3 f fd ["room", "rows"] (spA K a_overborne) := by
  refine fn_ok F sc_overborne (by intro ss m Q h; unfold a_overborne at h; (repeat (obtain ⟨_, h⟩ := h)); subst_vars; rfl) fun cdv A outer s H E hr F0 ss m Q h => ?_
  obtain ⟨xs, rs, rfl, hx0, hx1, hl, hok, q⟩ := h
  refine xs_cons (x1_forE (xie_list (xe_callBX cr_sortedI T.b_sorted (xae_cons (XD.xe (xdto (d1 := .lst ((rs.map (·.b)).map D.int)) ?_ (xd_mapA (L := rs) (own := [("row", 3)]) Rw.d (fun r => .int r.b) sc_overborne.nd (xi_list (xd_var 1 rfl)) (blkOk_by (N := n_overborne) (sc := defScope s_overborne) (by decide +kernel)) trivial (by omega) fun r hr => lcs_elt (fun s H C cl fp => xg_name 3 (by decide) sc_overborne.nd) fun s H C cl fp => xd_ix (xd_var 3 rfl) xd_int (.tup rfl))) (xae_nil (rde_sortedI fun ks hp hs => ?_)))))))
  · rw [List.map_map]; rfl
  refine ⟨_, rfl, fun i ρ m1 => ∃ (v2 v3 : Option D), ρ = [some (tupI xs), some (.lst (rs.map Rw.d)), v2, v3] ∧ m1 = m ∧ ∀ j u, j < i → ks[j]? = some u → fitB (loadI xs.length rs u) xs = true, ⟨_, _, rfl, rfl, fun j u hj => absurd hj (Nat.not_lt_zero _)⟩, fun _ _ _ _ => trivial, ?_, ?_⟩
  · rintro i d ρ mi hd ⟨v2, v3, rfl, rfl, hb⟩
    obtain ⟨t, ht, _, rfl⟩ := map_get hd
    refine ⟨_, [2], xg_name 2 (by decide) sc_overborne.nd, ?_⟩
    refine xs_cons (x1_if (k := !fitB (loadI xs.length rs t) xs) (xt_not (xt_val (xd_call (m2 := mi) c_amount_fits hr (xa_cons (xd_call (d := tupI (loadI xs.length rs t)) (m2 := mi) c_load_then hr (xa_cons (xd_len T.b_len (xd_var 0 rfl) (lenT xs)) (xa_cons (xd_var 1 rfl) (xa_cons (xd_var 2 rfl) xa_nil))) ⟨xs.length, rs, t, rfl, hx0, hx1, hl, hok, rfl, rfl⟩) (xa_cons (xd_var 0 rfl) xa_nil)) ⟨_, xs, rfl, by rw [loadI_len]; omega, rfl, rfl⟩))) (fun h => ?_) (fun h => ?_))
    · refine xs_cons (x1_retD (xd_var 2 rfl) (q (some t) (first_at (fun k => hp.mem_iff) hs ht hb ?_)))
      cases hf : fitB (loadI xs.length rs t) xs with
      | false => rfl
      | true => rw [hf] at h; cases h
    · refine xs_nil (xs_nil ⟨_, _, rfl, rfl, fun j u hj hu => ?_⟩)
      by_cases hji : j < i
      · exact hb j u hji hu
      · have e : j = i := by omega
        subst e
        rw [ht] at hu; cases hu
        cases hf : fitB (loadI xs.length rs t) xs with
        | true => rfl
        | false => rw [hf] at h; cases h
  · rintro ρ mi ⟨v2, v3, rfl, rfl, hb⟩
    rw [List.length_map] at hb
    exact xs_cons (x1_retD xd_non (q none (first_none (fun k => hp.mem_iff) hb)))

/-! ### _law_alike -/
def alikeA (n : Nat) : ASp := fun ss m Q => ∃ x, ss = [x, x] ∧ okD n x ∧ Q (.bl true) m
def a__law_alike : ASp := alikeA 8
theorem kit_no {a b : String} (h : kitB a b = some false := by decide +kernel) : kitB a b = some false := h
theorem zip_self (ds : List D) : zipD ds ds = ds.map fun d => .tup [d, d] := by
  unfold zipD
  induction ds with
  | nil => rfl
  | cons d ds ih => rw [List.zip_cons_cons, List.map_cons, ih, List.map_cons]
theorem all_true (ds : List D) : (ds.map fun _ => true).all id = true := by
  induction ds with
  | nil => rfl
  | cons d ds ih => rw [List.map_cons, List.all_cons, ih]; rfl
theorem scEq_self {d : D} (h : sc d d = true) : scEq d d = true := by
  cases d <;> first
    | rfl
    | (simp [scEq]; done)
    | (simp [sc] at h; done)
section
variable {X : Cx} {F0 : Hp} {ρ : Env1} {m : MS} {d : D} {e : Expr} {pos p : Pos} {m1 : MS}
theorem is1 {T : String} {k : Bool} {x : Str} {e : Expr} {q : Pos} (hm : X.mg "isinstance" = none) (ht : X.mg x = none) (ha : XD X F0 e ρ m d m) (hk : kitB (tyD d) T = some k) (hv : bootBuiltins x = some (.type T)) (h : goodTy d = true) (hg : Gl X "isinstance" := by rfl) (hg2 : Gl X x := by rfl)
    (hn : x ≠ "__name__" := by decide) (hd : (x == ("__debug__" : Str)) = false := by decide)
    (he : starEach [e, .Name x q] X.env = (false, eval e X.env) :: starEach [.Name x q] X.env := by rfl) (he2 : starEach [.Name x q] X.env = (false, eval (.Name x q) X.env) :: starEach [] X.env := by rfl) (hpl : (backTo pos (starEach [.Name x q] X.env)).any (·.1) = false := by rfl) :
    XD X F0 (.Call (.Name "isinstance" p) [e, .Name x q] [] pos) ρ m (.bl k) m := xd_isinst hm ha (xd_ty ht hv hg2 hn hd) hk h hg he he2 hpl
end
theorem bv_list : bootBuiltins "list" = some (.type "list") := by decide +kernel
theorem bv_tuple : bootBuiltins "tuple" = some (.type "tuple") := by decide +kernel
theorem bv_str : bootBuiltins "str" = some (.type "str") := by decide +kernel
theorem bv_int : bootBuiltins "int" = some (.type "int") := by decide +kernel
theorem bv_bool : bootBuiltins "bool" = some (.type "bool") := by decide +kernel
theorem alike_leaf {f : Addr} (T : Tx K mg) (cdv : Value) (A : Around) (outer : List Env) (s : Shared) (H : Hp) (E : XK) (F0 : Hp) (m : MS) (Q : D → MS → Prop) (x : D) (hx : okD 0 x) (q : Q (.bl true) m) :
    XS (cxOf CX0 P w K mg base n__law_alike "_law_alike" (defScope s__law_alike) f cdv A outer s H E).nox F0 (defBody s__law_alike) (startR n__law_alike [x, x]) m { nx := fun _ m' => Q .non m', rt := Q } := by
  cases x with
  | non =>
    refine xs_cons (x1_if (xt_val (xd_isinst2 (T1 := "list") (T2 := "tuple") T.b_isinstance (xd_var 1 rfl) (pe_tyN T.b_list bv_list) (pe_tyN T.b_tuple bv_tuple) (kit_no (a := "NoneType") (b := "list")) (kit_no (a := "NoneType") (b := "tuple")) rfl)) (fun h => nomatch h) fun _ => xs_nil ?_)
    refine xs_cons (x1_if (XW.xt (xw_or (xt_isN (xd_var 1 rfl)) (fun h => nomatch h) (k2 := true) (m2 := m) (fun _ => rfl))) (fun _ => ?_) (fun h => nomatch h))
    refine xs_cons (x1_retD (xd_and (xd_eq (xd_var 0 rfl) (xd_var 1 rfl)) (fun _ => xd_one (xd_eq (is1 T.b_isinstance T.b_str (xd_var 0 rfl) (kit_no (a := "NoneType") (b := "str")) bv_str rfl) (is1 T.b_isinstance T.b_str (xd_var 1 rfl) (kit_no (a := "NoneType") (b := "str")) bv_str rfl))) (fun _ => rfl)) q)
  | str z =>
    refine xs_cons (x1_if (xt_val (xd_isinst2 (T1 := "list") (T2 := "tuple") T.b_isinstance (xd_var 1 rfl) (pe_tyN T.b_list bv_list) (pe_tyN T.b_tuple bv_tuple) (kit_no (a := "str") (b := "list")) (kit_no (a := "str") (b := "tuple")) rfl)) (fun h => nomatch h) fun _ => xs_nil ?_)
    refine xs_cons (x1_if (XW.xt (xw_or (xt_isN (xd_var 1 rfl)) (fun _ => xw_or1 (xt_val (is1 T.b_isinstance T.b_str (xd_var 1 rfl) kit_yes bv_str rfl))) (fun h => nomatch h))) (fun _ => ?_) (fun h => nomatch h))
    refine xs_cons (x1_retD (xdto (by rw [scEq_self rfl]; rfl) (xd_and (xd_eq (xd_var 0 rfl) (xd_var 1 rfl)) (fun _ => xd_one (xd_eq (is1 T.b_isinstance T.b_str (xd_var 0 rfl) kit_yes bv_str rfl) (is1 T.b_isinstance T.b_str (xd_var 1 rfl) kit_yes bv_str rfl))) (fun _ => rfl))) q)
  | bl z =>
    refine xs_cons (x1_if (xt_val (xd_isinst2 (T1 := "list") (T2 := "tuple") T.b_isinstance (xd_var 1 rfl) (pe_tyN T.b_list bv_list) (pe_tyN T.b_tuple bv_tuple) (kit_no (a := "bool") (b := "list")) (kit_no (a := "bool") (b := "tuple")) rfl)) (fun h => nomatch h) fun _ => xs_nil ?_)
    refine xs_cons (x1_if (XW.xt (xw_or (xt_isN (xd_var 1 rfl)) (fun _ => xw_or1 (xt_val (is1 T.b_isinstance T.b_str (xd_var 1 rfl) (kit_no (a := "bool") (b := "str")) bv_str rfl))) (fun h => nomatch h))) (fun h => nomatch h) (fun _ => xs_nil ?_))
    refine xs_cons (x1_retD (xdto (by rw [scEq_self (d := .bl z) rfl]; rfl) (xd_and (is1 T.b_isinstance T.b_int (xd_var 0 rfl) (show kitB "bool" "int" = some true by decide +kernel) bv_int rfl) (fun _ => xd_and (xd_eq (is1 T.b_isinstance T.b_bool (xd_var 0 rfl) kit_yes bv_bool rfl) (is1 T.b_isinstance T.b_bool (xd_var 1 rfl) kit_yes bv_bool rfl)) (fun _ => xd_one (xd_eq (xd_var 0 rfl) (xd_var 1 rfl))) (fun _ => rfl)) (fun _ => rfl))) q)
  | int z =>
    refine xs_cons (x1_if (xt_val (xd_isinst2 (T1 := "list") (T2 := "tuple") T.b_isinstance (xd_var 1 rfl) (pe_tyN T.b_list bv_list) (pe_tyN T.b_tuple bv_tuple) (kit_no (a := "int") (b := "list")) (kit_no (a := "int") (b := "tuple")) rfl)) (fun h => nomatch h) fun _ => xs_nil ?_)
    refine xs_cons (x1_if (XW.xt (xw_or (xt_isN (xd_var 1 rfl)) (fun _ => xw_or1 (xt_val (is1 T.b_isinstance T.b_str (xd_var 1 rfl) (kit_no (a := "int") (b := "str")) bv_str rfl))) (fun h => nomatch h))) (fun h => nomatch h) (fun _ => xs_nil ?_))
    refine xs_cons (x1_retD (xdto (by rw [scEq_self (d := .int z) rfl]; rfl) (xd_and (is1 T.b_isinstance T.b_int (xd_var 0 rfl) kit_yes bv_int rfl) (fun _ => xd_and (xd_eq (is1 T.b_isinstance T.b_bool (xd_var 0 rfl) (kit_no (a := "int") (b := "bool")) bv_bool rfl) (is1 T.b_isinstance T.b_bool (xd_var 1 rfl) (kit_no (a := "int") (b := "bool")) bv_bool rfl)) (fun _ => xd_one (xd_eq (xd_var 0 rfl) (xd_var 1 rfl))) (fun _ => rfl)) (fun _ => rfl))) q)
  | lst _ => exact hx.elim
  | tup _ => exact hx.elim
  | fls _ => exact hx.elim
  | raw _ => exact hx.elim
theorem ok_alike {f : Addr} {fd : FuncData} (F : Fun K "_law_alike" "_law_alike" s__law_alike f fd) (T : Tx K mg) (hm : mg "_law_alike" = some (.ref f)) (bi : Binds K fd ["_law_found", "_law_due_here"] []) : ∀ n, FnOk P w K mg base CX0 (n + 1) f fd ["_law_found", "_law_due_here"] (spA K (alikeA n)) := fun n => by
  induction n with
  | zero =>
    refine fn_ok F sc__law_alike (by intro ss m Q h; obtain ⟨x, rfl, _⟩ := h; rfl) fun cdv A outer s H E hr F0 ss m Q h => ?_
    obtain ⟨x, rfl, hx, q⟩ := h
    exact alike_leaf T cdv A outer s H E F0 m Q x hx q
  | succ n ih =>
    refine fn_ok F sc__law_alike (by intro ss m Q h; obtain ⟨x, rfl, _⟩ := h; rfl) fun cdv A outer s H E hr F0 ss m Q h => ?_
    obtain ⟨x, rfl, hx, q⟩ := h
    have CA : Cal P w K mg base (n + 1) "_law_alike" (spA K (alikeA n)) := cal_mk ih hm F.kp bi
    cases x with
    | non => exact alike_leaf T cdv A outer s H E F0 m Q _ trivial q
    | str z => exact alike_leaf T cdv A outer s H E F0 m Q _ trivial q
    | bl z => exact alike_leaf T cdv A outer s H E F0 m Q _ trivial q
    | int z => exact alike_leaf T cdv A outer s H E F0 m Q _ trivial q
    | fls _ => exact hx.elim
    | raw _ => exact hx.elim
    | lst ds =>
      obtain ⟨hl, hx⟩ := hx
      refine xs_cons (x1_if (k := true) (xtto (b1 := true || false) rfl (xt_val (xd_isinst2 (T1 := "list") (T2 := "tuple") T.b_isinstance (xd_var 1 rfl) (pe_tyN T.b_list bv_list) (pe_tyN T.b_tuple bv_tuple) kit_yes (kit_no (a := "list") (b := "tuple")) rfl))) (fun _ => ?_) (fun h => nomatch h))
      refine xs_cons (x1_if (k := false) (XW.xt (xw_or (k1 := false) (k2 := false) (xtto (b1 := !(true || false)) rfl (xt_not (xt_val (xd_isinst2 (T1 := "list") (T2 := "tuple") T.b_isinstance (xd_var 0 rfl) (pe_tyN T.b_list bv_list) (pe_tyN T.b_tuple bv_tuple) kit_yes (kit_no (a := "list") (b := "tuple")) rfl)))) (fun _ => (xw_or1 (xtto (b1 := !scEq (.bl true) (.bl true)) rfl (xt_ne (is1 T.b_isinstance T.b_list (xd_var 0 rfl) kit_yes bv_list rfl) (is1 T.b_isinstance T.b_list (xd_var 1 rfl) kit_yes bv_list rfl))))) (fun h => nomatch h))) (fun h => nomatch h) fun _ => xs_nil ?_)
      refine xs_cons (x1_retD (xdto ?_ (xd_and (xd_eq (xd_len T.b_len (xd_var 0 rfl) (.lst _)) (xd_len T.b_len (xd_var 1 rfl) (.lst _))) (fun _ => xd_one (xd_all (bs := ds.map fun _ => true) T.b_all (xdto ?_ (xd_mapA (L := ds) (own := [("_law_one", 2), ("_law_other", 3)]) (fun d => .tup [d, d]) (fun _ => .bl true) sc__law_alike.nd ((xi_zipL T.b_zip (xd_var 0 rfl) (xd_var 1 rfl)).to (zip_self ds)) (blkOk_by (N := n__law_alike) (sc := defScope s__law_alike) (by decide +kernel)) trivial hl fun d hd => ?_)))) (fun _ => rfl))) q)
      · rw [scEq_self (d := .int _) rfl, all_true]; rfl
      · rw [List.map_map]; rfl
      · exact lcs_elt (fun s H C cl fp => xg_tup rfl (xgs_cons (xg_name 2 (by decide) sc__law_alike.nd) (xgs_cons (xg_name 3 (by decide) sc__law_alike.nd) xgs_nil))) fun s H C cl fp => xd_call CA hr (xa_cons (xd_var 2 rfl) (xa_cons (xd_var 3 rfl) xa_nil)) ⟨d, rfl, hx d hd, rfl, rfl⟩ (Nat.le_refl _)
    | tup ds =>
      obtain ⟨hl, hx⟩ := hx
      refine xs_cons (x1_if (k := true) (xtto (b1 := false || true) rfl (xt_val (xd_isinst2 (T1 := "list") (T2 := "tuple") T.b_isinstance (xd_var 1 rfl) (pe_tyN T.b_list bv_list) (pe_tyN T.b_tuple bv_tuple) (kit_no (a := "tuple") (b := "list")) kit_yes rfl))) (fun _ => ?_) (fun h => nomatch h))
      refine xs_cons (x1_if (k := false) (XW.xt (xw_or (k1 := false) (k2 := false) (xtto (b1 := !(false || true)) rfl (xt_not (xt_val (xd_isinst2 (T1 := "list") (T2 := "tuple") T.b_isinstance (xd_var 0 rfl) (pe_tyN T.b_list bv_list) (pe_tyN T.b_tuple bv_tuple) (kit_no (a := "tuple") (b := "list")) kit_yes rfl)))) (fun _ => (xw_or1 (xtto (b1 := !scEq (.bl false) (.bl false)) rfl (xt_ne (is1 T.b_isinstance T.b_list (xd_var 0 rfl) (kit_no (a := "tuple") (b := "list")) bv_list rfl) (is1 T.b_isinstance T.b_list (xd_var 1 rfl) (kit_no (a := "tuple") (b := "list")) bv_list rfl))))) (fun h => nomatch h))) (fun h => nomatch h) fun _ => xs_nil ?_)
      refine xs_cons (x1_retD (xdto ?_ (xd_and (xd_eq (xd_len T.b_len (xd_var 0 rfl) (.tup _)) (xd_len T.b_len (xd_var 1 rfl) (.tup _))) (fun _ => xd_one (xd_all (bs := ds.map fun _ => true) T.b_all (xdto ?_ (xd_mapA (L := ds) (own := [("_law_one", 2), ("_law_other", 3)]) (fun d => .tup [d, d]) (fun _ => .bl true) sc__law_alike.nd ((xi_zipT T.b_zip (xd_var 0 rfl) (xd_var 1 rfl)).to (zip_self ds)) (blkOk_by (N := n__law_alike) (sc := defScope s__law_alike) (by decide +kernel)) trivial hl fun d hd => ?_)))) (fun _ => rfl))) q)
      · rw [scEq_self (d := .int _) rfl, all_true]; rfl
      · rw [List.map_map]; rfl
      · exact lcs_elt (fun s H C cl fp => xg_tup rfl (xgs_cons (xg_name 2 (by decide) sc__law_alike.nd) (xgs_cons (xg_name 3 (by decide) sc__law_alike.nd) xgs_nil))) fun s H C cl fp => xd_call CA hr (xa_cons (xd_var 2 rfl) (xa_cons (xd_var 3 rfl) xa_nil)) ⟨d, rfl, hx d hd, rfl, rfl⟩ (Nat.le_refl _)
theorem cal__law_alike {f : Addr} {fd : FuncData} (F : Fun K "_law_alike" "_law_alike" s__law_alike f fd) (T : Tx K mg) (hm : mg "_law_alike" = some (.ref f)) (kp : PySem.W.keepIn K (.ref f) = true) (bi : Binds K fd ["_law_found", "_law_due_here"] []) : Cal P w K mg base 9 "_law_alike" (spA K a__law_alike) := cal_mk (ok_alike F T hm bi 8) hm kp bi

/-! ### _law_due -/
def a__law_due : ASp := fun ss m Q => ∃ (xs : List Int) (rs : List Rw), ss = [tupI xs, .lst (rs.map Rw.d)] ∧ 1 ≤ xs.length ∧ xs.length ≤ 100 ∧ rs.length ≤ 30 ∧ (∀ r ∈ rs, r.ok xs.length) ∧ ∀ o, FirstB xs rs (rs.map (·.b) ++ rs.map (·.e)) o → Q (optD o) m
theorem ok__law_due {f : Addr} {fd : FuncData} (F : Fun K "_law_due" "_law_due" s__law_due f fd) (T : Tx K mg) (c__law_load : Cal P w K mg base 1 "_law_load" (spA K a__law_load)) : FnOk P w K mg base CX0 2 f fd ["_law_room_here", "_law_rows_here"] (spA K a__law_due) := by
  refine fn_ok F sc__law_due (by intro ss m Q h; unfold a__law_due at h; (repeat (obtain ⟨_, h⟩ := h)); subst_vars; rfl) fun cdv A outer s H E hr F0 ss m Q h => ?_
  obtain ⟨xs, rs, rfl, hx0, hx1, hl, hok, q⟩ := h
  refine xs_cons (x1_forE (xie_list (xe_sortedSetI T.b_sorted T.b_set (XD.xe (xdto (d1 := .lst ((rs.map (·.b) ++ rs.map (·.e)).map D.int)) ?_ (xd_catL (xd_mapA (L := rs) (own := [("_law_row", 4)]) Rw.d (fun r => .int r.b) sc__law_due.nd (xi_list (xd_var 1 rfl)) (blkOk_by (N := n__law_due) (sc := defScope s__law_due) (by decide +kernel)) trivial (by omega) fun r hr => lcs_elt (fun s H C cl fp => xg_name 4 (by decide) sc__law_due.nd) fun s H C cl fp => xd_ix (xd_var 4 rfl) xd_int (.tup rfl))
    (xd_mapA (L := rs) (own := [("_law_row", 4)]) Rw.d (fun r => .int r.e) sc__law_due.nd (xi_list (xd_var 1 rfl)) (blkOk_by (N := n__law_due) (sc := defScope s__law_due) (by decide +kernel)) trivial (by omega) fun r hr => lcs_elt (fun s H C cl fp => xg_name 4 (by decide) sc__law_due.nd) fun s H C cl fp => xd_ix (xd_var 4 rfl) xd_int (.tup rfl)) ?_)) ⟨_, rfl, ?_, fun ks hs hmem => ?_⟩))))
  · rw [List.map_append, List.map_map, List.map_map]; rfl
  · rw [List.length_map, List.length_map]; omega
  · rw [List.length_append, List.length_map, List.length_map]; omega
  have hs' : ks.Pairwise (· ≤ ·) := hs.imp fun h => Int.le_of_lt h
  refine ⟨_, rfl, fun i ρ m1 => ∃ (v2 v3 v4 v5 : Option D), ρ = [some (tupI xs), some (.lst (rs.map Rw.d)), v2, v3, v4, v5] ∧ m1 = m ∧ ∀ j u, j < i → ks[j]? = some u → fitB (loadI xs.length rs u) xs = true, ⟨_, _, _, _, rfl, rfl, fun j u hj => absurd hj (Nat.not_lt_zero _)⟩, fun _ _ _ _ => trivial, ?_, ?_⟩
  · rintro i d ρ mi hd ⟨v2, v3, v4, v5, rfl, rfl, hb⟩
    obtain ⟨t, ht, _, rfl⟩ := map_get hd
    refine ⟨_, [2], xg_name 2 (by decide) sc__law_due.nd, ?_⟩
    refine xs_cons (x1_set (i := 3) (xe_callE c__law_load hr (xae_cons (XD.xe (xd_var 1 rfl) (xae_cons (XD.xe (xd_len T.b_len (xd_var 0 rfl) (lenT xs)) (xae_cons (XD.xe (xd_var 2 rfl) (xae_nil ⟨xs.length, rs, t, rfl, hx1, by omega, hok, fun L hL => ?_⟩)))))))) sc__law_due.nd)
    refine xs_freeze 3 rfl mset_same ?_
    rw [mdel_mset hL]
    have hll := loadI_len xs.length rs t
    refine xs_cons (x1_if (k := !fitB (loadI xs.length rs t) xs) (xtto (congrArg Bool.not (moreL_fit hll)) (xt_neD 2 hr (xd_filtA (L := List.range xs.length) (own := [("_law_ware", 5)]) (fun i => .int ((0 : Int) + (i : Nat))) (fun i => if decide (xs.getD i 0 < (loadI xs.length rs t).getD i 0) = true then some (.int ((0 : Int) + (i : Nat))) else none) sc__law_due.nd (xi_rlen T.b_range T.b_len (xd_var 0 rfl) (lenT xs) (by omega)) (blkOk_by (N := n__law_due) (sc := defScope s__law_due) (by decide +kernel)) trivial ?_ fun i hi => ?_) (xd_lst xa_nil (Nat.le_of_ble_eq_true rfl)) ?_ rfl)) (fun h => ?_) (fun h => ?_))
    · rw [List.length_range]; omega
    · have hi := List.mem_range.mp hi
      exact lcs_if (fun s H C cl fp => xg_name 5 (by decide) sc__law_due.nd) (fun s H C cl fp => xt_gt (xd_ix (xd_var 3 rfl) (xd_var 5 rfl) (.lst (by rw [Int.zero_add]; refine atI_nat ?_; rw [List.getElem?_map, List.getElem?_eq_getElem (show i < (loadI xs.length rs t).length by omega), List.getD_eq_getElem?_getD, List.getElem?_eq_getElem (show i < (loadI xs.length rs t).length by omega)]; rfl))) (xd_ix (xd_var 0 rfl) (xd_var 5 rfl) (ixT hi))) (fun h s H C cl fp => xd_var 5 rfl) rfl (fun _ => rfl)
    · unfold plD; exact (ints_pl _ (moreL_ints _ _) 1).1
    · refine xs_cons (x1_retD (xd_var 2 rfl) (q (some t) (first_at hmem hs' ht hb ?_)))
      cases hf : fitB (loadI xs.length rs t) xs with
      | false => rfl
      | true => rw [hf] at h; cases h
    · refine xs_nil (xs_nil ⟨_, _, _, _, rfl, rfl, fun j u hj hu => ?_⟩)
      by_cases hji : j < i
      · exact hb j u hji hu
      · have e : j = i := by omega
        subst e
        rw [ht] at hu; cases hu
        cases hf : fitB (loadI xs.length rs t) xs with
        | true => rfl
        | false => rw [hf] at h; cases h
  · rintro ρ mi ⟨v2, v3, v4, v5, rfl, rfl, hb⟩
    rw [List.length_map] at hb
    exact xs_cons (x1_retD xd_non (q none (first_none hmem hb)))

/-! ### law -/
theorem okD_opt (o : Option Int) : okD 8 (optD o) := by
  cases o with
  | none => exact okD_non _
  | some t => exact okD_int _ _
theorem ok_law {f : Addr} {fd : FuncData} (F : Fun K "law" "law" s_law f fd) (T : Tx K mg) (c__law_box : Cal P w K mg base 1 "_law_box" (spA K a__law_box)) (c__law_rows : Cal P w K mg base 2 "_law_rows" (spA K a__law_rows)) (c__law_room : Cal P w K mg base 2 "_law_room" (spA K a__law_room)) (c_overborne : Cal P w K mg base 3 "overborne" (spA K a_overborne)) (c__law_take : Cal P w K mg base 1 "_law_take" (spA K a__law_take)) (c__law_alike : Cal P w K mg base 9 "_law_alike" (spA K a__law_alike)) (c__law_due : Cal P w K mg base 2 "_law_due" (spA K a__law_due)) : FnOk P w K mg base CX0 10 f fd ["_law_script"] (spA K a_law) := by
  refine fn_ok F sc_law (by intro ss m Q h; unfold a_law at h; (repeat (obtain ⟨_, h⟩ := h)); subst_vars; rfl) fun cdv A outer s H E hr F0 ss m Q h => ?_
  obtain ⟨ns, rfl, hl, rfl, q⟩ := h
  refine xs_cons (x1_for (xi_range1 T.b_range (xd_max2 T.b_max xd_int (xd_min2 T.b_min (xd_len T.b_len (xd_var 0 rfl) (.fls _)) xd_int)) ?_ ?_) (fun i ρ m1 => ∃ (v1 v2 v3 v4 v5 v6 : Option D), ρ = [some (.fls (ns.map D.int)), v1, v2, v3, v4, v5, v6] ∧ m1 = m00) ⟨_, _, _, _, _, _, rfl, rfl⟩ (fun _ _ _ _ => trivial) ?_ ?_)
  · split <;> (try split) <;> omega
  · rw [List.length_map]; split <;> (try split) <;> omega
  · rintro i d ρ mi hd ⟨v1, v2, v3, v4, v5, v6, rfl, rfl⟩
    obtain ⟨hi, rfl⟩ := rng_get hd
    rw [List.length_map] at hi
    have hi : i < 64 := by split at hi <;> (try split at hi) <;> omega
    refine ⟨_, [1], xg_name 1 (by decide) sc_law.nd, ?_⟩
    refine xs_cons (x1_set (i := 2) ?_ sc_law.nd)
    refine xe_callE c__law_box hr ?_; walk_at "s*"
    refine ⟨ns, _, rfl, by omega, by omega, fun b hb c hc => ?_⟩
    -- wares
    refine xs_cons (x1_set (i := 3) (xe_ix (xe_lst ?_)) sc_law.nd)
    walk_at "s*"; walk_at "t"
    refine ⟨b, _, _, c, rfl, mset_same, hc, by omega, by omega, by omega, fun r1 c1 h1 h1' hc1 => ?_⟩
    rw [mset_mset]
    walk_at "s*"; walk_at "t"
    refine ⟨b, _, _, c1, rfl, mset_same, hc1, by omega, by omega, by omega, fun r2 c2 h2 h2' hc2 => ?_⟩
    rw [mset_mset]
    walk_at "s*"; walk_at "t"
    refine ⟨b, _, _, c2, rfl, mset_same, hc2, by omega, by omega, by omega, fun r3 c3 h3 h3' hc3 => ?_⟩
    rw [mset_mset]
    walk_at "s*"; walk_at "t"
    refine ⟨b, _, _, c3, rfl, mset_same, hc3, by omega, by omega, by omega, fun r4 c4 h4 h4' hc4 => ?_⟩
    rw [mset_mset]
    refine ⟨_, _, rfl, .lst (at_ints [1 + r1, 1 + r2, 7 + r3] h4 h4'), ?_⟩
    have hm := mem_getDi (xs := [1 + r1, 1 + r2, 7 + r3]) (i := r4.toNat) (d := 0) (by simp only [List.length_cons, List.length_nil]; omega)
    have hwb : 1 ≤ [1 + r1, 1 + r2, 7 + r3].getD r4.toNat 0 ∧ [1 + r1, 1 + r2, 7 + r3].getD r4.toNat 0 ≤ 10 := by
      simp only [List.mem_cons, List.not_mem_nil, or_false] at hm
      omega
    revert hwb
    generalize [1 + r1, 1 + r2, 7 + r3].getD r4.toNat 0 = w0
    intro hwb
    clear hm
    obtain ⟨w, rfl⟩ := Int.eq_ofNat_of_zero_le (show 0 ≤ w0 by omega)
    -- rows, room
    refine xs_cons (x1_set (i := 4) ?_ sc_law.nd)
    refine xe_callE c__law_rows hr ?_; walk_at "s*"
    refine ⟨b, w, _, c4, rfl, mset_same, hc4, by omega, by omega, by omega, fun rs c5 hrl hok hc5 => ?_⟩
    rw [mset_mset]
    refine xs_cons (x1_set (i := 5) ?_ sc_law.nd)
    refine xe_callE c__law_room hr ?_; walk_at "s*"
    refine ⟨b, rs, w, _, c5, rfl, mset_same, hc5, by omega, by omega, by omega, by omega, hok, fun xs c6 hxl hx hc6 => ?_⟩
    rw [mset_mset]
    subst hxl
    refine xs_cons (x1_setD (i := 6) (d := .lst (rs.map Rw.d)) (xd_listS T.b_list ⟨_, xd_var 4 rfl, .inl rfl⟩) ?_ sc_law.nd)
    have hpl := rows_pl rs hok
    have heq : eqD (.lst (rs.map Rw.d)) (.lst (rs.map Rw.d)) = true := (eqD_iff (by unfold noBl; exact hpl.2) (by unfold noBl; exact hpl.2)).mpr rfl
    have hp1 : plD 4 (.lst (rs.map Rw.d)) = true := by unfold plD; exact hpl.1
    refine xs_cons (x1_ifE (PT := fun k m1 => k = false ∧ m1 = mset m00 b c6) (XWE.xte (xwe_or (xte_not (xte_val ?_)))) ?_ ?_)
    · refine xe_callE c__law_alike hr (xae_cons (xe_callE c_overborne hr (xae_cons (XD.xe (xd_var 5 rfl) (xae_cons (XD.xe (xd_var 6 rfl) (xae_nil ⟨xs, rs, rfl, by omega, by omega, by omega, hok, fun o1 ho1 => ?_⟩)))))))
      refine xae_cons (xe_callE c__law_due hr (xae_cons (XD.xe (xd_var 5 rfl) (xae_cons (XD.xe (xd_var 4 rfl) (xae_nil ⟨xs, rs, rfl, by omega, by omega, by omega, hok, fun o2 ho2 => xae_nil ?_⟩))))))
      have e := first_same hx hok ho1 ho2
      subst e
      refine ⟨_, rfl, okD_opt _, true, rfl, fun _ => xwe_or1 (XT.xte (xtto (congrArg Bool.not heq) (xt_neD 4 hr (xd_var 6 rfl) (xd_var 4 rfl) hp1 hp1)) ⟨rfl, rfl⟩), fun h => nomatch h⟩
    · rintro m1 ⟨h, _⟩
      cases h
    · rintro m1 ⟨_, rfl⟩
      refine xs_nil (xs_less ((MLe.refl m00).fresh hb) (xs_nil ⟨_, _, _, _, _, _, rfl, rfl⟩))
  · rintro ρ m ⟨v1, v2, v3, v4, v5, v6, rfl, rfl⟩
    refine xs_cons (x1_retD (xd_isN (xd_call (d := .non) (m2 := m00) c_overborne hr (xa_cons (xd_tup (xa_cons xd_int xa_nil)) (xa_cons (xd_lst xa_nil (Nat.le_of_ble_eq_true rfl)) xa_nil)) ⟨[0], [], rfl, by decide, by decide, by decide, by simp, fun o ho => ?_⟩)) (q _))
    cases o with
    | none => exact ⟨rfl, rfl⟩
    | some t => obtain ⟨h, _⟩ := ho; simp at h

end
theorem all_mk {l : PySem.W.OpenLaw} {w : World} {K : PySem.W.Frag} {h : Heap} {mg : Str → Option Value} {fa f0 f1 f2 f3 f4 f5 f6 f7 f8 f9 f10 f11 f12 : Addr} (X : K.In h) (G : h.Ns mainGlobals mg) (hfa : mg "law" = some (.ref fa))
    {od0 an0 : Option Addr} {sl0 : Array (Option Value)} {oc0 kV0 dc0 pm0 cd0 ct0 : Value} (a0 : PySem.W.nsIn K mainGlobals "_law_box" = some (some (.ref f0))) (l0 : K.lookup f0 = some ⟨oc0, od0, .func (PySem.W.fnOf "_law_box" "_law_box" (defArgs s__law_box) (defBody s__law_box) (defScope s__law_box) .none kV0 dc0 pm0 an0 cd0 ct0), sl0⟩) (c0 : PySem.W.codeIn K cd0 "_law_box" = true) (k0 : PySem.W.keepIn K (.ref f0) = true)
    {od1 an1 : Option Addr} {sl1 : Array (Option Value)} {oc1 kV1 dc1 pm1 cd1 ct1 : Value} (a1 : PySem.W.nsIn K mainGlobals "_law_take" = some (some (.ref f1))) (l1 : K.lookup f1 = some ⟨oc1, od1, .func (PySem.W.fnOf "_law_take" "_law_take" (defArgs s__law_take) (defBody s__law_take) (defScope s__law_take) .none kV1 dc1 pm1 an1 cd1 ct1), sl1⟩) (c1 : PySem.W.codeIn K cd1 "_law_take" = true) (k1 : PySem.W.keepIn K (.ref f1) = true)
    {od2 an2 : Option Addr} {sl2 : Array (Option Value)} {oc2 kV2 dc2 pm2 cd2 ct2 : Value} (a2 : PySem.W.nsIn K mainGlobals "_law_rows" = some (some (.ref f2))) (l2 : K.lookup f2 = some ⟨oc2, od2, .func (PySem.W.fnOf "_law_rows" "_law_rows" (defArgs s__law_rows) (defBody s__law_rows) (defScope s__law_rows) .none kV2 dc2 pm2 an2 cd2 ct2), sl2⟩) (c2 : PySem.W.codeIn K cd2 "_law_rows" = true) (k2 : PySem.W.keepIn K (.ref f2) = true)
    {od3 an3 : Option Addr} {sl3 : Array (Option Value)} {oc3 kV3 dc3 pm3 cd3 ct3 : Value} (a3 : PySem.W.nsIn K mainGlobals "_law_load" = some (some (.ref f3))) (l3 : K.lookup f3 = some ⟨oc3, od3, .func (PySem.W.fnOf "_law_load" "_law_load" (defArgs s__law_load) (defBody s__law_load) (defScope s__law_load) .none kV3 dc3 pm3 an3 cd3 ct3), sl3⟩) (c3 : PySem.W.codeIn K cd3 "_law_load" = true) (k3 : PySem.W.keepIn K (.ref f3) = true)
    {od4 an4 : Option Addr} {sl4 : Array (Option Value)} {oc4 kV4 dc4 pm4 cd4 ct4 : Value} (a4 : PySem.W.nsIn K mainGlobals "_law_room" = some (some (.ref f4))) (l4 : K.lookup f4 = some ⟨oc4, od4, .func (PySem.W.fnOf "_law_room" "_law_room" (defArgs s__law_room) (defBody s__law_room) (defScope s__law_room) .none kV4 dc4 pm4 an4 cd4 ct4), sl4⟩) (c4 : PySem.W.codeIn K cd4 "_law_room" = true) (k4 : PySem.W.keepIn K (.ref f4) = true)
    {od5 an5 : Option Addr} {sl5 : Array (Option Value)} {oc5 kV5 dc5 pm5 cd5 ct5 : Value} (a5 : PySem.W.nsIn K mainGlobals "amount_fits" = some (some (.ref f5))) (l5 : K.lookup f5 = some ⟨oc5, od5, .func (PySem.W.fnOf "amount_fits" "amount_fits" (defArgs s_amount_fits) (defBody s_amount_fits) (defScope s_amount_fits) .none kV5 dc5 pm5 an5 cd5 ct5), sl5⟩) (c5 : PySem.W.codeIn K cd5 "amount_fits" = true) (k5 : PySem.W.keepIn K (.ref f5) = true)
    {od6 an6 : Option Addr} {sl6 : Array (Option Value)} {oc6 kV6 dc6 pm6 cd6 ct6 : Value} (a6 : PySem.W.nsIn K mainGlobals "nothing_of" = some (some (.ref f6))) (l6 : K.lookup f6 = some ⟨oc6, od6, .func (PySem.W.fnOf "nothing_of" "nothing_of" (defArgs s_nothing_of) (defBody s_nothing_of) (defScope s_nothing_of) .none kV6 dc6 pm6 an6 cd6 ct6), sl6⟩) (c6 : PySem.W.codeIn K cd6 "nothing_of" = true) (k6 : PySem.W.keepIn K (.ref f6) = true)
    {od7 an7 : Option Addr} {sl7 : Array (Option Value)} {oc7 kV7 dc7 pm7 cd7 ct7 : Value} (a7 : PySem.W.nsIn K mainGlobals "amount_sum" = some (some (.ref f7))) (l7 : K.lookup f7 = some ⟨oc7, od7, .func (PySem.W.fnOf "amount_sum" "amount_sum" (defArgs s_amount_sum) (defBody s_amount_sum) (defScope s_amount_sum) .none kV7 dc7 pm7 an7 cd7 ct7), sl7⟩) (c7 : PySem.W.codeIn K cd7 "amount_sum" = true) (k7 : PySem.W.keepIn K (.ref f7) = true)
    {od8 an8 : Option Addr} {sl8 : Array (Option Value)} {oc8 kV8 dc8 pm8 cd8 ct8 : Value} (a8 : PySem.W.nsIn K mainGlobals "load_then" = some (some (.ref f8))) (l8 : K.lookup f8 = some ⟨oc8, od8, .func (PySem.W.fnOf "load_then" "load_then" (defArgs s_load_then) (defBody s_load_then) (defScope s_load_then) .none kV8 dc8 pm8 an8 cd8 ct8), sl8⟩) (c8 : PySem.W.codeIn K cd8 "load_then" = true) (k8 : PySem.W.keepIn K (.ref f8) = true)
    {od9 an9 : Option Addr} {sl9 : Array (Option Value)} {oc9 kV9 dc9 pm9 cd9 ct9 : Value} (a9 : PySem.W.nsIn K mainGlobals "overborne" = some (some (.ref f9))) (l9 : K.lookup f9 = some ⟨oc9, od9, .func (PySem.W.fnOf "overborne" "overborne" (defArgs s_overborne) (defBody s_overborne) (defScope s_overborne) .none kV9 dc9 pm9 an9 cd9 ct9), sl9⟩) (c9 : PySem.W.codeIn K cd9 "overborne" = true) (k9 : PySem.W.keepIn K (.ref f9) = true)
    {od10 an10 : Option Addr} {sl10 : Array (Option Value)} {oc10 kV10 dc10 pm10 cd10 ct10 : Value} (a10 : PySem.W.nsIn K mainGlobals "_law_alike" = some (some (.ref f10))) (l10 : K.lookup f10 = some ⟨oc10, od10, .func (PySem.W.fnOf "_law_alike" "_law_alike" (defArgs s__law_alike) (defBody s__law_alike) (defScope s__law_alike) .none kV10 dc10 pm10 an10 cd10 ct10), sl10⟩) (c10 : PySem.W.codeIn K cd10 "_law_alike" = true) (k10 : PySem.W.keepIn K (.ref f10) = true)
    {od11 an11 : Option Addr} {sl11 : Array (Option Value)} {oc11 kV11 dc11 pm11 cd11 ct11 : Value} (a11 : PySem.W.nsIn K mainGlobals "_law_due" = some (some (.ref f11))) (l11 : K.lookup f11 = some ⟨oc11, od11, .func (PySem.W.fnOf "_law_due" "_law_due" (defArgs s__law_due) (defBody s__law_due) (defScope s__law_due) .none kV11 dc11 pm11 an11 cd11 ct11), sl11⟩) (c11 : PySem.W.codeIn K cd11 "_law_due" = true) (k11 : PySem.W.keepIn K (.ref f11) = true)
    {od12 an12 : Option Addr} {sl12 : Array (Option Value)} {oc12 kV12 dc12 pm12 cd12 ct12 : Value} (a12 : PySem.W.nsIn K mainGlobals "law" = some (some (.ref f12))) (l12 : K.lookup f12 = some ⟨oc12, od12, .func (PySem.W.fnOf "law" "law" (defArgs s_law) (defBody s_law) (defScope s_law) .none kV12 dc12 pm12 an12 cd12 ct12), sl12⟩) (c12 : PySem.W.codeIn K cd12 "law" = true) (k12 : PySem.W.keepIn K (.ref f12) = true)
    (z0 : PySem.W.nsIn K mainGlobals "abs" = some none)
    (z1 : PySem.W.nsIn K mainGlobals "all" = some none)
    (z2 : PySem.W.nsIn K mainGlobals "bool" = some none)
    (z3 : PySem.W.nsIn K mainGlobals "int" = some none)
    (z4 : PySem.W.nsIn K mainGlobals "isinstance" = some none)
    (z5 : PySem.W.nsIn K mainGlobals "len" = some none)
    (z6 : PySem.W.nsIn K mainGlobals "list" = some none)
    (z7 : PySem.W.nsIn K mainGlobals "max" = some none)
    (z8 : PySem.W.nsIn K mainGlobals "min" = some none)
    (z9 : PySem.W.nsIn K mainGlobals "range" = some none)
    (z10 : PySem.W.nsIn K mainGlobals "set" = some none)
    (z11 : PySem.W.nsIn K mainGlobals "sorted" = some none)
    (z12 : PySem.W.nsIn K mainGlobals "str" = some none)
    (z13 : PySem.W.nsIn K mainGlobals "sum" = some none)
    (z14 : PySem.W.nsIn K mainGlobals "tuple" = some none)
    (z15 : PySem.W.nsIn K mainGlobals "zip" = some none)
    : ∃ fd : FuncData, (∀ (s : Shared) (v : Value), BindsTo s fd ⟨[v], []⟩ [("_law_script", v)]) ∧ ∀ base : Heap, K.In base → base.Ns mainGlobals mg → FnOk l.prog w K mg base CX0 10 fa fd ["_law_script"] (spA K a_law) := by
  have e := hfa.symm.trans (PySem.W.mg_of X G a12)
  cases e
  have T : Tx K mg := ⟨PySem.W.mg_none_of X G z0, PySem.W.mg_none_of X G z1, PySem.W.mg_none_of X G z2, PySem.W.mg_none_of X G z3, PySem.W.mg_none_of X G z4, PySem.W.mg_none_of X G z5, PySem.W.mg_none_of X G z6, PySem.W.mg_none_of X G z7, PySem.W.mg_none_of X G z8, PySem.W.mg_none_of X G z9, PySem.W.mg_none_of X G z10, PySem.W.mg_none_of X G z11, PySem.W.mg_none_of X G z12, PySem.W.mg_none_of X G z13, PySem.W.mg_none_of X G z14, PySem.W.mg_none_of X G z15⟩
  have F0 := fun_mk (st := s__law_box) l0 c0 k0
  have b0 := F0.binds (ps := ["_law_script", "_law_k"]) fun _ _ _ _ _ _ us hl => match us, hl with | [_, _], _ => rfl
  have F1 := fun_mk (st := s__law_take) l1 c1 k1
  have b1 := F1.binds (ps := ["_law_box_here", "_law_many"]) fun _ _ _ _ _ _ us hl => match us, hl with | [_, _], _ => rfl
  have F2 := fun_mk (st := s__law_rows) l2 c2 k2
  have b2 := F2.binds (ps := ["_law_box_here", "_law_wares"]) fun _ _ _ _ _ _ us hl => match us, hl with | [_, _], _ => rfl
  have F3 := fun_mk (st := s__law_load) l3 c3 k3
  have b3 := F3.binds (ps := ["_law_rows_here", "_law_wares", "_law_time"]) fun _ _ _ _ _ _ us hl => match us, hl with | [_, _, _], _ => rfl
  have F4 := fun_mk (st := s__law_room) l4 c4 k4
  have b4 := F4.binds (ps := ["_law_box_here", "_law_rows_here", "_law_wares"]) fun _ _ _ _ _ _ us hl => match us, hl with | [_, _, _], _ => rfl
  have F5 := fun_mk (st := s_amount_fits) l5 c5 k5
  have b5 := F5.binds (ps := ["one", "other"]) fun _ _ _ _ _ _ us hl => match us, hl with | [_, _], _ => rfl
  have F6 := fun_mk (st := s_nothing_of) l6 c6 k6
  have b6 := F6.binds (ps := ["wares"]) fun _ _ _ _ _ _ us hl => match us, hl with | [_], _ => rfl
  have F7 := fun_mk (st := s_amount_sum) l7 c7 k7
  have b7 := F7.binds (ps := ["one", "other"]) fun _ _ _ _ _ _ us hl => match us, hl with | [_, _], _ => rfl
  have F8 := fun_mk (st := s_load_then) l8 c8 k8
  have b8 := F8.binds (ps := ["wares", "rows", "time"]) fun _ _ _ _ _ _ us hl => match us, hl with | [_, _, _], _ => rfl
  have F9 := fun_mk (st := s_overborne) l9 c9 k9
  have b9 := F9.binds (ps := ["room", "rows"]) fun _ _ _ _ _ _ us hl => match us, hl with | [_, _], _ => rfl
  have F10 := fun_mk (st := s__law_alike) l10 c10 k10
  have b10 := F10.binds (ps := ["_law_found", "_law_due_here"]) fun _ _ _ _ _ _ us hl => match us, hl with | [_, _], _ => rfl
  have F11 := fun_mk (st := s__law_due) l11 c11 k11
  have b11 := F11.binds (ps := ["_law_room_here", "_law_rows_here"]) fun _ _ _ _ _ _ us hl => match us, hl with | [_, _], _ => rfl
  have F12 := fun_mk (st := s_law) l12 c12 k12
  refine ⟨PySem.W.fnOf "law" "law" (defArgs s_law) (defBody s_law) (defScope s_law) .none kV12 dc12 pm12 an12 cd12 ct12, fun s v => .of_eq rfl, fun base _ _ => ?_⟩
  have C__law_box : Cal l.prog w K mg base 1 "_law_box" (spA K a__law_box) := cal_mk (ok__law_box F0 T ) (PySem.W.mg_of X G a0) F0.kp b0
  have C__law_take : Cal l.prog w K mg base 1 "_law_take" (spA K a__law_take) := cal_mk (ok__law_take F1 T ) (PySem.W.mg_of X G a1) F1.kp b1
  have C__law_rows : Cal l.prog w K mg base 2 "_law_rows" (spA K a__law_rows) := cal_mk (ok__law_rows F2 T C__law_take) (PySem.W.mg_of X G a2) F2.kp b2
  have C__law_load : Cal l.prog w K mg base 1 "_law_load" (spA K a__law_load) := cal_mk (ok__law_load F3 T ) (PySem.W.mg_of X G a3) F3.kp b3
  have C__law_room : Cal l.prog w K mg base 2 "_law_room" (spA K a__law_room) := cal_mk (ok__law_room F4 T C__law_take C__law_load) (PySem.W.mg_of X G a4) F4.kp b4
  have C_amount_fits : Cal l.prog w K mg base 1 "amount_fits" (spA K a_amount_fits) := cal_mk (ok_amount_fits F5 T ) (PySem.W.mg_of X G a5) F5.kp b5
  have C_nothing_of : Cal l.prog w K mg base 1 "nothing_of" (spA K a_nothing_of) := cal_mk (ok_nothing_of F6 T ) (PySem.W.mg_of X G a6) F6.kp b6
  have C_amount_sum : Cal l.prog w K mg base 1 "amount_sum" (spA K a_amount_sum) := cal_mk (ok_amount_sum F7 T ) (PySem.W.mg_of X G a7) F7.kp b7
  have C_load_then : Cal l.prog w K mg base 2 "load_then" (spA K a_load_then) := cal_mk (ok_load_then F8 T C_nothing_of C_amount_sum) (PySem.W.mg_of X G a8) F8.kp b8
  have C_overborne : Cal l.prog w K mg base 3 "overborne" (spA K a_overborne) := cal_mk (ok_overborne F9 T C_amount_fits C_load_then) (PySem.W.mg_of X G a9) F9.kp b9
  have C__law_alike : Cal l.prog w K mg base 9 "_law_alike" (spA K a__law_alike) := cal__law_alike F10 T (PySem.W.mg_of X G a10) F10.kp b10 
  have C__law_due : Cal l.prog w K mg base 2 "_law_due" (spA K a__law_due) := cal_mk (ok__law_due F11 T C__law_load) (PySem.W.mg_of X G a11) F11.kp b11
  exact ok_law F12 T C__law_box C__law_rows C__law_room C_overborne C__law_take C__law_alike C__law_due
end My
open PySem PySem.W
open PyProof.Rows hiding St
set_option maxRecDepth 100000 in
set_option maxHeartbeats 0 in
theorem PySem.Challenge.cw_clusterhall_k69_overborne_holds : PySem.Challenge.rw_clusterhall_k69_overborne.Holds := by
  w_on; o_law; k_head; (case hw => w_witness2)
  k_fill
  refine L2.walk_ofK (l := PySem.Challenge.rw_clusterhall_k69_overborne) (n := 63) (k := 10) (x := "_law_script") (CX := L2.CX0) (sp := fun K => Mu.spA K Mu.a_law) rfl (by decide) rfl ⟨rfl, by decide, by decide⟩ (fun w h Y => PySem.W.kIn_of Y) ?F (fun _ _ a ns hl _ hS => Mu.law_in a ns hl hS) (fun _ _ _ _ h => h)
  case F =>
    intro w mg fa h KX G hmg
    refine' My.all_mk KX G hmg ?a0 ?l0 ?c0 ?k0 ?a1 ?l1 ?c1 ?k1 ?a2 ?l2 ?c2 ?k2 ?a3 ?l3 ?c3 ?k3 ?a4 ?l4 ?c4 ?k4 ?a5 ?l5 ?c5 ?k5 ?a6 ?l6 ?c6 ?k6 ?a7 ?l7 ?c7 ?k7 ?a8 ?l8 ?c8 ?k8 ?a9 ?l9 ?c9 ?k9 ?a10 ?l10 ?c10 ?k10 ?a11 ?l11 ?c11 ?k11 ?a12 ?l12 ?c12 ?k12 ?z0 ?z1 ?z2 ?z3 ?z4 ?z5 ?z6 ?z7 ?z8 ?z9 ?z10 ?z11 ?z12 ?z13 ?z14 ?z15
    (case a0 => k_is); (case l0 => k_is); (case c0 => k_is); (case k0 => k_is); (case a1 => k_is); (case l1 => k_is); (case c1 => k_is); (case k1 => k_is); (case a2 => k_is); (case l2 => k_is); (case c2 => k_is); (case k2 => k_is); (case a3 => k_is); (case l3 => k_is); (case c3 => k_is); (case k3 => k_is); (case a4 => k_is); (case l4 => k_is); (case c4 => k_is); (case k4 => k_is); (case a5 => k_is); (case l5 => k_is); (case c5 => k_is); (case k5 => k_is); (case a6 => k_is); (case l6 => k_is); (case c6 => k_is); (case k6 => k_is); (case a7 => k_is); (case l7 => k_is); (case c7 => k_is); (case k7 => k_is); (case a8 => k_is); (case l8 => k_is); (case c8 => k_is); (case k8 => k_is); (case a9 => k_is); (case l9 => k_is); (case c9 => k_is); (case k9 => k_is); (case a10 => k_is); (case l10 => k_is); (case c10 => k_is); (case k10 => k_is); (case a11 => k_is); (case l11 => k_is); (case c11 => k_is); (case k11 => k_is); (case a12 => k_is); (case l12 => k_is); (case c12 => k_is); (case k12 => k_is); (case z0 => k_is); (case z1 => k_is); (case z2 => k_is); (case z3 => k_is); (case z4 => k_is); (case z5 => k_is); (case z6 => k_is); (case z7 => k_is); (case z8 => k_is); (case z9 => k_is); (case z10 => k_is); (case z11 => k_is); (case z12 => k_is); (case z13 => k_is); (case z14 => k_is); (case z15 => k_is)
#print axioms PySem.Challenge.cw_clusterhall_k69_overborne_holds
