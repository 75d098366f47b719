import PyProof.Rows.All
import Wide.All
import OpenK.AllK
import Wide.FinOn
import HandS.ForMost
import HandS.Exc
import HandS.TryOnly
import HandS.ExcOwn
import HandS.WordsExc
import HandS.Small
import HandS.Style
import HandS.TupAny
import HandS.Wide
import HandS.Ends
import HandS.Deep
import KE.GoesMore
import KE.GoesZip
import KE.KDictZip
import KE.KDictItemsList
import KE.KDictKeyed
import PySem.Challenge.RW_worthsbetween_k00_whole_forms_part_by_pa
set_option Elab.async false
set_option linter.all false
set_option maxRecDepth 100000
set_option maxHeartbeats 1000000
/-! DDa: data without a heap, and how a value of the layer stands for it. -/
namespace DD
open PySem PySem.Spec PyProof.Rows L2

/-! ### data -/
inductive Dt where
  | non
  | bl (b : Bool)
  | int (i : Int)
  | str (x : Str)
  | tup (xs : List Dt)
  | lst (xs : List Dt)
  | dic (kvs : List (Key × Dt))
  | src
  | scr (ns : List Int)

/-- where the source's dict and its list of cells stand -/
abbrev Sa := Option (Addr × Addr)
structure Src where
  cells : List Int
  left : Int
  mixed : Int
  turn : Int
abbrev Sv := Option Src
def fp (A : Sa) (a : Addr) : Prop := ∃ x, A = some x ∧ (a = x.1 ∨ a = x.2)
def srcDict (c : Addr) (s : Src) : List (Key × V) :=
  [(Sum.inr "cells", .ref c), (Sum.inr "left", .int s.left), (Sum.inr "mixed", .int s.mixed), (Sum.inr "turn", .int s.turn)]
def SrcOk (A : Sa) (H : Hp) (s : Sv) : Prop :=
  (A = none ∧ s = none) ∨ ∃ d c v, A = some (d, c) ∧ s = some v ∧ H d = some (.dK (srcDict c v)) ∧ H c = some (.lst (v.cells.map V.int))

mutual
inductive At (K : PySem.W.Frag) (A : Sa) (F : Hp) : V → Dt → Prop
  | non : At K A F .non .non
  | bl (b : Bool) : At K A F (.bl b) (.bl b)
  | int (i : Int) : At K A F (.int i) (.int i)
  | str (x : Str) : At K A F (.str x) (.str x)
  | tup {a : Addr} {xs : List V} {ds : List Dt} : SqT K F a xs → AtL K A F xs ds → At K A F (.ref a) (.tup ds)
  | lst {a : Addr} {xs : List V} {ds : List Dt} : F a = some (.lst xs) → AtL K A F xs ds → At K A F (.ref a) (.lst ds)
  | dic {a : Addr} {kvs : List (Key × V)} {ds : List (Key × Dt)} : F a = some (.dK kvs) → AtK K A F kvs ds → At K A F (.ref a) (.dic ds)
  | src {x : Addr × Addr} : A = some x → At K A F (.ref x.1) .src
  | scr {a : Addr} {ns : List Int} : SqL K F a (ns.map V.int) → At K A F (.ref a) (.scr ns)
inductive AtL (K : PySem.W.Frag) (A : Sa) (F : Hp) : List V → List Dt → Prop
  | nil : AtL K A F [] []
  | cons {v : V} {vs : List V} {d : Dt} {ds : List Dt} : At K A F v d → AtL K A F vs ds → AtL K A F (v :: vs) (d :: ds)
inductive AtK (K : PySem.W.Frag) (A : Sa) (F : Hp) : List (Key × V) → List (Key × Dt) → Prop
  | nil : AtK K A F [] []
  | cons {k : Key} {v : V} {vs : List (Key × V)} {d : Dt} {ds : List (Key × Dt)} : At K A F v d → AtK K A F vs ds → AtK K A F ((k, v) :: vs) ((k, d) :: ds)
end

section
variable {K : PySem.W.Frag} {A : Sa} {F F' H H' : Hp}
theorem same_rd {a : Addr} {u : HO} (e : Same F F') (h : Rd F a u) : Rd F' a u := by
  rcases h with h | ⟨o, h⟩
  · exact Or.inl (e a _ h)
  · exact Or.inr ⟨o, e a _ h⟩
theorem same_t {a : Addr} {xs : List V} (e : Same F F') (h : SqT K F a xs) : SqT K F' a xs := by
  rcases h with h | h
  · exact Or.inl (same_rd e h)
  · exact Or.inr h
theorem same_l {a : Addr} {xs : List V} (e : Same F F') (h : SqL K F a xs) : SqL K F' a xs := by
  rcases h with h | h
  · exact Or.inl (same_rd e h)
  · exact Or.inr h
mutual
theorem At.up (e : Same F F') : ∀ (d : Dt) (v : V), At K A F v d → At K A F' v d
  | .non, _, h => by cases h; exact .non
  | .bl b, _, h => by cases h; exact .bl b
  | .int i, _, h => by cases h; exact .int i
  | .str x, _, h => by cases h; exact .str x
  | .tup ds, _, h => by
    cases h with
    | tup h1 h2 => exact .tup (same_t e h1) (AtL.up e _ _ h2)
  | .lst ds, _, h => by
    cases h with
    | lst h1 h2 => exact .lst (e _ _ h1) (AtL.up e _ _ h2)
  | .dic ds, _, h => by
    cases h with
    | dic h1 h2 => exact .dic (e _ _ h1) (AtK.up e _ _ h2)
  | .src, _, h => by
    cases h with
    | src h => exact .src h
  | .scr ns, _, h => by
    cases h with
    | scr h => exact .scr (same_l e h)
theorem AtL.up (e : Same F F') : ∀ (ds : List Dt) (vs : List V), AtL K A F vs ds → AtL K A F' vs ds
  | [], _, h => by cases h; exact .nil
  | _ :: _, _, h => by
    cases h with
    | cons h1 h2 => exact .cons (At.up e _ _ h1) (AtL.up e _ _ h2)
theorem AtK.up (e : Same F F') : ∀ (ds : List (Key × Dt)) (vs : List (Key × V)), AtK K A F vs ds → AtK K A F' vs ds
  | [], _, h => by cases h; exact .nil
  | (_, _) :: _, _, h => by
    cases h with
    | cons h1 h2 => exact .cons (At.up e _ _ h1) (AtK.up e _ _ h2)
end
theorem AtL.length {vs : List V} {ds : List Dt} (h : AtL K A F vs ds) : vs.length = ds.length := by
  induction ds generalizing vs with
  | nil => cases h; rfl
  | cons d ds ih =>
    cases h with
    | cons _ h => rw [List.length_cons, List.length_cons, ih h]
theorem AtL.get {i : Nat} {d : Dt} : ∀ {vs : List V} {ds : List Dt}, AtL K A F vs ds → ds[i]? = some d → ∃ v, vs[i]? = some v ∧ At K A F v d := by
  induction i with
  | zero =>
    intro vs ds h e
    cases h with
    | nil => simp at e
    | cons h1 _ =>
      simp only [List.getElem?_cons_zero, Option.some.injEq] at e
      subst e
      exact ⟨_, rfl, h1⟩
  | succ i ih =>
    intro vs ds h e
    cases h with
    | nil => simp at e
    | cons _ h2 =>
      simp only [List.getElem?_cons_succ] at e
      obtain ⟨v, q1, q2⟩ := ih h2 e
      exact ⟨v, by simpa using q1, q2⟩
theorem AtL.get' {i : Nat} {v : V} : ∀ {vs : List V} {ds : List Dt}, AtL K A F vs ds → vs[i]? = some v → ∃ d, ds[i]? = some d ∧ At K A F v d := by
  induction i with
  | zero =>
    intro vs ds h e
    cases h with
    | nil => simp at e
    | cons h1 _ =>
      simp only [List.getElem?_cons_zero, Option.some.injEq] at e
      subst e
      exact ⟨_, rfl, h1⟩
  | succ i ih =>
    intro vs ds h e
    cases h with
    | nil => simp at e
    | cons _ h2 =>
      simp only [List.getElem?_cons_succ] at e
      obtain ⟨v, q1, q2⟩ := ih h2 e
      exact ⟨v, by simpa using q1, q2⟩
theorem AtL.append {vs ws : List V} {ds es : List Dt} (h : AtL K A F vs ds) (g : AtL K A F ws es) : AtL K A F (vs ++ ws) (ds ++ es) := by
  induction ds generalizing vs with
  | nil => cases h; exact g
  | cons d ds ih =>
    cases h with
    | cons h1 h2 => exact .cons h1 (ih h2)
theorem AtL.take : ∀ {vs : List V} {ds : List Dt} (n : Nat), AtL K A F vs ds → AtL K A F (vs.take n) (ds.take n)
  | _, _, 0, _ => .nil
  | _, _, _ + 1, .nil => .nil
  | _, _, n + 1, .cons h t => .cons h (AtL.take n t)
theorem AtL.drop : ∀ {vs : List V} {ds : List Dt} (n : Nat), AtL K A F vs ds → AtL K A F (vs.drop n) (ds.drop n)
  | _, _, 0, h => h
  | _, _, _ + 1, .nil => .nil
  | _, _, n + 1, .cons _ t => AtL.drop n t
theorem AtL.reverse {vs : List V} {ds : List Dt} (h : AtL K A F vs ds) : AtL K A F vs.reverse ds.reverse := by
  induction ds generalizing vs with
  | nil => cases h; exact .nil
  | cons d ds ih =>
    cases h with
    | cons h1 h2 =>
      rw [List.reverse_cons, List.reverse_cons]
      exact (ih h2).append (.cons h1 .nil)
theorem AtL.set {v : V} {d : Dt} (h : At K A F v d) : ∀ {vs : List V} {ds : List Dt} (i : Nat), AtL K A F vs ds → AtL K A F (vs.set i v) (ds.set i d)
  | _, _, _, .nil => .nil
  | _, _, 0, .cons _ t => .cons h t
  | _, _, i + 1, .cons g t => .cons g (AtL.set h i t)
theorem AtL.dropLast {vs : List V} {ds : List Dt} (h : AtL K A F vs ds) : AtL K A F vs.dropLast ds.dropLast := by
  rw [List.dropLast_eq_take, List.dropLast_eq_take, h.length]
  exact h.take _
theorem AtL.of_eq {vs : List V} {ds es : List Dt} (h : AtL K A F vs ds) (e : ds = es) : AtL K A F vs es := e ▸ h
theorem AtL.ints : ∀ ns : List Int, AtL K A F (ns.map V.int) (ns.map Dt.int)
  | [] => .nil
  | n :: r => .cons (.int n) (AtL.ints r)
theorem AtK.length {vs : List (Key × V)} {ds : List (Key × Dt)} (h : AtK K A F vs ds) : vs.length = ds.length := by
  induction ds generalizing vs with
  | nil => cases h; rfl
  | cons d ds ih =>
    cases h with
    | cons _ h => rw [List.length_cons, List.length_cons, ih h]
end

/-! ### the world's steps -/
/-- F: what stays for ever; H: what stands now -/
structure Gd (A : Sa) (F H : Hp) (s : Sv) : Prop where
  sub : Same F H
  nof : ∀ a, fp A a → F a = none
  so : SrcOk A H s
/-- a step that leaves all that was known -/
structure Stq (A : Sa) (F H F2 H2 : Hp) : Prop where
  ext : Same F F2
  sub : Same F2 H2
  keep : Same H H2
  new : ∀ a o, F2 a = some o → F a = none → H a = none
  nof : ∀ a, fp A a → F2 a = none
/-- a step that may turn the source -/
structure Stp (A : Sa) (F H F2 H2 : Hp) : Prop where
  ext : Same F F2
  sub : Same F2 H2
  keep : ∀ a o, H a = some o → ¬ fp A a → H2 a = some o
  new : ∀ a o, F2 a = some o → F a = none → H a = none
  nof : ∀ a, fp A a → F2 a = none
section
variable {K : PySem.W.Frag} {A : Sa} {F H F1 H1 F2 H2 : Hp} {s s1 s2 : Sv}
theorem SrcOk.there (h : SrcOk A H s) {a : Addr} (f : fp A a) : ∃ o, H a = some o := by
  obtain ⟨x, hx, hf⟩ := f
  rcases h with ⟨h, _⟩ | ⟨d, c, v, h, _, h1, h2⟩
  · rw [h] at hx; cases hx
  · rw [h] at hx; cases hx
    rcases hf with rfl | rfl
    · exact ⟨_, h1⟩
    · exact ⟨_, h2⟩
theorem SrcOk.keep (h : SrcOk A H s) (k : Same H H2) : SrcOk A H2 s := by
  rcases h with h | ⟨d, c, v, h, h0, h1, h2⟩
  · exact .inl h
  · exact .inr ⟨d, c, v, h, h0, k _ _ h1, k _ _ h2⟩
theorem Stq.refl (g : Gd A F H s) : Stq A F H F H := ⟨Same.refl _, g.sub, Same.refl _, fun a o h n => (by rw [n] at h; cases h), g.nof⟩
theorem Stp.refl (g : Gd A F H s) : Stp A F H F H := ⟨Same.refl _, g.sub, fun _ _ h _ => h, fun a o h n => (by rw [n] at h; cases h), g.nof⟩
theorem Stq.p (h : Stq A F H F2 H2) : Stp A F H F2 H2 := ⟨h.ext, h.sub, fun a o e _ => h.keep a o e, h.new, h.nof⟩
theorem Stq.gd (h : Stq A F H F2 H2) (g : Gd A F H s) : Gd A F2 H2 s := ⟨h.sub, h.nof, g.so.keep h.keep⟩
theorem Stp.gd (h : Stp A F H F2 H2) (so : SrcOk A H2 s) : Gd A F2 H2 s := ⟨h.sub, h.nof, so⟩
theorem Stq.trans (a : Stq A F H F1 H1) (b : Stq A F1 H1 F2 H2) : Stq A F H F2 H2 where
  ext := a.ext.trans b.ext
  sub := b.sub
  keep := a.keep.trans b.keep
  new := fun x o h n => by
    cases q : F1 x with
    | some u => exact a.new x u q n
    | none =>
      have z := b.new x o h q
      exact a.keep.free z
  nof := b.nof
theorem Stp.trans (a : Stp A F H F1 H1) (b : Stp A F1 H1 F2 H2) : Stp A F H F2 H2 where
  ext := a.ext.trans b.ext
  sub := b.sub
  keep := fun x o h n => b.keep x o (a.keep x o h n) n
  new := fun x o h n => by
    cases q : F1 x with
    | some u => exact a.new x u q n
    | none =>
      have z := b.new x o h q
      cases e : H x with
      | none => rfl
      | some u =>
        by_cases f : fp A x
        · rw [b.nof x f] at h; cases h
        · rw [a.keep x u e f] at z; cases z
  nof := b.nof
theorem same_new {p : Addr} {o : HO} (h : H p = none) : Same H (upd H p o) := fun a u e => by
  rw [upd_ne (ne_of_none e h)]
  exact e
/-- a new object that never changes -/
theorem Stq.alloc (g : Gd A F H s) {p : Addr} {o : HO} (h : H p = none) : Stq A F H (upd F p o) (upd H p o) where
  ext := same_new (g.sub.free h)
  sub := fun a u e => by
    by_cases q : a = p
    · subst q; rw [upd_same] at e ⊢; exact e
    · rw [upd_ne q] at e ⊢; exact g.sub a u e
  keep := same_new h
  new := fun a u e n => by
    by_cases q : a = p
    · subst q; exact h
    · rw [upd_ne q, n] at e; cases e
  nof := fun a f => by
    have q : a ≠ p := fun z => by
      obtain ⟨o, ho⟩ := g.so.there f
      rw [z, h] at ho; cases ho
    rw [upd_ne q]; exact g.nof a f
/-- a new object of our own, that may change -/
theorem Stq.loose (g : Gd A F H s) {p : Addr} {o : HO} (h : H p = none) : Stq A F H F (upd H p o) where
  ext := Same.refl _
  sub := fun a u e => same_new h a u (g.sub a u e)
  keep := same_new h
  new := fun a u e n => by rw [n] at e; cases e
  nof := g.nof
end

/-- as At, or a list of our own that may still change -/
def AtO (K : PySem.W.Frag) (A : Sa) (F H : Hp) (v : V) (d : Dt) : Prop :=
  At K A F v d ∨ ∃ p vs ds, v = .ref p ∧ d = .lst ds ∧ H p = some (.lst vs) ∧ F p = none ∧ ¬ fp A p ∧ AtL K A F vs ds
theorem AtO.step {K : PySem.W.Frag} {A : Sa} {F H F2 H2 : Hp} {v : V} {d : Dt} (h : AtO K A F H v d) (s : Stp A F H F2 H2) : AtO K A F2 H2 v d := by
  rcases h with h | ⟨p, vs, ds, rfl, rfl, h1, h2, h3, h4⟩
  · exact .inl (At.up s.ext _ _ h)
  · refine .inr ⟨p, vs, ds, rfl, rfl, s.keep p _ h1 h3, ?_, h3, AtL.up s.ext _ _ h4⟩
    cases e : F2 p with
    | none => rfl
    | some o =>
      have z := s.new p o e h2
      rw [h1] at z; cases z

/-! ### slots -/
inductive Sl where
  | un
  | val (d : Dt)
  | own (xs : List Dt)
/-- H0: the heap at the def's entry -/
def SlOk (K : PySem.W.Frag) (A : Sa) (H0 F H : Hp) (o : Option V) : Sl → Prop
  | .un => True
  | .val d => ∃ v, o = some v ∧ At K A F v d
  | .own ds => ∃ p vs, o = some (.ref p) ∧ H p = some (.lst vs) ∧ F p = none ∧ H0 p = none ∧ ¬ fp A p ∧ AtL K A F vs ds
theorem SlOk.step {K : PySem.W.Frag} {A : Sa} {H0 F H F2 H2 : Hp} {o : Option V} {x : Sl} (h : SlOk K A H0 F H o x) (s : Stp A F H F2 H2) : SlOk K A H0 F2 H2 o x := by
  cases x with
  | un => trivial
  | val d =>
    obtain ⟨v, e, a⟩ := h
    exact ⟨v, e, At.up s.ext _ _ a⟩
  | own ds =>
    obtain ⟨p, vs, e, h1, h2, h0, h3, h4⟩ := h
    have q := AtO.step (K := K) (A := A) (F := F) (H := H) (v := .ref p) (d := .lst ds) (.inr ⟨p, vs, ds, rfl, rfl, h1, h2, h3, h4⟩) s
    refine ⟨p, vs, e, s.keep p _ h1 h3, ?_, h0, h3, AtL.up s.ext _ _ h4⟩
    cases e : F2 p with
    | none => rfl
    | some o =>
      have z := s.new p o e h2
      rw [h1] at z; cases z
/-- the state of a frame -/
structure Ok (K : PySem.W.Frag) (A : Sa) (F0 H0 F H : Hp) (s : Sv) (σ : L2.St) (ρ : List Sl) : Prop where
  st : Stp A F0 H0 F H
  so : SrcOk A H s
  len : ρ.length = σ.length
  sl : ∀ (i : Nat) (x : Sl) (o : Option V), ρ[i]? = some x → σ[i]? = some o → SlOk K A H0 F H o x
  ap : ∀ (i j : Nat) (xs ys : List Dt) (p : Addr), i ≠ j → ρ[i]? = some (.own xs) → ρ[j]? = some (.own ys) → σ[i]? = some (some (.ref p)) → σ[j]? = some (some (.ref p)) → False
section
variable {K : PySem.W.Frag} {A : Sa} {F0 H0 F H F2 H2 : Hp} {s s2 : Sv} {σ : L2.St} {ρ : List Sl}
theorem Ok.gd (h : Ok K A F0 H0 F H s σ ρ) : Gd A F H s := ⟨h.st.sub, h.st.nof, h.so⟩
theorem Ok.step (h : Ok K A F0 H0 F H s σ ρ) (st : Stp A F H F2 H2) (so : SrcOk A H2 s2) : Ok K A F0 H0 F2 H2 s2 σ ρ :=
  ⟨h.st.trans st, so, h.len, fun i x o a b => (h.sl i x o a b).step st, h.ap⟩
theorem Ok.val (h : Ok K A F0 H0 F H s σ ρ) {i : Nat} {d : Dt} (e : ρ[i]? = some (.val d)) : ∃ v, σ[i]? = some (some v) ∧ At K A F v d := by
  have hi : i < σ.length := by rw [← h.len]; exact (List.getElem?_eq_some_iff.mp e).1
  obtain ⟨v, q, a⟩ := h.sl i _ σ[i] e (List.getElem?_eq_getElem hi)
  exact ⟨v, by rw [List.getElem?_eq_getElem hi, q], a⟩
theorem Ok.own (h : Ok K A F0 H0 F H s σ ρ) {i : Nat} {ds : List Dt} (e : ρ[i]? = some (.own ds)) :
    ∃ p vs, σ[i]? = some (some (.ref p)) ∧ H p = some (.lst vs) ∧ F p = none ∧ H0 p = none ∧ ¬ fp A p ∧ AtL K A F vs ds := by
  have hi : i < σ.length := by rw [← h.len]; exact (List.getElem?_eq_some_iff.mp e).1
  obtain ⟨p, vs, q, r⟩ := h.sl i _ σ[i] e (List.getElem?_eq_getElem hi)
  exact ⟨p, vs, by rw [List.getElem?_eq_getElem hi, q], r⟩
/-- a value is stored -/
theorem Ok.setVal (h : Ok K A F0 H0 F H s σ ρ) {i : Nat} {v : V} {d : Dt} (a : At K A F v d) : Ok K A F0 H0 F H s (σ.set i (some v)) (ρ.set i (.val d)) where
  st := h.st
  so := h.so
  len := by rw [List.length_set, List.length_set]; exact h.len
  sl := fun j x o e1 e2 => by
    by_cases q : i = j
    · subst q
      have hi : i < ρ.length := by
        have := (List.getElem?_eq_some_iff.mp e1).1
        rwa [List.length_set] at this
      rw [List.getElem?_set_self hi] at e1
      rw [List.getElem?_set_self (by rw [← h.len]; exact hi)] at e2
      cases e1
      cases e2
      exact ⟨v, rfl, a⟩
    · rw [List.getElem?_set_ne q] at e1 e2
      exact h.sl j x o e1 e2
  ap := fun j k xs ys p n e1 e2 e3 e4 => by
    by_cases q : i = j
    · subst q
      have hi : i < ρ.length := by
        have := (List.getElem?_eq_some_iff.mp e1).1
        rwa [List.length_set] at this
      rw [List.getElem?_set_self hi] at e1
      cases e1
    · by_cases r : i = k
      · subst r
        have hi : i < ρ.length := by
          have := (List.getElem?_eq_some_iff.mp e2).1
          rwa [List.length_set] at this
        rw [List.getElem?_set_self hi] at e2
        cases e2
      · rw [List.getElem?_set_ne q] at e1 e3
        rw [List.getElem?_set_ne r] at e2 e4
        exact h.ap j k xs ys p n e1 e2 e3 e4
/-- a new list of our own is stored -/
theorem Ok.setOwn (h : Ok K A F0 H0 F H s σ ρ) {i : Nat} {p : Addr} {vs : List V} {ds : List Dt} (h1 : H p = some (.lst vs)) (h2 : F p = none) (h0 : H0 p = none) (h3 : ¬ fp A p) (h4 : AtL K A F vs ds)
    (nw : ∀ (j : Nat) (xs : List Dt), j ≠ i → ρ[j]? = some (.own xs) → σ[j]? ≠ some (some (.ref p))) : Ok K A F0 H0 F H s (σ.set i (some (.ref p))) (ρ.set i (.own ds)) where
  st := h.st
  so := h.so
  len := by rw [List.length_set, List.length_set]; exact h.len
  sl := fun j x o e1 e2 => by
    by_cases q : i = j
    · subst q
      have hi : i < ρ.length := by
        have := (List.getElem?_eq_some_iff.mp e1).1
        rwa [List.length_set] at this
      rw [List.getElem?_set_self hi] at e1
      rw [List.getElem?_set_self (by rw [← h.len]; exact hi)] at e2
      cases e1
      cases e2
      exact ⟨p, vs, rfl, h1, h2, h0, h3, h4⟩
    · rw [List.getElem?_set_ne q] at e1 e2
      exact h.sl j x o e1 e2
  ap := fun j k xs ys q n e1 e2 e3 e4 => by
    have hl : ρ.length = σ.length := h.len
    by_cases q1 : i = j
    · subst q1
      have hi : i < σ.length := by
        have := (List.getElem?_eq_some_iff.mp e3).1
        rwa [List.length_set] at this
      rw [List.getElem?_set_self hi] at e3
      have e3' : p = q := by injection e3 with e3; injection e3 with e3; injection e3
      subst e3'
      rw [List.getElem?_set_ne n] at e2 e4
      exact nw k ys (Ne.symm n) e2 e4
    · by_cases q2 : i = k
      · subst q2
        have hi : i < σ.length := by
          have := (List.getElem?_eq_some_iff.mp e4).1
          rwa [List.length_set] at this
        rw [List.getElem?_set_self hi] at e4
        have e4' : p = q := by injection e4 with e4; injection e4 with e4; injection e4
        subst e4'
        rw [List.getElem?_set_ne q1] at e1 e3
        exact nw j xs n e1 e3
      · rw [List.getElem?_set_ne q1] at e1 e3
        rw [List.getElem?_set_ne q2] at e2 e4
        exact h.ap j k xs ys q n e1 e2 e3 e4
end
end DD
set_option Elab.async false
set_option linter.all false
set_option maxRecDepth 100000
set_option maxHeartbeats 1000000
/-! DDb: expressions as plain functions of the slots' data and the source. -/
namespace DD
open PySem PySem.Spec PyProof.Rows L2

inductive Rs (α : Type) where
  | ok (a : α) (s : Sv)
  | ex (x : Str) (s : Sv)
  | no
def Rs.bind {α β : Type} (r : Rs α) (k : α → Sv → Rs β) : Rs β :=
  match r with
  | .ok a s => k a s
  | .ex x s => .ex x s
  | .no => .no
@[simp] theorem Rs.bind_ok {α β : Type} (a : α) (s : Sv) (k : α → Sv → Rs β) : (Rs.ok a s).bind k = k a s := rfl
@[simp] theorem Rs.bind_ex {α β : Type} (x : Str) (s : Sv) (k : α → Sv → Rs β) : (Rs.ex x s : Rs α).bind k = .ex x s := rfl
@[simp] theorem Rs.bind_no {α β : Type} (k : α → Sv → Rs β) : (Rs.no : Rs α).bind k = .no := rfl
/-- a partial result -/
def ofO {α : Type} (o : Option α) (s : Sv) : Rs α :=
  match o with
  | some a => .ok a s
  | none => .no
@[simp] theorem ofO_some {α : Type} (a : α) (s : Sv) : ofO (some a) s = .ok a s := rfl
@[simp] theorem ofO_none {α : Type} (s : Sv) : ofO (none : Option α) s = .no := rfl
abbrev Sm (α : Type) := List Sl → Sv → Rs α

/-- what is told of an outcome -/
def Out {α β : Type} (mg : Str → Option Value) (W : WX) (A : Sa) (F H : Hp) (σ : L2.St) (R : α → β → Hp → Hp → Prop) (Q : β → Hp → Prop) (r : Rs α) : Prop :=
  match r with
  | .ok a s2 => ∀ v F2 H2, Stp A F H F2 H2 → SrcOk A H2 s2 → R a v F2 H2 → Q v H2
  | .ex x s2 => ∀ F2 H2 c, mg x = some c → Stp A F H F2 H2 → SrcOk A H2 s2 → W c none σ H2
  | .no => False
section
variable {α β γ δ : Type} {mg : Str → Option Value} {W : WX} {A : Sa} {F H F1 H1 : Hp} {σ : L2.St} {s1 : Sv}
theorem Out.shift {R R1 : α → β → Hp → Hp → Prop} {Q : β → Hp → Prop} {r : Rs α} (h : Out mg W A F H σ R Q r) (st : Stp A F H F1 H1) (hR : ∀ a v F2 H2, R1 a v F2 H2 → R a v F2 H2) : Out mg W A F1 H1 σ R1 Q r := by
  cases r with
  | ok a s2 => exact fun v F2 H2 st2 so r => h v F2 H2 (st.trans st2) so (hR _ _ _ _ r)
  | ex x s2 => exact fun F2 H2 c e st2 so => h F2 H2 c e (st.trans st2) so
  | no => exact h
theorem Out.bind {R : α → β → Hp → Hp → Prop} {Q1 : β → Hp → Prop} {R2 : γ → δ → Hp → Hp → Prop} {Q2 : δ → Hp → Prop} {r : Rs α} {k : α → Sv → Rs γ} (h : Out mg W A F H σ R2 Q2 (r.bind k))
    (n : ∀ a s2 v F2 H2, Stp A F H F2 H2 → SrcOk A H2 s2 → R a v F2 H2 → Out mg W A F H σ R2 Q2 (k a s2) → Q1 v H2) : Out mg W A F H σ R Q1 r := by
  cases r with
  | ok a s2 => exact fun v F2 H2 st so r => n a s2 v F2 H2 st so r h
  | ex x s2 => exact h
  | no => exact h
theorem Out.ok {R : α → β → Hp → Hp → Prop} {Q : β → Hp → Prop} {a : α} {s2 : Sv} (h : Out mg W A F H σ R Q (.ok a s2)) {v : β} {F2 H2 : Hp} (st : Stp A F H F2 H2) (so : SrcOk A H2 s2) (r : R a v F2 H2) : Q v H2 := h v F2 H2 st so r
theorem Out.o {R : α → β → Hp → Hp → Prop} {Q : β → Hp → Prop} {o : Option α} {s2 : Sv} (h : Out mg W A F H σ R Q (ofO o s2)) : ∃ a, o = some a ∧ Out mg W A F H σ R Q (.ok a s2) := by
  cases o with
  | none => exact h.elim
  | some a => exact ⟨a, rfl, h⟩
end

/-! ### the readings -/
inductive AtOL (K : PySem.W.Frag) (A : Sa) (F H : Hp) : List V → List Dt → Prop
  | nil : AtOL K A F H [] []
  | cons {v : V} {vs : List V} {d : Dt} {ds : List Dt} : AtO K A F H v d → AtOL K A F H vs ds → AtOL K A F H (v :: vs) (d :: ds)
theorem AtOL.step {K : PySem.W.Frag} {A : Sa} {F H F2 H2 : Hp} (s : Stp A F H F2 H2) : ∀ {vs : List V} {ds : List Dt}, AtOL K A F H vs ds → AtOL K A F2 H2 vs ds
  | _, _, .nil => .nil
  | _, _, .cons h t => .cons (h.step s) (AtOL.step s t)
/-- a frame's state at σ, H -/
def In {α β : Type} (K : PySem.W.Frag) (mg : Str → Option Value) (W : WX) (R : Sa → Hp → α → β → Hp → Hp → Prop) (f : Sm α) (σ : L2.St) (H : Hp) (Q : β → Hp → Prop) : Prop :=
  ∃ A F0 H0 F s ρ, Ok K A F0 H0 F H s σ ρ ∧ Out mg W A F H σ (R A H) Q (f ρ s)
abbrev rD (K : PySem.W.Frag) : Sa → Hp → Dt → V → Hp → Hp → Prop := fun A _ d v F2 _ => At K A F2 v d
abbrev rO (K : PySem.W.Frag) : Sa → Hp → Dt → V → Hp → Hp → Prop := fun A _ d v F2 H2 => AtO K A F2 H2 v d
abbrev rA (K : PySem.W.Frag) : Sa → Hp → List Dt → List V → Hp → Hp → Prop := fun A _ ds vs F2 _ => AtL K A F2 vs ds
abbrev rAO (K : PySem.W.Frag) : Sa → Hp → List Dt → List V → Hp → Hp → Prop := fun A _ ds vs F2 H2 => AtOL K A F2 H2 vs ds
abbrev rT : Sa → Hp → Bool → Bool → Hp → Hp → Prop := fun _ _ b c _ _ => b = c
/-- a new list of our own -/
abbrev rL (K : PySem.W.Frag) : Sa → Hp → List Dt → V → Hp → Hp → Prop := fun A H ds v F2 H2 => ∃ p vs, v = .ref p ∧ H p = none ∧ H2 p = some (.lst vs) ∧ F2 p = none ∧ ¬ fp A p ∧ AtL K A F2 vs ds
structure DE (X : Cx) (W : WX) (e : Expr) (f : Sm Dt) : Prop where
  pe : PE X e (In X.K X.mg W (rD X.K) f)
structure DO (X : Cx) (W : WX) (e : Expr) (f : Sm Dt) : Prop where
  pe : PE X e (In X.K X.mg W (rO X.K) f)
structure DL (X : Cx) (W : WX) (e : Expr) (f : Sm (List Dt)) : Prop where
  pe : PE X e (In X.K X.mg W (rL X.K) f)
structure DA (X : Cx) (W : WX) (es : List Expr) (f : Sm (List Dt)) : Prop where
  pa : PA X es (In X.K X.mg W (rA X.K) f)
structure DAO (X : Cx) (W : WX) (es : List Expr) (f : Sm (List Dt)) : Prop where
  pa : PA X es (In X.K X.mg W (rAO X.K) f)
structure DT (X : Cx) (W : WX) (e : Expr) (f : Sm Bool) : Prop where
  pt : PT X e (In X.K X.mg W rT f)
structure DW (X : Cx) (W : WX) (e : Expr) (f : Sm Bool) : Prop where
  pw : PW X e (In X.K X.mg W rT f)

theorem pe_imp {X : Cx} {e : Expr} {t u : TE} (h : PE X e t) (i : ∀ σ H Q, u σ H Q → t σ H Q) : PE X e u := ⟨fun pins s σ H Q I q => h.run pins s σ H Q I (i σ H Q q)⟩
theorem pt_imp {X : Cx} {e : Expr} {t u : TT} (h : PT X e t) (i : ∀ σ H Q, u σ H Q → t σ H Q) : PT X e u := ⟨fun pins s σ H Q I q => h.run pins s σ H Q I (i σ H Q q)⟩
theorem pw_imp {X : Cx} {e : Expr} {t u : TT} (h : PW X e t) (i : ∀ σ H Q, u σ H Q → t σ H Q) : PW X e u := ⟨fun wh pins s σ H Q I q => h.run wh pins s σ H Q I (i σ H Q q)⟩
theorem pa_imp {X : Cx} {es : List Expr} {t u : TA} (h : PA X es t) (i : ∀ σ H Q, u σ H Q → t σ H Q) : PA X es u := ⟨fun pos pins s σ H Q I q => h.run pos pins s σ H Q I (i σ H Q q)⟩

section
variable {X : Cx} {W : WX} {e e2 e3 : Expr} {es : List Expr} {f g : Sm Dt} {fs gs : Sm (List Dt)} {b c : Sm Bool} {pos : Pos} {σ : L2.St} {H : Hp}

/-- the first part is run, then the rest -/
theorem In.run {α β γ δ : Type} {K : PySem.W.Frag} {mg : Str → Option Value} {R : Sa → Hp → α → β → Hp → Hp → Prop} {R2 : Sa → Hp → γ → δ → Hp → Hp → Prop} {m : Sm α} {k : α → Sm γ} {Q : δ → Hp → Prop} {Q1 : β → Hp → Prop}
    (h : In K mg W R2 (fun ρ s => (m ρ s).bind fun a s2 => k a ρ s2) σ H Q)
    (n : ∀ A F0 H0 F s ρ a s2 v F2 H2, Ok K A F0 H0 F H s σ ρ → Stp A F H F2 H2 → SrcOk A H2 s2 → Ok K A F0 H0 F2 H2 s2 σ ρ → R A H a v F2 H2 → Out mg W A F H σ (R2 A H) Q (k a ρ s2) → Q1 v H2) : In K mg W R m σ H Q1 := by
  obtain ⟨A, F0, H0, F, s, ρ, ok, o⟩ := h
  refine ⟨A, F0, H0, F, s, ρ, ok, o.bind fun a s2 v F2 H2 st so r o2 => ?_⟩
  exact n A F0 H0 F s ρ a s2 v F2 H2 ok st so (ok.step st so) r o2

/-! ### names, constants -/
@[simp] def vName (i : Nat) : Sm Dt := fun ρ s => match ρ[i]? with
  | some (.val d) => .ok d s
  | _ => .no
@[simp] def oName (i : Nat) : Sm Dt := fun ρ s => match ρ[i]? with
  | some (.val d) => .ok d s
  | some (.own ds) => .ok (.lst ds) s
  | _ => .no
@[simp] def vC (d : Dt) : Sm Dt := fun _ s => .ok d s
theorem de_name (i : Nat) {x : Str} (hN : X.N[i]? = some x := by rfl) (hv : Vis X.env.scope x := by first | exact Or.inl rfl | exact Or.inr (Or.inl rfl) | exact Or.inr (Or.inr rfl)) (hd : (x == ("__debug__" : Str)) = false := by decide)
    (hcd : (x == ("__classdict__" : Str)) = false := by decide) : DE X W (.Name x pos) (vName i) := by
  refine ⟨pe_imp (pe_var hN hv hd hcd) fun σ H Q h => ?_⟩
  obtain ⟨A, F0, H0, F, s, ρ, ok, o⟩ := h
  unfold vName at o
  split at o
  · next d q =>
    obtain ⟨v, e, a⟩ := ok.val q
    exact ⟨v, e, o.ok (Stp.refl ok.gd) ok.so a⟩
  · exact o.elim
theorem do_name (i : Nat) {x : Str} (hN : X.N[i]? = some x := by rfl) (hv : Vis X.env.scope x := by first | exact Or.inl rfl | exact Or.inr (Or.inl rfl) | exact Or.inr (Or.inr rfl)) (hd : (x == ("__debug__" : Str)) = false := by decide)
    (hcd : (x == ("__classdict__" : Str)) = false := by decide) : DO X W (.Name x pos) (oName i) := by
  refine ⟨pe_imp (pe_var hN hv hd hcd) fun σ H Q h => ?_⟩
  obtain ⟨A, F0, H0, F, s, ρ, ok, o⟩ := h
  unfold oName at o
  split at o
  · next d q =>
    obtain ⟨v, e, a⟩ := ok.val q
    exact ⟨v, e, o.ok (Stp.refl ok.gd) ok.so (.inl a)⟩
  · next ds q =>
    obtain ⟨p, vs, e, h1, h2, _, h3, h4⟩ := ok.own q
    exact ⟨_, e, o.ok (Stp.refl ok.gd) ok.so (.inr ⟨p, vs, ds, rfl, rfl, h1, h2, h3, h4⟩)⟩
  · exact o.elim
theorem de_c {v : V} {d : Dt} (h : PE X e (tC v)) (a : ∀ A F, At X.K A F v d) : DE X W e (vC d) := by
  refine ⟨pe_imp h fun σ H Q h => ?_⟩
  obtain ⟨A, F0, H0, F, s, ρ, ok, o⟩ := h
  exact o.ok (Stp.refl ok.gd) ok.so (a A F)
theorem de_int {i : Int} {j : Nat} : DE X W (.Constant (.int i) j pos) (vC (.int i)) := de_c pe_int fun _ _ => .int i
theorem de_bl {b : Bool} {j : Nat} : DE X W (.Constant (.bool b) j pos) (vC (.bl b)) := de_c pe_bl fun _ _ => .bl b
theorem de_non {j : Nat} : DE X W (.Constant .none j pos) (vC .non) := de_c pe_non fun _ _ => .non
theorem de_str {x : Str} {j : Nat} : DE X W (.Constant (.str x) j pos) (vC (.str x)) := de_c pe_str fun _ _ => .str x
/-- a module's constant -/
theorem de_glob {x : Str} {v : V} {u : Value} {d : Dt} (hg : Gl X x) (hm : X.mg x = some u) (r : RelV v u) (a : ∀ A F, At X.K A F v d) (hd : (x == ("__debug__" : Str)) = false := by decide) : DE X W (.Name x pos) (vC d) :=
  de_c (pe_glob hg hm r hd) a

/-- a value is an operand -/
theorem DE.o (h : DE X W e f) : DO X W e f := by
  refine ⟨pe_imp h.pe fun σ H Q h => ?_⟩
  obtain ⟨A, F0, H0, F, s, ρ, ok, o⟩ := h
  exact ⟨A, F0, H0, F, s, ρ, ok, o.shift (Stp.refl ok.gd) fun _ _ _ _ r => .inl r⟩
/-- a new list as a value -/
@[simp] def vL (f : Sm (List Dt)) : Sm Dt := fun ρ s => (f ρ s).bind fun ds s2 => .ok (.lst ds) s2
theorem Stp.frz {A : Sa} {F H F2 H2 : Hp} (st : Stp A F H F2 H2) {p : Addr} {u : HO} (h : H p = none) (h2 : H2 p = some u) (nf : ¬ fp A p) (n : F2 p = none) : Stp A F H (upd F2 p u) H2 where
  ext := st.ext.trans (same_new n)
  sub := fun a o e => by
    by_cases q : a = p
    · subst q; rw [upd_same] at e; cases e; exact h2
    · rw [upd_ne q] at e; exact st.sub a o e
  keep := st.keep
  new := fun a o e m => by
    by_cases q : a = p
    · subst q; exact h
    · rw [upd_ne q] at e; exact st.new a o e m
  nof := fun a f => by
    have q : a ≠ p := fun z => nf (z ▸ f)
    rw [upd_ne q]; exact st.nof a f
theorem DL.v (h : DL X W e fs) : DE X W e (vL fs) := by
  refine ⟨pe_imp h.pe fun σ H Q h => In.run h ?_⟩
  intro A F0 H0 F s ρ ds s2 v F2 H2 ok st so ok2 r o
  obtain ⟨p, vs, rfl, n0, h2, n2, nf, a⟩ := r
  exact o.ok (st.frz n0 h2 nf n2) so (.lst upd_same (AtL.up (same_new n2) _ _ a))
theorem DL.o (h : DL X W e fs) : DO X W e (vL fs) := h.v.o

/-! ### argument lists -/
@[simp] def aNil : Sm (List Dt) := fun _ s => .ok [] s
@[simp] def aCons (f : Sm Dt) (fs : Sm (List Dt)) : Sm (List Dt) := fun ρ s => (f ρ s).bind fun d s2 => (fs ρ s2).bind fun ds s3 => .ok (d :: ds) s3
theorem da_nil : DA X W [] aNil := by
  refine ⟨pa_imp pa_nil fun σ H Q h => ?_⟩
  obtain ⟨A, F0, H0, F, s, ρ, ok, o⟩ := h
  exact o.ok (Stp.refl ok.gd) ok.so .nil
theorem da_cons (ha : DE X W e f) (hr : DA X W es fs) (hs : starEach (e :: es) X.env = (false, eval e X.env) :: starEach es X.env := by rfl) : DA X W (e :: es) (aCons f fs) := by
  refine ⟨pa_imp (pa_cons ha.pe hr.pa hs) fun σ H Q h => In.run h ?_⟩
  intro A F0 H0 F s ρ d s2 v F2 H2 ok st so ok2 r o
  refine ⟨A, F0, H0, F2, s2, ρ, ok2, Out.bind (o.shift st fun _ _ _ _ r => r) fun ds s3 vs F3 H3 st3 so3 r3 o3 => ?_⟩
  exact o3.ok st3 so3 (.cons (At.up st3.ext _ _ r) r3)
theorem dao_nil : DAO X W [] aNil := by
  refine ⟨pa_imp pa_nil fun σ H Q h => ?_⟩
  obtain ⟨A, F0, H0, F, s, ρ, ok, o⟩ := h
  exact o.ok (Stp.refl ok.gd) ok.so .nil
theorem dao_cons (ha : DO X W e f) (hr : DAO X W es fs) (hs : starEach (e :: es) X.env = (false, eval e X.env) :: starEach es X.env := by rfl) : DAO X W (e :: es) (aCons f fs) := by
  refine ⟨pa_imp (pa_cons ha.pe hr.pa hs) fun σ H Q h => In.run h ?_⟩
  intro A F0 H0 F s ρ d s2 v F2 H2 ok st so ok2 r o
  refine ⟨A, F0, H0, F2, s2, ρ, ok2, Out.bind (o.shift st fun _ _ _ _ r => r) fun ds s3 vs F3 H3 st3 so3 r3 o3 => ?_⟩
  exact o3.ok st3 so3 (.cons (r.step st3) r3)

/-! ### displays -/
def chk (n : Nat) : Bool := decide (n ≤ sizeLine)
theorem chk_of {n : Nat} (h : chk n = true) : n ≤ sizeLine := of_decide_eq_true h
@[simp] def vTup (f : Sm (List Dt)) : Sm Dt := fun ρ s => (f ρ s).bind fun ds s2 => if chk ds.length then .ok (.tup ds) s2 else .no
@[simp] def lLst (f : Sm (List Dt)) : Sm (List Dt) := fun ρ s => (f ρ s).bind fun ds s2 => if chk ds.length then .ok ds s2 else .no
theorem Out.chk {α β : Type} {mg : Str → Option Value} {A : Sa} {F H : Hp} {σ : L2.St} {R : α → β → Hp → Hp → Prop} {Q : β → Hp → Prop} {p : Bool} {r : Rs α} (h : Out mg W A F H σ R Q (if p then r else .no)) : p = true ∧ Out mg W A F H σ R Q r := by
  cases p with
  | true => exact ⟨rfl, h⟩
  | false => exact h.elim
theorem de_tup {x1} (h : DA X W es fs) : DE X W (.Tuple es x1 pos) (vTup fs) := by
  refine ⟨pe_imp (pe_tup h.pa) fun σ H Q h => In.run h ?_⟩
  intro A F0 H0 F s ρ ds s2 vs F2 H2 ok st so ok2 r o
  obtain ⟨hl, o⟩ := o.chk
  refine ⟨by rw [AtL.length r]; exact chk_of hl, fun p hp => ?_⟩
  have q := Stq.alloc (o := .tup vs) ok2.gd hp
  exact o.ok (st.trans q.p) (so.keep q.keep) (.tup (SqT.of upd_same) (AtL.up q.ext _ _ r))
theorem dl_lst (h : DA X W es fs) : DL X W (.List es pos) (lLst fs) := by
  refine ⟨pe_imp (pe_lst h.pa) fun σ H Q h => In.run h ?_⟩
  intro A F0 H0 F s ρ ds s2 vs F2 H2 ok st so ok2 r o
  obtain ⟨hl, o⟩ := o.chk
  refine ⟨by rw [AtL.length r]; exact chk_of hl, fun p hp => ?_⟩
  have q := Stq.loose (o := .lst vs) ok2.gd hp
  have nf : ¬ fp A p := fun f => by
    obtain ⟨u, hu⟩ := so.there f
    rw [hp] at hu; cases hu
  have n0 : H p = none := by
    cases e : H p with
    | none => rfl
    | some u => rw [st.keep p u e nf] at hp; cases hp
  have n2 : F2 p = none := ok2.gd.sub.free hp
  exact o.ok (st.trans q.p) (so.keep q.keep) ⟨p, vs, rfl, n0, upd_same, n2, nf, r⟩

/-! ### operators -/
/-- what an operator makes of data; g: its plain function -/
structure OpD (X : Cx) (f : Value → Value → Sem Value) (g : Dt → Dt → Option Dt) : Prop where
  ex : ∃ rr : R2, OpR X f rr ∧ ∀ A F H s x y d e z Q, Gd A F H s → AtO X.K A F H x d → AtO X.K A F H y e → g d e = some z → (∀ v F2 H2, Stq A F H F2 H2 → At X.K A F2 v z → Q v H2) → rr x y H Q
def gOr (g g' : Dt → Dt → Option Dt) : Dt → Dt → Option Dt := fun d e => (g d e).orElse fun _ => g' d e
theorem OpD.or {h : Value → Value → Sem Value} {g g' : Dt → Dt → Option Dt} (a : OpD X h g) (a' : OpD X h g') : OpD X h (gOr g g') := by
  obtain ⟨r, h1, h2⟩ := a.ex
  obtain ⟨r', h1', h2'⟩ := a'.ex
  refine ⟨_, h1.or h1', fun A F H s x y d e z Q gd ax ay hz k => ?_⟩
  unfold gOr at hz
  cases q : g d e with
  | some w =>
    rw [q] at hz
    cases hz
    exact .inl (h2 A F H s x y d e _ Q gd ax ay q k)
  | none =>
    rw [q] at hz
    exact .inr (h2' A F H s x y d e _ Q gd ax ay hz k)
@[simp] def vOp (g : Dt → Dt → Option Dt) (f f' : Sm Dt) : Sm Dt := fun ρ s => (f ρ s).bind fun d s2 => (f' ρ s2).bind fun e s3 => ofO (g d e) s3
theorem in_op {h : Value → Value → Sem Value} {g : Dt → Dt → Option Dt} {f f' : Sm Dt} (ho : OpD X h g) :
    ∃ rr, OpR X h rr ∧ ∀ σ H Q, In X.K X.mg W (rD X.K) (vOp g f f') σ H Q → tOp rr (In X.K X.mg W (rO X.K) f) (In X.K X.mg W (rO X.K) f') σ H Q := by
  obtain ⟨rr, h1, h2⟩ := ho.ex
  refine ⟨rr, h1, fun σ H Q h => In.run h ?_⟩
  intro A F0 H0 F s ρ d s2 v F2 H2 ok st so ok2 r o
  refine ⟨A, F0, H0, F2, s2, ρ, ok2, Out.bind (o.shift st fun _ _ _ _ r => r) fun e s3 w F3 H3 st3 so3 r3 o3 => ?_⟩
  obtain ⟨z, hz, o3⟩ := o3.o
  exact h2 A F3 H3 s3 v w d e z Q (st3.gd so3) (r.step st3) r3 hz fun u F4 H4 q a => o3.ok (st3.trans q.p) (so3.keep q.keep) a
theorem de_op {op : Operator} {g : Dt → Dt → Option Dt} {f f' : Sm Dt} (ho : OpD X (binaryOp op) g) (ha : DO X W e f) (hb : DO X W e2 f') : DE X W (.BinOp e op e2 pos) (vOp g f f') := by
  obtain ⟨rr, h1, h2⟩ := in_op (W := W) (f := f) (f' := f') ho
  exact ⟨pe_imp (pe_op h1 ha.pe hb.pe) h2⟩
theorem de_cmp {op : CmpOp} {g : Dt → Dt → Option Dt} {f f' : Sm Dt} (ho : OpD X (compareOp op) g) (ha : DO X W e f) (hb : DO X W e2 f') (hm : behindInMarks op e2 = false) : DE X W (.Compare e [op] [e2] pos) (vOp g f f') := by
  obtain ⟨rr, h1, h2⟩ := in_op (W := W) (f := f) (f' := f') ho
  exact ⟨pe_imp (pe_cmpR h1 ha.pe hb.pe hm) h2⟩
/-- a test of a bool -/
@[simp] def dB : Dt → Option Bool
  | .bl b => some b
  | _ => none
@[simp] def tB (f : Sm Dt) : Sm Bool := fun ρ s => (f ρ s).bind fun d s2 => ofO (dB d) s2
theorem in_test {t : TE} {f : Sm Dt} (ht : ∀ σ H Q, In X.K X.mg W (rD X.K) f σ H Q → t σ H Q) {σ : L2.St} {H : Hp} {Q : Bool → Hp → Prop} (h : In X.K X.mg W rT (tB f) σ H Q) : tTest t σ H Q := by
  refine ht _ _ _ (In.run h ?_)
  intro A F0 H0 F s ρ d s2 v F2 H2 ok st so ok2 r o
  obtain ⟨z, hz, o⟩ := o.o
  cases d with
  | bl b =>
    cases r
    cases hz
    exact ⟨_, rfl, o.ok st so rfl⟩
  | _ => cases hz
theorem dt_cmp {op : CmpOp} {g : Dt → Dt → Option Dt} {f f' : Sm Dt} (ho : OpD X (compareOp op) g) (ha : DO X W e f) (hb : DO X W e2 f') (hm : behindInMarks op e2 = false) : DT X W (.Compare e [op] [e2] pos) (tB (vOp g f f')) := by
  obtain ⟨rr, h1, h2⟩ := in_op (W := W) (f := f) (f' := f') ho
  exact ⟨pt_imp (pt_cmpR h1 ha.pe hb.pe hm) fun σ H Q h => in_test h2 h⟩
end
end DD
set_option Elab.async false
set_option linter.all false
set_option maxRecDepth 100000
set_option maxHeartbeats 1000000
/-! DDc: operators and comparisons on data. -/
namespace DD
open PySem PySem.Spec PyProof.Rows L2

section
variable {K : PySem.W.Frag} {A : Sa} {F H : Hp} {s : Sv} {x : V}
theorem AtO.non (h : AtO K A F H x .non) : x = .non := by
  rcases h with h | ⟨_, _, _, _, e, _⟩
  · cases h; rfl
  · cases e
theorem AtO.bl {b : Bool} (h : AtO K A F H x (.bl b)) : x = .bl b := by
  rcases h with h | ⟨_, _, _, _, e, _⟩
  · cases h; rfl
  · cases e
theorem AtO.int {i : Int} (h : AtO K A F H x (.int i)) : x = .int i := by
  rcases h with h | ⟨_, _, _, _, e, _⟩
  · cases h; rfl
  · cases e
theorem AtO.str {z : Str} (h : AtO K A F H x (.str z)) : x = .str z := by
  rcases h with h | ⟨_, _, _, _, e, _⟩
  · cases h; rfl
  · cases e
theorem AtO.tup {ds : List Dt} (g : Same F H) (h : AtO K A F H x (.tup ds)) : ∃ a xs, x = .ref a ∧ SqT K H a xs ∧ AtL K A F xs ds := by
  rcases h with h | ⟨_, _, _, _, e, _⟩
  · cases h with
    | tup h1 h2 => exact ⟨_, _, rfl, same_t g h1, h2⟩
  · cases e
theorem AtO.lst {ds : List Dt} (g : Same F H) (h : AtO K A F H x (.lst ds)) : ∃ a xs, x = .ref a ∧ H a = some (.lst xs) ∧ AtL K A F xs ds := by
  rcases h with h | ⟨p, vs, es, rfl, e, h1, _, _, h2⟩
  · cases h with
    | lst h1 h2 => exact ⟨_, _, rfl, g _ _ h1, h2⟩
  · cases e
    exact ⟨p, vs, rfl, h1, h2⟩
theorem AtO.dic {ds : List (Key × Dt)} (g : Same F H) (h : AtO K A F H x (.dic ds)) : ∃ a xs, x = .ref a ∧ H a = some (.dK xs) ∧ AtK K A F xs ds := by
  rcases h with h | ⟨_, _, _, _, e, _⟩
  · cases h with
    | dic h1 h2 => exact ⟨_, _, rfl, g _ _ h1, h2⟩
  · cases e
end

/-! ### data as the library's data -/
mutual
def Dt.py : Dt → PyData
  | .non => .none
  | .bl b => .bool b
  | .int i => .int i
  | .str x => .str x
  | .tup xs => .tuple (Dt.pys xs)
  | .lst xs => .list (Dt.pys xs)
  | .dic _ => .none
  | .src => .none
  | .scr _ => .none
def Dt.pys : List Dt → List PyData
  | [] => []
  | d :: ds => d.py :: Dt.pys ds
end
mutual
/-- no dict, no source within; texts are sound -/
def Dt.plain : Dt → Bool
  | .non => true
  | .bl _ => true
  | .int _ => true
  | .str x => PyData.strOk x
  | .tup xs => Dt.plains xs
  | .lst xs => Dt.plains xs
  | .dic _ => false
  | .src => false
  | .scr _ => false
def Dt.plains : List Dt → Bool
  | [] => true
  | d :: ds => d.plain && Dt.plains ds
end
mutual
theorem lay_of_plain : ∀ d : Dt, d.plain = true → d.py.canLay0 = true
  | .non, _ => rfl
  | .bl _, _ => rfl
  | .int _, _ => rfl
  | .str x, h => h
  | .tup xs, h => by rw [Dt.py, PyData.canLay0]; exact lays_of_plain xs h
  | .lst xs, h => by rw [Dt.py, PyData.canLay0]; exact lays_of_plain xs h
  | .dic _, h => by cases h
  | .src, h => by cases h
  | .scr _, h => by cases h
theorem lays_of_plain : ∀ ds : List Dt, Dt.plains ds = true → PyData.canLayAll0 (Dt.pys ds) = true
  | [], _ => rfl
  | d :: ds, h => by
    rw [Dt.plains, Bool.and_eq_true] at h
    rw [Dt.pys, PyData.canLayAll0, lay_of_plain d h.1, lays_of_plain ds h.2]
    rfl
end
section
variable {K : PySem.W.Frag} {A : Sa} {F H : Hp}
mutual
theorem dp_of (g : Same F H) : ∀ (d : Dt) (v : V), At K A F v d → d.plain = true → Dp K H v d.py
  | .non, _, h, _ => by cases h; exact .non
  | .bl b, _, h, _ => by cases h; exact .bl b
  | .int i, _, h, _ => by cases h; exact .int i
  | .str x, _, h, _ => by cases h; exact .str x
  | .tup ds, _, h, p => by
    cases h with
    | tup h1 h2 => exact .tup (same_t g h1) (dps_of g _ _ h2 p)
  | .lst ds, _, h, p => by
    cases h with
    | lst h1 h2 => exact .lst (SqL.of (g _ _ h1)) (dps_of g _ _ h2 p)
  | .dic _, _, _, p => by cases p
  | .src, _, _, p => by cases p
  | .scr _, _, _, p => by cases p
theorem dps_of (g : Same F H) : ∀ (ds : List Dt) (vs : List V), AtL K A F vs ds → Dt.plains ds = true → DpAll K H vs (Dt.pys ds)
  | [], _, h, _ => by cases h; exact .nil
  | d :: ds, _, h, p => by
    rw [Dt.plains, Bool.and_eq_true] at p
    cases h with
    | cons h1 h2 => exact .cons (dp_of g _ _ h1 p.1) (dps_of g _ _ h2 p.2)
end
theorem AtO.dp {v : V} {d : Dt} (g : Same F H) (h : AtO K A F H v d) (p : d.plain = true) : Dp K H v d.py := by
  rcases h with h | ⟨a, vs, ds, rfl, rfl, h1, _, _, h2⟩
  · exact dp_of g _ _ h p
  · exact .lst (SqL.of h1) (dps_of g _ _ h2 p)
end

/-! ### room -/
/-- a def's place in the stack: k more calls deep, the guards of repr clear -/
structure Rm (k : Nat) (A : Around) : Prop where
  hd : A.handled = none
  dp : A.depth + k + 40 < recursionLimit
  us : A.units + 16 * k + 300 < cLine
  grd : A.guards = some []
theorem Rm.mono {j k : Nat} {A : Around} (r : Rm k A) (h : j ≤ k) : Rm j A := ⟨r.hd, by have := r.dp; omega, by have := r.us; omega, r.grd⟩
theorem Rm.un {k : Nat} {A : Around} (r : Rm k A) {n : Nat} (h : n ≤ 290) : A.units + n < cLine := by have := r.us; omega
theorem Rm.depth {k : Nat} {A : Around} (r : Rm k A) : A.depth < recursionLimit := by have := r.dp; omega
theorem Rm.deeper {k : Nat} {A : Around} (r : Rm (k + 1) A) (env : Env) : Rm k (A.deeper env) :=
  ⟨r.hd, by have := r.dp; show A.depth + 1 + k + 40 < _; omega, by have := r.us; show A.units + 3 + 16 * k + 300 < _; omega, r.grd⟩
theorem Rm.small {k : Nat} {A : Around} (r : Rm k A) : Room 2 A := ⟨r.hd, by have := r.dp; omega, by have := r.us; omega⟩

/-! ### operators -/
@[simp] def gAdd : Dt → Dt → Option Dt
  | .int i, .int j => some (.int (i + j))
  | .str a, .str b => if chk (a.length + b.length) then some (.str (a ++ b)) else none
  | .lst xs, .lst ys => if chk (xs.length + ys.length) then some (.lst (xs ++ ys)) else none
  | .tup xs, .tup ys => if chk (xs.length + ys.length) then some (.tup (xs ++ ys)) else none
  | _, _ => none
@[simp] def gInt (c : Int → Int → Bool) (f : Int → Int → Int) : Dt → Dt → Option Dt
  | .int i, .int j => if c i j then some (.int (f i j)) else none
  | _, _ => none
@[simp] def gCmpI (f : Int → Int → Bool) : Dt → Dt → Option Dt
  | .int i, .int j => some (.bl (f i j))
  | _, _ => none
def ifO {α : Type} (b : Bool) (a : α) : Option α := if b then some a else none
section
variable {X : Cx}
theorem of_ite {α : Type} {b : Bool} {a z : α} (h : (if b = true then some a else none) = some z) : b = true ∧ a = z := by
  cases b with
  | true => exact ⟨rfl, Option.some.inj h⟩
  | false => cases h
theorem o_add : OpD X (binaryOp .Add) gAdd := by
  refine ⟨_, (op_add.or op_add_str).or (op_cat.or op_catA), fun A F H s x y d e z Q g ax ay hz k => ?_⟩
  unfold gAdd at hz
  split at hz
  · cases hz
    have e1 := ax.int
    have e2 := ay.int
    subst e1 e2
    exact .inl (.inl ⟨_, _, rfl, rfl, k _ F H (Stq.refl g) (.int _)⟩)
  · obtain ⟨c, rfl⟩ := of_ite hz
    have e1 := ax.str
    have e2 := ay.str
    subst e1 e2
    exact .inl (.inr ⟨_, _, rfl, rfl, chk_of c, k _ F H (Stq.refl g) (.str _)⟩)
  · obtain ⟨c, rfl⟩ := of_ite hz
    obtain ⟨a, xs, rfl, h1, h2⟩ := ax.lst g.sub
    obtain ⟨b, ys, rfl, h3, h4⟩ := ay.lst g.sub
    refine .inr (.inl ⟨a, b, xs, ys, rfl, rfl, h1, h3, by rw [h2.length, h4.length]; exact chk_of c, fun p hp => ?_⟩)
    have q := Stq.alloc (o := .lst (xs ++ ys)) g hp
    exact k _ _ _ q (.lst upd_same (AtL.up q.ext _ _ (h2.append h4)))
  · obtain ⟨c, rfl⟩ := of_ite hz
    obtain ⟨a, xs, rfl, h1, h2⟩ := ax.tup g.sub
    obtain ⟨b, ys, rfl, h3, h4⟩ := ay.tup g.sub
    refine .inr (.inr ⟨a, b, xs, ys, rfl, rfl, h1, h3, by rw [h2.length, h4.length]; exact chk_of c, fun n => ?_, fun _ n => ?_, fun _ _ p hp => ?_⟩)
    · subst n
      cases h2
      rcases ay with ay | ⟨_, _, _, _, ee, _⟩
      · exact k _ F H (Stq.refl g) ay
      · cases ee
    · subst n
      cases h4
      rw [List.append_nil] at k
      rcases ax with ax | ⟨_, _, _, _, ee, _⟩
      · exact k _ F H (Stq.refl g) ax
      · cases ee
    · have q := Stq.alloc (o := .tup (xs ++ ys)) g hp
      exact k _ _ _ q (.tup (SqT.of upd_same) (AtL.up q.ext _ _ (h2.append h4)))
  · cases hz
theorem o_int {f : Value → Value → Sem Value} {C : Int → Int → Prop} {c : Int → Int → Bool} {h : Int → Int → Int} (ho : OpR X f (rI C fun i j => .int (h i j))) (hc : ∀ i j, c i j = true → C i j) : OpD X f (gInt c h) := by
  refine ⟨_, ho, fun A F H s x y d e z Q g ax ay hz k => ?_⟩
  unfold gInt at hz
  split at hz
  · obtain ⟨q, rfl⟩ := of_ite hz
    have e1 := ax.int
    have e2 := ay.int
    subst e1 e2
    exact ⟨_, _, rfl, rfl, hc _ _ q, k _ F H (Stq.refl g) (.int _)⟩
  · cases hz
theorem o_cmpI {f : Value → Value → Sem Value} {h : Int → Int → Bool} (ho : OpR X f (rI0 fun i j => .bl (h i j))) : OpD X f (gCmpI h) := by
  refine ⟨_, ho, fun A F H s x y d e z Q g ax ay hz k => ?_⟩
  unfold gCmpI at hz
  split at hz
  · cases hz
    have e1 := ax.int
    have e2 := ay.int
    subst e1 e2
    exact ⟨_, _, rfl, rfl, k _ F H (Stq.refl g) (.bl _)⟩
  · cases hz
@[simp] def gSub : Dt → Dt → Option Dt := gInt (fun _ _ => true) fun i j => i - j
theorem o_sub : OpD X (binaryOp .Sub) gSub := by
  refine ⟨_, op_sub, fun A F H s x y d e z Q g ax ay hz k => ?_⟩
  unfold gSub gInt at hz
  split at hz
  · obtain ⟨q, rfl⟩ := of_ite hz
    have e1 := ax.int
    have e2 := ay.int
    subst e1 e2
    exact ⟨_, _, rfl, rfl, k _ F H (Stq.refl g) (.int _)⟩
  · cases hz
/-- one factor below 2 ^ 64 in size -/
def mulC (i j : Int) : Bool := (decide (-(2 ^ 64) < i) && decide (i < 2 ^ 64)) || (decide (-(2 ^ 64) < j) && decide (j < 2 ^ 64))
@[simp] def gMulI : Dt → Dt → Option Dt := gInt mulC fun i j => i * j
/-- n times the items of a list -/
def reps {α : Type} (n : Nat) (xs : List α) : List α := (List.replicate n xs).flatten
theorem o_mulI : OpD X (binaryOp .Mult) gMulI := o_int op_mul fun i j h => by
  unfold mulC at h
  unfold CMul
  simpa only [Bool.or_eq_true, Bool.and_eq_true, decide_eq_true_eq] using h
def divC (_ j : Int) : Bool := decide (0 < j) && decide (j < 1073741824)
@[simp] def gDiv : Dt → Dt → Option Dt := gInt divC fun i j => i / j
theorem o_div : OpD X (binaryOp .FloorDiv) gDiv := o_int op_fdiv fun i j h => by
  unfold divC at h
  unfold CDiv
  simpa only [Bool.and_eq_true, decide_eq_true_eq] using h
@[simp] def gMod : Dt → Dt → Option Dt := gInt (fun _ j => decide (0 < j)) fun i j => i % j
theorem o_mod : OpD X (binaryOp .Mod) gMod := o_int op_mod fun i j h => of_decide_eq_true h
def powC (i j : Int) : Bool := decide (0 ≤ j) && decide (j ≤ 1000000) && decide (i.natAbs < 2 ^ 64)
@[simp] def gPow : Dt → Dt → Option Dt := gInt powC fun i j => i ^ j.toNat
theorem o_pow : OpD X (binaryOp .Pow) gPow := o_int op_pow fun i j h => by
  unfold powC at h
  simp only [Bool.and_eq_true, decide_eq_true_eq] at h
  exact ⟨h.1.1, h.1.2, h.2⟩
/-! ### order -/
def strLt (a b : Str) : Bool := decide (a.cps.toList < b.cps.toList)
@[simp] def gLt : Dt → Dt → Option Dt
  | .int i, .int j => some (.bl (decide (i < j)))
  | .str a, .str b => some (.bl (strLt a b))
  | _, _ => none
@[simp] def gLe : Dt → Dt → Option Dt
  | .int i, .int j => some (.bl (decide (i ≤ j)))
  | .str a, .str b => some (.bl (!strLt b a))
  | _, _ => none
@[simp] def gGt : Dt → Dt → Option Dt := fun d e => gLt e d
@[simp] def gGe : Dt → Dt → Option Dt := fun d e => gLe e d
theorem o_lt : OpD X (compareOp .Lt) gLt := by
  refine ⟨_, op_lt.or op_lt_str, fun A F H s x y d e z Q g ax ay hz k => ?_⟩
  unfold gLt at hz
  split at hz
  · cases hz
    have e1 := ax.int
    have e2 := ay.int
    subst e1 e2
    exact .inl ⟨_, _, rfl, rfl, k _ F H (Stq.refl g) (.bl _)⟩
  · cases hz
    have e1 := ax.str
    have e2 := ay.str
    subst e1 e2
    exact .inr ⟨_, _, rfl, rfl, k _ F H (Stq.refl g) (.bl _)⟩
  · cases hz
theorem o_le : OpD X (compareOp .LtE) gLe := by
  refine ⟨_, op_le.or op_le_str, fun A F H s x y d e z Q g ax ay hz k => ?_⟩
  unfold gLe at hz
  split at hz
  · cases hz
    have e1 := ax.int
    have e2 := ay.int
    subst e1 e2
    exact .inl ⟨_, _, rfl, rfl, k _ F H (Stq.refl g) (.bl _)⟩
  · cases hz
    have e1 := ax.str
    have e2 := ay.str
    subst e1 e2
    exact .inr ⟨_, _, rfl, rfl, k _ F H (Stq.refl g) (.bl _)⟩
  · cases hz
theorem o_gt : OpD X (compareOp .Gt) gGt := by
  refine ⟨_, op_gt.or op_gt_str, fun A F H s x y d e z Q g ax ay hz k => ?_⟩
  unfold gGt gLt at hz
  split at hz
  · cases hz
    have e1 := ax.int
    have e2 := ay.int
    subst e1 e2
    exact .inl ⟨_, _, rfl, rfl, k _ F H (Stq.refl g) (.bl _)⟩
  · cases hz
    have e1 := ax.str
    have e2 := ay.str
    subst e1 e2
    exact .inr ⟨_, _, rfl, rfl, k _ F H (Stq.refl g) (.bl _)⟩
  · cases hz
theorem o_ge : OpD X (compareOp .GtE) gGe := by
  refine ⟨_, op_ge.or op_ge_str, fun A F H s x y d e z Q g ax ay hz k => ?_⟩
  unfold gGe gLe at hz
  split at hz
  · cases hz
    have e1 := ax.int
    have e2 := ay.int
    subst e1 e2
    exact .inl ⟨_, _, rfl, rfl, k _ F H (Stq.refl g) (.bl _)⟩
  · cases hz
    have e1 := ax.str
    have e2 := ay.str
    subst e1 e2
    exact .inr ⟨_, _, rfl, rfl, k _ F H (Stq.refl g) (.bl _)⟩
  · cases hz

/-! ### equality -/
/-- == of scalars -/
@[simp] def eqS : Dt → Dt → Option Bool
  | .non, .non => some true
  | .bl a, .bl b => some (a == b)
  | .int a, .int b => some (a == b)
  | .str a, .str b => some (a == b)
  | .non, .int _ => some false
  | .non, .bl _ => some false
  | .non, .str _ => some false
  | .int _, .non => some false
  | .bl _, .non => some false
  | .str _, .non => some false
  | .int _, .str _ => some false
  | .str _, .int _ => some false
  | .bl _, .str _ => some false
  | .str _, .bl _ => some false
  | _, _ => none
def eqP (d e : Dt) : Option Bool := if d.plain && e.plain && decide (min d.py.depth e.py.depth ≤ 180) then some (PyData.eqv d.py e.py) else none
@[simp] def eqD (d e : Dt) : Option Bool := (eqS d e).orElse fun _ => eqP d e
@[simp] def gEq (d e : Dt) : Option Dt := (eqD d e).map .bl
@[simp] def gNe (d e : Dt) : Option Dt := (eqD d e).map fun b => .bl (!b)
theorem eqS_scal {K : PySem.W.Frag} {A : Sa} {F H : Hp} {x y : V} {d e : Dt} {b : Bool} (ax : AtO K A F H x d) (ay : AtO K A F H y e) (h : eqS d e = some b) : scal x y = true ∧ decide (x = y) = b := by
  unfold eqS at h
  split at h
  all_goals first | cases h | skip
  all_goals try (have e1 := ax.non; subst e1)
  all_goals try (have e1 := ax.bl; subst e1)
  all_goals try (have e1 := ax.int; subst e1)
  all_goals try (have e1 := ax.str; subst e1)
  all_goals try (have e2 := ay.non; subst e2)
  all_goals try (have e2 := ay.bl; subst e2)
  all_goals try (have e2 := ay.int; subst e2)
  all_goals try (have e2 := ay.str; subst e2)
  all_goals refine ⟨rfl, ?_⟩
  all_goals first | exact dec_bl | exact dec_int | exact dec_str | simp
def rEqP (K : PySem.W.Frag) : R2 := fun x y H Q => ∃ d e : PyData, Dp K H x d ∧ Dp K H y e ∧ d.canLay0 = true ∧ e.canLay0 = true ∧ min d.depth e.depth ≤ 180 ∧ Q (.bl (PyData.eqv d e)) H
def rNeP (K : PySem.W.Frag) : R2 := fun x y H Q => ∃ d e : PyData, Dp K H x d ∧ Dp K H y e ∧ d.canLay0 = true ∧ e.canLay0 = true ∧ min d.depth e.depth ≤ 180 ∧ Q (.bl (!PyData.eqv d e)) H
theorem op_eqP {k : Nat} (hr : Rm k X.A) : OpR X (compareOp .Eq) (rEqP X.K) := by
  intro pins s σ H x y v u Q I rx ry h
  obtain ⟨d, e, hd, he, cd, ce, hm, q⟩ := h
  obtain ⟨as, r1⟩ := Dp.reads I d x v hd rx
  obtain ⟨bs, r2⟩ := Dp.reads I e y u he ry
  exact SeqAt.compareEq_reads r1 r2 cd ce (hr.un (by omega)) ⟨.bl _, H, I, rfl, q⟩
theorem op_neP {k : Nat} (hr : Rm k X.A) : OpR X (compareOp .NotEq) (rNeP X.K) := by
  intro pins s σ H x y v u Q I rx ry h
  obtain ⟨d, e, hd, he, cd, ce, hm, q⟩ := h
  obtain ⟨as, r1⟩ := Dp.reads I d x v hd rx
  obtain ⟨bs, r2⟩ := Dp.reads I e y u he ry
  exact SeqAt.compareNe_reads r1 r2 cd ce (hr.un (by omega)) ⟨.bl _, H, I, rfl, q⟩
theorem o_eq {k : Nat} (hr : Rm k X.A) : OpD X (compareOp .Eq) gEq := by
  refine ⟨_, op_eq.or (op_eqP hr), fun A F H s x y d e z Q g ax ay hz q => ?_⟩
  unfold gEq eqD at hz
  cases h : eqS d e with
  | some b =>
    rw [h] at hz
    cases hz
    obtain ⟨h1, h2⟩ := eqS_scal ax ay h
    exact .inl ⟨h1, by rw [h2]; exact q _ F H (Stq.refl g) (.bl b)⟩
  | none =>
    rw [h] at hz
    have hz' : (eqP d e).map Dt.bl = some z := hz
    unfold eqP at hz'
    split at hz'
    · next c =>
      simp only [Bool.and_eq_true, decide_eq_true_eq] at c
      cases hz'
      exact .inr ⟨_, _, ax.dp g.sub c.1.1, ay.dp g.sub c.1.2, lay_of_plain _ c.1.1, lay_of_plain _ c.1.2, c.2, q _ F H (Stq.refl g) (.bl _)⟩
    · cases hz'
theorem o_ne {k : Nat} (hr : Rm k X.A) : OpD X (compareOp .NotEq) gNe := by
  refine ⟨_, op_ne.or (op_neP hr), fun A F H s x y d e z Q g ax ay hz q => ?_⟩
  unfold gNe eqD at hz
  cases h : eqS d e with
  | some b =>
    rw [h] at hz
    cases hz
    obtain ⟨h1, h2⟩ := eqS_scal ax ay h
    exact .inl ⟨h1, by rw [h2]; exact q _ F H (Stq.refl g) (.bl _)⟩
  | none =>
    rw [h] at hz
    have hz' : (eqP d e).map (fun b => Dt.bl (!b)) = some z := hz
    unfold eqP at hz'
    split at hz'
    · next c =>
      simp only [Bool.and_eq_true, decide_eq_true_eq] at c
      cases hz'
      exact .inr ⟨_, _, ax.dp g.sub c.1.1, ay.dp g.sub c.1.2, lay_of_plain _ c.1.1, lay_of_plain _ c.1.2, c.2, q _ F H (Stq.refl g) (.bl _)⟩
    · cases hz'
/-! ### is None -/
@[simp] def isNon : Dt → Bool
  | .non => true
  | _ => false
@[simp] def gIs : Dt → Dt → Option Dt
  | d, .non => some (.bl (isNon d))
  | _, _ => none
@[simp] def gIsNot : Dt → Dt → Option Dt
  | d, .non => some (.bl (!isNon d))
  | _, _ => none
theorem isNon_of {K : PySem.W.Frag} {A : Sa} {F H : Hp} {x : V} {d : Dt} (ax : AtO K A F H x d) : decide (x = .non) = isNon d := by
  rcases ax with h | ⟨p, vs, ds, rfl, rfl, _⟩
  · cases h <;> simp [isNon]
  · simp [isNon]
theorem o_is : OpD X (compareOp .Is) gIs := by
  refine ⟨_, op_isN, fun A F H s x y d e z Q g ax ay hz q => ?_⟩
  unfold gIs at hz
  split at hz
  · cases hz
    exact ⟨ay.non, by rw [isNon_of ax]; exact q _ F H (Stq.refl g) (.bl _)⟩
  · cases hz
theorem o_isnot : OpD X (compareOp .IsNot) gIsNot := by
  refine ⟨_, op_notN, fun A F H s x y d e z Q g ax ay hz q => ?_⟩
  unfold gIsNot at hz
  split at hz
  · cases hz
    exact ⟨ay.non, by rw [isNon_of ax]; exact q _ F H (Stq.refl g) (.bl _)⟩
  · cases hz
/-! ### in -/
def flatD : Dt → Bool
  | .non => true
  | .bl _ => true
  | .int _ => true
  | .str _ => true
  | _ => false
def eqF : Dt → Dt → Bool
  | .non, .non => true
  | .bl a, .bl b => a == b
  | .bl a, .int b => (if a then 1 else 0) == b
  | .int a, .bl b => a == (if b then 1 else 0)
  | .int a, .int b => a == b
  | .str a, .str b => a == b
  | _, _ => false
def inF (d : Dt) (ds : List Dt) : Bool := ds.any fun e => eqF e d
theorem flat_of {K : PySem.W.Frag} {A : Sa} {F : Hp} {x : V} {d : Dt} (ax : At K A F x d) (h : flatD d = true) : flatV x = true := by
  cases ax <;> first | rfl | cases h
theorem eqF_of {K : PySem.W.Frag} {A : Sa} {F : Hp} {x y : V} {d e : Dt} (ax : At K A F x d) (ay : At K A F y e) (h : flatD d = true) (h' : flatD e = true) : eqV x y = eqF d e := by
  cases ax <;> first | cases h | skip
  all_goals cases ay <;> first | rfl | cases h'
theorem flats_of {K : PySem.W.Frag} {A : Sa} {F : Hp} : ∀ {vs : List V} {ds : List Dt}, AtL K A F vs ds → ds.all flatD = true → vs.all flatV = true
  | _, _, .nil, _ => rfl
  | _, _, .cons h t, q => by
    rw [List.all_cons, Bool.and_eq_true] at q
    rw [List.all_cons, flat_of h q.1, flats_of t q.2]
    rfl
theorem inF_of {K : PySem.W.Frag} {A : Sa} {F : Hp} {x : V} {d : Dt} (ax : At K A F x d) (hd : flatD d = true) : ∀ {vs : List V} {ds : List Dt}, AtL K A F vs ds → ds.all flatD = true → inV x vs = inF d ds
  | _, _, .nil, _ => rfl
  | _, _, .cons h t, q => by
    rw [List.all_cons, Bool.and_eq_true] at q
    have ih := inF_of ax hd t q.2
    unfold inV inF at ih ⊢
    rw [List.any_cons, List.any_cons, ih, eqF_of h ax q.1 hd]
def dkHas (kvs : List (Key × Dt)) (k : Key) : Bool := kvs.any fun kv => decide (kv.1 = k)
@[simp] def keyD : Dt → Option Key
  | .int i => some (.inl i)
  | .str x => some (.inr x)
  | _ => none
/-- x in y -/
def inD (d : Dt) : Dt → Option Bool
  | .tup ds => if flatD d && ds.all flatD then some (inF d ds) else none
  | .lst ds => if flatD d && ds.all flatD then some (inF d ds) else if d.plain && Dt.plains ds && decide (min (PyData.depthAll (Dt.pys ds)) d.py.depth ≤ 180) then some ((Dt.pys ds).any fun z => PyData.eqv z d.py) else none
  | .str z => (match d with
    | .str y => if y.length = 1 then some (decide (y.cps.getD 0 0 ∈ z.cps.toList)) else none
    | _ => none)
  | .dic kvs => (keyD d).map (dkHas kvs)
  | _ => none
def gIn (d e : Dt) : Option Dt := (inD d e).map .bl
def gNotIn (d e : Dt) : Option Dt := (inD d e).map fun b => .bl (!b)
def rInP (K : PySem.W.Frag) (n : Bool) : R2 := fun x y H Q => ∃ (d : PyData) (ds : List PyData), Dp K H x d ∧ Dp K H y (.list ds) ∧ d.canLay0 = true ∧ PyData.canLayAll0 ds = true ∧ min (PyData.depthAll ds) d.depth ≤ 180 ∧ Q (.bl (if n then !ds.any fun z => PyData.eqv z d else ds.any fun z => PyData.eqv z d)) H
theorem op_inP {k : Nat} (hr : Rm k X.A) : OpR X (compareOp .In) (rInP X.K false) := by
  intro pins s σ H x y v u Q I rx ry h
  obtain ⟨d, ds, hd, he, sd, se, hm, q⟩ := h
  obtain ⟨as, r1⟩ := Dp.reads I d x v hd rx
  obtain ⟨bs, r2⟩ := Dp.reads I (.list ds) y u he ry
  refine SeqAt.in_list_reads r2 r1 se sd ?_ ⟨.bl _, H, I, rfl, q⟩
  have := hr.un (n := 181) (by omega)
  omega
theorem op_notInP {k : Nat} (hr : Rm k X.A) : OpR X (compareOp .NotIn) (rInP X.K true) := by
  intro pins s σ H x y v u Q I rx ry h
  obtain ⟨d, ds, hd, he, sd, se, hm, q⟩ := h
  obtain ⟨as, r1⟩ := Dp.reads I d x v hd rx
  obtain ⟨bs, r2⟩ := Dp.reads I (.list ds) y u he ry
  refine SeqAt.notIn_list_reads r2 r1 se sd ?_ ⟨.bl _, H, I, rfl, q⟩
  have := hr.un (n := 181) (by omega)
  omega
theorem one_sign {y : Str} (h : y.length = 1) : y = ⟨#[y.cps.getD 0 0]⟩ := by
  obtain ⟨⟨l⟩⟩ := y
  have h' : l.length = 1 := h
  match l, h' with
  | [c], _ => rfl
theorem AtO.at {K : PySem.W.Frag} {A : Sa} {F H : Hp} {x : V} {d : Dt} (h : AtO K A F H x d) (f : flatD d = true) : At K A F x d := by
  rcases h with h | ⟨_, _, _, _, e, _⟩
  · exact h
  · rw [e] at f; cases f
/-- the two rules of 'in' at once: n is whether it is 'not in' -/
theorem in_any {f : Value → Value → Sem Value} {n : Bool} (h1 : OpR X f (rIn X.K n)) (h2 : OpR X f (rInP X.K n)) (h3 : OpR X f fun x y H Q => ∃ (c : Nat) (z : Str), x = .str ⟨#[c]⟩ ∧ y = .str z ∧ Q (.bl (if n then !decide (c ∈ z.cps.toList) else decide (c ∈ z.cps.toList))) H) :
    OpD X f fun d e => match e with
      | .dic _ => none
      | _ => (inD d e).map fun b => .bl (if n then !b else b) := by
  refine ⟨_, (h1.or h2).or h3, fun A F H s x y d e z Q g ax ay hz q => ?_⟩
  have hb : (∃ b, inD d e = some b ∧ z = .bl (if n then !b else b)) ∧ ∀ kvs, e ≠ .dic kvs := by
    cases e with
    | dic kvs => cases hz
    | _ =>
      refine ⟨?_, nofun⟩
      obtain ⟨b, h, q⟩ := Option.map_eq_some_iff.mp hz
      exact ⟨b, h, q.symm⟩
  obtain ⟨⟨b, hi, rfl⟩, nd⟩ := hb
  have q' := q _ F H (Stq.refl g) (.bl _)
  clear hz q
  cases e with
  | tup ds =>
    obtain ⟨c, rfl⟩ := of_ite (show (if flatD d && ds.all flatD then some (inF d ds) else none) = some b from hi)
    rw [Bool.and_eq_true] at c
    obtain ⟨p, vs, rfl, e1, e2⟩ := ay.tup g.sub
    have a1 := ax.at c.1
    refine .inl (.inl ⟨p, vs, rfl, .inr e1, flat_of a1 c.1, flats_of e2 c.2, ?_⟩)
    rw [inF_of a1 c.1 e2 c.2]
    cases n <;> exact q'
  | lst ds =>
    have hi' : (if flatD d && ds.all flatD then some (inF d ds) else if d.plain && Dt.plains ds && decide (min (PyData.depthAll (Dt.pys ds)) d.py.depth ≤ 180) then some ((Dt.pys ds).any fun z => PyData.eqv z d.py) else none) = some b := hi
    by_cases c : (flatD d && ds.all flatD) = true
    · rw [if_pos c] at hi'
      rw [Bool.and_eq_true] at c
      cases hi'
      obtain ⟨p, vs, rfl, e1, e2⟩ := ay.lst g.sub
      have a1 := ax.at c.1
      refine .inl (.inl ⟨p, vs, rfl, .inl (SqL.of e1), flat_of a1 c.1, flats_of e2 c.2, ?_⟩)
      rw [inF_of a1 c.1 e2 c.2]
      cases n <;> exact q'
    · rw [if_neg c] at hi'
      obtain ⟨c, rfl⟩ := of_ite hi'
      simp only [Bool.and_eq_true, decide_eq_true_eq] at c
      exact .inl (.inr ⟨d.py, Dt.pys ds, ax.dp g.sub c.1.1, AtO.dp (d := .lst ds) g.sub ay c.1.2, lay_of_plain _ c.1.1, lays_of_plain _ c.1.2, c.2, q'⟩)
  | str w =>
    cases d with
    | str y =>
      have hi' : (if y.length = 1 then some (decide (y.cps.getD 0 0 ∈ w.cps.toList)) else none) = some b := hi
      by_cases c : y.length = 1
      · rw [if_pos c] at hi'
        cases hi'
        have e1 := ax.str
        have e2 := ay.str
        subst e1 e2
        exact .inr ⟨_, w, by rw [← one_sign c], rfl, q'⟩
      · rw [if_neg c] at hi'
        cases hi'
    | _ => cases hi
  | dic kvs => exact absurd rfl (nd kvs)
  | non => cases hi
  | bl b => cases hi
  | int i => cases hi
  | src => cases hi
  | scr _ => cases hi
def gInS (d e : Dt) : Option Dt := match e with
  | .dic _ => none
  | _ => gIn d e
def gNotInS (d e : Dt) : Option Dt := match e with
  | .dic _ => none
  | _ => gNotIn d e
theorem o_in {k : Nat} (hr : Rm k X.A) : OpD X (compareOp .In) gInS := by
  obtain ⟨rr, h1, h2⟩ := (in_any (n := false) op_in_seq (op_inP hr) (op_in_sign (X := X))).ex
  refine ⟨rr, h1, fun A F H s x y d e z Q g ax ay hz q => h2 A F H s x y d e z Q g ax ay ?_ q⟩
  cases e <;> exact hz
theorem o_notin {k : Nat} (hr : Rm k X.A) : OpD X (compareOp .NotIn) gNotInS := by
  obtain ⟨rr, h1, h2⟩ := (in_any (n := true) op_notIn_seq (op_notInP hr) (op_notIn_sign (X := X))).ex
  refine ⟨rr, h1, fun A F H s x y d e z Q g ax ay hz q => h2 A F H s x y d e z Q g ax ay ?_ q⟩
  cases e <;> exact hz
end
end DD
set_option Elab.async false
set_option linter.all false
set_option maxRecDepth 100000
set_option maxHeartbeats 1000000
/-! DDd: tests, subscripts, slices, built-in calls, dicts. -/
namespace DD
open PySem PySem.Spec PyProof.Rows L2

section
variable {X : Cx} {W : WX} {e e2 e3 : Expr} {es : List Expr} {f g : Sm Dt} {fs gs : Sm (List Dt)} {b c : Sm Bool} {pos p2 : Pos}

/-! ### tests -/
@[simp] def tAnd' (b c : Sm Bool) : Sm Bool := fun ρ s => (b ρ s).bind fun x s2 => if x then c ρ s2 else .ok false s2
@[simp] def tOr' (b c : Sm Bool) : Sm Bool := fun ρ s => (b ρ s).bind fun x s2 => if x then .ok true s2 else c ρ s2
@[simp] def tNot' (b : Sm Bool) : Sm Bool := fun ρ s => (b ρ s).bind fun x s2 => .ok (!x) s2
theorem dw_and1 (h : DT X W e b) : DW X W (.BoolOp .And [e] pos) b := ⟨pw_and1 h.pt⟩
theorem dw_or1 (h : DT X W e b) : DW X W (.BoolOp .Or [e] pos) b := ⟨pw_or1 h.pt⟩
theorem dw_and (h : DT X W e b) (h2 : DW X W (.BoolOp .And (e2 :: es) pos) c) : DW X W (.BoolOp .And (e :: e2 :: es) pos) (tAnd' b c) := by
  refine ⟨pw_imp (pw_and h.pt h2.pw) fun σ H Q h => In.run h ?_⟩
  intro A F0 H0 F s ρ x s2 v F2 H2 ok st so ok2 r o
  cases r
  cases x with
  | true => exact ⟨A, F0, H0, F2, s2, ρ, ok2, o.shift st fun _ _ _ _ r => r⟩
  | false => exact o.ok st so rfl
theorem dw_or (h : DT X W e b) (h2 : DW X W (.BoolOp .Or (e2 :: es) pos) c) : DW X W (.BoolOp .Or (e :: e2 :: es) pos) (tOr' b c) := by
  refine ⟨pw_imp (pw_or h.pt h2.pw) fun σ H Q h => In.run h ?_⟩
  intro A F0 H0 F s ρ x s2 v F2 H2 ok st so ok2 r o
  cases r
  cases x with
  | true => exact o.ok st so rfl
  | false => exact ⟨A, F0, H0, F2, s2, ρ, ok2, o.shift st fun _ _ _ _ r => r⟩
theorem DW.t (h : DW X W e b) : DT X W e b := ⟨h.pw.pt⟩
theorem dt_not (h : DT X W e b) : DT X W (.UnaryOp .Not e pos) (tNot' b) := by
  refine ⟨pt_imp (pt_not h.pt) fun σ H Q h => In.run h ?_⟩
  intro A F0 H0 F s ρ x s2 v F2 H2 ok st so ok2 r o
  cases r
  exact o.ok st so rfl
/-- the truth of a value -/
@[simp] def truD : Dt → Option Bool
  | .non => some false
  | .bl b => some b
  | .int i => some (i != 0)
  | .tup xs => some (!xs.isEmpty)
  | .lst xs => some (!xs.isEmpty)
  | _ => none
@[simp] def tTru' (f : Sm Dt) : Sm Bool := fun ρ s => (f ρ s).bind fun d s2 => ofO (truD d) s2
theorem AtL.empty {K : PySem.W.Frag} {A : Sa} {F : Hp} {vs : List V} {ds : List Dt} (h : AtL K A F vs ds) : vs.isEmpty = ds.isEmpty := by cases h <;> rfl
theorem dt_truth (h : DO X W e f) (he : ∀ whole, isTrue e X.env whole = (do let v ← whole; standAt e.pos; holding [v] (truthy v)) := by intro _; rfl) : DT X W e (tTru' f) := by
  refine ⟨pt_imp (pt_truth h.pe he) fun σ H Q h => In.run h ?_⟩
  intro A F0 H0 F s ρ d s2 v F2 H2 ok st so ok2 r o
  obtain ⟨k, hk, o⟩ := o.o
  refine ⟨k, ?_, o.ok st so rfl⟩
  cases d with
  | non => have q := r.non; subst q; cases hk; rfl
  | bl b => have q := r.bl; subst q; cases hk; rfl
  | int i => have q := r.int; subst q; cases hk; rfl
  | tup xs =>
    obtain ⟨a, vs, rfl, h1, h2⟩ := r.tup ok2.gd.sub
    cases hk
    exact .inr (.inl ⟨vs, h1, by rw [h2.empty]⟩)
  | lst xs =>
    obtain ⟨a, vs, rfl, h1, h2⟩ := r.lst ok2.gd.sub
    cases hk
    exact .inl ⟨vs, SqL.of h1, by rw [h2.empty]⟩
  | _ => cases hk
/-- .. as bools -/
@[simp] def vAnd (f g : Sm Dt) : Sm Dt := fun ρ s => (f ρ s).bind fun d s2 => match d with
  | .bl true => g ρ s2
  | .bl false => .ok (.bl false) s2
  | _ => .no
@[simp] def vOr (f g : Sm Dt) : Sm Dt := fun ρ s => (f ρ s).bind fun d s2 => match d with
  | .bl true => .ok (.bl true) s2
  | .bl false => g ρ s2
  | _ => .no
@[simp] def vNot (f : Sm Dt) : Sm Dt := fun ρ s => (f ρ s).bind fun d s2 => match d with
  | .bl b => .ok (.bl (!b)) s2
  | _ => .no
theorem de_one {op} (h : DE X W e f) : DE X W (.BoolOp op [e] pos) f := ⟨pe_one h.pe⟩
theorem de_and (h : DE X W e f) (h2 : DE X W (.BoolOp .And (e2 :: es) pos) g) : DE X W (.BoolOp .And (e :: e2 :: es) pos) (vAnd f g) := by
  refine ⟨pe_imp (pe_and h.pe h2.pe) fun σ H Q h => In.run h ?_⟩
  intro A F0 H0 F s ρ d s2 v F2 H2 ok st so ok2 r o
  cases d with
  | bl x =>
    cases r
    refine ⟨x, rfl, ?_⟩
    cases x with
    | true => exact ⟨A, F0, H0, F2, s2, ρ, ok2, o.shift st fun _ _ _ _ r => r⟩
    | false => exact o.ok st so (.bl false)
  | _ => exact o.elim
theorem de_or (h : DE X W e f) (h2 : DE X W (.BoolOp .Or (e2 :: es) pos) g) : DE X W (.BoolOp .Or (e :: e2 :: es) pos) (vOr f g) := by
  refine ⟨pe_imp (pe_or h.pe h2.pe) fun σ H Q h => In.run h ?_⟩
  intro A F0 H0 F s ρ d s2 v F2 H2 ok st so ok2 r o
  cases d with
  | bl x =>
    cases r
    refine ⟨x, rfl, ?_⟩
    cases x with
    | true => exact o.ok st so (.bl true)
    | false => exact ⟨A, F0, H0, F2, s2, ρ, ok2, o.shift st fun _ _ _ _ r => r⟩
  | _ => exact o.elim
theorem de_not (h : DE X W e f) : DE X W (.UnaryOp .Not e pos) (vNot f) := by
  refine ⟨pe_imp (pe_not h.pe) fun σ H Q h => In.run h ?_⟩
  intro A F0 H0 F s ρ d s2 v F2 H2 ok st so ok2 r o
  cases d with
  | bl x =>
    cases r
    exact ⟨x, rfl, o.ok st so (.bl _)⟩
  | _ => exact o.elim
@[simp] def vIf (b : Sm Bool) (f g : Sm Dt) : Sm Dt := fun ρ s => (b ρ s).bind fun x s2 => if x then f ρ s2 else g ρ s2
theorem de_if (hc : DT X W e b) (ha : DE X W e2 f) (hb : DE X W e3 g) : DE X W (.IfExp e e2 e3 pos) (vIf b f g) := by
  refine ⟨pe_imp (pe_ifExp hc.pt ha.pe hb.pe) fun σ H Q h => In.run h ?_⟩
  intro A F0 H0 F s ρ x s2 v F2 H2 ok st so ok2 r o
  cases r
  cases x with
  | true => exact ⟨A, F0, H0, F2, s2, ρ, ok2, o.shift st fun _ _ _ _ r => r⟩
  | false => exact ⟨A, F0, H0, F2, s2, ρ, ok2, o.shift st fun _ _ _ _ r => r⟩
@[simp] def lIf (b : Sm Bool) (fs gs : Sm (List Dt)) : Sm (List Dt) := fun ρ s => (b ρ s).bind fun x s2 => if x then fs ρ s2 else gs ρ s2
theorem rL_shift {K : PySem.W.Frag} {A : Sa} {F H F2 H2 : Hp} (st : Stp A F H F2 H2) : ∀ ds v F3 H3, rL K A H2 ds v F3 H3 → rL K A H ds v F3 H3 := by
  intro ds v F3 H3 ⟨p, vs, e, n, h⟩
  refine ⟨p, vs, e, ?_, h⟩
  obtain ⟨_, _, nf, _⟩ := h
  cases q : H p with
  | none => rfl
  | some o => rw [st.keep p o q nf] at n; cases n
theorem dl_if (hc : DT X W e b) (ha : DL X W e2 fs) (hb : DL X W e3 gs) : DL X W (.IfExp e e2 e3 pos) (lIf b fs gs) := by
  refine ⟨pe_imp (pe_ifExp hc.pt ha.pe hb.pe) fun σ H Q h => In.run h ?_⟩
  intro A F0 H0 F s ρ x s2 v F2 H2 ok st so ok2 r o
  cases r
  cases x with
  | true => exact ⟨A, F0, H0, F2, s2, ρ, ok2, o.shift st (rL_shift st)⟩
  | false => exact ⟨A, F0, H0, F2, s2, ρ, ok2, o.shift st (rL_shift st)⟩
/-- -x -/
@[simp] def gNeg : Dt → Option Dt
  | .int i => some (.int (-i))
  | _ => none
@[simp] def vUn (g : Dt → Option Dt) (f : Sm Dt) : Sm Dt := fun ρ s => (f ρ s).bind fun d s2 => ofO (g d) s2
theorem de_neg (h : DE X W e f) : DE X W (.UnaryOp .USub e pos) (vUn gNeg f) := by
  refine ⟨pe_imp (pe_un un_neg h.pe) fun σ H Q h => In.run h ?_⟩
  intro A F0 H0 F s ρ d s2 v F2 H2 ok st so ok2 r o
  obtain ⟨z, hz, o⟩ := o.o
  cases d with
  | int i =>
    cases r
    cases hz
    exact ⟨i, rfl, o.ok st so (.int _)⟩
  | _ => cases hz
/-- a chain a < b < c of tests -/
def tChain' (g1 g2 : Dt → Dt → Option Dt) (f f2 f3 : Sm Dt) : Sm Bool := fun ρ s => (f ρ s).bind fun d s2 => (f2 ρ s2).bind fun e s3 => (ofO ((g1 d e).bind dB) s3).bind fun x s4 =>
  if x then (f3 ρ s4).bind fun z s5 => ofO ((g2 e z).bind dB) s5 else .ok false s4

/-! ### subscripts -/
def lookD (kvs : List (Key × Dt)) (k : Key) : Option Dt := (kvs.find? fun kv => decide (kv.1 = k)).map (·.2)
def gIx : Dt → Dt → Option Dt
  | .tup xs, .int i => atI xs i
  | .lst xs, .int i => atI xs i
  | .str x, .int i => if chk x.length then (atI x.cps.toList i).map fun c => .str ⟨#[c]⟩ else none
  | .dic kvs, k => (keyD k).bind (lookD kvs)
  | _, _ => none
theorem AtL.atI {K : PySem.W.Frag} {A : Sa} {F : Hp} {vs : List V} {ds : List Dt} {i : Int} {d : Dt} (h : AtL K A F vs ds) (e : L2.atI ds i = some d) : ∃ v, L2.atI vs i = some v ∧ At K A F v d := by
  unfold L2.atI at e ⊢
  rw [h.length]
  cases q : ixN ds.length i with
  | none => rw [q] at e; cases e
  | some j =>
    rw [q] at e
    exact h.get e
theorem look_of {K : PySem.W.Frag} {A : Sa} {F : Hp} {k : Key} : ∀ {vs : List (Key × V)} {ds : List (Key × Dt)}, AtK K A F vs ds → (lookD ds k = none → valV vs k = none) ∧ ∀ d, lookD ds k = some d → ∃ v, valV vs k = some v ∧ At K A F v d
  | _, _, .nil => ⟨fun _ => rfl, nofun⟩
  | _, _, .cons (k := j) (v := v) (vs := vs) (d := d) (ds := ds) h t => by
    have ih := look_of (k := k) t
    by_cases q : j = k
    · have e1 : lookD ((j, d) :: ds) k = some d := by simp [lookD, q]
      have e2 : valV ((j, v) :: vs) k = some v := valV_pos q
      rw [e1, e2]
      refine ⟨nofun, fun d' e => ?_⟩
      cases e
      exact ⟨v, rfl, h⟩
    · have e1 : lookD ((j, d) :: ds) k = lookD ds k := by simp [lookD, List.find?_cons, q]
      have e2 : valV ((j, v) :: vs) k = valV vs k := valV_neg q
      rw [e1, e2]
      exact ih
theorem keyD_of {K : PySem.W.Frag} {A : Sa} {F H : Hp} {x : V} {d : Dt} {k : Key} (a : AtO K A F H x d) (h : keyD d = some k) : x = kV k := by
  cases d with
  | int i => cases h; exact a.int
  | str z => cases h; exact a.str
  | _ => cases h
theorem pe_alt {t u : TE} (h : PE X e t) (h2 : PE X e u) : PE X e (fun σ H Q => t σ H Q ∨ u σ H Q) := ⟨fun pins s σ H Q I q => by
  rcases q with q | q
  · exact h.run pins s σ H Q I q
  · exact h2.run pins s σ H Q I q⟩
theorem de_ix {k : Nat} (hr : Rm k X.A) (ha : DO X W e f) (hb : DO X W e2 g) (hs : PlainIx e2 := by exact fun _ _ => rfl) (hs2 : NoSl e2 := by exact fun _ _ => rfl) : DE X W (.Subscript e e2 pos) (vOp gIx f g) := by
  refine ⟨pe_imp (pe_alt (pe_ix (ix_seq (X := X)) ha.pe hb.pe hs) (pe_dget (hr.un (by omega)) ha.pe hb.pe hs2)) fun σ H Q h => ?_⟩
  have h' := h
  obtain ⟨A, F0, H0, F, s, ρ, ok, o⟩ := h
  cases q1 : f ρ s with
  | no => rw [vOp, q1] at o; exact o.elim
  | ex x s2 =>
    rw [vOp, q1] at o
    refine .inl ⟨A, F0, H0, F, s, ρ, ok, ?_⟩
    rw [q1]
    exact o
  | ok d s2 =>
    rw [vOp, q1] at o
    have o : Out X.mg W A F H σ (rD X.K A H) Q ((g ρ s2).bind fun e s3 => ofO (gIx d e) s3) := o
    have isD : (∃ kvs, d = .dic kvs) ∨ ∀ kvs, d ≠ .dic kvs := by
      cases d with
      | dic kvs => exact .inl ⟨kvs, rfl⟩
      | _ => exact .inr nofun
    rcases isD with ⟨kvs, rfl⟩ | nd
    · refine .inr ⟨A, F0, H0, F, s, ρ, ok, ?_⟩
      rw [q1]
      intro v F2 H2 st so r
      have ok2 := ok.step st so
      refine ⟨A, F0, H0, F2, s2, ρ, ok2, Out.bind (o.shift st fun _ _ _ _ r => r) fun y s3 w F3 H3 st3 so3 r3 o3 => ?_⟩
      obtain ⟨z, hz, o4⟩ := o3.o
      have g3 := st3.gd so3
      obtain ⟨a, xs, rfl, h1, h2⟩ := (r.step st3).dic g3.sub
      have hz : (keyD y).bind (lookD kvs) = some z := by cases y <;> exact hz
      cases hk : keyD y with
      | none => rw [hk] at hz; cases hz
      | some k =>
        rw [hk] at hz
        obtain ⟨v, hv, av⟩ := (look_of h2).2 z hz
        have e := keyD_of r3 hk
        subst e
        exact ⟨a, v, rfl, by rw [← hv]; exact DGet.k h1, o4.ok st3 so3 av⟩
    · refine .inl ⟨A, F0, H0, F, s, ρ, ok, ?_⟩
      rw [q1]
      intro v F2 H2 st so r
      have ok2 := ok.step st so
      refine ⟨A, F0, H0, F2, s2, ρ, ok2, Out.bind (o.shift st fun _ _ _ _ r => r) fun y s3 w F3 H3 st3 so3 r3 o3 => ?_⟩
      obtain ⟨z, hz, o4⟩ := o3.o
      have g3 := st3.gd so3
      have r := r.step st3
      unfold gIx at hz
      split at hz
      · have e := r3.int
        subst e
        obtain ⟨a, xs, rfl, h1, h2⟩ := r.tup g3.sub
        obtain ⟨v, hv, av⟩ := h2.atI hz
        exact .inr (.inl ⟨a, xs, _, v, rfl, rfl, h1, hv, o4 v F3 H3 st3 so3 av⟩)
      · have e := r3.int
        subst e
        obtain ⟨a, xs, rfl, h1, h2⟩ := r.lst g3.sub
        obtain ⟨v, hv, av⟩ := h2.atI hz
        exact .inl ⟨a, xs, _, v, rfl, rfl, SqL.of h1, hv, o4 v F3 H3 st3 so3 av⟩
      · have e := r3.int
        have e1 := r.str
        subst e e1
        split at hz
        · next hc =>
          obtain ⟨c, hc1, rfl⟩ := Option.map_eq_some_iff.mp hz
          exact .inr (.inr ⟨_, _, c, rfl, rfl, chk_of hc, hc1, o4.ok st3 so3 (.str _)⟩)
        · cases hz
      · exact absurd rfl (nd _)
      · cases hz

/-! ### slices -/
abbrev rP : Sa → Hp → Option Int → Option Int → Hp → Hp → Prop := fun _ _ o o' _ _ => o = o'
structure DP (X : Cx) (W : WX) (e : Option Expr) (f : Sm (Option Int)) : Prop where
  po : PO X e (In X.K X.mg W rP f)
theorem po_imp {eo : Option Expr} {t u : TO} (h : PO X eo t) (i : ∀ σ H Q, u σ H Q → t σ H Q) : PO X eo u := ⟨fun pins s σ H Q I q => h.run pins s σ H Q I (i σ H Q q)⟩
@[simp] def pNone : Sm (Option Int) := fun _ s => .ok none s
@[simp] def dI : Dt → Option Int
  | .int i => some i
  | _ => none
@[simp] def pSome (f : Sm Dt) : Sm (Option Int) := fun ρ s => (f ρ s).bind fun d s2 => ofO ((dI d).map some) s2
theorem dp_none : DP X W none pNone := by
  refine ⟨po_imp po_none fun σ H Q h => ?_⟩
  obtain ⟨A, F0, H0, F, s, ρ, ok, o⟩ := h
  exact o.ok (Stp.refl ok.gd) ok.so rfl
theorem dp_some (h : DE X W e f) : DP X W (some e) (pSome f) := by
  refine ⟨po_imp (po_some h.pe) fun σ H Q h => In.run h ?_⟩
  intro A F0 H0 F s ρ d s2 v F2 H2 ok st so ok2 r o
  obtain ⟨z, hz, o⟩ := o.o
  cases d with
  | int i =>
    cases r
    cases hz
    exact ⟨i, rfl, o.ok st so rfl⟩
  | _ => cases hz
def cutD {α : Type} (xs : List α) (lo hi : Option Int) : List α := (xs.drop (HT.sIx xs.length 0 lo)).take (HT.sIx xs.length xs.length hi - HT.sIx xs.length 0 lo)
theorem AtL.cut {K : PySem.W.Frag} {A : Sa} {F : Hp} {vs : List V} {ds : List Dt} (h : AtL K A F vs ds) (lo hi : Option Int) : AtL K A F (cutV vs lo hi) (cutD ds lo hi) := by
  unfold cutV cutD
  rw [h.length]
  exact (h.drop _).take _
theorem cutD_whole {α : Type} (xs : List α) (lo hi : Option Int) (h : HT.sIx xs.length 0 lo = 0 ∧ HT.sIx xs.length xs.length hi = xs.length) : cutD xs lo hi = xs := by
  unfold cutD
  rw [h.1, h.2, List.drop_zero, Nat.sub_zero, List.take_length]
/-- a slice of a tuple or a text, a value -/
@[simp] def gSl (d : Dt) (lo hi : Option Int) : Option Dt := match d with
  | .tup xs => some (.tup (cutD xs lo hi))
  | .str z => if chk z.length then some (.str (cutS z lo hi)) else none
  | .lst xs => some (.lst (cutD xs lo hi))
  | _ => none
@[simp] def vSl (f : Sm Dt) (pl ph : Sm (Option Int)) : Sm Dt := fun ρ s => (f ρ s).bind fun d s2 => (pl ρ s2).bind fun lo s3 => (ph ρ s3).bind fun hi s4 => ofO (gSl d lo hi) s4
variable {pl ph : Sm (Option Int)} {lo hi : Option Expr}
theorem de_slice (he : DO X W e f) (hl : DP X W lo pl) (hh : DP X W hi ph) : DE X W (.Subscript e (.Slice lo hi none p2) pos) (vSl f pl ph) := by
  refine ⟨pe_imp (pe_slice (sl_tupA.or (sl_str.or sl_list)) he.pe hl.po hh.po) fun σ H Q h => In.run h ?_⟩
  intro A F0 H0 F s ρ d s2 v F2 H2 ok st so ok2 r o
  refine ⟨A, F0, H0, F2, s2, ρ, ok2, Out.bind (o.shift st fun _ _ _ _ r => r) fun l s3 l' F3 H3 st3 so3 r3 o3 => ?_⟩
  subst r3
  refine ⟨A, F0, H0, F3, s3, ρ, ok2.step st3 so3, Out.bind (o3.shift st3 fun _ _ _ _ r => r) fun u s4 u' F4 H4 st4 so4 r4 o4 => ?_⟩
  subst r4
  obtain ⟨z, hz, o4⟩ := o4.o
  have g4 := st4.gd so4
  have r := (r.step st3).step st4
  have o4 : ∀ v F5 H5, Stq A F4 H4 F5 H5 → At X.K A F5 v z → Q v H5 := fun v F5 H5 q a => o4 v F5 H5 (st4.trans q.p) (so4.keep q.keep) a
  unfold gSl at hz
  split at hz
  · cases hz
    obtain ⟨a, xs, rfl, h1, h2⟩ := r.tup g4.sub
    refine .inl ⟨a, xs, rfl, h1, fun w => ?_, fun _ p hp => ?_⟩
    · rw [h2.length] at w
      rcases r with r | ⟨_, _, _, _, ee, _⟩
      · refine o4 _ _ _ (Stq.refl g4) ?_
        rw [cutD_whole _ _ _ w]
        exact r
      · cases ee
    · have q := Stq.alloc (o := .tup (cutV xs l u)) g4 hp
      exact o4 _ _ _ q (.tup (SqT.of upd_same) (AtL.up q.ext _ _ (h2.cut l u)))
  · obtain ⟨c, rfl⟩ := of_ite hz
    have e1 := r.str
    subst e1
    exact .inr (.inl ⟨_, rfl, chk_of c, o4 _ _ _ (Stq.refl g4) (.str _)⟩)
  · cases hz
    obtain ⟨a, xs, rfl, h1, h2⟩ := r.lst g4.sub
    refine .inr (.inr ⟨a, xs, rfl, SqL.of h1, fun p hp => ?_⟩)
    have q := Stq.alloc (o := .lst (cutV xs l u)) g4 hp
    exact o4 _ _ _ q (.lst upd_same (AtL.up q.ext _ _ (h2.cut l u)))
  · cases hz
/-- a new list -/
theorem rL_new {A : Sa} {F H F2 H2 : Hp} {s2 : Sv} {vs : List V} {ds : List Dt} {Q : VK} {σ : L2.St} {K : PySem.W.Frag} (st : Stp A F H F2 H2) (g : Gd A F2 H2 s2) (a : AtL K A F2 vs ds) (o : Out X.mg W A F H σ (rL K A H) Q (.ok ds s2)) : ∀ p, H2 p = none → Q (.ref p) (upd H2 p (.lst vs)) := by
  intro p hp
  have q := Stq.loose (o := .lst vs) g hp
  have nf : ¬ fp A p := fun f => by
    obtain ⟨u, hu⟩ := g.so.there f
    rw [hp] at hu; cases hu
  have n0 : H p = none := by
    cases e : H p with
    | none => rfl
    | some u => rw [st.keep p u e nf] at hp; cases hp
  exact o.ok (st.trans q.p) (g.so.keep q.keep) ⟨p, vs, rfl, n0, upd_same, g.sub.free hp, nf, a⟩
@[simp] def dLst : Dt → Option (List Dt)
  | .lst xs => some xs
  | _ => none
@[simp] def lSl (f : Sm Dt) (pl ph : Sm (Option Int)) : Sm (List Dt) := fun ρ s => (f ρ s).bind fun d s2 => (pl ρ s2).bind fun lo s3 => (ph ρ s3).bind fun hi s4 => ofO ((dLst d).map fun xs => cutD xs lo hi) s4
theorem dl_slice (he : DO X W e f) (hl : DP X W lo pl) (hh : DP X W hi ph) : DL X W (.Subscript e (.Slice lo hi none p2) pos) (lSl f pl ph) := by
  refine ⟨pe_imp (pe_slice sl_list he.pe hl.po hh.po) fun σ H Q h => In.run h ?_⟩
  intro A F0 H0 F s ρ d s2 v F2 H2 ok st so ok2 r o
  refine ⟨A, F0, H0, F2, s2, ρ, ok2, Out.bind (o.shift st (rL_shift st)) fun l s3 l' F3 H3 st3 so3 r3 o3 => ?_⟩
  subst r3
  refine ⟨A, F0, H0, F3, s3, ρ, ok2.step st3 so3, Out.bind (o3.shift st3 (rL_shift st3)) fun u s4 u' F4 H4 st4 so4 r4 o4 => ?_⟩
  subst r4
  obtain ⟨z, hz, o4⟩ := o4.o
  have g4 := st4.gd so4
  have r := (r.step st3).step st4
  cases d with
  | lst ds =>
    cases hz
    obtain ⟨a, xs, rfl, h1, h2⟩ := r.lst g4.sub
    exact ⟨a, xs, rfl, SqL.of h1, rL_new st4 g4 (h2.cut l u) o4⟩
  | _ => cases hz
/-- xs[::-1] -/
@[simp] def lRev (f : Sm Dt) : Sm (List Dt) := fun ρ s => (f ρ s).bind fun d s2 => ofO ((dLst d).map List.reverse) s2
theorem dl_rev {k : Nat} {p1 p3 : Pos} (he : DO X W e f) : DL X W (.Subscript e (.Slice none none (some (.UnaryOp .USub (.Constant (.int 1) k p1) p2)) p3) pos) (lRev f) := by
  refine ⟨pe_imp (pe_revL he.pe) fun σ H Q h => In.run h ?_⟩
  intro A F0 H0 F s ρ d s2 v F2 H2 ok st so ok2 r o
  obtain ⟨z, hz, o⟩ := o.o
  cases d with
  | lst ds =>
    cases hz
    obtain ⟨a, xs, rfl, h1, h2⟩ := r.lst ok2.gd.sub
    exact ⟨a, xs, rfl, SqL.of h1, rL_new st ok2.gd h2.reverse o⟩
  | _ => cases hz
/-- xs + ys, a new list of our own -/
@[simp] def lCat (f g : Sm Dt) : Sm (List Dt) := fun ρ s => (f ρ s).bind fun d s2 => (g ρ s2).bind fun e s3 => ofO ((dLst d).bind fun xs => (dLst e).bind fun ys => if chk (xs.length + ys.length) then some (xs ++ ys) else none) s3
theorem dl_cat (ha : DO X W e f) (hb : DO X W e2 g) : DL X W (.BinOp e .Add e2 pos) (lCat f g) := by
  refine ⟨pe_imp (pe_op op_cat ha.pe hb.pe) fun σ H Q h => In.run h ?_⟩
  intro A F0 H0 F s ρ d s2 v F2 H2 ok st so ok2 r o
  refine ⟨A, F0, H0, F2, s2, ρ, ok2, Out.bind (o.shift st (rL_shift st)) fun y s3 w F3 H3 st3 so3 r3 o3 => ?_⟩
  obtain ⟨z, hz, o3⟩ := o3.o
  have g3 := st3.gd so3
  cases d with
  | lst ds =>
    cases y with
    | lst es =>
      obtain ⟨c, rfl⟩ := of_ite (show (if chk (ds.length + es.length) then some (ds ++ es) else none) = some z from hz)
      obtain ⟨a, xs, rfl, h1, h2⟩ := (r.step st3).lst g3.sub
      obtain ⟨b, ys, rfl, h3, h4⟩ := r3.lst g3.sub
      exact ⟨a, b, xs, ys, rfl, rfl, h1, h3, by rw [h2.length, h4.length]; exact chk_of c, rL_new st3 g3 (h2.append h4) o3⟩
    | _ => cases hz
  | _ => cases hz
/-- xs * n -/
def repC (n : Nat) (k : Int) : Bool := decide (-(2 ^ 63) ≤ k) && decide (k < 2 ^ 63) && chk (n * k.toNat)
@[simp] def lRep (f g : Sm Dt) : Sm (List Dt) := fun ρ s => (f ρ s).bind fun d s2 => (g ρ s2).bind fun e s3 => ofO ((dLst d).bind fun xs => (dI e).bind fun k => if repC xs.length k then some (reps k.toNat xs) else none) s3
theorem AtL.reps {K : PySem.W.Frag} {A : Sa} {F : Hp} {vs : List V} {ds : List Dt} (h : AtL K A F vs ds) : ∀ n : Nat, AtL K A F (List.replicate n vs).flatten (DD.reps n ds)
  | 0 => .nil
  | n + 1 => by
    unfold DD.reps
    rw [List.replicate_succ, List.replicate_succ, List.flatten_cons, List.flatten_cons]
    exact h.append (AtL.reps h n)
theorem dl_rep (ha : DO X W e f) (hb : DO X W e2 g) : DL X W (.BinOp e .Mult e2 pos) (lRep f g) := by
  refine ⟨pe_imp (pe_op op_rep ha.pe hb.pe) fun σ H Q h => In.run h ?_⟩
  intro A F0 H0 F s ρ d s2 v F2 H2 ok st so ok2 r o
  refine ⟨A, F0, H0, F2, s2, ρ, ok2, Out.bind (o.shift st (rL_shift st)) fun y s3 w F3 H3 st3 so3 r3 o3 => ?_⟩
  obtain ⟨z, hz, o3⟩ := o3.o
  have g3 := st3.gd so3
  cases d with
  | lst ds =>
    cases y with
    | int k =>
      obtain ⟨c, rfl⟩ := of_ite (show (if repC ds.length k then some (reps k.toNat ds) else none) = some z from hz)
      obtain ⟨a, xs, rfl, h1, h2⟩ := (r.step st3).lst g3.sub
      have e1 := r3.int
      subst e1
      unfold repC at c
      simp only [Bool.and_eq_true, decide_eq_true_eq] at c
      exact ⟨a, k, xs, rfl, rfl, h1, c.1.1, c.1.2, by rw [h2.length]; exact chk_of c.2, rL_new st3 g3 (h2.reps _) o3⟩
    | _ => cases hz
  | _ => cases hz

/-! ### built-in calls -/
structure CallD (X : Cx) (f : Value) (g : List Dt → Option Dt) : Prop where
  ex : ∃ rr : List V → Hp → VK → Prop, CallR X f rr ∧ ∀ A F H s vs ds z Q, Gd A F H s → AtOL X.K A F H vs ds → g ds = some z → (∀ v F2 H2, Stq A F H F2 H2 → At X.K A F2 v z → Q v H2) → rr vs H Q
structure CallL (X : Cx) (f : Value) (g : List Dt → Option (List Dt)) : Prop where
  ex : ∃ rr : List V → Hp → VK → Prop, CallR X f rr ∧ ∀ A F H s vs ds z Q, Gd A F H s → AtOL X.K A F H vs ds → g ds = some z → (∀ ws F2 H2, Stq A F H F2 H2 → AtL X.K A F2 ws z → ∀ p, H2 p = none → Q (.ref p) (upd H2 p (.lst ws))) → rr vs H Q
@[simp] def vCb (g : List Dt → Option Dt) (fs : Sm (List Dt)) : Sm Dt := fun ρ s => (fs ρ s).bind fun ds s2 => ofO (g ds) s2
@[simp] def lCb (g : List Dt → Option (List Dt)) (fs : Sm (List Dt)) : Sm (List Dt) := fun ρ s => (fs ρ s).bind fun ds s2 => ofO (g ds) s2
variable {x : Str} {id T : String} {gd : List Dt → Option Dt} {gl : List Dt → Option (List Dt)} {p : Pos}
theorem in_cb {t : TA} {v : Value} (hc : CallD X v gd) (ht : ∀ σ H Q, In X.K X.mg W (rAO X.K) fs σ H Q → t σ H Q) : ∃ rr, CallR X v rr ∧ ∀ σ H Q, In X.K X.mg W (rD X.K) (vCb gd fs) σ H Q → tCB rr t σ H Q := by
  obtain ⟨rr, h1, h2⟩ := hc.ex
  refine ⟨rr, h1, fun σ H Q h => ht _ _ _ (In.run h ?_)⟩
  intro A F0 H0 F s ρ ds s2 vs F2 H2 ok st so ok2 r o
  obtain ⟨z, hz, o⟩ := o.o
  exact h2 A F2 H2 s2 vs ds z Q ok2.gd r hz fun v F3 H3 q a => o.ok (st.trans q.p) (so.keep q.keep) a
theorem in_cbl {t : TA} {v : Value} (hc : CallL X v gl) (ht : ∀ σ H Q, In X.K X.mg W (rAO X.K) fs σ H Q → t σ H Q) : ∃ rr, CallR X v rr ∧ ∀ σ H Q, In X.K X.mg W (rL X.K) (lCb gl fs) σ H Q → tCB rr t σ H Q := by
  obtain ⟨rr, h1, h2⟩ := hc.ex
  refine ⟨rr, h1, fun σ H Q h => ht _ _ _ (In.run h ?_)⟩
  intro A F0 H0 F s ρ ds s2 vs F2 H2 ok st so ok2 r o
  obtain ⟨z, hz, o⟩ := o.o
  exact h2 A F2 H2 s2 vs ds z Q ok2.gd r hz fun ws F3 H3 q a => rL_new (st.trans q.p) (q.gd ok2.gd) a o
theorem de_cb (hc : CallD X (.builtin id) gd) (hg : Gl X x) (hm : X.mg x = none) (hv : bootBuiltins x = some (.builtin id)) (ha : DAO X W (e :: es) fs) (hn : x ≠ "__name__" := by decide) (hdb : (x == ("__debug__" : Str)) = false := by decide)
    (he : starEach (e :: es) X.env = (false, eval e X.env) :: starEach es X.env := by rfl) (hpl : (backTo pos (starEach es X.env)).any (·.1) = false := by rfl) : DE X W (.Call (.Name x p) (e :: es) [] pos) (vCb gd fs) := by
  obtain ⟨rr, h1, h2⟩ := in_cb (W := W) (fs := fs) hc fun σ H Q h => h
  exact ⟨pe_imp (pe_callB h1 hg hm hv ha.pa hn hdb he hpl) h2⟩
theorem de_ct (hc : CallD X (.type T) gd) (hg : Gl X x) (hm : X.mg x = none) (hv : bootBuiltins x = some (.type T)) (ha : DAO X W (e :: es) fs) (hn : x ≠ "__name__" := by decide) (hdb : (x == ("__debug__" : Str)) = false := by decide)
    (he : starEach (e :: es) X.env = (false, eval e X.env) :: starEach es X.env := by rfl) (hpl : (backTo pos (starEach es X.env)).any (·.1) = false := by rfl) : DE X W (.Call (.Name x p) (e :: es) [] pos) (vCb gd fs) := by
  obtain ⟨rr, h1, h2⟩ := in_cb (W := W) (fs := fs) hc fun σ H Q h => h
  exact ⟨pe_imp (pe_callTy h1 hg hm hv ha.pa hn hdb he hpl) h2⟩
theorem dl_cb (hc : CallL X (.builtin id) gl) (hg : Gl X x) (hm : X.mg x = none) (hv : bootBuiltins x = some (.builtin id)) (ha : DAO X W (e :: es) fs) (hn : x ≠ "__name__" := by decide) (hdb : (x == ("__debug__" : Str)) = false := by decide)
    (he : starEach (e :: es) X.env = (false, eval e X.env) :: starEach es X.env := by rfl) (hpl : (backTo pos (starEach es X.env)).any (·.1) = false := by rfl) : DL X W (.Call (.Name x p) (e :: es) [] pos) (lCb gl fs) := by
  obtain ⟨rr, h1, h2⟩ := in_cbl (W := W) (fs := fs) hc fun σ H Q h => h
  exact ⟨pe_imp (pe_callB h1 hg hm hv ha.pa hn hdb he hpl) h2⟩
theorem dl_ct (hc : CallL X (.type T) gl) (hg : Gl X x) (hm : X.mg x = none) (hv : bootBuiltins x = some (.type T)) (ha : DAO X W (e :: es) fs) (hn : x ≠ "__name__" := by decide) (hdb : (x == ("__debug__" : Str)) = false := by decide)
    (he : starEach (e :: es) X.env = (false, eval e X.env) :: starEach es X.env := by rfl) (hpl : (backTo pos (starEach es X.env)).any (·.1) = false := by rfl) : DL X W (.Call (.Name x p) (e :: es) [] pos) (lCb gl fs) := by
  obtain ⟨rr, h1, h2⟩ := in_cbl (W := W) (fs := fs) hc fun σ H Q h => h
  exact ⟨pe_imp (pe_callTy h1 hg hm hv ha.pa hn hdb he hpl) h2⟩

@[simp] def gLen : List Dt → Option Dt
  | [.tup xs] => some (.int xs.length)
  | [.lst xs] => some (.int xs.length)
  | [.str z] => if chk z.length then some (.int z.length) else none
  | _ => none
theorem c_len : CallD X (.builtin "len") gLen := by
  refine ⟨_, call_len, fun A F H s vs ds z Q g a hz k => ?_⟩
  unfold gLen at hz
  split at hz
  · cases hz
    cases a with
    | cons a t =>
      cases t
      obtain ⟨b, xs, rfl, h1, h2⟩ := a.tup g.sub
      exact ⟨_, xs.length, rfl, .inr ⟨xs, h1, rfl⟩, by rw [h2.length]; exact k _ _ _ (Stq.refl g) (.int _)⟩
  · cases hz
    cases a with
    | cons a t =>
      cases t
      obtain ⟨b, xs, rfl, h1, h2⟩ := a.lst g.sub
      exact ⟨_, xs.length, rfl, .inl ⟨xs, SqL.of h1, rfl⟩, by rw [h2.length]; exact k _ _ _ (Stq.refl g) (.int _)⟩
  · obtain ⟨c, rfl⟩ := of_ite hz
    cases a with
    | cons a t =>
      cases t
      have e1 := a.str
      subst e1
      exact ⟨_, _, rfl, ⟨chk_of c, rfl⟩, k _ _ _ (Stq.refl g) (.int _)⟩
  · cases hz
@[simp] def gAbs : List Dt → Option Dt
  | [.int i] => some (.int (if i < 0 then -i else i))
  | _ => none
theorem c_abs : CallD X (.builtin "abs") gAbs := by
  refine ⟨_, call_abs, fun A F H s vs ds z Q g a hz k => ?_⟩
  unfold gAbs at hz
  split at hz
  · cases hz
    cases a with
    | cons a t =>
      cases t
      have e1 := a.int
      subst e1
      exact ⟨_, rfl, k _ _ _ (Stq.refl g) (.int _)⟩
  · cases hz
@[simp] def gMax : List Dt → Option Dt
  | [.int i, .int j] => some (.int (if j > i then j else i))
  | _ => none
theorem c_max (hc : X.calm = true) : CallD X (.builtin "max") gMax := by
  refine ⟨_, call_max2 hc, fun A F H s vs ds z Q g a hz k => ?_⟩
  unfold gMax at hz
  split at hz
  · cases hz
    cases a with
    | cons a t =>
      cases t with
      | cons a2 t =>
        cases t
        have e1 := a.int
        have e2 := a2.int
        subst e1 e2
        exact ⟨_, _, rfl, k _ _ _ (Stq.refl g) (.int _)⟩
  · cases hz
@[simp] def gMin : List Dt → Option Dt
  | [.int i, .int j] => some (.int (if j < i then j else i))
  | _ => none
theorem c_min (hc : X.calm = true) : CallD X (.builtin "min") gMin := by
  refine ⟨_, call_min2 hc, fun A F H s vs ds z Q g a hz k => ?_⟩
  unfold gMin at hz
  split at hz
  · cases hz
    cases a with
    | cons a t =>
      cases t with
      | cons a2 t =>
        cases t
        have e1 := a.int
        have e2 := a2.int
        subst e1 e2
        exact ⟨_, _, rfl, k _ _ _ (Stq.refl g) (.int _)⟩
  · cases hz
@[simp] def gInt1 : List Dt → Option Dt
  | [.int i] => some (.int i)
  | [.bl b] => some (.int (if b then 1 else 0))
  | _ => none
theorem c_int : CallD X (.type "int") gInt1 := by
  refine ⟨_, call_int1, fun A F H s vs ds z Q g a hz k => ?_⟩
  unfold gInt1 at hz
  split at hz
  · cases hz
    cases a with
    | cons a t =>
      cases t
      have e1 := a.int
      subst e1
      exact .inl ⟨_, rfl, k _ _ _ (Stq.refl g) (.int _)⟩
  · cases hz
    cases a with
    | cons a t =>
      cases t
      have e1 := a.bl
      subst e1
      exact .inr ⟨_, rfl, k _ _ _ (Stq.refl g) (.int _)⟩
  · cases hz
/-- tuple(..) of a list or a tuple -/
@[simp] def gTuple : List Dt → Option Dt
  | [.lst xs] => some (.tup xs)
  | [.tup xs] => some (.tup xs)
  | _ => none
theorem c_tuple : CallD X (.type "tuple") gTuple := by
  refine ⟨_, call_tuple_of, fun A F H s vs ds z Q g a hz k => ?_⟩
  unfold gTuple at hz
  split at hz
  · cases hz
    cases a with
    | cons a t =>
      cases t
      obtain ⟨b, xs, rfl, h1, h2⟩ := a.lst g.sub
      refine ⟨b, xs, rfl, .inl ⟨SqL.of h1, fun p hp => ?_⟩⟩
      have q := Stq.alloc (o := .tup xs) g hp
      exact k _ _ _ q (.tup (SqT.of upd_same) (AtL.up q.ext _ _ h2))
  · cases hz
    cases a with
    | cons a t =>
      cases t
      obtain ⟨b, xs, rfl, h1, h2⟩ := a.tup g.sub
      rcases a with a | ⟨_, _, _, _, ee, _⟩
      · exact ⟨b, xs, rfl, .inr ⟨h1, k _ _ _ (Stq.refl g) a⟩⟩
      · cases ee
  · cases hz
@[simp] def gList : List Dt → Option (List Dt)
  | [.lst xs] => some xs
  | [.tup xs] => some xs
  | _ => none
theorem c_list : CallL X (.type "list") gList := by
  refine ⟨_, call_list_of, fun A F H s vs ds z Q g a hz k => ?_⟩
  unfold gList at hz
  split at hz
  · cases hz
    cases a with
    | cons a t =>
      cases t
      obtain ⟨b, xs, rfl, h1, h2⟩ := a.lst g.sub
      exact ⟨b, xs, rfl, .inl (SqL.of h1), k xs F H (Stq.refl g) h2⟩
  · cases hz
    cases a with
    | cons a t =>
      cases t
      obtain ⟨b, xs, rfl, h1, h2⟩ := a.tup g.sub
      exact ⟨b, xs, rfl, .inr h1, k xs F H (Stq.refl g) h2⟩
  · cases hz
@[simp] def dIs : List Dt → Option (List Int)
  | [] => some []
  | .int i :: r => (dIs r).map (i :: ·)
  | _ :: _ => none
theorem ints_of {K : PySem.W.Frag} {A : Sa} {F : Hp} : ∀ {vs : List V} {ds : List Dt} {ns : List Int}, AtL K A F vs ds → dIs ds = some ns → vs = ns.map V.int
  | _, _, _, .nil, h => by cases h; rfl
  | _, _, _, .cons (d := d) (ds := ds) h t, e => by
    cases d with
    | int i =>
      obtain ⟨r, h1, rfl⟩ := Option.map_eq_some_iff.mp (show (dIs ds).map (i :: ·) = some _ from e)
      cases h
      rw [ints_of t h1, List.map_cons]
    | _ => cases e
@[simp] def gSum : List Dt → Option Dt
  | [.lst xs] => (dIs xs).map fun ns => .int ns.sum
  | _ => none
theorem c_sum (hc : X.calm = true) : CallD X (.builtin "sum") gSum := by
  refine ⟨_, cr_sum hc, fun A F H s vs ds z Q g a hz k => ?_⟩
  unfold gSum at hz
  split at hz
  · obtain ⟨ns, h1, rfl⟩ := Option.map_eq_some_iff.mp hz
    cases a with
    | cons a t =>
      cases t
      obtain ⟨b, xs, rfl, h2, h3⟩ := a.lst g.sub
      have e := ints_of h3 h1
      subst e
      exact ⟨b, ns, rfl, SqL.of h2, k _ _ _ (Stq.refl g) (.int _)⟩
  · cases hz
end
end DD
set_option Elab.async false
set_option linter.all false
set_option maxRecDepth 100000
set_option maxHeartbeats 1000000
/-! DDe: statements, calls of defs, loops, comprehensions. -/
namespace DD
open PySem PySem.Spec PyProof.Rows L2

/-! ### statements -/
inductive RsS where
  | nx (ρ : List Sl) (s : Sv)
  | ret (d : Dt) (s : Sv)
  | brk (ρ : List Sl) (s : Sv)
  | ct (ρ : List Sl) (s : Sv)
  | ex (x : Str) (ρ : List Sl) (s : Sv)
  | no
abbrev Ss := List Sl → Sv → RsS
def OutS (K : PySem.W.Frag) (mg : Str → Option Value) (W : WX) (A : Sa) (F0 H0 : Hp) (D : Ends) : RsS → Prop
  | .nx ρ s => ∀ F σ H, Ok K A F0 H0 F H s σ ρ → D.nx σ H
  | .ret d s => ∀ v F H, Stp A F0 H0 F H → SrcOk A H s → At K A F v d → D.rt v H
  | .brk ρ s => ∀ F σ H, Ok K A F0 H0 F H s σ ρ → D.bk σ H
  | .ct ρ s => ∀ F σ H, Ok K A F0 H0 F H s σ ρ → D.ct σ H
  | .ex x ρ s => ∀ F σ H c, mg x = some c → Ok K A F0 H0 F H s σ ρ → W c none σ H
  | .no => False
def InS (K : PySem.W.Frag) (mg : Str → Option Value) (W : WX) (f : Ss) : TS := fun D σ H => ∃ A F0 H0 F s ρ, Ok K A F0 H0 F H s σ ρ ∧ OutS K mg W A F0 H0 D (f ρ s)
structure DS (X : Cx) (W : WX) (st : Stmt) (f : Ss) : Prop where
  ps : PS X st (InS X.K X.mg W f)
structure DSs (X : Cx) (W : WX) (st : List Stmt) (f : Ss) : Prop where
  ps : PSs X st (InS X.K X.mg W f)
theorem ps_imp {X : Cx} {st : Stmt} {t u : TS} (h : PS X st t) (i : ∀ D σ H, u D σ H → t D σ H) : PS X st u := ⟨fun pins s σ H D I q => h.run pins s σ H D I (i D σ H q)⟩
theorem pss_imp {X : Cx} {st : List Stmt} {t u : TS} (h : PSs X st t) (i : ∀ D σ H, u D σ H → t D σ H) : PSs X st u := ⟨fun pins s σ H D I q => h.run pins s σ H D I (i D σ H q)⟩

section
variable {K : PySem.W.Frag} {mg : Str → Option Value} {W : WX} {A : Sa} {F0 H0 F H F1 : Hp} {s : Sv} {σ : L2.St} {ρ : List Sl}
/-- the ground is raised, and lowered again -/
theorem Ok.raise (h : Ok K A F0 H0 F H s σ ρ) : Ok K A F H0 F H s σ ρ :=
  ⟨⟨Same.refl _, h.st.sub, h.st.keep, fun a o e n => (by rw [n] at e; cases e), h.st.nof⟩, h.so, h.len, h.sl, h.ap⟩
theorem Stp.lower {H1 F2 H2 : Hp} (a : Stp A F0 H0 F1 H1) (h : Stp A F1 H0 F2 H2) : Stp A F0 H0 F2 H2 :=
  ⟨a.ext.trans h.ext, h.sub, h.keep, fun x o e n => by
    cases q : F1 x with
    | none => exact h.new x o e q
    | some u => exact a.new x u q n, h.nof⟩
theorem Ok.lower {H1 : Hp} (a : Stp A F0 H0 F1 H1) (h : Ok K A F1 H0 F H s σ ρ) : Ok K A F0 H0 F H s σ ρ := ⟨a.lower h.st, h.so, h.len, h.sl, h.ap⟩
theorem OutS.raise {H1 : Hp} {D : Ends} {r : RsS} (a : Stp A F0 H0 F1 H1) (h : OutS K mg W A F0 H0 D r) : OutS K mg W A F1 H0 D r := by
  cases r with
  | nx ρ s => exact fun F σ H ok => h F σ H (ok.lower a)
  | ret d s => exact fun v F H st so r => h v F H (a.lower st) so r
  | brk ρ s => exact fun F σ H ok => h F σ H (ok.lower a)
  | ct ρ s => exact fun F σ H ok => h F σ H (ok.lower a)
  | ex x ρ s => exact fun F σ H c e ok => h F σ H c e (ok.lower a)
  | no => exact h
end
/-- an expression's outcome within a statement -/
def Rs.st {α : Type} (r : Rs α) (ρ : List Sl) (k : α → Sv → RsS) : RsS :=
  match r with
  | .ok a s => k a s
  | .ex x s => .ex x ρ s
  | .no => .no
@[simp] theorem Rs.st_ok {α : Type} (a : α) (s : Sv) (ρ : List Sl) (k : α → Sv → RsS) : (Rs.ok a s).st ρ k = k a s := rfl
@[simp] theorem Rs.st_ex {α : Type} (x : Str) (s : Sv) (ρ : List Sl) (k : α → Sv → RsS) : (Rs.ex x s : Rs α).st ρ k = .ex x ρ s := rfl
@[simp] theorem Rs.st_no {α : Type} (ρ : List Sl) (k : α → Sv → RsS) : (Rs.no : Rs α).st ρ k = .no := rfl
section
variable {X : Cx} {W : WX} {e e2 e3 : Expr} {es : List Expr} {f g : Sm Dt} {fs gs : Sm (List Dt)} {b c : Sm Bool} {pos p2 p3 : Pos} {m n : Ss} {st : Stmt} {sts sts2 : List Stmt}
theorem InS.run {α β : Type} {R : Sa → Hp → α → β → Hp → Hp → Prop} {m : Sm α} {k : α → Ss} {D : Ends} {σ : L2.St} {H : Hp} {Q1 : β → Hp → Prop} (h : InS X.K X.mg W (fun ρ s => (m ρ s).st ρ fun a s2 => k a ρ s2) D σ H)
    (n : ∀ A F0 H0 F s ρ a s2 v F2 H2, Ok X.K A F0 H0 F H s σ ρ → Stp A F H F2 H2 → Ok X.K A F0 H0 F2 H2 s2 σ ρ → R A H a v F2 H2 → OutS X.K X.mg W A F0 H0 D (k a ρ s2) → Q1 v H2) : In X.K X.mg W R m σ H Q1 := by
  obtain ⟨A, F0, H0, F, s, ρ, ok, o⟩ := h
  refine ⟨A, F0, H0, F, s, ρ, ok, ?_⟩
  have o : OutS X.K X.mg W A F0 H0 D ((m ρ s).st ρ fun a s2 => k a ρ s2) := o
  cases q : m ρ s with
  | ok a s2 =>
    rw [q] at o
    exact fun v F2 H2 st so r => n A F0 H0 F s ρ a s2 v F2 H2 ok st (ok.step st so) r o
  | ex x s2 =>
    rw [q] at o
    exact fun F2 H2 c e st so => o F2 σ H2 c e (ok.step st so)
  | no => rw [q] at o; exact o

theorem Out.ofS {α β : Type} {K : PySem.W.Frag} {mg : Str → Option Value} {A : Sa} {F0 H0 F H : Hp} {s : Sv} {σ : L2.St} {ρ : List Sl} {D : Ends} {R : α → β → Hp → Hp → Prop} {Q : β → Hp → Prop} {r : Rs α} {k : α → Sv → RsS}
    (ok : Ok K A F0 H0 F H s σ ρ) (o : OutS K mg W A F0 H0 D (r.st ρ k))
    (n : ∀ a s2 v F2 H2, Stp A F H F2 H2 → Ok K A F0 H0 F2 H2 s2 σ ρ → R a v F2 H2 → OutS K mg W A F0 H0 D (k a s2) → Q v H2) : Out mg W A F H σ R Q r := by
  cases r with
  | ok a s2 => exact fun v F2 H2 st so r => n a s2 v F2 H2 st (ok.step st so) r o
  | ex x s2 => exact fun F2 H2 c e st so => o F2 σ H2 c e (ok.step st so)
  | no => exact o

/-! ### blocks -/
@[simp] def sNil : Ss := fun ρ s => .nx ρ s
@[simp] def sSeq (m n : Ss) : Ss := fun ρ s => match m ρ s with
  | .nx ρ2 s2 => n ρ2 s2
  | r => r
theorem dss_nil : DSs X W [] sNil := ⟨pss_imp pss_nil fun D σ H ⟨A, F0, H0, F, s, ρ, ok, o⟩ => o F σ H ok⟩
theorem dss_cons (h : DS X W st m) (h2 : DSs X W sts n) : DSs X W (st :: sts) (sSeq m n) := by
  refine ⟨pss_imp (pss_cons h.ps h2.ps) fun D σ H ⟨A, F0, H0, F, s, ρ, ok, o⟩ => ?_⟩
  refine ⟨A, F0, H0, F, s, ρ, ok, ?_⟩
  unfold sSeq at o
  cases q : m ρ s with
  | nx ρ2 s2 =>
    rw [q] at o
    exact fun F2 σ2 H2 ok2 => ⟨A, F0, H0, F2, s2, ρ2, ok2, o⟩
  | ret d s2 => rw [q] at o; exact o
  | brk ρ2 s2 => rw [q] at o; exact o
  | ct ρ2 s2 => rw [q] at o; exact o
  | ex x ρ2 s2 => rw [q] at o; exact o
  | no => rw [q] at o; exact o
theorem dss_one (h : DS X W st m) : DSs X W [st] m := ⟨pss_one h.ps⟩
@[simp] def sBrk : Ss := fun ρ s => .brk ρ s
@[simp] def sCt : Ss := fun ρ s => .ct ρ s
theorem ds_pass : DS X W (.Pass pos) sNil := ⟨ps_imp ps_pass fun D σ H ⟨A, F0, H0, F, s, ρ, ok, o⟩ => o F σ H ok⟩
theorem ds_break : DS X W (.Break pos) sBrk := ⟨ps_imp ps_break fun D σ H ⟨A, F0, H0, F, s, ρ, ok, o⟩ => o F σ H ok⟩
theorem ds_continue : DS X W (.Continue pos) sCt := ⟨ps_imp ps_continue fun D σ H ⟨A, F0, H0, F, s, ρ, ok, o⟩ => o F σ H ok⟩
@[simp] def sIf (b : Sm Bool) (m n : Ss) : Ss := fun ρ s => (b ρ s).st ρ fun x s2 => if x then m ρ s2 else n ρ s2
theorem ds_if (hc : DT X W e b) (ha : DSs X W sts m) (hb : DSs X W sts2 n) : DS X W (.If e sts sts2 pos) (sIf b m n) := by
  refine ⟨ps_imp (ps_if hc.pt ha.ps hb.ps) fun D σ H h => InS.run (R := rT) (Q1 := fun x H1 => if x = true then _ else _) h ?_⟩
  intro A F0 H0 F s ρ x s2 v F2 H2 ok st ok2 r o
  cases r
  cases x with
  | true => exact ⟨A, F0, H0, F2, s2, ρ, ok2, o⟩
  | false => exact ⟨A, F0, H0, F2, s2, ρ, ok2, o⟩
/-- what never runs -/
@[simp] def sNever : Ss := fun _ _ => .no
theorem dss_never : DSs X W sts sNever := ⟨pss_imp (pss_never (sts := sts)) fun D σ H ⟨A, F0, H0, F, s, ρ, ok, o⟩ => o⟩
theorem ds_never : DS X W st sNever := ⟨ps_imp (ps_never (st := st)) fun D σ H ⟨A, F0, H0, F, s, ρ, ok, o⟩ => o⟩

/-! ### return -/
@[simp] def sRet (f : Sm Dt) : Ss := fun ρ s => (f ρ s).st ρ fun d s2 => .ret d s2
theorem ds_ret (h : DE X W e f) : DS X W (.Return (some e) pos) (sRet f) := by
  refine ⟨ps_imp (ps_ret h.pe) fun D σ H h => InS.run (R := rD X.K) h ?_⟩
  intro A F0 H0 F s ρ d s2 v F2 H2 ok st ok2 r o
  exact o v F2 H2 ok2.st ok2.so r
@[simp] def sRetN : Ss := fun _ s => .ret .non s
theorem ds_retN : DS X W (.Return none pos) sRetN := ⟨ps_imp ps_retN fun D σ H ⟨A, F0, H0, F, s, ρ, ok, o⟩ => o _ F H ok.st ok.so .non⟩
/-- a list of our own is handed back -/
@[simp] def sRetO (i : Nat) : Ss := fun ρ s => match ρ[i]? with
  | some (.own ds) => .ret (.lst ds) s
  | _ => .no
theorem ds_retO (i : Nat) {x : Str} (hN : X.N[i]? = some x := by rfl) (hv : Vis X.env.scope x := by first | exact Or.inl rfl | exact Or.inr (Or.inl rfl) | exact Or.inr (Or.inr rfl)) (hd : (x == ("__debug__" : Str)) = false := by decide)
    (hcd : (x == ("__classdict__" : Str)) = false := by decide) : DS X W (.Return (some (.Name x p2)) pos) (sRetO i) := by
  refine ⟨ps_imp (ps_ret (pe_var hN hv hd hcd)) fun D σ H ⟨A, F0, H0, F, s, ρ, ok, o⟩ => ?_⟩
  unfold sRetO at o
  split at o
  · next ds q =>
    obtain ⟨p, vs, e, h1, h2, h0, h3, h4⟩ := ok.own q
    refine ⟨_, e, o _ (upd F p (.lst vs)) H ?_ ok.so (.lst upd_same (AtL.up (same_new h2) _ _ h4))⟩
    exact ok.st.frz h0 h1 h3 h2
  · exact o.elim

/-! ### stores -/
@[simp] def sSet (i : Nat) (f : Sm Dt) : Ss := fun ρ s => (f ρ s).st ρ fun d s2 => .nx (ρ.set i (.val d)) s2
theorem ds_set (i : Nat) {x : Str} (he : DE X W e f) (hN : X.N.Nodup) (hi : X.N[i]? = some x := by rfl) (hx : Loc X.env.scope x := by first | exact Or.inl rfl | exact Or.inr rfl) (hs : swapsWith e (some (.Name x p2)) pos.line X.env = pure false := by rfl)
    (hf : X.fn x = true ∨ X.env.scope.names.lookup x = some .local := by first | exact .inl rfl | exact .inr rfl) : DS X W (.Assign [.Name x p2] e pos) (sSet i f) := by
  refine ⟨ps_imp (ps_set hN hi hx he.pe hs hf) fun D σ H h => InS.run (R := rD X.K) h ?_⟩
  intro A F0 H0 F s ρ d s2 v F2 H2 ok st ok2 r o
  exact o F2 _ H2 (ok2.setVal r)
/-- what is new at a slot: a value, or a list of our own that Hs did not know -/
def New (K : PySem.W.Frag) (A : Sa) (Hs F H : Hp) (v : V) : Sl → Prop
  | .un => False
  | .val d => At K A F v d
  | .own ds => ∃ p vs, v = .ref p ∧ Hs p = none ∧ H p = some (.lst vs) ∧ F p = none ∧ ¬ fp A p ∧ AtL K A F vs ds
/-- all lists of our own were known to Hs -/
def Kn (Hs : Hp) (σ : L2.St) (ρ : List Sl) : Prop := ∀ (j : Nat) (xs : List Dt) (p : Addr), ρ[j]? = some (Sl.own xs) → σ[j]? = some (some (V.ref p)) → Hs p ≠ none
theorem Ok.kn {K : PySem.W.Frag} {A : Sa} {F0 H0 F H : Hp} {s : Sv} {σ : L2.St} {ρ : List Sl} (h : Ok K A F0 H0 F H s σ ρ) : Kn H σ ρ := fun j xs p e1 e2 n => by
  obtain ⟨q, vs, e3, h1, _⟩ := h.own e1
  rw [e2] at e3
  injection e3 with e3; injection e3 with e3; injection e3 with e3
  subst e3
  rw [h1] at n; cases n
theorem Ok.set {K : PySem.W.Frag} {A : Sa} {F0 H0 F H Hs Fs : Hp} {s : Sv} {σ : L2.St} {ρ : List Sl} {v : V} {x : Sl} (h : Ok K A F0 H0 F H s σ ρ) (i : Nat) (a : Stp A F0 H0 Fs Hs) (kn : Kn Hs σ ρ) (nw : New K A Hs F H v x) : Ok K A F0 H0 F H s (σ.set i (some v)) (ρ.set i x) := by
  cases x with
  | un => exact nw.elim
  | val d => exact h.setVal nw
  | own ds =>
    obtain ⟨p, vs, rfl, n0, h1, h2, h3, h4⟩ := nw
    refine h.setOwn h1 h2 ?_ h3 h4 fun j xs _ e1 e2 => kn j xs p e1 e2 n0
    cases q : H0 p with
    | none => rfl
    | some o => rw [a.keep p o q h3] at n0; cases n0
@[simp] def sSetO (i : Nat) (fs : Sm (List Dt)) : Ss := fun ρ s => (fs ρ s).st ρ fun ds s2 => .nx (ρ.set i (.own ds)) s2
theorem ds_setO (i : Nat) {x : Str} (he : DL X W e fs) (hN : X.N.Nodup) (hi : X.N[i]? = some x := by rfl) (hx : Loc X.env.scope x := by first | exact Or.inl rfl | exact Or.inr rfl) (hs : swapsWith e (some (.Name x p2)) pos.line X.env = pure false := by rfl)
    (hf : X.fn x = true ∨ X.env.scope.names.lookup x = some .local := by first | exact .inl rfl | exact .inr rfl) : DS X W (.Assign [.Name x p2] e pos) (sSetO i fs) := by
  refine ⟨ps_imp (ps_set hN hi hx he.pe hs hf) fun D σ H h => InS.run (R := rL X.K) h ?_⟩
  intro A F0 H0 F s ρ ds s2 v F2 H2 ok st ok2 r o
  obtain ⟨p, vs, rfl, n0, h1, h2, h3, h4⟩ := r
  exact o F2 _ H2 (ok2.set i ok.st (fun j xs q e1 e2 => ok.kn j xs q e1 e2) ⟨p, vs, rfl, n0, h1, h2, h3, h4⟩)
/-- an expression for a slot: a value, or a new list of our own -/
abbrev rX (K : PySem.W.Frag) : Sa → Hp → Sl → V → Hp → Hp → Prop := fun A H x v F2 H2 => New K A H F2 H2 v x
structure DX (X : Cx) (W : WX) (e : Expr) (f : Sm Sl) : Prop where
  pe : PE X e (In X.K X.mg W (rX X.K) f)
@[simp] def xV (f : Sm Dt) : Sm Sl := fun ρ s => (f ρ s).bind fun d s2 => .ok (.val d) s2
@[simp] def xO (f : Sm (List Dt)) : Sm Sl := fun ρ s => (f ρ s).bind fun d s2 => .ok (.own d) s2
theorem DE.x (h : DE X W e f) : DX X W e (xV f) := by
  refine ⟨pe_imp h.pe fun σ H Q h => In.run h ?_⟩
  intro A F0 H0 F s ρ d s2 v F2 H2 ok st so ok2 r o
  exact o.ok st so r
theorem DL.x (h : DL X W e fs) : DX X W e (xO fs) := by
  refine ⟨pe_imp h.pe fun σ H Q h => In.run h ?_⟩
  intro A F0 H0 F s ρ d s2 v F2 H2 ok st so ok2 r o
  obtain ⟨p, vs, rfl, r⟩ := r
  exact o.ok st so ⟨p, vs, rfl, r⟩
theorem New.step {K : PySem.W.Frag} {A : Sa} {Hs F H F2 H2 : Hp} {v : V} {x : Sl} (h : New K A Hs F H v x) (s : Stp A F H F2 H2) : New K A Hs F2 H2 v x := by
  cases x with
  | un => exact h
  | val d => exact At.up s.ext _ _ h
  | own ds =>
    obtain ⟨p, vs, rfl, n0, h1, h2, h3, h4⟩ := h
    have q := AtO.step (K := K) (A := A) (F := F) (H := H) (v := .ref p) (d := .lst ds) (.inr ⟨p, vs, ds, rfl, rfl, h1, h2, h3, h4⟩) s
    refine ⟨p, vs, rfl, n0, s.keep p _ h1 h3, ?_, h3, AtL.up s.ext _ _ h4⟩
    cases e : F2 p with
    | none => rfl
    | some o =>
      have z := s.new p o e h2
      rw [h1] at z; cases z
theorem Kn.set {Hs H2 : Hp} {σ : L2.St} {ρ : List Sl} {v : V} {x : Sl} {i : Nat} {A : Sa} {K : PySem.W.Frag} {F2 : Hp} (kn : Kn Hs σ ρ) (k : ∀ p, Hs p ≠ none → H2 p ≠ none) (nw : New K A Hs F2 H2 v x) : Kn H2 (σ.set i (some v)) (ρ.set i x) := fun j xs p e1 e2 n => by
  by_cases q : i = j
  · subst q
    have hi : i < ρ.length := by
      have := (List.getElem?_eq_some_iff.mp e1).1
      rwa [List.length_set] at this
    have hi2 : i < σ.length := by
      have := (List.getElem?_eq_some_iff.mp e2).1
      rwa [List.length_set] at this
    rw [List.getElem?_set_self hi] at e1
    rw [List.getElem?_set_self hi2] at e2
    cases e1
    cases e2
    obtain ⟨p', vs, e, _, h1, _⟩ := nw
    cases e
    rw [h1] at n; cases n
  · rw [List.getElem?_set_ne q] at e1 e2
    exact k p (kn j xs p e1 e2) n
theorem Stp.known {A : Sa} {F H F2 H2 : Hp} {s2 : Sv} (st : Stp A F H F2 H2) (so : SrcOk A H2 s2) (p : Addr) (h : H p ≠ none) : H2 p ≠ none := fun n => by
  cases q : H p with
  | none => exact h q
  | some o =>
    by_cases f : fp A p
    · obtain ⟨u, hu⟩ := so.there f
      rw [n] at hu; cases hu
    · rw [st.keep p o q f] at n; cases n
variable {f1 f2 f3 : Sm Sl}
/-- a, b = x, y -/
@[simp] def sPar (i j : Nat) (f1 f2 : Sm Sl) : Ss := fun ρ s => (f1 ρ s).st ρ fun x s2 => (f2 ρ s2).st ρ fun y s3 => .nx ((ρ.set i x).set j y) s3
theorem ds_par (i j : Nat) {x y : Str} {a b : Expr} {px py pt : Pos} {kt k2 pt2} (hc : X.calm = true) (ha : DX X W a f1) (hb : DX X W b f2) (hN : X.N.Nodup) (hi : X.N[i]? = some x := by rfl) (hj : X.N[j]? = some y := by rfl) (hij : i ≠ j := by decide)
    (hx : X.env.scope.names.lookup x = some .local := by rfl) (hy : X.env.scope.names.lookup y = some .local := by rfl)
    (hw : swappedStores [.Tuple [.Name x px, .Name y py] kt pt] (.Tuple [a, b] k2 pt2) X.env = pure (some [x, y]) := by rfl)
    (hs : swapsWithSole [.Tuple [.Name x px, .Name y py] kt pt] (.Tuple [a, b] k2 pt2) pos.line X.env = pure false := by rfl)
    (hs2 : starEach [a, b] X.env = (false, eval a X.env) :: starEach [b] X.env := by rfl) (hs3 : starEach [b] X.env = (false, eval b X.env) :: starEach [] X.env := by rfl) :
    DS X W (.Assign [.Tuple [.Name x px, .Name y py] kt pt] (.Tuple [a, b] k2 pt2) pos) (sPar i j f1 f2) := by
  refine ⟨ps_imp (ps_par hc hN hi hj hij hx hy (pa_cons ha.pe (pa_cons hb.pe pa_nil hs3) hs2) hw hs) fun D σ H h => InS.run (R := rX X.K) h ?_⟩
  intro A F0 H0 F s ρ d s2 v F2 H2 ok st ok2 r o
  have o : OutS X.K X.mg W A F0 H0 D ((f2 ρ s2).st ρ fun y s3 => .nx ((ρ.set i d).set j y) s3) := o
  refine ⟨A, F0, H0, F2, s2, ρ, ok2, ?_⟩
  refine Out.ofS ok2 o fun y s3 w F3 H3 st3 ok3 r3 o3 => ?_
  exact ⟨v, w, rfl, o3 F3 _ H3 ((ok3.set i ok.st ok.kn (r.step st3)).set j ok2.st (ok.kn.set (fun p => st.known ok2.so p) r) r3)⟩
/-- a, b, c = x, y, z -/
@[simp] def sPar3 (i j l : Nat) (f1 f2 f3 : Sm Sl) : Ss := fun ρ s => (f1 ρ s).st ρ fun x s2 => (f2 ρ s2).st ρ fun y s3 => (f3 ρ s3).st ρ fun z s4 => .nx (((ρ.set i x).set j y).set l z) s4
theorem ds_par3 (i j l : Nat) {x y z : Str} {a b c : Expr} {px py pz pt : Pos} {kt k2 pt2} (hc : X.calm = true) (ha : DX X W a f1) (hb : DX X W b f2) (hd : DX X W c f3) (hN : X.N.Nodup) (hi : X.N[i]? = some x := by rfl) (hj : X.N[j]? = some y := by rfl)
    (hl : X.N[l]? = some z := by rfl) (hij : i ≠ j := by decide) (hil : i ≠ l := by decide) (hjl : j ≠ l := by decide)
    (hx : X.env.scope.names.lookup x = some .local := by rfl) (hy : X.env.scope.names.lookup y = some .local := by rfl) (hz : X.env.scope.names.lookup z = some .local := by rfl)
    (hw : swappedStores [.Tuple [.Name x px, .Name y py, .Name z pz] kt pt] (.Tuple [a, b, c] k2 pt2) X.env = pure (some [x, y, z]) := by rfl)
    (hs : swapsWithSole [.Tuple [.Name x px, .Name y py, .Name z pz] kt pt] (.Tuple [a, b, c] k2 pt2) pos.line X.env = pure false := by rfl)
    (hs2 : starEach [a, b, c] X.env = (false, eval a X.env) :: starEach [b, c] X.env := by rfl) (hs3 : starEach [b, c] X.env = (false, eval b X.env) :: starEach [c] X.env := by rfl) (hs4 : starEach [c] X.env = (false, eval c X.env) :: starEach [] X.env := by rfl) :
    DS X W (.Assign [.Tuple [.Name x px, .Name y py, .Name z pz] kt pt] (.Tuple [a, b, c] k2 pt2) pos) (sPar3 i j l f1 f2 f3) := by
  refine ⟨ps_imp (ps_par3 hc hN hi hj hl hij hil hjl hx hy hz (pa_cons ha.pe (pa_cons hb.pe (pa_cons hd.pe pa_nil hs4) hs3) hs2) hw hs) fun D σ H h => InS.run (R := rX X.K) h ?_⟩
  intro A F0 H0 F s ρ d s2 v F2 H2 ok st ok2 r o
  have o : OutS X.K X.mg W A F0 H0 D ((f2 ρ s2).st ρ fun y s3 => (f3 ρ s3).st ρ fun z s4 => .nx (((ρ.set i d).set j y).set l z) s4) := o
  refine ⟨A, F0, H0, F2, s2, ρ, ok2, ?_⟩
  refine Out.ofS ok2 o fun y s3 w F3 H3 st3 ok3 r3 o3 => ?_
  refine ⟨A, F0, H0, F3, s3, ρ, ok3, ?_⟩
  refine Out.ofS ok3 o3 fun z s4 u F4 H4 st4 ok4 r4 o4 => ?_
  have k1 : Kn H2 (σ.set i (some v)) (ρ.set i d) := ok.kn.set (fun p => st.known ok2.so p) r
  have k2 : Kn H3 ((σ.set i (some v)).set j (some w)) ((ρ.set i d).set j y) := k1.set (fun p => st3.known ok3.so p) r3
  exact ⟨v, w, u, rfl, o4 F4 _ H4 (((ok4.set i ok.st ok.kn ((r.step st3).step st4)).set j ok2.st k1 (r3.step st4)).set l ok3.st k2 r4)⟩

/-! ### targets -/
/-- the slots but those of is are as they were -/
def Eqo (is : List Nat) (σ σ2 : L2.St) : Prop := σ2.length = σ.length ∧ ∀ j, j ∉ is → σ2[j]? = σ[j]?
theorem Eqo.refl (is : List Nat) (σ : L2.St) : Eqo is σ σ := ⟨rfl, fun _ _ => rfl⟩
theorem Eqo.set (i : Nat) (σ : L2.St) (o : Option V) : Eqo [i] σ (σ.set i o) := ⟨List.length_set, fun j h => List.getElem?_set_ne fun e => h (by simp [e])⟩
theorem Eqo.trans {is js : List Nat} {σ σ2 σ3 : L2.St} (a : Eqo is σ σ2) (b : Eqo js σ2 σ3) : Eqo (is ++ js) σ σ3 :=
  ⟨b.1.trans a.1, fun j h => by
    rw [List.mem_append, not_or] at h
    exact (b.2 j h.2).trans (a.2 j h.1)⟩
theorem wipe_get (σ : L2.St) (j : Nat) : ∀ vs : List Nat, (wipe σ vs)[j]? = if j ∈ vs ∧ j < σ.length then some none else σ[j]?
  | [] => by simp [wipe]
  | v :: vs => by
    have ih := wipe_get σ j vs
    show ((wipe σ vs).set v none)[j]? = _
    by_cases h : v = j
    · subst h
      by_cases hl : v < σ.length
      · rw [List.getElem?_set_self (by rw [wipe_length]; exact hl), if_pos ⟨List.mem_cons_self, hl⟩]
      · rw [List.getElem?_eq_none (by rw [List.length_set, wipe_length]; omega), if_neg (fun z => hl z.2), List.getElem?_eq_none (by omega)]
    · rw [List.getElem?_set_ne h, ih]
      have e : j ∈ v :: vs ↔ j ∈ vs := by
        rw [List.mem_cons]
        exact ⟨fun z => z.elim (fun e => absurd e.symm h) id, .inr⟩
      by_cases c : j ∈ vs ∧ j < σ.length
      · rw [if_pos c, if_pos ⟨e.mpr c.1, c.2⟩]
      · rw [if_neg c, if_neg fun z => c ⟨e.mp z.1, z.2⟩]
theorem Eqo.wipe {is vs : List Nat} {σ σ2 : L2.St} (h : Eqo is (wipe σ vs) σ2) (sub : ∀ i ∈ is, i ∈ vs) : L2.wipe σ2 vs = L2.wipe σ vs := by
  apply List.ext_getElem?
  intro j
  have hl : σ2.length = σ.length := by rw [h.1, wipe_length]
  rw [wipe_get, wipe_get, hl]
  by_cases c : j ∈ vs ∧ j < σ.length
  · rw [if_pos c, if_pos c]
  · rw [if_neg c, if_neg c]
    by_cases m : j ∈ vs
    · have : ¬ j < σ.length := fun z => c ⟨m, z⟩
      rw [List.getElem?_eq_none (by omega), List.getElem?_eq_none (by omega)]
    · rw [h.2 j (fun z => m (sub j z)), wipe_get, if_neg (fun z => m z.1)]
def InG (K : PySem.W.Frag) (is : List Nat) (g : Dt → List Sl → Option (List Sl)) : TG := fun v σ H Q => ∃ A F0 H0 F s ρ d ρ2, Ok K A F0 H0 F H s σ ρ ∧ At K A F v d ∧ g d ρ = some ρ2 ∧ ∀ σ2, Ok K A F0 H0 F H s σ2 ρ2 → Eqo is σ σ2 → Q σ2 H
def InGs (K : PySem.W.Frag) (is : List Nat) (g : List Dt → List Sl → Option (List Sl)) : TGs := fun vs σ H Q => ∃ A F0 H0 F s ρ ds ρ2, Ok K A F0 H0 F H s σ ρ ∧ AtL K A F vs ds ∧ g ds ρ = some ρ2 ∧ ∀ σ2, Ok K A F0 H0 F H s σ2 ρ2 → Eqo is σ σ2 → Q σ2 H
structure DG (X : Cx) (tg : Expr) (is : List Nat) (g : Dt → List Sl → Option (List Sl)) : Prop where
  pg : PG X tg (InG X.K is g)
structure DGs (X : Cx) (tgs : List Expr) (is : List Nat) (g : List Dt → List Sl → Option (List Sl)) : Prop where
  pg : PGs X tgs (InGs X.K is g)
theorem pg_imp {tg : Expr} {t u : TG} (h : PG X tg t) (i : ∀ v σ H Q, u v σ H Q → t v σ H Q) : PG X tg u := ⟨fun pins s σ H v w Q I r q => h.run pins s σ H v w Q I r (i v σ H Q q)⟩
theorem pgs_imp {tgs : List Expr} {t u : TGs} (h : PGs X tgs t) (i : ∀ v σ H Q, u v σ H Q → t v σ H Q) : PGs X tgs u := ⟨fun pins s σ H v w Q I r q => h.run pins s σ H v w Q I r (i v σ H Q q)⟩
@[simp] def tgName (i : Nat) : Dt → List Sl → Option (List Sl) := fun d ρ => some (ρ.set i (.val d))
@[simp] def tgNil : List Dt → List Sl → Option (List Sl) := fun ds ρ => match ds with
  | [] => some ρ
  | _ :: _ => none
@[simp] def tgCons (g : Dt → List Sl → Option (List Sl)) (gs : List Dt → List Sl → Option (List Sl)) : List Dt → List Sl → Option (List Sl) := fun ds ρ => match ds with
  | d :: ds => (g d ρ).bind (gs ds)
  | [] => none
@[simp] def tgTup (n : Nat) (gs : List Dt → List Sl → Option (List Sl)) : Dt → List Sl → Option (List Sl) := fun d ρ => match d with
  | .tup ds => if ds.length = n then gs ds ρ else none
  | _ => none
theorem dg_name (i : Nat) {x : Str} (hN : X.N.Nodup) (hi : X.N[i]? = some x := by rfl) (hx : Loc X.env.scope x := by first | exact Or.inl rfl | exact Or.inr rfl)
    (hf : X.fn x = true ∨ X.env.scope.names.lookup x = some .local := by first | exact .inl rfl | exact .inr rfl) : DG X (.Name x pos) [i] (tgName i) := by
  refine ⟨pg_imp (pg_name hN hi hx hf) fun v σ H Q ⟨A, F0, H0, F, s, ρ, d, ρ2, ok, a, e, q⟩ => ?_⟩
  cases e
  exact q _ (ok.setVal a) (Eqo.set i σ _)
variable {tg : Expr} {tgs : List Expr} {is js : List Nat} {gg : Dt → List Sl → Option (List Sl)} {ggs : List Dt → List Sl → Option (List Sl)}
theorem dgs_nil : DGs X [] [] tgNil := by
  refine ⟨pgs_imp pgs_nil fun vs σ H Q ⟨A, F0, H0, F, s, ρ, ds, ρ2, ok, a, e, q⟩ => ?_⟩
  unfold tgNil at e
  split at e
  · cases a
    cases e
    exact ⟨rfl, q σ ok (Eqo.refl _ _)⟩
  · cases e
theorem dgs_cons (h : DG X tg is gg) (h2 : DGs X tgs js ggs) (hs : (assignEach (tg :: tgs) X.env).map (·.2) = assign tg X.env :: (assignEach tgs X.env).map (·.2) := by rfl) : DGs X (tg :: tgs) (is ++ js) (tgCons gg ggs) := by
  refine ⟨pgs_imp (pgs_cons h.pg h2.pg hs) fun vs σ H Q ⟨A, F0, H0, F, s, ρ, ds, ρ2, ok, a, e, q⟩ => ?_⟩
  cases a with
  | nil => cases e
  | cons a1 a2 =>
    obtain ⟨ρ1, e1, e2⟩ := Option.bind_eq_some_iff.mp (show (gg _ ρ).bind (ggs _) = some ρ2 from e)
    exact ⟨_, _, rfl, A, F0, H0, F, s, ρ, _, ρ1, ok, a1, e1, fun σ1 ok1 t1 => ⟨A, F0, H0, F, s, ρ1, _, ρ2, ok1, a2, e2, fun σ2 ok2 t2 => q σ2 ok2 (t1.trans t2)⟩⟩
theorem dg_tup {k n : Nat} (hc : X.calm = true) (h : DGs X tgs is ggs) (hn : (assignEach tgs X.env).length = n := by rfl) (hst : (assignEach tgs X.env).findIdx? (·.1) = none := by rfl) : DG X (.Tuple tgs k pos) is (tgTup n ggs) := by
  refine ⟨pg_imp (pg_tup hc h.pg hn hst) fun v σ H Q ⟨A, F0, H0, F, s, ρ, d, ρ2, ok, a, e, q⟩ => ?_⟩
  cases d with
  | tup ds =>
    have e : (if ds.length = n then ggs ds ρ else none) = some ρ2 := e
    by_cases hl : ds.length = n
    · rw [if_pos hl] at e
      cases a with
      | tup h1 h2 => exact ⟨_, _, rfl, same_t ok.gd.sub h1, by rw [h2.length]; exact hl, A, F0, H0, F, s, ρ, ds, ρ2, ok, h2, e, q⟩
    · rw [if_neg hl] at e
      cases e
  | _ => cases e
/-- target = e, any target -/
@[simp] def sAsg (gg : Dt → List Sl → Option (List Sl)) (f : Sm Dt) : Ss := fun ρ s => (f ρ s).st ρ fun d s2 => match gg d ρ with
  | some ρ2 => .nx ρ2 s2
  | none => .no
theorem ds_asg (he : DE X W e f) (hg : DG X tg is gg) (hs : swapsWithSole [tg] e pos.line X.env = pure false := by rfl) (hw : swappedStores [tg] e X.env = pure none := by rfl)
    (h1 : (assignEach [tg] X.env).map (·.2) = [assign tg X.env] := by rfl) : DS X W (.Assign [tg] e pos) (sAsg gg f) := by
  refine ⟨ps_imp (ps_asg he.pe hg.pg hs hw h1) fun D σ H h => InS.run (R := rD X.K) h ?_⟩
  intro A F0 H0 F s ρ d s2 v F2 H2 ok st ok2 r o
  cases q : gg d ρ with
  | none => rw [q] at o; exact o.elim
  | some ρ2 =>
    rw [q] at o
    exact ⟨A, F0, H0, F2, s2, ρ, d, ρ2, ok2, r, q, fun σ2 ok3 _ => o F2 σ2 H2 ok3⟩

/-! ### lists of our own, changed -/
theorem Ok.grow {K : PySem.W.Frag} {A : Sa} {F0 H0 F H : Hp} {s : Sv} {σ : L2.St} {ρ : List Sl} (h : Ok K A F0 H0 F H s σ ρ) {i : Nat} {ds es : List Dt} {p : Addr} {ws : List V} (e : ρ[i]? = some (.own ds)) (e2 : σ[i]? = some (some (.ref p))) (a : AtL K A F ws es) :
    Ok K A F0 H0 F (upd H p (.lst ws)) s σ (ρ.set i (.own es)) := by
  obtain ⟨p', vs, q, h1, h2, h0, h3, h4⟩ := h.own e
  rw [e2] at q
  injection q with q; injection q with q; injection q with q
  subst q
  have hi : i < ρ.length := (List.getElem?_eq_some_iff.mp e).1
  refine ⟨⟨h.st.ext, fun b o x => ?_, fun b o x n => ?_, h.st.new, h.st.nof⟩, ?_, by rw [List.length_set]; exact h.len, fun j x o e3 e4 => ?_, fun j k xs ys q n e3 e4 e5 e6 => ?_⟩
  · rw [upd_ne (ne_of_none x h2)]; exact h.st.sub b o x
  · rw [upd_ne (ne_of_none x h0)]; exact h.st.keep b o x n
  · have ne : ∀ b, fp A b → b ≠ p := fun b f z => h3 (z ▸ f)
    rcases h.so with so | ⟨d, c, v, so, so0, so1, so2⟩
    · exact .inl so
    · exact .inr ⟨d, c, v, so, so0, by rw [upd_ne (ne d ⟨_, so, .inl rfl⟩)]; exact so1, by rw [upd_ne (ne c ⟨_, so, .inr rfl⟩)]; exact so2⟩
  · by_cases q : i = j
    · subst q
      rw [List.getElem?_set_self hi] at e3
      cases e3
      rw [e2] at e4
      cases e4
      exact ⟨p, ws, rfl, upd_same, h2, h0, h3, a⟩
    · rw [List.getElem?_set_ne q] at e3
      have z := h.sl j x o e3 e4
      cases x with
      | un => trivial
      | val d => exact z
      | own xs =>
        obtain ⟨p2, vs2, r0, r1, r2⟩ := z
        refine ⟨p2, vs2, r0, ?_, r2⟩
        have : p2 ≠ p := fun w => by
          subst w
          subst r0
          exact h.ap i j ds xs p2 q e e3 e2 e4
        rw [upd_ne this]
        exact r1
  · have own : ∀ (l : Nat) (zs : List Dt), (ρ.set i (.own es))[l]? = some (Sl.own zs) → ∃ zs, ρ[l]? = some (Sl.own zs) := fun l zs w => by
      by_cases r : i = l
      · subst r; exact ⟨ds, e⟩
      · rw [List.getElem?_set_ne r] at w; exact ⟨zs, w⟩
    obtain ⟨xs', e3⟩ := own j xs e3
    obtain ⟨ys', e4⟩ := own k ys e4
    exact h.ap j k xs' ys' q n e3 e4 e5 e6
end
end DD
set_option Elab.async false
set_option linter.all false
set_option maxRecDepth 100000
set_option maxHeartbeats 1000000
/-! DDf: methods of lists, loops, comprehensions. -/
namespace DD
open PySem PySem.Spec PyProof.Rows L2
section
variable {X : Cx} {W : WX} {e e2 e3 : Expr} {es : List Expr} {f g : Sm Dt} {fs gs : Sm (List Dt)} {b c : Sm Bool} {pos p2 p3 apos cpos : Pos} {m n : Ss} {st : Stmt} {sts sts2 : List Stmt}

/-- the list of slot i -/
@[simp] def ownAt (ρ : List Sl) (i : Nat) : Option (List Dt) := match ρ[i]? with
  | some (.own ds) => some ds
  | _ => none
theorem ownAt_of {ρ : List Sl} {i : Nat} {ds : List Dt} (h : ownAt ρ i = some ds) : ρ[i]? = some (.own ds) := by
  unfold ownAt at h
  split at h
  · next ds' q => cases h; exact q
  · cases h
theorem chk_lt {n : Nat} (h : chk (n + 1) = true) : n < sizeLine := chk_of h
/-- x.append(e) -/
@[simp] def sAppend (i : Nat) (f : Sm Dt) : Ss := fun ρ s => match ownAt ρ i with
  | some ds => (f ρ s).st ρ fun d s2 => if chk (ds.length + 1) then .nx (ρ.set i (.own (ds ++ [d]))) s2 else .no
  | none => .no
theorem OutS.chk {K : PySem.W.Frag} {mg : Str → Option Value} {A : Sa} {F0 H0 : Hp} {D : Ends} {p : Bool} {r : RsS} (h : OutS K mg W A F0 H0 D (if p then r else .no)) : p = true ∧ OutS K mg W A F0 H0 D r := by
  cases p with
  | true => exact ⟨rfl, h⟩
  | false => exact h.elim
theorem ds_append (i : Nat) {x : Str} (he : DE X W e f) (hN : X.N[i]? = some x := by rfl) (hv : Vis X.env.scope x := by first | exact Or.inl rfl | exact Or.inr (Or.inl rfl) | exact Or.inr (Or.inr rfl)) (hd : (x == ("__debug__" : Str)) = false := by decide)
    (hcd : (x == ("__classdict__" : Str)) = false := by decide) (hbase : attributeBase (.Name x p2) "append" X.env (eval (.Name x p2) X.env) = eval (.Name x p2) X.env := by rfl)
    (hfew : ((backTo cpos (starEach [e] X.env)).all (fun x => !x.1) && (backToKw cpos (keywordEach [] X.env)).all (fun x => x.1.isSome) && decide (([e] : List Expr).length + ([] : List Keyword).length + (if ([] : List Keyword).isEmpty then 0 else 1) < 30)) = true := by rfl)
    (hline : (apos.endLine == cpos.line) = true := by rfl) (hs : starEach [e] X.env = (false, eval e X.env) :: starEach [] X.env := by rfl) (hplain : (backTo cpos (starEach [] X.env)).any (·.1) = false := by rfl)
    (hsw : swapsWith (.Call (.Attribute (.Name x p2) "append" apos) [e] [] cpos) none pos.line X.env = pure false := by rfl) :
    DS X W (.Expr (.Call (.Attribute (.Name x p2) "append" apos) [e] [] cpos) pos) (sAppend i f) := by
  refine ⟨ps_imp (ps_expr (pe_bm PySem.F.plainAttrs_list PySem.F.slot_list_append PySem.F.type_list_append mt_append (pe_var hN hv hd hcd) (pa_cons he.pe pa_nil hs) hbase hfew hline hs hplain) hsw) fun D σ H h => ?_⟩
  obtain ⟨A, F0, H0, F, s, ρ, ok, o⟩ := h
  unfold sAppend at o
  split at o
  · next ds q =>
    have q := ownAt_of q
    obtain ⟨p, vs, e1, h1, h2, h0, h3, h4⟩ := ok.own q
    refine ⟨_, e1, .inl ⟨rfl, _, SqL.of h1⟩, ?_⟩
    refine ⟨A, F0, H0, F, s, ρ, ok, Out.ofS ok o fun d s2 v F2 H2 st ok2 r o2 => ?_⟩
    obtain ⟨c, o2⟩ := o2.chk
    have h4 := AtL.up st.ext _ _ h4
    refine ⟨p, vs, v, rfl, rfl, st.keep p _ h1 h3, by rw [h4.length]; exact chk_lt c, ?_⟩
    exact o2 _ _ _ (ok2.grow q e1 (h4.append (.cons r .nil)))
  · exact o.elim
/-- x.extend(e) -/
@[simp] def sExtend (i : Nat) (f : Sm Dt) : Ss := fun ρ s => match ownAt ρ i with
  | some ds => (f ρ s).st ρ fun d s2 => match dLst d with
    | some es => if chk (ds.length + es.length) then .nx (ρ.set i (.own (ds ++ es))) s2 else .no
    | none => .no
  | none => .no
theorem ds_extend (i : Nat) {x : Str} (he : DE X W e f) (hN : X.N[i]? = some x := by rfl) (hv : Vis X.env.scope x := by first | exact Or.inl rfl | exact Or.inr (Or.inl rfl) | exact Or.inr (Or.inr rfl)) (hd : (x == ("__debug__" : Str)) = false := by decide)
    (hcd : (x == ("__classdict__" : Str)) = false := by decide) (hbase : attributeBase (.Name x p2) "extend" X.env (eval (.Name x p2) X.env) = eval (.Name x p2) X.env := by rfl)
    (hfew : ((backTo cpos (starEach [e] X.env)).all (fun x => !x.1) && (backToKw cpos (keywordEach [] X.env)).all (fun x => x.1.isSome) && decide (([e] : List Expr).length + ([] : List Keyword).length + (if ([] : List Keyword).isEmpty then 0 else 1) < 30)) = true := by rfl)
    (hline : (apos.endLine == cpos.line) = true := by rfl) (hs : starEach [e] X.env = (false, eval e X.env) :: starEach [] X.env := by rfl) (hplain : (backTo cpos (starEach [] X.env)).any (·.1) = false := by rfl)
    (hsw : swapsWith (.Call (.Attribute (.Name x p2) "extend" apos) [e] [] cpos) none pos.line X.env = pure false := by rfl) :
    DS X W (.Expr (.Call (.Attribute (.Name x p2) "extend" apos) [e] [] cpos) pos) (sExtend i f) := by
  refine ⟨ps_imp (ps_expr (pe_bm PySem.F.plainAttrs_list PySem.F.slot_list_extend PySem.F.type_list_extend mt_extend (pe_var hN hv hd hcd) (pa_cons he.pe pa_nil hs) hbase hfew hline hs hplain) hsw) fun D σ H h => ?_⟩
  obtain ⟨A, F0, H0, F, s, ρ, ok, o⟩ := h
  unfold sExtend at o
  split at o
  · next ds q =>
    have q := ownAt_of q
    obtain ⟨p, vs, e1, h1, h2, h0, h3, h4⟩ := ok.own q
    refine ⟨_, e1, .inl ⟨rfl, _, SqL.of h1⟩, ?_⟩
    refine ⟨A, F0, H0, F, s, ρ, ok, Out.ofS ok o fun d s2 v F2 H2 st ok2 r o2 => ?_⟩
    split at o2
    · next es qe =>
      obtain ⟨c, o2⟩ := o2.chk
      cases d with
      | lst es' =>
        cases qe
        have h4 := AtL.up st.ext _ _ h4
        cases r with
        | lst r1 r2 =>
          refine ⟨p, _, vs, _, rfl, rfl, st.keep p _ h1 h3, ok2.gd.sub _ _ r1, by rw [h4.length, r2.length]; exact chk_of c, ?_⟩
          exact o2 _ _ _ (ok2.grow q e1 (h4.append r2))
      | _ => cases qe
    · exact o2.elim
  · exact o.elim
/-- target = x.pop() -/
@[simp] def sPop (i : Nat) (gg : Dt → List Sl → Option (List Sl)) : Ss := fun ρ s => match ownAt ρ i with
  | some ds => match ds.getLast? with
    | some d => match gg d (ρ.set i (.own ds.dropLast)) with
      | some ρ2 => .nx ρ2 s
      | none => .no
    | none => .no
  | none => .no
theorem in_pop {K : PySem.W.Frag} {A : Sa} {F0 H0 F H : Hp} {s : Sv} {σ : L2.St} {ρ : List Sl} (ok : Ok K A F0 H0 F H s σ ρ) {i : Nat} {ds : List Dt} {d : Dt} (q : ownAt ρ i = some ds) (l : ds.getLast? = some d) :
    ∃ p vs y, σ[i]? = some (some (.ref p)) ∧ H p = some (.lst vs) ∧ vs[vs.length - 1]? = some y ∧ At K A F y d ∧ Ok K A F0 H0 F (upd H p (.lst vs.dropLast)) s σ (ρ.set i (.own ds.dropLast)) := by
  have q := ownAt_of q
  obtain ⟨p, vs, e1, h1, h2, h0, h3, h4⟩ := ok.own q
  rw [List.getLast?_eq_getElem?] at l
  obtain ⟨y, y1, y2⟩ := h4.get l
  exact ⟨p, vs, y, e1, h1, by rw [h4.length]; exact y1, y2, ok.grow q e1 h4.dropLast⟩
theorem ds_pop (i : Nat) {x : Str} {tg : Expr} {is : List Nat} {gg : Dt → List Sl → Option (List Sl)} (hg : DG X tg is gg) (hN : X.N[i]? = some x := by rfl) (hv : Vis X.env.scope x := by first | exact Or.inl rfl | exact Or.inr (Or.inl rfl) | exact Or.inr (Or.inr rfl))
    (hd : (x == ("__debug__" : Str)) = false := by decide) (hcd : (x == ("__classdict__" : Str)) = false := by decide) (hbase : attributeBase (.Name x p2) "pop" X.env (eval (.Name x p2) X.env) = eval (.Name x p2) X.env := by rfl)
    (hline : (apos.endLine == cpos.line) = true := by rfl) (hs : swapsWithSole [tg] (.Call (.Attribute (.Name x p2) "pop" apos) [] [] cpos) pos.line X.env = pure false := by rfl)
    (hw : swappedStores [tg] (.Call (.Attribute (.Name x p2) "pop" apos) [] [] cpos) X.env = pure none := by rfl) (h1 : (assignEach [tg] X.env).map (·.2) = [assign tg X.env] := by rfl) :
    DS X W (.Assign [tg] (.Call (.Attribute (.Name x p2) "pop" apos) [] [] cpos) pos) (sPop i gg) := by
  refine ⟨ps_imp (ps_asg (pe_bm0 PySem.F.plainAttrs_list PySem.F.slot_list_pop PySem.F.type_list_pop mt_pop (pe_var hN hv hd hcd) hbase hline) hg.pg hs hw h1) fun D σ H h => ?_⟩
  obtain ⟨A, F0, H0, F, s, ρ, ok, o⟩ := h
  unfold sPop at o
  split at o
  · next ds q =>
    split at o
    · next d l =>
      split at o
      · next ρ2 g2 =>
        obtain ⟨p, vs, y, e1, h1, y1, y2, ok2⟩ := in_pop ok q l
        refine ⟨_, e1, .inl ⟨rfl, _, SqL.of h1⟩, p, vs, y, rfl, rfl, h1, y1, ?_⟩
        exact ⟨A, F0, H0, F, s, _, d, ρ2, ok2, y2, g2, fun σ2 ok3 _ => o F σ2 _ ok3⟩
      · exact o.elim
    · exact o.elim
  · exact o.elim
/-- x.pop() alone -/
@[simp] def sPop0 (i : Nat) : Ss := fun ρ s => match ownAt ρ i with
  | some ds => match ds.getLast? with
    | some _ => .nx (ρ.set i (.own ds.dropLast)) s
    | none => .no
  | none => .no
theorem ds_pop0 (i : Nat) {x : Str} (hN : X.N[i]? = some x := by rfl) (hv : Vis X.env.scope x := by first | exact Or.inl rfl | exact Or.inr (Or.inl rfl) | exact Or.inr (Or.inr rfl))
    (hd : (x == ("__debug__" : Str)) = false := by decide) (hcd : (x == ("__classdict__" : Str)) = false := by decide) (hbase : attributeBase (.Name x p2) "pop" X.env (eval (.Name x p2) X.env) = eval (.Name x p2) X.env := by rfl)
    (hline : (apos.endLine == cpos.line) = true := by rfl) (hsw : swapsWith (.Call (.Attribute (.Name x p2) "pop" apos) [] [] cpos) none pos.line X.env = pure false := by rfl) :
    DS X W (.Expr (.Call (.Attribute (.Name x p2) "pop" apos) [] [] cpos) pos) (sPop0 i) := by
  refine ⟨ps_imp (ps_expr (pe_bm0 PySem.F.plainAttrs_list PySem.F.slot_list_pop PySem.F.type_list_pop mt_pop (pe_var hN hv hd hcd) hbase hline) hsw) fun D σ H h => ?_⟩
  obtain ⟨A, F0, H0, F, s, ρ, ok, o⟩ := h
  unfold sPop0 at o
  split at o
  · next ds q =>
    split at o
    · next d l =>
      obtain ⟨p, vs, y, e1, h1, y1, y2, ok2⟩ := in_pop ok q l
      exact ⟨_, e1, .inl ⟨rfl, _, SqL.of h1⟩, p, vs, y, rfl, rfl, h1, y1, o F _ _ ok2⟩
    · exact o.elim
  · exact o.elim
/-- a list of our own becomes a value (no statement: a turn of the mind) -/
def frz (i : Nat) (ρ : List Sl) : List Sl := match ownAt ρ i with
  | some ds => ρ.set i (.val (.lst ds))
  | none => ρ
def sFrz (i : Nat) (m : Ss) : Ss := fun ρ s => m (frz i ρ) s
theorem Ok.frz {K : PySem.W.Frag} {A : Sa} {F0 H0 F H : Hp} {s : Sv} {σ : L2.St} {ρ : List Sl} (ok : Ok K A F0 H0 F H s σ ρ) (i : Nat) : ∃ F2, Ok K A F0 H0 F2 H s σ (DD.frz i ρ) := by
  unfold DD.frz
  split
  · next ds q =>
    have q := ownAt_of q
    obtain ⟨p, vs, e1, h1, h2, h0, h3, h4⟩ := ok.own q
    refine ⟨upd F p (.lst vs), ok.st.frz h0 h1 h3 h2, ok.so, by rw [List.length_set]; exact ok.len, fun j x o a b => ?_, fun j k xs ys r n a b c d => ?_⟩
    · have up : Same F (upd F p (.lst vs)) := same_new h2
      by_cases z : i = j
      · subst z
        rw [List.getElem?_set_self (List.getElem?_eq_some_iff.mp q).1] at a
        cases a
        rw [e1] at b
        cases b
        exact ⟨_, rfl, .lst upd_same (AtL.up up _ _ h4)⟩
      · rw [List.getElem?_set_ne z] at a
        have y := ok.sl j x o a b
        cases x with
        | un => trivial
        | val d =>
          obtain ⟨v, e, y⟩ := y
          exact ⟨v, e, At.up up _ _ y⟩
        | own xs =>
          obtain ⟨p2, vs2, y0, y1, y2, y3, y4, y5⟩ := y
          refine ⟨p2, vs2, y0, y1, ?_, y3, y4, AtL.up up _ _ y5⟩
          have : p2 ≠ p := fun w => by
            subst w
            subst y0
            exact ok.ap i j ds xs p2 z q a e1 b
          rw [upd_ne this]
          exact y2
    · have own : ∀ (l : Nat) (zs : List Dt), (ρ.set i (.val (.lst ds)))[l]? = some (Sl.own zs) → ρ[l]? = some (Sl.own zs) := fun l zs w => by
        by_cases r : i = l
        · subst r
          rw [List.getElem?_set_self (List.getElem?_eq_some_iff.mp q).1] at w
          cases w
        · rw [List.getElem?_set_ne r] at w; exact w
      exact ok.ap j k xs ys r n (own j xs a) (own k ys b) c d
  · exact ⟨F, ok⟩
theorem dss_frz (i : Nat) (h : DSs X W sts m) : DSs X W sts (sFrz i m) := by
  refine ⟨pss_imp h.ps fun D σ H ⟨A, F0, H0, F, s, ρ, ok, o⟩ => ?_⟩
  obtain ⟨F2, ok2⟩ := ok.frz i
  exact ⟨A, F0, H0, F2, s, _, ok2, o⟩

/-! ### what is walked -/
/-- J gives ds one by one, while P lasts -/
def Gives (K : PySem.W.Frag) (A : Sa) (P : Hp → Hp → Prop) (J : It) (ds : List Dt) : Prop :=
  ∀ i F H s, P F H → Gd A F H s → (∀ d, ds[i]? = some d → J.go i H ∧ ∀ x H2, J.yld i H x H2 → ∃ F2, Stq A F H F2 H2 ∧ At K A F2 x d) ∧ (i = ds.length → J.stop i H)
/-- for a for: what is frozen lasts -/
abbrev rF (K : PySem.W.Frag) : Sa → Hp → List Dt → It → Hp → Hp → Prop := fun A _ ds J F2 _ => Gives K A (fun F _ => Same F2 F) J ds
/-- for a comprehension: all that was known lasts -/
abbrev rC (K : PySem.W.Frag) : Sa → Hp → List Dt → It → Hp → Hp → Prop := fun A _ ds J F2 H2 => Gives K A (fun F H => Stp A F2 H2 F H) J ds
structure DIF (X : Cx) (W : WX) (tg iter : Expr) (f : Sm (List Dt)) : Prop where
  pi : PI X tg iter (In X.K X.mg W (rF X.K) f)
structure DIC (X : Cx) (W : WX) (tg iter : Expr) (f : Sm (List Dt)) : Prop where
  pi : PI X tg iter (In X.K X.mg W (rC X.K) f)
theorem pi_imp {tg it : Expr} {t u : TI} (h : PI X tg it t) (i : ∀ σ H Q, u σ H Q → t σ H Q) : PI X tg it u := ⟨fun pins s σ H R I q => h.run pins s σ H R I (i σ H R q)⟩
theorem pi_alt {tg it : Expr} {t u : TI} (h : PI X tg it t) (h2 : PI X tg it u) : PI X tg it (fun σ H R => t σ H R ∨ u σ H R) := ⟨fun pins s σ H R I q => by
  rcases q with q | q
  · exact h.run pins s σ H R I q
  · exact h2.run pins s σ H R I q⟩
theorem DIF.cc {tg it : Expr} (h : DIF X W tg it fs) : DIC X W tg it fs := by
  refine ⟨pi_imp h.pi fun σ H R h => ?_⟩
  obtain ⟨A, F0, H0, F, s, ρ, ok, o⟩ := h
  refine ⟨A, F0, H0, F, s, ρ, ok, o.shift (Stp.refl ok.gd) fun ds J F2 H2 r i F3 H3 s3 p g => r i F3 H3 s3 p.ext g⟩
@[simp] def dSeq : Dt → Option (List Dt)
  | .lst xs => some xs
  | .tup xs => some xs
  | .scr ns => some (ns.map .int)
  | _ => none
/-- over a list or a tuple -/
@[simp] def iSeq (f : Sm Dt) : Sm (List Dt) := fun ρ s => (f ρ s).bind fun d s2 => ofO (dSeq d) s2
theorem gives_list {K : PySem.W.Frag} {A : Sa} {P : Hp → Hp → Prop} {a : Addr} {vs : List V} {ds : List Dt} (h : ∀ F H s, P F H → Gd A F H s → SqL K H a vs ∧ AtL K A F vs ds) : Gives K A P (Itl K a) ds := by
  intro i F H s p g
  obtain ⟨h1, h2⟩ := h F H s p g
  refine ⟨fun d e => ?_, fun e => ⟨vs, h1, by rw [h2.length]; omega⟩⟩
  obtain ⟨v, y1, y2⟩ := h2.get e
  refine ⟨⟨vs, v, h1, y1⟩, fun x H2 y => ?_⟩
  obtain ⟨rfl, y⟩ := y
  have z := y vs h1
  rw [y1] at z
  cases z
  exact ⟨F, Stq.refl g, y2⟩
theorem gives_tup {K : PySem.W.Frag} {A : Sa} {P : Hp → Hp → Prop} {a : Addr} {vs : List V} {ds : List Dt} (h : ∀ F H s, P F H → Gd A F H s → SqT K H a vs ∧ AtL K A F vs ds) : Gives K A P (Itt K a) ds := by
  intro i F H s p g
  obtain ⟨h1, h2⟩ := h F H s p g
  refine ⟨fun d e => ?_, fun e => ⟨vs, h1, by rw [h2.length]; omega⟩⟩
  obtain ⟨v, y1, y2⟩ := h2.get e
  refine ⟨⟨vs, v, h1, y1⟩, fun x H2 y => ?_⟩
  obtain ⟨rfl, y⟩ := y
  have z := y vs h1
  rw [y1] at z
  cases z
  exact ⟨F, Stq.refl g, y2⟩
theorem dif_seq {tg : Expr} (h : DE X W e f) : DIF X W tg e (iSeq f) := by
  refine ⟨pi_imp (pi_alt (pi_list h.pe) (pi_tup h.pe)) fun σ H R h => ?_⟩
  obtain ⟨A, F0, H0, F, s, ρ, ok, o⟩ := h
  have o : Out X.mg W A F H σ (rF X.K A H) R ((f ρ s).bind fun d s2 => ofO (dSeq d) s2) := o
  cases q : f ρ s with
  | no => rw [q] at o; exact o.elim
  | ex x s2 =>
    rw [q] at o
    refine .inl ⟨A, F0, H0, F, s, ρ, ok, ?_⟩
    rw [q]
    exact o
  | ok d s2 =>
    rw [q] at o
    have o : Out X.mg W A F H σ (rF X.K A H) R (ofO (dSeq d) s2) := o
    obtain ⟨ds, hd, o⟩ := o.o
    cases d with
    | lst xs =>
      cases hd
      refine .inl ⟨A, F0, H0, F, s, ρ, ok, ?_⟩
      rw [q]
      intro v F2 H2 st so r
      cases r with
      | lst r1 r2 => exact ⟨_, rfl, ⟨_, SqL.of (st.sub _ _ r1)⟩, o _ F2 H2 st so (gives_list fun F3 H3 s3 p g => ⟨SqL.of (g.sub _ _ (p _ _ r1)), AtL.up p _ _ r2⟩)⟩
    | tup xs =>
      cases hd
      refine .inr ⟨A, F0, H0, F, s, ρ, ok, ?_⟩
      rw [q]
      intro v F2 H2 st so r
      cases r with
      | tup r1 r2 => exact ⟨_, rfl, ⟨_, same_t st.sub r1⟩, o _ F2 H2 st so (gives_tup fun F3 H3 s3 p g => ⟨same_t g.sub (same_t p r1), AtL.up p _ _ r2⟩)⟩
    | scr ns =>
      cases hd
      refine .inl ⟨A, F0, H0, F, s, ρ, ok, ?_⟩
      rw [q]
      intro v F2 H2 st so r
      cases r with
      | scr r1 => exact ⟨_, rfl, ⟨_, same_l st.sub r1⟩, o _ F2 H2 st so (gives_list fun F3 H3 s3 p g => ⟨same_l g.sub (same_l p r1), AtL.ints ns⟩)⟩
    | _ => cases hd
/-- .. over a list of our own, within a comprehension -/
theorem dic_seq {tg : Expr} (h : DO X W e f) : DIC X W tg e (iSeq f) := by
  refine ⟨pi_imp (pi_alt (pi_list h.pe) (pi_tup h.pe)) fun σ H R h => ?_⟩
  obtain ⟨A, F0, H0, F, s, ρ, ok, o⟩ := h
  have o : Out X.mg W A F H σ (rC X.K A H) R ((f ρ s).bind fun d s2 => ofO (dSeq d) s2) := o
  cases q : f ρ s with
  | no => rw [q] at o; exact o.elim
  | ex x s2 =>
    rw [q] at o
    refine .inl ⟨A, F0, H0, F, s, ρ, ok, ?_⟩
    rw [q]
    exact o
  | ok d s2 =>
    rw [q] at o
    have o : Out X.mg W A F H σ (rC X.K A H) R (ofO (dSeq d) s2) := o
    obtain ⟨ds, hd, o⟩ := o.o
    cases d with
    | lst xs =>
      cases hd
      refine .inl ⟨A, F0, H0, F, s, ρ, ok, ?_⟩
      rw [q]
      intro v F2 H2 st so r
      obtain ⟨a, vs, rfl, h1, h2⟩ := AtO.lst st.sub r
      refine ⟨_, rfl, ⟨_, SqL.of h1⟩, o _ F2 H2 st so (gives_list (vs := vs) fun F3 H3 s3 p g => ?_)⟩
      refine ⟨?_, AtL.up p.ext _ _ h2⟩
      rcases r with r | ⟨a', vs', ds', e1, e2, r1, r2, r3, r4⟩
      · cases r with
        | lst r1 r2 =>
          have z := st.sub _ _ r1
          rw [h1] at z
          cases z
          exact SqL.of (g.sub _ _ (p.ext _ _ r1))
      · cases e1
        exact SqL.of (p.keep a _ h1 r3)
    | tup xs =>
      cases hd
      refine .inr ⟨A, F0, H0, F, s, ρ, ok, ?_⟩
      rw [q]
      intro v F2 H2 st so r
      rcases r with r | ⟨_, _, _, _, e2, _⟩
      · cases r with
        | tup r1 r2 => exact ⟨_, rfl, ⟨_, same_t st.sub r1⟩, o _ F2 H2 st so (gives_tup fun F3 H3 s3 p g => ⟨same_t g.sub (same_t p.ext r1), AtL.up p.ext _ _ r2⟩)⟩
      · cases e2
    | scr ns =>
      cases hd
      refine .inl ⟨A, F0, H0, F, s, ρ, ok, ?_⟩
      rw [q]
      intro v F2 H2 st so r
      rcases r with r | ⟨_, _, _, _, e2, _⟩
      · cases r with
        | scr r1 => exact ⟨_, rfl, ⟨_, same_l st.sub r1⟩, o _ F2 H2 st so (gives_list fun F3 H3 s3 p g => ⟨same_l g.sub (same_l p.ext r1), AtL.ints ns⟩)⟩
      · cases e2
    | _ => cases hd
/-- over range(n), range(a, b) -/
def rngs (lo : Int) (n : Nat) : List Dt := (List.range n).map fun (i : Nat) => Dt.int (lo + (i : Int))
def rngC (j : Int) : Bool := decide (-(2 ^ 62) ≤ j) && decide (j < 2 ^ 62)
theorem gives_rng {K : PySem.W.Frag} {A : Sa} {P : Hp → Hp → Prop} (lo : Int) (n : Nat) : Gives K A P (Itr lo n) (rngs lo n) := by
  intro i F H s p g
  have hl : (rngs lo n).length = n := by unfold rngs; rw [List.length_map, List.length_range]
  refine ⟨fun d e => ?_, fun e => by rw [hl] at e; show n ≤ i; omega⟩
  have hi : i < n := by
    have := (List.getElem?_eq_some_iff.mp e).1
    rwa [hl] at this
  have : d = .int (lo + i) := by
    unfold rngs at e
    rw [List.getElem?_map, List.getElem?_range hi] at e
    exact (Option.some.inj e).symm
  subst this
  refine ⟨hi, fun x H2 y => ?_⟩
  obtain ⟨rfl, rfl⟩ := y
  exact ⟨F, Stq.refl g, .int _⟩
@[simp] def iRg1 : List Dt → Option (List Dt)
  | [.int j] => if rngC j then some (rngs 0 j.toNat) else none
  | _ => none
@[simp] def iRg2 : List Dt → Option (List Dt)
  | [.int i, .int j] => if rngC i && rngC j then some (rngs i (j - i).toNat) else none
  | _ => none
@[simp] def iRng1 (fs : Sm (List Dt)) : Sm (List Dt) := fun ρ s => (fs ρ s).bind fun ds s2 => ofO (iRg1 ds) s2
@[simp] def iRng2 (fs : Sm (List Dt)) : Sm (List Dt) := fun ρ s => (fs ρ s).bind fun ds s2 => ofO (iRg2 ds) s2
theorem rngC_of {j : Int} (h : rngC j = true) : -(2 ^ 62) ≤ j ∧ j < 2 ^ 62 := by
  unfold rngC at h
  simpa only [Bool.and_eq_true, decide_eq_true_eq] using h
theorem dif_range1 {tg : Expr} {p : Pos} (hg : Gl X "range") (hm : X.mg "range" = none) (ha : DA X W [e] fs) (hs : starEach [e] X.env = [(false, eval e X.env)] := by rfl) : DIF X W tg (.Call (.Name "range" p) [e] [] pos) (iRng1 fs) := by
  refine ⟨pi_imp (pi_range1 hg hm ha.pa hs) fun σ H R h => In.run h ?_⟩
  intro A F0 H0 F s ρ ds s2 vs F2 H2 ok st so ok2 r o
  obtain ⟨z, hz, o⟩ := o.o
  unfold iRg1 at hz
  split at hz
  · obtain ⟨c, rfl⟩ := of_ite hz
    cases r with
    | cons r t =>
      cases r
      cases t
      obtain ⟨c1, c2⟩ := rngC_of c
      exact ⟨_, rfl, c1, c2, o _ F2 H2 st so (gives_rng 0 _)⟩
  · cases hz
theorem dif_range2 {tg : Expr} {p : Pos} (hg : Gl X "range") (hm : X.mg "range" = none) (ha : DA X W [e, e2] fs) (hs : starEach [e, e2] X.env = [(false, eval e X.env), (false, eval e2 X.env)] := by rfl) (hs2 : starEach [e2] X.env = [(false, eval e2 X.env)] := by rfl) :
    DIF X W tg (.Call (.Name "range" p) [e, e2] [] pos) (iRng2 fs) := by
  refine ⟨pi_imp (pi_range2 hg hm ha.pa hs hs2) fun σ H R h => In.run h ?_⟩
  intro A F0 H0 F s ρ ds s2 vs F2 H2 ok st so ok2 r o
  obtain ⟨z, hz, o⟩ := o.o
  unfold iRg2 at hz
  split at hz
  · obtain ⟨c, rfl⟩ := of_ite hz
    rw [Bool.and_eq_true] at c
    cases r with
    | cons r t =>
      cases r
      cases t with
      | cons r t =>
        cases r
        cases t
        obtain ⟨c1, c2⟩ := rngC_of c.1
        obtain ⟨c3, c4⟩ := rngC_of c.2
        exact ⟨_, _, rfl, ⟨c1, c2, c3, c4⟩, o _ F2 H2 st so (gives_rng _ _)⟩
  · cases hz
end
end DD
set_option Elab.async false
set_option linter.all false
set_option maxRecDepth 100000
set_option maxHeartbeats 1000000
/-! DDg: loops, comprehensions, calls of defs, defs, raise and try. -/
namespace DD
open PySem PySem.Spec PyProof.Rows L2
section
variable {X : Cx} {W : WX} {e e2 e3 : Expr} {es : List Expr} {f g : Sm Dt} {fs gs : Sm (List Dt)} {b c : Sm Bool} {pos p2 p3 apos cpos : Pos} {m n : Ss} {st : Stmt} {sts sts2 : List Stmt}
  {tg iter : Expr} {is : List Nat} {gg : Dt → List Sl → Option (List Sl)}

/-! ### for -/
def loopS (gg : Dt → List Sl → Option (List Sl)) (body : Ss) : List Dt → Ss
  | [], ρ, s => .nx ρ s
  | d :: ds, ρ, s => match gg d ρ with
    | none => .no
    | some ρ1 => match body ρ1 s with
      | .nx ρ2 s2 => loopS gg body ds ρ2 s2
      | .ct ρ2 s2 => loopS gg body ds ρ2 s2
      | .brk ρ2 s2 => .nx ρ2 s2
      | r => r
@[simp] def sFor (fs : Sm (List Dt)) (gg : Dt → List Sl → Option (List Sl)) (body : Ss) : Ss := fun ρ s => (fs ρ s).st ρ fun ds s2 => loopS gg body ds ρ s2
theorem ds_for (hi : DIF X W tg iter fs) (hg : DG X tg is gg) (hb : DSs X W sts m) (hp : PassesOwn (model X.prog X.w) X.A X.env X.xe) (hc : X.calm = true) (hs : ∀ x, foldedSetIterable iter X.env x = pure x := by intro _; rfl) :
    DS X W (.For tg iter sts [] pos) (sFor fs gg m) := by
  refine ⟨ps_imp (ps_for hp hc hi.pi hg.pg hb.ps hs) fun D σ H h => InS.run (R := rF X.K) h ?_⟩
  intro A F0 H0 F s ρ ds s2 J F1 H1 ok st ok1 r o
  refine ⟨fun i k σ H => k = ds.length - i ∧ i ≤ ds.length ∧ ∃ F s ρ, Ok X.K A F1 H0 F H s σ ρ ∧ OutS X.K X.mg W A F1 H0 D (loopS gg m (ds.drop i) ρ s), ⟨ds.length, rfl, Nat.zero_le _, F1, s2, ρ, ok1.raise, ?_⟩, ?_⟩
  · rw [List.drop_zero]
    exact o.raise ok1.st
  · rintro i k σ H ⟨rfl, hi, F2, s3, ρ3, ok3, o3⟩
    obtain ⟨r1, r2⟩ := r i F2 H s3 ok3.st.ext ok3.gd
    by_cases hlt : i < ds.length
    · have hd : ds.drop i = ds[i] :: ds.drop (i + 1) := List.drop_eq_getElem_cons hlt
      obtain ⟨go, yl⟩ := r1 ds[i] (List.getElem?_eq_getElem hlt)
      rw [hd] at o3
      unfold loopS at o3
      cases q : gg ds[i] ρ3 with
      | none => rw [q] at o3; exact o3.elim
      | some ρ4 =>
        rw [q] at o3
        refine .inr ⟨go, fun σ' H' => ∃ F s ρ, Ok X.K A F1 H0 F H' s σ' ρ ∧ OutS X.K X.mg W A F1 H0 D (loopS gg m (ds.drop (i + 1)) ρ s), fun σ' H' n => ⟨ds.length - (i + 1), by omega, rfl, hlt, n⟩, fun x H' y => ?_⟩
        obtain ⟨F4, sq, a⟩ := yl x H' y
        have ok4 := ok3.step sq.p (ok3.so.keep sq.keep)
        refine ⟨A, F1, H0, F4, s3, ρ3, ds[i], ρ4, ok4, a, q, fun σ2 ok5 _ => ⟨A, F1, H0, F4, s3, ρ4, ok5, ?_⟩⟩
        dsimp only at o3
        cases z : m ρ4 s3 with
        | nx ρ5 s5 => rw [z] at o3; exact fun F6 σ6 H6 ok6 => ⟨F6, s5, ρ5, ok6, o3⟩
        | ct ρ5 s5 => rw [z] at o3; exact fun F6 σ6 H6 ok6 => ⟨F6, s5, ρ5, ok6, o3⟩
        | brk ρ5 s5 => rw [z] at o3; exact o3
        | ret d s5 => rw [z] at o3; exact o3
        | ex x ρ5 s5 => rw [z] at o3; exact o3
        | no => rw [z] at o3; exact o3
    · have e : i = ds.length := by omega
      refine .inl ⟨r2 e, ?_⟩
      rw [e, List.drop_length] at o3
      exact o3 F2 σ H ok3

/-! ### while -/
/-- at most k turns -/
def whileS (b : Sm Bool) (body : Ss) : Nat → Ss
  | 0, _, _ => .no
  | k + 1, ρ, s => (b ρ s).st ρ fun x s2 => if x then (match body ρ s2 with
    | .nx ρ2 s3 => whileS b body k ρ2 s3
    | .ct ρ2 s3 => whileS b body k ρ2 s3
    | .brk ρ2 s3 => .nx ρ2 s3
    | r => r) else .nx ρ s2
/-- the number of turns that a while may take: never reckoned -/
def many : Nat := 10 ^ 30
@[simp] def sWhile (b : Sm Bool) (body : Ss) : Ss := fun ρ s => whileS b body many ρ s
theorem ds_while (hc : DT X W e b) (hb : DSs X W sts m) (hp : PassesOwn (model X.prog X.w) X.A X.env X.xe) : DS X W (.While e sts [] pos) (sWhile b m) := by
  refine ⟨ps_imp (ps_while hp hc.pt hb.ps) fun D σ H h => ?_⟩
  obtain ⟨A, F0, H0, F, s, ρ, ok, o⟩ := h
  unfold sWhile at o
  refine ⟨fun k σ H => ∃ F s ρ, Ok X.K A F0 H0 F H s σ ρ ∧ OutS X.K X.mg W A F0 H0 D (whileS b m k ρ s), ⟨many, F, s, ρ, ok, o⟩, ?_⟩
  rintro k σ H ⟨F2, s2, ρ2, ok2, o2⟩
  cases k with
  | zero => exact o2.elim
  | succ k =>
    refine ⟨A, F0, H0, F2, s2, ρ2, ok2, Out.ofS ok2 (show OutS X.K X.mg W A F0 H0 D ((b ρ2 s2).st ρ2 fun x s2 => if x then _ else _) from o2) fun x s3 v F3 H3 st3 ok3 r3 o3 => ?_⟩
    cases r3
    cases x with
    | false =>
      rw [if_neg Bool.false_ne_true]
      exact o3 F3 σ H3 ok3
    | true =>
      rw [if_pos rfl] at o3 ⊢
      refine ⟨fun σ' H' => ∃ F s ρ, Ok X.K A F0 H0 F H' s σ' ρ ∧ OutS X.K X.mg W A F0 H0 D (whileS b m k ρ s), fun σ' H' n => ⟨k, Nat.lt_succ_self k, n⟩, A, F0, H0, F3, s3, ρ2, ok3, ?_⟩
      cases z : m ρ2 s3 with
      | nx ρ5 s5 => rw [z] at o3; exact fun F6 σ6 H6 ok6 => ⟨F6, s5, ρ5, ok6, o3⟩
      | ct ρ5 s5 => rw [z] at o3; exact fun F6 σ6 H6 ok6 => ⟨F6, s5, ρ5, ok6, o3⟩
      | brk ρ5 s5 => rw [z] at o3; exact o3
      | ret d s5 => rw [z] at o3; exact o3
      | ex x ρ5 s5 => rw [z] at o3; exact o3
      | no => rw [z] at o3; exact o3

/-! ### comprehensions -/
abbrev W0 : WX := fun _ _ _ _ => False
@[simp] def wipeR (ρ : List Sl) : List Nat → List Sl
  | [] => ρ
  | v :: vs => (wipeR ρ vs).set v .un
theorem Ok.wipe {K : PySem.W.Frag} {A : Sa} {F0 H0 F H : Hp} {s : Sv} {σ : L2.St} {ρ : List Sl} (ok : Ok K A F0 H0 F H s σ ρ) : ∀ vs : List Nat, Ok K A F0 H0 F H s (wipe σ vs) (wipeR ρ vs)
  | [] => ok
  | v :: vs => by
    have ih := Ok.wipe ok vs
    refine ⟨ih.st, ih.so, by show ((wipeR ρ vs).set v .un).length = ((L2.wipe σ vs).set v none).length; rw [List.length_set, List.length_set]; exact ih.len, fun j x o a b => ?_, fun j k xs ys r n a b c d => ?_⟩
    · have a : ((wipeR ρ vs).set v .un)[j]? = some x := a
      have b : ((L2.wipe σ vs).set v none)[j]? = some o := b
      by_cases z : v = j
      · subst z
        rw [List.getElem?_set_self (by have := (List.getElem?_eq_some_iff.mp a).1; rwa [List.length_set] at this)] at a
        cases a
        trivial
      · rw [List.getElem?_set_ne z] at a b
        exact ih.sl j x o a b
    · have a : ((wipeR ρ vs).set v .un)[j]? = some (.own xs) := a
      have b : ((wipeR ρ vs).set v .un)[k]? = some (.own ys) := b
      have c : ((L2.wipe σ vs).set v none)[j]? = some (some (.ref r)) := c
      have d : ((L2.wipe σ vs).set v none)[k]? = some (some (.ref r)) := d
      have ne : ∀ (l : Nat) (zs : List Dt), ((wipeR ρ vs).set v .un)[l]? = some (Sl.own zs) → v ≠ l := fun l zs w z => by
        subst z
        rw [List.getElem?_set_self (by have := (List.getElem?_eq_some_iff.mp w).1; rwa [List.length_set] at this)] at w
        cases w
      have n1 := ne j xs a
      have n2 := ne k ys b
      rw [List.getElem?_set_ne n1] at a c
      rw [List.getElem?_set_ne n2] at b d
      exact ih.ap j k xs ys r n a b c d
/-- the turns of a comprehension -/
def compS (gg : Dt → List Sl → Option (List Sl)) (b : Sm Bool) (f : Sm Dt) (ρ : List Sl) : List Dt → List Dt → Sv → Rs (List Dt)
  | [], acc, s => .ok acc s
  | d :: ds, acc, s => match gg d ρ with
    | none => .no
    | some ρ1 => match b ρ1 s with
      | .ok x s2 => if x then (match f ρ1 s2 with
        | .ok y s3 => if chk (acc.length + 1) then compS gg b f ρ ds (acc ++ [y]) s3 else .no
        | _ => .no) else compS gg b f ρ ds acc s2
      | _ => .no
@[simp] def lComp (vs : List Nat) (fs : Sm (List Dt)) (gg : Dt → List Sl → Option (List Sl)) (b : Sm Bool) (f : Sm Dt) : Sm (List Dt) := fun ρ s => (fs ρ s).bind fun ds s2 => compS gg b f (wipeR ρ vs) ds [] s2
structure DTs (X : Cx) (W : WX) (es : List Expr) (f : Sm Bool) : Prop where
  pt : PTs X es (In X.K X.mg W rT f)
@[simp] def tTrue : Sm Bool := fun _ s => .ok true s
theorem dts_nil : DTs X W [] tTrue := ⟨⟨fun pins s σ H Q I h => pts_nil.run pins s σ H Q I (by
  obtain ⟨A, F0, H0, F, s, ρ, ok, o⟩ := h
  exact o.ok (Stp.refl ok.gd) ok.so rfl)⟩⟩
theorem dts_one (h : DT X W e b) : DTs X W [e] b := ⟨pts_one h.pt⟩
/-- the reading of a comprehension's turns -/
theorem in_comp {K : PySem.W.Frag} {mg : Str → Option Value} {vs : List Nat} {σ : L2.St} {H : Hp} {Q : VK} {wi : TI} (hwi : ∀ σ H R, In K mg W (rC K) fs σ H R → wi σ H R) (sub : ∀ i ∈ is, i ∈ vs)
    (h : In K mg W (rL K) (lComp vs fs gg b f) σ H Q) : tLc wi (InG K is gg) (In K mg W0 rT b) (In K mg W0 (rD K) f) vs σ H Q := by
  refine hwi _ _ _ (In.run h ?_)
  intro A F0 H0 F s ρ ds s2 J F1 H1 ok st so ok1 r o D hD
  have nf : ¬ fp A D := fun z => by
    obtain ⟨u, hu⟩ := so.there z
    rw [hD] at hu; cases hu
  have n0 : H D = none := by
    cases e : H D with
    | none => rfl
    | some u => rw [st.keep D u e nf] at hD; cases hD
  refine ⟨fun i k H2 => k = ds.length - i ∧ i ≤ ds.length ∧ ∃ F2 s2 acc vs', Stp A F1 H1 F2 H2 ∧ SrcOk A H2 s2 ∧ H2 D = some (.lst vs') ∧ F2 D = none ∧ AtL K A F2 vs' acc ∧ Out mg W A F H σ (rL K A H) Q (compS gg b f (wipeR ρ vs) (ds.drop i) acc s2), ⟨ds.length, rfl, Nat.zero_le _, F1, s2, [], [], ?_⟩, ?_⟩
  · have sq := Stq.loose (o := .lst []) ok1.gd hD
    exact ⟨sq.p, so.keep sq.keep, upd_same, ok1.gd.sub.free hD, .nil, by rw [List.drop_zero]; exact o⟩
  · rintro i k H2 ⟨rfl, hi, F2, s3, acc, vs', st2, so2, d1, d2, d3, o2⟩
    have g2 := st2.gd so2
    obtain ⟨r1, r2⟩ := r i F2 H2 s3 st2 g2
    by_cases hlt : i < ds.length
    · have hd : ds.drop i = ds[i] :: ds.drop (i + 1) := List.drop_eq_getElem_cons hlt
      obtain ⟨go, yl⟩ := r1 ds[i] (List.getElem?_eq_getElem hlt)
      rw [hd] at o2
      unfold compS at o2
      cases q : gg ds[i] (wipeR ρ vs) with
      | none => rw [q] at o2; exact o2.elim
      | some ρ4 =>
        rw [q] at o2
        dsimp only at o2
        refine .inr ⟨go, fun H3 => ∃ F2 s2 acc vs', Stp A F1 H1 F2 H3 ∧ SrcOk A H3 s2 ∧ H3 D = some (.lst vs') ∧ F2 D = none ∧ AtL K A F2 vs' acc ∧ Out mg W A F H σ (rL K A H) Q (compS gg b f (wipeR ρ vs) (ds.drop (i + 1)) acc s2), fun H' n => ⟨ds.length - (i + 1), by omega, rfl, hlt, n⟩, fun x H' y => ?_⟩
        obtain ⟨F4, sq, a⟩ := yl x H' y
        have st4 := st2.trans sq.p
        have so4 := so2.keep sq.keep
        have ok4 : Ok K A F0 H0 F4 H' s3 (wipe σ vs) (wipeR ρ vs) := (ok1.step st4 so4).wipe vs
        have e1 : H' D = some (.lst vs') := sq.keep _ _ d1
        have e2 : F4 D = none := by
          cases z : F4 D with
          | none => rfl
          | some u =>
            have w := sq.new D u z d2
            rw [d1] at w; cases w
        have e3 := AtL.up sq.ext _ _ d3
        refine ⟨A, F0, H0, F4, s3, wipeR ρ vs, ds[i], ρ4, ok4, a, q, fun σ2 ok5 eo => ⟨eo.wipe sub, ?_⟩⟩
        refine ⟨A, F0, H0, F4, s3, ρ4, ok5, ?_⟩
        cases qb : b ρ4 s3 with
        | no => rw [qb] at o2; exact o2.elim
        | ex x s5 => rw [qb] at o2; exact o2.elim
        | ok t s5 =>
          rw [qb] at o2
          intro v F5 H5 st5 so5 rt
          cases rt
          have ok5' := ok5.step st5 so5
          have f1 : H5 D = some (.lst vs') := st5.keep _ _ e1 nf
          have f2 : F5 D = none := by
            cases z : F5 D with
            | none => rfl
            | some u =>
              have w := st5.new D u z e2
              rw [e1] at w; cases w
          have f3 := AtL.up st5.ext _ _ e3
          cases t with
          | false =>
            rw [if_neg Bool.false_ne_true]
            exact ⟨F5, s5, acc, vs', st4.trans st5, so5, f1, f2, f3, o2⟩
          | true =>
            rw [if_pos rfl]
            refine ⟨A, F0, H0, F5, s5, ρ4, ok5', ?_⟩
            dsimp only at o2
            rw [if_pos rfl] at o2
            cases qf : f ρ4 s5 with
            | no => rw [qf] at o2; exact o2.elim
            | ex x s6 => rw [qf] at o2; exact o2.elim
            | ok y s6 =>
              rw [qf] at o2
              intro w F6 H6 st6 so6 r6
              dsimp only at o2
              obtain ⟨ck, o2⟩ := o2.chk
              have h1 : H6 D = some (.lst vs') := st6.keep _ _ f1 nf
              have h2 : F6 D = none := by
                cases z : F6 D with
                | none => rfl
                | some u =>
                  have w := st6.new D u z f2
                  rw [f1] at w; cases w
              have h3 := (AtL.up st6.ext _ _ f3).append (.cons r6 .nil)
              have st16 := (st4.trans st5).trans st6
              refine ⟨vs', h1, by rw [f3.length]; exact chk_lt ck, F6, s6, acc ++ [y], vs' ++ [w], ⟨st16.ext, fun p o z => ?_, fun p o z n => ?_, st16.new, st16.nof⟩, ?_, upd_same, h2, h3, o2⟩
              · rw [upd_ne (ne_of_none z h2)]; exact st16.sub p o z
              · rw [upd_ne (ne_of_none z hD)]; exact st16.keep p o z n
              · have ne : ∀ p, fp A p → p ≠ D := fun p z w => nf (w ▸ z)
                rcases so6 with so | ⟨d, c, v, so, so0, so1, so2⟩
                · exact .inl so
                · exact .inr ⟨d, c, v, so, so0, by rw [upd_ne (ne d ⟨_, so, .inl rfl⟩)]; exact so1, by rw [upd_ne (ne c ⟨_, so, .inr rfl⟩)]; exact so2⟩
    · have e : i = ds.length := by omega
      refine .inl ⟨r2 e, ?_⟩
      rw [e, List.drop_length] at o2
      exact o2 _ F2 H2 (st.trans st2) so2 ⟨D, vs', rfl, n0, d1, d2, nf, d3⟩
variable {elt : Expr} {ifs : List Expr} {scope : Scope} {own : List (Str × Nat)} {spos : Pos}
theorem dl_comp (own : List (Str × Nat)) (hi : DIC X W tg iter fs) (hc : X.calm = true) (hN : X.N.Nodup) (ok : BlkOk X.N X.env.scope scope own)
    (hg : ∀ (s : Shared) (H : Hp) (C : Addr) (cl : List (Str × Addr)) (fp : List Addr), DG (X.blk s H scope (compEnvC scope cl C X.env) fp) tg is gg) (ht : ∀ (s : Shared) (H : Hp) (C : Addr) (cl : List (Str × Addr)) (fp : List Addr), DTs (X.blk s H scope (compEnvC scope cl C X.env) fp) W0 ifs b)
    (he : ∀ (s : Shared) (H : Hp) (C : Addr) (cl : List (Str × Addr)) (fp : List Addr), DE (X.blk s H scope (compEnvC scope cl C X.env) fp) W0 elt f) (sub : ∀ i ∈ is, i ∈ own.map (·.2) := by decide) (hs : ∀ x, foldedSetIterable iter X.env x = pure x := by intro _; rfl) :
    DL X W (.ListComp elt [⟨tg, iter, ifs, 0⟩] scope pos) (lComp (own.map (·.2)) fs gg b f) :=
  ⟨pe_imp (pe_lc (g := InG X.K is gg) (tt := In X.K X.mg W0 rT b) (te := In X.K X.mg W0 (rD X.K) f) hc hN hi.pi ok (fun s H C cl fp => (hg s H C cl fp).pg) (fun s H C cl fp => (ht s H C cl fp).pt) (fun s H C cl fp => (he s H C cl fp).pe) hs) fun σ H Q h => in_comp (fun _ _ _ z => z) sub h⟩
/-- y = [..], a value | a list of our own -/
theorem ds_setLc (i : Nat) {y : Str} {py : Pos} (own : List (Str × Nat)) (hi : DIC X W tg iter fs) (hc : X.calm = true) (hN : X.N.Nodup) (ok : BlkOk X.N X.env.scope scope own) (hy : X.N[i]? = some y) (hyl : X.env.scope.names.lookup y = some .local)
    (hsw : swapsWith (.ListComp elt [⟨tg, iter, ifs, 0⟩] scope pos) (some (.Name y py)) spos.line X.env = pure true)
    (hg : ∀ (s : Shared) (H : Hp) (C : Addr) (cl : List (Str × Addr)) (fp : List Addr), DG (X.blk s H scope (compEnvC scope cl C X.env) fp) tg is gg) (ht : ∀ (s : Shared) (H : Hp) (C : Addr) (cl : List (Str × Addr)) (fp : List Addr), DTs (X.blk s H scope (compEnvC scope cl C X.env) fp) W0 ifs b)
    (he : ∀ (s : Shared) (H : Hp) (C : Addr) (cl : List (Str × Addr)) (fp : List Addr), DE (X.blk s H scope (compEnvC scope cl C X.env) fp) W0 elt f) (sub : ∀ i ∈ is, i ∈ own.map (·.2) := by decide) (hs : ∀ x, foldedSetIterable iter X.env x = pure x := by intro _; rfl) :
    DS X W (.Assign [.Name y py] (.ListComp elt [⟨tg, iter, ifs, 0⟩] scope pos) spos) (sSet i (vL (lComp (own.map (·.2)) fs gg b f))) := by
  refine ⟨ps_imp (ps_setLc (g := InG X.K is gg) (tt := In X.K X.mg W0 rT b) (te := In X.K X.mg W0 (rD X.K) f) hc hN hy hyl hsw hi.pi ok (fun s H C cl fp => (hg s H C cl fp).pg) (fun s H C cl fp => (ht s H C cl fp).pt) (fun s H C cl fp => (he s H C cl fp).pe) hs) fun D σ H h => ?_⟩
  have h : In X.K X.mg W (rD X.K) (vL (lComp (own.map (·.2)) fs gg b f)) σ H (fun v H1 => D.nx (σ.set i (some v)) H1) := InS.run (R := rD X.K) h fun A F0 H0 F s ρ d s2 v F2 H2 ok st ok2 r o => o F2 _ H2 (ok2.setVal r)
  refine in_comp (fun _ _ _ z => z) sub (In.run h ?_)
  intro A F0 H0 F s ρ ds s2 v F2 H2 ok st so ok2 r o
  obtain ⟨p, vs, rfl, n0, h2, n2, nf, a⟩ := r
  exact o.ok (st.frz n0 h2 nf n2) so (.lst upd_same (AtL.up (same_new n2) _ _ a))
theorem ds_setLcO (i : Nat) {y : Str} {py : Pos} (own : List (Str × Nat)) (hi : DIC X W tg iter fs) (hc : X.calm = true) (hN : X.N.Nodup) (ok : BlkOk X.N X.env.scope scope own) (hy : X.N[i]? = some y) (hyl : X.env.scope.names.lookup y = some .local)
    (hsw : swapsWith (.ListComp elt [⟨tg, iter, ifs, 0⟩] scope pos) (some (.Name y py)) spos.line X.env = pure true)
    (hg : ∀ (s : Shared) (H : Hp) (C : Addr) (cl : List (Str × Addr)) (fp : List Addr), DG (X.blk s H scope (compEnvC scope cl C X.env) fp) tg is gg) (ht : ∀ (s : Shared) (H : Hp) (C : Addr) (cl : List (Str × Addr)) (fp : List Addr), DTs (X.blk s H scope (compEnvC scope cl C X.env) fp) W0 ifs b)
    (he : ∀ (s : Shared) (H : Hp) (C : Addr) (cl : List (Str × Addr)) (fp : List Addr), DE (X.blk s H scope (compEnvC scope cl C X.env) fp) W0 elt f) (sub : ∀ i ∈ is, i ∈ own.map (·.2) := by decide) (hs : ∀ x, foldedSetIterable iter X.env x = pure x := by intro _; rfl) :
    DS X W (.Assign [.Name y py] (.ListComp elt [⟨tg, iter, ifs, 0⟩] scope pos) spos) (sSetO i (lComp (own.map (·.2)) fs gg b f)) := by
  refine ⟨ps_imp (ps_setLc (g := InG X.K is gg) (tt := In X.K X.mg W0 rT b) (te := In X.K X.mg W0 (rD X.K) f) hc hN hy hyl hsw hi.pi ok (fun s H C cl fp => (hg s H C cl fp).pg) (fun s H C cl fp => (ht s H C cl fp).pt) (fun s H C cl fp => (he s H C cl fp).pe) hs) fun D σ H h => ?_⟩
  refine in_comp (fun _ _ _ z => z) sub (InS.run (R := rL X.K) h ?_)
  intro A F0 H0 F s ρ ds s2 v F2 H2 ok st ok2 r o
  obtain ⟨p, vs, rfl, n0, h1, h2, h3, h4⟩ := r
  exact o F2 _ H2 (ok2.set i ok.st (fun j xs q e1 e2 => ok.kn j xs q e1 e2) ⟨p, vs, rfl, n0, h1, h2, h3, h4⟩)
end
end DD
set_option Elab.async false
set_option linter.all false
set_option maxRecDepth 100000
set_option maxHeartbeats 1000000
/-! DDh: a def's plain function; calls; raise, try; the law's end. -/
namespace DD
open PySem PySem.Spec PyProof.Rows L2

/-! ### a def and its plain function -/
def SpG (K : PySem.W.Frag) (mg : Str → Option Value) (n : Nat) (m : List Dt → Sv → Rs Dt) : Sp := fun vs H Q E =>
  ∃ A F s ds, Gd A F H s ∧ AtL K A F vs ds ∧ ds.length = n ∧ (match m ds s with
    | .ok d s2 => ∀ v F2 H2, Stp A F H F2 H2 → SrcOk A H2 s2 → At K A F2 v d → Q v H2
    | .ex x s2 => ∀ F2 H2 c, mg x = some c → Stp A F H F2 H2 → SrcOk A H2 s2 → E c none H2
    | .no => False)
structure FnG (P : Program) (w : World) (K : PySem.W.Frag) (mg : Str → Option Value) (base : Heap) (k : Nat) (f : Addr) (fd : FuncData) (ps : List Str) (m : List Dt → Sv → Rs Dt) : Prop where
  run : ∀ (A : Around) (outer : List Env) (s : Shared) (H : Hp) (args : Args) (us : List Value) (vs : List V) (Q : VK) (E : XK), Rm k A → Env0 P w K mg base A outer s H → BindsTo s fd args (ps.zip us) → Vals vs us → SpG K mg ps.length m vs H Q E →
    codeAny (model P w) A (.call (.ref f) args) (CR (L2.CX P w) outer P w H s Q E) s
section
variable {P : Program} {w : World} {K : PySem.W.Frag} {mg : Str → Option Value} {base : Heap} {k : Nat} {f : Addr} {fd : FuncData} {ps : List Str} {m m2 : List Dt → Sv → Rs Dt}
theorem FnG.mono {j : Nat} (F : FnG P w K mg base j f fd ps m) (h : j ≤ k) : FnG P w K mg base k f fd ps m := ⟨fun A outer s H args us vs Q E hr => F.run A outer s H args us vs Q E (hr.mono h)⟩
/-- a plainer function, that says the same where it says something -/
theorem FnG.imp (F : FnG P w K mg base k f fd ps m) (h : ∀ ds s, ds.length = ps.length → m2 ds s = .no ∨ m2 ds s = m ds s) : FnG P w K mg base k f fd ps m2 :=
  ⟨fun A outer s H args us vs Q E hr e0 hb hv hs => F.run A outer s H args us vs Q E hr e0 hb hv (by
    obtain ⟨A', F', s', ds, g, a, l, q⟩ := hs
    refine ⟨A', F', s', ds, g, a, l, ?_⟩
    rcases h ds s' l with e | e
    · rw [e] at q; exact q.elim
    · rw [e] at q; exact q)⟩
theorem FnG.none : FnG P w K mg base k f fd ps (fun _ _ => .no) := ⟨fun A outer s H args us vs Q E hr e0 hb hv hs => by
  obtain ⟨A', F', s', ds, g, a, l, q⟩ := hs
  exact q.elim⟩
end
/-- a body's plain function as the def's -/
@[simp] def callS (n : Nat) (b : Ss) : List Dt → Sv → Rs Dt := fun ds s => match b (ds.map Sl.val ++ List.replicate (n - ds.length) .un) s with
  | .nx _ s2 => .ok .non s2
  | .ret d s2 => .ok d s2
  | .ex x _ s2 => .ex x s2
  | _ => .no
theorem ok_start {K : PySem.W.Frag} {A : Sa} {F H : Hp} {s : Sv} {N : List Str} {vs : List V} {ds : List Dt} (g : Gd A F H s) (a : AtL K A F vs ds) : Ok K A F H F H s (L2.start N vs) (ds.map Sl.val ++ List.replicate (N.length - ds.length) .un) := by
  have hl := a.length
  refine ⟨Stp.refl g, g.so, ?_, fun i x o e1 e2 => ?_, fun i j xs ys p n e1 => ?_⟩
  · unfold L2.start
    simp only [List.length_append, List.length_map, List.length_replicate, hl]
  · unfold L2.start at e2
    by_cases hi : i < ds.length
    · rw [List.getElem?_append_left (by simpa using hi), List.getElem?_map] at e1
      rw [List.getElem?_append_left (by simpa [hl] using hi), List.getElem?_map] at e2
      obtain ⟨d, q1, rfl⟩ := Option.map_eq_some_iff.mp e1
      obtain ⟨v, q2, q3⟩ := a.get q1
      rw [q2] at e2
      cases e2
      exact ⟨v, rfl, q3⟩
    · rw [List.getElem?_append_right (by simpa using hi), List.getElem?_replicate] at e1
      split at e1
      · cases e1; trivial
      · cases e1
  · by_cases hi : i < ds.length
    · rw [List.getElem?_append_left (by simpa using hi), List.getElem?_map] at e1
      obtain ⟨d, _, q⟩ := Option.map_eq_some_iff.mp e1
      cases q
    · rw [List.getElem?_append_right (by simpa using hi), List.getElem?_replicate] at e1
      split at e1 <;> cases e1
section
variable {P : Program} {w : World} {K : PySem.W.Frag} {mg : Str → Option Value} {base : Heap}
/-- THE RULE for a def -/
theorem okG {x qual : Str} {st : Stmt} {f : Addr} {fd : FuncData} {N ps : List Str} {k : Nat} (F : Fun K x qual st f fd) (S : FnScope N ps (defScope st)) (b : Ss)
    (hb : ∀ (cdv : Value) (A : Around) (outer : List Env) (s : Shared) (H : Hp) (E : XK), Rm k (A.deeper (envOfC qual (defScope st) s.heap.objs.size f cdv)) →
      DSs (cxOf (L2.CX P w) P w K mg base N qual (defScope st) f cdv A outer s H E) (fun c d _ H => E c d H) (defBody st) b) : FnG P w K mg base (k + 1) f fd ps (callS N.length b) := by
  obtain ⟨oc, od, kV, doc, pm, an, cdv, ct, osl, rfl, lk, hcd⟩ := F.ex
  constructor
  intro A outer s H args us vs Q E hr e0 hbd r hsp
  obtain ⟨A', F', s', ds, g, a, l, q⟩ := hsp
  have hl : vs.length = ps.length := a.length.trans l
  have KX : K.In s.heap := e0.mod.kin.keeps fun b o e => (e0.bs b o e).1
  have lim : s.heap.NoLimit := e0.mod.nolimit.keeps fun b o e => (e0.bs b o e).1
  have kinds : ∀ y ∈ ps.zip us, (defScope st).names.lookup y.1 = some .local ∨ ((defScope st).names.lookup y.1 = some .cell ∧ ((cellsFrom (s.heap.objs.size + 1) (defScope st).names []).lookup y.1).isSome = true) := by
    rintro ⟨n, v⟩ hy
    rcases S.par n (List.of_mem_zip hy).1 with q | q
    · exact .inl q
    · exact .inr ⟨q, PySem.W.cellsFrom_some _ _ _ (.inl q)⟩
  refine codeAny_call_function hr.depth (KX _ _ lk) rfl S.co S.gen rfl (PySem.W.codeRec_of KX hcd) (hbd _ _ _ _ ?_)
  refine wpAny_newFunctionEnv_cells S.kind kinds ?_
  intro env he s1 inc
  subst he
  refine ⟨lim.keeps inc.toInCall.keep, codeAny_func ?_⟩
  have I := inv_start (CX := L2.CX P w) (E := E) S hr.hd e0 hl r inc
  have body := (hb cdv A outer s H E (hr.deeper _)).ps.run [] s1 (L2.start N vs) H { nx := fun _ H' => Q .non H', rt := Q } I ⟨A', F', H, F', s', _, ok_start g a, by
    unfold callS at q
    cases z : b (ds.map Sl.val ++ List.replicate (N.length - ds.length) .un) s' with
    | nx ρ s2 => rw [z] at q; exact fun F2 σ2 H2 ok => q .non F2 H2 ok.st ok.so .non
    | ret d s2 => rw [z] at q; exact q
    | brk ρ s2 => rw [z] at q; exact q.elim
    | ct ρ s2 => rw [z] at q; exact q.elim
    | ex x ρ s2 => rw [z] at q; exact fun F2 σ2 H2 c e ok => q F2 H2 c e ok.st ok.so
    | no => rw [z] at q; exact q.elim⟩
  refine wpAny_mono body (fun fl s2 h => ?_) fun e s2 h => h
  cases fl with
  | ret u =>
    obtain ⟨v, σ2, H2, J, rv, hq⟩ := h
    exact ⟨v, H2, J.os, J.bare, J.base, J.hok, rv, hq⟩
  | next =>
    obtain ⟨σ2, H2, J, hq⟩ := h
    exact ⟨V.non, H2, J.os, J.bare, J.base, J.hok, rfl, hq⟩
  | brk => obtain ⟨_, _, _, hq⟩ := h; exact hq.elim
  | cont => obtain ⟨_, _, _, hq⟩ := h; exact hq.elim
end

/-! ### calls -/
section
variable {X : Cx} {W : WX} {e e2 e3 : Expr} {es : List Expr} {f g : Sm Dt} {fs gs : Sm (List Dt)} {pos p p2 p3 apos cpos : Pos} {k : Nat} {fa : Addr} {fd : FuncData} {ps : List Str} {m : List Dt → Sv → Rs Dt} {x : Str}
@[simp] def vCall (n : Nat) (m : List Dt → Sv → Rs Dt) (fs : Sm (List Dt)) : Sm Dt := fun ρ s => (fs ρ s).bind fun ds s2 => if ds.length = n then m ds s2 else .no
theorem run_fnG {pins : List (Addr × Obj)} {σ : L2.St} {H : Hp} {s : Shared} {Q : VK} {us : List Value} {vs : List V} (F : FnG X.prog X.w X.K X.mg X.base k fa fd ps m) (hr : Rm k X.A) (tk : Takes X W) (hb : Binds X.K fd ps [])
    (I : Inv X pins σ H s) (r : Vals vs us) (h : SpG X.K X.mg ps.length m vs H Q fun c d H => W c d σ H) : wpAny (model X.prog X.w) X.A (call (.ref fa) us) (EP X pins σ Q) X.xe s := by
  have hl : us.length = ps.length := by
    obtain ⟨_, _, _, ds, _, a, l, _⟩ := id h
    rw [← r.length, a.length, l]
  have bd := hb s us I.kIn (by rw [List.append_nil]; exact hl)
  rw [List.append_nil] at bd
  refine wpAny_call (codeAny_mono (F.run X.A X.stack s H ⟨us, []⟩ us vs Q (fun c d H => W c d σ H) hr I.env0 bd r h) ?_)
  intro res s2 hq
  cases res with
  | error u => exact tk u s2 (XE.of_call I (fun _ _ _ z => z) hq)
  | ok fl =>
    cases fl with
    | ret u => exact I.after hq
    | next => exact hq.elim
    | brk => exact hq.elim
    | cont => exact hq.elim
theorem in_call {σ : L2.St} {H : Hp} {Q : VK} (h : In X.K X.mg W (rD X.K) (vCall ps.length m fs) σ H Q) : In X.K X.mg W (rA X.K) fs σ H (fun vs H1 => SpG X.K X.mg ps.length m vs H1 Q fun c d H => W c d σ H) := by
  refine In.run h ?_
  intro A F0 H0 F s ρ ds s2 vs F2 H2 ok st so ok2 r o
  by_cases hl : ds.length = ps.length
  · rw [if_pos hl] at o
    refine ⟨A, F2, s2, ds, ok2.gd, r, hl, ?_⟩
    cases q : m ds s2 with
    | ok d s3 => rw [q] at o; exact fun v F3 H3 st3 so3 a => o v F3 H3 (st.trans st3) so3 a
    | ex x s3 => rw [q] at o; exact fun F3 H3 c e st3 so3 => o F3 H3 c e (st.trans st3) so3
    | no => rw [q] at o; exact o
  · rw [if_neg hl] at o
    exact o.elim
theorem de_call (F : FnG X.prog X.w X.K X.mg X.base k fa fd ps m) (hr : Rm k X.A) (tk : Takes X W) (hm : X.mg x = some (.ref fa)) (hk : PySem.W.keepIn X.K (.ref fa) = true) (hb : Binds X.K fd ps []) (ha : DA X W (e :: es) fs) (hg : Gl X x := by rfl)
    (hdb : (x == ("__debug__" : Str)) = false := by decide) (he : starEach (e :: es) X.env = (false, eval e X.env) :: starEach es X.env := by rfl) (hpl : (backTo pos (starEach es X.env)).any (·.1) = false := by rfl) :
    DE X W (.Call (.Name x p) (e :: es) [] pos) (vCall ps.length m fs) := by
  refine ⟨⟨fun pins s σ H Q I h => ?_⟩⟩
  refine wpAny_Call_Name_kw (ld_glob I hg hm ?_ hdb)
  refine PySem.W.callWith_K (h₀ := X.base) I.ok.mod.kin hk (thn (ha.pa.run pos pins s σ H _ I (in_call h)) fun us s1 h1 => ?_) he hpl
  obtain ⟨vs, H1, I1, r, q⟩ := h1
  exact ⟨I1.kIn, run_fnG F hr tk hb I1 r q⟩
theorem de_call0 (F : FnG X.prog X.w X.K X.mg X.base k fa fd ps m) (hr : Rm k X.A) (tk : Takes X W) (hm : X.mg x = some (.ref fa)) (hk : PySem.W.keepIn X.K (.ref fa) = true) (hb : Binds X.K fd ps []) (hg : Gl X x := by rfl)
    (hdb : (x == ("__debug__" : Str)) = false := by decide) : DE X W (.Call (.Name x p) [] [] pos) (vCall ps.length m aNil) := by
  refine ⟨⟨fun pins s σ H Q I h => ?_⟩⟩
  refine wpAny_Call_Name_kw (ld_glob I hg hm ?_ hdb)
  refine PySem.W.callWith_K0 I.kIn hk (run_fnG F hr tk hb I .nil ?_)
  obtain ⟨A, F0, H0, F, s, ρ, ok, o⟩ := in_call h
  exact o.ok (Stp.refl ok.gd) ok.so .nil

/-! ### raise X(), try .. except X -/
/-- X(), an own class without own __init__ -/
theorem pmk_own0 {C : Addr} {bmB : List Value} {B newId initId : String} (F : ExcBaseFacts B newId initId bmB) (q : PySem.W.excIn X.K C bmB newId = true) (gC : X.mg x = some (.ref C)) (kC : PySem.W.keepIn X.K (.ref C) = true) (r : Raises X (.ref C)) (hg : Gl X x)
    (hdb : (x == ("__debug__" : Str)) = false := by decide) : PMk X (.Call (.Name x p) [] [] pos) (fun _ H Q => Q (.ref C) none H) := by
  intro pins s σ H Q I h
  refine wpAny_Call_Name_kw (ld_glob I hg gC ?_ hdb)
  refine PySem.W.callWith_K0 I.kIn kC ?_
  obtain ⟨bm, N, nm, qn, bs, hdct, sn, sub, ab, col, dd, k0, k1, k2, k3, k5, mN, hC, hN, hni, T⟩ := exc_obj I.kIn q
  refine wpAny_call_exc_subT F T hC hN hni (fun h' e hm => ?_) (by show 0 ≤ sizeLine; exact Nat.zero_le _)
  exact mk_of I hm r h (I.hok.gone hm.new)
@[simp] def sRaise (x : Str) : Ss := fun ρ s => .ex x ρ s
theorem ds_raise0 {C : Addr} {bmB : List Value} {B newId initId : String} (F : ExcBaseFacts B newId initId bmB) (q : PySem.W.excIn X.K C bmB newId = true) (gC : X.mg x = some (.ref C)) (kC : PySem.W.keepIn X.K (.ref C) = true) (r : Raises X (.ref C)) (hc : X.calm = true) (tk : Takes X W) (hg : Gl X x := by rfl)
    (hdb : (x == ("__debug__" : Str)) = false := by decide) : DS X W (.Raise (some (.Call (.Name x p) [] [] pos)) none p2) (sRaise x) := by
  refine ⟨ps_imp (ps_raise hc tk (pmk_own0 F q gC kC r hg hdb)) fun D σ H ⟨A, F0, H0, F, s, ρ, ok, o⟩ => ?_⟩
  exact o _ _ _ _ gC ok
@[simp] def noEx : RsS → RsS
  | .ex _ _ _ => .no
  | r => r
@[simp] def sTry (x : Str) (m n : Ss) : Ss := fun ρ s => match m ρ s with
  | .ex y ρ2 s2 => if y = x then noEx (n ρ2 s2) else .no
  | r => r
theorem ds_try {c : Value} {body suite : List Stmt} {b₀ : Stmt} {np pos' : Pos} {m n : Ss} (hs : X.stack = X.env :: X.outer) (hf : X.env.frame = some X.env.locals) (hc : Names X x c) (tk : Takes X W) (hx : X.mg x = some c) (hm : PySem.W.exmOne X.K c c = some true)
    (hb : ∀ (W' : WX) (pn : List (Addr × Obj)) (xe : Value → Shared → Prop), Takes (X.tr pn xe) W' → PassesOwn (model X.prog X.w) X.A X.env xe → DSs (X.tr pn xe) W' body m)
    (hsu : ∀ (a : Addr) (pn : List (Addr × Obj)), DSs (X.suite a pn) W0 (b₀ :: suite) n) :
    DS X W (.Try body [.ExceptHandler (some (.Name x np)) none (b₀ :: suite) pos'] [] [] pos) (sTry x m n) := by
  refine ⟨ps_imp (ps_try_only (tb := fun W' => InS X.K X.mg W' m) (ts := fun _ _ _ => InS X.K X.mg W0 n) hs hf hc tk (fun W' pn xe t p => (hb W' pn xe t p).ps) fun a oe cls d pn _ _ => (hsu a _).ps) fun D σ H ⟨A, F0, H0, F, s, ρ, ok, o⟩ => ?_⟩
  refine ⟨A, F0, H0, F, s, ρ, ok, ?_⟩
  unfold sTry at o
  cases q : m ρ s with
  | nx ρ2 s2 => rw [q] at o; exact o
  | ret d s2 => rw [q] at o; exact o
  | brk ρ2 s2 => rw [q] at o; exact o
  | ct ρ2 s2 => rw [q] at o; exact o
  | no => rw [q] at o; exact o
  | ex y ρ2 s2 =>
    rw [q] at o
    dsimp only at o
    by_cases e : y = x
    · rw [if_pos e] at o
      intro F2 σ2 H2 c' hc' ok2
      rw [e, hx] at hc'
      cases hc'
      refine ⟨true, hm, fun _ a ha => ⟨A, F0, H0, F2, s2, ρ2, ok2, ?_⟩, nofun⟩
      cases z : n ρ2 s2 with
      | nx ρ3 s3 => rw [z] at o; exact o
      | ret d s3 => rw [z] at o; exact o
      | brk ρ3 s3 => rw [z] at o; exact o
      | ct ρ3 s3 => rw [z] at o; exact o
      | no => rw [z] at o; exact o
      | ex y ρ3 s3 => rw [z] at o; exact o.elim
    · rw [if_neg e] at o
      exact o.elim
end
end DD
set_option Elab.async false
set_option linter.all false
set_option maxRecDepth 100000
set_option maxHeartbeats 1000000
/-! DDi: defs by their names; dict displays, get. -/
namespace DD
open PySem PySem.Spec PyProof.Rows L2

/-! ### a def by its name -/
/-- the text's def stands at the top under its name -/
structure Has (K : PySem.W.Frag) (mg : Str → Option Value) (x : Str) (st : Stmt) : Prop where
  ex : ∃ f fd, Fun K x x st f fd ∧ mg x = some (.ref f)
structure FN (P : Program) (w : World) (K : PySem.W.Frag) (mg : Str → Option Value) (base : Heap) (k : Nat) (x : Str) (ps : List Str) (m : List Dt → Sv → Rs Dt) : Prop where
  ex : ∃ f fd, FnG P w K mg base k f fd ps m ∧ mg x = some (.ref f) ∧ PySem.W.keepIn K (.ref f) = true ∧ Binds K fd ps []
/-- the parameters are plain ones -/
def Plainly (x : Str) (st : Stmt) (ps : List Str) : Prop := ∀ (kV doc pm : Value) (an : Option Addr) (cdv ct : Value) (us : List Value), us.length = ps.length →
  bindArgs (PySem.W.fnOf x x (defArgs st) (defBody st) (defScope st) .none kV doc pm an cdv ct) ⟨us, []⟩ = pure (ps.zip us)
section
variable {P : Program} {w : World} {K : PySem.W.Frag} {mg : Str → Option Value} {base : Heap} {k j : Nat} {x : Str} {st : Stmt} {N ps : List Str} {m m2 : List Dt → Sv → Rs Dt}
theorem FN.mono (F : FN P w K mg base j x ps m) (h : j ≤ k) : FN P w K mg base k x ps m := by
  obtain ⟨f, fd, a, b⟩ := F.ex
  exact ⟨f, fd, a.mono h, b⟩
theorem FN.imp (F : FN P w K mg base k x ps m) (h : ∀ ds s, ds.length = ps.length → m2 ds s = .no ∨ m2 ds s = m ds s) : FN P w K mg base k x ps m2 := by
  obtain ⟨f, fd, a, b⟩ := F.ex
  exact ⟨f, fd, a.imp h, b⟩
theorem FN.none (h : Has K mg x st) (hp : Plainly x st ps) : FN P w K mg base k x ps (fun _ _ => .no) := by
  obtain ⟨f, fd, F, e⟩ := h.ex
  exact ⟨f, fd, FnG.none, e, F.kp, F.binds hp⟩
theorem FN.of (h : Has K mg x st) (S : FnScope N ps (defScope st)) (hp : Plainly x st ps) (b : Ss)
    (hb : ∀ (f : Addr) (cdv : Value) (A : Around) (outer : List Env) (s : Shared) (H : Hp) (E : XK), Rm k (A.deeper (envOfC x (defScope st) s.heap.objs.size f cdv)) →
      DSs (cxOf (L2.CX P w) P w K mg base N x (defScope st) f cdv A outer s H E) (fun c d _ H => E c d H) (defBody st) b) : FN P w K mg base (k + 1) x ps (callS N.length b) := by
  obtain ⟨f, fd, F, e⟩ := h.ex
  exact ⟨f, fd, okG F S b (hb f), e, F.kp, F.binds hp⟩
end
section
variable {X : Cx} {W : WX} {e e2 e3 : Expr} {es : List Expr} {f g h : Sm Dt} {fs gs : Sm (List Dt)} {pos p p2 p3 apos cpos : Pos} {k j : Nat} {ps : List Str} {m : List Dt → Sv → Rs Dt} {x : Str}
theorem de_fn (F : FN X.prog X.w X.K X.mg X.base j x ps m) (hr : Rm k X.A) (hj : j ≤ k) (tk : Takes X W) (ha : DA X W (e :: es) fs) (hg : Gl X x := by rfl)
    (hdb : (x == ("__debug__" : Str)) = false := by decide) (he : starEach (e :: es) X.env = (false, eval e X.env) :: starEach es X.env := by rfl) (hpl : (backTo pos (starEach es X.env)).any (·.1) = false := by rfl) :
    DE X W (.Call (.Name x p) (e :: es) [] pos) (vCall ps.length m fs) := by
  obtain ⟨fa, fd, F, hm, hk, hb⟩ := F.ex
  exact de_call (F.mono hj) hr tk hm hk hb ha hg hdb he hpl
theorem de_fn0 (F : FN X.prog X.w X.K X.mg X.base j x ps m) (hr : Rm k X.A) (hj : j ≤ k) (tk : Takes X W) (hg : Gl X x := by rfl) (hdb : (x == ("__debug__" : Str)) = false := by decide) :
    DE X W (.Call (.Name x p) [] [] pos) (vCall ps.length m aNil) := by
  obtain ⟨fa, fd, F, hm, hk, hb⟩ := F.ex
  exact de_call0 (F.mono hj) hr tk hm hk hb hg hdb
/-- a constant of the top -/
structure GlC (K : PySem.W.Frag) (mg : Str → Option Value) (x : Str) (d : Dt) : Prop where
  ex : ∃ v u, mg x = some u ∧ RelV v u ∧ ∀ A F, At K A F v d
theorem de_top {d : Dt} (h : GlC X.K X.mg x d) (hg : Gl X x := by rfl) (hd : (x == ("__debug__" : Str)) = false := by decide) : DE X W (.Name x pos) (vC d) := by
  obtain ⟨v, u, hm, r, a⟩ := h.ex
  exact de_glob hg hm r a hd
theorem AtL.strs {K : PySem.W.Frag} {A : Sa} {F : Hp} : ∀ ns : List Str, AtL K A F (ns.map V.str) (ns.map Dt.str)
  | [] => .nil
  | n :: r => .cons (.str n) (AtL.strs r)
/-- a tuple of texts, written in the top -/
theorem glc_strs {K : PySem.W.Frag} {mg : Str → Option Value} {a : Addr} {o : Obj} {its : Array Value} {n : Nat} (xs : List Str) (hm : mg x = some (.ref a)) (l : K.lookup a = some o) (hc : o.cls = .type "tuple") (hd : o.data = .seq its n) (hv : Vals (xs.map V.str) its.toList)
    (hl : its.size ≤ sizeLine) : GlC K mg x (.tup (xs.map Dt.str)) :=
  ⟨.ref a, .ref a, hm, rfl, fun A F => .tup (.inr ⟨o, _, n, l, hc, hd, hl, hv⟩) (AtL.strs xs)⟩
/-- an own exception without own __init__ -/
structure ExC (K : PySem.W.Frag) (mg : Str → Option Value) (x : Str) : Prop where
  ex : ∃ C B newId initId bmB, ExcBaseFacts B newId initId bmB ∧ PySem.W.excIn K C bmB newId = true ∧ mg x = some (.ref C) ∧ PySem.W.keepIn K (.ref C) = true ∧ PySem.W.subIn K (.ref C) (.type "BaseException") = some true ∧ PySem.W.typeIn K (.ref C) = some (.type "type") ∧
    PySem.W.exmOne K (.ref C) (.ref C) = some true
theorem ds_raise (h : ExC X.K X.mg x) (hc : X.calm = true) (tk : Takes X W) (hg : Gl X x := by rfl) (hdb : (x == ("__debug__" : Str)) = false := by decide) :
    DS X W (.Raise (some (.Call (.Name x p) [] [] pos)) none p2) (sRaise x) := by
  obtain ⟨C, B, newId, initId, bmB, F, q, gC, kC, s1, s2, _⟩ := h.ex
  exact ds_raise0 F q gC kC (raises_own s1 s2) hc tk hg hdb
theorem ds_tryX {body suite : List Stmt} {b₀ : Stmt} {np pos' : Pos} {m n : Ss} (h : ExC X.K X.mg x) (hs : X.stack = X.env :: X.outer) (hf : X.env.frame = some X.env.locals) (tk : Takes X W)
    (hb : ∀ (W' : WX) (pn : List (Addr × Obj)) (xe : Value → Shared → Prop), Takes (X.tr pn xe) W' → PassesOwn (model X.prog X.w) X.A X.env xe → DSs (X.tr pn xe) W' body m)
    (hsu : ∀ (a : Addr) (pn : List (Addr × Obj)), DSs (X.suite a pn) W0 (b₀ :: suite) n) (hg : Gl X x := by rfl) (hdb : (x == ("__debug__" : Str)) = false := by decide) :
    DS X W (.Try body [.ExceptHandler (some (.Name x np)) none (b₀ :: suite) pos'] [] [] pos) (sTry x m n) := by
  obtain ⟨C, B, newId, initId, bmB, F, q, gC, kC, s1, s2, s3⟩ := h.ex
  exact ds_try hs hf ⟨hg, hdb, .inl gC⟩ tk gC s3 hb hsu
end

/-! ### dicts -/
def putD (kvs : List (Key × Dt)) (k : Key) (v : Dt) : List (Key × Dt) :=
  if (kvs.any fun kv => decide (kv.1 = k)) = true then kvs.map (fun kv => if kv.1 = k then (kv.1, v) else kv) else kvs ++ [(k, v)]
def mergeD (kvs more : List (Key × Dt)) : List (Key × Dt) := more.foldl (fun acc kv => putD acc kv.1 kv.2) kvs
section
variable {K : PySem.W.Frag} {A : Sa} {F : Hp}
theorem AtK.any {k : Key} : ∀ {vs : List (Key × V)} {ds : List (Key × Dt)}, AtK K A F vs ds → (vs.any fun kv => decide (kv.1 = k)) = ds.any fun kv => decide (kv.1 = k)
  | _, _, .nil => rfl
  | _, _, .cons h t => by simp only [List.any_cons, AtK.any t]
theorem AtK.app : ∀ {vs ws : List (Key × V)} {ds es : List (Key × Dt)}, AtK K A F vs ds → AtK K A F ws es → AtK K A F (vs ++ ws) (ds ++ es)
  | _, _, _, _, .nil, g => g
  | _, _, _, _, .cons h t, g => .cons h (AtK.app t g)
theorem AtK.over {k : Key} {v : V} {d : Dt} (a : At K A F v d) : ∀ {vs : List (Key × V)} {ds : List (Key × Dt)}, AtK K A F vs ds → AtK K A F (vs.map fun kv => if kv.1 = k then (kv.1, v) else kv) (ds.map fun kv => if kv.1 = k then (kv.1, d) else kv)
  | _, _, .nil => .nil
  | _, _, .cons (k := j) h t => by
    simp only [List.map_cons]
    by_cases e : j = k
    · rw [if_pos e, if_pos e]; exact .cons a (AtK.over a t)
    · rw [if_neg e, if_neg e]; exact .cons h (AtK.over a t)
theorem AtK.put {k : Key} {v : V} {d : Dt} (a : At K A F v d) {vs : List (Key × V)} {ds : List (Key × Dt)} (h : AtK K A F vs ds) : AtK K A F (putK vs k v) (putD ds k d) := by
  unfold putK putD
  rw [h.any]
  split
  · exact AtK.over a h
  · exact h.app (.cons a .nil)
theorem AtK.merge : ∀ {ws : List (Key × V)} {es : List (Key × Dt)} {vs : List (Key × V)} {ds : List (Key × Dt)}, AtK K A F vs ds → AtK K A F ws es → AtK K A F (mergeK vs ws) (mergeD ds es)
  | _, _, _, _, h, .nil => h
  | _, _, _, _, h, .cons (k := k) (v := v) (vs := vs) (d := d) (ds := ds) a t => by
    show AtK K A F (mergeK (putK _ k v) vs) (mergeD (putD _ k d) ds)
    exact AtK.merge (AtK.put a h) t
end
/-- the pairs of a display: keys and values in turn -/
@[simp] def dPairs : List (Sm Dt × Sm Dt) → Sm (List (Key × Dt))
  | [], _, s => .ok [] s
  | (f, g) :: r, ρ, s => (f ρ s).bind fun d s2 => (g ρ s2).bind fun e s3 => (dPairs r ρ s3).bind fun ps s4 => ofO ((keyD d).map fun k => (k, e) :: ps) s4
abbrev rK (K : PySem.W.Frag) : Sa → Hp → List (Key × Dt) → List (V × V) → Hp → Hp → Prop := fun A _ ds ps F2 _ => ∃ kvs, ps = kvs.map (fun kv => (kV kv.1, kv.2)) ∧ AtK K A F2 kvs ds
inductive DKs (X : Cx) (W : WX) (pos : Pos) : List (Option Expr) → List Expr → List (Sm Dt × Sm Dt) → Prop
  | nil : DKs X W pos [] [] []
  | cons {k v : Expr} {ks : List (Option Expr)} {vs : List Expr} {f g : Sm Dt} {r : List (Sm Dt × Sm Dt)} : DE X W k f → DE X W v g → DKs X W pos ks vs r → DKs X W pos (some k :: ks) (v :: vs) ((f, g) :: r)
section
variable {X : Cx} {W : WX} {e e2 e3 : Expr} {es : List Expr} {f g h : Sm Dt} {pos p p2 p3 apos cpos : Pos}
def teOf (X : Cx) (W : WX) (r : List (Sm Dt × Sm Dt)) : List (TE × TE) := r.map fun x => (In X.K X.mg W (rD X.K) x.1, In X.K X.mg W (rD X.K) x.2)
theorem DKs.pps {ks : List (Option Expr)} {vs : List Expr} {r : List (Sm Dt × Sm Dt)} (h : DKs X W pos ks vs r) : PPs X pos ks vs (teOf X W r) := by
  induction h with
  | nil => exact pps_nil
  | cons a b _ ih => exact pps_cons a.pe b.pe ih
theorem in_pairs : ∀ (r : List (Sm Dt × Sm Dt)) {σ : L2.St} {H : Hp} {Q : List (V × V) → Hp → Prop}, In X.K X.mg W (rK X.K) (dPairs r) σ H Q → tPairs (teOf X W r) σ H Q
  | [], σ, H, Q, ⟨A, F0, H0, F, s, ρ, ok, o⟩ => o.ok (Stp.refl ok.gd) ok.so ⟨[], rfl, .nil⟩
  | (f, g) :: r, σ, H, Q, h => by
    refine In.run h ?_
    intro A F0 H0 F s ρ d s2 x F2 H2 ok st so ok2 a o
    refine ⟨A, F0, H0, F2, s2, ρ, ok2, Out.bind (o.shift st fun _ _ _ _ z => z) fun e s3 y F3 H3 st3 so3 b o3 => ?_⟩
    have ok3 := ok2.step st3 so3
    refine in_pairs r ⟨A, F0, H0, F3, s3, ρ, ok3, Out.bind (o3.shift st3 fun _ _ _ _ z => z) fun ds s4 ps F4 H4 st4 so4 c o4 => ?_⟩
    obtain ⟨kv, hk, o4⟩ := o4.o
    obtain ⟨k, hk1, rfl⟩ := Option.map_eq_some_iff.mp hk
    obtain ⟨kvs, rfl, c⟩ := c
    have e1 := keyD_of (F := F2) (H := H2) (.inl a) hk1
    exact o4.ok st4 so4 ⟨(k, y) :: kvs, by rw [e1]; rfl, .cons (At.up st4.ext _ _ b) c⟩
@[simp] def vDict (r : List (Sm Dt × Sm Dt)) : Sm Dt := fun ρ s => (dPairs r ρ s).bind fun ps s2 => .ok (.dic (mergeD [] ps)) s2
/-- the display's dict, still loose -/
theorem disp_loose {r : List (Sm Dt × Sm Dt)} {σ : L2.St} {H : Hp} {Q : VK} (h15 : r.length ≤ 15)
    (h : ∃ A F0 H0 F s ρ, Ok X.K A F0 H0 F H s σ ρ ∧ Out X.mg W A F H σ (fun (ps : List (Key × Dt)) (v : V) F2 H2 => ∃ p kvs, v = .ref p ∧ H p = none ∧ F2 p = none ∧ ¬ fp A p ∧ H2 p = some (.dK (mergeK [] kvs)) ∧ AtK X.K A F2 kvs ps) Q (dPairs r ρ s)) : tDisp (teOf X W r) σ H Q := by
  obtain ⟨A, F0, H0, F, s, ρ, ok, o⟩ := h
  intro p hp
  have q := Stq.loose (o := .dK []) ok.gd hp
  have ok1 := ok.step q.p (ok.so.keep q.keep)
  have nf : ¬ fp A p := fun f => by
    obtain ⟨u, hu⟩ := ok.so.there f
    rw [hp] at hu; cases hu
  refine in_pairs r ⟨A, F0, H0, F, s, ρ, ok1, ?_⟩
  have len : ∀ (r : List (Sm Dt × Sm Dt)) s ds s2, dPairs r ρ s = .ok ds s2 → ds.length = r.length := fun r => by
    induction r with
    | nil => intro s ds s2 e; cases e; rfl
    | cons x r ih =>
      intro s ds s2 e
      unfold dPairs at e
      cases e1 : x.1 ρ s with
      | no => rw [e1] at e; cases e
      | ex _ _ => rw [e1] at e; cases e
      | ok d s3 =>
        rw [e1] at e
        simp only [Rs.bind_ok] at e
        cases e2 : x.2 ρ s3 with
        | no => rw [e2] at e; cases e
        | ex _ _ => rw [e2] at e; cases e
        | ok d2 s4 =>
          rw [e2] at e
          simp only [Rs.bind_ok] at e
          cases e3 : dPairs r ρ s4 with
          | no => rw [e3] at e; cases e
          | ex _ _ => rw [e3] at e; cases e
          | ok ps s5 =>
            rw [e3] at e
            simp only [Rs.bind_ok] at e
            cases e4 : keyD d with
            | none => rw [e4] at e; cases e
            | some k => rw [e4] at e; cases e; rw [List.length_cons, List.length_cons, ih _ _ _ e3]
  cases e : dPairs r ρ s with
  | no => rw [e] at o; exact o
  | ex x s2 => rw [e] at o; exact fun F2 H2 c hc st so => o F2 H2 c hc (q.p.trans st) so
  | ok ds s2 =>
    rw [e] at o
    rintro _ F2 H2 st so ⟨kvs, rfl, a⟩
    have st2 := q.p.trans st
    have n2 : F2 p = none := by
      cases z : F2 p with
      | none => rfl
      | some u =>
        have w := st.new p u z (ok.gd.sub.free hp)
        rw [upd_same] at w; cases w
    refine ⟨st.keep p _ upd_same nf, kvs, rfl, by rw [a.length, len _ _ _ _ e]; exact h15, ?_⟩
    have ne : ∀ z, fp A z → z ≠ p := fun z f w => nf (w ▸ f)
    refine o _ F2 _ ⟨st2.ext, fun b u z => ?_, fun b u z n => ?_, st2.new, st2.nof⟩ ?_ ⟨p, kvs, rfl, hp, n2, nf, upd_same, a⟩
    · rw [upd_ne (ne_of_none z n2)]; exact st2.sub b u z
    · rw [upd_ne (ne_of_none z hp)]; exact st2.keep b u z n
    · rcases so with so | ⟨d, c, v, so, so0, so1, so2⟩
      · exact .inl so
      · exact .inr ⟨d, c, v, so, so0, by rw [upd_ne (ne d ⟨_, so, .inl rfl⟩)]; exact so1, by rw [upd_ne (ne c ⟨_, so, .inr rfl⟩)]; exact so2⟩
theorem de_dict {ks : List (Option Expr)} {vs : List Expr} {r : List (Sm Dt × Sm Dt)} (h : DKs X W pos ks vs r) (hall : ks.all (·.isSome) = true := by rfl) (hl : ks.length = vs.length := by rfl) (h0 : ks ≠ [] := by nofun) (h15 : ks.length ≤ 15 := by decide) (hr : r.length ≤ 15 := by decide) :
    DE X W (.Dict ks vs pos) (vDict r) := by
  refine ⟨pe_imp (pe_disp h.pps hall hl h0 h15) fun σ H Q ⟨A, F0, H0, F, s, ρ, ok, o⟩ => disp_loose hr ⟨A, F0, H0, F, s, ρ, ok, ?_⟩⟩
  refine Out.bind o fun ps s2 v F2 H2 st so ⟨p, kvs, ev, n0, n2, nf, h2, a⟩ o2 => ?_
  subst ev
  exact o2.ok (st.frz n0 h2 nf n2) so (.dic upd_same (AtK.merge .nil (AtK.up (same_new n2) _ _ a)))
/-- {} -/
theorem de_dict0 : DE X W (.Dict [] [] pos) (vC (.dic [])) := by
  refine ⟨pe_imp pe_dnewK fun σ H Q ⟨A, F0, H0, F, s, ρ, ok, o⟩ p hp => ?_⟩
  have q := Stq.alloc (o := .dK []) ok.gd hp
  exact o.ok q.p (ok.so.keep q.keep) (.dic upd_same .nil)
/-- d.get(k, x) -/
@[simp] def dDic : Dt → Option (List (Key × Dt))
  | .dic kvs => some kvs
  | _ => none
@[simp] def gGet (kvs : List (Key × Dt)) (k x : Dt) : Option Dt := (keyD k).map fun k => (lookD kvs k).getD x
@[simp] def vGet2 (f g h : Sm Dt) : Sm Dt := fun ρ s => (f ρ s).bind fun d s2 => (ofO (dDic d) s2).bind fun kvs s3 => (g ρ s3).bind fun k s4 => (h ρ s4).bind fun x s5 => ofO (gGet kvs k x) s5
theorem de_get2 {k : Nat} (hr : Rm k X.A) (ho : DE X W e f) (he : DE X W e2 g) (hf : DE X W e3 h) (m : M2 X e "get" apos e2 e3 cpos := by exact ⟨rfl, rfl, rfl, rfl⟩) : DE X W (.Call (.Attribute e "get" apos) [e2, e3] [] cpos) (vGet2 f g h) := by
  refine ⟨pe_imp (pe_dget2 (hr.un (n := 1) (by decide)) ho.pe he.pe hf.pe m) fun σ H Q z => ?_⟩
  obtain ⟨A, F0, H0, F, s, ρ, ok, o⟩ := z
  refine ⟨A, F0, H0, F, s, ρ, ok, Out.bind o fun d s2 x F2 H2 st so a o2 => ?_⟩
  have ok2 := ok.step st so
  cases d with
  | dic kvs =>
    cases a with
    | @dic p ws _ a1 a2 =>
    refine ⟨p, rfl, .inl ⟨ws, .inl (ok2.gd.sub _ _ a1)⟩, A, F0, H0, F2, s2, ρ, ok2, Out.bind (o2.shift st fun _ _ _ _ z => z) fun k s3 y F3 H3 st3 so3 b o3 => ?_⟩
    have ok3 := ok2.step st3 so3
    refine ⟨A, F0, H0, F3, s3, ρ, ok3, Out.bind (o3.shift st3 fun _ _ _ _ z => z) fun x s4 z F4 H4 st4 so4 c o4 => ?_⟩
    obtain ⟨w, hw, o4⟩ := o4.o
    obtain ⟨key, hk, rfl⟩ := Option.map_eq_some_iff.mp hw
    have e1 := keyD_of (F := F3) (H := H3) (.inl b) hk
    subst e1
    have st24 := st3.trans st4
    have e4 : H4 p = some (.dK ws) := st4.sub _ _ (st24.ext _ _ a1)
    obtain ⟨l1, l2⟩ := look_of (k := key) (AtK.up st24.ext _ _ a2)
    refine ⟨_, DGet.k e4, ?_⟩
    cases q : lookD kvs key with
    | none => rw [q] at o4; rw [l1 q]; exact o4.ok st4 so4 c
    | some d =>
      rw [q] at o4
      obtain ⟨v, h1, h2⟩ := l2 d q
      rw [h1]
      exact o4.ok st4 so4 h2
  | _ => exact o2.elim
end
end DD
set_option Elab.async false
set_option linter.all false
set_option maxRecDepth 100000
set_option maxHeartbeats 1000000
/-! DDj: repr. -/
namespace DD
open PySem PySem.Spec PyProof.Rows L2
def isSeq : Dt → Bool
  | .tup _ => true
  | .lst _ => true
  | _ => false
def reprC (d : Dt) : Bool := isSeq d && d.plain && d.py.showable && !d.py.hasDict && decide (d.py.depth ≤ 1000) && decide (d.py.shown.length ≤ sizeLine)
def gRepr : List Dt → Option Dt
  | [d] => if reprC d then some (.str d.py.shown) else none
  | _ => none
section
variable {X : Cx}
theorem call_reprD {k : Nat} (hr : Rm k X.A) (hk : 60 ≤ k) : CallR X (.builtin "repr") (fun xs H Q => ∃ a d, xs = [.ref a] ∧ Dp X.K H (.ref a) d ∧ d.showable = true ∧ d.hasDict = false ∧ d.depth ≤ 1000 ∧ d.shown.length ≤ sizeLine ∧ Q (.str d.shown) H) := by
  intro pins s σ H xs us Q I r h
  obtain ⟨a, d, rfl, hd, h1, h2, h3, h4, q⟩ := h
  obtain ⟨u, rfl, ru⟩ := vals1 r
  obtain ⟨as, r1⟩ := Dp.reads I d _ u hd ru
  obtain rfl : u = Value.ref a := ru
  refine repr_of_reads' r1 h1 (fun z => by rw [h2] at z; cases z) hr.grd (by have := hr.us; omega) (fun _ _ e => e) (fun h' u tk hk => ⟨.str d.shown, H, I.kept hk, ⟨u, rfl⟩, q⟩) h4
theorem c_repr {k : Nat} (hr : Rm k X.A) (hk : 60 ≤ k) : CallD X (.builtin "repr") gRepr := by
  refine ⟨_, call_reprD hr hk, fun A F H s vs ds z Q g a hz q => ?_⟩
  unfold gRepr at hz
  split at hz
  · next d =>
    obtain ⟨c, rfl⟩ := of_ite hz
    unfold reprC at c
    simp only [Bool.and_eq_true, decide_eq_true_eq, Bool.not_eq_true'] at c
    cases a with
    | cons a t =>
      cases t
      obtain ⟨⟨⟨⟨⟨c1, c2⟩, c3⟩, c4⟩, c5⟩, c6⟩ := c
      have hd := a.dp g.sub c2
      cases d with
      | tup xs =>
        obtain ⟨b, ys, rfl, _⟩ := a.tup g.sub
        exact ⟨_, _, rfl, hd, c3, c4, c5, c6, q _ _ _ (Stq.refl g) (.str _)⟩
      | lst xs =>
        obtain ⟨b, ys, rfl, _⟩ := a.lst g.sub
        exact ⟨_, _, rfl, hd, c3, c4, c5, c6, q _ _ _ (Stq.refl g) (.str _)⟩
      | _ => cases c1
  · cases hz
end
end DD
set_option Elab.async false
set_option linter.all false
set_option maxRecDepth 100000
set_option maxHeartbeats 1000000
/-! DZa: zip over any two iterators, while its tuples stay out. -/
namespace DD
open PySem
section
variable {prog : Program} {w : World} {A : Around} {E : Value → Shared → Prop} {s : Shared} {zp ta tb ja jb T : Addr} {fa fb : List Addr} {n m i : Nat} {Pa Pb : Nat → Value → Prop} {Sa Sb : Nat → Heap → Prop} {f : Bool} {oT : Obj}
theorem zh_item {Q : Value → Shared → Prop} (S : ZipSep2 zp ta tb ja jb fa fb) (D1 : Draws prog w A ja fa n Pa Sa) (D2 : Draws prog w A jb fb m Pb Sb) (hz : IsZipHeld s.heap zp ta tb T f) (hT : s.heap.get? T = some oT) (hTI : IsTupOf2 s.heap ta (.ref ja) (.ref jb))
    (sta : Sa i s.heap) (stb : Sb i s.heap) (lta : i < n) (ltb : i < m)
    (hQ : ∀ x y h' tk, Pa i x → Pb i y → IsZipHeld h' zp ta tb T true → Sa (i + 1) h' → Sb (i + 1) h' → IsTupOf2 h' s.heap.objs.size x y → (∀ c o, c ≠ zp → c ≠ ja → c ≠ jb → s.heap.get? c = some o → h'.get? c = some o) → Q (.ref s.heap.objs.size) { s with heap := h', toks := tk }) :
    wpAny (model prog w) A (Builtin.«zip.__next__» ⟨[.ref zp], []⟩) (fun fin s' => ∃ v, fin = .done (.ret v) ∧ Q v s') E s := by
  obtain ⟨hp, g, d, tk0, os⟩ := s
  show wpAny _ _ (field (.ref zp) 2 >>= _) _ _ _
  refine wpAny_bind (wpAny_field hz rfl (x := .bool false) rfl ?_)
  show wpAny _ _ (field (.ref zp) 3 >>= _) _ _ _
  refine wpAny_bind (wpAny_field hz rfl (x := .ref ta) rfl ?_)
  refine wpAny_bind (wpAny_seqItems hTI rfl ?_)
  show wpAny _ _ (Builtin.SmallTypes.ownedTupleIsFree (.ref zp) >>= _) _ _ _
  refine wpAny_bind (wpAny_tupleHeld_zip hz hT fun q1 hz1 sb1 => ?_)
  replace sb1 : Heap.SameBut zp hp q1 := sb1
  simp only [Bool.false_eq_true, if_false]
  refine wpAny_bind ?_
  rw [← Array.forIn_toList]
  simp only [List.forIn_cons, List.forIn_nil]
  refine wpAny_bind (wpAny_bind (wpAny_holding ?_))
  show wpAny _ _ (Builtin.SmallTypes.nextOf (.ref ja) >>= _) _ _ ⟨q1, g, d, tk0, os⟩
  refine wpAny_bind (D1.item i _ _ _ lta (D1.over sta sb1 S.zf1) fun x q2 tk1 px sta2 sb2 => wpAny_pure (wpAny_pure ?_))
  replace sb2 : Heap.SameBut ja q1 q2 := sb2
  refine wpAny_bind (wpAny_bind (wpAny_holding ?_))
  show wpAny _ _ (Builtin.SmallTypes.nextOf (.ref jb) >>= _) _ _ ⟨q2, g, d, tk1, os⟩
  refine wpAny_bind (D2.item i _ _ _ ltb (D2.over (D2.over stb sb1 S.zf2) sb2 S.sep1_2) fun y q3 tk2 py stb3 sb3 => wpAny_pure (wpAny_pure (wpAny_pure ?_)))
  replace sb3 : Heap.SameBut jb q2 q3 := sb3
  show wpAny _ _ (newTuple [x, y] >>= _) _ _ ⟨q3, g, d, tk2, os⟩
  refine wpAny_bind (wpAny_newTuple (wpAny_pure ⟨_, rfl, ?_⟩))
  have es : q3.objs.size = hp.objs.size := by rw [sb3.1, sb2.1, sb1.1]
  have hz3 : IsZipHeld q3 zp ta tb T true := sb3.extBut _ _ S.zi2 (sb2.extBut _ _ S.zi1 hz1)
  have st3 : Sa (i + 1) q3 := D1.over sta2 sb3 S.sep2_1
  have up : ∀ c o, q3.get? c = some o → (q3.push { cls := .type "tuple", data := .seq #[x, y] }).get? c = some o := fun c o e => Heap.get?_push_of_some _ e
  have tp : IsTupOf2 (q3.push { cls := .type "tuple", data := .seq #[x, y] }) q3.objs.size x y := Heap.get?_push_size _ rfl
  show Q (.ref q3.objs.size) _
  rw [es] at tp ⊢
  exact hQ x y _ tk2 px py (up _ _ hz3) (D1.frame _ _ _ st3 fun b _ o e => up b o e) (D2.frame _ _ _ stb3 fun b _ o e => up b o e) tp fun c o c1 c2 c3 e => up c o (sb3.extBut _ _ c3 (sb2.extBut _ _ c2 (sb1.extBut _ _ c1 e)))
theorem zh_end {Q : Fin → Shared → Prop} (S : ZipSep2 zp ta tb ja jb fa fb) (D1 : Draws prog w A ja fa n Pa Sa) (D2 : Draws prog w A jb fb m Pb Sb) (hz : IsZipHeld s.heap zp ta tb T f) (hT : s.heap.get? T = some oT) (hTI : IsTupOf2 s.heap ta (.ref ja) (.ref jb))
    (sta : Sa i s.heap) (stb : Sb i s.heap) (lea : i ≤ n) (leb : i ≤ m) (en : i = n ∨ i = m)
    (hE : ∀ h' tk e, (∀ c o, c ≠ zp → c ≠ ja → c ≠ jb → s.heap.get? c = some o → h'.get? c = some o) → (∃ o, h'.get? e = some o ∧ o.cls = .type "StopIteration") → E (.ref e) { s with heap := h', toks := tk }) :
    wpAny (model prog w) A (Builtin.«zip.__next__» ⟨[.ref zp], []⟩) Q E s := by
  obtain ⟨hp, g, d, tk0, os⟩ := s
  show wpAny _ _ (field (.ref zp) 2 >>= _) _ _ _
  refine wpAny_bind (wpAny_field hz rfl (x := .bool false) rfl ?_)
  show wpAny _ _ (field (.ref zp) 3 >>= _) _ _ _
  refine wpAny_bind (wpAny_field hz rfl (x := .ref ta) rfl ?_)
  refine wpAny_bind (wpAny_seqItems hTI rfl ?_)
  show wpAny _ _ (Builtin.SmallTypes.ownedTupleIsFree (.ref zp) >>= _) _ _ _
  refine wpAny_bind (wpAny_tupleHeld_zip hz hT fun q1 hz1 sb1 => ?_)
  replace sb1 : Heap.SameBut zp hp q1 := sb1
  simp only [Bool.false_eq_true, if_false]
  refine wpAny_bind ?_
  rw [← Array.forIn_toList]
  simp only [List.forIn_cons, List.forIn_nil]
  refine wpAny_bind (wpAny_bind (wpAny_holding ?_))
  show wpAny _ _ (Builtin.SmallTypes.nextOf (.ref ja) >>= _) _ _ ⟨q1, g, d, tk0, os⟩
  have sta1 := D1.over sta sb1 S.zf1
  by_cases lt : i < n
  · refine wpAny_bind (D1.item i _ _ _ lt sta1 fun x q2 tk1 px sta2 sb2 => wpAny_pure (wpAny_pure ?_))
    replace sb2 : Heap.SameBut ja q1 q2 := sb2
    have im : i = m := by omega
    refine wpAny_bind (wpAny_bind (wpAny_holding ?_))
    show wpAny _ _ (Builtin.SmallTypes.nextOf (.ref jb) >>= _) _ _ ⟨q2, g, d, tk1, os⟩
    refine wpAny_bind (D2.done ⟨q2, g, d, tk1, os⟩ _ _ (by rw [← im]; exact D2.over (D2.over stb sb1 S.zf2) sb2 S.sep1_2) fun q3 e sb3 he => ?_)
    replace sb3 : Heap.ExtBut jb q2 q3 := sb3
    exact hE q3 tk1 e (fun c o c1 c2 c3 x => sb3 _ _ c3 (sb2.extBut _ _ c2 (sb1.extBut _ _ c1 x))) he
  · have ie : i = n := by omega
    refine wpAny_bind (D1.done ⟨q1, g, d, tk0, os⟩ _ _ (by rw [← ie]; exact sta1) fun q2 e sb2 he => ?_)
    replace sb2 : Heap.ExtBut ja q1 q2 := sb2
    exact hE q2 tk0 e (fun c o c1 c2 _ x => sb2 _ _ c2 (sb1.extBut _ _ c1 x)) he

/-- where a zip stands, whether its tuple is out or not -/
def ZSt (zp ta tb ja jb : Addr) (Sa Sb : Nat → Heap → Prop) (d : Addr) (i : Nat) (h : Heap) : Prop := IsTupOf2 h ta (.ref ja) (.ref jb) ∧ Sa i h ∧ Sb i h ∧ ((IsZip h zp ta tb .none ∧ ∃ x y, IsTupOf2 h tb x y) ∨ ∃ T f oT, IsZipHeld h zp ta tb T f ∧ h.get? T = some oT ∧ T ≠ zp ∧ T ≠ ja ∧ T ≠ jb ∧ T ≠ d)
theorem ZSt.frame {dd : Addr} (D1 : Draws prog w A ja fa n Pa Sa) (D2 : Draws prog w A jb fb m Pb Sb) (nd : dd ∉ zp :: ta :: tb :: (fa ++ fb)) {h h' : Heap} (st : ZSt zp ta tb ja jb Sa Sb dd i h) (k : ∀ b o, b ≠ dd → h.get? b = some o → h'.get? b = some o) : ZSt zp ta tb ja jb Sa Sb dd i h' := by
  obtain ⟨a, b, c, e⟩ := st
  have nd' : ∀ x, x ∈ zp :: ta :: tb :: (fa ++ fb) → x ≠ dd := fun x hx z => nd (z ▸ hx)
  refine ⟨k _ _ (nd' ta (by simp)) a, D1.frame _ _ _ b fun x hx o q => k x o (nd' x (by simp [hx])) q, D2.frame _ _ _ c fun x hx o q => k x o (nd' x (by simp [hx])) q, ?_⟩
  rcases e with ⟨e, x, y, e2⟩ | ⟨T, f, oT, e1, e2, e3, e4, e5, e6⟩
  · exact .inl ⟨k _ _ (nd' zp (by simp)) e, x, y, k _ _ (nd' tb (by simp)) e2⟩
  · exact .inr ⟨T, f, oT, k _ _ (nd' zp (by simp)) e1, k _ _ e6 e2, e3, e4, e5, e6⟩
theorem zst_item {dd : Addr} {Q : Option Value → Shared → Prop} (S : ZipSep2 zp ta tb ja jb fa fb) (D1 : Draws prog w A.in1 ja fa n Pa Sa) (D2 : Draws prog w A.in1 jb fb m Pb Sb) (st : ZSt zp ta tb ja jb Sa Sb dd i s.heap) (hd : dd < s.heap.objs.size) (lta : i < n) (ltb : i < m)
    (hQ : ∀ x y h' tk, Pa i x → Pb i y → IsTupOf2 h' s.heap.objs.size x y → ZSt zp ta tb ja jb Sa Sb dd (i + 1) h' → (∀ c o, c ∉ [zp, tb, ja, jb] → s.heap.get? c = some o → h'.get? c = some o) → Q (some (.ref s.heap.objs.size)) { s with heap := h', toks := tk }) : wpAny (model prog w) A (pyNext (.ref zp)) Q E s := by
  obtain ⟨a, b, c, e⟩ := st
  have fresh : ∀ {c o}, s.heap.get? c = some o → s.heap.objs.size ≠ c := fun e => Nat.ne_of_gt (Heap.lt_size e)
  have l1 : s.heap.objs.size ≠ ja := by obtain ⟨_, e⟩ := D1.live _ _ b; exact fresh e
  have l2 : s.heap.objs.size ≠ jb := by obtain ⟨_, e⟩ := D2.live _ _ c; exact fresh e
  rcases e with ⟨e, x0, y0, e2⟩ | ⟨T, f, oT, e1, e2, e3, e4, e5, e6⟩
  · refine wpAny_pyNext_zipD2_item S D1 D2 e a e2 b c lta ltb fun x y h' tk px py z1 z2 z3 z4 z5 z6 k => ?_
    exact hQ x y h' tk px py z5 ⟨k _ _ S.TIz S.TITO S.TIi1 S.TIi2 a, z3, z4, .inr ⟨s.heap.objs.size, false, _, z1, z5, fresh e, l1, l2, Nat.ne_of_gt hd⟩⟩ fun c o hc q => k c o (fun x => hc (by simp [x])) (fun x => hc (by simp [x])) (fun x => hc (by simp [x])) (fun x => hc (by simp [x])) q
  · have tz : s.TypeIs (.ref zp) "zip" := ⟨_, e1, rfl⟩
    unfold pyNext
    refine wpAny_bind (wpAny_attempt (wpAny_callSpecial?_slot (name := Str.ofString "__next__") tz F.slot_zip_next (wpAny_call_entry F.slot_zip_next tz F.entry_zip_next (zh_item S D1 D2 e1 e2 a b c lta ltb fun x y h' tk px py z1 z3 z4 z5 k => wpAny_pure ?_) (F.args_zip_next_1 _))))
    exact hQ x y h' tk px py z5 ⟨k _ _ S.TIz S.TIi1 S.TIi2 a, z3, z4, .inr ⟨T, true, oT, z1, k _ _ e3 e4 e5 e2, e3, e4, e5, e6⟩⟩ fun c o hc q => k c o (fun x => hc (by simp [x])) (fun x => hc (by simp [x])) (fun x => hc (by simp [x])) q
theorem zst_end {dd : Addr} {Q : Option Value → Shared → Prop} (S : ZipSep2 zp ta tb ja jb fa fb) (D1 : Draws prog w A.in1 ja fa n Pa Sa) (D2 : Draws prog w A.in1 jb fb m Pb Sb) (st : ZSt zp ta tb ja jb Sa Sb dd i s.heap) (lea : i ≤ n) (leb : i ≤ m) (en : i = n ∨ i = m)
    (hQ : ∀ h' tk, (∀ c o, c ∉ [zp, tb, ja, jb] → s.heap.get? c = some o → h'.get? c = some o) → Q none { s with heap := h', toks := tk }) : wpAny (model prog w) A (pyNext (.ref zp)) Q E s := by
  obtain ⟨a, b, c, e⟩ := st
  rcases e with ⟨e, x0, y0, e2⟩ | ⟨T, f, oT, e1, e2, e3, e4, e5, e6⟩
  · exact wpAny_pyNext_zipD2_end S D1 D2 e a e2 b c lea leb en fun h' tk k => hQ h' tk fun c o hc q => k c o (fun x => hc (by simp [x])) (fun x => hc (by simp [x])) (fun x => hc (by simp [x])) (fun x => hc (by simp [x])) q
  · have tz : s.TypeIs (.ref zp) "zip" := ⟨_, e1, rfl⟩
    unfold pyNext
    refine wpAny_bind (wpAny_attempt (wpAny_callSpecial?_slot (name := Str.ofString "__next__") tz F.slot_zip_next (wpAny_call_entry F.slot_zip_next tz F.entry_zip_next (zh_end S D1 D2 e1 e2 a b c lea leb en fun h' tk e k he => ?_) (F.args_zip_next_1 _))))
    obtain ⟨o, ho, hc⟩ := he
    exact wpAny_bind (wpAny_isInstance (T := "StopIteration") (b := true) ⟨o, ho, hc⟩ isSubtype_stop (wpAny_pure (hQ _ _ fun c o hc q => k c o (fun x => hc (by simp [x])) (fun x => hc (by simp [x])) (fun x => hc (by simp [x])) q)))
end
end DD
set_option Elab.async false
set_option linter.all false
set_option maxRecDepth 100000
set_option maxHeartbeats 1000000
/-! DZb: list(zip(a, b)); zip(a, b) as dict's argument. -/
namespace DD
open PySem
theorem zip_no_len : typeLookup (.type "zip") "__len__" = pure none := by rw [typeLookup_type, builtinLookup_eq_fast]; kernel_rfl
theorem zip_no_hint : typeLookup (.type "zip") "__length_hint__" = pure none := by rw [typeLookup_type, builtinLookup_eq_fast]; kernel_rfl
/-- the tuples that were handed out -/
structure Outs (Pa Pb : Nat → Value → Prop) (low : Addr) (ws : List Addr) (h : Heap) (us : List Addr) : Prop where
  rise : us.Pairwise (· < ·)
  above : ∀ a ∈ us, low < a
  off : ∀ a ∈ us, a ∉ ws
  pairs : ∀ j a, us[j]? = some a → ∃ x y, Pa j x ∧ Pb j y ∧ IsTupOf2 h a x y
section
variable {prog : Program} {w : World} {A : Around} {E : Value → Shared → Prop} {s : Shared} {zp ta tb ja jb : Addr} {fa fb : List Addr} {n m : Nat} {Pa Pb : Nat → Value → Prop} {Sa Sb : Nat → Heap → Prop}
theorem Outs.keep {low : Addr} {ws : List Addr} {h h' : Heap} {us : List Addr} (g : Outs Pa Pb low ws h us) (k : ∀ a ∈ us, ∀ o, h.get? a = some o → h'.get? a = some o) : Outs Pa Pb low ws h' us :=
  ⟨g.rise, g.above, g.off, fun j a e => let ⟨x, y, p1, p2, p3⟩ := g.pairs j a e; ⟨x, y, p1, p2, k a (List.mem_of_getElem? e) _ p3⟩⟩
theorem lz_loop {S : Addr} (Z : ZipSep2 zp ta tb ja jb fa fb) (D1 : ∀ A : Around, A.handled = none → Draws prog w A ja fa n Pa Sa) (D2 : ∀ A : Around, A.handled = none → Draws prog w A jb fb n Pb Sb) (hh : A.handled = none) (hS : S ∉ zp :: ta :: tb :: (fa ++ fb)) (hn : n ≤ sizeLine) (res : Value) {h₀ : Heap} (big : ∀ b ∈ [zp, tb, ja, jb], b < h₀.objs.size) (Sl : S < h₀.objs.size) {R : Result → Shared → Prop}
    (hR : ∀ h' tk acc c us, (∀ b o, b ≠ S → b ∉ [zp, tb, ja, jb] → h₀.get? b = some o → h'.get? b = some o) → h'.get? S = some { cls := .type "list", dict := none, data := .seq acc c, slots := #[] } → us.length = n → Outs Pa Pb S [zp, tb, ja, jb] h' us → acc.toList = us.map Value.ref →
      R (.ok (.ret res)) { s with heap := h', toks := tk }) :
    ∀ (k i : Nat) (h : Heap) (tk c : Nat) (acc : Array Value) (us : List Addr), n - i = k → i ≤ n → ZSt zp ta tb ja jb Sa Sb S i h → h₀.objs.size ≤ h.objs.size → (∀ b o, b ≠ S → b ∉ [zp, tb, ja, jb] → h₀.get? b = some o → h.get? b = some o) →
      h.get? S = some { cls := .type "list", dict := none, data := .seq acc c, slots := #[] } → acc.toList = us.map Value.ref → us.length = i → Outs Pa Pb S [zp, tb, ja, jb] h us →
      codeAny (model prog w) A (.builtin "list.extend.loop" ⟨[.ref S, .ref zp, res], []⟩) R { s with heap := h, toks := tk } := by
  have nz : ∀ b ∈ [zp, tb, ja, jb], b ≠ S := fun b hb z => hS (by
    subst z
    simp only [List.mem_cons, List.not_mem_nil, or_false] at hb
    rcases hb with rfl | rfl | rfl | rfl
    · simp
    · simp
    · simp [Z.mem1]
    · simp [Z.mem2])
  intro k
  induction k with
  | zero =>
    intro i h tk c acc us hk hi st sz keep eS eacc el g
    refine codeAny_builtin F.entry_extend_loop ?_
    rw [Around.under_plainId F.plain_extend_loop _]
    show wpAny _ A.in1 (pyNext (.ref zp) >>= _) _ _ _
    refine wpAny_bind (zst_end (s := { s with heap := h, toks := tk }) Z (D1 _ hh) (D2 _ hh) st hi hi (by omega) fun h' tk' k => wpAny_pure ?_)
    exact hR h' tk' acc c us (fun b o h1 h2 e => k b o h2 (keep b o h1 h2 e)) (k S _ (fun z => nz S z rfl) eS) (by omega) (g.keep fun a ha o e => k a o (g.off a ha) e) eacc
  | succ k ih =>
    intro i h tk c acc us hk hi st sz keep eS eacc el g
    have lt : i < n := by omega
    have asz : acc.size = i := by rw [← Array.length_toList, eacc, List.length_map, el]
    refine codeAny_builtin F.entry_extend_loop ?_
    rw [Around.under_plainId F.plain_extend_loop _]
    show wpAny _ A.in1 (pyNext (.ref zp) >>= _) _ _ _
    refine wpAny_bind (zst_item (s := { s with heap := h, toks := tk }) Z (D1 _ hh) (D2 _ hh) st (Heap.lt_size eS) lt lt fun x y h' tk' px py tp st' kp => ?_)
    dsimp only at tp kp st' ⊢
    have eS' := kp S _ (fun z => nz S z rfl) eS
    have up : ∀ b o, b ≠ S → h'.get? b = some o → (h'.update S (Obj.mapSeq (·.push (Value.ref h.objs.size)))).get? b = some o := fun b o hb e => (Heap.get?_update_other _ _ (Ne.symm hb)).trans e
    have hSl : S < h.objs.size := Heap.lt_size eS
    have hlt : h.objs.size < h'.objs.size := Heap.lt_size tp
    show wpAny _ A.in1 (updateSeq S (·.push (Value.ref h.objs.size)) >>= _) _ _ _
    refine wpAny_bind (wpAny_updateSeq eS' rfl (wpAny_pure ⟨plainId_quiet F.plain_extend_loop _, ?_⟩) (by rw [asz]; omega) (by show (acc.push (Value.ref h.objs.size)).size ≤ sizeLine + 1; rw [Array.size_push, asz]; omega))
    refine ih (i + 1) _ tk' _ (acc.push (Value.ref h.objs.size)) (us ++ [h.objs.size]) (by omega) lt (st'.frame (D1 _ hh) (D2 _ hh) hS up) ?_ (fun b o h1 h2 e => up b o h1 (kp b o h2 (keep b o h1 h2 e))) (Heap.get?_update_self _ eS' rfl) (by rw [Array.toList_push, eacc, List.map_append]; rfl) (by rw [List.length_append, el]; rfl) ?_
    · have : h₀.objs.size ≤ h'.objs.size := Nat.le_trans sz (Nat.le_of_lt hlt)
      exact Nat.le_trans this (Nat.le_of_eq (Heap.size_update ..).symm)
    · have low : ∀ a ∈ us, a < h.objs.size := fun a ha => by
        obtain ⟨j, hj⟩ := List.getElem?_of_mem ha
        obtain ⟨x, y, _, _, e⟩ := g.pairs j a hj
        exact Heap.lt_size e
      refine ⟨List.pairwise_append.mpr ⟨g.rise, List.pairwise_singleton _ _, fun a ha b hb => by rw [List.mem_singleton.mp hb]; exact low a ha⟩, fun a ha => ?_, fun a ha => ?_, fun j b hj => ?_⟩
      · rcases List.mem_append.mp ha with ha | ha
        · exact g.above a ha
        · rw [List.mem_singleton.mp ha]; exact hSl
      · rcases List.mem_append.mp ha with ha | ha
        · exact g.off a ha
        · rw [List.mem_singleton.mp ha]
          intro z
          exact Nat.lt_irrefl _ (Nat.lt_of_lt_of_le (big _ z) sz)
      · rcases Nat.lt_trichotomy j us.length with h1 | h1 | h1
        · rw [List.getElem?_append_left h1] at hj
          obtain ⟨x, y, p1, p2, p3⟩ := g.pairs j b hj
          have mb := List.mem_of_getElem? hj
          exact ⟨x, y, p1, p2, up b _ (Nat.ne_of_gt (g.above b mb)) (kp b _ (g.off b mb) p3)⟩
        · subst h1
          have hb : h.objs.size = b := by simpa using hj
          subst hb
          rw [el]
          exact ⟨x, y, px, py, up _ _ (Nat.ne_of_gt hSl) tp⟩
        · have z : (us ++ [h.objs.size])[j]? = none := List.getElem?_eq_none (by rw [List.length_append, List.length_singleton]; omega)
          rw [z] at hj; cases hj
theorem lz_call {Q : Value → Shared → Prop} (Z : ZipSep2 zp ta tb ja jb fa fb) (D1 : ∀ A : Around, A.handled = none → Draws prog w A ja fa n Pa Sa) (D2 : ∀ A : Around, A.handled = none → Draws prog w A jb fb n Pb Sb) (hh : A.handled = none) (hn : n ≤ sizeLine) (hz : IsZip s.heap zp ta tb .none) (hta : IsTupOf2 s.heap ta (.ref ja) (.ref jb)) (htb : ∃ x y, IsTupOf2 s.heap tb x y)
    (sta : Sa 0 s.heap) (stb : Sb 0 s.heap) (la : ∀ b ∈ fa, b < s.heap.objs.size) (lb : ∀ b ∈ fb, b < s.heap.objs.size)
    (hQ : ∀ h' tk acc c us, (∀ b o, b ∉ [zp, tb, ja, jb] → s.heap.get? b = some o → h'.get? b = some o) → h'.get? s.heap.objs.size = some { cls := .type "list", dict := none, data := .seq acc c, slots := #[] } → us.length = n →
      Outs Pa Pb s.heap.objs.size [zp, tb, ja, jb] h' us → acc.toList = us.map Value.ref → Q (.ref s.heap.objs.size) { s with heap := h', toks := tk }) :
    wpAny (model prog w) A (call (.type "list") [.ref zp]) Q E s := by
  have lall : ∀ b ∈ zp :: ta :: tb :: (fa ++ fb), b < s.heap.objs.size := fun b hb => by
    simp only [List.mem_cons, List.mem_append] at hb
    rcases hb with rfl | rfl | rfl | hb | hb
    · exact Heap.lt_size hz
    · exact Heap.lt_size hta
    · obtain ⟨x, y, e⟩ := htb; exact Heap.lt_size e
    · exact la b hb
    · exact lb b hb
  have hS : s.heap.objs.size ∉ zp :: ta :: tb :: (fa ++ fb) := fun z => Nat.lt_irrefl _ (lall _ z)
  have zne : s.heap.objs.size ≠ zp := fun z => hS (by simp [z])
  refine callType_codes (Q₁ := fun obj s₁ => obj = .ref s.heap.objs.size ∧ s₁ = { s with heap := s.heap.push { cls := .type "list", data := .seq #[] } }) F.called_list (F.typeCall_list_1 _) F.entry_list_init (code_list_new _ ⟨rfl, rfl⟩) fun obj s₁ h₁ => ?_
  obtain ⟨rfl, rfl⟩ := h₁
  have e1 : (s.heap.push { cls := .type "list", data := .seq #[] }).get? s.heap.objs.size = some { cls := .type "list", data := .seq #[] } := Heap.get?_push_size _ rfl
  refine ⟨⟨_, e1, rfl⟩, F.args_list_init_2 _ _, ?_⟩
  show wpAny _ _ (do let old ← Builtin.List.listItems (.ref s.heap.objs.size); Builtin.List.listUpdate (.ref s.heap.objs.size) (fun _ => #[]); letGo old.toList.reverse; Builtin.List.listExtendWith (.ref s.heap.objs.size) (.ref zp) .none) _ _ _
  refine wpAny_bind ?_
  unfold Builtin.List.listItems
  refine wpAny_bind (wpAny_seqItems e1 rfl (wpAny_pure ?_))
  show wpAny _ _ (updateSeq s.heap.objs.size (fun _ => #[]) >>= fun _ => letGo (#[] : Array Value).toList.reverse >>= fun _ => Builtin.List.listExtendWith (.ref s.heap.objs.size) (.ref zp) .none) _ _ _
  refine wpAny_bind (wpAny_updateSeq e1 rfl ?_)
  have e2 := Heap.get?_update_self (Obj.mapSeq (fun _ => (#[] : Array Value))) e1 rfl
  refine wpAny_bind (wpAny_letGo ?_)
  unfold Builtin.List.listExtendWith
  have k2 : ∀ b o, b ≠ s.heap.objs.size → s.heap.get? b = some o → ((s.heap.push { cls := .type "list", data := .seq #[] }).update s.heap.objs.size (Obj.mapSeq (fun _ => (#[] : Array Value)))).get? b = some o := fun b o hb e => (Heap.get?_update_other _ _ (Ne.symm hb)).trans (Heap.get?_push_of_some _ e)
  have kz : ∀ {b o}, s.heap.get? b = some o → b ≠ s.heap.objs.size := fun e => Nat.ne_of_lt (Heap.lt_size e)
  have hz2 := k2 _ _ (kz hz) hz
  refine wpAny_bind (wpAny_typeOf (T := "zip") ⟨_, hz2, rfl⟩ ?_)
  have n1 : Builtin.List.listSameRef (.ref s.heap.objs.size) (.ref zp) = false := by simp [Builtin.List.listSameRef, zne]
  have n2 : (Value.type "zip" == Value.type "list") = false := by decide
  have n3 : (Value.type "zip" == Value.type "tuple") = false := by decide
  simp only [n1, n2, n3, Bool.or_false, Bool.false_eq_true, if_false]
  refine wpAny_bind (wpAny_pyIter_zip hz2 (wpAny_bind (wpAny_holding ?_)))
  unfold Builtin.List.listLengthHint
  refine wpAny_bind (wpAny_specialOf (T := "zip") ⟨_, hz2, rfl⟩ zip_no_len ?_)
  show wpAny _ _ (specialOf (Value.ref zp) (Str.ofString "__length_hint__") >>= _) _ _ _
  refine wpAny_bind (wpAny_specialOf (T := "zip") ⟨_, hz2, rfl⟩ zip_no_hint (wpAny_pure ?_))
  show wpAny _ _ (rule "list.extend.makes-room" >>= fun _ => Builtin.List.listTouch (.ref s.heap.objs.size) >>= fun _ => again (.builtin "list.extend.loop" ⟨[.ref s.heap.objs.size, .ref zp, .none], []⟩)) _ _ _
  refine wpAny_bind (wpAny_rule (wpAny_bind ?_))
  show wpAny _ _ (updateSeq s.heap.objs.size (·.push .none) >>= fun _ => updateSeq s.heap.objs.size (·.pop)) _ _ _
  refine wpAny_bind (wpAny_updateSeq e2 rfl ?_)
  have e3 := Heap.get?_update_self (Obj.mapSeq (·.push Value.none)) e2 rfl
  refine wpAny_updateSeq (hz := by seq_fits) e3 rfl ?_
  have e4 := Heap.get?_update_self (Obj.mapSeq (·.pop)) e3 rfl
  have k4 : ∀ b o, b ≠ s.heap.objs.size → s.heap.get? b = some o → ((((s.heap.push { cls := .type "list", data := .seq #[] }).update s.heap.objs.size (Obj.mapSeq (fun _ => (#[] : Array Value)))).update s.heap.objs.size (Obj.mapSeq (·.push Value.none))).update s.heap.objs.size (Obj.mapSeq (·.pop))).get? b = some o :=
    fun b o hb e => (Heap.get?_update_other _ _ (Ne.symm hb)).trans ((Heap.get?_update_other _ _ (Ne.symm hb)).trans (k2 b o hb e))
  have st0 : ZSt zp ta tb ja jb Sa Sb s.heap.objs.size 0 s.heap := ⟨hta, sta, stb, .inl ⟨hz, htb⟩⟩
  refine wpAny_pure ⟨plainId_quiet F.plain_extend_loop _, lz_loop (A := A.in1) (s := s) (h₀ := s.heap.push { cls := .type "list", data := .seq #[] }) Z D1 D2 hh hS hn .none (fun b hb => ?_) (by rw [Heap.size_push]; exact Nat.lt_succ_self _) (fun h' tk acc c us kp eS el g ea => ?_)
    n 0 _ s.toks _ #[] [] (Nat.sub_zero _) (Nat.zero_le _) (st0.frame (D1 _ hh) (D2 _ hh) hS k4) ?_ (fun b o hb _ e => ?_) e4 rfl rfl ⟨List.Pairwise.nil, nofun, nofun, fun j a e => by simp at e⟩⟩
  · have z : b ∈ zp :: ta :: tb :: (fa ++ fb) := by
      simp only [List.mem_cons, List.not_mem_nil, or_false] at hb
      rcases hb with rfl | rfl | rfl | rfl
      · simp
      · simp
      · simp [Z.mem1]
      · simp [Z.mem2]
    rw [Heap.size_push]
    exact Nat.lt_succ_of_lt (lall b z)
  · exact ⟨rfl, hQ h' tk acc c us (fun b o hb e => kp b o (kz e) hb (Heap.get?_push_of_some _ e)) eS el g ea⟩
  · simp only [Heap.size_update]
    exact Nat.le_refl _
  · exact (Heap.get?_update_other _ _ (Ne.symm hb)).trans ((Heap.get?_update_other _ _ (Ne.symm hb)).trans ((Heap.get?_update_other _ _ (Ne.symm hb)).trans e))
end
end DD
set_option Elab.async false
set_option linter.all false
set_option maxRecDepth 100000
set_option maxHeartbeats 1000000
/-! DZc: zip(a, b) as dict's argument. -/
namespace DD
open PySem
section
variable {prog : Program} {w : World} {zp ta tb ja jb : Addr} {fa fb : List Addr} {n m : Nat} {Pa Pb : Nat → Value → Prop} {Sa Sb : Nat → Heap → Prop}
theorem zip_arg (Z : ZipSep2 zp ta tb ja jb fa fb) (D1 : ∀ A : Around, A.handled = none → Draws prog w A ja fa n Pa Sa) (D2 : ∀ A : Around, A.handled = none → Draws prog w A jb fb n Pb Sb) (f1 : ∀ i h h', Sa i h → (∀ b ∈ fa, ∀ o, h.get? b = some o → h'.get? b = some o) → Sa i h')
    (f2 : ∀ i h h', Sb i h → (∀ b ∈ fb, ∀ o, h.get? b = some o → h'.get? b = some o) → Sb i h') (l1 : ∀ h, Sa 0 h → ∀ b ∈ fa, ∃ o, h.get? b = some o) (l2 : ∀ h, Sb 0 h → ∀ b ∈ fb, ∃ o, h.get? b = some o) :
    PairArg prog w "zip" zp (zp :: ta :: tb :: (fa ++ fb)) [zp, tb, ja, jb] n (fun i k v => Pa i k ∧ Pb i v) (fun h => IsZip h zp ta tb .none ∧ IsTupOf2 h ta (.ref ja) (.ref jb) ∧ (∃ x y, IsTupOf2 h tb x y) ∧ Sa 0 h ∧ Sb 0 h) where
  type := fun s ok => ⟨_, ok.1, rfl⟩
  notDict := by decide
  keep := fun h h' ok k => by
    obtain ⟨a, b, ⟨x, y, c⟩, d, e⟩ := ok
    exact ⟨k _ _ a, k _ _ b, ⟨x, y, k _ _ c⟩, f1 _ _ _ d fun b _ o q => k b o q, f2 _ _ _ e fun b _ o q => k b o q⟩
  there := fun h ok b hb => by
    obtain ⟨z1, z2, ⟨x, y, z3⟩, z4, z5⟩ := ok
    simp only [List.mem_cons, List.mem_append] at hb
    rcases hb with rfl | rfl | rfl | hb | hb
    · exact ⟨_, z1⟩
    · exact ⟨_, z2⟩
    · exact ⟨_, z3⟩
    · exact l1 h z4 b hb
    · exact l2 h z5 b hb
  sub := fun b hb => by
    simp only [List.mem_cons, List.not_mem_nil, or_false] at hb
    rcases hb with rfl | rfl | rfl | rfl
    · simp
    · simp
    · simp [Z.mem1]
    · simp [Z.mem2]
  noKeys := fun A s Q E hA ok h => getAttrOr_miss_zip ok.1 rfl rfl rfl zip_no_keys (by decide +kernel) hA h
  iter := fun A s d Q E hA ok hd hdf h => by
    obtain ⟨z1, z2, z3, z4, z5⟩ := ok
    have off : d ∉ [zp, tb, ja, jb] := fun hb => hdf (by
      simp only [List.mem_cons, List.not_mem_nil, or_false] at hb
      rcases hb with rfl | rfl | rfl | rfl
      · simp
      · simp
      · simp [Z.mem1]
      · simp [Z.mem2])
    refine wpAny_pyIter_zip z1 (h zp [zp, tb, ja, jb] (fun i h => ZSt zp ta tb ja jb Sa Sb d i h) s.heap s.toks ?_ ⟨z2, z4, z5, .inl ⟨z1, z3⟩⟩ (fun _ _ e => e) fun b hb => .inl hb)
    exact {
      off := off
      frame := fun i h h' st k => st.frame (D1 A hA) (D2 A hA) hdf k
      item := fun i s₁ Q₁ E₁ hi st hds hq => zst_item Z (D1 _ hA) (D2 _ hA) st hds hi hi fun x y h' tk px py tp st' k => hq s₁.heap.objs.size x y h' tk ⟨px, py⟩ (.inl ⟨_, tp, rfl, _, rfl⟩) st' k
      done := fun s₁ Q₁ E₁ st hq => zst_end Z (D1 _ hA) (D2 _ hA) st (Nat.le_refl _) (Nat.le_refl _) (.inl rfl) hq }
end
end DD
set_option Elab.async false
set_option linter.all false
set_option maxRecDepth 100000
set_option maxHeartbeats 1000000
/-! DZd: dict(zip(a, b)), dict(list(zip(a, b))) over lists and tuples. -/
namespace DD
open PySem PySem.Spec PyProof.Rows L2
/-- a list or a tuple, as zip takes it -/
theorem seq_it {X : Cx} {pins : List (Addr × Obj)} {σ : L2.St} {H : Hp} {s : Shared} {a : Addr} {xs : List V} (I : Inv X pins σ H s) (h : SqL X.K H a xs ∨ SqT X.K H a xs) :
    ∃ (its : List Value) (o : Obj) (HH : Heap → Prop), Vals xs its ∧ a < s.heap.objs.size ∧ HH s.heap ∧ Begins (.ref a) o HH ∧ xs.length ≤ sizeLine ∧ ∀ it, a ≠ it → ∃ St : Nat → Heap → Prop,
      (∀ A : Around, A.handled = none → Draws X.prog X.w A it [it, a] its.length (fun i v => its[i]? = some v) St) ∧ (∀ i h h', St i h → (∀ b ∈ [it, a], ∀ o, h.get? b = some o → h'.get? b = some o) → St i h') ∧
      (∀ h, St 0 h → ∀ b ∈ [it, a], ∃ o, h.get? b = some o) ∧ ∀ h, h.get? it = some o → HH h → St 0 h := by
  rcases h with h | h
  · obtain ⟨its, rv, p, z⟩ := I.list h
    refine ⟨its, _, _, rv, p.lt, p.isList, begins_list a its.toArray, z, fun it ne => ⟨fun i h => h.IsListIter it a i ∧ h.IsList a its.toArray, fun A hA => ?_, fun i h h' st k => ⟨st.1.at fun o e => k it (by simp) o e, st.2.at fun o e => k a (by simp) o e⟩, fun h st b hb => ?_, fun h e hh => ⟨⟨_, e, rfl, rfl⟩, hh⟩⟩⟩
    · have d := Draws.list (prog := X.prog) (w := X.w) hA it a ne its.toArray
      simpa using d
    · obtain ⟨⟨o, e, _⟩, ⟨o2, e2, _⟩⟩ := st
      simp only [List.mem_cons, List.not_mem_nil, or_false] at hb
      rcases hb with rfl | rfl
      · exact ⟨o, e⟩
      · exact ⟨o2, e2⟩
  · obtain ⟨its, rv, p, z⟩ := I.tuple h
    have pt : s.heap.IsTuple a its.toArray := let ⟨o, ho, hc, n, hd⟩ := p; ⟨o, ho, hc, n, hd⟩
    have lt : a < s.heap.objs.size := let ⟨o, ho, _⟩ := p; Heap.lt_size ho
    refine ⟨its, _, _, rv, lt, pt, begins_tuple a its.toArray, z, fun it ne => ⟨fun i h => h.IsTupleIter it a i ∧ h.IsTuple a its.toArray, fun A hA => ?_, fun i h h' st k => ⟨st.1.at fun o e => k it (by simp) o e, st.2.at fun o e => k a (by simp) o e⟩, fun h st b hb => ?_, fun h e hh => ⟨⟨_, e, rfl, rfl⟩, hh⟩⟩⟩
    · have d := Draws.tuple (prog := X.prog) (w := X.w) hA it a ne its.toArray
      simpa using d
    · obtain ⟨⟨o, e, _⟩, ⟨o2, e2, _⟩⟩ := st
      simp only [List.mem_cons, List.not_mem_nil, or_false] at hb
      rcases hb with rfl | rfl
      · exact ⟨o, e⟩
      · exact ⟨o2, e2⟩
theorem two_out {x y z : Nat} (h1 : x ≠ y) (h2 : x ≠ z) : x ∉ [y, z] := fun h => by
  rcases List.mem_cons.mp h with h | h
  · exact h1 h
  · exact h2 (List.mem_singleton.mp h)
theorem sep_of {N a b : Nat} (la : a < N) (lb : b < N) : ZipSep2 (N + 4) (N + 2) (N + 3) N (N + 1) [N, a] [N + 1, b] where
  TIz := show (N + 2 : Nat) ≠ N + 4 by omega
  TOz := show (N + 3 : Nat) ≠ N + 4 by omega
  TITO := show (N + 2 : Nat) ≠ N + 3 by omega
  TIi1 := show (N + 2 : Nat) ≠ N by omega
  mem1 := List.mem_cons_self
  zf1 := two_out (by omega) (by omega)
  Tf1 := two_out (by omega) (by omega)
  TIi2 := show (N + 2 : Nat) ≠ N + 1 by omega
  mem2 := List.mem_cons_self
  zf2 := two_out (by omega) (by omega)
  Tf2 := two_out (by omega) (by omega)
  sep1_2 := two_out (by omega) (by omega)
  sep2_1 := two_out (by omega) (by omega)
theorem big_of {N c : Nat} (h : c ∈ [N + 4, N + 3, N, N + 1]) : N ≤ c := by
  simp only [List.mem_cons, List.not_mem_nil, or_false] at h
  rcases h with h | h | h | h <;> omega
/-- keys that are numbers and texts -/
theorem keys_vals : ∀ {ks : List Key} {its : List Value}, Vals (ks.map kV) its → ∀ {vs : List V} {jts : List Value}, Vals vs jts → ks.length = vs.length → KV (ks.zip vs) (ks.zip jts) ∧ ∀ (P : Program) (w : World) (i : Nat) (k v : Value), its[i]? = some k → jts[i]? = some v → ∃ key, (ks.zip jts)[i]? = some (key, v) ∧ (mixKind P w).is key k = true
  | [], _, .nil, _, _, _, _ => ⟨.nil, fun P w i k v e => by simp at e⟩
  | k :: ks, _, .cons r t, _, _, .nil, e => by cases e
  | k :: ks, _, .cons r t, _, _, .cons r2 t2, e => by
    obtain ⟨h1, h2⟩ := keys_vals t t2 (Nat.succ.inj e)
    refine ⟨.cons ⟨rfl, r2⟩ h1, fun P w i u v e1 e2 => ?_⟩
    cases i with
    | zero =>
      cases e1; cases e2
      exact ⟨k, rfl, kV_is r⟩
    | succ i => exact h2 P w i u v e1 e2
section
variable {X : Cx} {pins : List (Addr × Obj)} {σ : L2.St} {H : Hp} {s : Shared} {a b : Addr} {ks : List Key} {ys : List V}
/-- the dict that is made -/
theorem dz_laid {h' : Heap} {tk D : Nat} {jts : List Value} (I : Inv X pins σ H s) (kv : KV (ks.zip ys) (ks.zip jts)) (k : ∀ b o, s.heap.get? b = some o → h'.get? b = some o) (hD : s.heap.objs.size ≤ D) (dd : h'.DictOf (mixKind X.prog X.w) D (merged [] (ks.zip jts))) (hl : ks.length ≤ sizeLine) :
    Inv X pins σ (upd H D (.dK (mergeK [] (ks.zip ys)))) { s with heap := h', toks := tk } ∧ H D = none := by
  refine ⟨I.laid k hD (dk_new ?_ ?_ (kv.merge .nil) dd), I.hok.fresh hD⟩
  · refine Nat.le_trans (length_mergeK _ []) ?_
    rw [List.length_zip, List.length_nil, Nat.zero_add]
    exact Nat.le_trans (Nat.min_le_left ..) hl
  · exact beq_eq_false_iff_ne.mpr (Ne.symm (Nat.ne_of_lt (Nat.lt_of_lt_of_le I.big hD)))
variable {A : Around} {E : Value → Shared → Prop} {Q : Value → Shared → Prop}
/-- zip(a, b), and what may be done with it -/
theorem zip_two (I : Inv X pins σ H s) (h1 : SqL X.K H a (ks.map kV) ∨ SqT X.K H a (ks.map kV)) (h2 : SqL X.K H b ys ∨ SqT X.K H b ys) (hl : ks.length = ys.length)
    (n : ∀ (its jts : List Value) (h' : Heap) (z ta tb ja jb : Addr) (Sa Sb : Nat → Heap → Prop), Vals (ks.map kV) its → Vals ys jts → ks.length ≤ sizeLine → its.length = ks.length → jts.length = ks.length → (∀ c o, s.heap.get? c = some o → h'.get? c = some o) → (∀ c ∈ [z, tb, ja, jb], s.heap.objs.size ≤ c) →
      ZipSep2 z ta tb ja jb [ja, a] [jb, b] → (∀ A : Around, A.handled = none → Draws X.prog X.w A ja [ja, a] ks.length (fun i v => its[i]? = some v) Sa) → (∀ A : Around, A.handled = none → Draws X.prog X.w A jb [jb, b] ks.length (fun i v => jts[i]? = some v) Sb) →
      (∀ i h h', Sa i h → (∀ b ∈ [ja, a], ∀ o, h.get? b = some o → h'.get? b = some o) → Sa i h') → (∀ i h h', Sb i h → (∀ c ∈ [jb, b], ∀ o, h.get? c = some o → h'.get? c = some o) → Sb i h') →
      (∀ h, Sa 0 h → ∀ b ∈ [ja, a], ∃ o, h.get? b = some o) → (∀ h, Sb 0 h → ∀ c ∈ [jb, b], ∃ o, h.get? c = some o) →
      (IsZip h' z ta tb .none ∧ IsTupOf2 h' ta (.ref ja) (.ref jb) ∧ (∃ x y, IsTupOf2 h' tb x y) ∧ Sa 0 h' ∧ Sb 0 h') → Q (.ref z) { s with heap := h' }) :
    wpAny (model X.prog X.w) A (call (.type "zip") [.ref a, .ref b]) Q E s := by
  obtain ⟨its, o1, HA, rv, la, ha, Ba, za, ca⟩ := seq_it I h1
  obtain ⟨jts, o2, HB, rw2, lb, hb, Bb, zb, cb⟩ := seq_it I h2
  have e1 : its.length = ks.length := by rw [← rv.length, List.length_map]
  have e2 : jts.length = ks.length := by rw [← rw2.length, hl]
  refine zip_begins2 Ba Bb ha hb fun h' q1 q2 q3 q4 q5 q6 q7 => ?_
  obtain ⟨Sa, da, fra, lva, bga⟩ := ca s.heap.objs.size (Nat.ne_of_lt la)
  obtain ⟨Sb, db, frb, lvb, bgb⟩ := cb (s.heap.objs.size + 1) (Nat.ne_of_lt (Nat.lt_succ_of_lt lb))
  rw [e1] at da
  rw [e2] at db
  refine n its jts h' _ _ _ _ _ Sa Sb rv rw2 (by simpa using za) e1 e2 q7 (fun c hc => big_of hc) (sep_of la lb) da db fra frb lva lvb ⟨q1, q2, ⟨_, _, q3⟩, bga h' q4 (Ba.keeps _ _ ha q7), bgb h' q5 (Bb.keeps _ _ hb q7)⟩
theorem call_dz (I : Inv X pins σ H s) (hh : A.handled = none) (h1 : SqL X.K H a (ks.map kV) ∨ SqT X.K H a (ks.map kV)) (h2 : SqL X.K H b ys ∨ SqT X.K H b ys) (hl : ks.length = ys.length)
    (q : ∀ D s', Inv X pins σ (upd H D (.dK (mergeK [] (ks.zip ys)))) s' → H D = none → Q (.ref D) s') :
    wpAny (model X.prog X.w) A (call (.type "zip") [.ref a, .ref b]) (fun z s' => wpAny (model X.prog X.w) A (call (.type "dict") [z]) Q E s') E s := by
  refine zip_two I h1 h2 hl fun its jts h' z ta tb ja jb Sa Sb rv rw2 hz e1 e2 kp big Z D1 D2 f1 f2 l1 l2 ok => ?_
  obtain ⟨kv, kis⟩ := keys_vals rv rw2 (by rw [hl])
  have P := zip_arg (prog := X.prog) (w := X.w) Z D1 D2 f1 f2 l1 l2
  refine call_dict_pairs (knd := mixKind X.prog X.w) (kvs := ks.zip jts) (s := { s with heap := h' }) P hh ok ⟨by rw [List.length_zip, e2, Nat.min_self], fun i k v r => kis _ _ i k v r.1 r.2⟩ hz fun h2 tk dd k2 => ?_
  have kk : ∀ c o, s.heap.get? c = some o → h2.get? c = some o := fun c o e => k2 c o (fun hc => Nat.lt_irrefl _ (Nat.lt_of_lt_of_le (Heap.lt_size e) (big c hc))) (kp c o e)
  have hD : s.heap.objs.size ≤ h'.objs.size := by
    have z := big z (by simp)
    exact Nat.le_trans z (Nat.le_of_lt (Heap.lt_size ok.1))
  obtain ⟨I2, n2⟩ := dz_laid (tk := tk) I kv kk hD dd hz
  exact q _ _ I2 n2
theorem call_dlz (I : Inv X pins σ H s) (hh : A.handled = none) (h1 : SqL X.K H a (ks.map kV) ∨ SqT X.K H a (ks.map kV)) (h2 : SqL X.K H b ys ∨ SqT X.K H b ys) (hl : ks.length = ys.length)
    (q : ∀ D s', Inv X pins σ (upd H D (.dK (mergeK [] (ks.zip ys)))) s' → H D = none → Q (.ref D) s') :
    wpAny (model X.prog X.w) A (call (.type "zip") [.ref a, .ref b]) (fun z s' => wpAny (model X.prog X.w) A (call (.type "list") [z]) (fun l s'' => wpAny (model X.prog X.w) A (call (.type "dict") [l]) Q E s'') E s') E s := by
  refine zip_two I h1 h2 hl fun its jts h' z ta tb ja jb Sa Sb rv rw2 hz e1 e2 kp big Z D1 D2 f1 f2 l1 l2 ok => ?_
  obtain ⟨kv, kis⟩ := keys_vals rv rw2 (by rw [hl])
  obtain ⟨o1, o2, o3, o4, o5⟩ := ok
  have ll : ∀ {c o}, h'.get? c = some o → c < h'.objs.size := fun e => Heap.lt_size e
  refine lz_call (s := { s with heap := h' }) Z D1 D2 hh hz o1 o2 o3 o4 o5 (fun c hc => let ⟨o, e⟩ := l1 _ o4 c hc; ll e) (fun c hc => let ⟨o, e⟩ := l2 _ o5 c hc; ll e) fun h2 tk acc c us k2 eS el g ea => ?_
  have lps : (its.zip jts).length = ks.length := by rw [List.length_zip, e1, e2, Nat.min_self]
  have P := PairArg.list (prog := X.prog) (w := X.w) h'.objs.size acc (fun j => us.getD j 0) (its.zip jts)
  refine call_dict_pairs (knd := mixKind X.prog X.w) (kvs := ks.zip jts) (s := { s with heap := h2, toks := tk }) P hh ⟨⟨_, c, eS, rfl, rfl, rfl⟩, ?_, fun j k v e => ?_⟩ ⟨by rw [List.length_zip, e2, lps, Nat.min_self], fun i k v r => ?_⟩ (by rw [lps]; exact hz) fun h3 tk3 dd k3 => ?_
  · rw [← Array.length_toList, ea, List.length_map, el, lps]
  · have hj : j < us.length := by rw [el, ← lps]; exact (List.getElem?_eq_some_iff.mp e).1
    have ej : us[j]? = some us[j] := List.getElem?_eq_getElem hj
    obtain ⟨x, y, p1, p2, p3⟩ := g.pairs j _ ej
    rw [List.getElem?_zip_eq_some] at e
    rw [e.1] at p1
    rw [e.2] at p2
    cases p1; cases p2
    have eg : us.getD j 0 = us[j] := by simp [List.getD, ej]
    refine ⟨?_, ?_⟩
    · show acc[j]? = some (Value.ref (us.getD j 0))
      rw [eg, ← Array.getElem?_toList, ea, List.getElem?_map, ej]
      rfl
    · show PairAt h2 (us.getD j 0) _ _
      rw [eg]
      exact .inl ⟨_, p3, rfl, _, rfl⟩
  · have r' : (its.zip jts)[i]? = some (k, v) := r
    rw [List.getElem?_zip_eq_some] at r'
    exact kis _ _ i k v r'.1 r'.2
  · have kk : ∀ c o, s.heap.get? c = some o → h3.get? c = some o := fun c o e => k3 c o (by simp) (k2 c o (fun hc => Nat.lt_irrefl _ (Nat.lt_of_lt_of_le (Heap.lt_size e) (big c hc))) (kp c o e))
    have hD : s.heap.objs.size ≤ h2.objs.size := by
      have z1 := big z (by simp)
      have z2 := ll o1
      have z3 : h'.objs.size < h2.objs.size := Heap.lt_size eS
      exact Nat.le_trans z1 (Nat.le_of_lt (Nat.lt_trans z2 z3))
    obtain ⟨I2, n2⟩ := dz_laid (tk := tk3) I kv kk hD dd hz
    exact q _ _ I2 n2
end
end DD
set_option Elab.async false
set_option linter.all false
set_option maxRecDepth 100000
set_option maxHeartbeats 1000000
/-! DDk: dict(zip(a, b)), dict(list(zip(a, b))). -/
namespace DD
theorem b_len : PySem.bootBuiltins "len" = some (.builtin "len") := by decide +kernel
theorem b_abs : PySem.bootBuiltins "abs" = some (.builtin "abs") := by decide +kernel
theorem b_max : PySem.bootBuiltins "max" = some (.builtin "max") := by decide +kernel
theorem b_min : PySem.bootBuiltins "min" = some (.builtin "min") := by decide +kernel
theorem b_sum : PySem.bootBuiltins "sum" = some (.builtin "sum") := by decide +kernel
theorem b_repr : PySem.bootBuiltins "repr" = some (.builtin "repr") := by decide +kernel
theorem b_int : PySem.bootBuiltins "int" = some (.type "int") := by decide +kernel
theorem b_tuple : PySem.bootBuiltins "tuple" = some (.type "tuple") := by decide +kernel
theorem b_list : PySem.bootBuiltins "list" = some (.type "list") := by decide +kernel
theorem b_dict : PySem.bootBuiltins "dict" = some (.type "dict") := by decide +kernel
theorem b_zip : PySem.bootBuiltins "zip" = some (.type "zip") := by decide +kernel
open PySem PySem.Spec PyProof.Rows L2
def blkC (N : List Str) (sc scope : Scope) (own : List (Str × Nat)) : Bool :=
  decide (scope.kind = .function) && decide (∀ y ∈ scope.names, scope.names.lookup y.1 = some y.2) && decide (∀ p ∈ own, N[p.2]? = some p.1) && decide (∀ y ∈ scope.names, y.2 = .free → sc.names.lookup y.1 = some .cell ∨ sc.names.lookup y.1 = some .free) &&
    decide (∀ y ∈ scope.names, y.2 = .local ∨ y.2 = .cell → y.1 ∈ own.map (·.1) ∨ y.1 ∉ N)
theorem blk_mk {N : List Str} {sc scope : Scope} {own : List (Str × Nat)} (h : blkC N sc scope own = true) : BlkOk N sc scope own := by
  unfold blkC at h
  simp only [Bool.and_eq_true, decide_eq_true_eq] at h
  exact ⟨h.1.1.1.1, h.1.1.1.2, h.1.1.2, h.1.2, h.2⟩
def keysD : List Dt → Option (List Key)
  | [] => some []
  | d :: r => (keyD d).bind fun k => (keysD r).map (k :: ·)
def gDz (d e : Dt) : Option Dt := (dSeq d).bind fun xs => (dSeq e).bind fun ys => (keysD xs).bind fun ks => if decide (ks.length = ys.length) && chk ks.length then some (.dic (mergeD [] (ks.zip ys))) else none
section
variable {X : Cx} {W : WX} {e e2 : Expr} {f g : Sm Dt} {p p2 p3 pos pos2 pos3 : Pos}
/-- the two lists of data as keys and values -/
theorem keys_at {K : PySem.W.Frag} {A : Sa} {F : Hp} : ∀ {ds : List Dt} {vs : List V} {ks : List Key}, AtL K A F vs ds → keysD ds = some ks → vs = ks.map kV
  | [], _, _, .nil, e => by cases e; rfl
  | d :: ds, _, _, .cons (v := v) h t, e => by
    unfold keysD at e
    obtain ⟨k, hk, e⟩ := Option.bind_eq_some_iff.mp e
    obtain ⟨ks, hks, rfl⟩ := Option.map_eq_some_iff.mp e
    have e1 := keyD_of (F := F) (H := F) (.inl h) hk
    rw [e1, keys_at t hks]
    rfl
theorem zip_at {K : PySem.W.Frag} {A : Sa} {F : Hp} : ∀ (ks : List Key) {ds : List Dt} {vs : List V}, AtL K A F vs ds → AtK K A F (ks.zip vs) (ks.zip ds)
  | [], _, _, _ => .nil
  | _ :: _, _, _, .nil => .nil
  | _ :: ks, _, _, .cons h t => .cons h (zip_at ks t)
theorem AtO.seq {K : PySem.W.Frag} {A : Sa} {F H : Hp} {x : V} {d : Dt} {ds : List Dt} (g : Same F H) (h : AtO K A F H x d) (e : dSeq d = some ds) : ∃ a vs, x = .ref a ∧ (SqL K H a vs ∨ SqT K H a vs) ∧ AtL K A F vs ds := by
  cases d with
  | tup xs => cases e; obtain ⟨a, vs, rfl, h1, h2⟩ := h.tup g; exact ⟨a, vs, rfl, .inr h1, h2⟩
  | lst xs => cases e; obtain ⟨a, vs, rfl, h1, h2⟩ := h.lst g; exact ⟨a, vs, rfl, .inl (SqL.of h1), h2⟩
  | scr ns =>
    cases e
    rcases h with h | ⟨_, _, _, _, e2, _⟩
    · cases h with
      | scr h => exact ⟨_, _, rfl, .inl (same_l g h), AtL.ints ns⟩
    · cases e2
  | _ => cases e
def rDz (K : PySem.W.Frag) : List V → Hp → VK → Prop := fun vs H Q => ∃ (a b : Addr) (ks : List Key) (ys : List V), vs = [.ref a, .ref b] ∧ (SqL K H a (ks.map kV) ∨ SqT K H a (ks.map kV)) ∧ (SqL K H b ys ∨ SqT K H b ys) ∧ ks.length = ys.length ∧ ∀ D, H D = none → Q (.ref D) (upd H D (.dK (mergeK [] (ks.zip ys))))
theorem in_dz {σ : L2.St} {H : Hp} {Q : VK} (h : In X.K X.mg W (rD X.K) (vOp gDz f g) σ H Q) : In X.K X.mg W (rAO X.K) (aCons f (aCons g aNil)) σ H fun vs H1 => rDz X.K vs H1 Q := by
  obtain ⟨A, F0, H0, F, s, ρ, ok, o⟩ := h
  refine ⟨A, F0, H0, F, s, ρ, ok, ?_⟩
  unfold aCons
  have key : ∀ (d e : Dt) (s3 : Sv), Out X.mg W A F H σ (rD X.K A H) Q (ofO (gDz d e) s3) → ∀ v F2 H2, Stp A F H F2 H2 → SrcOk A H2 s3 → rAO X.K A H [d, e] v F2 H2 → rDz X.K v H2 Q := by
    intro d e s3 o v F2 H2 st so r
    obtain ⟨z, hz, o⟩ := o.o
    unfold gDz at hz
    obtain ⟨xs, hx, hz⟩ := Option.bind_eq_some_iff.mp hz
    obtain ⟨ys, hy, hz⟩ := Option.bind_eq_some_iff.mp hz
    obtain ⟨ks, hk, hz⟩ := Option.bind_eq_some_iff.mp hz
    obtain ⟨c, rfl⟩ := of_ite hz
    simp only [Bool.and_eq_true, decide_eq_true_eq] at c
    have g2 := st.gd so
    cases r with
    | cons r1 r =>
      cases r with
      | cons r2 r =>
        cases r
        obtain ⟨a, vs, rfl, a1, a2⟩ := AtO.seq g2.sub r1 hx
        obtain ⟨b, ws, rfl, b1, b2⟩ := AtO.seq g2.sub r2 hy
        have e1 := keys_at a2 hk
        subst e1
        refine ⟨a, b, ks, ws, rfl, a1, b1, by rw [c.1, b2.length], fun D hD => ?_⟩
        have q := Stq.alloc (o := .dK (mergeK [] (ks.zip ws))) g2 hD
        exact o.ok (st.trans q.p) (so.keep q.keep) (.dic upd_same (AtK.up q.ext _ _ (AtK.merge .nil (zip_at ks b2))))
  revert o
  unfold vOp
  cases f ρ s with
  | no => exact fun o => o
  | ex x s2 => exact fun o => o
  | ok d s2 =>
    show Out X.mg W A F H σ (rD X.K A H) Q ((g ρ s2).bind fun e s3 => ofO (gDz d e) s3) → Out X.mg W A F H σ (rAO X.K A H) _ (((g ρ s2).bind fun d s3 => (Rs.ok [] s3).bind fun ds s4 => Rs.ok (d :: ds) s4).bind fun ds s3 => Rs.ok (d :: ds) s3)
    cases g ρ s2 with
    | no => exact fun o => o
    | ex x s3 => exact fun o => o
    | ok e s3 => exact fun o => key d e s3 o
theorem de_dzip (hc : X.calm = true) (hg : Gl X "dict") (hm : X.mg "dict" = none) (hm2 : X.mg "zip" = none) (ha : DO X W e f) (hb : DO X W e2 g) (hg2 : Gl X "zip" := by rfl)
    (he : starEach [e, e2] X.env = (false, eval e X.env) :: starEach [e2] X.env := by rfl) (he2 : starEach [e2] X.env = (false, eval e2 X.env) :: starEach [] X.env := by rfl) (hpl : (backTo pos2 (starEach [e2] X.env)).any (·.1) = false := by rfl)
    (hd : starEach [.Call (.Name "zip" p2) [e, e2] [] pos2] X.env = (false, eval (.Call (.Name "zip" p2) [e, e2] [] pos2) X.env) :: starEach [] X.env := by rfl) (hdl : (backTo pos (starEach [] X.env)).any (·.1) = false := by rfl) :
    DE X W (.Call (.Name "dict" p) [.Call (.Name "zip" p2) [e, e2] [] pos2] [] pos) (vOp gDz f g) := by
  have h2 := dao_cons ha (dao_cons hb dao_nil he2) he
  refine ⟨⟨fun pins s σ H Q I h => ?_⟩⟩
  refine wpAny_Call_Name_kw (ld_blt I hg hm b_dict ?_ (by decide) (by decide))
  refine PyProof.Rows.callWith_type1 ?_ hd hdl
  rw [hd]
  refine Calls.spliced_cons ?_
  refine wpAny_Call_Name_kw (ld_blt I hg2 hm2 b_zip ?_ (by decide) (by decide))
  refine PyProof.Rows.callWith_type1 (thn (h2.pa.run pos2 pins s σ H _ I (in_dz h)) fun us s1 ⟨vs, H1, I1, r1, a, b, ks, ys, ev, s1', s2', hl, q⟩ => ?_) he hpl
  subst ev
  obtain ⟨u1, u2, rfl, ru1, ru2⟩ := vals2 r1
  obtain rfl : u1 = Value.ref a := ru1
  obtain rfl : u2 = Value.ref b := ru2
  refine wpAny_mono (call_dz (Q := EP X pins σ Q) I1 (I1.ok.hd hc) s1' s2' hl fun D s' I2 n => ⟨.ref D, _, I2, rfl, q D n⟩) (fun z s' hz => Calls.spliced_nil hz) fun e s' he => he
theorem de_dlzip (hc : X.calm = true) (hg : Gl X "dict") (hm : X.mg "dict" = none) (hgl : Gl X "list") (hm1 : X.mg "list" = none) (hgz : Gl X "zip") (hm2 : X.mg "zip" = none) (ha : DO X W e f) (hb : DO X W e2 g)
    (he : starEach [e, e2] X.env = (false, eval e X.env) :: starEach [e2] X.env := by rfl) (he2 : starEach [e2] X.env = (false, eval e2 X.env) :: starEach [] X.env := by rfl) (hpl : (backTo pos2 (starEach [e2] X.env)).any (·.1) = false := by rfl)
    (hd : starEach [.Call (.Name "zip" p2) [e, e2] [] pos2] X.env = (false, eval (.Call (.Name "zip" p2) [e, e2] [] pos2) X.env) :: starEach [] X.env := by rfl) (hdl : (backTo pos3 (starEach [] X.env)).any (·.1) = false := by rfl)
    (hd3 : starEach [.Call (.Name "list" p3) [.Call (.Name "zip" p2) [e, e2] [] pos2] [] pos3] X.env = (false, eval (.Call (.Name "list" p3) [.Call (.Name "zip" p2) [e, e2] [] pos2] [] pos3) X.env) :: starEach [] X.env := by rfl) (hdl3 : (backTo pos (starEach [] X.env)).any (·.1) = false := by rfl) :
    DE X W (.Call (.Name "dict" p) [.Call (.Name "list" p3) [.Call (.Name "zip" p2) [e, e2] [] pos2] [] pos3] [] pos) (vOp gDz f g) := by
  have h2 := dao_cons ha (dao_cons hb dao_nil he2) he
  refine ⟨⟨fun pins s σ H Q I h => ?_⟩⟩
  refine wpAny_Call_Name_kw (ld_blt I hg hm b_dict ?_ (by decide) (by decide))
  refine PyProof.Rows.callWith_type1 ?_ hd3 hdl3
  rw [hd3]
  refine Calls.spliced_cons ?_
  refine wpAny_Call_Name_kw (ld_blt I hgl hm1 b_list ?_ (by decide) (by decide))
  refine PyProof.Rows.callWith_type1 ?_ hd hdl
  rw [hd]
  refine Calls.spliced_cons ?_
  refine wpAny_Call_Name_kw (ld_blt I hgz hm2 b_zip ?_ (by decide) (by decide))
  refine PyProof.Rows.callWith_type1 (thn (h2.pa.run pos2 pins s σ H _ I (in_dz h)) fun us s1 ⟨vs, H1, I1, r1, a, b, ks, ys, ev, s1', s2', hl, q⟩ => ?_) he hpl
  subst ev
  obtain ⟨u1, u2, rfl, ru1, ru2⟩ := vals2 r1
  obtain rfl : u1 = Value.ref a := ru1
  obtain rfl : u2 = Value.ref b := ru2
  refine wpAny_mono (call_dlz (Q := EP X pins σ Q) I1 (I1.ok.hd hc) s1' s2' hl fun D s' I2 n => ⟨.ref D, _, I2, rfl, q D n⟩) (fun z s' hz => Calls.spliced_nil (wpAny_mono hz (fun l s2 hl => Calls.spliced_nil hl) fun e s' he => he)) fun e s' he => he
end
end DD
set_option Elab.async false
set_option linter.all false
set_option maxRecDepth 100000
set_option maxHeartbeats 1000000
/-! DDl: x = {..}; x.update({..}); return x[k]. -/
namespace DD
open PySem PySem.Spec PyProof.Rows L2
section
variable {X : Cx} {W : WX}
theorem d_upd {pins : List (Addr × Obj)} {σ : L2.St} {H : Hp} {s : Shared} {a b : Addr} {kvs more : List (Key × V)} {E : Value → Shared → Prop} {A : Around} {Q : Value → Shared → Prop} (I : Inv X pins σ H s) (e1 : H a = some (.dK kvs)) (e2 : H b = some (.dK more)) (ne : a ≠ b)
    (hz : kvs.length + more.length ≤ sizeLine) (h : ∀ s', Inv X pins σ (upd H a (.dK (mergeK kvs more))) s' → Q .none s') : wpAny (model X.prog X.w) A (call (.builtin "dict.update") [.ref a, .ref b]) Q E s := by
  obtain ⟨z, hd, vs, rel, dd⟩ := dk_of I.hok e1
  obtain ⟨z2, hd2, ws, rel2, dd2⟩ := dk_of I.hok e2
  refine call_meetsIn PySem.F.slot_dict_update dd.typeIs PySem.F.entry_dict_update (PySem.F.args_dict_update_2 _ _) (meets_dict_update (mixKind X.prog X.w) a b ne hd2)
    ⟨vs, ws, dd, dd2, by rw [← rel.length, ← rel2.length]; exact hz, fun h' dd' _ hs => h _ ?_⟩
  have he : ∃ q, h'.get? a = some q := let ⟨q, _, _, hq, _⟩ := dd'; ⟨q, hq⟩
  exact d_write I (by rw [e1]; exact True.intro) hs he (dk_new (Nat.le_trans (length_mergeK more kvs) hz) hd (rel2.merge rel) dd')
def tDUpd (td te : TE) : TE := fun σ H Q => td σ H fun x H1 => ∃ a, x = .ref a ∧ (∃ kvs, H1 a = some (.dK kvs)) ∧ te σ H1 fun y H2 => ∃ b kvs more, y = .ref b ∧ a ≠ b ∧ H2 a = some (.dK kvs) ∧ H2 b = some (.dK more) ∧ kvs.length + more.length ≤ sizeLine ∧ Q .non (upd H2 a (.dK (mergeK kvs more)))
theorem pe_dupd {o e : Expr} {apos cpos : Pos} {td te : TE} (ho : PE X o td) (he : PE X e te) (m : M1 X o "update" apos e cpos) : PE X (.Call (.Attribute o "update" apos) [e] [] cpos) (tDUpd td te) := by
  refine ⟨fun pins s σ H Q I h => ?_⟩
  refine wpAny_Call_method m.base m.few m.line PySem.F.plainAttrs_dict PySem.F.slot_dict_update PySem.F.type_dict_update (thn (ho.run pins s σ H _ I h) fun u s1 ⟨x, H1, I1, rx, a, ex, ⟨k0, d⟩, q1⟩ => ?_)
  subst ex
  obtain rfl : u = Value.ref a := rx
  obtain ⟨t1, t2, _⟩ := isD_at I1 (.inl ⟨k0, .inl d⟩)
  refine ⟨t1, t2, ?_⟩
  rw [m.trees]
  refine Calls.callWith_builtin rfl (Calls.evalArgs_plain (Calls.spliced_cons (thn (he.run pins s1 σ H1 _ I1 q1) fun iv s2 ⟨y, H2, I2, ry, b, kvs, more, ey, ne, e1, e2, hz, q2⟩ => Calls.spliced_nil ?_)))
  subst ey
  obtain rfl : iv = Value.ref b := ry
  exact d_upd I2 e1 e2 ne hz fun s3 I3 => ⟨.non, _, I3, rfl, q2⟩
/-- x = {..}; x.update({..}); return x[k] -/
def sDictUp (i : Nat) (r1 r2 : List (Sm Dt × Sm Dt)) (f : Sm Dt) : Ss := fun ρ s => if ¬ i < ρ.length then .no else (dPairs r1 ρ s).st ρ fun ps s2 => (dPairs r2 (ρ.set i .un) s2).st (ρ.set i .un) fun qs s3 => if ¬ chk ((mergeD [] ps).length + (mergeD [] qs).length) = true then .no else (f (ρ.set i .un) s3).st (ρ.set i .un) fun d s4 =>
  match (keyD d).bind (lookD (mergeD (mergeD [] ps) (mergeD [] qs))) with
  | some v => .ret v s4
  | none => .no
theorem Ok.setUn {K : PySem.W.Frag} {A : Sa} {F0 H0 F H : Hp} {s : Sv} {σ : L2.St} {ρ : List Sl} (h : Ok K A F0 H0 F H s σ ρ) (i : Nat) (o : Option V) : Ok K A F0 H0 F H s (σ.set i o) (ρ.set i .un) where
  st := h.st
  so := h.so
  len := by rw [List.length_set, List.length_set]; exact h.len
  sl := fun j x o e1 e2 => by
    by_cases q : i = j
    · subst q
      rw [List.getElem?_set_self (by have := (List.getElem?_eq_some_iff.mp e1).1; rwa [List.length_set] at this)] at e1
      cases e1
      trivial
    · rw [List.getElem?_set_ne q] at e1 e2
      exact h.sl j x o e1 e2
  ap := fun j k xs ys p n e1 e2 e3 e4 => by
    have ne : ∀ (l : Nat) (zs : List Dt), (ρ.set i .un)[l]? = some (Sl.own zs) → i ≠ l := fun l zs w z => by
      subst z
      rw [List.getElem?_set_self (by have := (List.getElem?_eq_some_iff.mp w).1; rwa [List.length_set] at this)] at w
      cases w
    have n1 := ne j xs e1
    have n2 := ne k ys e2
    rw [List.getElem?_set_ne n1] at e1 e3
    rw [List.getElem?_set_ne n2] at e2 e4
    exact h.ap j k xs ys p n e1 e2 e3 e4
/-- a loose object is put anew -/
theorem Ok.over {K : PySem.W.Frag} {A : Sa} {F0 H0 F H : Hp} {s : Sv} {σ : L2.St} {ρ : List Sl} (h : Ok K A F0 H0 F H s σ ρ) {p : Addr} {o u : HO} (hp : H p = some o) (nl : ∀ xs, o ≠ .lst xs) (n0 : H0 p = none) (nF : F p = none) (nf : ¬ fp A p) : Ok K A F0 H0 F (upd H p u) s σ ρ where
  st := ⟨h.st.ext, fun a v e => by rw [upd_ne (ne_of_none e nF)]; exact h.st.sub a v e, fun a v e n => by rw [upd_ne (ne_of_none e n0)]; exact h.st.keep a v e n, h.st.new, h.st.nof⟩
  so := by
    have ne : ∀ z, fp A z → z ≠ p := fun z f w => nf (w ▸ f)
    rcases h.so with so | ⟨d, c, v, so, so0, so1, so2⟩
    · exact .inl so
    · exact .inr ⟨d, c, v, so, so0, by rw [upd_ne (ne d ⟨_, so, .inl rfl⟩)]; exact so1, by rw [upd_ne (ne c ⟨_, so, .inr rfl⟩)]; exact so2⟩
  len := h.len
  sl := fun i x w e1 e2 => by
    have z := h.sl i x w e1 e2
    cases x with
    | un => trivial
    | val d => exact z
    | own ds =>
      obtain ⟨q, vs, z1, z2, z3⟩ := z
      refine ⟨q, vs, z1, ?_, z3⟩
      have ne : q ≠ p := fun w => by
        subst w
        rw [hp] at z2
        exact nl _ (Option.some.inj z2)
      rw [upd_ne ne]
      exact z2
  ap := h.ap
theorem dss_dictup {k : Nat} (hr : Rm k X.A) (i : Nat) {x : Str} {ks ks2 : List (Option Expr)} {vs vs2 : List Expr} {r1 r2 : List (Sm Dt × Sm Dt)} {e : Expr} {f : Sm Dt} {p1 p2 p3 p4 p5 p6 p7 p8 p9 pos pos2 : Pos} (h1 : DKs X W pos ks vs r1) (h2 : DKs X W pos2 ks2 vs2 r2) (he : DE X W e f) (hN : X.N.Nodup) (hi : X.N[i]? = some x := by rfl)
    (hx : Loc X.env.scope x := by first | exact Or.inl rfl | exact Or.inr rfl) (hv : Vis X.env.scope x := by first | exact Or.inl rfl | exact Or.inr (Or.inl rfl) | exact Or.inr (Or.inr rfl)) (hd : (x == ("__debug__" : Str)) = false := by decide) (hcd : (x == ("__classdict__" : Str)) = false := by decide)
    (hall : ks.all (·.isSome) = true := by rfl) (hl : ks.length = vs.length := by rfl) (h0 : ks ≠ [] := by nofun) (h15 : ks.length ≤ 15 := by decide) (hr1 : r1.length ≤ 15 := by decide)
    (hall2 : ks2.all (·.isSome) = true := by rfl) (hl2 : ks2.length = vs2.length := by rfl) (h02 : ks2 ≠ [] := by nofun) (h152 : ks2.length ≤ 15 := by decide) (hr2 : r2.length ≤ 15 := by decide)
    (m : M1 X (.Name x p2) "update" p3 (.Dict ks2 vs2 pos2) p4 := by exact ⟨rfl, rfl, rfl, rfl⟩) (hs : swapsWith (.Dict ks vs pos) (some (.Name x p1)) p5.line X.env = pure false := by rfl)
    (hs2 : swapsWith (.Call (.Attribute (.Name x p2) "update" p3) [.Dict ks2 vs2 pos2] [] p4) none p6.line X.env = pure false := by rfl) (hsl : NoSl e := by exact fun _ _ => rfl) (hf : X.fn x = true ∨ X.env.scope.names.lookup x = some .local := by first | exact Or.inr rfl | exact Or.inl rfl) :
    DSs X W [.Assign [.Name x p1] (.Dict ks vs pos) p5, .Expr (.Call (.Attribute (.Name x p2) "update" p3) [.Dict ks2 vs2 pos2] [] p4) p6, .Return (some (.Subscript (.Name x p7) e p8)) p9] (sDictUp i r1 r2 f) := by
  refine ⟨pss_imp (pss_cons (ps_set hN hi hx (pe_disp h1.pps hall hl h0 h15) hs hf) (pss_cons (ps_expr (pe_dupd (pe_var hi hv hd hcd) (pe_disp h2.pps hall2 hl2 h02 h152) m) hs2) (pss_one (ps_ret (pe_dget (hr.un (by omega)) (pe_var hi hv hd hcd) he.pe hsl))))) fun D σ H h => ?_⟩
  obtain ⟨A, F0, H0, F, s, ρ, ok, o⟩ := h
  unfold sDictUp at o
  by_cases hi2 : i < ρ.length
  · rw [if_neg (fun z => z hi2)] at o
    have hσ : i < σ.length := by rw [← ok.len]; exact hi2
    simp only [tSeq, tAsg, gName, tDrop, tRet]
    refine disp_loose hr1 ⟨A, F0, H0, F, s, ρ, ok, Out.ofS ok o fun ps s2 v F2 H2 st ok2 ⟨p, kvs, ev, n0, n2, nf, h2, a⟩ o2 => ?_⟩
    subst ev
    have n00 : H0 p = none := by
      cases z : H0 p with
      | none => rfl
      | some u =>
        have w := ok.st.keep p u z nf
        rw [n0] at w; cases w
    have ok2' := ok2.setUn i (some (.ref p))
    refine ⟨.ref p, List.getElem?_set_self hσ, p, rfl, ⟨_, h2⟩, ?_⟩
    refine disp_loose hr2 ⟨A, F0, H0, F2, s2, ρ.set i .un, ok2', Out.ofS ok2' o2 fun qs s3 v F3 H3 st3 ok3 ⟨p3, kvs3, ev, m0, m2, mf, h3, a3⟩ o3 => ?_⟩
    subst ev
    have n3 : F3 p = none := by
      cases z : F3 p with
      | none => rfl
      | some u =>
        have w := st3.new p u z n2
        rw [h2] at w; cases w
    have h33 : H3 p = some (.dK (mergeK [] kvs)) := st3.keep _ _ h2 nf
    have ne : p ≠ p3 := fun z => by rw [z] at h2; rw [m0] at h2; cases h2
    have a1 : AtK X.K A F3 (mergeK [] kvs) (mergeD [] ps) := AtK.merge .nil (AtK.up st3.ext _ _ a)
    have a2 : AtK X.K A F3 (mergeK [] kvs3) (mergeD [] qs) := AtK.merge .nil a3
    by_cases hz : chk ((mergeD [] ps).length + (mergeD [] qs).length) = true
    case neg => rw [if_pos hz] at o3; exact o3.elim
    rw [if_neg (fun z => z hz)] at o3
    refine ⟨p3, mergeK [] kvs, mergeK [] kvs3, rfl, ne, h33, h3, by rw [a1.length, a2.length]; exact chk_of hz, ?_⟩
    have ok4 := ok3.over (u := .dK (mergeK (mergeK [] kvs) (mergeK [] kvs3))) h33 (fun xs z => by cases z) n00 n3 nf
    refine ⟨.ref p, List.getElem?_set_self hσ, A, F0, H0, F3, s3, ρ.set i .un, ok4, Out.ofS ok4 o3 fun d s4 y F4 H4 st4 ok4' b o4 => ?_⟩
    cases hk : keyD d with
    | none => rw [hk] at o4; exact o4.elim
    | some key =>
      rw [hk] at o4
      have e := keyD_of (F := F4) (H := H4) (.inl b) hk
      subst e
      have h44 : H4 p = some (.dK (mergeK (mergeK [] kvs) (mergeK [] kvs3))) := st4.keep _ _ upd_same nf
      have am := AtK.merge a1 a2
      have am := AtK.up st4.ext _ _ am
      obtain ⟨l1, l2⟩ := look_of (k := key) am
      cases q : lookD (mergeD (mergeD [] ps) (mergeD [] qs)) key with
      | none => rw [Option.bind_some, q] at o4; exact o4.elim
      | some d =>
        rw [Option.bind_some, q] at o4
        obtain ⟨v, v1, v2⟩ := l2 d q
        refine ⟨p, v, rfl, by rw [← v1]; exact DGet.k h44, o4 _ _ _ ok4'.st ok4'.so v2⟩
  · rw [if_pos hi2] at o
    exact o.elim
end
end DD
set_option Elab.async false
set_option linter.all false
set_option maxRecDepth 100000
set_option maxHeartbeats 1000000
/-! DDm: the source: source['x'], len(source['cells']), source['x'] = e, source['x'] = source['cells'].pop(). -/
namespace DD
open PySem PySem.Spec PyProof.Rows L2
@[simp] def sFld (x : Str) (v : Src) : Option Int := if x = "left" then some v.left else if x = "mixed" then some v.mixed else if x = "turn" then some v.turn else none
@[simp] def sPut (x : Str) (v : Src) (i : Int) : Option Src := if x = "left" then some { v with left := i } else if x = "mixed" then some { v with mixed := i } else if x = "turn" then some { v with turn := i } else none
theorem sFld_val {x : Str} {v : Src} {i : Int} (c : Addr) (h : sFld x v = some i) : valV (srcDict c v) (Sum.inr x) = some (.int i) := by
  unfold sFld at h
  split at h
  · next e => subst e; cases h; rfl
  · split at h
    · next e => subst e; cases h; rfl
    · split at h
      · next e => subst e; cases h; rfl
      · cases h
theorem cells_val (c : Addr) (v : Src) : valV (srcDict c v) (Sum.inr ("cells" : Str)) = some (.ref c) := rfl
theorem sPut_put {x : Str} {v w : Src} {i : Int} (c : Addr) (h : sPut x v i = some w) : putK (srcDict c v) (Sum.inr x) (.int i) = srcDict c w := by
  unfold sPut at h
  split at h
  · next e => subst e; cases h; rfl
  · split at h
    · next e => subst e; cases h; rfl
    · split at h
      · next e => subst e; cases h; rfl
      · cases h
theorem sPut_cells {x : Str} {v w : Src} {i : Int} (h : sPut x v i = some w) : w.cells = v.cells := by
  unfold sPut at h
  split at h
  · cases h; rfl
  · split at h
    · cases h; rfl
    · split at h
      · cases h; rfl
      · cases h
/-- the source in slot i -/
@[simp] def srcAt (i : Nat) (ρ : List Sl) (s : Sv) : Option Src := match ρ[i]? with
  | some (.val .src) => s
  | _ => none
section
variable {X : Cx} {W : WX}
theorem src_of {K : PySem.W.Frag} {A : Sa} {F0 H0 F H : Hp} {s : Sv} {σ : L2.St} {ρ : List Sl} {i : Nat} {v : Src} (ok : Ok K A F0 H0 F H s σ ρ) (h : srcAt i ρ s = some v) :
    ∃ d c, A = some (d, c) ∧ s = some v ∧ σ[i]? = some (some (.ref d)) ∧ H d = some (.dK (srcDict c v)) ∧ H c = some (.lst (v.cells.map V.int)) := by
  unfold srcAt at h
  split at h
  · next e =>
    obtain ⟨x, h1, h2⟩ := ok.val e
    cases h2 with
    | src ha =>
      rcases ok.so with ⟨hA, _⟩ | ⟨d, c, v2, hA, hs, h3, h4⟩
      · rw [hA] at ha; cases ha
      · rw [hA] at ha
        cases ha
        rw [hs] at h
        cases h
        exact ⟨d, c, hA, hs, h1, h3, h4⟩
  · cases h
@[simp] def vSget (i : Nat) (x : Str) : Sm Dt := fun ρ s => ofO (((srcAt i ρ s).bind (sFld x)).map .int) s
@[simp] def vSlen (i : Nat) : Sm Dt := fun ρ s => ofO ((srcAt i ρ s).map fun v => .int v.cells.length) s
@[simp] def sSput (i : Nat) (x : Str) (f : Sm Dt) : Ss := fun ρ s => (f ρ s).st ρ fun d s2 => match (dI d).bind fun n => (srcAt i ρ s2).bind fun v => sPut x v n with
  | some w => .nx ρ (some w)
  | none => .no
@[simp] def sSpop (i : Nat) (x : Str) : Ss := fun ρ s => match (srcAt i ρ s).bind fun v => v.cells.getLast?.bind fun n => sPut x { v with cells := v.cells.dropLast } n with
  | some w => .nx ρ (some w)
  | none => .no
variable {y x : Str} {k : Nat} {p p2 p3 p4 p5 p6 pos apos cpos : Pos} {j : Nat}
theorem de_sget (hr : Rm k X.A) (i : Nat) (hN : X.N[i]? = some y := by rfl) (hv : Vis X.env.scope y := by first | exact Or.inl rfl | exact Or.inr (Or.inl rfl) | exact Or.inr (Or.inr rfl)) (hd : (y == ("__debug__" : Str)) = false := by decide)
    (hcd : (y == ("__classdict__" : Str)) = false := by decide) : DE X W (.Subscript (.Name y p) (.Constant (.str x) j p2) pos) (vSget i x) := by
  refine ⟨pe_imp (pe_dget (hr.un (by omega)) (pe_var hN hv hd hcd) pe_str (fun _ _ => rfl)) fun σ H Q ⟨A, F0, H0, F, s, ρ, ok, o⟩ => ?_⟩
  obtain ⟨z, hz, o⟩ := o.o
  obtain ⟨n, hn, rfl⟩ := Option.map_eq_some_iff.mp hz
  obtain ⟨v, hv, hn⟩ := Option.bind_eq_some_iff.mp hn
  obtain ⟨d, c, hA, hs, h1, h2, h3⟩ := src_of ok hv
  exact ⟨_, h1, d, .int n, rfl, by rw [← sFld_val c hn]; exact DGet.k (k := .inr x) h2, o.ok (Stp.refl ok.gd) ok.so (.int n)⟩
theorem de_slen (hr : Rm k X.A) (i : Nat) (hg : Gl X "len") (hm : X.mg "len" = none) (hN : X.N[i]? = some y := by rfl) (hv : Vis X.env.scope y := by first | exact Or.inl rfl | exact Or.inr (Or.inl rfl) | exact Or.inr (Or.inr rfl)) (hd : (y == ("__debug__" : Str)) = false := by decide)
    (hcd : (y == ("__classdict__" : Str)) = false := by decide) (hs : starEach [.Subscript (.Name y p) (.Constant (.str "cells") j p2) p3] X.env = (false, eval (.Subscript (.Name y p) (.Constant (.str "cells") j p2) p3) X.env) :: starEach [] X.env := by rfl)
    (hpl : (backTo pos (starEach [] X.env)).any (·.1) = false := by rfl) : DE X W (.Call (.Name "len" p4) [.Subscript (.Name y p) (.Constant (.str "cells") j p2) p3] [] pos) (vSlen i) := by
  refine ⟨pe_imp (pe_callB call_len hg hm b_len (pa_cons (pe_dget (hr.un (by omega)) (pe_var hN hv hd hcd) pe_str (fun _ _ => rfl)) pa_nil hs) (by decide) (by decide) hs hpl) fun σ H Q ⟨A, F0, H0, F, s, ρ, ok, o⟩ => ?_⟩
  obtain ⟨z, hz, o⟩ := o.o
  obtain ⟨v, hv, rfl⟩ := Option.map_eq_some_iff.mp hz
  obtain ⟨d, c, hA, hs, h1, h2, h3⟩ := src_of ok hv
  refine ⟨_, h1, d, .ref c, rfl, by rw [← cells_val c v]; exact DGet.k (k := .inr "cells") h2, ?_⟩
  exact ⟨.ref c, v.cells.length, rfl, .inl ⟨_, SqL.of h3, by rw [List.length_map]⟩, o.ok (Stp.refl ok.gd) ok.so (.int _)⟩
/-- the source's objects put anew -/
theorem Ok.turn {K : PySem.W.Frag} {A : Sa} {F0 H0 F H : Hp} {s : Sv} {σ : L2.St} {ρ : List Sl} (ok : Ok K A F0 H0 F H s σ ρ) {d c : Addr} {v w : Src} (hA : A = some (d, c)) (h2 : H d = some (.dK (srcDict c v))) (h3 : H c = some (.lst (v.cells.map V.int))) {H2 : Hp}
    (e : ∀ a, a ≠ d → a ≠ c → H2 a = H a) (e2 : H2 d = some (.dK (srcDict c w))) (e3 : H2 c = some (.lst (w.cells.map V.int))) : Ok K A F0 H0 F H2 (some w) σ ρ := by
  have fd : fp A d := ⟨_, hA, .inl rfl⟩
  have fc : fp A c := ⟨_, hA, .inr rfl⟩
  have ap : ∀ a, ¬ fp A a → H2 a = H a := fun a n => e a (fun z => n (z ▸ fd)) (fun z => n (z ▸ fc))
  refine ⟨⟨ok.st.ext, fun a o q => ?_, fun a o q n => ?_, ok.st.new, ok.st.nof⟩, .inr ⟨d, c, w, hA, rfl, e2, e3⟩, ok.len, fun i x o a b => ?_, ok.ap⟩
  · rw [ap a fun z => by rw [ok.st.nof a z] at q; cases q]
    exact ok.st.sub a o q
  · rw [ap a n]
    exact ok.st.keep a o q n
  · have z := ok.sl i x o a b
    cases x with
    | un => trivial
    | val d => exact z
    | own ds =>
      obtain ⟨q, vs, z1, z2, z3, z4, z5, z6⟩ := z
      exact ⟨q, vs, z1, by rw [ap q z5]; exact z2, z3, z4, z5, z6⟩
theorem ds_sset (hr : Rm k X.A) (i : Nat) {e : Expr} {f : Sm Dt} (he : DE X W e f) (hN : X.N[i]? = some y := by rfl) (hv : Vis X.env.scope y := by first | exact Or.inl rfl | exact Or.inr (Or.inl rfl) | exact Or.inr (Or.inr rfl)) (hd : (y == ("__debug__" : Str)) = false := by decide)
    (hcd : (y == ("__classdict__" : Str)) = false := by decide) (hs : swapsWith e (some (.Subscript (.Name y p) (.Constant (.str x) j p2) p3)) pos.line X.env = pure false := by rfl) :
    DS X W (.Assign [.Subscript (.Name y p) (.Constant (.str x) j p2) p3] e pos) (sSput i x f) := by
  refine ⟨ps_imp (ps_dput (hr.un (by omega)) (pe_var hN hv hd hcd) pe_str he.pe hs) fun D σ H h => InS.run (R := rD X.K) h ?_⟩
  intro A F0 H0 F s ρ d s2 u F2 H2 ok st ok2 r o
  cases z : (dI d).bind fun n => (srcAt i ρ s2).bind fun v => sPut x v n with
  | none => rw [z] at o; exact o.elim
  | some w =>
    rw [z] at o
    obtain ⟨n, hn, z⟩ := Option.bind_eq_some_iff.mp z
    obtain ⟨v, hv, hw⟩ := Option.bind_eq_some_iff.mp z
    cases d <;> try (cases hn; done)
    rename_i m
    obtain rfl : m = n := Option.some.inj hn
    cases r
    obtain ⟨a, c, hA, hs2, h1, h2, h3⟩ := src_of ok2 hv
    have ne : c ≠ a := fun z => by rw [z] at h3; rw [h2] at h3; cases h3
    refine ⟨_, h1, a, upd H2 a (.dK (srcDict c w)), rfl, .inl ⟨_, .inr x, h2, rfl, by show 4 < sizeLine; decide, by rw [sPut_put c hw]⟩, o F2 σ _ (ok2.turn hA h2 h3 (fun b n1 _ => upd_ne n1) upd_same ?_)⟩
    rw [upd_ne ne, sPut_cells hw]
    exact h3
theorem ds_spop (hr : Rm k X.A) (i : Nat) (hN : X.N[i]? = some y := by rfl) (hv : Vis X.env.scope y := by first | exact Or.inl rfl | exact Or.inr (Or.inl rfl) | exact Or.inr (Or.inr rfl)) (hd : (y == ("__debug__" : Str)) = false := by decide)
    (hcd : (y == ("__classdict__" : Str)) = false := by decide) {j2 : Nat}
    (hbase : attributeBase (.Subscript (.Name y p4) (.Constant (.str "cells") j2 p5) p6) "pop" X.env (eval (.Subscript (.Name y p4) (.Constant (.str "cells") j2 p5) p6) X.env) = eval (.Subscript (.Name y p4) (.Constant (.str "cells") j2 p5) p6) X.env := by rfl)
    (hline : (apos.endLine == cpos.line) = true := by rfl)
    (hs : swapsWith (.Call (.Attribute (.Subscript (.Name y p4) (.Constant (.str "cells") j2 p5) p6) "pop" apos) [] [] cpos) (some (.Subscript (.Name y p) (.Constant (.str x) j p2) p3)) pos.line X.env = pure false := by rfl) :
    DS X W (.Assign [.Subscript (.Name y p) (.Constant (.str x) j p2) p3] (.Call (.Attribute (.Subscript (.Name y p4) (.Constant (.str "cells") j2 p5) p6) "pop" apos) [] [] cpos) pos) (sSpop i x) := by
  refine ⟨ps_imp (ps_dput (hr.un (by omega)) (pe_var hN hv hd hcd) pe_str (pe_bm0 PySem.F.plainAttrs_list PySem.F.slot_list_pop PySem.F.type_list_pop mt_pop (pe_dget (hr.un (by omega)) (pe_var hN hv hd hcd) pe_str (fun _ _ => rfl)) hbase hline) hs) fun D σ H ⟨A, F0, H0, F, s, ρ, ok, o⟩ => ?_⟩
  unfold sSpop at o
  cases z : (srcAt i ρ s).bind fun v => v.cells.getLast?.bind fun n => sPut x { v with cells := v.cells.dropLast } n with
  | none => rw [z] at o; exact o.elim
  | some w =>
    rw [z] at o
    obtain ⟨v, hv, z⟩ := Option.bind_eq_some_iff.mp z
    obtain ⟨n, hn, hw⟩ := Option.bind_eq_some_iff.mp z
    obtain ⟨a, c, hA, hs2, h1, h2, h3⟩ := src_of ok hv
    have ne : c ≠ a := fun z => by rw [z] at h3; rw [h2] at h3; cases h3
    rw [List.getLast?_eq_getElem?] at hn
    refine ⟨_, h1, a, .ref c, rfl, by rw [← cells_val c v]; exact DGet.k (k := .inr "cells") h2, .inl ⟨rfl, _, SqL.of h3⟩, c, _, .int n, rfl, rfl, h3, by rw [List.length_map, List.getElem?_map, hn]; rfl, ?_⟩
    have e2 : upd H c (.lst ((v.cells.map V.int).dropLast)) a = some (.dK (srcDict c v)) := by rw [upd_ne (Ne.symm ne)]; exact h2
    have e4 : putK (srcDict c v) (Sum.inr x) (.int n) = srcDict c w := sPut_put (v := { v with cells := v.cells.dropLast }) c hw
    refine ⟨_, h1, a, upd (upd H c (.lst ((v.cells.map V.int).dropLast))) a (.dK (srcDict c w)), rfl, .inl ⟨_, .inr x, e2, rfl, by show 4 < sizeLine; decide, by rw [e4]⟩, o F σ _ (ok.turn hA h2 h3 (fun b n1 n2 => by rw [upd_ne n1, upd_ne n2]) upd_same ?_)⟩
    rw [upd_ne ne, upd_same, sPut_cells hw, List.map_dropLast]
end
end DD
set_option Elab.async false
set_option linter.all false
set_option maxRecDepth 100000
set_option maxHeartbeats 1000000
/-! DDn: the source's making; the law's end. -/
namespace DD
open PySem PySem.Spec PyProof.Rows L2
/-- what a made source is -/
def SrcQ (H : Hp) (Q : VK) : Prop := ∀ (d c : Addr) (v : Src) (H2 : Hp), v.cells.length ≤ sizeLine → Same H H2 → H d = none → H c = none → H2 d = some (.dK (srcDict c v)) → H2 c = some (.lst (v.cells.map V.int)) → Q (.ref d) H2
def tSrcRet (K : PySem.W.Frag) (f1 : Sm (List Dt)) (f2 f3 f4 : Sm Dt) : TS := fun D σ H => ∃ F0 H0 F ρ ds ns i j k, Ok K none F0 H0 F H none σ ρ ∧ f1 ρ none = .ok ds none ∧ dIs ds = some ns ∧ ns.length ≤ sizeLine ∧ f2 ρ none = .ok (.int i) none ∧ f3 ρ none = .ok (.int j) none ∧ f4 ρ none = .ok (.int k) none ∧ SrcQ H D.rt
theorem no_fp {a : Addr} : ¬ fp none a := fun ⟨_, h, _⟩ => by cases h
section
variable {X : Cx} {W : WX} {e1 e2 e3 e4 : Expr} {f1 : Sm (List Dt)} {f2 f3 f4 : Sm Dt} {pos p p2 p3 p4 pr : Pos} {j1 j2 j3 j4 : Nat}
theorem ps_src (h1 : DL X W e1 f1) (h2 : DE X W e2 f2) (h3 : DE X W e3 f3) (h4 : DE X W e4 f4) :
    PS X (.Return (some (.Dict [some (.Constant (.str "cells") j1 p), some (.Constant (.str "left") j2 p2), some (.Constant (.str "mixed") j3 p3), some (.Constant (.str "turn") j4 p4)] [e1, e2, e3, e4] pos)) pr) (tSrcRet X.K f1 f2 f3 f4) := by
  refine ps_imp (ps_ret (pe_disp (pps_cons pe_str h1.pe (pps_cons pe_str h2.pe (pps_cons pe_str h3.pe (pps_cons pe_str h4.pe pps_nil)))) rfl rfl nofun (by show 4 ≤ 15; decide))) fun D σ H ⟨F0, H0, F, ρ, ds, ns, i, j, k, ok, q1, q2, qz, q3, q4, q5, q⟩ => ?_
  show tDisp _ σ H D.rt
  intro d hd
  have a0 := Stq.loose (o := .dK []) ok.gd hd
  have ok1 := ok.step a0.p (ok.so.keep a0.keep)
  show In X.K X.mg W (rL X.K) f1 σ _ _
  refine ⟨none, F0, H0, F, none, ρ, ok1, ?_⟩
  rw [q1]
  rintro v F2 H2 st so ⟨c, vs, rfl, m0, m2, m3, m4, m5⟩
  have ok2 := ok1.step st so
  show In X.K X.mg W (rD X.K) f2 σ _ _
  refine ⟨none, F0, H0, F2, none, ρ, ok2, ?_⟩
  rw [q3]
  intro v F3 H3 st3 so3 r3
  cases r3
  have ok3 := ok2.step st3 so3
  show In X.K X.mg W (rD X.K) f3 σ _ _
  refine ⟨none, F0, H0, F3, none, ρ, ok3, ?_⟩
  rw [q4]
  intro v F4 H4 st4 so4 r4
  cases r4
  have ok4 := ok3.step st4 so4
  show In X.K X.mg W (rD X.K) f4 σ _ _
  refine ⟨none, F0, H0, F4, none, ρ, ok4, ?_⟩
  rw [q5]
  intro v F5 H5 st5 so5 r5
  cases r5
  have hv := ints_of m5 q2
  subst hv
  have n0 : H c = none := by
    cases z : H c with
    | none => rfl
    | some u =>
      have w := a0.keep c u z
      rw [m0] at w; cases w
  have ne : c ≠ d := fun z => by rw [z, upd_same] at m0; cases m0
  have k25 : ∀ b o, H2 b = some o → H5 b = some o := fun b o e => st5.keep b o (st4.keep b o (st3.keep b o e no_fp) no_fp) no_fp
  have k12 : ∀ b o, (upd H d (.dK [])) b = some o → H5 b = some o := fun b o e => k25 b o (st.keep b o e no_fp)
  refine ⟨k12 d _ upd_same, [(Sum.inr "cells", .ref c), (Sum.inr "left", .int i), (Sum.inr "mixed", .int j), (Sum.inr "turn", .int k)], rfl, by show 4 ≤ 15; decide, ?_⟩
  refine q d c ⟨ns, i, j, k⟩ _ qz (fun b o e => ?_) hd n0 upd_same ?_
  · rw [upd_ne (ne_of_none e hd)]
    exact k12 b o (by rw [upd_ne (ne_of_none e hd)]; exact e)
  · rw [upd_ne ne]
    exact k25 c _ m2
end
section
variable {P : Program} {w : World} {K : PySem.W.Frag} {mg : Str → Option Value} {base : Heap} {k : Nat} {x : Str} {st : Stmt} {N : List Str}
def spSrc (K : PySem.W.Frag) : Sp := fun vs H Q _ => ∃ (a : Addr) (ns : List Int), vs = [.ref a] ∧ SqL K H a (ns.map V.int) ∧ ns.length ≤ sizeLine ∧ SrcQ H Q
/-- the def that makes the source -/
structure FS (P : Program) (w : World) (K : PySem.W.Frag) (mg : Str → Option Value) (base : Heap) (k : Nat) (x : Str) : Prop where
  ex : ∃ f fd, FnOk P w K mg base (L2.CX P w) k f fd ["script"] (spSrc K) ∧ mg x = some (.ref f) ∧ PySem.W.keepIn K (.ref f) = true ∧ Binds K fd ["script"] []
theorem FS.of (h : Has K mg x st) (S : FnScope N ["script"] (defScope st)) (hp : Plainly x st ["script"]) (hb : ∀ (f : Addr) (cdv : Value) (A : Around) (outer : List Env) (s : Shared) (H : Hp) (E : XK), Room k (A.deeper (envOfC x (defScope st) s.heap.objs.size f cdv)) →
      ∃ t, PSs (cxOf (L2.CX P w) P w K mg base N x (defScope st) f cdv A outer s H E) (defBody st) t ∧ ∀ (a : Addr) (ns : List Int) (Q : VK), SqL K H a (ns.map V.int) → ns.length ≤ sizeLine → SrcQ H Q → t { nx := fun _ H' => Q .non H', rt := Q } (L2.start N [.ref a]) H) : FS P w K mg base (k + 1) x := by
  obtain ⟨f, fd, F, e⟩ := h.ex
  refine ⟨f, fd, F.okX S (fun vs H Q E ⟨a, ns, ev, _⟩ => by rw [ev]; rfl) (fun cdv A outer s H vs Q E hr ⟨a, ns, ev, h1, hz, h2⟩ => ?_), e, F.kp, F.binds hp⟩
  obtain ⟨t, h3, h4⟩ := hb f cdv A outer s H E hr
  subst ev
  exact ⟨t, h3, h4 a ns Q h1 hz h2⟩
end
/-- the law's own state behind its first row -/
theorem ok_law {K : PySem.W.Frag} {d c : Addr} {v : Src} {H : Hp} {σ : L2.St} {i : Nat} (h1 : H d = some (.dK (srcDict c v))) (h2 : H c = some (.lst (v.cells.map V.int))) (hi : i < σ.length) (h3 : σ[i]? = some (some (.ref d))) :
    Ok K (some (d, c)) (fun _ => none) H (fun _ => none) H (some v) σ ((List.replicate σ.length Sl.un).set i (.val .src)) where
  st := ⟨Same.refl _, fun a o e => (by cases e), fun a o e _ => e, fun a o e => (by cases e), fun a _ => rfl⟩
  so := .inr ⟨d, c, v, rfl, rfl, h1, h2⟩
  len := by rw [List.length_set, List.length_replicate]
  sl := fun j x o e1 e2 => by
    by_cases q : i = j
    · subst q
      rw [List.getElem?_set_self (by rw [List.length_replicate]; exact hi)] at e1
      cases e1
      rw [h3] at e2
      cases e2
      exact ⟨_, rfl, .src (x := (d, c)) rfl⟩
    · rw [List.getElem?_set_ne q, List.getElem?_replicate] at e1
      split at e1
      · cases e1; trivial
      · cases e1
  ap := fun j l xs ys p n e1 => by
    by_cases q : i = j
    · subst q
      rw [List.getElem?_set_self (by rw [List.length_replicate]; exact hi)] at e1
      cases e1
    · rw [List.getElem?_set_ne q, List.getElem?_replicate] at e1
      split at e1 <;> cases e1
/-- the law's def: its promise -/
def LawRuns (P : Program) (w : World) (K : PySem.W.Frag) (mg : Str → Option Value) (base : Heap) (k : Nat) (fa : Addr) (fd : FuncData) : Prop :=
  ∀ (A : Around) (s : Shared) (H : Hp) (a : Addr) (ns : List Int), Rm k A → Env0 P w K mg base A [] s H → BindsTo s fd ⟨[.ref a], []⟩ [("script", .ref a)] → SqL K H a (ns.map V.int) → ns.length ≤ sizeLine →
    codeAny (model P w) A (.call (.ref fa) ⟨[.ref a], []⟩) (CR (L2.CX P w) [] P w H s (fun v _ => v = .bl true) fun _ _ _ => False) s
section
variable {P : Program} {w : World} {K : PySem.W.Frag} {mg : Str → Option Value} {base : Heap} {k : Nat} {st : Stmt} {N : List Str} {f : Addr} {fd : FuncData} {b : Ss} {p p2 p3 p4 p5 : Pos} {rest : List Stmt}
theorem FS.mono {j : Nat} {x : Str} (G : FS P w K mg base j x) (h : j ≤ k) : FS P w K mg base k x := by
  obtain ⟨f, fd, a, b⟩ := G.ex
  exact ⟨f, fd, a.mono h, b⟩
theorem ps_mksrc {X : Cx} {W : WX} (G : FS X.prog X.w X.K X.mg X.base 2 "_law_source") (hr : Rm k X.A) (tk : Takes X W) (hN : X.N.Nodup) (h0 : X.N[0]? = some ("script" : Str) := by rfl) (h1 : X.N[1]? = some ("source" : Str) := by rfl) (hg : Gl X "_law_source" := by rfl)
    (hv : Vis X.env.scope "script" := by first | exact Or.inl rfl | exact Or.inr (Or.inl rfl)) (hx : Loc X.env.scope "source" := by first | exact Or.inl rfl | exact Or.inr rfl) (hs : swapsWith (.Call (.Name "_law_source" p2) [.Name "script" p3] [] p4) (some (.Name "source" p)) p5.line X.env = pure false := by rfl)
    (hf : X.fn "source" = true ∨ X.env.scope.names.lookup ("source" : Str) = some .local := by first | exact Or.inr rfl | exact Or.inl rfl) (hs1 : starEach [.Name "script" p3] X.env = (false, eval (.Name "script" p3) X.env) :: starEach [] X.env := by rfl) (hpl : (backTo p4 (starEach [] X.env)).any (·.1) = false := by rfl) :
    PS X (.Assign [.Name "source" p] (.Call (.Name "_law_source" p2) [.Name "script" p3] [] p4) p5) (tAsg (tCallS (spSrc X.K) (WE W) (tCons (tVar 0) tNil)) (gName 1)) := by
  obtain ⟨f, fd, a, b, c, d⟩ := G.ex
  exact ps_set hN h1 hx (pe_callS a hr.small hg b c d (fun σ => passAt tk σ) (pa_cons (pe_var h0 hv (by decide) (by decide)) pa_nil hs1) (by decide) hs1 hpl) hs hf
theorem law_runs (F : Fun K "law" "law" st f fd) (S : FnScope N ["script"] (defScope st)) (hN : N = ("script" : Str) :: ("source" : Str) :: N.drop 2)
    (hbody : defBody st = .Assign [.Name "source" p] (.Call (.Name "_law_source" p2) [.Name "script" p3] [] p4) p5 :: rest)
    (hb : ∀ (cdv : Value) (A : Around) (outer : List Env) (s : Shared) (H : Hp) (E : XK), Rm k (A.deeper (envOfC "law" (defScope st) s.heap.objs.size f cdv)) →
      DSs (cxOf (L2.CX P w) P w K mg base N "law" (defScope st) f cdv A outer s H E) (fun c d _ H => E c d H) rest b ∧
      PS (cxOf (L2.CX P w) P w K mg base N "law" (defScope st) f cdv A outer s H E) (.Assign [.Name "source" p] (.Call (.Name "_law_source" p2) [.Name "script" p3] [] p4) p5) (tAsg (tCallS (spSrc K) (WE fun c d _ H => E c d H) (tCons (tVar 0) tNil)) (gName 1)))
    (hq : ∀ v : Src, v.cells.length ≤ sizeLine → ∃ v2 : Sv, b ((List.replicate N.length Sl.un).set 1 (.val .src)) (some v) = .ret (.bl true) v2) : LawRuns P w K mg base (k + 1) f fd := by
  obtain ⟨oc, od, kV, doc, pm, an, cdv, ct, osl, rfl, lk, hcd⟩ := F.ex
  intro A s H a ns hr e0 hbd hS hz
  have KX : K.In s.heap := e0.mod.kin.keeps fun b o e => (e0.bs b o e).1
  have lim : s.heap.NoLimit := e0.mod.nolimit.keeps fun b o e => (e0.bs b o e).1
  have kinds : ∀ y ∈ [(("script" : Str), Value.ref a)], (defScope st).names.lookup y.1 = some .local ∨ ((defScope st).names.lookup y.1 = some .cell ∧ ((cellsFrom (s.heap.objs.size + 1) (defScope st).names []).lookup y.1).isSome = true) := by
    intro y hy
    rw [List.mem_singleton.mp hy]
    rcases S.par "script" (by simp) with q | q
    · exact .inl q
    · exact .inr ⟨q, PySem.W.cellsFrom_some _ _ _ (.inl q)⟩
  refine codeAny_call_function hr.depth (KX _ _ lk) rfl S.co S.gen rfl (PySem.W.codeRec_of KX hcd) (hbd _ _ _ _ ?_)
  refine wpAny_newFunctionEnv_cells S.kind kinds ?_
  intro env he s1 inc
  subst he
  refine ⟨lim.keeps inc.toInCall.keep, codeAny_func ?_⟩
  have I := inv_start (CX := L2.CX P w) (E := fun _ _ _ => False) (vs := [.ref a]) (us := [.ref a]) S hr.hd e0 rfl (.cons rfl .nil) inc
  obtain ⟨hb1, hb2⟩ := hb cdv A [] s H (fun _ _ _ => False) (hr.deeper _)
  have body := (pss_cons hb2 hb1.ps).run [] s1 (L2.start N [.ref a]) H { nx := fun _ H' => False, rt := fun v _ => v = .bl true } I (by
    have hlen : (L2.start N [V.ref a]).length = N.length := by
      rw [hN]
      simp [L2.start]
    have h0 : (L2.start N [V.ref a])[0]? = some (some (.ref a)) := by
      rw [hN]; rfl
    have h1 : 1 < N.length := by rw [hN]; simp
    refine ⟨.ref a, h0, a, ns, rfl, hS, hz, fun d c v H2 vz sm n1 n2 z1 z2 => ?_⟩
    show InS K mg _ b _ ((L2.start N [V.ref a]).set 1 (some (.ref d))) H2
    obtain ⟨v2, hv⟩ := hq v vz
    refine ⟨_, _, _, _, _, _, ok_law z1 z2 (i := 1) (by rw [List.length_set, hlen]; exact h1) (List.getElem?_set_self (by rw [hlen]; exact h1)), ?_⟩
    rw [List.length_set, hlen, hv]
    intro u F3 H3 st3 so3 r
    cases r
    rfl)
  rw [← hbody] at body
  refine wpAny_mono body (fun fl s2 h => ?_) fun e s2 h => h
  cases fl with
  | ret u =>
    obtain ⟨v, σ2, H2, J, rv, hq⟩ := h
    exact ⟨v, H2, J.os, J.bare, J.base, J.hok, rv, hq⟩
  | next => obtain ⟨_, _, _, hq⟩ := h; exact hq.elim
  | brk => obtain ⟨_, _, _, hq⟩ := h; exact hq.elim
  | cont => obtain ⟨_, _, _, hq⟩ := h; exact hq.elim
end
/-- THE HEAD: from the law's promise to the statement -/
theorem law_head {P : Program} {w : World} {K : PySem.W.Frag} {mg mb : Str → Option Value} {k : Nat} {fa sc : Addr} {fd : FuncData} {s1 : Shared} {us : List Value} {ns : List Int} (kin : K.In s1.heap) (hns : s1.heap.Ns mainGlobals mg) (hnb : s1.heap.Ns builtinsNs mb) (hbb : ∀ x : Str, x ≠ "__name__" → mb x = bootBuiltins x)
    (lim : s1.heap.NoLimit) (gens : s1.gens = #[]) (hsc : s1.heap.get? sc = some { cls := .type "list", data := .seq us.toArray }) (hi : IntsAre us ns) (hl : ns.length ≤ sizeLine) (hr : Rm k callerA) (G : ∀ base : Heap, K.In base → base.Ns mainGlobals mg → LawRuns P w K mg base k fa fd)
    (hbd : ∀ s : Shared, BindsTo s fd ⟨[.ref sc], []⟩ [("script", .ref sc)]) :
    codeAny (model P w) callerA (.call (.ref fa) ⟨[.ref sc], []⟩) (fun r s' => r = .ok (.ret (.bool true)) ∧ OldK s1.heap s'.heap ∧ s'.os = s1.os ∧ AllBare s'.gens) s1 := by
  have vals := vals_ints hi
  have len := hi.length
  have main : ∀ H : Hp, Only H → SqL K H sc (ns.map V.int) → HOk P w H s1.heap → (∀ c, H c ≠ none → c = sc) → (H sc ≠ none → K.lookup sc = none) →
      codeAny (model P w) callerA (.call (.ref fa) ⟨[.ref sc], []⟩) (fun r s' => r = .ok (.ret (.bool true)) ∧ OldK s1.heap s'.heap ∧ s'.os = s1.os ∧ AllBare s'.gens) s1 := by
    intro H only sq hok one notK
    have apart : ∀ {c : Addr}, c ≠ sc → H c = none := fun {c} n => by
      cases e : H c with
      | none => rfl
      | some u => exact absurd (one c (by rw [e]; simp)) n
    have base_ns : ∀ {c : Addr} {m : Str → Option Value}, s1.heap.Ns c m → (hidT s1.heap H).Ns c m := fun {c m} ⟨o, es, ep, e1, e2, e3⟩ => by
      refine ⟨o, es, ep, hidT_get e1 (apart fun z => ?_), e2, e3⟩
      rw [z, hsc] at e1
      cases e1
      have z2 : Data.seq us.toArray _ = Data.dict es ep := e2
      cases z2
    have base_k : K.In (hidT s1.heap H) := fun c o e => by
      refine hidT_get (kin c o e) ?_
      cases z : H c with
      | none => rfl
      | some u =>
        have ec := one c (by rw [z]; simp)
        subst ec
        rw [notK (by rw [z]; simp)] at e
        cases e
    have base_lim : (hidT s1.heap H).NoLimit := let ⟨mc, h1, h2⟩ := lim; ⟨mc, base_ns h1, h2⟩
    have md : Mod K mg (hidT s1.heap H) := ⟨base_k, base_ns hns, ⟨mb, base_ns hnb, hbb⟩, base_lim⟩
    have env0 : Env0 P w K mg (hidT s1.heap H) callerA [] s1 H := ⟨rfl, md, fun c o e => of_hidT e, Nat.le_of_eq (hidT_size _ _), trivial, (fun c hc => absurd (show c ∈ ([] : List Addr) from hc) (by simp)), hok, .of_eq gens⟩
    refine codeAny_mono (G _ base_k (base_ns hns) callerA s1 H sc ns hr env0 (hbd s1) sq hl) fun r s' h => ?_
    cases r with
    | error e =>
      obtain ⟨_, _, _, _, _, _, _, _, _, _, _, _, z⟩ := h
      exact z.elim
    | ok fl =>
      cases fl with
      | next => exact False.elim h
      | brk => exact False.elim h
      | cont => exact False.elim h
      | ret u =>
        obtain ⟨v, H', os, bare, un, hok', rv, hv⟩ := h
        have hv : v = .bl true := hv
        subst hv
        obtain rfl : u = Value.bool true := rv
        refine ⟨rfl, OldK.of_keep fun c o e => ?_, os, bare⟩
        cases q : H c with
        | none => exact un.keep c o e q (fun z => absurd (show c ∈ ([] : List Addr) from z) (by simp)) (by simp)
        | some u =>
          rcases only c with z | ⟨oc, xs, z⟩
          · rw [q] at z; cases z
          · obtain ⟨g1, _⟩ := hok c _ z
            obtain ⟨g2, _⟩ := hok' c _ (un.frzs c oc _ z)
            rw [e] at g1; cases g1
            exact g2
  cases hk : K.lookup sc with
  | some o =>
    have e := kin sc o hk
    rw [hsc] at e
    cases e
    exact main (fun _ => none) (fun _ => .inl rfl) (.inr ⟨_, us.toArray, _, hk, rfl, rfl, rfl, by rw [List.size_toArray, len]; exact hl, by simpa using vals⟩) (fun c u z => nomatch (show (none : Option HO) = some u from z)) (fun c z => absurd rfl z) fun z => absurd rfl z
  | none =>
    have at_sc : (if sc = sc then some (HO.frz { cls := .type "list", data := .seq us.toArray } (.lst (ns.map V.int))) else none) = some (HO.frz { cls := .type "list", data := .seq us.toArray } (.lst (ns.map V.int))) := if_pos rfl
    refine main (fun c => if c = sc then some (.frz { cls := .type "list", data := .seq us.toArray } (.lst (ns.map V.int))) else none) (fun c => ?_) (.inl (.inr ⟨_, at_sc⟩)) (fun c u z => ?_) (fun c z => ?_) fun _ => hk
    · by_cases h : c = sc
      · exact .inr ⟨_, _, if_pos h⟩
      · exact .inl (if_neg h)
    · by_cases h : c = sc
      · subst h
        have z2 := (if_pos rfl).symm.trans z
        cases z2
        exact ⟨hsc, by rw [List.length_map]; exact hl, us, _, vals, hsc⟩
      · have z2 := (if_neg h).symm.trans z
        cases z2
    · by_cases h : c = sc
      · exact h
      · exact absurd (if_neg h) z
theorem law_walk {l : PySem.W.OpenLaw} {n k : Nat} {q : Program} {loose : List Str} {XP : (Str → Option Value) → Heap → Prop} {YP : World → Heap → Prop} {d : DefRec} {K : Params → PySem.W.Frag} (hn : l.most = some n) (hn2 : n ≤ sizeLine) (hdf : d.params.defaults = []) (hr : Rm k callerA)
    (hY : ∀ (w : World) (h : Heap), YP w h → (K w.params).In h) (G : ∀ (w : World) (mg : Str → Option Value) (fa : Addr) (h : Heap), (K w.params).In h → h.Ns mainGlobals mg → mg d.name = some (.ref fa) →
      ∃ fd : FuncData, (∀ (s : Shared) (u : Value), BindsTo s fd ⟨[u], []⟩ [("script", u)]) ∧ ∀ base : Heap, (K w.params).In base → base.Ns mainGlobals mg → LawRuns l.prog w (K w.params) mg base k fa fd) :
    PySem.W.WalkO q loose XP YP l.row.toRowW d [] (fun f vs => PySem.call f vs) := by
  refine Att.attach_call hn hdf fun w s0 s1 mg mb fa o pm cd doc sc us ns T Y ho hd hcd hmg hsc hi hlen hg => ?_
  have kin := hY w _ Y
  obtain ⟨fd, hb, hG⟩ := G w mg fa _ kin T.T.g hmg
  exact law_head kin T.T.g T.T.b T.T.builtins T.T.nolimit hg hsc hi (Nat.le_trans hlen hn2) hr hG fun s => hb s _
end DD
set_option Elab.async false
set_option linter.all false
set_option maxRecDepth 100000
set_option maxHeartbeats 1000000
/-! DDo: plain laws of loops and comprehensions; how a source is made. -/
namespace DD
open PySem PySem.Spec PyProof.Rows L2
theorem seq_nx {m n : Ss} {ρ ρ2 : List Sl} {s s2 : Sv} (h : m ρ s = .nx ρ2 s2) : sSeq m n ρ s = n ρ2 s2 := by unfold sSeq; rw [h]
theorem seq_ret {m n : Ss} {ρ : List Sl} {s s2 : Sv} {d : Dt} (h : m ρ s = .ret d s2) : sSeq m n ρ s = .ret d s2 := by unfold sSeq; rw [h]
theorem seq_ex {m n : Ss} {ρ ρ2 : List Sl} {s s2 : Sv} {x : Str} (h : m ρ s = .ex x ρ2 s2) : sSeq m n ρ s = .ex x ρ2 s2 := by unfold sSeq; rw [h]
theorem call_ret {n : Nat} {b : Ss} {ds : List Dt} {s s2 : Sv} {d : Dt} (h : b (ds.map Sl.val ++ List.replicate (n - ds.length) .un) s = .ret d s2) : callS n b ds s = .ok d s2 := by unfold callS; rw [h]
theorem call_ex {n : Nat} {b : Ss} {ds : List Dt} {s s2 : Sv} {x : Str} {ρ2 : List Sl} (h : b (ds.map Sl.val ++ List.replicate (n - ds.length) .un) s = .ex x ρ2 s2) : callS n b ds s = .ex x s2 := by unfold callS; rw [h]
theorem while_many {b : Sm Bool} {m : Ss} {ρ : List Sl} {s : Sv} {r : RsS} (h : ∀ k, k = many → whileS b m k ρ s = r) : sWhile b m ρ s = r := h many rfl
theorem many_big {n : Nat} (h : n ≤ 100000000) : ∀ k, k = many → n < k := by
  intro k e
  subst e
  exact Nat.lt_of_le_of_lt h (by unfold many; decide)
theorem chk_le {n : Nat} (h : n ≤ sizeLine) : chk n = true := decide_eq_true h
theorem chk_mil {n : Nat} (h : n ≤ 1000000) : chk n = true := decide_eq_true (by show n ≤ 2 ^ 24; omega)
/-- a comprehension whose parts leave the source -/
theorem compS_map {gg : Dt → List Sl → Option (List Sl)} {b : Sm Bool} {f : Sm Dt} {ρ : List Sl} {s : Sv} {g : Dt → Dt} : ∀ (xs acc : List Dt), (∀ x ∈ xs, ∃ ρ1, gg x ρ = some ρ1 ∧ b ρ1 s = .ok true s ∧ f ρ1 s = .ok (g x) s) → acc.length + xs.length ≤ sizeLine → compS gg b f ρ xs acc s = .ok (acc ++ xs.map g) s
  | [], acc, _, _ => by simp [compS]
  | x :: xs, acc, h, hl => by
    obtain ⟨ρ1, h1, h2, h3⟩ := h x (by simp)
    rw [List.length_cons] at hl
    unfold compS
    rw [h1]
    simp only [h2, h3, if_true]
    rw [if_pos (chk_le (by omega))]
    rw [compS_map xs (acc ++ [g x]) (fun y hy => h y (by simp [hy])) (by rw [List.length_append, List.length_singleton]; omega)]
    simp
theorem compS_filter {gg : Dt → List Sl → Option (List Sl)} {b : Sm Bool} {f : Sm Dt} {ρ : List Sl} {s : Sv} {p : Dt → Bool} : ∀ (xs acc : List Dt), (∀ x ∈ xs, ∃ ρ1, gg x ρ = some ρ1 ∧ b ρ1 s = .ok (p x) s ∧ f ρ1 s = .ok x s) → acc.length + xs.length ≤ sizeLine → compS gg b f ρ xs acc s = .ok (acc ++ xs.filter p) s
  | [], acc, _, _ => by simp [compS]
  | x :: xs, acc, h, hl => by
    obtain ⟨ρ1, h1, h2, h3⟩ := h x (by simp)
    rw [List.length_cons] at hl
    unfold compS
    rw [h1]
    simp only [h2]
    cases e : p x with
    | false =>
      simp only [Bool.false_eq_true, if_false]
      rw [compS_filter xs acc (fun y hy => h y (by simp [hy])) (by omega), List.filter_cons, e]
      simp
    | true =>
      simp only [if_true, h3]
      rw [if_pos (chk_le (by omega))]
      rw [compS_filter xs (acc ++ [x]) (fun y hy => h y (by simp [hy])) (by rw [List.length_append, List.length_singleton]; omega), List.filter_cons, e]
      simp
/-- the making's loop: some number is left in slot 1 -/
theorem src_loop {body : Ss} {t : Dt} (hb : ∀ m c : Int, ∃ m2 : Int, body [.val t, .val (.int m), .val (.int c)] none = .nx [.val t, .val (.int m2), .val (.int c)] none) : ∀ (ns : List Int) (m : Int) (o : Sl), ∃ (m2 : Int) (o2 : Sl), loopS (tgName 2) body (ns.map .int) [.val t, .val (.int m), o] none = .nx [.val t, .val (.int m2), o2] none
  | [], m, o => ⟨m, o, rfl⟩
  | c :: ns, m, o => by
    obtain ⟨m2, h⟩ := hb m c
    obtain ⟨m3, o3, h3⟩ := src_loop hb ns m2 (.val (.int c))
    refine ⟨m3, o3, ?_⟩
    rw [List.map_cons, loopS]
    simp only [tgName, List.set_cons_succ, List.set_cons_zero, h]
    exact h3
theorem dIs_ints : ∀ ns : List Int, dIs (ns.map .int) = some ns
  | [] => rfl
  | n :: ns => by rw [List.map_cons, dIs, dIs_ints ns]; rfl
theorem src_cells {ns : List Int} (hz : ns.length ≤ sizeLine) {ρ : List Sl} (h0 : ρ[0]? = some (.val (.scr ns))) (hl : 2 < ρ.length) {fs : Sm (List Dt)} (hfs : fs = lRev (vL (lComp [2] (iSeq (vName 0)) (tgName 2) tTrue (vCb gAbs (aCons (vName 2) aNil))))) :
    fs ρ none = .ok (((ns.map fun i => if i < 0 then -i else i).reverse).map .int) none := by
  subst hfs
  obtain ⟨r0, r1, r2, ρ', rfl⟩ : ∃ r0 r1 r2 ρ', ρ = r0 :: r1 :: r2 :: ρ' := by
    match ρ, hl with
    | r0 :: r1 :: r2 :: ρ', _ => exact ⟨r0, r1, r2, ρ', rfl⟩
  cases h0
  simp only [lRev, vL, lComp, iSeq, vName, List.getElem?_cons_zero, Rs.bind_ok, dSeq, ofO_some]
  rw [compS_map (g := fun d => match d with | .int i => .int (if i < 0 then -i else i) | d => d)]
  · simp only [Rs.bind_ok, List.nil_append, dLst, Option.map_some, ofO_some, List.map_map, List.map_reverse]
    rfl
  · intro x hx
    obtain ⟨i, _, rfl⟩ := List.mem_map.mp hx
    exact ⟨_, rfl, rfl, by simp⟩
  · simpa using hz
end DD
set_option Elab.async false
set_option linter.all false
set_option maxRecDepth 100000
set_option maxHeartbeats 1000000
/-! the walk of the defs: printed by gen.py -/
namespace K00
open PySem PySem.Spec PyProof.Rows L2 DD
def top (i : Nat) : Stmt := PySem.Challenge.pw_worthsbetween_k00_whole_forms_part_by_pa.main.body.getD i (.Pass ⟨0, 0, 0, 0⟩)
def k_CLAIM_WORDS : Dt := (.tup [(.str "and"), (.str "or"), (.str "so"), (.str "both"), (.str "with"), (.str "less"), (.str "same")])
def k_NOUGHT : Dt := (.tup [(.str "nought")])
section
variable {P : Program} {w : World} {K : PySem.W.Frag} {mg : Str → Option Value} {base : Heap} {k : Nat}
def m_sides_told : Ss :=
  sSeq (sIf (tB (vOp gEq (vOp gIx (vName 0) (vC (.int 0))) (vC (.str "not")))) (sRet (vL (lLst (aCons (vTup (aCons (vC (.int 1)) (aCons (vOp gIx (vName 0) (vC (.int 1))) (aNil)))) (aNil))))) (sNil)) (sSeq (sIf (tB (vOp gEq (vOp gIx (vName 0) (vC (.int 0))) (vC (.str "copies")))) (sRet (vL (lLst (aCons (vTup (aCons (vC (.int 2)) (aCons (vOp gIx (vName 0) (vC (.int 2))) (aNil)))) (aNil))))) (sNil)) (sRet (vL (lIf (tB (vOp gInS (vOp gIx (vName 0) (vC (.int 0))) (vC k_CLAIM_WORDS))) (lLst (aCons (vTup (aCons (vC (.int 1)) (aCons (vOp gIx (vName 0) (vC (.int 1))) (aNil)))) (aCons (vTup (aCons (vC (.int 2)) (aCons (vOp gIx (vName 0) (vC (.int 2))) (aNil)))) (aNil)))) (lLst (aNil))))))
theorem sc_sides_told : FnScope ["value"] ["value"] (defScope (top 5)) := ⟨rfl, rfl, rfl, by decide +kernel, rfl, by decide +kernel, by decide +kernel⟩
theorem pl_sides_told : Plainly "sides_told" (top 5) ["value"] := fun _ _ _ _ _ _ us hl => match us, hl with | [_], _ => rfl
theorem w_sides_told (t_sides_told : Has K mg "sides_told" (top 5)) (g_CLAIM_WORDS : GlC K mg "CLAIM_WORDS" k_CLAIM_WORDS) :
    FN P w K mg base (k + 1) "sides_told" ["value"] (callS 1 (m_sides_told)) := by
  refine FN.of t_sides_told sc_sides_told pl_sides_told (m_sides_told) fun f cdv A outer s H E hr => ?_
  have tk : Takes (cxOf (L2.CX P w) P w K mg base ["value"] "sides_told" (defScope (top 5)) f cdv A outer s H E) (fun c d _ H => E c d H) := takes_of rfl rfl rfl rfl
  have hc : (cxOf (L2.CX P w) P w K mg base ["value"] "sides_told" (defScope (top 5)) f cdv A outer s H E).calm = true := rfl
  have hN : (["value"] : List Str).Nodup := (sc_sides_told).nd
  exact dss_cons (ds_if (dt_cmp (o_eq hr) ((de_ix hr ((de_name 0).o) ((de_int).o)).o) ((de_str).o) (by rfl)) (dss_one (ds_ret ((dl_lst (da_cons (de_tup (da_cons (de_int) (da_cons (de_ix hr ((de_name 0).o) ((de_int).o)) (da_nil)))) (da_nil))).v))) (dss_nil))
    (dss_cons (ds_if (dt_cmp (o_eq hr) ((de_ix hr ((de_name 0).o) ((de_int).o)).o) ((de_str).o) (by rfl)) (dss_one (ds_ret ((dl_lst (da_cons (de_tup (da_cons (de_int) (da_cons (de_ix hr ((de_name 0).o) ((de_int).o)) (da_nil)))) (da_nil))).v))) (dss_nil))
    (dss_one (ds_ret ((dl_if (dt_cmp (o_in hr) ((de_ix hr ((de_name 0).o) ((de_int).o)).o) ((de_top g_CLAIM_WORDS).o) (by rfl)) (dl_lst (da_cons (de_tup (da_cons (de_int) (da_cons (de_ix hr ((de_name 0).o) ((de_int).o)) (da_nil)))) (da_cons (de_tup (da_cons (de_int) (da_cons (de_ix hr ((de_name 0).o) ((de_int).o)) (da_nil)))) (da_nil)))) (dl_lst (da_nil))).v))))
def m_parts_of (c_sides_told : List Dt → Sv → Rs Dt) : Ss :=
  sSeq (sPar 1 2 (xO (lLst (aNil))) (xO (lLst (aCons (vName 0) (aNil))))) (sSeq (sWhile (tB (vOp gNe (oName 2) (vL (lLst (aNil))))) (sSeq (sPop 2 (tgName 3)) (sSeq (sAppend 1 (vName 3)) (sExtend 2 (vL (lComp [4, 5] (iSeq (vCall 1 c_sides_told (aCons (vName 3) (aNil)))) (tgTup 2 (tgCons (tgName 4) (tgCons (tgName 5) (tgNil)))) (tTrue) (vName 5))))))) (sRet (vCb gTuple (aCons (vL (lRev (oName 1))) (aNil)))))
theorem sc_parts_of : FnScope ["claim", "found", "line", "one", "k", "side"] ["claim"] (defScope (top 7)) := ⟨rfl, rfl, rfl, by decide +kernel, rfl, by decide +kernel, by decide +kernel⟩
theorem pl_parts_of : Plainly "parts_of" (top 7) ["claim"] := fun _ _ _ _ _ _ us hl => match us, hl with | [_], _ => rfl
theorem w_parts_of (t_parts_of : Has K mg "parts_of" (top 7)) {c_sides_told : List Dt → Sv → Rs Dt} (g_sides_told : FN P w K mg base k "sides_told" ["value"] c_sides_told) (n_tuple : mg "tuple" = none) :
    FN P w K mg base (k + 1) "parts_of" ["claim"] (callS 6 (m_parts_of c_sides_told)) := by
  refine FN.of t_parts_of sc_parts_of pl_parts_of (m_parts_of c_sides_told) fun f cdv A outer s H E hr => ?_
  have tk : Takes (cxOf (L2.CX P w) P w K mg base ["claim", "found", "line", "one", "k", "side"] "parts_of" (defScope (top 7)) f cdv A outer s H E) (fun c d _ H => E c d H) := takes_of rfl rfl rfl rfl
  have hc : (cxOf (L2.CX P w) P w K mg base ["claim", "found", "line", "one", "k", "side"] "parts_of" (defScope (top 7)) f cdv A outer s H E).calm = true := rfl
  have hN : (["claim", "found", "line", "one", "k", "side"] : List Str).Nodup := (sc_parts_of).nd
  have hp : PassesOwn (model P w) (cxOf (L2.CX P w) P w K mg base ["claim", "found", "line", "one", "k", "side"] "parts_of" (defScope (top 7)) f cdv A outer s H E).A (cxOf (L2.CX P w) P w K mg base ["claim", "found", "line", "one", "k", "side"] "parts_of" (defScope (top 7)) f cdv A outer s H E).env (cxOf (L2.CX P w) P w K mg base ["claim", "found", "line", "one", "k", "side"] "parts_of" (defScope (top 7)) f cdv A outer s H E).xe := PassesOwn.leaving
  exact dss_cons (ds_par 1 2 hc ((dl_lst (da_nil)).x) ((dl_lst (da_cons (de_name 0) (da_nil))).x) hN)
    (dss_cons (ds_while (dt_cmp (o_ne hr) (do_name 2) ((dl_lst (da_nil)).o) (by rfl)) (dss_cons (ds_pop 2 (dg_name 3 hN))
    (dss_cons (ds_append 1 (de_name 3))
    (dss_one (ds_extend 2 ((dl_comp [("k", 4), ("side", 5)] (dic_seq ((de_fn (ps := ["value"]) g_sides_told hr (by omega) tk (da_cons (de_name 3) (da_nil))).o)) hc hN (blk_mk (by kernel_rfl)) (fun _ _ _ _ _ => dg_tup hc (dgs_cons (dg_name 4 hN) (dgs_cons (dg_name 5 hN) (dgs_nil)))) (fun _ _ _ _ _ => dts_nil) (fun _ _ _ _ _ => de_name 5)).v))))) hp)
    (dss_one (ds_ret (de_ct c_tuple (by rfl) n_tuple b_tuple (dao_cons ((dl_rev (do_name 1)).o) (dao_nil))))))
def m_so_not : Ss :=
  sRet (vTup (aCons (vC (.str "so")) (aCons (vName 0) (aCons (vC k_NOUGHT) (aNil)))))
theorem sc_so_not : FnScope ["p"] ["p"] (defScope (top 10)) := ⟨rfl, rfl, rfl, by decide +kernel, rfl, by decide +kernel, by decide +kernel⟩
theorem pl_so_not : Plainly "so_not" (top 10) ["p"] := fun _ _ _ _ _ _ us hl => match us, hl with | [_], _ => rfl
theorem w_so_not (t_so_not : Has K mg "so_not" (top 10)) (g_NOUGHT : GlC K mg "NOUGHT" k_NOUGHT) :
    FN P w K mg base (k + 1) "so_not" ["p"] (callS 1 (m_so_not)) := by
  refine FN.of t_so_not sc_so_not pl_so_not (m_so_not) fun f cdv A outer s H E hr => ?_
  have tk : Takes (cxOf (L2.CX P w) P w K mg base ["p"] "so_not" (defScope (top 10)) f cdv A outer s H E) (fun c d _ H => E c d H) := takes_of rfl rfl rfl rfl
  have hc : (cxOf (L2.CX P w) P w K mg base ["p"] "so_not" (defScope (top 10)) f cdv A outer s H E).calm = true := rfl
  have hN : (["p"] : List Str).Nodup := (sc_so_not).nd
  exact dss_one (ds_ret (de_tup (da_cons (de_str) (da_cons (de_name 0) (da_cons (de_top g_NOUGHT) (da_nil))))))
def m_so_or : Ss :=
  sRet (vTup (aCons (vC (.str "so")) (aCons (vTup (aCons (vC (.str "so")) (aCons (vName 0) (aCons (vName 1) (aNil))))) (aCons (vName 1) (aNil)))))
theorem sc_so_or : FnScope ["p", "q"] ["p", "q"] (defScope (top 11)) := ⟨rfl, rfl, rfl, by decide +kernel, rfl, by decide +kernel, by decide +kernel⟩
theorem pl_so_or : Plainly "so_or" (top 11) ["p", "q"] := fun _ _ _ _ _ _ us hl => match us, hl with | [_, _], _ => rfl
theorem w_so_or (t_so_or : Has K mg "so_or" (top 11)) :
    FN P w K mg base (k + 1) "so_or" ["p", "q"] (callS 2 (m_so_or)) := by
  refine FN.of t_so_or sc_so_or pl_so_or (m_so_or) fun f cdv A outer s H E hr => ?_
  have tk : Takes (cxOf (L2.CX P w) P w K mg base ["p", "q"] "so_or" (defScope (top 11)) f cdv A outer s H E) (fun c d _ H => E c d H) := takes_of rfl rfl rfl rfl
  have hc : (cxOf (L2.CX P w) P w K mg base ["p", "q"] "so_or" (defScope (top 11)) f cdv A outer s H E).calm = true := rfl
  have hN : (["p", "q"] : List Str).Nodup := (sc_so_or).nd
  exact dss_one (ds_ret (de_tup (da_cons (de_str) (da_cons (de_tup (da_cons (de_str) (da_cons (de_name 0) (da_cons (de_name 1) (da_nil))))) (da_cons (de_name 1) (da_nil))))))
def m_so_both (c_so_not : List Dt → Sv → Rs Dt) : Ss :=
  sRet (vCall 1 c_so_not (aCons (vTup (aCons (vC (.str "so")) (aCons (vName 0) (aCons (vCall 1 c_so_not (aCons (vName 1) (aNil))) (aNil))))) (aNil)))
theorem sc_so_both : FnScope ["p", "q"] ["p", "q"] (defScope (top 12)) := ⟨rfl, rfl, rfl, by decide +kernel, rfl, by decide +kernel, by decide +kernel⟩
theorem pl_so_both : Plainly "so_both" (top 12) ["p", "q"] := fun _ _ _ _ _ _ us hl => match us, hl with | [_, _], _ => rfl
theorem w_so_both (t_so_both : Has K mg "so_both" (top 12)) {c_so_not : List Dt → Sv → Rs Dt} (g_so_not : FN P w K mg base k "so_not" ["p"] c_so_not) :
    FN P w K mg base (k + 1) "so_both" ["p", "q"] (callS 2 (m_so_both c_so_not)) := by
  refine FN.of t_so_both sc_so_both pl_so_both (m_so_both c_so_not) fun f cdv A outer s H E hr => ?_
  have tk : Takes (cxOf (L2.CX P w) P w K mg base ["p", "q"] "so_both" (defScope (top 12)) f cdv A outer s H E) (fun c d _ H => E c d H) := takes_of rfl rfl rfl rfl
  have hc : (cxOf (L2.CX P w) P w K mg base ["p", "q"] "so_both" (defScope (top 12)) f cdv A outer s H E).calm = true := rfl
  have hN : (["p", "q"] : List Str).Nodup := (sc_so_both).nd
  exact dss_one (ds_ret (de_fn (ps := ["p"]) g_so_not hr (by omega) tk (da_cons (de_tup (da_cons (de_str) (da_cons (de_name 0) (da_cons (de_fn (ps := ["p"]) g_so_not hr (by omega) tk (da_cons (de_name 1) (da_nil))) (da_nil))))) (da_nil))))
def m_so_two (c_so_not : List Dt → Sv → Rs Dt) (c_so_both : List Dt → Sv → Rs Dt) (c_so_or : List Dt → Sv → Rs Dt) : Ss :=
  sSeq (sIf (tB (vOp gEq (vName 0) (vC (.str "so")))) (sRet (vTup (aCons (vC (.str "so")) (aCons (vName 1) (aCons (vName 2) (aNil)))))) (sNil)) (sSeq (sIf (tB (vOp gEq (vName 0) (vC (.str "or")))) (sRet (vCall 2 c_so_or (aCons (vName 1) (aCons (vName 2) (aNil))))) (sNil)) (sSeq (sIf (tB (vOp gEq (vName 0) (vC (.str "and")))) (sRet (vCall 1 c_so_not (aCons (vCall 2 c_so_or (aCons (vCall 1 c_so_not (aCons (vName 1) (aNil))) (aCons (vCall 1 c_so_not (aCons (vName 2) (aNil))) (aNil)))) (aNil)))) (sNil)) (sSeq (sIf (tB (vOp gEq (vName 0) (vC (.str "both")))) (sRet (vCall 2 c_so_both (aCons (vName 1) (aCons (vName 2) (aNil))))) (sNil)) (sSeq (sIf (tB (vOp gEq (vName 0) (vC (.str "with")))) (sRet (vTup (aCons (vC (.str "so")) (aCons (vCall 1 c_so_not (aCons (vName 1) (aNil))) (aCons (vName 2) (aNil)))))) (sNil)) (sRet (vIf (tB (vOp gEq (vName 0) (vC (.str "less")))) (vCall 1 c_so_not (aCons (vTup (aCons (vC (.str "so")) (aCons (vName 1) (aCons (vName 2) (aNil))))) (aNil))) (vCall 2 c_so_both (aCons (vTup (aCons (vC (.str "so")) (aCons (vName 1) (aCons (vName 2) (aNil))))) (aCons (vTup (aCons (vC (.str "so")) (aCons (vName 2) (aCons (vName 1) (aNil))))) (aNil))))))))))
theorem sc_so_two : FnScope ["word", "p", "q"] ["word", "p", "q"] (defScope (top 13)) := ⟨rfl, rfl, rfl, by decide +kernel, rfl, by decide +kernel, by decide +kernel⟩
theorem pl_so_two : Plainly "so_two" (top 13) ["word", "p", "q"] := fun _ _ _ _ _ _ us hl => match us, hl with | [_, _, _], _ => rfl
theorem w_so_two (t_so_two : Has K mg "so_two" (top 13)) {c_so_not : List Dt → Sv → Rs Dt} (g_so_not : FN P w K mg base k "so_not" ["p"] c_so_not) {c_so_both : List Dt → Sv → Rs Dt} (g_so_both : FN P w K mg base k "so_both" ["p", "q"] c_so_both) {c_so_or : List Dt → Sv → Rs Dt} (g_so_or : FN P w K mg base k "so_or" ["p", "q"] c_so_or) :
    FN P w K mg base (k + 1) "so_two" ["word", "p", "q"] (callS 3 (m_so_two c_so_not c_so_both c_so_or)) := by
  refine FN.of t_so_two sc_so_two pl_so_two (m_so_two c_so_not c_so_both c_so_or) fun f cdv A outer s H E hr => ?_
  have tk : Takes (cxOf (L2.CX P w) P w K mg base ["word", "p", "q"] "so_two" (defScope (top 13)) f cdv A outer s H E) (fun c d _ H => E c d H) := takes_of rfl rfl rfl rfl
  have hc : (cxOf (L2.CX P w) P w K mg base ["word", "p", "q"] "so_two" (defScope (top 13)) f cdv A outer s H E).calm = true := rfl
  have hN : (["word", "p", "q"] : List Str).Nodup := (sc_so_two).nd
  exact dss_cons (ds_if (dt_cmp (o_eq hr) ((de_name 0).o) ((de_str).o) (by rfl)) (dss_one (ds_ret (de_tup (da_cons (de_str) (da_cons (de_name 1) (da_cons (de_name 2) (da_nil))))))) (dss_nil))
    (dss_cons (ds_if (dt_cmp (o_eq hr) ((de_name 0).o) ((de_str).o) (by rfl)) (dss_one (ds_ret (de_fn (ps := ["p", "q"]) g_so_or hr (by omega) tk (da_cons (de_name 1) (da_cons (de_name 2) (da_nil)))))) (dss_nil))
    (dss_cons (ds_if (dt_cmp (o_eq hr) ((de_name 0).o) ((de_str).o) (by rfl)) (dss_one (ds_ret (de_fn (ps := ["p"]) g_so_not hr (by omega) tk (da_cons (de_fn (ps := ["p", "q"]) g_so_or hr (by omega) tk (da_cons (de_fn (ps := ["p"]) g_so_not hr (by omega) tk (da_cons (de_name 1) (da_nil))) (da_cons (de_fn (ps := ["p"]) g_so_not hr (by omega) tk (da_cons (de_name 2) (da_nil))) (da_nil)))) (da_nil))))) (dss_nil))
    (dss_cons (ds_if (dt_cmp (o_eq hr) ((de_name 0).o) ((de_str).o) (by rfl)) (dss_one (ds_ret (de_fn (ps := ["p", "q"]) g_so_both hr (by omega) tk (da_cons (de_name 1) (da_cons (de_name 2) (da_nil)))))) (dss_nil))
    (dss_cons (ds_if (dt_cmp (o_eq hr) ((de_name 0).o) ((de_str).o) (by rfl)) (dss_one (ds_ret (de_tup (da_cons (de_str) (da_cons (de_fn (ps := ["p"]) g_so_not hr (by omega) tk (da_cons (de_name 1) (da_nil))) (da_cons (de_name 2) (da_nil))))))) (dss_nil))
    (dss_one (ds_ret (de_if (dt_cmp (o_eq hr) ((de_name 0).o) ((de_str).o) (by rfl)) (de_fn (ps := ["p"]) g_so_not hr (by omega) tk (da_cons (de_tup (da_cons (de_str) (da_cons (de_name 1) (da_cons (de_name 2) (da_nil))))) (da_nil))) (de_fn (ps := ["p", "q"]) g_so_both hr (by omega) tk (da_cons (de_tup (da_cons (de_str) (da_cons (de_name 1) (da_cons (de_name 2) (da_nil))))) (da_cons (de_tup (da_cons (de_str) (da_cons (de_name 2) (da_cons (de_name 1) (da_nil))))) (da_nil)))))))))))
def m_with_so : Ss :=
  sRet (vTup (aCons (vC (.str "with")) (aCons (vTup (aCons (vC (.str "not")) (aCons (vName 0) (aNil)))) (aCons (vName 1) (aNil)))))
theorem sc_with_so : FnScope ["p", "q"] ["p", "q"] (defScope (top 14)) := ⟨rfl, rfl, rfl, by decide +kernel, rfl, by decide +kernel, by decide +kernel⟩
theorem pl_with_so : Plainly "with_so" (top 14) ["p", "q"] := fun _ _ _ _ _ _ us hl => match us, hl with | [_, _], _ => rfl
theorem w_with_so (t_with_so : Has K mg "with_so" (top 14)) :
    FN P w K mg base (k + 1) "with_so" ["p", "q"] (callS 2 (m_with_so)) := by
  refine FN.of t_with_so sc_with_so pl_with_so (m_with_so) fun f cdv A outer s H E hr => ?_
  have tk : Takes (cxOf (L2.CX P w) P w K mg base ["p", "q"] "with_so" (defScope (top 14)) f cdv A outer s H E) (fun c d _ H => E c d H) := takes_of rfl rfl rfl rfl
  have hc : (cxOf (L2.CX P w) P w K mg base ["p", "q"] "with_so" (defScope (top 14)) f cdv A outer s H E).calm = true := rfl
  have hN : (["p", "q"] : List Str).Nodup := (sc_with_so).nd
  exact dss_one (ds_ret (de_tup (da_cons (de_str) (da_cons (de_tup (da_cons (de_str) (da_cons (de_name 0) (da_nil)))) (da_cons (de_name 1) (da_nil))))))
def m_with_both : Ss :=
  sRet (vTup (aCons (vC (.str "not")) (aCons (vTup (aCons (vC (.str "with")) (aCons (vTup (aCons (vC (.str "not")) (aCons (vName 0) (aNil)))) (aCons (vTup (aCons (vC (.str "not")) (aCons (vName 1) (aNil)))) (aNil))))) (aNil))))
theorem sc_with_both : FnScope ["p", "q"] ["p", "q"] (defScope (top 15)) := ⟨rfl, rfl, rfl, by decide +kernel, rfl, by decide +kernel, by decide +kernel⟩
theorem pl_with_both : Plainly "with_both" (top 15) ["p", "q"] := fun _ _ _ _ _ _ us hl => match us, hl with | [_, _], _ => rfl
theorem w_with_both (t_with_both : Has K mg "with_both" (top 15)) :
    FN P w K mg base (k + 1) "with_both" ["p", "q"] (callS 2 (m_with_both)) := by
  refine FN.of t_with_both sc_with_both pl_with_both (m_with_both) fun f cdv A outer s H E hr => ?_
  have tk : Takes (cxOf (L2.CX P w) P w K mg base ["p", "q"] "with_both" (defScope (top 15)) f cdv A outer s H E) (fun c d _ H => E c d H) := takes_of rfl rfl rfl rfl
  have hc : (cxOf (L2.CX P w) P w K mg base ["p", "q"] "with_both" (defScope (top 15)) f cdv A outer s H E).calm = true := rfl
  have hN : (["p", "q"] : List Str).Nodup := (sc_with_both).nd
  exact dss_one (ds_ret (de_tup (da_cons (de_str) (da_cons (de_tup (da_cons (de_str) (da_cons (de_tup (da_cons (de_str) (da_cons (de_name 0) (da_nil)))) (da_cons (de_tup (da_cons (de_str) (da_cons (de_name 1) (da_nil)))) (da_nil))))) (da_nil)))))
def m_with_less (c_with_both : List Dt → Sv → Rs Dt) : Ss :=
  sRet (vCall 2 c_with_both (aCons (vName 0) (aCons (vTup (aCons (vC (.str "not")) (aCons (vName 1) (aNil)))) (aNil))))
theorem sc_with_less : FnScope ["p", "q"] ["p", "q"] (defScope (top 16)) := ⟨rfl, rfl, rfl, by decide +kernel, rfl, by decide +kernel, by decide +kernel⟩
theorem pl_with_less : Plainly "with_less" (top 16) ["p", "q"] := fun _ _ _ _ _ _ us hl => match us, hl with | [_, _], _ => rfl
theorem w_with_less (t_with_less : Has K mg "with_less" (top 16)) {c_with_both : List Dt → Sv → Rs Dt} (g_with_both : FN P w K mg base k "with_both" ["p", "q"] c_with_both) :
    FN P w K mg base (k + 1) "with_less" ["p", "q"] (callS 2 (m_with_less c_with_both)) := by
  refine FN.of t_with_less sc_with_less pl_with_less (m_with_less c_with_both) fun f cdv A outer s H E hr => ?_
  have tk : Takes (cxOf (L2.CX P w) P w K mg base ["p", "q"] "with_less" (defScope (top 16)) f cdv A outer s H E) (fun c d _ H => E c d H) := takes_of rfl rfl rfl rfl
  have hc : (cxOf (L2.CX P w) P w K mg base ["p", "q"] "with_less" (defScope (top 16)) f cdv A outer s H E).calm = true := rfl
  have hN : (["p", "q"] : List Str).Nodup := (sc_with_less).nd
  exact dss_one (ds_ret (de_fn (ps := ["p", "q"]) g_with_both hr (by omega) tk (da_cons (de_name 0) (da_cons (de_tup (da_cons (de_str) (da_cons (de_name 1) (da_nil)))) (da_nil)))))
def m_with_or (c_with_less : List Dt → Sv → Rs Dt) : Ss :=
  sRet (vTup (aCons (vC (.str "with")) (aCons (vCall 2 c_with_less (aCons (vName 0) (aCons (vName 1) (aNil)))) (aCons (vName 1) (aNil)))))
theorem sc_with_or : FnScope ["p", "q"] ["p", "q"] (defScope (top 17)) := ⟨rfl, rfl, rfl, by decide +kernel, rfl, by decide +kernel, by decide +kernel⟩
theorem pl_with_or : Plainly "with_or" (top 17) ["p", "q"] := fun _ _ _ _ _ _ us hl => match us, hl with | [_, _], _ => rfl
theorem w_with_or (t_with_or : Has K mg "with_or" (top 17)) {c_with_less : List Dt → Sv → Rs Dt} (g_with_less : FN P w K mg base k "with_less" ["p", "q"] c_with_less) :
    FN P w K mg base (k + 1) "with_or" ["p", "q"] (callS 2 (m_with_or c_with_less)) := by
  refine FN.of t_with_or sc_with_or pl_with_or (m_with_or c_with_less) fun f cdv A outer s H E hr => ?_
  have tk : Takes (cxOf (L2.CX P w) P w K mg base ["p", "q"] "with_or" (defScope (top 17)) f cdv A outer s H E) (fun c d _ H => E c d H) := takes_of rfl rfl rfl rfl
  have hc : (cxOf (L2.CX P w) P w K mg base ["p", "q"] "with_or" (defScope (top 17)) f cdv A outer s H E).calm = true := rfl
  have hN : (["p", "q"] : List Str).Nodup := (sc_with_or).nd
  exact dss_one (ds_ret (de_tup (da_cons (de_str) (da_cons (de_fn (ps := ["p", "q"]) g_with_less hr (by omega) tk (da_cons (de_name 0) (da_cons (de_name 1) (da_nil)))) (da_cons (de_name 1) (da_nil))))))
def m_with_two (c_with_less : List Dt → Sv → Rs Dt) (c_with_or : List Dt → Sv → Rs Dt) (c_with_both : List Dt → Sv → Rs Dt) (c_with_so : List Dt → Sv → Rs Dt) : Ss :=
  sSeq (sIf (tB (vOp gEq (vName 0) (vC (.str "with")))) (sRet (vTup (aCons (vC (.str "with")) (aCons (vName 1) (aCons (vName 2) (aNil)))))) (sNil)) (sSeq (sIf (tB (vOp gEq (vName 0) (vC (.str "so")))) (sRet (vCall 2 c_with_so (aCons (vName 1) (aCons (vName 2) (aNil))))) (sNil)) (sSeq (sIf (tB (vOp gEq (vName 0) (vC (.str "both")))) (sRet (vCall 2 c_with_both (aCons (vName 1) (aCons (vName 2) (aNil))))) (sNil)) (sSeq (sIf (tB (vOp gEq (vName 0) (vC (.str "less")))) (sRet (vCall 2 c_with_less (aCons (vName 1) (aCons (vName 2) (aNil))))) (sNil)) (sSeq (sIf (tB (vOp gEq (vName 0) (vC (.str "or")))) (sRet (vCall 2 c_with_or (aCons (vName 1) (aCons (vName 2) (aNil))))) (sNil)) (sSeq (sIf (tB (vOp gEq (vName 0) (vC (.str "and")))) (sRet (vTup (aCons (vC (.str "not")) (aCons (vCall 2 c_with_or (aCons (vTup (aCons (vC (.str "not")) (aCons (vName 1) (aNil)))) (aCons (vTup (aCons (vC (.str "not")) (aCons (vName 2) (aNil)))) (aNil)))) (aNil))))) (sNil)) (sRet (vTup (aCons (vC (.str "not")) (aCons (vTup (aCons (vC (.str "with")) (aCons (vCall 2 c_with_less (aCons (vName 1) (aCons (vName 2) (aNil)))) (aCons (vCall 2 c_with_less (aCons (vName 2) (aCons (vName 1) (aNil)))) (aNil))))) (aNil))))))))))
theorem sc_with_two : FnScope ["word", "p", "q"] ["word", "p", "q"] (defScope (top 18)) := ⟨rfl, rfl, rfl, by decide +kernel, rfl, by decide +kernel, by decide +kernel⟩
theorem pl_with_two : Plainly "with_two" (top 18) ["word", "p", "q"] := fun _ _ _ _ _ _ us hl => match us, hl with | [_, _, _], _ => rfl
theorem w_with_two (t_with_two : Has K mg "with_two" (top 18)) {c_with_less : List Dt → Sv → Rs Dt} (g_with_less : FN P w K mg base k "with_less" ["p", "q"] c_with_less) {c_with_or : List Dt → Sv → Rs Dt} (g_with_or : FN P w K mg base k "with_or" ["p", "q"] c_with_or) {c_with_both : List Dt → Sv → Rs Dt} (g_with_both : FN P w K mg base k "with_both" ["p", "q"] c_with_both) {c_with_so : List Dt → Sv → Rs Dt} (g_with_so : FN P w K mg base k "with_so" ["p", "q"] c_with_so) :
    FN P w K mg base (k + 1) "with_two" ["word", "p", "q"] (callS 3 (m_with_two c_with_less c_with_or c_with_both c_with_so)) := by
  refine FN.of t_with_two sc_with_two pl_with_two (m_with_two c_with_less c_with_or c_with_both c_with_so) fun f cdv A outer s H E hr => ?_
  have tk : Takes (cxOf (L2.CX P w) P w K mg base ["word", "p", "q"] "with_two" (defScope (top 18)) f cdv A outer s H E) (fun c d _ H => E c d H) := takes_of rfl rfl rfl rfl
  have hc : (cxOf (L2.CX P w) P w K mg base ["word", "p", "q"] "with_two" (defScope (top 18)) f cdv A outer s H E).calm = true := rfl
  have hN : (["word", "p", "q"] : List Str).Nodup := (sc_with_two).nd
  exact dss_cons (ds_if (dt_cmp (o_eq hr) ((de_name 0).o) ((de_str).o) (by rfl)) (dss_one (ds_ret (de_tup (da_cons (de_str) (da_cons (de_name 1) (da_cons (de_name 2) (da_nil))))))) (dss_nil))
    (dss_cons (ds_if (dt_cmp (o_eq hr) ((de_name 0).o) ((de_str).o) (by rfl)) (dss_one (ds_ret (de_fn (ps := ["p", "q"]) g_with_so hr (by omega) tk (da_cons (de_name 1) (da_cons (de_name 2) (da_nil)))))) (dss_nil))
    (dss_cons (ds_if (dt_cmp (o_eq hr) ((de_name 0).o) ((de_str).o) (by rfl)) (dss_one (ds_ret (de_fn (ps := ["p", "q"]) g_with_both hr (by omega) tk (da_cons (de_name 1) (da_cons (de_name 2) (da_nil)))))) (dss_nil))
    (dss_cons (ds_if (dt_cmp (o_eq hr) ((de_name 0).o) ((de_str).o) (by rfl)) (dss_one (ds_ret (de_fn (ps := ["p", "q"]) g_with_less hr (by omega) tk (da_cons (de_name 1) (da_cons (de_name 2) (da_nil)))))) (dss_nil))
    (dss_cons (ds_if (dt_cmp (o_eq hr) ((de_name 0).o) ((de_str).o) (by rfl)) (dss_one (ds_ret (de_fn (ps := ["p", "q"]) g_with_or hr (by omega) tk (da_cons (de_name 1) (da_cons (de_name 2) (da_nil)))))) (dss_nil))
    (dss_cons (ds_if (dt_cmp (o_eq hr) ((de_name 0).o) ((de_str).o) (by rfl)) (dss_one (ds_ret (de_tup (da_cons (de_str) (da_cons (de_fn (ps := ["p", "q"]) g_with_or hr (by omega) tk (da_cons (de_tup (da_cons (de_str) (da_cons (de_name 1) (da_nil)))) (da_cons (de_tup (da_cons (de_str) (da_cons (de_name 2) (da_nil)))) (da_nil)))) (da_nil)))))) (dss_nil))
    (dss_one (ds_ret (de_tup (da_cons (de_str) (da_cons (de_tup (da_cons (de_str) (da_cons (de_fn (ps := ["p", "q"]) g_with_less hr (by omega) tk (da_cons (de_name 1) (da_cons (de_name 2) (da_nil)))) (da_cons (de_fn (ps := ["p", "q"]) g_with_less hr (by omega) tk (da_cons (de_name 2) (da_cons (de_name 1) (da_nil)))) (da_nil))))) (da_nil)))))))))))
def m_form_of_part (c_so_two : List Dt → Sv → Rs Dt) (c_with_two : List Dt → Sv → Rs Dt) (c_so_not : List Dt → Sv → Rs Dt) : Ss :=
  sSeq (sIf (tB (vOp gEq (vOp gIx (vName 0) (vC (.int 0))) (vC (.str "one")))) (sRet (vIf (tTru' (vName 2)) (vCall 1 c_so_not (aCons (vC k_NOUGHT) (aNil))) (vTup (aCons (vC (.str "not")) (aCons (vC k_NOUGHT) (aNil)))))) (sNil)) (sSeq (sIf (tB (vOp gEq (vOp gIx (vName 0) (vC (.int 0))) (vC (.str "not")))) (sRet (vIf (tTru' (vName 2)) (vCall 1 c_so_not (aCons (vOp gIx (vName 1) (vC (.int 0))) (aNil))) (vTup (aCons (vC (.str "not")) (aCons (vOp gIx (vName 1) (vC (.int 0))) (aNil)))))) (sNil)) (sSeq (sIf (tB (vOp gInS (vOp gIx (vName 0) (vC (.int 0))) (vTup (aCons (vC (.str "letter")) (aCons (vC (.str "nought")) (aNil)))))) (sRet (vName 0)) (sNil)) (sRet (vIf (tTru' (vName 2)) (vCall 3 c_so_two (aCons (vOp gIx (vName 0) (vC (.int 0))) (aCons (vOp gIx (vName 1) (vC (.int 0))) (aCons (vOp gIx (vName 1) (vC (.int 1))) (aNil))))) (vCall 3 c_with_two (aCons (vOp gIx (vName 0) (vC (.int 0))) (aCons (vOp gIx (vName 1) (vC (.int 0))) (aCons (vOp gIx (vName 1) (vC (.int 1))) (aNil)))))))))
theorem sc_form_of_part : FnScope ["one", "sides", "is_so"] ["one", "sides", "is_so"] (defScope (top 19)) := ⟨rfl, rfl, rfl, by decide +kernel, rfl, by decide +kernel, by decide +kernel⟩
theorem pl_form_of_part : Plainly "form_of_part" (top 19) ["one", "sides", "is_so"] := fun _ _ _ _ _ _ us hl => match us, hl with | [_, _, _], _ => rfl
theorem w_form_of_part (t_form_of_part : Has K mg "form_of_part" (top 19)) {c_so_two : List Dt → Sv → Rs Dt} (g_so_two : FN P w K mg base k "so_two" ["word", "p", "q"] c_so_two) {c_with_two : List Dt → Sv → Rs Dt} (g_with_two : FN P w K mg base k "with_two" ["word", "p", "q"] c_with_two) {c_so_not : List Dt → Sv → Rs Dt} (g_so_not : FN P w K mg base k "so_not" ["p"] c_so_not) (g_NOUGHT : GlC K mg "NOUGHT" k_NOUGHT) :
    FN P w K mg base (k + 1) "form_of_part" ["one", "sides", "is_so"] (callS 3 (m_form_of_part c_so_two c_with_two c_so_not)) := by
  refine FN.of t_form_of_part sc_form_of_part pl_form_of_part (m_form_of_part c_so_two c_with_two c_so_not) fun f cdv A outer s H E hr => ?_
  have tk : Takes (cxOf (L2.CX P w) P w K mg base ["one", "sides", "is_so"] "form_of_part" (defScope (top 19)) f cdv A outer s H E) (fun c d _ H => E c d H) := takes_of rfl rfl rfl rfl
  have hc : (cxOf (L2.CX P w) P w K mg base ["one", "sides", "is_so"] "form_of_part" (defScope (top 19)) f cdv A outer s H E).calm = true := rfl
  have hN : (["one", "sides", "is_so"] : List Str).Nodup := (sc_form_of_part).nd
  exact dss_cons (ds_if (dt_cmp (o_eq hr) ((de_ix hr ((de_name 0).o) ((de_int).o)).o) ((de_str).o) (by rfl)) (dss_one (ds_ret (de_if (dt_truth ((de_name 2).o)) (de_fn (ps := ["p"]) g_so_not hr (by omega) tk (da_cons (de_top g_NOUGHT) (da_nil))) (de_tup (da_cons (de_str) (da_cons (de_top g_NOUGHT) (da_nil))))))) (dss_nil))
    (dss_cons (ds_if (dt_cmp (o_eq hr) ((de_ix hr ((de_name 0).o) ((de_int).o)).o) ((de_str).o) (by rfl)) (dss_one (ds_ret (de_if (dt_truth ((de_name 2).o)) (de_fn (ps := ["p"]) g_so_not hr (by omega) tk (da_cons (de_ix hr ((de_name 1).o) ((de_int).o)) (da_nil))) (de_tup (da_cons (de_str) (da_cons (de_ix hr ((de_name 1).o) ((de_int).o)) (da_nil))))))) (dss_nil))
    (dss_cons (ds_if (dt_cmp (o_in hr) ((de_ix hr ((de_name 0).o) ((de_int).o)).o) ((de_tup (da_cons (de_str) (da_cons (de_str) (da_nil)))).o) (by rfl)) (dss_one (ds_ret (de_name 0))) (dss_nil))
    (dss_one (ds_ret (de_if (dt_truth ((de_name 2).o)) (de_fn (ps := ["word", "p", "q"]) g_so_two hr (by omega) tk (da_cons (de_ix hr ((de_name 0).o) ((de_int).o)) (da_cons (de_ix hr ((de_name 1).o) ((de_int).o)) (da_cons (de_ix hr ((de_name 1).o) ((de_int).o)) (da_nil))))) (de_fn (ps := ["word", "p", "q"]) g_with_two hr (by omega) tk (da_cons (de_ix hr ((de_name 0).o) ((de_int).o)) (da_cons (de_ix hr ((de_name 1).o) ((de_int).o)) (da_cons (de_ix hr ((de_name 1).o) ((de_int).o)) (da_nil))))))))))
def m_copies_of_part (c_form_of_part : List Dt → Sv → Rs Dt) (c_parts_of : List Dt → Sv → Rs Dt) : Ss :=
  sSeq (sIf (tB (vOp gEq (vName 0) (vC (.int 0)))) (sRet (vCall 3 c_form_of_part (aCons (vTup (aCons (vC (.str "one")) (aNil))) (aCons (vL (lLst (aNil))) (aCons (vName 2) (aNil)))))) (sNil)) (sSeq (sPar 3 4 (xV (vName 1)) (xV (vCb gLen (aCons (vCall 1 c_parts_of (aCons (vName 1) (aNil))) (aNil))))) (sSeq (sIf (tB (vOp gGt (vOp gMulI (vName 0) (vName 4)) (vC (.int 1100)))) (sRaise "TooMany") (sNil)) (sSeq (sFor (iRng1 (aCons (vOp gSub (vName 0) (vC (.int 1))) (aNil))) (tgName 5) (sSet 3 (vCall 3 c_form_of_part (aCons (vTup (aCons (vC (.str "both")) (aNil))) (aCons (vL (lLst (aCons (vName 3) (aCons (vName 1) (aNil))))) (aCons (vName 2) (aNil))))))) (sRet (vName 3)))))
theorem sc_copies_of_part : FnScope ["k", "side", "is_so", "found", "nodes", "lap"] ["k", "side", "is_so"] (defScope (top 20)) := ⟨rfl, rfl, rfl, by decide +kernel, rfl, by decide +kernel, by decide +kernel⟩
theorem pl_copies_of_part : Plainly "copies_of_part" (top 20) ["k", "side", "is_so"] := fun _ _ _ _ _ _ us hl => match us, hl with | [_, _, _], _ => rfl
theorem w_copies_of_part (t_copies_of_part : Has K mg "copies_of_part" (top 20)) {c_form_of_part : List Dt → Sv → Rs Dt} (g_form_of_part : FN P w K mg base k "form_of_part" ["one", "sides", "is_so"] c_form_of_part) {c_parts_of : List Dt → Sv → Rs Dt} (g_parts_of : FN P w K mg base k "parts_of" ["claim"] c_parts_of) (n_range : mg "range" = none) (n_len : mg "len" = none) (x_TooMany : ExC K mg "TooMany") :
    FN P w K mg base (k + 1) "copies_of_part" ["k", "side", "is_so"] (callS 6 (m_copies_of_part c_form_of_part c_parts_of)) := by
  refine FN.of t_copies_of_part sc_copies_of_part pl_copies_of_part (m_copies_of_part c_form_of_part c_parts_of) fun f cdv A outer s H E hr => ?_
  have tk : Takes (cxOf (L2.CX P w) P w K mg base ["k", "side", "is_so", "found", "nodes", "lap"] "copies_of_part" (defScope (top 20)) f cdv A outer s H E) (fun c d _ H => E c d H) := takes_of rfl rfl rfl rfl
  have hc : (cxOf (L2.CX P w) P w K mg base ["k", "side", "is_so", "found", "nodes", "lap"] "copies_of_part" (defScope (top 20)) f cdv A outer s H E).calm = true := rfl
  have hN : (["k", "side", "is_so", "found", "nodes", "lap"] : List Str).Nodup := (sc_copies_of_part).nd
  have hp : PassesOwn (model P w) (cxOf (L2.CX P w) P w K mg base ["k", "side", "is_so", "found", "nodes", "lap"] "copies_of_part" (defScope (top 20)) f cdv A outer s H E).A (cxOf (L2.CX P w) P w K mg base ["k", "side", "is_so", "found", "nodes", "lap"] "copies_of_part" (defScope (top 20)) f cdv A outer s H E).env (cxOf (L2.CX P w) P w K mg base ["k", "side", "is_so", "found", "nodes", "lap"] "copies_of_part" (defScope (top 20)) f cdv A outer s H E).xe := PassesOwn.leaving
  exact dss_cons (ds_if (dt_cmp (o_eq hr) ((de_name 0).o) ((de_int).o) (by rfl)) (dss_one (ds_ret (de_fn (ps := ["one", "sides", "is_so"]) g_form_of_part hr (by omega) tk (da_cons (de_tup (da_cons (de_str) (da_nil))) (da_cons ((dl_lst (da_nil)).v) (da_cons (de_name 2) (da_nil))))))) (dss_nil))
    (dss_cons (ds_par 3 4 hc ((de_name 1).x) ((de_cb c_len (by rfl) n_len b_len (dao_cons ((de_fn (ps := ["claim"]) g_parts_of hr (by omega) tk (da_cons (de_name 1) (da_nil))).o) (dao_nil))).x) hN)
    (dss_cons (ds_if (dt_cmp o_gt ((de_op o_mulI ((de_name 0).o) ((de_name 4).o)).o) ((de_int).o) (by rfl)) (dss_one (ds_raise x_TooMany hc tk)) (dss_nil))
    (dss_cons (ds_for (dif_range1 (by rfl) n_range (da_cons (de_op o_sub ((de_name 0).o) ((de_int).o)) (da_nil))) (dg_name 5 hN) (dss_one (ds_set 3 (de_fn (ps := ["one", "sides", "is_so"]) g_form_of_part hr (by omega) tk (da_cons (de_tup (da_cons (de_str) (da_nil))) (da_cons ((dl_lst (da_cons (de_name 3) (da_cons (de_name 1) (da_nil)))).v) (da_cons (de_name 2) (da_nil))))) hN)) hp hc)
    (dss_one (ds_ret (de_name 3))))))
def m_form_of (c_parts_of : List Dt → Sv → Rs Dt) (c_copies_of_part : List Dt → Sv → Rs Dt) (c_form_of_part : List Dt → Sv → Rs Dt) : Ss :=
  sSeq (sSetO 2 (lLst (aNil))) (sSeq (sFor (iSeq (vCall 1 c_parts_of (aCons (vName 0) (aNil)))) (tgName 3) (sSeq (sSet 4 (vGet2 (vDict [(vC (.str "letter"), vC (.int 0)), (vC (.str "nought"), vC (.int 0)), (vC (.str "one"), vC (.int 0)), (vC (.str "not"), vC (.int 1)), (vC (.str "copies"), vC (.int 1))]) (vOp gIx (vName 3) (vC (.int 0))) (vC (.int 2)))) (sSeq (sPar 5 2 (xV (vL (lSl (oName 2) (pSome (vOp gSub (vCb gLen (aCons (oName 2) (aNil))) (vName 4))) (pNone)))) (xO (lSl (oName 2) (pNone) (pSome (vOp gSub (vCb gLen (aCons (oName 2) (aNil))) (vName 4)))))) (sSeq (sIf (tB (vOp gEq (vOp gIx (vName 3) (vC (.int 0))) (vC (.str "copies")))) (sAppend 2 (vCall 3 c_copies_of_part (aCons (vOp gIx (vName 3) (vC (.int 1))) (aCons (vOp gIx (vName 5) (vC (.int 0))) (aCons (vName 1) (aNil)))))) (sAppend 2 (vCall 3 c_form_of_part (aCons (vName 3) (aCons (vName 5) (aCons (vName 1) (aNil))))))) (sIf (tB (vOp gGt (vCb gLen (aCons (vCall 1 c_parts_of (aCons (vOp gIx (oName 2) (vUn gNeg (vC (.int 1)))) (aNil))) (aNil))) (vC (.int 1100)))) (sRaise "TooMany") (sNil)))))) (sRet (vOp gIx (oName 2) (vC (.int 0)))))
theorem sc_form_of : FnScope ["claim", "is_so", "told", "one", "many", "sides"] ["claim", "is_so"] (defScope (top 21)) := ⟨rfl, rfl, rfl, by decide +kernel, rfl, by decide +kernel, by decide +kernel⟩
theorem pl_form_of : Plainly "form_of" (top 21) ["claim", "is_so"] := fun _ _ _ _ _ _ us hl => match us, hl with | [_, _], _ => rfl
theorem w_form_of (t_form_of : Has K mg "form_of" (top 21)) {c_parts_of : List Dt → Sv → Rs Dt} (g_parts_of : FN P w K mg base k "parts_of" ["claim"] c_parts_of) {c_copies_of_part : List Dt → Sv → Rs Dt} (g_copies_of_part : FN P w K mg base k "copies_of_part" ["k", "side", "is_so"] c_copies_of_part) {c_form_of_part : List Dt → Sv → Rs Dt} (g_form_of_part : FN P w K mg base k "form_of_part" ["one", "sides", "is_so"] c_form_of_part) (n_len : mg "len" = none) (x_TooMany : ExC K mg "TooMany") :
    FN P w K mg base (k + 1) "form_of" ["claim", "is_so"] (callS 6 (m_form_of c_parts_of c_copies_of_part c_form_of_part)) := by
  refine FN.of t_form_of sc_form_of pl_form_of (m_form_of c_parts_of c_copies_of_part c_form_of_part) fun f cdv A outer s H E hr => ?_
  have tk : Takes (cxOf (L2.CX P w) P w K mg base ["claim", "is_so", "told", "one", "many", "sides"] "form_of" (defScope (top 21)) f cdv A outer s H E) (fun c d _ H => E c d H) := takes_of rfl rfl rfl rfl
  have hc : (cxOf (L2.CX P w) P w K mg base ["claim", "is_so", "told", "one", "many", "sides"] "form_of" (defScope (top 21)) f cdv A outer s H E).calm = true := rfl
  have hN : (["claim", "is_so", "told", "one", "many", "sides"] : List Str).Nodup := (sc_form_of).nd
  have hp : PassesOwn (model P w) (cxOf (L2.CX P w) P w K mg base ["claim", "is_so", "told", "one", "many", "sides"] "form_of" (defScope (top 21)) f cdv A outer s H E).A (cxOf (L2.CX P w) P w K mg base ["claim", "is_so", "told", "one", "many", "sides"] "form_of" (defScope (top 21)) f cdv A outer s H E).env (cxOf (L2.CX P w) P w K mg base ["claim", "is_so", "told", "one", "many", "sides"] "form_of" (defScope (top 21)) f cdv A outer s H E).xe := PassesOwn.leaving
  exact dss_cons (ds_setO 2 (dl_lst (da_nil)) hN)
    (dss_cons (ds_for (dif_seq (de_fn (ps := ["claim"]) g_parts_of hr (by omega) tk (da_cons (de_name 0) (da_nil)))) (dg_name 3 hN) (dss_cons (ds_set 4 (de_get2 hr (de_dict (.cons (de_str) (de_int) (.cons (de_str) (de_int) (.cons (de_str) (de_int) (.cons (de_str) (de_int) (.cons (de_str) (de_int) (.nil))))))) (de_ix hr ((de_name 3).o) ((de_int).o)) (de_int)) hN)
    (dss_cons (ds_par 5 2 hc (((dl_slice (do_name 2) (dp_some (de_op o_sub ((de_cb c_len (by rfl) n_len b_len (dao_cons (do_name 2) (dao_nil))).o) ((de_name 4).o))) (dp_none)).v).x) ((dl_slice (do_name 2) (dp_none) (dp_some (de_op o_sub ((de_cb c_len (by rfl) n_len b_len (dao_cons (do_name 2) (dao_nil))).o) ((de_name 4).o)))).x) hN)
    (dss_cons (ds_if (dt_cmp (o_eq hr) ((de_ix hr ((de_name 3).o) ((de_int).o)).o) ((de_str).o) (by rfl)) (dss_one (ds_append 2 (de_fn (ps := ["k", "side", "is_so"]) g_copies_of_part hr (by omega) tk (da_cons (de_ix hr ((de_name 3).o) ((de_int).o)) (da_cons (de_ix hr ((de_name 5).o) ((de_int).o)) (da_cons (de_name 1) (da_nil))))))) (dss_one (ds_append 2 (de_fn (ps := ["one", "sides", "is_so"]) g_form_of_part hr (by omega) tk (da_cons (de_name 3) (da_cons (de_name 5) (da_cons (de_name 1) (da_nil))))))))
    (dss_one (ds_if (dt_cmp o_gt ((de_cb c_len (by rfl) n_len b_len (dao_cons ((de_fn (ps := ["claim"]) g_parts_of hr (by omega) tk (da_cons (de_ix hr (do_name 2) ((de_neg (de_int)).o)) (da_nil))).o) (dao_nil))).o) ((de_int).o) (by rfl)) (dss_one (ds_raise x_TooMany hc tk)) (dss_nil)))))) hp hc)
    (dss_one (ds_ret (de_ix hr (do_name 2) ((de_int).o)))))
def m_so_form (c_form_of : List Dt → Sv → Rs Dt) : Ss :=
  sRet (vCall 2 c_form_of (aCons (vName 0) (aCons (vC (.bl true)) (aNil))))
theorem sc_so_form : FnScope ["claim"] ["claim"] (defScope (top 22)) := ⟨rfl, rfl, rfl, by decide +kernel, rfl, by decide +kernel, by decide +kernel⟩
theorem pl_so_form : Plainly "so_form" (top 22) ["claim"] := fun _ _ _ _ _ _ us hl => match us, hl with | [_], _ => rfl
theorem w_so_form (t_so_form : Has K mg "so_form" (top 22)) {c_form_of : List Dt → Sv → Rs Dt} (g_form_of : FN P w K mg base k "form_of" ["claim", "is_so"] c_form_of) :
    FN P w K mg base (k + 1) "so_form" ["claim"] (callS 1 (m_so_form c_form_of)) := by
  refine FN.of t_so_form sc_so_form pl_so_form (m_so_form c_form_of) fun f cdv A outer s H E hr => ?_
  have tk : Takes (cxOf (L2.CX P w) P w K mg base ["claim"] "so_form" (defScope (top 22)) f cdv A outer s H E) (fun c d _ H => E c d H) := takes_of rfl rfl rfl rfl
  have hc : (cxOf (L2.CX P w) P w K mg base ["claim"] "so_form" (defScope (top 22)) f cdv A outer s H E).calm = true := rfl
  have hN : (["claim"] : List Str).Nodup := (sc_so_form).nd
  exact dss_one (ds_ret (de_fn (ps := ["claim", "is_so"]) g_form_of hr (by omega) tk (da_cons (de_name 0) (da_cons (de_bl) (da_nil)))))
def m_with_form (c_form_of : List Dt → Sv → Rs Dt) : Ss :=
  sRet (vCall 2 c_form_of (aCons (vName 0) (aCons (vC (.bl false)) (aNil))))
theorem sc_with_form : FnScope ["claim"] ["claim"] (defScope (top 23)) := ⟨rfl, rfl, rfl, by decide +kernel, rfl, by decide +kernel, by decide +kernel⟩
theorem pl_with_form : Plainly "with_form" (top 23) ["claim"] := fun _ _ _ _ _ _ us hl => match us, hl with | [_], _ => rfl
theorem w_with_form (t_with_form : Has K mg "with_form" (top 23)) {c_form_of : List Dt → Sv → Rs Dt} (g_form_of : FN P w K mg base k "form_of" ["claim", "is_so"] c_form_of) :
    FN P w K mg base (k + 1) "with_form" ["claim"] (callS 1 (m_with_form c_form_of)) := by
  refine FN.of t_with_form sc_with_form pl_with_form (m_with_form c_form_of) fun f cdv A outer s H E hr => ?_
  have tk : Takes (cxOf (L2.CX P w) P w K mg base ["claim"] "with_form" (defScope (top 23)) f cdv A outer s H E) (fun c d _ H => E c d H) := takes_of rfl rfl rfl rfl
  have hc : (cxOf (L2.CX P w) P w K mg base ["claim"] "with_form" (defScope (top 23)) f cdv A outer s H E).calm = true := rfl
  have hN : (["claim"] : List Str).Nodup := (sc_with_form).nd
  exact dss_one (ds_ret (de_fn (ps := ["claim", "is_so"]) g_form_of hr (by omega) tk (da_cons (de_name 0) (da_cons (de_bl) (da_nil)))))
def m_lowest : Ss :=
  sSeq (sPar 2 3 (xV (vName 0)) (xV (vName 1))) (sSeq (sWhile (tB (vOp gGt (vName 3) (vC (.int 0)))) (sPar 2 3 (xV (vName 3)) (xV (vOp gMod (vName 2) (vName 3))))) (sRet (vTup (aCons (vOp gDiv (vName 0) (vName 2)) (aCons (vOp gDiv (vName 1) (vName 2)) (aNil))))))
theorem sc_lowest : FnScope ["p", "q", "a", "b"] ["p", "q"] (defScope (top 25)) := ⟨rfl, rfl, rfl, by decide +kernel, rfl, by decide +kernel, by decide +kernel⟩
theorem pl_lowest : Plainly "lowest" (top 25) ["p", "q"] := fun _ _ _ _ _ _ us hl => match us, hl with | [_, _], _ => rfl
theorem w_lowest (t_lowest : Has K mg "lowest" (top 25)) :
    FN P w K mg base (k + 1) "lowest" ["p", "q"] (callS 4 (m_lowest)) := by
  refine FN.of t_lowest sc_lowest pl_lowest (m_lowest) fun f cdv A outer s H E hr => ?_
  have tk : Takes (cxOf (L2.CX P w) P w K mg base ["p", "q", "a", "b"] "lowest" (defScope (top 25)) f cdv A outer s H E) (fun c d _ H => E c d H) := takes_of rfl rfl rfl rfl
  have hc : (cxOf (L2.CX P w) P w K mg base ["p", "q", "a", "b"] "lowest" (defScope (top 25)) f cdv A outer s H E).calm = true := rfl
  have hN : (["p", "q", "a", "b"] : List Str).Nodup := (sc_lowest).nd
  have hp : PassesOwn (model P w) (cxOf (L2.CX P w) P w K mg base ["p", "q", "a", "b"] "lowest" (defScope (top 25)) f cdv A outer s H E).A (cxOf (L2.CX P w) P w K mg base ["p", "q", "a", "b"] "lowest" (defScope (top 25)) f cdv A outer s H E).env (cxOf (L2.CX P w) P w K mg base ["p", "q", "a", "b"] "lowest" (defScope (top 25)) f cdv A outer s H E).xe := PassesOwn.leaving
  exact dss_cons (ds_par 2 3 hc ((de_name 0).x) ((de_name 1).x) hN)
    (dss_cons (ds_while (dt_cmp o_gt ((de_name 3).o) ((de_int).o) (by rfl)) (dss_one (ds_par 2 3 hc ((de_name 3).x) ((de_op o_mod ((de_name 2).o) ((de_name 3).o)).x) hN)) hp)
    (dss_one (ds_ret (de_tup (da_cons (de_op o_div ((de_name 0).o) ((de_name 2).o)) (da_cons (de_op o_div ((de_name 1).o) ((de_name 2).o)) (da_nil)))))))
def m_claim_nodes (c_parts_of : List Dt → Sv → Rs Dt) : Ss :=
  sRet (vCb gLen (aCons (vCall 1 c_parts_of (aCons (vName 0) (aNil))) (aNil)))
theorem sc_claim_nodes : FnScope ["claim"] ["claim"] (defScope (top 26)) := ⟨rfl, rfl, rfl, by decide +kernel, rfl, by decide +kernel, by decide +kernel⟩
theorem pl_claim_nodes : Plainly "claim_nodes" (top 26) ["claim"] := fun _ _ _ _ _ _ us hl => match us, hl with | [_], _ => rfl
theorem w_claim_nodes (t_claim_nodes : Has K mg "claim_nodes" (top 26)) {c_parts_of : List Dt → Sv → Rs Dt} (g_parts_of : FN P w K mg base k "parts_of" ["claim"] c_parts_of) (n_len : mg "len" = none) :
    FN P w K mg base (k + 1) "claim_nodes" ["claim"] (callS 1 (m_claim_nodes c_parts_of)) := by
  refine FN.of t_claim_nodes sc_claim_nodes pl_claim_nodes (m_claim_nodes c_parts_of) fun f cdv A outer s H E hr => ?_
  have tk : Takes (cxOf (L2.CX P w) P w K mg base ["claim"] "claim_nodes" (defScope (top 26)) f cdv A outer s H E) (fun c d _ H => E c d H) := takes_of rfl rfl rfl rfl
  have hc : (cxOf (L2.CX P w) P w K mg base ["claim"] "claim_nodes" (defScope (top 26)) f cdv A outer s H E).calm = true := rfl
  have hN : (["claim"] : List Str).Nodup := (sc_claim_nodes).nd
  exact dss_one (ds_ret (de_cb c_len (by rfl) n_len b_len (dao_cons ((de_fn (ps := ["claim"]) g_parts_of hr (by omega) tk (da_cons (de_name 0) (da_nil))).o) (dao_nil))))
def m_two_sided_number : Ss :=
  sDictUp 4 [(vC (.str "and"), vCb gMin (aCons (vName 2) (aCons (vName 3) (aNil)))), (vC (.str "or"), vCb gMax (aCons (vName 2) (aCons (vName 3) (aNil)))), (vC (.str "so"), vCb gMin (aCons (vName 1) (aCons (vOp gAdd (vOp gSub (vName 1) (vName 2)) (vName 3)) (aNil)))), (vC (.str "both"), vCb gMax (aCons (vC (.int 0)) (aCons (vOp gSub (vOp gAdd (vName 2) (vName 3)) (vName 1)) (aNil))))] [(vC (.str "with"), vCb gMin (aCons (vName 1) (aCons (vOp gAdd (vName 2) (vName 3)) (aNil)))), (vC (.str "less"), vCb gMax (aCons (vC (.int 0)) (aCons (vOp gSub (vName 2) (vName 3)) (aNil)))), (vC (.str "same"), vOp gSub (vName 1) (vCb gAbs (aCons (vOp gSub (vName 2) (vName 3)) (aNil))))] (vName 0)
theorem sc_two_sided_number : FnScope ["word", "q", "x", "y", "told"] ["word", "q", "x", "y"] (defScope (top 27)) := ⟨rfl, rfl, rfl, by decide +kernel, rfl, by decide +kernel, by decide +kernel⟩
theorem pl_two_sided_number : Plainly "two_sided_number" (top 27) ["word", "q", "x", "y"] := fun _ _ _ _ _ _ us hl => match us, hl with | [_, _, _, _], _ => rfl
theorem w_two_sided_number (t_two_sided_number : Has K mg "two_sided_number" (top 27)) (n_max : mg "max" = none) (n_min : mg "min" = none) (n_abs : mg "abs" = none) :
    FN P w K mg base (k + 1) "two_sided_number" ["word", "q", "x", "y"] (callS 5 (m_two_sided_number)) := by
  refine FN.of t_two_sided_number sc_two_sided_number pl_two_sided_number (m_two_sided_number) fun f cdv A outer s H E hr => ?_
  have tk : Takes (cxOf (L2.CX P w) P w K mg base ["word", "q", "x", "y", "told"] "two_sided_number" (defScope (top 27)) f cdv A outer s H E) (fun c d _ H => E c d H) := takes_of rfl rfl rfl rfl
  have hc : (cxOf (L2.CX P w) P w K mg base ["word", "q", "x", "y", "told"] "two_sided_number" (defScope (top 27)) f cdv A outer s H E).calm = true := rfl
  have hN : (["word", "q", "x", "y", "told"] : List Str).Nodup := (sc_two_sided_number).nd
  exact dss_dictup hr 4 (.cons (de_str) (de_cb (c_min hc) (by rfl) n_min b_min (dao_cons ((de_name 2).o) (dao_cons ((de_name 3).o) (dao_nil)))) (.cons (de_str) (de_cb (c_max hc) (by rfl) n_max b_max (dao_cons ((de_name 2).o) (dao_cons ((de_name 3).o) (dao_nil)))) (.cons (de_str) (de_cb (c_min hc) (by rfl) n_min b_min (dao_cons ((de_name 1).o) (dao_cons ((de_op o_add ((de_op o_sub ((de_name 1).o) ((de_name 2).o)).o) ((de_name 3).o)).o) (dao_nil)))) (.cons (de_str) (de_cb (c_max hc) (by rfl) n_max b_max (dao_cons ((de_int).o) (dao_cons ((de_op o_sub ((de_op o_add ((de_name 2).o) ((de_name 3).o)).o) ((de_name 1).o)).o) (dao_nil)))) (.nil))))) (.cons (de_str) (de_cb (c_min hc) (by rfl) n_min b_min (dao_cons ((de_name 1).o) (dao_cons ((de_op o_add ((de_name 2).o) ((de_name 3).o)).o) (dao_nil)))) (.cons (de_str) (de_cb (c_max hc) (by rfl) n_max b_max (dao_cons ((de_int).o) (dao_cons ((de_op o_sub ((de_name 2).o) ((de_name 3).o)).o) (dao_nil)))) (.cons (de_str) (de_op o_sub ((de_name 1).o) ((de_cb c_abs (by rfl) n_abs b_abs (dao_cons ((de_op o_sub ((de_name 2).o) ((de_name 3).o)).o) (dao_nil))).o)) (.nil)))) (de_name 0) hN
def m_own_number (c_two_sided_number : List Dt → Sv → Rs Dt) : Ss :=
  sSeq (sSet 4 (vOp gIx (vName 1) (vC (.int 0)))) (sSeq (sIf (tB (vOp gEq (vOp gIx (vName 2) (vC (.int 0))) (vC (.str "letter")))) (sRet (vOp gIx (vName 0) (vOp gIx (vName 2) (vC (.int 1))))) (sNil)) (sSeq (sIf (tB (vOp gInS (vOp gIx (vName 2) (vC (.int 0))) (vTup (aCons (vC (.str "nought")) (aCons (vC (.str "one")) (aNil)))))) (sRet (vIf (tB (vOp gEq (vOp gIx (vName 2) (vC (.int 0))) (vC (.str "nought")))) (vC (.int 0)) (vName 4))) (sNil)) (sSeq (sIf (tB (vOp gEq (vOp gIx (vName 2) (vC (.int 0))) (vC (.str "not")))) (sRet (vOp gSub (vName 4) (vOp gIx (vName 3) (vC (.int 0))))) (sNil)) (sSeq (sIf (tB (vOp gEq (vOp gIx (vName 2) (vC (.int 0))) (vC (.str "copies")))) (sRet (vCb gMax (aCons (vC (.int 0)) (aCons (vOp gSub (vOp gMulI (vOp gIx (vName 2) (vC (.int 1))) (vOp gIx (vName 3) (vC (.int 0)))) (vOp gMulI (vOp gSub (vOp gIx (vName 2) (vC (.int 1))) (vC (.int 1))) (vName 4))) (aNil))))) (sNil)) (sRet (vCall 4 c_two_sided_number (aCons (vOp gIx (vName 2) (vC (.int 0))) (aCons (vName 4) (aCons (vOp gIx (vName 3) (vC (.int 0))) (aCons (vOp gIx (vName 3) (vC (.int 1))) (aNil)))))))))))
theorem sc_own_number : FnScope ["names", "point", "one", "sides", "q"] ["names", "point", "one", "sides"] (defScope (top 28)) := ⟨rfl, rfl, rfl, by decide +kernel, rfl, by decide +kernel, by decide +kernel⟩
theorem pl_own_number : Plainly "own_number" (top 28) ["names", "point", "one", "sides"] := fun _ _ _ _ _ _ us hl => match us, hl with | [_, _, _, _], _ => rfl
theorem w_own_number (t_own_number : Has K mg "own_number" (top 28)) {c_two_sided_number : List Dt → Sv → Rs Dt} (g_two_sided_number : FN P w K mg base k "two_sided_number" ["word", "q", "x", "y"] c_two_sided_number) (n_max : mg "max" = none) :
    FN P w K mg base (k + 1) "own_number" ["names", "point", "one", "sides"] (callS 5 (m_own_number c_two_sided_number)) := by
  refine FN.of t_own_number sc_own_number pl_own_number (m_own_number c_two_sided_number) fun f cdv A outer s H E hr => ?_
  have tk : Takes (cxOf (L2.CX P w) P w K mg base ["names", "point", "one", "sides", "q"] "own_number" (defScope (top 28)) f cdv A outer s H E) (fun c d _ H => E c d H) := takes_of rfl rfl rfl rfl
  have hc : (cxOf (L2.CX P w) P w K mg base ["names", "point", "one", "sides", "q"] "own_number" (defScope (top 28)) f cdv A outer s H E).calm = true := rfl
  have hN : (["names", "point", "one", "sides", "q"] : List Str).Nodup := (sc_own_number).nd
  exact dss_cons (ds_set 4 (de_ix hr ((de_name 1).o) ((de_int).o)) hN)
    (dss_cons (ds_if (dt_cmp (o_eq hr) ((de_ix hr ((de_name 2).o) ((de_int).o)).o) ((de_str).o) (by rfl)) (dss_one (ds_ret (de_ix hr ((de_name 0).o) ((de_ix hr ((de_name 2).o) ((de_int).o)).o)))) (dss_nil))
    (dss_cons (ds_if (dt_cmp (o_in hr) ((de_ix hr ((de_name 2).o) ((de_int).o)).o) ((de_tup (da_cons (de_str) (da_cons (de_str) (da_nil)))).o) (by rfl)) (dss_one (ds_ret (de_if (dt_cmp (o_eq hr) ((de_ix hr ((de_name 2).o) ((de_int).o)).o) ((de_str).o) (by rfl)) (de_int) (de_name 4)))) (dss_nil))
    (dss_cons (ds_if (dt_cmp (o_eq hr) ((de_ix hr ((de_name 2).o) ((de_int).o)).o) ((de_str).o) (by rfl)) (dss_one (ds_ret (de_op o_sub ((de_name 4).o) ((de_ix hr ((de_name 3).o) ((de_int).o)).o)))) (dss_nil))
    (dss_cons (ds_if (dt_cmp (o_eq hr) ((de_ix hr ((de_name 2).o) ((de_int).o)).o) ((de_str).o) (by rfl)) (dss_one (ds_ret (de_cb (c_max hc) (by rfl) n_max b_max (dao_cons ((de_int).o) (dao_cons ((de_op o_sub ((de_op o_mulI ((de_ix hr ((de_name 2).o) ((de_int).o)).o) ((de_ix hr ((de_name 3).o) ((de_int).o)).o)).o) ((de_op o_mulI ((de_op o_sub ((de_ix hr ((de_name 2).o) ((de_int).o)).o) ((de_int).o)).o) ((de_name 4).o)).o)).o) (dao_nil)))))) (dss_nil))
    (dss_one (ds_ret (de_fn (ps := ["word", "q", "x", "y"]) g_two_sided_number hr (by omega) tk (da_cons (de_ix hr ((de_name 2).o) ((de_int).o)) (da_cons (de_name 4) (da_cons (de_ix hr ((de_name 3).o) ((de_int).o)) (da_cons (de_ix hr ((de_name 3).o) ((de_int).o)) (da_nil))))))))))))
def m_part_numbers (c_parts_of : List Dt → Sv → Rs Dt) (c_own_number : List Dt → Sv → Rs Dt) : Ss :=
  sSeq (sPar3 3 4 5 (xV (vOp gDz (vName 0) (vSl (vName 2) (pSome (vC (.int 1))) (pNone)))) (xO (lLst (aNil))) (xO (lLst (aNil)))) (sSeq (sFor (iSeq (vCall 1 c_parts_of (aCons (vName 1) (aNil)))) (tgName 6) (sSeq (sSet 7 (vGet2 (vDict [(vC (.str "letter"), vC (.int 0)), (vC (.str "nought"), vC (.int 0)), (vC (.str "one"), vC (.int 0)), (vC (.str "not"), vC (.int 1)), (vC (.str "copies"), vC (.int 1))]) (vOp gIx (vName 6) (vC (.int 0))) (vC (.int 2)))) (sSeq (sPar 8 4 (xV (vL (lSl (oName 4) (pSome (vOp gSub (vCb gLen (aCons (oName 4) (aNil))) (vName 7))) (pNone)))) (xO (lSl (oName 4) (pNone) (pSome (vOp gSub (vCb gLen (aCons (oName 4) (aNil))) (vName 7)))))) (sSeq (sAppend 4 (vCall 4 c_own_number (aCons (vName 3) (aCons (vName 2) (aCons (vName 6) (aCons (vName 8) (aNil))))))) (sAppend 5 (vOp gIx (oName 4) (vUn gNeg (vC (.int 1))))))))) (sRetO 5))
theorem sc_part_numbers : FnScope ["frame", "claim", "point", "names", "told", "found", "one", "many", "sides"] ["frame", "claim", "point"] (defScope (top 29)) := ⟨rfl, rfl, rfl, by decide +kernel, rfl, by decide +kernel, by decide +kernel⟩
theorem pl_part_numbers : Plainly "part_numbers" (top 29) ["frame", "claim", "point"] := fun _ _ _ _ _ _ us hl => match us, hl with | [_, _, _], _ => rfl
theorem w_part_numbers (t_part_numbers : Has K mg "part_numbers" (top 29)) {c_parts_of : List Dt → Sv → Rs Dt} (g_parts_of : FN P w K mg base k "parts_of" ["claim"] c_parts_of) {c_own_number : List Dt → Sv → Rs Dt} (g_own_number : FN P w K mg base k "own_number" ["names", "point", "one", "sides"] c_own_number) (n_len : mg "len" = none) (n_dict : mg "dict" = none) (n_zip : mg "zip" = none) :
    FN P w K mg base (k + 1) "part_numbers" ["frame", "claim", "point"] (callS 9 (m_part_numbers c_parts_of c_own_number)) := by
  refine FN.of t_part_numbers sc_part_numbers pl_part_numbers (m_part_numbers c_parts_of c_own_number) fun f cdv A outer s H E hr => ?_
  have tk : Takes (cxOf (L2.CX P w) P w K mg base ["frame", "claim", "point", "names", "told", "found", "one", "many", "sides"] "part_numbers" (defScope (top 29)) f cdv A outer s H E) (fun c d _ H => E c d H) := takes_of rfl rfl rfl rfl
  have hc : (cxOf (L2.CX P w) P w K mg base ["frame", "claim", "point", "names", "told", "found", "one", "many", "sides"] "part_numbers" (defScope (top 29)) f cdv A outer s H E).calm = true := rfl
  have hN : (["frame", "claim", "point", "names", "told", "found", "one", "many", "sides"] : List Str).Nodup := (sc_part_numbers).nd
  have hp : PassesOwn (model P w) (cxOf (L2.CX P w) P w K mg base ["frame", "claim", "point", "names", "told", "found", "one", "many", "sides"] "part_numbers" (defScope (top 29)) f cdv A outer s H E).A (cxOf (L2.CX P w) P w K mg base ["frame", "claim", "point", "names", "told", "found", "one", "many", "sides"] "part_numbers" (defScope (top 29)) f cdv A outer s H E).env (cxOf (L2.CX P w) P w K mg base ["frame", "claim", "point", "names", "told", "found", "one", "many", "sides"] "part_numbers" (defScope (top 29)) f cdv A outer s H E).xe := PassesOwn.leaving
  exact dss_cons (ds_par3 3 4 5 hc ((de_dzip hc (by rfl) n_dict n_zip ((de_name 0).o) ((de_slice ((de_name 2).o) (dp_some (de_int)) (dp_none)).o)).x) ((dl_lst (da_nil)).x) ((dl_lst (da_nil)).x) hN)
    (dss_cons (ds_for (dif_seq (de_fn (ps := ["claim"]) g_parts_of hr (by omega) tk (da_cons (de_name 1) (da_nil)))) (dg_name 6 hN) (dss_cons (ds_set 7 (de_get2 hr (de_dict (.cons (de_str) (de_int) (.cons (de_str) (de_int) (.cons (de_str) (de_int) (.cons (de_str) (de_int) (.cons (de_str) (de_int) (.nil))))))) (de_ix hr ((de_name 6).o) ((de_int).o)) (de_int)) hN)
    (dss_cons (ds_par 8 4 hc (((dl_slice (do_name 4) (dp_some (de_op o_sub ((de_cb c_len (by rfl) n_len b_len (dao_cons (do_name 4) (dao_nil))).o) ((de_name 7).o))) (dp_none)).v).x) ((dl_slice (do_name 4) (dp_none) (dp_some (de_op o_sub ((de_cb c_len (by rfl) n_len b_len (dao_cons (do_name 4) (dao_nil))).o) ((de_name 7).o)))).x) hN)
    (dss_cons (ds_append 4 (de_fn (ps := ["names", "point", "one", "sides"]) g_own_number hr (by omega) tk (da_cons (de_name 3) (da_cons (de_name 2) (da_cons (de_name 6) (da_cons (de_name 8) (da_nil)))))))
    (dss_one (ds_append 5 (de_ix hr (do_name 4) ((de_neg (de_int)).o))))))) hp hc)
    (dss_one (ds_retO 5)))
def m_worth_at (c_lowest : List Dt → Sv → Rs Dt) (c_part_numbers : List Dt → Sv → Rs Dt) : Ss :=
  sRet (vCall 2 c_lowest (aCons (vOp gIx (vCall 3 c_part_numbers (aCons (vName 0) (aCons (vName 1) (aCons (vName 2) (aNil))))) (vUn gNeg (vC (.int 1)))) (aCons (vOp gIx (vName 2) (vC (.int 0))) (aNil))))
theorem sc_worth_at : FnScope ["frame", "claim", "point"] ["frame", "claim", "point"] (defScope (top 30)) := ⟨rfl, rfl, rfl, by decide +kernel, rfl, by decide +kernel, by decide +kernel⟩
theorem pl_worth_at : Plainly "worth_at" (top 30) ["frame", "claim", "point"] := fun _ _ _ _ _ _ us hl => match us, hl with | [_, _, _], _ => rfl
theorem w_worth_at (t_worth_at : Has K mg "worth_at" (top 30)) {c_lowest : List Dt → Sv → Rs Dt} (g_lowest : FN P w K mg base k "lowest" ["p", "q"] c_lowest) {c_part_numbers : List Dt → Sv → Rs Dt} (g_part_numbers : FN P w K mg base k "part_numbers" ["frame", "claim", "point"] c_part_numbers) :
    FN P w K mg base (k + 1) "worth_at" ["frame", "claim", "point"] (callS 3 (m_worth_at c_lowest c_part_numbers)) := by
  refine FN.of t_worth_at sc_worth_at pl_worth_at (m_worth_at c_lowest c_part_numbers) fun f cdv A outer s H E hr => ?_
  have tk : Takes (cxOf (L2.CX P w) P w K mg base ["frame", "claim", "point"] "worth_at" (defScope (top 30)) f cdv A outer s H E) (fun c d _ H => E c d H) := takes_of rfl rfl rfl rfl
  have hc : (cxOf (L2.CX P w) P w K mg base ["frame", "claim", "point"] "worth_at" (defScope (top 30)) f cdv A outer s H E).calm = true := rfl
  have hN : (["frame", "claim", "point"] : List Str).Nodup := (sc_worth_at).nd
  exact dss_one (ds_ret (de_fn (ps := ["p", "q"]) g_lowest hr (by omega) tk (da_cons (de_ix hr ((de_fn (ps := ["frame", "claim", "point"]) g_part_numbers hr (by omega) tk (da_cons (de_name 0) (da_cons (de_name 1) (da_cons (de_name 2) (da_nil))))).o) ((de_neg (de_int)).o)) (da_cons (de_ix hr ((de_name 2).o) ((de_int).o)) (da_nil)))))
theorem sc__law_source : FnScope ["script", "mixed", "cell"] ["script"] (defScope (top 32)) := ⟨rfl, rfl, rfl, by decide +kernel, rfl, by decide +kernel, by decide +kernel⟩
theorem pl__law_source : Plainly "_law_source" (top 32) ["script"] := fun _ _ _ _ _ _ us hl => match us, hl with | [_], _ => rfl
theorem w__law_source (t__law_source : Has K mg "_law_source" (top 32)) (n_int : mg "int" = none) (n_abs : mg "abs" = none) : FS P w K mg base (k + 1) "_law_source" := by
  refine FS.of t__law_source sc__law_source pl__law_source fun f cdv A outer s H E hr => ?_
  have hc : (cxOf (L2.CX P w) P w K mg base ["script", "mixed", "cell"] "_law_source" (defScope (top 32)) f cdv A outer s H E).calm = true := rfl
  have hN : (["script", "mixed", "cell"] : List Str).Nodup := sc__law_source.nd
  have hp : PassesOwn (model P w) (cxOf (L2.CX P w) P w K mg base ["script", "mixed", "cell"] "_law_source" (defScope (top 32)) f cdv A outer s H E).A (cxOf (L2.CX P w) P w K mg base ["script", "mixed", "cell"] "_law_source" (defScope (top 32)) f cdv A outer s H E).env (cxOf (L2.CX P w) P w K mg base ["script", "mixed", "cell"] "_law_source" (defScope (top 32)) f cdv A outer s H E).xe := PassesOwn.leaving
  have st1 : DS (cxOf (L2.CX P w) P w K mg base ["script", "mixed", "cell"] "_law_source" (defScope (top 32)) f cdv A outer s H E) (fun c d _ H => E c d H) ((defBody (top 32)).getD 0 (.Pass ⟨0, 0, 0, 0⟩)) (sSet 1 (vC (.int 31))) := ds_set 1 (de_int) hN
  have st2 : DS (cxOf (L2.CX P w) P w K mg base ["script", "mixed", "cell"] "_law_source" (defScope (top 32)) f cdv A outer s H E) (fun c d _ H => E c d H) ((defBody (top 32)).getD 1 (.Pass ⟨0, 0, 0, 0⟩)) (sFor (iSeq (vName 0)) (tgName 2) (sSet 1 (vOp gMod (vCb gInt1 (aCons (vOp gAdd (vOp gAdd (vOp gMulI (vName 1) (vC (.int 48271))) (vOp gMulI (vName 2) (vC (.int 41)))) (vC (.int 13))) (aNil))) (vC (.int 2147483629))))) := ds_for (dif_seq (de_name 0)) (dg_name 2 hN) (dss_one (ds_set 1 (de_op o_mod ((de_ct c_int (by rfl) n_int b_int (dao_cons ((de_op o_add ((de_op o_add ((de_op o_mulI ((de_name 1).o) ((de_int).o)).o) ((de_op o_mulI ((de_name 2).o) ((de_int).o)).o)).o) ((de_int).o)).o) (dao_nil))).o) ((de_int).o)) hN)) hp hc
  have st3 : PS (cxOf (L2.CX P w) P w K mg base ["script", "mixed", "cell"] "_law_source" (defScope (top 32)) f cdv A outer s H E) ((defBody (top 32)).getD 2 (.Pass ⟨0, 0, 0, 0⟩)) (tSrcRet K (lRev (vL (lComp [2] (iSeq (vName 0)) (tgName 2) (tTrue) (vCb gAbs (aCons (vName 2) (aNil)))))) (vC (.int 0)) (vName 1) (vC (.int 0))) := ps_src (W := fun c d _ H => E c d H) (dl_rev ((dl_comp [("cell", 2)] (dic_seq ((de_name 0).o)) hc hN (blk_mk (by kernel_rfl)) (fun _ _ _ _ _ => dg_name 2 hN) (fun _ _ _ _ _ => dts_nil) (fun _ _ _ _ _ => de_cb c_abs (by rfl) n_abs b_abs (dao_cons ((de_name 2).o) (dao_nil)))).o)) (de_int) (de_name 1) (de_int)
  refine ⟨_, show PSs _ (defBody (top 32)) _ from pss_cons st1.ps (pss_cons st2.ps (pss_one st3)), fun a ns Q h1 hz h2 => ?_⟩
  have g : Gd none H H none := ⟨Same.refl _, fun a z => absurd z no_fp, .inl ⟨rfl, rfl⟩⟩
  have ok := ok_start (K := K) (N := ["script", "mixed", "cell"]) (ds := [.scr ns]) g (.cons (.scr h1) .nil)
  refine ⟨none, H, H, H, none, _, ok, fun F1 σ1 H1 ok1 => ?_⟩
  refine ⟨none, H, H, F1, none, _, ok1, ?_⟩
  obtain ⟨m2, o2, e⟩ := src_loop (t := .scr ns) (body := sSet 1 (vOp gMod (vCb gInt1 (aCons (vOp gAdd (vOp gAdd (vOp gMulI (vName 1) (vC (.int 48271))) (vOp gMulI (vName 2) (vC (.int 41)))) (vC (.int 13))) (aNil))) (vC (.int 2147483629)))) (fun m c => ⟨_, by simp [mulC]; rfl⟩) ns 31 .un
  have e2 : (sFor (iSeq (vName 0)) (tgName 2) (sSet 1 (vOp gMod (vCb gInt1 (aCons (vOp gAdd (vOp gAdd (vOp gMulI (vName 1) (vC (.int 48271))) (vOp gMulI (vName 2) (vC (.int 41)))) (vC (.int 13))) (aNil))) (vC (.int 2147483629))))) [.val (.scr ns), .val (.int 31), .un] none = .nx [.val (.scr ns), .val (.int m2), o2] none := by simpa using e
  show OutS K mg _ none H H _ ((sFor (iSeq (vName 0)) (tgName 2) (sSet 1 (vOp gMod (vCb gInt1 (aCons (vOp gAdd (vOp gAdd (vOp gMulI (vName 1) (vC (.int 48271))) (vOp gMulI (vName 2) (vC (.int 41)))) (vC (.int 13))) (aNil))) (vC (.int 2147483629))))) [.val (.scr ns), .val (.int 31), .un] none)
  rw [e2]
  intro F2 σ2 H2 ok2
  exact ⟨H, H, F2, _, _, _, _, _, _, ok2, src_cells hz rfl (by simp) rfl, dIs_ints _, (by simpa using hz), rfl, rfl, rfl, fun d c v H3 a0 a1 a2 a3 a4 a5 => h2 d c v H3 a0 (fun b o q => a1 b o (ok2.st.keep b o q no_fp)) (by
    cases z : H d with
    | none => rfl
    | some o => rw [ok2.st.keep d o z no_fp] at a2; cases a2) (by
    cases z : H c with
    | none => rfl
    | some o => rw [ok2.st.keep c o z no_fp] at a3; cases a3) a4 a5⟩
def m__law_pick : Ss :=
  sSeq (sIf (tB (vOp gLt (vName 1) (vC (.int 2)))) (sRet (vC (.int 0))) (sNil)) (sSeq (sWhile (tAnd' (tB (vOp gLt (vSget 0 "left") (vC (.int 2)))) (tB (vOp gGt (vSlen 0) (vC (.int 0))))) (sSpop 0 "left")) (sSeq (sSet 2 (vSget 0 "left")) (sSeq (sIf (tB (vOp gGt (vName 2) (vC (.int 1)))) (sSeq (sSput 0 "left" (vOp gDiv (vName 2) (vName 1))) (sRet (vOp gMod (vCb gInt1 (aCons (vName 2) (aNil))) (vName 1)))) (sNil)) (sSeq (sSput 0 "turn" (vOp gAdd (vSget 0 "turn") (vC (.int 1)))) (sSeq (sSet 3 (vOp gMod (vCb gInt1 (aCons (vOp gAdd (vSget 0 "mixed") (vOp gMulI (vSget 0 "turn") (vC (.int 92821)))) (aNil))) (vC (.int 998244353)))) (sSeq (sSet 3 (vOp gMod (vCb gInt1 (aCons (vOp gAdd (vOp gMulI (vName 3) (vName 3)) (vOp gMulI (vSget 0 "turn") (vC (.int 29)))) (aNil))) (vC (.int 2147483647)))) (sRet (vOp gMod (vCb gInt1 (aCons (vOp gDiv (vName 3) (vC (.int 16))) (aNil))) (vName 1)))))))))
theorem sc__law_pick : FnScope ["source", "many", "left", "mixed"] ["source", "many"] (defScope (top 33)) := ⟨rfl, rfl, rfl, by decide +kernel, rfl, by decide +kernel, by decide +kernel⟩
theorem pl__law_pick : Plainly "_law_pick" (top 33) ["source", "many"] := fun _ _ _ _ _ _ us hl => match us, hl with | [_, _], _ => rfl
theorem w__law_pick (t__law_pick : Has K mg "_law_pick" (top 33)) (n_int : mg "int" = none) (n_len : mg "len" = none) :
    FN P w K mg base (k + 1) "_law_pick" ["source", "many"] (callS 4 (m__law_pick)) := by
  refine FN.of t__law_pick sc__law_pick pl__law_pick (m__law_pick) fun f cdv A outer s H E hr => ?_
  have tk : Takes (cxOf (L2.CX P w) P w K mg base ["source", "many", "left", "mixed"] "_law_pick" (defScope (top 33)) f cdv A outer s H E) (fun c d _ H => E c d H) := takes_of rfl rfl rfl rfl
  have hc : (cxOf (L2.CX P w) P w K mg base ["source", "many", "left", "mixed"] "_law_pick" (defScope (top 33)) f cdv A outer s H E).calm = true := rfl
  have hN : (["source", "many", "left", "mixed"] : List Str).Nodup := (sc__law_pick).nd
  have hp : PassesOwn (model P w) (cxOf (L2.CX P w) P w K mg base ["source", "many", "left", "mixed"] "_law_pick" (defScope (top 33)) f cdv A outer s H E).A (cxOf (L2.CX P w) P w K mg base ["source", "many", "left", "mixed"] "_law_pick" (defScope (top 33)) f cdv A outer s H E).env (cxOf (L2.CX P w) P w K mg base ["source", "many", "left", "mixed"] "_law_pick" (defScope (top 33)) f cdv A outer s H E).xe := PassesOwn.leaving
  exact dss_cons (ds_if (dt_cmp o_lt ((de_name 1).o) ((de_int).o) (by rfl)) (dss_one (ds_ret (de_int))) (dss_nil))
    (dss_cons (ds_while ((dw_and (dt_cmp o_lt ((de_sget hr 0).o) ((de_int).o) (by rfl)) (dw_and1 (dt_cmp o_gt ((de_slen hr 0 (by rfl) n_len).o) ((de_int).o) (by rfl)))).t) (dss_one (ds_spop hr 0)) hp)
    (dss_cons (ds_set 2 (de_sget hr 0) hN)
    (dss_cons (ds_if (dt_cmp o_gt ((de_name 2).o) ((de_int).o) (by rfl)) (dss_cons (ds_sset hr 0 (de_op o_div ((de_name 2).o) ((de_name 1).o)))
    (dss_one (ds_ret (de_op o_mod ((de_ct c_int (by rfl) n_int b_int (dao_cons ((de_name 2).o) (dao_nil))).o) ((de_name 1).o))))) (dss_nil))
    (dss_cons (ds_sset hr 0 (de_op o_add ((de_sget hr 0).o) ((de_int).o)))
    (dss_cons (ds_set 3 (de_op o_mod ((de_ct c_int (by rfl) n_int b_int (dao_cons ((de_op o_add ((de_sget hr 0).o) ((de_op o_mulI ((de_sget hr 0).o) ((de_int).o)).o)).o) (dao_nil))).o) ((de_int).o)) hN)
    (dss_cons (ds_set 3 (de_op o_mod ((de_ct c_int (by rfl) n_int b_int (dao_cons ((de_op o_add ((de_op o_mulI ((de_name 3).o) ((de_name 3).o)).o) ((de_op o_mulI ((de_sget hr 0).o) ((de_int).o)).o)).o) (dao_nil))).o) ((de_int).o)) hN)
    (dss_one (ds_ret (de_op o_mod ((de_ct c_int (by rfl) n_int b_int (dao_cons ((de_op o_div ((de_name 3).o) ((de_int).o)).o) (dao_nil))).o) ((de_name 1).o))))))))))
def m__law_of (c__law_pick : List Dt → Sv → Rs Dt) : Ss :=
  sRet (vOp gIx (vName 1) (vCall 2 c__law_pick (aCons (vName 0) (aCons (vCb gLen (aCons (vName 1) (aNil))) (aNil)))))
theorem sc__law_of : FnScope ["source", "some"] ["source", "some"] (defScope (top 34)) := ⟨rfl, rfl, rfl, by decide +kernel, rfl, by decide +kernel, by decide +kernel⟩
theorem pl__law_of : Plainly "_law_of" (top 34) ["source", "some"] := fun _ _ _ _ _ _ us hl => match us, hl with | [_, _], _ => rfl
theorem w__law_of (t__law_of : Has K mg "_law_of" (top 34)) {c__law_pick : List Dt → Sv → Rs Dt} (g__law_pick : FN P w K mg base k "_law_pick" ["source", "many"] c__law_pick) (n_len : mg "len" = none) :
    FN P w K mg base (k + 1) "_law_of" ["source", "some"] (callS 2 (m__law_of c__law_pick)) := by
  refine FN.of t__law_of sc__law_of pl__law_of (m__law_of c__law_pick) fun f cdv A outer s H E hr => ?_
  have tk : Takes (cxOf (L2.CX P w) P w K mg base ["source", "some"] "_law_of" (defScope (top 34)) f cdv A outer s H E) (fun c d _ H => E c d H) := takes_of rfl rfl rfl rfl
  have hc : (cxOf (L2.CX P w) P w K mg base ["source", "some"] "_law_of" (defScope (top 34)) f cdv A outer s H E).calm = true := rfl
  have hN : (["source", "some"] : List Str).Nodup := (sc__law_of).nd
  exact dss_one (ds_ret (de_ix hr ((de_name 1).o) ((de_fn (ps := ["source", "many"]) g__law_pick hr (by omega) tk (da_cons (de_name 0) (da_cons (de_cb c_len (by rfl) n_len b_len (dao_cons ((de_name 1).o) (dao_nil))) (da_nil)))).o)))
def m__law_words : Ss :=
  sRet (vL (lLst (aCons (vC (.str "and")) (aCons (vC (.str "or")) (aCons (vC (.str "so")) (aCons (vC (.str "both")) (aCons (vC (.str "with")) (aCons (vC (.str "less")) (aCons (vC (.str "same")) (aNil))))))))))
theorem sc__law_words : FnScope [] [] (defScope (top 35)) := ⟨rfl, rfl, rfl, by decide +kernel, rfl, by decide +kernel, by decide +kernel⟩
theorem pl__law_words : Plainly "_law_words" (top 35) [] := fun _ _ _ _ _ _ us hl => match us, hl with | [], _ => rfl
theorem w__law_words (t__law_words : Has K mg "_law_words" (top 35)) :
    FN P w K mg base (k + 1) "_law_words" [] (callS 0 (m__law_words)) := by
  refine FN.of t__law_words sc__law_words pl__law_words (m__law_words) fun f cdv A outer s H E hr => ?_
  have tk : Takes (cxOf (L2.CX P w) P w K mg base [] "_law_words" (defScope (top 35)) f cdv A outer s H E) (fun c d _ H => E c d H) := takes_of rfl rfl rfl rfl
  have hc : (cxOf (L2.CX P w) P w K mg base [] "_law_words" (defScope (top 35)) f cdv A outer s H E).calm = true := rfl
  have hN : ([] : List Str).Nodup := (sc__law_words).nd
  exact dss_one (ds_ret ((dl_lst (da_cons (de_str) (da_cons (de_str) (da_cons (de_str) (da_cons (de_str) (da_cons (de_str) (da_cons (de_str) (da_cons (de_str) (da_nil))))))))).v))
def m__law_claim (c__law_of : List Dt → Sv → Rs Dt) (c__law_claim : List Dt → Sv → Rs Dt) (c__law_pick : List Dt → Sv → Rs Dt) (c__law_words : List Dt → Sv → Rs Dt) : Ss :=
  sSeq (sSet 4 (vIf (tB (vOp gGt (vName 2) (vC (.int 0)))) (vCall 2 c__law_pick (aCons (vName 0) (aCons (vC (.int 9)) (aNil)))) (vC (.int 8)))) (sSeq (sIf (tB (vOp gLt (vName 4) (vC (.int 5)))) (sSeq (sSet 5 (vCall 2 c__law_of (aCons (vName 0) (aCons (vCall 0 c__law_words aNil) (aNil))))) (sRet (vTup (aCons (vName 5) (aCons (vCall 4 c__law_claim (aCons (vName 0) (aCons (vName 1) (aCons (vOp gSub (vName 2) (vC (.int 1))) (aCons (vName 3) (aNil)))))) (aCons (vCall 4 c__law_claim (aCons (vName 0) (aCons (vName 1) (aCons (vOp gSub (vName 2) (vC (.int 1))) (aCons (vName 3) (aNil)))))) (aNil))))))) (sNil)) (sSeq (sIf (tB (vOp gEq (vName 4) (vC (.int 5)))) (sRet (vTup (aCons (vC (.str "not")) (aCons (vCall 4 c__law_claim (aCons (vName 0) (aCons (vName 1) (aCons (vOp gSub (vName 2) (vC (.int 1))) (aCons (vName 3) (aNil)))))) (aNil))))) (sNil)) (sSeq (sIf (tB (vOp gEq (vName 4) (vC (.int 6)))) (sRet (vTup (aCons (vC (.str "copies")) (aCons (vCall 2 c__law_pick (aCons (vName 0) (aCons (vOp gAdd (vName 3) (vC (.int 1))) (aNil)))) (aCons (vCall 4 c__law_claim (aCons (vName 0) (aCons (vName 1) (aCons (vOp gSub (vName 2) (vC (.int 1))) (aCons (vName 3) (aNil)))))) (aNil)))))) (sNil)) (sSeq (sSet 6 (vL (lCat (vL (lRep (vL (lComp [7] (iSeq (vName 1)) (tgName 7) (tTrue) (vTup (aCons (vC (.str "letter")) (aCons (vName 7) (aNil)))))) (vC (.int 3)))) (vL (lLst (aCons (vTup (aCons (vC (.str "nought")) (aNil))) (aCons (vTup (aCons (vC (.str "one")) (aNil))) (aNil)))))))) (sRet (vCall 2 c__law_of (aCons (vName 0) (aCons (vName 6) (aNil)))))))))
theorem sc__law_claim : FnScope ["source", "letters", "deep", "most", "way", "word", "some", "name"] ["source", "letters", "deep", "most"] (defScope (top 36)) := ⟨rfl, rfl, rfl, by decide +kernel, rfl, by decide +kernel, by decide +kernel⟩
theorem pl__law_claim : Plainly "_law_claim" (top 36) ["source", "letters", "deep", "most"] := fun _ _ _ _ _ _ us hl => match us, hl with | [_, _, _, _], _ => rfl
theorem w__law_claim (t__law_claim : Has K mg "_law_claim" (top 36)) {c__law_of : List Dt → Sv → Rs Dt} (g__law_of : FN P w K mg base k "_law_of" ["source", "some"] c__law_of) {c__law_claim : List Dt → Sv → Rs Dt} (g__law_claim : FN P w K mg base k "_law_claim" ["source", "letters", "deep", "most"] c__law_claim) {c__law_pick : List Dt → Sv → Rs Dt} (g__law_pick : FN P w K mg base k "_law_pick" ["source", "many"] c__law_pick) {c__law_words : List Dt → Sv → Rs Dt} (g__law_words : FN P w K mg base k "_law_words" [] c__law_words) :
    FN P w K mg base (k + 1) "_law_claim" ["source", "letters", "deep", "most"] (callS 8 (m__law_claim c__law_of c__law_claim c__law_pick c__law_words)) := by
  refine FN.of t__law_claim sc__law_claim pl__law_claim (m__law_claim c__law_of c__law_claim c__law_pick c__law_words) fun f cdv A outer s H E hr => ?_
  have tk : Takes (cxOf (L2.CX P w) P w K mg base ["source", "letters", "deep", "most", "way", "word", "some", "name"] "_law_claim" (defScope (top 36)) f cdv A outer s H E) (fun c d _ H => E c d H) := takes_of rfl rfl rfl rfl
  have hc : (cxOf (L2.CX P w) P w K mg base ["source", "letters", "deep", "most", "way", "word", "some", "name"] "_law_claim" (defScope (top 36)) f cdv A outer s H E).calm = true := rfl
  have hN : (["source", "letters", "deep", "most", "way", "word", "some", "name"] : List Str).Nodup := (sc__law_claim).nd
  exact dss_cons (ds_set 4 (de_if (dt_cmp o_gt ((de_name 2).o) ((de_int).o) (by rfl)) (de_fn (ps := ["source", "many"]) g__law_pick hr (by omega) tk (da_cons (de_name 0) (da_cons (de_int) (da_nil)))) (de_int)) hN)
    (dss_cons (ds_if (dt_cmp o_lt ((de_name 4).o) ((de_int).o) (by rfl)) (dss_cons (ds_set 5 (de_fn (ps := ["source", "some"]) g__law_of hr (by omega) tk (da_cons (de_name 0) (da_cons (de_fn0 g__law_words hr (by omega) tk) (da_nil)))) hN)
    (dss_one (ds_ret (de_tup (da_cons (de_name 5) (da_cons (de_fn (ps := ["source", "letters", "deep", "most"]) g__law_claim hr (by omega) tk (da_cons (de_name 0) (da_cons (de_name 1) (da_cons (de_op o_sub ((de_name 2).o) ((de_int).o)) (da_cons (de_name 3) (da_nil)))))) (da_cons (de_fn (ps := ["source", "letters", "deep", "most"]) g__law_claim hr (by omega) tk (da_cons (de_name 0) (da_cons (de_name 1) (da_cons (de_op o_sub ((de_name 2).o) ((de_int).o)) (da_cons (de_name 3) (da_nil)))))) (da_nil)))))))) (dss_nil))
    (dss_cons (ds_if (dt_cmp (o_eq hr) ((de_name 4).o) ((de_int).o) (by rfl)) (dss_one (ds_ret (de_tup (da_cons (de_str) (da_cons (de_fn (ps := ["source", "letters", "deep", "most"]) g__law_claim hr (by omega) tk (da_cons (de_name 0) (da_cons (de_name 1) (da_cons (de_op o_sub ((de_name 2).o) ((de_int).o)) (da_cons (de_name 3) (da_nil)))))) (da_nil)))))) (dss_nil))
    (dss_cons (ds_if (dt_cmp (o_eq hr) ((de_name 4).o) ((de_int).o) (by rfl)) (dss_one (ds_ret (de_tup (da_cons (de_str) (da_cons (de_fn (ps := ["source", "many"]) g__law_pick hr (by omega) tk (da_cons (de_name 0) (da_cons (de_op o_add ((de_name 3).o) ((de_int).o)) (da_nil)))) (da_cons (de_fn (ps := ["source", "letters", "deep", "most"]) g__law_claim hr (by omega) tk (da_cons (de_name 0) (da_cons (de_name 1) (da_cons (de_op o_sub ((de_name 2).o) ((de_int).o)) (da_cons (de_name 3) (da_nil)))))) (da_nil))))))) (dss_nil))
    (dss_cons (ds_set 6 ((dl_cat ((dl_rep ((dl_comp [("name", 7)] (dic_seq ((de_name 1).o)) hc hN (blk_mk (by kernel_rfl)) (fun _ _ _ _ _ => dg_name 7 hN) (fun _ _ _ _ _ => dts_nil) (fun _ _ _ _ _ => de_tup (da_cons (de_str) (da_cons (de_name 7) (da_nil))))).o) ((de_int).o)).o) ((dl_lst (da_cons (de_tup (da_cons (de_str) (da_nil))) (da_cons (de_tup (da_cons (de_str) (da_nil))) (da_nil)))).o)).v) hN)
    (dss_one (ds_ret (de_fn (ps := ["source", "some"]) g__law_of hr (by omega) tk (da_cons (de_name 0) (da_cons (de_name 6) (da_nil))))))))))
def m__law_sides : Ss :=
  sSeq (sIf (tB (vOp gInS (vOp gIx (vName 0) (vC (.int 0))) (vTup (aCons (vC (.str "letter")) (aCons (vC (.str "nought")) (aCons (vC (.str "one")) (aNil))))))) (sRet (vTup (aNil))) (sNil)) (sRet (vIf (tB (vOp gEq (vOp gIx (vName 0) (vC (.int 0))) (vC (.str "copies")))) (vSl (vName 0) (pSome (vC (.int 2))) (pNone)) (vSl (vName 0) (pSome (vC (.int 1))) (pNone))))
theorem sc__law_sides : FnScope ["claim"] ["claim"] (defScope (top 37)) := ⟨rfl, rfl, rfl, by decide +kernel, rfl, by decide +kernel, by decide +kernel⟩
theorem pl__law_sides : Plainly "_law_sides" (top 37) ["claim"] := fun _ _ _ _ _ _ us hl => match us, hl with | [_], _ => rfl
theorem w__law_sides (t__law_sides : Has K mg "_law_sides" (top 37)) :
    FN P w K mg base (k + 1) "_law_sides" ["claim"] (callS 1 (m__law_sides)) := by
  refine FN.of t__law_sides sc__law_sides pl__law_sides (m__law_sides) fun f cdv A outer s H E hr => ?_
  have tk : Takes (cxOf (L2.CX P w) P w K mg base ["claim"] "_law_sides" (defScope (top 37)) f cdv A outer s H E) (fun c d _ H => E c d H) := takes_of rfl rfl rfl rfl
  have hc : (cxOf (L2.CX P w) P w K mg base ["claim"] "_law_sides" (defScope (top 37)) f cdv A outer s H E).calm = true := rfl
  have hN : (["claim"] : List Str).Nodup := (sc__law_sides).nd
  exact dss_cons (ds_if (dt_cmp (o_in hr) ((de_ix hr ((de_name 0).o) ((de_int).o)).o) ((de_tup (da_cons (de_str) (da_cons (de_str) (da_cons (de_str) (da_nil))))).o) (by rfl)) (dss_one (ds_ret (de_tup (da_nil)))) (dss_nil))
    (dss_one (ds_ret (de_if (dt_cmp (o_eq hr) ((de_ix hr ((de_name 0).o) ((de_int).o)).o) ((de_str).o) (by rfl)) (de_slice ((de_name 0).o) (dp_some (de_int)) (dp_none)) (de_slice ((de_name 0).o) (dp_some (de_int)) (dp_none)))))
def m__law_nodes (c__law_sides : List Dt → Sv → Rs Dt) (c__law_nodes : List Dt → Sv → Rs Dt) : Ss :=
  sRet (vOp gAdd (vC (.int 1)) (vCb gSum (aCons (vL (lComp [1] (iSeq (vCall 1 c__law_sides (aCons (vName 0) (aNil)))) (tgName 1) (tTrue) (vCall 1 c__law_nodes (aCons (vName 1) (aNil))))) (aNil))))
theorem sc__law_nodes : FnScope ["claim", "side"] ["claim"] (defScope (top 38)) := ⟨rfl, rfl, rfl, by decide +kernel, rfl, by decide +kernel, by decide +kernel⟩
theorem pl__law_nodes : Plainly "_law_nodes" (top 38) ["claim"] := fun _ _ _ _ _ _ us hl => match us, hl with | [_], _ => rfl
theorem w__law_nodes (t__law_nodes : Has K mg "_law_nodes" (top 38)) {c__law_sides : List Dt → Sv → Rs Dt} (g__law_sides : FN P w K mg base k "_law_sides" ["claim"] c__law_sides) {c__law_nodes : List Dt → Sv → Rs Dt} (g__law_nodes : FN P w K mg base k "_law_nodes" ["claim"] c__law_nodes) (n_sum : mg "sum" = none) :
    FN P w K mg base (k + 1) "_law_nodes" ["claim"] (callS 2 (m__law_nodes c__law_sides c__law_nodes)) := by
  refine FN.of t__law_nodes sc__law_nodes pl__law_nodes (m__law_nodes c__law_sides c__law_nodes) fun f cdv A outer s H E hr => ?_
  have tk : Takes (cxOf (L2.CX P w) P w K mg base ["claim", "side"] "_law_nodes" (defScope (top 38)) f cdv A outer s H E) (fun c d _ H => E c d H) := takes_of rfl rfl rfl rfl
  have hc : (cxOf (L2.CX P w) P w K mg base ["claim", "side"] "_law_nodes" (defScope (top 38)) f cdv A outer s H E).calm = true := rfl
  have hN : (["claim", "side"] : List Str).Nodup := (sc__law_nodes).nd
  exact dss_one (ds_ret (de_op o_add ((de_int).o) ((de_cb (c_sum hc) (by rfl) n_sum b_sum (dao_cons ((dl_comp [("side", 1)] (dic_seq ((de_fn (ps := ["claim"]) g__law_sides hr (by omega) tk (da_cons (de_name 0) (da_nil))).o)) hc hN (blk_mk (by kernel_rfl)) (fun _ _ _ _ _ => dg_name 1 hN) (fun _ _ _ _ _ => dts_nil) (fun _ _ _ _ _ => de_fn (ps := ["claim"]) (W := W0) g__law_nodes hr (by omega) takes0 (da_cons (de_name 1) (da_nil)))).o) (dao_nil))).o)))
def m__law_parts (c__law_sides : List Dt → Sv → Rs Dt) (c__law_parts : List Dt → Sv → Rs Dt) : Ss :=
  sSeq (sSet 1 (vL (lLst (aNil)))) (sSeq (sFor (iSeq (vCall 1 c__law_sides (aCons (vName 0) (aNil)))) (tgName 2) (sSet 1 (vOp gAdd (vName 1) (vCall 1 c__law_parts (aCons (vName 2) (aNil)))))) (sRet (vL (lCat (vName 1) (vL (lLst (aCons (vName 0) (aNil))))))))
theorem sc__law_parts : FnScope ["claim", "found", "side"] ["claim"] (defScope (top 39)) := ⟨rfl, rfl, rfl, by decide +kernel, rfl, by decide +kernel, by decide +kernel⟩
theorem pl__law_parts : Plainly "_law_parts" (top 39) ["claim"] := fun _ _ _ _ _ _ us hl => match us, hl with | [_], _ => rfl
theorem w__law_parts (t__law_parts : Has K mg "_law_parts" (top 39)) {c__law_sides : List Dt → Sv → Rs Dt} (g__law_sides : FN P w K mg base k "_law_sides" ["claim"] c__law_sides) {c__law_parts : List Dt → Sv → Rs Dt} (g__law_parts : FN P w K mg base k "_law_parts" ["claim"] c__law_parts) :
    FN P w K mg base (k + 1) "_law_parts" ["claim"] (callS 3 (m__law_parts c__law_sides c__law_parts)) := by
  refine FN.of t__law_parts sc__law_parts pl__law_parts (m__law_parts c__law_sides c__law_parts) fun f cdv A outer s H E hr => ?_
  have tk : Takes (cxOf (L2.CX P w) P w K mg base ["claim", "found", "side"] "_law_parts" (defScope (top 39)) f cdv A outer s H E) (fun c d _ H => E c d H) := takes_of rfl rfl rfl rfl
  have hc : (cxOf (L2.CX P w) P w K mg base ["claim", "found", "side"] "_law_parts" (defScope (top 39)) f cdv A outer s H E).calm = true := rfl
  have hN : (["claim", "found", "side"] : List Str).Nodup := (sc__law_parts).nd
  have hp : PassesOwn (model P w) (cxOf (L2.CX P w) P w K mg base ["claim", "found", "side"] "_law_parts" (defScope (top 39)) f cdv A outer s H E).A (cxOf (L2.CX P w) P w K mg base ["claim", "found", "side"] "_law_parts" (defScope (top 39)) f cdv A outer s H E).env (cxOf (L2.CX P w) P w K mg base ["claim", "found", "side"] "_law_parts" (defScope (top 39)) f cdv A outer s H E).xe := PassesOwn.leaving
  exact dss_cons (ds_set 1 ((dl_lst (da_nil)).v) hN)
    (dss_cons (ds_for (dif_seq (de_fn (ps := ["claim"]) g__law_sides hr (by omega) tk (da_cons (de_name 0) (da_nil)))) (dg_name 2 hN) (dss_one (ds_set 1 (de_op o_add ((de_name 1).o) ((de_fn (ps := ["claim"]) g__law_parts hr (by omega) tk (da_cons (de_name 2) (da_nil))).o)) hN)) hp hc)
    (dss_one (ds_ret ((dl_cat ((de_name 1).o) ((dl_lst (da_cons (de_name 0) (da_nil))).o)).v))))
def m__law_worth (c__law_worth : List Dt → Sv → Rs Dt) : Ss :=
  sSeq (sSet 3 (vOp gIx (vName 0) (vC (.int 0)))) (sSeq (sIf (tB (vOp gInS (vName 3) (vTup (aCons (vC (.str "letter")) (aCons (vC (.str "nought")) (aCons (vC (.str "one")) (aNil))))))) (sRet (vIf (tB (vOp gEq (vName 3) (vC (.str "letter")))) (vOp gIx (vName 1) (vOp gIx (vName 0) (vC (.int 1)))) (vIf (tB (vOp gEq (vName 3) (vC (.str "nought")))) (vC (.int 0)) (vName 2)))) (sNil)) (sSeq (sIf (tB (vOp gEq (vName 3) (vC (.str "copies")))) (sRet (vCb gMax (aCons (vC (.int 0)) (aCons (vOp gSub (vName 2) (vOp gMulI (vOp gIx (vName 0) (vC (.int 1))) (vOp gSub (vName 2) (vCall 3 c__law_worth (aCons (vOp gIx (vName 0) (vC (.int 2))) (aCons (vName 1) (aCons (vName 2) (aNil)))))))) (aNil))))) (sNil)) (sSeq (sSet 4 (vCall 3 c__law_worth (aCons (vOp gIx (vName 0) (vC (.int 1))) (aCons (vName 1) (aCons (vName 2) (aNil)))))) (sSeq (sIf (tB (vOp gEq (vName 3) (vC (.str "not")))) (sRet (vOp gSub (vName 2) (vName 4))) (sNil)) (sSeq (sSet 5 (vCall 3 c__law_worth (aCons (vOp gIx (vName 0) (vC (.int 2))) (aCons (vName 1) (aCons (vName 2) (aNil)))))) (sSeq (sIf (tB (vOp gInS (vName 3) (vTup (aCons (vC (.str "and")) (aCons (vC (.str "or")) (aNil)))))) (sRet (vIf (tB (vOp gEq (vName 3) (vC (.str "and")))) (vCb gMin (aCons (vName 4) (aCons (vName 5) (aNil)))) (vCb gMax (aCons (vName 4) (aCons (vName 5) (aNil)))))) (sNil)) (sSeq (sIf (tB (vOp gInS (vName 3) (vTup (aCons (vC (.str "so")) (aCons (vC (.str "with")) (aNil)))))) (sRet (vCb gMin (aCons (vName 2) (aCons (vIf (tB (vOp gEq (vName 3) (vC (.str "so")))) (vOp gAdd (vOp gSub (vName 2) (vName 4)) (vName 5)) (vOp gAdd (vName 4) (vName 5))) (aNil))))) (sNil)) (sSeq (sIf (tB (vOp gInS (vName 3) (vTup (aCons (vC (.str "both")) (aCons (vC (.str "less")) (aNil)))))) (sRet (vCb gMax (aCons (vC (.int 0)) (aCons (vIf (tB (vOp gEq (vName 3) (vC (.str "both")))) (vOp gSub (vOp gAdd (vName 4) (vName 5)) (vName 2)) (vOp gSub (vName 4) (vName 5))) (aNil))))) (sNil)) (sRet (vOp gSub (vName 2) (vCb gAbs (aCons (vOp gSub (vName 4) (vName 5)) (aNil)))))))))))))
theorem sc__law_worth : FnScope ["claim", "at", "q", "word", "x", "y"] ["claim", "at", "q"] (defScope (top 40)) := ⟨rfl, rfl, rfl, by decide +kernel, rfl, by decide +kernel, by decide +kernel⟩
theorem pl__law_worth : Plainly "_law_worth" (top 40) ["claim", "at", "q"] := fun _ _ _ _ _ _ us hl => match us, hl with | [_, _, _], _ => rfl
theorem w__law_worth (t__law_worth : Has K mg "_law_worth" (top 40)) {c__law_worth : List Dt → Sv → Rs Dt} (g__law_worth : FN P w K mg base k "_law_worth" ["claim", "at", "q"] c__law_worth) (n_abs : mg "abs" = none) (n_max : mg "max" = none) (n_min : mg "min" = none) :
    FN P w K mg base (k + 1) "_law_worth" ["claim", "at", "q"] (callS 6 (m__law_worth c__law_worth)) := by
  refine FN.of t__law_worth sc__law_worth pl__law_worth (m__law_worth c__law_worth) fun f cdv A outer s H E hr => ?_
  have tk : Takes (cxOf (L2.CX P w) P w K mg base ["claim", "at", "q", "word", "x", "y"] "_law_worth" (defScope (top 40)) f cdv A outer s H E) (fun c d _ H => E c d H) := takes_of rfl rfl rfl rfl
  have hc : (cxOf (L2.CX P w) P w K mg base ["claim", "at", "q", "word", "x", "y"] "_law_worth" (defScope (top 40)) f cdv A outer s H E).calm = true := rfl
  have hN : (["claim", "at", "q", "word", "x", "y"] : List Str).Nodup := (sc__law_worth).nd
  exact dss_cons (ds_set 3 (de_ix hr ((de_name 0).o) ((de_int).o)) hN)
    (dss_cons (ds_if (dt_cmp (o_in hr) ((de_name 3).o) ((de_tup (da_cons (de_str) (da_cons (de_str) (da_cons (de_str) (da_nil))))).o) (by rfl)) (dss_one (ds_ret (de_if (dt_cmp (o_eq hr) ((de_name 3).o) ((de_str).o) (by rfl)) (de_ix hr ((de_name 1).o) ((de_ix hr ((de_name 0).o) ((de_int).o)).o)) (de_if (dt_cmp (o_eq hr) ((de_name 3).o) ((de_str).o) (by rfl)) (de_int) (de_name 2))))) (dss_nil))
    (dss_cons (ds_if (dt_cmp (o_eq hr) ((de_name 3).o) ((de_str).o) (by rfl)) (dss_one (ds_ret (de_cb (c_max hc) (by rfl) n_max b_max (dao_cons ((de_int).o) (dao_cons ((de_op o_sub ((de_name 2).o) ((de_op o_mulI ((de_ix hr ((de_name 0).o) ((de_int).o)).o) ((de_op o_sub ((de_name 2).o) ((de_fn (ps := ["claim", "at", "q"]) g__law_worth hr (by omega) tk (da_cons (de_ix hr ((de_name 0).o) ((de_int).o)) (da_cons (de_name 1) (da_cons (de_name 2) (da_nil))))).o)).o)).o)).o) (dao_nil)))))) (dss_nil))
    (dss_cons (ds_set 4 (de_fn (ps := ["claim", "at", "q"]) g__law_worth hr (by omega) tk (da_cons (de_ix hr ((de_name 0).o) ((de_int).o)) (da_cons (de_name 1) (da_cons (de_name 2) (da_nil))))) hN)
    (dss_cons (ds_if (dt_cmp (o_eq hr) ((de_name 3).o) ((de_str).o) (by rfl)) (dss_one (ds_ret (de_op o_sub ((de_name 2).o) ((de_name 4).o)))) (dss_nil))
    (dss_cons (ds_set 5 (de_fn (ps := ["claim", "at", "q"]) g__law_worth hr (by omega) tk (da_cons (de_ix hr ((de_name 0).o) ((de_int).o)) (da_cons (de_name 1) (da_cons (de_name 2) (da_nil))))) hN)
    (dss_cons (ds_if (dt_cmp (o_in hr) ((de_name 3).o) ((de_tup (da_cons (de_str) (da_cons (de_str) (da_nil)))).o) (by rfl)) (dss_one (ds_ret (de_if (dt_cmp (o_eq hr) ((de_name 3).o) ((de_str).o) (by rfl)) (de_cb (c_min hc) (by rfl) n_min b_min (dao_cons ((de_name 4).o) (dao_cons ((de_name 5).o) (dao_nil)))) (de_cb (c_max hc) (by rfl) n_max b_max (dao_cons ((de_name 4).o) (dao_cons ((de_name 5).o) (dao_nil))))))) (dss_nil))
    (dss_cons (ds_if (dt_cmp (o_in hr) ((de_name 3).o) ((de_tup (da_cons (de_str) (da_cons (de_str) (da_nil)))).o) (by rfl)) (dss_one (ds_ret (de_cb (c_min hc) (by rfl) n_min b_min (dao_cons ((de_name 2).o) (dao_cons ((de_if (dt_cmp (o_eq hr) ((de_name 3).o) ((de_str).o) (by rfl)) (de_op o_add ((de_op o_sub ((de_name 2).o) ((de_name 4).o)).o) ((de_name 5).o)) (de_op o_add ((de_name 4).o) ((de_name 5).o))).o) (dao_nil)))))) (dss_nil))
    (dss_cons (ds_if (dt_cmp (o_in hr) ((de_name 3).o) ((de_tup (da_cons (de_str) (da_cons (de_str) (da_nil)))).o) (by rfl)) (dss_one (ds_ret (de_cb (c_max hc) (by rfl) n_max b_max (dao_cons ((de_int).o) (dao_cons ((de_if (dt_cmp (o_eq hr) ((de_name 3).o) ((de_str).o) (by rfl)) (de_op o_sub ((de_op o_add ((de_name 4).o) ((de_name 5).o)).o) ((de_name 2).o)) (de_op o_sub ((de_name 4).o) ((de_name 5).o))).o) (dao_nil)))))) (dss_nil))
    (dss_one (ds_ret (de_op o_sub ((de_name 2).o) ((de_cb c_abs (by rfl) n_abs b_abs (dao_cons ((de_op o_sub ((de_name 4).o) ((de_name 5).o)).o) (dao_nil))).o))))))))))))
def m__law_cut : Ss :=
  sSeq (sPar 2 3 (xV (vCb gAbs (aCons (vName 0) (aNil)))) (xV (vName 1))) (sSeq (sWhile (tB (vOp gGt (vName 3) (vC (.int 0)))) (sPar 2 3 (xV (vName 3)) (xV (vOp gMod (vCb gInt1 (aCons (vName 2) (aNil))) (vName 3))))) (sRet (vTup (aCons (vOp gDiv (vName 0) (vName 2)) (aCons (vOp gDiv (vName 1) (vName 2)) (aNil))))))
theorem sc__law_cut : FnScope ["p", "q", "a", "b"] ["p", "q"] (defScope (top 41)) := ⟨rfl, rfl, rfl, by decide +kernel, rfl, by decide +kernel, by decide +kernel⟩
theorem pl__law_cut : Plainly "_law_cut" (top 41) ["p", "q"] := fun _ _ _ _ _ _ us hl => match us, hl with | [_, _], _ => rfl
theorem w__law_cut (t__law_cut : Has K mg "_law_cut" (top 41)) (n_int : mg "int" = none) (n_abs : mg "abs" = none) :
    FN P w K mg base (k + 1) "_law_cut" ["p", "q"] (callS 4 (m__law_cut)) := by
  refine FN.of t__law_cut sc__law_cut pl__law_cut (m__law_cut) fun f cdv A outer s H E hr => ?_
  have tk : Takes (cxOf (L2.CX P w) P w K mg base ["p", "q", "a", "b"] "_law_cut" (defScope (top 41)) f cdv A outer s H E) (fun c d _ H => E c d H) := takes_of rfl rfl rfl rfl
  have hc : (cxOf (L2.CX P w) P w K mg base ["p", "q", "a", "b"] "_law_cut" (defScope (top 41)) f cdv A outer s H E).calm = true := rfl
  have hN : (["p", "q", "a", "b"] : List Str).Nodup := (sc__law_cut).nd
  have hp : PassesOwn (model P w) (cxOf (L2.CX P w) P w K mg base ["p", "q", "a", "b"] "_law_cut" (defScope (top 41)) f cdv A outer s H E).A (cxOf (L2.CX P w) P w K mg base ["p", "q", "a", "b"] "_law_cut" (defScope (top 41)) f cdv A outer s H E).env (cxOf (L2.CX P w) P w K mg base ["p", "q", "a", "b"] "_law_cut" (defScope (top 41)) f cdv A outer s H E).xe := PassesOwn.leaving
  exact dss_cons (ds_par 2 3 hc ((de_cb c_abs (by rfl) n_abs b_abs (dao_cons ((de_name 0).o) (dao_nil))).x) ((de_name 1).x) hN)
    (dss_cons (ds_while (dt_cmp o_gt ((de_name 3).o) ((de_int).o) (by rfl)) (dss_one (ds_par 2 3 hc ((de_name 3).x) ((de_op o_mod ((de_ct c_int (by rfl) n_int b_int (dao_cons ((de_name 2).o) (dao_nil))).o) ((de_name 3).o)).x) hN)) hp)
    (dss_one (ds_ret (de_tup (da_cons (de_op o_div ((de_name 0).o) ((de_name 2).o)) (da_cons (de_op o_div ((de_name 1).o) ((de_name 2).o)) (da_nil)))))))
def m__law_point (c__law_of : List Dt → Sv → Rs Dt) (c__law_pick : List Dt → Sv → Rs Dt) : Ss :=
  sSeq (sSet 3 (vCall 2 c__law_of (aCons (vName 0) (aCons (vName 2) (aNil))))) (sSeq (sSet 4 (vL (lCat (vL (lLst (aCons (vName 3) (aNil)))) (vL (lComp [8] (iRng1 (aCons (vName 1) (aNil))) (tgName 8) (tTrue) (vCall 2 c__law_of (aCons (vName 0) (aCons (vL (lLst (aCons (vC (.int 0)) (aCons (vName 3) (aCons (vCall 2 c__law_pick (aCons (vName 0) (aCons (vOp gAdd (vName 3) (vC (.int 1))) (aNil)))) (aCons (vCall 2 c__law_pick (aCons (vName 0) (aCons (vOp gAdd (vName 3) (vC (.int 1))) (aNil)))) (aNil))))))) (aNil))))))))) (sSeq (sSet 5 (vName 3)) (sSeq (sFor (iSeq (vSl (vName 4) (pSome (vC (.int 1))) (pNone))) (tgName 6) (sSeq (sSet 7 (vName 6)) (sWhile (tB (vOp gGt (vName 7) (vC (.int 0)))) (sAsg (tgTup 2 (tgCons (tgName 5) (tgCons (tgName 7) (tgNil)))) (vTup (aCons (vName 7) (aCons (vOp gMod (vCb gInt1 (aCons (vName 5) (aNil))) (vName 7)) (aNil)))))))) (sRet (vCb gTuple (aCons (vL (lComp [6] (iSeq (vName 4)) (tgName 6) (tTrue) (vOp gDiv (vName 6) (vName 5)))) (aNil)))))))
theorem sc__law_point : FnScope ["source", "n", "bottoms", "q", "row", "a", "x", "b", "k"] ["source", "n", "bottoms"] (defScope (top 42)) := ⟨rfl, rfl, rfl, by decide +kernel, rfl, by decide +kernel, by decide +kernel⟩
theorem pl__law_point : Plainly "_law_point" (top 42) ["source", "n", "bottoms"] := fun _ _ _ _ _ _ us hl => match us, hl with | [_, _, _], _ => rfl
theorem w__law_point (t__law_point : Has K mg "_law_point" (top 42)) {c__law_of : List Dt → Sv → Rs Dt} (g__law_of : FN P w K mg base k "_law_of" ["source", "some"] c__law_of) {c__law_pick : List Dt → Sv → Rs Dt} (g__law_pick : FN P w K mg base k "_law_pick" ["source", "many"] c__law_pick) (n_tuple : mg "tuple" = none) (n_int : mg "int" = none) (n_range : mg "range" = none) :
    FN P w K mg base (k + 1) "_law_point" ["source", "n", "bottoms"] (callS 9 (m__law_point c__law_of c__law_pick)) := by
  refine FN.of t__law_point sc__law_point pl__law_point (m__law_point c__law_of c__law_pick) fun f cdv A outer s H E hr => ?_
  have tk : Takes (cxOf (L2.CX P w) P w K mg base ["source", "n", "bottoms", "q", "row", "a", "x", "b", "k"] "_law_point" (defScope (top 42)) f cdv A outer s H E) (fun c d _ H => E c d H) := takes_of rfl rfl rfl rfl
  have hc : (cxOf (L2.CX P w) P w K mg base ["source", "n", "bottoms", "q", "row", "a", "x", "b", "k"] "_law_point" (defScope (top 42)) f cdv A outer s H E).calm = true := rfl
  have hN : (["source", "n", "bottoms", "q", "row", "a", "x", "b", "k"] : List Str).Nodup := (sc__law_point).nd
  have hp : PassesOwn (model P w) (cxOf (L2.CX P w) P w K mg base ["source", "n", "bottoms", "q", "row", "a", "x", "b", "k"] "_law_point" (defScope (top 42)) f cdv A outer s H E).A (cxOf (L2.CX P w) P w K mg base ["source", "n", "bottoms", "q", "row", "a", "x", "b", "k"] "_law_point" (defScope (top 42)) f cdv A outer s H E).env (cxOf (L2.CX P w) P w K mg base ["source", "n", "bottoms", "q", "row", "a", "x", "b", "k"] "_law_point" (defScope (top 42)) f cdv A outer s H E).xe := PassesOwn.leaving
  exact dss_cons (ds_set 3 (de_fn (ps := ["source", "some"]) g__law_of hr (by omega) tk (da_cons (de_name 0) (da_cons (de_name 2) (da_nil)))) hN)
    (dss_cons (ds_set 4 ((dl_cat ((dl_lst (da_cons (de_name 3) (da_nil))).o) ((dl_comp [("k", 8)] ((dif_range1 (by rfl) n_range (da_cons (de_name 1) (da_nil))).cc) hc hN (blk_mk (by kernel_rfl)) (fun _ _ _ _ _ => dg_name 8 hN) (fun _ _ _ _ _ => dts_nil) (fun _ _ _ _ _ => de_fn (ps := ["source", "some"]) (W := W0) g__law_of hr (by omega) takes0 (da_cons (de_name 0) (da_cons ((dl_lst (da_cons (de_int) (da_cons (de_name 3) (da_cons (de_fn (ps := ["source", "many"]) (W := W0) g__law_pick hr (by omega) takes0 (da_cons (de_name 0) (da_cons (de_op o_add ((de_name 3).o) ((de_int).o)) (da_nil)))) (da_cons (de_fn (ps := ["source", "many"]) (W := W0) g__law_pick hr (by omega) takes0 (da_cons (de_name 0) (da_cons (de_op o_add ((de_name 3).o) ((de_int).o)) (da_nil)))) (da_nil)))))).v) (da_nil))))).o)).v) hN)
    (dss_cons (ds_set 5 (de_name 3) hN)
    (dss_cons (ds_for (dif_seq (de_slice ((de_name 4).o) (dp_some (de_int)) (dp_none))) (dg_name 6 hN) (dss_cons (ds_set 7 (de_name 6) hN)
    (dss_one (ds_while (dt_cmp o_gt ((de_name 7).o) ((de_int).o) (by rfl)) (dss_one (ds_asg (de_tup (da_cons (de_name 7) (da_cons (de_op o_mod ((de_ct c_int (by rfl) n_int b_int (dao_cons ((de_name 5).o) (dao_nil))).o) ((de_name 7).o)) (da_nil)))) (dg_tup hc (dgs_cons (dg_name 5 hN) (dgs_cons (dg_name 7 hN) (dgs_nil)))))) hp))) hp hc)
    (dss_one (ds_ret (de_ct c_tuple (by rfl) n_tuple b_tuple (dao_cons ((dl_comp [("x", 6)] (dic_seq ((de_name 4).o)) hc hN (blk_mk (by kernel_rfl)) (fun _ _ _ _ _ => dg_name 6 hN) (fun _ _ _ _ _ => dts_nil) (fun _ _ _ _ _ => de_op o_div ((de_name 6).o) ((de_name 5).o))).o) (dao_nil))))))))
def m__law_not : Ss :=
  sRet (vIf (tTru' (vName 1)) (vTup (aCons (vC (.str "so")) (aCons (vName 0) (aCons (vTup (aCons (vC (.str "nought")) (aNil))) (aNil))))) (vTup (aCons (vC (.str "not")) (aCons (vName 0) (aNil)))))
theorem sc__law_not : FnScope ["p", "is_so"] ["p", "is_so"] (defScope (top 43)) := ⟨rfl, rfl, rfl, by decide +kernel, rfl, by decide +kernel, by decide +kernel⟩
theorem pl__law_not : Plainly "_law_not" (top 43) ["p", "is_so"] := fun _ _ _ _ _ _ us hl => match us, hl with | [_, _], _ => rfl
theorem w__law_not (t__law_not : Has K mg "_law_not" (top 43)) :
    FN P w K mg base (k + 1) "_law_not" ["p", "is_so"] (callS 2 (m__law_not)) := by
  refine FN.of t__law_not sc__law_not pl__law_not (m__law_not) fun f cdv A outer s H E hr => ?_
  have tk : Takes (cxOf (L2.CX P w) P w K mg base ["p", "is_so"] "_law_not" (defScope (top 43)) f cdv A outer s H E) (fun c d _ H => E c d H) := takes_of rfl rfl rfl rfl
  have hc : (cxOf (L2.CX P w) P w K mg base ["p", "is_so"] "_law_not" (defScope (top 43)) f cdv A outer s H E).calm = true := rfl
  have hN : (["p", "is_so"] : List Str).Nodup := (sc__law_not).nd
  exact dss_one (ds_ret (de_if (dt_truth ((de_name 1).o)) (de_tup (da_cons (de_str) (da_cons (de_name 0) (da_cons (de_tup (da_cons (de_str) (da_nil))) (da_nil))))) (de_tup (da_cons (de_str) (da_cons (de_name 0) (da_nil))))))
def m__law_or (c__law_less : List Dt → Sv → Rs Dt) : Ss :=
  sRet (vIf (tTru' (vName 2)) (vTup (aCons (vC (.str "so")) (aCons (vTup (aCons (vC (.str "so")) (aCons (vName 0) (aCons (vName 1) (aNil))))) (aCons (vName 1) (aNil))))) (vTup (aCons (vC (.str "with")) (aCons (vCall 3 c__law_less (aCons (vName 0) (aCons (vName 1) (aCons (vName 2) (aNil))))) (aCons (vName 1) (aNil))))))
theorem sc__law_or : FnScope ["p", "q", "is_so"] ["p", "q", "is_so"] (defScope (top 44)) := ⟨rfl, rfl, rfl, by decide +kernel, rfl, by decide +kernel, by decide +kernel⟩
theorem pl__law_or : Plainly "_law_or" (top 44) ["p", "q", "is_so"] := fun _ _ _ _ _ _ us hl => match us, hl with | [_, _, _], _ => rfl
theorem w__law_or (t__law_or : Has K mg "_law_or" (top 44)) {c__law_less : List Dt → Sv → Rs Dt} (g__law_less : FN P w K mg base k "_law_less" ["p", "q", "is_so"] c__law_less) :
    FN P w K mg base (k + 1) "_law_or" ["p", "q", "is_so"] (callS 3 (m__law_or c__law_less)) := by
  refine FN.of t__law_or sc__law_or pl__law_or (m__law_or c__law_less) fun f cdv A outer s H E hr => ?_
  have tk : Takes (cxOf (L2.CX P w) P w K mg base ["p", "q", "is_so"] "_law_or" (defScope (top 44)) f cdv A outer s H E) (fun c d _ H => E c d H) := takes_of rfl rfl rfl rfl
  have hc : (cxOf (L2.CX P w) P w K mg base ["p", "q", "is_so"] "_law_or" (defScope (top 44)) f cdv A outer s H E).calm = true := rfl
  have hN : (["p", "q", "is_so"] : List Str).Nodup := (sc__law_or).nd
  exact dss_one (ds_ret (de_if (dt_truth ((de_name 2).o)) (de_tup (da_cons (de_str) (da_cons (de_tup (da_cons (de_str) (da_cons (de_name 0) (da_cons (de_name 1) (da_nil))))) (da_cons (de_name 1) (da_nil))))) (de_tup (da_cons (de_str) (da_cons (de_fn (ps := ["p", "q", "is_so"]) g__law_less hr (by omega) tk (da_cons (de_name 0) (da_cons (de_name 1) (da_cons (de_name 2) (da_nil))))) (da_cons (de_name 1) (da_nil)))))))
def m__law_both (c__law_not : List Dt → Sv → Rs Dt) : Ss :=
  sSeq (sIf (tTru' (vName 2)) (sRet (vCall 2 c__law_not (aCons (vTup (aCons (vC (.str "so")) (aCons (vName 0) (aCons (vCall 2 c__law_not (aCons (vName 1) (aCons (vC (.bl true)) (aNil)))) (aNil))))) (aCons (vC (.bl true)) (aNil))))) (sNil)) (sRet (vTup (aCons (vC (.str "not")) (aCons (vTup (aCons (vC (.str "with")) (aCons (vTup (aCons (vC (.str "not")) (aCons (vName 0) (aNil)))) (aCons (vTup (aCons (vC (.str "not")) (aCons (vName 1) (aNil)))) (aNil))))) (aNil)))))
theorem sc__law_both : FnScope ["p", "q", "is_so"] ["p", "q", "is_so"] (defScope (top 45)) := ⟨rfl, rfl, rfl, by decide +kernel, rfl, by decide +kernel, by decide +kernel⟩
theorem pl__law_both : Plainly "_law_both" (top 45) ["p", "q", "is_so"] := fun _ _ _ _ _ _ us hl => match us, hl with | [_, _, _], _ => rfl
theorem w__law_both (t__law_both : Has K mg "_law_both" (top 45)) {c__law_not : List Dt → Sv → Rs Dt} (g__law_not : FN P w K mg base k "_law_not" ["p", "is_so"] c__law_not) :
    FN P w K mg base (k + 1) "_law_both" ["p", "q", "is_so"] (callS 3 (m__law_both c__law_not)) := by
  refine FN.of t__law_both sc__law_both pl__law_both (m__law_both c__law_not) fun f cdv A outer s H E hr => ?_
  have tk : Takes (cxOf (L2.CX P w) P w K mg base ["p", "q", "is_so"] "_law_both" (defScope (top 45)) f cdv A outer s H E) (fun c d _ H => E c d H) := takes_of rfl rfl rfl rfl
  have hc : (cxOf (L2.CX P w) P w K mg base ["p", "q", "is_so"] "_law_both" (defScope (top 45)) f cdv A outer s H E).calm = true := rfl
  have hN : (["p", "q", "is_so"] : List Str).Nodup := (sc__law_both).nd
  exact dss_cons (ds_if (dt_truth ((de_name 2).o)) (dss_one (ds_ret (de_fn (ps := ["p", "is_so"]) g__law_not hr (by omega) tk (da_cons (de_tup (da_cons (de_str) (da_cons (de_name 0) (da_cons (de_fn (ps := ["p", "is_so"]) g__law_not hr (by omega) tk (da_cons (de_name 1) (da_cons (de_bl) (da_nil)))) (da_nil))))) (da_cons (de_bl) (da_nil)))))) (dss_nil))
    (dss_one (ds_ret (de_tup (da_cons (de_str) (da_cons (de_tup (da_cons (de_str) (da_cons (de_tup (da_cons (de_str) (da_cons (de_name 0) (da_nil)))) (da_cons (de_tup (da_cons (de_str) (da_cons (de_name 1) (da_nil)))) (da_nil))))) (da_nil))))))
def m__law_less (c__law_not : List Dt → Sv → Rs Dt) (c__law_both : List Dt → Sv → Rs Dt) : Ss :=
  sRet (vIf (tTru' (vName 2)) (vCall 2 c__law_not (aCons (vTup (aCons (vC (.str "so")) (aCons (vName 0) (aCons (vName 1) (aNil))))) (aCons (vC (.bl true)) (aNil)))) (vCall 3 c__law_both (aCons (vName 0) (aCons (vTup (aCons (vC (.str "not")) (aCons (vName 1) (aNil)))) (aCons (vC (.bl false)) (aNil))))))
theorem sc__law_less : FnScope ["p", "q", "is_so"] ["p", "q", "is_so"] (defScope (top 46)) := ⟨rfl, rfl, rfl, by decide +kernel, rfl, by decide +kernel, by decide +kernel⟩
theorem pl__law_less : Plainly "_law_less" (top 46) ["p", "q", "is_so"] := fun _ _ _ _ _ _ us hl => match us, hl with | [_, _, _], _ => rfl
theorem w__law_less (t__law_less : Has K mg "_law_less" (top 46)) {c__law_not : List Dt → Sv → Rs Dt} (g__law_not : FN P w K mg base k "_law_not" ["p", "is_so"] c__law_not) {c__law_both : List Dt → Sv → Rs Dt} (g__law_both : FN P w K mg base k "_law_both" ["p", "q", "is_so"] c__law_both) :
    FN P w K mg base (k + 1) "_law_less" ["p", "q", "is_so"] (callS 3 (m__law_less c__law_not c__law_both)) := by
  refine FN.of t__law_less sc__law_less pl__law_less (m__law_less c__law_not c__law_both) fun f cdv A outer s H E hr => ?_
  have tk : Takes (cxOf (L2.CX P w) P w K mg base ["p", "q", "is_so"] "_law_less" (defScope (top 46)) f cdv A outer s H E) (fun c d _ H => E c d H) := takes_of rfl rfl rfl rfl
  have hc : (cxOf (L2.CX P w) P w K mg base ["p", "q", "is_so"] "_law_less" (defScope (top 46)) f cdv A outer s H E).calm = true := rfl
  have hN : (["p", "q", "is_so"] : List Str).Nodup := (sc__law_less).nd
  exact dss_one (ds_ret (de_if (dt_truth ((de_name 2).o)) (de_fn (ps := ["p", "is_so"]) g__law_not hr (by omega) tk (da_cons (de_tup (da_cons (de_str) (da_cons (de_name 0) (da_cons (de_name 1) (da_nil))))) (da_cons (de_bl) (da_nil)))) (de_fn (ps := ["p", "q", "is_so"]) g__law_both hr (by omega) tk (da_cons (de_name 0) (da_cons (de_tup (da_cons (de_str) (da_cons (de_name 1) (da_nil)))) (da_cons (de_bl) (da_nil)))))))
def m__law_two (c__law_less : List Dt → Sv → Rs Dt) (c__law_both : List Dt → Sv → Rs Dt) (c__law_not : List Dt → Sv → Rs Dt) (c__law_or : List Dt → Sv → Rs Dt) : Ss :=
  sSeq (sIf (tB (vOp gEq (vName 0) (vC (.str "or")))) (sRet (vCall 3 c__law_or (aCons (vName 1) (aCons (vName 2) (aCons (vName 3) (aNil)))))) (sNil)) (sSeq (sIf (tB (vOp gEq (vName 0) (vC (.str "and")))) (sRet (vCall 2 c__law_not (aCons (vCall 3 c__law_or (aCons (vCall 2 c__law_not (aCons (vName 1) (aCons (vName 3) (aNil)))) (aCons (vCall 2 c__law_not (aCons (vName 2) (aCons (vName 3) (aNil)))) (aCons (vName 3) (aNil))))) (aCons (vName 3) (aNil))))) (sNil)) (sSeq (sIf (tB (vOp gEq (vName 0) (vC (.str "both")))) (sRet (vCall 3 c__law_both (aCons (vName 1) (aCons (vName 2) (aCons (vName 3) (aNil)))))) (sNil)) (sSeq (sIf (tB (vOp gEq (vName 0) (vC (.str "less")))) (sRet (vCall 3 c__law_less (aCons (vName 1) (aCons (vName 2) (aCons (vName 3) (aNil)))))) (sNil)) (sSeq (sIf (tB (vOp gEq (vName 0) (vC (.str "so")))) (sRet (vIf (tTru' (vName 3)) (vTup (aCons (vC (.str "so")) (aCons (vName 1) (aCons (vName 2) (aNil))))) (vTup (aCons (vC (.str "with")) (aCons (vTup (aCons (vC (.str "not")) (aCons (vName 1) (aNil)))) (aCons (vName 2) (aNil))))))) (sNil)) (sSeq (sIf (tB (vOp gEq (vName 0) (vC (.str "with")))) (sRet (vIf (tTru' (vName 3)) (vTup (aCons (vC (.str "so")) (aCons (vCall 2 c__law_not (aCons (vName 1) (aCons (vC (.bl true)) (aNil)))) (aCons (vName 2) (aNil))))) (vTup (aCons (vC (.str "with")) (aCons (vName 1) (aCons (vName 2) (aNil))))))) (sNil)) (sSeq (sIf (tTru' (vName 3)) (sRet (vCall 3 c__law_both (aCons (vTup (aCons (vC (.str "so")) (aCons (vName 1) (aCons (vName 2) (aNil))))) (aCons (vTup (aCons (vC (.str "so")) (aCons (vName 2) (aCons (vName 1) (aNil))))) (aCons (vC (.bl true)) (aNil)))))) (sNil)) (sRet (vTup (aCons (vC (.str "not")) (aCons (vTup (aCons (vC (.str "with")) (aCons (vCall 3 c__law_less (aCons (vName 1) (aCons (vName 2) (aCons (vC (.bl false)) (aNil))))) (aCons (vCall 3 c__law_less (aCons (vName 2) (aCons (vName 1) (aCons (vC (.bl false)) (aNil))))) (aNil))))) (aNil)))))))))))
theorem sc__law_two : FnScope ["word", "p", "q", "is_so"] ["word", "p", "q", "is_so"] (defScope (top 47)) := ⟨rfl, rfl, rfl, by decide +kernel, rfl, by decide +kernel, by decide +kernel⟩
theorem pl__law_two : Plainly "_law_two" (top 47) ["word", "p", "q", "is_so"] := fun _ _ _ _ _ _ us hl => match us, hl with | [_, _, _, _], _ => rfl
theorem w__law_two (t__law_two : Has K mg "_law_two" (top 47)) {c__law_less : List Dt → Sv → Rs Dt} (g__law_less : FN P w K mg base k "_law_less" ["p", "q", "is_so"] c__law_less) {c__law_both : List Dt → Sv → Rs Dt} (g__law_both : FN P w K mg base k "_law_both" ["p", "q", "is_so"] c__law_both) {c__law_not : List Dt → Sv → Rs Dt} (g__law_not : FN P w K mg base k "_law_not" ["p", "is_so"] c__law_not) {c__law_or : List Dt → Sv → Rs Dt} (g__law_or : FN P w K mg base k "_law_or" ["p", "q", "is_so"] c__law_or) :
    FN P w K mg base (k + 1) "_law_two" ["word", "p", "q", "is_so"] (callS 4 (m__law_two c__law_less c__law_both c__law_not c__law_or)) := by
  refine FN.of t__law_two sc__law_two pl__law_two (m__law_two c__law_less c__law_both c__law_not c__law_or) fun f cdv A outer s H E hr => ?_
  have tk : Takes (cxOf (L2.CX P w) P w K mg base ["word", "p", "q", "is_so"] "_law_two" (defScope (top 47)) f cdv A outer s H E) (fun c d _ H => E c d H) := takes_of rfl rfl rfl rfl
  have hc : (cxOf (L2.CX P w) P w K mg base ["word", "p", "q", "is_so"] "_law_two" (defScope (top 47)) f cdv A outer s H E).calm = true := rfl
  have hN : (["word", "p", "q", "is_so"] : List Str).Nodup := (sc__law_two).nd
  exact dss_cons (ds_if (dt_cmp (o_eq hr) ((de_name 0).o) ((de_str).o) (by rfl)) (dss_one (ds_ret (de_fn (ps := ["p", "q", "is_so"]) g__law_or hr (by omega) tk (da_cons (de_name 1) (da_cons (de_name 2) (da_cons (de_name 3) (da_nil))))))) (dss_nil))
    (dss_cons (ds_if (dt_cmp (o_eq hr) ((de_name 0).o) ((de_str).o) (by rfl)) (dss_one (ds_ret (de_fn (ps := ["p", "is_so"]) g__law_not hr (by omega) tk (da_cons (de_fn (ps := ["p", "q", "is_so"]) g__law_or hr (by omega) tk (da_cons (de_fn (ps := ["p", "is_so"]) g__law_not hr (by omega) tk (da_cons (de_name 1) (da_cons (de_name 3) (da_nil)))) (da_cons (de_fn (ps := ["p", "is_so"]) g__law_not hr (by omega) tk (da_cons (de_name 2) (da_cons (de_name 3) (da_nil)))) (da_cons (de_name 3) (da_nil))))) (da_cons (de_name 3) (da_nil)))))) (dss_nil))
    (dss_cons (ds_if (dt_cmp (o_eq hr) ((de_name 0).o) ((de_str).o) (by rfl)) (dss_one (ds_ret (de_fn (ps := ["p", "q", "is_so"]) g__law_both hr (by omega) tk (da_cons (de_name 1) (da_cons (de_name 2) (da_cons (de_name 3) (da_nil))))))) (dss_nil))
    (dss_cons (ds_if (dt_cmp (o_eq hr) ((de_name 0).o) ((de_str).o) (by rfl)) (dss_one (ds_ret (de_fn (ps := ["p", "q", "is_so"]) g__law_less hr (by omega) tk (da_cons (de_name 1) (da_cons (de_name 2) (da_cons (de_name 3) (da_nil))))))) (dss_nil))
    (dss_cons (ds_if (dt_cmp (o_eq hr) ((de_name 0).o) ((de_str).o) (by rfl)) (dss_one (ds_ret (de_if (dt_truth ((de_name 3).o)) (de_tup (da_cons (de_str) (da_cons (de_name 1) (da_cons (de_name 2) (da_nil))))) (de_tup (da_cons (de_str) (da_cons (de_tup (da_cons (de_str) (da_cons (de_name 1) (da_nil)))) (da_cons (de_name 2) (da_nil)))))))) (dss_nil))
    (dss_cons (ds_if (dt_cmp (o_eq hr) ((de_name 0).o) ((de_str).o) (by rfl)) (dss_one (ds_ret (de_if (dt_truth ((de_name 3).o)) (de_tup (da_cons (de_str) (da_cons (de_fn (ps := ["p", "is_so"]) g__law_not hr (by omega) tk (da_cons (de_name 1) (da_cons (de_bl) (da_nil)))) (da_cons (de_name 2) (da_nil))))) (de_tup (da_cons (de_str) (da_cons (de_name 1) (da_cons (de_name 2) (da_nil)))))))) (dss_nil))
    (dss_cons (ds_if (dt_truth ((de_name 3).o)) (dss_one (ds_ret (de_fn (ps := ["p", "q", "is_so"]) g__law_both hr (by omega) tk (da_cons (de_tup (da_cons (de_str) (da_cons (de_name 1) (da_cons (de_name 2) (da_nil))))) (da_cons (de_tup (da_cons (de_str) (da_cons (de_name 2) (da_cons (de_name 1) (da_nil))))) (da_cons (de_bl) (da_nil))))))) (dss_nil))
    (dss_one (ds_ret (de_tup (da_cons (de_str) (da_cons (de_tup (da_cons (de_str) (da_cons (de_fn (ps := ["p", "q", "is_so"]) g__law_less hr (by omega) tk (da_cons (de_name 1) (da_cons (de_name 2) (da_cons (de_bl) (da_nil))))) (da_cons (de_fn (ps := ["p", "q", "is_so"]) g__law_less hr (by omega) tk (da_cons (de_name 2) (da_cons (de_name 1) (da_cons (de_bl) (da_nil))))) (da_nil))))) (da_nil))))))))))))
def m__law_form (c__law_nodes : List Dt → Sv → Rs Dt) (c__law_not : List Dt → Sv → Rs Dt) (c__law_both : List Dt → Sv → Rs Dt) (c__law_two : List Dt → Sv → Rs Dt) (c__law_sides : List Dt → Sv → Rs Dt) (c__law_form : List Dt → Sv → Rs Dt) : Ss :=
  sSeq (sSet 2 (vL (lComp [6] (iSeq (vCall 1 c__law_sides (aCons (vName 0) (aNil)))) (tgName 6) (tTrue) (vCall 2 c__law_form (aCons (vName 6) (aCons (vName 1) (aNil))))))) (sSeq (sIf (tB (vOp gInS (vC .non) (vName 2))) (sRet (vC .non)) (sNil)) (sSeq (sSet 3 (vOp gIx (vName 0) (vC (.int 0)))) (sSeq (sIf (tB (vOp gInS (vName 3) (vTup (aCons (vC (.str "letter")) (aCons (vC (.str "nought")) (aNil)))))) (sRet (vName 0)) (sNil)) (sSeq (sIf (tOr' (tB (vOp gEq (vName 3) (vC (.str "one")))) (tAnd' (tB (vOp gEq (vName 3) (vC (.str "copies")))) (tB (vOp gEq (vOp gIx (vName 0) (vC (.int 1))) (vC (.int 0)))))) (sRet (vCall 2 c__law_not (aCons (vTup (aCons (vC (.str "nought")) (aNil))) (aCons (vName 1) (aNil))))) (sNil)) (sSeq (sIf (tB (vOp gEq (vName 3) (vC (.str "not")))) (sSet 4 (vCall 2 c__law_not (aCons (vOp gIx (vName 2) (vC (.int 0))) (aCons (vName 1) (aNil))))) (sIf (tB (vOp gEq (vName 3) (vC (.str "copies")))) (sSeq (sSet 4 (vOp gIx (vName 2) (vC (.int 0)))) (sFor (iRng1 (aCons (vOp gSub (vOp gIx (vName 0) (vC (.int 1))) (vC (.int 1))) (aNil))) (tgName 5) (sSeq (sSet 4 (vIf (tB (vOp gIsNot (vName 4) (vC .non))) (vCall 3 c__law_both (aCons (vName 4) (aCons (vOp gIx (vName 2) (vC (.int 0))) (aCons (vName 1) (aNil))))) (vC .non))) (sSet 4 (vIf (tAnd' (tB (vOp gIsNot (vName 4) (vC .non))) (tB (vOp gLt (vCall 1 c__law_nodes (aCons (vName 4) (aNil))) (vC (.int 1101))))) (vName 4) (vC .non)))))) (sSet 4 (vCall 4 c__law_two (aCons (vName 3) (aCons (vOp gIx (vName 2) (vC (.int 0))) (aCons (vOp gIx (vName 2) (vC (.int 1))) (aCons (vName 1) (aNil))))))))) (sRet (vIf (tAnd' (tB (vOp gIsNot (vName 4) (vC .non))) (tB (vOp gLt (vCall 1 c__law_nodes (aCons (vName 4) (aNil))) (vC (.int 1101))))) (vName 4) (vC .non))))))))
theorem sc__law_form : FnScope ["claim", "is_so", "sides", "word", "found", "turn", "side"] ["claim", "is_so"] (defScope (top 48)) := ⟨rfl, rfl, rfl, by decide +kernel, rfl, by decide +kernel, by decide +kernel⟩
theorem pl__law_form : Plainly "_law_form" (top 48) ["claim", "is_so"] := fun _ _ _ _ _ _ us hl => match us, hl with | [_, _], _ => rfl
theorem w__law_form (t__law_form : Has K mg "_law_form" (top 48)) {c__law_nodes : List Dt → Sv → Rs Dt} (g__law_nodes : FN P w K mg base k "_law_nodes" ["claim"] c__law_nodes) {c__law_not : List Dt → Sv → Rs Dt} (g__law_not : FN P w K mg base k "_law_not" ["p", "is_so"] c__law_not) {c__law_both : List Dt → Sv → Rs Dt} (g__law_both : FN P w K mg base k "_law_both" ["p", "q", "is_so"] c__law_both) {c__law_two : List Dt → Sv → Rs Dt} (g__law_two : FN P w K mg base k "_law_two" ["word", "p", "q", "is_so"] c__law_two) {c__law_sides : List Dt → Sv → Rs Dt} (g__law_sides : FN P w K mg base k "_law_sides" ["claim"] c__law_sides) {c__law_form : List Dt → Sv → Rs Dt} (g__law_form : FN P w K mg base k "_law_form" ["claim", "is_so"] c__law_form) (n_range : mg "range" = none) :
    FN P w K mg base (k + 1) "_law_form" ["claim", "is_so"] (callS 7 (m__law_form c__law_nodes c__law_not c__law_both c__law_two c__law_sides c__law_form)) := by
  refine FN.of t__law_form sc__law_form pl__law_form (m__law_form c__law_nodes c__law_not c__law_both c__law_two c__law_sides c__law_form) fun f cdv A outer s H E hr => ?_
  have tk : Takes (cxOf (L2.CX P w) P w K mg base ["claim", "is_so", "sides", "word", "found", "turn", "side"] "_law_form" (defScope (top 48)) f cdv A outer s H E) (fun c d _ H => E c d H) := takes_of rfl rfl rfl rfl
  have hc : (cxOf (L2.CX P w) P w K mg base ["claim", "is_so", "sides", "word", "found", "turn", "side"] "_law_form" (defScope (top 48)) f cdv A outer s H E).calm = true := rfl
  have hN : (["claim", "is_so", "sides", "word", "found", "turn", "side"] : List Str).Nodup := (sc__law_form).nd
  have hp : PassesOwn (model P w) (cxOf (L2.CX P w) P w K mg base ["claim", "is_so", "sides", "word", "found", "turn", "side"] "_law_form" (defScope (top 48)) f cdv A outer s H E).A (cxOf (L2.CX P w) P w K mg base ["claim", "is_so", "sides", "word", "found", "turn", "side"] "_law_form" (defScope (top 48)) f cdv A outer s H E).env (cxOf (L2.CX P w) P w K mg base ["claim", "is_so", "sides", "word", "found", "turn", "side"] "_law_form" (defScope (top 48)) f cdv A outer s H E).xe := PassesOwn.leaving
  exact dss_cons (ds_setLc 2 [("side", 6)] (dic_seq ((de_fn (ps := ["claim"]) g__law_sides hr (by omega) tk (da_cons (de_name 0) (da_nil))).o)) hc hN (blk_mk (by kernel_rfl)) (by rfl) (by rfl) (by rfl) (fun _ _ _ _ _ => dg_name 6 hN) (fun _ _ _ _ _ => dts_nil) (fun _ _ _ _ _ => de_fn (ps := ["claim", "is_so"]) (W := W0) g__law_form hr (by omega) takes0 (da_cons (de_name 6) (da_cons (de_name 1) (da_nil)))))
    (dss_cons (ds_if (dt_cmp (o_in hr) ((de_non).o) ((de_name 2).o) (by rfl)) (dss_one (ds_ret (de_non))) (dss_nil))
    (dss_cons (ds_set 3 (de_ix hr ((de_name 0).o) ((de_int).o)) hN)
    (dss_cons (ds_if (dt_cmp (o_in hr) ((de_name 3).o) ((de_tup (da_cons (de_str) (da_cons (de_str) (da_nil)))).o) (by rfl)) (dss_one (ds_ret (de_name 0))) (dss_nil))
    (dss_cons (ds_if ((dw_or (dt_cmp (o_eq hr) ((de_name 3).o) ((de_str).o) (by rfl)) (dw_or1 ((dw_and (dt_cmp (o_eq hr) ((de_name 3).o) ((de_str).o) (by rfl)) (dw_and1 (dt_cmp (o_eq hr) ((de_ix hr ((de_name 0).o) ((de_int).o)).o) ((de_int).o) (by rfl)))).t))).t) (dss_one (ds_ret (de_fn (ps := ["p", "is_so"]) g__law_not hr (by omega) tk (da_cons (de_tup (da_cons (de_str) (da_nil))) (da_cons (de_name 1) (da_nil)))))) (dss_nil))
    (dss_cons (ds_if (dt_cmp (o_eq hr) ((de_name 3).o) ((de_str).o) (by rfl)) (dss_one (ds_set 4 (de_fn (ps := ["p", "is_so"]) g__law_not hr (by omega) tk (da_cons (de_ix hr ((de_name 2).o) ((de_int).o)) (da_cons (de_name 1) (da_nil)))) hN)) (dss_one (ds_if (dt_cmp (o_eq hr) ((de_name 3).o) ((de_str).o) (by rfl)) (dss_cons (ds_set 4 (de_ix hr ((de_name 2).o) ((de_int).o)) hN)
    (dss_one (ds_for (dif_range1 (by rfl) n_range (da_cons (de_op o_sub ((de_ix hr ((de_name 0).o) ((de_int).o)).o) ((de_int).o)) (da_nil))) (dg_name 5 hN) (dss_cons (ds_set 4 (de_if (dt_cmp o_isnot ((de_name 4).o) ((de_non).o) (by rfl)) (de_fn (ps := ["p", "q", "is_so"]) g__law_both hr (by omega) tk (da_cons (de_name 4) (da_cons (de_ix hr ((de_name 2).o) ((de_int).o)) (da_cons (de_name 1) (da_nil))))) (de_non)) hN)
    (dss_one (ds_set 4 (de_if ((dw_and (dt_cmp o_isnot ((de_name 4).o) ((de_non).o) (by rfl)) (dw_and1 (dt_cmp o_lt ((de_fn (ps := ["claim"]) g__law_nodes hr (by omega) tk (da_cons (de_name 4) (da_nil))).o) ((de_int).o) (by rfl)))).t) (de_name 4) (de_non)) hN))) hp hc))) (dss_one (ds_set 4 (de_fn (ps := ["word", "p", "q", "is_so"]) g__law_two hr (by omega) tk (da_cons (de_name 3) (da_cons (de_ix hr ((de_name 2).o) ((de_int).o)) (da_cons (de_ix hr ((de_name 2).o) ((de_int).o)) (da_cons (de_name 1) (da_nil)))))) hN)))))
    (dss_one (ds_ret (de_if ((dw_and (dt_cmp o_isnot ((de_name 4).o) ((de_non).o) (by rfl)) (dw_and1 (dt_cmp o_lt ((de_fn (ps := ["claim"]) g__law_nodes hr (by omega) tk (da_cons (de_name 4) (da_nil))).o) ((de_int).o) (by rfl)))).t) (de_name 4) (de_non)))))))))
def m__law_got (c_so_form : List Dt → Sv → Rs Dt) (c_with_form : List Dt → Sv → Rs Dt) : Ss :=
  sTry "TooMany" (sRet (vL (lLst (aCons (vC (.str "told")) (aCons (vIf (tTru' (vName 1)) (vCall 1 c_so_form (aCons (vName 0) (aNil))) (vCall 1 c_with_form (aCons (vName 0) (aNil)))) (aNil)))))) (sRet (vL (lLst (aCons (vC (.str "many")) (aNil)))))
theorem sc__law_got : FnScope ["claim", "is_so"] ["claim", "is_so"] (defScope (top 49)) := ⟨rfl, rfl, rfl, by decide +kernel, rfl, by decide +kernel, by decide +kernel⟩
theorem pl__law_got : Plainly "_law_got" (top 49) ["claim", "is_so"] := fun _ _ _ _ _ _ us hl => match us, hl with | [_, _], _ => rfl
theorem w__law_got (t__law_got : Has K mg "_law_got" (top 49)) {c_so_form : List Dt → Sv → Rs Dt} (g_so_form : FN P w K mg base k "so_form" ["claim"] c_so_form) {c_with_form : List Dt → Sv → Rs Dt} (g_with_form : FN P w K mg base k "with_form" ["claim"] c_with_form) (x_TooMany : ExC K mg "TooMany") :
    FN P w K mg base (k + 1) "_law_got" ["claim", "is_so"] (callS 2 (m__law_got c_so_form c_with_form)) := by
  refine FN.of t__law_got sc__law_got pl__law_got (m__law_got c_so_form c_with_form) fun f cdv A outer s H E hr => ?_
  have tk : Takes (cxOf (L2.CX P w) P w K mg base ["claim", "is_so"] "_law_got" (defScope (top 49)) f cdv A outer s H E) (fun c d _ H => E c d H) := takes_of rfl rfl rfl rfl
  have hc : (cxOf (L2.CX P w) P w K mg base ["claim", "is_so"] "_law_got" (defScope (top 49)) f cdv A outer s H E).calm = true := rfl
  have hN : (["claim", "is_so"] : List Str).Nodup := (sc__law_got).nd
  exact dss_one (ds_tryX x_TooMany rfl rfl tk (fun _ _ _ tk hp => dss_one (ds_ret ((dl_lst (da_cons (de_str) (da_cons (de_if (dt_truth ((de_name 1).o)) (de_fn (ps := ["claim"]) g_so_form hr (by omega) tk (da_cons (de_name 0) (da_nil))) (de_fn (ps := ["claim"]) g_with_form hr (by omega) tk (da_cons (de_name 0) (da_nil)))) (da_nil)))).v))) (fun _ _ => dss_one (ds_ret ((dl_lst (da_cons (de_str) (da_nil))).v))))
def m_law (c__law_got : List Dt → Sv → Rs Dt) (c_worth_at : List Dt → Sv → Rs Dt) (c__law_cut : List Dt → Sv → Rs Dt) (c__law_worth : List Dt → Sv → Rs Dt) (c__law_point : List Dt → Sv → Rs Dt) (c__law_parts : List Dt → Sv → Rs Dt) (c__law_form : List Dt → Sv → Rs Dt) (c_parts_of : List Dt → Sv → Rs Dt) (c_claim_nodes : List Dt → Sv → Rs Dt) (c__law_nodes : List Dt → Sv → Rs Dt) (c__law_claim : List Dt → Sv → Rs Dt) (c__law_of : List Dt → Sv → Rs Dt) (c__law_pick : List Dt → Sv → Rs Dt) : Ss :=
  sSeq (sFor (iRng1 (aCons (vC (.int 3)) (aNil))) (tgName 2) (sSeq (sSet 3 (vL (lSl (vL (lLst (aCons (vC (.str "x")) (aCons (vC (.str "y")) (aCons (vC (.str "zeta")) (aNil)))))) (pNone) (pSome (vCall 2 c__law_pick (aCons (vName 1) (aCons (vC (.int 4)) (aNil)))))))) (sSeq (sSet 4 (vCall 4 c__law_claim (aCons (vName 1) (aCons (vName 3) (aCons (vIf (tB (vOp gEq (vCall 2 c__law_pick (aCons (vName 1) (aCons (vC (.int 4)) (aNil)))) (vC (.int 0)))) (vC (.int 4)) (vC (.int 3))) (aCons (vCall 2 c__law_of (aCons (vName 1) (aCons (vL (lLst (aCons (vC (.int 2)) (aCons (vC (.int 4)) (aCons (vC (.int 30)) (aNil)))))) (aNil)))) (aNil))))))) (sSeq (sIf (tOr' (tB (vOp gNe (vCall 1 c_claim_nodes (aCons (vName 4) (aNil))) (vCall 1 c__law_nodes (aCons (vName 4) (aNil))))) (tB (vOp gNe (vL (lCb gList (aCons (vCall 1 c_parts_of (aCons (vName 4) (aNil))) (aNil)))) (vCall 1 c__law_parts (aCons (vName 4) (aNil)))))) (sRet (vC (.bl false))) (sNil)) (sFor (iSeq (vTup (aCons (vC (.bl true)) (aCons (vC (.bl false)) (aNil))))) (tgName 5) (sSeq (sPar 6 7 (xV (vCall 2 c__law_form (aCons (vName 4) (aCons (vName 5) (aNil))))) (xV (vCb gRepr (aCons (vName 4) (aNil))))) (sSeq (sIf (tOr' (tB (vOp gNe (vCb gRepr (aCons (vCall 2 c__law_got (aCons (vName 4) (aCons (vName 5) (aNil)))) (aNil))) (vCb gRepr (aCons (vL (lIf (tB (vOp gIs (vName 6) (vC .non))) (lLst (aCons (vC (.str "many")) (aNil))) (lLst (aCons (vC (.str "told")) (aCons (vName 6) (aNil)))))) (aNil))))) (tB (vOp gNe (vCb gRepr (aCons (vName 4) (aNil))) (vName 7)))) (sRet (vC (.bl false))) (sNil)) (sSeq (sIf (tB (vOp gIs (vName 6) (vC .non))) (sCt) (sNil)) (sSeq (sSet 8 (vIf (tTru' (vName 5)) (vTup (aCons (vC (.str "letter")) (aCons (vC (.str "nought")) (aCons (vC (.str "so")) (aNil))))) (vTup (aCons (vC (.str "letter")) (aCons (vC (.str "nought")) (aCons (vC (.str "not")) (aCons (vC (.str "with")) (aNil)))))))) (sSeq (sIf (tB (vOp gNe (vL (lComp [13] (iSeq (vCall 1 c__law_parts (aCons (vName 6) (aNil)))) (tgName 13) (tB (vOp gNotInS (vOp gIx (vName 13) (vC (.int 0))) (vName 8))) (vName 13))) (vL (lLst (aNil))))) (sRet (vC (.bl false))) (sNil)) (sSeq (sFor (iRng1 (aCons (vC (.int 3)) (aNil))) (tgName 9) (sSeq (sSet 10 (vCall 3 c__law_point (aCons (vName 1) (aCons (vCb gLen (aCons (vName 3) (aNil))) (aCons (vL (lLst (aCons (vC (.int 1)) (aCons (vC (.int 2)) (aCons (vC (.int 7)) (aCons (vC (.int 60)) (aCons (vOp gPow (vC (.int 10)) (vC (.int 9))) (aNil)))))))) (aNil)))))) (sSeq (sSet 11 (vOp gDz (vName 3) (vSl (vName 10) (pSome (vC (.int 1))) (pNone)))) (sSeq (sSet 12 (vCall 2 c__law_cut (aCons (vCall 3 c__law_worth (aCons (vName 4) (aCons (vName 11) (aCons (vOp gIx (vName 10) (vC (.int 0))) (aNil))))) (aCons (vOp gIx (vName 10) (vC (.int 0))) (aNil))))) (sIf (tOr' (tB (vOp gNe (vCall 3 c_worth_at (aCons (vCb gTuple (aCons (vName 3) (aNil))) (aCons (vName 6) (aCons (vName 10) (aNil))))) (vName 12))) (tB (vOp gNe (vCall 3 c_worth_at (aCons (vCb gTuple (aCons (vName 3) (aNil))) (aCons (vName 4) (aCons (vName 10) (aNil))))) (vName 12)))) (sRet (vC (.bl false))) (sNil)))))) (sIf (tB (vOp gNe (vCb gRepr (aCons (vCall 2 c__law_got (aCons (vName 6) (aCons (vName 5) (aNil)))) (aNil))) (vCb gRepr (aCons (vL (lLst (aCons (vC (.str "told")) (aCons (vName 6) (aNil))))) (aNil))))) (sRet (vC (.bl false))) (sNil))))))))))))) (sRet (vOp gEq (vCall 2 c__law_got (aCons (vTup (aCons (vC (.str "copies")) (aCons (vOp gPow (vC (.int 10)) (vC (.int 6))) (aCons (vTup (aCons (vC (.str "letter")) (aCons (vC (.str "x")) (aNil)))) (aNil))))) (aCons (vC (.bl true)) (aNil)))) (vL (lLst (aCons (vC (.str "many")) (aNil))))))
theorem sc_law : FnScope ["script", "source", "lap", "letters", "claim", "is_so", "due", "shown", "few", "turn", "point", "at", "worth", "one"] ["script"] (defScope (top 50)) := ⟨rfl, rfl, rfl, by decide +kernel, rfl, by decide +kernel, by decide +kernel⟩
theorem pl_law : Plainly "law" (top 50) ["script"] := fun _ _ _ _ _ _ us hl => match us, hl with | [_], _ => rfl
theorem w_law (t_law : Has K mg "law" (top 50)) {c__law_got : List Dt → Sv → Rs Dt} (g__law_got : FN P w K mg base k "_law_got" ["claim", "is_so"] c__law_got) {c_worth_at : List Dt → Sv → Rs Dt} (g_worth_at : FN P w K mg base k "worth_at" ["frame", "claim", "point"] c_worth_at) {c__law_cut : List Dt → Sv → Rs Dt} (g__law_cut : FN P w K mg base k "_law_cut" ["p", "q"] c__law_cut) {c__law_worth : List Dt → Sv → Rs Dt} (g__law_worth : FN P w K mg base k "_law_worth" ["claim", "at", "q"] c__law_worth) {c__law_point : List Dt → Sv → Rs Dt} (g__law_point : FN P w K mg base k "_law_point" ["source", "n", "bottoms"] c__law_point) {c__law_parts : List Dt → Sv → Rs Dt} (g__law_parts : FN P w K mg base k "_law_parts" ["claim"] c__law_parts) {c__law_form : List Dt → Sv → Rs Dt} (g__law_form : FN P w K mg base k "_law_form" ["claim", "is_so"] c__law_form) {c_parts_of : List Dt → Sv → Rs Dt} (g_parts_of : FN P w K mg base k "parts_of" ["claim"] c_parts_of) {c_claim_nodes : List Dt → Sv → Rs Dt} (g_claim_nodes : FN P w K mg base k "claim_nodes" ["claim"] c_claim_nodes) {c__law_nodes : List Dt → Sv → Rs Dt} (g__law_nodes : FN P w K mg base k "_law_nodes" ["claim"] c__law_nodes) {c__law_claim : List Dt → Sv → Rs Dt} (g__law_claim : FN P w K mg base k "_law_claim" ["source", "letters", "deep", "most"] c__law_claim) {c__law_of : List Dt → Sv → Rs Dt} (g__law_of : FN P w K mg base k "_law_of" ["source", "some"] c__law_of) {c__law_pick : List Dt → Sv → Rs Dt} (g__law_pick : FN P w K mg base k "_law_pick" ["source", "many"] c__law_pick) (n_range : mg "range" = none) (n_repr : mg "repr" = none) (n_tuple : mg "tuple" = none) (n_dict : mg "dict" = none) (n_list : mg "list" = none) (n_zip : mg "zip" = none) (n_len : mg "len" = none) (h60 : 60 ≤ k) {N : List Str} (hNn : N = (["script", "source", "lap", "letters", "claim", "is_so", "due", "shown", "few", "turn", "point", "at", "worth", "one"] : List Str)) (f : Addr) (cdv : Value) (A : Around) (outer : List Env) (s : Shared) (H : Hp) (E : XK) (hr : Rm k (A.deeper (envOfC "law" (defScope (top 50)) s.heap.objs.size f cdv))) :
    DSs (cxOf (L2.CX P w) P w K mg base N "law" (defScope (top 50)) f cdv A outer s H E) (fun c d _ H => E c d H) (defBody (top 50)).tail (m_law c__law_got c_worth_at c__law_cut c__law_worth c__law_point c__law_parts c__law_form c_parts_of c_claim_nodes c__law_nodes c__law_claim c__law_of c__law_pick) := by
  subst hNn
  have tk : Takes (cxOf (L2.CX P w) P w K mg base ["script", "source", "lap", "letters", "claim", "is_so", "due", "shown", "few", "turn", "point", "at", "worth", "one"] "law" (defScope (top 50)) f cdv A outer s H E) (fun c d _ H => E c d H) := takes_of rfl rfl rfl rfl
  have hc : (cxOf (L2.CX P w) P w K mg base ["script", "source", "lap", "letters", "claim", "is_so", "due", "shown", "few", "turn", "point", "at", "worth", "one"] "law" (defScope (top 50)) f cdv A outer s H E).calm = true := rfl
  have hN : (["script", "source", "lap", "letters", "claim", "is_so", "due", "shown", "few", "turn", "point", "at", "worth", "one"] : List Str).Nodup := (sc_law).nd
  have hp : PassesOwn (model P w) (cxOf (L2.CX P w) P w K mg base ["script", "source", "lap", "letters", "claim", "is_so", "due", "shown", "few", "turn", "point", "at", "worth", "one"] "law" (defScope (top 50)) f cdv A outer s H E).A (cxOf (L2.CX P w) P w K mg base ["script", "source", "lap", "letters", "claim", "is_so", "due", "shown", "few", "turn", "point", "at", "worth", "one"] "law" (defScope (top 50)) f cdv A outer s H E).env (cxOf (L2.CX P w) P w K mg base ["script", "source", "lap", "letters", "claim", "is_so", "due", "shown", "few", "turn", "point", "at", "worth", "one"] "law" (defScope (top 50)) f cdv A outer s H E).xe := PassesOwn.leaving
  exact dss_cons (ds_for (dif_range1 (by rfl) n_range (da_cons (de_int) (da_nil))) (dg_name 2 hN) (dss_cons (ds_set 3 ((dl_slice ((dl_lst (da_cons (de_str) (da_cons (de_str) (da_cons (de_str) (da_nil))))).o) (dp_none) (dp_some (de_fn (ps := ["source", "many"]) g__law_pick hr (by omega) tk (da_cons (de_name 1) (da_cons (de_int) (da_nil)))))).v) hN)
    (dss_cons (ds_set 4 (de_fn (ps := ["source", "letters", "deep", "most"]) g__law_claim hr (by omega) tk (da_cons (de_name 1) (da_cons (de_name 3) (da_cons (de_if (dt_cmp (o_eq hr) ((de_fn (ps := ["source", "many"]) g__law_pick hr (by omega) tk (da_cons (de_name 1) (da_cons (de_int) (da_nil)))).o) ((de_int).o) (by rfl)) (de_int) (de_int)) (da_cons (de_fn (ps := ["source", "some"]) g__law_of hr (by omega) tk (da_cons (de_name 1) (da_cons ((dl_lst (da_cons (de_int) (da_cons (de_int) (da_cons (de_int) (da_nil))))).v) (da_nil)))) (da_nil)))))) hN)
    (dss_cons (ds_if ((dw_or (dt_cmp (o_ne hr) ((de_fn (ps := ["claim"]) g_claim_nodes hr (by omega) tk (da_cons (de_name 4) (da_nil))).o) ((de_fn (ps := ["claim"]) g__law_nodes hr (by omega) tk (da_cons (de_name 4) (da_nil))).o) (by rfl)) (dw_or1 (dt_cmp (o_ne hr) ((dl_ct c_list (by rfl) n_list b_list (dao_cons ((de_fn (ps := ["claim"]) g_parts_of hr (by omega) tk (da_cons (de_name 4) (da_nil))).o) (dao_nil))).o) ((de_fn (ps := ["claim"]) g__law_parts hr (by omega) tk (da_cons (de_name 4) (da_nil))).o) (by rfl)))).t) (dss_one (ds_ret (de_bl))) (dss_nil))
    (dss_one (ds_for (dif_seq (de_tup (da_cons (de_bl) (da_cons (de_bl) (da_nil))))) (dg_name 5 hN) (dss_cons (ds_par 6 7 hc ((de_fn (ps := ["claim", "is_so"]) g__law_form hr (by omega) tk (da_cons (de_name 4) (da_cons (de_name 5) (da_nil)))).x) ((de_cb (c_repr hr (by omega)) (by rfl) n_repr b_repr (dao_cons ((de_name 4).o) (dao_nil))).x) hN)
    (dss_cons (ds_if ((dw_or (dt_cmp (o_ne hr) ((de_cb (c_repr hr (by omega)) (by rfl) n_repr b_repr (dao_cons ((de_fn (ps := ["claim", "is_so"]) g__law_got hr (by omega) tk (da_cons (de_name 4) (da_cons (de_name 5) (da_nil)))).o) (dao_nil))).o) ((de_cb (c_repr hr (by omega)) (by rfl) n_repr b_repr (dao_cons ((dl_if (dt_cmp o_is ((de_name 6).o) ((de_non).o) (by rfl)) (dl_lst (da_cons (de_str) (da_nil))) (dl_lst (da_cons (de_str) (da_cons (de_name 6) (da_nil))))).o) (dao_nil))).o) (by rfl)) (dw_or1 (dt_cmp (o_ne hr) ((de_cb (c_repr hr (by omega)) (by rfl) n_repr b_repr (dao_cons ((de_name 4).o) (dao_nil))).o) ((de_name 7).o) (by rfl)))).t) (dss_one (ds_ret (de_bl))) (dss_nil))
    (dss_cons (ds_if (dt_cmp o_is ((de_name 6).o) ((de_non).o) (by rfl)) (dss_one (ds_continue)) (dss_nil))
    (dss_cons (ds_set 8 (de_if (dt_truth ((de_name 5).o)) (de_tup (da_cons (de_str) (da_cons (de_str) (da_cons (de_str) (da_nil))))) (de_tup (da_cons (de_str) (da_cons (de_str) (da_cons (de_str) (da_cons (de_str) (da_nil))))))) hN)
    (dss_cons (ds_if (dt_cmp (o_ne hr) ((dl_comp [("one", 13)] (dic_seq ((de_fn (ps := ["claim"]) g__law_parts hr (by omega) tk (da_cons (de_name 6) (da_nil))).o)) hc hN (blk_mk (by kernel_rfl)) (fun _ _ _ _ _ => dg_name 13 hN) (fun _ _ _ _ _ => dts_one (dt_cmp (o_notin hr) ((de_ix hr ((de_name 13).o) ((de_int).o)).o) ((de_name 8).o) (by rfl))) (fun _ _ _ _ _ => de_name 13)).o) ((dl_lst (da_nil)).o) (by rfl)) (dss_one (ds_ret (de_bl))) (dss_nil))
    (dss_cons (ds_for (dif_range1 (by rfl) n_range (da_cons (de_int) (da_nil))) (dg_name 9 hN) (dss_cons (ds_set 10 (de_fn (ps := ["source", "n", "bottoms"]) g__law_point hr (by omega) tk (da_cons (de_name 1) (da_cons (de_cb c_len (by rfl) n_len b_len (dao_cons ((de_name 3).o) (dao_nil))) (da_cons ((dl_lst (da_cons (de_int) (da_cons (de_int) (da_cons (de_int) (da_cons (de_int) (da_cons (de_op o_pow ((de_int).o) ((de_int).o)) (da_nil))))))).v) (da_nil))))) hN)
    (dss_cons (ds_set 11 (de_dlzip hc (by rfl) n_dict (by rfl) n_list (by rfl) n_zip ((de_name 3).o) ((de_slice ((de_name 10).o) (dp_some (de_int)) (dp_none)).o)) hN)
    (dss_cons (ds_set 12 (de_fn (ps := ["p", "q"]) g__law_cut hr (by omega) tk (da_cons (de_fn (ps := ["claim", "at", "q"]) g__law_worth hr (by omega) tk (da_cons (de_name 4) (da_cons (de_name 11) (da_cons (de_ix hr ((de_name 10).o) ((de_int).o)) (da_nil))))) (da_cons (de_ix hr ((de_name 10).o) ((de_int).o)) (da_nil)))) hN)
    (dss_one (ds_if ((dw_or (dt_cmp (o_ne hr) ((de_fn (ps := ["frame", "claim", "point"]) g_worth_at hr (by omega) tk (da_cons (de_ct c_tuple (by rfl) n_tuple b_tuple (dao_cons ((de_name 3).o) (dao_nil))) (da_cons (de_name 6) (da_cons (de_name 10) (da_nil))))).o) ((de_name 12).o) (by rfl)) (dw_or1 (dt_cmp (o_ne hr) ((de_fn (ps := ["frame", "claim", "point"]) g_worth_at hr (by omega) tk (da_cons (de_ct c_tuple (by rfl) n_tuple b_tuple (dao_cons ((de_name 3).o) (dao_nil))) (da_cons (de_name 4) (da_cons (de_name 10) (da_nil))))).o) ((de_name 12).o) (by rfl)))).t) (dss_one (ds_ret (de_bl))) (dss_nil)))))) hp hc)
    (dss_one (ds_if (dt_cmp (o_ne hr) ((de_cb (c_repr hr (by omega)) (by rfl) n_repr b_repr (dao_cons ((de_fn (ps := ["claim", "is_so"]) g__law_got hr (by omega) tk (da_cons (de_name 6) (da_cons (de_name 5) (da_nil)))).o) (dao_nil))).o) ((de_cb (c_repr hr (by omega)) (by rfl) n_repr b_repr (dao_cons ((dl_lst (da_cons (de_str) (da_cons (de_name 6) (da_nil)))).o) (dao_nil))).o) (by rfl)) (dss_one (ds_ret (de_bl))) (dss_nil))))))))) hp hc))))) hp hc)
    (dss_one (ds_ret (de_cmp (o_eq hr) ((de_fn (ps := ["claim", "is_so"]) g__law_got hr (by omega) tk (da_cons (de_tup (da_cons (de_str) (da_cons (de_op o_pow ((de_int).o) ((de_int).o)) (da_cons (de_tup (da_cons (de_str) (da_cons (de_str) (da_nil)))) (da_nil))))) (da_cons (de_bl) (da_nil)))).o) ((dl_lst (da_cons (de_str) (da_nil))).o) (by rfl))))
end
end K00
set_option Elab.async false
set_option linter.all false
set_option maxRecDepth 100000
set_option maxHeartbeats 4000000
/-! the defs put together: printed by comp.py -/
namespace K00
open PySem PySem.Spec PyProof.Rows L2 DD
/-- what stands at the top -/
structure Tops (K : PySem.W.Frag) (mg : Str → Option Value) : Prop where
  t_sides_told : Has K mg "sides_told" (top 5)
  t_parts_of : Has K mg "parts_of" (top 7)
  t_so_not : Has K mg "so_not" (top 10)
  t_so_or : Has K mg "so_or" (top 11)
  t_so_both : Has K mg "so_both" (top 12)
  t_so_two : Has K mg "so_two" (top 13)
  t_with_so : Has K mg "with_so" (top 14)
  t_with_both : Has K mg "with_both" (top 15)
  t_with_less : Has K mg "with_less" (top 16)
  t_with_or : Has K mg "with_or" (top 17)
  t_with_two : Has K mg "with_two" (top 18)
  t_form_of_part : Has K mg "form_of_part" (top 19)
  t_copies_of_part : Has K mg "copies_of_part" (top 20)
  t_form_of : Has K mg "form_of" (top 21)
  t_so_form : Has K mg "so_form" (top 22)
  t_with_form : Has K mg "with_form" (top 23)
  t_lowest : Has K mg "lowest" (top 25)
  t_claim_nodes : Has K mg "claim_nodes" (top 26)
  t_two_sided_number : Has K mg "two_sided_number" (top 27)
  t_own_number : Has K mg "own_number" (top 28)
  t_part_numbers : Has K mg "part_numbers" (top 29)
  t_worth_at : Has K mg "worth_at" (top 30)
  t__law_source : Has K mg "_law_source" (top 32)
  t__law_pick : Has K mg "_law_pick" (top 33)
  t__law_of : Has K mg "_law_of" (top 34)
  t__law_words : Has K mg "_law_words" (top 35)
  t__law_claim : Has K mg "_law_claim" (top 36)
  t__law_sides : Has K mg "_law_sides" (top 37)
  t__law_nodes : Has K mg "_law_nodes" (top 38)
  t__law_parts : Has K mg "_law_parts" (top 39)
  t__law_worth : Has K mg "_law_worth" (top 40)
  t__law_cut : Has K mg "_law_cut" (top 41)
  t__law_point : Has K mg "_law_point" (top 42)
  t__law_not : Has K mg "_law_not" (top 43)
  t__law_or : Has K mg "_law_or" (top 44)
  t__law_both : Has K mg "_law_both" (top 45)
  t__law_less : Has K mg "_law_less" (top 46)
  t__law_two : Has K mg "_law_two" (top 47)
  t__law_form : Has K mg "_law_form" (top 48)
  t__law_got : Has K mg "_law_got" (top 49)
  t_law : Has K mg "law" (top 50)
  g_CLAIM_WORDS : GlC K mg "CLAIM_WORDS" k_CLAIM_WORDS
  g_NOUGHT : GlC K mg "NOUGHT" k_NOUGHT
  n_tuple : mg "tuple" = none
  n_range : mg "range" = none
  n_len : mg "len" = none
  n_max : mg "max" = none
  n_min : mg "min" = none
  n_abs : mg "abs" = none
  n_dict : mg "dict" = none
  n_zip : mg "zip" = none
  n_int : mg "int" = none
  n_sum : mg "sum" = none
  n_repr : mg "repr" = none
  n_list : mg "list" = none
  x_TooMany : ExC K mg "TooMany"
section
variable {P : Program} {w : World} {K : PySem.W.Frag} {mg : Str → Option Value} {base : Heap}
def f_sides_told : List Dt → Sv → Rs Dt := callS 1 (m_sides_told)
theorem y_sides_told (T : Tops K mg) : FN P w K mg base 1 "sides_told" ["value"] f_sides_told := w_sides_told (k := 0) T.t_sides_told T.g_CLAIM_WORDS
def f_parts_of : List Dt → Sv → Rs Dt := callS 6 (m_parts_of f_sides_told)
theorem y_parts_of (T : Tops K mg) : FN P w K mg base 2 "parts_of" ["claim"] f_parts_of := w_parts_of (k := 1) T.t_parts_of ((y_sides_told T).mono (by omega)) T.n_tuple
def f_so_not : List Dt → Sv → Rs Dt := callS 1 (m_so_not)
theorem y_so_not (T : Tops K mg) : FN P w K mg base 1 "so_not" ["p"] f_so_not := w_so_not (k := 0) T.t_so_not T.g_NOUGHT
def f_so_or : List Dt → Sv → Rs Dt := callS 2 (m_so_or)
theorem y_so_or (T : Tops K mg) : FN P w K mg base 1 "so_or" ["p", "q"] f_so_or := w_so_or (k := 0) T.t_so_or
def f_so_both : List Dt → Sv → Rs Dt := callS 2 (m_so_both f_so_not)
theorem y_so_both (T : Tops K mg) : FN P w K mg base 2 "so_both" ["p", "q"] f_so_both := w_so_both (k := 1) T.t_so_both ((y_so_not T).mono (by omega))
def f_so_two : List Dt → Sv → Rs Dt := callS 3 (m_so_two f_so_not f_so_both f_so_or)
theorem y_so_two (T : Tops K mg) : FN P w K mg base 3 "so_two" ["word", "p", "q"] f_so_two := w_so_two (k := 2) T.t_so_two ((y_so_not T).mono (by omega)) ((y_so_both T).mono (by omega)) ((y_so_or T).mono (by omega))
def f_with_so : List Dt → Sv → Rs Dt := callS 2 (m_with_so)
theorem y_with_so (T : Tops K mg) : FN P w K mg base 1 "with_so" ["p", "q"] f_with_so := w_with_so (k := 0) T.t_with_so
def f_with_both : List Dt → Sv → Rs Dt := callS 2 (m_with_both)
theorem y_with_both (T : Tops K mg) : FN P w K mg base 1 "with_both" ["p", "q"] f_with_both := w_with_both (k := 0) T.t_with_both
def f_with_less : List Dt → Sv → Rs Dt := callS 2 (m_with_less f_with_both)
theorem y_with_less (T : Tops K mg) : FN P w K mg base 2 "with_less" ["p", "q"] f_with_less := w_with_less (k := 1) T.t_with_less ((y_with_both T).mono (by omega))
def f_with_or : List Dt → Sv → Rs Dt := callS 2 (m_with_or f_with_less)
theorem y_with_or (T : Tops K mg) : FN P w K mg base 3 "with_or" ["p", "q"] f_with_or := w_with_or (k := 2) T.t_with_or ((y_with_less T).mono (by omega))
def f_with_two : List Dt → Sv → Rs Dt := callS 3 (m_with_two f_with_less f_with_or f_with_both f_with_so)
theorem y_with_two (T : Tops K mg) : FN P w K mg base 4 "with_two" ["word", "p", "q"] f_with_two := w_with_two (k := 3) T.t_with_two ((y_with_less T).mono (by omega)) ((y_with_or T).mono (by omega)) ((y_with_both T).mono (by omega)) ((y_with_so T).mono (by omega))
def f_form_of_part : List Dt → Sv → Rs Dt := callS 3 (m_form_of_part f_so_two f_with_two f_so_not)
theorem y_form_of_part (T : Tops K mg) : FN P w K mg base 5 "form_of_part" ["one", "sides", "is_so"] f_form_of_part := w_form_of_part (k := 4) T.t_form_of_part ((y_so_two T).mono (by omega)) ((y_with_two T).mono (by omega)) ((y_so_not T).mono (by omega)) T.g_NOUGHT
def f_copies_of_part : List Dt → Sv → Rs Dt := callS 6 (m_copies_of_part f_form_of_part f_parts_of)
theorem y_copies_of_part (T : Tops K mg) : FN P w K mg base 6 "copies_of_part" ["k", "side", "is_so"] f_copies_of_part := w_copies_of_part (k := 5) T.t_copies_of_part ((y_form_of_part T).mono (by omega)) ((y_parts_of T).mono (by omega)) T.n_range T.n_len T.x_TooMany
def f_form_of : List Dt → Sv → Rs Dt := callS 6 (m_form_of f_parts_of f_copies_of_part f_form_of_part)
theorem y_form_of (T : Tops K mg) : FN P w K mg base 7 "form_of" ["claim", "is_so"] f_form_of := w_form_of (k := 6) T.t_form_of ((y_parts_of T).mono (by omega)) ((y_copies_of_part T).mono (by omega)) ((y_form_of_part T).mono (by omega)) T.n_len T.x_TooMany
def f_so_form : List Dt → Sv → Rs Dt := callS 1 (m_so_form f_form_of)
theorem y_so_form (T : Tops K mg) : FN P w K mg base 8 "so_form" ["claim"] f_so_form := w_so_form (k := 7) T.t_so_form ((y_form_of T).mono (by omega))
def f_with_form : List Dt → Sv → Rs Dt := callS 1 (m_with_form f_form_of)
theorem y_with_form (T : Tops K mg) : FN P w K mg base 8 "with_form" ["claim"] f_with_form := w_with_form (k := 7) T.t_with_form ((y_form_of T).mono (by omega))
def f_lowest : List Dt → Sv → Rs Dt := callS 4 (m_lowest)
theorem y_lowest (T : Tops K mg) : FN P w K mg base 1 "lowest" ["p", "q"] f_lowest := w_lowest (k := 0) T.t_lowest
def f_claim_nodes : List Dt → Sv → Rs Dt := callS 1 (m_claim_nodes f_parts_of)
theorem y_claim_nodes (T : Tops K mg) : FN P w K mg base 3 "claim_nodes" ["claim"] f_claim_nodes := w_claim_nodes (k := 2) T.t_claim_nodes ((y_parts_of T).mono (by omega)) T.n_len
def f_two_sided_number : List Dt → Sv → Rs Dt := callS 5 (m_two_sided_number)
theorem y_two_sided_number (T : Tops K mg) : FN P w K mg base 1 "two_sided_number" ["word", "q", "x", "y"] f_two_sided_number := w_two_sided_number (k := 0) T.t_two_sided_number T.n_max T.n_min T.n_abs
def f_own_number : List Dt → Sv → Rs Dt := callS 5 (m_own_number f_two_sided_number)
theorem y_own_number (T : Tops K mg) : FN P w K mg base 2 "own_number" ["names", "point", "one", "sides"] f_own_number := w_own_number (k := 1) T.t_own_number ((y_two_sided_number T).mono (by omega)) T.n_max
def f_part_numbers : List Dt → Sv → Rs Dt := callS 9 (m_part_numbers f_parts_of f_own_number)
theorem y_part_numbers (T : Tops K mg) : FN P w K mg base 3 "part_numbers" ["frame", "claim", "point"] f_part_numbers := w_part_numbers (k := 2) T.t_part_numbers ((y_parts_of T).mono (by omega)) ((y_own_number T).mono (by omega)) T.n_len T.n_dict T.n_zip
def f_worth_at : List Dt → Sv → Rs Dt := callS 3 (m_worth_at f_lowest f_part_numbers)
theorem y_worth_at (T : Tops K mg) : FN P w K mg base 4 "worth_at" ["frame", "claim", "point"] f_worth_at := w_worth_at (k := 3) T.t_worth_at ((y_lowest T).mono (by omega)) ((y_part_numbers T).mono (by omega))
def f__law_pick : List Dt → Sv → Rs Dt := callS 4 (m__law_pick)
theorem y__law_pick (T : Tops K mg) : FN P w K mg base 1 "_law_pick" ["source", "many"] f__law_pick := w__law_pick (k := 0) T.t__law_pick T.n_int T.n_len
def f__law_of : List Dt → Sv → Rs Dt := callS 2 (m__law_of f__law_pick)
theorem y__law_of (T : Tops K mg) : FN P w K mg base 2 "_law_of" ["source", "some"] f__law_of := w__law_of (k := 1) T.t__law_of ((y__law_pick T).mono (by omega)) T.n_len
def f__law_words : List Dt → Sv → Rs Dt := callS 0 (m__law_words)
theorem y__law_words (T : Tops K mg) : FN P w K mg base 1 "_law_words" [] f__law_words := w__law_words (k := 0) T.t__law_words
def f__law_claim : Nat → List Dt → Sv → Rs Dt
  | 0 => fun _ _ => .no
  | n + 1 => callS 8 (m__law_claim f__law_of (f__law_claim n) f__law_pick f__law_words)
theorem y__law_claim (T : Tops K mg) : ∀ n : Nat, FN P w K mg base (2 + n) "_law_claim" ["source", "letters", "deep", "most"] (f__law_claim n)
  | 0 => FN.none T.t__law_claim pl__law_claim
  | n + 1 => w__law_claim (k := 2 + n) T.t__law_claim ((y__law_of T).mono (by omega)) (y__law_claim T n) ((y__law_pick T).mono (by omega)) ((y__law_words T).mono (by omega))
def f__law_sides : List Dt → Sv → Rs Dt := callS 1 (m__law_sides)
theorem y__law_sides (T : Tops K mg) : FN P w K mg base 1 "_law_sides" ["claim"] f__law_sides := w__law_sides (k := 0) T.t__law_sides
def f__law_nodes : Nat → List Dt → Sv → Rs Dt
  | 0 => fun _ _ => .no
  | n + 1 => callS 2 (m__law_nodes f__law_sides (f__law_nodes n))
theorem y__law_nodes (T : Tops K mg) : ∀ n : Nat, FN P w K mg base (1 + n) "_law_nodes" ["claim"] (f__law_nodes n)
  | 0 => FN.none T.t__law_nodes pl__law_nodes
  | n + 1 => w__law_nodes (k := 1 + n) T.t__law_nodes ((y__law_sides T).mono (by omega)) (y__law_nodes T n) T.n_sum
def f__law_parts : Nat → List Dt → Sv → Rs Dt
  | 0 => fun _ _ => .no
  | n + 1 => callS 3 (m__law_parts f__law_sides (f__law_parts n))
theorem y__law_parts (T : Tops K mg) : ∀ n : Nat, FN P w K mg base (1 + n) "_law_parts" ["claim"] (f__law_parts n)
  | 0 => FN.none T.t__law_parts pl__law_parts
  | n + 1 => w__law_parts (k := 1 + n) T.t__law_parts ((y__law_sides T).mono (by omega)) (y__law_parts T n)
def f__law_worth : Nat → List Dt → Sv → Rs Dt
  | 0 => fun _ _ => .no
  | n + 1 => callS 6 (m__law_worth (f__law_worth n))
theorem y__law_worth (T : Tops K mg) : ∀ n : Nat, FN P w K mg base (0 + n) "_law_worth" ["claim", "at", "q"] (f__law_worth n)
  | 0 => FN.none T.t__law_worth pl__law_worth
  | n + 1 => w__law_worth (k := 0 + n) T.t__law_worth (y__law_worth T n) T.n_abs T.n_max T.n_min
def f__law_cut : List Dt → Sv → Rs Dt := callS 4 (m__law_cut)
theorem y__law_cut (T : Tops K mg) : FN P w K mg base 1 "_law_cut" ["p", "q"] f__law_cut := w__law_cut (k := 0) T.t__law_cut T.n_int T.n_abs
def f__law_point : List Dt → Sv → Rs Dt := callS 9 (m__law_point f__law_of f__law_pick)
theorem y__law_point (T : Tops K mg) : FN P w K mg base 3 "_law_point" ["source", "n", "bottoms"] f__law_point := w__law_point (k := 2) T.t__law_point ((y__law_of T).mono (by omega)) ((y__law_pick T).mono (by omega)) T.n_tuple T.n_int T.n_range
def f__law_not : List Dt → Sv → Rs Dt := callS 2 (m__law_not)
theorem y__law_not (T : Tops K mg) : FN P w K mg base 1 "_law_not" ["p", "is_so"] f__law_not := w__law_not (k := 0) T.t__law_not
def f__law_both : List Dt → Sv → Rs Dt := callS 3 (m__law_both f__law_not)
theorem y__law_both (T : Tops K mg) : FN P w K mg base 2 "_law_both" ["p", "q", "is_so"] f__law_both := w__law_both (k := 1) T.t__law_both ((y__law_not T).mono (by omega))
def f__law_less : List Dt → Sv → Rs Dt := callS 3 (m__law_less f__law_not f__law_both)
theorem y__law_less (T : Tops K mg) : FN P w K mg base 3 "_law_less" ["p", "q", "is_so"] f__law_less := w__law_less (k := 2) T.t__law_less ((y__law_not T).mono (by omega)) ((y__law_both T).mono (by omega))
def f__law_or : List Dt → Sv → Rs Dt := callS 3 (m__law_or f__law_less)
theorem y__law_or (T : Tops K mg) : FN P w K mg base 4 "_law_or" ["p", "q", "is_so"] f__law_or := w__law_or (k := 3) T.t__law_or ((y__law_less T).mono (by omega))
def f__law_two : List Dt → Sv → Rs Dt := callS 4 (m__law_two f__law_less f__law_both f__law_not f__law_or)
theorem y__law_two (T : Tops K mg) : FN P w K mg base 5 "_law_two" ["word", "p", "q", "is_so"] f__law_two := w__law_two (k := 4) T.t__law_two ((y__law_less T).mono (by omega)) ((y__law_both T).mono (by omega)) ((y__law_not T).mono (by omega)) ((y__law_or T).mono (by omega))
def f__law_form : Nat → List Dt → Sv → Rs Dt
  | 0 => fun _ _ => .no
  | n + 1 => callS 7 (m__law_form (f__law_nodes 450) f__law_not f__law_both f__law_two f__law_sides (f__law_form n))
theorem y__law_form (T : Tops K mg) : ∀ n : Nat, FN P w K mg base (451 + n) "_law_form" ["claim", "is_so"] (f__law_form n)
  | 0 => FN.none T.t__law_form pl__law_form
  | n + 1 => w__law_form (k := 451 + n) T.t__law_form ((y__law_nodes T 450).mono (by omega)) ((y__law_not T).mono (by omega)) ((y__law_both T).mono (by omega)) ((y__law_two T).mono (by omega)) ((y__law_sides T).mono (by omega)) (y__law_form T n) T.n_range
def f__law_got : List Dt → Sv → Rs Dt := callS 2 (m__law_got f_so_form f_with_form)
theorem y__law_got (T : Tops K mg) : FN P w K mg base 9 "_law_got" ["claim", "is_so"] f__law_got := w__law_got (k := 8) T.t__law_got ((y_so_form T).mono (by omega)) ((y_with_form T).mono (by omega)) T.x_TooMany
abbrev lawK : Nat := 460
def lawS : Ss := m_law f__law_got f_worth_at f__law_cut (f__law_worth 8) f__law_point (f__law_parts 450) (f__law_form 8) f_parts_of f_claim_nodes (f__law_nodes 450) (f__law_claim 6) f__law_of f__law_pick
theorem y_law (T : Tops K mg) {fa : Addr} (hfa : mg "law" = some (.ref fa)) (hq : ∀ v : Src, v.cells.length ≤ sizeLine → ∃ v2 : Sv, lawS ((List.replicate 14 Sl.un).set 1 (.val .src)) (some v) = .ret (.bl true) v2) :
    ∃ fd : FuncData, (∀ (s : Shared) (u : Value), BindsTo s fd ⟨[u], []⟩ [("script", u)]) ∧ ∀ base : Heap, LawRuns P w K mg base 460 fa fd := by
  obtain ⟨f, fd, F, e⟩ := T.t_law.ex
  cases hfa.symm.trans e
  refine ⟨fd, ?_, fun base => ?_⟩
  · obtain ⟨oc, od, kV, doc, pm, an, cdv, ct, osl, rfl, lk, hcd⟩ := F.ex
    exact fun s u => .of_eq (pl_law _ _ _ _ _ _ [u] rfl)
  · refine law_runs (k := 459) (rest := (defBody (top 50)).tail) (b := lawS) F sc_law rfl rfl (fun cdv A outer s H E hr => ⟨?_, ?_⟩) hq
    · exact w_law (k := 459) T.t_law ((y__law_got T).mono (by omega)) ((y_worth_at T).mono (by omega)) ((y__law_cut T).mono (by omega)) ((y__law_worth T 8).mono (by omega)) ((y__law_point T).mono (by omega)) ((y__law_parts T 450).mono (by omega)) ((y__law_form T 8).mono (by omega)) ((y_parts_of T).mono (by omega)) ((y_claim_nodes T).mono (by omega)) ((y__law_nodes T 450).mono (by omega)) ((y__law_claim T 6).mono (by omega)) ((y__law_of T).mono (by omega)) ((y__law_pick T).mono (by omega)) T.n_range T.n_repr T.n_tuple T.n_dict T.n_list T.n_zip T.n_len (by omega) rfl _ cdv A outer s H E hr
    · exact ps_mksrc ((w__law_source (k := 0) T.t__law_source T.n_int T.n_abs).mono (by omega)) hr (takes_of rfl rfl rfl rfl) sc_law.nd
end
end K00
set_option Elab.async false
set_option linter.all false
set_option maxRecDepth 100000
set_option maxHeartbeats 2000000
/-! P00: the plain law, part 1: claims and their data. -/
namespace K00
open PySem PySem.Spec PyProof.Rows L2 DD
inductive Wd where | and | or | so | both | wth | less | same
def Wd.s : Wd → Str
  | .and => "and" | .or => "or" | .so => "so" | .both => "both" | .wth => "with" | .less => "less" | .same => "same"
inductive Lt where | x | y | z
def Lt.s : Lt → Str
  | .x => "x" | .y => "y" | .z => "zeta"
inductive Cl where
  | lt (x : Lt)
  | nou
  | one
  | no (c : Cl)
  | cop (k : Nat) (c : Cl)
  | two (w : Wd) (a b : Cl)
def enc : Cl → Dt
  | .lt x => .tup [.str "letter", .str x.s]
  | .nou => .tup [.str "nought"]
  | .one => .tup [.str "one"]
  | .no c => .tup [.str "not", enc c]
  | .cop k c => .tup [.str "copies", .int k, enc c]
  | .two w a b => .tup [.str w.s, enc a, enc b]
def sides : Cl → List Cl
  | .no c => [c]
  | .cop _ c => [c]
  | .two _ a b => [a, b]
  | _ => []
def nodes : Cl → Nat
  | .no c => 1 + nodes c
  | .cop _ c => 1 + nodes c
  | .two _ a b => 1 + nodes a + nodes b
  | _ => 1
def parts : Cl → List Cl
  | .no c => parts c ++ [.no c]
  | .cop k c => parts c ++ [.cop k c]
  | .two w a b => parts a ++ parts b ++ [.two w a b]
  | c => [c]
theorem nodes_pos (c : Cl) : 1 ≤ nodes c := by cases c <;> simp [nodes] <;> omega
theorem parts_len : ∀ c : Cl, (parts c).length = nodes c
  | .lt _ => rfl
  | .nou => rfl
  | .one => rfl
  | .no c => by simp [parts, nodes, parts_len c]; omega
  | .cop _ c => by simp [parts, nodes, parts_len c]; omega
  | .two _ a b => by simp [parts, nodes, parts_len a, parts_len b]; omega

/-! ### the words -/
def fnot (so : Bool) (p : Cl) : Cl := if so then .two .so p .nou else .no p
theorem so_not_eq (p : Cl) (s : Sv) : f_so_not [enc p] s = .ok (enc (fnot true p)) s := rfl
theorem law_not_eq (p : Cl) (so : Bool) (s : Sv) : f__law_not [enc p, .bl so] s = .ok (enc (fnot so p)) s := by cases so <;> rfl
def fboth (so : Bool) (p q : Cl) : Cl := if so then fnot true (.two .so p (fnot true q)) else .no (.two .wth (.no p) (.no q))
theorem so_both_eq (p q : Cl) (s : Sv) : f_so_both [enc p, enc q] s = .ok (enc (fboth true p q)) s := rfl
theorem with_both_eq (p q : Cl) (s : Sv) : f_with_both [enc p, enc q] s = .ok (enc (fboth false p q)) s := rfl
theorem law_both_eq (p q : Cl) (so : Bool) (s : Sv) : f__law_both [enc p, enc q, .bl so] s = .ok (enc (fboth so p q)) s := by cases so <;> rfl
def fless (so : Bool) (p q : Cl) : Cl := if so then fnot true (.two .so p q) else fboth false p (.no q)
theorem law_less_eq (p q : Cl) (so : Bool) (s : Sv) : f__law_less [enc p, enc q, .bl so] s = .ok (enc (fless so p q)) s := by cases so <;> rfl
def for_ (so : Bool) (p q : Cl) : Cl := if so then .two .so (.two .so p q) q else .two .wth (fless false p q) q
theorem law_or_eq (p q : Cl) (so : Bool) (s : Sv) : f__law_or [enc p, enc q, .bl so] s = .ok (enc (for_ so p q)) s := by cases so <;> rfl
def ftwo (so : Bool) (w : Wd) (p q : Cl) : Cl := match w with
  | .or => for_ so p q
  | .and => fnot so (for_ so (fnot so p) (fnot so q))
  | .both => fboth so p q
  | .less => fless so p q
  | .so => if so then .two .so p q else .two .wth (.no p) q
  | .wth => if so then .two .so (fnot true p) q else .two .wth p q
  | .same => if so then fboth true (.two .so p q) (.two .so q p) else .no (.two .wth (fless false p q) (fless false q p))
theorem law_two_eq (w : Wd) (p q : Cl) (so : Bool) (s : Sv) : f__law_two [.str w.s, enc p, enc q, .bl so] s = .ok (enc (ftwo so w p q)) s := by cases w <;> cases so <;> rfl
theorem so_two_eq (w : Wd) (p q : Cl) (s : Sv) : f_so_two [.str w.s, enc p, enc q] s = .ok (enc (ftwo true w p q)) s := by cases w <;> rfl
theorem with_two_eq (w : Wd) (p q : Cl) (s : Sv) : f_with_two [.str w.s, enc p, enc q] s = .ok (enc (ftwo false w p q)) s := by cases w <;> rfl

/-! ### parts -/
def prs (cs : List (Int × Cl)) : List Dt := cs.map fun p => .tup [.int p.1, enc p.2]
def sidesK : Cl → List (Int × Cl)
  | .no c => [(1, c)]
  | .cop _ c => [(2, c)]
  | .two _ a b => [(1, a), (2, b)]
  | _ => []
theorem sides_told_eq (c : Cl) (s : Sv) : f_sides_told [enc c] s = .ok (.lst (prs (sidesK c))) s := by
  cases c with
  | two w a b => cases w <;> rfl
  | _ => rfl
theorem sidesK_map (c : Cl) : (sidesK c).map (·.2) = sides c := by cases c <;> rfl
theorem parts_eq (c : Cl) : parts c = ((sides c).map parts).flatten ++ [c] := by cases c <;> simp [parts, sides]
theorem nodes_eq (c : Cl) : nodes c = 1 + ((sides c).map nodes).sum := by cases c <;> simp [nodes, sides]; omega
theorem plain_enc : ∀ c : Cl, (enc c).plain = true
  | .lt x => by cases x <;> decide +kernel
  | .nou => by decide +kernel
  | .one => by decide +kernel
  | .no c => by
    show (Dt.plain (.str "not") && ((enc c).plain && true)) = true
    rw [plain_enc c]; decide +kernel
  | .cop k c => by
    show (Dt.plain (.str "copies") && (true && ((enc c).plain && true))) = true
    rw [plain_enc c]; decide +kernel
  | .two w a b => by
    show (Dt.plain (.str w.s) && ((enc a).plain && ((enc b).plain && true))) = true
    rw [plain_enc a, plain_enc b]; cases w <;> decide +kernel
theorem plains_enc : ∀ cs : List Cl, Dt.plains (cs.map enc) = true
  | [] => rfl
  | c :: cs => by
    show ((enc c).plain && Dt.plains (cs.map enc)) = true
    rw [plain_enc c, plains_enc cs]; rfl
/-- line != [] -/
theorem ne_nil (cs : List Cl) : gNe (.lst (cs.map enc)) (.lst []) = some (.bl (!cs.isEmpty)) := by
  have h : eqP (.lst (cs.map enc)) (.lst []) = some cs.isEmpty := by
    unfold eqP
    have h1 : (Dt.lst (cs.map enc)).plain = true := plains_enc cs
    have h2 : min (Dt.lst (cs.map enc)).py.depth (Dt.lst []).py.depth ≤ 180 := Nat.le_trans (Nat.min_le_right _ _) (by decide)
    rw [h1, if_pos (by simp [h2]; rfl)]
    cases cs <;> rfl
  simp [gNe, eqD, eqS, h]
def parts_body : Ss := sSeq (sPop 2 (tgName 3)) (sSeq (sAppend 1 (vName 3)) (sExtend 2 (vL (lComp [4, 5] (iSeq (vCall 1 f_sides_told (aCons (vName 3) (aNil)))) (tgTup 2 (tgCons (tgName 4) (tgCons (tgName 5) (tgNil)))) (tTrue) (vName 5)))))
theorem parts_turn (t a o4 o5 : Sl) (acc line : List Cl) (c : Cl) (o3 : Sl) (s : Sv) (hl : acc.length + 1 ≤ 1000000) (hl2 : line.length + 2 ≤ 1000000) :
    parts_body [t, .own (acc.map enc), .own ((line ++ [c]).map enc), o3, o4, o5] s = .nx [t, .own ((acc ++ [c]).map enc), .own ((line ++ sides c).map enc), .val (enc c), o4, o5] s := by
  have e1 : ((line ++ [c]).map enc).getLast? = some (enc c) := by simp
  have e2 : ((line ++ [c]).map enc).dropLast = line.map enc := by simp
  have e3 := compS_map (gg := tgTup 2 (tgCons (tgName 4) (tgCons (tgName 5) (tgNil)))) (b := tTrue) (f := vName 5) (ρ := [t, .own ((acc ++ [c]).map enc), .own (line.map enc), .val (enc c), .un, .un]) (s := s) (g := fun d => match d with | .tup [_, e] => e | d => d) (prs (sidesK c)) [] (fun x hx => by
    obtain ⟨p, _, rfl⟩ := List.mem_map.mp hx
    exact ⟨_, rfl, rfl, rfl⟩) (by
    have : (prs (sidesK c)).length ≤ 2 := by cases c <;> simp [prs, sidesK]
    rw [List.length_nil]
    show 0 + _ ≤ 2 ^ 24
    omega)
  have e4 : (prs (sidesK c)).map (fun d => match d with | .tup [_, e] => e | d => d) = (sides c).map enc := by cases c <;> rfl
  rw [e4] at e3
  have e5 : chk ((acc.map enc).length + 1) = true := chk_mil (by simpa using hl)
  have e6 : chk ((line.map enc).length + ((sides c).map enc).length) = true := chk_mil (by
    have : (sides c).length ≤ 2 := by cases c <;> simp [sides]
    simp; omega)
  have e7 : (acc.map enc ++ [enc c]) = (acc ++ [c]).map enc := by simp
  unfold parts_body
  simp only [sSeq, sPop, ownAt, List.getElem?_cons_succ, List.getElem?_cons_zero, e1, e2, tgName, List.set_cons_succ, List.set_cons_zero, sAppend, vName, Rs.st_ok, e5, if_true, e7, sExtend, vL, lComp, iSeq, vCall, aCons, aNil, Rs.bind_ok, List.length_singleton, sides_told_eq, dSeq, ofO_some, wipeR, e3, List.nil_append, dLst, e6]
  simp
theorem parts_loop : ∀ (n fuel : Nat) (t o3 o4 o5 : Sl) (acc line : List Cl) (s : Sv), (line.map nodes).sum ≤ n → n < fuel → acc.length + (line.map nodes).sum ≤ 900000 →
    ∃ o3', whileS (tB (vOp gNe (oName 2) (vL (lLst (aNil))))) parts_body fuel [t, .own (acc.map enc), .own (line.map enc), o3, o4, o5] s = .nx [t, .own ((acc ++ ((line.map parts).flatten).reverse).map enc), .own [], o3', o4, o5] s
  | n, 0, _, _, _, _, _, _, _, _, h, _ => by omega
  | n, fuel + 1, t, o3, o4, o5, acc, line, s, hn, hf, hl => by
    have test : (tB (vOp gNe (oName 2) (vL (lLst (aNil))))) [t, .own (acc.map enc), .own (line.map enc), o3, o4, o5] s = .ok (!line.isEmpty) s := by
      have c0 : chk ([] : List Dt).length = true := by decide
      simp only [DD.tB, vOp, oName, List.getElem?_cons_succ, List.getElem?_cons_zero, Rs.bind_ok, vL, lLst, aNil, c0, if_true, ne_nil, ofO_some, dB]
    unfold whileS
    rw [test]
    rcases List.eq_nil_or_concat line with rfl | ⟨line', c, rfl⟩
    · exact ⟨o3, by simp⟩
    · rw [List.concat_eq_append] at *
      have hs : ((line' ++ [c]).map nodes).sum = (line'.map nodes).sum + nodes c := by simp
      have hc := nodes_eq c
      have hlen : line'.length ≤ (line'.map nodes).sum := by
        clear hn hl hs test
        induction line' with
        | nil => simp
        | cons x r ih => have := nodes_pos x; simp; omega
      have hs2 : ((line' ++ sides c).map nodes).sum = (line'.map nodes).sum + ((sides c).map nodes).sum := by simp
      have ht := parts_turn t (.un) o4 o5 acc line' c o3 s (by omega) (by omega)
      have ih := parts_loop (n - 1) fuel t (.val (enc c)) o4 o5 (acc ++ [c]) (line' ++ sides c) s (by rw [hs2]; omega) (by have := nodes_pos c; omega) (by rw [hs2, List.length_append, List.length_singleton]; omega)
      obtain ⟨o, ho⟩ := ih
      refine ⟨o, ?_⟩
      have e1 : (!(line' ++ [c]).isEmpty) = true := by simp
      simp only [e1, Rs.st_ok, if_true, ht, ho]
      have e2 : acc ++ [c] ++ (((line' ++ sides c).map parts).flatten).reverse = acc ++ (((line' ++ [c]).map parts).flatten).reverse := by
        simp [parts_eq c]
      rw [e2]
theorem parts_while (c : Cl) (s : Sv) (h : nodes c ≤ 800000) : ∃ o, sWhile (tB (vOp gNe (oName 2) (vL (lLst (aNil))))) parts_body [.val (enc c), .own [], .own [enc c], .un, .un, .un] s = .nx [.val (enc c), .own ((parts c).reverse.map enc), .own [], o, .un, .un] s := by
  have key : ∀ k, nodes c < k → ∃ o, whileS (tB (vOp gNe (oName 2) (vL (lLst (aNil))))) parts_body k [.val (enc c), .own [], .own [enc c], .un, .un, .un] s = .nx [.val (enc c), .own ((parts c).reverse.map enc), .own [], o, .un, .un] s := fun k hk => by
    obtain ⟨o, ho⟩ := parts_loop (nodes c) k (.val (enc c)) .un .un .un [] [c] s (by simp) hk (by simp; omega)
    refine ⟨o, ?_⟩
    have e : (([c].map parts).flatten) = parts c := by simp
    rw [e] at ho
    exact ho
  obtain ⟨o, ho⟩ := key many (many_big (by omega) _ rfl)
  exact ⟨o, while_many fun k e => by rw [e]; exact ho⟩
theorem parts_of_eq (c : Cl) (s : Sv) (h : nodes c ≤ 800000) : f_parts_of [enc c] s = .ok (.tup ((parts c).map enc)) s := by
  obtain ⟨o, ho⟩ := parts_while c s h
  unfold f_parts_of m_parts_of
  refine call_ret ?_
  have e1 : (sPar 1 2 (xO (lLst aNil)) (xO (lLst (aCons (vName 0) aNil)))) ([enc c].map Sl.val ++ List.replicate (6 - [enc c].length) .un) s = .nx [.val (enc c), .own [], .own [enc c], .un, .un, .un] s := rfl
  rw [seq_nx e1]
  unfold parts_body at ho
  rw [seq_nx ho]
  simp only [sRet, vCb, aCons, aNil, vL, lRev, oName, List.getElem?_cons_succ, List.getElem?_cons_zero, Rs.bind_ok, dLst, Option.map_some, ofO_some, gTuple, Rs.st_ok, List.nil_append]
  simp
end K00
set_option Elab.async false
set_option linter.all false
set_option maxRecDepth 100000
set_option maxHeartbeats 2000000
/-! P01: the plain law, part 2: the program's forms. -/
namespace K00
open PySem PySem.Spec PyProof.Rows L2 DD
@[simp] theorem chk0 : chk 0 = true := by decide
@[simp] theorem chk1 : chk 1 = true := by decide
@[simp] theorem chk2 : chk 2 = true := by decide
@[simp] theorem chk3 : chk 3 = true := by decide
@[simp] theorem chk4 : chk 4 = true := by decide
theorem mulC_nat {k n : Nat} (h : k ≤ 1000000000000) : mulC (k : Int) (n : Int) = true := by
  simp only [mulC, Bool.or_eq_true, Bool.and_eq_true, decide_eq_true_eq]
  omega
theorem rngC_nat {k : Int} (h0 : -1 ≤ k) (h : k ≤ 1000000000000) : rngC k = true := by
  simp only [rngC, Bool.and_eq_true, decide_eq_true_eq]
  omega
theorem fop_one (so : Bool) (s : Sv) : f_form_of_part [enc .one, .lst [], .bl so] s = .ok (enc (fnot so .nou)) s := by cases so <;> rfl
theorem fop_nou (so : Bool) (s : Sv) : f_form_of_part [enc .nou, .lst [], .bl so] s = .ok (enc .nou) s := by cases so <;> rfl
theorem fop_lt (so : Bool) (x : Lt) (s : Sv) : f_form_of_part [enc (.lt x), .lst [], .bl so] s = .ok (enc (.lt x)) s := by cases so <;> cases x <;> rfl
theorem fop_no (so : Bool) (c f : Cl) (s : Sv) : f_form_of_part [enc (.no c), .lst [enc f], .bl so] s = .ok (enc (fnot so f)) s := by cases so <;> rfl
theorem fop_two (so : Bool) (w : Wd) (a b f g : Cl) (s : Sv) : f_form_of_part [enc (.two w a b), .lst [enc f, enc g], .bl so] s = .ok (enc (ftwo so w f g)) s := by cases so <;> cases w <;> rfl
theorem fop_both (so : Bool) (f g : Cl) (s : Sv) : f_form_of_part [.tup [.str "both"], .lst [enc f, enc g], .bl so] s = .ok (enc (fboth so f g)) s := by cases so <;> rfl
theorem fop_one0 (so : Bool) (s : Sv) : f_form_of_part [.tup [.str "one"], .lst [], .bl so] s = .ok (enc (fnot so .nou)) s := by cases so <;> rfl
def chain (so : Bool) (f : Cl) : Nat → Cl
  | 0 => f
  | n + 1 => fboth so (chain so f n) f

/-! ### sizes -/
theorem nodes_fnot (so : Bool) (p : Cl) : nodes (fnot so p) ≤ nodes p + 2 := by cases so <;> simp [fnot, nodes] <;> omega
theorem nodes_fboth (so : Bool) (p q : Cl) : nodes p + nodes q + 4 ≤ nodes (fboth so p q) ∧ nodes (fboth so p q) ≤ nodes p + nodes q + 5 := by cases so <;> simp [fboth, fnot, nodes] <;> omega
theorem nodes_chain (so : Bool) (f : Cl) : ∀ n, (n + 1) * nodes f + 4 * n ≤ nodes (chain so f n) ∧ nodes (chain so f n) ≤ (n + 1) * nodes f + 5 * n
  | 0 => by simp [chain]
  | n + 1 => by
    have h := nodes_chain so f n
    have h2 := nodes_fboth so (chain so f n) f
    have e : (n + 1 + 1) * nodes f = (n + 1) * nodes f + nodes f := by rw [Nat.add_mul (n + 1) 1, Nat.one_mul]
    rw [e]
    show _ ≤ nodes (fboth so (chain so f n) f) ∧ nodes (fboth so (chain so f n) f) ≤ _
    omega
theorem nodes_ftwo (so : Bool) (w : Wd) (p q : Cl) : nodes (ftwo so w p q) ≤ 2 * (nodes p + nodes q) + 20 := by
  cases so <;> cases w <;> simp [ftwo, for_, fless, fboth, fnot, nodes] <;> omega

/-! ### copies -/
def cut (c : Cl) : Option Cl := if nodes c ≤ 1100 then some c else none
theorem copies_loop (so : Bool) (f : Cl) (a b o4 : Sl) (body : Ss) (hb : ∀ (g : Cl) (o5 : Sl) (s : Sv), body [a, .val (enc f), b, .val (enc g), o4, o5] s = .nx [a, .val (enc f), b, .val (enc (fboth so g f)), o4, o5] s) : ∀ (ds : List Dt) (m : Nat) (o5 : Sl) (s : Sv),
    ∃ o, loopS (tgName 5) body ds [a, .val (enc f), b, .val (enc (chain so f m)), o4, o5] s = .nx [a, .val (enc f), b, .val (enc (chain so f (m + ds.length))), o4, o] s
  | [], m, o5, s => ⟨o5, rfl⟩
  | d :: ds, m, o5, s => by
    obtain ⟨o, h⟩ := copies_loop so f a b o4 body hb ds (m + 1) (.val d) s
    refine ⟨o, ?_⟩
    rw [loopS]
    simp only [tgName, List.set_cons_succ, List.set_cons_zero, hb]
    rw [show m + (d :: ds).length = m + 1 + ds.length by simp; omega]
    exact h
def cpA : Ss := (sIf (tB (vOp gEq (vName 0) (vC (.int 0)))) (sRet (vCall 3 f_form_of_part (aCons (vTup (aCons (vC (.str "one")) (aNil))) (aCons (vL (lLst (aNil))) (aCons (vName 2) (aNil)))))) (sNil))
def cpB : Ss := (sPar 3 4 (xV (vName 1)) (xV (vCb gLen (aCons (vCall 1 f_parts_of (aCons (vName 1) (aNil))) (aNil)))))
def cpC : Ss := (sIf (tB (vOp gGt (vOp gMulI (vName 0) (vName 4)) (vC (.int 1100)))) (sRaise "TooMany") (sNil))
def cpE : Ss := (sSet 3 (vCall 3 f_form_of_part (aCons (vTup (aCons (vC (.str "both")) (aNil))) (aCons (vL (lLst (aCons (vName 3) (aCons (vName 1) (aNil))))) (aCons (vName 2) (aNil))))))
def cpD : Ss := (sFor (iRng1 (aCons (vOp gSub (vName 0) (vC (.int 1))) (aNil))) (tgName 5) cpE)
theorem cp_def : f_copies_of_part = callS 6 (sSeq cpA (sSeq cpB (sSeq cpC (sSeq cpD (sRet (vName 3)))))) := rfl
theorem cp0 (so : Bool) (f : Cl) (s : Sv) : cpA [.val (.int 0), .val (enc f), .val (.bl so), .un, .un, .un] s = .ret (enc (fnot so .nou)) s := by
  unfold cpA
  simp [fop_one0]
theorem cp1 (so : Bool) (k : Nat) (f : Cl) (s : Sv) (h0 : ¬ k = 0) : cpA [.val (.int k), .val (enc f), .val (.bl so), .un, .un, .un] s = .nx [.val (.int k), .val (enc f), .val (.bl so), .un, .un, .un] s := by
  unfold cpA
  simp [h0]
theorem cp2 (so : Bool) (k : Nat) (f : Cl) (s : Sv) (hf : nodes f ≤ 1100) : cpB [.val (.int k), .val (enc f), .val (.bl so), .un, .un, .un] s = .nx [.val (.int k), .val (enc f), .val (.bl so), .val (enc f), .val (.int (nodes f)), .un] s := by
  unfold cpB
  simp [parts_of_eq f s (by omega), parts_len]
theorem gt_yes (lim a b : Int) (st n : Ss) (ρ : List Sl) (s : Sv) (x y : Sl) (h0 : ρ[0]? = some (.val (.int a))) (h4 : ρ[4]? = some (.val (.int b))) (hm : mulC a b = true) : (sIf (tB (vOp gGt (vOp gMulI (vName 0) (vName 4)) (vC (.int lim)))) st n) ρ s = if lim < a * b then st ρ s else n ρ s := by
  simp [h0, h4, hm]
theorem cp3 (so : Bool) (k : Nat) (f : Cl) (s : Sv) (hk : k ≤ 1000000) (hm : k * nodes f > 1100) : cpC [.val (.int k), .val (enc f), .val (.bl so), .val (enc f), .val (.int (nodes f)), .un] s = .ex "TooMany" [.val (.int k), .val (enc f), .val (.bl so), .val (enc f), .val (.int (nodes f)), .un] s := by
  have hm' : (1100 : Int) < (k : Int) * (nodes f : Int) := by exact_mod_cast hm
  exact (gt_yes 1100 k (nodes f) _ _ _ s .un .un rfl rfl (mulC_nat (by omega))).trans (if_pos hm')
theorem cp4 (so : Bool) (k : Nat) (f : Cl) (s : Sv) (hk : k ≤ 1000000) (hm : ¬ k * nodes f > 1100) : cpC [.val (.int k), .val (enc f), .val (.bl so), .val (enc f), .val (.int (nodes f)), .un] s = .nx [.val (.int k), .val (enc f), .val (.bl so), .val (enc f), .val (.int (nodes f)), .un] s := by
  have hm' : ¬ (1100 : Int) < (k : Int) * (nodes f : Int) := by
    intro z
    exact hm (by exact_mod_cast z)
  exact (gt_yes 1100 k (nodes f) _ _ _ s .un .un rfl rfl (mulC_nat (by omega))).trans (if_neg hm')
theorem cp5 (so : Bool) (k : Nat) (f : Cl) (s : Sv) (hk : k ≤ 1000000) (h0 : ¬ k = 0) : ∃ o, cpD [.val (.int k), .val (enc f), .val (.bl so), .val (enc f), .val (.int (nodes f)), .un] s = .nx [.val (.int k), .val (enc f), .val (.bl so), .val (enc (chain so f (k - 1))), .val (.int (nodes f)), o] s := by
  have rc : rngC ((k : Int) - 1) = true := rngC_nat (by omega) (by omega)
  obtain ⟨o, ho⟩ := copies_loop so f (.val (.int k)) (.val (.bl so)) (.val (.int (nodes f))) cpE (fun g o5 s => by
    unfold cpE
    simp [fop_both]) (rngs 0 ((k : Int) - 1).toNat) 0 .un s
  have hl : (rngs 0 ((k : Int) - 1).toNat).length = k - 1 := by simp [rngs]
  rw [hl, Nat.zero_add] at ho
  refine ⟨o, ?_⟩
  rw [← ho]
  unfold cpD
  simp [rc, chain]
theorem copies_eq (so : Bool) (k : Nat) (f : Cl) (s : Sv) (hk : k ≤ 1000000) (hf : nodes f ≤ 1100) : f_copies_of_part [.int k, enc f, .bl so] s =
    if k = 0 then .ok (enc (fnot so .nou)) s else if k * nodes f > 1100 then .ex "TooMany" s else .ok (enc (chain so f (k - 1))) s := by
  rw [cp_def]
  by_cases h0 : k = 0
  · rw [if_pos h0, h0]
    exact call_ret (seq_ret (cp0 so f s))
  · rw [if_neg h0]
    by_cases hm : k * nodes f > 1100
    · rw [if_pos hm]
      exact call_ex ((seq_nx (cp1 so k f s h0)).trans ((seq_nx (cp2 so k f s hf)).trans (seq_ex (cp3 so k f s hk hm))))
    · rw [if_neg hm]
      obtain ⟨o, ho⟩ := cp5 so k f s hk h0
      exact call_ret ((seq_nx (cp1 so k f s h0)).trans ((seq_nx (cp2 so k f s hf)).trans ((seq_nx (cp4 so k f s hk hm)).trans ((seq_nx ho).trans rfl))))
end K00
set_option Elab.async false
set_option linter.all false
set_option maxRecDepth 100000
set_option maxHeartbeats 2000000
/-! P02: the plain law, part 3: form_of. -/
namespace K00
open PySem PySem.Spec PyProof.Rows L2 DD
theorem chk_mil' {n : Nat} (h : n ≤ 1000000) : chk (n + 1) = true := decide_eq_true (by show n + 1 ≤ 2 ^ 24; omega)
def fbA : Ss := (sSet 4 (vGet2 (vDict [(vC (.str "letter"), vC (.int 0)), (vC (.str "nought"), vC (.int 0)), (vC (.str "one"), vC (.int 0)), (vC (.str "not"), vC (.int 1)), (vC (.str "copies"), vC (.int 1))]) (vOp gIx (vName 3) (vC (.int 0))) (vC (.int 2))))
def fbB : Ss := (sPar 5 2 (xV (vL (lSl (oName 2) (pSome (vOp gSub (vCb gLen (aCons (oName 2) (aNil))) (vName 4))) (pNone)))) (xO (lSl (oName 2) (pNone) (pSome (vOp gSub (vCb gLen (aCons (oName 2) (aNil))) (vName 4))))))
def fbC : Ss := (sIf (tB (vOp gEq (vOp gIx (vName 3) (vC (.int 0))) (vC (.str "copies")))) (sAppend 2 (vCall 3 f_copies_of_part (aCons (vOp gIx (vName 3) (vC (.int 1))) (aCons (vOp gIx (vName 5) (vC (.int 0))) (aCons (vName 1) (aNil)))))) (sAppend 2 (vCall 3 f_form_of_part (aCons (vName 3) (aCons (vName 5) (aCons (vName 1) (aNil)))))))
def fbD : Ss := (sIf (tB (vOp gGt (vCb gLen (aCons (vCall 1 f_parts_of (aCons (vOp gIx (oName 2) (vUn gNeg (vC (.int 1)))) (aNil))) (aNil))) (vC (.int 1100)))) (sRaise "TooMany") (sNil))
def fbody : Ss := sSeq fbA (sSeq fbB (sSeq fbC fbD))
theorem form_of_def : f_form_of = callS 6 (sSeq (sSetO 2 (lLst (aNil))) (sSeq (sFor (iSeq (vCall 1 f_parts_of (aCons (vName 0) (aNil)))) (tgName 3) fbody) (sRet (vOp gIx (oName 2) (vC (.int 0)))))) := rfl
def ar : Cl → Nat
  | .no _ => 1
  | .cop _ _ => 1
  | .two _ _ _ => 2
  | _ => 0
theorem fA (c : Cl) (a b o2 o4 o5 : Sl) (s : Sv) : fbA [a, b, o2, .val (enc c), o4, o5] s = .nx [a, b, o2, .val (enc c), .val (.int (ar c)), o5] s := by
  cases c with
  | two w p q => cases w <;> rfl
  | _ => rfl
theorem cut_hi (T S : List Dt) : cutD (T ++ S) (some (((T ++ S).length : Int) - (S.length : Int))) none = S := by
  have e : (((T ++ S).length : Int) - (S.length : Int)) = ((T.length : Nat) : Int) := by simp
  unfold DD.cutD
  rw [e, HT.sIx_nat]
  show List.take ((T ++ S).length - _) _ = S
  have m : min T.length (T ++ S).length = T.length := by simp
  rw [m, List.drop_left]
  simp
theorem cut_lo (T S : List Dt) : cutD (T ++ S) none (some (((T ++ S).length : Int) - (S.length : Int))) = T := by
  have e : (((T ++ S).length : Int) - (S.length : Int)) = ((T.length : Nat) : Int) := by simp
  unfold DD.cutD
  rw [e, HT.sIx_nat, HT.sIx_none]
  have m : min T.length (T ++ S).length = T.length := by simp
  rw [m, List.drop_zero]
  simp
theorem fB (T S : List Dt) (a b o3 o5 : Sl) (n : Nat) (hn : S.length = n) (s : Sv) : fbB [a, b, .own (T ++ S), o3, .val (.int n), o5] s = .nx [a, b, .own T, o3, .val (.int n), .val (.lst S)] s := by
  subst hn
  have h1 := cut_hi T S
  have h2 := cut_lo T S
  unfold fbB
  simp only [sPar, xV, vL, lSl, oName, List.getElem?_cons_succ, List.getElem?_cons_zero, Rs.bind_ok, pSome, vOp, vCb, aCons, aNil, gLen, ofO_some, vName, DD.gSub, gInt, if_true, dI, Option.map_some, pNone, dLst, h1, h2, Rs.st_ok, xO, List.set_cons_succ, List.set_cons_zero]
theorem atI_last (T : List Dt) (x : Dt) : atI (T ++ [x]) (-1) = some x := by
  have e : (T ++ [x]).length = T.length + 1 := by simp
  unfold atI ixN
  rw [if_neg (by decide), e]
  have h : -((T.length + 1 : Nat) : Int) ≤ -1 := by omega
  rw [if_pos h]
  have h2 : ((-1 : Int) + ((T.length + 1 : Nat) : Int)).toNat = T.length := by omega
  rw [h2, Option.bind_some, List.getElem?_append_right (Nat.le_refl _), Nat.sub_self]
  rfl
/-- the outcome of a part, its sides' forms at hand -/
def stp (so : Bool) : Cl → List Cl → Option Cl
  | .lt x, _ => some (.lt x)
  | .nou, _ => some .nou
  | .one, _ => some (fnot so .nou)
  | .no _, f :: _ => some (fnot so f)
  | .cop k _, f :: _ => if k = 0 then some (fnot so .nou) else if k * nodes f > 1100 then none else some (chain so f (k - 1))
  | .two w _ _, f :: g :: _ => some (ftwo so w f g)
  | _, _ => none
def smallK : Cl → Bool
  | .no c => smallK c
  | .cop k c => decide (k ≤ 1000000) && smallK c
  | .two _ a b => smallK a && smallK b
  | _ => true
theorem app_ok {f : Sm Dt} {ρ : List Sl} {s s2 : Sv} {i : Nat} {T : List Dt} {d : Dt} (h0 : ρ[i]? = some (.own T)) (h : f ρ s = .ok d s2) (hc : T.length ≤ 1000000) : sAppend i f ρ s = .nx (ρ.set i (.own (T ++ [d]))) s2 := by
  unfold sAppend ownAt
  rw [h0]
  simp [h, chk_mil' hc]
theorem app_ex {f : Sm Dt} {ρ : List Sl} {s s2 : Sv} {i : Nat} {T : List Dt} {x : Str} (h0 : ρ[i]? = some (.own T)) (h : f ρ s = .ex x s2) : sAppend i f ρ s = .ex x ρ s2 := by
  unfold sAppend ownAt
  rw [h0]
  simp [h]
def isCop : Cl → Bool
  | .cop _ _ => true
  | _ => false
theorem copTest (c : Cl) (a b o2 o4 o5 : Sl) (s : Sv) : (tB (vOp gEq (vOp gIx (vName 3) (vC (.int 0))) (vC (.str "copies")))) [a, b, o2, .val (enc c), o4, o5] s = .ok (isCop c) s := by
  cases c with
  | two w p q => cases w <;> rfl
  | _ => rfl
theorem sIf_ok {b : Sm Bool} {m n : Ss} {ρ : List Sl} {s s2 : Sv} {x : Bool} (h : b ρ s = .ok x s2) : sIf b m n ρ s = if x then m ρ s2 else n ρ s2 := by
  unfold sIf
  rw [h]
  rfl
theorem stp_part (so : Bool) (c : Cl) (hc : isCop c = false) (fs : List Cl) (hl : fs.length = ar c) (s : Sv) : ∃ e, stp so c fs = some e ∧ f_form_of_part [enc c, .lst (fs.map enc), .bl so] s = .ok (enc e) s := by
  cases c with
  | lt x =>
    match fs, hl with
    | [], _ => exact ⟨_, rfl, fop_lt so x s⟩
  | nou =>
    match fs, hl with
    | [], _ => exact ⟨_, rfl, fop_nou so s⟩
  | one =>
    match fs, hl with
    | [], _ => exact ⟨_, rfl, fop_one so s⟩
  | no c =>
    match fs, hl with
    | [f], _ => exact ⟨_, rfl, fop_no so c f s⟩
  | cop k c => cases hc
  | two w p q =>
    match fs, hl with
    | [f, g], _ => exact ⟨_, rfl, fop_two so w p q f g s⟩
def fcA : Sm Dt := (vCall 3 f_copies_of_part (aCons (vOp gIx (vName 3) (vC (.int 1))) (aCons (vOp gIx (vName 5) (vC (.int 0))) (aCons (vName 1) (aNil)))))
def fcB : Sm Dt := (vCall 3 f_form_of_part (aCons (vName 3) (aCons (vName 5) (aCons (vName 1) (aNil)))))
theorem fcB_eq (c : Cl) (so : Bool) (fs : List Cl) (a o2 o4 : Sl) (s : Sv) : fcB [a, .val (.bl so), o2, .val (enc c), o4, .val (.lst (fs.map enc))] s = f_form_of_part [enc c, .lst (fs.map enc), .bl so] s := rfl
theorem fcA_eq (k : Nat) (c f : Cl) (so : Bool) (a o2 o4 : Sl) (s : Sv) : fcA [a, .val (.bl so), o2, .val (enc (.cop k c)), o4, .val (.lst [enc f])] s = f_copies_of_part [.int k, enc f, .bl so] s := rfl
theorem fC (so : Bool) (c : Cl) (hc : smallK c = true) (fs : List Cl) (hl : fs.length = ar c) (hf : ∀ f ∈ fs, nodes f ≤ 1100) (T : List Dt) (hT : T.length ≤ 1000000) (a o3 : Sl) (s : Sv) :
    fbC [a, .val (.bl so), .own T, .val (enc c), o3, .val (.lst (fs.map enc))] s = match stp so c fs with
      | some e => .nx [a, .val (.bl so), .own (T ++ [enc e]), .val (enc c), o3, .val (.lst (fs.map enc))] s
      | none => .ex "TooMany" [a, .val (.bl so), .own T, .val (enc c), o3, .val (.lst (fs.map enc))] s := by
  have e : fbC = sIf (tB (vOp gEq (vOp gIx (vName 3) (vC (.int 0))) (vC (.str "copies")))) (sAppend 2 fcA) (sAppend 2 fcB) := rfl
  rw [e, sIf_ok (copTest c _ _ _ _ _ s)]
  cases hcop : isCop c with
  | false =>
    obtain ⟨r, h1, h2⟩ := stp_part so c hcop fs hl s
    rw [h1]
    exact (if_neg Bool.false_ne_true).trans (app_ok rfl ((fcB_eq c so fs _ _ _ s).trans h2) hT)
  | true =>
    cases c with
    | cop k c =>
      match fs, hl, hf with
      | [f], _, hf =>
        have hk : k ≤ 1000000 := by
          have : (decide (k ≤ 1000000) && smallK c) = true := hc
          rw [Bool.and_eq_true, decide_eq_true_eq] at this
          exact this.1
        have h := copies_eq so k f s hk (hf f (by simp))
        refine (if_pos rfl).trans ?_
        show _ = match (if k = 0 then some (fnot so .nou) else if k * nodes f > 1100 then none else some (chain so f (k - 1))) with | some e => _ | none => _
        by_cases h0 : k = 0
        · rw [if_pos h0] at h ⊢
          exact app_ok rfl ((fcA_eq k c f so _ _ _ s).trans h) hT
        · rw [if_neg h0] at h ⊢
          by_cases hm : k * nodes f > 1100
          · rw [if_pos hm] at h ⊢
            exact app_ex rfl ((fcA_eq k c f so _ _ _ s).trans h)
          · rw [if_neg hm] at h ⊢
            exact app_ok rfl ((fcA_eq k c f so _ _ _ s).trans h) hT
    | _ => cases hcop
theorem fDg (lim : Int) (T : List Dt) (e : Cl) (a b o3 o4 o5 : Sl) (s : Sv) (he : nodes e ≤ 800000) (st n : Ss) : (sIf (tB (vOp gGt (vCb gLen (aCons (vCall 1 f_parts_of (aCons (vOp gIx (oName 2) (vUn gNeg (vC (.int 1)))) (aNil))) (aNil))) (vC (.int lim)))) st n) [a, b, .own (T ++ [enc e]), o3, o4, o5] s =
    if lim < (nodes e : Int) then st [a, b, .own (T ++ [enc e]), o3, o4, o5] s else n [a, b, .own (T ++ [enc e]), o3, o4, o5] s := by
  have h := atI_last T (enc e)
  simp [gIx, h, parts_of_eq e _ he, parts_len]
/-- the whole turn of a part -/
def form (so : Bool) : Cl → Option Cl
  | .no c => (form so c).bind fun f => (stp so (.no c) [f]).bind cut
  | .cop k c => (form so c).bind fun f => (stp so (.cop k c) [f]).bind cut
  | .two w a b => (form so a).bind fun f => (form so b).bind fun g => (stp so (.two w a b) [f, g]).bind cut
  | c => (stp so c []).bind cut
theorem stp_small (so : Bool) (c : Cl) (fs : List Cl) (hf : ∀ f ∈ fs, nodes f ≤ 1100) (e : Cl) (h : stp so c fs = some e) : nodes e ≤ 100000 := by
  cases c with
  | lt x => cases h; simp [nodes]
  | nou => cases h; simp [nodes]
  | one => cases h; have := nodes_fnot so .nou; simp [nodes] at this; omega
  | no c =>
    match fs, hf with
    | [], _ => cases h
    | f :: r, hf =>
      cases h
      have := nodes_fnot so f
      have := hf f (by simp)
      omega
  | cop k c =>
    match fs, hf with
    | [], _ => cases h
    | f :: r, hf =>
      have h : (if k = 0 then some (fnot so .nou) else if k * nodes f > 1100 then none else some (chain so f (k - 1))) = some e := h
      by_cases h0 : k = 0
      · rw [if_pos h0] at h
        cases h
        have := nodes_fnot so .nou; simp [nodes] at this; omega
      · rw [if_neg h0] at h
        by_cases hm : k * nodes f > 1100
        · rw [if_pos hm] at h; cases h
        · rw [if_neg hm] at h
          cases h
          have h1 := (nodes_chain so f (k - 1)).2
          have h2 := nodes_pos f
          have h3 : k - 1 + 1 = k := by omega
          rw [h3] at h1
          have h4 : k ≤ k * nodes f := Nat.le_mul_of_pos_right k h2
          omega
  | two w a b =>
    match fs, hf with
    | [], _ => cases h
    | [_], _ => cases h
    | f :: g :: r, hf =>
      cases h
      have := nodes_ftwo so w f g
      have := hf f (by simp)
      have := hf g (by simp)
      omega
theorem fturn (so : Bool) (c : Cl) (hc : smallK c = true) (fs : List Cl) (hl : fs.length = ar c) (hf : ∀ f ∈ fs, nodes f ≤ 1100) (T : List Dt) (hT : T.length ≤ 1000000) (a o4 o5 : Sl) (s : Sv) :
    match (stp so c fs).bind cut with
      | some e => ∃ o4' o5', fbody [a, .val (.bl so), .own (T ++ fs.map enc), .val (enc c), o4, o5] s = .nx [a, .val (.bl so), .own (T ++ [enc e]), .val (enc c), o4', o5'] s
      | none => ∃ ρ, fbody [a, .val (.bl so), .own (T ++ fs.map enc), .val (enc c), o4, o5] s = .ex "TooMany" ρ s := by
  have e1 := fA c a (.val (.bl so)) (.own (T ++ fs.map enc)) o4 o5 s
  have e2 := fB T (fs.map enc) a (.val (.bl so)) (.val (enc c)) o5 (ar c) (by simpa using hl) s
  have e3 := fC so c hc fs hl hf T hT a (.val (.int (ar c))) s
  unfold fbody
  rw [seq_nx e1, seq_nx e2]
  cases h : stp so c fs with
  | none =>
    rw [h] at e3
    exact ⟨_, seq_ex e3⟩
  | some e =>
    rw [h] at e3
    rw [seq_nx e3]
    have hn := stp_small so c fs hf e h
    have e4 := fDg 1100 T e a (.val (.bl so)) (.val (enc c)) (.val (.int (ar c))) (.val (.lst (fs.map enc))) s (by omega) (sRaise "TooMany") sNil
    show match cut e with | some e => _ | none => _
    unfold cut
    by_cases hh : nodes e ≤ 1100
    · rw [if_pos hh]
      refine ⟨_, _, e4.trans (if_neg ?_)⟩
      omega
    · rw [if_neg hh]
      refine ⟨_, e4.trans (if_pos ?_)⟩
      omega
theorem cut_le {c e : Cl} (h : cut c = some e) : nodes e ≤ 1100 := by
  unfold cut at h
  split at h
  · cases h; assumption
  · cases h
theorem form_le (so : Bool) (c f : Cl) (h : form so c = some f) : nodes f ≤ 1100 := by
  cases c with
  | no c =>
    obtain ⟨g, _, h⟩ := Option.bind_eq_some_iff.mp h
    obtain ⟨e, _, h⟩ := Option.bind_eq_some_iff.mp h
    exact cut_le h
  | cop k c =>
    obtain ⟨g, _, h⟩ := Option.bind_eq_some_iff.mp h
    obtain ⟨e, _, h⟩ := Option.bind_eq_some_iff.mp h
    exact cut_le h
  | two w a b =>
    obtain ⟨g, _, h⟩ := Option.bind_eq_some_iff.mp h
    obtain ⟨g2, _, h⟩ := Option.bind_eq_some_iff.mp h
    obtain ⟨e, _, h⟩ := Option.bind_eq_some_iff.mp h
    exact cut_le h
  | _ =>
    obtain ⟨e, _, h⟩ := Option.bind_eq_some_iff.mp h
    exact cut_le h
def Told (so : Bool) (c : Cl) (rest : List Dt) (T : List Dt) (a : Sl) (s : Sv) : Prop := ∀ o3 o4 o5, match form so c with
  | some f => ∃ o3' o4' o5', loopS (tgName 3) fbody ((parts c).map enc ++ rest) [a, .val (.bl so), .own T, o3, o4, o5] s = loopS (tgName 3) fbody rest [a, .val (.bl so), .own (T ++ [enc f]), o3', o4', o5'] s
  | none => ∃ ρ, loopS (tgName 3) fbody ((parts c).map enc ++ rest) [a, .val (.bl so), .own T, o3, o4, o5] s = .ex "TooMany" ρ s
/-- the part itself, its sides done -/
theorem told_last (so : Bool) (c : Cl) (hc : smallK c = true) (fs : List Cl) (hl : fs.length = ar c) (hf : ∀ f ∈ fs, nodes f ≤ 1100) (T rest : List Dt) (hT : T.length ≤ 1000000) (a o3 o4 o5 : Sl) (s : Sv) : match (stp so c fs).bind cut with
  | some f => ∃ o3' o4' o5', loopS (tgName 3) fbody (enc c :: rest) [a, .val (.bl so), .own (T ++ fs.map enc), o3, o4, o5] s = loopS (tgName 3) fbody rest [a, .val (.bl so), .own (T ++ [enc f]), o3', o4', o5'] s
  | none => ∃ ρ, loopS (tgName 3) fbody (enc c :: rest) [a, .val (.bl so), .own (T ++ fs.map enc), o3, o4, o5] s = .ex "TooMany" ρ s := by
  have h := fturn so c hc fs hl hf T hT a o4 o5 s
  cases e : (stp so c fs).bind cut with
  | some f =>
    rw [e] at h
    obtain ⟨p, q, h⟩ := h
    refine ⟨.val (enc c), p, q, ?_⟩
    rw [loopS]
    simp only [tgName, List.set_cons_succ, List.set_cons_zero, h]
  | none =>
    rw [e] at h
    obtain ⟨ρ, h⟩ := h
    refine ⟨ρ, ?_⟩
    rw [loopS]
    simp only [tgName, List.set_cons_succ, List.set_cons_zero, h]
theorem told_all (so : Bool) : ∀ (c : Cl), smallK c = true → ∀ (rest T : List Dt) (a : Sl) (s : Sv), T.length + nodes c ≤ 1000000 → Told so c rest T a s
  | .lt x, hc, rest, T, a, s, hT => fun o3 o4 o5 => by
    have h := told_last so (.lt x) hc [] rfl (by simp) T rest (by omega) a o3 o4 o5 s
    simpa [form, parts] using h
  | .nou, hc, rest, T, a, s, hT => fun o3 o4 o5 => by
    have h := told_last so .nou hc [] rfl (by simp) T rest (by omega) a o3 o4 o5 s
    simpa [form, parts] using h
  | .one, hc, rest, T, a, s, hT => fun o3 o4 o5 => by
    have h := told_last so .one hc [] rfl (by simp) T rest (by omega) a o3 o4 o5 s
    simpa [form, parts] using h
  | .no c, hc, rest, T, a, s, hT => fun o3 o4 o5 => by
    have ih := told_all so c hc (enc (.no c) :: rest) T a s (by simp [nodes] at hT; omega) o3 o4 o5
    have ep : (parts (.no c)).map enc ++ rest = (parts c).map enc ++ (enc (.no c) :: rest) := by simp [parts]
    rw [ep, show form so (.no c) = (form so c).bind fun f => (stp so (.no c) [f]).bind cut from rfl]
    cases hf : form so c with
    | none => rw [hf] at ih; exact ih
    | some f =>
      rw [hf] at ih
      obtain ⟨p, q, r, ih⟩ := ih
      have h := told_last so (.no c) hc [f] rfl (by intro g hg; rw [List.mem_singleton.mp hg]; exact form_le so c f hf) T rest (by omega) a p q r s
      rw [ih]
      exact h
  | .cop k c, hc, rest, T, a, s, hT => fun o3 o4 o5 => by
    have hc' : smallK c = true := by
      have : (decide (k ≤ 1000000) && smallK c) = true := hc
      rw [Bool.and_eq_true] at this
      exact this.2
    have ih := told_all so c hc' (enc (.cop k c) :: rest) T a s (by simp [nodes] at hT; omega) o3 o4 o5
    have ep : (parts (.cop k c)).map enc ++ rest = (parts c).map enc ++ (enc (.cop k c) :: rest) := by simp [parts]
    rw [ep, show form so (.cop k c) = (form so c).bind fun f => (stp so (.cop k c) [f]).bind cut from rfl]
    cases hf : form so c with
    | none => rw [hf] at ih; exact ih
    | some f =>
      rw [hf] at ih
      obtain ⟨p, q, r, ih⟩ := ih
      have h := told_last so (.cop k c) hc [f] rfl (by intro g hg; rw [List.mem_singleton.mp hg]; exact form_le so c f hf) T rest (by omega) a p q r s
      rw [ih]
      exact h
  | .two w x y, hc, rest, T, a, s, hT => fun o3 o4 o5 => by
    have hc' : smallK x = true ∧ smallK y = true := by
      have : (smallK x && smallK y) = true := hc
      rw [Bool.and_eq_true] at this
      exact this
    have hT' : T.length + (1 + nodes x + nodes y) ≤ 1000000 := hT
    have ih := told_all so x hc'.1 ((parts y).map enc ++ (enc (.two w x y) :: rest)) T a s (by omega) o3 o4 o5
    have ep : (parts (.two w x y)).map enc ++ rest = (parts x).map enc ++ ((parts y).map enc ++ (enc (.two w x y) :: rest)) := by simp [parts]
    rw [ep, show form so (.two w x y) = (form so x).bind fun f => (form so y).bind fun g => (stp so (.two w x y) [f, g]).bind cut from rfl]
    cases hf : form so x with
    | none => rw [hf] at ih; exact ih
    | some f =>
      rw [hf] at ih
      obtain ⟨p, q, r, ih⟩ := ih
      rw [ih]
      have hny := nodes_pos x
      have ih2 := told_all so y hc'.2 (enc (.two w x y) :: rest) (T ++ [enc f]) a s (by simp; omega) p q r
      rw [show (some f).bind (fun f => (form so y).bind fun g => (stp so (.two w x y) [f, g]).bind cut) = (form so y).bind fun g => (stp so (.two w x y) [f, g]).bind cut from rfl]
      cases hg : form so y with
      | none => rw [hg] at ih2; exact ih2
      | some g =>
        rw [hg] at ih2
        obtain ⟨p2, q2, r2, ih2⟩ := ih2
        rw [ih2]
        have h := told_last so (.two w x y) hc [f, g] rfl (by
          intro z hz
          simp only [List.mem_cons, List.not_mem_nil, or_false] at hz
          rcases hz with rfl | rfl
          · exact form_le so x _ hf
          · exact form_le so y _ hg) T rest (by omega) a p2 q2 r2 s
        have e2 : T ++ [enc f] ++ [enc g] = T ++ [f, g].map enc := by simp
        rw [e2]
        exact h
theorem form_of_eq (so : Bool) (c : Cl) (hc : smallK c = true) (hn : nodes c ≤ 800000) (s : Sv) : f_form_of [enc c, .bl so] s = match form so c with
    | some f => .ok (enc f) s
    | none => .ex "TooMany" s := by
  have h := told_all so c hc [] [] (.val (enc c)) s (by simp; omega) .un .un .un
  rw [List.append_nil] at h
  rw [form_of_def]
  have e1 : (sSetO 2 (lLst (aNil))) ([enc c, Dt.bl so].map Sl.val ++ List.replicate (6 - [enc c, Dt.bl so].length) .un) s = .nx [.val (enc c), .val (.bl so), .own [], .un, .un, .un] s := rfl
  have e2 : (sFor (iSeq (vCall 1 f_parts_of (aCons (vName 0) (aNil)))) (tgName 3) fbody) [.val (enc c), .val (.bl so), .own [], .un, .un, .un] s = loopS (tgName 3) fbody ((parts c).map enc) [.val (enc c), .val (.bl so), .own [], .un, .un, .un] s := by
    simp [parts_of_eq c s hn]
  cases hf : form so c with
  | none =>
    rw [hf] at h
    obtain ⟨ρ, h⟩ := h
    exact call_ex ((seq_nx e1).trans (seq_ex (e2.trans h)))
  | some f =>
    rw [hf] at h
    obtain ⟨p, q, r, h⟩ := h
    exact call_ret ((seq_nx e1).trans ((seq_nx (e2.trans h)).trans rfl))
end K00
set_option Elab.async false
set_option linter.all false
set_option maxRecDepth 100000
set_option maxHeartbeats 2000000
/-! P03: the plain law, part 4: the law's own nodes, parts, forms. -/
namespace K00
open PySem PySem.Spec PyProof.Rows L2 DD
theorem compS_en {α : Type} {gg : Dt → List Sl → Option (List Sl)} {b : Sm Bool} {f : Sm Dt} {ρ : List Sl} {s : Sv} {en g : α → Dt} : ∀ (xs : List α) (acc : List Dt), (∀ x ∈ xs, ∃ ρ1, gg (en x) ρ = some ρ1 ∧ b ρ1 s = .ok true s ∧ f ρ1 s = .ok (g x) s) → acc.length + xs.length ≤ sizeLine → compS gg b f ρ (xs.map en) acc s = .ok (acc ++ xs.map g) s
  | [], acc, _, _ => by simp [compS]
  | x :: xs, acc, h, hl => by
    obtain ⟨ρ1, h1, h2, h3⟩ := h x (by simp)
    rw [List.length_cons] at hl
    rw [List.map_cons]
    unfold compS
    rw [h1]
    simp only [h2, h3, if_true]
    rw [if_pos (chk_le (by omega))]
    rw [compS_en xs (acc ++ [g x]) (fun y hy => h y (by simp [hy])) (by rw [List.length_append, List.length_singleton]; omega)]
    simp
theorem few_ok {n : Nat} (h : n ≤ 1000000) : n ≤ sizeLine := by show n ≤ 2 ^ 24; omega
theorem law_sides_eq (c : Cl) (s : Sv) : f__law_sides [enc c] s = .ok (.tup ((sides c).map enc)) s := by
  cases c with
  | two w a b => cases w <;> rfl
  | _ => rfl
def dp : Cl → Nat
  | .no c => 1 + dp c
  | .cop _ c => 1 + dp c
  | .two _ a b => 1 + max (dp a) (dp b)
  | _ => 1
theorem dp_sides (c : Cl) : ∀ x ∈ sides c, dp x + 1 ≤ dp c := by
  cases c <;> simp [sides, dp] <;> omega
theorem sides_len (c : Cl) : (sides c).length ≤ 2 := by cases c <;> simp [sides]
theorem sides_nodes (c : Cl) : ∀ x ∈ sides c, nodes x + 1 ≤ nodes c := by
  cases c <;> simp [sides, nodes] <;> omega
theorem law_nodes_eq : ∀ (n : Nat) (c : Cl) (s : Sv), dp c ≤ n → f__law_nodes n [enc c] s = .ok (.int (nodes c)) s
  | 0, c, s, h => by cases c <;> simp [dp] at h
  | n + 1, c, s, h => by
    have e := compS_en (gg := tgName 1) (b := tTrue) (f := vCall 1 (f__law_nodes n) (aCons (vName 1) (aNil))) (ρ := [.val (enc c), .un]) (s := s) (en := enc) (g := fun x => .int (nodes x)) (sides c) [] (fun x hx => by
      have ih := law_nodes_eq n x s (by have := dp_sides c x hx; omega)
      exact ⟨_, rfl, rfl, by simpa using ih⟩) (few_ok (by have := sides_len c; simp; omega))
    have e2 : dIs ((sides c).map fun x => Dt.int (nodes x)) = some ((sides c).map fun x => (nodes x : Int)) := by
      have := dIs_ints ((sides c).map fun x => (nodes x : Int))
      rw [List.map_map] at this
      exact this
    have e3 : (1 : Int) + ((sides c).map fun x => (nodes x : Int)).sum = (nodes c : Int) := by
      have z := nodes_eq c
      rw [z]
      generalize sides c = l
      induction l with
      | nil => simp
      | cons x l ih => simp at ih ⊢; omega
    show callS 2 (m__law_nodes f__law_sides (f__law_nodes n)) [enc c] s = _
    refine call_ret ?_
    unfold m__law_nodes
    have e4 : (lComp [1] (iSeq (vCall 1 f__law_sides (aCons (vName 0) (aNil)))) (tgName 1) (tTrue) (vCall 1 (f__law_nodes n) (aCons (vName 1) (aNil)))) [.val (enc c), .un] s = .ok ((sides c).map fun x => .int (nodes x)) s := by
      have : (lComp [1] (iSeq (vCall 1 f__law_sides (aCons (vName 0) (aNil)))) (tgName 1) (tTrue) (vCall 1 (f__law_nodes n) (aCons (vName 1) (aNil)))) [.val (enc c), .un] s = compS (tgName 1) tTrue (vCall 1 (f__law_nodes n) (aCons (vName 1) (aNil))) [.val (enc c), .un] ((sides c).map enc) [] s := by
        simp [law_sides_eq]
      rw [this, e]
      simp
    show (sRet (vOp gAdd (vC (.int 1)) (vCb gSum (aCons (vL (lComp [1] (iSeq (vCall 1 f__law_sides (aCons (vName 0) (aNil)))) (tgName 1) (tTrue) (vCall 1 (f__law_nodes n) (aCons (vName 1) (aNil))))) (aNil))))) [.val (enc c), .un] s = _
    simp only [sRet, vOp, vC, Rs.bind_ok, vCb, aCons, vL, e4, aNil, gSum, e2, Option.map_some, ofO_some, gAdd, e3, Rs.st_ok]
theorem parts_sides : ∀ c : Cl, parts c = ((sides c).map parts).flatten ++ [c] := parts_eq
theorem law_parts_loop (n : Nat) (ih : ∀ (c : Cl) (s : Sv), dp c ≤ n → nodes c ≤ 800000 → f__law_parts n [enc c] s = .ok (.lst ((parts c).map enc)) s) (t : Sl) : ∀ (cs : List Cl) (acc : List Cl) (o : Sl) (s : Sv), (∀ c ∈ cs, dp c ≤ n) → acc.length + (cs.map nodes).sum ≤ 800000 →
    ∃ o', loopS (tgName 2) (sSet 1 (vOp gAdd (vName 1) (vCall 1 (f__law_parts n) (aCons (vName 2) (aNil))))) (cs.map enc) [t, .val (.lst (acc.map enc)), o] s = .nx [t, .val (.lst ((acc ++ (cs.map parts).flatten).map enc)), o'] s
  | [], acc, o, s, _, _ => ⟨o, by simp [loopS]⟩
  | c :: cs, acc, o, s, h, hl => by
    have hl' : acc.length + (nodes c + (cs.map nodes).sum) ≤ 800000 := by simpa using hl
    have e := ih c s (h c (by simp)) (by omega)
    have hp := parts_len c
    obtain ⟨o', h2⟩ := law_parts_loop n ih t cs (acc ++ parts c) (.val (enc c)) s (fun x hx => h x (by simp [hx])) (by simp [hp]; omega)
    refine ⟨o', ?_⟩
    have hc : chk ((acc.map enc).length + ((parts c).map enc).length) = true := chk_mil (by simp [hp]; omega)
    rw [List.map_cons, loopS]
    simp only [tgName, List.set_cons_succ, List.set_cons_zero, sSet, vOp, vName, List.getElem?_cons_succ, List.getElem?_cons_zero, Rs.bind_ok, vCall, aCons, aNil, List.length_singleton, if_true, e, gAdd, hc, ofO_some, Rs.st_ok]
    rw [← List.map_append, h2]
    simp
theorem law_parts_eq : ∀ (n : Nat) (c : Cl) (s : Sv), dp c ≤ n → nodes c ≤ 800000 → f__law_parts n [enc c] s = .ok (.lst ((parts c).map enc)) s
  | 0, c, s, h, _ => by cases c <;> simp [dp] at h
  | n + 1, c, s, h, hn => by
    have hz := nodes_eq c
    obtain ⟨o, e⟩ := law_parts_loop n (law_parts_eq n) (.val (enc c)) (sides c) [] .un s (fun x hx => by have := dp_sides c x hx; omega) (by simp; omega)
    show callS 3 (m__law_parts f__law_sides (f__law_parts n)) [enc c] s = _
    refine call_ret ?_
    unfold m__law_parts
    have e1 : (sSet 1 (vL (lLst (aNil)))) ([enc c].map Sl.val ++ List.replicate (3 - [enc c].length) .un) s = .nx [.val (enc c), .val (.lst []), .un] s := rfl
    have e2 : (sFor (iSeq (vCall 1 f__law_sides (aCons (vName 0) (aNil)))) (tgName 2) (sSet 1 (vOp gAdd (vName 1) (vCall 1 (f__law_parts n) (aCons (vName 2) (aNil)))))) [.val (enc c), .val (.lst []), .un] s = .nx [.val (enc c), .val (.lst ((((sides c).map parts).flatten).map enc)), o] s := by
      have : (sFor (iSeq (vCall 1 f__law_sides (aCons (vName 0) (aNil)))) (tgName 2) (sSet 1 (vOp gAdd (vName 1) (vCall 1 (f__law_parts n) (aCons (vName 2) (aNil)))))) [.val (enc c), .val (.lst []), .un] s = loopS (tgName 2) (sSet 1 (vOp gAdd (vName 1) (vCall 1 (f__law_parts n) (aCons (vName 2) (aNil))))) ((sides c).map enc) [.val (enc c), .val (.lst []), .un] s := by
        simp [law_sides_eq]
      rw [this]
      simpa using e
    refine (seq_nx e1).trans ((seq_nx e2).trans ?_)
    have hp := parts_len c
    have hq := congrArg List.length (parts_eq c)
    rw [List.length_append, List.length_singleton] at hq
    have hc : chk (((((sides c).map parts).flatten).map enc).length + 1) = true := chk_mil' (by simp only [List.length_map]; omega)
    have e3 : (((sides c).map parts).flatten).map enc ++ [enc c] = (parts c).map enc := by
      rw [parts_eq c]; simp
    simp only [sRet, vL, lCat, vName, List.getElem?_cons_succ, List.getElem?_cons_zero, Rs.bind_ok, lLst, aCons, aNil, List.length_singleton, chk1, if_true, dLst, Option.bind_some, hc, ofO_some, e3, Rs.st_ok]
end K00
set_option Elab.async false
set_option linter.all false
set_option maxRecDepth 100000
set_option maxHeartbeats 2000000
/-! P04: the plain law, part 5: the law's own form. -/
namespace K00
open PySem PySem.Spec PyProof.Rows L2 DD
def encO : Option Cl → Dt
  | some f => enc f
  | none => .non
theorem dp_pos (c : Cl) : 1 ≤ dp c := by cases c <;> simp [dp] <;> omega
theorem dp_fnot (so : Bool) (p : Cl) : dp (fnot so p) ≤ dp p + 1 := by
  have := dp_pos p
  cases so <;> simp [fnot, dp] <;> omega
theorem dp_fboth (so : Bool) (p q : Cl) : dp (fboth so p q) ≤ max (dp p) (dp q) + 3 := by
  have := dp_pos p
  have := dp_pos q
  cases so <;> simp [fboth, fnot, dp] <;> omega
theorem dp_ftwo (so : Bool) (w : Wd) (p q : Cl) : dp (ftwo so w p q) ≤ max (dp p) (dp q) + 8 := by
  have := dp_pos p
  have := dp_pos q
  cases so <;> cases w <;> simp [ftwo, for_, fless, fboth, fnot, dp] <;> omega
theorem dp_chain (so : Bool) (f : Cl) : ∀ n, dp (chain so f n) ≤ dp f + 3 * n
  | 0 => by simp [chain]
  | n + 1 => by
    have h := dp_chain so f n
    have h2 := dp_fboth so (chain so f n) f
    show dp (fboth so (chain so f n) f) ≤ _
    omega
def lev : Cl → Nat
  | .no c => 1 + lev c
  | .cop _ c => 1 + lev c
  | .two _ a b => 1 + max (lev a) (lev b)
  | _ => 0
def k30 : Cl → Prop
  | .no c => k30 c
  | .cop k c => k ≤ 30 ∧ k30 c
  | .two _ a b => k30 a ∧ k30 b
  | _ => True
theorem cut_is {c e : Cl} (h : cut c = some e) : c = e := by
  unfold cut at h
  split at h
  · cases h; rfl
  · cases h
theorem dp_form (so : Bool) : ∀ (c : Cl), k30 c → ∀ f, form so c = some f → dp f ≤ 90 * lev c + 2
  | .lt x, _, f, h => by
    have := cut_is (show cut (.lt x) = some f from h)
    subst this
    simp [dp]
  | .nou, _, f, h => by
    have := cut_is (show cut .nou = some f from h)
    subst this
    simp [dp]
  | .one, _, f, h => by
    have := cut_is (show cut (fnot so .nou) = some f from h)
    subst this
    have := dp_fnot so .nou
    simp [dp] at this
    omega
  | .no c, hk, f, h => by
    obtain ⟨g, hg, h⟩ := Option.bind_eq_some_iff.mp h
    have ih := dp_form so c hk g hg
    have := cut_is (show cut (fnot so g) = some f from h)
    subst this
    have := dp_fnot so g
    simp [lev]
    omega
  | .cop k c, hk, f, h => by
    obtain ⟨g, hg, h⟩ := Option.bind_eq_some_iff.mp h
    have ih := dp_form so c hk.2 g hg
    obtain ⟨e, he, h⟩ := Option.bind_eq_some_iff.mp h
    have h1 := cut_is h
    subst h1
    have he : (if k = 0 then some (fnot so .nou) else if k * nodes g > 1100 then none else some (chain so g (k - 1))) = some e := he
    have hk' := hk.1
    by_cases h0 : k = 0
    · rw [if_pos h0] at he
      cases he
      have := dp_fnot so .nou
      simp [dp, lev] at this ⊢
      omega
    · rw [if_neg h0] at he
      by_cases hm : k * nodes g > 1100
      · rw [if_pos hm] at he; cases he
      · rw [if_neg hm] at he
        cases he
        have := dp_chain so g (k - 1)
        simp [lev]
        omega
  | .two w a b, hk, f, h => by
    obtain ⟨g, hg, h⟩ := Option.bind_eq_some_iff.mp h
    obtain ⟨g2, hg2, h⟩ := Option.bind_eq_some_iff.mp h
    have ih := dp_form so a hk.1 g hg
    have ih2 := dp_form so b hk.2 g2 hg2
    have := cut_is (show cut (ftwo so w g g2) = some f from h)
    subst this
    have := dp_ftwo so w g g2
    simp [lev]
    omega
theorem flat_enc (c : Cl) : flatD (enc c) = false := by cases c <;> rfl
theorem eqv_enc (c : Cl) : PyData.eqv (enc c).py Dt.non.py = false := by cases c <;> rfl
theorem plain_encO (o : Option Cl) : (encO o).plain = true := by
  cases o with
  | none => rfl
  | some c => exact plain_enc c
theorem inS_lst (d : Dt) (ds : List Dt) : gInS d (.lst ds) = (if (flatD d && ds.all flatD) = true then some (inF d ds) else if (d.plain && Dt.plains ds && decide (min (PyData.depthAll (Dt.pys ds)) d.py.depth ≤ 180)) = true then some ((Dt.pys ds).any fun z => PyData.eqv z d.py) else none).map .bl := rfl
/-- None in sides -/
theorem none_in1 (o : Option Cl) : gInS .non (.lst [encO o]) = some (.bl o.isNone) := by
  cases o with
  | none => rfl
  | some f =>
    have h1 : (flatD .non && [enc f].all flatD) = false := by simp [flat_enc]
    have h2 : (Dt.non.plain && Dt.plains [enc f] && decide (min (PyData.depthAll (Dt.pys [enc f])) Dt.non.py.depth ≤ 180)) = true := by
      have : min (PyData.depthAll (Dt.pys [enc f])) Dt.non.py.depth ≤ 180 := Nat.le_trans (Nat.min_le_right _ _) (by decide)
      simp [Dt.plains, plain_enc, this]
      rfl
    show gInS .non (.lst [enc f]) = _
    rw [inS_lst, h1, if_neg Bool.false_ne_true, if_pos h2]
    simp [Dt.pys, eqv_enc]
theorem none_in2 (o p : Option Cl) : gInS .non (.lst [encO o, encO p]) = some (.bl (o.isNone || p.isNone)) := by
  cases o with
  | none =>
    cases p with
    | none => rfl
    | some f =>
      have h1 : (flatD .non && [Dt.non, enc f].all flatD) = false := by simp [flat_enc]
      have h2 : (Dt.non.plain && Dt.plains [Dt.non, enc f] && decide (min (PyData.depthAll (Dt.pys [Dt.non, enc f])) Dt.non.py.depth ≤ 180)) = true := by
        have : min (PyData.depthAll (Dt.pys [Dt.non, enc f])) Dt.non.py.depth ≤ 180 := Nat.le_trans (Nat.min_le_right _ _) (by decide)
        simp [Dt.plains, plain_enc, this]
        rfl
      show gInS .non (.lst [.non, enc f]) = _
      rw [inS_lst, h1, if_neg Bool.false_ne_true, if_pos h2]
      rfl
  | some e =>
    have h1 : (flatD .non && [enc e, encO p].all flatD) = false := by simp [flat_enc]
    have h2 : (Dt.non.plain && Dt.plains [enc e, encO p] && decide (min (PyData.depthAll (Dt.pys [enc e, encO p])) Dt.non.py.depth ≤ 180)) = true := by
      have : min (PyData.depthAll (Dt.pys [enc e, encO p])) Dt.non.py.depth ≤ 180 := Nat.le_trans (Nat.min_le_right _ _) (by decide)
      simp [Dt.plains, plain_enc, plain_encO, this]
      rfl
    show gInS .non (.lst [enc e, encO p]) = _
    rw [inS_lst, h1, if_neg Bool.false_ne_true, if_pos h2]
    cases p with
    | none => simp [Dt.pys, eqv_enc, encO]; rfl
    | some f => simp [Dt.pys, eqv_enc, encO]
/-- found if .. nodes < lim .. -/
def lfG (lim : Int) : Sm Dt := (vIf (tAnd' (tB (vOp gIsNot (vName 4) (vC .non))) (tB (vOp gLt (vCall 1 (f__law_nodes 450) (aCons (vName 4) (aNil))) (vC (.int lim))))) (vName 4) (vC .non))
theorem isNon_enc (c : Cl) : isNon (enc c) = false := by cases c <;> rfl
theorem lfG_some (lim : Int) (g : Cl) (hg : dp g ≤ 450) (a b c d e f : Sl) (s : Sv) : lfG lim [a, b, c, d, .val (enc g), e, f] s = .ok (if (nodes g : Int) < lim then enc g else .non) s := by
  have h := law_nodes_eq 450 g s hg
  have h2 : gIsNot (enc g) .non = some (.bl true) := by cases g <;> rfl
  unfold lfG
  simp only [vIf, tAnd', DD.tB, vOp, vName, List.getElem?_cons_succ, List.getElem?_cons_zero, Rs.bind_ok, vC, h2, ofO_some, dB, if_true, vCall, aCons, aNil, List.length_singleton, h, gLt, gCmpI]
  by_cases hh : (nodes g : Int) < lim
  · simp [hh]
  · simp [hh]
theorem lfG_none (lim : Int) (a b c d e f : Sl) (s : Sv) : lfG lim [a, b, c, d, .val .non, e, f] s = .ok .non s := by
  unfold lfG
  simp
theorem lfG_eq (o : Option Cl) (ho : ∀ g, o = some g → dp g ≤ 450) (a b c d e f : Sl) (s : Sv) : lfG 1101 [a, b, c, d, .val (encO o), e, f] s = .ok (encO (o.bind cut)) s := by
  cases o with
  | none => exact lfG_none _ _ _ _ _ _ _ s
  | some g =>
    refine (lfG_some 1101 g (ho g rfl) _ _ _ _ _ _ s).trans ?_
    show _ = Rs.ok (encO (cut g)) s
    unfold cut
    by_cases h : nodes g ≤ 1100
    · rw [if_pos h, if_pos (by omega)]
      rfl
    · rw [if_neg h, if_neg (by omega)]
      rfl
/-! ### the law's copies -/
def lfB : Ss := (sSeq (sSet 4 (vIf (tB (vOp gIsNot (vName 4) (vC .non))) (vCall 3 f__law_both (aCons (vName 4) (aCons (vOp gIx (vName 2) (vC (.int 0))) (aCons (vName 1) (aNil))))) (vC .non))) (sSet 4 (lfG 1101)))
theorem lfB_eq (so : Bool) (f : Cl) (o : Option Cl) (ho : ∀ g, o = some g → dp (fboth so g f) ≤ 450) (a d e g : Sl) (s : Sv) : lfB [a, .val (.bl so), .val (.lst [enc f]), d, .val (encO o), e, g] s = .nx [a, .val (.bl so), .val (.lst [enc f]), d, .val (encO (o.bind fun g => cut (fboth so g f))), e, g] s := by
  have e1 : (sSet 4 (vIf (tB (vOp gIsNot (vName 4) (vC .non))) (vCall 3 f__law_both (aCons (vName 4) (aCons (vOp gIx (vName 2) (vC (.int 0))) (aCons (vName 1) (aNil))))) (vC .non))) [a, .val (.bl so), .val (.lst [enc f]), d, .val (encO o), e, g] s = .nx [a, .val (.bl so), .val (.lst [enc f]), d, .val (encO (o.map fun g => fboth so g f)), e, g] s := by
    cases o with
    | none => rfl
    | some h =>
      have h2 : gIsNot (enc h) .non = some (.bl true) := by cases h <;> rfl
      have h3 : gIx (.lst [enc f]) (.int 0) = some (enc f) := rfl
      simp only [sSet, vIf, DD.tB, vOp, vName, List.getElem?_cons_succ, List.getElem?_cons_zero, Rs.bind_ok, vC, encO, h2, ofO_some, dB, if_true, vCall, aCons, aNil, h3, law_both_eq, Option.map_some]
      rfl
  have e2 := lfG_eq (o.map fun g => fboth so g f) (fun g' hg => by
    obtain ⟨h, hh, rfl⟩ := Option.map_eq_some_iff.mp hg
    exact ho h hh) a (.val (.bl so)) (.val (.lst [enc f])) d e g s
  unfold lfB
  rw [seq_nx e1]
  simp only [sSet, e2, Rs.st_ok]
  cases o <;> rfl
def chn (so : Bool) (f : Cl) : Nat → Option Cl
  | 0 => some f
  | n + 1 => (chn so f n).bind fun g => cut (fboth so g f)
theorem chn_eq (so : Bool) (f : Cl) (hf : nodes f ≤ 1100) : ∀ n, chn so f n = cut (chain so f n)
  | 0 => by unfold chn cut chain; rw [if_pos hf]
  | n + 1 => by
    unfold chn
    rw [chn_eq so f hf n]
    have h := nodes_fboth so (chain so f n) f
    by_cases hh : nodes (chain so f n) ≤ 1100
    · unfold cut
      rw [if_pos hh]
      rfl
    · have h2 : ¬ nodes (chain so f (n + 1)) ≤ 1100 := by
        show ¬ nodes (fboth so (chain so f n) f) ≤ 1100
        omega
      unfold cut
      rw [if_neg hh, if_neg h2]
      rfl
theorem chn_is (so : Bool) (f : Cl) (hf : nodes f ≤ 1100) (n : Nat) (g : Cl) (h : chn so f n = some g) : g = chain so f n := by
  rw [chn_eq so f hf n] at h
  exact (cut_is h).symm
theorem lf_loop (so : Bool) (f : Cl) (hf : nodes f ≤ 1100) (a d g : Sl) : ∀ (ds : List Dt) (m : Nat) (e : Sl) (s : Sv), dp f + 3 * (m + ds.length) ≤ 440 →
    ∃ e', loopS (tgName 5) lfB ds [a, .val (.bl so), .val (.lst [enc f]), d, .val (encO (chn so f m)), e, g] s = .nx [a, .val (.bl so), .val (.lst [enc f]), d, .val (encO (chn so f (m + ds.length))), e', g] s
  | [], m, e, s, _ => ⟨e, rfl⟩
  | x :: ds, m, e, s, h => by
    rw [List.length_cons] at h
    have hb := lfB_eq so f (chn so f m) (fun g hg => by
      have z := chn_is so f hf m g hg
      subst z
      have h1 := dp_chain so f (m + 1)
      show dp (chain so f (m + 1)) ≤ 450
      omega) a d (.val x) g s
    obtain ⟨e', h2⟩ := lf_loop so f hf a d g ds (m + 1) (.val x) s (by omega)
    refine ⟨e', ?_⟩
    rw [loopS]
    simp only [tgName, List.set_cons_succ, List.set_cons_zero, hb]
    rw [show m + (x :: ds).length = m + 1 + ds.length by simp; omega]
    exact h2
theorem cut_cut (o : Option Cl) : (o.bind cut).bind cut = o.bind cut := by
  cases o with
  | none => rfl
  | some c =>
    show (cut c).bind cut = cut c
    cases h : cut c with
    | none => rfl
    | some e =>
      have := cut_is h
      subst this
      exact h
end K00
set_option Elab.async false
set_option linter.all false
set_option maxRecDepth 100000
set_option maxHeartbeats 2000000
/-! P05: the plain law, part 6: the law's own form is the form. -/
namespace K00
open PySem PySem.Spec PyProof.Rows L2 DD
def lA (r : List Dt → Sv → Rs Dt) : Ss := (sSet 2 (vL (lComp [6] (iSeq (vCall 1 f__law_sides (aCons (vName 0) (aNil)))) (tgName 6) (tTrue) (vCall 2 r (aCons (vName 6) (aCons (vName 1) (aNil)))))))
def lB : Ss := (sIf (tB (vOp gInS (vC .non) (vName 2))) (sRet (vC .non)) (sNil))
def lC : Ss := (sSet 3 (vOp gIx (vName 0) (vC (.int 0))))
def lD : Ss := (sIf (tB (vOp gInS (vName 3) (vTup (aCons (vC (.str "letter")) (aCons (vC (.str "nought")) (aNil)))))) (sRet (vName 0)) (sNil))
def lE : Ss := (sIf (tOr' (tB (vOp gEq (vName 3) (vC (.str "one")))) (tAnd' (tB (vOp gEq (vName 3) (vC (.str "copies")))) (tB (vOp gEq (vOp gIx (vName 0) (vC (.int 1))) (vC (.int 0)))))) (sRet (vCall 2 f__law_not (aCons (vTup (aCons (vC (.str "nought")) (aNil))) (aCons (vName 1) (aNil))))) (sNil))
def lFa : Ss := (sSet 4 (vCall 2 f__law_not (aCons (vOp gIx (vName 2) (vC (.int 0))) (aCons (vName 1) (aNil)))))
def lFb : Ss := (sSeq (sSet 4 (vOp gIx (vName 2) (vC (.int 0)))) (sFor (iRng1 (aCons (vOp gSub (vOp gIx (vName 0) (vC (.int 1))) (vC (.int 1))) (aNil))) (tgName 5) lfB))
def lFc : Ss := (sSet 4 (vCall 4 f__law_two (aCons (vName 3) (aCons (vOp gIx (vName 2) (vC (.int 0))) (aCons (vOp gIx (vName 2) (vC (.int 1))) (aCons (vName 1) (aNil)))))))
def lF : Ss := (sIf (tB (vOp gEq (vName 3) (vC (.str "not")))) lFa (sIf (tB (vOp gEq (vName 3) (vC (.str "copies")))) lFb lFc))
theorem law_form_def (n : Nat) : f__law_form (n + 1) = callS 7 (sSeq (lA (f__law_form n)) (sSeq lB (sSeq lC (sSeq lD (sSeq lE (sSeq lF (sRet (lfG 1101)))))))) := rfl
theorem lA_eq (r : List Dt → Sv → Rs Dt) (so : Bool) (c : Cl) (g : Cl → Option Cl) (s : Sv) (h : ∀ x ∈ sides c, r [enc x, .bl so] s = .ok (encO (g x)) s) : lA r [.val (enc c), .val (.bl so), .un, .un, .un, .un, .un] s = .nx [.val (enc c), .val (.bl so), .val (.lst ((sides c).map fun x => encO (g x))), .un, .un, .un, .un] s := by
  have e := compS_en (gg := tgName 6) (b := tTrue) (f := vCall 2 r (aCons (vName 6) (aCons (vName 1) (aNil)))) (ρ := [.val (enc c), .val (.bl so), .un, .un, .un, .un, .un]) (s := s) (en := enc) (g := fun x => encO (g x)) (sides c) [] (fun x hx => ⟨_, rfl, rfl, by simpa using h x hx⟩) (few_ok (by have := sides_len c; simp; omega))
  have e2 : (lComp [6] (iSeq (vCall 1 f__law_sides (aCons (vName 0) (aNil)))) (tgName 6) (tTrue) (vCall 2 r (aCons (vName 6) (aCons (vName 1) (aNil))))) [.val (enc c), .val (.bl so), .un, .un, .un, .un, .un] s = compS (tgName 6) tTrue (vCall 2 r (aCons (vName 6) (aCons (vName 1) (aNil)))) [.val (enc c), .val (.bl so), .un, .un, .un, .un, .un] ((sides c).map enc) [] s := by
    simp [law_sides_eq]
  unfold lA
  simp only [sSet, vL, e2, e, Rs.bind_ok, List.nil_append, Rs.st_ok]
  rfl
theorem lB_eq (a b : Sl) (ds : List Dt) (t : Bool) (h : gInS .non (.lst ds) = some (.bl t)) (s : Sv) : lB [a, b, .val (.lst ds), .un, .un, .un, .un] s = if t then .ret .non s else .nx [a, b, .val (.lst ds), .un, .un, .un, .un] s := by
  unfold lB
  simp only [sIf, DD.tB, vOp, vC, vName, List.getElem?_cons_succ, List.getElem?_cons_zero, Rs.bind_ok, h, ofO_some, dB, Rs.st_ok]
  cases t <;> rfl
abbrev lR : Ss := sSeq lC (sSeq lD (sSeq lE (sSeq lF (sRet (lfG 1101)))))
theorem lR_lt (so : Bool) (x : Lt) (fs : Dt) (s : Sv) : lR [.val (enc (.lt x)), .val (.bl so), .val fs, .un, .un, .un, .un] s = .ret (enc (.lt x)) s := rfl
theorem lR_nou (so : Bool) (fs : Dt) (s : Sv) : lR [.val (enc .nou), .val (.bl so), .val fs, .un, .un, .un, .un] s = .ret (enc .nou) s := rfl
theorem lR_one (so : Bool) (fs : Dt) (s : Sv) : lR [.val (enc .one), .val (.bl so), .val fs, .un, .un, .un, .un] s = .ret (enc (fnot so .nou)) s := by cases so <;> rfl
theorem lR_no (so : Bool) (c f : Cl) (hf : dp (fnot so f) ≤ 450) (s : Sv) : lR [.val (enc (.no c)), .val (.bl so), .val (.lst [enc f]), .un, .un, .un, .un] s = .ret (encO (cut (fnot so f))) s := by
  have e1 : lC [.val (enc (.no c)), .val (.bl so), .val (.lst [enc f]), .un, .un, .un, .un] s = .nx [.val (enc (.no c)), .val (.bl so), .val (.lst [enc f]), .val (.str "not"), .un, .un, .un] s := rfl
  have e2 : lD [.val (enc (.no c)), .val (.bl so), .val (.lst [enc f]), .val (.str "not"), .un, .un, .un] s = .nx [.val (enc (.no c)), .val (.bl so), .val (.lst [enc f]), .val (.str "not"), .un, .un, .un] s := rfl
  have e3 : lE [.val (enc (.no c)), .val (.bl so), .val (.lst [enc f]), .val (.str "not"), .un, .un, .un] s = .nx [.val (enc (.no c)), .val (.bl so), .val (.lst [enc f]), .val (.str "not"), .un, .un, .un] s := rfl
  have e4 : lF [.val (enc (.no c)), .val (.bl so), .val (.lst [enc f]), .val (.str "not"), .un, .un, .un] s = .nx [.val (enc (.no c)), .val (.bl so), .val (.lst [enc f]), .val (.str "not"), .val (encO (some (fnot so f))), .un, .un] s := by cases so <;> rfl
  have e5 := lfG_eq (some (fnot so f)) (fun g hg => by cases hg; exact hf) (.val (enc (.no c))) (.val (.bl so)) (.val (.lst [enc f])) (.val (.str "not")) .un .un s
  refine (seq_nx e1).trans ((seq_nx e2).trans ((seq_nx e3).trans ((seq_nx e4).trans ?_)))
  simp only [sRet, e5, Rs.st_ok]
  rfl
theorem lR_two (so : Bool) (w : Wd) (a b f g : Cl) (hf : dp (ftwo so w f g) ≤ 450) (s : Sv) : lR [.val (enc (.two w a b)), .val (.bl so), .val (.lst [enc f, enc g]), .un, .un, .un, .un] s = .ret (encO (cut (ftwo so w f g))) s := by
  have e1 : lC [.val (enc (.two w a b)), .val (.bl so), .val (.lst [enc f, enc g]), .un, .un, .un, .un] s = .nx [.val (enc (.two w a b)), .val (.bl so), .val (.lst [enc f, enc g]), .val (.str w.s), .un, .un, .un] s := rfl
  have e2 : lD [.val (enc (.two w a b)), .val (.bl so), .val (.lst [enc f, enc g]), .val (.str w.s), .un, .un, .un] s = .nx [.val (enc (.two w a b)), .val (.bl so), .val (.lst [enc f, enc g]), .val (.str w.s), .un, .un, .un] s := by cases w <;> rfl
  have e3 : lE [.val (enc (.two w a b)), .val (.bl so), .val (.lst [enc f, enc g]), .val (.str w.s), .un, .un, .un] s = .nx [.val (enc (.two w a b)), .val (.bl so), .val (.lst [enc f, enc g]), .val (.str w.s), .un, .un, .un] s := by cases w <;> rfl
  have e4 : lF [.val (enc (.two w a b)), .val (.bl so), .val (.lst [enc f, enc g]), .val (.str w.s), .un, .un, .un] s = .nx [.val (enc (.two w a b)), .val (.bl so), .val (.lst [enc f, enc g]), .val (.str w.s), .val (encO (some (ftwo so w f g))), .un, .un] s := by cases w <;> cases so <;> rfl
  have e5 := lfG_eq (some (ftwo so w f g)) (fun z hg => by cases hg; exact hf) (.val (enc (.two w a b))) (.val (.bl so)) (.val (.lst [enc f, enc g])) (.val (.str w.s)) .un .un s
  refine (seq_nx e1).trans ((seq_nx e2).trans ((seq_nx e3).trans ((seq_nx e4).trans ?_)))
  simp only [sRet, e5, Rs.st_ok]
  rfl
theorem lR_cop0 (so : Bool) (c f : Cl) (s : Sv) : lR [.val (enc (.cop 0 c)), .val (.bl so), .val (.lst [enc f]), .un, .un, .un, .un] s = .ret (enc (fnot so .nou)) s := by cases so <;> rfl
theorem lE_cop (so : Bool) (k : Nat) (c : Cl) (fs : Dt) (h0 : ¬ k = 0) (s : Sv) : lE [.val (enc (.cop k c)), .val (.bl so), .val fs, .val (.str "copies"), .un, .un, .un] s = .nx [.val (enc (.cop k c)), .val (.bl so), .val fs, .val (.str "copies"), .un, .un, .un] s := by
  have e1 : gEq (.str "copies") (.str "one") = some (.bl false) := rfl
  have e2 : gEq (.str "copies") (.str "copies") = some (.bl true) := rfl
  have e3 : gIx (enc (.cop k c)) (.int 1) = some (.int k) := rfl
  have e4 : gEq (.int (k : Int)) (.int 0) = some (.bl false) := by simp [h0]
  unfold lE
  simp only [sIf, tOr', tAnd', DD.tB, vOp, vName, vC, List.getElem?_cons_succ, List.getElem?_cons_zero, Rs.bind_ok, e1, e2, e3, e4, ofO_some, dB, Bool.false_eq_true, if_false, if_true, Rs.st_ok, sNil]
theorem lFb_eq (so : Bool) (k : Nat) (c f : Cl) (hf : nodes f ≤ 1100) (hk : k ≤ 30) (h0 : ¬ k = 0) (hd : dp f + 3 * k ≤ 440) (s : Sv) : ∃ e', lFb [.val (enc (.cop k c)), .val (.bl so), .val (.lst [enc f]), .val (.str "copies"), .un, .un, .un] s = .nx [.val (enc (.cop k c)), .val (.bl so), .val (.lst [enc f]), .val (.str "copies"), .val (encO (chn so f (k - 1))), e', .un] s := by
  have hl : (rngs 0 ((k : Int) - 1).toNat).length = k - 1 := by simp [rngs]
  obtain ⟨e', h⟩ := lf_loop so f hf (.val (enc (.cop k c))) (.val (.str "copies")) .un (rngs 0 ((k : Int) - 1).toNat) 0 .un s (by rw [hl]; omega)
  rw [hl, Nat.zero_add] at h
  refine ⟨e', ?_⟩
  have e1 : (sSet 4 (vOp gIx (vName 2) (vC (.int 0)))) [.val (enc (.cop k c)), .val (.bl so), .val (.lst [enc f]), .val (.str "copies"), .un, .un, .un] s = .nx [.val (enc (.cop k c)), .val (.bl so), .val (.lst [enc f]), .val (.str "copies"), .val (enc f), .un, .un] s := rfl
  have e3 : gIx (enc (.cop k c)) (.int 1) = some (.int k) := rfl
  have rc : rngC ((k : Int) - 1) = true := rngC_nat (by omega) (by omega)
  unfold lFb
  rw [seq_nx e1]
  simp only [sFor, DD.iRng1, aCons, aNil, vOp, vName, vC, List.getElem?_cons_succ, List.getElem?_cons_zero, Rs.bind_ok, e3, ofO_some, DD.gSub, gInt, if_true, iRg1, rc, Rs.st_ok]
  exact h
theorem lR_cop (so : Bool) (k : Nat) (c f : Cl) (hf : nodes f ≤ 1100) (hk : k ≤ 30) (h0 : ¬ k = 0) (hd : dp f + 3 * k ≤ 440) (s : Sv) : lR [.val (enc (.cop k c)), .val (.bl so), .val (.lst [enc f]), .un, .un, .un, .un] s = .ret (encO ((stp so (.cop k c) [f]).bind cut)) s := by
  have e1 : lC [.val (enc (.cop k c)), .val (.bl so), .val (.lst [enc f]), .un, .un, .un, .un] s = .nx [.val (enc (.cop k c)), .val (.bl so), .val (.lst [enc f]), .val (.str "copies"), .un, .un, .un] s := rfl
  have e2 : lD [.val (enc (.cop k c)), .val (.bl so), .val (.lst [enc f]), .val (.str "copies"), .un, .un, .un] s = .nx [.val (enc (.cop k c)), .val (.bl so), .val (.lst [enc f]), .val (.str "copies"), .un, .un, .un] s := rfl
  have e3 := lE_cop so k c (.lst [enc f]) h0 s
  obtain ⟨e', h⟩ := lFb_eq so k c f hf hk h0 hd s
  have e4 : lF [.val (enc (.cop k c)), .val (.bl so), .val (.lst [enc f]), .val (.str "copies"), .un, .un, .un] s = lFb [.val (enc (.cop k c)), .val (.bl so), .val (.lst [enc f]), .val (.str "copies"), .un, .un, .un] s := rfl
  have e5 := lfG_eq (chn so f (k - 1)) (fun g hg => by
    have z := chn_is so f hf _ g hg
    subst z
    have := dp_chain so f (k - 1)
    omega) (.val (enc (.cop k c))) (.val (.bl so)) (.val (.lst [enc f])) (.val (.str "copies")) e' .un s
  refine (seq_nx e1).trans ((seq_nx e2).trans ((seq_nx e3).trans ((seq_nx (e4.trans h)).trans ?_)))
  have e6 : (chn so f (k - 1)).bind cut = (stp so (.cop k c) [f]).bind cut := by
    rw [chn_eq so f hf]
    have z := cut_cut (some (chain so f (k - 1)))
    have z1 : (cut (chain so f (k - 1))).bind cut = cut (chain so f (k - 1)) := z
    rw [z1]
    show _ = Option.bind (if k = 0 then some (fnot so .nou) else if k * nodes f > 1100 then none else some (chain so f (k - 1))) cut
    rw [if_neg h0]
    by_cases hm : k * nodes f > 1100
    · rw [if_pos hm]
      have h1 := (nodes_chain so f (k - 1)).1
      have h3 : k - 1 + 1 = k := by omega
      rw [h3] at h1
      unfold cut
      rw [if_neg (by omega)]
      rfl
    · rw [if_neg hm]
      rfl
  simp only [sRet, e5, Rs.st_ok, e6]
theorem cut_nou (so : Bool) : cut (fnot so .nou) = some (fnot so .nou) := by cases so <;> rfl
theorem law_form_eq (so : Bool) : ∀ (n : Nat) (c : Cl) (s : Sv), lev c < n → lev c ≤ 4 → k30 c → f__law_form n [enc c, .bl so] s = .ok (encO (form so c)) s
  | 0, c, s, h, _, _ => by omega
  | n + 1, c, s, h, hl, hk => by
    rw [law_form_def]
    refine call_ret ?_
    show sSeq (lA (f__law_form n)) (sSeq lB lR) [.val (enc c), .val (.bl so), .un, .un, .un, .un, .un] s = _
    cases c with
    | lt x =>
      rw [seq_nx (lA_eq _ so (.lt x) (form so) s (by simp [sides]))]
      refine (seq_nx ((lB_eq _ _ _ false rfl s).trans (if_neg Bool.false_ne_true))).trans ?_
      exact lR_lt so x _ s
    | nou =>
      rw [seq_nx (lA_eq _ so .nou (form so) s (by simp [sides]))]
      refine (seq_nx ((lB_eq _ _ _ false rfl s).trans (if_neg Bool.false_ne_true))).trans ?_
      exact lR_nou so _ s
    | one =>
      rw [seq_nx (lA_eq _ so .one (form so) s (by simp [sides]))]
      refine (seq_nx ((lB_eq _ _ _ false rfl s).trans (if_neg Bool.false_ne_true))).trans ?_
      rw [show form so .one = some (fnot so .nou) from cut_nou so]
      exact lR_one so _ s
    | no c =>
      have hl' : 1 + lev c < n + 1 := h
      have hl2 : 1 + lev c ≤ 4 := hl
      rw [seq_nx (lA_eq _ so (.no c) (form so) s (by
        intro x hx
        rw [List.mem_singleton.mp hx]
        exact law_form_eq so n c s (by omega) (by omega) hk))]
      rw [show form so (.no c) = (form so c).bind fun f => (stp so (.no c) [f]).bind cut from rfl]
      have hb := lB_eq (.val (enc (.no c))) (.val (.bl so)) [encO (form so c)] _ (none_in1 (form so c)) s
      show sSeq lB lR [.val (enc (.no c)), .val (.bl so), .val (.lst [encO (form so c)]), .un, .un, .un, .un] s = _
      cases hf : form so c with
      | none =>
        rw [hf] at hb
        exact seq_ret (hb.trans (if_pos rfl))
      | some f =>
        rw [hf] at hb
        refine (seq_nx (hb.trans (if_neg Bool.false_ne_true))).trans ?_
        have h1 := dp_form so c hk f hf
        have h2 := dp_fnot so f
        exact lR_no so c f (by omega) s
    | cop k c =>
      have hl' : 1 + lev c < n + 1 := h
      have hl2 : 1 + lev c ≤ 4 := hl
      have hk1 : k ≤ 30 := hk.1
      rw [seq_nx (lA_eq _ so (.cop k c) (form so) s (by
        intro x hx
        rw [List.mem_singleton.mp hx]
        exact law_form_eq so n c s (by omega) (by omega) hk.2))]
      rw [show form so (.cop k c) = (form so c).bind fun f => (stp so (.cop k c) [f]).bind cut from rfl]
      have hb := lB_eq (.val (enc (.cop k c))) (.val (.bl so)) [encO (form so c)] _ (none_in1 (form so c)) s
      show sSeq lB lR [.val (enc (.cop k c)), .val (.bl so), .val (.lst [encO (form so c)]), .un, .un, .un, .un] s = _
      cases hf : form so c with
      | none =>
        rw [hf] at hb
        exact seq_ret (hb.trans (if_pos rfl))
      | some f =>
        rw [hf] at hb
        refine (seq_nx (hb.trans (if_neg Bool.false_ne_true))).trans ?_
        have h1 := dp_form so c hk.2 f hf
        by_cases h0 : k = 0
        · subst h0
          show _ = RsS.ret (encO (cut (fnot so .nou))) s
          rw [cut_nou]
          exact lR_cop0 so c f s
        · exact lR_cop so k c f (form_le so c f hf) hk1 h0 (by omega) s
    | two w a b =>
      have hl' : 1 + max (lev a) (lev b) < n + 1 := h
      have hl2 : 1 + max (lev a) (lev b) ≤ 4 := hl
      rw [seq_nx (lA_eq _ so (.two w a b) (form so) s (by
        intro x hx
        have hx : x ∈ [a, b] := hx
        simp only [List.mem_cons, List.not_mem_nil, or_false] at hx
        rcases hx with rfl | rfl
        · exact law_form_eq so n x s (by omega) (by omega) hk.1
        · exact law_form_eq so n x s (by omega) (by omega) hk.2))]
      rw [show form so (.two w a b) = (form so a).bind fun f => (form so b).bind fun g => (stp so (.two w a b) [f, g]).bind cut from rfl]
      have hb := lB_eq (.val (enc (.two w a b))) (.val (.bl so)) [encO (form so a), encO (form so b)] _ (none_in2 (form so a) (form so b)) s
      show sSeq lB lR [.val (enc (.two w a b)), .val (.bl so), .val (.lst [encO (form so a), encO (form so b)]), .un, .un, .un, .un] s = _
      cases hf : form so a with
      | none =>
        rw [hf] at hb
        exact seq_ret (hb.trans (if_pos rfl))
      | some f =>
        rw [hf] at hb
        cases hg : form so b with
        | none =>
          rw [hg] at hb
          exact seq_ret (hb.trans (if_pos rfl))
        | some g =>
          rw [hg] at hb
          refine (seq_nx (hb.trans (if_neg Bool.false_ne_true))).trans ?_
          have h1 := dp_form so a hk.1 f hf
          have h2 := dp_form so b hk.2 g hg
          have h3 := dp_ftwo so w f g
          exact lR_two so w a b f g (by omega) s
end K00
set_option Elab.async false
set_option linter.all false
set_option maxRecDepth 100000
set_option maxHeartbeats 2000000
/-! P06: the plain law, part 7: forms of forms, words told alone, texts. -/
namespace K00
open PySem PySem.Spec PyProof.Rows L2 DD
def isF (so : Bool) : Cl → Bool
  | .lt _ => true
  | .nou => true
  | .no c => !so && isF so c
  | .two .so a b => so && isF so a && isF so b
  | .two .wth a b => !so && isF so a && isF so b
  | _ => false
theorem isF_fnot (so : Bool) (p : Cl) (h : isF so p = true) : isF so (fnot so p) = true := by cases so <;> simp [fnot, isF, h]
theorem isF_fboth (so : Bool) (p q : Cl) (h : isF so p = true) (g : isF so q = true) : isF so (fboth so p q) = true := by cases so <;> simp [fboth, fnot, isF, h, g]
theorem isF_ftwo (so : Bool) (w : Wd) (p q : Cl) (h : isF so p = true) (g : isF so q = true) : isF so (ftwo so w p q) = true := by
  cases so <;> cases w <;> simp [ftwo, for_, fless, fboth, fnot, isF, h, g]
theorem isF_chain (so : Bool) (f : Cl) (h : isF so f = true) : ∀ n, isF so (chain so f n) = true
  | 0 => h
  | n + 1 => isF_fboth so _ _ (isF_chain so f h n) h
theorem isF_form (so : Bool) : ∀ (c f : Cl), form so c = some f → isF so f = true
  | .lt x, f, h => by
    have := cut_is (show cut (.lt x) = some f from h)
    subst this; rfl
  | .nou, f, h => by
    have := cut_is (show cut .nou = some f from h)
    subst this; rfl
  | .one, f, h => by
    have := cut_is (show cut (fnot so .nou) = some f from h)
    subst this
    exact isF_fnot so _ rfl
  | .no c, f, h => by
    obtain ⟨g, hg, h⟩ := Option.bind_eq_some_iff.mp h
    have := cut_is (show cut (fnot so g) = some f from h)
    subst this
    exact isF_fnot so _ (isF_form so c g hg)
  | .cop k c, f, h => by
    obtain ⟨g, hg, h⟩ := Option.bind_eq_some_iff.mp h
    obtain ⟨e, he, h⟩ := Option.bind_eq_some_iff.mp h
    have h1 := cut_is h
    subst h1
    have he : (if k = 0 then some (fnot so .nou) else if k * nodes g > 1100 then none else some (chain so g (k - 1))) = some e := he
    by_cases h0 : k = 0
    · rw [if_pos h0] at he
      cases he
      exact isF_fnot so _ rfl
    · rw [if_neg h0] at he
      by_cases hm : k * nodes g > 1100
      · rw [if_pos hm] at he; cases he
      · rw [if_neg hm] at he
        cases he
        exact isF_chain so g (isF_form so c g hg) _
  | .two w a b, f, h => by
    obtain ⟨g, hg, h⟩ := Option.bind_eq_some_iff.mp h
    obtain ⟨g2, hg2, h⟩ := Option.bind_eq_some_iff.mp h
    have := cut_is (show cut (ftwo so w g g2) = some f from h)
    subst this
    exact isF_ftwo so w _ _ (isF_form so a g hg) (isF_form so b g2 hg2)
theorem cut_small {c : Cl} (h : nodes c ≤ 1100) : cut c = some c := by unfold cut; rw [if_pos h]
theorem form_isF (so : Bool) : ∀ (f : Cl), isF so f = true → nodes f ≤ 1100 → form so f = some f
  | .lt x, _, _ => rfl
  | .nou, _, _ => rfl
  | .one, h, _ => by cases h
  | .no c, h, hn => by
    have h' : (!so && isF so c) = true := h
    rw [Bool.and_eq_true] at h'
    have hn' : 1 + nodes c ≤ 1100 := hn
    have ih := form_isF so c h'.2 (by omega)
    show (form so c).bind _ = _
    rw [ih]
    have hs : so = false := by simpa using h'.1
    subst hs
    exact cut_small hn
  | .cop k c, h, _ => by cases h
  | .two w a b, h, hn => by
    have hn' : 1 + nodes a + nodes b ≤ 1100 := hn
    cases w with
    | so =>
      have h' : (so && isF so a && isF so b) = true := h
      rw [Bool.and_eq_true, Bool.and_eq_true] at h'
      have ia := form_isF so a h'.1.2 (by omega)
      have ib := form_isF so b h'.2 (by omega)
      show (form so a).bind (fun f => (form so b).bind _) = _
      rw [ia, ib]
      have hs : so = true := h'.1.1
      subst hs
      exact cut_small hn
    | wth =>
      have h' : (!so && isF so a && isF so b) = true := h
      rw [Bool.and_eq_true, Bool.and_eq_true] at h'
      have ia := form_isF so a h'.1.2 (by omega)
      have ib := form_isF so b h'.2 (by omega)
      show (form so a).bind (fun f => (form so b).bind _) = _
      rw [ia, ib]
      have hs : so = false := by simpa using h'.1.1
      subst hs
      exact cut_small hn
    | _ => cases h
theorem isF_small (so : Bool) : ∀ (f : Cl), isF so f = true → smallK f = true ∧ k30 f
  | .lt x, _ => ⟨rfl, trivial⟩
  | .nou, _ => ⟨rfl, trivial⟩
  | .one, h => by cases h
  | .no c, h => by
    have h' : (!so && isF so c) = true := h
    rw [Bool.and_eq_true] at h'
    exact isF_small so c h'.2
  | .cop k c, h => by cases h
  | .two w a b, h => by
    have key : isF so a = true ∧ isF so b = true := by
      cases w <;> simp [isF] at h <;> exact ⟨h.1.2, h.2⟩
    have ia := isF_small so a key.1
    have ib := isF_small so b key.2
    exact ⟨by show (smallK a && smallK b) = true; rw [ia.1, ib.1]; rfl, ia.2, ib.2⟩
theorem isF_parts (so : Bool) : ∀ (f : Cl), isF so f = true → ∀ p ∈ parts f, isF so p = true
  | .lt x, h, p, hp => by rw [List.mem_singleton.mp hp]; exact h
  | .nou, h, p, hp => by rw [List.mem_singleton.mp hp]; exact h
  | .one, h, p, hp => by cases h
  | .no c, h, p, hp => by
    have h' : (!so && isF so c) = true := h
    rw [Bool.and_eq_true] at h'
    rcases List.mem_append.mp hp with hp | hp
    · exact isF_parts so c h'.2 p hp
    · rw [List.mem_singleton.mp hp]; exact h
  | .cop k c, h, p, hp => by cases h
  | .two w a b, h, p, hp => by
    have key : isF so a = true ∧ isF so b = true := by
      cases w <;> simp [isF] at h <;> exact ⟨h.1.2, h.2⟩
    rcases List.mem_append.mp hp with hp | hp
    · rcases List.mem_append.mp hp with hp | hp
      · exact isF_parts so a key.1 p hp
      · exact isF_parts so b key.2 p hp
    · rw [List.mem_singleton.mp hp]; exact h
theorem few_ok1 (so : Bool) (p : Cl) (h : isF so p = true) : (gIx (enc p) (.int 0)).bind (fun d => gNotInS d (if so then .tup [.str "letter", .str "nought", .str "so"] else .tup [.str "letter", .str "nought", .str "not", .str "with"])) = some (.bl false) := by
  cases p with
  | lt x => cases so <;> rfl
  | nou => cases so <;> rfl
  | one => cases h
  | no c =>
    cases so with
    | true => simp [isF] at h
    | false => rfl
  | cop k c => cases h
  | two w a b => cases w <;> cases so <;> first | rfl | (simp [isF] at h)

/-! ### texts -/
def short30 : Bool := (List.range 31).all fun k => decide ((PyData.shown (.int (k : Int))).length ≤ 8) && PyData.showable (.int (k : Int)) && decide ((PyData.int (k : Int)).weight ≤ 5)
theorem short30_ok : short30 = true := by decide +kernel
theorem short_k {k : Nat} (h : k ≤ 30) : (PyData.shown (.int (k : Int))).length ≤ 8 ∧ PyData.showable (.int (k : Int)) = true ∧ (PyData.int (k : Int)).weight ≤ 5 := by
  have z := List.all_eq_true.mp short30_ok k (List.mem_range.mpr (by omega))
  rw [Bool.and_eq_true, Bool.and_eq_true, decide_eq_true_eq, decide_eq_true_eq] at z
  exact ⟨z.1.1, z.1.2, z.2⟩
structure Fine (d : PyData) (n m : Nat) : Prop where
  ls : d.leavesShort 8 = true
  sh : d.showable = true
  hd : d.hasDict = false
  dp : d.depth ≤ n
  we : d.weight ≤ m
theorem fine_str (x : Str) (h : (PyData.str x).leavesShort 8 = true) : Fine (.str x) 0 x.cps.size := ⟨h, rfl, rfl, Nat.le_refl _, Nat.le_refl _⟩
theorem fine_t1 {a : PyData} {n m : Nat} (h : Fine a n m) : Fine (.tuple [a]) (n + 1) (m + 3) :=
  ⟨by simp [PyData.leavesShort, PyData.leavesShortAll, h.ls], by simp [PyData.showable, PyData.showableAll, h.sh], by simp [PyData.hasDict, PyData.hasDictAll, h.hd], by have := h.dp; simp [PyData.depth, PyData.depthAll]; omega, by have := h.we; simp [PyData.weight, PyData.weightAll]; omega⟩
theorem fine_t2 {a b : PyData} {n m n2 m2 : Nat} (h : Fine a n m) (g : Fine b n2 m2) : Fine (.tuple [a, b]) (max n n2 + 1) (m + m2 + 4) :=
  ⟨by simp [PyData.leavesShort, PyData.leavesShortAll, h.ls, g.ls], by simp [PyData.showable, PyData.showableAll, h.sh, g.sh], by simp [PyData.hasDict, PyData.hasDictAll, h.hd, g.hd], by have := h.dp; have := g.dp; simp [PyData.depth, PyData.depthAll]; omega, by have := h.we; have := g.we; simp [PyData.weight, PyData.weightAll]; omega⟩
theorem fine_t3 {a b c : PyData} {n m n2 m2 n3 m3 : Nat} (h : Fine a n m) (g : Fine b n2 m2) (f : Fine c n3 m3) : Fine (.tuple [a, b, c]) (max n (max n2 n3) + 1) (m + m2 + m3 + 5) :=
  ⟨by simp [PyData.leavesShort, PyData.leavesShortAll, h.ls, g.ls, f.ls], by simp [PyData.showable, PyData.showableAll, h.sh, g.sh, f.sh], by simp [PyData.hasDict, PyData.hasDictAll, h.hd, g.hd, f.hd], by have := h.dp; have := g.dp; have := f.dp; simp [PyData.depth, PyData.depthAll]; omega, by have := h.we; have := g.we; have := f.we; simp [PyData.weight, PyData.weightAll]; omega⟩
theorem Fine.up {d : PyData} {n m n2 m2 : Nat} (h : Fine d n m) (a : n ≤ n2) (b : m ≤ m2) : Fine d n2 m2 := ⟨h.ls, h.sh, h.hd, Nat.le_trans h.dp a, Nat.le_trans h.we b⟩
theorem fine_int {k : Nat} (h : k ≤ 30) : Fine (.int (k : Int)) 0 5 := by
  obtain ⟨h1, h2, h3⟩ := short_k h
  exact ⟨by simp only [PyData.leavesShort, decide_eq_true_eq]; exact h1, h2, rfl, Nat.le_refl _, h3⟩
theorem fine_enc : ∀ c : Cl, k30 c → Fine (enc c).py (dp c) (30 * nodes c)
  | .lt x, _ => (fine_t2 (fine_str "letter" (by decide +kernel)) (fine_str x.s (by cases x <;> decide +kernel))).up (by simp [dp]) (by cases x <;> decide +kernel)
  | .nou, _ => (fine_t1 (fine_str "nought" (by decide +kernel))).up (by simp [dp]) (by decide +kernel)
  | .one, _ => (fine_t1 (fine_str "one" (by decide +kernel))).up (by simp [dp]) (by decide +kernel)
  | .no c, h => (fine_t2 (fine_str "not" (by decide +kernel)) (fine_enc c h)).up (by simp [dp]; omega) (by
      have : ("not" : Str).cps.size = 3 := by decide +kernel
      simp only [nodes]; omega)
  | .cop k c, h => (fine_t3 (fine_str "copies" (by decide +kernel)) (fine_int h.1) (fine_enc c h.2)).up (by simp [dp]; omega) (by
      have : ("copies" : Str).cps.size = 6 := by decide +kernel
      simp only [nodes]; omega)
  | .two w a b, h => (fine_t3 (fine_str w.s (by cases w <;> decide +kernel)) (fine_enc a h.1) (fine_enc b h.2)).up (by simp [dp]; omega) (by
      have : w.s.cps.size ≤ 6 := by cases w <;> decide +kernel
      simp only [nodes]; omega)
theorem repr_fine {d : Dt} {n m : Nat} (hs : isSeq d = true) (hp : d.plain = true) (f : Fine d.py n m) (hn : n ≤ 1000) (hm : m ≤ 1000000) : gRepr [d] = some (.str d.py.shown) := by
  have h1 : d.py.shown.length ≤ sizeLine := PyData.shown_fits (B := 8) (by decide) (by decide) f.ls (by have := f.we; omega)
  have h2 := f.dp
  have h3 : reprC d = true := by
    unfold reprC
    rw [hs, hp, f.sh, f.hd]
    simp only [Bool.not_false, Bool.and_true, Bool.true_and, Bool.and_eq_true, decide_eq_true_eq]
    exact ⟨by omega, h1⟩
  show (if reprC d then _ else _) = _
  rw [if_pos h3]
theorem repr_enc (c : Cl) (hk : k30 c) (hd : dp c ≤ 900) (hn : nodes c ≤ 30000) : gRepr [enc c] = some (.str (enc c).py.shown) :=
  repr_fine (by cases c <;> rfl) (plain_enc c) (fine_enc c hk) (by omega) (by omega)
theorem fine_l2 {a b : PyData} {n m n2 m2 : Nat} (h : Fine a n m) (g : Fine b n2 m2) : Fine (.list [a, b]) (max n n2 + 1) (m + m2 + 4) :=
  ⟨by simp [PyData.leavesShort, PyData.leavesShortAll, h.ls, g.ls], by simp [PyData.showable, PyData.showableAll, h.sh, g.sh], by simp [PyData.hasDict, PyData.hasDictAll, h.hd, g.hd], by have := h.dp; have := g.dp; simp [PyData.depth, PyData.depthAll]; omega, by have := h.we; have := g.we; simp [PyData.weight, PyData.weightAll]; omega⟩
theorem fine_l1 {a : PyData} {n m : Nat} (h : Fine a n m) : Fine (.list [a]) (n + 1) (m + 3) :=
  ⟨by simp [PyData.leavesShort, PyData.leavesShortAll, h.ls], by simp [PyData.showable, PyData.showableAll, h.sh], by simp [PyData.hasDict, PyData.hasDictAll, h.hd], by have := h.dp; simp [PyData.depth, PyData.depthAll]; omega, by have := h.we; simp [PyData.weight, PyData.weightAll]; omega⟩
/-- what the law gets -/
def gotD : Option Cl → Dt
  | some f => .lst [.str "told", enc f]
  | none => .lst [.str "many"]
theorem repr_got (o : Option Cl) (h : ∀ f, o = some f → k30 f ∧ dp f ≤ 900 ∧ nodes f ≤ 1100) : gRepr [gotD o] = some (.str (gotD o).py.shown) := by
  cases o with
  | none => exact repr_fine (d := gotD none) rfl (by decide +kernel) (fine_l1 (fine_str "many" (by decide +kernel))) (by decide) (by decide +kernel)
  | some f =>
    obtain ⟨h1, h2, h3⟩ := h f rfl
    have hp : (Dt.str "told").plain = true := by decide +kernel
    refine repr_fine (d := gotD (some f)) rfl ?_ (fine_l2 (fine_str "told" (by decide +kernel)) (fine_enc f h1)) (by omega) ?_
    · show ((Dt.str "told").plain && ((enc f).plain && true)) = true
      rw [hp, plain_enc f]; rfl
    · have : ("told" : Str).cps.size = 4 := by decide +kernel
      omega
theorem got_eq (so : Bool) (c : Cl) (hc : smallK c = true) (hn : nodes c ≤ 800000) (s : Sv) : f__law_got [enc c, .bl so] s = .ok (gotD (form so c)) s := by
  have h := form_of_eq so c hc hn s
  have h1 : f_so_form [enc c] s = f_form_of [enc c, .bl true] s := by
    unfold f_so_form m_so_form
    simp
    cases f_form_of [enc c, .bl true] s <;> rfl
  have h2 : f_with_form [enc c] s = f_form_of [enc c, .bl false] s := by
    unfold f_with_form m_with_form
    simp
    cases f_form_of [enc c, .bl false] s <;> rfl
  unfold f__law_got m__law_got
  cases hf : form so c with
  | none =>
    rw [hf] at h
    cases so
    · simp [h2, h, gotD]
    · simp [h1, h, gotD]
  | some f =>
    rw [hf] at h
    cases so
    · simp [h2, h, gotD]
    · simp [h1, h, gotD]
end K00
set_option Elab.async false
set_option linter.all false
set_option maxRecDepth 100000
set_option maxHeartbeats 2000000
/-! P07: the plain law, part 8: worths. -/
namespace K00
open PySem PySem.Spec PyProof.Rows L2 DD
def w2 (w : Wd) (q x y : Int) : Int := match w with
  | .and => min x y
  | .or => max x y
  | .so => min q (q - x + y)
  | .wth => min q (x + y)
  | .both => max 0 (x + y - q)
  | .less => max 0 (x - y)
  | .same => q - max (x - y) (y - x)
def wv (q : Int) (va : Lt → Int) : Cl → Int
  | .lt x => va x
  | .nou => 0
  | .one => q
  | .no c => q - wv q va c
  | .cop k c => max 0 (q - k * (q - wv q va c))
  | .two w a b => w2 w q (wv q va a) (wv q va b)
structure Pt (q : Int) (va : Lt → Int) : Prop where
  q0 : 0 ≤ q
  va : ∀ x, 0 ≤ va x ∧ va x ≤ q
theorem w2_in (w : Wd) {q x y : Int} (hx : 0 ≤ x ∧ x ≤ q) (hy : 0 ≤ y ∧ y ≤ q) : 0 ≤ w2 w q x y ∧ w2 w q x y ≤ q := by
  cases w <;> simp only [w2] <;> omega
theorem wv_in {q : Int} {va : Lt → Int} (p : Pt q va) : ∀ c : Cl, 0 ≤ wv q va c ∧ wv q va c ≤ q
  | .lt x => p.va x
  | .nou => ⟨Int.le_refl _, p.q0⟩
  | .one => ⟨p.q0, Int.le_refl _⟩
  | .no c => by
    have h := wv_in p c
    simp only [wv]; omega
  | .cop k c => by
    have h := wv_in p c
    have h2 : 0 ≤ (k : Int) * (q - wv q va c) := Int.mul_nonneg (Int.natCast_nonneg k) (by omega)
    have := p.q0
    simp only [wv]
    omega
  | .two w a b => w2_in w (wv_in p a) (wv_in p b)
theorem wv_fnot (so : Bool) {q : Int} {va : Lt → Int} (p : Pt q va) (c : Cl) : wv q va (fnot so c) = q - wv q va c := by
  have h := wv_in p c
  cases so
  · rfl
  · simp only [fnot, if_true, wv, w2]
    omega
theorem wv_fboth (so : Bool) {q : Int} {va : Lt → Int} (p : Pt q va) (c d : Cl) : wv q va (fboth so c d) = w2 .both q (wv q va c) (wv q va d) := by
  have h := wv_in p c
  have h2 := wv_in p d
  cases so
  · simp only [fboth, Bool.false_eq_true, if_false, wv, w2]
    omega
  · simp only [fboth, if_true, wv_fnot true p, wv, w2]
    omega
theorem wv_ftwo (so : Bool) (w : Wd) {q : Int} {va : Lt → Int} (p : Pt q va) (c d : Cl) : wv q va (ftwo so w c d) = w2 w q (wv q va c) (wv q va d) := by
  have h := wv_in p c
  have h2 := wv_in p d
  have q0 := p.q0
  have less : ∀ (so : Bool) (c d : Cl), 0 ≤ wv q va c ∧ wv q va c ≤ q → 0 ≤ wv q va d ∧ wv q va d ≤ q → wv q va (fless so c d) = w2 .less q (wv q va c) (wv q va d) := by
    intro so c d h h2
    cases so
    · simp only [fless, Bool.false_eq_true, if_false, wv_fboth false p, wv, w2]
      omega
    · simp only [fless, if_true, wv_fnot true p, wv, w2]
      omega
  have orr : ∀ (so : Bool) (c d : Cl), 0 ≤ wv q va c ∧ wv q va c ≤ q → 0 ≤ wv q va d ∧ wv q va d ≤ q → wv q va (for_ so c d) = w2 .or q (wv q va c) (wv q va d) := by
    intro so c d h h2
    cases so
    · simp only [for_, Bool.false_eq_true, if_false, wv, w2, less false c d h h2]
      omega
    · simp only [for_, if_true, wv, w2]
      omega
  cases w with
  | or => exact orr so c d h h2
  | and =>
    have hc := wv_fnot so p c
    have hd := wv_fnot so p d
    simp only [ftwo, wv_fnot so p, orr so (fnot so c) (fnot so d) (by omega) (by omega), hc, hd, w2]
    omega
  | both => exact wv_fboth so p c d
  | less => exact less so c d h h2
  | so =>
    cases so
    · simp only [ftwo, Bool.false_eq_true, if_false, wv, w2]
    · simp only [ftwo, if_true, wv, w2]
  | wth =>
    cases so
    · simp only [ftwo, Bool.false_eq_true, if_false, wv, w2]
    · simp only [ftwo, if_true, wv, wv_fnot true p, w2]
      omega
  | same =>
    cases so
    · simp only [ftwo, Bool.false_eq_true, if_false, wv, less false c d h h2, less false d c h2 h, w2]
      omega
    · simp only [ftwo, if_true, wv_fboth true p, wv, w2]
      omega
theorem wv_chain (so : Bool) {q : Int} {va : Lt → Int} (p : Pt q va) (f : Cl) : ∀ n : Nat, wv q va (chain so f n) = max 0 (q - ((n + 1 : Nat) : Int) * (q - wv q va f))
  | 0 => by
    have h := wv_in p f
    have e : ((0 + 1 : Nat) : Int) * (q - wv q va f) = q - wv q va f := by simp
    rw [e]
    show wv q va f = _
    omega
  | n + 1 => by
    have h := wv_in p f
    have ih := wv_chain so p f n
    have e : ((n + 1 + 1 : Nat) : Int) * (q - wv q va f) = ((n + 1 : Nat) : Int) * (q - wv q va f) + (q - wv q va f) := by
      have : ((n + 1 + 1 : Nat) : Int) = ((n + 1 : Nat) : Int) + 1 := by omega
      rw [this, Int.add_mul, Int.one_mul]
    rw [e]
    show wv q va (fboth so (chain so f n) f) = _
    rw [wv_fboth so p, ih]
    generalize ((n + 1 : Nat) : Int) * (q - wv q va f) = t
    simp only [w2]
    omega
theorem wv_form (so : Bool) {q : Int} {va : Lt → Int} (p : Pt q va) : ∀ (c f : Cl), form so c = some f → wv q va f = wv q va c
  | .lt x, f, h => by
    have := cut_is (show cut (.lt x) = some f from h)
    subst this; rfl
  | .nou, f, h => by
    have := cut_is (show cut .nou = some f from h)
    subst this; rfl
  | .one, f, h => by
    have := cut_is (show cut (fnot so .nou) = some f from h)
    subst this
    rw [wv_fnot so p]
    simp [wv]
  | .no c, f, h => by
    obtain ⟨g, hg, h⟩ := Option.bind_eq_some_iff.mp h
    have := cut_is (show cut (fnot so g) = some f from h)
    subst this
    rw [wv_fnot so p, wv_form so p c g hg]
    rfl
  | .cop k c, f, h => by
    obtain ⟨g, hg, h⟩ := Option.bind_eq_some_iff.mp h
    obtain ⟨e, he, h⟩ := Option.bind_eq_some_iff.mp h
    have h1 := cut_is h
    subst h1
    have ih := wv_form so p c g hg
    have he : (if k = 0 then some (fnot so .nou) else if k * nodes g > 1100 then none else some (chain so g (k - 1))) = some e := he
    by_cases h0 : k = 0
    · rw [if_pos h0] at he
      cases he
      subst h0
      rw [wv_fnot so p]
      have := p.q0
      simp [wv]
      omega
    · rw [if_neg h0] at he
      by_cases hm : k * nodes g > 1100
      · rw [if_pos hm] at he; cases he
      · rw [if_neg hm] at he
        cases he
        rw [wv_chain so p, ih, show k - 1 + 1 = k by omega]
        rfl
  | .two w a b, f, h => by
    obtain ⟨g, hg, h⟩ := Option.bind_eq_some_iff.mp h
    obtain ⟨g2, hg2, h⟩ := Option.bind_eq_some_iff.mp h
    have := cut_is (show cut (ftwo so w g g2) = some f from h)
    subst this
    rw [wv_ftwo so w p, wv_form so p a g hg, wv_form so p b g2 hg2]
    rfl
/-- the loop of the greatest common divisor -/
theorem euc {tst : Sm Bool} {body : Ss} {sl : Int → Int → List Sl} {s : Sv} (hT : ∀ a b, tst (sl a b) s = .ok (decide (0 < b)) s) (hB : ∀ a b, 0 < b → body (sl a b) s = .nx (sl b (a % b)) s) : ∀ (n fuel a b : Nat), b ≤ n → n < fuel → whileS tst body fuel (sl a b) s = .nx (sl ((Nat.gcd a b : Nat) : Int) 0) s
  | n, 0, a, b, _, h => by omega
  | n, fuel + 1, a, b, hb, hf => by
    unfold whileS
    rw [hT]
    by_cases h0 : b = 0
    · subst h0
      simp
    · have hp : (0 : Int) < (b : Int) := by omega
      have e : (a : Int) % (b : Int) = ((a % b : Nat) : Int) := by simp
      have lt : a % b < b := Nat.mod_lt _ (by omega)
      have ih := euc hT hB (n - 1) fuel b (a % b) (by omega) (by omega)
      have eg : Nat.gcd b (a % b) = Nat.gcd a b := by
        rw [Nat.gcd_comm b (a % b), ← Nat.gcd_rec, Nat.gcd_comm]
      rw [eg] at ih
      simp only [hp, decide_true, Rs.st_ok, if_true, hB _ _ hp, e, ih]
end K00
set_option Elab.async false
set_option linter.all false
set_option maxRecDepth 100000
set_option maxHeartbeats 2000000
/-! P08: the plain law, part 9: the program's worths. -/
namespace K00
open PySem PySem.Spec PyProof.Rows L2 DD
theorem many_big2 {n : Nat} (h : n ≤ 1000000000000) : ∀ k, k = many → n < k := by
  intro k e
  subst e
  exact Nat.lt_of_le_of_lt h (by unfold many; decide)
theorem gmin_eq (i j : Int) : gMin [.int i, .int j] = some (.int (min i j)) := by
  show some (Dt.int (if j < i then j else i)) = _
  congr 2
  split <;> omega
theorem gmax_eq (i j : Int) : gMax [.int i, .int j] = some (.int (max i j)) := by
  show some (Dt.int (if j > i then j else i)) = _
  congr 2
  split <;> omega
theorem gabs_eq (i : Int) : gAbs [.int i] = some (.int (max i (-i))) := by
  show some (Dt.int (if i < 0 then -i else i)) = _
  congr 2
  split <;> omega
/-! ### lowest -/
def cutP (p q : Nat) : Dt := .tup [.int ((p : Int) / ((Nat.gcd p q : Nat) : Int)), .int ((q : Int) / ((Nat.gcd p q : Nat) : Int))]
theorem gt0 (b : Int) : gGt (.int b) (.int 0) = some (.bl (decide (0 < b))) := rfl
theorem divC_gcd {p q : Nat} (h0 : 0 < q) (h : q ≤ 1000000000) (a : Int) : divC a ((Nat.gcd p q : Nat) : Int) = true := by
  have h1 : 0 < Nat.gcd p q := Nat.gcd_pos_of_pos_right _ h0
  have h2 : Nat.gcd p q ≤ q := Nat.gcd_le_right _ h0
  simp only [divC, Bool.and_eq_true, decide_eq_true_eq]
  omega
theorem lowest_eq (p q : Nat) (h0 : 0 < q) (h : q ≤ 1000000000) (s : Sv) : f_lowest [.int p, .int q] s = .ok (cutP p q) s := by
  unfold f_lowest m_lowest
  refine call_ret ?_
  have e1 : (sPar 2 3 (xV (vName 0)) (xV (vName 1))) ([Dt.int (p : Int), .int q].map Sl.val ++ List.replicate (4 - [Dt.int (p : Int), .int q].length) .un) s = .nx [.val (.int p), .val (.int q), .val (.int p), .val (.int q)] s := rfl
  have e2 : ∀ k, q < k → whileS (tB (vOp gGt (vName 3) (vC (.int 0)))) (sPar 2 3 (xV (vName 3)) (xV (vOp gMod (vName 2) (vName 3)))) k [.val (.int p), .val (.int q), .val (.int p), .val (.int q)] s = .nx [.val (.int p), .val (.int q), .val (.int ((Nat.gcd p q : Nat) : Int)), .val (.int 0)] s := fun k hk =>
    euc (sl := fun a b => [.val (.int p), .val (.int q), .val (.int a), .val (.int b)]) (fun a b => by
      simp only [DD.tB, vOp, vName, vC, List.getElem?_cons_succ, List.getElem?_cons_zero, Rs.bind_ok, gt0, ofO_some, dB]) (fun a b hb => by
      simp [hb]) q k p q (Nat.le_refl _) hk
  have e3 := while_many (fun k e => e2 k (many_big2 (by omega) k e))
  rw [seq_nx e1, seq_nx e3]
  simp [divC_gcd h0 h, cutP]
theorem law_cut_eq (p q : Nat) (h0 : 0 < q) (h : q ≤ 1000000000) (s : Sv) : f__law_cut [.int p, .int q] s = .ok (cutP p q) s := by
  unfold f__law_cut m__law_cut
  refine call_ret ?_
  have e0 : gAbs [.int (p : Int)] = some (.int p) := by
    rw [gabs_eq]
    congr 2
    omega
  have e1 : (sPar 2 3 (xV (vCb gAbs (aCons (vName 0) (aNil)))) (xV (vName 1))) ([Dt.int (p : Int), .int q].map Sl.val ++ List.replicate (4 - [Dt.int (p : Int), .int q].length) .un) s = .nx [.val (.int p), .val (.int q), .val (.int p), .val (.int q)] s := by
    show (sPar 2 3 (xV (vCb gAbs (aCons (vName 0) (aNil)))) (xV (vName 1))) [.val (.int p), .val (.int q), .un, .un] s = _
    simp only [sPar, xV, vCb, aCons, aNil, vName, List.getElem?_cons_succ, List.getElem?_cons_zero, Rs.bind_ok, e0, ofO_some, Rs.st_ok, List.set_cons_succ, List.set_cons_zero]
  have e2 : ∀ k, q < k → whileS (tB (vOp gGt (vName 3) (vC (.int 0)))) (sPar 2 3 (xV (vName 3)) (xV (vOp gMod (vCb gInt1 (aCons (vName 2) (aNil))) (vName 3)))) k [.val (.int p), .val (.int q), .val (.int p), .val (.int q)] s = .nx [.val (.int p), .val (.int q), .val (.int ((Nat.gcd p q : Nat) : Int)), .val (.int 0)] s := fun k hk =>
    euc (sl := fun a b => [.val (.int p), .val (.int q), .val (.int a), .val (.int b)]) (fun a b => by
      simp only [DD.tB, vOp, vName, vC, List.getElem?_cons_succ, List.getElem?_cons_zero, Rs.bind_ok, gt0, ofO_some, dB]) (fun a b hb => by
      simp [hb]) q k p q (Nat.le_refl _) hk
  have e3 := while_many (fun k e => e2 k (many_big2 (by omega) k e))
  rw [seq_nx e1, seq_nx e3]
  simp [divC_gcd h0 h, cutP]
/-! ### two sides -/
theorem two_num_eq (w : Wd) (q x y : Int) (s : Sv) : f_two_sided_number [.str w.s, .int q, .int x, .int y] s = .ok (.int (w2 w q x y)) s := by
  unfold f_two_sided_number m_two_sided_number
  refine call_ret ?_
  show sDictUp 4 _ _ _ [.val (.str w.s), .val (.int q), .val (.int x), .val (.int y), .un] s = _
  have ab : max (x - y) (-(x - y)) = max (x - y) (y - x) := by omega
  unfold sDictUp
  simp only [dPairs, vC, vCb, aCons, aNil, vName, vOp, List.getElem?_cons_succ, List.getElem?_cons_zero, Rs.bind_ok, gmin_eq, gmax_eq, gabs_eq, gAdd, DD.gSub, gInt, if_true, ofO_some, keyD, Option.map_some, Rs.st_ok, List.set_cons_succ, List.set_cons_zero, ab]
  cases w <;> rfl

/-! ### a part's number -/
def numO (q : Int) (va : Lt → Int) : Cl → List Int → Int
  | .lt x, _ => va x
  | .nou, _ => 0
  | .one, _ => q
  | .no _, x :: _ => q - x
  | .cop k _, x :: _ => max 0 (q - k * (q - x))
  | .two w _ _, x :: y :: _ => w2 w q x y
  | _, _ => 0
/-- the letters of a claim stand in the dict of names -/
def named (kvs : List (Key × Dt)) (va : Lt → Int) : Cl → Prop
  | .lt x => lookD kvs (.inr x.s) = some (.int (va x))
  | .no c => named kvs va c
  | .cop _ c => named kvs va c
  | .two _ a b => named kvs va a ∧ named kvs va b
  | _ => True
def numsD (xs : List Int) : List Dt := xs.map .int
def onA : Ss := (sSet 4 (vOp gIx (vName 1) (vC (.int 0))))
def onB : Ss := (sIf (tB (vOp gEq (vOp gIx (vName 2) (vC (.int 0))) (vC (.str "letter")))) (sRet (vOp gIx (vName 0) (vOp gIx (vName 2) (vC (.int 1))))) (sNil))
def onC : Ss := (sIf (tB (vOp gInS (vOp gIx (vName 2) (vC (.int 0))) (vTup (aCons (vC (.str "nought")) (aCons (vC (.str "one")) (aNil)))))) (sRet (vIf (tB (vOp gEq (vOp gIx (vName 2) (vC (.int 0))) (vC (.str "nought")))) (vC (.int 0)) (vName 4))) (sNil))
def onD : Ss := (sIf (tB (vOp gEq (vOp gIx (vName 2) (vC (.int 0))) (vC (.str "not")))) (sRet (vOp gSub (vName 4) (vOp gIx (vName 3) (vC (.int 0))))) (sNil))
def onE : Ss := (sIf (tB (vOp gEq (vOp gIx (vName 2) (vC (.int 0))) (vC (.str "copies")))) (sRet (vCb gMax (aCons (vC (.int 0)) (aCons (vOp gSub (vOp gMulI (vOp gIx (vName 2) (vC (.int 1))) (vOp gIx (vName 3) (vC (.int 0)))) (vOp gMulI (vOp gSub (vOp gIx (vName 2) (vC (.int 1))) (vC (.int 1))) (vName 4))) (aNil))))) (sNil))
def onF : Ss := (sRet (vCall 4 f_two_sided_number (aCons (vOp gIx (vName 2) (vC (.int 0))) (aCons (vName 4) (aCons (vOp gIx (vName 3) (vC (.int 0))) (aCons (vOp gIx (vName 3) (vC (.int 1))) (aNil)))))))
theorem own_def : f_own_number = callS 5 (sSeq onA (sSeq onB (sSeq onC (sSeq onD (sSeq onE onF))))) := rfl
theorem mulC_nat' {k : Nat} (h : k ≤ 1000000000000) (n : Int) : mulC (k : Int) n = true := by
  simp only [mulC, Bool.or_eq_true, Bool.and_eq_true, decide_eq_true_eq]
  omega
theorem mulC_nat2 {k n : Int} (h0 : -1 ≤ k) (h : k ≤ 1000000000000) : mulC k n = true := by
  simp only [mulC, Bool.or_eq_true, Bool.and_eq_true, decide_eq_true_eq]
  omega
abbrev ro (kvs : List (Key × Dt)) (q : Int) (pr : List Dt) (c : Cl) (xs : List Int) : List Sl := [.val (.dic kvs), .val (.tup (.int q :: pr)), .val (enc c), .val (.lst (numsD xs)), .val (.int q)]
abbrev onR : Ss := sSeq onB (sSeq onC (sSeq onD (sSeq onE onF)))
theorem own_lt (q : Int) (va : Lt → Int) (pr : List Dt) (kvs : List (Key × Dt)) (x : Lt) (xs : List Int) (h1 : lookD kvs (.inr x.s) = some (.int (va x))) (s : Sv) : onR (ro kvs q pr (.lt x) xs) s = .ret (.int (va x)) s := by
  have h2 : gIx (.dic kvs) (.str x.s) = some (.int (va x)) := h1
  refine seq_ret ?_
  unfold onB
  have e : (tB (vOp gEq (vOp gIx (vName 2) (vC (.int 0))) (vC (.str "letter")))) (ro kvs q pr (.lt x) xs) s = .ok true s := rfl
  rw [sIf_ok e, if_pos rfl]
  have e3 : gIx (enc (.lt x)) (.int 1) = some (.str x.s) := rfl
  simp only [sRet, vOp, vName, vC, List.getElem?_cons_succ, List.getElem?_cons_zero, Rs.bind_ok, e3, ofO_some, h2, Rs.st_ok]
theorem own_nou (q : Int) (pr : List Dt) (kvs : List (Key × Dt)) (xs : List Int) (s : Sv) : onR (ro kvs q pr .nou xs) s = .ret (.int 0) s := rfl
theorem own_one (q : Int) (pr : List Dt) (kvs : List (Key × Dt)) (xs : List Int) (s : Sv) : onR (ro kvs q pr .one xs) s = .ret (.int q) s := rfl
theorem own_no (q : Int) (pr : List Dt) (kvs : List (Key × Dt)) (c : Cl) (x : Int) (s : Sv) : onR (ro kvs q pr (.no c) [x]) s = .ret (.int (q - x)) s := rfl
theorem own_copB (q : Int) (pr : List Dt) (kvs : List (Key × Dt)) (k : Nat) (c : Cl) (x : Int) (s : Sv) (m : Ss) (hm : m = onB ∨ m = onC ∨ m = onD) : m (ro kvs q pr (.cop k c) [x]) s = .nx (ro kvs q pr (.cop k c) [x]) s := by
  rcases hm with rfl | rfl | rfl <;> rfl
theorem gmul_eq {a b : Int} (h : mulC a b = true) : gMulI (.int a) (.int b) = some (.int (a * b)) := by
  show (if mulC a b then some (Dt.int (a * b)) else none) = _
  rw [h]
  rfl
theorem gsub_eq (a b : Int) : DD.gSub (.int a) (.int b) = some (.int (a - b)) := rfl
theorem copE_gen (ρ : List Sl) (one sd : Dt) (a x q : Int) (s : Sv) (h2 : ρ[2]? = some (.val one)) (h3 : ρ[3]? = some (.val sd)) (h4 : ρ[4]? = some (.val (.int q))) (hh : gIx one (.int 0) = some (.str "copies")) (e3 : gIx one (.int 1) = some (.int a)) (e4 : gIx sd (.int 0) = some (.int x)) (m1 : mulC a x = true) (m2 : mulC (a - 1) q = true) :
    onE ρ s = .ret (.int (max 0 (a * x - (a - 1) * q))) s := by
  have e : (tB (vOp gEq (vOp gIx (vName 2) (vC (.int 0))) (vC (.str "copies")))) ρ s = .ok true s := by
    have z : gEq (.str "copies") (.str "copies") = some (.bl true) := rfl
    simp only [DD.tB, vOp, vName, vC, h2, Rs.bind_ok, hh, ofO_some, z, dB]
  unfold onE
  rw [sIf_ok e, if_pos rfl]
  simp only [sRet, vCb, aCons, aNil, vOp, vName, vC, h2, h3, h4, Rs.bind_ok, e3, e4, ofO_some, gmul_eq m1, gsub_eq, gmul_eq m2, gmax_eq, Rs.st_ok]
theorem own_copE (q : Int) (pr : List Dt) (kvs : List (Key × Dt)) (k : Nat) (c : Cl) (x r : Int) (s : Sv) (m1 : mulC (k : Int) x = true) (m2 : mulC ((k : Int) - 1) q = true) (hr : max 0 ((k : Int) * x - ((k : Int) - 1) * q) = r) : onE (ro kvs q pr (.cop k c) [x]) s = .ret (.int r) s := by
  rw [← hr]
  exact copE_gen (ro kvs q pr (.cop k c) [x]) (enc (.cop k c)) (.lst (numsD [x])) k x q s rfl rfl rfl rfl rfl rfl m1 m2
theorem cop_ar (k x q : Int) : max 0 (k * x - (k - 1) * q) = max 0 (q - k * (q - x)) := by
  have : k * x - (k - 1) * q = q - k * (q - x) := by
    rw [Int.mul_sub, Int.sub_mul, Int.one_mul]
    omega
  rw [this]
theorem own_cop (q : Int) (pr : List Dt) (kvs : List (Key × Dt)) (k : Nat) (c : Cl) (x : Int) (hk : k ≤ 1000000000000) (s : Sv) : onR (ro kvs q pr (.cop k c) [x]) s = .ret (.int (max 0 (q - k * (q - x)))) s :=
  (seq_nx (own_copB q pr kvs k c x s _ (.inl rfl))).trans ((seq_nx (own_copB q pr kvs k c x s _ (.inr (.inl rfl)))).trans ((seq_nx (own_copB q pr kvs k c x s _ (.inr (.inr rfl)))).trans (seq_ret (own_copE q pr kvs k c x _ s (mulC_nat' hk x) (mulC_nat2 (by omega) (by omega)) (cop_ar k x q)))))
theorem own_twoB (q : Int) (pr : List Dt) (kvs : List (Key × Dt)) (w : Wd) (a b : Cl) (xs : List Int) (s : Sv) (m : Ss) (hm : m = onB ∨ m = onC ∨ m = onD ∨ m = onE) : m (ro kvs q pr (.two w a b) xs) s = .nx (ro kvs q pr (.two w a b) xs) s := by
  rcases hm with rfl | rfl | rfl | rfl <;> cases w <;> rfl
theorem own_twoF (q : Int) (pr : List Dt) (kvs : List (Key × Dt)) (w : Wd) (a b : Cl) (x y : Int) (s : Sv) : onF (ro kvs q pr (.two w a b) [x, y]) s = .ret (.int (w2 w q x y)) s := by
  have h := two_num_eq w q x y s
  have e : onF (ro kvs q pr (.two w a b) [x, y]) s = (f_two_sided_number [.str w.s, .int q, .int x, .int y] s).st (ro kvs q pr (.two w a b) [x, y]) fun d s2 => .ret d s2 := rfl
  rw [e, h]
  rfl
theorem own_two (q : Int) (pr : List Dt) (kvs : List (Key × Dt)) (w : Wd) (a b : Cl) (x y : Int) (s : Sv) : onR (ro kvs q pr (.two w a b) [x, y]) s = .ret (.int (w2 w q x y)) s :=
  (seq_nx (own_twoB q pr kvs w a b _ s _ (.inl rfl))).trans ((seq_nx (own_twoB q pr kvs w a b _ s _ (.inr (.inl rfl)))).trans ((seq_nx (own_twoB q pr kvs w a b _ s _ (.inr (.inr (.inl rfl))))).trans ((seq_nx (own_twoB q pr kvs w a b _ s _ (.inr (.inr (.inr rfl))))).trans (own_twoF q pr kvs w a b x y s))))
theorem own_start (q : Int) (pr : List Dt) (kvs : List (Key × Dt)) (c : Cl) (xs : List Int) (s : Sv) : onA [.val (.dic kvs), .val (.tup (.int q :: pr)), .val (enc c), .val (.lst (numsD xs)), .un] s = .nx (ro kvs q pr c xs) s := by
  have h0 : gIx (.tup (.int q :: pr)) (.int 0) = some (.int q) := by
    show atI (Dt.int q :: pr) 0 = _
    unfold atI ixN
    rw [if_pos (by decide), if_pos (by simp)]
    rfl
  unfold onA
  simp only [sSet, vOp, vName, vC, List.getElem?_cons_succ, List.getElem?_cons_zero, Rs.bind_ok, h0, ofO_some, Rs.st_ok, List.set_cons_succ, List.set_cons_zero]
theorem own_eq (q : Int) (va : Lt → Int) (pr : List Dt) (kvs : List (Key × Dt)) (c : Cl) (xs : List Int) (hl : xs.length = ar c) (hn : ∀ x, c = .lt x → lookD kvs (.inr x.s) = some (.int (va x))) (hk : ∀ k d, c = .cop k d → k ≤ 1000000000000) (s : Sv) :
    f_own_number [.dic kvs, .tup (.int q :: pr), enc c, .lst (numsD xs)] s = .ok (.int (numO q va c xs)) s := by
  rw [own_def]
  have e1 := own_start q pr kvs c xs s
  have key : onR (ro kvs q pr c xs) s = .ret (.int (numO q va c xs)) s := by
    cases c with
    | lt x => exact own_lt q va pr kvs x xs (hn x rfl) s
    | nou => exact own_nou q pr kvs xs s
    | one => exact own_one q pr kvs xs s
    | no c =>
      match xs, hl with
      | [x], _ => exact own_no q pr kvs c x s
    | cop k c =>
      match xs, hl with
      | [x], _ => exact own_cop q pr kvs k c x (hk k c rfl) s
    | two w a b =>
      match xs, hl with
      | [x, y], _ => exact own_two q pr kvs w a b x y s
  exact call_ret ((seq_nx e1).trans key)
end K00
set_option Elab.async false
set_option linter.all false
set_option maxRecDepth 100000
set_option maxHeartbeats 2000000
/-! P09: the plain law, part 10: the program's worths, the law's worths. -/
namespace K00
open PySem PySem.Spec PyProof.Rows L2 DD
def pnA : Ss := (sSet 7 (vGet2 (vDict [(vC (.str "letter"), vC (.int 0)), (vC (.str "nought"), vC (.int 0)), (vC (.str "one"), vC (.int 0)), (vC (.str "not"), vC (.int 1)), (vC (.str "copies"), vC (.int 1))]) (vOp gIx (vName 6) (vC (.int 0))) (vC (.int 2))))
def pnB : Ss := (sPar 8 4 (xV (vL (lSl (oName 4) (pSome (vOp gSub (vCb gLen (aCons (oName 4) (aNil))) (vName 7))) (pNone)))) (xO (lSl (oName 4) (pNone) (pSome (vOp gSub (vCb gLen (aCons (oName 4) (aNil))) (vName 7))))))
def pnC : Ss := (sAppend 4 (vCall 4 f_own_number (aCons (vName 3) (aCons (vName 2) (aCons (vName 6) (aCons (vName 8) (aNil)))))))
def pnD : Ss := (sAppend 5 (vOp gIx (oName 4) (vUn gNeg (vC (.int 1)))))
def pnbody : Ss := sSeq pnA (sSeq pnB (sSeq pnC pnD))
def pnZ : Ss := (sPar3 3 4 5 (xV (vOp gDz (vName 0) (vSl (vName 2) (pSome (vC (.int 1))) (pNone)))) (xO (lLst (aNil))) (xO (lLst (aNil))))
theorem pn_def : f_part_numbers = callS 9 (sSeq pnZ (sSeq (sFor (iSeq (vCall 1 f_parts_of (aCons (vName 1) (aNil)))) (tgName 6) pnbody) (sRetO 5))) := rfl
theorem pA (c : Cl) (a b d e f g o7 o8 : Sl) (s : Sv) : pnA [a, b, d, e, f, g, .val (enc c), o7, o8] s = .nx [a, b, d, e, f, g, .val (enc c), .val (.int (ar c)), o8] s := by
  cases c with
  | two w p q => cases w <;> rfl
  | _ => rfl
theorem pB (T S : List Dt) (a b d e g o6 o8 : Sl) (n : Nat) (hn : S.length = n) (s : Sv) : pnB [a, b, d, e, .own (T ++ S), g, o6, .val (.int n), o8] s = .nx [a, b, d, e, .own T, g, o6, .val (.int n), .val (.lst S)] s := by
  subst hn
  have h1 := cut_hi T S
  have h2 := cut_lo T S
  unfold pnB
  simp only [sPar, xV, vL, lSl, oName, List.getElem?_cons_succ, List.getElem?_cons_zero, Rs.bind_ok, pSome, vOp, vCb, aCons, aNil, gLen, ofO_some, vName, DD.gSub, gInt, if_true, dI, Option.map_some, pNone, dLst, h1, h2, Rs.st_ok, xO, List.set_cons_succ, List.set_cons_zero]
/-- the small claims: copies to a million -/
theorem turn_pn (q : Int) (va : Lt → Int) (pr : List Dt) (kvs : List (Key × Dt)) (c : Cl) (xs : List Int) (hl : xs.length = ar c) (hn : ∀ x, c = .lt x → lookD kvs (.inr x.s) = some (.int (va x))) (hk : ∀ k d, c = .cop k d → k ≤ 1000000000000) (T G : List Dt) (hT : T.length ≤ 1000000) (hG : G.length ≤ 1000000) (a b o7 o8 : Sl) (s : Sv) :
    ∃ o7' o8', pnbody [a, b, .val (.tup (.int q :: pr)), .val (.dic kvs), .own (T ++ numsD xs), .own G, .val (enc c), o7, o8] s =
      .nx [a, b, .val (.tup (.int q :: pr)), .val (.dic kvs), .own (T ++ [.int (numO q va c xs)]), .own (G ++ [.int (numO q va c xs)]), .val (enc c), o7', o8'] s := by
  have e1 := pA c a b (.val (.tup (.int q :: pr))) (.val (.dic kvs)) (.own (T ++ numsD xs)) (.own G) o7 o8 s
  have e2 := pB T (numsD xs) a b (.val (.tup (.int q :: pr))) (.val (.dic kvs)) (.own G) (.val (enc c)) o8 (ar c) (by simpa [numsD] using hl) s
  have e3 := own_eq q va pr kvs c xs hl hn hk s
  refine ⟨.val (.int (ar c)), .val (.lst (numsD xs)), ?_⟩
  unfold pnbody
  rw [seq_nx e1, seq_nx e2]
  have e4 : pnC [a, b, .val (.tup (.int q :: pr)), .val (.dic kvs), .own T, .own G, .val (enc c), .val (.int (ar c)), .val (.lst (numsD xs))] s = .nx [a, b, .val (.tup (.int q :: pr)), .val (.dic kvs), .own (T ++ [.int (numO q va c xs)]), .own G, .val (enc c), .val (.int (ar c)), .val (.lst (numsD xs))] s :=
    app_ok (i := 4) rfl (by
      show (vCall 4 f_own_number (aCons (vName 3) (aCons (vName 2) (aCons (vName 6) (aCons (vName 8) (aNil)))))) [a, b, .val (.tup (.int q :: pr)), .val (.dic kvs), .own T, .own G, .val (enc c), .val (.int (ar c)), .val (.lst (numsD xs))] s = _
      exact (show _ = f_own_number [.dic kvs, .tup (.int q :: pr), enc c, .lst (numsD xs)] s from rfl).trans e3) hT
  have hlast := atI_last T (.int (numO q va c xs))
  have e5 : pnD [a, b, .val (.tup (.int q :: pr)), .val (.dic kvs), .own (T ++ [.int (numO q va c xs)]), .own G, .val (enc c), .val (.int (ar c)), .val (.lst (numsD xs))] s = .nx [a, b, .val (.tup (.int q :: pr)), .val (.dic kvs), .own (T ++ [.int (numO q va c xs)]), .own (G ++ [.int (numO q va c xs)]), .val (enc c), .val (.int (ar c)), .val (.lst (numsD xs))] s :=
    app_ok (i := 5) (d := .int (numO q va c xs)) rfl (by
      have h : gIx (.lst (T ++ [.int (numO q va c xs)])) (.int (-1)) = some (.int (numO q va c xs)) := hlast
      simp only [vOp, oName, List.getElem?_cons_succ, List.getElem?_cons_zero, Rs.bind_ok, vUn, vC, gNeg, ofO_some, h]) hG
  exact (seq_nx e4).trans e5
def kOk : Cl → Prop
  | .no c => kOk c
  | .cop k c => k ≤ 1000000000000 ∧ kOk c
  | .two _ a b => kOk a ∧ kOk b
  | _ => True
theorem pn_all (q : Int) (va : Lt → Int) (pr : List Dt) (kvs : List (Key × Dt)) : ∀ (c : Cl), named kvs va c → kOk c → ∀ (rest T G : List Dt) (a b o6 o7 o8 : Sl) (s : Sv), T.length + nodes c ≤ 1000000 → G.length + nodes c ≤ 1000000 →
    ∃ (G' : List Dt) (o6' o7' o8' : Sl), G'.length + 1 = G.length + nodes c ∧ loopS (tgName 6) pnbody ((parts c).map enc ++ rest) [a, b, .val (.tup (.int q :: pr)), .val (.dic kvs), .own T, .own G, o6, o7, o8] s =
      loopS (tgName 6) pnbody rest [a, b, .val (.tup (.int q :: pr)), .val (.dic kvs), .own (T ++ [.int (wv q va c)]), .own (G' ++ [.int (wv q va c)]), o6', o7', o8'] s := by
  have last : ∀ (c : Cl) (xs : List Int), xs.length = ar c → (∀ x, c = .lt x → lookD kvs (.inr x.s) = some (.int (va x))) → (∀ k d, c = .cop k d → k ≤ 1000000000000) → ∀ (rest T G : List Dt) (a b o6 o7 o8 : Sl) (s : Sv), T.length ≤ 1000000 → G.length ≤ 1000000 →
      ∃ (o6' o7' o8' : Sl), loopS (tgName 6) pnbody (enc c :: rest) [a, b, .val (.tup (.int q :: pr)), .val (.dic kvs), .own (T ++ numsD xs), .own G, o6, o7, o8] s =
      loopS (tgName 6) pnbody rest [a, b, .val (.tup (.int q :: pr)), .val (.dic kvs), .own (T ++ [.int (numO q va c xs)]), .own (G ++ [.int (numO q va c xs)]), o6', o7', o8'] s := by
    intro c xs hl hn hk rest T G a b o6 o7 o8 s hT hG
    obtain ⟨p, r, h⟩ := turn_pn q va pr kvs c xs hl hn hk T G hT hG a b o7 o8 s
    refine ⟨.val (enc c), p, r, ?_⟩
    rw [loopS]
    simp only [tgName, List.set_cons_succ, List.set_cons_zero, h]
  intro c
  induction c with
  | lt x =>
    intro hn hk rest T G a b o6 o7 o8 s hT hG
    obtain ⟨p, r, t, h⟩ := last (.lt x) [] rfl (fun y e => by cases e; exact hn) (fun k d e => by cases e) rest T G a b o6 o7 o8 s (by omega) (by omega)
    refine ⟨G, p, r, t, by simp [nodes], ?_⟩
    simpa [parts, numsD, numO, wv] using h
  | nou =>
    intro hn hk rest T G a b o6 o7 o8 s hT hG
    obtain ⟨p, r, t, h⟩ := last .nou [] rfl (fun y e => by cases e) (fun k d e => by cases e) rest T G a b o6 o7 o8 s (by omega) (by omega)
    refine ⟨G, p, r, t, by simp [nodes], ?_⟩
    simpa [parts, numsD, numO, wv] using h
  | one =>
    intro hn hk rest T G a b o6 o7 o8 s hT hG
    obtain ⟨p, r, t, h⟩ := last .one [] rfl (fun y e => by cases e) (fun k d e => by cases e) rest T G a b o6 o7 o8 s (by omega) (by omega)
    refine ⟨G, p, r, t, by simp [nodes], ?_⟩
    simpa [parts, numsD, numO, wv] using h
  | no c ih =>
    intro hn hk rest T G a b o6 o7 o8 s hT hG
    have hT' : T.length + (1 + nodes c) ≤ 1000000 := hT
    have hG' : G.length + (1 + nodes c) ≤ 1000000 := hG
    obtain ⟨G1, p, r, t, z, h⟩ := ih hn hk (enc (.no c) :: rest) T G a b o6 o7 o8 s (by omega) (by omega)
    obtain ⟨p2, r2, t2, h2⟩ := last (.no c) [wv q va c] rfl (fun y e => by cases e) (fun k d e => by cases e) rest T (G1 ++ [.int (wv q va c)]) a b p r t s (by omega) (by simp; omega)
    refine ⟨G1 ++ [.int (wv q va c)], p2, r2, t2, by simp [nodes]; omega, ?_⟩
    have ep : (parts (.no c)).map enc ++ rest = (parts c).map enc ++ (enc (.no c) :: rest) := by simp [parts]
    rw [ep, h]
    exact h2
  | cop k c ih =>
    intro hn hk rest T G a b o6 o7 o8 s hT hG
    have hT' : T.length + (1 + nodes c) ≤ 1000000 := hT
    have hG' : G.length + (1 + nodes c) ≤ 1000000 := hG
    obtain ⟨G1, p, r, t, z, h⟩ := ih hn hk.2 (enc (.cop k c) :: rest) T G a b o6 o7 o8 s (by omega) (by omega)
    obtain ⟨p2, r2, t2, h2⟩ := last (.cop k c) [wv q va c] rfl (fun y e => by cases e) (fun k d e => by cases e; exact hk.1) rest T (G1 ++ [.int (wv q va c)]) a b p r t s (by omega) (by simp; omega)
    refine ⟨G1 ++ [.int (wv q va c)], p2, r2, t2, by simp [nodes]; omega, ?_⟩
    have ep : (parts (.cop k c)).map enc ++ rest = (parts c).map enc ++ (enc (.cop k c) :: rest) := by simp [parts]
    rw [ep, h]
    exact h2
  | two w x y ih1 ih2 =>
    intro hn hk rest T G a b o6 o7 o8 s hT hG
    have hT' : T.length + (1 + nodes x + nodes y) ≤ 1000000 := hT
    have hG' : G.length + (1 + nodes x + nodes y) ≤ 1000000 := hG
    have py := nodes_pos y
    have px := nodes_pos x
    obtain ⟨G1, p, r, t, z, h⟩ := ih1 hn.1 hk.1 ((parts y).map enc ++ (enc (.two w x y) :: rest)) T G a b o6 o7 o8 s (by omega) (by omega)
    obtain ⟨G2, p2, r2, t2, z2, h2⟩ := ih2 hn.2 hk.2 (enc (.two w x y) :: rest) (T ++ [.int (wv q va x)]) (G1 ++ [.int (wv q va x)]) a b p r t s (by simp; omega) (by simp; omega)
    have z2' : G2.length + 1 = G1.length + 1 + nodes y := by simpa using z2
    obtain ⟨p3, r3, t3, h3⟩ := last (.two w x y) [wv q va x, wv q va y] rfl (fun y e => by cases e) (fun k d e => by cases e) rest T (G2 ++ [.int (wv q va y)]) a b p2 r2 t2 s (by omega) (by simp; omega)
    refine ⟨G2 ++ [.int (wv q va y)], p3, r3, t3, by simp [nodes]; omega, ?_⟩
    have ep : (parts (.two w x y)).map enc ++ rest = (parts x).map enc ++ ((parts y).map enc ++ (enc (.two w x y) :: rest)) := by simp [parts]
    have e2 : T ++ [Dt.int (wv q va x)] ++ [Dt.int (wv q va y)] = T ++ numsD [wv q va x, wv q va y] := by simp [numsD]
    rw [e2] at h2
    rw [ep, h, h2]
    exact h3
end K00
set_option Elab.async false
set_option linter.all false
set_option maxRecDepth 100000
set_option maxHeartbeats 2000000
/-! P10: the plain law, part 11: worths at points. -/
namespace K00
open PySem PySem.Spec PyProof.Rows L2 DD
def lets : Nat → List Lt
  | 0 => []
  | 1 => [.x]
  | 2 => [.x, .y]
  | _ => [.x, .y, .z]
def Lt.ix : Lt → Nat
  | .x => 0 | .y => 1 | .z => 2
def vaOf (vs : List Int) : Lt → Int
  | .x => vs.getD 0 0
  | .y => vs.getD 1 0
  | .z => vs.getD 2 0
def ltD (n : Nat) : List Dt := (lets n).map fun x => .str x.s
def kvsOf (vs : List Int) : List (Key × Dt) := mergeD [] (((lets vs.length).map fun x => (Sum.inr x.s : Key)).zip (numsD vs))
theorem look_vs (vs : List Int) (hl : vs.length ≤ 3) (x : Lt) (hx : x.ix < vs.length) : lookD (kvsOf vs) (.inr x.s) = some (.int (vaOf vs x)) := by
  match vs, hl with
  | [], _ => cases hx
  | [a], _ => cases x <;> first | rfl | (simp [Lt.ix] at hx)
  | [a, b], _ => cases x <;> first | rfl | (simp [Lt.ix] at hx)
  | [a, b, c], _ => cases x <;> rfl
theorem gDz_t (vs : List Int) (hl : vs.length ≤ 3) : gDz (.tup (ltD vs.length)) (.tup (numsD vs)) = some (.dic (kvsOf vs)) := by
  match vs, hl with
  | [], _ => rfl
  | [a], _ => rfl
  | [a, b], _ => rfl
  | [a, b, c], _ => rfl
theorem gDz_l (vs : List Int) (hl : vs.length ≤ 3) : gDz (.lst (ltD vs.length)) (.tup (numsD vs)) = some (.dic (kvsOf vs)) := by
  match vs, hl with
  | [], _ => rfl
  | [a], _ => rfl
  | [a, b], _ => rfl
  | [a, b, c], _ => rfl
def within (n : Nat) : Cl → Prop
  | .lt x => x.ix < n
  | .no c => within n c
  | .cop _ c => within n c
  | .two _ a b => within n a ∧ within n b
  | _ => True
theorem named_of (vs : List Int) (hl : vs.length ≤ 3) : ∀ c, within vs.length c → named (kvsOf vs) (vaOf vs) c
  | .lt x, h => look_vs vs hl x h
  | .nou, _ => trivial
  | .one, _ => trivial
  | .no c, h => named_of vs hl c h
  | .cop _ c, h => named_of vs hl c h
  | .two _ a b, h => ⟨named_of vs hl a h.1, named_of vs hl b h.2⟩
theorem kOk_30 : ∀ c, k30 c → kOk c
  | .lt x, h => trivial
  | .nou, _ => trivial
  | .one, _ => trivial
  | .no c, h => kOk_30 c h
  | .cop k c, h => ⟨by have := h.1; omega, kOk_30 c h.2⟩
  | .two _ a b, h => ⟨kOk_30 a h.1, kOk_30 b h.2⟩
theorem within_fnot (n : Nat) (so : Bool) (p : Cl) (h : within n p) : within n (fnot so p) := by cases so <;> simp [fnot, within, h]
theorem within_fboth (n : Nat) (so : Bool) (p q : Cl) (h : within n p) (g : within n q) : within n (fboth so p q) := by cases so <;> simp [fboth, fnot, within, h, g]
theorem within_ftwo (n : Nat) (so : Bool) (w : Wd) (p q : Cl) (h : within n p) (g : within n q) : within n (ftwo so w p q) := by
  cases so <;> cases w <;> simp [ftwo, for_, fless, fboth, fnot, within, h, g]
theorem within_chain (n : Nat) (so : Bool) (f : Cl) (h : within n f) : ∀ m, within n (chain so f m)
  | 0 => h
  | m + 1 => within_fboth n so _ _ (within_chain n so f h m) h
theorem within_form (n : Nat) (so : Bool) : ∀ (c f : Cl), within n c → form so c = some f → within n f
  | .lt x, f, hw, h => by
    have := cut_is (show cut (.lt x) = some f from h)
    subst this; exact hw
  | .nou, f, hw, h => by
    have := cut_is (show cut .nou = some f from h)
    subst this; trivial
  | .one, f, hw, h => by
    have := cut_is (show cut (fnot so .nou) = some f from h)
    subst this
    exact within_fnot n so _ trivial
  | .no c, f, hw, h => by
    obtain ⟨g, hg, h⟩ := Option.bind_eq_some_iff.mp h
    have := cut_is (show cut (fnot so g) = some f from h)
    subst this
    exact within_fnot n so _ (within_form n so c g hw hg)
  | .cop k c, f, hw, h => by
    obtain ⟨g, hg, h⟩ := Option.bind_eq_some_iff.mp h
    obtain ⟨e, he, h⟩ := Option.bind_eq_some_iff.mp h
    have h1 := cut_is h
    subst h1
    have he : (if k = 0 then some (fnot so .nou) else if k * nodes g > 1100 then none else some (chain so g (k - 1))) = some e := he
    by_cases h0 : k = 0
    · rw [if_pos h0] at he
      cases he
      exact within_fnot n so _ trivial
    · rw [if_neg h0] at he
      by_cases hm : k * nodes g > 1100
      · rw [if_pos hm] at he; cases he
      · rw [if_neg hm] at he
        cases he
        exact within_chain n so g (within_form n so c g hw hg) _
  | .two w a b, f, hw, h => by
    obtain ⟨g, hg, h⟩ := Option.bind_eq_some_iff.mp h
    obtain ⟨g2, hg2, h⟩ := Option.bind_eq_some_iff.mp h
    have := cut_is (show cut (ftwo so w g g2) = some f from h)
    subst this
    exact within_ftwo n so w _ _ (within_form n so a g hw.1 hg) (within_form n so b g2 hw.2 hg2)
theorem cut_one (x : Dt) (xs : List Dt) : DD.cutD (x :: xs) (some 1) none = xs := by
  have h := HT.sIx_nat (x :: xs).length 0 1
  have e : min 1 (x :: xs).length = 1 := by simp
  rw [e] at h
  unfold DD.cutD
  have h' : HT.sIx (x :: xs).length 0 (some 1) = 1 := h
  rw [h']
  show List.take ((x :: xs).length - 1) xs = xs
  simp
theorem part_numbers_eq (q : Int) (vs : List Int) (hl : vs.length ≤ 3) (c : Cl) (hw : within vs.length c) (hk : kOk c) (hn : nodes c ≤ 800000) (s : Sv) : ∃ G, f_part_numbers [.tup (ltD vs.length), enc c, .tup (.int q :: numsD vs)] s = .ok (.lst (G ++ [.int (wv q (vaOf vs) c)])) s := by
  obtain ⟨G, o6, o7, o8, z, h⟩ := pn_all q (vaOf vs) (numsD vs) (kvsOf vs) c (named_of vs hl c hw) hk [] [] [] (.val (.tup (ltD vs.length))) (.val (enc c)) .un .un .un s (by simp; omega) (by simp; omega)
  rw [List.append_nil] at h
  refine ⟨G, ?_⟩
  rw [pn_def]
  have e1 : pnZ [.val (.tup (ltD vs.length)), .val (enc c), .val (.tup (.int q :: numsD vs)), .un, .un, .un, .un, .un, .un] s = .nx [.val (.tup (ltD vs.length)), .val (enc c), .val (.tup (.int q :: numsD vs)), .val (.dic (kvsOf vs)), .own [], .own [], .un, .un, .un] s := by
    have e : gSl (.tup (.int q :: numsD vs)) (some 1) none = some (.tup (numsD vs)) := by
      show some (Dt.tup (DD.cutD (.int q :: numsD vs) (some 1) none)) = _
      rw [cut_one]
    have g := gDz_t vs hl
    have hc : chk ([] : List Dt).length = true := chk0
    unfold pnZ
    simp only [sPar3, xV, xO, vOp, vSl, vName, List.getElem?_cons_succ, List.getElem?_cons_zero, Rs.bind_ok, pSome, vC, dI, Option.map_some, ofO_some, pNone, e, g, lLst, aNil, hc, if_true, Rs.st_ok, List.set_cons_succ, List.set_cons_zero]
  have e2 : (sFor (iSeq (vCall 1 f_parts_of (aCons (vName 1) (aNil)))) (tgName 6) pnbody) [.val (.tup (ltD vs.length)), .val (enc c), .val (.tup (.int q :: numsD vs)), .val (.dic (kvsOf vs)), .own [], .own [], .un, .un, .un] s = loopS (tgName 6) pnbody ((parts c).map enc) [.val (.tup (ltD vs.length)), .val (enc c), .val (.tup (.int q :: numsD vs)), .val (.dic (kvsOf vs)), .own [], .own [], .un, .un, .un] s := by
    simp [parts_of_eq c s hn]
  exact call_ret ((seq_nx e1).trans ((seq_nx (e2.trans h)).trans rfl))
theorem worth_at_eq (q : Nat) (h0 : 0 < q) (hq : q ≤ 1000000000) (vs : List Int) (hl : vs.length ≤ 3) (p : Pt q (vaOf vs)) (c : Cl) (hw : within vs.length c) (hk : kOk c) (hn : nodes c ≤ 800000) (s : Sv) : f_worth_at [.tup (ltD vs.length), enc c, .tup (.int q :: numsD vs)] s = .ok (cutP (wv q (vaOf vs) c).toNat q) s := by
  obtain ⟨G, h⟩ := part_numbers_eq q vs hl c hw hk hn s
  have hp := wv_in p c
  have e : wv q (vaOf vs) c = (((wv q (vaOf vs) c).toNat : Nat) : Int) := by omega
  have h2 := lowest_eq (wv q (vaOf vs) c).toNat q h0 hq s
  rw [← e] at h2
  have h3 : gIx (.lst (G ++ [.int (wv q (vaOf vs) c)])) (.int (-1)) = some (.int (wv q (vaOf vs) c)) := atI_last _ _
  have h4 : gIx (.tup (.int q :: numsD vs)) (.int 0) = some (.int q) := by
    show atI (Dt.int q :: numsD vs) 0 = _
    unfold atI ixN
    rw [if_pos (by decide), if_pos (by simp)]
    rfl
  unfold f_worth_at m_worth_at
  refine call_ret ?_
  show (sRet (vCall 2 f_lowest (aCons (vOp gIx (vCall 3 f_part_numbers (aCons (vName 0) (aCons (vName 1) (aCons (vName 2) (aNil))))) (vUn gNeg (vC (.int 1)))) (aCons (vOp gIx (vName 2) (vC (.int 0))) (aNil))))) [.val (.tup (ltD vs.length)), .val (enc c), .val (.tup (.int q :: numsD vs))] s = _
  simp only [sRet, vCall, aCons, aNil, vOp, vName, vUn, vC, gNeg, List.getElem?_cons_succ, List.getElem?_cons_zero, Rs.bind_ok, List.length_cons, List.length_nil, if_true, h, ofO_some, h3, h4, h2, Rs.st_ok]
end K00
set_option Elab.async false
set_option linter.all false
set_option maxRecDepth 100000
set_option maxHeartbeats 2000000
/-! P11: the plain law, part 12: the law's worths. -/
namespace K00
open PySem PySem.Spec PyProof.Rows L2 DD
def wA : Ss := (sSet 3 (vOp gIx (vName 0) (vC (.int 0))))
def wB : Ss := (sIf (tB (vOp gInS (vName 3) (vTup (aCons (vC (.str "letter")) (aCons (vC (.str "nought")) (aCons (vC (.str "one")) (aNil))))))) (sRet (vIf (tB (vOp gEq (vName 3) (vC (.str "letter")))) (vOp gIx (vName 1) (vOp gIx (vName 0) (vC (.int 1)))) (vIf (tB (vOp gEq (vName 3) (vC (.str "nought")))) (vC (.int 0)) (vName 2)))) (sNil))
def wC (r : List Dt → Sv → Rs Dt) : Ss := (sIf (tB (vOp gEq (vName 3) (vC (.str "copies")))) (sRet (vCb gMax (aCons (vC (.int 0)) (aCons (vOp gSub (vName 2) (vOp gMulI (vOp gIx (vName 0) (vC (.int 1))) (vOp gSub (vName 2) (vCall 3 r (aCons (vOp gIx (vName 0) (vC (.int 2))) (aCons (vName 1) (aCons (vName 2) (aNil)))))))) (aNil))))) (sNil))
def wD (r : List Dt → Sv → Rs Dt) : Ss := (sSet 4 (vCall 3 r (aCons (vOp gIx (vName 0) (vC (.int 1))) (aCons (vName 1) (aCons (vName 2) (aNil))))))
def wE : Ss := (sIf (tB (vOp gEq (vName 3) (vC (.str "not")))) (sRet (vOp gSub (vName 2) (vName 4))) (sNil))
def wF (r : List Dt → Sv → Rs Dt) : Ss := (sSet 5 (vCall 3 r (aCons (vOp gIx (vName 0) (vC (.int 2))) (aCons (vName 1) (aCons (vName 2) (aNil))))))
def wG : Ss := (sIf (tB (vOp gInS (vName 3) (vTup (aCons (vC (.str "and")) (aCons (vC (.str "or")) (aNil)))))) (sRet (vIf (tB (vOp gEq (vName 3) (vC (.str "and")))) (vCb gMin (aCons (vName 4) (aCons (vName 5) (aNil)))) (vCb gMax (aCons (vName 4) (aCons (vName 5) (aNil)))))) (sNil))
def wH : Ss := (sIf (tB (vOp gInS (vName 3) (vTup (aCons (vC (.str "so")) (aCons (vC (.str "with")) (aNil)))))) (sRet (vCb gMin (aCons (vName 2) (aCons (vIf (tB (vOp gEq (vName 3) (vC (.str "so")))) (vOp gAdd (vOp gSub (vName 2) (vName 4)) (vName 5)) (vOp gAdd (vName 4) (vName 5))) (aNil))))) (sNil))
def wI : Ss := (sIf (tB (vOp gInS (vName 3) (vTup (aCons (vC (.str "both")) (aCons (vC (.str "less")) (aNil)))))) (sRet (vCb gMax (aCons (vC (.int 0)) (aCons (vIf (tB (vOp gEq (vName 3) (vC (.str "both")))) (vOp gSub (vOp gAdd (vName 4) (vName 5)) (vName 2)) (vOp gSub (vName 4) (vName 5))) (aNil))))) (sNil))
def wJ : Ss := (sRet (vOp gSub (vName 2) (vCb gAbs (aCons (vOp gSub (vName 4) (vName 5)) (aNil)))))
abbrev wT : Ss := sSeq wG (sSeq wH (sSeq wI wJ))
theorem worth_def (n : Nat) : f__law_worth (n + 1) = callS 6 (sSeq wA (sSeq wB (sSeq (wC (f__law_worth n)) (sSeq (wD (f__law_worth n)) (sSeq wE (sSeq (wF (f__law_worth n)) wT)))))) := rfl
abbrev rw_ (c : Cl) (kvs : List (Key × Dt)) (q : Int) (x : Str) (a b : Sl) : List Sl := [.val (enc c), .val (.dic kvs), .val (.int q), .val (.str x), a, b]
theorem gadd_eq (a b : Int) : gAdd (.int a) (.int b) = some (.int (a + b)) := rfl
theorem wT_eq (w : Wd) (c d : Cl) (kvs : List (Key × Dt)) (q x y : Int) (s : Sv) : wT (rw_ (.two w c d) kvs q w.s (.val (.int x)) (.val (.int y))) s = .ret (.int (w2 w q x y)) s := by
  have ab : max (x - y) (-(x - y)) = max (x - y) (y - x) := by omega
  cases w with
  | and =>
    refine seq_ret ?_
    unfold wG
    rw [sIf_ok (x := true) rfl, if_pos rfl]
    have t : (tB (vOp gEq (vName 3) (vC (.str "and")))) (rw_ (.two .and c d) kvs q Wd.and.s (.val (.int x)) (.val (.int y))) s = .ok true s := rfl
    simp only [sRet, vIf, t, Rs.bind_ok, if_true, vCb, aCons, aNil, vName, List.getElem?_cons_succ, List.getElem?_cons_zero, gmin_eq, ofO_some, Rs.st_ok]
    rfl
  | or =>
    refine seq_ret ?_
    unfold wG
    rw [sIf_ok (x := true) rfl, if_pos rfl]
    have t : (tB (vOp gEq (vName 3) (vC (.str "and")))) (rw_ (.two .or c d) kvs q Wd.or.s (.val (.int x)) (.val (.int y))) s = .ok false s := rfl
    simp only [sRet, vIf, t, Rs.bind_ok, Bool.false_eq_true, if_false, vCb, aCons, aNil, vName, List.getElem?_cons_succ, List.getElem?_cons_zero, gmax_eq, ofO_some, Rs.st_ok]
    rfl
  | so =>
    have e : wG (rw_ (.two .so c d) kvs q Wd.so.s (.val (.int x)) (.val (.int y))) s = .nx (rw_ (.two .so c d) kvs q Wd.so.s (.val (.int x)) (.val (.int y))) s := rfl
    rw [wT, seq_nx e]
    refine seq_ret ?_
    unfold wH
    rw [sIf_ok (x := true) rfl, if_pos rfl]
    have t : (tB (vOp gEq (vName 3) (vC (.str "so")))) (rw_ (.two .so c d) kvs q Wd.so.s (.val (.int x)) (.val (.int y))) s = .ok true s := rfl
    simp only [sRet, vIf, t, Rs.bind_ok, if_true, vCb, vOp, aCons, aNil, vName, List.getElem?_cons_succ, List.getElem?_cons_zero, gsub_eq, gadd_eq, gmin_eq, ofO_some, Rs.st_ok]
    rfl
  | wth =>
    have e : wG (rw_ (.two .wth c d) kvs q Wd.wth.s (.val (.int x)) (.val (.int y))) s = .nx (rw_ (.two .wth c d) kvs q Wd.wth.s (.val (.int x)) (.val (.int y))) s := rfl
    rw [wT, seq_nx e]
    refine seq_ret ?_
    unfold wH
    rw [sIf_ok (x := true) rfl, if_pos rfl]
    have t : (tB (vOp gEq (vName 3) (vC (.str "so")))) (rw_ (.two .wth c d) kvs q Wd.wth.s (.val (.int x)) (.val (.int y))) s = .ok false s := rfl
    simp only [sRet, vIf, t, Rs.bind_ok, Bool.false_eq_true, if_false, vCb, vOp, aCons, aNil, vName, List.getElem?_cons_succ, List.getElem?_cons_zero, gsub_eq, gadd_eq, gmin_eq, ofO_some, Rs.st_ok]
    rfl
  | both =>
    have e : wG (rw_ (.two .both c d) kvs q Wd.both.s (.val (.int x)) (.val (.int y))) s = .nx (rw_ (.two .both c d) kvs q Wd.both.s (.val (.int x)) (.val (.int y))) s := rfl
    have e2 : wH (rw_ (.two .both c d) kvs q Wd.both.s (.val (.int x)) (.val (.int y))) s = .nx (rw_ (.two .both c d) kvs q Wd.both.s (.val (.int x)) (.val (.int y))) s := rfl
    rw [wT, seq_nx e, seq_nx e2]
    refine seq_ret ?_
    unfold wI
    rw [sIf_ok (x := true) rfl, if_pos rfl]
    have t : (tB (vOp gEq (vName 3) (vC (.str "both")))) (rw_ (.two .both c d) kvs q Wd.both.s (.val (.int x)) (.val (.int y))) s = .ok true s := rfl
    simp only [sRet, vIf, t, Rs.bind_ok, if_true, vCb, vOp, aCons, aNil, vC, vName, List.getElem?_cons_succ, List.getElem?_cons_zero, gsub_eq, gadd_eq, gmax_eq, ofO_some, Rs.st_ok]
    rfl
  | less =>
    have e : wG (rw_ (.two .less c d) kvs q Wd.less.s (.val (.int x)) (.val (.int y))) s = .nx (rw_ (.two .less c d) kvs q Wd.less.s (.val (.int x)) (.val (.int y))) s := rfl
    have e2 : wH (rw_ (.two .less c d) kvs q Wd.less.s (.val (.int x)) (.val (.int y))) s = .nx (rw_ (.two .less c d) kvs q Wd.less.s (.val (.int x)) (.val (.int y))) s := rfl
    rw [wT, seq_nx e, seq_nx e2]
    refine seq_ret ?_
    unfold wI
    rw [sIf_ok (x := true) rfl, if_pos rfl]
    have t : (tB (vOp gEq (vName 3) (vC (.str "both")))) (rw_ (.two .less c d) kvs q Wd.less.s (.val (.int x)) (.val (.int y))) s = .ok false s := rfl
    simp only [sRet, vIf, t, Rs.bind_ok, Bool.false_eq_true, if_false, vCb, vOp, aCons, aNil, vC, vName, List.getElem?_cons_succ, List.getElem?_cons_zero, gsub_eq, gadd_eq, gmax_eq, ofO_some, Rs.st_ok]
    rfl
  | same =>
    have e : wG (rw_ (.two .same c d) kvs q Wd.same.s (.val (.int x)) (.val (.int y))) s = .nx (rw_ (.two .same c d) kvs q Wd.same.s (.val (.int x)) (.val (.int y))) s := rfl
    have e2 : wH (rw_ (.two .same c d) kvs q Wd.same.s (.val (.int x)) (.val (.int y))) s = .nx (rw_ (.two .same c d) kvs q Wd.same.s (.val (.int x)) (.val (.int y))) s := rfl
    have e3 : wI (rw_ (.two .same c d) kvs q Wd.same.s (.val (.int x)) (.val (.int y))) s = .nx (rw_ (.two .same c d) kvs q Wd.same.s (.val (.int x)) (.val (.int y))) s := rfl
    rw [wT, seq_nx e, seq_nx e2, seq_nx e3]
    unfold wJ
    simp only [sRet, Rs.bind_ok, vCb, vOp, aCons, aNil, vC, vName, List.getElem?_cons_succ, List.getElem?_cons_zero, gsub_eq, gabs_eq, ab, ofO_some, Rs.st_ok]
    rfl
theorem wC_gen (r : List Dt → Sv → Rs Dt) (ρ : List Sl) (cl cd : Dt) (kvs : List (Key × Dt)) (k q y : Int) (s : Sv) (h0 : ρ[0]? = some (.val cl)) (h1 : ρ[1]? = some (.val (.dic kvs))) (h2 : ρ[2]? = some (.val (.int q))) (h3 : ρ[3]? = some (.val (.str "copies"))) (e1 : gIx cl (.int 1) = some (.int k)) (e2 : gIx cl (.int 2) = some cd) (hr : r [cd, .dic kvs, .int q] s = .ok (.int y) s) (m : mulC k (q - y) = true) :
    wC r ρ s = .ret (.int (max 0 (q - k * (q - y)))) s := by
  have t : (tB (vOp gEq (vName 3) (vC (.str "copies")))) ρ s = .ok true s := by
    have z : gEq (.str "copies") (.str "copies") = some (.bl true) := rfl
    simp only [DD.tB, vOp, vName, vC, h3, Rs.bind_ok, ofO_some, z, dB]
  unfold wC
  rw [sIf_ok t, if_pos rfl]
  simp only [sRet, vCb, vCall, aCons, aNil, vOp, vName, vC, h0, h1, h2, Rs.bind_ok, e1, e2, ofO_some, List.length_cons, List.length_nil, if_true, hr, gsub_eq, gmul_eq m, gmax_eq, Rs.st_ok]
theorem law_worth_eq (q : Int) (va : Lt → Int) (kvs : List (Key × Dt)) : ∀ (n : Nat) (c : Cl) (s : Sv), lev c < n → named kvs va c → kOk c → f__law_worth n [enc c, .dic kvs, .int q] s = .ok (.int (wv q va c)) s
  | 0, c, s, h, _, _ => by omega
  | n + 1, c, s, h, hn, hk => by
    rw [worth_def]
    refine call_ret ?_
    show sSeq wA (sSeq wB (sSeq (wC (f__law_worth n)) (sSeq (wD (f__law_worth n)) (sSeq wE (sSeq (wF (f__law_worth n)) wT))))) [.val (enc c), .val (.dic kvs), .val (.int q), .un, .un, .un] s = _
    cases c with
    | lt x =>
      have e1 : wA [.val (enc (.lt x)), .val (.dic kvs), .val (.int q), .un, .un, .un] s = .nx (rw_ (.lt x) kvs q "letter" .un .un) s := rfl
      rw [seq_nx e1]
      refine seq_ret ?_
      unfold wB
      rw [sIf_ok (x := true) rfl, if_pos rfl]
      have t : (tB (vOp gEq (vName 3) (vC (.str "letter")))) (rw_ (.lt x) kvs q "letter" .un .un) s = .ok true s := rfl
      have h2 : gIx (.dic kvs) (.str x.s) = some (.int (va x)) := hn
      have e3 : gIx (enc (.lt x)) (.int 1) = some (.str x.s) := rfl
      simp only [sRet, vIf, t, Rs.bind_ok, if_true, vOp, vName, vC, List.getElem?_cons_succ, List.getElem?_cons_zero, e3, h2, ofO_some, Rs.st_ok]
      rfl
    | nou => rfl
    | one => rfl
    | no c =>
      have hl : 1 + lev c < n + 1 := h
      have ih := law_worth_eq q va kvs n c s (by omega) hn hk
      have e1 : wA [.val (enc (.no c)), .val (.dic kvs), .val (.int q), .un, .un, .un] s = .nx (rw_ (.no c) kvs q "not" .un .un) s := rfl
      have e2 : wB (rw_ (.no c) kvs q "not" .un .un) s = .nx (rw_ (.no c) kvs q "not" .un .un) s := rfl
      have e3 : wC (f__law_worth n) (rw_ (.no c) kvs q "not" .un .un) s = .nx (rw_ (.no c) kvs q "not" .un .un) s := rfl
      have e4 : wD (f__law_worth n) (rw_ (.no c) kvs q "not" .un .un) s = .nx (rw_ (.no c) kvs q "not" (.val (.int (wv q va c))) .un) s := by
        have z : gIx (enc (.no c)) (.int 1) = some (enc c) := rfl
        unfold wD
        simp only [sSet, vCall, aCons, aNil, vOp, vName, vC, List.getElem?_cons_succ, List.getElem?_cons_zero, Rs.bind_ok, z, ofO_some, List.length_cons, List.length_nil, if_true, ih, Rs.st_ok, List.set_cons_succ, List.set_cons_zero]
      rw [seq_nx e1, seq_nx e2, seq_nx e3, seq_nx e4]
      exact seq_ret rfl
    | cop k c =>
      have hl : 1 + lev c < n + 1 := h
      have ih := law_worth_eq q va kvs n c s (by omega) hn hk.2
      have e1 : wA [.val (enc (.cop k c)), .val (.dic kvs), .val (.int q), .un, .un, .un] s = .nx (rw_ (.cop k c) kvs q "copies" .un .un) s := rfl
      have e2 : wB (rw_ (.cop k c) kvs q "copies" .un .un) s = .nx (rw_ (.cop k c) kvs q "copies" .un .un) s := rfl
      rw [seq_nx e1, seq_nx e2]
      exact seq_ret (wC_gen (f__law_worth n) (rw_ (.cop k c) kvs q "copies" .un .un) (enc (.cop k c)) (enc c) kvs k q (wv q va c) s rfl rfl rfl rfl rfl rfl ih (mulC_nat' hk.1 _))
    | two w a b =>
      have hl : 1 + max (lev a) (lev b) < n + 1 := h
      have ih1 := law_worth_eq q va kvs n a s (by omega) hn.1 hk.1
      have ih2 := law_worth_eq q va kvs n b s (by omega) hn.2 hk.2
      have e1 : wA [.val (enc (.two w a b)), .val (.dic kvs), .val (.int q), .un, .un, .un] s = .nx (rw_ (.two w a b) kvs q w.s .un .un) s := rfl
      have e2 : wB (rw_ (.two w a b) kvs q w.s .un .un) s = .nx (rw_ (.two w a b) kvs q w.s .un .un) s := by cases w <;> rfl
      have e3 : wC (f__law_worth n) (rw_ (.two w a b) kvs q w.s .un .un) s = .nx (rw_ (.two w a b) kvs q w.s .un .un) s := by cases w <;> rfl
      have e4 : wD (f__law_worth n) (rw_ (.two w a b) kvs q w.s .un .un) s = .nx (rw_ (.two w a b) kvs q w.s (.val (.int (wv q va a))) .un) s := by
        have z : gIx (enc (.two w a b)) (.int 1) = some (enc a) := rfl
        unfold wD
        simp only [sSet, vCall, aCons, aNil, vOp, vName, vC, List.getElem?_cons_succ, List.getElem?_cons_zero, Rs.bind_ok, z, ofO_some, List.length_cons, List.length_nil, if_true, ih1, Rs.st_ok, List.set_cons_succ, List.set_cons_zero]
      have e5 : wE (rw_ (.two w a b) kvs q w.s (.val (.int (wv q va a))) .un) s = .nx (rw_ (.two w a b) kvs q w.s (.val (.int (wv q va a))) .un) s := by cases w <;> rfl
      have e6 : wF (f__law_worth n) (rw_ (.two w a b) kvs q w.s (.val (.int (wv q va a))) .un) s = .nx (rw_ (.two w a b) kvs q w.s (.val (.int (wv q va a))) (.val (.int (wv q va b)))) s := by
        have z : gIx (enc (.two w a b)) (.int 2) = some (enc b) := rfl
        unfold wF
        simp only [sSet, vCall, aCons, aNil, vOp, vName, vC, List.getElem?_cons_succ, List.getElem?_cons_zero, Rs.bind_ok, z, ofO_some, List.length_cons, List.length_nil, if_true, ih2, Rs.st_ok, List.set_cons_succ, List.set_cons_zero]
      rw [seq_nx e1, seq_nx e2, seq_nx e3, seq_nx e4, seq_nx e5, seq_nx e6]
      exact wT_eq w a b kvs q _ _ s
end K00
set_option Elab.async false
set_option linter.all false
set_option maxRecDepth 100000
set_option maxHeartbeats 2000000
/-! P12: the plain law, part 13: what is picked. -/
namespace K00
open PySem PySem.Spec PyProof.Rows L2 DD
theorem tlt {f : Sm Dt} {ρ : List Sl} {s s2 : Sv} {a : Int} (L : Int) (h : f ρ s = .ok (.int a) s2) : tB (vOp gLt f (vC (.int L))) ρ s = .ok (decide (a < L)) s2 := by
  have e : gLt (.int a) (.int L) = some (.bl (decide (a < L))) := rfl
  simp only [DD.tB, vOp, h, vC, Rs.bind_ok, e, ofO_some, dB]
theorem tgt {f : Sm Dt} {ρ : List Sl} {s s2 : Sv} {a : Int} (L : Int) (h : f ρ s = .ok (.int a) s2) : tB (vOp gGt f (vC (.int L))) ρ s = .ok (decide (L < a)) s2 := by
  have e : gGt (.int a) (.int L) = some (.bl (decide (L < a))) := rfl
  simp only [DD.tB, vOp, h, vC, Rs.bind_ok, e, ofO_some, dB]
theorem gdiv_eq {a b : Int} (h : divC a b = true) : gDiv (.int a) (.int b) = some (.int (a / b)) := by
  show (if divC a b then some (Dt.int (a / b)) else none) = _
  rw [h]
  rfl
theorem gmod_eq {a b : Int} (h : 0 < b) : gMod (.int a) (.int b) = some (.int (a % b)) := by
  show (if decide (0 < b) then some (Dt.int (a % b)) else none) = _
  rw [decide_eq_true h]
  rfl
theorem mulC_r {a n : Int} (h1 : -(2 ^ 64) < n) (h2 : n < 2 ^ 64) : mulC a n = true := by
  simp only [mulC, Bool.or_eq_true, Bool.and_eq_true, decide_eq_true_eq]
  exact .inr ⟨h1, h2⟩
theorem sget_left (ρ : List Sl) (v : Src) (h : ρ[0]? = some (.val .src)) : vSget 0 "left" ρ (some v) = .ok (.int v.left) (some v) := by
  have e : sFld "left" v = some v.left := rfl
  simp only [vSget, srcAt, h, Option.bind_some, e, Option.map_some, ofO_some]
theorem sget_mixed (ρ : List Sl) (v : Src) (h : ρ[0]? = some (.val .src)) : vSget 0 "mixed" ρ (some v) = .ok (.int v.mixed) (some v) := by
  have e : sFld "mixed" v = some v.mixed := rfl
  simp only [vSget, srcAt, h, Option.bind_some, e, Option.map_some, ofO_some]
theorem sget_turn (ρ : List Sl) (v : Src) (h : ρ[0]? = some (.val .src)) : vSget 0 "turn" ρ (some v) = .ok (.int v.turn) (some v) := by
  have e : sFld "turn" v = some v.turn := rfl
  simp only [vSget, srcAt, h, Option.bind_some, e, Option.map_some, ofO_some]
theorem sput_left {f : Sm Dt} {ρ : List Sl} {v : Src} {i : Int} (h : ρ[0]? = some (.val .src)) (hf : f ρ (some v) = .ok (.int i) (some v)) : sSput 0 "left" f ρ (some v) = .nx ρ (some { v with left := i }) := by
  have e : sPut "left" v i = some { v with left := i } := rfl
  simp only [sSput, hf, Rs.st_ok, dI, Option.bind_some, srcAt, h, e]
theorem sput_turn {f : Sm Dt} {ρ : List Sl} {v : Src} {i : Int} (h : ρ[0]? = some (.val .src)) (hf : f ρ (some v) = .ok (.int i) (some v)) : sSput 0 "turn" f ρ (some v) = .nx ρ (some { v with turn := i }) := by
  have e : sPut "turn" v i = some { v with turn := i } := rfl
  simp only [sSput, hf, Rs.st_ok, dI, Option.bind_some, srcAt, h, e]
def kT : Sm Bool := (tAnd' (tB (vOp gLt (vSget 0 "left") (vC (.int 2)))) (tB (vOp gGt (vSlen 0) (vC (.int 0)))))
def kA : Ss := (sIf (tB (vOp gLt (vName 1) (vC (.int 2)))) (sRet (vC (.int 0))) (sNil))
def kB : Ss := (sWhile kT (sSpop 0 "left"))
def kC : Ss := (sSet 2 (vSget 0 "left"))
def kD : Ss := (sIf (tB (vOp gGt (vName 2) (vC (.int 1)))) (sSeq (sSput 0 "left" (vOp gDiv (vName 2) (vName 1))) (sRet (vOp gMod (vCb gInt1 (aCons (vName 2) (aNil))) (vName 1)))) (sNil))
def kE : Ss := (sSput 0 "turn" (vOp gAdd (vSget 0 "turn") (vC (.int 1))))
def kF (c1 c2 : Int) : Ss := (sSet 3 (vOp gMod (vCb gInt1 (aCons (vOp gAdd (vSget 0 "mixed") (vOp gMulI (vSget 0 "turn") (vC (.int c1)))) (aNil))) (vC (.int c2))))
def kG (c1 c2 : Int) : Ss := (sSet 3 (vOp gMod (vCb gInt1 (aCons (vOp gAdd (vOp gMulI (vName 3) (vName 3)) (vOp gMulI (vSget 0 "turn") (vC (.int c1)))) (aNil))) (vC (.int c2))))
def kH (c1 : Int) : Ss := (sRet (vOp gMod (vCb gInt1 (aCons (vOp gDiv (vName 3) (vC (.int c1))) (aNil))) (vName 1)))
theorem pick_def : f__law_pick = callS 4 (sSeq kA (sSeq kB (sSeq kC (sSeq kD (sSeq kE (sSeq (kF 92821 998244353) (sSeq (kG 29 2147483647) (kH 16)))))))) := rfl
theorem kT_eq (ρ : List Sl) (v : Src) (h : ρ[0]? = some (.val .src)) : kT ρ (some v) = .ok (decide (v.left < 2) && decide (0 < (v.cells.length : Int))) (some v) := by
  have e1 := tlt 2 (sget_left ρ v h)
  have e0 : vSlen 0 ρ (some v) = .ok (.int v.cells.length) (some v) := by
    simp only [vSlen, srcAt, h, Option.map_some, ofO_some]
  have e2 := tgt 0 e0
  unfold kT
  simp only [tAnd', e1, Rs.bind_ok, e2]
  by_cases hh : v.left < 2
  · simp [hh]
  · simp [hh]
theorem pk_loop (ρ : List Sl) (h : ρ[0]? = some (.val .src)) : ∀ (n fuel : Nat) (v : Src), v.cells.length ≤ n → n < fuel → ∃ v2 : Src, v2.cells.length ≤ v.cells.length ∧ whileS kT (sSpop 0 "left") fuel ρ (some v) = .nx ρ (some v2)
  | n, 0, v, _, hf => by omega
  | n, fuel + 1, v, hn, hf => by
    unfold whileS
    rw [kT_eq ρ v h]
    cases ht : (decide (v.left < 2) && decide (0 < (v.cells.length : Int))) with
    | false => exact ⟨v, Nat.le_refl _, rfl⟩
    | true =>
      rw [Bool.and_eq_true, decide_eq_true_eq, decide_eq_true_eq] at ht
      have hp : 0 < v.cells.length := by omega
      obtain ⟨l, x, hl⟩ : ∃ l x, v.cells = l ++ [x] := by
        rcases List.eq_nil_or_concat v.cells with e | ⟨l, x, e⟩
        · rw [e] at hp; cases hp
        · exact ⟨l, x, by rw [e, List.concat_eq_append]⟩
      have eb : sSpop 0 "left" ρ (some v) = .nx ρ (some { v with cells := l, left := x }) := by
        have e1 : v.cells.getLast? = some x := by rw [hl]; simp
        have e2 : v.cells.dropLast = l := by rw [hl]; simp
        have e3 : sPut "left" { v with cells := l } x = some { v with cells := l, left := x } := rfl
        simp only [sSpop, srcAt, h, Option.bind_some, e1, e2, e3]
      have hlen : v.cells.length = l.length + 1 := by rw [hl]; simp
      obtain ⟨v2, h2, h3⟩ := pk_loop ρ h (n - 1) fuel { v with cells := l, left := x } (by show l.length ≤ n - 1; omega) (by omega)
      refine ⟨v2, ?_, ?_⟩
      · have h2' : v2.cells.length ≤ l.length := h2
        omega
      · simp only [Rs.st_ok, if_true, eb, h3]
theorem kF_eq (c1 c2 : Int) (h1 : -(2 ^ 64) < c1) (h2 : c1 < 2 ^ 64) (h3 : 0 < c2) (a b c d : Sl) (v : Src) (ha : a = .val .src) : kF c1 c2 [a, b, c, d] (some v) = .nx [a, b, c, .val (.int ((v.mixed + v.turn * c1) % c2))] (some v) := by
  have e1 := sget_mixed [a, b, c, d] v (by rw [ha]; rfl)
  have e2 := sget_turn [a, b, c, d] v (by rw [ha]; rfl)
  have m : mulC v.turn c1 = true := mulC_r h1 h2
  have gi : ∀ i : Int, gInt1 [.int i] = some (.int i) := fun i => rfl
  unfold kF
  simp only [sSet, vOp, vCb, aCons, aNil, e1, e2, Rs.bind_ok, vC, gmul_eq m, gadd_eq, ofO_some, gi, gmod_eq h3, Rs.st_ok, List.set_cons_succ, List.set_cons_zero]
theorem kG_eq (c1 c2 x : Int) (h1 : -(2 ^ 64) < c1) (h2 : c1 < 2 ^ 64) (h3 : 0 < c2) (hx1 : -(2 ^ 64) < x) (hx2 : x < 2 ^ 64) (a b c : Sl) (v : Src) (ha : a = .val .src) : kG c1 c2 [a, b, c, .val (.int x)] (some v) = .nx [a, b, c, .val (.int ((x * x + v.turn * c1) % c2))] (some v) := by
  have e2 := sget_turn [a, b, c, .val (.int x)] v (by rw [ha]; rfl)
  have m : mulC v.turn c1 = true := mulC_r h1 h2
  have m2 : mulC x x = true := mulC_r hx1 hx2
  have gi : ∀ i : Int, gInt1 [.int i] = some (.int i) := fun i => rfl
  unfold kG
  simp only [sSet, vOp, vCb, aCons, aNil, vName, List.getElem?_cons_succ, List.getElem?_cons_zero, e2, Rs.bind_ok, vC, gmul_eq m, gmul_eq m2, gadd_eq, ofO_some, gi, gmod_eq h3, Rs.st_ok, List.set_cons_succ, List.set_cons_zero]
theorem kH_eq (c1 x m : Int) (h1 : 0 < c1) (h2 : c1 < 1073741824) (hm : 0 < m) (a c : Sl) (s : Sv) : kH c1 [a, .val (.int m), c, .val (.int x)] s = .ret (.int ((x / c1) % m)) s := by
  have dv : divC x c1 = true := by
    simp only [divC, Bool.and_eq_true, decide_eq_true_eq]
    exact ⟨h1, h2⟩
  have gi : ∀ i : Int, gInt1 [.int i] = some (.int i) := fun i => rfl
  unfold kH
  simp only [sRet, vOp, vCb, aCons, aNil, vName, List.getElem?_cons_succ, List.getElem?_cons_zero, Rs.bind_ok, vC, gdiv_eq dv, ofO_some, gi, gmod_eq hm, Rs.st_ok]
/-- a source that may be picked from -/
def Gs (v : Src) : Prop := v.cells.length ≤ sizeLine
theorem pick_eq (m : Int) (h2 : 2 ≤ m) (h30 : m < 1073741824) (v : Src) (hv : Gs v) : ∃ (r : Int) (v2 : Src), f__law_pick [.src, .int m] (some v) = .ok (.int r) (some v2) ∧ 0 ≤ r ∧ r < m ∧ Gs v2 := by
  have t0 : kA [.val .src, .val (.int m), .un, .un] (some v) = .nx [.val .src, .val (.int m), .un, .un] (some v) := by
    have e := tlt (f := vName 1) (ρ := [.val .src, .val (.int m), .un, .un]) (s := some v) (s2 := some v) (a := m) 2 rfl
    unfold kA
    rw [sIf_ok e, if_neg (by rw [decide_eq_true_eq]; omega)]
    rfl
  have sl : (sizeLine : Nat) = 16777216 := by decide
  have hv' : v.cells.length ≤ 16777216 := by rw [← sl]; exact hv
  obtain ⟨v1, hv1, hw⟩ : ∃ v1 : Src, v1.cells.length ≤ v.cells.length ∧ kB [.val .src, .val (.int m), .un, .un] (some v) = .nx [.val .src, .val (.int m), .un, .un] (some v1) := by
    have key : ∀ k, k = many → ∃ v1 : Src, v1.cells.length ≤ v.cells.length ∧ whileS kT (sSpop 0 "left") k [.val .src, .val (.int m), .un, .un] (some v) = .nx [.val .src, .val (.int m), .un, .un] (some v1) := fun k hk =>
      pk_loop _ rfl v.cells.length k v (Nat.le_refl _) (many_big2 (by omega) k hk)
    obtain ⟨v1, h1, h2⟩ := key many rfl
    exact ⟨v1, h1, while_many fun k e => by rw [e]; exact h2⟩
  have t1 : kC [.val .src, .val (.int m), .un, .un] (some v1) = .nx [.val .src, .val (.int m), .val (.int v1.left), .un] (some v1) := by
    have e := sget_left [.val .src, .val (.int m), .un, .un] v1 rfl
    unfold kC
    simp only [sSet, e, Rs.st_ok, List.set_cons_succ, List.set_cons_zero]
  have hm0 : 0 < m := by omega
  have gi : ∀ i : Int, gInt1 [.int i] = some (.int i) := fun i => rfl
  have tt := tgt (f := vName 2) (ρ := [.val .src, .val (.int m), .val (.int v1.left), .un]) (s := some v1) (s2 := some v1) (a := v1.left) 1 rfl
  rw [pick_def]
  by_cases hl : 1 < v1.left
  · have dv : divC v1.left m = true := by
      simp only [divC, Bool.and_eq_true, decide_eq_true_eq]
      exact ⟨hm0, h30⟩
    have t2 : kD [.val .src, .val (.int m), .val (.int v1.left), .un] (some v1) = .ret (.int (v1.left % m)) (some { v1 with left := v1.left / m }) := by
      unfold kD
      rw [sIf_ok tt, if_pos (by rw [decide_eq_true_eq]; exact hl)]
      have e1 : (vOp gDiv (vName 2) (vName 1)) [.val .src, .val (.int m), .val (.int v1.left), .un] (some v1) = .ok (.int (v1.left / m)) (some v1) := by
        simp only [vOp, vName, List.getElem?_cons_succ, List.getElem?_cons_zero, Rs.bind_ok, gdiv_eq dv, ofO_some]
      rw [seq_nx (sput_left rfl e1)]
      simp only [sRet, vOp, vCb, aCons, aNil, vName, List.getElem?_cons_succ, List.getElem?_cons_zero, Rs.bind_ok, gi, ofO_some, gmod_eq hm0, Rs.st_ok]
    refine ⟨v1.left % m, { v1 with left := v1.left / m }, call_ret ((seq_nx t0).trans ((seq_nx hw).trans ((seq_nx t1).trans (seq_ret t2)))), Int.emod_nonneg _ (by omega), Int.emod_lt_of_pos _ hm0, ?_⟩
    show v1.cells.length ≤ sizeLine
    omega
  · have t2 : kD [.val .src, .val (.int m), .val (.int v1.left), .un] (some v1) = .nx [.val .src, .val (.int m), .val (.int v1.left), .un] (some v1) := by
      unfold kD
      rw [sIf_ok tt, if_neg (by rw [decide_eq_true_eq]; exact hl)]
      rfl
    have t3 : kE [.val .src, .val (.int m), .val (.int v1.left), .un] (some v1) = .nx [.val .src, .val (.int m), .val (.int v1.left), .un] (some { v1 with turn := v1.turn + 1 }) := by
      have e := sget_turn [.val .src, .val (.int m), .val (.int v1.left), .un] v1 rfl
      refine sput_turn rfl ?_
      simp only [vOp, e, Rs.bind_ok, vC, gadd_eq, ofO_some]
    have t4 := kF_eq 92821 998244353 (by omega) (by omega) (by omega) (.val .src) (.val (.int m)) (.val (.int v1.left)) .un { v1 with turn := v1.turn + 1 } rfl
    have b1 := Int.emod_nonneg (v1.mixed + (v1.turn + 1) * 92821) (b := 998244353) (by omega)
    have b2 := Int.emod_lt_of_pos (v1.mixed + (v1.turn + 1) * 92821) (b := 998244353) (by omega)
    have t5 := kG_eq 29 2147483647 ((v1.mixed + (v1.turn + 1) * 92821) % 998244353) (by omega) (by omega) (by omega) (by omega) (by omega) (.val .src) (.val (.int m)) (.val (.int v1.left)) { v1 with turn := v1.turn + 1 } rfl
    have t6 := kH_eq 16 ((((v1.mixed + (v1.turn + 1) * 92821) % 998244353) * ((v1.mixed + (v1.turn + 1) * 92821) % 998244353) + (v1.turn + 1) * 29) % 2147483647) m (by omega) (by omega) hm0 (.val .src) (.val (.int v1.left)) (some { v1 with turn := v1.turn + 1 })
    refine ⟨_, _, call_ret ((seq_nx t0).trans ((seq_nx hw).trans ((seq_nx t1).trans ((seq_nx t2).trans ((seq_nx t3).trans ((seq_nx t4).trans ((seq_nx t5).trans t6))))))), Int.emod_nonneg _ (by omega), Int.emod_lt_of_pos _ hm0, ?_⟩
    show v1.cells.length ≤ sizeLine
    omega
theorem pick_one (m : Int) (h : m < 2) (v : Src) : f__law_pick [.src, .int m] (some v) = .ok (.int 0) (some v) := by
  rw [pick_def]
  have e := tlt (f := vName 1) (ρ := [.val .src, .val (.int m), .un, .un]) (s := some v) (s2 := some v) (a := m) 2 rfl
  refine call_ret (seq_ret ?_)
  show kA [.val .src, .val (.int m), .un, .un] (some v) = _
  unfold kA
  rw [sIf_ok e, if_pos (by rw [decide_eq_true_eq]; exact h)]
  rfl
/-- a pick from one to a milliard -/
theorem pick_any (m : Int) (h1 : 1 ≤ m) (h30 : m < 1073741824) (v : Src) (hv : Gs v) : ∃ (r : Nat) (v2 : Src), f__law_pick [.src, .int m] (some v) = .ok (.int r) (some v2) ∧ (r : Int) < m ∧ Gs v2 := by
  by_cases h : 2 ≤ m
  · obtain ⟨r, v2, a, b, c, d⟩ := pick_eq m h h30 v hv
    refine ⟨r.toNat, v2, ?_, by omega, d⟩
    rw [a]
    congr 2
    omega
  · exact ⟨0, v, pick_one m (by omega) v, by omega, hv⟩
/-- some[pick] -/
theorem of_eq (ds : List Dt) (h0 : ds ≠ []) (hl : ds.length < 1000000) (v : Src) (hv : Gs v) : ∃ (d : Dt) (v2 : Src), f__law_of [.src, .lst ds] (some v) = .ok d (some v2) ∧ d ∈ ds ∧ Gs v2 := by
  have hp : 0 < ds.length := List.length_pos_iff.mpr h0
  obtain ⟨r, v2, a, b, c⟩ := pick_any ds.length (by omega) (by omega) v hv
  have hr : r < ds.length := by omega
  have e : gIx (.lst ds) (.int r) = some ds[r] := by
    show atI ds (r : Int) = _
    unfold atI ixN
    rw [if_pos (by omega), if_pos (by omega)]
    simp
  refine ⟨ds[r], v2, ?_, List.getElem_mem hr, c⟩
  unfold f__law_of m__law_of
  refine call_ret ?_
  show (sRet (vOp gIx (vName 1) (vCall 2 f__law_pick (aCons (vName 0) (aCons (vCb gLen (aCons (vName 1) (aNil))) (aNil)))))) [.val .src, .val (.lst ds)] (some v) = _
  have gl : gLen [.lst ds] = some (.int ds.length) := rfl
  simp only [sRet, vOp, vCall, vCb, aCons, aNil, vName, List.getElem?_cons_succ, List.getElem?_cons_zero, Rs.bind_ok, gl, ofO_some, List.length_cons, List.length_nil, if_true, a, e, Rs.st_ok]
end K00
set_option Elab.async false
set_option linter.all false
set_option maxRecDepth 100000
set_option maxHeartbeats 2000000
/-! P13: the plain law, part 14: drawn claims. -/
namespace K00
open PySem PySem.Spec PyProof.Rows L2 DD
theorem teq {f : Sm Dt} {ρ : List Sl} {s s2 : Sv} {a : Int} (L : Int) (h : f ρ s = .ok (.int a) s2) : tB (vOp gEq f (vC (.int L))) ρ s = .ok (a == L) s2 := by
  have e : gEq (.int a) (.int L) = some (.bl (a == L)) := rfl
  simp only [DD.tB, vOp, h, vC, Rs.bind_ok, e, ofO_some, dB]
def cR (r : List Dt → Sv → Rs Dt) : Sm Dt := (vCall 4 r (aCons (vName 0) (aCons (vName 1) (aCons (vOp gSub (vName 2) (vC (.int 1))) (aCons (vName 3) (aNil))))))
def cA : Ss := (sSet 4 (vIf (tB (vOp gGt (vName 2) (vC (.int 0)))) (vCall 2 f__law_pick (aCons (vName 0) (aCons (vC (.int 9)) (aNil)))) (vC (.int 8))))
def cB (r : List Dt → Sv → Rs Dt) : Ss := (sIf (tB (vOp gLt (vName 4) (vC (.int 5)))) (sSeq (sSet 5 (vCall 2 f__law_of (aCons (vName 0) (aCons (vCall 0 f__law_words aNil) (aNil))))) (sRet (vTup (aCons (vName 5) (aCons (cR r) (aCons (cR r) (aNil))))))) (sNil))
def cC (r : List Dt → Sv → Rs Dt) : Ss := (sIf (tB (vOp gEq (vName 4) (vC (.int 5)))) (sRet (vTup (aCons (vC (.str "not")) (aCons (cR r) (aNil))))) (sNil))
def cD (r : List Dt → Sv → Rs Dt) : Ss := (sIf (tB (vOp gEq (vName 4) (vC (.int 6)))) (sRet (vTup (aCons (vC (.str "copies")) (aCons (vCall 2 f__law_pick (aCons (vName 0) (aCons (vOp gAdd (vName 3) (vC (.int 1))) (aNil)))) (aCons (cR r) (aNil)))))) (sNil))
def cE : Ss := (sSet 6 (vL (lCat (vL (lRep (vL (lComp [7] (iSeq (vName 1)) (tgName 7) (tTrue) (vTup (aCons (vC (.str "letter")) (aCons (vName 7) (aNil)))))) (vC (.int 3)))) (vL (lLst (aCons (vTup (aCons (vC (.str "nought")) (aNil))) (aCons (vTup (aCons (vC (.str "one")) (aNil))) (aNil))))))))
def cF : Ss := (sRet (vCall 2 f__law_of (aCons (vName 0) (aCons (vName 6) (aNil)))))
theorem claim_def (n : Nat) : f__law_claim (n + 1) = callS 8 (sSeq cA (sSeq (cB (f__law_claim n)) (sSeq (cC (f__law_claim n)) (sSeq (cD (f__law_claim n)) (sSeq cE cF))))) := rfl
def someL (n : Nat) : List Dt := reps 3 ((lets n).map fun x => enc (.lt x)) ++ [enc .nou, enc .one]
theorem cE_eq (n : Nat) (hn : n ≤ 3) (d m : Int) (a b o e : Sl) (s : Sv) : cE [.val .src, .val (.lst (ltD n)), .val (.int d), .val (.int m), a, b, o, e] s = .nx [.val .src, .val (.lst (ltD n)), .val (.int d), .val (.int m), a, b, .val (.lst (someL n)), e] s := by
  match n, hn with
  | 0, _ => rfl
  | 1, _ => rfl
  | 2, _ => rfl
  | 3, _ => rfl
theorem someL_mem (n : Nat) (hn : n ≤ 3) (d : Dt) (h : d ∈ someL n) : ∃ c, d = enc c ∧ lev c = 0 ∧ within n c ∧ k30 c := by
  have h : d ∈ reps 3 ((lets n).map fun x => enc (.lt x)) ∨ d ∈ [enc .nou, enc .one] := List.mem_append.mp h
  rcases h with h | h
  · unfold reps at h
    obtain ⟨l, hl, hd⟩ := List.mem_flatten.mp h
    have hl := List.eq_of_mem_replicate hl
    rw [hl] at hd
    obtain ⟨x, hx, rfl⟩ := List.mem_map.mp hd
    refine ⟨.lt x, rfl, rfl, ?_, trivial⟩
    match n, hn with
    | 0, _ => cases hx
    | 1, _ => cases x <;> simp [lets] at hx <;> simp [within, Lt.ix]
    | 2, _ => cases x <;> simp [lets] at hx <;> simp [within, Lt.ix]
    | 3, _ => cases x <;> simp [within, Lt.ix]
  · simp only [List.mem_cons, List.not_mem_nil, or_false] at h
    rcases h with rfl | rfl
    · exact ⟨.nou, rfl, rfl, trivial, trivial⟩
    · exact ⟨.one, rfl, rfl, trivial, trivial⟩
theorem someL_len (n : Nat) (hn : n ≤ 3) : someL n ≠ [] ∧ (someL n).length < 1000000 := by
  match n, hn with
  | 0, _ => exact ⟨by simp [someL], by decide⟩
  | 1, _ => exact ⟨by simp [someL], by decide⟩
  | 2, _ => exact ⟨by simp [someL], by decide⟩
  | 3, _ => exact ⟨by simp [someL], by decide⟩
def wordsD : List Dt := [.str "and", .str "or", .str "so", .str "both", .str "with", .str "less", .str "same"]
theorem words_mem (d : Dt) (h : d ∈ wordsD) : ∃ w : Wd, d = .str w.s := by
  unfold wordsD at h
  simp only [List.mem_cons, List.not_mem_nil, or_false] at h
  rcases h with rfl | rfl | rfl | rfl | rfl | rfl | rfl
  · exact ⟨.and, rfl⟩
  · exact ⟨.or, rfl⟩
  · exact ⟨.so, rfl⟩
  · exact ⟨.both, rfl⟩
  · exact ⟨.wth, rfl⟩
  · exact ⟨.less, rfl⟩
  · exact ⟨.same, rfl⟩
theorem words_eq (s : Sv) : f__law_words [] s = .ok (.lst wordsD) s := rfl
def Drawn (n : Nat) (d : Nat) (c : Cl) : Prop := lev c ≤ d ∧ within n c ∧ k30 c
theorem cR_eq (r : List Dt → Sv → Rs Dt) (L : Dt) (d m : Int) (a b c e : Sl) (s : Sv) : cR r [.val .src, .val L, .val (.int d), .val (.int m), a, b, c, e] s = r [.src, L, .int (d - 1), .int m] s := rfl
theorem law_claim_eq (n : Nat) (hn : n ≤ 3) (m : Nat) (hm : m ≤ 30) : ∀ (k d : Nat) (v : Src), d < k → Gs v → ∃ (c : Cl) (v2 : Src), f__law_claim k [.src, .lst (ltD n), .int d, .int m] (some v) = .ok (enc c) (some v2) ∧ Drawn n d c ∧ Gs v2
  | 0, d, v, h, _ => by omega
  | k + 1, d, v, h, hv => by
    rw [claim_def]
    -- the way
    obtain ⟨way, v1, eA, hw0, hw1, hv1⟩ : ∃ (way : Nat) (v1 : Src), cA [.val .src, .val (.lst (ltD n)), .val (.int d), .val (.int m), .un, .un, .un, .un] (some v) = .nx [.val .src, .val (.lst (ltD n)), .val (.int d), .val (.int m), .val (.int way), .un, .un, .un] (some v1) ∧ (way < 8 → 0 < d) ∧ (way < 9) ∧ Gs v1 := by
      have t := tgt (f := vName 2) (ρ := [.val .src, .val (.lst (ltD n)), .val (.int d), .val (.int m), .un, .un, .un, .un]) (s := some v) (s2 := some v) (a := (d : Int)) 0 rfl
      by_cases hd : 0 < d
      · obtain ⟨r, v1, a, b, c⟩ := pick_any 9 (by omega) (by omega) v hv
        refine ⟨r, v1, ?_, fun _ => hd, by omega, c⟩
        have hd' : decide ((0 : Int) < (d : Int)) = true := by rw [decide_eq_true_eq]; omega
        unfold cA
        simp only [sSet, vIf, t, Rs.bind_ok, hd', if_true, vCall, aCons, aNil, vName, vC, List.getElem?_cons_succ, List.getElem?_cons_zero, List.length_cons, List.length_nil, a, Rs.st_ok, List.set_cons_succ, List.set_cons_zero]
      · refine ⟨8, v, ?_, fun z => absurd z (by omega), by omega, hv⟩
        have hd' : decide ((0 : Int) < (d : Int)) = false := by rw [decide_eq_false_iff_not]; omega
        unfold cA
        simp only [sSet, vIf, t, Rs.bind_ok, hd', Bool.false_eq_true, if_false, vC, Rs.st_ok, List.set_cons_succ, List.set_cons_zero]
        rfl
    have start : ([Dt.src, .lst (ltD n), .int d, .int m].map Sl.val ++ List.replicate (8 - [Dt.src, .lst (ltD n), .int d, .int m].length) .un) = [.val .src, .val (.lst (ltD n)), .val (.int d), .val (.int m), .un, .un, .un, .un] := rfl
    have tB5 := tlt (f := vName 4) (ρ := [.val .src, .val (.lst (ltD n)), .val (.int d), .val (.int m), .val (.int way), .un, .un, .un]) (s := some v1) (s2 := some v1) (a := (way : Int)) 5 rfl
    have tC5 := teq (f := vName 4) (ρ := [.val .src, .val (.lst (ltD n)), .val (.int d), .val (.int m), .val (.int way), .un, .un, .un]) (s := some v1) (s2 := some v1) (a := (way : Int)) 5 rfl
    have tD6 := teq (f := vName 4) (ρ := [.val .src, .val (.lst (ltD n)), .val (.int d), .val (.int m), .val (.int way), .un, .un, .un]) (s := some v1) (s2 := some v1) (a := (way : Int)) 6 rfl
    by_cases h5 : way < 5
    · have hd := hw0 (by omega)
      have hdd : (d : Int) - 1 = ((d - 1 : Nat) : Int) := by omega
      obtain ⟨wd, v2, ew, hwd, hv2⟩ := of_eq wordsD (by simp [wordsD]) (by decide) v1 hv1
      obtain ⟨w, rfl⟩ := words_mem wd hwd
      obtain ⟨a, v3, ea, da, hv3⟩ := law_claim_eq n hn m hm k (d - 1) v2 (by omega) hv2
      obtain ⟨b, v4, eb, db, hv4⟩ := law_claim_eq n hn m hm k (d - 1) v3 (by omega) hv3
      refine ⟨.two w a b, v4, ?_, ⟨by have := da.1; have := db.1; simp only [lev]; omega, ⟨da.2.1, db.2.1⟩, ⟨da.2.2, db.2.2⟩⟩, hv4⟩
      refine call_ret ?_
      rw [start]
      refine (seq_nx eA).trans (seq_ret ?_)
      unfold cB
      rw [sIf_ok tB5, if_pos (by rw [decide_eq_true_eq]; omega)]
      have e1 : (sSet 5 (vCall 2 f__law_of (aCons (vName 0) (aCons (vCall 0 f__law_words aNil) (aNil))))) [.val .src, .val (.lst (ltD n)), .val (.int d), .val (.int m), .val (.int way), .un, .un, .un] (some v1) = .nx [.val .src, .val (.lst (ltD n)), .val (.int d), .val (.int m), .val (.int way), .val (.str w.s), .un, .un] (some v2) := by
        simp only [sSet, vCall, aCons, aNil, vName, List.getElem?_cons_succ, List.getElem?_cons_zero, Rs.bind_ok, List.length_nil, if_true, words_eq, List.length_cons, ew, Rs.st_ok, List.set_cons_succ, List.set_cons_zero]
      rw [seq_nx e1]
      simp only [sRet, vTup, aCons, aNil, vName, List.getElem?_cons_succ, List.getElem?_cons_zero, Rs.bind_ok, cR_eq, hdd, ea, eb, List.length_cons, List.length_nil, chk3, if_true, Rs.st_ok]
      rfl
    · have eB : cB (f__law_claim k) [.val .src, .val (.lst (ltD n)), .val (.int d), .val (.int m), .val (.int way), .un, .un, .un] (some v1) = .nx [.val .src, .val (.lst (ltD n)), .val (.int d), .val (.int m), .val (.int way), .un, .un, .un] (some v1) := by
        unfold cB
        rw [sIf_ok tB5, if_neg (by rw [decide_eq_true_eq]; omega)]
        rfl
      by_cases h6 : way = 5
      · have hd := hw0 (by omega)
        have hdd : (d : Int) - 1 = ((d - 1 : Nat) : Int) := by omega
        obtain ⟨a, v3, ea, da, hv3⟩ := law_claim_eq n hn m hm k (d - 1) v1 (by omega) hv1
        refine ⟨.no a, v3, ?_, ⟨by have := da.1; simp only [lev]; omega, da.2.1, da.2.2⟩, hv3⟩
        refine call_ret ?_
        rw [start]
        refine (seq_nx eA).trans ((seq_nx eB).trans (seq_ret ?_))
        unfold cC
        rw [sIf_ok tC5, if_pos (by rw [h6]; rfl)]
        simp only [sRet, vTup, aCons, aNil, vC, Rs.bind_ok, cR_eq, hdd, ea, List.length_cons, List.length_nil, chk2, if_true, Rs.st_ok]
        rfl
      · have eC : cC (f__law_claim k) [.val .src, .val (.lst (ltD n)), .val (.int d), .val (.int m), .val (.int way), .un, .un, .un] (some v1) = .nx [.val .src, .val (.lst (ltD n)), .val (.int d), .val (.int m), .val (.int way), .un, .un, .un] (some v1) := by
          unfold cC
          rw [sIf_ok tC5, if_neg (by rw [beq_iff_eq]; omega)]
          rfl
        by_cases h7 : way = 6
        · have hd := hw0 (by omega)
          have hdd : (d : Int) - 1 = ((d - 1 : Nat) : Int) := by omega
          obtain ⟨r, v2, er, hr, hv2⟩ := pick_any ((m : Int) + 1) (by omega) (by omega) v1 hv1
          obtain ⟨a, v3, ea, da, hv3⟩ := law_claim_eq n hn m hm k (d - 1) v2 (by omega) hv2
          refine ⟨.cop r a, v3, ?_, ⟨by have := da.1; simp only [lev]; omega, da.2.1, by omega, da.2.2⟩, hv3⟩
          refine call_ret ?_
          rw [start]
          refine (seq_nx eA).trans ((seq_nx eB).trans ((seq_nx eC).trans (seq_ret ?_)))
          unfold cD
          rw [sIf_ok tD6, if_pos (by rw [h7]; rfl)]
          simp only [sRet, vTup, vCall, vOp, aCons, aNil, vC, vName, List.getElem?_cons_succ, List.getElem?_cons_zero, Rs.bind_ok, gadd_eq, ofO_some, List.length_cons, List.length_nil, if_true, er, cR_eq, hdd, ea, chk3, Rs.st_ok]
          rfl
        · have eD : cD (f__law_claim k) [.val .src, .val (.lst (ltD n)), .val (.int d), .val (.int m), .val (.int way), .un, .un, .un] (some v1) = .nx [.val .src, .val (.lst (ltD n)), .val (.int d), .val (.int m), .val (.int way), .un, .un, .un] (some v1) := by
            unfold cD
            rw [sIf_ok tD6, if_neg (by rw [beq_iff_eq]; omega)]
            rfl
          obtain ⟨z1, z2⟩ := someL_len n hn
          obtain ⟨x, v2, ex, hx, hv2⟩ := of_eq (someL n) z1 z2 v1 hv1
          obtain ⟨c, rfl, l0, wi, k3⟩ := someL_mem n hn x hx
          refine ⟨c, v2, ?_, ⟨by omega, wi, k3⟩, hv2⟩
          refine call_ret ?_
          rw [start]
          refine (seq_nx eA).trans ((seq_nx eB).trans ((seq_nx eC).trans ((seq_nx eD).trans ((seq_nx (cE_eq n hn d m _ _ _ _ _)).trans ?_))))
          unfold cF
          simp only [sRet, vCall, aCons, aNil, vName, List.getElem?_cons_succ, List.getElem?_cons_zero, Rs.bind_ok, List.length_cons, List.length_nil, if_true, ex, Rs.st_ok]
end K00
set_option Elab.async false
set_option linter.all false
set_option maxRecDepth 100000
set_option maxHeartbeats 2000000
/-! P14: the plain law, part 15: drawn points. -/
namespace K00
open PySem PySem.Spec PyProof.Rows L2 DD
def ptF : Sm Dt := (vCall 2 f__law_of (aCons (vName 0) (aCons (vL (lLst (aCons (vC (.int 0)) (aCons (vName 3) (aCons (vCall 2 f__law_pick (aCons (vName 0) (aCons (vOp gAdd (vName 3) (vC (.int 1))) (aNil)))) (aCons (vCall 2 f__law_pick (aCons (vName 0) (aCons (vOp gAdd (vName 3) (vC (.int 1))) (aNil)))) (aNil))))))) (aNil))))
def ptA : Ss := (sSet 3 (vCall 2 f__law_of (aCons (vName 0) (aCons (vName 2) (aNil)))))
def ptB : Ss := (sSet 4 (vL (lCat (vL (lLst (aCons (vName 3) (aNil)))) (vL (lComp [8] (iRng1 (aCons (vName 1) (aNil))) (tgName 8) (tTrue) ptF)))))
def ptC : Ss := (sSet 5 (vName 3))
def ptW : Ss := (sWhile (tB (vOp gGt (vName 7) (vC (.int 0)))) (sAsg (tgTup 2 (tgCons (tgName 5) (tgCons (tgName 7) (tgNil)))) (vTup (aCons (vName 7) (aCons (vOp gMod (vCb gInt1 (aCons (vName 5) (aNil))) (vName 7)) (aNil))))))
def ptL : Ss := (sSeq (sSet 7 (vName 6)) ptW)
def ptD : Ss := (sFor (iSeq (vSl (vName 4) (pSome (vC (.int 1))) (pNone))) (tgName 6) ptL)
def ptE : Ss := (sRet (vCb gTuple (aCons (vL (lComp [6] (iSeq (vName 4)) (tgName 6) (tTrue) (vOp gDiv (vName 6) (vName 5)))) (aNil))))
theorem point_def : f__law_point = callS 9 (sSeq ptA (sSeq ptB (sSeq ptC (sSeq ptD ptE)))) := rfl
theorem ptF_eq (q : Nat) (hq : q ≤ 1000000000) (a b c d e f g : Sl) (v : Src) (hv : Gs v) : ∃ (x : Nat) (v2 : Src), ptF [.val .src, a, b, .val (.int q), c, d, e, f, g] (some v) = .ok (.int x) (some v2) ∧ x ≤ q ∧ Gs v2 := by
  obtain ⟨r1, v1, h1, b1, g1⟩ := pick_any ((q : Int) + 1) (by omega) (by omega) v hv
  obtain ⟨r2, v2, h2, b2, g2⟩ := pick_any ((q : Int) + 1) (by omega) (by omega) v1 g1
  obtain ⟨x, v3, h3, hx, g3⟩ := of_eq [.int 0, .int q, .int r1, .int r2] (by simp) (by show 4 < 1000000; decide) v2 g2
  have hx' : ∃ y : Nat, x = .int y ∧ y ≤ q := by
    simp only [List.mem_cons, List.not_mem_nil, or_false] at hx
    rcases hx with rfl | rfl | rfl | rfl
    · exact ⟨0, rfl, by omega⟩
    · exact ⟨q, rfl, by omega⟩
    · exact ⟨r1, rfl, by omega⟩
    · exact ⟨r2, rfl, by omega⟩
  obtain ⟨y, rfl, hy⟩ := hx'
  refine ⟨y, v3, ?_, hy, g3⟩
  have c4 : chk (0 + 1 + 1 + 1 + 1) = true := chk4
  unfold ptF
  simp only [c4, vCall, vL, lLst, aCons, aNil, vName, vC, vOp, List.getElem?_cons_succ, List.getElem?_cons_zero, Rs.bind_ok, gadd_eq, ofO_some, List.length_cons, List.length_nil, if_true, h1, h2, chk4, h3]
theorem pt_comp (q : Nat) (hq : q ≤ 1000000000) (a b c d e f g : Sl) : ∀ (ds : List Dt) (acc : List Dt) (v : Src), Gs v → acc.length + ds.length ≤ 1000000 → ∃ (xs : List Nat) (v2 : Src), compS (tgName 8) tTrue ptF [.val .src, a, b, .val (.int q), c, d, e, f, g] ds acc (some v) = .ok (acc ++ xs.map fun x : Nat => Dt.int (x : Int)) (some v2) ∧ xs.length = ds.length ∧ (∀ x ∈ xs, x ≤ q) ∧ Gs v2
  | [], acc, v, hv, _ => ⟨[], v, by simp [compS], rfl, by simp, hv⟩
  | x :: ds, acc, v, hv, hl => by
    rw [List.length_cons] at hl
    obtain ⟨y, v1, h1, hy, g1⟩ := ptF_eq q hq a b c d e f (.val x) v hv
    obtain ⟨xs, v2, h2, hl2, hb, g2⟩ := pt_comp q hq a b c d e f g ds (acc ++ [.int (y : Int)]) v1 g1 (by simp; omega)
    refine ⟨y :: xs, v2, ?_, by simp [hl2], by
      intro z hz
      rcases List.mem_cons.mp hz with rfl | hz
      · exact hy
      · exact hb z hz, g2⟩
    unfold compS
    have t : tTrue [.val .src, a, b, .val (.int q), c, d, e, f, .val x] (some v) = .ok true (some v) := rfl
    simp only [tgName, List.set_cons_succ, List.set_cons_zero, t, if_true, h1]
    rw [if_pos (chk_mil' (by omega)), h2]
    simp
theorem ptW_eq (x0 x1 x2 x3 x4 x6 x8 : Sl) (a b : Nat) (hb : b ≤ 1000000000) (s : Sv) : ptW [x0, x1, x2, x3, x4, .val (.int a), x6, .val (.int b), x8] s = .nx [x0, x1, x2, x3, x4, .val (.int ((Nat.gcd a b : Nat) : Int)), x6, .val (.int 0), x8] s := by
  have gi : ∀ i : Int, gInt1 [.int i] = some (.int i) := fun i => rfl
  have key : ∀ k, b < k → whileS (tB (vOp gGt (vName 7) (vC (.int 0)))) (sAsg (tgTup 2 (tgCons (tgName 5) (tgCons (tgName 7) (tgNil)))) (vTup (aCons (vName 7) (aCons (vOp gMod (vCb gInt1 (aCons (vName 5) (aNil))) (vName 7)) (aNil))))) k [x0, x1, x2, x3, x4, .val (.int a), x6, .val (.int b), x8] s = .nx [x0, x1, x2, x3, x4, .val (.int ((Nat.gcd a b : Nat) : Int)), x6, .val (.int 0), x8] s := fun k hk =>
    euc (sl := fun a b => [x0, x1, x2, x3, x4, .val (.int a), x6, .val (.int b), x8]) (fun a b => by
      simp only [DD.tB, vOp, vName, vC, List.getElem?_cons_succ, List.getElem?_cons_zero, Rs.bind_ok, gt0, ofO_some, dB]) (fun a b hb => by
      have c2 : chk (0 + 1 + 1) = true := chk2
      simp only [c2, sAsg, vTup, aCons, aNil, vName, vOp, vCb, List.getElem?_cons_succ, List.getElem?_cons_zero, Rs.bind_ok, gi, ofO_some, gmod_eq hb, List.length_cons, List.length_nil, chk2, if_true, Rs.st_ok, tgTup, tgCons, tgName, tgNil, Option.bind_some, List.set_cons_succ, List.set_cons_zero]) b k a b (Nat.le_refl _) hk
  exact while_many (fun k e => key k (many_big2 (by omega) k e))
theorem ptL_loop (x0 x1 x2 x3 x4 x8 : Sl) (Q : Nat) (hQ : Q ≤ 1000000000) : ∀ (xs : List Nat) (a : Nat) (o6 o7 : Sl) (s : Sv), (∀ x ∈ xs, x ≤ Q) → 0 < a → a ≤ Q → ∃ (a' : Nat) (o6' o7' : Sl), loopS (tgName 6) ptL (xs.map fun x : Nat => Dt.int (x : Int)) [x0, x1, x2, x3, x4, .val (.int a), o6, o7, x8] s = .nx [x0, x1, x2, x3, x4, .val (.int a'), o6', o7', x8] s ∧ 0 < a' ∧ a' ≤ Q
  | [], a, o6, o7, s, _, h0, h1 => ⟨a, o6, o7, rfl, h0, h1⟩
  | x :: xs, a, o6, o7, s, h, h0, h1 => by
    have hx := h x (by simp)
    have hg0 : 0 < Nat.gcd a x := Nat.gcd_pos_of_pos_left _ h0
    have hg1 : Nat.gcd a x ≤ a := Nat.gcd_le_left _ h0
    obtain ⟨a', p, r, e, b0, b1⟩ := ptL_loop x0 x1 x2 x3 x4 x8 Q hQ xs (Nat.gcd a x) (.val (.int x)) (.val (.int 0)) s (fun z hz => h z (by simp [hz])) hg0 (by omega)
    refine ⟨a', p, r, ?_, b0, b1⟩
    have eb : ptL [x0, x1, x2, x3, x4, .val (.int a), .val (.int x), o7, x8] s = .nx [x0, x1, x2, x3, x4, .val (.int ((Nat.gcd a x : Nat) : Int)), .val (.int x), .val (.int 0), x8] s :=
      (seq_nx (ρ2 := [x0, x1, x2, x3, x4, .val (.int a), .val (.int x), .val (.int x), x8]) (s2 := s) rfl).trans (ptW_eq x0 x1 x2 x3 x4 (.val (.int x)) x8 a x (by omega) s)
    rw [List.map_cons, loopS]
    simp only [tgName, List.set_cons_succ, List.set_cons_zero, eb]
    exact e
theorem Pt_of {q : Nat} {vs : List Nat} (h : ∀ x ∈ vs, x ≤ q) (hl : vs.length ≤ 3) : Pt q (vaOf (vs.map fun x : Nat => (x : Int))) := by
  refine ⟨by omega, fun x => ?_⟩
  match vs, hl with
  | [], _ => cases x <;> simp [vaOf]
  | [a], _ =>
    have := h a (by simp)
    cases x <;> simp [vaOf] <;> omega
  | [a, b], _ =>
    have := h a (by simp)
    have := h b (by simp)
    cases x <;> simp [vaOf] <;> omega
  | [a, b, c], _ =>
    have := h a (by simp)
    have := h b (by simp)
    have := h c (by simp)
    cases x <;> simp [vaOf] <;> omega
def botD : List Dt := [.int 1, .int 2, .int 7, .int 60, .int 1000000000]
theorem bot_mem (d : Dt) (h : d ∈ botD) : ∃ q : Nat, d = .int q ∧ 0 < q ∧ q ≤ 1000000000 := by
  unfold botD at h
  simp only [List.mem_cons, List.not_mem_nil, or_false] at h
  rcases h with rfl | rfl | rfl | rfl | rfl
  · exact ⟨1, rfl, by omega, by omega⟩
  · exact ⟨2, rfl, by omega, by omega⟩
  · exact ⟨7, rfl, by omega, by omega⟩
  · exact ⟨60, rfl, by omega, by omega⟩
  · exact ⟨1000000000, rfl, by omega, by omega⟩
theorem irg1_eq {j : Int} (h : rngC j = true) : iRg1 [.int j] = some (rngs 0 j.toNat) := by
  show (if rngC j then some (rngs 0 j.toNat) else none) = _
  rw [h]
  rfl
theorem comp_rng {gg : Dt → List Sl → Option (List Sl)} {b : Sm Bool} {f : Sm Dt} {ρ : List Sl} {s : Sv} {j : Int} {vs : List Nat} {r : Rs (List Dt)} (hr : rngC j = true) (hv : ρ[1]? = some (.val (.int j))) (h : compS gg b f (wipeR ρ vs) (rngs 0 j.toNat) [] s = r) : (lComp vs (DD.iRng1 (aCons (vName 1) (aNil))) gg b f) ρ s = r := by
  simp only [lComp, DD.iRng1, aCons, aNil, vName, hv, Rs.bind_ok, irg1_eq hr, ofO_some]
  exact h
theorem cat_eq {f g : Sm Dt} {ρ : List Sl} {s1 s2 s3 : Sv} {xs ys : List Dt} (hf : f ρ s1 = .ok (.lst xs) s2) (hg : g ρ s2 = .ok (.lst ys) s3) (hc : chk (xs.length + ys.length) = true) : lCat f g ρ s1 = .ok (xs ++ ys) s3 := by
  unfold lCat
  rw [hf]
  simp only [Rs.bind_ok]
  rw [hg]
  simp only [Rs.bind_ok, dLst, Option.bind_some]
  rw [hc]
  rfl
theorem law_point_eq (n : Nat) (hn : n ≤ 3) (v : Src) (hv : Gs v) : ∃ (q : Nat) (vs : List Nat) (v2 : Src), f__law_point [.src, .int n, .lst botD] (some v) = .ok (.tup (.int q :: numsD (vs.map fun x : Nat => (x : Int)))) (some v2) ∧ 0 < q ∧ q ≤ 1000000000 ∧ vs.length = n ∧ (∀ x ∈ vs, x ≤ q) ∧ Gs v2 := by
  obtain ⟨d, v1, h1, hd, g1⟩ := of_eq botD (by simp [botD]) (by show 5 < 1000000; decide) v hv
  obtain ⟨Q, rfl, q0, q1⟩ := bot_mem d hd
  have hrl : (rngs 0 (n : Int).toNat).length = n := by simp [rngs]
  obtain ⟨xs, v2, h2, hl, hb, g2⟩ := pt_comp Q q1 (.val (.int n)) (.val (.lst botD)) .un .un .un .un .un (rngs 0 (n : Int).toNat) [] v1 g1 (by rw [hrl]; simp; omega)
  rw [hrl] at hl
  rw [List.nil_append] at h2
  obtain ⟨a, p6, p7, h3, a0, a1⟩ := ptL_loop (.val .src) (.val (.int n)) (.val (.lst botD)) (.val (.int Q)) (.val (.lst (.int Q :: xs.map fun x : Nat => Dt.int (x : Int)))) .un Q q1 xs Q .un .un (some v2) hb q0 (Nat.le_refl _)
  have rc : rngC (n : Int) = true := rngC_nat (by omega) (by omega)
  have eA : ptA [.val .src, .val (.int n), .val (.lst botD), .un, .un, .un, .un, .un, .un] (some v) = .nx [.val .src, .val (.int n), .val (.lst botD), .val (.int Q), .un, .un, .un, .un, .un] (some v1) := by
    unfold ptA
    simp only [sSet, vCall, aCons, aNil, vName, List.getElem?_cons_succ, List.getElem?_cons_zero, Rs.bind_ok, List.length_cons, List.length_nil, if_true, h1, Rs.st_ok, List.set_cons_succ, List.set_cons_zero]
  have hchk : chk (1 + xs.length) = true := chk_mil (by omega)
  have eB : ptB [.val .src, .val (.int n), .val (.lst botD), .val (.int Q), .un, .un, .un, .un, .un] (some v1) = .nx [.val .src, .val (.int n), .val (.lst botD), .val (.int Q), .val (.lst (.int Q :: xs.map fun x : Nat => Dt.int (x : Int))), .un, .un, .un, .un] (some v2) := by
    have e1 : (lComp [8] (DD.iRng1 (aCons (vName 1) (aNil))) (tgName 8) (tTrue) ptF) [.val .src, .val (.int n), .val (.lst botD), .val (.int Q), .un, .un, .un, .un, .un] (some v1) = .ok (xs.map fun x : Nat => Dt.int (x : Int)) (some v2) := by
      exact comp_rng rc rfl h2
    have e2 := cat_eq (f := vL (lLst (aCons (vName 3) (aNil)))) (g := vL (lComp [8] (DD.iRng1 (aCons (vName 1) (aNil))) (tgName 8) (tTrue) ptF)) (ρ := [.val .src, .val (.int n), .val (.lst botD), .val (.int Q), .un, .un, .un, .un, .un]) (s1 := some v1) (s2 := some v1) (s3 := some v2) (xs := [Dt.int (Q : Int)]) (ys := xs.map fun x : Nat => Dt.int (x : Int)) rfl (by
      simp only [vL, e1, Rs.bind_ok]) (chk_mil (by simp; omega))
    unfold ptB
    simp only [sSet, vL] at e2 ⊢
    rw [e2]
    rfl
  have eC : ptC [.val .src, .val (.int n), .val (.lst botD), .val (.int Q), .val (.lst (.int Q :: xs.map fun x : Nat => Dt.int (x : Int))), .un, .un, .un, .un] (some v2) = .nx [.val .src, .val (.int n), .val (.lst botD), .val (.int Q), .val (.lst (.int Q :: xs.map fun x : Nat => Dt.int (x : Int))), .val (.int Q), .un, .un, .un] (some v2) := rfl
  have eD : ptD [.val .src, .val (.int n), .val (.lst botD), .val (.int Q), .val (.lst (.int Q :: xs.map fun x : Nat => Dt.int (x : Int))), .val (.int Q), .un, .un, .un] (some v2) = .nx [.val .src, .val (.int n), .val (.lst botD), .val (.int Q), .val (.lst (.int Q :: xs.map fun x : Nat => Dt.int (x : Int))), .val (.int a), p6, p7, .un] (some v2) := by
    have e : gSl (.lst (.int Q :: xs.map fun x : Nat => Dt.int (x : Int))) (some 1) none = some (.lst (xs.map fun x : Nat => Dt.int (x : Int))) := by
      show some (Dt.lst (DD.cutD (.int Q :: xs.map fun x : Nat => Dt.int (x : Int)) (some 1) none)) = _
      rw [cut_one]
    unfold ptD
    simp only [sFor, iSeq, vSl, vName, List.getElem?_cons_succ, List.getElem?_cons_zero, Rs.bind_ok, pSome, vC, dI, Option.map_some, ofO_some, pNone, e, dSeq, Rs.st_ok]
    exact h3
  have dv : ∀ x : Int, divC x (a : Int) = true := fun x => by
    simp only [divC, Bool.and_eq_true, decide_eq_true_eq]
    omega
  have ec := compS_en (gg := tgName 6) (b := tTrue) (f := vOp gDiv (vName 6) (vName 5)) (ρ := [.val .src, .val (.int n), .val (.lst botD), .val (.int Q), .val (.lst (.int Q :: xs.map fun x : Nat => Dt.int (x : Int))), .val (.int a), .un, p7, .un]) (s := some v2) (en := fun x : Nat => Dt.int (x : Int)) (g := fun x : Nat => Dt.int ((x / a : Nat) : Int)) (Q :: xs) [] (fun x hx => ⟨_, rfl, rfl, by
    simp only [vOp, vName, List.set_cons_succ, List.set_cons_zero, List.getElem?_cons_succ, List.getElem?_cons_zero, Rs.bind_ok, gdiv_eq (dv _), ofO_some]
    rw [Int.natCast_ediv]⟩) (few_ok (by simp; omega))
  have eE : ptE [.val .src, .val (.int n), .val (.lst botD), .val (.int Q), .val (.lst (.int Q :: xs.map fun x : Nat => Dt.int (x : Int))), .val (.int a), p6, p7, .un] (some v2) = .ret (.tup ((Q :: xs).map fun x : Nat => Dt.int ((x / a : Nat) : Int))) (some v2) := by
    have e1 : (lComp [6] (iSeq (vName 4)) (tgName 6) (tTrue) (vOp gDiv (vName 6) (vName 5))) [.val .src, .val (.int n), .val (.lst botD), .val (.int Q), .val (.lst (.int Q :: xs.map fun x : Nat => Dt.int (x : Int))), .val (.int a), p6, p7, .un] (some v2) = .ok ((Q :: xs).map fun x : Nat => Dt.int ((x / a : Nat) : Int)) (some v2) := by
      simp only [lComp, iSeq, vName, List.getElem?_cons_succ, List.getElem?_cons_zero, Rs.bind_ok, dSeq, ofO_some]
      exact ec
    have gt : ∀ ds : List Dt, gTuple [.lst ds] = some (.tup ds) := fun ds => rfl
    unfold ptE
    simp only [sRet, vCb, aCons, aNil, vL, e1, Rs.bind_ok, gt, ofO_some, Rs.st_ok]
  refine ⟨Q / a, xs.map fun x => x / a, v2, ?_, Nat.div_pos a1 a0, Nat.le_trans (Nat.div_le_self _ _) q1, by simp [hl], fun z hz => ?_, g2⟩
  · rw [point_def]
    refine call_ret ((seq_nx eA).trans ((seq_nx eB).trans ((seq_nx eC).trans ((seq_nx eD).trans ?_))))
    rw [eE]
    simp [numsD]
  · obtain ⟨x, hx, rfl⟩ := List.mem_map.mp hz
    exact Nat.div_le_div_right (hb x hx)
end K00
set_option Elab.async false
set_option linter.all false
set_option maxRecDepth 100000
set_option maxHeartbeats 2000000
/-! P15: the plain law, part 16: the law's turns. -/
namespace K00
open PySem PySem.Spec PyProof.Rows L2 DD
mutual
theorem eqv_self : ∀ d : Dt, d.plain = true → PyData.eqv d.py d.py = true
  | .non, _ => rfl
  | .bl b, _ => by simp [Dt.py, PyData.eqv]
  | .int i, _ => by simp [Dt.py, PyData.eqv]
  | .str x, _ => by simp [Dt.py, PyData.eqv]
  | .tup xs, h => by rw [Dt.py, PyData.eqv]; exact eqvs_self xs h
  | .lst xs, h => by rw [Dt.py, PyData.eqv]; exact eqvs_self xs h
  | .dic _, h => by cases h
  | .src, h => by cases h
  | .scr _, h => by cases h
theorem eqvs_self : ∀ ds : List Dt, Dt.plains ds = true → PyData.eqvAll (Dt.pys ds) (Dt.pys ds) = true
  | [], _ => rfl
  | d :: ds, h => by
    rw [Dt.plains, Bool.and_eq_true] at h
    rw [Dt.pys, PyData.eqvAll, eqv_self d h.1, eqvs_self ds h.2]
    rfl
end
theorem ne_self {d : Dt} (hs : isSeq d = true) (hp : d.plain = true) (hd : d.py.depth ≤ 180) : gNe d d = some (.bl false) := by
  have h : eqP d d = some true := by
    unfold eqP
    have h2 : min d.py.depth d.py.depth ≤ 180 := by omega
    rw [hp, if_pos (by simp only [Bool.true_and, decide_eq_true_eq]; exact h2), eqv_self d hp]
  cases d with
  | tup xs => simp [gNe, eqD, eqS, h]
  | lst xs => simp [gNe, eqD, eqS, h]
  | _ => cases hs
theorem ne_str (x : Str) : gNe (.str x) (.str x) = some (.bl false) := by simp [gNe, eqD, eqS]
theorem ne_int (i : Int) : gNe (.int i) (.int i) = some (.bl false) := by simp [gNe, eqD, eqS]
theorem ne_cutP (p q : Nat) : gNe (cutP p q) (cutP p q) = some (.bl false) := ne_self rfl rfl (by
  show max 0 (max 0 0) + 1 ≤ 180
  decide)
theorem nodes_lev : ∀ c : Cl, nodes c + 1 ≤ 2 ^ (lev c + 1)
  | .lt _ => by simp [nodes, lev]
  | .nou => by simp [nodes, lev]
  | .one => by simp [nodes, lev]
  | .no c => by
    have h := nodes_lev c
    have e : 2 ^ (1 + lev c + 1) = 2 * 2 ^ (lev c + 1) := by rw [show 1 + lev c + 1 = (lev c + 1) + 1 by omega, Nat.pow_succ]; omega
    have p : 0 < 2 ^ (lev c + 1) := Nat.pow_pos (by omega)
    simp only [nodes, lev]
    omega
  | .cop _ c => by
    have h := nodes_lev c
    have e : 2 ^ (1 + lev c + 1) = 2 * 2 ^ (lev c + 1) := by rw [show 1 + lev c + 1 = (lev c + 1) + 1 by omega, Nat.pow_succ]; omega
    have p : 0 < 2 ^ (lev c + 1) := Nat.pow_pos (by omega)
    simp only [nodes, lev]
    omega
  | .two _ a b => by
    have h := nodes_lev a
    have h2 := nodes_lev b
    have m1 : 2 ^ (lev a + 1) ≤ 2 ^ (max (lev a) (lev b) + 1) := Nat.pow_le_pow_right (by omega) (by omega)
    have m2 : 2 ^ (lev b + 1) ≤ 2 ^ (max (lev a) (lev b) + 1) := Nat.pow_le_pow_right (by omega) (by omega)
    have e : 2 ^ (1 + max (lev a) (lev b) + 1) = 2 * 2 ^ (max (lev a) (lev b) + 1) := by rw [show 1 + max (lev a) (lev b) + 1 = (max (lev a) (lev b) + 1) + 1 by omega, Nat.pow_succ]; omega
    simp only [nodes, lev]
    omega
theorem nodes_small (c : Cl) (h : lev c ≤ 4) : nodes c ≤ 31 := by
  have h1 := nodes_lev c
  have h2 : 2 ^ (lev c + 1) ≤ 2 ^ 5 := Nat.pow_le_pow_right (by omega) (by omega)
  omega
theorem smallK_30 : ∀ c, k30 c → smallK c = true
  | .lt _, _ => rfl
  | .nou, _ => rfl
  | .one, _ => rfl
  | .no c, h => smallK_30 c h
  | .cop k c, h => by
    have := h.1
    show (decide (k ≤ 1000000) && smallK c) = true
    rw [smallK_30 c h.2, decide_eq_true (by omega)]
    rfl
  | .two _ a b, h => by
    show (smallK a && smallK b) = true
    rw [smallK_30 a h.1, smallK_30 b h.2]
    rfl
theorem tne {f g : Sm Dt} {ρ : List Sl} {s s2 s3 : Sv} {a b : Dt} {t : Bool} (h : f ρ s = .ok a s2) (h2 : g ρ s2 = .ok b s3) (e : gNe a b = some (.bl t)) : tB (vOp gNe f g) ρ s = .ok t s3 := by
  simp only [DD.tB, vOp, h, h2, Rs.bind_ok, e, ofO_some, dB]
theorem tor {b c : Sm Bool} {ρ : List Sl} {s s2 s3 : Sv} (h : b ρ s = .ok false s2) (h2 : c ρ s2 = .ok false s3) : tOr' b c ρ s = .ok false s3 := by
  simp only [tOr', h, h2, Rs.bind_ok, Bool.false_eq_true, if_false]
/-! ### a turn: a point, the worths there -/
def tuA : Ss := (sSet 10 (vCall 3 f__law_point (aCons (vName 1) (aCons (vCb gLen (aCons (vName 3) (aNil))) (aCons (vL (lLst (aCons (vC (.int 1)) (aCons (vC (.int 2)) (aCons (vC (.int 7)) (aCons (vC (.int 60)) (aCons (vOp gPow (vC (.int 10)) (vC (.int 9))) (aNil)))))))) (aNil))))))
def tuB : Ss := (sSet 11 (vOp gDz (vName 3) (vSl (vName 10) (pSome (vC (.int 1))) (pNone))))
def tuC : Ss := (sSet 12 (vCall 2 f__law_cut (aCons (vCall 3 (f__law_worth 8) (aCons (vName 4) (aCons (vName 11) (aCons (vOp gIx (vName 10) (vC (.int 0))) (aNil))))) (aCons (vOp gIx (vName 10) (vC (.int 0))) (aNil)))))
def tuW (i : Nat) : Sm Bool := (tB (vOp gNe (vCall 3 f_worth_at (aCons (vCb gTuple (aCons (vName 3) (aNil))) (aCons (vName i) (aCons (vName 10) (aNil))))) (vName 12)))
def tuD : Ss := (sIf (tOr' (tuW 6) (tuW 4)) (sRet (vC (.bl false))) (sNil))
abbrev sta (x0 x2 : Sl) (n : Nat) (c : Cl) (so : Bool) (f : Dt) (x7 x8 x9 x10 x11 x12 x13 : Sl) : List Sl := [x0, .val .src, x2, .val (.lst (ltD n)), .val (enc c), .val (.bl so), .val f, x7, x8, x9, x10, x11, x12, x13]
theorem pow9 : gPow (.int 10) (.int 9) = some (.int 1000000000) := by rfl
theorem ltD_len (n : Nat) (hn : n ≤ 3) : (ltD n).length = n := by
  match n, hn with
  | 0, _ => rfl
  | 1, _ => rfl
  | 2, _ => rfl
  | 3, _ => rfl
theorem tu_eq (n : Nat) (hn : n ≤ 3) (c f : Cl) (so : Bool) (hc : Drawn n 4 c) (hf : form so c = some f) (x0 x2 x7 x8 x9 x10 x11 x12 x13 : Sl) (v : Src) (hv : Gs v) :
    ∃ (y10 y11 y12 : Sl) (v2 : Src), (sSeq tuA (sSeq tuB (sSeq tuC tuD))) (sta x0 x2 n c so (enc f) x7 x8 x9 x10 x11 x12 x13) (some v) = .nx (sta x0 x2 n c so (enc f) x7 x8 x9 y10 y11 y12 x13) (some v2) ∧ Gs v2 := by
  obtain ⟨q, vs, v2, hp, q0, q1, hl, hb, g2⟩ := law_point_eq n hn v hv
  have hl3 : vs.length ≤ 3 := by omega
  have pt := Pt_of hb hl3
  have hll := ltD_len n hn
  have nc := nodes_small c hc.1
  have nf := form_le so c f hf
  have fi := isF_form so c f hf
  have fk := (isF_small so f fi).2
  have hlv : (vs.map fun x : Nat => (x : Int)).length = n := by simp [hl]
  have c5 : chk (0 + 1 + 1 + 1 + 1 + 1) = true := by show chk 5 = true; decide
  have eA : tuA (sta x0 x2 n c so (enc f) x7 x8 x9 x10 x11 x12 x13) (some v) = .nx (sta x0 x2 n c so (enc f) x7 x8 x9 (.val (.tup (.int q :: numsD (vs.map fun x : Nat => (x : Int))))) x11 x12 x13) (some v2) := by
    have gl : gLen [.lst (ltD n)] = some (.int n) := by
      show some (Dt.int ((ltD n).length : Nat)) = _
      rw [hll]
    have hp' : f__law_point [.src, .int n, .lst [.int 1, .int 2, .int 7, .int 60, .int 1000000000]] (some v) = _ := hp
    unfold tuA
    simp only [sSet, vCall, vCb, vL, lLst, vOp, vC, aCons, aNil, vName, List.getElem?_cons_succ, List.getElem?_cons_zero, Rs.bind_ok, gl, ofO_some, pow9, List.length_cons, List.length_nil, c5, if_true, hp', Rs.st_ok, List.set_cons_succ, List.set_cons_zero]
  have eB : tuB (sta x0 x2 n c so (enc f) x7 x8 x9 (.val (.tup (.int q :: numsD (vs.map fun x : Nat => (x : Int))))) x11 x12 x13) (some v2) = .nx (sta x0 x2 n c so (enc f) x7 x8 x9 (.val (.tup (.int q :: numsD (vs.map fun x : Nat => (x : Int))))) (.val (.dic (kvsOf (vs.map fun x : Nat => (x : Int))))) x12 x13) (some v2) := by
    have e : gSl (.tup (.int q :: numsD (vs.map fun x : Nat => (x : Int)))) (some 1) none = some (.tup (numsD (vs.map fun x : Nat => (x : Int)))) := by
      show some (Dt.tup (DD.cutD (.int q :: numsD (vs.map fun x : Nat => (x : Int))) (some 1) none)) = _
      rw [cut_one]
    have g := gDz_l (vs.map fun x : Nat => (x : Int)) (by rw [hlv]; exact hn)
    rw [hlv] at g
    unfold tuB
    simp only [sSet, vOp, vSl, vName, List.getElem?_cons_succ, List.getElem?_cons_zero, Rs.bind_ok, pSome, vC, dI, Option.map_some, ofO_some, pNone, e, g, Rs.st_ok, List.set_cons_succ, List.set_cons_zero]
  have hw : within (vs.map fun x : Nat => (x : Int)).length c := by rw [hlv]; exact hc.2.1
  have hwf : within (vs.map fun x : Nat => (x : Int)).length f := by rw [hlv]; exact within_form n so c f hc.2.1 hf
  have wc := law_worth_eq q (vaOf (vs.map fun x : Nat => (x : Int))) (kvsOf (vs.map fun x : Nat => (x : Int))) 8 c (some v2) (by have := hc.1; omega) (named_of _ (by rw [hlv]; exact hn) c hw) (kOk_30 c hc.2.2)
  have win := wv_in pt c
  have wnat : wv q (vaOf (vs.map fun x : Nat => (x : Int))) c = (((wv q (vaOf (vs.map fun x : Nat => (x : Int))) c).toNat : Nat) : Int) := by omega
  have lc := law_cut_eq (wv q (vaOf (vs.map fun x : Nat => (x : Int))) c).toNat q q0 q1 (some v2)
  rw [← wnat] at lc
  have g0 : gIx (.tup (.int q :: numsD (vs.map fun x : Nat => (x : Int)))) (.int 0) = some (.int q) := by
    show atI (Dt.int q :: numsD (vs.map fun x : Nat => (x : Int))) 0 = _
    unfold atI ixN
    rw [if_pos (by decide), if_pos (by simp)]
    rfl
  have eC : tuC (sta x0 x2 n c so (enc f) x7 x8 x9 (.val (.tup (.int q :: numsD (vs.map fun x : Nat => (x : Int))))) (.val (.dic (kvsOf (vs.map fun x : Nat => (x : Int))))) x12 x13) (some v2) = .nx (sta x0 x2 n c so (enc f) x7 x8 x9 (.val (.tup (.int q :: numsD (vs.map fun x : Nat => (x : Int))))) (.val (.dic (kvsOf (vs.map fun x : Nat => (x : Int))))) (.val (cutP (wv q (vaOf (vs.map fun x : Nat => (x : Int))) c).toNat q)) x13) (some v2) := by
    unfold tuC
    simp only [sSet, vCall, vOp, vC, aCons, aNil, vName, List.getElem?_cons_succ, List.getElem?_cons_zero, Rs.bind_ok, g0, ofO_some, List.length_cons, List.length_nil, if_true, wc, lc, Rs.st_ok, List.set_cons_succ, List.set_cons_zero]
  have wf := wv_form so pt c f hf
  have t6 := worth_at_eq q q0 q1 (vs.map fun x : Nat => (x : Int)) (by rw [hlv]; exact hn) pt f hwf (kOk_30 f fk) (by omega) (some v2)
  have t4 := worth_at_eq q q0 q1 (vs.map fun x : Nat => (x : Int)) (by rw [hlv]; exact hn) pt c hw (kOk_30 c hc.2.2) (by omega) (some v2)
  rw [wf, hlv] at t6
  rw [hlv] at t4
  have gt : gTuple [.lst (ltD n)] = some (.tup (ltD n)) := rfl
  have b6 : tuW 6 (sta x0 x2 n c so (enc f) x7 x8 x9 (.val (.tup (.int q :: numsD (vs.map fun x : Nat => (x : Int))))) (.val (.dic (kvsOf (vs.map fun x : Nat => (x : Int))))) (.val (cutP (wv q (vaOf (vs.map fun x : Nat => (x : Int))) c).toNat q)) x13) (some v2) = .ok false (some v2) := by
    refine tne ?_ rfl (ne_cutP _ _)
    simp only [vCall, vCb, aCons, aNil, vName, List.getElem?_cons_succ, List.getElem?_cons_zero, Rs.bind_ok, gt, ofO_some, List.length_cons, List.length_nil, if_true, t6]
  have b4 : tuW 4 (sta x0 x2 n c so (enc f) x7 x8 x9 (.val (.tup (.int q :: numsD (vs.map fun x : Nat => (x : Int))))) (.val (.dic (kvsOf (vs.map fun x : Nat => (x : Int))))) (.val (cutP (wv q (vaOf (vs.map fun x : Nat => (x : Int))) c).toNat q)) x13) (some v2) = .ok false (some v2) := by
    refine tne ?_ rfl (ne_cutP _ _)
    simp only [vCall, vCb, aCons, aNil, vName, List.getElem?_cons_succ, List.getElem?_cons_zero, Rs.bind_ok, gt, ofO_some, List.length_cons, List.length_nil, if_true, t4]
  refine ⟨.val (.tup (.int q :: numsD (vs.map fun x : Nat => (x : Int)))), .val (.dic (kvsOf (vs.map fun x : Nat => (x : Int)))), .val (cutP (wv q (vaOf (vs.map fun x : Nat => (x : Int))) c).toNat q), v2, (seq_nx eA).trans ((seq_nx eB).trans ((seq_nx eC).trans ?_)), g2⟩
  unfold tuD
  rw [sIf_ok (tor b6 b4), if_neg Bool.false_ne_true]
  rfl
end K00
set_option Elab.async false
set_option linter.all false
set_option maxRecDepth 100000
set_option maxHeartbeats 2000000
/-! P16: the plain law, part 17: the law's laps. -/
namespace K00
open PySem PySem.Spec PyProof.Rows L2 DD
def tuBody : Ss := sSeq tuA (sSeq tuB (sSeq tuC tuD))
/-! ### one of the two ways of writing -/
def isA : Ss := (sPar 6 7 (xV (vCall 2 (f__law_form 8) (aCons (vName 4) (aCons (vName 5) (aNil))))) (xV (vCb gRepr (aCons (vName 4) (aNil)))))
def isB1 : Sm Bool := (tB (vOp gNe (vCb gRepr (aCons (vCall 2 f__law_got (aCons (vName 4) (aCons (vName 5) (aNil)))) (aNil))) (vCb gRepr (aCons (vL (lIf (tB (vOp gIs (vName 6) (vC .non))) (lLst (aCons (vC (.str "many")) (aNil))) (lLst (aCons (vC (.str "told")) (aCons (vName 6) (aNil)))))) (aNil)))))
def isB2 : Sm Bool := (tB (vOp gNe (vCb gRepr (aCons (vName 4) (aNil))) (vName 7)))
def isB : Ss := (sIf (tOr' isB1 isB2) (sRet (vC (.bl false))) (sNil))
def isC : Ss := (sIf (tB (vOp gIs (vName 6) (vC .non))) (sCt) (sNil))
def isD : Ss := (sSet 8 (vIf (tTru' (vName 5)) (vTup (aCons (vC (.str "letter")) (aCons (vC (.str "nought")) (aCons (vC (.str "so")) (aNil))))) (vTup (aCons (vC (.str "letter")) (aCons (vC (.str "nought")) (aCons (vC (.str "not")) (aCons (vC (.str "with")) (aNil))))))))
def isE : Ss := (sIf (tB (vOp gNe (vL (lComp [13] (iSeq (vCall 1 (f__law_parts 450) (aCons (vName 6) (aNil)))) (tgName 13) (tB (vOp gNotInS (vOp gIx (vName 13) (vC (.int 0))) (vName 8))) (vName 13))) (vL (lLst (aNil))))) (sRet (vC (.bl false))) (sNil))
def isF' : Ss := (sFor (iRng1 (aCons (vC (.int 3)) (aNil))) (tgName 9) tuBody)
def isG : Ss := (sIf (tB (vOp gNe (vCb gRepr (aCons (vCall 2 f__law_got (aCons (vName 6) (aCons (vName 5) (aNil)))) (aNil))) (vCb gRepr (aCons (vL (lLst (aCons (vC (.str "told")) (aCons (vName 6) (aNil))))) (aNil))))) (sRet (vC (.bl false))) (sNil))
def isBody : Ss := sSeq isA (sSeq isB (sSeq isC (sSeq isD (sSeq isE (sSeq isF' isG)))))
def lpA : Ss := (sSet 3 (vL (lSl (vL (lLst (aCons (vC (.str "x")) (aCons (vC (.str "y")) (aCons (vC (.str "zeta")) (aNil)))))) (pNone) (pSome (vCall 2 f__law_pick (aCons (vName 1) (aCons (vC (.int 4)) (aNil))))))))
def lpB : Ss := (sSet 4 (vCall 4 (f__law_claim 6) (aCons (vName 1) (aCons (vName 3) (aCons (vIf (tB (vOp gEq (vCall 2 f__law_pick (aCons (vName 1) (aCons (vC (.int 4)) (aNil)))) (vC (.int 0)))) (vC (.int 4)) (vC (.int 3))) (aCons (vCall 2 f__law_of (aCons (vName 1) (aCons (vL (lLst (aCons (vC (.int 2)) (aCons (vC (.int 4)) (aCons (vC (.int 30)) (aNil)))))) (aNil)))) (aNil)))))))
def lpC : Ss := (sIf (tOr' (tB (vOp gNe (vCall 1 f_claim_nodes (aCons (vName 4) (aNil))) (vCall 1 (f__law_nodes 450) (aCons (vName 4) (aNil))))) (tB (vOp gNe (vL (lCb gList (aCons (vCall 1 f_parts_of (aCons (vName 4) (aNil))) (aNil)))) (vCall 1 (f__law_parts 450) (aCons (vName 4) (aNil)))))) (sRet (vC (.bl false))) (sNil))
def lpD : Ss := (sFor (iSeq (vTup (aCons (vC (.bl true)) (aCons (vC (.bl false)) (aNil))))) (tgName 5) isBody)
def lpBody : Ss := sSeq lpA (sSeq lpB (sSeq lpC lpD))
def lwF : Ss := (sRet (vOp gEq (vCall 2 f__law_got (aCons (vTup (aCons (vC (.str "copies")) (aCons (vOp gPow (vC (.int 10)) (vC (.int 6))) (aCons (vTup (aCons (vC (.str "letter")) (aCons (vC (.str "x")) (aNil)))) (aNil))))) (aCons (vC (.bl true)) (aNil)))) (vL (lLst (aCons (vC (.str "many")) (aNil))))))
theorem lawS_def : lawS = sSeq (sFor (iRng1 (aCons (vC (.int 3)) (aNil))) (tgName 2) lpBody) lwF := rfl
theorem tu_loop (n : Nat) (hn : n ≤ 3) (c f : Cl) (so : Bool) (hc : Drawn n 4 c) (hf : form so c = some f) (x0 x2 x7 x8 x13 : Sl) : ∀ (ds : List Dt) (x9 x10 x11 x12 : Sl) (v : Src), Gs v →
    ∃ (y9 y10 y11 y12 : Sl) (v2 : Src), loopS (tgName 9) tuBody ds (sta x0 x2 n c so (enc f) x7 x8 x9 x10 x11 x12 x13) (some v) = .nx (sta x0 x2 n c so (enc f) x7 x8 y9 y10 y11 y12 x13) (some v2) ∧ Gs v2
  | [], x9, x10, x11, x12, v, hv => ⟨x9, x10, x11, x12, v, rfl, hv⟩
  | d :: ds, x9, x10, x11, x12, v, hv => by
    obtain ⟨y10, y11, y12, v2, h, g2⟩ := tu_eq n hn c f so hc hf x0 x2 x7 x8 (.val d) x10 x11 x12 x13 v hv
    obtain ⟨z9, z10, z11, z12, v3, h3, g3⟩ := tu_loop n hn c f so hc hf x0 x2 x7 x8 x13 ds (.val d) y10 y11 y12 v2 g2
    refine ⟨z9, z10, z11, z12, v3, ?_, g3⟩
    have h' : tuBody (sta x0 x2 n c so (enc f) x7 x8 (.val d) x10 x11 x12 x13) (some v) = _ := h
    rw [loopS]
    simp only [tgName, List.set_cons_succ, List.set_cons_zero, h']
    exact h3
theorem isF'_eq (n : Nat) (hn : n ≤ 3) (c f : Cl) (so : Bool) (hc : Drawn n 4 c) (hf : form so c = some f) (x0 x2 x7 x8 x9 x10 x11 x12 x13 : Sl) (v : Src) (hv : Gs v) :
    ∃ (y9 y10 y11 y12 : Sl) (v2 : Src), isF' (sta x0 x2 n c so (enc f) x7 x8 x9 x10 x11 x12 x13) (some v) = .nx (sta x0 x2 n c so (enc f) x7 x8 y9 y10 y11 y12 x13) (some v2) ∧ Gs v2 := by
  obtain ⟨a, b, d, e, v2, h, g⟩ := tu_loop n hn c f so hc hf x0 x2 x7 x8 x13 (rngs 0 3) x9 x10 x11 x12 v hv
  refine ⟨a, b, d, e, v2, ?_, g⟩
  have e3 : iRg1 [.int 3] = some (rngs 0 3) := by
    have h := irg1_eq (j := 3) (rngC_nat (by omega) (by omega))
    exact h
  unfold isF'
  simp only [sFor, DD.iRng1, aCons, aNil, vC, Rs.bind_ok, e3, ofO_some, Rs.st_ok]
  exact h
theorem dp_f (so : Bool) (c f : Cl) (hl : lev c ≤ 4) (hk : k30 c) (hf : form so c = some f) : dp f ≤ 370 := by
  have := dp_form so c hk f hf
  omega
theorem dp_c (c : Cl) (hl : lev c ≤ 4) : dp c ≤ 31 := by
  have h : ∀ c : Cl, dp c ≤ nodes c := by
    intro c
    induction c with
    | lt x => simp [dp, nodes]
    | nou => simp [dp, nodes]
    | one => simp [dp, nodes]
    | no c ih => simp only [dp, nodes]; omega
    | cop k c ih => simp only [dp, nodes]; omega
    | two w a b ih1 ih2 => simp only [dp, nodes]; omega
  have := h c
  have := nodes_small c hl
  omega
def dueD (so : Bool) : Dt := if so then .tup [.str "letter", .str "nought", .str "so"] else .tup [.str "letter", .str "nought", .str "not", .str "with"]
theorem isA_eq (n : Nat) (c : Cl) (so : Bool) (hc : Drawn n 4 c) (x0 x2 x6 x7 x8 x9 x10 x11 x12 x13 : Sl) (s : Sv) : isA [x0, .val .src, x2, .val (.lst (ltD n)), .val (enc c), .val (.bl so), x6, x7, x8, x9, x10, x11, x12, x13] s = .nx (sta x0 x2 n c so (encO (form so c)) (.val (.str (enc c).py.shown)) x8 x9 x10 x11 x12 x13) s := by
  have h1 := law_form_eq so 8 c s (by have := hc.1; omega) hc.1 hc.2.2
  have h2 := repr_enc c hc.2.2 (by have := dp_c c hc.1; omega) (by have := nodes_small c hc.1; omega)
  unfold isA
  simp only [sPar, xV, vCall, vCb, aCons, aNil, vName, List.getElem?_cons_succ, List.getElem?_cons_zero, Rs.bind_ok, List.length_cons, List.length_nil, if_true, h1, h2, ofO_some, Rs.st_ok, List.set_cons_succ, List.set_cons_zero]
theorem repr_gotF (n : Nat) (c : Cl) (so : Bool) (hc : Drawn n 4 c) : gRepr [gotD (form so c)] = some (.str (gotD (form so c)).py.shown) := repr_got _ fun f hf => ⟨(isF_small so f (isF_form so c f hf)).2, by have := dp_f so c f hc.1 hc.2.2 hf; omega, form_le so c f hf⟩
theorem due_list (o : Option Cl) (ρ : List Sl) (s : Sv) (h : ρ[6]? = some (.val (encO o))) : (vL (lIf (tB (vOp gIs (vName 6) (vC .non))) (lLst (aCons (vC (.str "many")) (aNil))) (lLst (aCons (vC (.str "told")) (aCons (vName 6) (aNil)))))) ρ s = .ok (gotD o) s := by
  have c1 : chk (0 + 1) = true := chk1
  have c2 : chk (0 + 1 + 1) = true := chk2
  cases o with
  | none =>
    have t : gIs (encO none) .non = some (.bl true) := rfl
    simp only [vL, lIf, DD.tB, vOp, vName, vC, h, Rs.bind_ok, t, ofO_some, dB, if_true, lLst, aCons, aNil, List.length_cons, List.length_nil, c1]
    rfl
  | some f =>
    have t : gIs (encO (some f)) .non = some (.bl false) := by cases f <;> rfl
    simp only [vL, lIf, DD.tB, vOp, vName, vC, h, Rs.bind_ok, t, ofO_some, dB, Bool.false_eq_true, if_false, lLst, aCons, aNil, List.length_cons, List.length_nil, c2, if_true]
    rfl
theorem isB_eq (n : Nat) (c : Cl) (so : Bool) (hc : Drawn n 4 c) (x0 x2 x8 x9 x10 x11 x12 x13 : Sl) (s : Sv) : isB (sta x0 x2 n c so (encO (form so c)) (.val (.str (enc c).py.shown)) x8 x9 x10 x11 x12 x13) s = .nx (sta x0 x2 n c so (encO (form so c)) (.val (.str (enc c).py.shown)) x8 x9 x10 x11 x12 x13) s := by
  have hg := got_eq so c (smallK_30 c hc.2.2) (by have := nodes_small c hc.1; omega) s
  have h2 := repr_enc c hc.2.2 (by have := dp_c c hc.1; omega) (by have := nodes_small c hc.1; omega)
  have h3 := repr_gotF n c so hc
  have hd := due_list (form so c) (sta x0 x2 n c so (encO (form so c)) (.val (.str (enc c).py.shown)) x8 x9 x10 x11 x12 x13) s rfl
  have b1 : isB1 (sta x0 x2 n c so (encO (form so c)) (.val (.str (enc c).py.shown)) x8 x9 x10 x11 x12 x13) s = .ok false s := by
    refine tne (a := .str (gotD (form so c)).py.shown) (b := .str (gotD (form so c)).py.shown) (s2 := s) ?_ ?_ (ne_str _)
    · simp only [vCb, vCall, aCons, aNil, vName, List.getElem?_cons_succ, List.getElem?_cons_zero, Rs.bind_ok, List.length_cons, List.length_nil, if_true, hg, h3, ofO_some]
    · simp only [vCb, aCons, aNil, hd, Rs.bind_ok, h3, ofO_some]
  have b2 : isB2 (sta x0 x2 n c so (encO (form so c)) (.val (.str (enc c).py.shown)) x8 x9 x10 x11 x12 x13) s = .ok false s := by
    refine tne (a := .str (enc c).py.shown) (s2 := s) ?_ rfl (ne_str _)
    simp only [vCb, aCons, aNil, vName, List.getElem?_cons_succ, List.getElem?_cons_zero, Rs.bind_ok, h2, ofO_some]
  unfold isB
  rw [sIf_ok (tor b1 b2), if_neg Bool.false_ne_true]
  rfl
theorem isC_none (n : Nat) (c : Cl) (so : Bool) (x0 x2 x7 x8 x9 x10 x11 x12 x13 : Sl) (s : Sv) : isC (sta x0 x2 n c so .non x7 x8 x9 x10 x11 x12 x13) s = .ct (sta x0 x2 n c so .non x7 x8 x9 x10 x11 x12 x13) s := rfl
theorem isC_some (n : Nat) (c f : Cl) (so : Bool) (x0 x2 x7 x8 x9 x10 x11 x12 x13 : Sl) (s : Sv) : isC (sta x0 x2 n c so (enc f) x7 x8 x9 x10 x11 x12 x13) s = .nx (sta x0 x2 n c so (enc f) x7 x8 x9 x10 x11 x12 x13) s := by cases f <;> rfl
theorem isD_eq (n : Nat) (c : Cl) (so : Bool) (f : Dt) (x0 x2 x7 x8 x9 x10 x11 x12 x13 : Sl) (s : Sv) : isD (sta x0 x2 n c so f x7 x8 x9 x10 x11 x12 x13) s = .nx (sta x0 x2 n c so f x7 (.val (dueD so)) x9 x10 x11 x12 x13) s := by cases so <;> rfl
end K00
set_option Elab.async false
set_option linter.all false
set_option maxRecDepth 100000
set_option maxHeartbeats 2000000
/-! P17: the plain law, part 18: the law answers True. -/
namespace K00
open PySem PySem.Spec PyProof.Rows L2 DD
theorem seq_ct {m n : Ss} {ρ ρ2 : List Sl} {s s2 : Sv} (h : m ρ s = .ct ρ2 s2) : sSeq m n ρ s = .ct ρ2 s2 := by unfold sSeq; rw [h]
theorem isE_eq (n : Nat) (c f : Cl) (so : Bool) (hc : Drawn n 4 c) (hf : form so c = some f) (x0 x2 x7 x9 x10 x11 x12 x13 : Sl) (s : Sv) : isE (sta x0 x2 n c so (enc f) x7 (.val (dueD so)) x9 x10 x11 x12 x13) s = .nx (sta x0 x2 n c so (enc f) x7 (.val (dueD so)) x9 x10 x11 x12 x13) s := by
  have nf := form_le so c f hf
  have fi := isF_form so c f hf
  have hp := law_parts_eq 450 f s (by have := dp_f so c f hc.1 hc.2.2 hf; omega) (by omega)
  have hl := parts_len f
  have ec := compS_filter (gg := tgName 13) (b := (tB (vOp gNotInS (vOp gIx (vName 13) (vC (.int 0))) (vName 8)))) (f := vName 13) (ρ := [x0, .val .src, x2, .val (.lst (ltD n)), .val (enc c), .val (.bl so), .val (enc f), x7, .val (dueD so), x9, x10, x11, x12, .un]) (s := s) (p := fun _ => false) ((parts f).map enc) [] (fun x hx => by
    obtain ⟨p, hp, rfl⟩ := List.mem_map.mp hx
    have h1 := few_ok1 so p (isF_parts so f fi p hp)
    obtain ⟨d, hd, h2⟩ := Option.bind_eq_some_iff.mp h1
    have h2' : gNotInS d (dueD so) = some (.bl false) := h2
    refine ⟨_, rfl, ?_, rfl⟩
    simp only [DD.tB, vOp, vName, vC, List.set_cons_succ, List.set_cons_zero, List.getElem?_cons_succ, List.getElem?_cons_zero, Rs.bind_ok, hd, ofO_some, h2', dB]) (few_ok (by simp; omega))
  have ef : ([] : List Dt) ++ ((parts f).map enc).filter (fun _ => false) = [] := by simp
  rw [ef] at ec
  have e1 : (vL (lComp [13] (iSeq (vCall 1 (f__law_parts 450) (aCons (vName 6) (aNil)))) (tgName 13) (tB (vOp gNotInS (vOp gIx (vName 13) (vC (.int 0))) (vName 8))) (vName 13))) (sta x0 x2 n c so (enc f) x7 (.val (dueD so)) x9 x10 x11 x12 x13) s = .ok (.lst []) s := by
    have : (lComp [13] (iSeq (vCall 1 (f__law_parts 450) (aCons (vName 6) (aNil)))) (tgName 13) (tB (vOp gNotInS (vOp gIx (vName 13) (vC (.int 0))) (vName 8))) (vName 13)) (sta x0 x2 n c so (enc f) x7 (.val (dueD so)) x9 x10 x11 x12 x13) s = .ok [] s := by
      unfold lComp
      simp only [iSeq, vCall, aCons, aNil, vName, List.getElem?_cons_succ, List.getElem?_cons_zero, Rs.bind_ok, List.length_cons, List.length_nil, if_true, hp, dSeq, ofO_some]
      exact ec
    simp only [vL, this, Rs.bind_ok]
  have e2 : gNe (.lst []) (.lst []) = some (.bl false) := ne_self rfl rfl (by decide)
  unfold isE
  rw [sIf_ok (tne e1 (b := .lst []) rfl e2), if_neg Bool.false_ne_true]
  rfl
theorem isG_eq (n : Nat) (c f : Cl) (so : Bool) (hc : Drawn n 4 c) (hf : form so c = some f) (x0 x2 x7 x8 x9 x10 x11 x12 x13 : Sl) (s : Sv) : isG (sta x0 x2 n c so (enc f) x7 x8 x9 x10 x11 x12 x13) s = .nx (sta x0 x2 n c so (enc f) x7 x8 x9 x10 x11 x12 x13) s := by
  have nf := form_le so c f hf
  have fi := isF_form so c f hf
  have hg := got_eq so f (isF_small so f fi).1 (by omega) s
  rw [form_isF so f fi nf] at hg
  have h3 := repr_gotF n c so hc
  rw [hf] at h3
  have c2 : chk (0 + 1 + 1) = true := chk2
  have h3' : gRepr [.lst [.str "told", enc f]] = some (.str (gotD (some f)).py.shown) := h3
  have e : tB (vOp gNe (vCb gRepr (aCons (vCall 2 f__law_got (aCons (vName 6) (aCons (vName 5) (aNil)))) (aNil))) (vCb gRepr (aCons (vL (lLst (aCons (vC (.str "told")) (aCons (vName 6) (aNil))))) (aNil)))) (sta x0 x2 n c so (enc f) x7 x8 x9 x10 x11 x12 x13) s = .ok false s := by
    refine tne (a := .str (gotD (some f)).py.shown) (b := .str (gotD (some f)).py.shown) (s2 := s) ?_ ?_ (ne_str _)
    · simp only [vCb, vCall, aCons, aNil, vName, List.getElem?_cons_succ, List.getElem?_cons_zero, Rs.bind_ok, List.length_cons, List.length_nil, if_true, hg, h3, ofO_some]
    · simp only [vCb, aCons, aNil, vL, lLst, vC, vName, List.getElem?_cons_succ, List.getElem?_cons_zero, Rs.bind_ok, List.length_cons, List.length_nil, c2, if_true, h3', ofO_some]
  unfold isG
  rw [sIf_ok e, if_neg Bool.false_ne_true]
  rfl
theorem is_eq (n : Nat) (hn : n ≤ 3) (c : Cl) (so : Bool) (hc : Drawn n 4 c) (x0 x2 x6 x7 x8 x9 x10 x11 x12 x13 : Sl) (v : Src) (hv : Gs v) :
    ∃ (y6 y7 y8 y9 y10 y11 y12 : Sl) (v2 : Src), Gs v2 ∧ (isBody [x0, .val .src, x2, .val (.lst (ltD n)), .val (enc c), .val (.bl so), x6, x7, x8, x9, x10, x11, x12, x13] (some v) = .nx [x0, .val .src, x2, .val (.lst (ltD n)), .val (enc c), .val (.bl so), y6, y7, y8, y9, y10, y11, y12, x13] (some v2) ∨
      isBody [x0, .val .src, x2, .val (.lst (ltD n)), .val (enc c), .val (.bl so), x6, x7, x8, x9, x10, x11, x12, x13] (some v) = .ct [x0, .val .src, x2, .val (.lst (ltD n)), .val (enc c), .val (.bl so), y6, y7, y8, y9, y10, y11, y12, x13] (some v2)) := by
  have eA := isA_eq n c so hc x0 x2 x6 x7 x8 x9 x10 x11 x12 x13 (some v)
  have eB := isB_eq n c so hc x0 x2 x8 x9 x10 x11 x12 x13 (some v)
  cases hf : form so c with
  | none =>
    rw [hf] at eA eB
    refine ⟨.val .non, .val (.str (enc c).py.shown), x8, x9, x10, x11, x12, v, hv, .inr ?_⟩
    have eC := isC_none n c so x0 x2 (.val (.str (enc c).py.shown)) x8 x9 x10 x11 x12 x13 (some v)
    exact (seq_nx eA).trans ((seq_nx eB).trans (seq_ct eC))
  | some f =>
    rw [hf] at eA eB
    have eC := isC_some n c f so x0 x2 (.val (.str (enc c).py.shown)) x8 x9 x10 x11 x12 x13 (some v)
    have eD := isD_eq n c so (enc f) x0 x2 (.val (.str (enc c).py.shown)) x8 x9 x10 x11 x12 x13 (some v)
    have eE := isE_eq n c f so hc hf x0 x2 (.val (.str (enc c).py.shown)) x9 x10 x11 x12 x13 (some v)
    obtain ⟨y9, y10, y11, y12, v2, eF, g2⟩ := isF'_eq n hn c f so hc hf x0 x2 (.val (.str (enc c).py.shown)) (.val (dueD so)) x9 x10 x11 x12 x13 v hv
    have eG := isG_eq n c f so hc hf x0 x2 (.val (.str (enc c).py.shown)) (.val (dueD so)) y9 y10 y11 y12 x13 (some v2)
    refine ⟨.val (enc f), .val (.str (enc c).py.shown), .val (dueD so), y9, y10, y11, y12, v2, g2, .inl ?_⟩
    exact (seq_nx eA).trans ((seq_nx eB).trans ((seq_nx eC).trans ((seq_nx eD).trans ((seq_nx eE).trans ((seq_nx eF).trans eG)))))
/-! ### a lap -/
theorem ltD_cut (r : Nat) (hr : r < 4) : DD.cutD [Dt.str "x", .str "y", .str "zeta"] none (some (r : Int)) = ltD r := by
  match r, hr with
  | 0, _ => rfl
  | 1, _ => rfl
  | 2, _ => rfl
  | 3, _ => rfl
theorem lpA_eq (x0 x2 x3 x4 x5 x6 x7 x8 x9 x10 x11 x12 x13 : Sl) (v : Src) (hv : Gs v) : ∃ (n : Nat) (v2 : Src), n ≤ 3 ∧ Gs v2 ∧ lpA [x0, .val .src, x2, x3, x4, x5, x6, x7, x8, x9, x10, x11, x12, x13] (some v) = .nx [x0, .val .src, x2, .val (.lst (ltD n)), x4, x5, x6, x7, x8, x9, x10, x11, x12, x13] (some v2) := by
  obtain ⟨r, v2, h, b, g⟩ := pick_any 4 (by omega) (by omega) v hv
  refine ⟨r, v2, by omega, g, ?_⟩
  have c3 : chk (0 + 1 + 1 + 1) = true := chk3
  have hc := ltD_cut r (by omega)
  unfold lpA
  simp only [sSet, vL, lSl, lLst, aCons, aNil, vC, vCall, vName, List.getElem?_cons_succ, List.getElem?_cons_zero, Rs.bind_ok, List.length_cons, List.length_nil, c3, if_true, pNone, pSome, h, dI, Option.map_some, ofO_some, dLst, hc, Rs.st_ok, List.set_cons_succ, List.set_cons_zero]
theorem call4 {f1 f2 : Sm Dt} {r : List Dt → Sv → Rs Dt} {ρ : List Sl} {s1 s2 s3 s4 : Sv} {a b d p q : Dt} (h1 : f1 ρ s1 = .ok a s2) (h2 : f2 ρ s2 = .ok b s3) (hr : r [p, q, a, b] s3 = .ok d s4) (g1 : vName 1 ρ s1 = .ok p s1) (g3 : vName 3 ρ s1 = .ok q s1) : vCall 4 r (aCons (vName 1) (aCons (vName 3) (aCons f1 (aCons f2 aNil)))) ρ s1 = .ok d s4 := by
  simp only [vCall, aCons, aNil, g1, g3, h1, h2, Rs.bind_ok, List.length_cons, List.length_nil, if_true, hr]
theorem lpB_eq (n : Nat) (hn : n ≤ 3) (x0 x2 x4 x5 x6 x7 x8 x9 x10 x11 x12 x13 : Sl) (v : Src) (hv : Gs v) : ∃ (c : Cl) (v2 : Src), Drawn n 4 c ∧ Gs v2 ∧ lpB [x0, .val .src, x2, .val (.lst (ltD n)), x4, x5, x6, x7, x8, x9, x10, x11, x12, x13] (some v) = .nx [x0, .val .src, x2, .val (.lst (ltD n)), .val (enc c), x5, x6, x7, x8, x9, x10, x11, x12, x13] (some v2) := by
  obtain ⟨r, v1, h1, b1, g1⟩ := pick_any 4 (by omega) (by omega) v hv
  obtain ⟨d, v2, h2, hd, g2⟩ := of_eq [.int 2, .int 4, .int 30] (by simp) (by show 3 < 1000000; decide) v1 g1
  obtain ⟨m, rfl, hm⟩ : ∃ m : Nat, d = .int m ∧ m ≤ 30 := by
    simp only [List.mem_cons, List.not_mem_nil, or_false] at hd
    rcases hd with rfl | rfl | rfl
    · exact ⟨2, rfl, by omega⟩
    · exact ⟨4, rfl, by omega⟩
    · exact ⟨30, rfl, by omega⟩
  have c3 : chk (0 + 1 + 1 + 1) = true := chk3
  have t := teq (f := (vCall 2 f__law_pick (aCons (vName 1) (aCons (vC (.int 4)) (aNil))))) (ρ := [x0, .val .src, x2, .val (.lst (ltD n)), x4, x5, x6, x7, x8, x9, x10, x11, x12, x13]) (s := some v) (s2 := some v1) (a := (r : Int)) 0 (by
    simp only [vCall, aCons, aNil, vC, vName, List.getElem?_cons_succ, List.getElem?_cons_zero, Rs.bind_ok, List.length_cons, List.length_nil, if_true, h1])
  have key : ∀ k : Nat, k ≤ 4 → (if ((r : Int) == 0) = true then (4 : Int) else 3) = (k : Int) → ∃ (c : Cl) (v3 : Src), Drawn n 4 c ∧ Gs v3 ∧ lpB [x0, .val .src, x2, .val (.lst (ltD n)), x4, x5, x6, x7, x8, x9, x10, x11, x12, x13] (some v) = .nx [x0, .val .src, x2, .val (.lst (ltD n)), .val (enc c), x5, x6, x7, x8, x9, x10, x11, x12, x13] (some v3) := by
    intro k hk he
    obtain ⟨c, v3, h3, dr, g3⟩ := law_claim_eq n hn m hm 6 k v2 (by omega) g2
    refine ⟨c, v3, ⟨by have := dr.1; omega, dr.2⟩, g3, ?_⟩
    have e1 : (vIf (tB (vOp gEq (vCall 2 f__law_pick (aCons (vName 1) (aCons (vC (.int 4)) (aNil)))) (vC (.int 0)))) (vC (.int 4)) (vC (.int 3))) [x0, .val .src, x2, .val (.lst (ltD n)), x4, x5, x6, x7, x8, x9, x10, x11, x12, x13] (some v) = .ok (.int (k : Int)) (some v1) := by
      simp only [vIf, t, Rs.bind_ok, vC]
      rw [← he]
      cases ((r : Int) == 0) <;> rfl
    have e2 : (vCall 2 f__law_of (aCons (vName 1) (aCons (vL (lLst (aCons (vC (.int 2)) (aCons (vC (.int 4)) (aCons (vC (.int 30)) (aNil)))))) (aNil)))) [x0, .val .src, x2, .val (.lst (ltD n)), x4, x5, x6, x7, x8, x9, x10, x11, x12, x13] (some v1) = .ok (.int m) (some v2) := by
      simp only [vCall, vL, lLst, aCons, aNil, vC, vName, List.getElem?_cons_succ, List.getElem?_cons_zero, Rs.bind_ok, List.length_cons, List.length_nil, c3, if_true, h2]
    unfold lpB
    simp only [sSet]
    rw [show (vCall 4 (f__law_claim 6) (aCons (vName 1) (aCons (vName 3) (aCons (vIf (tB (vOp gEq (vCall 2 f__law_pick (aCons (vName 1) (aCons (vC (.int 4)) (aNil)))) (vC (.int 0)))) (vC (.int 4)) (vC (.int 3))) (aCons (vCall 2 f__law_of (aCons (vName 1) (aCons (vL (lLst (aCons (vC (.int 2)) (aCons (vC (.int 4)) (aCons (vC (.int 30)) (aNil)))))) (aNil)))) (aNil)))))) [x0, .val .src, x2, .val (.lst (ltD n)), x4, x5, x6, x7, x8, x9, x10, x11, x12, x13] (some v) = .ok (enc c) (some v3) from by
      exact call4 e1 e2 h3 rfl rfl]
    rfl
  by_cases h0 : (r : Int) = 0
  · exact key 4 (by omega) (by rw [h0]; rfl)
  · exact key 3 (by omega) (by rw [if_neg (by simpa using h0)]; rfl)
end K00
set_option Elab.async false
set_option linter.all false
set_option maxRecDepth 100000
set_option maxHeartbeats 2000000
/-! P18: the plain law, part 19: laps, and the end. -/
namespace K00
open PySem PySem.Spec PyProof.Rows L2 DD
theorem loop1 {gg : Dt → List Sl → Option (List Sl)} {body : Ss} {d : Dt} {ds : List Dt} {ρ ρ1 ρ2 : List Sl} {s s2 : Sv} (hg : gg d ρ = some ρ1) (h : body ρ1 s = .nx ρ2 s2 ∨ body ρ1 s = .ct ρ2 s2) : loopS gg body (d :: ds) ρ s = loopS gg body ds ρ2 s2 := by
  rcases h with h | h <;> simp only [loopS, hg, h]
theorem lpD_eq (n : Nat) (hn : n ≤ 3) (c : Cl) (hc : Drawn n 4 c) (x0 x2 x5 x6 x7 x8 x9 x10 x11 x12 x13 : Sl) (v : Src) (hv : Gs v) :
    ∃ (y6 y7 y8 y9 y10 y11 y12 : Sl) (v2 : Src), Gs v2 ∧ lpD [x0, .val .src, x2, .val (.lst (ltD n)), .val (enc c), x5, x6, x7, x8, x9, x10, x11, x12, x13] (some v) = .nx [x0, .val .src, x2, .val (.lst (ltD n)), .val (enc c), .val (.bl false), y6, y7, y8, y9, y10, y11, y12, x13] (some v2) := by
  obtain ⟨a6, a7, a8, a9, a10, a11, a12, v1, g1, h1⟩ := is_eq n hn c true hc x0 x2 x6 x7 x8 x9 x10 x11 x12 x13 v hv
  obtain ⟨b6, b7, b8, b9, b10, b11, b12, v2, g2, h2⟩ := is_eq n hn c false hc x0 x2 a6 a7 a8 a9 a10 a11 a12 x13 v1 g1
  refine ⟨b6, b7, b8, b9, b10, b11, b12, v2, g2, ?_⟩
  have e : ∀ ρ s, lpD ρ s = loopS (tgName 5) isBody [.bl true, .bl false] ρ s := fun ρ s => rfl
  rw [e, loop1 (d := .bl true) rfl h1, loop1 (d := .bl false) rfl h2]
  rfl
end K00
set_option Elab.async false
set_option linter.all false
set_option maxRecDepth 100000
set_option maxHeartbeats 2000000
/-! P19: the plain law, part 20: laps. -/
namespace K00
open PySem PySem.Spec PyProof.Rows L2 DD
theorem dp_parts (c : Cl) : ∀ p ∈ parts c, dp p ≤ dp c := by
  induction c with
  | lt x => intro p hp; simp only [parts, List.mem_singleton] at hp; subst hp; exact Nat.le_refl _
  | nou => intro p hp; simp only [parts, List.mem_singleton] at hp; subst hp; exact Nat.le_refl _
  | one => intro p hp; simp only [parts, List.mem_singleton] at hp; subst hp; exact Nat.le_refl _
  | no c ih =>
    intro p hp; simp only [parts, List.mem_append, List.mem_singleton] at hp
    rcases hp with h | rfl
    · have := ih p h; simp only [dp]; omega
    · exact Nat.le_refl _
  | cop k c ih =>
    intro p hp; simp only [parts, List.mem_append, List.mem_singleton] at hp
    rcases hp with h | rfl
    · have := ih p h; simp only [dp]; omega
    · exact Nat.le_refl _
  | two w a b iha ihb =>
    intro p hp; simp only [parts, List.mem_append, List.mem_singleton] at hp
    rcases hp with (h | h) | rfl
    · have := iha p h; simp only [dp]; omega
    · have := ihb p h; simp only [dp]; omega
    · exact Nat.le_refl _
theorem dp_py : ∀ c : Cl, (enc c).py.depth ≤ dp c + 1 := by
  intro c
  induction c with
  | lt x => simp [enc, Dt.py, Dt.pys, PyData.depth, PyData.depthAll, dp]
  | nou => simp [enc, Dt.py, Dt.pys, PyData.depth, PyData.depthAll, dp]
  | one => simp [enc, Dt.py, Dt.pys, PyData.depth, PyData.depthAll, dp]
  | no c ih => simp [enc, Dt.py, Dt.pys, PyData.depth, PyData.depthAll, dp]; omega
  | cop k c ih => simp [enc, Dt.py, Dt.pys, PyData.depth, PyData.depthAll, dp]; omega
  | two w a b iha ihb => simp [enc, Dt.py, Dt.pys, PyData.depth, PyData.depthAll, dp]; omega
theorem dp_all (m : Nat) : ∀ cs : List Cl, (∀ p ∈ cs, dp p ≤ m) → PyData.depthAll (Dt.pys (cs.map enc)) ≤ m + 1
  | [], _ => by simp [Dt.pys, PyData.depthAll]
  | c :: cs, h => by
    have h1 := dp_py c
    have h2 := h c (by simp)
    have h3 := dp_all m cs fun p hp => h p (by simp [hp])
    simp only [List.map_cons, Dt.pys, PyData.depthAll]
    omega
theorem ne_parts (c : Cl) (h : dp c ≤ 31) : gNe (.lst ((parts c).map enc)) (.lst ((parts c).map enc)) = some (.bl false) := by
  refine ne_self rfl (plains_enc _) ?_
  have := dp_all 31 (parts c) fun p hp => Nat.le_trans (dp_parts c p hp) h
  simp only [Dt.py, PyData.depth]
  omega
theorem lpC_eq (n : Nat) (c : Cl) (hc : Drawn n 4 c) (x0 x2 x3 x5 x6 x7 x8 x9 x10 x11 x12 x13 : Sl) (s : Sv) : lpC [x0, .val .src, x2, x3, .val (enc c), x5, x6, x7, x8, x9, x10, x11, x12, x13] s = .nx [x0, .val .src, x2, x3, .val (enc c), x5, x6, x7, x8, x9, x10, x11, x12, x13] s := by
  have hd := dp_c c hc.1
  have hn := nodes_small c hc.1
  have hp := parts_of_eq c s (by omega)
  have hl := law_parts_eq 450 c s (by omega) (by omega)
  have hm := law_nodes_eq 450 c s (by omega)
  have hq : f_claim_nodes [enc c] s = .ok (.int (nodes c)) s := by
    have hp2 : ∀ s, f_parts_of [enc c] s = .ok (.tup ((parts c).map enc)) s := fun s => parts_of_eq c s (by omega)
    unfold f_claim_nodes m_claim_nodes
    simp [hp2, parts_len]
  unfold lpC
  rw [sIf_ok (tor (tne (a := .int (nodes c)) (b := .int (nodes c)) (s2 := s) (s3 := s) ?_ ?_ (ne_int _)) (tne (a := .lst ((parts c).map enc)) (b := .lst ((parts c).map enc)) (s2 := s) (s3 := s) ?_ ?_ (ne_parts c hd))), if_neg Bool.false_ne_true]
  · rfl
  · simp only [vCall, aCons, aNil, vName, List.getElem?_cons_succ, List.getElem?_cons_zero, Rs.bind_ok, List.length_cons, List.length_nil, if_true, hq]
  · simp only [vCall, aCons, aNil, vName, List.getElem?_cons_succ, List.getElem?_cons_zero, Rs.bind_ok, List.length_cons, List.length_nil, if_true, hm]
  · simp only [vL, lCb, gList, vCall, aCons, aNil, vName, List.getElem?_cons_succ, List.getElem?_cons_zero, Rs.bind_ok, List.length_cons, List.length_nil, if_true, hp, ofO_some]
  · simp only [vCall, aCons, aNil, vName, List.getElem?_cons_succ, List.getElem?_cons_zero, Rs.bind_ok, List.length_cons, List.length_nil, if_true, hl]
end K00
set_option Elab.async false
set_option linter.all false
set_option maxRecDepth 100000
set_option maxHeartbeats 2000000
/-! P20: the plain law, part 21: the end. -/
namespace K00
open PySem PySem.Spec PyProof.Rows L2 DD
theorem lp_eq (x0 x2 x3 x4 x5 x6 x7 x8 x9 x10 x11 x12 x13 : Sl) (v : Src) (hv : Gs v) :
    ∃ (y3 y4 y5 y6 y7 y8 y9 y10 y11 y12 : Sl) (v2 : Src), Gs v2 ∧ lpBody [x0, .val .src, x2, x3, x4, x5, x6, x7, x8, x9, x10, x11, x12, x13] (some v) = .nx [x0, .val .src, x2, y3, y4, y5, y6, y7, y8, y9, y10, y11, y12, x13] (some v2) := by
  obtain ⟨n, v1, hn, g1, h1⟩ := lpA_eq x0 x2 x3 x4 x5 x6 x7 x8 x9 x10 x11 x12 x13 v hv
  obtain ⟨c, v2, hc, g2, h2⟩ := lpB_eq n hn x0 x2 x4 x5 x6 x7 x8 x9 x10 x11 x12 x13 v1 g1
  have h3 := lpC_eq n c hc x0 x2 (.val (.lst (ltD n))) x5 x6 x7 x8 x9 x10 x11 x12 x13 (some v2)
  obtain ⟨y6, y7, y8, y9, y10, y11, y12, v3, g3, h4⟩ := lpD_eq n hn c hc x0 x2 x5 x6 x7 x8 x9 x10 x11 x12 x13 v2 g2
  exact ⟨_, _, _, _, _, _, _, _, _, _, v3, g3, (seq_nx h1).trans ((seq_nx h2).trans ((seq_nx h3).trans h4))⟩
theorem lp_loop (x0 x13 : Sl) : ∀ (ds : List Dt) (x2 x3 x4 x5 x6 x7 x8 x9 x10 x11 x12 : Sl) (v : Src), Gs v →
    ∃ (y2 y3 y4 y5 y6 y7 y8 y9 y10 y11 y12 : Sl) (v2 : Src), loopS (tgName 2) lpBody ds [x0, .val .src, x2, x3, x4, x5, x6, x7, x8, x9, x10, x11, x12, x13] (some v) = .nx [x0, .val .src, y2, y3, y4, y5, y6, y7, y8, y9, y10, y11, y12, x13] (some v2)
  | [], x2, x3, x4, x5, x6, x7, x8, x9, x10, x11, x12, v, hv => ⟨_, _, _, _, _, _, _, _, _, _, _, v, rfl⟩
  | d :: ds, x2, x3, x4, x5, x6, x7, x8, x9, x10, x11, x12, v, hv => by
    obtain ⟨y3, y4, y5, y6, y7, y8, y9, y10, y11, y12, v1, g1, h1⟩ := lp_eq x0 (.val d) x3 x4 x5 x6 x7 x8 x9 x10 x11 x12 x13 v hv
    obtain ⟨z2, z3, z4, z5, z6, z7, z8, z9, z10, z11, z12, v2, h2⟩ := lp_loop x0 x13 ds (.val d) y3 y4 y5 y6 y7 y8 y9 y10 y11 y12 v1 g1
    exact ⟨z2, z3, z4, z5, z6, z7, z8, z9, z10, z11, z12, v2, (loop1 rfl (.inl h1)).trans h2⟩
theorem form_big (k : Nat) (h : 1100 < k) : form true (.cop k (.lt .x)) = none := by
  have e1 : form true (.lt .x) = some (.lt .x) := rfl
  have e2 : stp true (.cop k (.lt .x)) [.lt .x] = none := by
    show (if k = 0 then some (fnot true .nou) else if k * 1 > 1100 then none else some (chain true (.lt .x) (k - 1))) = none
    rw [if_neg (by omega), if_pos (by omega)]
  unfold form
  rw [e1, Option.bind_some, e2]
  rfl
theorem form_many : form true (.cop 1000000 (.lt .x)) = none := form_big _ (by omega)
theorem eq_self {d : Dt} (hs : isSeq d = true) (hp : d.plain = true) (hd : d.py.depth ≤ 180) : gEq d d = some (.bl true) := by
  have h : eqP d d = some true := by
    unfold eqP
    have h2 : min d.py.depth d.py.depth ≤ 180 := by omega
    rw [hp, if_pos (by simp only [Bool.true_and, decide_eq_true_eq]; exact h2), eqv_self d hp]
  cases d with
  | tup xs => simp [gEq, eqD, eqS, h]
  | lst xs => simp [gEq, eqD, eqS, h]
  | _ => cases hs
theorem pow6 : gPow (.int 10) (.int 6) = some (.int 1000000) := by rfl
theorem lwF_eq (ρ : List Sl) (s : Sv) : lwF ρ s = .ret (.bl true) s := by
  have h := got_eq true (.cop 1000000 (.lt .x)) (by simp [smallK]) (by simp [nodes]) s
  rw [form_many] at h
  have h' : f__law_got [.tup [.str "copies", .int 1000000, .tup [.str "letter", .str "x"]], .bl true] s = .ok (.lst [.str "many"]) s := h
  have e : gEq (.lst [.str "many"]) (.lst [.str "many"]) = some (.bl true) := eq_self rfl (by simp [Dt.plain, Dt.plains]; decide +kernel) (by simp [Dt.py, Dt.pys, PyData.depth, PyData.depthAll])
  have c1 : chk (0 + 1) = true := chk1
  have c2 : chk (0 + 1 + 1) = true := chk2
  have c3 : chk (0 + 1 + 1 + 1) = true := chk3
  unfold lwF
  simp only [sRet, vOp, vCall, vTup, vL, lLst, aCons, aNil, vC, Rs.bind_ok, List.length_cons, List.length_nil, pow6, ofO_some, if_true, c1, c2, c3, h', e, Rs.st_ok]
theorem law_true : ∀ v : Src, v.cells.length ≤ sizeLine → ∃ v2 : Sv, lawS ((List.replicate 14 Sl.un).set 1 (.val .src)) (some v) = .ret (.bl true) v2 := by
  intro v hv
  have e3 : iRg1 [.int 3] = some (rngs 0 3) := irg1_eq (j := 3) (rngC_nat (by omega) (by omega))
  obtain ⟨y2, y3, y4, y5, y6, y7, y8, y9, y10, y11, y12, v2, h⟩ := lp_loop .un .un (rngs 0 3) .un .un .un .un .un .un .un .un .un .un .un v hv
  refine ⟨some v2, ?_⟩
  rw [lawS_def]
  have e : (sFor (iRng1 (aCons (vC (.int 3)) (aNil))) (tgName 2) lpBody) ((List.replicate 14 Sl.un).set 1 (.val .src)) (some v) = loopS (tgName 2) lpBody (rngs 0 3) [.un, .val .src, .un, .un, .un, .un, .un, .un, .un, .un, .un, .un, .un, .un] (some v) := by
    show (sFor (iRng1 (aCons (vC (.int 3)) (aNil))) (tgName 2) lpBody) [.un, .val .src, .un, .un, .un, .un, .un, .un, .un, .un, .un, .un, .un, .un] (some v) = _
    simp only [sFor, DD.iRng1, aCons, aNil, vC, Rs.bind_ok, e3, ofO_some, Rs.st_ok]
  exact (seq_nx (e.trans h)).trans (lwF_eq _ _)
end K00
set_option Elab.async false
set_option linter.all false
set_option pp.maxSteps 300
set_option pp.deepTerms false
set_option maxRecDepth 100000
set_option maxHeartbeats 4000000
/-! the end: printed by fin.py -/
namespace K00
open PySem PySem.Spec PyProof.Rows L2 DD
theorem has_mk {K : PySem.W.Frag} {h : Heap} {mg : Str → Option Value} {x : Str} {st : Stmt} {f : Addr} {oc kV doc pm cdv ct : Value} {od an : Option Addr} {osl : Array (Option Value)} (X : K.In h) (G : h.Ns mainGlobals mg) (a : PySem.W.nsIn K mainGlobals x = some (some (.ref f)))
    (l : K.lookup f = some ⟨oc, od, .func (PySem.W.fnOf x x (defArgs st) (defBody st) (defScope st) .none kV doc pm an cdv ct), osl⟩) (c : PySem.W.codeIn K cdv x = true) (k : PySem.W.keepIn K (.ref f) = true) : Has K mg x st := ⟨f, _, fun_mk l c k, PySem.W.mg_of X G a⟩
theorem exc_mk {K : PySem.W.Frag} {h : Heap} {mg : Str → Option Value} {x : Str} {C : Addr} {B newId initId : String} {bmB : List Value} (X : K.In h) (G : h.Ns mainGlobals mg) (F : ExcBaseFacts B newId initId bmB) (a : PySem.W.nsIn K mainGlobals x = some (some (.ref C))) (q : PySem.W.excIn K C bmB newId = true)
    (kC : PySem.W.keepIn K (.ref C) = true) (eC : PySem.W.subIn K (.ref C) (.type "BaseException") = some true) (tC : PySem.W.typeIn K (.ref C) = some (.type "type")) (iC : PySem.W.isClsIn K C = true) (sC : PySem.W.subIn K (.ref C) (.ref C) = some true) : ExC K mg x := by
  refine ⟨C, B, newId, initId, bmB, F, q, PySem.W.mg_of X G a, kC, eC, tC, ?_⟩
  have h1 : (PySem.W.subIn K (.ref C) (.type "BaseException") == some true) = true := by rw [eC]; rfl
  have h2 : ((PySem.W.clsIn K C).isSome && PySem.W.typeIn K (.ref C) == some (.type "type")) = true := by
    have z : (PySem.W.clsIn K C).isSome = true := iC
    rw [z, tC]; rfl
  unfold PySem.W.exmOne
  rw [if_pos h1]
  show (if _ then _ else _) = _
  rw [if_pos h2]
  exact sC
theorem tops_mk {K : PySem.W.Frag} {h : Heap} {mg : Str → Option Value} (X : K.In h) (G : h.Ns mainGlobals mg)
    {f1 : Addr} {oc1 kV1 dc1 pm1 cd1 ct1 : Value} {od1 an1 : Option Addr} {sl1 : Array (Option Value)}
    {f2 : Addr} {oc2 kV2 dc2 pm2 cd2 ct2 : Value} {od2 an2 : Option Addr} {sl2 : Array (Option Value)}
    {f3 : Addr} {oc3 kV3 dc3 pm3 cd3 ct3 : Value} {od3 an3 : Option Addr} {sl3 : Array (Option Value)}
    {f4 : Addr} {oc4 kV4 dc4 pm4 cd4 ct4 : Value} {od4 an4 : Option Addr} {sl4 : Array (Option Value)}
    {f5 : Addr} {oc5 kV5 dc5 pm5 cd5 ct5 : Value} {od5 an5 : Option Addr} {sl5 : Array (Option Value)}
    {f6 : Addr} {oc6 kV6 dc6 pm6 cd6 ct6 : Value} {od6 an6 : Option Addr} {sl6 : Array (Option Value)}
    {f7 : Addr} {oc7 kV7 dc7 pm7 cd7 ct7 : Value} {od7 an7 : Option Addr} {sl7 : Array (Option Value)}
    {f8 : Addr} {oc8 kV8 dc8 pm8 cd8 ct8 : Value} {od8 an8 : Option Addr} {sl8 : Array (Option Value)}
    {f9 : Addr} {oc9 kV9 dc9 pm9 cd9 ct9 : Value} {od9 an9 : Option Addr} {sl9 : Array (Option Value)}
    {f10 : Addr} {oc10 kV10 dc10 pm10 cd10 ct10 : Value} {od10 an10 : Option Addr} {sl10 : Array (Option Value)}
    {f11 : Addr} {oc11 kV11 dc11 pm11 cd11 ct11 : Value} {od11 an11 : Option Addr} {sl11 : Array (Option Value)}
    {f12 : Addr} {oc12 kV12 dc12 pm12 cd12 ct12 : Value} {od12 an12 : Option Addr} {sl12 : Array (Option Value)}
    {f13 : Addr} {oc13 kV13 dc13 pm13 cd13 ct13 : Value} {od13 an13 : Option Addr} {sl13 : Array (Option Value)}
    {f14 : Addr} {oc14 kV14 dc14 pm14 cd14 ct14 : Value} {od14 an14 : Option Addr} {sl14 : Array (Option Value)}
    {f15 : Addr} {oc15 kV15 dc15 pm15 cd15 ct15 : Value} {od15 an15 : Option Addr} {sl15 : Array (Option Value)}
    {f16 : Addr} {oc16 kV16 dc16 pm16 cd16 ct16 : Value} {od16 an16 : Option Addr} {sl16 : Array (Option Value)}
    {f17 : Addr} {oc17 kV17 dc17 pm17 cd17 ct17 : Value} {od17 an17 : Option Addr} {sl17 : Array (Option Value)}
    {f18 : Addr} {oc18 kV18 dc18 pm18 cd18 ct18 : Value} {od18 an18 : Option Addr} {sl18 : Array (Option Value)}
    {f19 : Addr} {oc19 kV19 dc19 pm19 cd19 ct19 : Value} {od19 an19 : Option Addr} {sl19 : Array (Option Value)}
    {f20 : Addr} {oc20 kV20 dc20 pm20 cd20 ct20 : Value} {od20 an20 : Option Addr} {sl20 : Array (Option Value)}
    {f21 : Addr} {oc21 kV21 dc21 pm21 cd21 ct21 : Value} {od21 an21 : Option Addr} {sl21 : Array (Option Value)}
    {f22 : Addr} {oc22 kV22 dc22 pm22 cd22 ct22 : Value} {od22 an22 : Option Addr} {sl22 : Array (Option Value)}
    {f23 : Addr} {oc23 kV23 dc23 pm23 cd23 ct23 : Value} {od23 an23 : Option Addr} {sl23 : Array (Option Value)}
    {f24 : Addr} {oc24 kV24 dc24 pm24 cd24 ct24 : Value} {od24 an24 : Option Addr} {sl24 : Array (Option Value)}
    {f25 : Addr} {oc25 kV25 dc25 pm25 cd25 ct25 : Value} {od25 an25 : Option Addr} {sl25 : Array (Option Value)}
    {f26 : Addr} {oc26 kV26 dc26 pm26 cd26 ct26 : Value} {od26 an26 : Option Addr} {sl26 : Array (Option Value)}
    {f27 : Addr} {oc27 kV27 dc27 pm27 cd27 ct27 : Value} {od27 an27 : Option Addr} {sl27 : Array (Option Value)}
    {f28 : Addr} {oc28 kV28 dc28 pm28 cd28 ct28 : Value} {od28 an28 : Option Addr} {sl28 : Array (Option Value)}
    {f29 : Addr} {oc29 kV29 dc29 pm29 cd29 ct29 : Value} {od29 an29 : Option Addr} {sl29 : Array (Option Value)}
    {f30 : Addr} {oc30 kV30 dc30 pm30 cd30 ct30 : Value} {od30 an30 : Option Addr} {sl30 : Array (Option Value)}
    {f31 : Addr} {oc31 kV31 dc31 pm31 cd31 ct31 : Value} {od31 an31 : Option Addr} {sl31 : Array (Option Value)}
    {f32 : Addr} {oc32 kV32 dc32 pm32 cd32 ct32 : Value} {od32 an32 : Option Addr} {sl32 : Array (Option Value)}
    {f33 : Addr} {oc33 kV33 dc33 pm33 cd33 ct33 : Value} {od33 an33 : Option Addr} {sl33 : Array (Option Value)}
    {f34 : Addr} {oc34 kV34 dc34 pm34 cd34 ct34 : Value} {od34 an34 : Option Addr} {sl34 : Array (Option Value)}
    {f35 : Addr} {oc35 kV35 dc35 pm35 cd35 ct35 : Value} {od35 an35 : Option Addr} {sl35 : Array (Option Value)}
    {f36 : Addr} {oc36 kV36 dc36 pm36 cd36 ct36 : Value} {od36 an36 : Option Addr} {sl36 : Array (Option Value)}
    {f37 : Addr} {oc37 kV37 dc37 pm37 cd37 ct37 : Value} {od37 an37 : Option Addr} {sl37 : Array (Option Value)}
    {f38 : Addr} {oc38 kV38 dc38 pm38 cd38 ct38 : Value} {od38 an38 : Option Addr} {sl38 : Array (Option Value)}
    {f39 : Addr} {oc39 kV39 dc39 pm39 cd39 ct39 : Value} {od39 an39 : Option Addr} {sl39 : Array (Option Value)}
    {f40 : Addr} {oc40 kV40 dc40 pm40 cd40 ct40 : Value} {od40 an40 : Option Addr} {sl40 : Array (Option Value)}
    {f41 : Addr} {oc41 kV41 dc41 pm41 cd41 ct41 : Value} {od41 an41 : Option Addr} {sl41 : Array (Option Value)}
    {g0 : Addr} {o0 : Obj} {it0 : Array Value} {m0 : Nat}
    {g1 : Addr} {o1 : Obj} {it1 : Array Value} {m1 : Nat}
    {C0 : Addr}
    (a1 : PySem.W.nsIn K mainGlobals "sides_told" = some (some (.ref f1))) (l1 : K.lookup f1 = some ⟨oc1, od1, .func (PySem.W.fnOf "sides_told" "sides_told" (defArgs (top 5)) (defBody (top 5)) (defScope (top 5)) .none kV1 dc1 pm1 an1 cd1 ct1), sl1⟩) (c1 : PySem.W.codeIn K cd1 "sides_told" = true) (k1 : PySem.W.keepIn K (.ref f1) = true)
    (a2 : PySem.W.nsIn K mainGlobals "parts_of" = some (some (.ref f2))) (l2 : K.lookup f2 = some ⟨oc2, od2, .func (PySem.W.fnOf "parts_of" "parts_of" (defArgs (top 7)) (defBody (top 7)) (defScope (top 7)) .none kV2 dc2 pm2 an2 cd2 ct2), sl2⟩) (c2 : PySem.W.codeIn K cd2 "parts_of" = true) (k2 : PySem.W.keepIn K (.ref f2) = true)
    (a3 : PySem.W.nsIn K mainGlobals "so_not" = some (some (.ref f3))) (l3 : K.lookup f3 = some ⟨oc3, od3, .func (PySem.W.fnOf "so_not" "so_not" (defArgs (top 10)) (defBody (top 10)) (defScope (top 10)) .none kV3 dc3 pm3 an3 cd3 ct3), sl3⟩) (c3 : PySem.W.codeIn K cd3 "so_not" = true) (k3 : PySem.W.keepIn K (.ref f3) = true)
    (a4 : PySem.W.nsIn K mainGlobals "so_or" = some (some (.ref f4))) (l4 : K.lookup f4 = some ⟨oc4, od4, .func (PySem.W.fnOf "so_or" "so_or" (defArgs (top 11)) (defBody (top 11)) (defScope (top 11)) .none kV4 dc4 pm4 an4 cd4 ct4), sl4⟩) (c4 : PySem.W.codeIn K cd4 "so_or" = true) (k4 : PySem.W.keepIn K (.ref f4) = true)
    (a5 : PySem.W.nsIn K mainGlobals "so_both" = some (some (.ref f5))) (l5 : K.lookup f5 = some ⟨oc5, od5, .func (PySem.W.fnOf "so_both" "so_both" (defArgs (top 12)) (defBody (top 12)) (defScope (top 12)) .none kV5 dc5 pm5 an5 cd5 ct5), sl5⟩) (c5 : PySem.W.codeIn K cd5 "so_both" = true) (k5 : PySem.W.keepIn K (.ref f5) = true)
    (a6 : PySem.W.nsIn K mainGlobals "so_two" = some (some (.ref f6))) (l6 : K.lookup f6 = some ⟨oc6, od6, .func (PySem.W.fnOf "so_two" "so_two" (defArgs (top 13)) (defBody (top 13)) (defScope (top 13)) .none kV6 dc6 pm6 an6 cd6 ct6), sl6⟩) (c6 : PySem.W.codeIn K cd6 "so_two" = true) (k6 : PySem.W.keepIn K (.ref f6) = true)
    (a7 : PySem.W.nsIn K mainGlobals "with_so" = some (some (.ref f7))) (l7 : K.lookup f7 = some ⟨oc7, od7, .func (PySem.W.fnOf "with_so" "with_so" (defArgs (top 14)) (defBody (top 14)) (defScope (top 14)) .none kV7 dc7 pm7 an7 cd7 ct7), sl7⟩) (c7 : PySem.W.codeIn K cd7 "with_so" = true) (k7 : PySem.W.keepIn K (.ref f7) = true)
    (a8 : PySem.W.nsIn K mainGlobals "with_both" = some (some (.ref f8))) (l8 : K.lookup f8 = some ⟨oc8, od8, .func (PySem.W.fnOf "with_both" "with_both" (defArgs (top 15)) (defBody (top 15)) (defScope (top 15)) .none kV8 dc8 pm8 an8 cd8 ct8), sl8⟩) (c8 : PySem.W.codeIn K cd8 "with_both" = true) (k8 : PySem.W.keepIn K (.ref f8) = true)
    (a9 : PySem.W.nsIn K mainGlobals "with_less" = some (some (.ref f9))) (l9 : K.lookup f9 = some ⟨oc9, od9, .func (PySem.W.fnOf "with_less" "with_less" (defArgs (top 16)) (defBody (top 16)) (defScope (top 16)) .none kV9 dc9 pm9 an9 cd9 ct9), sl9⟩) (c9 : PySem.W.codeIn K cd9 "with_less" = true) (k9 : PySem.W.keepIn K (.ref f9) = true)
    (a10 : PySem.W.nsIn K mainGlobals "with_or" = some (some (.ref f10))) (l10 : K.lookup f10 = some ⟨oc10, od10, .func (PySem.W.fnOf "with_or" "with_or" (defArgs (top 17)) (defBody (top 17)) (defScope (top 17)) .none kV10 dc10 pm10 an10 cd10 ct10), sl10⟩) (c10 : PySem.W.codeIn K cd10 "with_or" = true) (k10 : PySem.W.keepIn K (.ref f10) = true)
    (a11 : PySem.W.nsIn K mainGlobals "with_two" = some (some (.ref f11))) (l11 : K.lookup f11 = some ⟨oc11, od11, .func (PySem.W.fnOf "with_two" "with_two" (defArgs (top 18)) (defBody (top 18)) (defScope (top 18)) .none kV11 dc11 pm11 an11 cd11 ct11), sl11⟩) (c11 : PySem.W.codeIn K cd11 "with_two" = true) (k11 : PySem.W.keepIn K (.ref f11) = true)
    (a12 : PySem.W.nsIn K mainGlobals "form_of_part" = some (some (.ref f12))) (l12 : K.lookup f12 = some ⟨oc12, od12, .func (PySem.W.fnOf "form_of_part" "form_of_part" (defArgs (top 19)) (defBody (top 19)) (defScope (top 19)) .none kV12 dc12 pm12 an12 cd12 ct12), sl12⟩) (c12 : PySem.W.codeIn K cd12 "form_of_part" = true) (k12 : PySem.W.keepIn K (.ref f12) = true)
    (a13 : PySem.W.nsIn K mainGlobals "copies_of_part" = some (some (.ref f13))) (l13 : K.lookup f13 = some ⟨oc13, od13, .func (PySem.W.fnOf "copies_of_part" "copies_of_part" (defArgs (top 20)) (defBody (top 20)) (defScope (top 20)) .none kV13 dc13 pm13 an13 cd13 ct13), sl13⟩) (c13 : PySem.W.codeIn K cd13 "copies_of_part" = true) (k13 : PySem.W.keepIn K (.ref f13) = true)
    (a14 : PySem.W.nsIn K mainGlobals "form_of" = some (some (.ref f14))) (l14 : K.lookup f14 = some ⟨oc14, od14, .func (PySem.W.fnOf "form_of" "form_of" (defArgs (top 21)) (defBody (top 21)) (defScope (top 21)) .none kV14 dc14 pm14 an14 cd14 ct14), sl14⟩) (c14 : PySem.W.codeIn K cd14 "form_of" = true) (k14 : PySem.W.keepIn K (.ref f14) = true)
    (a15 : PySem.W.nsIn K mainGlobals "so_form" = some (some (.ref f15))) (l15 : K.lookup f15 = some ⟨oc15, od15, .func (PySem.W.fnOf "so_form" "so_form" (defArgs (top 22)) (defBody (top 22)) (defScope (top 22)) .none kV15 dc15 pm15 an15 cd15 ct15), sl15⟩) (c15 : PySem.W.codeIn K cd15 "so_form" = true) (k15 : PySem.W.keepIn K (.ref f15) = true)
    (a16 : PySem.W.nsIn K mainGlobals "with_form" = some (some (.ref f16))) (l16 : K.lookup f16 = some ⟨oc16, od16, .func (PySem.W.fnOf "with_form" "with_form" (defArgs (top 23)) (defBody (top 23)) (defScope (top 23)) .none kV16 dc16 pm16 an16 cd16 ct16), sl16⟩) (c16 : PySem.W.codeIn K cd16 "with_form" = true) (k16 : PySem.W.keepIn K (.ref f16) = true)
    (a17 : PySem.W.nsIn K mainGlobals "lowest" = some (some (.ref f17))) (l17 : K.lookup f17 = some ⟨oc17, od17, .func (PySem.W.fnOf "lowest" "lowest" (defArgs (top 25)) (defBody (top 25)) (defScope (top 25)) .none kV17 dc17 pm17 an17 cd17 ct17), sl17⟩) (c17 : PySem.W.codeIn K cd17 "lowest" = true) (k17 : PySem.W.keepIn K (.ref f17) = true)
    (a18 : PySem.W.nsIn K mainGlobals "claim_nodes" = some (some (.ref f18))) (l18 : K.lookup f18 = some ⟨oc18, od18, .func (PySem.W.fnOf "claim_nodes" "claim_nodes" (defArgs (top 26)) (defBody (top 26)) (defScope (top 26)) .none kV18 dc18 pm18 an18 cd18 ct18), sl18⟩) (c18 : PySem.W.codeIn K cd18 "claim_nodes" = true) (k18 : PySem.W.keepIn K (.ref f18) = true)
    (a19 : PySem.W.nsIn K mainGlobals "two_sided_number" = some (some (.ref f19))) (l19 : K.lookup f19 = some ⟨oc19, od19, .func (PySem.W.fnOf "two_sided_number" "two_sided_number" (defArgs (top 27)) (defBody (top 27)) (defScope (top 27)) .none kV19 dc19 pm19 an19 cd19 ct19), sl19⟩) (c19 : PySem.W.codeIn K cd19 "two_sided_number" = true) (k19 : PySem.W.keepIn K (.ref f19) = true)
    (a20 : PySem.W.nsIn K mainGlobals "own_number" = some (some (.ref f20))) (l20 : K.lookup f20 = some ⟨oc20, od20, .func (PySem.W.fnOf "own_number" "own_number" (defArgs (top 28)) (defBody (top 28)) (defScope (top 28)) .none kV20 dc20 pm20 an20 cd20 ct20), sl20⟩) (c20 : PySem.W.codeIn K cd20 "own_number" = true) (k20 : PySem.W.keepIn K (.ref f20) = true)
    (a21 : PySem.W.nsIn K mainGlobals "part_numbers" = some (some (.ref f21))) (l21 : K.lookup f21 = some ⟨oc21, od21, .func (PySem.W.fnOf "part_numbers" "part_numbers" (defArgs (top 29)) (defBody (top 29)) (defScope (top 29)) .none kV21 dc21 pm21 an21 cd21 ct21), sl21⟩) (c21 : PySem.W.codeIn K cd21 "part_numbers" = true) (k21 : PySem.W.keepIn K (.ref f21) = true)
    (a22 : PySem.W.nsIn K mainGlobals "worth_at" = some (some (.ref f22))) (l22 : K.lookup f22 = some ⟨oc22, od22, .func (PySem.W.fnOf "worth_at" "worth_at" (defArgs (top 30)) (defBody (top 30)) (defScope (top 30)) .none kV22 dc22 pm22 an22 cd22 ct22), sl22⟩) (c22 : PySem.W.codeIn K cd22 "worth_at" = true) (k22 : PySem.W.keepIn K (.ref f22) = true)
    (a23 : PySem.W.nsIn K mainGlobals "_law_source" = some (some (.ref f23))) (l23 : K.lookup f23 = some ⟨oc23, od23, .func (PySem.W.fnOf "_law_source" "_law_source" (defArgs (top 32)) (defBody (top 32)) (defScope (top 32)) .none kV23 dc23 pm23 an23 cd23 ct23), sl23⟩) (c23 : PySem.W.codeIn K cd23 "_law_source" = true) (k23 : PySem.W.keepIn K (.ref f23) = true)
    (a24 : PySem.W.nsIn K mainGlobals "_law_pick" = some (some (.ref f24))) (l24 : K.lookup f24 = some ⟨oc24, od24, .func (PySem.W.fnOf "_law_pick" "_law_pick" (defArgs (top 33)) (defBody (top 33)) (defScope (top 33)) .none kV24 dc24 pm24 an24 cd24 ct24), sl24⟩) (c24 : PySem.W.codeIn K cd24 "_law_pick" = true) (k24 : PySem.W.keepIn K (.ref f24) = true)
    (a25 : PySem.W.nsIn K mainGlobals "_law_of" = some (some (.ref f25))) (l25 : K.lookup f25 = some ⟨oc25, od25, .func (PySem.W.fnOf "_law_of" "_law_of" (defArgs (top 34)) (defBody (top 34)) (defScope (top 34)) .none kV25 dc25 pm25 an25 cd25 ct25), sl25⟩) (c25 : PySem.W.codeIn K cd25 "_law_of" = true) (k25 : PySem.W.keepIn K (.ref f25) = true)
    (a26 : PySem.W.nsIn K mainGlobals "_law_words" = some (some (.ref f26))) (l26 : K.lookup f26 = some ⟨oc26, od26, .func (PySem.W.fnOf "_law_words" "_law_words" (defArgs (top 35)) (defBody (top 35)) (defScope (top 35)) .none kV26 dc26 pm26 an26 cd26 ct26), sl26⟩) (c26 : PySem.W.codeIn K cd26 "_law_words" = true) (k26 : PySem.W.keepIn K (.ref f26) = true)
    (a27 : PySem.W.nsIn K mainGlobals "_law_claim" = some (some (.ref f27))) (l27 : K.lookup f27 = some ⟨oc27, od27, .func (PySem.W.fnOf "_law_claim" "_law_claim" (defArgs (top 36)) (defBody (top 36)) (defScope (top 36)) .none kV27 dc27 pm27 an27 cd27 ct27), sl27⟩) (c27 : PySem.W.codeIn K cd27 "_law_claim" = true) (k27 : PySem.W.keepIn K (.ref f27) = true)
    (a28 : PySem.W.nsIn K mainGlobals "_law_sides" = some (some (.ref f28))) (l28 : K.lookup f28 = some ⟨oc28, od28, .func (PySem.W.fnOf "_law_sides" "_law_sides" (defArgs (top 37)) (defBody (top 37)) (defScope (top 37)) .none kV28 dc28 pm28 an28 cd28 ct28), sl28⟩) (c28 : PySem.W.codeIn K cd28 "_law_sides" = true) (k28 : PySem.W.keepIn K (.ref f28) = true)
    (a29 : PySem.W.nsIn K mainGlobals "_law_nodes" = some (some (.ref f29))) (l29 : K.lookup f29 = some ⟨oc29, od29, .func (PySem.W.fnOf "_law_nodes" "_law_nodes" (defArgs (top 38)) (defBody (top 38)) (defScope (top 38)) .none kV29 dc29 pm29 an29 cd29 ct29), sl29⟩) (c29 : PySem.W.codeIn K cd29 "_law_nodes" = true) (k29 : PySem.W.keepIn K (.ref f29) = true)
    (a30 : PySem.W.nsIn K mainGlobals "_law_parts" = some (some (.ref f30))) (l30 : K.lookup f30 = some ⟨oc30, od30, .func (PySem.W.fnOf "_law_parts" "_law_parts" (defArgs (top 39)) (defBody (top 39)) (defScope (top 39)) .none kV30 dc30 pm30 an30 cd30 ct30), sl30⟩) (c30 : PySem.W.codeIn K cd30 "_law_parts" = true) (k30 : PySem.W.keepIn K (.ref f30) = true)
    (a31 : PySem.W.nsIn K mainGlobals "_law_worth" = some (some (.ref f31))) (l31 : K.lookup f31 = some ⟨oc31, od31, .func (PySem.W.fnOf "_law_worth" "_law_worth" (defArgs (top 40)) (defBody (top 40)) (defScope (top 40)) .none kV31 dc31 pm31 an31 cd31 ct31), sl31⟩) (c31 : PySem.W.codeIn K cd31 "_law_worth" = true) (k31 : PySem.W.keepIn K (.ref f31) = true)
    (a32 : PySem.W.nsIn K mainGlobals "_law_cut" = some (some (.ref f32))) (l32 : K.lookup f32 = some ⟨oc32, od32, .func (PySem.W.fnOf "_law_cut" "_law_cut" (defArgs (top 41)) (defBody (top 41)) (defScope (top 41)) .none kV32 dc32 pm32 an32 cd32 ct32), sl32⟩) (c32 : PySem.W.codeIn K cd32 "_law_cut" = true) (k32 : PySem.W.keepIn K (.ref f32) = true)
    (a33 : PySem.W.nsIn K mainGlobals "_law_point" = some (some (.ref f33))) (l33 : K.lookup f33 = some ⟨oc33, od33, .func (PySem.W.fnOf "_law_point" "_law_point" (defArgs (top 42)) (defBody (top 42)) (defScope (top 42)) .none kV33 dc33 pm33 an33 cd33 ct33), sl33⟩) (c33 : PySem.W.codeIn K cd33 "_law_point" = true) (k33 : PySem.W.keepIn K (.ref f33) = true)
    (a34 : PySem.W.nsIn K mainGlobals "_law_not" = some (some (.ref f34))) (l34 : K.lookup f34 = some ⟨oc34, od34, .func (PySem.W.fnOf "_law_not" "_law_not" (defArgs (top 43)) (defBody (top 43)) (defScope (top 43)) .none kV34 dc34 pm34 an34 cd34 ct34), sl34⟩) (c34 : PySem.W.codeIn K cd34 "_law_not" = true) (k34 : PySem.W.keepIn K (.ref f34) = true)
    (a35 : PySem.W.nsIn K mainGlobals "_law_or" = some (some (.ref f35))) (l35 : K.lookup f35 = some ⟨oc35, od35, .func (PySem.W.fnOf "_law_or" "_law_or" (defArgs (top 44)) (defBody (top 44)) (defScope (top 44)) .none kV35 dc35 pm35 an35 cd35 ct35), sl35⟩) (c35 : PySem.W.codeIn K cd35 "_law_or" = true) (k35 : PySem.W.keepIn K (.ref f35) = true)
    (a36 : PySem.W.nsIn K mainGlobals "_law_both" = some (some (.ref f36))) (l36 : K.lookup f36 = some ⟨oc36, od36, .func (PySem.W.fnOf "_law_both" "_law_both" (defArgs (top 45)) (defBody (top 45)) (defScope (top 45)) .none kV36 dc36 pm36 an36 cd36 ct36), sl36⟩) (c36 : PySem.W.codeIn K cd36 "_law_both" = true) (k36 : PySem.W.keepIn K (.ref f36) = true)
    (a37 : PySem.W.nsIn K mainGlobals "_law_less" = some (some (.ref f37))) (l37 : K.lookup f37 = some ⟨oc37, od37, .func (PySem.W.fnOf "_law_less" "_law_less" (defArgs (top 46)) (defBody (top 46)) (defScope (top 46)) .none kV37 dc37 pm37 an37 cd37 ct37), sl37⟩) (c37 : PySem.W.codeIn K cd37 "_law_less" = true) (k37 : PySem.W.keepIn K (.ref f37) = true)
    (a38 : PySem.W.nsIn K mainGlobals "_law_two" = some (some (.ref f38))) (l38 : K.lookup f38 = some ⟨oc38, od38, .func (PySem.W.fnOf "_law_two" "_law_two" (defArgs (top 47)) (defBody (top 47)) (defScope (top 47)) .none kV38 dc38 pm38 an38 cd38 ct38), sl38⟩) (c38 : PySem.W.codeIn K cd38 "_law_two" = true) (k38 : PySem.W.keepIn K (.ref f38) = true)
    (a39 : PySem.W.nsIn K mainGlobals "_law_form" = some (some (.ref f39))) (l39 : K.lookup f39 = some ⟨oc39, od39, .func (PySem.W.fnOf "_law_form" "_law_form" (defArgs (top 48)) (defBody (top 48)) (defScope (top 48)) .none kV39 dc39 pm39 an39 cd39 ct39), sl39⟩) (c39 : PySem.W.codeIn K cd39 "_law_form" = true) (k39 : PySem.W.keepIn K (.ref f39) = true)
    (a40 : PySem.W.nsIn K mainGlobals "_law_got" = some (some (.ref f40))) (l40 : K.lookup f40 = some ⟨oc40, od40, .func (PySem.W.fnOf "_law_got" "_law_got" (defArgs (top 49)) (defBody (top 49)) (defScope (top 49)) .none kV40 dc40 pm40 an40 cd40 ct40), sl40⟩) (c40 : PySem.W.codeIn K cd40 "_law_got" = true) (k40 : PySem.W.keepIn K (.ref f40) = true)
    (a41 : PySem.W.nsIn K mainGlobals "law" = some (some (.ref f41))) (l41 : K.lookup f41 = some ⟨oc41, od41, .func (PySem.W.fnOf "law" "law" (defArgs (top 50)) (defBody (top 50)) (defScope (top 50)) .none kV41 dc41 pm41 an41 cd41 ct41), sl41⟩) (c41 : PySem.W.codeIn K cd41 "law" = true) (k41 : PySem.W.keepIn K (.ref f41) = true)
    (ga0 : PySem.W.nsIn K mainGlobals "CLAIM_WORDS" = some (some (.ref g0))) (gl0 : K.lookup g0 = some o0) (gc0 : o0.cls = .type "tuple") (gd0 : o0.data = .seq it0 m0) (gv0 : Vals ((["and", "or", "so", "both", "with", "less", "same"] : List Str).map V.str) it0.toList) (gz0 : it0.size ≤ sizeLine)
    (ga1 : PySem.W.nsIn K mainGlobals "NOUGHT" = some (some (.ref g1))) (gl1 : K.lookup g1 = some o1) (gc1 : o1.cls = .type "tuple") (gd1 : o1.data = .seq it1 m1) (gv1 : Vals ((["nought"] : List Str).map V.str) it1.toList) (gz1 : it1.size ≤ sizeLine)
    (z0 : PySem.W.nsIn K mainGlobals "tuple" = some none)
    (z1 : PySem.W.nsIn K mainGlobals "range" = some none)
    (z2 : PySem.W.nsIn K mainGlobals "len" = some none)
    (z3 : PySem.W.nsIn K mainGlobals "max" = some none)
    (z4 : PySem.W.nsIn K mainGlobals "min" = some none)
    (z5 : PySem.W.nsIn K mainGlobals "abs" = some none)
    (z6 : PySem.W.nsIn K mainGlobals "dict" = some none)
    (z7 : PySem.W.nsIn K mainGlobals "zip" = some none)
    (z8 : PySem.W.nsIn K mainGlobals "int" = some none)
    (z9 : PySem.W.nsIn K mainGlobals "sum" = some none)
    (z10 : PySem.W.nsIn K mainGlobals "repr" = some none)
    (z11 : PySem.W.nsIn K mainGlobals "list" = some none)
    (xa0 : PySem.W.nsIn K mainGlobals "TooMany" = some (some (.ref C0))) (xq0 : PySem.W.excIn K C0 [.type "ValueError", .type "Exception", .type "BaseException", .type "object"] "ValueError.__new__" = true) (xk0 : PySem.W.keepIn K (.ref C0) = true) (xe0 : PySem.W.subIn K (.ref C0) (.type "BaseException") = some true) (xt0 : PySem.W.typeIn K (.ref C0) = some (.type "type")) (xi0 : PySem.W.isClsIn K C0 = true) (xs0 : PySem.W.subIn K (.ref C0) (.ref C0) = some true) : Tops K mg where
  t_sides_told := has_mk X G a1 l1 c1 k1
  t_parts_of := has_mk X G a2 l2 c2 k2
  t_so_not := has_mk X G a3 l3 c3 k3
  t_so_or := has_mk X G a4 l4 c4 k4
  t_so_both := has_mk X G a5 l5 c5 k5
  t_so_two := has_mk X G a6 l6 c6 k6
  t_with_so := has_mk X G a7 l7 c7 k7
  t_with_both := has_mk X G a8 l8 c8 k8
  t_with_less := has_mk X G a9 l9 c9 k9
  t_with_or := has_mk X G a10 l10 c10 k10
  t_with_two := has_mk X G a11 l11 c11 k11
  t_form_of_part := has_mk X G a12 l12 c12 k12
  t_copies_of_part := has_mk X G a13 l13 c13 k13
  t_form_of := has_mk X G a14 l14 c14 k14
  t_so_form := has_mk X G a15 l15 c15 k15
  t_with_form := has_mk X G a16 l16 c16 k16
  t_lowest := has_mk X G a17 l17 c17 k17
  t_claim_nodes := has_mk X G a18 l18 c18 k18
  t_two_sided_number := has_mk X G a19 l19 c19 k19
  t_own_number := has_mk X G a20 l20 c20 k20
  t_part_numbers := has_mk X G a21 l21 c21 k21
  t_worth_at := has_mk X G a22 l22 c22 k22
  t__law_source := has_mk X G a23 l23 c23 k23
  t__law_pick := has_mk X G a24 l24 c24 k24
  t__law_of := has_mk X G a25 l25 c25 k25
  t__law_words := has_mk X G a26 l26 c26 k26
  t__law_claim := has_mk X G a27 l27 c27 k27
  t__law_sides := has_mk X G a28 l28 c28 k28
  t__law_nodes := has_mk X G a29 l29 c29 k29
  t__law_parts := has_mk X G a30 l30 c30 k30
  t__law_worth := has_mk X G a31 l31 c31 k31
  t__law_cut := has_mk X G a32 l32 c32 k32
  t__law_point := has_mk X G a33 l33 c33 k33
  t__law_not := has_mk X G a34 l34 c34 k34
  t__law_or := has_mk X G a35 l35 c35 k35
  t__law_both := has_mk X G a36 l36 c36 k36
  t__law_less := has_mk X G a37 l37 c37 k37
  t__law_two := has_mk X G a38 l38 c38 k38
  t__law_form := has_mk X G a39 l39 c39 k39
  t__law_got := has_mk X G a40 l40 c40 k40
  t_law := has_mk X G a41 l41 c41 k41
  g_CLAIM_WORDS := glc_strs ["and", "or", "so", "both", "with", "less", "same"] (PySem.W.mg_of X G ga0) gl0 gc0 gd0 gv0 gz0
  g_NOUGHT := glc_strs ["nought"] (PySem.W.mg_of X G ga1) gl1 gc1 gd1 gv1 gz1
  n_tuple := PySem.W.mg_none_of X G z0
  n_range := PySem.W.mg_none_of X G z1
  n_len := PySem.W.mg_none_of X G z2
  n_max := PySem.W.mg_none_of X G z3
  n_min := PySem.W.mg_none_of X G z4
  n_abs := PySem.W.mg_none_of X G z5
  n_dict := PySem.W.mg_none_of X G z6
  n_zip := PySem.W.mg_none_of X G z7
  n_int := PySem.W.mg_none_of X G z8
  n_sum := PySem.W.mg_none_of X G z9
  n_repr := PySem.W.mg_none_of X G z10
  n_list := PySem.W.mg_none_of X G z11
  x_TooMany := exc_mk X G F.excBase_ValueError xa0 xq0 xk0 xe0 xt0 xi0 xs0
theorem fin_mk {P : Program} {w : World} {K : PySem.W.Frag} {mg : Str → Option Value} {fa : Addr} (T : Tops K mg) (hfa : mg "law" = some (.ref fa)) :
    ∃ fd : FuncData, (∀ (s : Shared) (u : Value), BindsTo s fd ⟨[u], []⟩ [("script", u)]) ∧ ∀ base : Heap, K.In base → base.Ns mainGlobals mg → LawRuns P w K mg base lawK fa fd := by
  obtain ⟨fd, h1, h2⟩ := y_law (P := P) (w := w) T hfa K00.law_true
  exact ⟨fd, h1, fun base _ _ => h2 base⟩
end K00
open PySem PySem.W PyProof.Rows
set_option maxRecDepth 100000 in
set_option maxHeartbeats 0 in
theorem PySem.Challenge.cw_worthsbetween_k00_whole_forms_part_by_pa_holds : PySem.Challenge.rw_worthsbetween_k00_whole_forms_part_by_pa.Holds := by
  w_on; o_law; k_head; (case hw => w_witness2)
  k_fill
  refine DD.law_walk (n := 63) (k := K00.lawK) (l := PySem.Challenge.rw_worthsbetween_k00_whole_forms_part_by_pa) rfl (by decide) rfl ⟨rfl, by decide, by decide, rfl⟩ (fun w h Y => PySem.W.kIn_of Y) ?F
  case F =>
    intro w mg fa h KX G hmg
    refine' K00.fin_mk (K00.tops_mk KX G ?a1 ?l1 ?c1 ?k1 ?a2 ?l2 ?c2 ?k2 ?a3 ?l3 ?c3 ?k3 ?a4 ?l4 ?c4 ?k4 ?a5 ?l5 ?c5 ?k5 ?a6 ?l6 ?c6 ?k6 ?a7 ?l7 ?c7 ?k7 ?a8 ?l8 ?c8 ?k8 ?a9 ?l9 ?c9 ?k9 ?a10 ?l10 ?c10 ?k10 ?a11 ?l11 ?c11 ?k11 ?a12 ?l12 ?c12 ?k12 ?a13 ?l13 ?c13 ?k13 ?a14 ?l14 ?c14 ?k14 ?a15 ?l15 ?c15 ?k15 ?a16 ?l16 ?c16 ?k16 ?a17 ?l17 ?c17 ?k17 ?a18 ?l18 ?c18 ?k18 ?a19 ?l19 ?c19 ?k19 ?a20 ?l20 ?c20 ?k20 ?a21 ?l21 ?c21 ?k21 ?a22 ?l22 ?c22 ?k22 ?a23 ?l23 ?c23 ?k23 ?a24 ?l24 ?c24 ?k24 ?a25 ?l25 ?c25 ?k25 ?a26 ?l26 ?c26 ?k26 ?a27 ?l27 ?c27 ?k27 ?a28 ?l28 ?c28 ?k28 ?a29 ?l29 ?c29 ?k29 ?a30 ?l30 ?c30 ?k30 ?a31 ?l31 ?c31 ?k31 ?a32 ?l32 ?c32 ?k32 ?a33 ?l33 ?c33 ?k33 ?a34 ?l34 ?c34 ?k34 ?a35 ?l35 ?c35 ?k35 ?a36 ?l36 ?c36 ?k36 ?a37 ?l37 ?c37 ?k37 ?a38 ?l38 ?c38 ?k38 ?a39 ?l39 ?c39 ?k39 ?a40 ?l40 ?c40 ?k40 ?a41 ?l41 ?c41 ?k41 ?ga0 ?gl0 ?gc0 ?gd0 ?gv0 ?gz0 ?ga1 ?gl1 ?gc1 ?gd1 ?gv1 ?gz1 ?z0 ?z1 ?z2 ?z3 ?z4 ?z5 ?z6 ?z7 ?z8 ?z9 ?z10 ?z11 ?xa0 ?xq0 ?xk0 ?xe0 ?xt0 ?xi0 ?xs0) hmg
    (case a1 => k_is)
    (case l1 => k_is)
    (case c1 => k_is)
    (case k1 => k_is)
    (case a2 => k_is)
    (case l2 => k_is)
    (case c2 => k_is)
    (case k2 => k_is)
    (case a3 => k_is)
    (case l3 => k_is)
    (case c3 => k_is)
    (case k3 => k_is)
    (case a4 => k_is)
    (case l4 => k_is)
    (case c4 => k_is)
    (case k4 => k_is)
    (case a5 => k_is)
    (case l5 => k_is)
    (case c5 => k_is)
    (case k5 => k_is)
    (case a6 => k_is)
    (case l6 => k_is)
    (case c6 => k_is)
    (case k6 => k_is)
    (case a7 => k_is)
    (case l7 => k_is)
    (case c7 => k_is)
    (case k7 => k_is)
    (case a8 => k_is)
    (case l8 => k_is)
    (case c8 => k_is)
    (case k8 => k_is)
    (case a9 => k_is)
    (case l9 => k_is)
    (case c9 => k_is)
    (case k9 => k_is)
    (case a10 => k_is)
    (case l10 => k_is)
    (case c10 => k_is)
    (case k10 => k_is)
    (case a11 => k_is)
    (case l11 => k_is)
    (case c11 => k_is)
    (case k11 => k_is)
    (case a12 => k_is)
    (case l12 => k_is)
    (case c12 => k_is)
    (case k12 => k_is)
    (case a13 => k_is)
    (case l13 => k_is)
    (case c13 => k_is)
    (case k13 => k_is)
    (case a14 => k_is)
    (case l14 => k_is)
    (case c14 => k_is)
    (case k14 => k_is)
    (case a15 => k_is)
    (case l15 => k_is)
    (case c15 => k_is)
    (case k15 => k_is)
    (case a16 => k_is)
    (case l16 => k_is)
    (case c16 => k_is)
    (case k16 => k_is)
    (case a17 => k_is)
    (case l17 => k_is)
    (case c17 => k_is)
    (case k17 => k_is)
    (case a18 => k_is)
    (case l18 => k_is)
    (case c18 => k_is)
    (case k18 => k_is)
    (case a19 => k_is)
    (case l19 => k_is)
    (case c19 => k_is)
    (case k19 => k_is)
    (case a20 => k_is)
    (case l20 => k_is)
    (case c20 => k_is)
    (case k20 => k_is)
    (case a21 => k_is)
    (case l21 => k_is)
    (case c21 => k_is)
    (case k21 => k_is)
    (case a22 => k_is)
    (case l22 => k_is)
    (case c22 => k_is)
    (case k22 => k_is)
    (case a23 => k_is)
    (case l23 => k_is)
    (case c23 => k_is)
    (case k23 => k_is)
    (case a24 => k_is)
    (case l24 => k_is)
    (case c24 => k_is)
    (case k24 => k_is)
    (case a25 => k_is)
    (case l25 => k_is)
    (case c25 => k_is)
    (case k25 => k_is)
    (case a26 => k_is)
    (case l26 => k_is)
    (case c26 => k_is)
    (case k26 => k_is)
    (case a27 => k_is)
    (case l27 => k_is)
    (case c27 => k_is)
    (case k27 => k_is)
    (case a28 => k_is)
    (case l28 => k_is)
    (case c28 => k_is)
    (case k28 => k_is)
    (case a29 => k_is)
    (case l29 => k_is)
    (case c29 => k_is)
    (case k29 => k_is)
    (case a30 => k_is)
    (case l30 => k_is)
    (case c30 => k_is)
    (case k30 => k_is)
    (case a31 => k_is)
    (case l31 => k_is)
    (case c31 => k_is)
    (case k31 => k_is)
    (case a32 => k_is)
    (case l32 => k_is)
    (case c32 => k_is)
    (case k32 => k_is)
    (case a33 => k_is)
    (case l33 => k_is)
    (case c33 => k_is)
    (case k33 => k_is)
    (case a34 => k_is)
    (case l34 => k_is)
    (case c34 => k_is)
    (case k34 => k_is)
    (case a35 => k_is)
    (case l35 => k_is)
    (case c35 => k_is)
    (case k35 => k_is)
    (case a36 => k_is)
    (case l36 => k_is)
    (case c36 => k_is)
    (case k36 => k_is)
    (case a37 => k_is)
    (case l37 => k_is)
    (case c37 => k_is)
    (case k37 => k_is)
    (case a38 => k_is)
    (case l38 => k_is)
    (case c38 => k_is)
    (case k38 => k_is)
    (case a39 => k_is)
    (case l39 => k_is)
    (case c39 => k_is)
    (case k39 => k_is)
    (case a40 => k_is)
    (case l40 => k_is)
    (case c40 => k_is)
    (case k40 => k_is)
    (case a41 => k_is)
    (case l41 => k_is)
    (case c41 => k_is)
    (case k41 => k_is)
    (case ga0 => k_is)
    (case gl0 => k_is)
    (case gc0 => rfl)
    (case gd0 => rfl)
    (case gv0 => first | exact .nil | (repeat (first | exact .nil | refine .cons ⟨_, rfl⟩ ?_)))
    (case gz0 => decide)
    (case ga1 => k_is)
    (case gl1 => k_is)
    (case gc1 => rfl)
    (case gd1 => rfl)
    (case gv1 => first | exact .nil | (repeat (first | exact .nil | refine .cons ⟨_, rfl⟩ ?_)))
    (case gz1 => decide)
    (case z0 => k_is)
    (case z1 => k_is)
    (case z2 => k_is)
    (case z3 => k_is)
    (case z4 => k_is)
    (case z5 => k_is)
    (case z6 => k_is)
    (case z7 => k_is)
    (case z8 => k_is)
    (case z9 => k_is)
    (case z10 => k_is)
    (case z11 => k_is)
    (case xa0 => k_is)
    (case xq0 => k_exc)
    (case xk0 => k_is)
    (case xe0 => k_is)
    (case xt0 => k_is)
    (case xi0 => k_is)
    (case xs0 => k_is)
