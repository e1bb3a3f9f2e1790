import Derived.Test.YtbkcllfgolmloaaDoorHO6
namespace Go.Proofs.YtbkcllfgolmloaaDoor.Pure
open Go.RowKit Go.Proofs.YtbkcllfgolmloaaDoor.X Go.Proofs.YtbkcllfgolmloaaDoorW.PrintWords Go.Proofs.YtbkcllfgolmloaaDoorW.PrintLast
set_option linter.unusedVariables false
set_option linter.unusedSimpArgs false
theorem Ev.succ {α : Type} {g : Nat → Option α} {r : α} (h : Ev (fun k => g (k + 1)) r) : Ev g r := Ev.step (fun _ => rfl) h
theorem Ev.const {α : Type} {o : Option α} {r : α} (h : o = some r) : Ev (fun _ => o) r := ⟨0, fun _ _ => h⟩
theorem w64 {n : Int} (h0 : -9223372036854775808 ≤ n) (h1 : n ≤ 9223372036854775807) : wrap64 n = n := by
 unfold wrap64; omega
theorem rd_nat (xs : List Int) (i : Nat) (h : i < xs.length) : rd xs (i : Int) = xs[i] := by
 simp [rd, List.getD_eq_getElem?_getD, h]
theorem rdOf_nat {α : Type} (d : α) (xs : List α) (i : Nat) (h : i < xs.length) : rdOf d xs (i : Int) = xs[i] := by
 simp [rdOf, List.getD_eq_getElem?_getD, h]
theorem set_take {α : Type} (l ys : List α) (i : Nat) (x : α) (hx : l[i]? = some x) (hl : ys.length = l.length) (h : ys.take i = l.take i) : (ys.set i x).take (i + 1) = l.take (i + 1) := by
 have hi : i < l.length := (List.getElem?_eq_some_iff.1 hx).1
 apply List.ext_getElem?
 intro j
 have hj := congrArg (fun z => z[j]?) h
 simp only [List.getElem?_take] at hj ⊢
 rw [List.getElem?_set]
 by_cases h1 : j < i + 1
 ·by_cases h2 : i = j
  ·subst h2
   simp only [h1, if_true]
   rw [if_pos (by omega)]
   exact hx.symm
  ·have h3 : j < i := by omega
   simp only [h1, if_true, h2, if_false, h3] at hj ⊢
   exact hj
 ·simp [h1]
theorem Ev.pos {α : Type} {c : Prop} [Decidable c] {f g : Nat → Option α} {r : α} (h : c) (k : Ev f r) : Ev (fun n => if c then f n else g n) r := by
 obtain ⟨K, k⟩ := k
 exact ⟨K, fun n hn => (if_pos h).trans (k n hn)⟩
theorem Ev.neg {α : Type} {c : Prop} [Decidable c] {f g : Nat → Option α} {r : α} (h : ¬ c) (k : Ev g r) : Ev (fun n => if c then f n else g n) r := by
 obtain ⟨K, k⟩ := k
 exact ⟨K, fun n hn => (if_neg h).trans (k n hn)⟩
theorem toInt64S_l (l : List Int) (hn : l.length ≤ 35184372088832) (d : Nat) : ∀ (i : Nat) (ys : List Int), i + d = l.length → ys.length = l.length → ys.take i = l.take i → Ev (fun k => laws_toInt64S.l0 k l ys (i : Int)) l := by
 induction d with
 | zero =>
  intro i ys hi hl ht
  apply Ev.succ
  simp only [laws_toInt64S.l0]
  refine Ev.neg (by omega) ?_
  refine Ev.const ?_
  rw [List.take_of_length_le (by omega), List.take_of_length_le (by omega)] at ht
  rw [ht]
 | succ d ih =>
  intro i ys hi hl ht
  apply Ev.succ
  simp only [laws_toInt64S.l0]
  refine Ev.pos (by omega) ?_
  refine Ev.pos (by omega) ?_
  refine Ev.pos (by omega) ?_
  rw [w64 (by omega) (by omega), Int.toNat_natCast]
  have := ih (i + 1) (ys.set i (rd l i)) (by omega) (by simp [hl]) (set_take l ys i _ (by rw [rd_nat l i (by omega)]; exact List.getElem?_eq_getElem (by omega)) hl ht)
  exact this
theorem toInt64S_ev (l : List Int) (hn : l.length ≤ 35184372088832) : Ev (fun k => laws_toInt64S.f k l) l := by
 unfold laws_toInt64S.f
 simp only [Int.toNat_natCast]
 refine Ev.pos (by omega) ?_
 refine Ev.pos hn ?_
 exact toInt64S_l l hn l.length 0 _ (by omega) (by simp) (by simp)
theorem eqInt64S_l (l : List Int) (hn : l.length ≤ 35184372088832) (d : Nat) : ∀ (i : Nat), i + d = l.length → Ev (fun k => laws_eqInt64S.l0 k l l (i : Int)) true := by
 induction d with
 | zero =>
  intro i hi
  apply Ev.succ
  simp only [laws_eqInt64S.l0]
  refine Ev.neg (by omega) ?_
  exact Ev.const rfl
 | succ d ih =>
  intro i hi
  apply Ev.succ
  simp only [laws_eqInt64S.l0]
  refine Ev.pos (by omega) ?_
  refine Ev.pos (by omega) ?_
  refine Ev.pos (by omega) ?_
  refine Ev.pos trivial ?_
  rw [w64 (by omega) (by omega)]
  exact ih (i + 1) (by omega)
theorem eqInt64S_ev (l : List Int) (hn : l.length ≤ 35184372088832) : Ev (fun k => laws_eqInt64S.f k l l) true := by
 unfold laws_eqInt64S.f
 refine Ev.pos rfl ?_
 exact eqInt64S_l l hn l.length 0 (by omega)
theorem rd4_nat (xs : List (List Int)) (i : Nat) (h : i < xs.length) : rd_L2 xs (i : Int) = xs[i] := by
 simp [rd_L2, List.getD_eq_getElem?_getD, h]
theorem toBoolS_l (l : List Bool) (hn : l.length ≤ 35184372088832) (d : Nat) : ∀ (i : Nat) (ys : List Bool), i + d = l.length → ys.length = l.length → ys.take i = l.take i → Ev (fun k => laws_toBoolS.l0 k l ys (i : Int)) l := by
 induction d with
 | zero =>
  intro i ys hi hl ht
  apply Ev.succ
  simp only [laws_toBoolS.l0]
  refine Ev.neg (by omega) ?_
  refine Ev.const ?_
  rw [List.take_of_length_le (by omega), List.take_of_length_le (by omega)] at ht
  rw [ht]
 | succ d ih =>
  intro i ys hi hl ht
  apply Ev.succ
  simp only [laws_toBoolS.l0]
  refine Ev.pos (by omega) ?_
  refine Ev.pos (by omega) ?_
  refine Ev.pos (by omega) ?_
  rw [w64 (by omega) (by omega), Int.toNat_natCast]
  have := ih (i + 1) (ys.set i (rdOf false l i)) (by omega) (by simp [hl]) (set_take l ys i _ (by rw [rdOf_nat false l i (by omega)]; exact List.getElem?_eq_getElem (by omega)) hl ht)
  exact this
theorem toBoolS_ev (l : List Bool) (hn : l.length ≤ 35184372088832) : Ev (fun k => laws_toBoolS.f k l) l := by
 unfold laws_toBoolS.f
 simp only [Int.toNat_natCast]
 refine Ev.pos (by omega) ?_
 refine Ev.pos (by omega) ?_
 exact toBoolS_l l hn l.length 0 _ (by omega) (by simp) (by simp)
theorem toInt64SS_l (l : List (List Int)) (hn : l.length ≤ 35184372088832) (hr : ∀ x ∈ l, x.length ≤ 35184372088832) (d : Nat) : ∀ (i : Nat) (ys : List (List Int)), i + d = l.length → ys.length = l.length → ys.take i = l.take i → Ev (fun k => laws_toInt64SS.l0 k l ys (i : Int)) l := by
 induction d with
 | zero =>
  intro i ys hi hl ht
  apply Ev.succ
  simp only [laws_toInt64SS.l0]
  refine Ev.neg (by omega) ?_
  refine Ev.const ?_
  rw [List.take_of_length_le (by omega), List.take_of_length_le (by omega)] at ht
  rw [ht]
 | succ d ih =>
  intro i ys hi hl ht
  apply Ev.succ
  simp only [laws_toInt64SS.l0]
  refine Ev.pos (by omega) ?_
  refine Ev.pos (by omega) ?_
  rw [rd4_nat l i (by omega)]
  refine Ev.bind (toInt64S_ev _ (hr _ (List.getElem_mem _))) ?_
  refine Ev.pos (by omega) ?_
  rw [w64 (by omega) (by omega), Int.toNat_natCast]
  exact ih (i + 1) (ys.set i l[i]) (by omega) (by simp [hl]) (set_take l ys i _ (List.getElem?_eq_getElem (by omega)) hl ht)
theorem toInt64SS_ev (l : List (List Int)) (hn : l.length ≤ 11728124029610) (hr : ∀ x ∈ l, x.length ≤ 35184372088832) : Ev (fun k => laws_toInt64SS.f k l) l := by
 unfold laws_toInt64SS.f
 simp only [Int.toNat_natCast]
 refine Ev.pos (by omega) ?_
 refine Ev.pos (by omega) ?_
 exact toInt64SS_l l (by omega) hr l.length 0 _ (by omega) (by simp) (by simp)
theorem eqBoolS_l (l : List Bool) (hn : l.length ≤ 35184372088832) (d : Nat) : ∀ (i : Nat), i + d = l.length → Ev (fun k => laws_eqBoolS.l0 k l l (i : Int)) true := by
 induction d with
 | zero =>
  intro i hi
  apply Ev.succ
  simp only [laws_eqBoolS.l0]
  refine Ev.neg (by omega) ?_
  exact Ev.const rfl
 | succ d ih =>
  intro i hi
  apply Ev.succ
  simp only [laws_eqBoolS.l0]
  refine Ev.pos (by omega) ?_
  refine Ev.pos (by omega) ?_
  refine Ev.pos (by omega) ?_
  refine Ev.neg (by simp) ?_
  rw [w64 (by omega) (by omega)]
  exact ih (i + 1) (by omega)
theorem eqBoolS_ev (l : List Bool) (hn : l.length ≤ 35184372088832) : Ev (fun k => laws_eqBoolS.f k l l) true := by
 unfold laws_eqBoolS.f
 refine Ev.pos rfl ?_
 exact eqBoolS_l l hn l.length 0 (by omega)
theorem eqInt64SS_l (l : List (List Int)) (hn : l.length ≤ 35184372088832) (hr : ∀ x ∈ l, x.length ≤ 35184372088832) (d : Nat) : ∀ (i : Nat), i + d = l.length → Ev (fun k => laws_eqInt64SS.l0 k l l (i : Int)) true := by
 induction d with
 | zero =>
  intro i hi
  apply Ev.succ
  simp only [laws_eqInt64SS.l0]
  refine Ev.neg (by omega) ?_
  exact Ev.const rfl
 | succ d ih =>
  intro i hi
  apply Ev.succ
  simp only [laws_eqInt64SS.l0]
  refine Ev.pos (by omega) ?_
  refine Ev.pos (by omega) ?_
  refine Ev.pos (by omega) ?_
  rw [rd4_nat l i (by omega)]
  refine Ev.bind (eqInt64S_ev _ (hr _ (List.getElem_mem _))) ?_
  refine Ev.pos rfl ?_
  rw [w64 (by omega) (by omega)]
  exact ih (i + 1) (by omega)
theorem eqInt64SS_ev (l : List (List Int)) (hn : l.length ≤ 35184372088832) (hr : ∀ x ∈ l, x.length ≤ 35184372088832) : Ev (fun k => laws_eqInt64SS.f k l l) true := by
 unfold laws_eqInt64SS.f
 refine Ev.pos rfl ?_
 exact eqInt64SS_l l hn hr l.length 0 (by omega)
theorem szInt64SS_l (l : List (List Int)) (hn : l.length ≤ 9223372036854775806) (hr : ∀ x ∈ l, x.length ≤ 9223372036854775807) (d : Nat) : ∀ (i a : Nat), i + d = l.length → a ≤ 1048576 →
  ∃ n : Int, Ev (fun k => laws_szInt64SS.l0 k l (a : Int) (i : Int)) n ∧ n ≤ 1048576 ∧ (0 ≤ n → ∀ j, i ≤ j → ∀ x, l[j]? = some x → x.length ≤ 1048576) := by
 induction d with
 | zero =>
  intro i a hi ha
  refine ⟨a, ?_, by omega, fun _ j hj x hx => ?_⟩
  ·apply Ev.succ
   simp only [laws_szInt64SS.l0]
   refine Ev.neg (by omega) ?_
   exact Ev.const rfl
  ·have := (List.getElem?_eq_some_iff.1 hx).1
   omega
 | succ d ih =>
  intro i a hi ha
  have hx := hr _ (List.getElem_mem (show i < l.length by omega))
  by_cases c : l[i].length ≤ a
  ·obtain ⟨n, h1, h2, h3⟩ := ih (i + 1) (a - l[i].length) (by omega) (by omega)
   refine ⟨n, ?_, h2, fun h0 j hj x hjx => ?_⟩
   ·apply Ev.succ
    simp only [laws_szInt64SS.l0]
    refine Ev.pos (by omega) ?_
    refine Ev.pos (by omega) ?_
    rw [rd4_nat l i (by omega)]
    refine Ev.bind (a := ((a - l[i].length : Nat) : Int)) ?_ ?_
    ·unfold laws_szInt64S.f
     rw [w64 (by omega) (by omega)]
     refine Ev.neg (by omega) ?_
     exact Ev.const (by congr 1; omega)
    ·refine Ev.neg (by omega) ?_
     rw [w64 (by omega) (by omega)]
     exact h1
   ·by_cases e : i = j
    ·subst e
     rw [List.getElem?_eq_getElem (by omega)] at hjx
     injection hjx with hjx
     subst hjx
     omega
    ·exact h3 h0 j (by omega) x hjx
  ·refine ⟨-1, ?_, by omega, fun h0 => by omega⟩
   apply Ev.succ
   simp only [laws_szInt64SS.l0]
   refine Ev.pos (by omega) ?_
   refine Ev.pos (by omega) ?_
   rw [rd4_nat l i (by omega)]
   refine Ev.bind (a := -1) ?_ ?_
   ·unfold laws_szInt64S.f
    rw [w64 (by omega) (by omega)]
    exact Ev.pos (by omega) (Ev.const rfl)
   ·exact Ev.pos (by omega) (Ev.const rfl)
/-- What a relation's size says: it is not negative only if its rows are short. -/
def SzOK (ac : List Bool) (ns : List (List Int)) : Prop := ac.length ≤ 1048576 ∧ ns.length ≤ 1048576 ∧ ∀ x ∈ ns, x.length ≤ 1048576
theorem szRelation_ev (t s : Int) (ac : List Bool) (ns : List (List Int)) (a : Nat) (ha : a ≤ 1048576) (h2 : ac.length ≤ 9223372036854775807) (h3 : ns.length ≤ 9223372036854775807) (hr : ∀ x ∈ ns, x.length ≤ 9223372036854775807) :
  ∃ n : Int, Ev (fun k => laws_szRelation.f k t s ac ns (a : Int)) n ∧ n ≤ 1048576 ∧ (0 ≤ n → SzOK ac ns) := by
 unfold laws_szRelation.f
 by_cases c : ac.length ≤ a
 ·by_cases c2 : ns.length ≤ a - ac.length
  ·obtain ⟨n, e1, e2, e3⟩ := szInt64SS_l ns (by omega) hr ns.length 0 (a - ac.length - ns.length) (by omega) (by omega)
   refine ⟨if n < 0 then -1 else n, ?_, by split <;> omega, fun h0 => ⟨by omega, by omega, fun x hx => ?_⟩⟩
   ·refine Ev.bind (a := ((a - ac.length : Nat) : Int)) ?_ ?_
    ·unfold laws_szBoolS.f
     rw [w64 (by omega) (by omega)]
     refine Ev.neg (by omega) ?_
     exact Ev.const (by congr 1; omega)
    ·refine Ev.neg (by omega) ?_
     refine Ev.bind (a := n) ?_ ?_
     ·unfold laws_szInt64SS.f
      rw [w64 (by omega) (by omega)]
      refine Ev.neg (by omega) ?_
      rw [show ((a - ac.length : Nat) : Int) - (ns.length : Int) = ((a - ac.length - ns.length : Nat) : Int) by omega]
      exact e1
     ·by_cases hn : n < 0
      ·simp only [if_pos hn]
       exact Ev.now _
      ·simp only [if_neg hn]
       exact Ev.now _
   ·have hn : 0 ≤ n := by
     by_cases hn : n < 0
     ·rw [if_pos hn] at h0
      omega
     ·omega
    obtain ⟨j, hj⟩ := List.mem_iff_getElem?.1 hx
    exact e3 hn j (by omega) x hj
  ·refine ⟨-1, ?_, by omega, fun h0 => by omega⟩
   refine Ev.bind (a := ((a - ac.length : Nat) : Int)) ?_ ?_
   ·unfold laws_szBoolS.f
    rw [w64 (by omega) (by omega)]
    refine Ev.neg (by omega) ?_
    exact Ev.const (by congr 1; omega)
   ·refine Ev.neg (by omega) ?_
    refine Ev.bind (a := -1) ?_ ?_
    ·unfold laws_szInt64SS.f
     rw [w64 (by omega) (by omega)]
     exact Ev.pos (by omega) (Ev.const rfl)
    ·exact Ev.pos (by omega) (Ev.const rfl)
 ·refine ⟨-1, ?_, by omega, fun h0 => by omega⟩
  refine Ev.bind (a := -1) ?_ ?_
  ·unfold laws_szBoolS.f
   rw [w64 (by omega) (by omega)]
   exact Ev.pos (by omega) (Ev.const rfl)
  ·exact Ev.pos (by omega) (Ev.const rfl)
theorem toRelation_ev (t s : Int) (ac : List Bool) (ns : List (List Int)) (h : SzOK ac ns) : Ev (fun k => laws_toRelation.f k t s ac ns) (t, s, ac, ns) := by
 unfold laws_toRelation.f
 refine Ev.bind (toBoolS_ev ac (by have := h.1; omega)) ?_
 refine Ev.bind (toInt64SS_ev ns (by have := h.2.1; omega) (fun x hx => by have := h.2.2 x hx; omega)) ?_
 exact Ev.now _
theorem eqRelation_ev (t s : Int) (ac : List Bool) (ns : List (List Int)) (h : SzOK ac ns) : Ev (fun k => laws_eqRelation.f k t s ac ns t s ac ns) true := by
 unfold laws_eqRelation.f
 refine Ev.pos rfl ?_
 refine Ev.pos rfl ?_
 refine Ev.bind (eqBoolS_ev ac (by have := h.1; omega)) ?_
 refine Ev.pos rfl ?_
 refine Ev.bind (eqInt64SS_ev ns (by have := h.2.1; omega) (fun x hx => by have := h.2.2 x hx; omega)) ?_
 exact Ev.pos rfl (Ev.now _)
theorem eqStringS_l (l : List ByteArray) (hn : l.length ≤ 35184372088832) (d : Nat) : ∀ (i : Nat), i + d = l.length → Ev (fun k => laws_eqStringS.l0 k l l (i : Int)) true := by
 induction d with
 | zero =>
  intro i hi
  apply Ev.succ
  simp only [laws_eqStringS.l0]
  refine Ev.neg (by omega) ?_
  exact Ev.const rfl
 | succ d ih =>
  intro i hi
  apply Ev.succ
  simp only [laws_eqStringS.l0]
  refine Ev.pos (by omega) ?_
  refine Ev.pos (by omega) ?_
  refine Ev.pos (by omega) ?_
  refine Ev.pos trivial ?_
  rw [w64 (by omega) (by omega)]
  exact ih (i + 1) (by omega)
theorem eqStringS_ev (l : List ByteArray) (hn : l.length ≤ 35184372088832) : Ev (fun k => laws_eqStringS.f k l l) true := by
 unfold laws_eqStringS.f
 refine Ev.pos rfl ?_
 exact eqStringS_l l hn l.length 0 (by omega)
theorem in_eq (a b c : Int) : spec_l00In.f a b c = some (decide (b ≤ a) && decide (a ≤ c)) := by
 unfold spec_l00In.f
 by_cases h : a ≥ b
 ·rw [if_pos h]; simp [h]
 ·rw [if_neg h]; simp [show ¬ b ≤ a from h]
theorem within_eq (a b c : Int) : impl_within.f a b c = some (decide (b ≤ a) && decide (a ≤ c)) := by
 unfold impl_within.f
 by_cases h : b ≤ a
 ·rw [if_pos h]; simp [h]
 ·rw [if_neg h]; simp [h]
theorem areTapes_eq (a : Int) : impl_areTapes.f a = some (decide (1 ≤ a) && decide (a ≤ 3)) := by
 unfold impl_areTapes.f
 rw [within_eq]
 rfl
def wd (n : Nat) : Nat := if n = 0 then 0 else if n = 1 then 2 else if n = 2 then 8 else 26
theorem wideS_fin : ∀ n : Fin 4, spec_l01Wide.f 10 (n.val : Int) = some ((wd n.val : Nat) : Int) := by decide +kernel
theorem wideI_fin : ∀ n : Fin 4, impl_widthOf.f 10 (n.val : Int) = some ((wd n.val : Nat) : Int) := by decide +kernel
theorem wideS_ev (n : Nat) (h : n ≤ 3) : Ev (fun k => spec_l01Wide.f k (n : Int)) ((wd n : Nat) : Int) := Ev.of (fun k => spec_l01Wide.mono _ k) (wideS_fin ⟨n, by omega⟩)
theorem wideI_ev (n : Nat) (h : n ≤ 3) : Ev (fun k => impl_widthOf.f k (n : Int)) ((wd n : Nat) : Int) := Ev.of (fun k => impl_widthOf.mono _ k) (wideI_fin ⟨n, by omega⟩)
theorem wd_le (n : Nat) (h : n ≤ 3) : wd n ≤ 26 := by
 unfold wd
 split <;> (try split) <;> (try split) <;> omega
/-- The states of a row are among n. -/
def okCells (n : Nat) (l : List Int) : Bool := l.all fun x => decide (0 ≤ x) && decide (x < n)
def okRows (w n : Nat) (ns : List (List Int)) : Bool := ns.all fun r => decide (r.length = w) && okCells n r
/-- A relation's form. -/
def okRel (t s : Int) (ac : List Bool) (ns : List (List Int)) : Bool :=
 decide (1 ≤ t) && decide (t ≤ 3) && decide (1 ≤ ac.length) && decide (ac.length ≤ 150) && decide (ns.length = ac.length) && decide (0 ≤ s) && decide (s < ac.length) && okRows (wd t.toNat) ac.length ns
theorem drop_all {α : Type} (p : α → Bool) (l : List α) (i : Nat) (h : i < l.length) : (l.drop i).all p = (p l[i] && (l.drop (i + 1)).all p) := by
 rw [List.drop_eq_getElem_cons h, List.all_cons]
theorem spec_form_l1 (t : Nat) (s : Int) (ac : List Bool) (ns : List (List Int)) (x3 : Nat) (hx3 : x3 ≤ 150) (i : Nat) (hi : i < ns.length) (hl : ns[i].length ≤ 26) (R : Bool)
  (hR : Ev (fun k => spec_l01Form.l0 k (x3 : Int) (((i : Nat) + 1 : Nat) : Int) (t : Int) s ac ns) (R, (t : Int), s)) (hni : ns.length ≤ 1048576) (d : Nat) : ∀ j, j + d = ns[i].length →
  Ev (fun k => spec_l01Form.l1 k (x3 : Int) (i : Int) (j : Int) (t : Int) s ac ns) (okCells x3 (ns[i].drop j) && R, (t : Int), s) := by
 induction d with
 | zero =>
  intro j hj
  apply Ev.succ
  simp only [spec_l01Form.l1]
  refine Ev.pos (by omega) ?_
  refine Ev.pos (by omega) ?_
  rw [rd4_nat ns i hi]
  refine Ev.neg (by omega) ?_
  rw [w64 (by omega) (by omega), List.drop_of_length_le (by omega)]
  simp only [okCells, List.all_nil, Bool.true_and]
  exact hR
 | succ d ih =>
  intro j hj
  apply Ev.succ
  simp only [spec_l01Form.l1]
  refine Ev.pos (by omega) ?_
  refine Ev.pos (by omega) ?_
  rw [rd4_nat ns i hi]
  refine Ev.pos (by omega) ?_
  refine Ev.pos (by omega) ?_
  rw [rd_nat _ _ (by omega)]
  refine Ev.bind (Ev.const (in_eq _ _ _)) ?_
  rw [show okCells x3 (ns[i].drop j) = ((decide (0 ≤ ns[i][j]) && decide (ns[i][j] < x3)) && okCells x3 (ns[i].drop (j + 1))) from drop_all _ _ _ (by omega)]
  rw [w64 (n := (x3 : Int) - 1) (by omega) (by omega)]
  rw [show decide (ns[i][j] ≤ (x3 : Int) - 1) = decide (ns[i][j] < (x3 : Int)) by apply decide_eq_decide.2; omega]
  by_cases c : (decide (0 ≤ ns[i][j]) && decide (ns[i][j] < (x3 : Int))) = true
  ·rw [c]
   refine Ev.pos (by first | rfl | trivial) ?_
   rw [w64 (by omega) (by omega)]
   simp only [Bool.true_and]
   exact ih (j + 1) (by omega)
  ·rw [Bool.not_eq_true] at c
   rw [c]
   exact Ev.neg (by simp) (Ev.const (by simp))
theorem spec_form_l0 (t : Nat) (ht : t ≤ 3) (s : Int) (ac : List Bool) (ns : List (List Int)) (x3 : Nat) (hx3 : x3 ≤ 150) (hni : ns.length ≤ 1048576) (d : Nat) : ∀ i, i + d = ns.length →
  Ev (fun k => spec_l01Form.l0 k (x3 : Int) (i : Int) (t : Int) s ac ns) (okRows (wd t) x3 (ns.drop i), (t : Int), s) := by
 induction d with
 | zero =>
  intro i hi
  apply Ev.succ
  simp only [spec_l01Form.l0]
  refine Ev.neg (by omega) ?_
  rw [List.drop_of_length_le (by omega)]
  exact Ev.const rfl
 | succ d ih =>
  intro i hi
  apply Ev.succ
  simp only [spec_l01Form.l0]
  refine Ev.pos (by omega) ?_
  refine Ev.pos (by omega) ?_
  rw [rd4_nat ns i (by omega)]
  refine Ev.bind (wideS_ev t ht) ?_
  rw [show okRows (wd t) x3 (ns.drop i) = ((decide (ns[i].length = wd t) && okCells x3 ns[i]) && okRows (wd t) x3 (ns.drop (i + 1))) from drop_all _ _ _ (by omega)]
  have := wd_le t ht
  by_cases c : ns[i].length = wd t
  ·refine Ev.pos (by omega) ?_
   have h := spec_form_l1 t s ac ns x3 hx3 i (by omega) (by omega) _ (ih (i + 1) (by omega)) hni ns[i].length 0 (by omega)
   rw [List.drop_zero] at h
   simp only [c, decide_true, Bool.true_and]
   exact h
  ·refine Ev.neg (by omega) ?_
   simp only [c, decide_false, Bool.false_and]
   exact Ev.const rfl
theorem spec_ok_ev (t s : Int) (ac : List Bool) (ns : List (List Int)) (h : SzOK ac ns) : Ev (fun k => spec_l01Ok.f k t s ac ns) (okRel t s ac ns, t, s) := by
 unfold spec_l01Ok.f
 have h1 := h.1
 by_cases c : ac.length ≤ 150
 ·refine Ev.pos (by omega) ?_
  refine Ev.bind (a := (okRel t s ac ns, t, s)) ?_ (Ev.now _)
  unfold spec_l01Form.f
  refine Ev.bind (Ev.const (in_eq _ _ _)) ?_
  by_cases ct : 1 ≤ t ∧ t ≤ 3
  ·obtain ⟨n, rfl⟩ : ∃ n : Nat, t = n := ⟨t.toNat, by omega⟩
   simp only [show decide ((1 : Int) ≤ n) = true by simpa using ct.1, show decide ((n : Int) ≤ 3) = true by simpa using ct.2, Bool.true_and]
   refine Ev.pos (by first | rfl | trivial) ?_
   by_cases c1 : ac.length < 1
   ·refine Ev.pos (by omega) ?_
    apply Ev.succ
    simp only [spec_l01Form.j0]
    refine Ev.pos (by first | rfl | trivial) ?_
    refine Ev.const ?_
    simp [okRel, show ¬ 1 ≤ ac.length by omega]
   ·refine Ev.neg (by omega) ?_
    refine Ev.bind (Ev.const (in_eq _ _ _)) ?_
    rw [w64 (n := (ac.length : Int) - 1) (by omega) (by omega)]
    by_cases cs : 0 ≤ s ∧ s < ac.length
    ·simp only [show decide ((0 : Int) ≤ s) = true by simpa using cs.1, show decide (s ≤ (ac.length : Int) - 1) = true from decide_eq_true (by omega), Bool.true_and]
     refine Ev.pos (by first | rfl | trivial) ?_
     apply Ev.succ
     simp only [spec_l01Form.j0]
     by_cases cn : ns.length = ac.length
     ·refine Ev.neg (by simp [cn]) ?_
      have h0 := spec_form_l0 n (by omega) s ac ns ac.length c (by have := h.2.1; omega) ns.length 0 (by omega)
      rw [List.drop_zero] at h0
      have e : okRel (n : Int) s ac ns = okRows (wd n) ac.length ns := by
       simp only [okRel, Int.toNat_natCast]
       simp only [show decide ((1 : Int) ≤ n) = true by simpa using ct.1, show decide ((n : Int) ≤ 3) = true by simpa using ct.2, show decide (1 ≤ ac.length) = true from decide_eq_true (by omega), show decide (ac.length ≤ 150) = true from decide_eq_true c, cn, show decide ((0 : Int) ≤ s) = true by simpa using cs.1, show decide (s < (ac.length : Int)) = true from decide_eq_true cs.2, decide_true, Bool.true_and]
      rw [e]
      exact h0
     ·refine Ev.pos (by simpa using fun e => cn (by omega)) ?_
      refine Ev.const ?_
      simp [okRel, cn]
    ·refine Ev.neg ?_ ?_
     ·intro e
      rw [Bool.and_eq_true, decide_eq_true_eq, decide_eq_true_eq] at e
      exact cs ⟨e.1, by omega⟩
     ·apply Ev.succ
      simp only [spec_l01Form.j0]
      refine Ev.pos (by first | rfl | trivial) ?_
      refine Ev.const ?_
      have : (decide (0 ≤ s) && decide (s < (ac.length : Int))) = false := by
       rw [Bool.eq_false_iff]
       intro e
       rw [Bool.and_eq_true, decide_eq_true_eq, decide_eq_true_eq] at e
       exact cs e
      congr 2
      simp only [okRel]
      rcases Bool.and_eq_false_iff.1 this with e | e <;> rw [e] <;> simp
  ·have e : (decide (1 ≤ t) && decide (t ≤ 3)) = false := by
    rw [Bool.eq_false_iff]
    intro e
    rw [Bool.and_eq_true, decide_eq_true_eq, decide_eq_true_eq] at e
    exact ct e
   rw [e]
   refine Ev.neg (by simp) ?_
   apply Ev.succ
   simp only [spec_l01Form.j0]
   refine Ev.pos (by first | rfl | trivial) ?_
   refine Ev.const ?_
   simp [okRel, e]
 ·refine Ev.neg (by omega) ?_
  refine Ev.const ?_
  simp [okRel, c]
theorem impl_l1 (t : Nat) (s : Int) (ac : List Bool) (ns : List (List Int)) (x3 : Nat) (hx3 : x3 ≤ 150) (i : Nat) (hni : i < 1048576) (l : List Int) (hl : l.length ≤ 26) (R : Bool)
  (hR : Ev (fun k => impl_ValidRelation.l0 k (x3 : Int) ns (ns.length : Int) (((i : Nat) + 1 : Nat) : Int) (t : Int) s ac ns) R) (d : Nat) : ∀ j, j + d = l.length →
  Ev (fun k => impl_ValidRelation.l1 k (x3 : Int) ns (ns.length : Int) (i : Int) l (l.length : Int) (j : Int) (t : Int) s ac ns) (okCells x3 (l.drop j) && R) := by
 induction d with
 | zero =>
  intro j hj
  apply Ev.succ
  simp only [impl_ValidRelation.l1]
  refine Ev.neg (by omega) ?_
  rw [w64 (by omega) (by omega), List.drop_of_length_le (by omega)]
  simp only [okCells, List.all_nil, Bool.true_and]
  exact hR
 | succ d ih =>
  intro j hj
  apply Ev.succ
  simp only [impl_ValidRelation.l1]
  refine Ev.pos (by omega) ?_
  refine Ev.pos (by omega) ?_
  refine Ev.pos (by omega) ?_
  rw [rd_nat _ _ (by omega)]
  refine Ev.bind (Ev.const (within_eq _ _ _)) ?_
  rw [show okCells x3 (l.drop j) = ((decide (0 ≤ l[j]) && decide (l[j] < x3)) && okCells x3 (l.drop (j + 1))) from drop_all _ _ _ (by omega)]
  rw [w64 (n := (x3 : Int) - 1) (by omega) (by omega)]
  rw [show decide (l[j] ≤ (x3 : Int) - 1) = decide (l[j] < (x3 : Int)) by apply decide_eq_decide.2; omega]
  by_cases c : (decide (0 ≤ l[j]) && decide (l[j] < (x3 : Int))) = true
  ·rw [c]
   refine Ev.pos (by first | rfl | trivial) ?_
   rw [w64 (by omega) (by omega)]
   simp only [Bool.true_and]
   exact ih (j + 1) (by omega)
  ·rw [Bool.not_eq_true] at c
   rw [c]
   exact Ev.neg (by simp) (Ev.const (by simp))
theorem impl_l0 (t : Nat) (ht : t ≤ 3) (s : Int) (ac : List Bool) (ns : List (List Int)) (x3 : Nat) (hx3 : x3 ≤ 150) (hni : ns.length ≤ 1048576) (d : Nat) : ∀ i, i + d = ns.length →
  Ev (fun k => impl_ValidRelation.l0 k (x3 : Int) ns (ns.length : Int) (i : Int) (t : Int) s ac ns) (okRows (wd t) x3 (ns.drop i)) := by
 induction d with
 | zero =>
  intro i hi
  apply Ev.succ
  simp only [impl_ValidRelation.l0]
  refine Ev.neg (by omega) ?_
  rw [List.drop_of_length_le (by omega)]
  exact Ev.const rfl
 | succ d ih =>
  intro i hi
  apply Ev.succ
  simp only [impl_ValidRelation.l0]
  refine Ev.pos (by omega) ?_
  refine Ev.pos (by omega) ?_
  refine Ev.pos (by omega) ?_
  rw [rd4_nat ns i (by omega)]
  refine Ev.bind (wideI_ev t ht) ?_
  rw [show okRows (wd t) x3 (ns.drop i) = ((decide (ns[i].length = wd t) && okCells x3 ns[i]) && okRows (wd t) x3 (ns.drop (i + 1))) from drop_all _ _ _ (by omega)]
  have := wd_le t ht
  by_cases c : ns[i].length = wd t
  ·refine Ev.pos (by omega) ?_
   have h := impl_l1 t s ac ns x3 hx3 i (by omega) ns[i] (by omega) _ (ih (i + 1) (by omega)) ns[i].length 0 (by omega)
   rw [List.drop_zero] at h
   simp only [c, decide_true, Bool.true_and]
   rw [c] at h
   exact h
  ·refine Ev.neg (by omega) ?_
   simp only [c, decide_false, Bool.false_and]
   exact Ev.const rfl
theorem impl_ValidRelation_ev (t s : Int) (ac : List Bool) (ns : List (List Int)) (h : SzOK ac ns) : Ev (fun k => impl_ValidRelation.f k t s ac ns) (okRel t s ac ns) := by
 have hj0 : ∀ n : Int, Ev (fun k => impl_ValidRelation.j0 k n true t s ac ns) false := fun n => by
  apply Ev.succ
  simp only [impl_ValidRelation.j0]
  exact Ev.pos (by first | rfl | trivial) (Ev.const rfl)
 have h1 := h.1
 unfold impl_ValidRelation.f
 refine Ev.bind (Ev.const (areTapes_eq _)) ?_
 by_cases ct : 1 ≤ t ∧ t ≤ 3
 ·obtain ⟨n, rfl⟩ : ∃ n : Nat, t = n := ⟨t.toNat, by omega⟩
  simp only [show decide ((1 : Int) ≤ n) = true by simpa using ct.1, show decide ((n : Int) ≤ 3) = true by simpa using ct.2, Bool.true_and]
  refine Ev.pos (by first | rfl | trivial) ?_
  refine Ev.bind (Ev.const (within_eq _ _ _)) ?_
  by_cases c1 : 1 ≤ ac.length ∧ ac.length ≤ 150
  ·refine Ev.pos (by simp; omega) ?_
   by_cases cn : ns.length = ac.length
   ·refine Ev.pos (by omega) ?_
    refine Ev.bind (Ev.const (within_eq _ _ _)) ?_
    rw [w64 (n := (ac.length : Int) - 1) (by omega) (by omega)]
    by_cases cs : 0 ≤ s ∧ s < ac.length
    ·simp only [show decide ((0 : Int) ≤ s) = true by simpa using cs.1, show decide (s ≤ (ac.length : Int) - 1) = true from decide_eq_true (by omega), Bool.true_and, Bool.not_true]
     apply Ev.succ
     simp only [impl_ValidRelation.j0]
     refine Ev.neg (by simp) ?_
     have h0 := impl_l0 n (by omega) s ac ns ac.length c1.2 (by have := h.2.1; omega) ns.length 0 (by omega)
     rw [List.drop_zero] at h0
     have e : okRel (n : Int) s ac ns = okRows (wd n) ac.length ns := by
      simp only [okRel, Int.toNat_natCast]
      simp only [show decide ((1 : Int) ≤ n) = true by simpa using ct.1, show decide ((n : Int) ≤ 3) = true by simpa using ct.2, show decide (1 ≤ ac.length) = true from decide_eq_true (by omega), show decide (ac.length ≤ 150) = true from decide_eq_true c1.2, cn, show decide ((0 : Int) ≤ s) = true by simpa using cs.1, show decide (s < (ac.length : Int)) = true from decide_eq_true cs.2, decide_true, Bool.true_and]
     rw [e]
     exact h0
    ·have e1 : (decide (0 ≤ s) && decide (s ≤ (ac.length : Int) - 1)) = false := by
      rw [Bool.eq_false_iff]
      intro e
      rw [Bool.and_eq_true, decide_eq_true_eq, decide_eq_true_eq] at e
      exact cs ⟨e.1, by omega⟩
     have e2 : (decide (0 ≤ s) && decide (s < (ac.length : Int))) = false := by
      rw [Bool.eq_false_iff]
      intro e
      rw [Bool.and_eq_true, decide_eq_true_eq, decide_eq_true_eq] at e
      exact cs e
     have e : okRel (n : Int) s ac ns = false := by
      simp only [okRel]
      rcases Bool.and_eq_false_iff.1 e2 with e | e <;> rw [e] <;> simp
     rw [e1, e]
     exact hj0 _
   ·refine Ev.neg (by omega) ?_
    have e : okRel (n : Int) s ac ns = false := by simp [okRel, cn]
    rw [e]
    exact hj0 _
  ·refine Ev.neg ?_ ?_
   ·intro e
    rw [Bool.and_eq_true, decide_eq_true_eq, decide_eq_true_eq] at e
    exact c1 ⟨by omega, by omega⟩
   ·have e : okRel (n : Int) s ac ns = false := by
     simp only [okRel]
     by_cases c2 : 1 ≤ ac.length
     ·simp [show ¬ ac.length ≤ 150 from fun h => c1 ⟨c2, h⟩]
     ·simp [c2]
    rw [e]
    exact hj0 _
 ·have e : (decide (1 ≤ t) && decide (t ≤ 3)) = false := by
   rw [Bool.eq_false_iff]
   intro e
   rw [Bool.and_eq_true, decide_eq_true_eq, decide_eq_true_eq] at e
   exact ct e
  rw [e]
  refine Ev.neg (by simp) ?_
  have e : okRel t s ac ns = false := by simp [okRel, e]
  rw [e]
  exact hj0 _
/-- What a valid relation gives. -/
theorem okRel_parts {t s : Int} {ac : List Bool} {ns : List (List Int)} (h : okRel t s ac ns = true) : ∃ n : Nat, t = (n : Int) ∧ 1 ≤ n ∧ n ≤ 3 ∧ 1 ≤ ac.length ∧ ac.length ≤ 150 ∧ 0 ≤ s ∧ s < (ac.length : Int) ∧ TableOK (wd n) ac.length ns := by
 simp only [okRel, Bool.and_eq_true, decide_eq_true_eq] at h
 obtain ⟨⟨⟨⟨⟨⟨⟨h1, h2⟩, h3⟩, h4⟩, h5⟩, h6⟩, h7⟩, h8⟩ := h
 refine ⟨t.toNat, by omega, by omega, by omega, h3, h4, h6, h7, h5, fun row hrow => ?_⟩
 simp only [okRows, List.all_eq_true, Bool.and_eq_true, decide_eq_true_eq, okCells] at h8
 have := h8 row hrow
 exact ⟨this.1, fun x hx => this.2 x hx⟩
theorem clone_eq (l : List Bool) (h : l.length ≤ 1000000000) : slices_Clone_bool_bool.f l = some l := by
 unfold slices_Clone_bool_bool.f; simp; exact h
theorem machineOf_l0 (t s : Int) (ac : List Bool) (ns : List (List Int)) (hl : ns.length ≤ 1048576) (hr : ∀ x ∈ ns, x.length ≤ 1048576) (d : Nat) : ∀ i : Nat, i + d = ns.length → Ev (fun k => impl_machineOf.l0 k ns (ns.length : Int) (i : Int) t s ac (ns.take i)) (t, s, ac, ns) := by
 induction d with
 | zero =>
  intro i hi
  apply Ev.succ
  simp only [impl_machineOf.l0]
  refine Ev.neg (by omega) (Ev.const ?_)
  rw [List.take_of_length_le (by omega)]
 | succ d ih =>
  intro i hi
  apply Ev.succ
  simp only [impl_machineOf.l0]
  refine Ev.pos (by omega) (Ev.pos (by omega) (Ev.pos (by omega) ?_))
  rw [rd4_nat ns i (by omega)]
  have hri := hr _ (List.getElem_mem (show i < ns.length by omega))
  have inner : ∀ (e j : Nat), j + e = ns[i].length → Ev (fun k => impl_machineOf.l1 k (ns[i].take j) ns (ns.length : Int) (i : Int) ns[i] (ns[i].length : Int) (j : Int) t s ac (ns.take i)) (t, s, ac, ns) := by
   intro e
   induction e with
   | zero =>
    intro j hj
    apply Ev.succ
    simp only [impl_machineOf.l1]
    refine Ev.neg (by omega) (Ev.pos (by simp; omega) ?_)
    rw [w64 (by omega) (by omega), show ns[i].take j = ns[i] from List.take_of_length_le (by omega), List.take_append_getElem (show i < ns.length by omega)]
    exact ih (i + 1) (by omega)
   | succ e ihe =>
    intro j hj
    apply Ev.succ
    simp only [impl_machineOf.l1]
    refine Ev.pos (by omega) (Ev.pos (by omega) (Ev.pos (by omega) (Ev.pos (by simp; omega) ?_)))
    rw [w64 (by omega) (by omega), rd_nat _ _ (by omega), List.take_append_getElem (by omega)]
    exact ihe (j + 1) (by omega)
  exact inner ns[i].length 0 (by omega)
theorem machineOf_ev (t s : Int) (ac : List Bool) (ns : List (List Int)) (h : SzOK ac ns) : Ev (fun k => impl_machineOf.f k t s ac ns) (t, s, ac, ns) := by
 unfold impl_machineOf.f
 exact Ev.bind (Ev.const (clone_eq ac (by have := h.1; omega))) (machineOf_l0 t s ac ns h.2.1 h.2.2 ns.length 0 (by omega))
def wordB (s : ByteArray) : Bool := decide (s.size ≤ 40) && s.data.toList.all (fun c => c == 97 || c == 98)
theorem bt_get (s : ByteArray) (i : Nat) (h : i < s.size) : bt s (i : Int) = ((s.data.toList[i]'(by simpa using h)).toNat : Int) := by
 unfold bt
 rw [dif_pos (by simpa using h)]
 rfl
theorem byte_97 (c : UInt8) : ((c.toNat : Int) = 97) ↔ (c == 97) = true := by
 rw [beq_iff_eq, ← UInt8.toNat_inj]
 show _ ↔ c.toNat = 97
 omega
theorem byte_98 (c : UInt8) : ((c.toNat : Int) = 98) ↔ (c == 98) = true := by
 rw [beq_iff_eq, ← UInt8.toNat_inj]
 show _ ↔ c.toNat = 98
 omega
theorem word_l0 (s : ByteArray) (hs : s.size ≤ 1000000000000) (d : Nat) : ∀ i : Nat, i + d = s.size → Ev (fun k => spec_l01Word.l0 k s (i : Int)) (decide (s.size ≤ 40) && (s.data.toList.drop i).all (fun c => c == 97 || c == 98)) := by
 induction d with
 | zero =>
  intro i hi
  apply Ev.succ
  simp only [spec_l01Word.l0]
  refine Ev.neg (by omega) (Ev.const ?_)
  rw [List.drop_of_length_le (by simp; omega)]
  simp
  omega
 | succ d ih =>
  intro i hi
  apply Ev.succ
  simp only [spec_l01Word.l0]
  have hl : i < s.data.toList.length := by simp; omega
  refine Ev.pos (by omega) (Ev.pos (by omega) ?_)
  rw [bt_get s i (by omega), w64 (by omega) (by omega), List.drop_eq_getElem_cons hl, List.all_cons]
  generalize hc : s.data.toList[i] = c
  by_cases c1 : (c == 97) = true
  ·refine Ev.pos ((byte_97 c).2 c1) ?_
   rw [c1]
   exact ih (i + 1) (by omega)
  ·refine Ev.neg (fun h => c1 ((byte_97 c).1 h)) ?_
   by_cases c2 : (c == 98) = true
   ·refine Ev.pos ((byte_98 c).2 c2) ?_
    rw [c2]
    simp only [Bool.or_true, Bool.true_and]
    exact ih (i + 1) (by omega)
   ·refine Ev.neg (fun h => c2 ((byte_98 c).1 h)) (Ev.const ?_)
    simp [c1, c2]
theorem word_ev (s : ByteArray) (hs : s.size ≤ 1000000000000) : Ev (fun k => spec_l01Word.f k s) (wordB s) := word_l0 s hs s.size 0 (by omega)
theorem dropWhile_nil {α : Type} (p : α → Bool) : ∀ l : List α, l.dropWhile p = [] ↔ ∀ x ∈ l, p x = true := by
 intro l
 induction l with
 | nil => simp
 | cons a l ih =>
  by_cases c : p a = true
  ·rw [List.dropWhile_cons_of_pos c, ih]
   simp [c]
  ·rw [List.dropWhile_cons_of_neg c]
   simp [c]
theorem takeWhile_all {α : Type} (p : α → Bool) : ∀ (l : List α) (x : α), x ∈ l.takeWhile p → p x = true := by
 intro l
 induction l with
 | nil => intro x h; simp at h
 | cons a l ih =>
  intro x h
  by_cases c : p a = true
  ·rw [List.takeWhile_cons_of_pos c] at h
   rcases List.mem_cons.1 h with rfl | h
   ·exact c
   ·exact ih x h
  ·rw [List.takeWhile_cons_of_neg c] at h
   simp at h
theorem all_ab (l : List UInt8) : Lib.trimS l [97, 98] = [] ↔ l.all (fun c => c == 97 || c == 98) = true := by
 have hp : (fun c : UInt8 => [97, 98].contains c) = (fun c => c == 97 || c == 98) := by funext c; simp; rfl
 unfold Lib.trimS Lib.trimLeftS Lib.trimRightS
 rw [dropWhile_nil, show (fun x : UInt8 => List.contains [97, 98] x) = (fun c => c == 97 || c == 98) from hp]
 constructor
 ·intro h
  rw [List.all_eq_true]
  intro x hx
  by_cases hin : x ∈ (l.reverse.dropWhile (fun c => c == 97 || c == 98)).reverse
  ·have q_ := h x hin; rw [show [97, 98].contains x = (x == 97 || x == 98) from congrFun hp x] at q_; exact q_
  ·have hx' : x ∈ l.reverse := List.mem_reverse.2 hx
   rw [← List.takeWhile_append_dropWhile (p := fun c : UInt8 => c == 97 || c == 98) (l := l.reverse)] at hx'
   rcases List.mem_append.1 hx' with h1 | h1
   ·exact takeWhile_all (fun c : UInt8 => c == 97 || c == 98) l.reverse x h1
   ·exact absurd (List.mem_reverse.2 h1) hin
 ·intro h x hx
  have hx' := (List.dropWhile_sublist _).mem (List.mem_reverse.1 hx)
  rw [show [97, 98].contains x = (x == 97 || x == 98) from congrFun hp x]; exact List.all_eq_true.1 h x (List.mem_reverse.1 hx')
theorem validWord_ev (s : ByteArray) (hs : s.size ≤ 1000000000000) : impl_ValidWord.f s = some (wordB s) := by
 unfold impl_ValidWord.f wordB
 by_cases c : s.size ≤ 40
 ·rw [if_pos (by omega), decide_eq_true c, Bool.true_and]
  unfold strings_Trim.f
  rw [if_pos ⟨by omega, by decide, by decide⟩]
  simp only [Option.bind_some, Option.some.injEq]
  have h := all_ab s.data.toList
  show (((⟨(Lib.trimS s.data.toList [97, 98]).toArray⟩ : ByteArray).toList == []) = _)
  rw [Bool.eq_iff_iff, ← h, beq_iff_eq, Lib.toList_data]
 ·rw [if_neg (by omega), decide_eq_false c, Bool.false_and]
theorem words_l0 (ws : List ByteArray) (hl : ws.length ≤ 1000000000000) (hs : ∀ s ∈ ws, s.size ≤ 1000000000000) (d : Nat) : ∀ i : Nat, i + d = ws.length → Ev (fun k => spec_l01Words.l0 k ws (i : Int)) ((ws.drop i).all wordB) := by
 induction d with
 | zero =>
  intro i hi
  apply Ev.succ
  simp only [spec_l01Words.l0]
  refine Ev.neg (by omega) (Ev.const ?_)
  rw [List.drop_of_length_le (by omega)]
  rfl
 | succ d ih =>
  intro i hi
  apply Ev.succ
  simp only [spec_l01Words.l0]
  refine Ev.pos (by omega) (Ev.pos (by omega) ?_)
  rw [rdOf_nat _ ws i (by omega), w64 (by omega) (by omega), List.drop_eq_getElem_cons (show i < ws.length by omega), List.all_cons]
  refine Ev.bind (word_ev _ (hs _ (List.getElem_mem (by omega)))) ?_
  cases e : wordB ws[i] with
  | true => exact Ev.pos rfl (ih (i + 1) (by omega))
  | false => exact Ev.neg (by simp) (Ev.now _)
theorem words_ev (ws : List ByteArray) (hl : ws.length ≤ 1000000000000) (hs : ∀ s ∈ ws, s.size ≤ 1000000000000) : Ev (fun k => spec_l01Words.f k ws) (ws.all wordB) := words_l0 ws hl hs ws.length 0 (by omega)
theorem areWords_l0 (ws : List ByteArray) (hl : ws.length ≤ 1000000000000) (hs : ∀ s ∈ ws, s.size ≤ 1000000000000) (d : Nat) : ∀ i : Nat, i + d = ws.length → Ev (fun k => impl_areWords.l0 k ws (ws.length : Int) (i : Int)) ((ws.drop i).all wordB) := by
 induction d with
 | zero =>
  intro i hi
  apply Ev.succ
  simp only [impl_areWords.l0]
  refine Ev.neg (by omega) (Ev.const ?_)
  rw [List.drop_of_length_le (by omega)]
  rfl
 | succ d ih =>
  intro i hi
  apply Ev.succ
  simp only [impl_areWords.l0]
  refine Ev.pos (by omega) (Ev.pos (by omega) (Ev.pos (by omega) ?_))
  rw [rdOf_nat _ ws i (by omega), w64 (by omega) (by omega), List.drop_eq_getElem_cons (show i < ws.length by omega), List.all_cons, validWord_ev _ (hs _ (List.getElem_mem (by omega)))]
  simp only [Option.bind_some]
  cases e : wordB ws[i] with
  | true => exact Ev.pos rfl (ih (i + 1) (by omega))
  | false => exact Ev.neg (by simp) (Ev.now _)
theorem areWords_ev (ws : List ByteArray) (hl : ws.length ≤ 1000000000000) (hs : ∀ s ∈ ws, s.size ≤ 1000000000000) : Ev (fun k => impl_areWords.f k ws) (ws.all wordB) := areWords_l0 ws hl hs ws.length 0 (by omega)
/-- What a word has in column i. -/
def dgt (w : ByteArray) (i : Nat) : Int := if i < w.size then bt w (i : Int) - 97 else 2
def colL : List Int → Int
 | [] => 0
 | d :: ds => d + 3 * colL ds
def colAt (ws : List ByteArray) (i : Nat) : Int := colL (ws.map fun w => dgt w i)
def longest : List ByteArray → Nat
 | [] => 0
 | w :: ws => max w.size (longest ws)
def colsL (ws : List ByteArray) : List Int := (List.range (longest ws)).map (colAt ws)
theorem longest_le {ws : List ByteArray} {N : Nat} (h : ∀ w ∈ ws, w.size ≤ N) : longest ws ≤ N := by
 induction ws with
 | nil => simp [longest]
 | cons w ws ih =>
  have h1 := h w (by simp)
  have h2 := ih (fun x hx => h x (List.mem_cons_of_mem _ hx))
  simp only [longest]
  omega
theorem longest_any (ws : List ByteArray) (i : Nat) : (i < longest ws) ↔ ∃ w ∈ ws, i < w.size := by
 induction ws with
 | nil => simp [longest]
 | cons w ws ih =>
  simp only [longest, List.mem_cons, exists_eq_or_imp, ← ih]
  omega
theorem wordB_get {w : ByteArray} (h : wordB w = true) : w.size ≤ 40 ∧ ∀ i : Nat, i < w.size → bt w (i : Int) = 97 ∨ bt w (i : Int) = 98 := by
 simp only [wordB, Bool.and_eq_true, decide_eq_true_eq, List.all_eq_true, Bool.or_eq_true] at h
 refine ⟨h.1, fun i hi => ?_⟩
 rw [bt_get w i hi]
 rcases h.2 _ (List.getElem_mem (show i < w.data.toList.length by simpa using hi)) with c | c
 ·exact .inl ((byte_97 _).2 c)
 ·exact .inr ((byte_98 _).2 c)
theorem dgt_range {w : ByteArray} (h : wordB w = true) (i : Nat) : 0 ≤ dgt w i ∧ dgt w i ≤ 2 ∧ (i < w.size → dgt w i ≤ 1) := by
 unfold dgt
 obtain ⟨_, hb⟩ := wordB_get h
 split
 ·next hi => rcases hb i hi with e | e <;> rw [e] <;> omega
 ·exact ⟨by omega, by omega, fun h => by omega⟩
theorem colL_range : ∀ ds : List Int, (∀ d ∈ ds, 0 ≤ d ∧ d ≤ 2) → 0 ≤ colL ds ∧ colL ds ≤ 3 ^ ds.length - 1 := by
 intro ds
 induction ds with
 | nil => intro _; simp [colL]
 | cons d ds ih =>
  intro h
  have h1 := h d (by simp)
  have h2 := ih (fun x hx => h x (List.mem_cons_of_mem _ hx))
  simp only [colL, List.length_cons, Int.pow_succ]
  omega
theorem colL_lt : ∀ ds : List Int, (∀ d ∈ ds, 0 ≤ d ∧ d ≤ 2) → (∃ d ∈ ds, d ≤ 1) → colL ds ≤ 3 ^ ds.length - 2 := by
 intro ds
 induction ds with
 | nil => intro _ h; obtain ⟨d, hd, _⟩ := h; cases hd
 | cons d ds ih =>
  intro h hx
  have h1 := h d (by simp)
  have h2 := colL_range ds (fun x hx => h x (List.mem_cons_of_mem _ hx))
  simp only [colL, List.length_cons, Int.pow_succ]
  obtain ⟨e, he, h3⟩ := hx
  rcases List.mem_cons.1 he with rfl | he
  ·omega
  ·have := ih (fun x hx => h x (List.mem_cons_of_mem _ hx)) ⟨e, he, h3⟩
   omega
theorem digits_ok {ws : List ByteArray} (h : ∀ w ∈ ws, wordB w = true) (i : Nat) : ∀ d ∈ ws.map (fun w => dgt w i), 0 ≤ d ∧ d ≤ 2 := by
 intro d hd
 obtain ⟨w, hw, rfl⟩ := List.mem_map.1 hd
 exact ⟨(dgt_range (h w hw) i).1, (dgt_range (h w hw) i).2.1⟩
theorem colAt_range {ws : List ByteArray} (h : ∀ w ∈ ws, wordB w = true) {i : Nat} (hi : i < longest ws) : 0 ≤ colAt ws i ∧ colAt ws i ≤ 3 ^ ws.length - 2 := by
 have h1 := digits_ok h i
 refine ⟨(colL_range _ h1).1, ?_⟩
 obtain ⟨w, hw, hlt⟩ := (longest_any ws i).1 hi
 have := colL_lt _ h1 ⟨dgt w i, List.mem_map.2 ⟨w, hw, rfl⟩, (dgt_range (h w hw) i).2.2 hlt⟩
 simpa [colAt] using this
theorem pow_fin : ∀ n : Fin 4, spec_l01Power.f 10 (n.val : Int) = some (3 ^ n.val) := by decide +kernel
theorem pow_ev (n : Nat) (h : n ≤ 3) : Ev (fun k => spec_l01Power.f k (n : Int)) (3 ^ n) := Ev.of (fun k => spec_l01Power.mono _ k) (pow_fin ⟨n, by omega⟩)
theorem pow3_le {n : Nat} (h : n ≤ 3) : (1 : Int) ≤ 3 ^ n ∧ (3 : Int) ^ n ≤ 27 := by
 have : n = 0 ∨ n = 1 ∨ n = 2 ∨ n = 3 := by omega
 rcases this with rfl | rfl | rfl | rfl <;> decide
/-- One column, as the reference reckons it. -/
theorem specCol (ws : List ByteArray) (hl : ws.length ≤ 3) (hw : ∀ w ∈ ws, wordB w = true) (out : List Int) (i : Nat) (ho : out.length ≤ 1000) (hi40 : i ≤ 100) {r : List Int}
  (hmore : i < longest ws → Ev (fun k => spec_l01Columns.l0 k ws (out ++ [colAt ws i]) ((i : Int) + 1)) r) (hend : ¬ i < longest ws → out = r) (d : Nat) :
  ∀ (t : Nat) (x : Int) (b : Bool), t + d = ws.length → 0 ≤ x → x + 3 ^ t * colL ((ws.drop t).map fun w => dgt w i) = colAt ws i → x ≤ 27 → (b = true ∨ ∃ w ∈ ws.drop t, i < w.size) = (i < longest ws) → Ev (fun k => spec_l01Columns.l1 k ws out (i : Int) x b (t : Int)) r := by
 induction d with
 | zero =>
  intro t x b ht hx0 hx hx27 hb
  apply Ev.succ
  simp only [spec_l01Columns.l1]
  refine Ev.neg (by omega) ?_
  rw [List.drop_of_length_le (by omega)] at hx hb
  simp only [List.map_nil, colL, Int.mul_zero, Int.add_zero] at hx
  simp only [List.not_mem_nil, false_and, exists_false, or_false] at hb
  by_cases c : b = true
  ·refine Ev.pos c (Ev.pos (by omega) ?_)
   rw [w64 (by omega) (by omega), hx]
   exact hmore (hb ▸ c)
  ·refine Ev.neg c (Ev.const ?_)
   rw [hend (fun h => c (hb.symm ▸ h))]
 | succ d ih =>
  intro t x b ht hx0 hx hx27 hb
  have hlt : t < ws.length := by omega
  have hwt := hw _ (List.getElem_mem hlt)
  have hdr := dgt_range hwt i
  rw [List.drop_eq_getElem_cons hlt] at hx hb
  simp only [List.map_cons, colL] at hx
  simp only [List.mem_cons, exists_eq_or_imp] at hb
  have hp := pow3_le (show t ≤ 3 by omega)
  have hc := colL_range ((ws.drop (t + 1)).map fun w => dgt w i) (fun e he => by
   obtain ⟨w, hw', rfl⟩ := List.mem_map.1 he
   have := dgt_range (hw w (List.mem_of_mem_drop hw')) i
   exact ⟨this.1, this.2.1⟩)
  have hr27 : colAt ws i ≤ 26 := by
   have h1 := (colL_range _ (digits_ok hw i)).2
   have h2 := (pow3_le hl).2
   simp only [List.length_map] at h1
   unfold colAt
   omega
  have hmul : 0 ≤ 3 ^ t * dgt ws[t] i := Int.mul_nonneg (by omega) hdr.1
  have hmul2 : 0 ≤ 3 ^ t * (3 * colL ((ws.drop (t + 1)).map fun w => dgt w i)) := Int.mul_nonneg (by omega) (by omega)
  rw [Int.mul_add] at hx
  have hnext : Ev (fun k => spec_l01Columns.l1 k ws out (i : Int) (x + dgt ws[t] i * 3 ^ t) (b || decide (i < ws[t].size)) ((t : Int) + 1)) r := by
   have h := ih (t + 1) (x + dgt ws[t] i * 3 ^ t) (b || decide (i < ws[t].size)) (by omega) (by rw [Int.mul_comm]; omega) (by rw [Int.pow_succ, Int.mul_assoc, Int.mul_comm (dgt ws[t] i)]; omega) (by rw [Int.mul_comm]; omega) (by rw [← hb]; simp [or_assoc])
   exact_mod_cast h
  apply Ev.succ
  simp only [spec_l01Columns.l1]
  refine Ev.pos (by omega) (Ev.pos (by omega) ?_)
  rw [rdOf_nat _ ws t hlt]
  have hwr : (x + dgt ws[t] i * 3 ^ t) ≤ 26 ∧ 0 ≤ dgt ws[t] i * 3 ^ t := by rw [Int.mul_comm]; omega
  by_cases c : i < ws[t].size
  ·refine Ev.pos (by omega) (Ev.pos (by omega) (Ev.bind (pow_ev t (by omega)) ?_))
   have hd : dgt ws[t] i = bt ws[t] (i : Int) - 97 := if_pos c
   rw [show (bt ws[t] (i : Int) - 97) % 256 = dgt ws[t] i by rw [hd]; rw [hd] at hdr; omega]
   rw [w64 (n := dgt ws[t] i * 3 ^ t) (by omega) (by omega), w64 (n := x + _) (by omega) (by omega), w64 (n := (t : Int) + 1) (by omega) (by omega)]
   rw [decide_eq_true c, Bool.or_true] at hnext
   exact hnext
  ·refine Ev.neg (by omega) (Ev.bind (pow_ev t (by omega)) ?_)
   have hd : dgt ws[t] i = 2 := if_neg c
   rw [hd] at hwr hnext
   rw [w64 (n := 2 * 3 ^ t) (by omega) (by omega), w64 (n := x + _) (by omega) (by omega), w64 (n := (t : Int) + 1) (by omega) (by omega)]
   rw [decide_eq_false c, Bool.or_false] at hnext
   exact hnext
theorem range_snoc {ws : List ByteArray} (i : Nat) : (List.range i).map (colAt ws) ++ [colAt ws i] = (List.range (i + 1)).map (colAt ws) := by
 rw [List.range_succ, List.map_append]
 rfl
theorem specCols_l0 (ws : List ByteArray) (hl : ws.length ≤ 3) (hw : ∀ w ∈ ws, wordB w = true) (d : Nat) : ∀ i : Nat, i + d = longest ws → Ev (fun k => spec_l01Columns.l0 k ws ((List.range i).map (colAt ws)) (i : Int)) (colsL ws) := by
 have hlo := longest_le (N := 40) (fun w h => (wordB_get (hw w h)).1)
 induction d with
 | zero =>
  intro i hi
  apply Ev.succ
  simp only [spec_l01Columns.l0]
  refine specCol ws hl hw _ i (by simp; omega) (by omega) (fun h => by omega) (fun _ => by rw [show i = longest ws by omega]; rfl) ws.length 0 0 false (by omega) (by omega) (by simp [colAt]) (by omega) ?_
  simp [longest_any]
 | succ d ih =>
  intro i hi
  apply Ev.succ
  simp only [spec_l01Columns.l0]
  refine specCol ws hl hw _ i (by simp; omega) (by omega) (fun h => ?_) (fun h => by omega) ws.length 0 0 false (by omega) (by omega) (by simp [colAt]) (by omega) ?_
  ·rw [range_snoc]
   have := ih (i + 1) (by omega)
   exact_mod_cast this
  ·simp [longest_any]
theorem specCols_ev (ws : List ByteArray) (hl : ws.length ≤ 3) (hw : ∀ w ∈ ws, wordB w = true) : Ev (fun k => spec_l01Columns.f k ws) (colsL ws) := specCols_l0 ws hl hw (longest ws) 0 (by omega)
theorem columnOf_l0 (ds : List Int) (hl : ds.length ≤ 3) (hd : ∀ d ∈ ds, 0 ≤ d ∧ d ≤ 2) : ∀ j : Nat, j ≤ ds.length → Ev (fun k => impl_columnOf.l0 k ds (colL (ds.drop j)) ((j : Int) - 1)) (colL ds) := by
 intro j
 induction j with
 | zero =>
  intro _
  apply Ev.succ
  simp only [impl_columnOf.l0]
  exact Ev.neg (by omega) (Ev.const (by rw [List.drop_zero]))
 | succ j ih =>
  intro hj
  have h1 := colL_range (ds.drop (j + 1)) (fun d h => hd d (List.mem_of_mem_drop h))
  have h2 := (pow3_le (show (ds.drop (j + 1)).length ≤ 3 by simp; omega)).2
  have h3 := hd _ (List.getElem_mem (show j < ds.length by omega))
  apply Ev.succ
  simp only [impl_columnOf.l0]
  refine Ev.pos (by omega) (Ev.pos (by omega) (Ev.pos (by omega) ?_))
  rw [show (((j + 1 : Nat) : Int) - 1) = (j : Int) by omega, rd_nat _ _ (by omega), w64 (n := 3 * _) (by omega) (by omega), w64 (n := 3 * _ + _) (by omega) (by omega), w64 (n := (j : Int) - 1) (by omega) (by omega)]
  have h := ih (by omega)
  rw [List.drop_eq_getElem_cons (show j < ds.length by omega)] at h
  simp only [colL] at h
  rw [Int.add_comm]
  exact h
theorem columnOf_ev (ds : List Int) (hl : ds.length ≤ 3) (hd : ∀ d ∈ ds, 0 ≤ d ∧ d ≤ 2) : Ev (fun k => impl_columnOf.f k ds) (colL ds) := by
 unfold impl_columnOf.f
 rw [w64 (by omega) (by omega)]
 have h := columnOf_l0 ds hl hd ds.length (Nat.le_refl _)
 rw [List.drop_of_length_le (Nat.le_refl _)] at h
 exact h
theorem implCol (ws : List ByteArray) (hl : ws.length ≤ 3) (hw : ∀ w ∈ ws, wordB w = true) (m : Int) (out : List Int) (ho : out.length ≤ 1000) (i : Nat) (hi : i ≤ 100) {r : List Int} (hm : Ev (fun k => impl_columnsOf.l1 k ws m (out ++ [colAt ws i]) ((i : Int) + 1)) r) (d : Nat) :
  ∀ t : Nat, t + d = ws.length → Ev (fun k => impl_columnsOf.l2 k ws m out (i : Int) ((ws.take t).map fun w => dgt w i) ws (ws.length : Int) (t : Int)) r := by
 induction d with
 | zero =>
  intro t ht
  apply Ev.succ
  simp only [impl_columnsOf.l2]
  refine Ev.neg (by omega) ?_
  rw [List.take_of_length_le (by omega)]
  refine Ev.bind (columnOf_ev _ (by simpa using hl) (digits_ok hw i)) (Ev.pos (by omega) ?_)
  rw [w64 (by omega) (by omega)]
  exact hm
 | succ d ih =>
  intro t ht
  have hlt : t < ws.length := by omega
  have hwt := hw _ (List.getElem_mem hlt)
  have hdr := dgt_range hwt i
  have hnext := ih (t + 1) (by omega)
  rw [← List.take_append_getElem hlt, List.map_append] at hnext
  apply Ev.succ
  simp only [impl_columnsOf.l2]
  refine Ev.pos (by omega) (Ev.pos (by omega) (Ev.pos (by omega) ?_))
  rw [rdOf_nat _ ws t hlt, w64 (n := (t : Int) + 1) (by omega) (by omega)]
  by_cases c : i < ws[t].size
  ·refine Ev.pos (by omega) (Ev.pos (by omega) (Ev.pos (by simp; omega) ?_))
   have hd : dgt ws[t] i = bt ws[t] (i : Int) - 97 := if_pos c
   rw [show (bt ws[t] (i : Int) - 97) % 256 = dgt ws[t] i by rw [hd]; rw [hd] at hdr; omega]
   exact hnext
  ·refine Ev.neg (by omega) (Ev.pos (by simp; omega) ?_)
   have hd : dgt ws[t] i = 2 := if_neg c
   rw [← hd]
   exact hnext
theorem implCols_l1 (ws : List ByteArray) (hl : ws.length ≤ 3) (hw : ∀ w ∈ ws, wordB w = true) (d : Nat) : ∀ i : Nat, i + d = longest ws → Ev (fun k => impl_columnsOf.l1 k ws (longest ws : Int) ((List.range i).map (colAt ws)) (i : Int)) (colsL ws) := by
 have hlo := longest_le (N := 40) (fun w h => (wordB_get (hw w h)).1)
 induction d with
 | zero =>
  intro i hi
  apply Ev.succ
  simp only [impl_columnsOf.l1]
  refine Ev.neg (by omega) (Ev.const ?_)
  rw [show i = longest ws by omega]
  rfl
 | succ d ih =>
  intro i hi
  apply Ev.succ
  simp only [impl_columnsOf.l1]
  refine Ev.pos (by omega) ?_
  refine implCol ws hl hw _ _ (by simp; omega) i (by omega) ?_ ws.length 0 (by omega)
  rw [range_snoc]
  have := ih (i + 1) (by omega)
  exact_mod_cast this
theorem longest_snoc (ws : List ByteArray) (w : ByteArray) : longest (ws ++ [w]) = max (longest ws) w.size := by
 induction ws with
 | nil => simp [longest]
 | cons x ws ih => simp only [List.cons_append, longest, ih]; omega
theorem implCols_l0 (ws : List ByteArray) (hl : ws.length ≤ 3) (hw : ∀ w ∈ ws, wordB w = true) (d : Nat) : ∀ t : Nat, t + d = ws.length → Ev (fun k => impl_columnsOf.l0 k ws (longest (ws.take t) : Int) ws (ws.length : Int) (t : Int)) (colsL ws) := by
 induction d with
 | zero =>
  intro t ht
  apply Ev.succ
  simp only [impl_columnsOf.l0]
  refine Ev.neg (by omega) ?_
  rw [List.take_of_length_le (by omega)]
  exact implCols_l1 ws hl hw (longest ws) 0 (by omega)
 | succ d ih =>
  intro t ht
  have hlt : t < ws.length := by omega
  have hnext := ih (t + 1) (by omega)
  rw [← List.take_append_getElem hlt, longest_snoc] at hnext
  apply Ev.succ
  simp only [impl_columnsOf.l0]
  refine Ev.pos (by omega) (Ev.pos (by omega) (Ev.pos (by omega) ?_))
  rw [rdOf_nat _ ws t hlt, w64 (n := (t : Int) + 1) (by omega) (by omega)]
  rw [show mx (longest (ws.take t) : Int) (ws[t].size : Int) = ((max (longest (ws.take t)) ws[t].size : Nat) : Int) by unfold mx; split <;> omega]
  exact hnext
theorem implCols_ev (ws : List ByteArray) (hl : ws.length ≤ 3) (hw : ∀ w ∈ ws, wordB w = true) : Ev (fun k => impl_columnsOf.f k ws) (colsL ws) := implCols_l0 ws hl hw ws.length 0 (by omega)
theorem takes_both {W : Nat} {t s : Int} {ac : List Bool} {ns : List (List Int)} (hT : TableOK W ac.length ns) (hn : ac.length ≤ 1000) (cs : List Int) (hc : ∀ c ∈ cs, 0 ≤ c ∧ c < (W : Int)) (hcl : cs.length ≤ 1000) (d : Nat) :
  ∀ (i : Nat) (q : Int), i + d = cs.length → 0 ≤ q → q < (ac.length : Int) → ∃ b, Ev (fun k => spec_l01Takes.l0 k cs q (i : Int) t s ac ns) (b, t, s) ∧ Ev (fun k => impl_machine_takes.l0 k q cs (cs.length : Int) (i : Int) t s ac ns) b := by
 induction d with
 | zero =>
  intro i q hi q0 q1
  refine ⟨rdOf false ac q, Ev.succ ?_, Ev.succ ?_⟩
  ·simp only [spec_l01Takes.l0]
   exact Ev.neg (by omega) (Ev.pos q0 (Ev.pos q1 (Ev.now _)))
  ·simp only [impl_machine_takes.l0]
   exact Ev.neg (by omega) (Ev.pos q0 (Ev.pos q1 (Ev.now _)))
 | succ d ih =>
  intro i q hi q0 q1
  have hlt : i < cs.length := by omega
  have h1 := hc _ (List.getElem_mem hlt)
  have hst := hT.stpd q0 q1 h1.1 h1.2
  have hrow := hT.row q0 q1
  obtain ⟨b, hb1, hb2⟩ := ih (i + 1) (stp ns q cs[i]) (by omega) hst.1 hst.2
  have hlen : ((ns.getD q.toNat []).length : Int) = (W : Int) := by rw [(hT.2 _ hrow).1]
  refine ⟨b, Ev.succ ?_, Ev.succ ?_⟩
  ·simp only [spec_l01Takes.l0]
   refine Ev.pos (by omega) (Ev.pos q0 (Ev.pos (by rw [hT.1]; exact q1) (Ev.pos (by omega) ?_)))
   rw [rd_nat cs i hlt, w64 (by omega) (by omega)]
   refine Ev.pos h1.1 (Ev.pos (by show _ < ((ns.getD q.toNat []).length : Int); omega) ?_)
   exact hb1
  ·simp only [impl_machine_takes.l0]
   refine Ev.pos (by omega) (Ev.pos (by omega) (Ev.pos (by omega) (Ev.pos q0 (Ev.pos (by rw [hT.1]; exact q1) ?_))))
   rw [rd_nat cs i hlt, w64 (by omega) (by omega)]
   refine Ev.pos h1.1 (Ev.pos (by show _ < ((ns.getD q.toNat []).length : Int); omega) ?_)
   exact hb2
theorem wd_pow {n : Nat} (h1 : 1 ≤ n) (h3 : n ≤ 3) : (3 : Int) ^ n - 1 = (wd n : Int) := by
 have : n = 1 ∨ n = 2 ∨ n = 3 := by omega
 rcases this with rfl | rfl | rfl <;> decide
theorem holds_both {t s : Int} {ac : List Bool} {ns : List (List Int)} (h : SzOK ac ns) {ws : List ByteArray} (hl : ws.length ≤ 1048576) (hs : ∀ w ∈ ws, w.size ≤ 1048576) : ∃ b c, Ev (fun k => spec_Holds.f k t s ac ns ws) (b, c) ∧ Ev (fun k => impl_Holds.f k t s ac ns ws) (b, c) := by
 have hws := words_ev ws (by omega) (fun w hw => by have := hs w hw; omega)
 have hwi := areWords_ev ws (by omega) (fun w hw => by have := hs w hw; omega)
 have okv : Ev (fun k => spec_l01Ok_v.f k t s ac ns) (okRel t s ac ns) := by
  unfold spec_l01Ok_v.f
  exact Ev.bind (spec_ok_ev t s ac ns h) (Ev.const (by simp))
 by_cases hv : okRel t s ac ns = true
 ·by_cases ha : ws.all wordB = true
  ·by_cases hn : (ws.length : Int) = t
   ·obtain ⟨n, rfl, h1, h3, hl1, hl2, s0, s1, hT⟩ := okRel_parts hv
    have hwl : ws.length = n := by omega
    have hall : ∀ w ∈ ws, wordB w = true := fun w hw => List.all_eq_true.1 ha w hw
    have hlo := longest_le (N := 40) (fun w hw => (wordB_get (hall w hw)).1)
    obtain ⟨b, hb1, hb2⟩ := takes_both (W := wd n) (t := (n : Int)) (s := s) hT (by omega) (colsL ws) (fun c hc => by
     obtain ⟨i, hi, rfl⟩ := List.mem_map.1 hc
     have := colAt_range hall (List.mem_range.1 hi)
     have hp := wd_pow h1 h3
     rw [hwl] at this
     omega) (by simp [colsL]; omega) (colsL ws).length 0 s (by omega) s0 s1
    refine ⟨b, 0, ?_, ?_⟩
    ·unfold spec_Holds.f
     refine Ev.bind okv (Ev.pos hv (Ev.bind hws (Ev.succ ?_)))
     simp only [spec_Holds.j0, ha]
     refine Ev.neg (by simp) (Ev.pos hn (Ev.bind (a := b) ?_ (Ev.now _)))
     unfold spec_l01Takes_v.f spec_l01Takes.f
     exact Ev.bind (Ev.bind (specCols_ev ws (by omega) hall) hb1) (Ev.const (by simp))
    ·unfold impl_Holds.f
     refine Ev.bind (impl_ValidRelation_ev _ s ac ns h) (Ev.pos hv (Ev.bind hwi (Ev.succ ?_)))
     simp only [impl_Holds.j0, ha]
     refine Ev.neg (by simp) (Ev.pos hn (Ev.bind (machineOf_ev _ s ac ns h) (Ev.bind (implCols_ev ws (by omega) hall) (Ev.bind (a := b) ?_ (Ev.now _)))))
     exact hb2
   ·refine ⟨false, 2, ?_, ?_⟩
    ·unfold spec_Holds.f
     refine Ev.bind okv (Ev.pos hv (Ev.bind hws (Ev.succ ?_)))
     simp only [spec_Holds.j0, ha]
     exact Ev.neg (by simp) (Ev.neg hn (Ev.now _))
    ·unfold impl_Holds.f
     refine Ev.bind (impl_ValidRelation_ev _ s ac ns h) (Ev.pos hv (Ev.bind hwi (Ev.succ ?_)))
     simp only [impl_Holds.j0, ha]
     exact Ev.neg (by simp) (Ev.neg hn (Ev.now _))
  ·rw [Bool.not_eq_true] at ha
   refine ⟨false, 1, ?_, ?_⟩
   ·unfold spec_Holds.f
    refine Ev.bind okv (Ev.pos hv (Ev.bind hws (Ev.succ ?_)))
    simp only [spec_Holds.j0, ha]
    exact Ev.pos rfl (Ev.now _)
   ·unfold impl_Holds.f
    refine Ev.bind (impl_ValidRelation_ev _ s ac ns h) (Ev.pos hv (Ev.bind hwi (Ev.succ ?_)))
    simp only [impl_Holds.j0, ha]
    exact Ev.pos rfl (Ev.now _)
 ·refine ⟨false, 1, ?_, ?_⟩
  ·unfold spec_Holds.f
   refine Ev.bind okv (Ev.neg hv (Ev.succ ?_))
   simp only [spec_Holds.j0]
   exact Ev.pos (by first | rfl | trivial) (Ev.now _)
  ·unfold impl_Holds.f
   refine Ev.bind (impl_ValidRelation_ev _ s ac ns h) (Ev.neg hv (Ev.succ ?_))
   simp only [impl_Holds.j0]
   exact Ev.pos (by first | rfl | trivial) (Ev.now _)
theorem toStringS_l (l : List ByteArray) (hn : l.length ≤ 1048576) (d : Nat) : ∀ (i : Nat) (ys : List ByteArray), i + d = l.length → ys.length = l.length → ys.take i = l.take i → Ev (fun k => laws_toStringS.l0 k l ys (i : Int)) l := by
 induction d with
 | zero =>
  intro i ys hi hl h
  apply Ev.succ
  simp only [laws_toStringS.l0]
  refine Ev.neg (by omega) (Ev.const ?_)
  rw [List.take_of_length_le (by omega), List.take_of_length_le (by omega)] at h
  rw [h]
 | succ d ih =>
  intro i ys hi hl h
  apply Ev.succ
  simp only [laws_toStringS.l0]
  refine Ev.pos (by omega) (Ev.pos (by omega) (Ev.pos (by omega) ?_))
  rw [rdOf_nat _ l i (by omega), w64 (by omega) (by omega), Int.toNat_natCast]
  exact ih (i + 1) _ (by omega) (by simpa using hl) (set_take l ys i _ (List.getElem?_eq_getElem (by omega)) hl h)
theorem toStringS_ev (l : List ByteArray) (hn : l.length ≤ 1048576) : Ev (fun k => laws_toStringS.f k l) l := by
 unfold laws_toStringS.f
 refine Ev.pos (by omega) (Ev.pos (by omega) ?_)
 exact toStringS_l l hn l.length 0 _ (by omega) (by simp) (by simp)
theorem szStringS_l (l : List ByteArray) (hn : l.length ≤ 1048576) (hs : ∀ w ∈ l, w.size ≤ 9223372036854775807) (d : Nat) : ∀ (i a : Nat), i + d = l.length → a ≤ 1048576 → ∃ n : Int, Ev (fun k => laws_szStringS.l0 k l (a : Int) (i : Int)) n ∧ n ≤ 1048576 ∧ (0 ≤ n → ∀ w ∈ l.drop i, w.size ≤ 1048576) := by
 induction d with
 | zero =>
  intro i a hi ha
  refine ⟨a, Ev.succ ?_, by omega, fun _ => by rw [List.drop_of_length_le (by omega)]; simp⟩
  simp only [laws_szStringS.l0]
  exact Ev.neg (by omega) (Ev.now _)
 | succ d ih =>
  intro i a hi ha
  have hsi := hs _ (List.getElem_mem (show i < l.length by omega))
  by_cases c : l[i].size ≤ a
  ·obtain ⟨n, h1, h2, h3⟩ := ih (i + 1) (a - l[i].size) (by omega) (by omega)
   refine ⟨n, Ev.succ ?_, h2, fun h0 w hw => ?_⟩
   ·simp only [laws_szStringS.l0]
    refine Ev.pos (by omega) (Ev.pos (by omega) ?_)
    rw [rdOf_nat _ l i (by omega), w64 (n := (a : Int) - _) (by omega) (by omega), w64 (n := (i : Int) + 1) (by omega) (by omega)]
    refine Ev.neg (by omega) ?_
    rw [show ((a : Int) - (l[i].size : Int)) = ((a - l[i].size : Nat) : Int) by omega]
    exact_mod_cast h1
   ·rw [List.drop_eq_getElem_cons (show i < l.length by omega)] at hw
    rcases List.mem_cons.1 hw with rfl | hw
    ·omega
    ·exact h3 h0 w hw
  ·refine ⟨-1, Ev.succ ?_, by omega, fun h0 => by omega⟩
   simp only [laws_szStringS.l0]
   refine Ev.pos (by omega) (Ev.pos (by omega) ?_)
   rw [rdOf_nat _ l i (by omega), w64 (n := (a : Int) - _) (by omega) (by omega)]
   exact Ev.pos (by omega) (Ev.now _)
theorem szStringS_ev (l : List ByteArray) (a : Nat) (ha : a ≤ 1048576) (hn : l.length ≤ 9223372036854775807) (hs : ∀ w ∈ l, w.size ≤ 9223372036854775807) : ∃ n : Int, Ev (fun k => laws_szStringS.f k l (a : Int)) n ∧ n ≤ 1048576 ∧ (0 ≤ n → l.length ≤ 1048576 ∧ ∀ w ∈ l, w.size ≤ 1048576) := by
 unfold laws_szStringS.f
 by_cases c : l.length ≤ a
 ·obtain ⟨n, h1, h2, h3⟩ := szStringS_l l (by omega) hs l.length 0 (a - l.length) (by omega) (by omega)
  refine ⟨n, ?_, h2, fun h0 => ⟨by omega, h3 h0⟩⟩
  rw [w64 (by omega) (by omega)]
  refine Ev.neg (by omega) ?_
  rw [show ((a : Int) - (l.length : Int)) = ((a - l.length : Nat) : Int) by omega]
  exact h1
 ·refine ⟨-1, ?_, by omega, fun h0 => by omega⟩
  rw [w64 (by omega) (by omega)]
  exact Ev.pos (by omega) (Ev.now _)
theorem FnExactHolds (t s : Int) (ac : List Bool) (ns : List (List Int)) (ws : List ByteArray) (h2 : ac.length ≤ 9223372036854775807) (h3 : ns.length ≤ 9223372036854775807) (hr : ∀ x ∈ ns, x.length ≤ 9223372036854775807) (hwl : ws.length ≤ 9223372036854775807) (hws : ∀ w ∈ ws, w.size ≤ 9223372036854775807) : ∃ k, laws_FnExactHolds.f k t s ac ns ws = some true := by
 apply Ev.rounds
 unfold laws_FnExactHolds.f
 obtain ⟨n, e1, e2, e3⟩ := szRelation_ev t s ac ns 1048576 (by omega) h2 h3 hr
 refine Ev.bind e1 ?_
 by_cases hn : n < 0
 ·exact Ev.pos hn (Ev.const rfl)
 ·have hz := e3 (by omega)
  refine Ev.neg hn ?_
  obtain ⟨m, rfl⟩ : ∃ m : Nat, n = (m : Int) := ⟨n.toNat, by omega⟩
  obtain ⟨n2, f1, f2, f3⟩ := szStringS_ev ws m (by omega) hwl hws
  refine Ev.bind f1 ?_
  by_cases hn2 : n2 < 0
  ·exact Ev.pos hn2 (Ev.const rfl)
  ·obtain ⟨g1, g2⟩ := f3 (by omega)
   obtain ⟨b, c, hS, hI⟩ := holds_both (t := t) (s := s) hz g1 g2
   refine Ev.neg hn2 ?_
   refine Ev.bind (toRelation_ev t s ac ns hz) ?_
   refine Ev.bind (toStringS_ev ws g1) ?_
   refine Ev.bind hS ?_
   refine Ev.bind (toRelation_ev t s ac ns hz) ?_
   refine Ev.bind (toStringS_ev ws g1) ?_
   refine Ev.bind hI ?_
   refine Ev.neg (by simp) ?_
   apply Ev.succ
   simp only [laws_FnExactHolds.j0]
   refine Ev.neg (by simp) ?_
   refine Ev.bind (toRelation_ev t s ac ns hz) ?_
   refine Ev.bind (eqRelation_ev t s ac ns hz) ?_
   refine Ev.pos rfl ?_
   refine Ev.bind (toStringS_ev ws g1) ?_
   refine Ev.bind (eqStringS_ev ws (by omega)) ?_
   exact Ev.pos rfl (Ev.now _)
end Go.Proofs.YtbkcllfgolmloaaDoor.Pure

