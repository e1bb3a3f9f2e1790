import Derived.Test.YtocfcpicleomcaaDoorSO9
import Derived.Test.YtocfcpicleomcaaDoorSO7
import Derived.Test.YtocfcpicleomcaaDoorSO10
import Derived.Test.YtocfcpicleomcaaDoorSO2
import Derived.Test.YtocfcpicleomcaaDoorSO3
namespace Go.Proofs.YtocfcpicleomcaaDoor.Pure
set_option maxHeartbeats 16000000
set_option maxRecDepth 100000
open Go.RowKit Go.Proofs.YtocfcpicleomcaaDoor.X Go.Proofs.YtocfcpicleomcaaDoorW.PrintWords Go.Proofs.YtocfcpicleomcaaDoorW.PrintLast
set_option linter.unusedVariables false
set_option linter.unusedSimpArgs false
theorem Ev.succ {α : Type} {g : Nat → Option α} {r : α} (h : Ev (fun k => g (k + 1)) r) : Ev g r := Ev.step (fun _ => rfl) h
theorem Ev.const {α : Type} {o : Option α} {r : α} (h : o = some r) : Ev (fun _ => o) r := ⟨0, fun _ _ => h⟩
theorem w64 {n : Int} (h0 : -9223372036854775808 ≤ n) (h1 : n ≤ 9223372036854775807) : wrap64 n = n := by
 unfold wrap64; omega
theorem rd_nat (xs : List Int) (i : Nat) (h : i < xs.length) : rd xs (i : Int) = xs[i] := by
 simp [rd, List.getD_eq_getElem?_getD, h]
theorem rdOf_nat {α : Type} (d : α) (xs : List α) (i : Nat) (h : i < xs.length) : rdOf d xs (i : Int) = xs[i] := by
 simp [rdOf, List.getD_eq_getElem?_getD, h]
theorem set_take {α : Type} (l ys : List α) (i : Nat) (x : α) (hx : l[i]? = some x) (hl : ys.length = l.length) (h : ys.take i = l.take i) : (ys.set i x).take (i + 1) = l.take (i + 1) := by
 have hi : i < l.length := (List.getElem?_eq_some_iff.1 hx).1; apply List.ext_getElem?; intro j; have hj := congrArg (fun z => z[j]?) h
 simp only [List.getElem?_take] at hj ⊢
 rw [List.getElem?_set]; by_cases h1 : j < i + 1
 ·by_cases h2 : i = j
  ·subst h2; simp only [h1, if_true]; rw [if_pos (by omega)]; exact hx.symm
  ·have h3 : j < i := by omega
   simp only [h1, if_true, h2, if_false, h3] at hj ⊢
   exact hj
 ·simp [h1]
theorem Ev.pos {α : Type} {c : Prop} [Decidable c] {f g : Nat → Option α} {r : α} (h : c) (k : Ev f r) : Ev (fun n => if c then f n else g n) r := by
 obtain ⟨K, k⟩ := k; exact ⟨K, fun n hn => (if_pos h).trans (k n hn)⟩
theorem Ev.neg {α : Type} {c : Prop} [Decidable c] {f g : Nat → Option α} {r : α} (h : ¬ c) (k : Ev g r) : Ev (fun n => if c then f n else g n) r := by
 obtain ⟨K, k⟩ := k; exact ⟨K, fun n hn => (if_neg h).trans (k n hn)⟩
theorem toInt64S_l (l : List Int) (hn : l.length ≤ 35184372088832) (d : Nat) : ∀ (i : Nat) (ys : List Int), i + d = l.length → ys.length = l.length → ys.take i = l.take i → Ev (fun k => laws_toInt64S.l0 k l ys (i : Int)) l := by
 induction d with
 | zero =>
  intro i ys hi hl ht; apply Ev.succ; simp only [laws_toInt64S.l0]; refine Ev.neg (by omega) ?_; refine Ev.const ?_; rw [List.take_of_length_le (by omega), List.take_of_length_le (by omega)] at ht; rw [ht]
 | succ d ih =>
  intro i ys hi hl ht; apply Ev.succ; simp only [laws_toInt64S.l0]; refine Ev.pos (by omega) ?_; refine Ev.pos (by omega) ?_; refine Ev.pos (by omega) ?_; rw [w64 (by omega) (by omega), Int.toNat_natCast]; have := ih (i + 1) (ys.set i (rd l i)) (by omega) (by simp [hl]) (set_take l ys i _ (by rw [rd_nat l i (by omega)]; exact List.getElem?_eq_getElem (by omega)) hl ht); exact this
theorem toInt64S_ev (l : List Int) (hn : l.length ≤ 35184372088832) : Ev (fun k => laws_toInt64S.f k l) l := by
 unfold laws_toInt64S.f; simp only [Int.toNat_natCast]; refine Ev.pos (by omega) ?_; refine Ev.pos hn ?_; exact toInt64S_l l hn l.length 0 _ (by omega) (by simp) (by simp)
theorem eqInt64S_l (l : List Int) (hn : l.length ≤ 35184372088832) (d : Nat) : ∀ (i : Nat), i + d = l.length → Ev (fun k => laws_eqInt64S.l0 k l l (i : Int)) true := by
 induction d with
 | zero =>
  intro i hi; apply Ev.succ; simp only [laws_eqInt64S.l0]; refine Ev.neg (by omega) ?_; exact Ev.const rfl
 | succ d ih =>
  intro i hi; apply Ev.succ; simp only [laws_eqInt64S.l0]; refine Ev.pos (by omega) ?_; refine Ev.pos (by omega) ?_; refine Ev.pos (by omega) ?_; refine Ev.pos trivial ?_; rw [w64 (by omega) (by omega)]; exact ih (i + 1) (by omega)
theorem eqInt64S_ev (l : List Int) (hn : l.length ≤ 35184372088832) : Ev (fun k => laws_eqInt64S.f k l l) true := by
 unfold laws_eqInt64S.f; refine Ev.pos rfl ?_; exact eqInt64S_l l hn l.length 0 (by omega)
theorem rd4_nat (xs : List (List Int)) (i : Nat) (h : i < xs.length) : rd_L2 xs (i : Int) = xs[i] := by
 simp [rd_L2, List.getD_eq_getElem?_getD, h]
theorem toBoolS_l (l : List Bool) (hn : l.length ≤ 35184372088832) (d : Nat) : ∀ (i : Nat) (ys : List Bool), i + d = l.length → ys.length = l.length → ys.take i = l.take i → Ev (fun k => laws_toBoolS.l0 k l ys (i : Int)) l := by
 induction d with
 | zero =>
  intro i ys hi hl ht; apply Ev.succ; simp only [laws_toBoolS.l0]; refine Ev.neg (by omega) ?_; refine Ev.const ?_; rw [List.take_of_length_le (by omega), List.take_of_length_le (by omega)] at ht; rw [ht]
 | succ d ih =>
  intro i ys hi hl ht; apply Ev.succ; simp only [laws_toBoolS.l0]; refine Ev.pos (by omega) ?_; refine Ev.pos (by omega) ?_; refine Ev.pos (by omega) ?_; rw [w64 (by omega) (by omega), Int.toNat_natCast]; have := ih (i + 1) (ys.set i (rdOf false l i)) (by omega) (by simp [hl]) (set_take l ys i _ (by rw [rdOf_nat false l i (by omega)]; exact List.getElem?_eq_getElem (by omega)) hl ht); exact this
theorem toBoolS_ev (l : List Bool) (hn : l.length ≤ 35184372088832) : Ev (fun k => laws_toBoolS.f k l) l := by
 unfold laws_toBoolS.f; simp only [Int.toNat_natCast]; refine Ev.pos (by omega) ?_; refine Ev.pos (by omega) ?_; exact toBoolS_l l hn l.length 0 _ (by omega) (by simp) (by simp)
theorem toInt64SS_l (l : List (List Int)) (hn : l.length ≤ 35184372088832) (hr : ∀ x ∈ l, x.length ≤ 35184372088832) (d : Nat) : ∀ (i : Nat) (ys : List (List Int)), i + d = l.length → ys.length = l.length → ys.take i = l.take i → Ev (fun k => laws_toInt64SS.l0 k l ys (i : Int)) l := by
 induction d with
 | zero =>
  intro i ys hi hl ht; apply Ev.succ; simp only [laws_toInt64SS.l0]; refine Ev.neg (by omega) ?_; refine Ev.const ?_; rw [List.take_of_length_le (by omega), List.take_of_length_le (by omega)] at ht; rw [ht]
 | succ d ih =>
  intro i ys hi hl ht; apply Ev.succ; simp only [laws_toInt64SS.l0]; refine Ev.pos (by omega) ?_; refine Ev.pos (by omega) ?_; rw [rd4_nat l i (by omega)]; refine Ev.bind (toInt64S_ev _ (hr _ (List.getElem_mem _))) ?_; refine Ev.pos (by omega) ?_; rw [w64 (by omega) (by omega), Int.toNat_natCast]; exact ih (i + 1) (ys.set i l[i]) (by omega) (by simp [hl]) (set_take l ys i _ (List.getElem?_eq_getElem (by omega)) hl ht)
theorem toInt64SS_ev (l : List (List Int)) (hn : l.length ≤ 11728124029610) (hr : ∀ x ∈ l, x.length ≤ 35184372088832) : Ev (fun k => laws_toInt64SS.f k l) l := by
 unfold laws_toInt64SS.f; simp only [Int.toNat_natCast]; refine Ev.pos (by omega) ?_; refine Ev.pos (by omega) ?_; exact toInt64SS_l l (by omega) hr l.length 0 _ (by omega) (by simp) (by simp)
theorem eqBoolS_l (l : List Bool) (hn : l.length ≤ 35184372088832) (d : Nat) : ∀ (i : Nat), i + d = l.length → Ev (fun k => laws_eqBoolS.l0 k l l (i : Int)) true := by
 induction d with
 | zero =>
  intro i hi; apply Ev.succ; simp only [laws_eqBoolS.l0]; refine Ev.neg (by omega) ?_; exact Ev.const rfl
 | succ d ih =>
  intro i hi; apply Ev.succ; simp only [laws_eqBoolS.l0]; refine Ev.pos (by omega) ?_; refine Ev.pos (by omega) ?_; refine Ev.pos (by omega) ?_; refine Ev.neg (by simp) ?_; rw [w64 (by omega) (by omega)]; exact ih (i + 1) (by omega)
theorem eqBoolS_ev (l : List Bool) (hn : l.length ≤ 35184372088832) : Ev (fun k => laws_eqBoolS.f k l l) true := by
 unfold laws_eqBoolS.f; refine Ev.pos rfl ?_; exact eqBoolS_l l hn l.length 0 (by omega)
theorem eqInt64SS_l (l : List (List Int)) (hn : l.length ≤ 35184372088832) (hr : ∀ x ∈ l, x.length ≤ 35184372088832) (d : Nat) : ∀ (i : Nat), i + d = l.length → Ev (fun k => laws_eqInt64SS.l0 k l l (i : Int)) true := by
 induction d with
 | zero =>
  intro i hi; apply Ev.succ; simp only [laws_eqInt64SS.l0]; refine Ev.neg (by omega) ?_; exact Ev.const rfl
 | succ d ih =>
  intro i hi; apply Ev.succ; simp only [laws_eqInt64SS.l0]; refine Ev.pos (by omega) ?_; refine Ev.pos (by omega) ?_; refine Ev.pos (by omega) ?_; rw [rd4_nat l i (by omega)]; refine Ev.bind (eqInt64S_ev _ (hr _ (List.getElem_mem _))) ?_; refine Ev.pos rfl ?_; rw [w64 (by omega) (by omega)]; exact ih (i + 1) (by omega)
theorem eqInt64SS_ev (l : List (List Int)) (hn : l.length ≤ 35184372088832) (hr : ∀ x ∈ l, x.length ≤ 35184372088832) : Ev (fun k => laws_eqInt64SS.f k l l) true := by
 unfold laws_eqInt64SS.f; refine Ev.pos rfl ?_; exact eqInt64SS_l l hn hr l.length 0 (by omega)
theorem szInt64SS_l (l : List (List Int)) (hn : l.length ≤ 9223372036854775806) (hr : ∀ x ∈ l, x.length ≤ 9223372036854775807) (d : Nat) : ∀ (i a : Nat), i + d = l.length → a ≤ 1048576 →
  ∃ n : Int, Ev (fun k => laws_szInt64SS.l0 k l (a : Int) (i : Int)) n ∧ n ≤ 1048576 ∧ (0 ≤ n → ∀ j, i ≤ j → ∀ x, l[j]? = some x → x.length ≤ 1048576) := by
 induction d with
 | zero =>
  intro i a hi ha; refine ⟨a, ?_, by omega, fun _ j hj x hx => ?_⟩
  ·apply Ev.succ; simp only [laws_szInt64SS.l0]; refine Ev.neg (by omega) ?_; exact Ev.const rfl
  ·have := (List.getElem?_eq_some_iff.1 hx).1; omega
 | succ d ih =>
  intro i a hi ha; have hx := hr _ (List.getElem_mem (show i < l.length by omega)); by_cases c : l[i].length ≤ a
  ·obtain ⟨n, h1, h2, h3⟩ := ih (i + 1) (a - l[i].length) (by omega) (by omega); refine ⟨n, ?_, h2, fun h0 j hj x hjx => ?_⟩
   ·apply Ev.succ; simp only [laws_szInt64SS.l0]; refine Ev.pos (by omega) ?_; refine Ev.pos (by omega) ?_; rw [rd4_nat l i (by omega)]; refine Ev.bind (a := ((a - l[i].length : Nat) : Int)) ?_ ?_
    ·unfold laws_szInt64S.f; rw [w64 (by omega) (by omega)]; refine Ev.neg (by omega) ?_; exact Ev.const (by congr 1; omega)
    ·refine Ev.neg (by omega) ?_; rw [w64 (by omega) (by omega)]; exact h1
   ·by_cases e : i = j
    ·subst e; rw [List.getElem?_eq_getElem (by omega)] at hjx; injection hjx with hjx; subst hjx; omega
    ·exact h3 h0 j (by omega) x hjx
  ·refine ⟨-1, ?_, by omega, fun h0 => by omega⟩; apply Ev.succ; simp only [laws_szInt64SS.l0]; refine Ev.pos (by omega) ?_; refine Ev.pos (by omega) ?_; rw [rd4_nat l i (by omega)]; refine Ev.bind (a := -1) ?_ ?_
   ·unfold laws_szInt64S.f; rw [w64 (by omega) (by omega)]; exact Ev.pos (by omega) (Ev.const rfl)
   ·exact Ev.pos (by omega) (Ev.const rfl)
/-- What a relation's size says: it is not negative only if its rows are short. -/
def SzOK (ac : List Bool) (ns : List (List Int)) : Prop := ac.length ≤ 1048576 ∧ ns.length ≤ 1048576 ∧ ∀ x ∈ ns, x.length ≤ 1048576
theorem szRelation_ev (t s : Int) (ac : List Bool) (ns : List (List Int)) (a : Nat) (ha : a ≤ 1048576) (h2 : ac.length ≤ 9223372036854775807) (h3 : ns.length ≤ 9223372036854775807) (hr : ∀ x ∈ ns, x.length ≤ 9223372036854775807) :
  ∃ n : Int, Ev (fun k => laws_szRelation.f k t s ac ns (a : Int)) n ∧ n ≤ 1048576 ∧ (0 ≤ n → SzOK ac ns) := by
 unfold laws_szRelation.f; by_cases c : ac.length ≤ a
 ·by_cases c2 : ns.length ≤ a - ac.length
  ·obtain ⟨n, e1, e2, e3⟩ := szInt64SS_l ns (by omega) hr ns.length 0 (a - ac.length - ns.length) (by omega) (by omega); refine ⟨if n < 0 then -1 else n, ?_, by split <;> omega, fun h0 => ⟨by omega, by omega, fun x hx => ?_⟩⟩
   ·refine Ev.bind (a := ((a - ac.length : Nat) : Int)) ?_ ?_
    ·unfold laws_szBoolS.f; rw [w64 (by omega) (by omega)]; refine Ev.neg (by omega) ?_; exact Ev.const (by congr 1; omega)
    ·refine Ev.neg (by omega) ?_; refine Ev.bind (a := n) ?_ ?_
     ·unfold laws_szInt64SS.f; rw [w64 (by omega) (by omega)]; refine Ev.neg (by omega) ?_; rw [show ((a - ac.length : Nat) : Int) - (ns.length : Int) = ((a - ac.length - ns.length : Nat) : Int) by omega]; exact e1
     ·by_cases hn : n < 0
      ·simp only [if_pos hn]; exact Ev.now _
      ·simp only [if_neg hn]; exact Ev.now _
   ·have hn : 0 ≤ n := by
     by_cases hn : n < 0
     ·rw [if_pos hn] at h0; omega
     ·omega
    obtain ⟨j, hj⟩ := List.mem_iff_getElem?.1 hx; exact e3 hn j (by omega) x hj
  ·refine ⟨-1, ?_, by omega, fun h0 => by omega⟩; refine Ev.bind (a := ((a - ac.length : Nat) : Int)) ?_ ?_
   ·unfold laws_szBoolS.f; rw [w64 (by omega) (by omega)]; refine Ev.neg (by omega) ?_; exact Ev.const (by congr 1; omega)
   ·refine Ev.neg (by omega) ?_; refine Ev.bind (a := -1) ?_ ?_
    ·unfold laws_szInt64SS.f; rw [w64 (by omega) (by omega)]; exact Ev.pos (by omega) (Ev.const rfl)
    ·exact Ev.pos (by omega) (Ev.const rfl)
 ·refine ⟨-1, ?_, by omega, fun h0 => by omega⟩; refine Ev.bind (a := -1) ?_ ?_
  ·unfold laws_szBoolS.f; rw [w64 (by omega) (by omega)]; exact Ev.pos (by omega) (Ev.const rfl)
  ·exact Ev.pos (by omega) (Ev.const rfl)
theorem toRelation_ev (t s : Int) (ac : List Bool) (ns : List (List Int)) (h : SzOK ac ns) : Ev (fun k => laws_toRelation.f k t s ac ns) (t, s, ac, ns) := by
 unfold laws_toRelation.f; refine Ev.bind (toBoolS_ev ac (by have := h.1; omega)) ?_; refine Ev.bind (toInt64SS_ev ns (by have := h.2.1; omega) (fun x hx => by have := h.2.2 x hx; omega)) ?_; exact Ev.now _
theorem eqRelation_ev (t s : Int) (ac : List Bool) (ns : List (List Int)) (h : SzOK ac ns) : Ev (fun k => laws_eqRelation.f k t s ac ns t s ac ns) true := by
 unfold laws_eqRelation.f; refine Ev.pos rfl ?_; refine Ev.pos rfl ?_; refine Ev.bind (eqBoolS_ev ac (by have := h.1; omega)) ?_; refine Ev.pos rfl ?_; refine Ev.bind (eqInt64SS_ev ns (by have := h.2.1; omega) (fun x hx => by have := h.2.2 x hx; omega)) ?_; exact Ev.pos rfl (Ev.now _)
theorem in_eq (a b c : Int) : spec_l00In.f a b c = some (decide (b ≤ a) && decide (a ≤ c)) := by
 unfold spec_l00In.f; by_cases h : a ≥ b
 ·rw [if_pos h]; simp [h]
 ·rw [if_neg h]; simp [show ¬ b ≤ a from h]
theorem within_eq (a b c : Int) : impl_within.f a b c = some (decide (b ≤ a) && decide (a ≤ c)) := by
 unfold impl_within.f; by_cases h : b ≤ a
 ·rw [if_pos h]; simp [h]
 ·rw [if_neg h]; simp [h]
theorem areTapes_eq (a : Int) : impl_areTapes.f a = some (decide (1 ≤ a) && decide (a ≤ 3)) := by
 unfold impl_areTapes.f; rw [within_eq]; rfl
def wd (n : Nat) : Nat := if n = 0 then 0 else if n = 1 then 2 else if n = 2 then 8 else 26
theorem wideS_fin : ∀ n : Fin 4, spec_l01Wide.f 10 (n.val : Int) = some ((wd n.val : Nat) : Int) := by decide +kernel
theorem wideI_fin : ∀ n : Fin 4, impl_widthOf.f 10 (n.val : Int) = some ((wd n.val : Nat) : Int) := by decide +kernel
theorem wideS_ev (n : Nat) (h : n ≤ 3) : Ev (fun k => spec_l01Wide.f k (n : Int)) ((wd n : Nat) : Int) := Ev.of (fun k => spec_l01Wide.mono _ k) (wideS_fin ⟨n, by omega⟩)
theorem wideI_ev (n : Nat) (h : n ≤ 3) : Ev (fun k => impl_widthOf.f k (n : Int)) ((wd n : Nat) : Int) := Ev.of (fun k => impl_widthOf.mono _ k) (wideI_fin ⟨n, by omega⟩)
theorem wd_le (n : Nat) (h : n ≤ 3) : wd n ≤ 26 := by
 unfold wd
 split <;> (try split) <;> (try split) <;> omega
/-- The states of a row are among n. -/
def okCells (n : Nat) (l : List Int) : Bool := l.all fun x => decide (0 ≤ x) && decide (x < n)
def okRows (w n : Nat) (ns : List (List Int)) : Bool := ns.all fun r => decide (r.length = w) && okCells n r
/-- A relation's form. -/
def okRel (t s : Int) (ac : List Bool) (ns : List (List Int)) : Bool :=
 decide (1 ≤ t) && decide (t ≤ 3) && decide (1 ≤ ac.length) && decide (ac.length ≤ 150) && decide (ns.length = ac.length) && decide (0 ≤ s) && decide (s < ac.length) && okRows (wd t.toNat) ac.length ns
theorem drop_all {α : Type} (p : α → Bool) (l : List α) (i : Nat) (h : i < l.length) : (l.drop i).all p = (p l[i] && (l.drop (i + 1)).all p) := by
 rw [List.drop_eq_getElem_cons h, List.all_cons]
theorem spec_form_l1 (t : Nat) (s : Int) (ac : List Bool) (ns : List (List Int)) (x3 : Nat) (hx3 : x3 ≤ 150) (i : Nat) (hi : i < ns.length) (hl : ns[i].length ≤ 26) (R : Bool)
  (hR : Ev (fun k => spec_l01Form.l0 k (x3 : Int) (((i : Nat) + 1 : Nat) : Int) (t : Int) s ac ns) (R, (t : Int), s)) (hni : ns.length ≤ 1048576) (d : Nat) : ∀ j, j + d = ns[i].length →
  Ev (fun k => spec_l01Form.l1 k (x3 : Int) (i : Int) (j : Int) (t : Int) s ac ns) (okCells x3 (ns[i].drop j) && R, (t : Int), s) := by
 induction d with
 | zero =>
  intro j hj; apply Ev.succ; simp only [spec_l01Form.l1]; refine Ev.pos (by omega) ?_; refine Ev.pos (by omega) ?_; rw [rd4_nat ns i hi]; refine Ev.neg (by omega) ?_; rw [w64 (by omega) (by omega), List.drop_of_length_le (by omega)]; simp only [okCells, List.all_nil, Bool.true_and]; exact hR
 | succ d ih =>
  intro j hj; apply Ev.succ; simp only [spec_l01Form.l1]; refine Ev.pos (by omega) ?_; refine Ev.pos (by omega) ?_; rw [rd4_nat ns i hi]; refine Ev.pos (by omega) ?_; refine Ev.pos (by omega) ?_; rw [rd_nat _ _ (by omega)]; refine Ev.bind (Ev.const (in_eq _ _ _)) ?_; rw [show okCells x3 (ns[i].drop j) = ((decide (0 ≤ ns[i][j]) && decide (ns[i][j] < x3)) && okCells x3 (ns[i].drop (j + 1))) from drop_all _ _ _ (by omega)]; rw [w64 (n := (x3 : Int) - 1) (by omega) (by omega)]; rw [show decide (ns[i][j] ≤ (x3 : Int) - 1) = decide (ns[i][j] < (x3 : Int)) by apply decide_eq_decide.2; omega]; by_cases c : (decide (0 ≤ ns[i][j]) && decide (ns[i][j] < (x3 : Int))) = true
  ·rw [c]; refine Ev.pos (by first | rfl | trivial) ?_; rw [w64 (by omega) (by omega)]; simp only [Bool.true_and]; exact ih (j + 1) (by omega)
  ·rw [Bool.not_eq_true] at c; rw [c]; exact Ev.neg (by simp) (Ev.const (by simp))
theorem spec_form_l0 (t : Nat) (ht : t ≤ 3) (s : Int) (ac : List Bool) (ns : List (List Int)) (x3 : Nat) (hx3 : x3 ≤ 150) (hni : ns.length ≤ 1048576) (d : Nat) : ∀ i, i + d = ns.length →
  Ev (fun k => spec_l01Form.l0 k (x3 : Int) (i : Int) (t : Int) s ac ns) (okRows (wd t) x3 (ns.drop i), (t : Int), s) := by
 induction d with
 | zero =>
  intro i hi; apply Ev.succ; simp only [spec_l01Form.l0]; refine Ev.neg (by omega) ?_; rw [List.drop_of_length_le (by omega)]; exact Ev.const rfl
 | succ d ih =>
  intro i hi; apply Ev.succ; simp only [spec_l01Form.l0]; refine Ev.pos (by omega) ?_; refine Ev.pos (by omega) ?_; rw [rd4_nat ns i (by omega)]; refine Ev.bind (wideS_ev t ht) ?_; rw [show okRows (wd t) x3 (ns.drop i) = ((decide (ns[i].length = wd t) && okCells x3 ns[i]) && okRows (wd t) x3 (ns.drop (i + 1))) from drop_all _ _ _ (by omega)]; have := wd_le t ht; by_cases c : ns[i].length = wd t
  ·refine Ev.pos (by omega) ?_; have h := spec_form_l1 t s ac ns x3 hx3 i (by omega) (by omega) _ (ih (i + 1) (by omega)) hni ns[i].length 0 (by omega); rw [List.drop_zero] at h; simp only [c, decide_true, Bool.true_and]; exact h
  ·refine Ev.neg (by omega) ?_; simp only [c, decide_false, Bool.false_and]; exact Ev.const rfl
theorem spec_ok_ev (t s : Int) (ac : List Bool) (ns : List (List Int)) (h : SzOK ac ns) : Ev (fun k => spec_l01Ok.f k t s ac ns) (okRel t s ac ns, t, s) := by
 unfold spec_l01Ok.f; have h1 := h.1; by_cases c : ac.length ≤ 150
 ·refine Ev.pos (by omega) ?_; refine Ev.bind (a := (okRel t s ac ns, t, s)) ?_ (Ev.now _); unfold spec_l01Form.f; refine Ev.bind (Ev.const (in_eq _ _ _)) ?_; by_cases ct : 1 ≤ t ∧ t ≤ 3
  ·obtain ⟨n, rfl⟩ : ∃ n : Nat, t = n := ⟨t.toNat, by omega⟩; simp only [show decide ((1 : Int) ≤ n) = true by simpa using ct.1, show decide ((n : Int) ≤ 3) = true by simpa using ct.2, Bool.true_and]; refine Ev.pos (by first | rfl | trivial) ?_; by_cases c1 : ac.length < 1
   ·refine Ev.pos (by omega) ?_; apply Ev.succ; simp only [spec_l01Form.j0]; refine Ev.pos (by first | rfl | trivial) ?_; refine Ev.const ?_; simp [okRel, show ¬ 1 ≤ ac.length by omega]
   ·refine Ev.neg (by omega) ?_; refine Ev.bind (Ev.const (in_eq _ _ _)) ?_; rw [w64 (n := (ac.length : Int) - 1) (by omega) (by omega)]; by_cases cs : 0 ≤ s ∧ s < ac.length
    ·simp only [show decide ((0 : Int) ≤ s) = true by simpa using cs.1, show decide (s ≤ (ac.length : Int) - 1) = true from decide_eq_true (by omega), Bool.true_and]; refine Ev.pos (by first | rfl | trivial) ?_; apply Ev.succ; simp only [spec_l01Form.j0]; by_cases cn : ns.length = ac.length
     ·refine Ev.neg (by simp [cn]) ?_; have h0 := spec_form_l0 n (by omega) s ac ns ac.length c (by have := h.2.1; omega) ns.length 0 (by omega); rw [List.drop_zero] at h0
      have e : okRel (n : Int) s ac ns = okRows (wd n) ac.length ns := by
       simp only [okRel, Int.toNat_natCast]; simp only [show decide ((1 : Int) ≤ n) = true by simpa using ct.1, show decide ((n : Int) ≤ 3) = true by simpa using ct.2, show decide (1 ≤ ac.length) = true from decide_eq_true (by omega), show decide (ac.length ≤ 150) = true from decide_eq_true c, cn, show decide ((0 : Int) ≤ s) = true by simpa using cs.1, show decide (s < (ac.length : Int)) = true from decide_eq_true cs.2, decide_true, Bool.true_and]
      rw [e]; exact h0
     ·refine Ev.pos (by simpa using fun e => cn (by omega)) ?_; refine Ev.const ?_; simp [okRel, cn]
    ·refine Ev.neg ?_ ?_
     ·intro e; rw [Bool.and_eq_true, decide_eq_true_eq, decide_eq_true_eq] at e; exact cs ⟨e.1, by omega⟩
     ·apply Ev.succ; simp only [spec_l01Form.j0]; refine Ev.pos (by first | rfl | trivial) ?_; refine Ev.const ?_
      have : (decide (0 ≤ s) && decide (s < (ac.length : Int))) = false := by
       rw [Bool.eq_false_iff]; intro e; rw [Bool.and_eq_true, decide_eq_true_eq, decide_eq_true_eq] at e; exact cs e
      congr 2
      simp only [okRel]
      rcases Bool.and_eq_false_iff.1 this with e | e <;> rw [e] <;> simp
  ·have e : (decide (1 ≤ t) && decide (t ≤ 3)) = false := by
    rw [Bool.eq_false_iff]; intro e; rw [Bool.and_eq_true, decide_eq_true_eq, decide_eq_true_eq] at e; exact ct e
   rw [e]; refine Ev.neg (by simp) ?_; apply Ev.succ; simp only [spec_l01Form.j0]; refine Ev.pos (by first | rfl | trivial) ?_; refine Ev.const ?_; simp [okRel, e]
 ·refine Ev.neg (by omega) ?_; refine Ev.const ?_; simp [okRel, c]
theorem impl_l1 (t : Nat) (s : Int) (ac : List Bool) (ns : List (List Int)) (x3 : Nat) (hx3 : x3 ≤ 150) (i : Nat) (hni : i < 1048576) (l : List Int) (hl : l.length ≤ 26) (R : Bool)
  (hR : Ev (fun k => impl_ValidRelation.l0 k (x3 : Int) ns (ns.length : Int) (((i : Nat) + 1 : Nat) : Int) (t : Int) s ac ns) R) (d : Nat) : ∀ j, j + d = l.length →
  Ev (fun k => impl_ValidRelation.l1 k (x3 : Int) ns (ns.length : Int) (i : Int) l (l.length : Int) (j : Int) (t : Int) s ac ns) (okCells x3 (l.drop j) && R) := by
 induction d with
 | zero =>
  intro j hj; apply Ev.succ; simp only [impl_ValidRelation.l1]; refine Ev.neg (by omega) ?_; rw [w64 (by omega) (by omega), List.drop_of_length_le (by omega)]; simp only [okCells, List.all_nil, Bool.true_and]; exact hR
 | succ d ih =>
  intro j hj; apply Ev.succ; simp only [impl_ValidRelation.l1]; refine Ev.pos (by omega) ?_; refine Ev.pos (by omega) ?_; refine Ev.pos (by omega) ?_; rw [rd_nat _ _ (by omega)]; refine Ev.bind (Ev.const (within_eq _ _ _)) ?_; rw [show okCells x3 (l.drop j) = ((decide (0 ≤ l[j]) && decide (l[j] < x3)) && okCells x3 (l.drop (j + 1))) from drop_all _ _ _ (by omega)]; rw [w64 (n := (x3 : Int) - 1) (by omega) (by omega)]; rw [show decide (l[j] ≤ (x3 : Int) - 1) = decide (l[j] < (x3 : Int)) by apply decide_eq_decide.2; omega]; by_cases c : (decide (0 ≤ l[j]) && decide (l[j] < (x3 : Int))) = true
  ·rw [c]; refine Ev.pos (by first | rfl | trivial) ?_; rw [w64 (by omega) (by omega)]; simp only [Bool.true_and]; exact ih (j + 1) (by omega)
  ·rw [Bool.not_eq_true] at c; rw [c]; exact Ev.neg (by simp) (Ev.const (by simp))
theorem impl_l0 (t : Nat) (ht : t ≤ 3) (s : Int) (ac : List Bool) (ns : List (List Int)) (x3 : Nat) (hx3 : x3 ≤ 150) (hni : ns.length ≤ 1048576) (d : Nat) : ∀ i, i + d = ns.length →
  Ev (fun k => impl_ValidRelation.l0 k (x3 : Int) ns (ns.length : Int) (i : Int) (t : Int) s ac ns) (okRows (wd t) x3 (ns.drop i)) := by
 induction d with
 | zero =>
  intro i hi; apply Ev.succ; simp only [impl_ValidRelation.l0]; refine Ev.neg (by omega) ?_; rw [List.drop_of_length_le (by omega)]; exact Ev.const rfl
 | succ d ih =>
  intro i hi; apply Ev.succ; simp only [impl_ValidRelation.l0]; refine Ev.pos (by omega) ?_; refine Ev.pos (by omega) ?_; refine Ev.pos (by omega) ?_; rw [rd4_nat ns i (by omega)]; refine Ev.bind (wideI_ev t ht) ?_; rw [show okRows (wd t) x3 (ns.drop i) = ((decide (ns[i].length = wd t) && okCells x3 ns[i]) && okRows (wd t) x3 (ns.drop (i + 1))) from drop_all _ _ _ (by omega)]; have := wd_le t ht; by_cases c : ns[i].length = wd t
  ·refine Ev.pos (by omega) ?_; have h := impl_l1 t s ac ns x3 hx3 i (by omega) ns[i] (by omega) _ (ih (i + 1) (by omega)) ns[i].length 0 (by omega); rw [List.drop_zero] at h; simp only [c, decide_true, Bool.true_and]; rw [c] at h; exact h
  ·refine Ev.neg (by omega) ?_; simp only [c, decide_false, Bool.false_and]; exact Ev.const rfl
theorem impl_ValidRelation_ev (t s : Int) (ac : List Bool) (ns : List (List Int)) (h : SzOK ac ns) : Ev (fun k => impl_ValidRelation.f k t s ac ns) (okRel t s ac ns) := by
 have hj0 : ∀ n : Int, Ev (fun k => impl_ValidRelation.j0 k n true t s ac ns) false := fun n => by
  apply Ev.succ; simp only [impl_ValidRelation.j0]; exact Ev.pos (by first | rfl | trivial) (Ev.const rfl)
 have h1 := h.1; unfold impl_ValidRelation.f; refine Ev.bind (Ev.const (areTapes_eq _)) ?_; by_cases ct : 1 ≤ t ∧ t ≤ 3
 ·obtain ⟨n, rfl⟩ : ∃ n : Nat, t = n := ⟨t.toNat, by omega⟩; simp only [show decide ((1 : Int) ≤ n) = true by simpa using ct.1, show decide ((n : Int) ≤ 3) = true by simpa using ct.2, Bool.true_and]; refine Ev.pos (by first | rfl | trivial) ?_; refine Ev.bind (Ev.const (within_eq _ _ _)) ?_; by_cases c1 : 1 ≤ ac.length ∧ ac.length ≤ 150
  ·refine Ev.pos (by simp; omega) ?_; by_cases cn : ns.length = ac.length
   ·refine Ev.pos (by omega) ?_; refine Ev.bind (Ev.const (within_eq _ _ _)) ?_; rw [w64 (n := (ac.length : Int) - 1) (by omega) (by omega)]; by_cases cs : 0 ≤ s ∧ s < ac.length
    ·simp only [show decide ((0 : Int) ≤ s) = true by simpa using cs.1, show decide (s ≤ (ac.length : Int) - 1) = true from decide_eq_true (by omega), Bool.true_and, Bool.not_true]; apply Ev.succ; simp only [impl_ValidRelation.j0]; refine Ev.neg (by simp) ?_; have h0 := impl_l0 n (by omega) s ac ns ac.length c1.2 (by have := h.2.1; omega) ns.length 0 (by omega); rw [List.drop_zero] at h0
     have e : okRel (n : Int) s ac ns = okRows (wd n) ac.length ns := by
      simp only [okRel, Int.toNat_natCast]; simp only [show decide ((1 : Int) ≤ n) = true by simpa using ct.1, show decide ((n : Int) ≤ 3) = true by simpa using ct.2, show decide (1 ≤ ac.length) = true from decide_eq_true (by omega), show decide (ac.length ≤ 150) = true from decide_eq_true c1.2, cn, show decide ((0 : Int) ≤ s) = true by simpa using cs.1, show decide (s < (ac.length : Int)) = true from decide_eq_true cs.2, decide_true, Bool.true_and]
     rw [e]; exact h0
    ·have e1 : (decide (0 ≤ s) && decide (s ≤ (ac.length : Int) - 1)) = false := by
      rw [Bool.eq_false_iff]; intro e; rw [Bool.and_eq_true, decide_eq_true_eq, decide_eq_true_eq] at e; exact cs ⟨e.1, by omega⟩
     have e2 : (decide (0 ≤ s) && decide (s < (ac.length : Int))) = false := by
      rw [Bool.eq_false_iff]; intro e; rw [Bool.and_eq_true, decide_eq_true_eq, decide_eq_true_eq] at e; exact cs e
     have e : okRel (n : Int) s ac ns = false := by
      simp only [okRel]
      rcases Bool.and_eq_false_iff.1 e2 with e | e <;> rw [e] <;> simp
     rw [e1, e]; exact hj0 _
   ·refine Ev.neg (by omega) ?_; (have e : okRel (n : Int) s ac ns = false := by simp [okRel, cn]); rw [e]; exact hj0 _
  ·refine Ev.neg ?_ ?_
   ·intro e; rw [Bool.and_eq_true, decide_eq_true_eq, decide_eq_true_eq] at e; exact c1 ⟨by omega, by omega⟩
   ·have e : okRel (n : Int) s ac ns = false := by
     simp only [okRel]; by_cases c2 : 1 ≤ ac.length
     ·simp [show ¬ ac.length ≤ 150 from fun h => c1 ⟨c2, h⟩]
     ·simp [c2]
    rw [e]; exact hj0 _
 ·have e : (decide (1 ≤ t) && decide (t ≤ 3)) = false := by
   rw [Bool.eq_false_iff]; intro e; rw [Bool.and_eq_true, decide_eq_true_eq, decide_eq_true_eq] at e; exact ct e
  rw [e]; refine Ev.neg (by simp) ?_; (have e : okRel t s ac ns = false := by simp [okRel, e]); rw [e]; exact hj0 _
/-- What a valid relation gives. -/
theorem okRel_parts {t s : Int} {ac : List Bool} {ns : List (List Int)} (h : okRel t s ac ns = true) : ∃ n : Nat, t = (n : Int) ∧ 1 ≤ n ∧ n ≤ 3 ∧ 1 ≤ ac.length ∧ ac.length ≤ 150 ∧ 0 ≤ s ∧ s < (ac.length : Int) ∧ TableOK (wd n) ac.length ns := by
 simp only [okRel, Bool.and_eq_true, decide_eq_true_eq] at h; obtain ⟨⟨⟨⟨⟨⟨⟨h1, h2⟩, h3⟩, h4⟩, h5⟩, h6⟩, h7⟩, h8⟩ := h; refine ⟨t.toNat, by omega, by omega, by omega, h3, h4, h6, h7, h5, fun row hrow => ?_⟩; simp only [okRows, List.all_eq_true, Bool.and_eq_true, decide_eq_true_eq, okCells] at h8; have := h8 row hrow; exact ⟨this.1, fun x hx => this.2 x hx⟩
def padsT (t : Nat) : List Int := (padsL 20 (t : Int) (wd t) 0 (List.replicate (wd t) 0)).getD []
theorem pads_fin : ∀ t : Fin 4, padsL 20 ((t.val : Nat) : Int) (wd t.val) 0 (List.replicate (wd t.val) 0) = some (padsT t.val) ∧ (padsT t.val).length = wd t.val ∧ ∀ x ∈ padsT t.val, 0 ≤ x ∧ x < 2 ^ t.val := by decide +kernel
def endedOk (t : Nat) : Bool := (List.range (2 ^ t)).all fun p => (List.range (wd t)).all fun c => spec_l01Ended.f 20 (t : Int) (p : Int) (c : Int) == some (endE (padsT t) (p : Int) (c : Int))
theorem ended_fin : ∀ t : Fin 4, endedOk t.val = true := by decide +kernel
theorem atk {α : Type} {g : Nat → Option α} {r : α} (hg : ∀ k, LeO (g k) (g (k + 1))) {k n : Nat} (hn : k ≤ n) (h : g k = some r) : g n = some r := at_rounds hg hn h
theorem ended_at {t : Nat} (ht : t ≤ 3) {k : Nat} (hk : 20 ≤ k) {p c : Int} (p0 : 0 ≤ p) (p1 : p < 2 ^ t) (c0 : 0 ≤ c) (c1 : c < (wd t : Int)) : spec_l01Ended.f k (t : Int) p c = some (endE (padsT t) p c) := by
 refine atk (k := 20) (fun k => spec_l01Ended.mono _ _ _ k) hk ?_; have h := ended_fin ⟨t, by omega⟩; simp only [endedOk, List.all_eq_true, List.mem_range, beq_iff_eq] at h
 have hp : p.toNat < 2 ^ t := by
  (have : ((2 ^ t : Nat) : Int) = 2 ^ t := by push_cast; rfl); omega
 have := h p.toNat hp c.toNat (by omega)
 rwa [show ((p.toNat : Nat) : Int) = p by omega, show ((c.toNat : Nat) : Int) = c by omega] at this
theorem size_le {n : Nat} (h1 : 1 ≤ n) (h3 : n ≤ 3) : (1 : Int) ≤ 2 ^ n ∧ (2 : Int) ^ n ≤ 8 ∧ (2 : Nat) ^ n ≤ 8 := by
 have : n = 1 ∨ n = 2 ∨ n = 3 := by omega
 rcases this with rfl | rfl | rfl <;> decide
/-- The tidy table of a relation's language. -/
def TidyIs (t : Nat) (s : Int) (ac : List Bool) (ns : List (List Int)) (r : List Bool × List (List Int)) : Prop := ∃ f, tidyD (wd t) f (lngR (wd t) (padsT t) ac ns (s, 0)) = some r
theorem impl_tidy_ev {n : Nat} {s : Int} {ac : List Bool} {ns : List (List Int)} (h1 : 1 ≤ n) (h3 : n ≤ 3) (hl : ac.length ≤ 2000) (s0 : 0 ≤ s) (s1 : s < (ac.length : Int)) (hT : TableOK (wd n) ac.length ns) :
  ∃ r, TidyIs n s ac ns r ∧ Ev (fun k => impl_machine_tidy.f k (n : Int) s ac ns) ((n : Int), 0, r.1, r.2) := by
 obtain ⟨q1, q2, q3⟩ := pads_fin ⟨n, by omega⟩; simp only at q1 q2 q3; obtain ⟨z1, z2, z3⟩ := size_le h1 h3; have hw := wd_le n h3; have law := fun (f : Nat) (hf : 1900002 ≤ f) => tidy_law hT rfl q2 (fun x hx => ⟨(q3 x hx).1, by have := (q3 x hx).2; omega⟩) (by omega) (by omega) s0 s1 hf; obtain ⟨p0, r, hp0, hpl0, hr0, hd0⟩ := law 1900002 (by omega); refine ⟨r, ⟨_, hd0⟩, 1900002, fun k hk => ?_⟩; obtain ⟨p, r', hp, hpl, hr, hd⟩ := law k hk; obtain rfl := tidyD_same hd0 hd; have hwid : impl_widthOf.f k (n : Int) = some ((wd n : Nat) : Int) := atk (k := 10) (fun k => impl_widthOf.mono _ k) (by omega) (wideI_fin ⟨n, by omega⟩); have hpad : padsL k (n : Int) (wd n) 0 (List.replicate (wd n) 0) = some (padsT n) := atk (k := 20) (fun k => padsL_mono k _ _ _ _) (by omega) q1; show impl_machine_tidy.f k (n : Int) s ac ns = _; unfold impl_machine_tidy.f; rw [hwid]; simp only [Option.bind_some, Int.toNat_natCast]; rw [if_pos ⟨by omega, by omega, by unfold good2 inI64; simp; omega⟩, hpad]; simp only [Option.bind_some]; rw [hp]; simp only [Option.bind_some]; rw [if_pos hpl, hr]; rfl
theorem spec_tidied_ev {n : Nat} {s : Int} {ac : List Bool} {ns : List (List Int)} (h1 : 1 ≤ n) (h3 : n ≤ 3) (hl : ac.length ≤ 2000) (s0 : 0 ≤ s) (s1 : s < (ac.length : Int)) (hT : TableOK (wd n) ac.length ns)
  {r : List Bool × List (List Int)} (hr : TidyIs n s ac ns r) : Ev (fun k => spec_l01Tidied.f k (n : Int) s ac ns) ((n : Int), 0, r.1, r.2, (n : Int), s) := by
 obtain ⟨f0, hd0⟩ := hr; obtain ⟨q1, q2, q3⟩ := pads_fin ⟨n, by omega⟩; simp only at q1 q2 q3; obtain ⟨z1, z2, z3⟩ := size_le h1 h3; have hw := wd_le n h3; refine ⟨1000000000, fun k hk => ?_⟩; have hN : ac.length * 2 ^ n ≤ 2000 * 8 := Nat.mul_le_mul hl z3
 have hs : SizeOK (wd n) ac.length (ac.length * 2 ^ n) (2 ^ n) (n : Int) k (padsT n) :=
  ⟨z1, z2, by push_cast; rfl, by omega, q2, q3, fun p c p0 p1 c0 c1 => ended_at h3 (by omega) p0 p1 c0 c1⟩
 obtain ⟨p, hp, hp0, hpl, hpT, hpL⟩ := rightF_law hs hT rfl s0 s1 (f := k) (by omega); have hb : p.1.length * (2 * p.1.length + wd n + 20) ≤ 16001 * 32048 := Nat.mul_le_mul (by omega) (by omega); obtain ⟨r', hr', hd'⟩ := tidiedF_law (t := (n : Int)) hpT rfl hp0 (by omega) (by omega) (k := k) (f := k) (by omega) (by omega); rw [hpL] at hd'; obtain rfl := tidyD_same hd0 hd'; have hwid : spec_l01Wide.f k (n : Int) = some ((wd n : Nat) : Int) := atk (k := 10) (fun k => spec_l01Wide.mono _ k) (by omega) (wideS_fin ⟨n, by omega⟩); show spec_l01Tidied.f k (n : Int) s ac ns = _; unfold spec_l01Tidied.f spec_l01Right.f; rw [hwid]; simp only [Option.bind_some, Int.toNat_natCast]; rw [if_pos ⟨by omega, by omega, by omega, by omega, by omega⟩, hp]; simp only [Option.bind_some]; rw [if_pos ⟨by omega, fun row hrow => by rw [(hpT.2 row hrow).1]; omega⟩, hr']; rfl
section
variable {K : Type} [DecidableEq K] {good : K → Bool} {acc : K → Option Bool} {next : K → Int → Option K} {W : Nat}
theorem growRow_met {nx : Int → Option K} : ∀ (m : Nat) (c : Int) (l : List K) (row : List Int) (l1 : List K) (row1 : List Int), growRow good nx m c l row = some (l1, row1) →
  ∃ e, row1 = row ++ e ∧ e.length = m ∧ l.length ≤ l1.length ∧ ∀ q : Nat, l.length ≤ q → q < l1.length → ∃ j : Nat, j < m ∧ e[j]? = some (q : Int) := by
 intro m
 induction m with
 | zero =>
  intro c l row l1 row1 h; simp only [growRow, Option.some.injEq, Prod.mk.injEq] at h; obtain ⟨rfl, rfl⟩ := h; exact ⟨[], by simp, rfl, Nat.le_refl _, fun q h1 h2 => by omega⟩
 | succ m ih =>
  intro c l row l1 row1 h; simp only [growRow] at h; obtain ⟨t, ht, h⟩ := oB h
  split at h
  ·split at h
   ·obtain ⟨e, he, hm, hl, hq⟩ := ih _ _ _ _ _ h; refine ⟨(l.idxOf t : Int) :: e, by simp [he], by simp [hm], hl, fun q h1 h2 => ?_⟩; obtain ⟨j, hj, hj2⟩ := hq q h1 h2; exact ⟨j + 1, by omega, by simpa using hj2⟩
   ·split at h
    ·obtain ⟨e, he, hm, hl, hq⟩ := ih _ _ _ _ _ h; rw [List.length_append, List.length_singleton] at hl hq; refine ⟨(l.length : Int) :: e, by simp [he], by simp [hm], by omega, fun q h1 h2 => ?_⟩; by_cases e0 : q = l.length
     ·exact ⟨0, by omega, by simp [e0]⟩
     ·obtain ⟨j, hj, hj2⟩ := hq q (by omega) h2; exact ⟨j + 1, by omega, by simpa using hj2⟩
    ·cases h
  ·cases h
def Met (W n : Nat) (rs : List (List Int)) : Prop := ∀ q : Nat, 1 ≤ q → q < n → ∃ (i : Nat) (row : List Int) (j : Nat), i < q ∧ rs[i]? = some row ∧ j < W ∧ row[j]? = some (q : Int)
theorem growL_met : ∀ (f : Nat) (l : List K) (bs : List Bool) (rs : List (List Int)) (r : List Bool × List (List Int)), rs.length = bs.length → bs.length ≤ l.length → Met W l.length rs → growL good acc next W f l bs rs = some r → Met W r.1.length r.2 := by
 intro f
 induction f with
 | zero => intro l bs rs r _ _ _ h; cases h
 | succ f ih =>
  intro l bs rs r hlen hle hM h; simp only [growL] at h
  split at h
  ·next e =>
   obtain rfl := Option.some.inj h; have := List.getElem?_eq_none_iff.1 e; (have e2 : bs.length = l.length := by omega)
   simpa [e2] using hM
  ·next k e =>
   have hi := (List.getElem?_eq_some_iff.1 e).1; obtain ⟨⟨l1, row1⟩, hrow, h⟩ := oB h; obtain ⟨a, ha, h⟩ := oB h; obtain ⟨e1, he1, hm, hl, hq⟩ := growRow_met _ _ _ _ _ _ hrow; rw [List.nil_append] at he1; subst he1; refine ih _ _ _ _ (by simp [hlen]) (by simp; omega) (fun q q1 q2 => ?_) h; by_cases c : q < l.length
   ·obtain ⟨i, row, j, h1, h2, h3, h4⟩ := hM q q1 c; exact ⟨i, row, j, h1, by rw [List.getElem?_append_left (List.getElem?_eq_some_iff.1 h2).1]; exact h2, h3, h4⟩
   ·obtain ⟨j, h3, h4⟩ := hq q (by omega) q2; exact ⟨bs.length, row1, j, by omega, by rw [← hlen]; simp, h3, h4⟩
end
/-- The form of a tidy table. -/
theorem tidyD_table {W f : Nat} {L : List Int → Bool} {r : List Bool × List (List Int)} (h : tidyD W f L = some r) : TableOK W r.1.length r.2 ∧ 0 < r.1.length ∧ r.1.length ≤ 1900000 ∧ Met W r.1.length r.2 := by
 classical
 unfold tidyD at h
 obtain ⟨h1, h2, h3, _⟩ := growL_table (S := fun _ => True) (Λ := fun (L : List Int → Bool) (w : List Int) => L w && w.all fun c => decide (0 ≤ c) && decide (c < (W : Int)))
  (fun k c t _ c0 c1 e => ⟨trivial, fun w => by obtain rfl := Option.some.inj e; simp [c0, c1]⟩) (fun k b _ e => by obtain rfl := Option.some.inj e; simp) (fun k c w hc => by
   by_cases c0 : 0 ≤ c
   ·have : ¬ c < (W : Int) := fun h => hc ⟨c0, h⟩; simp [this]
   ·simp [c0]) (start := L) trivial h
 exact ⟨h1, h2, h3, growL_met _ _ _ _ _ rfl (by simp) (fun q h1 h2 => by simp at h2; omega) h⟩
def mB : Nat → Nat → List Bool
 | _, 0 => []
 | a, n + 1 => (Int.tmod (a : Int) 3 == 0) :: mB (a + 1) n
def mI : Nat → Nat → List Int
 | _, 0 => []
 | a, n + 1 => (a : Int) :: mI (a + 1) n
def mII : Nat → List (List Int) → List (List Int)
 | _, [] => []
 | a, r :: rs => mI a r.length :: mII (a + r.length) rs
def sumL : List (List Int) → Nat
 | [] => 0
 | r :: rs => r.length + sumL rs
instance decTail : DecidableEq (List Bool × List (List Int) × Int) := inferInstance
instance decRel5 : DecidableEq (Int × Int × List Bool × List (List Int) × Int) := fun a b => @instDecidableEqProd _ _ inferInstance (fun x y => @instDecidableEqProd _ _ inferInstance decTail x y) a b
theorem Ev.guard {α β : Type} {g : Nat → Option α} {a : α} {f : Nat → Option β} {r : β} {D : ∀ k, Decidable (g k = some a)} (hg : Ev g a) (h : Ev f r) : Ev (fun k => if g k = some a then f k else none) r := by
 obtain ⟨K, hg⟩ := hg; obtain ⟨L, h⟩ := h; exact ⟨max K L, fun k hk => (if_pos (hg k (by omega))).trans (h k (by omega))⟩
theorem set_mid {α : Type} (p s : List α) (x v : α) : (p ++ x :: s).set p.length v = (p ++ [v]) ++ s := by simp
theorem getD_mid {α : Type} (d : α) (p s : List α) (x : α) : (p ++ x :: s).getD p.length d = x := by simp [List.getD_eq_getElem?_getD]
theorem markInt_l0 : ∀ (s p : List Int) (a : Nat), a + s.length ≤ 1152921504606846976 → p.length + s.length ≤ 35184372088832 → Ev (fun k => laws_markInt64S.l0 k (p ++ s) (a : Int) (p.length : Int)) (((a + s.length : Nat) : Int), p ++ mI a s.length) := by
 intro s
 induction s with
 | nil =>
  intro p a h1 h2; apply Ev.succ; simp only [laws_markInt64S.l0]; refine Ev.neg (by simp) ?_; exact Ev.const (by simp [mI])
 | cons x s ih =>
  intro p a h1 h2; simp only [List.length_cons] at h1 h2; apply Ev.succ; simp only [laws_markInt64S.l0]; refine Ev.pos (by simp; omega) (Ev.pos (by omega) ?_); rw [w64 (by omega) (by omega), w64 (by omega) (by omega), Int.toNat_natCast, set_mid]; have h := ih (p ++ [(a : Int)]) (a + 1) (by omega) (by simp; omega); (have e1 : (((p ++ [(a : Int)]).length : Nat) : Int) = (p.length : Int) + 1 := by simp); rw [e1] at h; (have e2 : ((a + 1 : Nat) : Int) = (a : Int) + 1 := by omega); rw [e2] at h; (have e3 : (p ++ [(a : Int)]) ++ mI (a + 1) s.length = p ++ mI a (x :: s).length := by simp [mI]); rw [e3, show a + 1 + s.length = a + (x :: s).length by simp; omega] at h; exact h
theorem markInt_ev (l : List Int) (a : Nat) (h1 : a + l.length ≤ 1152921504606846976) (h2 : l.length ≤ 35184372088832) : Ev (fun k => laws_markInt64S.f k l (a : Int)) (((a + l.length : Nat) : Int), mI a l.length) := by
 have h := markInt_l0 l [] a h1 (by simpa using h2)
 simpa [laws_markInt64S.f] using h
theorem heldInt_l0 : ∀ (n a : Nat) (p : List Int), a + n ≤ 1152921504606846976 → p.length + n ≤ 35184372088832 → Ev (fun k => laws_heldInt64S.l0 k (p ++ mI a n) (a : Int) (p.length : Int)) ((a + n : Nat) : Int) := by
 intro n
 induction n with
 | zero =>
  intro a p h1 h2; apply Ev.succ; simp only [laws_heldInt64S.l0, mI, List.append_nil]; exact Ev.neg (by omega) (Ev.const (by simp))
 | succ n ih =>
  intro a p h1 h2; apply Ev.succ; simp only [laws_heldInt64S.l0, mI]; refine Ev.pos (by simp; omega) (Ev.pos (by omega) (Ev.pos ?_ ?_))
  ·unfold rd; rw [Int.toNat_natCast, getD_mid]
  ·rw [w64 (by omega) (by omega), w64 (by omega) (by omega)]; have h := ih (a + 1) (p ++ [(a : Int)]) (by omega) (by simp; omega); (have e1 : (((p ++ [(a : Int)]).length : Nat) : Int) = (p.length : Int) + 1 := by simp); (have e2 : ((a + 1 : Nat) : Int) = (a : Int) + 1 := by omega); rw [e1, e2, List.append_assoc, show a + 1 + n = a + (n + 1) by omega] at h; exact h
theorem heldInt_ev (n a : Nat) (h1 : a + n ≤ 1152921504606846976) (h2 : n ≤ 35184372088832) : Ev (fun k => laws_heldInt64S.f k (mI a n) (a : Int)) ((a + n : Nat) : Int) := by
 have h := heldInt_l0 n a [] h1 (by simpa using h2)
 simpa [laws_heldInt64S.f] using h
theorem sumL_le {rs : List (List Int)} {N : Nat} (h : ∀ x ∈ rs, x.length ≤ N) : sumL rs ≤ rs.length * N := by
 induction rs with
 | nil => simp [sumL]
 | cons r rs ih =>
  have h1 := ih (fun x hx => h x (List.mem_cons_of_mem _ hx)); have h2 := h r (by simp); simp only [sumL, List.length_cons, Nat.add_mul]; omega
theorem markBool_l0 : ∀ (s p : List Bool) (a : Nat), a + s.length ≤ 1152921504606846976 → p.length + s.length ≤ 35184372088832 → Ev (fun k => laws_markBoolS.l0 k (p ++ s) (a : Int) (p.length : Int)) (((a + s.length : Nat) : Int), p ++ mB a s.length) := by
 intro s
 induction s with
 | nil =>
  intro p a h1 h2; apply Ev.succ; simp only [laws_markBoolS.l0]; refine Ev.neg (by simp) ?_; exact Ev.const (by simp [mB])
 | cons x s ih =>
  intro p a h1 h2; simp only [List.length_cons] at h1 h2; apply Ev.succ; simp only [laws_markBoolS.l0]; refine Ev.pos (by simp; omega) (Ev.pos (by omega) ?_); rw [w64 (by omega) (by omega), w64 (by omega) (by omega), Int.toNat_natCast, set_mid]; have h := ih (p ++ [Int.tmod (a : Int) 3 == 0]) (a + 1) (by omega) (by simp; omega); (have e1 : (((p ++ [Int.tmod (a : Int) 3 == 0]).length : Nat) : Int) = (p.length : Int) + 1 := by simp); rw [e1] at h; (have e2 : ((a + 1 : Nat) : Int) = (a : Int) + 1 := by omega); rw [e2] at h; (have e3 : (p ++ [Int.tmod (a : Int) 3 == 0]) ++ mB (a + 1) s.length = p ++ mB a (x :: s).length := by simp [mB]); rw [e3, show a + 1 + s.length = a + (x :: s).length by simp; omega] at h; exact h
theorem markBool_ev (l : List Bool) (a : Nat) (h1 : a + l.length ≤ 1152921504606846976) (h2 : l.length ≤ 35184372088832) : Ev (fun k => laws_markBoolS.f k l (a : Int)) (((a + l.length : Nat) : Int), mB a l.length) := by
 have h := markBool_l0 l [] a h1 (by simpa using h2)
 simpa [laws_markBoolS.f] using h
theorem heldBool_l0 : ∀ (n a : Nat) (p : List Bool), a + n ≤ 1152921504606846976 → p.length + n ≤ 35184372088832 → Ev (fun k => laws_heldBoolS.l0 k (p ++ mB a n) (a : Int) (p.length : Int)) ((a + n : Nat) : Int) := by
 intro n
 induction n with
 | zero =>
  intro a p h1 h2; apply Ev.succ; simp only [laws_heldBoolS.l0, mB, List.append_nil]; exact Ev.neg (by omega) (Ev.const (by simp))
 | succ n ih =>
  intro a p h1 h2; apply Ev.succ; simp only [laws_heldBoolS.l0, mB]; refine Ev.pos (by simp; omega) (Ev.pos (by omega) (Ev.neg ?_ ?_))
  ·rw [show rdOf false (p ++ (Int.tmod (a : Int) 3 == 0) :: mB (a + 1) n) (p.length : Int) = (Int.tmod (a : Int) 3 == 0) by unfold rdOf; rw [Int.toNat_natCast, getD_mid]]; simp
  ·rw [w64 (by omega) (by omega), w64 (by omega) (by omega)]; have h := ih (a + 1) (p ++ [Int.tmod (a : Int) 3 == 0]) (by omega) (by simp; omega); (have e1 : (((p ++ [Int.tmod (a : Int) 3 == 0]).length : Nat) : Int) = (p.length : Int) + 1 := by simp); (have e2 : ((a + 1 : Nat) : Int) = (a : Int) + 1 := by omega); rw [e1, e2, List.append_assoc, show a + 1 + n = a + (n + 1) by omega] at h; exact h
theorem heldBool_ev (n a : Nat) (h1 : a + n ≤ 1152921504606846976) (h2 : n ≤ 35184372088832) : Ev (fun k => laws_heldBoolS.f k (mB a n) (a : Int)) ((a + n : Nat) : Int) := by
 have h := heldBool_l0 n a [] h1 (by simpa using h2)
 simpa [laws_heldBoolS.f] using h
theorem markInts_l0 : ∀ (s p : List (List Int)) (a : Nat), a + sumL s ≤ 1152921504606846976 → p.length + s.length ≤ 35184372088832 → (∀ x ∈ s, x.length ≤ 35184372088832) →
  Ev (fun k => laws_markInt64SS.l0 k (p ++ s) (a : Int) (p.length : Int)) (((a + sumL s : Nat) : Int), p ++ mII a s) := by
 intro s
 induction s with
 | nil =>
  intro p a h1 h2 _; apply Ev.succ; simp only [laws_markInt64SS.l0]; refine Ev.neg (by simp) ?_; exact Ev.const (by simp [mII, sumL])
 | cons x s ih =>
  intro p a h1 h2 h3; simp only [List.length_cons, sumL] at h1 h2; apply Ev.succ; simp only [laws_markInt64SS.l0]; refine Ev.pos (by simp; omega) (Ev.pos (by omega) ?_); rw [Int.toNat_natCast, getD_mid, w64 (by omega) (by omega)]; refine Ev.bind (markInt_ev x a (by omega) (h3 x (by simp))) ?_; simp only; rw [set_mid]; have h := ih (p ++ [mI a x.length]) (a + x.length) (by omega) (by simp; omega) (fun y hy => h3 y (List.mem_cons_of_mem _ hy)); (have e1 : (((p ++ [mI a x.length]).length : Nat) : Int) = (p.length : Int) + 1 := by simp); rw [e1, List.append_assoc (cs := mII _ _), show a + x.length + sumL s = a + sumL (x :: s) by simp [sumL]; omega] at h; exact h
theorem markInts_ev (l : List (List Int)) (a : Nat) (h1 : a + sumL l ≤ 1152921504606846976) (h2 : l.length ≤ 35184372088832) (h3 : ∀ x ∈ l, x.length ≤ 35184372088832) : Ev (fun k => laws_markInt64SS.f k l (a : Int)) (((a + sumL l : Nat) : Int), mII a l) := by
 have h := markInts_l0 l [] a h1 (by simpa using h2) h3
 simpa [laws_markInt64SS.f] using h
theorem heldInts_l0 : ∀ (s p : List (List Int)) (a : Nat), a + sumL s ≤ 1152921504606846976 → p.length + s.length ≤ 35184372088832 → (∀ x ∈ s, x.length ≤ 35184372088832) →
  Ev (fun k => laws_heldInt64SS.l0 k (p ++ mII a s) (a : Int) (p.length : Int)) ((a + sumL s : Nat) : Int) := by
 intro s
 induction s with
 | nil =>
  intro p a h1 h2 _; apply Ev.succ; simp only [laws_heldInt64SS.l0, mII, List.append_nil]; exact Ev.neg (by omega) (Ev.const (by simp [sumL]))
 | cons x s ih =>
  intro p a h1 h2 h3; simp only [List.length_cons, sumL] at h1 h2; apply Ev.succ; simp only [laws_heldInt64SS.l0, mII]; refine Ev.pos (by simp; omega) (Ev.pos (by omega) ?_); rw [w64 (by omega) (by omega), rd4_nat _ _ (by simp)]; rw [show (p ++ mI a x.length :: mII (a + x.length) s)[p.length] = mI a x.length by simp]; refine Ev.bind (heldInt_ev x.length a (by omega) (h3 x (by simp))) (Ev.neg (by omega) ?_); have h := ih (p ++ [mI a x.length]) (a + x.length) (by omega) (by simp; omega) (fun y hy => h3 y (List.mem_cons_of_mem _ hy)); (have e1 : (((p ++ [mI a x.length]).length : Nat) : Int) = (p.length : Int) + 1 := by simp); rw [e1, List.append_assoc, show a + x.length + sumL s = a + sumL (x :: s) by simp [sumL]; omega] at h; exact h
theorem heldInts_ev (l : List (List Int)) (a : Nat) (h1 : a + sumL l ≤ 1152921504606846976) (h2 : l.length ≤ 35184372088832) (h3 : ∀ x ∈ l, x.length ≤ 35184372088832) : Ev (fun k => laws_heldInt64SS.f k (mII a l) (a : Int)) ((a + sumL l : Nat) : Int) := by
 have h := heldInts_l0 l [] a h1 (by simpa using h2) h3
 simpa [laws_heldInt64SS.f] using h
theorem sum_small {ac : List Bool} {ns : List (List Int)} (h : SzOK ac ns) : sumL ns ≤ 1099511627776 := by
 have := sumL_le h.2.2; have h2 : ns.length * 1048576 ≤ 1048576 * 1048576 := Nat.mul_le_mul_right _ h.2.1; omega
theorem heldRel_ev (t s : Int) (ac : List Bool) (ns : List (List Int)) (h : SzOK ac ns) (a : Nat) (ha : a ≤ 1048576) : Ev (fun k => laws_heldRelation.f k t s (mB a ac.length) (mII (a + ac.length) ns) (a : Int)) ((a + ac.length + sumL ns : Nat) : Int) := by
 have h0 := sum_small h; have h1 := h.1; have h2 := h.2.1; unfold laws_heldRelation.f; refine Ev.bind (heldBool_ev ac.length a (by omega) (by omega)) (Ev.neg (by omega) ?_); refine Ev.bind (heldInts_ev ns (a + ac.length) (by omega) (by omega) (fun x hx => by have := h.2.2 x hx; omega)) (Ev.neg (by omega) (Ev.now _))
theorem clone_eq (l : List Bool) (h : l.length ≤ 1000000000) : slices_Clone_bool_bool.f l = some l := by
 unfold slices_Clone_bool_bool.f; simp; exact h
theorem machineOf_l0 (t s : Int) (ac : List Bool) (ns : List (List Int)) (hl : ns.length ≤ 1048576) (hr : ∀ x ∈ ns, x.length ≤ 1048576) (d : Nat) : ∀ i : Nat, i + d = ns.length → Ev (fun k => impl_machineOf.l0 k ns (ns.length : Int) (i : Int) t s ac (ns.take i)) (t, s, ac, ns) := by
 induction d with
 | zero =>
  intro i hi; apply Ev.succ; simp only [impl_machineOf.l0]; refine Ev.neg (by omega) (Ev.const ?_); rw [List.take_of_length_le (by omega)]
 | succ d ih =>
  intro i hi; apply Ev.succ; simp only [impl_machineOf.l0]; refine Ev.pos (by omega) (Ev.pos (by omega) (Ev.pos (by omega) ?_)); rw [rd4_nat ns i (by omega)]; have hri := hr _ (List.getElem_mem (show i < ns.length by omega))
  have inner : ∀ (e j : Nat), j + e = ns[i].length → Ev (fun k => impl_machineOf.l1 k (ns[i].take j) ns (ns.length : Int) (i : Int) ns[i] (ns[i].length : Int) (j : Int) t s ac (ns.take i)) (t, s, ac, ns) := by
   intro e
   induction e with
   | zero =>
    intro j hj; apply Ev.succ; simp only [impl_machineOf.l1]; refine Ev.neg (by omega) (Ev.pos (by simp; omega) ?_); rw [w64 (by omega) (by omega), show ns[i].take j = ns[i] from List.take_of_length_le (by omega), List.take_append_getElem (show i < ns.length by omega)]; exact ih (i + 1) (by omega)
   | succ e ihe =>
    intro j hj; apply Ev.succ; simp only [impl_machineOf.l1]; refine Ev.pos (by omega) (Ev.pos (by omega) (Ev.pos (by omega) (Ev.pos (by simp; omega) ?_))); rw [w64 (by omega) (by omega), rd_nat _ _ (by omega), List.take_append_getElem (by omega)]; exact ihe (j + 1) (by omega)
  exact inner ns[i].length 0 (by omega)
theorem machineOf_ev (t s : Int) (ac : List Bool) (ns : List (List Int)) (h : SzOK ac ns) : Ev (fun k => impl_machineOf.f k t s ac ns) (t, s, ac, ns) := by
 unfold impl_machineOf.f; exact Ev.bind (Ev.const (clone_eq ac (by have := h.1; omega))) (machineOf_l0 t s ac ns h.2.1 h.2.2 ns.length 0 (by omega))
theorem asLongs_l0 (l : List Int) (hl : l.length ≤ 1048576) (d : Nat) : ∀ i : Nat, i + d = l.length → Ev (fun k => impl_asLongs.l0 k (l.take i) l (l.length : Int) (i : Int)) l := by
 induction d with
 | zero =>
  intro i hi; apply Ev.succ; simp only [impl_asLongs.l0]; refine Ev.neg (by omega) (Ev.const ?_); rw [List.take_of_length_le (by omega)]
 | succ d ih =>
  intro i hi; apply Ev.succ; simp only [impl_asLongs.l0]; refine Ev.pos (by omega) (Ev.pos (by omega) (Ev.pos (by omega) (Ev.pos (by simp; omega) ?_))); rw [w64 (by omega) (by omega), rd_nat _ _ (by omega), List.take_append_getElem (by omega)]; exact ih (i + 1) (by omega)
theorem asLongs_ev (l : List Int) (hl : l.length ≤ 1048576) : Ev (fun k => impl_asLongs.f k l) l := asLongs_l0 l hl l.length 0 (by omega)
theorem relationOf_l0 (t s : Int) (ac : List Bool) (ns : List (List Int)) (hl : ns.length ≤ 1048576) (hr : ∀ x ∈ ns, x.length ≤ 1048576) (d : Nat) : ∀ i : Nat, i + d = ns.length → Ev (fun k => impl_machine_relationOf.l0 k ns (ns.length : Int) (i : Int) t s ac (ns.take i)) (t, s, ac, ns, 0) := by
 induction d with
 | zero =>
  intro i hi; apply Ev.succ; simp only [impl_machine_relationOf.l0]; refine Ev.neg (by omega) (Ev.const ?_); rw [List.take_of_length_le (by omega)]
 | succ d ih =>
  intro i hi; apply Ev.succ; simp only [impl_machine_relationOf.l0]; refine Ev.pos (by omega) (Ev.pos (by omega) (Ev.pos (by omega) ?_)); refine Ev.bind (a := ns[i]) (by have h_ := asLongs_ev ns[i] (hr _ (List.getElem_mem (by omega))); have e_ : ns.getD (i : Int).toNat [] = ns[i] := (by simp [List.getD_eq_getElem?_getD, show i < ns.length by omega]); rw [← e_] at h_ ⊢; exact h_) (Ev.pos (by simp; omega) ?_); rw [w64 (by omega) (by omega), List.take_append_getElem (by omega)]; exact ih (i + 1) (by omega)
/-- What is told of a tidy table: too many states, or the table. -/
def told (t s : Int) (ac : List Bool) (ns : List (List Int)) : Int × Int × List Bool × List (List Int) × Int := if ac.length ≤ 150 then (t, s, ac, ns, 0) else (0, 0, [], [], 3)
theorem relationOf_ev (t s : Int) (ac : List Bool) (ns : List (List Int)) (h2 : ac.length = ns.length) (hr : ∀ x ∈ ns, x.length ≤ 1048576) : Ev (fun k => impl_machine_relationOf.f k t s ac ns) (told t s ac ns) := by
 unfold impl_machine_relationOf.f told; by_cases c : ac.length ≤ 150
 ·rw [if_pos c]; exact Ev.neg (by omega) (Ev.bind (Ev.const (clone_eq ac (by omega))) (relationOf_l0 t s ac ns (by omega) hr ns.length 0 (by omega)))
 ·rw [if_neg c]; exact Ev.pos (by omega) (Ev.now _)
theorem told_ok {W : Nat} {t s : Int} {ac : List Bool} {ns : List (List Int)} (hT : TableOK W ac.length ns) (hW : W ≤ 1000) : SzOK (told t s ac ns).2.2.1 (told t s ac ns).2.2.2.1 := by
 unfold told
 split
 ·exact ⟨by simp only; omega, by simp only; rw [hT.1]; omega, fun x hx => by simp only at hx; rw [(hT.2 x hx).1]; omega⟩
 ·exact ⟨by simp, by simp, by simp⟩
theorem spec_okv_ev (t s : Int) (ac : List Bool) (ns : List (List Int)) (h : SzOK ac ns) : Ev (fun k => spec_l01Ok_v.f k t s ac ns) (okRel t s ac ns) := by
 unfold spec_l01Ok_v.f; exact Ev.bind (spec_ok_ev t s ac ns h) (Ev.pos ⟨rfl, rfl⟩ (Ev.now _))
theorem spec_tidiedv_ev {n : Nat} {s : Int} {ac : List Bool} {ns : List (List Int)} {r : List Bool × List (List Int)} (h : Ev (fun k => spec_l01Tidied.f k (n : Int) s ac ns) ((n : Int), 0, r.1, r.2, (n : Int), s)) : Ev (fun k => spec_l01Tidied_v.f k (n : Int) s ac ns) ((n : Int), 0, r.1, r.2) := by
 unfold spec_l01Tidied_v.f; exact Ev.bind h (Ev.now _)
theorem growL_fuel {K : Type} [DecidableEq K] {good : K → Bool} {acc : K → Option Bool} {next : K → Int → Option K} {W : Nat} : ∀ (f : Nat) (l : List K) (bs : List Bool) (rs : List (List Int)) (r : List Bool × List (List Int)), growL good acc next W f l bs rs = some r → r.1.length < f + bs.length := by
 intro f
 induction f with
 | zero => intro l bs rs r h; simp [growL] at h
 | succ f ih =>
  intro l bs rs r h; simp only [growL] at h
  cases e : l[bs.length]? with
  | none =>
   rw [e] at h; obtain rfl := Option.some.inj h; show bs.length < _; omega
  | some k =>
   rw [e] at h; obtain ⟨p, h1, h⟩ := oB h; obtain ⟨a, h2, h⟩ := oB h; have := ih _ _ _ _ h; rw [List.length_append, List.length_singleton] at this; omega
def inW (W : Nat) (w : List Int) : Bool := w.all fun c => decide (0 ≤ c) && decide (c < (W : Int))
def runT (ns : List (List Int)) : Int → List Int → Int
 | q, [] => q
 | q, c :: w => runT ns (stp ns q c) w
/-- Right columns behind the pads p. -/
def okW (W : Nat) (pads : List Int) : Int → List Int → Bool
 | p, [] => decide (0 ≤ p)
 | p, c :: w => decide (0 ≤ c) && (decide (c < (W : Int)) && (decide (0 ≤ p) && (decide (bits .andNot .i64 p (rd pads c) = 0) && okW W pads (rd pads c) w)))
theorem lngR_eq (W : Nat) (pads : List Int) (ac : List Bool) (ns : List (List Int)) : ∀ (w : List Int) (q p : Int), lngR W pads ac ns (q, p) w = (okW W pads p w && rdOf false ac (runT ns q w)) := by
 intro w
 induction w with
 | nil => intro q p; rfl
 | cons c w ih =>
  intro q p; simp only [lngR, okW, runT, ih]; simp only [Bool.and_assoc]
theorem lng_eq (W : Nat) (ac : List Bool) (ns : List (List Int)) : ∀ (w : List Int) (q : Int), lng W ac ns q w = (inW W w && rdOf false ac (runT ns q w)) := by
 intro w
 induction w with
 | nil => intro q; rfl
 | cons c w ih =>
  intro q; simp only [lng, inW, List.all_cons, runT, ih]; simp only [Bool.and_assoc, inW]
theorem okW_in {W : Nat} {pads : List Int} : ∀ {w : List Int} {p : Int}, okW W pads p w = true → inW W w = true := by
 intro w
 induction w with
 | nil => intro p _; rfl
 | cons c w ih =>
  intro p h; simp only [okW, Bool.and_eq_true, decide_eq_true_eq] at h; simp only [inW, List.all_cons, Bool.and_eq_true, decide_eq_true_eq]; exact ⟨⟨h.1, h.2.1⟩, ih h.2.2.2.2⟩
/-- Tables that take the same right lists have the same tidy table. -/
theorem tidy_ext {n : Nat} {s s' : Int} {ac ac' : List Bool} {ns ns' : List (List Int)} {r : List Bool × List (List Int)} (h : TidyIs n s ac ns r) (he : ∀ w, okW (wd n) (padsT n) 0 w = true → rdOf false ac (runT ns s w) = rdOf false ac' (runT ns' s' w)) : TidyIs n s' ac' ns' r := by
 obtain ⟨f, h⟩ := h; refine ⟨f, ?_⟩; rw [← h]
 congr 1
 funext w
 rw [lngR_eq, lngR_eq]; by_cases c : okW (wd n) (padsT n) 0 w = true
 ·rw [he w c]
 ·rw [Bool.not_eq_true] at c; rw [c, Bool.false_and, Bool.false_and]
/-- A table that 'grow' made, by the language of its keys. -/
theorem table_acc {W : Nat} {p : List Bool × List (List Int)} {Λ : List Int → Bool} (h : lng W p.1 p.2 0 = Λ) {w : List Int} (hw : inW W w = true) : rdOf false p.1 (runT p.2 0 w) = Λ w := by
 have h1 := congrFun h w; rw [lng_eq, hw, Bool.true_and] at h1; exact h1
theorem tabR_get {W : Nat} {f : Nat → Int} {c : Nat} (h : c < W) : (X.tabR W f).getD c 0 = f c := by
 simp [X.tabR, List.getD_eq_getElem?_getD, h]
theorem tabN_get {N W : Nat} {f : Nat → Nat → Int} {q : Nat} (h : q < N) : (X.tabN N W f).getD q [] = X.tabR W (f q) := by
 simp [X.tabN, List.getD_eq_getElem?_getD, h]
section
variable {W V N : Nat} {C : Nat → Nat} {ns : List (List Int)}
end
theorem zero_ok (x : Int) : SzOK ((0 : Int), (0 : Int), ([] : List Bool), ([] : List (List Int)), x).2.2.1 ((0 : Int), (0 : Int), ([] : List Bool), ([] : List (List Int)), x).2.2.2.1 := ⟨by simp, by simp, by simp⟩
theorem told_ev {n : Nat} {R : List Bool × List (List Int)} {g : Nat → Option (Int × Int × List Bool × List (List Int))} (h : Ev g ((n : Int), 0, R.1, R.2)) :
  Ev (fun k => (g k).bind fun p => if p.2.2.1.length ≤ 150 then some (p.1, p.2.1, p.2.2.1, p.2.2.2, (0 : Int)) else some (0, 0, [], [], 3)) (told (n : Int) 0 R.1 R.2) := by
 refine Ev.bind h ?_; by_cases cc : R.1.length ≤ 150
 ·rw [show told (n : Int) 0 R.1 R.2 = ((n : Int), 0, R.1, R.2, 0) from if_pos cc]; exact Ev.pos cc (Ev.now _)
 ·rw [show told (n : Int) 0 R.1 R.2 = (0, 0, [], [], 3) from if_neg cc]; exact Ev.neg cc (Ev.now _)
/-- Everything that is asked of n tapes and two of them, to be evaluated. -/
def sameFin (n a b : Nat) : Bool :=
 (impl_widthOf.f 20 (n : Int) == some ((wd n : Nat) : Int)) && (spec_l01Wide.f 20 (n : Int) == some ((wd n : Nat) : Int)) &&
 ((List.range (wd n)).all fun c =>
  (match impl_digitsOf.f 20 (n : Int) (c : Int) with
   | some ds => decide (a < ds.length) && decide (b < ds.length) && (decide (ds.getD a 0 = ds.getD b 0) == decide (dig (a : Int) c = dig (b : Int) c))
   | none => false) && (spec_l01Digit.f 20 (c : Int) (a : Int) == some (dig (a : Int) c)) && (spec_l01Digit.f 20 (c : Int) (b : Int) == some (dig (b : Int) c)))
theorem sameFin_all : ∀ n : Fin 4, ∀ a b : Fin 3, 1 ≤ n.val → a.val < n.val → b.val < n.val → sameFin n.val a.val b.val = true := by decide +kernel
structure SameFacts (n a b : Nat) : Prop where
 wi : impl_widthOf.f 20 (n : Int) = some ((wd n : Nat) : Int)
 ws : spec_l01Wide.f 20 (n : Int) = some ((wd n : Nat) : Int)
 col : ∀ c, c < wd n → ∃ ds, impl_digitsOf.f 20 (n : Int) (c : Int) = some ds ∧ a < ds.length ∧ b < ds.length ∧ (ds.getD a 0 = ds.getD b 0 ↔ dig (a : Int) c = dig (b : Int) c)
 cols : ∀ c, c < wd n → spec_l01Digit.f 20 (c : Int) (a : Int) = some (dig (a : Int) c) ∧ spec_l01Digit.f 20 (c : Int) (b : Int) = some (dig (b : Int) c)
theorem same_facts {n a b : Nat} (h1 : 1 ≤ n) (h3 : n ≤ 3) (ha : a < n) (hb : b < n) : SameFacts n a b := by
 have h := sameFin_all ⟨n, by omega⟩ ⟨a, by omega⟩ ⟨b, by omega⟩ h1 ha hb; simp only [sameFin, Bool.and_eq_true, beq_iff_eq, List.all_eq_true, List.mem_range] at h; obtain ⟨⟨e1, e2⟩, e3⟩ := h; refine ⟨e1, e2, fun c hc => ?_, fun c hc => ⟨(e3 c hc).1.2, (e3 c hc).2⟩⟩; have q1 := (e3 c hc).1.1
 cases hd : impl_digitsOf.f 20 (n : Int) (c : Int) with
 | none => rw [hd] at q1; cases q1
 | some ds =>
  rw [hd] at q1; simp only [Bool.and_eq_true, decide_eq_true_eq, beq_iff_eq, decide_eq_decide] at q1; exact ⟨ds, rfl, q1.1.1, q1.1.2, q1.2⟩
section
variable {n a b : Nat} {ac : List Bool} {ns : List (List Int)}
/-- The key behind a key. -/
def nxt (a b : Nat) (ns : List (List Int)) (q c : Int) : Int := if q < 0 then -1 else if dig (a : Int) c.toNat = dig (b : Int) c.toNat then stp ns q c else -1
theorem nextS_some (F : SameFacts n a b) (hT : TableOK (wd n) ac.length ns) {q c : Int} (hq : q < (ac.length : Int)) (c0 : 0 ≤ c) (c1 : c < ((wd n : Nat) : Int)) : nextS 20 (n : Int) (a : Int) (b : Int) ns q c = some (nxt a b ns q c) := by
 obtain ⟨c, rfl⟩ := Int.eq_ofNat_of_zero_le c0; obtain ⟨ds, h1, h2, h3, h4⟩ := F.col c (by omega); unfold nextS nxt; rw [h1]; simp only [Option.bind_some, Int.toNat_natCast]; by_cases hn : q < 0
 ·rw [if_pos hn, if_pos hn]
 rw [if_neg hn, if_neg hn]; (have ea : at1 (0 : Int) ds (a : Int) = some (ds.getD a 0) := by unfold at1; rw [if_pos ⟨by omega, by omega⟩]; simp [rdOf]); (have eb : at1 (0 : Int) ds (b : Int) = some (ds.getD b 0) := by unfold at1; rw [if_pos ⟨by omega, by omega⟩]; simp [rdOf]); rw [ea, eb]; simp only [Option.bind_some]; by_cases e : ds.getD a 0 = ds.getD b 0
 ·rw [if_pos e, if_pos (h4.1 e)]; (have hl : q.toNat < ns.length := by rw [hT.1]; omega); have hrow := (hT.2 _ (List.getElem_mem hl)).1; (have er : at1 ([] : List Int) ns q = some (ns[q.toNat]) := by unfold at1; rw [if_pos ⟨by omega, by omega⟩]; simp [rdOf, List.getD_eq_getElem?_getD, List.getElem?_eq_getElem hl]); rw [er]; simp only [Option.bind_some]; unfold at1; rw [if_pos ⟨by omega, by rw [hrow]; exact_mod_cast c1⟩]; simp [rdOf, stp, rd, List.getD_eq_getElem?_getD, List.getElem?_eq_getElem hl]
 ·rw [if_neg e, if_neg (fun h => e (h4.2 h))]
theorem sameT_stp {q c : Int} (q0 : 0 ≤ q) (q1 : q < (ac.length : Int) + 1) (c0 : 0 ≤ c) (c1 : c < ((wd n : Nat) : Int)) : stp (X.tabN (ac.length + 1) (wd n) (sameC ac.length (a : Int) (b : Int) ns)) q c = sameC ac.length (a : Int) (b : Int) ns q.toNat c.toNat := by
 unfold stp; rw [tabN_get (by omega)]; show (X.tabR (wd n) _).getD c.toNat 0 = _; rw [tabR_get (by omega)]
theorem nxt_range (hT : TableOK (wd n) ac.length ns) {q c : Int} (q1 : q < (ac.length : Int)) (c0 : 0 ≤ c) (c1 : c < ((wd n : Nat) : Int)) : -1 ≤ nxt a b ns q c ∧ nxt a b ns q c < (ac.length : Int) ∨ nxt a b ns q c = -1 := by
 unfold nxt; by_cases hn : q < 0
 ·rw [if_pos hn]; exact Or.inr rfl
 rw [if_neg hn]; by_cases e : dig (a : Int) c.toNat = dig (b : Int) c.toNat
 ·rw [if_pos e]; have := hT.stpd (by omega : 0 ≤ q) q1 c0 c1; exact Or.inl ⟨by omega, this.2⟩
 ·rw [if_neg e]; exact Or.inr rfl
/-- The state of the reference's table for a key. -/
def kn (N : Nat) (q : Int) : Int := if q < 0 then (N : Int) else q
theorem nxt_kn (hT : TableOK (wd n) ac.length ns) {q c : Int} (q1 : q < (ac.length : Int)) (c0 : 0 ≤ c) (c1 : c < ((wd n : Nat) : Int)) : stp (X.tabN (ac.length + 1) (wd n) (sameC ac.length (a : Int) (b : Int) ns)) (kn ac.length q) c = kn ac.length (nxt a b ns q c) := by
 rw [sameT_stp (by unfold kn; split <;> omega) (by unfold kn; split <;> omega) c0 c1]; unfold sameC nxt kn; by_cases hn : q < 0
 ·rw [if_pos hn, if_pos hn]; simp
 ·rw [if_neg hn, if_neg hn, if_neg (by omega)]; by_cases e : dig (a : Int) c.toNat = dig (b : Int) c.toNat
  ·rw [if_neg (fun h => h e), if_pos e]; have := hT.stpd (by omega : 0 ≤ q) q1 c0 c1; rw [if_neg (by omega)]; simp [stp, rd]
  ·rw [if_pos e, if_neg e]; simp
theorem sameT_ok (hT : TableOK (wd n) ac.length ns) : TableOK (wd n) (ac.length + 1) (X.tabN (ac.length + 1) (wd n) (sameC ac.length (a : Int) (b : Int) ns)) := by
 refine ⟨X.tabN_len _ _ _, fun row hrow => ⟨X.tabN_row hrow, fun x hx => ?_⟩⟩; simp only [X.tabN, List.mem_map, List.mem_range] at hrow; obtain ⟨q, hq, rfl⟩ := hrow; simp only [X.tabR, List.mem_map, List.mem_range] at hx; obtain ⟨c, hc, rfl⟩ := hx; unfold sameC; by_cases e : q = ac.length
 ·rw [if_pos e]; omega
 rw [if_neg e]
 split
 ·omega
 ·have := hT.stpd (q := (q : Int)) (c := (c : Int)) (by omega) (by omega) (by omega) (by omega); simp only [stp, rd, Int.toNat_natCast] at this; omega
theorem same_grown (F : SameFacts n a b) (hT : TableOK (wd n) ac.length ns) (hl : ac.length ≤ 1000) {s : Int} (s0 : 0 ≤ s) (s1 : s < (ac.length : Int)) :
  ∃ r, (∀ k, ac.length + 3 ≤ k → growL inI64 (accS ac) (nextS 20 (n : Int) (a : Int) (b : Int) ns) (wd n) k [s] [] [] = some r) ∧ TableOK (wd n) r.1.length r.2 ∧ 0 < r.1.length ∧ r.1.length ≤ ac.length + 3 ∧
   ∀ w, inW (wd n) w = true → rdOf false r.1 (runT r.2 0 w) = rdOf false (ac ++ [false]) (runT (X.tabN (ac.length + 1) (wd n) (sameC ac.length (a : Int) (b : Int) ns)) s w) := by
 let U : List Int := (-1) :: (List.range ac.length).map fun (i : Nat) => (i : Int)
 have hUl : U.length = ac.length + 1 := by simp [U]
 have hU : ∀ x : Int, x ∈ U ↔ (x = -1 ∨ (0 ≤ x ∧ x < (ac.length : Int))) := by
  intro x; simp only [U, List.mem_cons, List.mem_map, List.mem_range]; constructor
  ·rintro (h | ⟨i, hi, rfl⟩)
   ·exact Or.inl h
   ·exact Or.inr ⟨by omega, by omega⟩
  ·rintro (h | ⟨h0, h1⟩)
   ·exact Or.inl h
   ·exact Or.inr ⟨x.toNat, by omega, by omega⟩
 have hlt : ∀ x ∈ U, x < (ac.length : Int) := fun x hx => by rcases (hU x).1 hx with h | h <;> omega
 have hnm : ∀ x c : Int, x ∈ U → 0 ≤ c → c < ((wd n : Nat) : Int) → nxt a b ns x c ∈ U := by
  intro x c hx c0 c1; refine (hU _).2 ?_; have h := nxt_range (a := a) (b := b) hT (hlt x hx) c0 c1
  rcases h with h | h
  ·by_cases e : nxt a b ns x c = -1
   ·exact Or.inl e
   ·exact Or.inr ⟨by omega, h.2⟩
  ·exact Or.inl h
 have hac : ∀ x ∈ U, accS ac x = some (rdOf false (ac ++ [false]) (kn ac.length x)) := by
  intro x hx; unfold accS kn
  rcases (hU x).1 hx with h | ⟨h0, h1⟩
  ·subst h; rw [if_neg (by omega), if_pos (by omega)]; simp [rdOf, List.getD_eq_getElem?_getD]
  ·rw [if_pos h0, if_neg (by omega)]; unfold at1; rw [if_pos ⟨h0, h1⟩]; (have hx2 : x.toNat < ac.length := by omega); simp [rdOf, List.getD_eq_getElem?_getD, List.getElem?_append_left hx2]
 have hst : s ∈ U := (hU s).2 (Or.inr ⟨s0, s1⟩)
 have hgood : ∀ x ∈ U, inI64 x = true := fun x hx => by
  unfold inI64; simp only [Bool.and_eq_true, decide_eq_true_eq]
  rcases (hU x).1 hx with h | h <;> omega
 have total : ∃ r, growL inI64 (accS ac) (nextS 20 (n : Int) (a : Int) (b : Int) ns) (wd n) (ac.length + 3) [s] [] [] = some r := by
  refine growL_some (U := U) (by rw [hUl]; omega) (fun x c hx c0 c1 => ?_) (fun x hx => ⟨_, hac x hx⟩) _ _ [] [] (by simp) (by intro x hx; simp at hx; subst hx; exact hst) (by simp) (by rw [hUl]; simp); exact ⟨_, nextS_some F hT (hlt x hx) c0 c1, hgood _ (hnm x c hx c0 c1), hnm x c hx c0 c1⟩
 obtain ⟨r, hr⟩ := total; have hsz := growL_fuel _ _ _ _ _ hr
 obtain ⟨t1, t2, t3, t4⟩ := growL_table (S := fun x => x ∈ U) (Λ := fun x w => inW (wd n) w && rdOf false (ac ++ [false]) (runT (X.tabN (ac.length + 1) (wd n) (sameC ac.length (a : Int) (b : Int) ns)) (kn ac.length x) w))
  (fun x c t hx c0 c1 e => by
   rw [nextS_some F hT (hlt x hx) c0 c1] at e; obtain rfl := Option.some.inj e; refine ⟨hnm x c hx c0 c1, fun w => ?_⟩; rw [← nxt_kn hT (hlt x hx) c0 c1]
   simp [inW, runT, c0, c1])
  (fun x v hx e => by
   rw [hac x hx] at e; obtain rfl := Option.some.inj e
   simp [inW, runT])
  (fun x c w hc => by
   by_cases c0 : 0 ≤ c
   ·have : ¬ c < ((wd n : Nat) : Int) := fun h => hc ⟨c0, h⟩; simp [inW, this]
   ·simp [inW, c0]) (start := s) hst hr
 refine ⟨r, fun k hk => ?_, t1, t2, by simp at hsz; omega, fun w hw => ?_⟩
 ·obtain ⟨d, rfl⟩ := Nat.exists_eq_add_of_le hk; exact growL_more _ d _ _ _ _ hr
 ·have h := table_acc t4 hw; rw [h, hw, Bool.true_and]; unfold kn; rw [if_neg (by omega)]
end
open Classical in
theorem sameOn_both {t s tape other : Int} {ac : List Bool} {ns : List (List Int)} (h : SzOK ac ns) :
  ∃ r : Int × Int × List Bool × List (List Int) × Int, SzOK r.2.2.1 r.2.2.2.1 ∧ Ev (fun k => sameS k t s ac ns tape other) r ∧ Ev (fun k => sameI k t s ac ns tape other) r := by
 have e1 := spec_okv_ev t s ac ns h; have e2 := impl_ValidRelation_ev t s ac ns h; by_cases hv : okRel t s ac ns = true
 case neg =>
  refine ⟨(0, 0, [], [], 1), zero_ok 1, ?_, ?_⟩
  ·unfold sameS oneF; exact Ev.bind (a := (1 : Int)) (Ev.bind e1 (Ev.neg hv (Ev.now _))) (Ev.neg (by decide) (Ev.now _))
  ·unfold sameI; exact Ev.bind e2 (Ev.neg hv (Ev.now _))
 obtain ⟨n, rfl, h1, h3, hl1, hl, s0, s1, hT⟩ := okRel_parts hv; have hw : wrap64 ((n : Int) - 1) = (n : Int) - 1 := w64 (by omega) (by omega)
 have i1 : ∀ x : Int, spec_l00In.f x 0 (wrap64 ((n : Int) - 1)) = some (decide (0 ≤ x ∧ x ≤ (n : Int) - 1)) := by
  intro x; rw [hw]; unfold spec_l00In.f; by_cases c : x ≥ 0
  ·rw [if_pos c]; simp [show 0 ≤ x from c]
  ·rw [if_neg c]; simp [show ¬ 0 ≤ x from c]
 have i2 : ∀ x : Int, impl_Relation_isTape.f (n : Int) s ac ns x = some (decide (0 ≤ x ∧ x ≤ (n : Int) - 1)) := by
  intro x; unfold impl_Relation_isTape.f impl_within.f; rw [hw]
  by_cases c : 0 ≤ x <;> simp [c]
 by_cases ht : 0 ≤ tape ∧ tape ≤ (n : Int) - 1
 case neg =>
  refine ⟨(0, 0, [], [], 2), zero_ok 2, ?_, ?_⟩
  ·unfold sameS oneF; exact Ev.bind (a := (2 : Int)) (Ev.bind e1 (Ev.pos hv (Ev.bind (Ev.const (i1 tape)) (Ev.neg (by simpa using ht) (Ev.now _))))) (Ev.neg (by decide) (Ev.now _))
  ·unfold sameI; exact Ev.bind e2 (Ev.pos hv (Ev.bind (Ev.const (i2 tape)) (Ev.neg (by simpa using ht) (Ev.now _))))
 have one : Ev (fun k => oneF k (n : Int) s ac ns tape) 0 := by
  unfold oneF; exact Ev.bind e1 (Ev.pos hv (Ev.bind (Ev.const (i1 tape)) (Ev.pos (by simpa using ht) (Ev.now _))))
 by_cases hc : decide (0 ≤ other ∧ other ≤ (n : Int) - 1) = true ∧ tape ≠ other
 case neg =>
  refine ⟨(0, 0, [], [], 2), zero_ok 2, ?_, ?_⟩
  ·unfold sameS; exact Ev.bind one (Ev.pos rfl (Ev.bind (Ev.const (i1 other)) (Ev.neg hc (Ev.now _))))
  ·unfold sameI; exact Ev.bind e2 (Ev.pos hv (Ev.bind (Ev.const (i2 tape)) (Ev.pos (by simpa using ht) (Ev.bind (Ev.const (i2 other)) (Ev.neg hc (Ev.now _))))))
 have hco := hc.1; rw [decide_eq_true_eq] at hco; obtain ⟨a, rfl⟩ := Int.eq_ofNat_of_zero_le ht.1; obtain ⟨b, rfl⟩ := Int.eq_ofNat_of_zero_le hco.1; have F := same_facts h1 h3 (show a < n by omega) (show b < n by omega); have hW := wd_le n h3; (have ewI : wI2 (n : Int) = wd n := by simp [wI2, F.wi]); (have ewM : wM (n : Int) = wd n := by simp [wM, F.ws])
 have hP : SameP (n : Int) (a : Int) (b : Int) := by
  unfold SameP; rw [ewM]; exact ⟨F.ws, by omega, F.cols⟩
 obtain ⟨m, hg, hm1, hm0, hml, hL⟩ := same_grown F hT (by omega) s0 s1; obtain ⟨R, hR, hiR⟩ := impl_tidy_ev (n := n) (s := 0) (ac := m.1) (ns := m.2) h1 h3 (by omega) (by omega) (by omega) hm1; have hR1 : TidyIs n s (ac ++ [false]) (X.tabN (ac.length + 1) (wd n) (sameC ac.length (a : Int) (b : Int) ns)) R := tidy_ext hR (fun w hw => hL w (okW_in hw)); (have hla : (ac ++ [false]).length = ac.length + 1 := by simp); have hsR := spec_tidied_ev (ac := ac ++ [false]) h1 h3 (by omega) s0 (by omega) (by rw [hla]; exact sameT_ok hT) hR1; obtain ⟨g1, g2, g3, g4⟩ := tidyD_table hR.choose_spec; refine ⟨told (n : Int) 0 R.1 R.2, told_ok g1 (by omega), ?_, ?_⟩
 ·unfold sameS; refine Ev.bind one (Ev.pos rfl (Ev.bind (Ev.const (i1 (b : Int))) (Ev.pos hc (Ev.pos ⟨hP, by omega, by rw [ewM]; exact hT⟩ ?_)))); rw [ewM]; exact told_ev (spec_tidiedv_ev hsR)
 ·unfold sameI; (have hs64 : inI64 s = true := by unfold inI64; simp only [Bool.and_eq_true, decide_eq_true_eq]; omega); refine Ev.bind e2 (Ev.pos hv (Ev.bind (Ev.const (i2 (a : Int))) (Ev.pos (by simpa using ht) (Ev.bind (Ev.const (i2 (b : Int))) (Ev.pos hc (Ev.bind (machineOf_ev (n : Int) s ac ns h) (Ev.pos ⟨rfl, ⟨by rw [ewI]; exact F.wi, by rw [ewI]; omega⟩, hs64⟩ ?_))))))); rw [ewI]; refine Ev.bind (a := m) ⟨ac.length + 3, hg⟩ ?_; unfold impl_machine_tidied.f; exact Ev.bind hiR (Ev.bind (relationOf_ev _ _ _ _ g1.1.symm (fun x hx => by rw [(g1.2 x hx).1]; omega)) (Ev.now _))
theorem FnExactSameOn (t s : Int) (ac : List Bool) (ns : List (List Int)) (i1 : Int) (i2 : Int) (h2 : ac.length ≤ 9223372036854775807) (h3 : ns.length ≤ 9223372036854775807) (hr : ∀ x ∈ ns, x.length ≤ 9223372036854775807) : ∃ k, laws_FnExactSameOn.f k t s ac ns i1 i2 = some true := by
 apply Ev.rounds; unfold laws_FnExactSameOn.f; obtain ⟨n, e1, e2, e3⟩ := szRelation_ev t s ac ns 1048576 (by omega) h2 h3 hr; refine Ev.bind e1 ?_; by_cases hn : n < 0
 ·exact Ev.pos hn (Ev.const rfl)
 refine Ev.neg hn ?_; have hz := e3 (by omega); obtain ⟨⟨r1, r2, r3, r4, r5⟩, hrz, hS, hI⟩ := sameOn_both (t := t) (s := s) (tape := i1) (other := i2) hz; simp only at hrz; have j2 := sum_small hrz; have j4 := hrz.1; have k1 := sum_small hz; have k3 := hz.1; refine Ev.guard (toRelation_ev t s ac ns hz) ?_; refine Ev.bind hS ?_; refine Ev.guard hI ?_; refine Ev.guard (eqRelation_ev r1 r2 r3 r4 hrz) ?_; refine Ev.guard (eqRelation_ev t s ac ns hz) ?_; refine Ev.bind (markBool_ev ac 1 (by omega) (by omega)) ?_; refine Ev.bind (markInts_ev ns (1 + ac.length) (by omega) (by have := hz.2.1; omega) (fun x hx => by have := hz.2.2 x hx; omega)) ?_; refine Ev.neg (by omega) ?_; refine Ev.bind (markBool_ev r3 1 (by omega) (by omega)) ?_; refine Ev.bind (markInts_ev r4 (1 + r3.length) (by omega) (by have := hrz.2.1; omega) (fun x hx => by have := hrz.2.2 x hx; omega)) ?_; refine Ev.neg (by omega) ?_; exact Ev.guard (heldRel_ev r1 r2 r3 r4 hrz 1 (by omega)) (Ev.now _)
end Go.Proofs.YtocfcpicleomcaaDoor.Pure
