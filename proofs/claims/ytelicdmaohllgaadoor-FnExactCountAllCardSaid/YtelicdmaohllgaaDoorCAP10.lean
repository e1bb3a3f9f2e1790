import Derived.Test.YtelicdmaohllgaaDoorCAP9
import Derived.Test.YtelicdmaohllgaaDoorCAP6
import Derived.Test.YtelicdmaohllgaaDoorCAP2
import Derived.Test.YtelicdmaohllgaaDoorCAP3
import Derived.Test.YtelicdmaohllgaaDoorCAP8
import Derived.Test.YtelicdmaohllgaaDoorCAP7
import Derived.Test.YtelicdmaohllgaaDoorCAP5
namespace Go.Proofs.YtelicdmaohllgaaDoor.Pure
set_option maxHeartbeats 16000000
set_option maxRecDepth 100000
open Go.RowKit Go.Proofs.YtelicdmaohllgaaDoor.X Go.Proofs.YtelicdmaohllgaaDoorW.PrintWords Go.Proofs.YtelicdmaohllgaaDoorW.PrintLast
set_option linter.unusedVariables false
set_option linter.unusedSimpArgs false
theorem Ev.succ {α : Type} {g : Nat → Option α} {r : α} (h : Ev (fun k => g (k + 1)) r) : Ev g r := Ev.step (fun _ => rfl) h
theorem Ev.const {α : Type} {o : Option α} {r : α} (h : o = some r) : Ev (fun _ => o) r := ⟨0, fun _ _ => h⟩
theorem w64 {n : Int} (h0 : -9223372036854775808 ≤ n) (h1 : n ≤ 9223372036854775807) : wrap64 n = n := by
 unfold wrap64; omega
theorem rd_nat (xs : List Int) (i : Nat) (h : i < xs.length) : rd xs (i : Int) = xs[i] := by
 simp [rd, List.getD_eq_getElem?_getD, h]
theorem rdOf_nat {α : Type} (d : α) (xs : List α) (i : Nat) (h : i < xs.length) : rdOf d xs (i : Int) = xs[i] := by
 simp [rdOf, List.getD_eq_getElem?_getD, h]
theorem set_take {α : Type} (l ys : List α) (i : Nat) (x : α) (hx : l[i]? = some x) (hl : ys.length = l.length) (h : ys.take i = l.take i) : (ys.set i x).take (i + 1) = l.take (i + 1) := by
 have hi : i < l.length := (List.getElem?_eq_some_iff.1 hx).1; apply List.ext_getElem?; intro j; have hj := congrArg (fun z => z[j]?) h
 simp only [List.getElem?_take] at hj ⊢
 rw [List.getElem?_set]; by_cases h1 : j < i + 1
 ·by_cases h2 : i = j
  ·subst h2; simp only [h1, if_true]; rw [if_pos (by omega)]; exact hx.symm
  ·have h3 : j < i := by omega
   simp only [h1, if_true, h2, if_false, h3] at hj ⊢
   exact hj
 ·simp [h1]
theorem Ev.pos {α : Type} {c : Prop} [Decidable c] {f g : Nat → Option α} {r : α} (h : c) (k : Ev f r) : Ev (fun n => if c then f n else g n) r := by
 obtain ⟨K, k⟩ := k; exact ⟨K, fun n hn => (if_pos h).trans (k n hn)⟩
theorem Ev.neg {α : Type} {c : Prop} [Decidable c] {f g : Nat → Option α} {r : α} (h : ¬ c) (k : Ev g r) : Ev (fun n => if c then f n else g n) r := by
 obtain ⟨K, k⟩ := k; exact ⟨K, fun n hn => (if_neg h).trans (k n hn)⟩
theorem Ev.guard {α β : Type} {g : Nat → Option α} {a : α} {f : Nat → Option β} {r : β} {D : ∀ k, Decidable (g k = some a)} (hg : Ev g a) (h : Ev f r) : Ev (fun k => if g k = some a then f k else none) r := by
 obtain ⟨K, hg⟩ := hg; obtain ⟨L, h⟩ := h; exact ⟨max K L, fun k hk => (if_pos (hg k (by omega))).trans (h k (by omega))⟩
theorem toInt64S_l (l : List Int) (hn : l.length ≤ 35184372088832) (d : Nat) : ∀ (i : Nat) (ys : List Int), i + d = l.length → ys.length = l.length → ys.take i = l.take i → Ev (fun k => laws_toInt64S.l0 k l ys (i : Int)) l := by
 induction d with
 | zero =>
  intro i ys hi hl ht; apply Ev.succ; simp only [laws_toInt64S.l0]; refine Ev.neg (by omega) ?_; refine Ev.const ?_; rw [List.take_of_length_le (by omega), List.take_of_length_le (by omega)] at ht; rw [ht]
 | succ d ih =>
  intro i ys hi hl ht; apply Ev.succ; simp only [laws_toInt64S.l0]; refine Ev.pos (by omega) ?_; refine Ev.pos (by omega) ?_; refine Ev.pos (by omega) ?_; rw [w64 (by omega) (by omega), Int.toNat_natCast]; have := ih (i + 1) (ys.set i (rd l i)) (by omega) (by simp [hl]) (set_take l ys i _ (by rw [rd_nat l i (by omega)]; exact List.getElem?_eq_getElem (by omega)) hl ht); exact this
theorem toInt64S_ev (l : List Int) (hn : l.length ≤ 35184372088832) : Ev (fun k => laws_toInt64S.f k l) l := by
 unfold laws_toInt64S.f; simp only [Int.toNat_natCast]; refine Ev.pos (by omega) ?_; refine Ev.pos hn ?_; exact toInt64S_l l hn l.length 0 _ (by omega) (by simp) (by simp)
theorem eqInt64S_l (l : List Int) (hn : l.length ≤ 35184372088832) (d : Nat) : ∀ (i : Nat), i + d = l.length → Ev (fun k => laws_eqInt64S.l0 k l l (i : Int)) true := by
 induction d with
 | zero =>
  intro i hi; apply Ev.succ; simp only [laws_eqInt64S.l0]; refine Ev.neg (by omega) ?_; exact Ev.const rfl
 | succ d ih =>
  intro i hi; apply Ev.succ; simp only [laws_eqInt64S.l0]; refine Ev.pos (by omega) ?_; refine Ev.pos (by omega) ?_; refine Ev.pos (by omega) ?_; refine Ev.pos trivial ?_; rw [w64 (by omega) (by omega)]; exact ih (i + 1) (by omega)
theorem eqInt64S_ev (l : List Int) (hn : l.length ≤ 35184372088832) : Ev (fun k => laws_eqInt64S.f k l l) true := by
 unfold laws_eqInt64S.f; refine Ev.pos rfl ?_; exact eqInt64S_l l hn l.length 0 (by omega)
theorem rd4_nat (xs : List (List Int)) (i : Nat) (h : i < xs.length) : rd_L5 xs (i : Int) = xs[i] := by
 simp [rd_L5, List.getD_eq_getElem?_getD, h]
theorem toBoolS_l (l : List Bool) (hn : l.length ≤ 35184372088832) (d : Nat) : ∀ (i : Nat) (ys : List Bool), i + d = l.length → ys.length = l.length → ys.take i = l.take i → Ev (fun k => laws_toBoolS.l0 k l ys (i : Int)) l := by
 induction d with
 | zero =>
  intro i ys hi hl ht; apply Ev.succ; simp only [laws_toBoolS.l0]; refine Ev.neg (by omega) ?_; refine Ev.const ?_; rw [List.take_of_length_le (by omega), List.take_of_length_le (by omega)] at ht; rw [ht]
 | succ d ih =>
  intro i ys hi hl ht; apply Ev.succ; simp only [laws_toBoolS.l0]; refine Ev.pos (by omega) ?_; refine Ev.pos (by omega) ?_; refine Ev.pos (by omega) ?_; rw [w64 (by omega) (by omega), Int.toNat_natCast]; have := ih (i + 1) (ys.set i (rdOf false l i)) (by omega) (by simp [hl]) (set_take l ys i _ (by rw [rdOf_nat false l i (by omega)]; exact List.getElem?_eq_getElem (by omega)) hl ht); exact this
theorem toBoolS_ev (l : List Bool) (hn : l.length ≤ 35184372088832) : Ev (fun k => laws_toBoolS.f k l) l := by
 unfold laws_toBoolS.f; simp only [Int.toNat_natCast]; refine Ev.pos (by omega) ?_; refine Ev.pos (by omega) ?_; exact toBoolS_l l hn l.length 0 _ (by omega) (by simp) (by simp)
theorem toInt64SS_l (l : List (List Int)) (hn : l.length ≤ 35184372088832) (hr : ∀ x ∈ l, x.length ≤ 35184372088832) (d : Nat) : ∀ (i : Nat) (ys : List (List Int)), i + d = l.length → ys.length = l.length → ys.take i = l.take i → Ev (fun k => laws_toInt64SS.l0 k l ys (i : Int)) l := by
 induction d with
 | zero =>
  intro i ys hi hl ht; apply Ev.succ; simp only [laws_toInt64SS.l0]; refine Ev.neg (by omega) ?_; refine Ev.const ?_; rw [List.take_of_length_le (by omega), List.take_of_length_le (by omega)] at ht; rw [ht]
 | succ d ih =>
  intro i ys hi hl ht; apply Ev.succ; simp only [laws_toInt64SS.l0]; refine Ev.pos (by omega) ?_; refine Ev.pos (by omega) ?_; rw [rd4_nat l i (by omega)]; refine Ev.bind (toInt64S_ev _ (hr _ (List.getElem_mem _))) ?_; refine Ev.pos (by omega) ?_; rw [w64 (by omega) (by omega), Int.toNat_natCast]; exact ih (i + 1) (ys.set i l[i]) (by omega) (by simp [hl]) (set_take l ys i _ (List.getElem?_eq_getElem (by omega)) hl ht)
theorem toInt64SS_ev (l : List (List Int)) (hn : l.length ≤ 11728124029610) (hr : ∀ x ∈ l, x.length ≤ 35184372088832) : Ev (fun k => laws_toInt64SS.f k l) l := by
 unfold laws_toInt64SS.f; simp only [Int.toNat_natCast]; refine Ev.pos (by omega) ?_; refine Ev.pos (by omega) ?_; exact toInt64SS_l l (by omega) hr l.length 0 _ (by omega) (by simp) (by simp)
theorem eqBoolS_l (l : List Bool) (hn : l.length ≤ 35184372088832) (d : Nat) : ∀ (i : Nat), i + d = l.length → Ev (fun k => laws_eqBoolS.l0 k l l (i : Int)) true := by
 induction d with
 | zero =>
  intro i hi; apply Ev.succ; simp only [laws_eqBoolS.l0]; refine Ev.neg (by omega) ?_; exact Ev.const rfl
 | succ d ih =>
  intro i hi; apply Ev.succ; simp only [laws_eqBoolS.l0]; refine Ev.pos (by omega) ?_; refine Ev.pos (by omega) ?_; refine Ev.pos (by omega) ?_; refine Ev.neg (by simp) ?_; rw [w64 (by omega) (by omega)]; exact ih (i + 1) (by omega)
theorem eqBoolS_ev (l : List Bool) (hn : l.length ≤ 35184372088832) : Ev (fun k => laws_eqBoolS.f k l l) true := by
 unfold laws_eqBoolS.f; refine Ev.pos rfl ?_; exact eqBoolS_l l hn l.length 0 (by omega)
theorem eqInt64SS_l (l : List (List Int)) (hn : l.length ≤ 35184372088832) (hr : ∀ x ∈ l, x.length ≤ 35184372088832) (d : Nat) : ∀ (i : Nat), i + d = l.length → Ev (fun k => laws_eqInt64SS.l0 k l l (i : Int)) true := by
 induction d with
 | zero =>
  intro i hi; apply Ev.succ; simp only [laws_eqInt64SS.l0]; refine Ev.neg (by omega) ?_; exact Ev.const rfl
 | succ d ih =>
  intro i hi; apply Ev.succ; simp only [laws_eqInt64SS.l0]; refine Ev.pos (by omega) ?_; refine Ev.pos (by omega) ?_; refine Ev.pos (by omega) ?_; rw [rd4_nat l i (by omega)]; refine Ev.bind (eqInt64S_ev _ (hr _ (List.getElem_mem _))) ?_; refine Ev.pos rfl ?_; rw [w64 (by omega) (by omega)]; exact ih (i + 1) (by omega)
theorem eqInt64SS_ev (l : List (List Int)) (hn : l.length ≤ 35184372088832) (hr : ∀ x ∈ l, x.length ≤ 35184372088832) : Ev (fun k => laws_eqInt64SS.f k l l) true := by
 unfold laws_eqInt64SS.f; refine Ev.pos rfl ?_; exact eqInt64SS_l l hn hr l.length 0 (by omega)
theorem szInt64SS_l (l : List (List Int)) (hn : l.length ≤ 9223372036854775806) (hr : ∀ x ∈ l, x.length ≤ 9223372036854775807) (d : Nat) : ∀ (i a : Nat), i + d = l.length → a ≤ 1048576 →
  ∃ n : Int, Ev (fun k => laws_szInt64SS.l0 k l (a : Int) (i : Int)) n ∧ n ≤ 1048576 ∧ (0 ≤ n → ∀ j, i ≤ j → ∀ x, l[j]? = some x → x.length ≤ 1048576) := by
 induction d with
 | zero =>
  intro i a hi ha; refine ⟨a, ?_, by omega, fun _ j hj x hx => ?_⟩
  ·apply Ev.succ; simp only [laws_szInt64SS.l0]; refine Ev.neg (by omega) ?_; exact Ev.const rfl
  ·have := (List.getElem?_eq_some_iff.1 hx).1; omega
 | succ d ih =>
  intro i a hi ha; have hx := hr _ (List.getElem_mem (show i < l.length by omega)); by_cases c : l[i].length ≤ a
  ·obtain ⟨n, h1, h2, h3⟩ := ih (i + 1) (a - l[i].length) (by omega) (by omega); refine ⟨n, ?_, h2, fun h0 j hj x hjx => ?_⟩
   ·apply Ev.succ; simp only [laws_szInt64SS.l0]; refine Ev.pos (by omega) ?_; refine Ev.pos (by omega) ?_; rw [rd4_nat l i (by omega)]; refine Ev.bind (a := ((a - l[i].length : Nat) : Int)) ?_ ?_
    ·unfold laws_szInt64S.f; rw [w64 (by omega) (by omega)]; refine Ev.neg (by omega) ?_; exact Ev.const (by congr 1; omega)
    ·refine Ev.neg (by omega) ?_; rw [w64 (by omega) (by omega)]; exact h1
   ·by_cases e : i = j
    ·subst e; rw [List.getElem?_eq_getElem (by omega)] at hjx; injection hjx with hjx; subst hjx; omega
    ·exact h3 h0 j (by omega) x hjx
  ·refine ⟨-1, ?_, by omega, fun h0 => by omega⟩; apply Ev.succ; simp only [laws_szInt64SS.l0]; refine Ev.pos (by omega) ?_; refine Ev.pos (by omega) ?_; rw [rd4_nat l i (by omega)]; refine Ev.bind (a := -1) ?_ ?_
   ·unfold laws_szInt64S.f; rw [w64 (by omega) (by omega)]; exact Ev.pos (by omega) (Ev.const rfl)
   ·exact Ev.pos (by omega) (Ev.const rfl)
/-- What a relation's size says: it is not negative only if its rows are short. -/
def SzOK (ac : List Bool) (ns : List (List Int)) : Prop := ac.length ≤ 1048576 ∧ ns.length ≤ 1048576 ∧ ∀ x ∈ ns, x.length ≤ 1048576
theorem szRelation_ev (t s : Int) (ac : List Bool) (ns : List (List Int)) (a : Nat) (ha : a ≤ 1048576) (h2 : ac.length ≤ 9223372036854775807) (h3 : ns.length ≤ 9223372036854775807) (hr : ∀ x ∈ ns, x.length ≤ 9223372036854775807) :
  ∃ n : Int, Ev (fun k => laws_szRelation.f k t s ac ns (a : Int)) n ∧ n ≤ 1048576 ∧ (0 ≤ n → SzOK ac ns) := by
 unfold laws_szRelation.f; by_cases c : ac.length ≤ a
 ·by_cases c2 : ns.length ≤ a - ac.length
  ·obtain ⟨n, e1, e2, e3⟩ := szInt64SS_l ns (by omega) hr ns.length 0 (a - ac.length - ns.length) (by omega) (by omega); refine ⟨if n < 0 then -1 else n, ?_, by split <;> omega, fun h0 => ⟨by omega, by omega, fun x hx => ?_⟩⟩
   ·refine Ev.bind (a := ((a - ac.length : Nat) : Int)) ?_ ?_
    ·unfold laws_szBoolS.f; rw [w64 (by omega) (by omega)]; refine Ev.neg (by omega) ?_; exact Ev.const (by congr 1; omega)
    ·refine Ev.neg (by omega) ?_; refine Ev.bind (a := n) ?_ ?_
     ·unfold laws_szInt64SS.f; rw [w64 (by omega) (by omega)]; refine Ev.neg (by omega) ?_; rw [show ((a - ac.length : Nat) : Int) - (ns.length : Int) = ((a - ac.length - ns.length : Nat) : Int) by omega]; exact e1
     ·by_cases hn : n < 0
      ·simp only [if_pos hn]; exact Ev.now _
      ·simp only [if_neg hn]; exact Ev.now _
   ·have hn : 0 ≤ n := by
     by_cases hn : n < 0
     ·rw [if_pos hn] at h0; omega
     ·omega
    obtain ⟨j, hj⟩ := List.mem_iff_getElem?.1 hx; exact e3 hn j (by omega) x hj
  ·refine ⟨-1, ?_, by omega, fun h0 => by omega⟩; refine Ev.bind (a := ((a - ac.length : Nat) : Int)) ?_ ?_
   ·unfold laws_szBoolS.f; rw [w64 (by omega) (by omega)]; refine Ev.neg (by omega) ?_; exact Ev.const (by congr 1; omega)
   ·refine Ev.neg (by omega) ?_; refine Ev.bind (a := -1) ?_ ?_
    ·unfold laws_szInt64SS.f; rw [w64 (by omega) (by omega)]; exact Ev.pos (by omega) (Ev.const rfl)
    ·exact Ev.pos (by omega) (Ev.const rfl)
 ·refine ⟨-1, ?_, by omega, fun h0 => by omega⟩; refine Ev.bind (a := -1) ?_ ?_
  ·unfold laws_szBoolS.f; rw [w64 (by omega) (by omega)]; exact Ev.pos (by omega) (Ev.const rfl)
  ·exact Ev.pos (by omega) (Ev.const rfl)
theorem toRelation_ev (t s : Int) (ac : List Bool) (ns : List (List Int)) (h : SzOK ac ns) : Ev (fun k => laws_toRelation.f k t s ac ns) (t, s, ac, ns) := by
 unfold laws_toRelation.f; refine Ev.bind (toBoolS_ev ac (by have := h.1; omega)) ?_; refine Ev.bind (toInt64SS_ev ns (by have := h.2.1; omega) (fun x hx => by have := h.2.2 x hx; omega)) ?_; exact Ev.now _
theorem eqRelation_ev (t s : Int) (ac : List Bool) (ns : List (List Int)) (h : SzOK ac ns) : Ev (fun k => laws_eqRelation.f k t s ac ns t s ac ns) true := by
 unfold laws_eqRelation.f; refine Ev.pos rfl ?_; refine Ev.pos rfl ?_; refine Ev.bind (eqBoolS_ev ac (by have := h.1; omega)) ?_; refine Ev.pos rfl ?_; refine Ev.bind (eqInt64SS_ev ns (by have := h.2.1; omega) (fun x hx => by have := h.2.2 x hx; omega)) ?_; exact Ev.pos rfl (Ev.now _)
theorem in_eq (a b c : Int) : spec_l00In.f a b c = some (decide (b ≤ a) && decide (a ≤ c)) := by
 unfold spec_l00In.f; by_cases h : a ≥ b
 ·rw [if_pos h]; simp [h]
 ·rw [if_neg h]; simp [show ¬ b ≤ a from h]
theorem within_eq (a b c : Int) : impl_within.f a b c = some (decide (b ≤ a) && decide (a ≤ c)) := by
 unfold impl_within.f; by_cases h : b ≤ a
 ·rw [if_pos h]; simp [h]
 ·rw [if_neg h]; simp [h]
theorem areTapes_eq (a : Int) : impl_areTapes.f a = some (decide (1 ≤ a) && decide (a ≤ 3)) := by
 unfold impl_areTapes.f; rw [within_eq]; rfl
def wd (n : Nat) : Nat := if n = 0 then 0 else if n = 1 then 2 else if n = 2 then 8 else 26
theorem wideS_fin : ∀ n : Fin 4, spec_l01Wide.f 10 (n.val : Int) = some ((wd n.val : Nat) : Int) := by decide +kernel
theorem wideI_fin : ∀ n : Fin 4, impl_widthOf.f 10 (n.val : Int) = some ((wd n.val : Nat) : Int) := by decide +kernel
theorem wideS_ev (n : Nat) (h : n ≤ 3) : Ev (fun k => spec_l01Wide.f k (n : Int)) ((wd n : Nat) : Int) := Ev.of (fun k => spec_l01Wide.mono _ k) (wideS_fin ⟨n, by omega⟩)
theorem wideI_ev (n : Nat) (h : n ≤ 3) : Ev (fun k => impl_widthOf.f k (n : Int)) ((wd n : Nat) : Int) := Ev.of (fun k => impl_widthOf.mono _ k) (wideI_fin ⟨n, by omega⟩)
theorem wd_le (n : Nat) (h : n ≤ 3) : wd n ≤ 26 := by
 unfold wd
 split <;> (try split) <;> (try split) <;> omega
/-- The states of a row are among n. -/
def okCells (n : Nat) (l : List Int) : Bool := l.all fun x => decide (0 ≤ x) && decide (x < n)
def okRows (w n : Nat) (ns : List (List Int)) : Bool := ns.all fun r => decide (r.length = w) && okCells n r
/-- A relation's form. -/
def okRel (t s : Int) (ac : List Bool) (ns : List (List Int)) : Bool :=
 decide (1 ≤ t) && decide (t ≤ 3) && decide (1 ≤ ac.length) && decide (ac.length ≤ 150) && decide (ns.length = ac.length) && decide (0 ≤ s) && decide (s < ac.length) && okRows (wd t.toNat) ac.length ns
theorem drop_all {α : Type} (p : α → Bool) (l : List α) (i : Nat) (h : i < l.length) : (l.drop i).all p = (p l[i] && (l.drop (i + 1)).all p) := by
 rw [List.drop_eq_getElem_cons h, List.all_cons]
theorem spec_form_l1 (t : Nat) (s : Int) (ac : List Bool) (ns : List (List Int)) (x3 : Nat) (hx3 : x3 ≤ 150) (i : Nat) (hi : i < ns.length) (hl : ns[i].length ≤ 26) (R : Bool)
  (hR : Ev (fun k => spec_l01Form.l0 k (x3 : Int) (((i : Nat) + 1 : Nat) : Int) (t : Int) s ac ns) (R, (t : Int), s)) (hni : ns.length ≤ 1048576) (d : Nat) : ∀ j, j + d = ns[i].length →
  Ev (fun k => spec_l01Form.l1 k (x3 : Int) (i : Int) (j : Int) (t : Int) s ac ns) (okCells x3 (ns[i].drop j) && R, (t : Int), s) := by
 induction d with
 | zero =>
  intro j hj; apply Ev.succ; simp only [spec_l01Form.l1]; refine Ev.pos (by omega) ?_; refine Ev.pos (by omega) ?_; rw [rd4_nat ns i hi]; refine Ev.neg (by omega) ?_; rw [w64 (by omega) (by omega), List.drop_of_length_le (by omega)]; simp only [okCells, List.all_nil, Bool.true_and]; exact hR
 | succ d ih =>
  intro j hj; apply Ev.succ; simp only [spec_l01Form.l1]; refine Ev.pos (by omega) ?_; refine Ev.pos (by omega) ?_; rw [rd4_nat ns i hi]; refine Ev.pos (by omega) ?_; refine Ev.pos (by omega) ?_; rw [rd_nat _ _ (by omega)]; refine Ev.bind (Ev.const (in_eq _ _ _)) ?_; rw [show okCells x3 (ns[i].drop j) = ((decide (0 ≤ ns[i][j]) && decide (ns[i][j] < x3)) && okCells x3 (ns[i].drop (j + 1))) from drop_all _ _ _ (by omega)]; rw [w64 (n := (x3 : Int) - 1) (by omega) (by omega)]; rw [show decide (ns[i][j] ≤ (x3 : Int) - 1) = decide (ns[i][j] < (x3 : Int)) by apply decide_eq_decide.2; omega]; by_cases c : (decide (0 ≤ ns[i][j]) && decide (ns[i][j] < (x3 : Int))) = true
  ·rw [c]; refine Ev.pos (by first | rfl | trivial) ?_; rw [w64 (by omega) (by omega)]; simp only [Bool.true_and]; exact ih (j + 1) (by omega)
  ·rw [Bool.not_eq_true] at c; rw [c]; exact Ev.neg (by simp) (Ev.const (by simp))
theorem spec_form_l0 (t : Nat) (ht : t ≤ 3) (s : Int) (ac : List Bool) (ns : List (List Int)) (x3 : Nat) (hx3 : x3 ≤ 150) (hni : ns.length ≤ 1048576) (d : Nat) : ∀ i, i + d = ns.length →
  Ev (fun k => spec_l01Form.l0 k (x3 : Int) (i : Int) (t : Int) s ac ns) (okRows (wd t) x3 (ns.drop i), (t : Int), s) := by
 induction d with
 | zero =>
  intro i hi; apply Ev.succ; simp only [spec_l01Form.l0]; refine Ev.neg (by omega) ?_; rw [List.drop_of_length_le (by omega)]; exact Ev.const rfl
 | succ d ih =>
  intro i hi; apply Ev.succ; simp only [spec_l01Form.l0]; refine Ev.pos (by omega) ?_; refine Ev.pos (by omega) ?_; rw [rd4_nat ns i (by omega)]; refine Ev.bind (wideS_ev t ht) ?_; rw [show okRows (wd t) x3 (ns.drop i) = ((decide (ns[i].length = wd t) && okCells x3 ns[i]) && okRows (wd t) x3 (ns.drop (i + 1))) from drop_all _ _ _ (by omega)]; have := wd_le t ht; by_cases c : ns[i].length = wd t
  ·refine Ev.pos (by omega) ?_; have h := spec_form_l1 t s ac ns x3 hx3 i (by omega) (by omega) _ (ih (i + 1) (by omega)) hni ns[i].length 0 (by omega); rw [List.drop_zero] at h; simp only [c, decide_true, Bool.true_and]; exact h
  ·refine Ev.neg (by omega) ?_; simp only [c, decide_false, Bool.false_and]; exact Ev.const rfl
theorem spec_ok_ev (t s : Int) (ac : List Bool) (ns : List (List Int)) (h : SzOK ac ns) : Ev (fun k => spec_l01Ok.f k t s ac ns) (okRel t s ac ns, t, s) := by
 unfold spec_l01Ok.f; have h1 := h.1; by_cases c : ac.length ≤ 150
 ·refine Ev.pos (by omega) ?_; refine Ev.bind (a := (okRel t s ac ns, t, s)) ?_ (Ev.now _); unfold spec_l01Form.f; refine Ev.bind (Ev.const (in_eq _ _ _)) ?_; by_cases ct : 1 ≤ t ∧ t ≤ 3
  ·obtain ⟨n, rfl⟩ : ∃ n : Nat, t = n := ⟨t.toNat, by omega⟩; simp only [show decide ((1 : Int) ≤ n) = true by simpa using ct.1, show decide ((n : Int) ≤ 3) = true by simpa using ct.2, Bool.true_and]; refine Ev.pos (by first | rfl | trivial) ?_; by_cases c1 : ac.length < 1
   ·refine Ev.pos (by omega) ?_; apply Ev.succ; simp only [spec_l01Form.j0]; refine Ev.pos (by first | rfl | trivial) ?_; refine Ev.const ?_; simp [okRel, show ¬ 1 ≤ ac.length by omega]
   ·refine Ev.neg (by omega) ?_; refine Ev.bind (Ev.const (in_eq _ _ _)) ?_; rw [w64 (n := (ac.length : Int) - 1) (by omega) (by omega)]; by_cases cs : 0 ≤ s ∧ s < ac.length
    ·simp only [show decide ((0 : Int) ≤ s) = true by simpa using cs.1, show decide (s ≤ (ac.length : Int) - 1) = true from decide_eq_true (by omega), Bool.true_and]; refine Ev.pos (by first | rfl | trivial) ?_; apply Ev.succ; simp only [spec_l01Form.j0]; by_cases cn : ns.length = ac.length
     ·refine Ev.neg (by simp [cn]) ?_; have h0 := spec_form_l0 n (by omega) s ac ns ac.length c (by have := h.2.1; omega) ns.length 0 (by omega); rw [List.drop_zero] at h0
      have e : okRel (n : Int) s ac ns = okRows (wd n) ac.length ns := by
       simp only [okRel, Int.toNat_natCast]; simp only [show decide ((1 : Int) ≤ n) = true by simpa using ct.1, show decide ((n : Int) ≤ 3) = true by simpa using ct.2, show decide (1 ≤ ac.length) = true from decide_eq_true (by omega), show decide (ac.length ≤ 150) = true from decide_eq_true c, cn, show decide ((0 : Int) ≤ s) = true by simpa using cs.1, show decide (s < (ac.length : Int)) = true from decide_eq_true cs.2, decide_true, Bool.true_and]
      rw [e]; exact h0
     ·refine Ev.pos (by simpa using fun e => cn (by omega)) ?_; refine Ev.const ?_; simp [okRel, cn]
    ·refine Ev.neg ?_ ?_
     ·intro e; rw [Bool.and_eq_true, decide_eq_true_eq, decide_eq_true_eq] at e; exact cs ⟨e.1, by omega⟩
     ·apply Ev.succ; simp only [spec_l01Form.j0]; refine Ev.pos (by first | rfl | trivial) ?_; refine Ev.const ?_
      have : (decide (0 ≤ s) && decide (s < (ac.length : Int))) = false := by
       rw [Bool.eq_false_iff]; intro e; rw [Bool.and_eq_true, decide_eq_true_eq, decide_eq_true_eq] at e; exact cs e
      congr 2
      simp only [okRel]
      rcases Bool.and_eq_false_iff.1 this with e | e <;> rw [e] <;> simp
  ·have e : (decide (1 ≤ t) && decide (t ≤ 3)) = false := by
    rw [Bool.eq_false_iff]; intro e; rw [Bool.and_eq_true, decide_eq_true_eq, decide_eq_true_eq] at e; exact ct e
   rw [e]; refine Ev.neg (by simp) ?_; apply Ev.succ; simp only [spec_l01Form.j0]; refine Ev.pos (by first | rfl | trivial) ?_; refine Ev.const ?_; simp [okRel, e]
 ·refine Ev.neg (by omega) ?_; refine Ev.const ?_; simp [okRel, c]
theorem impl_l1 (t : Nat) (s : Int) (ac : List Bool) (ns : List (List Int)) (x3 : Nat) (hx3 : x3 ≤ 150) (i : Nat) (hni : i < 1048576) (l : List Int) (hl : l.length ≤ 26) (R : Bool)
  (hR : Ev (fun k => impl_ValidRelation.l0 k (x3 : Int) ns (ns.length : Int) (((i : Nat) + 1 : Nat) : Int) (t : Int) s ac ns) R) (d : Nat) : ∀ j, j + d = l.length →
  Ev (fun k => impl_ValidRelation.l1 k (x3 : Int) ns (ns.length : Int) (i : Int) l (l.length : Int) (j : Int) (t : Int) s ac ns) (okCells x3 (l.drop j) && R) := by
 induction d with
 | zero =>
  intro j hj; apply Ev.succ; simp only [impl_ValidRelation.l1]; refine Ev.neg (by omega) ?_; rw [w64 (by omega) (by omega), List.drop_of_length_le (by omega)]; simp only [okCells, List.all_nil, Bool.true_and]; exact hR
 | succ d ih =>
  intro j hj; apply Ev.succ; simp only [impl_ValidRelation.l1]; refine Ev.pos (by omega) ?_; refine Ev.pos (by omega) ?_; refine Ev.pos (by omega) ?_; rw [rd_nat _ _ (by omega)]; refine Ev.bind (Ev.const (within_eq _ _ _)) ?_; rw [show okCells x3 (l.drop j) = ((decide (0 ≤ l[j]) && decide (l[j] < x3)) && okCells x3 (l.drop (j + 1))) from drop_all _ _ _ (by omega)]; rw [w64 (n := (x3 : Int) - 1) (by omega) (by omega)]; rw [show decide (l[j] ≤ (x3 : Int) - 1) = decide (l[j] < (x3 : Int)) by apply decide_eq_decide.2; omega]; by_cases c : (decide (0 ≤ l[j]) && decide (l[j] < (x3 : Int))) = true
  ·rw [c]; refine Ev.pos (by first | rfl | trivial) ?_; rw [w64 (by omega) (by omega)]; simp only [Bool.true_and]; exact ih (j + 1) (by omega)
  ·rw [Bool.not_eq_true] at c; rw [c]; exact Ev.neg (by simp) (Ev.const (by simp))
theorem impl_l0 (t : Nat) (ht : t ≤ 3) (s : Int) (ac : List Bool) (ns : List (List Int)) (x3 : Nat) (hx3 : x3 ≤ 150) (hni : ns.length ≤ 1048576) (d : Nat) : ∀ i, i + d = ns.length →
  Ev (fun k => impl_ValidRelation.l0 k (x3 : Int) ns (ns.length : Int) (i : Int) (t : Int) s ac ns) (okRows (wd t) x3 (ns.drop i)) := by
 induction d with
 | zero =>
  intro i hi; apply Ev.succ; simp only [impl_ValidRelation.l0]; refine Ev.neg (by omega) ?_; rw [List.drop_of_length_le (by omega)]; exact Ev.const rfl
 | succ d ih =>
  intro i hi; apply Ev.succ; simp only [impl_ValidRelation.l0]; refine Ev.pos (by omega) ?_; refine Ev.pos (by omega) ?_; refine Ev.pos (by omega) ?_; rw [rd4_nat ns i (by omega)]; refine Ev.bind (wideI_ev t ht) ?_; rw [show okRows (wd t) x3 (ns.drop i) = ((decide (ns[i].length = wd t) && okCells x3 ns[i]) && okRows (wd t) x3 (ns.drop (i + 1))) from drop_all _ _ _ (by omega)]; have := wd_le t ht; by_cases c : ns[i].length = wd t
  ·refine Ev.pos (by omega) ?_; have h := impl_l1 t s ac ns x3 hx3 i (by omega) ns[i] (by omega) _ (ih (i + 1) (by omega)) ns[i].length 0 (by omega); rw [List.drop_zero] at h; simp only [c, decide_true, Bool.true_and]; rw [c] at h; exact h
  ·refine Ev.neg (by omega) ?_; simp only [c, decide_false, Bool.false_and]; exact Ev.const rfl
theorem impl_ValidRelation_ev (t s : Int) (ac : List Bool) (ns : List (List Int)) (h : SzOK ac ns) : Ev (fun k => impl_ValidRelation.f k t s ac ns) (okRel t s ac ns) := by
 have hj0 : ∀ n : Int, Ev (fun k => impl_ValidRelation.j0 k n true t s ac ns) false := fun n => by
  apply Ev.succ; simp only [impl_ValidRelation.j0]; exact Ev.pos (by first | rfl | trivial) (Ev.const rfl)
 have h1 := h.1; unfold impl_ValidRelation.f; refine Ev.bind (Ev.const (areTapes_eq _)) ?_; by_cases ct : 1 ≤ t ∧ t ≤ 3
 ·obtain ⟨n, rfl⟩ : ∃ n : Nat, t = n := ⟨t.toNat, by omega⟩; simp only [show decide ((1 : Int) ≤ n) = true by simpa using ct.1, show decide ((n : Int) ≤ 3) = true by simpa using ct.2, Bool.true_and]; refine Ev.pos (by first | rfl | trivial) ?_; refine Ev.bind (Ev.const (within_eq _ _ _)) ?_; by_cases c1 : 1 ≤ ac.length ∧ ac.length ≤ 150
  ·refine Ev.pos (by simp; omega) ?_; by_cases cn : ns.length = ac.length
   ·refine Ev.pos (by omega) ?_; refine Ev.bind (Ev.const (within_eq _ _ _)) ?_; rw [w64 (n := (ac.length : Int) - 1) (by omega) (by omega)]; by_cases cs : 0 ≤ s ∧ s < ac.length
    ·simp only [show decide ((0 : Int) ≤ s) = true by simpa using cs.1, show decide (s ≤ (ac.length : Int) - 1) = true from decide_eq_true (by omega), Bool.true_and, Bool.not_true]; apply Ev.succ; simp only [impl_ValidRelation.j0]; refine Ev.neg (by simp) ?_; have h0 := impl_l0 n (by omega) s ac ns ac.length c1.2 (by have := h.2.1; omega) ns.length 0 (by omega); rw [List.drop_zero] at h0
     have e : okRel (n : Int) s ac ns = okRows (wd n) ac.length ns := by
      simp only [okRel, Int.toNat_natCast]; simp only [show decide ((1 : Int) ≤ n) = true by simpa using ct.1, show decide ((n : Int) ≤ 3) = true by simpa using ct.2, show decide (1 ≤ ac.length) = true from decide_eq_true (by omega), show decide (ac.length ≤ 150) = true from decide_eq_true c1.2, cn, show decide ((0 : Int) ≤ s) = true by simpa using cs.1, show decide (s < (ac.length : Int)) = true from decide_eq_true cs.2, decide_true, Bool.true_and]
     rw [e]; exact h0
    ·have e1 : (decide (0 ≤ s) && decide (s ≤ (ac.length : Int) - 1)) = false := by
      rw [Bool.eq_false_iff]; intro e; rw [Bool.and_eq_true, decide_eq_true_eq, decide_eq_true_eq] at e; exact cs ⟨e.1, by omega⟩
     have e2 : (decide (0 ≤ s) && decide (s < (ac.length : Int))) = false := by
      rw [Bool.eq_false_iff]; intro e; rw [Bool.and_eq_true, decide_eq_true_eq, decide_eq_true_eq] at e; exact cs e
     have e : okRel (n : Int) s ac ns = false := by
      simp only [okRel]
      rcases Bool.and_eq_false_iff.1 e2 with e | e <;> rw [e] <;> simp
     rw [e1, e]; exact hj0 _
   ·refine Ev.neg (by omega) ?_; (have e : okRel (n : Int) s ac ns = false := by simp [okRel, cn]); rw [e]; exact hj0 _
  ·refine Ev.neg ?_ ?_
   ·intro e; rw [Bool.and_eq_true, decide_eq_true_eq, decide_eq_true_eq] at e; exact c1 ⟨by omega, by omega⟩
   ·have e : okRel (n : Int) s ac ns = false := by
     simp only [okRel]; by_cases c2 : 1 ≤ ac.length
     ·simp [show ¬ ac.length ≤ 150 from fun h => c1 ⟨c2, h⟩]
     ·simp [c2]
    rw [e]; exact hj0 _
 ·have e : (decide (1 ≤ t) && decide (t ≤ 3)) = false := by
   rw [Bool.eq_false_iff]; intro e; rw [Bool.and_eq_true, decide_eq_true_eq, decide_eq_true_eq] at e; exact ct e
  rw [e]; refine Ev.neg (by simp) ?_; (have e : okRel t s ac ns = false := by simp [okRel, e]); rw [e]; exact hj0 _
/-- What a valid relation gives. -/
theorem okRel_parts {t s : Int} {ac : List Bool} {ns : List (List Int)} (h : okRel t s ac ns = true) : ∃ n : Nat, t = (n : Int) ∧ 1 ≤ n ∧ n ≤ 3 ∧ 1 ≤ ac.length ∧ ac.length ≤ 150 ∧ 0 ≤ s ∧ s < (ac.length : Int) ∧ TableOK (wd n) ac.length ns := by
 simp only [okRel, Bool.and_eq_true, decide_eq_true_eq] at h; obtain ⟨⟨⟨⟨⟨⟨⟨h1, h2⟩, h3⟩, h4⟩, h5⟩, h6⟩, h7⟩, h8⟩ := h; refine ⟨t.toNat, by omega, by omega, by omega, h3, h4, h6, h7, h5, fun row hrow => ?_⟩; simp only [okRows, List.all_eq_true, Bool.and_eq_true, decide_eq_true_eq, okCells] at h8; have := h8 row hrow; exact ⟨this.1, fun x hx => this.2 x hx⟩
def padsT (t : Nat) : List Int := (padsL 20 (t : Int) (wd t) 0 (List.replicate (wd t) 0)).getD []
theorem pads_fin : ∀ t : Fin 4, padsL 20 ((t.val : Nat) : Int) (wd t.val) 0 (List.replicate (wd t.val) 0) = some (padsT t.val) ∧ (padsT t.val).length = wd t.val ∧ ∀ x ∈ padsT t.val, 0 ≤ x ∧ x < 2 ^ t.val := by decide +kernel
def endedOk (t : Nat) : Bool := (List.range (2 ^ t)).all fun p => (List.range (wd t)).all fun c => spec_l01Ended.f 20 (t : Int) (p : Int) (c : Int) == some (endE (padsT t) (p : Int) (c : Int))
theorem ended_fin : ∀ t : Fin 4, endedOk t.val = true := by decide +kernel
theorem atk {α : Type} {g : Nat → Option α} {r : α} (hg : ∀ k, LeO (g k) (g (k + 1))) {k n : Nat} (hn : k ≤ n) (h : g k = some r) : g n = some r := at_rounds hg hn h
theorem ended_at {t : Nat} (ht : t ≤ 3) {k : Nat} (hk : 20 ≤ k) {p c : Int} (p0 : 0 ≤ p) (p1 : p < 2 ^ t) (c0 : 0 ≤ c) (c1 : c < (wd t : Int)) : spec_l01Ended.f k (t : Int) p c = some (endE (padsT t) p c) := by
 refine atk (k := 20) (fun k => spec_l01Ended.mono _ _ _ k) hk ?_; have h := ended_fin ⟨t, by omega⟩; simp only [endedOk, List.all_eq_true, List.mem_range, beq_iff_eq] at h
 have hp : p.toNat < 2 ^ t := by
  (have : ((2 ^ t : Nat) : Int) = 2 ^ t := by push_cast; rfl); omega
 have := h p.toNat hp c.toNat (by omega)
 rwa [show ((p.toNat : Nat) : Int) = p by omega, show ((c.toNat : Nat) : Int) = c by omega] at this
theorem size_le {n : Nat} (h1 : 1 ≤ n) (h3 : n ≤ 3) : (1 : Int) ≤ 2 ^ n ∧ (2 : Int) ^ n ≤ 8 ∧ (2 : Nat) ^ n ≤ 8 := by
 have : n = 1 ∨ n = 2 ∨ n = 3 := by omega
 rcases this with rfl | rfl | rfl <;> decide
/-- The tidy table of a relation's language. -/
def TidyIs (t : Nat) (s : Int) (ac : List Bool) (ns : List (List Int)) (r : List Bool × List (List Int)) : Prop := ∃ f, tidyD (wd t) f (lngR (wd t) (padsT t) ac ns (s, 0)) = some r
theorem impl_tidy_ev {n : Nat} {s : Int} {ac : List Bool} {ns : List (List Int)} (h1 : 1 ≤ n) (h3 : n ≤ 3) (hl : ac.length ≤ 2000) (s0 : 0 ≤ s) (s1 : s < (ac.length : Int)) (hT : TableOK (wd n) ac.length ns) :
  ∃ r, TidyIs n s ac ns r ∧ Ev (fun k => impl_machine_tidy.f k (n : Int) s ac ns) ((n : Int), 0, r.1, r.2) := by
 obtain ⟨q1, q2, q3⟩ := pads_fin ⟨n, by omega⟩; simp only at q1 q2 q3; obtain ⟨z1, z2, z3⟩ := size_le h1 h3; have hw := wd_le n h3; have law := fun (f : Nat) (hf : 1900002 ≤ f) => tidy_law hT rfl q2 (fun x hx => ⟨(q3 x hx).1, by have := (q3 x hx).2; omega⟩) (by omega) (by omega) s0 s1 hf; obtain ⟨p0, r, hp0, hpl0, hr0, hd0⟩ := law 1900002 (by omega); refine ⟨r, ⟨_, hd0⟩, 1900002, fun k hk => ?_⟩; obtain ⟨p, r', hp, hpl, hr, hd⟩ := law k hk; obtain rfl := tidyD_same hd0 hd; have hwid : impl_widthOf.f k (n : Int) = some ((wd n : Nat) : Int) := atk (k := 10) (fun k => impl_widthOf.mono _ k) (by omega) (wideI_fin ⟨n, by omega⟩); have hpad : padsL k (n : Int) (wd n) 0 (List.replicate (wd n) 0) = some (padsT n) := atk (k := 20) (fun k => padsL_mono k _ _ _ _) (by omega) q1; show impl_machine_tidy.f k (n : Int) s ac ns = _; unfold impl_machine_tidy.f; rw [hwid]; simp only [Option.bind_some, Int.toNat_natCast]; rw [if_pos ⟨by omega, by omega, by unfold good2 inI64; simp; omega⟩, hpad]; simp only [Option.bind_some]; rw [hp]; simp only [Option.bind_some]; rw [if_pos hpl, hr]; rfl
theorem spec_tidied_ev {n : Nat} {s : Int} {ac : List Bool} {ns : List (List Int)} (h1 : 1 ≤ n) (h3 : n ≤ 3) (hl : ac.length ≤ 2000) (s0 : 0 ≤ s) (s1 : s < (ac.length : Int)) (hT : TableOK (wd n) ac.length ns)
  {r : List Bool × List (List Int)} (hr : TidyIs n s ac ns r) : Ev (fun k => spec_l01Tidied.f k (n : Int) s ac ns) ((n : Int), 0, r.1, r.2, (n : Int), s) := by
 obtain ⟨f0, hd0⟩ := hr; obtain ⟨q1, q2, q3⟩ := pads_fin ⟨n, by omega⟩; simp only at q1 q2 q3; obtain ⟨z1, z2, z3⟩ := size_le h1 h3; have hw := wd_le n h3; refine ⟨1000000000, fun k hk => ?_⟩; have hN : ac.length * 2 ^ n ≤ 2000 * 8 := Nat.mul_le_mul hl z3
 have hs : SizeOK (wd n) ac.length (ac.length * 2 ^ n) (2 ^ n) (n : Int) k (padsT n) :=
  ⟨z1, z2, by push_cast; rfl, by omega, q2, q3, fun p c p0 p1 c0 c1 => ended_at h3 (by omega) p0 p1 c0 c1⟩
 obtain ⟨p, hp, hp0, hpl, hpT, hpL⟩ := rightF_law hs hT rfl s0 s1 (f := k) (by omega); have hb : p.1.length * (2 * p.1.length + wd n + 20) ≤ 16001 * 32048 := Nat.mul_le_mul (by omega) (by omega); obtain ⟨r', hr', hd'⟩ := tidiedF_law (t := (n : Int)) hpT rfl hp0 (by omega) (by omega) (k := k) (f := k) (by omega) (by omega); rw [hpL] at hd'; obtain rfl := tidyD_same hd0 hd'; have hwid : spec_l01Wide.f k (n : Int) = some ((wd n : Nat) : Int) := atk (k := 10) (fun k => spec_l01Wide.mono _ k) (by omega) (wideS_fin ⟨n, by omega⟩); show spec_l01Tidied.f k (n : Int) s ac ns = _; unfold spec_l01Tidied.f spec_l01Right.f; rw [hwid]; simp only [Option.bind_some, Int.toNat_natCast]; rw [if_pos ⟨by omega, by omega, by omega, by omega, by omega⟩, hp]; simp only [Option.bind_some]; rw [if_pos ⟨by omega, fun row hrow => by rw [(hpT.2 row hrow).1]; omega⟩, hr']; rfl
section
variable {K : Type} [DecidableEq K] {good : K → Bool} {acc : K → Option Bool} {next : K → Int → Option K} {W : Nat}
theorem growRow_met {nx : Int → Option K} : ∀ (m : Nat) (c : Int) (l : List K) (row : List Int) (l1 : List K) (row1 : List Int), growRow good nx m c l row = some (l1, row1) →
  ∃ e, row1 = row ++ e ∧ e.length = m ∧ l.length ≤ l1.length ∧ ∀ q : Nat, l.length ≤ q → q < l1.length → ∃ j : Nat, j < m ∧ e[j]? = some (q : Int) := by
 intro m
 induction m with
 | zero =>
  intro c l row l1 row1 h; simp only [growRow, Option.some.injEq, Prod.mk.injEq] at h; obtain ⟨rfl, rfl⟩ := h; exact ⟨[], by simp, rfl, Nat.le_refl _, fun q h1 h2 => by omega⟩
 | succ m ih =>
  intro c l row l1 row1 h; simp only [growRow] at h; obtain ⟨t, ht, h⟩ := oB h
  split at h
  ·split at h
   ·obtain ⟨e, he, hm, hl, hq⟩ := ih _ _ _ _ _ h; refine ⟨(l.idxOf t : Int) :: e, by simp [he], by simp [hm], hl, fun q h1 h2 => ?_⟩; obtain ⟨j, hj, hj2⟩ := hq q h1 h2; exact ⟨j + 1, by omega, by simpa using hj2⟩
   ·split at h
    ·obtain ⟨e, he, hm, hl, hq⟩ := ih _ _ _ _ _ h; rw [List.length_append, List.length_singleton] at hl hq; refine ⟨(l.length : Int) :: e, by simp [he], by simp [hm], by omega, fun q h1 h2 => ?_⟩; by_cases e0 : q = l.length
     ·exact ⟨0, by omega, by simp [e0]⟩
     ·obtain ⟨j, hj, hj2⟩ := hq q (by omega) h2; exact ⟨j + 1, by omega, by simpa using hj2⟩
    ·cases h
  ·cases h
def Met (W n : Nat) (rs : List (List Int)) : Prop := ∀ q : Nat, 1 ≤ q → q < n → ∃ (i : Nat) (row : List Int) (j : Nat), i < q ∧ rs[i]? = some row ∧ j < W ∧ row[j]? = some (q : Int)
theorem growL_met : ∀ (f : Nat) (l : List K) (bs : List Bool) (rs : List (List Int)) (r : List Bool × List (List Int)), rs.length = bs.length → bs.length ≤ l.length → Met W l.length rs → growL good acc next W f l bs rs = some r → Met W r.1.length r.2 := by
 intro f
 induction f with
 | zero => intro l bs rs r _ _ _ h; cases h
 | succ f ih =>
  intro l bs rs r hlen hle hM h; simp only [growL] at h
  split at h
  ·next e =>
   obtain rfl := Option.some.inj h; have := List.getElem?_eq_none_iff.1 e; (have e2 : bs.length = l.length := by omega)
   simpa [e2] using hM
  ·next k e =>
   have hi := (List.getElem?_eq_some_iff.1 e).1; obtain ⟨⟨l1, row1⟩, hrow, h⟩ := oB h; obtain ⟨a, ha, h⟩ := oB h; obtain ⟨e1, he1, hm, hl, hq⟩ := growRow_met _ _ _ _ _ _ hrow; rw [List.nil_append] at he1; subst he1; refine ih _ _ _ _ (by simp [hlen]) (by simp; omega) (fun q q1 q2 => ?_) h; by_cases c : q < l.length
   ·obtain ⟨i, row, j, h1, h2, h3, h4⟩ := hM q q1 c; exact ⟨i, row, j, h1, by rw [List.getElem?_append_left (List.getElem?_eq_some_iff.1 h2).1]; exact h2, h3, h4⟩
   ·obtain ⟨j, h3, h4⟩ := hq q (by omega) q2; exact ⟨bs.length, row1, j, by omega, by rw [← hlen]; simp, h3, h4⟩
end
/-- The form of a tidy table. -/
theorem tidyD_table {W f : Nat} {L : List Int → Bool} {r : List Bool × List (List Int)} (h : tidyD W f L = some r) : TableOK W r.1.length r.2 ∧ 0 < r.1.length ∧ r.1.length ≤ 1900000 ∧ Met W r.1.length r.2 := by
 classical
 unfold tidyD at h
 obtain ⟨h1, h2, h3, _⟩ := growL_table (S := fun _ => True) (Λ := fun (L : List Int → Bool) (w : List Int) => L w && w.all fun c => decide (0 ≤ c) && decide (c < (W : Int)))
  (fun k c t _ c0 c1 e => ⟨trivial, fun w => by obtain rfl := Option.some.inj e; simp [c0, c1]⟩) (fun k b _ e => by obtain rfl := Option.some.inj e; simp) (fun k c w hc => by
   by_cases c0 : 0 ≤ c
   ·have : ¬ c < (W : Int) := fun h => hc ⟨c0, h⟩; simp [this]
   ·simp [c0]) (start := L) trivial h
 exact ⟨h1, h2, h3, growL_met _ _ _ _ _ rfl (by simp) (fun q h1 h2 => by simp at h2; omega) h⟩
theorem clone_eq (l : List Bool) (h : l.length ≤ 1000000000) : slices_Clone_bool_bool.f l = some l := by
 unfold slices_Clone_bool_bool.f; simp; exact h
theorem machineOf_l0 (t s : Int) (ac : List Bool) (ns : List (List Int)) (hl : ns.length ≤ 1048576) (hr : ∀ x ∈ ns, x.length ≤ 1048576) (d : Nat) : ∀ i : Nat, i + d = ns.length → Ev (fun k => impl_machineOf.l0 k ns (ns.length : Int) (i : Int) t s ac (ns.take i)) (t, s, ac, ns) := by
 induction d with
 | zero =>
  intro i hi; apply Ev.succ; simp only [impl_machineOf.l0]; refine Ev.neg (by omega) (Ev.const ?_); rw [List.take_of_length_le (by omega)]
 | succ d ih =>
  intro i hi; apply Ev.succ; simp only [impl_machineOf.l0]; refine Ev.pos (by omega) (Ev.pos (by omega) (Ev.pos (by omega) ?_)); rw [rd4_nat ns i (by omega)]; have hri := hr _ (List.getElem_mem (show i < ns.length by omega))
  have inner : ∀ (e j : Nat), j + e = ns[i].length → Ev (fun k => impl_machineOf.l1 k (ns[i].take j) ns (ns.length : Int) (i : Int) ns[i] (ns[i].length : Int) (j : Int) t s ac (ns.take i)) (t, s, ac, ns) := by
   intro e
   induction e with
   | zero =>
    intro j hj; apply Ev.succ; simp only [impl_machineOf.l1]; refine Ev.neg (by omega) (Ev.pos (by simp; omega) ?_); rw [w64 (by omega) (by omega), show ns[i].take j = ns[i] from List.take_of_length_le (by omega), List.take_append_getElem (show i < ns.length by omega)]; exact ih (i + 1) (by omega)
   | succ e ihe =>
    intro j hj; apply Ev.succ; simp only [impl_machineOf.l1]; refine Ev.pos (by omega) (Ev.pos (by omega) (Ev.pos (by omega) (Ev.pos (by simp; omega) ?_))); rw [w64 (by omega) (by omega), rd_nat _ _ (by omega), List.take_append_getElem (by omega)]; exact ihe (j + 1) (by omega)
  exact inner ns[i].length 0 (by omega)
theorem machineOf_ev (t s : Int) (ac : List Bool) (ns : List (List Int)) (h : SzOK ac ns) : Ev (fun k => impl_machineOf.f k t s ac ns) (t, s, ac, ns) := by
 unfold impl_machineOf.f; exact Ev.bind (Ev.const (clone_eq ac (by have := h.1; omega))) (machineOf_l0 t s ac ns h.2.1 h.2.2 ns.length 0 (by omega))
theorem tidyOf_ev {n : Nat} {s : Int} {ac : List Bool} {ns : List (List Int)} {r : List Bool × List (List Int)} (h : SzOK ac ns) (hi : Ev (fun k => impl_machine_tidy.f k (n : Int) s ac ns) ((n : Int), 0, r.1, r.2)) : Ev (fun k => impl_tidyOf.f k (n : Int) s ac ns) ((n : Int), 0, r.1, r.2) := by
 unfold impl_tidyOf.f; exact Ev.bind (machineOf_ev _ s ac ns h) (Ev.bind hi (Ev.now _))
def inW (W : Nat) (w : List Int) : Bool := w.all fun c => decide (0 ≤ c) && decide (c < (W : Int))
def runT (ns : List (List Int)) : Int → List Int → Int
 | q, [] => q
 | q, c :: w => runT ns (stp ns q c) w
theorem runT_range {W n : Nat} {ns : List (List Int)} (hT : TableOK W n ns) : ∀ (w : List Int) (q : Int), inW W w = true → 0 ≤ q → q < (n : Int) → 0 ≤ runT ns q w ∧ runT ns q w < (n : Int) := by
 intro w
 induction w with
 | nil => intro q _ h0 h1; exact ⟨h0, h1⟩
 | cons c w ih =>
  intro q h h0 h1; simp only [inW, List.all_cons, Bool.and_eq_true, decide_eq_true_eq] at h; have := hT.stpd h0 h1 h.1.1 h.1.2; exact ih _ h.2 this.1 this.2
def lexl : List Int → List Int → Prop
 | a :: u, b :: v => a < b ∨ (a = b ∧ lexl u v)
 | _, _ => False
theorem lexl_irrefl : ∀ u, ¬ lexl u u := by
 intro u
 induction u with
 | nil => simp [lexl]
 | cons a u ih => simp [lexl, ih]
theorem lexl_trans : ∀ u v w, lexl u v → lexl v w → lexl u w := by
 intro u
 induction u with
 | nil => intro v w h; simp [lexl] at h
 | cons a u ih =>
  intro v w h1 h2
  cases v with
  | nil => simp [lexl] at h1
  | cons b v =>
   cases w with
   | nil => simp [lexl] at h2
   | cons c w =>
    simp only [lexl] at h1 h2 ⊢
    rcases h1 with h1 | ⟨h1, h1'⟩ <;> rcases h2 with h2 | ⟨h2, h2'⟩
    ·left; omega
    ·left; omega
    ·left; omega
    ·right; exact ⟨by omega, ih _ _ h1' h2'⟩
def llt (u v : List Int) : Prop := u.length < v.length ∨ (u.length = v.length ∧ lexl u v)
def lle (u v : List Int) : Prop := u = v ∨ llt u v
theorem llt_irrefl (u : List Int) : ¬ llt u u := by
 rintro (h | ⟨_, h⟩)
 ·omega
 ·exact lexl_irrefl u h
theorem llt_trans {u v w : List Int} (h1 : llt u v) (h2 : llt v w) : llt u w := by
 rcases h1 with h1 | ⟨h1, h1'⟩ <;> rcases h2 with h2 | ⟨h2, h2'⟩
 ·exact .inl (by omega)
 ·exact .inl (by omega)
 ·exact .inl (by omega)
 ·exact .inr ⟨by omega, lexl_trans _ _ _ h1' h2'⟩
theorem lle_anti {u v : List Int} (h1 : lle u v) (h2 : lle v u) : u = v := by
 rcases h1 with h1 | h1
 ·exact h1
 ·rcases h2 with h2 | h2
  ·exact h2.symm
  ·exact absurd (llt_trans h1 h2) (llt_irrefl u)
/-- The first of the lists that are taken. -/
def Least (A : List Int → Prop) (w : List Int) : Prop := A w ∧ ∀ w', A w' → lle w w'
theorem Least.same {A : List Int → Prop} {u v : List Int} (h : Least A u) (h' : Least A v) : u = v := lle_anti (h.2 v h'.1) (h'.2 u h.1)
section
variable {W n : Nat} {ac : List Bool} {ns : List (List Int)}
/-- A list of columns is taken from a state. -/
def Tk (W : Nat) (ac : List Bool) (ns : List (List Int)) (q : Int) (u : List Int) : Prop := inW W u = true ∧ rdOf false ac (runT ns q u) = true
theorem Tk.cons {q c : Int} {u : List Int} : Tk W ac ns q (c :: u) ↔ (0 ≤ c ∧ c < (W : Int)) ∧ Tk W ac ns (stp ns q c) u := by
 unfold Tk; simp only [inW, List.all_cons, Bool.and_eq_true, decide_eq_true_eq, runT]; exact ⟨fun ⟨⟨a, b⟩, c⟩ => ⟨a, b, c⟩, fun ⟨a, b, c⟩ => ⟨⟨a, b⟩, c⟩⟩
def Dist (W : Nat) (ac : List Bool) (ns : List (List Int)) (q : Int) (d : Nat) : Prop := (∃ u, u.length = d ∧ Tk W ac ns q u) ∧ ∀ u, Tk W ac ns q u → d ≤ u.length
theorem Dist.same {q : Int} {d e : Nat} (h : Dist W ac ns q d) (h' : Dist W ac ns q e) : d = e := by
 obtain ⟨⟨u, hu, tu⟩, h1⟩ := h; obtain ⟨⟨v, hv, tv⟩, h2⟩ := h'; have := h1 v tv; have := h2 u tu; omega
/-- What is known of a state when m rounds are over. -/
def FarAt (W : Nat) (ac : List Bool) (ns : List (List Int)) (m : Nat) (F : List Int) (q : Int) : Prop := (rd F q = -1 ∧ ∀ u, Tk W ac ns q u → m < u.length) ∨ ∃ d : Nat, d ≤ m ∧ rd F q = (d : Int) ∧ Dist W ac ns q d
theorem FarAt.test {m m' : Nat} {F : List Int} {q : Int} (h : FarAt W ac ns m' F q) (hm : m ≤ m') : rd F q = (m : Int) ↔ Dist W ac ns q m := by
 rcases h with ⟨h1, h2⟩ | ⟨d, hd, h1, h2⟩
 ·constructor
  ·intro h; omega
  ·rintro ⟨⟨u, hu, tu⟩, _⟩; have := h2 u tu; omega
 ·constructor
  ·intro h; (have : d = m := by omega); exact this ▸ h2
  ·intro h; rw [h1, h2.same h]
theorem FarAt.neg {m : Nat} {F : List Int} {q : Int} (h : FarAt W ac ns m F q) : ¬ 0 ≤ rd F q ↔ ∀ u, Tk W ac ns q u → m < u.length := by
 rcases h with ⟨h1, h2⟩ | ⟨d, hd, h1, ⟨u, hu, tu⟩, h2⟩
 ·exact ⟨fun _ => h2, fun _ => by omega⟩
 ·exact ⟨fun h => absurd (by omega) h, fun h => by have := h u tu; omega⟩
theorem far_step {q : Int} {m : Nat} (h : ∀ u, Tk W ac ns q u → m < u.length) : Dist W ac ns q (m + 1) ↔ ∃ c : Nat, c < W ∧ Dist W ac ns (stp ns q c) m := by
 constructor
 ·rintro ⟨⟨u, hu, tu⟩, h2⟩
  cases u with
  | nil => simp at hu
  | cons c u =>
   have ht := Tk.cons.1 tu; refine ⟨c.toNat, by omega, ⟨u, by simpa using hu, ?_⟩, fun v tv => ?_⟩
   ·rw [show ((c.toNat : Nat) : Int) = c by omega]; exact ht.2
   ·have := h2 (c :: v) (Tk.cons.2 ⟨ht.1, by rw [show ((c.toNat : Nat) : Int) = c by omega] at tv; exact tv⟩)
    simpa using this
 ·rintro ⟨c, hc, ⟨u, hu, tu⟩, h2⟩; exact ⟨⟨(c : Int) :: u, by simp [hu], Tk.cons.2 ⟨⟨by omega, by omega⟩, tu⟩⟩, fun v tv => h v tv⟩
/-- From a state from which something is taken, the nearest: no more columns than states. -/
theorem dist_bound (hT : TableOK W n ns) {d : Nat} : ∀ {q : Int}, 0 ≤ q → q < (n : Int) → Dist W ac ns q d → d < n := by
 have key : ∀ (d : Nat) (q : Int), 0 ≤ q → q < (n : Int) → Dist W ac ns q d → ∃ l : List Int, l.length = d + 1 ∧ (∀ v ∈ l, 0 ≤ v ∧ v < (n : Int)) ∧ ∀ (i : Nat) v, l[i]? = some v → Dist W ac ns v i := by
  intro d
  induction d with
  | zero => intro q q0 q1 h; exact ⟨[q], rfl, by simp; omega, fun i v hv => by cases i with | zero => simp at hv; subst hv; exact h | succ i => simp at hv⟩
  | succ d ih =>
   intro q q0 q1 h; obtain ⟨c, hc, h2⟩ := (far_step (fun u tu => by have := h.2 u tu; omega)).1 h; have hs := hT.stpd q0 q1 (c := (c : Int)) (by omega) (by omega); obtain ⟨l, hl, hr, hd⟩ := ih _ hs.1 hs.2 h2; refine ⟨l ++ [q], by simp [hl], fun v hv => ?_, fun i v hv => ?_⟩
   ·rcases List.mem_append.1 hv with hv | hv
    ·exact hr v hv
    ·simp at hv; subst hv; exact ⟨q0, q1⟩
   ·by_cases e : i < l.length
    ·rw [List.getElem?_append_left e] at hv; exact hd i v hv
    ·(have hi : i = l.length := by have := (List.getElem?_eq_some_iff.1 hv).1; simp at this; omega); subst hi; simp at hv; subst hv; rw [hl]; exact h
 intro q q0 q1 h; obtain ⟨l, hl, hr, hd⟩ := key d q q0 q1 h
 have hn : l.Nodup := by
  unfold List.Nodup; rw [List.pairwise_iff_getElem]; intro i j hi hj hij hv; have h1 := hd i _ (List.getElem?_eq_getElem hi); rw [hv] at h1; have := h1.same (hd j _ (List.getElem?_eq_getElem hj)); omega
 have := X.nodup_len l ((List.range n).map fun (i : Nat) => (i : Int)) hn (fun v hv => by
  have := hr v hv
  exact List.mem_map.2 ⟨v.toNat, by rw [List.mem_range]; omega, by omega⟩)
 simp at this; omega
theorem least_len {A : Nat → Prop} {m : Nat} (h : A m) : ∃ d, A d ∧ ∀ e, A e → d ≤ e := by
 classical
 induction m using Nat.strongRecOn with
 | _ m ih =>
  by_cases c : ∃ e, e < m ∧ A e
  ·obtain ⟨e, he, hA⟩ := c; exact ih e he hA
  ·exact ⟨m, h, fun e he => Nat.not_lt.1 fun hlt => c ⟨e, hlt, he⟩⟩
theorem dist_ex {q : Int} {u : List Int} (h : Tk W ac ns q u) : ∃ d, Dist W ac ns q d := by
 obtain ⟨d, ⟨v, hv, tv⟩, h2⟩ := least_len (A := fun m => ∃ v, v.length = m ∧ Tk W ac ns q v) ⟨u, rfl, h⟩; exact ⟨d, ⟨v, hv, tv⟩, fun w tw => h2 _ ⟨w, rfl, tw⟩⟩
/-- All rounds are over: -1 where nothing is taken. -/
def FarOK (W n : Nat) (ac : List Bool) (ns : List (List Int)) (F : List Int) : Prop := F.length = n ∧ ∀ q : Int, 0 ≤ q → q < (n : Int) → (rd F q = -1 ∧ ∀ u, ¬ Tk W ac ns q u) ∨ ∃ d : Nat, d < n ∧ rd F q = (d : Int) ∧ Dist W ac ns q d
theorem far_done (hT : TableOK W n ns) {F : List Int} (hl : F.length = n) (h : ∀ q : Int, 0 ≤ q → q < (n : Int) → FarAt W ac ns n F q) : FarOK W n ac ns F := by
 refine ⟨hl, fun q q0 q1 => ?_⟩
 rcases h q q0 q1 with ⟨h1, h2⟩ | ⟨d, hd, h1, h2⟩
 ·refine .inl ⟨h1, fun u tu => ?_⟩; obtain ⟨d, hD⟩ := dist_ex tu; have := dist_bound hT q0 q1 hD; obtain ⟨v, hv, tv⟩ := hD.1; have := h2 v tv; omega
 ·exact .inr ⟨d, dist_bound hT q0 q1 h2, h1, h2⟩
end
/-- A run that ends in something of which Φ holds. -/
def ResP {α : Type} (Φ : α → Prop) (g : Nat → Option α) : Prop := ∃ r, Ev g r ∧ Φ r
section
variable {α β : Type} {Φ : α → Prop}
theorem ResP.succ {g : Nat → Option α} (h : ResP Φ (fun k => g (k + 1))) : ResP Φ g := by
 obtain ⟨r, h1, h2⟩ := h; exact ⟨r, Ev.succ h1, h2⟩
theorem ResP.pos {c : Prop} [Decidable c] {f g : Nat → Option α} (hc : c) (h : ResP Φ f) : ResP Φ (fun k => if c then f k else g k) := by
 obtain ⟨r, h1, h2⟩ := h; exact ⟨r, Ev.pos hc h1, h2⟩
theorem ResP.neg {c : Prop} [Decidable c] {f g : Nat → Option α} (hc : ¬ c) (h : ResP Φ g) : ResP Φ (fun k => if c then f k else g k) := by
 obtain ⟨r, h1, h2⟩ := h; exact ⟨r, Ev.neg hc h1, h2⟩
theorem ResP.bind {f : Nat → Option β} {b : β} {g : β → Nat → Option α} (hf : Ev f b) (h : ResP Φ (g b)) : ResP Φ (fun k => (f k).bind fun x => g x k) := by
 obtain ⟨r, h1, h2⟩ := h; exact ⟨r, Ev.bind hf h1, h2⟩
end
theorem rd_set_at {l : List Int} {i : Nat} {x : Int} (h : i < l.length) : rd (l.set i x) (i : Int) = x := by
 simp [rd, List.getD_eq_getElem?_getD, List.getElem?_set, h]
theorem rd_set_ne {l : List Int} {i : Nat} {q x : Int} (q0 : 0 ≤ q) (h : q ≠ (i : Int)) : rd (l.set i x) q = rd l q := by
 (have : i ≠ q.toNat := by omega); simp [rd, List.getD_eq_getElem?_getD, List.getElem?_set, this]
section
variable {W n : Nat} {ac : List Bool} {ns : List (List Int)} {t s : Int}
theorem FarAt.set {m i : Nat} {F : List Int} {q x : Int} (h : FarAt W ac ns m F q) (q0 : 0 ≤ q) (hq : q ≠ (i : Int)) : FarAt W ac ns m (F.set i x) q := by
 unfold FarAt at h ⊢
 rw [rd_set_ne q0 hq]; exact h
theorem FarAt.up {m : Nat} {F : List Int} {q : Int} (h : FarAt W ac ns m F q) (h0 : 0 ≤ rd F q) : FarAt W ac ns (m + 1) F q := by
 rcases h with ⟨h1, h2⟩ | ⟨d, hd, h1, h2⟩
 ·omega
 ·exact .inr ⟨d, by omega, h1, h2⟩
/-- What is known within round m + 1, before row i. -/
def FarIn (W n : Nat) (ac : List Bool) (ns : List (List Int)) (m i : Nat) (F : List Int) : Prop := F.length = n ∧ (∀ q : Int, 0 ≤ q → q < (i : Int) → FarAt W ac ns (m + 1) F q) ∧ ∀ q : Int, (i : Int) ≤ q → q < (n : Int) → FarAt W ac ns m F q
theorem FarIn.test {m i : Nat} {F : List Int} (h : FarIn W n ac ns m i F) {q : Int} (q0 : 0 ≤ q) (q1 : q < (n : Int)) : rd F q = (m : Int) ↔ Dist W ac ns q m := by
 by_cases e : q < (i : Int)
 ·exact (h.2.1 q q0 e).test (by omega)
 ·exact (h.2.2 q (by omega) q1).test (Nat.le_refl _)
theorem far_l1 (hT : TableOK W n ns) (hn : ac.length = n) (hn2 : n ≤ 2000000) (hW : W ≤ 1000) : ∀ (e m : Nat) (F : List Int), m + e = n → FarIn W n ac ns m 0 F → ResP (FarOK W n ac ns) (fun k => impl_machine_far.l1 k F (((m + 1 : Nat) : Int)) t s ac ns) := by
 intro e
 induction e with
 | zero =>
  intro m F hm hF; refine ResP.succ ?_; simp only [impl_machine_far.l1]; (have : m = n := by omega); subst this; refine ResP.neg (by rw [hF.1]; omega) ⟨F, Ev.now _, far_done hT hF.1 (fun q q0 q1 => hF.2.2 q q0 q1)⟩
 | succ e ih =>
  intro m F hm hF; refine ResP.succ ?_; simp only [impl_machine_far.l1]; refine ResP.pos (by rw [hF.1]; omega) ?_; rw [hT.1]
  have rows : ∀ (d i : Nat) (F : List Int), i + d = n → FarIn W n ac ns m i F → ResP (FarOK W n ac ns) (fun k => impl_machine_far.l2 k F (((m + 1 : Nat) : Int)) ns (n : Int) (i : Int) t s ac ns) := by
   intro d
   induction d with
   | zero =>
    intro i F hi hF; (have : i = n := by omega); subst this; refine ResP.succ ?_; simp only [impl_machine_far.l2]; refine ResP.neg (by omega) ?_; rw [w64 (by omega) (by omega), show ((m + 1 : Nat) : Int) + 1 = ((m + 1 + 1 : Nat) : Int) by omega]; exact ih (m + 1) F (by omega) ⟨hF.1, fun q q0 q1 => by omega, fun q q0 q1 => hF.2.1 q (by omega) q1⟩
   | succ d ihd =>
    intro i F hi hF; (have hin : i < n := by omega); have hfl := hF.1; refine ResP.succ ?_; simp only [impl_machine_far.l2]; refine ResP.pos (by omega) (ResP.pos (by omega) (ResP.pos (by rw [hT.1]; omega) (ResP.pos (by rw [hF.1]; omega) ?_))); (have hi1 : wrap64 ((i : Int) + 1) = ((i + 1 : Nat) : Int) := by rw [w64 (by omega) (by omega)]; omega); by_cases c : rd F (i : Int) ≥ 0
    ·refine ResP.pos c ?_; rw [hi1]; refine ihd (i + 1) F (by omega) ⟨hF.1, fun q q0 q1 => ?_, fun q q0 q1 => hF.2.2 q (by omega) q1⟩; by_cases e : q < (i : Int)
     ·exact hF.2.1 q q0 e
     ·(have : q = (i : Int) := by omega); subst this; exact (hF.2.2 _ (by omega) (by omega)).up c
    ·refine ResP.neg c ?_; have hfar := (hF.2.2 (i : Int) (by omega) (by omega)).neg.1 (by omega); have hrow := hT.row (q := (i : Int)) (by omega) (by omega); have hrl : (rd_L9 ns (i : Int)).length = W := (hT.2 _ hrow).1; rw [hrl]
     have cols : ∀ (e j : Nat), j + e = W → (∀ c : Nat, c < j → ¬ rd F (stp ns (i : Int) (c : Int)) = (m : Int)) → ResP (FarOK W n ac ns) (fun k => impl_machine_far.l3 k F (((m + 1 : Nat) : Int)) (i : Int) ns (n : Int) (i : Int) (rd_L9 ns (i : Int)) (W : Int) (j : Int) t s ac ns) := by
      intro e
      induction e with
      | zero =>
       intro j hj hno; refine ResP.succ ?_; simp only [impl_machine_far.l3]; refine ResP.neg (by omega) ?_; rw [hi1]; refine ihd (i + 1) F (by omega) ⟨hF.1, fun q q0 q1 => ?_, fun q q0 q1 => hF.2.2 q (by omega) q1⟩; by_cases e : q < (i : Int)
       ·exact hF.2.1 q q0 e
       ·(have : q = (i : Int) := by omega); subst this; refine .inl ⟨?_, fun u tu => ?_⟩
        ·rcases hF.2.2 (i : Int) (by omega) (by omega) with ⟨h1, _⟩ | ⟨d, _, h1, _⟩
         ·exact h1
         ·omega
        ·have h1 := hfar u tu; by_cases e : u.length = m + 1
         ·exfalso; obtain ⟨c, hc, hd⟩ := (far_step hfar).1 ⟨⟨u, e, tu⟩, fun v tv => hfar v tv⟩; have hs := hT.stpd (q := (i : Int)) (c := (c : Int)) (by omega) (by omega) (by omega) (by omega); exact hno c (by omega) ((hF.test hs.1 hs.2).2 hd)
         ·omega
      | succ e ihe =>
       intro j hj hno; refine ResP.succ ?_; simp only [impl_machine_far.l3]; have hs := hT.stpd (q := (i : Int)) (c := (j : Int)) (by omega) (by omega) (by omega) (by omega); have hse : rd (rd_L9 ns (i : Int)) (j : Int) = stp ns (i : Int) (j : Int) := rfl; rw [hse]; refine ResP.pos (by omega) (ResP.pos (by omega) (ResP.pos (by rw [hrl]; omega) (ResP.pos hs.1 (ResP.pos (by rw [hF.1]; omega) ?_)))); (have hm1 : wrap64 (((m + 1 : Nat) : Int) - 1) = (m : Int) := by rw [w64 (by omega) (by omega)]; omega); rw [hm1]; by_cases ce : rd F (stp ns (i : Int) (j : Int)) = (m : Int)
       ·refine ResP.pos ce (ResP.pos (by omega) (ResP.pos (by rw [hF.1]; omega) ?_)); rw [hi1, Int.toNat_natCast]; have hD : Dist W ac ns (i : Int) (m + 1) := (far_step hfar).2 ⟨j, by omega, (hF.test hs.1 hs.2).1 ce⟩; refine ihd (i + 1) _ (by omega) ⟨by rw [List.length_set]; exact hF.1, fun q q0 q1 => ?_, fun q q0 q1 => (hF.2.2 q (by omega) q1).set (by omega) (by omega)⟩; by_cases e : q < (i : Int)
        ·exact (hF.2.1 q q0 e).set q0 (by omega)
        ·(have : q = (i : Int) := by omega); subst this; exact .inr ⟨m + 1, Nat.le_refl _, rd_set_at (by rw [hF.1]; exact hin), hD⟩
       ·refine ResP.neg ce ?_; rw [w64 (by omega) (by omega), show (j : Int) + 1 = ((j + 1 : Nat) : Int) by omega]; refine ihe (j + 1) (by omega) (fun c hc => ?_); by_cases e : c < j
        ·exact hno c e
        ·(have : c = j := by omega); subst this; exact ce
     exact cols W 0 (by omega) (fun c hc => by omega)
  exact rows n 0 F (by omega) hF
theorem far_l0 (hT : TableOK W n ns) (hn : ac.length = n) (hn2 : n ≤ 2000000) (hW : W ≤ 1000) : ∀ (d i : Nat) (F : List Int), i + d = n → F.length = n → (∀ q : Nat, q < i → rd F (q : Int) = if rdOf false ac (q : Int) = true then 0 else -1) → (∀ q : Nat, i ≤ q → q < n → rd F (q : Int) = 0) → ResP (FarOK W n ac ns) (fun k => impl_machine_far.l0 k F ac (n : Int) (i : Int) t s ac ns) := by
 intro d
 induction d with
 | zero =>
  intro i F hi hl h1 h2; refine ResP.succ ?_; simp only [impl_machine_far.l0]; refine ResP.neg (by omega) ?_; have := far_l1 (t := t) (s := s) hT hn hn2 hW n 0 F (by omega) ⟨hl, fun q q0 q1 => by omega, fun q q0 q1 => ?_⟩
  ·exact this
  ·have hq := h1 q.toNat (by omega); rw [show ((q.toNat : Nat) : Int) = q by omega] at hq; by_cases c : rdOf false ac q = true
   ·rw [if_pos c] at hq; exact .inr ⟨0, Nat.le_refl _, by rw [hq]; rfl, ⟨⟨[], rfl, rfl, c⟩, fun u _ => Nat.zero_le _⟩⟩
   ·rw [if_neg c] at hq; refine .inl ⟨hq, fun u tu => ?_⟩
    cases u with
    | nil => exact absurd tu.2 c
    | cons b u => simp
 | succ d ih =>
  intro i F hi hl h1 h2; refine ResP.succ ?_; simp only [impl_machine_far.l0]; (have hi1 : wrap64 ((i : Int) + 1) = ((i + 1 : Nat) : Int) := by rw [w64 (by omega) (by omega)]; omega); refine ResP.pos (by omega) (ResP.pos (by omega) (ResP.pos (by omega) ?_)); rw [hi1]; by_cases c : rdOf false ac (i : Int) = true
  ·refine ResP.pos c (ih (i + 1) F (by omega) hl (fun q hq => ?_) (fun q q0 q1 => h2 q (by omega) q1)); by_cases e : q < i
   ·exact h1 q e
   ·(have : q = i := by omega); subst this; rw [if_pos c]; exact h2 q (Nat.le_refl _) (by omega)
  ·refine ResP.neg c (ResP.pos (by omega) ?_); rw [Int.toNat_natCast]; refine ih (i + 1) _ (by omega) (by rw [List.length_set]; exact hl) (fun q hq => ?_) (fun q q0 q1 => ?_)
   ·by_cases e : q < i
    ·rw [rd_set_ne (by omega) (by omega)]; exact h1 q e
    ·(have : q = i := by omega); subst this; rw [if_neg c]; exact rd_set_at (by omega)
   ·rw [rd_set_ne (by omega) (by omega)]; exact h2 q (by omega) q1
theorem far_ev (hT : TableOK W n ns) (hn : ac.length = n) (hn2 : n ≤ 2000000) (hW : W ≤ 1000) : ResP (FarOK W n ac ns) (fun k => impl_machine_far.f k t s ac ns) := by
 unfold impl_machine_far.f; rw [hn]; refine ResP.pos (by omega) (ResP.pos (by omega) ?_); rw [Int.toNat_natCast]; refine far_l0 hT hn hn2 hW n 0 _ (by omega) (by simp) (fun q hq => by omega) (fun q _ hq => ?_); simp [rd, List.getD_eq_getElem?_getD, hq]
end
theorem cnt_none {W : Nat} {ac : List Bool} {ns : List (List Int)} : ∀ (n : Nat) (q : Int), (∀ w : List Int, w.length = n → inW W w = true → rdOf false ac (runT ns q w) = false) → cnt W ac ns n q = 0 := by
 intro n
 induction n with
 | zero => intro q h; have := h [] rfl rfl; simp only [runT] at this; simp [cnt, this]
 | succ n ih =>
  intro q h; refine sumN_all_zero (fun c hc => ih _ (fun w hw hin => ?_)); have := h ((c : Int) :: w) (by simp [hw]) (by simp [inW] at hin ⊢; exact ⟨by omega, hin⟩)
  simpa [runT] using this
theorem sumN_add {W : Nat} (f g : Nat → Nat) : sumN W (fun c => f c + g c) = sumN W f + sumN W g := by
 induction W with
 | zero => rfl
 | succ W ih => rw [sumN_succ, sumN_succ, sumN_succ, ih]; omega
theorem sumN_mul {W : Nat} (f : Nat → Nat) (k : Nat) : sumN W (fun c => f c * k) = sumN W f * k := by
 induction W with
 | zero => simp [sumN]
 | succ W ih => rw [sumN_succ, sumN_succ, ih, Nat.add_mul]
theorem sumN_mulL {W : Nat} (f : Nat → Nat) (k : Nat) : sumN W (fun c => k * f c) = k * sumN W f := by
 induction W with
 | zero => simp [sumN]
 | succ W ih => rw [sumN_succ, sumN_succ, ih, Nat.mul_add]
theorem sumN_swap {N W : Nat} (f : Nat → Nat → Nat) : sumN N (fun a => sumN W (fun b => f a b)) = sumN W (fun b => sumN N (fun a => f a b)) := by
 induction N with
 | zero => symm; exact sumN_all_zero (fun _ _ => rfl)
 | succ N ih =>
  rw [sumN_succ, ih, ← sumN_add]; exact sumN_eq (fun b _ => by rw [sumN_succ])
theorem sumN_one {N : Nat} {i : Nat} (hi : i < N) (f : Nat → Nat) (h : ∀ c, c < N → c ≠ i → f c = 0) : sumN N f = f i := by
 induction N with
 | zero => omega
 | succ N ih =>
  rw [sumN_succ]; by_cases e : i = N
  ·subst e; rw [sumN_all_zero (fun c hc => h c (by omega) (by omega))]; omega
  ·rw [ih (by omega) (fun c hc hne => h c (by omega) hne), h N (by omega) (fun e2 => e e2.symm)]; omega
section
variable {N W : Nat} {ns : List (List Int)} {D : Nat → Bool}
/-- One step forward; D tells what is not followed. -/
def stepV (N W : Nat) (ns : List (List Int)) (D : Nat → Bool) (v : Nat → Nat) (t : Nat) : Nat := sumN N fun q => if D q = true then 0 else sumN W fun c => if stp ns (q : Int) (c : Int) = (t : Int) ∧ D t = false then v q else 0
theorem step_dual (hT : TableOK W N ns) {g : Nat → Nat} (hg : ∀ t, t < N → D t = true → g t = 0) (hs : ∀ q, q < N → D q = true → sumN W (fun c => g (stp ns (q : Int) (c : Int)).toNat) = 0) (v : Nat → Nat) :
  sumN N (fun t => stepV N W ns D v t * g t) = sumN N (fun q => v q * sumN W (fun c => g (stp ns (q : Int) (c : Int)).toNat)) := by
 have e1 : ∀ t, t < N → stepV N W ns D v t * g t = sumN N (fun q => if D q = true then 0 else sumN W fun c => (if stp ns (q : Int) (c : Int) = (t : Int) ∧ D t = false then v q else 0) * g t) := by
  intro t _; unfold stepV; rw [← sumN_mul]; refine sumN_eq (fun q _ => ?_)
  split
  ·simp
  ·rw [sumN_mul]
 rw [sumN_eq e1, sumN_swap]; refine sumN_eq (fun q hq => ?_); by_cases hd : D q = true
 ·rw [hs q hq hd, Nat.mul_zero]; exact sumN_all_zero (fun t _ => by rw [if_pos hd])
 ·rw [sumN_eq (g := fun t => sumN W fun c => (if stp ns (q : Int) (c : Int) = (t : Int) ∧ D t = false then v q else 0) * g t) (fun t _ => if_neg hd), sumN_swap, ← sumN_mulL]; refine sumN_eq (fun c hc => ?_); have hr := hT.stpd (q := (q : Int)) (c := (c : Int)) (by omega) (by omega) (by omega) (by omega); (have hi : (stp ns (q : Int) (c : Int)).toNat < N := by omega); rw [sumN_one hi _ (fun t _ hne => by rw [if_neg (fun h => hne (by omega)), Nat.zero_mul])]; by_cases hdt : D (stp ns (q : Int) (c : Int)).toNat = true
  ·rw [hg _ hi hdt, Nat.mul_zero, Nat.mul_zero]
  ·rw [if_pos ⟨by omega, by simpa using hdt⟩]
/-- n steps forward from one state. -/
def fwdV (N W : Nat) (ns : List (List Int)) (D : Nat → Bool) (s : Nat) : Nat → Nat → Nat
 | 0, t => if t = s then 1 else 0
 | n + 1, t => stepV N W ns D (fwdV N W ns D s n) t
theorem fwd_dual (hT : TableOK W N ns) {ac : List Bool} (hD : ∀ q, q < N → D q = true → ∀ n, cnt W ac ns n (q : Int) = 0) {s : Nat} (hs : s < N) : ∀ n m, sumN N (fun t => fwdV N W ns D s n t * cnt W ac ns m (t : Int)) = cnt W ac ns (n + m) (s : Int) := by
 intro n
 induction n with
 | zero =>
  intro m; rw [sumN_one hs _ (fun t _ hne => by simp [fwdV, hne])]; simp [fwdV]
 | succ n ih =>
  intro m
  have hx : ∀ q, q < N → sumN W (fun c => cnt W ac ns m ((stp ns (q : Int) (c : Int)).toNat : Int)) = cnt W ac ns (m + 1) (q : Int) := by
   intro q hq; simp only [cnt]; refine sumN_eq (fun c hc => ?_); have hr := hT.stpd (q := (q : Int)) (c := (c : Int)) (by omega) (by omega) (by omega) (by omega); rw [Int.toNat_of_nonneg hr.1]
  have h := step_dual (D := D) hT (g := fun t => cnt W ac ns m (t : Int)) (fun t ht hd => hD t ht hd m) (fun q hq hd => by rw [hx q hq]; exact hD q hq hd _) (fwdV N W ns D s n); simp only [fwdV]; rw [h, sumN_eq (fun q hq => by rw [hx q hq]), ih (m + 1)]
  congr 1; omega
end
def TkL (W : Nat) (ac : List Bool) (ns : List (List Int)) (s : Int) (w : List Int) : Prop := inW W w = true ∧ rdOf false ac (runT ns s w) = true
theorem runT_cat (ns : List (List Int)) : ∀ (u v : List Int) (q : Int), runT ns q (u ++ v) = runT ns (runT ns q u) v := by
 intro u
 induction u with
 | nil => intro v q; rfl
 | cons c u ih => intro v q; simp only [List.cons_append, runT]; exact ih v _
theorem inW_cat {W : Nat} {u v : List Int} : inW W (u ++ v) = true ↔ inW W u = true ∧ inW W v = true := by
 simp [inW, List.all_append]
theorem sumN_pos {W : Nat} {f : Nat → Nat} : 0 < sumN W f ↔ ∃ c, c < W ∧ 0 < f c := by
 induction W with
 | zero => simp [sumN]
 | succ W ih =>
  rw [sumN_succ]; constructor
  ·intro h; by_cases e : 0 < f W
   ·exact ⟨W, by omega, e⟩
   ·obtain ⟨c, hc, hp⟩ := ih.1 (by omega); exact ⟨c, by omega, hp⟩
  ·rintro ⟨c, hc, hp⟩; by_cases e : c = W
   ·subst e; omega
   ·have := ih.2 ⟨c, by omega, hp⟩; omega
theorem cnt_pos {W : Nat} {ac : List Bool} {ns : List (List Int)} : ∀ (n : Nat) (q : Int), 0 < cnt W ac ns n q ↔ ∃ w, w.length = n ∧ TkL W ac ns q w := by
 intro n
 induction n with
 | zero =>
  intro q; simp only [cnt]; constructor
  ·intro h; refine ⟨[], rfl, rfl, ?_⟩; by_cases e : rdOf false ac q = true
   ·exact e
   ·rw [if_neg e] at h; omega
  ·rintro ⟨w, hw, _, ha⟩; obtain rfl := List.length_eq_zero_iff.1 hw; rw [if_pos (show rdOf false ac q = true from ha)]; omega
 | succ n ih =>
  intro q; simp only [cnt]; rw [sumN_pos]; constructor
  ·rintro ⟨c, hc, hp⟩; obtain ⟨w, hw, hi, ha⟩ := (ih _).1 hp; exact ⟨(c : Int) :: w, by simp [hw], by simp [inW] at hi ⊢; exact ⟨by omega, hi⟩, by simpa [runT] using ha⟩
  ·rintro ⟨w, hw, hi, ha⟩
   cases w with
   | nil => simp at hw
   | cons c w =>
    simp only [inW, List.all_cons, Bool.and_eq_true, decide_eq_true_eq] at hi; obtain ⟨c, rfl⟩ := Int.eq_ofNat_of_zero_le hi.1.1; exact ⟨c, by omega, (ih _).2 ⟨w, by simpa using hw, hi.2, by simpa [runT] using ha⟩⟩
section
variable {W N : Nat} {ac : List Bool} {ns : List (List Int)}
/-- A state is met twice within as many columns as there are states. -/
theorem meet_twice (hT : TableOK W N ns) {s : Int} (s0 : 0 ≤ s) (s1 : s < (N : Int)) {w : List Int} (hi : inW W w = true) (hl : N ≤ w.length) : ∃ i j, i < j ∧ j ≤ N ∧ runT ns s (w.take i) = runT ns s (w.take j) := by
 by_cases h : ∃ i j, i < j ∧ j ≤ N ∧ runT ns s (w.take i) = runT ns s (w.take j)
 ·exact h
 exfalso; have hin : ∀ i, inW W (w.take i) = true := fun i => (inW_cat.1 (by rw [List.take_append_drop]; exact hi : inW W (w.take i ++ w.drop i) = true)).1
 have hn : ((List.range (N + 1)).map fun i => runT ns s (w.take i)).Nodup := by
  unfold List.Nodup; rw [List.pairwise_iff_getElem]; intro i j h1 h2 hij e; simp only [List.length_map, List.length_range] at h1 h2; simp only [List.getElem_map, List.getElem_range] at e; exact h ⟨i, j, hij, by omega, e⟩
 have := nodup_len _ ((List.range N).map fun (q : Nat) => (q : Int)) hn (fun k hk => by
  simp only [List.mem_map, List.mem_range] at hk ⊢
  obtain ⟨i, _, rfl⟩ := hk; have := runT_range hT (w.take i) s (hin i) s0 s1
  exact ⟨(runT ns s (w.take i)).toNat, by omega, by omega⟩)
 simp only [List.length_map, List.length_range] at this; omega
theorem cut_loop {s : Int} {w : List Int} {i j : Nat} (hij : i < j) (e : runT ns s (w.take i) = runT ns s (w.take j)) : runT ns s (w.take i ++ w.drop j) = runT ns s w := by
 rw [runT_cat, e, ← runT_cat, List.take_append_drop]
theorem pump_down (hT : TableOK W N ns) {s : Int} (s0 : 0 ≤ s) (s1 : s < (N : Int)) : ∀ (m : Nat) (w : List Int), w.length ≤ m → TkL W ac ns s w → N ≤ w.length → ∃ v, TkL W ac ns s v ∧ N ≤ v.length ∧ v.length ≤ 2 * N := by
 intro m
 induction m with
 | zero => intro w hm hw hl; exact ⟨w, hw, hl, by omega⟩
 | succ m ih =>
  intro w hm hw hl; by_cases h2 : w.length ≤ 2 * N
  ·exact ⟨w, hw, hl, h2⟩
  ·obtain ⟨i, j, hij, hj, e⟩ := meet_twice hT s0 s1 hw.1 hl
   have hin : inW W (w.take i ++ w.drop j) = true := by
    have a := inW_cat.1 (by rw [List.take_append_drop]; exact hw.1 : inW W (w.take i ++ w.drop i) = true); have b := inW_cat.1 (by rw [List.take_append_drop]; exact hw.1 : inW W (w.take j ++ w.drop j) = true); exact inW_cat.2 ⟨a.1, b.2⟩
   (have hlen : (w.take i ++ w.drop j).length = w.length - (j - i) := by rw [List.length_append, List.length_take, List.length_drop]; omega); exact ih _ (by rw [hlen]; omega) ⟨hin, by rw [cut_loop hij e]; exact hw.2⟩ (by rw [hlen]; omega)
theorem pump_up (hT : TableOK W N ns) {s : Int} (s0 : 0 ≤ s) (s1 : s < (N : Int)) {w : List Int} (hw : TkL W ac ns s w) (hl : N ≤ w.length) : ∃ v, TkL W ac ns s v ∧ N + 1 ≤ v.length := by
 obtain ⟨i, j, hij, hj, e⟩ := meet_twice hT s0 s1 hw.1 hl; refine ⟨w.take j ++ w.drop i, ⟨?_, ?_⟩, ?_⟩
 ·have a := inW_cat.1 (by rw [List.take_append_drop]; exact hw.1 : inW W (w.take i ++ w.drop i) = true); have b := inW_cat.1 (by rw [List.take_append_drop]; exact hw.1 : inW W (w.take j ++ w.drop j) = true); exact inW_cat.2 ⟨b.1, a.2⟩
 ·rw [runT_cat, ← e, ← runT_cat, List.take_append_drop]; exact hw.2
 ·rw [List.length_append, List.length_take, List.length_drop]; omega
/-- The reference looks at the lengths from N to 2 N, the program at N + 1 and more. -/
theorem finite_law (hT : TableOK W N ns) {s : Int} (s0 : 0 ≤ s) (s1 : s < (N : Int)) : (∃ k, N ≤ k ∧ k ≤ 2 * N ∧ 0 < cnt W ac ns k s) ↔ ∃ w, TkL W ac ns s w ∧ N + 1 ≤ w.length := by
 constructor
 ·rintro ⟨k, h1, h2, hp⟩; obtain ⟨w, hw, ht⟩ := (cnt_pos k s).1 hp; exact pump_up hT s0 s1 ht (by omega)
 ·rintro ⟨w, ht, hl⟩; obtain ⟨v, hv, h1, h2⟩ := pump_down hT s0 s1 w.length w (Nat.le_refl _) ht (by omega); exact ⟨v.length, h1, h2, (cnt_pos _ _).2 ⟨v, rfl, hv⟩⟩
end
theorem sumC_eq (top : Nat) (f : Nat → Nat) : ∀ W, sumC top (fun c => min (f c) top) W = min (sumN W f) top := by
 intro W
 induction W with
 | zero => simp [sumC, sumN]
 | succ W ih => rw [sumC, ih, sumN_succ]; omega
theorem cntC_eq {top W : Nat} (h1 : 1 ≤ top) {ac : List Bool} {ns : List (List Int)} : ∀ (n : Nat) (q : Int), cntC top W ac ns n q = min (cnt W ac ns n q) top := by
 intro n
 induction n with
 | zero => intro q; simp only [cntC, cnt]; split <;> omega
 | succ n ih =>
  intro q; simp only [cntC, cnt]; rw [show (fun c : Nat => cntC top W ac ns n (stp ns q (c : Int))) = fun c : Nat => min (cnt W ac ns n (stp ns q (c : Int))) top from funext fun c => ih _]; exact sumC_eq top _ W
/-- A sum of capped counts tells whether the sum goes beyond the cap, and else the sum. -/
theorem cap_total {top K : Nat} {f : Nat → Nat} : (sumN K (fun n => min (f n) (top + 1)) > top ↔ sumN K f > top) ∧ (¬ sumN K f > top → sumN K (fun n => min (f n) (top + 1)) = sumN K f) := by
 induction K with
 | zero => simp [sumN]
 | succ K ih =>
  rw [sumN_succ, sumN_succ]; obtain ⟨a, b⟩ := ih; have hle : sumN K (fun n => min (f n) (top + 1)) ≤ sumN K f := sumN_le (fun c _ => Nat.min_le_left _ _); by_cases e : sumN K f > top
  ·have := a.2 e; omega
  ·have := b e; omega
section
variable {W N : Nat} {ac : List Bool} {ns : List (List Int)} {F : List Int}
theorem dead_cnt' (hT : TableOK W N ns) (hF : FarOK W N ac ns F) {q : Nat} (hq : q < N) (hd : deadF F q = true) (n : Nat) : cnt W ac ns n (q : Int) = 0 := by
 refine cnt_none n _ (fun w _ hi => ?_)
 cases h : rdOf false ac (runT ns (q : Int) w) with
 | false => rfl
 | true =>
  exfalso; simp only [deadF, decide_eq_true_eq] at hd
  rcases hF.2 (q : Int) (by omega) (by omega) with ⟨_, h2⟩ | ⟨d, _, e, _⟩
  ·exact h2 w ⟨hi, h⟩
  ·omega
end
section
variable {W N : Nat} {ac : List Bool} {ns : List (List Int)} {F pads : List Int}
def takeV (ac : List Bool) (D : Nat → Bool) (v : Nat → Nat) (q : Nat) : Nat := if D q = true then 0 else if rdOf false ac (q : Int) = true then v q else 0
theorem takeV_sum (hT : TableOK W N ns) (hF : FarOK W N ac ns F) (h0 : 0 < N) (n : Nat) : sumN N (takeV ac (deadF F) (fwdV N W ns (deadF F) 0 n)) = cnt W ac ns n 0 := by
 have h := fwd_dual (D := deadF F) hT (ac := ac) (fun q hq hd n => dead_cnt' hT hF hq hd n) h0 n 0; rw [Nat.add_zero] at h; rw [show ((0 : Nat) : Int) = 0 from rfl] at h; rw [← h]; refine sumN_eq (fun q hq => ?_); unfold takeV; by_cases hd : deadF F q = true
 ·rw [if_pos hd, dead_cnt' hT hF hq hd 0, Nat.mul_zero]
 ·rw [if_neg hd]; simp only [cnt]
  split
  ·rw [Nat.mul_one]
  ·rw [Nat.mul_zero]
end
theorem spec_okv_ev (t s : Int) (ac : List Bool) (ns : List (List Int)) (h : SzOK ac ns) : Ev (fun k => spec_l01Ok_v.f k t s ac ns) (okRel t s ac ns) := by
 unfold spec_l01Ok_v.f; exact Ev.bind (spec_ok_ev t s ac ns h) (Ev.pos ⟨rfl, rfl⟩ (Ev.now _))
theorem spec_tidiedv_ev {n : Nat} {s : Int} {ac : List Bool} {ns : List (List Int)} {r : List Bool × List (List Int)} (h : Ev (fun k => spec_l01Tidied.f k (n : Int) s ac ns) ((n : Int), 0, r.1, r.2, (n : Int), s)) : Ev (fun k => spec_l01Tidied_v.f k (n : Int) s ac ns) ((n : Int), 0, r.1, r.2) := by
 unfold spec_l01Tidied_v.f; exact Ev.bind h (Ev.now _)
section
variable {W N : Nat} {ac : List Bool} {ns : List (List Int)} {F : List Int}
theorem fwdA_live (D : Nat → Bool) : ∀ n t, D t = false → fwdA N W ns D 0 n t = fwdV N W ns D 0 n t := by
 intro n
 induction n with
 | zero => intro t _; rfl
 | succ n ih =>
  intro t ht; simp only [fwdA, fwdV, stepA, stepV]; refine sumN_eq (fun q hq => ?_); unfold giveA; by_cases hd : D q = true
  ·rw [if_pos hd, if_pos hd]
  ·rw [if_neg hd, if_neg hd, ih q (by simpa using hd)]; refine sumN_eq (fun c _ => ?_); simp [ht]
theorem gotA_cnt (hT : TableOK W N ns) (hF : FarOK W N ac ns F) (h0 : 0 < N) (n : Nat) : gotA N ac (deadF F) (fwdA N W ns (deadF F) 0 n) = cnt W ac ns n 0 := by
 rw [← takeV_sum hT hF h0 n]; unfold gotA; refine sumN_eq (fun q hq => ?_); unfold takeA takeV; by_cases hd : deadF F q = true
 ·rw [if_pos hd, if_pos hd]
 ·rw [if_neg hd, if_neg hd, fwdA_live _ n q (by simpa using hd)]
/-- Some list of N columns and more is taken. -/
def Long (W N : Nat) (ac : List Bool) (ns : List (List Int)) : Prop := ∃ w, TkL W ac ns 0 w ∧ N + 1 ≤ w.length
theorem live_long (hT : TableOK W N ns) (hF : FarOK W N ac ns F) (h0 : 0 < N) : (∃ q, q < N ∧ deadF F q = false ∧ 0 < fwdA N W ns (deadF F) 0 (N + 1) q) ↔ Long W N ac ns := by
 have dual := fun n m => fwd_dual (D := deadF F) hT (ac := ac) (fun q hq hd n => dead_cnt' hT hF hq hd n) h0 n m; constructor
 ·rintro ⟨q, hq, hd, hp⟩; rw [fwdA_live _ _ _ hd] at hp; (have hd2 : ¬ rd F (q : Int) < 0 := by simpa [deadF] using hd)
  rcases hF.2 (q : Int) (by omega) (by omega) with ⟨e, _⟩ | ⟨d, _, _, ⟨u, hu, tu⟩, _⟩
  ·omega
  ·have hc : 0 < cnt W ac ns u.length (q : Int) := (cnt_pos _ _).2 ⟨u, rfl, tu⟩; have h1 := dual (N + 1) u.length; have h2 := sumN_ge (f := fun t => fwdV N W ns (deadF F) 0 (N + 1) t * cnt W ac ns u.length (t : Int)) hq; have h3 : 0 < fwdV N W ns (deadF F) 0 (N + 1) q * cnt W ac ns u.length (q : Int) := Nat.mul_pos hp hc
   have h4 : 0 < cnt W ac ns (N + 1 + u.length) ((0 : Nat) : Int) := by
    rw [← h1]; exact Nat.lt_of_lt_of_le h3 h2
   obtain ⟨w, hw, tw⟩ := (cnt_pos _ _).1 h4; exact ⟨w, tw, by omega⟩
 ·rintro ⟨w, tw, hl⟩; obtain ⟨m, hm⟩ : ∃ m, w.length = N + 1 + m := ⟨w.length - (N + 1), by omega⟩; have h4 : 0 < cnt W ac ns (N + 1 + m) ((0 : Nat) : Int) := (cnt_pos _ _).2 ⟨w, hm, tw⟩; rw [← dual (N + 1) m] at h4; obtain ⟨t, ht, hp⟩ := sumN_pos.1 h4; have h5 : 0 < fwdV N W ns (deadF F) 0 (N + 1) t := Nat.pos_of_mul_pos_right hp; have h6 : 0 < cnt W ac ns m (t : Int) := Nat.pos_of_mul_pos_left hp
  have hd : deadF F t = false := by
   cases h : deadF F t with
   | false => rfl
   | true => rw [dead_cnt' hT hF ht h m] at h6; omega
  exact ⟨t, ht, hd, by rw [fwdA_live _ _ _ hd]; exact h5⟩
open Classical in
theorem countR_eq (hT : TableOK W N ns) (hF : FarOK W N ac ns F) (h0 : 0 < N) (top : Nat) : countR N W ac ns (deadF F) top 0 = if Long W N ac ns then (0, false) else (((min (sumN (N + 1) fun n => cnt W ac ns n 0) top : Nat) : Int), true) := by
 unfold countR
 have h1 : (((List.range N).any fun q => !deadF F q && decide (0 < fwdA N W ns (deadF F) 0 (N + 1) q)) = true) ↔ Long W N ac ns := by
  rw [← live_long hT hF h0, List.any_eq_true]; constructor
  ·rintro ⟨q, hq, h⟩; simp only [Bool.and_eq_true, Bool.not_eq_true', decide_eq_true_eq] at h; exact ⟨q, List.mem_range.1 hq, h.1, h.2⟩
  ·rintro ⟨q, hq, h1, h2⟩; exact ⟨q, List.mem_range.2 hq, by simp [h1, h2]⟩
 have h2 : (sumN (N + 1) fun n => gotA N ac (deadF F) (fwdA N W ns (deadF F) 0 n)) = sumN (N + 1) fun n => cnt W ac ns n 0 := sumN_eq (fun n _ => gotA_cnt hT hF h0 n); rw [h2]; by_cases hl : Long W N ac ns
 ·rw [if_pos (h1.2 hl), if_pos hl]
 ·rw [if_neg (fun h => hl (h1.1 h)), if_neg hl]
open Classical in
theorem countAll_ev {t : Int} (hT : TableOK W N ns) (hn : ac.length = N) (h0 : 0 < N) (hN : N ≤ 2000000) (hW : W ≤ 1000) : Ev (fun k => impl_machine_countAll.f k t 0 ac ns) (if Long W N ac ns then (0, false) else (((min (sumN (N + 1) fun n => cnt W ac ns n 0) 1000000001 : Nat) : Int), true)) := by
 obtain ⟨F, eF, hF⟩ := far_ev (t := t) (s := 0) hT hn hN hW; have hrow : (ns.getD 0 []).length = W := (hT.2 _ (hT.row (q := 0) (by omega) (by omega))).1; unfold impl_machine_countAll.f; refine Ev.bind eF (Ev.const ?_); have hq : countQ 0 ac ns F := ⟨by rw [hF.1, hn], by rw [hrow, hn]; exact hT, by omega, by omega, by omega, by omega⟩; rw [if_pos hq, hrow, hn, show (0 : Int).toNat = 0 from rfl, countR_eq hT hF h0]
theorem ways_ev {t : Int} (hT : TableOK W N ns) (hn : ac.length = N) (h0 : 0 < N) (hN : N ≤ 2000000) (hW : W ≤ 1000) {L top : Nat} (hL : L ≤ 5000000) (h1 : 1 ≤ top) (h2 : top ≤ 1152921504606846976) : Ev (fun k => spec_l01Ways.f k t 0 ac ns (L : Int) (top : Int)) (tabN (L + 1) N (waysF top W ac ns), t, 0) := by
 have hrow : (ns.getD 0 []).length = W := (hT.2 _ (hT.row (q := 0) (by omega) (by omega))).1; refine ⟨0, fun k _ => ?_⟩; have hq : waysQ ac ns (L : Int) (top : Int) := ⟨by rw [hrow, hn]; exact hT, by omega, by omega, by omega, by omega, by omega, by omega, by omega⟩; show spec_l01Ways.f k t 0 ac ns (L : Int) (top : Int) = _; unfold spec_l01Ways.f; rw [if_pos hq, hrow, hn, Int.toNat_natCast, Int.toNat_natCast]
theorem ways_row {L top : Nat} {n : Nat} (hn : n < L + 1) : rd_L5 (tabN (L + 1) N (waysF top W ac ns)) (n : Int) = tabR N (waysF top W ac ns n) := by
 simp [rd_L5, tabN, List.getD_eq_getElem?_getD, List.getElem?_map, List.getElem?_range hn]
theorem ways_at {top : Nat} (h1 : 1 ≤ top) (h0 : 0 < N) (n : Nat) : rd (tabR N (waysF top W ac ns n)) 0 = ((min (cnt W ac ns n 0) top : Nat) : Int) := by
 have e := tabR_at h0 (waysF top W ac ns n); rw [show ((0 : Nat) : Int) = 0 from rfl] at e; rw [e]; unfold waysF; rw [show ((0 : Nat) : Int) = 0 from rfl, cntC_eq h1]
open Classical in
theorem finite_ev {t : Int} (hT : TableOK W N ns) (hn : ac.length = N) (h0 : 0 < N) (hN : N ≤ 2000000) (hW : W ≤ 1000) : Ev (fun k => spec_l01Finite.f k t 0 ac ns) (decide (¬ Long W N ac ns), t, 0) := by
 have hlaw := finite_law hT (ac := ac) (s := 0) (by omega) (by omega); unfold spec_l01Finite.f; rw [hn, show wrap64 (2 * (N : Int)) = ((2 * N : Nat) : Int) by rw [w64 (by omega) (by omega)]; omega]; refine Ev.bind (ways_ev (t := t) hT hn h0 hN hW (L := 2 * N) (top := 2) (by omega) (by omega) (by omega)) ?_
 have loop : ∀ (d n : Nat), n + d = 2 * N + 1 → N ≤ n → (∀ k, N ≤ k → k < n → ¬ 0 < cnt W ac ns k 0) → Ev (fun k => spec_l01Finite.l0 k (N : Int) (tabN (2 * N + 1) N (waysF 2 W ac ns)) (n : Int) t 0 ac ns) (decide (¬ Long W N ac ns), t, 0) := by
  intro d
  induction d with
  | zero =>
   intro n hd hnN hno; refine Ev.succ ?_; simp only [spec_l01Finite.l0]; rw [show wrap64 (2 * (N : Int)) = ((2 * N : Nat) : Int) by rw [w64 (by omega) (by omega)]; omega]; refine Ev.neg (by omega) (Ev.const ?_)
   have : ¬ Long W N ac ns := fun hl => by
    obtain ⟨k, h1, h2, hp⟩ := hlaw.2 hl; exact hno k h1 (by omega) hp
   simp [this]
  | succ d ih =>
   intro n hd hnN hno; refine Ev.succ ?_; simp only [spec_l01Finite.l0]; rw [show wrap64 (2 * (N : Int)) = ((2 * N : Nat) : Int) by rw [w64 (by omega) (by omega)]; omega, ways_row (by omega), ways_at (by omega) h0, tabN_len, tabR_len]; refine Ev.pos (by omega) (Ev.pos (by omega) (Ev.pos (by omega) (Ev.pos (by omega) (Ev.pos (by omega) ?_)))); by_cases hp : 0 < cnt W ac ns n 0
   ·refine Ev.pos (by omega) (Ev.const ?_); have : Long W N ac ns := hlaw.1 ⟨n, hnN, by omega, hp⟩; simp [this]
   ·refine Ev.neg (by omega) ?_; rw [show wrap64 ((n : Int) + 1) = ((n + 1 : Nat) : Int) by rw [w64 (by omega) (by omega)]; omega]; refine ih (n + 1) (by omega) (by omega) (fun k h1 h2 => ?_); by_cases e : k = n
    ·subst e; exact hp
    ·exact hno k h1 (by omega)
 exact loop (N + 1) N (by omega) (Nat.le_refl _) (fun k h1 h2 => by omega)
open Classical in
theorem finitev_ev {t : Int} (hT : TableOK W N ns) (hn : ac.length = N) (h0 : 0 < N) (hN : N ≤ 2000000) (hW : W ≤ 1000) : Ev (fun k => spec_l01Finite_v.f k t 0 ac ns) (decide (¬ Long W N ac ns)) := by
 unfold spec_l01Finite_v.f; exact Ev.bind (finite_ev hT hn h0 hN hW) (Ev.pos ⟨rfl, rfl⟩ (Ev.now _))
end
theorem countAll_both {t s : Int} {ac : List Bool} {ns : List (List Int)} (h : SzOK ac ns) : ∃ R : Int × Int, Ev (fun k => spec_CountAll.f k t s ac ns) R ∧ Ev (fun k => impl_CountAll.f k t s ac ns) R := by
 classical
 by_cases hv : okRel t s ac ns = true
 ·obtain ⟨n, rfl, h1, h3, hl1, hl, s0, s1, hT⟩ := okRel_parts hv; obtain ⟨r, hr, hi⟩ := impl_tidy_ev h1 h3 (by omega) s0 s1 hT; have hs := spec_tidied_ev h1 h3 (by omega) s0 s1 hT hr; obtain ⟨d1, d2, d3, d4⟩ := tidyD_table hr.choose_spec; have hW := wd_le n h3
  have hI : ∀ R : Int × Int, (if Long (wd n) r.1.length r.1 r.2 then ((0 : Int), (4 : Int)) else if 1000000000 < sumN (r.1.length + 1) (fun m => cnt (wd n) r.1 r.2 m 0) then (0, 3) else (((sumN (r.1.length + 1) fun m => cnt (wd n) r.1 r.2 m 0 : Nat) : Int), 0)) = R → Ev (fun k => impl_CountAll.f k (n : Int) s ac ns) R := by
   rintro R rfl; unfold impl_CountAll.f; refine Ev.bind (impl_ValidRelation_ev _ s ac ns h) ?_; rw [hv]; refine Ev.pos rfl (Ev.bind (tidyOf_ev h hi) (Ev.bind (a := if Long (wd n) r.1.length r.1 r.2 then ((0 : Int), (4 : Int)) else if 1000000000 < sumN (r.1.length + 1) (fun m => cnt (wd n) r.1 r.2 m 0) then (0, 3) else (((sumN (r.1.length + 1) fun m => cnt (wd n) r.1 r.2 m 0 : Nat) : Int), 0)) ?_ (Ev.now _))); unfold impl_machine_counted.f; refine Ev.bind (countAll_ev d1 rfl d2 (by omega) (by omega)) ?_; by_cases hlg : Long (wd n) r.1.length r.1 r.2
   ·rw [if_pos hlg, if_pos hlg]; exact Ev.neg (by simp) (Ev.now _)
   ·rw [if_neg hlg, if_neg hlg]; refine Ev.pos rfl ?_; by_cases hc : 1000000000 < sumN (r.1.length + 1) (fun m => cnt (wd n) r.1 r.2 m 0)
    ·rw [if_pos hc]; exact Ev.pos (by simp only; omega) (Ev.now _)
    ·rw [if_neg hc]; refine Ev.neg (by simp only; omega) (Ev.const ?_); simp only
     congr 2
     omega
  refine ⟨_, ?_, hI _ rfl⟩; unfold spec_CountAll.f; refine Ev.bind (spec_okv_ev _ s ac ns h) ?_; rw [hv]; refine Ev.pos rfl (Ev.bind (spec_tidiedv_ev hs) (Ev.bind (finitev_ev d1 rfl d2 (by omega) (by omega)) ?_)); by_cases hlg : Long (wd n) r.1.length r.1 r.2
  ·rw [if_pos hlg]; exact Ev.neg (by simp [hlg]) (Ev.now _)
  ·rw [if_neg hlg]; refine Ev.pos (by simp [hlg]) ?_
   have hw : Ev (fun k => spec_l01Ways_v.f k (n : Int) 0 r.1 r.2 (r.1.length : Int) 1000000001) (tabN (r.1.length + 1) r.1.length (waysF 1000000001 (wd n) r.1 r.2)) := by
    unfold spec_l01Ways_v.f; exact Ev.bind (ways_ev d1 rfl d2 (by omega) (by omega) (L := r.1.length) (top := 1000000001) (by omega) (by omega) (by omega)) (Ev.now _)
   refine Ev.bind hw ?_
   have loop : ∀ (d m : Nat), m + d = r.1.length + 1 → Ev (fun k => spec_CountAll.l0 k (tabN (r.1.length + 1) r.1.length (waysF 1000000001 (wd n) r.1 r.2)) ((sumN m (fun m => min (cnt (wd n) r.1 r.2 m 0) (1000000000 + 1)) : Nat) : Int) (m : Int) (n : Int) 0 r.1 r.2) (if 1000000000 < sumN (r.1.length + 1) (fun m => cnt (wd n) r.1 r.2 m 0) then (0, 3) else (((sumN (r.1.length + 1) fun m => cnt (wd n) r.1 r.2 m 0 : Nat) : Int), 0)) := by
    intro d
    induction d with
    | zero =>
     intro m hm; (obtain rfl : m = r.1.length + 1 := by omega); obtain ⟨q1, q2⟩ := cap_total (top := 1000000000) (K := r.1.length + 1) (f := fun m => cnt (wd n) r.1 r.2 m 0); refine Ev.succ ?_; simp only [spec_CountAll.l0, tabN_len]; refine Ev.neg (by omega) ?_; by_cases hc : 1000000000 < sumN (r.1.length + 1) (fun m => cnt (wd n) r.1 r.2 m 0)
     ·rw [if_pos hc]; have := q1.2 hc; exact Ev.pos (by omega) (Ev.now _)
     ·rw [if_neg hc]; have e := q2 hc
      try simp only at e
      rw [e]; exact Ev.neg (by omega) (Ev.now _)
    | succ d ih =>
     intro m hm; refine Ev.succ ?_; simp only [spec_CountAll.l0, tabN_len]; rw [ways_row (by omega), ways_at (by omega) d2, tabR_len]
     have hb : sumN m (fun m => min (cnt (wd n) r.1 r.2 m 0) (1000000000 + 1)) ≤ m * 1000000001 := by
      clear ih hm
      induction m with
      | zero => simp [sumN]
      | succ m ih => rw [sumN_succ]; omega
     (have hmb : m ≤ 1900001 := by omega); refine Ev.pos (by omega) (Ev.pos (by omega) (Ev.pos (by omega) (Ev.pos (by omega) ?_))); rw [show wrap64 ((m : Int) + 1) = ((m + 1 : Nat) : Int) by rw [w64 (by omega) (by omega)]; omega]
     rw [show wrap64 (((sumN m (fun m => min (cnt (wd n) r.1 r.2 m 0) (1000000000 + 1)) : Nat) : Int) + ((min (cnt (wd n) r.1 r.2 m 0) 1000000001 : Nat) : Int)) = ((sumN (m + 1) (fun m => min (cnt (wd n) r.1 r.2 m 0) (1000000000 + 1)) : Nat) : Int) by
      rw [sumN_succ, w64 (by omega) (by omega)]; omega]
     exact ih (m + 1) (by omega)
   exact loop (r.1.length + 1) 0 (by omega)
 ·rw [Bool.not_eq_true] at hv; refine ⟨(0, 1), ?_, ?_⟩
  ·unfold spec_CountAll.f; refine Ev.bind (spec_okv_ev _ s ac ns h) ?_; rw [hv]; exact Ev.neg (by simp) (Ev.now _)
  ·unfold impl_CountAll.f; refine Ev.bind (impl_ValidRelation_ev _ s ac ns h) ?_; rw [hv]; exact Ev.neg (by simp) (Ev.now _)
theorem FnExactCountAll (t s : Int) (ac : List Bool) (ns : List (List Int)) (h2 : ac.length ≤ 9223372036854775807) (h3 : ns.length ≤ 9223372036854775807) (hr : ∀ x ∈ ns, x.length ≤ 9223372036854775807) : ∃ k, laws_FnExactCountAll.f k t s ac ns = some true := by
 apply Ev.rounds; unfold laws_FnExactCountAll.f; obtain ⟨n, e1, e2, e3⟩ := szRelation_ev t s ac ns 1048576 (by omega) h2 h3 hr; refine Ev.bind e1 ?_; by_cases hn : n < 0
 ·exact Ev.pos hn (Ev.const rfl)
 ·have hz := e3 (by omega); obtain ⟨⟨r1, r2⟩, hS, hI⟩ := countAll_both (t := t) (s := s) hz; refine Ev.neg hn ?_; refine Ev.guard (toRelation_ev t s ac ns hz) ?_; refine Ev.bind hS ?_; refine Ev.guard hI ?_; exact Ev.guard (eqRelation_ev t s ac ns hz) (Ev.now _)
end Go.Proofs.YtelicdmaohllgaaDoor.Pure
