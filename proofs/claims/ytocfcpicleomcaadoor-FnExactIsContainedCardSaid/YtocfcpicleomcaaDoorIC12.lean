import Derived.Test.YtocfcpicleomcaaDoorIC10
import Derived.Test.YtocfcpicleomcaaDoorIC8
import Derived.Test.YtocfcpicleomcaaDoorIC11
import Derived.Test.YtocfcpicleomcaaDoorIC7
import Derived.Test.YtocfcpicleomcaaDoorIC2
import Derived.Test.YtocfcpicleomcaaDoorIC3
import Derived.Test.YtocfcpicleomcaaDoorIC9
namespace Go.Proofs.YtocfcpicleomcaaDoor.Pure
set_option maxHeartbeats 16000000
set_option maxRecDepth 100000
open Go.RowKit Go.Proofs.YtocfcpicleomcaaDoor.X Go.Proofs.YtocfcpicleomcaaDoorW.PrintWords Go.Proofs.YtocfcpicleomcaaDoorW.PrintLast
set_option linter.unusedVariables false
set_option linter.unusedSimpArgs false
theorem Ev.succ {α : Type} {g : Nat → Option α} {r : α} (h : Ev (fun k => g (k + 1)) r) : Ev g r := Ev.step (fun _ => rfl) h
theorem Ev.const {α : Type} {o : Option α} {r : α} (h : o = some r) : Ev (fun _ => o) r := ⟨0, fun _ _ => h⟩
theorem w64 {n : Int} (h0 : -9223372036854775808 ≤ n) (h1 : n ≤ 9223372036854775807) : wrap64 n = n := by
 unfold wrap64; omega
theorem rd_nat (xs : List Int) (i : Nat) (h : i < xs.length) : rd xs (i : Int) = xs[i] := by
 simp [rd, List.getD_eq_getElem?_getD, h]
theorem rdOf_nat {α : Type} (d : α) (xs : List α) (i : Nat) (h : i < xs.length) : rdOf d xs (i : Int) = xs[i] := by
 simp [rdOf, List.getD_eq_getElem?_getD, h]
theorem set_take {α : Type} (l ys : List α) (i : Nat) (x : α) (hx : l[i]? = some x) (hl : ys.length = l.length) (h : ys.take i = l.take i) : (ys.set i x).take (i + 1) = l.take (i + 1) := by
 have hi : i < l.length := (List.getElem?_eq_some_iff.1 hx).1; apply List.ext_getElem?; intro j; have hj := congrArg (fun z => z[j]?) h
 simp only [List.getElem?_take] at hj ⊢
 rw [List.getElem?_set]; by_cases h1 : j < i + 1
 ·by_cases h2 : i = j
  ·subst h2; simp only [h1, if_true]; rw [if_pos (by omega)]; exact hx.symm
  ·have h3 : j < i := by omega
   simp only [h1, if_true, h2, if_false, h3] at hj ⊢
   exact hj
 ·simp [h1]
theorem Ev.pos {α : Type} {c : Prop} [Decidable c] {f g : Nat → Option α} {r : α} (h : c) (k : Ev f r) : Ev (fun n => if c then f n else g n) r := by
 obtain ⟨K, k⟩ := k; exact ⟨K, fun n hn => (if_pos h).trans (k n hn)⟩
theorem Ev.neg {α : Type} {c : Prop} [Decidable c] {f g : Nat → Option α} {r : α} (h : ¬ c) (k : Ev g r) : Ev (fun n => if c then f n else g n) r := by
 obtain ⟨K, k⟩ := k; exact ⟨K, fun n hn => (if_neg h).trans (k n hn)⟩
theorem Ev.guard {α β : Type} {g : Nat → Option α} {a : α} {f : Nat → Option β} {r : β} {D : ∀ k, Decidable (g k = some a)} (hg : Ev g a) (h : Ev f r) : Ev (fun k => if g k = some a then f k else none) r := by
 obtain ⟨K, hg⟩ := hg; obtain ⟨L, h⟩ := h; exact ⟨max K L, fun k hk => (if_pos (hg k (by omega))).trans (h k (by omega))⟩
theorem toInt64S_l (l : List Int) (hn : l.length ≤ 35184372088832) (d : Nat) : ∀ (i : Nat) (ys : List Int), i + d = l.length → ys.length = l.length → ys.take i = l.take i → Ev (fun k => laws_toInt64S.l0 k l ys (i : Int)) l := by
 induction d with
 | zero =>
  intro i ys hi hl ht; apply Ev.succ; simp only [laws_toInt64S.l0]; refine Ev.neg (by omega) ?_; refine Ev.const ?_; rw [List.take_of_length_le (by omega), List.take_of_length_le (by omega)] at ht; rw [ht]
 | succ d ih =>
  intro i ys hi hl ht; apply Ev.succ; simp only [laws_toInt64S.l0]; refine Ev.pos (by omega) ?_; refine Ev.pos (by omega) ?_; refine Ev.pos (by omega) ?_; rw [w64 (by omega) (by omega), Int.toNat_natCast]; have := ih (i + 1) (ys.set i (rd l i)) (by omega) (by simp [hl]) (set_take l ys i _ (by rw [rd_nat l i (by omega)]; exact List.getElem?_eq_getElem (by omega)) hl ht); exact this
theorem toInt64S_ev (l : List Int) (hn : l.length ≤ 35184372088832) : Ev (fun k => laws_toInt64S.f k l) l := by
 unfold laws_toInt64S.f; simp only [Int.toNat_natCast]; refine Ev.pos (by omega) ?_; refine Ev.pos hn ?_; exact toInt64S_l l hn l.length 0 _ (by omega) (by simp) (by simp)
theorem eqInt64S_l (l : List Int) (hn : l.length ≤ 35184372088832) (d : Nat) : ∀ (i : Nat), i + d = l.length → Ev (fun k => laws_eqInt64S.l0 k l l (i : Int)) true := by
 induction d with
 | zero =>
  intro i hi; apply Ev.succ; simp only [laws_eqInt64S.l0]; refine Ev.neg (by omega) ?_; exact Ev.const rfl
 | succ d ih =>
  intro i hi; apply Ev.succ; simp only [laws_eqInt64S.l0]; refine Ev.pos (by omega) ?_; refine Ev.pos (by omega) ?_; refine Ev.pos (by omega) ?_; refine Ev.pos trivial ?_; rw [w64 (by omega) (by omega)]; exact ih (i + 1) (by omega)
theorem eqInt64S_ev (l : List Int) (hn : l.length ≤ 35184372088832) : Ev (fun k => laws_eqInt64S.f k l l) true := by
 unfold laws_eqInt64S.f; refine Ev.pos rfl ?_; exact eqInt64S_l l hn l.length 0 (by omega)
theorem rd4_nat (xs : List (List Int)) (i : Nat) (h : i < xs.length) : rd_L2 xs (i : Int) = xs[i] := by
 simp [rd_L2, List.getD_eq_getElem?_getD, h]
theorem toBoolS_l (l : List Bool) (hn : l.length ≤ 35184372088832) (d : Nat) : ∀ (i : Nat) (ys : List Bool), i + d = l.length → ys.length = l.length → ys.take i = l.take i → Ev (fun k => laws_toBoolS.l0 k l ys (i : Int)) l := by
 induction d with
 | zero =>
  intro i ys hi hl ht; apply Ev.succ; simp only [laws_toBoolS.l0]; refine Ev.neg (by omega) ?_; refine Ev.const ?_; rw [List.take_of_length_le (by omega), List.take_of_length_le (by omega)] at ht; rw [ht]
 | succ d ih =>
  intro i ys hi hl ht; apply Ev.succ; simp only [laws_toBoolS.l0]; refine Ev.pos (by omega) ?_; refine Ev.pos (by omega) ?_; refine Ev.pos (by omega) ?_; rw [w64 (by omega) (by omega), Int.toNat_natCast]; have := ih (i + 1) (ys.set i (rdOf false l i)) (by omega) (by simp [hl]) (set_take l ys i _ (by rw [rdOf_nat false l i (by omega)]; exact List.getElem?_eq_getElem (by omega)) hl ht); exact this
theorem toBoolS_ev (l : List Bool) (hn : l.length ≤ 35184372088832) : Ev (fun k => laws_toBoolS.f k l) l := by
 unfold laws_toBoolS.f; simp only [Int.toNat_natCast]; refine Ev.pos (by omega) ?_; refine Ev.pos (by omega) ?_; exact toBoolS_l l hn l.length 0 _ (by omega) (by simp) (by simp)
theorem toInt64SS_l (l : List (List Int)) (hn : l.length ≤ 35184372088832) (hr : ∀ x ∈ l, x.length ≤ 35184372088832) (d : Nat) : ∀ (i : Nat) (ys : List (List Int)), i + d = l.length → ys.length = l.length → ys.take i = l.take i → Ev (fun k => laws_toInt64SS.l0 k l ys (i : Int)) l := by
 induction d with
 | zero =>
  intro i ys hi hl ht; apply Ev.succ; simp only [laws_toInt64SS.l0]; refine Ev.neg (by omega) ?_; refine Ev.const ?_; rw [List.take_of_length_le (by omega), List.take_of_length_le (by omega)] at ht; rw [ht]
 | succ d ih =>
  intro i ys hi hl ht; apply Ev.succ; simp only [laws_toInt64SS.l0]; refine Ev.pos (by omega) ?_; refine Ev.pos (by omega) ?_; rw [rd4_nat l i (by omega)]; refine Ev.bind (toInt64S_ev _ (hr _ (List.getElem_mem _))) ?_; refine Ev.pos (by omega) ?_; rw [w64 (by omega) (by omega), Int.toNat_natCast]; exact ih (i + 1) (ys.set i l[i]) (by omega) (by simp [hl]) (set_take l ys i _ (List.getElem?_eq_getElem (by omega)) hl ht)
theorem toInt64SS_ev (l : List (List Int)) (hn : l.length ≤ 11728124029610) (hr : ∀ x ∈ l, x.length ≤ 35184372088832) : Ev (fun k => laws_toInt64SS.f k l) l := by
 unfold laws_toInt64SS.f; simp only [Int.toNat_natCast]; refine Ev.pos (by omega) ?_; refine Ev.pos (by omega) ?_; exact toInt64SS_l l (by omega) hr l.length 0 _ (by omega) (by simp) (by simp)
theorem eqBoolS_l (l : List Bool) (hn : l.length ≤ 35184372088832) (d : Nat) : ∀ (i : Nat), i + d = l.length → Ev (fun k => laws_eqBoolS.l0 k l l (i : Int)) true := by
 induction d with
 | zero =>
  intro i hi; apply Ev.succ; simp only [laws_eqBoolS.l0]; refine Ev.neg (by omega) ?_; exact Ev.const rfl
 | succ d ih =>
  intro i hi; apply Ev.succ; simp only [laws_eqBoolS.l0]; refine Ev.pos (by omega) ?_; refine Ev.pos (by omega) ?_; refine Ev.pos (by omega) ?_; refine Ev.neg (by simp) ?_; rw [w64 (by omega) (by omega)]; exact ih (i + 1) (by omega)
theorem eqBoolS_ev (l : List Bool) (hn : l.length ≤ 35184372088832) : Ev (fun k => laws_eqBoolS.f k l l) true := by
 unfold laws_eqBoolS.f; refine Ev.pos rfl ?_; exact eqBoolS_l l hn l.length 0 (by omega)
theorem eqInt64SS_l (l : List (List Int)) (hn : l.length ≤ 35184372088832) (hr : ∀ x ∈ l, x.length ≤ 35184372088832) (d : Nat) : ∀ (i : Nat), i + d = l.length → Ev (fun k => laws_eqInt64SS.l0 k l l (i : Int)) true := by
 induction d with
 | zero =>
  intro i hi; apply Ev.succ; simp only [laws_eqInt64SS.l0]; refine Ev.neg (by omega) ?_; exact Ev.const rfl
 | succ d ih =>
  intro i hi; apply Ev.succ; simp only [laws_eqInt64SS.l0]; refine Ev.pos (by omega) ?_; refine Ev.pos (by omega) ?_; refine Ev.pos (by omega) ?_; rw [rd4_nat l i (by omega)]; refine Ev.bind (eqInt64S_ev _ (hr _ (List.getElem_mem _))) ?_; refine Ev.pos rfl ?_; rw [w64 (by omega) (by omega)]; exact ih (i + 1) (by omega)
theorem eqInt64SS_ev (l : List (List Int)) (hn : l.length ≤ 35184372088832) (hr : ∀ x ∈ l, x.length ≤ 35184372088832) : Ev (fun k => laws_eqInt64SS.f k l l) true := by
 unfold laws_eqInt64SS.f; refine Ev.pos rfl ?_; exact eqInt64SS_l l hn hr l.length 0 (by omega)
theorem szInt64SS_l (l : List (List Int)) (hn : l.length ≤ 9223372036854775806) (hr : ∀ x ∈ l, x.length ≤ 9223372036854775807) (d : Nat) : ∀ (i a : Nat), i + d = l.length → a ≤ 1048576 →
  ∃ n : Int, Ev (fun k => laws_szInt64SS.l0 k l (a : Int) (i : Int)) n ∧ n ≤ 1048576 ∧ (0 ≤ n → ∀ j, i ≤ j → ∀ x, l[j]? = some x → x.length ≤ 1048576) := by
 induction d with
 | zero =>
  intro i a hi ha; refine ⟨a, ?_, by omega, fun _ j hj x hx => ?_⟩
  ·apply Ev.succ; simp only [laws_szInt64SS.l0]; refine Ev.neg (by omega) ?_; exact Ev.const rfl
  ·have := (List.getElem?_eq_some_iff.1 hx).1; omega
 | succ d ih =>
  intro i a hi ha; have hx := hr _ (List.getElem_mem (show i < l.length by omega)); by_cases c : l[i].length ≤ a
  ·obtain ⟨n, h1, h2, h3⟩ := ih (i + 1) (a - l[i].length) (by omega) (by omega); refine ⟨n, ?_, h2, fun h0 j hj x hjx => ?_⟩
   ·apply Ev.succ; simp only [laws_szInt64SS.l0]; refine Ev.pos (by omega) ?_; refine Ev.pos (by omega) ?_; rw [rd4_nat l i (by omega)]; refine Ev.bind (a := ((a - l[i].length : Nat) : Int)) ?_ ?_
    ·unfold laws_szInt64S.f; rw [w64 (by omega) (by omega)]; refine Ev.neg (by omega) ?_; exact Ev.const (by congr 1; omega)
    ·refine Ev.neg (by omega) ?_; rw [w64 (by omega) (by omega)]; exact h1
   ·by_cases e : i = j
    ·subst e; rw [List.getElem?_eq_getElem (by omega)] at hjx; injection hjx with hjx; subst hjx; omega
    ·exact h3 h0 j (by omega) x hjx
  ·refine ⟨-1, ?_, by omega, fun h0 => by omega⟩; apply Ev.succ; simp only [laws_szInt64SS.l0]; refine Ev.pos (by omega) ?_; refine Ev.pos (by omega) ?_; rw [rd4_nat l i (by omega)]; refine Ev.bind (a := -1) ?_ ?_
   ·unfold laws_szInt64S.f; rw [w64 (by omega) (by omega)]; exact Ev.pos (by omega) (Ev.const rfl)
   ·exact Ev.pos (by omega) (Ev.const rfl)
/-- What a relation's size says: it is not negative only if its rows are short. -/
def SzOK (ac : List Bool) (ns : List (List Int)) : Prop := ac.length ≤ 1048576 ∧ ns.length ≤ 1048576 ∧ ∀ x ∈ ns, x.length ≤ 1048576
theorem szRelation_ev (t s : Int) (ac : List Bool) (ns : List (List Int)) (a : Nat) (ha : a ≤ 1048576) (h2 : ac.length ≤ 9223372036854775807) (h3 : ns.length ≤ 9223372036854775807) (hr : ∀ x ∈ ns, x.length ≤ 9223372036854775807) :
  ∃ n : Int, Ev (fun k => laws_szRelation.f k t s ac ns (a : Int)) n ∧ n ≤ 1048576 ∧ (0 ≤ n → SzOK ac ns) := by
 unfold laws_szRelation.f; by_cases c : ac.length ≤ a
 ·by_cases c2 : ns.length ≤ a - ac.length
  ·obtain ⟨n, e1, e2, e3⟩ := szInt64SS_l ns (by omega) hr ns.length 0 (a - ac.length - ns.length) (by omega) (by omega); refine ⟨if n < 0 then -1 else n, ?_, by split <;> omega, fun h0 => ⟨by omega, by omega, fun x hx => ?_⟩⟩
   ·refine Ev.bind (a := ((a - ac.length : Nat) : Int)) ?_ ?_
    ·unfold laws_szBoolS.f; rw [w64 (by omega) (by omega)]; refine Ev.neg (by omega) ?_; exact Ev.const (by congr 1; omega)
    ·refine Ev.neg (by omega) ?_; refine Ev.bind (a := n) ?_ ?_
     ·unfold laws_szInt64SS.f; rw [w64 (by omega) (by omega)]; refine Ev.neg (by omega) ?_; rw [show ((a - ac.length : Nat) : Int) - (ns.length : Int) = ((a - ac.length - ns.length : Nat) : Int) by omega]; exact e1
     ·by_cases hn : n < 0
      ·simp only [if_pos hn]; exact Ev.now _
      ·simp only [if_neg hn]; exact Ev.now _
   ·have hn : 0 ≤ n := by
     by_cases hn : n < 0
     ·rw [if_pos hn] at h0; omega
     ·omega
    obtain ⟨j, hj⟩ := List.mem_iff_getElem?.1 hx; exact e3 hn j (by omega) x hj
  ·refine ⟨-1, ?_, by omega, fun h0 => by omega⟩; refine Ev.bind (a := ((a - ac.length : Nat) : Int)) ?_ ?_
   ·unfold laws_szBoolS.f; rw [w64 (by omega) (by omega)]; refine Ev.neg (by omega) ?_; exact Ev.const (by congr 1; omega)
   ·refine Ev.neg (by omega) ?_; refine Ev.bind (a := -1) ?_ ?_
    ·unfold laws_szInt64SS.f; rw [w64 (by omega) (by omega)]; exact Ev.pos (by omega) (Ev.const rfl)
    ·exact Ev.pos (by omega) (Ev.const rfl)
 ·refine ⟨-1, ?_, by omega, fun h0 => by omega⟩; refine Ev.bind (a := -1) ?_ ?_
  ·unfold laws_szBoolS.f; rw [w64 (by omega) (by omega)]; exact Ev.pos (by omega) (Ev.const rfl)
  ·exact Ev.pos (by omega) (Ev.const rfl)
theorem toRelation_ev (t s : Int) (ac : List Bool) (ns : List (List Int)) (h : SzOK ac ns) : Ev (fun k => laws_toRelation.f k t s ac ns) (t, s, ac, ns) := by
 unfold laws_toRelation.f; refine Ev.bind (toBoolS_ev ac (by have := h.1; omega)) ?_; refine Ev.bind (toInt64SS_ev ns (by have := h.2.1; omega) (fun x hx => by have := h.2.2 x hx; omega)) ?_; exact Ev.now _
theorem eqRelation_ev (t s : Int) (ac : List Bool) (ns : List (List Int)) (h : SzOK ac ns) : Ev (fun k => laws_eqRelation.f k t s ac ns t s ac ns) true := by
 unfold laws_eqRelation.f; refine Ev.pos rfl ?_; refine Ev.pos rfl ?_; refine Ev.bind (eqBoolS_ev ac (by have := h.1; omega)) ?_; refine Ev.pos rfl ?_; refine Ev.bind (eqInt64SS_ev ns (by have := h.2.1; omega) (fun x hx => by have := h.2.2 x hx; omega)) ?_; exact Ev.pos rfl (Ev.now _)
theorem in_eq (a b c : Int) : yo0.f a b c = some (decide (b ≤ a) && decide (a ≤ c)) := by
 unfold yo0.f; by_cases h : a ≥ b
 ·rw [if_pos h]; simp [h]
 ·rw [if_neg h]; simp [show ¬ b ≤ a from h]
theorem within_eq (a b c : Int) : yn0.f a b c = some (decide (b ≤ a) && decide (a ≤ c)) := by
 unfold yn0.f; by_cases h : b ≤ a
 ·rw [if_pos h]; simp [h]
 ·rw [if_neg h]; simp [h]
theorem areTapes_eq (a : Int) : xl0.f a = some (decide (1 ≤ a) && decide (a ≤ 3)) := by
 unfold xl0.f; rw [within_eq]; rfl
def wd (n : Nat) : Nat := if n = 0 then 0 else if n = 1 then 2 else if n = 2 then 8 else 26
theorem wideS_fin : ∀ n : Fin 4, yk0.f 10 (n.val : Int) = some ((wd n.val : Nat) : Int) := by decide +kernel
theorem wideI_fin : ∀ n : Fin 4, zo0.f 10 (n.val : Int) = some ((wd n.val : Nat) : Int) := by decide +kernel
theorem wideS_ev (n : Nat) (h : n ≤ 3) : Ev (fun k => yk0.f k (n : Int)) ((wd n : Nat) : Int) := Ev.of (fun k => yk0.mono _ k) (wideS_fin ⟨n, by omega⟩)
theorem wideI_ev (n : Nat) (h : n ≤ 3) : Ev (fun k => zo0.f k (n : Int)) ((wd n : Nat) : Int) := Ev.of (fun k => zo0.mono _ k) (wideI_fin ⟨n, by omega⟩)
theorem wd_le (n : Nat) (h : n ≤ 3) : wd n ≤ 26 := by
 unfold wd
 split <;> (try split) <;> (try split) <;> omega
/-- The states of a row are among n. -/
def okCells (n : Nat) (l : List Int) : Bool := l.all fun x => decide (0 ≤ x) && decide (x < n)
def okRows (w n : Nat) (ns : List (List Int)) : Bool := ns.all fun r => decide (r.length = w) && okCells n r
/-- A relation's form. -/
def okRel (t s : Int) (ac : List Bool) (ns : List (List Int)) : Bool :=
 decide (1 ≤ t) && decide (t ≤ 3) && decide (1 ≤ ac.length) && decide (ac.length ≤ 150) && decide (ns.length = ac.length) && decide (0 ≤ s) && decide (s < ac.length) && okRows (wd t.toNat) ac.length ns
theorem drop_all {α : Type} (p : α → Bool) (l : List α) (i : Nat) (h : i < l.length) : (l.drop i).all p = (p l[i] && (l.drop (i + 1)).all p) := by
 rw [List.drop_eq_getElem_cons h, List.all_cons]
theorem spec_form_l1 (t : Nat) (s : Int) (ac : List Bool) (ns : List (List Int)) (x3 : Nat) (hx3 : x3 ≤ 150) (i : Nat) (hi : i < ns.length) (hl : ns[i].length ≤ 26) (R : Bool)
  (hR : Ev (fun k => zl0.l0 k (x3 : Int) (((i : Nat) + 1 : Nat) : Int) (t : Int) s ac ns) (R, (t : Int), s)) (hni : ns.length ≤ 1048576) (d : Nat) : ∀ j, j + d = ns[i].length →
  Ev (fun k => zl0.l1 k (x3 : Int) (i : Int) (j : Int) (t : Int) s ac ns) (okCells x3 (ns[i].drop j) && R, (t : Int), s) := by
 induction d with
 | zero =>
  intro j hj; apply Ev.succ; simp only [zl0.l1]; refine Ev.pos (by omega) ?_; refine Ev.pos (by omega) ?_; rw [rd4_nat ns i hi]; refine Ev.neg (by omega) ?_; rw [w64 (by omega) (by omega), List.drop_of_length_le (by omega)]; simp only [okCells, List.all_nil, Bool.true_and]; exact hR
 | succ d ih =>
  intro j hj; apply Ev.succ; simp only [zl0.l1]; refine Ev.pos (by omega) ?_; refine Ev.pos (by omega) ?_; rw [rd4_nat ns i hi]; refine Ev.pos (by omega) ?_; refine Ev.pos (by omega) ?_; rw [rd_nat _ _ (by omega)]; refine Ev.bind (Ev.const (in_eq _ _ _)) ?_; rw [show okCells x3 (ns[i].drop j) = ((decide (0 ≤ ns[i][j]) && decide (ns[i][j] < x3)) && okCells x3 (ns[i].drop (j + 1))) from drop_all _ _ _ (by omega)]; rw [w64 (n := (x3 : Int) - 1) (by omega) (by omega)]; rw [show decide (ns[i][j] ≤ (x3 : Int) - 1) = decide (ns[i][j] < (x3 : Int)) by apply decide_eq_decide.2; omega]; by_cases c : (decide (0 ≤ ns[i][j]) && decide (ns[i][j] < (x3 : Int))) = true
  ·rw [c]; refine Ev.pos (by first | rfl | trivial) ?_; rw [w64 (by omega) (by omega)]; simp only [Bool.true_and]; exact ih (j + 1) (by omega)
  ·rw [Bool.not_eq_true] at c; rw [c]; exact Ev.neg (by simp) (Ev.const (by simp))
theorem spec_form_l0 (t : Nat) (ht : t ≤ 3) (s : Int) (ac : List Bool) (ns : List (List Int)) (x3 : Nat) (hx3 : x3 ≤ 150) (hni : ns.length ≤ 1048576) (d : Nat) : ∀ i, i + d = ns.length →
  Ev (fun k => zl0.l0 k (x3 : Int) (i : Int) (t : Int) s ac ns) (okRows (wd t) x3 (ns.drop i), (t : Int), s) := by
 induction d with
 | zero =>
  intro i hi; apply Ev.succ; simp only [zl0.l0]; refine Ev.neg (by omega) ?_; rw [List.drop_of_length_le (by omega)]; exact Ev.const rfl
 | succ d ih =>
  intro i hi; apply Ev.succ; simp only [zl0.l0]; refine Ev.pos (by omega) ?_; refine Ev.pos (by omega) ?_; rw [rd4_nat ns i (by omega)]; refine Ev.bind (wideS_ev t ht) ?_; rw [show okRows (wd t) x3 (ns.drop i) = ((decide (ns[i].length = wd t) && okCells x3 ns[i]) && okRows (wd t) x3 (ns.drop (i + 1))) from drop_all _ _ _ (by omega)]; have := wd_le t ht; by_cases c : ns[i].length = wd t
  ·refine Ev.pos (by omega) ?_; have h := spec_form_l1 t s ac ns x3 hx3 i (by omega) (by omega) _ (ih (i + 1) (by omega)) hni ns[i].length 0 (by omega); rw [List.drop_zero] at h; simp only [c, decide_true, Bool.true_and]; exact h
  ·refine Ev.neg (by omega) ?_; simp only [c, decide_false, Bool.false_and]; exact Ev.const rfl
theorem spec_ok_ev (t s : Int) (ac : List Bool) (ns : List (List Int)) (h : SzOK ac ns) : Ev (fun k => spec_l01Ok.f k t s ac ns) (okRel t s ac ns, t, s) := by
 unfold spec_l01Ok.f; have h1 := h.1; by_cases c : ac.length ≤ 150
 ·refine Ev.pos (by omega) ?_; refine Ev.bind (a := (okRel t s ac ns, t, s)) ?_ (Ev.now _); unfold zl0.f; refine Ev.bind (Ev.const (in_eq _ _ _)) ?_; by_cases ct : 1 ≤ t ∧ t ≤ 3
  ·obtain ⟨n, rfl⟩ : ∃ n : Nat, t = n := ⟨t.toNat, by omega⟩; simp only [show decide ((1 : Int) ≤ n) = true by simpa using ct.1, show decide ((n : Int) ≤ 3) = true by simpa using ct.2, Bool.true_and]; refine Ev.pos (by first | rfl | trivial) ?_; by_cases c1 : ac.length < 1
   ·refine Ev.pos (by omega) ?_; apply Ev.succ; simp only [zl0.j0]; refine Ev.pos (by first | rfl | trivial) ?_; refine Ev.const ?_; simp [okRel, show ¬ 1 ≤ ac.length by omega]
   ·refine Ev.neg (by omega) ?_; refine Ev.bind (Ev.const (in_eq _ _ _)) ?_; rw [w64 (n := (ac.length : Int) - 1) (by omega) (by omega)]; by_cases cs : 0 ≤ s ∧ s < ac.length
    ·simp only [show decide ((0 : Int) ≤ s) = true by simpa using cs.1, show decide (s ≤ (ac.length : Int) - 1) = true from decide_eq_true (by omega), Bool.true_and]; refine Ev.pos (by first | rfl | trivial) ?_; apply Ev.succ; simp only [zl0.j0]; by_cases cn : ns.length = ac.length
     ·refine Ev.neg (by simp [cn]) ?_; have h0 := spec_form_l0 n (by omega) s ac ns ac.length c (by have := h.2.1; omega) ns.length 0 (by omega); rw [List.drop_zero] at h0
      have e : okRel (n : Int) s ac ns = okRows (wd n) ac.length ns := by
       simp only [okRel, Int.toNat_natCast]; simp only [show decide ((1 : Int) ≤ n) = true by simpa using ct.1, show decide ((n : Int) ≤ 3) = true by simpa using ct.2, show decide (1 ≤ ac.length) = true from decide_eq_true (by omega), show decide (ac.length ≤ 150) = true from decide_eq_true c, cn, show decide ((0 : Int) ≤ s) = true by simpa using cs.1, show decide (s < (ac.length : Int)) = true from decide_eq_true cs.2, decide_true, Bool.true_and]
      rw [e]; exact h0
     ·refine Ev.pos (by simpa using fun e => cn (by omega)) ?_; refine Ev.const ?_; simp [okRel, cn]
    ·refine Ev.neg ?_ ?_
     ·intro e; rw [Bool.and_eq_true, decide_eq_true_eq, decide_eq_true_eq] at e; exact cs ⟨e.1, by omega⟩
     ·apply Ev.succ; simp only [zl0.j0]; refine Ev.pos (by first | rfl | trivial) ?_; refine Ev.const ?_
      have : (decide (0 ≤ s) && decide (s < (ac.length : Int))) = false := by
       rw [Bool.eq_false_iff]; intro e; rw [Bool.and_eq_true, decide_eq_true_eq, decide_eq_true_eq] at e; exact cs e
      congr 2
      simp only [okRel]
      rcases Bool.and_eq_false_iff.1 this with e | e <;> rw [e] <;> simp
  ·have e : (decide (1 ≤ t) && decide (t ≤ 3)) = false := by
    rw [Bool.eq_false_iff]; intro e; rw [Bool.and_eq_true, decide_eq_true_eq, decide_eq_true_eq] at e; exact ct e
   rw [e]; refine Ev.neg (by simp) ?_; apply Ev.succ; simp only [zl0.j0]; refine Ev.pos (by first | rfl | trivial) ?_; refine Ev.const ?_; simp [okRel, e]
 ·refine Ev.neg (by omega) ?_; refine Ev.const ?_; simp [okRel, c]
theorem impl_l1 (t : Nat) (s : Int) (ac : List Bool) (ns : List (List Int)) (x3 : Nat) (hx3 : x3 ≤ 150) (i : Nat) (hni : i < 1048576) (l : List Int) (hl : l.length ≤ 26) (R : Bool)
  (hR : Ev (fun k => zb0.l0 k (x3 : Int) ns (ns.length : Int) (((i : Nat) + 1 : Nat) : Int) (t : Int) s ac ns) R) (d : Nat) : ∀ j, j + d = l.length →
  Ev (fun k => zb0.l1 k (x3 : Int) ns (ns.length : Int) (i : Int) l (l.length : Int) (j : Int) (t : Int) s ac ns) (okCells x3 (l.drop j) && R) := by
 induction d with
 | zero =>
  intro j hj; apply Ev.succ; simp only [zb0.l1]; refine Ev.neg (by omega) ?_; rw [w64 (by omega) (by omega), List.drop_of_length_le (by omega)]; simp only [okCells, List.all_nil, Bool.true_and]; exact hR
 | succ d ih =>
  intro j hj; apply Ev.succ; simp only [zb0.l1]; refine Ev.pos (by omega) ?_; refine Ev.pos (by omega) ?_; refine Ev.pos (by omega) ?_; rw [rd_nat _ _ (by omega)]; refine Ev.bind (Ev.const (within_eq _ _ _)) ?_; rw [show okCells x3 (l.drop j) = ((decide (0 ≤ l[j]) && decide (l[j] < x3)) && okCells x3 (l.drop (j + 1))) from drop_all _ _ _ (by omega)]; rw [w64 (n := (x3 : Int) - 1) (by omega) (by omega)]; rw [show decide (l[j] ≤ (x3 : Int) - 1) = decide (l[j] < (x3 : Int)) by apply decide_eq_decide.2; omega]; by_cases c : (decide (0 ≤ l[j]) && decide (l[j] < (x3 : Int))) = true
  ·rw [c]; refine Ev.pos (by first | rfl | trivial) ?_; rw [w64 (by omega) (by omega)]; simp only [Bool.true_and]; exact ih (j + 1) (by omega)
  ·rw [Bool.not_eq_true] at c; rw [c]; exact Ev.neg (by simp) (Ev.const (by simp))
theorem impl_l0 (t : Nat) (ht : t ≤ 3) (s : Int) (ac : List Bool) (ns : List (List Int)) (x3 : Nat) (hx3 : x3 ≤ 150) (hni : ns.length ≤ 1048576) (d : Nat) : ∀ i, i + d = ns.length →
  Ev (fun k => zb0.l0 k (x3 : Int) ns (ns.length : Int) (i : Int) (t : Int) s ac ns) (okRows (wd t) x3 (ns.drop i)) := by
 induction d with
 | zero =>
  intro i hi; apply Ev.succ; simp only [zb0.l0]; refine Ev.neg (by omega) ?_; rw [List.drop_of_length_le (by omega)]; exact Ev.const rfl
 | succ d ih =>
  intro i hi; apply Ev.succ; simp only [zb0.l0]; refine Ev.pos (by omega) ?_; refine Ev.pos (by omega) ?_; refine Ev.pos (by omega) ?_; rw [rd4_nat ns i (by omega)]; refine Ev.bind (wideI_ev t ht) ?_; rw [show okRows (wd t) x3 (ns.drop i) = ((decide (ns[i].length = wd t) && okCells x3 ns[i]) && okRows (wd t) x3 (ns.drop (i + 1))) from drop_all _ _ _ (by omega)]; have := wd_le t ht; by_cases c : ns[i].length = wd t
  ·refine Ev.pos (by omega) ?_; have h := impl_l1 t s ac ns x3 hx3 i (by omega) ns[i] (by omega) _ (ih (i + 1) (by omega)) ns[i].length 0 (by omega); rw [List.drop_zero] at h; simp only [c, decide_true, Bool.true_and]; rw [c] at h; exact h
  ·refine Ev.neg (by omega) ?_; simp only [c, decide_false, Bool.false_and]; exact Ev.const rfl
theorem impl_ValidRelation_ev (t s : Int) (ac : List Bool) (ns : List (List Int)) (h : SzOK ac ns) : Ev (fun k => zb0.f k t s ac ns) (okRel t s ac ns) := by
 have hj0 : ∀ n : Int, Ev (fun k => zb0.j0 k n true t s ac ns) false := fun n => by
  apply Ev.succ; simp only [zb0.j0]; exact Ev.pos (by first | rfl | trivial) (Ev.const rfl)
 have h1 := h.1; unfold zb0.f; refine Ev.bind (Ev.const (areTapes_eq _)) ?_; by_cases ct : 1 ≤ t ∧ t ≤ 3
 ·obtain ⟨n, rfl⟩ : ∃ n : Nat, t = n := ⟨t.toNat, by omega⟩; simp only [show decide ((1 : Int) ≤ n) = true by simpa using ct.1, show decide ((n : Int) ≤ 3) = true by simpa using ct.2, Bool.true_and]; refine Ev.pos (by first | rfl | trivial) ?_; refine Ev.bind (Ev.const (within_eq _ _ _)) ?_; by_cases c1 : 1 ≤ ac.length ∧ ac.length ≤ 150
  ·refine Ev.pos (by simp; omega) ?_; by_cases cn : ns.length = ac.length
   ·refine Ev.pos (by omega) ?_; refine Ev.bind (Ev.const (within_eq _ _ _)) ?_; rw [w64 (n := (ac.length : Int) - 1) (by omega) (by omega)]; by_cases cs : 0 ≤ s ∧ s < ac.length
    ·simp only [show decide ((0 : Int) ≤ s) = true by simpa using cs.1, show decide (s ≤ (ac.length : Int) - 1) = true from decide_eq_true (by omega), Bool.true_and, Bool.not_true]; apply Ev.succ; simp only [zb0.j0]; refine Ev.neg (by simp) ?_; have h0 := impl_l0 n (by omega) s ac ns ac.length c1.2 (by have := h.2.1; omega) ns.length 0 (by omega); rw [List.drop_zero] at h0
     have e : okRel (n : Int) s ac ns = okRows (wd n) ac.length ns := by
      simp only [okRel, Int.toNat_natCast]; simp only [show decide ((1 : Int) ≤ n) = true by simpa using ct.1, show decide ((n : Int) ≤ 3) = true by simpa using ct.2, show decide (1 ≤ ac.length) = true from decide_eq_true (by omega), show decide (ac.length ≤ 150) = true from decide_eq_true c1.2, cn, show decide ((0 : Int) ≤ s) = true by simpa using cs.1, show decide (s < (ac.length : Int)) = true from decide_eq_true cs.2, decide_true, Bool.true_and]
     rw [e]; exact h0
    ·have e1 : (decide (0 ≤ s) && decide (s ≤ (ac.length : Int) - 1)) = false := by
      rw [Bool.eq_false_iff]; intro e; rw [Bool.and_eq_true, decide_eq_true_eq, decide_eq_true_eq] at e; exact cs ⟨e.1, by omega⟩
     have e2 : (decide (0 ≤ s) && decide (s < (ac.length : Int))) = false := by
      rw [Bool.eq_false_iff]; intro e; rw [Bool.and_eq_true, decide_eq_true_eq, decide_eq_true_eq] at e; exact cs e
     have e : okRel (n : Int) s ac ns = false := by
      simp only [okRel]
      rcases Bool.and_eq_false_iff.1 e2 with e | e <;> rw [e] <;> simp
     rw [e1, e]; exact hj0 _
   ·refine Ev.neg (by omega) ?_; (have e : okRel (n : Int) s ac ns = false := by simp [okRel, cn]); rw [e]; exact hj0 _
  ·refine Ev.neg ?_ ?_
   ·intro e; rw [Bool.and_eq_true, decide_eq_true_eq, decide_eq_true_eq] at e; exact c1 ⟨by omega, by omega⟩
   ·have e : okRel (n : Int) s ac ns = false := by
     simp only [okRel]; by_cases c2 : 1 ≤ ac.length
     ·simp [show ¬ ac.length ≤ 150 from fun h => c1 ⟨c2, h⟩]
     ·simp [c2]
    rw [e]; exact hj0 _
 ·have e : (decide (1 ≤ t) && decide (t ≤ 3)) = false := by
   rw [Bool.eq_false_iff]; intro e; rw [Bool.and_eq_true, decide_eq_true_eq, decide_eq_true_eq] at e; exact ct e
  rw [e]; refine Ev.neg (by simp) ?_; (have e : okRel t s ac ns = false := by simp [okRel, e]); rw [e]; exact hj0 _
/-- What a valid relation gives. -/
theorem okRel_parts {t s : Int} {ac : List Bool} {ns : List (List Int)} (h : okRel t s ac ns = true) : ∃ n : Nat, t = (n : Int) ∧ 1 ≤ n ∧ n ≤ 3 ∧ 1 ≤ ac.length ∧ ac.length ≤ 150 ∧ 0 ≤ s ∧ s < (ac.length : Int) ∧ TableOK (wd n) ac.length ns := by
 simp only [okRel, Bool.and_eq_true, decide_eq_true_eq] at h; obtain ⟨⟨⟨⟨⟨⟨⟨h1, h2⟩, h3⟩, h4⟩, h5⟩, h6⟩, h7⟩, h8⟩ := h; refine ⟨t.toNat, by omega, by omega, by omega, h3, h4, h6, h7, h5, fun row hrow => ?_⟩; simp only [okRows, List.all_eq_true, Bool.and_eq_true, decide_eq_true_eq, okCells] at h8; have := h8 row hrow; exact ⟨this.1, fun x hx => this.2 x hx⟩
def padsT (t : Nat) : List Int := (padsL 20 (t : Int) (wd t) 0 (List.replicate (wd t) 0)).getD []
theorem pads_fin : ∀ t : Fin 4, padsL 20 ((t.val : Nat) : Int) (wd t.val) 0 (List.replicate (wd t.val) 0) = some (padsT t.val) ∧ (padsT t.val).length = wd t.val ∧ ∀ x ∈ padsT t.val, 0 ≤ x ∧ x < 2 ^ t.val := by decide +kernel
def endedOk (t : Nat) : Bool := (List.range (2 ^ t)).all fun p => (List.range (wd t)).all fun c => yc0.f 20 (t : Int) (p : Int) (c : Int) == some (endE (padsT t) (p : Int) (c : Int))
theorem ended_fin : ∀ t : Fin 4, endedOk t.val = true := by decide +kernel
theorem atk {α : Type} {g : Nat → Option α} {r : α} (hg : ∀ k, LeO (g k) (g (k + 1))) {k n : Nat} (hn : k ≤ n) (h : g k = some r) : g n = some r := at_rounds hg hn h
theorem ended_at {t : Nat} (ht : t ≤ 3) {k : Nat} (hk : 20 ≤ k) {p c : Int} (p0 : 0 ≤ p) (p1 : p < 2 ^ t) (c0 : 0 ≤ c) (c1 : c < (wd t : Int)) : yc0.f k (t : Int) p c = some (endE (padsT t) p c) := by
 refine atk (k := 20) (fun k => yc0.mono _ _ _ k) hk ?_; have h := ended_fin ⟨t, by omega⟩; simp only [endedOk, List.all_eq_true, List.mem_range, beq_iff_eq] at h
 have hp : p.toNat < 2 ^ t := by
  (have : ((2 ^ t : Nat) : Int) = 2 ^ t := by push_cast; rfl); omega
 have := h p.toNat hp c.toNat (by omega)
 rwa [show ((p.toNat : Nat) : Int) = p by omega, show ((c.toNat : Nat) : Int) = c by omega] at this
theorem size_le {n : Nat} (h1 : 1 ≤ n) (h3 : n ≤ 3) : (1 : Int) ≤ 2 ^ n ∧ (2 : Int) ^ n ≤ 8 ∧ (2 : Nat) ^ n ≤ 8 := by
 have : n = 1 ∨ n = 2 ∨ n = 3 := by omega
 rcases this with rfl | rfl | rfl <;> decide
/-- The tidy table of a relation's language. -/
def TidyIs (t : Nat) (s : Int) (ac : List Bool) (ns : List (List Int)) (r : List Bool × List (List Int)) : Prop := ∃ f, tidyD (wd t) f (lngR (wd t) (padsT t) ac ns (s, 0)) = some r
theorem impl_tidy_ev {n : Nat} {s : Int} {ac : List Bool} {ns : List (List Int)} (h1 : 1 ≤ n) (h3 : n ≤ 3) (hl : ac.length ≤ 2000) (s0 : 0 ≤ s) (s1 : s < (ac.length : Int)) (hT : TableOK (wd n) ac.length ns) :
  ∃ r, TidyIs n s ac ns r ∧ Ev (fun k => ye0.f k (n : Int) s ac ns) ((n : Int), 0, r.1, r.2) := by
 obtain ⟨q1, q2, q3⟩ := pads_fin ⟨n, by omega⟩; simp only at q1 q2 q3; obtain ⟨z1, z2, z3⟩ := size_le h1 h3; have hw := wd_le n h3; have law := fun (f : Nat) (hf : 1900002 ≤ f) => tidy_law hT rfl q2 (fun x hx => ⟨(q3 x hx).1, by have := (q3 x hx).2; omega⟩) (by omega) (by omega) s0 s1 hf; obtain ⟨p0, r, hp0, hpl0, hr0, hd0⟩ := law 1900002 (by omega); refine ⟨r, ⟨_, hd0⟩, 1900002, fun k hk => ?_⟩; obtain ⟨p, r', hp, hpl, hr, hd⟩ := law k hk; obtain rfl := tidyD_same hd0 hd; have hwid : zo0.f k (n : Int) = some ((wd n : Nat) : Int) := atk (k := 10) (fun k => zo0.mono _ k) (by omega) (wideI_fin ⟨n, by omega⟩); have hpad : padsL k (n : Int) (wd n) 0 (List.replicate (wd n) 0) = some (padsT n) := atk (k := 20) (fun k => padsL_mono k _ _ _ _) (by omega) q1; show ye0.f k (n : Int) s ac ns = _; unfold ye0.f; rw [hwid]; simp only [Option.bind_some, Int.toNat_natCast]; rw [if_pos ⟨by omega, by omega, by unfold good2 inI64; simp; omega⟩, hpad]; simp only [Option.bind_some]; rw [hp]; simp only [Option.bind_some]; rw [if_pos hpl, hr]; rfl
theorem spec_tidied_ev {n : Nat} {s : Int} {ac : List Bool} {ns : List (List Int)} (h1 : 1 ≤ n) (h3 : n ≤ 3) (hl : ac.length ≤ 2000) (s0 : 0 ≤ s) (s1 : s < (ac.length : Int)) (hT : TableOK (wd n) ac.length ns)
  {r : List Bool × List (List Int)} (hr : TidyIs n s ac ns r) : Ev (fun k => xk0.f k (n : Int) s ac ns) ((n : Int), 0, r.1, r.2, (n : Int), s) := by
 obtain ⟨f0, hd0⟩ := hr; obtain ⟨q1, q2, q3⟩ := pads_fin ⟨n, by omega⟩; simp only at q1 q2 q3; obtain ⟨z1, z2, z3⟩ := size_le h1 h3; have hw := wd_le n h3; refine ⟨1000000000, fun k hk => ?_⟩; have hN : ac.length * 2 ^ n ≤ 2000 * 8 := Nat.mul_le_mul hl z3
 have hs : SizeOK (wd n) ac.length (ac.length * 2 ^ n) (2 ^ n) (n : Int) k (padsT n) :=
  ⟨z1, z2, by push_cast; rfl, by omega, q2, q3, fun p c p0 p1 c0 c1 => ended_at h3 (by omega) p0 p1 c0 c1⟩
 obtain ⟨p, hp, hp0, hpl, hpT, hpL⟩ := rightF_law hs hT rfl s0 s1 (f := k) (by omega); have hb : p.1.length * (2 * p.1.length + wd n + 20) ≤ 16001 * 32048 := Nat.mul_le_mul (by omega) (by omega); obtain ⟨r', hr', hd'⟩ := tidiedF_law (t := (n : Int)) hpT rfl hp0 (by omega) (by omega) (k := k) (f := k) (by omega) (by omega); rw [hpL] at hd'; obtain rfl := tidyD_same hd0 hd'; have hwid : yk0.f k (n : Int) = some ((wd n : Nat) : Int) := atk (k := 10) (fun k => yk0.mono _ k) (by omega) (wideS_fin ⟨n, by omega⟩); show xk0.f k (n : Int) s ac ns = _; unfold xk0.f xu0.f; rw [hwid]; simp only [Option.bind_some, Int.toNat_natCast]; rw [if_pos ⟨by omega, by omega, by omega, by omega, by omega⟩, hp]; simp only [Option.bind_some]; rw [if_pos ⟨by omega, fun row hrow => by rw [(hpT.2 row hrow).1]; omega⟩, hr']; rfl
section
variable {K : Type} [DecidableEq K] {good : K → Bool} {acc : K → Option Bool} {next : K → Int → Option K} {W : Nat}
theorem growRow_met {nx : Int → Option K} : ∀ (m : Nat) (c : Int) (l : List K) (row : List Int) (l1 : List K) (row1 : List Int), growRow good nx m c l row = some (l1, row1) →
  ∃ e, row1 = row ++ e ∧ e.length = m ∧ l.length ≤ l1.length ∧ ∀ q : Nat, l.length ≤ q → q < l1.length → ∃ j : Nat, j < m ∧ e[j]? = some (q : Int) := by
 intro m
 induction m with
 | zero =>
  intro c l row l1 row1 h; simp only [growRow, Option.some.injEq, Prod.mk.injEq] at h; obtain ⟨rfl, rfl⟩ := h; exact ⟨[], by simp, rfl, Nat.le_refl _, fun q h1 h2 => by omega⟩
 | succ m ih =>
  intro c l row l1 row1 h; simp only [growRow] at h; obtain ⟨t, ht, h⟩ := Option.bind_eq_some_iff.mp h
  split at h
  ·split at h
   ·obtain ⟨e, he, hm, hl, hq⟩ := ih _ _ _ _ _ h; refine ⟨(l.idxOf t : Int) :: e, by simp [he], by simp [hm], hl, fun q h1 h2 => ?_⟩; obtain ⟨j, hj, hj2⟩ := hq q h1 h2; exact ⟨j + 1, by omega, by simpa using hj2⟩
   ·split at h
    ·obtain ⟨e, he, hm, hl, hq⟩ := ih _ _ _ _ _ h; rw [List.length_append, List.length_singleton] at hl hq; refine ⟨(l.length : Int) :: e, by simp [he], by simp [hm], by omega, fun q h1 h2 => ?_⟩; by_cases e0 : q = l.length
     ·exact ⟨0, by omega, by simp [e0]⟩
     ·obtain ⟨j, hj, hj2⟩ := hq q (by omega) h2; exact ⟨j + 1, by omega, by simpa using hj2⟩
    ·cases h
  ·cases h
def Met (W n : Nat) (rs : List (List Int)) : Prop := ∀ q : Nat, 1 ≤ q → q < n → ∃ (i : Nat) (row : List Int) (j : Nat), i < q ∧ rs[i]? = some row ∧ j < W ∧ row[j]? = some (q : Int)
theorem growL_met : ∀ (f : Nat) (l : List K) (bs : List Bool) (rs : List (List Int)) (r : List Bool × List (List Int)), rs.length = bs.length → bs.length ≤ l.length → Met W l.length rs → growL good acc next W f l bs rs = some r → Met W r.1.length r.2 := by
 intro f
 induction f with
 | zero => intro l bs rs r _ _ _ h; cases h
 | succ f ih =>
  intro l bs rs r hlen hle hM h; simp only [growL] at h
  split at h
  ·next e =>
   obtain rfl := Option.some.inj h; have := List.getElem?_eq_none_iff.1 e; (have e2 : bs.length = l.length := by omega)
   simpa [e2] using hM
  ·next k e =>
   have hi := (List.getElem?_eq_some_iff.1 e).1; obtain ⟨⟨l1, row1⟩, hrow, h⟩ := Option.bind_eq_some_iff.mp h; obtain ⟨a, ha, h⟩ := Option.bind_eq_some_iff.mp h; obtain ⟨e1, he1, hm, hl, hq⟩ := growRow_met _ _ _ _ _ _ hrow; rw [List.nil_append] at he1; subst he1; refine ih _ _ _ _ (by simp [hlen]) (by simp; omega) (fun q q1 q2 => ?_) h; by_cases c : q < l.length
   ·obtain ⟨i, row, j, h1, h2, h3, h4⟩ := hM q q1 c; exact ⟨i, row, j, h1, by rw [List.getElem?_append_left (List.getElem?_eq_some_iff.1 h2).1]; exact h2, h3, h4⟩
   ·obtain ⟨j, h3, h4⟩ := hq q (by omega) q2; exact ⟨bs.length, row1, j, by omega, by rw [← hlen]; simp, h3, h4⟩
end
/-- The form of a tidy table. -/
theorem tidyD_table {W f : Nat} {L : List Int → Bool} {r : List Bool × List (List Int)} (h : tidyD W f L = some r) : TableOK W r.1.length r.2 ∧ 0 < r.1.length ∧ r.1.length ≤ 1900000 ∧ Met W r.1.length r.2 := by
 classical
 unfold tidyD at h
 obtain ⟨h1, h2, h3, _⟩ := growL_table (S := fun _ => True) (Λ := fun (L : List Int → Bool) (w : List Int) => L w && w.all fun c => decide (0 ≤ c) && decide (c < (W : Int)))
  (fun k c t _ c0 c1 e => ⟨trivial, fun w => by obtain rfl := Option.some.inj e; simp [c0, c1]⟩) (fun k b _ e => by obtain rfl := Option.some.inj e; simp) (fun k c w hc => by
   by_cases c0 : 0 ≤ c
   ·have : ¬ c < (W : Int) := fun h => hc ⟨c0, h⟩; simp [this]
   ·simp [c0]) (start := L) trivial h
 exact ⟨h1, h2, h3, growL_met _ _ _ _ _ rfl (by simp) (fun q h1 h2 => by simp at h2; omega) h⟩
theorem clone_eq (l : List Bool) (h : l.length ≤ 1000000000) : yp0.f l = some l := by
 unfold yp0.f; simp; exact h
theorem machineOf_l0 (t s : Int) (ac : List Bool) (ns : List (List Int)) (hl : ns.length ≤ 1048576) (hr : ∀ x ∈ ns, x.length ≤ 1048576) (d : Nat) : ∀ i : Nat, i + d = ns.length → Ev (fun k => zi0.l0 k ns (ns.length : Int) (i : Int) t s ac (ns.take i)) (t, s, ac, ns) := by
 induction d with
 | zero =>
  intro i hi; apply Ev.succ; simp only [zi0.l0]; refine Ev.neg (by omega) (Ev.const ?_); rw [List.take_of_length_le (by omega)]
 | succ d ih =>
  intro i hi; apply Ev.succ; simp only [zi0.l0]; refine Ev.pos (by omega) (Ev.pos (by omega) (Ev.pos (by omega) ?_)); rw [rd4_nat ns i (by omega)]; have hri := hr _ (List.getElem_mem (show i < ns.length by omega))
  have inner : ∀ (e j : Nat), j + e = ns[i].length → Ev (fun k => zi0.l1 k (ns[i].take j) ns (ns.length : Int) (i : Int) ns[i] (ns[i].length : Int) (j : Int) t s ac (ns.take i)) (t, s, ac, ns) := by
   intro e
   induction e with
   | zero =>
    intro j hj; apply Ev.succ; simp only [zi0.l1]; refine Ev.neg (by omega) (Ev.pos (by simp; omega) ?_); rw [w64 (by omega) (by omega), show ns[i].take j = ns[i] from List.take_of_length_le (by omega), List.take_append_getElem (show i < ns.length by omega)]; exact ih (i + 1) (by omega)
   | succ e ihe =>
    intro j hj; apply Ev.succ; simp only [zi0.l1]; refine Ev.pos (by omega) (Ev.pos (by omega) (Ev.pos (by omega) (Ev.pos (by simp; omega) ?_))); rw [w64 (by omega) (by omega), rd_nat _ _ (by omega), List.take_append_getElem (by omega)]; exact ihe (j + 1) (by omega)
  exact inner ns[i].length 0 (by omega)
theorem machineOf_ev (t s : Int) (ac : List Bool) (ns : List (List Int)) (h : SzOK ac ns) : Ev (fun k => zi0.f k t s ac ns) (t, s, ac, ns) := by
 unfold zi0.f; exact Ev.bind (Ev.const (clone_eq ac (by have := h.1; omega))) (machineOf_l0 t s ac ns h.2.1 h.2.2 ns.length 0 (by omega))
theorem tidyOf_ev {n : Nat} {s : Int} {ac : List Bool} {ns : List (List Int)} {r : List Bool × List (List Int)} (h : SzOK ac ns) (hi : Ev (fun k => ye0.f k (n : Int) s ac ns) ((n : Int), 0, r.1, r.2)) : Ev (fun k => xf0.f k (n : Int) s ac ns) ((n : Int), 0, r.1, r.2) := by
 unfold xf0.f; exact Ev.bind (machineOf_ev _ s ac ns h) (Ev.bind hi (Ev.now _))
theorem spec_okv_ev (t s : Int) (ac : List Bool) (ns : List (List Int)) (h : SzOK ac ns) : Ev (fun k => xi0.f k t s ac ns) (okRel t s ac ns) := by
 unfold xi0.f; exact Ev.bind (spec_ok_ev t s ac ns h) (Ev.pos ⟨rfl, rfl⟩ (Ev.now _))
theorem spec_tidiedv_ev {n : Nat} {s : Int} {ac : List Bool} {ns : List (List Int)} {r : List Bool × List (List Int)} (h : Ev (fun k => xk0.f k (n : Int) s ac ns) ((n : Int), 0, r.1, r.2, (n : Int), s)) : Ev (fun k => yw0.f k (n : Int) s ac ns) ((n : Int), 0, r.1, r.2) := by
 unfold yw0.f; exact Ev.bind h (Ev.now _)
theorem growL_fuel {K : Type} [DecidableEq K] {good : K → Bool} {acc : K → Option Bool} {next : K → Int → Option K} {W : Nat} : ∀ (f : Nat) (l : List K) (bs : List Bool) (rs : List (List Int)) (r : List Bool × List (List Int)), growL good acc next W f l bs rs = some r → r.1.length < f + bs.length := by
 intro f
 induction f with
 | zero => intro l bs rs r h; simp [growL] at h
 | succ f ih =>
  intro l bs rs r h; simp only [growL] at h
  cases e : l[bs.length]? with
  | none =>
   rw [e] at h; obtain rfl := Option.some.inj h; show bs.length < _; omega
  | some k =>
   rw [e] at h; obtain ⟨p, h1, h⟩ := Option.bind_eq_some_iff.mp h; obtain ⟨a, h2, h⟩ := Option.bind_eq_some_iff.mp h; have := ih _ _ _ _ h; rw [List.length_append, List.length_singleton] at this; omega
theorem tidy_size {n : Nat} {s : Int} {ac : List Bool} {ns : List (List Int)} (h3 : n ≤ 3) (hl : ac.length ≤ 2000) (s0 : 0 ≤ s) (s1 : s < (ac.length : Int)) (hT : TableOK (wd n) ac.length ns) {r : List Bool × List (List Int)} (h : TidyIs n s ac ns r) : r.1.length ≤ ac.length * 8 + 1 := by
 classical
 obtain ⟨f0, hd⟩ := h; obtain ⟨q1, q2, q3⟩ := pads_fin ⟨n, by omega⟩; simp only at q1 q2 q3
 have z2 : (2 : Int) ^ n ≤ 8 := by
  have : n = 0 ∨ n = 1 ∨ n = 2 ∨ n = 3 := by omega
  rcases this with rfl | rfl | rfl | rfl <;> decide
 let F : Nat → (List Int → Bool) := fun i => lngR (wd n) (padsT n) ac ns (((i / 8 : Nat) : Int), ((i % 8 : Nat) : Int))
 let U : List (List Int → Bool) := (fun _ => false) :: (List.range (ac.length * 8)).map F
 have hUl : U.length = ac.length * 8 + 1 := by simp [U]
 have hin : ∀ q p : Int, 0 ≤ q → q < (ac.length : Int) → 0 ≤ p → p < 8 → lngR (wd n) (padsT n) ac ns (q, p) ∈ U := by
  intro q p a0 a1 b0 b1; refine List.mem_cons_of_mem _ (List.mem_map.2 ⟨q.toNat * 8 + p.toNat, List.mem_range.2 (by omega), ?_⟩); show lngR _ _ _ _ _ = _; rw [show (q.toNat * 8 + p.toNat) / 8 = q.toNat by omega, show (q.toNat * 8 + p.toNat) % 8 = p.toNat by omega, show ((q.toNat : Nat) : Int) = q by omega, show ((p.toNat : Nat) : Int) = p by omega]
 have hnx : ∀ (L : List Int → Bool) (c : Int), L ∈ U → 0 ≤ c → c < ((wd n : Nat) : Int) → ∃ t, (some fun w => L (c :: w)) = some t ∧ (fun _ : List Int → Bool => true) t = true ∧ t ∈ U := by
  intro L c hL c0 c1; refine ⟨_, rfl, rfl, ?_⟩
  rcases List.mem_cons.1 hL with rfl | hL
  ·exact List.mem_cons_self
  ·obtain ⟨i, hi, rfl⟩ := List.mem_map.1 hL; have hi2 := List.mem_range.1 hi; by_cases hb : bits .andNot .i64 ((i % 8 : Nat) : Int) (rd (padsT n) c) = 0
   ·have e : (fun w => F i (c :: w)) = lngR (wd n) (padsT n) ac ns (stp ns ((i / 8 : Nat) : Int) c, rd (padsT n) c) := by
     funext w
     show lngR _ _ _ _ _ (c :: w) = _; rw [lngR]; simp only [hb]; rw [decide_eq_true c0, decide_eq_true c1, decide_eq_true (show (0 : Int) ≤ ((i % 8 : Nat) : Int) by omega)]; simp
    rw [e]; have hq := hT.stpd (q := ((i / 8 : Nat) : Int)) (by omega) (by omega) c0 c1
    have hp := q3 (rd (padsT n) c) (by
     (have hc : c.toNat < (padsT n).length := by omega); show (padsT n).getD c.toNat 0 ∈ padsT n; rw [List.getD_eq_getElem?_getD, List.getElem?_eq_getElem hc]
     exact List.getElem_mem hc)
    exact hin _ _ hq.1 hq.2 hp.1 (by omega)
   ·have e : (fun w => F i (c :: w)) = fun _ => false := by
     funext w
     show lngR _ _ _ _ _ (c :: w) = _; rw [lngR]; simp only [decide_eq_false hb, Bool.false_and, Bool.and_false]
    rw [e]; exact List.mem_cons_self
 obtain ⟨r', hr'⟩ := growL_some (U := U) (by omega) (acc := fun L => some (L [])) hnx (fun k _ => ⟨_, rfl⟩) (ac.length * 8 + 2) [lngR (wd n) (padsT n) ac ns (s, 0)] [] [] (by simp) (fun k hk => by rw [List.mem_singleton] at hk; subst hk; exact hin _ _ s0 s1 (by omega) (by omega)) (by simp) (by simp only [List.length_nil]; omega); have e := tidyD_same (W := wd n) (f := f0) (g := ac.length * 8 + 2) hd hr'; subst e; have := growL_fuel _ _ _ _ _ hr'; simp only [List.length_nil] at this; omega
def inW (W : Nat) (w : List Int) : Bool := w.all fun c => decide (0 ≤ c) && decide (c < (W : Int))
def runT (ns : List (List Int)) : Int → List Int → Int
 | q, [] => q
 | q, c :: w => runT ns (stp ns q c) w
theorem lng_eq (W : Nat) (ac : List Bool) (ns : List (List Int)) : ∀ (w : List Int) (q : Int), lng W ac ns q w = (inW W w && rdOf false ac (runT ns q w)) := by
 intro w
 induction w with
 | nil => intro q; rfl
 | cons c w ih =>
  intro q; simp only [lng, inW, List.all_cons, runT, ih]; simp only [Bool.and_assoc, inW]
theorem runT_range {W n : Nat} {ns : List (List Int)} (hT : TableOK W n ns) : ∀ (w : List Int) (q : Int), inW W w = true → 0 ≤ q → q < (n : Int) → 0 ≤ runT ns q w ∧ runT ns q w < (n : Int) := by
 intro w
 induction w with
 | nil => intro q _ h0 h1; exact ⟨h0, h1⟩
 | cons c w ih =>
  intro q h h0 h1; simp only [inW, List.all_cons, Bool.and_eq_true, decide_eq_true_eq] at h; have := hT.stpd h0 h1 h.1.1 h.1.2; exact ih _ h.2 this.1 this.2
/-- A table that 'grow' made, by the language of its keys. -/
theorem table_acc {W : Nat} {p : List Bool × List (List Int)} {Λ : List Int → Bool} (h : lng W p.1 p.2 0 = Λ) {w : List Int} (hw : inW W w = true) : rdOf false p.1 (runT p.2 0 w) = Λ w := by
 have h1 := congrFun h w; rw [lng_eq, hw, Bool.true_and] at h1; exact h1
/-- A table over i * m + k. -/
def PairOK (W : Nat) (a b : List Bool × List (List Int)) (f : Bool → Bool → Bool) (x : List Bool × List (List Int)) : Prop :=
 ∀ i k : Int, 0 ≤ i → i < (a.1.length : Int) → 0 ≤ k → k < (b.1.length : Int) → rdOf false x.1 (i * (b.1.length : Int) + k) = f (rdOf false a.1 i) (rdOf false b.1 k) ∧ ∀ c, 0 ≤ c → c < (W : Int) → stp x.2 (i * (b.1.length : Int) + k) c = stp a.2 i c * (b.1.length : Int) + stp b.2 k c
theorem pair_run {W : Nat} {a b x : List Bool × List (List Int)} {f : Bool → Bool → Bool} (ha : TableOK W a.1.length a.2) (hb : TableOK W b.1.length b.2) (h : PairOK W a b f x) : ∀ (w : List Int) (i k : Int), inW W w = true → 0 ≤ i → i < (a.1.length : Int) → 0 ≤ k → k < (b.1.length : Int) →
  runT x.2 (i * (b.1.length : Int) + k) w = runT a.2 i w * (b.1.length : Int) + runT b.2 k w := by
 intro w
 induction w with
 | nil => intro i k _ _ _ _ _; rfl
 | cons c w ih =>
  intro i k hw i0 i1 k0 k1; simp only [inW, List.all_cons, Bool.and_eq_true, decide_eq_true_eq] at hw; have h1 := ha.stpd i0 i1 hw.1.1 hw.1.2; have h2 := hb.stpd k0 k1 hw.1.1 hw.1.2; simp only [runT]; rw [(h i k i0 i1 k0 k1).2 c hw.1.1 hw.1.2]; exact ih _ _ hw.2 h1.1 h1.2 h2.1 h2.2
theorem pair_acc {W : Nat} {a b x : List Bool × List (List Int)} {f : Bool → Bool → Bool} (ha : TableOK W a.1.length a.2) (hb : TableOK W b.1.length b.2) (h : PairOK W a b f x) {w : List Int} (hw : inW W w = true) {i k : Int} (i0 : 0 ≤ i) (i1 : i < (a.1.length : Int)) (k0 : 0 ≤ k) (k1 : k < (b.1.length : Int)) :
  rdOf false x.1 (runT x.2 (i * (b.1.length : Int) + k) w) = f (rdOf false a.1 (runT a.2 i w)) (rdOf false b.1 (runT b.2 k w)) := by
 rw [pair_run ha hb h w i k hw i0 i1 k0 k1]; have h1 := runT_range ha w i hw i0 i1; have h2 := runT_range hb w k hw k0 k1; exact (h _ _ h1.1 h1.2 h2.1 h2.2).1
/-- The pairs that are met, numbered by 'grow'. -/
theorem pairs_grown {W : Nat} {a b : List Bool × List (List Int)} {f : Bool → Bool → Bool} (ha : TableOK W a.1.length a.2) (hb : TableOK W b.1.length b.2) (hab : a.1.length * b.1.length ≤ 1900000) (ha0 : 0 < a.1.length) (hb0 : 0 < b.1.length) (hal : a.1.length ≤ 1900000) (hbl : b.1.length ≤ 1900000)
  {acc : Int × Int → Option Bool} {next : Int × Int → Int → Option (Int × Int)}
  (hacc : ∀ i k : Int, 0 ≤ i → i < (a.1.length : Int) → 0 ≤ k → k < (b.1.length : Int) → acc (i, k) = some (f (rdOf false a.1 i) (rdOf false b.1 k)))
  (hnext : ∀ i k c : Int, 0 ≤ i → i < (a.1.length : Int) → 0 ≤ k → k < (b.1.length : Int) → 0 ≤ c → c < (W : Int) → next (i, k) c = some (stp a.2 i c, stp b.2 k c)) {n : Nat} (hn : a.1.length * b.1.length + 2 ≤ n) :
  ∃ r, growL good2 acc next W n [(0, 0)] [] [] = some r ∧ TableOK W r.1.length r.2 ∧ 0 < r.1.length ∧ r.1.length ≤ 1900000 ∧ ∀ w, inW W w = true → rdOf false r.1 (runT r.2 0 w) = f (rdOf false a.1 (runT a.2 0 w)) (rdOf false b.1 (runT b.2 0 w)) := by
 let U : List (Int × Int) := (List.range a.1.length).flatMap fun (i : Nat) => (List.range b.1.length).map fun (k : Nat) => ((i : Int), (k : Int))
 have hUl : U.length = a.1.length * b.1.length := by
  simp only [U, List.length_flatMap, List.length_map, List.length_range, List.map_const', List.sum_replicate_nat]
 have hU : ∀ x : Int × Int, x ∈ U ↔ (0 ≤ x.1 ∧ x.1 < (a.1.length : Int) ∧ 0 ≤ x.2 ∧ x.2 < (b.1.length : Int)) := by
  intro x; simp only [U, List.mem_flatMap, List.mem_range, List.mem_map]; constructor
  ·rintro ⟨i, hi, k, hk, rfl⟩; exact ⟨by simp, by simp; omega, by simp, by simp; omega⟩
  ·rintro ⟨h0, h1, h2, h3⟩; exact ⟨x.1.toNat, by omega, x.2.toNat, by omega, Prod.ext (by simp; omega) (by simp; omega)⟩
 have hst : ((0 : Int), (0 : Int)) ∈ U := (hU _).2 ⟨by simp, by simp; omega, by simp, by simp; omega⟩
 have hgood : ∀ x ∈ U, good2 x = true := fun x hx => by
  have := (hU x).1 hx; unfold good2 inI64; simp only [Bool.and_eq_true, decide_eq_true_eq]; omega
 have total : ∃ r, growL good2 acc next W n [(0, 0)] [] [] = some r := by
  refine growL_some (U := U) (by rw [hUl]; omega) (fun x c hx c0 c1 => ?_) (fun x hx => ?_) n _ [] [] (by simp) (by intro x hx; simp at hx; subst hx; exact hst) (by simp) (by rw [hUl]; simp; omega)
  ·obtain ⟨i0, i1, k0, k1⟩ := (hU x).1 hx; have h1 := ha.stpd i0 i1 c0 c1; have h2 := hb.stpd k0 k1 c0 c1; have hm : (stp a.2 x.1 c, stp b.2 x.2 c) ∈ U := (hU _).2 ⟨h1.1, h1.2, h2.1, h2.2⟩; exact ⟨_, hnext x.1 x.2 c i0 i1 k0 k1 c0 c1, hgood _ hm, hm⟩
  ·obtain ⟨i0, i1, k0, k1⟩ := (hU x).1 hx; exact ⟨_, hacc x.1 x.2 i0 i1 k0 k1⟩
 obtain ⟨r, hr⟩ := total
 obtain ⟨t1, t2, t3, t4⟩ := growL_table (S := fun x => x ∈ U) (Λ := fun x w => inW W w && f (rdOf false a.1 (runT a.2 x.1 w)) (rdOf false b.1 (runT b.2 x.2 w)))
  (fun x c t hx c0 c1 e => by
   obtain ⟨i0, i1, k0, k1⟩ := (hU x).1 hx; rw [hnext x.1 x.2 c i0 i1 k0 k1 c0 c1] at e; obtain rfl := Option.some.inj e; have h1 := ha.stpd i0 i1 c0 c1; have h2 := hb.stpd k0 k1 c0 c1
   exact ⟨(hU _).2 ⟨h1.1, h1.2, h2.1, h2.2⟩, fun w => by simp [inW, runT, c0, c1]⟩)
  (fun x v hx e => by
   obtain ⟨i0, i1, k0, k1⟩ := (hU x).1 hx; rw [hacc x.1 x.2 i0 i1 k0 k1] at e; obtain rfl := Option.some.inj e
   simp [inW, runT])
  (fun x c w hc => by
   by_cases c0 : 0 ≤ c
   ·have : ¬ c < (W : Int) := fun h => hc ⟨c0, h⟩; simp [inW, this]
   ·simp [inW, c0]) (start := ((0 : Int), (0 : Int))) hst hr
 refine ⟨r, hr, t1, t2, t3, fun w hw => ?_⟩; rw [table_acc t4 hw, hw, Bool.true_and]
def twoR (t s : Int) (ac : List Bool) (ns : List (List Int)) (t' s' : Int) (ac' : List Bool) (ns' : List (List Int)) : Int := if okRel t s ac ns = true then (if okRel t' s' ac' ns' = true then (if t = t' then 0 else 2) else 1) else 1
theorem spec_two_ev {t s : Int} {ac : List Bool} {ns : List (List Int)} {t' s' : Int} {ac' : List Bool} {ns' : List (List Int)} (h : SzOK ac ns) (h' : SzOK ac' ns') : Ev (fun k => l01TwoF k t s ac ns t' s' ac' ns') (twoR t s ac ns t' s' ac' ns') := by
 have e1 := spec_okv_ev t s ac ns h; have e2 := spec_okv_ev t' s' ac' ns' h'; by_cases c : okRel t s ac ns = true
 ·by_cases c' : okRel t' s' ac' ns' = true
  ·by_cases e : t = t'
   ·rw [show twoR t s ac ns t' s' ac' ns' = 0 by unfold twoR; rw [if_pos c, if_pos c', if_pos e]]; exact Ev.bind e1 (Ev.pos c (Ev.bind e2 (Ev.pos c' (Ev.pos e (Ev.now _)))))
   ·rw [show twoR t s ac ns t' s' ac' ns' = 2 by unfold twoR; rw [if_pos c, if_pos c', if_neg e]]; exact Ev.bind e1 (Ev.pos c (Ev.bind e2 (Ev.pos c' (Ev.neg e (Ev.now _)))))
  ·rw [show twoR t s ac ns t' s' ac' ns' = 1 by unfold twoR; rw [if_pos c, if_neg c']]; exact Ev.bind e1 (Ev.pos c (Ev.bind e2 (Ev.neg c' (Ev.now _))))
 ·rw [show twoR t s ac ns t' s' ac' ns' = 1 by unfold twoR; rw [if_neg c]]; exact Ev.bind e1 (Ev.neg c (Ev.now _))
theorem impl_two_ev {t s : Int} {ac : List Bool} {ns : List (List Int)} {t' s' : Int} {ac' : List Bool} {ns' : List (List Int)} (h : SzOK ac ns) (h' : SzOK ac' ns') : Ev (fun k => zr0.f k t s ac ns t' s' ac' ns') (twoR t s ac ns t' s' ac' ns') := by
 have hj : Ev (fun k => zr0.j0 k true t s ac ns t' s' ac' ns') 1 := by
  apply Ev.succ; simp only [zr0.j0]; exact Ev.pos (by first | rfl | trivial) (Ev.now _)
 have e1 := impl_ValidRelation_ev t s ac ns h; have e2 := impl_ValidRelation_ev t' s' ac' ns' h'; unfold zr0.f; by_cases c : okRel t s ac ns = true
 ·refine Ev.bind e1 (Ev.pos c (Ev.bind e2 ?_)); by_cases c' : okRel t' s' ac' ns' = true
  ·rw [c']; apply Ev.succ; simp only [zr0.j0]; by_cases e : t = t'
   ·rw [show twoR t s ac ns t' s' ac' ns' = 0 by unfold twoR; rw [if_pos c, if_pos c', if_pos e]]; exact Ev.neg (by decide) (Ev.pos e (Ev.now _))
   ·rw [show twoR t s ac ns t' s' ac' ns' = 2 by unfold twoR; rw [if_pos c, if_pos c', if_neg e]]; exact Ev.neg (by decide) (Ev.neg e (Ev.now _))
  ·rw [show twoR t s ac ns t' s' ac' ns' = 1 by unfold twoR; rw [if_pos c, if_neg c']]; rw [Bool.not_eq_true] at c'; rw [c']; exact hj
 ·rw [show twoR t s ac ns t' s' ac' ns' = 1 by unfold twoR; rw [if_neg c]]; exact Ev.bind e1 (Ev.neg c hj)
/-- Two relations that may be held against each other, and their tidy tables. -/
theorem two_parts {t s : Int} {ac : List Bool} {ns : List (List Int)} {t' s' : Int} {ac' : List Bool} {ns' : List (List Int)} (h : twoR t s ac ns t' s' ac' ns' = 0) : okRel t s ac ns = true ∧ okRel t' s' ac' ns' = true ∧ t = t' := by
 unfold twoR at h
 split at h
 ·split at h
  ·split at h
   ·exact ⟨by assumption, by assumption, by assumption⟩
   ·omega
  ·omega
 ·omega
theorem tidy_both {t s : Int} {ac : List Bool} {ns : List (List Int)} (h : SzOK ac ns) (hv : okRel t s ac ns = true) : ∃ (n : Nat) (r : List Bool × List (List Int)), t = (n : Int) ∧ 1 ≤ n ∧ n ≤ 3 ∧ 0 ≤ s ∧ s < (ac.length : Int) ∧ TableOK (wd n) ac.length ns ∧ ac.length ≤ 150 ∧ TidyIs n s ac ns r ∧ TableOK (wd n) r.1.length r.2 ∧ 0 < r.1.length ∧ r.1.length ≤ 1900000 ∧
  Ev (fun k => xf0.f k t s ac ns) (t, 0, r.1, r.2) ∧ Ev (fun k => yw0.f k t s ac ns) (t, 0, r.1, r.2) := by
 obtain ⟨n, rfl, h1, h3, hl1, hl, s0, s1, hT⟩ := okRel_parts hv; obtain ⟨r, hr, hi⟩ := impl_tidy_ev h1 h3 (by omega) s0 s1 hT; have hs := spec_tidied_ev h1 h3 (by omega) s0 s1 hT hr; obtain ⟨d1, d2, d3, d4⟩ := tidyD_table hr.choose_spec; exact ⟨n, r, rfl, h1, h3, s0, s1, hT, hl, hr, d1, d2, d3, tidyOf_ev h hi, spec_tidiedv_ev hs⟩
theorem pairN_get {q : Int} {m : List (List Int)} {k : Nat} (hk : k < m.length) : ∀ {l : List (List Int)} {i : Nat} (hi : i < l.length), (pairN q l m)[i * m.length + k]? = some (rowM q l[i] m[k]) := by
 intro l
 induction l with
 | nil => intro i hi; exact absurd hi (by simp)
 | cons a l ih =>
  intro i hi; (have e : pairN q (a :: l) m = m.map (rowM q a) ++ pairN q l m := by simp [pairN]); rw [e]
  cases i with
  | zero =>
   rw [List.getElem?_append_left (by simp; omega), Nat.zero_mul, Nat.zero_add, List.getElem?_map, List.getElem?_eq_getElem hk]; rfl
  | succ i =>
   rw [List.getElem?_append_right (by rw [List.length_map, Nat.succ_mul]; omega), List.length_map, show (i + 1) * m.length + k - m.length = i * m.length + k by rw [Nat.succ_mul]; omega, ih (by simpa using hi)]; rfl
theorem rdOf_of {xs : List Bool} {i : Nat} {b : Bool} (h : xs[i]? = some b) : rdOf false xs (i : Int) = b := by
 simp [rdOf, List.getD_eq_getElem?_getD, h]
theorem pairs_table {W : Nat} {a b : List Bool × List (List Int)} {f : Bool → Bool → Bool} (ha : TableOK W a.1.length a.2) (hb : TableOK W b.1.length b.2) :
  TableOK W (pairA f a.1 b.1).length (pairN (b.1.length : Int) a.2 b.2) ∧ PairOK W a b f (pairA f a.1 b.1, pairN (b.1.length : Int) a.2 b.2) := by
 have hla := ha.1; have hlb := hb.1; constructor
 ·refine ⟨by rw [qa0, pairN_length, hla, hlb], fun row hrow => ?_⟩; simp only [pairN, List.mem_flatMap, List.mem_map] at hrow; obtain ⟨ra, hra, rb, hrb, rfl⟩ := hrow; obtain ⟨la, xa⟩ := ha.2 _ hra; obtain ⟨lb, xb⟩ := hb.2 _ hrb; refine ⟨by simp only [rowM, List.length_zipWith]; omega, fun x hx => ?_⟩; obtain ⟨c, hc, rfl⟩ := List.getElem_of_mem hx; (have hc' : c < W := by simp only [rowM, List.length_zipWith] at hc; omega); (have e : (rowM (b.1.length : Int) ra rb)[c] = ra[c]'(by omega) * (b.1.length : Int) + rb[c]'(by omega) := by simp [rowM]); rw [e, qa0]; have p := xa _ (List.getElem_mem (by omega : c < ra.length)); have q := xb _ (List.getElem_mem (by omega : c < rb.length)); generalize ra[c]'(by omega) = u at *; generalize rb[c]'(by omega) = v at *; have h0 : 0 ≤ u * (b.1.length : Int) := Int.mul_nonneg p.1 (by omega); have h1 : u * (b.1.length : Int) ≤ ((a.1.length : Int) - 1) * (b.1.length : Int) := Int.mul_le_mul_of_nonneg_right (by omega) (by omega); rw [Int.sub_mul, Int.one_mul] at h1
  push_cast
  omega
 ·intro i k i0 i1 k0 k1; obtain ⟨i, rfl⟩ := Int.eq_ofNat_of_zero_le i0; obtain ⟨k, rfl⟩ := Int.eq_ofNat_of_zero_le k0; (have hi : i < a.1.length := by omega); (have hk : k < b.1.length := by omega); (have e : ((i : Int) * (b.1.length : Int) + (k : Int)) = ((i * b.1.length + k : Nat) : Int) := by push_cast; rfl); refine ⟨?_, fun c c0 c1 => ?_⟩
  ·rw [e, rdOf_of (pairA_get hk hi), rdOf_of (List.getElem?_eq_getElem hi), rdOf_of (List.getElem?_eq_getElem hk)]
  ·obtain ⟨c, rfl⟩ := Int.eq_ofNat_of_zero_le c0; (have hi2 : i < a.2.length := by omega); (have hk2 : k < b.2.length := by omega); have g := pairN_get (q := (b.1.length : Int)) hk2 hi2; rw [hlb] at g; have la := (ha.2 _ (List.getElem_mem hi2)).1; have lb := (hb.2 _ (List.getElem_mem hk2)).1; (have hc : c < W := by omega); rw [e]; simp only [stp, Int.toNat_natCast, List.getD_eq_getElem?_getD, g, Option.getD_some, List.getElem?_eq_getElem hi2, List.getElem?_eq_getElem hk2, rd]; simp [rowM, List.getElem?_zipWith, List.getElem?_eq_getElem (show c < (a.2[i]).length by omega), List.getElem?_eq_getElem (show c < (b.2[k]).length by omega)]
theorem at1_in {α : Type} {d : α} {xs : List α} {i : Int} (h0 : 0 ≤ i) (h1 : i < (xs.length : Int)) : at1 d xs i = some (rdOf d xs i) := by
 unfold at1; rw [if_pos ⟨h0, h1⟩]
def lexl : List Int → List Int → Prop
 | a :: u, b :: v => a < b ∨ (a = b ∧ lexl u v)
 | _, _ => False
theorem lexl_irrefl : ∀ u, ¬ lexl u u := by
 intro u
 induction u with
 | nil => simp [lexl]
 | cons a u ih => simp [lexl, ih]
theorem lexl_trans : ∀ u v w, lexl u v → lexl v w → lexl u w := by
 intro u
 induction u with
 | nil => intro v w h; simp [lexl] at h
 | cons a u ih =>
  intro v w h1 h2
  cases v with
  | nil => simp [lexl] at h1
  | cons b v =>
   cases w with
   | nil => simp [lexl] at h2
   | cons c w =>
    simp only [lexl] at h1 h2 ⊢
    rcases h1 with h1 | ⟨h1, h1'⟩ <;> rcases h2 with h2 | ⟨h2, h2'⟩
    ·left; omega
    ·left; omega
    ·left; omega
    ·right; exact ⟨by omega, ih _ _ h1' h2'⟩
theorem lexl_snoc : ∀ u v : List Int, u.length = v.length → lexl u v → ∀ a b, lexl (u ++ [a]) (v ++ [b]) := by
 intro u
 induction u with
 | nil => intro v _ h; simp [lexl] at h
 | cons x u ih =>
  intro v hl h a b
  cases v with
  | nil => simp at hl
  | cons y v =>
   simp only [lexl, List.cons_append] at h ⊢
   rcases h with h | ⟨h, h'⟩
   ·exact .inl h
   ·exact .inr ⟨h, ih v (by simpa using hl) h' a b⟩
theorem lexl_last : ∀ (u : List Int) (a b : Int), a < b → lexl (u ++ [a]) (u ++ [b]) := by
 intro u
 induction u with
 | nil => intro a b h; simp [lexl, h]
 | cons x u ih => intro a b h; rw [List.cons_append, List.cons_append]; exact .inr ⟨rfl, ih a b h⟩
def llt (u v : List Int) : Prop := u.length < v.length ∨ (u.length = v.length ∧ lexl u v)
def lle (u v : List Int) : Prop := u = v ∨ llt u v
theorem llt_irrefl (u : List Int) : ¬ llt u u := by
 rintro (h | ⟨_, h⟩)
 ·omega
 ·exact lexl_irrefl u h
theorem llt_trans {u v w : List Int} (h1 : llt u v) (h2 : llt v w) : llt u w := by
 rcases h1 with h1 | ⟨h1, h1'⟩ <;> rcases h2 with h2 | ⟨h2, h2'⟩
 ·exact .inl (by omega)
 ·exact .inl (by omega)
 ·exact .inl (by omega)
 ·exact .inr ⟨by omega, lexl_trans _ _ _ h1' h2'⟩
theorem lle_trans {u v w : List Int} (h1 : lle u v) (h2 : lle v w) : lle u w := by
 rcases h1 with rfl | h1
 ·exact h2
 ·rcases h2 with rfl | h2
  ·exact .inr h1
  ·exact .inr (llt_trans h1 h2)
theorem lle_anti {u v : List Int} (h1 : lle u v) (h2 : lle v u) : u = v := by
 rcases h1 with h1 | h1
 ·exact h1
 ·rcases h2 with h2 | h2
  ·exact h2.symm
  ·exact absurd (llt_trans h1 h2) (llt_irrefl u)
theorem llt_snoc {u v : List Int} (h : llt u v) (a b : Int) : llt (u ++ [a]) (v ++ [b]) := by
 rcases h with h | ⟨h, h'⟩
 ·exact .inl (by simp; omega)
 ·exact .inr ⟨by simp [h], lexl_snoc u v h h' a b⟩
theorem lle_snoc {u v : List Int} (h : lle u v) (a : Int) : lle (u ++ [a]) (v ++ [a]) := by
 rcases h with rfl | h
 ·exact .inl rfl
 ·exact .inr (llt_snoc h a a)
theorem llt_last (u : List Int) {a b : Int} (h : a < b) : llt (u ++ [a]) (u ++ [b]) := .inr ⟨by simp, lexl_last u a b h⟩
theorem llt_more (u : List Int) (a : Int) : llt u (u ++ [a]) := .inl (by simp)
/-- The first of the lists that are taken. -/
def Least (A : List Int → Prop) (w : List Int) : Prop := A w ∧ ∀ w', A w' → lle w w'
theorem Least.same {A : List Int → Prop} {u v : List Int} (h : Least A u) (h' : Least A v) : u = v := lle_anti (h.2 v h'.1) (h'.2 u h.1)
theorem snoc_induct {P : List Int → Prop} (h0 : P []) (h1 : ∀ l k, P l → P (l ++ [k])) : ∀ l, P l := by
 intro l
 suffices h : ∀ n (l : List Int), l.length = n → P l from h _ l rfl
 intro n
 induction n with
 | zero =>
  intro l hl; rw [List.length_eq_zero_iff.1 hl]; exact h0
 | succ n ih =>
  intro l hl
  rcases List.eq_nil_or_concat l with rfl | ⟨L, b, rfl⟩
  ·simp at hl
  ·simp only [List.concat_eq_append] at hl ⊢
   exact h1 L b (ih L (by simpa using hl))
section
variable {W n : Nat} {ac : List Bool} {ns : List (List Int)}
/-- A list of columns is taken from a state. -/
def Tk (W : Nat) (ac : List Bool) (ns : List (List Int)) (q : Int) (u : List Int) : Prop := inW W u = true ∧ rdOf false ac (runT ns q u) = true
theorem Tk.cons {q c : Int} {u : List Int} : Tk W ac ns q (c :: u) ↔ (0 ≤ c ∧ c < (W : Int)) ∧ Tk W ac ns (stp ns q c) u := by
 unfold Tk; simp only [inW, List.all_cons, Bool.and_eq_true, decide_eq_true_eq, runT]; exact ⟨fun ⟨⟨a, b⟩, c⟩ => ⟨a, b, c⟩, fun ⟨a, b, c⟩ => ⟨⟨a, b⟩, c⟩⟩
def Dist (W : Nat) (ac : List Bool) (ns : List (List Int)) (q : Int) (d : Nat) : Prop := (∃ u, u.length = d ∧ Tk W ac ns q u) ∧ ∀ u, Tk W ac ns q u → d ≤ u.length
theorem Dist.same {q : Int} {d e : Nat} (h : Dist W ac ns q d) (h' : Dist W ac ns q e) : d = e := by
 obtain ⟨⟨u, hu, tu⟩, h1⟩ := h; obtain ⟨⟨v, hv, tv⟩, h2⟩ := h'; have := h1 v tv; have := h2 u tu; omega
/-- What is known of a state when m rounds are over. -/
def FarAt (W : Nat) (ac : List Bool) (ns : List (List Int)) (m : Nat) (F : List Int) (q : Int) : Prop := (rd F q = -1 ∧ ∀ u, Tk W ac ns q u → m < u.length) ∨ ∃ d : Nat, d ≤ m ∧ rd F q = (d : Int) ∧ Dist W ac ns q d
theorem FarAt.test {m m' : Nat} {F : List Int} {q : Int} (h : FarAt W ac ns m' F q) (hm : m ≤ m') : rd F q = (m : Int) ↔ Dist W ac ns q m := by
 rcases h with ⟨h1, h2⟩ | ⟨d, hd, h1, h2⟩
 ·constructor
  ·intro h; omega
  ·rintro ⟨⟨u, hu, tu⟩, _⟩; have := h2 u tu; omega
 ·constructor
  ·intro h; (have : d = m := by omega); exact this ▸ h2
  ·intro h; rw [h1, h2.same h]
theorem FarAt.neg {m : Nat} {F : List Int} {q : Int} (h : FarAt W ac ns m F q) : ¬ 0 ≤ rd F q ↔ ∀ u, Tk W ac ns q u → m < u.length := by
 rcases h with ⟨h1, h2⟩ | ⟨d, hd, h1, ⟨u, hu, tu⟩, h2⟩
 ·exact ⟨fun _ => h2, fun _ => by omega⟩
 ·exact ⟨fun h => absurd (by omega) h, fun h => by have := h u tu; omega⟩
end
theorem first_l2 (t s : Int) (ac : List Bool) (ns : List (List Int)) (x9 : List Int) (hx9 : x9.length ≤ 2000001) : ∀ (j : Nat) (x11 : List Int), j ≤ x9.length → x11.length + j ≤ 2000001 → Ev (fun k => zh0.l2 k x9 x11 ((j : Int) - 1) t s ac ns) (x11 ++ (x9.take j).reverse, true, t, s) := by
 intro j
 induction j with
 | zero =>
  intro x11 _ _; refine Ev.succ ?_; simp only [zh0.l2]; exact Ev.neg (by omega) (by simpa using Ev.now _)
 | succ j ih =>
  intro x11 h1 h2; have hp := ih (x11 ++ [rd x9 (((j + 1 : Nat) : Int) - 1)]) (by omega) (by simp; omega); refine Ev.succ ?_; simp only [zh0.l2]; refine Ev.pos (by omega) (Ev.pos (by omega) (Ev.pos (by omega) (Ev.pos (by omega) ?_))); rw [w64 (by omega) (by omega), show ((j + 1 : Nat) : Int) - 1 - 1 = (j : Int) - 1 by omega]
  have e : x11 ++ (x9.take (j + 1)).reverse = x11 ++ [rd x9 (((j + 1 : Nat) : Int) - 1)] ++ (x9.take j).reverse := by
   (have hj : j < x9.length := by omega); rw [show ((j + 1 : Nat) : Int) - 1 = (j : Int) by omega, rd_nat x9 j hj, ← List.take_append_getElem hj]; simp
  rw [e]; exact hp
/-- The ways to the states that were met. -/
structure Ways (x6 x7 : List Int) (P : List (List Int)) : Prop where
 len : P.length = x6.length
 frm : ∀ (q : Nat) p, P[q]? = some p → (rd x6 (q : Int) < 0 ∧ p = []) ∨ ∃ p', 0 ≤ rd x6 (q : Int) ∧ rd x6 (q : Int) < (q : Int) ∧ P[(rd x6 (q : Int)).toNat]? = some p' ∧ p = p' ++ [rd x7 (q : Int)]
theorem first_l1 (t s : Int) (ac : List Bool) (ns : List (List Int)) (x6 x7 : List Int) (h67 : x7.length = x6.length) {P : List (List Int)} (hP : Ways x6 x7 P) :
  ∀ (m i : Nat) (x9 p : List Int), i < m → P[i]? = some p → x9.length + i ≤ 2000000 → Ev (fun k => zh0.l1 k x6 x7 x9 (i : Int) t s ac ns) (p ++ x9.reverse, true, t, s) := by
 intro m
 induction m with
 | zero => intro i x9 p h; omega
 | succ m ih =>
  intro i x9 p him hp h9; (have hi : i < x6.length := by have := (List.getElem?_eq_some_iff.1 hp).1; have := hP.len; omega)
  rcases hP.frm i p hp with ⟨h, rfl⟩ | ⟨p', h1, h2, h3, rfl⟩
  ·have hp2 := first_l2 t s ac ns x9 (by omega) x9.length [] (by omega) (by simp; omega); refine Ev.succ ?_; simp only [zh0.l1]; refine Ev.pos (by omega) (Ev.pos (by omega) (Ev.neg (by omega) ?_)); rw [w64 (by omega) (by omega)]
   simpa using hp2
  ·have hp2 := ih (rd x6 (i : Int)).toNat (x9 ++ [rd x7 (i : Int)]) p' (by omega) h3 (by simp; omega); refine Ev.succ ?_; simp only [zh0.l1]; refine Ev.pos (by omega) (Ev.pos (by omega) (Ev.pos (by omega) (Ev.pos (by omega) (Ev.pos (by omega) ?_)))); rw [show (((rd x6 (i : Int)).toNat : Nat) : Int) = rd x6 (i : Int) by omega] at hp2; (have e : p' ++ [rd x7 (i : Int)] ++ x9.reverse = p' ++ (x9 ++ [rd x7 (i : Int)]).reverse := by simp); rw [e]; exact hp2
theorem ints_len : ∀ (n : Nat) (l : List Int), l.Nodup → (∀ v ∈ l, 0 ≤ v ∧ v < (n : Int)) → l.length ≤ n := by
 intro n l hn h
 have := X.nodup_len l ((List.range n).map fun (i : Nat) => (i : Int)) hn (fun v hv => by
  have := h v hv
  exact List.mem_map.2 ⟨v.toNat, by rw [List.mem_range]; omega, by omega⟩)
 simpa using this
theorem rdOf_set_same {x4 : List Bool} {v : Int} (h0 : 0 ≤ v) (h1 : v < (x4.length : Int)) : rdOf false (x4.set v.toNat true) v = true := by
 (have : v.toNat < x4.length := by omega); simp [rdOf, List.getD_eq_getElem?_getD, List.getElem?_set, this]
theorem rdOf_set_other {x4 : List Bool} {u v : Int} (h0 : 0 ≤ v) (u0 : 0 ≤ u) (h : u ≠ v) : rdOf false (x4.set u.toNat true) v = rdOf false x4 v := by
 (have : u.toNat ≠ v.toNat := by omega); simp [rdOf, List.getD_eq_getElem?_getD, List.getElem?_set, this]
theorem rd_app_lt {l d : List Int} {i : Nat} (h : i < l.length) : rd (l ++ d) (i : Int) = rd l (i : Int) := by
 simp [rd, List.getD_eq_getElem?_getD, List.getElem?_append_left h]
theorem rd_app_end {l : List Int} {y : Int} : rd (l ++ [y]) ((l.length : Nat) : Int) = y := by simp [rd, List.getD_eq_getElem?_getD]
theorem runT_snoc (ns : List (List Int)) (c : Int) : ∀ (u : List Int) (q : Int), runT ns q (u ++ [c]) = stp ns (runT ns q u) c := by
 intro u
 induction u with
 | nil => intro q; rfl
 | cons b u ih => intro q; exact ih _
theorem inW_snoc {W : Nat} {u : List Int} {c : Int} : inW W (u ++ [c]) = true ↔ inW W u = true ∧ 0 ≤ c ∧ c < (W : Int) := by
 simp [inW, List.all_append]
/-- Behind i whole rows and j columns of the next. -/
def Done (W i j : Nat) (q c : Nat) : Prop := c < W ∧ (q < i ∨ (q = i ∧ c < j))
structure BP (W n : Nat) (ns : List (List Int)) (i j : Nat) (x4 : List Bool) (x5 x6 x7 : List Int) (P : List (List Int)) : Prop where
 l4 : x4.length = n
 l6 : x6.length = x5.length
 l7 : x7.length = x5.length
 rng : ∀ v ∈ x5, 0 ≤ v ∧ v < (n : Int)
 nod : x5.Nodup
 seen : ∀ v : Int, 0 ≤ v → v < (n : Int) → (rdOf false x4 v = true ↔ v ∈ x5)
 ways : Ways x6 x7 P
 root : P[0]? = some []
 run : ∀ (q : Nat) p, P[q]? = some p → inW W p = true ∧ runT ns 0 p = rd x5 (q : Int)
 ord : ∀ (q r : Nat) p p', q < r → P[q]? = some p → P[r]? = some p' → llt p p'
 made : ∀ (q : Nat) p, P[q]? = some p → p = [] ∨ ∃ (r c : Nat) (p' : List Int), P[r]? = some p' ∧ p = p' ++ [(c : Int)] ∧ Done W i j r c
 cov : ∀ q c : Nat, Done W i j q c → ∀ pq, P[q]? = some pq → ∃ (r : Nat) (p : List Int), P[r]? = some p ∧ rd x5 (r : Int) = stp ns (rd x5 (q : Int)) (c : Int) ∧ lle p (pq ++ [(c : Int)])
section
variable {W n : Nat} {ac : List Bool} {ns : List (List Int)} {t s : Int} {i j : Nat} {x4 : List Bool} {x5 x6 x7 : List Int} {P : List (List Int)}
theorem BP.plen (h : BP W n ns i j x4 x5 x6 x7 P) : P.length = x5.length := h.ways.len.trans h.l6
theorem BP.skip (h : BP W n ns i j x4 x5 x6 x7 P) (hj : j < W) {r : Nat} {p pi : List Int} (hi : P[i]? = some pi) (hr : P[r]? = some p) (he : rd x5 (r : Int) = stp ns (rd x5 (i : Int)) (j : Int)) : BP W n ns i (j + 1) x4 x5 x6 x7 P := by
 refine ⟨h.l4, h.l6, h.l7, h.rng, h.nod, h.seen, h.ways, h.root, h.run, h.ord, fun q p hq => ?_, fun q c hd pq hq => ?_⟩
 ·rcases h.made q p hq with e | ⟨r, c, p', h1, h2, h3, h4⟩
  ·exact .inl e
  ·exact .inr ⟨r, c, p', h1, h2, h3, by omega⟩
 ·by_cases e : q = i ∧ c = j
  ·obtain ⟨rfl, rfl⟩ := e; rw [hi] at hq; obtain rfl := Option.some.inj hq; refine ⟨r, p, hr, he, ?_⟩
   rcases h.made r p hr with e | ⟨r', c', p', h1, h2, h3, h4⟩
   ·rw [e]; exact .inr (.inl (by simp))
   ·rw [h2]
    rcases h4 with h4 | ⟨h4, h5⟩
    ·exact .inr (llt_snoc (h.ord _ _ _ _ h4 h1 hi) _ _)
    ·subst h4; rw [hi] at h1; obtain rfl := Option.some.inj h1; exact .inr (llt_last _ (by omega))
  ·exact h.cov q c ⟨hd.1, by have := hd.2; omega⟩ pq hq
theorem BP.push (h : BP W n ns i j x4 x5 x6 x7 P) (hj : j < W) {pi : List Int} (hi : P[i]? = some pi) {v : Int} (hv : v = stp ns (rd x5 (i : Int)) (j : Int)) (v0 : 0 ≤ v) (v1 : v < (n : Int)) (hx : ¬ rdOf false x4 v = true) :
  BP W n ns i (j + 1) (x4.set v.toNat true) (x5 ++ [v]) (x6 ++ [(i : Int)]) (x7 ++ [(j : Int)]) (P ++ [pi ++ [(j : Int)]]) := by
 have hnew : v ∉ x5 := fun hm => hx ((h.seen v v0 v1).2 hm); have hpl := h.plen; have hil : i < P.length := (List.getElem?_eq_some_iff.1 hi).1; have h6 := h.l6; have h7 := h.l7
 have old : ∀ {q : Nat} {p : List Int}, P[q]? = some p → (P ++ [pi ++ [(j : Int)]])[q]? = some p := fun {q p} hq => by
  rw [List.getElem?_append_left (List.getElem?_eq_some_iff.1 hq).1]; exact hq
 have cases_ : ∀ {q : Nat} {p : List Int}, (P ++ [pi ++ [(j : Int)]])[q]? = some p → (q < P.length ∧ P[q]? = some p) ∨ (q = P.length ∧ p = pi ++ [(j : Int)]) := fun {q p} hq => by
  by_cases e : q < P.length
  ·rw [List.getElem?_append_left e] at hq; exact .inl ⟨e, hq⟩
  ·(have hq2 : q = P.length := by have := (List.getElem?_eq_some_iff.1 hq).1; simp at this; omega); subst hq2; simp at hq; exact .inr ⟨rfl, hq.symm⟩
 refine ⟨by simp [h.l4], by simp [h.l6], by simp [h.l7], ?_, ?_, ?_, ⟨by simp; have := h.ways.len; omega, ?_⟩, old h.root, ?_, ?_, ?_, ?_⟩
 ·intro u hu
  rcases List.mem_append.1 hu with hu | hu
  ·exact h.rng u hu
  ·simp at hu; subst hu; exact ⟨v0, v1⟩
 ·exact List.nodup_append.2 ⟨h.nod, by simp, fun a ha b hb => by simp at hb; subst hb; exact fun he => hnew (he ▸ ha)⟩
 ·intro u u0 u1; by_cases e : v = u
  ·subst e; rw [rdOf_set_same v0 (by rw [h.l4]; exact v1)]; simp
  ·rw [rdOf_set_other u0 v0 e, h.seen u u0 u1]; simp only [List.mem_append, List.mem_singleton]; exact ⟨fun h => .inl h, fun h => h.elim id (fun h => absurd h.symm e)⟩
 ·intro q p hq
  rcases cases_ hq with ⟨e, hq⟩ | ⟨rfl, rfl⟩
  ·rw [rd_app_lt (by omega), rd_app_lt (by omega)]
   rcases h.ways.frm q p hq with h1 | ⟨p', h1, h2, h3, h4⟩
   ·exact .inl h1
   ·exact .inr ⟨p', h1, h2, old h3, h4⟩
  ·(have e1 : rd (x6 ++ [(i : Int)]) ((P.length : Nat) : Int) = (i : Int) := by rw [show P.length = x6.length by omega]; exact rd_app_end); (have e2 : rd (x7 ++ [(j : Int)]) ((P.length : Nat) : Int) = (j : Int) := by rw [show P.length = x7.length by omega]; exact rd_app_end); rw [e1, e2]; exact .inr ⟨pi, by omega, by omega, by rw [Int.toNat_natCast]; exact old hi, rfl⟩
 ·intro q p hq
  rcases cases_ hq with ⟨e, hq⟩ | ⟨rfl, rfl⟩
  ·rw [rd_app_lt (by omega)]; exact h.run q p hq
  ·obtain ⟨r1, r2⟩ := h.run i pi hi; rw [runT_snoc, r2, hpl, rd_app_end]; exact ⟨inW_snoc.2 ⟨r1, by omega, by omega⟩, hv.symm⟩
 ·intro q r p p' hqr hq hr
  rcases cases_ hr with ⟨e, hr⟩ | ⟨rfl, rfl⟩
  ·rcases cases_ hq with ⟨e', hq⟩ | ⟨rfl, rfl⟩
   ·exact h.ord q r p p' hqr hq hr
   ·omega
  ·rcases cases_ hq with ⟨e', hq⟩ | ⟨rfl, rfl⟩
   ·rcases h.made q p hq with e | ⟨r', c', p', h1, h2, h3, h4⟩
    ·rw [e]; exact .inl (by simp)
    ·rw [h2]
     rcases h4 with h4 | ⟨h4, h5⟩
     ·exact llt_snoc (h.ord _ _ _ _ h4 h1 hi) _ _
     ·subst h4; rw [hi] at h1; obtain rfl := Option.some.inj h1; exact llt_last _ (by omega)
   ·omega
 ·intro q p hq
  rcases cases_ hq with ⟨e, hq⟩ | ⟨rfl, rfl⟩
  ·rcases h.made q p hq with e | ⟨r, c, p', h1, h2, h3, h4⟩
   ·exact .inl e
   ·exact .inr ⟨r, c, p', old h1, h2, h3, by omega⟩
  ·exact .inr ⟨i, j, pi, old hi, rfl, hj, by omega⟩
 ·intro q c hd pq hq; (have hql : q < P.length := by have := hd.2; omega); rw [List.getElem?_append_left hql] at hq; rw [rd_app_lt (l := x5) (i := q) (by omega)]; by_cases e : q = i ∧ c = j
  ·obtain ⟨rfl, rfl⟩ := e; rw [hi] at hq; obtain rfl := Option.some.inj hq; exact ⟨P.length, pi ++ [(c : Int)], by simp, by rw [hpl, rd_app_end]; exact hv, .inl rfl⟩
  ·obtain ⟨r, p, h1, h2, h3⟩ := h.cov q c ⟨hd.1, by have := hd.2; omega⟩ pq hq; have hrl := (List.getElem?_eq_some_iff.1 h1).1; exact ⟨r, p, old h1, by rw [rd_app_lt (by omega)]; exact h2, h3⟩
theorem BP.row (h : BP W n ns i W x4 x5 x6 x7 P) : BP W n ns (i + 1) 0 x4 x5 x6 x7 P := by
 refine ⟨h.l4, h.l6, h.l7, h.rng, h.nod, h.seen, h.ways, h.root, h.run, h.ord, fun q p hq => ?_, fun q c hd pq hq => ?_⟩
 ·rcases h.made q p hq with e | ⟨r, c, p', h1, h2, h3, h4⟩
  ·exact .inl e
  ·exact .inr ⟨r, c, p', h1, h2, h3, by omega⟩
 ·exact h.cov q c ⟨hd.1, by have := hd.1; have := hd.2; omega⟩ pq hq
/-- Every list leads to a state that was met on a way that is not greater, or goes on behind one of those not looked at yet. -/
theorem BP.all (h : BP W n ns i 0 x4 x5 x6 x7 P) : ∀ u : List Int, inW W u = true → (∃ (r : Nat) (p : List Int), P[r]? = some p ∧ rd x5 (r : Int) = runT ns 0 u ∧ lle p u) ∨ ∃ (r : Nat) (p : List Int), i ≤ r ∧ P[r]? = some p ∧ lle p u := by
 apply snoc_induct
 ·intro _; have := h.run 0 [] h.root; exact .inl ⟨0, [], h.root, this.2.symm, .inl rfl⟩
 ·intro u c ih hw; obtain ⟨w1, c0, c1⟩ := inW_snoc.1 hw
  rcases ih w1 with ⟨r, p, h1, h2, h3⟩ | ⟨r, p, hr, h1, h3⟩
  ·by_cases e : r < i
   ·obtain ⟨r', p', g1, g2, g3⟩ := h.cov r c.toNat ⟨by omega, .inl e⟩ p h1; rw [show ((c.toNat : Nat) : Int) = c by omega] at g2 g3; exact .inl ⟨r', p', g1, by rw [g2, runT_snoc, h2], lle_trans g3 (lle_snoc h3 c)⟩
   ·exact .inr ⟨r, p, by omega, h1, lle_trans h3 (.inr (llt_more u c))⟩
  ·exact .inr ⟨r, p, hr, h1, lle_trans h3 (.inr (llt_more u c))⟩
/-- The first list that is taken, or that there is none. -/
def FirstRes (W : Nat) (t s : Int) (ac : List Bool) (ns : List (List Int)) (g : Nat → Option (List Int × Bool × Int × Int)) : Prop := ∃ p b, Ev g (p, b, t, s) ∧ ((b = true ∧ Least (Tk W ac ns 0) p) ∨ (b = false ∧ p = [] ∧ ∀ u, ¬ Tk W ac ns 0 u))
theorem FirstRes.succ {g : Nat → Option (List Int × Bool × Int × Int)} (h : FirstRes W t s ac ns (fun k => g (k + 1))) : FirstRes W t s ac ns g := by
 obtain ⟨p, b, h1, h2⟩ := h; exact ⟨p, b, Ev.succ h1, h2⟩
theorem FirstRes.pos {c : Prop} [Decidable c] {f g : Nat → Option (List Int × Bool × Int × Int)} (hc : c) (h : FirstRes W t s ac ns f) : FirstRes W t s ac ns (fun k => if c then f k else g k) := by
 obtain ⟨p, b, h1, h2⟩ := h; exact ⟨p, b, Ev.pos hc h1, h2⟩
theorem FirstRes.neg {c : Prop} [Decidable c] {f g : Nat → Option (List Int × Bool × Int × Int)} (hc : ¬ c) (h : FirstRes W t s ac ns g) : FirstRes W t s ac ns (fun k => if c then f k else g k) := by
 obtain ⟨p, b, h1, h2⟩ := h; exact ⟨p, b, Ev.neg hc h1, h2⟩
/-- None of those that were looked at takes. -/
def Looked (ac : List Bool) (x5 : List Int) (m : Nat) : Prop := ∀ i : Nat, i < m → rdOf false ac (rd x5 (i : Int)) = false
theorem looked_none (hB : BP W n ns x5.length 0 x4 x5 x6 x7 P) (hL : Looked ac x5 x5.length) : ∀ u, ¬ Tk W ac ns 0 u := by
 rintro u ⟨hw, ht⟩
 rcases hB.all u hw with ⟨r, p, h1, h2, h3⟩ | ⟨r, p, hr, h1, h3⟩
 ·(have hr : r < x5.length := by have := (List.getElem?_eq_some_iff.1 h1).1; have := hB.plen; omega); have := hL r hr; rw [h2, ht] at this; cases this
 ·have := (List.getElem?_eq_some_iff.1 h1).1; have := hB.plen; omega
theorem looked_found (hB : BP W n ns i 0 x4 x5 x6 x7 P) (hL : Looked ac x5 i) {p : List Int} (hp : P[i]? = some p) (ha : rdOf false ac (rd x5 (i : Int)) = true) : Least (Tk W ac ns 0) p := by
 obtain ⟨r1, r2⟩ := hB.run i p hp; refine ⟨⟨r1, by rw [r2]; exact ha⟩, ?_⟩; rintro u ⟨hw, ht⟩
 have far : ∀ (r : Nat) (p' : List Int), i ≤ r → P[r]? = some p' → lle p' u → lle p u := by
  intro r p' hr h1 h3; by_cases e : i = r
  ·subst e; rw [hp] at h1; obtain rfl := Option.some.inj h1; exact h3
  ·exact lle_trans (.inr (hB.ord i r p p' (by omega) hp h1)) h3
 rcases hB.all u hw with ⟨r, p', h1, h2, h3⟩ | ⟨r, p', hr, h1, h3⟩
 ·by_cases e : r < i
  ·have := hL r e; rw [h2, ht] at this; cases this
  ·exact far r p' (by omega) h1 h3
 ·exact far r p' hr h1 h3
theorem first_l0 (hT : TableOK W n ns) (hn : ac.length = n) (hn2 : n ≤ 2000000) (hW : W ≤ 1000) : ∀ (d i : Nat) (x4 : List Bool) (x5 x6 x7 : List Int) (P : List (List Int)), i + d = n → i ≤ x5.length → BP W n ns i 0 x4 x5 x6 x7 P → Looked ac x5 i →
  FirstRes W t s ac ns (fun k => zh0.l0 k x4 x5 x6 x7 (i : Int) t s ac ns) := by
 intro d
 induction d with
 | zero =>
  intro i x4 x5 x6 x7 P hi hle hB hL; have hlen := ints_len n x5 hB.nod hB.rng; (have e : i = x5.length := by omega); subst e; refine FirstRes.succ ?_; simp only [zh0.l0]; refine FirstRes.neg (by omega) ⟨[], false, Ev.now _, .inr ⟨rfl, rfl, looked_none hB hL⟩⟩
 | succ d ih =>
  intro i x4 x5 x6 x7 P hi hle hB hL; have hlen := ints_len n x5 hB.nod hB.rng; refine FirstRes.succ ?_; simp only [zh0.l0]; by_cases c : i < x5.length
  ·have hr := hB.rng _ (X.rd_mem c); obtain ⟨pi, hpi⟩ : ∃ pi, P[i]? = some pi := ⟨_, List.getElem?_eq_getElem (by have := hB.plen; omega)⟩; refine FirstRes.pos (by omega) (FirstRes.pos (by omega) (FirstRes.pos (by omega) (FirstRes.pos (by omega) ?_))); by_cases ca : rdOf false ac (rd x5 (i : Int)) = true
   ·have hp := first_l1 t s ac ns x6 x7 (by rw [hB.l7, hB.l6]) hB.ways (i + 1) i [] pi (by omega) hpi (by simp; omega); rw [List.reverse_nil, List.append_nil] at hp; exact FirstRes.pos ca ⟨pi, true, hp, .inl ⟨rfl, looked_found hB hL hpi ca⟩⟩
   ·refine FirstRes.neg ca ?_; have hrow := hT.row hr.1 hr.2; have hrl := (hT.2 _ hrow).1
    -- the row of the state
    have inner : ∀ (e j : Nat) (y4 : List Bool) (y5 y6 y7 : List Int) (Q : List (List Int)), j + e = W → BP W n ns i j y4 y5 y6 y7 Q → Looked ac y5 i → i < y5.length → rd y5 (i : Int) = rd x5 (i : Int) → Q[i]? = some pi →
      FirstRes W t s ac ns (fun k => zh0.l3 k y4 y5 y6 y7 (i : Int) (j : Int) t s ac ns) := by
     intro e
     induction e with
     | zero =>
      intro j y4 y5 y6 y7 Q hj hB' hL' hi' hre hqi; refine FirstRes.succ ?_; simp only [zh0.l3]; (have hrl2 : (rd_L2 ns (rd y5 (i : Int))).length = W := by rw [hre]; exact hrl); refine FirstRes.pos (by omega) (FirstRes.pos (by omega) (FirstRes.pos (by omega) (FirstRes.pos (by rw [hT.1]; omega) (FirstRes.neg (by omega) ?_)))); rw [w64 (by omega) (by omega), show (i : Int) + 1 = ((i + 1 : Nat) : Int) by omega]; (have hjW : j = W := by omega); subst hjW; refine ih (i + 1) _ _ _ _ _ (by omega) (by omega) hB'.row (fun q hq => ?_); by_cases eq : q < i
      ·exact hL' q eq
      ·(have : q = i := by omega); subst this; rw [hre]
       simpa using ca
     | succ e ihe =>
      intro j y4 y5 y6 y7 Q hj hB' hL' hi' hre hqi; refine FirstRes.succ ?_; simp only [zh0.l3]; (have hrl2 : (rd_L2 ns (rd y5 (i : Int))).length = W := by rw [hre]; exact hrl); have hst := hT.stpd hr.1 hr.2 (c := (j : Int)) (by omega) (by omega); (have hse : rd (rd_L2 ns (rd y5 (i : Int))) (j : Int) = stp ns (rd x5 (i : Int)) (j : Int) := by rw [hre]; rfl); have hlen' := ints_len n y5 hB'.nod hB'.rng; have h6 := hB'.l6; have h7 := hB'.l7; have h4 := hB'.l4; rw [hse]; refine FirstRes.pos (by omega) (FirstRes.pos (by omega) (FirstRes.pos (by omega) (FirstRes.pos (by rw [hT.1]; omega) (FirstRes.pos (by omega) (FirstRes.pos (by omega) (FirstRes.pos hst.1 (FirstRes.pos (by omega) ?_))))))); rw [w64 (by omega) (by omega), show (j : Int) + 1 = ((j + 1 : Nat) : Int) by omega]; by_cases cs : rdOf false y4 (stp ns (rd x5 (i : Int)) (j : Int)) = true
      ·obtain ⟨r, hr1, hr2⟩ := List.getElem_of_mem ((hB'.seen _ hst.1 hst.2).1 cs); obtain ⟨pr, hpr⟩ : ∃ p, Q[r]? = some p := ⟨_, List.getElem?_eq_getElem (by have := hB'.plen; omega)⟩; exact FirstRes.pos cs (ihe (j + 1) _ _ _ _ _ (by omega) (hB'.skip (by omega) hqi hpr (by rw [rd_nat y5 r hr1, hr2, hre])) hL' hi' hre hqi)
      ·refine FirstRes.neg cs (FirstRes.pos (by omega) (FirstRes.pos (by omega) (FirstRes.pos (by omega) ?_))); refine ihe (j + 1) _ _ _ _ _ (by omega) (hB'.push (by omega) hqi (by rw [hre]) hst.1 hst.2 cs) (fun q hq => ?_) (by simp; omega) (by rw [rd_app_lt hi']; exact hre) (by rw [List.getElem?_append_left (List.getElem?_eq_some_iff.1 hqi).1]; exact hqi); rw [rd_app_lt (by omega)]; exact hL' q hq
    exact inner W 0 x4 x5 x6 x7 P (by omega) hB hL c rfl hpi
  ·(have e : i = x5.length := by omega); subst e; exact FirstRes.neg (by omega) ⟨[], false, Ev.now _, .inr ⟨rfl, rfl, looked_none hB hL⟩⟩
theorem first_ev (hT : TableOK W n ns) (hn : ac.length = n) (hn2 : n ≤ 2000000) (h0 : 0 < n) (hW : W ≤ 1000) : FirstRes W t 0 ac ns (fun k => zh0.f k t 0 ac ns) := by
 have hB : BP W n ns 0 0 ((List.replicate n false).set 0 true) [0] [-1] [0] [[]] := by
  have one : ∀ {q : Nat} {p : List Int}, [([] : List Int)][q]? = some p → q = 0 ∧ p = [] := fun {q p} h => by
   cases q with
   | zero => simp at h; exact ⟨rfl, h⟩
   | succ q => simp at h
  refine ⟨by simp, rfl, rfl, by simp; omega, by simp, fun v v0 v1 => ?_, ⟨rfl, fun q p hq => ?_⟩, rfl, fun q p hq => ?_, fun q r p p' hqr hq hr => ?_, fun q p hq => .inl (one hq).2, fun q c hd => ?_⟩
  ·by_cases e : v = 0
   ·subst e; simp; exact rdOf_set_same (x4 := List.replicate n false) (v := 0) (by omega) (by simp; omega)
   ·have h2 := rdOf_set_other (x4 := List.replicate n false) (u := 0) (v := v) v0 (by omega) (fun h => e h.symm); rw [show (0 : Int).toNat = 0 from rfl] at h2; rw [h2]; simp [e, rdOf, List.getD_eq_getElem?_getD, List.getElem?_replicate]
    split <;> simp
  ·obtain ⟨rfl, rfl⟩ := one hq; exact .inl ⟨by decide, rfl⟩
  ·obtain ⟨rfl, rfl⟩ := one hq; exact ⟨rfl, rfl⟩
  ·have := (one hr).1; omega
  ·have := hd.2; omega
 have := first_l0 (t := t) (s := 0) hT hn hn2 hW n 0 _ _ _ _ _ (by omega) (by omega) hB (fun i hi => by omega); unfold zh0.f; refine FirstRes.pos (by omega) (FirstRes.pos (by omega) ?_); simp only [Option.bind_some, Int.toNat_natCast]; refine FirstRes.pos (by omega) (FirstRes.pos (by simp; omega) ?_); rw [hn]; exact this
end
theorem contains_l0 (ac : List Bool) (hn : ac.length ≤ 2000000) (d : Nat) : ∀ i : Nat, i + d = ac.length → ∃ j : Int, Ev (fun k => zj0.l0 k ac true (ac.length : Int) (i : Int)) j ∧ (0 ≤ j ↔ true ∈ ac.drop i) := by
 induction d with
 | zero =>
  intro i hi; refine ⟨-1, Ev.succ ?_, ?_⟩
  ·simp only [zj0.l0]; exact Ev.neg (by omega) (Ev.now _)
  ·rw [List.drop_of_length_le (by omega)]; simp
 | succ d ih =>
  intro i hi; obtain ⟨j, h1, h2⟩ := ih (i + 1) (by omega); by_cases c : ac[i] = true
  ·refine ⟨(i : Int), Ev.succ ?_, ?_⟩
   ·simp only [zj0.l0]; refine Ev.pos (by omega) (Ev.pos (by omega) (Ev.pos (by omega) (Ev.pos ?_ (Ev.now _)))); rw [rdOf_nat false ac i (by omega), c]; rfl
   ·rw [List.drop_eq_getElem_cons (by omega), c]; simp
  ·refine ⟨j, Ev.succ ?_, ?_⟩
   ·simp only [zj0.l0]; refine Ev.pos (by omega) (Ev.pos (by omega) (Ev.pos (by omega) (Ev.neg ?_ ?_)))
    ·rw [rdOf_nat false ac i (by omega)]; simpa using c
    ·rw [w64 (by omega) (by omega)]; exact h1
   ·rw [h2, List.drop_eq_getElem_cons (show i < ac.length by omega)]; rw [Bool.not_eq_true] at c; rw [c]; simp
theorem isEmpty_ev (t s : Int) (ac : List Bool) (ns : List (List Int)) (hn : ac.length ≤ 2000000) : ∃ b, Ev (fun k => ym0.f k t s ac ns) (!b) ∧ (b = true ↔ true ∈ ac) := by
 obtain ⟨j, h1, h2⟩ := contains_l0 ac hn ac.length 0 (by omega); refine ⟨decide (j ≥ 0), ?_, ?_⟩
 ·unfold ym0.f zz0.f zj0.f; exact Ev.bind (Ev.bind h1 (Ev.now _)) (Ev.now _)
 ·rw [decide_eq_true_iff]; exact h2
theorem stp_get {ns : List (List Int)} {i j : Nat} {row : List Int} {x : Int} (h : ns[i]? = some row) (h2 : row[j]? = some x) : stp ns (i : Int) (j : Int) = x := by
 simp [stp, rd, List.getD_eq_getElem?_getD, h, h2]
theorem rdOf_true_mem {ac : List Bool} {i : Int} (h0 : 0 ≤ i) (h1 : i < (ac.length : Int)) (h : rdOf false ac i = true) : true ∈ ac := by
 (have : i.toNat < ac.length := by omega); simp only [rdOf, List.getD_eq_getElem?_getD, List.getElem?_eq_getElem this, Option.getD_some] at h; rw [← h]; exact List.getElem_mem this
theorem met_reach {W n : Nat} {ns : List (List Int)} (hM : Met W n ns) : ∀ m q : Nat, q < m → q < n → ∃ u, inW W u = true ∧ runT ns 0 u = (q : Int) := by
 intro m
 induction m with
 | zero => intro q h; omega
 | succ m ih =>
  intro q hqm hqn; by_cases e : q = 0
  ·subst e; exact ⟨[], rfl, rfl⟩
  ·obtain ⟨i, row, j, h1, h2, h3, h4⟩ := hM q (by omega) hqn; obtain ⟨u, hu, hr⟩ := ih i (by omega) (by omega); refine ⟨u ++ [(j : Int)], inW_snoc.2 ⟨hu, by omega, by omega⟩, ?_⟩; rw [runT_snoc, hr, stp_get h2 h4]
theorem met_taken {W n : Nat} {ac : List Bool} {ns : List (List Int)} (hT : TableOK W n ns) (hn : ac.length = n) (h0 : 0 < n) (hM : Met W n ns) : true ∈ ac ↔ ∃ u, Tk W ac ns 0 u := by
 constructor
 ·intro hm; obtain ⟨i, hi, he⟩ := List.getElem_of_mem hm; obtain ⟨u, hu, hr⟩ := met_reach hM (i + 1) i (by omega) (by omega); refine ⟨u, hu, ?_⟩; rw [hr, rdOf_nat false ac i hi, he]
 ·rintro ⟨u, hu, ha⟩; have := runT_range hT u 0 hu (by omega) (by omega); exact rdOf_true_mem this.1 (by omega) ha
theorem paired_both {f : Bool → Bool → Bool} {fa : Bool × Bool → Option Bool} (hfa : ∀ a b, fa (a, b) = some (f a b)) {t s : Int} {ac : List Bool} {ns : List (List Int)} {t' s' : Int} {ac' : List Bool} {ns' : List (List Int)} (h : SzOK ac ns) (h' : SzOK ac' ns') (c : twoR t s ac ns t' s' ac' ns' = 0) :
  ∃ (n : Nat) (r r' q : List Bool × List (List Int)), t = (n : Int) ∧ 1 ≤ n ∧ n ≤ 3 ∧ TidyIs n s ac ns r ∧ TidyIs n s' ac' ns' r' ∧ TabsOK 0 r.1 r.2 0 r'.1 r'.2 ∧
   Ev (fun k => yw0.f k t s ac ns) (t, 0, r.1, r.2) ∧ Ev (fun k => yw0.f k t' s' ac' ns') (t, 0, r'.1, r'.2) ∧
   Ev (fun k => pairedF k fa t s ac ns t' s' ac' ns') (t, 0, q.1, q.2) ∧
   TableOK (wd n) q.1.length q.2 ∧ 0 < q.1.length ∧ q.1.length ≤ 1900000 ∧ Met (wd n) q.1.length q.2 ∧
   TableOK (wd n) (pairA f r.1 r'.1).length (pairN (r'.1.length : Int) r.2 r'.2) ∧ 0 < (pairA f r.1 r'.1).length ∧ (pairA f r.1 r'.1).length ≤ 1900000 ∧
   (∀ w, inW (wd n) w = true → rdOf false (pairA f r.1 r'.1) (runT (pairN (r'.1.length : Int) r.2 r'.2) 0 w) = f (rdOf false r.1 (runT r.2 0 w)) (rdOf false r'.1 (runT r'.2 0 w))) ∧
   ∀ w, Tk (wd n) q.1 q.2 0 w ↔ Tk (wd n) (pairA f r.1 r'.1) (pairN (r'.1.length : Int) r.2 r'.2) 0 w := by
 obtain ⟨hv, hv', rfl⟩ := two_parts c; obtain ⟨n, r, rfl, h1, h3, s0, s1, hT, hl, hr, d1, d2, d3, eI, eS⟩ := tidy_both h hv; obtain ⟨n', r', hnn, h1', h3', s0', s1', hT', hl', hr', d1', d2', d3', eI', eS'⟩ := tidy_both h' hv'; (obtain rfl : n = n' := by omega); have hW := wd_le n h3; have hz := tidy_size h3 (by omega) s0 s1 hT hr; have hz' := tidy_size h3 (by omega) s0' s1' hT' hr'; have hTabs : TabsOK 0 r.1 r.2 0 r'.1 r'.2 := ⟨wd n, by omega, d1, d1', by omega, by omega, by omega, by omega, by omega, by omega⟩; have hm : r.1.length * r'.1.length ≤ 1201 * 1201 := Nat.mul_le_mul (by omega) (by omega); obtain ⟨xT, xP⟩ := pairs_table (f := f) d1 d1'; have xl := qa0 f r.1 r'.1; have xpos : 0 < r.1.length * r'.1.length := Nat.mul_pos d2 d2'
 have grown := fun (k : Nat) (hk : 1900002 ≤ k) => pairs_grown (f := f) (acc := accQ fa r.1 r'.1) (next := nextQ r.2 r'.2) d1 d1' (by omega) d2 d2' (by omega) (by omega)
  (fun i k i0 i1 k0 k1 => by unfold accQ; simp only; rw [at1_in i0 i1, Option.bind_some, at1_in k0 k1, Option.bind_some, hfa])
  (fun i k c i0 i1 k0 k1 c0 c1 => by
   unfold nextQ; have l1 := (d1.2 _ (d1.row i0 i1)).1; have l2 := (d1'.2 _ (d1'.row k0 k1)).1; (have g1 : i < (r.2.length : Int) := by have := d1.1; omega); (have g2 : k < (r'.2.length : Int) := by have := d1'.1; omega); simp only; rw [at1_in i0 g1, Option.bind_some]; show ((at1 0 (r.2.getD i.toNat []) c).bind _) = _; rw [at1_in c0 (by omega), Option.bind_some, at1_in k0 g2, Option.bind_some]; show ((at1 0 (r'.2.getD k.toNat []) c).bind _) = _; rw [at1_in c0 (by omega), Option.bind_some]
   rfl) (n := k) (by omega)
 obtain ⟨q, hq, qT, q0, q1, qL⟩ := grown 1900002 (Nat.le_refl _)
 have hgr : Ev (fun k => growL good2 (accQ fa r.1 r'.1) (nextQ r.2 r'.2) (wd n) k [(0, 0)] [] []) q := ⟨1900002, fun k hk => by
  obtain ⟨q2, hq2, -⟩ := grown k hk
  exact hq2.trans (congrArg some (growL_same hq2 hq))⟩
 have qM : Met (wd n) q.1.length q.2 := growL_met _ _ _ _ _ rfl (by simp) (fun x x1 x2 => by simp at x2; omega) hq; have hwid : Ev (fun k => zo0.f k (n : Int)) ((wd n : Nat) : Int) := ⟨10, fun k hk => atk (k := 10) (fun k => zo0.mono _ k) hk (wideI_fin ⟨n, by omega⟩)⟩
 have hacc : ∀ w, inW (wd n) w = true → rdOf false (pairA f r.1 r'.1) (runT (pairN (r'.1.length : Int) r.2 r'.2) 0 w) = f (rdOf false r.1 (runT r.2 0 w)) (rdOf false r'.1 (runT r'.2 0 w)) := fun w hw => by
  have e := pair_acc d1 d1' xP hw (i := 0) (k := 0) (by omega) (by omega) (by omega) (by omega); rw [Int.zero_mul, Int.zero_add] at e; exact e
 refine ⟨n, r, r', q, rfl, h1, h3, hr, hr', hTabs, eS, eS', ?_, qT, q0, q1, qM, xT, by omega, by omega, hacc, fun w => ?_⟩
 ·unfold pairedF; refine Ev.bind eI (Ev.bind eI' (Ev.bind hwid (Ev.pos ⟨⟨by omega, by omega⟩, by show good2 (0, 0) = true; decide⟩ ?_))); simp only [Int.toNat_natCast]; exact Ev.bind hgr (Ev.now _)
 ·unfold Tk; constructor
  ·rintro ⟨a, b⟩; exact ⟨a, by rw [hacc w a, ← qL w a]; exact b⟩
  ·rintro ⟨a, b⟩; exact ⟨a, by rw [qL w a, ← hacc w a]; exact b⟩
open Classical in
theorem contained_both {t s : Int} {ac : List Bool} {ns : List (List Int)} {t' s' : Int} {ac' : List Bool} {ns' : List (List Int)} (h : SzOK ac ns) (h' : SzOK ac' ns') :
  ∃ b c, Ev (fun k => xd0.f k t s ac ns t' s' ac' ns') (b, c) ∧ Ev (fun k => xe0.f k t s ac ns t' s' ac' ns') (b, c) := by
 have e1 := spec_two_ev (t := t) (s := s) (t' := t') (s' := s') h h'; have e2 := impl_two_ev (t := t) (s := s) (t' := t') (s' := s') h h'; by_cases c : twoR t s ac ns t' s' ac' ns' = 0
 ·obtain ⟨n, r, r', q, rfl, h1, h3, hr, hr', hTabs, eS, eS', eP, qT, q0, q1, qM, xT, x0, x1, hacc, hsame⟩ := paired_both (f := pairF 3) (fa := fun x => some (x.1 && !x.2)) (fun a b => by simp [pairF]) h h' c; have hW := wd_le n h3; obtain ⟨p, fb, hp, hc⟩ := first_ev (t := (n : Int)) xT rfl (by omega) x0 (by omega); obtain ⟨b', he, hb'⟩ := isEmpty_ev (n : Int) 0 q.1 q.2 (by omega)
  have hbf : fb = b' := by
   rw [met_taken qT rfl q0 qM] at hb'
   rcases hc with ⟨rfl, hL⟩ | ⟨rfl, rfl, hN⟩
   ·exact (hb'.2 ⟨p, (hsame p).2 hL.1⟩).symm
   ·cases b' with
    | false => rfl
    | true => obtain ⟨u, hu⟩ := hb'.1 rfl; exact absurd ((hsame u).1 hu) (hN u)
  subst hbf; refine ⟨!fb, 0, ?_, ?_⟩
  ·unfold xd0.f; refine Ev.bind e1 (Ev.pos c (Ev.bind eS (Ev.bind eS' (Ev.pos hTabs ?_)))); simp only [Int.zero_mul, Int.zero_add]; exact Ev.bind hp (Ev.now _)
  ·unfold xe0.f; exact Ev.bind e2 (Ev.pos c (Ev.bind eP (Ev.bind he (Ev.now _))))
 ·refine ⟨false, twoR t s ac ns t' s' ac' ns', ?_, ?_⟩
  ·unfold xd0.f; exact Ev.bind e1 (Ev.neg c (Ev.now _))
  ·unfold xe0.f; exact Ev.bind e2 (Ev.neg c (Ev.now _))
theorem FnExactIsContained (t s : Int) (ac : List Bool) (ns : List (List Int)) (t' s' : Int) (ac' : List Bool) (ns' : List (List Int)) (h2 : ac.length ≤ 9223372036854775807) (h3 : ns.length ≤ 9223372036854775807) (hr : ∀ x ∈ ns, x.length ≤ 9223372036854775807) (h2' : ac'.length ≤ 9223372036854775807) (h3' : ns'.length ≤ 9223372036854775807) (hr' : ∀ x ∈ ns', x.length ≤ 9223372036854775807) : ∃ k, laws_FnExactIsContained.f k t s ac ns t' s' ac' ns' = some true := by
 apply Ev.rounds; unfold laws_FnExactIsContained.f; obtain ⟨n, e1, e2, e3⟩ := szRelation_ev t s ac ns 1048576 (by omega) h2 h3 hr; refine Ev.bind e1 ?_; by_cases hn : n < 0
 ·exact Ev.pos hn (Ev.const rfl)
 refine Ev.neg hn ?_; have hz := e3 (by omega); obtain ⟨n', e1', e2', e3'⟩ := szRelation_ev t' s' ac' ns' n.toNat (by omega) h2' h3' hr'; rw [show ((n.toNat : Nat) : Int) = n by omega] at e1'; refine Ev.bind e1' ?_; by_cases hn' : n' < 0
 ·exact Ev.pos hn' (Ev.const rfl)
 refine Ev.neg hn' ?_; have hz' := e3' (by omega); obtain ⟨r1, r2, hS, hI⟩ := contained_both (t := t) (s := s) (t' := t') (s' := s') hz hz'; refine Ev.guard (toRelation_ev t s ac ns hz) ?_; refine Ev.guard (toRelation_ev t' s' ac' ns' hz') ?_; refine Ev.bind hS ?_; refine Ev.guard hI ?_; refine Ev.guard (eqRelation_ev t s ac ns hz) ?_; exact Ev.guard (eqRelation_ev t' s' ac' ns' hz') (Ev.now _)
end Go.Proofs.YtocfcpicleomcaaDoor.Pure
