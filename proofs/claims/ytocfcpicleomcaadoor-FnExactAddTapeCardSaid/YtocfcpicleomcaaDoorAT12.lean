import Derived.Test.YtocfcpicleomcaaDoorAT10
import Derived.Test.YtocfcpicleomcaaDoorAT7
import Derived.Test.YtocfcpicleomcaaDoorAT8
import Derived.Test.YtocfcpicleomcaaDoorAT11
import Derived.Test.YtocfcpicleomcaaDoorAT2
import Derived.Test.YtocfcpicleomcaaDoorAT3
import Derived.Test.YtocfcpicleomcaaDoorAT9
namespace Go.Proofs.YtocfcpicleomcaaDoor.Pure
set_option maxHeartbeats 16000000
set_option maxRecDepth 100000
open Go.RowKit Go.Proofs.YtocfcpicleomcaaDoor.X Go.Proofs.YtocfcpicleomcaaDoorW.PrintWords Go.Proofs.YtocfcpicleomcaaDoorW.PrintLast
set_option linter.unusedVariables false
set_option linter.unusedSimpArgs false
theorem Ev.succ {α : Type} {g : Nat → Option α} {r : α} (h : Ev (fun k => g (k + 1)) r) : Ev g r := Ev.step (fun _ => rfl) h
theorem Ev.const {α : Type} {o : Option α} {r : α} (h : o = some r) : Ev (fun _ => o) r := ⟨0, fun _ _ => h⟩
theorem w64 {n : Int} (h0 : -9223372036854775808 ≤ n) (h1 : n ≤ 9223372036854775807) : wrap64 n = n := by
 unfold wrap64; omega
theorem rd_nat (xs : List Int) (i : Nat) (h : i < xs.length) : rd xs (i : Int) = xs[i] := by
 simp [rd, List.getD_eq_getElem?_getD, h]
theorem ja2 {α : Type} (d : α) (xs : List α) (i : Nat) (h : i < xs.length) : rdOf d xs (i : Int) = xs[i] := by
 simp [rdOf, List.getD_eq_getElem?_getD, h]
theorem xm1 {α : Type} (l ys : List α) (i : Nat) (x : α) (hx : l[i]? = some x) (hl : ys.length = l.length) (h : ys.take i = l.take i) : (ys.set i x).take (i + 1) = l.take (i + 1) := by
 have hi : i < l.length := (List.getElem?_eq_some_iff.1 hx).1; apply List.ext_getElem?; intro j; have hj := congrArg (fun z => z[j]?) h
 simp only [List.getElem?_take] at hj ⊢
 rw [List.getElem?_set]; by_cases h1 : j < i + 1
 ·by_cases h2 : i = j
  ·subst h2; simp only [h1, if_true]; rw [if_pos (by omega)]; exact hx.symm
  ·have h3 : j < i := by omega
   simp only [h1, if_true, h2, if_false, h3] at hj ⊢
   exact hj
 ·simp [h1]
theorem Ev.pos {α : Type} {c : Prop} [Decidable c] {f g : Nat → Option α} {r : α} (h : c) (k : Ev f r) : Ev (fun n => if c then f n else g n) r := by
 obtain ⟨K, k⟩ := k; exact ⟨K, fun n hn => (if_pos h).trans (k n hn)⟩
theorem Ev.neg {α : Type} {c : Prop} [Decidable c] {f g : Nat → Option α} {r : α} (h : ¬ c) (k : Ev g r) : Ev (fun n => if c then f n else g n) r := by
 obtain ⟨K, k⟩ := k; exact ⟨K, fun n hn => (if_neg h).trans (k n hn)⟩
theorem zj2 (l : List Int) (hn : l.length ≤ 35184372088832) (d : Nat) : ∀ (i : Nat) (ys : List Int), i + d = l.length → ys.length = l.length → ys.take i = l.take i → Ev (fun k => laws_toInt64S.l0 k l ys (i : Int)) l := by
 induction d with
 | zero =>
  intro i ys hi hl ht; apply Ev.succ; simp only [laws_toInt64S.l0]; refine Ev.neg (by omega) ?_; refine Ev.const ?_; rw [List.take_of_length_le (by omega), List.take_of_length_le (by omega)] at ht; rw [ht]
 | succ d ih =>
  intro i ys hi hl ht; apply Ev.succ; simp only [laws_toInt64S.l0]; refine Ev.pos (by omega) ?_; refine Ev.pos (by omega) ?_; refine Ev.pos (by omega) ?_; rw [w64 (by omega) (by omega), Int.toNat_natCast]; have := ih (i + 1) (ys.set i (rd l i)) (by omega) (by simp [hl]) (xm1 l ys i _ (by rw [rd_nat l i (by omega)]; exact List.getElem?_eq_getElem (by omega)) hl ht); exact this
theorem jh1 (l : List Int) (hn : l.length ≤ 35184372088832) : Ev (fun k => laws_toInt64S.f k l) l := by
 unfold laws_toInt64S.f; simp only [Int.toNat_natCast]; refine Ev.pos (by omega) ?_; refine Ev.pos hn ?_; exact zj2 l hn l.length 0 _ (by omega) (by simp) (by simp)
theorem ym2 (l : List Int) (hn : l.length ≤ 35184372088832) (d : Nat) : ∀ (i : Nat), i + d = l.length → Ev (fun k => laws_eqInt64S.l0 k l l (i : Int)) true := by
 induction d with
 | zero =>
  intro i hi; apply Ev.succ; simp only [laws_eqInt64S.l0]; refine Ev.neg (by omega) ?_; exact Ev.const rfl
 | succ d ih =>
  intro i hi; apply Ev.succ; simp only [laws_eqInt64S.l0]; refine Ev.pos (by omega) ?_; refine Ev.pos (by omega) ?_; refine Ev.pos (by omega) ?_; refine Ev.pos trivial ?_; rw [w64 (by omega) (by omega)]; exact ih (i + 1) (by omega)
theorem kk1 (l : List Int) (hn : l.length ≤ 35184372088832) : Ev (fun k => laws_eqInt64S.f k l l) true := by
 unfold laws_eqInt64S.f; refine Ev.pos rfl ?_; exact ym2 l hn l.length 0 (by omega)
theorem jd0 (xs : List (List Int)) (i : Nat) (h : i < xs.length) : rd_L2 xs (i : Int) = xs[i] := by
 simp [rd_L2, List.getD_eq_getElem?_getD, h]
theorem yx2 (l : List Bool) (hn : l.length ≤ 35184372088832) (d : Nat) : ∀ (i : Nat) (ys : List Bool), i + d = l.length → ys.length = l.length → ys.take i = l.take i → Ev (fun k => laws_toBoolS.l0 k l ys (i : Int)) l := by
 induction d with
 | zero =>
  intro i ys hi hl ht; apply Ev.succ; simp only [laws_toBoolS.l0]; refine Ev.neg (by omega) ?_; refine Ev.const ?_; rw [List.take_of_length_le (by omega), List.take_of_length_le (by omega)] at ht; rw [ht]
 | succ d ih =>
  intro i ys hi hl ht; apply Ev.succ; simp only [laws_toBoolS.l0]; refine Ev.pos (by omega) ?_; refine Ev.pos (by omega) ?_; refine Ev.pos (by omega) ?_; rw [w64 (by omega) (by omega), Int.toNat_natCast]; have := ih (i + 1) (ys.set i (rdOf false l i)) (by omega) (by simp [hl]) (xm1 l ys i _ (by rw [ja2 false l i (by omega)]; exact List.getElem?_eq_getElem (by omega)) hl ht); exact this
theorem zk2 (l : List Bool) (hn : l.length ≤ 35184372088832) : Ev (fun k => laws_toBoolS.f k l) l := by
 unfold laws_toBoolS.f; simp only [Int.toNat_natCast]; refine Ev.pos (by omega) ?_; refine Ev.pos (by omega) ?_; exact yx2 l hn l.length 0 _ (by omega) (by simp) (by simp)
theorem ji1 (l : List (List Int)) (hn : l.length ≤ 35184372088832) (hr : ∀ x ∈ l, x.length ≤ 35184372088832) (d : Nat) : ∀ (i : Nat) (ys : List (List Int)), i + d = l.length → ys.length = l.length → ys.take i = l.take i → Ev (fun k => laws_toInt64SS.l0 k l ys (i : Int)) l := by
 induction d with
 | zero =>
  intro i ys hi hl ht; apply Ev.succ; simp only [laws_toInt64SS.l0]; refine Ev.neg (by omega) ?_; refine Ev.const ?_; rw [List.take_of_length_le (by omega), List.take_of_length_le (by omega)] at ht; rw [ht]
 | succ d ih =>
  intro i ys hi hl ht; apply Ev.succ; simp only [laws_toInt64SS.l0]; refine Ev.pos (by omega) ?_; refine Ev.pos (by omega) ?_; rw [jd0 l i (by omega)]; refine Ev.bind (jh1 _ (hr _ (List.getElem_mem _))) ?_; refine Ev.pos (by omega) ?_; rw [w64 (by omega) (by omega), Int.toNat_natCast]; exact ih (i + 1) (ys.set i l[i]) (by omega) (by simp [hl]) (xm1 l ys i _ (List.getElem?_eq_getElem (by omega)) hl ht)
theorem qe1 (l : List (List Int)) (hn : l.length ≤ 11728124029610) (hr : ∀ x ∈ l, x.length ≤ 35184372088832) : Ev (fun k => laws_toInt64SS.f k l) l := by
 unfold laws_toInt64SS.f; simp only [Int.toNat_natCast]; refine Ev.pos (by omega) ?_; refine Ev.pos (by omega) ?_; exact ji1 l (by omega) hr l.length 0 _ (by omega) (by simp) (by simp)
theorem qf2 (l : List Bool) (hn : l.length ≤ 35184372088832) (d : Nat) : ∀ (i : Nat), i + d = l.length → Ev (fun k => laws_eqBoolS.l0 k l l (i : Int)) true := by
 induction d with
 | zero =>
  intro i hi; apply Ev.succ; simp only [laws_eqBoolS.l0]; refine Ev.neg (by omega) ?_; exact Ev.const rfl
 | succ d ih =>
  intro i hi; apply Ev.succ; simp only [laws_eqBoolS.l0]; refine Ev.pos (by omega) ?_; refine Ev.pos (by omega) ?_; refine Ev.pos (by omega) ?_; refine Ev.neg (by simp) ?_; rw [w64 (by omega) (by omega)]; exact ih (i + 1) (by omega)
theorem yn2 (l : List Bool) (hn : l.length ≤ 35184372088832) : Ev (fun k => laws_eqBoolS.f k l l) true := by
 unfold laws_eqBoolS.f; refine Ev.pos rfl ?_; exact qf2 l hn l.length 0 (by omega)
theorem kl1 (l : List (List Int)) (hn : l.length ≤ 35184372088832) (hr : ∀ x ∈ l, x.length ≤ 35184372088832) (d : Nat) : ∀ (i : Nat), i + d = l.length → Ev (fun k => laws_eqInt64SS.l0 k l l (i : Int)) true := by
 induction d with
 | zero =>
  intro i hi; apply Ev.succ; simp only [laws_eqInt64SS.l0]; refine Ev.neg (by omega) ?_; exact Ev.const rfl
 | succ d ih =>
  intro i hi; apply Ev.succ; simp only [laws_eqInt64SS.l0]; refine Ev.pos (by omega) ?_; refine Ev.pos (by omega) ?_; refine Ev.pos (by omega) ?_; rw [jd0 l i (by omega)]; refine Ev.bind (kk1 _ (hr _ (List.getElem_mem _))) ?_; refine Ev.pos rfl ?_; rw [w64 (by omega) (by omega)]; exact ih (i + 1) (by omega)
theorem jb1 (l : List (List Int)) (hn : l.length ≤ 35184372088832) (hr : ∀ x ∈ l, x.length ≤ 35184372088832) : Ev (fun k => laws_eqInt64SS.f k l l) true := by
 unfold laws_eqInt64SS.f; refine Ev.pos rfl ?_; exact kl1 l hn hr l.length 0 (by omega)
theorem jo1 (l : List (List Int)) (hn : l.length ≤ 9223372036854775806) (hr : ∀ x ∈ l, x.length ≤ 9223372036854775807) (d : Nat) : ∀ (i a : Nat), i + d = l.length → a ≤ 1048576 →
  ∃ n : Int, Ev (fun k => laws_szInt64SS.l0 k l (a : Int) (i : Int)) n ∧ n ≤ 1048576 ∧ (0 ≤ n → ∀ j, i ≤ j → ∀ x, l[j]? = some x → x.length ≤ 1048576) := by
 induction d with
 | zero =>
  intro i a hi ha; refine ⟨a, ?_, by omega, fun _ j hj x hx => ?_⟩
  ·apply Ev.succ; simp only [laws_szInt64SS.l0]; refine Ev.neg (by omega) ?_; exact Ev.const rfl
  ·have := (List.getElem?_eq_some_iff.1 hx).1; omega
 | succ d ih =>
  intro i a hi ha; have hx := hr _ (List.getElem_mem (show i < l.length by omega)); by_cases c : l[i].length ≤ a
  ·obtain ⟨n, h1, h2, h3⟩ := ih (i + 1) (a - l[i].length) (by omega) (by omega); refine ⟨n, ?_, h2, fun h0 j hj x hjx => ?_⟩
   ·apply Ev.succ; simp only [laws_szInt64SS.l0]; refine Ev.pos (by omega) ?_; refine Ev.pos (by omega) ?_; rw [jd0 l i (by omega)]; refine Ev.bind (a := ((a - l[i].length : Nat) : Int)) ?_ ?_
    ·unfold laws_szInt64S.f; rw [w64 (by omega) (by omega)]; refine Ev.neg (by omega) ?_; exact Ev.const (by congr 1; omega)
    ·refine Ev.neg (by omega) ?_; rw [w64 (by omega) (by omega)]; exact h1
   ·by_cases e : i = j
    ·subst e; rw [List.getElem?_eq_getElem (by omega)] at hjx; injection hjx with hjx; subst hjx; omega
    ·exact h3 h0 j (by omega) x hjx
  ·refine ⟨-1, ?_, by omega, fun h0 => by omega⟩; apply Ev.succ; simp only [laws_szInt64SS.l0]; refine Ev.pos (by omega) ?_; refine Ev.pos (by omega) ?_; rw [jd0 l i (by omega)]; refine Ev.bind (a := -1) ?_ ?_
   ·unfold laws_szInt64S.f; rw [w64 (by omega) (by omega)]; exact Ev.pos (by omega) (Ev.const rfl)
   ·exact Ev.pos (by omega) (Ev.const rfl)
/-- What a relation's size says: it is not negative only if its rows are short. -/
def SzOK (ac : List Bool) (ns : List (List Int)) : Prop := ac.length ≤ 1048576 ∧ ns.length ≤ 1048576 ∧ ∀ x ∈ ns, x.length ≤ 1048576
theorem xl1 (t s : Int) (ac : List Bool) (ns : List (List Int)) (a : Nat) (ha : a ≤ 1048576) (h2 : ac.length ≤ 9223372036854775807) (h3 : ns.length ≤ 9223372036854775807) (hr : ∀ x ∈ ns, x.length ≤ 9223372036854775807) :
  ∃ n : Int, Ev (fun k => laws_szRelation.f k t s ac ns (a : Int)) n ∧ n ≤ 1048576 ∧ (0 ≤ n → SzOK ac ns) := by
 unfold laws_szRelation.f; by_cases c : ac.length ≤ a
 ·by_cases c2 : ns.length ≤ a - ac.length
  ·obtain ⟨n, e1, e2, e3⟩ := jo1 ns (by omega) hr ns.length 0 (a - ac.length - ns.length) (by omega) (by omega); refine ⟨if n < 0 then -1 else n, ?_, by split <;> omega, fun h0 => ⟨by omega, by omega, fun x hx => ?_⟩⟩
   ·refine Ev.bind (a := ((a - ac.length : Nat) : Int)) ?_ ?_
    ·unfold laws_szBoolS.f; rw [w64 (by omega) (by omega)]; refine Ev.neg (by omega) ?_; exact Ev.const (by congr 1; omega)
    ·refine Ev.neg (by omega) ?_; refine Ev.bind (a := n) ?_ ?_
     ·unfold laws_szInt64SS.f; rw [w64 (by omega) (by omega)]; refine Ev.neg (by omega) ?_; rw [show ((a - ac.length : Nat) : Int) - (ns.length : Int) = ((a - ac.length - ns.length : Nat) : Int) by omega]; exact e1
     ·by_cases hn : n < 0
      ·simp only [if_pos hn]; exact Ev.now _
      ·simp only [if_neg hn]; exact Ev.now _
   ·have hn : 0 ≤ n := by
     by_cases hn : n < 0
     ·rw [if_pos hn] at h0; omega
     ·omega
    obtain ⟨j, hj⟩ := List.mem_iff_getElem?.1 hx; exact e3 hn j (by omega) x hj
  ·refine ⟨-1, ?_, by omega, fun h0 => by omega⟩; refine Ev.bind (a := ((a - ac.length : Nat) : Int)) ?_ ?_
   ·unfold laws_szBoolS.f; rw [w64 (by omega) (by omega)]; refine Ev.neg (by omega) ?_; exact Ev.const (by congr 1; omega)
   ·refine Ev.neg (by omega) ?_; refine Ev.bind (a := -1) ?_ ?_
    ·unfold laws_szInt64SS.f; rw [w64 (by omega) (by omega)]; exact Ev.pos (by omega) (Ev.const rfl)
    ·exact Ev.pos (by omega) (Ev.const rfl)
 ·refine ⟨-1, ?_, by omega, fun h0 => by omega⟩; refine Ev.bind (a := -1) ?_ ?_
  ·unfold laws_szBoolS.f; rw [w64 (by omega) (by omega)]; exact Ev.pos (by omega) (Ev.const rfl)
  ·exact Ev.pos (by omega) (Ev.const rfl)
theorem xk1 (t s : Int) (ac : List Bool) (ns : List (List Int)) (h : SzOK ac ns) : Ev (fun k => laws_toRelation.f k t s ac ns) (t, s, ac, ns) := by
 unfold laws_toRelation.f; refine Ev.bind (zk2 ac (by have := h.1; omega)) ?_; refine Ev.bind (qe1 ns (by have := h.2.1; omega) (fun x hx => by have := h.2.2 x hx; omega)) ?_; exact Ev.now _
theorem kx0 (t s : Int) (ac : List Bool) (ns : List (List Int)) (h : SzOK ac ns) : Ev (fun k => laws_eqRelation.f k t s ac ns t s ac ns) true := by
 unfold laws_eqRelation.f; refine Ev.pos rfl ?_; refine Ev.pos rfl ?_; refine Ev.bind (yn2 ac (by have := h.1; omega)) ?_; refine Ev.pos rfl ?_; refine Ev.bind (jb1 ns (by have := h.2.1; omega) (fun x hx => by have := h.2.2 x hx; omega)) ?_; exact Ev.pos rfl (Ev.now _)
theorem in_eq (a b c : Int) : yh0.f a b c = some (decide (b ≤ a) && decide (a ≤ c)) := by
 unfold yh0.f; by_cases h : a ≥ b
 ·rw [if_pos h]; simp [h]
 ·rw [if_neg h]; simp [show ¬ b ≤ a from h]
theorem kk0 (a b c : Int) : ye0.f a b c = some (decide (b ≤ a) && decide (a ≤ c)) := by
 unfold ye0.f; by_cases h : b ≤ a
 ·rw [if_pos h]; simp [h]
 ·rw [if_neg h]; simp [h]
theorem kn1 (a : Int) : xd0.f a = some (decide (1 ≤ a) && decide (a ≤ 3)) := by
 unfold xd0.f; rw [kk0]; rfl
def wd (n : Nat) : Nat := if n = 0 then 0 else if n = 1 then 2 else if n = 2 then 8 else 26
theorem qb1 : ∀ n : Fin 4, zw0.f 10 (n.val : Int) = some ((wd n.val : Nat) : Int) := by decide +kernel
theorem qd1 : ∀ n : Fin 4, zr0.f 10 (n.val : Int) = some ((wd n.val : Nat) : Int) := by decide +kernel
theorem qp2 (n : Nat) (h : n ≤ 3) : Ev (fun k => zw0.f k (n : Int)) ((wd n : Nat) : Int) := Ev.of (fun k => zw0.mono _ k) (qb1 ⟨n, by omega⟩)
theorem qq2 (n : Nat) (h : n ≤ 3) : Ev (fun k => zr0.f k (n : Int)) ((wd n : Nat) : Int) := Ev.of (fun k => zr0.mono _ k) (qd1 ⟨n, by omega⟩)
theorem wd_le (n : Nat) (h : n ≤ 3) : wd n ≤ 26 := by
 unfold wd
 split <;> (try split) <;> (try split) <;> omega
/-- The states of a row are among n. -/
def okCells (n : Nat) (l : List Int) : Bool := l.all fun x => decide (0 ≤ x) && decide (x < n)
def okRows (w n : Nat) (ns : List (List Int)) : Bool := ns.all fun r => decide (r.length = w) && okCells n r
/-- A relation's form. -/
def okRel (t s : Int) (ac : List Bool) (ns : List (List Int)) : Bool :=
 decide (1 ≤ t) && decide (t ≤ 3) && decide (1 ≤ ac.length) && decide (ac.length ≤ 150) && decide (ns.length = ac.length) && decide (0 ≤ s) && decide (s < ac.length) && okRows (wd t.toNat) ac.length ns
theorem zr1 {α : Type} (p : α → Bool) (l : List α) (i : Nat) (h : i < l.length) : (l.drop i).all p = (p l[i] && (l.drop (i + 1)).all p) := by
 rw [List.drop_eq_getElem_cons h, List.all_cons]
theorem qi1 (t : Nat) (s : Int) (ac : List Bool) (ns : List (List Int)) (x3 : Nat) (hx3 : x3 ≤ 150) (i : Nat) (hi : i < ns.length) (hl : ns[i].length ≤ 26) (R : Bool)
  (hR : Ev (fun k => zk0.l0 k (x3 : Int) (((i : Nat) + 1 : Nat) : Int) (t : Int) s ac ns) (R, (t : Int), s)) (hni : ns.length ≤ 1048576) (d : Nat) : ∀ j, j + d = ns[i].length →
  Ev (fun k => zk0.l1 k (x3 : Int) (i : Int) (j : Int) (t : Int) s ac ns) (okCells x3 (ns[i].drop j) && R, (t : Int), s) := by
 induction d with
 | zero =>
  intro j hj; apply Ev.succ; simp only [zk0.l1]; refine Ev.pos (by omega) ?_; refine Ev.pos (by omega) ?_; rw [jd0 ns i hi]; refine Ev.neg (by omega) ?_; rw [w64 (by omega) (by omega), List.drop_of_length_le (by omega)]; simp only [okCells, List.all_nil, Bool.true_and]; exact hR
 | succ d ih =>
  intro j hj; apply Ev.succ; simp only [zk0.l1]; refine Ev.pos (by omega) ?_; refine Ev.pos (by omega) ?_; rw [jd0 ns i hi]; refine Ev.pos (by omega) ?_; refine Ev.pos (by omega) ?_; rw [rd_nat _ _ (by omega)]; refine Ev.bind (Ev.const (in_eq _ _ _)) ?_; rw [show okCells x3 (ns[i].drop j) = ((decide (0 ≤ ns[i][j]) && decide (ns[i][j] < x3)) && okCells x3 (ns[i].drop (j + 1))) from zr1 _ _ _ (by omega)]; rw [w64 (n := (x3 : Int) - 1) (by omega) (by omega)]; rw [show decide (ns[i][j] ≤ (x3 : Int) - 1) = decide (ns[i][j] < (x3 : Int)) by apply decide_eq_decide.2; omega]; by_cases c : (decide (0 ≤ ns[i][j]) && decide (ns[i][j] < (x3 : Int))) = true
  ·rw [c]; refine Ev.pos (by first | rfl | trivial) ?_; rw [w64 (by omega) (by omega)]; simp only [Bool.true_and]; exact ih (j + 1) (by omega)
  ·rw [Bool.not_eq_true] at c; rw [c]; exact Ev.neg (by simp) (Ev.const (by simp))
theorem qj1 (t : Nat) (ht : t ≤ 3) (s : Int) (ac : List Bool) (ns : List (List Int)) (x3 : Nat) (hx3 : x3 ≤ 150) (hni : ns.length ≤ 1048576) (d : Nat) : ∀ i, i + d = ns.length →
  Ev (fun k => zk0.l0 k (x3 : Int) (i : Int) (t : Int) s ac ns) (okRows (wd t) x3 (ns.drop i), (t : Int), s) := by
 induction d with
 | zero =>
  intro i hi; apply Ev.succ; simp only [zk0.l0]; refine Ev.neg (by omega) ?_; rw [List.drop_of_length_le (by omega)]; exact Ev.const rfl
 | succ d ih =>
  intro i hi; apply Ev.succ; simp only [zk0.l0]; refine Ev.pos (by omega) ?_; refine Ev.pos (by omega) ?_; rw [jd0 ns i (by omega)]; refine Ev.bind (qp2 t ht) ?_; rw [show okRows (wd t) x3 (ns.drop i) = ((decide (ns[i].length = wd t) && okCells x3 ns[i]) && okRows (wd t) x3 (ns.drop (i + 1))) from zr1 _ _ _ (by omega)]; have := wd_le t ht; by_cases c : ns[i].length = wd t
  ·refine Ev.pos (by omega) ?_; have h := qi1 t s ac ns x3 hx3 i (by omega) (by omega) _ (ih (i + 1) (by omega)) hni ns[i].length 0 (by omega); rw [List.drop_zero] at h; simp only [c, decide_true, Bool.true_and]; exact h
  ·refine Ev.neg (by omega) ?_; simp only [c, decide_false, Bool.false_and]; exact Ev.const rfl
theorem zn2 (t s : Int) (ac : List Bool) (ns : List (List Int)) (h : SzOK ac ns) : Ev (fun k => qs0.f k t s ac ns) (okRel t s ac ns, t, s) := by
 unfold qs0.f; have h1 := h.1; by_cases c : ac.length ≤ 150
 ·refine Ev.pos (by omega) ?_; refine Ev.bind (a := (okRel t s ac ns, t, s)) ?_ (Ev.now _); unfold zk0.f; refine Ev.bind (Ev.const (in_eq _ _ _)) ?_; by_cases ct : 1 ≤ t ∧ t ≤ 3
  ·obtain ⟨n, rfl⟩ : ∃ n : Nat, t = n := ⟨t.toNat, by omega⟩; simp only [show decide ((1 : Int) ≤ n) = true by simpa using ct.1, show decide ((n : Int) ≤ 3) = true by simpa using ct.2, Bool.true_and]; refine Ev.pos (by first | rfl | trivial) ?_; by_cases c1 : ac.length < 1
   ·refine Ev.pos (by omega) ?_; apply Ev.succ; simp only [zk0.j0]; refine Ev.pos (by first | rfl | trivial) ?_; refine Ev.const ?_; simp [okRel, show ¬ 1 ≤ ac.length by omega]
   ·refine Ev.neg (by omega) ?_; refine Ev.bind (Ev.const (in_eq _ _ _)) ?_; rw [w64 (n := (ac.length : Int) - 1) (by omega) (by omega)]; by_cases cs : 0 ≤ s ∧ s < ac.length
    ·simp only [show decide ((0 : Int) ≤ s) = true by simpa using cs.1, show decide (s ≤ (ac.length : Int) - 1) = true from decide_eq_true (by omega), Bool.true_and]; refine Ev.pos (by first | rfl | trivial) ?_; apply Ev.succ; simp only [zk0.j0]; by_cases cn : ns.length = ac.length
     ·refine Ev.neg (by simp [cn]) ?_; have h0 := qj1 n (by omega) s ac ns ac.length c (by have := h.2.1; omega) ns.length 0 (by omega); rw [List.drop_zero] at h0
      have e : okRel (n : Int) s ac ns = okRows (wd n) ac.length ns := by
       simp only [okRel, Int.toNat_natCast]; simp only [show decide ((1 : Int) ≤ n) = true by simpa using ct.1, show decide ((n : Int) ≤ 3) = true by simpa using ct.2, show decide (1 ≤ ac.length) = true from decide_eq_true (by omega), show decide (ac.length ≤ 150) = true from decide_eq_true c, cn, show decide ((0 : Int) ≤ s) = true by simpa using cs.1, show decide (s < (ac.length : Int)) = true from decide_eq_true cs.2, decide_true, Bool.true_and]
      rw [e]; exact h0
     ·refine Ev.pos (by simpa using fun e => cn (by omega)) ?_; refine Ev.const ?_; simp [okRel, cn]
    ·refine Ev.neg ?_ ?_
     ·intro e; rw [Bool.and_eq_true, decide_eq_true_eq, decide_eq_true_eq] at e; exact cs ⟨e.1, by omega⟩
     ·apply Ev.succ; simp only [zk0.j0]; refine Ev.pos (by first | rfl | trivial) ?_; refine Ev.const ?_
      have : (decide (0 ≤ s) && decide (s < (ac.length : Int))) = false := by
       rw [Bool.eq_false_iff]; intro e; rw [Bool.and_eq_true, decide_eq_true_eq, decide_eq_true_eq] at e; exact cs e
      congr 2
      simp only [okRel]
      rcases Bool.and_eq_false_iff.1 this with e | e <;> rw [e] <;> simp
  ·have e : (decide (1 ≤ t) && decide (t ≤ 3)) = false := by
    rw [Bool.eq_false_iff]; intro e; rw [Bool.and_eq_true, decide_eq_true_eq, decide_eq_true_eq] at e; exact ct e
   rw [e]; refine Ev.neg (by simp) ?_; apply Ev.succ; simp only [zk0.j0]; refine Ev.pos (by first | rfl | trivial) ?_; refine Ev.const ?_; simp [okRel, e]
 ·refine Ev.neg (by omega) ?_; refine Ev.const ?_; simp [okRel, c]
theorem kl2 (t : Nat) (s : Int) (ac : List Bool) (ns : List (List Int)) (x3 : Nat) (hx3 : x3 ≤ 150) (i : Nat) (hni : i < 1048576) (l : List Int) (hl : l.length ≤ 26) (R : Bool)
  (hR : Ev (fun k => zc0.l0 k (x3 : Int) ns (ns.length : Int) (((i : Nat) + 1 : Nat) : Int) (t : Int) s ac ns) R) (d : Nat) : ∀ j, j + d = l.length →
  Ev (fun k => zc0.l1 k (x3 : Int) ns (ns.length : Int) (i : Int) l (l.length : Int) (j : Int) (t : Int) s ac ns) (okCells x3 (l.drop j) && R) := by
 induction d with
 | zero =>
  intro j hj; apply Ev.succ; simp only [zc0.l1]; refine Ev.neg (by omega) ?_; rw [w64 (by omega) (by omega), List.drop_of_length_le (by omega)]; simp only [okCells, List.all_nil, Bool.true_and]; exact hR
 | succ d ih =>
  intro j hj; apply Ev.succ; simp only [zc0.l1]; refine Ev.pos (by omega) ?_; refine Ev.pos (by omega) ?_; refine Ev.pos (by omega) ?_; rw [rd_nat _ _ (by omega)]; refine Ev.bind (Ev.const (kk0 _ _ _)) ?_; rw [show okCells x3 (l.drop j) = ((decide (0 ≤ l[j]) && decide (l[j] < x3)) && okCells x3 (l.drop (j + 1))) from zr1 _ _ _ (by omega)]; rw [w64 (n := (x3 : Int) - 1) (by omega) (by omega)]; rw [show decide (l[j] ≤ (x3 : Int) - 1) = decide (l[j] < (x3 : Int)) by apply decide_eq_decide.2; omega]; by_cases c : (decide (0 ≤ l[j]) && decide (l[j] < (x3 : Int))) = true
  ·rw [c]; refine Ev.pos (by first | rfl | trivial) ?_; rw [w64 (by omega) (by omega)]; simp only [Bool.true_and]; exact ih (j + 1) (by omega)
  ·rw [Bool.not_eq_true] at c; rw [c]; exact Ev.neg (by simp) (Ev.const (by simp))
theorem km2 (t : Nat) (ht : t ≤ 3) (s : Int) (ac : List Bool) (ns : List (List Int)) (x3 : Nat) (hx3 : x3 ≤ 150) (hni : ns.length ≤ 1048576) (d : Nat) : ∀ i, i + d = ns.length →
  Ev (fun k => zc0.l0 k (x3 : Int) ns (ns.length : Int) (i : Int) (t : Int) s ac ns) (okRows (wd t) x3 (ns.drop i)) := by
 induction d with
 | zero =>
  intro i hi; apply Ev.succ; simp only [zc0.l0]; refine Ev.neg (by omega) ?_; rw [List.drop_of_length_le (by omega)]; exact Ev.const rfl
 | succ d ih =>
  intro i hi; apply Ev.succ; simp only [zc0.l0]; refine Ev.pos (by omega) ?_; refine Ev.pos (by omega) ?_; refine Ev.pos (by omega) ?_; rw [jd0 ns i (by omega)]; refine Ev.bind (qq2 t ht) ?_; rw [show okRows (wd t) x3 (ns.drop i) = ((decide (ns[i].length = wd t) && okCells x3 ns[i]) && okRows (wd t) x3 (ns.drop (i + 1))) from zr1 _ _ _ (by omega)]; have := wd_le t ht; by_cases c : ns[i].length = wd t
  ·refine Ev.pos (by omega) ?_; have h := kl2 t s ac ns x3 hx3 i (by omega) ns[i] (by omega) _ (ih (i + 1) (by omega)) ns[i].length 0 (by omega); rw [List.drop_zero] at h; simp only [c, decide_true, Bool.true_and]; rw [c] at h; exact h
  ·refine Ev.neg (by omega) ?_; simp only [c, decide_false, Bool.false_and]; exact Ev.const rfl
theorem jr0 (t s : Int) (ac : List Bool) (ns : List (List Int)) (h : SzOK ac ns) : Ev (fun k => zc0.f k t s ac ns) (okRel t s ac ns) := by
 have hj0 : ∀ n : Int, Ev (fun k => zc0.j0 k n true t s ac ns) false := fun n => by
  apply Ev.succ; simp only [zc0.j0]; exact Ev.pos (by first | rfl | trivial) (Ev.const rfl)
 have h1 := h.1; unfold zc0.f; refine Ev.bind (Ev.const (kn1 _)) ?_; by_cases ct : 1 ≤ t ∧ t ≤ 3
 ·obtain ⟨n, rfl⟩ : ∃ n : Nat, t = n := ⟨t.toNat, by omega⟩; simp only [show decide ((1 : Int) ≤ n) = true by simpa using ct.1, show decide ((n : Int) ≤ 3) = true by simpa using ct.2, Bool.true_and]; refine Ev.pos (by first | rfl | trivial) ?_; refine Ev.bind (Ev.const (kk0 _ _ _)) ?_; by_cases c1 : 1 ≤ ac.length ∧ ac.length ≤ 150
  ·refine Ev.pos (by simp; omega) ?_; by_cases cn : ns.length = ac.length
   ·refine Ev.pos (by omega) ?_; refine Ev.bind (Ev.const (kk0 _ _ _)) ?_; rw [w64 (n := (ac.length : Int) - 1) (by omega) (by omega)]; by_cases cs : 0 ≤ s ∧ s < ac.length
    ·simp only [show decide ((0 : Int) ≤ s) = true by simpa using cs.1, show decide (s ≤ (ac.length : Int) - 1) = true from decide_eq_true (by omega), Bool.true_and, Bool.not_true]; apply Ev.succ; simp only [zc0.j0]; refine Ev.neg (by simp) ?_; have h0 := km2 n (by omega) s ac ns ac.length c1.2 (by have := h.2.1; omega) ns.length 0 (by omega); rw [List.drop_zero] at h0
     have e : okRel (n : Int) s ac ns = okRows (wd n) ac.length ns := by
      simp only [okRel, Int.toNat_natCast]; simp only [show decide ((1 : Int) ≤ n) = true by simpa using ct.1, show decide ((n : Int) ≤ 3) = true by simpa using ct.2, show decide (1 ≤ ac.length) = true from decide_eq_true (by omega), show decide (ac.length ≤ 150) = true from decide_eq_true c1.2, cn, show decide ((0 : Int) ≤ s) = true by simpa using cs.1, show decide (s < (ac.length : Int)) = true from decide_eq_true cs.2, decide_true, Bool.true_and]
     rw [e]; exact h0
    ·have e1 : (decide (0 ≤ s) && decide (s ≤ (ac.length : Int) - 1)) = false := by
      rw [Bool.eq_false_iff]; intro e; rw [Bool.and_eq_true, decide_eq_true_eq, decide_eq_true_eq] at e; exact cs ⟨e.1, by omega⟩
     have e2 : (decide (0 ≤ s) && decide (s < (ac.length : Int))) = false := by
      rw [Bool.eq_false_iff]; intro e; rw [Bool.and_eq_true, decide_eq_true_eq, decide_eq_true_eq] at e; exact cs e
     have e : okRel (n : Int) s ac ns = false := by
      simp only [okRel]
      rcases Bool.and_eq_false_iff.1 e2 with e | e <;> rw [e] <;> simp
     rw [e1, e]; exact hj0 _
   ·refine Ev.neg (by omega) ?_; (have e : okRel (n : Int) s ac ns = false := by simp [okRel, cn]); rw [e]; exact hj0 _
  ·refine Ev.neg ?_ ?_
   ·intro e; rw [Bool.and_eq_true, decide_eq_true_eq, decide_eq_true_eq] at e; exact c1 ⟨by omega, by omega⟩
   ·have e : okRel (n : Int) s ac ns = false := by
     simp only [okRel]; by_cases c2 : 1 ≤ ac.length
     ·simp [show ¬ ac.length ≤ 150 from fun h => c1 ⟨c2, h⟩]
     ·simp [c2]
    rw [e]; exact hj0 _
 ·have e : (decide (1 ≤ t) && decide (t ≤ 3)) = false := by
   rw [Bool.eq_false_iff]; intro e; rw [Bool.and_eq_true, decide_eq_true_eq, decide_eq_true_eq] at e; exact ct e
  rw [e]; refine Ev.neg (by simp) ?_; (have e : okRel t s ac ns = false := by simp [okRel, e]); rw [e]; exact hj0 _
/-- What a valid relation gives. -/
theorem ju1 {t s : Int} {ac : List Bool} {ns : List (List Int)} (h : okRel t s ac ns = true) : ∃ n : Nat, t = (n : Int) ∧ 1 ≤ n ∧ n ≤ 3 ∧ 1 ≤ ac.length ∧ ac.length ≤ 150 ∧ 0 ≤ s ∧ s < (ac.length : Int) ∧ TableOK (wd n) ac.length ns := by
 simp only [okRel, Bool.and_eq_true, decide_eq_true_eq] at h; obtain ⟨⟨⟨⟨⟨⟨⟨h1, h2⟩, h3⟩, h4⟩, h5⟩, h6⟩, h7⟩, h8⟩ := h; refine ⟨t.toNat, by omega, by omega, by omega, h3, h4, h6, h7, h5, fun row hrow => ?_⟩; simp only [okRows, List.all_eq_true, Bool.and_eq_true, decide_eq_true_eq, okCells] at h8; have := h8 row hrow; exact ⟨this.1, fun x hx => this.2 x hx⟩
def padsT (t : Nat) : List Int := (padsL 20 (t : Int) (wd t) 0 (List.replicate (wd t) 0)).getD []
theorem zo1 : ∀ t : Fin 4, padsL 20 ((t.val : Nat) : Int) (wd t.val) 0 (List.replicate (wd t.val) 0) = some (padsT t.val) ∧ (padsT t.val).length = wd t.val ∧ ∀ x ∈ padsT t.val, 0 ≤ x ∧ x < 2 ^ t.val := by decide +kernel
def endedOk (t : Nat) : Bool := (List.range (2 ^ t)).all fun p => (List.range (wd t)).all fun c => yb0.f 20 (t : Int) (p : Int) (c : Int) == some (endE (padsT t) (p : Int) (c : Int))
theorem qg2 : ∀ t : Fin 4, endedOk t.val = true := by decide +kernel
theorem atk {α : Type} {g : Nat → Option α} {r : α} (hg : ∀ k, LeO (g k) (g (k + 1))) {k n : Nat} (hn : k ≤ n) (h : g k = some r) : g n = some r := je1 hg hn h
theorem js2 {t : Nat} (ht : t ≤ 3) {k : Nat} (hk : 20 ≤ k) {p c : Int} (p0 : 0 ≤ p) (p1 : p < 2 ^ t) (c0 : 0 ≤ c) (c1 : c < (wd t : Int)) : yb0.f k (t : Int) p c = some (endE (padsT t) p c) := by
 refine atk (k := 20) (fun k => yb0.mono _ _ _ k) hk ?_; have h := qg2 ⟨t, by omega⟩; simp only [endedOk, List.all_eq_true, List.mem_range, beq_iff_eq] at h
 have hp : p.toNat < 2 ^ t := by
  (have : ((2 ^ t : Nat) : Int) = 2 ^ t := by push_cast; rfl); omega
 have := h p.toNat hp c.toNat (by omega)
 rwa [show ((p.toNat : Nat) : Int) = p by omega, show ((c.toNat : Nat) : Int) = c by omega] at this
theorem size_le {n : Nat} (h1 : 1 ≤ n) (h3 : n ≤ 3) : (1 : Int) ≤ 2 ^ n ∧ (2 : Int) ^ n ≤ 8 ∧ (2 : Nat) ^ n ≤ 8 := by
 have : n = 1 ∨ n = 2 ∨ n = 3 := by omega
 rcases this with rfl | rfl | rfl <;> decide
/-- The tidy table of a relation's language. -/
def TidyIs (t : Nat) (s : Int) (ac : List Bool) (ns : List (List Int)) (r : List Bool × List (List Int)) : Prop := ∃ f, tidyD (wd t) f (lngR (wd t) (padsT t) ac ns (s, 0)) = some r
theorem zk1 {n : Nat} {s : Int} {ac : List Bool} {ns : List (List Int)} (h1 : 1 ≤ n) (h3 : n ≤ 3) (hl : ac.length ≤ 2000) (s0 : 0 ≤ s) (s1 : s < (ac.length : Int)) (hT : TableOK (wd n) ac.length ns) :
  ∃ r, TidyIs n s ac ns r ∧ Ev (fun k => yi0.f k (n : Int) s ac ns) ((n : Int), 0, r.1, r.2) := by
 obtain ⟨q1, q2, q3⟩ := zo1 ⟨n, by omega⟩; simp only at q1 q2 q3; obtain ⟨z1, z2, z3⟩ := size_le h1 h3; have hw := wd_le n h3; have law := fun (f : Nat) (hf : 1900002 ≤ f) => qr2 hT rfl q2 (fun x hx => ⟨(q3 x hx).1, by have := (q3 x hx).2; omega⟩) (by omega) (by omega) s0 s1 hf; obtain ⟨p0, r, hp0, hpl0, hr0, hd0⟩ := law 1900002 (by omega); refine ⟨r, ⟨_, hd0⟩, 1900002, fun k hk => ?_⟩; obtain ⟨p, r', hp, hpl, hr, hd⟩ := law k hk; obtain rfl := kz0 hd0 hd; have hwid : zr0.f k (n : Int) = some ((wd n : Nat) : Int) := atk (k := 10) (fun k => zr0.mono _ k) (by omega) (qd1 ⟨n, by omega⟩); have hpad : padsL k (n : Int) (wd n) 0 (List.replicate (wd n) 0) = some (padsT n) := atk (k := 20) (fun k => zv2 k _ _ _ _) (by omega) q1; show yi0.f k (n : Int) s ac ns = _; unfold yi0.f; rw [hwid]; simp only [Option.bind_some, Int.toNat_natCast]; rw [if_pos ⟨by omega, by omega, by unfold good2 inI64; simp; omega⟩, hpad]; simp only [Option.bind_some]; rw [hp]; simp only [Option.bind_some]; rw [if_pos hpl, hr]; rfl
theorem yw1 {n : Nat} {s : Int} {ac : List Bool} {ns : List (List Int)} (h1 : 1 ≤ n) (h3 : n ≤ 3) (hl : ac.length ≤ 2000) (s0 : 0 ≤ s) (s1 : s < (ac.length : Int)) (hT : TableOK (wd n) ac.length ns)
  {r : List Bool × List (List Int)} (hr : TidyIs n s ac ns r) : Ev (fun k => xc0.f k (n : Int) s ac ns) ((n : Int), 0, r.1, r.2, (n : Int), s) := by
 obtain ⟨f0, hd0⟩ := hr; obtain ⟨q1, q2, q3⟩ := zo1 ⟨n, by omega⟩; simp only at q1 q2 q3; obtain ⟨z1, z2, z3⟩ := size_le h1 h3; have hw := wd_le n h3; refine ⟨1000000000, fun k hk => ?_⟩; have hN : ac.length * 2 ^ n ≤ 2000 * 8 := Nat.mul_le_mul hl z3
 have hs : SizeOK (wd n) ac.length (ac.length * 2 ^ n) (2 ^ n) (n : Int) k (padsT n) :=
  ⟨z1, z2, by push_cast; rfl, by omega, q2, q3, fun p c p0 p1 c0 c1 => js2 h3 (by omega) p0 p1 c0 c1⟩
 obtain ⟨p, hp, hp0, hpl, hpT, hpL⟩ := zp2 hs hT rfl s0 s1 (f := k) (by omega); have hb : p.1.length * (2 * p.1.length + wd n + 20) ≤ 16001 * 32048 := Nat.mul_le_mul (by omega) (by omega); obtain ⟨r', hr', hd'⟩ := jk1 (t := (n : Int)) hpT rfl hp0 (by omega) (by omega) (k := k) (f := k) (by omega) (by omega); rw [hpL] at hd'; obtain rfl := kz0 hd0 hd'; have hwid : zw0.f k (n : Int) = some ((wd n : Nat) : Int) := atk (k := 10) (fun k => zw0.mono _ k) (by omega) (qb1 ⟨n, by omega⟩); show xc0.f k (n : Int) s ac ns = _; unfold xc0.f xl0.f; rw [hwid]; simp only [Option.bind_some, Int.toNat_natCast]; rw [if_pos ⟨by omega, by omega, by omega, by omega, by omega⟩, hp]; simp only [Option.bind_some]; rw [if_pos ⟨by omega, fun row hrow => by rw [(hpT.2 row hrow).1]; omega⟩, hr']; rfl
section
variable {K : Type} [DecidableEq K] {good : K → Bool} {acc : K → Option Bool} {next : K → Int → Option K} {W : Nat}
theorem kg1 {nx : Int → Option K} : ∀ (m : Nat) (c : Int) (l : List K) (row : List Int) (l1 : List K) (row1 : List Int), growRow good nx m c l row = some (l1, row1) →
  ∃ e, row1 = row ++ e ∧ e.length = m ∧ l.length ≤ l1.length ∧ ∀ q : Nat, l.length ≤ q → q < l1.length → ∃ j : Nat, j < m ∧ e[j]? = some (q : Int) := by
 intro m
 induction m with
 | zero =>
  intro c l row l1 row1 h; simp only [growRow, Option.some.injEq, Prod.mk.injEq] at h; obtain ⟨rfl, rfl⟩ := h; exact ⟨[], by simp, rfl, Nat.le_refl _, fun q h1 h2 => by omega⟩
 | succ m ih =>
  intro c l row l1 row1 h; simp only [growRow] at h; obtain ⟨t, ht, h⟩ := oB h
  split at h
  ·split at h
   ·obtain ⟨e, he, hm, hl, hq⟩ := ih _ _ _ _ _ h; refine ⟨(l.idxOf t : Int) :: e, by simp [he], by simp [hm], hl, fun q h1 h2 => ?_⟩; obtain ⟨j, hj, hj2⟩ := hq q h1 h2; exact ⟨j + 1, by omega, by simpa using hj2⟩
   ·split at h
    ·obtain ⟨e, he, hm, hl, hq⟩ := ih _ _ _ _ _ h; rw [List.length_append, List.length_singleton] at hl hq; refine ⟨(l.length : Int) :: e, by simp [he], by simp [hm], by omega, fun q h1 h2 => ?_⟩; by_cases e0 : q = l.length
     ·exact ⟨0, by omega, by simp [e0]⟩
     ·obtain ⟨j, hj, hj2⟩ := hq q (by omega) h2; exact ⟨j + 1, by omega, by simpa using hj2⟩
    ·cases h
  ·cases h
def Met (W n : Nat) (rs : List (List Int)) : Prop := ∀ q : Nat, 1 ≤ q → q < n → ∃ (i : Nat) (row : List Int) (j : Nat), i < q ∧ rs[i]? = some row ∧ j < W ∧ row[j]? = some (q : Int)
theorem qa2 : ∀ (f : Nat) (l : List K) (bs : List Bool) (rs : List (List Int)) (r : List Bool × List (List Int)), rs.length = bs.length → bs.length ≤ l.length → Met W l.length rs → growL good acc next W f l bs rs = some r → Met W r.1.length r.2 := by
 intro f
 induction f with
 | zero => intro l bs rs r _ _ _ h; cases h
 | succ f ih =>
  intro l bs rs r hlen hle hM h; simp only [growL] at h
  split at h
  ·next e =>
   obtain rfl := Option.some.inj h; have := List.getElem?_eq_none_iff.1 e; (have e2 : bs.length = l.length := by omega)
   simpa [e2] using hM
  ·next k e =>
   have hi := (List.getElem?_eq_some_iff.1 e).1; obtain ⟨⟨l1, row1⟩, hrow, h⟩ := oB h; obtain ⟨a, ha, h⟩ := oB h; obtain ⟨e1, he1, hm, hl, hq⟩ := kg1 _ _ _ _ _ _ hrow; rw [List.nil_append] at he1; subst he1; refine ih _ _ _ _ (by simp [hlen]) (by simp; omega) (fun q q1 q2 => ?_) h; by_cases c : q < l.length
   ·obtain ⟨i, row, j, h1, h2, h3, h4⟩ := hM q q1 c; exact ⟨i, row, j, h1, by rw [List.getElem?_append_left (List.getElem?_eq_some_iff.1 h2).1]; exact h2, h3, h4⟩
   ·obtain ⟨j, h3, h4⟩ := hq q (by omega) q2; exact ⟨bs.length, row1, j, by omega, by rw [← hlen]; simp, h3, h4⟩
end
/-- The form of a tidy table. -/
theorem zu1 {W f : Nat} {L : List Int → Bool} {r : List Bool × List (List Int)} (h : tidyD W f L = some r) : TableOK W r.1.length r.2 ∧ 0 < r.1.length ∧ r.1.length ≤ 1900000 ∧ Met W r.1.length r.2 := by
 classical
 unfold tidyD at h
 obtain ⟨h1, h2, h3, _⟩ := kg0 (S := fun _ => True) (Λ := fun (L : List Int → Bool) (w : List Int) => L w && w.all fun c => decide (0 ≤ c) && decide (c < (W : Int)))
  (fun k c t _ c0 c1 e => ⟨trivial, fun w => by obtain rfl := Option.some.inj e; simp [c0, c1]⟩) (fun k b _ e => by obtain rfl := Option.some.inj e; simp) (fun k c w hc => by
   by_cases c0 : 0 ≤ c
   ·have : ¬ c < (W : Int) := fun h => hc ⟨c0, h⟩; simp [this]
   ·simp [c0]) (start := L) trivial h
 exact ⟨h1, h2, h3, qa2 _ _ _ _ _ rfl (by simp) (fun q h1 h2 => by simp at h2; omega) h⟩
def mB : Nat → Nat → List Bool
 | _, 0 => []
 | a, n + 1 => (Int.tmod (a : Int) 3 == 0) :: mB (a + 1) n
def mI : Nat → Nat → List Int
 | _, 0 => []
 | a, n + 1 => (a : Int) :: mI (a + 1) n
def mII : Nat → List (List Int) → List (List Int)
 | _, [] => []
 | a, r :: rs => mI a r.length :: mII (a + r.length) rs
def sumL : List (List Int) → Nat
 | [] => 0
 | r :: rs => r.length + sumL rs
instance decTail : DecidableEq (List Bool × List (List Int) × Int) := inferInstance
instance decRel5 : DecidableEq (Int × Int × List Bool × List (List Int) × Int) := fun a b => @instDecidableEqProd _ _ inferInstance (fun x y => @instDecidableEqProd _ _ inferInstance decTail x y) a b
theorem Ev.guard {α β : Type} {g : Nat → Option α} {a : α} {f : Nat → Option β} {r : β} {D : ∀ k, Decidable (g k = some a)} (hg : Ev g a) (h : Ev f r) : Ev (fun k => if g k = some a then f k else none) r := by
 obtain ⟨K, hg⟩ := hg; obtain ⟨L, h⟩ := h; exact ⟨max K L, fun k hk => (if_pos (hg k (by omega))).trans (h k (by omega))⟩
theorem set_mid {α : Type} (p s : List α) (x v : α) : (p ++ x :: s).set p.length v = (p ++ [v]) ++ s := by simp
theorem xw1 {α : Type} (d : α) (p s : List α) (x : α) : (p ++ x :: s).getD p.length d = x := by simp [List.getD_eq_getElem?_getD]
theorem zy2 : ∀ (s p : List Int) (a : Nat), a + s.length ≤ 1152921504606846976 → p.length + s.length ≤ 35184372088832 → Ev (fun k => laws_markInt64S.l0 k (p ++ s) (a : Int) (p.length : Int)) (((a + s.length : Nat) : Int), p ++ mI a s.length) := by
 intro s
 induction s with
 | nil =>
  intro p a h1 h2; apply Ev.succ; simp only [laws_markInt64S.l0]; refine Ev.neg (by simp) ?_; exact Ev.const (by simp [mI])
 | cons x s ih =>
  intro p a h1 h2; simp only [List.length_cons] at h1 h2; apply Ev.succ; simp only [laws_markInt64S.l0]; refine Ev.pos (by simp; omega) (Ev.pos (by omega) ?_); rw [w64 (by omega) (by omega), w64 (by omega) (by omega), Int.toNat_natCast, set_mid]; have h := ih (p ++ [(a : Int)]) (a + 1) (by omega) (by simp; omega); (have e1 : (((p ++ [(a : Int)]).length : Nat) : Int) = (p.length : Int) + 1 := by simp); rw [e1] at h; (have e2 : ((a + 1 : Nat) : Int) = (a : Int) + 1 := by omega); rw [e2] at h; (have e3 : (p ++ [(a : Int)]) ++ mI (a + 1) s.length = p ++ mI a (x :: s).length := by simp [mI]); rw [e3, show a + 1 + s.length = a + (x :: s).length by simp; omega] at h; exact h
theorem zz2 (l : List Int) (a : Nat) (h1 : a + l.length ≤ 1152921504606846976) (h2 : l.length ≤ 35184372088832) : Ev (fun k => laws_markInt64S.f k l (a : Int)) (((a + l.length : Nat) : Int), mI a l.length) := by
 have h := zy2 l [] a h1 (by simpa using h2)
 simpa [laws_markInt64S.f] using h
theorem yg2 : ∀ (n a : Nat) (p : List Int), a + n ≤ 1152921504606846976 → p.length + n ≤ 35184372088832 → Ev (fun k => laws_heldInt64S.l0 k (p ++ mI a n) (a : Int) (p.length : Int)) ((a + n : Nat) : Int) := by
 intro n
 induction n with
 | zero =>
  intro a p h1 h2; apply Ev.succ; simp only [laws_heldInt64S.l0, mI, List.append_nil]; exact Ev.neg (by omega) (Ev.const (by simp))
 | succ n ih =>
  intro a p h1 h2; apply Ev.succ; simp only [laws_heldInt64S.l0, mI]; refine Ev.pos (by simp; omega) (Ev.pos (by omega) (Ev.pos ?_ ?_))
  ·unfold rd; rw [Int.toNat_natCast, xw1]
  ·rw [w64 (by omega) (by omega), w64 (by omega) (by omega)]; have h := ih (a + 1) (p ++ [(a : Int)]) (by omega) (by simp; omega); (have e1 : (((p ++ [(a : Int)]).length : Nat) : Int) = (p.length : Int) + 1 := by simp); (have e2 : ((a + 1 : Nat) : Int) = (a : Int) + 1 := by omega); rw [e1, e2, List.append_assoc, show a + 1 + n = a + (n + 1) by omega] at h; exact h
theorem yh2 (n a : Nat) (h1 : a + n ≤ 1152921504606846976) (h2 : n ≤ 35184372088832) : Ev (fun k => laws_heldInt64S.f k (mI a n) (a : Int)) ((a + n : Nat) : Int) := by
 have h := yg2 n a [] h1 (by simpa using h2)
 simpa [laws_heldInt64S.f] using h
theorem ke2 {rs : List (List Int)} {N : Nat} (h : ∀ x ∈ rs, x.length ≤ N) : sumL rs ≤ rs.length * N := by
 induction rs with
 | nil => simp [sumL]
 | cons r rs ih =>
  have h1 := ih (fun x hx => h x (List.mem_cons_of_mem _ hx)); have h2 := h r (by simp); simp only [sumL, List.length_cons, Nat.add_mul]; omega
theorem jx1 : ∀ (s p : List Bool) (a : Nat), a + s.length ≤ 1152921504606846976 → p.length + s.length ≤ 35184372088832 → Ev (fun k => laws_markBoolS.l0 k (p ++ s) (a : Int) (p.length : Int)) (((a + s.length : Nat) : Int), p ++ mB a s.length) := by
 intro s
 induction s with
 | nil =>
  intro p a h1 h2; apply Ev.succ; simp only [laws_markBoolS.l0]; refine Ev.neg (by simp) ?_; exact Ev.const (by simp [mB])
 | cons x s ih =>
  intro p a h1 h2; simp only [List.length_cons] at h1 h2; apply Ev.succ; simp only [laws_markBoolS.l0]; refine Ev.pos (by simp; omega) (Ev.pos (by omega) ?_); rw [w64 (by omega) (by omega), w64 (by omega) (by omega), Int.toNat_natCast, set_mid]; have h := ih (p ++ [Int.tmod (a : Int) 3 == 0]) (a + 1) (by omega) (by simp; omega); (have e1 : (((p ++ [Int.tmod (a : Int) 3 == 0]).length : Nat) : Int) = (p.length : Int) + 1 := by simp); rw [e1] at h; (have e2 : ((a + 1 : Nat) : Int) = (a : Int) + 1 := by omega); rw [e2] at h; (have e3 : (p ++ [Int.tmod (a : Int) 3 == 0]) ++ mB (a + 1) s.length = p ++ mB a (x :: s).length := by simp [mB]); rw [e3, show a + 1 + s.length = a + (x :: s).length by simp; omega] at h; exact h
theorem yg1 (l : List Bool) (a : Nat) (h1 : a + l.length ≤ 1152921504606846976) (h2 : l.length ≤ 35184372088832) : Ev (fun k => laws_markBoolS.f k l (a : Int)) (((a + l.length : Nat) : Int), mB a l.length) := by
 have h := jx1 l [] a h1 (by simpa using h2)
 simpa [laws_markBoolS.f] using h
theorem kd1 : ∀ (n a : Nat) (p : List Bool), a + n ≤ 1152921504606846976 → p.length + n ≤ 35184372088832 → Ev (fun k => laws_heldBoolS.l0 k (p ++ mB a n) (a : Int) (p.length : Int)) ((a + n : Nat) : Int) := by
 intro n
 induction n with
 | zero =>
  intro a p h1 h2; apply Ev.succ; simp only [laws_heldBoolS.l0, mB, List.append_nil]; exact Ev.neg (by omega) (Ev.const (by simp))
 | succ n ih =>
  intro a p h1 h2; apply Ev.succ; simp only [laws_heldBoolS.l0, mB]; refine Ev.pos (by simp; omega) (Ev.pos (by omega) (Ev.neg ?_ ?_))
  ·rw [show rdOf false (p ++ (Int.tmod (a : Int) 3 == 0) :: mB (a + 1) n) (p.length : Int) = (Int.tmod (a : Int) 3 == 0) by unfold rdOf; rw [Int.toNat_natCast, xw1]]; simp
  ·rw [w64 (by omega) (by omega), w64 (by omega) (by omega)]; have h := ih (a + 1) (p ++ [Int.tmod (a : Int) 3 == 0]) (by omega) (by simp; omega); (have e1 : (((p ++ [Int.tmod (a : Int) 3 == 0]).length : Nat) : Int) = (p.length : Int) + 1 := by simp); (have e2 : ((a + 1 : Nat) : Int) = (a : Int) + 1 := by omega); rw [e1, e2, List.append_assoc, show a + 1 + n = a + (n + 1) by omega] at h; exact h
theorem ke1 (n a : Nat) (h1 : a + n ≤ 1152921504606846976) (h2 : n ≤ 35184372088832) : Ev (fun k => laws_heldBoolS.f k (mB a n) (a : Int)) ((a + n : Nat) : Int) := by
 have h := kd1 n a [] h1 (by simpa using h2)
 simpa [laws_heldBoolS.f] using h
theorem jw1 : ∀ (s p : List (List Int)) (a : Nat), a + sumL s ≤ 1152921504606846976 → p.length + s.length ≤ 35184372088832 → (∀ x ∈ s, x.length ≤ 35184372088832) →
  Ev (fun k => laws_markInt64SS.l0 k (p ++ s) (a : Int) (p.length : Int)) (((a + sumL s : Nat) : Int), p ++ mII a s) := by
 intro s
 induction s with
 | nil =>
  intro p a h1 h2 _; apply Ev.succ; simp only [laws_markInt64SS.l0]; refine Ev.neg (by simp) ?_; exact Ev.const (by simp [mII, sumL])
 | cons x s ih =>
  intro p a h1 h2 h3; simp only [List.length_cons, sumL] at h1 h2; apply Ev.succ; simp only [laws_markInt64SS.l0]; refine Ev.pos (by simp; omega) (Ev.pos (by omega) ?_); rw [Int.toNat_natCast, xw1, w64 (by omega) (by omega)]; refine Ev.bind (zz2 x a (by omega) (h3 x (by simp))) ?_; simp only; rw [set_mid]; have h := ih (p ++ [mI a x.length]) (a + x.length) (by omega) (by simp; omega) (fun y hy => h3 y (List.mem_cons_of_mem _ hy)); (have e1 : (((p ++ [mI a x.length]).length : Nat) : Int) = (p.length : Int) + 1 := by simp); rw [e1, List.append_assoc (cs := mII _ _), show a + x.length + sumL s = a + sumL (x :: s) by simp [sumL]; omega] at h; exact h
theorem yf1 (l : List (List Int)) (a : Nat) (h1 : a + sumL l ≤ 1152921504606846976) (h2 : l.length ≤ 35184372088832) (h3 : ∀ x ∈ l, x.length ≤ 35184372088832) : Ev (fun k => laws_markInt64SS.f k l (a : Int)) (((a + sumL l : Nat) : Int), mII a l) := by
 have h := jw1 l [] a h1 (by simpa using h2) h3
 simpa [laws_markInt64SS.f] using h
theorem kb1 : ∀ (s p : List (List Int)) (a : Nat), a + sumL s ≤ 1152921504606846976 → p.length + s.length ≤ 35184372088832 → (∀ x ∈ s, x.length ≤ 35184372088832) →
  Ev (fun k => laws_heldInt64SS.l0 k (p ++ mII a s) (a : Int) (p.length : Int)) ((a + sumL s : Nat) : Int) := by
 intro s
 induction s with
 | nil =>
  intro p a h1 h2 _; apply Ev.succ; simp only [laws_heldInt64SS.l0, mII, List.append_nil]; exact Ev.neg (by omega) (Ev.const (by simp [sumL]))
 | cons x s ih =>
  intro p a h1 h2 h3; simp only [List.length_cons, sumL] at h1 h2; apply Ev.succ; simp only [laws_heldInt64SS.l0, mII]; refine Ev.pos (by simp; omega) (Ev.pos (by omega) ?_); rw [w64 (by omega) (by omega), jd0 _ _ (by simp)]; rw [show (p ++ mI a x.length :: mII (a + x.length) s)[p.length] = mI a x.length by simp]; refine Ev.bind (yh2 x.length a (by omega) (h3 x (by simp))) (Ev.neg (by omega) ?_); have h := ih (p ++ [mI a x.length]) (a + x.length) (by omega) (by simp; omega) (fun y hy => h3 y (List.mem_cons_of_mem _ hy)); (have e1 : (((p ++ [mI a x.length]).length : Nat) : Int) = (p.length : Int) + 1 := by simp); rw [e1, List.append_assoc, show a + x.length + sumL s = a + sumL (x :: s) by simp [sumL]; omega] at h; exact h
theorem kc1 (l : List (List Int)) (a : Nat) (h1 : a + sumL l ≤ 1152921504606846976) (h2 : l.length ≤ 35184372088832) (h3 : ∀ x ∈ l, x.length ≤ 35184372088832) : Ev (fun k => laws_heldInt64SS.f k (mII a l) (a : Int)) ((a + sumL l : Nat) : Int) := by
 have h := kb1 l [] a h1 (by simpa using h2) h3
 simpa [laws_heldInt64SS.f] using h
theorem zv1 {ac : List Bool} {ns : List (List Int)} (h : SzOK ac ns) : sumL ns ≤ 1099511627776 := by
 have := ke2 h.2.2; have h2 : ns.length * 1048576 ≤ 1048576 * 1048576 := Nat.mul_le_mul_right _ h.2.1; omega
theorem yf2 (t s : Int) (ac : List Bool) (ns : List (List Int)) (h : SzOK ac ns) (a : Nat) (ha : a ≤ 1048576) : Ev (fun k => laws_heldRelation.f k t s (mB a ac.length) (mII (a + ac.length) ns) (a : Int)) ((a + ac.length + sumL ns : Nat) : Int) := by
 have h0 := zv1 h; have h1 := h.1; have h2 := h.2.1; unfold laws_heldRelation.f; refine Ev.bind (ke1 ac.length a (by omega) (by omega)) (Ev.neg (by omega) ?_); refine Ev.bind (kc1 ns (a + ac.length) (by omega) (by omega) (fun x hx => by have := h.2.2 x hx; omega)) (Ev.neg (by omega) (Ev.now _))
theorem zf2 (l : List Bool) (h : l.length ≤ 1000000000) : zq0.f l = some l := by
 unfold zq0.f; simp; exact h
theorem qt1 (t s : Int) (ac : List Bool) (ns : List (List Int)) (hl : ns.length ≤ 1048576) (hr : ∀ x ∈ ns, x.length ≤ 1048576) (d : Nat) : ∀ i : Nat, i + d = ns.length → Ev (fun k => zl0.l0 k ns (ns.length : Int) (i : Int) t s ac (ns.take i)) (t, s, ac, ns) := by
 induction d with
 | zero =>
  intro i hi; apply Ev.succ; simp only [zl0.l0]; refine Ev.neg (by omega) (Ev.const ?_); rw [List.take_of_length_le (by omega)]
 | succ d ih =>
  intro i hi; apply Ev.succ; simp only [zl0.l0]; refine Ev.pos (by omega) (Ev.pos (by omega) (Ev.pos (by omega) ?_)); rw [jd0 ns i (by omega)]; have hri := hr _ (List.getElem_mem (show i < ns.length by omega))
  have inner : ∀ (e j : Nat), j + e = ns[i].length → Ev (fun k => zl0.l1 k (ns[i].take j) ns (ns.length : Int) (i : Int) ns[i] (ns[i].length : Int) (j : Int) t s ac (ns.take i)) (t, s, ac, ns) := by
   intro e
   induction e with
   | zero =>
    intro j hj; apply Ev.succ; simp only [zl0.l1]; refine Ev.neg (by omega) (Ev.pos (by simp; omega) ?_); rw [w64 (by omega) (by omega), show ns[i].take j = ns[i] from List.take_of_length_le (by omega), List.take_append_getElem (show i < ns.length by omega)]; exact ih (i + 1) (by omega)
   | succ e ihe =>
    intro j hj; apply Ev.succ; simp only [zl0.l1]; refine Ev.pos (by omega) (Ev.pos (by omega) (Ev.pos (by omega) (Ev.pos (by simp; omega) ?_))); rw [w64 (by omega) (by omega), rd_nat _ _ (by omega), List.take_append_getElem (by omega)]; exact ihe (j + 1) (by omega)
  exact inner ns[i].length 0 (by omega)
theorem qu1 (t s : Int) (ac : List Bool) (ns : List (List Int)) (h : SzOK ac ns) : Ev (fun k => zl0.f k t s ac ns) (t, s, ac, ns) := by
 unfold zl0.f; exact Ev.bind (Ev.const (zf2 ac (by have := h.1; omega))) (qt1 t s ac ns h.2.1 h.2.2 ns.length 0 (by omega))
theorem yp2 (l : List Int) (hl : l.length ≤ 1048576) (d : Nat) : ∀ i : Nat, i + d = l.length → Ev (fun k => yt0.l0 k (l.take i) l (l.length : Int) (i : Int)) l := by
 induction d with
 | zero =>
  intro i hi; apply Ev.succ; simp only [yt0.l0]; refine Ev.neg (by omega) (Ev.const ?_); rw [List.take_of_length_le (by omega)]
 | succ d ih =>
  intro i hi; apply Ev.succ; simp only [yt0.l0]; refine Ev.pos (by omega) (Ev.pos (by omega) (Ev.pos (by omega) (Ev.pos (by simp; omega) ?_))); rw [w64 (by omega) (by omega), rd_nat _ _ (by omega), List.take_append_getElem (by omega)]; exact ih (i + 1) (by omega)
theorem yq2 (l : List Int) (hl : l.length ≤ 1048576) : Ev (fun k => yt0.f k l) l := yp2 l hl l.length 0 (by omega)
theorem xo1 (t s : Int) (ac : List Bool) (ns : List (List Int)) (hl : ns.length ≤ 1048576) (hr : ∀ x ∈ ns, x.length ≤ 1048576) (d : Nat) : ∀ i : Nat, i + d = ns.length → Ev (fun k => zd0.l0 k ns (ns.length : Int) (i : Int) t s ac (ns.take i)) (t, s, ac, ns, 0) := by
 induction d with
 | zero =>
  intro i hi; apply Ev.succ; simp only [zd0.l0]; refine Ev.neg (by omega) (Ev.const ?_); rw [List.take_of_length_le (by omega)]
 | succ d ih =>
  intro i hi; apply Ev.succ; simp only [zd0.l0]; refine Ev.pos (by omega) (Ev.pos (by omega) (Ev.pos (by omega) ?_)); refine Ev.bind (a := ns[i]) (by have h_ := yq2 ns[i] (hr _ (List.getElem_mem (by omega))); have e_ : ns.getD (i : Int).toNat [] = ns[i] := (by simp [List.getD_eq_getElem?_getD, show i < ns.length by omega]); rw [← e_] at h_ ⊢; exact h_) (Ev.pos (by simp; omega) ?_); rw [w64 (by omega) (by omega), List.take_append_getElem (by omega)]; exact ih (i + 1) (by omega)
/-- What is told of a tidy table: too many states, or the table. -/
def told (t s : Int) (ac : List Bool) (ns : List (List Int)) : Int × Int × List Bool × List (List Int) × Int := if ac.length ≤ 150 then (t, s, ac, ns, 0) else (0, 0, [], [], 3)
theorem xp1 (t s : Int) (ac : List Bool) (ns : List (List Int)) (h2 : ac.length = ns.length) (hr : ∀ x ∈ ns, x.length ≤ 1048576) : Ev (fun k => zd0.f k t s ac ns) (told t s ac ns) := by
 unfold zd0.f told; by_cases c : ac.length ≤ 150
 ·rw [if_pos c]; exact Ev.neg (by omega) (Ev.bind (Ev.const (zf2 ac (by omega))) (xo1 t s ac ns (by omega) hr ns.length 0 (by omega)))
 ·rw [if_neg c]; exact Ev.pos (by omega) (Ev.now _)
theorem kb2 {W : Nat} {t s : Int} {ac : List Bool} {ns : List (List Int)} (hT : TableOK W ac.length ns) (hW : W ≤ 1000) : SzOK (told t s ac ns).2.2.1 (told t s ac ns).2.2.2.1 := by
 unfold told
 split
 ·exact ⟨by simp only; omega, by simp only; rw [hT.1]; omega, fun x hx => by simp only at hx; rw [(hT.2 x hx).1]; omega⟩
 ·exact ⟨by simp, by simp, by simp⟩
theorem xa2 {n : Nat} {s : Int} {ac : List Bool} {ns : List (List Int)} {r : List Bool × List (List Int)} (h : SzOK ac ns) (hi : Ev (fun k => yi0.f k (n : Int) s ac ns) ((n : Int), 0, r.1, r.2)) : Ev (fun k => qj0.f k (n : Int) s ac ns) ((n : Int), 0, r.1, r.2) := by
 unfold qj0.f; exact Ev.bind (qu1 _ s ac ns h) (Ev.bind hi (Ev.now _))
theorem jp1 (t s : Int) (ac : List Bool) (ns : List (List Int)) (h : SzOK ac ns) : Ev (fun k => xr0.f k t s ac ns) (okRel t s ac ns) := by
 unfold xr0.f; exact Ev.bind (zn2 t s ac ns h) (Ev.pos ⟨rfl, rfl⟩ (Ev.now _))
theorem zw1 {n : Nat} {s : Int} {ac : List Bool} {ns : List (List Int)} {r : List Bool × List (List Int)} (h : Ev (fun k => xc0.f k (n : Int) s ac ns) ((n : Int), 0, r.1, r.2, (n : Int), s)) : Ev (fun k => yx0.f k (n : Int) s ac ns) ((n : Int), 0, r.1, r.2) := by
 unfold yx0.f; exact Ev.bind h (Ev.now _)
theorem yj2 {K : Type} [DecidableEq K] {good : K → Bool} {acc : K → Option Bool} {next : K → Int → Option K} {W : Nat} : ∀ (f : Nat) (l : List K) (bs : List Bool) (rs : List (List Int)) (r : List Bool × List (List Int)), growL good acc next W f l bs rs = some r → r.1.length < f + bs.length := by
 intro f
 induction f with
 | zero => intro l bs rs r h; simp [growL] at h
 | succ f ih =>
  intro l bs rs r h; simp only [growL] at h
  cases e : l[bs.length]? with
  | none =>
   rw [e] at h; obtain rfl := Option.some.inj h; show bs.length < _; omega
  | some k =>
   rw [e] at h; obtain ⟨p, h1, h⟩ := oB h; obtain ⟨a, h2, h⟩ := oB h; have := ih _ _ _ _ h; rw [List.length_append, List.length_singleton] at this; omega
theorem yz2 {n : Nat} {s : Int} {ac : List Bool} {ns : List (List Int)} (h3 : n ≤ 3) (hl : ac.length ≤ 2000) (s0 : 0 ≤ s) (s1 : s < (ac.length : Int)) (hT : TableOK (wd n) ac.length ns) {r : List Bool × List (List Int)} (h : TidyIs n s ac ns r) : r.1.length ≤ ac.length * 8 + 1 := by
 classical
 obtain ⟨f0, hd⟩ := h; obtain ⟨q1, q2, q3⟩ := zo1 ⟨n, by omega⟩; simp only at q1 q2 q3
 have z2 : (2 : Int) ^ n ≤ 8 := by
  have : n = 0 ∨ n = 1 ∨ n = 2 ∨ n = 3 := by omega
  rcases this with rfl | rfl | rfl | rfl <;> decide
 let F : Nat → (List Int → Bool) := fun i => lngR (wd n) (padsT n) ac ns (((i / 8 : Nat) : Int), ((i % 8 : Nat) : Int))
 let U : List (List Int → Bool) := (fun _ => false) :: (List.range (ac.length * 8)).map F
 have hUl : U.length = ac.length * 8 + 1 := by simp [U]
 have hin : ∀ q p : Int, 0 ≤ q → q < (ac.length : Int) → 0 ≤ p → p < 8 → lngR (wd n) (padsT n) ac ns (q, p) ∈ U := by
  intro q p a0 a1 b0 b1; refine List.mem_cons_of_mem _ (List.mem_map.2 ⟨q.toNat * 8 + p.toNat, List.mem_range.2 (by omega), ?_⟩); show lngR _ _ _ _ _ = _; rw [show (q.toNat * 8 + p.toNat) / 8 = q.toNat by omega, show (q.toNat * 8 + p.toNat) % 8 = p.toNat by omega, show ((q.toNat : Nat) : Int) = q by omega, show ((p.toNat : Nat) : Int) = p by omega]
 have hnx : ∀ (L : List Int → Bool) (c : Int), L ∈ U → 0 ≤ c → c < ((wd n : Nat) : Int) → ∃ t, (some fun w => L (c :: w)) = some t ∧ (fun _ : List Int → Bool => true) t = true ∧ t ∈ U := by
  intro L c hL c0 c1; refine ⟨_, rfl, rfl, ?_⟩
  rcases List.mem_cons.1 hL with rfl | hL
  ·exact List.mem_cons_self
  ·obtain ⟨i, hi, rfl⟩ := List.mem_map.1 hL; have hi2 := List.mem_range.1 hi; by_cases hb : bits .andNot .i64 ((i % 8 : Nat) : Int) (rd (padsT n) c) = 0
   ·have e : (fun w => F i (c :: w)) = lngR (wd n) (padsT n) ac ns (stp ns ((i / 8 : Nat) : Int) c, rd (padsT n) c) := by
     funext w
     show lngR _ _ _ _ _ (c :: w) = _; rw [lngR]; simp only [hb]; rw [decide_eq_true c0, decide_eq_true c1, decide_eq_true (show (0 : Int) ≤ ((i % 8 : Nat) : Int) by omega)]; simp
    rw [e]; have hq := hT.stpd (q := ((i / 8 : Nat) : Int)) (by omega) (by omega) c0 c1
    have hp := q3 (rd (padsT n) c) (by
     (have hc : c.toNat < (padsT n).length := by omega); show (padsT n).getD c.toNat 0 ∈ padsT n; rw [List.getD_eq_getElem?_getD, List.getElem?_eq_getElem hc]
     exact List.getElem_mem hc)
    exact hin _ _ hq.1 hq.2 hp.1 (by omega)
   ·have e : (fun w => F i (c :: w)) = fun _ => false := by
     funext w
     show lngR _ _ _ _ _ (c :: w) = _; rw [lngR]; simp only [decide_eq_false hb, Bool.false_and, Bool.and_false]
    rw [e]; exact List.mem_cons_self
 obtain ⟨r', hr'⟩ := kb0 (U := U) (by omega) (acc := fun L => some (L [])) hnx (fun k _ => ⟨_, rfl⟩) (ac.length * 8 + 2) [lngR (wd n) (padsT n) ac ns (s, 0)] [] [] (by simp) (fun k hk => by rw [List.mem_singleton] at hk; subst hk; exact hin _ _ s0 s1 (by omega) (by omega)) (by simp) (by simp only [List.length_nil]; omega); have e := kz0 (W := wd n) (f := f0) (g := ac.length * 8 + 2) hd hr'; subst e; have := yj2 _ _ _ _ _ hr'; simp only [List.length_nil] at this; omega
def inW (W : Nat) (w : List Int) : Bool := w.all fun c => decide (0 ≤ c) && decide (c < (W : Int))
def runT (ns : List (List Int)) : Int → List Int → Int
 | q, [] => q
 | q, c :: w => runT ns (stp ns q c) w
/-- Right columns behind the pads p. -/
def okW (W : Nat) (pads : List Int) : Int → List Int → Bool
 | p, [] => decide (0 ≤ p)
 | p, c :: w => decide (0 ≤ c) && (decide (c < (W : Int)) && (decide (0 ≤ p) && (decide (bits .andNot .i64 p (rd pads c) = 0) && okW W pads (rd pads c) w)))
theorem ka1 (W : Nat) (pads : List Int) (ac : List Bool) (ns : List (List Int)) : ∀ (w : List Int) (q p : Int), lngR W pads ac ns (q, p) w = (okW W pads p w && rdOf false ac (runT ns q w)) := by
 intro w
 induction w with
 | nil => intro q p; rfl
 | cons c w ih =>
  intro q p; simp only [lngR, okW, runT, ih]; simp only [Bool.and_assoc]
theorem lng_eq (W : Nat) (ac : List Bool) (ns : List (List Int)) : ∀ (w : List Int) (q : Int), lng W ac ns q w = (inW W w && rdOf false ac (runT ns q w)) := by
 intro w
 induction w with
 | nil => intro q; rfl
 | cons c w ih =>
  intro q; simp only [lng, inW, List.all_cons, runT, ih]; simp only [Bool.and_assoc, inW]
theorem okW_in {W : Nat} {pads : List Int} : ∀ {w : List Int} {p : Int}, okW W pads p w = true → inW W w = true := by
 intro w
 induction w with
 | nil => intro p _; rfl
 | cons c w ih =>
  intro p h; simp only [okW, Bool.and_eq_true, decide_eq_true_eq] at h; simp only [inW, List.all_cons, Bool.and_eq_true, decide_eq_true_eq]; exact ⟨⟨h.1, h.2.1⟩, ih h.2.2.2.2⟩
theorem xb2 {W f : Nat} {L : List Int → Bool} {r : List Bool × List (List Int)} (h : tidyD W f L = some r) (w : List Int) : lng W r.1 r.2 0 w = (L w && inW W w) := by
 classical
 unfold tidyD at h
 obtain ⟨h1, h2, h3, h4⟩ := kg0 (S := fun _ => True) (Λ := fun (L : List Int → Bool) (w : List Int) => L w && w.all fun c => decide (0 ≤ c) && decide (c < (W : Int)))
  (fun k c t _ c0 c1 e => ⟨trivial, fun w => by obtain rfl := Option.some.inj e; simp [c0, c1]⟩) (fun k b _ e => by obtain rfl := Option.some.inj e; simp) (fun k c w hc => by
   by_cases c0 : 0 ≤ c
   ·have : ¬ c < (W : Int) := fun h => hc ⟨c0, h⟩; simp [this]
   ·simp [c0]) (start := L) trivial h
 rw [h4]; rfl
/-- A tidy table takes, of what is right, just what its language takes. -/
theorem qt2 {n : Nat} {s : Int} {ac : List Bool} {ns : List (List Int)} {r : List Bool × List (List Int)} (h : TidyIs n s ac ns r) {w : List Int} (hw : okW (wd n) (padsT n) 0 w = true) : rdOf false r.1 (runT r.2 0 w) = rdOf false ac (runT ns s w) := by
 obtain ⟨f, h⟩ := h; have h1 := xb2 h w; rw [lng_eq, okW_in hw, Bool.true_and, Bool.and_true, ka1, hw, Bool.true_and] at h1; exact h1
/-- Tables that take the same right lists have the same tidy table. -/
theorem qs2 {n : Nat} {s s' : Int} {ac ac' : List Bool} {ns ns' : List (List Int)} {r : List Bool × List (List Int)} (h : TidyIs n s ac ns r) (he : ∀ w, okW (wd n) (padsT n) 0 w = true → rdOf false ac (runT ns s w) = rdOf false ac' (runT ns' s' w)) : TidyIs n s' ac' ns' r := by
 obtain ⟨f, h⟩ := h; refine ⟨f, ?_⟩; rw [← h]
 congr 1
 funext w
 rw [ka1, ka1]; by_cases c : okW (wd n) (padsT n) 0 w = true
 ·rw [he w c]
 ·rw [Bool.not_eq_true] at c; rw [c, Bool.false_and, Bool.false_and]
theorem qu2 {W : Nat} {f : Nat → Int} {c : Nat} (h : c < W) : (X.tabR W f).getD c 0 = f c := by
 simp [X.tabR, List.getD_eq_getElem?_getD, h]
theorem qx2 {N W : Nat} {f : Nat → Nat → Int} {q : Nat} (h : q < N) : (X.tabN N W f).getD q [] = X.tabR W (f q) := by
 simp [X.tabN, List.getD_eq_getElem?_getD, h]
section
variable {W V N : Nat} {C : Nat → Nat} {ns : List (List Int)}
theorem yb2 (hT : TableOK V N ns) (hC : ∀ c, c < W → C c ≤ V) {q c : Nat} (hq : q < N) (hc : c < W) : 0 ≤ X.mapC C V ns q c ∧ X.mapC C V ns q c < (N : Int) := by
 unfold X.mapC; by_cases e : C c = V
 ·rw [if_pos e]; omega
 ·rw [if_neg e]; (have hl : q < ns.length := by rw [hT.1]; exact hq); have hrow := hT.2 _ (List.getElem_mem hl); (have hlt : C c < (ns[q]).length := by rw [hrow.1]; have := hC c hc; omega); have := hrow.2 _ (List.getElem_mem hlt); simp only [List.getD_eq_getElem?_getD, List.getElem?_eq_getElem hl, Option.getD_some, List.getElem?_eq_getElem hlt]; exact this
theorem tab_ok (hT : TableOK V N ns) (hC : ∀ c, c < W → C c ≤ V) : TableOK W N (X.tabN N W (X.mapC C V ns)) := by
 refine ⟨X.jw0 _ _ _, fun row hrow => ⟨X.qw2 hrow, fun x hx => ?_⟩⟩; simp only [X.tabN, List.mem_map, List.mem_range] at hrow; obtain ⟨q, hq, rfl⟩ := hrow; simp only [X.tabR, List.mem_map, List.mem_range] at hx; obtain ⟨c, hc, rfl⟩ := hx; exact yb2 hT hC hq hc
theorem kd2 (ns : List (List Int)) {q c : Int} (q0 : 0 ≤ q) (q1 : q < (N : Int)) (c0 : 0 ≤ c) (c1 : c < (W : Int)) : stp (X.tabN N W (X.mapC C V ns)) q c = if C c.toNat = V then q else stp ns q (C c.toNat : Int) := by
 unfold stp; rw [qx2 (by omega)]; show (X.tabR W _).getD c.toNat 0 = _; rw [qu2 (by omega)]; unfold X.mapC; by_cases e : C c.toNat = V
 ·rw [if_pos e, if_pos e]; omega
 ·rw [if_neg e, if_neg e]; simp [rd]
/-- The columns that are read. -/
def proj (C : Nat → Nat) (V : Nat) : List Int → List Int
 | [] => []
 | c :: w => if C c.toNat = V then proj C V w else (C c.toNat : Int) :: proj C V w
theorem xe2 (hT : TableOK V N ns) (hC : ∀ c, c < W → C c ≤ V) : ∀ (w : List Int) (q : Int), inW W w = true → 0 ≤ q → q < (N : Int) → runT (X.tabN N W (X.mapC C V ns)) q w = runT ns q (proj C V w) := by
 intro w
 induction w with
 | nil => intro q _ _ _; rfl
 | cons c w ih =>
  intro q h q0 q1; simp only [inW, List.all_cons, Bool.and_eq_true, decide_eq_true_eq] at h; simp only [runT]; rw [kd2 ns q0 q1 h.1.1 h.1.2]; unfold proj; by_cases e : C c.toNat = V
  ·rw [if_pos e, if_pos e]; exact ih q h.2 q0 q1
  ·rw [if_neg e, if_neg e]; have hc := hC c.toNat (by omega); have := hT.stpd q0 q1 (c := (C c.toNat : Int)) (by omega) (by omega); simp only [runT]; exact ih _ h.2 this.1 this.2
end
/-- The pads without those of a tape. -/
def remB (a p : Nat) : Nat := p % 2 ^ a + p / 2 ^ (a + 1) * 2 ^ a
/-- Everything that is asked of n tapes and a place, to be evaluated. -/
def addFin (n a : Nat) : Bool :=
 (zr0.f 20 ((n : Int) + 1) == some ((wd (n + 1) : Nat) : Int)) && (zr0.f 20 (n : Int) == some ((wd n : Nat) : Int)) && (zw0.f 20 ((n : Int) + 1) == some ((wd (n + 1) : Nat) : Int)) && (zw0.f 20 (n : Int) == some ((wd n : Nat) : Int)) &&
 ((List.range (wd (n + 1))).all fun c =>
  (match zv0.f 20 ((n : Int) + 1) (c : Int) with
   | some ds => decide (a < ds.length) && decide (ds.length < 1000) && (yr0.f 20 (ds.eraseIdx a) == some ((colA ((n : Int) + 1) (a : Int) c : Nat) : Int))
   | none => false) &&
  decide (colA ((n : Int) + 1) (a : Int) c ≤ wd n) && (yq0.f 20 (c : Int) ((n : Int) + 1) (a : Int) == some ((colS ((n : Int) + 1) (a : Int) c : Nat) : Int)) && decide (colS ((n : Int) + 1) (a : Int) c = colA ((n : Int) + 1) (a : Int) c))
def addPads (n a : Nat) : Bool :=
 ((List.range (2 ^ (n + 1))).all fun p => (List.range (wd (n + 1))).all fun c => !decide (bits .andNot .i64 (p : Int) (rd (padsT (n + 1)) (c : Int)) = 0) ||
  (if colA ((n : Int) + 1) (a : Int) c = wd n then decide (remB a (rd (padsT (n + 1)) (c : Int)).toNat = 2 ^ n - 1)
   else decide (bits .andNot .i64 ((remB a p : Nat) : Int) (rd (padsT n) (colA ((n : Int) + 1) (a : Int) c : Int)) = 0) && decide (rd (padsT n) (colA ((n : Int) + 1) (a : Int) c : Int) = ((remB a (rd (padsT (n + 1)) (c : Int)).toNat : Nat) : Int)))) &&
 ((List.range (2 ^ n)).all fun p => (List.range (wd n)).all fun c => !decide (bits .andNot .i64 (((2 ^ n - 1 : Nat)) : Int) (rd (padsT n) (c : Int)) = 0) || decide (bits .andNot .i64 (p : Int) (rd (padsT n) (c : Int)) = 0)) &&
 ((List.range (2 ^ (n + 1))).all fun p => decide (remB a p < 2 ^ n))
theorem yt2 : ∀ n : Fin 3, ∀ a : Fin 3, 1 ≤ n.val → a.val ≤ n.val → addFin n.val a.val = true := by decide +kernel
theorem kp1 : ∀ n : Fin 3, ∀ a : Fin 3, 1 ≤ n.val → a.val ≤ n.val → addPads n.val a.val = true := by decide +kernel
structure AddFacts (n a : Nat) : Prop where
 wi : zr0.f 20 ((n : Int) + 1) = some ((wd (n + 1) : Nat) : Int)
 vi : zr0.f 20 (n : Int) = some ((wd n : Nat) : Int)
 ws : zw0.f 20 ((n : Int) + 1) = some ((wd (n + 1) : Nat) : Int)
 vs : zw0.f 20 (n : Int) = some ((wd n : Nat) : Int)
 col : ∀ c, c < wd (n + 1) → (∃ ds, zv0.f 20 ((n : Int) + 1) (c : Int) = some ds ∧ (a < ds.length ∧ ds.length < 1000) ∧ yr0.f 20 (ds.eraseIdx a) = some ((colA ((n : Int) + 1) (a : Int) c : Nat) : Int)) ∧ colA ((n : Int) + 1) (a : Int) c ≤ wd n
 cols : ∀ c, c < wd (n + 1) → yq0.f 20 (c : Int) ((n : Int) + 1) (a : Int) = some ((colS ((n : Int) + 1) (a : Int) c : Nat) : Int) ∧ colS ((n : Int) + 1) (a : Int) c = colA ((n : Int) + 1) (a : Int) c
theorem jf1 {n a : Nat} (h1 : 1 ≤ n) (h2 : n ≤ 2) (ha : a ≤ n) : AddFacts n a := by
 have h := yt2 ⟨n, by omega⟩ ⟨a, by omega⟩ h1 ha; simp only [addFin, Bool.and_eq_true, beq_iff_eq, List.all_eq_true, List.mem_range, decide_eq_true_eq] at h; obtain ⟨⟨⟨⟨e1, e2⟩, e3⟩, e4⟩, e5⟩ := h; refine ⟨e1, e2, e3, e4, fun c hc => ?_, fun c hc => ?_⟩
 ·obtain ⟨⟨⟨q1, q2⟩, q3⟩, q4⟩ := e5 c hc; refine ⟨?_, q2⟩
  cases hd : zv0.f 20 ((n : Int) + 1) (c : Int) with
  | none => rw [hd] at q1; cases q1
  | some ds =>
   rw [hd] at q1; simp only [Bool.and_eq_true, decide_eq_true_eq, beq_iff_eq] at q1; exact ⟨ds, rfl, q1.1, q1.2⟩
 ·obtain ⟨⟨⟨q1, q2⟩, q3⟩, q4⟩ := e5 c hc; exact ⟨q3, q4⟩
/-- What is right stays right where a tape is left out. -/
theorem zs2 {n a : Nat} (h1 : 1 ≤ n) (h2 : n ≤ 2) (ha : a ≤ n) : ∀ (w : List Int) (p : Nat), p < 2 ^ (n + 1) → okW (wd (n + 1)) (padsT (n + 1)) (p : Int) w = true → okW (wd n) (padsT n) ((remB a p : Nat) : Int) (proj (colA ((n : Int) + 1) (a : Int)) (wd n) w) = true := by
 have h := kp1 ⟨n, by omega⟩ ⟨a, by omega⟩ h1 ha; simp only [addPads, Bool.and_eq_true, List.all_eq_true, List.mem_range] at h; obtain ⟨⟨f1, f2⟩, f3⟩ := h; have hcol := (jf1 h1 h2 ha).col; obtain ⟨z1, z2, z3⟩ := zo1 ⟨n + 1, by omega⟩; simp only at z1 z2 z3; intro w
 induction w with
 | nil => intro p _ _; simp [proj, okW]
 | cons c w ih =>
  intro p hp hw; simp only [okW, Bool.and_eq_true, decide_eq_true_eq] at hw; obtain ⟨c0, c1, p0, hb, hok⟩ := hw; obtain ⟨c, rfl⟩ := Int.eq_ofNat_of_zero_le c0; (have hc : c < wd (n + 1) := by omega); have hpr := X.kp0 z3 (i := (c : Int)) (by omega) (by rw [z2]; omega); (have hpn : rd (padsT (n + 1)) (c : Int) = (((rd (padsT (n + 1)) (c : Int)).toNat : Nat) : Int) := by omega)
  have hp2 : (rd (padsT (n + 1)) (c : Int)).toNat < 2 ^ (n + 1) := by
   have h_ : ((rd (padsT (n + 1)) (c : Int)).toNat : Int) < ((2 ^ (n + 1) : Nat) : Int) := by rw [← hpn]; push_cast; exact hpr.2
   exact_mod_cast h_
  have ih2 := ih _ hp2 (by rw [← hpn]; exact hok); have q := f1 p hp c hc; simp only [Bool.or_eq_true, Bool.not_eq_true', decide_eq_false_iff_not] at q; have q := q.resolve_left (fun h => h hb); unfold proj; simp only [Int.toNat_natCast]; by_cases e : colA ((n : Int) + 1) (a : Int) c = wd n
  ·rw [if_pos e] at q ⊢
   rw [decide_eq_true_eq] at q; rw [q] at ih2
   cases hu : proj (colA ((n : Int) + 1) (a : Int)) (wd n) w with
   | nil => simp [okW]
   | cons d u =>
    rw [hu] at ih2
    simp only [okW, Bool.and_eq_true, decide_eq_true_eq] at ih2 ⊢
    obtain ⟨d0, d1, _, d3, d4⟩ := ih2; obtain ⟨d, rfl⟩ := Int.eq_ofNat_of_zero_le d0; refine ⟨d0, d1, by omega, ?_, d4⟩; have r := f2 (remB a p) (of_decide_eq_true (f3 p hp)) d (by omega); simp only [Bool.or_eq_true, Bool.not_eq_true', decide_eq_false_iff_not] at r; exact of_decide_eq_true (r.resolve_left (fun h => h d3))
  ·rw [if_neg e] at q ⊢
   simp only [Bool.and_eq_true, decide_eq_true_eq] at q; simp only [okW, Bool.and_eq_true, decide_eq_true_eq]; have := (hcol c hc).2; refine ⟨by omega, by omega, by omega, q.1, ?_⟩; rw [q.2]; exact ih2
theorem xl2 (a : Nat) : remB a 0 = 0 := by simp [remB]
open Classical in
theorem jg1 {t s at_ : Int} {ac : List Bool} {ns : List (List Int)} (h : SzOK ac ns) :
  ∃ r : Int × Int × List Bool × List (List Int) × Int, SzOK r.2.2.1 r.2.2.2.1 ∧ Ev (fun k => addS k t s ac ns at_) r ∧ Ev (fun k => addI k t s ac ns at_) r := by
 have e1 := jp1 t s ac ns h; have e2 := jr0 t s ac ns h; have zero : ∀ x : Int, SzOK ((0 : Int), (0 : Int), ([] : List Bool), ([] : List (List Int)), x).2.2.1 ((0 : Int), (0 : Int), ([] : List Bool), ([] : List (List Int)), x).2.2.2.1 := fun x => ⟨by simp, by simp, by simp⟩; by_cases hv : okRel t s ac ns = true
 case neg =>
  refine ⟨(0, 0, [], [], 1), zero 1, ?_, ?_⟩
  ·unfold addS; exact Ev.bind e1 (Ev.neg hv (Ev.now _))
  ·unfold addI; exact Ev.bind e2 (Ev.neg hv (Ev.now _))
 obtain ⟨n, rfl, h1, h3, hl1, hl, s0, s1, hT⟩ := ju1 hv
 have i1 : yh0.f at_ 0 (n : Int) = some (decide (0 ≤ at_ ∧ at_ ≤ (n : Int))) := by
  unfold yh0.f; by_cases c : at_ ≥ 0
  ·rw [if_pos c]; simp [show 0 ≤ at_ from c]
  ·rw [if_neg c]; simp [show ¬ 0 ≤ at_ from c]
 have i2 : ye0.f at_ 0 (n : Int) = some (decide (0 ≤ at_ ∧ at_ ≤ (n : Int))) := by
  unfold ye0.f; by_cases c : 0 ≤ at_
  ·rw [if_pos c]; simp [c]
  ·rw [if_neg c]; simp [c]
 by_cases hc : decide (0 ≤ at_ ∧ at_ ≤ (n : Int)) = true ∧ (n : Int) ≠ 3
 case neg =>
  refine ⟨(0, 0, [], [], 2), zero 2, ?_, ?_⟩
  ·unfold addS; exact Ev.bind e1 (Ev.pos hv (Ev.bind (Ev.const i1) (Ev.neg hc (Ev.now _))))
  ·unfold addI; exact Ev.bind e2 (Ev.pos hv (Ev.bind (Ev.const i2) (Ev.neg hc (Ev.now _))))
 obtain ⟨hc1, hc2⟩ := hc; rw [decide_eq_true_eq] at hc1; obtain ⟨a, rfl⟩ := Int.eq_ofNat_of_zero_le hc1.1; (have hn2 : n ≤ 2 := by omega); (have han : a ≤ n := by omega); obtain ⟨f1, f2, f3, f4, f5, f6⟩ := jf1 h1 hn2 han; have hW := wd_le n h3; have hW1 := wd_le (n + 1) (by omega); (have ewI : wI ((n : Int) + 1) = wd (n + 1) := by simp [wI, f1]); (have evI : wI (n : Int) = wd n := by simp [wI, f2]); (have ewS : wS ((n : Int) + 1) = wd (n + 1) := by simp [wS, f3]); (have evS : wS (n : Int) = wd n := by simp [wS, f4]); (have ha0 : (0 : Int) ≤ (a : Int) := by omega); (have ha1 : (a : Int) < 1000 := by omega); (have hn0 : -9223372036854775808 ≤ (n : Int) + 1 := by omega); (have hn1 : (n : Int) + 1 ≤ 9223372036854775807 := by omega); (have hw1 : wd (n + 1) ≤ 1000 := by omega); (have hw0 : wd n ≤ 1000 := by omega)
 have hPI : AddP (n : Int) (a : Int) := by
  unfold AddP; rw [ewI, evI]; exact ⟨f1, f2, hw1, w64 hn0 hn1, ha0, ha1, fun c hc => f5 c hc⟩
 have hPS : AddQ (n : Int) (a : Int) := by
  unfold AddQ; rw [ewS, evS]; exact ⟨f3, f4, hw1, hw0, w64 hn0 hn1, fun c hc => ⟨(f6 c hc).1, by rw [(f6 c hc).2]; exact (f5 c hc).2⟩⟩
 have hCV : ∀ c, c < wd (n + 1) → colA ((n : Int) + 1) (a : Int) c ≤ wd n := fun c hc => (f5 c hc).2
 have etab : X.tabN ac.length (wd (n + 1)) (X.mapC (colS ((n : Int) + 1) (a : Int)) (wd n) ns) = X.tabN ac.length (wd (n + 1)) (X.mapC (colA ((n : Int) + 1) (a : Int)) (wd n) ns) := by
  unfold X.tabN X.tabR; refine List.map_congr_left (fun q _ => List.map_congr_left (fun c hc => ?_)); unfold X.mapC; rw [(f6 c (List.mem_range.1 hc)).2]
 obtain ⟨m, hm, hi⟩ := zk1 h1 h3 (by omega) s0 s1 hT; obtain ⟨d1, d2, d3, d4⟩ := zu1 hm.choose_spec; have hz := yz2 h3 (by omega) s0 s1 hT hm; have T1 := tab_ok hT hCV; have T2 := tab_ok d1 hCV; obtain ⟨R, hR, hiR⟩ := zk1 (n := n + 1) (s := 0) (ac := m.1) (by omega) (by omega) (by omega) (by omega) (by omega) T2
 have hR1 : TidyIs (n + 1) s ac (X.tabN ac.length (wd (n + 1)) (X.mapC (colA ((n : Int) + 1) (a : Int)) (wd n) ns)) R := qs2 hR (fun w hw => by
  have hin := okW_in hw; rw [xe2 hT hCV w s hin s0 s1, xe2 d1 hCV w 0 hin (by omega) (by omega)]; have hpr := zs2 h1 hn2 han w 0 (Nat.two_pow_pos _) hw; rw [xl2] at hpr
  exact qt2 hm hpr)
 have hsR := yw1 (n := n + 1) (by omega) (by omega) (by omega) s0 s1 T1 hR1; obtain ⟨g1, g2, g3, g4⟩ := zu1 hR.choose_spec; refine ⟨told ((n + 1 : Nat) : Int) 0 R.1 R.2, kb2 g1 (by omega), ?_, ?_⟩
 ·unfold addS; refine Ev.bind e1 (Ev.pos hv (Ev.bind (Ev.const i1) (Ev.pos ⟨by simpa using hc1, hc2⟩ (Ev.pos ⟨hPS, by omega, by rw [evS]; exact hT⟩ ?_)))); rw [ewS, evS, etab, show ((n : Int) + 1) = ((n + 1 : Nat) : Int) by push_cast; rfl]; refine Ev.bind (zw1 hsR) ?_; by_cases cc : R.1.length ≤ 150
  ·rw [show told ((n + 1 : Nat) : Int) 0 R.1 R.2 = (((n + 1 : Nat) : Int), 0, R.1, R.2, 0) from if_pos cc]; exact Ev.pos cc (Ev.now _)
  ·rw [show told ((n + 1 : Nat) : Int) 0 R.1 R.2 = (0, 0, [], [], 3) from if_neg cc]; exact Ev.neg cc (Ev.now _)
 ·unfold addI; refine Ev.bind e2 (Ev.pos hv (Ev.bind (Ev.const i2) (Ev.pos ⟨by simpa using hc1, hc2⟩ (Ev.bind (xa2 h hi) (Ev.pos ⟨rfl, hPI, by show m.1.length ≤ 1900000; omega, by rw [evI]; exact d1⟩ ?_))))); rw [ewI, evI, show ((n : Int) + 1) = ((n + 1 : Nat) : Int) by push_cast; rfl]; unfold xi0.f; exact Ev.bind hiR (Ev.bind (xp1 _ _ _ _ g1.1.symm (fun x hx => by rw [(g1.2 x hx).1]; omega)) (Ev.now _))
theorem FnExactAddTape (t s : Int) (ac : List Bool) (ns : List (List Int)) (i1 : Int) (h2 : ac.length ≤ 9223372036854775807) (h3 : ns.length ≤ 9223372036854775807) (hr : ∀ x ∈ ns, x.length ≤ 9223372036854775807) : ∃ k, laws_FnExactAddTape.f k t s ac ns i1 = some true := by
 apply Ev.rounds; unfold laws_FnExactAddTape.f; obtain ⟨n, e1, e2, e3⟩ := xl1 t s ac ns 1048576 (by omega) h2 h3 hr; refine Ev.bind e1 ?_; by_cases hn : n < 0
 ·exact Ev.pos hn (Ev.const rfl)
 refine Ev.neg hn ?_; have hz := e3 (by omega); obtain ⟨⟨r1, r2, r3, r4, r5⟩, hrz, hS, hI⟩ := jg1 (t := t) (s := s) (at_ := i1) hz; simp only at hrz; have j2 := zv1 hrz; have j4 := hrz.1; have k1 := zv1 hz; have k3 := hz.1; refine Ev.guard (xk1 t s ac ns hz) ?_; refine Ev.bind hS ?_; refine Ev.guard hI ?_; refine Ev.guard (kx0 r1 r2 r3 r4 hrz) ?_; refine Ev.guard (kx0 t s ac ns hz) ?_; refine Ev.bind (yg1 ac 1 (by omega) (by omega)) ?_; refine Ev.bind (yf1 ns (1 + ac.length) (by omega) (by have := hz.2.1; omega) (fun x hx => by have := hz.2.2 x hx; omega)) ?_; refine Ev.neg (by omega) ?_; refine Ev.bind (yg1 r3 1 (by omega) (by omega)) ?_; refine Ev.bind (yf1 r4 (1 + r3.length) (by omega) (by have := hrz.2.1; omega) (fun x hx => by have := hrz.2.2 x hx; omega)) ?_; refine Ev.neg (by omega) ?_; exact Ev.guard (yf2 r1 r2 r3 r4 hrz 1 (by omega)) (Ev.now _)
end Go.Proofs.YtocfcpicleomcaaDoor.Pure
