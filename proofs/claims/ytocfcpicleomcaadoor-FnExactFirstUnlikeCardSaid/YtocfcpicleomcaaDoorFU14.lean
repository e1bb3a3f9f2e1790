import Derived.Test.YtocfcpicleomcaaDoorFU12
import Derived.Test.YtocfcpicleomcaaDoorFU11
import Derived.Test.YtocfcpicleomcaaDoorFU8
import Derived.Test.YtocfcpicleomcaaDoorFU13
import Derived.Test.YtocfcpicleomcaaDoorFU7
import Derived.Test.YtocfcpicleomcaaDoorFU2
import Derived.Test.YtocfcpicleomcaaDoorFU3
import Derived.Test.YtocfcpicleomcaaDoorFU10
namespace Go.Proofs.YtocfcpicleomcaaDoor.Pure
set_option maxHeartbeats 16000000
set_option maxRecDepth 100000
open Go.RowKit Go.Proofs.YtocfcpicleomcaaDoor.X Go.Proofs.YtocfcpicleomcaaDoorW.PrintWords Go.Proofs.YtocfcpicleomcaaDoorW.PrintLast
set_option linter.unusedVariables false
set_option linter.unusedSimpArgs false
theorem Ev.succ {α : Type} {g : Nat → Option α} {r : α} (h : Ev (fun k => g (k + 1)) r) : Ev g r := Ev.step (fun _ => rfl) h
theorem Ev.const {α : Type} {o : Option α} {r : α} (h : o = some r) : Ev (fun _ => o) r := ⟨0, fun _ _ => h⟩
theorem w64 {n : Int} (h0 : -9223372036854775808 ≤ n) (h1 : n ≤ 9223372036854775807) : wrap64 n = n := by
 unfold wrap64; omega
theorem xc2 (xs : List Int) (i : Nat) (h : i < xs.length) : rd xs (i : Int) = xs[i] := by
 simp [rd, List.getD_eq_getElem?_getD, h]
theorem zz4 {α : Type} (d : α) (xs : List α) (i : Nat) (h : i < xs.length) : rdOf d xs (i : Int) = xs[i] := by
 simp [rdOf, List.getD_eq_getElem?_getD, h]
theorem xt2 {α : Type} (l ys : List α) (i : Nat) (x : α) (hx : l[i]? = some x) (hl : ys.length = l.length) (h : ys.take i = l.take i) : (ys.set i x).take (i + 1) = l.take (i + 1) := by
 have hi : i < l.length := (List.getElem?_eq_some_iff.1 hx).1; apply List.ext_getElem?; intro j; have hj := congrArg (fun z => z[j]?) h
 simp only [List.getElem?_take] at hj ⊢
 rw [List.getElem?_set]; by_cases h1 : j < i + 1
 ·by_cases h2 : i = j
  ·subst h2; simp only [h1, if_true]; rw [if_pos (by omega)]; exact hx.symm
  ·have h3 : j < i := by omega
   simp only [h1, if_true, h2, if_false, h3] at hj ⊢
   exact hj
 ·simp [h1]
theorem Ev.pos {α : Type} {c : Prop} [Decidable c] {f g : Nat → Option α} {r : α} (h : c) (k : Ev f r) : Ev (fun n => if c then f n else g n) r := by
 obtain ⟨K, k⟩ := k; exact ⟨K, fun n hn => (if_pos h).trans (k n hn)⟩
theorem Ev.neg {α : Type} {c : Prop} [Decidable c] {f g : Nat → Option α} {r : α} (h : ¬ c) (k : Ev g r) : Ev (fun n => if c then f n else g n) r := by
 obtain ⟨K, k⟩ := k; exact ⟨K, fun n hn => (if_neg h).trans (k n hn)⟩
theorem xl3 (l : List Int) (hn : l.length ≤ 35184372088832) (d : Nat) : ∀ (i : Nat) (ys : List Int), i + d = l.length → ys.length = l.length → ys.take i = l.take i → Ev (fun k => laws_toInt64S.l0 k l ys (i : Int)) l := by
 induction d with
 | zero =>
  intro i ys hi hl ht; apply Ev.succ; simp only [laws_toInt64S.l0]; refine Ev.neg (by omega) ?_; refine Ev.const ?_; rw [List.take_of_length_le (by omega), List.take_of_length_le (by omega)] at ht; rw [ht]
 | succ d ih =>
  intro i ys hi hl ht; apply Ev.succ; simp only [laws_toInt64S.l0]; refine Ev.pos (by omega) ?_; refine Ev.pos (by omega) ?_; refine Ev.pos (by omega) ?_; rw [w64 (by omega) (by omega), Int.toNat_natCast]; have := ih (i + 1) (ys.set i (rd l i)) (by omega) (by simp [hl]) (xt2 l ys i _ (by rw [xc2 l i (by omega)]; exact List.getElem?_eq_getElem (by omega)) hl ht); exact this
theorem kp2 (l : List Int) (hn : l.length ≤ 35184372088832) : Ev (fun k => laws_toInt64S.f k l) l := by
 unfold laws_toInt64S.f; simp only [Int.toNat_natCast]; refine Ev.pos (by omega) ?_; refine Ev.pos hn ?_; exact xl3 l hn l.length 0 _ (by omega) (by simp) (by simp)
theorem qx3 (l : List Int) (hn : l.length ≤ 35184372088832) (d : Nat) : ∀ (i : Nat), i + d = l.length → Ev (fun k => laws_eqInt64S.l0 k l l (i : Int)) true := by
 induction d with
 | zero =>
  intro i hi; apply Ev.succ; simp only [laws_eqInt64S.l0]; refine Ev.neg (by omega) ?_; exact Ev.const rfl
 | succ d ih =>
  intro i hi; apply Ev.succ; simp only [laws_eqInt64S.l0]; refine Ev.pos (by omega) ?_; refine Ev.pos (by omega) ?_; refine Ev.pos (by omega) ?_; refine Ev.pos trivial ?_; rw [w64 (by omega) (by omega)]; exact ih (i + 1) (by omega)
theorem zx3 (l : List Int) (hn : l.length ≤ 35184372088832) : Ev (fun k => laws_eqInt64S.f k l l) true := by
 unfold laws_eqInt64S.f; refine Ev.pos rfl ?_; exact qx3 l hn l.length 0 (by omega)
theorem yg1 (xs : List (List Int)) (i : Nat) (h : i < xs.length) : rd_L2 xs (i : Int) = xs[i] := by
 simp [rd_L2, List.getD_eq_getElem?_getD, h]
theorem jg3 (l : List Bool) (hn : l.length ≤ 35184372088832) (d : Nat) : ∀ (i : Nat) (ys : List Bool), i + d = l.length → ys.length = l.length → ys.take i = l.take i → Ev (fun k => laws_toBoolS.l0 k l ys (i : Int)) l := by
 induction d with
 | zero =>
  intro i ys hi hl ht; apply Ev.succ; simp only [laws_toBoolS.l0]; refine Ev.neg (by omega) ?_; refine Ev.const ?_; rw [List.take_of_length_le (by omega), List.take_of_length_le (by omega)] at ht; rw [ht]
 | succ d ih =>
  intro i ys hi hl ht; apply Ev.succ; simp only [laws_toBoolS.l0]; refine Ev.pos (by omega) ?_; refine Ev.pos (by omega) ?_; refine Ev.pos (by omega) ?_; rw [w64 (by omega) (by omega), Int.toNat_natCast]; have := ih (i + 1) (ys.set i (rdOf false l i)) (by omega) (by simp [hl]) (xt2 l ys i _ (by rw [zz4 false l i (by omega)]; exact List.getElem?_eq_getElem (by omega)) hl ht); exact this
theorem xm3 (l : List Bool) (hn : l.length ≤ 35184372088832) : Ev (fun k => laws_toBoolS.f k l) l := by
 unfold laws_toBoolS.f; simp only [Int.toNat_natCast]; refine Ev.pos (by omega) ?_; refine Ev.pos (by omega) ?_; exact jg3 l hn l.length 0 _ (by omega) (by simp) (by simp)
theorem kq2 (l : List (List Int)) (hn : l.length ≤ 35184372088832) (hr : ∀ x ∈ l, x.length ≤ 35184372088832) (d : Nat) : ∀ (i : Nat) (ys : List (List Int)), i + d = l.length → ys.length = l.length → ys.take i = l.take i → Ev (fun k => laws_toInt64SS.l0 k l ys (i : Int)) l := by
 induction d with
 | zero =>
  intro i ys hi hl ht; apply Ev.succ; simp only [laws_toInt64SS.l0]; refine Ev.neg (by omega) ?_; refine Ev.const ?_; rw [List.take_of_length_le (by omega), List.take_of_length_le (by omega)] at ht; rw [ht]
 | succ d ih =>
  intro i ys hi hl ht; apply Ev.succ; simp only [laws_toInt64SS.l0]; refine Ev.pos (by omega) ?_; refine Ev.pos (by omega) ?_; rw [yg1 l i (by omega)]; refine Ev.bind (kp2 _ (hr _ (List.getElem_mem _))) ?_; refine Ev.pos (by omega) ?_; rw [w64 (by omega) (by omega), Int.toNat_natCast]; exact ih (i + 1) (ys.set i l[i]) (by omega) (by simp [hl]) (xt2 l ys i _ (List.getElem?_eq_getElem (by omega)) hl ht)
theorem qu2 (l : List (List Int)) (hn : l.length ≤ 11728124029610) (hr : ∀ x ∈ l, x.length ≤ 35184372088832) : Ev (fun k => laws_toInt64SS.f k l) l := by
 unfold laws_toInt64SS.f; simp only [Int.toNat_natCast]; refine Ev.pos (by omega) ?_; refine Ev.pos (by omega) ?_; exact kq2 l (by omega) hr l.length 0 _ (by omega) (by simp) (by simp)
theorem kv3 (l : List Bool) (hn : l.length ≤ 35184372088832) (d : Nat) : ∀ (i : Nat), i + d = l.length → Ev (fun k => laws_eqBoolS.l0 k l l (i : Int)) true := by
 induction d with
 | zero =>
  intro i hi; apply Ev.succ; simp only [laws_eqBoolS.l0]; refine Ev.neg (by omega) ?_; exact Ev.const rfl
 | succ d ih =>
  intro i hi; apply Ev.succ; simp only [laws_eqBoolS.l0]; refine Ev.pos (by omega) ?_; refine Ev.pos (by omega) ?_; refine Ev.pos (by omega) ?_; refine Ev.neg (by simp) ?_; rw [w64 (by omega) (by omega)]; exact ih (i + 1) (by omega)
theorem qy3 (l : List Bool) (hn : l.length ≤ 35184372088832) : Ev (fun k => laws_eqBoolS.f k l l) true := by
 unfold laws_eqBoolS.f; refine Ev.pos rfl ?_; exact kv3 l hn l.length 0 (by omega)
theorem zy3 (l : List (List Int)) (hn : l.length ≤ 35184372088832) (hr : ∀ x ∈ l, x.length ≤ 35184372088832) (d : Nat) : ∀ (i : Nat), i + d = l.length → Ev (fun k => laws_eqInt64SS.l0 k l l (i : Int)) true := by
 induction d with
 | zero =>
  intro i hi; apply Ev.succ; simp only [laws_eqInt64SS.l0]; refine Ev.neg (by omega) ?_; exact Ev.const rfl
 | succ d ih =>
  intro i hi; apply Ev.succ; simp only [laws_eqInt64SS.l0]; refine Ev.pos (by omega) ?_; refine Ev.pos (by omega) ?_; refine Ev.pos (by omega) ?_; rw [yg1 l i (by omega)]; refine Ev.bind (zx3 _ (hr _ (List.getElem_mem _))) ?_; refine Ev.pos rfl ?_; rw [w64 (by omega) (by omega)]; exact ih (i + 1) (by omega)
theorem kh2 (l : List (List Int)) (hn : l.length ≤ 35184372088832) (hr : ∀ x ∈ l, x.length ≤ 35184372088832) : Ev (fun k => laws_eqInt64SS.f k l l) true := by
 unfold laws_eqInt64SS.f; refine Ev.pos rfl ?_; exact zy3 l hn hr l.length 0 (by omega)
theorem kw2 (l : List (List Int)) (hn : l.length ≤ 9223372036854775806) (hr : ∀ x ∈ l, x.length ≤ 9223372036854775807) (d : Nat) : ∀ (i a : Nat), i + d = l.length → a ≤ 1048576 →
  ∃ n : Int, Ev (fun k => laws_szInt64SS.l0 k l (a : Int) (i : Int)) n ∧ n ≤ 1048576 ∧ (0 ≤ n → ∀ j, i ≤ j → ∀ x, l[j]? = some x → x.length ≤ 1048576) := by
 induction d with
 | zero =>
  intro i a hi ha; refine ⟨a, ?_, by omega, fun _ j hj x hx => ?_⟩
  ·apply Ev.succ; simp only [laws_szInt64SS.l0]; refine Ev.neg (by omega) ?_; exact Ev.const rfl
  ·have := (List.getElem?_eq_some_iff.1 hx).1; omega
 | succ d ih =>
  intro i a hi ha; have hx := hr _ (List.getElem_mem (show i < l.length by omega)); by_cases c : l[i].length ≤ a
  ·obtain ⟨n, h1, h2, h3⟩ := ih (i + 1) (a - l[i].length) (by omega) (by omega); refine ⟨n, ?_, h2, fun h0 j hj x hjx => ?_⟩
   ·apply Ev.succ; simp only [laws_szInt64SS.l0]; refine Ev.pos (by omega) ?_; refine Ev.pos (by omega) ?_; rw [yg1 l i (by omega)]; refine Ev.bind (a := ((a - l[i].length : Nat) : Int)) ?_ ?_
    ·unfold laws_szInt64S.f; rw [w64 (by omega) (by omega)]; refine Ev.neg (by omega) ?_; exact Ev.const (by congr 1; omega)
    ·refine Ev.neg (by omega) ?_; rw [w64 (by omega) (by omega)]; exact h1
   ·by_cases e : i = j
    ·subst e; rw [List.getElem?_eq_getElem (by omega)] at hjx; injection hjx with hjx; subst hjx; omega
    ·exact h3 h0 j (by omega) x hjx
  ·refine ⟨-1, ?_, by omega, fun h0 => by omega⟩; apply Ev.succ; simp only [laws_szInt64SS.l0]; refine Ev.pos (by omega) ?_; refine Ev.pos (by omega) ?_; rw [yg1 l i (by omega)]; refine Ev.bind (a := -1) ?_ ?_
   ·unfold laws_szInt64S.f; rw [w64 (by omega) (by omega)]; exact Ev.pos (by omega) (Ev.const rfl)
   ·exact Ev.pos (by omega) (Ev.const rfl)
/-- What a relation's size says: it is not negative only if its rows are short. -/
def SzOK (ac : List Bool) (ns : List (List Int)) : Prop := ac.length ≤ 1048576 ∧ ns.length ≤ 1048576 ∧ ∀ x ∈ ns, x.length ≤ 1048576
theorem xz1 (t s : Int) (ac : List Bool) (ns : List (List Int)) (a : Nat) (ha : a ≤ 1048576) (h2 : ac.length ≤ 9223372036854775807) (h3 : ns.length ≤ 9223372036854775807) (hr : ∀ x ∈ ns, x.length ≤ 9223372036854775807) :
  ∃ n : Int, Ev (fun k => laws_szRelation.f k t s ac ns (a : Int)) n ∧ n ≤ 1048576 ∧ (0 ≤ n → SzOK ac ns) := by
 unfold laws_szRelation.f; by_cases c : ac.length ≤ a
 ·by_cases c2 : ns.length ≤ a - ac.length
  ·obtain ⟨n, e1, e2, e3⟩ := kw2 ns (by omega) hr ns.length 0 (a - ac.length - ns.length) (by omega) (by omega); refine ⟨if n < 0 then -1 else n, ?_, by split <;> omega, fun h0 => ⟨by omega, by omega, fun x hx => ?_⟩⟩
   ·refine Ev.bind (a := ((a - ac.length : Nat) : Int)) ?_ ?_
    ·unfold laws_szBoolS.f; rw [w64 (by omega) (by omega)]; refine Ev.neg (by omega) ?_; exact Ev.const (by congr 1; omega)
    ·refine Ev.neg (by omega) ?_; refine Ev.bind (a := n) ?_ ?_
     ·unfold laws_szInt64SS.f; rw [w64 (by omega) (by omega)]; refine Ev.neg (by omega) ?_; rw [show ((a - ac.length : Nat) : Int) - (ns.length : Int) = ((a - ac.length - ns.length : Nat) : Int) by omega]; exact e1
     ·by_cases hn : n < 0
      ·simp only [if_pos hn]; exact Ev.now _
      ·simp only [if_neg hn]; exact Ev.now _
   ·have hn : 0 ≤ n := by
     by_cases hn : n < 0
     ·rw [if_pos hn] at h0; omega
     ·omega
    obtain ⟨j, hj⟩ := List.mem_iff_getElem?.1 hx; exact e3 hn j (by omega) x hj
  ·refine ⟨-1, ?_, by omega, fun h0 => by omega⟩; refine Ev.bind (a := ((a - ac.length : Nat) : Int)) ?_ ?_
   ·unfold laws_szBoolS.f; rw [w64 (by omega) (by omega)]; refine Ev.neg (by omega) ?_; exact Ev.const (by congr 1; omega)
   ·refine Ev.neg (by omega) ?_; refine Ev.bind (a := -1) ?_ ?_
    ·unfold laws_szInt64SS.f; rw [w64 (by omega) (by omega)]; exact Ev.pos (by omega) (Ev.const rfl)
    ·exact Ev.pos (by omega) (Ev.const rfl)
 ·refine ⟨-1, ?_, by omega, fun h0 => by omega⟩; refine Ev.bind (a := -1) ?_ ?_
  ·unfold laws_szBoolS.f; rw [w64 (by omega) (by omega)]; exact Ev.pos (by omega) (Ev.const rfl)
  ·exact Ev.pos (by omega) (Ev.const rfl)
theorem xx1 (t s : Int) (ac : List Bool) (ns : List (List Int)) (h : SzOK ac ns) : Ev (fun k => laws_toRelation.f k t s ac ns) (t, s, ac, ns) := by
 unfold laws_toRelation.f; refine Ev.bind (xm3 ac (by have := h.1; omega)) ?_; refine Ev.bind (qu2 ns (by have := h.2.1; omega) (fun x hx => by have := h.2.2 x hx; omega)) ?_; exact Ev.now _
theorem qw1 (t s : Int) (ac : List Bool) (ns : List (List Int)) (h : SzOK ac ns) : Ev (fun k => laws_eqRelation.f k t s ac ns t s ac ns) true := by
 unfold laws_eqRelation.f; refine Ev.pos rfl ?_; refine Ev.pos rfl ?_; refine Ev.bind (qy3 ac (by have := h.1; omega)) ?_; refine Ev.pos rfl ?_; refine Ev.bind (kh2 ns (by have := h.2.1; omega) (fun x hx => by have := h.2.2 x hx; omega)) ?_; exact Ev.pos rfl (Ev.now _)
theorem zw3 (l : List ByteArray) (hn : l.length ≤ 35184372088832) (d : Nat) : ∀ (i : Nat), i + d = l.length → Ev (fun k => laws_eqStringS.l0 k l l (i : Int)) true := by
 induction d with
 | zero =>
  intro i hi; apply Ev.succ; simp only [laws_eqStringS.l0]; refine Ev.neg (by omega) ?_; exact Ev.const rfl
 | succ d ih =>
  intro i hi; apply Ev.succ; simp only [laws_eqStringS.l0]; refine Ev.pos (by omega) ?_; refine Ev.pos (by omega) ?_; refine Ev.pos (by omega) ?_; refine Ev.pos trivial ?_; rw [w64 (by omega) (by omega)]; exact ih (i + 1) (by omega)
theorem kg2 (l : List ByteArray) (hn : l.length ≤ 35184372088832) : Ev (fun k => laws_eqStringS.f k l l) true := by
 unfold laws_eqStringS.f; refine Ev.pos rfl ?_; exact zw3 l hn l.length 0 (by omega)
theorem qa1 (x : Int) : (strOfNums [x]).size = 1 := by
 simp [strOfNums, ByteArray.size]
theorem qh3 (d : Nat) : ∀ (n : Nat) (s : ByteArray), n ≤ d → s.size + d ≤ 9223372036854775806 → ∃ t, Ev (fun k => laws_markText.l0 k (n : Int) s) t := by
 induction d with
 | zero =>
  intro n s hn hs; refine ⟨(⟨#[109]⟩ : ByteArray) ++ s, ?_⟩; apply Ev.succ; simp only [laws_markText.l0]; refine Ev.neg (by omega) ?_; refine Ev.pos (by omega) ?_; exact Ev.const rfl
 | succ d ih =>
  intro n s hn hs; by_cases h0 : n = 0
  ·refine ⟨(⟨#[109]⟩ : ByteArray) ++ s, ?_⟩; apply Ev.succ; simp only [laws_markText.l0]; refine Ev.neg (by omega) ?_; refine Ev.pos (by omega) ?_; exact Ev.const rfl
  ·(have hq : Int.tdiv (n : Int) 10 = ((n / 10 : Nat) : Int) := by rw [Int.tdiv_eq_ediv_of_nonneg (by omega)]; omega); obtain ⟨t, h⟩ := ih (n / 10) ((strOfNums [(wrap64 (48 + (Int.tmod (n : Int) 10))) % 256]) ++ s) (by omega) (by rw [ByteArray.size_append, qa1]; omega); refine ⟨t, ?_⟩; apply Ev.succ; simp only [laws_markText.l0, Option.bind_some]; refine Ev.pos (by omega) ?_; refine Ev.pos (by rw [qa1]; omega) ?_; rw [hq, w64 (by omega) (by omega)]; exact h
theorem zk2 (n : Nat) (hn : n ≤ 1152921504606846976) : ∃ t, Ev (fun k => laws_markText.f k (n : Int)) t := by
 unfold laws_markText.f; by_cases h : n = 0
 ·exact ⟨(⟨#[109, 48]⟩ : ByteArray), Ev.pos (by omega) (Ev.const rfl)⟩
 ·obtain ⟨t, ht⟩ := qh3 n n (⟨#[]⟩ : ByteArray) (Nat.le_refl _) (by have : (⟨#[]⟩ : ByteArray).size = 0 := rfl; omega); exact ⟨t, Ev.neg (by omega) ht⟩
noncomputable def mt (n : Nat) : ByteArray := if h : n ≤ 1152921504606846976 then Classical.choose (zk2 n h) else ByteArray.empty
theorem jm4 (n : Nat) (hn : n ≤ 1152921504606846976) : Ev (fun k => laws_markText.f k (n : Int)) (mt n) := by
 unfold mt; rw [dif_pos hn]; exact Classical.choose_spec (zk2 n hn)
noncomputable def marks (n : Nat) : Nat → List ByteArray
 | 0 => []
 | d + 1 => mt n :: marks (n + 1) d
theorem yu1 : ∀ (d n : Nat), (marks n d).length = d
 | 0, _ => rfl
 | d + 1, n => by simp [marks, yu1 d]
theorem jq2 : ∀ (d n i : Nat), i < d → (marks n d)[i]? = some (mt (n + i))
 | 0, _, _, h => by omega
 | d + 1, n, 0, _ => by simp [marks]
 | d + 1, n, i + 1, h => by
  simp only [marks, List.getElem?_cons_succ]; rw [jq2 d (n + 1) i (by omega)]
  congr 2
  omega
theorem xz2 (d : Nat) : ∀ (i n : Nat) (ys : List ByteArray), i + d = ys.length → n + d ≤ 1152921504606846976 → ys.length ≤ 35184372088832 → Ev (fun k => laws_markStringS.l0 k ys (n : Int) (i : Int)) (((n + d : Nat) : Int), ys.take i ++ marks n d) := by
 induction d with
 | zero =>
  intro i n ys hi hn hl; apply Ev.succ; simp only [laws_markStringS.l0]; refine Ev.neg (by omega) ?_; exact Ev.const (by simp [marks, List.take_of_length_le (show ys.length ≤ i by omega)])
 | succ d ih =>
  intro i n ys hi hn hl; apply Ev.succ; simp only [laws_markStringS.l0]; refine Ev.pos (by omega) ?_; refine Ev.bind (jm4 n (by omega)) ?_; refine Ev.pos (by omega) ?_; rw [w64 (n := (n : Int) + 1) (by omega) (by omega), w64 (n := (i : Int) + 1) (by omega) (by omega), Int.toNat_natCast]; have h := ih (i + 1) (n + 1) (ys.set i (mt n)) (by simp; omega) (by omega) (by simpa using hl)
  have e : (ys.set i (mt n)).take (i + 1) = ys.take i ++ [mt n] := by
   apply List.ext_getElem?; intro j; rw [List.getElem?_take, List.getElem?_set]; by_cases h1 : j < i
   ·rw [if_pos (by omega), if_neg (by omega), List.getElem?_append_left (by simp; omega), List.getElem?_take, if_pos h1]
   ·by_cases h2 : j = i
    ·subst h2; rw [if_pos (by omega), if_pos rfl, if_pos (by omega), List.getElem?_append_right (by simp; omega)]; simp [show min j ys.length = j by omega]
    ·rw [if_neg (by omega), List.getElem?_eq_none (by simp; omega)]
  rw [e] at h; rw [show n + (d + 1) = n + 1 + d by omega]
  simpa [marks] using h
theorem yo2 (ys : List ByteArray) (n : Nat) (hn : n + ys.length ≤ 1152921504606846976) (hl : ys.length ≤ 35184372088832) : Ev (fun k => laws_markStringS.f k ys (n : Int)) (((n + ys.length : Nat) : Int), marks n ys.length) := by
 have h := xz2 ys.length 0 n ys (by omega) hn hl; unfold laws_markStringS.f
 simpa using h
theorem qj2 (d0 n0 : Nat) (hb : n0 + d0 ≤ 1152921504606846976) (hb2 : d0 ≤ 35184372088832) (d : Nat) : ∀ (i : Nat), i + d = d0 → Ev (fun k => laws_heldStringS.l0 k (marks n0 d0) ((n0 + i : Nat) : Int) (i : Int)) ((n0 + d0 : Nat) : Int) := by
 induction d with
 | zero =>
  intro i hi; apply Ev.succ; simp only [laws_heldStringS.l0]; refine Ev.neg (by rw [yu1]; omega) ?_; exact Ev.const (by rw [show i = d0 by omega])
 | succ d ih =>
  intro i hi; apply Ev.succ; simp only [laws_heldStringS.l0]; refine Ev.pos (by rw [yu1]; omega) ?_; refine Ev.pos (by omega) ?_; refine Ev.bind (jm4 (n0 + i) (by omega)) ?_
  have e : rdOf ByteArray.empty (marks n0 d0) (i : Int) = mt (n0 + i) := by
   simp [rdOf, List.getD_eq_getElem?_getD, jq2 d0 n0 i (by omega)]
  refine Ev.pos (by rw [e]) ?_; rw [w64 (by omega) (by omega), w64 (by omega) (by omega)]; exact ih (i + 1) (by omega)
theorem yr2 (d0 n0 : Nat) (hb : n0 + d0 ≤ 1152921504606846976) (hb2 : d0 ≤ 35184372088832) : Ev (fun k => laws_heldStringS.f k (marks n0 d0) (n0 : Int)) ((n0 + d0 : Nat) : Int) := qj2 d0 n0 hb hb2 d0 0 (by omega)
theorem qm4 (a b c : Int) : yz0.f a b c = some (decide (b ≤ a) && decide (a ≤ c)) := by
 unfold yz0.f; by_cases h : a ≥ b
 ·rw [if_pos h]; simp [h]
 ·rw [if_neg h]; simp [show ¬ b ≤ a from h]
theorem xw1 (a b c : Int) : yy0.f a b c = some (decide (b ≤ a) && decide (a ≤ c)) := by
 unfold yy0.f; by_cases h : b ≤ a
 ·rw [if_pos h]; simp [h]
 ·rw [if_neg h]; simp [h]
theorem ya3 (a : Int) : qb0.f a = some (decide (1 ≤ a) && decide (a ≤ 3)) := by
 unfold qb0.f; rw [xw1]; rfl
def wd (n : Nat) : Nat := if n = 0 then 0 else if n = 1 then 2 else if n = 2 then 8 else 26
theorem qp2 : ∀ n : Fin 4, yv0.f 10 (n.val : Int) = some ((wd n.val : Nat) : Int) := by decide +kernel
theorem ks1 : ∀ n : Fin 4, zy0.f 10 (n.val : Int) = some ((wd n.val : Nat) : Int) := by decide +kernel
theorem zt4 (n : Nat) (h : n ≤ 3) : Ev (fun k => yv0.f k (n : Int)) ((wd n : Nat) : Int) := Ev.of (fun k => yv0.mono _ k) (qp2 ⟨n, by omega⟩)
theorem zu4 (n : Nat) (h : n ≤ 3) : Ev (fun k => zy0.f k (n : Int)) ((wd n : Nat) : Int) := Ev.of (fun k => zy0.mono _ k) (ks1 ⟨n, by omega⟩)
theorem xk3 (n : Nat) (h : n ≤ 3) : wd n ≤ 26 := by
 unfold wd
 split <;> (try split) <;> (try split) <;> omega
/-- The states of a row are among n. -/
def kx0 (n : Nat) (l : List Int) : Bool := l.all fun x => decide (0 ≤ x) && decide (x < n)
def xj1 (w n : Nat) (ns : List (List Int)) : Bool := ns.all fun r => decide (r.length = w) && kx0 n r
/-- A relation's form. -/
def jm0 (t s : Int) (ac : List Bool) (ns : List (List Int)) : Bool :=
 decide (1 ≤ t) && decide (t ≤ 3) && decide (1 ≤ ac.length) && decide (ac.length ≤ 150) && decide (ns.length = ac.length) && decide (0 ≤ s) && decide (s < ac.length) && xj1 (wd t.toNat) ac.length ns
theorem kp1 {α : Type} (p : α → Bool) (l : List α) (i : Nat) (h : i < l.length) : (l.drop i).all p = (p l[i] && (l.drop (i + 1)).all p) := by
 rw [List.drop_eq_getElem_cons h, List.all_cons]
theorem ja2 (t : Nat) (s : Int) (ac : List Bool) (ns : List (List Int)) (x3 : Nat) (hx3 : x3 ≤ 150) (i : Nat) (hi : i < ns.length) (hl : ns[i].length ≤ 26) (R : Bool)
  (hR : Ev (fun k => zp0.l0 k (x3 : Int) (((i : Nat) + 1 : Nat) : Int) (t : Int) s ac ns) (R, (t : Int), s)) (hni : ns.length ≤ 1048576) (d : Nat) : ∀ j, j + d = ns[i].length →
  Ev (fun k => zp0.l1 k (x3 : Int) (i : Int) (j : Int) (t : Int) s ac ns) (kx0 x3 (ns[i].drop j) && R, (t : Int), s) := by
 induction d with
 | zero =>
  intro j hj; apply Ev.succ; simp only [zp0.l1]; refine Ev.pos (by omega) ?_; refine Ev.pos (by omega) ?_; rw [yg1 ns i hi]; refine Ev.neg (by omega) ?_; rw [w64 (by omega) (by omega), List.drop_of_length_le (by omega)]; simp only [kx0, List.all_nil, Bool.true_and]; exact hR
 | succ d ih =>
  intro j hj; apply Ev.succ; simp only [zp0.l1]; refine Ev.pos (by omega) ?_; refine Ev.pos (by omega) ?_; rw [yg1 ns i hi]; refine Ev.pos (by omega) ?_; refine Ev.pos (by omega) ?_; rw [xc2 _ _ (by omega)]; refine Ev.bind (Ev.const (qm4 _ _ _)) ?_; rw [show kx0 x3 (ns[i].drop j) = ((decide (0 ≤ ns[i][j]) && decide (ns[i][j] < x3)) && kx0 x3 (ns[i].drop (j + 1))) from kp1 _ _ _ (by omega)]; rw [w64 (n := (x3 : Int) - 1) (by omega) (by omega)]; rw [show decide (ns[i][j] ≤ (x3 : Int) - 1) = decide (ns[i][j] < (x3 : Int)) by apply decide_eq_decide.2; omega]; by_cases c : (decide (0 ≤ ns[i][j]) && decide (ns[i][j] < (x3 : Int))) = true
  ·rw [c]; refine Ev.pos (by first | rfl | trivial) ?_; rw [w64 (by omega) (by omega)]; simp only [Bool.true_and]; exact ih (j + 1) (by omega)
  ·rw [Bool.not_eq_true] at c; rw [c]; exact Ev.neg (by simp) (Ev.const (by simp))
theorem jb2 (t : Nat) (ht : t ≤ 3) (s : Int) (ac : List Bool) (ns : List (List Int)) (x3 : Nat) (hx3 : x3 ≤ 150) (hni : ns.length ≤ 1048576) (d : Nat) : ∀ i, i + d = ns.length →
  Ev (fun k => zp0.l0 k (x3 : Int) (i : Int) (t : Int) s ac ns) (xj1 (wd t) x3 (ns.drop i), (t : Int), s) := by
 induction d with
 | zero =>
  intro i hi; apply Ev.succ; simp only [zp0.l0]; refine Ev.neg (by omega) ?_; rw [List.drop_of_length_le (by omega)]; exact Ev.const rfl
 | succ d ih =>
  intro i hi; apply Ev.succ; simp only [zp0.l0]; refine Ev.pos (by omega) ?_; refine Ev.pos (by omega) ?_; rw [yg1 ns i (by omega)]; refine Ev.bind (zt4 t ht) ?_; rw [show xj1 (wd t) x3 (ns.drop i) = ((decide (ns[i].length = wd t) && kx0 x3 ns[i]) && xj1 (wd t) x3 (ns.drop (i + 1))) from kp1 _ _ _ (by omega)]; have := xk3 t ht; by_cases c : ns[i].length = wd t
  ·refine Ev.pos (by omega) ?_; have h := ja2 t s ac ns x3 hx3 i (by omega) (by omega) _ (ih (i + 1) (by omega)) hni ns[i].length 0 (by omega); rw [List.drop_zero] at h; simp only [c, decide_true, Bool.true_and]; exact h
  ·refine Ev.neg (by omega) ?_; simp only [c, decide_false, Bool.false_and]; exact Ev.const rfl
theorem xq3 (t s : Int) (ac : List Bool) (ns : List (List Int)) (h : SzOK ac ns) : Ev (fun k => zb1.f k t s ac ns) (jm0 t s ac ns, t, s) := by
 unfold zb1.f; have h1 := h.1; by_cases c : ac.length ≤ 150
 ·refine Ev.pos (by omega) ?_; refine Ev.bind (a := (jm0 t s ac ns, t, s)) ?_ (Ev.now _); unfold zp0.f; refine Ev.bind (Ev.const (qm4 _ _ _)) ?_; by_cases ct : 1 ≤ t ∧ t ≤ 3
  ·obtain ⟨n, rfl⟩ : ∃ n : Nat, t = n := ⟨t.toNat, by omega⟩; simp only [show decide ((1 : Int) ≤ n) = true by simpa using ct.1, show decide ((n : Int) ≤ 3) = true by simpa using ct.2, Bool.true_and]; refine Ev.pos (by first | rfl | trivial) ?_; by_cases c1 : ac.length < 1
   ·refine Ev.pos (by omega) ?_; apply Ev.succ; simp only [zp0.j0]; refine Ev.pos (by first | rfl | trivial) ?_; refine Ev.const ?_; simp [jm0, show ¬ 1 ≤ ac.length by omega]
   ·refine Ev.neg (by omega) ?_; refine Ev.bind (Ev.const (qm4 _ _ _)) ?_; rw [w64 (n := (ac.length : Int) - 1) (by omega) (by omega)]; by_cases cs : 0 ≤ s ∧ s < ac.length
    ·simp only [show decide ((0 : Int) ≤ s) = true by simpa using cs.1, show decide (s ≤ (ac.length : Int) - 1) = true from decide_eq_true (by omega), Bool.true_and]; refine Ev.pos (by first | rfl | trivial) ?_; apply Ev.succ; simp only [zp0.j0]; by_cases cn : ns.length = ac.length
     ·refine Ev.neg (by simp [cn]) ?_; have h0 := jb2 n (by omega) s ac ns ac.length c (by have := h.2.1; omega) ns.length 0 (by omega); rw [List.drop_zero] at h0
      have e : jm0 (n : Int) s ac ns = xj1 (wd n) ac.length ns := by
       simp only [jm0, Int.toNat_natCast]; simp only [show decide ((1 : Int) ≤ n) = true by simpa using ct.1, show decide ((n : Int) ≤ 3) = true by simpa using ct.2, show decide (1 ≤ ac.length) = true from decide_eq_true (by omega), show decide (ac.length ≤ 150) = true from decide_eq_true c, cn, show decide ((0 : Int) ≤ s) = true by simpa using cs.1, show decide (s < (ac.length : Int)) = true from decide_eq_true cs.2, decide_true, Bool.true_and]
      rw [e]; exact h0
     ·refine Ev.pos (by simpa using fun e => cn (by omega)) ?_; refine Ev.const ?_; simp [jm0, cn]
    ·refine Ev.neg ?_ ?_
     ·intro e; rw [Bool.and_eq_true, decide_eq_true_eq, decide_eq_true_eq] at e; exact cs ⟨e.1, by omega⟩
     ·apply Ev.succ; simp only [zp0.j0]; refine Ev.pos (by first | rfl | trivial) ?_; refine Ev.const ?_
      have : (decide (0 ≤ s) && decide (s < (ac.length : Int))) = false := by
       rw [Bool.eq_false_iff]; intro e; rw [Bool.and_eq_true, decide_eq_true_eq, decide_eq_true_eq] at e; exact cs e
      congr 2
      simp only [jm0]
      rcases Bool.and_eq_false_iff.1 this with e | e <;> rw [e] <;> simp
  ·have e : (decide (1 ≤ t) && decide (t ≤ 3)) = false := by
    rw [Bool.eq_false_iff]; intro e; rw [Bool.and_eq_true, decide_eq_true_eq, decide_eq_true_eq] at e; exact ct e
   rw [e]; refine Ev.neg (by simp) ?_; apply Ev.succ; simp only [zp0.j0]; refine Ev.pos (by first | rfl | trivial) ?_; refine Ev.const ?_; simp [jm0, e]
 ·refine Ev.neg (by omega) ?_; refine Ev.const ?_; simp [jm0, c]
theorem qn4 (t : Nat) (s : Int) (ac : List Bool) (ns : List (List Int)) (x3 : Nat) (hx3 : x3 ≤ 150) (i : Nat) (hni : i < 1048576) (l : List Int) (hl : l.length ≤ 26) (R : Bool)
  (hR : Ev (fun k => za0.l0 k (x3 : Int) ns (ns.length : Int) (((i : Nat) + 1 : Nat) : Int) (t : Int) s ac ns) R) (d : Nat) : ∀ j, j + d = l.length →
  Ev (fun k => za0.l1 k (x3 : Int) ns (ns.length : Int) (i : Int) l (l.length : Int) (j : Int) (t : Int) s ac ns) (kx0 x3 (l.drop j) && R) := by
 induction d with
 | zero =>
  intro j hj; apply Ev.succ; simp only [za0.l1]; refine Ev.neg (by omega) ?_; rw [w64 (by omega) (by omega), List.drop_of_length_le (by omega)]; simp only [kx0, List.all_nil, Bool.true_and]; exact hR
 | succ d ih =>
  intro j hj; apply Ev.succ; simp only [za0.l1]; refine Ev.pos (by omega) ?_; refine Ev.pos (by omega) ?_; refine Ev.pos (by omega) ?_; rw [xc2 _ _ (by omega)]; refine Ev.bind (Ev.const (xw1 _ _ _)) ?_; rw [show kx0 x3 (l.drop j) = ((decide (0 ≤ l[j]) && decide (l[j] < x3)) && kx0 x3 (l.drop (j + 1))) from kp1 _ _ _ (by omega)]; rw [w64 (n := (x3 : Int) - 1) (by omega) (by omega)]; rw [show decide (l[j] ≤ (x3 : Int) - 1) = decide (l[j] < (x3 : Int)) by apply decide_eq_decide.2; omega]; by_cases c : (decide (0 ≤ l[j]) && decide (l[j] < (x3 : Int))) = true
  ·rw [c]; refine Ev.pos (by first | rfl | trivial) ?_; rw [w64 (by omega) (by omega)]; simp only [Bool.true_and]; exact ih (j + 1) (by omega)
  ·rw [Bool.not_eq_true] at c; rw [c]; exact Ev.neg (by simp) (Ev.const (by simp))
theorem qo4 (t : Nat) (ht : t ≤ 3) (s : Int) (ac : List Bool) (ns : List (List Int)) (x3 : Nat) (hx3 : x3 ≤ 150) (hni : ns.length ≤ 1048576) (d : Nat) : ∀ i, i + d = ns.length →
  Ev (fun k => za0.l0 k (x3 : Int) ns (ns.length : Int) (i : Int) (t : Int) s ac ns) (xj1 (wd t) x3 (ns.drop i)) := by
 induction d with
 | zero =>
  intro i hi; apply Ev.succ; simp only [za0.l0]; refine Ev.neg (by omega) ?_; rw [List.drop_of_length_le (by omega)]; exact Ev.const rfl
 | succ d ih =>
  intro i hi; apply Ev.succ; simp only [za0.l0]; refine Ev.pos (by omega) ?_; refine Ev.pos (by omega) ?_; refine Ev.pos (by omega) ?_; rw [yg1 ns i (by omega)]; refine Ev.bind (zu4 t ht) ?_; rw [show xj1 (wd t) x3 (ns.drop i) = ((decide (ns[i].length = wd t) && kx0 x3 ns[i]) && xj1 (wd t) x3 (ns.drop (i + 1))) from kp1 _ _ _ (by omega)]; have := xk3 t ht; by_cases c : ns[i].length = wd t
  ·refine Ev.pos (by omega) ?_; have h := qn4 t s ac ns x3 hx3 i (by omega) ns[i] (by omega) _ (ih (i + 1) (by omega)) ns[i].length 0 (by omega); rw [List.drop_zero] at h; simp only [c, decide_true, Bool.true_and]; rw [c] at h; exact h
  ·refine Ev.neg (by omega) ?_; simp only [c, decide_false, Bool.false_and]; exact Ev.const rfl
theorem ks0 (t s : Int) (ac : List Bool) (ns : List (List Int)) (h : SzOK ac ns) : Ev (fun k => za0.f k t s ac ns) (jm0 t s ac ns) := by
 have hj0 : ∀ n : Int, Ev (fun k => za0.j0 k n true t s ac ns) false := fun n => by
  apply Ev.succ; simp only [za0.j0]; exact Ev.pos (by first | rfl | trivial) (Ev.const rfl)
 have h1 := h.1; unfold za0.f; refine Ev.bind (Ev.const (ya3 _)) ?_; by_cases ct : 1 ≤ t ∧ t ≤ 3
 ·obtain ⟨n, rfl⟩ : ∃ n : Nat, t = n := ⟨t.toNat, by omega⟩; simp only [show decide ((1 : Int) ≤ n) = true by simpa using ct.1, show decide ((n : Int) ≤ 3) = true by simpa using ct.2, Bool.true_and]; refine Ev.pos (by first | rfl | trivial) ?_; refine Ev.bind (Ev.const (xw1 _ _ _)) ?_; by_cases c1 : 1 ≤ ac.length ∧ ac.length ≤ 150
  ·refine Ev.pos (by simp; omega) ?_; by_cases cn : ns.length = ac.length
   ·refine Ev.pos (by omega) ?_; refine Ev.bind (Ev.const (xw1 _ _ _)) ?_; rw [w64 (n := (ac.length : Int) - 1) (by omega) (by omega)]; by_cases cs : 0 ≤ s ∧ s < ac.length
    ·simp only [show decide ((0 : Int) ≤ s) = true by simpa using cs.1, show decide (s ≤ (ac.length : Int) - 1) = true from decide_eq_true (by omega), Bool.true_and, Bool.not_true]; apply Ev.succ; simp only [za0.j0]; refine Ev.neg (by simp) ?_; have h0 := qo4 n (by omega) s ac ns ac.length c1.2 (by have := h.2.1; omega) ns.length 0 (by omega); rw [List.drop_zero] at h0
     have e : jm0 (n : Int) s ac ns = xj1 (wd n) ac.length ns := by
      simp only [jm0, Int.toNat_natCast]; simp only [show decide ((1 : Int) ≤ n) = true by simpa using ct.1, show decide ((n : Int) ≤ 3) = true by simpa using ct.2, show decide (1 ≤ ac.length) = true from decide_eq_true (by omega), show decide (ac.length ≤ 150) = true from decide_eq_true c1.2, cn, show decide ((0 : Int) ≤ s) = true by simpa using cs.1, show decide (s < (ac.length : Int)) = true from decide_eq_true cs.2, decide_true, Bool.true_and]
     rw [e]; exact h0
    ·have e1 : (decide (0 ≤ s) && decide (s ≤ (ac.length : Int) - 1)) = false := by
      rw [Bool.eq_false_iff]; intro e; rw [Bool.and_eq_true, decide_eq_true_eq, decide_eq_true_eq] at e; exact cs ⟨e.1, by omega⟩
     have e2 : (decide (0 ≤ s) && decide (s < (ac.length : Int))) = false := by
      rw [Bool.eq_false_iff]; intro e; rw [Bool.and_eq_true, decide_eq_true_eq, decide_eq_true_eq] at e; exact cs e
     have e : jm0 (n : Int) s ac ns = false := by
      simp only [jm0]
      rcases Bool.and_eq_false_iff.1 e2 with e | e <;> rw [e] <;> simp
     rw [e1, e]; exact hj0 _
   ·refine Ev.neg (by omega) ?_; (have e : jm0 (n : Int) s ac ns = false := by simp [jm0, cn]); rw [e]; exact hj0 _
  ·refine Ev.neg ?_ ?_
   ·intro e; rw [Bool.and_eq_true, decide_eq_true_eq, decide_eq_true_eq] at e; exact c1 ⟨by omega, by omega⟩
   ·have e : jm0 (n : Int) s ac ns = false := by
     simp only [jm0]; by_cases c2 : 1 ≤ ac.length
     ·simp [show ¬ ac.length ≤ 150 from fun h => c1 ⟨c2, h⟩]
     ·simp [c2]
    rw [e]; exact hj0 _
 ·have e : (decide (1 ≤ t) && decide (t ≤ 3)) = false := by
   rw [Bool.eq_false_iff]; intro e; rw [Bool.and_eq_true, decide_eq_true_eq, decide_eq_true_eq] at e; exact ct e
  rw [e]; refine Ev.neg (by simp) ?_; (have e : jm0 t s ac ns = false := by simp [jm0, e]); rw [e]; exact hj0 _
/-- What a valid relation gives. -/
theorem zk3 {t s : Int} {ac : List Bool} {ns : List (List Int)} (h : jm0 t s ac ns = true) : ∃ n : Nat, t = (n : Int) ∧ 1 ≤ n ∧ n ≤ 3 ∧ 1 ≤ ac.length ∧ ac.length ≤ 150 ∧ 0 ≤ s ∧ s < (ac.length : Int) ∧ yp0 (wd n) ac.length ns := by
 simp only [jm0, Bool.and_eq_true, decide_eq_true_eq] at h; obtain ⟨⟨⟨⟨⟨⟨⟨h1, h2⟩, h3⟩, h4⟩, h5⟩, h6⟩, h7⟩, h8⟩ := h; refine ⟨t.toNat, by omega, by omega, by omega, h3, h4, h6, h7, h5, fun row hrow => ?_⟩; simp only [xj1, List.all_eq_true, Bool.and_eq_true, decide_eq_true_eq, kx0] at h8; have := h8 row hrow; exact ⟨this.1, fun x hx => this.2 x hx⟩
def kw0 (t : Nat) : List Int := (ym2 20 (t : Int) (wd t) 0 (List.replicate (wd t) 0)).getD []
theorem ki1 : ∀ t : Fin 4, ym2 20 ((t.val : Nat) : Int) (wd t.val) 0 (List.replicate (wd t.val) 0) = some (kw0 t.val) ∧ (kw0 t.val).length = wd t.val ∧ ∀ x ∈ kw0 t.val, 0 ≤ x ∧ x < 2 ^ t.val := by decide +kernel
def kx3 (t : Nat) : Bool := (List.range (2 ^ t)).all fun p => (List.range (wd t)).all fun c => ym0.f 20 (t : Int) (p : Int) (c : Int) == some (endE (kw0 t) (p : Int) (c : Int))
theorem kw3 : ∀ t : Fin 4, kx3 t.val = true := by decide +kernel
theorem atk {α : Type} {g : Nat → Option α} {r : α} (hg : ∀ k, LeO (g k) (g (k + 1))) {k n : Nat} (hn : k ≤ n) (h : g k = some r) : g n = some r := kl2 hg hn h
theorem xc4 {t : Nat} (ht : t ≤ 3) {k : Nat} (hk : 20 ≤ k) {p c : Int} (p0 : 0 ≤ p) (p1 : p < 2 ^ t) (c0 : 0 ≤ c) (c1 : c < (wd t : Int)) : ym0.f k (t : Int) p c = some (endE (kw0 t) p c) := by
 refine atk (k := 20) (fun k => ym0.mono _ _ _ k) hk ?_; have h := kw3 ⟨t, by omega⟩; simp only [kx3, List.all_eq_true, List.mem_range, beq_iff_eq] at h
 have hp : p.toNat < 2 ^ t := by
  (have : ((2 ^ t : Nat) : Int) = 2 ^ t := by push_cast; rfl); omega
 have := h p.toNat hp c.toNat (by omega)
 rwa [show ((p.toNat : Nat) : Int) = p by omega, show ((c.toNat : Nat) : Int) = c by omega] at this
theorem size_le {n : Nat} (h1 : 1 ≤ n) (h3 : n ≤ 3) : (1 : Int) ≤ 2 ^ n ∧ (2 : Int) ^ n ≤ 8 ∧ (2 : Nat) ^ n ≤ 8 := by
 have : n = 1 ∨ n = 2 ∨ n = 3 := by omega
 rcases this with rfl | rfl | rfl <;> decide
/-- The tidy table of a relation's language. -/
def zz2 (t : Nat) (s : Int) (ac : List Bool) (ns : List (List Int)) (r : List Bool × List (List Int)) : Prop := ∃ f, kt1 (wd t) f (lngR (wd t) (kw0 t) ac ns (s, 0)) = some r
theorem jy2 {n : Nat} {s : Int} {ac : List Bool} {ns : List (List Int)} (h1 : 1 ≤ n) (h3 : n ≤ 3) (hl : ac.length ≤ 2000) (s0 : 0 ≤ s) (s1 : s < (ac.length : Int)) (hT : yp0 (wd n) ac.length ns) :
  ∃ r, zz2 n s ac ns r ∧ Ev (fun k => yn0.f k (n : Int) s ac ns) ((n : Int), 0, r.1, r.2) := by
 obtain ⟨q1, q2, q3⟩ := ki1 ⟨n, by omega⟩; simp only at q1 q2 q3; obtain ⟨z1, z2, z3⟩ := size_le h1 h3; have hw := xk3 n h3; have law := fun (f : Nat) (hf : 1900002 ≤ f) => zv4 hT rfl q2 (fun x hx => ⟨(q3 x hx).1, by have := (q3 x hx).2; omega⟩) (by omega) (by omega) s0 s1 hf; obtain ⟨p0, r, hp0, hpl0, hr0, hd0⟩ := law 1900002 (by omega); refine ⟨r, ⟨_, hd0⟩, 1900002, fun k hk => ?_⟩; obtain ⟨p, r', hp, hpl, hr, hd⟩ := law k hk; obtain rfl := je1 hd0 hd; have hwid : zy0.f k (n : Int) = some ((wd n : Nat) : Int) := atk (k := 10) (fun k => zy0.mono _ k) (by omega) (ks1 ⟨n, by omega⟩); have hpad : ym2 k (n : Int) (wd n) 0 (List.replicate (wd n) 0) = some (kw0 n) := atk (k := 20) (fun k => xd2 k _ _ _ _) (by omega) q1; show yn0.f k (n : Int) s ac ns = _; unfold yn0.f; rw [hwid]; simp only [Option.bind_some, Int.toNat_natCast]; rw [if_pos ⟨by omega, by omega, by unfold qj0 zl1; simp; omega⟩, hpad]; simp only [Option.bind_some]; rw [hp]; simp only [Option.bind_some]; rw [if_pos hpl, hr]; rfl
theorem yj2 {n : Nat} {s : Int} {ac : List Bool} {ns : List (List Int)} (h1 : 1 ≤ n) (h3 : n ≤ 3) (hl : ac.length ≤ 2000) (s0 : 0 ≤ s) (s1 : s < (ac.length : Int)) (hT : yp0 (wd n) ac.length ns)
  {r : List Bool × List (List Int)} (hr : zz2 n s ac ns r) : Ev (fun k => xz0.f k (n : Int) s ac ns) ((n : Int), 0, r.1, r.2, (n : Int), s) := by
 obtain ⟨f0, hd0⟩ := hr; obtain ⟨q1, q2, q3⟩ := ki1 ⟨n, by omega⟩; simp only at q1 q2 q3; obtain ⟨z1, z2, z3⟩ := size_le h1 h3; have hw := xk3 n h3; refine ⟨1000000000, fun k hk => ?_⟩; have hN : ac.length * 2 ^ n ≤ 2000 * 8 := Nat.mul_le_mul hl z3
 have hs : ya2 (wd n) ac.length (ac.length * 2 ^ n) (2 ^ n) (n : Int) k (kw0 n) :=
  ⟨z1, z2, by push_cast; rfl, by omega, q2, q3, fun p c p0 p1 c0 c1 => xc4 h3 (by omega) p0 p1 c0 c1⟩
 obtain ⟨p, hp, hp0, hpl, hpT, hpL⟩ := xt3 hs hT rfl s0 s1 (f := k) (by omega); have hb : p.1.length * (2 * p.1.length + wd n + 20) ≤ 16001 * 32048 := Nat.mul_le_mul (by omega) (by omega); obtain ⟨r', hr', hd'⟩ := ks2 (t := (n : Int)) hpT rfl hp0 (by omega) (by omega) (k := k) (f := k) (by omega) (by omega); rw [hpL] at hd'; obtain rfl := je1 hd0 hd'; have hwid : yv0.f k (n : Int) = some ((wd n : Nat) : Int) := atk (k := 10) (fun k => yv0.mono _ k) (by omega) (qp2 ⟨n, by omega⟩); show xz0.f k (n : Int) s ac ns = _; unfold xz0.f qv0.f; rw [hwid]; simp only [Option.bind_some, Int.toNat_natCast]; rw [if_pos ⟨by omega, by omega, by omega, by omega, by omega⟩, hp]; simp only [Option.bind_some]; rw [if_pos ⟨by omega, fun row hrow => by rw [(hpT.2 row hrow).1]; omega⟩, hr']; rfl
section
variable {K : Type} [DecidableEq K] {good : K → Bool} {acc : K → Option Bool} {next : K → Int → Option K} {W : Nat}
theorem zt3 {nx : Int → Option K} : ∀ (m : Nat) (c : Int) (l : List K) (row : List Int) (l1 : List K) (row1 : List Int), xv0 good nx m c l row = some (l1, row1) →
  ∃ e, row1 = row ++ e ∧ e.length = m ∧ l.length ≤ l1.length ∧ ∀ q : Nat, l.length ≤ q → q < l1.length → ∃ j : Nat, j < m ∧ e[j]? = some (q : Int) := by
 intro m
 induction m with
 | zero =>
  intro c l row l1 row1 h; simp only [xv0, Option.some.injEq, Prod.mk.injEq] at h; obtain ⟨rfl, rfl⟩ := h; exact ⟨[], by simp, rfl, Nat.le_refl _, fun q h1 h2 => by omega⟩
 | succ m ih =>
  intro c l row l1 row1 h; simp only [xv0] at h; obtain ⟨t, ht, h⟩ := oB h
  split at h
  ·split at h
   ·obtain ⟨e, he, hm, hl, hq⟩ := ih _ _ _ _ _ h; refine ⟨(l.idxOf t : Int) :: e, by simp [he], by simp [hm], hl, fun q h1 h2 => ?_⟩; obtain ⟨j, hj, hj2⟩ := hq q h1 h2; exact ⟨j + 1, by omega, by simpa using hj2⟩
   ·split at h
    ·obtain ⟨e, he, hm, hl, hq⟩ := ih _ _ _ _ _ h; rw [List.length_append, List.length_singleton] at hl hq; refine ⟨(l.length : Int) :: e, by simp [he], by simp [hm], by omega, fun q h1 h2 => ?_⟩; by_cases e0 : q = l.length
     ·exact ⟨0, by omega, by simp [e0]⟩
     ·obtain ⟨j, hj, hj2⟩ := hq q (by omega) h2; exact ⟨j + 1, by omega, by simpa using hj2⟩
    ·cases h
  ·cases h
def Met (W n : Nat) (rs : List (List Int)) : Prop := ∀ q : Nat, 1 ≤ q → q < n → ∃ (i : Nat) (row : List Int) (j : Nat), i < q ∧ rs[i]? = some row ∧ j < W ∧ row[j]? = some (q : Int)
theorem kc2 : ∀ (f : Nat) (l : List K) (bs : List Bool) (rs : List (List Int)) (r : List Bool × List (List Int)), rs.length = bs.length → bs.length ≤ l.length → Met W l.length rs → xy0 good acc next W f l bs rs = some r → Met W r.1.length r.2 := by
 intro f
 induction f with
 | zero => intro l bs rs r _ _ _ h; cases h
 | succ f ih =>
  intro l bs rs r hlen hle hM h; simp only [xy0] at h
  split at h
  ·next e =>
   obtain rfl := Option.some.inj h; have := List.getElem?_eq_none_iff.1 e; (have e2 : bs.length = l.length := by omega)
   simpa [e2] using hM
  ·next k e =>
   have hi := (List.getElem?_eq_some_iff.1 e).1; obtain ⟨⟨l1, row1⟩, hrow, h⟩ := oB h; obtain ⟨a, ha, h⟩ := oB h; obtain ⟨e1, he1, hm, hl, hq⟩ := zt3 _ _ _ _ _ _ hrow; rw [List.nil_append] at he1; subst he1; refine ih _ _ _ _ (by simp [hlen]) (by simp; omega) (fun q q1 q2 => ?_) h; by_cases c : q < l.length
   ·obtain ⟨i, row, j, h1, h2, h3, h4⟩ := hM q q1 c; exact ⟨i, row, j, h1, by rw [List.getElem?_append_left (List.getElem?_eq_some_iff.1 h2).1]; exact h2, h3, h4⟩
   ·obtain ⟨j, h3, h4⟩ := hq q (by omega) q2; exact ⟨bs.length, row1, j, by omega, by rw [← hlen]; simp, h3, h4⟩
end
/-- The form of a tidy table. -/
theorem kr2 {W f : Nat} {L : List Int → Bool} {r : List Bool × List (List Int)} (h : kt1 W f L = some r) : yp0 W r.1.length r.2 ∧ 0 < r.1.length ∧ r.1.length ≤ 1900000 ∧ Met W r.1.length r.2 := by
 classical
 unfold kt1 at h
 obtain ⟨h1, h2, h3, _⟩ := yk1 (S := fun _ => True) (Λ := fun (L : List Int → Bool) (w : List Int) => L w && w.all fun c => decide (0 ≤ c) && decide (c < (W : Int)))
  (fun k c t _ c0 c1 e => ⟨trivial, fun w => by obtain rfl := Option.some.inj e; simp [c0, c1]⟩) (fun k b _ e => by obtain rfl := Option.some.inj e; simp) (fun k c w hc => by
   by_cases c0 : 0 ≤ c
   ·have : ¬ c < (W : Int) := fun h => hc ⟨c0, h⟩; simp [this]
   ·simp [c0]) (start := L) trivial h
 exact ⟨h1, h2, h3, kc2 _ _ _ _ _ rfl (by simp) (fun q h1 h2 => by simp at h2; omega) h⟩
def mB : Nat → Nat → List Bool
 | _, 0 => []
 | a, n + 1 => (Int.tmod (a : Int) 3 == 0) :: mB (a + 1) n
def mI : Nat → Nat → List Int
 | _, 0 => []
 | a, n + 1 => (a : Int) :: mI (a + 1) n
def mII : Nat → List (List Int) → List (List Int)
 | _, [] => []
 | a, r :: rs => mI a r.length :: mII (a + r.length) rs
def sumL : List (List Int) → Nat
 | [] => 0
 | r :: rs => r.length + sumL rs
instance decTail : DecidableEq (List Bool × List (List Int) × Int) := inferInstance
instance decRel5 : DecidableEq (Int × Int × List Bool × List (List Int) × Int) := fun a b => @instDecidableEqProd _ _ inferInstance (fun x y => @instDecidableEqProd _ _ inferInstance decTail x y) a b
theorem Ev.guard {α β : Type} {g : Nat → Option α} {a : α} {f : Nat → Option β} {r : β} {D : ∀ k, Decidable (g k = some a)} (hg : Ev g a) (h : Ev f r) : Ev (fun k => if g k = some a then f k else none) r := by
 obtain ⟨K, hg⟩ := hg; obtain ⟨L, h⟩ := h; exact ⟨max K L, fun k hk => (if_pos (hg k (by omega))).trans (h k (by omega))⟩
theorem set_mid {α : Type} (p s : List α) (x v : α) : (p ++ x :: s).set p.length v = (p ++ [v]) ++ s := by simp
theorem yv4 {α : Type} (d : α) (p s : List α) (x : α) : (p ++ x :: s).getD p.length d = x := by simp [List.getD_eq_getElem?_getD]
theorem qi3 : ∀ (s p : List Int) (a : Nat), a + s.length ≤ 1152921504606846976 → p.length + s.length ≤ 35184372088832 → Ev (fun k => laws_markInt64S.l0 k (p ++ s) (a : Int) (p.length : Int)) (((a + s.length : Nat) : Int), p ++ mI a s.length) := by
 intro s
 induction s with
 | nil =>
  intro p a h1 h2; apply Ev.succ; simp only [laws_markInt64S.l0]; refine Ev.neg (by simp) ?_; exact Ev.const (by simp [mI])
 | cons x s ih =>
  intro p a h1 h2; simp only [List.length_cons] at h1 h2; apply Ev.succ; simp only [laws_markInt64S.l0]; refine Ev.pos (by simp; omega) (Ev.pos (by omega) ?_); rw [w64 (by omega) (by omega), w64 (by omega) (by omega), Int.toNat_natCast, set_mid]; have h := ih (p ++ [(a : Int)]) (a + 1) (by omega) (by simp; omega); (have e1 : (((p ++ [(a : Int)]).length : Nat) : Int) = (p.length : Int) + 1 := by simp); rw [e1] at h; (have e2 : ((a + 1 : Nat) : Int) = (a : Int) + 1 := by omega); rw [e2] at h; (have e3 : (p ++ [(a : Int)]) ++ mI (a + 1) s.length = p ++ mI a (x :: s).length := by simp [mI]); rw [e3, show a + 1 + s.length = a + (x :: s).length by simp; omega] at h; exact h
theorem qj3 (l : List Int) (a : Nat) (h1 : a + l.length ≤ 1152921504606846976) (h2 : l.length ≤ 35184372088832) : Ev (fun k => laws_markInt64S.f k l (a : Int)) (((a + l.length : Nat) : Int), mI a l.length) := by
 have h := qi3 l [] a h1 (by simpa using h2)
 simpa [laws_markInt64S.f] using h
theorem qb4 {rs : List (List Int)} {N : Nat} (h : ∀ x ∈ rs, x.length ≤ N) : sumL rs ≤ rs.length * N := by
 induction rs with
 | nil => simp [sumL]
 | cons r rs ih =>
  have h1 := ih (fun x hx => h x (List.mem_cons_of_mem _ hx)); have h2 := h r (by simp); simp only [sumL, List.length_cons, Nat.add_mul]; omega
theorem zo3 : ∀ (s p : List Bool) (a : Nat), a + s.length ≤ 1152921504606846976 → p.length + s.length ≤ 35184372088832 → Ev (fun k => laws_markBoolS.l0 k (p ++ s) (a : Int) (p.length : Int)) (((a + s.length : Nat) : Int), p ++ mB a s.length) := by
 intro s
 induction s with
 | nil =>
  intro p a h1 h2; apply Ev.succ; simp only [laws_markBoolS.l0]; refine Ev.neg (by simp) ?_; exact Ev.const (by simp [mB])
 | cons x s ih =>
  intro p a h1 h2; simp only [List.length_cons] at h1 h2; apply Ev.succ; simp only [laws_markBoolS.l0]; refine Ev.pos (by simp; omega) (Ev.pos (by omega) ?_); rw [w64 (by omega) (by omega), w64 (by omega) (by omega), Int.toNat_natCast, set_mid]; have h := ih (p ++ [Int.tmod (a : Int) 3 == 0]) (a + 1) (by omega) (by simp; omega); (have e1 : (((p ++ [Int.tmod (a : Int) 3 == 0]).length : Nat) : Int) = (p.length : Int) + 1 := by simp); rw [e1] at h; (have e2 : ((a + 1 : Nat) : Int) = (a : Int) + 1 := by omega); rw [e2] at h; (have e3 : (p ++ [Int.tmod (a : Int) 3 == 0]) ++ mB (a + 1) s.length = p ++ mB a (x :: s).length := by simp [mB]); rw [e3, show a + 1 + s.length = a + (x :: s).length by simp; omega] at h; exact h
theorem zm2 (l : List Bool) (a : Nat) (h1 : a + l.length ≤ 1152921504606846976) (h2 : l.length ≤ 35184372088832) : Ev (fun k => laws_markBoolS.f k l (a : Int)) (((a + l.length : Nat) : Int), mB a l.length) := by
 have h := zo3 l [] a h1 (by simpa using h2)
 simpa [laws_markBoolS.f] using h
theorem zn3 : ∀ (s p : List (List Int)) (a : Nat), a + sumL s ≤ 1152921504606846976 → p.length + s.length ≤ 35184372088832 → (∀ x ∈ s, x.length ≤ 35184372088832) →
  Ev (fun k => laws_markInt64SS.l0 k (p ++ s) (a : Int) (p.length : Int)) (((a + sumL s : Nat) : Int), p ++ mII a s) := by
 intro s
 induction s with
 | nil =>
  intro p a h1 h2 _; apply Ev.succ; simp only [laws_markInt64SS.l0]; refine Ev.neg (by simp) ?_; exact Ev.const (by simp [mII, sumL])
 | cons x s ih =>
  intro p a h1 h2 h3; simp only [List.length_cons, sumL] at h1 h2; apply Ev.succ; simp only [laws_markInt64SS.l0]; refine Ev.pos (by simp; omega) (Ev.pos (by omega) ?_); rw [Int.toNat_natCast, yv4, w64 (by omega) (by omega)]; refine Ev.bind (qj3 x a (by omega) (h3 x (by simp))) ?_; simp only; rw [set_mid]; have h := ih (p ++ [mI a x.length]) (a + x.length) (by omega) (by simp; omega) (fun y hy => h3 y (List.mem_cons_of_mem _ hy)); (have e1 : (((p ++ [mI a x.length]).length : Nat) : Int) = (p.length : Int) + 1 := by simp); rw [e1, List.append_assoc (cs := mII _ _), show a + x.length + sumL s = a + sumL (x :: s) by simp [sumL]; omega] at h; exact h
theorem zl2 (l : List (List Int)) (a : Nat) (h1 : a + sumL l ≤ 1152921504606846976) (h2 : l.length ≤ 35184372088832) (h3 : ∀ x ∈ l, x.length ≤ 35184372088832) : Ev (fun k => laws_markInt64SS.f k l (a : Int)) (((a + sumL l : Nat) : Int), mII a l) := by
 have h := zn3 l [] a h1 (by simpa using h2) h3
 simpa [laws_markInt64SS.f] using h
theorem qz2 {ac : List Bool} {ns : List (List Int)} (h : SzOK ac ns) : sumL ns ≤ 1099511627776 := by
 have := qb4 h.2.2; have h2 : ns.length * 1048576 ≤ 1048576 * 1048576 := Nat.mul_le_mul_right _ h.2.1; omega
theorem xf4 (l : List Bool) (h : l.length ≤ 1000000000) : xb0.f l = some l := by
 unfold xb0.f; simp; exact h
theorem jr2 (t s : Int) (ac : List Bool) (ns : List (List Int)) (hl : ns.length ≤ 1048576) (hr : ∀ x ∈ ns, x.length ≤ 1048576) (d : Nat) : ∀ i : Nat, i + d = ns.length → Ev (fun k => zl0.l0 k ns (ns.length : Int) (i : Int) t s ac (ns.take i)) (t, s, ac, ns) := by
 induction d with
 | zero =>
  intro i hi; apply Ev.succ; simp only [zl0.l0]; refine Ev.neg (by omega) (Ev.const ?_); rw [List.take_of_length_le (by omega)]
 | succ d ih =>
  intro i hi; apply Ev.succ; simp only [zl0.l0]; refine Ev.pos (by omega) (Ev.pos (by omega) (Ev.pos (by omega) ?_)); rw [yg1 ns i (by omega)]; have hri := hr _ (List.getElem_mem (show i < ns.length by omega))
  have inner : ∀ (e j : Nat), j + e = ns[i].length → Ev (fun k => zl0.l1 k (ns[i].take j) ns (ns.length : Int) (i : Int) ns[i] (ns[i].length : Int) (j : Int) t s ac (ns.take i)) (t, s, ac, ns) := by
   intro e
   induction e with
   | zero =>
    intro j hj; apply Ev.succ; simp only [zl0.l1]; refine Ev.neg (by omega) (Ev.pos (by simp; omega) ?_); rw [w64 (by omega) (by omega), show ns[i].take j = ns[i] from List.take_of_length_le (by omega), List.take_append_getElem (show i < ns.length by omega)]; exact ih (i + 1) (by omega)
   | succ e ihe =>
    intro j hj; apply Ev.succ; simp only [zl0.l1]; refine Ev.pos (by omega) (Ev.pos (by omega) (Ev.pos (by omega) (Ev.pos (by simp; omega) ?_))); rw [w64 (by omega) (by omega), xc2 _ _ (by omega), List.take_append_getElem (by omega)]; exact ihe (j + 1) (by omega)
  exact inner ns[i].length 0 (by omega)
theorem js2 (t s : Int) (ac : List Bool) (ns : List (List Int)) (h : SzOK ac ns) : Ev (fun k => zl0.f k t s ac ns) (t, s, ac, ns) := by
 unfold zl0.f; exact Ev.bind (Ev.const (xf4 ac (by have := h.1; omega))) (jr2 t s ac ns h.2.1 h.2.2 ns.length 0 (by omega))
theorem ji3 {n : Nat} {s : Int} {ac : List Bool} {ns : List (List Int)} {r : List Bool × List (List Int)} (h : SzOK ac ns) (hi : Ev (fun k => yn0.f k (n : Int) s ac ns) ((n : Int), 0, r.1, r.2)) : Ev (fun k => xt0.f k (n : Int) s ac ns) ((n : Int), 0, r.1, r.2) := by
 unfold xt0.f; exact Ev.bind (js2 _ s ac ns h) (Ev.bind hi (Ev.now _))
theorem kx1 (t s : Int) (ac : List Bool) (ns : List (List Int)) (h : SzOK ac ns) : Ev (fun k => xw0.f k t s ac ns) (jm0 t s ac ns) := by
 unfold xw0.f; exact Ev.bind (xq3 t s ac ns h) (Ev.pos ⟨rfl, rfl⟩ (Ev.now _))
theorem kw1 {n : Nat} {s : Int} {ac : List Bool} {ns : List (List Int)} {r : List Bool × List (List Int)} (h : Ev (fun k => xz0.f k (n : Int) s ac ns) ((n : Int), 0, r.1, r.2, (n : Int), s)) : Ev (fun k => xg0.f k (n : Int) s ac ns) ((n : Int), 0, r.1, r.2) := by
 unfold xg0.f; exact Ev.bind h (Ev.now _)
theorem qt3 {K : Type} [DecidableEq K] {good : K → Bool} {acc : K → Option Bool} {next : K → Int → Option K} {W : Nat} : ∀ (f : Nat) (l : List K) (bs : List Bool) (rs : List (List Int)) (r : List Bool × List (List Int)), xy0 good acc next W f l bs rs = some r → r.1.length < f + bs.length := by
 intro f
 induction f with
 | zero => intro l bs rs r h; simp [xy0] at h
 | succ f ih =>
  intro l bs rs r h; simp only [xy0] at h
  cases e : l[bs.length]? with
  | none =>
   rw [e] at h; obtain rfl := Option.some.inj h; show bs.length < _; omega
  | some k =>
   rw [e] at h; obtain ⟨p, h1, h⟩ := oB h; obtain ⟨a, h2, h⟩ := oB h; have := ih _ _ _ _ h; rw [List.length_append, List.length_singleton] at this; omega
theorem qv2 {n : Nat} {s : Int} {ac : List Bool} {ns : List (List Int)} (h3 : n ≤ 3) (hl : ac.length ≤ 2000) (s0 : 0 ≤ s) (s1 : s < (ac.length : Int)) (hT : yp0 (wd n) ac.length ns) {r : List Bool × List (List Int)} (h : zz2 n s ac ns r) : r.1.length ≤ ac.length * 8 + 1 := by
 classical
 obtain ⟨f0, hd⟩ := h; obtain ⟨q1, q2, q3⟩ := ki1 ⟨n, by omega⟩; simp only at q1 q2 q3
 have z2 : (2 : Int) ^ n ≤ 8 := by
  have : n = 0 ∨ n = 1 ∨ n = 2 ∨ n = 3 := by omega
  rcases this with rfl | rfl | rfl | rfl <;> decide
 let F : Nat → (List Int → Bool) := fun i => lngR (wd n) (kw0 n) ac ns (((i / 8 : Nat) : Int), ((i % 8 : Nat) : Int))
 let U : List (List Int → Bool) := (fun _ => false) :: (List.range (ac.length * 8)).map F
 have hUl : U.length = ac.length * 8 + 1 := by simp [U]
 have hin : ∀ q p : Int, 0 ≤ q → q < (ac.length : Int) → 0 ≤ p → p < 8 → lngR (wd n) (kw0 n) ac ns (q, p) ∈ U := by
  intro q p a0 a1 b0 b1; refine List.mem_cons_of_mem _ (List.mem_map.2 ⟨q.toNat * 8 + p.toNat, List.mem_range.2 (by omega), ?_⟩); show lngR _ _ _ _ _ = _; rw [show (q.toNat * 8 + p.toNat) / 8 = q.toNat by omega, show (q.toNat * 8 + p.toNat) % 8 = p.toNat by omega, show ((q.toNat : Nat) : Int) = q by omega, show ((p.toNat : Nat) : Int) = p by omega]
 have hnx : ∀ (L : List Int → Bool) (c : Int), L ∈ U → 0 ≤ c → c < ((wd n : Nat) : Int) → ∃ t, (some fun w => L (c :: w)) = some t ∧ (fun _ : List Int → Bool => true) t = true ∧ t ∈ U := by
  intro L c hL c0 c1; refine ⟨_, rfl, rfl, ?_⟩
  rcases List.mem_cons.1 hL with rfl | hL
  ·exact List.mem_cons_self
  ·obtain ⟨i, hi, rfl⟩ := List.mem_map.1 hL; have hi2 := List.mem_range.1 hi; by_cases hb : bits .andNot .i64 ((i % 8 : Nat) : Int) (rd (kw0 n) c) = 0
   ·have e : (fun w => F i (c :: w)) = lngR (wd n) (kw0 n) ac ns (stp ns ((i / 8 : Nat) : Int) c, rd (kw0 n) c) := by
     funext w
     show lngR _ _ _ _ _ (c :: w) = _; rw [lngR]; simp only [hb]; rw [decide_eq_true c0, decide_eq_true c1, decide_eq_true (show (0 : Int) ≤ ((i % 8 : Nat) : Int) by omega)]; simp
    rw [e]; have hq := hT.stpd (q := ((i / 8 : Nat) : Int)) (by omega) (by omega) c0 c1
    have hp := q3 (rd (kw0 n) c) (by
     (have hc : c.toNat < (kw0 n).length := by omega); show (kw0 n).getD c.toNat 0 ∈ kw0 n; rw [List.getD_eq_getElem?_getD, List.getElem?_eq_getElem hc]
     exact List.getElem_mem hc)
    exact hin _ _ hq.1 hq.2 hp.1 (by omega)
   ·have e : (fun w => F i (c :: w)) = fun _ => false := by
     funext w
     show lngR _ _ _ _ _ (c :: w) = _; rw [lngR]; simp only [decide_eq_false hb, Bool.false_and, Bool.and_false]
    rw [e]; exact List.mem_cons_self
 obtain ⟨r', hr'⟩ := ya1 (U := U) (by omega) (acc := fun L => some (L [])) hnx (fun k _ => ⟨_, rfl⟩) (ac.length * 8 + 2) [lngR (wd n) (kw0 n) ac ns (s, 0)] [] [] (by simp) (fun k hk => by rw [List.mem_singleton] at hk; subst hk; exact hin _ _ s0 s1 (by omega) (by omega)) (by simp) (by simp only [List.length_nil]; omega); have e := je1 (W := wd n) (f := f0) (g := ac.length * 8 + 2) hd hr'; subst e; have := qt3 _ _ _ _ _ hr'; simp only [List.length_nil] at this; omega
def inW (W : Nat) (w : List Int) : Bool := w.all fun c => decide (0 ≤ c) && decide (c < (W : Int))
def runT (ns : List (List Int)) : Int → List Int → Int
 | q, [] => q
 | q, c :: w => runT ns (stp ns q c) w
/-- Right columns behind the pads p. -/
def okW (W : Nat) (pads : List Int) : Int → List Int → Bool
 | p, [] => decide (0 ≤ p)
 | p, c :: w => decide (0 ≤ c) && (decide (c < (W : Int)) && (decide (0 ≤ p) && (decide (bits .andNot .i64 p (rd pads c) = 0) && okW W pads (rd pads c) w)))
theorem qi4 (W : Nat) (pads : List Int) (ac : List Bool) (ns : List (List Int)) : ∀ (w : List Int) (q p : Int), lngR W pads ac ns (q, p) w = (okW W pads p w && rdOf false ac (runT ns q w)) := by
 intro w
 induction w with
 | nil => intro q p; rfl
 | cons c w ih =>
  intro q p; simp only [lngR, okW, runT, ih]; simp only [Bool.and_assoc]
theorem xq4 (W : Nat) (ac : List Bool) (ns : List (List Int)) : ∀ (w : List Int) (q : Int), lng W ac ns q w = (inW W w && rdOf false ac (runT ns q w)) := by
 intro w
 induction w with
 | nil => intro q; rfl
 | cons c w ih =>
  intro q; simp only [lng, inW, List.all_cons, runT, ih]; simp only [Bool.and_assoc, inW]
theorem yz2 {W n : Nat} {ns : List (List Int)} (hT : yp0 W n ns) : ∀ (w : List Int) (q : Int), inW W w = true → 0 ≤ q → q < (n : Int) → 0 ≤ runT ns q w ∧ runT ns q w < (n : Int) := by
 intro w
 induction w with
 | nil => intro q _ h0 h1; exact ⟨h0, h1⟩
 | cons c w ih =>
  intro q h h0 h1; simp only [inW, List.all_cons, Bool.and_eq_true, decide_eq_true_eq] at h; have := hT.stpd h0 h1 h.1.1 h.1.2; exact ih _ h.2 this.1 this.2
theorem jj3 {W f : Nat} {L : List Int → Bool} {r : List Bool × List (List Int)} (h : kt1 W f L = some r) (w : List Int) : lng W r.1 r.2 0 w = (L w && inW W w) := by
 classical
 unfold kt1 at h
 obtain ⟨h1, h2, h3, h4⟩ := yk1 (S := fun _ => True) (Λ := fun (L : List Int → Bool) (w : List Int) => L w && w.all fun c => decide (0 ≤ c) && decide (c < (W : Int)))
  (fun k c t _ c0 c1 e => ⟨trivial, fun w => by obtain rfl := Option.some.inj e; simp [c0, c1]⟩) (fun k b _ e => by obtain rfl := Option.some.inj e; simp) (fun k c w hc => by
   by_cases c0 : 0 ≤ c
   ·have : ¬ c < (W : Int) := fun h => hc ⟨c0, h⟩; simp [this]
   ·simp [c0]) (start := L) trivial h
 rw [h4]; rfl
/-- A table that 'grow' made, by the language of its keys. -/
theorem jm3 {W : Nat} {p : List Bool × List (List Int)} {Λ : List Int → Bool} (h : lng W p.1 p.2 0 = Λ) {w : List Int} (hw : inW W w = true) : rdOf false p.1 (runT p.2 0 w) = Λ w := by
 have h1 := congrFun h w; rw [xq4, hw, Bool.true_and] at h1; exact h1
/-- A table over i * m + k. -/
def zn4 (W : Nat) (a b : List Bool × List (List Int)) (f : Bool → Bool → Bool) (x : List Bool × List (List Int)) : Prop :=
 ∀ i k : Int, 0 ≤ i → i < (a.1.length : Int) → 0 ≤ k → k < (b.1.length : Int) → rdOf false x.1 (i * (b.1.length : Int) + k) = f (rdOf false a.1 i) (rdOf false b.1 k) ∧ ∀ c, 0 ≤ c → c < (W : Int) → stp x.2 (i * (b.1.length : Int) + k) c = stp a.2 i c * (b.1.length : Int) + stp b.2 k c
theorem yd4 {W : Nat} {a b x : List Bool × List (List Int)} {f : Bool → Bool → Bool} (ha : yp0 W a.1.length a.2) (hb : yp0 W b.1.length b.2) (h : zn4 W a b f x) : ∀ (w : List Int) (i k : Int), inW W w = true → 0 ≤ i → i < (a.1.length : Int) → 0 ≤ k → k < (b.1.length : Int) →
  runT x.2 (i * (b.1.length : Int) + k) w = runT a.2 i w * (b.1.length : Int) + runT b.2 k w := by
 intro w
 induction w with
 | nil => intro i k _ _ _ _ _; rfl
 | cons c w ih =>
  intro i k hw i0 i1 k0 k1; simp only [inW, List.all_cons, Bool.and_eq_true, decide_eq_true_eq] at hw; have h1 := ha.stpd i0 i1 hw.1.1 hw.1.2; have h2 := hb.stpd k0 k1 hw.1.1 hw.1.2; simp only [runT]; rw [(h i k i0 i1 k0 k1).2 c hw.1.1 hw.1.2]; exact ih _ _ hw.2 h1.1 h1.2 h2.1 h2.2
theorem ye4 {W : Nat} {a b x : List Bool × List (List Int)} {f : Bool → Bool → Bool} (ha : yp0 W a.1.length a.2) (hb : yp0 W b.1.length b.2) (h : zn4 W a b f x) {w : List Int} (hw : inW W w = true) {i k : Int} (i0 : 0 ≤ i) (i1 : i < (a.1.length : Int)) (k0 : 0 ≤ k) (k1 : k < (b.1.length : Int)) :
  rdOf false x.1 (runT x.2 (i * (b.1.length : Int) + k) w) = f (rdOf false a.1 (runT a.2 i w)) (rdOf false b.1 (runT b.2 k w)) := by
 rw [yd4 ha hb h w i k hw i0 i1 k0 k1]; have h1 := yz2 ha w i hw i0 i1; have h2 := yz2 hb w k hw k0 k1; exact (h _ _ h1.1 h1.2 h2.1 h2.2).1
/-- The pairs that are met, numbered by 'grow'. -/
theorem zg3 {W : Nat} {a b : List Bool × List (List Int)} {f : Bool → Bool → Bool} (ha : yp0 W a.1.length a.2) (hb : yp0 W b.1.length b.2) (hab : a.1.length * b.1.length ≤ 1900000) (ha0 : 0 < a.1.length) (hb0 : 0 < b.1.length) (hal : a.1.length ≤ 1900000) (hbl : b.1.length ≤ 1900000)
  {acc : Int × Int → Option Bool} {next : Int × Int → Int → Option (Int × Int)}
  (hacc : ∀ i k : Int, 0 ≤ i → i < (a.1.length : Int) → 0 ≤ k → k < (b.1.length : Int) → acc (i, k) = some (f (rdOf false a.1 i) (rdOf false b.1 k)))
  (hnext : ∀ i k c : Int, 0 ≤ i → i < (a.1.length : Int) → 0 ≤ k → k < (b.1.length : Int) → 0 ≤ c → c < (W : Int) → next (i, k) c = some (stp a.2 i c, stp b.2 k c)) {n : Nat} (hn : a.1.length * b.1.length + 2 ≤ n) :
  ∃ r, xy0 qj0 acc next W n [(0, 0)] [] [] = some r ∧ yp0 W r.1.length r.2 ∧ 0 < r.1.length ∧ r.1.length ≤ 1900000 ∧ ∀ w, inW W w = true → rdOf false r.1 (runT r.2 0 w) = f (rdOf false a.1 (runT a.2 0 w)) (rdOf false b.1 (runT b.2 0 w)) := by
 let U : List (Int × Int) := (List.range a.1.length).flatMap fun (i : Nat) => (List.range b.1.length).map fun (k : Nat) => ((i : Int), (k : Int))
 have hUl : U.length = a.1.length * b.1.length := by
  simp only [U, List.length_flatMap, List.length_map, List.length_range, List.map_const', List.sum_replicate_nat]
 have hU : ∀ x : Int × Int, x ∈ U ↔ (0 ≤ x.1 ∧ x.1 < (a.1.length : Int) ∧ 0 ≤ x.2 ∧ x.2 < (b.1.length : Int)) := by
  intro x; simp only [U, List.mem_flatMap, List.mem_range, List.mem_map]; constructor
  ·rintro ⟨i, hi, k, hk, rfl⟩; exact ⟨by simp, by simp; omega, by simp, by simp; omega⟩
  ·rintro ⟨h0, h1, h2, h3⟩; exact ⟨x.1.toNat, by omega, x.2.toNat, by omega, Prod.ext (by simp; omega) (by simp; omega)⟩
 have hst : ((0 : Int), (0 : Int)) ∈ U := (hU _).2 ⟨by simp, by simp; omega, by simp, by simp; omega⟩
 have hgood : ∀ x ∈ U, qj0 x = true := fun x hx => by
  have := (hU x).1 hx; unfold qj0 zl1; simp only [Bool.and_eq_true, decide_eq_true_eq]; omega
 have total : ∃ r, xy0 qj0 acc next W n [(0, 0)] [] [] = some r := by
  refine ya1 (U := U) (by rw [hUl]; omega) (fun x c hx c0 c1 => ?_) (fun x hx => ?_) n _ [] [] (by simp) (by intro x hx; simp at hx; subst hx; exact hst) (by simp) (by rw [hUl]; simp; omega)
  ·obtain ⟨i0, i1, k0, k1⟩ := (hU x).1 hx; have h1 := ha.stpd i0 i1 c0 c1; have h2 := hb.stpd k0 k1 c0 c1; have hm : (stp a.2 x.1 c, stp b.2 x.2 c) ∈ U := (hU _).2 ⟨h1.1, h1.2, h2.1, h2.2⟩; exact ⟨_, hnext x.1 x.2 c i0 i1 k0 k1 c0 c1, hgood _ hm, hm⟩
  ·obtain ⟨i0, i1, k0, k1⟩ := (hU x).1 hx; exact ⟨_, hacc x.1 x.2 i0 i1 k0 k1⟩
 obtain ⟨r, hr⟩ := total
 obtain ⟨t1, t2, t3, t4⟩ := yk1 (S := fun x => x ∈ U) (Λ := fun x w => inW W w && f (rdOf false a.1 (runT a.2 x.1 w)) (rdOf false b.1 (runT b.2 x.2 w)))
  (fun x c t hx c0 c1 e => by
   obtain ⟨i0, i1, k0, k1⟩ := (hU x).1 hx; rw [hnext x.1 x.2 c i0 i1 k0 k1 c0 c1] at e; obtain rfl := Option.some.inj e; have h1 := ha.stpd i0 i1 c0 c1; have h2 := hb.stpd k0 k1 c0 c1
   exact ⟨(hU _).2 ⟨h1.1, h1.2, h2.1, h2.2⟩, fun w => by simp [inW, runT, c0, c1]⟩)
  (fun x v hx e => by
   obtain ⟨i0, i1, k0, k1⟩ := (hU x).1 hx; rw [hacc x.1 x.2 i0 i1 k0 k1] at e; obtain rfl := Option.some.inj e
   simp [inW, runT])
  (fun x c w hc => by
   by_cases c0 : 0 ≤ c
   ·have : ¬ c < (W : Int) := fun h => hc ⟨c0, h⟩; simp [inW, this]
   ·simp [inW, c0]) (start := ((0 : Int), (0 : Int))) hst hr
 refine ⟨r, hr, t1, t2, t3, fun w hw => ?_⟩; rw [jm3 t4 hw, hw, Bool.true_and]
def twoR (t s : Int) (ac : List Bool) (ns : List (List Int)) (t' s' : Int) (ac' : List Bool) (ns' : List (List Int)) : Int := if jm0 t s ac ns = true then (if jm0 t' s' ac' ns' = true then (if t = t' then 0 else 2) else 1) else 1
theorem kx2 {t s : Int} {ac : List Bool} {ns : List (List Int)} {t' s' : Int} {ac' : List Bool} {ns' : List (List Int)} (h : SzOK ac ns) (h' : SzOK ac' ns') : Ev (fun k => qe2 k t s ac ns t' s' ac' ns') (twoR t s ac ns t' s' ac' ns') := by
 have e1 := kx1 t s ac ns h; have e2 := kx1 t' s' ac' ns' h'; by_cases c : jm0 t s ac ns = true
 ·by_cases c' : jm0 t' s' ac' ns' = true
  ·by_cases e : t = t'
   ·rw [show twoR t s ac ns t' s' ac' ns' = 0 by unfold twoR; rw [if_pos c, if_pos c', if_pos e]]; exact Ev.bind e1 (Ev.pos c (Ev.bind e2 (Ev.pos c' (Ev.pos e (Ev.now _)))))
   ·rw [show twoR t s ac ns t' s' ac' ns' = 2 by unfold twoR; rw [if_pos c, if_pos c', if_neg e]]; exact Ev.bind e1 (Ev.pos c (Ev.bind e2 (Ev.pos c' (Ev.neg e (Ev.now _)))))
  ·rw [show twoR t s ac ns t' s' ac' ns' = 1 by unfold twoR; rw [if_pos c, if_neg c']]; exact Ev.bind e1 (Ev.pos c (Ev.bind e2 (Ev.neg c' (Ev.now _))))
 ·rw [show twoR t s ac ns t' s' ac' ns' = 1 by unfold twoR; rw [if_neg c]]; exact Ev.bind e1 (Ev.neg c (Ev.now _))
theorem zr3 {t s : Int} {ac : List Bool} {ns : List (List Int)} {t' s' : Int} {ac' : List Bool} {ns' : List (List Int)} (h : SzOK ac ns) (h' : SzOK ac' ns') : Ev (fun k => yd0.f k t s ac ns t' s' ac' ns') (twoR t s ac ns t' s' ac' ns') := by
 have hj : Ev (fun k => yd0.j0 k true t s ac ns t' s' ac' ns') 1 := by
  apply Ev.succ; simp only [yd0.j0]; exact Ev.pos (by first | rfl | trivial) (Ev.now _)
 have e1 := ks0 t s ac ns h; have e2 := ks0 t' s' ac' ns' h'; unfold yd0.f; by_cases c : jm0 t s ac ns = true
 ·refine Ev.bind e1 (Ev.pos c (Ev.bind e2 ?_)); by_cases c' : jm0 t' s' ac' ns' = true
  ·rw [c']; apply Ev.succ; simp only [yd0.j0]; by_cases e : t = t'
   ·rw [show twoR t s ac ns t' s' ac' ns' = 0 by unfold twoR; rw [if_pos c, if_pos c', if_pos e]]; exact Ev.neg (by decide) (Ev.pos e (Ev.now _))
   ·rw [show twoR t s ac ns t' s' ac' ns' = 2 by unfold twoR; rw [if_pos c, if_pos c', if_neg e]]; exact Ev.neg (by decide) (Ev.neg e (Ev.now _))
  ·rw [show twoR t s ac ns t' s' ac' ns' = 1 by unfold twoR; rw [if_pos c, if_neg c']]; rw [Bool.not_eq_true] at c'; rw [c']; exact hj
 ·rw [show twoR t s ac ns t' s' ac' ns' = 1 by unfold twoR; rw [if_neg c]]; exact Ev.bind e1 (Ev.neg c hj)
/-- Two relations that may be held against each other, and their tidy tables. -/
theorem je3 {t s : Int} {ac : List Bool} {ns : List (List Int)} {t' s' : Int} {ac' : List Bool} {ns' : List (List Int)} (h : twoR t s ac ns t' s' ac' ns' = 0) : jm0 t s ac ns = true ∧ jm0 t' s' ac' ns' = true ∧ t = t' := by
 unfold twoR at h
 split at h
 ·split at h
  ·split at h
   ·exact ⟨by assumption, by assumption, by assumption⟩
   ·omega
  ·omega
 ·omega
theorem qw2 {t s : Int} {ac : List Bool} {ns : List (List Int)} (h : SzOK ac ns) (hv : jm0 t s ac ns = true) : ∃ (n : Nat) (r : List Bool × List (List Int)), t = (n : Int) ∧ 1 ≤ n ∧ n ≤ 3 ∧ 0 ≤ s ∧ s < (ac.length : Int) ∧ yp0 (wd n) ac.length ns ∧ ac.length ≤ 150 ∧ zz2 n s ac ns r ∧ yp0 (wd n) r.1.length r.2 ∧ 0 < r.1.length ∧ r.1.length ≤ 1900000 ∧
  Ev (fun k => xt0.f k t s ac ns) (t, 0, r.1, r.2) ∧ Ev (fun k => xg0.f k t s ac ns) (t, 0, r.1, r.2) := by
 obtain ⟨n, rfl, h1, h3, hl1, hl, s0, s1, hT⟩ := zk3 hv; obtain ⟨r, hr, hi⟩ := jy2 h1 h3 (by omega) s0 s1 hT; have hs := yj2 h1 h3 (by omega) s0 s1 hT hr; obtain ⟨d1, d2, d3, d4⟩ := kr2 hr.choose_spec; exact ⟨n, r, rfl, h1, h3, s0, s1, hT, hl, hr, d1, d2, d3, ji3 h hi, kw1 hs⟩
theorem jv3 {q : Int} {m : List (List Int)} {k : Nat} (hk : k < m.length) : ∀ {l : List (List Int)} {i : Nat} (hi : i < l.length), (jx0 q l m)[i * m.length + k]? = some (rowM q l[i] m[k]) := by
 intro l
 induction l with
 | nil => intro i hi; exact absurd hi (by simp)
 | cons a l ih =>
  intro i hi; (have e : jx0 q (a :: l) m = m.map (rowM q a) ++ jx0 q l m := by simp [jx0]); rw [e]
  cases i with
  | zero =>
   rw [List.getElem?_append_left (by simp; omega), Nat.zero_mul, Nat.zero_add, List.getElem?_map, List.getElem?_eq_getElem hk]; rfl
  | succ i =>
   rw [List.getElem?_append_right (by rw [List.length_map, Nat.succ_mul]; omega), List.length_map, show (i + 1) * m.length + k - m.length = i * m.length + k by rw [Nat.succ_mul]; omega, ih (by simpa using hi)]; rfl
theorem zd3 {xs : List Bool} {i : Nat} {b : Bool} (h : xs[i]? = some b) : rdOf false xs (i : Int) = b := by
 simp [rdOf, List.getD_eq_getElem?_getD, h]
theorem zf3 {W : Nat} {a b : List Bool × List (List Int)} {f : Bool → Bool → Bool} (ha : yp0 W a.1.length a.2) (hb : yp0 W b.1.length b.2) :
  yp0 W (jv0 f a.1 b.1).length (jx0 (b.1.length : Int) a.2 b.2) ∧ zn4 W a b f (jv0 f a.1 b.1, jx0 (b.1.length : Int) a.2 b.2) := by
 have hla := ha.1; have hlb := hb.1; constructor
 ·refine ⟨by rw [zs1, jy1, hla, hlb], fun row hrow => ?_⟩; simp only [jx0, List.mem_flatMap, List.mem_map] at hrow; obtain ⟨ra, hra, rb, hrb, rfl⟩ := hrow; obtain ⟨la, xa⟩ := ha.2 _ hra; obtain ⟨lb, xb⟩ := hb.2 _ hrb; refine ⟨by simp only [rowM, List.length_zipWith]; omega, fun x hx => ?_⟩; obtain ⟨c, hc, rfl⟩ := List.getElem_of_mem hx; (have hc' : c < W := by simp only [rowM, List.length_zipWith] at hc; omega); (have e : (rowM (b.1.length : Int) ra rb)[c] = ra[c]'(by omega) * (b.1.length : Int) + rb[c]'(by omega) := by simp [rowM]); rw [e, zs1]; have p := xa _ (List.getElem_mem (by omega : c < ra.length)); have q := xb _ (List.getElem_mem (by omega : c < rb.length)); generalize ra[c]'(by omega) = u at *; generalize rb[c]'(by omega) = v at *; have h0 : 0 ≤ u * (b.1.length : Int) := Int.mul_nonneg p.1 (by omega); have h1 : u * (b.1.length : Int) ≤ ((a.1.length : Int) - 1) * (b.1.length : Int) := Int.mul_le_mul_of_nonneg_right (by omega) (by omega); rw [Int.sub_mul, Int.one_mul] at h1
  push_cast
  omega
 ·intro i k i0 i1 k0 k1; obtain ⟨i, rfl⟩ := Int.eq_ofNat_of_zero_le i0; obtain ⟨k, rfl⟩ := Int.eq_ofNat_of_zero_le k0; (have hi : i < a.1.length := by omega); (have hk : k < b.1.length := by omega); (have e : ((i : Int) * (b.1.length : Int) + (k : Int)) = ((i * b.1.length + k : Nat) : Int) := by push_cast; rfl); refine ⟨?_, fun c c0 c1 => ?_⟩
  ·rw [e, zd3 (jw3 hk hi), zd3 (List.getElem?_eq_getElem hi), zd3 (List.getElem?_eq_getElem hk)]
  ·obtain ⟨c, rfl⟩ := Int.eq_ofNat_of_zero_le c0; (have hi2 : i < a.2.length := by omega); (have hk2 : k < b.2.length := by omega); have g := jv3 (q := (b.1.length : Int)) hk2 hi2; rw [hlb] at g; have la := (ha.2 _ (List.getElem_mem hi2)).1; have lb := (hb.2 _ (List.getElem_mem hk2)).1; (have hc : c < W := by omega); rw [e]; simp only [stp, Int.toNat_natCast, List.getD_eq_getElem?_getD, g, Option.getD_some, List.getElem?_eq_getElem hi2, List.getElem?_eq_getElem hk2, rd]; simp [rowM, List.getElem?_zipWith, List.getElem?_eq_getElem (show c < (a.2[i]).length by omega), List.getElem?_eq_getElem (show c < (b.2[k]).length by omega)]
theorem qt0 {α : Type} {d : α} {xs : List α} {i : Int} (h0 : 0 ≤ i) (h1 : i < (xs.length : Int)) : at1 d xs i = some (rdOf d xs i) := by
 unfold at1; rw [if_pos ⟨h0, h1⟩]
def lexl : List Int → List Int → Prop
 | a :: u, b :: v => a < b ∨ (a = b ∧ lexl u v)
 | _, _ => False
theorem zp3 : ∀ u, ¬ lexl u u := by
 intro u
 induction u with
 | nil => simp [lexl]
 | cons a u ih => simp [lexl, ih]
theorem qm3 : ∀ u v w, lexl u v → lexl v w → lexl u w := by
 intro u
 induction u with
 | nil => intro v w h; simp [lexl] at h
 | cons a u ih =>
  intro v w h1 h2
  cases v with
  | nil => simp [lexl] at h1
  | cons b v =>
   cases w with
   | nil => simp [lexl] at h2
   | cons c w =>
    simp only [lexl] at h1 h2 ⊢
    rcases h1 with h1 | ⟨h1, h1'⟩ <;> rcases h2 with h2 | ⟨h2, h2'⟩
    ·left; omega
    ·left; omega
    ·left; omega
    ·right; exact ⟨by omega, ih _ _ h1' h2'⟩
theorem kg3 : ∀ u v : List Int, u.length = v.length → lexl u v → ∀ a b, lexl (u ++ [a]) (v ++ [b]) := by
 intro u
 induction u with
 | nil => intro v _ h; simp [lexl] at h
 | cons x u ih =>
  intro v hl h a b
  cases v with
  | nil => simp at hl
  | cons y v =>
   simp only [lexl, List.cons_append] at h ⊢
   rcases h with h | ⟨h, h'⟩
   ·exact .inl h
   ·exact .inr ⟨h, ih v (by simpa using hl) h' a b⟩
theorem kh3 : ∀ (u : List Int) (a b : Int), a < b → lexl (u ++ [a]) (u ++ [b]) := by
 intro u
 induction u with
 | nil => intro a b h; simp [lexl, h]
 | cons x u ih => intro a b h; rw [List.cons_append, List.cons_append]; exact .inr ⟨rfl, ih a b h⟩
def llt (u v : List Int) : Prop := u.length < v.length ∨ (u.length = v.length ∧ lexl u v)
def lle (u v : List Int) : Prop := u = v ∨ llt u v
theorem ql3 (u : List Int) : ¬ llt u u := by
 rintro (h | ⟨_, h⟩)
 ·omega
 ·exact zp3 u h
theorem ju2 {u v w : List Int} (h1 : llt u v) (h2 : llt v w) : llt u w := by
 rcases h1 with h1 | ⟨h1, h1'⟩ <;> rcases h2 with h2 | ⟨h2, h2'⟩
 ·exact .inl (by omega)
 ·exact .inl (by omega)
 ·exact .inl (by omega)
 ·exact .inr ⟨by omega, qm3 _ _ _ h1' h2'⟩
theorem qr1 {u v w : List Int} (h1 : lle u v) (h2 : lle v w) : lle u w := by
 rcases h1 with rfl | h1
 ·exact h2
 ·rcases h2 with rfl | h2
  ·exact .inr h1
  ·exact .inr (ju2 h1 h2)
theorem yn4 {u v : List Int} (h1 : lle u v) (h2 : lle v u) : u = v := by
 rcases h1 with h1 | h1
 ·exact h1
 ·rcases h2 with h2 | h2
  ·exact h2.symm
  ·exact absurd (ju2 h1 h2) (ql3 u)
theorem qb2 {u v : List Int} (h : llt u v) (a b : Int) : llt (u ++ [a]) (v ++ [b]) := by
 rcases h with h | ⟨h, h'⟩
 ·exact .inl (by simp; omega)
 ·exact .inr ⟨by simp [h], kg3 u v h h' a b⟩
theorem ym4 {u v : List Int} (h : lle u v) (a : Int) : lle (u ++ [a]) (v ++ [a]) := by
 rcases h with rfl | h
 ·exact .inl rfl
 ·exact .inr (qb2 h a a)
theorem ys3 (u : List Int) {a b : Int} (h : a < b) : llt (u ++ [a]) (u ++ [b]) := .inr ⟨by simp, kh3 u a b h⟩
theorem yr3 (u : List Int) (a : Int) : llt u (u ++ [a]) := .inl (by simp)
/-- The first of the lists that are taken. -/
def yd2 (A : List Int → Prop) (w : List Int) : Prop := A w ∧ ∀ w', A w' → lle w w'
theorem yd2.same {A : List Int → Prop} {u v : List Int} (h : yd2 A u) (h' : yd2 A v) : u = v := yn4 (h.2 v h'.1) (h'.2 u h.1)
theorem ky2 {P : List Int → Prop} (h0 : P []) (h1 : ∀ l k, P l → P (l ++ [k])) : ∀ l, P l := by
 intro l
 suffices h : ∀ n (l : List Int), l.length = n → P l from h _ l rfl
 intro n
 induction n with
 | zero =>
  intro l hl; rw [List.length_eq_zero_iff.1 hl]; exact h0
 | succ n ih =>
  intro l hl
  rcases List.eq_nil_or_concat l with rfl | ⟨L, b, rfl⟩
  ·simp at hl
  ·simp only [List.concat_eq_append] at hl ⊢
   exact h1 L b (ih L (by simpa using hl))
section
variable {W n : Nat} {ac : List Bool} {ns : List (List Int)}
/-- A list of columns is taken from a state. -/
def Tk (W : Nat) (ac : List Bool) (ns : List (List Int)) (q : Int) (u : List Int) : Prop := inW W u = true ∧ rdOf false ac (runT ns q u) = true
theorem Tk.cons {q c : Int} {u : List Int} : Tk W ac ns q (c :: u) ↔ (0 ≤ c ∧ c < (W : Int)) ∧ Tk W ac ns (stp ns q c) u := by
 unfold Tk; simp only [inW, List.all_cons, Bool.and_eq_true, decide_eq_true_eq, runT]; exact ⟨fun ⟨⟨a, b⟩, c⟩ => ⟨a, b, c⟩, fun ⟨a, b, c⟩ => ⟨⟨a, b⟩, c⟩⟩
def Dist (W : Nat) (ac : List Bool) (ns : List (List Int)) (q : Int) (d : Nat) : Prop := (∃ u, u.length = d ∧ Tk W ac ns q u) ∧ ∀ u, Tk W ac ns q u → d ≤ u.length
theorem Dist.same {q : Int} {d e : Nat} (h : Dist W ac ns q d) (h' : Dist W ac ns q e) : d = e := by
 obtain ⟨⟨u, hu, tu⟩, h1⟩ := h; obtain ⟨⟨v, hv, tv⟩, h2⟩ := h'; have := h1 v tv; have := h2 u tu; omega
/-- What is known of a state when m rounds are over. -/
def jd1 (W : Nat) (ac : List Bool) (ns : List (List Int)) (m : Nat) (F : List Int) (q : Int) : Prop := (rd F q = -1 ∧ ∀ u, Tk W ac ns q u → m < u.length) ∨ ∃ d : Nat, d ≤ m ∧ rd F q = (d : Int) ∧ Dist W ac ns q d
theorem jd1.test {m m' : Nat} {F : List Int} {q : Int} (h : jd1 W ac ns m' F q) (hm : m ≤ m') : rd F q = (m : Int) ↔ Dist W ac ns q m := by
 rcases h with ⟨h1, h2⟩ | ⟨d, hd, h1, h2⟩
 ·constructor
  ·intro h; omega
  ·rintro ⟨⟨u, hu, tu⟩, _⟩; have := h2 u tu; omega
 ·constructor
  ·intro h; (have : d = m := by omega); exact this ▸ h2
  ·intro h; rw [h1, h2.same h]
theorem jd1.neg {m : Nat} {F : List Int} {q : Int} (h : jd1 W ac ns m F q) : ¬ 0 ≤ rd F q ↔ ∀ u, Tk W ac ns q u → m < u.length := by
 rcases h with ⟨h1, h2⟩ | ⟨d, hd, h1, ⟨u, hu, tu⟩, h2⟩
 ·exact ⟨fun _ => h2, fun _ => by omega⟩
 ·exact ⟨fun h => absurd (by omega) h, fun h => by have := h u tu; omega⟩
theorem ko1 {q : Int} {m : Nat} (h : ∀ u, Tk W ac ns q u → m < u.length) : Dist W ac ns q (m + 1) ↔ ∃ c : Nat, c < W ∧ Dist W ac ns (stp ns q c) m := by
 constructor
 ·rintro ⟨⟨u, hu, tu⟩, h2⟩
  cases u with
  | nil => simp at hu
  | cons c u =>
   have ht := Tk.cons.1 tu; refine ⟨c.toNat, by omega, ⟨u, by simpa using hu, ?_⟩, fun v tv => ?_⟩
   ·rw [show ((c.toNat : Nat) : Int) = c by omega]; exact ht.2
   ·have := h2 (c :: v) (Tk.cons.2 ⟨ht.1, by rw [show ((c.toNat : Nat) : Int) = c by omega] at tv; exact tv⟩)
    simpa using this
 ·rintro ⟨c, hc, ⟨u, hu, tu⟩, h2⟩; exact ⟨⟨(c : Int) :: u, by simp [hu], Tk.cons.2 ⟨⟨by omega, by omega⟩, tu⟩⟩, fun v tv => h v tv⟩
/-- From a state from which something is taken, the nearest: no more columns than states. -/
theorem jn1 (hT : yp0 W n ns) {d : Nat} : ∀ {q : Int}, 0 ≤ q → q < (n : Int) → Dist W ac ns q d → d < n := by
 have key : ∀ (d : Nat) (q : Int), 0 ≤ q → q < (n : Int) → Dist W ac ns q d → ∃ l : List Int, l.length = d + 1 ∧ (∀ v ∈ l, 0 ≤ v ∧ v < (n : Int)) ∧ ∀ (i : Nat) v, l[i]? = some v → Dist W ac ns v i := by
  intro d
  induction d with
  | zero => intro q q0 q1 h; exact ⟨[q], rfl, by simp; omega, fun i v hv => by cases i with | zero => simp at hv; subst hv; exact h | succ i => simp at hv⟩
  | succ d ih =>
   intro q q0 q1 h; obtain ⟨c, hc, h2⟩ := (ko1 (fun u tu => by have := h.2 u tu; omega)).1 h; have hs := hT.stpd q0 q1 (c := (c : Int)) (by omega) (by omega); obtain ⟨l, hl, hr, hd⟩ := ih _ hs.1 hs.2 h2; refine ⟨l ++ [q], by simp [hl], fun v hv => ?_, fun i v hv => ?_⟩
   ·rcases List.mem_append.1 hv with hv | hv
    ·exact hr v hv
    ·simp at hv; subst hv; exact ⟨q0, q1⟩
   ·by_cases e : i < l.length
    ·rw [List.getElem?_append_left e] at hv; exact hd i v hv
    ·(have hi : i = l.length := by have := (List.getElem?_eq_some_iff.1 hv).1; simp at this; omega); subst hi; simp at hv; subst hv; rw [hl]; exact h
 intro q q0 q1 h; obtain ⟨l, hl, hr, hd⟩ := key d q q0 q1 h
 have hn : l.Nodup := by
  unfold List.Nodup; rw [List.pairwise_iff_getElem]; intro i j hi hj hij hv; have h1 := hd i _ (List.getElem?_eq_getElem hi); rw [hv] at h1; have := h1.same (hd j _ (List.getElem?_eq_getElem hj)); omega
 have := X.jy0 l ((List.range n).map fun (i : Nat) => (i : Int)) hn (fun v hv => by
  have := hr v hv
  exact List.mem_map.2 ⟨v.toNat, by rw [List.mem_range]; omega, by omega⟩)
 simp at this; omega
theorem jv2 {A : Nat → Prop} {m : Nat} (h : A m) : ∃ d, A d ∧ ∀ e, A e → d ≤ e := by
 classical
 induction m using Nat.strongRecOn with
 | _ m ih =>
  by_cases c : ∃ e, e < m ∧ A e
  ·obtain ⟨e, he, hA⟩ := c; exact ih e he hA
  ·exact ⟨m, h, fun e he => Nat.not_lt.1 fun hlt => c ⟨e, hlt, he⟩⟩
theorem qs4 {q : Int} {u : List Int} (h : Tk W ac ns q u) : ∃ d, Dist W ac ns q d := by
 obtain ⟨d, ⟨v, hv, tv⟩, h2⟩ := jv2 (A := fun m => ∃ v, v.length = m ∧ Tk W ac ns q v) ⟨u, rfl, h⟩; exact ⟨d, ⟨v, hv, tv⟩, fun w tw => h2 _ ⟨w, rfl, tw⟩⟩
/-- All rounds are over: -1 where nothing is taken. -/
def yi3 (W n : Nat) (ac : List Bool) (ns : List (List Int)) (F : List Int) : Prop := F.length = n ∧ ∀ q : Int, 0 ≤ q → q < (n : Int) → (rd F q = -1 ∧ ∀ u, ¬ Tk W ac ns q u) ∨ ∃ d : Nat, d < n ∧ rd F q = (d : Int) ∧ Dist W ac ns q d
theorem xb4 (hT : yp0 W n ns) {F : List Int} (hl : F.length = n) (h : ∀ q : Int, 0 ≤ q → q < (n : Int) → jd1 W ac ns n F q) : yi3 W n ac ns F := by
 refine ⟨hl, fun q q0 q1 => ?_⟩
 rcases h q q0 q1 with ⟨h1, h2⟩ | ⟨d, hd, h1, h2⟩
 ·refine .inl ⟨h1, fun u tu => ?_⟩; obtain ⟨d, hD⟩ := qs4 tu; have := jn1 hT q0 q1 hD; obtain ⟨v, hv, tv⟩ := hD.1; have := h2 v tv; omega
 ·exact .inr ⟨d, jn1 hT q0 q1 h2, h1, h2⟩
/-- One column on: the first that comes nearer; the first of the nearest lists begins with it. -/
theorem qn3 {q : Int} {d : Nat} (h : Dist W ac ns q (d + 1)) {c : Nat} (hc : c < W) (hd : Dist W ac ns (stp ns q c) d) (hmin : ∀ e : Nat, e < c → ¬ Dist W ac ns (stp ns q e) d) {u : List Int} (hu : yd2 (Tk W ac ns (stp ns q c)) u) : yd2 (Tk W ac ns q) ((c : Int) :: u) := by
 have hul : u.length = d := by
  obtain ⟨v, hv, tv⟩ := hd.1; have h1 := hd.2 u hu.1
  rcases hu.2 v tv with e | h2 | h2
  ·rw [e, hv]
  ·omega
  ·rw [h2.1, hv]
 refine ⟨Tk.cons.2 ⟨⟨by omega, by omega⟩, hu.1⟩, fun w tw => ?_⟩; have hw := h.2 w tw
 cases w with
 | nil => simp at hw
 | cons b w =>
  have tb := Tk.cons.1 tw; by_cases hl : w.length = d
  ·by_cases e : b = (c : Int)
   ·subst e
    rcases hu.2 w tb.2 with e | h2 | h2
    ·exact .inl (by rw [e])
    ·omega
    ·exact .inr (.inr ⟨by simp [h2.1], .inr ⟨rfl, h2.2⟩⟩)
   ·by_cases hlt : b < (c : Int)
    ·exfalso; refine hmin b.toNat (by omega) ⟨⟨w, hl, by rw [show ((b.toNat : Nat) : Int) = b by omega]; exact tb.2⟩, fun v tv => ?_⟩; have := h.2 (b :: v) (Tk.cons.2 ⟨tb.1, by rw [show ((b.toNat : Nat) : Int) = b by omega] at tv; exact tv⟩)
     simpa using this
    ·exact .inr (.inr ⟨by simp [hul, hl], .inl (by omega)⟩)
  ·refine .inr (.inl ?_)
   simp only [List.length_cons] at hw ⊢
   omega
theorem ki3 {q : Int} (h : Dist W ac ns q 0) : yd2 (Tk W ac ns q) [] := by
 obtain ⟨⟨u, hu, tu⟩, _⟩ := h; have : u = [] := List.length_eq_zero_iff.1 hu; subst this; refine ⟨tu, fun w _ => ?_⟩
 cases w with
 | nil => exact .inl rfl
 | cons b w => exact .inr (.inl (by simp))
theorem Dist.of_least {q : Int} {u : List Int} (h : yd2 (Tk W ac ns q) u) : Dist W ac ns q u.length := ⟨⟨u, rfl, h.1⟩, fun w tw => by
 rcases h.2 w tw with e | h2 | h2
 ·rw [e]; exact Nat.le_refl _
 ·omega
 ·omega⟩
end
theorem yw4 (t s : Int) (ac : List Bool) (ns : List (List Int)) (x9 : List Int) (hx9 : x9.length ≤ 2000001) : ∀ (j : Nat) (x11 : List Int), j ≤ x9.length → x11.length + j ≤ 2000001 → Ev (fun k => zj0.l2 k x9 x11 ((j : Int) - 1) t s ac ns) (x11 ++ (x9.take j).reverse, true, t, s) := by
 intro j
 induction j with
 | zero =>
  intro x11 _ _; refine Ev.succ ?_; simp only [zj0.l2]; exact Ev.neg (by omega) (by simpa using Ev.now _)
 | succ j ih =>
  intro x11 h1 h2; have hp := ih (x11 ++ [rd x9 (((j + 1 : Nat) : Int) - 1)]) (by omega) (by simp; omega); refine Ev.succ ?_; simp only [zj0.l2]; refine Ev.pos (by omega) (Ev.pos (by omega) (Ev.pos (by omega) (Ev.pos (by omega) ?_))); rw [w64 (by omega) (by omega), show ((j + 1 : Nat) : Int) - 1 - 1 = (j : Int) - 1 by omega]
  have e : x11 ++ (x9.take (j + 1)).reverse = x11 ++ [rd x9 (((j + 1 : Nat) : Int) - 1)] ++ (x9.take j).reverse := by
   (have hj : j < x9.length := by omega); rw [show ((j + 1 : Nat) : Int) - 1 = (j : Int) by omega, xc2 x9 j hj, ← List.take_append_getElem hj]; simp
  rw [e]; exact hp
/-- The ways to the states that were met. -/
structure Ways (x6 x7 : List Int) (P : List (List Int)) : Prop where
 len : P.length = x6.length
 frm : ∀ (q : Nat) p, P[q]? = some p → (rd x6 (q : Int) < 0 ∧ p = []) ∨ ∃ p', 0 ≤ rd x6 (q : Int) ∧ rd x6 (q : Int) < (q : Int) ∧ P[(rd x6 (q : Int)).toNat]? = some p' ∧ p = p' ++ [rd x7 (q : Int)]
theorem yx4 (t s : Int) (ac : List Bool) (ns : List (List Int)) (x6 x7 : List Int) (h67 : x7.length = x6.length) {P : List (List Int)} (hP : Ways x6 x7 P) :
  ∀ (m i : Nat) (x9 p : List Int), i < m → P[i]? = some p → x9.length + i ≤ 2000000 → Ev (fun k => zj0.l1 k x6 x7 x9 (i : Int) t s ac ns) (p ++ x9.reverse, true, t, s) := by
 intro m
 induction m with
 | zero => intro i x9 p h; omega
 | succ m ih =>
  intro i x9 p him hp h9; (have hi : i < x6.length := by have := (List.getElem?_eq_some_iff.1 hp).1; have := hP.len; omega)
  rcases hP.frm i p hp with ⟨h, rfl⟩ | ⟨p', h1, h2, h3, rfl⟩
  ·have hp2 := yw4 t s ac ns x9 (by omega) x9.length [] (by omega) (by simp; omega); refine Ev.succ ?_; simp only [zj0.l1]; refine Ev.pos (by omega) (Ev.pos (by omega) (Ev.neg (by omega) ?_)); rw [w64 (by omega) (by omega)]
   simpa using hp2
  ·have hp2 := ih (rd x6 (i : Int)).toNat (x9 ++ [rd x7 (i : Int)]) p' (by omega) h3 (by simp; omega); refine Ev.succ ?_; simp only [zj0.l1]; refine Ev.pos (by omega) (Ev.pos (by omega) (Ev.pos (by omega) (Ev.pos (by omega) (Ev.pos (by omega) ?_)))); rw [show (((rd x6 (i : Int)).toNat : Nat) : Int) = rd x6 (i : Int) by omega] at hp2; (have e : p' ++ [rd x7 (i : Int)] ++ x9.reverse = p' ++ (x9 ++ [rd x7 (i : Int)]).reverse := by simp); rw [e]; exact hp2
theorem qf2 : ∀ (n : Nat) (l : List Int), l.Nodup → (∀ v ∈ l, 0 ≤ v ∧ v < (n : Int)) → l.length ≤ n := by
 intro n l hn h
 have := X.jy0 l ((List.range n).map fun (i : Nat) => (i : Int)) hn (fun v hv => by
  have := h v hv
  exact List.mem_map.2 ⟨v.toNat, by rw [List.mem_range]; omega, by omega⟩)
 simpa using this
theorem qj1 {x4 : List Bool} {v : Int} (h0 : 0 ≤ v) (h1 : v < (x4.length : Int)) : rdOf false (x4.set v.toNat true) v = true := by
 (have : v.toNat < x4.length := by omega); simp [rdOf, List.getD_eq_getElem?_getD, List.getElem?_set, this]
theorem xh1 {x4 : List Bool} {u v : Int} (h0 : 0 ≤ v) (u0 : 0 ≤ u) (h : u ≠ v) : rdOf false (x4.set u.toNat true) v = rdOf false x4 v := by
 (have : u.toNat ≠ v.toNat := by omega); simp [rdOf, List.getD_eq_getElem?_getD, List.getElem?_set, this]
theorem zd1 {l d : List Int} {i : Nat} (h : i < l.length) : rd (l ++ d) (i : Int) = rd l (i : Int) := by
 simp [rd, List.getD_eq_getElem?_getD, List.getElem?_append_left h]
theorem yy1 {l : List Int} {y : Int} : rd (l ++ [y]) ((l.length : Nat) : Int) = y := by simp [rd, List.getD_eq_getElem?_getD]
theorem jd2 (ns : List (List Int)) (c : Int) : ∀ (u : List Int) (q : Int), runT ns q (u ++ [c]) = stp ns (runT ns q u) c := by
 intro u
 induction u with
 | nil => intro q; rfl
 | cons b u ih => intro q; exact ih _
theorem yw3 {W : Nat} {u : List Int} {c : Int} : inW W (u ++ [c]) = true ↔ inW W u = true ∧ 0 ≤ c ∧ c < (W : Int) := by
 simp [inW, List.all_append]
/-- Behind i whole rows and j columns of the next. -/
def Done (W i j : Nat) (q c : Nat) : Prop := c < W ∧ (q < i ∨ (q = i ∧ c < j))
structure BP (W n : Nat) (ns : List (List Int)) (i j : Nat) (x4 : List Bool) (x5 x6 x7 : List Int) (P : List (List Int)) : Prop where
 l4 : x4.length = n
 l6 : x6.length = x5.length
 l7 : x7.length = x5.length
 rng : ∀ v ∈ x5, 0 ≤ v ∧ v < (n : Int)
 nod : x5.Nodup
 seen : ∀ v : Int, 0 ≤ v → v < (n : Int) → (rdOf false x4 v = true ↔ v ∈ x5)
 ways : Ways x6 x7 P
 root : P[0]? = some []
 run : ∀ (q : Nat) p, P[q]? = some p → inW W p = true ∧ runT ns 0 p = rd x5 (q : Int)
 ord : ∀ (q r : Nat) p p', q < r → P[q]? = some p → P[r]? = some p' → llt p p'
 made : ∀ (q : Nat) p, P[q]? = some p → p = [] ∨ ∃ (r c : Nat) (p' : List Int), P[r]? = some p' ∧ p = p' ++ [(c : Int)] ∧ Done W i j r c
 cov : ∀ q c : Nat, Done W i j q c → ∀ pq, P[q]? = some pq → ∃ (r : Nat) (p : List Int), P[r]? = some p ∧ rd x5 (r : Int) = stp ns (rd x5 (q : Int)) (c : Int) ∧ lle p (pq ++ [(c : Int)])
section
variable {W n : Nat} {ac : List Bool} {ns : List (List Int)} {t s : Int} {i j : Nat} {x4 : List Bool} {x5 x6 x7 : List Int} {P : List (List Int)}
theorem BP.plen (h : BP W n ns i j x4 x5 x6 x7 P) : P.length = x5.length := h.ways.len.trans h.l6
theorem BP.skip (h : BP W n ns i j x4 x5 x6 x7 P) (hj : j < W) {r : Nat} {p pi : List Int} (hi : P[i]? = some pi) (hr : P[r]? = some p) (he : rd x5 (r : Int) = stp ns (rd x5 (i : Int)) (j : Int)) : BP W n ns i (j + 1) x4 x5 x6 x7 P := by
 refine ⟨h.l4, h.l6, h.l7, h.rng, h.nod, h.seen, h.ways, h.root, h.run, h.ord, fun q p hq => ?_, fun q c hd pq hq => ?_⟩
 ·rcases h.made q p hq with e | ⟨r, c, p', h1, h2, h3, h4⟩
  ·exact .inl e
  ·exact .inr ⟨r, c, p', h1, h2, h3, by omega⟩
 ·by_cases e : q = i ∧ c = j
  ·obtain ⟨rfl, rfl⟩ := e; rw [hi] at hq; obtain rfl := Option.some.inj hq; refine ⟨r, p, hr, he, ?_⟩
   rcases h.made r p hr with e | ⟨r', c', p', h1, h2, h3, h4⟩
   ·rw [e]; exact .inr (.inl (by simp))
   ·rw [h2]
    rcases h4 with h4 | ⟨h4, h5⟩
    ·exact .inr (qb2 (h.ord _ _ _ _ h4 h1 hi) _ _)
    ·subst h4; rw [hi] at h1; obtain rfl := Option.some.inj h1; exact .inr (ys3 _ (by omega))
  ·exact h.cov q c ⟨hd.1, by have := hd.2; omega⟩ pq hq
theorem BP.push (h : BP W n ns i j x4 x5 x6 x7 P) (hj : j < W) {pi : List Int} (hi : P[i]? = some pi) {v : Int} (hv : v = stp ns (rd x5 (i : Int)) (j : Int)) (v0 : 0 ≤ v) (v1 : v < (n : Int)) (hx : ¬ rdOf false x4 v = true) :
  BP W n ns i (j + 1) (x4.set v.toNat true) (x5 ++ [v]) (x6 ++ [(i : Int)]) (x7 ++ [(j : Int)]) (P ++ [pi ++ [(j : Int)]]) := by
 have hnew : v ∉ x5 := fun hm => hx ((h.seen v v0 v1).2 hm); have hpl := h.plen; have hil : i < P.length := (List.getElem?_eq_some_iff.1 hi).1; have h6 := h.l6; have h7 := h.l7
 have old : ∀ {q : Nat} {p : List Int}, P[q]? = some p → (P ++ [pi ++ [(j : Int)]])[q]? = some p := fun {q p} hq => by
  rw [List.getElem?_append_left (List.getElem?_eq_some_iff.1 hq).1]; exact hq
 have cases_ : ∀ {q : Nat} {p : List Int}, (P ++ [pi ++ [(j : Int)]])[q]? = some p → (q < P.length ∧ P[q]? = some p) ∨ (q = P.length ∧ p = pi ++ [(j : Int)]) := fun {q p} hq => by
  by_cases e : q < P.length
  ·rw [List.getElem?_append_left e] at hq; exact .inl ⟨e, hq⟩
  ·(have hq2 : q = P.length := by have := (List.getElem?_eq_some_iff.1 hq).1; simp at this; omega); subst hq2; simp at hq; exact .inr ⟨rfl, hq.symm⟩
 refine ⟨by simp [h.l4], by simp [h.l6], by simp [h.l7], ?_, ?_, ?_, ⟨by simp; have := h.ways.len; omega, ?_⟩, old h.root, ?_, ?_, ?_, ?_⟩
 ·intro u hu
  rcases List.mem_append.1 hu with hu | hu
  ·exact h.rng u hu
  ·simp at hu; subst hu; exact ⟨v0, v1⟩
 ·exact List.nodup_append.2 ⟨h.nod, by simp, fun a ha b hb => by simp at hb; subst hb; exact fun he => hnew (he ▸ ha)⟩
 ·intro u u0 u1; by_cases e : v = u
  ·subst e; rw [qj1 v0 (by rw [h.l4]; exact v1)]; simp
  ·rw [xh1 u0 v0 e, h.seen u u0 u1]; simp only [List.mem_append, List.mem_singleton]; exact ⟨fun h => .inl h, fun h => h.elim id (fun h => absurd h.symm e)⟩
 ·intro q p hq
  rcases cases_ hq with ⟨e, hq⟩ | ⟨rfl, rfl⟩
  ·rw [zd1 (by omega), zd1 (by omega)]
   rcases h.ways.frm q p hq with h1 | ⟨p', h1, h2, h3, h4⟩
   ·exact .inl h1
   ·exact .inr ⟨p', h1, h2, old h3, h4⟩
  ·(have e1 : rd (x6 ++ [(i : Int)]) ((P.length : Nat) : Int) = (i : Int) := by rw [show P.length = x6.length by omega]; exact yy1); (have e2 : rd (x7 ++ [(j : Int)]) ((P.length : Nat) : Int) = (j : Int) := by rw [show P.length = x7.length by omega]; exact yy1); rw [e1, e2]; exact .inr ⟨pi, by omega, by omega, by rw [Int.toNat_natCast]; exact old hi, rfl⟩
 ·intro q p hq
  rcases cases_ hq with ⟨e, hq⟩ | ⟨rfl, rfl⟩
  ·rw [zd1 (by omega)]; exact h.run q p hq
  ·obtain ⟨r1, r2⟩ := h.run i pi hi; rw [jd2, r2, hpl, yy1]; exact ⟨yw3.2 ⟨r1, by omega, by omega⟩, hv.symm⟩
 ·intro q r p p' hqr hq hr
  rcases cases_ hr with ⟨e, hr⟩ | ⟨rfl, rfl⟩
  ·rcases cases_ hq with ⟨e', hq⟩ | ⟨rfl, rfl⟩
   ·exact h.ord q r p p' hqr hq hr
   ·omega
  ·rcases cases_ hq with ⟨e', hq⟩ | ⟨rfl, rfl⟩
   ·rcases h.made q p hq with e | ⟨r', c', p', h1, h2, h3, h4⟩
    ·rw [e]; exact .inl (by simp)
    ·rw [h2]
     rcases h4 with h4 | ⟨h4, h5⟩
     ·exact qb2 (h.ord _ _ _ _ h4 h1 hi) _ _
     ·subst h4; rw [hi] at h1; obtain rfl := Option.some.inj h1; exact ys3 _ (by omega)
   ·omega
 ·intro q p hq
  rcases cases_ hq with ⟨e, hq⟩ | ⟨rfl, rfl⟩
  ·rcases h.made q p hq with e | ⟨r, c, p', h1, h2, h3, h4⟩
   ·exact .inl e
   ·exact .inr ⟨r, c, p', old h1, h2, h3, by omega⟩
  ·exact .inr ⟨i, j, pi, old hi, rfl, hj, by omega⟩
 ·intro q c hd pq hq; (have hql : q < P.length := by have := hd.2; omega); rw [List.getElem?_append_left hql] at hq; rw [zd1 (l := x5) (i := q) (by omega)]; by_cases e : q = i ∧ c = j
  ·obtain ⟨rfl, rfl⟩ := e; rw [hi] at hq; obtain rfl := Option.some.inj hq; exact ⟨P.length, pi ++ [(c : Int)], by simp, by rw [hpl, yy1]; exact hv, .inl rfl⟩
  ·obtain ⟨r, p, h1, h2, h3⟩ := h.cov q c ⟨hd.1, by have := hd.2; omega⟩ pq hq; have hrl := (List.getElem?_eq_some_iff.1 h1).1; exact ⟨r, p, old h1, by rw [zd1 (by omega)]; exact h2, h3⟩
theorem BP.row (h : BP W n ns i W x4 x5 x6 x7 P) : BP W n ns (i + 1) 0 x4 x5 x6 x7 P := by
 refine ⟨h.l4, h.l6, h.l7, h.rng, h.nod, h.seen, h.ways, h.root, h.run, h.ord, fun q p hq => ?_, fun q c hd pq hq => ?_⟩
 ·rcases h.made q p hq with e | ⟨r, c, p', h1, h2, h3, h4⟩
  ·exact .inl e
  ·exact .inr ⟨r, c, p', h1, h2, h3, by omega⟩
 ·exact h.cov q c ⟨hd.1, by have := hd.1; have := hd.2; omega⟩ pq hq
/-- Every list leads to a state that was met on a way that is not greater, or goes on behind one of those not looked at yet. -/
theorem BP.all (h : BP W n ns i 0 x4 x5 x6 x7 P) : ∀ u : List Int, inW W u = true → (∃ (r : Nat) (p : List Int), P[r]? = some p ∧ rd x5 (r : Int) = runT ns 0 u ∧ lle p u) ∨ ∃ (r : Nat) (p : List Int), i ≤ r ∧ P[r]? = some p ∧ lle p u := by
 apply ky2
 ·intro _; have := h.run 0 [] h.root; exact .inl ⟨0, [], h.root, this.2.symm, .inl rfl⟩
 ·intro u c ih hw; obtain ⟨w1, c0, c1⟩ := yw3.1 hw
  rcases ih w1 with ⟨r, p, h1, h2, h3⟩ | ⟨r, p, hr, h1, h3⟩
  ·by_cases e : r < i
   ·obtain ⟨r', p', g1, g2, g3⟩ := h.cov r c.toNat ⟨by omega, .inl e⟩ p h1; rw [show ((c.toNat : Nat) : Int) = c by omega] at g2 g3; exact .inl ⟨r', p', g1, by rw [g2, jd2, h2], qr1 g3 (ym4 h3 c)⟩
   ·exact .inr ⟨r, p, by omega, h1, qr1 h3 (.inr (yr3 u c))⟩
  ·exact .inr ⟨r, p, hr, h1, qr1 h3 (.inr (yr3 u c))⟩
/-- The first list that is taken, or that there is none. -/
def yq0 (W : Nat) (t s : Int) (ac : List Bool) (ns : List (List Int)) (g : Nat → Option (List Int × Bool × Int × Int)) : Prop := ∃ p b, Ev g (p, b, t, s) ∧ ((b = true ∧ yd2 (Tk W ac ns 0) p) ∨ (b = false ∧ p = [] ∧ ∀ u, ¬ Tk W ac ns 0 u))
theorem yq0.succ {g : Nat → Option (List Int × Bool × Int × Int)} (h : yq0 W t s ac ns (fun k => g (k + 1))) : yq0 W t s ac ns g := by
 obtain ⟨p, b, h1, h2⟩ := h; exact ⟨p, b, Ev.succ h1, h2⟩
theorem yq0.pos {c : Prop} [Decidable c] {f g : Nat → Option (List Int × Bool × Int × Int)} (hc : c) (h : yq0 W t s ac ns f) : yq0 W t s ac ns (fun k => if c then f k else g k) := by
 obtain ⟨p, b, h1, h2⟩ := h; exact ⟨p, b, Ev.pos hc h1, h2⟩
theorem yq0.neg {c : Prop} [Decidable c] {f g : Nat → Option (List Int × Bool × Int × Int)} (hc : ¬ c) (h : yq0 W t s ac ns g) : yq0 W t s ac ns (fun k => if c then f k else g k) := by
 obtain ⟨p, b, h1, h2⟩ := h; exact ⟨p, b, Ev.neg hc h1, h2⟩
/-- None of those that were looked at takes. -/
def xi3 (ac : List Bool) (x5 : List Int) (m : Nat) : Prop := ∀ i : Nat, i < m → rdOf false ac (rd x5 (i : Int)) = false
theorem zn2 (hB : BP W n ns x5.length 0 x4 x5 x6 x7 P) (hL : xi3 ac x5 x5.length) : ∀ u, ¬ Tk W ac ns 0 u := by
 rintro u ⟨hw, ht⟩
 rcases hB.all u hw with ⟨r, p, h1, h2, h3⟩ | ⟨r, p, hr, h1, h3⟩
 ·(have hr : r < x5.length := by have := (List.getElem?_eq_some_iff.1 h1).1; have := hB.plen; omega); have := hL r hr; rw [h2, ht] at this; cases this
 ·have := (List.getElem?_eq_some_iff.1 h1).1; have := hB.plen; omega
theorem jt2 (hB : BP W n ns i 0 x4 x5 x6 x7 P) (hL : xi3 ac x5 i) {p : List Int} (hp : P[i]? = some p) (ha : rdOf false ac (rd x5 (i : Int)) = true) : yd2 (Tk W ac ns 0) p := by
 obtain ⟨r1, r2⟩ := hB.run i p hp; refine ⟨⟨r1, by rw [r2]; exact ha⟩, ?_⟩; rintro u ⟨hw, ht⟩
 have far : ∀ (r : Nat) (p' : List Int), i ≤ r → P[r]? = some p' → lle p' u → lle p u := by
  intro r p' hr h1 h3; by_cases e : i = r
  ·subst e; rw [hp] at h1; obtain rfl := Option.some.inj h1; exact h3
  ·exact qr1 (.inr (hB.ord i r p p' (by omega) hp h1)) h3
 rcases hB.all u hw with ⟨r, p', h1, h2, h3⟩ | ⟨r, p', hr, h1, h3⟩
 ·by_cases e : r < i
  ·have := hL r e; rw [h2, ht] at this; cases this
  ·exact far r p' (by omega) h1 h3
 ·exact far r p' hr h1 h3
theorem yy4 (hT : yp0 W n ns) (hn : ac.length = n) (hn2 : n ≤ 2000000) (hW : W ≤ 1000) : ∀ (d i : Nat) (x4 : List Bool) (x5 x6 x7 : List Int) (P : List (List Int)), i + d = n → i ≤ x5.length → BP W n ns i 0 x4 x5 x6 x7 P → xi3 ac x5 i →
  yq0 W t s ac ns (fun k => zj0.l0 k x4 x5 x6 x7 (i : Int) t s ac ns) := by
 intro d
 induction d with
 | zero =>
  intro i x4 x5 x6 x7 P hi hle hB hL; have hlen := qf2 n x5 hB.nod hB.rng; (have e : i = x5.length := by omega); subst e; refine yq0.succ ?_; simp only [zj0.l0]; refine yq0.neg (by omega) ⟨[], false, Ev.now _, .inr ⟨rfl, rfl, zn2 hB hL⟩⟩
 | succ d ih =>
  intro i x4 x5 x6 x7 P hi hle hB hL; have hlen := qf2 n x5 hB.nod hB.rng; refine yq0.succ ?_; simp only [zj0.l0]; by_cases c : i < x5.length
  ·have hr := hB.rng _ (X.xn4 c); obtain ⟨pi, hpi⟩ : ∃ pi, P[i]? = some pi := ⟨_, List.getElem?_eq_getElem (by have := hB.plen; omega)⟩; refine yq0.pos (by omega) (yq0.pos (by omega) (yq0.pos (by omega) (yq0.pos (by omega) ?_))); by_cases ca : rdOf false ac (rd x5 (i : Int)) = true
   ·have hp := yx4 t s ac ns x6 x7 (by rw [hB.l7, hB.l6]) hB.ways (i + 1) i [] pi (by omega) hpi (by simp; omega); rw [List.reverse_nil, List.append_nil] at hp; exact yq0.pos ca ⟨pi, true, hp, .inl ⟨rfl, jt2 hB hL hpi ca⟩⟩
   ·refine yq0.neg ca ?_; have hrow := hT.row hr.1 hr.2; have hrl := (hT.2 _ hrow).1
    -- the row of the state
    have inner : ∀ (e j : Nat) (y4 : List Bool) (y5 y6 y7 : List Int) (Q : List (List Int)), j + e = W → BP W n ns i j y4 y5 y6 y7 Q → xi3 ac y5 i → i < y5.length → rd y5 (i : Int) = rd x5 (i : Int) → Q[i]? = some pi →
      yq0 W t s ac ns (fun k => zj0.l3 k y4 y5 y6 y7 (i : Int) (j : Int) t s ac ns) := by
     intro e
     induction e with
     | zero =>
      intro j y4 y5 y6 y7 Q hj hB' hL' hi' hre hqi; refine yq0.succ ?_; simp only [zj0.l3]; (have hrl2 : (rd_L2 ns (rd y5 (i : Int))).length = W := by rw [hre]; exact hrl); refine yq0.pos (by omega) (yq0.pos (by omega) (yq0.pos (by omega) (yq0.pos (by rw [hT.1]; omega) (yq0.neg (by omega) ?_)))); rw [w64 (by omega) (by omega), show (i : Int) + 1 = ((i + 1 : Nat) : Int) by omega]; (have hjW : j = W := by omega); subst hjW; refine ih (i + 1) _ _ _ _ _ (by omega) (by omega) hB'.row (fun q hq => ?_); by_cases eq : q < i
      ·exact hL' q eq
      ·(have : q = i := by omega); subst this; rw [hre]
       simpa using ca
     | succ e ihe =>
      intro j y4 y5 y6 y7 Q hj hB' hL' hi' hre hqi; refine yq0.succ ?_; simp only [zj0.l3]; (have hrl2 : (rd_L2 ns (rd y5 (i : Int))).length = W := by rw [hre]; exact hrl); have hst := hT.stpd hr.1 hr.2 (c := (j : Int)) (by omega) (by omega); (have hse : rd (rd_L2 ns (rd y5 (i : Int))) (j : Int) = stp ns (rd x5 (i : Int)) (j : Int) := by rw [hre]; rfl); have hlen' := qf2 n y5 hB'.nod hB'.rng; have h6 := hB'.l6; have h7 := hB'.l7; have h4 := hB'.l4; rw [hse]; refine yq0.pos (by omega) (yq0.pos (by omega) (yq0.pos (by omega) (yq0.pos (by rw [hT.1]; omega) (yq0.pos (by omega) (yq0.pos (by omega) (yq0.pos hst.1 (yq0.pos (by omega) ?_))))))); rw [w64 (by omega) (by omega), show (j : Int) + 1 = ((j + 1 : Nat) : Int) by omega]; by_cases cs : rdOf false y4 (stp ns (rd x5 (i : Int)) (j : Int)) = true
      ·obtain ⟨r, hr1, hr2⟩ := List.getElem_of_mem ((hB'.seen _ hst.1 hst.2).1 cs); obtain ⟨pr, hpr⟩ : ∃ p, Q[r]? = some p := ⟨_, List.getElem?_eq_getElem (by have := hB'.plen; omega)⟩; exact yq0.pos cs (ihe (j + 1) _ _ _ _ _ (by omega) (hB'.skip (by omega) hqi hpr (by rw [xc2 y5 r hr1, hr2, hre])) hL' hi' hre hqi)
      ·refine yq0.neg cs (yq0.pos (by omega) (yq0.pos (by omega) (yq0.pos (by omega) ?_))); refine ihe (j + 1) _ _ _ _ _ (by omega) (hB'.push (by omega) hqi (by rw [hre]) hst.1 hst.2 cs) (fun q hq => ?_) (by simp; omega) (by rw [zd1 hi']; exact hre) (by rw [List.getElem?_append_left (List.getElem?_eq_some_iff.1 hqi).1]; exact hqi); rw [zd1 (by omega)]; exact hL' q hq
    exact inner W 0 x4 x5 x6 x7 P (by omega) hB hL c rfl hpi
  ·(have e : i = x5.length := by omega); subst e; exact yq0.neg (by omega) ⟨[], false, Ev.now _, .inr ⟨rfl, rfl, zn2 hB hL⟩⟩
theorem yz4 (hT : yp0 W n ns) (hn : ac.length = n) (hn2 : n ≤ 2000000) (h0 : 0 < n) (hW : W ≤ 1000) : yq0 W t 0 ac ns (fun k => zj0.f k t 0 ac ns) := by
 have hB : BP W n ns 0 0 ((List.replicate n false).set 0 true) [0] [-1] [0] [[]] := by
  have one : ∀ {q : Nat} {p : List Int}, [([] : List Int)][q]? = some p → q = 0 ∧ p = [] := fun {q p} h => by
   cases q with
   | zero => simp at h; exact ⟨rfl, h⟩
   | succ q => simp at h
  refine ⟨by simp, rfl, rfl, by simp; omega, by simp, fun v v0 v1 => ?_, ⟨rfl, fun q p hq => ?_⟩, rfl, fun q p hq => ?_, fun q r p p' hqr hq hr => ?_, fun q p hq => .inl (one hq).2, fun q c hd => ?_⟩
  ·by_cases e : v = 0
   ·subst e; simp; exact qj1 (x4 := List.replicate n false) (v := 0) (by omega) (by simp; omega)
   ·have h2 := xh1 (x4 := List.replicate n false) (u := 0) (v := v) v0 (by omega) (fun h => e h.symm); rw [show (0 : Int).toNat = 0 from rfl] at h2; rw [h2]; simp [e, rdOf, List.getD_eq_getElem?_getD, List.getElem?_replicate]
    split <;> simp
  ·obtain ⟨rfl, rfl⟩ := one hq; exact .inl ⟨by decide, rfl⟩
  ·obtain ⟨rfl, rfl⟩ := one hq; exact ⟨rfl, rfl⟩
  ·have := (one hr).1; omega
  ·have := hd.2; omega
 have := yy4 (t := t) (s := 0) hT hn hn2 hW n 0 _ _ _ _ _ (by omega) (by omega) hB (fun i hi => by omega); unfold zj0.f; refine yq0.pos (by omega) (yq0.pos (by omega) ?_); simp only [Option.bind_some, Int.toNat_natCast]; refine yq0.pos (by omega) (yq0.pos (by simp; omega) ?_); rw [hn]; exact this
end
/-- A run that ends in something of which Φ holds. -/
def ResP {α : Type} (Φ : α → Prop) (g : Nat → Option α) : Prop := ∃ r, Ev g r ∧ Φ r
section
variable {α β : Type} {Φ : α → Prop}
theorem ResP.succ {g : Nat → Option α} (h : ResP Φ (fun k => g (k + 1))) : ResP Φ g := by
 obtain ⟨r, h1, h2⟩ := h; exact ⟨r, Ev.succ h1, h2⟩
theorem ResP.pos {c : Prop} [Decidable c] {f g : Nat → Option α} (hc : c) (h : ResP Φ f) : ResP Φ (fun k => if c then f k else g k) := by
 obtain ⟨r, h1, h2⟩ := h; exact ⟨r, Ev.pos hc h1, h2⟩
theorem ResP.neg {c : Prop} [Decidable c] {f g : Nat → Option α} (hc : ¬ c) (h : ResP Φ g) : ResP Φ (fun k => if c then f k else g k) := by
 obtain ⟨r, h1, h2⟩ := h; exact ⟨r, Ev.neg hc h1, h2⟩
theorem ResP.bind {f : Nat → Option β} {b : β} {g : β → Nat → Option α} (hf : Ev f b) (h : ResP Φ (g b)) : ResP Φ (fun k => (f k).bind fun x => g x k) := by
 obtain ⟨r, h1, h2⟩ := h; exact ⟨r, Ev.bind hf h1, h2⟩
end
theorem jh2 {l : List Int} {i : Nat} {x : Int} (h : i < l.length) : rd (l.set i x) (i : Int) = x := by
 simp [rd, List.getD_eq_getElem?_getD, List.getElem?_set, h]
theorem zc2 {l : List Int} {i : Nat} {q x : Int} (q0 : 0 ≤ q) (h : q ≠ (i : Int)) : rd (l.set i x) q = rd l q := by
 (have : i ≠ q.toNat := by omega); simp [rd, List.getD_eq_getElem?_getD, List.getElem?_set, this]
section
variable {W n : Nat} {ac : List Bool} {ns : List (List Int)} {t s : Int}
theorem jd1.set {m i : Nat} {F : List Int} {q x : Int} (h : jd1 W ac ns m F q) (q0 : 0 ≤ q) (hq : q ≠ (i : Int)) : jd1 W ac ns m (F.set i x) q := by
 unfold jd1 at h ⊢
 rw [zc2 q0 hq]; exact h
theorem jd1.up {m : Nat} {F : List Int} {q : Int} (h : jd1 W ac ns m F q) (h0 : 0 ≤ rd F q) : jd1 W ac ns (m + 1) F q := by
 rcases h with ⟨h1, h2⟩ | ⟨d, hd, h1, h2⟩
 ·omega
 ·exact .inr ⟨d, by omega, h1, h2⟩
/-- What is known within round m + 1, before row i. -/
def xl4 (W n : Nat) (ac : List Bool) (ns : List (List Int)) (m i : Nat) (F : List Int) : Prop := F.length = n ∧ (∀ q : Int, 0 ≤ q → q < (i : Int) → jd1 W ac ns (m + 1) F q) ∧ ∀ q : Int, (i : Int) ≤ q → q < (n : Int) → jd1 W ac ns m F q
theorem xl4.test {m i : Nat} {F : List Int} (h : xl4 W n ac ns m i F) {q : Int} (q0 : 0 ≤ q) (q1 : q < (n : Int)) : rd F q = (m : Int) ↔ Dist W ac ns q m := by
 by_cases e : q < (i : Int)
 ·exact (h.2.1 q q0 e).test (by omega)
 ·exact (h.2.2 q (by omega) q1).test (Nat.le_refl _)
theorem jy4 (hT : yp0 W n ns) (hn : ac.length = n) (hn2 : n ≤ 2000000) (hW : W ≤ 1000) : ∀ (e m : Nat) (F : List Int), m + e = n → xl4 W n ac ns m 0 F → ResP (yi3 W n ac ns) (fun k => ze0.l1 k F (((m + 1 : Nat) : Int)) t s ac ns) := by
 intro e
 induction e with
 | zero =>
  intro m F hm hF; refine ResP.succ ?_; simp only [ze0.l1]; (have : m = n := by omega); subst this; refine ResP.neg (by rw [hF.1]; omega) ⟨F, Ev.now _, xb4 hT hF.1 (fun q q0 q1 => hF.2.2 q q0 q1)⟩
 | succ e ih =>
  intro m F hm hF; refine ResP.succ ?_; simp only [ze0.l1]; refine ResP.pos (by rw [hF.1]; omega) ?_; rw [hT.1]
  have rows : ∀ (d i : Nat) (F : List Int), i + d = n → xl4 W n ac ns m i F → ResP (yi3 W n ac ns) (fun k => ze0.l2 k F (((m + 1 : Nat) : Int)) ns (n : Int) (i : Int) t s ac ns) := by
   intro d
   induction d with
   | zero =>
    intro i F hi hF; (have : i = n := by omega); subst this; refine ResP.succ ?_; simp only [ze0.l2]; refine ResP.neg (by omega) ?_; rw [w64 (by omega) (by omega), show ((m + 1 : Nat) : Int) + 1 = ((m + 1 + 1 : Nat) : Int) by omega]; exact ih (m + 1) F (by omega) ⟨hF.1, fun q q0 q1 => by omega, fun q q0 q1 => hF.2.1 q (by omega) q1⟩
   | succ d ihd =>
    intro i F hi hF; (have hin : i < n := by omega); have hfl := hF.1; refine ResP.succ ?_; simp only [ze0.l2]; refine ResP.pos (by omega) (ResP.pos (by omega) (ResP.pos (by rw [hT.1]; omega) (ResP.pos (by rw [hF.1]; omega) ?_))); (have hi1 : wrap64 ((i : Int) + 1) = ((i + 1 : Nat) : Int) := by rw [w64 (by omega) (by omega)]; omega); by_cases c : rd F (i : Int) ≥ 0
    ·refine ResP.pos c ?_; rw [hi1]; refine ihd (i + 1) F (by omega) ⟨hF.1, fun q q0 q1 => ?_, fun q q0 q1 => hF.2.2 q (by omega) q1⟩; by_cases e : q < (i : Int)
     ·exact hF.2.1 q q0 e
     ·(have : q = (i : Int) := by omega); subst this; exact (hF.2.2 _ (by omega) (by omega)).up c
    ·refine ResP.neg c ?_; have hfar := (hF.2.2 (i : Int) (by omega) (by omega)).neg.1 (by omega); have hrow := hT.row (q := (i : Int)) (by omega) (by omega); have hrl : (rd_L6 ns (i : Int)).length = W := (hT.2 _ hrow).1; rw [hrl]
     have cols : ∀ (e j : Nat), j + e = W → (∀ c : Nat, c < j → ¬ rd F (stp ns (i : Int) (c : Int)) = (m : Int)) → ResP (yi3 W n ac ns) (fun k => ze0.l3 k F (((m + 1 : Nat) : Int)) (i : Int) ns (n : Int) (i : Int) (rd_L6 ns (i : Int)) (W : Int) (j : Int) t s ac ns) := by
      intro e
      induction e with
      | zero =>
       intro j hj hno; refine ResP.succ ?_; simp only [ze0.l3]; refine ResP.neg (by omega) ?_; rw [hi1]; refine ihd (i + 1) F (by omega) ⟨hF.1, fun q q0 q1 => ?_, fun q q0 q1 => hF.2.2 q (by omega) q1⟩; by_cases e : q < (i : Int)
       ·exact hF.2.1 q q0 e
       ·(have : q = (i : Int) := by omega); subst this; refine .inl ⟨?_, fun u tu => ?_⟩
        ·rcases hF.2.2 (i : Int) (by omega) (by omega) with ⟨h1, _⟩ | ⟨d, _, h1, _⟩
         ·exact h1
         ·omega
        ·have h1 := hfar u tu; by_cases e : u.length = m + 1
         ·exfalso; obtain ⟨c, hc, hd⟩ := (ko1 hfar).1 ⟨⟨u, e, tu⟩, fun v tv => hfar v tv⟩; have hs := hT.stpd (q := (i : Int)) (c := (c : Int)) (by omega) (by omega) (by omega) (by omega); exact hno c (by omega) ((hF.test hs.1 hs.2).2 hd)
         ·omega
      | succ e ihe =>
       intro j hj hno; refine ResP.succ ?_; simp only [ze0.l3]; have hs := hT.stpd (q := (i : Int)) (c := (j : Int)) (by omega) (by omega) (by omega) (by omega); have hse : rd (rd_L6 ns (i : Int)) (j : Int) = stp ns (i : Int) (j : Int) := rfl; rw [hse]; refine ResP.pos (by omega) (ResP.pos (by omega) (ResP.pos (by rw [hrl]; omega) (ResP.pos hs.1 (ResP.pos (by rw [hF.1]; omega) ?_)))); (have hm1 : wrap64 (((m + 1 : Nat) : Int) - 1) = (m : Int) := by rw [w64 (by omega) (by omega)]; omega); rw [hm1]; by_cases ce : rd F (stp ns (i : Int) (j : Int)) = (m : Int)
       ·refine ResP.pos ce (ResP.pos (by omega) (ResP.pos (by rw [hF.1]; omega) ?_)); rw [hi1, Int.toNat_natCast]; have hD : Dist W ac ns (i : Int) (m + 1) := (ko1 hfar).2 ⟨j, by omega, (hF.test hs.1 hs.2).1 ce⟩; refine ihd (i + 1) _ (by omega) ⟨by rw [List.length_set]; exact hF.1, fun q q0 q1 => ?_, fun q q0 q1 => (hF.2.2 q (by omega) q1).set (by omega) (by omega)⟩; by_cases e : q < (i : Int)
        ·exact (hF.2.1 q q0 e).set q0 (by omega)
        ·(have : q = (i : Int) := by omega); subst this; exact .inr ⟨m + 1, Nat.le_refl _, jh2 (by rw [hF.1]; exact hin), hD⟩
       ·refine ResP.neg ce ?_; rw [w64 (by omega) (by omega), show (j : Int) + 1 = ((j + 1 : Nat) : Int) by omega]; refine ihe (j + 1) (by omega) (fun c hc => ?_); by_cases e : c < j
        ·exact hno c e
        ·(have : c = j := by omega); subst this; exact ce
     exact cols W 0 (by omega) (fun c hc => by omega)
  exact rows n 0 F (by omega) hF
theorem jz4 (hT : yp0 W n ns) (hn : ac.length = n) (hn2 : n ≤ 2000000) (hW : W ≤ 1000) : ∀ (d i : Nat) (F : List Int), i + d = n → F.length = n → (∀ q : Nat, q < i → rd F (q : Int) = if rdOf false ac (q : Int) = true then 0 else -1) → (∀ q : Nat, i ≤ q → q < n → rd F (q : Int) = 0) → ResP (yi3 W n ac ns) (fun k => ze0.l0 k F ac (n : Int) (i : Int) t s ac ns) := by
 intro d
 induction d with
 | zero =>
  intro i F hi hl h1 h2; refine ResP.succ ?_; simp only [ze0.l0]; refine ResP.neg (by omega) ?_; have := jy4 (t := t) (s := s) hT hn hn2 hW n 0 F (by omega) ⟨hl, fun q q0 q1 => by omega, fun q q0 q1 => ?_⟩
  ·exact this
  ·have hq := h1 q.toNat (by omega); rw [show ((q.toNat : Nat) : Int) = q by omega] at hq; by_cases c : rdOf false ac q = true
   ·rw [if_pos c] at hq; exact .inr ⟨0, Nat.le_refl _, by rw [hq]; rfl, ⟨⟨[], rfl, rfl, c⟩, fun u _ => Nat.zero_le _⟩⟩
   ·rw [if_neg c] at hq; refine .inl ⟨hq, fun u tu => ?_⟩
    cases u with
    | nil => exact absurd tu.2 c
    | cons b u => simp
 | succ d ih =>
  intro i F hi hl h1 h2; refine ResP.succ ?_; simp only [ze0.l0]; (have hi1 : wrap64 ((i : Int) + 1) = ((i + 1 : Nat) : Int) := by rw [w64 (by omega) (by omega)]; omega); refine ResP.pos (by omega) (ResP.pos (by omega) (ResP.pos (by omega) ?_)); rw [hi1]; by_cases c : rdOf false ac (i : Int) = true
  ·refine ResP.pos c (ih (i + 1) F (by omega) hl (fun q hq => ?_) (fun q q0 q1 => h2 q (by omega) q1)); by_cases e : q < i
   ·exact h1 q e
   ·(have : q = i := by omega); subst this; rw [if_pos c]; exact h2 q (Nat.le_refl _) (by omega)
  ·refine ResP.neg c (ResP.pos (by omega) ?_); rw [Int.toNat_natCast]; refine ih (i + 1) _ (by omega) (by rw [List.length_set]; exact hl) (fun q hq => ?_) (fun q q0 q1 => ?_)
   ·by_cases e : q < i
    ·rw [zc2 (by omega) (by omega)]; exact h1 q e
    ·(have : q = i := by omega); subst this; rw [if_neg c]; exact jh2 (by omega)
   ·rw [zc2 (by omega) (by omega)]; exact h2 q (by omega) q1
theorem ka4 (hT : yp0 W n ns) (hn : ac.length = n) (hn2 : n ≤ 2000000) (hW : W ≤ 1000) : ResP (yi3 W n ac ns) (fun k => ze0.f k t s ac ns) := by
 unfold ze0.f; rw [hn]; refine ResP.pos (by omega) (ResP.pos (by omega) ?_); rw [Int.toNat_natCast]; refine jz4 hT hn hn2 hW n 0 _ (by omega) (by simp) (fun q hq => by omega) (fun q _ hq => ?_); simp [rd, List.getD_eq_getElem?_getD, hq]
/-- The walk to the nearest state that takes, always by the first column that comes nearer. -/
theorem qv3 (hT : yp0 W n ns) (hn2 : n ≤ 2000000) (hW : W ≤ 1000) {F : List Int} (hF : yi3 W n ac ns F) : ∀ (d : Nat) (q : Int) (cs : List Int), 0 ≤ q → q < (n : Int) → rd F q = (d : Int) → cs.length + d ≤ 2000000 → ∃ u, yd2 (Tk W ac ns q) u ∧ u.length = d ∧ ∀ r, Ev (fun k => (zo0.f k t (cs ++ u)).bind fun b => some (b.1, (0 : Int))) r → Ev (fun k => zk0.l0 k F cs q t s ac ns) r := by
 intro d
 induction d with
 | zero =>
  intro q cs q0 q1 hr hc
  have hD : Dist W ac ns q 0 := by
   rcases hF.2 q q0 q1 with ⟨h1, _⟩ | ⟨d, hd, h1, h2⟩
   ·omega
   ·(have : d = 0 := by omega); exact this ▸ h2
  refine ⟨[], ki3 hD, rfl, fun r h => Ev.succ ?_⟩; simp only [zk0.l0]; refine Ev.pos q0 (Ev.pos (by rw [hF.1]; exact q1) (Ev.neg (by omega) ?_)); rw [List.append_nil] at h; exact h
 | succ d ih =>
  intro q cs q0 q1 hr hc
  have hD : Dist W ac ns q (d + 1) := by
   rcases hF.2 q q0 q1 with ⟨h1, _⟩ | ⟨e, hd, h1, h2⟩
   ·omega
   ·(have : e = d + 1 := by omega); exact this ▸ h2
  have test : ∀ c : Nat, c < W → (rd F (stp ns q (c : Int)) = (d : Int) ↔ Dist W ac ns (stp ns q (c : Int)) d) := by
   intro c hc; have hs := hT.stpd q0 q1 (c := (c : Int)) (by omega) (by omega)
   rcases hF.2 _ hs.1 hs.2 with ⟨h1, h2⟩ | ⟨e, hd, h1, h2⟩
   ·constructor
    ·intro h; omega
    ·rintro ⟨⟨u, _, tu⟩, _⟩; exact absurd tu (h2 u)
   ·constructor
    ·intro h; (have : e = d := by omega); exact this ▸ h2
    ·intro h; rw [h1, h2.same h]
  obtain ⟨c0, hc0, hd0⟩ := (ko1 (fun u tu => by have := hD.2 u tu; omega)).1 hD; obtain ⟨c, ⟨hcW, hcd⟩, hmin⟩ := jv2 (A := fun c => c < W ∧ Dist W ac ns (stp ns q (c : Int)) d) ⟨hc0, hd0⟩; have hs := hT.stpd q0 q1 (c := (c : Int)) (by omega) (by omega); obtain ⟨u, hu, hul, hev⟩ := ih (stp ns q (c : Int)) (cs ++ [(c : Int)]) hs.1 hs.2 ((test c hcW).2 hcd) (by simp; omega); refine ⟨(c : Int) :: u, qn3 hD hcW hcd (fun e he hde => by have := hmin e ⟨by omega, hde⟩; omega) hu, by simp [hul], fun r h => Ev.succ ?_⟩; simp only [zk0.l0]; refine Ev.pos q0 (Ev.pos (by rw [hF.1]; exact q1) (Ev.pos (by omega) ?_)); have hrow := hT.row q0 q1; have hrl : (rd_L6 ns q).length = W := (hT.2 _ hrow).1
  have go : ∀ (e j : Nat), j + e = c → Ev (fun k => zk0.l1 k F cs q (j : Int) t s ac ns) r := by
   intro e
   induction e with
   | zero =>
    intro j hj; (have : j = c := by omega); subst this; refine Ev.succ ?_; simp only [zk0.l1]; have hse : rd (rd_L6 ns q) (j : Int) = stp ns q (j : Int) := rfl; rw [hse]; refine Ev.pos q0 (Ev.pos (by rw [hT.1]; exact q1) (Ev.pos (by omega) (Ev.pos (by rw [hrl]; omega) (Ev.pos hs.1 (Ev.pos (by rw [hF.1]; exact hs.2) (Ev.pos (by rw [hF.1]; exact q1) ?_)))))); refine Ev.pos (by rw [hr, (test j hcW).2 hcd, w64 (by omega) (by omega)]; omega) (Ev.pos (by omega) ?_); refine hev r ?_; rw [List.append_assoc]; exact h
   | succ e ihe =>
    intro j hj; refine Ev.succ ?_; simp only [zk0.l1]; have hse : rd (rd_L6 ns q) (j : Int) = stp ns q (j : Int) := rfl; rw [hse]; have hsj := hT.stpd q0 q1 (c := (j : Int)) (by omega) (by omega); refine Ev.pos q0 (Ev.pos (by rw [hT.1]; exact q1) (Ev.pos (by omega) (Ev.pos (by rw [hrl]; omega) (Ev.pos hsj.1 (Ev.pos (by rw [hF.1]; exact hsj.2) (Ev.pos (by rw [hF.1]; exact q1) ?_)))))); refine Ev.neg (fun hh => ?_) ?_
    ·rw [hr, w64 (by omega) (by omega)] at hh; have := hmin j ⟨by omega, (test j (by omega)).1 (by omega)⟩; omega
    ·rw [w64 (by omega) (by omega), show (j : Int) + 1 = ((j + 1 : Nat) : Int) by omega]; exact ihe (j + 1) (by omega)
  exact go c 0 (by omega)
end
def digN (c t : Nat) : Nat := c / 3 ^ t % 3
theorem kz3 : ∀ c : Fin 26, ∀ t : Fin 3, xa0.f 10 (c.val : Int) (t.val : Int) = some ((digN c.val t.val : Nat) : Int) := by decide +kernel
theorem ja3 : ∀ c : Fin 26, ∀ n : Fin 4, yb0.f 10 (n.val : Int) (c.val : Int) = some ((List.range n.val).map fun t => ((digN c.val t : Nat) : Int)) := by decide +kernel
theorem xe4 (c t : Nat) (hc : c < 26) (ht : t < 3) : Ev (fun k => xa0.f k (c : Int) (t : Int)) ((digN c t : Nat) : Int) :=
 Ev.of (fun k => xa0.mono _ _ k) (kz3 ⟨c, hc⟩ ⟨t, ht⟩)
theorem ky3 (c n : Nat) (hc : c < 26) (hn : n < 4) : Ev (fun k => yb0.f k (n : Int) (c : Int)) ((List.range n).map fun t => ((digN c t : Nat) : Int)) :=
 Ev.of (fun k => yb0.mono _ _ k) (ja3 ⟨c, hc⟩ ⟨n, hn⟩)
theorem qk2 (c t : Nat) : digN c t < 3 := Nat.mod_lt _ (by omega)
def letter (d : Nat) : ByteArray := (⟨#[97, 98]⟩ : ByteArray).extract d (d + 1)
theorem kl0 (d : Nat) (h : d < 2) : (letter d).size = 1 := by
 have : d = 0 ∨ d = 1 := by omega
 rcases this with rfl | rfl <;> rfl
def putE (i : Nat) (ws : List ByteArray) (t d : Nat) : Except (List ByteArray) (List ByteArray) :=
 if d = 2 then .ok ws else if (ws.getD t ByteArray.empty).size < i then .error ws else .ok (ws.set t (ws.getD t ByteArray.empty ++ letter d))
def xs0 (i c : Nat) : Nat → Nat → List ByteArray → Except (List ByteArray) (List ByteArray)
 | 0, _, ws => .ok ws
 | m + 1, t, ws => match putE i ws t (digN c t) with
  | .ok w => xs0 i c m (t + 1) w
  | .error w => .error w
def jj0 (n : Nat) : List Nat → Nat → List ByteArray → Except (List ByteArray) (List ByteArray)
 | [], _, ws => .ok ws
 | c :: cs, i, ws => match xs0 i c n 0 ws with
  | .ok w => jj0 n cs (i + 1) w
  | .error w => .error w
/-- all words at most this long -/
def zg4 (b : Nat) (ws : List ByteArray) : Prop := ∀ w ∈ ws, w.size ≤ b
theorem zg4.set {b : Nat} {ws : List ByteArray} (h : zg4 b ws) {t : Nat} {x : ByteArray} (hx : x.size ≤ b) : zg4 b (ws.set t x) := by
 intro w hw
 rcases List.mem_or_eq_of_mem_set hw with h1 | h1
 ·exact h w h1
 ·rw [h1]; exact hx
theorem zg4.getD {b : Nat} {ws : List ByteArray} (h : zg4 b ws) (t : Nat) : (ws.getD t ByteArray.empty).size ≤ b := by
 rw [List.getD_eq_getElem?_getD]; by_cases ht : t < ws.length
 ·rw [List.getElem?_eq_getElem ht]; exact h _ (List.getElem_mem ht)
 ·rw [List.getElem?_eq_none (by omega)]; exact Nat.zero_le _
/-- column i's tape t: words of earlier tapes may be one longer -/
def ki0 (i t : Nat) (ws : List ByteArray) : Prop := ∀ j w, ws[j]? = some w → w.size ≤ if j < t then i + 1 else i
theorem ki0.getD {i t : Nat} {ws : List ByteArray} (h : ki0 i t ws) : (ws.getD t ByteArray.empty).size ≤ i := by
 rw [List.getD_eq_getElem?_getD]
 cases e : ws[t]? with
 | none => exact Nat.zero_le _
 | some w => have := h t w e; rw [if_neg (by omega)] at this; exact this
theorem ki0.next {i t : Nat} {ws : List ByteArray} (h : ki0 i t ws) : ki0 i (t + 1) ws := by
 intro j w hj; have := h j w hj
 split at this <;> split <;> omega
theorem ki0.put {i t : Nat} {ws : List ByteArray} (h : ki0 i t ws) {x : ByteArray} (hx : x.size ≤ i + 1) : ki0 i (t + 1) (ws.set t x) := by
 intro j w hj; rw [List.getElem?_set] at hj; by_cases e : t = j
 ·subst e; rw [if_pos rfl] at hj
  split at hj
  ·injection hj with hj; subst hj; rw [if_pos (by omega)]; exact hx
  ·cases hj
 ·rw [if_neg e] at hj; have := h j w hj
  split at this <;> split <;> omega
theorem ki0.start {i n : Nat} {ws : List ByteArray} (h : ki0 i n ws) (hl : ws.length = n) : ki0 (i + 1) 0 ws := by
 intro j w hj; have hjl := (List.getElem?_eq_some_iff.1 hj).1; have := h j w hj; rw [if_pos (by omega)] at this; rw [if_neg (by omega)]; exact this
theorem ym3 (d : Nat) (hd : d < 2) : (letter d) = (⟨#[97, 98]⟩ : ByteArray).extract ((d : Int)).toNat (wrap64 ((d : Int) + 1)).toNat := by
 rw [w64 (by omega) (by omega)]; unfold letter
 congr 1
theorem xr3 (n : Nat) (hn : n ≤ 3) (l : List Nat) (hl : ∀ c ∈ l, c < 26) (hlen : l.length ≤ 40) (i : Nat) (c : Nat) (hc : l[i]? = some c) (R : List ByteArray × Bool) (m : Nat) :
  ∀ (t : Nat) (ws : List ByteArray), t + m = n → ws.length = n → ki0 i t ws →
   (∀ w, xs0 i c m t ws = .ok w → Ev (fun k => zw0.l0 k (n : Int) (l.map Int.ofNat) w ((i : Int) + 1)) R) → (∀ w, xs0 i c m t ws = .error w → R = (w, false)) →
   Ev (fun k => zw0.l1 k (n : Int) (l.map Int.ofNat) ws (i : Int) (t : Int)) R := by
 have hi : i < l.length := (List.getElem?_eq_some_iff.1 hc).1; have hcl : c < 26 := hl c (List.mem_of_getElem? hc)
 have hrd : rd (l.map Int.ofNat) (i : Int) = (c : Int) := by
  simp [rd, List.getD_eq_getElem?_getD, hc]
 induction m with
 | zero =>
  intro t ws ht hw hs h1 h2; apply Ev.succ; simp only [zw0.l1]; refine Ev.neg (by omega) ?_; rw [w64 (by omega) (by omega)]; exact h1 ws rfl
 | succ m ih =>
  intro t ws ht hw hs h1 h2; apply Ev.succ; simp only [zw0.l1, hrd, List.length_map]; refine Ev.pos (by omega) ?_; refine Ev.pos (by omega) ?_; refine Ev.pos (by omega) ?_; refine Ev.bind (xe4 c t hcl (by omega)) ?_; have hd := qk2 c t; by_cases e2 : digN c t = 2
  ·refine Ev.pos (by omega) ?_; rw [w64 (by omega) (by omega)]; (have e : ∀ w, xs0 i c m (t + 1) ws = w → xs0 i c (m + 1) t ws = w := fun w h => by simp [xs0, putE, e2, h]); exact ih (t + 1) ws (by omega) hw hs.next (fun w h => h1 w (e _ h)) (fun w h => h2 w (e _ h))
  ·refine Ev.neg (by omega) ?_; refine Ev.pos (by omega) ?_; refine Ev.pos (by omega) ?_; (have hg : rdOf ByteArray.empty ws (t : Int) = ws.getD t ByteArray.empty := by simp [rdOf]); rw [hg]; by_cases e3 : (ws.getD t ByteArray.empty).size < i
   ·refine Ev.pos (by omega) ?_; (have e : xs0 i c (m + 1) t ws = .error ws := by simp only [xs0, putE, if_neg e2, if_pos e3]); exact Ev.const (by rw [h2 ws e])
   ·have hz := hs.getD; have hle := ym3 (digN c t) (by omega); refine Ev.neg (by omega) ?_; refine Ev.pos (by omega) ?_; refine Ev.pos (by rw [w64 (by omega) (by omega)]; omega) ?_; refine Ev.pos (by rw [w64 (by omega) (by omega)]; omega) ?_; rw [← hle]; refine Ev.pos (by rw [kl0 _ (by omega)]; omega) ?_; rw [w64 (by omega) (by omega), Int.toNat_natCast]; (have e : ∀ w, xs0 i c m (t + 1) (ws.set t (ws.getD t ByteArray.empty ++ letter (digN c t))) = w → xs0 i c (m + 1) t ws = w := fun w h => by simp only [xs0, putE, if_neg e2, if_neg e3, h]); exact ih (t + 1) _ (by omega) (by simpa using hw) (hs.put (by rw [ByteArray.size_append, kl0 _ (by omega)]; omega)) (fun w h => h1 w (e _ h)) (fun w h => h2 w (e _ h))
theorem qk1 (i c n : Nat) (m : Nat) : ∀ (t : Nat) (ws w : List ByteArray), t + m = n → ws.length = n → ki0 i t ws → xs0 i c m t ws = .ok w → w.length = n ∧ ki0 i n w := by
 induction m with
 | zero =>
  intro t ws w ht hw hs h; simp only [xs0] at h; injection h with h; subst h; (obtain rfl : t = n := by omega); exact ⟨hw, hs⟩
 | succ m ih =>
  intro t ws w ht hw hs h; have hd := qk2 c t; simp only [xs0, putE] at h; by_cases e2 : digN c t = 2
  ·rw [if_pos e2] at h; exact ih (t + 1) ws w (by omega) hw hs.next h
  ·rw [if_neg e2] at h; by_cases e3 : (ws.getD t ByteArray.empty).size < i
   ·rw [if_pos e3] at h; cases h
   ·rw [if_neg e3] at h; have hz := hs.getD; exact ih (t + 1) _ w (by omega) (by simpa using hw) (hs.put (by rw [ByteArray.size_append, kl0 _ (by omega)]; omega)) h
def resS : Except (List ByteArray) (List ByteArray) → List ByteArray × Bool
 | .ok w => (w, true)
 | .error w => (w, false)
def resI : Except (List ByteArray) (List ByteArray) → List ByteArray × Bool
 | .ok w => (w, true)
 | .error _ => ([], false)
theorem xp3 (n : Nat) (hn : n ≤ 3) (l : List Nat) (hl : ∀ c ∈ l, c < 26) (hlen : l.length ≤ 40) (d : Nat) :
  ∀ (i : Nat) (ws : List ByteArray), i + d = l.length → ws.length = n → ki0 i 0 ws → Ev (fun k => zw0.l0 k (n : Int) (l.map Int.ofNat) ws (i : Int)) (resS (jj0 n (l.drop i) i ws)) := by
 induction d with
 | zero =>
  intro i ws hi hw hs; apply Ev.succ; simp only [zw0.l0, List.length_map]; refine Ev.neg (by omega) ?_; rw [List.drop_of_length_le (by omega)]; exact Ev.const rfl
 | succ d ih =>
  intro i ws hi hw hs; (have hlt : i < l.length := by omega); apply Ev.succ; simp only [zw0.l0, List.length_map]; refine Ev.pos (by omega) ?_; rw [List.drop_eq_getElem_cons hlt]; refine xr3 n hn l hl hlen i l[i] (List.getElem?_eq_getElem hlt) _ n 0 ws (by omega) hw hs (fun w h => ?_) (fun w h => ?_)
  ·simp only [jj0, h]; obtain ⟨h1, h2⟩ := qk1 i l[i] n n 0 ws w (by omega) hw hs h; exact ih (i + 1) w (by omega) h1 (h2.start h1)
  ·simp only [jj0, h, resS]
theorem qs3 (n : Nat) (hn : n ≤ 3) (l : List Nat) (hlen : l.length ≤ 40) (i c : Nat) (hi : i < l.length) (hc : c < 26) (R : List ByteArray × Bool) (m : Nat) :
  ∀ (t : Nat) (ws : List ByteArray), t + m = n → ws.length = n → ki0 i t ws →
   (∀ w, xs0 i c m t ws = .ok w → Ev (fun k => zo0.l0 k (n : Int) w (l.map Int.ofNat) (l.length : Int) ((i : Int) + 1)) R) → (∀ w, xs0 i c m t ws = .error w → R = ([], false)) →
   Ev (fun k => zo0.l1 k (n : Int) ws (i : Int) (l.map Int.ofNat) (l.length : Int) (i : Int) ((List.range n).map fun t => ((digN c t : Nat) : Int)) (n : Int) (t : Int)) R := by
 induction m with
 | zero =>
  intro t ws ht hw hs h1 h2; apply Ev.succ; simp only [zo0.l1]; refine Ev.neg (by omega) ?_; rw [w64 (by omega) (by omega)]; exact h1 ws rfl
 | succ m ih =>
  intro t ws ht hw hs h1 h2
  have hrd : rd ((List.range n).map fun t => ((digN c t : Nat) : Int)) (t : Int) = ((digN c t : Nat) : Int) := by
   simp [rd, List.getD_eq_getElem?_getD, show t < n by omega]
  apply Ev.succ; simp only [zo0.l1, hrd, List.length_map, List.length_range]; refine Ev.pos (by omega) ?_; refine Ev.pos (by omega) ?_; refine Ev.pos (by omega) ?_; have hd := qk2 c t; by_cases e2 : digN c t = 2
  ·refine Ev.pos (by omega) ?_; rw [w64 (by omega) (by omega)]; (have e : ∀ w, xs0 i c m (t + 1) ws = w → xs0 i c (m + 1) t ws = w := fun w h => by simp [xs0, putE, e2, h]); exact ih (t + 1) ws (by omega) hw hs.next (fun w h => h1 w (e _ h)) (fun w h => h2 w (e _ h))
  ·refine Ev.neg (by omega) ?_; refine Ev.pos (by omega) ?_; (have hg : rdOf ByteArray.empty ws (t : Int) = ws.getD t ByteArray.empty := by simp [rdOf]); rw [hg]; by_cases e3 : (ws.getD t ByteArray.empty).size < i
   ·refine Ev.pos (by omega) ?_; (have e : xs0 i c (m + 1) t ws = .error ws := by simp only [xs0, putE, if_neg e2, if_pos e3]); exact Ev.const (by rw [h2 ws e])
   ·have hz := hs.getD; have hle := ym3 (digN c t) (by omega); refine Ev.neg (by omega) ?_; refine Ev.pos (by omega) ?_; refine Ev.pos (by rw [w64 (by omega) (by omega)]; omega) ?_; refine Ev.pos (by rw [w64 (by omega) (by omega)]; omega) ?_; rw [← hle]; refine Ev.pos (by rw [kl0 _ (by omega)]; omega) ?_; rw [w64 (by omega) (by omega), Int.toNat_natCast]; (have e : ∀ w, xs0 i c m (t + 1) (ws.set t (ws.getD t ByteArray.empty ++ letter (digN c t))) = w → xs0 i c (m + 1) t ws = w := fun w h => by simp only [xs0, putE, if_neg e2, if_neg e3, h]); exact ih (t + 1) _ (by omega) (by simpa using hw) (hs.put (by rw [ByteArray.size_append, kl0 _ (by omega)]; omega)) (fun w h => h1 w (e _ h)) (fun w h => h2 w (e _ h))
theorem qr3 (n : Nat) (hn : n ≤ 3) (l : List Nat) (hl : ∀ c ∈ l, c < 26) (hlen : l.length ≤ 40) (d : Nat) :
  ∀ (i : Nat) (ws : List ByteArray), i + d = l.length → ws.length = n → ki0 i 0 ws → Ev (fun k => zo0.l0 k (n : Int) ws (l.map Int.ofNat) (l.length : Int) (i : Int)) (resI (jj0 n (l.drop i) i ws)) := by
 induction d with
 | zero =>
  intro i ws hi hw hs; apply Ev.succ; simp only [zo0.l0, List.length_map]; refine Ev.neg (by omega) ?_; rw [List.drop_of_length_le (by omega)]; exact Ev.const rfl
 | succ d ih =>
  intro i ws hi hw hs; (have hlt : i < l.length := by omega)
  have hrd : rd (l.map Int.ofNat) (i : Int) = (l[i] : Int) := by
   simp [rd, List.getD_eq_getElem?_getD, hlt]
  apply Ev.succ; simp only [zo0.l0, List.length_map, hrd]; refine Ev.pos (by omega) ?_; refine Ev.pos (by omega) ?_; refine Ev.pos (by omega) ?_; rw [List.drop_eq_getElem_cons hlt]; refine Ev.bind (ky3 l[i] n (hl _ (List.getElem_mem hlt)) (by omega)) ?_; simp only [List.length_map, List.length_range]; refine qs3 n hn l hlen i l[i] hlt (hl _ (List.getElem_mem hlt)) _ n 0 ws (by omega) hw hs (fun w h => ?_) (fun w h => ?_)
  ·simp only [jj0, h]; obtain ⟨h1, h2⟩ := qk1 i l[i] n n 0 ws w (by omega) hw hs h; exact ih (i + 1) w (by omega) h1 (h2.start h1)
  ·simp only [jj0, h, resI]
theorem yv2 (n : Nat) : ki0 0 0 (List.replicate n (⟨#[]⟩ : ByteArray)) := by
 intro j w hj; rw [List.getElem?_replicate] at hj
 split at hj
 ·injection hj with hj; subst hj; exact Nat.zero_le _
 ·cases hj
theorem xs2 (n : Nat) (hn : n ≤ 3) (l : List Nat) (hl : ∀ c ∈ l, c < 26) (hlen : l.length ≤ 40) : Ev (fun k => zw0.f k (n : Int) (l.map Int.ofNat)) (resS (jj0 n l 0 (List.replicate n ⟨#[]⟩))) := by
 unfold zw0.f; refine Ev.pos (by omega) ?_; refine Ev.pos (by omega) ?_; rw [Int.toNat_natCast]; have := xp3 n hn l hl hlen l.length 0 (List.replicate n ⟨#[]⟩) (by omega) (by simp) (yv2 n)
 simpa using this
theorem qg2 (n : Nat) (hn : n ≤ 3) (l : List Nat) (hl : ∀ c ∈ l, c < 26) (hlen : l.length ≤ 40) : Ev (fun k => zo0.f k (n : Int) (l.map Int.ofNat)) (resI (jj0 n l 0 (List.replicate n ⟨#[]⟩))) := by
 unfold zo0.f; refine Ev.pos (by omega) ?_; refine Ev.pos (by omega) ?_; rw [Int.toNat_natCast, List.length_map]; have := qr3 n hn l hl hlen l.length 0 (List.replicate n ⟨#[]⟩) (by omega) (by simp) (yv2 n)
 simpa using this
theorem ze3 (i : Nat) (ws : List ByteArray) (t d : Nat) (w : List ByteArray) (h : putE i ws t d = .ok w) : w.length = ws.length := by
 unfold putE at h
 split at h
 ·injection h with h; rw [h]
 ·split at h
  ·cases h
  ·injection h with h; rw [← h]; simp
theorem yl2 (i c m : Nat) : ∀ (t : Nat) (ws w : List ByteArray), xs0 i c m t ws = .ok w → w.length = ws.length := by
 induction m with
 | zero => intro t ws w h; simp only [xs0] at h; injection h with h; rw [h]
 | succ m ih =>
  intro t ws w h; simp only [xs0] at h
  cases e : putE i ws t (digN c t) with
  | error x => rw [e] at h; cases h
  | ok x => rw [e] at h; rw [ih _ _ _ h, ze3 _ _ _ _ _ e]
theorem ql1 (n : Nat) : ∀ (cs : List Nat) (i : Nat) (ws w : List ByteArray), jj0 n cs i ws = .ok w → w.length = ws.length
 | [], _, ws, w, h => by simp only [jj0] at h; injection h with h; rw [h]
 | c :: cs, i, ws, w, h => by
  simp only [jj0] at h
  cases e : xs0 i c n 0 ws with
  | error x => rw [e] at h; cases h
  | ok x => rw [e] at h; rw [ql1 n cs _ _ _ h, yl2 _ _ _ _ _ _ e]
def kc4 (n p c t : Nat) : Bool := !(decide (bits .andNot .i64 (p : Int) (rd (kw0 n) (c : Int)) = 0)) || (decide (digN c t = 2) || decide (p / 2 ^ t % 2 = 0))
def jx3 (n c t : Nat) : Bool := !(decide ((rd (kw0 n) (c : Int)).toNat / 2 ^ t % 2 = 0)) || !(decide (digN c t = 2))
theorem qt4 : ∀ n : Fin 4, ((List.range 8).all fun p => (List.range (wd n.val)).all fun c => (List.range n.val).all fun t => kc4 n.val p c t && jx3 n.val c t) = true := by decide +kernel
theorem xr4 {n p c t : Nat} (hn : n ≤ 3) (hp : p < 8) (hc : c < wd n) (ht : t < n) : (bits .andNot .i64 (p : Int) (rd (kw0 n) (c : Int)) = 0 → digN c t ≠ 2 → p / 2 ^ t % 2 = 0) ∧ ((rd (kw0 n) (c : Int)).toNat / 2 ^ t % 2 = 0 → digN c t ≠ 2) := by
 have h := qt4 ⟨n, by omega⟩; simp only [List.all_eq_true, List.mem_range, Bool.and_eq_true] at h; have := h p hp c hc t ht; simp only [kc4, jx3, Bool.or_eq_true, Bool.not_eq_true', decide_eq_false_iff_not, decide_eq_true_eq] at this; obtain ⟨h1, h2⟩ := this; exact ⟨fun a b => by rcases h1 with h1 | h1 | h1; exact absurd a h1; exact absurd h1 b; exact h1, fun a => by rcases h2 with h2 | h2; exact absurd a h2; exact h2⟩
theorem xv3 {n i c : Nat} : ∀ (m t : Nat) (ws : List ByteArray), t + m = n → ws.length = n → (∀ j, t ≤ j → j < n → digN c j ≠ 2 → (ws.getD j ByteArray.empty).size = i) →
  ∃ w, xs0 i c m t ws = .ok w ∧ w.length = n ∧ (∀ j, j < t → w.getD j ByteArray.empty = ws.getD j ByteArray.empty) ∧ ∀ j, t ≤ j → j < n → (w.getD j ByteArray.empty).size = if digN c j = 2 then (ws.getD j ByteArray.empty).size else i + 1 := by
 intro m
 induction m with
 | zero => intro t ws ht hl _; exact ⟨ws, rfl, hl, fun _ _ => rfl, fun j h1 h2 => by omega⟩
 | succ m ih =>
  intro t ws ht hl h; simp only [xs0, putE]; by_cases e : digN c t = 2
  ·rw [if_pos e]; obtain ⟨w, h1, h2, h3, h4⟩ := ih (t + 1) ws (by omega) hl (fun j j1 j2 => h j (by omega) j2); refine ⟨w, h1, h2, fun j hj => h3 j (by omega), fun j j1 j2 => ?_⟩; by_cases ej : j = t
   ·subst ej; rw [if_pos e, h3 j (by omega)]
   ·exact h4 j (by omega) j2
  ·rw [if_neg e, if_neg (by rw [h t (Nat.le_refl _) (by omega) e]; omega)]
   have get : ∀ j, (ws.set t (ws.getD t ByteArray.empty ++ letter (digN c t))).getD j ByteArray.empty = if j = t then ws.getD t ByteArray.empty ++ letter (digN c t) else ws.getD j ByteArray.empty := by
    intro j; simp only [List.getD_eq_getElem?_getD, List.getElem?_set]; by_cases ej : t = j
    ·subst ej; simp [show t < ws.length by omega]
    ·simp [ej, show ¬ j = t from fun h => ej h.symm]
   obtain ⟨w, h1, h2, h3, h4⟩ := ih (t + 1) (ws.set t (ws.getD t ByteArray.empty ++ letter (digN c t))) (by omega) (by simp [hl]) (fun j j1 j2 hd => by rw [get, if_neg (by omega)]; exact h j (by omega) j2 hd); refine ⟨w, h1, h2, fun j hj => by rw [h3 j (by omega), get, if_neg (by omega)], fun j j1 j2 => ?_⟩; by_cases ej : j = t
   ·subst ej; rw [if_neg e, h3 j (by omega), get, if_pos rfl, ByteArray.size_append, h j (Nat.le_refl _) j2 e, kl0 _ (by have := qk2 c j; omega)]
   ·rw [h4 j (by omega) j2, get, if_neg ej]
theorem ju3 {n : Nat} (h3 : n ≤ 3) : ∀ (l : List Nat) (i : Nat) (p : Int) (ws : List ByteArray), okW (wd n) (kw0 n) p (l.map Int.ofNat) = true → 0 ≤ p → p < 8 → ws.length = n → (∀ j, j < n → p.toNat / 2 ^ j % 2 = 0 → (ws.getD j ByteArray.empty).size = i) → ∃ w, jj0 n l i ws = .ok w := by
 intro l
 induction l with
 | nil => intro i p ws _ _ _ _ _; exact ⟨ws, rfl⟩
 | cons c l ih =>
  intro i p ws h p0 p8 hl hs; simp only [List.map_cons, okW, Bool.and_eq_true, decide_eq_true_eq] at h; obtain ⟨c0, c1, _, hb, hok⟩ := h; (have hc : c < wd n := by have : (Int.ofNat c) = (c : Int) := rfl; omega); rw [show (Int.ofNat c) = (c : Int) from rfl] at hb hok; obtain ⟨q1, q2, q3⟩ := ki1 ⟨n, by omega⟩; have hpr := X.qi1 q3 (i := (c : Int)) (by omega) (by rw [q2]; omega)
  have h8 : (2 : Int) ^ n ≤ 8 := by
   have : n = 0 ∨ n = 1 ∨ n = 2 ∨ n = 3 := by omega
   rcases this with rfl | rfl | rfl | rfl <;> decide
  obtain ⟨w, h1, h2, _, h4⟩ := xv3 (n := n) (i := i) (c := c) n 0 ws (by omega) hl (fun j _ j2 hd => by
   (have hp : p.toNat < 8 := by omega); refine hs j j2 ((xr4 h3 hp hc j2).1 ?_ hd); rw [show ((p.toNat : Nat) : Int) = p by omega]
   exact hb)
  simp only [jj0, h1]; refine ih (i + 1) _ w hok hpr.1 (by simp only at hpr; omega) h2 (fun j j2 hj => ?_); rw [h4 j (Nat.zero_le _) j2, if_neg ((xr4 (p := 0) h3 (by omega) hc j2).2 hj)]
theorem yh4 {W : Nat} {p : List Int} (h : inW W p = true) : p = (p.map Int.toNat).map Int.ofNat ∧ ∀ c ∈ p.map Int.toNat, c < W := by
 simp only [inW, List.all_eq_true, Bool.and_eq_true, decide_eq_true_eq] at h; refine ⟨?_, fun c hc => ?_⟩
 ·rw [List.map_map]
  conv => lhs; rw [← List.map_id p]
  refine List.map_congr_left (fun x hx => ?_); have := h x hx; show x = Int.ofNat x.toNat; simp only [Int.ofNat_eq_natCast]; omega
 ·obtain ⟨x, hx, rfl⟩ := List.mem_map.1 hc; have := h x hx; omega
/-- What a tidy table takes is right. -/
theorem yu2 {n : Nat} {s : Int} {ac : List Bool} {ns : List (List Int)} {r : List Bool × List (List Int)} (h : zz2 n s ac ns r) {w : List Int} (hw : Tk (wd n) r.1 r.2 0 w) : okW (wd n) (kw0 n) 0 w = true := by
 obtain ⟨f, h⟩ := h; have h1 := jj3 h w; rw [xq4, hw.1, hw.2, qi4] at h1; simp only [Bool.and_true, Bool.true_and] at h1; have := h1.symm; simp only [Bool.and_eq_true] at this; exact this.1
theorem zi3 {f : Bool → Bool → Bool} {fa : Bool × Bool → Option Bool} (hfa : ∀ a b, fa (a, b) = some (f a b)) {t s : Int} {ac : List Bool} {ns : List (List Int)} {t' s' : Int} {ac' : List Bool} {ns' : List (List Int)} (h : SzOK ac ns) (h' : SzOK ac' ns') (c : twoR t s ac ns t' s' ac' ns' = 0) :
  ∃ (n : Nat) (r r' q : List Bool × List (List Int)), t = (n : Int) ∧ 1 ≤ n ∧ n ≤ 3 ∧ zz2 n s ac ns r ∧ zz2 n s' ac' ns' r' ∧ xd3 0 r.1 r.2 0 r'.1 r'.2 ∧
   Ev (fun k => xg0.f k t s ac ns) (t, 0, r.1, r.2) ∧ Ev (fun k => xg0.f k t' s' ac' ns') (t, 0, r'.1, r'.2) ∧
   Ev (fun k => xq1 k fa t s ac ns t' s' ac' ns') (t, 0, q.1, q.2) ∧
   yp0 (wd n) q.1.length q.2 ∧ 0 < q.1.length ∧ q.1.length ≤ 1900000 ∧ Met (wd n) q.1.length q.2 ∧
   yp0 (wd n) (jv0 f r.1 r'.1).length (jx0 (r'.1.length : Int) r.2 r'.2) ∧ 0 < (jv0 f r.1 r'.1).length ∧ (jv0 f r.1 r'.1).length ≤ 1900000 ∧
   (∀ w, inW (wd n) w = true → rdOf false (jv0 f r.1 r'.1) (runT (jx0 (r'.1.length : Int) r.2 r'.2) 0 w) = f (rdOf false r.1 (runT r.2 0 w)) (rdOf false r'.1 (runT r'.2 0 w))) ∧
   ∀ w, Tk (wd n) q.1 q.2 0 w ↔ Tk (wd n) (jv0 f r.1 r'.1) (jx0 (r'.1.length : Int) r.2 r'.2) 0 w := by
 obtain ⟨hv, hv', rfl⟩ := je3 c; obtain ⟨n, r, rfl, h1, h3, s0, s1, hT, hl, hr, d1, d2, d3, eI, eS⟩ := qw2 h hv; obtain ⟨n', r', hnn, h1', h3', s0', s1', hT', hl', hr', d1', d2', d3', eI', eS'⟩ := qw2 h' hv'; (obtain rfl : n = n' := by omega); have hW := xk3 n h3; have hz := qv2 h3 (by omega) s0 s1 hT hr; have hz' := qv2 h3 (by omega) s0' s1' hT' hr'; have hTabs : xd3 0 r.1 r.2 0 r'.1 r'.2 := ⟨wd n, by omega, d1, d1', by omega, by omega, by omega, by omega, by omega, by omega⟩; have hm : r.1.length * r'.1.length ≤ 1201 * 1201 := Nat.mul_le_mul (by omega) (by omega); obtain ⟨xT, xP⟩ := zf3 (f := f) d1 d1'; have xl := zs1 f r.1 r'.1; have xpos : 0 < r.1.length * r'.1.length := Nat.mul_pos d2 d2'
 have grown := fun (k : Nat) (hk : 1900002 ≤ k) => zg3 (f := f) (acc := accQ fa r.1 r'.1) (next := jn2 r.2 r'.2) d1 d1' (by omega) d2 d2' (by omega) (by omega)
  (fun i k i0 i1 k0 k1 => by unfold accQ; simp only; rw [qt0 i0 i1, Option.bind_some, qt0 k0 k1, Option.bind_some, hfa])
  (fun i k c i0 i1 k0 k1 c0 c1 => by
   unfold jn2; have l1 := (d1.2 _ (d1.row i0 i1)).1; have l2 := (d1'.2 _ (d1'.row k0 k1)).1; (have g1 : i < (r.2.length : Int) := by have := d1.1; omega); (have g2 : k < (r'.2.length : Int) := by have := d1'.1; omega); simp only; rw [qt0 i0 g1, Option.bind_some]; show ((at1 0 (r.2.getD i.toNat []) c).bind _) = _; rw [qt0 c0 (by omega), Option.bind_some, qt0 k0 g2, Option.bind_some]; show ((at1 0 (r'.2.getD k.toNat []) c).bind _) = _; rw [qt0 c0 (by omega), Option.bind_some]
   rfl) (n := k) (by omega)
 obtain ⟨q, hq, qT, q0, q1, qL⟩ := grown 1900002 (Nat.le_refl _)
 have hgr : Ev (fun k => xy0 qj0 (accQ fa r.1 r'.1) (jn2 r.2 r'.2) (wd n) k [(0, 0)] [] []) q := ⟨1900002, fun k hk => by
  obtain ⟨q2, hq2, -⟩ := grown k hk
  exact hq2.trans (congrArg some (xf2 hq2 hq))⟩
 have qM : Met (wd n) q.1.length q.2 := kc2 _ _ _ _ _ rfl (by simp) (fun x x1 x2 => by simp at x2; omega) hq; have hwid : Ev (fun k => zy0.f k (n : Int)) ((wd n : Nat) : Int) := ⟨10, fun k hk => atk (k := 10) (fun k => zy0.mono _ k) hk (ks1 ⟨n, by omega⟩)⟩
 have hacc : ∀ w, inW (wd n) w = true → rdOf false (jv0 f r.1 r'.1) (runT (jx0 (r'.1.length : Int) r.2 r'.2) 0 w) = f (rdOf false r.1 (runT r.2 0 w)) (rdOf false r'.1 (runT r'.2 0 w)) := fun w hw => by
  have e := ye4 d1 d1' xP hw (i := 0) (k := 0) (by omega) (by omega) (by omega) (by omega); rw [Int.zero_mul, Int.zero_add] at e; exact e
 refine ⟨n, r, r', q, rfl, h1, h3, hr, hr', hTabs, eS, eS', ?_, qT, q0, q1, qM, xT, by omega, by omega, hacc, fun w => ?_⟩
 ·unfold xq1; refine Ev.bind eI (Ev.bind eI' (Ev.bind hwid (Ev.pos ⟨⟨by omega, by omega⟩, by show qj0 (0, 0) = true; decide⟩ ?_))); simp only [Int.toNat_natCast]; exact Ev.bind hgr (Ev.now _)
 ·unfold Tk; constructor
  ·rintro ⟨a, b⟩; exact ⟨a, by rw [hacc w a, ← qL w a]; exact b⟩
  ·rintro ⟨a, b⟩; exact ⟨a, by rw [qL w a, ← hacc w a]; exact b⟩
/-- The first tuple of two tables that take the same right lists, and no others. -/
theorem ks3 {n : Nat} (h1 : 1 ≤ n) (h3 : n ≤ 3) {a : List Bool} {b : List (List Int)} (hT : yp0 (wd n) a.length b) (h0 : 0 < a.length) (hl : a.length ≤ 2000000) (hok : ∀ w, Tk (wd n) a b 0 w → okW (wd n) (kw0 n) 0 w = true)
  {a' : List Bool} {b' : List (List Int)} (hT' : yp0 (wd n) a'.length b') (h0' : 0 < a'.length) (hl' : a'.length ≤ 2000000) (hsame : ∀ w, Tk (wd n) a' b' 0 w ↔ Tk (wd n) a b 0 w) :
  ∃ R : List ByteArray × Int, R.1.length ≤ 3 ∧ Ev (fun k => qo0.f k (n : Int) 0 a b) (R.1, R.2, (n : Int), 0) ∧ Ev (fun k => zk0.f k (n : Int) 0 a' b') R := by
 have hW := xk3 n h3; obtain ⟨p, fb, hp, hc⟩ := yz4 (t := (n : Int)) hT rfl hl h0 (by omega); obtain ⟨F, hF, hFO⟩ := ka4 (t := (n : Int)) (s := 0) hT' rfl hl' (by omega); have hF0 := hFO.2 0 (by omega) (by omega)
 rcases hc with ⟨rfl, hL⟩ | ⟨rfl, rfl, hN⟩
 ·have hL' : yd2 (Tk (wd n) a' b' 0) p := ⟨(hsame p).2 hL.1, fun w hw => hL.2 w ((hsame w).1 hw)⟩; have hD := Dist.of_least hL'
  have hr : rd F 0 = (p.length : Int) := by
   rcases hF0 with ⟨_, h⟩ | ⟨d, hd, h, h2⟩
   ·exact absurd hL'.1 (h p)
   ·rw [h, h2.same hD]
  have hpl : p.length < a'.length := jn1 hT' (by omega) (by omega) hD; by_cases c : p.length ≤ 40
  ·obtain ⟨u, hu, hul, hw⟩ := qv3 (t := (n : Int)) (s := 0) hT' hl' (by omega) hFO p.length 0 [] (by omega) (by omega) hr (by simp; omega); obtain rfl := hu.same hL'; obtain ⟨e, he⟩ := yh4 hL.1.1; obtain ⟨ws, hws⟩ := ju3 h3 (u.map Int.toNat) 0 0 (List.replicate n ⟨#[]⟩) (by rw [← e]; exact hok u hL.1) (by omega) (by omega) (by simp) (fun j hj _ => by simp [List.getD_eq_getElem?_getD, hj]; rfl); have hs := xs2 n h3 (u.map Int.toNat) (fun x hx => by have := he x hx; omega) (by simpa using c); have hi := qg2 n h3 (u.map Int.toNat) (fun x hx => by have := he x hx; omega) (by simpa using c); rw [← e, hws] at hs hi; refine ⟨(ws, 0), by simp only; rw [ql1 _ _ _ _ _ hws]; simp; omega, ?_, ?_⟩
   ·unfold qo0.f; refine Ev.bind hp (Ev.pos rfl (Ev.neg (by simp only; omega) (Ev.bind hs (Ev.now _))))
   ·unfold zk0.f; refine Ev.bind hF (Ev.pos (by omega) (Ev.pos (by rw [hFO.1]; omega) (Ev.neg (by omega) (Ev.neg (by omega) ?_)))); exact hw _ (Ev.bind hi (Ev.now _))
  ·refine ⟨([], 3), by simp, ?_, ?_⟩
   ·unfold qo0.f; exact Ev.bind hp (Ev.pos rfl (Ev.pos (by simp only; omega) (Ev.now _)))
   ·unfold zk0.f; exact Ev.bind hF (Ev.pos (by omega) (Ev.pos (by rw [hFO.1]; omega) (Ev.neg (by omega) (Ev.pos (by omega) (Ev.now _)))))
 ·have hr : rd F 0 = -1 := by
   rcases hF0 with ⟨h, _⟩ | ⟨d, hd, h, ⟨u, _, tu⟩, _⟩
   ·exact h
   ·exact absurd ((hsame u).1 tu) (hN u)
  refine ⟨([], 6), by simp, ?_, ?_⟩
  ·unfold qo0.f; exact Ev.bind hp (Ev.neg (by simp) (Ev.now _))
  ·unfold zk0.f; exact Ev.bind hF (Ev.pos (by omega) (Ev.pos (by rw [hFO.1]; omega) (Ev.pos (by omega) (Ev.now _))))
open Classical in
theorem ko2 {t s : Int} {ac : List Bool} {ns : List (List Int)} {t' s' : Int} {ac' : List Bool} {ns' : List (List Int)} (h : SzOK ac ns) (h' : SzOK ac' ns') :
  ∃ R : List ByteArray × Int, R.1.length ≤ 3 ∧ Ev (fun k => xr0.f k t s ac ns t' s' ac' ns') R ∧ Ev (fun k => xm0.f k t s ac ns t' s' ac' ns') R := by
 have e1 := kx2 (t := t) (s := s) (t' := t') (s' := s') h h'; have e2 := zr3 (t := t) (s := s) (t' := t') (s' := s') h h'; by_cases c : twoR t s ac ns t' s' ac' ns' = 0
 ·obtain ⟨n, r, r', q, rfl, h1, h3, hr, hr', hTabs, eS, eS', eP, qT, q0, q1, qM, xT, x0, x1, hacc, hsame⟩ := zi3 (f := neB) (fa := fun x => some (x.1 != x.2)) (fun a b => rfl) h h' c
  obtain ⟨R, hR, fS, fI⟩ := ks3 h1 h3 xT x0 (by omega) (fun w hw => by
   have e := hacc w hw.1; rw [hw.2] at e; by_cases a : rdOf false r.1 (runT r.2 0 w) = true
   ·exact yu2 hr ⟨hw.1, a⟩
   ·by_cases b : rdOf false r'.1 (runT r'.2 0 w) = true
    ·exact yu2 hr' ⟨hw.1, b⟩
    ·rw [Bool.not_eq_true] at a b; rw [a, b] at e
     simp [neB] at e) qT q0 (by omega) hsame
  refine ⟨R, hR, ?_, ?_⟩
  ·unfold xr0.f; refine Ev.bind e1 (Ev.pos c (Ev.bind eS (Ev.bind eS' (Ev.pos hTabs ?_)))); simp only [Int.zero_mul, Int.zero_add]; exact Ev.bind fS (Ev.now _)
  ·unfold xm0.f; exact Ev.bind e2 (Ev.pos c (Ev.bind eP (Ev.bind fI (Ev.now _))))
 ·refine ⟨([], twoR t s ac ns t' s' ac' ns'), by simp, ?_, ?_⟩
  ·unfold xr0.f; exact Ev.bind e1 (Ev.neg c (Ev.now _))
  ·unfold xm0.f; exact Ev.bind e2 (Ev.neg c (Ev.now _))
theorem FnExactFirstUnlike (t s : Int) (ac : List Bool) (ns : List (List Int)) (t' s' : Int) (ac' : List Bool) (ns' : List (List Int)) (h2 : ac.length ≤ 9223372036854775807) (h3 : ns.length ≤ 9223372036854775807) (hr : ∀ x ∈ ns, x.length ≤ 9223372036854775807) (h2' : ac'.length ≤ 9223372036854775807) (h3' : ns'.length ≤ 9223372036854775807) (hr' : ∀ x ∈ ns', x.length ≤ 9223372036854775807) : ∃ k, laws_FnExactFirstUnlike.f k t s ac ns t' s' ac' ns' = some true := by
 apply Ev.rounds; unfold laws_FnExactFirstUnlike.f; obtain ⟨n, e1, e2, e3⟩ := xz1 t s ac ns 1048576 (by omega) h2 h3 hr; refine Ev.bind e1 ?_; by_cases hn : n < 0
 ·exact Ev.pos hn (Ev.const rfl)
 refine Ev.neg hn ?_; have hz := e3 (by omega); obtain ⟨n', e1', e2', e3'⟩ := xz1 t' s' ac' ns' n.toNat (by omega) h2' h3' hr'; rw [show ((n.toNat : Nat) : Int) = n by omega] at e1'; refine Ev.bind e1' ?_; by_cases hn' : n' < 0
 ·exact Ev.pos hn' (Ev.const rfl)
 refine Ev.neg hn' ?_; have hz' := e3' (by omega); obtain ⟨⟨r1, r2⟩, hR, hS, hI⟩ := ko2 (t := t) (s := s) (t' := t') (s' := s') hz hz'; simp only at hR; have k1 := qz2 hz; have k3 := hz.1; have k1' := qz2 hz'; have k3' := hz'.1; refine Ev.guard (xx1 t s ac ns hz) ?_; refine Ev.guard (xx1 t' s' ac' ns' hz') ?_; refine Ev.bind hS ?_; refine Ev.guard hI ?_; refine Ev.guard (kg2 r1 (by omega)) ?_; refine Ev.guard (qw1 t s ac ns hz) ?_; refine Ev.guard (qw1 t' s' ac' ns' hz') ?_; refine Ev.bind (zm2 ac 1 (by omega) (by omega)) ?_; refine Ev.bind (zl2 ns (1 + ac.length) (by omega) (by have := hz.2.1; omega) (fun x hx => by have := hz.2.2 x hx; omega)) ?_; refine Ev.neg (by omega) ?_; refine Ev.bind (zm2 ac' (1 + ac.length + sumL ns) (by omega) (by omega)) ?_; refine Ev.bind (zl2 ns' (1 + ac.length + sumL ns + ac'.length) (by omega) (by have := hz'.2.1; omega) (fun x hx => by have := hz'.2.2 x hx; omega)) ?_; refine Ev.neg (by omega) ?_; refine Ev.bind (yo2 r1 1 (by omega) (by omega)) ?_; refine Ev.neg (by omega) ?_; exact Ev.guard (yr2 r1.length 1 (by omega) (by omega)) (Ev.now _)
end Go.Proofs.YtocfcpicleomcaaDoor.Pure
