/- Plain law, by this claim's author. -/
import Derived.Test.YtbbkhkipnkejmaaXx80
namespace Go.Proofs.Ytbbkhkipnkejmaa.Pure
open Go.RowKit Go.Proofs.Ytbbkhkipnkejmaa.X Go.Proofs.YtbbkhkipnkejmaaW.PrintWords Go.Proofs.YtbbkhkipnkejmaaW.PrintLast
set_option linter.unusedVariables false
set_option linter.unusedSimpArgs false

theorem Ev.succ {α : Type} {g : Nat → Option α} {r : α} (h : Ev (fun k => g (k + 1)) r) : Ev g r := Ev.step (fun _ => rfl) h
theorem Ev.const {α : Type} {o : Option α} {r : α} (h : o = some r) : Ev (fun _ => o) r := ⟨0, fun _ _ => h⟩
theorem w64 {n : Int} (h0 : -9223372036854775808 ≤ n) (h1 : n ≤ 9223372036854775807) : wrap64 n = n := by
  unfold wrap64; omega
theorem rd_nat (xs : List Int) (i : Nat) (h : i < xs.length) : rd xs (i : Int) = xs[i] := by
  simp [rd, List.getD_eq_getElem?_getD, h]
theorem rdOf_nat {α : Type} (d : α) (xs : List α) (i : Nat) (h : i < xs.length) : rdOf d xs (i : Int) = xs[i] := by
  simp [rdOf, List.getD_eq_getElem?_getD, h]
theorem set_take {α : Type} (l ys : List α) (i : Nat) (x : α) (hx : l[i]? = some x) (hl : ys.length = l.length) (h : ys.take i = l.take i) : (ys.set i x).take (i + 1) = l.take (i + 1) := by
  have hi : i < l.length := (List.getElem?_eq_some_iff.1 hx).1
  apply List.ext_getElem?
  intro j
  have hj := congrArg (fun z => z[j]?) h
  simp only [List.getElem?_take] at hj ⊢
  rw [List.getElem?_set]
  by_cases h1 : j < i + 1
  · by_cases h2 : i = j
    · subst h2
      simp only [h1, if_true]
      rw [if_pos (by omega)]
      exact hx.symm
    · have h3 : j < i := by omega
      simp only [h1, if_true, h2, if_false, h3] at hj ⊢
      exact hj
  · simp [h1]
theorem Ev.pos {α : Type} {c : Prop} [Decidable c] {f g : Nat → Option α} {r : α} (h : c) (k : Ev f r) : Ev (fun n => if c then f n else g n) r := by
  obtain ⟨K, k⟩ := k
  exact ⟨K, fun n hn => (if_pos h).trans (k n hn)⟩
theorem Ev.neg {α : Type} {c : Prop} [Decidable c] {f g : Nat → Option α} {r : α} (h : ¬ c) (k : Ev g r) : Ev (fun n => if c then f n else g n) r := by
  obtain ⟨K, k⟩ := k
  exact ⟨K, fun n hn => (if_neg h).trans (k n hn)⟩

/-! toInt64S, eqInt64S, markInt64S -/
theorem toInt64S_l (l : List Int) (hn : l.length ≤ 35184372088832) (d : Nat) : ∀ (i : Nat) (ys : List Int), i + d = l.length → ys.length = l.length → ys.take i = l.take i → Ev (fun k => laws_toInt64S.l0 k l ys (i : Int)) l := by
  induction d with
  | zero =>
    intro i ys hi hl ht
    apply Ev.succ
    simp only [laws_toInt64S.l0]
    refine Ev.neg (by omega) ?_
    refine Ev.const ?_
    rw [List.take_of_length_le (by omega), List.take_of_length_le (by omega)] at ht
    rw [ht]
  | succ d ih =>
    intro i ys hi hl ht
    apply Ev.succ
    simp only [laws_toInt64S.l0]
    refine Ev.pos (by omega) ?_
    refine Ev.pos (by omega) ?_
    refine Ev.pos (by omega) ?_
    rw [w64 (by omega) (by omega), Int.toNat_natCast]
    have := ih (i + 1) (ys.set i (rd l i)) (by omega) (by simp [hl]) (set_take l ys i _ (by rw [rd_nat l i (by omega)]; exact List.getElem?_eq_getElem (by omega)) hl ht)
    exact this
theorem toInt64S_ev (l : List Int) (hn : l.length ≤ 35184372088832) : Ev (fun k => laws_toInt64S.f k l) l := by
  unfold laws_toInt64S.f
  simp only [Int.toNat_natCast]
  refine Ev.pos (by omega) ?_
  refine Ev.pos hn ?_
  exact toInt64S_l l hn l.length 0 _ (by omega) (by simp) (by simp)
theorem eqInt64S_l (l : List Int) (hn : l.length ≤ 35184372088832) (d : Nat) : ∀ (i : Nat), i + d = l.length → Ev (fun k => laws_eqInt64S.l0 k l l (i : Int)) true := by
  induction d with
  | zero =>
    intro i hi
    apply Ev.succ
    simp only [laws_eqInt64S.l0]
    refine Ev.neg (by omega) ?_
    exact Ev.const rfl
  | succ d ih =>
    intro i hi
    apply Ev.succ
    simp only [laws_eqInt64S.l0]
    refine Ev.pos (by omega) ?_
    refine Ev.pos (by omega) ?_
    refine Ev.pos (by omega) ?_
    refine Ev.pos trivial ?_
    rw [w64 (by omega) (by omega)]
    exact ih (i + 1) (by omega)
theorem eqInt64S_ev (l : List Int) (hn : l.length ≤ 35184372088832) : Ev (fun k => laws_eqInt64S.f k l l) true := by
  unfold laws_eqInt64S.f
  refine Ev.pos rfl ?_
  exact eqInt64S_l l hn l.length 0 (by omega)

/-! toBoolS, eqBoolS, toInt64SS, eqInt64SS, szRelation, toRelation, eqRelation -/
theorem rd4_nat (xs : List (List Int)) (i : Nat) (h : i < xs.length) : rd_L4 xs (i : Int) = xs[i] := by
  simp [rd_L4, List.getD_eq_getElem?_getD, h]
theorem toBoolS_l (l : List Bool) (hn : l.length ≤ 35184372088832) (d : Nat) : ∀ (i : Nat) (ys : List Bool), i + d = l.length → ys.length = l.length → ys.take i = l.take i → Ev (fun k => laws_toBoolS.l0 k l ys (i : Int)) l := by
  induction d with
  | zero =>
    intro i ys hi hl ht
    apply Ev.succ
    simp only [laws_toBoolS.l0]
    refine Ev.neg (by omega) ?_
    refine Ev.const ?_
    rw [List.take_of_length_le (by omega), List.take_of_length_le (by omega)] at ht
    rw [ht]
  | succ d ih =>
    intro i ys hi hl ht
    apply Ev.succ
    simp only [laws_toBoolS.l0]
    refine Ev.pos (by omega) ?_
    refine Ev.pos (by omega) ?_
    refine Ev.pos (by omega) ?_
    rw [w64 (by omega) (by omega), Int.toNat_natCast]
    have := ih (i + 1) (ys.set i (rdOf false l i)) (by omega) (by simp [hl]) (set_take l ys i _ (by rw [rdOf_nat false l i (by omega)]; exact List.getElem?_eq_getElem (by omega)) hl ht)
    exact this
theorem toBoolS_ev (l : List Bool) (hn : l.length ≤ 35184372088832) : Ev (fun k => laws_toBoolS.f k l) l := by
  unfold laws_toBoolS.f
  simp only [Int.toNat_natCast]
  refine Ev.pos (by omega) ?_
  refine Ev.pos (by omega) ?_
  exact toBoolS_l l hn l.length 0 _ (by omega) (by simp) (by simp)
theorem toInt64SS_l (l : List (List Int)) (hn : l.length ≤ 35184372088832) (hr : ∀ x ∈ l, x.length ≤ 35184372088832) (d : Nat) : ∀ (i : Nat) (ys : List (List Int)), i + d = l.length → ys.length = l.length → ys.take i = l.take i → Ev (fun k => laws_toInt64SS.l0 k l ys (i : Int)) l := by
  induction d with
  | zero =>
    intro i ys hi hl ht
    apply Ev.succ
    simp only [laws_toInt64SS.l0]
    refine Ev.neg (by omega) ?_
    refine Ev.const ?_
    rw [List.take_of_length_le (by omega), List.take_of_length_le (by omega)] at ht
    rw [ht]
  | succ d ih =>
    intro i ys hi hl ht
    apply Ev.succ
    simp only [laws_toInt64SS.l0]
    refine Ev.pos (by omega) ?_
    refine Ev.pos (by omega) ?_
    rw [rd4_nat l i (by omega)]
    refine Ev.bind (toInt64S_ev _ (hr _ (List.getElem_mem _))) ?_
    refine Ev.pos (by omega) ?_
    rw [w64 (by omega) (by omega), Int.toNat_natCast]
    exact ih (i + 1) (ys.set i l[i]) (by omega) (by simp [hl]) (set_take l ys i _ (List.getElem?_eq_getElem (by omega)) hl ht)
theorem toInt64SS_ev (l : List (List Int)) (hn : l.length ≤ 11728124029610) (hr : ∀ x ∈ l, x.length ≤ 35184372088832) : Ev (fun k => laws_toInt64SS.f k l) l := by
  unfold laws_toInt64SS.f
  simp only [Int.toNat_natCast]
  refine Ev.pos (by omega) ?_
  refine Ev.pos (by omega) ?_
  exact toInt64SS_l l (by omega) hr l.length 0 _ (by omega) (by simp) (by simp)
theorem eqBoolS_l (l : List Bool) (hn : l.length ≤ 35184372088832) (d : Nat) : ∀ (i : Nat), i + d = l.length → Ev (fun k => laws_eqBoolS.l0 k l l (i : Int)) true := by
  induction d with
  | zero =>
    intro i hi
    apply Ev.succ
    simp only [laws_eqBoolS.l0]
    refine Ev.neg (by omega) ?_
    exact Ev.const rfl
  | succ d ih =>
    intro i hi
    apply Ev.succ
    simp only [laws_eqBoolS.l0]
    refine Ev.pos (by omega) ?_
    refine Ev.pos (by omega) ?_
    refine Ev.pos (by omega) ?_
    refine Ev.neg (by simp) ?_
    rw [w64 (by omega) (by omega)]
    exact ih (i + 1) (by omega)
theorem eqBoolS_ev (l : List Bool) (hn : l.length ≤ 35184372088832) : Ev (fun k => laws_eqBoolS.f k l l) true := by
  unfold laws_eqBoolS.f
  refine Ev.pos rfl ?_
  exact eqBoolS_l l hn l.length 0 (by omega)
theorem eqInt64SS_l (l : List (List Int)) (hn : l.length ≤ 35184372088832) (hr : ∀ x ∈ l, x.length ≤ 35184372088832) (d : Nat) : ∀ (i : Nat), i + d = l.length → Ev (fun k => laws_eqInt64SS.l0 k l l (i : Int)) true := by
  induction d with
  | zero =>
    intro i hi
    apply Ev.succ
    simp only [laws_eqInt64SS.l0]
    refine Ev.neg (by omega) ?_
    exact Ev.const rfl
  | succ d ih =>
    intro i hi
    apply Ev.succ
    simp only [laws_eqInt64SS.l0]
    refine Ev.pos (by omega) ?_
    refine Ev.pos (by omega) ?_
    refine Ev.pos (by omega) ?_
    rw [rd4_nat l i (by omega)]
    refine Ev.bind (eqInt64S_ev _ (hr _ (List.getElem_mem _))) ?_
    refine Ev.pos rfl ?_
    rw [w64 (by omega) (by omega)]
    exact ih (i + 1) (by omega)
theorem eqInt64SS_ev (l : List (List Int)) (hn : l.length ≤ 35184372088832) (hr : ∀ x ∈ l, x.length ≤ 35184372088832) : Ev (fun k => laws_eqInt64SS.f k l l) true := by
  unfold laws_eqInt64SS.f
  refine Ev.pos rfl ?_
  exact eqInt64SS_l l hn hr l.length 0 (by omega)
theorem szInt64SS_l (l : List (List Int)) (hn : l.length ≤ 9223372036854775806) (hr : ∀ x ∈ l, x.length ≤ 9223372036854775807) (d : Nat) : ∀ (i a : Nat), i + d = l.length → a ≤ 1048576 →
    ∃ n : Int, Ev (fun k => laws_szInt64SS.l0 k l (a : Int) (i : Int)) n ∧ n ≤ 1048576 ∧ (0 ≤ n → ∀ j, i ≤ j → ∀ x, l[j]? = some x → x.length ≤ 1048576) := by
  induction d with
  | zero =>
    intro i a hi ha
    refine ⟨a, ?_, by omega, fun _ j hj x hx => ?_⟩
    · apply Ev.succ
      simp only [laws_szInt64SS.l0]
      refine Ev.neg (by omega) ?_
      exact Ev.const rfl
    · have := (List.getElem?_eq_some_iff.1 hx).1
      omega
  | succ d ih =>
    intro i a hi ha
    have hx := hr _ (List.getElem_mem (show i < l.length by omega))
    by_cases c : l[i].length ≤ a
    · obtain ⟨n, h1, h2, h3⟩ := ih (i + 1) (a - l[i].length) (by omega) (by omega)
      refine ⟨n, ?_, h2, fun h0 j hj x hjx => ?_⟩
      · apply Ev.succ
        simp only [laws_szInt64SS.l0]
        refine Ev.pos (by omega) ?_
        refine Ev.pos (by omega) ?_
        rw [rd4_nat l i (by omega)]
        refine Ev.bind (a := ((a - l[i].length : Nat) : Int)) ?_ ?_
        · unfold laws_szInt64S.f
          rw [w64 (by omega) (by omega)]
          refine Ev.neg (by omega) ?_
          exact Ev.const (by congr 1; omega)
        · refine Ev.neg (by omega) ?_
          rw [w64 (by omega) (by omega)]
          exact h1
      · by_cases e : i = j
        · subst e
          rw [List.getElem?_eq_getElem (by omega)] at hjx
          injection hjx with hjx
          subst hjx
          omega
        · exact h3 h0 j (by omega) x hjx
    · refine ⟨-1, ?_, by omega, fun h0 => by omega⟩
      apply Ev.succ
      simp only [laws_szInt64SS.l0]
      refine Ev.pos (by omega) ?_
      refine Ev.pos (by omega) ?_
      rw [rd4_nat l i (by omega)]
      refine Ev.bind (a := -1) ?_ ?_
      · unfold laws_szInt64S.f
        rw [w64 (by omega) (by omega)]
        exact Ev.pos (by omega) (Ev.const rfl)
      · exact Ev.pos (by omega) (Ev.const rfl)
/-- What a relation's size says: it is not negative only if its rows are short. -/
def SzOK (ac : List Bool) (ns : List (List Int)) : Prop := ac.length ≤ 1048576 ∧ ns.length ≤ 1048576 ∧ ∀ x ∈ ns, x.length ≤ 1048576
theorem szRelation_ev (t s : Int) (ac : List Bool) (ns : List (List Int)) (a : Nat) (ha : a ≤ 1048576) (h2 : ac.length ≤ 9223372036854775807) (h3 : ns.length ≤ 9223372036854775807) (hr : ∀ x ∈ ns, x.length ≤ 9223372036854775807) :
    ∃ n : Int, Ev (fun k => laws_szRelation.f k t s ac ns (a : Int)) n ∧ n ≤ 1048576 ∧ (0 ≤ n → SzOK ac ns) := by
  unfold laws_szRelation.f
  by_cases c : ac.length ≤ a
  · by_cases c2 : ns.length ≤ a - ac.length
    · obtain ⟨n, e1, e2, e3⟩ := szInt64SS_l ns (by omega) hr ns.length 0 (a - ac.length - ns.length) (by omega) (by omega)
      refine ⟨if n < 0 then -1 else n, ?_, by split <;> omega, fun h0 => ⟨by omega, by omega, fun x hx => ?_⟩⟩
      · refine Ev.bind (a := ((a - ac.length : Nat) : Int)) ?_ ?_
        · unfold laws_szBoolS.f
          rw [w64 (by omega) (by omega)]
          refine Ev.neg (by omega) ?_
          exact Ev.const (by congr 1; omega)
        · refine Ev.neg (by omega) ?_
          refine Ev.bind (a := n) ?_ ?_
          · unfold laws_szInt64SS.f
            rw [w64 (by omega) (by omega)]
            refine Ev.neg (by omega) ?_
            rw [show ((a - ac.length : Nat) : Int) - (ns.length : Int) = ((a - ac.length - ns.length : Nat) : Int) by omega]
            exact e1
          · by_cases hn : n < 0
            · simp only [if_pos hn]
              exact Ev.now _
            · simp only [if_neg hn]
              exact Ev.now _
      · have hn : 0 ≤ n := by
          by_cases hn : n < 0
          · rw [if_pos hn] at h0
            omega
          · omega
        obtain ⟨j, hj⟩ := List.mem_iff_getElem?.1 hx
        exact e3 hn j (by omega) x hj
    · refine ⟨-1, ?_, by omega, fun h0 => by omega⟩
      refine Ev.bind (a := ((a - ac.length : Nat) : Int)) ?_ ?_
      · unfold laws_szBoolS.f
        rw [w64 (by omega) (by omega)]
        refine Ev.neg (by omega) ?_
        exact Ev.const (by congr 1; omega)
      · refine Ev.neg (by omega) ?_
        refine Ev.bind (a := -1) ?_ ?_
        · unfold laws_szInt64SS.f
          rw [w64 (by omega) (by omega)]
          exact Ev.pos (by omega) (Ev.const rfl)
        · exact Ev.pos (by omega) (Ev.const rfl)
  · refine ⟨-1, ?_, by omega, fun h0 => by omega⟩
    refine Ev.bind (a := -1) ?_ ?_
    · unfold laws_szBoolS.f
      rw [w64 (by omega) (by omega)]
      exact Ev.pos (by omega) (Ev.const rfl)
    · exact Ev.pos (by omega) (Ev.const rfl)
theorem toRelation_ev (t s : Int) (ac : List Bool) (ns : List (List Int)) (h : SzOK ac ns) : Ev (fun k => laws_toRelation.f k t s ac ns) (t, s, ac, ns) := by
  unfold laws_toRelation.f
  refine Ev.bind (toBoolS_ev ac (by have := h.1; omega)) ?_
  refine Ev.bind (toInt64SS_ev ns (by have := h.2.1; omega) (fun x hx => by have := h.2.2 x hx; omega)) ?_
  exact Ev.now _
theorem eqRelation_ev (t s : Int) (ac : List Bool) (ns : List (List Int)) (h : SzOK ac ns) : Ev (fun k => laws_eqRelation.f k t s ac ns t s ac ns) true := by
  unfold laws_eqRelation.f
  refine Ev.pos rfl ?_
  refine Ev.pos rfl ?_
  refine Ev.bind (eqBoolS_ev ac (by have := h.1; omega)) ?_
  refine Ev.pos rfl ?_
  refine Ev.bind (eqInt64SS_ev ns (by have := h.2.1; omega) (fun x hx => by have := h.2.2 x hx; omega)) ?_
  exact Ev.pos rfl (Ev.now _)

/-! szPresentation, toPresentation, eqPresentation -/
theorem rd41_nat (xs : List S41) (i : Nat) (h : i < xs.length) : rd_T41 xs (i : Int) = xs[i] := by
  simp [rd_T41, List.getD_eq_getElem?_getD, h]
theorem rd44_nat (xs : List S44) (i : Nat) (h : i < xs.length) : rd_T44 xs (i : Int) = xs[i] := by
  simp [rd_T44, List.getD_eq_getElem?_getD, h]
def conv (x : S41) : S44 := ⟨x.f0, x.f1, x.f2, x.f3⟩
def BdOK (x : S41) : Prop := x.f2.length ≤ 9223372036854775807 ∧ x.f3.length ≤ 9223372036854775807 ∧ ∀ y ∈ x.f3, y.length ≤ 9223372036854775807
def SzS (l : List S41) : Prop := l.length ≤ 1048576 ∧ ∀ x ∈ l, SzOK x.f2 x.f3
theorem szRelationS_l (l : List S41) (hn : l.length ≤ 9223372036854775806) (hr : ∀ x ∈ l, BdOK x) (d : Nat) : ∀ (i a : Nat), i + d = l.length → a ≤ 1048576 →
    ∃ n : Int, Ev (fun k => laws_szRelationS.l0 k l (a : Int) (i : Int)) n ∧ n ≤ 1048576 ∧ (0 ≤ n → ∀ j, i ≤ j → ∀ x, l[j]? = some x → SzOK x.f2 x.f3) := by
  induction d with
  | zero =>
    intro i a hi ha
    refine ⟨a, ?_, by omega, fun _ j hj x hx => ?_⟩
    · apply Ev.succ
      simp only [laws_szRelationS.l0]
      refine Ev.neg (by omega) ?_
      exact Ev.const rfl
    · have := (List.getElem?_eq_some_iff.1 hx).1
      omega
  | succ d ih =>
    intro i a hi ha
    obtain ⟨b2, b3, br⟩ := hr _ (List.getElem_mem (show i < l.length by omega))
    obtain ⟨n, e1, e2, e3⟩ := szRelation_ev l[i].f0 l[i].f1 l[i].f2 l[i].f3 a ha b2 b3 br
    by_cases c : n < 0
    · refine ⟨-1, ?_, by omega, fun h0 => by omega⟩
      apply Ev.succ
      simp only [laws_szRelationS.l0]
      refine Ev.pos (by omega) ?_
      refine Ev.pos (by omega) ?_
      rw [rd41_nat l i (by omega)]
      refine Ev.bind e1 ?_
      exact Ev.pos c (Ev.now _)
    · obtain ⟨m, rfl⟩ : ∃ m : Nat, n = m := ⟨n.toNat, by omega⟩
      obtain ⟨q, h1, h2, h3⟩ := ih (i + 1) m (by omega) (by omega)
      refine ⟨q, ?_, h2, fun h0 j hj x hjx => ?_⟩
      · apply Ev.succ
        simp only [laws_szRelationS.l0]
        refine Ev.pos (by omega) ?_
        refine Ev.pos (by omega) ?_
        rw [rd41_nat l i (by omega)]
        refine Ev.bind e1 ?_
        refine Ev.neg c ?_
        rw [w64 (by omega) (by omega)]
        exact h1
      · by_cases e : i = j
        · subst e
          rw [List.getElem?_eq_getElem (by omega)] at hjx
          injection hjx with hjx
          subst hjx
          exact e3 (by omega)
        · exact h3 h0 j (by omega) x hjx
theorem szPresentation_ev (t s : Int) (ac : List Bool) (ns : List (List Int)) (l : List S41) (a : Nat) (ha : a ≤ 1048576) (h2 : ac.length ≤ 9223372036854775807) (h3 : ns.length ≤ 9223372036854775807) (hr : ∀ x ∈ ns, x.length ≤ 9223372036854775807) (h4 : l.length ≤ 9223372036854775807) (hl : ∀ x ∈ l, BdOK x) :
    ∃ n : Int, Ev (fun k => laws_szPresentation.f k t s ac ns l (a : Int)) n ∧ n ≤ 1048576 ∧ (0 ≤ n → SzOK ac ns ∧ SzS l) := by
  unfold laws_szPresentation.f
  obtain ⟨n, e1, e2, e3⟩ := szRelation_ev t s ac ns a ha h2 h3 hr
  by_cases c : n < 0
  · exact ⟨-1, Ev.bind e1 (Ev.pos c (Ev.now _)), by omega, fun h => by omega⟩
  · obtain ⟨m, rfl⟩ : ∃ m : Nat, n = m := ⟨n.toNat, by omega⟩
    by_cases c2 : l.length ≤ m
    · obtain ⟨q, f1, f2, f3⟩ := szRelationS_l l (by omega) hl l.length 0 (m - l.length) (by omega) (by omega)
      refine ⟨if q < 0 then -1 else q, ?_, by split <;> omega, fun h0 => ⟨e3 (by omega), by omega, fun x hx => ?_⟩⟩
      · refine Ev.bind e1 (Ev.neg c ?_)
        refine Ev.bind (a := q) ?_ ?_
        · unfold laws_szRelationS.f
          rw [w64 (by omega) (by omega)]
          refine Ev.neg (by omega) ?_
          rw [show (m : Int) - (l.length : Int) = ((m - l.length : Nat) : Int) by omega]
          exact f1
        · by_cases hn : q < 0
          · simp only [if_pos hn]
            exact Ev.now _
          · simp only [if_neg hn]
            exact Ev.now _
      · have hn : 0 ≤ q := by
          by_cases hn : q < 0
          · rw [if_pos hn] at h0
            omega
          · omega
        obtain ⟨j, hj⟩ := List.mem_iff_getElem?.1 hx
        exact f3 hn j (by omega) x hj
    · refine ⟨-1, Ev.bind e1 (Ev.neg c (Ev.bind (a := -1) ?_ (Ev.pos (by omega) (Ev.now _)))), by omega, fun h => by omega⟩
      unfold laws_szRelationS.f
      rw [w64 (by omega) (by omega)]
      exact Ev.pos (by omega) (Ev.now _)
theorem toRelationS_l (l : List S41) (h : SzS l) (d : Nat) : ∀ (i : Nat) (ys : List S44), i + d = l.length → ys.length = l.length → ys.take i = (l.map conv).take i → Ev (fun k => laws_toRelationS.l0 k l ys (i : Int)) (l.map conv) := by
  have hn := h.1
  induction d with
  | zero =>
    intro i ys hi hl ht
    apply Ev.succ
    simp only [laws_toRelationS.l0]
    refine Ev.neg (by omega) ?_
    refine Ev.const ?_
    rw [List.take_of_length_le (by omega), List.take_of_length_le (by simp; omega)] at ht
    rw [ht]
  | succ d ih =>
    intro i ys hi hl ht
    apply Ev.succ
    simp only [laws_toRelationS.l0]
    refine Ev.pos (by omega) ?_
    refine Ev.pos (by omega) ?_
    rw [rd41_nat l i (by omega)]
    refine Ev.bind (toRelation_ev _ _ _ _ (h.2 _ (List.getElem_mem (show i < l.length by omega)))) ?_
    refine Ev.pos (by omega) ?_
    rw [w64 (by omega) (by omega), Int.toNat_natCast]
    exact ih (i + 1) (ys.set i (conv l[i])) (by omega) (by simp [hl]) (set_take (l.map conv) ys i _ (by simp [show i < l.length by omega]) (by simp [hl]) ht)
theorem toPresentation_ev (t s : Int) (ac : List Bool) (ns : List (List Int)) (l : List S41) (h : SzOK ac ns) (hl : SzS l) : Ev (fun k => laws_toPresentation.f k t s ac ns l) (t, s, ac, ns, l.map conv) := by
  unfold laws_toPresentation.f
  refine Ev.bind (toRelation_ev t s ac ns h) ?_
  refine Ev.bind (a := l.map conv) ?_ (Ev.now _)
  unfold laws_toRelationS.f
  have := hl.1
  simp only [Int.toNat_natCast]
  refine Ev.pos (by omega) ?_
  refine Ev.pos (by omega) ?_
  exact toRelationS_l l hl l.length 0 _ (by omega) (by simp) (by simp)
/-- The same of the converted list. -/
def SzT (l : List S44) : Prop := l.length ≤ 1048576 ∧ ∀ x ∈ l, SzOK x.f2 x.f3
theorem SzS.conv {l : List S41} (h : SzS l) : SzT (l.map conv) := ⟨by simpa using h.1, fun x hx => by
  obtain ⟨y, hy, rfl⟩ := List.mem_map.1 hx
  exact h.2 y hy⟩
theorem eqRelationS_l (l : List S44) (h : SzT l) (d : Nat) : ∀ (i : Nat), i + d = l.length → Ev (fun k => laws_eqRelationS.l0 k l l (i : Int)) true := by
  have hn := h.1
  induction d with
  | zero =>
    intro i hi
    apply Ev.succ
    simp only [laws_eqRelationS.l0]
    refine Ev.neg (by omega) ?_
    exact Ev.const rfl
  | succ d ih =>
    intro i hi
    apply Ev.succ
    simp only [laws_eqRelationS.l0]
    refine Ev.pos (by omega) ?_
    refine Ev.pos (by omega) ?_
    refine Ev.pos (by omega) ?_
    rw [rd44_nat l i (by omega)]
    refine Ev.bind (eqRelation_ev _ _ _ _ (h.2 _ (List.getElem_mem (show i < l.length by omega)))) ?_
    refine Ev.pos rfl ?_
    rw [w64 (by omega) (by omega)]
    exact ih (i + 1) (by omega)
theorem eqPresentation_ev (t s : Int) (ac : List Bool) (ns : List (List Int)) (l : List S44) (h : SzOK ac ns) (hl : SzT l) : Ev (fun k => laws_eqPresentation.f k t s ac ns l t s ac ns l) true := by
  unfold laws_eqPresentation.f
  refine Ev.bind (eqRelation_ev t s ac ns h) ?_
  refine Ev.pos rfl ?_
  refine Ev.bind (a := true) ?_ (Ev.pos rfl (Ev.now _))
  unfold laws_eqRelationS.f
  refine Ev.pos rfl ?_
  exact eqRelationS_l l hl l.length 0 (by omega)

/-! SameRelation -/
theorem eqLoop {α : Type} [DecidableEq α] (g : Nat → Int → Option Bool) (l m : List α) (hl : l.length = m.length) (hend : Ev (fun k => g k (l.length : Int)) true)
    (hstep : ∀ (i : Nat) (h : i < l.length) (h' : i < m.length) (R : Bool), Ev (fun k => g k ((i + 1 : Nat) : Int)) R → Ev (fun k => g k (i : Int)) (decide (l[i] = m[i]) && R)) (d : Nat) : ∀ i, i + d = l.length → Ev (fun k => g k (i : Int)) (decide (l.drop i = m.drop i)) := by
  induction d with
  | zero =>
    intro i hi
    rw [List.drop_of_length_le (by omega), List.drop_of_length_le (by omega), show i = l.length by omega]
    simpa using hend
  | succ d ih =>
    intro i hi
    have := hstep i (by omega) (by omega) _ (ih (i + 1) (by omega))
    rw [List.drop_eq_getElem_cons (show i < l.length by omega), List.drop_eq_getElem_cons (show i < m.length by omega)]
    have e : decide (l[i] :: l.drop (i + 1) = m[i] :: m.drop (i + 1)) = (decide (l[i] = m[i]) && decide (l.drop (i + 1) = m.drop (i + 1))) := by
      rw [← Bool.decide_and]
      exact decide_eq_decide.2 (Iff.of_eq (List.cons.injEq _ _ _ _))
    rw [e]
    exact this
theorem ne_len {α : Type} [DecidableEq α] {l m : List α} (h : ¬ (l.length : Int) = (m.length : Int)) : decide (l = m) = false := decide_eq_false (fun e => h (by rw [e]))
theorem spec_l01Bools_ev (l m : List Bool) (hn : l.length ≤ 35184372088832) : Ev (fun k => spec_l01Bools.f k l m) (decide (l = m)) := by
  unfold spec_l01Bools.f
  by_cases h : (l.length : Int) = (m.length : Int)
  · refine Ev.pos h ?_
    refine eqLoop (fun k i => spec_l01Bools.l0 k l m i) l m (by omega) ?_ ?_ l.length 0 (by omega)
    · apply Ev.succ
      simp only [spec_l01Bools.l0]
      exact Ev.neg (by omega) (Ev.now _)
    · intro i hi hi' R hR
      apply Ev.succ
      simp only [spec_l01Bools.l0]
      refine Ev.pos (by omega) ?_
      refine Ev.pos (by omega) ?_
      refine Ev.pos (by omega) ?_
      rw [rdOf_nat false l i hi, rdOf_nat false m i hi']
      by_cases e : l[i] = m[i]
      · refine Ev.neg (by simp [e]) ?_
        rw [w64 (by omega) (by omega), decide_eq_true e, Bool.true_and]
        exact hR
      · refine Ev.pos (by simp [e]) ?_
        rw [decide_eq_false e, Bool.false_and]
        exact Ev.now _
  · refine Ev.neg h ?_
    rw [ne_len h]
    exact Ev.now _
theorem sl_bool_ev (l m : List Bool) (hn : l.length ≤ 35184372088832) : Ev (fun k => slices_Equal_bool_bool.f k l m) (decide (l = m)) := by
  unfold slices_Equal_bool_bool.f
  by_cases h : (l.length : Int) = (m.length : Int)
  · refine Ev.pos h ?_
    refine eqLoop (fun k i => slices_Equal_bool_bool.l0 k l m (l.length : Int) i) l m (by omega) ?_ ?_ l.length 0 (by omega)
    · apply Ev.succ
      simp only [slices_Equal_bool_bool.l0]
      exact Ev.neg (by omega) (Ev.now _)
    · intro i hi hi' R hR
      apply Ev.succ
      simp only [slices_Equal_bool_bool.l0]
      refine Ev.pos (by omega) ?_
      refine Ev.pos (by omega) ?_
      refine Ev.pos (by omega) ?_
      refine Ev.pos (by omega) ?_
      rw [rdOf_nat false l i hi, rdOf_nat false m i hi']
      by_cases e : l[i] = m[i]
      · refine Ev.neg (by simp [e]) ?_
        rw [w64 (by omega) (by omega), decide_eq_true e, Bool.true_and]
        exact hR
      · refine Ev.pos (by simp [e]) ?_
        rw [decide_eq_false e, Bool.false_and]
        exact Ev.now _
  · refine Ev.neg h ?_
    rw [ne_len h]
    exact Ev.now _
theorem spec_l00Same_ev (l m : List Int) (hn : l.length ≤ 35184372088832) : Ev (fun k => spec_l00Same.f k l m) (decide (l = m)) := by
  unfold spec_l00Same.f
  by_cases h : (l.length : Int) = (m.length : Int)
  · refine Ev.pos h ?_
    refine eqLoop (fun k i => spec_l00Same.l0 k l m i) l m (by omega) ?_ ?_ l.length 0 (by omega)
    · apply Ev.succ
      simp only [spec_l00Same.l0]
      exact Ev.neg (by omega) (Ev.now _)
    · intro i hi hi' R hR
      apply Ev.succ
      simp only [spec_l00Same.l0]
      refine Ev.pos (by omega) ?_
      refine Ev.pos (by omega) ?_
      refine Ev.pos (by omega) ?_
      rw [rd_nat l i hi, rd_nat m i hi']
      by_cases e : l[i] = m[i]
      · refine Ev.pos e ?_
        rw [w64 (by omega) (by omega), decide_eq_true e, Bool.true_and]
        exact hR
      · refine Ev.neg e ?_
        rw [decide_eq_false e, Bool.false_and]
        exact Ev.now _
  · refine Ev.neg h ?_
    rw [ne_len h]
    exact Ev.now _
theorem sl_int_ev (l m : List Int) (hn : l.length ≤ 35184372088832) : Ev (fun k => slices_Equal_int64_int64.f k l m) (decide (l = m)) := by
  unfold slices_Equal_int64_int64.f
  by_cases h : (l.length : Int) = (m.length : Int)
  · refine Ev.pos h ?_
    refine eqLoop (fun k i => slices_Equal_int64_int64.l0 k l m (l.length : Int) i) l m (by omega) ?_ ?_ l.length 0 (by omega)
    · apply Ev.succ
      simp only [slices_Equal_int64_int64.l0]
      exact Ev.neg (by omega) (Ev.now _)
    · intro i hi hi' R hR
      apply Ev.succ
      simp only [slices_Equal_int64_int64.l0]
      refine Ev.pos (by omega) ?_
      refine Ev.pos (by omega) ?_
      refine Ev.pos (by omega) ?_
      refine Ev.pos (by omega) ?_
      rw [rd_nat l i hi, rd_nat m i hi']
      by_cases e : l[i] = m[i]
      · refine Ev.pos e ?_
        rw [w64 (by omega) (by omega), decide_eq_true e, Bool.true_and]
        exact hR
      · refine Ev.neg e ?_
        rw [decide_eq_false e, Bool.false_and]
        exact Ev.now _
  · refine Ev.neg h ?_
    rw [ne_len h]
    exact Ev.now _
theorem eqfRows_ev (l m : List (List Int)) (hn : l.length ≤ 35184372088832) (hr : ∀ x ∈ l, x.length ≤ 35184372088832) : Ev (fun k => eqfRows.f k l m) (decide (l = m)) := by
  unfold eqfRows.f
  by_cases h : (l.length : Int) = (m.length : Int)
  · refine Ev.pos h ?_
    refine eqLoop (fun k i => eqfRows.l0 k l m i) l m (by omega) ?_ ?_ l.length 0 (by omega)
    · apply Ev.succ
      simp only [eqfRows.l0]
      exact Ev.neg (by omega) (Ev.now _)
    · intro i hi hi' R hR
      apply Ev.succ
      simp only [eqfRows.l0]
      refine Ev.pos (by omega) ?_
      refine Ev.pos (by omega) ?_
      refine Ev.pos (by omega) ?_
      rw [rd4_nat l i hi, rd4_nat m i hi']
      refine Ev.bind (sl_int_ev _ _ (hr _ (List.getElem_mem _))) ?_
      by_cases e : l[i] = m[i]
      · refine Ev.pos (by simp [e]) ?_
        rw [w64 (by omega) (by omega), decide_eq_true e, Bool.true_and]
        exact hR
      · refine Ev.neg (by simp [e]) ?_
        rw [decide_eq_false e, Bool.false_and]
        exact Ev.now _
  · refine Ev.neg h ?_
    rw [ne_len h]
    exact Ev.now _
/-- Two relations are the same. -/
def sameRel (t s : Int) (ac : List Bool) (ns : List (List Int)) (t' s' : Int) (ac' : List Bool) (ns' : List (List Int)) : Bool := decide (t = t') && (decide (s = s') && (decide (ac = ac') && decide (ns = ns')))
theorem spec_SameRelation_ev (t s : Int) (ac : List Bool) (ns : List (List Int)) (t' s' : Int) (ac' : List Bool) (ns' : List (List Int)) (h : SzOK ac ns) : Ev (fun k => spec_SameRelation.f k t s ac ns t' s' ac' ns') (sameRel t s ac ns t' s' ac' ns') := by
  have hj : Ev (fun k => spec_SameRelation.j0 k true t s ac ns t' s' ac' ns') false := by
    apply Ev.succ
    simp only [spec_SameRelation.j0]
    exact Ev.pos (by first | rfl | trivial) (Ev.now _)
  unfold spec_SameRelation.f sameRel
  by_cases e1 : t = t'
  · rw [decide_eq_true e1, Bool.true_and]
    refine Ev.pos e1 ?_
    by_cases e2 : s = s'
    · rw [decide_eq_true e2, Bool.true_and]
      refine Ev.pos e2 ?_
      refine Ev.bind (spec_l01Bools_ev ac ac' (by have := h.1; omega)) ?_
      by_cases e3 : ac = ac'
      · rw [decide_eq_true e3, Bool.true_and]
        refine Ev.pos rfl ?_
        apply Ev.succ
        simp only [spec_SameRelation.j0]
        by_cases e4 : (ns.length : Int) = (ns'.length : Int)
        · refine Ev.neg (by simp [e4]) ?_
          refine eqLoop (fun k i => spec_SameRelation.l0 k i t s ac ns t' s' ac' ns') ns ns' (by omega) ?_ ?_ ns.length 0 (by omega)
          · apply Ev.succ
            simp only [spec_SameRelation.l0]
            exact Ev.neg (by omega) (Ev.now _)
          · intro i hi hi' R hR
            apply Ev.succ
            simp only [spec_SameRelation.l0]
            refine Ev.pos (by omega) ?_
            refine Ev.pos (by omega) ?_
            refine Ev.pos (by omega) ?_
            rw [rd4_nat ns i hi, rd4_nat ns' i hi']
            refine Ev.bind (spec_l00Same_ev _ _ (by have := h.2.2 _ (List.getElem_mem hi); omega)) ?_
            by_cases e : ns[i] = ns'[i]
            · refine Ev.pos (by simp [e]) ?_
              have := h.2.1
              rw [w64 (by omega) (by omega), decide_eq_true e, Bool.true_and]
              exact hR
            · refine Ev.neg (by simp [e]) ?_
              rw [decide_eq_false e, Bool.false_and]
              exact Ev.now _
        · rw [ne_len e4]
          exact Ev.pos (by simpa using e4) (Ev.now _)
      · rw [decide_eq_false e3, Bool.false_and]
        exact Ev.neg (by simp) hj
    · rw [decide_eq_false e2, Bool.false_and]
      exact Ev.neg e2 hj
  · rw [decide_eq_false e1, Bool.false_and]
    exact Ev.neg e1 hj
theorem impl_SameRelation_ev (t s : Int) (ac : List Bool) (ns : List (List Int)) (t' s' : Int) (ac' : List Bool) (ns' : List (List Int)) (h : SzOK ac ns) : Ev (fun k => impl_SameRelation.f k t s ac ns t' s' ac' ns') (sameRel t s ac ns t' s' ac' ns') := by
  unfold impl_SameRelation.f sameRel
  by_cases e1 : t = t'
  · rw [decide_eq_true e1, Bool.true_and]
    refine Ev.pos e1 ?_
    by_cases e2 : s = s'
    · rw [decide_eq_true e2, Bool.true_and]
      refine Ev.pos e2 ?_
      refine Ev.bind (sl_bool_ev ac ac' (by have := h.1; omega)) ?_
      by_cases e3 : ac = ac'
      · rw [decide_eq_true e3, Bool.true_and]
        refine Ev.pos rfl ?_
        exact eqfRows_ev ns ns' (by have := h.2.1; omega) (fun x hx => by have := h.2.2 x hx; omega)
      · rw [decide_eq_false e3, Bool.false_and]
        exact Ev.neg (by simp) (Ev.now _)
    · rw [decide_eq_false e2, Bool.false_and]
      exact Ev.neg e2 (Ev.now _)
  · rw [decide_eq_false e1, Bool.false_and]
    exact Ev.neg e1 (Ev.now _)

/-! SamePresentation -/
def all2 {α : Type} (e : α → α → Bool) : List α → List α → Bool
  | x :: l, y :: m => e x y && all2 e l m
  | _, _ => true
theorem eqLoop2 {α : Type} (e : α → α → Bool) (g : Nat → Int → Option Bool) (l m : List α) (hl : l.length = m.length) (hend : Ev (fun k => g k (l.length : Int)) true)
    (hstep : ∀ (i : Nat) (h : i < l.length) (h' : i < m.length) (R : Bool), Ev (fun k => g k ((i + 1 : Nat) : Int)) R → Ev (fun k => g k (i : Int)) (e l[i] m[i] && R)) (d : Nat) : ∀ i, i + d = l.length → Ev (fun k => g k (i : Int)) (all2 e (l.drop i) (m.drop i)) := by
  induction d with
  | zero =>
    intro i hi
    rw [List.drop_of_length_le (by omega), List.drop_of_length_le (by omega), show i = l.length by omega]
    exact hend
  | succ d ih =>
    intro i hi
    have := hstep i (by omega) (by omega) _ (ih (i + 1) (by omega))
    rw [List.drop_eq_getElem_cons (show i < l.length by omega), List.drop_eq_getElem_cons (show i < m.length by omega)]
    exact this
def same44 (x y : S44) : Bool := sameRel x.f0 x.f1 x.f2 x.f3 y.f0 y.f1 y.f2 y.f3
def samePres (t s : Int) (ac : List Bool) (ns : List (List Int)) (l : List S44) (t' s' : Int) (ac' : List Bool) (ns' : List (List Int)) (l' : List S44) : Bool := sameRel t s ac ns t' s' ac' ns' && (decide ((l.length : Int) = (l'.length : Int)) && all2 same44 l l')
theorem spec_SamePresentation_ev (t s : Int) (ac : List Bool) (ns : List (List Int)) (l : List S44) (t' s' : Int) (ac' : List Bool) (ns' : List (List Int)) (l' : List S44) (h : SzOK ac ns) (hl : SzT l) : Ev (fun k => spec_SamePresentation.f k t s ac ns l t' s' ac' ns' l') (samePres t s ac ns l t' s' ac' ns' l') := by
  have hj : Ev (fun k => spec_SamePresentation.j0 k true t s ac ns l t' s' ac' ns' l') false := by
    apply Ev.succ
    simp only [spec_SamePresentation.j0]
    exact Ev.pos (by first | rfl | trivial) (Ev.now _)
  unfold spec_SamePresentation.f samePres
  refine Ev.bind (spec_SameRelation_ev t s ac ns t' s' ac' ns' h) ?_
  by_cases c : sameRel t s ac ns t' s' ac' ns' = true
  · rw [c, Bool.true_and]
    refine Ev.pos rfl ?_
    apply Ev.succ
    simp only [spec_SamePresentation.j0]
    by_cases e4 : (l.length : Int) = (l'.length : Int)
    · refine Ev.neg (by simp [e4]) ?_
      rw [decide_eq_true e4, Bool.true_and]
      refine eqLoop2 same44 (fun k i => spec_SamePresentation.l0 k i t s ac ns l t' s' ac' ns' l') l l' (by omega) ?_ ?_ l.length 0 (by omega)
      · apply Ev.succ
        simp only [spec_SamePresentation.l0]
        exact Ev.neg (by omega) (Ev.now _)
      · intro i hi hi' R hR
        apply Ev.succ
        simp only [spec_SamePresentation.l0]
        refine Ev.pos (by omega) ?_
        refine Ev.pos (by omega) ?_
        refine Ev.pos (by omega) ?_
        rw [rd44_nat l i hi, rd44_nat l' i hi']
        refine Ev.bind (spec_SameRelation_ev _ _ _ _ _ _ _ _ (hl.2 _ (List.getElem_mem hi))) ?_
        have hn := hl.1
        rw [w64 (by omega) (by omega)]
        show Ev _ (same44 l[i] l'[i] && R)
        unfold same44
        by_cases e : sameRel l[i].f0 l[i].f1 l[i].f2 l[i].f3 l'[i].f0 l'[i].f1 l'[i].f2 l'[i].f3 = true
        · rw [e, Bool.true_and]
          exact Ev.pos rfl hR
        · rw [Bool.not_eq_true] at e
          rw [e, Bool.false_and]
          exact Ev.neg (by simp) (Ev.now _)
    · rw [decide_eq_false e4, Bool.false_and]
      exact Ev.pos (by simpa using e4) (Ev.now _)
  · rw [Bool.not_eq_true] at c
    rw [c, Bool.false_and]
    exact Ev.neg (by simp) hj
theorem impl_SamePresentation_ev (t s : Int) (ac : List Bool) (ns : List (List Int)) (l : List S44) (t' s' : Int) (ac' : List Bool) (ns' : List (List Int)) (l' : List S44) (h : SzOK ac ns) (hl : SzT l) : Ev (fun k => impl_SamePresentation.f k t s ac ns l t' s' ac' ns' l') (samePres t s ac ns l t' s' ac' ns' l') := by
  unfold impl_SamePresentation.f samePres
  refine Ev.bind (impl_SameRelation_ev t s ac ns t' s' ac' ns' h) ?_
  by_cases c : sameRel t s ac ns t' s' ac' ns' = true
  · rw [c, Bool.true_and]
    refine Ev.pos rfl ?_
    unfold eqfRels.f
    by_cases e4 : (l.length : Int) = (l'.length : Int)
    · refine Ev.pos e4 ?_
      rw [decide_eq_true e4, Bool.true_and]
      refine eqLoop2 same44 (fun k i => eqfRels.l0 k l l' i) l l' (by omega) ?_ ?_ l.length 0 (by omega)
      · apply Ev.succ
        simp only [eqfRels.l0]
        exact Ev.neg (by omega) (Ev.now _)
      · intro i hi hi' R hR
        apply Ev.succ
        simp only [eqfRels.l0]
        refine Ev.pos (by omega) ?_
        refine Ev.pos (by omega) ?_
        refine Ev.pos (by omega) ?_
        rw [rd44_nat l i hi, rd44_nat l' i hi']
        refine Ev.bind (impl_SameRelation_ev _ _ _ _ _ _ _ _ (hl.2 _ (List.getElem_mem hi))) ?_
        have hn := hl.1
        rw [w64 (by omega) (by omega)]
        show Ev _ (same44 l[i] l'[i] && R)
        unfold same44
        by_cases e : sameRel l[i].f0 l[i].f1 l[i].f2 l[i].f3 l'[i].f0 l'[i].f1 l'[i].f2 l'[i].f3 = true
        · rw [e, Bool.true_and]
          exact Ev.pos rfl hR
        · rw [Bool.not_eq_true] at e
          rw [e, Bool.false_and]
          exact Ev.neg (by simp) (Ev.now _)
    · rw [decide_eq_false e4, Bool.false_and]
      exact Ev.neg e4 (Ev.now _)
  · rw [Bool.not_eq_true] at c
    rw [c, Bool.false_and]
    exact Ev.neg (by simp) (Ev.now _)
theorem FnExactSamePresentation (t s : Int) (ac : List Bool) (ns : List (List Int)) (l : List S41) (t' s' : Int) (ac' : List Bool) (ns' : List (List Int)) (l' : List S41) (h2 : ac.length ≤ 9223372036854775807) (h3 : ns.length ≤ 9223372036854775807) (hr : ∀ x ∈ ns, x.length ≤ 9223372036854775807) (h4 : l.length ≤ 9223372036854775807) (hl : ∀ x ∈ l, BdOK x) (h2' : ac'.length ≤ 9223372036854775807) (h3' : ns'.length ≤ 9223372036854775807) (hr' : ∀ x ∈ ns', x.length ≤ 9223372036854775807) (h4' : l'.length ≤ 9223372036854775807) (hl' : ∀ x ∈ l', BdOK x) : ∃ k, laws_FnExactSamePresentation.f k t s ac ns l t' s' ac' ns' l' = some true := by
  apply Ev.rounds
  unfold laws_FnExactSamePresentation.f
  obtain ⟨n, e1, e2, e3⟩ := szPresentation_ev t s ac ns l 1048576 (by omega) h2 h3 hr h4 hl
  refine Ev.bind e1 ?_
  by_cases hn : n < 0
  · exact Ev.pos hn (Ev.now _)
  · obtain ⟨hz, hy⟩ := e3 (by omega)
    refine Ev.neg hn ?_
    obtain ⟨n, rfl⟩ : ∃ m : Nat, n = m := ⟨n.toNat, by omega⟩
    obtain ⟨n', f1, f2, f3⟩ := szPresentation_ev t' s' ac' ns' l' n (by omega) h2' h3' hr' h4' hl'
    refine Ev.bind f1 ?_
    by_cases hn' : n' < 0
    · exact Ev.pos hn' (Ev.now _)
    · obtain ⟨hz', hy'⟩ := f3 (by omega)
      refine Ev.neg hn' ?_
      refine Ev.bind (toPresentation_ev t s ac ns l hz hy) ?_
      refine Ev.bind (toPresentation_ev t' s' ac' ns' l' hz' hy') ?_
      refine Ev.bind (spec_SamePresentation_ev t s ac ns (l.map conv) t' s' ac' ns' (l'.map conv) hz hy.conv) ?_
      refine Ev.bind (toPresentation_ev t s ac ns l hz hy) ?_
      refine Ev.bind (toPresentation_ev t' s' ac' ns' l' hz' hy') ?_
      refine Ev.bind (impl_SamePresentation_ev t s ac ns (l.map conv) t' s' ac' ns' (l'.map conv) hz hy.conv) ?_
      refine Ev.neg (by simp) ?_
      refine Ev.bind (toPresentation_ev t s ac ns l hz hy) ?_
      refine Ev.bind (eqPresentation_ev t s ac ns (l.map conv) hz hy.conv) ?_
      refine Ev.pos rfl ?_
      refine Ev.bind (toPresentation_ev t' s' ac' ns' l' hz' hy') ?_
      refine Ev.bind (eqPresentation_ev t' s' ac' ns' (l'.map conv) hz' hy'.conv) ?_
      exact Ev.pos rfl (Ev.now _)

end Go.Proofs.Ytbbkhkipnkejmaa.Pure
