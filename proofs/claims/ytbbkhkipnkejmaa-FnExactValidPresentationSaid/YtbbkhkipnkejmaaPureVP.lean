/- Plain law, by this claim's author. -/
import Derived.Test.YtbbkhkipnkejmaaXx84
namespace Go.Proofs.Ytbbkhkipnkejmaa.Pure
open Go.RowKit Go.Proofs.Ytbbkhkipnkejmaa.X Go.Proofs.YtbbkhkipnkejmaaW.PrintWords Go.Proofs.YtbbkhkipnkejmaaW.PrintLast
set_option linter.unusedVariables false
set_option linter.unusedSimpArgs false

theorem Ev.succ {α : Type} {g : Nat → Option α} {r : α} (h : Ev (fun k => g (k + 1)) r) : Ev g r := Ev.step (fun _ => rfl) h
theorem Ev.const {α : Type} {o : Option α} {r : α} (h : o = some r) : Ev (fun _ => o) r := ⟨0, fun _ _ => h⟩
theorem w64 {n : Int} (h0 : -9223372036854775808 ≤ n) (h1 : n ≤ 9223372036854775807) : wrap64 n = n := by
  unfold wrap64; omega
theorem rd_nat (xs : List Int) (i : Nat) (h : i < xs.length) : rd xs (i : Int) = xs[i] := by
  simp [rd, List.getD_eq_getElem?_getD, h]
theorem rdOf_nat {α : Type} (d : α) (xs : List α) (i : Nat) (h : i < xs.length) : rdOf d xs (i : Int) = xs[i] := by
  simp [rdOf, List.getD_eq_getElem?_getD, h]
theorem set_take {α : Type} (l ys : List α) (i : Nat) (x : α) (hx : l[i]? = some x) (hl : ys.length = l.length) (h : ys.take i = l.take i) : (ys.set i x).take (i + 1) = l.take (i + 1) := by
  have hi : i < l.length := (List.getElem?_eq_some_iff.1 hx).1
  apply List.ext_getElem?
  intro j
  have hj := congrArg (fun z => z[j]?) h
  simp only [List.getElem?_take] at hj ⊢
  rw [List.getElem?_set]
  by_cases h1 : j < i + 1
  · by_cases h2 : i = j
    · subst h2
      simp only [h1, if_true]
      rw [if_pos (by omega)]
      exact hx.symm
    · have h3 : j < i := by omega
      simp only [h1, if_true, h2, if_false, h3] at hj ⊢
      exact hj
  · simp [h1]
theorem Ev.pos {α : Type} {c : Prop} [Decidable c] {f g : Nat → Option α} {r : α} (h : c) (k : Ev f r) : Ev (fun n => if c then f n else g n) r := by
  obtain ⟨K, k⟩ := k
  exact ⟨K, fun n hn => (if_pos h).trans (k n hn)⟩
theorem Ev.neg {α : Type} {c : Prop} [Decidable c] {f g : Nat → Option α} {r : α} (h : ¬ c) (k : Ev g r) : Ev (fun n => if c then f n else g n) r := by
  obtain ⟨K, k⟩ := k
  exact ⟨K, fun n hn => (if_neg h).trans (k n hn)⟩

/-! toInt64S, eqInt64S, markInt64S -/
theorem toInt64S_l (l : List Int) (hn : l.length ≤ 35184372088832) (d : Nat) : ∀ (i : Nat) (ys : List Int), i + d = l.length → ys.length = l.length → ys.take i = l.take i → Ev (fun k => laws_toInt64S.l0 k l ys (i : Int)) l := by
  induction d with
  | zero =>
    intro i ys hi hl ht
    apply Ev.succ
    simp only [laws_toInt64S.l0]
    refine Ev.neg (by omega) ?_
    refine Ev.const ?_
    rw [List.take_of_length_le (by omega), List.take_of_length_le (by omega)] at ht
    rw [ht]
  | succ d ih =>
    intro i ys hi hl ht
    apply Ev.succ
    simp only [laws_toInt64S.l0]
    refine Ev.pos (by omega) ?_
    refine Ev.pos (by omega) ?_
    refine Ev.pos (by omega) ?_
    rw [w64 (by omega) (by omega), Int.toNat_natCast]
    have := ih (i + 1) (ys.set i (rd l i)) (by omega) (by simp [hl]) (set_take l ys i _ (by rw [rd_nat l i (by omega)]; exact List.getElem?_eq_getElem (by omega)) hl ht)
    exact this
theorem toInt64S_ev (l : List Int) (hn : l.length ≤ 35184372088832) : Ev (fun k => laws_toInt64S.f k l) l := by
  unfold laws_toInt64S.f
  simp only [Int.toNat_natCast]
  refine Ev.pos (by omega) ?_
  refine Ev.pos hn ?_
  exact toInt64S_l l hn l.length 0 _ (by omega) (by simp) (by simp)
theorem eqInt64S_l (l : List Int) (hn : l.length ≤ 35184372088832) (d : Nat) : ∀ (i : Nat), i + d = l.length → Ev (fun k => laws_eqInt64S.l0 k l l (i : Int)) true := by
  induction d with
  | zero =>
    intro i hi
    apply Ev.succ
    simp only [laws_eqInt64S.l0]
    refine Ev.neg (by omega) ?_
    exact Ev.const rfl
  | succ d ih =>
    intro i hi
    apply Ev.succ
    simp only [laws_eqInt64S.l0]
    refine Ev.pos (by omega) ?_
    refine Ev.pos (by omega) ?_
    refine Ev.pos (by omega) ?_
    refine Ev.pos trivial ?_
    rw [w64 (by omega) (by omega)]
    exact ih (i + 1) (by omega)
theorem eqInt64S_ev (l : List Int) (hn : l.length ≤ 35184372088832) : Ev (fun k => laws_eqInt64S.f k l l) true := by
  unfold laws_eqInt64S.f
  refine Ev.pos rfl ?_
  exact eqInt64S_l l hn l.length 0 (by omega)

/-! toBoolS, eqBoolS, toInt64SS, eqInt64SS, szRelation, toRelation, eqRelation -/
theorem rd4_nat (xs : List (List Int)) (i : Nat) (h : i < xs.length) : rd_L4 xs (i : Int) = xs[i] := by
  simp [rd_L4, List.getD_eq_getElem?_getD, h]
theorem toBoolS_l (l : List Bool) (hn : l.length ≤ 35184372088832) (d : Nat) : ∀ (i : Nat) (ys : List Bool), i + d = l.length → ys.length = l.length → ys.take i = l.take i → Ev (fun k => laws_toBoolS.l0 k l ys (i : Int)) l := by
  induction d with
  | zero =>
    intro i ys hi hl ht
    apply Ev.succ
    simp only [laws_toBoolS.l0]
    refine Ev.neg (by omega) ?_
    refine Ev.const ?_
    rw [List.take_of_length_le (by omega), List.take_of_length_le (by omega)] at ht
    rw [ht]
  | succ d ih =>
    intro i ys hi hl ht
    apply Ev.succ
    simp only [laws_toBoolS.l0]
    refine Ev.pos (by omega) ?_
    refine Ev.pos (by omega) ?_
    refine Ev.pos (by omega) ?_
    rw [w64 (by omega) (by omega), Int.toNat_natCast]
    have := ih (i + 1) (ys.set i (rdOf false l i)) (by omega) (by simp [hl]) (set_take l ys i _ (by rw [rdOf_nat false l i (by omega)]; exact List.getElem?_eq_getElem (by omega)) hl ht)
    exact this
theorem toBoolS_ev (l : List Bool) (hn : l.length ≤ 35184372088832) : Ev (fun k => laws_toBoolS.f k l) l := by
  unfold laws_toBoolS.f
  simp only [Int.toNat_natCast]
  refine Ev.pos (by omega) ?_
  refine Ev.pos (by omega) ?_
  exact toBoolS_l l hn l.length 0 _ (by omega) (by simp) (by simp)
theorem toInt64SS_l (l : List (List Int)) (hn : l.length ≤ 35184372088832) (hr : ∀ x ∈ l, x.length ≤ 35184372088832) (d : Nat) : ∀ (i : Nat) (ys : List (List Int)), i + d = l.length → ys.length = l.length → ys.take i = l.take i → Ev (fun k => laws_toInt64SS.l0 k l ys (i : Int)) l := by
  induction d with
  | zero =>
    intro i ys hi hl ht
    apply Ev.succ
    simp only [laws_toInt64SS.l0]
    refine Ev.neg (by omega) ?_
    refine Ev.const ?_
    rw [List.take_of_length_le (by omega), List.take_of_length_le (by omega)] at ht
    rw [ht]
  | succ d ih =>
    intro i ys hi hl ht
    apply Ev.succ
    simp only [laws_toInt64SS.l0]
    refine Ev.pos (by omega) ?_
    refine Ev.pos (by omega) ?_
    rw [rd4_nat l i (by omega)]
    refine Ev.bind (toInt64S_ev _ (hr _ (List.getElem_mem _))) ?_
    refine Ev.pos (by omega) ?_
    rw [w64 (by omega) (by omega), Int.toNat_natCast]
    exact ih (i + 1) (ys.set i l[i]) (by omega) (by simp [hl]) (set_take l ys i _ (List.getElem?_eq_getElem (by omega)) hl ht)
theorem toInt64SS_ev (l : List (List Int)) (hn : l.length ≤ 11728124029610) (hr : ∀ x ∈ l, x.length ≤ 35184372088832) : Ev (fun k => laws_toInt64SS.f k l) l := by
  unfold laws_toInt64SS.f
  simp only [Int.toNat_natCast]
  refine Ev.pos (by omega) ?_
  refine Ev.pos (by omega) ?_
  exact toInt64SS_l l (by omega) hr l.length 0 _ (by omega) (by simp) (by simp)
theorem eqBoolS_l (l : List Bool) (hn : l.length ≤ 35184372088832) (d : Nat) : ∀ (i : Nat), i + d = l.length → Ev (fun k => laws_eqBoolS.l0 k l l (i : Int)) true := by
  induction d with
  | zero =>
    intro i hi
    apply Ev.succ
    simp only [laws_eqBoolS.l0]
    refine Ev.neg (by omega) ?_
    exact Ev.const rfl
  | succ d ih =>
    intro i hi
    apply Ev.succ
    simp only [laws_eqBoolS.l0]
    refine Ev.pos (by omega) ?_
    refine Ev.pos (by omega) ?_
    refine Ev.pos (by omega) ?_
    refine Ev.neg (by simp) ?_
    rw [w64 (by omega) (by omega)]
    exact ih (i + 1) (by omega)
theorem eqBoolS_ev (l : List Bool) (hn : l.length ≤ 35184372088832) : Ev (fun k => laws_eqBoolS.f k l l) true := by
  unfold laws_eqBoolS.f
  refine Ev.pos rfl ?_
  exact eqBoolS_l l hn l.length 0 (by omega)
theorem eqInt64SS_l (l : List (List Int)) (hn : l.length ≤ 35184372088832) (hr : ∀ x ∈ l, x.length ≤ 35184372088832) (d : Nat) : ∀ (i : Nat), i + d = l.length → Ev (fun k => laws_eqInt64SS.l0 k l l (i : Int)) true := by
  induction d with
  | zero =>
    intro i hi
    apply Ev.succ
    simp only [laws_eqInt64SS.l0]
    refine Ev.neg (by omega) ?_
    exact Ev.const rfl
  | succ d ih =>
    intro i hi
    apply Ev.succ
    simp only [laws_eqInt64SS.l0]
    refine Ev.pos (by omega) ?_
    refine Ev.pos (by omega) ?_
    refine Ev.pos (by omega) ?_
    rw [rd4_nat l i (by omega)]
    refine Ev.bind (eqInt64S_ev _ (hr _ (List.getElem_mem _))) ?_
    refine Ev.pos rfl ?_
    rw [w64 (by omega) (by omega)]
    exact ih (i + 1) (by omega)
theorem eqInt64SS_ev (l : List (List Int)) (hn : l.length ≤ 35184372088832) (hr : ∀ x ∈ l, x.length ≤ 35184372088832) : Ev (fun k => laws_eqInt64SS.f k l l) true := by
  unfold laws_eqInt64SS.f
  refine Ev.pos rfl ?_
  exact eqInt64SS_l l hn hr l.length 0 (by omega)
theorem szInt64SS_l (l : List (List Int)) (hn : l.length ≤ 9223372036854775806) (hr : ∀ x ∈ l, x.length ≤ 9223372036854775807) (d : Nat) : ∀ (i a : Nat), i + d = l.length → a ≤ 1048576 →
    ∃ n : Int, Ev (fun k => laws_szInt64SS.l0 k l (a : Int) (i : Int)) n ∧ n ≤ 1048576 ∧ (0 ≤ n → ∀ j, i ≤ j → ∀ x, l[j]? = some x → x.length ≤ 1048576) := by
  induction d with
  | zero =>
    intro i a hi ha
    refine ⟨a, ?_, by omega, fun _ j hj x hx => ?_⟩
    · apply Ev.succ
      simp only [laws_szInt64SS.l0]
      refine Ev.neg (by omega) ?_
      exact Ev.const rfl
    · have := (List.getElem?_eq_some_iff.1 hx).1
      omega
  | succ d ih =>
    intro i a hi ha
    have hx := hr _ (List.getElem_mem (show i < l.length by omega))
    by_cases c : l[i].length ≤ a
    · obtain ⟨n, h1, h2, h3⟩ := ih (i + 1) (a - l[i].length) (by omega) (by omega)
      refine ⟨n, ?_, h2, fun h0 j hj x hjx => ?_⟩
      · apply Ev.succ
        simp only [laws_szInt64SS.l0]
        refine Ev.pos (by omega) ?_
        refine Ev.pos (by omega) ?_
        rw [rd4_nat l i (by omega)]
        refine Ev.bind (a := ((a - l[i].length : Nat) : Int)) ?_ ?_
        · unfold laws_szInt64S.f
          rw [w64 (by omega) (by omega)]
          refine Ev.neg (by omega) ?_
          exact Ev.const (by congr 1; omega)
        · refine Ev.neg (by omega) ?_
          rw [w64 (by omega) (by omega)]
          exact h1
      · by_cases e : i = j
        · subst e
          rw [List.getElem?_eq_getElem (by omega)] at hjx
          injection hjx with hjx
          subst hjx
          omega
        · exact h3 h0 j (by omega) x hjx
    · refine ⟨-1, ?_, by omega, fun h0 => by omega⟩
      apply Ev.succ
      simp only [laws_szInt64SS.l0]
      refine Ev.pos (by omega) ?_
      refine Ev.pos (by omega) ?_
      rw [rd4_nat l i (by omega)]
      refine Ev.bind (a := -1) ?_ ?_
      · unfold laws_szInt64S.f
        rw [w64 (by omega) (by omega)]
        exact Ev.pos (by omega) (Ev.const rfl)
      · exact Ev.pos (by omega) (Ev.const rfl)
/-- What a relation's size says: it is not negative only if its rows are short. -/
def SzOK (ac : List Bool) (ns : List (List Int)) : Prop := ac.length ≤ 1048576 ∧ ns.length ≤ 1048576 ∧ ∀ x ∈ ns, x.length ≤ 1048576
theorem szRelation_ev (t s : Int) (ac : List Bool) (ns : List (List Int)) (a : Nat) (ha : a ≤ 1048576) (h2 : ac.length ≤ 9223372036854775807) (h3 : ns.length ≤ 9223372036854775807) (hr : ∀ x ∈ ns, x.length ≤ 9223372036854775807) :
    ∃ n : Int, Ev (fun k => laws_szRelation.f k t s ac ns (a : Int)) n ∧ n ≤ 1048576 ∧ (0 ≤ n → SzOK ac ns) := by
  unfold laws_szRelation.f
  by_cases c : ac.length ≤ a
  · by_cases c2 : ns.length ≤ a - ac.length
    · obtain ⟨n, e1, e2, e3⟩ := szInt64SS_l ns (by omega) hr ns.length 0 (a - ac.length - ns.length) (by omega) (by omega)
      refine ⟨if n < 0 then -1 else n, ?_, by split <;> omega, fun h0 => ⟨by omega, by omega, fun x hx => ?_⟩⟩
      · refine Ev.bind (a := ((a - ac.length : Nat) : Int)) ?_ ?_
        · unfold laws_szBoolS.f
          rw [w64 (by omega) (by omega)]
          refine Ev.neg (by omega) ?_
          exact Ev.const (by congr 1; omega)
        · refine Ev.neg (by omega) ?_
          refine Ev.bind (a := n) ?_ ?_
          · unfold laws_szInt64SS.f
            rw [w64 (by omega) (by omega)]
            refine Ev.neg (by omega) ?_
            rw [show ((a - ac.length : Nat) : Int) - (ns.length : Int) = ((a - ac.length - ns.length : Nat) : Int) by omega]
            exact e1
          · by_cases hn : n < 0
            · simp only [if_pos hn]
              exact Ev.now _
            · simp only [if_neg hn]
              exact Ev.now _
      · have hn : 0 ≤ n := by
          by_cases hn : n < 0
          · rw [if_pos hn] at h0
            omega
          · omega
        obtain ⟨j, hj⟩ := List.mem_iff_getElem?.1 hx
        exact e3 hn j (by omega) x hj
    · refine ⟨-1, ?_, by omega, fun h0 => by omega⟩
      refine Ev.bind (a := ((a - ac.length : Nat) : Int)) ?_ ?_
      · unfold laws_szBoolS.f
        rw [w64 (by omega) (by omega)]
        refine Ev.neg (by omega) ?_
        exact Ev.const (by congr 1; omega)
      · refine Ev.neg (by omega) ?_
        refine Ev.bind (a := -1) ?_ ?_
        · unfold laws_szInt64SS.f
          rw [w64 (by omega) (by omega)]
          exact Ev.pos (by omega) (Ev.const rfl)
        · exact Ev.pos (by omega) (Ev.const rfl)
  · refine ⟨-1, ?_, by omega, fun h0 => by omega⟩
    refine Ev.bind (a := -1) ?_ ?_
    · unfold laws_szBoolS.f
      rw [w64 (by omega) (by omega)]
      exact Ev.pos (by omega) (Ev.const rfl)
    · exact Ev.pos (by omega) (Ev.const rfl)
theorem toRelation_ev (t s : Int) (ac : List Bool) (ns : List (List Int)) (h : SzOK ac ns) : Ev (fun k => laws_toRelation.f k t s ac ns) (t, s, ac, ns) := by
  unfold laws_toRelation.f
  refine Ev.bind (toBoolS_ev ac (by have := h.1; omega)) ?_
  refine Ev.bind (toInt64SS_ev ns (by have := h.2.1; omega) (fun x hx => by have := h.2.2 x hx; omega)) ?_
  exact Ev.now _
theorem eqRelation_ev (t s : Int) (ac : List Bool) (ns : List (List Int)) (h : SzOK ac ns) : Ev (fun k => laws_eqRelation.f k t s ac ns t s ac ns) true := by
  unfold laws_eqRelation.f
  refine Ev.pos rfl ?_
  refine Ev.pos rfl ?_
  refine Ev.bind (eqBoolS_ev ac (by have := h.1; omega)) ?_
  refine Ev.pos rfl ?_
  refine Ev.bind (eqInt64SS_ev ns (by have := h.2.1; omega) (fun x hx => by have := h.2.2 x hx; omega)) ?_
  exact Ev.pos rfl (Ev.now _)

/-! szPresentation, toPresentation, eqPresentation -/
theorem rd41_nat (xs : List S41) (i : Nat) (h : i < xs.length) : rd_T41 xs (i : Int) = xs[i] := by
  simp [rd_T41, List.getD_eq_getElem?_getD, h]
theorem rd44_nat (xs : List S44) (i : Nat) (h : i < xs.length) : rd_T44 xs (i : Int) = xs[i] := by
  simp [rd_T44, List.getD_eq_getElem?_getD, h]
def conv (x : S41) : S44 := ⟨x.f0, x.f1, x.f2, x.f3⟩
def BdOK (x : S41) : Prop := x.f2.length ≤ 9223372036854775807 ∧ x.f3.length ≤ 9223372036854775807 ∧ ∀ y ∈ x.f3, y.length ≤ 9223372036854775807
def SzS (l : List S41) : Prop := l.length ≤ 1048576 ∧ ∀ x ∈ l, SzOK x.f2 x.f3
theorem szRelationS_l (l : List S41) (hn : l.length ≤ 9223372036854775806) (hr : ∀ x ∈ l, BdOK x) (d : Nat) : ∀ (i a : Nat), i + d = l.length → a ≤ 1048576 →
    ∃ n : Int, Ev (fun k => laws_szRelationS.l0 k l (a : Int) (i : Int)) n ∧ n ≤ 1048576 ∧ (0 ≤ n → ∀ j, i ≤ j → ∀ x, l[j]? = some x → SzOK x.f2 x.f3) := by
  induction d with
  | zero =>
    intro i a hi ha
    refine ⟨a, ?_, by omega, fun _ j hj x hx => ?_⟩
    · apply Ev.succ
      simp only [laws_szRelationS.l0]
      refine Ev.neg (by omega) ?_
      exact Ev.const rfl
    · have := (List.getElem?_eq_some_iff.1 hx).1
      omega
  | succ d ih =>
    intro i a hi ha
    obtain ⟨b2, b3, br⟩ := hr _ (List.getElem_mem (show i < l.length by omega))
    obtain ⟨n, e1, e2, e3⟩ := szRelation_ev l[i].f0 l[i].f1 l[i].f2 l[i].f3 a ha b2 b3 br
    by_cases c : n < 0
    · refine ⟨-1, ?_, by omega, fun h0 => by omega⟩
      apply Ev.succ
      simp only [laws_szRelationS.l0]
      refine Ev.pos (by omega) ?_
      refine Ev.pos (by omega) ?_
      rw [rd41_nat l i (by omega)]
      refine Ev.bind e1 ?_
      exact Ev.pos c (Ev.now _)
    · obtain ⟨m, rfl⟩ : ∃ m : Nat, n = m := ⟨n.toNat, by omega⟩
      obtain ⟨q, h1, h2, h3⟩ := ih (i + 1) m (by omega) (by omega)
      refine ⟨q, ?_, h2, fun h0 j hj x hjx => ?_⟩
      · apply Ev.succ
        simp only [laws_szRelationS.l0]
        refine Ev.pos (by omega) ?_
        refine Ev.pos (by omega) ?_
        rw [rd41_nat l i (by omega)]
        refine Ev.bind e1 ?_
        refine Ev.neg c ?_
        rw [w64 (by omega) (by omega)]
        exact h1
      · by_cases e : i = j
        · subst e
          rw [List.getElem?_eq_getElem (by omega)] at hjx
          injection hjx with hjx
          subst hjx
          exact e3 (by omega)
        · exact h3 h0 j (by omega) x hjx
theorem szPresentation_ev (t s : Int) (ac : List Bool) (ns : List (List Int)) (l : List S41) (a : Nat) (ha : a ≤ 1048576) (h2 : ac.length ≤ 9223372036854775807) (h3 : ns.length ≤ 9223372036854775807) (hr : ∀ x ∈ ns, x.length ≤ 9223372036854775807) (h4 : l.length ≤ 9223372036854775807) (hl : ∀ x ∈ l, BdOK x) :
    ∃ n : Int, Ev (fun k => laws_szPresentation.f k t s ac ns l (a : Int)) n ∧ n ≤ 1048576 ∧ (0 ≤ n → SzOK ac ns ∧ SzS l) := by
  unfold laws_szPresentation.f
  obtain ⟨n, e1, e2, e3⟩ := szRelation_ev t s ac ns a ha h2 h3 hr
  by_cases c : n < 0
  · exact ⟨-1, Ev.bind e1 (Ev.pos c (Ev.now _)), by omega, fun h => by omega⟩
  · obtain ⟨m, rfl⟩ : ∃ m : Nat, n = m := ⟨n.toNat, by omega⟩
    by_cases c2 : l.length ≤ m
    · obtain ⟨q, f1, f2, f3⟩ := szRelationS_l l (by omega) hl l.length 0 (m - l.length) (by omega) (by omega)
      refine ⟨if q < 0 then -1 else q, ?_, by split <;> omega, fun h0 => ⟨e3 (by omega), by omega, fun x hx => ?_⟩⟩
      · refine Ev.bind e1 (Ev.neg c ?_)
        refine Ev.bind (a := q) ?_ ?_
        · unfold laws_szRelationS.f
          rw [w64 (by omega) (by omega)]
          refine Ev.neg (by omega) ?_
          rw [show (m : Int) - (l.length : Int) = ((m - l.length : Nat) : Int) by omega]
          exact f1
        · by_cases hn : q < 0
          · simp only [if_pos hn]
            exact Ev.now _
          · simp only [if_neg hn]
            exact Ev.now _
      · have hn : 0 ≤ q := by
          by_cases hn : q < 0
          · rw [if_pos hn] at h0
            omega
          · omega
        obtain ⟨j, hj⟩ := List.mem_iff_getElem?.1 hx
        exact f3 hn j (by omega) x hj
    · refine ⟨-1, Ev.bind e1 (Ev.neg c (Ev.bind (a := -1) ?_ (Ev.pos (by omega) (Ev.now _)))), by omega, fun h => by omega⟩
      unfold laws_szRelationS.f
      rw [w64 (by omega) (by omega)]
      exact Ev.pos (by omega) (Ev.now _)
theorem toRelationS_l (l : List S41) (h : SzS l) (d : Nat) : ∀ (i : Nat) (ys : List S44), i + d = l.length → ys.length = l.length → ys.take i = (l.map conv).take i → Ev (fun k => laws_toRelationS.l0 k l ys (i : Int)) (l.map conv) := by
  have hn := h.1
  induction d with
  | zero =>
    intro i ys hi hl ht
    apply Ev.succ
    simp only [laws_toRelationS.l0]
    refine Ev.neg (by omega) ?_
    refine Ev.const ?_
    rw [List.take_of_length_le (by omega), List.take_of_length_le (by simp; omega)] at ht
    rw [ht]
  | succ d ih =>
    intro i ys hi hl ht
    apply Ev.succ
    simp only [laws_toRelationS.l0]
    refine Ev.pos (by omega) ?_
    refine Ev.pos (by omega) ?_
    rw [rd41_nat l i (by omega)]
    refine Ev.bind (toRelation_ev _ _ _ _ (h.2 _ (List.getElem_mem (show i < l.length by omega)))) ?_
    refine Ev.pos (by omega) ?_
    rw [w64 (by omega) (by omega), Int.toNat_natCast]
    exact ih (i + 1) (ys.set i (conv l[i])) (by omega) (by simp [hl]) (set_take (l.map conv) ys i _ (by simp [show i < l.length by omega]) (by simp [hl]) ht)
theorem toPresentation_ev (t s : Int) (ac : List Bool) (ns : List (List Int)) (l : List S41) (h : SzOK ac ns) (hl : SzS l) : Ev (fun k => laws_toPresentation.f k t s ac ns l) (t, s, ac, ns, l.map conv) := by
  unfold laws_toPresentation.f
  refine Ev.bind (toRelation_ev t s ac ns h) ?_
  refine Ev.bind (a := l.map conv) ?_ (Ev.now _)
  unfold laws_toRelationS.f
  have := hl.1
  simp only [Int.toNat_natCast]
  refine Ev.pos (by omega) ?_
  refine Ev.pos (by omega) ?_
  exact toRelationS_l l hl l.length 0 _ (by omega) (by simp) (by simp)
/-- The same of the converted list. -/
def SzT (l : List S44) : Prop := l.length ≤ 1048576 ∧ ∀ x ∈ l, SzOK x.f2 x.f3
theorem SzS.conv {l : List S41} (h : SzS l) : SzT (l.map conv) := ⟨by simpa using h.1, fun x hx => by
  obtain ⟨y, hy, rfl⟩ := List.mem_map.1 hx
  exact h.2 y hy⟩
theorem eqRelationS_l (l : List S44) (h : SzT l) (d : Nat) : ∀ (i : Nat), i + d = l.length → Ev (fun k => laws_eqRelationS.l0 k l l (i : Int)) true := by
  have hn := h.1
  induction d with
  | zero =>
    intro i hi
    apply Ev.succ
    simp only [laws_eqRelationS.l0]
    refine Ev.neg (by omega) ?_
    exact Ev.const rfl
  | succ d ih =>
    intro i hi
    apply Ev.succ
    simp only [laws_eqRelationS.l0]
    refine Ev.pos (by omega) ?_
    refine Ev.pos (by omega) ?_
    refine Ev.pos (by omega) ?_
    rw [rd44_nat l i (by omega)]
    refine Ev.bind (eqRelation_ev _ _ _ _ (h.2 _ (List.getElem_mem (show i < l.length by omega)))) ?_
    refine Ev.pos rfl ?_
    rw [w64 (by omega) (by omega)]
    exact ih (i + 1) (by omega)
theorem eqPresentation_ev (t s : Int) (ac : List Bool) (ns : List (List Int)) (l : List S44) (h : SzOK ac ns) (hl : SzT l) : Ev (fun k => laws_eqPresentation.f k t s ac ns l t s ac ns l) true := by
  unfold laws_eqPresentation.f
  refine Ev.bind (eqRelation_ev t s ac ns h) ?_
  refine Ev.pos rfl ?_
  refine Ev.bind (a := true) ?_ (Ev.pos rfl (Ev.now _))
  unfold laws_eqRelationS.f
  refine Ev.pos rfl ?_
  exact eqRelationS_l l hl l.length 0 (by omega)

/-! ValidRelation -/
theorem in_eq (a b c : Int) : spec_l00In.f a b c = some (decide (b ≤ a) && decide (a ≤ c)) := by
  unfold spec_l00In.f
  by_cases h : a ≥ b
  · rw [if_pos h]; simp [h]
  · rw [if_neg h]; simp [show ¬ b ≤ a from h]
theorem within_eq (a b c : Int) : impl_within.f a b c = some (decide (b ≤ a) && decide (a ≤ c)) := by
  unfold impl_within.f
  by_cases h : b ≤ a
  · rw [if_pos h]; simp [h]
  · rw [if_neg h]; simp [h]
theorem areTapes_eq (a : Int) : impl_areTapes.f a = some (decide (1 ≤ a) && decide (a ≤ 3)) := by
  unfold impl_areTapes.f
  rw [within_eq]
  rfl
def wd (n : Nat) : Nat := if n = 0 then 0 else if n = 1 then 2 else if n = 2 then 8 else 26
theorem wideS_fin : ∀ n : Fin 4, spec_l01Wide.f 10 (n.val : Int) = some ((wd n.val : Nat) : Int) := by decide +kernel
theorem wideI_fin : ∀ n : Fin 4, impl_widthOf.f 10 (n.val : Int) = some ((wd n.val : Nat) : Int) := by decide +kernel
theorem wideS_ev (n : Nat) (h : n ≤ 3) : Ev (fun k => spec_l01Wide.f k (n : Int)) ((wd n : Nat) : Int) := Ev.of (fun k => spec_l01Wide.mono _ k) (wideS_fin ⟨n, by omega⟩)
theorem wideI_ev (n : Nat) (h : n ≤ 3) : Ev (fun k => impl_widthOf.f k (n : Int)) ((wd n : Nat) : Int) := Ev.of (fun k => impl_widthOf.mono _ k) (wideI_fin ⟨n, by omega⟩)
theorem wd_le (n : Nat) (h : n ≤ 3) : wd n ≤ 26 := by
  unfold wd
  split <;> (try split) <;> (try split) <;> omega
/-- The states of a row are among n. -/
def okCells (n : Nat) (l : List Int) : Bool := l.all fun x => decide (0 ≤ x) && decide (x < n)
def okRows (w n : Nat) (ns : List (List Int)) : Bool := ns.all fun r => decide (r.length = w) && okCells n r
/-- A relation's form. -/
def okRel (t s : Int) (ac : List Bool) (ns : List (List Int)) : Bool :=
  decide (1 ≤ t) && decide (t ≤ 3) && decide (1 ≤ ac.length) && decide (ac.length ≤ 150) && decide (ns.length = ac.length) && decide (0 ≤ s) && decide (s < ac.length) && okRows (wd t.toNat) ac.length ns
theorem drop_all {α : Type} (p : α → Bool) (l : List α) (i : Nat) (h : i < l.length) : (l.drop i).all p = (p l[i] && (l.drop (i + 1)).all p) := by
  rw [List.drop_eq_getElem_cons h, List.all_cons]
theorem spec_form_l1 (t : Nat) (s : Int) (ac : List Bool) (ns : List (List Int)) (x3 : Nat) (hx3 : x3 ≤ 150) (i : Nat) (hi : i < ns.length) (hl : ns[i].length ≤ 26) (R : Bool)
    (hR : Ev (fun k => spec_l01Form.l0 k (x3 : Int) (((i : Nat) + 1 : Nat) : Int) (t : Int) s ac ns) (R, (t : Int), s)) (hni : ns.length ≤ 1048576) (d : Nat) : ∀ j, j + d = ns[i].length →
    Ev (fun k => spec_l01Form.l1 k (x3 : Int) (i : Int) (j : Int) (t : Int) s ac ns) (okCells x3 (ns[i].drop j) && R, (t : Int), s) := by
  induction d with
  | zero =>
    intro j hj
    apply Ev.succ
    simp only [spec_l01Form.l1]
    refine Ev.pos (by omega) ?_
    refine Ev.pos (by omega) ?_
    rw [rd4_nat ns i hi]
    refine Ev.neg (by omega) ?_
    rw [w64 (by omega) (by omega), List.drop_of_length_le (by omega)]
    simp only [okCells, List.all_nil, Bool.true_and]
    exact hR
  | succ d ih =>
    intro j hj
    apply Ev.succ
    simp only [spec_l01Form.l1]
    refine Ev.pos (by omega) ?_
    refine Ev.pos (by omega) ?_
    rw [rd4_nat ns i hi]
    refine Ev.pos (by omega) ?_
    refine Ev.pos (by omega) ?_
    rw [rd_nat _ _ (by omega)]
    refine Ev.bind (Ev.const (in_eq _ _ _)) ?_
    rw [show okCells x3 (ns[i].drop j) = ((decide (0 ≤ ns[i][j]) && decide (ns[i][j] < x3)) && okCells x3 (ns[i].drop (j + 1))) from drop_all _ _ _ (by omega)]
    rw [w64 (n := (x3 : Int) - 1) (by omega) (by omega)]
    rw [show decide (ns[i][j] ≤ (x3 : Int) - 1) = decide (ns[i][j] < (x3 : Int)) by apply decide_eq_decide.2; omega]
    by_cases c : (decide (0 ≤ ns[i][j]) && decide (ns[i][j] < (x3 : Int))) = true
    · rw [c]
      refine Ev.pos (by first | rfl | trivial) ?_
      rw [w64 (by omega) (by omega)]
      simp only [Bool.true_and]
      exact ih (j + 1) (by omega)
    · rw [Bool.not_eq_true] at c
      rw [c]
      exact Ev.neg (by simp) (Ev.const (by simp))
theorem spec_form_l0 (t : Nat) (ht : t ≤ 3) (s : Int) (ac : List Bool) (ns : List (List Int)) (x3 : Nat) (hx3 : x3 ≤ 150) (hni : ns.length ≤ 1048576) (d : Nat) : ∀ i, i + d = ns.length →
    Ev (fun k => spec_l01Form.l0 k (x3 : Int) (i : Int) (t : Int) s ac ns) (okRows (wd t) x3 (ns.drop i), (t : Int), s) := by
  induction d with
  | zero =>
    intro i hi
    apply Ev.succ
    simp only [spec_l01Form.l0]
    refine Ev.neg (by omega) ?_
    rw [List.drop_of_length_le (by omega)]
    exact Ev.const rfl
  | succ d ih =>
    intro i hi
    apply Ev.succ
    simp only [spec_l01Form.l0]
    refine Ev.pos (by omega) ?_
    refine Ev.pos (by omega) ?_
    rw [rd4_nat ns i (by omega)]
    refine Ev.bind (wideS_ev t ht) ?_
    rw [show okRows (wd t) x3 (ns.drop i) = ((decide (ns[i].length = wd t) && okCells x3 ns[i]) && okRows (wd t) x3 (ns.drop (i + 1))) from drop_all _ _ _ (by omega)]
    have := wd_le t ht
    by_cases c : ns[i].length = wd t
    · refine Ev.pos (by omega) ?_
      have h := spec_form_l1 t s ac ns x3 hx3 i (by omega) (by omega) _ (ih (i + 1) (by omega)) hni ns[i].length 0 (by omega)
      rw [List.drop_zero] at h
      simp only [c, decide_true, Bool.true_and]
      exact h
    · refine Ev.neg (by omega) ?_
      simp only [c, decide_false, Bool.false_and]
      exact Ev.const rfl
theorem spec_ok_ev (t s : Int) (ac : List Bool) (ns : List (List Int)) (h : SzOK ac ns) : Ev (fun k => spec_l01Ok.f k t s ac ns) (okRel t s ac ns, t, s) := by
  unfold spec_l01Ok.f
  have h1 := h.1
  by_cases c : ac.length ≤ 150
  · refine Ev.pos (by omega) ?_
    refine Ev.bind (a := (okRel t s ac ns, t, s)) ?_ (Ev.now _)
    unfold spec_l01Form.f
    refine Ev.bind (Ev.const (in_eq _ _ _)) ?_
    by_cases ct : 1 ≤ t ∧ t ≤ 3
    · obtain ⟨n, rfl⟩ : ∃ n : Nat, t = n := ⟨t.toNat, by omega⟩
      simp only [show decide ((1 : Int) ≤ n) = true by simpa using ct.1, show decide ((n : Int) ≤ 3) = true by simpa using ct.2, Bool.true_and]
      refine Ev.pos (by first | rfl | trivial) ?_
      by_cases c1 : ac.length < 1
      · refine Ev.pos (by omega) ?_
        apply Ev.succ
        simp only [spec_l01Form.j0]
        refine Ev.pos (by first | rfl | trivial) ?_
        refine Ev.const ?_
        simp [okRel, show ¬ 1 ≤ ac.length by omega]
      · refine Ev.neg (by omega) ?_
        refine Ev.bind (Ev.const (in_eq _ _ _)) ?_
        rw [w64 (n := (ac.length : Int) - 1) (by omega) (by omega)]
        by_cases cs : 0 ≤ s ∧ s < ac.length
        · simp only [show decide ((0 : Int) ≤ s) = true by simpa using cs.1, show decide (s ≤ (ac.length : Int) - 1) = true from decide_eq_true (by omega), Bool.true_and]
          refine Ev.pos (by first | rfl | trivial) ?_
          apply Ev.succ
          simp only [spec_l01Form.j0]
          by_cases cn : ns.length = ac.length
          · refine Ev.neg (by simp [cn]) ?_
            have h0 := spec_form_l0 n (by omega) s ac ns ac.length c (by have := h.2.1; omega) ns.length 0 (by omega)
            rw [List.drop_zero] at h0
            have e : okRel (n : Int) s ac ns = okRows (wd n) ac.length ns := by
              simp only [okRel, Int.toNat_natCast]
              simp only [show decide ((1 : Int) ≤ n) = true by simpa using ct.1, show decide ((n : Int) ≤ 3) = true by simpa using ct.2, show decide (1 ≤ ac.length) = true from decide_eq_true (by omega), show decide (ac.length ≤ 150) = true from decide_eq_true c, cn, show decide ((0 : Int) ≤ s) = true by simpa using cs.1, show decide (s < (ac.length : Int)) = true from decide_eq_true cs.2, decide_true, Bool.true_and]
            rw [e]
            exact h0
          · refine Ev.pos (by simpa using fun e => cn (by omega)) ?_
            refine Ev.const ?_
            simp [okRel, cn]
        · refine Ev.neg ?_ ?_
          · intro e
            rw [Bool.and_eq_true, decide_eq_true_eq, decide_eq_true_eq] at e
            exact cs ⟨e.1, by omega⟩
          · apply Ev.succ
            simp only [spec_l01Form.j0]
            refine Ev.pos (by first | rfl | trivial) ?_
            refine Ev.const ?_
            have : (decide (0 ≤ s) && decide (s < (ac.length : Int))) = false := by
              rw [Bool.eq_false_iff]
              intro e
              rw [Bool.and_eq_true, decide_eq_true_eq, decide_eq_true_eq] at e
              exact cs e
            congr 2
            simp only [okRel]
            rcases Bool.and_eq_false_iff.1 this with e | e <;> rw [e] <;> simp
    · have e : (decide (1 ≤ t) && decide (t ≤ 3)) = false := by
        rw [Bool.eq_false_iff]
        intro e
        rw [Bool.and_eq_true, decide_eq_true_eq, decide_eq_true_eq] at e
        exact ct e
      rw [e]
      refine Ev.neg (by simp) ?_
      apply Ev.succ
      simp only [spec_l01Form.j0]
      refine Ev.pos (by first | rfl | trivial) ?_
      refine Ev.const ?_
      simp [okRel, e]
  · refine Ev.neg (by omega) ?_
    refine Ev.const ?_
    simp [okRel, c]
theorem impl_l1 (t : Nat) (s : Int) (ac : List Bool) (ns : List (List Int)) (x3 : Nat) (hx3 : x3 ≤ 150) (i : Nat) (hni : i < 1048576) (l : List Int) (hl : l.length ≤ 26) (R : Bool)
    (hR : Ev (fun k => impl_ValidRelation.l0 k (x3 : Int) ns (ns.length : Int) (((i : Nat) + 1 : Nat) : Int) (t : Int) s ac ns) R) (d : Nat) : ∀ j, j + d = l.length →
    Ev (fun k => impl_ValidRelation.l1 k (x3 : Int) ns (ns.length : Int) (i : Int) l (l.length : Int) (j : Int) (t : Int) s ac ns) (okCells x3 (l.drop j) && R) := by
  induction d with
  | zero =>
    intro j hj
    apply Ev.succ
    simp only [impl_ValidRelation.l1]
    refine Ev.neg (by omega) ?_
    rw [w64 (by omega) (by omega), List.drop_of_length_le (by omega)]
    simp only [okCells, List.all_nil, Bool.true_and]
    exact hR
  | succ d ih =>
    intro j hj
    apply Ev.succ
    simp only [impl_ValidRelation.l1]
    refine Ev.pos (by omega) ?_
    refine Ev.pos (by omega) ?_
    refine Ev.pos (by omega) ?_
    rw [rd_nat _ _ (by omega)]
    refine Ev.bind (Ev.const (within_eq _ _ _)) ?_
    rw [show okCells x3 (l.drop j) = ((decide (0 ≤ l[j]) && decide (l[j] < x3)) && okCells x3 (l.drop (j + 1))) from drop_all _ _ _ (by omega)]
    rw [w64 (n := (x3 : Int) - 1) (by omega) (by omega)]
    rw [show decide (l[j] ≤ (x3 : Int) - 1) = decide (l[j] < (x3 : Int)) by apply decide_eq_decide.2; omega]
    by_cases c : (decide (0 ≤ l[j]) && decide (l[j] < (x3 : Int))) = true
    · rw [c]
      refine Ev.pos (by first | rfl | trivial) ?_
      rw [w64 (by omega) (by omega)]
      simp only [Bool.true_and]
      exact ih (j + 1) (by omega)
    · rw [Bool.not_eq_true] at c
      rw [c]
      exact Ev.neg (by simp) (Ev.const (by simp))
theorem impl_l0 (t : Nat) (ht : t ≤ 3) (s : Int) (ac : List Bool) (ns : List (List Int)) (x3 : Nat) (hx3 : x3 ≤ 150) (hni : ns.length ≤ 1048576) (d : Nat) : ∀ i, i + d = ns.length →
    Ev (fun k => impl_ValidRelation.l0 k (x3 : Int) ns (ns.length : Int) (i : Int) (t : Int) s ac ns) (okRows (wd t) x3 (ns.drop i)) := by
  induction d with
  | zero =>
    intro i hi
    apply Ev.succ
    simp only [impl_ValidRelation.l0]
    refine Ev.neg (by omega) ?_
    rw [List.drop_of_length_le (by omega)]
    exact Ev.const rfl
  | succ d ih =>
    intro i hi
    apply Ev.succ
    simp only [impl_ValidRelation.l0]
    refine Ev.pos (by omega) ?_
    refine Ev.pos (by omega) ?_
    refine Ev.pos (by omega) ?_
    rw [rd4_nat ns i (by omega)]
    refine Ev.bind (wideI_ev t ht) ?_
    rw [show okRows (wd t) x3 (ns.drop i) = ((decide (ns[i].length = wd t) && okCells x3 ns[i]) && okRows (wd t) x3 (ns.drop (i + 1))) from drop_all _ _ _ (by omega)]
    have := wd_le t ht
    by_cases c : ns[i].length = wd t
    · refine Ev.pos (by omega) ?_
      have h := impl_l1 t s ac ns x3 hx3 i (by omega) ns[i] (by omega) _ (ih (i + 1) (by omega)) ns[i].length 0 (by omega)
      rw [List.drop_zero] at h
      simp only [c, decide_true, Bool.true_and]
      rw [c] at h
      exact h
    · refine Ev.neg (by omega) ?_
      simp only [c, decide_false, Bool.false_and]
      exact Ev.const rfl
theorem impl_ValidRelation_ev (t s : Int) (ac : List Bool) (ns : List (List Int)) (h : SzOK ac ns) : Ev (fun k => impl_ValidRelation.f k t s ac ns) (okRel t s ac ns) := by
  have hj0 : ∀ n : Int, Ev (fun k => impl_ValidRelation.j0 k n true t s ac ns) false := fun n => by
    apply Ev.succ
    simp only [impl_ValidRelation.j0]
    exact Ev.pos (by first | rfl | trivial) (Ev.const rfl)
  have h1 := h.1
  unfold impl_ValidRelation.f
  refine Ev.bind (Ev.const (areTapes_eq _)) ?_
  by_cases ct : 1 ≤ t ∧ t ≤ 3
  · obtain ⟨n, rfl⟩ : ∃ n : Nat, t = n := ⟨t.toNat, by omega⟩
    simp only [show decide ((1 : Int) ≤ n) = true by simpa using ct.1, show decide ((n : Int) ≤ 3) = true by simpa using ct.2, Bool.true_and]
    refine Ev.pos (by first | rfl | trivial) ?_
    refine Ev.bind (Ev.const (within_eq _ _ _)) ?_
    by_cases c1 : 1 ≤ ac.length ∧ ac.length ≤ 150
    · refine Ev.pos (by simp; omega) ?_
      by_cases cn : ns.length = ac.length
      · refine Ev.pos (by omega) ?_
        refine Ev.bind (Ev.const (within_eq _ _ _)) ?_
        rw [w64 (n := (ac.length : Int) - 1) (by omega) (by omega)]
        by_cases cs : 0 ≤ s ∧ s < ac.length
        · simp only [show decide ((0 : Int) ≤ s) = true by simpa using cs.1, show decide (s ≤ (ac.length : Int) - 1) = true from decide_eq_true (by omega), Bool.true_and, Bool.not_true]
          apply Ev.succ
          simp only [impl_ValidRelation.j0]
          refine Ev.neg (by simp) ?_
          have h0 := impl_l0 n (by omega) s ac ns ac.length c1.2 (by have := h.2.1; omega) ns.length 0 (by omega)
          rw [List.drop_zero] at h0
          have e : okRel (n : Int) s ac ns = okRows (wd n) ac.length ns := by
            simp only [okRel, Int.toNat_natCast]
            simp only [show decide ((1 : Int) ≤ n) = true by simpa using ct.1, show decide ((n : Int) ≤ 3) = true by simpa using ct.2, show decide (1 ≤ ac.length) = true from decide_eq_true (by omega), show decide (ac.length ≤ 150) = true from decide_eq_true c1.2, cn, show decide ((0 : Int) ≤ s) = true by simpa using cs.1, show decide (s < (ac.length : Int)) = true from decide_eq_true cs.2, decide_true, Bool.true_and]
          rw [e]
          exact h0
        · have e1 : (decide (0 ≤ s) && decide (s ≤ (ac.length : Int) - 1)) = false := by
            rw [Bool.eq_false_iff]
            intro e
            rw [Bool.and_eq_true, decide_eq_true_eq, decide_eq_true_eq] at e
            exact cs ⟨e.1, by omega⟩
          have e2 : (decide (0 ≤ s) && decide (s < (ac.length : Int))) = false := by
            rw [Bool.eq_false_iff]
            intro e
            rw [Bool.and_eq_true, decide_eq_true_eq, decide_eq_true_eq] at e
            exact cs e
          have e : okRel (n : Int) s ac ns = false := by
            simp only [okRel]
            rcases Bool.and_eq_false_iff.1 e2 with e | e <;> rw [e] <;> simp
          rw [e1, e]
          exact hj0 _
      · refine Ev.neg (by omega) ?_
        have e : okRel (n : Int) s ac ns = false := by simp [okRel, cn]
        rw [e]
        exact hj0 _
    · refine Ev.neg ?_ ?_
      · intro e
        rw [Bool.and_eq_true, decide_eq_true_eq, decide_eq_true_eq] at e
        exact c1 ⟨by omega, by omega⟩
      · have e : okRel (n : Int) s ac ns = false := by
          simp only [okRel]
          by_cases c2 : 1 ≤ ac.length
          · simp [show ¬ ac.length ≤ 150 from fun h => c1 ⟨c2, h⟩]
          · simp [c2]
        rw [e]
        exact hj0 _
  · have e : (decide (1 ≤ t) && decide (t ≤ 3)) = false := by
      rw [Bool.eq_false_iff]
      intro e
      rw [Bool.and_eq_true, decide_eq_true_eq, decide_eq_true_eq] at e
      exact ct e
    rw [e]
    refine Ev.neg (by simp) ?_
    have e : okRel t s ac ns = false := by simp [okRel, e]
    rw [e]
    exact hj0 _

/-! ValidPresentation -/
def ok44 (x : S44) : Bool := okRel x.f0 x.f1 x.f2 x.f3
def okPres (t s : Int) (ac : List Bool) (ns : List (List Int)) (l : List S44) : Bool := okRel t s ac ns && (decide (t = 1) && (decide (l.length ≤ 4) && l.all ok44))
theorem spec_l03Ok_l (l : List S44) (h : SzT l) (d : Nat) : ∀ i, i + d = l.length → Ev (fun k => spec_l03Ok.l0 k l (i : Int)) ((l.drop i).all ok44) := by
  have hn := h.1
  induction d with
  | zero =>
    intro i hi
    apply Ev.succ
    simp only [spec_l03Ok.l0]
    refine Ev.neg (by omega) ?_
    rw [List.drop_of_length_le (by omega)]
    exact Ev.now _
  | succ d ih =>
    intro i hi
    apply Ev.succ
    simp only [spec_l03Ok.l0]
    refine Ev.pos (by omega) ?_
    refine Ev.pos (by omega) ?_
    rw [rd44_nat l i (by omega)]
    refine Ev.bind (spec_ok_ev _ _ _ _ (h.2 _ (List.getElem_mem (show i < l.length by omega)))) ?_
    rw [drop_all _ _ _ (show i < l.length by omega), w64 (by omega) (by omega)]
    show Ev _ (okRel l[i].f0 l[i].f1 l[i].f2 l[i].f3 && _)
    by_cases c : okRel l[i].f0 l[i].f1 l[i].f2 l[i].f3 = true
    · rw [c, Bool.true_and]
      exact Ev.pos rfl (ih (i + 1) (by omega))
    · rw [Bool.not_eq_true] at c
      rw [c, Bool.false_and]
      exact Ev.neg (by simp) (Ev.now _)
theorem spec_ValidPresentation_ev (t s : Int) (ac : List Bool) (ns : List (List Int)) (l : List S44) (h : SzOK ac ns) (hl : SzT l) : Ev (fun k => spec_ValidPresentation.f k t s ac ns l) (okPres t s ac ns l) := by
  unfold spec_ValidPresentation.f okPres
  refine Ev.bind (spec_ok_ev t s ac ns h) ?_
  by_cases c : okRel t s ac ns = true
  · rw [c, Bool.true_and]
    refine Ev.pos rfl ?_
    by_cases c1 : t = 1
    · rw [decide_eq_true c1, Bool.true_and]
      refine Ev.pos c1 ?_
      by_cases c2 : l.length ≤ 4
      · rw [decide_eq_true c2, Bool.true_and]
        refine Ev.neg (by omega) ?_
        exact spec_l03Ok_l l hl l.length 0 (by omega)
      · rw [decide_eq_false c2, Bool.false_and]
        exact Ev.pos (by omega) (Ev.now _)
    · rw [decide_eq_false c1, Bool.false_and]
      exact Ev.neg c1 (Ev.now _)
  · rw [Bool.not_eq_true] at c
    rw [c, Bool.false_and]
    exact Ev.neg (by simp) (Ev.now _)
theorem impl_VP_l (l : List S44) (h : SzT l) (d : Nat) : ∀ i, i + d = l.length → Ev (fun k => impl_ValidPresentation.l0 k l (l.length : Int) (i : Int)) ((l.drop i).all ok44) := by
  have hn := h.1
  induction d with
  | zero =>
    intro i hi
    apply Ev.succ
    simp only [impl_ValidPresentation.l0]
    refine Ev.neg (by omega) ?_
    rw [List.drop_of_length_le (by omega)]
    exact Ev.now _
  | succ d ih =>
    intro i hi
    apply Ev.succ
    simp only [impl_ValidPresentation.l0]
    refine Ev.pos (by omega) ?_
    refine Ev.pos (by omega) ?_
    refine Ev.pos (by omega) ?_
    rw [rd44_nat l i (by omega)]
    refine Ev.bind (impl_ValidRelation_ev _ _ _ _ (h.2 _ (List.getElem_mem (show i < l.length by omega)))) ?_
    rw [drop_all _ _ _ (show i < l.length by omega), w64 (by omega) (by omega)]
    show Ev _ (okRel l[i].f0 l[i].f1 l[i].f2 l[i].f3 && _)
    by_cases c : okRel l[i].f0 l[i].f1 l[i].f2 l[i].f3 = true
    · rw [c, Bool.true_and]
      exact Ev.pos rfl (ih (i + 1) (by omega))
    · rw [Bool.not_eq_true] at c
      rw [c, Bool.false_and]
      exact Ev.neg (by simp) (Ev.now _)
theorem impl_ValidPresentation_ev (t s : Int) (ac : List Bool) (ns : List (List Int)) (l : List S44) (h : SzOK ac ns) (hl : SzT l) : Ev (fun k => impl_ValidPresentation.f k t s ac ns l) (okPres t s ac ns l) := by
  have hj : Ev (fun k => impl_ValidPresentation.j0 k true t s ac ns l) false := by
    apply Ev.succ
    simp only [impl_ValidPresentation.j0]
    exact Ev.pos (by first | rfl | trivial) (Ev.now _)
  unfold impl_ValidPresentation.f okPres
  refine Ev.bind (impl_ValidRelation_ev t s ac ns h) ?_
  by_cases c : okRel t s ac ns = true
  · rw [c, Bool.true_and]
    refine Ev.pos rfl ?_
    by_cases c1 : t = 1
    · rw [decide_eq_true c1, Bool.true_and]
      refine Ev.pos c1 ?_
      apply Ev.succ
      simp only [impl_ValidPresentation.j0]
      by_cases c2 : l.length ≤ 4
      · rw [decide_eq_true c2, Bool.true_and]
        refine Ev.neg (by simp; omega) ?_
        exact impl_VP_l l hl l.length 0 (by omega)
      · rw [decide_eq_false c2, Bool.false_and]
        exact Ev.pos (by simp; omega) (Ev.now _)
    · rw [decide_eq_false c1, Bool.false_and]
      exact Ev.neg c1 hj
  · rw [Bool.not_eq_true] at c
    rw [c, Bool.false_and]
    exact Ev.neg (by simp) hj

theorem FnExactValidPresentation (t s : Int) (ac : List Bool) (ns : List (List Int)) (l : List S41) (h2 : ac.length ≤ 9223372036854775807) (h3 : ns.length ≤ 9223372036854775807) (hr : ∀ x ∈ ns, x.length ≤ 9223372036854775807) (h4 : l.length ≤ 9223372036854775807) (hl : ∀ x ∈ l, BdOK x) : ∃ k, laws_FnExactValidPresentation.f k t s ac ns l = some true := by
  apply Ev.rounds
  unfold laws_FnExactValidPresentation.f
  obtain ⟨n, e1, e2, e3⟩ := szPresentation_ev t s ac ns l 1048576 (by omega) h2 h3 hr h4 hl
  refine Ev.bind e1 ?_
  by_cases hn : n < 0
  · exact Ev.pos hn (Ev.now _)
  · obtain ⟨hz, hy⟩ := e3 (by omega)
    refine Ev.neg hn ?_
    refine Ev.bind (toPresentation_ev t s ac ns l hz hy) ?_
    refine Ev.bind (spec_ValidPresentation_ev t s ac ns (l.map conv) hz hy.conv) ?_
    refine Ev.bind (toPresentation_ev t s ac ns l hz hy) ?_
    refine Ev.bind (impl_ValidPresentation_ev t s ac ns (l.map conv) hz hy.conv) ?_
    refine Ev.neg (by simp) ?_
    refine Ev.bind (toPresentation_ev t s ac ns l hz hy) ?_
    refine Ev.bind (eqPresentation_ev t s ac ns (l.map conv) hz hy.conv) ?_
    exact Ev.pos rfl (Ev.now _)

end Go.Proofs.Ytbbkhkipnkejmaa.Pure
