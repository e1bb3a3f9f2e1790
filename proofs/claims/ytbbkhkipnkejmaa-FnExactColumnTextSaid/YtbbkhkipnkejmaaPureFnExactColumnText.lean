/- The program's ColumnText returns what the reference's returns, for all numbers of tapes and columns; no condition. -/
import Derived.Test.YtbbkhkipnkejmaaPFnExactColumnTextx2
namespace Go.Proofs.Ytbbkhkipnkejmaa.Pure
open Go.RowKit Go.Proofs.Ytbbkhkipnkejmaa.PFnExactColumnText Go.Proofs.YtbbkhkipnkejmaaW.PrintWords Go.Proofs.YtbbkhkipnkejmaaW.PrintLast
set_option linter.unusedVariables false
set_option linter.unusedSimpArgs false

theorem impl_areTapes_eq (a : Int) : impl_areTapes.f a = some (decide (1 ≤ a) && decide (a ≤ 3)) := by
  unfold impl_areTapes.f impl_within.f
  by_cases h : 1 ≤ a <;> simp [h]
theorem spec_l00In_eq (a b c : Int) : spec_l00In.f a b c = some (decide (b ≤ a) && decide (a ≤ c)) := by
  unfold spec_l00In.f
  by_cases h : a ≥ b
  · have h' : b ≤ a := h
    simp [h']
  · have h' : ¬ b ≤ a := h
    simp [h']
theorem impl_within_eq (a b c : Int) : impl_within.f a b c = some (decide (b ≤ a) && decide (a ≤ c)) := by
  unfold impl_within.f
  by_cases h : b ≤ a <;> simp [h]
theorem wide_spec (a : Int) (h : a = 1 ∨ a = 2 ∨ a = 3) : spec_l01Wide.f 10 a = some (if a = 1 then 2 else if a = 2 then 8 else 26) := by
  rcases h with rfl | rfl | rfl <;> decide +kernel
theorem wide_impl (a : Int) (h : a = 1 ∨ a = 2 ∨ a = 3) : impl_widthOf.f 10 a = some (if a = 1 then 2 else if a = 2 then 8 else 26) := by
  rcases h with rfl | rfl | rfl <;> decide +kernel
theorem FnExactColumnText : laws_FnExactColumnText.Pure := by
  intro a0 a1 _ _
  refine ⟨10, ?_⟩
  by_cases ht : a0 = 1 ∨ a0 = 2 ∨ a0 = 3
  · by_cases hc : 0 ≤ a1 ∧ a1 ≤ (if a0 = 1 then 2 else if a0 = 2 then 8 else 26) - 1
    · obtain ⟨h0, h1⟩ := hc
      rcases ht with rfl | rfl | rfl
      · have : a1 = 0 ∨ a1 = 1 := by simp at h1; omega
        rcases this with rfl | rfl <;> decide +kernel
      · have : a1 = 0 ∨ a1 = 1 ∨ a1 = 2 ∨ a1 = 3 ∨ a1 = 4 ∨ a1 = 5 ∨ a1 = 6 ∨ a1 = 7 := by simp at h1; omega
        rcases this with rfl | rfl | rfl | rfl | rfl | rfl | rfl | rfl <;> decide +kernel
      · have : (a1 = 0 ∨ a1 = 1 ∨ a1 = 2 ∨ a1 = 3 ∨ a1 = 4 ∨ a1 = 5 ∨ a1 = 6 ∨ a1 = 7) ∨ (a1 = 8 ∨ a1 = 9 ∨ a1 = 10 ∨ a1 = 11 ∨ a1 = 12 ∨ a1 = 13 ∨ a1 = 14 ∨ a1 = 15) ∨ (a1 = 16 ∨ a1 = 17 ∨ a1 = 18 ∨ a1 = 19 ∨ a1 = 20 ∨ a1 = 21 ∨ a1 = 22 ∨ a1 = 23) ∨ a1 = 24 ∨ a1 = 25 := by simp at h1; omega
        rcases this with (rfl | rfl | rfl | rfl | rfl | rfl | rfl | rfl) | (rfl | rfl | rfl | rfl | rfl | rfl | rfl | rfl) | (rfl | rfl | rfl | rfl | rfl | rfl | rfl | rfl) | rfl | rfl <;> decide +kernel
    · have hs : spec_ColumnText.f 10 a0 a1 = some ((⟨#[]⟩ : ByteArray), 2) := by
        unfold spec_ColumnText.f
        rw [spec_l00In_eq, wide_spec a0 ht]
        have t1 : (decide (1 ≤ a0) && decide (a0 ≤ 3)) = true := by simp; omega
        simp only [Option.bind_some, t1, if_true, spec_l00In_eq]
        have w : wrap64 ((if a0 = 1 then 2 else if a0 = 2 then 8 else 26) - 1) = (if a0 = 1 then 2 else if a0 = 2 then 8 else 26) - 1 := by
          rcases ht with rfl | rfl | rfl <;> (unfold wrap64; decide)
        have t2 : (decide (0 ≤ a1) && decide (a1 ≤ (if a0 = 1 then 2 else if a0 = 2 then 8 else 26) - 1)) = false := by
          rw [Bool.and_eq_false_iff]; simp only [decide_eq_false_iff_not]
          by_cases h : 0 ≤ a1
          · exact Or.inr fun h' => hc ⟨h, h'⟩
          · exact Or.inl h
        rw [w, t2]
        simp [spec_ColumnText.j0]
      have hi : impl_ColumnText.f 10 a0 a1 = some ((⟨#[]⟩ : ByteArray), 2) := by
        unfold impl_ColumnText.f impl_isColumn.f
        rw [impl_areTapes_eq, wide_impl a0 ht]
        have t1 : (decide (1 ≤ a0) && decide (a0 ≤ 3)) = true := by simp; omega
        simp only [Option.bind_some, t1, if_true, impl_within_eq]
        have w : wrap64 ((if a0 = 1 then 2 else if a0 = 2 then 8 else 26) - 1) = (if a0 = 1 then 2 else if a0 = 2 then 8 else 26) - 1 := by
          rcases ht with rfl | rfl | rfl <;> (unfold wrap64; decide)
        have t2 : (decide (0 ≤ a1) && decide (a1 ≤ (if a0 = 1 then 2 else if a0 = 2 then 8 else 26) - 1)) = false := by
          rw [Bool.and_eq_false_iff]; simp only [decide_eq_false_iff_not]
          by_cases h : 0 ≤ a1
          · exact Or.inr fun h' => hc ⟨h, h'⟩
          · exact Or.inl h
        rw [w, t2]
        simp
      unfold laws_FnExactColumnText.f
      rw [hs, hi]; simp
  · have t1 : (decide (1 ≤ a0) && decide (a0 ≤ 3)) = false := by
      rw [Bool.and_eq_false_iff]; simp only [decide_eq_false_iff_not]; omega
    have hs : spec_ColumnText.f 10 a0 a1 = some ((⟨#[]⟩ : ByteArray), 2) := by
      unfold spec_ColumnText.f
      rw [spec_l00In_eq]; simp only [Option.bind_some, t1]
      simp [spec_ColumnText.j0]
    have hi : impl_ColumnText.f 10 a0 a1 = some ((⟨#[]⟩ : ByteArray), 2) := by
      unfold impl_ColumnText.f impl_isColumn.f
      rw [impl_areTapes_eq]; simp only [Option.bind_some, t1]
      simp
    unfold laws_FnExactColumnText.f
    rw [hs, hi]; simp

end Go.Proofs.Ytbbkhkipnkejmaa.Pure
