/- The program's WordsOf returns what the reference's returns, for all numbers of tapes and all lists of columns; no condition. -/
import Derived.Test.YtbbkhkipnkejmaaXx5
namespace Go.Proofs.Ytbbkhkipnkejmaa.Pure
open Go.RowKit Go.Proofs.Ytbbkhkipnkejmaa.X Go.Proofs.YtbbkhkipnkejmaaW.PrintWords Go.Proofs.YtbbkhkipnkejmaaW.PrintLast
set_option linter.unusedVariables false
set_option linter.unusedSimpArgs false

theorem Ev.succ {α : Type} {g : Nat → Option α} {r : α} (h : Ev (fun k => g (k + 1)) r) : Ev g r := Ev.step (fun _ => rfl) h
theorem Ev.const {α : Type} {o : Option α} {r : α} (h : o = some r) : Ev (fun _ => o) r := ⟨0, fun _ _ => h⟩
theorem w64 {n : Int} (h0 : -9223372036854775808 ≤ n) (h1 : n ≤ 9223372036854775807) : wrap64 n = n := by
  unfold wrap64; omega
theorem rd_nat (xs : List Int) (i : Nat) (h : i < xs.length) : rd xs (i : Int) = xs[i] := by
  simp [rd, List.getD_eq_getElem?_getD, h]
theorem rdOf_nat {α : Type} (d : α) (xs : List α) (i : Nat) (h : i < xs.length) : rdOf d xs (i : Int) = xs[i] := by
  simp [rdOf, List.getD_eq_getElem?_getD, h]
theorem set_take {α : Type} (l ys : List α) (i : Nat) (x : α) (hx : l[i]? = some x) (hl : ys.length = l.length) (h : ys.take i = l.take i) : (ys.set i x).take (i + 1) = l.take (i + 1) := by
  have hi : i < l.length := (List.getElem?_eq_some_iff.1 hx).1
  apply List.ext_getElem?
  intro j
  have hj := congrArg (fun z => z[j]?) h
  simp only [List.getElem?_take] at hj ⊢
  rw [List.getElem?_set]
  by_cases h1 : j < i + 1
  · by_cases h2 : i = j
    · subst h2
      simp only [h1, if_true]
      rw [if_pos (by omega)]
      exact hx.symm
    · have h3 : j < i := by omega
      simp only [h1, if_true, h2, if_false, h3] at hj ⊢
      exact hj
  · simp [h1]
theorem Ev.pos {α : Type} {c : Prop} [Decidable c] {f g : Nat → Option α} {r : α} (h : c) (k : Ev f r) : Ev (fun n => if c then f n else g n) r := by
  obtain ⟨K, k⟩ := k
  exact ⟨K, fun n hn => (if_pos h).trans (k n hn)⟩
theorem Ev.neg {α : Type} {c : Prop} [Decidable c] {f g : Nat → Option α} {r : α} (h : ¬ c) (k : Ev g r) : Ev (fun n => if c then f n else g n) r := by
  obtain ⟨K, k⟩ := k
  exact ⟨K, fun n hn => (if_neg h).trans (k n hn)⟩

/-! toInt64S, eqInt64S, markInt64S -/
theorem toInt64S_l (l : List Int) (hn : l.length ≤ 35184372088832) (d : Nat) : ∀ (i : Nat) (ys : List Int), i + d = l.length → ys.length = l.length → ys.take i = l.take i → Ev (fun k => laws_toInt64S.l0 k l ys (i : Int)) l := by
  induction d with
  | zero =>
    intro i ys hi hl ht
    apply Ev.succ
    simp only [laws_toInt64S.l0]
    refine Ev.neg (by omega) ?_
    refine Ev.const ?_
    rw [List.take_of_length_le (by omega), List.take_of_length_le (by omega)] at ht
    rw [ht]
  | succ d ih =>
    intro i ys hi hl ht
    apply Ev.succ
    simp only [laws_toInt64S.l0]
    refine Ev.pos (by omega) ?_
    refine Ev.pos (by omega) ?_
    refine Ev.pos (by omega) ?_
    rw [w64 (by omega) (by omega), Int.toNat_natCast]
    have := ih (i + 1) (ys.set i (rd l i)) (by omega) (by simp [hl]) (set_take l ys i _ (by rw [rd_nat l i (by omega)]; exact List.getElem?_eq_getElem (by omega)) hl ht)
    exact this
theorem toInt64S_ev (l : List Int) (hn : l.length ≤ 35184372088832) : Ev (fun k => laws_toInt64S.f k l) l := by
  unfold laws_toInt64S.f
  simp only [Int.toNat_natCast]
  refine Ev.pos (by omega) ?_
  refine Ev.pos hn ?_
  exact toInt64S_l l hn l.length 0 _ (by omega) (by simp) (by simp)
theorem eqInt64S_l (l : List Int) (hn : l.length ≤ 35184372088832) (d : Nat) : ∀ (i : Nat), i + d = l.length → Ev (fun k => laws_eqInt64S.l0 k l l (i : Int)) true := by
  induction d with
  | zero =>
    intro i hi
    apply Ev.succ
    simp only [laws_eqInt64S.l0]
    refine Ev.neg (by omega) ?_
    exact Ev.const rfl
  | succ d ih =>
    intro i hi
    apply Ev.succ
    simp only [laws_eqInt64S.l0]
    refine Ev.pos (by omega) ?_
    refine Ev.pos (by omega) ?_
    refine Ev.pos (by omega) ?_
    refine Ev.pos trivial ?_
    rw [w64 (by omega) (by omega)]
    exact ih (i + 1) (by omega)
theorem eqInt64S_ev (l : List Int) (hn : l.length ≤ 35184372088832) : Ev (fun k => laws_eqInt64S.f k l l) true := by
  unfold laws_eqInt64S.f
  refine Ev.pos rfl ?_
  exact eqInt64S_l l hn l.length 0 (by omega)
theorem markInt64S_l (d : Nat) : ∀ (i n : Nat) (ys : List Int), i + d = ys.length → n + d ≤ 1152921504606846976 → ys.length ≤ 35184372088832 → ∃ zs, zs.length = ys.length ∧ Ev (fun k => laws_markInt64S.l0 k ys (n : Int) (i : Int)) (((n + d : Nat) : Int), zs) := by
  induction d with
  | zero =>
    intro i n ys hi hn hl
    refine ⟨ys, rfl, ?_⟩
    apply Ev.succ
    simp only [laws_markInt64S.l0]
    refine Ev.neg (by omega) ?_
    exact Ev.const rfl
  | succ d ih =>
    intro i n ys hi hn hl
    obtain ⟨zs, hz, h⟩ := ih (i + 1) (n + 1) (ys.set i n) (by simp; omega) (by omega) (by simpa using hl)
    refine ⟨zs, by simpa using hz, ?_⟩
    apply Ev.succ
    simp only [laws_markInt64S.l0]
    refine Ev.pos (by omega) ?_
    refine Ev.pos (by omega) ?_
    rw [w64 (n := (n : Int) + 1) (by omega) (by omega), w64 (n := (i : Int) + 1) (by omega) (by omega), Int.toNat_natCast]
    rw [show n + (d + 1) = n + 1 + d by omega]
    exact h
theorem markInt64S_ev (ys : List Int) (n : Nat) (hn : n + ys.length ≤ 1152921504606846976) (hl : ys.length ≤ 35184372088832) : ∃ zs, zs.length = ys.length ∧ Ev (fun k => laws_markInt64S.f k ys (n : Int)) (((n + ys.length : Nat) : Int), zs) := markInt64S_l ys.length 0 n ys (by omega) hn hl

/-! eqStringS, markText, markStringS, heldStringS -/
theorem eqStringS_l (l : List ByteArray) (hn : l.length ≤ 35184372088832) (d : Nat) : ∀ (i : Nat), i + d = l.length → Ev (fun k => laws_eqStringS.l0 k l l (i : Int)) true := by
  induction d with
  | zero =>
    intro i hi
    apply Ev.succ
    simp only [laws_eqStringS.l0]
    refine Ev.neg (by omega) ?_
    exact Ev.const rfl
  | succ d ih =>
    intro i hi
    apply Ev.succ
    simp only [laws_eqStringS.l0]
    refine Ev.pos (by omega) ?_
    refine Ev.pos (by omega) ?_
    refine Ev.pos (by omega) ?_
    refine Ev.pos trivial ?_
    rw [w64 (by omega) (by omega)]
    exact ih (i + 1) (by omega)
theorem eqStringS_ev (l : List ByteArray) (hn : l.length ≤ 35184372088832) : Ev (fun k => laws_eqStringS.f k l l) true := by
  unfold laws_eqStringS.f
  refine Ev.pos rfl ?_
  exact eqStringS_l l hn l.length 0 (by omega)
theorem strOfNums_one (x : Int) : (strOfNums [x]).size = 1 := by
  simp [strOfNums, ByteArray.size]
theorem markText_l (d : Nat) : ∀ (n : Nat) (s : ByteArray), n ≤ d → s.size + d ≤ 9223372036854775806 → ∃ t, Ev (fun k => laws_markText.l0 k (n : Int) s) t := by
  induction d with
  | zero =>
    intro n s hn hs
    refine ⟨(⟨#[109]⟩ : ByteArray) ++ s, ?_⟩
    apply Ev.succ
    simp only [laws_markText.l0]
    refine Ev.neg (by omega) ?_
    refine Ev.pos (by omega) ?_
    exact Ev.const rfl
  | succ d ih =>
    intro n s hn hs
    by_cases h0 : n = 0
    · refine ⟨(⟨#[109]⟩ : ByteArray) ++ s, ?_⟩
      apply Ev.succ
      simp only [laws_markText.l0]
      refine Ev.neg (by omega) ?_
      refine Ev.pos (by omega) ?_
      exact Ev.const rfl
    · have hq : Int.tdiv (n : Int) 10 = ((n / 10 : Nat) : Int) := by rw [Int.tdiv_eq_ediv_of_nonneg (by omega)]; omega
      obtain ⟨t, h⟩ := ih (n / 10) ((strOfNums [(wrap64 (48 + (Int.tmod (n : Int) 10))) % 256]) ++ s) (by omega) (by rw [ByteArray.size_append, strOfNums_one]; omega)
      refine ⟨t, ?_⟩
      apply Ev.succ
      simp only [laws_markText.l0, Option.bind_some]
      refine Ev.pos (by omega) ?_
      refine Ev.pos (by rw [strOfNums_one]; omega) ?_
      rw [hq, w64 (by omega) (by omega)]
      exact h
theorem markText_ev (n : Nat) (hn : n ≤ 1152921504606846976) : ∃ t, Ev (fun k => laws_markText.f k (n : Int)) t := by
  unfold laws_markText.f
  by_cases h : n = 0
  · exact ⟨(⟨#[109, 48]⟩ : ByteArray), Ev.pos (by omega) (Ev.const rfl)⟩
  · obtain ⟨t, ht⟩ := markText_l n n (⟨#[]⟩ : ByteArray) (Nat.le_refl _) (by have : (⟨#[]⟩ : ByteArray).size = 0 := rfl; omega)
    exact ⟨t, Ev.neg (by omega) ht⟩
noncomputable def mt (n : Nat) : ByteArray := if h : n ≤ 1152921504606846976 then Classical.choose (markText_ev n h) else ByteArray.empty
theorem mt_ev (n : Nat) (hn : n ≤ 1152921504606846976) : Ev (fun k => laws_markText.f k (n : Int)) (mt n) := by
  unfold mt
  rw [dif_pos hn]
  exact Classical.choose_spec (markText_ev n hn)
noncomputable def marks (n : Nat) : Nat → List ByteArray
  | 0 => []
  | d + 1 => mt n :: marks (n + 1) d
theorem marks_length : ∀ (d n : Nat), (marks n d).length = d
  | 0, _ => rfl
  | d + 1, n => by simp [marks, marks_length d]
theorem marks_get : ∀ (d n i : Nat), i < d → (marks n d)[i]? = some (mt (n + i))
  | 0, _, _, h => by omega
  | d + 1, n, 0, _ => by simp [marks]
  | d + 1, n, i + 1, h => by
    simp only [marks, List.getElem?_cons_succ]
    rw [marks_get d (n + 1) i (by omega)]
    congr 2
    omega
theorem markStringS_l (d : Nat) : ∀ (i n : Nat) (ys : List ByteArray), i + d = ys.length → n + d ≤ 1152921504606846976 → ys.length ≤ 35184372088832 → Ev (fun k => laws_markStringS.l0 k ys (n : Int) (i : Int)) (((n + d : Nat) : Int), ys.take i ++ marks n d) := by
  induction d with
  | zero =>
    intro i n ys hi hn hl
    apply Ev.succ
    simp only [laws_markStringS.l0]
    refine Ev.neg (by omega) ?_
    exact Ev.const (by simp [marks, List.take_of_length_le (show ys.length ≤ i by omega)])
  | succ d ih =>
    intro i n ys hi hn hl
    apply Ev.succ
    simp only [laws_markStringS.l0]
    refine Ev.pos (by omega) ?_
    refine Ev.bind (mt_ev n (by omega)) ?_
    refine Ev.pos (by omega) ?_
    rw [w64 (n := (n : Int) + 1) (by omega) (by omega), w64 (n := (i : Int) + 1) (by omega) (by omega), Int.toNat_natCast]
    have h := ih (i + 1) (n + 1) (ys.set i (mt n)) (by simp; omega) (by omega) (by simpa using hl)
    have e : (ys.set i (mt n)).take (i + 1) = ys.take i ++ [mt n] := by
      apply List.ext_getElem?
      intro j
      rw [List.getElem?_take, List.getElem?_set]
      by_cases h1 : j < i
      · rw [if_pos (by omega), if_neg (by omega), List.getElem?_append_left (by simp; omega), List.getElem?_take, if_pos h1]
      · by_cases h2 : j = i
        · subst h2
          rw [if_pos (by omega), if_pos rfl, if_pos (by omega), List.getElem?_append_right (by simp; omega)]
          simp [show min j ys.length = j by omega]
        · rw [if_neg (by omega), List.getElem?_eq_none (by simp; omega)]
    rw [e] at h
    rw [show n + (d + 1) = n + 1 + d by omega]
    simpa [marks] using h
theorem markStringS_ev (ys : List ByteArray) (n : Nat) (hn : n + ys.length ≤ 1152921504606846976) (hl : ys.length ≤ 35184372088832) : Ev (fun k => laws_markStringS.f k ys (n : Int)) (((n + ys.length : Nat) : Int), marks n ys.length) := by
  have h := markStringS_l ys.length 0 n ys (by omega) hn hl
  unfold laws_markStringS.f
  simpa using h
theorem heldStringS_l (d0 n0 : Nat) (hb : n0 + d0 ≤ 1152921504606846976) (hb2 : d0 ≤ 35184372088832) (d : Nat) : ∀ (i : Nat), i + d = d0 → Ev (fun k => laws_heldStringS.l0 k (marks n0 d0) ((n0 + i : Nat) : Int) (i : Int)) ((n0 + d0 : Nat) : Int) := by
  induction d with
  | zero =>
    intro i hi
    apply Ev.succ
    simp only [laws_heldStringS.l0]
    refine Ev.neg (by rw [marks_length]; omega) ?_
    exact Ev.const (by rw [show i = d0 by omega])
  | succ d ih =>
    intro i hi
    apply Ev.succ
    simp only [laws_heldStringS.l0]
    refine Ev.pos (by rw [marks_length]; omega) ?_
    refine Ev.pos (by omega) ?_
    refine Ev.bind (mt_ev (n0 + i) (by omega)) ?_
    have e : rdOf ByteArray.empty (marks n0 d0) (i : Int) = mt (n0 + i) := by
      simp [rdOf, List.getD_eq_getElem?_getD, marks_get d0 n0 i (by omega)]
    refine Ev.pos (by rw [e]) ?_
    rw [w64 (by omega) (by omega), w64 (by omega) (by omega)]
    exact ih (i + 1) (by omega)
theorem heldStringS_ev (d0 n0 : Nat) (hb : n0 + d0 ≤ 1152921504606846976) (hb2 : d0 ≤ 35184372088832) : Ev (fun k => laws_heldStringS.f k (marks n0 d0) (n0 : Int)) ((n0 + d0 : Nat) : Int) := heldStringS_l d0 n0 hb hb2 d0 0 (by omega)

/-! WordsOf: both sides put the same letters -/
def digN (c t : Nat) : Nat := c / 3 ^ t % 3
theorem digit_fin : ∀ c : Fin 26, ∀ t : Fin 3, spec_l01Digit.f 10 (c.val : Int) (t.val : Int) = some ((digN c.val t.val : Nat) : Int) := by decide +kernel
theorem digits_fin : ∀ c : Fin 26, ∀ n : Fin 4, impl_digitsOf.f 10 (n.val : Int) (c.val : Int) = some ((List.range n.val).map fun t => ((digN c.val t : Nat) : Int)) := by decide +kernel
theorem digit_ev (c t : Nat) (hc : c < 26) (ht : t < 3) : Ev (fun k => spec_l01Digit.f k (c : Int) (t : Int)) ((digN c t : Nat) : Int) :=
  Ev.of (fun k => spec_l01Digit.mono _ _ k) (digit_fin ⟨c, hc⟩ ⟨t, ht⟩)
theorem digits_ev (c n : Nat) (hc : c < 26) (hn : n < 4) : Ev (fun k => impl_digitsOf.f k (n : Int) (c : Int)) ((List.range n).map fun t => ((digN c t : Nat) : Int)) :=
  Ev.of (fun k => impl_digitsOf.mono _ _ k) (digits_fin ⟨c, hc⟩ ⟨n, hn⟩)
theorem digN_lt (c t : Nat) : digN c t < 3 := Nat.mod_lt _ (by omega)
def letter (d : Nat) : ByteArray := (⟨#[97, 98]⟩ : ByteArray).extract d (d + 1)
theorem letter_size (d : Nat) (h : d < 2) : (letter d).size = 1 := by
  have : d = 0 ∨ d = 1 := by omega
  rcases this with rfl | rfl <;> rfl
def putE (i : Nat) (ws : List ByteArray) (t d : Nat) : Except (List ByteArray) (List ByteArray) :=
  if d = 2 then .ok ws else if (ws.getD t ByteArray.empty).size < i then .error ws else .ok (ws.set t (ws.getD t ByteArray.empty ++ letter d))
def putFrom (i c : Nat) : Nat → Nat → List ByteArray → Except (List ByteArray) (List ByteArray)
  | 0, _, ws => .ok ws
  | m + 1, t, ws => match putE i ws t (digN c t) with
    | .ok w => putFrom i c m (t + 1) w
    | .error w => .error w
def putAll (n : Nat) : List Nat → Nat → List ByteArray → Except (List ByteArray) (List ByteArray)
  | [], _, ws => .ok ws
  | c :: cs, i, ws => match putFrom i c n 0 ws with
    | .ok w => putAll n cs (i + 1) w
    | .error w => .error w
/-- all words at most this long -/
def Short (b : Nat) (ws : List ByteArray) : Prop := ∀ w ∈ ws, w.size ≤ b
theorem Short.set {b : Nat} {ws : List ByteArray} (h : Short b ws) {t : Nat} {x : ByteArray} (hx : x.size ≤ b) : Short b (ws.set t x) := by
  intro w hw
  rcases List.mem_or_eq_of_mem_set hw with h1 | h1
  · exact h w h1
  · rw [h1]; exact hx
theorem Short.getD {b : Nat} {ws : List ByteArray} (h : Short b ws) (t : Nat) : (ws.getD t ByteArray.empty).size ≤ b := by
  rw [List.getD_eq_getElem?_getD]
  by_cases ht : t < ws.length
  · rw [List.getElem?_eq_getElem ht]
    exact h _ (List.getElem_mem ht)
  · rw [List.getElem?_eq_none (by omega)]
    exact Nat.zero_le _
/-- column i's tape t: words of earlier tapes may be one longer -/
def Shorts (i t : Nat) (ws : List ByteArray) : Prop := ∀ j w, ws[j]? = some w → w.size ≤ if j < t then i + 1 else i
theorem Shorts.getD {i t : Nat} {ws : List ByteArray} (h : Shorts i t ws) : (ws.getD t ByteArray.empty).size ≤ i := by
  rw [List.getD_eq_getElem?_getD]
  cases e : ws[t]? with
  | none => exact Nat.zero_le _
  | some w => have := h t w e; rw [if_neg (by omega)] at this; exact this
theorem Shorts.next {i t : Nat} {ws : List ByteArray} (h : Shorts i t ws) : Shorts i (t + 1) ws := by
  intro j w hj
  have := h j w hj
  split at this <;> split <;> omega
theorem Shorts.put {i t : Nat} {ws : List ByteArray} (h : Shorts i t ws) {x : ByteArray} (hx : x.size ≤ i + 1) : Shorts i (t + 1) (ws.set t x) := by
  intro j w hj
  rw [List.getElem?_set] at hj
  by_cases e : t = j
  · subst e
    rw [if_pos rfl] at hj
    split at hj
    · injection hj with hj
      subst hj
      rw [if_pos (by omega)]
      exact hx
    · cases hj
  · rw [if_neg e] at hj
    have := h j w hj
    split at this <;> split <;> omega
theorem Shorts.start {i n : Nat} {ws : List ByteArray} (h : Shorts i n ws) (hl : ws.length = n) : Shorts (i + 1) 0 ws := by
  intro j w hj
  have hjl := (List.getElem?_eq_some_iff.1 hj).1
  have := h j w hj
  rw [if_pos (by omega)] at this
  rw [if_neg (by omega)]
  exact this
theorem wide_lit (d : Nat) (hd : d < 2) : (letter d) = (⟨#[97, 98]⟩ : ByteArray).extract ((d : Int)).toNat (wrap64 ((d : Int) + 1)).toNat := by
  rw [w64 (by omega) (by omega)]
  unfold letter
  congr 1
theorem spec_inner (n : Nat) (hn : n ≤ 3) (l : List Nat) (hl : ∀ c ∈ l, c < 26) (hlen : l.length ≤ 40) (i : Nat) (c : Nat) (hc : l[i]? = some c) (R : List ByteArray × Bool) (m : Nat) :
    ∀ (t : Nat) (ws : List ByteArray), t + m = n → ws.length = n → Shorts i t ws →
      (∀ w, putFrom i c m t ws = .ok w → Ev (fun k => spec_l01Tuple.l0 k (n : Int) (l.map Int.ofNat) w ((i : Int) + 1)) R) → (∀ w, putFrom i c m t ws = .error w → R = (w, false)) →
      Ev (fun k => spec_l01Tuple.l1 k (n : Int) (l.map Int.ofNat) ws (i : Int) (t : Int)) R := by
  have hi : i < l.length := (List.getElem?_eq_some_iff.1 hc).1
  have hcl : c < 26 := hl c (List.mem_of_getElem? hc)
  have hrd : rd (l.map Int.ofNat) (i : Int) = (c : Int) := by
    simp [rd, List.getD_eq_getElem?_getD, hc]
  induction m with
  | zero =>
    intro t ws ht hw hs h1 h2
    apply Ev.succ
    simp only [spec_l01Tuple.l1]
    refine Ev.neg (by omega) ?_
    rw [w64 (by omega) (by omega)]
    exact h1 ws rfl
  | succ m ih =>
    intro t ws ht hw hs h1 h2
    apply Ev.succ
    simp only [spec_l01Tuple.l1, hrd, List.length_map]
    refine Ev.pos (by omega) ?_
    refine Ev.pos (by omega) ?_
    refine Ev.pos (by omega) ?_
    refine Ev.bind (digit_ev c t hcl (by omega)) ?_
    have hd := digN_lt c t
    by_cases e2 : digN c t = 2
    · refine Ev.pos (by omega) ?_
      rw [w64 (by omega) (by omega)]
      have e : ∀ w, putFrom i c m (t + 1) ws = w → putFrom i c (m + 1) t ws = w := fun w h => by simp [putFrom, putE, e2, h]
      exact ih (t + 1) ws (by omega) hw hs.next (fun w h => h1 w (e _ h)) (fun w h => h2 w (e _ h))
    · refine Ev.neg (by omega) ?_
      refine Ev.pos (by omega) ?_
      refine Ev.pos (by omega) ?_
      have hg : rdOf ByteArray.empty ws (t : Int) = ws.getD t ByteArray.empty := by simp [rdOf]
      rw [hg]
      by_cases e3 : (ws.getD t ByteArray.empty).size < i
      · refine Ev.pos (by omega) ?_
        have e : putFrom i c (m + 1) t ws = .error ws := by simp only [putFrom, putE, if_neg e2, if_pos e3]
        exact Ev.const (by rw [h2 ws e])
      · have hz := hs.getD
        have hle := wide_lit (digN c t) (by omega)
        refine Ev.neg (by omega) ?_
        refine Ev.pos (by omega) ?_
        refine Ev.pos (by rw [w64 (by omega) (by omega)]; omega) ?_
        refine Ev.pos (by rw [w64 (by omega) (by omega)]; omega) ?_
        rw [← hle]
        refine Ev.pos (by rw [letter_size _ (by omega)]; omega) ?_
        rw [w64 (by omega) (by omega), Int.toNat_natCast]
        have e : ∀ w, putFrom i c m (t + 1) (ws.set t (ws.getD t ByteArray.empty ++ letter (digN c t))) = w → putFrom i c (m + 1) t ws = w := fun w h => by simp only [putFrom, putE, if_neg e2, if_neg e3, h]
        exact ih (t + 1) _ (by omega) (by simpa using hw) (hs.put (by rw [ByteArray.size_append, letter_size _ (by omega)]; omega)) (fun w h => h1 w (e _ h)) (fun w h => h2 w (e _ h))
theorem putFrom_keeps (i c n : Nat) (m : Nat) : ∀ (t : Nat) (ws w : List ByteArray), t + m = n → ws.length = n → Shorts i t ws → putFrom i c m t ws = .ok w → w.length = n ∧ Shorts i n w := by
  induction m with
  | zero =>
    intro t ws w ht hw hs h
    simp only [putFrom] at h
    injection h with h
    subst h
    obtain rfl : t = n := by omega
    exact ⟨hw, hs⟩
  | succ m ih =>
    intro t ws w ht hw hs h
    have hd := digN_lt c t
    simp only [putFrom, putE] at h
    by_cases e2 : digN c t = 2
    · rw [if_pos e2] at h
      exact ih (t + 1) ws w (by omega) hw hs.next h
    · rw [if_neg e2] at h
      by_cases e3 : (ws.getD t ByteArray.empty).size < i
      · rw [if_pos e3] at h
        cases h
      · rw [if_neg e3] at h
        have hz := hs.getD
        exact ih (t + 1) _ w (by omega) (by simpa using hw) (hs.put (by rw [ByteArray.size_append, letter_size _ (by omega)]; omega)) h
def resS : Except (List ByteArray) (List ByteArray) → List ByteArray × Bool
  | .ok w => (w, true)
  | .error w => (w, false)
def resI : Except (List ByteArray) (List ByteArray) → List ByteArray × Bool
  | .ok w => (w, true)
  | .error _ => ([], false)
theorem spec_outer (n : Nat) (hn : n ≤ 3) (l : List Nat) (hl : ∀ c ∈ l, c < 26) (hlen : l.length ≤ 40) (d : Nat) :
    ∀ (i : Nat) (ws : List ByteArray), i + d = l.length → ws.length = n → Shorts i 0 ws → Ev (fun k => spec_l01Tuple.l0 k (n : Int) (l.map Int.ofNat) ws (i : Int)) (resS (putAll n (l.drop i) i ws)) := by
  induction d with
  | zero =>
    intro i ws hi hw hs
    apply Ev.succ
    simp only [spec_l01Tuple.l0, List.length_map]
    refine Ev.neg (by omega) ?_
    rw [List.drop_of_length_le (by omega)]
    exact Ev.const rfl
  | succ d ih =>
    intro i ws hi hw hs
    have hlt : i < l.length := by omega
    apply Ev.succ
    simp only [spec_l01Tuple.l0, List.length_map]
    refine Ev.pos (by omega) ?_
    rw [List.drop_eq_getElem_cons hlt]
    refine spec_inner n hn l hl hlen i l[i] (List.getElem?_eq_getElem hlt) _ n 0 ws (by omega) hw hs (fun w h => ?_) (fun w h => ?_)
    · simp only [putAll, h]
      obtain ⟨h1, h2⟩ := putFrom_keeps i l[i] n n 0 ws w (by omega) hw hs h
      exact ih (i + 1) w (by omega) h1 (h2.start h1)
    · simp only [putAll, h, resS]
theorem impl_inner (n : Nat) (hn : n ≤ 3) (l : List Nat) (hlen : l.length ≤ 40) (i c : Nat) (hi : i < l.length) (hc : c < 26) (R : List ByteArray × Bool) (m : Nat) :
    ∀ (t : Nat) (ws : List ByteArray), t + m = n → ws.length = n → Shorts i t ws →
      (∀ w, putFrom i c m t ws = .ok w → Ev (fun k => impl_wordsOf.l0 k (n : Int) w (l.map Int.ofNat) (l.length : Int) ((i : Int) + 1)) R) → (∀ w, putFrom i c m t ws = .error w → R = ([], false)) →
      Ev (fun k => impl_wordsOf.l1 k (n : Int) ws (i : Int) (l.map Int.ofNat) (l.length : Int) (i : Int) ((List.range n).map fun t => ((digN c t : Nat) : Int)) (n : Int) (t : Int)) R := by
  induction m with
  | zero =>
    intro t ws ht hw hs h1 h2
    apply Ev.succ
    simp only [impl_wordsOf.l1]
    refine Ev.neg (by omega) ?_
    rw [w64 (by omega) (by omega)]
    exact h1 ws rfl
  | succ m ih =>
    intro t ws ht hw hs h1 h2
    have hrd : rd ((List.range n).map fun t => ((digN c t : Nat) : Int)) (t : Int) = ((digN c t : Nat) : Int) := by
      simp [rd, List.getD_eq_getElem?_getD, show t < n by omega]
    apply Ev.succ
    simp only [impl_wordsOf.l1, hrd, List.length_map, List.length_range]
    refine Ev.pos (by omega) ?_
    refine Ev.pos (by omega) ?_
    refine Ev.pos (by omega) ?_
    have hd := digN_lt c t
    by_cases e2 : digN c t = 2
    · refine Ev.pos (by omega) ?_
      rw [w64 (by omega) (by omega)]
      have e : ∀ w, putFrom i c m (t + 1) ws = w → putFrom i c (m + 1) t ws = w := fun w h => by simp [putFrom, putE, e2, h]
      exact ih (t + 1) ws (by omega) hw hs.next (fun w h => h1 w (e _ h)) (fun w h => h2 w (e _ h))
    · refine Ev.neg (by omega) ?_
      refine Ev.pos (by omega) ?_
      have hg : rdOf ByteArray.empty ws (t : Int) = ws.getD t ByteArray.empty := by simp [rdOf]
      rw [hg]
      by_cases e3 : (ws.getD t ByteArray.empty).size < i
      · refine Ev.pos (by omega) ?_
        have e : putFrom i c (m + 1) t ws = .error ws := by simp only [putFrom, putE, if_neg e2, if_pos e3]
        exact Ev.const (by rw [h2 ws e])
      · have hz := hs.getD
        have hle := wide_lit (digN c t) (by omega)
        refine Ev.neg (by omega) ?_
        refine Ev.pos (by omega) ?_
        refine Ev.pos (by rw [w64 (by omega) (by omega)]; omega) ?_
        refine Ev.pos (by rw [w64 (by omega) (by omega)]; omega) ?_
        rw [← hle]
        refine Ev.pos (by rw [letter_size _ (by omega)]; omega) ?_
        rw [w64 (by omega) (by omega), Int.toNat_natCast]
        have e : ∀ w, putFrom i c m (t + 1) (ws.set t (ws.getD t ByteArray.empty ++ letter (digN c t))) = w → putFrom i c (m + 1) t ws = w := fun w h => by simp only [putFrom, putE, if_neg e2, if_neg e3, h]
        exact ih (t + 1) _ (by omega) (by simpa using hw) (hs.put (by rw [ByteArray.size_append, letter_size _ (by omega)]; omega)) (fun w h => h1 w (e _ h)) (fun w h => h2 w (e _ h))
theorem impl_outer (n : Nat) (hn : n ≤ 3) (l : List Nat) (hl : ∀ c ∈ l, c < 26) (hlen : l.length ≤ 40) (d : Nat) :
    ∀ (i : Nat) (ws : List ByteArray), i + d = l.length → ws.length = n → Shorts i 0 ws → Ev (fun k => impl_wordsOf.l0 k (n : Int) ws (l.map Int.ofNat) (l.length : Int) (i : Int)) (resI (putAll n (l.drop i) i ws)) := by
  induction d with
  | zero =>
    intro i ws hi hw hs
    apply Ev.succ
    simp only [impl_wordsOf.l0, List.length_map]
    refine Ev.neg (by omega) ?_
    rw [List.drop_of_length_le (by omega)]
    exact Ev.const rfl
  | succ d ih =>
    intro i ws hi hw hs
    have hlt : i < l.length := by omega
    have hrd : rd (l.map Int.ofNat) (i : Int) = (l[i] : Int) := by
      simp [rd, List.getD_eq_getElem?_getD, hlt]
    apply Ev.succ
    simp only [impl_wordsOf.l0, List.length_map, hrd]
    refine Ev.pos (by omega) ?_
    refine Ev.pos (by omega) ?_
    refine Ev.pos (by omega) ?_
    rw [List.drop_eq_getElem_cons hlt]
    refine Ev.bind (digits_ev l[i] n (hl _ (List.getElem_mem hlt)) (by omega)) ?_
    simp only [List.length_map, List.length_range]
    refine impl_inner n hn l hlen i l[i] hlt (hl _ (List.getElem_mem hlt)) _ n 0 ws (by omega) hw hs (fun w h => ?_) (fun w h => ?_)
    · simp only [putAll, h]
      obtain ⟨h1, h2⟩ := putFrom_keeps i l[i] n n 0 ws w (by omega) hw hs h
      exact ih (i + 1) w (by omega) h1 (h2.start h1)
    · simp only [putAll, h, resI]
theorem shorts_new (n : Nat) : Shorts 0 0 (List.replicate n (⟨#[]⟩ : ByteArray)) := by
  intro j w hj
  rw [List.getElem?_replicate] at hj
  split at hj
  · injection hj with hj
    subst hj
    exact Nat.zero_le _
  · cases hj
theorem spec_tuple_ev (n : Nat) (hn : n ≤ 3) (l : List Nat) (hl : ∀ c ∈ l, c < 26) (hlen : l.length ≤ 40) : Ev (fun k => spec_l01Tuple.f k (n : Int) (l.map Int.ofNat)) (resS (putAll n l 0 (List.replicate n ⟨#[]⟩))) := by
  unfold spec_l01Tuple.f
  refine Ev.pos (by omega) ?_
  refine Ev.pos (by omega) ?_
  rw [Int.toNat_natCast]
  have := spec_outer n hn l hl hlen l.length 0 (List.replicate n ⟨#[]⟩) (by omega) (by simp) (shorts_new n)
  simpa using this
theorem impl_tuple_ev (n : Nat) (hn : n ≤ 3) (l : List Nat) (hl : ∀ c ∈ l, c < 26) (hlen : l.length ≤ 40) : Ev (fun k => impl_wordsOf.f k (n : Int) (l.map Int.ofNat)) (resI (putAll n l 0 (List.replicate n ⟨#[]⟩))) := by
  unfold impl_wordsOf.f
  refine Ev.pos (by omega) ?_
  refine Ev.pos (by omega) ?_
  rw [Int.toNat_natCast, List.length_map]
  have := impl_outer n hn l hl hlen l.length 0 (List.replicate n ⟨#[]⟩) (by omega) (by simp) (shorts_new n)
  simpa using this

theorem in_eq (a b c : Int) : spec_l00In.f a b c = some (decide (b ≤ a) && decide (a ≤ c)) := by
  unfold spec_l00In.f
  by_cases h : b ≤ a
  · simp [h]
  · simp [h]
theorem within_eq (a b c : Int) : impl_within.f a b c = some (decide (b ≤ a) && decide (a ≤ c)) := by
  unfold impl_within.f
  by_cases h : b ≤ a <;> simp [h]
theorem areTapes_eq (a : Int) : impl_areTapes.f a = some (decide (1 ≤ a) && decide (a ≤ 3)) := by
  unfold impl_areTapes.f
  rw [within_eq]
  rfl
def wd (n : Nat) : Nat := 3 ^ n - 1
theorem wideS_fin : ∀ n : Fin 4, spec_l01Wide.f 10 (n.val : Int) = some ((wd n.val : Nat) : Int) := by decide +kernel
theorem wideI_fin : ∀ n : Fin 4, impl_widthOf.f 10 (n.val : Int) = some ((wd n.val : Nat) : Int) := by decide +kernel
theorem wideS_ev (n : Nat) (h : n ≤ 3) : Ev (fun k => spec_l01Wide.f k (n : Int)) ((wd n : Nat) : Int) := Ev.of (fun k => spec_l01Wide.mono _ k) (wideS_fin ⟨n, by omega⟩)
theorem wideI_ev (n : Nat) (h : n ≤ 3) : Ev (fun k => impl_widthOf.f k (n : Int)) ((wd n : Nat) : Int) := Ev.of (fun k => impl_widthOf.mono _ k) (wideI_fin ⟨n, by omega⟩)
theorem wd_le (n : Nat) (h : n ≤ 3) : wd n ≤ 26 := by
  have : n = 0 ∨ n = 1 ∨ n = 2 ∨ n = 3 := by omega
  rcases this with rfl | rfl | rfl | rfl <;> decide
def isCol (n : Nat) (x : Int) : Bool := decide (0 ≤ x) && decide (x ≤ (wd n : Int) - 1)
theorem spec_cols (n : Nat) (h1 : 1 ≤ n) (hn : n ≤ 3) (l : List Int) (hlen : l.length ≤ 40) (R : List ByteArray × Int) (d : Nat) : ∀ i : Nat, i + d = l.length →
    ((∀ x ∈ l.drop i, isCol n x = true) → Ev (fun k => (spec_l01Tuple.f k (n : Int) l).bind fun bt115 => (if bt115.2 = true then (some (bt115.1, 0)) else (some ((([] : List ByteArray)), 4)))) R) →
    (¬ (∀ x ∈ l.drop i, isCol n x = true) → R = ([], 2)) → Ev (fun k => spec_WordsOf.l0 k (n : Int) l (i : Int)) R := by
  induction d with
  | zero =>
    intro i hi ha hb
    apply Ev.succ
    simp only [spec_WordsOf.l0]
    refine Ev.neg (by omega) ?_
    exact ha (by rw [List.drop_of_length_le (by omega)]; simp)
  | succ d ih =>
    intro i hi ha hb
    have hlt : i < l.length := by omega
    have hw := wd_le n hn
    apply Ev.succ
    simp only [spec_WordsOf.l0, rd_nat l i hlt, in_eq, Option.bind_some]
    refine Ev.pos (by omega) ?_
    refine Ev.pos (by omega) ?_
    refine Ev.bind (wideS_ev n hn) ?_
    rw [w64 (n := ((wd n : Nat) : Int) - 1) (by omega) (by omega)]
    rw [List.drop_eq_getElem_cons hlt] at ha hb
    by_cases hc : isCol n l[i] = true
    · refine Ev.pos hc ?_
      rw [w64 (by omega) (by omega)]
      exact ih (i + 1) (by omega) (fun h => ha (List.forall_mem_cons.2 ⟨hc, h⟩)) (fun h => hb (fun h' => h (List.forall_mem_cons.1 h').2))
    · refine Ev.neg hc ?_
      exact Ev.const (by rw [hb (fun h => hc (h _ List.mem_cons_self))])
theorem isColumn_ev (n : Nat) (h1 : 1 ≤ n) (hn : n ≤ 3) (x : Int) : Ev (fun k => impl_isColumn.f k (n : Int) x) (isCol n x) := by
  have hw := wd_le n hn
  unfold impl_isColumn.f
  simp only [areTapes_eq, Option.bind_some, within_eq]
  refine Ev.pos (by simp; omega) ?_
  refine Ev.bind (wideI_ev n hn) ?_
  rw [w64 (by omega) (by omega)]
  exact Ev.const rfl
theorem impl_cols (n : Nat) (h1 : 1 ≤ n) (hn : n ≤ 3) (l : List Int) (hlen : l.length ≤ 40) (R : List ByteArray × Int) (d : Nat) : ∀ i : Nat, i + d = l.length →
    ((∀ x ∈ l.drop i, isCol n x = true) → Ev (fun k => (impl_wordsOf.f k (n : Int) l).bind fun bt158 => (if bt158.2 = true then (some (bt158.1, 0)) else (some (([] : List ByteArray), 4)))) R) →
    (¬ (∀ x ∈ l.drop i, isCol n x = true) → R = ([], 2)) → Ev (fun k => impl_WordsOf.l0 k (n : Int) (l.take i) l (l.length : Int) (i : Int)) R := by
  induction d with
  | zero =>
    intro i hi ha hb
    apply Ev.succ
    simp only [impl_WordsOf.l0]
    refine Ev.neg (by omega) ?_
    rw [List.take_of_length_le (by omega)]
    exact ha (by rw [List.drop_of_length_le (by omega)]; simp)
  | succ d ih =>
    intro i hi ha hb
    have hlt : i < l.length := by omega
    apply Ev.succ
    simp only [impl_WordsOf.l0, rd_nat l i hlt]
    refine Ev.pos (by omega) ?_
    refine Ev.pos (by omega) ?_
    refine Ev.pos (by omega) ?_
    refine Ev.bind (isColumn_ev n h1 hn l[i]) ?_
    rw [List.drop_eq_getElem_cons hlt] at ha hb
    by_cases hc : isCol n l[i] = true
    · refine Ev.pos hc ?_
      refine Ev.pos (by simp; omega) ?_
      rw [w64 (by omega) (by omega), List.take_append_getElem hlt]
      exact ih (i + 1) (by omega) (fun h => ha (List.forall_mem_cons.2 ⟨hc, h⟩)) (fun h => hb (fun h' => h (List.forall_mem_cons.1 h').2))
    · refine Ev.neg hc ?_
      exact Ev.const (by rw [hb (fun h => hc (h _ List.mem_cons_self))])
/-- what both answer -/
noncomputable def wordsR (a : Int) (l : List Int) : List ByteArray × Int :=
  if 1 ≤ a ∧ a ≤ 3 ∧ l.length ≤ 40 ∧ (∀ x ∈ l, isCol a.toNat x = true) then (match putAll a.toNat (l.map Int.toNat) 0 (List.replicate a.toNat ⟨#[]⟩) with | .ok w => (w, 0) | .error _ => ([], 4)) else ([], 2)
theorem cols_nat (n : Nat) (hn : n ≤ 3) (l : List Int) (h : ∀ x ∈ l, isCol n x = true) : l = (l.map Int.toNat).map Int.ofNat ∧ ∀ c ∈ l.map Int.toNat, c < 26 := by
  have hw := wd_le n hn
  constructor
  · rw [List.map_map]
    conv => lhs; rw [← List.map_id l]
    apply List.map_congr_left
    intro x hx
    have := h x hx
    simp only [isCol, Bool.and_eq_true, decide_eq_true_eq] at this
    simp; omega
  · intro c hc
    obtain ⟨x, hx, rfl⟩ := List.mem_map.1 hc
    have := h x hx
    simp only [isCol, Bool.and_eq_true, decide_eq_true_eq] at this
    omega
theorem spec_WordsOf_ev (a : Int) (l : List Int) : Ev (fun k => spec_WordsOf.f k a l) (wordsR a l) := by
  unfold spec_WordsOf.f
  simp only [in_eq, Option.bind_some]
  by_cases ht : 1 ≤ a ∧ a ≤ 3
  · obtain ⟨n, rfl⟩ : ∃ n : Nat, a = n := ⟨a.toNat, by omega⟩
    refine Ev.pos (by simp; omega) ?_
    apply Ev.succ
    simp only [spec_WordsOf.j0]
    by_cases hl : l.length ≤ 40
    · refine Ev.neg (by simp; omega) ?_
      refine spec_cols n (by omega) (by omega) l hl _ l.length 0 (by omega) (fun hc => ?_) (fun hc => ?_)
      · rw [List.drop_zero] at hc
        obtain ⟨e1, e2⟩ := cols_nat n (by omega) l hc
        have h := spec_tuple_ev n (by omega) (l.map Int.toNat) e2 (by simpa using hl)
        rw [← e1] at h
        refine Ev.bind h (Ev.const ?_)
        have hw : wordsR (n : Int) l = (match putAll n (l.map Int.toNat) 0 (List.replicate n ⟨#[]⟩) with | .ok w => (w, 0) | .error _ => ([], 4)) := by
          unfold wordsR
          exact if_pos ⟨by omega, by omega, hl, hc⟩
        rw [hw]
        cases putAll n (l.map Int.toNat) 0 (List.replicate n ⟨#[]⟩) <;> simp [resS]
      · rw [List.drop_zero] at hc
        unfold wordsR
        exact if_neg (fun h => hc h.2.2.2)
    · refine Ev.pos (by simp; omega) ?_
      refine Ev.const ?_
      unfold wordsR
      rw [if_neg (fun h => hl h.2.2.1)]
  · refine Ev.neg (by simp; omega) ?_
    apply Ev.succ
    simp only [spec_WordsOf.j0]
    refine Ev.const ?_
    unfold wordsR
    rw [if_neg (fun h => ht ⟨h.1, h.2.1⟩)]
theorem impl_WordsOf_ev (a : Int) (l : List Int) : Ev (fun k => impl_WordsOf.f k a l) (wordsR a l) := by
  unfold impl_WordsOf.f
  simp only [areTapes_eq, Option.bind_some]
  by_cases ht : 1 ≤ a ∧ a ≤ 3
  · obtain ⟨n, rfl⟩ : ∃ n : Nat, a = n := ⟨a.toNat, by omega⟩
    refine Ev.pos (by simp; omega) ?_
    apply Ev.succ
    simp only [impl_WordsOf.j0]
    by_cases hl : l.length ≤ 40
    · refine Ev.neg (by simp; omega) ?_
      refine impl_cols n (by omega) (by omega) l hl _ l.length 0 (by omega) (fun hc => ?_) (fun hc => ?_)
      · rw [List.drop_zero] at hc
        obtain ⟨e1, e2⟩ := cols_nat n (by omega) l hc
        have h := impl_tuple_ev n (by omega) (l.map Int.toNat) e2 (by simpa using hl)
        rw [← e1] at h
        refine Ev.bind h (Ev.const ?_)
        have hw : wordsR (n : Int) l = (match putAll n (l.map Int.toNat) 0 (List.replicate n ⟨#[]⟩) with | .ok w => (w, 0) | .error _ => ([], 4)) := by
          unfold wordsR
          exact if_pos ⟨by omega, by omega, hl, hc⟩
        rw [hw]
        cases putAll n (l.map Int.toNat) 0 (List.replicate n ⟨#[]⟩) <;> simp [resI]
      · rw [List.drop_zero] at hc
        unfold wordsR
        exact if_neg (fun h => hc h.2.2.2)
    · refine Ev.pos (by simp; omega) ?_
      refine Ev.const ?_
      unfold wordsR
      rw [if_neg (fun h => hl h.2.2.1)]
  · refine Ev.neg (by simp; omega) ?_
    apply Ev.succ
    simp only [impl_WordsOf.j0]
    refine Ev.const ?_
    unfold wordsR
    rw [if_neg (fun h => ht ⟨h.1, h.2.1⟩)]
theorem putE_length (i : Nat) (ws : List ByteArray) (t d : Nat) (w : List ByteArray) (h : putE i ws t d = .ok w) : w.length = ws.length := by
  unfold putE at h
  split at h
  · injection h with h; rw [h]
  · split at h
    · cases h
    · injection h with h; rw [← h]; simp
theorem putFrom_length (i c m : Nat) : ∀ (t : Nat) (ws w : List ByteArray), putFrom i c m t ws = .ok w → w.length = ws.length := by
  induction m with
  | zero => intro t ws w h; simp only [putFrom] at h; injection h with h; rw [h]
  | succ m ih =>
    intro t ws w h
    simp only [putFrom] at h
    cases e : putE i ws t (digN c t) with
    | error x => rw [e] at h; cases h
    | ok x => rw [e] at h; rw [ih _ _ _ h, putE_length _ _ _ _ _ e]
theorem putAll_length (n : Nat) : ∀ (cs : List Nat) (i : Nat) (ws w : List ByteArray), putAll n cs i ws = .ok w → w.length = ws.length
  | [], _, ws, w, h => by simp only [putAll] at h; injection h with h; rw [h]
  | c :: cs, i, ws, w, h => by
    simp only [putAll] at h
    cases e : putFrom i c n 0 ws with
    | error x => rw [e] at h; cases h
    | ok x => rw [e] at h; rw [putAll_length n cs _ _ _ h, putFrom_length _ _ _ _ _ _ e]
theorem wordsR_len (a : Int) (l : List Int) : (wordsR a l).1.length ≤ 3 := by
  unfold wordsR
  split
  · rename_i h
    cases e : putAll a.toNat (l.map Int.toNat) 0 (List.replicate a.toNat ⟨#[]⟩) with
    | error x => simp
    | ok w => simp only; rw [putAll_length _ _ _ _ _ e]; simp; omega
  · simp
theorem FnExactWordsOf : laws_FnExactWordsOf.Pure := by
  intro a l _ hlm hl8 hwf
  apply Ev.rounds
  have hl : l.length ≤ 35184372088832 := by omega
  have hR := wordsR_len a l
  generalize hr : wordsR a l = r at hR
  have hS : Ev (fun k => spec_WordsOf.f k a l) r := hr ▸ spec_WordsOf_ev a l
  have hI : Ev (fun k => impl_WordsOf.f k a l) r := hr ▸ impl_WordsOf_ev a l
  unfold laws_FnExactWordsOf.f
  by_cases hbig : (l.length : Int) > 1048576
  · exact Ev.pos hbig (Ev.const rfl)
  · refine Ev.neg hbig ?_
    refine Ev.bind (toInt64S_ev l hl) ?_
    refine Ev.bind hS ?_
    refine Ev.bind (toInt64S_ev l hl) ?_
    refine Ev.bind hI ?_
    refine Ev.bind (eqStringS_ev r.1 (by omega)) ?_
    refine Ev.pos rfl ?_
    apply Ev.succ
    simp only [laws_FnExactWordsOf.j0, bne_self_eq_false]
    refine Ev.neg (by decide) ?_
    refine Ev.bind (toInt64S_ev l hl) ?_
    refine Ev.bind (eqInt64S_ev l hl) ?_
    refine Ev.pos rfl ?_
    obtain ⟨zs, _, hm⟩ := markInt64S_ev l 1 (by omega) hl
    refine Ev.bind hm ?_
    refine Ev.neg (by omega) ?_
    refine Ev.bind (eqStringS_ev r.1 (by omega)) ?_
    refine Ev.pos rfl ?_
    apply Ev.succ
    simp only [laws_FnExactWordsOf.j1]
    refine Ev.neg (by decide) ?_
    refine Ev.bind (markStringS_ev r.1 1 (by omega) (by omega)) ?_
    refine Ev.bind (heldStringS_ev r.1.length 1 (by omega) (by omega)) ?_
    refine Ev.neg (by omega) ?_
    refine Ev.pos rfl ?_
    refine Ev.bind (toInt64S_ev l hl) ?_
    refine Ev.bind hI ?_
    refine Ev.bind (eqStringS_ev r.1 (by omega)) ?_
    refine Ev.pos rfl ?_
    apply Ev.succ
    simp only [laws_FnExactWordsOf.j2, bne_self_eq_false]
    refine Ev.neg (by decide) ?_
    refine Ev.bind (heldStringS_ev r.1.length 1 (by omega) (by omega)) ?_
    refine Ev.neg (by omega) ?_
    refine Ev.pos rfl ?_
    exact Ev.const rfl

end Go.Proofs.Ytbbkhkipnkejmaa.Pure
