import Derived.Test.YtelicdmaohllgaaDoorRTP2
import Derived.Lib.AppendIntMem
import Derived.Shelf.LaysM
import Derived.Shelf.Strconv.Itoa3
namespace Go.Proofs.YtelicdmaohllgaaDoor.X
set_option maxHeartbeats 16000000
set_option maxRecDepth 100000
open Go.RowKit Go.Proofs.YtelicdmaohllgaaDoorW.PrintWords Go.Proofs.YtelicdmaohllgaaDoorW.PrintLast Go.Proofs.YtelicdmaohllgaaDoorW.PrintMore
attribute [local go_sem] max2_int min2_int max_two min_two max_three min_three max_four min_four
set_option linter.unusedVariables false
set_option linter.unusedSimpArgs false
def spec_Decimal.f : Nat → Int → Option (ByteArray)
 | 0, _ => none
 | k + 1, a0 => if a0 ≥ 10 then ((spec_Decimal.f k (wrap64 (Int.tdiv a0 10))).bind fun t421 => ((some (([(wrap64 (48 + (Int.tmod a0 10))) % 256] : List Int) : List Int)).bind fun y422 => (if t421.size + (strOfNums y422).size ≤ 9223372036854775807 then (some (t421 ++ (strOfNums y422))) else (none)))) else (some (strOfNums (([(wrap64 (48 + a0)) % 256] : List Int))))
theorem spec_Decimal.mono_l : ∀ k, (∀ y0, LeO (spec_Decimal.f k y0) (spec_Decimal.f (k + 1) y0))
 | 0 => fun _ r h => by simp [spec_Decimal.f] at h
 | k + 1 => by
  have ih0 := spec_Decimal.mono_l k
  ·intro y0; unfold spec_Decimal.f
   repeat' first
   | (with_reducible exact ih0 _)
   | (with_reducible exact LeO.refl _)
   | (with_reducible exact LeO.none _)
   | (with_reducible refine LeO.ite ?_ ?_)
   | (with_reducible refine LeO.bind ?_ (fun _ => ?_))
   | exact ih0 _
   | exact LeO.none _
   | refine LeO.ite ?_ ?_
   | refine LeO.bind ?_ (fun _ => ?_)
theorem spec_Decimal.mono : ∀ a0 k, LeO (spec_Decimal.f k a0) (spec_Decimal.f (k + 1) a0) := by
 intro a0 k; have ih0 := spec_Decimal.mono_l k; exact ih0 a0
def spec_Decimal.T2 : Bool × List (List Nat × List Nat) := (true, [([], []), ([0], [0]), ([1], [1]), ([], []), ([3], [3]), ([4], [4]), ([5], [5]), ([6], [6]), ([7], [7]), ([2, 8], [2, 8]), ([9, 2, 0, 1, 2, 3, 4, 5, 6, 7, 8, 9], [9])])
def spec_Decimal.B2 : List Nat := [0, 1, 3, 0, 8, 24, 56, 120, 248, 511, 1023]
theorem spec_Decimal.tab2 : rtab .any (opsOf Tryd.f126 2) = spec_Decimal.T2 := by kernel_rfl
theorem spec_Decimal.bits2 : waitsOk spec_Decimal.T2.2 spec_Decimal.B2 = true := by kernel_rfl
theorem spec_Decimal.calls (k : Nat) : ∀ (a0 : Int) (r : ByteArray) (w : World) (h : spec_Decimal.f k a0 = some r),
  Calls Tryd.prog 126 #[.int .i64 a0] w fun e w' => e = .returned (.string r) ∧ Below w.heap.size w w' := by
 induction k using Nat.strongRecOn with
 | _ k ih =>
 intro a0 r w h
 cases k with
 | zero => exact absurd h (by simp [spec_Decimal.f])
 | succ k =>
 simp only [spec_Decimal.f] at h; have HB := am (Below.refl w.heap.size w); have H : (if a0 ≥ 10 then ((spec_Decimal.f k (wrap64 (Int.tdiv a0 10))).bind fun t421 => ((some (([(wrap64 (48 + (Int.tmod a0 10))) % 256] : List Int) : List Int)).bind fun y422 => (if t421.size + (strOfNums y422).size ≤ 9223372036854775807 then (some (t421 ++ (strOfNums y422))) else (none)))) else (some (strOfNums (([(wrap64 (48 + a0)) % 256] : List Int))))) = some r := h; clear h; by_cases c2 : a0 ≥ 10
 ·rw [if_pos c2] at H; have c2b0 : decide (10 ≤ a0) = true := decide_eq_true c2; clear c2; obtain ⟨t421, A30, H⟩ := oB H; replace H : ((some (([(wrap64 (48 + (Int.tmod a0 10))) % 256] : List Int) : List Int)).bind fun y422 => (if t421.size + (strOfNums y422).size ≤ 9223372036854775807 then (some (t421 ++ (strOfNums y422))) else (none))) = some r := H; have A3 := am A30; clear A30; obtain ⟨y422, hy422⟩ : ∃ y_ : List Int, y_ = (([(wrap64 (48 + (Int.tmod a0 10))) % 256] : List Int)) := ⟨_, rfl⟩; replace H : (if t421.size + (strOfNums y422).size ≤ 9223372036854775807 then (some (t421 ++ (strOfNums y422))) else (none)) = some r := tY hy422 H; have Ny422 := am hy422; clear hy422; by_cases c4 : t421.size + (strOfNums y422).size ≤ 9223372036854775807
  ·rw [if_pos c4] at H; have c4b0 := eq_true c4; have c4b1 := decide_eq_true c4
   try have c4b2 : (9223372036854775807 < t421.size + (strOfNums y422).size) = False := eq_false (Nat.not_lt.2 c4)
   obtain rfl := Option.some.inj H; go_enter Tryd.func126, Tryd.ntmps126
   try go_wp2
   replace HB := am (below_drew1 HB.out); refine start_ (n := 11) (S := fun w' => True) (ds := []) #[false, false, false, false, false, false, false, false, false, false, false] (by kernel_rfl) rfl rfl trivial (fun hHeld => ?_); refine with_tabW spec_Decimal.tab2 spec_Decimal.bits2 (fun HT_ HW_ => ?_)
   generalize w.drew = w5 at HB hHeld ⊢
   refine pureA 0 (some 5) (bl 11 1) rfl rfl (h := ?_); refine pureA 1 (some 6) (bl 11 3) rfl rfl (h := ?_); refine pureA 3 (some 8) (bl 11 11) rfl rfl (h := ?_); refine pureA 4 (some 9) (bl 11 27) rfl rfl (h := ?_); refine pureA 5 (some 10) (bl 11 59) rfl rfl (h := ?_); refine pureA 6 (some 11) (bl 11 123) rfl rfl (h := ?_); refine join_ (σ := Value) 2 #[true, true, true, true, true, true, true, true, true, false, false] (fun s_ => [(7, .string t421), (12, s_), (13, .string (strOfNums y422))]) (fun s_ w' => (Kd.R (Kd.int .u8) 5 w' w.heap.size (fun _ => True) s_ y422) ∧ (Below w.heap.size w w')) ?_ ?_; rotate_left
   ·intro hCont; refine two_ (i := 2) (j := 7) (Ni := some 7) (Nj := some 12) #[true, true, true, true, true, true, true, false, false, false, false] #[true, true, false, true, true, true, true, true, false, false, false] rfl rfl rfl rfl (two_of HT_.out (by kernel_rfl)) (by decide) (by decide) (fun K hK => ?_) (fun K hK => ?_)
    ·skip; refine goesA Tryd.func126 #[.int .i64 (wrap64 (Int.tdiv a0 10))] rfl (h := ?_); (with_reducible refine (ih k (by omega) (wrap64 (Int.tdiv a0 10)) t421 _ A3.out).mono ?_); rintro e w6 ⟨rfl, hb⟩; refine ⟨_, rfl, ?_⟩; replace HB := am (below_step (tB) hb)
     (try clear hb)
     (try clear hb2)
     (try clear hk)
     (try clear hi)
     refine hK.out _ _ trivial (fun hHeld => ?_); clear hK K; refine normA (h := ?_); refine one_ (i := 7) (N := some 12) (bl 11 255) rfl rfl (one_of HT_.out (by kernel_rfl)) (by decide) (fun K hK => ?_); refine Kd.R_lit_step (Kd.int .u8) _ 5 ?hg (N := 12) ?hd (xs := ([(wrap64 (48 + (Int.tmod a0 10))) % 256] : List Int)) (inner := [.int .u8 ((wrap64 (48 + (Int.tmod a0 10))) % 256)]) (ok := fun _ => True) (okp := fun _ => True) ?hr ?hp (fun _ hk => hk) trivial (Below.refl _ _) (Nat.le_refl _) (by simp) ?_; (case hd => rfl); (case hg => rfl); (case hr => first | (go_simp; done) | (go_simp; rfl)); (case hp => exact (Reps.one (show Kd.M (Kd.int .u8) _ _ _ ((wrap64 (48 + (Int.tmod a0 10))) % 256) [.int .u8 ((wrap64 (48 + (Int.tmod a0 10))) % 256)] from rfl) (Reps.none _ _))); intro v423 w7 ho8 hb hg_ hnew_; clear hg_ hnew_
     (first | rw [← Ny422.out] at ho8 | (simp only [Int.reduceToNat] at ho8; rw [← Ny422.out] at ho8))
     have HO424 := am (Kd.R_lower ho8 (below_size (tB))); replace HB := am (below_step (tB) hb); clear hb ho8; refine hK.out _ _ trivial (fun hHeld => ?_); clear hK K; refine normA (h := ?_); refine one_ (i := 8) (N := some 13) (bl 11 511) rfl rfl (one_of HT_.out (by kernel_rfl)) (by decide) (fun K hK => ?_); have hcv9 := own_string (P := Tryd.prog) Tryd.underlying126 Tryd.underlying5 Tryd.underlying9 (Kd.own_of_R HO424.out); refine value_ (w1 := ?_) (v := ?_) (by rfl) rfl ?_ ?_; rotate_left 2
     ·go_simp; constructor
      ·rfl
      ·rfl
     clear hcv9; refine hK.out _ _ trivial (fun hHeld => ?_); clear hK K; refine normA (h := ?_); exact normC (hCont (v423) _ ⟨(tR HO424.out), (tB)⟩)
    ·skip; refine Kd.R_lit_step (Kd.int .u8) _ 5 ?hg (N := 12) ?hd (xs := ([(wrap64 (48 + (Int.tmod a0 10))) % 256] : List Int)) (inner := [.int .u8 ((wrap64 (48 + (Int.tmod a0 10))) % 256)]) (ok := fun _ => True) (okp := fun _ => True) ?hr ?hp (fun _ hk => hk) trivial (Below.refl _ _) (Nat.le_refl _) (by simp) ?_; (case hd => rfl); (case hg => rfl); (case hr => first | (go_simp; done) | (go_simp; rfl)); (case hp => exact (Reps.one (show Kd.M (Kd.int .u8) _ _ _ ((wrap64 (48 + (Int.tmod a0 10))) % 256) [.int .u8 ((wrap64 (48 + (Int.tmod a0 10))) % 256)] from rfl) (Reps.none _ _))); intro v423 w6 ho7 hb hg_ hnew_; clear hg_ hnew_
     (first | rw [← Ny422.out] at ho7 | (simp only [Int.reduceToNat] at ho7; rw [← Ny422.out] at ho7))
     have HO424 := am (Kd.R_lower ho7 (below_size (tB))); replace HB := am (below_step (tB) hb); clear hb ho7; refine hK.out _ _ trivial (fun hHeld => ?_); clear hK K; refine normA (h := ?_); refine two_ (i := 2) (j := 8) (Ni := some 7) (Nj := some 13) #[true, true, true, true, true, true, true, true, false, false, false] #[true, true, false, true, true, true, true, true, true, false, false] rfl rfl rfl rfl (two_of HT_.out (by kernel_rfl)) (by decide) (by decide) (fun K hK => ?_) (fun K hK => ?_)
     ·skip; refine goesA Tryd.func126 #[.int .i64 (wrap64 (Int.tdiv a0 10))] rfl (h := ?_); (with_reducible refine (ih k (by omega) (wrap64 (Int.tdiv a0 10)) t421 _ A3.out).mono ?_); rintro e w8 ⟨rfl, hb⟩; refine ⟨_, rfl, ?_⟩; replace HO424 := am (Kd.R_below (tR HO424.out) hb); replace HB := am (below_step (tB) hb)
      (try clear hb)
      (try clear hb2)
      (try clear hk)
      (try clear hi)
      refine hK.out _ _ trivial (fun hHeld => ?_); clear hK K; refine normA (h := ?_); refine one_ (i := 8) (N := some 13) (bl 11 511) rfl rfl (one_of HT_.out (by kernel_rfl)) (by decide) (fun K hK => ?_); have hcv9 := own_string (P := Tryd.prog) Tryd.underlying126 Tryd.underlying5 Tryd.underlying9 (Kd.own_of_R HO424.out); refine value_ (w1 := ?_) (v := ?_) (by rfl) rfl ?_ ?_; rotate_left 2
      ·go_simp; constructor
       ·rfl
       ·rfl
      clear hcv9; refine hK.out _ _ trivial (fun hHeld => ?_); clear hK K; refine normA (h := ?_); exact normC (hCont (v423) _ ⟨(tR HO424.out), (tB)⟩)
     ·skip; have hcv8 := own_string (P := Tryd.prog) Tryd.underlying126 Tryd.underlying5 Tryd.underlying9 (Kd.own_of_R HO424.out); refine value_ (w1 := ?_) (v := ?_) (by rfl) rfl ?_ ?_; rotate_left 2
      ·go_simp; constructor
       ·rfl
       ·rfl
      clear hcv8; refine hK.out _ _ trivial (fun hHeld => ?_); clear hK K; refine normA (h := ?_); refine one_ (i := 2) (N := some 7) (bl 11 511) rfl rfl (one_of HT_.out (by kernel_rfl)) (by decide) (fun K hK => ?_); refine goesA Tryd.func126 #[.int .i64 (wrap64 (Int.tdiv a0 10))] rfl (h := ?_); (with_reducible refine (ih k (by omega) (wrap64 (Int.tdiv a0 10)) t421 _ A3.out).mono ?_); rintro e w9 ⟨rfl, hb⟩; refine ⟨_, rfl, ?_⟩; replace HO424 := am (Kd.R_below (tR HO424.out) hb); replace HB := am (below_step (tB) hb)
      (try clear hb)
      (try clear hb2)
      (try clear hk)
      (try clear hi)
      refine hK.out _ _ trivial (fun hHeld => ?_); clear hK K; refine normA (h := ?_); exact normC (hCont (v423) _ ⟨(tR HO424.out), (tB)⟩)
   rintro v423 w10 ⟨h0_, h1_⟩; have n0_ : Aside0 (Kd.R (Kd.int .u8) 5 w10 w.heap.size (fun _ => True) v423 y422) := ⟨h0_⟩; have n1_ : Aside0 (Below w.heap.size w w10) := ⟨h1_⟩; clear HB; clear h0_ h1_; have HO424 := n0_; have HB := n1_; clear n0_ n1_; have hHeld := trivial; refine normB (h := ?_); refine pureA 9 (some 14) (bl 11 1023) rfl rfl (h := ?_); refine pureA 10 (some 2) (bl 11 2047) rfl rfl (h := ?_); refine done_ (done_of HT_.out (by kernel_rfl)) ?_
   try go_wp2
   go_ret; exact ⟨tE, tB⟩
  ·rw [if_neg c4] at H; exact absurd H (by simp)
 ·rw [if_neg c2] at H; have c2b0 : decide (10 ≤ a0) = false := decide_eq_false c2; clear c2; obtain ⟨y425, hy425⟩ : ∃ y_ : List Int, y_ = (([(wrap64 (48 + a0)) % 256] : List Int)) := ⟨_, rfl⟩; replace H : (some (strOfNums y425)) = some r := tY hy425 H; have Ny425 := am hy425; clear hy425; obtain rfl := Option.some.inj H; go_enter Tryd.func126, Tryd.ntmps126
  go_wp2_with (first | ((with_reducible refine gate_dst (N := 18) rfl ?_); refine Kd.R_lit (Kd.int .u8) _ 5 ?hg (N := 18) ?hd (xs := ([(wrap64 (48 + a0)) % 256] : List Int)) (inner := [.int .u8 ((wrap64 (48 + a0)) % 256)]) (ok := fun _ => True) (okp := fun _ => True) ?hr ?hp (fun _ hk => hk) trivial (Below.refl _ _) (Nat.le_refl _) (by simp) ?_; (case hd => rfl); (case hg => rfl); (case hr => first | (go_simp; done) | (go_simp; rfl)); (case hp => exact (Reps.one (show Kd.M (Kd.int .u8) _ _ _ ((wrap64 (48 + a0)) % 256) [.int .u8 ((wrap64 (48 + a0)) % 256)] from rfl) (Reps.none _ _))); intro v426 w11 ho12 hb hg_ hnew_; clear hg_ hnew_; (first | rw [← Ny425.out] at ho12 | (simp only [Int.reduceToNat] at ho12; rw [← Ny425.out] at ho12)); have HO427 := am (Kd.R_lower ho12 (below_size (tB))); replace HB := am (below_step (tB) hb); clear hb ho12; have hcv13 := own_string (P := Tryd.prog) Tryd.underlying126 Tryd.underlying5 Tryd.underlying9 (Kd.own_of_R HO427.out)))
  go_ret; exact ⟨tE, tB⟩
def spec_l01Row.l0 : Nat → ByteArray → List Int → Int → Option (ByteArray)
 | 0, _, _, _ => none
 | k + 1, x0, x1, x5 => if x5 < (x1.length : Int) then (if 0 ≤ x5 then ((spec_Decimal.f k (rd x1 x5)).bind fun t429 => (if 1 + t429.size ≤ 9223372036854775807 then (if x0.size + ((⟨#[32]⟩ : ByteArray) ++ t429).size ≤ 9223372036854775807 then (spec_l01Row.l0 k (x0 ++ ((⟨#[32]⟩ : ByteArray) ++ t429)) x1 (wrap64 (x5 + 1))) else (none)) else (none))) else (none)) else (some x0)
def spec_l01Row.f (k : Nat) (a0 : ByteArray) (l1 : List Int) : Option (ByteArray) := spec_l01Row.l0 k a0 l1 0
theorem spec_l01Row.calls (k : Nat) (a0 : ByteArray) (A1 : Option Addr) (c1 : Nat) (l1 : List Int) (r : ByteArray) (w : World) (hr1 : Kd.C (Kd.int .i64) w A1 l1.length l1) (hc1 : l1.length ≤ c1) (h : spec_l01Row.f k a0 l1 = some r) :
  Calls Tryd.prog 78 #[.string a0, .slice A1 l1.length c1] w fun e w' => e = .returned (.string r) ∧ Below w.heap.size w w' := by
 have HR1 := am hr1; have HC1 := am hc1; clear hr1 hc1; have HB := am (Below.refl w.heap.size w); have H : (spec_l01Row.l0 k a0 l1 0) = some r := h; clear h; have H' := am H; clear H; go_enter Tryd.func78, Tryd.ntmps78; go_wp2
 go_loopg [0, 5] k (fun kq v0 v5 w' => ∃ (x0_1 : ByteArray) (x5_1 : Int), v0 = .string x0_1 ∧ v5 = .int .i64 x5_1 ∧ Aside0 (spec_l01Row.l0 kq x0_1 l1 x5_1 = some r) ∧ Aside0 (kq ≤ k) ∧ Aside0 (Below w.heap.size w w'))
 case atStart => exact ⟨(a0), (0), (tF), (tF), H', ⟨Nat.le_refl _⟩, ⟨tB⟩⟩
 case round =>
  clear H'
  try clear c1; try clear p2
  obtain ⟨x0_1, x5_1, rfl, rfl, HA, HK1, HB⟩ := hrel
  cases gk with
  | zero => exact absurd HA.out (by simp [spec_l01Row.l0])
  | succ k1 =>
   have H := HA.out; clear HA; simp only [spec_l01Row.l0] at H; by_cases c3 : x5_1 < (l1.length : Int)
   ·rw [if_pos c3] at H; have c3b0 := decide_eq_true c3; clear c3; by_cases c4 : 0 ≤ x5_1
    ·rw [if_pos c4] at H; have c4b0 := decide_eq_true c4; clear c4; obtain ⟨t429, A50, H⟩ := oB H; replace H : (if 1 + t429.size ≤ 9223372036854775807 then (if x0_1.size + ((⟨#[32]⟩ : ByteArray) ++ t429).size ≤ 9223372036854775807 then (spec_l01Row.l0 k1 (x0_1 ++ ((⟨#[32]⟩ : ByteArray) ++ t429)) l1 (wrap64 (x5_1 + 1))) else (none)) else (none)) = some r := H; have A5 := am A50; clear A50; by_cases c6 : 1 + t429.size ≤ 9223372036854775807
     ·rw [if_pos c6] at H; have c6b0 := eq_true c6; have c6b1 := decide_eq_true c6
      try have c6b2 : (9223372036854775807 < 1 + t429.size) = False := eq_false (Nat.not_lt.2 c6)
      by_cases c7 : x0_1.size + ((⟨#[32]⟩ : ByteArray) ++ t429).size ≤ 9223372036854775807
      ·rw [if_pos c7] at H; have c7b0 := eq_true c7; have c7b1 := decide_eq_true c7
       try have c7b2 : (9223372036854775807 < x0_1.size + ((⟨#[32]⟩ : ByteArray) ++ t429).size) = False := eq_false (Nat.not_lt.2 c7)
       have H' := am H; clear H; have p428 : 0 ≤ (x5_1 : Int) := oA; have q428 : x5_1 < (l1.length : Int) := oA; obtain ⟨ad428, e428, hx428_0⟩ := Kd.at_int HR1.out x5_1 p428 q428; cases e428; replace hx428_0 := (HB.out.cell (World.block_lt_of_cell? w _ hx428_0)).trans hx428_0; replace p428 := eq_true p428; replace q428 := eq_true q428
       go_wp2_with (first | ((with_reducible refine gate_callee (f := 126) rfl ?_); refine goesLA (some 17) Tryd.func126 #[.int .i64 (rd l1 x5_1)] rfl rfl rfl (h := ?_); (with_reducible refine (spec_Decimal.calls k1 (rd l1 x5_1) t429 _ A5.out).mono ?_); rintro e w8 ⟨rfl, hb⟩; refine ⟨_, rfl, ?_⟩; replace HB := am (below_step (tB) hb); (try clear hb); (try clear hb2); (try clear hk); (try clear hi)))
       go_roundg k1
       case measure => have := HK1.out; omega
       case rel => exact ⟨(x0_1 ++ ((⟨#[32]⟩ : ByteArray) ++ t429)), (wrap64 (x5_1 + 1)), (tF), (tF), H', ⟨by have := HK1.out; omega⟩, ⟨tB⟩⟩
      ·rw [if_neg c7] at H; exact absurd H (by simp)
     ·rw [if_neg c6] at H; exact absurd H (by simp)
    ·rw [if_neg c4] at H; exact absurd H (by simp)
   ·rw [if_neg c3] at H; have c3b0 := decide_eq_false c3; clear c3; obtain rfl := Option.some.inj H; go_wp2; go_ret; exact ⟨tE, tB⟩
/-- A state of type 38 at block g of W; what its slices lead to came in by w0. -/
def IsS38 (w0 W : World) (g : Nat) (f0 : Int) (f1 : Int) (f2 : List Bool) (f3 : List (List Int)) : Prop := ∃ A2 c2, ∃ A3 c3, W.heap[g]? = some (.cells #[.int .i64 f0, .int .i64 f1, .slice A2 f2.length c2, .slice A3 f3.length c3] 38 (0, 0)) ∧ w0.heap.size ≤ g ∧ Kd.C Kd.bool w0 A2 f2.length f2 ∧ Kd.C (Kd.slice 2 (Kd.int .i64)) w0 A3 f3.length f3
theorem IsS38.grown {w0 W : World} {g : Nat} {f0 : Int} {f1 : Int} {f2 : List Bool} {f3 : List (List Int)} {W1 : World} {row : Option Nat} (h : IsS38 w0 W g f0 f1 f2 f3) (hw : W.grownBy W1 row) (hne : some g ≠ row) : IsS38 w0 W1 g f0 f1 f2 f3 := by
 obtain ⟨A2, c2, A3, c3, hb, hg, hr2, hr3⟩ := h; exact ⟨A2, c2, A3, c3, blk_grown hb hw hne, hg, hr2, hr3⟩
theorem IsS38.kept {w0 W : World} {g : Nat} {f0 : Int} {f1 : Int} {f2 : List Bool} {f3 : List (List Int)} {W1 : World} {S : Nat → Prop} (h : IsS38 w0 W g f0 f1 f2 f3) (hk : Kept W W1 S) (hne : ¬ S g) : IsS38 w0 W1 g f0 f1 f2 f3 := by
 obtain ⟨A2, c2, A3, c3, hb, hg, hr2, hr3⟩ := h; exact ⟨A2, c2, A3, c3, blk_kept hb hk hne, hg, hr2, hr3⟩
theorem IsS38.below {w0 W : World} {g : Nat} {f0 : Int} {f1 : Int} {f2 : List Bool} {f3 : List (List Int)} {W1 : World} (h : IsS38 w0 W g f0 f1 f2 f3) (hw : Below W.heap.size W W1) : IsS38 w0 W1 g f0 f1 f2 f3 := h.grown (grown_of_below hw none) (by simp)
theorem IsS38.alloc {w0 W : World} {g : Nat} {f0 : Int} {f1 : Int} {f2 : List Bool} {f3 : List (List Int)} (h : IsS38 w0 W g f0 f1 f2 f3) (o : Obj) : IsS38 w0 (W.alloc o) g f0 f1 f2 f3 := h.below (below_alloc (Below.refl _ _) o)
theorem IsS38.drewN {w0 W : World} {g : Nat} {f0 : Int} {f1 : Int} {f2 : List Bool} {f3 : List (List Int)} (h : IsS38 w0 W g f0 f1 f2 f3) (m : Nat) : IsS38 w0 (W.drewN m) g f0 f1 f2 f3 := h
theorem IsS38.drew {w0 W : World} {g : Nat} {f0 : Int} {f1 : Int} {f2 : List Bool} {f3 : List (List Int)} (h : IsS38 w0 W g f0 f1 f2 f3) : IsS38 w0 W.drew g f0 f1 f2 f3 := h
theorem IsS38.at_ {w0 W : World} {g : Nat} {f0 : Int} {f1 : Int} {f2 : List Bool} {f3 : List (List Int)} {w' : World} {m : Nat} (hq : W.drewN m = w') (h : IsS38 w0 W g f0 f1 f2 f3) : IsS38 w0 w' g f0 f1 f2 f3 := by subst hq; exact IsS38.drewN h m
theorem IsS38.apart {w0 W : World} {g : Nat} {f0 : Int} {f1 : Int} {f2 : List Bool} {f3 : List (List Int)} {α : Type} {d : Kd α} {e : Nat} {base : Nat} {ok : Nat → Prop} {v : Value} {xs : List α} (h : IsS38 w0 W g f0 f1 f2 f3) (ho : d.R e W base ok v xs) (ht : ∀ q, q ∈ e :: d.E → q ≠ 38) : d.R e W base (fun k => ok k ∧ k ≠ g) v xs := by
 obtain ⟨A2, c2, A3, c3, hb, hg, hr2, hr3⟩ := h; exact Kd.R_types ho hb ht
theorem IsS38.own_ne {w0 W : World} {g : Nat} {f0 : Int} {f1 : Int} {f2 : List Bool} {f3 : List (List Int)} {α : Type} {d : Kd α} {e : Nat} {base : Nat} {ok : Nat → Prop} {v : Value} {xs : List α} (h : IsS38 w0 W g f0 f1 f2 f3) (ho : d.R e W base ok v xs) (ht : e ≠ 38) : some g ≠ v.ownBlock := by
 obtain ⟨A2, c2, A3, c3, hb, hg, hr2, hr3⟩ := h; exact Kd.R_ne ho hb ht
theorem IsS38.lt {w0 W : World} {g : Nat} {f0 : Int} {f1 : Int} {f2 : List Bool} {f3 : List (List Int)} (h : IsS38 w0 W g f0 f1 f2 f3) : g < W.heap.size := by
 obtain ⟨A2, c2, A3, c3, hb, hg, hr2, hr3⟩ := h; exact blk_lt hb
theorem IsS38.ge {w0 W : World} {g : Nat} {f0 : Int} {f1 : Int} {f2 : List Bool} {f3 : List (List Int)} (h : IsS38 w0 W g f0 f1 f2 f3) : w0.heap.size ≤ g := by
 obtain ⟨A2, c2, A3, c3, hb, hg, hr2, hr3⟩ := h; exact hg
theorem IsS38.far {w0 W : World} {g : Nat} {f0 : Int} {f1 : Int} {f2 : List Bool} {f3 : List (List Int)} {p : Addr} (h : IsS38 w0 W g f0 f1 f2 f3) (hne : g ≠ p.block) (u : Value) : IsS38 w0 (W.setCell p u) g f0 f1 f2 f3 := by
 obtain ⟨A2, c2, A3, c3, hb, hg, hr2, hr3⟩ := h; exact ⟨A2, c2, A3, c3, blk_far hb hne u, hg, hr2, hr3⟩
theorem IsS38.set_0 {w0 W : World} {g : Nat} {f0 : Int} {f1 : Int} {f2 : List Bool} {f3 : List (List Int)} (h : IsS38 w0 W g f0 f1 f2 f3) (x : Int) : IsS38 w0 (W.setCell ⟨g, 0, none⟩ (.int .i64 x)) g x f1 f2 f3 := by
 obtain ⟨A2, c2, A3, c3, hb, hg, hr2, hr3⟩ := h; exact ⟨A2, c2, A3, c3, by simpa using blk_set hb 0 (.int .i64 x), hg, hr2, hr3⟩
theorem IsS38.set_1 {w0 W : World} {g : Nat} {f0 : Int} {f1 : Int} {f2 : List Bool} {f3 : List (List Int)} (h : IsS38 w0 W g f0 f1 f2 f3) (x : Int) : IsS38 w0 (W.setCell ⟨g, 1, none⟩ (.int .i64 x)) g f0 x f2 f3 := by
 obtain ⟨A2, c2, A3, c3, hb, hg, hr2, hr3⟩ := h; exact ⟨A2, c2, A3, c3, by simpa using blk_set hb 1 (.int .i64 x), hg, hr2, hr3⟩
theorem IsS38.i {w0 W : World} {g : Nat} {f0 : Int} {f1 : Int} {f2 : List Bool} {f3 : List (List Int)} (h : IsS38 w0 W g f0 f1 f2 f3) : ∃ A2 c2 A3 c3, W.cell? ⟨g, 0, none⟩ = some (.int .i64 f0) ∧ W.cell? ⟨g, 1, none⟩ = some (.int .i64 f1) ∧ W.cell? ⟨g, 2, none⟩ = some (.slice A2 f2.length c2) ∧ W.cell? ⟨g, 3, none⟩ = some (.slice A3 f3.length c3) ∧ W.frozen? ⟨g, 0, none⟩ = false ∧ W.frozen? ⟨g, 1, none⟩ = false ∧ W.frozen? ⟨g, 2, none⟩ = false ∧ W.frozen? ⟨g, 3, none⟩ = false ∧ Kd.C Kd.bool w0 A2 f2.length f2 ∧ Kd.C (Kd.slice 2 (Kd.int .i64)) w0 A3 f3.length f3 := by
 obtain ⟨A2, c2, A3, c3, h1, h2, h3, h4⟩ := h; obtain ⟨a, b, c, d⟩ := bc4 h1; obtain ⟨e, f, g_, h_⟩ := bf4 h1; exact ⟨A2, c2, A3, c3, a, b, c, d, e, f, g_, h_, h3, h4⟩
def spec_l00In.f (a0 : Int) (a1 : Int) (a2 : Int) : Option (Bool) := if a0 ≥ a1 then (some (decide (a0 ≤ a2))) else (some false)
theorem spec_l00In.calls (a0 : Int) (a1 : Int) (a2 : Int) (r : Bool) (w : World) (h : spec_l00In.f a0 a1 a2 = some r) :
  Calls Tryd.prog 56 #[.int .i64 a0, .int .i64 a1, .int .i64 a2] w fun e w' => e = .returned (.bool r) ∧ Drawn0 w w' := by
 have H : (if a0 ≥ a1 then (some (decide (a0 ≤ a2))) else (some false)) = some r := h; clear h; by_cases c4 : a0 ≥ a1
 ·rw [if_pos c4] at H; have c4b0 : decide (a1 ≤ a0) = true := decide_eq_true c4; clear c4; obtain rfl := Option.some.inj H; go_enter Tryd.func56, Tryd.ntmps56; go_wp2; go_ret; exact ⟨tF, tD⟩
 ·rw [if_neg c4] at H; have c4b0 : decide (a1 ≤ a0) = false := decide_eq_false c4; clear c4; obtain rfl := Option.some.inj H; go_enter Tryd.func56, Tryd.ntmps56; go_wp2; go_ret; exact ⟨tF, tD⟩
def spec_l01Power.l0 : Nat → Int → Int → Option (Int)
 | 0, _, _ => none
 | k + 1, x0, x3 => if x0 > 0 then (spec_l01Power.l0 k (wrap64 (x0 - 1)) (wrap64 (3 * x3))) else (some x3)
def spec_l01Power.f (k : Nat) (a0 : Int) : Option (Int) := spec_l01Power.l0 k a0 1
theorem spec_l01Power.mono_l : ∀ k, (∀ y0 y1, LeO (spec_l01Power.l0 k y0 y1) (spec_l01Power.l0 (k + 1) y0 y1))
 | 0 => fun _ _ r h => by simp [spec_l01Power.l0] at h
 | k + 1 => by
  have ih0 := spec_l01Power.mono_l k
  ·intro y0 y1; unfold spec_l01Power.l0
   repeat' first
   | (with_reducible exact ih0 _ _)
   | (with_reducible exact LeO.refl _)
   | (with_reducible exact LeO.none _)
   | (with_reducible refine LeO.ite ?_ ?_)
   | (with_reducible refine LeO.bind ?_ (fun _ => ?_))
   | exact ih0 _ _
   | exact LeO.none _
   | refine LeO.ite ?_ ?_
   | refine LeO.bind ?_ (fun _ => ?_)
theorem spec_l01Power.mono : ∀ a0 k, LeO (spec_l01Power.f k a0) (spec_l01Power.f (k + 1) a0) := by
 intro a0 k; have ih0 := spec_l01Power.mono_l k; unfold spec_l01Power.f
 repeat' first
   | (with_reducible exact ih0 _ _)
   | (with_reducible exact LeO.refl _)
   | (with_reducible exact LeO.none _)
   | (with_reducible refine LeO.ite ?_ ?_)
   | (with_reducible refine LeO.bind ?_ (fun _ => ?_))
   | exact ih0 _ _
   | exact LeO.none _
   | refine LeO.ite ?_ ?_
   | refine LeO.bind ?_ (fun _ => ?_)
theorem spec_l01Power.calls (k : Nat) (a0 : Int) (r : Int) (w : World) (h : spec_l01Power.f k a0 = some r) :
  Calls Tryd.prog 114 #[.int .i64 a0] w fun e w' => e = .returned (.int .i64 r) ∧ Drawn0 w w' := by
 have H : (spec_l01Power.l0 k a0 1) = some r := h; clear h; have H' := am H; clear H; go_enter Tryd.func114, Tryd.ntmps114; go_wp2
 go_loopg [0, 3] k (fun kq v0 v3 w' => ∃ (x0_1 : Int) (x3_1 : Int), v0 = .int .i64 x0_1 ∧ v3 = .int .i64 x3_1 ∧ Aside0 (spec_l01Power.l0 kq x0_1 x3_1 = some r) ∧ Aside0 (kq ≤ k) ∧ Drawn0 w w')
 case atStart => exact ⟨(a0), (1), (tF), (tF), H', ⟨Nat.le_refl _⟩, tD⟩
 case round =>
  clear H'
  try clear c1
  obtain ⟨x0_1, x3_1, rfl, rfl, HA, HK1, ⟨m1, rfl⟩⟩ := hrel
  cases gk with
  | zero => exact absurd HA.out (by simp [spec_l01Power.l0])
  | succ k1 =>
   have H := HA.out; clear HA; simp only [spec_l01Power.l0] at H; by_cases c2 : x0_1 > 0
   ·rw [if_pos c2] at H; have c2b0 : decide (0 < x0_1) = true := decide_eq_true c2; clear c2; have H' := am H; clear H; go_wp2; go_roundg k1
    case measure => have := HK1.out; omega
    case rel => exact ⟨(wrap64 (x0_1 - 1)), (wrap64 (3 * x3_1)), (tF), (tF), H', ⟨by have := HK1.out; omega⟩, tD⟩
   ·rw [if_neg c2] at H; have c2b0 : decide (0 < x0_1) = false := decide_eq_false c2; clear c2; obtain rfl := Option.some.inj H; go_wp2; go_ret; exact ⟨tF, tD⟩
def spec_l01Wide.f (k : Nat) (a0 : Int) : Option (Int) := (spec_l01Power.f k a0).bind fun t211 => (some (wrap64 (t211 - 1)))
theorem spec_l01Wide.mono : ∀ a0 k, LeO (spec_l01Wide.f k a0) (spec_l01Wide.f (k + 1) a0) := by
 intro a0 k; unfold spec_l01Wide.f
 repeat' first
   | (with_reducible exact spec_l01Power.mono _ _)
   | (with_reducible exact LeO.refl _)
   | (with_reducible exact LeO.none _)
   | (with_reducible refine LeO.ite ?_ ?_)
   | (with_reducible refine LeO.bind ?_ (fun _ => ?_))
   | exact spec_l01Power.mono _ _
   | exact LeO.none _
   | refine LeO.ite ?_ ?_
   | refine LeO.bind ?_ (fun _ => ?_)
theorem spec_l01Wide.calls (k : Nat) (a0 : Int) (r : Int) (w : World) (h : spec_l01Wide.f k a0 = some r) :
  Calls Tryd.prog 63 #[.int .i64 a0] w fun e w' => e = .returned (.int .i64 r) ∧ Drawn0 w w' := by
 have H : ((spec_l01Power.f k a0).bind fun t211 => (some (wrap64 (t211 - 1)))) = some r := h; clear h; obtain ⟨t211, A20, H⟩ := oB H; replace H : (some (wrap64 (t211 - 1))) = some r := H; have A2 := am A20; clear A20; obtain rfl := Option.some.inj H; go_enter Tryd.func63, Tryd.ntmps63
 go_wp2_with (first | ((with_reducible refine gate_callee (f := 114) rfl ?_); refine goesLA (some 4) Tryd.func114 #[.int .i64 a0] rfl rfl rfl (h := ?_); (with_reducible refine (spec_l01Power.calls k a0 t211 _ A2.out).mono ?_); rintro e w' ⟨rfl, ⟨nd, rfl⟩⟩; refine ⟨_, rfl, ?_⟩))
 go_ret; exact ⟨tF, tD⟩
/-- A relation that is read at some address. -/
def IsP38 (w0 W : World) (p0 : Addr) (f0 f1 : Int) (f2 : List Bool) (f3 : List (List Int)) : Prop := ∃ A2 c2, ∃ A3 c3, W.cell? p0 = some (.int .i64 f0) ∧ W.cell? ⟨p0.block, p0.off + 1, none⟩ = some (.int .i64 f1) ∧ W.cell? ⟨p0.block, p0.off + 2, none⟩ = some (.slice A2 f2.length c2) ∧ W.cell? ⟨p0.block, p0.off + 3, none⟩ = some (.slice A3 f3.length c3) ∧ Kd.C Kd.bool w0 A2 f2.length f2 ∧ Kd.C (Kd.slice 2 (Kd.int .i64)) w0 A3 f3.length f3
theorem IsP38.below {w0 W W1 : World} {p0 : Addr} {f0 f1 : Int} {f2 : List Bool} {f3 : List (List Int)} (h : IsP38 w0 W p0 f0 f1 f2 f3) (hb : Below W.heap.size W W1) : IsP38 w0 W1 p0 f0 f1 f2 f3 := by
 obtain ⟨A2, c2, A3, c3, h0, h1, h2, h3, h4⟩ := h; exact ⟨A2, c2, A3, c3, pw_cell_below hb h0, pw_cell_below hb h1, pw_cell_below hb h2, pw_cell_below hb h3, h4⟩
theorem IsP38.drewN {w0 W : World} {p0 : Addr} {f0 f1 : Int} {f2 : List Bool} {f3 : List (List Int)} (h : IsP38 w0 W p0 f0 f1 f2 f3) (n : Nat) : IsP38 w0 (W.drewN n) p0 f0 f1 f2 f3 := h.below (pw_below_drewN (Below.refl _ _) n)
theorem IsP38.drew {w0 W : World} {p0 : Addr} {f0 f1 : Int} {f2 : List Bool} {f3 : List (List Int)} (h : IsP38 w0 W p0 f0 f1 f2 f3) : IsP38 w0 W.drew p0 f0 f1 f2 f3 := h.below (below_drew1 (Below.refl _ _))
theorem IsP38.alloc {w0 W : World} {p0 : Addr} {f0 f1 : Int} {f2 : List Bool} {f3 : List (List Int)} (h : IsP38 w0 W p0 f0 f1 f2 f3) (o : Obj) : IsP38 w0 (W.alloc o) p0 f0 f1 f2 f3 := h.below (below_alloc (Below.refl _ _) o)
mutual
def spec_l01Form.j0 : Nat → Int → Bool → Int → Int → List Bool → List (List Int) → Option (Bool × Int × Int)
 | 0, _, _, _, _, _, _ => none
 | k + 1, x3, x39, x1000, x1001, x1002, x1003 => if x39 = true then (some (false, x1000, x1001)) else (spec_l01Form.l0 k x3 0 x1000 x1001 x1002 x1003)
def spec_l01Form.l0 : Nat → Int → Int → Int → Int → List Bool → List (List Int) → Option (Bool × Int × Int)
 | 0, _, _, _, _, _, _ => none
 | k + 1, x3, x4, x1000, x1001, x1002, x1003 => if x4 < (x1003.length : Int) then (if 0 ≤ x4 then ((spec_l01Wide.f k x1000).bind fun t413 => (if ((rd_L5 x1003 x4).length : Int) = t413 then (spec_l01Form.l1 k x3 x4 0 x1000 x1001 x1002 x1003) else (some (false, x1000, x1001)))) else (none)) else (some (true, x1000, x1001))
def spec_l01Form.l1 : Nat → Int → Int → Int → Int → Int → List Bool → List (List Int) → Option (Bool × Int × Int)
 | 0, _, _, _, _, _, _, _ => none
 | k + 1, x3, x4, x5, x1000, x1001, x1002, x1003 => if 0 ≤ x4 then (if x4 < (x1003.length : Int) then (if x5 < ((rd_L5 x1003 x4).length : Int) then (if 0 ≤ x5 then ((spec_l00In.f (rd (rd_L5 x1003 x4) x5) 0 (wrap64 (x3 - 1))).bind fun t417 => (if t417 = true then (spec_l01Form.l1 k x3 x4 (wrap64 (x5 + 1)) x1000 x1001 x1002 x1003) else (some (false, x1000, x1001)))) else (none)) else (spec_l01Form.l0 k x3 (wrap64 (x4 + 1)) x1000 x1001 x1002 x1003)) else (none)) else (none)
end
def spec_l01Form.f (k : Nat) (s0_0 : Int) (s0_1 : Int) (s0_2 : List Bool) (s0_3 : List (List Int)) : Option (Bool × Int × Int) := (spec_l00In.f s0_0 1 3).bind fun t410 => (if t410 = true then (if (s0_2.length : Int) < 1 then (spec_l01Form.j0 k (s0_2.length : Int) true s0_0 s0_1 s0_2 s0_3) else ((spec_l00In.f s0_1 0 (wrap64 ((s0_2.length : Int) - 1))).bind fun t411 => (if t411 = true then (spec_l01Form.j0 k (s0_2.length : Int) ((s0_3.length : Int) != (s0_2.length : Int)) s0_0 s0_1 s0_2 s0_3) else (spec_l01Form.j0 k (s0_2.length : Int) true s0_0 s0_1 s0_2 s0_3)))) else (spec_l01Form.j0 k (s0_2.length : Int) true s0_0 s0_1 s0_2 s0_3))
theorem tIp {p : Prop} (h : p := by repeat (first | (with_reducible first | exact HI0.out | apply IsP38.alloc | apply IsP38.drewN | apply IsP38.drew) | exact HI0.out)) : p := h
theorem spec_l01Form.atcalls (k : Nat) (p0 : Addr) (s0_0 : Int) (s0_1 : Int) (s0_2 : List Bool) (s0_3 : List (List Int)) (r1 : Bool) (r2 : Int) (r3 : Int) (w0 w : World) (hI : IsP38 w0 w p0 s0_0 s0_1 s0_2 s0_3) (hB : Below w0.heap.size w0 w) (h : spec_l01Form.f k s0_0 s0_1 s0_2 s0_3 = some (r1, r2, r3)) :
  Calls Tryd.prog 125 #[.pointer (some p0)] w fun e w' => e = .returned (.bool r1) ∧ IsP38 w0 w' p0 r2 r3 s0_2 s0_3 ∧ Below w0.heap.size w0 w' ∧ KeepBut w w' p0.block none := by
 have HI0 := am hI; have HK := am (KeepBut.refl w p0.block none); have HL := am hB.size; clear hI; have HW0 := am hB.size; have HB := am hB; clear hB; have H : ((spec_l00In.f s0_0 1 3).bind fun t410 => (if t410 = true then (if (s0_2.length : Int) < 1 then (spec_l01Form.j0 k (s0_2.length : Int) true s0_0 s0_1 s0_2 s0_3) else ((spec_l00In.f s0_1 0 (wrap64 ((s0_2.length : Int) - 1))).bind fun t411 => (if t411 = true then (spec_l01Form.j0 k (s0_2.length : Int) ((s0_3.length : Int) != (s0_2.length : Int)) s0_0 s0_1 s0_2 s0_3) else (spec_l01Form.j0 k (s0_2.length : Int) true s0_0 s0_1 s0_2 s0_3)))) else (spec_l01Form.j0 k (s0_2.length : Int) true s0_0 s0_1 s0_2 s0_3))) = some (r1, r2, r3) := h; clear h; have HC2 := am H; clear H; obtain ⟨ASz3_2, cSz3_2, ASz3_3, cSz3_3, hcz3_0, hcz3_1, hcz3_2, hcz3_3, HSz3_2, HSz3_3⟩ := HI0.out; go_enter Tryd.func125, Tryd.ntmps125
 go_upto_region 2 with (fail)
 repeat (go_quiet (fail); go_upto_region 2 with (fail))
 go_cut [39] (fun v39 wc => ∃ (kq : Nat) (x39_1 : Bool), v39 = .bool x39_1 ∧ Aside0 (spec_l01Form.j0 kq (s0_2.length : Int) x39_1 s0_0 s0_1 s0_2 s0_3 = some (r1, r2, r3)) ∧ Aside0 (kq ≤ k) ∧ Aside0 (IsP38 w0 wc p0 s0_0 s0_1 s0_2 s0_3) ∧ Aside0 (KeepBut w wc p0.block none) ∧ Aside0 (Below w0.heap.size w0 wc))
 case first =>
  have H := HC2.out; clear HC2; obtain ⟨t410, A40, H⟩ := oB H; replace H : (if t410 = true then (if (s0_2.length : Int) < 1 then (spec_l01Form.j0 k (s0_2.length : Int) true s0_0 s0_1 s0_2 s0_3) else ((spec_l00In.f s0_1 0 (wrap64 ((s0_2.length : Int) - 1))).bind fun t411 => (if t411 = true then (spec_l01Form.j0 k (s0_2.length : Int) ((s0_3.length : Int) != (s0_2.length : Int)) s0_0 s0_1 s0_2 s0_3) else (spec_l01Form.j0 k (s0_2.length : Int) true s0_0 s0_1 s0_2 s0_3)))) else (spec_l01Form.j0 k (s0_2.length : Int) true s0_0 s0_1 s0_2 s0_3)) = some (r1, r2, r3) := H; have A4 := am A40; clear A40; by_cases c5 : t410 = true
  ·subst c5; (have H1 : (if (s0_2.length : Int) < 1 then (spec_l01Form.j0 k (s0_2.length : Int) true s0_0 s0_1 s0_2 s0_3) else ((spec_l00In.f s0_1 0 (wrap64 ((s0_2.length : Int) - 1))).bind fun t411 => (if t411 = true then (spec_l01Form.j0 k (s0_2.length : Int) ((s0_3.length : Int) != (s0_2.length : Int)) s0_0 s0_1 s0_2 s0_3) else (spec_l01Form.j0 k (s0_2.length : Int) true s0_0 s0_1 s0_2 s0_3)))) = some (r1, r2, r3) := by rw [if_pos rfl] at H; exact H); clear H; have H := H1; clear H1; by_cases c6 : (s0_2.length : Int) < 1
   ·rw [if_pos c6] at H; have c6b0 := decide_eq_true c6; have c6b1 : decide (s0_2.length < 1) = true := decide_eq_true (by omega); clear c6
    (first | rw [c6b0] | (simp only [i64_w, i32_w]; rw [c6b0]) | skip)
    have H' := am H; clear H; obtain ⟨ASz7_2, cSz7_2, ASz7_3, cSz7_3, hcz7_0, hcz7_1, hcz7_2, hcz7_3, HSz7_2, HSz7_3⟩ := HI0.out
    go_wp2_with (first | (go_at_call 56; (with_reducible refine (spec_l00In.calls s0_0 1 3 true _ A4.out).mono ?_); rintro e w' ⟨rfl, ⟨nd, rfl⟩⟩; (try first | exact ⟨rfl, _, World.drewN_drewN _ _ _⟩ | exact ⟨rfl, _, Eq.trans (World.drewN_drewN _ _ _) (congrArg (World.drewN _) (Nat.add_assoc _ _ _))⟩)) | go_quiet (first | (go_at_call 56; (with_reducible refine (spec_l00In.calls s0_0 1 3 true _ A4.out).mono ?_); rintro e w' ⟨rfl, ⟨nd, rfl⟩⟩; (try first | exact ⟨rfl, _, World.drewN_drewN _ _ _⟩ | exact ⟨rfl, _, Eq.trans (World.drewN_drewN _ _ _) (congrArg (World.drewN _) (Nat.add_assoc _ _ _))⟩))))
    go_meet
    case rel => exact ⟨_, (true), (tF), H', ⟨by first | omega | exact Nat.le_refl _⟩, ⟨tIp⟩, ⟨tK⟩, ⟨tB⟩⟩
   ·rw [if_neg c6] at H; have c6b0 := decide_eq_false c6; have c6b1 : decide (s0_2.length < 1) = false := decide_eq_false (by omega); clear c6
    (first | rw [c6b0] | (simp only [i64_w, i32_w]; rw [c6b0]) | skip)
    obtain ⟨t411, A80, H⟩ := oB H; replace H : (if t411 = true then (spec_l01Form.j0 k (s0_2.length : Int) ((s0_3.length : Int) != (s0_2.length : Int)) s0_0 s0_1 s0_2 s0_3) else (spec_l01Form.j0 k (s0_2.length : Int) true s0_0 s0_1 s0_2 s0_3)) = some (r1, r2, r3) := H; have A8 := am A80; clear A80; by_cases c9 : t411 = true
    ·subst c9; (have H1 : (spec_l01Form.j0 k (s0_2.length : Int) ((s0_3.length : Int) != (s0_2.length : Int)) s0_0 s0_1 s0_2 s0_3) = some (r1, r2, r3) := by rw [if_pos rfl] at H; exact H); clear H; have H := H1; clear H1; have H' := am H; clear H; obtain ⟨ASz10_2, cSz10_2, ASz10_3, cSz10_3, hcz10_0, hcz10_1, hcz10_2, hcz10_3, HSz10_2, HSz10_3⟩ := HI0.out
     go_wp2_with (first | (go_at_call 56; (with_reducible refine (spec_l00In.calls s0_0 1 3 true _ A4.out).mono ?_); rintro e w' ⟨rfl, ⟨nd, rfl⟩⟩; (try first | exact ⟨rfl, _, World.drewN_drewN _ _ _⟩ | exact ⟨rfl, _, Eq.trans (World.drewN_drewN _ _ _) (congrArg (World.drewN _) (Nat.add_assoc _ _ _))⟩)) | (go_at_call 56; (with_reducible refine (spec_l00In.calls s0_1 0 (wrap64 ((s0_2.length : Int) - 1)) true _ A8.out).mono ?_); rintro e w' ⟨rfl, ⟨nd, rfl⟩⟩; (try first | exact ⟨rfl, _, World.drewN_drewN _ _ _⟩ | exact ⟨rfl, _, Eq.trans (World.drewN_drewN _ _ _) (congrArg (World.drewN _) (Nat.add_assoc _ _ _))⟩)) | go_quiet (first | (go_at_call 56; (with_reducible refine (spec_l00In.calls s0_0 1 3 true _ A4.out).mono ?_); rintro e w' ⟨rfl, ⟨nd, rfl⟩⟩; (try first | exact ⟨rfl, _, World.drewN_drewN _ _ _⟩ | exact ⟨rfl, _, Eq.trans (World.drewN_drewN _ _ _) (congrArg (World.drewN _) (Nat.add_assoc _ _ _))⟩)) | (go_at_call 56; (with_reducible refine (spec_l00In.calls s0_1 0 (wrap64 ((s0_2.length : Int) - 1)) true _ A8.out).mono ?_); rintro e w' ⟨rfl, ⟨nd, rfl⟩⟩; (try first | exact ⟨rfl, _, World.drewN_drewN _ _ _⟩ | exact ⟨rfl, _, Eq.trans (World.drewN_drewN _ _ _) (congrArg (World.drewN _) (Nat.add_assoc _ _ _))⟩))))
     go_meet
     case rel => exact ⟨_, (((s0_3.length : Int) != (s0_2.length : Int))), (tF), H', ⟨by first | omega | exact Nat.le_refl _⟩, ⟨tIp⟩, ⟨tK⟩, ⟨tB⟩⟩
    ·replace c9 := Bool.eq_false_iff.mpr c9; subst c9; (have H1 : (spec_l01Form.j0 k (s0_2.length : Int) true s0_0 s0_1 s0_2 s0_3) = some (r1, r2, r3) := by rw [if_neg (show ¬ (false = true) by decide)] at H; exact H); clear H; have H := H1; clear H1; have H' := am H; clear H; obtain ⟨ASz11_2, cSz11_2, ASz11_3, cSz11_3, hcz11_0, hcz11_1, hcz11_2, hcz11_3, HSz11_2, HSz11_3⟩ := HI0.out
     go_wp2_with (first | (go_at_call 56; (with_reducible refine (spec_l00In.calls s0_0 1 3 true _ A4.out).mono ?_); rintro e w' ⟨rfl, ⟨nd, rfl⟩⟩; (try first | exact ⟨rfl, _, World.drewN_drewN _ _ _⟩ | exact ⟨rfl, _, Eq.trans (World.drewN_drewN _ _ _) (congrArg (World.drewN _) (Nat.add_assoc _ _ _))⟩)) | (go_at_call 56; (with_reducible refine (spec_l00In.calls s0_1 0 (wrap64 ((s0_2.length : Int) - 1)) false _ A8.out).mono ?_); rintro e w' ⟨rfl, ⟨nd, rfl⟩⟩; (try first | exact ⟨rfl, _, World.drewN_drewN _ _ _⟩ | exact ⟨rfl, _, Eq.trans (World.drewN_drewN _ _ _) (congrArg (World.drewN _) (Nat.add_assoc _ _ _))⟩)) | go_quiet (first | (go_at_call 56; (with_reducible refine (spec_l00In.calls s0_0 1 3 true _ A4.out).mono ?_); rintro e w' ⟨rfl, ⟨nd, rfl⟩⟩; (try first | exact ⟨rfl, _, World.drewN_drewN _ _ _⟩ | exact ⟨rfl, _, Eq.trans (World.drewN_drewN _ _ _) (congrArg (World.drewN _) (Nat.add_assoc _ _ _))⟩)) | (go_at_call 56; (with_reducible refine (spec_l00In.calls s0_1 0 (wrap64 ((s0_2.length : Int) - 1)) false _ A8.out).mono ?_); rintro e w' ⟨rfl, ⟨nd, rfl⟩⟩; (try first | exact ⟨rfl, _, World.drewN_drewN _ _ _⟩ | exact ⟨rfl, _, Eq.trans (World.drewN_drewN _ _ _) (congrArg (World.drewN _) (Nat.add_assoc _ _ _))⟩))))
     go_meet
     case rel => exact ⟨_, (true), (tF), H', ⟨by first | omega | exact Nat.le_refl _⟩, ⟨tIp⟩, ⟨tK⟩, ⟨tB⟩⟩
  ·replace c5 := Bool.eq_false_iff.mpr c5; subst c5; (have H1 : (spec_l01Form.j0 k (s0_2.length : Int) true s0_0 s0_1 s0_2 s0_3) = some (r1, r2, r3) := by rw [if_neg (show ¬ (false = true) by decide)] at H; exact H); clear H; have H := H1; clear H1; have H' := am H; clear H; obtain ⟨ASz12_2, cSz12_2, ASz12_3, cSz12_3, hcz12_0, hcz12_1, hcz12_2, hcz12_3, HSz12_2, HSz12_3⟩ := HI0.out
   go_wp2_with (first | (go_at_call 56; (with_reducible refine (spec_l00In.calls s0_0 1 3 false _ A4.out).mono ?_); rintro e w' ⟨rfl, ⟨nd, rfl⟩⟩; (try first | exact ⟨rfl, _, World.drewN_drewN _ _ _⟩ | exact ⟨rfl, _, Eq.trans (World.drewN_drewN _ _ _) (congrArg (World.drewN _) (Nat.add_assoc _ _ _))⟩)) | go_quiet (first | (go_at_call 56; (with_reducible refine (spec_l00In.calls s0_0 1 3 false _ A4.out).mono ?_); rintro e w' ⟨rfl, ⟨nd, rfl⟩⟩; (try first | exact ⟨rfl, _, World.drewN_drewN _ _ _⟩ | exact ⟨rfl, _, Eq.trans (World.drewN_drewN _ _ _) (congrArg (World.drewN _) (Nat.add_assoc _ _ _))⟩))))
   go_meet
   case rel => exact ⟨_, (true), (tF), H', ⟨by first | omega | exact Nat.le_refl _⟩, ⟨tIp⟩, ⟨tK⟩, ⟨tB⟩⟩
 case rest =>
  clear HC2
  try clear c1; try clear p2; try clear c5; try clear c6; try clear c6b0; try clear c6b1; try clear p6; try clear c9; try clear c12; try clear hcz10_0; try clear hcz10_1; try clear hcz10_2; try clear hcz10_3; try clear hcz11_0; try clear hcz11_1; try clear hcz11_2; try clear hcz11_3; try clear hcz12_0; try clear hcz12_1; try clear hcz12_2; try clear hcz12_3; try clear hcz3_0; try clear hcz3_1; try clear hcz3_2; try clear hcz3_3; try clear hcz7_0; try clear hcz7_1; try clear hcz7_2; try clear hcz7_3; try clear hfz10_0; try clear hfz10_1; try clear hfz11_0; try clear hfz11_1; try clear hfz12_0; try clear hfz12_1; try clear hfz3_0; try clear hfz3_1; try clear hfz7_0; try clear hfz7_1
  obtain ⟨kq, x39_1, rfl, HA, HJ1, HI0, HK, HB⟩ := hcut
  cases kq with
  | zero => exact absurd HA.out (by simp [spec_l01Form.j0])
  | succ kj1 =>
   have H := HA.out; clear HA; simp only [spec_l01Form.j0] at H; by_cases c13 : x39_1 = true
   ·subst c13; (have H1 : (some (false, s0_0, s0_1)) = some (r1, r2, r3) := by rw [if_pos rfl] at H; exact H); clear H; have H := H1; clear H1; simp only [Option.some.injEq, Prod.mk.injEq] at H; obtain ⟨rfl, rfl, rfl⟩ := H; go_wp2
    repeat (go_quiet (fail); try go_wp2)
    go_ret; exact ⟨tE, tIp, tB, tK⟩
   ·replace c13 := Bool.eq_false_iff.mpr c13; subst c13; (have H1 : (spec_l01Form.l0 kj1 (s0_2.length : Int) 0 s0_0 s0_1 s0_2 s0_3) = some (r1, r2, r3) := by rw [if_neg (show ¬ (false = true) by decide)] at H; exact H); clear H; have H := H1; clear H1; have H' := am H; clear H; go_wp2
    repeat (go_quiet (fail); try go_wp2)
    go_loopg [4] kj1 (fun kq v4 w' => ∃ (x4_2 : Int), v4 = .int .i64 x4_2 ∧ Aside0 (spec_l01Form.l0 kq (s0_2.length : Int) x4_2 s0_0 s0_1 s0_2 s0_3 = some (r1, r2, r3)) ∧ Aside0 (kq ≤ kj1) ∧ Aside0 (IsP38 w0 w' p0 s0_0 s0_1 s0_2 s0_3) ∧ Aside0 (KeepBut w w' p0.block none) ∧ Aside0 (Below w0.heap.size w0 w'))
    case atStart => exact ⟨(0), (tF), H', ⟨Nat.le_refl _⟩, ⟨tIp⟩, ⟨tK⟩, ⟨tB⟩⟩
    case round =>
     clear H'
     try clear c1; try clear p2; try clear c5; try clear c6; try clear c6b0; try clear c6b1; try clear p6; try clear c9; try clear c12; try clear c13; try clear hcz10_0; try clear hcz10_1; try clear hcz10_2; try clear hcz10_3; try clear hcz11_0; try clear hcz11_1; try clear hcz11_2; try clear hcz11_3; try clear hcz12_0; try clear hcz12_1; try clear hcz12_2; try clear hcz12_3; try clear hcz3_0; try clear hcz3_1; try clear hcz3_2; try clear hcz3_3; try clear hcz7_0; try clear hcz7_1; try clear hcz7_2; try clear hcz7_3; try clear hfz10_0; try clear hfz10_1; try clear hfz11_0; try clear hfz11_1; try clear hfz12_0; try clear hfz12_1; try clear hfz3_0; try clear hfz3_1; try clear hfz7_0; try clear hfz7_1; try clear p2; try clear p6
     obtain ⟨x4_2, rfl, HA, HK2, HI0, HK, HB⟩ := hrel
     cases gk with
     | zero => exact absurd HA.out (by simp [spec_l01Form.l0])
     | succ k2 =>
      have H := HA.out; clear HA; simp only [spec_l01Form.l0] at H; by_cases c14 : x4_2 < (s0_3.length : Int)
      ·rw [if_pos c14] at H; have c14b0 := decide_eq_true c14; clear c14; by_cases c15 : 0 ≤ x4_2
       ·rw [if_pos c15] at H; have c15b0 := decide_eq_true c15; clear c15; obtain ⟨t413, A160, H⟩ := oB H; replace H : (if ((rd_L5 s0_3 x4_2).length : Int) = t413 then (spec_l01Form.l1 k2 (s0_2.length : Int) x4_2 0 s0_0 s0_1 s0_2 s0_3) else (some (false, s0_0, s0_1))) = some (r1, r2, r3) := H; have A16 := am A160; clear A160; by_cases c17 : ((rd_L5 s0_3 x4_2).length : Int) = t413
        ·rw [if_pos c17] at H; have c17b0 : (((rd_L5 s0_3 x4_2).length : Int) == t413) = true := beq_iff_eq.mpr c17; have c17b1 : (((rd_L5 s0_3 x4_2).length : Int) != t413) = false := bne_eq_false_iff_eq.mpr c17; clear c17; have H' := am H; clear H; obtain ⟨ASz18_2, cSz18_2, ASz18_3, cSz18_3, hcz18_0, hcz18_1, hcz18_2, hcz18_3, HSz18_2, HSz18_3⟩ := HI0.out; have p412 : 0 ≤ (x4_2 : Int) := oA; have q412 : x4_2 < (s0_3.length : Int) := oA; obtain ⟨ad412, A412_0, c412_0, e412, hx412_0, hl412_0, hi412_0⟩ := at_L5 HSz18_3 x4_2 p412 q412; cases e412; replace hx412_0 := pw_cell_below HB.out hx412_0; have HR412_0 := am hi412_0; have HC412_0 := am hl412_0; clear hi412_0 hl412_0; replace p412 := eq_true p412; replace q412 := eq_true q412
         go_wp2_with (first | (go_at_call 63; (with_reducible refine (spec_l01Wide.calls k2 s0_0 t413 _ A16.out).mono ?_); rintro e w' ⟨rfl, ⟨nd, rfl⟩⟩; (try first | exact ⟨rfl, _, World.drewN_drewN _ _ _⟩ | exact ⟨rfl, _, Eq.trans (World.drewN_drewN _ _ _) (congrArg (World.drewN _) (Nat.add_assoc _ _ _))⟩)) | go_quiet (first | (go_at_call 63; (with_reducible refine (spec_l01Wide.calls k2 s0_0 t413 _ A16.out).mono ?_); rintro e w' ⟨rfl, ⟨nd, rfl⟩⟩; (try first | exact ⟨rfl, _, World.drewN_drewN _ _ _⟩ | exact ⟨rfl, _, Eq.trans (World.drewN_drewN _ _ _) (congrArg (World.drewN _) (Nat.add_assoc _ _ _))⟩))))
         go_loopg [5] k2 (fun kq v5 w' => ∃ (x5_3 : Int), v5 = .int .i64 x5_3 ∧ Aside0 (spec_l01Form.l1 kq (s0_2.length : Int) x4_2 x5_3 s0_0 s0_1 s0_2 s0_3 = some (r1, r2, r3)) ∧ Aside0 (kq ≤ k2) ∧ Aside0 (Kd.C (Kd.int .i64) w' A412_0 (rd_L5 s0_3 x4_2).length (rd_L5 s0_3 x4_2)) ∧ Aside0 (IsP38 w0 w' p0 s0_0 s0_1 s0_2 s0_3) ∧ Aside0 (KeepBut w w' p0.block none) ∧ Aside0 (Below w0.heap.size w0 w'))
         case atStart => exact ⟨(0), (tF), H', ⟨Nat.le_refl _⟩, ⟨by repeat (first | (with_reducible exact HR412_0.out) | (with_reducible exact Kd.C_below HR412_0.out HB.out) | (with_reducible refine Kd.C_alloc ?_ _) | (with_reducible refine Kd.C_drewN ?_ _) | (with_reducible refine Kd.C_drew ?_) | exact HR412_0.out)⟩, ⟨tIp⟩, ⟨tK⟩, ⟨tB⟩⟩
         case round =>
          clear H'
          try clear c1; try clear p2; try clear c4; try clear p4; try clear q4; try clear hx4; try clear c5; try clear c6; try clear c6b0; try clear c6b1; try clear p6; try clear c9; try clear c12; try clear c13; try clear c14; try clear c14b0; try clear c15; try clear c15b0; try clear c17; try clear c17b0; try clear c17b1; try clear hcz10_0; try clear hcz10_1; try clear hcz10_2; try clear hcz10_3; try clear hcz11_0; try clear hcz11_1; try clear hcz11_2; try clear hcz11_3; try clear hcz12_0; try clear hcz12_1; try clear hcz12_2; try clear hcz12_3; try clear hcz18_0; try clear hcz18_1; try clear hcz18_2; try clear hcz18_3; try clear hcz3_0; try clear hcz3_1; try clear hcz3_2; try clear hcz3_3; try clear hcz7_0; try clear hcz7_1; try clear hcz7_2; try clear hcz7_3; try clear hfz10_0; try clear hfz10_1; try clear hfz11_0; try clear hfz11_1; try clear hfz12_0; try clear hfz12_1; try clear hfz18_0; try clear hfz18_1; try clear hfz3_0; try clear hfz3_1; try clear hfz7_0; try clear hfz7_1; try clear hx412_0; try clear p2; try clear p412; try clear p6; try clear q412
          obtain ⟨x5_3, rfl, HA, HK3, HR412_0, HI0, HK, HB⟩ := hrel
          cases gk with
          | zero => exact absurd HA.out (by simp [spec_l01Form.l1])
          | succ k3 =>
           have H := HA.out; clear HA; simp only [spec_l01Form.l1] at H; by_cases c19 : 0 ≤ x4_2
           ·rw [if_pos c19] at H; have c19b0 := decide_eq_true c19; clear c19; by_cases c20 : x4_2 < (s0_3.length : Int)
            ·rw [if_pos c20] at H; have c20b0 := decide_eq_true c20; clear c20; by_cases c21 : x5_3 < ((rd_L5 s0_3 x4_2).length : Int)
             ·rw [if_pos c21] at H; have c21b0 := decide_eq_true c21; clear c21; by_cases c22 : 0 ≤ x5_3
              ·rw [if_pos c22] at H; have c22b0 := decide_eq_true c22; clear c22; obtain ⟨t417, A230, H⟩ := oB H; replace H : (if t417 = true then (spec_l01Form.l1 k3 (s0_2.length : Int) x4_2 (wrap64 (x5_3 + 1)) s0_0 s0_1 s0_2 s0_3) else (some (false, s0_0, s0_1))) = some (r1, r2, r3) := H; have A23 := am A230; clear A230; by_cases c24 : t417 = true
               ·subst c24; (have H1 : (spec_l01Form.l1 k3 (s0_2.length : Int) x4_2 (wrap64 (x5_3 + 1)) s0_0 s0_1 s0_2 s0_3) = some (r1, r2, r3) := by rw [if_pos rfl] at H; exact H); clear H; have H := H1; clear H1; have H' := am H; clear H; obtain ⟨ASz25_2, cSz25_2, ASz25_3, cSz25_3, hcz25_0, hcz25_1, hcz25_2, hcz25_3, HSz25_2, HSz25_3⟩ := HI0.out; have p414 : 0 ≤ (x4_2 : Int) := oA; have q414 : x4_2 < (s0_3.length : Int) := oA; obtain ⟨ad414, A414_0, c414_0, e414, hx414_0, hl414_0, hi414_0⟩ := at_L5 HSz25_3 x4_2 p414 q414; cases e414; replace hx414_0 := pw_cell_below HB.out hx414_0; have HR414_0 := am hi414_0; have HC414_0 := am hl414_0; clear hi414_0 hl414_0; replace p414 := eq_true p414; replace q414 := eq_true q414; have p415 : 0 ≤ (x4_2 : Int) := oA; have q415 : x4_2 < (s0_3.length : Int) := oA; obtain ⟨ad415, A415_0, c415_0, e415, hx415_0, hl415_0, hi415_0⟩ := at_L5 HSz25_3 x4_2 p415 q415; obtain rfl : ad414 = ad415 := (by injection e415); replace hx415_0 := pw_cell_below HB.out hx415_0
                try (have hxe_ := hx414_0.symm.trans hx415_0; injection hxe_ with hxe_; injection hxe_ with hA_ hl_ hc_; subst hA_; subst hc_)
                have HR415_0 := am hi415_0; have HC415_0 := am hl415_0; clear hi415_0 hl415_0; replace p415 := eq_true p415; replace q415 := eq_true q415; have p416 : 0 ≤ (x5_3 : Int) := oA; have q416 : x5_3 < ((rd_L5 s0_3 x4_2).length : Int) := oA; obtain ⟨ad416, e416, hx416_0⟩ := Kd.at_int HR415_0.out x5_3 p416 q416; cases e416; replace hx416_0 := (by first | exact keep_cell HK.out hx416_0 (by first | (rw [add_block]; exact hf415_0 _ rfl (by omega)) | exact hf415_0 _ rfl (by omega) | exact hf415_0 ad416 rfl (by omega)) | exact pw_cell_below HB.out hx416_0); replace p416 := eq_true p416; replace q416 := eq_true q416
                go_wp2_with (first | (go_at_call 56; (with_reducible refine (spec_l00In.calls (rd (rd_L5 s0_3 x4_2) x5_3) 0 (wrap64 ((s0_2.length : Int) - 1)) true _ A23.out).mono ?_); rintro e w' ⟨rfl, ⟨nd, rfl⟩⟩; (try first | exact ⟨rfl, _, World.drewN_drewN _ _ _⟩ | exact ⟨rfl, _, Eq.trans (World.drewN_drewN _ _ _) (congrArg (World.drewN _) (Nat.add_assoc _ _ _))⟩)) | go_quiet (first | (go_at_call 56; (with_reducible refine (spec_l00In.calls (rd (rd_L5 s0_3 x4_2) x5_3) 0 (wrap64 ((s0_2.length : Int) - 1)) true _ A23.out).mono ?_); rintro e w' ⟨rfl, ⟨nd, rfl⟩⟩; (try first | exact ⟨rfl, _, World.drewN_drewN _ _ _⟩ | exact ⟨rfl, _, Eq.trans (World.drewN_drewN _ _ _) (congrArg (World.drewN _) (Nat.add_assoc _ _ _))⟩))))
                go_roundg k3
                case measure => have := HJ1.out; have := HK2.out; have := HK3.out; omega
                case rel => exact ⟨(wrap64 (x5_3 + 1)), (tF), H', ⟨by have := HJ1.out; have := HK2.out; have := HK3.out; omega⟩, ⟨by repeat (first | (with_reducible exact HR412_0.out) | (with_reducible exact Kd.C_below HR412_0.out HB.out) | (with_reducible refine Kd.C_alloc ?_ _) | (with_reducible refine Kd.C_drewN ?_ _) | (with_reducible refine Kd.C_drew ?_) | exact HR412_0.out)⟩, ⟨tIp⟩, ⟨tK⟩, ⟨tB⟩⟩
               ·replace c24 := Bool.eq_false_iff.mpr c24; subst c24; (have H1 : (some (false, s0_0, s0_1)) = some (r1, r2, r3) := by rw [if_neg (show ¬ (false = true) by decide)] at H; exact H); clear H; have H := H1; clear H1; simp only [Option.some.injEq, Prod.mk.injEq] at H; obtain ⟨rfl, rfl, rfl⟩ := H; obtain ⟨ASz26_2, cSz26_2, ASz26_3, cSz26_3, hcz26_0, hcz26_1, hcz26_2, hcz26_3, HSz26_2, HSz26_3⟩ := HI0.out; have p414 : 0 ≤ (x4_2 : Int) := oA; have q414 : x4_2 < (s0_3.length : Int) := oA; obtain ⟨ad414, A414_0, c414_0, e414, hx414_0, hl414_0, hi414_0⟩ := at_L5 HSz26_3 x4_2 p414 q414; cases e414; replace hx414_0 := pw_cell_below HB.out hx414_0; have HR414_0 := am hi414_0; have HC414_0 := am hl414_0; clear hi414_0 hl414_0; replace p414 := eq_true p414; replace q414 := eq_true q414; have p415 : 0 ≤ (x4_2 : Int) := oA; have q415 : x4_2 < (s0_3.length : Int) := oA; obtain ⟨ad415, A415_0, c415_0, e415, hx415_0, hl415_0, hi415_0⟩ := at_L5 HSz26_3 x4_2 p415 q415; obtain rfl : ad414 = ad415 := (by injection e415); replace hx415_0 := pw_cell_below HB.out hx415_0
                try (have hxe_ := hx414_0.symm.trans hx415_0; injection hxe_ with hxe_; injection hxe_ with hA_ hl_ hc_; subst hA_; subst hc_)
                have HR415_0 := am hi415_0; have HC415_0 := am hl415_0; clear hi415_0 hl415_0; replace p415 := eq_true p415; replace q415 := eq_true q415; have p416 : 0 ≤ (x5_3 : Int) := oA; have q416 : x5_3 < ((rd_L5 s0_3 x4_2).length : Int) := oA; obtain ⟨ad416, e416, hx416_0⟩ := Kd.at_int HR415_0.out x5_3 p416 q416; cases e416; replace hx416_0 := (by first | exact keep_cell HK.out hx416_0 (by first | (rw [add_block]; exact hf415_0 _ rfl (by omega)) | exact hf415_0 _ rfl (by omega) | exact hf415_0 ad416 rfl (by omega)) | exact pw_cell_below HB.out hx416_0); replace p416 := eq_true p416; replace q416 := eq_true q416
                go_wp2_with (first | (go_at_call 56; (with_reducible refine (spec_l00In.calls (rd (rd_L5 s0_3 x4_2) x5_3) 0 (wrap64 ((s0_2.length : Int) - 1)) false _ A23.out).mono ?_); rintro e w' ⟨rfl, ⟨nd, rfl⟩⟩; (try first | exact ⟨rfl, _, World.drewN_drewN _ _ _⟩ | exact ⟨rfl, _, Eq.trans (World.drewN_drewN _ _ _) (congrArg (World.drewN _) (Nat.add_assoc _ _ _))⟩)) | go_quiet (first | (go_at_call 56; (with_reducible refine (spec_l00In.calls (rd (rd_L5 s0_3 x4_2) x5_3) 0 (wrap64 ((s0_2.length : Int) - 1)) false _ A23.out).mono ?_); rintro e w' ⟨rfl, ⟨nd, rfl⟩⟩; (try first | exact ⟨rfl, _, World.drewN_drewN _ _ _⟩ | exact ⟨rfl, _, Eq.trans (World.drewN_drewN _ _ _) (congrArg (World.drewN _) (Nat.add_assoc _ _ _))⟩))))
                go_ret; exact ⟨tE, tIp, tB, tK⟩
              ·rw [if_neg c22] at H; exact absurd H (by simp)
             ·rw [if_neg c21] at H; have c21b0 := decide_eq_false c21; clear c21; have H' := am H; clear H; obtain ⟨ASz27_2, cSz27_2, ASz27_3, cSz27_3, hcz27_0, hcz27_1, hcz27_2, hcz27_3, HSz27_2, HSz27_3⟩ := HI0.out; have p414 : 0 ≤ (x4_2 : Int) := oA; have q414 : x4_2 < (s0_3.length : Int) := oA; obtain ⟨ad414, A414_0, c414_0, e414, hx414_0, hl414_0, hi414_0⟩ := at_L5 HSz27_3 x4_2 p414 q414; cases e414; replace hx414_0 := pw_cell_below HB.out hx414_0; have HR414_0 := am hi414_0; have HC414_0 := am hl414_0; clear hi414_0 hl414_0; replace p414 := eq_true p414; replace q414 := eq_true q414; go_wp2
              repeat (go_quiet (fail); try go_wp2)
              go_roundg k3
              case measure => have := HJ1.out; have := HK2.out; have := HK3.out; omega
              case rel => exact ⟨(wrap64 (x4_2 + 1)), (tF), H', ⟨by have := HJ1.out; have := HK2.out; have := HK3.out; omega⟩, ⟨tIp⟩, ⟨tK⟩, ⟨tB⟩⟩
            ·rw [if_neg c20] at H; exact absurd H (by simp)
           ·rw [if_neg c19] at H; exact absurd H (by simp)
        ·rw [if_neg c17] at H; have c17b0 : (((rd_L5 s0_3 x4_2).length : Int) == t413) = false := beq_eq_false_iff_ne.mpr c17; have c17b1 : (((rd_L5 s0_3 x4_2).length : Int) != t413) = true := bne_iff_ne.mpr c17; simp only [Option.some.injEq, Prod.mk.injEq] at H; obtain ⟨rfl, rfl, rfl⟩ := H; obtain ⟨ASz28_2, cSz28_2, ASz28_3, cSz28_3, hcz28_0, hcz28_1, hcz28_2, hcz28_3, HSz28_2, HSz28_3⟩ := HI0.out; have p412 : 0 ≤ (x4_2 : Int) := oA; have q412 : x4_2 < (s0_3.length : Int) := oA; obtain ⟨ad412, A412_0, c412_0, e412, hx412_0, hl412_0, hi412_0⟩ := at_L5 HSz28_3 x4_2 p412 q412; cases e412; replace hx412_0 := pw_cell_below HB.out hx412_0; have HR412_0 := am hi412_0; have HC412_0 := am hl412_0; clear hi412_0 hl412_0; replace p412 := eq_true p412; replace q412 := eq_true q412
         go_wp2_with (first | (go_at_call 63; (with_reducible refine (spec_l01Wide.calls k2 s0_0 t413 _ A16.out).mono ?_); rintro e w' ⟨rfl, ⟨nd, rfl⟩⟩; (try first | exact ⟨rfl, _, World.drewN_drewN _ _ _⟩ | exact ⟨rfl, _, Eq.trans (World.drewN_drewN _ _ _) (congrArg (World.drewN _) (Nat.add_assoc _ _ _))⟩)) | go_quiet (first | (go_at_call 63; (with_reducible refine (spec_l01Wide.calls k2 s0_0 t413 _ A16.out).mono ?_); rintro e w' ⟨rfl, ⟨nd, rfl⟩⟩; (try first | exact ⟨rfl, _, World.drewN_drewN _ _ _⟩ | exact ⟨rfl, _, Eq.trans (World.drewN_drewN _ _ _) (congrArg (World.drewN _) (Nat.add_assoc _ _ _))⟩))))
         go_ret; exact ⟨tE, tIp, tB, tK⟩
       ·rw [if_neg c15] at H; exact absurd H (by simp)
      ·rw [if_neg c14] at H; have c14b0 := decide_eq_false c14; clear c14; simp only [Option.some.injEq, Prod.mk.injEq] at H; obtain ⟨rfl, rfl, rfl⟩ := H; obtain ⟨ASz29_2, cSz29_2, ASz29_3, cSz29_3, hcz29_0, hcz29_1, hcz29_2, hcz29_3, HSz29_2, HSz29_3⟩ := HI0.out; go_wp2
       repeat (go_quiet (fail); try go_wp2)
       go_ret; exact ⟨tE, tIp, tB, tK⟩
def spec_l01Ok.f (k : Nat) (s0_0 : Int) (s0_1 : Int) (s0_2 : List Bool) (s0_3 : List (List Int)) : Option (Bool × Int × Int) := if (s0_2.length : Int) ≤ 150 then ((spec_l01Form.f k s0_0 s0_1 s0_2 s0_3).bind fun bt418 => (some (bt418.1, bt418.2.1, bt418.2.2))) else (some (false, s0_0, s0_1))
theorem spec_l01Ok.atcalls (k : Nat) (p0 : Addr) (s0_0 : Int) (s0_1 : Int) (s0_2 : List Bool) (s0_3 : List (List Int)) (r1 : Bool) (r2 : Int) (r3 : Int) (w0 w : World) (hI : IsP38 w0 w p0 s0_0 s0_1 s0_2 s0_3) (hB : Below w0.heap.size w0 w) (h : spec_l01Ok.f k s0_0 s0_1 s0_2 s0_3 = some (r1, r2, r3)) :
  Calls Tryd.prog 77 #[.pointer (some p0)] w fun e w' => e = .returned (.bool r1) ∧ IsP38 w0 w' p0 r2 r3 s0_2 s0_3 ∧ Below w0.heap.size w0 w' ∧ KeepBut w w' p0.block none := by
 have HI0 := am hI; have HK := am (KeepBut.refl w p0.block none); have HL := am hB.size; clear hI; have HW0 := am hB.size; have HB := am hB; clear hB; have H : (if (s0_2.length : Int) ≤ 150 then ((spec_l01Form.f k s0_0 s0_1 s0_2 s0_3).bind fun bt418 => (some (bt418.1, bt418.2.1, bt418.2.2))) else (some (false, s0_0, s0_1))) = some (r1, r2, r3) := h; clear h; by_cases c2 : (s0_2.length : Int) ≤ 150
 ·rw [if_pos c2] at H; have c2b0 := decide_eq_true c2; have c2b1 : decide (s0_2.length ≤ 150) = true := decide_eq_true (by omega); clear c2; obtain ⟨⟨t418, t419, t420⟩, A30, H⟩ := oB H; replace H : (some (t418, t419, t420)) = some (r1, r2, r3) := H; have A3 := am A30; clear A30; simp only [Option.some.injEq, Prod.mk.injEq] at H; obtain ⟨rfl, rfl, rfl⟩ := H; obtain ⟨ASz4_2, cSz4_2, ASz4_3, cSz4_3, hcz4_0, hcz4_1, hcz4_2, hcz4_3, HSz4_2, HSz4_3⟩ := HI0.out; go_enter Tryd.func77, Tryd.ntmps77
  go_wp2_with (first | (go_at_call 125; (with_reducible refine (spec_l01Form.atcalls k p0 s0_0 s0_1 s0_2 s0_3 t418 t419 t420 w0 _ ?side1 ?side2 A3.out).mono ?_); (case side1 => repeat (first | (with_reducible first | exact HI0.out | apply IsP38.alloc | apply IsP38.drewN | apply IsP38.drew | apply IsP38.set_0 | apply IsP38.set_1) | exact HI0.out)); (case side2 => repeat (first | (with_reducible first | exact HB.out | apply below_alloc | apply pw_below_drewN | apply below_drew1 | refine below_set ?_ (IsP38.ge HI0.out)) | exact HB.out)); rintro e w5 ⟨rfl, hi, hb, hk⟩; replace HK := am (KeepBut.trans (tK) hk (.inl rfl)); replace HB := am (hb); replace HI0 := am (hi); (try clear hb); (try clear hb2); (try clear hk); (try clear hi)))
  go_ret; exact ⟨tE, tIp, tB, tK⟩
 ·rw [if_neg c2] at H; have c2b0 := decide_eq_false c2; have c2b1 : decide (s0_2.length ≤ 150) = false := decide_eq_false (by omega); clear c2; simp only [Option.some.injEq, Prod.mk.injEq] at H; obtain ⟨rfl, rfl, rfl⟩ := H; obtain ⟨ASz6_2, cSz6_2, ASz6_3, cSz6_3, hcz6_0, hcz6_1, hcz6_2, hcz6_3, HSz6_2, HSz6_3⟩ := HI0.out; go_enter Tryd.func77, Tryd.ntmps77; go_wp2; go_ret; exact ⟨tE, tIp, tB, tK⟩
def spec_l01Ok_v.f (k : Nat) (a0_0 : Int) (a0_1 : Int) (l0_2 : List Bool) (l0_3 : List (List Int))  : Option ((Bool)) := (spec_l01Ok.f k a0_0 a0_1 l0_2 l0_3 ).bind fun b => if b.2.1 = a0_0 ∧ b.2.2 = a0_1 then some b.1 else none
theorem spec_l01Ok_v.calls (k : Nat) {g : Nat} (a0_0 : Int) (a0_1 : Int) (A0_2 : Option Addr) (c0_2 : Nat) (l0_2 : List Bool) (A0_3 : Option Addr) (c0_3 : Nat) (l0_3 : List (List Int))  (r1 : Bool) (w : World) (hbox : w.heap[g]? = some (.cells #[.int .i64 a0_0, .int .i64 a0_1, .slice A0_2 l0_2.length c0_2, .slice A0_3 l0_3.length c0_3] 38 (0, 0))) (hr0_2 : Kd.C Kd.bool w A0_2 l0_2.length l0_2) (hc0_2 : l0_2.length ≤ c0_2) (hr0_3 : Kd.C (Kd.slice 2 (Kd.int .i64)) w A0_3 l0_3.length l0_3) (hc0_3 : l0_3.length ≤ c0_3)  (h : spec_l01Ok_v.f k a0_0 a0_1 l0_2 l0_3  = some r1) :
  Calls Tryd.prog 77 #[.pointer (some ⟨g, 0, none⟩)] w fun e w' => e = .returned (.bool r1) ∧ Below w.heap.size w w' := by
 unfold spec_l01Ok_v.f at h; obtain ⟨⟨r1', q1, q2⟩, h1, h2⟩ := oB h; dsimp only at h2; by_cases hq : q1 = a0_0 ∧ q2 = a0_1
 case neg => rw [if_neg hq] at h2; cases h2
 rw [if_pos hq] at h2; obtain rfl := Option.some.inj h2; refine (spec_l01Ok.atcalls k ⟨g, 0, none⟩ a0_0 a0_1 l0_2 l0_3  _ q1 q2 w w ⟨A0_2, c0_2, A0_3, c0_3, (blk_cell hbox 0).trans rfl, (blk_cell hbox 1).trans rfl, (blk_cell hbox 2).trans rfl, (blk_cell hbox 3).trans rfl, hr0_2, hr0_3⟩ (Below.refl _ _)  h1).mono ?_; rintro e w' ⟨he, hi, hb, hk⟩; exact ⟨he, hb⟩
def spec_RelationText.l0 : Nat → ByteArray → Int → Int → Int → List Bool → List (List Int) → Option (ByteArray)
 | 0, _, _, _, _, _, _ => none
 | k + 1, x3, x4, x431000, x431001, x431002, x431003 => if x4 < (x431002.length : Int) then (if 0 ≤ x4 then (if rdOf false x431002 x4 = true then (if x4 < (x431003.length : Int) then ((spec_l01Row.f k (⟨#[121, 101, 115]⟩ : ByteArray) (rd_L5 x431003 x4)).bind fun t438 => (if t438.size + 1 ≤ 9223372036854775807 then (if x3.size + (t438 ++ (⟨#[10]⟩ : ByteArray)).size ≤ 9223372036854775807 then (spec_RelationText.l0 k (x3 ++ (t438 ++ (⟨#[10]⟩ : ByteArray))) (wrap64 (x4 + 1)) x431000 x431001 x431002 x431003) else (none)) else (none))) else (none)) else (if x4 < (x431003.length : Int) then ((spec_l01Row.f k (⟨#[110, 111]⟩ : ByteArray) (rd_L5 x431003 x4)).bind fun t440 => (if t440.size + 1 ≤ 9223372036854775807 then (if x3.size + (t440 ++ (⟨#[10]⟩ : ByteArray)).size ≤ 9223372036854775807 then (spec_RelationText.l0 k (x3 ++ (t440 ++ (⟨#[10]⟩ : ByteArray))) (wrap64 (x4 + 1)) x431000 x431001 x431002 x431003) else (none)) else (none))) else (none))) else (none)) else (some x3)
def spec_RelationText.f (k : Nat) (a0_0 : Int) (a0_1 : Int) (l0_2 : List Bool) (l0_3 : List (List Int)) : Option (ByteArray) := (spec_l01Ok_v.f k a0_0 a0_1 l0_2 l0_3).bind fun t431 => (if t431 = true then ((spec_l01Row.f k (⟨#[114, 101, 108, 97, 116, 105, 111, 110]⟩ : ByteArray) (([a0_0, (l0_2.length : Int), a0_1] : List Int))).bind fun t435 => (if t435.size + 1 ≤ 9223372036854775807 then (spec_RelationText.l0 k (t435 ++ (⟨#[10]⟩ : ByteArray)) 0 a0_0 a0_1 l0_2 l0_3) else (none))) else (some (⟨#[]⟩ : ByteArray)))
theorem spec_RelationText.calls (k : Nat) (a0_0 : Int) (a0_1 : Int) (A0_2 : Option Addr) (c0_2 : Nat) (l0_2 : List Bool) (A0_3 : Option Addr) (c0_3 : Nat) (l0_3 : List (List Int)) (r : ByteArray) (w : World) (hr0_2 : Kd.C Kd.bool w A0_2 l0_2.length l0_2) (hc0_2 : l0_2.length ≤ c0_2) (hr0_3 : Kd.C (Kd.slice 2 (Kd.int .i64)) w A0_3 l0_3.length l0_3) (hc0_3 : l0_3.length ≤ c0_3) (h : spec_RelationText.f k a0_0 a0_1 l0_2 l0_3 = some r) :
  Calls Tryd.prog 35 #[.agg #[.int .i64 a0_0, .int .i64 a0_1, .slice A0_2 l0_2.length c0_2, .slice A0_3 l0_3.length c0_3]] w fun e w' => e = .returned (.string r) ∧ Below w.heap.size w w' := by
 have hu38 := Tryd.underlying38; have HR0_2 := am hr0_2; have HC0_2 := am hc0_2; clear hr0_2 hc0_2; have HR0_3 := am hr0_3; have HC0_3 := am hc0_3; clear hr0_3 hc0_3; have HB := am (Below.refl w.heap.size w); have H : ((spec_l01Ok_v.f k a0_0 a0_1 l0_2 l0_3).bind fun t431 => (if t431 = true then ((spec_l01Row.f k (⟨#[114, 101, 108, 97, 116, 105, 111, 110]⟩ : ByteArray) (([a0_0, (l0_2.length : Int), a0_1] : List Int))).bind fun t435 => (if t435.size + 1 ≤ 9223372036854775807 then (spec_RelationText.l0 k (t435 ++ (⟨#[10]⟩ : ByteArray)) 0 a0_0 a0_1 l0_2 l0_3) else (none))) else (some (⟨#[]⟩ : ByteArray)))) = some r := h; clear h; obtain ⟨t431, A20, H⟩ := oB H; replace H : (if t431 = true then ((spec_l01Row.f k (⟨#[114, 101, 108, 97, 116, 105, 111, 110]⟩ : ByteArray) (([a0_0, (l0_2.length : Int), a0_1] : List Int))).bind fun t435 => (if t435.size + 1 ≤ 9223372036854775807 then (spec_RelationText.l0 k (t435 ++ (⟨#[10]⟩ : ByteArray)) 0 a0_0 a0_1 l0_2 l0_3) else (none))) else (some (⟨#[]⟩ : ByteArray))) = some r := H; have A2 := am A20; clear A20; by_cases c3 : t431 = true
 ·subst c3; (have H1 : ((spec_l01Row.f k (⟨#[114, 101, 108, 97, 116, 105, 111, 110]⟩ : ByteArray) (([a0_0, (l0_2.length : Int), a0_1] : List Int))).bind fun t435 => (if t435.size + 1 ≤ 9223372036854775807 then (spec_RelationText.l0 k (t435 ++ (⟨#[10]⟩ : ByteArray)) 0 a0_0 a0_1 l0_2 l0_3) else (none))) = some r := by rw [if_pos rfl] at H; exact H); clear H; have H := H1; clear H1; obtain ⟨y432, hy432⟩ : ∃ y_ : List Int, y_ = (([a0_0, (l0_2.length : Int), a0_1] : List Int)) := ⟨_, rfl⟩; replace H : ((spec_l01Row.f k (⟨#[114, 101, 108, 97, 116, 105, 111, 110]⟩ : ByteArray) y432).bind fun t435 => (if t435.size + 1 ≤ 9223372036854775807 then (spec_RelationText.l0 k (t435 ++ (⟨#[10]⟩ : ByteArray)) 0 a0_0 a0_1 l0_2 l0_3) else (none))) = some r := tY hy432 H; have Ny432 := am hy432; clear hy432; obtain ⟨t435, A40, H⟩ := oB H; replace H : (if t435.size + 1 ≤ 9223372036854775807 then (spec_RelationText.l0 k (t435 ++ (⟨#[10]⟩ : ByteArray)) 0 a0_0 a0_1 l0_2 l0_3) else (none)) = some r := H; have A4 := am A40; clear A40; by_cases c5 : t435.size + 1 ≤ 9223372036854775807
  ·rw [if_pos c5] at H; have c5b0 := eq_true c5; have c5b1 := decide_eq_true c5
   try have c5b2 : (9223372036854775807 < t435.size + 1) = False := eq_false (Nat.not_lt.2 c5)
   have H' := am H; clear H; go_enter Tryd.func35, Tryd.ntmps35
   go_wp2_with (first | ((with_reducible refine gate_dst (N := 1) rfl ?_); refine boxA 1 #[.int .i64 a0_0, .int .i64 a0_1, .slice A0_2 l0_2.length c0_2, .slice A0_3 l0_3.length c0_3] 38 rfl rfl (h := ?_); intro gb430 hg w6 hbox hb; have BK430 := am (hbox); have GW430 := am ((by rw [hg]; exact (below_size (tB)) : w.heap.size ≤ gb430)); have GE430 := am ((by rw [hg]; exact (below_size (tB)) : w.heap.size ≤ gb430)); replace HB := am (below_step (tB) hb); clear hb hbox hg; obtain ⟨hcz7_0, hcz7_1, hcz7_2, hcz7_3⟩ := bc4 BK430.out; have hfz7_0 := blk_frozen BK430.out 0; have hfz7_1 := blk_frozen BK430.out 1; have hfz7_2 := blk_frozen BK430.out 2; have hfz7_3 := blk_frozen BK430.out 3) | ((with_reducible refine gate_callee (f := 77) rfl ?_); refine goesLA (some 6) Tryd.func77 #[.pointer (some ⟨gb430, 0, none⟩)] rfl rfl rfl (h := ?_); (with_reducible refine (spec_l01Ok_v.calls k a0_0 a0_1 A0_2 c0_2 l0_2 A0_3 c0_3 l0_3 true _ ?sidebox ?side1 ?side2 ?side3 ?side4 A2.out).mono ?_); (case sidebox => (refine tBk ?_; first | exact BK430.out | exact blk_set (blk_set (blk_set (blk_set BK430.out 0 _) 1 _) 2 _) 3 _)); (case side1 => exact tC (Kd.C_below HR0_2.out HB.out)); (case side2 => exact HC0_2.out); (case side3 => exact tC (Kd.C_below HR0_3.out HB.out)); (case side4 => exact HC0_3.out); rintro e w8 ⟨rfl, hb⟩; refine ⟨_, rfl, ?_⟩; replace BK430 := am (bkb BK430.out hb); replace HB := am (below_step (tB) hb); (try clear hb); (try clear hb2); (try clear hk); (try clear hi); obtain ⟨hcz9_0, hcz9_1, hcz9_2, hcz9_3⟩ := bc4 BK430.out; have hfz9_0 := blk_frozen BK430.out 0; have hfz9_1 := blk_frozen BK430.out 1; have hfz9_2 := blk_frozen BK430.out 2; have hfz9_3 := blk_frozen BK430.out 3) | ((with_reducible refine gate_dst (N := 15) rfl ?_); refine Kd.R_lit (Kd.int .i64) _ 2 ?hg (N := 15) ?hd (xs := ([a0_0, (l0_2.length : Int), a0_1] : List Int)) (inner := [.int .i64 a0_0, .int .i64 (l0_2.length : Int), .int .i64 a0_1]) (ok := fun _ => True) (okp := fun _ => True) ?hr ?hp (fun _ hk => hk) trivial (Below.refl _ _) (Nat.le_refl _) (by simp) ?_; (case hd => rfl); (case hg => rfl); (case hr => first | (go_simp; done) | (go_simp; rfl)); (case hp => exact (Reps.one (show Kd.M (Kd.int .i64) _ _ _ a0_0 [.int .i64 a0_0] from rfl) (Reps.one (show Kd.M (Kd.int .i64) _ _ _ (l0_2.length : Int) [.int .i64 (l0_2.length : Int)] from rfl) (Reps.one (show Kd.M (Kd.int .i64) _ _ _ a0_1 [.int .i64 a0_1] from rfl) (Reps.none _ _))))); intro v433 w10 ho11 hb hg_ hnew_; clear hg_ hnew_; (first | rw [← Ny432.out] at ho11 | (simp only [Int.reduceToNat] at ho11; rw [← Ny432.out] at ho11)); have HO434 := am (Kd.R_lower ho11 (below_size (tB))); replace BK430 := am (bkb BK430.out hb); replace HB := am (below_step (tB) hb); clear hb ho11; obtain ⟨Ao12, co12, eo12⟩ := Kd.R_slice HO434.out; subst eo12) | ((with_reducible refine gate_callee (f := 78) rfl ?_); refine goesLA (some 16) Tryd.func78 #[.string (⟨#[114, 101, 108, 97, 116, 105, 111, 110]⟩ : ByteArray), .slice Ao12 y432.length co12] rfl rfl rfl (h := ?_); (with_reducible refine (spec_l01Row.calls k (⟨#[114, 101, 108, 97, 116, 105, 111, 110]⟩ : ByteArray) _ _ y432 t435 _ ?side1 ?side2 A4.out).mono ?_); (case side1 => exact tC (Kd.R_reads' HO434.out).2.2); (case side2 => exact (Kd.R_reads' HO434.out).2.1); rintro e w13 ⟨rfl, hb⟩; refine ⟨_, rfl, ?_⟩; replace HO434 := am (Kd.R_below (tR HO434.out) hb); replace BK430 := am (bkb BK430.out hb); replace HB := am (below_step (tB) hb); (try clear hb); (try clear hb2); (try clear hk); (try clear hi)))
   go_loopg [3, 4] k (fun kq v3 v4 w' => ∃ (x3_1 : ByteArray) (x4_1 : Int), v3 = .string x3_1 ∧ v4 = .int .i64 x4_1 ∧ Aside0 (spec_RelationText.l0 kq x3_1 x4_1 a0_0 a0_1 l0_2 l0_3 = some r) ∧ Aside0 (kq ≤ k) ∧ Aside0 (w'.heap[gb430]? = some (.cells #[.int .i64 a0_0, .int .i64 a0_1, (.slice A0_2 l0_2.length c0_2), (.slice A0_3 l0_3.length c0_3)] 38 (0, 0))) ∧ Aside0 (Below w.heap.size w w'))
   case atStart => exact ⟨(t435 ++ (⟨#[10]⟩ : ByteArray)), (0), (tF), (tF), H', ⟨Nat.le_refl _⟩, ⟨by refine tBk ?_; exact BK430.out⟩, ⟨tB⟩⟩
   case round =>
    clear H'
    try clear p2; try clear c3; try clear c5; try clear c5b0; try clear c5b1; try clear c5b2; try clear c7; try clear hcz7_0; try clear hcz7_1; try clear hcz7_2; try clear hcz7_3; try clear hcz9_0; try clear hcz9_1; try clear hcz9_2; try clear hcz9_3; try clear hfz7_0; try clear hfz7_1; try clear hfz7_2; try clear hfz7_3; try clear hfz9_0; try clear hfz9_1; try clear hfz9_2; try clear hfz9_3
    obtain ⟨x3_1, x4_1, rfl, rfl, HA, HK1, BK430, HB⟩ := hrel
    cases gk with
    | zero => exact absurd HA.out (by simp [spec_RelationText.l0])
    | succ k1 =>
     have H := HA.out; clear HA; simp only [spec_RelationText.l0] at H; by_cases c14 : x4_1 < (l0_2.length : Int)
     ·rw [if_pos c14] at H; have c14b0 := decide_eq_true c14; clear c14; by_cases c15 : 0 ≤ x4_1
      ·rw [if_pos c15] at H; have c15b0 := decide_eq_true c15; clear c15; obtain ⟨bq16, hbq16⟩ : ∃ b_ : Bool, b_ = (rdOf false l0_2 x4_1) := ⟨_, rfl⟩; (replace H : (if bq16 = true then (if x4_1 < (l0_3.length : Int) then ((spec_l01Row.f k1 (⟨#[121, 101, 115]⟩ : ByteArray) (rd_L5 l0_3 x4_1)).bind fun t438 => (if t438.size + 1 ≤ 9223372036854775807 then (if x3_1.size + (t438 ++ (⟨#[10]⟩ : ByteArray)).size ≤ 9223372036854775807 then (spec_RelationText.l0 k1 (x3_1 ++ (t438 ++ (⟨#[10]⟩ : ByteArray))) (wrap64 (x4_1 + 1)) a0_0 a0_1 l0_2 l0_3) else (none)) else (none))) else (none)) else (if x4_1 < (l0_3.length : Int) then ((spec_l01Row.f k1 (⟨#[110, 111]⟩ : ByteArray) (rd_L5 l0_3 x4_1)).bind fun t440 => (if t440.size + 1 ≤ 9223372036854775807 then (if x3_1.size + (t440 ++ (⟨#[10]⟩ : ByteArray)).size ≤ 9223372036854775807 then (spec_RelationText.l0 k1 (x3_1 ++ (t440 ++ (⟨#[10]⟩ : ByteArray))) (wrap64 (x4_1 + 1)) a0_0 a0_1 l0_2 l0_3) else (none)) else (none))) else (none))) = some r := by rw [← hbq16] at H; exact H); have Nbq16 := am hbq16; clear hbq16; by_cases c17 : bq16 = true
       ·subst c17; (have H1 : (if x4_1 < (l0_3.length : Int) then ((spec_l01Row.f k1 (⟨#[121, 101, 115]⟩ : ByteArray) (rd_L5 l0_3 x4_1)).bind fun t438 => (if t438.size + 1 ≤ 9223372036854775807 then (if x3_1.size + (t438 ++ (⟨#[10]⟩ : ByteArray)).size ≤ 9223372036854775807 then (spec_RelationText.l0 k1 (x3_1 ++ (t438 ++ (⟨#[10]⟩ : ByteArray))) (wrap64 (x4_1 + 1)) a0_0 a0_1 l0_2 l0_3) else (none)) else (none))) else (none)) = some r := by rw [if_pos rfl] at H; exact H); clear H; have H := H1; clear H1; by_cases c18 : x4_1 < (l0_3.length : Int)
        ·rw [if_pos c18] at H; have c18b0 := decide_eq_true c18; clear c18; obtain ⟨t438, A190, H⟩ := oB H; replace H : (if t438.size + 1 ≤ 9223372036854775807 then (if x3_1.size + (t438 ++ (⟨#[10]⟩ : ByteArray)).size ≤ 9223372036854775807 then (spec_RelationText.l0 k1 (x3_1 ++ (t438 ++ (⟨#[10]⟩ : ByteArray))) (wrap64 (x4_1 + 1)) a0_0 a0_1 l0_2 l0_3) else (none)) else (none)) = some r := H; have A19 := am A190; clear A190; by_cases c20 : t438.size + 1 ≤ 9223372036854775807
         ·rw [if_pos c20] at H; have c20b0 := eq_true c20; have c20b1 := decide_eq_true c20
          try have c20b2 : (9223372036854775807 < t438.size + 1) = False := eq_false (Nat.not_lt.2 c20)
          by_cases c21 : x3_1.size + (t438 ++ (⟨#[10]⟩ : ByteArray)).size ≤ 9223372036854775807
          ·rw [if_pos c21] at H; have c21b0 := eq_true c21; have c21b1 := decide_eq_true c21
           try have c21b2 : (9223372036854775807 < x3_1.size + (t438 ++ (⟨#[10]⟩ : ByteArray)).size) = False := eq_false (Nat.not_lt.2 c21)
           have H' := am H; clear H; obtain ⟨hcz22_0, hcz22_1, hcz22_2, hcz22_3⟩ := bc4 BK430.out; obtain ⟨hfz22_0, hfz22_1, hfz22_2, hfz22_3⟩ := bf4 BK430.out; have p436 : 0 ≤ (x4_1 : Int) := oA; have q436 : x4_1 < (l0_2.length : Int) := oA; obtain ⟨ad436, e436, hx436_0⟩ := Kd.at_bool HR0_2.out x4_1 p436 q436
           (try rw [← Nbq16.out] at hx436_0)
           cases e436; replace hx436_0 := (HB.out.cell (World.block_lt_of_cell? w _ hx436_0)).trans hx436_0; replace p436 := eq_true p436; replace q436 := eq_true q436; have p437 : 0 ≤ (x4_1 : Int) := oA; have q437 : x4_1 < (l0_3.length : Int) := oA; obtain ⟨ad437, A437_0, c437_0, e437, hx437_0, hl437_0, hi437_0⟩ := at_L5 HR0_3.out x4_1 p437 q437; cases e437; replace hx437_0 := (HB.out.cell (World.block_lt_of_cell? w _ hx437_0)).trans hx437_0; have HR437_0 := am hi437_0; have HC437_0 := am hl437_0; clear hi437_0 hl437_0; replace p437 := eq_true p437; replace q437 := eq_true q437
           go_wp2_with (first | ((with_reducible refine gate_callee (f := 78) rfl ?_); refine goesLA (some 37) Tryd.func78 #[.string (⟨#[121, 101, 115]⟩ : ByteArray), .slice A437_0 (rd_L5 l0_3 x4_1).length c437_0] rfl rfl rfl (h := ?_); (with_reducible refine (spec_l01Row.calls k1 (⟨#[121, 101, 115]⟩ : ByteArray) _ _ (rd_L5 l0_3 x4_1) t438 _ ?side1 ?side2 A19.out).mono ?_); (case side1 => exact tC (Kd.C_below HR437_0.out HB.out)); (case side2 => exact HC437_0.out); rintro e w23 ⟨rfl, hb⟩; refine ⟨_, rfl, ?_⟩; replace BK430 := am (bkb BK430.out hb); replace HB := am (below_step (tB) hb); (try clear hb); (try clear hb2); (try clear hk); (try clear hi)))
           go_roundg k1
           case measure => have := HK1.out; omega
           case rel => exact ⟨(x3_1 ++ (t438 ++ (⟨#[10]⟩ : ByteArray))), (wrap64 (x4_1 + 1)), (tF), (tF), H', ⟨by have := HK1.out; omega⟩, ⟨by refine tBk ?_; exact BK430.out⟩, ⟨tB⟩⟩
          ·rw [if_neg c21] at H; exact absurd H (by simp)
         ·rw [if_neg c20] at H; exact absurd H (by simp)
        ·rw [if_neg c18] at H; exact absurd H (by simp)
       ·replace c17 := Bool.eq_false_iff.mpr c17; subst c17; (have H1 : (if x4_1 < (l0_3.length : Int) then ((spec_l01Row.f k1 (⟨#[110, 111]⟩ : ByteArray) (rd_L5 l0_3 x4_1)).bind fun t440 => (if t440.size + 1 ≤ 9223372036854775807 then (if x3_1.size + (t440 ++ (⟨#[10]⟩ : ByteArray)).size ≤ 9223372036854775807 then (spec_RelationText.l0 k1 (x3_1 ++ (t440 ++ (⟨#[10]⟩ : ByteArray))) (wrap64 (x4_1 + 1)) a0_0 a0_1 l0_2 l0_3) else (none)) else (none))) else (none)) = some r := by rw [if_neg (show ¬ (false = true) by decide)] at H; exact H); clear H; have H := H1; clear H1; by_cases c24 : x4_1 < (l0_3.length : Int)
        ·rw [if_pos c24] at H; have c24b0 := decide_eq_true c24; clear c24; obtain ⟨t440, A250, H⟩ := oB H; replace H : (if t440.size + 1 ≤ 9223372036854775807 then (if x3_1.size + (t440 ++ (⟨#[10]⟩ : ByteArray)).size ≤ 9223372036854775807 then (spec_RelationText.l0 k1 (x3_1 ++ (t440 ++ (⟨#[10]⟩ : ByteArray))) (wrap64 (x4_1 + 1)) a0_0 a0_1 l0_2 l0_3) else (none)) else (none)) = some r := H; have A25 := am A250; clear A250; by_cases c26 : t440.size + 1 ≤ 9223372036854775807
         ·rw [if_pos c26] at H; have c26b0 := eq_true c26; have c26b1 := decide_eq_true c26
          try have c26b2 : (9223372036854775807 < t440.size + 1) = False := eq_false (Nat.not_lt.2 c26)
          by_cases c27 : x3_1.size + (t440 ++ (⟨#[10]⟩ : ByteArray)).size ≤ 9223372036854775807
          ·rw [if_pos c27] at H; have c27b0 := eq_true c27; have c27b1 := decide_eq_true c27
           try have c27b2 : (9223372036854775807 < x3_1.size + (t440 ++ (⟨#[10]⟩ : ByteArray)).size) = False := eq_false (Nat.not_lt.2 c27)
           have H' := am H; clear H; obtain ⟨hcz28_0, hcz28_1, hcz28_2, hcz28_3⟩ := bc4 BK430.out; obtain ⟨hfz28_0, hfz28_1, hfz28_2, hfz28_3⟩ := bf4 BK430.out; have p436 : 0 ≤ (x4_1 : Int) := oA; have q436 : x4_1 < (l0_2.length : Int) := oA; obtain ⟨ad436, e436, hx436_0⟩ := Kd.at_bool HR0_2.out x4_1 p436 q436
           (try rw [← Nbq16.out] at hx436_0)
           cases e436; replace hx436_0 := (HB.out.cell (World.block_lt_of_cell? w _ hx436_0)).trans hx436_0; replace p436 := eq_true p436; replace q436 := eq_true q436; have p439 : 0 ≤ (x4_1 : Int) := oA; have q439 : x4_1 < (l0_3.length : Int) := oA; obtain ⟨ad439, A439_0, c439_0, e439, hx439_0, hl439_0, hi439_0⟩ := at_L5 HR0_3.out x4_1 p439 q439; cases e439; replace hx439_0 := (HB.out.cell (World.block_lt_of_cell? w _ hx439_0)).trans hx439_0; have HR439_0 := am hi439_0; have HC439_0 := am hl439_0; clear hi439_0 hl439_0; replace p439 := eq_true p439; replace q439 := eq_true q439
           go_wp2_with (first | ((with_reducible refine gate_callee (f := 78) rfl ?_); refine goesLA (some 37) Tryd.func78 #[.string (⟨#[110, 111]⟩ : ByteArray), .slice A439_0 (rd_L5 l0_3 x4_1).length c439_0] rfl rfl rfl (h := ?_); (with_reducible refine (spec_l01Row.calls k1 (⟨#[110, 111]⟩ : ByteArray) _ _ (rd_L5 l0_3 x4_1) t440 _ ?side1 ?side2 A25.out).mono ?_); (case side1 => exact tC (Kd.C_below HR439_0.out HB.out)); (case side2 => exact HC439_0.out); rintro e w29 ⟨rfl, hb⟩; refine ⟨_, rfl, ?_⟩; replace BK430 := am (bkb BK430.out hb); replace HB := am (below_step (tB) hb); (try clear hb); (try clear hb2); (try clear hk); (try clear hi)))
           go_roundg k1
           case measure => have := HK1.out; omega
           case rel => exact ⟨(x3_1 ++ (t440 ++ (⟨#[10]⟩ : ByteArray))), (wrap64 (x4_1 + 1)), (tF), (tF), H', ⟨by have := HK1.out; omega⟩, ⟨by refine tBk ?_; exact BK430.out⟩, ⟨tB⟩⟩
          ·rw [if_neg c27] at H; exact absurd H (by simp)
         ·rw [if_neg c26] at H; exact absurd H (by simp)
        ·rw [if_neg c24] at H; exact absurd H (by simp)
      ·rw [if_neg c15] at H; exact absurd H (by simp)
     ·rw [if_neg c14] at H; have c14b0 := decide_eq_false c14; clear c14; obtain rfl := Option.some.inj H; obtain ⟨hcz30_0, hcz30_1, hcz30_2, hcz30_3⟩ := bc4 BK430.out; obtain ⟨hfz30_0, hfz30_1, hfz30_2, hfz30_3⟩ := bf4 BK430.out; go_wp2; go_ret; exact ⟨tE, tB⟩
  ·rw [if_neg c5] at H; exact absurd H (by simp)
 ·replace c3 := Bool.eq_false_iff.mpr c3; subst c3; (have H1 : (some (⟨#[]⟩ : ByteArray)) = some r := by rw [if_neg (show ¬ (false = true) by decide)] at H; exact H); clear H; have H := H1; clear H1; obtain rfl := Option.some.inj H; go_enter Tryd.func35, Tryd.ntmps35
  go_wp2_with (first | ((with_reducible refine gate_dst (N := 1) rfl ?_); refine boxA 1 #[.int .i64 a0_0, .int .i64 a0_1, .slice A0_2 l0_2.length c0_2, .slice A0_3 l0_3.length c0_3] 38 rfl rfl (h := ?_); intro gb430 hg w31 hbox hb; have BK430 := am (hbox); have GW430 := am ((by rw [hg]; exact (below_size (tB)) : w.heap.size ≤ gb430)); have GE430 := am ((by rw [hg]; exact (below_size (tB)) : w.heap.size ≤ gb430)); replace HB := am (below_step (tB) hb); clear hb hbox hg; obtain ⟨hcz32_0, hcz32_1, hcz32_2, hcz32_3⟩ := bc4 BK430.out; have hfz32_0 := blk_frozen BK430.out 0; have hfz32_1 := blk_frozen BK430.out 1; have hfz32_2 := blk_frozen BK430.out 2; have hfz32_3 := blk_frozen BK430.out 3) | ((with_reducible refine gate_callee (f := 77) rfl ?_); refine goesLA (some 6) Tryd.func77 #[.pointer (some ⟨gb430, 0, none⟩)] rfl rfl rfl (h := ?_); (with_reducible refine (spec_l01Ok_v.calls k a0_0 a0_1 A0_2 c0_2 l0_2 A0_3 c0_3 l0_3 false _ ?sidebox ?side1 ?side2 ?side3 ?side4 A2.out).mono ?_); (case sidebox => (refine tBk ?_; first | exact BK430.out | exact blk_set (blk_set (blk_set (blk_set BK430.out 0 _) 1 _) 2 _) 3 _)); (case side1 => exact tC (Kd.C_below HR0_2.out HB.out)); (case side2 => exact HC0_2.out); (case side3 => exact tC (Kd.C_below HR0_3.out HB.out)); (case side4 => exact HC0_3.out); rintro e w33 ⟨rfl, hb⟩; refine ⟨_, rfl, ?_⟩; replace BK430 := am (bkb BK430.out hb); replace HB := am (below_step (tB) hb); (try clear hb); (try clear hb2); (try clear hk); (try clear hi)))
  go_ret; exact ⟨tE, tB⟩
def impl_within.f (a0 : Int) (a1 : Int) (a2 : Int) : Option (Bool) := if a1 ≤ a0 then (some (decide (a0 ≤ a2))) else (some false)
theorem impl_within.calls (a0 : Int) (a1 : Int) (a2 : Int) (r : Bool) (w : World) (h : impl_within.f a0 a1 a2 = some r) :
  Calls Tryd.prog 115 #[.int .i64 a0, .int .i64 a1, .int .i64 a2] w fun e w' => e = .returned (.bool r) ∧ Drawn0 w w' := by
 have H : (if a1 ≤ a0 then (some (decide (a0 ≤ a2))) else (some false)) = some r := h; clear h; by_cases c4 : a1 ≤ a0
 ·rw [if_pos c4] at H; have c4b0 := decide_eq_true c4; clear c4; obtain rfl := Option.some.inj H; go_enter Tryd.func115, Tryd.ntmps115; go_wp2; go_ret; exact ⟨tF, tD⟩
 ·rw [if_neg c4] at H; have c4b0 := decide_eq_false c4; clear c4; obtain rfl := Option.some.inj H; go_enter Tryd.func115, Tryd.ntmps115; go_wp2; go_ret; exact ⟨tF, tD⟩
def impl_areTapes.f (a0 : Int) : Option (Bool) := (impl_within.f a0 1 3).bind fun t137 => (some t137)
theorem impl_areTapes.calls (a0 : Int) (r : Bool) (w : World) (h : impl_areTapes.f a0 = some r) :
  Calls Tryd.prog 59 #[.int .i64 a0] w fun e w' => e = .returned (.bool r) ∧ Drawn0 w w' := by
 have H : ((impl_within.f a0 1 3).bind fun t137 => (some t137)) = some r := h; clear h; obtain ⟨t137, A20, H⟩ := oB H; replace H : (some t137) = some r := H; have A2 := am A20; clear A20; obtain rfl := Option.some.inj H; go_enter Tryd.func59, Tryd.ntmps59
 go_wp2_with (first | ((with_reducible refine gate_callee (f := 115) rfl ?_); refine goesLA (some 4) Tryd.func115 #[.int .i64 a0, .int .i64 1, .int .i64 3] rfl rfl rfl (h := ?_); (with_reducible refine (impl_within.calls a0 1 3 t137 _ A2.out).mono ?_); rintro e w' ⟨rfl, ⟨nd, rfl⟩⟩; refine ⟨_, rfl, ?_⟩))
 go_ret; exact ⟨tF, tD⟩
def impl_powerOf.l0 : Nat → Int → Int → Option (Int)
 | 0, _, _ => none
 | k + 1, x0, x3 => if x0 > 0 then (impl_powerOf.l0 k (wrap64 (x0 - 1)) (wrap64 (x3 * 3))) else (some x3)
def impl_powerOf.f (k : Nat) (a0 : Int) : Option (Int) := impl_powerOf.l0 k a0 1
theorem impl_powerOf.mono_l : ∀ k, (∀ y0 y1, LeO (impl_powerOf.l0 k y0 y1) (impl_powerOf.l0 (k + 1) y0 y1))
 | 0 => fun _ _ r h => by simp [impl_powerOf.l0] at h
 | k + 1 => by
  have ih0 := impl_powerOf.mono_l k
  ·intro y0 y1; unfold impl_powerOf.l0
   repeat' first
   | (with_reducible exact ih0 _ _)
   | (with_reducible exact LeO.refl _)
   | (with_reducible exact LeO.none _)
   | (with_reducible refine LeO.ite ?_ ?_)
   | (with_reducible refine LeO.bind ?_ (fun _ => ?_))
   | exact ih0 _ _
   | exact LeO.none _
   | refine LeO.ite ?_ ?_
   | refine LeO.bind ?_ (fun _ => ?_)
theorem impl_powerOf.mono : ∀ a0 k, LeO (impl_powerOf.f k a0) (impl_powerOf.f (k + 1) a0) := by
 intro a0 k; have ih0 := impl_powerOf.mono_l k; unfold impl_powerOf.f
 repeat' first
   | (with_reducible exact ih0 _ _)
   | (with_reducible exact LeO.refl _)
   | (with_reducible exact LeO.none _)
   | (with_reducible refine LeO.ite ?_ ?_)
   | (with_reducible refine LeO.bind ?_ (fun _ => ?_))
   | exact ih0 _ _
   | exact LeO.none _
   | refine LeO.ite ?_ ?_
   | refine LeO.bind ?_ (fun _ => ?_)
theorem impl_powerOf.calls (k : Nat) (a0 : Int) (r : Int) (w : World) (h : impl_powerOf.f k a0 = some r) :
  Calls Tryd.prog 172 #[.int .i64 a0] w fun e w' => e = .returned (.int .i64 r) ∧ Drawn0 w w' := by
 have H : (impl_powerOf.l0 k a0 1) = some r := h; clear h; have H' := am H; clear H; go_enter Tryd.func172, Tryd.ntmps172; go_wp2
 go_loopg [0, 3] k (fun kq v0 v3 w' => ∃ (x0_1 : Int) (x3_1 : Int), v0 = .int .i64 x0_1 ∧ v3 = .int .i64 x3_1 ∧ Aside0 (impl_powerOf.l0 kq x0_1 x3_1 = some r) ∧ Aside0 (kq ≤ k) ∧ Drawn0 w w')
 case atStart => exact ⟨(a0), (1), (tF), (tF), H', ⟨Nat.le_refl _⟩, tD⟩
 case round =>
  clear H'
  try clear c1
  obtain ⟨x0_1, x3_1, rfl, rfl, HA, HK1, ⟨m1, rfl⟩⟩ := hrel
  cases gk with
  | zero => exact absurd HA.out (by simp [impl_powerOf.l0])
  | succ k1 =>
   have H := HA.out; clear HA; simp only [impl_powerOf.l0] at H; by_cases c2 : x0_1 > 0
   ·rw [if_pos c2] at H; have c2b0 : decide (0 < x0_1) = true := decide_eq_true c2; clear c2; have H' := am H; clear H; go_wp2; go_roundg k1
    case measure => have := HK1.out; omega
    case rel => exact ⟨(wrap64 (x0_1 - 1)), (wrap64 (x3_1 * 3)), (tF), (tF), H', ⟨by have := HK1.out; omega⟩, tD⟩
   ·rw [if_neg c2] at H; have c2b0 : decide (0 < x0_1) = false := decide_eq_false c2; clear c2; obtain rfl := Option.some.inj H; go_wp2; go_ret; exact ⟨tF, tD⟩
def impl_widthOf.f (k : Nat) (a0 : Int) : Option (Int) := (impl_powerOf.f k a0).bind fun t309 => (some (wrap64 (t309 - 1)))
theorem impl_widthOf.mono : ∀ a0 k, LeO (impl_widthOf.f k a0) (impl_widthOf.f (k + 1) a0) := by
 intro a0 k; unfold impl_widthOf.f
 repeat' first
   | (with_reducible exact impl_powerOf.mono _ _)
   | (with_reducible exact LeO.refl _)
   | (with_reducible exact LeO.none _)
   | (with_reducible refine LeO.ite ?_ ?_)
   | (with_reducible refine LeO.bind ?_ (fun _ => ?_))
   | exact impl_powerOf.mono _ _
   | exact LeO.none _
   | refine LeO.ite ?_ ?_
   | refine LeO.bind ?_ (fun _ => ?_)
theorem impl_widthOf.calls (k : Nat) (a0 : Int) (r : Int) (w : World) (h : impl_widthOf.f k a0 = some r) :
  Calls Tryd.prog 128 #[.int .i64 a0] w fun e w' => e = .returned (.int .i64 r) ∧ Drawn0 w w' := by
 have H : ((impl_powerOf.f k a0).bind fun t309 => (some (wrap64 (t309 - 1)))) = some r := h; clear h; obtain ⟨t309, A20, H⟩ := oB H; replace H : (some (wrap64 (t309 - 1))) = some r := H; have A2 := am A20; clear A20; obtain rfl := Option.some.inj H; go_enter Tryd.func128, Tryd.ntmps128
 go_wp2_with (first | ((with_reducible refine gate_callee (f := 172) rfl ?_); refine goesLA (some 4) Tryd.func172 #[.int .i64 a0] rfl rfl rfl (h := ?_); (with_reducible refine (impl_powerOf.calls k a0 t309 _ A2.out).mono ?_); rintro e w' ⟨rfl, ⟨nd, rfl⟩⟩; refine ⟨_, rfl, ?_⟩))
 go_ret; exact ⟨tF, tD⟩
mutual
def impl_ValidRelation.j0 : Nat → Int → Bool → Int → Int → List Bool → List (List Int) → Option (Bool)
 | 0, _, _, _, _, _, _ => none
 | k + 1, x3, x34, x469000, x469001, x469002, x469003 => if x34 = true then (some false) else (impl_ValidRelation.l0 k x3 x469003 (x469003.length : Int) 0 x469000 x469001 x469002 x469003)
def impl_ValidRelation.l0 : Nat → Int → List (List Int) → Int → Int → Int → Int → List Bool → List (List Int) → Option (Bool)
 | 0, _, _, _, _, _, _, _, _ => none
 | k + 1, x3, x36, x37, x38, x469000, x469001, x469002, x469003 => if x38 < x37 then (if 0 ≤ x38 then (if x38 < (x36.length : Int) then ((impl_widthOf.f k x469000).bind fun t473 => (if ((rd_L5 x36 x38).length : Int) = t473 then (impl_ValidRelation.l1 k x3 x36 x37 x38 (rd_L5 x36 x38) ((rd_L5 x36 x38).length : Int) 0 x469000 x469001 x469002 x469003) else (some false))) else (none)) else (none)) else (some true)
def impl_ValidRelation.l1 : Nat → Int → List (List Int) → Int → Int → List Int → Int → Int → Int → Int → List Bool → List (List Int) → Option (Bool)
 | 0, _, _, _, _, _, _, _, _, _, _, _ => none
 | k + 1, x3, x36, x37, x38, x48, x49, x50, x469000, x469001, x469002, x469003 => if x50 < x49 then (if 0 ≤ x50 then (if x50 < (x48.length : Int) then ((impl_within.f (rd x48 x50) 0 (wrap64 (x3 - 1))).bind fun t475 => (if t475 = true then (impl_ValidRelation.l1 k x3 x36 x37 x38 x48 x49 (wrap64 (x50 + 1)) x469000 x469001 x469002 x469003) else (some false))) else (none)) else (none)) else (impl_ValidRelation.l0 k x3 x36 x37 (wrap64 (x38 + 1)) x469000 x469001 x469002 x469003)
end
def impl_ValidRelation.f (k : Nat) (a0_0 : Int) (a0_1 : Int) (l0_2 : List Bool) (l0_3 : List (List Int)) : Option (Bool) := (impl_areTapes.f a0_0).bind fun t469 => (if t469 = true then ((impl_within.f (l0_2.length : Int) 1 150).bind fun t470 => (if t470 = true then (if (l0_3.length : Int) = (l0_2.length : Int) then ((impl_within.f a0_1 0 (wrap64 ((l0_2.length : Int) - 1))).bind fun t471 => (impl_ValidRelation.j0 k (l0_2.length : Int) (!t471) a0_0 a0_1 l0_2 l0_3)) else (impl_ValidRelation.j0 k (l0_2.length : Int) true a0_0 a0_1 l0_2 l0_3)) else (impl_ValidRelation.j0 k (l0_2.length : Int) true a0_0 a0_1 l0_2 l0_3))) else (impl_ValidRelation.j0 k (l0_2.length : Int) true a0_0 a0_1 l0_2 l0_3))
theorem impl_ValidRelation.calls (k : Nat) (a0_0 : Int) (a0_1 : Int) (A0_2 : Option Addr) (c0_2 : Nat) (l0_2 : List Bool) (A0_3 : Option Addr) (c0_3 : Nat) (l0_3 : List (List Int)) (r : Bool) (w : World) (hr0_2 : Kd.C Kd.bool w A0_2 l0_2.length l0_2) (hc0_2 : l0_2.length ≤ c0_2) (hr0_3 : Kd.C (Kd.slice 2 (Kd.int .i64)) w A0_3 l0_3.length l0_3) (hc0_3 : l0_3.length ≤ c0_3) (h : impl_ValidRelation.f k a0_0 a0_1 l0_2 l0_3 = some r) :
  Calls Tryd.prog 81 #[.agg #[.int .i64 a0_0, .int .i64 a0_1, .slice A0_2 l0_2.length c0_2, .slice A0_3 l0_3.length c0_3]] w fun e w' => e = .returned (.bool r) ∧ Below w.heap.size w w' := by
 have hu38 := Tryd.underlying38; have HR0_2 := am hr0_2; have HC0_2 := am hc0_2; clear hr0_2 hc0_2; have HR0_3 := am hr0_3; have HC0_3 := am hc0_3; clear hr0_3 hc0_3; have HB := am (Below.refl w.heap.size w); have H : ((impl_areTapes.f a0_0).bind fun t469 => (if t469 = true then ((impl_within.f (l0_2.length : Int) 1 150).bind fun t470 => (if t470 = true then (if (l0_3.length : Int) = (l0_2.length : Int) then ((impl_within.f a0_1 0 (wrap64 ((l0_2.length : Int) - 1))).bind fun t471 => (impl_ValidRelation.j0 k (l0_2.length : Int) (!t471) a0_0 a0_1 l0_2 l0_3)) else (impl_ValidRelation.j0 k (l0_2.length : Int) true a0_0 a0_1 l0_2 l0_3)) else (impl_ValidRelation.j0 k (l0_2.length : Int) true a0_0 a0_1 l0_2 l0_3))) else (impl_ValidRelation.j0 k (l0_2.length : Int) true a0_0 a0_1 l0_2 l0_3))) = some r := h; clear h; have HC2 := am H; clear H; go_enter Tryd.func81, Tryd.ntmps81
 go_upto_region 2 with (first | ((with_reducible refine gate_dst (N := 1) rfl ?_); (try (refine gate_guard (by rfl) ?_; dsimp only)); refine boxA 1 #[.int .i64 a0_0, .int .i64 a0_1, .slice A0_2 l0_2.length c0_2, .slice A0_3 l0_3.length c0_3] 38 rfl rfl (h := ?_); intro gb468 hg w3 hbox hb; have BK468 := am (hbox); have GW468 := am ((by rw [hg]; exact (below_size (tB)) : w.heap.size ≤ gb468)); have GE468 := am ((by rw [hg]; exact (below_size (tB)) : w.heap.size ≤ gb468)); replace HB := am (below_step (tB) hb); clear hb hbox hg; obtain ⟨hcz4_0, hcz4_1, hcz4_2, hcz4_3⟩ := bc4 BK468.out; have hfz4_0 := blk_frozen BK468.out 0; have hfz4_1 := blk_frozen BK468.out 1; have hfz4_2 := blk_frozen BK468.out 2; have hfz4_3 := blk_frozen BK468.out 3))
 (try simp only [Act.put, List.setIfInBounds_toArray, List.set_cons_zero, List.set_cons_succ])
 go_cut [34] (fun v34 wc => ∃ (kq : Nat) (x34_1 : Bool), v34 = .bool x34_1 ∧ Aside0 (impl_ValidRelation.j0 kq (l0_2.length : Int) x34_1 a0_0 a0_1 l0_2 l0_3 = some r) ∧ Aside0 (kq ≤ k) ∧ Aside0 (wc.heap[gb468]? = some (.cells #[.int .i64 a0_0, .int .i64 a0_1, (.slice A0_2 l0_2.length c0_2), (.slice A0_3 l0_3.length c0_3)] 38 (0, 0))) ∧ Aside0 (Below w.heap.size w wc))
 case first =>
  have H := HC2.out; clear HC2; obtain ⟨t469, A50, H⟩ := oB H; replace H : (if t469 = true then ((impl_within.f (l0_2.length : Int) 1 150).bind fun t470 => (if t470 = true then (if (l0_3.length : Int) = (l0_2.length : Int) then ((impl_within.f a0_1 0 (wrap64 ((l0_2.length : Int) - 1))).bind fun t471 => (impl_ValidRelation.j0 k (l0_2.length : Int) (!t471) a0_0 a0_1 l0_2 l0_3)) else (impl_ValidRelation.j0 k (l0_2.length : Int) true a0_0 a0_1 l0_2 l0_3)) else (impl_ValidRelation.j0 k (l0_2.length : Int) true a0_0 a0_1 l0_2 l0_3))) else (impl_ValidRelation.j0 k (l0_2.length : Int) true a0_0 a0_1 l0_2 l0_3)) = some r := H; have A5 := am A50; clear A50; by_cases c6 : t469 = true
  ·subst c6; (have H1 : ((impl_within.f (l0_2.length : Int) 1 150).bind fun t470 => (if t470 = true then (if (l0_3.length : Int) = (l0_2.length : Int) then ((impl_within.f a0_1 0 (wrap64 ((l0_2.length : Int) - 1))).bind fun t471 => (impl_ValidRelation.j0 k (l0_2.length : Int) (!t471) a0_0 a0_1 l0_2 l0_3)) else (impl_ValidRelation.j0 k (l0_2.length : Int) true a0_0 a0_1 l0_2 l0_3)) else (impl_ValidRelation.j0 k (l0_2.length : Int) true a0_0 a0_1 l0_2 l0_3))) = some r := by rw [if_pos rfl] at H; exact H); clear H; have H := H1; clear H1; obtain ⟨t470, A70, H⟩ := oB H; replace H : (if t470 = true then (if (l0_3.length : Int) = (l0_2.length : Int) then ((impl_within.f a0_1 0 (wrap64 ((l0_2.length : Int) - 1))).bind fun t471 => (impl_ValidRelation.j0 k (l0_2.length : Int) (!t471) a0_0 a0_1 l0_2 l0_3)) else (impl_ValidRelation.j0 k (l0_2.length : Int) true a0_0 a0_1 l0_2 l0_3)) else (impl_ValidRelation.j0 k (l0_2.length : Int) true a0_0 a0_1 l0_2 l0_3)) = some r := H; have A7 := am A70; clear A70; by_cases c8 : t470 = true
   ·subst c8; (have H1 : (if (l0_3.length : Int) = (l0_2.length : Int) then ((impl_within.f a0_1 0 (wrap64 ((l0_2.length : Int) - 1))).bind fun t471 => (impl_ValidRelation.j0 k (l0_2.length : Int) (!t471) a0_0 a0_1 l0_2 l0_3)) else (impl_ValidRelation.j0 k (l0_2.length : Int) true a0_0 a0_1 l0_2 l0_3)) = some r := by rw [if_pos rfl] at H; exact H); clear H; have H := H1; clear H1; by_cases c9 : (l0_3.length : Int) = (l0_2.length : Int)
    ·rw [if_pos c9] at H; have c9b0 : ((l0_3.length : Int) == (l0_2.length : Int)) = true := beq_iff_eq.mpr c9; have c9b1 : ((l0_3.length : Int) != (l0_2.length : Int)) = false := bne_eq_false_iff_eq.mpr c9
     have c9b2 : (l0_3.length == l0_2.length) = true := by first | simpa using c9 | (simp at c9 ⊢; omega)
     clear c9
     (first | rw [c9b0] | (simp only [i64_w, i32_w]; rw [c9b0]) | skip)
     obtain ⟨t471, A100, H⟩ := oB H; replace H : (impl_ValidRelation.j0 k (l0_2.length : Int) (!t471) a0_0 a0_1 l0_2 l0_3) = some r := H; have A10 := am A100; clear A100; have H' := am H; clear H; obtain ⟨hcz11_0, hcz11_1, hcz11_2, hcz11_3⟩ := bc4 BK468.out; obtain ⟨hfz11_0, hfz11_1, hfz11_2, hfz11_3⟩ := bf4 BK468.out
     go_wp2_with (first | ((with_reducible refine gate_callee (f := 59) rfl ?_); refine goesLA (some 13) Tryd.func59 #[.int .i64 a0_0] rfl rfl rfl (h := ?_); (with_reducible refine (impl_areTapes.calls a0_0 true _ A5.out).mono ?_); rintro e w' ⟨rfl, ⟨nd, rfl⟩⟩; refine ⟨_, rfl, ?_⟩) | (go_at_call 115; (with_reducible refine (impl_within.calls (l0_2.length : Int) 1 150 true _ A7.out).mono ?_); rintro e w' ⟨rfl, ⟨nd, rfl⟩⟩) | (go_at_call 115; (with_reducible refine (impl_within.calls a0_1 0 (wrap64 ((l0_2.length : Int) - 1)) t471 _ A10.out).mono ?_); rintro e w' ⟨rfl, ⟨nd, rfl⟩⟩))
     go_meet
     case rel => exact ⟨_, (!t471), (tF), H', ⟨by first | omega | exact Nat.le_refl _⟩, ⟨by refine tBk ?_; exact BK468.out⟩, ⟨tB⟩⟩
    ·rw [if_neg c9] at H; have c9b0 : ((l0_3.length : Int) == (l0_2.length : Int)) = false := beq_eq_false_iff_ne.mpr c9; have c9b1 : ((l0_3.length : Int) != (l0_2.length : Int)) = true := bne_iff_ne.mpr c9
     have c9b2 : (l0_3.length == l0_2.length) = false := by first | simpa using c9 | (simp at c9 ⊢; omega)
     (first | rw [c9b0] | (simp only [i64_w, i32_w]; rw [c9b0]) | skip)
     have H' := am H; clear H; obtain ⟨hcz12_0, hcz12_1, hcz12_2, hcz12_3⟩ := bc4 BK468.out; obtain ⟨hfz12_0, hfz12_1, hfz12_2, hfz12_3⟩ := bf4 BK468.out
     go_wp2_with (first | ((with_reducible refine gate_callee (f := 59) rfl ?_); refine goesLA (some 13) Tryd.func59 #[.int .i64 a0_0] rfl rfl rfl (h := ?_); (with_reducible refine (impl_areTapes.calls a0_0 true _ A5.out).mono ?_); rintro e w' ⟨rfl, ⟨nd, rfl⟩⟩; refine ⟨_, rfl, ?_⟩) | (go_at_call 115; (with_reducible refine (impl_within.calls (l0_2.length : Int) 1 150 true _ A7.out).mono ?_); rintro e w' ⟨rfl, ⟨nd, rfl⟩⟩))
     go_meet
     case rel => exact ⟨_, (true), (tF), H', ⟨by first | omega | exact Nat.le_refl _⟩, ⟨by refine tBk ?_; exact BK468.out⟩, ⟨tB⟩⟩
   ·replace c8 := Bool.eq_false_iff.mpr c8; subst c8; (have H1 : (impl_ValidRelation.j0 k (l0_2.length : Int) true a0_0 a0_1 l0_2 l0_3) = some r := by rw [if_neg (show ¬ (false = true) by decide)] at H; exact H); clear H; have H := H1; clear H1; have H' := am H; clear H; obtain ⟨hcz13_0, hcz13_1, hcz13_2, hcz13_3⟩ := bc4 BK468.out; obtain ⟨hfz13_0, hfz13_1, hfz13_2, hfz13_3⟩ := bf4 BK468.out
    go_wp2_with (first | ((with_reducible refine gate_callee (f := 59) rfl ?_); refine goesLA (some 13) Tryd.func59 #[.int .i64 a0_0] rfl rfl rfl (h := ?_); (with_reducible refine (impl_areTapes.calls a0_0 true _ A5.out).mono ?_); rintro e w' ⟨rfl, ⟨nd, rfl⟩⟩; refine ⟨_, rfl, ?_⟩) | (go_at_call 115; (with_reducible refine (impl_within.calls (l0_2.length : Int) 1 150 false _ A7.out).mono ?_); rintro e w' ⟨rfl, ⟨nd, rfl⟩⟩))
    go_meet
    case rel => exact ⟨_, (true), (tF), H', ⟨by first | omega | exact Nat.le_refl _⟩, ⟨by refine tBk ?_; exact BK468.out⟩, ⟨tB⟩⟩
  ·replace c6 := Bool.eq_false_iff.mpr c6; subst c6; (have H1 : (impl_ValidRelation.j0 k (l0_2.length : Int) true a0_0 a0_1 l0_2 l0_3) = some r := by rw [if_neg (show ¬ (false = true) by decide)] at H; exact H); clear H; have H := H1; clear H1; have H' := am H; clear H; obtain ⟨hcz14_0, hcz14_1, hcz14_2, hcz14_3⟩ := bc4 BK468.out; obtain ⟨hfz14_0, hfz14_1, hfz14_2, hfz14_3⟩ := bf4 BK468.out
   go_wp2_with (first | ((with_reducible refine gate_callee (f := 59) rfl ?_); refine goesLA (some 13) Tryd.func59 #[.int .i64 a0_0] rfl rfl rfl (h := ?_); (with_reducible refine (impl_areTapes.calls a0_0 false _ A5.out).mono ?_); rintro e w' ⟨rfl, ⟨nd, rfl⟩⟩; refine ⟨_, rfl, ?_⟩))
   go_meet
   case rel => exact ⟨_, (true), (tF), H', ⟨by first | omega | exact Nat.le_refl _⟩, ⟨by refine tBk ?_; exact BK468.out⟩, ⟨tB⟩⟩
 case rest =>
  clear HC2
  try clear p2; try clear c5; try clear c6; try clear p6; try clear c8; try clear c9; try clear c9b0; try clear c9b1; try clear c9b2; try clear hcz11_0; try clear hcz11_1; try clear hcz11_2; try clear hcz11_3; try clear hcz12_0; try clear hcz12_1; try clear hcz12_2; try clear hcz12_3; try clear hcz13_0; try clear hcz13_1; try clear hcz13_2; try clear hcz13_3; try clear hcz14_0; try clear hcz14_1; try clear hcz14_2; try clear hcz14_3; try clear hcz4_0; try clear hcz4_1; try clear hcz4_2; try clear hcz4_3; try clear hfz11_0; try clear hfz11_1; try clear hfz11_2; try clear hfz11_3; try clear hfz12_0; try clear hfz12_1; try clear hfz12_2; try clear hfz12_3; try clear hfz13_0; try clear hfz13_1; try clear hfz13_2; try clear hfz13_3; try clear hfz14_0; try clear hfz14_1; try clear hfz14_2; try clear hfz14_3; try clear hfz4_0; try clear hfz4_1; try clear hfz4_2; try clear hfz4_3
  obtain ⟨kq, x34_1, rfl, HA, HJ1, BK468, HB⟩ := hcut
  cases kq with
  | zero => exact absurd HA.out (by simp [impl_ValidRelation.j0])
  | succ kj1 =>
   have H := HA.out; clear HA; simp only [impl_ValidRelation.j0] at H; by_cases c15 : x34_1 = true
   ·subst c15; (have H1 : (some false) = some r := by rw [if_pos rfl] at H; exact H); clear H; have H := H1; clear H1; obtain rfl := Option.some.inj H; go_wp2; go_ret; exact ⟨tE, tB⟩
   ·replace c15 := Bool.eq_false_iff.mpr c15; subst c15; (have H1 : (impl_ValidRelation.l0 kj1 (l0_2.length : Int) l0_3 (l0_3.length : Int) 0 a0_0 a0_1 l0_2 l0_3) = some r := by rw [if_neg (show ¬ (false = true) by decide)] at H; exact H); clear H; have H := H1; clear H1; have H' := am H; clear H; obtain ⟨hcz16_0, hcz16_1, hcz16_2, hcz16_3⟩ := bc4 BK468.out; obtain ⟨hfz16_0, hfz16_1, hfz16_2, hfz16_3⟩ := bf4 BK468.out; go_wp2
    go_loopg [38] kj1 (fun kq v38 w' => ∃ (x38_2 : Int), v38 = .int .i64 x38_2 ∧ Aside0 (impl_ValidRelation.l0 kq (l0_2.length : Int) l0_3 (l0_3.length : Int) x38_2 a0_0 a0_1 l0_2 l0_3 = some r) ∧ Aside0 (kq ≤ kj1) ∧ Aside0 (w'.heap[gb468]? = some (.cells #[.int .i64 a0_0, .int .i64 a0_1, (.slice A0_2 l0_2.length c0_2), (.slice A0_3 l0_3.length c0_3)] 38 (0, 0))) ∧ Aside0 (Below w.heap.size w w'))
    case atStart => exact ⟨(0), (tF), H', ⟨Nat.le_refl _⟩, ⟨by refine tBk ?_; exact BK468.out⟩, ⟨tB⟩⟩
    case round =>
     clear H'
     try clear c1; try clear p2; try clear c5; try clear c6; try clear p6; try clear c8; try clear c9; try clear c9b0; try clear c9b1; try clear c9b2; try clear c15; try clear hcz11_0; try clear hcz11_1; try clear hcz11_2; try clear hcz11_3; try clear hcz12_0; try clear hcz12_1; try clear hcz12_2; try clear hcz12_3; try clear hcz13_0; try clear hcz13_1; try clear hcz13_2; try clear hcz13_3; try clear hcz14_0; try clear hcz14_1; try clear hcz14_2; try clear hcz14_3; try clear hcz16_0; try clear hcz16_1; try clear hcz16_2; try clear hcz16_3; try clear hcz4_0; try clear hcz4_1; try clear hcz4_2; try clear hcz4_3; try clear hfz11_0; try clear hfz11_1; try clear hfz11_2; try clear hfz11_3; try clear hfz12_0; try clear hfz12_1; try clear hfz12_2; try clear hfz12_3; try clear hfz13_0; try clear hfz13_1; try clear hfz13_2; try clear hfz13_3; try clear hfz14_0; try clear hfz14_1; try clear hfz14_2; try clear hfz14_3; try clear hfz16_0; try clear hfz16_1; try clear hfz16_2; try clear hfz16_3; try clear hfz4_0; try clear hfz4_1; try clear hfz4_2; try clear hfz4_3; try clear p2; try clear p6
     obtain ⟨x38_2, rfl, HA, HK2, BK468, HB⟩ := hrel
     cases gk with
     | zero => exact absurd HA.out (by simp [impl_ValidRelation.l0])
     | succ k2 =>
      have H := HA.out; clear HA; simp only [impl_ValidRelation.l0] at H; by_cases c17 : x38_2 < (l0_3.length : Int)
      ·rw [if_pos c17] at H; have c17b0 := decide_eq_true c17; clear c17; by_cases c18 : 0 ≤ x38_2
       ·rw [if_pos c18] at H; have c18b0 := decide_eq_true c18; clear c18; by_cases c19 : x38_2 < (l0_3.length : Int)
        ·rw [if_pos c19] at H; have c19b0 := decide_eq_true c19; clear c19; obtain ⟨t473, A200, H⟩ := oB H; replace H : (if ((rd_L5 l0_3 x38_2).length : Int) = t473 then (impl_ValidRelation.l1 k2 (l0_2.length : Int) l0_3 (l0_3.length : Int) x38_2 (rd_L5 l0_3 x38_2) ((rd_L5 l0_3 x38_2).length : Int) 0 a0_0 a0_1 l0_2 l0_3) else (some false)) = some r := H; have A20 := am A200; clear A200; by_cases c21 : ((rd_L5 l0_3 x38_2).length : Int) = t473
         ·rw [if_pos c21] at H; have c21b0 : (((rd_L5 l0_3 x38_2).length : Int) == t473) = true := beq_iff_eq.mpr c21; have c21b1 : (((rd_L5 l0_3 x38_2).length : Int) != t473) = false := bne_eq_false_iff_eq.mpr c21; clear c21; have H' := am H; clear H; have p472 : 0 ≤ (x38_2 : Int) := oA; have q472 : x38_2 < (l0_3.length : Int) := oA; obtain ⟨ad472, A472_0, c472_0, e472, hx472_0, hl472_0, hi472_0⟩ := at_L5 HR0_3.out x38_2 p472 q472; cases e472; replace hx472_0 := (HB.out.cell (World.block_lt_of_cell? w _ hx472_0)).trans hx472_0; have HR472_0 := am hi472_0; have HC472_0 := am hl472_0; clear hi472_0 hl472_0; replace p472 := eq_true p472; replace q472 := eq_true q472; obtain ⟨hcz22_0, hcz22_1, hcz22_2, hcz22_3⟩ := bc4 BK468.out; obtain ⟨hfz22_0, hfz22_1, hfz22_2, hfz22_3⟩ := bf4 BK468.out
          go_wp2_with (first | ((with_reducible refine gate_callee (f := 128) rfl ?_); refine goesLA (some 46) Tryd.func128 #[.int .i64 a0_0] rfl rfl rfl (h := ?_); (with_reducible refine (impl_widthOf.calls k2 a0_0 t473 _ A20.out).mono ?_); rintro e w' ⟨rfl, ⟨nd, rfl⟩⟩; refine ⟨_, rfl, ?_⟩))
          go_loopg [50] k2 (fun kq v50 w' => ∃ (x50_3 : Int), v50 = .int .i64 x50_3 ∧ Aside0 (impl_ValidRelation.l1 kq (l0_2.length : Int) l0_3 (l0_3.length : Int) x38_2 (rd_L5 l0_3 x38_2) ((rd_L5 l0_3 x38_2).length : Int) x50_3 a0_0 a0_1 l0_2 l0_3 = some r) ∧ Aside0 (kq ≤ k2) ∧ Aside0 (w'.heap[gb468]? = some (.cells #[.int .i64 a0_0, .int .i64 a0_1, (.slice A0_2 l0_2.length c0_2), (.slice (some ad472) l0_3.length c0_3)] 38 (0, 0))) ∧ Aside0 (Below w.heap.size w w'))
          case atStart => exact ⟨(0), (tF), H', ⟨Nat.le_refl _⟩, ⟨by refine tBk ?_; exact BK468.out⟩, ⟨tB⟩⟩
          case round =>
           clear H'
           try clear c1; try clear c2; try clear p2; try clear c4; try clear p4; try clear q4; try clear hx4; try clear c5; try clear c6; try clear p6; try clear c8; try clear c9; try clear c9b0; try clear c9b1; try clear c9b2; try clear c12; try clear c15; try clear c17; try clear c17b0; try clear c18; try clear c18b0; try clear c19; try clear c19b0; try clear c21; try clear c21b0; try clear c21b1; try clear hcz11_0; try clear hcz11_1; try clear hcz11_2; try clear hcz11_3; try clear hcz12_0; try clear hcz12_1; try clear hcz12_2; try clear hcz12_3; try clear hcz13_0; try clear hcz13_1; try clear hcz13_2; try clear hcz13_3; try clear hcz14_0; try clear hcz14_1; try clear hcz14_2; try clear hcz14_3; try clear hcz16_0; try clear hcz16_1; try clear hcz16_2; try clear hcz16_3; try clear hcz22_0; try clear hcz22_1; try clear hcz22_2; try clear hcz22_3; try clear hcz4_0; try clear hcz4_1; try clear hcz4_2; try clear hcz4_3; try clear hfz11_0; try clear hfz11_1; try clear hfz11_2; try clear hfz11_3; try clear hfz12_0; try clear hfz12_1; try clear hfz12_2; try clear hfz12_3; try clear hfz13_0; try clear hfz13_1; try clear hfz13_2; try clear hfz13_3; try clear hfz14_0; try clear hfz14_1; try clear hfz14_2; try clear hfz14_3; try clear hfz16_0; try clear hfz16_1; try clear hfz16_2; try clear hfz16_3; try clear hfz22_0; try clear hfz22_1; try clear hfz22_2; try clear hfz22_3; try clear hfz4_0; try clear hfz4_1; try clear hfz4_2; try clear hfz4_3; try clear hx472_0; try clear p2; try clear p472; try clear p6; try clear q472
           obtain ⟨x50_3, rfl, HA, HK3, BK468, HB⟩ := hrel
           cases gk with
           | zero => exact absurd HA.out (by simp [impl_ValidRelation.l1])
           | succ k3 =>
            have H := HA.out; clear HA; simp only [impl_ValidRelation.l1] at H; by_cases c23 : x50_3 < ((rd_L5 l0_3 x38_2).length : Int)
            ·rw [if_pos c23] at H; have c23b0 := decide_eq_true c23; clear c23; by_cases c24 : 0 ≤ x50_3
             ·rw [if_pos c24] at H; have c24b0 := decide_eq_true c24; clear c24; by_cases c25 : x50_3 < ((rd_L5 l0_3 x38_2).length : Int)
              ·rw [if_pos c25] at H; have c25b0 := decide_eq_true c25; clear c25; obtain ⟨t475, A260, H⟩ := oB H; replace H : (if t475 = true then (impl_ValidRelation.l1 k3 (l0_2.length : Int) l0_3 (l0_3.length : Int) x38_2 (rd_L5 l0_3 x38_2) ((rd_L5 l0_3 x38_2).length : Int) (wrap64 (x50_3 + 1)) a0_0 a0_1 l0_2 l0_3) else (some false)) = some r := H; have A26 := am A260; clear A260; by_cases c27 : t475 = true
               ·subst c27; (have H1 : (impl_ValidRelation.l1 k3 (l0_2.length : Int) l0_3 (l0_3.length : Int) x38_2 (rd_L5 l0_3 x38_2) ((rd_L5 l0_3 x38_2).length : Int) (wrap64 (x50_3 + 1)) a0_0 a0_1 l0_2 l0_3) = some r := by rw [if_pos rfl] at H; exact H); clear H; have H := H1; clear H1; have H' := am H; clear H; have p474 : 0 ≤ (x50_3 : Int) := oA; have q474 : x50_3 < ((rd_L5 l0_3 x38_2).length : Int) := oA; obtain ⟨ad474, e474, hx474_0⟩ := Kd.at_int HR472_0.out x50_3 p474 q474; cases e474; replace hx474_0 := (HB.out.cell (World.block_lt_of_cell? w _ hx474_0)).trans hx474_0; replace p474 := eq_true p474; replace q474 := eq_true q474
                go_wp2_with (first | ((with_reducible refine gate_callee (f := 115) rfl ?_); refine goesLA (some 57) Tryd.func115 #[.int .i64 (rd (rd_L5 l0_3 x38_2) x50_3), .int .i64 0, .int .i64 (wrap64 ((l0_2.length : Int) - 1))] rfl rfl rfl (h := ?_); (with_reducible refine (impl_within.calls (rd (rd_L5 l0_3 x38_2) x50_3) 0 (wrap64 ((l0_2.length : Int) - 1)) true _ A26.out).mono ?_); rintro e w' ⟨rfl, ⟨nd, rfl⟩⟩; refine ⟨_, rfl, ?_⟩))
                go_roundg k3
                case measure => have := HJ1.out; have := HK2.out; have := HK3.out; omega
                case rel => exact ⟨(wrap64 (x50_3 + 1)), (tF), H', ⟨by have := HJ1.out; have := HK2.out; have := HK3.out; omega⟩, ⟨by refine tBk ?_; exact BK468.out⟩, ⟨tB⟩⟩
               ·replace c27 := Bool.eq_false_iff.mpr c27; subst c27; (have H1 : (some false) = some r := by rw [if_neg (show ¬ (false = true) by decide)] at H; exact H); clear H; have H := H1; clear H1; obtain rfl := Option.some.inj H; have p474 : 0 ≤ (x50_3 : Int) := oA; have q474 : x50_3 < ((rd_L5 l0_3 x38_2).length : Int) := oA; obtain ⟨ad474, e474, hx474_0⟩ := Kd.at_int HR472_0.out x50_3 p474 q474; cases e474; replace hx474_0 := (HB.out.cell (World.block_lt_of_cell? w _ hx474_0)).trans hx474_0; replace p474 := eq_true p474; replace q474 := eq_true q474
                go_wp2_with (first | ((with_reducible refine gate_callee (f := 115) rfl ?_); refine goesLA (some 57) Tryd.func115 #[.int .i64 (rd (rd_L5 l0_3 x38_2) x50_3), .int .i64 0, .int .i64 (wrap64 ((l0_2.length : Int) - 1))] rfl rfl rfl (h := ?_); (with_reducible refine (impl_within.calls (rd (rd_L5 l0_3 x38_2) x50_3) 0 (wrap64 ((l0_2.length : Int) - 1)) false _ A26.out).mono ?_); rintro e w' ⟨rfl, ⟨nd, rfl⟩⟩; refine ⟨_, rfl, ?_⟩))
                go_ret; exact ⟨tE, tB⟩
              ·rw [if_neg c25] at H; exact absurd H (by simp)
             ·rw [if_neg c24] at H; exact absurd H (by simp)
            ·rw [if_neg c23] at H; have c23b0 := decide_eq_false c23; clear c23; have H' := am H; clear H; go_wp2; go_roundg k3
             case measure => have := HJ1.out; have := HK2.out; have := HK3.out; omega
             case rel => exact ⟨(wrap64 (x38_2 + 1)), (tF), H', ⟨by have := HJ1.out; have := HK2.out; have := HK3.out; omega⟩, ⟨by refine tBk ?_; exact BK468.out⟩, ⟨tB⟩⟩
         ·rw [if_neg c21] at H; have c21b0 : (((rd_L5 l0_3 x38_2).length : Int) == t473) = false := beq_eq_false_iff_ne.mpr c21; have c21b1 : (((rd_L5 l0_3 x38_2).length : Int) != t473) = true := bne_iff_ne.mpr c21; obtain rfl := Option.some.inj H; have p472 : 0 ≤ (x38_2 : Int) := oA; have q472 : x38_2 < (l0_3.length : Int) := oA; obtain ⟨ad472, A472_0, c472_0, e472, hx472_0, hl472_0, hi472_0⟩ := at_L5 HR0_3.out x38_2 p472 q472; cases e472; replace hx472_0 := (HB.out.cell (World.block_lt_of_cell? w _ hx472_0)).trans hx472_0; have HR472_0 := am hi472_0; have HC472_0 := am hl472_0; clear hi472_0 hl472_0; replace p472 := eq_true p472; replace q472 := eq_true q472; obtain ⟨hcz28_0, hcz28_1, hcz28_2, hcz28_3⟩ := bc4 BK468.out; obtain ⟨hfz28_0, hfz28_1, hfz28_2, hfz28_3⟩ := bf4 BK468.out
          go_wp2_with (first | ((with_reducible refine gate_callee (f := 128) rfl ?_); refine goesLA (some 46) Tryd.func128 #[.int .i64 a0_0] rfl rfl rfl (h := ?_); (with_reducible refine (impl_widthOf.calls k2 a0_0 t473 _ A20.out).mono ?_); rintro e w' ⟨rfl, ⟨nd, rfl⟩⟩; refine ⟨_, rfl, ?_⟩))
          go_ret; exact ⟨tE, tB⟩
        ·rw [if_neg c19] at H; exact absurd H (by simp)
       ·rw [if_neg c18] at H; exact absurd H (by simp)
      ·rw [if_neg c17] at H; have c17b0 := decide_eq_false c17; clear c17; obtain rfl := Option.some.inj H; go_wp2; go_ret; exact ⟨tE, tB⟩
end Go.Proofs.YtelicdmaohllgaaDoor.X
namespace Go.Proofs.YtelicdmaohllgaaDoor.X
set_option maxHeartbeats 16000000
set_option maxRecDepth 100000
open Go.RowKit Go.Proofs.YtelicdmaohllgaaDoorW.PrintWords Go.Proofs.YtelicdmaohllgaaDoorW.PrintLast Go.Proofs.YtelicdmaohllgaaDoorW.PrintMore
set_option linter.unusedVariables false
set_option linter.unusedSimpArgs false
open Go.Sort in
theorem below_grown (w : World) (n : Nat) (os : Array Obj) : Below w.heap.size w (grow (w.drewN n) os) := by
 refine Below.trans (pw_below_drewN (Below.refl _ w) n) ?_; exact ⟨rfl, rfl, rfl, by simp [grow], fun k hk => by simp [grow, Array.getElem?_append, show k < w.heap.size from hk]⟩
/-- The table of the digits' number, as every later world of the call has it. -/
def TabOK (w : World) : Prop := Lib.TabBelow Tryd.prog w.heap.size w "internal/strconv.uint64pow10" .u64 Lib.pow10Tab
end Go.Proofs.YtelicdmaohllgaaDoor.X
