import Derived.Test.YtocfcpicleomcaaDoorSO2
import Derived.Test.YtocfcpicleomcaaDoorSO3
import Derived.Test.YtocfcpicleomcaaDoorSO4
import Derived.DeepKeys4
import Derived.Maps.Keyed
import Derived.Lib.AppendIntMem
import Derived.Shelf.LaysM
import Derived.Shelf.Strconv.Itoa3
namespace Go.Proofs.YtocfcpicleomcaaDoor.X
set_option maxHeartbeats 16000000
set_option maxRecDepth 100000
open Go.RowKit Go.Proofs.YtocfcpicleomcaaDoorW.PrintWords Go.Proofs.YtocfcpicleomcaaDoorW.PrintLast Go.Proofs.YtocfcpicleomcaaDoorW.PrintMore
attribute [local go_sem] max2_int min2_int max_two min_two max_three min_three max_four min_four
set_option linter.unusedVariables false
set_option linter.unusedSimpArgs false
mutual
def spec_l01Finer.l0 : Nat → List Int → Int → List Int → List Int → Int → Int → Int → List Bool → List (List Int) → Option (List Int × Int × Int × Int)
 | 0, _, _, _, _, _, _, _, _, _ => none
 | k + 1, x1, x6, x7, x8, x9, x1000, x1001, x1002, x1003 => if x9 < x6 then (if 0 ≤ x9 then (if x9 < (x7.length : Int) then (spec_l01Finer.l1 k x1 x6 (x7.set (x9 : Int).toNat (-1)) x8 x9 0 x1000 x1001 x1002 x1003) else (none)) else (none)) else (some (x7, (x8.length : Int), x1000, x1001))
def spec_l01Finer.l1 : Nat → List Int → Int → List Int → List Int → Int → Int → Int → Int → List Bool → List (List Int) → Option (List Int × Int × Int × Int)
 | 0, _, _, _, _, _, _, _, _, _, _ => none
 | k + 1, x1, x6, x7, x8, x9, x10, x1000, x1001, x1002, x1003 => if x10 < (x8.length : Int) then (if 0 ≤ x9 then (if x9 < (x7.length : Int) then (spec_l01Finer.j2 k x1 x6 x7 x8 x9 x10 (decide ((rd x7 x9) < 0)) x1000 x1001 x1002 x1003) else (none)) else (none)) else (spec_l01Finer.j2 k x1 x6 x7 x8 x9 x10 false x1000 x1001 x1002 x1003)
def spec_l01Finer.j2 : Nat → List Int → Int → List Int → List Int → Int → Int → Bool → Int → Int → List Bool → List (List Int) → Option (List Int × Int × Int × Int)
 | 0, _, _, _, _, _, _, _, _, _, _, _ => none
 | k + 1, x1, x6, x7, x8, x9, x10, x34, x1000, x1001, x1002, x1003 => if x34 = true then (if 0 ≤ x10 then (if x10 < (x8.length : Int) then (if 0 ≤ (rd x8 x10) then (if (rd x8 x10) < (x1.length : Int) then (if 0 ≤ x9 then (if x9 < (x1.length : Int) then (if (rd x1 (rd x8 x10)) = (rd x1 x9) then ((spec_l01Alike.f k x1000 x1001 x1002 x1003 x1 (rd x8 x10) x9).bind fun bt148 => (if bt148.1 = true then (if x9 < (x7.length : Int) then (spec_l01Finer.l1 k x1 x6 (x7.set (x9 : Int).toNat x10) x8 x9 (wrap64 (x10 + 1)) bt148.2.1 bt148.2.2 x1002 x1003) else (none)) else (spec_l01Finer.l1 k x1 x6 x7 x8 x9 (wrap64 (x10 + 1)) bt148.2.1 bt148.2.2 x1002 x1003))) else (spec_l01Finer.l1 k x1 x6 x7 x8 x9 (wrap64 (x10 + 1)) x1000 x1001 x1002 x1003)) else (none)) else (none)) else (none)) else (none)) else (none)) else (none)) else (if 0 ≤ x9 then (if x9 < (x7.length : Int) then (if (rd x7 x9) < 0 then (if x8.length < 17592186044416 then (spec_l01Finer.l0 k x1 x6 (x7.set (x9 : Int).toNat (x8.length : Int)) (x8 ++ [x9]) (wrap64 (x9 + 1)) x1000 x1001 x1002 x1003) else (none)) else (spec_l01Finer.l0 k x1 x6 x7 x8 (wrap64 (x9 + 1)) x1000 x1001 x1002 x1003)) else (none)) else (none))
end
def spec_l01Finer.f (k : Nat) (s0_0 : Int) (s0_1 : Int) (s0_2 : List Bool) (s0_3 : List (List Int)) (l1 : List Int) : Option (List Int × Int × Int × Int) := if 0 ≤ (l1.length : Int) then (if ((l1.length : Int) : Int).toNat ≤ 35184372088832 then (spec_l01Finer.l0 k l1 (l1.length : Int) (List.replicate ((l1.length : Int) : Int).toNat 0) (([] : List Int)) 0 s0_0 s0_1 s0_2 s0_3) else (none)) else (none)
def spec_l01Finer.T11 : Bool × List (List Nat × List Nat) := (true, [([], []), ([], []), ([], []), ([1, 2], [1, 2]), ([3], [3]), ([0, 4], [0, 4]), ([5], [5]), ([], []), ([], []), ([7, 8], [7, 8]), ([9], [9]), ([6, 10], [6, 10]), ([11], [11]), ([12], [12]), ([12], [12]), ([12], [12]), ([12], [12]), ([15, 16, 12], [12, 15, 16]), ([17, 12], [12, 17]), ([12], [12]), ([13, 14, 18, 19, 12, 12], [12, 13, 14, 18, 19]), ([12, 20], [12, 20])])
def spec_l01Finer.B11 : List Nat := [0, 0, 0, 6, 14, 31, 63, 0, 0, 384, 896, 2047, 4095, 8191, 8191, 8191, 8191, 106495, 237567, 8191, 1048575, 2097151]
theorem spec_l01Finer.tab11 : rtab .any (opsOf Tryd.f111 11) = spec_l01Finer.T11 := by kernel_rfl
theorem spec_l01Finer.bits11 : waitsOk spec_l01Finer.T11.2 spec_l01Finer.B11 = true := by kernel_rfl
theorem spec_l01Finer.calls (k : Nat) (g : Nat) (s0_0 : Int) (s0_1 : Int) (s0_2 : List Bool) (s0_3 : List (List Int)) (A1 : Option Addr) (c1 : Nat) (l1 : List Int) (r1 : List Int) (r2 : Int) (r3 : Int) (r4 : Int) (w0 w : World) (hI : IsS29 w0 w g s0_0 s0_1 s0_2 s0_3) (hB : Below w0.heap.size w0 w) (hr1 : Kd.C (Kd.int .i64) w A1 l1.length l1) (hc1 : l1.length ≤ c1) (hf1 : ∀ ad, A1 = some ad → 0 < l1.length → ad.block ≠ g) (h : spec_l01Finer.f k s0_0 s0_1 s0_2 s0_3 l1 = some (r1, r2, r3, r4)) :
  Calls Tryd.prog 111 #[.pointer (some ⟨g, 0, none⟩), .slice A1 l1.length c1] w fun e w' => ∃ v0_ : Value, e = .returned (.tuple #[v0_, .int .i64 r2]) ∧ Kd.R (Kd.int .i64) 2 w' w.heap.size (fun _ => True) v0_ r1 ∧ IsS29 w0 w' g r3 r4 s0_2 s0_3 ∧ Below w0.heap.size w0 w' ∧ KeepBut w w' g none := by
 have HR1 := am hr1; have HC1 := am hc1; clear hr1 hc1; have HI0 := am hI; have HK := am (KeepBut.refl w g none); have HL := am hB.size; clear hI; have HW0 := am hB.size; have HB := am hB; clear hB; have H : (if 0 ≤ (l1.length : Int) then (if ((l1.length : Int) : Int).toNat ≤ 35184372088832 then (spec_l01Finer.l0 k l1 (l1.length : Int) (List.replicate ((l1.length : Int) : Int).toNat 0) (([] : List Int)) 0 s0_0 s0_1 s0_2 s0_3) else (none)) else (none)) = some (r1, r2, r3, r4) := h; clear h; by_cases c3 : 0 ≤ (l1.length : Int)
 ·rw [if_pos c3] at H; have c3b0 := eq_true c3; have c3b1 := decide_eq_true c3; clear c3; by_cases c4 : ((l1.length : Int) : Int).toNat ≤ 35184372088832
  ·rw [if_pos c4] at H; have c4b0 := eq_true c4; have c4b1 := decide_eq_true c4; clear c4; obtain ⟨y136, hy136⟩ : ∃ y_ : List Int, y_ = (List.replicate ((l1.length : Int) : Int).toNat 0) := ⟨_, rfl⟩; replace H : (spec_l01Finer.l0 k l1 (l1.length : Int) y136 (([] : List Int)) 0 s0_0 s0_1 s0_2 s0_3) = some (r1, r2, r3, r4) := tY hy136 H; have Ny136 := am hy136; clear hy136; obtain ⟨y139, hy139⟩ : ∃ y_ : List Int, y_ = (([] : List Int)) := ⟨_, rfl⟩; replace H : (spec_l01Finer.l0 k l1 (l1.length : Int) y136 y139 0 s0_0 s0_1 s0_2 s0_3) = some (r1, r2, r3, r4) := tY hy139 H; have Ny139 := am hy139; clear hy139; have H' := am H; clear H; go_enter Tryd.func111, Tryd.ntmps111
   go_wp2_with (first | ((with_reducible refine gate_dst (N := 14) rfl ?_); refine Kd.R_make (Kd.int .i64) _ 2 rfl (N := 14) rfl 42 _ _ rfl (l1.length : Int) rfl rfl Tryd.underlying42 (.int .i64 0) 8 info2 rfl (by decide) (by omega) 0 (ok := fun _ => True) (okp := fun _ => True) rfl (fun _ hk => hk) trivial (oA) (Nat.le_trans (Nat.mul_le_mul_right _ (oA : (l1.length : Int).toNat ≤ 35184372088832)) (by omega)) (Below.refl _ _) (Nat.le_refl _) ?_; intro v137 w5 ho6 hb hg_ hnew_; clear hg_ hnew_; (first | rw [← Ny136.out] at ho6 | (simp only [Int.reduceToNat] at ho6; rw [← Ny136.out] at ho6)); have HO138 := am (Kd.R_lower ho6 (keep_size (w := w) (g := g) (row := none) (tK))); replace HI0 := am (IsS29.below (tI) hb); replace HK := am (KeepBut.trans (tK) (KeepBut.of_below hb g none) (.inl rfl)); replace HB := am (below_step (tB) hb); clear hb ho6) | ((with_reducible refine gate_dst (N := 15) rfl ?_); refine Kd.R_lit (Kd.int .i64) _ 2 ?hg (N := 15) ?hd (xs := ([] : List Int)) (inner := []) (ok := fun _ => True) (okp := fun _ => True) ?hr ?hp (fun _ hk => hk) trivial (Below.refl _ _) (Nat.le_refl _) (by simp) ?_; (case hd => rfl); (case hg => rfl); (case hr => first | (go_simp; done) | (go_simp; rfl)); (case hp => exact (Reps.none _ _)); intro v140 w7 ho8 hb hg_ hnew_; clear hg_ hnew_; (first | rw [← Ny139.out] at ho8 | (simp only [Int.reduceToNat] at ho8; rw [← Ny139.out] at ho8)); have HO141 := am (Kd.R_lower (Kd.R_new' ho8 (Kd.R_lt (tR HO138.out))) (keep_size (w := w) (g := g) (row := none) (tK))); replace HO138 := am (Kd.R_elder' (tR HO138.out) (Kd.R_base ho8) hb); replace HI0 := am (IsS29.below (tI) hb); replace HK := am (KeepBut.trans (tK) (KeepBut.of_below hb g none) (.inl rfl)); replace HB := am (below_step (tB) hb); clear hb ho8))
   go_loopg [8, 9] k (fun kq v8 v9 w' => ∃ (x7_1 : List Int) (x8_1 : List Int) (x9_1 : Int) (x1000_1 : Int) (x1001_1 : Int), v9 = .int .i64 x9_1 ∧ Aside0 (spec_l01Finer.l0 kq l1 (l1.length : Int) x7_1 x8_1 x9_1 x1000_1 x1001_1 s0_2 s0_3 = some (r1, r2, r3, r4)) ∧ Aside0 (kq ≤ k) ∧ Aside0 (Kd.R (Kd.int .i64) 2 w' w.heap.size (fun k_ => some k_ ≠ (v8 : Value).ownBlock) v137 x7_1) ∧ Aside0 (Kd.R (Kd.int .i64) 2 w' w.heap.size (fun k_ => some k_ ≠ (v137 : Value).ownBlock) v8 x8_1) ∧ Aside0 (IsS29 w0 w' g x1000_1 x1001_1 s0_2 s0_3) ∧ Aside0 (KeepBut w w' g none) ∧ Aside0 (Below w0.heap.size w0 w'))
   case atStart => exact ⟨(y136), (y139), (0), (s0_0), (s0_1), (tF), H', ⟨Nat.le_refl _⟩, ⟨by refine tR ?_; exact Kd.R_mono HO138.out (fun _ hk => hk.2)⟩, ⟨by refine tR ?_; exact Kd.R_mono HO141.out (fun _ hk => hk.2)⟩, ⟨tI⟩, ⟨tK⟩, ⟨tB⟩⟩
   case round =>
    clear H'
    try clear c1; try clear p2; try clear c3; try clear c3b0; try clear c3b1; try clear c4; try clear c4b0; try clear c4b1
    obtain ⟨x7_1, x8_1, x9_1, x1000_1, x1001_1, rfl, HA, HK1, HO_7, HO_8, HI0, HK, HB⟩ := hrel
    cases gk with
    | zero => exact absurd HA.out (by simp [spec_l01Finer.l0])
    | succ k1 =>
     have H := HA.out; clear HA; simp only [spec_l01Finer.l0] at H; by_cases c9 : x9_1 < (l1.length : Int)
     ·rw [if_pos c9] at H; have c9b0 := decide_eq_true c9; clear c9; by_cases c10 : 0 ≤ x9_1
      ·rw [if_pos c10] at H; have c10b0 := decide_eq_true c10; clear c10; by_cases c11 : x9_1 < (x7_1.length : Int)
       ·rw [if_pos c11] at H; have c11b0 := decide_eq_true c11; clear c11; obtain ⟨y142, hy142⟩ : ∃ y_ : List Int, y_ = (x7_1.set (x9_1 : Int).toNat (-1)) := ⟨_, rfl⟩; replace H : (spec_l01Finer.l1 k1 l1 (l1.length : Int) y142 x8_1 x9_1 0 x1000_1 x1001_1 s0_2 s0_3) = some (r1, r2, r3, r4) := tY hy142 H; have Ny142 := am hy142; clear hy142; have H' := am H; clear H; have p12 : 0 ≤ (x9_1 : Int) := oA; have q12 : (x9_1 : Int) < ((x7_1.length : Int) : Int) := oA; obtain ⟨go12, co12, eo12, gb12, gl12, cl12, HG12⟩ := Kd.R_form HO_7.out (by omega)
        (first | cases eo12 | (injection eo12 with ea_ en_ ec_; (first | subst ea_ | (injection ea_ with ea_; subst ea_)); subst ec_; clear en_))
        have GB12 := am gb12; have GG12 := am HG12; clear gb12 gl12 HG12; obtain ⟨hx12_0, hf12_0⟩ := Kd.R_celln 0 HO_7.out (x9_1 : Int) p12 q12; replace p12 := eq_true p12; replace q12 := eq_true q12; have HP13 := Kd.R_putg HO_7.out (x9_1 : Int) (-1)
        go_wp2_with (first | ((with_reducible refine gate_store (t := 2) (p := 23) rfl ?_); refine store_event (t := 2) (p := 23) (v := ?vo_w14) (w1 := (wr.setCell ⟨go12, (x9_1 : Int).toNat, none⟩ (.int .i64 (-1)))) ?hg ?ho ?hn ?hr ?_; (case ho => rfl); (case hg => rfl); (case hn => rfl); (case hr => first | (go_simp; done) | (go_simp; rfl)); intro w14 hw; have hg : wr.grownBy w14 (some go12) := (by rw [hw]; exact HP13.2); have hp_ : Kd.R (Kd.int .i64) 2 w14 w.heap.size (fun k_ => some k_ ≠ (u8 : Value).ownBlock) (.slice (some ⟨go12, 0, none⟩) x7_1.length co12) y142 := (by rw [hw, Ny142.out]; exact HP13.1); clear HP13; replace HO_8 := am (Kd.R_after (v := (.slice (some ⟨go12, 0, none⟩) x7_1.length co12)) (v1 := (.slice (some ⟨go12, 0, none⟩) x7_1.length co12)) (ok := (fun _ => True)) (by refine tR ?_; exact Kd.R_mono HO_8.out (fun _ hk => ⟨trivial, hk⟩)) hg (.inl rfl)); replace HI0 := am (IsS29.grown (tI) hg (IsS29.own_ne HI0.out HO_7.out (by decide))); replace HB := am ((by rw [hw]; exact below_set (HB.out) (Nat.le_trans HL.out GB12.out) : Below w0.heap.size w0 w14)); replace HK := am (KeepBut.trans (tK) (KeepBut.of_grown hg g) (Kd.R_base2 HO_7.out)); replace HO_7 := am (hp_); clear hg hw hp_))
        go_loopg [10] k1 (fun kq v10 w' => ∃ (x7_2 : List Int) (x10_2 : Int) (x1000_2 : Int) (x1001_2 : Int), v10 = .int .i64 x10_2 ∧ Aside0 (spec_l01Finer.l1 kq l1 (l1.length : Int) x7_2 x8_1 x9_1 x10_2 x1000_2 x1001_2 s0_2 s0_3 = some (r1, r2, r3, r4)) ∧ Aside0 (kq ≤ k1) ∧ Aside0 (Kd.R (Kd.int .i64) 2 w' w.heap.size (fun k_ => some k_ ≠ (u8 : Value).ownBlock) (.slice (some ⟨go12, 0, none⟩) x7_1.length co12) x7_2) ∧ Aside0 (Kd.R (Kd.int .i64) 2 w' w.heap.size (fun k_ => some k_ ≠ ((.slice (some ⟨go12, 0, none⟩) x7_1.length co12) : Value).ownBlock) u8 x8_1) ∧ Aside0 (IsS29 w0 w' g x1000_2 x1001_2 s0_2 s0_3) ∧ Aside0 (KeepBut w w' g none) ∧ Aside0 (Below w0.heap.size w0 w'))
        case atStart => exact ⟨(y142), (0), (x1000_1), (x1001_1), (tF), H', ⟨Nat.le_refl _⟩, ⟨by refine tR ?_; exact HO_7.out⟩, ⟨by refine tR ?_; exact Kd.R_mono HO_8.out (fun _ hk => hk.2)⟩, ⟨tI⟩, ⟨tK⟩, ⟨tB⟩⟩
        case round =>
         clear H'
         try clear c1; try clear p1; try clear q1; try clear hx1; try clear p2; try clear c3; try clear c3b0; try clear c3b1; try clear c4; try clear c4b0; try clear c4b1; try clear c9; try clear c9b0; try clear c10; try clear c10b0; try clear c11; try clear c11b0; try clear p12; try clear q12; try clear hx12; try clear hf12; try clear hx12_0; try clear p12; try clear p2; try clear q12
         obtain ⟨x7_2, x10_2, x1000_2, x1001_2, rfl, HA, HK2, HO_7, HO_8, HI0, HK, HB⟩ := hrel; have hl7_2 := (Kd.R_reads' HO_7.out).1; rw [hl7_2] at HO_7
         (try simp only [hl7_2])
         (try simp only [hl7_2] at HO_8)
         cases gk with
         | zero => exact absurd HA.out (by simp [spec_l01Finer.l1])
         | succ k2 =>
          have H := HA.out; clear HA; simp only [spec_l01Finer.l1] at H; have HC15 := am H; clear H
          go_upto_region 9 with (fail)
          go_cut [34] (fun v34 wc => ∃ (kq : Nat) (x34_14 : Bool), v34 = .bool x34_14 ∧ Aside0 (spec_l01Finer.j2 kq l1 (l1.length : Int) x7_2 x8_1 x9_1 x10_2 x34_14 x1000_2 x1001_2 s0_2 s0_3 = some (r1, r2, r3, r4)) ∧ Aside0 (kq ≤ k2) ∧ Aside0 (Kd.R (Kd.int .i64) 2 wc w.heap.size (fun k_ => some k_ ≠ (u8 : Value).ownBlock) (.slice (some ⟨go12, 0, none⟩) x7_2.length co12) x7_2) ∧ Aside0 (Kd.R (Kd.int .i64) 2 wc w.heap.size (fun k_ => some k_ ≠ ((.slice (some ⟨go12, 0, none⟩) x7_2.length co12) : Value).ownBlock) u8 x8_1) ∧ Aside0 (IsS29 w0 wc g x1000_2 x1001_2 s0_2 s0_3) ∧ Aside0 (KeepBut w wc g none) ∧ Aside0 (Below w0.heap.size w0 wc))
          case first =>
           have H := HC15.out; clear HC15; by_cases c16 : x10_2 < (x8_1.length : Int)
           ·rw [if_pos c16] at H; have c16b0 := decide_eq_true c16; clear c16
            (first | rw [c16b0] | (simp only [i64_w, i32_w]; rw [c16b0]) | skip)
            by_cases c17 : 0 ≤ x9_1
            ·rw [if_pos c17] at H; have c17b0 := decide_eq_true c17; clear c17; by_cases c18 : x9_1 < (x7_2.length : Int)
             ·rw [if_pos c18] at H; have c18b0 := decide_eq_true c18; clear c18; have H' := am H; clear H; obtain ⟨Ao19, co19, eo19⟩ := Kd.R_slice HO_8.out; subst eo19; have p143 : 0 ≤ (x9_1 : Int) := oA; have q143 : x9_1 < (x7_2.length : Int) := oA; obtain ⟨ad143, e143, hx143_0⟩ := Kd.at_int (Kd.R_reads' HO_7.out).2.2 x9_1 p143 q143; obtain rfl : (⟨go12, 0, none⟩ : Addr) = ad143 := (by injection e143)
              (first | simp only [add_plain] at hx143_0 | simp only [add_at] at hx143_0 | simp only [Addr.add, Nat.zero_add] at hx143_0 | skip)
              replace p143 := eq_true p143; replace q143 := eq_true q143; go_wp2
              go_meet
              case rel => exact ⟨_, (decide ((rd x7_2 x9_1) < 0)), (tF), H', ⟨by have := HK1.out; have := HK2.out; first | omega | exact Nat.le_refl _⟩, ⟨by (try simp only [hl7_2]); refine tR ?_; exact HO_7.out⟩, ⟨by (try simp only [hl7_2]); refine tR ?_; exact HO_8.out⟩, ⟨tI⟩, ⟨tK⟩, ⟨tB⟩⟩
             ·rw [if_neg c18] at H; exact absurd H (by simp)
            ·rw [if_neg c17] at H; exact absurd H (by simp)
           ·rw [if_neg c16] at H; have c16b0 := decide_eq_false c16; clear c16
            (first | rw [c16b0] | (simp only [i64_w, i32_w]; rw [c16b0]) | skip)
            have H' := am H; clear H; obtain ⟨Ao20, co20, eo20⟩ := Kd.R_slice HO_8.out; subst eo20; go_wp2
            go_meet
            case rel => exact ⟨_, (false), (tF), H', ⟨by have := HK1.out; have := HK2.out; first | omega | exact Nat.le_refl _⟩, ⟨by (try simp only [hl7_2]); refine tR ?_; exact HO_7.out⟩, ⟨by (try simp only [hl7_2]); refine tR ?_; exact HO_8.out⟩, ⟨tI⟩, ⟨tK⟩, ⟨tB⟩⟩
          case rest =>
           clear HC15
           try clear c1; try clear p1; try clear q1; try clear hx1; try clear p2; try clear c3; try clear c3b0; try clear c3b1; try clear c4; try clear c4b0; try clear c4b1; try clear c9; try clear c9b0; try clear c10; try clear c10b0; try clear c11; try clear c11b0; try clear p12; try clear q12; try clear hx12; try clear hf12; try clear p14; try clear q14; try clear hx14; try clear c16; try clear c16b0; try clear c17; try clear c17b0; try clear c18; try clear c18b0; try clear hx12_0; try clear hx143_0; try clear p1; try clear p12; try clear p143; try clear p2; try clear q1; try clear q12; try clear q143
           obtain ⟨kq, x34_14, rfl, HA, HJ14, HO_7, HO_8, HI0, HK, HB⟩ := hcut
           cases kq with
           | zero => exact absurd HA.out (by simp [spec_l01Finer.j2])
           | succ kj14 =>
            have H := HA.out; clear HA; simp only [spec_l01Finer.j2] at H; by_cases c21 : x34_14 = true
            ·subst c21; (have H1 : (if 0 ≤ x10_2 then (if x10_2 < (x8_1.length : Int) then (if 0 ≤ (rd x8_1 x10_2) then (if (rd x8_1 x10_2) < (l1.length : Int) then (if 0 ≤ x9_1 then (if x9_1 < (l1.length : Int) then (if (rd l1 (rd x8_1 x10_2)) = (rd l1 x9_1) then ((spec_l01Alike.f kj14 x1000_2 x1001_2 s0_2 s0_3 l1 (rd x8_1 x10_2) x9_1).bind fun bt148 => (if bt148.1 = true then (if x9_1 < (x7_2.length : Int) then (spec_l01Finer.l1 kj14 l1 (l1.length : Int) (x7_2.set (x9_1 : Int).toNat x10_2) x8_1 x9_1 (wrap64 (x10_2 + 1)) bt148.2.1 bt148.2.2 s0_2 s0_3) else (none)) else (spec_l01Finer.l1 kj14 l1 (l1.length : Int) x7_2 x8_1 x9_1 (wrap64 (x10_2 + 1)) bt148.2.1 bt148.2.2 s0_2 s0_3))) else (spec_l01Finer.l1 kj14 l1 (l1.length : Int) x7_2 x8_1 x9_1 (wrap64 (x10_2 + 1)) x1000_2 x1001_2 s0_2 s0_3)) else (none)) else (none)) else (none)) else (none)) else (none)) else (none)) = some (r1, r2, r3, r4) := by rw [if_pos rfl] at H; exact H); clear H; have H := H1; clear H1; by_cases c22 : 0 ≤ x10_2
             ·rw [if_pos c22] at H; have c22b0 := decide_eq_true c22; clear c22; by_cases c23 : x10_2 < (x8_1.length : Int)
              ·rw [if_pos c23] at H; have c23b0 := decide_eq_true c23; clear c23; by_cases c24 : 0 ≤ (rd x8_1 x10_2)
               ·rw [if_pos c24] at H; have c24b0 := decide_eq_true c24; clear c24; by_cases c25 : (rd x8_1 x10_2) < (l1.length : Int)
                ·rw [if_pos c25] at H; have c25b0 := decide_eq_true c25; clear c25; by_cases c26 : 0 ≤ x9_1
                 ·rw [if_pos c26] at H; have c26b0 := decide_eq_true c26; clear c26; by_cases c27 : x9_1 < (l1.length : Int)
                  ·rw [if_pos c27] at H; have c27b0 := decide_eq_true c27; clear c27; by_cases c28 : (rd l1 (rd x8_1 x10_2)) = (rd l1 x9_1)
                   ·rw [if_pos c28] at H; have c28b0 : ((rd l1 (rd x8_1 x10_2)) == (rd l1 x9_1)) = true := beq_iff_eq.mpr c28; have c28b1 : ((rd l1 (rd x8_1 x10_2)) != (rd l1 x9_1)) = false := bne_eq_false_iff_eq.mpr c28; clear c28; obtain ⟨⟨t148, t149, t150⟩, A290, H⟩ := oB H; replace H : (if t148 = true then (if x9_1 < (x7_2.length : Int) then (spec_l01Finer.l1 kj14 l1 (l1.length : Int) (x7_2.set (x9_1 : Int).toNat x10_2) x8_1 x9_1 (wrap64 (x10_2 + 1)) t149 t150 s0_2 s0_3) else (none)) else (spec_l01Finer.l1 kj14 l1 (l1.length : Int) x7_2 x8_1 x9_1 (wrap64 (x10_2 + 1)) t149 t150 s0_2 s0_3)) = some (r1, r2, r3, r4) := H; have A29 := am A290; clear A290; by_cases c30 : t148 = true
                    ·subst c30; (have H1 : (if x9_1 < (x7_2.length : Int) then (spec_l01Finer.l1 kj14 l1 (l1.length : Int) (x7_2.set (x9_1 : Int).toNat x10_2) x8_1 x9_1 (wrap64 (x10_2 + 1)) t149 t150 s0_2 s0_3) else (none)) = some (r1, r2, r3, r4) := by rw [if_pos rfl] at H; exact H); clear H; have H := H1; clear H1; by_cases c31 : x9_1 < (x7_2.length : Int)
                     ·rw [if_pos c31] at H; have c31b0 := decide_eq_true c31; clear c31; obtain ⟨y151, hy151⟩ : ∃ y_ : List Int, y_ = (x7_2.set (x9_1 : Int).toNat x10_2) := ⟨_, rfl⟩; replace H : (spec_l01Finer.l1 kj14 l1 (l1.length : Int) y151 x8_1 x9_1 (wrap64 (x10_2 + 1)) t149 t150 s0_2 s0_3) = some (r1, r2, r3, r4) := tY hy151 H; have Ny151 := am hy151; clear hy151; have H' := am H; clear H
                      try go_wp2
                      replace HO_7 := am (Kd.R_drew HO_7.out); replace HO_8 := am (Kd.R_drew HO_8.out); replace HI0 := am (IsS29.drew HI0.out); replace HK := am (keep_drew HK.out); replace HB := am (below_drew1 HB.out); obtain ⟨Ao34, co34, eo34⟩ := Kd.R_slice HO_8.out
                      (first | subst eo34 | (injection eo34 with f1_ f2_ f3_; have f4_ := f1_.symm; have f5_ := f3_.symm; clear f1_ f2_ f3_; subst f4_; subst f5_))
                      have p144 : 0 ≤ (x10_2 : Int) := oA; have q144 : x10_2 < (x8_1.length : Int) := oA; obtain ⟨ad144, e144, hx144_0⟩ := Kd.at_int (Kd.R_reads' HO_8.out).2.2 x10_2 p144 q144; cases e144; replace p144 := eq_true p144; replace q144 := eq_true q144; have p145 : 0 ≤ ((rd x8_1 x10_2) : Int) := oA; have q145 : (rd x8_1 x10_2) < (l1.length : Int) := oA; obtain ⟨ad145, e145, hx145_0⟩ := Kd.at_int HR1.out (rd x8_1 x10_2) p145 q145; have hw145_0 := hx145_0; cases e145; have hne145_0 := (show ((ad145.add ((rd x8_1 x10_2)).toNat) : Addr).block ≠ g from by first | (rw [add_block]; exact hf1 ad145 rfl (by omega)) | (show (Addr.add _ _).block ≠ _; rw [add_block]; exact hf1 ad145 rfl (by omega)) | exact hf1 ad145 rfl (by omega)); replace hx145_0 := (by first | exact keep_cell HK.out hx145_0 (by first | (rw [add_block]; exact hf1 _ rfl (by omega)) | exact hf1 _ rfl (by omega) | exact hf1 ad145 rfl (by omega)) | exact pw_cell_below HB.out hx145_0); replace p145 := eq_true p145; replace q145 := eq_true q145; have p146 : 0 ≤ (x9_1 : Int) := oA; have q146 : x9_1 < (l1.length : Int) := oA; obtain ⟨ad146, e146, hx146_0⟩ := Kd.at_int HR1.out x9_1 p146 q146; have hw146_0 := hx146_0; obtain rfl : ad145 = ad146 := (by injection e146); have hne146_0 := (show ((ad145.add (x9_1).toNat) : Addr).block ≠ g from by first | (rw [add_block]; exact hf1 ad145 rfl (by omega)) | (show (Addr.add _ _).block ≠ _; rw [add_block]; exact hf1 ad145 rfl (by omega)) | exact hf1 ad145 rfl (by omega)); replace hx146_0 := (by first | exact keep_cell HK.out hx146_0 (by first | (rw [add_block]; exact hf1 _ rfl (by omega)) | exact hf1 _ rfl (by omega) | exact hf1 ad145 rfl (by omega)) | exact pw_cell_below HB.out hx146_0); replace p146 := eq_true p146; replace q146 := eq_true q146; have p147 : 0 ≤ (x10_2 : Int) := oA; have q147 : x10_2 < (x8_1.length : Int) := oA; obtain ⟨ad147, e147, hx147_0⟩ := Kd.at_int (Kd.R_reads' HO_8.out).2.2 x10_2 p147 q147; obtain rfl : ad144 = ad147 := (by injection e147); replace p147 := eq_true p147; replace q147 := eq_true q147; refine start_ (n := 22) (S := fun w' => w'.cell? (ad144.add (x10_2).toNat) = some (.int .i64 (rd x8_1 x10_2)) ∧ w'.cell? (ad145.add ((rd x8_1 x10_2)).toNat) = some (.int .i64 (rd l1 (rd x8_1 x10_2))) ∧ w'.cell? (ad145.add (x9_1).toNat) = some (.int .i64 (rd l1 x9_1)) ∧ w'.cell? (ad144.add (x10_2).toNat) = some (.int .i64 (rd x8_1 x10_2))) (ds := []) #[false, false, false, false, false, false, false, false, false, false, false, false, false, false, false, false, false, false, false, false, false, false] (by kernel_rfl) rfl rfl ⟨hx144_0, (keep_cell HK.out hw145_0 hne145_0), (keep_cell HK.out hw146_0 hne146_0), hx147_0⟩ (fun hHeld => ?_); refine with_tabW spec_l01Finer.tab11 spec_l01Finer.bits11 (fun HT_ HW_ => ?_)
                      generalize wc.drew = w33 at HO_7 HO_8 HI0 HK HB hx144_0 hx145_0 hx146_0 hx147_0 hHeld ⊢
                      refine pureA 0 (some 37) (bl 22 1) rfl rfl (h := ?_); refine pureA 1 (some 38) (bl 22 3) rfl rfl (h := ?_); refine pureA 2 (some 39) (bl 22 7) rfl rfl (h := ?_); refine pureA 3 (some 40) (bl 22 15) rfl rfl (h := ?_); refine pureA 7 (some 44) (bl 22 143) rfl rfl (h := ?_); refine pureA 8 (some 45) (bl 22 399) rfl rfl (h := ?_); refine pureA 9 (some 46) (bl 22 911) rfl rfl (h := ?_); refine takeA4 4 (some 41) (bl 22 927) hHeld rfl rfl (h := ?_); refine pureA 5 (some 42) (bl 22 959) rfl rfl (h := ?_); refine takeA4 6 (some 43) (bl 22 1023) hHeld rfl rfl (h := ?_); refine takeA4 10 (some 47) (bl 22 2047) hHeld rfl rfl (h := ?_); refine pureA 11 (some 48) (bl 22 4095) rfl rfl (h := ?_); refine pureA 12 (some 49) (bl 22 8191) rfl rfl (h := ?_); refine pureA 13 (some 50) (bl 22 16383) rfl rfl (h := ?_); refine pureA 14 (some 51) (bl 22 32767) rfl rfl (h := ?_); refine pureA 15 (some 52) (bl 22 65535) rfl rfl (h := ?_); refine pureA 16 (some 53) (bl 22 131071) rfl rfl (h := ?_); refine pureA 17 (some 54) (bl 22 262143) rfl rfl (h := ?_); refine pureA 19 (some 56) (bl 22 786431) rfl rfl (h := ?_); refine takeA4 18 (some 55) (bl 22 1048575) hHeld rfl rfl (h := ?_); refine one_ (i := 20) (N := some 57) (bl 22 2097151) rfl rfl (one_of HT_.out (by kernel_rfl)) (by decide) (fun K hK => ?_); refine goesA Tryd.func137 #[.pointer (some ⟨g, 0, none⟩), .slice (some ad145) l1.length c1, .int .i64 (rd x8_1 x10_2), .int .i64 x9_1] rfl (h := ?_); (with_reducible refine (spec_l01Alike.calls kj14 g x1000_2 x1001_2 s0_2 s0_3 _ _ l1 (rd x8_1 x10_2) x9_1 true t149 t150 w0 _ ?side1 ?side2 ?side3 ?side4 ?side5 A29.out).mono ?_)
                      (case side1 => repeat (first | (with_reducible first | exact HI0.out | apply IsS29.alloc | apply IsS29.drewN | apply IsS29.drew | apply IsS29.set_0 | apply IsS29.set_1) | exact HI0.out))
                      (case side2 => repeat (first | (with_reducible first | exact HB.out | apply below_alloc | apply pw_below_drewN | apply below_drew1 | refine below_set ?_ (IsS29.ge HI0.out)) | exact HB.out))
                      (case side3 => exact Kd.C_keep 0 HR1.out (tK) hf1)
                      (case side4 => exact HC1.out)
                      (case side5 => exact hf1)
                      rintro e w35 ⟨rfl, hi, hb, hk⟩; have HS0_ := keep_cell hk (hHeld.1) (by first | (rw [add_block]; exact Kd.own_blk (IsS29.own_ne HI0.out HO_8.out (by decide))) | (show (Addr.add _ _).block ≠ _; rw [add_block]; exact Kd.own_blk (IsS29.own_ne HI0.out HO_8.out (by decide))) | exact Kd.own_blk (IsS29.own_ne HI0.out HO_8.out (by decide))); have HS3_ := keep_cell hk (hHeld.2.2.2) (by first | (rw [add_block]; exact Kd.own_blk (IsS29.own_ne HI0.out HO_8.out (by decide))) | (show (Addr.add _ _).block ≠ _; rw [add_block]; exact Kd.own_blk (IsS29.own_ne HI0.out HO_8.out (by decide))) | exact Kd.own_blk (IsS29.own_ne HI0.out HO_8.out (by decide))); refine ⟨_, rfl, ?_⟩; replace HO_7 := am (Kd.R_mono (Kd.R_keep (IsS29.apart (show IsS29 w0 _ g x1000_2 x1001_2 s0_2 s0_3 from tI) (tR HO_7.out) (by decide)) hk (fun _ h => h.2)) (fun _ h => h.1)); replace HO_8 := am (Kd.R_mono (Kd.R_keep (IsS29.apart (show IsS29 w0 _ g x1000_2 x1001_2 s0_2 s0_3 from tI) (tR HO_8.out) (by decide)) hk (fun _ h => h.2)) (fun _ h => h.1)); replace HK := am (KeepBut.trans (tK) hk (.inl rfl)); replace HB := am (hb); replace HI0 := am (hi)
                      (try clear hb)
                      (try clear hb2)
                      (try clear hk)
                      (try clear hi)
                      refine hK.out _ _ ⟨HS0_, (keep_cell HK.out hw145_0 hne145_0), (keep_cell HK.out hw146_0 hne146_0), HS3_⟩ (fun hHeld => ?_); clear hK K; refine normA (h := ?_); refine pureA 21 (some 58) (bl 22 4194303) rfl rfl (h := ?_); refine done_ (done_of HT_.out (by kernel_rfl)) ?_; have p32 : 0 ≤ (x9_1 : Int) := oA; have q32 : (x9_1 : Int) < ((x7_2.length : Int) : Int) := oA; obtain ⟨hx32_0, hf32_0⟩ := Kd.R_celln 0 HO_7.out (x9_1 : Int) p32 q32; replace p32 := eq_true p32; replace q32 := eq_true q32; obtain ⟨hy36_, hz36_⟩ := Kd.R_celln 0 HO_7.out (x9_1 : Int) (oA) (oA); have HP36 := Kd.R_putg HO_7.out (x9_1 : Int) x10_2
                      try go_wp2_with (first | ((with_reducible refine gate_store (t := 2) (p := 62) rfl ?_); refine store_event (t := 2) (p := 62) (v := ?vo_w37) (w1 := (w35.setCell ⟨go12, (x9_1 : Int).toNat, none⟩ (.int .i64 x10_2))) ?hg ?ho ?hn ?hr ?_; (case ho => rfl); (case hg => rfl); (case hn => rfl); (case hr => first | (go_simp; done) | (go_simp; rfl)); intro w37 hw; have hg : w35.grownBy w37 (some go12) := (by rw [hw]; exact HP36.2); have hp_ : Kd.R (Kd.int .i64) 2 w37 w.heap.size (fun k_ => some k_ ≠ (.slice (some ad144) x8_1.length co34 : Value).ownBlock) (.slice (some ⟨go12, 0, none⟩) x7_2.length co12) y151 := (by rw [hw, Ny151.out]; exact HP36.1); clear HP36; replace HO_8 := am (Kd.R_after (v := (.slice (some ⟨go12, 0, none⟩) x7_2.length co12)) (v1 := (.slice (some ⟨go12, 0, none⟩) x7_2.length co12)) (ok := (fun _ => True)) (by refine tR ?_; exact Kd.R_mono HO_8.out (fun _ hk => ⟨trivial, hk⟩)) hg (.inl rfl)); replace HI0 := am (IsS29.grown (tI) hg (IsS29.own_ne HI0.out HO_7.out (by decide))); replace HB := am ((by rw [hw]; exact below_set (HB.out) (Nat.le_trans HL.out GB12.out) : Below w0.heap.size w0 w37)); replace HK := am (KeepBut.trans (tK) (KeepBut.of_grown hg g) (Kd.R_base2 HO_7.out)); replace HO_7 := am (hp_); clear hg hw hp_))
                      (try simp only [← hl7_2])
                      go_roundg kj14
                      case measure => have := HK1.out; have := HK2.out; have := HJ14.out; omega
                      case rel => exact ⟨(y151), (wrap64 (x10_2 + 1)), (t149), (t150), (tF), H', ⟨by have := HK1.out; have := HK2.out; have := HJ14.out; omega⟩, ⟨by (try simp only [hl7_2]); refine tR ?_; exact HO_7.out⟩, ⟨by (try simp only [hl7_2]); refine tR ?_; exact Kd.R_mono HO_8.out (fun _ hk => hk.2)⟩, ⟨tI⟩, ⟨tK⟩, ⟨tB⟩⟩
                     ·rw [if_neg c31] at H; exact absurd H (by simp)
                    ·replace c30 := Bool.eq_false_iff.mpr c30; subst c30; (have H1 : (spec_l01Finer.l1 kj14 l1 (l1.length : Int) x7_2 x8_1 x9_1 (wrap64 (x10_2 + 1)) t149 t150 s0_2 s0_3) = some (r1, r2, r3, r4) := by rw [if_neg (show ¬ (false = true) by decide)] at H; exact H); clear H; have H := H1; clear H1; have H' := am H; clear H
                     try go_wp2
                     replace HO_7 := am (Kd.R_drew HO_7.out); replace HO_8 := am (Kd.R_drew HO_8.out); replace HI0 := am (IsS29.drew HI0.out); replace HK := am (keep_drew HK.out); replace HB := am (below_drew1 HB.out); obtain ⟨Ao39, co39, eo39⟩ := Kd.R_slice HO_8.out
                     (first | subst eo39 | (injection eo39 with f1_ f2_ f3_; have f4_ := f1_.symm; have f5_ := f3_.symm; clear f1_ f2_ f3_; subst f4_; subst f5_))
                     have p144 : 0 ≤ (x10_2 : Int) := oA; have q144 : x10_2 < (x8_1.length : Int) := oA; obtain ⟨ad144, e144, hx144_0⟩ := Kd.at_int (Kd.R_reads' HO_8.out).2.2 x10_2 p144 q144; cases e144; replace p144 := eq_true p144; replace q144 := eq_true q144; have p145 : 0 ≤ ((rd x8_1 x10_2) : Int) := oA; have q145 : (rd x8_1 x10_2) < (l1.length : Int) := oA; obtain ⟨ad145, e145, hx145_0⟩ := Kd.at_int HR1.out (rd x8_1 x10_2) p145 q145; have hw145_0 := hx145_0; cases e145; have hne145_0 := (show ((ad145.add ((rd x8_1 x10_2)).toNat) : Addr).block ≠ g from by first | (rw [add_block]; exact hf1 ad145 rfl (by omega)) | (show (Addr.add _ _).block ≠ _; rw [add_block]; exact hf1 ad145 rfl (by omega)) | exact hf1 ad145 rfl (by omega)); replace hx145_0 := (by first | exact keep_cell HK.out hx145_0 (by first | (rw [add_block]; exact hf1 _ rfl (by omega)) | exact hf1 _ rfl (by omega) | exact hf1 ad145 rfl (by omega)) | exact pw_cell_below HB.out hx145_0); replace p145 := eq_true p145; replace q145 := eq_true q145; have p146 : 0 ≤ (x9_1 : Int) := oA; have q146 : x9_1 < (l1.length : Int) := oA; obtain ⟨ad146, e146, hx146_0⟩ := Kd.at_int HR1.out x9_1 p146 q146; have hw146_0 := hx146_0; obtain rfl : ad145 = ad146 := (by injection e146); have hne146_0 := (show ((ad145.add (x9_1).toNat) : Addr).block ≠ g from by first | (rw [add_block]; exact hf1 ad145 rfl (by omega)) | (show (Addr.add _ _).block ≠ _; rw [add_block]; exact hf1 ad145 rfl (by omega)) | exact hf1 ad145 rfl (by omega)); replace hx146_0 := (by first | exact keep_cell HK.out hx146_0 (by first | (rw [add_block]; exact hf1 _ rfl (by omega)) | exact hf1 _ rfl (by omega) | exact hf1 ad145 rfl (by omega)) | exact pw_cell_below HB.out hx146_0); replace p146 := eq_true p146; replace q146 := eq_true q146; have p147 : 0 ≤ (x10_2 : Int) := oA; have q147 : x10_2 < (x8_1.length : Int) := oA; obtain ⟨ad147, e147, hx147_0⟩ := Kd.at_int (Kd.R_reads' HO_8.out).2.2 x10_2 p147 q147; obtain rfl : ad144 = ad147 := (by injection e147); replace p147 := eq_true p147; replace q147 := eq_true q147; refine start_ (n := 22) (S := fun w' => w'.cell? (ad144.add (x10_2).toNat) = some (.int .i64 (rd x8_1 x10_2)) ∧ w'.cell? (ad145.add ((rd x8_1 x10_2)).toNat) = some (.int .i64 (rd l1 (rd x8_1 x10_2))) ∧ w'.cell? (ad145.add (x9_1).toNat) = some (.int .i64 (rd l1 x9_1)) ∧ w'.cell? (ad144.add (x10_2).toNat) = some (.int .i64 (rd x8_1 x10_2))) (ds := []) #[false, false, false, false, false, false, false, false, false, false, false, false, false, false, false, false, false, false, false, false, false, false] (by kernel_rfl) rfl rfl ⟨hx144_0, (keep_cell HK.out hw145_0 hne145_0), (keep_cell HK.out hw146_0 hne146_0), hx147_0⟩ (fun hHeld => ?_); refine with_tabW spec_l01Finer.tab11 spec_l01Finer.bits11 (fun HT_ HW_ => ?_)
                     generalize wc.drew = w38 at HO_7 HO_8 HI0 HK HB hx144_0 hx145_0 hx146_0 hx147_0 hHeld ⊢
                     refine pureA 0 (some 37) (bl 22 1) rfl rfl (h := ?_); refine pureA 1 (some 38) (bl 22 3) rfl rfl (h := ?_); refine pureA 2 (some 39) (bl 22 7) rfl rfl (h := ?_); refine pureA 3 (some 40) (bl 22 15) rfl rfl (h := ?_); refine pureA 7 (some 44) (bl 22 143) rfl rfl (h := ?_); refine pureA 8 (some 45) (bl 22 399) rfl rfl (h := ?_); refine pureA 9 (some 46) (bl 22 911) rfl rfl (h := ?_); refine takeA4 4 (some 41) (bl 22 927) hHeld rfl rfl (h := ?_); refine pureA 5 (some 42) (bl 22 959) rfl rfl (h := ?_); refine takeA4 6 (some 43) (bl 22 1023) hHeld rfl rfl (h := ?_); refine takeA4 10 (some 47) (bl 22 2047) hHeld rfl rfl (h := ?_); refine pureA 11 (some 48) (bl 22 4095) rfl rfl (h := ?_); refine pureA 12 (some 49) (bl 22 8191) rfl rfl (h := ?_); refine pureA 13 (some 50) (bl 22 16383) rfl rfl (h := ?_); refine pureA 14 (some 51) (bl 22 32767) rfl rfl (h := ?_); refine pureA 15 (some 52) (bl 22 65535) rfl rfl (h := ?_); refine pureA 16 (some 53) (bl 22 131071) rfl rfl (h := ?_); refine pureA 17 (some 54) (bl 22 262143) rfl rfl (h := ?_); refine pureA 19 (some 56) (bl 22 786431) rfl rfl (h := ?_); refine takeA4 18 (some 55) (bl 22 1048575) hHeld rfl rfl (h := ?_); refine one_ (i := 20) (N := some 57) (bl 22 2097151) rfl rfl (one_of HT_.out (by kernel_rfl)) (by decide) (fun K hK => ?_); refine goesA Tryd.func137 #[.pointer (some ⟨g, 0, none⟩), .slice (some ad145) l1.length c1, .int .i64 (rd x8_1 x10_2), .int .i64 x9_1] rfl (h := ?_); (with_reducible refine (spec_l01Alike.calls kj14 g x1000_2 x1001_2 s0_2 s0_3 _ _ l1 (rd x8_1 x10_2) x9_1 false t149 t150 w0 _ ?side1 ?side2 ?side3 ?side4 ?side5 A29.out).mono ?_)
                     (case side1 => repeat (first | (with_reducible first | exact HI0.out | apply IsS29.alloc | apply IsS29.drewN | apply IsS29.drew | apply IsS29.set_0 | apply IsS29.set_1) | exact HI0.out))
                     (case side2 => repeat (first | (with_reducible first | exact HB.out | apply below_alloc | apply pw_below_drewN | apply below_drew1 | refine below_set ?_ (IsS29.ge HI0.out)) | exact HB.out))
                     (case side3 => exact Kd.C_keep 0 HR1.out (tK) hf1)
                     (case side4 => exact HC1.out)
                     (case side5 => exact hf1)
                     rintro e w40 ⟨rfl, hi, hb, hk⟩; have HS0_ := keep_cell hk (hHeld.1) (by first | (rw [add_block]; exact Kd.own_blk (IsS29.own_ne HI0.out HO_8.out (by decide))) | (show (Addr.add _ _).block ≠ _; rw [add_block]; exact Kd.own_blk (IsS29.own_ne HI0.out HO_8.out (by decide))) | exact Kd.own_blk (IsS29.own_ne HI0.out HO_8.out (by decide))); have HS3_ := keep_cell hk (hHeld.2.2.2) (by first | (rw [add_block]; exact Kd.own_blk (IsS29.own_ne HI0.out HO_8.out (by decide))) | (show (Addr.add _ _).block ≠ _; rw [add_block]; exact Kd.own_blk (IsS29.own_ne HI0.out HO_8.out (by decide))) | exact Kd.own_blk (IsS29.own_ne HI0.out HO_8.out (by decide))); refine ⟨_, rfl, ?_⟩; replace HO_7 := am (Kd.R_mono (Kd.R_keep (IsS29.apart (show IsS29 w0 _ g x1000_2 x1001_2 s0_2 s0_3 from tI) (tR HO_7.out) (by decide)) hk (fun _ h => h.2)) (fun _ h => h.1)); replace HO_8 := am (Kd.R_mono (Kd.R_keep (IsS29.apart (show IsS29 w0 _ g x1000_2 x1001_2 s0_2 s0_3 from tI) (tR HO_8.out) (by decide)) hk (fun _ h => h.2)) (fun _ h => h.1)); replace HK := am (KeepBut.trans (tK) hk (.inl rfl)); replace HB := am (hb); replace HI0 := am (hi)
                     (try clear hb)
                     (try clear hb2)
                     (try clear hk)
                     (try clear hi)
                     refine hK.out _ _ ⟨HS0_, (keep_cell HK.out hw145_0 hne145_0), (keep_cell HK.out hw146_0 hne146_0), HS3_⟩ (fun hHeld => ?_); clear hK K; refine normA (h := ?_); refine pureA 21 (some 58) (bl 22 4194303) rfl rfl (h := ?_); refine done_ (done_of HT_.out (by kernel_rfl)) ?_
                     try go_wp2
                     (try simp only [← hl7_2])
                     go_roundg kj14
                     case measure => have := HK1.out; have := HK2.out; have := HJ14.out; omega
                     case rel => exact ⟨(x7_2), (wrap64 (x10_2 + 1)), (t149), (t150), (tF), H', ⟨by have := HK1.out; have := HK2.out; have := HJ14.out; omega⟩, ⟨by (try simp only [hl7_2]); refine tR ?_; exact HO_7.out⟩, ⟨by (try simp only [hl7_2]); refine tR ?_; exact HO_8.out⟩, ⟨tI⟩, ⟨tK⟩, ⟨tB⟩⟩
                   ·rw [if_neg c28] at H; have c28b0 : ((rd l1 (rd x8_1 x10_2)) == (rd l1 x9_1)) = false := beq_eq_false_iff_ne.mpr c28; have c28b1 : ((rd l1 (rd x8_1 x10_2)) != (rd l1 x9_1)) = true := bne_iff_ne.mpr c28; have H' := am H; clear H
                    try go_wp2
                    replace HO_7 := am (Kd.R_drew HO_7.out); replace HO_8 := am (Kd.R_drew HO_8.out); replace HI0 := am (IsS29.drew HI0.out); replace HK := am (keep_drew HK.out); replace HB := am (below_drew1 HB.out); obtain ⟨Ao42, co42, eo42⟩ := Kd.R_slice HO_8.out
                    (first | subst eo42 | (injection eo42 with f1_ f2_ f3_; have f4_ := f1_.symm; have f5_ := f3_.symm; clear f1_ f2_ f3_; subst f4_; subst f5_))
                    have p144 : 0 ≤ (x10_2 : Int) := oA; have q144 : x10_2 < (x8_1.length : Int) := oA; obtain ⟨ad144, e144, hx144_0⟩ := Kd.at_int (Kd.R_reads' HO_8.out).2.2 x10_2 p144 q144; cases e144; replace p144 := eq_true p144; replace q144 := eq_true q144; have p145 : 0 ≤ ((rd x8_1 x10_2) : Int) := oA; have q145 : (rd x8_1 x10_2) < (l1.length : Int) := oA; obtain ⟨ad145, e145, hx145_0⟩ := Kd.at_int HR1.out (rd x8_1 x10_2) p145 q145; have hw145_0 := hx145_0; cases e145; have hne145_0 := (show ((ad145.add ((rd x8_1 x10_2)).toNat) : Addr).block ≠ g from by first | (rw [add_block]; exact hf1 ad145 rfl (by omega)) | (show (Addr.add _ _).block ≠ _; rw [add_block]; exact hf1 ad145 rfl (by omega)) | exact hf1 ad145 rfl (by omega)); replace hx145_0 := (by first | exact keep_cell HK.out hx145_0 (by first | (rw [add_block]; exact hf1 _ rfl (by omega)) | exact hf1 _ rfl (by omega) | exact hf1 ad145 rfl (by omega)) | exact pw_cell_below HB.out hx145_0); replace p145 := eq_true p145; replace q145 := eq_true q145; have p146 : 0 ≤ (x9_1 : Int) := oA; have q146 : x9_1 < (l1.length : Int) := oA; obtain ⟨ad146, e146, hx146_0⟩ := Kd.at_int HR1.out x9_1 p146 q146; have hw146_0 := hx146_0; obtain rfl : ad145 = ad146 := (by injection e146); have hne146_0 := (show ((ad145.add (x9_1).toNat) : Addr).block ≠ g from by first | (rw [add_block]; exact hf1 ad145 rfl (by omega)) | (show (Addr.add _ _).block ≠ _; rw [add_block]; exact hf1 ad145 rfl (by omega)) | exact hf1 ad145 rfl (by omega)); replace hx146_0 := (by first | exact keep_cell HK.out hx146_0 (by first | (rw [add_block]; exact hf1 _ rfl (by omega)) | exact hf1 _ rfl (by omega) | exact hf1 ad145 rfl (by omega)) | exact pw_cell_below HB.out hx146_0); replace p146 := eq_true p146; replace q146 := eq_true q146; refine start_ (n := 22) (S := fun w' => w'.cell? (ad144.add (x10_2).toNat) = some (.int .i64 (rd x8_1 x10_2)) ∧ w'.cell? (ad145.add ((rd x8_1 x10_2)).toNat) = some (.int .i64 (rd l1 (rd x8_1 x10_2))) ∧ w'.cell? (ad145.add (x9_1).toNat) = some (.int .i64 (rd l1 x9_1))) (ds := []) #[false, false, false, false, false, false, false, false, false, false, false, false, false, false, false, false, false, false, false, false, false, false] (by kernel_rfl) rfl rfl ⟨hx144_0, (keep_cell HK.out hw145_0 hne145_0), (keep_cell HK.out hw146_0 hne146_0)⟩ (fun hHeld => ?_); refine with_tabW spec_l01Finer.tab11 spec_l01Finer.bits11 (fun HT_ HW_ => ?_)
                    generalize wc.drew = w41 at HO_7 HO_8 HI0 HK HB hx144_0 hx145_0 hx146_0 hHeld ⊢
                    refine pureA 0 (some 37) (bl 22 1) rfl rfl (h := ?_); refine pureA 1 (some 38) (bl 22 3) rfl rfl (h := ?_); refine pureA 2 (some 39) (bl 22 7) rfl rfl (h := ?_); refine pureA 3 (some 40) (bl 22 15) rfl rfl (h := ?_); refine pureA 7 (some 44) (bl 22 143) rfl rfl (h := ?_); refine pureA 8 (some 45) (bl 22 399) rfl rfl (h := ?_); refine pureA 9 (some 46) (bl 22 911) rfl rfl (h := ?_); refine takeA3 4 (some 41) (bl 22 927) hHeld rfl rfl (h := ?_); refine pureA 5 (some 42) (bl 22 959) rfl rfl (h := ?_); refine takeA3 6 (some 43) (bl 22 1023) hHeld rfl rfl (h := ?_); refine takeA3 10 (some 47) (bl 22 2047) hHeld rfl rfl (h := ?_); refine pureA 11 (some 48) (bl 22 4095) rfl rfl (h := ?_); refine pureA 12 (some 49) (bl 22 8191) rfl rfl (h := ?_); refine pure_ (i := 13) (N := some 50) (v := undef) (a' := ?_) #[true, true, true, true, true, true, true, true, true, true, true, true, true, true, false, false, false, false, false, false, false, false] rfl rfl (any_of HT_.out (by kernel_rfl)) (fun _ _ _ h => h) (Or.inr ⟨by rfl, rfl⟩) ?_ ?_; rotate_left
                    ·simp only [Act.put, List.setIfInBounds_toArray, List.set_cons_zero, List.set_cons_succ, i64_w, i32_w]; rfl
                    refine pure_ (i := 14) (N := some 51) (v := undef) (a' := ?_) #[true, true, true, true, true, true, true, true, true, true, true, true, true, true, true, false, false, false, false, false, false, false] rfl rfl (any_of HT_.out (by kernel_rfl)) (fun _ _ _ h => h) (Or.inr ⟨by rfl, rfl⟩) ?_ ?_; rotate_left
                    ·simp only [Act.put, List.setIfInBounds_toArray, List.set_cons_zero, List.set_cons_succ, i64_w, i32_w]; rfl
                    refine pure_ (i := 15) (N := some 52) (v := undef) (a' := ?_) #[true, true, true, true, true, true, true, true, true, true, true, true, true, true, true, true, false, false, false, false, false, false] rfl rfl (any_of HT_.out (by kernel_rfl)) (fun _ _ _ h => h) (Or.inr ⟨by rfl, rfl⟩) ?_ ?_; rotate_left
                    ·simp only [Act.put, List.setIfInBounds_toArray, List.set_cons_zero, List.set_cons_succ, i64_w, i32_w]; rfl
                    refine pure_ (i := 16) (N := some 53) (v := undef) (a' := ?_) #[true, true, true, true, true, true, true, true, true, true, true, true, true, true, true, true, true, false, false, false, false, false] rfl rfl (any_of HT_.out (by kernel_rfl)) (fun _ _ _ h => h) (Or.inr ⟨by rfl, rfl⟩) ?_ ?_; rotate_left
                    ·simp only [Act.put, List.setIfInBounds_toArray, List.set_cons_zero, List.set_cons_succ, i64_w, i32_w]; rfl
                    refine pure_ (i := 17) (N := some 54) (v := undef) (a' := ?_) #[true, true, true, true, true, true, true, true, true, true, true, true, true, true, true, true, true, true, false, false, false, false] rfl rfl (any_of HT_.out (by kernel_rfl)) (fun _ _ _ h => h) (Or.inr ⟨by rfl, rfl⟩) ?_ ?_; rotate_left
                    ·simp only [Act.put, List.setIfInBounds_toArray, List.set_cons_zero, List.set_cons_succ, i64_w, i32_w]; rfl
                    refine pure_ (i := 18) (N := some 55) (v := undef) (a' := ?_) #[true, true, true, true, true, true, true, true, true, true, true, true, true, true, true, true, true, true, true, false, false, false] rfl rfl (any_of HT_.out (by kernel_rfl)) (fun _ _ _ h => h) (Or.inr ⟨by rfl, rfl⟩) ?_ ?_; rotate_left
                    ·simp only [Act.put, List.setIfInBounds_toArray, List.set_cons_zero, List.set_cons_succ, i64_w, i32_w]; rfl
                    refine pure_ (i := 19) (N := some 56) (v := undef) (a' := ?_) #[true, true, true, true, true, true, true, true, true, true, true, true, true, true, true, true, true, true, true, true, false, false] rfl rfl (any_of HT_.out (by kernel_rfl)) (fun _ _ _ h => h) (Or.inr ⟨by rfl, rfl⟩) ?_ ?_; rotate_left
                    ·simp only [Act.put, List.setIfInBounds_toArray, List.set_cons_zero, List.set_cons_succ, i64_w, i32_w]; rfl
                    refine pure_ (i := 20) (N := some 57) (v := undef) (a' := ?_) #[true, true, true, true, true, true, true, true, true, true, true, true, true, true, true, true, true, true, true, true, true, false] rfl rfl (any_of HT_.out (by kernel_rfl)) (fun _ _ _ h => h) (Or.inr ⟨by rfl, rfl⟩) ?_ ?_; rotate_left
                    ·simp only [Act.put, List.setIfInBounds_toArray, List.set_cons_zero, List.set_cons_succ, i64_w, i32_w]; rfl
                    refine pureA 21 (some 58) (bl 22 4194303) rfl rfl (h := ?_); refine done_ (done_of HT_.out (by kernel_rfl)) ?_
                    try go_wp2
                    (try simp only [← hl7_2])
                    go_roundg kj14
                    case measure => have := HK1.out; have := HK2.out; have := HJ14.out; omega
                    case rel => exact ⟨(x7_2), (wrap64 (x10_2 + 1)), (x1000_2), (x1001_2), (tF), H', ⟨by have := HK1.out; have := HK2.out; have := HJ14.out; omega⟩, ⟨by (try simp only [hl7_2]); refine tR ?_; exact HO_7.out⟩, ⟨by (try simp only [hl7_2]); refine tR ?_; exact HO_8.out⟩, ⟨tI⟩, ⟨tK⟩, ⟨tB⟩⟩
                  ·rw [if_neg c27] at H; exact absurd H (by simp)
                 ·rw [if_neg c26] at H; exact absurd H (by simp)
                ·rw [if_neg c25] at H; exact absurd H (by simp)
               ·rw [if_neg c24] at H; exact absurd H (by simp)
              ·rw [if_neg c23] at H; exact absurd H (by simp)
             ·rw [if_neg c22] at H; exact absurd H (by simp)
            ·replace c21 := Bool.eq_false_iff.mpr c21; subst c21; (have H1 : (if 0 ≤ x9_1 then (if x9_1 < (x7_2.length : Int) then (if (rd x7_2 x9_1) < 0 then (if x8_1.length < 17592186044416 then (spec_l01Finer.l0 kj14 l1 (l1.length : Int) (x7_2.set (x9_1 : Int).toNat (x8_1.length : Int)) (x8_1 ++ [x9_1]) (wrap64 (x9_1 + 1)) x1000_2 x1001_2 s0_2 s0_3) else (none)) else (spec_l01Finer.l0 kj14 l1 (l1.length : Int) x7_2 x8_1 (wrap64 (x9_1 + 1)) x1000_2 x1001_2 s0_2 s0_3)) else (none)) else (none)) = some (r1, r2, r3, r4) := by rw [if_neg (show ¬ (false = true) by decide)] at H; exact H); clear H; have H := H1; clear H1; by_cases c43 : 0 ≤ x9_1
             ·rw [if_pos c43] at H; have c43b0 := decide_eq_true c43; clear c43; by_cases c44 : x9_1 < (x7_2.length : Int)
              ·rw [if_pos c44] at H; have c44b0 := decide_eq_true c44; clear c44; by_cases c45 : (rd x7_2 x9_1) < 0
               ·rw [if_pos c45] at H; have c45b0 := decide_eq_true c45; clear c45; obtain ⟨y153, hy153⟩ : ∃ y_ : List Int, y_ = (x7_2.set (x9_1 : Int).toNat (x8_1.length : Int)) := ⟨_, rfl⟩; replace H : (if x8_1.length < 17592186044416 then (spec_l01Finer.l0 kj14 l1 (l1.length : Int) y153 (x8_1 ++ [x9_1]) (wrap64 (x9_1 + 1)) x1000_2 x1001_2 s0_2 s0_3) else (none)) = some (r1, r2, r3, r4) := tY hy153 H; have Ny153 := am hy153; clear hy153; by_cases c47 : x8_1.length < 17592186044416
                ·rw [if_pos c47] at H; have LMc47 := am c47; clear c47; obtain ⟨y154, hy154⟩ : ∃ y_ : List Int, y_ = (x8_1 ++ [x9_1]) := ⟨_, rfl⟩; replace H : (spec_l01Finer.l0 kj14 l1 (l1.length : Int) y153 y154 (wrap64 (x9_1 + 1)) x1000_2 x1001_2 s0_2 s0_3) = some (r1, r2, r3, r4) := tY hy154 H; have Ny154 := am hy154; clear hy154; have H' := am H; clear H; have p152 : 0 ≤ (x9_1 : Int) := oA; have q152 : x9_1 < (x7_2.length : Int) := oA; obtain ⟨ad152, e152, hx152_0⟩ := Kd.at_int (Kd.R_reads' HO_7.out).2.2 x9_1 p152 q152; obtain rfl : (⟨go12, 0, none⟩ : Addr) = ad152 := (by injection e152)
                 (first | simp only [add_plain] at hx152_0 | simp only [add_at] at hx152_0 | simp only [Addr.add, Nat.zero_add] at hx152_0 | skip)
                 replace p152 := eq_true p152; replace q152 := eq_true q152; obtain ⟨Ao48, co48, eo48⟩ := Kd.R_slice HO_8.out; subst eo48; have p46 : 0 ≤ (x9_1 : Int) := oA; have q46 : (x9_1 : Int) < ((x7_2.length : Int) : Int) := oA; obtain ⟨hx46_0, hf46_0⟩ := Kd.R_celln 0 HO_7.out (x9_1 : Int) p46 q46; replace p46 := eq_true p46; replace q46 := eq_true q46; have HP49 := Kd.R_putg HO_7.out (x9_1 : Int) (x8_1.length : Int)
                 go_wp2_with (first | ((with_reducible refine gate_store (t := 2) (p := 72) rfl ?_); refine store_event (t := 2) (p := 72) (v := ?vo_w50) (w1 := (wc.setCell ⟨go12, (x9_1 : Int).toNat, none⟩ (.int .i64 (x8_1.length : Int)))) ?hg ?ho ?hn ?hr ?_; (case ho => rfl); (case hg => rfl); (case hn => rfl); (case hr => first | (go_simp; done) | (go_simp; rfl)); intro w50 hw; have hg : wc.grownBy w50 (some go12) := (by rw [hw]; exact HP49.2); have hp_ : Kd.R (Kd.int .i64) 2 w50 w.heap.size (fun k_ => some k_ ≠ (.slice Ao48 x8_1.length co48 : Value).ownBlock) (.slice (some ⟨go12, 0, none⟩) x7_2.length co12) y153 := (by rw [hw, Ny153.out]; exact HP49.1); clear HP49; replace HO_8 := am (Kd.R_after (v := (.slice (some ⟨go12, 0, none⟩) x7_2.length co12)) (v1 := (.slice (some ⟨go12, 0, none⟩) x7_2.length co12)) (ok := (fun _ => True)) (by refine tR ?_; exact Kd.R_mono HO_8.out (fun _ hk => ⟨trivial, hk⟩)) hg (.inl rfl)); replace HI0 := am (IsS29.grown (tI) hg (IsS29.own_ne HI0.out HO_7.out (by decide))); replace HB := am ((by rw [hw]; exact below_set (HB.out) (Nat.le_trans HL.out GB12.out) : Below w0.heap.size w0 w50)); replace HK := am (KeepBut.trans (tK) (KeepBut.of_grown hg g) (Kd.R_base2 HO_7.out)); replace HO_7 := am (hp_); clear hg hw hp_) | ((with_reducible refine gate_builtin (b := .append) (xs := #[.tmp 73, .tmp 75]) rfl ?_); at_builtin; refine Kd.R_append (Kd.int .i64) w.heap.size rfl (.tmp 73) (.tmp 75) 42 2 (.int .i64 0) 8 rfl Tryd.underlying42 info2 rfl (by decide) (by omega) (.slice Ao48 x8_1.length co48) x8_1 x9_1 [.int .i64 x9_1] (fun k_ => some k_ ≠ (.slice (some ⟨go12, 0, none⟩) x7_2.length co12 : Value).ownBlock) (fun _ => False) rfl rfl ?aP (fun _ hk => hk.elim) ?aF ?aO (Below.refl _ _) ?aS ?aL ?_; (case aP => exact rfl); (case aF => exact (fun k_ hk => Kd.fresh' (Kd.R_lt (tR HO_7.out)) k_ hk)); (case aO => exact (by refine tR ?_; exact Kd.R_mono HO_8.out (fun _ hk => hk.2))); (case aS => exact (keep_size (w := w) (g := g) (row := none) (tK))); (case aL => have := LMc47.out; omega); intro v155 w51 ho hb hg hat; rw [← Ny154.out] at ho; replace HO_7 := am (Kd.R_after (ok := (fun _ => True)) (by refine tR ?_; exact Kd.R_mono HO_7.out (fun _ hk => ⟨trivial, hk⟩)) hg hat); replace HI0 := am (IsS29.grown (tI) hg (IsS29.own_ne HI0.out HO_8.out (by decide))); replace HB := am (below_weaken (tB) HL.out hb); replace HK := am (KeepBut.trans (tK) (KeepBut.of_grown hg g) (Kd.R_base2 HO_8.out)); have HO156 := am (ho); clear HO_8; clear ho hb hg hat))
                 (try simp only [← hl7_2])
                 go_roundg kj14
                 case measure => have := HK1.out; have := HK2.out; have := HJ14.out; omega
                 case rel => exact ⟨(y153), (y154), (wrap64 (x9_1 + 1)), (x1000_2), (x1001_2), (tF), H', ⟨by have := HK1.out; have := HK2.out; have := HJ14.out; omega⟩, ⟨by (try simp only [hl7_2]); refine tR ?_; exact Kd.R_mono HO_7.out (fun _ hk => hk.2)⟩, ⟨by (try simp only [hl7_2]); refine tR ?_; exact HO156.out⟩, ⟨tI⟩, ⟨tK⟩, ⟨tB⟩⟩
                ·rw [if_neg c47] at H; exact absurd H (by simp)
               ·rw [if_neg c45] at H; have c45b0 := decide_eq_false c45; clear c45; have H' := am H; clear H; have p152 : 0 ≤ (x9_1 : Int) := oA; have q152 : x9_1 < (x7_2.length : Int) := oA; obtain ⟨ad152, e152, hx152_0⟩ := Kd.at_int (Kd.R_reads' HO_7.out).2.2 x9_1 p152 q152; obtain rfl : (⟨go12, 0, none⟩ : Addr) = ad152 := (by injection e152)
                (first | simp only [add_plain] at hx152_0 | simp only [add_at] at hx152_0 | simp only [Addr.add, Nat.zero_add] at hx152_0 | skip)
                replace p152 := eq_true p152; replace q152 := eq_true q152; go_wp2
                (try simp only [← hl7_2])
                go_roundg kj14
                case measure => have := HK1.out; have := HK2.out; have := HJ14.out; omega
                case rel => exact ⟨(x7_2), (x8_1), (wrap64 (x9_1 + 1)), (x1000_2), (x1001_2), (tF), H', ⟨by have := HK1.out; have := HK2.out; have := HJ14.out; omega⟩, ⟨by (try simp only [hl7_2]); refine tR ?_; exact HO_7.out⟩, ⟨by (try simp only [hl7_2]); refine tR ?_; exact HO_8.out⟩, ⟨tI⟩, ⟨tK⟩, ⟨tB⟩⟩
              ·rw [if_neg c44] at H; exact absurd H (by simp)
             ·rw [if_neg c43] at H; exact absurd H (by simp)
       ·rw [if_neg c11] at H; exact absurd H (by simp)
      ·rw [if_neg c10] at H; exact absurd H (by simp)
     ·rw [if_neg c9] at H; have c9b0 := decide_eq_false c9; clear c9; simp only [Option.some.injEq, Prod.mk.injEq] at H; obtain ⟨rfl, rfl, rfl, rfl⟩ := H; obtain ⟨Ao52, co52, eo52⟩ := Kd.R_slice HO_8.out; subst eo52; go_wp2; go_ret2; exact ⟨_, tE, by refine tR ?_; exact Kd.R_mono HO_7.out (fun _ hk => trivial), tI, tB, tK⟩
  ·rw [if_neg c4] at H; exact absurd H (by simp)
 ·rw [if_neg c3] at H; exact absurd H (by simp)
section
variable {K : Type} [DecidableEq K] {good : K → Prop}
theorem idsD_hasG {lit : K → Lit} (hi : ∀ a b, good a → good b → lit a = lit b → a = b) (hk : ∀ a, WideAt.IsKeyLit (lit a)) (k : K) (gk : good k) : ∀ l : List K, (∀ x ∈ l, good x) → Maps.has (idsD lit l) (lit k) = decide (k ∈ l) := by
 apply snoc_ind
 ·simp [idsD, Maps.has]
 ·intro l k' ih hg; rw [idsD_snoc]; by_cases e : k = k'
  ·subst e; rw [Maps.has_put_same (idsD_isMap lit l) (hk k)]; simp
  ·rw [Maps.has_put_other (fun h => e (hi _ _ gk (hg k' (by simp)) h)), ih (fun x hx => hg x (by simp [hx]))]; simp [e]
theorem idsD_atG {lit : K → Lit} (hi : ∀ a b, good a → good b → lit a = lit b → a = b) (hk : ∀ a, WideAt.IsKeyLit (lit a)) (k : K) (gk : good k) (z : DataW Unit) : ∀ l : List K, (∀ x ∈ l, good x) → k ∈ l → l.Nodup → (idsD lit l).atKey (lit k) z = .lit (.int .i64 (l.idxOf k : Int)) := by
 apply snoc_ind
 ·intro _ h; cases h
 ·intro l k' ih hg hm hn; rw [idsD_snoc]; have hn' := List.nodup_append.1 hn; by_cases e : k = k'
  ·subst e; rw [Maps.atKey_put_same (idsD_isMap lit l) (hk k)]; have hni : k ∉ l := fun h => hn'.2.2 k h k (by simp) rfl; simp [List.idxOf_append, hni]
  ·rw [Maps.atKey_put_other (fun h => e (hi _ _ gk (hg k' (by simp)) h))]; (have hm' : k ∈ l := by simpa [e] using hm); rw [ih (fun x hx => hg x (by simp [hx])) hm' hn'.1]; simp [List.idxOf_append, hm']
variable {P : Program} (w : World) {ops : Array Oper} {rest : List Oper} {o : Oper} {a : Act} {Q : Exit → Act → World → Prop}
theorem ids_lookG {lit : K → Lit} (hi : ∀ a b, good a → good b → lit a = lit b → a = b) (hk : ∀ a, WideAt.IsKeyLit (lit a)) {t k e : TypeId} {b n : Nat} {l : List K} (hgl : ∀ x ∈ l, good x) (hown : w.ownsMap P k (plainElem P e) b n (idsD lit l)) (KK : Maps.Keyed P k) (ht : P.underlying t = some (.map k e)) (he : P.underlying e = some (.int .i64))
  (hz : (zeroValue e).run P w = .ok (.int .i64 0) w) (hn : l.Nodup) {key : Value} {x : K} (gx : good x) (hkey : keyOf P k key = some (lit x)) :
  (Instr.lookup t (.map (some b)) key true).run P w = .ok (.tuple #[.int .i64 (if x ∈ l then (l.idxOf x : Int) else 0), .bool (decide (x ∈ l))]) w := by
 obtain ⟨v, ps, hrun, hv⟩ := hown.look_ok KK ht hz (plainElem_int he (by decide)) hkey; rw [hrun, idsD_hasG hi hk x gx l hgl]; obtain ⟨c, rfl, hc, _⟩ := plainElem_int_inv he hv; by_cases hx : x ∈ l
 ·rw [idsD_atG hi hk x gx _ l hgl hx hn] at hc; simp only [Prod.mk.injEq, DataW.lit.injEq, Lit.int.injEq, true_and] at hc; rw [if_pos hx, hc.1]
 ·(have h0 : Maps.has (idsD lit l) (lit x) = false := by rw [idsD_hasG hi hk x gx l hgl]; simp [hx]); rw [Maps.atKey_of_not_has h0] at hc; simp only [Prod.mk.injEq, DataW.lit.injEq, Lit.int.injEq, true_and] at hc; rw [if_neg hx, hc.1]
theorem wpList_ids_lookG {lit : K → Lit} (hg : o.guard = none) (m x : Operand) (t : TypeId) (hop : o.op = Op.lookup t m x true) (hi : ∀ a b, good a → good b → lit a = lit b → a = b) (hk : ∀ a, WideAt.IsKeyLit (lit a)) {k e : TypeId} {b n : Nat} {l : List K} (hgl : ∀ x ∈ l, good x) (KK : Maps.Keyed P k) (ht : P.underlying t = some (.map k e)) (he : P.underlying e = some (.int .i64))
  (hz : (zeroValue e).run P w = .ok (.int .i64 0) w) (hm : a.eval m = .map (some b)) (hown : w.ownsMap P k (plainElem P e) b n (idsD lit l)) (hn : l.Nodup) (key : Value) (y : K) (gy : good y) (hx : a.eval x = key) (hkey : keyOf P k key = some (lit y)) (c : Int) (bb : Bool) (hc : (if y ∈ l then (l.idxOf y : Int) else 0) = c) (hbb : decide (y ∈ l) = bb)
  (hK : wpList P ops Q rest (a.put o.dst (.tuple #[.int .i64 c, .bool bb])) w) : wpList P ops Q (o :: rest) a w := by
 refine wpList_plain hg fun K' hK' => ?_; have hrun := ids_lookG w hi hk hgl hown KK ht he hz hn gy hkey; rw [hc, hbb] at hrun; unfold Oper.wp; simp [execOp, hop, hm, hx, hrun, Result.andThen]; exact hK' _ _ hK
end
section
variable {K : Type} [DecidableEq K] {good : K → Prop} {P : Program} (w : World) {ops : Array Oper} {rest : List Oper} {o : Oper} {a : Act} {Q : Exit → Act → World → Prop}
theorem wpList_ids_in {lit : K → Lit} (hg : o.guard = none) (m x : Operand) (t : TypeId) (hop : o.op = Op.lookup t m x true) (hi : ∀ a b, good a → good b → lit a = lit b → a = b) (hk : ∀ a, WideAt.IsKeyLit (lit a)) {k e : TypeId} {b n : Nat} {l : List K} (hgl : ∀ x ∈ l, good x) (KK : Maps.Keyed P k) (ht : P.underlying t = some (.map k e)) (he : P.underlying e = some (.int .i64))
  (hz : (zeroValue e).run P w = .ok (.int .i64 0) w) (hm : a.eval m = .map (some b)) (hown : w.ownsMap P k (plainElem P e) b n (idsD lit l)) (hn : l.Nodup) (key : Value) (y : K) (gy : good y) (hx : a.eval x = key) (hkey : keyOf P k key = some (lit y)) (hy : y ∈ l)
  (hK : wpList P ops Q rest (a.put o.dst (.tuple #[.int .i64 (l.idxOf y : Int), .bool true])) w) : wpList P ops Q (o :: rest) a w :=
 wpList_ids_lookG w hg m x t hop hi hk hgl KK ht he hz hm hown hn key y gy hx hkey _ true (if_pos hy) (decide_eq_true hy) hK
theorem wpList_ids_out {lit : K → Lit} (hg : o.guard = none) (m x : Operand) (t : TypeId) (hop : o.op = Op.lookup t m x true) (hi : ∀ a b, good a → good b → lit a = lit b → a = b) (hk : ∀ a, WideAt.IsKeyLit (lit a)) {k e : TypeId} {b n : Nat} {l : List K} (hgl : ∀ x ∈ l, good x) (KK : Maps.Keyed P k) (ht : P.underlying t = some (.map k e)) (he : P.underlying e = some (.int .i64))
  (hz : (zeroValue e).run P w = .ok (.int .i64 0) w) (hm : a.eval m = .map (some b)) (hown : w.ownsMap P k (plainElem P e) b n (idsD lit l)) (hn : l.Nodup) (key : Value) (y : K) (gy : good y) (hx : a.eval x = key) (hkey : keyOf P k key = some (lit y)) (hy : y ∉ l)
  (hK : wpList P ops Q rest (a.put o.dst (.tuple #[.int .i64 0, .bool false])) w) : wpList P ops Q (o :: rest) a w :=
 wpList_ids_lookG w hg m x t hop hi hk hgl KK ht he hz hm hown hn key y gy hx hkey _ false (if_neg hy) (decide_eq_false hy) hK
end
theorem laidOutG : laidOutB Tryd.prog = true := by kernel_rfl
theorem types_pos : ∃ m, Tryd.prog.types.size = m + 1 := ⟨Tryd.prog.types.size - 1, by
 (have h : decide (0 < Tryd.prog.types.size) = true := by kernel_rfl); have := of_decide_eq_true h
 omega⟩
def litP (x : Int × Int) : Lit := .string (keyBytes [.int .i64 x.1, .int .i64 x.2])
def good2 (x : Int × Int) : Bool := inI64 x.1 && inI64 x.2
theorem good2_wf {x : Int × Int} (h : good2 x = true) : (Lit.int .i64 x.1).wf = true ∧ (Lit.int .i64 x.2).wf = true := by
 simp only [good2, Bool.and_eq_true] at h; exact ⟨inI64_wf h.1, inI64_wf h.2⟩
theorem keyOf_place {x : Int × Int} (h : good2 x = true) : keyOf Tryd.prog 128 (.agg #[.int .i64 x.1, .int .i64 x.2]) = some (litP x) := by
 obtain ⟨wa, wb⟩ := good2_wf h; have hu := Tryd.underlying128; have he := Tryd.underlying3; (have hkt : Tryd.prog.keyType 128 = true := by kernel_rfl); (have hc : Tryd.prog.cellsOf 128 = 2 := by kernel_rfl); (have hc1 : Tryd.prog.cellsOf 3 = 1 := by kernel_rfl); obtain ⟨m, hm⟩ := types_pos; unfold keyOf; simp only [hu]; rw [if_pos (by simp [hkt, Value.formed, hu, hc]), hm]; unfold Program.keyLits; simp only [hu, Value.cells]; rw [if_pos (by rw [hc]; exact ⟨rfl, by kernel_rfl⟩)]; simp [hc1, Program.keyLits, he, wa, wb, litP]
theorem place_keyed : Maps.Keyed Tryd.prog 128 :=
 Maps.Keyed.of_law (deep_law_laid laidOutG (m := 3) (by omega) (of_decide_eq_true (by kernel_rfl)) (by kernel_rfl) (by rw [Tryd.underlying128]))
theorem litP_inj {x y : Int × Int} (hx : good2 x = true) (hy : good2 y = true) (h : litP x = litP y) : x = y := by
 have hv := place_keyed.inj (keyOf_place hx) (h ▸ keyOf_place hy); injection hv with hv; simp at hv; exact Prod.ext hv.1 hv.2
def itoaM_ren : Go.Shelf.Ren := ⟨fun | 171 => 145 | 243 => 148 | 246 => 149 | 283 => 150 | 284 => 151 | 285 => 152 | 286 => 153 | 129 => 155 | 317 => 154 | 318 => 156 | 319 => 157 | 320 => 158 | 337 => 159 | 338 => 160 | n => n, fun | 3 => 3 | 9 => 9 | 2 => 2 | 4 => 4 | 171 => 139 | 0 => 0 | 53 => 140 | 37 => 123 | 5 => 5 | 173 => 143 | 212 => 146 | 51 => 147 | 20 => 20 | 213 => 148 | 46 => 124 | 232 => 151 | 233 => 152 | n => n, fun | 17 => 0 | 18 => 1 | 19 => 2 | n => n⟩
theorem itoaM : Go.Proofs.LaysM.n171 Tryd.prog itoaM_ren := {
 mixed := by kernel_rfl
 f129 := Tryd.func155.trans (congrArg some (by kernel_rfl))
 f171 := Tryd.func145.trans (congrArg some (by kernel_rfl))
 f243 := Tryd.func148.trans (congrArg some (by kernel_rfl))
 f246 := Tryd.func149.trans (congrArg some (by kernel_rfl))
 f283 := Tryd.func150.trans (congrArg some (by kernel_rfl))
 f284 := Tryd.func151.trans (congrArg some (by kernel_rfl))
 f285 := Tryd.func152.trans (congrArg some (by kernel_rfl))
 f286 := Tryd.func153.trans (congrArg some (by kernel_rfl))
 f317 := Tryd.func154.trans (congrArg some (by kernel_rfl))
 f318 := Tryd.func156.trans (congrArg some (by kernel_rfl))
 f319 := Tryd.func157.trans (congrArg some (by kernel_rfl))
 f320 := Tryd.func158.trans (congrArg some (by kernel_rfl))
 f337 := Tryd.func159.trans (congrArg some (by kernel_rfl))
 f338 := Tryd.func160.trans (congrArg some (by kernel_rfl))
 t0 := Tryd.underlying0
 a0 := Tryd.isAgg0
 z0 := Tryd.sizeOf0
 v0 := Tryd.zeroValue0
 t2 := Tryd.underlying2
 a2 := Tryd.isAgg2
 z2 := Tryd.sizeOf2
 v2 := Tryd.zeroValue2
 t3 := Tryd.underlying3
 a3 := Tryd.isAgg3
 z3 := Tryd.sizeOf3
 v3 := Tryd.zeroValue3
 t4 := Tryd.underlying4
 a4 := Tryd.isAgg4
 z4 := Tryd.sizeOf4
 v4 := Tryd.zeroValue4
 t5 := Tryd.underlying5
 a5 := Tryd.isAgg5
 z5 := Tryd.sizeOf5
 v5 := Tryd.zeroValue5
 t9 := Tryd.underlying9
 a9 := Tryd.isAgg9
 z9 := Tryd.sizeOf9
 v9 := Tryd.zeroValue9
 t20 := Tryd.underlying20
 a20 := Tryd.isAgg20
 z20 := Tryd.sizeOf20
 v20 := Tryd.zeroValue20
 t37 := Tryd.underlying123
 a37 := Tryd.isAgg123
 z37 := Tryd.sizeOf123
 v37 := Tryd.zeroValue123
 t46 := Tryd.underlying124
 a46 := Tryd.isAgg124
 z46 := Tryd.sizeOf124
 v46 := Tryd.zeroValue124
 t51 := Tryd.underlying147
 a51 := Tryd.isAgg147
 z51 := Tryd.sizeOf147
 v51 := Tryd.zeroValue147
 t53 := Tryd.underlying140
 a53 := Tryd.isAgg140
 z53 := Tryd.sizeOf140
 v53 := Tryd.zeroValue140
 t171 := Tryd.underlying139
 a171 := Tryd.isAgg139
 z171 := Tryd.sizeOf139
 v171 := Tryd.zeroValue139
 t173 := Tryd.underlying143
 a173 := Tryd.isAgg143
 z173 := Tryd.sizeOf143
 v173 := Tryd.zeroValue143
 t212 := Tryd.underlying146
 a212 := Tryd.isAgg146
 z212 := Tryd.sizeOf146
 v212 := Tryd.zeroValue146
 t213 := Tryd.underlying148
 a213 := Tryd.isAgg148
 z213 := Tryd.sizeOf148
 t232 := Tryd.underlying151
 a232 := Tryd.isAgg151
 z232 := Tryd.sizeOf151
 v232 := Tryd.zeroValue151
 t233 := Tryd.underlying152
 a233 := Tryd.isAgg152
 z233 := Tryd.sizeOf152
 v233 := Tryd.zeroValue152
 g17 := by kernel_rfl
 g18 := by kernel_rfl
 g19 := by kernel_rfl
 i0 := by kernel_rfl
 i2 := by kernel_rfl
 i3 := by kernel_rfl
 i4 := by kernel_rfl
 i5 := by kernel_rfl
 i9 := by kernel_rfl
 i20 := by kernel_rfl
 i37 := by kernel_rfl
 i46 := by kernel_rfl
 i51 := by kernel_rfl
 i53 := by kernel_rfl
 i171 := by kernel_rfl
 i173 := by kernel_rfl
 i212 := by kernel_rfl
 i232 := by kernel_rfl
 i233 := by kernel_rfl
 m17 := by kernel_rfl
 m18 := by kernel_rfl
 m19 := by kernel_rfl }
open Go.RowKit Go.Sort Go.Lib in
theorem itoa_calls (n : Int) (h0 : -9223372036854775808 ≤ n) (h1 : n ≤ 9223372036854775807) (w : World) (htab : Lib.TabIs Tryd.prog w "internal/strconv.uint64pow10" .u64 Lib.pow10Tab) :
  Calls Tryd.prog 145 #[.int .i64 n] w fun e w' => e = .returned (.string ⟨(Lib.itoa n).toArray⟩) ∧ ∃ k os, w' = grow (w.drewN k) os := Any.strconv_Itoa itoaM n h0 h1 w htab
open Go.Sort in
theorem below_grown (w : World) (n : Nat) (os : Array Obj) : Below w.heap.size w (grow (w.drewN n) os) := by
 refine Below.trans (pw_below_drewN (Below.refl _ w) n) ?_; exact ⟨rfl, rfl, rfl, by simp [grow], fun k hk => by simp [grow, Array.getElem?_append, show k < w.heap.size from hk]⟩
/-- The table of the digits' number, as every later world of the call has it. -/
def TabOK (w : World) : Prop := Lib.TabBelow Tryd.prog w.heap.size w "internal/strconv.uint64pow10" .u64 Lib.pow10Tab
theorem itoa_on {w : World} (h : TabOK w) (n : Int) (h0 : -9223372036854775808 ≤ n) (h1 : n ≤ 9223372036854775807) {W : World} (hb : Below w.heap.size w W) :
  Calls Tryd.prog 145 #[.int .i64 n] W fun e w' => e = .returned (.string ⟨(Lib.itoa n).toArray⟩) ∧ Below W.heap.size W w' := by
 refine (itoa_calls n h0 h1 W (h W hb)).mono ?_; rintro e w' ⟨rfl, k, os, rfl⟩; exact ⟨rfl, below_grown W k os⟩
/-- The key's text, from a row's states on. -/
def keyL (group : List Int) : List Int → List UInt8 → Option (List UInt8)
 | [], key => some key
 | q :: r, key => (at1 0 group q).bind fun g => keyL group r (key ++ (44 :: Lib.itoa g))
/-- Where a key stands. -/
def idxG {κ : Type} [DecidableEq κ] (l : List κ) (k : κ) : Int := (l.idxOf k : Int)
/-- One round: the keys met so far (a class a key), the next classes. -/
def roundM (group : List Int) : List (List Int) → Nat → List (List UInt8) → List Int → Option (List (List UInt8) × List Int)
 | [], _, keys, next => some (keys, next)
 | row :: rs, i, keys, next => (at1 0 group (i : Int)).bind fun g => (keyL group row (Lib.itoa g)).bind fun key =>
   if key ∈ keys then roundM group rs (i + 1) keys (next.set i (idxG keys key)) else roundM group rs (i + 1) (keys ++ [key]) (next.set i (keys.length : Int))
def mergeL (ns : List (List Int)) : Nat → Nat → List Int → Option (List Int)
 | 0, _, _ => none
 | f + 1, count, group => (roundM group ns 0 [] (List.replicate group.length 0)).bind fun p => if p.1.length = count then some p.2 else mergeL ns f p.1.length p.2
/-- A state of each class (the last one). -/
def oneL : List Int → Nat → List Int → Option (List Int)
 | [], _, one => some one
 | g :: r, i, one => if 0 ≤ g ∧ g < (one.length : Int) then oneL r (i + 1) (one.set g.toNat (i : Int)) else none
def bitL (ac : List Bool) : List Int := ac.map fun b => if b then 1 else 0
def mergedF (W f : Nat) (start : Int) (ac : List Bool) (ns : List (List Int)) : Option (List Bool × List (List Int)) :=
 (mergeL ns f 0 (bitL ac)).bind fun group => (oneL group 0 (List.replicate group.length 0)).bind fun one => (at1 0 group start).bind fun gs =>
  if inI64 gs = true then growL inI64 (accM one ac) (nextM group one ns) W f [gs] [] [] else none
end Go.Proofs.YtocfcpicleomcaaDoor.X
