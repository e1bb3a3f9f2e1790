import Derived.Test.YtelicdmaohllgaaDoorProg
import Derived.Below
import Derived.Deep.Draws
import Derived.Deep.AppendLies
import Derived.Maps.AppendAt
import Derived.OwnWalk
import Derived.Laws.BytesArg
import Derived.Laws.MakeOwn
import Derived.Laws.OwnMore
import Derived.Deep.OwnRows
import Derived.Tactics
import Derived.Lib.ConvBytes
import Derived.Laws.Slices
import Derived.WalkKit
import Derived.KernelRfl
import Derived.RowKit3
import Derived.Deep.LoopGhost
import Derived.Deep.QuietTactic
import Derived.BigQuiet
import Derived.WideLaws
import Derived.Deep.DeepCutAuto
import Derived.Deep.CutBlock
import Derived.Deep.RegionHeld3
import Derived.Laws.Rows
import Derived.Lib.AppendStr
import Derived.ArgAppend
import Derived.Laws.IdiomCopy
import Derived.OrdersHeld
import Derived.Laws.BitsLemmas
import Derived.RowKit
import Derived.Test.YtelicdmaohllgaaDoorCO0
import Derived.Shelf.Lays
import Derived.Shelf.Strings.SlTrimAscii
namespace Go.Proofs.YtelicdmaohllgaaDoor.X
set_option maxHeartbeats 16000000
set_option maxRecDepth 100000
open Go.RowKit Go.Proofs.YtelicdmaohllgaaDoorW.PrintWords Go.Proofs.YtelicdmaohllgaaDoorW.PrintLast Go.Proofs.YtelicdmaohllgaaDoorW.PrintMore
attribute [local go_sem] max2_int min2_int max_two min_two max_three min_three max_four min_four
set_option linter.unusedVariables false
set_option linter.unusedSimpArgs false
def errW : Option Int → Value
 | none => .nilIface
 | some c => .iface 240 (.int .i64 c)
theorem errW_none : errW none = .nilIface := rfl
theorem errW_some (c : Int) : errW (some c) = .iface 240 (.int .i64 c) := rfl
theorem info2 : (Tryd.prog.info? 2).map (fun i => (i.zero, i.size, i.bytes)) = some (some (.int .i64 0), 1, 8) := by kernel_rfl
theorem info3 : (Tryd.prog.info? 3).map (fun i => (i.zero, i.size, i.bytes)) = some (some (.int .i64 0), 1, 8) := by kernel_rfl
theorem info9 : (Tryd.prog.info? 9).map (fun i => (i.zero, i.size, i.bytes)) = some (some (.string ⟨#[]⟩), 1, 16) := by kernel_rfl
section
theorem am {p : Prop} (h : p) : Aside0 p := ⟨h⟩
theorem tB {n : Nat} {W W' : World} (h : Below n W W' := by repeat (first | (with_reducible first | exact HB.out | apply below_alloc | apply pw_below_drewN | apply below_drew1 | refine below_set ?_ (Aside0.out (by assumption)) | refine below_set ?_ (IsS HI0.out)) | exact HB.out)) : Below n W W' := h
theorem tKp {w W : World} {S : Nat → Prop} (h : Kept w W S := by repeat (first | (with_reducible first | exact HK.out | apply Kept.alloc | apply Kept.drewN | apply Kept.drew) | exact HK.out)) : Kept w W S := h
theorem tR {p q : Prop} (h : p) (k : p → q := by intro h_; (with_reducible repeat (first | apply Kd.R_alloc | apply Kd.R_drewN | apply Kd.R_drew)); exact h_) : q := k h
theorem oA {p : Prop} {i : Decidable p} (h : decide p = true := by first | (with_reducible assumption) | assumption) : p := of_decide_eq_true h
theorem tF {p : Prop} (h : p := by first | rfl | (simp; done) | (simp [*]; done)) : p := h
theorem tE {p : Prop} (h : p := by first | rfl | (simp [errW_none, errW_some] <;> rfl) | (simp [*, errW_none, errW_some] <;> rfl)) : p := h
theorem tD {p : Prop} (h : p := by repeat (first | exact Drawn0.refl _ | apply Drawn0.step)) : p := h
theorem tY {α : Type} {y z : α} {p q : Prop} (hy : y = z) (H : p) (k : y = z → p → q := by intro hy_ H_; first | (rw [hy_]; with_reducible exact H_) | (have H2_ := (Option.bind_some _ _).symm.trans H_; rw [hy_]; with_reducible exact H2_) | (have H2_ := (Option.bind_some _ _).symm.trans H_; with_reducible exact H2_) | with_reducible exact H_ | (rw [hy_]; exact H_) | exact H_) : q := k hy H
end
section
variable {P : Program} {md : Region.Mode} {ops : Array Oper} {Q : Exit → Act → World → Prop} {S : World → Prop} {ds : List Nat}
end
section
variable {P : Program} {ops : Array Oper} {rest : List Oper} {o : Oper} {a : Act} {w : World} {Q : Exit → Act → World → Prop}
theorem goesLA (N : Option Tmp) {f : FuncId} {fn : Func} {as_ : Array Operand} {ts : Array TypeId} (hf : P.funcs[f]? = some fn) (args : Array Value) (hd : o.dst = N) (hg : o.guard = none) (hop : o.op = .call { callee := .value (.func f), args := as_, argTypes := ts }) (hname : (fn.name == "runtime.NumGoroutine") = false := by kernel_rfl) (hb : fn.body.isSome = true := by rfl)
  (hargs : as_.map a.eval = args := by (try simp only [List.map_toArray, List.map_cons, List.map_nil]); first | done | rfl | (simp only [List.length_drop, List.length_take]; rfl))
  (h : Calls P f args w fun e w' => ∃ v, e = .returned v ∧ wpList P ops Q rest (a.put N v) w') : wpList P ops Q (o :: rest) a w := goesL_ N hd hg hf hname hb args hop hargs h
end
def laws_szStringS.l0 : Nat → List ByteArray → Int → Int → Option (Int)
 | 0, _, _, _ => none
 | k + 1, x0, x1, x5 => if x5 < (x0.length : Int) then (if 0 ≤ x5 then (if (wrap64 (x1 - ((rdOf ByteArray.empty x0 x5).size : Int))) < 0 then (some (-1)) else (laws_szStringS.l0 k x0 (wrap64 (x1 - ((rdOf ByteArray.empty x0 x5).size : Int))) (wrap64 (x5 + 1)))) else (none)) else (some x1)
def laws_szStringS.f (k : Nat) (l0 : List ByteArray) (a1 : Int) : Option (Int) := if (wrap64 (a1 - (l0.length : Int))) < 0 then (some (-1)) else (laws_szStringS.l0 k l0 (wrap64 (a1 - (l0.length : Int))) 0)
theorem laws_szStringS.calls (k : Nat) (A0 : Option Addr) (c0 : Nat) (l0 : List ByteArray) (a1 : Int) (r : Int) (w : World) (hr0 : Kd.C Kd.string w A0 l0.length l0) (hc0 : l0.length ≤ c0) (h : laws_szStringS.f k l0 a1 = some r) :
  Calls Tryd.prog 16 #[.slice A0 l0.length c0, .int .i64 a1] w fun e w' => e = .returned (.int .i64 r) ∧ Drawn0 w w' := by
 have HR0 := am hr0; have HC0 := am hc0; clear hr0 hc0; have H : (if (wrap64 (a1 - (l0.length : Int))) < 0 then (some (-1)) else (laws_szStringS.l0 k l0 (wrap64 (a1 - (l0.length : Int))) 0)) = some r := h; clear h; by_cases c3 : (wrap64 (a1 - (l0.length : Int))) < 0
 ·rw [if_pos c3] at H; have c3b0 := decide_eq_true c3; clear c3; obtain rfl := Option.some.inj H; go_enter Tryd.func16, Tryd.ntmps16; go_wp2; go_ret; exact ⟨tF, tD⟩
 ·rw [if_neg c3] at H; have c3b0 := decide_eq_false c3; clear c3; have H' := am H; clear H; go_enter Tryd.func16, Tryd.ntmps16; go_wp2
  go_loopg [1, 5] k (fun kq v1 v5 w' => ∃ (x1_1 : Int) (x5_1 : Int), v1 = .int .i64 x1_1 ∧ v5 = .int .i64 x5_1 ∧ Aside0 (laws_szStringS.l0 kq l0 x1_1 x5_1 = some r) ∧ Aside0 (kq ≤ k) ∧ Drawn0 w w')
  case atStart => exact ⟨(wrap64 (a1 - (l0.length : Int))), (0), (tF), (tF), H', ⟨Nat.le_refl _⟩, tD⟩
  case round =>
   clear H'
   try clear c1; try clear p2; try clear c3; try clear c3b0
   obtain ⟨x1_1, x5_1, rfl, rfl, HA, HK1, ⟨m1, rfl⟩⟩ := hrel
   cases gk with
   | zero => exact absurd HA.out (by simp [laws_szStringS.l0])
   | succ k1 =>
    have H := HA.out; clear HA; simp only [laws_szStringS.l0] at H; by_cases c4 : x5_1 < (l0.length : Int)
    ·rw [if_pos c4] at H; have c4b0 := decide_eq_true c4; clear c4; by_cases c5 : 0 ≤ x5_1
     ·rw [if_pos c5] at H; have c5b0 := decide_eq_true c5; clear c5; by_cases c6 : (wrap64 (x1_1 - ((rdOf ByteArray.empty l0 x5_1).size : Int))) < 0
      ·rw [if_pos c6] at H; have c6b0 := decide_eq_true c6; clear c6; obtain rfl := Option.some.inj H; have p106 : 0 ≤ (x5_1 : Int) := oA; have q106 : x5_1 < (l0.length : Int) := oA; obtain ⟨ad106, e106, hx106_0⟩ := Kd.at_string HR0.out x5_1 p106 q106; cases e106; replace p106 := eq_true p106; replace q106 := eq_true q106; go_wp2; go_ret; exact ⟨tF, tD⟩
      ·rw [if_neg c6] at H; have c6b0 := decide_eq_false c6; clear c6; have H' := am H; clear H; have p106 : 0 ≤ (x5_1 : Int) := oA; have q106 : x5_1 < (l0.length : Int) := oA; obtain ⟨ad106, e106, hx106_0⟩ := Kd.at_string HR0.out x5_1 p106 q106; cases e106; replace p106 := eq_true p106; replace q106 := eq_true q106; go_wp2; go_roundg k1
       case measure => have := HK1.out; omega
       case rel => exact ⟨(wrap64 (x1_1 - ((rdOf ByteArray.empty l0 x5_1).size : Int))), (wrap64 (x5_1 + 1)), (tF), (tF), H', ⟨by have := HK1.out; omega⟩, tD⟩
     ·rw [if_neg c5] at H; exact absurd H (by simp)
    ·rw [if_neg c4] at H; have c4b0 := decide_eq_false c4; clear c4; obtain rfl := Option.some.inj H; go_wp2; go_ret; exact ⟨tF, tD⟩
def spec_l01Word.l0 : Nat → ByteArray → Int → Option (Bool)
 | 0, _, _ => none
 | k + 1, x0, x3 => if x3 < (x0.size : Int) then (if 0 ≤ x3 then (if (bt x0 x3) = 97 then (spec_l01Word.l0 k x0 (wrap64 (x3 + 1))) else (if (bt x0 x3) = 98 then (spec_l01Word.l0 k x0 (wrap64 (x3 + 1))) else (some false))) else (none)) else (some (decide ((x0.size : Int) ≤ 40)))
def spec_l01Word.f (k : Nat) (a0 : ByteArray) : Option (Bool) := spec_l01Word.l0 k a0 0
theorem spec_l01Word.calls (k : Nat) (a0 : ByteArray) (r : Bool) (w : World) (h : spec_l01Word.f k a0 = some r) :
  Calls Tryd.prog 53 #[.string a0] w fun e w' => e = .returned (.bool r) ∧ Drawn0 w w' := by
 have H : (spec_l01Word.l0 k a0 0) = some r := h; clear h; have H' := am H; clear H; go_enter Tryd.func53, Tryd.ntmps53; go_wp2
 go_loopg [3] k (fun kq v3 w' => ∃ (x3_1 : Int), v3 = .int .i64 x3_1 ∧ Aside0 (spec_l01Word.l0 kq a0 x3_1 = some r) ∧ Aside0 (kq ≤ k) ∧ Drawn0 w w')
 case atStart => exact ⟨(0), (tF), H', ⟨Nat.le_refl _⟩, tD⟩
 case round =>
  clear H'; obtain ⟨x3_1, rfl, HA, HK1, ⟨m1, rfl⟩⟩ := hrel
  cases gk with
  | zero => exact absurd HA.out (by simp [spec_l01Word.l0])
  | succ k1 =>
   have H := HA.out; clear HA; simp only [spec_l01Word.l0] at H; by_cases c2 : x3_1 < (a0.size : Int)
   ·rw [if_pos c2] at H; have c2b0 := decide_eq_true c2; clear c2; by_cases c3 : 0 ≤ x3_1
    ·rw [if_pos c3] at H; have c3b0 := decide_eq_true c3; clear c3; by_cases c5 : (bt a0 x3_1) = 97
     ·rw [if_pos c5] at H; have c5b0 : ((bt a0 x3_1) == 97) = true := beq_iff_eq.mpr c5; have c5b1 : ((bt a0 x3_1) != 97) = false := bne_eq_false_iff_eq.mpr c5; clear c5; have H' := am H; clear H; have p4 : 0 ≤ (x3_1 : Int) := oA; have q4 : x3_1 < (a0.size : Int) := oA; have hx4 := bt_at a0 x3_1; replace p4 := eq_true p4; replace q4 := eq_true q4; go_wp2; go_roundg k1
      case measure => have := HK1.out; omega
      case rel => exact ⟨(wrap64 (x3_1 + 1)), (tF), H', ⟨by have := HK1.out; omega⟩, tD⟩
     ·rw [if_neg c5] at H; have c5b0 : ((bt a0 x3_1) == 97) = false := beq_eq_false_iff_ne.mpr c5; have c5b1 : ((bt a0 x3_1) != 97) = true := bne_iff_ne.mpr c5; by_cases c7 : (bt a0 x3_1) = 98
      ·rw [if_pos c7] at H; have c7b0 : ((bt a0 x3_1) == 98) = true := beq_iff_eq.mpr c7; have c7b1 : ((bt a0 x3_1) != 98) = false := bne_eq_false_iff_eq.mpr c7; clear c7; have H' := am H; clear H; have p4 : 0 ≤ (x3_1 : Int) := oA; have q4 : x3_1 < (a0.size : Int) := oA; have hx4 := bt_at a0 x3_1; replace p4 := eq_true p4; replace q4 := eq_true q4; have p6 : 0 ≤ (x3_1 : Int) := oA; have q6 : x3_1 < (a0.size : Int) := oA; have hx6 := bt_at a0 x3_1; replace p6 := eq_true p6; replace q6 := eq_true q6; go_wp2; go_roundg k1
       case measure => have := HK1.out; omega
       case rel => exact ⟨(wrap64 (x3_1 + 1)), (tF), H', ⟨by have := HK1.out; omega⟩, tD⟩
      ·rw [if_neg c7] at H; have c7b0 : ((bt a0 x3_1) == 98) = false := beq_eq_false_iff_ne.mpr c7; have c7b1 : ((bt a0 x3_1) != 98) = true := bne_iff_ne.mpr c7; obtain rfl := Option.some.inj H; have p4 : 0 ≤ (x3_1 : Int) := oA; have q4 : x3_1 < (a0.size : Int) := oA; have hx4 := bt_at a0 x3_1; replace p4 := eq_true p4; replace q4 := eq_true q4; have p6 : 0 ≤ (x3_1 : Int) := oA; have q6 : x3_1 < (a0.size : Int) := oA; have hx6 := bt_at a0 x3_1; replace p6 := eq_true p6; replace q6 := eq_true q6; go_wp2; go_ret; exact ⟨tF, tD⟩
    ·rw [if_neg c3] at H; exact absurd H (by simp)
   ·rw [if_neg c2] at H; have c2b0 := decide_eq_false c2; clear c2; obtain rfl := Option.some.inj H; go_wp2; go_ret; exact ⟨tF, tD⟩
def spec_l01Words.l0 : Nat → List ByteArray → Int → Option (Bool)
 | 0, _, _ => none
 | k + 1, x0, x3 => if x3 < (x0.length : Int) then (if 0 ≤ x3 then ((spec_l01Word.f k (rdOf ByteArray.empty x0 x3)).bind fun t108 => (if t108 = true then (spec_l01Words.l0 k x0 (wrap64 (x3 + 1))) else (some false))) else (none)) else (some true)
def spec_l01Words.f (k : Nat) (l0 : List ByteArray) : Option (Bool) := spec_l01Words.l0 k l0 0
theorem spec_l01Words.calls (k : Nat) (A0 : Option Addr) (c0 : Nat) (l0 : List ByteArray) (r : Bool) (w : World) (hr0 : Kd.C Kd.string w A0 l0.length l0) (hc0 : l0.length ≤ c0) (h : spec_l01Words.f k l0 = some r) :
  Calls Tryd.prog 55 #[.slice A0 l0.length c0] w fun e w' => e = .returned (.bool r) ∧ Drawn0 w w' := by
 have HR0 := am hr0; have HC0 := am hc0; clear hr0 hc0; have H : (spec_l01Words.l0 k l0 0) = some r := h; clear h; have H' := am H; clear H; go_enter Tryd.func55, Tryd.ntmps55; go_wp2
 go_loopg [3] k (fun kq v3 w' => ∃ (x3_1 : Int), v3 = .int .i64 x3_1 ∧ Aside0 (spec_l01Words.l0 kq l0 x3_1 = some r) ∧ Aside0 (kq ≤ k) ∧ Drawn0 w w')
 case atStart => exact ⟨(0), (tF), H', ⟨Nat.le_refl _⟩, tD⟩
 case round =>
  clear H'; obtain ⟨x3_1, rfl, HA, HK1, ⟨m1, rfl⟩⟩ := hrel
  cases gk with
  | zero => exact absurd HA.out (by simp [spec_l01Words.l0])
  | succ k1 =>
   have H := HA.out; clear HA; simp only [spec_l01Words.l0] at H; by_cases c2 : x3_1 < (l0.length : Int)
   ·rw [if_pos c2] at H; have c2b0 := decide_eq_true c2; clear c2; by_cases c3 : 0 ≤ x3_1
    ·rw [if_pos c3] at H; have c3b0 := decide_eq_true c3; clear c3; replace H := Option.bind_eq_some_iff.mp H; obtain ⟨t108, A40, H⟩ := H; replace H : (if t108 = true then (spec_l01Words.l0 k1 l0 (wrap64 (x3_1 + 1))) else (some false)) = some r := H; have A4 := am A40; clear A40; by_cases c5 : t108 = true
     ·subst c5; (have H1 : (spec_l01Words.l0 k1 l0 (wrap64 (x3_1 + 1))) = some r := by rw [if_pos rfl] at H; exact H); clear H; have H := H1; clear H1; have H' := am H; clear H; have p107 : 0 ≤ (x3_1 : Int) := oA; have q107 : x3_1 < (l0.length : Int) := oA; obtain ⟨ad107, e107, hx107_0⟩ := Kd.at_string HR0.out x3_1 p107 q107; cases e107; replace p107 := eq_true p107; replace q107 := eq_true q107
      go_wp2_with (first | ((with_reducible refine gate_callee (f := 53) rfl ?_); refine goesLA (some 14) Tryd.func53 #[.string (rdOf ByteArray.empty l0 x3_1)] rfl rfl rfl (h := ?_); (with_reducible refine (spec_l01Word.calls k1 (rdOf ByteArray.empty l0 x3_1) true _ A4.out).mono ?_); rintro e w' ⟨rfl, ⟨nd, rfl⟩⟩; refine ⟨_, rfl, ?_⟩))
      go_roundg k1
      case measure => have := HK1.out; omega
      case rel => exact ⟨(wrap64 (x3_1 + 1)), (tF), H', ⟨by have := HK1.out; omega⟩, tD⟩
     ·replace c5 := Bool.eq_false_iff.mpr c5; subst c5; (have H1 : (some false) = some r := by rw [if_neg (show ¬ (false = true) by decide)] at H; exact H); clear H; have H := H1; clear H1; obtain rfl := Option.some.inj H; have p107 : 0 ≤ (x3_1 : Int) := oA; have q107 : x3_1 < (l0.length : Int) := oA; obtain ⟨ad107, e107, hx107_0⟩ := Kd.at_string HR0.out x3_1 p107 q107; cases e107; replace p107 := eq_true p107; replace q107 := eq_true q107
      go_wp2_with (first | ((with_reducible refine gate_callee (f := 53) rfl ?_); refine goesLA (some 14) Tryd.func53 #[.string (rdOf ByteArray.empty l0 x3_1)] rfl rfl rfl (h := ?_); (with_reducible refine (spec_l01Word.calls k1 (rdOf ByteArray.empty l0 x3_1) false _ A4.out).mono ?_); rintro e w' ⟨rfl, ⟨nd, rfl⟩⟩; refine ⟨_, rfl, ?_⟩))
      go_ret; exact ⟨tF, tD⟩
    ·rw [if_neg c3] at H; exact absurd H (by simp)
   ·rw [if_neg c2] at H; have c2b0 := decide_eq_false c2; clear c2; obtain rfl := Option.some.inj H; go_wp2; go_ret; exact ⟨tF, tD⟩
def spec_l00In.f (a0 : Int) (a1 : Int) (a2 : Int) : Option (Bool) := if a0 ≥ a1 then (some (decide (a0 ≤ a2))) else (some false)
theorem spec_l00In.calls (a0 : Int) (a1 : Int) (a2 : Int) (r : Bool) (w : World) (h : spec_l00In.f a0 a1 a2 = some r) :
  Calls Tryd.prog 56 #[.int .i64 a0, .int .i64 a1, .int .i64 a2] w fun e w' => e = .returned (.bool r) ∧ Drawn0 w w' := by
 have H : (if a0 ≥ a1 then (some (decide (a0 ≤ a2))) else (some false)) = some r := h; clear h; by_cases c4 : a0 ≥ a1
 ·rw [if_pos c4] at H; have c4b0 : decide (a1 ≤ a0) = true := decide_eq_true c4; clear c4; obtain rfl := Option.some.inj H; go_enter Tryd.func56, Tryd.ntmps56; go_wp2; go_ret; exact ⟨tF, tD⟩
 ·rw [if_neg c4] at H; have c4b0 : decide (a1 ≤ a0) = false := decide_eq_false c4; clear c4; obtain rfl := Option.some.inj H; go_enter Tryd.func56, Tryd.ntmps56; go_wp2; go_ret; exact ⟨tF, tD⟩
def spec_l01Power.l0 : Nat → Int → Int → Option (Int)
 | 0, _, _ => none
 | k + 1, x0, x3 => if x0 > 0 then (spec_l01Power.l0 k (wrap64 (x0 - 1)) (wrap64 (3 * x3))) else (some x3)
def spec_l01Power.f (k : Nat) (a0 : Int) : Option (Int) := spec_l01Power.l0 k a0 1
theorem spec_l01Power.mono_l : ∀ k, (∀ y0 y1, LeO (spec_l01Power.l0 k y0 y1) (spec_l01Power.l0 (k + 1) y0 y1))
 | 0 => fun _ _ r h => by simp [spec_l01Power.l0] at h
 | k + 1 => by
  have ih0 := spec_l01Power.mono_l k
  ·intro y0 y1; unfold spec_l01Power.l0
   repeat' first
   | (with_reducible exact ih0 _ _)
   | (with_reducible exact LeO.refl _)
   | (with_reducible exact LeO.none _)
   | (with_reducible refine LeO.ite ?_ ?_)
   | (with_reducible refine LeO.bind ?_ (fun _ => ?_))
   | exact ih0 _ _
   | exact LeO.none _
   | refine LeO.ite ?_ ?_
   | refine LeO.bind ?_ (fun _ => ?_)
theorem spec_l01Power.mono : ∀ a0 k, LeO (spec_l01Power.f k a0) (spec_l01Power.f (k + 1) a0) := by
 intro a0 k; have ih0 := spec_l01Power.mono_l k; unfold spec_l01Power.f
 repeat' first
   | (with_reducible exact ih0 _ _)
   | (with_reducible exact LeO.refl _)
   | (with_reducible exact LeO.none _)
   | (with_reducible refine LeO.ite ?_ ?_)
   | (with_reducible refine LeO.bind ?_ (fun _ => ?_))
   | exact ih0 _ _
   | exact LeO.none _
   | refine LeO.ite ?_ ?_
   | refine LeO.bind ?_ (fun _ => ?_)
theorem spec_l01Power.calls (k : Nat) (a0 : Int) (r : Int) (w : World) (h : spec_l01Power.f k a0 = some r) :
  Calls Tryd.prog 114 #[.int .i64 a0] w fun e w' => e = .returned (.int .i64 r) ∧ Drawn0 w w' := by
 have H : (spec_l01Power.l0 k a0 1) = some r := h; clear h; have H' := am H; clear H; go_enter Tryd.func114, Tryd.ntmps114; go_wp2
 go_loopg [0, 3] k (fun kq v0 v3 w' => ∃ (x0_1 : Int) (x3_1 : Int), v0 = .int .i64 x0_1 ∧ v3 = .int .i64 x3_1 ∧ Aside0 (spec_l01Power.l0 kq x0_1 x3_1 = some r) ∧ Aside0 (kq ≤ k) ∧ Drawn0 w w')
 case atStart => exact ⟨(a0), (1), (tF), (tF), H', ⟨Nat.le_refl _⟩, tD⟩
 case round =>
  clear H'
  try clear c1
  obtain ⟨x0_1, x3_1, rfl, rfl, HA, HK1, ⟨m1, rfl⟩⟩ := hrel
  cases gk with
  | zero => exact absurd HA.out (by simp [spec_l01Power.l0])
  | succ k1 =>
   have H := HA.out; clear HA; simp only [spec_l01Power.l0] at H; by_cases c2 : x0_1 > 0
   ·rw [if_pos c2] at H; have c2b0 : decide (0 < x0_1) = true := decide_eq_true c2; clear c2; have H' := am H; clear H; go_wp2; go_roundg k1
    case measure => have := HK1.out; omega
    case rel => exact ⟨(wrap64 (x0_1 - 1)), (wrap64 (3 * x3_1)), (tF), (tF), H', ⟨by have := HK1.out; omega⟩, tD⟩
   ·rw [if_neg c2] at H; have c2b0 : decide (0 < x0_1) = false := decide_eq_false c2; clear c2; obtain rfl := Option.some.inj H; go_wp2; go_ret; exact ⟨tF, tD⟩
mutual
def spec_l01Columns.l0 : Nat → List ByteArray → List Int → Int → Option (List Int)
 | 0, _, _, _ => none
 | k + 1, x0, x3, x4 => spec_l01Columns.l1 k x0 x3 x4 0 false 0
def spec_l01Columns.l1 : Nat → List ByteArray → List Int → Int → Int → Bool → Int → Option (List Int)
 | 0, _, _, _, _, _, _ => none
 | k + 1, x0, x3, x4, x5, x6, x7 => if x7 < (x0.length : Int) then (if 0 ≤ x7 then (if x4 < ((rdOf ByteArray.empty x0 x7).size : Int) then (if 0 ≤ x4 then ((spec_l01Power.f k x7).bind fun t114 => (spec_l01Columns.l1 k x0 x3 x4 (wrap64 (x5 + (wrap64 ((((bt (rdOf ByteArray.empty x0 x7) x4) - 97) % 256) * t114)))) true (wrap64 (x7 + 1)))) else (none)) else ((spec_l01Power.f k x7).bind fun t115 => (spec_l01Columns.l1 k x0 x3 x4 (wrap64 (x5 + (wrap64 (2 * t115)))) x6 (wrap64 (x7 + 1))))) else (none)) else (if x6 = true then (if x3.length < 17592186044416 then (spec_l01Columns.l0 k x0 (x3 ++ [x5]) (wrap64 (x4 + 1))) else (none)) else (some x3))
end
def spec_l01Columns.f (k : Nat) (l0 : List ByteArray) : Option (List Int) := spec_l01Columns.l0 k l0 (([] : List Int)) 0
theorem spec_l01Columns.calls (k : Nat) (A0 : Option Addr) (c0 : Nat) (l0 : List ByteArray) (r : List Int) (w : World) (hr0 : Kd.C Kd.string w A0 l0.length l0) (hc0 : l0.length ≤ c0) (h : spec_l01Columns.f k l0 = some r) :
  Calls Tryd.prog 57 #[.slice A0 l0.length c0] w fun e w' => ∃ v0_ : Value, e = .returned (v0_) ∧ Kd.R (Kd.int .i64) 2 w' w.heap.size (fun _ => True) v0_ r ∧ Below w.heap.size w w' := by
 have HR0 := am hr0; have HC0 := am hc0; clear hr0 hc0; have HB := am (Below.refl w.heap.size w); have H : (spec_l01Columns.l0 k l0 (([] : List Int)) 0) = some r := h; clear h; obtain ⟨y109, hy109⟩ : ∃ y_ : List Int, y_ = (([] : List Int)) := ⟨_, rfl⟩; replace H : (spec_l01Columns.l0 k l0 y109 0) = some r := tY hy109 H; have Ny109 := am hy109; clear hy109; have H' := am H; clear H; go_enter Tryd.func57, Tryd.ntmps57
 go_wp2_with (first | ((with_reducible refine gate_dst (N := 9) rfl ?_); refine Kd.R_lit (Kd.int .i64) _ 2 ?hg (N := 9) ?hd (xs := ([] : List Int)) (inner := []) (ok := fun _ => True) (okp := fun _ => True) ?hr ?hp (fun _ hk => hk) trivial (Below.refl _ _) (Nat.le_refl _) (by simp) ?_; (case hd => rfl); (case hg => rfl); (case hr => first | (go_simp; done) | (go_simp; rfl)); (case hp => exact (Reps.none _ _)); intro v110 w2 ho3 hb hg_ hnew_; clear hg_ hnew_; (first | rw [← Ny109.out] at ho3 | (simp only [Int.reduceToNat] at ho3; rw [← Ny109.out] at ho3)); have HO111 := am (Kd.R_lower ho3 (below_size (tB))); replace HB := am (below_step (tB) hb); clear hb ho3))
 go_loopg [3, 4] k (fun kq v3 v4 w' => ∃ (x3_1 : List Int) (x4_1 : Int), v4 = .int .i64 x4_1 ∧ Aside0 (spec_l01Columns.l0 kq l0 x3_1 x4_1 = some r) ∧ Aside0 (kq ≤ k) ∧ Aside0 (Kd.R (Kd.int .i64) 2 w' w.heap.size (fun _ => True) v3 x3_1) ∧ Aside0 (Below w.heap.size w w'))
 case atStart => exact ⟨(y109), (0), (tF), H', ⟨Nat.le_refl _⟩, ⟨by refine tR ?_; exact HO111.out⟩, ⟨tB⟩⟩
 case round =>
  clear H'
  try clear p2
  obtain ⟨x3_1, x4_1, rfl, HA, HK1, HO_3, HB⟩ := hrel
  cases gk with
  | zero => exact absurd HA.out (by simp [spec_l01Columns.l0])
  | succ k1 =>
   have H := HA.out; clear HA; simp only [spec_l01Columns.l0] at H; have H' := am H; clear H; go_wp2
   go_loopg [5, 6, 7] k1 (fun kq v5 v6 v7 w' => ∃ (x5_2 : Int) (x6_2 : Bool) (x7_2 : Int), v5 = .int .i64 x5_2 ∧ v6 = .bool x6_2 ∧ v7 = .int .i64 x7_2 ∧ Aside0 (spec_l01Columns.l1 kq l0 x3_1 x4_1 x5_2 x6_2 x7_2 = some r) ∧ Aside0 (kq ≤ k1) ∧ Aside0 (Kd.R (Kd.int .i64) 2 w' w.heap.size (fun _ => True) u3 x3_1) ∧ Aside0 (Below w.heap.size w w'))
   case atStart => exact ⟨(0), (false), (0), (tF), (tF), (tF), H', ⟨Nat.le_refl _⟩, ⟨by refine tR ?_; exact HO_3.out⟩, ⟨tB⟩⟩
   case round =>
    clear H'
    try clear p2; try clear p2
    obtain ⟨x5_2, x6_2, x7_2, rfl, rfl, rfl, HA, HK2, HO_3, HB⟩ := hrel
    cases gk with
    | zero => exact absurd HA.out (by simp [spec_l01Columns.l1])
    | succ k2 =>
     have H := HA.out; clear HA; simp only [spec_l01Columns.l1] at H; by_cases c4 : x7_2 < (l0.length : Int)
     ·rw [if_pos c4] at H; have c4b0 := decide_eq_true c4; clear c4; by_cases c5 : 0 ≤ x7_2
      ·rw [if_pos c5] at H; have c5b0 := decide_eq_true c5; clear c5; by_cases c6 : x4_1 < ((rdOf ByteArray.empty l0 x7_2).size : Int)
       ·rw [if_pos c6] at H; have c6b0 := decide_eq_true c6; clear c6; by_cases c7 : 0 ≤ x4_1
        ·rw [if_pos c7] at H; have c7b0 := decide_eq_true c7; clear c7; replace H := Option.bind_eq_some_iff.mp H; obtain ⟨t114, A90, H⟩ := H; replace H : (spec_l01Columns.l1 k2 l0 x3_1 x4_1 (wrap64 (x5_2 + (wrap64 ((((bt (rdOf ByteArray.empty l0 x7_2) x4_1) - 97) % 256) * t114)))) true (wrap64 (x7_2 + 1))) = some r := H; have A9 := am A90; clear A90; have H' := am H; clear H; have p112 : 0 ≤ (x7_2 : Int) := oA; have q112 : x7_2 < (l0.length : Int) := oA; obtain ⟨ad112, e112, hx112_0⟩ := Kd.at_string HR0.out x7_2 p112 q112; cases e112; replace hx112_0 := (HB.out.cell (World.block_lt_of_cell? w _ hx112_0)).trans hx112_0; replace p112 := eq_true p112; replace q112 := eq_true q112; have p113 : 0 ≤ (x7_2 : Int) := oA; have q113 : x7_2 < (l0.length : Int) := oA; obtain ⟨ad113, e113, hx113_0⟩ := Kd.at_string HR0.out x7_2 p113 q113; obtain rfl : ad112 = ad113 := (by injection e113); replace hx113_0 := (HB.out.cell (World.block_lt_of_cell? w _ hx113_0)).trans hx113_0; replace p113 := eq_true p113; replace q113 := eq_true q113; have p8 : 0 ≤ (x4_1 : Int) := oA; have q8 : x4_1 < ((rdOf ByteArray.empty l0 x7_2).size : Int) := oA; have hx8 := bt_at (rdOf ByteArray.empty l0 x7_2) x4_1; replace p8 := eq_true p8; replace q8 := eq_true q8
         go_wp2_with (first | ((with_reducible refine gate_callee (f := 114) rfl ?_); refine goesLA (some 36) Tryd.func114 #[.int .i64 x7_2] rfl rfl rfl (h := ?_); (with_reducible refine (spec_l01Power.calls k2 x7_2 t114 _ A9.out).mono ?_); rintro e w' ⟨rfl, ⟨nd, rfl⟩⟩; refine ⟨_, rfl, ?_⟩))
         go_roundg k2
         case measure => have := HK1.out; have := HK2.out; omega
         case rel => exact ⟨(wrap64 (x5_2 + (wrap64 ((((bt (rdOf ByteArray.empty l0 x7_2) x4_1) - 97) % 256) * t114)))), (true), (wrap64 (x7_2 + 1)), (tF), (tF), (tF), H', ⟨by have := HK1.out; have := HK2.out; omega⟩, ⟨by refine tR ?_; exact HO_3.out⟩, ⟨tB⟩⟩
        ·rw [if_neg c7] at H; exact absurd H (by simp)
       ·rw [if_neg c6] at H; have c6b0 := decide_eq_false c6; clear c6; replace H := Option.bind_eq_some_iff.mp H; obtain ⟨t115, A100, H⟩ := H; replace H : (spec_l01Columns.l1 k2 l0 x3_1 x4_1 (wrap64 (x5_2 + (wrap64 (2 * t115)))) x6_2 (wrap64 (x7_2 + 1))) = some r := H; have A10 := am A100; clear A100; have H' := am H; clear H; have p112 : 0 ≤ (x7_2 : Int) := oA; have q112 : x7_2 < (l0.length : Int) := oA; obtain ⟨ad112, e112, hx112_0⟩ := Kd.at_string HR0.out x7_2 p112 q112; cases e112; replace hx112_0 := (HB.out.cell (World.block_lt_of_cell? w _ hx112_0)).trans hx112_0; replace p112 := eq_true p112; replace q112 := eq_true q112
        go_wp2_with (first | ((with_reducible refine gate_callee (f := 114) rfl ?_); refine goesLA (some 36) Tryd.func114 #[.int .i64 x7_2] rfl rfl rfl (h := ?_); (with_reducible refine (spec_l01Power.calls k2 x7_2 t115 _ A10.out).mono ?_); rintro e w' ⟨rfl, ⟨nd, rfl⟩⟩; refine ⟨_, rfl, ?_⟩))
        go_roundg k2
        case measure => have := HK1.out; have := HK2.out; omega
        case rel => exact ⟨(wrap64 (x5_2 + (wrap64 (2 * t115)))), (x6_2), (wrap64 (x7_2 + 1)), (tF), (tF), (tF), H', ⟨by have := HK1.out; have := HK2.out; omega⟩, ⟨by refine tR ?_; exact HO_3.out⟩, ⟨tB⟩⟩
      ·rw [if_neg c5] at H; exact absurd H (by simp)
     ·rw [if_neg c4] at H; have c4b0 := decide_eq_false c4; clear c4; by_cases c11 : x6_2 = true
      ·subst c11; (have H1 : (if x3_1.length < 17592186044416 then (spec_l01Columns.l0 k2 l0 (x3_1 ++ [x5_2]) (wrap64 (x4_1 + 1))) else (none)) = some r := by rw [if_pos rfl] at H; exact H); clear H; have H := H1; clear H1; by_cases c12 : x3_1.length < 17592186044416
       ·rw [if_pos c12] at H; have LMc12 := am c12; clear c12; obtain ⟨y116, hy116⟩ : ∃ y_ : List Int, y_ = (x3_1 ++ [x5_2]) := ⟨_, rfl⟩; replace H : (spec_l01Columns.l0 k2 l0 y116 (wrap64 (x4_1 + 1))) = some r := tY hy116 H; have Ny116 := am hy116; clear hy116; have H' := am H; clear H
        go_wp2_with (first | ((with_reducible refine gate_builtin (b := .append) (xs := #[.tmp 42, .tmp 44]) rfl ?_); at_builtin; refine Kd.R_append (Kd.int .i64) (w0 := w) w.heap.size rfl (.tmp 42) (.tmp 44) 25 2 (.int .i64 0) 8 rfl Tryd.underlying25 info2 rfl (by decide) (by omega) u3 x3_1 x5_2 [.int .i64 x5_2] (fun _ => True) (fun _ => False) rfl rfl ?aP (fun _ hk => hk.elim) ?aF ?aO ?aB ?aS ?aL ?_; (case aP => exact rfl); (case aB => exact (tB)); (case aF => exact (fun _ _ => trivial)); (case aO => exact (tR HO_3.out)); (case aS => exact (below_size (tB))); (case aL => have := LMc12.out; omega); intro v117 w13 ho hb hg hat; rw [← Ny116.out] at ho; replace HB := am (hb); have HO118 := am (ho); clear HO_3; clear ho hb hg hat))
        go_roundg k2
        case measure => have := HK1.out; have := HK2.out; omega
        case rel => exact ⟨(y116), (wrap64 (x4_1 + 1)), (tF), H', ⟨by have := HK1.out; have := HK2.out; omega⟩, ⟨by refine tR ?_; exact HO118.out⟩, ⟨tB⟩⟩
       ·rw [if_neg c12] at H; exact absurd H (by simp)
      ·replace c11 := Bool.eq_false_iff.mpr c11; subst c11; (have H1 : (some x3_1) = some r := by rw [if_neg (show ¬ (false = true) by decide)] at H; exact H); clear H; have H := H1; clear H1; obtain rfl := Option.some.inj H; go_wp2; go_ret; exact ⟨_, tE, by refine tR ?_; exact HO_3.out, tB⟩
def spec_ColumnsOf.f (k : Nat) (l0 : List ByteArray) : Option (List Int × Int) := (spec_l01Words.f k l0).bind fun t119 => (if t119 = true then ((spec_l00In.f (l0.length : Int) 1 3).bind fun t123 => (if t123 = true then ((spec_l01Columns.f k l0).bind fun t124 => (some (t124, 0))) else (some ((([] : List Int)), 2)))) else (some ((([] : List Int)), 1)))
theorem spec_ColumnsOf.calls (k : Nat) (A0 : Option Addr) (c0 : Nat) (l0 : List ByteArray) (r1 : List Int) (r2 : Int) (w : World) (hr0 : Kd.C Kd.string w A0 l0.length l0) (hc0 : l0.length ≤ c0) (h : spec_ColumnsOf.f k l0 = some (r1, r2)) :
  Calls Tryd.prog 17 #[.slice A0 l0.length c0] w fun e w' => ∃ v0_ : Value, e = .returned (.tuple #[v0_, .int .i64 r2]) ∧ Kd.R (Kd.int .i64) 2 w' w.heap.size (fun _ => True) v0_ r1 ∧ Below w.heap.size w w' := by
 have HR0 := am hr0; have HC0 := am hc0; clear hr0 hc0; have HB := am (Below.refl w.heap.size w); have H : ((spec_l01Words.f k l0).bind fun t119 => (if t119 = true then ((spec_l00In.f (l0.length : Int) 1 3).bind fun t123 => (if t123 = true then ((spec_l01Columns.f k l0).bind fun t124 => (some (t124, 0))) else (some ((([] : List Int)), 2)))) else (some ((([] : List Int)), 1)))) = some (r1, r2) := h; clear h; replace H := Option.bind_eq_some_iff.mp H; obtain ⟨t119, A20, H⟩ := H; replace H : (if t119 = true then ((spec_l00In.f (l0.length : Int) 1 3).bind fun t123 => (if t123 = true then ((spec_l01Columns.f k l0).bind fun t124 => (some (t124, 0))) else (some ((([] : List Int)), 2)))) else (some ((([] : List Int)), 1))) = some (r1, r2) := H; have A2 := am A20; clear A20; by_cases c3 : t119 = true
 ·subst c3; (have H1 : ((spec_l00In.f (l0.length : Int) 1 3).bind fun t123 => (if t123 = true then ((spec_l01Columns.f k l0).bind fun t124 => (some (t124, 0))) else (some ((([] : List Int)), 2)))) = some (r1, r2) := by rw [if_pos rfl] at H; exact H); clear H; have H := H1; clear H1; replace H := Option.bind_eq_some_iff.mp H; obtain ⟨t123, A40, H⟩ := H; replace H : (if t123 = true then ((spec_l01Columns.f k l0).bind fun t124 => (some (t124, 0))) else (some ((([] : List Int)), 2))) = some (r1, r2) := H; have A4 := am A40; clear A40; by_cases c5 : t123 = true
  ·subst c5; (have H1 : ((spec_l01Columns.f k l0).bind fun t124 => (some (t124, 0))) = some (r1, r2) := by rw [if_pos rfl] at H; exact H); clear H; have H := H1; clear H1; replace H := Option.bind_eq_some_iff.mp H; obtain ⟨t124, A60, H⟩ := H; replace H : (some (t124, 0)) = some (r1, r2) := H; have A6 := am A60; clear A60; simp only [Option.some.injEq, Prod.mk.injEq] at H; obtain ⟨rfl, rfl⟩ := H; go_enter Tryd.func17, Tryd.ntmps17
   go_wp2_with (first | ((with_reducible refine gate_callee (f := 55) rfl ?_); refine goesLA (some 5) Tryd.func55 #[.slice A0 l0.length c0] rfl rfl rfl (h := ?_); (with_reducible refine (spec_l01Words.calls k _ _ l0 true _ ?side1 ?side2 A2.out).mono ?_); (case side1 => repeat (first | exact HR0.out | (with_reducible refine Kd.C_alloc ?_ _) | (with_reducible refine Kd.C_drewN ?_ _) | (with_reducible refine Kd.C_drew ?_))); (case side2 => exact HC0.out); rintro e w' ⟨rfl, ⟨nd, rfl⟩⟩; refine ⟨_, rfl, ?_⟩) | ((with_reducible refine gate_callee (f := 56) rfl ?_); refine goesLA (some 10) Tryd.func56 #[.int .i64 (l0.length : Int), .int .i64 1, .int .i64 3] rfl rfl rfl (h := ?_); (with_reducible refine (spec_l00In.calls (l0.length : Int) 1 3 true _ A4.out).mono ?_); rintro e w' ⟨rfl, ⟨nd, rfl⟩⟩; refine ⟨_, rfl, ?_⟩) | ((with_reducible refine gate_callee (f := 57) rfl ?_); refine goesLA (some 14) Tryd.func57 #[.slice A0 l0.length c0] rfl rfl rfl (h := ?_); (with_reducible refine (spec_l01Columns.calls k _ _ l0 t124 _ ?side1 ?side2 A6.out).mono ?_); (case side1 => repeat (first | exact HR0.out | (with_reducible refine Kd.C_alloc ?_ _) | (with_reducible refine Kd.C_drewN ?_ _) | (with_reducible refine Kd.C_drew ?_))); (case side2 => exact HC0.out); rintro e w7 ⟨v125, rfl, ho0, hb⟩; refine ⟨_, rfl, ?_⟩; have HO126 := am (Kd.R_lower ho0 (below_size (tB))); replace HB := am (below_step (tB) hb); (try clear hb); (try clear hb2); (try clear hk); (try clear hi); (try clear ho0)))
   go_ret2; exact ⟨_, tE, by refine tR ?_; exact HO126.out, tB⟩
  ·replace c5 := Bool.eq_false_iff.mpr c5; subst c5; (have H1 : (some ((([] : List Int)), 2)) = some (r1, r2) := by rw [if_neg (show ¬ (false = true) by decide)] at H; exact H); clear H; have H := H1; clear H1; obtain ⟨y127, hy127⟩ : ∃ y_ : List Int, y_ = (([] : List Int)) := ⟨_, rfl⟩; replace H : (some (y127, 2)) = some (r1, r2) := tY hy127 H; have Ny127 := am hy127; clear hy127; simp only [Option.some.injEq, Prod.mk.injEq] at H; obtain ⟨rfl, rfl⟩ := H; go_enter Tryd.func17, Tryd.ntmps17
   go_wp2_with (first | ((with_reducible refine gate_callee (f := 55) rfl ?_); refine goesLA (some 5) Tryd.func55 #[.slice A0 l0.length c0] rfl rfl rfl (h := ?_); (with_reducible refine (spec_l01Words.calls k _ _ l0 true _ ?side1 ?side2 A2.out).mono ?_); (case side1 => repeat (first | exact HR0.out | (with_reducible refine Kd.C_alloc ?_ _) | (with_reducible refine Kd.C_drewN ?_ _) | (with_reducible refine Kd.C_drew ?_))); (case side2 => exact HC0.out); rintro e w' ⟨rfl, ⟨nd, rfl⟩⟩; refine ⟨_, rfl, ?_⟩) | ((with_reducible refine gate_callee (f := 56) rfl ?_); refine goesLA (some 10) Tryd.func56 #[.int .i64 (l0.length : Int), .int .i64 1, .int .i64 3] rfl rfl rfl (h := ?_); (with_reducible refine (spec_l00In.calls (l0.length : Int) 1 3 false _ A4.out).mono ?_); rintro e w' ⟨rfl, ⟨nd, rfl⟩⟩; refine ⟨_, rfl, ?_⟩) | ((with_reducible refine gate_dst (N := 12) rfl ?_); refine Kd.R_lit (Kd.int .i64) _ 2 ?hg (N := 12) ?hd (xs := ([] : List Int)) (inner := []) (ok := fun _ => True) (okp := fun _ => True) ?hr ?hp (fun _ hk => hk) trivial (Below.refl _ _) (Nat.le_refl _) (by simp) ?_; (case hd => rfl); (case hg => rfl); (case hr => first | (go_simp; done) | (go_simp; rfl)); (case hp => exact (Reps.none _ _)); intro v128 w8 ho9 hb hg_ hnew_; clear hg_ hnew_; (first | rw [← Ny127.out] at ho9 | (simp only [Int.reduceToNat] at ho9; rw [← Ny127.out] at ho9)); have HO129 := am (Kd.R_lower ho9 (below_size (tB))); replace HB := am (below_step (tB) hb); clear hb ho9))
   go_ret2; exact ⟨_, tE, by refine tR ?_; exact HO129.out, tB⟩
 ·replace c3 := Bool.eq_false_iff.mpr c3; subst c3; (have H1 : (some ((([] : List Int)), 1)) = some (r1, r2) := by rw [if_neg (show ¬ (false = true) by decide)] at H; exact H); clear H; have H := H1; clear H1; obtain ⟨y120, hy120⟩ : ∃ y_ : List Int, y_ = (([] : List Int)) := ⟨_, rfl⟩; replace H : (some (y120, 1)) = some (r1, r2) := tY hy120 H; have Ny120 := am hy120; clear hy120; simp only [Option.some.injEq, Prod.mk.injEq] at H; obtain ⟨rfl, rfl⟩ := H; go_enter Tryd.func17, Tryd.ntmps17
  go_wp2_with (first | ((with_reducible refine gate_callee (f := 55) rfl ?_); refine goesLA (some 5) Tryd.func55 #[.slice A0 l0.length c0] rfl rfl rfl (h := ?_); (with_reducible refine (spec_l01Words.calls k _ _ l0 false _ ?side1 ?side2 A2.out).mono ?_); (case side1 => repeat (first | exact HR0.out | (with_reducible refine Kd.C_alloc ?_ _) | (with_reducible refine Kd.C_drewN ?_ _) | (with_reducible refine Kd.C_drew ?_))); (case side2 => exact HC0.out); rintro e w' ⟨rfl, ⟨nd, rfl⟩⟩; refine ⟨_, rfl, ?_⟩) | ((with_reducible refine gate_dst (N := 7) rfl ?_); refine Kd.R_lit (Kd.int .i64) _ 2 ?hg (N := 7) ?hd (xs := ([] : List Int)) (inner := []) (ok := fun _ => True) (okp := fun _ => True) ?hr ?hp (fun _ hk => hk) trivial (Below.refl _ _) (Nat.le_refl _) (by simp) ?_; (case hd => rfl); (case hg => rfl); (case hr => first | (go_simp; done) | (go_simp; rfl)); (case hp => exact (Reps.none _ _)); intro v121 w10 ho11 hb hg_ hnew_; clear hg_ hnew_; (first | rw [← Ny120.out] at ho11 | (simp only [Int.reduceToNat] at ho11; rw [← Ny120.out] at ho11)); have HO122 := am (Kd.R_lower ho11 (below_size (tB))); replace HB := am (below_step (tB) hb); clear hb ho11))
  go_ret2; exact ⟨_, tE, by refine tR ?_; exact HO122.out, tB⟩
def laws_toStringS.l0 : Nat → List ByteArray → List ByteArray → Int → Option (List ByteArray)
 | 0, _, _, _ => none
 | k + 1, x0, x3, x4 => if x4 < (x0.length : Int) then (if 0 ≤ x4 then (if x4 < (x3.length : Int) then (laws_toStringS.l0 k x0 (x3.set (x4 : Int).toNat (rdOf ByteArray.empty x0 x4)) (wrap64 (x4 + 1))) else (none)) else (none)) else (some x3)
def laws_toStringS.f (k : Nat) (l0 : List ByteArray) : Option (List ByteArray) := if 0 ≤ (l0.length : Int) then (if ((l0.length : Int) : Int).toNat ≤ 17592186044416 then (laws_toStringS.l0 k l0 (List.replicate ((l0.length : Int) : Int).toNat (⟨#[]⟩ : ByteArray)) 0) else (none)) else (none)
theorem laws_toStringS.calls (k : Nat) (A0 : Option Addr) (c0 : Nat) (l0 : List ByteArray) (r : List ByteArray) (w : World) (hr0 : Kd.C Kd.string w A0 l0.length l0) (hc0 : l0.length ≤ c0) (h : laws_toStringS.f k l0 = some r) :
  Calls Tryd.prog 18 #[.slice A0 l0.length c0] w fun e w' => ∃ v0_ : Value, e = .returned (v0_) ∧ Kd.R Kd.string 9 w' w.heap.size (fun _ => True) v0_ r ∧ Below w.heap.size w w' := by
 have HR0 := am hr0; have HC0 := am hc0; clear hr0 hc0; have HB := am (Below.refl w.heap.size w); have H : (if 0 ≤ (l0.length : Int) then (if ((l0.length : Int) : Int).toNat ≤ 17592186044416 then (laws_toStringS.l0 k l0 (List.replicate ((l0.length : Int) : Int).toNat (⟨#[]⟩ : ByteArray)) 0) else (none)) else (none)) = some r := h; clear h; by_cases c2 : 0 ≤ (l0.length : Int)
 ·rw [if_pos c2] at H; have c2b0 := eq_true c2; have c2b1 := decide_eq_true c2; clear c2; by_cases c3 : ((l0.length : Int) : Int).toNat ≤ 17592186044416
  ·rw [if_pos c3] at H; have c3b0 := eq_true c3; have c3b1 := decide_eq_true c3; clear c3; obtain ⟨y130, hy130⟩ : ∃ y_ : List ByteArray, y_ = (List.replicate ((l0.length : Int) : Int).toNat (⟨#[]⟩ : ByteArray)) := ⟨_, rfl⟩; replace H : (laws_toStringS.l0 k l0 y130 0) = some r := tY hy130 H; have Ny130 := am hy130; clear hy130; have H' := am H; clear H; go_enter Tryd.func18, Tryd.ntmps18
   go_wp2_with (first | ((with_reducible refine gate_dst (N := 7) rfl ?_); refine Kd.R_make Kd.string _ 9 rfl (N := 7) rfl 23 _ _ rfl (l0.length : Int) rfl rfl Tryd.underlying23 (.string ⟨#[]⟩) 16 info9 rfl (by decide) (by omega) (⟨#[]⟩ : ByteArray) (ok := fun _ => True) (okp := fun _ => True) rfl (fun _ hk => hk) trivial (oA) (Nat.le_trans (Nat.mul_le_mul_right _ (oA : (l0.length : Int).toNat ≤ 17592186044416)) (by omega)) (Below.refl _ _) (Nat.le_refl _) ?_; intro v131 w4 ho5 hb hg_ hnew_; clear hg_ hnew_; (first | rw [← Ny130.out] at ho5 | (simp only [Int.reduceToNat] at ho5; rw [← Ny130.out] at ho5)); have HO132 := am (Kd.R_lower ho5 (below_size (tB))); replace HB := am (below_step (tB) hb); clear hb ho5))
   go_loopg [4] k (fun kq v4 w' => ∃ (x3_1 : List ByteArray) (x4_1 : Int), v4 = .int .i64 x4_1 ∧ Aside0 (laws_toStringS.l0 kq l0 x3_1 x4_1 = some r) ∧ Aside0 (kq ≤ k) ∧ Aside0 (Kd.R Kd.string 9 w' w.heap.size (fun _ => True) v131 x3_1) ∧ Aside0 (Below w.heap.size w w'))
   case atStart => exact ⟨(y130), (0), (tF), H', ⟨Nat.le_refl _⟩, ⟨by refine tR ?_; exact HO132.out⟩, ⟨tB⟩⟩
   case round =>
    clear H'
    try clear c1; try clear c2; try clear c2b0; try clear c2b1; try clear p2; try clear c3; try clear c3b0; try clear c3b1
    obtain ⟨x3_1, x4_1, rfl, HA, HK1, HO_3, HB⟩ := hrel
    cases gk with
    | zero => exact absurd HA.out (by simp [laws_toStringS.l0])
    | succ k1 =>
     have H := HA.out; clear HA; simp only [laws_toStringS.l0] at H; by_cases c6 : x4_1 < (l0.length : Int)
     ·rw [if_pos c6] at H; have c6b0 := decide_eq_true c6; clear c6; by_cases c7 : 0 ≤ x4_1
      ·rw [if_pos c7] at H; have c7b0 := decide_eq_true c7; clear c7; by_cases c8 : x4_1 < (x3_1.length : Int)
       ·rw [if_pos c8] at H; have c8b0 := decide_eq_true c8; clear c8; obtain ⟨y134, hy134⟩ : ∃ y_ : List ByteArray, y_ = (x3_1.set (x4_1 : Int).toNat (rdOf ByteArray.empty l0 x4_1)) := ⟨_, rfl⟩; replace H : (laws_toStringS.l0 k1 l0 y134 (wrap64 (x4_1 + 1))) = some r := tY hy134 H; have Ny134 := am hy134; clear hy134; have H' := am H; clear H; have p133 : 0 ≤ (x4_1 : Int) := oA; have q133 : x4_1 < (l0.length : Int) := oA; obtain ⟨ad133, e133, hx133_0⟩ := Kd.at_string HR0.out x4_1 p133 q133; cases e133; replace hx133_0 := (HB.out.cell (World.block_lt_of_cell? w _ hx133_0)).trans hx133_0; replace p133 := eq_true p133; replace q133 := eq_true q133; have p9 : 0 ≤ (x4_1 : Int) := oA; have q9 : (x4_1 : Int) < ((x3_1.length : Int) : Int) := oA; obtain ⟨go9, co9, eo9, gb9, gl9, cl9, HG9⟩ := Kd.R_form HO_3.out (by omega)
        (first | cases eo9 | (injection eo9 with ea_ en_ ec_; (first | subst ea_ | (injection ea_ with ea_; subst ea_)); subst ec_; clear en_))
        have GB9 := am gb9; have GG9 := am HG9; clear gb9 gl9 HG9; obtain ⟨hx9_0, hf9_0⟩ := Kd.R_celln (⟨#[]⟩ : ByteArray) HO_3.out (x4_1 : Int) p9 q9; replace p9 := eq_true p9; replace q9 := eq_true q9; have HP10 := Kd.R_putg HO_3.out (x4_1 : Int) (rdOf ByteArray.empty l0 x4_1)
        go_wp2_with (first | ((with_reducible refine gate_store (t := 9) (p := 20) rfl ?_); refine store_event (t := 9) (p := 20) (v := ?vo_w11) (w1 := (wr.setCell ⟨go9, (x4_1 : Int).toNat, none⟩ (.string (rdOf ByteArray.empty l0 x4_1)))) ?hg ?ho ?hn ?hr ?_; (case ho => rfl); (case hg => rfl); (case hn => rfl); (case hr => first | (go_simp; done) | (go_simp; rfl)); intro w11 hw; have hg : wr.grownBy w11 (some go9) := (by rw [hw]; exact HP10.2); have hp_ : Kd.R Kd.string 9 w11 w.heap.size (fun _ => True) (.slice (some ⟨go9, 0, none⟩) x3_1.length co9) y134 := (by rw [hw, Ny134.out]; exact HP10.1); clear HP10; replace HO_3 := am (hp_); replace HB := am ((by rw [hw]; exact below_set (HB.out) GB9.out : Below w.heap.size w w11)); clear hg hw hp_))
        go_roundg k1
        case measure => have := HK1.out; omega
        case rel => exact ⟨(y134), (wrap64 (x4_1 + 1)), (tF), H', ⟨by have := HK1.out; omega⟩, ⟨by refine tR ?_; exact HO_3.out⟩, ⟨tB⟩⟩
       ·rw [if_neg c8] at H; exact absurd H (by simp)
      ·rw [if_neg c7] at H; exact absurd H (by simp)
     ·rw [if_neg c6] at H; have c6b0 := decide_eq_false c6; clear c6; obtain rfl := Option.some.inj H; go_wp2; go_ret; exact ⟨_, tE, by refine tR ?_; exact HO_3.out, tB⟩
  ·rw [if_neg c3] at H; exact absurd H (by simp)
 ·rw [if_neg c2] at H; exact absurd H (by simp)
def trimL_ren : Go.Shelf.Ren := ⟨fun | 160 => 54 | 232 => 108 | 231 => 107 | 227 => 109 | 234 => 111 | 233 => 110 | 236 => 113 | 235 => 112 | 228 => 162 | 271 => 165 | 151 => 164 | 197 => 163 | 120 => 196 | 152 => 195 | 260 => 194 | 137 => 212 | 119 => 213 | 224 => 214 | 225 => 215 | 217 => 229 | 266 => 243 | n => n, fun | 9 => 9 | 4 => 4 | 3 => 3 | 5 => 5 | 117 => 121 | 116 => 120 | 0 => 0 | 124 => 124 | 21 => 21 | 105 => 177 | 46 => 180 | 119 => 219 | 139 => 222 | 138 => 221 | n => n, fun | 3 => 0 | 4 => 1 | n => n⟩
theorem trimL : Go.Proofs.Lays.n160 Tryd.prog trimL_ren := {
 mixed := by kernel_rfl
 f119 := Tryd.func213.trans (congrArg some (by kernel_rfl))
 f120 := Tryd.func196.trans (congrArg some (by kernel_rfl))
 f137 := Tryd.func212.trans (congrArg some (by kernel_rfl))
 f151 := Tryd.func164.trans (congrArg some (by kernel_rfl))
 f152 := Tryd.func195.trans (congrArg some (by kernel_rfl))
 f160 := Tryd.func54.trans (congrArg some (by kernel_rfl))
 f197 := Tryd.func163.trans (congrArg some (by kernel_rfl))
 f217 := Tryd.func229.trans (congrArg some (by kernel_rfl))
 f224 := Tryd.func214.trans (congrArg some (by kernel_rfl))
 f225 := Tryd.func215.trans (congrArg some (by kernel_rfl))
 f227 := Tryd.func109.trans (congrArg some (by kernel_rfl))
 f228 := Tryd.func162.trans (congrArg some (by kernel_rfl))
 f231 := Tryd.func107.trans (congrArg some (by kernel_rfl))
 f232 := Tryd.func108.trans (congrArg some (by kernel_rfl))
 f233 := Tryd.func110.trans (congrArg some (by kernel_rfl))
 f234 := Tryd.func111.trans (congrArg some (by kernel_rfl))
 f235 := Tryd.func112.trans (congrArg some (by kernel_rfl))
 f236 := Tryd.func113.trans (congrArg some (by kernel_rfl))
 f260 := Tryd.func194.trans (congrArg some (by kernel_rfl))
 f266 := Tryd.func243.trans (congrArg some (by kernel_rfl))
 f271 := Tryd.func165.trans (congrArg some (by kernel_rfl))
 t0 := Tryd.underlying0
 a0 := Tryd.isAgg0
 z0 := Tryd.sizeOf0
 v0 := Tryd.zeroValue0
 t3 := Tryd.underlying3
 a3 := Tryd.isAgg3
 z3 := Tryd.sizeOf3
 v3 := Tryd.zeroValue3
 t4 := Tryd.underlying4
 a4 := Tryd.isAgg4
 z4 := Tryd.sizeOf4
 v4 := Tryd.zeroValue4
 t5 := Tryd.underlying5
 a5 := Tryd.isAgg5
 z5 := Tryd.sizeOf5
 v5 := Tryd.zeroValue5
 t9 := Tryd.underlying9
 a9 := Tryd.isAgg9
 z9 := Tryd.sizeOf9
 v9 := Tryd.zeroValue9
 t21 := Tryd.underlying21
 a21 := Tryd.isAgg21
 z21 := Tryd.sizeOf21
 v21 := Tryd.zeroValue21
 t46 := Tryd.underlying180
 a46 := Tryd.isAgg180
 z46 := Tryd.sizeOf180
 v46 := Tryd.zeroValue180
 t105 := Tryd.underlying177
 a105 := Tryd.isAgg177
 z105 := Tryd.sizeOf177
 v105 := Tryd.zeroValue177
 t116 := Tryd.underlying120
 a116 := Tryd.isAgg120
 z116 := Tryd.sizeOf120
 t117 := Tryd.underlying121
 a117 := Tryd.isAgg121
 z117 := Tryd.sizeOf121
 v117 := Tryd.zeroValue121
 t119 := Tryd.underlying219
 a119 := Tryd.isAgg219
 z119 := Tryd.sizeOf219
 t124 := Tryd.underlying124
 a124 := Tryd.isAgg124
 z124 := Tryd.sizeOf124
 v124 := Tryd.zeroValue124
 t138 := Tryd.underlying221
 a138 := Tryd.isAgg221
 z138 := Tryd.sizeOf221
 v138 := Tryd.zeroValue221
 t139 := Tryd.underlying222
 a139 := Tryd.isAgg222
 z139 := Tryd.sizeOf222
 v139 := Tryd.zeroValue222
 g3 := by kernel_rfl
 g4 := by kernel_rfl }
theorem trim_calls (s c : ByteArray) (w : World) (hs : s.size ≤ 9223372036854775807) (hc : c.size < 4294967281) (ha : ∀ (j : Nat) b, c.data.toList[j]? = some b → b.toNat < 128) :
  Calls Tryd.prog 54 #[.string s, .string c] w fun e w' => e = .returned (.string ⟨(Lib.trimS s.data.toList c.data.toList).toArray⟩) ∧ Below w.heap.size w w' := Any.strings_Trim_laid trimL (by kernel_rfl) s c w hs hc ha
def strings_Trim.f (a0 : ByteArray) (a1 : ByteArray) : Option (ByteArray) := if a0.size ≤ 9223372036854775807 ∧ a1.size < 4294967281 ∧ (∀ b ∈ a1.data.toList, b.toNat < 128) then some ⟨(Lib.trimS a0.data.toList a1.data.toList).toArray⟩ else none
theorem strings_Trim.calls (a0 : ByteArray) (a1 : ByteArray) (r : ByteArray) (w : World) (h : strings_Trim.f a0 a1 = some r) :
  Calls Tryd.prog 54 #[.string a0, .string a1] w fun e w' => e = .returned (.string r) ∧ Below w.heap.size w w' := by
 unfold strings_Trim.f at h; by_cases c : a0.size ≤ 9223372036854775807 ∧ a1.size < 4294967281 ∧ (∀ b ∈ a1.data.toList, b.toNat < 128)
 ·rw [if_pos c] at h; obtain rfl := Option.some.inj h; exact trim_calls a0 a1 w c.1 c.2.1 (fun j b hb => c.2.2 b (List.mem_of_getElem? hb))
 ·rw [if_neg c] at h; cases h
def impl_ValidWord.f (a0 : ByteArray) : Option (Bool) := if (a0.size : Int) ≤ 40 then ((strings_Trim.f a0 (⟨#[97, 98]⟩ : ByteArray)).bind fun t103 => (some (t103.toList == ([] : List UInt8)))) else (some false)
theorem impl_ValidWord.calls (a0 : ByteArray) (r : Bool) (w : World) (h : impl_ValidWord.f a0 = some r) :
  Calls Tryd.prog 15 #[.string a0] w fun e w' => e = .returned (.bool r) ∧ Below w.heap.size w w' := by
 have HB := am (Below.refl w.heap.size w); have H : (if (a0.size : Int) ≤ 40 then ((strings_Trim.f a0 (⟨#[97, 98]⟩ : ByteArray)).bind fun t103 => (some (t103.toList == ([] : List UInt8)))) else (some false)) = some r := h; clear h; by_cases c2 : (a0.size : Int) ≤ 40
 ·rw [if_pos c2] at H; have c2b0 := decide_eq_true c2; have c2b1 : decide (a0.size ≤ 40) = true := decide_eq_true (by omega); clear c2; replace H := Option.bind_eq_some_iff.mp H; obtain ⟨t103, A30, H⟩ := H; replace H : (some (t103.toList == ([] : List UInt8))) = some r := H; have A3 := am A30; clear A30; obtain rfl := Option.some.inj H; go_enter Tryd.func15, Tryd.ntmps15
  go_wp2_with (first | (go_at_call 54; (with_reducible refine (strings_Trim.calls a0 (⟨#[97, 98]⟩ : ByteArray) t103 _ A3.out).mono ?_); rintro e w4 ⟨rfl, hb⟩; replace HB := am (below_step (tB) hb); (try clear hb); (try clear hb2); (try clear hk); (try clear hi)))
  go_ret; exact ⟨tE, tB⟩
 ·rw [if_neg c2] at H; have c2b0 := decide_eq_false c2; have c2b1 : decide (a0.size ≤ 40) = false := decide_eq_false (by omega); clear c2; obtain rfl := Option.some.inj H; go_enter Tryd.func15, Tryd.ntmps15; go_wp2; go_ret; exact ⟨tE, tB⟩
def impl_areWords.l0 : Nat → List ByteArray → Int → Int → Option (Bool)
 | 0, _, _, _ => none
 | k + 1, x5, x6, x7 => if x7 < x6 then (if 0 ≤ x7 then (if x7 < (x5.length : Int) then ((impl_ValidWord.f (rdOf ByteArray.empty x5 x7)).bind fun t136 => (if t136 = true then (impl_areWords.l0 k x5 x6 (wrap64 (x7 + 1))) else (some false))) else (none)) else (none)) else (some true)
def impl_areWords.f (k : Nat) (l0 : List ByteArray) : Option (Bool) := impl_areWords.l0 k l0 (l0.length : Int) 0
theorem impl_areWords.calls (k : Nat) (A0 : Option Addr) (c0 : Nat) (l0 : List ByteArray) (r : Bool) (w : World) (hr0 : Kd.C Kd.string w A0 l0.length l0) (hc0 : l0.length ≤ c0) (h : impl_areWords.f k l0 = some r) :
  Calls Tryd.prog 58 #[.slice A0 l0.length c0] w fun e w' => e = .returned (.bool r) ∧ Below w.heap.size w w' := by
 have HR0 := am hr0; have HC0 := am hc0; clear hr0 hc0; have HB := am (Below.refl w.heap.size w); have H : (impl_areWords.l0 k l0 (l0.length : Int) 0) = some r := h; clear h; have H' := am H; clear H; go_enter Tryd.func58, Tryd.ntmps58; go_wp2
 go_loopg [7] k (fun kq v7 w' => ∃ (x7_1 : Int), v7 = .int .i64 x7_1 ∧ Aside0 (impl_areWords.l0 kq l0 (l0.length : Int) x7_1 = some r) ∧ Aside0 (kq ≤ k) ∧ Aside0 (Below w.heap.size w w'))
 case atStart => exact ⟨(0), (tF), H', ⟨Nat.le_refl _⟩, ⟨tB⟩⟩
 case round =>
  clear H'; obtain ⟨x7_1, rfl, HA, HK1, HB⟩ := hrel
  cases gk with
  | zero => exact absurd HA.out (by simp [impl_areWords.l0])
  | succ k1 =>
   have H := HA.out; clear HA; simp only [impl_areWords.l0] at H; by_cases c2 : x7_1 < (l0.length : Int)
   ·rw [if_pos c2] at H; have c2b0 := decide_eq_true c2; clear c2; by_cases c3 : 0 ≤ x7_1
    ·rw [if_pos c3] at H; have c3b0 := decide_eq_true c3; clear c3; by_cases c4 : x7_1 < (l0.length : Int)
     ·rw [if_pos c4] at H; have c4b0 := decide_eq_true c4; clear c4; replace H := Option.bind_eq_some_iff.mp H; obtain ⟨t136, A50, H⟩ := H; replace H : (if t136 = true then (impl_areWords.l0 k1 l0 (l0.length : Int) (wrap64 (x7_1 + 1))) else (some false)) = some r := H; have A5 := am A50; clear A50; by_cases c6 : t136 = true
      ·subst c6; (have H1 : (impl_areWords.l0 k1 l0 (l0.length : Int) (wrap64 (x7_1 + 1))) = some r := by rw [if_pos rfl] at H; exact H); clear H; have H := H1; clear H1; have H' := am H; clear H; have p135 : 0 ≤ (x7_1 : Int) := oA; have q135 : x7_1 < (l0.length : Int) := oA; obtain ⟨ad135, e135, hx135_0⟩ := Kd.at_string HR0.out x7_1 p135 q135; cases e135; replace hx135_0 := (HB.out.cell (World.block_lt_of_cell? w _ hx135_0)).trans hx135_0; replace p135 := eq_true p135; replace q135 := eq_true q135
       go_wp2_with (first | ((with_reducible refine gate_callee (f := 15) rfl ?_); refine goesLA (some 12) Tryd.func15 #[.string (rdOf ByteArray.empty l0 x7_1)] rfl rfl rfl (h := ?_); (with_reducible refine (impl_ValidWord.calls (rdOf ByteArray.empty l0 x7_1) true _ A5.out).mono ?_); rintro e w7 ⟨rfl, hb⟩; refine ⟨_, rfl, ?_⟩; replace HB := am (below_step (tB) hb); (try clear hb); (try clear hb2); (try clear hk); (try clear hi)))
       go_roundg k1
       case measure => have := HK1.out; omega
       case rel => exact ⟨(wrap64 (x7_1 + 1)), (tF), H', ⟨by have := HK1.out; omega⟩, ⟨tB⟩⟩
      ·replace c6 := Bool.eq_false_iff.mpr c6; subst c6; (have H1 : (some false) = some r := by rw [if_neg (show ¬ (false = true) by decide)] at H; exact H); clear H; have H := H1; clear H1; obtain rfl := Option.some.inj H; have p135 : 0 ≤ (x7_1 : Int) := oA; have q135 : x7_1 < (l0.length : Int) := oA; obtain ⟨ad135, e135, hx135_0⟩ := Kd.at_string HR0.out x7_1 p135 q135; cases e135; replace hx135_0 := (HB.out.cell (World.block_lt_of_cell? w _ hx135_0)).trans hx135_0; replace p135 := eq_true p135; replace q135 := eq_true q135
       go_wp2_with (first | ((with_reducible refine gate_callee (f := 15) rfl ?_); refine goesLA (some 12) Tryd.func15 #[.string (rdOf ByteArray.empty l0 x7_1)] rfl rfl rfl (h := ?_); (with_reducible refine (impl_ValidWord.calls (rdOf ByteArray.empty l0 x7_1) false _ A5.out).mono ?_); rintro e w8 ⟨rfl, hb⟩; refine ⟨_, rfl, ?_⟩; replace HB := am (below_step (tB) hb); (try clear hb); (try clear hb2); (try clear hk); (try clear hi)))
       go_ret; exact ⟨tE, tB⟩
     ·rw [if_neg c4] at H; exact absurd H (by simp)
    ·rw [if_neg c3] at H; exact absurd H (by simp)
   ·rw [if_neg c2] at H; have c2b0 := decide_eq_false c2; clear c2; obtain rfl := Option.some.inj H; go_wp2; go_ret; exact ⟨tE, tB⟩
def impl_within.f (a0 : Int) (a1 : Int) (a2 : Int) : Option (Bool) := if a1 ≤ a0 then (some (decide (a0 ≤ a2))) else (some false)
theorem impl_within.calls (a0 : Int) (a1 : Int) (a2 : Int) (r : Bool) (w : World) (h : impl_within.f a0 a1 a2 = some r) :
  Calls Tryd.prog 115 #[.int .i64 a0, .int .i64 a1, .int .i64 a2] w fun e w' => e = .returned (.bool r) ∧ Drawn0 w w' := by
 have H : (if a1 ≤ a0 then (some (decide (a0 ≤ a2))) else (some false)) = some r := h; clear h; by_cases c4 : a1 ≤ a0
 ·rw [if_pos c4] at H; have c4b0 := decide_eq_true c4; clear c4; obtain rfl := Option.some.inj H; go_enter Tryd.func115, Tryd.ntmps115; go_wp2; go_ret; exact ⟨tF, tD⟩
 ·rw [if_neg c4] at H; have c4b0 := decide_eq_false c4; clear c4; obtain rfl := Option.some.inj H; go_enter Tryd.func115, Tryd.ntmps115; go_wp2; go_ret; exact ⟨tF, tD⟩
def impl_areTapes.f (a0 : Int) : Option (Bool) := (impl_within.f a0 1 3).bind fun t137 => (some t137)
theorem impl_areTapes.calls (a0 : Int) (r : Bool) (w : World) (h : impl_areTapes.f a0 = some r) :
  Calls Tryd.prog 59 #[.int .i64 a0] w fun e w' => e = .returned (.bool r) ∧ Drawn0 w w' := by
 have H : ((impl_within.f a0 1 3).bind fun t137 => (some t137)) = some r := h; clear h; replace H := Option.bind_eq_some_iff.mp H; obtain ⟨t137, A20, H⟩ := H; replace H : (some t137) = some r := H; have A2 := am A20; clear A20; obtain rfl := Option.some.inj H; go_enter Tryd.func59, Tryd.ntmps59
 go_wp2_with (first | ((with_reducible refine gate_callee (f := 115) rfl ?_); refine goesLA (some 4) Tryd.func115 #[.int .i64 a0, .int .i64 1, .int .i64 3] rfl rfl rfl (h := ?_); (with_reducible refine (impl_within.calls a0 1 3 t137 _ A2.out).mono ?_); rintro e w' ⟨rfl, ⟨nd, rfl⟩⟩; refine ⟨_, rfl, ?_⟩))
 go_ret; exact ⟨tF, tD⟩
def impl_asLongs.l0 : Nat → List Int → List Int → Int → Int → Option (List Int)
 | 0, _, _, _, _ => none
 | k + 1, x3, x6, x7, x8 => if x8 < x7 then (if 0 ≤ x8 then (if x8 < (x6.length : Int) then (if x3.length < 17592186044416 then (impl_asLongs.l0 k (x3 ++ [rd x6 x8]) x6 x7 (wrap64 (x8 + 1))) else (none)) else (none)) else (none)) else (some x3)
def impl_asLongs.f (k : Nat) (l0 : List Int) : Option (List Int) := impl_asLongs.l0 k ([] : List Int) l0 (l0.length : Int) 0
theorem impl_asLongs.calls (k : Nat) (A0 : Option Addr) (c0 : Nat) (l0 : List Int) (r : List Int) (w : World) (hr0 : Kd.C (Kd.int .i64) w A0 l0.length l0) (hc0 : l0.length ≤ c0) (h : impl_asLongs.f k l0 = some r) :
  Calls Tryd.prog 60 #[.slice A0 l0.length c0] w fun e w' => ∃ v0_ : Value, e = .returned (v0_) ∧ Kd.R (Kd.int .i64) 2 w' w.heap.size (fun _ => True) v0_ r ∧ Below w.heap.size w w' := by
 have HR0 := am hr0; have HC0 := am hc0; clear hr0 hc0; have HB := am (Below.refl w.heap.size w); have H : (impl_asLongs.l0 k ([] : List Int) l0 (l0.length : Int) 0) = some r := h; clear h; have H' := am H; clear H; go_enter Tryd.func60, Tryd.ntmps60; go_wp2
 go_loopg [3, 8] k (fun kq v3 v8 w' => ∃ (x3_1 : List Int) (x8_1 : Int), v8 = .int .i64 x8_1 ∧ Aside0 (impl_asLongs.l0 kq x3_1 l0 (l0.length : Int) x8_1 = some r) ∧ Aside0 (kq ≤ k) ∧ Aside0 (Kd.R (Kd.int .i64) 2 w' w.heap.size (fun _ => True) v3 x3_1) ∧ Aside0 (Below w.heap.size w w'))
 case atStart => exact ⟨(([] : List Int)), (0), (tF), H', ⟨Nat.le_refl _⟩, ⟨by first | exact Kd.R_nil _ _ _ _ _ | exact Kd.N_nil _ _ _ _ _ | exact Kd.V_nil _ _ _ _ _ | exact Kd.Q_nil _ _ _ _ _ | exact Kd.S_nil _ _ _ _ _⟩, ⟨tB⟩⟩
 case round =>
  clear H'; obtain ⟨x3_1, x8_1, rfl, HA, HK1, HO_3, HB⟩ := hrel
  cases gk with
  | zero => exact absurd HA.out (by simp [impl_asLongs.l0])
  | succ k1 =>
   have H := HA.out; clear HA; simp only [impl_asLongs.l0] at H; by_cases c2 : x8_1 < (l0.length : Int)
   ·rw [if_pos c2] at H; have c2b0 := decide_eq_true c2; clear c2; by_cases c3 : 0 ≤ x8_1
    ·rw [if_pos c3] at H; have c3b0 := decide_eq_true c3; clear c3; by_cases c4 : x8_1 < (l0.length : Int)
     ·rw [if_pos c4] at H; have c4b0 := decide_eq_true c4; clear c4; by_cases c5 : x3_1.length < 17592186044416
      ·rw [if_pos c5] at H; have LMc5 := am c5; clear c5; obtain ⟨y139, hy139⟩ : ∃ y_ : List Int, y_ = (x3_1 ++ [rd l0 x8_1]) := ⟨_, rfl⟩; replace H : (impl_asLongs.l0 k1 y139 l0 (l0.length : Int) (wrap64 (x8_1 + 1))) = some r := tY hy139 H; have Ny139 := am hy139; clear hy139; have H' := am H; clear H; have p138 : 0 ≤ (x8_1 : Int) := oA; have q138 : x8_1 < (l0.length : Int) := oA; obtain ⟨ad138, e138, hx138_0⟩ := Kd.at_int HR0.out x8_1 p138 q138; cases e138; replace hx138_0 := (HB.out.cell (World.block_lt_of_cell? w _ hx138_0)).trans hx138_0; replace p138 := eq_true p138; replace q138 := eq_true q138
       go_wp2_with (first | ((with_reducible refine gate_builtin (b := .append) (xs := #[.tmp 12, .tmp 14]) rfl ?_); at_builtin; refine Kd.R_append (Kd.int .i64) (w0 := w) w.heap.size rfl (.tmp 12) (.tmp 14) 25 2 (.int .i64 0) 8 rfl Tryd.underlying25 info2 rfl (by decide) (by omega) u3 x3_1 (rd l0 x8_1) [.int .i64 (rd l0 x8_1)] (fun _ => True) (fun _ => False) rfl rfl ?aP (fun _ hk => hk.elim) ?aF ?aO ?aB ?aS ?aL ?_; (case aP => exact rfl); (case aB => exact (tB)); (case aF => exact (fun _ _ => trivial)); (case aO => exact (tR HO_3.out)); (case aS => exact (below_size (tB))); (case aL => have := LMc5.out; omega); intro v140 w6 ho hb hg hat; rw [← Ny139.out] at ho; replace HB := am (hb); have HO141 := am (ho); clear HO_3; clear ho hb hg hat))
       go_roundg k1
       case measure => have := HK1.out; omega
       case rel => exact ⟨(y139), (wrap64 (x8_1 + 1)), (tF), H', ⟨by have := HK1.out; omega⟩, ⟨by refine tR ?_; exact HO141.out⟩, ⟨tB⟩⟩
      ·rw [if_neg c5] at H; exact absurd H (by simp)
     ·rw [if_neg c4] at H; exact absurd H (by simp)
    ·rw [if_neg c3] at H; exact absurd H (by simp)
   ·rw [if_neg c2] at H; have c2b0 := decide_eq_false c2; clear c2; obtain rfl := Option.some.inj H; go_wp2; go_ret; exact ⟨_, tE, by refine tR ?_; exact HO_3.out, tB⟩
def impl_columnOf.l0 : Nat → List Int → Int → Int → Option (Int)
 | 0, _, _, _ => none
 | k + 1, x0, x3, x4 => if x4 ≥ 0 then (if 0 ≤ x4 then (if x4 < (x0.length : Int) then (impl_columnOf.l0 k x0 (wrap64 ((wrap64 (3 * x3)) + (rd x0 x4))) (wrap64 (x4 - 1))) else (none)) else (none)) else (some x3)
def impl_columnOf.f (k : Nat) (l0 : List Int) : Option (Int) := impl_columnOf.l0 k l0 0 (wrap64 ((l0.length : Int) - 1))
theorem impl_columnOf.calls (k : Nat) (A0 : Option Addr) (c0 : Nat) (l0 : List Int) (r : Int) (w : World) (hr0 : Kd.C (Kd.int .i64) w A0 l0.length l0) (hc0 : l0.length ≤ c0) (h : impl_columnOf.f k l0 = some r) :
  Calls Tryd.prog 116 #[.slice A0 l0.length c0] w fun e w' => e = .returned (.int .i64 r) ∧ Drawn0 w w' := by
 have HR0 := am hr0; have HC0 := am hc0; clear hr0 hc0; have H : (impl_columnOf.l0 k l0 0 (wrap64 ((l0.length : Int) - 1))) = some r := h; clear h; have H' := am H; clear H; go_enter Tryd.func116, Tryd.ntmps116; go_wp2
 go_loopg [3, 4] k (fun kq v3 v4 w' => ∃ (x3_1 : Int) (x4_1 : Int), v3 = .int .i64 x3_1 ∧ v4 = .int .i64 x4_1 ∧ Aside0 (impl_columnOf.l0 kq l0 x3_1 x4_1 = some r) ∧ Aside0 (kq ≤ k) ∧ Drawn0 w w')
 case atStart => exact ⟨(0), (wrap64 ((l0.length : Int) - 1)), (tF), (tF), H', ⟨Nat.le_refl _⟩, tD⟩
 case round =>
  clear H'
  try clear c1
  obtain ⟨x3_1, x4_1, rfl, rfl, HA, HK1, ⟨m1, rfl⟩⟩ := hrel
  cases gk with
  | zero => exact absurd HA.out (by simp [impl_columnOf.l0])
  | succ k1 =>
   have H := HA.out; clear HA; simp only [impl_columnOf.l0] at H; by_cases c2 : x4_1 ≥ 0
   ·rw [if_pos c2] at H; have c2b0 : decide (0 ≤ x4_1) = true := decide_eq_true c2; clear c2; by_cases c3 : 0 ≤ x4_1
    ·rw [if_pos c3] at H; have c3b0 := decide_eq_true c3; clear c3; by_cases c4 : x4_1 < (l0.length : Int)
     ·rw [if_pos c4] at H; have c4b0 := decide_eq_true c4; clear c4; have H' := am H; clear H; have p142 : 0 ≤ (x4_1 : Int) := oA; have q142 : x4_1 < (l0.length : Int) := oA; obtain ⟨ad142, e142, hx142_0⟩ := Kd.at_int HR0.out x4_1 p142 q142; cases e142; replace p142 := eq_true p142; replace q142 := eq_true q142; go_wp2; go_roundg k1
      case measure => have := HK1.out; omega
      case rel => exact ⟨(wrap64 ((wrap64 (3 * x3_1)) + (rd l0 x4_1))), (wrap64 (x4_1 - 1)), (tF), (tF), H', ⟨by have := HK1.out; omega⟩, tD⟩
     ·rw [if_neg c4] at H; exact absurd H (by simp)
    ·rw [if_neg c3] at H; exact absurd H (by simp)
   ·rw [if_neg c2] at H; have c2b0 : decide (0 ≤ x4_1) = false := decide_eq_false c2; clear c2; obtain rfl := Option.some.inj H; go_wp2; go_ret; exact ⟨tF, tD⟩
mutual
def impl_columnsOf.l0 : Nat → List ByteArray → Int → List ByteArray → Int → Int → Option (List Int)
 | 0, _, _, _, _, _ => none
 | k + 1, x0, x3, x12, x13, x14 => if x14 < x13 then (if 0 ≤ x14 then (if x14 < (x12.length : Int) then (impl_columnsOf.l0 k x0 (mx x3 ((rdOf ByteArray.empty x12 x14).size : Int)) x12 x13 (wrap64 (x14 + 1))) else (none)) else (none)) else (impl_columnsOf.l1 k x0 x3 ([] : List Int) 0)
def impl_columnsOf.l1 : Nat → List ByteArray → Int → List Int → Int → Option (List Int)
 | 0, _, _, _, _ => none
 | k + 1, x0, x3, x6, x7 => if x7 < x3 then (impl_columnsOf.l2 k x0 x3 x6 x7 ([] : List Int) x0 (x0.length : Int) 0) else (some x6)
def impl_columnsOf.l2 : Nat → List ByteArray → Int → List Int → Int → List Int → List ByteArray → Int → Int → Option (List Int)
 | 0, _, _, _, _, _, _, _, _ => none
 | k + 1, x0, x3, x6, x7, x8, x28, x29, x30 => if x30 < x29 then (if 0 ≤ x30 then (if x30 < (x28.length : Int) then (if x7 < ((rdOf ByteArray.empty x28 x30).size : Int) then (if 0 ≤ x7 then (if x8.length < 17592186044416 then (impl_columnsOf.l2 k x0 x3 x6 x7 (x8 ++ [((bt (rdOf ByteArray.empty x28 x30) x7) - 97) % 256]) x28 x29 (wrap64 (x30 + 1))) else (none)) else (none)) else (if x8.length < 17592186044416 then (impl_columnsOf.l2 k x0 x3 x6 x7 (x8 ++ [2]) x28 x29 (wrap64 (x30 + 1))) else (none))) else (none)) else (none)) else ((impl_columnOf.f k x8).bind fun t151 => (if x6.length < 17592186044416 then (impl_columnsOf.l1 k x0 x3 (x6 ++ [t151]) (wrap64 (x7 + 1))) else (none)))
end
def impl_columnsOf.f (k : Nat) (l0 : List ByteArray) : Option (List Int) := impl_columnsOf.l0 k l0 0 l0 (l0.length : Int) 0
theorem impl_columnsOf.calls (k : Nat) (A0 : Option Addr) (c0 : Nat) (l0 : List ByteArray) (r : List Int) (w : World) (hr0 : Kd.C Kd.string w A0 l0.length l0) (hc0 : l0.length ≤ c0) (h : impl_columnsOf.f k l0 = some r) :
  Calls Tryd.prog 61 #[.slice A0 l0.length c0] w fun e w' => ∃ v0_ : Value, e = .returned (v0_) ∧ Kd.R (Kd.int .i64) 3 w' w.heap.size (fun _ => True) v0_ r ∧ Below w.heap.size w w' := by
 have HR0 := am hr0; have HC0 := am hc0; clear hr0 hc0; have HB := am (Below.refl w.heap.size w); have H : (impl_columnsOf.l0 k l0 0 l0 (l0.length : Int) 0) = some r := h; clear h; have H' := am H; clear H; go_enter Tryd.func61, Tryd.ntmps61; go_wp2
 go_loopg [3, 14] k (fun kq v3 v14 w' => ∃ (x3_1 : Int) (x14_1 : Int), v3 = .int .i64 x3_1 ∧ v14 = .int .i64 x14_1 ∧ Aside0 (impl_columnsOf.l0 kq l0 x3_1 l0 (l0.length : Int) x14_1 = some r) ∧ Aside0 (kq ≤ k) ∧ Aside0 (Below w.heap.size w w'))
 case atStart => exact ⟨(0), (0), (tF), (tF), H', ⟨Nat.le_refl _⟩, ⟨tB⟩⟩
 case round =>
  clear H'; obtain ⟨x3_1, x14_1, rfl, rfl, HA, HK1, HB⟩ := hrel
  cases gk with
  | zero => exact absurd HA.out (by simp [impl_columnsOf.l0])
  | succ k1 =>
   have H := HA.out; clear HA; simp only [impl_columnsOf.l0] at H; by_cases c2 : x14_1 < (l0.length : Int)
   ·rw [if_pos c2] at H; have c2b0 := decide_eq_true c2; clear c2; by_cases c3 : 0 ≤ x14_1
    ·rw [if_pos c3] at H; have c3b0 := decide_eq_true c3; clear c3; by_cases c4 : x14_1 < (l0.length : Int)
     ·rw [if_pos c4] at H; have c4b0 := decide_eq_true c4; clear c4; obtain ⟨ji5, hji5⟩ : ∃ j_ : Int, (mx x3_1 ((rdOf ByteArray.empty l0 x14_1).size : Int)) = j_ := ⟨_, rfl⟩
      replace H : (impl_columnsOf.l0 k1 l0 ji5 l0 (l0.length : Int) (wrap64 (x14_1 + 1))) = some r := by first | (rw [hji5] at H; exact H) | (simp only [hji5] at H ⊢; exact H)
      have hji5_ : (if x3_1 < ((rdOf ByteArray.empty l0 x14_1).size : Int) then ((rdOf ByteArray.empty l0 x14_1).size : Int) else x3_1) = ji5 := hji5; have H' := am H; clear H; have p143 : 0 ≤ (x14_1 : Int) := oA; have q143 : x14_1 < (l0.length : Int) := oA; obtain ⟨ad143, e143, hx143_0⟩ := Kd.at_string HR0.out x14_1 p143 q143; cases e143; replace hx143_0 := (HB.out.cell (World.block_lt_of_cell? w _ hx143_0)).trans hx143_0; replace p143 := eq_true p143; replace q143 := eq_true q143; go_wp2; go_roundg k1
      case measure => have := HK1.out; omega
      case rel => exact ⟨(ji5), (wrap64 (x14_1 + 1)), (by first | rfl | (simp; done) | (simp only [← hji5] <;> (first | rfl | simp)) | (simp [*]; done)), (tF), H', ⟨by have := HK1.out; omega⟩, ⟨tB⟩⟩
     ·rw [if_neg c4] at H; exact absurd H (by simp)
    ·rw [if_neg c3] at H; exact absurd H (by simp)
   ·rw [if_neg c2] at H; have c2b0 := decide_eq_false c2; clear c2; have H' := am H; clear H; go_wp2
    go_loopg [6, 7] k1 (fun kq v6 v7 w' => ∃ (x6_2 : List Int) (x7_2 : Int), v7 = .int .i64 x7_2 ∧ Aside0 (impl_columnsOf.l1 kq l0 x3_1 x6_2 x7_2 = some r) ∧ Aside0 (kq ≤ k1) ∧ Aside0 (Kd.R (Kd.int .i64) 3 w' w.heap.size (fun _ => True) v6 x6_2) ∧ Aside0 (Below w.heap.size w w'))
    case atStart => exact ⟨(([] : List Int)), (0), (tF), H', ⟨Nat.le_refl _⟩, ⟨by first | exact Kd.R_nil _ _ _ _ _ | exact Kd.N_nil _ _ _ _ _ | exact Kd.V_nil _ _ _ _ _ | exact Kd.Q_nil _ _ _ _ _ | exact Kd.S_nil _ _ _ _ _⟩, ⟨tB⟩⟩
    case round =>
     clear H'
     try clear p1; try clear q1; try clear hx1; try clear c2; try clear c2b0; try clear p2; try clear c3; try clear c3b0; try clear c4; try clear c4b0; try clear hx143_0; try clear p143; try clear q143
     obtain ⟨x6_2, x7_2, rfl, HA, HK2, HO_6, HB⟩ := hrel
     cases gk with
     | zero => exact absurd HA.out (by simp [impl_columnsOf.l1])
     | succ k2 =>
      have H := HA.out; clear HA; simp only [impl_columnsOf.l1] at H; by_cases c6 : x7_2 < x3_1
      ·rw [if_pos c6] at H; have c6b0 := decide_eq_true c6; clear c6; have H' := am H; clear H; go_wp2
       go_loopg [8, 30] k2 (fun kq v8 v30 w' => ∃ (x8_3 : List Int) (x30_3 : Int), v30 = .int .i64 x30_3 ∧ Aside0 (impl_columnsOf.l2 kq l0 x3_1 x6_2 x7_2 x8_3 l0 (l0.length : Int) x30_3 = some r) ∧ Aside0 (kq ≤ k2) ∧ Aside0 (Kd.R (Kd.int .i64) 3 w' w.heap.size (fun k_ => some k_ ≠ (v8 : Value).ownBlock) u6 x6_2) ∧ Aside0 (Kd.R (Kd.int .i64) 3 w' w.heap.size (fun k_ => some k_ ≠ (u6 : Value).ownBlock) v8 x8_3) ∧ Aside0 (Below w.heap.size w w'))
       case atStart => exact ⟨(([] : List Int)), (0), (tF), H', ⟨Nat.le_refl _⟩, ⟨by refine tR ?_; exact Kd.R_mono HO_6.out (fun _ hk => (by simp [Value.ownBlock]))⟩, ⟨by first | exact Kd.R_nil _ _ _ _ _ | exact Kd.N_nil _ _ _ _ _ | exact Kd.V_nil _ _ _ _ _ | exact Kd.Q_nil _ _ _ _ _ | exact Kd.S_nil _ _ _ _ _⟩, ⟨tB⟩⟩
       case round =>
        clear H'
        try clear p1; try clear q1; try clear hx1; try clear c2; try clear c2b0; try clear p2; try clear c3; try clear c3b0; try clear c4; try clear c4b0; try clear c6; try clear c6b0; try clear p6; try clear hx143_0; try clear p1; try clear p143; try clear p2; try clear q1; try clear q143
        obtain ⟨x8_3, x30_3, rfl, HA, HK3, HO_6, HO_8, HB⟩ := hrel
        cases gk with
        | zero => exact absurd HA.out (by simp [impl_columnsOf.l2])
        | succ k3 =>
         have H := HA.out; clear HA; simp only [impl_columnsOf.l2] at H; by_cases c7 : x30_3 < (l0.length : Int)
         ·rw [if_pos c7] at H; have c7b0 := decide_eq_true c7; clear c7; by_cases c8 : 0 ≤ x30_3
          ·rw [if_pos c8] at H; have c8b0 := decide_eq_true c8; clear c8; by_cases c9 : x30_3 < (l0.length : Int)
           ·rw [if_pos c9] at H; have c9b0 := decide_eq_true c9; clear c9; by_cases c10 : x7_2 < ((rdOf ByteArray.empty l0 x30_3).size : Int)
            ·rw [if_pos c10] at H; have c10b0 := decide_eq_true c10; clear c10; by_cases c11 : 0 ≤ x7_2
             ·rw [if_pos c11] at H; have c11b0 := decide_eq_true c11; clear c11; by_cases c13 : x8_3.length < 17592186044416
              ·rw [if_pos c13] at H; have LMc13 := am c13; clear c13; obtain ⟨y145, hy145⟩ : ∃ y_ : List Int, y_ = (x8_3 ++ [((bt (rdOf ByteArray.empty l0 x30_3) x7_2) - 97) % 256]) := ⟨_, rfl⟩; replace H : (impl_columnsOf.l2 k3 l0 x3_1 x6_2 x7_2 y145 l0 (l0.length : Int) (wrap64 (x30_3 + 1))) = some r := tY hy145 H; have Ny145 := am hy145; clear hy145; have H' := am H; clear H; have p144 : 0 ≤ (x30_3 : Int) := oA; have q144 : x30_3 < (l0.length : Int) := oA; obtain ⟨ad144, e144, hx144_0⟩ := Kd.at_string HR0.out x30_3 p144 q144; cases e144; replace hx144_0 := (HB.out.cell (World.block_lt_of_cell? w _ hx144_0)).trans hx144_0; replace p144 := eq_true p144; replace q144 := eq_true q144; have p12 : 0 ≤ (x7_2 : Int) := oA; have q12 : x7_2 < ((rdOf ByteArray.empty l0 x30_3).size : Int) := oA; have hx12 := bt_at (rdOf ByteArray.empty l0 x30_3) x7_2; replace p12 := eq_true p12; replace q12 := eq_true q12
               go_wp2_with (first | ((with_reducible refine gate_builtin (b := .append) (xs := #[.tmp 43, .tmp 45]) rfl ?_); at_builtin; refine Kd.R_append (Kd.int .i64) (w0 := w) w.heap.size rfl (.tmp 43) (.tmp 45) 68 3 (.int .i64 0) 8 rfl Tryd.underlying68 info3 rfl (by decide) (by omega) u8 x8_3 (((bt (rdOf ByteArray.empty l0 x30_3) x7_2) - 97) % 256) [.int .i64 (((bt (rdOf ByteArray.empty l0 x30_3) x7_2) - 97) % 256)] (fun k_ => some k_ ≠ (u6 : Value).ownBlock) (fun _ => False) rfl rfl ?aP (fun _ hk => hk.elim) ?aF ?aO ?aB ?aS ?aL ?_; (case aP => exact rfl); (case aB => exact (tB)); (case aF => exact (fun k_ hk => Kd.fresh' (Kd.R_lt (tR HO_6.out)) k_ hk)); (case aO => exact (tR HO_8.out)); (case aS => exact (below_size (tB))); (case aL => have := LMc13.out; omega); intro v146 w14 ho hb hg hat; rw [← Ny145.out] at ho; replace HO_6 := am (Kd.R_after (ok := (fun _ => True)) (by refine tR ?_; exact Kd.R_mono HO_6.out (fun _ hk => ⟨trivial, hk⟩)) hg hat); replace HB := am (hb); have HO147 := am (ho); clear HO_8; clear ho hb hg hat))
               go_roundg k3
               case measure => have := HK1.out; have := HK2.out; have := HK3.out; omega
               case rel => exact ⟨(y145), (wrap64 (x30_3 + 1)), (tF), H', ⟨by have := HK1.out; have := HK2.out; have := HK3.out; omega⟩, ⟨by refine tR ?_; exact Kd.R_mono HO_6.out (fun _ hk => hk.2)⟩, ⟨by refine tR ?_; exact HO147.out⟩, ⟨tB⟩⟩
              ·rw [if_neg c13] at H; exact absurd H (by simp)
             ·rw [if_neg c11] at H; exact absurd H (by simp)
            ·rw [if_neg c10] at H; have c10b0 := decide_eq_false c10; clear c10; by_cases c15 : x8_3.length < 17592186044416
             ·rw [if_pos c15] at H; have LMc15 := am c15; clear c15; obtain ⟨y148, hy148⟩ : ∃ y_ : List Int, y_ = (x8_3 ++ [2]) := ⟨_, rfl⟩; replace H : (impl_columnsOf.l2 k3 l0 x3_1 x6_2 x7_2 y148 l0 (l0.length : Int) (wrap64 (x30_3 + 1))) = some r := tY hy148 H; have Ny148 := am hy148; clear hy148; have H' := am H; clear H; have p144 : 0 ≤ (x30_3 : Int) := oA; have q144 : x30_3 < (l0.length : Int) := oA; obtain ⟨ad144, e144, hx144_0⟩ := Kd.at_string HR0.out x30_3 p144 q144; cases e144; replace hx144_0 := (HB.out.cell (World.block_lt_of_cell? w _ hx144_0)).trans hx144_0; replace p144 := eq_true p144; replace q144 := eq_true q144
              go_wp2_with (first | ((with_reducible refine gate_builtin (b := .append) (xs := #[.tmp 43, .tmp 45]) rfl ?_); at_builtin; refine Kd.R_append (Kd.int .i64) (w0 := w) w.heap.size rfl (.tmp 43) (.tmp 45) 68 3 (.int .i64 0) 8 rfl Tryd.underlying68 info3 rfl (by decide) (by omega) u8 x8_3 2 [.int .i64 2] (fun k_ => some k_ ≠ (u6 : Value).ownBlock) (fun _ => False) rfl rfl ?aP (fun _ hk => hk.elim) ?aF ?aO ?aB ?aS ?aL ?_; (case aP => exact rfl); (case aB => exact (tB)); (case aF => exact (fun k_ hk => Kd.fresh' (Kd.R_lt (tR HO_6.out)) k_ hk)); (case aO => exact (tR HO_8.out)); (case aS => exact (below_size (tB))); (case aL => have := LMc15.out; omega); intro v149 w16 ho hb hg hat; rw [← Ny148.out] at ho; replace HO_6 := am (Kd.R_after (ok := (fun _ => True)) (by refine tR ?_; exact Kd.R_mono HO_6.out (fun _ hk => ⟨trivial, hk⟩)) hg hat); replace HB := am (hb); have HO150 := am (ho); clear HO_8; clear ho hb hg hat))
              go_roundg k3
              case measure => have := HK1.out; have := HK2.out; have := HK3.out; omega
              case rel => exact ⟨(y148), (wrap64 (x30_3 + 1)), (tF), H', ⟨by have := HK1.out; have := HK2.out; have := HK3.out; omega⟩, ⟨by refine tR ?_; exact Kd.R_mono HO_6.out (fun _ hk => hk.2)⟩, ⟨by refine tR ?_; exact HO150.out⟩, ⟨tB⟩⟩
             ·rw [if_neg c15] at H; exact absurd H (by simp)
           ·rw [if_neg c9] at H; exact absurd H (by simp)
          ·rw [if_neg c8] at H; exact absurd H (by simp)
         ·rw [if_neg c7] at H; have c7b0 := decide_eq_false c7; clear c7; replace H := Option.bind_eq_some_iff.mp H; obtain ⟨t151, A170, H⟩ := H; replace H : (if x6_2.length < 17592186044416 then (impl_columnsOf.l1 k3 l0 x3_1 (x6_2 ++ [t151]) (wrap64 (x7_2 + 1))) else (none)) = some r := H; have A17 := am A170; clear A170; by_cases c18 : x6_2.length < 17592186044416
          ·rw [if_pos c18] at H; have LMc18 := am c18; clear c18; obtain ⟨y152, hy152⟩ : ∃ y_ : List Int, y_ = (x6_2 ++ [t151]) := ⟨_, rfl⟩; replace H : (impl_columnsOf.l1 k3 l0 x3_1 y152 (wrap64 (x7_2 + 1))) = some r := tY hy152 H; have Ny152 := am hy152; clear hy152; have H' := am H; clear H; obtain ⟨Ao19, co19, eo19⟩ := Kd.R_slice HO_8.out; subst eo19
           go_wp2_with (first | ((with_reducible refine gate_callee (f := 116) rfl ?_); refine goesLA (some 50) Tryd.func116 #[.slice Ao19 x8_3.length co19] rfl rfl rfl (h := ?_); (with_reducible refine (impl_columnOf.calls k3 _ _ x8_3 t151 _ ?side1 ?side2 A17.out).mono ?_); (case side1 => repeat (first | exact (Kd.R_reads' HO_8.out).2.2 | (with_reducible refine Kd.C_alloc ?_ _) | (with_reducible refine Kd.C_drewN ?_ _) | (with_reducible refine Kd.C_drew ?_))); (case side2 => exact (Kd.R_reads' HO_8.out).2.1); rintro e w' ⟨rfl, ⟨nd, rfl⟩⟩; refine ⟨_, rfl, ?_⟩) | ((with_reducible refine gate_builtin (b := .append) (xs := #[.tmp 48, .tmp 51]) rfl ?_); at_builtin; refine Kd.R_append (Kd.int .i64) (w0 := w) w.heap.size rfl (.tmp 48) (.tmp 51) 68 3 (.int .i64 0) 8 rfl Tryd.underlying68 info3 rfl (by decide) (by omega) u6 x6_2 t151 [.int .i64 t151] (fun k_ => some k_ ≠ (.slice Ao19 x8_3.length co19 : Value).ownBlock) (fun _ => False) rfl rfl ?aP (fun _ hk => hk.elim) ?aF ?aO ?aB ?aS ?aL ?_; (case aP => exact rfl); (case aB => exact (tB)); (case aF => exact (fun k_ hk => Kd.fresh' (Kd.R_lt (tR HO_8.out)) k_ hk)); (case aO => exact (tR HO_6.out)); (case aS => exact (below_size (tB))); (case aL => have := LMc18.out; omega); intro v153 w20 ho hb hg hat; rw [← Ny152.out] at ho; replace HO_8 := am (Kd.R_after (ok := (fun _ => True)) (by refine tR ?_; exact Kd.R_mono HO_8.out (fun _ hk => ⟨trivial, hk⟩)) hg hat); replace HB := am (hb); have HO154 := am (ho); clear HO_6; clear ho hb hg hat))
           go_roundg k3
           case measure => have := HK1.out; have := HK2.out; have := HK3.out; omega
           case rel => exact ⟨(y152), (wrap64 (x7_2 + 1)), (tF), H', ⟨by have := HK1.out; have := HK2.out; have := HK3.out; omega⟩, ⟨by refine tR ?_; exact Kd.R_mono HO154.out (fun _ hk => trivial)⟩, ⟨tB⟩⟩
          ·rw [if_neg c18] at H; exact absurd H (by simp)
      ·rw [if_neg c6] at H; have c6b0 := decide_eq_false c6; clear c6; obtain rfl := Option.some.inj H; go_wp2; go_ret; exact ⟨_, tE, by refine tR ?_; exact HO_6.out, tB⟩
def impl_ColumnsOf.f (k : Nat) (l0 : List ByteArray) : Option (List Int × Int) := (impl_areWords.f k l0).bind fun t155 => (if t155 = true then ((impl_areTapes.f (l0.length : Int)).bind fun t156 => (if t156 = true then ((impl_columnsOf.f k l0).bind fun t157 => ((impl_asLongs.f k t157).bind fun t160 => (some (t160, 0)))) else (some (([] : List Int), 2)))) else (some (([] : List Int), 1)))
theorem impl_ColumnsOf.calls (k : Nat) (A0 : Option Addr) (c0 : Nat) (l0 : List ByteArray) (r1 : List Int) (r2 : Int) (w : World) (hr0 : Kd.C Kd.string w A0 l0.length l0) (hc0 : l0.length ≤ c0) (h : impl_ColumnsOf.f k l0 = some (r1, r2)) :
  Calls Tryd.prog 19 #[.slice A0 l0.length c0] w fun e w' => ∃ v0_ : Value, e = .returned (.tuple #[v0_, .int .i64 r2]) ∧ Kd.R (Kd.int .i64) 2 w' w.heap.size (fun _ => True) v0_ r1 ∧ Below w.heap.size w w' := by
 have HR0 := am hr0; have HC0 := am hc0; clear hr0 hc0; have HB := am (Below.refl w.heap.size w); have H : ((impl_areWords.f k l0).bind fun t155 => (if t155 = true then ((impl_areTapes.f (l0.length : Int)).bind fun t156 => (if t156 = true then ((impl_columnsOf.f k l0).bind fun t157 => ((impl_asLongs.f k t157).bind fun t160 => (some (t160, 0)))) else (some (([] : List Int), 2)))) else (some (([] : List Int), 1)))) = some (r1, r2) := h; clear h; replace H := Option.bind_eq_some_iff.mp H; obtain ⟨t155, A20, H⟩ := H; replace H : (if t155 = true then ((impl_areTapes.f (l0.length : Int)).bind fun t156 => (if t156 = true then ((impl_columnsOf.f k l0).bind fun t157 => ((impl_asLongs.f k t157).bind fun t160 => (some (t160, 0)))) else (some (([] : List Int), 2)))) else (some (([] : List Int), 1))) = some (r1, r2) := H; have A2 := am A20; clear A20; by_cases c3 : t155 = true
 ·subst c3; (have H1 : ((impl_areTapes.f (l0.length : Int)).bind fun t156 => (if t156 = true then ((impl_columnsOf.f k l0).bind fun t157 => ((impl_asLongs.f k t157).bind fun t160 => (some (t160, 0)))) else (some (([] : List Int), 2)))) = some (r1, r2) := by rw [if_pos rfl] at H; exact H); clear H; have H := H1; clear H1; replace H := Option.bind_eq_some_iff.mp H; obtain ⟨t156, A40, H⟩ := H; replace H : (if t156 = true then ((impl_columnsOf.f k l0).bind fun t157 => ((impl_asLongs.f k t157).bind fun t160 => (some (t160, 0)))) else (some (([] : List Int), 2))) = some (r1, r2) := H; have A4 := am A40; clear A40; by_cases c5 : t156 = true
  ·subst c5; (have H1 : ((impl_columnsOf.f k l0).bind fun t157 => ((impl_asLongs.f k t157).bind fun t160 => (some (t160, 0)))) = some (r1, r2) := by rw [if_pos rfl] at H; exact H); clear H; have H := H1; clear H1; replace H := Option.bind_eq_some_iff.mp H; obtain ⟨t157, A60, H⟩ := H; replace H : ((impl_asLongs.f k t157).bind fun t160 => (some (t160, 0))) = some (r1, r2) := H; have A6 := am A60; clear A60; replace H := Option.bind_eq_some_iff.mp H; obtain ⟨t160, A70, H⟩ := H; replace H : (some (t160, 0)) = some (r1, r2) := H; have A7 := am A70; clear A70; simp only [Option.some.injEq, Prod.mk.injEq] at H; obtain ⟨rfl, rfl⟩ := H; go_enter Tryd.func19, Tryd.ntmps19
   go_wp2_with (first | ((with_reducible refine gate_callee (f := 58) rfl ?_); refine goesLA (some 6) Tryd.func58 #[.slice A0 l0.length c0] rfl rfl rfl (h := ?_); (with_reducible refine (impl_areWords.calls k _ _ l0 true _ ?side1 ?side2 A2.out).mono ?_); (case side1 => repeat (first | exact HR0.out | (with_reducible refine Kd.C_alloc ?_ _) | (with_reducible refine Kd.C_drewN ?_ _) | (with_reducible refine Kd.C_drew ?_))); (case side2 => exact HC0.out); rintro e w8 ⟨rfl, hb⟩; refine ⟨_, rfl, ?_⟩; replace HB := am (below_step (tB) hb); (try clear hb); (try clear hb2); (try clear hk); (try clear hi)) | ((with_reducible refine gate_callee (f := 59) rfl ?_); refine goesLA (some 11) Tryd.func59 #[.int .i64 (l0.length : Int)] rfl rfl rfl (h := ?_); (with_reducible refine (impl_areTapes.calls (l0.length : Int) true _ A4.out).mono ?_); rintro e w' ⟨rfl, ⟨nd, rfl⟩⟩; refine ⟨_, rfl, ?_⟩) | ((with_reducible refine gate_callee (f := 61) rfl ?_); refine goesLA (some 14) Tryd.func61 #[.slice A0 l0.length c0] rfl rfl rfl (h := ?_); (with_reducible refine (impl_columnsOf.calls k _ _ l0 t157 _ ?side1 ?side2 A6.out).mono ?_); (case side1 => repeat (first | exact (Kd.C_below HR0.out (tB)) | (with_reducible refine Kd.C_alloc ?_ _) | (with_reducible refine Kd.C_drewN ?_ _) | (with_reducible refine Kd.C_drew ?_))); (case side2 => exact HC0.out); rintro e w9 ⟨v158, rfl, ho0, hb⟩; refine ⟨_, rfl, ?_⟩; have HO159 := am (Kd.R_lower ho0 (below_size (tB))); replace HB := am (below_step (tB) hb); (try clear hb); (try clear hb2); (try clear hk); (try clear hi); (try clear ho0); obtain ⟨Ao10, co10, eo10⟩ := Kd.R_slice HO159.out; subst eo10) | ((with_reducible refine gate_callee (f := 60) rfl ?_); refine goesLA (some 15) Tryd.func60 #[.slice Ao10 t157.length co10] rfl rfl rfl (h := ?_); (with_reducible refine (impl_asLongs.calls k _ _ t157 t160 _ ?side1 ?side2 A7.out).mono ?_); (case side1 => repeat (first | exact (Kd.R_reads' HO159.out).2.2 | (with_reducible refine Kd.C_alloc ?_ _) | (with_reducible refine Kd.C_drewN ?_ _) | (with_reducible refine Kd.C_drew ?_))); (case side2 => exact (Kd.R_reads' HO159.out).2.1); rintro e w11 ⟨v161, rfl, ho0, hb⟩; refine ⟨_, rfl, ?_⟩; replace HO159 := am (Kd.R_below (tR HO159.out) hb); have HO162 := am (Kd.R_lower ho0 (below_size (tB))); replace HB := am (below_step (tB) hb); (try clear hb); (try clear hb2); (try clear hk); (try clear hi); (try clear ho0)))
   go_ret2; exact ⟨_, tE, by refine tR ?_; exact HO162.out, tB⟩
  ·replace c5 := Bool.eq_false_iff.mpr c5; subst c5; (have H1 : (some (([] : List Int), 2)) = some (r1, r2) := by rw [if_neg (show ¬ (false = true) by decide)] at H; exact H); clear H; have H := H1; clear H1; simp only [Option.some.injEq, Prod.mk.injEq] at H; obtain ⟨rfl, rfl⟩ := H; go_enter Tryd.func19, Tryd.ntmps19
   go_wp2_with (first | ((with_reducible refine gate_callee (f := 58) rfl ?_); refine goesLA (some 6) Tryd.func58 #[.slice A0 l0.length c0] rfl rfl rfl (h := ?_); (with_reducible refine (impl_areWords.calls k _ _ l0 true _ ?side1 ?side2 A2.out).mono ?_); (case side1 => repeat (first | exact HR0.out | (with_reducible refine Kd.C_alloc ?_ _) | (with_reducible refine Kd.C_drewN ?_ _) | (with_reducible refine Kd.C_drew ?_))); (case side2 => exact HC0.out); rintro e w12 ⟨rfl, hb⟩; refine ⟨_, rfl, ?_⟩; replace HB := am (below_step (tB) hb); (try clear hb); (try clear hb2); (try clear hk); (try clear hi)) | ((with_reducible refine gate_callee (f := 59) rfl ?_); refine goesLA (some 11) Tryd.func59 #[.int .i64 (l0.length : Int)] rfl rfl rfl (h := ?_); (with_reducible refine (impl_areTapes.calls (l0.length : Int) false _ A4.out).mono ?_); rintro e w' ⟨rfl, ⟨nd, rfl⟩⟩; refine ⟨_, rfl, ?_⟩))
   go_ret2; exact ⟨_, tE, by first | exact Kd.R_nil _ _ _ _ _ | exact Kd.N_nil _ _ _ _ _ | exact Kd.V_nil _ _ _ _ _ | exact Kd.Q_nil _ _ _ _ _ | exact Kd.S_nil _ _ _ _ _, tB⟩
 ·replace c3 := Bool.eq_false_iff.mpr c3; subst c3; (have H1 : (some (([] : List Int), 1)) = some (r1, r2) := by rw [if_neg (show ¬ (false = true) by decide)] at H; exact H); clear H; have H := H1; clear H1; simp only [Option.some.injEq, Prod.mk.injEq] at H; obtain ⟨rfl, rfl⟩ := H; go_enter Tryd.func19, Tryd.ntmps19
  go_wp2_with (first | ((with_reducible refine gate_callee (f := 58) rfl ?_); refine goesLA (some 6) Tryd.func58 #[.slice A0 l0.length c0] rfl rfl rfl (h := ?_); (with_reducible refine (impl_areWords.calls k _ _ l0 false _ ?side1 ?side2 A2.out).mono ?_); (case side1 => repeat (first | exact HR0.out | (with_reducible refine Kd.C_alloc ?_ _) | (with_reducible refine Kd.C_drewN ?_ _) | (with_reducible refine Kd.C_drew ?_))); (case side2 => exact HC0.out); rintro e w13 ⟨rfl, hb⟩; refine ⟨_, rfl, ?_⟩; replace HB := am (below_step (tB) hb); (try clear hb); (try clear hb2); (try clear hk); (try clear hi)))
  go_ret2; exact ⟨_, tE, by first | exact Kd.R_nil _ _ _ _ _ | exact Kd.N_nil _ _ _ _ _ | exact Kd.V_nil _ _ _ _ _ | exact Kd.Q_nil _ _ _ _ _ | exact Kd.S_nil _ _ _ _ _, tB⟩
def laws_eqInt64S.l0 : Nat → List Int → List Int → Int → Option (Bool)
 | 0, _, _, _ => none
 | k + 1, x0, x1, x5 => if x5 < (x0.length : Int) then (if 0 ≤ x5 then (if x5 < (x1.length : Int) then (if (rd x0 x5) = (rd x1 x5) then (laws_eqInt64S.l0 k x0 x1 (wrap64 (x5 + 1))) else (some false)) else (none)) else (none)) else (some true)
def laws_eqInt64S.f (k : Nat) (l0 : List Int) (l1 : List Int) : Option (Bool) := if (l0.length : Int) = (l1.length : Int) then (laws_eqInt64S.l0 k l0 l1 0) else (some false)
theorem laws_eqInt64S.calls (k : Nat) (A0 : Option Addr) (c0 : Nat) (l0 : List Int) (A1 : Option Addr) (c1 : Nat) (l1 : List Int) (r : Bool) (w : World) (hr0 : Kd.C (Kd.int .i64) w A0 l0.length l0) (hc0 : l0.length ≤ c0) (hr1 : Kd.C (Kd.int .i64) w A1 l1.length l1) (hc1 : l1.length ≤ c1) (h : laws_eqInt64S.f k l0 l1 = some r) :
  Calls Tryd.prog 20 #[.slice A0 l0.length c0, .slice A1 l1.length c1] w fun e w' => e = .returned (.bool r) ∧ Drawn0 w w' := by
 have HR0 := am hr0; have HC0 := am hc0; clear hr0 hc0; have HR1 := am hr1; have HC1 := am hc1; clear hr1 hc1; have H : (if (l0.length : Int) = (l1.length : Int) then (laws_eqInt64S.l0 k l0 l1 0) else (some false)) = some r := h; clear h; by_cases c3 : (l0.length : Int) = (l1.length : Int)
 ·rw [if_pos c3] at H; have c3b0 : ((l0.length : Int) == (l1.length : Int)) = true := beq_iff_eq.mpr c3; have c3b1 : ((l0.length : Int) != (l1.length : Int)) = false := bne_eq_false_iff_eq.mpr c3
  have c3b2 : (l0.length == l1.length) = true := by first | simpa using c3 | (simp at c3 ⊢; omega)
  clear c3; have H' := am H; clear H; go_enter Tryd.func20, Tryd.ntmps20; go_wp2
  repeat (go_quiet (fail); try go_wp2)
  go_loopg [5] k (fun kq v5 w' => ∃ (x5_1 : Int), v5 = .int .i64 x5_1 ∧ Aside0 (laws_eqInt64S.l0 kq l0 l1 x5_1 = some r) ∧ Aside0 (kq ≤ k) ∧ Drawn0 w w')
  case atStart => exact ⟨(0), (tF), H', ⟨Nat.le_refl _⟩, tD⟩
  case round =>
   clear H'
   try clear c1; try clear c2; try clear p2; try clear c3; try clear c3b0; try clear c3b1; try clear c3b2
   obtain ⟨x5_1, rfl, HA, HK1, ⟨m1, rfl⟩⟩ := hrel
   cases gk with
   | zero => exact absurd HA.out (by simp [laws_eqInt64S.l0])
   | succ k1 =>
    have H := HA.out; clear HA; simp only [laws_eqInt64S.l0] at H; by_cases c4 : x5_1 < (l0.length : Int)
    ·rw [if_pos c4] at H; have c4b0 := decide_eq_true c4; clear c4; by_cases c5 : 0 ≤ x5_1
     ·rw [if_pos c5] at H; have c5b0 := decide_eq_true c5; clear c5; by_cases c6 : x5_1 < (l1.length : Int)
      ·rw [if_pos c6] at H; have c6b0 := decide_eq_true c6; clear c6; by_cases c7 : (rd l0 x5_1) = (rd l1 x5_1)
       ·rw [if_pos c7] at H; have c7b0 : ((rd l0 x5_1) == (rd l1 x5_1)) = true := beq_iff_eq.mpr c7; have c7b1 : ((rd l0 x5_1) != (rd l1 x5_1)) = false := bne_eq_false_iff_eq.mpr c7; clear c7; have H' := am H; clear H; have p163 : 0 ≤ (x5_1 : Int) := oA; have q163 : x5_1 < (l0.length : Int) := oA; obtain ⟨ad163, e163, hx163_0⟩ := Kd.at_int HR0.out x5_1 p163 q163; cases e163; replace p163 := eq_true p163; replace q163 := eq_true q163; have p164 : 0 ≤ (x5_1 : Int) := oA; have q164 : x5_1 < (l1.length : Int) := oA; obtain ⟨ad164, e164, hx164_0⟩ := Kd.at_int HR1.out x5_1 p164 q164; cases e164; replace p164 := eq_true p164; replace q164 := eq_true q164; go_wp2
        repeat (go_quiet (fail); try go_wp2)
        go_roundg k1
        case measure => have := HK1.out; omega
        case rel => exact ⟨(wrap64 (x5_1 + 1)), (tF), H', ⟨by have := HK1.out; omega⟩, tD⟩
       ·rw [if_neg c7] at H; have c7b0 : ((rd l0 x5_1) == (rd l1 x5_1)) = false := beq_eq_false_iff_ne.mpr c7; have c7b1 : ((rd l0 x5_1) != (rd l1 x5_1)) = true := bne_iff_ne.mpr c7; obtain rfl := Option.some.inj H; have p163 : 0 ≤ (x5_1 : Int) := oA; have q163 : x5_1 < (l0.length : Int) := oA; obtain ⟨ad163, e163, hx163_0⟩ := Kd.at_int HR0.out x5_1 p163 q163; cases e163; replace p163 := eq_true p163; replace q163 := eq_true q163; have p164 : 0 ≤ (x5_1 : Int) := oA; have q164 : x5_1 < (l1.length : Int) := oA; obtain ⟨ad164, e164, hx164_0⟩ := Kd.at_int HR1.out x5_1 p164 q164; cases e164; replace p164 := eq_true p164; replace q164 := eq_true q164; go_wp2
        repeat (go_quiet (fail); try go_wp2)
        go_ret; exact ⟨tF, tD⟩
      ·rw [if_neg c6] at H; exact absurd H (by simp)
     ·rw [if_neg c5] at H; exact absurd H (by simp)
    ·rw [if_neg c4] at H; have c4b0 := decide_eq_false c4; clear c4; obtain rfl := Option.some.inj H; go_wp2
     repeat (go_quiet (fail); try go_wp2)
     go_ret; exact ⟨tF, tD⟩
 ·rw [if_neg c3] at H; have c3b0 : ((l0.length : Int) == (l1.length : Int)) = false := beq_eq_false_iff_ne.mpr c3; have c3b1 : ((l0.length : Int) != (l1.length : Int)) = true := bne_iff_ne.mpr c3
  have c3b2 : (l0.length == l1.length) = false := by first | simpa using c3 | (simp at c3 ⊢; omega)
  obtain rfl := Option.some.inj H; go_enter Tryd.func20, Tryd.ntmps20; go_wp2
  repeat (go_quiet (fail); try go_wp2)
  go_ret; exact ⟨tF, tD⟩
def laws_eqStringS.l0 : Nat → List ByteArray → List ByteArray → Int → Option (Bool)
 | 0, _, _, _ => none
 | k + 1, x0, x1, x5 => if x5 < (x0.length : Int) then (if 0 ≤ x5 then (if x5 < (x1.length : Int) then (if (rdOf ByteArray.empty x0 x5).toList = (rdOf ByteArray.empty x1 x5).toList then (laws_eqStringS.l0 k x0 x1 (wrap64 (x5 + 1))) else (some false)) else (none)) else (none)) else (some true)
def laws_eqStringS.f (k : Nat) (l0 : List ByteArray) (l1 : List ByteArray) : Option (Bool) := if (l0.length : Int) = (l1.length : Int) then (laws_eqStringS.l0 k l0 l1 0) else (some false)
theorem laws_eqStringS.calls (k : Nat) (A0 : Option Addr) (c0 : Nat) (l0 : List ByteArray) (A1 : Option Addr) (c1 : Nat) (l1 : List ByteArray) (r : Bool) (w : World) (hr0 : Kd.C Kd.string w A0 l0.length l0) (hc0 : l0.length ≤ c0) (hr1 : Kd.C Kd.string w A1 l1.length l1) (hc1 : l1.length ≤ c1) (h : laws_eqStringS.f k l0 l1 = some r) :
  Calls Tryd.prog 21 #[.slice A0 l0.length c0, .slice A1 l1.length c1] w fun e w' => e = .returned (.bool r) ∧ Drawn0 w w' := by
 have HR0 := am hr0; have HC0 := am hc0; clear hr0 hc0; have HR1 := am hr1; have HC1 := am hc1; clear hr1 hc1; have H : (if (l0.length : Int) = (l1.length : Int) then (laws_eqStringS.l0 k l0 l1 0) else (some false)) = some r := h; clear h; by_cases c3 : (l0.length : Int) = (l1.length : Int)
 ·rw [if_pos c3] at H; have c3b0 : ((l0.length : Int) == (l1.length : Int)) = true := beq_iff_eq.mpr c3; have c3b1 : ((l0.length : Int) != (l1.length : Int)) = false := bne_eq_false_iff_eq.mpr c3
  have c3b2 : (l0.length == l1.length) = true := by first | simpa using c3 | (simp at c3 ⊢; omega)
  clear c3; have H' := am H; clear H; go_enter Tryd.func21, Tryd.ntmps21; go_wp2
  repeat (go_quiet (fail); try go_wp2)
  go_loopg [5] k (fun kq v5 w' => ∃ (x5_1 : Int), v5 = .int .i64 x5_1 ∧ Aside0 (laws_eqStringS.l0 kq l0 l1 x5_1 = some r) ∧ Aside0 (kq ≤ k) ∧ Drawn0 w w')
  case atStart => exact ⟨(0), (tF), H', ⟨Nat.le_refl _⟩, tD⟩
  case round =>
   clear H'
   try clear c1; try clear c2; try clear p2; try clear c3; try clear c3b0; try clear c3b1; try clear c3b2
   obtain ⟨x5_1, rfl, HA, HK1, ⟨m1, rfl⟩⟩ := hrel
   cases gk with
   | zero => exact absurd HA.out (by simp [laws_eqStringS.l0])
   | succ k1 =>
    have H := HA.out; clear HA; simp only [laws_eqStringS.l0] at H; by_cases c4 : x5_1 < (l0.length : Int)
    ·rw [if_pos c4] at H; have c4b0 := decide_eq_true c4; clear c4; by_cases c5 : 0 ≤ x5_1
     ·rw [if_pos c5] at H; have c5b0 := decide_eq_true c5; clear c5; by_cases c6 : x5_1 < (l1.length : Int)
      ·rw [if_pos c6] at H; have c6b0 := decide_eq_true c6; clear c6; by_cases c7 : (rdOf ByteArray.empty l0 x5_1).toList = (rdOf ByteArray.empty l1 x5_1).toList
       ·rw [if_pos c7] at H; have c7b0 : ((rdOf ByteArray.empty l0 x5_1).toList == (rdOf ByteArray.empty l1 x5_1).toList) = true := beq_iff_eq.mpr c7; have c7b1 : ((rdOf ByteArray.empty l0 x5_1).toList != (rdOf ByteArray.empty l1 x5_1).toList) = false := bne_eq_false_iff_eq.mpr c7; clear c7; have H' := am H; clear H; have p165 : 0 ≤ (x5_1 : Int) := oA; have q165 : x5_1 < (l0.length : Int) := oA; obtain ⟨ad165, e165, hx165_0⟩ := Kd.at_string HR0.out x5_1 p165 q165; cases e165; replace p165 := eq_true p165; replace q165 := eq_true q165; have p166 : 0 ≤ (x5_1 : Int) := oA; have q166 : x5_1 < (l1.length : Int) := oA; obtain ⟨ad166, e166, hx166_0⟩ := Kd.at_string HR1.out x5_1 p166 q166; cases e166; replace p166 := eq_true p166; replace q166 := eq_true q166; go_wp2
        repeat (go_quiet (fail); try go_wp2)
        go_roundg k1
        case measure => have := HK1.out; omega
        case rel => exact ⟨(wrap64 (x5_1 + 1)), (tF), H', ⟨by have := HK1.out; omega⟩, tD⟩
       ·rw [if_neg c7] at H; have c7b0 : ((rdOf ByteArray.empty l0 x5_1).toList == (rdOf ByteArray.empty l1 x5_1).toList) = false := beq_eq_false_iff_ne.mpr c7; have c7b1 : ((rdOf ByteArray.empty l0 x5_1).toList != (rdOf ByteArray.empty l1 x5_1).toList) = true := bne_iff_ne.mpr c7; obtain rfl := Option.some.inj H; have p165 : 0 ≤ (x5_1 : Int) := oA; have q165 : x5_1 < (l0.length : Int) := oA; obtain ⟨ad165, e165, hx165_0⟩ := Kd.at_string HR0.out x5_1 p165 q165; cases e165; replace p165 := eq_true p165; replace q165 := eq_true q165; have p166 : 0 ≤ (x5_1 : Int) := oA; have q166 : x5_1 < (l1.length : Int) := oA; obtain ⟨ad166, e166, hx166_0⟩ := Kd.at_string HR1.out x5_1 p166 q166; cases e166; replace p166 := eq_true p166; replace q166 := eq_true q166; go_wp2
        repeat (go_quiet (fail); try go_wp2)
        go_ret; exact ⟨tF, tD⟩
      ·rw [if_neg c6] at H; exact absurd H (by simp)
     ·rw [if_neg c5] at H; exact absurd H (by simp)
    ·rw [if_neg c4] at H; have c4b0 := decide_eq_false c4; clear c4; obtain rfl := Option.some.inj H; go_wp2
     repeat (go_quiet (fail); try go_wp2)
     go_ret; exact ⟨tF, tD⟩
 ·rw [if_neg c3] at H; have c3b0 : ((l0.length : Int) == (l1.length : Int)) = false := beq_eq_false_iff_ne.mpr c3; have c3b1 : ((l0.length : Int) != (l1.length : Int)) = true := bne_iff_ne.mpr c3
  have c3b2 : (l0.length == l1.length) = false := by first | simpa using c3 | (simp at c3 ⊢; omega)
  obtain rfl := Option.some.inj H; go_enter Tryd.func21, Tryd.ntmps21; go_wp2
  repeat (go_quiet (fail); try go_wp2)
  go_ret; exact ⟨tF, tD⟩
def laws_markText.l0 : Nat → Int → ByteArray → Option (ByteArray)
 | 0, _, _ => none
 | k + 1, x0, x3 => if x0 > 0 then ((some (([(wrap64 (48 + (Int.tmod x0 10))) % 256] : List Int) : List Int)).bind fun y167 => (if (strOfNums y167).size + x3.size ≤ 9223372036854775807 then (laws_markText.l0 k (wrap64 (Int.tdiv x0 10)) ((strOfNums y167) ++ x3)) else (none))) else (if 1 + x3.size ≤ 9223372036854775807 then (some ((⟨#[109]⟩ : ByteArray) ++ x3)) else (none))
def laws_markText.f (k : Nat) (a0 : Int) : Option (ByteArray) := if a0 ≤ 0 then (some (⟨#[109, 48]⟩ : ByteArray)) else (laws_markText.l0 k a0 (⟨#[]⟩ : ByteArray))
theorem laws_markText.calls (k : Nat) (a0 : Int) (r : ByteArray) (w : World) (h : laws_markText.f k a0 = some r) :
  Calls Tryd.prog 62 #[.int .i64 a0] w fun e w' => e = .returned (.string r) ∧ Below w.heap.size w w' := by
 have HB := am (Below.refl w.heap.size w); have H : (if a0 ≤ 0 then (some (⟨#[109, 48]⟩ : ByteArray)) else (laws_markText.l0 k a0 (⟨#[]⟩ : ByteArray))) = some r := h; clear h; by_cases c2 : a0 ≤ 0
 ·rw [if_pos c2] at H; have c2b0 := decide_eq_true c2; clear c2; obtain rfl := Option.some.inj H; go_enter Tryd.func62, Tryd.ntmps62; go_wp2; go_ret; exact ⟨tE, tB⟩
 ·rw [if_neg c2] at H; have c2b0 := decide_eq_false c2; clear c2; have H' := am H; clear H; go_enter Tryd.func62, Tryd.ntmps62; go_wp2
  go_loopg [0, 3] k (fun kq v0 v3 w' => ∃ (x0_1 : Int) (x3_1 : ByteArray), v0 = .int .i64 x0_1 ∧ v3 = .string x3_1 ∧ Aside0 (laws_markText.l0 kq x0_1 x3_1 = some r) ∧ Aside0 (kq ≤ k) ∧ Aside0 (Below w.heap.size w w'))
  case atStart => exact ⟨(a0), ((⟨#[]⟩ : ByteArray)), (tF), (tF), H', ⟨Nat.le_refl _⟩, ⟨tB⟩⟩
  case round =>
   clear H'
   try clear c2; try clear c2b0; try clear p2
   obtain ⟨x0_1, x3_1, rfl, rfl, HA, HK1, HB⟩ := hrel
   cases gk with
   | zero => exact absurd HA.out (by simp [laws_markText.l0])
   | succ k1 =>
    have H := HA.out; clear HA; simp only [laws_markText.l0] at H; by_cases c3 : x0_1 > 0
    ·rw [if_pos c3] at H; have c3b0 : decide (0 < x0_1) = true := decide_eq_true c3; clear c3; obtain ⟨y167, hy167⟩ : ∃ y_ : List Int, y_ = (([(wrap64 (48 + (Int.tmod x0_1 10))) % 256] : List Int)) := ⟨_, rfl⟩; replace H : (if (strOfNums y167).size + x3_1.size ≤ 9223372036854775807 then (laws_markText.l0 k1 (wrap64 (Int.tdiv x0_1 10)) ((strOfNums y167) ++ x3_1)) else (none)) = some r := tY hy167 H; have Ny167 := am hy167; clear hy167; by_cases c4 : (strOfNums y167).size + x3_1.size ≤ 9223372036854775807
     ·rw [if_pos c4] at H; have c4b0 := eq_true c4; have c4b1 := decide_eq_true c4
      try have c4b2 : (9223372036854775807 < (strOfNums y167).size + x3_1.size) = False := eq_false (Nat.not_lt.2 c4)
      have H' := am H; clear H
      go_wp2_with (first | ((with_reducible refine gate_dst (N := 12) rfl ?_); refine Kd.R_lit (Kd.int .u8) _ 5 ?hg (N := 12) ?hd (xs := ([(wrap64 (48 + (Int.tmod x0_1 10))) % 256] : List Int)) (inner := [.int .u8 ((wrap64 (48 + (Int.tmod x0_1 10))) % 256)]) (ok := fun _ => True) (okp := fun _ => True) ?hr ?hp (fun _ hk => hk) trivial (Below.refl _ _) (Nat.le_refl _) (by simp) ?_; (case hd => rfl); (case hg => rfl); (case hr => first | (go_simp; done) | (go_simp; rfl)); (case hp => exact (Reps.one (show Kd.M (Kd.int .u8) _ _ _ ((wrap64 (48 + (Int.tmod x0_1 10))) % 256) [.int .u8 ((wrap64 (48 + (Int.tmod x0_1 10))) % 256)] from rfl) (Reps.none _ _))); intro v168 w5 ho6 hb hg_ hnew_; clear hg_ hnew_; (first | rw [← Ny167.out] at ho6 | (simp only [Int.reduceToNat] at ho6; rw [← Ny167.out] at ho6)); have HO169 := am (Kd.R_lower ho6 (below_size (tB))); replace HB := am (below_step (tB) hb); clear hb ho6; have hcv7 := own_string (P := Tryd.prog) Tryd.underlying126 Tryd.underlying5 Tryd.underlying9 (Kd.own_of_R HO169.out)))
      go_roundg k1
      case measure => have := HK1.out; omega
      case rel => exact ⟨(wrap64 (Int.tdiv x0_1 10)), ((strOfNums y167) ++ x3_1), (tF), (tF), H', ⟨by have := HK1.out; omega⟩, ⟨tB⟩⟩
     ·rw [if_neg c4] at H; exact absurd H (by simp)
    ·rw [if_neg c3] at H; have c3b0 : decide (0 < x0_1) = false := decide_eq_false c3; clear c3; by_cases c8 : 1 + x3_1.size ≤ 9223372036854775807
     ·rw [if_pos c8] at H; have c8b0 := eq_true c8; have c8b1 := decide_eq_true c8
      try have c8b2 : (9223372036854775807 < 1 + x3_1.size) = False := eq_false (Nat.not_lt.2 c8)
      obtain rfl := Option.some.inj H; go_wp2; go_ret; exact ⟨tE, tB⟩
     ·rw [if_neg c8] at H; exact absurd H (by simp)
def laws_markStringS.l0 : Nat → List ByteArray → Int → Int → Option (Int × List ByteArray)
 | 0, _, _, _ => none
 | k + 1, x0, x1, x5 => if x5 < (x0.length : Int) then ((laws_markText.f k x1).bind fun t170 => (if 0 ≤ x5 then (laws_markStringS.l0 k (x0.set (x5 : Int).toNat t170) (wrap64 (x1 + 1)) (wrap64 (x5 + 1))) else (none))) else (some (x1, x0))
def laws_markStringS.f (k : Nat) (l0 : List ByteArray) (a1 : Int) : Option (Int × List ByteArray) := laws_markStringS.l0 k l0 a1 0
theorem laws_markStringS.calls (k : Nat) (P0_ : Nat → Prop) (u9000_ : Value) (l0 : List ByteArray) (a1 : Int) (r1 : Int) (r2 : List ByteArray) (w0 w : World) (hB : Below w0.heap.size w0 w) (ho0 : Kd.R Kd.string 9 w w0.heap.size P0_ u9000_ l0) (h : laws_markStringS.f k l0 a1 = some (r1, r2)) :
  Calls Tryd.prog 22 #[u9000_, .int .i64 a1] w fun e w' => e = .returned (.int .i64 r1) ∧ Kd.R Kd.string 9 w' w0.heap.size (fun k_ => (P0_ k_ ∨ w.heap.size ≤ k_)) u9000_ r2 ∧ Below w0.heap.size w0 w' ∧ Kept w w' (fun k_ => P0_ k_) := by
 have HO0 := am (show Kd.R Kd.string 9 w w0.heap.size (fun k_ => (P0_ k_ ∨ w.heap.size ≤ k_)) u9000_ l0 from Kd.R_mono ho0 (fun k_ hk => (.inl hk))); have HK := am (Kept.refl w (fun k_ => P0_ k_)); have HW0 := am hB.size; have HB := am hB; clear hB; have H : (laws_markStringS.l0 k l0 a1 0) = some (r1, r2) := h; clear h; have H' := am H; clear H; go_enter Tryd.func22, Tryd.ntmps22; go_wp2
 go_loopg [1, 5] k (fun kq v1 v5 w' => ∃ (x0_1 : List ByteArray) (x1_1 : Int) (x5_1 : Int), v1 = .int .i64 x1_1 ∧ v5 = .int .i64 x5_1 ∧ Aside0 (laws_markStringS.l0 kq x0_1 x1_1 x5_1 = some (r1, r2)) ∧ Aside0 (kq ≤ k) ∧ Aside0 (Kd.R Kd.string 9 w' w0.heap.size (fun k_ => (P0_ k_ ∨ w.heap.size ≤ k_)) u9000_ x0_1) ∧ Aside0 (Kept w w' (fun k_ => P0_ k_)) ∧ Aside0 (Below w0.heap.size w0 w'))
 case atStart => exact ⟨(l0), (a1), (0), (tF), (tF), H', ⟨Nat.le_refl _⟩, ⟨by refine tR ?_; exact HO0.out⟩, ⟨tKp⟩, ⟨tB⟩⟩
 case round =>
  clear H'
  try clear c2; try clear p2
  obtain ⟨x0_1, x1_1, x5_1, rfl, rfl, HA, HK1, HO_0, HK, HB⟩ := hrel
  cases gk with
  | zero => exact absurd HA.out (by simp [laws_markStringS.l0])
  | succ k1 =>
   have H := HA.out; clear HA; simp only [laws_markStringS.l0] at H; by_cases c3 : x5_1 < (x0_1.length : Int)
   ·rw [if_pos c3] at H; have c3b0 := decide_eq_true c3; clear c3; replace H := Option.bind_eq_some_iff.mp H; obtain ⟨t170, A40, H⟩ := H; replace H : (if 0 ≤ x5_1 then (laws_markStringS.l0 k1 (x0_1.set (x5_1 : Int).toNat t170) (wrap64 (x1_1 + 1)) (wrap64 (x5_1 + 1))) else (none)) = some (r1, r2) := H; have A4 := am A40; clear A40; by_cases c5 : 0 ≤ x5_1
    ·rw [if_pos c5] at H; have c5b0 := decide_eq_true c5; clear c5; obtain ⟨y171, hy171⟩ : ∃ y_ : List ByteArray, y_ = (x0_1.set (x5_1 : Int).toNat t170) := ⟨_, rfl⟩; replace H : (laws_markStringS.l0 k1 y171 (wrap64 (x1_1 + 1)) (wrap64 (x5_1 + 1))) = some (r1, r2) := tY hy171 H; have Ny171 := am hy171; clear hy171; have H' := am H; clear H; obtain ⟨Ao7, co7, eo7⟩ := Kd.R_slice HO_0.out; subst eo7
     go_wp2_with (first | ((with_reducible refine gate_callee (f := 62) rfl ?_); refine goesLA (some 15) Tryd.func62 #[.int .i64 x1_1] rfl rfl rfl (h := ?_); (with_reducible refine (laws_markText.calls k1 x1_1 t170 _ A4.out).mono ?_); rintro e w8 ⟨rfl, hb⟩; refine ⟨_, rfl, ?_⟩; replace HO_0 := am (Kd.R_below (tR HO_0.out) hb); replace HK := am (Kept.below (S := (fun k_ => P0_ k_)) (tKp) hb); replace HB := am (below_step (tB) hb); (try clear hb); (try clear hb2); (try clear hk); (try clear hi); have p6 : 0 ≤ (x5_1 : Int) := oA; have q6 : (x5_1 : Int) < ((x0_1.length : Int) : Int) := oA; obtain ⟨go6, co6, eo6, gb6, gl6, cl6, HG6⟩ := Kd.R_form HO_0.out (by omega); (first | cases eo6 | (injection eo6 with ea_ en_ ec_; (first | subst ea_ | (injection ea_ with ea_; subst ea_)); subst ec_; clear en_)); have GB6 := am gb6; have GG6 := am HG6; clear gb6 gl6 HG6; have HMgo6 := am (show (P0_ go6 ∨ w.heap.size ≤ go6) from (HO_0.out.1 _ rfl)); obtain ⟨hx6_0, hf6_0⟩ := Kd.R_celln (⟨#[]⟩ : ByteArray) HO_0.out (x5_1 : Int) p6 q6; replace p6 := eq_true p6; replace q6 := eq_true q6; obtain ⟨hy9_, hz9_⟩ := Kd.R_celln (⟨#[]⟩ : ByteArray) HO_0.out (x5_1 : Int) (oA) (oA); have HP9 := Kd.R_putg HO_0.out (x5_1 : Int) t170) | ((with_reducible refine gate_store (t := 9) (p := 16) rfl ?_); refine store_event (t := 9) (p := 16) (v := ?vo_w10) (w1 := (w8.setCell ⟨go6, (x5_1 : Int).toNat, none⟩ (.string t170))) ?hg ?ho ?hn ?hr ?_; (case ho => rfl); (case hg => rfl); (case hn => rfl); (case hr => first | (go_simp; done) | (go_simp; rfl)); intro w10 hw; have hg : w8.grownBy w10 (some go6) := (by rw [hw]; exact HP9.2); have hp_ : Kd.R Kd.string 9 w10 w0.heap.size (fun k_ => (P0_ k_ ∨ w.heap.size ≤ k_)) (.slice (some ⟨go6, 0, none⟩) x0_1.length co7) y171 := (by rw [hw, Ny171.out]; exact HP9.1); clear HP9; replace HB := am ((by rw [hw]; exact below_set (HB.out) GB6.out : Below w0.heap.size w0 w10)); replace HK := am (Kept.of_grown (S := (fun k_ => P0_ k_)) hg (tKp) (fun k_ e_ => (HO_0.out.1 k_ e_))); replace HO_0 := am (hp_); clear hg hw hp_))
     go_roundg k1
     case measure => have := HK1.out; omega
     case rel => exact ⟨(y171), (wrap64 (x1_1 + 1)), (wrap64 (x5_1 + 1)), (tF), (tF), H', ⟨by have := HK1.out; omega⟩, ⟨by refine tR ?_; exact HO_0.out⟩, ⟨tKp⟩, ⟨tB⟩⟩
    ·rw [if_neg c5] at H; exact absurd H (by simp)
   ·rw [if_neg c3] at H; have c3b0 := decide_eq_false c3; clear c3; simp only [Option.some.injEq, Prod.mk.injEq] at H; obtain ⟨rfl, rfl⟩ := H; obtain ⟨Ao11, co11, eo11⟩ := Kd.R_slice HO_0.out; subst eo11; go_wp2; go_ret; exact ⟨tE, by refine tR ?_; exact HO_0.out, tB, tKp⟩
end Go.Proofs.YtelicdmaohllgaaDoor.X
