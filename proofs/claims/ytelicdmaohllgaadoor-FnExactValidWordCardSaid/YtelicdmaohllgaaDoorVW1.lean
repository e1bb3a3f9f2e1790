import Derived.Test.YtelicdmaohllgaaDoorProg
import Derived.Below
import Derived.Deep.Draws
import Derived.Deep.AppendLies
import Derived.Maps.AppendAt
import Derived.OwnWalk
import Derived.Laws.BytesArg
import Derived.Laws.MakeOwn
import Derived.Laws.OwnMore
import Derived.Deep.OwnRows
import Derived.Tactics
import Derived.Lib.ConvBytes
import Derived.Laws.Slices
import Derived.WalkKit
import Derived.KernelRfl
import Derived.RowKit3
import Derived.Deep.LoopGhost
import Derived.Deep.QuietTactic
import Derived.BigQuiet
import Derived.WideLaws
import Derived.Deep.DeepCutAuto
import Derived.Deep.CutBlock
import Derived.Deep.RegionHeld3
import Derived.Laws.Rows
import Derived.Lib.AppendStr
import Derived.ArgAppend
import Derived.Laws.IdiomCopy
import Derived.OrdersHeld
import Derived.Laws.BitsLemmas
import Derived.RowKit
import Derived.Test.YtelicdmaohllgaaDoorVW0
import Derived.Shelf.Lays
import Derived.Shelf.Strings.SlTrimAscii
import Derived.Test.YtelicdmaohllgaaDoorRows
import Derived.Lib.LaidTab
import Derived.LaidLaws
import Derived.ChangeVars
import Derived.JoinedOf
import Derived.JoinedAt
import Derived.Deep.Matrix
import Derived.Deep.Grids
import Derived.Lib.SmallJoins
import Derived.ProofKit
import Derived.OpenShut
import Derived.SliceStrings
import Derived.ChangeSlices
import Derived.ChangeMaps5
namespace Go.Proofs.YtelicdmaohllgaaDoor.X
set_option maxHeartbeats 16000000
set_option maxRecDepth 100000
open Go.RowKit Go.Proofs.YtelicdmaohllgaaDoorW.PrintWords Go.Proofs.YtelicdmaohllgaaDoorW.PrintLast Go.Proofs.YtelicdmaohllgaaDoorW.PrintMore
attribute [local go_sem] max2_int min2_int max_two min_two max_three min_three max_four min_four
set_option linter.unusedVariables false
set_option linter.unusedSimpArgs false
def errW : Option Int → Value
 | none => .nilIface
 | some c => .iface 240 (.int .i64 c)
theorem errW_none : errW none = .nilIface := rfl
theorem errW_some (c : Int) : errW (some c) = .iface 240 (.int .i64 c) := rfl
section
theorem am {p : Prop} (h : p) : Aside0 p := ⟨h⟩
theorem tB {n : Nat} {W W' : World} (h : Below n W W' := by repeat (first | (with_reducible first | exact HB.out | apply below_alloc | apply pw_below_drewN | apply below_drew1 | refine below_set ?_ (Aside0.out (by assumption)) | refine below_set ?_ (IsS HI0.out)) | exact HB.out)) : Below n W W' := h
theorem oA {p : Prop} {i : Decidable p} (h : decide p = true := by first | (with_reducible assumption) | assumption) : p := of_decide_eq_true h
theorem tF {p : Prop} (h : p := by first | rfl | (simp; done) | (simp [*]; done)) : p := h
theorem tE {p : Prop} (h : p := by first | rfl | (simp [errW_none, errW_some] <;> rfl) | (simp [*, errW_none, errW_some] <;> rfl)) : p := h
theorem tD {p : Prop} (h : p := by repeat (first | exact Drawn0.refl _ | apply Drawn0.step)) : p := h
end
section
variable {P : Program} {md : Region.Mode} {ops : Array Oper} {Q : Exit → Act → World → Prop} {S : World → Prop} {ds : List Nat}
end
section
variable {P : Program} {ops : Array Oper} {rest : List Oper} {o : Oper} {a : Act} {w : World} {Q : Exit → Act → World → Prop}
theorem goesLA (N : Option Tmp) {f : FuncId} {fn : Func} {as_ : Array Operand} {ts : Array TypeId} (hf : P.funcs[f]? = some fn) (args : Array Value) (hd : o.dst = N) (hg : o.guard = none) (hop : o.op = .call { callee := .value (.func f), args := as_, argTypes := ts }) (hname : (fn.name == "runtime.NumGoroutine") = false := by kernel_rfl) (hb : fn.body.isSome = true := by rfl)
  (hargs : as_.map a.eval = args := by (try simp only [List.map_toArray, List.map_cons, List.map_nil]); first | done | rfl | (simp only [List.length_drop, List.length_take]; rfl))
  (h : Calls P f args w fun e w' => ∃ v, e = .returned v ∧ wpList P ops Q rest (a.put N v) w') : wpList P ops Q (o :: rest) a w := goesL_ N hd hg hf hname hb args hop hargs h
end
def spec_l01Word.l0 : Nat → ByteArray → Int → Option (Bool)
 | 0, _, _ => none
 | k + 1, x0, x3 => if x3 < (x0.size : Int) then (if 0 ≤ x3 then (if (bt x0 x3) = 97 then (spec_l01Word.l0 k x0 (wrap64 (x3 + 1))) else (if (bt x0 x3) = 98 then (spec_l01Word.l0 k x0 (wrap64 (x3 + 1))) else (some false))) else (none)) else (some (decide ((x0.size : Int) ≤ 40)))
def spec_l01Word.f (k : Nat) (a0 : ByteArray) : Option (Bool) := spec_l01Word.l0 k a0 0
theorem spec_l01Word.calls (k : Nat) (a0 : ByteArray) (r : Bool) (w : World) (h : spec_l01Word.f k a0 = some r) :
  Calls Tryd.prog 53 #[.string a0] w fun e w' => e = .returned (.bool r) ∧ Drawn0 w w' := by
 have H : (spec_l01Word.l0 k a0 0) = some r := h; clear h; have H' := am H; clear H; go_enter Tryd.func53, Tryd.ntmps53; go_wp2
 go_loopg [3] k (fun kq v3 w' => ∃ (x3_1 : Int), v3 = .int .i64 x3_1 ∧ Aside0 (spec_l01Word.l0 kq a0 x3_1 = some r) ∧ Aside0 (kq ≤ k) ∧ Drawn0 w w')
 case atStart => exact ⟨(0), (tF), H', ⟨Nat.le_refl _⟩, tD⟩
 case round =>
  clear H'; obtain ⟨x3_1, rfl, HA, HK1, ⟨m1, rfl⟩⟩ := hrel
  cases gk with
  | zero => exact absurd HA.out (by simp [spec_l01Word.l0])
  | succ k1 =>
   have H := HA.out; clear HA; simp only [spec_l01Word.l0] at H; by_cases c2 : x3_1 < (a0.size : Int)
   ·rw [if_pos c2] at H; have c2b0 := decide_eq_true c2; clear c2; by_cases c3 : 0 ≤ x3_1
    ·rw [if_pos c3] at H; have c3b0 := decide_eq_true c3; clear c3; by_cases c5 : (bt a0 x3_1) = 97
     ·rw [if_pos c5] at H; have c5b0 : ((bt a0 x3_1) == 97) = true := beq_iff_eq.mpr c5; have c5b1 : ((bt a0 x3_1) != 97) = false := bne_eq_false_iff_eq.mpr c5; clear c5; have H' := am H; clear H; have p4 : 0 ≤ (x3_1 : Int) := oA; have q4 : x3_1 < (a0.size : Int) := oA; have hx4 := bt_at a0 x3_1; replace p4 := eq_true p4; replace q4 := eq_true q4; go_wp2; go_roundg k1
      case measure => have := HK1.out; omega
      case rel => exact ⟨(wrap64 (x3_1 + 1)), (tF), H', ⟨by have := HK1.out; omega⟩, tD⟩
     ·rw [if_neg c5] at H; have c5b0 : ((bt a0 x3_1) == 97) = false := beq_eq_false_iff_ne.mpr c5; have c5b1 : ((bt a0 x3_1) != 97) = true := bne_iff_ne.mpr c5; by_cases c7 : (bt a0 x3_1) = 98
      ·rw [if_pos c7] at H; have c7b0 : ((bt a0 x3_1) == 98) = true := beq_iff_eq.mpr c7; have c7b1 : ((bt a0 x3_1) != 98) = false := bne_eq_false_iff_eq.mpr c7; clear c7; have H' := am H; clear H; have p4 : 0 ≤ (x3_1 : Int) := oA; have q4 : x3_1 < (a0.size : Int) := oA; have hx4 := bt_at a0 x3_1; replace p4 := eq_true p4; replace q4 := eq_true q4; have p6 : 0 ≤ (x3_1 : Int) := oA; have q6 : x3_1 < (a0.size : Int) := oA; have hx6 := bt_at a0 x3_1; replace p6 := eq_true p6; replace q6 := eq_true q6; go_wp2; go_roundg k1
       case measure => have := HK1.out; omega
       case rel => exact ⟨(wrap64 (x3_1 + 1)), (tF), H', ⟨by have := HK1.out; omega⟩, tD⟩
      ·rw [if_neg c7] at H; have c7b0 : ((bt a0 x3_1) == 98) = false := beq_eq_false_iff_ne.mpr c7; have c7b1 : ((bt a0 x3_1) != 98) = true := bne_iff_ne.mpr c7; obtain rfl := Option.some.inj H; have p4 : 0 ≤ (x3_1 : Int) := oA; have q4 : x3_1 < (a0.size : Int) := oA; have hx4 := bt_at a0 x3_1; replace p4 := eq_true p4; replace q4 := eq_true q4; have p6 : 0 ≤ (x3_1 : Int) := oA; have q6 : x3_1 < (a0.size : Int) := oA; have hx6 := bt_at a0 x3_1; replace p6 := eq_true p6; replace q6 := eq_true q6; go_wp2; go_ret; exact ⟨tF, tD⟩
    ·rw [if_neg c3] at H; exact absurd H (by simp)
   ·rw [if_neg c2] at H; have c2b0 := decide_eq_false c2; clear c2; obtain rfl := Option.some.inj H; go_wp2; go_ret; exact ⟨tF, tD⟩
def spec_ValidWord.f (k : Nat) (a0 : ByteArray) : Option (Bool) := (spec_l01Word.f k a0).bind fun t101 => (some t101)
theorem spec_ValidWord.calls (k : Nat) (a0 : ByteArray) (r : Bool) (w : World) (h : spec_ValidWord.f k a0 = some r) :
  Calls Tryd.prog 14 #[.string a0] w fun e w' => e = .returned (.bool r) ∧ Drawn0 w w' := by
 have H : ((spec_l01Word.f k a0).bind fun t101 => (some t101)) = some r := h; clear h; replace H := Option.bind_eq_some_iff.mp H; obtain ⟨t101, A20, H⟩ := H; replace H : (some t101) = some r := H; have A2 := am A20; clear A20; obtain rfl := Option.some.inj H; go_enter Tryd.func14, Tryd.ntmps14
 go_wp2_with (first | ((with_reducible refine gate_callee (f := 53) rfl ?_); refine goesLA (some 4) Tryd.func53 #[.string a0] rfl rfl rfl (h := ?_); (with_reducible refine (spec_l01Word.calls k a0 t101 _ A2.out).mono ?_); rintro e w' ⟨rfl, ⟨nd, rfl⟩⟩; refine ⟨_, rfl, ?_⟩))
 go_ret; exact ⟨tF, tD⟩
def trimL_ren : Go.Shelf.Ren := ⟨fun | 160 => 54 | 232 => 108 | 231 => 107 | 227 => 109 | 234 => 111 | 233 => 110 | 236 => 113 | 235 => 112 | 228 => 162 | 271 => 165 | 151 => 164 | 197 => 163 | 120 => 196 | 152 => 195 | 260 => 194 | 137 => 212 | 119 => 213 | 224 => 214 | 225 => 215 | 217 => 229 | 266 => 243 | n => n, fun | 9 => 9 | 4 => 4 | 3 => 3 | 5 => 5 | 117 => 121 | 116 => 120 | 0 => 0 | 124 => 124 | 21 => 21 | 105 => 177 | 46 => 180 | 119 => 219 | 139 => 222 | 138 => 221 | n => n, fun | 3 => 0 | 4 => 1 | n => n⟩
theorem trimL : Go.Proofs.Lays.n160 Tryd.prog trimL_ren := {
 mixed := by kernel_rfl
 f119 := Tryd.func213.trans (congrArg some (by kernel_rfl))
 f120 := Tryd.func196.trans (congrArg some (by kernel_rfl))
 f137 := Tryd.func212.trans (congrArg some (by kernel_rfl))
 f151 := Tryd.func164.trans (congrArg some (by kernel_rfl))
 f152 := Tryd.func195.trans (congrArg some (by kernel_rfl))
 f160 := Tryd.func54.trans (congrArg some (by kernel_rfl))
 f197 := Tryd.func163.trans (congrArg some (by kernel_rfl))
 f217 := Tryd.func229.trans (congrArg some (by kernel_rfl))
 f224 := Tryd.func214.trans (congrArg some (by kernel_rfl))
 f225 := Tryd.func215.trans (congrArg some (by kernel_rfl))
 f227 := Tryd.func109.trans (congrArg some (by kernel_rfl))
 f228 := Tryd.func162.trans (congrArg some (by kernel_rfl))
 f231 := Tryd.func107.trans (congrArg some (by kernel_rfl))
 f232 := Tryd.func108.trans (congrArg some (by kernel_rfl))
 f233 := Tryd.func110.trans (congrArg some (by kernel_rfl))
 f234 := Tryd.func111.trans (congrArg some (by kernel_rfl))
 f235 := Tryd.func112.trans (congrArg some (by kernel_rfl))
 f236 := Tryd.func113.trans (congrArg some (by kernel_rfl))
 f260 := Tryd.func194.trans (congrArg some (by kernel_rfl))
 f266 := Tryd.func243.trans (congrArg some (by kernel_rfl))
 f271 := Tryd.func165.trans (congrArg some (by kernel_rfl))
 t0 := Tryd.underlying0
 a0 := Tryd.isAgg0
 z0 := Tryd.sizeOf0
 v0 := Tryd.zeroValue0
 t3 := Tryd.underlying3
 a3 := Tryd.isAgg3
 z3 := Tryd.sizeOf3
 v3 := Tryd.zeroValue3
 t4 := Tryd.underlying4
 a4 := Tryd.isAgg4
 z4 := Tryd.sizeOf4
 v4 := Tryd.zeroValue4
 t5 := Tryd.underlying5
 a5 := Tryd.isAgg5
 z5 := Tryd.sizeOf5
 v5 := Tryd.zeroValue5
 t9 := Tryd.underlying9
 a9 := Tryd.isAgg9
 z9 := Tryd.sizeOf9
 v9 := Tryd.zeroValue9
 t21 := Tryd.underlying21
 a21 := Tryd.isAgg21
 z21 := Tryd.sizeOf21
 v21 := Tryd.zeroValue21
 t46 := Tryd.underlying180
 a46 := Tryd.isAgg180
 z46 := Tryd.sizeOf180
 v46 := Tryd.zeroValue180
 t105 := Tryd.underlying177
 a105 := Tryd.isAgg177
 z105 := Tryd.sizeOf177
 v105 := Tryd.zeroValue177
 t116 := Tryd.underlying120
 a116 := Tryd.isAgg120
 z116 := Tryd.sizeOf120
 t117 := Tryd.underlying121
 a117 := Tryd.isAgg121
 z117 := Tryd.sizeOf121
 v117 := Tryd.zeroValue121
 t119 := Tryd.underlying219
 a119 := Tryd.isAgg219
 z119 := Tryd.sizeOf219
 t124 := Tryd.underlying124
 a124 := Tryd.isAgg124
 z124 := Tryd.sizeOf124
 v124 := Tryd.zeroValue124
 t138 := Tryd.underlying221
 a138 := Tryd.isAgg221
 z138 := Tryd.sizeOf221
 v138 := Tryd.zeroValue221
 t139 := Tryd.underlying222
 a139 := Tryd.isAgg222
 z139 := Tryd.sizeOf222
 v139 := Tryd.zeroValue222
 g3 := by kernel_rfl
 g4 := by kernel_rfl }
theorem trim_calls (s c : ByteArray) (w : World) (hs : s.size ≤ 9223372036854775807) (hc : c.size < 4294967281) (ha : ∀ (j : Nat) b, c.data.toList[j]? = some b → b.toNat < 128) :
  Calls Tryd.prog 54 #[.string s, .string c] w fun e w' => e = .returned (.string ⟨(Lib.trimS s.data.toList c.data.toList).toArray⟩) ∧ Below w.heap.size w w' := Any.strings_Trim_laid trimL (by kernel_rfl) s c w hs hc ha
def strings_Trim.f (a0 : ByteArray) (a1 : ByteArray) : Option (ByteArray) := if a0.size ≤ 9223372036854775807 ∧ a1.size < 4294967281 ∧ (∀ b ∈ a1.data.toList, b.toNat < 128) then some ⟨(Lib.trimS a0.data.toList a1.data.toList).toArray⟩ else none
theorem strings_Trim.calls (a0 : ByteArray) (a1 : ByteArray) (r : ByteArray) (w : World) (h : strings_Trim.f a0 a1 = some r) :
  Calls Tryd.prog 54 #[.string a0, .string a1] w fun e w' => e = .returned (.string r) ∧ Below w.heap.size w w' := by
 unfold strings_Trim.f at h; by_cases c : a0.size ≤ 9223372036854775807 ∧ a1.size < 4294967281 ∧ (∀ b ∈ a1.data.toList, b.toNat < 128)
 ·rw [if_pos c] at h; obtain rfl := Option.some.inj h; exact trim_calls a0 a1 w c.1 c.2.1 (fun j b hb => c.2.2 b (List.mem_of_getElem? hb))
 ·rw [if_neg c] at h; cases h
def impl_ValidWord.f (a0 : ByteArray) : Option (Bool) := if (a0.size : Int) ≤ 40 then ((strings_Trim.f a0 (⟨#[97, 98]⟩ : ByteArray)).bind fun t103 => (some (t103.toList == ([] : List UInt8)))) else (some false)
theorem impl_ValidWord.calls (a0 : ByteArray) (r : Bool) (w : World) (h : impl_ValidWord.f a0 = some r) :
  Calls Tryd.prog 15 #[.string a0] w fun e w' => e = .returned (.bool r) ∧ Below w.heap.size w w' := by
 have HB := am (Below.refl w.heap.size w); have H : (if (a0.size : Int) ≤ 40 then ((strings_Trim.f a0 (⟨#[97, 98]⟩ : ByteArray)).bind fun t103 => (some (t103.toList == ([] : List UInt8)))) else (some false)) = some r := h; clear h; by_cases c2 : (a0.size : Int) ≤ 40
 ·rw [if_pos c2] at H; have c2b0 := decide_eq_true c2; have c2b1 : decide (a0.size ≤ 40) = true := decide_eq_true (by omega); clear c2; replace H := Option.bind_eq_some_iff.mp H; obtain ⟨t103, A30, H⟩ := H; replace H : (some (t103.toList == ([] : List UInt8))) = some r := H; have A3 := am A30; clear A30; obtain rfl := Option.some.inj H; go_enter Tryd.func15, Tryd.ntmps15
  go_wp2_with (first | (go_at_call 54; (with_reducible refine (strings_Trim.calls a0 (⟨#[97, 98]⟩ : ByteArray) t103 _ A3.out).mono ?_); rintro e w4 ⟨rfl, hb⟩; replace HB := am (below_step (tB) hb); (try clear hb); (try clear hb2); (try clear hk); (try clear hi)))
  go_ret; exact ⟨tE, tB⟩
 ·rw [if_neg c2] at H; have c2b0 := decide_eq_false c2; have c2b1 : decide (a0.size ≤ 40) = false := decide_eq_false (by omega); clear c2; obtain rfl := Option.some.inj H; go_enter Tryd.func15, Tryd.ntmps15; go_wp2; go_ret; exact ⟨tE, tB⟩
def laws_FnExactValidWord.f (k : Nat) (a0 : ByteArray) : Option (Bool) := if (a0.size : Int) > 1048576 then (some true) else ((spec_ValidWord.f k a0).bind fun t104 => ((impl_ValidWord.f a0).bind fun t105 => (if (t105 != t104) = true then (some false) else (some true))))
theorem laws_FnExactValidWord.calls (k : Nat) (a0 : ByteArray) (r : Bool) (w : World) (h : laws_FnExactValidWord.f k a0 = some r) :
  Calls Tryd.prog 3 #[.string a0] w fun e w' => e = .returned (.bool r) ∧ Below w.heap.size w w' := by
 have HB := am (Below.refl w.heap.size w); have H : (if (a0.size : Int) > 1048576 then (some true) else ((spec_ValidWord.f k a0).bind fun t104 => ((impl_ValidWord.f a0).bind fun t105 => (if (t105 != t104) = true then (some false) else (some true))))) = some r := h; clear h; by_cases c2 : (a0.size : Int) > 1048576
 ·rw [if_pos c2] at H; have c2b0 : decide (1048576 < (a0.size : Int)) = true := decide_eq_true c2; have c2b1 : decide (1048576 < a0.size) = true := decide_eq_true (by omega); clear c2; obtain rfl := Option.some.inj H; go_enter Tryd.func3, Tryd.ntmps3; go_wp2; go_ret; exact ⟨tE, tB⟩
 ·rw [if_neg c2] at H; have c2b0 : decide (1048576 < (a0.size : Int)) = false := decide_eq_false c2; have c2b1 : decide (1048576 < a0.size) = false := decide_eq_false (by omega); clear c2; replace H := Option.bind_eq_some_iff.mp H; obtain ⟨t104, A30, H⟩ := H; replace H : ((impl_ValidWord.f a0).bind fun t105 => (if (t105 != t104) = true then (some false) else (some true))) = some r := H; have A3 := am A30; clear A30; replace H := Option.bind_eq_some_iff.mp H; obtain ⟨t105, A40, H⟩ := H; replace H : (if (t105 != t104) = true then (some false) else (some true)) = some r := H; have A4 := am A40; clear A40; by_cases c5 : (t105 != t104) = true
  ·rw [if_pos c5] at H; have c5b0 : (t105 != t104) = true := c5
   (try (have c5b1 : decide (t105 = t104) = false := by simpa using c5))
   (try (have c5b2 : (t105 == t104) = false := by simpa using c5))
   (try (have c5b3 : ¬ (t105 = t104) := by simpa using c5))
   clear c5; obtain rfl := Option.some.inj H; go_enter Tryd.func3, Tryd.ntmps3
   go_wp2_with (first | ((with_reducible refine gate_callee (f := 14) rfl ?_); refine goesLA (some 9) Tryd.func14 #[.string a0] rfl rfl rfl (h := ?_); (with_reducible refine (spec_ValidWord.calls k a0 t104 _ A3.out).mono ?_); rintro e w' ⟨rfl, ⟨nd, rfl⟩⟩; refine ⟨_, rfl, ?_⟩) | ((with_reducible refine gate_callee (f := 15) rfl ?_); refine goesLA (some 11) Tryd.func15 #[.string a0] rfl rfl rfl (h := ?_); (with_reducible refine (impl_ValidWord.calls a0 t105 _ A4.out).mono ?_); rintro e w6 ⟨rfl, hb⟩; refine ⟨_, rfl, ?_⟩; replace HB := am (below_step (tB) hb); (try clear hb); (try clear hb2); (try clear hk); (try clear hi)))
   go_ret; exact ⟨tE, tB⟩
  ·rw [if_neg c5] at H; (have c5b0 : (t105 != t104) = false := by simpa using c5)
   (try (have c5b1 : decide (t105 = t104) = true := by simpa using c5))
   (try (have c5b2 : (t105 == t104) = true := by simpa using c5))
   clear c5; obtain rfl := Option.some.inj H; go_enter Tryd.func3, Tryd.ntmps3
   go_wp2_with (first | ((with_reducible refine gate_callee (f := 14) rfl ?_); refine goesLA (some 9) Tryd.func14 #[.string a0] rfl rfl rfl (h := ?_); (with_reducible refine (spec_ValidWord.calls k a0 t104 _ A3.out).mono ?_); rintro e w' ⟨rfl, ⟨nd, rfl⟩⟩; refine ⟨_, rfl, ?_⟩) | ((with_reducible refine gate_callee (f := 15) rfl ?_); refine goesLA (some 11) Tryd.func15 #[.string a0] rfl rfl rfl (h := ?_); (with_reducible refine (impl_ValidWord.calls a0 t105 _ A4.out).mono ?_); rintro e w7 ⟨rfl, hb⟩; refine ⟨_, rfl, ?_⟩; replace HB := am (below_step (tB) hb); (try clear hb); (try clear hb2); (try clear hk); (try clear hi)))
   go_ret; exact ⟨tE, tB⟩
def cellsOfU : DataW Unit → Array Value
 | .agg l => (l.flatMap fun d => match d with
  | .lit x => [x.value]
  | .agg m => m.map fun e => match e with
   | .lit x => x.value
   | _ => .bool false
  | _ => []).toArray
 | _ => #[]
noncomputable def layAtU (w : World) (g : Nat) (d : DataW Unit) : World := { w with heap := w.heap.modify g fun
 | .cells _ t frozen => .cells (cellsOfU d) t frozen
 | o => o }
noncomputable def laidWorldU (os : Os) : World :=
 layAtU (layAtU (World.holding Tryd.prog os ⟨#[], #[], []⟩) 1 Rows.laid_unicode_utf8_acceptRanges) 0 Rows.laid_unicode_utf8_first
def laidU : List (String × DataW Unit) := [("unicode/utf8.acceptRanges", Rows.laid_unicode_utf8_acceptRanges), ("unicode/utf8.first", Rows.laid_unicode_utf8_first)]
theorem laidWorldU_met (os : Os) (args : Array Value) : laidMet Tryd.prog laidU ((laidWorldU os).forCall (fun _ _ => 0) ⟨#[], args, []⟩).memory :=
 laidMet_of_run (ps := (List.range 32).map (MemPlace.cell 1) ++ (List.range 256).map (MemPlace.cell 0)) 8 (by kernel_rfl) (by kernel_rfl) (by kernel_rfl)
open Go.ChangeShapes Go.WideShapes Go.ChangeAt Go.Deep Go.Joins
def laws_szStringS.l0 : Nat → List ByteArray → Int → Int → Option (Int)
 | 0, _, _, _ => none
 | k + 1, x0, x1, x5 => if x5 < (x0.length : Int) then (if 0 ≤ x5 then (if (wrap64 (x1 - ((rdOf ByteArray.empty x0 x5).size : Int))) < 0 then (some (-1)) else (laws_szStringS.l0 k x0 (wrap64 (x1 - ((rdOf ByteArray.empty x0 x5).size : Int))) (wrap64 (x5 + 1)))) else (none)) else (some x1)
def laws_szStringS.f (k : Nat) (l0 : List ByteArray) (a1 : Int) : Option (Int) := if (wrap64 (a1 - (l0.length : Int))) < 0 then (some (-1)) else (laws_szStringS.l0 k l0 (wrap64 (a1 - (l0.length : Int))) 0)
def spec_l01Words.l0 : Nat → List ByteArray → Int → Option (Bool)
 | 0, _, _ => none
 | k + 1, x0, x3 => if x3 < (x0.length : Int) then (if 0 ≤ x3 then ((spec_l01Word.f k (rdOf ByteArray.empty x0 x3)).bind fun t108 => (if t108 = true then (spec_l01Words.l0 k x0 (wrap64 (x3 + 1))) else (some false))) else (none)) else (some true)
def spec_l01Words.f (k : Nat) (l0 : List ByteArray) : Option (Bool) := spec_l01Words.l0 k l0 0
def spec_l00In.f (a0 : Int) (a1 : Int) (a2 : Int) : Option (Bool) := if a0 ≥ a1 then (some (decide (a0 ≤ a2))) else (some false)
def spec_l01Power.l0 : Nat → Int → Int → Option (Int)
 | 0, _, _ => none
 | k + 1, x0, x3 => if x0 > 0 then (spec_l01Power.l0 k (wrap64 (x0 - 1)) (wrap64 (3 * x3))) else (some x3)
def spec_l01Power.f (k : Nat) (a0 : Int) : Option (Int) := spec_l01Power.l0 k a0 1
theorem spec_l01Power.mono_l : ∀ k, (∀ y0 y1, LeO (spec_l01Power.l0 k y0 y1) (spec_l01Power.l0 (k + 1) y0 y1))
 | 0 => fun _ _ r h => by simp [spec_l01Power.l0] at h
 | k + 1 => by
  have ih0 := spec_l01Power.mono_l k
  ·intro y0 y1; unfold spec_l01Power.l0
   repeat' first
   | (with_reducible exact ih0 _ _)
   | (with_reducible exact LeO.refl _)
   | (with_reducible exact LeO.none _)
   | (with_reducible refine LeO.ite ?_ ?_)
   | (with_reducible refine LeO.bind ?_ (fun _ => ?_))
   | exact ih0 _ _
   | exact LeO.none _
   | refine LeO.ite ?_ ?_
   | refine LeO.bind ?_ (fun _ => ?_)
theorem spec_l01Power.mono : ∀ a0 k, LeO (spec_l01Power.f k a0) (spec_l01Power.f (k + 1) a0) := by
 intro a0 k; have ih0 := spec_l01Power.mono_l k; unfold spec_l01Power.f
 repeat' first
   | (with_reducible exact ih0 _ _)
   | (with_reducible exact LeO.refl _)
   | (with_reducible exact LeO.none _)
   | (with_reducible refine LeO.ite ?_ ?_)
   | (with_reducible refine LeO.bind ?_ (fun _ => ?_))
   | exact ih0 _ _
   | exact LeO.none _
   | refine LeO.ite ?_ ?_
   | refine LeO.bind ?_ (fun _ => ?_)
mutual
def spec_l01Columns.l0 : Nat → List ByteArray → List Int → Int → Option (List Int)
 | 0, _, _, _ => none
 | k + 1, x0, x3, x4 => spec_l01Columns.l1 k x0 x3 x4 0 false 0
def spec_l01Columns.l1 : Nat → List ByteArray → List Int → Int → Int → Bool → Int → Option (List Int)
 | 0, _, _, _, _, _, _ => none
 | k + 1, x0, x3, x4, x5, x6, x7 => if x7 < (x0.length : Int) then (if 0 ≤ x7 then (if x4 < ((rdOf ByteArray.empty x0 x7).size : Int) then (if 0 ≤ x4 then ((spec_l01Power.f k x7).bind fun t114 => (spec_l01Columns.l1 k x0 x3 x4 (wrap64 (x5 + (wrap64 ((((bt (rdOf ByteArray.empty x0 x7) x4) - 97) % 256) * t114)))) true (wrap64 (x7 + 1)))) else (none)) else ((spec_l01Power.f k x7).bind fun t115 => (spec_l01Columns.l1 k x0 x3 x4 (wrap64 (x5 + (wrap64 (2 * t115)))) x6 (wrap64 (x7 + 1))))) else (none)) else (if x6 = true then (if x3.length < 17592186044416 then (spec_l01Columns.l0 k x0 (x3 ++ [x5]) (wrap64 (x4 + 1))) else (none)) else (some x3))
end
def spec_l01Columns.f (k : Nat) (l0 : List ByteArray) : Option (List Int) := spec_l01Columns.l0 k l0 (([] : List Int)) 0
def spec_ColumnsOf.f (k : Nat) (l0 : List ByteArray) : Option (List Int × Int) := (spec_l01Words.f k l0).bind fun t119 => (if t119 = true then ((spec_l00In.f (l0.length : Int) 1 3).bind fun t123 => (if t123 = true then ((spec_l01Columns.f k l0).bind fun t124 => (some (t124, 0))) else (some ((([] : List Int)), 2)))) else (some ((([] : List Int)), 1)))
def laws_toStringS.l0 : Nat → List ByteArray → List ByteArray → Int → Option (List ByteArray)
 | 0, _, _, _ => none
 | k + 1, x0, x3, x4 => if x4 < (x0.length : Int) then (if 0 ≤ x4 then (if x4 < (x3.length : Int) then (laws_toStringS.l0 k x0 (x3.set (x4 : Int).toNat (rdOf ByteArray.empty x0 x4)) (wrap64 (x4 + 1))) else (none)) else (none)) else (some x3)
def laws_toStringS.f (k : Nat) (l0 : List ByteArray) : Option (List ByteArray) := if 0 ≤ (l0.length : Int) then (if ((l0.length : Int) : Int).toNat ≤ 17592186044416 then (laws_toStringS.l0 k l0 (List.replicate ((l0.length : Int) : Int).toNat (⟨#[]⟩ : ByteArray)) 0) else (none)) else (none)
def impl_areWords.l0 : Nat → List ByteArray → Int → Int → Option (Bool)
 | 0, _, _, _ => none
 | k + 1, x5, x6, x7 => if x7 < x6 then (if 0 ≤ x7 then (if x7 < (x5.length : Int) then ((impl_ValidWord.f (rdOf ByteArray.empty x5 x7)).bind fun t136 => (if t136 = true then (impl_areWords.l0 k x5 x6 (wrap64 (x7 + 1))) else (some false))) else (none)) else (none)) else (some true)
def impl_areWords.f (k : Nat) (l0 : List ByteArray) : Option (Bool) := impl_areWords.l0 k l0 (l0.length : Int) 0
def impl_within.f (a0 : Int) (a1 : Int) (a2 : Int) : Option (Bool) := if a1 ≤ a0 then (some (decide (a0 ≤ a2))) else (some false)
def impl_areTapes.f (a0 : Int) : Option (Bool) := (impl_within.f a0 1 3).bind fun t137 => (some t137)
def impl_asLongs.l0 : Nat → List Int → List Int → Int → Int → Option (List Int)
 | 0, _, _, _, _ => none
 | k + 1, x3, x6, x7, x8 => if x8 < x7 then (if 0 ≤ x8 then (if x8 < (x6.length : Int) then (if x3.length < 17592186044416 then (impl_asLongs.l0 k (x3 ++ [rd x6 x8]) x6 x7 (wrap64 (x8 + 1))) else (none)) else (none)) else (none)) else (some x3)
def impl_asLongs.f (k : Nat) (l0 : List Int) : Option (List Int) := impl_asLongs.l0 k ([] : List Int) l0 (l0.length : Int) 0
def impl_columnOf.l0 : Nat → List Int → Int → Int → Option (Int)
 | 0, _, _, _ => none
 | k + 1, x0, x3, x4 => if x4 ≥ 0 then (if 0 ≤ x4 then (if x4 < (x0.length : Int) then (impl_columnOf.l0 k x0 (wrap64 ((wrap64 (3 * x3)) + (rd x0 x4))) (wrap64 (x4 - 1))) else (none)) else (none)) else (some x3)
def impl_columnOf.f (k : Nat) (l0 : List Int) : Option (Int) := impl_columnOf.l0 k l0 0 (wrap64 ((l0.length : Int) - 1))
mutual
def impl_columnsOf.l0 : Nat → List ByteArray → Int → List ByteArray → Int → Int → Option (List Int)
 | 0, _, _, _, _, _ => none
 | k + 1, x0, x3, x12, x13, x14 => if x14 < x13 then (if 0 ≤ x14 then (if x14 < (x12.length : Int) then (impl_columnsOf.l0 k x0 (mx x3 ((rdOf ByteArray.empty x12 x14).size : Int)) x12 x13 (wrap64 (x14 + 1))) else (none)) else (none)) else (impl_columnsOf.l1 k x0 x3 ([] : List Int) 0)
def impl_columnsOf.l1 : Nat → List ByteArray → Int → List Int → Int → Option (List Int)
 | 0, _, _, _, _ => none
 | k + 1, x0, x3, x6, x7 => if x7 < x3 then (impl_columnsOf.l2 k x0 x3 x6 x7 ([] : List Int) x0 (x0.length : Int) 0) else (some x6)
def impl_columnsOf.l2 : Nat → List ByteArray → Int → List Int → Int → List Int → List ByteArray → Int → Int → Option (List Int)
 | 0, _, _, _, _, _, _, _, _ => none
 | k + 1, x0, x3, x6, x7, x8, x28, x29, x30 => if x30 < x29 then (if 0 ≤ x30 then (if x30 < (x28.length : Int) then (if x7 < ((rdOf ByteArray.empty x28 x30).size : Int) then (if 0 ≤ x7 then (if x8.length < 17592186044416 then (impl_columnsOf.l2 k x0 x3 x6 x7 (x8 ++ [((bt (rdOf ByteArray.empty x28 x30) x7) - 97) % 256]) x28 x29 (wrap64 (x30 + 1))) else (none)) else (none)) else (if x8.length < 17592186044416 then (impl_columnsOf.l2 k x0 x3 x6 x7 (x8 ++ [2]) x28 x29 (wrap64 (x30 + 1))) else (none))) else (none)) else (none)) else ((impl_columnOf.f k x8).bind fun t151 => (if x6.length < 17592186044416 then (impl_columnsOf.l1 k x0 x3 (x6 ++ [t151]) (wrap64 (x7 + 1))) else (none)))
end
def impl_columnsOf.f (k : Nat) (l0 : List ByteArray) : Option (List Int) := impl_columnsOf.l0 k l0 0 l0 (l0.length : Int) 0
def impl_ColumnsOf.f (k : Nat) (l0 : List ByteArray) : Option (List Int × Int) := (impl_areWords.f k l0).bind fun t155 => (if t155 = true then ((impl_areTapes.f (l0.length : Int)).bind fun t156 => (if t156 = true then ((impl_columnsOf.f k l0).bind fun t157 => ((impl_asLongs.f k t157).bind fun t160 => (some (t160, 0)))) else (some (([] : List Int), 2)))) else (some (([] : List Int), 1)))
def laws_eqInt64S.l0 : Nat → List Int → List Int → Int → Option (Bool)
 | 0, _, _, _ => none
 | k + 1, x0, x1, x5 => if x5 < (x0.length : Int) then (if 0 ≤ x5 then (if x5 < (x1.length : Int) then (if (rd x0 x5) = (rd x1 x5) then (laws_eqInt64S.l0 k x0 x1 (wrap64 (x5 + 1))) else (some false)) else (none)) else (none)) else (some true)
def laws_eqInt64S.f (k : Nat) (l0 : List Int) (l1 : List Int) : Option (Bool) := if (l0.length : Int) = (l1.length : Int) then (laws_eqInt64S.l0 k l0 l1 0) else (some false)
def laws_eqStringS.l0 : Nat → List ByteArray → List ByteArray → Int → Option (Bool)
 | 0, _, _, _ => none
 | k + 1, x0, x1, x5 => if x5 < (x0.length : Int) then (if 0 ≤ x5 then (if x5 < (x1.length : Int) then (if (rdOf ByteArray.empty x0 x5).toList = (rdOf ByteArray.empty x1 x5).toList then (laws_eqStringS.l0 k x0 x1 (wrap64 (x5 + 1))) else (some false)) else (none)) else (none)) else (some true)
def laws_eqStringS.f (k : Nat) (l0 : List ByteArray) (l1 : List ByteArray) : Option (Bool) := if (l0.length : Int) = (l1.length : Int) then (laws_eqStringS.l0 k l0 l1 0) else (some false)
def laws_markText.l0 : Nat → Int → ByteArray → Option (ByteArray)
 | 0, _, _ => none
 | k + 1, x0, x3 => if x0 > 0 then ((some (([(wrap64 (48 + (Int.tmod x0 10))) % 256] : List Int) : List Int)).bind fun y167 => (if (strOfNums y167).size + x3.size ≤ 9223372036854775807 then (laws_markText.l0 k (wrap64 (Int.tdiv x0 10)) ((strOfNums y167) ++ x3)) else (none))) else (if 1 + x3.size ≤ 9223372036854775807 then (some ((⟨#[109]⟩ : ByteArray) ++ x3)) else (none))
def laws_markText.f (k : Nat) (a0 : Int) : Option (ByteArray) := if a0 ≤ 0 then (some (⟨#[109, 48]⟩ : ByteArray)) else (laws_markText.l0 k a0 (⟨#[]⟩ : ByteArray))
def laws_markStringS.l0 : Nat → List ByteArray → Int → Int → Option (Int × List ByteArray)
 | 0, _, _, _ => none
 | k + 1, x0, x1, x5 => if x5 < (x0.length : Int) then ((laws_markText.f k x1).bind fun t170 => (if 0 ≤ x5 then (laws_markStringS.l0 k (x0.set (x5 : Int).toNat t170) (wrap64 (x1 + 1)) (wrap64 (x5 + 1))) else (none))) else (some (x1, x0))
def laws_markStringS.f (k : Nat) (l0 : List ByteArray) (a1 : Int) : Option (Int × List ByteArray) := laws_markStringS.l0 k l0 a1 0
def laws_markInt64S.l0 : Nat → List Int → Int → Int → Option (Int × List Int)
 | 0, _, _, _ => none
 | k + 1, x0, x1, x5 => if x5 < (x0.length : Int) then (if 0 ≤ x5 then (laws_markInt64S.l0 k (x0.set (x5 : Int).toNat x1) (wrap64 (x1 + 1)) (wrap64 (x5 + 1))) else (none)) else (some (x1, x0))
def laws_markInt64S.f (k : Nat) (l0 : List Int) (a1 : Int) : Option (Int × List Int) := laws_markInt64S.l0 k l0 a1 0
def laws_heldInt64S.l0 : Nat → List Int → Int → Int → Option (Int)
 | 0, _, _, _ => none
 | k + 1, x0, x1, x5 => if x5 < (x0.length : Int) then (if 0 ≤ x5 then (if (rd x0 x5) = x1 then (laws_heldInt64S.l0 k x0 (wrap64 (x1 + 1)) (wrap64 (x5 + 1))) else (some (-1))) else (none)) else (some x1)
def laws_heldInt64S.f (k : Nat) (l0 : List Int) (a1 : Int) : Option (Int) := laws_heldInt64S.l0 k l0 a1 0
mutual
def laws_FnExactColumnsOf.j0 : Nat → List ByteArray → List Int → Int → List ByteArray → List Int → Int → Bool → Option (Bool)
 | 0, _, _, _, _, _, _, _ => none
 | k + 1, x0, x4, x5, x6, x7, x8, x40 => if x40 = true then (some false) else ((laws_toStringS.f k x0).bind fun t190 => ((laws_eqStringS.f k x6 t190).bind fun t193 => (if t193 = true then ((laws_markStringS.f k x6 1).bind fun bt194 => (if bt194.1 < 0 then (laws_FnExactColumnsOf.j1 k x0 x4 x5 x7 true) else ((laws_eqInt64S.f k x7 x4).bind fun t196 => (if t196 = true then (laws_FnExactColumnsOf.j1 k x0 x4 x5 x7 (x8 != x5)) else (laws_FnExactColumnsOf.j1 k x0 x4 x5 x7 true))))) else (some false))))
def laws_FnExactColumnsOf.j1 : Nat → List ByteArray → List Int → Int → List Int → Bool → Option (Bool)
 | 0, _, _, _, _, _ => none
 | k + 1, x0, x4, x5, x7, x61 => if x61 = true then (some false) else ((laws_markInt64S.f k x7 1).bind fun bt197 => ((laws_heldInt64S.f k bt197.2 1).bind fun t199 => (if t199 < 0 then (some false) else (if t199 = bt197.1 then ((laws_toStringS.f k x0).bind fun t200 => ((impl_ColumnsOf.f k t200).bind fun bt203 => ((laws_eqInt64S.f k bt203.1 x4).bind fun t207 => (if t207 = true then (laws_FnExactColumnsOf.j2 k bt197.2 bt197.1 (bt203.2 != x5)) else (laws_FnExactColumnsOf.j2 k bt197.2 bt197.1 true))))) else (some false)))))
def laws_FnExactColumnsOf.j2 : Nat → List Int → Int → Bool → Option (Bool)
 | 0, _, _, _ => none
 | k + 1, x7, x10, x87 => if x87 = true then (some false) else ((laws_heldInt64S.f k x7 1).bind fun t208 => (if t208 < 0 then (some false) else (if t208 = x10 then (some true) else (some false))))
end
def laws_FnExactColumnsOf.f (k : Nat) (l0 : List ByteArray) : Option (Bool) := (laws_szStringS.f k l0 1048576).bind fun t174 => (if t174 < 0 then (some true) else ((laws_toStringS.f k l0).bind fun t175 => ((spec_ColumnsOf.f k t175).bind fun bt178 => ((laws_toStringS.f k l0).bind fun t182 => ((impl_ColumnsOf.f k t182).bind fun bt185 => ((laws_eqInt64S.f k bt185.1 bt178.1).bind fun t189 => (if t189 = true then (laws_FnExactColumnsOf.j0 k l0 bt178.1 bt178.2 t182 bt185.1 bt185.2 (bt185.2 != bt178.2)) else (laws_FnExactColumnsOf.j0 k l0 bt178.1 bt178.2 t182 bt185.1 bt185.2 true))))))))
end Go.Proofs.YtelicdmaohllgaaDoor.X
namespace Go.Proofs.YtelicdmaohllgaaDoor.Pure
set_option maxHeartbeats 16000000
set_option maxRecDepth 100000
open Go.RowKit Go.Proofs.YtelicdmaohllgaaDoor.X Go.Proofs.YtelicdmaohllgaaDoorW.PrintWords Go.Proofs.YtelicdmaohllgaaDoorW.PrintLast
set_option linter.unusedVariables false
set_option linter.unusedSimpArgs false
theorem Ev.succ {α : Type} {g : Nat → Option α} {r : α} (h : Ev (fun k => g (k + 1)) r) : Ev g r := Ev.step (fun _ => rfl) h
theorem Ev.const {α : Type} {o : Option α} {r : α} (h : o = some r) : Ev (fun _ => o) r := ⟨0, fun _ _ => h⟩
theorem w64 {n : Int} (h0 : -9223372036854775808 ≤ n) (h1 : n ≤ 9223372036854775807) : wrap64 n = n := by
 unfold wrap64; omega
theorem rd_nat (xs : List Int) (i : Nat) (h : i < xs.length) : rd xs (i : Int) = xs[i] := by
 simp [rd, List.getD_eq_getElem?_getD, h]
theorem rdOf_nat {α : Type} (d : α) (xs : List α) (i : Nat) (h : i < xs.length) : rdOf d xs (i : Int) = xs[i] := by
 simp [rdOf, List.getD_eq_getElem?_getD, h]
theorem set_take {α : Type} (l ys : List α) (i : Nat) (x : α) (hx : l[i]? = some x) (hl : ys.length = l.length) (h : ys.take i = l.take i) : (ys.set i x).take (i + 1) = l.take (i + 1) := by
 have hi : i < l.length := (List.getElem?_eq_some_iff.1 hx).1; apply List.ext_getElem?; intro j; have hj := congrArg (fun z => z[j]?) h
 simp only [List.getElem?_take] at hj ⊢
 rw [List.getElem?_set]; by_cases h1 : j < i + 1
 ·by_cases h2 : i = j
  ·subst h2; simp only [h1, if_true]; rw [if_pos (by omega)]; exact hx.symm
  ·have h3 : j < i := by omega
   simp only [h1, if_true, h2, if_false, h3] at hj ⊢
   exact hj
 ·simp [h1]
theorem Ev.pos {α : Type} {c : Prop} [Decidable c] {f g : Nat → Option α} {r : α} (h : c) (k : Ev f r) : Ev (fun n => if c then f n else g n) r := by
 obtain ⟨K, k⟩ := k; exact ⟨K, fun n hn => (if_pos h).trans (k n hn)⟩
theorem Ev.neg {α : Type} {c : Prop} [Decidable c] {f g : Nat → Option α} {r : α} (h : ¬ c) (k : Ev g r) : Ev (fun n => if c then f n else g n) r := by
 obtain ⟨K, k⟩ := k; exact ⟨K, fun n hn => (if_neg h).trans (k n hn)⟩
theorem eqInt64S_l (l : List Int) (hn : l.length ≤ 35184372088832) (d : Nat) : ∀ (i : Nat), i + d = l.length → Ev (fun k => laws_eqInt64S.l0 k l l (i : Int)) true := by
 induction d with
 | zero =>
  intro i hi; apply Ev.succ; simp only [laws_eqInt64S.l0]; refine Ev.neg (by omega) ?_; exact Ev.const rfl
 | succ d ih =>
  intro i hi; apply Ev.succ; simp only [laws_eqInt64S.l0]; refine Ev.pos (by omega) ?_; refine Ev.pos (by omega) ?_; refine Ev.pos (by omega) ?_; refine Ev.pos trivial ?_; rw [w64 (by omega) (by omega)]; exact ih (i + 1) (by omega)
theorem eqInt64S_ev (l : List Int) (hn : l.length ≤ 35184372088832) : Ev (fun k => laws_eqInt64S.f k l l) true := by
 unfold laws_eqInt64S.f; refine Ev.pos rfl ?_; exact eqInt64S_l l hn l.length 0 (by omega)
theorem eqStringS_l (l : List ByteArray) (hn : l.length ≤ 35184372088832) (d : Nat) : ∀ (i : Nat), i + d = l.length → Ev (fun k => laws_eqStringS.l0 k l l (i : Int)) true := by
 induction d with
 | zero =>
  intro i hi; apply Ev.succ; simp only [laws_eqStringS.l0]; refine Ev.neg (by omega) ?_; exact Ev.const rfl
 | succ d ih =>
  intro i hi; apply Ev.succ; simp only [laws_eqStringS.l0]; refine Ev.pos (by omega) ?_; refine Ev.pos (by omega) ?_; refine Ev.pos (by omega) ?_; refine Ev.pos trivial ?_; rw [w64 (by omega) (by omega)]; exact ih (i + 1) (by omega)
theorem eqStringS_ev (l : List ByteArray) (hn : l.length ≤ 35184372088832) : Ev (fun k => laws_eqStringS.f k l l) true := by
 unfold laws_eqStringS.f; refine Ev.pos rfl ?_; exact eqStringS_l l hn l.length 0 (by omega)
theorem strOfNums_one (x : Int) : (strOfNums [x]).size = 1 := by
 simp [strOfNums, ByteArray.size]
theorem markText_l (d : Nat) : ∀ (n : Nat) (s : ByteArray), n ≤ d → s.size + d ≤ 9223372036854775806 → ∃ t, Ev (fun k => laws_markText.l0 k (n : Int) s) t := by
 induction d with
 | zero =>
  intro n s hn hs; refine ⟨(⟨#[109]⟩ : ByteArray) ++ s, ?_⟩; apply Ev.succ; simp only [laws_markText.l0]; refine Ev.neg (by omega) ?_; refine Ev.pos (by omega) ?_; exact Ev.const rfl
 | succ d ih =>
  intro n s hn hs; by_cases h0 : n = 0
  ·refine ⟨(⟨#[109]⟩ : ByteArray) ++ s, ?_⟩; apply Ev.succ; simp only [laws_markText.l0]; refine Ev.neg (by omega) ?_; refine Ev.pos (by omega) ?_; exact Ev.const rfl
  ·(have hq : Int.tdiv (n : Int) 10 = ((n / 10 : Nat) : Int) := by rw [Int.tdiv_eq_ediv_of_nonneg (by omega)]; omega); obtain ⟨t, h⟩ := ih (n / 10) ((strOfNums [(wrap64 (48 + (Int.tmod (n : Int) 10))) % 256]) ++ s) (by omega) (by rw [ByteArray.size_append, strOfNums_one]; omega); refine ⟨t, ?_⟩; apply Ev.succ; simp only [laws_markText.l0, Option.bind_some]; refine Ev.pos (by omega) ?_; refine Ev.pos (by rw [strOfNums_one]; omega) ?_; rw [hq, w64 (by omega) (by omega)]; exact h
theorem markText_ev (n : Nat) (hn : n ≤ 1152921504606846976) : ∃ t, Ev (fun k => laws_markText.f k (n : Int)) t := by
 unfold laws_markText.f; by_cases h : n = 0
 ·exact ⟨(⟨#[109, 48]⟩ : ByteArray), Ev.pos (by omega) (Ev.const rfl)⟩
 ·obtain ⟨t, ht⟩ := markText_l n n (⟨#[]⟩ : ByteArray) (Nat.le_refl _) (by have : (⟨#[]⟩ : ByteArray).size = 0 := rfl; omega); exact ⟨t, Ev.neg (by omega) ht⟩
noncomputable def mt (n : Nat) : ByteArray := if h : n ≤ 1152921504606846976 then Classical.choose (markText_ev n h) else ByteArray.empty
theorem mt_ev (n : Nat) (hn : n ≤ 1152921504606846976) : Ev (fun k => laws_markText.f k (n : Int)) (mt n) := by
 unfold mt; rw [dif_pos hn]; exact Classical.choose_spec (markText_ev n hn)
noncomputable def marks (n : Nat) : Nat → List ByteArray
 | 0 => []
 | d + 1 => mt n :: marks (n + 1) d
theorem markStringS_l (d : Nat) : ∀ (i n : Nat) (ys : List ByteArray), i + d = ys.length → n + d ≤ 1152921504606846976 → ys.length ≤ 35184372088832 → Ev (fun k => laws_markStringS.l0 k ys (n : Int) (i : Int)) (((n + d : Nat) : Int), ys.take i ++ marks n d) := by
 induction d with
 | zero =>
  intro i n ys hi hn hl; apply Ev.succ; simp only [laws_markStringS.l0]; refine Ev.neg (by omega) ?_; exact Ev.const (by simp [marks, List.take_of_length_le (show ys.length ≤ i by omega)])
 | succ d ih =>
  intro i n ys hi hn hl; apply Ev.succ; simp only [laws_markStringS.l0]; refine Ev.pos (by omega) ?_; refine Ev.bind (mt_ev n (by omega)) ?_; refine Ev.pos (by omega) ?_; rw [w64 (n := (n : Int) + 1) (by omega) (by omega), w64 (n := (i : Int) + 1) (by omega) (by omega), Int.toNat_natCast]; have h := ih (i + 1) (n + 1) (ys.set i (mt n)) (by simp; omega) (by omega) (by simpa using hl)
  have e : (ys.set i (mt n)).take (i + 1) = ys.take i ++ [mt n] := by
   apply List.ext_getElem?; intro j; rw [List.getElem?_take, List.getElem?_set]; by_cases h1 : j < i
   ·rw [if_pos (by omega), if_neg (by omega), List.getElem?_append_left (by simp; omega), List.getElem?_take, if_pos h1]
   ·by_cases h2 : j = i
    ·subst h2; rw [if_pos (by omega), if_pos rfl, if_pos (by omega), List.getElem?_append_right (by simp; omega)]; simp [show min j ys.length = j by omega]
    ·rw [if_neg (by omega), List.getElem?_eq_none (by simp; omega)]
  rw [e] at h; rw [show n + (d + 1) = n + 1 + d by omega]
  simpa [marks] using h
theorem markStringS_ev (ys : List ByteArray) (n : Nat) (hn : n + ys.length ≤ 1152921504606846976) (hl : ys.length ≤ 35184372088832) : Ev (fun k => laws_markStringS.f k ys (n : Int)) (((n + ys.length : Nat) : Int), marks n ys.length) := by
 have h := markStringS_l ys.length 0 n ys (by omega) hn hl; unfold laws_markStringS.f
 simpa using h
def mI : Nat → Nat → List Int
 | _, 0 => []
 | a, n + 1 => (a : Int) :: mI (a + 1) n
instance decTail : DecidableEq (List Bool × List (List Int) × Int) := inferInstance
instance decRel5 : DecidableEq (Int × Int × List Bool × List (List Int) × Int) := fun a b => @instDecidableEqProd _ _ inferInstance (fun x y => @instDecidableEqProd _ _ inferInstance decTail x y) a b
theorem Ev.guard {α β : Type} {g : Nat → Option α} {a : α} {f : Nat → Option β} {r : β} {D : ∀ k, Decidable (g k = some a)} (hg : Ev g a) (h : Ev f r) : Ev (fun k => if g k = some a then f k else none) r := by
 obtain ⟨K, hg⟩ := hg; obtain ⟨L, h⟩ := h; exact ⟨max K L, fun k hk => (if_pos (hg k (by omega))).trans (h k (by omega))⟩
theorem set_mid {α : Type} (p s : List α) (x v : α) : (p ++ x :: s).set p.length v = (p ++ [v]) ++ s := by simp
theorem getD_mid {α : Type} (d : α) (p s : List α) (x : α) : (p ++ x :: s).getD p.length d = x := by simp [List.getD_eq_getElem?_getD]
theorem markInt_l0 : ∀ (s p : List Int) (a : Nat), a + s.length ≤ 1152921504606846976 → p.length + s.length ≤ 35184372088832 → Ev (fun k => laws_markInt64S.l0 k (p ++ s) (a : Int) (p.length : Int)) (((a + s.length : Nat) : Int), p ++ mI a s.length) := by
 intro s
 induction s with
 | nil =>
  intro p a h1 h2; apply Ev.succ; simp only [laws_markInt64S.l0]; refine Ev.neg (by simp) ?_; exact Ev.const (by simp [mI])
 | cons x s ih =>
  intro p a h1 h2; simp only [List.length_cons] at h1 h2; apply Ev.succ; simp only [laws_markInt64S.l0]; refine Ev.pos (by simp; omega) (Ev.pos (by omega) ?_); rw [w64 (by omega) (by omega), w64 (by omega) (by omega), Int.toNat_natCast, set_mid]; have h := ih (p ++ [(a : Int)]) (a + 1) (by omega) (by simp; omega); (have e1 : (((p ++ [(a : Int)]).length : Nat) : Int) = (p.length : Int) + 1 := by simp); rw [e1] at h; (have e2 : ((a + 1 : Nat) : Int) = (a : Int) + 1 := by omega); rw [e2] at h; (have e3 : (p ++ [(a : Int)]) ++ mI (a + 1) s.length = p ++ mI a (x :: s).length := by simp [mI]); rw [e3, show a + 1 + s.length = a + (x :: s).length by simp; omega] at h; exact h
theorem markInt_ev (l : List Int) (a : Nat) (h1 : a + l.length ≤ 1152921504606846976) (h2 : l.length ≤ 35184372088832) : Ev (fun k => laws_markInt64S.f k l (a : Int)) (((a + l.length : Nat) : Int), mI a l.length) := by
 have h := markInt_l0 l [] a h1 (by simpa using h2)
 simpa [laws_markInt64S.f] using h
theorem heldInt_l0 : ∀ (n a : Nat) (p : List Int), a + n ≤ 1152921504606846976 → p.length + n ≤ 35184372088832 → Ev (fun k => laws_heldInt64S.l0 k (p ++ mI a n) (a : Int) (p.length : Int)) ((a + n : Nat) : Int) := by
 intro n
 induction n with
 | zero =>
  intro a p h1 h2; apply Ev.succ; simp only [laws_heldInt64S.l0, mI, List.append_nil]; exact Ev.neg (by omega) (Ev.const (by simp))
 | succ n ih =>
  intro a p h1 h2; apply Ev.succ; simp only [laws_heldInt64S.l0, mI]; refine Ev.pos (by simp; omega) (Ev.pos (by omega) (Ev.pos ?_ ?_))
  ·unfold rd; rw [Int.toNat_natCast, getD_mid]
  ·rw [w64 (by omega) (by omega), w64 (by omega) (by omega)]; have h := ih (a + 1) (p ++ [(a : Int)]) (by omega) (by simp; omega); (have e1 : (((p ++ [(a : Int)]).length : Nat) : Int) = (p.length : Int) + 1 := by simp); (have e2 : ((a + 1 : Nat) : Int) = (a : Int) + 1 := by omega); rw [e1, e2, List.append_assoc, show a + 1 + n = a + (n + 1) by omega] at h; exact h
theorem heldInt_ev (n a : Nat) (h1 : a + n ≤ 1152921504606846976) (h2 : n ≤ 35184372088832) : Ev (fun k => laws_heldInt64S.f k (mI a n) (a : Int)) ((a + n : Nat) : Int) := by
 have h := heldInt_l0 n a [] h1 (by simpa using h2)
 simpa [laws_heldInt64S.f] using h
theorem toStringS_l (l : List ByteArray) (hn : l.length ≤ 1048576) (d : Nat) : ∀ (i : Nat) (ys : List ByteArray), i + d = l.length → ys.length = l.length → ys.take i = l.take i → Ev (fun k => laws_toStringS.l0 k l ys (i : Int)) l := by
 induction d with
 | zero =>
  intro i ys hi hl h; apply Ev.succ; simp only [laws_toStringS.l0]; refine Ev.neg (by omega) (Ev.const ?_); rw [List.take_of_length_le (by omega), List.take_of_length_le (by omega)] at h; rw [h]
 | succ d ih =>
  intro i ys hi hl h; apply Ev.succ; simp only [laws_toStringS.l0]; refine Ev.pos (by omega) (Ev.pos (by omega) (Ev.pos (by omega) ?_)); rw [rdOf_nat _ l i (by omega), w64 (by omega) (by omega), Int.toNat_natCast]; exact ih (i + 1) _ (by omega) (by simpa using hl) (set_take l ys i _ (List.getElem?_eq_getElem (by omega)) hl h)
theorem toStringS_ev (l : List ByteArray) (hn : l.length ≤ 1048576) : Ev (fun k => laws_toStringS.f k l) l := by
 unfold laws_toStringS.f; refine Ev.pos (by omega) (Ev.pos (by omega) ?_); exact toStringS_l l hn l.length 0 _ (by omega) (by simp) (by simp)
theorem szStringS_l (l : List ByteArray) (hn : l.length ≤ 1048576) (hs : ∀ w ∈ l, w.size ≤ 9223372036854775807) (d : Nat) : ∀ (i a : Nat), i + d = l.length → a ≤ 1048576 → ∃ n : Int, Ev (fun k => laws_szStringS.l0 k l (a : Int) (i : Int)) n ∧ n ≤ 1048576 ∧ (0 ≤ n → ∀ w ∈ l.drop i, w.size ≤ 1048576) := by
 induction d with
 | zero =>
  intro i a hi ha; refine ⟨a, Ev.succ ?_, by omega, fun _ => by rw [List.drop_of_length_le (by omega)]; simp⟩; simp only [laws_szStringS.l0]; exact Ev.neg (by omega) (Ev.now _)
 | succ d ih =>
  intro i a hi ha; have hsi := hs _ (List.getElem_mem (show i < l.length by omega)); by_cases c : l[i].size ≤ a
  ·obtain ⟨n, h1, h2, h3⟩ := ih (i + 1) (a - l[i].size) (by omega) (by omega); refine ⟨n, Ev.succ ?_, h2, fun h0 w hw => ?_⟩
   ·simp only [laws_szStringS.l0]; refine Ev.pos (by omega) (Ev.pos (by omega) ?_); rw [rdOf_nat _ l i (by omega), w64 (n := (a : Int) - _) (by omega) (by omega), w64 (n := (i : Int) + 1) (by omega) (by omega)]; refine Ev.neg (by omega) ?_; rw [show ((a : Int) - (l[i].size : Int)) = ((a - l[i].size : Nat) : Int) by omega]
    exact_mod_cast h1
   ·rw [List.drop_eq_getElem_cons (show i < l.length by omega)] at hw
    rcases List.mem_cons.1 hw with rfl | hw
    ·omega
    ·exact h3 h0 w hw
  ·refine ⟨-1, Ev.succ ?_, by omega, fun h0 => by omega⟩; simp only [laws_szStringS.l0]; refine Ev.pos (by omega) (Ev.pos (by omega) ?_); rw [rdOf_nat _ l i (by omega), w64 (n := (a : Int) - _) (by omega) (by omega)]; exact Ev.pos (by omega) (Ev.now _)
theorem szStringS_ev (l : List ByteArray) (a : Nat) (ha : a ≤ 1048576) (hn : l.length ≤ 9223372036854775807) (hs : ∀ w ∈ l, w.size ≤ 9223372036854775807) : ∃ n : Int, Ev (fun k => laws_szStringS.f k l (a : Int)) n ∧ n ≤ 1048576 ∧ (0 ≤ n → l.length ≤ 1048576 ∧ ∀ w ∈ l, w.size ≤ 1048576) := by
 unfold laws_szStringS.f; by_cases c : l.length ≤ a
 ·obtain ⟨n, h1, h2, h3⟩ := szStringS_l l (by omega) hs l.length 0 (a - l.length) (by omega) (by omega); refine ⟨n, ?_, h2, fun h0 => ⟨by omega, h3 h0⟩⟩; rw [w64 (by omega) (by omega)]; refine Ev.neg (by omega) ?_; rw [show ((a : Int) - (l.length : Int)) = ((a - l.length : Nat) : Int) by omega]; exact h1
 ·refine ⟨-1, ?_, by omega, fun h0 => by omega⟩; rw [w64 (by omega) (by omega)]; exact Ev.pos (by omega) (Ev.now _)
def wordB (s : ByteArray) : Bool := decide (s.size ≤ 40) && s.data.toList.all (fun c => c == 97 || c == 98)
theorem bt_get (s : ByteArray) (i : Nat) (h : i < s.size) : bt s (i : Int) = ((s.data.toList[i]'(by simpa using h)).toNat : Int) := by
 unfold bt; rw [dif_pos (by simpa using h)]; rfl
theorem byte_97 (c : UInt8) : ((c.toNat : Int) = 97) ↔ (c == 97) = true := by
 rw [beq_iff_eq, ← UInt8.toNat_inj]; show _ ↔ c.toNat = 97; omega
theorem byte_98 (c : UInt8) : ((c.toNat : Int) = 98) ↔ (c == 98) = true := by
 rw [beq_iff_eq, ← UInt8.toNat_inj]; show _ ↔ c.toNat = 98; omega
theorem word_l0 (s : ByteArray) (hs : s.size ≤ 1000000000000) (d : Nat) : ∀ i : Nat, i + d = s.size → Ev (fun k => spec_l01Word.l0 k s (i : Int)) (decide (s.size ≤ 40) && (s.data.toList.drop i).all (fun c => c == 97 || c == 98)) := by
 induction d with
 | zero =>
  intro i hi; apply Ev.succ; simp only [spec_l01Word.l0]; refine Ev.neg (by omega) (Ev.const ?_); rw [List.drop_of_length_le (by simp; omega)]; simp; omega
 | succ d ih =>
  intro i hi; apply Ev.succ; simp only [spec_l01Word.l0]; (have hl : i < s.data.toList.length := by simp; omega); refine Ev.pos (by omega) (Ev.pos (by omega) ?_); rw [bt_get s i (by omega), w64 (by omega) (by omega), List.drop_eq_getElem_cons hl, List.all_cons]; generalize hc : s.data.toList[i] = c; by_cases c1 : (c == 97) = true
  ·refine Ev.pos ((byte_97 c).2 c1) ?_; rw [c1]; exact ih (i + 1) (by omega)
  ·refine Ev.neg (fun h => c1 ((byte_97 c).1 h)) ?_; by_cases c2 : (c == 98) = true
   ·refine Ev.pos ((byte_98 c).2 c2) ?_; rw [c2]; simp only [Bool.or_true, Bool.true_and]; exact ih (i + 1) (by omega)
   ·refine Ev.neg (fun h => c2 ((byte_98 c).1 h)) (Ev.const ?_); simp [c1, c2]
theorem word_ev (s : ByteArray) (hs : s.size ≤ 1000000000000) : Ev (fun k => spec_l01Word.f k s) (wordB s) := word_l0 s hs s.size 0 (by omega)
theorem dropWhile_nil {α : Type} (p : α → Bool) : ∀ l : List α, l.dropWhile p = [] ↔ ∀ x ∈ l, p x = true := by
 intro l
 induction l with
 | nil => simp
 | cons a l ih =>
  by_cases c : p a = true
  ·rw [List.dropWhile_cons_of_pos c, ih]; simp [c]
  ·rw [List.dropWhile_cons_of_neg c]; simp [c]
theorem takeWhile_all {α : Type} (p : α → Bool) : ∀ (l : List α) (x : α), x ∈ l.takeWhile p → p x = true := by
 intro l
 induction l with
 | nil => intro x h; simp at h
 | cons a l ih =>
  intro x h; by_cases c : p a = true
  ·rw [List.takeWhile_cons_of_pos c] at h
   rcases List.mem_cons.1 h with rfl | h
   ·exact c
   ·exact ih x h
  ·rw [List.takeWhile_cons_of_neg c] at h; simp at h
theorem all_ab (l : List UInt8) : Lib.trimS l [97, 98] = [] ↔ l.all (fun c => c == 97 || c == 98) = true := by
 (have hp : (fun c : UInt8 => [97, 98].contains c) = (fun c => c == 97 || c == 98) := by funext c; simp; rfl); unfold Lib.trimS Lib.trimLeftS Lib.trimRightS; rw [dropWhile_nil, show (fun x : UInt8 => List.contains [97, 98] x) = (fun c => c == 97 || c == 98) from hp]; constructor
 ·intro h; rw [List.all_eq_true]; intro x hx; by_cases hin : x ∈ (l.reverse.dropWhile (fun c => c == 97 || c == 98)).reverse
  ·have q_ := h x hin; rw [show [97, 98].contains x = (x == 97 || x == 98) from congrFun hp x] at q_; exact q_
  ·have hx' : x ∈ l.reverse := List.mem_reverse.2 hx; rw [← List.takeWhile_append_dropWhile (p := fun c : UInt8 => c == 97 || c == 98) (l := l.reverse)] at hx'
   rcases List.mem_append.1 hx' with h1 | h1
   ·exact takeWhile_all (fun c : UInt8 => c == 97 || c == 98) l.reverse x h1
   ·exact absurd (List.mem_reverse.2 h1) hin
 ·intro h x hx; have hx' := (List.dropWhile_sublist _).mem (List.mem_reverse.1 hx); rw [show [97, 98].contains x = (x == 97 || x == 98) from congrFun hp x]; exact List.all_eq_true.1 h x (List.mem_reverse.1 hx')
theorem validWord_ev (s : ByteArray) (hs : s.size ≤ 1000000000000) : impl_ValidWord.f s = some (wordB s) := by
 unfold impl_ValidWord.f wordB; by_cases c : s.size ≤ 40
 ·rw [if_pos (by omega), decide_eq_true c, Bool.true_and]; unfold strings_Trim.f; rw [if_pos ⟨by omega, by decide, by decide⟩]; simp only [Option.bind_some, Option.some.injEq]; have h := all_ab s.data.toList; show (((⟨(Lib.trimS s.data.toList [97, 98]).toArray⟩ : ByteArray).toList == []) = _); rw [Bool.eq_iff_iff, ← h, beq_iff_eq, Lib.toList_data]
 ·rw [if_neg (by omega), decide_eq_false c, Bool.false_and]
theorem words_l0 (ws : List ByteArray) (hl : ws.length ≤ 1000000000000) (hs : ∀ s ∈ ws, s.size ≤ 1000000000000) (d : Nat) : ∀ i : Nat, i + d = ws.length → Ev (fun k => spec_l01Words.l0 k ws (i : Int)) ((ws.drop i).all wordB) := by
 induction d with
 | zero =>
  intro i hi; apply Ev.succ; simp only [spec_l01Words.l0]; refine Ev.neg (by omega) (Ev.const ?_); rw [List.drop_of_length_le (by omega)]; rfl
 | succ d ih =>
  intro i hi; apply Ev.succ; simp only [spec_l01Words.l0]; refine Ev.pos (by omega) (Ev.pos (by omega) ?_); rw [rdOf_nat _ ws i (by omega), w64 (by omega) (by omega), List.drop_eq_getElem_cons (show i < ws.length by omega), List.all_cons]; refine Ev.bind (word_ev _ (hs _ (List.getElem_mem (by omega)))) ?_
  cases e : wordB ws[i] with
  | true => exact Ev.pos rfl (ih (i + 1) (by omega))
  | false => exact Ev.neg (by simp) (Ev.now _)
theorem words_ev (ws : List ByteArray) (hl : ws.length ≤ 1000000000000) (hs : ∀ s ∈ ws, s.size ≤ 1000000000000) : Ev (fun k => spec_l01Words.f k ws) (ws.all wordB) := words_l0 ws hl hs ws.length 0 (by omega)
theorem areWords_l0 (ws : List ByteArray) (hl : ws.length ≤ 1000000000000) (hs : ∀ s ∈ ws, s.size ≤ 1000000000000) (d : Nat) : ∀ i : Nat, i + d = ws.length → Ev (fun k => impl_areWords.l0 k ws (ws.length : Int) (i : Int)) ((ws.drop i).all wordB) := by
 induction d with
 | zero =>
  intro i hi; apply Ev.succ; simp only [impl_areWords.l0]; refine Ev.neg (by omega) (Ev.const ?_); rw [List.drop_of_length_le (by omega)]; rfl
 | succ d ih =>
  intro i hi; apply Ev.succ; simp only [impl_areWords.l0]; refine Ev.pos (by omega) (Ev.pos (by omega) (Ev.pos (by omega) ?_)); rw [rdOf_nat _ ws i (by omega), w64 (by omega) (by omega), List.drop_eq_getElem_cons (show i < ws.length by omega), List.all_cons, validWord_ev _ (hs _ (List.getElem_mem (by omega)))]; simp only [Option.bind_some]
  cases e : wordB ws[i] with
  | true => exact Ev.pos rfl (ih (i + 1) (by omega))
  | false => exact Ev.neg (by simp) (Ev.now _)
theorem areWords_ev (ws : List ByteArray) (hl : ws.length ≤ 1000000000000) (hs : ∀ s ∈ ws, s.size ≤ 1000000000000) : Ev (fun k => impl_areWords.f k ws) (ws.all wordB) := areWords_l0 ws hl hs ws.length 0 (by omega)
/-- What a word has in column i. -/
def dgt (w : ByteArray) (i : Nat) : Int := if i < w.size then bt w (i : Int) - 97 else 2
def colL : List Int → Int
 | [] => 0
 | d :: ds => d + 3 * colL ds
def colAt (ws : List ByteArray) (i : Nat) : Int := colL (ws.map fun w => dgt w i)
def longest : List ByteArray → Nat
 | [] => 0
 | w :: ws => max w.size (longest ws)
def colsL (ws : List ByteArray) : List Int := (List.range (longest ws)).map (colAt ws)
theorem longest_le {ws : List ByteArray} {N : Nat} (h : ∀ w ∈ ws, w.size ≤ N) : longest ws ≤ N := by
 induction ws with
 | nil => simp [longest]
 | cons w ws ih =>
  have h1 := h w (by simp); have h2 := ih (fun x hx => h x (List.mem_cons_of_mem _ hx)); simp only [longest]; omega
theorem longest_any (ws : List ByteArray) (i : Nat) : (i < longest ws) ↔ ∃ w ∈ ws, i < w.size := by
 induction ws with
 | nil => simp [longest]
 | cons w ws ih =>
  simp only [longest, List.mem_cons, exists_eq_or_imp, ← ih]; omega
theorem wordB_get {w : ByteArray} (h : wordB w = true) : w.size ≤ 40 ∧ ∀ i : Nat, i < w.size → bt w (i : Int) = 97 ∨ bt w (i : Int) = 98 := by
 simp only [wordB, Bool.and_eq_true, decide_eq_true_eq, List.all_eq_true, Bool.or_eq_true] at h; refine ⟨h.1, fun i hi => ?_⟩; rw [bt_get w i hi]
 rcases h.2 _ (List.getElem_mem (show i < w.data.toList.length by simpa using hi)) with c | c
 ·exact .inl ((byte_97 _).2 c)
 ·exact .inr ((byte_98 _).2 c)
theorem dgt_range {w : ByteArray} (h : wordB w = true) (i : Nat) : 0 ≤ dgt w i ∧ dgt w i ≤ 2 ∧ (i < w.size → dgt w i ≤ 1) := by
 unfold dgt; obtain ⟨_, hb⟩ := wordB_get h
 split
 ·next hi => rcases hb i hi with e | e <;> rw [e] <;> omega
 ·exact ⟨by omega, by omega, fun h => by omega⟩
theorem colL_range : ∀ ds : List Int, (∀ d ∈ ds, 0 ≤ d ∧ d ≤ 2) → 0 ≤ colL ds ∧ colL ds ≤ 3 ^ ds.length - 1 := by
 intro ds
 induction ds with
 | nil => intro _; simp [colL]
 | cons d ds ih =>
  intro h; have h1 := h d (by simp); have h2 := ih (fun x hx => h x (List.mem_cons_of_mem _ hx)); simp only [colL, List.length_cons, Int.pow_succ]; omega
theorem digits_ok {ws : List ByteArray} (h : ∀ w ∈ ws, wordB w = true) (i : Nat) : ∀ d ∈ ws.map (fun w => dgt w i), 0 ≤ d ∧ d ≤ 2 := by
 intro d hd; obtain ⟨w, hw, rfl⟩ := List.mem_map.1 hd; exact ⟨(dgt_range (h w hw) i).1, (dgt_range (h w hw) i).2.1⟩
theorem pow_fin : ∀ n : Fin 4, spec_l01Power.f 10 (n.val : Int) = some (3 ^ n.val) := by decide +kernel
theorem pow_ev (n : Nat) (h : n ≤ 3) : Ev (fun k => spec_l01Power.f k (n : Int)) (3 ^ n) := Ev.of (fun k => spec_l01Power.mono _ k) (pow_fin ⟨n, by omega⟩)
theorem pow3_le {n : Nat} (h : n ≤ 3) : (1 : Int) ≤ 3 ^ n ∧ (3 : Int) ^ n ≤ 27 := by
 have : n = 0 ∨ n = 1 ∨ n = 2 ∨ n = 3 := by omega
 rcases this with rfl | rfl | rfl | rfl <;> decide
/-- One column, as the reference reckons it. -/
theorem specCol (ws : List ByteArray) (hl : ws.length ≤ 3) (hw : ∀ w ∈ ws, wordB w = true) (out : List Int) (i : Nat) (ho : out.length ≤ 1000) (hi40 : i ≤ 100) {r : List Int}
  (hmore : i < longest ws → Ev (fun k => spec_l01Columns.l0 k ws (out ++ [colAt ws i]) ((i : Int) + 1)) r) (hend : ¬ i < longest ws → out = r) (d : Nat) :
  ∀ (t : Nat) (x : Int) (b : Bool), t + d = ws.length → 0 ≤ x → x + 3 ^ t * colL ((ws.drop t).map fun w => dgt w i) = colAt ws i → x ≤ 27 → (b = true ∨ ∃ w ∈ ws.drop t, i < w.size) = (i < longest ws) → Ev (fun k => spec_l01Columns.l1 k ws out (i : Int) x b (t : Int)) r := by
 induction d with
 | zero =>
  intro t x b ht hx0 hx hx27 hb; apply Ev.succ; simp only [spec_l01Columns.l1]; refine Ev.neg (by omega) ?_; rw [List.drop_of_length_le (by omega)] at hx hb; simp only [List.map_nil, colL, Int.mul_zero, Int.add_zero] at hx; simp only [List.not_mem_nil, false_and, exists_false, or_false] at hb; by_cases c : b = true
  ·refine Ev.pos c (Ev.pos (by omega) ?_); rw [w64 (by omega) (by omega), hx]; exact hmore (hb ▸ c)
  ·refine Ev.neg c (Ev.const ?_); rw [hend (fun h => c (hb.symm ▸ h))]
 | succ d ih =>
  intro t x b ht hx0 hx hx27 hb; (have hlt : t < ws.length := by omega); have hwt := hw _ (List.getElem_mem hlt); have hdr := dgt_range hwt i; rw [List.drop_eq_getElem_cons hlt] at hx hb; simp only [List.map_cons, colL] at hx; simp only [List.mem_cons, exists_eq_or_imp] at hb; have hp := pow3_le (show t ≤ 3 by omega)
  have hc := colL_range ((ws.drop (t + 1)).map fun w => dgt w i) (fun e he => by
   obtain ⟨w, hw', rfl⟩ := List.mem_map.1 he; have := dgt_range (hw w (List.mem_of_mem_drop hw')) i
   exact ⟨this.1, this.2.1⟩)
  have hr27 : colAt ws i ≤ 26 := by
   have h1 := (colL_range _ (digits_ok hw i)).2; have h2 := (pow3_le hl).2; simp only [List.length_map] at h1; unfold colAt; omega
  have hmul : 0 ≤ 3 ^ t * dgt ws[t] i := Int.mul_nonneg (by omega) hdr.1; have hmul2 : 0 ≤ 3 ^ t * (3 * colL ((ws.drop (t + 1)).map fun w => dgt w i)) := Int.mul_nonneg (by omega) (by omega); rw [Int.mul_add] at hx
  have hnext : Ev (fun k => spec_l01Columns.l1 k ws out (i : Int) (x + dgt ws[t] i * 3 ^ t) (b || decide (i < ws[t].size)) ((t : Int) + 1)) r := by
   have h := ih (t + 1) (x + dgt ws[t] i * 3 ^ t) (b || decide (i < ws[t].size)) (by omega) (by rw [Int.mul_comm]; omega) (by rw [Int.pow_succ, Int.mul_assoc, Int.mul_comm (dgt ws[t] i)]; omega) (by rw [Int.mul_comm]; omega) (by rw [← hb]; simp [or_assoc])
   exact_mod_cast h
  apply Ev.succ; simp only [spec_l01Columns.l1]; refine Ev.pos (by omega) (Ev.pos (by omega) ?_); rw [rdOf_nat _ ws t hlt]; (have hwr : (x + dgt ws[t] i * 3 ^ t) ≤ 26 ∧ 0 ≤ dgt ws[t] i * 3 ^ t := by rw [Int.mul_comm]; omega); by_cases c : i < ws[t].size
  ·refine Ev.pos (by omega) (Ev.pos (by omega) (Ev.bind (pow_ev t (by omega)) ?_)); have hd : dgt ws[t] i = bt ws[t] (i : Int) - 97 := if_pos c; rw [show (bt ws[t] (i : Int) - 97) % 256 = dgt ws[t] i by rw [hd]; rw [hd] at hdr; omega]; rw [w64 (n := dgt ws[t] i * 3 ^ t) (by omega) (by omega), w64 (n := x + _) (by omega) (by omega), w64 (n := (t : Int) + 1) (by omega) (by omega)]; rw [decide_eq_true c, Bool.or_true] at hnext; exact hnext
  ·refine Ev.neg (by omega) (Ev.bind (pow_ev t (by omega)) ?_); have hd : dgt ws[t] i = 2 := if_neg c; rw [hd] at hwr hnext; rw [w64 (n := 2 * 3 ^ t) (by omega) (by omega), w64 (n := x + _) (by omega) (by omega), w64 (n := (t : Int) + 1) (by omega) (by omega)]; rw [decide_eq_false c, Bool.or_false] at hnext; exact hnext
theorem range_snoc {ws : List ByteArray} (i : Nat) : (List.range i).map (colAt ws) ++ [colAt ws i] = (List.range (i + 1)).map (colAt ws) := by
 rw [List.range_succ, List.map_append]; rfl
theorem specCols_l0 (ws : List ByteArray) (hl : ws.length ≤ 3) (hw : ∀ w ∈ ws, wordB w = true) (d : Nat) : ∀ i : Nat, i + d = longest ws → Ev (fun k => spec_l01Columns.l0 k ws ((List.range i).map (colAt ws)) (i : Int)) (colsL ws) := by
 have hlo := longest_le (N := 40) (fun w h => (wordB_get (hw w h)).1)
 induction d with
 | zero =>
  intro i hi; apply Ev.succ; simp only [spec_l01Columns.l0]; refine specCol ws hl hw _ i (by simp; omega) (by omega) (fun h => by omega) (fun _ => by rw [show i = longest ws by omega]; rfl) ws.length 0 0 false (by omega) (by omega) (by simp [colAt]) (by omega) ?_; simp [longest_any]
 | succ d ih =>
  intro i hi; apply Ev.succ; simp only [spec_l01Columns.l0]; refine specCol ws hl hw _ i (by simp; omega) (by omega) (fun h => ?_) (fun h => by omega) ws.length 0 0 false (by omega) (by omega) (by simp [colAt]) (by omega) ?_
  ·rw [range_snoc]; have := ih (i + 1) (by omega)
   exact_mod_cast this
  ·simp [longest_any]
theorem specCols_ev (ws : List ByteArray) (hl : ws.length ≤ 3) (hw : ∀ w ∈ ws, wordB w = true) : Ev (fun k => spec_l01Columns.f k ws) (colsL ws) := specCols_l0 ws hl hw (longest ws) 0 (by omega)
theorem columnOf_l0 (ds : List Int) (hl : ds.length ≤ 3) (hd : ∀ d ∈ ds, 0 ≤ d ∧ d ≤ 2) : ∀ j : Nat, j ≤ ds.length → Ev (fun k => impl_columnOf.l0 k ds (colL (ds.drop j)) ((j : Int) - 1)) (colL ds) := by
 intro j
 induction j with
 | zero =>
  intro _; apply Ev.succ; simp only [impl_columnOf.l0]; exact Ev.neg (by omega) (Ev.const (by rw [List.drop_zero]))
 | succ j ih =>
  intro hj; have h1 := colL_range (ds.drop (j + 1)) (fun d h => hd d (List.mem_of_mem_drop h)); have h2 := (pow3_le (show (ds.drop (j + 1)).length ≤ 3 by simp; omega)).2; have h3 := hd _ (List.getElem_mem (show j < ds.length by omega)); apply Ev.succ; simp only [impl_columnOf.l0]; refine Ev.pos (by omega) (Ev.pos (by omega) (Ev.pos (by omega) ?_)); rw [show (((j + 1 : Nat) : Int) - 1) = (j : Int) by omega, rd_nat _ _ (by omega), w64 (n := 3 * _) (by omega) (by omega), w64 (n := 3 * _ + _) (by omega) (by omega), w64 (n := (j : Int) - 1) (by omega) (by omega)]; have h := ih (by omega); rw [List.drop_eq_getElem_cons (show j < ds.length by omega)] at h; simp only [colL] at h; rw [Int.add_comm]; exact h
theorem columnOf_ev (ds : List Int) (hl : ds.length ≤ 3) (hd : ∀ d ∈ ds, 0 ≤ d ∧ d ≤ 2) : Ev (fun k => impl_columnOf.f k ds) (colL ds) := by
 unfold impl_columnOf.f; rw [w64 (by omega) (by omega)]; have h := columnOf_l0 ds hl hd ds.length (Nat.le_refl _); rw [List.drop_of_length_le (Nat.le_refl _)] at h; exact h
theorem implCol (ws : List ByteArray) (hl : ws.length ≤ 3) (hw : ∀ w ∈ ws, wordB w = true) (m : Int) (out : List Int) (ho : out.length ≤ 1000) (i : Nat) (hi : i ≤ 100) {r : List Int} (hm : Ev (fun k => impl_columnsOf.l1 k ws m (out ++ [colAt ws i]) ((i : Int) + 1)) r) (d : Nat) :
  ∀ t : Nat, t + d = ws.length → Ev (fun k => impl_columnsOf.l2 k ws m out (i : Int) ((ws.take t).map fun w => dgt w i) ws (ws.length : Int) (t : Int)) r := by
 induction d with
 | zero =>
  intro t ht; apply Ev.succ; simp only [impl_columnsOf.l2]; refine Ev.neg (by omega) ?_; rw [List.take_of_length_le (by omega)]; refine Ev.bind (columnOf_ev _ (by simpa using hl) (digits_ok hw i)) (Ev.pos (by omega) ?_); rw [w64 (by omega) (by omega)]; exact hm
 | succ d ih =>
  intro t ht; (have hlt : t < ws.length := by omega); have hwt := hw _ (List.getElem_mem hlt); have hdr := dgt_range hwt i; have hnext := ih (t + 1) (by omega); rw [← List.take_append_getElem hlt, List.map_append] at hnext; apply Ev.succ; simp only [impl_columnsOf.l2]; refine Ev.pos (by omega) (Ev.pos (by omega) (Ev.pos (by omega) ?_)); rw [rdOf_nat _ ws t hlt, w64 (n := (t : Int) + 1) (by omega) (by omega)]; by_cases c : i < ws[t].size
  ·refine Ev.pos (by omega) (Ev.pos (by omega) (Ev.pos (by simp; omega) ?_)); have hd : dgt ws[t] i = bt ws[t] (i : Int) - 97 := if_pos c; rw [show (bt ws[t] (i : Int) - 97) % 256 = dgt ws[t] i by rw [hd]; rw [hd] at hdr; omega]; exact hnext
  ·refine Ev.neg (by omega) (Ev.pos (by simp; omega) ?_); have hd : dgt ws[t] i = 2 := if_neg c; rw [← hd]; exact hnext
theorem implCols_l1 (ws : List ByteArray) (hl : ws.length ≤ 3) (hw : ∀ w ∈ ws, wordB w = true) (d : Nat) : ∀ i : Nat, i + d = longest ws → Ev (fun k => impl_columnsOf.l1 k ws (longest ws : Int) ((List.range i).map (colAt ws)) (i : Int)) (colsL ws) := by
 have hlo := longest_le (N := 40) (fun w h => (wordB_get (hw w h)).1)
 induction d with
 | zero =>
  intro i hi; apply Ev.succ; simp only [impl_columnsOf.l1]; refine Ev.neg (by omega) (Ev.const ?_); rw [show i = longest ws by omega]; rfl
 | succ d ih =>
  intro i hi; apply Ev.succ; simp only [impl_columnsOf.l1]; refine Ev.pos (by omega) ?_; refine implCol ws hl hw _ _ (by simp; omega) i (by omega) ?_ ws.length 0 (by omega); rw [range_snoc]; have := ih (i + 1) (by omega)
  exact_mod_cast this
theorem longest_snoc (ws : List ByteArray) (w : ByteArray) : longest (ws ++ [w]) = max (longest ws) w.size := by
 induction ws with
 | nil => simp [longest]
 | cons x ws ih => simp only [List.cons_append, longest, ih]; omega
theorem implCols_l0 (ws : List ByteArray) (hl : ws.length ≤ 3) (hw : ∀ w ∈ ws, wordB w = true) (d : Nat) : ∀ t : Nat, t + d = ws.length → Ev (fun k => impl_columnsOf.l0 k ws (longest (ws.take t) : Int) ws (ws.length : Int) (t : Int)) (colsL ws) := by
 induction d with
 | zero =>
  intro t ht; apply Ev.succ; simp only [impl_columnsOf.l0]; refine Ev.neg (by omega) ?_; rw [List.take_of_length_le (by omega)]; exact implCols_l1 ws hl hw (longest ws) 0 (by omega)
 | succ d ih =>
  intro t ht; (have hlt : t < ws.length := by omega); have hnext := ih (t + 1) (by omega); rw [← List.take_append_getElem hlt, longest_snoc] at hnext; apply Ev.succ; simp only [impl_columnsOf.l0]; refine Ev.pos (by omega) (Ev.pos (by omega) (Ev.pos (by omega) ?_)); rw [rdOf_nat _ ws t hlt, w64 (n := (t : Int) + 1) (by omega) (by omega)]; rw [show mx (longest (ws.take t) : Int) (ws[t].size : Int) = ((max (longest (ws.take t)) ws[t].size : Nat) : Int) by unfold mx; split <;> omega]; exact hnext
theorem implCols_ev (ws : List ByteArray) (hl : ws.length ≤ 3) (hw : ∀ w ∈ ws, wordB w = true) : Ev (fun k => impl_columnsOf.f k ws) (colsL ws) := implCols_l0 ws hl hw ws.length 0 (by omega)
theorem asLongs_l0 (l : List Int) (hl : l.length ≤ 1048576) (d : Nat) : ∀ i : Nat, i + d = l.length → Ev (fun k => impl_asLongs.l0 k (l.take i) l (l.length : Int) (i : Int)) l := by
 induction d with
 | zero =>
  intro i hi; apply Ev.succ; simp only [impl_asLongs.l0]; refine Ev.neg (by omega) (Ev.const ?_); rw [List.take_of_length_le (by omega)]
 | succ d ih =>
  intro i hi; apply Ev.succ; simp only [impl_asLongs.l0]; refine Ev.pos (by omega) (Ev.pos (by omega) (Ev.pos (by omega) (Ev.pos (by simp; omega) ?_))); rw [w64 (by omega) (by omega), rd_nat _ _ (by omega), List.take_append_getElem (by omega)]; exact ih (i + 1) (by omega)
theorem asLongs_ev (l : List Int) (hl : l.length ≤ 1048576) : Ev (fun k => impl_asLongs.f k l) l := asLongs_l0 l hl l.length 0 (by omega)
theorem FnExactValidWord (s : ByteArray) (h : s.size ≤ 9223372036854775807) : ∃ k, laws_FnExactValidWord.f k s = some true := by
 apply Ev.rounds; unfold laws_FnExactValidWord.f; by_cases hl : (s.size : Int) > 1048576
 ·exact Ev.pos hl (Ev.now _)
 ·refine Ev.neg hl (Ev.bind (a := wordB s) ?_ ?_)
  ·unfold spec_ValidWord.f; exact Ev.bind (word_ev s (by omega)) (Ev.now _)
  ·refine Ev.bind (Ev.const (validWord_ev s (by omega))) ?_; exact Ev.neg (by simp) (Ev.now _)
theorem columns_both (ws : List ByteArray) (hl : ws.length ≤ 1048576) (hs : ∀ w ∈ ws, w.size ≤ 1048576) : ∃ r : List Int × Int, r.1.length ≤ 40 ∧ Ev (fun k => spec_ColumnsOf.f k ws) r ∧ Ev (fun k => impl_ColumnsOf.f k ws) r := by
 have w1 := words_ev ws (by omega) (fun s h => by have := hs s h; omega); have w2 := areWords_ev ws (by omega) (fun s h => by have := hs s h; omega)
 have i1 : Ev (fun _ : Nat => spec_l00In.f (ws.length : Int) 1 3) (decide (1 ≤ ws.length ∧ ws.length ≤ 3)) := by
  refine Ev.const ?_; unfold spec_l00In.f; by_cases c : (ws.length : Int) ≥ 1
  ·rw [if_pos c]; exact congrArg some (decide_eq_decide.2 (by omega))
  ·rw [if_neg c]; exact congrArg some (decide_eq_false (by omega)).symm
 have i2 : Ev (fun _ : Nat => impl_areTapes.f (ws.length : Int)) (decide (1 ≤ ws.length ∧ ws.length ≤ 3)) := by
  refine Ev.const ?_; unfold impl_areTapes.f impl_within.f; by_cases c : (ws.length : Int) ≥ 1
  ·simp only [c, if_true, Option.bind_some]; exact congrArg some (decide_eq_decide.2 (by omega))
  ·simp only [c, if_false, Option.bind_some]; exact congrArg some (decide_eq_false (by omega)).symm
 by_cases hw : ws.all wordB = true
 ·by_cases hn : 1 ≤ ws.length ∧ ws.length ≤ 3
  ·have hall : ∀ w ∈ ws, wordB w = true := List.all_eq_true.1 hw; have h40 : longest ws ≤ 40 := longest_le (fun w h => (wordB_get (hall w h)).1); (have hcl : (colsL ws).length ≤ 40 := by simp [colsL]; exact h40); refine ⟨(colsL ws, 0), hcl, ?_, ?_⟩
   ·unfold spec_ColumnsOf.f; exact Ev.bind w1 (Ev.pos hw (Ev.bind i1 (Ev.pos (decide_eq_true hn) (Ev.bind (specCols_ev ws hn.2 hall) (Ev.now _)))))
   ·unfold impl_ColumnsOf.f; exact Ev.bind w2 (Ev.pos hw (Ev.bind i2 (Ev.pos (decide_eq_true hn) (Ev.bind (implCols_ev ws hn.2 hall) (Ev.bind (asLongs_ev _ (by omega)) (Ev.now _))))))
  ·refine ⟨([], 2), by simp, ?_, ?_⟩
   ·unfold spec_ColumnsOf.f; exact Ev.bind w1 (Ev.pos hw (Ev.bind i1 (Ev.neg (by simpa using hn) (Ev.now _))))
   ·unfold impl_ColumnsOf.f; exact Ev.bind w2 (Ev.pos hw (Ev.bind i2 (Ev.neg (by simpa using hn) (Ev.now _))))
 ·refine ⟨([], 1), by simp, ?_, ?_⟩
  ·unfold spec_ColumnsOf.f; exact Ev.bind w1 (Ev.neg hw (Ev.now _))
  ·unfold impl_ColumnsOf.f; exact Ev.bind w2 (Ev.neg hw (Ev.now _))
theorem FnExactColumnsOf (ws : List ByteArray) (hwl : ws.length ≤ 9223372036854775807) (hws : ∀ w ∈ ws, w.size ≤ 9223372036854775807) : ∃ k, laws_FnExactColumnsOf.f k ws = some true := by
 apply Ev.rounds; unfold laws_FnExactColumnsOf.f; obtain ⟨n, e1, e2, e3⟩ := szStringS_ev ws 1048576 (by omega) hwl hws; refine Ev.bind e1 ?_; by_cases hn : n < 0
 ·exact Ev.pos hn (Ev.now _)
 ·obtain ⟨g1, g2⟩ := e3 (by omega); obtain ⟨⟨r, c⟩, hr, hS, hI⟩ := columns_both ws g1 g2; simp only at hr; have eI := eqInt64S_ev r (by omega); have eT := toStringS_ev ws g1; have eH := heldInt_ev r.length 1 (by omega) (by omega); refine Ev.neg hn (Ev.bind eT (Ev.bind hS (Ev.bind eT (Ev.bind hI (Ev.bind eI (Ev.pos rfl ?_)))))); apply Ev.succ; simp only [laws_FnExactColumnsOf.j0]; refine Ev.neg (by simp) (Ev.bind eT (Ev.bind (eqStringS_ev ws (by omega)) (Ev.pos rfl (Ev.bind (markStringS_ev ws 1 (by omega) (by omega)) (Ev.neg (by show ¬ ((1 + ws.length : Nat) : Int) < 0; omega) (Ev.bind eI (Ev.pos rfl ?_))))))); apply Ev.succ; simp only [laws_FnExactColumnsOf.j1]; refine Ev.neg (by simp) (Ev.bind (markInt_ev r 1 (by omega) (by omega)) (Ev.bind eH (Ev.neg (by omega) (Ev.pos rfl (Ev.bind eT (Ev.bind hI (Ev.bind eI (Ev.pos rfl ?_)))))))); apply Ev.succ; simp only [laws_FnExactColumnsOf.j2]; exact Ev.neg (by simp) (Ev.bind eH (Ev.neg (by omega) (Ev.pos rfl (Ev.now _))))
end Go.Proofs.YtelicdmaohllgaaDoor.Pure
