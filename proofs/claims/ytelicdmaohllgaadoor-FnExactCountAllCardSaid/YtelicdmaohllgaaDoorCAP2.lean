import Derived.Test.YtelicdmaohllgaaDoorProg
import Derived.Below
import Derived.Deep.Draws
import Derived.Deep.AppendLies
import Derived.Maps.AppendAt
import Derived.OwnWalk
import Derived.Laws.BytesArg
import Derived.Laws.MakeOwn
import Derived.Laws.OwnMore
import Derived.Deep.OwnRows
import Derived.Tactics
import Derived.Lib.ConvBytes
import Derived.Laws.Slices
import Derived.WalkKit
import Derived.KernelRfl
import Derived.RowKit3
import Derived.Deep.LoopGhost
import Derived.Deep.QuietTactic
import Derived.BigQuiet
import Derived.WideLaws
import Derived.Deep.DeepCutAuto
import Derived.Deep.CutBlock
import Derived.Deep.RegionHeld3
import Derived.Laws.Rows
import Derived.Lib.AppendStr
import Derived.ArgAppend
import Derived.Laws.IdiomCopy
import Derived.OrdersHeld
import Derived.Laws.BitsLemmas
import Derived.RowKit
import Derived.Test.YtelicdmaohllgaaDoorCAP0
import Derived.Test.YtelicdmaohllgaaDoorCAP1
import Derived.Maps.OwnSet
import Derived.Maps.Ext
import Derived.Carry
import Derived.Outline
namespace Go.Proofs.YtelicdmaohllgaaDoor.X
set_option maxHeartbeats 16000000
set_option maxRecDepth 100000
open Go.RowKit Go.Proofs.YtelicdmaohllgaaDoorW.PrintWords Go.Proofs.YtelicdmaohllgaaDoorW.PrintLast Go.Proofs.YtelicdmaohllgaaDoorW.PrintMore
attribute [local go_sem] max2_int min2_int max_two min_two max_three min_three max_four min_four
set_option linter.unusedVariables false
set_option linter.unusedSimpArgs false
def errW : Option Int → Value
 | none => .nilIface
 | some c => .iface 240 (.int .i64 c)
theorem errW_none : errW none = .nilIface := rfl
theorem errW_some (c : Int) : errW (some c) = .iface 240 (.int .i64 c) := rfl
theorem info2 : (Tryd.prog.info? 2).map (fun i => (i.zero, i.size, i.bytes)) = some (some (.int .i64 0), 1, 8) := by kernel_rfl
theorem info3 : (Tryd.prog.info? 3).map (fun i => (i.zero, i.size, i.bytes)) = some (some (.int .i64 0), 1, 8) := by kernel_rfl
theorem info4 : (Tryd.prog.info? 4).map (fun i => (i.zero, i.size, i.bytes)) = some (some (.bool false), 1, 1) := by kernel_rfl
theorem info25 : (Tryd.prog.info? 25).map (fun i => (i.zero, i.size, i.bytes)) = some (some (.slice none 0 0), 1, 24) := by kernel_rfl
theorem info68 : (Tryd.prog.info? 68).map (fun i => (i.zero, i.size, i.bytes)) = some (some (.slice none 0 0), 1, 24) := by kernel_rfl
def rd_L5 (xs : List (List Int)) (i : Int) : (List Int) := xs.getD i.toNat ([] : List Int)
theorem at_L5 {w : World} {A : Option Addr} {n : Nat} {xs : List (List Int)} (h : Kd.C (Kd.slice 2 (Kd.int .i64)) w A n xs) (i : Int) (h0 : 0 ≤ i) (h1 : i < n) : ∃ ad A0 c0, A = some ad ∧ w.cell? (ad.add i.toNat) = some (.slice A0 (rd_L5 xs i).length c0) ∧ (rd_L5 xs i).length ≤ c0 ∧ (Kd.int .i64).C w A0 (rd_L5 xs i).length (rd_L5 xs i) := by
 obtain ⟨ad, c, e, _, hK, hc0⟩ := Kd.C_get h ([] : List Int) i h0 h1; have hc : ∀ j u, c[j]? = some u → w.cell? (ad.add (i.toNat * 1 + j)) = some u := hc0; obtain ⟨A0, c0, rfl, l0, g0⟩ := hK; exact ⟨ad, A0, c0, e, by have hq := hc 0 _ rfl; rwa [Nat.mul_one, Nat.add_zero] at hq, l0, g0⟩
def rd_L9 (xs : List (List Int)) (i : Int) : (List Int) := xs.getD i.toNat ([] : List Int)
theorem at_L9 {w : World} {A : Option Addr} {n : Nat} {xs : List (List Int)} (h : Kd.C (Kd.slice 3 (Kd.int .i64)) w A n xs) (i : Int) (h0 : 0 ≤ i) (h1 : i < n) : ∃ ad A0 c0, A = some ad ∧ w.cell? (ad.add i.toNat) = some (.slice A0 (rd_L9 xs i).length c0) ∧ (rd_L9 xs i).length ≤ c0 ∧ (Kd.int .i64).C w A0 (rd_L9 xs i).length (rd_L9 xs i) := by
 obtain ⟨ad, c, e, _, hK, hc0⟩ := Kd.C_get h ([] : List Int) i h0 h1; have hc : ∀ j u, c[j]? = some u → w.cell? (ad.add (i.toNat * 1 + j)) = some u := hc0; obtain ⟨A0, c0, rfl, l0, g0⟩ := hK; exact ⟨ad, A0, c0, e, by have hq := hc 0 _ rfl; rwa [Nat.mul_one, Nat.add_zero] at hq, l0, g0⟩
section
theorem am {p : Prop} (h : p) : Aside0 p := ⟨h⟩
theorem bc4 {W : World} {g T : Nat} {a b c d : Value} (h : W.heap[g]? = some (.cells #[a, b, c, d] T (0, 0))) : W.cell? ⟨g, 0, none⟩ = some a ∧ W.cell? ⟨g, 1, none⟩ = some b ∧ W.cell? ⟨g, 2, none⟩ = some c ∧ W.cell? ⟨g, 3, none⟩ = some d := ⟨(blk_cell h 0).trans rfl, (blk_cell h 1).trans rfl, (blk_cell h 2).trans rfl, (blk_cell h 3).trans rfl⟩
theorem bc8 {W : World} {g h T U : Nat} {a b c d a' b' c' d' : Value} (p : W.heap[g]? = some (.cells #[a, b, c, d] T (0, 0))) (q : W.heap[h]? = some (.cells #[a', b', c', d'] U (0, 0))) : W.cell? ⟨g, 0, none⟩ = some a ∧ W.cell? ⟨g, 1, none⟩ = some b ∧ W.cell? ⟨g, 2, none⟩ = some c ∧ W.cell? ⟨g, 3, none⟩ = some d ∧ W.cell? ⟨h, 0, none⟩ = some a' ∧ W.cell? ⟨h, 1, none⟩ = some b' ∧ W.cell? ⟨h, 2, none⟩ = some c' ∧ W.cell? ⟨h, 3, none⟩ = some d' := ⟨(blk_cell p 0).trans rfl, (blk_cell p 1).trans rfl, (blk_cell p 2).trans rfl, (blk_cell p 3).trans rfl, bc4 q⟩
theorem bf4 {W : World} {g T : Nat} {cs : Array Value} (h : W.heap[g]? = some (.cells cs T (0, 0))) : W.frozen? ⟨g, 0, none⟩ = false ∧ W.frozen? ⟨g, 1, none⟩ = false ∧ W.frozen? ⟨g, 2, none⟩ = false ∧ W.frozen? ⟨g, 3, none⟩ = false := ⟨blk_frozen h 0, blk_frozen h 1, blk_frozen h 2, blk_frozen h 3⟩
theorem bkb {w w1 w2 : World} {g : Nat} {o : Obj} (h : w.heap[g]? = some o) (hb : Below w1.heap.size w1 w2) (k : w.heap[g]? = some o → w1.heap[g]? = some o := by intro h_; (with_reducible repeat (first | refine blk_drewN ?_ _ | refine blk_drew ?_ | refine blk_alloc ?_ _)); exact h_) : w2.heap[g]? = some o := blk_below (k h) hb
theorem bkl {w w1 : World} {g : Nat} {o : Obj} (h : w.heap[g]? = some o) (k : w.heap[g]? = some o → w1.heap[g]? = some o := by intro h_; (with_reducible repeat (first | refine blk_drewN ?_ _ | refine blk_drew ?_ | refine blk_alloc ?_ _)); exact h_) : g < w1.heap.size := blk_lt (k h)
theorem tC {p q : Prop} (h : p) (k : p → q := by intro h_; repeat (first | exact h_ | (with_reducible refine Kd.C_alloc ?_ _) | (with_reducible refine Kd.C_drewN ?_ _) | (with_reducible refine Kd.C_drew ?_))) : q := k h
theorem oB {α β : Type} {x : Option α} {f : α → Option β} {b : β} (h : x.bind f = some b) : ∃ a, x = some a ∧ f a = some b := Option.bind_eq_some_iff.mp h
theorem tB {n : Nat} {W W' : World} (h : Below n W W' := by repeat (first | (with_reducible first | exact HB.out | apply below_alloc | apply pw_below_drewN | apply below_drew1 | refine below_set ?_ (Aside0.out (by assumption)) | refine below_set ?_ (IsS38.ge HI0.out)) | exact HB.out)) : Below n W W' := h
theorem tK {w W : World} {g : Nat} {row : Option Nat} (h : KeepBut w W g row := by repeat (first | (with_reducible first | exact HK.out | apply KeepBut.set_ | apply keep_drewN | apply keep_drew | apply keep_alloc) | exact HK.out)) : KeepBut w W g row := h
theorem tBk {p q : Prop} (h : p) (k : p → q := by intro h_; (with_reducible repeat (first | refine blk_drewN ?_ _ | refine blk_drew ?_ | refine blk_alloc ?_ _)); exact h_) : q := k h
theorem tR {p q : Prop} (h : p) (k : p → q := by intro h_; (with_reducible repeat (first | apply Kd.R_alloc | apply Kd.R_drewN | apply Kd.R_drew)); exact h_) : q := k h
theorem tS {p q : Prop} (h : p) (k : p → q := by intro h_; (with_reducible repeat (first | apply Kd.S_alloc | apply Kd.S_drewN | apply Kd.S_drew)); exact h_) : q := k h
theorem oA {p : Prop} {i : Decidable p} (h : decide p = true := by first | (with_reducible assumption) | assumption) : p := of_decide_eq_true h
theorem tF {p : Prop} (h : p := by first | rfl | (simp; done) | (simp [*]; done)) : p := h
theorem tE {p : Prop} (h : p := by first | rfl | (simp [errW_none, errW_some] <;> rfl) | (simp [*, errW_none, errW_some] <;> rfl)) : p := h
theorem tD {p : Prop} (h : p := by repeat (first | exact Drawn0.refl _ | apply Drawn0.step)) : p := h
theorem tY {α : Type} {y z : α} {p q : Prop} (hy : y = z) (H : p) (k : y = z → p → q := by intro hy_ H_; first | (rw [hy_]; with_reducible exact H_) | (have H2_ := (Option.bind_some _ _).symm.trans H_; rw [hy_]; with_reducible exact H2_) | (have H2_ := (Option.bind_some _ _).symm.trans H_; with_reducible exact H2_) | with_reducible exact H_ | (rw [hy_]; exact H_) | exact H_) : q := k hy H
/-- What has come up: bit i of m, of n. -/
def bl (n m : Nat) : Array Bool := ((List.range n).map fun i => m.testBit i).toArray
end
section
variable {P : Program} {md : Region.Mode} {ops : Array Oper} {Q : Exit → Act → World → Prop} {S : World → Prop} {ds : List Nat}
theorem pureA (i : Nat) (N : Option Tmp) (l' : Array Bool) {oi : Oper} {v : Value} {fuel : Nat} {l : Array Bool} {a : Act} {w : World} {a' : Act} (hi : ops[i]? = some oi) (hN : oi.dst = N) (hc : anyB md ops l l' i = true := by first | exact any_of HT_.out (by kernel_rfl) | kernel_rfl)
  (hQ : ∀ c a w, Q (.panic c) (a.put oi.dst v) w → Q (.panic c) a w := by exact fun _ _ _ h => h) (hy : Yields P ops oi v a := by refine Or.inl ⟨by rfl, ?_⟩; intro w'; go_simp; with_reducible rfl) (ha : a.put N v = a' := by simp only [Act.put, List.setIfInBounds_toArray, List.set_cons_zero, List.set_cons_succ, i64_w, i32_w]; rfl)
  (h : wpAnyLast P md ops Q S ds fuel l' a' w) : wpAnyLast P md ops Q S ds (fuel + 1) l a w := pure_ l' hi hN hc hQ hy ha h
theorem takeA3 (i : Nat) (N : Option Tmp) (l' : Array Bool) {oi : Oper} {v : Value} {fuel : Nat} {l : Array Bool} {a : Act} {w : World} {a' : Act} (hS : S w) (hi : ops[i]? = some oi) (hN : oi.dst = N) (hc : takeB md ops ds l l' i = true := by first | exact take_ofW HT_.out HW_.out (by kernel_rfl) | kernel_rfl)
  (hQ : ∀ c a w, Q (.panic c) (a.put oi.dst v) w → Q (.panic c) a w := by exact fun _ _ _ h => h) (hy : YieldsIf P ops S oi v a := by refine Or.inl ⟨by rfl, ?_⟩; rintro w' ⟨s0, s1, s2⟩; go_simp; with_reducible rfl) (ha : a.put N v = a' := by simp only [Act.put, List.setIfInBounds_toArray, List.set_cons_zero, List.set_cons_succ, i64_w, i32_w]; rfl)
  (h : wpAnyLast P md ops Q S ds fuel l' a' w) : wpAnyLast P md ops Q S ds (fuel + 1) l a w := take_ l' hi hN hc hQ hy hS ha h
theorem takeA4 (i : Nat) (N : Option Tmp) (l' : Array Bool) {oi : Oper} {v : Value} {fuel : Nat} {l : Array Bool} {a : Act} {w : World} {a' : Act} (hS : S w) (hi : ops[i]? = some oi) (hN : oi.dst = N) (hc : takeB md ops ds l l' i = true := by first | exact take_ofW HT_.out HW_.out (by kernel_rfl) | kernel_rfl)
  (hQ : ∀ c a w, Q (.panic c) (a.put oi.dst v) w → Q (.panic c) a w := by exact fun _ _ _ h => h) (hy : YieldsIf P ops S oi v a := by refine Or.inl ⟨by rfl, ?_⟩; rintro w' ⟨s0, s1, s2, s3⟩; go_simp; with_reducible rfl) (ha : a.put N v = a' := by simp only [Act.put, List.setIfInBounds_toArray, List.set_cons_zero, List.set_cons_succ, i64_w, i32_w]; rfl)
  (h : wpAnyLast P md ops Q S ds fuel l' a' w) : wpAnyLast P md ops Q S ds (fuel + 1) l a w := take_ l' hi hN hc hQ hy hS ha h
theorem takeA5 (i : Nat) (N : Option Tmp) (l' : Array Bool) {oi : Oper} {v : Value} {fuel : Nat} {l : Array Bool} {a : Act} {w : World} {a' : Act} (hS : S w) (hi : ops[i]? = some oi) (hN : oi.dst = N) (hc : takeB md ops ds l l' i = true := by first | exact take_ofW HT_.out HW_.out (by kernel_rfl) | kernel_rfl)
  (hQ : ∀ c a w, Q (.panic c) (a.put oi.dst v) w → Q (.panic c) a w := by exact fun _ _ _ h => h) (hy : YieldsIf P ops S oi v a := by refine Or.inl ⟨by rfl, ?_⟩; rintro w' ⟨s0, s1, s2, s3, s4⟩; go_simp; with_reducible rfl) (ha : a.put N v = a' := by simp only [Act.put, List.setIfInBounds_toArray, List.set_cons_zero, List.set_cons_succ, i64_w, i32_w]; rfl)
  (h : wpAnyLast P md ops Q S ds fuel l' a' w) : wpAnyLast P md ops Q S ds (fuel + 1) l a w := take_ l' hi hN hc hQ hy hS ha h
theorem takeA6 (i : Nat) (N : Option Tmp) (l' : Array Bool) {oi : Oper} {v : Value} {fuel : Nat} {l : Array Bool} {a : Act} {w : World} {a' : Act} (hS : S w) (hi : ops[i]? = some oi) (hN : oi.dst = N) (hc : takeB md ops ds l l' i = true := by first | exact take_ofW HT_.out HW_.out (by kernel_rfl) | kernel_rfl)
  (hQ : ∀ c a w, Q (.panic c) (a.put oi.dst v) w → Q (.panic c) a w := by exact fun _ _ _ h => h) (hy : YieldsIf P ops S oi v a := by refine Or.inl ⟨by rfl, ?_⟩; rintro w' ⟨s0, s1, s2, s3, s4, s5⟩; go_simp; with_reducible rfl) (ha : a.put N v = a' := by simp only [Act.put, List.setIfInBounds_toArray, List.set_cons_zero, List.set_cons_succ, i64_w, i32_w]; rfl)
  (h : wpAnyLast P md ops Q S ds fuel l' a' w) : wpAnyLast P md ops Q S ds (fuel + 1) l a w := take_ l' hi hN hc hQ hy hS ha h
theorem takeA8 (i : Nat) (N : Option Tmp) (l' : Array Bool) {oi : Oper} {v : Value} {fuel : Nat} {l : Array Bool} {a : Act} {w : World} {a' : Act} (hS : S w) (hi : ops[i]? = some oi) (hN : oi.dst = N) (hc : takeB md ops ds l l' i = true := by first | exact take_ofW HT_.out HW_.out (by kernel_rfl) | kernel_rfl)
  (hQ : ∀ c a w, Q (.panic c) (a.put oi.dst v) w → Q (.panic c) a w := by exact fun _ _ _ h => h) (hy : YieldsIf P ops S oi v a := by refine Or.inl ⟨by rfl, ?_⟩; rintro w' ⟨s0, s1, s2, s3, s4, s5, s6, s7⟩; go_simp; with_reducible rfl) (ha : a.put N v = a' := by simp only [Act.put, List.setIfInBounds_toArray, List.set_cons_zero, List.set_cons_succ, i64_w, i32_w]; rfl)
  (h : wpAnyLast P md ops Q S ds fuel l' a' w) : wpAnyLast P md ops Q S ds (fuel + 1) l a w := take_ l' hi hN hc hQ hy hS ha h
theorem oneA (i : Nat) (N : Option Tmp) (l' : Array Bool) {oi : Oper} {fuel : Nat} {l : Array Bool} {a : Act} {w : World} (hi : ops[i]? = some oi) (hN : oi.dst = N) (h : ∀ K : Act → World → Prop, Shut (∀ a' w', S w' → (S w' → wpAnyLast P md ops Q S ds fuel l' a' w') → K a' w') → if Region.wanted oi (yielded ops a.tmps) = true then Oper.wp P oi a w K Q else K (a.put N undef) w) (hc : readyB md ops l l' i = true := by kernel_rfl) (hd : i ∉ ds := by decide) :
 wpAnyLast P md ops Q S ds (fuel + 1) l a w := one_ l' hi hN hc hd h
theorem normA {fuel : Nat} {l : Array Bool} {a a' : Act} {w : World} (ha : a = a' := by show Act.put _ (some _) _ = _; simp only [Act.put, List.setIfInBounds_toArray, List.set_cons_zero, List.set_cons_succ, i64_w, i32_w]; rfl) (h : wpAnyLast P md ops Q S ds fuel l a' w) : wpAnyLast P md ops Q S ds fuel l a w := norm_ ha h
theorem normB {fuel : Nat} {l : Array Bool} {a a' : Act} {w : World} (ha : a = a' := by simp only [putAll, Act.put, List.setIfInBounds_toArray, List.set_cons_zero, List.set_cons_succ]; rfl) (h : wpAnyLast P md ops Q S ds fuel l a' w) : wpAnyLast P md ops Q S ds fuel l a w := norm_ ha h
theorem normC {fuel : Nat} {l : Array Bool} {a a' : Act} {w : World} (h : wpAnyLast P md ops Q S ds fuel l a' w) (ha : a = a' := by simp only [putAll, Act.put, List.setIfInBounds_toArray, List.set_cons_zero, List.set_cons_succ]) : wpAnyLast P md ops Q S ds fuel l a w := norm_ ha h
end
section
variable {P : Program} {ops : Array Oper} {rest : List Oper} {o : Oper} {a : Act} {w : World} {Q : Exit → Act → World → Prop}
theorem goesA {K : Act → World → Prop} {N : Option Tmp} {f : FuncId} {fn : Func} {as_ : Array Operand} {ts : Array TypeId} (hf : P.funcs[f]? = some fn) (args : Array Value) (hop : o.op = .call { callee := .value (.func f), args := as_, argTypes := ts }) (hname : (fn.name == "runtime.NumGoroutine") = false := by kernel_rfl) (hb : fn.body.isSome = true := by rfl)
  (hw : Region.wanted o (yielded ops a.tmps) = true := by rfl) (hN : o.dst = N := by rfl) (hargs : as_.map a.eval = args := by (try simp only [List.map_toArray, List.map_cons, List.map_nil]); first | done | rfl | (simp only [List.length_drop, List.length_take]; rfl))
  (h : Calls P f args w fun e w' => ∃ v, e = .returned v ∧ K (a.put N v) w') : if Region.wanted o (yielded ops a.tmps) = true then Oper.wp P o a w K Q else K (a.put N undef) w := goes_ hf hname hb args hw hN hop hargs h
theorem goesLA (N : Option Tmp) {f : FuncId} {fn : Func} {as_ : Array Operand} {ts : Array TypeId} (hf : P.funcs[f]? = some fn) (args : Array Value) (hd : o.dst = N) (hg : o.guard = none) (hop : o.op = .call { callee := .value (.func f), args := as_, argTypes := ts }) (hname : (fn.name == "runtime.NumGoroutine") = false := by kernel_rfl) (hb : fn.body.isSome = true := by rfl)
  (hargs : as_.map a.eval = args := by (try simp only [List.map_toArray, List.map_cons, List.map_nil]); first | done | rfl | (simp only [List.length_drop, List.length_take]; rfl))
  (h : Calls P f args w fun e w' => ∃ v, e = .returned v ∧ wpList P ops Q rest (a.put N v) w') : wpList P ops Q (o :: rest) a w := goesL_ N hd hg hf hname hb args hop hargs h
theorem boxA (N : Tmp) (cs : Array Value) (t : TypeId) (hd : o.dst = some N) (hg : o.guard = none)
  (hr : (execOp a.eval o).run P w = .ok (.value (.pointer (some ⟨w.heap.size, 0, none⟩))) (w.alloc (.cells cs t (0, 0))) := by first | (go_simp; done) | (go_simp; rfl))
  (h : ∀ g, g = w.heap.size → ∀ w1, w1.heap[g]? = some (.cells cs t (0, 0)) → Below w.heap.size w w1 → wpList P ops Q rest (a.put o.dst (.pointer (some ⟨g, 0, none⟩))) w1) : wpList P ops Q (o :: rest) a w := box_event hg hd hr h
theorem boxB {Kc : Act → World → Prop} (N : Tmp) (cs : Array Value) (t : TypeId) (hd : o.dst = some N) (hg : Region.wanted o (yielded ops a.tmps) = true)
  (hr : (execOp a.eval o).run P w = .ok (.value (.pointer (some ⟨w.heap.size, 0, none⟩))) (w.alloc (.cells cs t (0, 0))) := by first | (go_simp; done) | (go_simp; rfl))
  (h : ∀ g, g = w.heap.size → ∀ w1, w1.heap[g]? = some (.cells cs t (0, 0)) → Below w.heap.size w w1 → Kc (a.put o.dst (.pointer (some ⟨g, 0, none⟩))) w1) : if Region.wanted o (yielded ops a.tmps) = true then Oper.wp P o a w Kc Q else Kc (a.put o.dst undef) w := box_step hg hd hr h
end
end Go.Proofs.YtelicdmaohllgaaDoor.X
namespace Go.Proofs.YtelicdmaohllgaaDoor.X
set_option maxHeartbeats 16000000
set_option maxRecDepth 100000
open Go.RowKit Go.Proofs.YtelicdmaohllgaaDoorW.PrintWords Go.Proofs.YtelicdmaohllgaaDoorW.PrintLast Go.Proofs.YtelicdmaohllgaaDoorW.PrintMore
set_option linter.unusedVariables false
set_option linter.unusedSimpArgs false
section
variable {P : Program} {ops : Array Oper} {rest : List Oper} {o : Oper} {a : Act} {w : World} {Q : Exit → Act → World → Prop}
theorem runs_val {x : Operand} {f : FuncId} {fn : Func} {caps : Array Value} {bs : Array Operand} {ts : Array TypeId} (hf : P.funcs[f]? = some fn) (hname : (fn.name == "runtime.NumGoroutine") = false) (hb : fn.body.isSome = true) (args : Array Value)
  (hop : o.op = .call { callee := .value x, args := bs, argTypes := ts }) (hx : a.eval x = .func (.func f) #[] caps) (hargs : bs.map a.eval = args) : (execOp a.eval o).run P w = .ok (.enter f (args ++ caps)) w := by
 have he := enters_ hf hname hb (args ++ caps) w; unfold execOp; simp [hop, resolve, Deferred.ofValue, invoke, hx, hargs, he]
end
/-- A function value that answers bs F does, wherever what was there when the call began still is. -/
structure CloOK {α β : Type} (P : Program) (w : World) (f : FuncId) (caps : Array Value) (arg : α → Array Value) (F : α → Option β) (enc : β → Value) : Prop where
 fn : ∃ fn, P.funcs[f]? = some fn ∧ (fn.name == "runtime.NumGoroutine") = false ∧ fn.body.isSome = true
 run : ∀ x r W, Below w.heap.size w W → F x = some r → Calls P f (arg x ++ caps) W fun e W' => e = .returned (enc r) ∧ Below W.heap.size W W'
section
variable {H : Type} {P : Program} (w : World) {ops : Array Oper} {rest : List Oper} {o : Oper} {a : Act} {Q : Exit → Act → World → Prop}
end
theorem made_at {P : Program} {k : TypeId} {R : Value → Option (DataW Unit × List MemPlace)} (W : World) {n : Nat} (hn : W.heap.size = n) : (W.alloc (.map #[] 0)).ownsMap P k R n 0 (.map []) := hn ▸ World.ownsMap_made _ _ _ _
def retag (own : Nat → Nat) (n t : Nat) : Nat → Nat := fun k => if k < n then own k else t
theorem retag_lt {own : Nat → Nat} {n t k : Nat} (h : k < n) : retag own n t k = own k := by simp [retag, h]
theorem retag_ge {own : Nat → Nat} {n t k : Nat} (h : n ≤ k) : retag own n t k = t := by simp [retag, Nat.not_lt.2 h]
section
variable {α : Type} {d : Kd α} {e base s : Nat} {own : Nat → Nat} {W W1 : World} {v : Value} {xs : List α}
theorem R_tag (h : d.R e W base (fun k => own k = s) v xs) (t : Nat) : d.R e W base (fun k => retag own W.heap.size t k = s) v xs :=
 Kd.R_mono (Kd.R_bound h) (fun k hk => by rw [retag_lt hk.2.2.1]; exact hk.1)
theorem S_tagged (h : Kd.S d e W base (fun k => own k = s) v xs) (t : Nat) : Kd.S d e W base (fun k => retag own W.heap.size t k = s) v xs :=
 Kd.S_mono (Kd.S_bound h) (fun k hk => by rw [retag_lt hk.2.2.1]; exact hk.1)
theorem R_other (h : d.R e W base (fun k => own k = s) v xs) {row : Option Nat} {t : Nat} (hg : W.grownBy W1 row) (hr : ∀ k, row = some k → own k = t) (hst : s ≠ t) : d.R e W1 base (fun k => own k = s) v xs :=
 Kd.R_grown h hg (fun k hk he => hst (hk.symm.trans (hr k he.symm)))
theorem S_other (h : Kd.S d e W base (fun k => own k = s) v xs) {row : Option Nat} {t : Nat} (hg : W.grownBy W1 row) (hr : ∀ k, row = some k → own k = t) (hst : s ≠ t) : Kd.S d e W1 base (fun k => own k = s) v xs :=
 Kd.S_grown h hg (fun k hk he => hst (hk.symm.trans (hr k he.symm)))
theorem R_otherT (h : d.R e W base (fun k => own k = s) v xs) {row : Option Nat} {t : Nat} (hg : W.grownBy W1 row) (hr : ∀ k, row = some k → retag own W.heap.size t k = t) (hst : s ≠ t) : d.R e W1 base (fun k => retag own W.heap.size t k = s) v xs := R_other (R_tag h t) hg hr hst
theorem S_otherT (h : Kd.S d e W base (fun k => own k = s) v xs) {row : Option Nat} {t : Nat} (hg : W.grownBy W1 row) (hr : ∀ k, row = some k → retag own W.heap.size t k = t) (hst : s ≠ t) : Kd.S d e W1 base (fun k => retag own W.heap.size t k = s) v xs := S_other (S_tagged h t) hg hr hst
theorem blk_otherT {g : Nat} {o : Obj} (h : W.heap[g]? = some o ∧ own g = s) {row : Option Nat} {t : Nat} (hg : W.grownBy W1 row) (hr : ∀ k, row = some k → retag own W.heap.size t k = t) (hst : s ≠ t) : W1.heap[g]? = some o ∧ retag own W.heap.size t g = s := by
 (have e : retag own W.heap.size t g = s := by rw [retag_lt (blk_lt h.1)]; exact h.2); exact ⟨blk_grown h.1 hg (fun he => hst (e.symm.trans (hr g he.symm))), e⟩
theorem map_otherT {P : Program} {k : TypeId} {R : Value → Option (DataW Unit × List MemPlace)} {g n : Nat} {D : DataW Unit} (h : W.ownsMap P k R g n D ∧ own g = s) {row : Option Nat} {t : Nat} (hg : W.grownBy W1 row) (hr : ∀ k, row = some k → retag own W.heap.size t k = t) (hst : s ≠ t) : W1.ownsMap P k R g n D ∧ retag own W.heap.size t g = s := by
 (have e : retag own W.heap.size t g = s := by rw [retag_lt h.1.lt]; exact h.2); exact ⟨h.1.kept hg (fun he => hst (e.symm.trans (hr g he.symm))), e⟩
theorem R_rowT (h : d.R e W base (fun k => own k = s) v xs) : ∀ k, v.ownBlock = some k → retag own W.heap.size s k = s := fun k hk => (R_tag h s).1 k hk
theorem S_rowT (h : Kd.S d e W base (fun k => own k = s) v xs) : ∀ k, v.ownBlock = some k → retag own W.heap.size s k = s := fun k hk => (Kd.S_R (S_tagged h s)).1 k hk
theorem map_below {P : Program} {k : TypeId} {R : Value → Option (DataW Unit × List MemPlace)} {g n : Nat} {D : DataW Unit} (h : W.ownsMap P k R g n D) (hb : Below W.heap.size W W1) : W1.ownsMap P k R g n D := h.kept (grown_of_below hb none) (by simp)
end
/-- A literal of one element without rows. -/
theorem R_one {α : Type} {d : Kd α} {e base : Nat} (W : World) (x : α) (cs : List Value) (ok : Nat → Prop) (hx : d.M (W.alloc (.cells cs.toArray e)) base (fun _ => False) x cs) (hl : cs.length = d.sz) (hb : base ≤ W.heap.size) (hok : ok W.heap.size) :
  d.R e (W.alloc (.cells cs.toArray e)) base ok (.slice (some ⟨W.heap.size, 0, none⟩) 1 1) [x] := by
 refine ⟨fun k hk => ?_, cs, ?_, ?_⟩
 ·(have : W.heap.size = k := by simpa [Value.ownBlock] using hk); subst this; exact hok
 ·have h2 := World.ownsRow_lit (base := base) (e := e) (size := d.sz) W cs.toArray 1 hb (by simp [maxLen]) (by simpa using hl)
  simpa using h2
 ·refine ⟨by simp [hl], fun j p hj => ?_⟩; (have hj0 : j = 0 := by have := (List.getElem?_eq_some_iff.1 hj).1; simp at this; omega); subst hj0; (have hp : x = p := by simpa using hj); subst hp; rw [Nat.zero_mul, List.drop_zero, ← hl, List.take_length]; exact d.M_mono (fun k hk => hk.elim) hx
def set4 (W : World) (g : Nat) (a b c d : Value) : World := (((W.setCell ⟨g, 0, none⟩ a).setCell ⟨g, 1, none⟩ b).setCell ⟨g, 2, none⟩ c).setCell ⟨g, 3, none⟩ d
theorem set4_other {W : World} {g : Nat} {a b c d : Value} {k : Nat} (h : k ≠ g) : (set4 W g a b c d).heap[k]? = W.heap[k]? := by
 unfold set4; rw [Below.heap_setCell _ _ _ _ h, Below.heap_setCell _ _ _ _ h, Below.heap_setCell _ _ _ _ h, Below.heap_setCell _ _ _ _ h]
theorem R_set4 {α : Type} {d : Kd α} {e base : Nat} {ok : Nat → Prop} {W : World} {v : Value} {xs : List α} (h : d.R e W base ok v xs) {g t : Nat} {cs : Array Value} (hb : W.heap[g]? = some (.cells cs t (0, 0))) (ht : ∀ q, q ∈ e :: d.E → q ≠ t) (a b c u : Value) : d.R e (set4 W g a b c u) base ok v xs :=
 Kd.R_mono (Kd.R_step (Kd.R_types h hb ht) (fun k hk _ => set4_other hk.2)) (fun _ hk => hk.1)
theorem S_set4 {α : Type} {d : Kd α} {e base : Nat} {ok : Nat → Prop} {W : World} {v : Value} {xs : List α} (h : Kd.S d e W base ok v xs) {g t : Nat} {cs : Array Value} (hb : W.heap[g]? = some (.cells cs t (0, 0))) (ht : ∀ q, q ∈ e :: d.E → q ≠ t) (a b c u : Value) : Kd.S d e (set4 W g a b c u) base ok v xs :=
 Kd.S_mono (Kd.S_step (Kd.S_types h hb ht) (fun k hk _ => set4_other hk.2)) (fun _ hk => hk.1)
theorem below_set4 {w W : World} {g : Nat} (h : Below w.heap.size w W) (hg : w.heap.size ≤ g) (a b c d : Value) : Below w.heap.size w (set4 W g a b c d) := by
 unfold set4; exact (((h.setCell hg _).setCell hg _).setCell hg _).setCell hg _
def inI64 (t : Int) : Bool := decide (-9223372036854775808 ≤ t) && decide (t ≤ 9223372036854775807)
theorem inI64_wf {t : Int} (h : inI64 t = true) : (Lit.int .i64 t).wf = true := by
 simp only [inI64, Bool.and_eq_true, decide_eq_true_eq] at h; exact WalkArith.wf_i64 h
section
variable {K : Type} [DecidableEq K]
/-- One state's row: from column c on, m columns; l: the states met so far; lim: how many there may be (0: any number that fits). -/
def growRow (good : K → Bool) (next : Int → Option K) : Nat → Int → List K → List Int → Option (List K × List Int)
 | 0, _, l, row => some (l, row)
 | m + 1, c, l, row => (next c).bind fun t => if good t = true then (if t ∈ l then growRow good next m (c + 1) l (row ++ [(l.idxOf t : Int)]) else if l.length < 1900000 then growRow good next m (c + 1) (l ++ [t]) (row ++ [(l.length : Int)]) else none) else none
def growL (good : K → Bool) (acc : K → Option Bool) (next : K → Int → Option K) (W : Nat) : Nat → List K → List Bool → List (List Int) → Option (List Bool × List (List Int))
 | 0, _, _, _ => none
 | f + 1, l, bs, rs => match l[bs.length]? with
  | none => some (bs, rs)
  | some k => (growRow good (next k) W 0 l []).bind fun p => (acc k).bind fun a => growL good acc next W f p.1 (bs ++ [a]) (rs ++ [p.2])
/-- The map of the numbers, bs a datum. -/
def idsD (lit : K → Lit) (l : List K) : DataW Unit := l.zipIdx.foldl (fun D p => D.put (lit p.1) (.lit (.int .i64 (p.2 : Int)))) (.map [])
omit [DecidableEq K] in
theorem idsD_snoc (lit : K → Lit) (l : List K) (k : K) : idsD lit (l ++ [k]) = (idsD lit l).put (lit k) (.lit (.int .i64 (l.length : Int))) := by
 simp [idsD, List.zipIdx_append, List.foldl_append]
omit [DecidableEq K] in
theorem snoc_ind {P : List K → Prop} (h0 : P []) (h1 : ∀ l k, P l → P (l ++ [k])) : ∀ l, P l := by
 intro l
 suffices h : ∀ n (l : List K), l.length = n → P l from h _ l rfl
 intro n
 induction n with
 | zero =>
  intro l hl; rw [List.length_eq_zero_iff.1 hl]; exact h0
 | succ n ih =>
  intro l hl
  rcases List.eq_nil_or_concat l with rfl | ⟨L, b, rfl⟩
  ·simp at hl
  ·simp only [List.concat_eq_append] at hl ⊢
   exact h1 L b (ih L (by simpa using hl))
omit [DecidableEq K] in
theorem idsD_isMap (lit : K → Lit) : ∀ l : List K, Maps.IsMap (idsD lit l) := snoc_ind Maps.isMap_empty (fun l k h => by rw [idsD_snoc]; exact h.put _ _)
theorem idsD_has {lit : K → Lit} (hi : ∀ a b, lit a = lit b → a = b) (hk : ∀ a, WideAt.IsKeyLit (lit a)) (k : K) : ∀ l : List K, Maps.has (idsD lit l) (lit k) = decide (k ∈ l) := by
 apply snoc_ind
 ·simp [idsD, Maps.has]
 ·intro l k' ih; rw [idsD_snoc]; by_cases e : k = k'
  ·subst e; rw [Maps.has_put_same (idsD_isMap lit l) (hk k)]; simp
  ·rw [Maps.has_put_other (fun h => e (hi _ _ h)), ih]; simp [e]
theorem idsD_at {lit : K → Lit} (hi : ∀ a b, lit a = lit b → a = b) (hk : ∀ a, WideAt.IsKeyLit (lit a)) (k : K) (z : DataW Unit) : ∀ l : List K, k ∈ l → l.Nodup → (idsD lit l).atKey (lit k) z = .lit (.int .i64 (l.idxOf k : Int)) := by
 apply snoc_ind
 ·intro h; cases h
 ·intro l k' ih hm hn; rw [idsD_snoc]; have hn' := List.nodup_append.1 hn; by_cases e : k = k'
  ·subst e; rw [Maps.atKey_put_same (idsD_isMap lit l) (hk k)]; have hni : k ∉ l := fun h => hn'.2.2 k h k (by simp) rfl; simp [List.idxOf_append, hni]
  ·rw [Maps.atKey_put_other (fun h => e (hi _ _ h))]; (have hm' : k ∈ l := by simpa [e] using hm); rw [ih hm' hn'.1]; simp [List.idxOf_append, hm']
end
section
variable {K : Type} [DecidableEq K] {P : Program} (w : World) {ops : Array Oper} {rest : List Oper} {o : Oper} {a : Act} {Q : Exit → Act → World → Prop}
theorem ids_look {lit : K → Lit} (hi : ∀ a b, lit a = lit b → a = b) (hk : ∀ a, WideAt.IsKeyLit (lit a)) {t k e : TypeId} {b n : Nat} {l : List K} (hown : w.ownsMap P k (plainElem P e) b n (idsD lit l)) (KK : Maps.Keyed P k) (ht : P.underlying t = some (.map k e)) (he : P.underlying e = some (.int .i64))
  (hz : (zeroValue e).run P w = .ok (.int .i64 0) w) (hn : l.Nodup) {key : Value} {x : K} (hkey : keyOf P k key = some (lit x)) :
  (Instr.lookup t (.map (some b)) key true).run P w = .ok (.tuple #[.int .i64 (if x ∈ l then (l.idxOf x : Int) else 0), .bool (decide (x ∈ l))]) w := by
 obtain ⟨v, ps, hrun, hv⟩ := hown.look_ok KK ht hz (plainElem_int he (by decide)) hkey; rw [hrun, idsD_has hi hk]; obtain ⟨c, rfl, hc, _⟩ := plainElem_int_inv he hv; by_cases hx : x ∈ l
 ·rw [idsD_at hi hk x _ l hx hn] at hc; simp only [Prod.mk.injEq, DataW.lit.injEq, Lit.int.injEq, true_and] at hc; rw [if_pos hx, hc.1]
 ·(have h0 : Maps.has (idsD lit l) (lit x) = false := by rw [idsD_has hi hk]; simp [hx]); rw [Maps.atKey_of_not_has h0] at hc; simp only [Prod.mk.injEq, DataW.lit.injEq, Lit.int.injEq, true_and] at hc; rw [if_neg hx, hc.1]
theorem wpList_ids_look {lit : K → Lit} (hg : o.guard = none) (m x : Operand) (t : TypeId) (hop : o.op = Op.lookup t m x true) (hi : ∀ a b, lit a = lit b → a = b) (hk : ∀ a, WideAt.IsKeyLit (lit a)) {k e : TypeId} {b n : Nat} {l : List K} (KK : Maps.Keyed P k) (ht : P.underlying t = some (.map k e)) (he : P.underlying e = some (.int .i64))
  (hz : (zeroValue e).run P w = .ok (.int .i64 0) w) (hm : a.eval m = .map (some b)) (hown : w.ownsMap P k (plainElem P e) b n (idsD lit l)) (hn : l.Nodup) (key : Value) (y : K) (hx : a.eval x = key) (hkey : keyOf P k key = some (lit y)) (c : Int) (bb : Bool) (hc : (if y ∈ l then (l.idxOf y : Int) else 0) = c) (hbb : decide (y ∈ l) = bb)
  (hK : wpList P ops Q rest (a.put o.dst (.tuple #[.int .i64 c, .bool bb])) w) : wpList P ops Q (o :: rest) a w := by
 refine wpList_plain hg fun K' hK' => ?_; have hrun := ids_look w hi hk hown KK ht he hz hn hkey; rw [hc, hbb] at hrun; unfold Oper.wp; simp [execOp, hop, hm, hx, hrun, Result.andThen]; exact hK' _ _ hK
omit [DecidableEq K] in
theorem wpList_ids_put {lit : K → Lit} (hg : o.guard = none) (m x v : Operand) (t : TypeId) (hop : o.op = Op.mapUpdate t m x v) {k e : TypeId} {b n : Nat} {l : List K} (KK : Maps.Keyed P k) (ht : P.underlying t = some (.map k e)) (he : P.underlying e = some (.int .i64))
  (hm : a.eval m = .map (some b)) (hown : w.ownsMap P k (plainElem P e) b n (idsD lit l)) (hn : n < maxLen) (key : Value) (y : K) (hx : a.eval x = key) (hkey : keyOf P k key = some (lit y)) (hv : a.eval v = .int .i64 (l.length : Int)) (hl : (l.length : Int) ≤ 9223372036854775807)
  (hK : ∀ w', w'.ownsMap P k (plainElem P e) b (n + 1) (idsD lit (l ++ [y])) → w.grownBy w' (some b) → wpList P ops Q rest (a.put o.dst undef) w') : wpList P ops Q (o :: rest) a w := by
 refine wpList_plain hg fun K' hK' => ?_; obtain ⟨w', hrun, r1, r2⟩ := hown.update KK ht hn hkey (plainElem_int he (WalkArith.wf_i64 ⟨by omega, hl⟩)); rw [← idsD_snoc] at r1; unfold Oper.wp; simp [execOp, hop, hm, hx, hv, hrun, Result.andThen]; exact hK' _ _ (hK w' r1 r2)
end
/-- A part: what is said of some blocks. -/
abbrev Part := (Nat → Prop) → World → Prop
structure POk (P : Part) : Prop where
 mono : ∀ {ok ok' : Nat → Prop} {W : World}, P ok W → (∀ k, ok k → ok' k) → P ok' W
 step : ∀ {ok : Nat → Prop} {W W1 : World}, P ok W → (∀ k, ok k → k < W.heap.size → W1.heap[k]? = W.heap[k]?) → P (fun k => ok k ∧ k < W.heap.size) W1
def rowP {α : Type} (d : Kd α) (e base : Nat) (v : Value) (xs : List α) : Part := fun ok W => d.R e W base ok v xs
def rowsP {α : Type} (d : Kd α) (e base : Nat) (v : Value) (xs : List α) : Part := fun ok W => Kd.S d e W base ok v xs
def blkP (g : Nat) (o : Obj) : Part := fun ok W => W.heap[g]? = some o ∧ ok g
def mapP (P : Program) (kt : TypeId) (R : Value → Option (DataW Unit × List MemPlace)) (b n : Nat) (D : DataW Unit) : Part := fun ok W => W.ownsMap P kt R b n D ∧ ok b
theorem rowP_ok {α : Type} (d : Kd α) (e base : Nat) (v : Value) (xs : List α) : POk (rowP d e base v xs) :=
 ⟨fun h hk => Kd.R_mono h hk, fun h hm => Kd.R_step (Kd.R_mono (Kd.R_bound h) (fun k hk => ⟨hk.1, hk.2.2.1⟩)) (fun k hk hlt => hm k hk.1 hlt)⟩
theorem rowsP_ok {α : Type} (d : Kd α) (e base : Nat) (v : Value) (xs : List α) : POk (rowsP d e base v xs) :=
 ⟨fun h hk => Kd.S_mono h hk, fun h hm => Kd.S_step (Kd.S_mono (Kd.S_bound h) (fun k hk => ⟨hk.1, hk.2.2.1⟩)) (fun k hk hlt => hm k hk.1 hlt)⟩
theorem blkP_ok (g : Nat) (o : Obj) : POk (blkP g o) :=
 ⟨fun h hk => ⟨h.1, hk _ h.2⟩, fun h hm => ⟨(hm g h.2 (blk_lt h.1)).trans h.1, h.2, blk_lt h.1⟩⟩
theorem mapP_ok (P : Program) (kt : TypeId) (R : Value → Option (DataW Unit × List MemPlace)) (b n : Nat) (D : DataW Unit) : POk (mapP P kt R b n D) :=
 ⟨fun h hk => ⟨h.1, hk _ h.2⟩, fun h hm => by
  obtain ⟨hw, ho⟩ := h; have hlt := hw.lt; obtain ⟨es, clock, hb, F⟩ := hw
  exact ⟨⟨es, clock, (hm b ho hlt).trans hb, F⟩, ho, hlt⟩⟩
/-- The parts with their numbers: own tells each block's number. -/
def Sep (own : Nat → Nat) (W : World) : List (Nat × Part) → Prop
 | [] => True
 | p :: ps => (POk p.2 ∧ p.2 (fun k => own k = p.1) W) ∧ Sep own W ps
section
variable {own : Nat → Nat} {W W1 : World} {ps : List (Nat × Part)} {t u i : Nat} {P P' : Part}
theorem Sep.get (h : Sep own W ps) (hi : ps[i]? = some (t, P)) : P (fun k => own k = t) W := by
 induction ps generalizing i with
 | nil => simp at hi
 | cons p ps ih =>
  cases i with
  | zero => simp at hi; subst hi; exact h.1.2
  | succ i => exact ih h.2 (by simpa using hi)
/-- What tag t has may change; there may be new blocks, of tag t. -/
theorem Sep.change (h : Sep own W ps) (hm : ∀ k, own k ≠ t → k < W.heap.size → W1.heap[k]? = W.heap[k]?) (ht : (ps.map Prod.fst).contains t = false) : Sep (retag own W.heap.size t) W1 ps := by
 induction ps with
 | nil => trivial
 | cons p ps ih =>
  simp only [List.map_cons, List.contains_cons, Bool.or_eq_false_iff] at ht; (have hne : p.1 ≠ t := fun e => by rw [e] at ht; simp at ht); refine ⟨⟨h.1.1, h.1.1.mono (h.1.1.step h.1.2 (fun k hk hlt => hm k (by rw [hk]; exact hne) hlt)) (fun k hk => ?_)⟩, ih h.2 ht.2⟩; rw [retag_lt hk.2]; exact hk.1
theorem Sep.below (h : Sep own W ps) (hb : Below W.heap.size W W1) : Sep own W1 ps := by
 induction ps with
 | nil => trivial
 | cons p ps ih => exact ⟨⟨h.1.1, h.1.1.mono (h.1.1.step h.1.2 (fun k _ hlt => hb.block k hlt)) (fun k hk => hk.1)⟩, ih h.2⟩
theorem Sep.fresh (h : Sep own W ps) (hb : Below W.heap.size W W1) (ht : (ps.map Prod.fst).contains t = false) : Sep (retag own W.heap.size t) W1 ps :=
 h.change (fun k _ hlt => hb.block k hlt) ht
theorem Sep.snoc (h : Sep own W ps) (hok : POk P) (hP : P (fun k => own k = t) W) : Sep own W (ps ++ [(t, P)]) := by
 induction ps with
 | nil => exact ⟨⟨hok, hP⟩, trivial⟩
 | cons p ps ih => exact ⟨h.1, ih h.2⟩
/-- A new part, of new blocks. -/
theorem Sep.new (h : Sep own W ps) (hb : Below W.heap.size W W1) (hok : POk P) (hP : P (fun k => W.heap.size ≤ k) W1) (ht : (ps.map Prod.fst).contains t = false) : Sep (retag own W.heap.size t) W1 (ps ++ [(t, P)]) :=
 (h.fresh hb ht).snoc hok (hok.mono hP (fun _ hk => retag_ge hk))
theorem Sep.drop (h : Sep own W ps) (i : Nat) : Sep own W (ps.eraseIdx i) := by
 induction ps generalizing i with
 | nil => trivial
 | cons p ps ih =>
  cases i with
  | zero => exact h.2
  | succ i => exact ⟨h.1, ih h.2 i⟩
theorem Sep.rel (h : Sep own W ps) (f : Nat → Nat) (hf : ∀ p ∈ ps, f p.1 = p.1) : Sep (fun k => f (own k)) W ps := by
 induction ps with
 | nil => trivial
 | cons p ps ih =>
  refine ⟨⟨h.1.1, h.1.1.mono h.1.2 (fun k hk => ?_)⟩, ih h.2 (fun q hq => hf q (by simp [hq]))⟩; show f (own k) = p.1; rw [hk, hf p (by simp)]
/-- The numbers of blocks that are not there do not matter. -/
theorem Sep.under {own' : Nat → Nat} (h : Sep own W ps) (he : ∀ k, k < W.heap.size → own k = own' k) : Sep own' W ps := by
 induction ps with
 | nil => trivial
 | cons p ps ih => exact ⟨⟨h.1.1, h.1.1.mono (h.1.1.step h.1.2 (fun _ _ _ => rfl)) (fun k hk => by rw [← he k hk.2]; exact hk.1)⟩, ih h.2⟩
theorem contains_false {l : List Nat} {t : Nat} (h : l.contains t = false) : ∀ x ∈ l, x ≠ t := by
 intro x hx e; subst e; simp [hx] at h
/-- Part i is written (blocks of its tag alone, and new ones). -/
theorem Sep.put (h : Sep own W ps) (i : Nat) (hi : ps[i]? = some (t, P)) (hm : ∀ k, own k ≠ t → k < W.heap.size → W1.heap[k]? = W.heap[k]?) (hok : POk P') (hP : P' (fun k => retag own W.heap.size t k = t) W1) (hd : ((ps.eraseIdx i).map Prod.fst).contains t = false) :
  Sep (retag own W.heap.size t) W1 (ps.set i (t, P')) := by
 induction ps generalizing i with
 | nil => simp at hi
 | cons p ps ih =>
  cases i with
  | zero =>
   simp at hi; subst hi; exact ⟨⟨hok, hP⟩, h.2.change hm (by simpa using hd)⟩
  | succ i =>
   simp only [List.eraseIdx_cons_succ, List.map_cons, List.contains_cons, Bool.or_eq_false_iff] at hd; refine ⟨(Sep.change (ps := [p]) ⟨h.1, trivial⟩ hm (by simpa using hd.1)).1, ih h.2 i (by simpa using hi) hd.2⟩
/-- .. and takes in blocks of tag u, which is nobody's any more. -/
theorem Sep.put2 (h : Sep own W ps) (i : Nat) (hi : ps[i]? = some (t, P)) (hm : ∀ k, own k ≠ t → k < W.heap.size → W1.heap[k]? = W.heap[k]?) (hok : POk P') (hP : P' (fun k => retag own W.heap.size t k = t ∨ retag own W.heap.size t k = u) W1) (hd : ((ps.eraseIdx i).map Prod.fst).contains t = false) (hu : (ps.map Prod.fst).contains u = false) :
  Sep (fun k => if retag own W.heap.size t k = u then t else retag own W.heap.size t k) W1 (ps.set i (t, P')) := by
 have htu : t ≠ u := contains_false hu t (List.mem_map.2 ⟨(t, P), List.mem_of_getElem? hi, rfl⟩)
 induction ps generalizing i with
 | nil => simp at hi
 | cons p ps ih =>
  simp only [List.map_cons, List.contains_cons, Bool.or_eq_false_iff] at hu
  have key : ∀ (qs : List (Nat × Part)), Sep own W qs → (qs.map Prod.fst).contains t = false → (qs.map Prod.fst).contains u = false → Sep (fun k => if retag own W.heap.size t k = u then t else retag own W.heap.size t k) W1 qs := by
   intro qs hq h1 h2; refine (hq.change hm h1).rel (fun x => if x = u then t else x) (fun q hq' => ?_); rw [if_neg (contains_false h2 q.1 (List.mem_map_of_mem hq'))]
  cases i with
  | zero =>
   simp at hi; subst hi; refine ⟨⟨hok, hok.mono hP (fun k hk => ?_)⟩, key ps h.2 (by simpa using hd) hu.2⟩; show (if retag own W.heap.size t k = u then t else retag own W.heap.size t k) = t
   rcases hk with hk | hk
   ·rw [hk, if_neg htu]
   ·rw [if_pos hk]
  | succ i =>
   simp only [List.eraseIdx_cons_succ, List.map_cons, List.contains_cons, Bool.or_eq_false_iff] at hd; exact ⟨(key [p] ⟨h.1, trivial⟩ (by simpa using hd.1) (by simpa using hu.1)).1, ih h.2 i (by simpa using hi) hd.2 hu.2⟩
theorem same_grown {row : Option Nat} (hg : W.grownBy W1 row) (hr : ∀ k, row = some k → own k = t) : ∀ k, own k ≠ t → k < W.heap.size → W1.heap[k]? = W.heap[k]? :=
 fun k hk hlt => hg.block k hlt (fun e => hk (hr k e.symm))
theorem same_set {p : Addr} (hp : own p.block = t) (x : Value) : ∀ k, own k ≠ t → k < W.heap.size → (W.setCell p x).heap[k]? = W.heap[k]? :=
 fun k hk _ => Below.heap_setCell W p x k (fun e => hk (e ▸ hp))
end
section
variable {α : Type} {d : Kd α} {e base : Nat} {v : Value} {xs : List α} {W W1 : World} {own : Nat → Nat} {ps : List (Nat × Part)} {t i : Nat}
/-- A row made by a call. -/
theorem row_new (h : d.R e W1 W.heap.size (fun _ => True) v xs) (hb : base ≤ W.heap.size) : d.R e W1 base (fun k => W.heap.size ≤ k) v xs := Kd.R_lower (Kd.R_mono (Kd.R_bound h) (fun _ hk => hk.2.1)) hb
/-- An element of a row of numbers is stored. -/
theorem Sep.setInt {base : Nat} {e g n c : Nat} {xs : List Int} (h : Sep own W ps) (i : Nat) (hi : ps[i]? = some (t, rowP (Kd.int .i64) e base (.slice (some ⟨g, 0, none⟩) n c) xs)) (j x : Int) (hd : ((ps.eraseIdx i).map Prod.fst).contains t = false) :
  Sep own (W.setCell ⟨g, j.toNat, none⟩ (.int .i64 x)) (ps.set i (t, rowP (Kd.int .i64) e base (.slice (some ⟨g, 0, none⟩) n c) (xs.set j.toNat x))) := by
 have hR := h.get hi; obtain ⟨rfl, -, -⟩ := Kd.R_reads' hR; have hg : own g = t := hR.1 g rfl; obtain ⟨hR2, -⟩ := Kd.R_put hR j x
 have hR3 : (Kd.int .i64).R e (W.setCell ⟨g, j.toNat, none⟩ (.int .i64 x)) base (fun k => retag own W.heap.size t k = t) (.slice (some ⟨g, 0, none⟩) xs.length c) (xs.set j.toNat x) := by
  have h_ := R_tag (s := t) hR2 t
  rwa [show (W.setCell ⟨g, j.toNat, none⟩ (.int .i64 x)).heap.size = W.heap.size by simp] at h_
 have h2 := h.put (W1 := W.setCell ⟨g, j.toNat, none⟩ (.int .i64 x)) i hi (P' := rowP (Kd.int .i64) e base (.slice (some ⟨g, 0, none⟩) xs.length c) (xs.set j.toNat x)) (same_set (p := ⟨g, j.toNat, none⟩) hg _) (rowP_ok _ _ _ _ _) hR3 hd; exact h2.under (fun k hlt => by simp at hlt; exact retag_lt hlt)
end
theorem below_of_grown {W W1 : World} (hg : W.grownBy W1 none) : Below W.heap.size W W1 := ⟨hg.os, hg.tape, hg.output, hg.size, fun k hk => hg.block k hk (by simp)⟩
/-- A number stored in a row of numbers, and a cell read. -/
theorem Sep.int {own : Nat → Nat} {W : World} {ps : List (Nat × Part)} {t : Nat} {base e : Nat} {v : Value} {xs : List Int} (h : Sep own W ps) (i : Nat) (hi : ps[i]? = some (t, rowP (Kd.int .i64) e base v xs)) (j : Int) (h0 : 0 ≤ j) (h1 : j < (xs.length : Int)) :
  ∃ g c, v = .slice (some ⟨g, 0, none⟩) xs.length c ∧ W.cell? ⟨g, j.toNat, none⟩ = some (.int .i64 (rd xs j)) ∧ W.frozen? ⟨g, j.toNat, none⟩ = false := by
 have hR := h.get hi; obtain ⟨g, c, rfl, _⟩ := Kd.R_form hR (by omega); obtain ⟨a, b⟩ := Kd.R_cell (0 : Int) hR j h0 h1; exact ⟨g, c, rfl, a, b⟩
/-- An empty row, not nil. -/
theorem R_empty {α : Type} (d : Kd α) (e base : Nat) (W : World) (ok : Nat → Prop) (hb : base ≤ W.heap.size) (hok : ok W.heap.size) : d.R e (W.alloc (.cells #[] e)) base ok (.slice (some ⟨W.heap.size, 0, none⟩) 0 0) [] := by
 refine ⟨fun k hk => ?_, [], ?_, ?_⟩
 ·(have : W.heap.size = k := by simpa [Value.ownBlock] using hk); subst this; exact hok
 ·have h2 := World.ownsRow_lit (base := base) (e := e) (size := d.sz) W #[] 0 hb (by simp [maxLen]) (by simp)
  simpa using h2
 ·exact ⟨by simp, fun j p hj => by simp at hj⟩
/-- A row was appended to. -/
theorem Sep.appended {α : Type} {d : Kd α} {e base : Nat} {v v1 : Value} {xs xs1 : List α} {W W1 : World} {own : Nat → Nat} {ps : List (Nat × Part)} {t : Nat} (h : Sep own W ps) (i : Nat) (hi : ps[i]? = some (t, rowP d e base v xs)) (ho : d.R e W1 base (fun k => retag own W.heap.size t k = t) v1 xs1) (hg : W.grownBy W1 v.ownBlock) (hd : ((ps.eraseIdx i).map Prod.fst).contains t = false) :
  Sep (retag own W.heap.size t) W1 (ps.set i (t, rowP d e base v1 xs1)) :=
 h.put i hi (same_grown hg (fun k hk => (h.get hi).1 k hk)) (rowP_ok d e base v1 xs1) ho hd
theorem Sep.rowTag {α : Type} {d : Kd α} {e base : Nat} {v : Value} {xs : List α} {W : World} {own : Nat → Nat} {ps : List (Nat × Part)} {t : Nat} (h : Sep own W ps) (i : Nat) (hi : ps[i]? = some (t, rowP d e base v xs)) : d.R e W base (fun k => retag own W.heap.size t k = t) v xs := R_tag (s := t) (h.get hi) t
/-- A cell of a block is stored. -/
theorem Sep.setBlk {own : Nat → Nat} {W : World} {ps : List (Nat × Part)} {t g T : Nat} {cs cs' : Array Value} (h : Sep own W ps) (i : Nat) (hi : ps[i]? = some (t, blkP g (.cells cs T (0, 0)))) (j : Nat) (v : Value) (hcs : cs.setIfInBounds j v = cs') (hd : ((ps.eraseIdx i).map Prod.fst).contains t = false) :
  Sep own (W.setCell ⟨g, j, none⟩ v) (ps.set i (t, blkP g (.cells cs' T (0, 0)))) := by
 obtain ⟨hb, hg⟩ := h.get hi; have h2 := h.put (W1 := W.setCell ⟨g, j, none⟩ v) i hi (P' := blkP g (.cells cs' T (0, 0))) (same_set (p := ⟨g, j, none⟩) hg v) (blkP_ok _ _) ⟨by rw [← hcs]; exact blk_set hb j v, (retag_lt (blk_lt hb)).trans hg⟩ hd; exact h2.under (fun k hlt => by simp at hlt; exact retag_lt hlt)
/-- A row was put behind rows: its blocks (tag u) are the rows' now. -/
theorem Sep.appendedRows {α : Type} {d : Kd α} {e base : Nat} {v v1 : Value} {xs xs1 : List α} {W W1 : World} {own : Nat → Nat} {ps : List (Nat × Part)} {t u : Nat} (h : Sep own W ps) (i : Nat) (hi : ps[i]? = some (t, rowsP d e base v xs)) (ho : Kd.S d e W1 base (fun k => retag own W.heap.size t k = t ∨ retag own W.heap.size t k = u) v1 xs1) (hg : W.grownBy W1 v.ownBlock) (hd : ((ps.eraseIdx i).map Prod.fst).contains t = false) (hu : (ps.map Prod.fst).contains u = false) :
  Sep (fun k => if retag own W.heap.size t k = u then t else retag own W.heap.size t k) W1 (ps.set i (t, rowsP d e base v1 xs1)) :=
 h.put2 i hi (same_grown hg (fun k hk => (Kd.S_R (h.get hi)).1 k hk)) (rowsP_ok d e base v1 xs1) ho hd hu
theorem Sep.rowsTag {α : Type} {d : Kd α} {e base : Nat} {v : Value} {xs : List α} {W : World} {own : Nat → Nat} {ps : List (Nat × Part)} {t u : Nat} (h : Sep own W ps) (i : Nat) (hi : ps[i]? = some (t, rowsP d e base v xs)) (htu : t ≠ u) : Kd.S d e W base (fun k => (retag own W.heap.size t k = t ∨ retag own W.heap.size t k = u) ∧ ¬ retag own W.heap.size t k = u) v xs :=
 Kd.S_mono (S_tagged (s := t) (h.get hi) t) (fun k hk => ⟨Or.inl hk, by rw [hk]; exact htu⟩)
theorem Sep.rowTag2 {α : Type} {d : Kd α} {e base : Nat} {v : Value} {xs : List α} {W : World} {own : Nat → Nat} {ps : List (Nat × Part)} {t : Nat} (h : Sep own W ps) (i : Nat) (hi : ps[i]? = some (t, rowP d e base v xs)) (u : Nat) : d.R e W base (fun k => retag own W.heap.size u k = t) v xs := R_tag (s := t) (h.get hi) u
def rowAt (xs : List (List Int)) (a : Int) : List Int := xs.getD a.toNat []
theorem rows_cell {e e2 base : Nat} {W : World} {ok : Nat → Prop} {v : Value} {xs : List (List Int)} (h : Kd.S (Kd.slice e (Kd.int .i64)) e2 W base ok v xs) (a : Int) (a0 : 0 ≤ a) (a1 : a < (xs.length : Int)) :
  ∃ g c v2, v = .slice (some ⟨g, 0, none⟩) xs.length c ∧ W.cell? ⟨g, a.toNat, none⟩ = some v2 ∧ (∃ A2 c2, v2 = .slice A2 (rowAt xs a).length c2) ∧
   ∀ b : Int, 0 ≤ b → b < ((rowAt xs a).length : Int) → ∃ g2 c2, v2 = .slice (some ⟨g2, 0, none⟩) (rowAt xs a).length c2 ∧ W.cell? ⟨g2, b.toNat, none⟩ = some (.int .i64 (rd (rowAt xs a) b)) ∧ W.frozen? ⟨g2, b.toNat, none⟩ = false ∧ ok g2 ∧ base ≤ g2 ∧
    ∀ x : Int, Kd.S (Kd.slice e (Kd.int .i64)) e2 (W.setCell ⟨g2, b.toNat, none⟩ (.int .i64 x)) base ok v (xs.set a.toNat ((rowAt xs a).set b.toNat x)) := by
 obtain ⟨g, cap, hu, _⟩ := Kd.S_form h (by omega); subst hu; obtain ⟨oki, c, hcl, hM, hcc, hoki, hH⟩ := Kd.S_lend h [] a a0 a1; obtain ⟨vi, rfl, hR⟩ := hM; have hx := hcc 0 _ rfl; simp only [show (Kd.slice e (Kd.int .i64)).sz = 1 from rfl, Nat.mul_one, Nat.add_zero] at hx; obtain ⟨Ai, ci, hvi⟩ := Kd.R_slice hR; refine ⟨g, cap, vi, rfl, hx, ⟨Ai, ci, hvi⟩, fun b b0 b1 => ?_⟩; obtain ⟨g2, c2, hv2, hb2, _⟩ := Kd.R_form hR (by show 0 < (rowAt xs a).length; omega); subst hv2; obtain ⟨h1, h2⟩ := Kd.R_cell (0 : Int) hR b b0 b1; have hg2 := hR.1 g2 rfl; refine ⟨g2, c2, rfl, h1, h2, (hoki g2 hg2).1, hb2, fun x => ?_⟩; obtain ⟨hR2, -⟩ := Kd.R_put hR b x
 have hR3 : (Kd.int .i64).R e (W.setCell ⟨g2, b.toNat, none⟩ (.int .i64 x)) base oki (.slice (some ⟨g2, 0, none⟩) ((rowAt xs a).set b.toNat x).length c2) ((rowAt xs a).set b.toNat x) := by
  rw [List.length_set]; exact hR2
 refine Kd.H_back (x' := (rowAt xs a).set b.toNat x) (okp := oki) (Kd.H_step hH (fun k _ hn _ => Below.heap_setCell W _ _ k (fun e_ => hn (by rw [show k = g2 from e_]; exact hg2)))) ⟨_, ?_, hR3⟩ (fun k hk => hk); rw [List.length_set]; rfl
theorem Sep.setRows {own : Nat → Nat} {W : World} {ps : List (Nat × Part)} {t base e e2 : Nat} {v : Value} {xs xs' : List (List Int)} (h : Sep own W ps) (i : Nat) (hi : ps[i]? = some (t, rowsP (Kd.slice e (Kd.int .i64)) e2 base v xs)) {p : Addr} {u : Value} (hp : own p.block = t) (hS : Kd.S (Kd.slice e (Kd.int .i64)) e2 (W.setCell p u) base (fun k => own k = t) v xs') (hd : ((ps.eraseIdx i).map Prod.fst).contains t = false) :
  Sep own (W.setCell p u) (ps.set i (t, rowsP (Kd.slice e (Kd.int .i64)) e2 base v xs')) := by
 have h3 : Kd.S (Kd.slice e (Kd.int .i64)) e2 (W.setCell p u) base (fun k => retag own W.heap.size t k = t) v xs' := by
  have h_ := S_tagged (s := t) hS t
  rwa [show (W.setCell p u).heap.size = W.heap.size by simp] at h_
 have h2 := h.put (W1 := W.setCell p u) i hi (P' := rowsP (Kd.slice e (Kd.int .i64)) e2 base v xs') (same_set hp u) (rowsP_ok _ _ _ _ _) h3 hd; exact h2.under (fun k hlt => by simp at hlt; exact retag_lt hlt)
/-- The rows of a relation: the marks' block and the rows' blocks are apart, and lie from lo below hi. -/
def RelOwn (W : World) (base lo hi : Nat) (va vb : Value) (l2 : List Bool) (l3 : List (List Int)) : Prop :=
 ∃ Pa Pb : Nat → Prop, Kd.R Kd.bool 4 W base Pa va l2 ∧ Kd.S (Kd.slice 2 (Kd.int .i64)) 25 W base Pb vb l3 ∧ (∀ k, Pa k → ¬ Pb k) ∧ ∀ k, Pa k ∨ Pb k → lo ≤ k ∧ k < hi
theorem RelOwn.mk_ {W : World} {base B : Nat} {va vb : Value} {l2 : List Bool} {l3 : List (List Int)} (hb : base ≤ B) (hR : Kd.R Kd.bool 4 W B (fun _ => True) va l2) (hS : Kd.S (Kd.slice 2 (Kd.int .i64)) 25 W B (fun _ => True) vb l3) : RelOwn W base B W.heap.size va vb l2 l3 := by
 refine ⟨_, _, Kd.R_lower (Kd.R_bound hR) hb, Kd.S_lower (Kd.S_bound hS) hb, ?_, ?_⟩
 ·rintro k ⟨_, _, _, q, hq, c, hc⟩ ⟨_, _, _, q2, hq2, c2, hc2⟩; rw [hc] at hc2; (have hqq : q = q2 := by injection hc2 with h; injection h); subst hqq
  revert hq hq2
  simp [Kd.bool, Kd.slice, Kd.int, Kd.scalar]
  try omega
 ·rintro k (h | h)
  ·exact ⟨h.2.1, h.2.2.1⟩
  ·exact ⟨h.2.1, h.2.2.1⟩
theorem RelOwn.below {W W1 : World} {base lo hi : Nat} {va vb : Value} {l2 : List Bool} {l3 : List (List Int)} (h : RelOwn W base lo hi va vb l2 l3) (hb : Below W.heap.size W W1) : RelOwn W1 base lo hi va vb l2 l3 := by
 obtain ⟨Pa, Pb, h1, h2, h3, h4⟩ := h; exact ⟨Pa, Pb, Kd.R_below h1 hb, Kd.S_below h2 hb, h3, h4⟩
theorem RelOwn.kept {W W1 : World} {S : Nat → Prop} {base lo hi : Nat} {va vb : Value} {l2 : List Bool} {l3 : List (List Int)} (h : RelOwn W base lo hi va vb l2 l3) (hk : Kept W W1 S) (hS : ∀ k, lo ≤ k → k < hi → ¬ S k) : RelOwn W1 base lo hi va vb l2 l3 := by
 obtain ⟨Pa, Pb, h1, h2, h3, h4⟩ := h; exact ⟨Pa, Pb, Kd.R_kept h1 hk (fun k hp => hS k (h4 k (.inl hp)).1 (h4 k (.inl hp)).2), Kd.S_kept h2 hk (fun k hp => hS k (h4 k (.inr hp)).1 (h4 k (.inr hp)).2), h3, h4⟩
theorem RelOwn.reads {W : World} {base lo hi : Nat} {A2 A3 : Option Addr} {c2 c3 : Nat} {l2 : List Bool} {l3 : List (List Int)} (h : RelOwn W base lo hi (.slice A2 l2.length c2) (.slice A3 l3.length c3) l2 l3) :
  Kd.C Kd.bool W A2 l2.length l2 ∧ l2.length ≤ c2 ∧ Kd.C (Kd.slice 2 (Kd.int .i64)) W A3 l3.length l3 ∧ l3.length ≤ c3 := by
 obtain ⟨Pa, Pb, h1, h2, _, _⟩ := h; exact ⟨(Kd.R_reads' h1).2.2, (Kd.R_reads' h1).2.1, (Kd.S_reads' h2).2.2, (Kd.S_reads' h2).2.1⟩
/-- A relation that was handed back to be read: its blocks lie in a stretch of the heap. -/
def RelRd (W : World) (base lo hi : Nat) (va vb : Value) (l2 : List Bool) (l3 : List (List Int)) : Prop :=
 ∃ Pa Pb : Nat → Prop, Kd.R Kd.bool 4 W base Pa va l2 ∧ Kd.N (Kd.slice 2 (Kd.int .i64)) 25 W base Pb vb l3 ∧ ∀ k, Pa k ∨ Pb k → lo ≤ k ∧ k < hi
theorem RelRd.mk_ {W : World} {base B : Nat} {va vb : Value} {l2 : List Bool} {l3 : List (List Int)} {okA okB : Nat → Prop} (hb : base ≤ B) (hR : Kd.R Kd.bool 4 W B okA va l2) (hN : Kd.N (Kd.slice 2 (Kd.int .i64)) 25 W B okB vb l3) (hB : ∀ k, okB k → B ≤ k) : RelRd W base B W.heap.size va vb l2 l3 := by
 refine ⟨_, _, Kd.R_lower (Kd.R_bound hR) hb, Kd.N_lower (Kd.N_bound hN) hb, ?_⟩; rintro k (h | h)
 ·exact ⟨h.2.1, h.2.2.1⟩
 ·exact ⟨hB k h.1, h.2⟩
theorem RelRd.below {W W1 : World} {base lo hi : Nat} {va vb : Value} {l2 : List Bool} {l3 : List (List Int)} (h : RelRd W base lo hi va vb l2 l3) (hb : Below W.heap.size W W1) : RelRd W1 base lo hi va vb l2 l3 := by
 obtain ⟨Pa, Pb, h1, h2, h4⟩ := h; exact ⟨Pa, Pb, Kd.R_below h1 hb, Kd.N_below h2 hb, h4⟩
theorem RelRd.kept {W W1 : World} {S : Nat → Prop} {base lo hi : Nat} {va vb : Value} {l2 : List Bool} {l3 : List (List Int)} (h : RelRd W base lo hi va vb l2 l3) (hk : Kept W W1 S) (hS : ∀ k, lo ≤ k → k < hi → ¬ S k) : RelRd W1 base lo hi va vb l2 l3 := by
 obtain ⟨Pa, Pb, h1, h2, h4⟩ := h; exact ⟨Pa, Pb, Kd.R_kept h1 hk (fun k hp => hS k (h4 k (.inl hp)).1 (h4 k (.inl hp)).2), Kd.N_kept h2 hk (fun k hp => hS k (h4 k (.inr hp)).1 (h4 k (.inr hp)).2), h4⟩
theorem RelRd.reads {W : World} {base lo hi : Nat} {A2 A3 : Option Addr} {c2 c3 : Nat} {l2 : List Bool} {l3 : List (List Int)} (h : RelRd W base lo hi (.slice A2 l2.length c2) (.slice A3 l3.length c3) l2 l3) :
  Kd.C Kd.bool W A2 l2.length l2 ∧ l2.length ≤ c2 ∧ Kd.C (Kd.slice 2 (Kd.int .i64)) W A3 l3.length l3 ∧ l3.length ≤ c3 := by
 obtain ⟨Pa, Pb, h1, h2, _⟩ := h; exact ⟨(Kd.R_reads' h1).2.2, (Kd.R_reads' h1).2.1, (Kd.N_reads' h2).2.2, (Kd.N_reads' h2).2.1⟩
end Go.Proofs.YtelicdmaohllgaaDoor.X
namespace Go.Proofs.YtelicdmaohllgaaDoor.X
set_option maxHeartbeats 16000000
set_option maxRecDepth 100000
open Go.RowKit Go.Proofs.YtelicdmaohllgaaDoorW.PrintWords Go.Proofs.YtelicdmaohllgaaDoorW.PrintLast Go.Proofs.YtelicdmaohllgaaDoorW.PrintMore
attribute [local go_sem] max2_int min2_int max_two min_two max_three min_three max_four min_four
set_option linter.unusedVariables false
set_option linter.unusedSimpArgs false
def laws_szBoolS.f (l0 : List Bool) (a1 : Int) : Option (Int) := if (wrap64 (a1 - (l0.length : Int))) < 0 then (some (-1)) else (some (wrap64 (a1 - (l0.length : Int))))
theorem laws_szBoolS.calls (A0 : Option Addr) (c0 : Nat) (l0 : List Bool) (a1 : Int) (r : Int) (w : World) (hr0 : Kd.C Kd.bool w A0 l0.length l0) (hc0 : l0.length ≤ c0) (h : laws_szBoolS.f l0 a1 = some r) :
  Calls Tryd.prog 75 #[.slice A0 l0.length c0, .int .i64 a1] w fun e w' => e = .returned (.int .i64 r) ∧ Drawn0 w w' := by
 have HR0 := am hr0; have HC0 := am hc0; clear hr0 hc0; have H : (if (wrap64 (a1 - (l0.length : Int))) < 0 then (some (-1)) else (some (wrap64 (a1 - (l0.length : Int))))) = some r := h; clear h; by_cases c3 : (wrap64 (a1 - (l0.length : Int))) < 0
 ·rw [if_pos c3] at H; have c3b0 := decide_eq_true c3; clear c3; obtain rfl := Option.some.inj H; go_enter Tryd.func75, Tryd.ntmps75; go_wp2; go_ret; exact ⟨tF, tD⟩
 ·rw [if_neg c3] at H; have c3b0 := decide_eq_false c3; clear c3; obtain rfl := Option.some.inj H; go_enter Tryd.func75, Tryd.ntmps75; go_wp2; go_ret; exact ⟨tF, tD⟩
def laws_szInt64S.f (l0 : List Int) (a1 : Int) : Option (Int) := if (wrap64 (a1 - (l0.length : Int))) < 0 then (some (-1)) else (some (wrap64 (a1 - (l0.length : Int))))
theorem laws_szInt64S.calls (A0 : Option Addr) (c0 : Nat) (l0 : List Int) (a1 : Int) (r : Int) (w : World) (hr0 : Kd.C (Kd.int .i64) w A0 l0.length l0) (hc0 : l0.length ≤ c0) (h : laws_szInt64S.f l0 a1 = some r) :
  Calls Tryd.prog 124 #[.slice A0 l0.length c0, .int .i64 a1] w fun e w' => e = .returned (.int .i64 r) ∧ Drawn0 w w' := by
 have HR0 := am hr0; have HC0 := am hc0; clear hr0 hc0; have H : (if (wrap64 (a1 - (l0.length : Int))) < 0 then (some (-1)) else (some (wrap64 (a1 - (l0.length : Int))))) = some r := h; clear h; by_cases c3 : (wrap64 (a1 - (l0.length : Int))) < 0
 ·rw [if_pos c3] at H; have c3b0 := decide_eq_true c3; clear c3; obtain rfl := Option.some.inj H; go_enter Tryd.func124, Tryd.ntmps124; go_wp2; go_ret; exact ⟨tF, tD⟩
 ·rw [if_neg c3] at H; have c3b0 := decide_eq_false c3; clear c3; obtain rfl := Option.some.inj H; go_enter Tryd.func124, Tryd.ntmps124; go_wp2; go_ret; exact ⟨tF, tD⟩
def laws_szInt64SS.l0 : Nat → List (List Int) → Int → Int → Option (Int)
 | 0, _, _, _ => none
 | k + 1, x0, x1, x5 => if x5 < (x0.length : Int) then (if 0 ≤ x5 then ((laws_szInt64S.f (rd_L5 x0 x5) x1).bind fun t406 => (if t406 < 0 then (some (-1)) else (laws_szInt64SS.l0 k x0 t406 (wrap64 (x5 + 1))))) else (none)) else (some x1)
def laws_szInt64SS.f (k : Nat) (l0 : List (List Int)) (a1 : Int) : Option (Int) := if (wrap64 (a1 - (l0.length : Int))) < 0 then (some (-1)) else (laws_szInt64SS.l0 k l0 (wrap64 (a1 - (l0.length : Int))) 0)
theorem laws_szInt64SS.calls (k : Nat) (A0 : Option Addr) (c0 : Nat) (l0 : List (List Int)) (a1 : Int) (r : Int) (w : World) (hr0 : Kd.C (Kd.slice 2 (Kd.int .i64)) w A0 l0.length l0) (hc0 : l0.length ≤ c0) (h : laws_szInt64SS.f k l0 a1 = some r) :
  Calls Tryd.prog 76 #[.slice A0 l0.length c0, .int .i64 a1] w fun e w' => e = .returned (.int .i64 r) ∧ Drawn0 w w' := by
 have HR0 := am hr0; have HC0 := am hc0; clear hr0 hc0; have H : (if (wrap64 (a1 - (l0.length : Int))) < 0 then (some (-1)) else (laws_szInt64SS.l0 k l0 (wrap64 (a1 - (l0.length : Int))) 0)) = some r := h; clear h; by_cases c3 : (wrap64 (a1 - (l0.length : Int))) < 0
 ·rw [if_pos c3] at H; have c3b0 := decide_eq_true c3; clear c3; obtain rfl := Option.some.inj H; go_enter Tryd.func76, Tryd.ntmps76; go_wp2; go_ret; exact ⟨tF, tD⟩
 ·rw [if_neg c3] at H; have c3b0 := decide_eq_false c3; clear c3; have H' := am H; clear H; go_enter Tryd.func76, Tryd.ntmps76; go_wp2
  go_loopg [1, 5] k (fun kq v1 v5 w' => ∃ (x1_1 : Int) (x5_1 : Int), v1 = .int .i64 x1_1 ∧ v5 = .int .i64 x5_1 ∧ Aside0 (laws_szInt64SS.l0 kq l0 x1_1 x5_1 = some r) ∧ Aside0 (kq ≤ k) ∧ Drawn0 w w')
  case atStart => exact ⟨(wrap64 (a1 - (l0.length : Int))), (0), (tF), (tF), H', ⟨Nat.le_refl _⟩, tD⟩
  case round =>
   clear H'
   try clear p2; try clear c3; try clear c3b0
   obtain ⟨x1_1, x5_1, rfl, rfl, HA, HK1, ⟨m1, rfl⟩⟩ := hrel
   cases gk with
   | zero => exact absurd HA.out (by simp [laws_szInt64SS.l0])
   | succ k1 =>
    have H := HA.out; clear HA; simp only [laws_szInt64SS.l0] at H; by_cases c4 : x5_1 < (l0.length : Int)
    ·rw [if_pos c4] at H; have c4b0 := decide_eq_true c4; clear c4; by_cases c5 : 0 ≤ x5_1
     ·rw [if_pos c5] at H; have c5b0 := decide_eq_true c5; clear c5; obtain ⟨t406, A60, H⟩ := oB H; replace H : (if t406 < 0 then (some (-1)) else (laws_szInt64SS.l0 k1 l0 t406 (wrap64 (x5_1 + 1)))) = some r := H; have A6 := am A60; clear A60; by_cases c7 : t406 < 0
      ·rw [if_pos c7] at H; have c7b0 := decide_eq_true c7; clear c7; obtain rfl := Option.some.inj H; have p405 : 0 ≤ (x5_1 : Int) := oA; have q405 : x5_1 < (l0.length : Int) := oA; obtain ⟨ad405, A405_0, c405_0, e405, hx405_0, hl405_0, hi405_0⟩ := at_L5 HR0.out x5_1 p405 q405; cases e405; have HR405_0 := am hi405_0; have HC405_0 := am hl405_0; clear hi405_0 hl405_0; replace p405 := eq_true p405; replace q405 := eq_true q405
       go_wp2_with (first | ((with_reducible refine gate_callee (f := 124) rfl ?_); refine goesLA (some 23) Tryd.func124 #[.slice A405_0 (rd_L5 l0 x5_1).length c405_0, .int .i64 x1_1] rfl rfl rfl (h := ?_); (with_reducible refine (laws_szInt64S.calls _ _ (rd_L5 l0 x5_1) x1_1 t406 _ ?side1 ?side2 A6.out).mono ?_); (case side1 => exact tC HR405_0.out); (case side2 => exact HC405_0.out); rintro e w' ⟨rfl, ⟨nd, rfl⟩⟩; refine ⟨_, rfl, ?_⟩))
       go_ret; exact ⟨tF, tD⟩
      ·rw [if_neg c7] at H; have c7b0 := decide_eq_false c7; clear c7; have H' := am H; clear H; have p405 : 0 ≤ (x5_1 : Int) := oA; have q405 : x5_1 < (l0.length : Int) := oA; obtain ⟨ad405, A405_0, c405_0, e405, hx405_0, hl405_0, hi405_0⟩ := at_L5 HR0.out x5_1 p405 q405; cases e405; have HR405_0 := am hi405_0; have HC405_0 := am hl405_0; clear hi405_0 hl405_0; replace p405 := eq_true p405; replace q405 := eq_true q405
       go_wp2_with (first | ((with_reducible refine gate_callee (f := 124) rfl ?_); refine goesLA (some 23) Tryd.func124 #[.slice A405_0 (rd_L5 l0 x5_1).length c405_0, .int .i64 x1_1] rfl rfl rfl (h := ?_); (with_reducible refine (laws_szInt64S.calls _ _ (rd_L5 l0 x5_1) x1_1 t406 _ ?side1 ?side2 A6.out).mono ?_); (case side1 => exact tC HR405_0.out); (case side2 => exact HC405_0.out); rintro e w' ⟨rfl, ⟨nd, rfl⟩⟩; refine ⟨_, rfl, ?_⟩))
       go_roundg k1
       case measure => have := HK1.out; omega
       case rel => exact ⟨(t406), (wrap64 (x5_1 + 1)), (tF), (tF), H', ⟨by have := HK1.out; omega⟩, tD⟩
     ·rw [if_neg c5] at H; exact absurd H (by simp)
    ·rw [if_neg c4] at H; have c4b0 := decide_eq_false c4; clear c4; obtain rfl := Option.some.inj H; go_wp2; go_ret; exact ⟨tF, tD⟩
def laws_szRelation.f (k : Nat) (a0_0 : Int) (a0_1 : Int) (l0_2 : List Bool) (l0_3 : List (List Int)) (a1 : Int) : Option (Int) := (laws_szBoolS.f l0_2 a1).bind fun t408 => (if t408 < 0 then (some (-1)) else ((laws_szInt64SS.f k l0_3 t408).bind fun t409 => (if t409 < 0 then (some (-1)) else (some t409))))
theorem laws_szRelation.calls (k : Nat) (a0_0 : Int) (a0_1 : Int) (A0_2 : Option Addr) (c0_2 : Nat) (l0_2 : List Bool) (A0_3 : Option Addr) (c0_3 : Nat) (l0_3 : List (List Int)) (a1 : Int) (r : Int) (w : World) (hr0_2 : Kd.C Kd.bool w A0_2 l0_2.length l0_2) (hc0_2 : l0_2.length ≤ c0_2) (hr0_3 : Kd.C (Kd.slice 2 (Kd.int .i64)) w A0_3 l0_3.length l0_3) (hc0_3 : l0_3.length ≤ c0_3) (h : laws_szRelation.f k a0_0 a0_1 l0_2 l0_3 a1 = some r) :
  Calls Tryd.prog 34 #[.agg #[.int .i64 a0_0, .int .i64 a0_1, .slice A0_2 l0_2.length c0_2, .slice A0_3 l0_3.length c0_3], .int .i64 a1] w fun e w' => e = .returned (.int .i64 r) ∧ Below w.heap.size w w' := by
 have hu46 := Tryd.underlying46; have HR0_2 := am hr0_2; have HC0_2 := am hc0_2; clear hr0_2 hc0_2; have HR0_3 := am hr0_3; have HC0_3 := am hc0_3; clear hr0_3 hc0_3; have HB := am (Below.refl w.heap.size w); have H : ((laws_szBoolS.f l0_2 a1).bind fun t408 => (if t408 < 0 then (some (-1)) else ((laws_szInt64SS.f k l0_3 t408).bind fun t409 => (if t409 < 0 then (some (-1)) else (some t409))))) = some r := h; clear h; obtain ⟨t408, A30, H⟩ := oB H; replace H : (if t408 < 0 then (some (-1)) else ((laws_szInt64SS.f k l0_3 t408).bind fun t409 => (if t409 < 0 then (some (-1)) else (some t409)))) = some r := H; have A3 := am A30; clear A30; by_cases c4 : t408 < 0
 ·rw [if_pos c4] at H; have c4b0 := decide_eq_true c4; clear c4; obtain rfl := Option.some.inj H; go_enter Tryd.func34, Tryd.ntmps34
  go_wp2_with (first | ((with_reducible refine gate_dst (N := 2) rfl ?_); refine boxA 2 #[.int .i64 a0_0, .int .i64 a0_1, .slice A0_2 l0_2.length c0_2, .slice A0_3 l0_3.length c0_3] 46 rfl rfl (h := ?_); intro gb407 hg w5 hbox hb; have BK407 := am (hbox); have GW407 := am ((by rw [hg]; exact (below_size (tB)) : w.heap.size ≤ gb407)); have GE407 := am ((by rw [hg]; exact (below_size (tB)) : w.heap.size ≤ gb407)); replace HB := am (below_step (tB) hb); clear hb hbox hg; obtain ⟨hcz6_0, hcz6_1, hcz6_2, hcz6_3⟩ := bc4 BK407.out; have hfz6_0 := blk_frozen BK407.out 0; have hfz6_1 := blk_frozen BK407.out 1; have hfz6_2 := blk_frozen BK407.out 2; have hfz6_3 := blk_frozen BK407.out 3) | ((with_reducible refine gate_callee (f := 75) rfl ?_); refine goesLA (some 8) Tryd.func75 #[.slice A0_2 l0_2.length c0_2, .int .i64 a1] rfl rfl rfl (h := ?_); (with_reducible refine (laws_szBoolS.calls _ _ l0_2 a1 t408 _ ?side1 ?side2 A3.out).mono ?_); (case side1 => exact tC (Kd.C_below HR0_2.out HB.out)); (case side2 => exact HC0_2.out); rintro e w' ⟨rfl, ⟨nd, rfl⟩⟩; refine ⟨_, rfl, ?_⟩))
  go_ret; exact ⟨tE, tB⟩
 ·rw [if_neg c4] at H; have c4b0 := decide_eq_false c4; clear c4; obtain ⟨t409, A70, H⟩ := oB H; replace H : (if t409 < 0 then (some (-1)) else (some t409)) = some r := H; have A7 := am A70; clear A70; by_cases c8 : t409 < 0
  ·rw [if_pos c8] at H; have c8b0 := decide_eq_true c8; clear c8; obtain rfl := Option.some.inj H; go_enter Tryd.func34, Tryd.ntmps34
   go_wp2_with (first | ((with_reducible refine gate_dst (N := 2) rfl ?_); refine boxA 2 #[.int .i64 a0_0, .int .i64 a0_1, .slice A0_2 l0_2.length c0_2, .slice A0_3 l0_3.length c0_3] 46 rfl rfl (h := ?_); intro gb407 hg w9 hbox hb; have BK407 := am (hbox); have GW407 := am ((by rw [hg]; exact (below_size (tB)) : w.heap.size ≤ gb407)); have GE407 := am ((by rw [hg]; exact (below_size (tB)) : w.heap.size ≤ gb407)); replace HB := am (below_step (tB) hb); clear hb hbox hg; obtain ⟨hcz10_0, hcz10_1, hcz10_2, hcz10_3⟩ := bc4 BK407.out; have hfz10_0 := blk_frozen BK407.out 0; have hfz10_1 := blk_frozen BK407.out 1; have hfz10_2 := blk_frozen BK407.out 2; have hfz10_3 := blk_frozen BK407.out 3) | ((with_reducible refine gate_callee (f := 75) rfl ?_); refine goesLA (some 8) Tryd.func75 #[.slice A0_2 l0_2.length c0_2, .int .i64 a1] rfl rfl rfl (h := ?_); (with_reducible refine (laws_szBoolS.calls _ _ l0_2 a1 t408 _ ?side1 ?side2 A3.out).mono ?_); (case side1 => exact tC (Kd.C_below HR0_2.out HB.out)); (case side2 => exact HC0_2.out); rintro e w' ⟨rfl, ⟨nd, rfl⟩⟩; refine ⟨_, rfl, ?_⟩) | ((with_reducible refine gate_callee (f := 76) rfl ?_); refine goesLA (some 14) Tryd.func76 #[.slice A0_3 l0_3.length c0_3, .int .i64 t408] rfl rfl rfl (h := ?_); (with_reducible refine (laws_szInt64SS.calls k _ _ l0_3 t408 t409 _ ?side1 ?side2 A7.out).mono ?_); (case side1 => exact tC (Kd.C_below HR0_3.out (tB))); (case side2 => exact HC0_3.out); rintro e w' ⟨rfl, ⟨nd, rfl⟩⟩; refine ⟨_, rfl, ?_⟩))
   go_ret; exact ⟨tE, tB⟩
  ·rw [if_neg c8] at H; have c8b0 := decide_eq_false c8; clear c8; obtain rfl := Option.some.inj H; go_enter Tryd.func34, Tryd.ntmps34
   go_wp2_with (first | ((with_reducible refine gate_dst (N := 2) rfl ?_); refine boxA 2 #[.int .i64 a0_0, .int .i64 a0_1, .slice A0_2 l0_2.length c0_2, .slice A0_3 l0_3.length c0_3] 46 rfl rfl (h := ?_); intro gb407 hg w11 hbox hb; have BK407 := am (hbox); have GW407 := am ((by rw [hg]; exact (below_size (tB)) : w.heap.size ≤ gb407)); have GE407 := am ((by rw [hg]; exact (below_size (tB)) : w.heap.size ≤ gb407)); replace HB := am (below_step (tB) hb); clear hb hbox hg; obtain ⟨hcz12_0, hcz12_1, hcz12_2, hcz12_3⟩ := bc4 BK407.out; have hfz12_0 := blk_frozen BK407.out 0; have hfz12_1 := blk_frozen BK407.out 1; have hfz12_2 := blk_frozen BK407.out 2; have hfz12_3 := blk_frozen BK407.out 3) | ((with_reducible refine gate_callee (f := 75) rfl ?_); refine goesLA (some 8) Tryd.func75 #[.slice A0_2 l0_2.length c0_2, .int .i64 a1] rfl rfl rfl (h := ?_); (with_reducible refine (laws_szBoolS.calls _ _ l0_2 a1 t408 _ ?side1 ?side2 A3.out).mono ?_); (case side1 => exact tC (Kd.C_below HR0_2.out HB.out)); (case side2 => exact HC0_2.out); rintro e w' ⟨rfl, ⟨nd, rfl⟩⟩; refine ⟨_, rfl, ?_⟩) | ((with_reducible refine gate_callee (f := 76) rfl ?_); refine goesLA (some 14) Tryd.func76 #[.slice A0_3 l0_3.length c0_3, .int .i64 t408] rfl rfl rfl (h := ?_); (with_reducible refine (laws_szInt64SS.calls k _ _ l0_3 t408 t409 _ ?side1 ?side2 A7.out).mono ?_); (case side1 => exact tC (Kd.C_below HR0_3.out (tB))); (case side2 => exact HC0_3.out); rintro e w' ⟨rfl, ⟨nd, rfl⟩⟩; refine ⟨_, rfl, ?_⟩))
   go_ret; exact ⟨tE, tB⟩
def laws_toBoolS.l0 : Nat → List Bool → List Bool → Int → Option (List Bool)
 | 0, _, _, _ => none
 | k + 1, x0, x3, x4 => if x4 < (x0.length : Int) then (if 0 ≤ x4 then (if x4 < (x3.length : Int) then (laws_toBoolS.l0 k x0 (x3.set (x4 : Int).toNat (rdOf false x0 x4)) (wrap64 (x4 + 1))) else (none)) else (none)) else (some x3)
def laws_toBoolS.f (k : Nat) (l0 : List Bool) : Option (List Bool) := if 0 ≤ (l0.length : Int) then (if ((l0.length : Int) : Int).toNat ≤ 281474976710656 then (laws_toBoolS.l0 k l0 (List.replicate ((l0.length : Int) : Int).toNat false) 0) else (none)) else (none)
theorem laws_toBoolS.calls (k : Nat) (A0 : Option Addr) (c0 : Nat) (l0 : List Bool) (r : List Bool) (w : World) (hr0 : Kd.C Kd.bool w A0 l0.length l0) (hc0 : l0.length ≤ c0) (h : laws_toBoolS.f k l0 = some r) :
  Calls Tryd.prog 79 #[.slice A0 l0.length c0] w fun e w' => ∃ v0_ : Value, e = .returned (v0_) ∧ Kd.R Kd.bool 4 w' w.heap.size (fun _ => True) v0_ r ∧ Below w.heap.size w w' := by
 have HR0 := am hr0; have HC0 := am hc0; clear hr0 hc0; have HB := am (Below.refl w.heap.size w); have H : (if 0 ≤ (l0.length : Int) then (if ((l0.length : Int) : Int).toNat ≤ 281474976710656 then (laws_toBoolS.l0 k l0 (List.replicate ((l0.length : Int) : Int).toNat false) 0) else (none)) else (none)) = some r := h; clear h; by_cases c2 : 0 ≤ (l0.length : Int)
 ·rw [if_pos c2] at H; have c2b0 := eq_true c2; have c2b1 := decide_eq_true c2; clear c2; by_cases c3 : ((l0.length : Int) : Int).toNat ≤ 281474976710656
  ·rw [if_pos c3] at H; have c3b0 := eq_true c3; have c3b1 := decide_eq_true c3; clear c3; obtain ⟨y441, hy441⟩ : ∃ y_ : List Bool, y_ = (List.replicate ((l0.length : Int) : Int).toNat false) := ⟨_, rfl⟩; replace H : (laws_toBoolS.l0 k l0 y441 0) = some r := tY hy441 H; have Ny441 := am hy441; clear hy441; have H' := am H; clear H; go_enter Tryd.func79, Tryd.ntmps79
   go_wp2_with (first | ((with_reducible refine gate_dst (N := 7) rfl ?_); refine Kd.R_make Kd.bool _ 4 rfl (N := 7) rfl 35 _ _ rfl (l0.length : Int) rfl rfl Tryd.underlying35 (.bool false) 1 info4 rfl (by decide) (by omega) false (ok := fun _ => True) (okp := fun _ => True) rfl (fun _ hk => hk) trivial (oA) (Nat.le_trans (Nat.mul_le_mul_right _ (oA : (l0.length : Int).toNat ≤ 281474976710656)) (by omega)) (Below.refl _ _) (Nat.le_refl _) ?_; intro v442 w4 ho5 hb hg_ hnew_; clear hg_ hnew_; (first | rw [← Ny441.out] at ho5 | (simp only [Int.reduceToNat] at ho5; rw [← Ny441.out] at ho5)); have HO443 := am (Kd.R_lower ho5 (below_size (tB))); replace HB := am (below_step (tB) hb); clear hb ho5))
   go_loopg [4] k (fun kq v4 w' => ∃ (x3_1 : List Bool) (x4_1 : Int), v4 = .int .i64 x4_1 ∧ Aside0 (laws_toBoolS.l0 kq l0 x3_1 x4_1 = some r) ∧ Aside0 (kq ≤ k) ∧ Aside0 (Kd.R Kd.bool 4 w' w.heap.size (fun _ => True) v442 x3_1) ∧ Aside0 (Below w.heap.size w w'))
   case atStart => exact ⟨(y441), (0), (tF), H', ⟨Nat.le_refl _⟩, ⟨by refine tR ?_; exact HO443.out⟩, ⟨tB⟩⟩
   case round =>
    clear H'
    try clear c2; try clear c2b0; try clear c2b1; try clear p2; try clear c3; try clear c3b0; try clear c3b1
    obtain ⟨x3_1, x4_1, rfl, HA, HK1, HO_3, HB⟩ := hrel
    cases gk with
    | zero => exact absurd HA.out (by simp [laws_toBoolS.l0])
    | succ k1 =>
     have H := HA.out; clear HA; simp only [laws_toBoolS.l0] at H; by_cases c6 : x4_1 < (l0.length : Int)
     ·rw [if_pos c6] at H; have c6b0 := decide_eq_true c6; clear c6; by_cases c7 : 0 ≤ x4_1
      ·rw [if_pos c7] at H; have c7b0 := decide_eq_true c7; clear c7; by_cases c8 : x4_1 < (x3_1.length : Int)
       ·rw [if_pos c8] at H; have c8b0 := decide_eq_true c8; clear c8; obtain ⟨y445, hy445⟩ : ∃ y_ : List Bool, y_ = (x3_1.set (x4_1 : Int).toNat (rdOf false l0 x4_1)) := ⟨_, rfl⟩; replace H : (laws_toBoolS.l0 k1 l0 y445 (wrap64 (x4_1 + 1))) = some r := tY hy445 H; have Ny445 := am hy445; clear hy445; have H' := am H; clear H; have p444 : 0 ≤ (x4_1 : Int) := oA; have q444 : x4_1 < (l0.length : Int) := oA; obtain ⟨ad444, e444, hx444_0⟩ := Kd.at_bool HR0.out x4_1 p444 q444; cases e444; replace hx444_0 := (HB.out.cell (World.block_lt_of_cell? w _ hx444_0)).trans hx444_0; replace p444 := eq_true p444; replace q444 := eq_true q444; have p9 : 0 ≤ (x4_1 : Int) := oA; have q9 : (x4_1 : Int) < ((x3_1.length : Int) : Int) := oA; obtain ⟨go9, co9, eo9, gb9, gl9, cl9, HG9⟩ := Kd.R_form HO_3.out (by omega)
        (first | cases eo9 | (injection eo9 with ea_ en_ ec_; (first | subst ea_ | (injection ea_ with ea_; subst ea_)); subst ec_; clear en_))
        have GB9 := am gb9; have GG9 := am HG9; clear gb9 gl9 HG9; obtain ⟨hx9_0, hf9_0⟩ := Kd.R_celln false HO_3.out (x4_1 : Int) p9 q9; replace p9 := eq_true p9; replace q9 := eq_true q9; have HP10 := Kd.R_putg HO_3.out (x4_1 : Int) (rdOf false l0 x4_1)
        go_wp2_with (first | ((with_reducible refine gate_store (t := 4) (p := 20) rfl ?_); refine store_event (t := 4) (p := 20) (v := ?vo_w11) (w1 := (wr.setCell ⟨go9, (x4_1 : Int).toNat, none⟩ (.bool (rdOf false l0 x4_1)))) ?hg ?ho ?hn ?hr ?_; (case ho => rfl); (case hg => rfl); (case hn => rfl); (case hr => first | (go_simp; done) | (go_simp; rfl)); intro w11 hw; have hg : wr.grownBy w11 (some go9) := (by rw [hw]; exact HP10.2); have hp_ : Kd.R Kd.bool 4 w11 w.heap.size (fun _ => True) (.slice (some ⟨go9, 0, none⟩) x3_1.length co9) y445 := (by rw [hw, Ny445.out]; exact HP10.1); clear HP10; replace HO_3 := am (hp_); replace HB := am ((by rw [hw]; exact below_set (HB.out) GB9.out : Below w.heap.size w w11)); clear hg hw hp_))
        go_roundg k1
        case measure => have := HK1.out; omega
        case rel => exact ⟨(y445), (wrap64 (x4_1 + 1)), (tF), H', ⟨by have := HK1.out; omega⟩, ⟨by refine tR ?_; exact HO_3.out⟩, ⟨tB⟩⟩
       ·rw [if_neg c8] at H; exact absurd H (by simp)
      ·rw [if_neg c7] at H; exact absurd H (by simp)
     ·rw [if_neg c6] at H; have c6b0 := decide_eq_false c6; clear c6; obtain rfl := Option.some.inj H; go_wp2; go_ret; exact ⟨_, tE, by refine tR ?_; exact HO_3.out, tB⟩
  ·rw [if_neg c3] at H; exact absurd H (by simp)
 ·rw [if_neg c2] at H; exact absurd H (by simp)
def laws_toInt64S.l0 : Nat → List Int → List Int → Int → Option (List Int)
 | 0, _, _, _ => none
 | k + 1, x0, x3, x4 => if x4 < (x0.length : Int) then (if 0 ≤ x4 then (if x4 < (x3.length : Int) then (laws_toInt64S.l0 k x0 (x3.set (x4 : Int).toNat (rd x0 x4)) (wrap64 (x4 + 1))) else (none)) else (none)) else (some x3)
def laws_toInt64S.f (k : Nat) (l0 : List Int) : Option (List Int) := if 0 ≤ (l0.length : Int) then (if ((l0.length : Int) : Int).toNat ≤ 35184372088832 then (laws_toInt64S.l0 k l0 (List.replicate ((l0.length : Int) : Int).toNat 0) 0) else (none)) else (none)
theorem laws_toInt64S.calls (k : Nat) (A0 : Option Addr) (c0 : Nat) (l0 : List Int) (r : List Int) (w : World) (hr0 : Kd.C (Kd.int .i64) w A0 l0.length l0) (hc0 : l0.length ≤ c0) (h : laws_toInt64S.f k l0 = some r) :
  Calls Tryd.prog 127 #[.slice A0 l0.length c0] w fun e w' => ∃ v0_ : Value, e = .returned (v0_) ∧ Kd.R (Kd.int .i64) 2 w' w.heap.size (fun _ => True) v0_ r ∧ Below w.heap.size w w' := by
 have HR0 := am hr0; have HC0 := am hc0; clear hr0 hc0; have HB := am (Below.refl w.heap.size w); have H : (if 0 ≤ (l0.length : Int) then (if ((l0.length : Int) : Int).toNat ≤ 35184372088832 then (laws_toInt64S.l0 k l0 (List.replicate ((l0.length : Int) : Int).toNat 0) 0) else (none)) else (none)) = some r := h; clear h; by_cases c2 : 0 ≤ (l0.length : Int)
 ·rw [if_pos c2] at H; have c2b0 := eq_true c2; have c2b1 := decide_eq_true c2; clear c2; by_cases c3 : ((l0.length : Int) : Int).toNat ≤ 35184372088832
  ·rw [if_pos c3] at H; have c3b0 := eq_true c3; have c3b1 := decide_eq_true c3; clear c3; obtain ⟨y446, hy446⟩ : ∃ y_ : List Int, y_ = (List.replicate ((l0.length : Int) : Int).toNat 0) := ⟨_, rfl⟩; replace H : (laws_toInt64S.l0 k l0 y446 0) = some r := tY hy446 H; have Ny446 := am hy446; clear hy446; have H' := am H; clear H; go_enter Tryd.func127, Tryd.ntmps127
   go_wp2_with (first | ((with_reducible refine gate_dst (N := 7) rfl ?_); refine Kd.R_make (Kd.int .i64) _ 2 rfl (N := 7) rfl 25 _ _ rfl (l0.length : Int) rfl rfl Tryd.underlying25 (.int .i64 0) 8 info2 rfl (by decide) (by omega) 0 (ok := fun _ => True) (okp := fun _ => True) rfl (fun _ hk => hk) trivial (oA) (Nat.le_trans (Nat.mul_le_mul_right _ (oA : (l0.length : Int).toNat ≤ 35184372088832)) (by omega)) (Below.refl _ _) (Nat.le_refl _) ?_; intro v447 w4 ho5 hb hg_ hnew_; clear hg_ hnew_; (first | rw [← Ny446.out] at ho5 | (simp only [Int.reduceToNat] at ho5; rw [← Ny446.out] at ho5)); have HO448 := am (Kd.R_lower ho5 (below_size (tB))); replace HB := am (below_step (tB) hb); clear hb ho5))
   go_loopg [4] k (fun kq v4 w' => ∃ (x3_1 : List Int) (x4_1 : Int), v4 = .int .i64 x4_1 ∧ Aside0 (laws_toInt64S.l0 kq l0 x3_1 x4_1 = some r) ∧ Aside0 (kq ≤ k) ∧ Aside0 (Kd.R (Kd.int .i64) 2 w' w.heap.size (fun _ => True) v447 x3_1) ∧ Aside0 (Below w.heap.size w w'))
   case atStart => exact ⟨(y446), (0), (tF), H', ⟨Nat.le_refl _⟩, ⟨by refine tR ?_; exact HO448.out⟩, ⟨tB⟩⟩
   case round =>
    clear H'
    try clear c1; try clear c2; try clear c2b0; try clear c2b1; try clear p2; try clear c3; try clear c3b0; try clear c3b1
    obtain ⟨x3_1, x4_1, rfl, HA, HK1, HO_3, HB⟩ := hrel
    cases gk with
    | zero => exact absurd HA.out (by simp [laws_toInt64S.l0])
    | succ k1 =>
     have H := HA.out; clear HA; simp only [laws_toInt64S.l0] at H; by_cases c6 : x4_1 < (l0.length : Int)
     ·rw [if_pos c6] at H; have c6b0 := decide_eq_true c6; clear c6; by_cases c7 : 0 ≤ x4_1
      ·rw [if_pos c7] at H; have c7b0 := decide_eq_true c7; clear c7; by_cases c8 : x4_1 < (x3_1.length : Int)
       ·rw [if_pos c8] at H; have c8b0 := decide_eq_true c8; clear c8; obtain ⟨y450, hy450⟩ : ∃ y_ : List Int, y_ = (x3_1.set (x4_1 : Int).toNat (rd l0 x4_1)) := ⟨_, rfl⟩; replace H : (laws_toInt64S.l0 k1 l0 y450 (wrap64 (x4_1 + 1))) = some r := tY hy450 H; have Ny450 := am hy450; clear hy450; have H' := am H; clear H; have p449 : 0 ≤ (x4_1 : Int) := oA; have q449 : x4_1 < (l0.length : Int) := oA; obtain ⟨ad449, e449, hx449_0⟩ := Kd.at_int HR0.out x4_1 p449 q449; cases e449; replace hx449_0 := (HB.out.cell (World.block_lt_of_cell? w _ hx449_0)).trans hx449_0; replace p449 := eq_true p449; replace q449 := eq_true q449; have p9 : 0 ≤ (x4_1 : Int) := oA; have q9 : (x4_1 : Int) < ((x3_1.length : Int) : Int) := oA; obtain ⟨go9, co9, eo9, gb9, gl9, cl9, HG9⟩ := Kd.R_form HO_3.out (by omega)
        (first | cases eo9 | (injection eo9 with ea_ en_ ec_; (first | subst ea_ | (injection ea_ with ea_; subst ea_)); subst ec_; clear en_))
        have GB9 := am gb9; have GG9 := am HG9; clear gb9 gl9 HG9; obtain ⟨hx9_0, hf9_0⟩ := Kd.R_celln 0 HO_3.out (x4_1 : Int) p9 q9; replace p9 := eq_true p9; replace q9 := eq_true q9; have HP10 := Kd.R_putg HO_3.out (x4_1 : Int) (rd l0 x4_1)
        go_wp2_with (first | ((with_reducible refine gate_store (t := 2) (p := 20) rfl ?_); refine store_event (t := 2) (p := 20) (v := ?vo_w11) (w1 := (wr.setCell ⟨go9, (x4_1 : Int).toNat, none⟩ (.int .i64 (rd l0 x4_1)))) ?hg ?ho ?hn ?hr ?_; (case ho => rfl); (case hg => rfl); (case hn => rfl); (case hr => first | (go_simp; done) | (go_simp; rfl)); intro w11 hw; have hg : wr.grownBy w11 (some go9) := (by rw [hw]; exact HP10.2); have hp_ : Kd.R (Kd.int .i64) 2 w11 w.heap.size (fun _ => True) (.slice (some ⟨go9, 0, none⟩) x3_1.length co9) y450 := (by rw [hw, Ny450.out]; exact HP10.1); clear HP10; replace HO_3 := am (hp_); replace HB := am ((by rw [hw]; exact below_set (HB.out) GB9.out : Below w.heap.size w w11)); clear hg hw hp_))
        go_roundg k1
        case measure => have := HK1.out; omega
        case rel => exact ⟨(y450), (wrap64 (x4_1 + 1)), (tF), H', ⟨by have := HK1.out; omega⟩, ⟨by refine tR ?_; exact HO_3.out⟩, ⟨tB⟩⟩
       ·rw [if_neg c8] at H; exact absurd H (by simp)
      ·rw [if_neg c7] at H; exact absurd H (by simp)
     ·rw [if_neg c6] at H; have c6b0 := decide_eq_false c6; clear c6; obtain rfl := Option.some.inj H; go_wp2; go_ret; exact ⟨_, tE, by refine tR ?_; exact HO_3.out, tB⟩
  ·rw [if_neg c3] at H; exact absurd H (by simp)
 ·rw [if_neg c2] at H; exact absurd H (by simp)
def laws_toInt64SS.l0 : Nat → List (List Int) → List (List Int) → Int → Option ((List (List Int)))
 | 0, _, _, _ => none
 | k + 1, x0, x3, x4 => if x4 < (x0.length : Int) then (if 0 ≤ x4 then ((laws_toInt64S.f k (rd_L5 x0 x4)).bind fun t455 => (if x4 < (x3.length : Int) then (laws_toInt64SS.l0 k x0 (x3.set (x4 : Int).toNat t455) (wrap64 (x4 + 1))) else (none))) else (none)) else (some x3)
def laws_toInt64SS.f (k : Nat) (l0 : List (List Int)) : Option ((List (List Int))) := if 0 ≤ (l0.length : Int) then (if ((l0.length : Int) : Int).toNat ≤ 11728124029610 then (laws_toInt64SS.l0 k l0 (List.replicate ((l0.length : Int) : Int).toNat []) 0) else (none)) else (none)
theorem laws_toInt64SS.calls (k : Nat) (A0 : Option Addr) (c0 : Nat) (l0 : List (List Int)) (r : List (List Int)) (w : World) (hr0 : Kd.C (Kd.slice 2 (Kd.int .i64)) w A0 l0.length l0) (hc0 : l0.length ≤ c0) (h : laws_toInt64SS.f k l0 = some r) :
  Calls Tryd.prog 80 #[.slice A0 l0.length c0] w fun e w' => ∃ v0_ : Value, e = .returned (v0_) ∧ Kd.S (Kd.slice 2 (Kd.int .i64)) 25 w' w.heap.size (fun _ => True) v0_ r ∧ Below w.heap.size w w' := by
 have HR0 := am hr0; have HC0 := am hc0; clear hr0 hc0; have HB := am (Below.refl w.heap.size w); have H : (if 0 ≤ (l0.length : Int) then (if ((l0.length : Int) : Int).toNat ≤ 11728124029610 then (laws_toInt64SS.l0 k l0 (List.replicate ((l0.length : Int) : Int).toNat []) 0) else (none)) else (none)) = some r := h; clear h; by_cases c2 : 0 ≤ (l0.length : Int)
 ·rw [if_pos c2] at H; have c2b0 := eq_true c2; have c2b1 := decide_eq_true c2; clear c2; by_cases c3 : ((l0.length : Int) : Int).toNat ≤ 11728124029610
  ·rw [if_pos c3] at H; have c3b0 := eq_true c3; have c3b1 := decide_eq_true c3; clear c3; obtain ⟨y451, hy451⟩ : ∃ y_ : List (List Int), y_ = (List.replicate ((l0.length : Int) : Int).toNat []) := ⟨_, rfl⟩; replace H : (laws_toInt64SS.l0 k l0 y451 0) = some r := tY hy451 H; have Ny451 := am hy451; clear hy451; have H' := am H; clear H; go_enter Tryd.func80, Tryd.ntmps80
   go_wp2_with (first | ((with_reducible refine gate_dst (N := 7) rfl ?_); refine Kd.S_make (Kd.slice 2 (Kd.int .i64)) _ 25 rfl (N := 7) rfl 36 _ _ rfl (l0.length : Int) rfl rfl Tryd.underlying36 (.slice none 0 0) 24 info25 rfl (by decide) (by omega) [] (ok := fun _ => True) (okp := fun _ => True) ⟨_, rfl, Kd.R_nil _ _ _ _ _⟩ (fun _ hk => hk) trivial (oA) (Nat.le_trans (Nat.mul_le_mul_right _ (oA : (l0.length : Int).toNat ≤ 11728124029610)) (by omega)) (Below.refl _ _) (Nat.le_refl _) ?_; intro v452 w4 ho5 hb hg_ hnew_; clear hg_ hnew_; (first | rw [← Ny451.out] at ho5 | (simp only [Int.reduceToNat] at ho5; rw [← Ny451.out] at ho5)); have HO453 := am (Kd.S_lower ho5 (below_size (tB))); replace HB := am (below_step (tB) hb); clear hb ho5))
   go_loopg [4] k (fun kq v4 w' => ∃ (x3_1 : List (List Int)) (x4_1 : Int), v4 = .int .i64 x4_1 ∧ Aside0 (laws_toInt64SS.l0 kq l0 x3_1 x4_1 = some r) ∧ Aside0 (kq ≤ k) ∧ Aside0 (Kd.S (Kd.slice 2 (Kd.int .i64)) 25 w' w.heap.size (fun _ => True) v452 x3_1) ∧ Aside0 (Below w.heap.size w w'))
   case atStart => exact ⟨(y451), (0), (tF), H', ⟨Nat.le_refl _⟩, ⟨by refine tS ?_; exact HO453.out⟩, ⟨tB⟩⟩
   case round =>
    clear H'
    try clear c2; try clear c2b0; try clear c2b1; try clear p2; try clear c3; try clear c3b0; try clear c3b1
    obtain ⟨x3_1, x4_1, rfl, HA, HK1, HO_3, HB⟩ := hrel
    cases gk with
    | zero => exact absurd HA.out (by simp [laws_toInt64SS.l0])
    | succ k1 =>
     have H := HA.out; clear HA; simp only [laws_toInt64SS.l0] at H; by_cases c6 : x4_1 < (l0.length : Int)
     ·rw [if_pos c6] at H; have c6b0 := decide_eq_true c6; clear c6; by_cases c7 : 0 ≤ x4_1
      ·rw [if_pos c7] at H; have c7b0 := decide_eq_true c7; clear c7; obtain ⟨t455, A80, H⟩ := oB H; replace H : (if x4_1 < (x3_1.length : Int) then (laws_toInt64SS.l0 k1 l0 (x3_1.set (x4_1 : Int).toNat t455) (wrap64 (x4_1 + 1))) else (none)) = some r := H; have A8 := am A80; clear A80; by_cases c9 : x4_1 < (x3_1.length : Int)
       ·rw [if_pos c9] at H; have c9b0 := decide_eq_true c9; clear c9; obtain ⟨y458, hy458⟩ : ∃ y_ : List (List Int), y_ = (x3_1.set (x4_1 : Int).toNat t455) := ⟨_, rfl⟩; replace H : (laws_toInt64SS.l0 k1 l0 y458 (wrap64 (x4_1 + 1))) = some r := tY hy458 H; have Ny458 := am hy458; clear hy458; have H' := am H; clear H; have p454 : 0 ≤ (x4_1 : Int) := oA; have q454 : x4_1 < (l0.length : Int) := oA; obtain ⟨ad454, A454_0, c454_0, e454, hx454_0, hl454_0, hi454_0⟩ := at_L5 HR0.out x4_1 p454 q454; cases e454; replace hx454_0 := (HB.out.cell (World.block_lt_of_cell? w _ hx454_0)).trans hx454_0; have HR454_0 := am hi454_0; have HC454_0 := am hl454_0; clear hi454_0 hl454_0; replace p454 := eq_true p454; replace q454 := eq_true q454
        go_wp2_with (first | ((with_reducible refine gate_callee (f := 127) rfl ?_); refine goesLA (some 20) Tryd.func127 #[.slice A454_0 (rd_L5 l0 x4_1).length c454_0] rfl rfl rfl (h := ?_); (with_reducible refine (laws_toInt64S.calls k1 _ _ (rd_L5 l0 x4_1) t455 _ ?side1 ?side2 A8.out).mono ?_); (case side1 => exact tC (Kd.C_below HR454_0.out HB.out)); (case side2 => exact HC454_0.out); rintro e w11 ⟨v456, rfl, ho0, hb⟩; refine ⟨_, rfl, ?_⟩; replace HO_3 := am (Kd.S_elder' (tS HO_3.out) (Kd.R_base ho0) hb); have HO457 := am (Kd.R_lower ho0 (below_size (tB))); replace HB := am (below_step (tB) hb); (try clear hb); (try clear hb2); (try clear hk); (try clear hi); (try clear ho0); have p10 : 0 ≤ (x4_1 : Int) := oA; have q10 : (x4_1 : Int) < ((x3_1.length : Int) : Int) := oA; obtain ⟨go10, co10, eo10, gb10, gl10, cl10, HG10⟩ := Kd.S_form HO_3.out (by omega); (first | cases eo10 | (injection eo10 with ea_ en_ ec_; (first | subst ea_ | (injection ea_ with ea_; subst ea_)); subst ec_; clear en_)); have GB10 := am gb10; have GG10 := am HG10; clear gb10 gl10 HG10; obtain ⟨_, ce10, hcl10, hM10, hcc10, hfr10, _, _⟩ := Kd.S_elem HO_3.out [] (x4_1 : Int) p10 q10; obtain ⟨ve10_0, rfl, ge10_0⟩ := hM10; have hx10_0 := hcc10 0 _ rfl; have hf10_0 := hfr10 0; (try simp only [show ((Kd.slice 2 (Kd.int .i64))).sz = 1 from rfl, Nat.mul_one, Nat.add_zero] at hx10_0); (try simp only [show ((Kd.slice 2 (Kd.int .i64))).sz = 1 from rfl, Nat.mul_one, Nat.add_zero] at hf10_0); (try clear hcl10); (try clear hcc10); (try clear hfr10); (try clear hM10); replace p10 := eq_true p10; replace q10 := eq_true q10; have n_ := am (Kd.S_mono (ok' := (fun k_ => some k_ ≠ (v456 : Value).ownBlock)) HO_3.out (fun k_ hk => hk.2)); clear HO_3; have HO_3 := n_; clear n_; have HX12 := am (show Kd.S (Kd.slice 2 (Kd.int .i64)) 25 w11 w.heap.size (fun k_ => ((fun _ => True)) k_ ∧ ¬ ((fun k_ => some k_ = (v456 : Value).ownBlock)) k_) (.slice (some ⟨go10, 0, none⟩) x3_1.length co10) x3_1 from (by refine tS ?_; exact Kd.S_mono HO_3.out (fun k_ hk => ⟨trivial, fun e_ => hk e_⟩))); obtain ⟨oki12, ce12, hcl12, hM12, hcc12, hfr12, hoki12, hH12⟩ := Kd.S_elem HX12.out [] (x4_1 : Int) (oA) (by have h_ : (x4_1 : Int) < ((x3_1.length : Int) : Int) := oA; first | exact h_ | (have e_ := (Kd.S_reads' HO_3.out).1; omega) | simpa using h_); obtain ⟨ve12_0, rfl, ge12_0⟩ := hM12; have HP12 := Kd.S_seg hH12 (oA) (by have h_ : (x4_1 : Int) < ((x3_1.length : Int) : Int) := oA; first | exact h_ | (have e_ := (Kd.S_reads' HO_3.out).1; omega) | simpa using h_) (seg := [v456]) (j := 0) (show 1 ≤ 1 from by decide) (x' := t455) (Kd.M_row (Kd.R_mono (Kd.R_tight rfl (Kd.R_mono (ok' := fun k_ => ((fun _ => True)) k_ ∧ k_ ≠ go10) (Kd.R_apart' (HO457.out) (Kd.S_typed HO_3.out) (by decide)) (fun k_ hk => ⟨trivial, fun e_ => (hk.2) (by rw [e_]; rfl)⟩))) (fun _ h_ => Or.inr (h_)))) (fun _ hk => hk) (fun k_ hk_ => ((Kd.R_mono (ok' := fun k_ => ((fun _ => True)) k_ ∧ k_ ≠ go10) (Kd.R_apart' (HO457.out) (Kd.S_typed HO_3.out) (by decide)) (fun k_ hk => ⟨trivial, fun e_ => (hk.2) (by rw [e_]; rfl)⟩))).1 k_ hk_.symm); have hx12_0 := hcc12 0 _ rfl; (try simp only [show ((Kd.slice 2 (Kd.int .i64))).sz = 1 from rfl, Nat.mul_one, Nat.add_zero] at hx12_0); have hf12_0 := hfr12 0; (try simp only [show ((Kd.slice 2 (Kd.int .i64))).sz = 1 from rfl, Nat.mul_one, Nat.add_zero] at hf12_0); (try clear hcl12); (try clear hcc12); (try clear hfr12); (try clear hM12); (try clear hoki12); (try clear hH12); (try simp only [show ((Kd.slice 2 (Kd.int .i64))).sz = 1 from rfl, Nat.mul_one, Nat.add_zero] at HP12)) | ((with_reducible refine gate_store (t := 25) (p := 21) rfl ?_); refine store_event (t := 25) (p := 21) (v := ?vo_w13) (w1 := (w11.setCell ⟨go10, (x4_1 : Int).toNat, none⟩ (v456))) ?hg ?ho ?hn ?hr ?_; (case ho => rfl); (case hg => rfl); (case hn => rfl); (case hr => first | (go_simp; done) | (go_simp; rfl) | (obtain ⟨A_, c_, e_⟩ := Kd.R_slice HO457.out; subst e_; (first | (go_simp; done) | (go_simp; rfl)))); intro w13 hw; have hg : w11.grownBy w13 (some go10) := (by rw [hw]; exact HP12.2); have hp_ : Kd.S (Kd.slice 2 (Kd.int .i64)) 25 w13 w.heap.size (fun _ => True) (.slice (some ⟨go10, 0, none⟩) x3_1.length co10) y458 := (by rw [hw, Ny458.out]; exact HP12.1); clear HP12; replace HO_3 := am (hp_); replace HB := am ((by rw [hw]; exact below_set (HB.out) GB10.out : Below w.heap.size w w13)); clear HO457; clear hg hw hp_))
        go_roundg k1
        case measure => have := HK1.out; omega
        case rel => exact ⟨(y458), (wrap64 (x4_1 + 1)), (tF), H', ⟨by have := HK1.out; omega⟩, ⟨by refine tS ?_; exact HO_3.out⟩, ⟨tB⟩⟩
       ·rw [if_neg c9] at H; exact absurd H (by simp)
      ·rw [if_neg c7] at H; exact absurd H (by simp)
     ·rw [if_neg c6] at H; have c6b0 := decide_eq_false c6; clear c6; obtain rfl := Option.some.inj H; go_wp2; go_ret; exact ⟨_, tE, by refine tS ?_; exact HO_3.out, tB⟩
  ·rw [if_neg c3] at H; exact absurd H (by simp)
 ·rw [if_neg c2] at H; exact absurd H (by simp)
def laws_toRelation.f (k : Nat) (a0_0 : Int) (a0_1 : Int) (l0_2 : List Bool) (l0_3 : List (List Int)) : Option (Int × Int × List Bool × (List (List Int))) := (laws_toBoolS.f k l0_2).bind fun t462 => ((laws_toInt64SS.f k l0_3).bind fun t465 => (some (a0_0, a0_1, t462, t465)))
theorem laws_toRelation.calls (k : Nat) (a0_0 : Int) (a0_1 : Int) (A0_2 : Option Addr) (c0_2 : Nat) (l0_2 : List Bool) (A0_3 : Option Addr) (c0_3 : Nat) (l0_3 : List (List Int)) (r1 : Int) (r2 : Int) (r3 : List Bool) (r4 : List (List Int)) (w : World) (hr0_2 : Kd.C Kd.bool w A0_2 l0_2.length l0_2) (hc0_2 : l0_2.length ≤ c0_2) (hr0_3 : Kd.C (Kd.slice 2 (Kd.int .i64)) w A0_3 l0_3.length l0_3) (hc0_3 : l0_3.length ≤ c0_3) (h : laws_toRelation.f k a0_0 a0_1 l0_2 l0_3 = some (r1, r2, r3, r4)) :
  Calls Tryd.prog 36 #[.agg #[.int .i64 a0_0, .int .i64 a0_1, .slice A0_2 l0_2.length c0_2, .slice A0_3 l0_3.length c0_3]] w fun e w' => ∃ v2_ v3_ : Value, e = .returned (.agg #[.int .i64 r1, .int .i64 r2, v2_, v3_]) ∧ Kd.R Kd.bool 4 w' w.heap.size (fun _ => True) v2_ r3 ∧ Kd.S (Kd.slice 2 (Kd.int .i64)) 25 w' w.heap.size (fun _ => True) v3_ r4 ∧ Below w.heap.size w w' := by
 have hu46 := Tryd.underlying46; have hu38 := Tryd.underlying38; have HR0_2 := am hr0_2; have HC0_2 := am hc0_2; clear hr0_2 hc0_2; have HR0_3 := am hr0_3; have HC0_3 := am hc0_3; clear hr0_3 hc0_3; have HB := am (Below.refl w.heap.size w); have H : ((laws_toBoolS.f k l0_2).bind fun t462 => ((laws_toInt64SS.f k l0_3).bind fun t465 => (some (a0_0, a0_1, t462, t465)))) = some (r1, r2, r3, r4) := h; clear h; obtain ⟨t462, A20, H⟩ := oB H; replace H : ((laws_toInt64SS.f k l0_3).bind fun t465 => (some (a0_0, a0_1, t462, t465))) = some (r1, r2, r3, r4) := H; have A2 := am A20; clear A20; obtain ⟨t465, A30, H⟩ := oB H; replace H : (some (a0_0, a0_1, t462, t465)) = some (r1, r2, r3, r4) := H; have A3 := am A30; clear A30; simp only [Option.some.injEq, Prod.mk.injEq] at H; obtain ⟨rfl, rfl, rfl, rfl⟩ := H; go_enter Tryd.func36, Tryd.ntmps36
 go_wp2_with (first | ((with_reducible refine gate_dst (N := 1) rfl ?_); refine boxA 1 #[.int .i64 a0_0, .int .i64 a0_1, .slice A0_2 l0_2.length c0_2, .slice A0_3 l0_3.length c0_3] 46 rfl rfl (h := ?_); intro gb459 hg w4 hbox hb; have BK459 := am (hbox); have GW459 := am ((by rw [hg]; exact (below_size (tB)) : w.heap.size ≤ gb459)); have GE459 := am ((by rw [hg]; exact (below_size (tB)) : w.heap.size ≤ gb459)); replace HB := am (below_step (tB) hb); clear hb hbox hg) | ((with_reducible refine gate_dst (N := 2) rfl ?_); refine boxA 2 #[.int .i64 0, .int .i64 0, .slice none 0 0, .slice none 0 0] 38 rfl rfl (h := ?_); intro gb460 hg w5 hbox hb; have BK460 := am (hbox); have GW460 := am ((by rw [hg]; exact (below_size (tB)) : w.heap.size ≤ gb460)); have GE460 := am ((by rw [hg]; exact (below_size (tB)) : w.heap.size ≤ gb460)); have NB459_460 := am ((by rw [hg]; exact Nat.ne_of_lt (bkl BK459.out) : gb459 ≠ gb460)); have NB460_459 := am ((by rw [hg]; exact Nat.ne_of_gt (bkl BK459.out) : gb460 ≠ gb459)); replace BK459 := am (bkb BK459.out hb); replace HB := am (below_step (tB) hb); clear hb hbox hg) | ((with_reducible refine gate_dst (N := 3) rfl ?_); refine boxA 3 #[.int .i64 0, .int .i64 0, .slice none 0 0, .slice none 0 0] 38 rfl rfl (h := ?_); intro gb461 hg w6 hbox hb; have BK461 := am (hbox); have GW461 := am ((by rw [hg]; exact (below_size (tB)) : w.heap.size ≤ gb461)); have GE461 := am ((by rw [hg]; exact (below_size (tB)) : w.heap.size ≤ gb461)); have NB459_461 := am ((by rw [hg]; exact Nat.ne_of_lt (bkl BK459.out) : gb459 ≠ gb461)); have NB461_459 := am ((by rw [hg]; exact Nat.ne_of_gt (bkl BK459.out) : gb461 ≠ gb459)); replace BK459 := am (bkb BK459.out hb); have NB460_461 := am ((by rw [hg]; exact Nat.ne_of_lt (bkl BK460.out) : gb460 ≠ gb461)); have NB461_460 := am ((by rw [hg]; exact Nat.ne_of_gt (bkl BK460.out) : gb461 ≠ gb460)); replace BK460 := am (bkb BK460.out hb); replace HB := am (below_step (tB) hb); clear hb hbox hg; have hnb7 := NB459_460.out; have hnc7 := NB460_459.out; have hnb8 := NB459_461.out; have hnc8 := NB461_459.out; obtain ⟨hcz9_0, hcz9_1, hcz9_2, hcz9_3⟩ := bc4 BK459.out; have hfz9_0 := blk_frozen BK459.out 0; have hfz9_1 := blk_frozen BK459.out 1; have hfz9_2 := blk_frozen BK459.out 2; have hfz9_3 := blk_frozen BK459.out 3; have hnb10 := NB461_460.out; have hnc10 := NB460_461.out; obtain ⟨hcz11_0, hcz11_1, hcz11_2, hcz11_3⟩ := bc4 BK461.out; have hfz11_0 := blk_frozen BK461.out 0; have hfz11_1 := blk_frozen BK461.out 1; have hfz11_2 := blk_frozen BK461.out 2; have hfz11_3 := blk_frozen BK461.out 3) | ((with_reducible refine gate_callee (f := 79) rfl ?_); refine goesLA (some 12) Tryd.func79 #[.slice A0_2 l0_2.length c0_2] rfl rfl rfl (h := ?_); (with_reducible refine (laws_toBoolS.calls k _ _ l0_2 t462 _ ?side1 ?side2 A2.out).mono ?_); (case side1 => exact Kd.C_below HR0_2.out (tB)); (case side2 => exact HC0_2.out); rintro e w12 ⟨v463, rfl, ho0, hb⟩; refine ⟨_, rfl, ?_⟩; have HO464 := am (Kd.R_lower ho0 (below_size (tB))); replace BK459 := am (blk_below (g := gb459) (o := .cells #[.int .i64 a0_0, .int .i64 a0_1, .slice A0_2 l0_2.length c0_2, .slice A0_3 l0_3.length c0_3] 46 (0, 0)) (by refine tBk ?_; refine blk_far ?_ NB459_461.out _; refine tBk ?_; refine blk_far ?_ NB459_461.out _; refine tBk ?_; exact BK459.out) hb); replace BK460 := am (blk_below (g := gb460) (o := .cells #[.int .i64 0, .int .i64 0, .slice none 0 0, .slice none 0 0] 38 (0, 0)) (by refine tBk ?_; refine blk_far ?_ NB460_461.out _; refine tBk ?_; refine blk_far ?_ NB460_461.out _; refine tBk ?_; exact BK460.out) hb); replace BK461 := am (blk_below (g := gb461) (o := .cells #[.int .i64 a0_0, .int .i64 a0_1, .slice none 0 0, .slice none 0 0] 38 (0, 0)) (by refine tBk ?_; refine blk_put (cs := #[.int .i64 a0_0, .int .i64 0, .slice none 0 0, .slice none 0 0]) ?_ 1 _ rfl; refine tBk ?_; refine blk_put (cs := #[.int .i64 0, .int .i64 0, .slice none 0 0, .slice none 0 0]) ?_ 0 _ rfl; refine tBk ?_; exact BK461.out) hb); replace HB := am (below_step (tB) hb); (try clear hb); (try clear hb2); (try clear hk); (try clear hi); (try clear ho0); obtain ⟨Ao13, co13, eo13⟩ := Kd.R_slice HO464.out; subst eo13; obtain ⟨hcz14_0, hcz14_1, hcz14_2, hcz14_3⟩ := bc4 BK461.out; have hfz14_0 := blk_frozen BK461.out 0; have hfz14_1 := blk_frozen BK461.out 1; have hfz14_2 := blk_frozen BK461.out 2; have hfz14_3 := blk_frozen BK461.out 3; obtain ⟨hcz15_0, hcz15_1, hcz15_2, hcz15_3⟩ := bc4 BK459.out; have hfz15_0 := blk_frozen BK459.out 0; have hfz15_1 := blk_frozen BK459.out 1; have hfz15_2 := blk_frozen BK459.out 2; have hfz15_3 := blk_frozen BK459.out 3) | ((with_reducible refine gate_callee (f := 80) rfl ?_); refine goesLA (some 16) Tryd.func80 #[.slice A0_3 l0_3.length c0_3] rfl rfl rfl (h := ?_); (with_reducible refine (laws_toInt64SS.calls k _ _ l0_3 t465 _ ?side1 ?side2 A3.out).mono ?_); (case side1 => exact Kd.C_below HR0_3.out (tB)); (case side2 => exact HC0_3.out); rintro e w16 ⟨v466, rfl, ho0, hb⟩; refine ⟨_, rfl, ?_⟩; replace HO464 := am (Kd.R_below (by refine tR ?_; exact (Kd.R_mono (Kd.R_far (p := ⟨gb461, 2, none⟩) (Kd.R_types HO464.out BK461.out (by decide)) (fun _ hk => hk.2) (.slice Ao13 t462.length co13)) (fun _ h_ => h_.1))) hb); have HO467 := am (Kd.S_lower ho0 (below_size (tB))); replace BK459 := am (blk_below (g := gb459) (o := .cells #[.int .i64 a0_0, .int .i64 a0_1, .slice A0_2 l0_2.length c0_2, .slice A0_3 l0_3.length c0_3] 46 (0, 0)) (by refine tBk ?_; refine blk_far ?_ NB459_461.out _; refine tBk ?_; exact BK459.out) hb); replace BK460 := am (blk_below (g := gb460) (o := .cells #[.int .i64 0, .int .i64 0, .slice none 0 0, .slice none 0 0] 38 (0, 0)) (by refine tBk ?_; refine blk_far ?_ NB460_461.out _; refine tBk ?_; exact BK460.out) hb); replace BK461 := am (blk_below (g := gb461) (o := .cells #[.int .i64 a0_0, .int .i64 a0_1, .slice Ao13 t462.length co13, .slice none 0 0] 38 (0, 0)) (by refine tBk ?_; refine blk_put (cs := #[.int .i64 a0_0, .int .i64 a0_1, .slice none 0 0, .slice none 0 0]) ?_ 2 _ rfl; refine tBk ?_; exact BK461.out) hb); replace HB := am (below_step (tB) hb); (try clear hb); (try clear hb2); (try clear hk); (try clear hi); (try clear ho0); obtain ⟨Ao17, co17, eo17⟩ := Kd.S_slice HO467.out; subst eo17; obtain ⟨hcz18_0, hcz18_1, hcz18_2, hcz18_3⟩ := bc4 BK461.out; have hfz18_0 := blk_frozen BK461.out 0; have hfz18_1 := blk_frozen BK461.out 1; have hfz18_2 := blk_frozen BK461.out 2; have hfz18_3 := blk_frozen BK461.out 3; obtain ⟨hcz19_0, hcz19_1, hcz19_2, hcz19_3⟩ := bc4 BK460.out; have hfz19_0 := blk_frozen BK460.out 0; have hfz19_1 := blk_frozen BK460.out 1; have hfz19_2 := blk_frozen BK460.out 2; have hfz19_3 := blk_frozen BK460.out 3))
 refine bodyPost_ret (results_cell_row rfl _ _ gb460 38 #[.int .i64 a0_0, .int .i64 a0_1, .slice Ao13 t462.length co13, .slice Ao17 t465.length co17] (0, 0) _ rfl (by refine tBk ?_; refine blk_put (cs := #[.int .i64 a0_0, .int .i64 a0_1, .slice Ao13 t462.length co13, .slice none 0 0]) ?_ 3 _ rfl; refine tBk ?_; refine blk_put (cs := #[.int .i64 a0_0, .int .i64 a0_1, .slice none 0 0, .slice none 0 0]) ?_ 2 _ rfl; refine tBk ?_; refine blk_put (cs := #[.int .i64 a0_0, .int .i64 0, .slice none 0 0, .slice none 0 0]) ?_ 1 _ rfl; refine tBk ?_; refine blk_put (cs := #[.int .i64 0, .int .i64 0, .slice none 0 0, .slice none 0 0]) ?_ 0 _ rfl; refine tBk ?_; refine blk_far ?_ NB460_461.out _; refine tBk ?_; exact BK460.out) Tryd.underlying38 rfl (by kernel_rfl)) rfl ?_; exact ⟨_, _, tE, by refine tR ?_; exact Kd.R_mono (Kd.R_far (p := ⟨gb460, 3, none⟩) (Kd.R_far (p := ⟨gb460, 2, none⟩) (Kd.R_far (p := ⟨gb460, 1, none⟩) (Kd.R_far (p := ⟨gb460, 0, none⟩) (Kd.R_far (p := ⟨gb461, 3, none⟩) (Kd.R_types (Kd.R_types HO464.out BK461.out (by decide)) BK460.out (by decide)) (fun _ hk => hk.1.2) (.slice Ao17 t465.length co17)) (fun _ hk => hk.2) (.int .i64 a0_0)) (fun _ hk => hk.2) (.int .i64 a0_1)) (fun _ hk => hk.2) (.slice Ao13 t462.length co13)) (fun _ hk => hk.2) (.slice Ao17 t465.length co17)) (fun _ hk => trivial), by refine tS ?_; exact Kd.S_mono (Kd.S_far (p := ⟨gb460, 3, none⟩) (Kd.S_far (p := ⟨gb460, 2, none⟩) (Kd.S_far (p := ⟨gb460, 1, none⟩) (Kd.S_far (p := ⟨gb460, 0, none⟩) (Kd.S_far (p := ⟨gb461, 3, none⟩) (Kd.S_types (Kd.S_types HO467.out BK461.out (by decide)) BK460.out (by decide)) (fun _ hk => hk.1.2) (.slice Ao17 t465.length co17)) (fun _ hk => hk.2) (.int .i64 a0_0)) (fun _ hk => hk.2) (.int .i64 a0_1)) (fun _ hk => hk.2) (.slice Ao13 t462.length co13)) (fun _ hk => hk.2) (.slice Ao17 t465.length co17)) (fun _ hk => trivial), tB⟩
def laws_eqBoolS.l0 : Nat → List Bool → List Bool → Int → Option (Bool)
 | 0, _, _, _ => none
 | k + 1, x0, x1, x5 => if x5 < (x0.length : Int) then (if 0 ≤ x5 then (if x5 < (x1.length : Int) then (if ((rdOf false x0 x5) != (rdOf false x1 x5)) = true then (some false) else (laws_eqBoolS.l0 k x0 x1 (wrap64 (x5 + 1)))) else (none)) else (none)) else (some true)
def laws_eqBoolS.f (k : Nat) (l0 : List Bool) (l1 : List Bool) : Option (Bool) := if (l0.length : Int) = (l1.length : Int) then (laws_eqBoolS.l0 k l0 l1 0) else (some false)
theorem laws_eqBoolS.calls (k : Nat) (A0 : Option Addr) (c0 : Nat) (l0 : List Bool) (A1 : Option Addr) (c1 : Nat) (l1 : List Bool) (r : Bool) (w : World) (hr0 : Kd.C Kd.bool w A0 l0.length l0) (hc0 : l0.length ≤ c0) (hr1 : Kd.C Kd.bool w A1 l1.length l1) (hc1 : l1.length ≤ c1) (h : laws_eqBoolS.f k l0 l1 = some r) :
  Calls Tryd.prog 69 #[.slice A0 l0.length c0, .slice A1 l1.length c1] w fun e w' => e = .returned (.bool r) ∧ Drawn0 w w' := by
 have HR0 := am hr0; have HC0 := am hc0; clear hr0 hc0; have HR1 := am hr1; have HC1 := am hc1; clear hr1 hc1; have H : (if (l0.length : Int) = (l1.length : Int) then (laws_eqBoolS.l0 k l0 l1 0) else (some false)) = some r := h; clear h; by_cases c3 : (l0.length : Int) = (l1.length : Int)
 ·rw [if_pos c3] at H; have c3b0 : ((l0.length : Int) == (l1.length : Int)) = true := beq_iff_eq.mpr c3; have c3b1 : ((l0.length : Int) != (l1.length : Int)) = false := bne_eq_false_iff_eq.mpr c3
  have c3b2 : (l0.length == l1.length) = true := by first | simpa using c3 | (simp at c3 ⊢; omega)
  clear c3; have H' := am H; clear H; go_enter Tryd.func69, Tryd.ntmps69; go_wp2
  repeat (go_quiet (fail); try go_wp2)
  go_loopg [5] k (fun kq v5 w' => ∃ (x5_1 : Int), v5 = .int .i64 x5_1 ∧ Aside0 (laws_eqBoolS.l0 kq l0 l1 x5_1 = some r) ∧ Aside0 (kq ≤ k) ∧ Drawn0 w w')
  case atStart => exact ⟨(0), (tF), H', ⟨Nat.le_refl _⟩, tD⟩
  case round =>
   clear H'
   try clear c1; try clear p2; try clear c3; try clear c3b0; try clear c3b1; try clear c3b2
   obtain ⟨x5_1, rfl, HA, HK1, ⟨m1, rfl⟩⟩ := hrel
   cases gk with
   | zero => exact absurd HA.out (by simp [laws_eqBoolS.l0])
   | succ k1 =>
    have H := HA.out; clear HA; simp only [laws_eqBoolS.l0] at H; by_cases c4 : x5_1 < (l0.length : Int)
    ·rw [if_pos c4] at H; have c4b0 := decide_eq_true c4; clear c4; by_cases c5 : 0 ≤ x5_1
     ·rw [if_pos c5] at H; have c5b0 := decide_eq_true c5; clear c5; by_cases c6 : x5_1 < (l1.length : Int)
      ·rw [if_pos c6] at H; have c6b0 := decide_eq_true c6; clear c6; by_cases c7 : ((rdOf false l0 x5_1) != (rdOf false l1 x5_1)) = true
       ·rw [if_pos c7] at H; have c7b0 : ((rdOf false l0 x5_1) != (rdOf false l1 x5_1)) = true := c7
        (try (have c7b1 : decide ((rdOf false l0 x5_1) = (rdOf false l1 x5_1)) = false := by simpa using c7))
        (try (have c7b2 : ((rdOf false l0 x5_1) == (rdOf false l1 x5_1)) = false := by simpa using c7))
        (try (have c7b3 : ¬ ((rdOf false l0 x5_1) = (rdOf false l1 x5_1)) := by simpa using c7))
        clear c7; obtain rfl := Option.some.inj H; have p378 : 0 ≤ (x5_1 : Int) := oA; have q378 : x5_1 < (l0.length : Int) := oA; obtain ⟨ad378, e378, hx378_0⟩ := Kd.at_bool HR0.out x5_1 p378 q378; cases e378; replace p378 := eq_true p378; replace q378 := eq_true q378; have p379 : 0 ≤ (x5_1 : Int) := oA; have q379 : x5_1 < (l1.length : Int) := oA; obtain ⟨ad379, e379, hx379_0⟩ := Kd.at_bool HR1.out x5_1 p379 q379; cases e379; replace p379 := eq_true p379; replace q379 := eq_true q379; go_wp2
        repeat (go_quiet (fail); try go_wp2)
        go_ret; exact ⟨tF, tD⟩
       ·rw [if_neg c7] at H; (have c7b0 : ((rdOf false l0 x5_1) != (rdOf false l1 x5_1)) = false := by simpa using c7)
        (try (have c7b1 : decide ((rdOf false l0 x5_1) = (rdOf false l1 x5_1)) = true := by simpa using c7))
        (try (have c7b2 : ((rdOf false l0 x5_1) == (rdOf false l1 x5_1)) = true := by simpa using c7))
        clear c7; have H' := am H; clear H; have p378 : 0 ≤ (x5_1 : Int) := oA; have q378 : x5_1 < (l0.length : Int) := oA; obtain ⟨ad378, e378, hx378_0⟩ := Kd.at_bool HR0.out x5_1 p378 q378; cases e378; replace p378 := eq_true p378; replace q378 := eq_true q378; have p379 : 0 ≤ (x5_1 : Int) := oA; have q379 : x5_1 < (l1.length : Int) := oA; obtain ⟨ad379, e379, hx379_0⟩ := Kd.at_bool HR1.out x5_1 p379 q379; cases e379; replace p379 := eq_true p379; replace q379 := eq_true q379; go_wp2
        repeat (go_quiet (fail); try go_wp2)
        go_roundg k1
        case measure => have := HK1.out; omega
        case rel => exact ⟨(wrap64 (x5_1 + 1)), (tF), H', ⟨by have := HK1.out; omega⟩, tD⟩
      ·rw [if_neg c6] at H; exact absurd H (by simp)
     ·rw [if_neg c5] at H; exact absurd H (by simp)
    ·rw [if_neg c4] at H; have c4b0 := decide_eq_false c4; clear c4; obtain rfl := Option.some.inj H; go_wp2
     repeat (go_quiet (fail); try go_wp2)
     go_ret; exact ⟨tF, tD⟩
 ·rw [if_neg c3] at H; have c3b0 : ((l0.length : Int) == (l1.length : Int)) = false := beq_eq_false_iff_ne.mpr c3; have c3b1 : ((l0.length : Int) != (l1.length : Int)) = true := bne_iff_ne.mpr c3
  have c3b2 : (l0.length == l1.length) = false := by first | simpa using c3 | (simp at c3 ⊢; omega)
  obtain rfl := Option.some.inj H; go_enter Tryd.func69, Tryd.ntmps69; go_wp2
  repeat (go_quiet (fail); try go_wp2)
  go_ret; exact ⟨tF, tD⟩
def laws_eqInt64S.l0 : Nat → List Int → List Int → Int → Option (Bool)
 | 0, _, _, _ => none
 | k + 1, x0, x1, x5 => if x5 < (x0.length : Int) then (if 0 ≤ x5 then (if x5 < (x1.length : Int) then (if (rd x0 x5) = (rd x1 x5) then (laws_eqInt64S.l0 k x0 x1 (wrap64 (x5 + 1))) else (some false)) else (none)) else (none)) else (some true)
def laws_eqInt64S.f (k : Nat) (l0 : List Int) (l1 : List Int) : Option (Bool) := if (l0.length : Int) = (l1.length : Int) then (laws_eqInt64S.l0 k l0 l1 0) else (some false)
theorem laws_eqInt64S.calls (k : Nat) (A0 : Option Addr) (c0 : Nat) (l0 : List Int) (A1 : Option Addr) (c1 : Nat) (l1 : List Int) (r : Bool) (w : World) (hr0 : Kd.C (Kd.int .i64) w A0 l0.length l0) (hc0 : l0.length ≤ c0) (hr1 : Kd.C (Kd.int .i64) w A1 l1.length l1) (hc1 : l1.length ≤ c1) (h : laws_eqInt64S.f k l0 l1 = some r) :
  Calls Tryd.prog 20 #[.slice A0 l0.length c0, .slice A1 l1.length c1] w fun e w' => e = .returned (.bool r) ∧ Drawn0 w w' := by
 have HR0 := am hr0; have HC0 := am hc0; clear hr0 hc0; have HR1 := am hr1; have HC1 := am hc1; clear hr1 hc1; have H : (if (l0.length : Int) = (l1.length : Int) then (laws_eqInt64S.l0 k l0 l1 0) else (some false)) = some r := h; clear h; by_cases c3 : (l0.length : Int) = (l1.length : Int)
 ·rw [if_pos c3] at H; have c3b0 : ((l0.length : Int) == (l1.length : Int)) = true := beq_iff_eq.mpr c3; have c3b1 : ((l0.length : Int) != (l1.length : Int)) = false := bne_eq_false_iff_eq.mpr c3
  have c3b2 : (l0.length == l1.length) = true := by first | simpa using c3 | (simp at c3 ⊢; omega)
  clear c3; have H' := am H; clear H; go_enter Tryd.func20, Tryd.ntmps20; go_wp2
  repeat (go_quiet (fail); try go_wp2)
  go_loopg [5] k (fun kq v5 w' => ∃ (x5_1 : Int), v5 = .int .i64 x5_1 ∧ Aside0 (laws_eqInt64S.l0 kq l0 l1 x5_1 = some r) ∧ Aside0 (kq ≤ k) ∧ Drawn0 w w')
  case atStart => exact ⟨(0), (tF), H', ⟨Nat.le_refl _⟩, tD⟩
  case round =>
   clear H'
   try clear c1; try clear c2; try clear p2; try clear c3; try clear c3b0; try clear c3b1; try clear c3b2
   obtain ⟨x5_1, rfl, HA, HK1, ⟨m1, rfl⟩⟩ := hrel
   cases gk with
   | zero => exact absurd HA.out (by simp [laws_eqInt64S.l0])
   | succ k1 =>
    have H := HA.out; clear HA; simp only [laws_eqInt64S.l0] at H; by_cases c4 : x5_1 < (l0.length : Int)
    ·rw [if_pos c4] at H; have c4b0 := decide_eq_true c4; clear c4; by_cases c5 : 0 ≤ x5_1
     ·rw [if_pos c5] at H; have c5b0 := decide_eq_true c5; clear c5; by_cases c6 : x5_1 < (l1.length : Int)
      ·rw [if_pos c6] at H; have c6b0 := decide_eq_true c6; clear c6; by_cases c7 : (rd l0 x5_1) = (rd l1 x5_1)
       ·rw [if_pos c7] at H; have c7b0 : ((rd l0 x5_1) == (rd l1 x5_1)) = true := beq_iff_eq.mpr c7; have c7b1 : ((rd l0 x5_1) != (rd l1 x5_1)) = false := bne_eq_false_iff_eq.mpr c7; clear c7; have H' := am H; clear H; have p163 : 0 ≤ (x5_1 : Int) := oA; have q163 : x5_1 < (l0.length : Int) := oA; obtain ⟨ad163, e163, hx163_0⟩ := Kd.at_int HR0.out x5_1 p163 q163; cases e163; replace p163 := eq_true p163; replace q163 := eq_true q163; have p164 : 0 ≤ (x5_1 : Int) := oA; have q164 : x5_1 < (l1.length : Int) := oA; obtain ⟨ad164, e164, hx164_0⟩ := Kd.at_int HR1.out x5_1 p164 q164; cases e164; replace p164 := eq_true p164; replace q164 := eq_true q164; go_wp2
        repeat (go_quiet (fail); try go_wp2)
        go_roundg k1
        case measure => have := HK1.out; omega
        case rel => exact ⟨(wrap64 (x5_1 + 1)), (tF), H', ⟨by have := HK1.out; omega⟩, tD⟩
       ·rw [if_neg c7] at H; have c7b0 : ((rd l0 x5_1) == (rd l1 x5_1)) = false := beq_eq_false_iff_ne.mpr c7; have c7b1 : ((rd l0 x5_1) != (rd l1 x5_1)) = true := bne_iff_ne.mpr c7; obtain rfl := Option.some.inj H; have p163 : 0 ≤ (x5_1 : Int) := oA; have q163 : x5_1 < (l0.length : Int) := oA; obtain ⟨ad163, e163, hx163_0⟩ := Kd.at_int HR0.out x5_1 p163 q163; cases e163; replace p163 := eq_true p163; replace q163 := eq_true q163; have p164 : 0 ≤ (x5_1 : Int) := oA; have q164 : x5_1 < (l1.length : Int) := oA; obtain ⟨ad164, e164, hx164_0⟩ := Kd.at_int HR1.out x5_1 p164 q164; cases e164; replace p164 := eq_true p164; replace q164 := eq_true q164; go_wp2
        repeat (go_quiet (fail); try go_wp2)
        go_ret; exact ⟨tF, tD⟩
      ·rw [if_neg c6] at H; exact absurd H (by simp)
     ·rw [if_neg c5] at H; exact absurd H (by simp)
    ·rw [if_neg c4] at H; have c4b0 := decide_eq_false c4; clear c4; obtain rfl := Option.some.inj H; go_wp2
     repeat (go_quiet (fail); try go_wp2)
     go_ret; exact ⟨tF, tD⟩
 ·rw [if_neg c3] at H; have c3b0 : ((l0.length : Int) == (l1.length : Int)) = false := beq_eq_false_iff_ne.mpr c3; have c3b1 : ((l0.length : Int) != (l1.length : Int)) = true := bne_iff_ne.mpr c3
  have c3b2 : (l0.length == l1.length) = false := by first | simpa using c3 | (simp at c3 ⊢; omega)
  obtain rfl := Option.some.inj H; go_enter Tryd.func20, Tryd.ntmps20; go_wp2
  repeat (go_quiet (fail); try go_wp2)
  go_ret; exact ⟨tF, tD⟩
end Go.Proofs.YtelicdmaohllgaaDoor.X
