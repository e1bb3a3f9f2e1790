import Derived.Test.YtocfcpicleomcaaDoorProg
import Derived.Below
import Derived.Deep.Draws
import Derived.Deep.AppendLies
import Derived.Maps.AppendAt
import Derived.OwnWalk
import Derived.Laws.BytesArg
import Derived.Laws.MakeOwn
import Derived.Laws.OwnMore
import Derived.Deep.OwnRows
import Derived.Tactics
import Derived.Lib.ConvBytes
import Derived.Laws.Slices
import Derived.WalkKit
import Derived.KernelRfl
import Derived.RowKit3
import Derived.Deep.LoopGhost
import Derived.Deep.QuietTactic
import Derived.BigQuiet
import Derived.WideLaws
import Derived.Deep.DeepCutAuto
import Derived.Deep.CutBlock
import Derived.Deep.RegionHeld3
import Derived.Laws.Rows
import Derived.Lib.AppendStr
import Derived.ArgAppend
import Derived.Laws.IdiomCopy
import Derived.OrdersHeld
import Derived.Laws.BitsLemmas
import Derived.RowKit
import Derived.Test.YtocfcpicleomcaaDoorBP0
import Derived.Test.YtocfcpicleomcaaDoorBP1
import Derived.Maps.OwnSet
import Derived.Maps.Ext
import Derived.Carry
import Derived.Outline
namespace Go.Proofs.YtocfcpicleomcaaDoor.X
set_option maxHeartbeats 16000000
set_option maxRecDepth 100000
open Go.RowKit Go.Proofs.YtocfcpicleomcaaDoorW.PrintWords Go.Proofs.YtocfcpicleomcaaDoorW.PrintLast Go.Proofs.YtocfcpicleomcaaDoorW.PrintMore
attribute [local go_sem] max2_int min2_int max_two min_two max_three min_three max_four min_four
set_option linter.unusedVariables false
set_option linter.unusedSimpArgs false
def errW : Option Int → Value
 | none => .nilIface
 | some c => .iface 0 (.int .i64 c)
theorem errW_none : errW none = .nilIface := rfl
theorem errW_some (c : Int) : errW (some c) = .iface 0 (.int .i64 c) := rfl
theorem info2 : (Tryd.prog.info? 2).map (fun i => (i.zero, i.size, i.bytes)) = some (some (.int .i64 0), 1, 8) := by kernel_rfl
theorem info3 : (Tryd.prog.info? 3).map (fun i => (i.zero, i.size, i.bytes)) = some (some (.int .i64 0), 1, 8) := by kernel_rfl
theorem info4 : (Tryd.prog.info? 4).map (fun i => (i.zero, i.size, i.bytes)) = some (some (.bool false), 1, 1) := by kernel_rfl
theorem info42 : (Tryd.prog.info? 42).map (fun i => (i.zero, i.size, i.bytes)) = some (some (.slice none 0 0), 1, 24) := by kernel_rfl
theorem info81 : (Tryd.prog.info? 81).map (fun i => (i.zero, i.size, i.bytes)) = some (some (.slice none 0 0), 1, 24) := by kernel_rfl
def rd_L2 (xs : List (List Int)) (i : Int) : (List Int) := xs.getD i.toNat ([] : List Int)
theorem at_L2 {w : World} {A : Option Addr} {n : Nat} {xs : List (List Int)} (h : Kd.C (Kd.slice 2 (Kd.int .i64)) w A n xs) (i : Int) (h0 : 0 ≤ i) (h1 : i < n) : ∃ ad A0 c0, A = some ad ∧ w.cell? (ad.add i.toNat) = some (.slice A0 (rd_L2 xs i).length c0) ∧ (rd_L2 xs i).length ≤ c0 ∧ (Kd.int .i64).C w A0 (rd_L2 xs i).length (rd_L2 xs i) := by
 obtain ⟨ad, c, e, _, hK, hc0⟩ := Kd.C_get h ([] : List Int) i h0 h1; have hc : ∀ j u, c[j]? = some u → w.cell? (ad.add (i.toNat * 1 + j)) = some u := hc0; obtain ⟨A0, c0, rfl, l0, g0⟩ := hK; exact ⟨ad, A0, c0, e, by have hq := hc 0 _ rfl; rwa [Nat.mul_one, Nat.add_zero] at hq, l0, g0⟩
def rd_L6 (xs : List (List Int)) (i : Int) : (List Int) := xs.getD i.toNat ([] : List Int)
theorem at_L6 {w : World} {A : Option Addr} {n : Nat} {xs : List (List Int)} (h : Kd.C (Kd.slice 3 (Kd.int .i64)) w A n xs) (i : Int) (h0 : 0 ≤ i) (h1 : i < n) : ∃ ad A0 c0, A = some ad ∧ w.cell? (ad.add i.toNat) = some (.slice A0 (rd_L6 xs i).length c0) ∧ (rd_L6 xs i).length ≤ c0 ∧ (Kd.int .i64).C w A0 (rd_L6 xs i).length (rd_L6 xs i) := by
 obtain ⟨ad, c, e, _, hK, hc0⟩ := Kd.C_get h ([] : List Int) i h0 h1; have hc : ∀ j u, c[j]? = some u → w.cell? (ad.add (i.toNat * 1 + j)) = some u := hc0; obtain ⟨A0, c0, rfl, l0, g0⟩ := hK; exact ⟨ad, A0, c0, e, by have hq := hc 0 _ rfl; rwa [Nat.mul_one, Nat.add_zero] at hq, l0, g0⟩
section
theorem am {p : Prop} (h : p) : Aside0 p := ⟨h⟩
theorem bc4 {W : World} {g T : Nat} {a b c d : Value} (h : W.heap[g]? = some (.cells #[a, b, c, d] T (0, 0))) : W.cell? ⟨g, 0, none⟩ = some a ∧ W.cell? ⟨g, 1, none⟩ = some b ∧ W.cell? ⟨g, 2, none⟩ = some c ∧ W.cell? ⟨g, 3, none⟩ = some d := ⟨(za0 h 0).trans rfl, (za0 h 1).trans rfl, (za0 h 2).trans rfl, (za0 h 3).trans rfl⟩
theorem bf4 {W : World} {g T : Nat} {cs : Array Value} (h : W.heap[g]? = some (.cells cs T (0, 0))) : W.frozen? ⟨g, 0, none⟩ = false ∧ W.frozen? ⟨g, 1, none⟩ = false ∧ W.frozen? ⟨g, 2, none⟩ = false ∧ W.frozen? ⟨g, 3, none⟩ = false := ⟨zd0 h 0, zd0 h 1, zd0 h 2, zd0 h 3⟩
theorem tB {n : Nat} {W W' : World} (h : Below n W W' := by repeat (first | (with_reducible first | exact HB.out | apply zn0 | apply zi0 | apply zy0 | refine yj0 ?_ (Aside0.out (by assumption)) | refine yj0 ?_ (IsS29.ge HI0.out)) | exact HB.out)) : Below n W W' := h
theorem tK {w W : World} {g : Nat} {row : Option Nat} (h : KeepBut w W g row := by repeat (first | (with_reducible first | exact HK.out | apply KeepBut.set_ | apply keep_drewN | apply keep_drew | apply keep_alloc) | exact HK.out)) : KeepBut w W g row := h
theorem tKp {w W : World} {S : Nat → Prop} (h : Kept w W S := by repeat (first | (with_reducible first | exact HK.out | apply Kept.alloc | apply Kept.drewN | apply Kept.drew) | exact HK.out)) : Kept w W S := h
theorem tBk {p q : Prop} (h : p) (k : p → q := by intro h_; (with_reducible repeat (first | refine blk_drewN ?_ _ | refine xd0 ?_ | refine zp0 ?_ _)); exact h_) : q := k h
theorem tR {p q : Prop} (h : p) (k : p → q := by intro h_; (with_reducible repeat (first | apply Kd.R_alloc | apply Kd.R_drewN | apply Kd.R_drew)); exact h_) : q := k h
theorem tS {p q : Prop} (h : p) (k : p → q := by intro h_; (with_reducible repeat (first | apply Kd.S_alloc | apply Kd.S_drewN | apply Kd.S_drew)); exact h_) : q := k h
theorem oA {p : Prop} {i : Decidable p} (h : decide p = true := by first | (with_reducible assumption) | assumption) : p := of_decide_eq_true h
theorem tF {p : Prop} (h : p := by first | rfl | (simp; done) | (simp [*]; done)) : p := h
theorem tE {p : Prop} (h : p := by first | rfl | (simp [errW_none, errW_some] <;> rfl) | (simp [*, errW_none, errW_some] <;> rfl)) : p := h
theorem tD {p : Prop} (h : p := by repeat (first | exact Drawn0.refl _ | apply Drawn0.step)) : p := h
theorem tY {α : Type} {y z : α} {p q : Prop} (hy : y = z) (H : p) (k : y = z → p → q := by intro hy_ H_; first | (rw [hy_]; with_reducible exact H_) | (have H2_ := (Option.bind_some _ _).symm.trans H_; rw [hy_]; with_reducible exact H2_) | (have H2_ := (Option.bind_some _ _).symm.trans H_; with_reducible exact H2_) | with_reducible exact H_ | (rw [hy_]; exact H_) | exact H_) : q := k hy H
/-- What has come up: bit i of m, of n. -/
def bl (n m : Nat) : Array Bool := ((List.range n).map fun i => m.testBit i).toArray
end
section
variable {P : Program} {md : Region.Mode} {ops : Array Oper} {Q : Exit → Act → World → Prop} {S : World → Prop} {ds : List Nat}
theorem pureA (i : Nat) (N : Option Tmp) (l' : Array Bool) {oi : Oper} {v : Value} {fuel : Nat} {l : Array Bool} {a : Act} {w : World} {a' : Act} (hi : ops[i]? = some oi) (hN : oi.dst = N) (hc : anyB md ops l l' i = true := by first | exact any_of HT_.out (by kernel_rfl) | kernel_rfl)
  (hQ : ∀ c a w, Q (.panic c) (a.put oi.dst v) w → Q (.panic c) a w := by exact fun _ _ _ h => h) (hy : Yields P ops oi v a := by refine Or.inl ⟨by rfl, ?_⟩; intro w'; go_simp; with_reducible rfl) (ha : a.put N v = a' := by simp only [Act.put, List.setIfInBounds_toArray, List.set_cons_zero, List.set_cons_succ, i64_w, i32_w]; rfl)
  (h : wpAnyLast P md ops Q S ds fuel l' a' w) : wpAnyLast P md ops Q S ds (fuel + 1) l a w := pure_ l' hi hN hc hQ hy ha h
theorem takeA3 (i : Nat) (N : Option Tmp) (l' : Array Bool) {oi : Oper} {v : Value} {fuel : Nat} {l : Array Bool} {a : Act} {w : World} {a' : Act} (hS : S w) (hi : ops[i]? = some oi) (hN : oi.dst = N) (hc : takeB md ops ds l l' i = true := by first | exact take_ofW HT_.out HW_.out (by kernel_rfl) | kernel_rfl)
  (hQ : ∀ c a w, Q (.panic c) (a.put oi.dst v) w → Q (.panic c) a w := by exact fun _ _ _ h => h) (hy : YieldsIf P ops S oi v a := by refine Or.inl ⟨by rfl, ?_⟩; rintro w' ⟨s0, s1, s2⟩; go_simp; with_reducible rfl) (ha : a.put N v = a' := by simp only [Act.put, List.setIfInBounds_toArray, List.set_cons_zero, List.set_cons_succ, i64_w, i32_w]; rfl)
  (h : wpAnyLast P md ops Q S ds fuel l' a' w) : wpAnyLast P md ops Q S ds (fuel + 1) l a w := take_ l' hi hN hc hQ hy hS ha h
theorem takeA4 (i : Nat) (N : Option Tmp) (l' : Array Bool) {oi : Oper} {v : Value} {fuel : Nat} {l : Array Bool} {a : Act} {w : World} {a' : Act} (hS : S w) (hi : ops[i]? = some oi) (hN : oi.dst = N) (hc : takeB md ops ds l l' i = true := by first | exact take_ofW HT_.out HW_.out (by kernel_rfl) | kernel_rfl)
  (hQ : ∀ c a w, Q (.panic c) (a.put oi.dst v) w → Q (.panic c) a w := by exact fun _ _ _ h => h) (hy : YieldsIf P ops S oi v a := by refine Or.inl ⟨by rfl, ?_⟩; rintro w' ⟨s0, s1, s2, s3⟩; go_simp; with_reducible rfl) (ha : a.put N v = a' := by simp only [Act.put, List.setIfInBounds_toArray, List.set_cons_zero, List.set_cons_succ, i64_w, i32_w]; rfl)
  (h : wpAnyLast P md ops Q S ds fuel l' a' w) : wpAnyLast P md ops Q S ds (fuel + 1) l a w := take_ l' hi hN hc hQ hy hS ha h
theorem takeA5 (i : Nat) (N : Option Tmp) (l' : Array Bool) {oi : Oper} {v : Value} {fuel : Nat} {l : Array Bool} {a : Act} {w : World} {a' : Act} (hS : S w) (hi : ops[i]? = some oi) (hN : oi.dst = N) (hc : takeB md ops ds l l' i = true := by first | exact take_ofW HT_.out HW_.out (by kernel_rfl) | kernel_rfl)
  (hQ : ∀ c a w, Q (.panic c) (a.put oi.dst v) w → Q (.panic c) a w := by exact fun _ _ _ h => h) (hy : YieldsIf P ops S oi v a := by refine Or.inl ⟨by rfl, ?_⟩; rintro w' ⟨s0, s1, s2, s3, s4⟩; go_simp; with_reducible rfl) (ha : a.put N v = a' := by simp only [Act.put, List.setIfInBounds_toArray, List.set_cons_zero, List.set_cons_succ, i64_w, i32_w]; rfl)
  (h : wpAnyLast P md ops Q S ds fuel l' a' w) : wpAnyLast P md ops Q S ds (fuel + 1) l a w := take_ l' hi hN hc hQ hy hS ha h
theorem takeA6 (i : Nat) (N : Option Tmp) (l' : Array Bool) {oi : Oper} {v : Value} {fuel : Nat} {l : Array Bool} {a : Act} {w : World} {a' : Act} (hS : S w) (hi : ops[i]? = some oi) (hN : oi.dst = N) (hc : takeB md ops ds l l' i = true := by first | exact take_ofW HT_.out HW_.out (by kernel_rfl) | kernel_rfl)
  (hQ : ∀ c a w, Q (.panic c) (a.put oi.dst v) w → Q (.panic c) a w := by exact fun _ _ _ h => h) (hy : YieldsIf P ops S oi v a := by refine Or.inl ⟨by rfl, ?_⟩; rintro w' ⟨s0, s1, s2, s3, s4, s5⟩; go_simp; with_reducible rfl) (ha : a.put N v = a' := by simp only [Act.put, List.setIfInBounds_toArray, List.set_cons_zero, List.set_cons_succ, i64_w, i32_w]; rfl)
  (h : wpAnyLast P md ops Q S ds fuel l' a' w) : wpAnyLast P md ops Q S ds (fuel + 1) l a w := take_ l' hi hN hc hQ hy hS ha h
theorem takeA7 (i : Nat) (N : Option Tmp) (l' : Array Bool) {oi : Oper} {v : Value} {fuel : Nat} {l : Array Bool} {a : Act} {w : World} {a' : Act} (hS : S w) (hi : ops[i]? = some oi) (hN : oi.dst = N) (hc : takeB md ops ds l l' i = true := by first | exact take_ofW HT_.out HW_.out (by kernel_rfl) | kernel_rfl)
  (hQ : ∀ c a w, Q (.panic c) (a.put oi.dst v) w → Q (.panic c) a w := by exact fun _ _ _ h => h) (hy : YieldsIf P ops S oi v a := by refine Or.inl ⟨by rfl, ?_⟩; rintro w' ⟨s0, s1, s2, s3, s4, s5, s6⟩; go_simp; with_reducible rfl) (ha : a.put N v = a' := by simp only [Act.put, List.setIfInBounds_toArray, List.set_cons_zero, List.set_cons_succ, i64_w, i32_w]; rfl)
  (h : wpAnyLast P md ops Q S ds fuel l' a' w) : wpAnyLast P md ops Q S ds (fuel + 1) l a w := take_ l' hi hN hc hQ hy hS ha h
theorem takeA8 (i : Nat) (N : Option Tmp) (l' : Array Bool) {oi : Oper} {v : Value} {fuel : Nat} {l : Array Bool} {a : Act} {w : World} {a' : Act} (hS : S w) (hi : ops[i]? = some oi) (hN : oi.dst = N) (hc : takeB md ops ds l l' i = true := by first | exact take_ofW HT_.out HW_.out (by kernel_rfl) | kernel_rfl)
  (hQ : ∀ c a w, Q (.panic c) (a.put oi.dst v) w → Q (.panic c) a w := by exact fun _ _ _ h => h) (hy : YieldsIf P ops S oi v a := by refine Or.inl ⟨by rfl, ?_⟩; rintro w' ⟨s0, s1, s2, s3, s4, s5, s6, s7⟩; go_simp; with_reducible rfl) (ha : a.put N v = a' := by simp only [Act.put, List.setIfInBounds_toArray, List.set_cons_zero, List.set_cons_succ, i64_w, i32_w]; rfl)
  (h : wpAnyLast P md ops Q S ds fuel l' a' w) : wpAnyLast P md ops Q S ds (fuel + 1) l a w := take_ l' hi hN hc hQ hy hS ha h
theorem normA {fuel : Nat} {l : Array Bool} {a a' : Act} {w : World} (ha : a = a' := by show Act.put _ (some _) _ = _; simp only [Act.put, List.setIfInBounds_toArray, List.set_cons_zero, List.set_cons_succ, i64_w, i32_w]; rfl) (h : wpAnyLast P md ops Q S ds fuel l a' w) : wpAnyLast P md ops Q S ds fuel l a w := norm_ ha h
theorem normB {fuel : Nat} {l : Array Bool} {a a' : Act} {w : World} (ha : a = a' := by simp only [putAll, Act.put, List.setIfInBounds_toArray, List.set_cons_zero, List.set_cons_succ]; rfl) (h : wpAnyLast P md ops Q S ds fuel l a' w) : wpAnyLast P md ops Q S ds fuel l a w := norm_ ha h
theorem normC {fuel : Nat} {l : Array Bool} {a a' : Act} {w : World} (h : wpAnyLast P md ops Q S ds fuel l a' w) (ha : a = a' := by simp only [putAll, Act.put, List.setIfInBounds_toArray, List.set_cons_zero, List.set_cons_succ]) : wpAnyLast P md ops Q S ds fuel l a w := norm_ ha h
end
section
variable {P : Program} {ops : Array Oper} {rest : List Oper} {o : Oper} {a : Act} {w : World} {Q : Exit → Act → World → Prop}
theorem goesA {K : Act → World → Prop} {N : Option Tmp} {f : FuncId} {fn : Func} {as_ : Array Operand} {ts : Array TypeId} (hf : P.funcs[f]? = some fn) (args : Array Value) (hop : o.op = .call { callee := .value (.func f), args := as_, argTypes := ts }) (hname : (fn.name == "runtime.NumGoroutine") = false := by kernel_rfl) (hb : fn.body.isSome = true := by rfl)
  (hw : Region.wanted o (yielded ops a.tmps) = true := by rfl) (hN : o.dst = N := by rfl) (hargs : as_.map a.eval = args := by (try simp only [List.map_toArray, List.map_cons, List.map_nil]); first | done | rfl | (simp only [List.length_drop, List.length_take]; rfl))
  (h : Calls P f args w fun e w' => ∃ v, e = .returned v ∧ K (a.put N v) w') : if Region.wanted o (yielded ops a.tmps) = true then Oper.wp P o a w K Q else K (a.put N undef) w := goes_ hf hname hb args hw hN hop hargs h
theorem goesLA (N : Option Tmp) {f : FuncId} {fn : Func} {as_ : Array Operand} {ts : Array TypeId} (hf : P.funcs[f]? = some fn) (args : Array Value) (hd : o.dst = N) (hg : o.guard = none) (hop : o.op = .call { callee := .value (.func f), args := as_, argTypes := ts }) (hname : (fn.name == "runtime.NumGoroutine") = false := by kernel_rfl) (hb : fn.body.isSome = true := by rfl)
  (hargs : as_.map a.eval = args := by (try simp only [List.map_toArray, List.map_cons, List.map_nil]); first | done | rfl | (simp only [List.length_drop, List.length_take]; rfl))
  (h : Calls P f args w fun e w' => ∃ v, e = .returned v ∧ wpList P ops Q rest (a.put N v) w') : wpList P ops Q (o :: rest) a w := goesL_ N hd hg hf hname hb args hop hargs h
theorem boxA (N : Tmp) (cs : Array Value) (t : TypeId) (hd : o.dst = some N) (hg : o.guard = none)
  (hr : (execOp a.eval o).run P w = .ok (.value (.pointer (some ⟨w.heap.size, 0, none⟩))) (w.alloc (.cells cs t (0, 0))) := by first | (go_simp; done) | (go_simp; rfl))
  (h : ∀ g, g = w.heap.size → ∀ w1, w1.heap[g]? = some (.cells cs t (0, 0)) → Below w.heap.size w w1 → wpList P ops Q rest (a.put o.dst (.pointer (some ⟨g, 0, none⟩))) w1) : wpList P ops Q (o :: rest) a w := box_event hg hd hr h
theorem boxB {Kc : Act → World → Prop} (N : Tmp) (cs : Array Value) (t : TypeId) (hd : o.dst = some N) (hg : Region.wanted o (yielded ops a.tmps) = true)
  (hr : (execOp a.eval o).run P w = .ok (.value (.pointer (some ⟨w.heap.size, 0, none⟩))) (w.alloc (.cells cs t (0, 0))) := by first | (go_simp; done) | (go_simp; rfl))
  (h : ∀ g, g = w.heap.size → ∀ w1, w1.heap[g]? = some (.cells cs t (0, 0)) → Below w.heap.size w w1 → Kc (a.put o.dst (.pointer (some ⟨g, 0, none⟩))) w1) : if Region.wanted o (yielded ops a.tmps) = true then Oper.wp P o a w Kc Q else Kc (a.put o.dst undef) w := box_step hg hd hr h
end
def laws_markInt64S.l0 : Nat → List Int → Int → Int → Option (Int × List Int)
 | 0, _, _, _ => none
 | k + 1, x0, x1, x5 => if x5 < (x0.length : Int) then (if 0 ≤ x5 then (laws_markInt64S.l0 k (x0.set (x5 : Int).toNat x1) (wrap64 (x1 + 1)) (wrap64 (x5 + 1))) else (none)) else (some (x1, x0))
def laws_markInt64S.f (k : Nat) (l0 : List Int) (a1 : Int) : Option (Int × List Int) := laws_markInt64S.l0 k l0 a1 0
theorem laws_markInt64S.calls (k : Nat) (P0_ : Nat → Prop) (u9000_ : Value) (l0 : List Int) (a1 : Int) (r1 : Int) (r2 : List Int) (w0 w : World) (hB : Below w0.heap.size w0 w) (ho0 : Kd.R (Kd.int .i64) 2 w w0.heap.size P0_ u9000_ l0) (h : laws_markInt64S.f k l0 a1 = some (r1, r2)) :
  Calls Tryd.prog 38 #[u9000_, .int .i64 a1] w fun e w' => e = .returned (.int .i64 r1) ∧ Kd.R (Kd.int .i64) 2 w' w0.heap.size (fun k_ => (P0_ k_ ∨ w.heap.size ≤ k_)) u9000_ r2 ∧ Below w0.heap.size w0 w' ∧ Kept w w' (fun k_ => P0_ k_) := by
 have HO0 := am (show Kd.R (Kd.int .i64) 2 w w0.heap.size (fun k_ => (P0_ k_ ∨ w.heap.size ≤ k_)) u9000_ l0 from Kd.R_mono ho0 (fun k_ hk => (.inl hk))); have HK := am (Kept.refl w (fun k_ => P0_ k_)); have HW0 := am hB.size; have HB := am hB; clear hB; have H : (laws_markInt64S.l0 k l0 a1 0) = some (r1, r2) := h; clear h; have H' := am H; clear H; go_enter Tryd.func38, Tryd.ntmps38; go_wp2
 go_loopg [1, 5] k (fun kq v1 v5 w' => ∃ (x0_1 : List Int) (x1_1 : Int) (x5_1 : Int), v1 = .int .i64 x1_1 ∧ v5 = .int .i64 x5_1 ∧ Aside0 (laws_markInt64S.l0 kq x0_1 x1_1 x5_1 = some (r1, r2)) ∧ Aside0 (kq ≤ k) ∧ Aside0 (Kd.R (Kd.int .i64) 2 w' w0.heap.size (fun k_ => (P0_ k_ ∨ w.heap.size ≤ k_)) u9000_ x0_1) ∧ Aside0 (Kept w w' (fun k_ => P0_ k_)) ∧ Aside0 (Below w0.heap.size w0 w'))
 case atStart => exact ⟨(l0), (a1), (0), (tF), (tF), H', ⟨Nat.le_refl _⟩, ⟨by refine tR ?_; exact HO0.out⟩, ⟨tKp⟩, ⟨tB⟩⟩
 case round =>
  clear H'
  try clear p2
  obtain ⟨x0_1, x1_1, x5_1, rfl, rfl, HA, HK1, HO_0, HK, HB⟩ := hrel
  cases gk with
  | zero => exact absurd HA.out (by simp [laws_markInt64S.l0])
  | succ k1 =>
   have H := HA.out; clear HA; simp only [laws_markInt64S.l0] at H; by_cases c3 : x5_1 < (x0_1.length : Int)
   ·rw [if_pos c3] at H; have c3b0 := decide_eq_true c3; clear c3; by_cases c4 : 0 ≤ x5_1
    ·rw [if_pos c4] at H; have c4b0 := decide_eq_true c4; clear c4; obtain ⟨y411, hy411⟩ : ∃ y_ : List Int, y_ = (x0_1.set (x5_1 : Int).toNat x1_1) := ⟨_, rfl⟩; replace H : (laws_markInt64S.l0 k1 y411 (wrap64 (x1_1 + 1)) (wrap64 (x5_1 + 1))) = some (r1, r2) := tY hy411 H; have Ny411 := am hy411; clear hy411; have H' := am H; clear H; obtain ⟨Ao6, co6, eo6⟩ := Kd.zk0 HO_0.out; subst eo6; have p5 : 0 ≤ (x5_1 : Int) := oA; have q5 : (x5_1 : Int) < ((x0_1.length : Int) : Int) := oA; obtain ⟨go5, co5, eo5, gb5, gl5, cl5, HG5⟩ := Kd.R_form HO_0.out (by omega)
     (first | cases eo5 | (injection eo5 with ea_ en_ ec_; (first | subst ea_ | (injection ea_ with ea_; subst ea_)); subst ec_; clear en_))
     have GB5 := am gb5; have GG5 := am HG5; clear gb5 gl5 HG5; have HMgo5 := am (show (P0_ go5 ∨ w.heap.size ≤ go5) from (HO_0.out.1 _ rfl)); obtain ⟨hx5_0, hf5_0⟩ := Kd.R_celln 0 HO_0.out (x5_1 : Int) p5 q5; replace p5 := eq_true p5; replace q5 := eq_true q5; have HP7 := Kd.R_putg HO_0.out (x5_1 : Int) x1_1
     go_wp2_with (first | ((with_reducible refine gate_store (t := 2) (p := 15) rfl ?_); refine xh0 (t := 2) (p := 15) (v := ?vo_w8) (w1 := (wr.setCell ⟨go5, (x5_1 : Int).toNat, none⟩ (.int .i64 x1_1))) ?hg ?ho ?hn ?hr ?_; (case ho => rfl); (case hg => rfl); (case hn => rfl); (case hr => first | (go_simp; done) | (go_simp; rfl)); intro w8 hw; have hg : wr.grownBy w8 (some go5) := (by rw [hw]; exact HP7.2); have hp_ : Kd.R (Kd.int .i64) 2 w8 w0.heap.size (fun k_ => (P0_ k_ ∨ w.heap.size ≤ k_)) (.slice (some ⟨go5, 0, none⟩) x0_1.length co6) y411 := (by rw [hw, Ny411.out]; exact HP7.1); clear HP7; replace HB := am ((by rw [hw]; exact yj0 (HB.out) GB5.out : Below w0.heap.size w0 w8)); replace HK := am (Kept.of_grown (S := (fun k_ => P0_ k_)) hg (tKp) (fun k_ e_ => (HO_0.out.1 k_ e_))); replace HO_0 := am (hp_); clear hg hw hp_))
     go_roundg k1
     case measure => have := HK1.out; omega
     case rel => exact ⟨(y411), (wrap64 (x1_1 + 1)), (wrap64 (x5_1 + 1)), (tF), (tF), H', ⟨by have := HK1.out; omega⟩, ⟨by refine tR ?_; exact HO_0.out⟩, ⟨tKp⟩, ⟨tB⟩⟩
    ·rw [if_neg c4] at H; exact absurd H (by simp)
   ·rw [if_neg c3] at H; have c3b0 := decide_eq_false c3; clear c3; simp only [Option.some.injEq, Prod.mk.injEq] at H; obtain ⟨rfl, rfl⟩ := H; obtain ⟨Ao9, co9, eo9⟩ := Kd.zk0 HO_0.out; subst eo9; go_wp2; go_ret; exact ⟨tE, by refine tR ?_; exact HO_0.out, tB, tKp⟩
def laws_markInt64SS.l0 : Nat → List (List Int) → Int → Int → Option (Int × List (List Int))
 | 0, _, _, _ => none
 | k + 1, x0, x1, x5 => if x5 < (x0.length : Int) then (if 0 ≤ x5 then ((laws_markInt64S.f k (x0.getD x5.toNat []) x1).bind fun bt => (laws_markInt64SS.l0 k (x0.set x5.toNat bt.2) bt.1 (wrap64 (x5 + 1)))) else (none)) else (some (x1, x0))
def laws_markInt64SS.f (k : Nat) (l0 : List (List Int)) (a1 : Int) : Option (Int × List (List Int)) := laws_markInt64SS.l0 k l0 a1 0
theorem laws_markInt64SS.calls (k : Nat) (P0_ : Nat → Prop) (u9000_ : Value) (l0 : List (List Int)) (a1 : Int) (r1 : Int) (r2 : List (List Int)) (w0 w : World) (hB : Below w0.heap.size w0 w) (ho0 : Kd.S (Kd.slice 2 (Kd.int .i64)) 42 w w0.heap.size P0_ u9000_ l0) (h : laws_markInt64SS.f k l0 a1 = some (r1, r2)) :
  Calls Tryd.prog 70 #[u9000_, .int .i64 a1] w fun e w' => e = .returned (.int .i64 r1) ∧ Kd.S (Kd.slice 2 (Kd.int .i64)) 42 w' w0.heap.size (fun k_ => (P0_ k_ ∨ w.heap.size ≤ k_)) u9000_ r2 ∧ Below w0.heap.size w0 w' ∧ Kept w w' (fun k_ => P0_ k_) := by
 have HO := am (show Kd.S (Kd.slice 2 (Kd.int .i64)) 42 w w0.heap.size (fun k_ => (P0_ k_ ∨ w.heap.size ≤ k_)) u9000_ l0 from Kd.S_mono ho0 (fun k_ hk => .inl hk)); have HB := am hB; have HK := am (Kept.refl w (fun k_ => P0_ k_)); have H' := am (show laws_markInt64SS.l0 k l0 a1 0 = some (r1, r2) from h); clear h hB ho0; go_enter Tryd.func70, Tryd.ntmps70; go_wp2
 go_loopg [1, 5] k (fun kq v1 v5 w' => ∃ (xs : List (List Int)) (x1 x5 : Int), v1 = .int .i64 x1 ∧ v5 = .int .i64 x5 ∧ Aside0 (laws_markInt64SS.l0 kq xs x1 x5 = some (r1, r2)) ∧ Aside0 (Kd.S (Kd.slice 2 (Kd.int .i64)) 42 w' w0.heap.size (fun k_ => (P0_ k_ ∨ w.heap.size ≤ k_)) u9000_ xs) ∧ Aside0 (Below w0.heap.size w0 w') ∧ Aside0 (Kept w w' (fun k_ => P0_ k_)))
 case atStart => exact ⟨l0, a1, 0, rfl, rfl, H', HO, HB, HK⟩
 case round =>
  clear H' HO HB HK; obtain ⟨xs, x1, x5, rfl, rfl, HA, HO, HB, HK⟩ := hrel
  cases gk with
  | zero => exact absurd HA.out (by simp [laws_markInt64SS.l0])
  | succ k1 =>
   have H := HA.out; clear HA; simp only [laws_markInt64SS.l0] at H; by_cases c4 : x5 < (xs.length : Int)
   ·rw [if_pos c4] at H; have c4b0 := decide_eq_true c4; by_cases c5 : 0 ≤ x5
    ·rw [if_pos c5] at H; obtain ⟨⟨t1, t2⟩, A70, H⟩ := Option.bind_eq_some_iff.mp H; replace H : laws_markInt64SS.l0 k1 (xs.set x5.toNat t2) t1 (wrap64 (x5 + 1)) = some (r1, r2) := H; have H' := am H; have A7 := am A70; clear A70 H; obtain ⟨g, cap, hu, _⟩ := Kd.S_form HO.out (by omega); subst hu; obtain ⟨oki, c, hcl, hM, hcc, hoki, hH⟩ := Kd.S_lend HO.out [] x5 c5 c4; obtain ⟨vi, rfl, hR⟩ := hM; obtain ⟨Ai, ci, hvi⟩ := Kd.zk0 hR; subst hvi; have hx := hcc 0 _ rfl; simp only [show (Kd.slice 2 (Kd.int .i64)).sz = 1 from rfl, Nat.mul_one, Nat.add_zero] at hx; generalize xs.getD x5.toNat [] = row at hx hR hH A7; have HR := am hR; have HH := am hH; have HI := am hoki; have p0 := eq_true c5; have q0 := eq_true c4; clear hcl hcc hoki hH hR c4 c5
     go_wp2_with (first | (go_at_call 38; (with_reducible refine (laws_markInt64S.calls k1 oki _ row x1 t1 t2 w0 _ ?s1 ?s2 A7.out).mono ?_); (case s1 => exact HB.out); (case s2 => exact HR.out); rintro e w5 ⟨rfl, ho, hb, hk⟩; have HO5 := am (Kd.H_back (x' := t2) (okp := fun k_ => oki k_ ∨ wr.heap.size ≤ k_) (Kd.H_kept (Kd.H_widen HH.out) hk (fun _ _ h2 h3 => h2 (Or.inl h3))) ⟨_, rfl, ho⟩ (fun k_ hk_ => hk_.elim Or.inl (fun h_ => Or.inr ⟨Or.inr (Nat.le_trans HK.out.1 h_), h_⟩))); have HB5 := am hb; have HK5 := am (HK.out.then_ hk (fun k_ hk_ => (HI.out k_ hk_).1)); clear HO HB HK HR HH HI ho hb hk))
     go_roundg k1
     case measure => omega
     case rel => exact ⟨_, t1, wrap64 (x5 + 1), rfl, rfl, H', by simpa using HO5, HB5, HK5⟩
    ·rw [if_neg c5] at H; cases H
   ·rw [if_neg c4] at H; have c4b0 := decide_eq_false c4; simp only [Option.some.injEq, Prod.mk.injEq] at H; obtain ⟨rfl, rfl⟩ := H; obtain ⟨Au, cu, hu⟩ := Kd.zr0 HO.out; subst hu; go_wp2; go_ret; exact ⟨rfl, HO.out, HB.out, HK.out⟩
def laws_markBoolS.l0 : Nat → List Bool → Int → Int → Option (Int × List Bool)
 | 0, _, _, _ => none
 | k + 1, x0, x1, x5 => if x5 < (x0.length : Int) then (if 0 ≤ x5 then (laws_markBoolS.l0 k (x0.set (x5 : Int).toNat ((Int.tmod x1 3) == 0)) (wrap64 (x1 + 1)) (wrap64 (x5 + 1))) else (none)) else (some (x1, x0))
def laws_markBoolS.f (k : Nat) (l0 : List Bool) (a1 : Int) : Option (Int × List Bool) := laws_markBoolS.l0 k l0 a1 0
theorem laws_markBoolS.calls (k : Nat) (P0_ : Nat → Prop) (u9000_ : Value) (l0 : List Bool) (a1 : Int) (r1 : Int) (r2 : List Bool) (w0 w : World) (hB : Below w0.heap.size w0 w) (ho0 : Kd.R Kd.bool 4 w w0.heap.size P0_ u9000_ l0) (h : laws_markBoolS.f k l0 a1 = some (r1, r2)) :
  Calls Tryd.prog 69 #[u9000_, .int .i64 a1] w fun e w' => e = .returned (.int .i64 r1) ∧ Kd.R Kd.bool 4 w' w0.heap.size (fun k_ => (P0_ k_ ∨ w.heap.size ≤ k_)) u9000_ r2 ∧ Below w0.heap.size w0 w' ∧ Kept w w' (fun k_ => P0_ k_) := by
 have HO0 := am (show Kd.R Kd.bool 4 w w0.heap.size (fun k_ => (P0_ k_ ∨ w.heap.size ≤ k_)) u9000_ l0 from Kd.R_mono ho0 (fun k_ hk => (.inl hk))); have HK := am (Kept.refl w (fun k_ => P0_ k_)); have HW0 := am hB.size; have HB := am hB; clear hB; have H : (laws_markBoolS.l0 k l0 a1 0) = some (r1, r2) := h; clear h; have H' := am H; clear H; go_enter Tryd.func69, Tryd.ntmps69; go_wp2
 go_loopg [1, 5] k (fun kq v1 v5 w' => ∃ (x0_1 : List Bool) (x1_1 : Int) (x5_1 : Int), v1 = .int .i64 x1_1 ∧ v5 = .int .i64 x5_1 ∧ Aside0 (laws_markBoolS.l0 kq x0_1 x1_1 x5_1 = some (r1, r2)) ∧ Aside0 (kq ≤ k) ∧ Aside0 (Kd.R Kd.bool 4 w' w0.heap.size (fun k_ => (P0_ k_ ∨ w.heap.size ≤ k_)) u9000_ x0_1) ∧ Aside0 (Kept w w' (fun k_ => P0_ k_)) ∧ Aside0 (Below w0.heap.size w0 w'))
 case atStart => exact ⟨(l0), (a1), (0), (tF), (tF), H', ⟨Nat.le_refl _⟩, ⟨by refine tR ?_; exact HO0.out⟩, ⟨tKp⟩, ⟨tB⟩⟩
 case round =>
  clear H'
  try clear p2
  obtain ⟨x0_1, x1_1, x5_1, rfl, rfl, HA, HK1, HO_0, HK, HB⟩ := hrel
  cases gk with
  | zero => exact absurd HA.out (by simp [laws_markBoolS.l0])
  | succ k1 =>
   have H := HA.out; clear HA; simp only [laws_markBoolS.l0] at H; by_cases c3 : x5_1 < (x0_1.length : Int)
   ·rw [if_pos c3] at H; have c3b0 := decide_eq_true c3; clear c3; by_cases c4 : 0 ≤ x5_1
    ·rw [if_pos c4] at H; have c4b0 := decide_eq_true c4; clear c4; obtain ⟨y410, hy410⟩ : ∃ y_ : List Bool, y_ = (x0_1.set (x5_1 : Int).toNat ((Int.tmod x1_1 3) == 0)) := ⟨_, rfl⟩; replace H : (laws_markBoolS.l0 k1 y410 (wrap64 (x1_1 + 1)) (wrap64 (x5_1 + 1))) = some (r1, r2) := tY hy410 H; have Ny410 := am hy410; clear hy410; have H' := am H; clear H; obtain ⟨Ao6, co6, eo6⟩ := Kd.zk0 HO_0.out; subst eo6; have p5 : 0 ≤ (x5_1 : Int) := oA; have q5 : (x5_1 : Int) < ((x0_1.length : Int) : Int) := oA; obtain ⟨go5, co5, eo5, gb5, gl5, cl5, HG5⟩ := Kd.R_form HO_0.out (by omega)
     (first | cases eo5 | (injection eo5 with ea_ en_ ec_; (first | subst ea_ | (injection ea_ with ea_; subst ea_)); subst ec_; clear en_))
     have GB5 := am gb5; have GG5 := am HG5; clear gb5 gl5 HG5; have HMgo5 := am (show (P0_ go5 ∨ w.heap.size ≤ go5) from (HO_0.out.1 _ rfl)); obtain ⟨hx5_0, hf5_0⟩ := Kd.R_celln false HO_0.out (x5_1 : Int) p5 q5; replace p5 := eq_true p5; replace q5 := eq_true q5; have HP7 := Kd.R_putg HO_0.out (x5_1 : Int) ((Int.tmod x1_1 3) == 0)
     go_wp2_with (first | ((with_reducible refine gate_store (t := 4) (p := 17) rfl ?_); refine xh0 (t := 4) (p := 17) (v := ?vo_w8) (w1 := (wr.setCell ⟨go5, (x5_1 : Int).toNat, none⟩ (.bool ((Int.tmod x1_1 3) == 0)))) ?hg ?ho ?hn ?hr ?_; (case ho => rfl); (case hg => rfl); (case hn => rfl); (case hr => first | (go_simp; done) | (go_simp; rfl)); intro w8 hw; have hg : wr.grownBy w8 (some go5) := (by rw [hw]; exact HP7.2); have hp_ : Kd.R Kd.bool 4 w8 w0.heap.size (fun k_ => (P0_ k_ ∨ w.heap.size ≤ k_)) (.slice (some ⟨go5, 0, none⟩) x0_1.length co6) y410 := (by rw [hw, Ny410.out]; exact HP7.1); clear HP7; replace HB := am ((by rw [hw]; exact yj0 (HB.out) GB5.out : Below w0.heap.size w0 w8)); replace HK := am (Kept.of_grown (S := (fun k_ => P0_ k_)) hg (tKp) (fun k_ e_ => (HO_0.out.1 k_ e_))); replace HO_0 := am (hp_); clear hg hw hp_))
     go_roundg k1
     case measure => have := HK1.out; omega
     case rel => exact ⟨(y410), (wrap64 (x1_1 + 1)), (wrap64 (x5_1 + 1)), (tF), (tF), H', ⟨by have := HK1.out; omega⟩, ⟨by refine tR ?_; exact HO_0.out⟩, ⟨tKp⟩, ⟨tB⟩⟩
    ·rw [if_neg c4] at H; exact absurd H (by simp)
   ·rw [if_neg c3] at H; have c3b0 := decide_eq_false c3; clear c3; simp only [Option.some.injEq, Prod.mk.injEq] at H; obtain ⟨rfl, rfl⟩ := H; obtain ⟨Ao9, co9, eo9⟩ := Kd.zk0 HO_0.out; subst eo9; go_wp2; go_ret; exact ⟨tE, by refine tR ?_; exact HO_0.out, tB, tKp⟩
section
variable {P : Program} {ops : Array Oper} {rest : List Oper} {o : Oper} {a : Act} {w : World} {Q : Exit → Act → World → Prop}
theorem runs_val {x : Operand} {f : FuncId} {fn : Func} {caps : Array Value} {bs : Array Operand} {ts : Array TypeId} (hf : P.funcs[f]? = some fn) (hname : (fn.name == "runtime.NumGoroutine") = false) (hb : fn.body.isSome = true) (args : Array Value)
  (hop : o.op = .call { callee := .value x, args := bs, argTypes := ts }) (hx : a.eval x = .func (.func f) #[] caps) (hargs : bs.map a.eval = args) : (execOp a.eval o).run P w = .ok (.enter f (args ++ caps)) w := by
 have he := enters_ hf hname hb (args ++ caps) w; unfold execOp; simp [hop, resolve, Deferred.ofValue, invoke, hx, hargs, he]
end
/-- A function value that answers bs F does, wherever what was there when the call began still is. -/
structure CloOK {α β : Type} (P : Program) (w : World) (f : FuncId) (caps : Array Value) (arg : α → Array Value) (F : α → Option β) (enc : β → Value) : Prop where
 fn : ∃ fn, P.funcs[f]? = some fn ∧ (fn.name == "runtime.NumGoroutine") = false ∧ fn.body.isSome = true
 run : ∀ x r W, Below w.heap.size w W → F x = some r → Calls P f (arg x ++ caps) W fun e W' => e = .returned (enc r) ∧ Below W.heap.size W W'
section
variable {H : Type} {P : Program} (w : World) {ops : Array Oper} {rest : List Oper} {o : Oper} {a : Act} {Q : Exit → Act → World → Prop}
end
theorem made_at {P : Program} {k : TypeId} {R : Value → Option (DataW Unit × List MemPlace)} (W : World) {n : Nat} (hn : W.heap.size = n) : (W.alloc (.map #[] 0)).ownsMap P k R n 0 (.map []) := hn ▸ World.ownsMap_made _ _ _ _
def retag (own : Nat → Nat) (n t : Nat) : Nat → Nat := fun k => if k < n then own k else t
theorem retag_lt {own : Nat → Nat} {n t k : Nat} (h : k < n) : retag own n t k = own k := by simp [retag, h]
theorem yp0 {own : Nat → Nat} {n t k : Nat} (h : n ≤ k) : retag own n t k = t := by simp [retag, Nat.not_lt.2 h]
section
variable {α : Type} {d : Kd α} {e base s : Nat} {own : Nat → Nat} {W W1 : World} {v : Value} {xs : List α}
theorem R_tag (h : d.R e W base (fun k => own k = s) v xs) (t : Nat) : d.R e W base (fun k => retag own W.heap.size t k = s) v xs :=
 Kd.R_mono (Kd.R_bound h) (fun k hk => by rw [retag_lt hk.2.2.1]; exact hk.1)
theorem S_tagged (h : Kd.S d e W base (fun k => own k = s) v xs) (t : Nat) : Kd.S d e W base (fun k => retag own W.heap.size t k = s) v xs :=
 Kd.S_mono (Kd.S_bound h) (fun k hk => by rw [retag_lt hk.2.2.1]; exact hk.1)
theorem R_other (h : d.R e W base (fun k => own k = s) v xs) {row : Option Nat} {t : Nat} (hg : W.grownBy W1 row) (hr : ∀ k, row = some k → own k = t) (hst : s ≠ t) : d.R e W1 base (fun k => own k = s) v xs :=
 Kd.R_grown h hg (fun k hk he => hst (hk.symm.trans (hr k he.symm)))
theorem S_other (h : Kd.S d e W base (fun k => own k = s) v xs) {row : Option Nat} {t : Nat} (hg : W.grownBy W1 row) (hr : ∀ k, row = some k → own k = t) (hst : s ≠ t) : Kd.S d e W1 base (fun k => own k = s) v xs :=
 Kd.S_grown h hg (fun k hk he => hst (hk.symm.trans (hr k he.symm)))
theorem yz0 (h : d.R e W base (fun k => own k = s) v xs) {row : Option Nat} {t : Nat} (hg : W.grownBy W1 row) (hr : ∀ k, row = some k → retag own W.heap.size t k = t) (hst : s ≠ t) : d.R e W1 base (fun k => retag own W.heap.size t k = s) v xs := R_other (R_tag h t) hg hr hst
theorem S_otherT (h : Kd.S d e W base (fun k => own k = s) v xs) {row : Option Nat} {t : Nat} (hg : W.grownBy W1 row) (hr : ∀ k, row = some k → retag own W.heap.size t k = t) (hst : s ≠ t) : Kd.S d e W1 base (fun k => retag own W.heap.size t k = s) v xs := S_other (S_tagged h t) hg hr hst
theorem zz0 {g : Nat} {o : Obj} (h : W.heap[g]? = some o ∧ own g = s) {row : Option Nat} {t : Nat} (hg : W.grownBy W1 row) (hr : ∀ k, row = some k → retag own W.heap.size t k = t) (hst : s ≠ t) : W1.heap[g]? = some o ∧ retag own W.heap.size t g = s := by
 (have e : retag own W.heap.size t g = s := by rw [retag_lt (blk_lt h.1)]; exact h.2); exact ⟨blk_grown h.1 hg (fun he => hst (e.symm.trans (hr g he.symm))), e⟩
theorem map_otherT {P : Program} {k : TypeId} {R : Value → Option (DataW Unit × List MemPlace)} {g n : Nat} {D : DataW Unit} (h : W.ownsMap P k R g n D ∧ own g = s) {row : Option Nat} {t : Nat} (hg : W.grownBy W1 row) (hr : ∀ k, row = some k → retag own W.heap.size t k = t) (hst : s ≠ t) : W1.ownsMap P k R g n D ∧ retag own W.heap.size t g = s := by
 (have e : retag own W.heap.size t g = s := by rw [retag_lt h.1.lt]; exact h.2); exact ⟨h.1.kept hg (fun he => hst (e.symm.trans (hr g he.symm))), e⟩
theorem R_rowT (h : d.R e W base (fun k => own k = s) v xs) : ∀ k, v.ownBlock = some k → retag own W.heap.size s k = s := fun k hk => (R_tag h s).1 k hk
theorem S_rowT (h : Kd.S d e W base (fun k => own k = s) v xs) : ∀ k, v.ownBlock = some k → retag own W.heap.size s k = s := fun k hk => (Kd.S_R (S_tagged h s)).1 k hk
theorem map_below {P : Program} {k : TypeId} {R : Value → Option (DataW Unit × List MemPlace)} {g n : Nat} {D : DataW Unit} (h : W.ownsMap P k R g n D) (hb : Below W.heap.size W W1) : W1.ownsMap P k R g n D := h.kept (grown_of_below hb none) (by simp)
end
/-- A literal of one element without rows. -/
theorem R_one {α : Type} {d : Kd α} {e base : Nat} (W : World) (x : α) (cs : List Value) (ok : Nat → Prop) (hx : d.M (W.alloc (.cells cs.toArray e)) base (fun _ => False) x cs) (hl : cs.length = d.sz) (hb : base ≤ W.heap.size) (hok : ok W.heap.size) :
  d.R e (W.alloc (.cells cs.toArray e)) base ok (.slice (some ⟨W.heap.size, 0, none⟩) 1 1) [x] := by
 refine ⟨fun k hk => ?_, cs, ?_, ?_⟩
 ·(have : W.heap.size = k := by simpa [Value.ownBlock] using hk); subst this; exact hok
 ·have h2 := World.ownsRow_lit (base := base) (e := e) (size := d.sz) W cs.toArray 1 hb (by simp [maxLen]) (by simpa using hl)
  simpa using h2
 ·refine ⟨by simp [hl], fun j p hj => ?_⟩; (have hj0 : j = 0 := by have := (List.getElem?_eq_some_iff.1 hj).1; simp at this; omega); subst hj0; (have hp : x = p := by simpa using hj); subst hp; rw [Nat.zero_mul, List.drop_zero, ← hl, List.take_length]; exact d.M_mono (fun k hk => hk.elim) hx
def set4 (W : World) (g : Nat) (a b c d : Value) : World := (((W.setCell ⟨g, 0, none⟩ a).setCell ⟨g, 1, none⟩ b).setCell ⟨g, 2, none⟩ c).setCell ⟨g, 3, none⟩ d
theorem xe0 {W : World} {g : Nat} {a b c d : Value} {k : Nat} (h : k ≠ g) : (set4 W g a b c d).heap[k]? = W.heap[k]? := by
 unfold set4; rw [Below.heap_setCell _ _ _ _ h, Below.heap_setCell _ _ _ _ h, Below.heap_setCell _ _ _ _ h, Below.heap_setCell _ _ _ _ h]
theorem set4_size {W : World} {g : Nat} {a b c d : Value} : (set4 W g a b c d).heap.size = W.heap.size := by simp [set4]
theorem R_set4 {α : Type} {d : Kd α} {e base : Nat} {ok : Nat → Prop} {W : World} {v : Value} {xs : List α} (h : d.R e W base ok v xs) {g t : Nat} {cs : Array Value} (hb : W.heap[g]? = some (.cells cs t (0, 0))) (ht : ∀ q, q ∈ e :: d.E → q ≠ t) (a b c u : Value) : d.R e (set4 W g a b c u) base ok v xs :=
 Kd.R_mono (Kd.R_step (Kd.R_types h hb ht) (fun k hk _ => xe0 hk.2)) (fun _ hk => hk.1)
theorem S_set4 {α : Type} {d : Kd α} {e base : Nat} {ok : Nat → Prop} {W : World} {v : Value} {xs : List α} (h : Kd.S d e W base ok v xs) {g t : Nat} {cs : Array Value} (hb : W.heap[g]? = some (.cells cs t (0, 0))) (ht : ∀ q, q ∈ e :: d.E → q ≠ t) (a b c u : Value) : Kd.S d e (set4 W g a b c u) base ok v xs :=
 Kd.S_mono (Kd.S_step (Kd.S_types h hb ht) (fun k hk _ => xe0 hk.2)) (fun _ hk => hk.1)
theorem below_set4 {w W : World} {g : Nat} (h : Below w.heap.size w W) (hg : w.heap.size ≤ g) (a b c d : Value) : Below w.heap.size w (set4 W g a b c d) := by
 unfold set4; exact (((h.setCell hg _).setCell hg _).setCell hg _).setCell hg _
def inI64 (t : Int) : Bool := decide (-9223372036854775808 ≤ t) && decide (t ≤ 9223372036854775807)
theorem inI64_wf {t : Int} (h : inI64 t = true) : (Lit.int .i64 t).wf = true := by
 simp only [inI64, Bool.and_eq_true, decide_eq_true_eq] at h; exact WalkArith.wf_i64 h
section
variable {K : Type} [DecidableEq K]
/-- One state's row: from column c on, m columns; l: the states met so far; lim: how many there may be (0: any number that fits). -/
def growRow (good : K → Bool) (next : Int → Option K) : Nat → Int → List K → List Int → Option (List K × List Int)
 | 0, _, l, row => some (l, row)
 | m + 1, c, l, row => (next c).bind fun t => if good t = true then (if t ∈ l then growRow good next m (c + 1) l (row ++ [(l.idxOf t : Int)]) else if l.length < 1900000 then growRow good next m (c + 1) (l ++ [t]) (row ++ [(l.length : Int)]) else none) else none
def growL (good : K → Bool) (acc : K → Option Bool) (next : K → Int → Option K) (W : Nat) : Nat → List K → List Bool → List (List Int) → Option (List Bool × List (List Int))
 | 0, _, _, _ => none
 | f + 1, l, bs, rs => match l[bs.length]? with
  | none => some (bs, rs)
  | some k => (growRow good (next k) W 0 l []).bind fun p => (acc k).bind fun a => growL good acc next W f p.1 (bs ++ [a]) (rs ++ [p.2])
/-- The map of the numbers, bs a datum. -/
def idsD (lit : K → Lit) (l : List K) : DataW Unit := l.zipIdx.foldl (fun D p => D.put (lit p.1) (.lit (.int .i64 (p.2 : Int)))) (.map [])
omit [DecidableEq K] in
theorem idsD_snoc (lit : K → Lit) (l : List K) (k : K) : idsD lit (l ++ [k]) = (idsD lit l).put (lit k) (.lit (.int .i64 (l.length : Int))) := by
 simp [idsD, List.zipIdx_append, List.foldl_append]
omit [DecidableEq K] in
theorem snoc_ind {P : List K → Prop} (h0 : P []) (h1 : ∀ l k, P l → P (l ++ [k])) : ∀ l, P l := by
 intro l
 suffices h : ∀ n (l : List K), l.length = n → P l from h _ l rfl
 intro n
 induction n with
 | zero =>
  intro l hl; rw [List.length_eq_zero_iff.1 hl]; exact h0
 | succ n ih =>
  intro l hl
  rcases List.eq_nil_or_concat l with rfl | ⟨L, b, rfl⟩
  ·simp at hl
  ·simp only [List.concat_eq_append] at hl ⊢
   exact h1 L b (ih L (by simpa using hl))
omit [DecidableEq K] in
theorem idsD_isMap (lit : K → Lit) : ∀ l : List K, Maps.IsMap (idsD lit l) := snoc_ind Maps.isMap_empty (fun l k h => by rw [idsD_snoc]; exact h.put _ _)
theorem idsD_has {lit : K → Lit} (hi : ∀ a b, lit a = lit b → a = b) (hk : ∀ a, WideAt.IsKeyLit (lit a)) (k : K) : ∀ l : List K, Maps.has (idsD lit l) (lit k) = decide (k ∈ l) := by
 apply snoc_ind
 ·simp [idsD, Maps.has]
 ·intro l k' ih; rw [idsD_snoc]; by_cases e : k = k'
  ·subst e; rw [Maps.has_put_same (idsD_isMap lit l) (hk k)]; simp
  ·rw [Maps.has_put_other (fun h => e (hi _ _ h)), ih]; simp [e]
theorem idsD_at {lit : K → Lit} (hi : ∀ a b, lit a = lit b → a = b) (hk : ∀ a, WideAt.IsKeyLit (lit a)) (k : K) (z : DataW Unit) : ∀ l : List K, k ∈ l → l.Nodup → (idsD lit l).atKey (lit k) z = .lit (.int .i64 (l.idxOf k : Int)) := by
 apply snoc_ind
 ·intro h; cases h
 ·intro l k' ih hm hn; rw [idsD_snoc]; have hn' := List.nodup_append.1 hn; by_cases e : k = k'
  ·subst e; rw [Maps.atKey_put_same (idsD_isMap lit l) (hk k)]; have hni : k ∉ l := fun h => hn'.2.2 k h k (by simp) rfl; simp [List.idxOf_append, hni]
  ·rw [Maps.atKey_put_other (fun h => e (hi _ _ h))]; (have hm' : k ∈ l := by simpa [e] using hm); rw [ih hm' hn'.1]; simp [List.idxOf_append, hm']
end
section
variable {K : Type} [DecidableEq K] {P : Program} (w : World) {ops : Array Oper} {rest : List Oper} {o : Oper} {a : Act} {Q : Exit → Act → World → Prop}
theorem ids_look {lit : K → Lit} (hi : ∀ a b, lit a = lit b → a = b) (hk : ∀ a, WideAt.IsKeyLit (lit a)) {t k e : TypeId} {b n : Nat} {l : List K} (hown : w.ownsMap P k (plainElem P e) b n (idsD lit l)) (KK : Maps.Keyed P k) (ht : P.underlying t = some (.map k e)) (he : P.underlying e = some (.int .i64))
  (hz : (zeroValue e).run P w = .ok (.int .i64 0) w) (hn : l.Nodup) {key : Value} {x : K} (hkey : keyOf P k key = some (lit x)) :
  (Instr.lookup t (.map (some b)) key true).run P w = .ok (.tuple #[.int .i64 (if x ∈ l then (l.idxOf x : Int) else 0), .bool (decide (x ∈ l))]) w := by
 obtain ⟨v, ps, hrun, hv⟩ := hown.look_ok KK ht hz (plainElem_int he (by decide)) hkey; rw [hrun, idsD_has hi hk]; obtain ⟨c, rfl, hc, _⟩ := plainElem_int_inv he hv; by_cases hx : x ∈ l
 ·rw [idsD_at hi hk x _ l hx hn] at hc; simp only [Prod.mk.injEq, DataW.lit.injEq, Lit.int.injEq, true_and] at hc; rw [if_pos hx, hc.1]
 ·(have h0 : Maps.has (idsD lit l) (lit x) = false := by rw [idsD_has hi hk]; simp [hx]); rw [Maps.atKey_of_not_has h0] at hc; simp only [Prod.mk.injEq, DataW.lit.injEq, Lit.int.injEq, true_and] at hc; rw [if_neg hx, hc.1]
theorem wpList_ids_look {lit : K → Lit} (hg : o.guard = none) (m x : Operand) (t : TypeId) (hop : o.op = Op.lookup t m x true) (hi : ∀ a b, lit a = lit b → a = b) (hk : ∀ a, WideAt.IsKeyLit (lit a)) {k e : TypeId} {b n : Nat} {l : List K} (KK : Maps.Keyed P k) (ht : P.underlying t = some (.map k e)) (he : P.underlying e = some (.int .i64))
  (hz : (zeroValue e).run P w = .ok (.int .i64 0) w) (hm : a.eval m = .map (some b)) (hown : w.ownsMap P k (plainElem P e) b n (idsD lit l)) (hn : l.Nodup) (key : Value) (y : K) (hx : a.eval x = key) (hkey : keyOf P k key = some (lit y)) (c : Int) (bb : Bool) (hc : (if y ∈ l then (l.idxOf y : Int) else 0) = c) (hbb : decide (y ∈ l) = bb)
  (hK : wpList P ops Q rest (a.put o.dst (.tuple #[.int .i64 c, .bool bb])) w) : wpList P ops Q (o :: rest) a w := by
 refine wpList_plain hg fun K' hK' => ?_; have hrun := ids_look w hi hk hown KK ht he hz hn hkey; rw [hc, hbb] at hrun; unfold Oper.wp; simp [execOp, hop, hm, hx, hrun, Result.andThen]; exact hK' _ _ hK
omit [DecidableEq K] in
theorem wpList_ids_put {lit : K → Lit} (hg : o.guard = none) (m x v : Operand) (t : TypeId) (hop : o.op = Op.mapUpdate t m x v) {k e : TypeId} {b n : Nat} {l : List K} (KK : Maps.Keyed P k) (ht : P.underlying t = some (.map k e)) (he : P.underlying e = some (.int .i64))
  (hm : a.eval m = .map (some b)) (hown : w.ownsMap P k (plainElem P e) b n (idsD lit l)) (hn : n < maxLen) (key : Value) (y : K) (hx : a.eval x = key) (hkey : keyOf P k key = some (lit y)) (hv : a.eval v = .int .i64 (l.length : Int)) (hl : (l.length : Int) ≤ 9223372036854775807)
  (hK : ∀ w', w'.ownsMap P k (plainElem P e) b (n + 1) (idsD lit (l ++ [y])) → w.grownBy w' (some b) → wpList P ops Q rest (a.put o.dst undef) w') : wpList P ops Q (o :: rest) a w := by
 refine wpList_plain hg fun K' hK' => ?_; obtain ⟨w', hrun, r1, r2⟩ := hown.update KK ht hn hkey (plainElem_int he (WalkArith.wf_i64 ⟨by omega, hl⟩)); rw [← idsD_snoc] at r1; unfold Oper.wp; simp [execOp, hop, hm, hx, hv, hrun, Result.andThen]; exact hK' _ _ (hK w' r1 r2)
end
/-- A part: what is said of some blocks. -/
abbrev Part := (Nat → Prop) → World → Prop
structure POk (P : Part) : Prop where
 mono : ∀ {ok ok' : Nat → Prop} {W : World}, P ok W → (∀ k, ok k → ok' k) → P ok' W
 step : ∀ {ok : Nat → Prop} {W W1 : World}, P ok W → (∀ k, ok k → k < W.heap.size → W1.heap[k]? = W.heap[k]?) → P (fun k => ok k ∧ k < W.heap.size) W1
def rowP {α : Type} (d : Kd α) (e base : Nat) (v : Value) (xs : List α) : Part := fun ok W => d.R e W base ok v xs
def rowsP {α : Type} (d : Kd α) (e base : Nat) (v : Value) (xs : List α) : Part := fun ok W => Kd.S d e W base ok v xs
def blkP (g : Nat) (o : Obj) : Part := fun ok W => W.heap[g]? = some o ∧ ok g
theorem rowP_ok {α : Type} (d : Kd α) (e base : Nat) (v : Value) (xs : List α) : POk (rowP d e base v xs) :=
 ⟨fun h hk => Kd.R_mono h hk, fun h hm => Kd.R_step (Kd.R_mono (Kd.R_bound h) (fun k hk => ⟨hk.1, hk.2.2.1⟩)) (fun k hk hlt => hm k hk.1 hlt)⟩
theorem rowsP_ok {α : Type} (d : Kd α) (e base : Nat) (v : Value) (xs : List α) : POk (rowsP d e base v xs) :=
 ⟨fun h hk => Kd.S_mono h hk, fun h hm => Kd.S_step (Kd.S_mono (Kd.S_bound h) (fun k hk => ⟨hk.1, hk.2.2.1⟩)) (fun k hk hlt => hm k hk.1 hlt)⟩
theorem blkP_ok (g : Nat) (o : Obj) : POk (blkP g o) :=
 ⟨fun h hk => ⟨h.1, hk _ h.2⟩, fun h hm => ⟨(hm g h.2 (blk_lt h.1)).trans h.1, h.2, blk_lt h.1⟩⟩
/-- The parts with their numbers: own tells each block's number. -/
def Sep (own : Nat → Nat) (W : World) : List (Nat × Part) → Prop
 | [] => True
 | p :: ps => (POk p.2 ∧ p.2 (fun k => own k = p.1) W) ∧ Sep own W ps
section
variable {own : Nat → Nat} {W W1 : World} {ps : List (Nat × Part)} {t u i : Nat} {P P' : Part}
theorem Sep.get (h : Sep own W ps) (hi : ps[i]? = some (t, P)) : P (fun k => own k = t) W := by
 induction ps generalizing i with
 | nil => simp at hi
 | cons p ps ih =>
  cases i with
  | zero => simp at hi; subst hi; exact h.1.2
  | succ i => exact ih h.2 (by simpa using hi)
/-- What tag t has may change; there may be new blocks, of tag t. -/
theorem Sep.change (h : Sep own W ps) (hm : ∀ k, own k ≠ t → k < W.heap.size → W1.heap[k]? = W.heap[k]?) (ht : (ps.map Prod.fst).contains t = false) : Sep (retag own W.heap.size t) W1 ps := by
 induction ps with
 | nil => trivial
 | cons p ps ih =>
  simp only [List.map_cons, List.contains_cons, Bool.or_eq_false_iff] at ht; (have hne : p.1 ≠ t := fun e => by rw [e] at ht; simp at ht); refine ⟨⟨h.1.1, h.1.1.mono (h.1.1.step h.1.2 (fun k hk hlt => hm k (by rw [hk]; exact hne) hlt)) (fun k hk => ?_)⟩, ih h.2 ht.2⟩; rw [retag_lt hk.2]; exact hk.1
theorem Sep.below (h : Sep own W ps) (hb : Below W.heap.size W W1) : Sep own W1 ps := by
 induction ps with
 | nil => trivial
 | cons p ps ih => exact ⟨⟨h.1.1, h.1.1.mono (h.1.1.step h.1.2 (fun k _ hlt => hb.block k hlt)) (fun k hk => hk.1)⟩, ih h.2⟩
theorem Sep.fresh (h : Sep own W ps) (hb : Below W.heap.size W W1) (ht : (ps.map Prod.fst).contains t = false) : Sep (retag own W.heap.size t) W1 ps :=
 h.change (fun k _ hlt => hb.block k hlt) ht
theorem Sep.snoc (h : Sep own W ps) (hok : POk P) (hP : P (fun k => own k = t) W) : Sep own W (ps ++ [(t, P)]) := by
 induction ps with
 | nil => exact ⟨⟨hok, hP⟩, trivial⟩
 | cons p ps ih => exact ⟨h.1, ih h.2⟩
/-- A new part, of new blocks. -/
theorem Sep.new (h : Sep own W ps) (hb : Below W.heap.size W W1) (hok : POk P) (hP : P (fun k => W.heap.size ≤ k) W1) (ht : (ps.map Prod.fst).contains t = false) : Sep (retag own W.heap.size t) W1 (ps ++ [(t, P)]) :=
 (h.fresh hb ht).snoc hok (hok.mono hP (fun _ hk => yp0 hk))
theorem Sep.drop (h : Sep own W ps) (i : Nat) : Sep own W (ps.eraseIdx i) := by
 induction ps generalizing i with
 | nil => trivial
 | cons p ps ih =>
  cases i with
  | zero => exact h.2
  | succ i => exact ⟨h.1, ih h.2 i⟩
theorem Sep.rel (h : Sep own W ps) (f : Nat → Nat) (hf : ∀ p ∈ ps, f p.1 = p.1) : Sep (fun k => f (own k)) W ps := by
 induction ps with
 | nil => trivial
 | cons p ps ih =>
  refine ⟨⟨h.1.1, h.1.1.mono h.1.2 (fun k hk => ?_)⟩, ih h.2 (fun q hq => hf q (by simp [hq]))⟩; show f (own k) = p.1; rw [hk, hf p (by simp)]
/-- The numbers of blocks that are not there do not matter. -/
theorem Sep.under {own' : Nat → Nat} (h : Sep own W ps) (he : ∀ k, k < W.heap.size → own k = own' k) : Sep own' W ps := by
 induction ps with
 | nil => trivial
 | cons p ps ih => exact ⟨⟨h.1.1, h.1.1.mono (h.1.1.step h.1.2 (fun _ _ _ => rfl)) (fun k hk => by rw [← he k hk.2]; exact hk.1)⟩, ih h.2⟩
theorem contains_false {l : List Nat} {t : Nat} (h : l.contains t = false) : ∀ x ∈ l, x ≠ t := by
 intro x hx e; subst e; simp [hx] at h
/-- Part i is written (blocks of its tag alone, and new ones). -/
theorem Sep.put (h : Sep own W ps) (i : Nat) (hi : ps[i]? = some (t, P)) (hm : ∀ k, own k ≠ t → k < W.heap.size → W1.heap[k]? = W.heap[k]?) (hok : POk P') (hP : P' (fun k => retag own W.heap.size t k = t) W1) (hd : ((ps.eraseIdx i).map Prod.fst).contains t = false) :
  Sep (retag own W.heap.size t) W1 (ps.set i (t, P')) := by
 induction ps generalizing i with
 | nil => simp at hi
 | cons p ps ih =>
  cases i with
  | zero =>
   simp at hi; subst hi; exact ⟨⟨hok, hP⟩, h.2.change hm (by simpa using hd)⟩
  | succ i =>
   simp only [List.eraseIdx_cons_succ, List.map_cons, List.contains_cons, Bool.or_eq_false_iff] at hd; refine ⟨(Sep.change (ps := [p]) ⟨h.1, trivial⟩ hm (by simpa using hd.1)).1, ih h.2 i (by simpa using hi) hd.2⟩
/-- .. and takes in blocks of tag u, which is nobody's any more. -/
theorem Sep.put2 (h : Sep own W ps) (i : Nat) (hi : ps[i]? = some (t, P)) (hm : ∀ k, own k ≠ t → k < W.heap.size → W1.heap[k]? = W.heap[k]?) (hok : POk P') (hP : P' (fun k => retag own W.heap.size t k = t ∨ retag own W.heap.size t k = u) W1) (hd : ((ps.eraseIdx i).map Prod.fst).contains t = false) (hu : (ps.map Prod.fst).contains u = false) :
  Sep (fun k => if retag own W.heap.size t k = u then t else retag own W.heap.size t k) W1 (ps.set i (t, P')) := by
 have htu : t ≠ u := contains_false hu t (List.mem_map.2 ⟨(t, P), List.mem_of_getElem? hi, rfl⟩)
 induction ps generalizing i with
 | nil => simp at hi
 | cons p ps ih =>
  simp only [List.map_cons, List.contains_cons, Bool.or_eq_false_iff] at hu
  have key : ∀ (qs : List (Nat × Part)), Sep own W qs → (qs.map Prod.fst).contains t = false → (qs.map Prod.fst).contains u = false → Sep (fun k => if retag own W.heap.size t k = u then t else retag own W.heap.size t k) W1 qs := by
   intro qs hq h1 h2; refine (hq.change hm h1).rel (fun x => if x = u then t else x) (fun q hq' => ?_); rw [if_neg (contains_false h2 q.1 (List.mem_map_of_mem hq'))]
  cases i with
  | zero =>
   simp at hi; subst hi; refine ⟨⟨hok, hok.mono hP (fun k hk => ?_)⟩, key ps h.2 (by simpa using hd) hu.2⟩; show (if retag own W.heap.size t k = u then t else retag own W.heap.size t k) = t
   rcases hk with hk | hk
   ·rw [hk, if_neg htu]
   ·rw [if_pos hk]
  | succ i =>
   simp only [List.eraseIdx_cons_succ, List.map_cons, List.contains_cons, Bool.or_eq_false_iff] at hd; exact ⟨(key [p] ⟨h.1, trivial⟩ (by simpa using hd.1) (by simpa using hu.1)).1, ih h.2 i (by simpa using hi) hd.2 hu.2⟩
theorem same_grown {row : Option Nat} (hg : W.grownBy W1 row) (hr : ∀ k, row = some k → own k = t) : ∀ k, own k ≠ t → k < W.heap.size → W1.heap[k]? = W.heap[k]? :=
 fun k hk hlt => hg.block k hlt (fun e => hk (hr k e.symm))
theorem same_set {p : Addr} (hp : own p.block = t) (x : Value) : ∀ k, own k ≠ t → k < W.heap.size → (W.setCell p x).heap[k]? = W.heap[k]? :=
 fun k hk _ => Below.heap_setCell W p x k (fun e => hk (e ▸ hp))
end
section
variable {α : Type} {d : Kd α} {e base : Nat} {v : Value} {xs : List α} {W W1 : World} {own : Nat → Nat} {ps : List (Nat × Part)} {t i : Nat}
/-- An element of a row of numbers is stored. -/
theorem Sep.setInt {base : Nat} {e g n c : Nat} {xs : List Int} (h : Sep own W ps) (i : Nat) (hi : ps[i]? = some (t, rowP (Kd.int .i64) e base (.slice (some ⟨g, 0, none⟩) n c) xs)) (j x : Int) (hd : ((ps.eraseIdx i).map Prod.fst).contains t = false) :
  Sep own (W.setCell ⟨g, j.toNat, none⟩ (.int .i64 x)) (ps.set i (t, rowP (Kd.int .i64) e base (.slice (some ⟨g, 0, none⟩) n c) (xs.set j.toNat x))) := by
 have hR := h.get hi; obtain ⟨rfl, -, -⟩ := Kd.yg0 hR; have hg : own g = t := hR.1 g rfl; obtain ⟨hR2, -⟩ := Kd.R_put hR j x
 have hR3 : (Kd.int .i64).R e (W.setCell ⟨g, j.toNat, none⟩ (.int .i64 x)) base (fun k => retag own W.heap.size t k = t) (.slice (some ⟨g, 0, none⟩) xs.length c) (xs.set j.toNat x) := by
  have h_ := R_tag (s := t) hR2 t
  rwa [show (W.setCell ⟨g, j.toNat, none⟩ (.int .i64 x)).heap.size = W.heap.size by simp] at h_
 have h2 := h.put (W1 := W.setCell ⟨g, j.toNat, none⟩ (.int .i64 x)) i hi (P' := rowP (Kd.int .i64) e base (.slice (some ⟨g, 0, none⟩) xs.length c) (xs.set j.toNat x)) (same_set (p := ⟨g, j.toNat, none⟩) hg _) (rowP_ok _ _ _ _ _) hR3 hd; exact h2.under (fun k hlt => by simp at hlt; exact retag_lt hlt)
end
theorem below_of_grown {W W1 : World} (hg : W.grownBy W1 none) : Below W.heap.size W W1 := ⟨hg.os, hg.tape, hg.output, hg.size, fun k hk => hg.block k hk (by simp)⟩
/-- A number stored in a row of numbers, and a cell read. -/
theorem Sep.int {own : Nat → Nat} {W : World} {ps : List (Nat × Part)} {t : Nat} {base e : Nat} {v : Value} {xs : List Int} (h : Sep own W ps) (i : Nat) (hi : ps[i]? = some (t, rowP (Kd.int .i64) e base v xs)) (j : Int) (h0 : 0 ≤ j) (h1 : j < (xs.length : Int)) :
  ∃ g c, v = .slice (some ⟨g, 0, none⟩) xs.length c ∧ W.cell? ⟨g, j.toNat, none⟩ = some (.int .i64 (rd xs j)) ∧ W.frozen? ⟨g, j.toNat, none⟩ = false := by
 have hR := h.get hi; obtain ⟨g, c, rfl, _⟩ := Kd.R_form hR (by omega); obtain ⟨a, b⟩ := Kd.R_cell (0 : Int) hR j h0 h1; exact ⟨g, c, rfl, a, b⟩
/-- An empty row, not nil. -/
theorem R_empty {α : Type} (d : Kd α) (e base : Nat) (W : World) (ok : Nat → Prop) (hb : base ≤ W.heap.size) (hok : ok W.heap.size) : d.R e (W.alloc (.cells #[] e)) base ok (.slice (some ⟨W.heap.size, 0, none⟩) 0 0) [] := by
 refine ⟨fun k hk => ?_, [], ?_, ?_⟩
 ·(have : W.heap.size = k := by simpa [Value.ownBlock] using hk); subst this; exact hok
 ·have h2 := World.ownsRow_lit (base := base) (e := e) (size := d.sz) W #[] 0 hb (by simp [maxLen]) (by simp)
  simpa using h2
 ·exact ⟨by simp, fun j p hj => by simp at hj⟩
/-- A row was appended to. -/
theorem Sep.appended {α : Type} {d : Kd α} {e base : Nat} {v v1 : Value} {xs xs1 : List α} {W W1 : World} {own : Nat → Nat} {ps : List (Nat × Part)} {t : Nat} (h : Sep own W ps) (i : Nat) (hi : ps[i]? = some (t, rowP d e base v xs)) (ho : d.R e W1 base (fun k => retag own W.heap.size t k = t) v1 xs1) (hg : W.grownBy W1 v.ownBlock) (hd : ((ps.eraseIdx i).map Prod.fst).contains t = false) :
  Sep (retag own W.heap.size t) W1 (ps.set i (t, rowP d e base v1 xs1)) :=
 h.put i hi (same_grown hg (fun k hk => (h.get hi).1 k hk)) (rowP_ok d e base v1 xs1) ho hd
theorem Sep.rowTag {α : Type} {d : Kd α} {e base : Nat} {v : Value} {xs : List α} {W : World} {own : Nat → Nat} {ps : List (Nat × Part)} {t : Nat} (h : Sep own W ps) (i : Nat) (hi : ps[i]? = some (t, rowP d e base v xs)) : d.R e W base (fun k => retag own W.heap.size t k = t) v xs := R_tag (s := t) (h.get hi) t
/-- A cell of a block is stored. -/
theorem Sep.setBlk {own : Nat → Nat} {W : World} {ps : List (Nat × Part)} {t g T : Nat} {cs cs' : Array Value} (h : Sep own W ps) (i : Nat) (hi : ps[i]? = some (t, blkP g (.cells cs T (0, 0)))) (j : Nat) (v : Value) (hcs : cs.setIfInBounds j v = cs') (hd : ((ps.eraseIdx i).map Prod.fst).contains t = false) :
  Sep own (W.setCell ⟨g, j, none⟩ v) (ps.set i (t, blkP g (.cells cs' T (0, 0)))) := by
 obtain ⟨hb, hg⟩ := h.get hi; have h2 := h.put (W1 := W.setCell ⟨g, j, none⟩ v) i hi (P' := blkP g (.cells cs' T (0, 0))) (same_set (p := ⟨g, j, none⟩) hg v) (blkP_ok _ _) ⟨by rw [← hcs]; exact blk_set hb j v, (retag_lt (blk_lt hb)).trans hg⟩ hd; exact h2.under (fun k hlt => by simp at hlt; exact retag_lt hlt)
/-- A row was put behind rows: its blocks (tag u) are the rows' now. -/
theorem Sep.appendedRows {α : Type} {d : Kd α} {e base : Nat} {v v1 : Value} {xs xs1 : List α} {W W1 : World} {own : Nat → Nat} {ps : List (Nat × Part)} {t u : Nat} (h : Sep own W ps) (i : Nat) (hi : ps[i]? = some (t, rowsP d e base v xs)) (ho : Kd.S d e W1 base (fun k => retag own W.heap.size t k = t ∨ retag own W.heap.size t k = u) v1 xs1) (hg : W.grownBy W1 v.ownBlock) (hd : ((ps.eraseIdx i).map Prod.fst).contains t = false) (hu : (ps.map Prod.fst).contains u = false) :
  Sep (fun k => if retag own W.heap.size t k = u then t else retag own W.heap.size t k) W1 (ps.set i (t, rowsP d e base v1 xs1)) :=
 h.put2 i hi (same_grown hg (fun k hk => (Kd.S_R (h.get hi)).1 k hk)) (rowsP_ok d e base v1 xs1) ho hd hu
theorem Sep.rowsTag {α : Type} {d : Kd α} {e base : Nat} {v : Value} {xs : List α} {W : World} {own : Nat → Nat} {ps : List (Nat × Part)} {t u : Nat} (h : Sep own W ps) (i : Nat) (hi : ps[i]? = some (t, rowsP d e base v xs)) (htu : t ≠ u) : Kd.S d e W base (fun k => (retag own W.heap.size t k = t ∨ retag own W.heap.size t k = u) ∧ ¬ retag own W.heap.size t k = u) v xs :=
 Kd.S_mono (S_tagged (s := t) (h.get hi) t) (fun k hk => ⟨Or.inl hk, by rw [hk]; exact htu⟩)
theorem Sep.rowTag2 {α : Type} {d : Kd α} {e base : Nat} {v : Value} {xs : List α} {W : World} {own : Nat → Nat} {ps : List (Nat × Part)} {t : Nat} (h : Sep own W ps) (i : Nat) (hi : ps[i]? = some (t, rowP d e base v xs)) (u : Nat) : d.R e W base (fun k => retag own W.heap.size u k = t) v xs := R_tag (s := t) (h.get hi) u
def rowAt (xs : List (List Int)) (a : Int) : List Int := xs.getD a.toNat []
theorem rows_cell {e e2 base : Nat} {W : World} {ok : Nat → Prop} {v : Value} {xs : List (List Int)} (h : Kd.S (Kd.slice e (Kd.int .i64)) e2 W base ok v xs) (a : Int) (a0 : 0 ≤ a) (a1 : a < (xs.length : Int)) :
  ∃ g c v2, v = .slice (some ⟨g, 0, none⟩) xs.length c ∧ W.cell? ⟨g, a.toNat, none⟩ = some v2 ∧ (∃ A2 c2, v2 = .slice A2 (rowAt xs a).length c2) ∧
   ∀ b : Int, 0 ≤ b → b < ((rowAt xs a).length : Int) → ∃ g2 c2, v2 = .slice (some ⟨g2, 0, none⟩) (rowAt xs a).length c2 ∧ W.cell? ⟨g2, b.toNat, none⟩ = some (.int .i64 (rd (rowAt xs a) b)) ∧ W.frozen? ⟨g2, b.toNat, none⟩ = false ∧ ok g2 ∧ base ≤ g2 ∧
    ∀ x : Int, Kd.S (Kd.slice e (Kd.int .i64)) e2 (W.setCell ⟨g2, b.toNat, none⟩ (.int .i64 x)) base ok v (xs.set a.toNat ((rowAt xs a).set b.toNat x)) := by
 obtain ⟨g, cap, hu, _⟩ := Kd.S_form h (by omega); subst hu; obtain ⟨oki, c, hcl, hM, hcc, hoki, hH⟩ := Kd.S_lend h [] a a0 a1; obtain ⟨vi, rfl, hR⟩ := hM; have hx := hcc 0 _ rfl; simp only [show (Kd.slice e (Kd.int .i64)).sz = 1 from rfl, Nat.mul_one, Nat.add_zero] at hx; obtain ⟨Ai, ci, hvi⟩ := Kd.zk0 hR; refine ⟨g, cap, vi, rfl, hx, ⟨Ai, ci, hvi⟩, fun b b0 b1 => ?_⟩; obtain ⟨g2, c2, hv2, hb2, _⟩ := Kd.R_form hR (by show 0 < (rowAt xs a).length; omega); subst hv2; obtain ⟨h1, h2⟩ := Kd.R_cell (0 : Int) hR b b0 b1; have hg2 := hR.1 g2 rfl; refine ⟨g2, c2, rfl, h1, h2, (hoki g2 hg2).1, hb2, fun x => ?_⟩; obtain ⟨hR2, -⟩ := Kd.R_put hR b x
 have hR3 : (Kd.int .i64).R e (W.setCell ⟨g2, b.toNat, none⟩ (.int .i64 x)) base oki (.slice (some ⟨g2, 0, none⟩) ((rowAt xs a).set b.toNat x).length c2) ((rowAt xs a).set b.toNat x) := by
  rw [List.length_set]; exact hR2
 refine Kd.H_back (x' := (rowAt xs a).set b.toNat x) (okp := oki) (Kd.H_step hH (fun k _ hn _ => Below.heap_setCell W _ _ k (fun e_ => hn (by rw [show k = g2 from e_]; exact hg2)))) ⟨_, ?_, hR3⟩ (fun k hk => hk); rw [List.length_set]; rfl
theorem Sep.setRows {own : Nat → Nat} {W : World} {ps : List (Nat × Part)} {t base e e2 : Nat} {v : Value} {xs xs' : List (List Int)} (h : Sep own W ps) (i : Nat) (hi : ps[i]? = some (t, rowsP (Kd.slice e (Kd.int .i64)) e2 base v xs)) {p : Addr} {u : Value} (hp : own p.block = t) (hS : Kd.S (Kd.slice e (Kd.int .i64)) e2 (W.setCell p u) base (fun k => own k = t) v xs') (hd : ((ps.eraseIdx i).map Prod.fst).contains t = false) :
  Sep own (W.setCell p u) (ps.set i (t, rowsP (Kd.slice e (Kd.int .i64)) e2 base v xs')) := by
 have h3 : Kd.S (Kd.slice e (Kd.int .i64)) e2 (W.setCell p u) base (fun k => retag own W.heap.size t k = t) v xs' := by
  have h_ := S_tagged (s := t) hS t
  rwa [show (W.setCell p u).heap.size = W.heap.size by simp] at h_
 have h2 := h.put (W1 := W.setCell p u) i hi (P' := rowsP (Kd.slice e (Kd.int .i64)) e2 base v xs') (same_set hp u) (rowsP_ok _ _ _ _ _) h3 hd; exact h2.under (fun k hlt => by simp at hlt; exact retag_lt hlt)
theorem told_size (w : World) (o : Obj) : (w.alloc o).heap.size = w.heap.size + 1 := by show (w.heap.push o).size = _; exact Array.size_push ..
theorem told_calls (w : World) (t s : Int) (A2 : Option Addr) (n2 c2 : Nat) (A3 : Option Addr) (n3 c3 : Nat) :
  Calls Tryd.prog 63 #[.agg #[.int .i64 t, .int .i64 s, .slice A2 n2 c2, .slice A3 n3 c3]] w fun e w' =>
   e = .returned (.tuple (if n2 ≤ 150 then #[.agg #[.int .i64 t, .int .i64 s, .slice A2 n2 c2, .slice A3 n3 c3], .int .i64 0] else #[.agg #[.int .i64 0, .int .i64 0, .slice none 0 0, .slice none 0 0], .int .i64 3])) ∧ Below w.heap.size w w' := by
 have hu := Tryd.underlying29; have HB := am (Below.refl w.heap.size w); by_cases c : n2 ≤ 150
 ·rw [if_pos c]; have c2b0 : decide (150 < (n2 : Int)) = false := decide_eq_false (by omega); have c2b1 : decide (150 < n2) = false := decide_eq_false (by omega); go_enter Tryd.func63, Tryd.ntmps63; go_wp2; refine bodyPost_ret (results_ct rfl _ _ (w.heap.size + 1) 29 #[.int .i64 t, .int .i64 s, .slice A2 n2 c2, .slice A3 n3 c3] (0, 0) _ rfl ?_ Tryd.underlying29 rfl (by kernel_rfl)) rfl ?_
  ·have := yb0 (w.alloc (.cells #[.int .i64 t, .int .i64 s, .slice A2 n2 c2, .slice A3 n3 c3] 29)) (.cells #[.int .i64 t, .int .i64 s, .slice A2 n2 c2, .slice A3 n3 c3] 29); rw [told_size] at this; exact this
  ·exact ⟨rfl, zn0 (zn0 HB.out _) _⟩
 ·rw [if_neg c]; have c2b0 : decide (150 < (n2 : Int)) = true := decide_eq_true (by omega); have c2b1 : decide (150 < n2) = true := decide_eq_true (by omega); go_enter Tryd.func63, Tryd.ntmps63; go_wp2; refine bodyPost_ret (results_ct rfl _ _ (w.heap.size + 1) 29 #[.int .i64 0, .int .i64 0, .slice none 0 0, .slice none 0 0] (0, 0) _ rfl ?_ Tryd.underlying29 rfl (by kernel_rfl)) rfl ?_
  ·have := yb0 (w.alloc (.cells #[.int .i64 t, .int .i64 s, .slice A2 n2 c2, .slice A3 n3 c3] 29)) (.cells #[.int .i64 0, .int .i64 0, .slice none 0 0, .slice none 0 0] 29); rw [told_size] at this; exact this
  ·exact ⟨rfl, zn0 (zn0 HB.out _) _⟩
theorem markRelation_calls (k : Nat) (t s : Int) (Pa Pb : Nat → Prop) (va vb : Value) (l2 : List Bool) (l3 : List (List Int)) (a1 r1 r : Int) (r2 : List Bool) (r3 : List (List Int)) (w0 w : World) (hB : Below w0.heap.size w0 w)
  (ha : Kd.R Kd.bool 4 w w0.heap.size Pa va l2) (hb : Kd.S (Kd.slice 2 (Kd.int .i64)) 42 w w0.heap.size Pb vb l3) (hd : ∀ k, Pa k → ¬ Pb k)
  (h1 : laws_markBoolS.f k l2 a1 = some (r1, r2)) (h2 : laws_markInt64SS.f k l3 r1 = some (r, r3)) :
  Calls Tryd.prog 22 #[.agg #[.int .i64 t, .int .i64 s, va, vb], .int .i64 a1] w fun e w' =>
   e = .returned (.int .i64 r) ∧ Kd.R Kd.bool 4 w' w0.heap.size (fun k => Pa k ∨ w.heap.size ≤ k) va r2 ∧ Kd.S (Kd.slice 2 (Kd.int .i64)) 42 w' w0.heap.size (fun k => Pb k ∨ w.heap.size ≤ k) vb r3 ∧ Below w0.heap.size w0 w' ∧ Kept w w' (fun k => Pa k ∨ Pb k) := by
 obtain ⟨A2, c2, e2⟩ := Kd.zk0 ha; subst e2; obtain ⟨A3, c3, e3⟩ := Kd.zr0 hb; subst e3; have hz : ∀ o : Obj, (w.alloc o).heap.size = w.heap.size + 1 := fun o => told_size w o; have ha' := am (Kd.R_mono (Kd.R_bound ha) (ok' := fun k => Pa k ∧ k < w.heap.size) (fun k hk => ⟨hk.1, hk.2.2.1⟩)); have hb' := am (Kd.S_mono (Kd.S_bound hb) (ok' := fun k => Pb k ∧ k < w.heap.size) (fun k hk => ⟨hk.1, hk.2.2.1⟩)); have HB := am hB; have H1 := am h1; have H2 := am h2; clear ha hb hB h1 h2; go_enter Tryd.func22, Tryd.ntmps22
 go_wp2_with (fail)
 have BK := yb0 w (.cells #[.int .i64 t, .int .i64 s, .slice A2 l2.length c2, .slice A3 l3.length c3] 29); (with_reducible refine (laws_markBoolS.calls k (fun k => Pa k ∧ k < w.heap.size) _ l2 a1 r1 r2 w0 _ (zn0 HB.out _) (Kd.R_alloc ha'.out _) H1.out).mono ?_); rintro e w2 ⟨rfl, hR, hB2, hK⟩; (have hsz : w.heap.size + 1 ≤ w2.heap.size := by have := hK.1; rw [hz] at this; exact this); have BK2 : w2.heap[w.heap.size]? = _ := (hK.2 w.heap.size (by rw [hz]; omega) (fun h => by have := h.2; omega)).trans BK; have HC0 : w2.cell? ⟨w.heap.size, 3, none⟩ = some (.slice A3 l3.length c3) := (za0 BK2 3).trans rfl; have HS2 := am (Kd.S_kept (Kd.S_alloc hb'.out _) hK (fun k hk hk2 => hd k hk2.1 hk.1)); have HR2 := am hR; have HB2 := am hB2; have HK2 := am (show Kept w w2 (fun k => Pa k ∧ k < w.heap.size) from ⟨by omega, fun i hi hn => (hK.2 i (by rw [hz]; omega) hn).trans (Below.heap_alloc w _ i hi)⟩); clear BK BK2 hR hB2 hK
 go_wp2_with (fail)
 (with_reducible refine (laws_markInt64SS.calls k (fun k => Pb k ∧ k < w.heap.size) _ l3 r1 r r3 w0 w2 HB2.out HS2.out H2.out).mono ?_); rintro e w3 ⟨rfl, hS, hB3, hK⟩; have HR3 := am (Kd.R_kept (Kd.R_mono (Kd.R_bound HR2.out) (ok' := fun k => (Pa k ∨ w.heap.size ≤ k)) (fun k hk => by rcases hk.1 with h | h; exact .inl h.1; exact .inr (by rw [hz] at h; omega))) hK (fun k hk hk2 => by rcases hk with h | h; exact hd k h hk2.1; have := hk2.2; omega)); have HS3 := am (Kd.S_mono hS (ok' := fun k => Pb k ∨ w.heap.size ≤ k) (fun k hk => by rcases hk with h | h; exact .inl h.1; exact .inr (by omega))); have HB3 := am hB3; have HK3 := am (show Kept w w3 (fun k => Pa k ∨ Pb k) from ⟨by have := hK.1; omega, fun i hi hn => (hK.2 i (by omega) (fun h => hn (.inr h.1))).trans (HK2.out.2 i hi (fun h => hn (.inl h.1)))⟩); clear hS hB3 hK; go_wp2; go_ret; exact ⟨rfl, HR3.out, HS3.out, HB3.out, HK3.out⟩
/-- The rows of a relation: the marks' block and the rows' blocks are apart, and lie from lo below hi. -/
def RelOwn (W : World) (base lo hi : Nat) (va vb : Value) (l2 : List Bool) (l3 : List (List Int)) : Prop :=
 ∃ Pa Pb : Nat → Prop, Kd.R Kd.bool 4 W base Pa va l2 ∧ Kd.S (Kd.slice 2 (Kd.int .i64)) 42 W base Pb vb l3 ∧ (∀ k, Pa k → ¬ Pb k) ∧ ∀ k, Pa k ∨ Pb k → lo ≤ k ∧ k < hi
theorem RelOwn.mk_ {W : World} {base B : Nat} {va vb : Value} {l2 : List Bool} {l3 : List (List Int)} (hb : base ≤ B) (hR : Kd.R Kd.bool 4 W B (fun _ => True) va l2) (hS : Kd.S (Kd.slice 2 (Kd.int .i64)) 42 W B (fun _ => True) vb l3) : RelOwn W base B W.heap.size va vb l2 l3 := by
 refine ⟨_, _, Kd.yn0 (Kd.R_bound hR) hb, Kd.xf0 (Kd.S_bound hS) hb, ?_, ?_⟩
 ·rintro k ⟨_, _, _, q, hq, c, hc⟩ ⟨_, _, _, q2, hq2, c2, hc2⟩; rw [hc] at hc2; (have hqq : q = q2 := by injection hc2 with h; injection h); subst hqq
  revert hq hq2
  simp [Kd.bool, Kd.slice, Kd.int, Kd.scalar]
  try omega
 ·rintro k (h | h)
  ·exact ⟨h.2.1, h.2.2.1⟩
  ·exact ⟨h.2.1, h.2.2.1⟩
theorem RelOwn.below {W W1 : World} {base lo hi : Nat} {va vb : Value} {l2 : List Bool} {l3 : List (List Int)} (h : RelOwn W base lo hi va vb l2 l3) (hb : Below W.heap.size W W1) : RelOwn W1 base lo hi va vb l2 l3 := by
 obtain ⟨Pa, Pb, h1, h2, h3, h4⟩ := h; exact ⟨Pa, Pb, Kd.zu0 h1 hb, Kd.yv0 h2 hb, h3, h4⟩
theorem RelOwn.kept {W W1 : World} {S : Nat → Prop} {base lo hi : Nat} {va vb : Value} {l2 : List Bool} {l3 : List (List Int)} (h : RelOwn W base lo hi va vb l2 l3) (hk : Kept W W1 S) (hS : ∀ k, lo ≤ k → k < hi → ¬ S k) : RelOwn W1 base lo hi va vb l2 l3 := by
 obtain ⟨Pa, Pb, h1, h2, h3, h4⟩ := h; exact ⟨Pa, Pb, Kd.R_kept h1 hk (fun k hp => hS k (h4 k (.inl hp)).1 (h4 k (.inl hp)).2), Kd.S_kept h2 hk (fun k hp => hS k (h4 k (.inr hp)).1 (h4 k (.inr hp)).2), h3, h4⟩
/-- 'markRelation' on a relation in its own stretch of the heap. -/
theorem RelOwn.mark {lo hi : Nat} (k : Nat) (t s : Int) (va vb : Value) (l2 : List Bool) (l3 : List (List Int)) (a1 r1 r : Int) (r2 : List Bool) (r3 : List (List Int)) (w0 w : World) (hB : Below w0.heap.size w0 w) (h : RelOwn w w0.heap.size lo hi va vb l2 l3) (hlo : lo ≤ w.heap.size)
  (h1 : laws_markBoolS.f k l2 a1 = some (r1, r2)) (h2 : laws_markInt64SS.f k l3 r1 = some (r, r3)) :
  Calls Tryd.prog 22 #[.agg #[.int .i64 t, .int .i64 s, va, vb], .int .i64 a1] w fun e w' =>
   e = .returned (.int .i64 r) ∧ RelOwn w' w0.heap.size lo w'.heap.size va vb r2 r3 ∧ Below w0.heap.size w0 w' ∧ Kept w w' (fun k => lo ≤ k ∧ k < hi) := by
 obtain ⟨Pa, Pb, ha, hb, hd, hi_⟩ := h; have hb0 := Kd.S_mono (Kd.S_bound hb) (ok' := fun k => Pb k ∧ k < w.heap.size) (fun k hk => ⟨hk.1, hk.2.2.1⟩); have ha0 := Kd.R_mono (Kd.R_bound ha) (ok' := fun k => Pa k ∧ k < w.heap.size) (fun k hk => ⟨hk.1, hk.2.2.1⟩); refine (markRelation_calls k t s _ _ va vb l2 l3 a1 r1 r r2 r3 w0 w hB ha0 hb0 (fun k h1 h2 => hd k h1.1 h2.1) h1 h2).mono ?_; rintro e w' ⟨rfl, hR, hS, hB', hK⟩; refine ⟨rfl, ?_, hB', hK.mono (fun k hk => by rcases hk with h | h; exact hi_ k (.inl h.1); exact hi_ k (.inr h.1))⟩; have hR' := Kd.R_bound hR; have hS' := Kd.S_bound hS; refine ⟨_, _, hR', hS', ?_, ?_⟩
 ·rintro k ⟨_, _, _, q, hq, c, hc⟩ ⟨_, _, _, q2, hq2, c2, hc2⟩; rw [hc] at hc2; (have hqq : q = q2 := by injection hc2 with h; injection h); subst hqq
  revert hq hq2
  simp [Kd.bool, Kd.slice, Kd.int, Kd.scalar]
  try omega
 ·rintro k (h | h)
  ·refine ⟨?_, h.2.2.1⟩
   rcases h.1 with h | h
   ·exact (hi_ k (.inl h.1)).1
   ·omega
  ·refine ⟨?_, h.2.2.1⟩
   rcases h.1 with h | h
   ·exact (hi_ k (.inr h.1)).1
   ·omega
theorem RelOwn.reads {W : World} {base lo hi : Nat} {A2 A3 : Option Addr} {c2 c3 : Nat} {l2 : List Bool} {l3 : List (List Int)} (h : RelOwn W base lo hi (.slice A2 l2.length c2) (.slice A3 l3.length c3) l2 l3) :
  Kd.C Kd.bool W A2 l2.length l2 ∧ l2.length ≤ c2 ∧ Kd.C (Kd.slice 2 (Kd.int .i64)) W A3 l3.length l3 ∧ l3.length ≤ c3 := by
 obtain ⟨Pa, Pb, h1, h2, _, _⟩ := h; exact ⟨(Kd.yg0 h1).2.2, (Kd.yg0 h1).2.1, (Kd.S_reads' h2).2.2, (Kd.S_reads' h2).2.1⟩
theorem RelOwn.reads' {W : World} {base lo hi n2 n3 : Nat} {A2 A3 : Option Addr} {c2 c3 : Nat} {l2 : List Bool} {l3 : List (List Int)} (h : RelOwn W base lo hi (.slice A2 n2 c2) (.slice A3 n3 c3) l2 l3) :
  n2 = l2.length ∧ n3 = l3.length ∧ Kd.C Kd.bool W A2 l2.length l2 ∧ l2.length ≤ c2 ∧ Kd.C (Kd.slice 2 (Kd.int .i64)) W A3 l3.length l3 ∧ l3.length ≤ c3 := by
 obtain ⟨Pa, Pb, h1, h2, _, _⟩ := h; obtain ⟨rfl, a1, a2⟩ := Kd.yg0 h1; obtain ⟨rfl, b1, b2⟩ := Kd.S_reads' h2; exact ⟨rfl, rfl, a2, a1, b2, b1⟩
/-- A relation that was handed back to be read: its blocks lie in a stretch of the heap. -/
def RelRd (W : World) (base lo hi : Nat) (va vb : Value) (l2 : List Bool) (l3 : List (List Int)) : Prop :=
 ∃ Pa Pb : Nat → Prop, Kd.R Kd.bool 4 W base Pa va l2 ∧ Kd.N (Kd.slice 2 (Kd.int .i64)) 42 W base Pb vb l3 ∧ ∀ k, Pa k ∨ Pb k → lo ≤ k ∧ k < hi
theorem RelRd.mk_ {W : World} {base B : Nat} {va vb : Value} {l2 : List Bool} {l3 : List (List Int)} {okA okB : Nat → Prop} (hb : base ≤ B) (hR : Kd.R Kd.bool 4 W B okA va l2) (hN : Kd.N (Kd.slice 2 (Kd.int .i64)) 42 W B okB vb l3) (hB : ∀ k, okB k → B ≤ k) : RelRd W base B W.heap.size va vb l2 l3 := by
 refine ⟨_, _, Kd.yn0 (Kd.R_bound hR) hb, Kd.N_lower (Kd.N_bound hN) hb, ?_⟩; rintro k (h | h)
 ·exact ⟨h.2.1, h.2.2.1⟩
 ·exact ⟨hB k h.1, h.2⟩
theorem RelRd.below {W W1 : World} {base lo hi : Nat} {va vb : Value} {l2 : List Bool} {l3 : List (List Int)} (h : RelRd W base lo hi va vb l2 l3) (hb : Below W.heap.size W W1) : RelRd W1 base lo hi va vb l2 l3 := by
 obtain ⟨Pa, Pb, h1, h2, h4⟩ := h; exact ⟨Pa, Pb, Kd.zu0 h1 hb, Kd.N_below h2 hb, h4⟩
theorem RelRd.kept {W W1 : World} {S : Nat → Prop} {base lo hi : Nat} {va vb : Value} {l2 : List Bool} {l3 : List (List Int)} (h : RelRd W base lo hi va vb l2 l3) (hk : Kept W W1 S) (hS : ∀ k, lo ≤ k → k < hi → ¬ S k) : RelRd W1 base lo hi va vb l2 l3 := by
 obtain ⟨Pa, Pb, h1, h2, h4⟩ := h; exact ⟨Pa, Pb, Kd.R_kept h1 hk (fun k hp => hS k (h4 k (.inl hp)).1 (h4 k (.inl hp)).2), Kd.N_kept h2 hk (fun k hp => hS k (h4 k (.inr hp)).1 (h4 k (.inr hp)).2), h4⟩
theorem RelRd.reads {W : World} {base lo hi : Nat} {A2 A3 : Option Addr} {c2 c3 : Nat} {l2 : List Bool} {l3 : List (List Int)} (h : RelRd W base lo hi (.slice A2 l2.length c2) (.slice A3 l3.length c3) l2 l3) :
  Kd.C Kd.bool W A2 l2.length l2 ∧ l2.length ≤ c2 ∧ Kd.C (Kd.slice 2 (Kd.int .i64)) W A3 l3.length l3 ∧ l3.length ≤ c3 := by
 obtain ⟨Pa, Pb, h1, h2, _⟩ := h; exact ⟨(Kd.yg0 h1).2.2, (Kd.yg0 h1).2.1, (Kd.N_reads' h2).2.2, (Kd.N_reads' h2).2.1⟩
def yt0.f (a0 : Int) (a1 : Int) (a2 : Int) : Option (Bool) := if a0 ≥ a1 then (some (decide (a0 ≤ a2))) else (some false)
theorem yt0.calls (a0 : Int) (a1 : Int) (a2 : Int) (r : Bool) (w : World) (h : yt0.f a0 a1 a2 = some r) :
  Calls Tryd.prog 74 #[.int .i64 a0, .int .i64 a1, .int .i64 a2] w fun e w' => e = .returned (.bool r) ∧ Drawn0 w w' := by
 have H : (if a0 ≥ a1 then (some (decide (a0 ≤ a2))) else (some false)) = some r := h; clear h; by_cases c4 : a0 ≥ a1
 ·rw [if_pos c4] at H; have c4b0 : decide (a1 ≤ a0) = true := decide_eq_true c4; clear c4; obtain rfl := Option.some.inj H; go_enter Tryd.func74, Tryd.ntmps74; go_wp2; go_ret; exact ⟨tF, tD⟩
 ·rw [if_neg c4] at H; have c4b0 : decide (a1 ≤ a0) = false := decide_eq_false c4; clear c4; obtain rfl := Option.some.inj H; go_enter Tryd.func74, Tryd.ntmps74; go_wp2; go_ret; exact ⟨tF, tD⟩
def zx0.l0 : Nat → Int → Int → Option (Int)
 | 0, _, _ => none
 | k + 1, x0, x3 => if x0 > 0 then (zx0.l0 k (wrap64 (x0 - 1)) (wrap64 (3 * x3))) else (some x3)
def zx0.f (k : Nat) (a0 : Int) : Option (Int) := zx0.l0 k a0 1
theorem zx0.mono_l : ∀ k, (∀ y0 y1, LeO (zx0.l0 k y0 y1) (zx0.l0 (k + 1) y0 y1))
 | 0 => fun _ _ r h => by simp [zx0.l0] at h
 | k + 1 => by
  have ih0 := zx0.mono_l k
  ·intro y0 y1; unfold zx0.l0
   repeat' first
   | (with_reducible exact ih0 _ _)
   | (with_reducible exact LeO.refl _)
   | (with_reducible exact LeO.none _)
   | (with_reducible refine LeO.ite ?_ ?_)
   | (with_reducible refine LeO.bind ?_ (fun _ => ?_))
   | exact ih0 _ _
   | exact LeO.none _
   | refine LeO.ite ?_ ?_
   | refine LeO.bind ?_ (fun _ => ?_)
theorem zx0.mono : ∀ a0 k, LeO (zx0.f k a0) (zx0.f (k + 1) a0) := by
 intro a0 k; have ih0 := zx0.mono_l k; unfold zx0.f
 repeat' first
   | (with_reducible exact ih0 _ _)
   | (with_reducible exact LeO.refl _)
   | (with_reducible exact LeO.none _)
   | (with_reducible refine LeO.ite ?_ ?_)
   | (with_reducible refine LeO.bind ?_ (fun _ => ?_))
   | exact ih0 _ _
   | exact LeO.none _
   | refine LeO.ite ?_ ?_
   | refine LeO.bind ?_ (fun _ => ?_)
theorem zx0.calls (k : Nat) (a0 : Int) (r : Int) (w : World) (h : zx0.f k a0 = some r) :
  Calls Tryd.prog 123 #[.int .i64 a0] w fun e w' => e = .returned (.int .i64 r) ∧ Drawn0 w w' := by
 have H : (zx0.l0 k a0 1) = some r := h; clear h; have H' := am H; clear H; go_enter Tryd.func123, Tryd.ntmps123; go_wp2
 go_loopg [0, 3] k (fun kq v0 v3 w' => ∃ (x0_1 : Int) (x3_1 : Int), v0 = .int .i64 x0_1 ∧ v3 = .int .i64 x3_1 ∧ Aside0 (zx0.l0 kq x0_1 x3_1 = some r) ∧ Aside0 (kq ≤ k) ∧ Drawn0 w w')
 case atStart => exact ⟨(a0), (1), (tF), (tF), H', ⟨Nat.le_refl _⟩, tD⟩
 case round =>
  clear H'
  try clear c1
  obtain ⟨x0_1, x3_1, rfl, rfl, HA, HK1, ⟨m1, rfl⟩⟩ := hrel
  cases gk with
  | zero => exact absurd HA.out (by simp [zx0.l0])
  | succ k1 =>
   have H := HA.out; clear HA; simp only [zx0.l0] at H; by_cases c2 : x0_1 > 0
   ·rw [if_pos c2] at H; have c2b0 : decide (0 < x0_1) = true := decide_eq_true c2; clear c2; have H' := am H; clear H; go_wp2; go_roundg k1
    case measure => have := HK1.out; omega
    case rel => exact ⟨(wrap64 (x0_1 - 1)), (wrap64 (3 * x3_1)), (tF), (tF), H', ⟨by have := HK1.out; omega⟩, tD⟩
   ·rw [if_neg c2] at H; have c2b0 : decide (0 < x0_1) = false := decide_eq_false c2; clear c2; obtain rfl := Option.some.inj H; go_wp2; go_ret; exact ⟨tF, tD⟩
def yo0.f (k : Nat) (a0 : Int) : Option (Int) := (zx0.f k a0).bind fun t106 => (some (wrap64 (t106 - 1)))
theorem yo0.mono : ∀ a0 k, LeO (yo0.f k a0) (yo0.f (k + 1) a0) := by
 intro a0 k; unfold yo0.f
 repeat' first
   | (with_reducible exact zx0.mono _ _)
   | (with_reducible exact LeO.refl _)
   | (with_reducible exact LeO.none _)
   | (with_reducible refine LeO.ite ?_ ?_)
   | (with_reducible refine LeO.bind ?_ (fun _ => ?_))
   | exact zx0.mono _ _
   | exact LeO.none _
   | refine LeO.ite ?_ ?_
   | refine LeO.bind ?_ (fun _ => ?_)
theorem yo0.calls (k : Nat) (a0 : Int) (r : Int) (w : World) (h : yo0.f k a0 = some r) :
  Calls Tryd.prog 76 #[.int .i64 a0] w fun e w' => e = .returned (.int .i64 r) ∧ Drawn0 w w' := by
 have H : ((zx0.f k a0).bind fun t106 => (some (wrap64 (t106 - 1)))) = some r := h; clear h; replace H := Option.bind_eq_some_iff.mp H; obtain ⟨t106, A20, H⟩ := H; replace H : (some (wrap64 (t106 - 1))) = some r := H; have A2 := am A20; clear A20; obtain rfl := Option.some.inj H; go_enter Tryd.func76, Tryd.ntmps76
 go_wp2_with (first | ((with_reducible refine zt0 (f := 123) rfl ?_); refine goesLA (some 4) Tryd.func123 #[.int .i64 a0] rfl rfl rfl (h := ?_); (with_reducible refine (zx0.calls k a0 t106 _ A2.out).mono ?_); rintro e w' ⟨rfl, ⟨nd, rfl⟩⟩; refine ⟨_, rfl, ?_⟩))
 go_ret; exact ⟨tF, tD⟩
/-- A state of type 29 at block g of W; what its slices lead to came in by w0. -/
def IsS29 (w0 W : World) (g : Nat) (f0 : Int) (f1 : Int) (f2 : List Bool) (f3 : List (List Int)) : Prop := ∃ A2 c2, ∃ A3 c3, W.heap[g]? = some (.cells #[.int .i64 f0, .int .i64 f1, .slice A2 f2.length c2, .slice A3 f3.length c3] 29 (0, 0)) ∧ w0.heap.size ≤ g ∧ Kd.C Kd.bool w0 A2 f2.length f2 ∧ Kd.C (Kd.slice 2 (Kd.int .i64)) w0 A3 f3.length f3
theorem IsS29.grown {w0 W : World} {g : Nat} {f0 : Int} {f1 : Int} {f2 : List Bool} {f3 : List (List Int)} {W1 : World} {row : Option Nat} (h : IsS29 w0 W g f0 f1 f2 f3) (hw : W.grownBy W1 row) (hne : some g ≠ row) : IsS29 w0 W1 g f0 f1 f2 f3 := by
 obtain ⟨A2, c2, A3, c3, hb, hg, hr2, hr3⟩ := h; exact ⟨A2, c2, A3, c3, blk_grown hb hw hne, hg, hr2, hr3⟩
theorem IsS29.fresh {w0 W : World} {g : Nat} {f0 : Int} {f1 : Int} {f2 : List Bool} {f3 : List (List Int)} (h : IsS29 w0 W g f0 f1 f2 f3) : ∀ k, W.heap.size ≤ k → k ≠ g := by
 obtain ⟨A2, c2, A3, c3, hb, hg, hr2, hr3⟩ := h; exact Kd.freshB hb
theorem IsS29.kept {w0 W : World} {g : Nat} {f0 : Int} {f1 : Int} {f2 : List Bool} {f3 : List (List Int)} {W1 : World} {S : Nat → Prop} (h : IsS29 w0 W g f0 f1 f2 f3) (hk : Kept W W1 S) (hne : ¬ S g) : IsS29 w0 W1 g f0 f1 f2 f3 := by
 obtain ⟨A2, c2, A3, c3, hb, hg, hr2, hr3⟩ := h; exact ⟨A2, c2, A3, c3, blk_kept hb hk hne, hg, hr2, hr3⟩
theorem IsS29.below {w0 W : World} {g : Nat} {f0 : Int} {f1 : Int} {f2 : List Bool} {f3 : List (List Int)} {W1 : World} (h : IsS29 w0 W g f0 f1 f2 f3) (hw : Below W.heap.size W W1) : IsS29 w0 W1 g f0 f1 f2 f3 := h.grown (grown_of_below hw none) (by simp)
theorem IsS29.alloc {w0 W : World} {g : Nat} {f0 : Int} {f1 : Int} {f2 : List Bool} {f3 : List (List Int)} (h : IsS29 w0 W g f0 f1 f2 f3) (o : Obj) : IsS29 w0 (W.alloc o) g f0 f1 f2 f3 := h.below (zn0 (Below.refl _ _) o)
theorem IsS29.drewN {w0 W : World} {g : Nat} {f0 : Int} {f1 : Int} {f2 : List Bool} {f3 : List (List Int)} (h : IsS29 w0 W g f0 f1 f2 f3) (m : Nat) : IsS29 w0 (W.drewN m) g f0 f1 f2 f3 := h
theorem IsS29.drew {w0 W : World} {g : Nat} {f0 : Int} {f1 : Int} {f2 : List Bool} {f3 : List (List Int)} (h : IsS29 w0 W g f0 f1 f2 f3) : IsS29 w0 W.drew g f0 f1 f2 f3 := h
theorem IsS29.at_ {w0 W : World} {g : Nat} {f0 : Int} {f1 : Int} {f2 : List Bool} {f3 : List (List Int)} {w' : World} {m : Nat} (hq : W.drewN m = w') (h : IsS29 w0 W g f0 f1 f2 f3) : IsS29 w0 w' g f0 f1 f2 f3 := by subst hq; exact IsS29.drewN h m
theorem IsS29.apart {w0 W : World} {g : Nat} {f0 : Int} {f1 : Int} {f2 : List Bool} {f3 : List (List Int)} {α : Type} {d : Kd α} {e : Nat} {base : Nat} {ok : Nat → Prop} {v : Value} {xs : List α} (h : IsS29 w0 W g f0 f1 f2 f3) (ho : d.R e W base ok v xs) (ht : ∀ q, q ∈ e :: d.E → q ≠ 29) : d.R e W base (fun k => ok k ∧ k ≠ g) v xs := by
 obtain ⟨A2, c2, A3, c3, hb, hg, hr2, hr3⟩ := h; exact Kd.R_types ho hb ht
theorem IsS29.own_ne {w0 W : World} {g : Nat} {f0 : Int} {f1 : Int} {f2 : List Bool} {f3 : List (List Int)} {α : Type} {d : Kd α} {e : Nat} {base : Nat} {ok : Nat → Prop} {v : Value} {xs : List α} (h : IsS29 w0 W g f0 f1 f2 f3) (ho : d.R e W base ok v xs) (ht : e ≠ 29) : some g ≠ v.ownBlock := by
 obtain ⟨A2, c2, A3, c3, hb, hg, hr2, hr3⟩ := h; exact Kd.R_ne ho hb ht
theorem IsS29.lt {w0 W : World} {g : Nat} {f0 : Int} {f1 : Int} {f2 : List Bool} {f3 : List (List Int)} (h : IsS29 w0 W g f0 f1 f2 f3) : g < W.heap.size := by
 obtain ⟨A2, c2, A3, c3, hb, hg, hr2, hr3⟩ := h; exact blk_lt hb
theorem IsS29.ge {w0 W : World} {g : Nat} {f0 : Int} {f1 : Int} {f2 : List Bool} {f3 : List (List Int)} (h : IsS29 w0 W g f0 f1 f2 f3) : w0.heap.size ≤ g := by
 obtain ⟨A2, c2, A3, c3, hb, hg, hr2, hr3⟩ := h; exact hg
theorem IsS29.far {w0 W : World} {g : Nat} {f0 : Int} {f1 : Int} {f2 : List Bool} {f3 : List (List Int)} {p : Addr} (h : IsS29 w0 W g f0 f1 f2 f3) (hne : g ≠ p.block) (u : Value) : IsS29 w0 (W.setCell p u) g f0 f1 f2 f3 := by
 obtain ⟨A2, c2, A3, c3, hb, hg, hr2, hr3⟩ := h; exact ⟨A2, c2, A3, c3, yu0 hb hne u, hg, hr2, hr3⟩
theorem cellS29_0 {W : World} {g : Nat} {A2 : Option Addr} {c2 : Nat} {A3 : Option Addr} {c3 : Nat} {f0 : Int} {f1 : Int} {f2 : List Bool} {f3 : List (List Int)} (h : W.heap[g]? = some (.cells #[.int .i64 f0, .int .i64 f1, .slice A2 f2.length c2, .slice A3 f3.length c3] 29 (0, 0))) : W.cell? ⟨g, 0, none⟩ = some (.int .i64 f0) := (za0 h 0).trans rfl
theorem IsS29.set_0 {w0 W : World} {g : Nat} {f0 : Int} {f1 : Int} {f2 : List Bool} {f3 : List (List Int)} (h : IsS29 w0 W g f0 f1 f2 f3) (x : Int) : IsS29 w0 (W.setCell ⟨g, 0, none⟩ (.int .i64 x)) g x f1 f2 f3 := by
 obtain ⟨A2, c2, A3, c3, hb, hg, hr2, hr3⟩ := h; exact ⟨A2, c2, A3, c3, by simpa using blk_set hb 0 (.int .i64 x), hg, hr2, hr3⟩
theorem cellS29_1 {W : World} {g : Nat} {A2 : Option Addr} {c2 : Nat} {A3 : Option Addr} {c3 : Nat} {f0 : Int} {f1 : Int} {f2 : List Bool} {f3 : List (List Int)} (h : W.heap[g]? = some (.cells #[.int .i64 f0, .int .i64 f1, .slice A2 f2.length c2, .slice A3 f3.length c3] 29 (0, 0))) : W.cell? ⟨g, 1, none⟩ = some (.int .i64 f1) := (za0 h 1).trans rfl
theorem IsS29.set_1 {w0 W : World} {g : Nat} {f0 : Int} {f1 : Int} {f2 : List Bool} {f3 : List (List Int)} (h : IsS29 w0 W g f0 f1 f2 f3) (x : Int) : IsS29 w0 (W.setCell ⟨g, 1, none⟩ (.int .i64 x)) g f0 x f2 f3 := by
 obtain ⟨A2, c2, A3, c3, hb, hg, hr2, hr3⟩ := h; exact ⟨A2, c2, A3, c3, by simpa using blk_set hb 1 (.int .i64 x), hg, hr2, hr3⟩
theorem cellS29_2 {W : World} {g : Nat} {A2 : Option Addr} {c2 : Nat} {A3 : Option Addr} {c3 : Nat} {f0 : Int} {f1 : Int} {f2 : List Bool} {f3 : List (List Int)} (h : W.heap[g]? = some (.cells #[.int .i64 f0, .int .i64 f1, .slice A2 f2.length c2, .slice A3 f3.length c3] 29 (0, 0))) : W.cell? ⟨g, 2, none⟩ = some (.slice A2 f2.length c2) := (za0 h 2).trans rfl
theorem cellS29_3 {W : World} {g : Nat} {A2 : Option Addr} {c2 : Nat} {A3 : Option Addr} {c3 : Nat} {f0 : Int} {f1 : Int} {f2 : List Bool} {f3 : List (List Int)} (h : W.heap[g]? = some (.cells #[.int .i64 f0, .int .i64 f1, .slice A2 f2.length c2, .slice A3 f3.length c3] 29 (0, 0))) : W.cell? ⟨g, 3, none⟩ = some (.slice A3 f3.length c3) := (za0 h 3).trans rfl
theorem IsS29.new (w0 W : World) (A2 : Option Addr) (c2 : Nat) (A3 : Option Addr) (c3 : Nat) (f0 : Int) (f1 : Int) (f2 : List Bool) (f3 : List (List Int)) (hB : Below w0.heap.size w0 W) (hr2 : Kd.C Kd.bool w0 A2 f2.length f2) (hr3 : Kd.C (Kd.slice 2 (Kd.int .i64)) w0 A3 f3.length f3) : IsS29 w0 (W.alloc (.cells #[.int .i64 f0, .int .i64 f1, .slice A2 f2.length c2, .slice A3 f3.length c3] 29)) W.heap.size f0 f1 f2 f3 := ⟨A2, c2, A3, c3, by simpa using heap_alloc_new W _, hB.size, hr2, hr3⟩
/-- A relation that is read at some address. -/
def IsP29 (w0 W : World) (p0 : Addr) (f0 f1 : Int) (f2 : List Bool) (f3 : List (List Int)) : Prop := ∃ A2 c2, ∃ A3 c3, W.cell? p0 = some (.int .i64 f0) ∧ W.cell? ⟨p0.block, p0.off + 1, none⟩ = some (.int .i64 f1) ∧ W.cell? ⟨p0.block, p0.off + 2, none⟩ = some (.slice A2 f2.length c2) ∧ W.cell? ⟨p0.block, p0.off + 3, none⟩ = some (.slice A3 f3.length c3) ∧ Kd.C Kd.bool w0 A2 f2.length f2 ∧ Kd.C (Kd.slice 2 (Kd.int .i64)) w0 A3 f3.length f3
theorem IsP29.below {w0 W W1 : World} {p0 : Addr} {f0 f1 : Int} {f2 : List Bool} {f3 : List (List Int)} (h : IsP29 w0 W p0 f0 f1 f2 f3) (hb : Below W.heap.size W W1) : IsP29 w0 W1 p0 f0 f1 f2 f3 := by
 obtain ⟨A2, c2, A3, c3, h0, h1, h2, h3, h4⟩ := h; exact ⟨A2, c2, A3, c3, ze0 hb h0, ze0 hb h1, ze0 hb h2, ze0 hb h3, h4⟩
theorem IsP29.drewN {w0 W : World} {p0 : Addr} {f0 f1 : Int} {f2 : List Bool} {f3 : List (List Int)} (h : IsP29 w0 W p0 f0 f1 f2 f3) (n : Nat) : IsP29 w0 (W.drewN n) p0 f0 f1 f2 f3 := h.below (zi0 (Below.refl _ _) n)
theorem IsP29.drew {w0 W : World} {p0 : Addr} {f0 f1 : Int} {f2 : List Bool} {f3 : List (List Int)} (h : IsP29 w0 W p0 f0 f1 f2 f3) : IsP29 w0 W.drew p0 f0 f1 f2 f3 := h.below (zy0 (Below.refl _ _))
theorem IsP29.alloc {w0 W : World} {p0 : Addr} {f0 f1 : Int} {f2 : List Bool} {f3 : List (List Int)} (h : IsP29 w0 W p0 f0 f1 f2 f3) (o : Obj) : IsP29 w0 (W.alloc o) p0 f0 f1 f2 f3 := h.below (zn0 (Below.refl _ _) o)
mutual
def zm0.j0 : Nat → Int → Bool → Int → Int → List Bool → List (List Int) → Option (Bool × Int × Int)
 | 0, _, _, _, _, _, _ => none
 | k + 1, x3, x39, x1000, x1001, x1002, x1003 => if x39 = true then (some (false, x1000, x1001)) else (zm0.l0 k x3 0 x1000 x1001 x1002 x1003)
def zm0.l0 : Nat → Int → Int → Int → Int → List Bool → List (List Int) → Option (Bool × Int × Int)
 | 0, _, _, _, _, _, _ => none
 | k + 1, x3, x4, x1000, x1001, x1002, x1003 => if x4 < (x1003.length : Int) then (if 0 ≤ x4 then ((yo0.f k x1000).bind fun t110 => (if ((rd_L2 x1003 x4).length : Int) = t110 then (zm0.l1 k x3 x4 0 x1000 x1001 x1002 x1003) else (some (false, x1000, x1001)))) else (none)) else (some (true, x1000, x1001))
def zm0.l1 : Nat → Int → Int → Int → Int → Int → List Bool → List (List Int) → Option (Bool × Int × Int)
 | 0, _, _, _, _, _, _, _ => none
 | k + 1, x3, x4, x5, x1000, x1001, x1002, x1003 => if 0 ≤ x4 then (if x4 < (x1003.length : Int) then (if x5 < ((rd_L2 x1003 x4).length : Int) then (if 0 ≤ x5 then ((yt0.f (rd (rd_L2 x1003 x4) x5) 0 (wrap64 (x3 - 1))).bind fun t114 => (if t114 = true then (zm0.l1 k x3 x4 (wrap64 (x5 + 1)) x1000 x1001 x1002 x1003) else (some (false, x1000, x1001)))) else (none)) else (zm0.l0 k x3 (wrap64 (x4 + 1)) x1000 x1001 x1002 x1003)) else (none)) else (none)
end
def zm0.f (k : Nat) (s0_0 : Int) (s0_1 : Int) (s0_2 : List Bool) (s0_3 : List (List Int)) : Option (Bool × Int × Int) := (yt0.f s0_0 1 3).bind fun t107 => (if t107 = true then (if (s0_2.length : Int) < 1 then (zm0.j0 k (s0_2.length : Int) true s0_0 s0_1 s0_2 s0_3) else ((yt0.f s0_1 0 (wrap64 ((s0_2.length : Int) - 1))).bind fun t108 => (if t108 = true then (zm0.j0 k (s0_2.length : Int) ((s0_3.length : Int) != (s0_2.length : Int)) s0_0 s0_1 s0_2 s0_3) else (zm0.j0 k (s0_2.length : Int) true s0_0 s0_1 s0_2 s0_3)))) else (zm0.j0 k (s0_2.length : Int) true s0_0 s0_1 s0_2 s0_3))
theorem zm0.atcalls (k : Nat) (p0 : Addr) (s0_0 : Int) (s0_1 : Int) (s0_2 : List Bool) (s0_3 : List (List Int)) (r1 : Bool) (r2 : Int) (r3 : Int) (w0 w : World) (hI : IsP29 w0 w p0 s0_0 s0_1 s0_2 s0_3) (hB : Below w0.heap.size w0 w) (h : zm0.f k s0_0 s0_1 s0_2 s0_3 = some (r1, r2, r3)) :
  Calls Tryd.prog 116 #[.pointer (some p0)] w fun e w' => e = .returned (.bool r1) ∧ IsP29 w0 w' p0 r2 r3 s0_2 s0_3 ∧ Below w0.heap.size w0 w' ∧ KeepBut w w' p0.block none := by
 have HI0 := am hI; have HK := am (KeepBut.refl w p0.block none); have HL := am hB.size; clear hI; have HW0 := am hB.size; have HB := am hB; clear hB; have H : ((yt0.f s0_0 1 3).bind fun t107 => (if t107 = true then (if (s0_2.length : Int) < 1 then (zm0.j0 k (s0_2.length : Int) true s0_0 s0_1 s0_2 s0_3) else ((yt0.f s0_1 0 (wrap64 ((s0_2.length : Int) - 1))).bind fun t108 => (if t108 = true then (zm0.j0 k (s0_2.length : Int) ((s0_3.length : Int) != (s0_2.length : Int)) s0_0 s0_1 s0_2 s0_3) else (zm0.j0 k (s0_2.length : Int) true s0_0 s0_1 s0_2 s0_3)))) else (zm0.j0 k (s0_2.length : Int) true s0_0 s0_1 s0_2 s0_3))) = some (r1, r2, r3) := h; clear h; have HC2 := am H; clear H; obtain ⟨ASz3_2, cSz3_2, ASz3_3, cSz3_3, hcz3_0, hcz3_1, hcz3_2, hcz3_3, HSz3_2, HSz3_3⟩ := HI0.out; go_enter Tryd.func116, Tryd.ntmps116
 go_upto_region 2 with (fail)
 repeat (go_quiet (fail); go_upto_region 2 with (fail))
 go_cut [39] (fun v39 wc => ∃ (kq : Nat) (x39_1 : Bool), v39 = .bool x39_1 ∧ Aside0 (zm0.j0 kq (s0_2.length : Int) x39_1 s0_0 s0_1 s0_2 s0_3 = some (r1, r2, r3)) ∧ Aside0 (kq ≤ k) ∧ Aside0 (IsP29 w0 wc p0 s0_0 s0_1 s0_2 s0_3) ∧ Aside0 (KeepBut w wc p0.block none) ∧ Aside0 (Below w0.heap.size w0 wc))
 case first =>
  have H := HC2.out; clear HC2; replace H := Option.bind_eq_some_iff.mp H; obtain ⟨t107, A40, H⟩ := H; replace H : (if t107 = true then (if (s0_2.length : Int) < 1 then (zm0.j0 k (s0_2.length : Int) true s0_0 s0_1 s0_2 s0_3) else ((yt0.f s0_1 0 (wrap64 ((s0_2.length : Int) - 1))).bind fun t108 => (if t108 = true then (zm0.j0 k (s0_2.length : Int) ((s0_3.length : Int) != (s0_2.length : Int)) s0_0 s0_1 s0_2 s0_3) else (zm0.j0 k (s0_2.length : Int) true s0_0 s0_1 s0_2 s0_3)))) else (zm0.j0 k (s0_2.length : Int) true s0_0 s0_1 s0_2 s0_3)) = some (r1, r2, r3) := H; have A4 := am A40; clear A40; by_cases c5 : t107 = true
  ·subst c5; (have H1 : (if (s0_2.length : Int) < 1 then (zm0.j0 k (s0_2.length : Int) true s0_0 s0_1 s0_2 s0_3) else ((yt0.f s0_1 0 (wrap64 ((s0_2.length : Int) - 1))).bind fun t108 => (if t108 = true then (zm0.j0 k (s0_2.length : Int) ((s0_3.length : Int) != (s0_2.length : Int)) s0_0 s0_1 s0_2 s0_3) else (zm0.j0 k (s0_2.length : Int) true s0_0 s0_1 s0_2 s0_3)))) = some (r1, r2, r3) := by rw [if_pos rfl] at H; exact H); clear H; have H := H1; clear H1; by_cases c6 : (s0_2.length : Int) < 1
   ·rw [if_pos c6] at H; have c6b0 := decide_eq_true c6; have c6b1 : decide (s0_2.length < 1) = true := decide_eq_true (by omega); clear c6
    (first | rw [c6b0] | (simp only [i64_w, i32_w]; rw [c6b0]) | skip)
    have H' := am H; clear H; obtain ⟨ASz7_2, cSz7_2, ASz7_3, cSz7_3, hcz7_0, hcz7_1, hcz7_2, hcz7_3, HSz7_2, HSz7_3⟩ := HI0.out
    go_wp2_with (first | (go_at_call 74; (with_reducible refine (yt0.calls s0_0 1 3 true _ A4.out).mono ?_); rintro e w' ⟨rfl, ⟨nd, rfl⟩⟩; (try first | exact ⟨rfl, _, World.drewN_drewN _ _ _⟩ | exact ⟨rfl, _, Eq.trans (World.drewN_drewN _ _ _) (congrArg (World.drewN _) (Nat.add_assoc _ _ _))⟩)) | go_quiet (first | (go_at_call 74; (with_reducible refine (yt0.calls s0_0 1 3 true _ A4.out).mono ?_); rintro e w' ⟨rfl, ⟨nd, rfl⟩⟩; (try first | exact ⟨rfl, _, World.drewN_drewN _ _ _⟩ | exact ⟨rfl, _, Eq.trans (World.drewN_drewN _ _ _) (congrArg (World.drewN _) (Nat.add_assoc _ _ _))⟩))))
    go_meet
    case rel => exact ⟨_, (true), (tF), H', ⟨by first | omega | exact Nat.le_refl _⟩, ⟨by repeat (first | (with_reducible first | exact HI0.out | apply IsP29.alloc | apply IsP29.drewN | apply IsP29.drew | apply IsP29.set_0 | apply IsP29.set_1) | exact HI0.out)⟩, ⟨tK⟩, ⟨tB⟩⟩
   ·rw [if_neg c6] at H; have c6b0 := decide_eq_false c6; have c6b1 : decide (s0_2.length < 1) = false := decide_eq_false (by omega); clear c6
    (first | rw [c6b0] | (simp only [i64_w, i32_w]; rw [c6b0]) | skip)
    replace H := Option.bind_eq_some_iff.mp H; obtain ⟨t108, A80, H⟩ := H; replace H : (if t108 = true then (zm0.j0 k (s0_2.length : Int) ((s0_3.length : Int) != (s0_2.length : Int)) s0_0 s0_1 s0_2 s0_3) else (zm0.j0 k (s0_2.length : Int) true s0_0 s0_1 s0_2 s0_3)) = some (r1, r2, r3) := H; have A8 := am A80; clear A80; by_cases c9 : t108 = true
    ·subst c9; (have H1 : (zm0.j0 k (s0_2.length : Int) ((s0_3.length : Int) != (s0_2.length : Int)) s0_0 s0_1 s0_2 s0_3) = some (r1, r2, r3) := by rw [if_pos rfl] at H; exact H); clear H; have H := H1; clear H1; have H' := am H; clear H; obtain ⟨ASz10_2, cSz10_2, ASz10_3, cSz10_3, hcz10_0, hcz10_1, hcz10_2, hcz10_3, HSz10_2, HSz10_3⟩ := HI0.out
     go_wp2_with (first | (go_at_call 74; (with_reducible refine (yt0.calls s0_0 1 3 true _ A4.out).mono ?_); rintro e w' ⟨rfl, ⟨nd, rfl⟩⟩; (try first | exact ⟨rfl, _, World.drewN_drewN _ _ _⟩ | exact ⟨rfl, _, Eq.trans (World.drewN_drewN _ _ _) (congrArg (World.drewN _) (Nat.add_assoc _ _ _))⟩)) | (go_at_call 74; (with_reducible refine (yt0.calls s0_1 0 (wrap64 ((s0_2.length : Int) - 1)) true _ A8.out).mono ?_); rintro e w' ⟨rfl, ⟨nd, rfl⟩⟩; (try first | exact ⟨rfl, _, World.drewN_drewN _ _ _⟩ | exact ⟨rfl, _, Eq.trans (World.drewN_drewN _ _ _) (congrArg (World.drewN _) (Nat.add_assoc _ _ _))⟩)) | go_quiet (first | (go_at_call 74; (with_reducible refine (yt0.calls s0_0 1 3 true _ A4.out).mono ?_); rintro e w' ⟨rfl, ⟨nd, rfl⟩⟩; (try first | exact ⟨rfl, _, World.drewN_drewN _ _ _⟩ | exact ⟨rfl, _, Eq.trans (World.drewN_drewN _ _ _) (congrArg (World.drewN _) (Nat.add_assoc _ _ _))⟩)) | (go_at_call 74; (with_reducible refine (yt0.calls s0_1 0 (wrap64 ((s0_2.length : Int) - 1)) true _ A8.out).mono ?_); rintro e w' ⟨rfl, ⟨nd, rfl⟩⟩; (try first | exact ⟨rfl, _, World.drewN_drewN _ _ _⟩ | exact ⟨rfl, _, Eq.trans (World.drewN_drewN _ _ _) (congrArg (World.drewN _) (Nat.add_assoc _ _ _))⟩))))
     go_meet
     case rel => exact ⟨_, (((s0_3.length : Int) != (s0_2.length : Int))), (tF), H', ⟨by first | omega | exact Nat.le_refl _⟩, ⟨by repeat (first | (with_reducible first | exact HI0.out | apply IsP29.alloc | apply IsP29.drewN | apply IsP29.drew | apply IsP29.set_0 | apply IsP29.set_1) | exact HI0.out)⟩, ⟨tK⟩, ⟨tB⟩⟩
    ·replace c9 := Bool.eq_false_iff.mpr c9; subst c9; (have H1 : (zm0.j0 k (s0_2.length : Int) true s0_0 s0_1 s0_2 s0_3) = some (r1, r2, r3) := by rw [if_neg (show ¬ (false = true) by decide)] at H; exact H); clear H; have H := H1; clear H1; have H' := am H; clear H; obtain ⟨ASz11_2, cSz11_2, ASz11_3, cSz11_3, hcz11_0, hcz11_1, hcz11_2, hcz11_3, HSz11_2, HSz11_3⟩ := HI0.out
     go_wp2_with (first | (go_at_call 74; (with_reducible refine (yt0.calls s0_0 1 3 true _ A4.out).mono ?_); rintro e w' ⟨rfl, ⟨nd, rfl⟩⟩; (try first | exact ⟨rfl, _, World.drewN_drewN _ _ _⟩ | exact ⟨rfl, _, Eq.trans (World.drewN_drewN _ _ _) (congrArg (World.drewN _) (Nat.add_assoc _ _ _))⟩)) | (go_at_call 74; (with_reducible refine (yt0.calls s0_1 0 (wrap64 ((s0_2.length : Int) - 1)) false _ A8.out).mono ?_); rintro e w' ⟨rfl, ⟨nd, rfl⟩⟩; (try first | exact ⟨rfl, _, World.drewN_drewN _ _ _⟩ | exact ⟨rfl, _, Eq.trans (World.drewN_drewN _ _ _) (congrArg (World.drewN _) (Nat.add_assoc _ _ _))⟩)) | go_quiet (first | (go_at_call 74; (with_reducible refine (yt0.calls s0_0 1 3 true _ A4.out).mono ?_); rintro e w' ⟨rfl, ⟨nd, rfl⟩⟩; (try first | exact ⟨rfl, _, World.drewN_drewN _ _ _⟩ | exact ⟨rfl, _, Eq.trans (World.drewN_drewN _ _ _) (congrArg (World.drewN _) (Nat.add_assoc _ _ _))⟩)) | (go_at_call 74; (with_reducible refine (yt0.calls s0_1 0 (wrap64 ((s0_2.length : Int) - 1)) false _ A8.out).mono ?_); rintro e w' ⟨rfl, ⟨nd, rfl⟩⟩; (try first | exact ⟨rfl, _, World.drewN_drewN _ _ _⟩ | exact ⟨rfl, _, Eq.trans (World.drewN_drewN _ _ _) (congrArg (World.drewN _) (Nat.add_assoc _ _ _))⟩))))
     go_meet
     case rel => exact ⟨_, (true), (tF), H', ⟨by first | omega | exact Nat.le_refl _⟩, ⟨by repeat (first | (with_reducible first | exact HI0.out | apply IsP29.alloc | apply IsP29.drewN | apply IsP29.drew | apply IsP29.set_0 | apply IsP29.set_1) | exact HI0.out)⟩, ⟨tK⟩, ⟨tB⟩⟩
  ·replace c5 := Bool.eq_false_iff.mpr c5; subst c5; (have H1 : (zm0.j0 k (s0_2.length : Int) true s0_0 s0_1 s0_2 s0_3) = some (r1, r2, r3) := by rw [if_neg (show ¬ (false = true) by decide)] at H; exact H); clear H; have H := H1; clear H1; have H' := am H; clear H; obtain ⟨ASz12_2, cSz12_2, ASz12_3, cSz12_3, hcz12_0, hcz12_1, hcz12_2, hcz12_3, HSz12_2, HSz12_3⟩ := HI0.out
   go_wp2_with (first | (go_at_call 74; (with_reducible refine (yt0.calls s0_0 1 3 false _ A4.out).mono ?_); rintro e w' ⟨rfl, ⟨nd, rfl⟩⟩; (try first | exact ⟨rfl, _, World.drewN_drewN _ _ _⟩ | exact ⟨rfl, _, Eq.trans (World.drewN_drewN _ _ _) (congrArg (World.drewN _) (Nat.add_assoc _ _ _))⟩)) | go_quiet (first | (go_at_call 74; (with_reducible refine (yt0.calls s0_0 1 3 false _ A4.out).mono ?_); rintro e w' ⟨rfl, ⟨nd, rfl⟩⟩; (try first | exact ⟨rfl, _, World.drewN_drewN _ _ _⟩ | exact ⟨rfl, _, Eq.trans (World.drewN_drewN _ _ _) (congrArg (World.drewN _) (Nat.add_assoc _ _ _))⟩))))
   go_meet
   case rel => exact ⟨_, (true), (tF), H', ⟨by first | omega | exact Nat.le_refl _⟩, ⟨by repeat (first | (with_reducible first | exact HI0.out | apply IsP29.alloc | apply IsP29.drewN | apply IsP29.drew | apply IsP29.set_0 | apply IsP29.set_1) | exact HI0.out)⟩, ⟨tK⟩, ⟨tB⟩⟩
 case rest =>
  clear HC2
  try clear c1; try clear p2; try clear c5; try clear c6; try clear c6b0; try clear c6b1; try clear p6; try clear c9; try clear c11; try clear hcz10_0; try clear hcz10_1; try clear hcz10_2; try clear hcz10_3; try clear hcz11_0; try clear hcz11_1; try clear hcz11_2; try clear hcz11_3; try clear hcz12_0; try clear hcz12_1; try clear hcz12_2; try clear hcz12_3; try clear hcz3_0; try clear hcz3_1; try clear hcz3_2; try clear hcz3_3; try clear hcz7_0; try clear hcz7_1; try clear hcz7_2; try clear hcz7_3; try clear hfz10_0; try clear hfz10_1; try clear hfz11_0; try clear hfz11_1; try clear hfz12_0; try clear hfz12_1; try clear hfz3_0; try clear hfz3_1; try clear hfz7_0; try clear hfz7_1
  obtain ⟨kq, x39_1, rfl, HA, HJ1, HI0, HK, HB⟩ := hcut
  cases kq with
  | zero => exact absurd HA.out (by simp [zm0.j0])
  | succ kj1 =>
   have H := HA.out; clear HA; simp only [zm0.j0] at H; by_cases c13 : x39_1 = true
   ·subst c13; (have H1 : (some (false, s0_0, s0_1)) = some (r1, r2, r3) := by rw [if_pos rfl] at H; exact H); clear H; have H := H1; clear H1; simp only [Option.some.injEq, Prod.mk.injEq] at H; obtain ⟨rfl, rfl, rfl⟩ := H; go_wp2
    repeat (go_quiet (fail); try go_wp2)
    go_ret; exact ⟨tE, by repeat (first | (with_reducible first | exact HI0.out | apply IsP29.alloc | apply IsP29.drewN | apply IsP29.drew | apply IsP29.set_0 | apply IsP29.set_1) | exact HI0.out), tB, tK⟩
   ·replace c13 := Bool.eq_false_iff.mpr c13; subst c13; (have H1 : (zm0.l0 kj1 (s0_2.length : Int) 0 s0_0 s0_1 s0_2 s0_3) = some (r1, r2, r3) := by rw [if_neg (show ¬ (false = true) by decide)] at H; exact H); clear H; have H := H1; clear H1; have H' := am H; clear H; go_wp2
    repeat (go_quiet (fail); try go_wp2)
    go_loopg [4] kj1 (fun kq v4 w' => ∃ (x4_2 : Int), v4 = .int .i64 x4_2 ∧ Aside0 (zm0.l0 kq (s0_2.length : Int) x4_2 s0_0 s0_1 s0_2 s0_3 = some (r1, r2, r3)) ∧ Aside0 (kq ≤ kj1) ∧ Aside0 (IsP29 w0 w' p0 s0_0 s0_1 s0_2 s0_3) ∧ Aside0 (KeepBut w w' p0.block none) ∧ Aside0 (Below w0.heap.size w0 w'))
    case atStart => exact ⟨(0), (tF), H', ⟨Nat.le_refl _⟩, ⟨by repeat (first | (with_reducible first | exact HI0.out | apply IsP29.alloc | apply IsP29.drewN | apply IsP29.drew | apply IsP29.set_0 | apply IsP29.set_1) | exact HI0.out)⟩, ⟨tK⟩, ⟨tB⟩⟩
    case round =>
     clear H'
     try clear c1; try clear p2; try clear c5; try clear c6; try clear c6b0; try clear c6b1; try clear p6; try clear c9; try clear c11; try clear c13; try clear hcz10_0; try clear hcz10_1; try clear hcz10_2; try clear hcz10_3; try clear hcz11_0; try clear hcz11_1; try clear hcz11_2; try clear hcz11_3; try clear hcz12_0; try clear hcz12_1; try clear hcz12_2; try clear hcz12_3; try clear hcz3_0; try clear hcz3_1; try clear hcz3_2; try clear hcz3_3; try clear hcz7_0; try clear hcz7_1; try clear hcz7_2; try clear hcz7_3; try clear hfz10_0; try clear hfz10_1; try clear hfz11_0; try clear hfz11_1; try clear hfz12_0; try clear hfz12_1; try clear hfz3_0; try clear hfz3_1; try clear hfz7_0; try clear hfz7_1; try clear p2; try clear p6
     obtain ⟨x4_2, rfl, HA, HK2, HI0, HK, HB⟩ := hrel
     cases gk with
     | zero => exact absurd HA.out (by simp [zm0.l0])
     | succ k2 =>
      have H := HA.out; clear HA; simp only [zm0.l0] at H; by_cases c14 : x4_2 < (s0_3.length : Int)
      ·rw [if_pos c14] at H; have c14b0 := decide_eq_true c14; clear c14; by_cases c15 : 0 ≤ x4_2
       ·rw [if_pos c15] at H; have c15b0 := decide_eq_true c15; clear c15; replace H := Option.bind_eq_some_iff.mp H; obtain ⟨t110, A160, H⟩ := H; replace H : (if ((rd_L2 s0_3 x4_2).length : Int) = t110 then (zm0.l1 k2 (s0_2.length : Int) x4_2 0 s0_0 s0_1 s0_2 s0_3) else (some (false, s0_0, s0_1))) = some (r1, r2, r3) := H; have A16 := am A160; clear A160; by_cases c17 : ((rd_L2 s0_3 x4_2).length : Int) = t110
        ·rw [if_pos c17] at H; have c17b0 : (((rd_L2 s0_3 x4_2).length : Int) == t110) = true := beq_iff_eq.mpr c17; have c17b1 : (((rd_L2 s0_3 x4_2).length : Int) != t110) = false := bne_eq_false_iff_eq.mpr c17; clear c17; have H' := am H; clear H; obtain ⟨ASz18_2, cSz18_2, ASz18_3, cSz18_3, hcz18_0, hcz18_1, hcz18_2, hcz18_3, HSz18_2, HSz18_3⟩ := HI0.out; have p109 : 0 ≤ (x4_2 : Int) := oA; have q109 : x4_2 < (s0_3.length : Int) := oA; obtain ⟨ad109, A109_0, c109_0, e109, hx109_0, hl109_0, hi109_0⟩ := at_L2 HSz18_3 x4_2 p109 q109; cases e109; replace hx109_0 := ze0 HB.out hx109_0; have HR109_0 := am hi109_0; have HC109_0 := am hl109_0; clear hi109_0 hl109_0; replace p109 := eq_true p109; replace q109 := eq_true q109
         go_wp2_with (first | (go_at_call 76; (with_reducible refine (yo0.calls k2 s0_0 t110 _ A16.out).mono ?_); rintro e w' ⟨rfl, ⟨nd, rfl⟩⟩; (try first | exact ⟨rfl, _, World.drewN_drewN _ _ _⟩ | exact ⟨rfl, _, Eq.trans (World.drewN_drewN _ _ _) (congrArg (World.drewN _) (Nat.add_assoc _ _ _))⟩)) | go_quiet (first | (go_at_call 76; (with_reducible refine (yo0.calls k2 s0_0 t110 _ A16.out).mono ?_); rintro e w' ⟨rfl, ⟨nd, rfl⟩⟩; (try first | exact ⟨rfl, _, World.drewN_drewN _ _ _⟩ | exact ⟨rfl, _, Eq.trans (World.drewN_drewN _ _ _) (congrArg (World.drewN _) (Nat.add_assoc _ _ _))⟩))))
         go_loopg [5] k2 (fun kq v5 w' => ∃ (x5_3 : Int), v5 = .int .i64 x5_3 ∧ Aside0 (zm0.l1 kq (s0_2.length : Int) x4_2 x5_3 s0_0 s0_1 s0_2 s0_3 = some (r1, r2, r3)) ∧ Aside0 (kq ≤ k2) ∧ Aside0 (Kd.C (Kd.int .i64) w' A109_0 (rd_L2 s0_3 x4_2).length (rd_L2 s0_3 x4_2)) ∧ Aside0 (IsP29 w0 w' p0 s0_0 s0_1 s0_2 s0_3) ∧ Aside0 (KeepBut w w' p0.block none) ∧ Aside0 (Below w0.heap.size w0 w'))
         case atStart => exact ⟨(0), (tF), H', ⟨Nat.le_refl _⟩, ⟨by repeat (first | (with_reducible exact HR109_0.out) | (with_reducible exact Kd.zl0 HR109_0.out HB.out) | (with_reducible refine Kd.yl0 ?_ _) | (with_reducible refine Kd.yk0 ?_ _) | (with_reducible refine Kd.C_drew ?_) | exact HR109_0.out)⟩, ⟨by repeat (first | (with_reducible first | exact HI0.out | apply IsP29.alloc | apply IsP29.drewN | apply IsP29.drew | apply IsP29.set_0 | apply IsP29.set_1) | exact HI0.out)⟩, ⟨tK⟩, ⟨tB⟩⟩
         case round =>
          clear H'
          try clear c1; try clear p1; try clear q1; try clear hx1; try clear p2; try clear c5; try clear c6; try clear c6b0; try clear c6b1; try clear p6; try clear c9; try clear c10; try clear p10; try clear q10; try clear hx10; try clear c11; try clear c13; try clear c14; try clear c14b0; try clear c15; try clear c15b0; try clear c17; try clear c17b0; try clear c17b1; try clear hcz10_0; try clear hcz10_1; try clear hcz10_2; try clear hcz10_3; try clear hcz11_0; try clear hcz11_1; try clear hcz11_2; try clear hcz11_3; try clear hcz12_0; try clear hcz12_1; try clear hcz12_2; try clear hcz12_3; try clear hcz18_0; try clear hcz18_1; try clear hcz18_2; try clear hcz18_3; try clear hcz3_0; try clear hcz3_1; try clear hcz3_2; try clear hcz3_3; try clear hcz7_0; try clear hcz7_1; try clear hcz7_2; try clear hcz7_3; try clear hfz10_0; try clear hfz10_1; try clear hfz11_0; try clear hfz11_1; try clear hfz12_0; try clear hfz12_1; try clear hfz18_0; try clear hfz18_1; try clear hfz3_0; try clear hfz3_1; try clear hfz7_0; try clear hfz7_1; try clear hx109_0; try clear p109; try clear p2; try clear p6; try clear q109
          obtain ⟨x5_3, rfl, HA, HK3, HR109_0, HI0, HK, HB⟩ := hrel
          cases gk with
          | zero => exact absurd HA.out (by simp [zm0.l1])
          | succ k3 =>
           have H := HA.out; clear HA; simp only [zm0.l1] at H; by_cases c19 : 0 ≤ x4_2
           ·rw [if_pos c19] at H; have c19b0 := decide_eq_true c19; clear c19; by_cases c20 : x4_2 < (s0_3.length : Int)
            ·rw [if_pos c20] at H; have c20b0 := decide_eq_true c20; clear c20; by_cases c21 : x5_3 < ((rd_L2 s0_3 x4_2).length : Int)
             ·rw [if_pos c21] at H; have c21b0 := decide_eq_true c21; clear c21; by_cases c22 : 0 ≤ x5_3
              ·rw [if_pos c22] at H; have c22b0 := decide_eq_true c22; clear c22; replace H := Option.bind_eq_some_iff.mp H; obtain ⟨t114, A230, H⟩ := H; replace H : (if t114 = true then (zm0.l1 k3 (s0_2.length : Int) x4_2 (wrap64 (x5_3 + 1)) s0_0 s0_1 s0_2 s0_3) else (some (false, s0_0, s0_1))) = some (r1, r2, r3) := H; have A23 := am A230; clear A230; by_cases c24 : t114 = true
               ·subst c24; (have H1 : (zm0.l1 k3 (s0_2.length : Int) x4_2 (wrap64 (x5_3 + 1)) s0_0 s0_1 s0_2 s0_3) = some (r1, r2, r3) := by rw [if_pos rfl] at H; exact H); clear H; have H := H1; clear H1; have H' := am H; clear H; obtain ⟨ASz25_2, cSz25_2, ASz25_3, cSz25_3, hcz25_0, hcz25_1, hcz25_2, hcz25_3, HSz25_2, HSz25_3⟩ := HI0.out; have p111 : 0 ≤ (x4_2 : Int) := oA; have q111 : x4_2 < (s0_3.length : Int) := oA; obtain ⟨ad111, A111_0, c111_0, e111, hx111_0, hl111_0, hi111_0⟩ := at_L2 HSz25_3 x4_2 p111 q111; cases e111; replace hx111_0 := ze0 HB.out hx111_0; have HR111_0 := am hi111_0; have HC111_0 := am hl111_0; clear hi111_0 hl111_0; replace p111 := eq_true p111; replace q111 := eq_true q111; have p112 : 0 ≤ (x4_2 : Int) := oA; have q112 : x4_2 < (s0_3.length : Int) := oA; obtain ⟨ad112, A112_0, c112_0, e112, hx112_0, hl112_0, hi112_0⟩ := at_L2 HSz25_3 x4_2 p112 q112; obtain rfl : ad111 = ad112 := (by injection e112); replace hx112_0 := ze0 HB.out hx112_0
                try (have hxe_ := hx111_0.symm.trans hx112_0; injection hxe_ with hxe_; injection hxe_ with hA_ hl_ hc_; subst hA_; subst hc_)
                have HR112_0 := am hi112_0; have HC112_0 := am hl112_0; clear hi112_0 hl112_0; replace p112 := eq_true p112; replace q112 := eq_true q112; have p113 : 0 ≤ (x5_3 : Int) := oA; have q113 : x5_3 < ((rd_L2 s0_3 x4_2).length : Int) := oA; obtain ⟨ad113, e113, hx113_0⟩ := Kd.at_int HR112_0.out x5_3 p113 q113; cases e113; replace hx113_0 := (by first | exact yr0 HK.out hx113_0 (by first | (rw [add_block]; exact hf112_0 _ rfl (by omega)) | exact hf112_0 _ rfl (by omega) | exact hf112_0 ad113 rfl (by omega)) | exact ze0 HB.out hx113_0); replace p113 := eq_true p113; replace q113 := eq_true q113
                go_wp2_with (first | (go_at_call 74; (with_reducible refine (yt0.calls (rd (rd_L2 s0_3 x4_2) x5_3) 0 (wrap64 ((s0_2.length : Int) - 1)) true _ A23.out).mono ?_); rintro e w' ⟨rfl, ⟨nd, rfl⟩⟩; (try first | exact ⟨rfl, _, World.drewN_drewN _ _ _⟩ | exact ⟨rfl, _, Eq.trans (World.drewN_drewN _ _ _) (congrArg (World.drewN _) (Nat.add_assoc _ _ _))⟩)) | go_quiet (first | (go_at_call 74; (with_reducible refine (yt0.calls (rd (rd_L2 s0_3 x4_2) x5_3) 0 (wrap64 ((s0_2.length : Int) - 1)) true _ A23.out).mono ?_); rintro e w' ⟨rfl, ⟨nd, rfl⟩⟩; (try first | exact ⟨rfl, _, World.drewN_drewN _ _ _⟩ | exact ⟨rfl, _, Eq.trans (World.drewN_drewN _ _ _) (congrArg (World.drewN _) (Nat.add_assoc _ _ _))⟩))))
                go_roundg k3
                case measure => have := HJ1.out; have := HK2.out; have := HK3.out; omega
                case rel => exact ⟨(wrap64 (x5_3 + 1)), (tF), H', ⟨by have := HJ1.out; have := HK2.out; have := HK3.out; omega⟩, ⟨by repeat (first | (with_reducible exact HR109_0.out) | (with_reducible exact Kd.zl0 HR109_0.out HB.out) | (with_reducible refine Kd.yl0 ?_ _) | (with_reducible refine Kd.yk0 ?_ _) | (with_reducible refine Kd.C_drew ?_) | exact HR109_0.out)⟩, ⟨by repeat (first | (with_reducible first | exact HI0.out | apply IsP29.alloc | apply IsP29.drewN | apply IsP29.drew | apply IsP29.set_0 | apply IsP29.set_1) | exact HI0.out)⟩, ⟨tK⟩, ⟨tB⟩⟩
               ·replace c24 := Bool.eq_false_iff.mpr c24; subst c24; (have H1 : (some (false, s0_0, s0_1)) = some (r1, r2, r3) := by rw [if_neg (show ¬ (false = true) by decide)] at H; exact H); clear H; have H := H1; clear H1; simp only [Option.some.injEq, Prod.mk.injEq] at H; obtain ⟨rfl, rfl, rfl⟩ := H; obtain ⟨ASz26_2, cSz26_2, ASz26_3, cSz26_3, hcz26_0, hcz26_1, hcz26_2, hcz26_3, HSz26_2, HSz26_3⟩ := HI0.out; have p111 : 0 ≤ (x4_2 : Int) := oA; have q111 : x4_2 < (s0_3.length : Int) := oA; obtain ⟨ad111, A111_0, c111_0, e111, hx111_0, hl111_0, hi111_0⟩ := at_L2 HSz26_3 x4_2 p111 q111; cases e111; replace hx111_0 := ze0 HB.out hx111_0; have HR111_0 := am hi111_0; have HC111_0 := am hl111_0; clear hi111_0 hl111_0; replace p111 := eq_true p111; replace q111 := eq_true q111; have p112 : 0 ≤ (x4_2 : Int) := oA; have q112 : x4_2 < (s0_3.length : Int) := oA; obtain ⟨ad112, A112_0, c112_0, e112, hx112_0, hl112_0, hi112_0⟩ := at_L2 HSz26_3 x4_2 p112 q112; obtain rfl : ad111 = ad112 := (by injection e112); replace hx112_0 := ze0 HB.out hx112_0
                try (have hxe_ := hx111_0.symm.trans hx112_0; injection hxe_ with hxe_; injection hxe_ with hA_ hl_ hc_; subst hA_; subst hc_)
                have HR112_0 := am hi112_0; have HC112_0 := am hl112_0; clear hi112_0 hl112_0; replace p112 := eq_true p112; replace q112 := eq_true q112; have p113 : 0 ≤ (x5_3 : Int) := oA; have q113 : x5_3 < ((rd_L2 s0_3 x4_2).length : Int) := oA; obtain ⟨ad113, e113, hx113_0⟩ := Kd.at_int HR112_0.out x5_3 p113 q113; cases e113; replace hx113_0 := (by first | exact yr0 HK.out hx113_0 (by first | (rw [add_block]; exact hf112_0 _ rfl (by omega)) | exact hf112_0 _ rfl (by omega) | exact hf112_0 ad113 rfl (by omega)) | exact ze0 HB.out hx113_0); replace p113 := eq_true p113; replace q113 := eq_true q113
                go_wp2_with (first | (go_at_call 74; (with_reducible refine (yt0.calls (rd (rd_L2 s0_3 x4_2) x5_3) 0 (wrap64 ((s0_2.length : Int) - 1)) false _ A23.out).mono ?_); rintro e w' ⟨rfl, ⟨nd, rfl⟩⟩; (try first | exact ⟨rfl, _, World.drewN_drewN _ _ _⟩ | exact ⟨rfl, _, Eq.trans (World.drewN_drewN _ _ _) (congrArg (World.drewN _) (Nat.add_assoc _ _ _))⟩)) | go_quiet (first | (go_at_call 74; (with_reducible refine (yt0.calls (rd (rd_L2 s0_3 x4_2) x5_3) 0 (wrap64 ((s0_2.length : Int) - 1)) false _ A23.out).mono ?_); rintro e w' ⟨rfl, ⟨nd, rfl⟩⟩; (try first | exact ⟨rfl, _, World.drewN_drewN _ _ _⟩ | exact ⟨rfl, _, Eq.trans (World.drewN_drewN _ _ _) (congrArg (World.drewN _) (Nat.add_assoc _ _ _))⟩))))
                go_ret; exact ⟨tE, by repeat (first | (with_reducible first | exact HI0.out | apply IsP29.alloc | apply IsP29.drewN | apply IsP29.drew | apply IsP29.set_0 | apply IsP29.set_1) | exact HI0.out), tB, tK⟩
              ·rw [if_neg c22] at H; exact absurd H (by simp)
             ·rw [if_neg c21] at H; have c21b0 := decide_eq_false c21; clear c21; have H' := am H; clear H; obtain ⟨ASz27_2, cSz27_2, ASz27_3, cSz27_3, hcz27_0, hcz27_1, hcz27_2, hcz27_3, HSz27_2, HSz27_3⟩ := HI0.out; have p111 : 0 ≤ (x4_2 : Int) := oA; have q111 : x4_2 < (s0_3.length : Int) := oA; obtain ⟨ad111, A111_0, c111_0, e111, hx111_0, hl111_0, hi111_0⟩ := at_L2 HSz27_3 x4_2 p111 q111; cases e111; replace hx111_0 := ze0 HB.out hx111_0; have HR111_0 := am hi111_0; have HC111_0 := am hl111_0; clear hi111_0 hl111_0; replace p111 := eq_true p111; replace q111 := eq_true q111; go_wp2
              repeat (go_quiet (fail); try go_wp2)
              go_roundg k3
              case measure => have := HJ1.out; have := HK2.out; have := HK3.out; omega
              case rel => exact ⟨(wrap64 (x4_2 + 1)), (tF), H', ⟨by have := HJ1.out; have := HK2.out; have := HK3.out; omega⟩, ⟨by repeat (first | (with_reducible first | exact HI0.out | apply IsP29.alloc | apply IsP29.drewN | apply IsP29.drew | apply IsP29.set_0 | apply IsP29.set_1) | exact HI0.out)⟩, ⟨tK⟩, ⟨tB⟩⟩
            ·rw [if_neg c20] at H; exact absurd H (by simp)
           ·rw [if_neg c19] at H; exact absurd H (by simp)
        ·rw [if_neg c17] at H; have c17b0 : (((rd_L2 s0_3 x4_2).length : Int) == t110) = false := beq_eq_false_iff_ne.mpr c17; have c17b1 : (((rd_L2 s0_3 x4_2).length : Int) != t110) = true := bne_iff_ne.mpr c17; simp only [Option.some.injEq, Prod.mk.injEq] at H; obtain ⟨rfl, rfl, rfl⟩ := H; obtain ⟨ASz28_2, cSz28_2, ASz28_3, cSz28_3, hcz28_0, hcz28_1, hcz28_2, hcz28_3, HSz28_2, HSz28_3⟩ := HI0.out; have p109 : 0 ≤ (x4_2 : Int) := oA; have q109 : x4_2 < (s0_3.length : Int) := oA; obtain ⟨ad109, A109_0, c109_0, e109, hx109_0, hl109_0, hi109_0⟩ := at_L2 HSz28_3 x4_2 p109 q109; cases e109; replace hx109_0 := ze0 HB.out hx109_0; have HR109_0 := am hi109_0; have HC109_0 := am hl109_0; clear hi109_0 hl109_0; replace p109 := eq_true p109; replace q109 := eq_true q109
         go_wp2_with (first | (go_at_call 76; (with_reducible refine (yo0.calls k2 s0_0 t110 _ A16.out).mono ?_); rintro e w' ⟨rfl, ⟨nd, rfl⟩⟩; (try first | exact ⟨rfl, _, World.drewN_drewN _ _ _⟩ | exact ⟨rfl, _, Eq.trans (World.drewN_drewN _ _ _) (congrArg (World.drewN _) (Nat.add_assoc _ _ _))⟩)) | go_quiet (first | (go_at_call 76; (with_reducible refine (yo0.calls k2 s0_0 t110 _ A16.out).mono ?_); rintro e w' ⟨rfl, ⟨nd, rfl⟩⟩; (try first | exact ⟨rfl, _, World.drewN_drewN _ _ _⟩ | exact ⟨rfl, _, Eq.trans (World.drewN_drewN _ _ _) (congrArg (World.drewN _) (Nat.add_assoc _ _ _))⟩))))
         go_ret; exact ⟨tE, by repeat (first | (with_reducible first | exact HI0.out | apply IsP29.alloc | apply IsP29.drewN | apply IsP29.drew | apply IsP29.set_0 | apply IsP29.set_1) | exact HI0.out), tB, tK⟩
       ·rw [if_neg c15] at H; exact absurd H (by simp)
      ·rw [if_neg c14] at H; have c14b0 := decide_eq_false c14; clear c14; simp only [Option.some.injEq, Prod.mk.injEq] at H; obtain ⟨rfl, rfl, rfl⟩ := H; obtain ⟨ASz29_2, cSz29_2, ASz29_3, cSz29_3, hcz29_0, hcz29_1, hcz29_2, hcz29_3, HSz29_2, HSz29_3⟩ := HI0.out; go_wp2
       repeat (go_quiet (fail); try go_wp2)
       go_ret; exact ⟨tE, by repeat (first | (with_reducible first | exact HI0.out | apply IsP29.alloc | apply IsP29.drewN | apply IsP29.drew | apply IsP29.set_0 | apply IsP29.set_1) | exact HI0.out), tB, tK⟩
end Go.Proofs.YtocfcpicleomcaaDoor.X
