import Derived.Test.YtbkcllfgolmloaaDoorCL7
import Derived.Test.YtbkcllfgolmloaaDoorCL9
import Derived.Test.YtbkcllfgolmloaaDoorCL2
import Derived.Test.YtbkcllfgolmloaaDoorCL3
import Derived.Carry
import Derived.Outline
import Derived.Test.YtbkcllfgolmloaaDoorRows
import Derived.Test.YtbkcllfgolmloaaDoorCL5
import Derived.Lib.LaidTab
import Derived.LaidLaws
import Derived.ChangeVars
import Derived.JoinedOf
import Derived.JoinedAt
import Derived.Test.YtbkcllfgolmloaaDoorCards
import Derived.Test.YtbkcllfgolmloaaDoorTie
import Derived.WalkKit
import Derived.ProofKit
import Derived.OpenShut
import Derived.ShutString
import Derived.ChangeOld
import Derived.Below
import Derived.SizedLaws
import Derived.SevenTiedAt
namespace Go.Proofs.YtbkcllfgolmloaaDoor.X
open Go Go.RowKit Go.Proofs.YtbkcllfgolmloaaDoorW.PrintWords Go.Proofs.YtbkcllfgolmloaaDoorW.PrintLast Go.Proofs.YtbkcllfgolmloaaDoorW.PrintMore
set_option linter.unusedVariables false
set_option linter.unusedSimpArgs false
def nextTab (Q : Int) (t : List Int) (x : Int × Int × Int) : Option Int := if 0 ≤ x.1 ∧ x.1 < Q ∧ 0 ≤ x.2.1 ∧ x.2.1 < 3 ∧ 0 ≤ x.2.2 ∧ x.2.2 < 3 then some (t.getD (x.1 * 9 + x.2.1 * 3 + x.2.2).toNat 0) else none
def accTab (t : List Bool) (q : Int) : Option Bool := if 0 ≤ q ∧ q < (t.length : Int) then some (t.getD q.toNat false) else none
theorem three {a : Int} (h0 : 0 ≤ a) (h1 : a < 3) : a = 0 ∨ a = 1 ∨ a = 2 := by omega
def nextIsPrefixRelation : Int × Int × Int → Option Int := nextTab 1 [0, -1, -1, -1, 0, -1, 0, 0, 0]
set_option maxHeartbeats 4000000 in
set_option maxRecDepth 100000 in
theorem nextIsPrefixRelation_clo (w : World) : CloOK Tryd.prog w 79 #[] (fun x : Int × Int × Int => #[.int .i64 x.1, .int .i64 x.2.1, .int .i64 x.2.2]) nextIsPrefixRelation (Value.int .i64) := by
 refine ⟨⟨_, Tryd.func79, by kernel_rfl, rfl⟩, fun x r W hb h => ?_⟩
 obtain ⟨q, a, b⟩ := x
 have hc : 0 ≤ q ∧ q < 1 ∧ 0 ≤ a ∧ a < 3 ∧ 0 ≤ b ∧ b < 3 := by
  by_cases c : 0 ≤ q ∧ q < 1 ∧ 0 ≤ a ∧ a < 3 ∧ 0 ≤ b ∧ b < 3
  ·exact c
  ·unfold nextIsPrefixRelation nextTab at h; rw [if_neg c] at h; cases h
 obtain ⟨q0, q1, a0, a1, b0, b1⟩ := hc
 show Calls Tryd.prog 79 #[.int .i64 q, .int .i64 a, .int .i64 b] W fun e W' => e = .returned (.int .i64 r) ∧ Below W.heap.size W W'
 obtain rfl : q = 0 := by omega
 rcases three a0 a1 with rfl|rfl|rfl
 ·rcases three b0 b1 with rfl|rfl|rfl
  ·obtain rfl : r = 0 := Option.some.inj (h.symm.trans (by decide : nextIsPrefixRelation (0, 0, 0) = some 0))
   clear h q0 q1 a0 a1 b0 b1
   go_enter Tryd.func79, Tryd.ntmps79
   go_wp2
   go_ret
   exact ⟨rfl, Below.refl _ _⟩
  ·obtain rfl : r = (-1) := Option.some.inj (h.symm.trans (by decide : nextIsPrefixRelation (0, 0, 1) = some (-1)))
   clear h q0 q1 a0 a1 b0 b1
   go_enter Tryd.func79, Tryd.ntmps79
   go_wp2
   go_ret
   exact ⟨rfl, Below.refl _ _⟩
  ·obtain rfl : r = (-1) := Option.some.inj (h.symm.trans (by decide : nextIsPrefixRelation (0, 0, 2) = some (-1)))
   clear h q0 q1 a0 a1 b0 b1
   go_enter Tryd.func79, Tryd.ntmps79
   go_wp2
   go_ret
   exact ⟨rfl, Below.refl _ _⟩
 ·rcases three b0 b1 with rfl|rfl|rfl
  ·obtain rfl : r = (-1) := Option.some.inj (h.symm.trans (by decide : nextIsPrefixRelation (0, 1, 0) = some (-1)))
   clear h q0 q1 a0 a1 b0 b1
   go_enter Tryd.func79, Tryd.ntmps79
   go_wp2
   go_ret
   exact ⟨rfl, Below.refl _ _⟩
  ·obtain rfl : r = 0 := Option.some.inj (h.symm.trans (by decide : nextIsPrefixRelation (0, 1, 1) = some 0))
   clear h q0 q1 a0 a1 b0 b1
   go_enter Tryd.func79, Tryd.ntmps79
   go_wp2
   go_ret
   exact ⟨rfl, Below.refl _ _⟩
  ·obtain rfl : r = (-1) := Option.some.inj (h.symm.trans (by decide : nextIsPrefixRelation (0, 1, 2) = some (-1)))
   clear h q0 q1 a0 a1 b0 b1
   go_enter Tryd.func79, Tryd.ntmps79
   go_wp2
   go_ret
   exact ⟨rfl, Below.refl _ _⟩
 ·rcases three b0 b1 with rfl|rfl|rfl
  ·obtain rfl : r = 0 := Option.some.inj (h.symm.trans (by decide : nextIsPrefixRelation (0, 2, 0) = some 0))
   clear h q0 q1 a0 a1 b0 b1
   go_enter Tryd.func79, Tryd.ntmps79
   go_wp2
   go_ret
   exact ⟨rfl, Below.refl _ _⟩
  ·obtain rfl : r = 0 := Option.some.inj (h.symm.trans (by decide : nextIsPrefixRelation (0, 2, 1) = some 0))
   clear h q0 q1 a0 a1 b0 b1
   go_enter Tryd.func79, Tryd.ntmps79
   go_wp2
   go_ret
   exact ⟨rfl, Below.refl _ _⟩
  ·obtain rfl : r = 0 := Option.some.inj (h.symm.trans (by decide : nextIsPrefixRelation (0, 2, 2) = some 0))
   clear h q0 q1 a0 a1 b0 b1
   go_enter Tryd.func79, Tryd.ntmps79
   go_wp2
   go_ret
   exact ⟨rfl, Below.refl _ _⟩
def accIsPrefixRelation : Int → Option Bool := accTab [true]
set_option maxHeartbeats 4000000 in
set_option maxRecDepth 100000 in
theorem accIsPrefixRelation_clo (w : World) : CloOK Tryd.prog w 78 #[] (fun x : Int => #[.int .i64 x]) accIsPrefixRelation Value.bool := by
 refine ⟨⟨_, Tryd.func78, by kernel_rfl, rfl⟩, fun q r W hb h => ?_⟩
 have hc : 0 ≤ q ∧ q < 1 := by
  by_cases c : 0 ≤ q ∧ q < 1
  ·exact c
  ·unfold accIsPrefixRelation accTab at h; rw [if_neg (fun h_ => c ⟨h_.1, by have q_ := h_.2; simpa using q_⟩)] at h; cases h
 obtain ⟨q0, q1⟩ := hc
 show Calls Tryd.prog 78 #[.int .i64 q] W fun e W' => e = .returned (.bool r) ∧ Below W.heap.size W W'
 obtain rfl : q = 0 := by omega
 obtain rfl : r = true := Option.some.inj (h.symm.trans (by decide : accIsPrefixRelation 0 = some true))
 clear h q0 q1
 go_enter Tryd.func78, Tryd.ntmps78
 go_wp2
 go_ret
 exact ⟨rfl, Below.refl _ _⟩
def impl_IsPrefixRelation.f (k : Nat) : Option (Int × Int × List Bool × List (List Int)) := knownF k accIsPrefixRelation nextIsPrefixRelation
set_option maxHeartbeats 4000000 in
set_option maxRecDepth 100000 in
theorem impl_IsPrefixRelation.calls (k : Nat) (r1 : Int) (r2 : Int) (r3 : List Bool) (r4 : List (List Int)) (w : World) (htab : TabOK w) (h : impl_IsPrefixRelation.f k = some (r1, r2, r3, r4)) :
  Calls Tryd.prog 33 #[] w fun e w' => ∃ v2_ v3_ : Value, e = .returned (.agg #[.int .i64 r1, .int .i64 r2, v2_, v3_]) ∧ Kd.R Kd.bool 4 w' w.heap.size (fun _ => True) v2_ r3 ∧ Kd.S (Kd.slice 2 (Kd.int .i64)) 55 w' w.heap.size (fun _ => True) v3_ r4 ∧ Below w.heap.size w w' := by
 have HT := Aside0.mk htab
 have H := Aside0.mk (show knownF k accIsPrefixRelation nextIsPrefixRelation = some (r1, r2, r3, r4) from h)
 clear htab h
 go_enter Tryd.func33, Tryd.ntmps33
 go_wp2_with (fail)
 have HB0 := Aside0.mk (below_alloc (Below.refl w.heap.size w) (.cells #[.int .i64 0, .int .i64 0, .slice none 0 0, .slice none 0 0] 28))
 have HBR := Aside0.mk (blk_new w (.cells #[.int .i64 0, .int .i64 0, .slice none 0 0, .slice none 0 0] 28))
 generalize w.alloc _ = w1 at *
 with_reducible refine (known_calls w1 (tab_below HT.out HB0.out) (accIsPrefixRelation_clo _) (nextIsPrefixRelation_clo _) H.out).mono ?_
 rintro e w2 ⟨v2, v3, rfl, hR, hS, hb⟩
 obtain ⟨B2, d2, hv2⟩ := Kd.R_slice hR
 subst hv2
 obtain ⟨B3, d3, hv3⟩ := Kd.S_slice hS
 subst hv3
 have HB2 := Aside0.mk (below_then HB0.out HB0.out.size hb)
 have HBR2 := Aside0.mk (blk_below HBR.out hb)
 have HE := Aside0.mk (fill_endR (w := w) hR hS HB0.out.size HB2.out HBR2.out (by omega) (.int .i64 r1) (.int .i64 r2))
 have n0 : w2.cell? ⟨w.heap.size, 0, none⟩ = some (.int .i64 0) := (blk_cell HBR2.out 0).trans rfl
 have n1 : w2.cell? ⟨w.heap.size, 1, none⟩ = some (.int .i64 0) := (blk_cell HBR2.out 1).trans rfl
 have n2 : w2.cell? ⟨w.heap.size, 2, none⟩ = some (.slice none 0 0) := (blk_cell HBR2.out 2).trans rfl
 have n3 : w2.cell? ⟨w.heap.size, 3, none⟩ = some (.slice none 0 0) := (blk_cell HBR2.out 3).trans rfl
 have f0 := blk_frozen HBR2.out 0
 have f1 := blk_frozen HBR2.out 1
 have f2 := blk_frozen HBR2.out 2
 have f3 := blk_frozen HBR2.out 3
 clear HB0 HBR HB2 HBR2 hR hS hb
 go_wp2
 refine bodyPost_ret (v := .agg #[.int .i64 r1, .int .i64 r2, .slice B2 r3.length d2, .slice B3 r4.length d3]) (by simp [results, Tryd.results33, go_sem, n0, n1, n2, n3]) rfl ⟨_, _, rfl, HE.out⟩
def nextSuccessorRelation : Int × Int × Int → Option Int := nextTab 5 [1, 2, -1, 3, 1, -1, 4, -1, 1, 1, 2, -1, -1, 1, -1, -1, -1, 1, -1, -1, -1, 2, -1, -1, -1, -1, -1, -1, -1, -1, 3, -1, -1, 4, -1, -1, -1, -1, -1, -1, -1, -1, -1, -1, -1]
set_option maxHeartbeats 4000000 in
set_option maxRecDepth 100000 in
theorem nextSuccessorRelation_clo (w : World) : CloOK Tryd.prog w 81 #[] (fun x : Int × Int × Int => #[.int .i64 x.1, .int .i64 x.2.1, .int .i64 x.2.2]) nextSuccessorRelation (Value.int .i64) := by
 refine ⟨⟨_, Tryd.func81, by kernel_rfl, rfl⟩, fun x r W hb h => ?_⟩
 obtain ⟨q, a, b⟩ := x
 have hc : 0 ≤ q ∧ q < 5 ∧ 0 ≤ a ∧ a < 3 ∧ 0 ≤ b ∧ b < 3 := by
  by_cases c : 0 ≤ q ∧ q < 5 ∧ 0 ≤ a ∧ a < 3 ∧ 0 ≤ b ∧ b < 3
  ·exact c
  ·unfold nextSuccessorRelation nextTab at h; rw [if_neg c] at h; cases h
 obtain ⟨q0, q1, a0, a1, b0, b1⟩ := hc
 show Calls Tryd.prog 81 #[.int .i64 q, .int .i64 a, .int .i64 b] W fun e W' => e = .returned (.int .i64 r) ∧ Below W.heap.size W W'
 rcases (by omega : q = 0 ∨ q = 1 ∨ q = 2 ∨ q = 3 ∨ q = 4) with rfl|rfl|rfl|rfl|rfl
 ·skip
  rcases three a0 a1 with rfl|rfl|rfl
  ·rcases three b0 b1 with rfl|rfl|rfl
   ·obtain rfl : r = 1 := Option.some.inj (h.symm.trans (by decide : nextSuccessorRelation (0, 0, 0) = some 1))
    clear h q0 q1 a0 a1 b0 b1
    go_enter Tryd.func81, Tryd.ntmps81
    go_wp2
    go_ret
    exact ⟨rfl, Below.refl _ _⟩
   ·obtain rfl : r = 2 := Option.some.inj (h.symm.trans (by decide : nextSuccessorRelation (0, 0, 1) = some 2))
    clear h q0 q1 a0 a1 b0 b1
    go_enter Tryd.func81, Tryd.ntmps81
    go_wp2
    go_ret
    exact ⟨rfl, Below.refl _ _⟩
   ·obtain rfl : r = (-1) := Option.some.inj (h.symm.trans (by decide : nextSuccessorRelation (0, 0, 2) = some (-1)))
    clear h q0 q1 a0 a1 b0 b1
    go_enter Tryd.func81, Tryd.ntmps81
    go_wp2
    go_ret
    exact ⟨rfl, Below.refl _ _⟩
  ·rcases three b0 b1 with rfl|rfl|rfl
   ·obtain rfl : r = 3 := Option.some.inj (h.symm.trans (by decide : nextSuccessorRelation (0, 1, 0) = some 3))
    clear h q0 q1 a0 a1 b0 b1
    go_enter Tryd.func81, Tryd.ntmps81
    go_wp2
    go_ret
    exact ⟨rfl, Below.refl _ _⟩
   ·obtain rfl : r = 1 := Option.some.inj (h.symm.trans (by decide : nextSuccessorRelation (0, 1, 1) = some 1))
    clear h q0 q1 a0 a1 b0 b1
    go_enter Tryd.func81, Tryd.ntmps81
    go_wp2
    go_ret
    exact ⟨rfl, Below.refl _ _⟩
   ·obtain rfl : r = (-1) := Option.some.inj (h.symm.trans (by decide : nextSuccessorRelation (0, 1, 2) = some (-1)))
    clear h q0 q1 a0 a1 b0 b1
    go_enter Tryd.func81, Tryd.ntmps81
    go_wp2
    go_ret
    exact ⟨rfl, Below.refl _ _⟩
  ·rcases three b0 b1 with rfl|rfl|rfl
   ·obtain rfl : r = 4 := Option.some.inj (h.symm.trans (by decide : nextSuccessorRelation (0, 2, 0) = some 4))
    clear h q0 q1 a0 a1 b0 b1
    go_enter Tryd.func81, Tryd.ntmps81
    go_wp2
    go_ret
    exact ⟨rfl, Below.refl _ _⟩
   ·obtain rfl : r = (-1) := Option.some.inj (h.symm.trans (by decide : nextSuccessorRelation (0, 2, 1) = some (-1)))
    clear h q0 q1 a0 a1 b0 b1
    go_enter Tryd.func81, Tryd.ntmps81
    go_wp2
    go_ret
    exact ⟨rfl, Below.refl _ _⟩
   ·obtain rfl : r = 1 := Option.some.inj (h.symm.trans (by decide : nextSuccessorRelation (0, 2, 2) = some 1))
    clear h q0 q1 a0 a1 b0 b1
    go_enter Tryd.func81, Tryd.ntmps81
    go_wp2
    go_ret
    exact ⟨rfl, Below.refl _ _⟩
 ·skip
  rcases three a0 a1 with rfl|rfl|rfl
  ·rcases three b0 b1 with rfl|rfl|rfl
   ·obtain rfl : r = 1 := Option.some.inj (h.symm.trans (by decide : nextSuccessorRelation (1, 0, 0) = some 1))
    clear h q0 q1 a0 a1 b0 b1
    go_enter Tryd.func81, Tryd.ntmps81
    go_wp2
    go_ret
    exact ⟨rfl, Below.refl _ _⟩
   ·obtain rfl : r = 2 := Option.some.inj (h.symm.trans (by decide : nextSuccessorRelation (1, 0, 1) = some 2))
    clear h q0 q1 a0 a1 b0 b1
    go_enter Tryd.func81, Tryd.ntmps81
    go_wp2
    go_ret
    exact ⟨rfl, Below.refl _ _⟩
   ·obtain rfl : r = (-1) := Option.some.inj (h.symm.trans (by decide : nextSuccessorRelation (1, 0, 2) = some (-1)))
    clear h q0 q1 a0 a1 b0 b1
    go_enter Tryd.func81, Tryd.ntmps81
    go_wp2
    go_ret
    exact ⟨rfl, Below.refl _ _⟩
  ·rcases three b0 b1 with rfl|rfl|rfl
   ·obtain rfl : r = (-1) := Option.some.inj (h.symm.trans (by decide : nextSuccessorRelation (1, 1, 0) = some (-1)))
    clear h q0 q1 a0 a1 b0 b1
    go_enter Tryd.func81, Tryd.ntmps81
    go_wp2
    go_ret
    exact ⟨rfl, Below.refl _ _⟩
   ·obtain rfl : r = 1 := Option.some.inj (h.symm.trans (by decide : nextSuccessorRelation (1, 1, 1) = some 1))
    clear h q0 q1 a0 a1 b0 b1
    go_enter Tryd.func81, Tryd.ntmps81
    go_wp2
    go_ret
    exact ⟨rfl, Below.refl _ _⟩
   ·obtain rfl : r = (-1) := Option.some.inj (h.symm.trans (by decide : nextSuccessorRelation (1, 1, 2) = some (-1)))
    clear h q0 q1 a0 a1 b0 b1
    go_enter Tryd.func81, Tryd.ntmps81
    go_wp2
    go_ret
    exact ⟨rfl, Below.refl _ _⟩
  ·rcases three b0 b1 with rfl|rfl|rfl
   ·obtain rfl : r = (-1) := Option.some.inj (h.symm.trans (by decide : nextSuccessorRelation (1, 2, 0) = some (-1)))
    clear h q0 q1 a0 a1 b0 b1
    go_enter Tryd.func81, Tryd.ntmps81
    go_wp2
    go_ret
    exact ⟨rfl, Below.refl _ _⟩
   ·obtain rfl : r = (-1) := Option.some.inj (h.symm.trans (by decide : nextSuccessorRelation (1, 2, 1) = some (-1)))
    clear h q0 q1 a0 a1 b0 b1
    go_enter Tryd.func81, Tryd.ntmps81
    go_wp2
    go_ret
    exact ⟨rfl, Below.refl _ _⟩
   ·obtain rfl : r = 1 := Option.some.inj (h.symm.trans (by decide : nextSuccessorRelation (1, 2, 2) = some 1))
    clear h q0 q1 a0 a1 b0 b1
    go_enter Tryd.func81, Tryd.ntmps81
    go_wp2
    go_ret
    exact ⟨rfl, Below.refl _ _⟩
 ·skip
  rcases three a0 a1 with rfl|rfl|rfl
  ·rcases three b0 b1 with rfl|rfl|rfl
   ·obtain rfl : r = (-1) := Option.some.inj (h.symm.trans (by decide : nextSuccessorRelation (2, 0, 0) = some (-1)))
    clear h q0 q1 a0 a1 b0 b1
    go_enter Tryd.func81, Tryd.ntmps81
    go_wp2
    go_ret
    exact ⟨rfl, Below.refl _ _⟩
   ·obtain rfl : r = (-1) := Option.some.inj (h.symm.trans (by decide : nextSuccessorRelation (2, 0, 1) = some (-1)))
    clear h q0 q1 a0 a1 b0 b1
    go_enter Tryd.func81, Tryd.ntmps81
    go_wp2
    go_ret
    exact ⟨rfl, Below.refl _ _⟩
   ·obtain rfl : r = (-1) := Option.some.inj (h.symm.trans (by decide : nextSuccessorRelation (2, 0, 2) = some (-1)))
    clear h q0 q1 a0 a1 b0 b1
    go_enter Tryd.func81, Tryd.ntmps81
    go_wp2
    go_ret
    exact ⟨rfl, Below.refl _ _⟩
  ·rcases three b0 b1 with rfl|rfl|rfl
   ·obtain rfl : r = 2 := Option.some.inj (h.symm.trans (by decide : nextSuccessorRelation (2, 1, 0) = some 2))
    clear h q0 q1 a0 a1 b0 b1
    go_enter Tryd.func81, Tryd.ntmps81
    go_wp2
    go_ret
    exact ⟨rfl, Below.refl _ _⟩
   ·obtain rfl : r = (-1) := Option.some.inj (h.symm.trans (by decide : nextSuccessorRelation (2, 1, 1) = some (-1)))
    clear h q0 q1 a0 a1 b0 b1
    go_enter Tryd.func81, Tryd.ntmps81
    go_wp2
    go_ret
    exact ⟨rfl, Below.refl _ _⟩
   ·obtain rfl : r = (-1) := Option.some.inj (h.symm.trans (by decide : nextSuccessorRelation (2, 1, 2) = some (-1)))
    clear h q0 q1 a0 a1 b0 b1
    go_enter Tryd.func81, Tryd.ntmps81
    go_wp2
    go_ret
    exact ⟨rfl, Below.refl _ _⟩
  ·rcases three b0 b1 with rfl|rfl|rfl
   ·obtain rfl : r = (-1) := Option.some.inj (h.symm.trans (by decide : nextSuccessorRelation (2, 2, 0) = some (-1)))
    clear h q0 q1 a0 a1 b0 b1
    go_enter Tryd.func81, Tryd.ntmps81
    go_wp2
    go_ret
    exact ⟨rfl, Below.refl _ _⟩
   ·obtain rfl : r = (-1) := Option.some.inj (h.symm.trans (by decide : nextSuccessorRelation (2, 2, 1) = some (-1)))
    clear h q0 q1 a0 a1 b0 b1
    go_enter Tryd.func81, Tryd.ntmps81
    go_wp2
    go_ret
    exact ⟨rfl, Below.refl _ _⟩
   ·obtain rfl : r = (-1) := Option.some.inj (h.symm.trans (by decide : nextSuccessorRelation (2, 2, 2) = some (-1)))
    clear h q0 q1 a0 a1 b0 b1
    go_enter Tryd.func81, Tryd.ntmps81
    go_wp2
    go_ret
    exact ⟨rfl, Below.refl _ _⟩
 ·skip
  rcases three a0 a1 with rfl|rfl|rfl
  ·rcases three b0 b1 with rfl|rfl|rfl
   ·obtain rfl : r = (-1) := Option.some.inj (h.symm.trans (by decide : nextSuccessorRelation (3, 0, 0) = some (-1)))
    clear h q0 q1 a0 a1 b0 b1
    go_enter Tryd.func81, Tryd.ntmps81
    go_wp2
    go_ret
    exact ⟨rfl, Below.refl _ _⟩
   ·obtain rfl : r = (-1) := Option.some.inj (h.symm.trans (by decide : nextSuccessorRelation (3, 0, 1) = some (-1)))
    clear h q0 q1 a0 a1 b0 b1
    go_enter Tryd.func81, Tryd.ntmps81
    go_wp2
    go_ret
    exact ⟨rfl, Below.refl _ _⟩
   ·obtain rfl : r = (-1) := Option.some.inj (h.symm.trans (by decide : nextSuccessorRelation (3, 0, 2) = some (-1)))
    clear h q0 q1 a0 a1 b0 b1
    go_enter Tryd.func81, Tryd.ntmps81
    go_wp2
    go_ret
    exact ⟨rfl, Below.refl _ _⟩
  ·rcases three b0 b1 with rfl|rfl|rfl
   ·obtain rfl : r = 3 := Option.some.inj (h.symm.trans (by decide : nextSuccessorRelation (3, 1, 0) = some 3))
    clear h q0 q1 a0 a1 b0 b1
    go_enter Tryd.func81, Tryd.ntmps81
    go_wp2
    go_ret
    exact ⟨rfl, Below.refl _ _⟩
   ·obtain rfl : r = (-1) := Option.some.inj (h.symm.trans (by decide : nextSuccessorRelation (3, 1, 1) = some (-1)))
    clear h q0 q1 a0 a1 b0 b1
    go_enter Tryd.func81, Tryd.ntmps81
    go_wp2
    go_ret
    exact ⟨rfl, Below.refl _ _⟩
   ·obtain rfl : r = (-1) := Option.some.inj (h.symm.trans (by decide : nextSuccessorRelation (3, 1, 2) = some (-1)))
    clear h q0 q1 a0 a1 b0 b1
    go_enter Tryd.func81, Tryd.ntmps81
    go_wp2
    go_ret
    exact ⟨rfl, Below.refl _ _⟩
  ·rcases three b0 b1 with rfl|rfl|rfl
   ·obtain rfl : r = 4 := Option.some.inj (h.symm.trans (by decide : nextSuccessorRelation (3, 2, 0) = some 4))
    clear h q0 q1 a0 a1 b0 b1
    go_enter Tryd.func81, Tryd.ntmps81
    go_wp2
    go_ret
    exact ⟨rfl, Below.refl _ _⟩
   ·obtain rfl : r = (-1) := Option.some.inj (h.symm.trans (by decide : nextSuccessorRelation (3, 2, 1) = some (-1)))
    clear h q0 q1 a0 a1 b0 b1
    go_enter Tryd.func81, Tryd.ntmps81
    go_wp2
    go_ret
    exact ⟨rfl, Below.refl _ _⟩
   ·obtain rfl : r = (-1) := Option.some.inj (h.symm.trans (by decide : nextSuccessorRelation (3, 2, 2) = some (-1)))
    clear h q0 q1 a0 a1 b0 b1
    go_enter Tryd.func81, Tryd.ntmps81
    go_wp2
    go_ret
    exact ⟨rfl, Below.refl _ _⟩
 ·skip
  rcases three a0 a1 with rfl|rfl|rfl
  ·rcases three b0 b1 with rfl|rfl|rfl
   ·obtain rfl : r = (-1) := Option.some.inj (h.symm.trans (by decide : nextSuccessorRelation (4, 0, 0) = some (-1)))
    clear h q0 q1 a0 a1 b0 b1
    go_enter Tryd.func81, Tryd.ntmps81
    go_wp2
    go_ret
    exact ⟨rfl, Below.refl _ _⟩
   ·obtain rfl : r = (-1) := Option.some.inj (h.symm.trans (by decide : nextSuccessorRelation (4, 0, 1) = some (-1)))
    clear h q0 q1 a0 a1 b0 b1
    go_enter Tryd.func81, Tryd.ntmps81
    go_wp2
    go_ret
    exact ⟨rfl, Below.refl _ _⟩
   ·obtain rfl : r = (-1) := Option.some.inj (h.symm.trans (by decide : nextSuccessorRelation (4, 0, 2) = some (-1)))
    clear h q0 q1 a0 a1 b0 b1
    go_enter Tryd.func81, Tryd.ntmps81
    go_wp2
    go_ret
    exact ⟨rfl, Below.refl _ _⟩
  ·rcases three b0 b1 with rfl|rfl|rfl
   ·obtain rfl : r = (-1) := Option.some.inj (h.symm.trans (by decide : nextSuccessorRelation (4, 1, 0) = some (-1)))
    clear h q0 q1 a0 a1 b0 b1
    go_enter Tryd.func81, Tryd.ntmps81
    go_wp2
    go_ret
    exact ⟨rfl, Below.refl _ _⟩
   ·obtain rfl : r = (-1) := Option.some.inj (h.symm.trans (by decide : nextSuccessorRelation (4, 1, 1) = some (-1)))
    clear h q0 q1 a0 a1 b0 b1
    go_enter Tryd.func81, Tryd.ntmps81
    go_wp2
    go_ret
    exact ⟨rfl, Below.refl _ _⟩
   ·obtain rfl : r = (-1) := Option.some.inj (h.symm.trans (by decide : nextSuccessorRelation (4, 1, 2) = some (-1)))
    clear h q0 q1 a0 a1 b0 b1
    go_enter Tryd.func81, Tryd.ntmps81
    go_wp2
    go_ret
    exact ⟨rfl, Below.refl _ _⟩
  ·rcases three b0 b1 with rfl|rfl|rfl
   ·obtain rfl : r = (-1) := Option.some.inj (h.symm.trans (by decide : nextSuccessorRelation (4, 2, 0) = some (-1)))
    clear h q0 q1 a0 a1 b0 b1
    go_enter Tryd.func81, Tryd.ntmps81
    go_wp2
    go_ret
    exact ⟨rfl, Below.refl _ _⟩
   ·obtain rfl : r = (-1) := Option.some.inj (h.symm.trans (by decide : nextSuccessorRelation (4, 2, 1) = some (-1)))
    clear h q0 q1 a0 a1 b0 b1
    go_enter Tryd.func81, Tryd.ntmps81
    go_wp2
    go_ret
    exact ⟨rfl, Below.refl _ _⟩
   ·obtain rfl : r = (-1) := Option.some.inj (h.symm.trans (by decide : nextSuccessorRelation (4, 2, 2) = some (-1)))
    clear h q0 q1 a0 a1 b0 b1
    go_enter Tryd.func81, Tryd.ntmps81
    go_wp2
    go_ret
    exact ⟨rfl, Below.refl _ _⟩
def accSuccessorRelation : Int → Option Bool := accTab [false, false, true, false, true]
set_option maxHeartbeats 4000000 in
set_option maxRecDepth 100000 in
theorem accSuccessorRelation_clo (w : World) : CloOK Tryd.prog w 80 #[] (fun x : Int => #[.int .i64 x]) accSuccessorRelation Value.bool := by
 refine ⟨⟨_, Tryd.func80, by kernel_rfl, rfl⟩, fun q r W hb h => ?_⟩
 have hc : 0 ≤ q ∧ q < 5 := by
  by_cases c : 0 ≤ q ∧ q < 5
  ·exact c
  ·unfold accSuccessorRelation accTab at h; rw [if_neg (fun h_ => c ⟨h_.1, by have q_ := h_.2; simpa using q_⟩)] at h; cases h
 obtain ⟨q0, q1⟩ := hc
 show Calls Tryd.prog 80 #[.int .i64 q] W fun e W' => e = .returned (.bool r) ∧ Below W.heap.size W W'
 rcases (by omega : q = 0 ∨ q = 1 ∨ q = 2 ∨ q = 3 ∨ q = 4) with rfl|rfl|rfl|rfl|rfl
 ·obtain rfl : r = false := Option.some.inj (h.symm.trans (by decide : accSuccessorRelation 0 = some false))
  clear h q0 q1
  go_enter Tryd.func80, Tryd.ntmps80
  go_wp2
  go_ret
  exact ⟨rfl, Below.refl _ _⟩
 ·obtain rfl : r = false := Option.some.inj (h.symm.trans (by decide : accSuccessorRelation 1 = some false))
  clear h q0 q1
  go_enter Tryd.func80, Tryd.ntmps80
  go_wp2
  go_ret
  exact ⟨rfl, Below.refl _ _⟩
 ·obtain rfl : r = true := Option.some.inj (h.symm.trans (by decide : accSuccessorRelation 2 = some true))
  clear h q0 q1
  go_enter Tryd.func80, Tryd.ntmps80
  go_wp2
  go_ret
  exact ⟨rfl, Below.refl _ _⟩
 ·obtain rfl : r = false := Option.some.inj (h.symm.trans (by decide : accSuccessorRelation 3 = some false))
  clear h q0 q1
  go_enter Tryd.func80, Tryd.ntmps80
  go_wp2
  go_ret
  exact ⟨rfl, Below.refl _ _⟩
 ·obtain rfl : r = true := Option.some.inj (h.symm.trans (by decide : accSuccessorRelation 4 = some true))
  clear h q0 q1
  go_enter Tryd.func80, Tryd.ntmps80
  go_wp2
  go_ret
  exact ⟨rfl, Below.refl _ _⟩
def impl_SuccessorRelation.f (k : Nat) : Option (Int × Int × List Bool × List (List Int)) := knownF k accSuccessorRelation nextSuccessorRelation
set_option maxHeartbeats 4000000 in
set_option maxRecDepth 100000 in
theorem impl_SuccessorRelation.calls (k : Nat) (r1 : Int) (r2 : Int) (r3 : List Bool) (r4 : List (List Int)) (w : World) (htab : TabOK w) (h : impl_SuccessorRelation.f k = some (r1, r2, r3, r4)) :
  Calls Tryd.prog 35 #[] w fun e w' => ∃ v2_ v3_ : Value, e = .returned (.agg #[.int .i64 r1, .int .i64 r2, v2_, v3_]) ∧ Kd.R Kd.bool 4 w' w.heap.size (fun _ => True) v2_ r3 ∧ Kd.S (Kd.slice 2 (Kd.int .i64)) 55 w' w.heap.size (fun _ => True) v3_ r4 ∧ Below w.heap.size w w' := by
 have HT := Aside0.mk htab
 have H := Aside0.mk (show knownF k accSuccessorRelation nextSuccessorRelation = some (r1, r2, r3, r4) from h)
 clear htab h
 go_enter Tryd.func35, Tryd.ntmps35
 go_wp2_with (fail)
 have HB0 := Aside0.mk (below_alloc (Below.refl w.heap.size w) (.cells #[.int .i64 0, .int .i64 0, .slice none 0 0, .slice none 0 0] 28))
 have HBR := Aside0.mk (blk_new w (.cells #[.int .i64 0, .int .i64 0, .slice none 0 0, .slice none 0 0] 28))
 generalize w.alloc _ = w1 at *
 with_reducible refine (known_calls w1 (tab_below HT.out HB0.out) (accSuccessorRelation_clo _) (nextSuccessorRelation_clo _) H.out).mono ?_
 rintro e w2 ⟨v2, v3, rfl, hR, hS, hb⟩
 obtain ⟨B2, d2, hv2⟩ := Kd.R_slice hR
 subst hv2
 obtain ⟨B3, d3, hv3⟩ := Kd.S_slice hS
 subst hv3
 have HB2 := Aside0.mk (below_then HB0.out HB0.out.size hb)
 have HBR2 := Aside0.mk (blk_below HBR.out hb)
 have HE := Aside0.mk (fill_endR (w := w) hR hS HB0.out.size HB2.out HBR2.out (by omega) (.int .i64 r1) (.int .i64 r2))
 have n0 : w2.cell? ⟨w.heap.size, 0, none⟩ = some (.int .i64 0) := (blk_cell HBR2.out 0).trans rfl
 have n1 : w2.cell? ⟨w.heap.size, 1, none⟩ = some (.int .i64 0) := (blk_cell HBR2.out 1).trans rfl
 have n2 : w2.cell? ⟨w.heap.size, 2, none⟩ = some (.slice none 0 0) := (blk_cell HBR2.out 2).trans rfl
 have n3 : w2.cell? ⟨w.heap.size, 3, none⟩ = some (.slice none 0 0) := (blk_cell HBR2.out 3).trans rfl
 have f0 := blk_frozen HBR2.out 0
 have f1 := blk_frozen HBR2.out 1
 have f2 := blk_frozen HBR2.out 2
 have f3 := blk_frozen HBR2.out 3
 clear HB0 HBR HB2 HBR2 hR hS hb
 go_wp2
 refine bodyPost_ret (v := .agg #[.int .i64 r1, .int .i64 r2, .slice B2 r3.length d2, .slice B3 r4.length d3]) (by simp [results, Tryd.results35, go_sem, n0, n1, n2, n3]) rfl ⟨_, _, rfl, HE.out⟩
def nextOrderRelation : Int × Int × Int → Option Int := nextTab 4 [0, 1, -1, 2, 0, -1, 3, 3, -1, 1, 1, -1, 1, 1, -1, 3, 3, -1, 2, 2, -1, 2, 2, -1, 3, 3, -1, 3, 3, -1, 3, 3, -1, 3, 3, -1]
set_option maxHeartbeats 4000000 in
set_option maxRecDepth 100000 in
theorem nextOrderRelation_clo (w : World) : CloOK Tryd.prog w 86 #[] (fun x : Int × Int × Int => #[.int .i64 x.1, .int .i64 x.2.1, .int .i64 x.2.2]) nextOrderRelation (Value.int .i64) := by
 refine ⟨⟨_, Tryd.func86, by kernel_rfl, rfl⟩, fun x r W hb h => ?_⟩
 obtain ⟨q, a, b⟩ := x
 have hc : 0 ≤ q ∧ q < 4 ∧ 0 ≤ a ∧ a < 3 ∧ 0 ≤ b ∧ b < 3 := by
  by_cases c : 0 ≤ q ∧ q < 4 ∧ 0 ≤ a ∧ a < 3 ∧ 0 ≤ b ∧ b < 3
  ·exact c
  ·unfold nextOrderRelation nextTab at h; rw [if_neg c] at h; cases h
 obtain ⟨q0, q1, a0, a1, b0, b1⟩ := hc
 show Calls Tryd.prog 86 #[.int .i64 q, .int .i64 a, .int .i64 b] W fun e W' => e = .returned (.int .i64 r) ∧ Below W.heap.size W W'
 rcases (by omega : q = 0 ∨ q = 1 ∨ q = 2 ∨ q = 3) with rfl|rfl|rfl|rfl
 ·skip
  rcases three a0 a1 with rfl|rfl|rfl
  ·rcases three b0 b1 with rfl|rfl|rfl
   ·obtain rfl : r = 0 := Option.some.inj (h.symm.trans (by decide : nextOrderRelation (0, 0, 0) = some 0))
    clear h q0 q1 a0 a1 b0 b1
    go_enter Tryd.func86, Tryd.ntmps86
    go_wp2
    go_ret
    exact ⟨rfl, Below.refl _ _⟩
   ·obtain rfl : r = 1 := Option.some.inj (h.symm.trans (by decide : nextOrderRelation (0, 0, 1) = some 1))
    clear h q0 q1 a0 a1 b0 b1
    go_enter Tryd.func86, Tryd.ntmps86
    go_wp2
    go_ret
    exact ⟨rfl, Below.refl _ _⟩
   ·obtain rfl : r = (-1) := Option.some.inj (h.symm.trans (by decide : nextOrderRelation (0, 0, 2) = some (-1)))
    clear h q0 q1 a0 a1 b0 b1
    go_enter Tryd.func86, Tryd.ntmps86
    go_wp2
    go_ret
    exact ⟨rfl, Below.refl _ _⟩
  ·rcases three b0 b1 with rfl|rfl|rfl
   ·obtain rfl : r = 2 := Option.some.inj (h.symm.trans (by decide : nextOrderRelation (0, 1, 0) = some 2))
    clear h q0 q1 a0 a1 b0 b1
    go_enter Tryd.func86, Tryd.ntmps86
    go_wp2
    go_ret
    exact ⟨rfl, Below.refl _ _⟩
   ·obtain rfl : r = 0 := Option.some.inj (h.symm.trans (by decide : nextOrderRelation (0, 1, 1) = some 0))
    clear h q0 q1 a0 a1 b0 b1
    go_enter Tryd.func86, Tryd.ntmps86
    go_wp2
    go_ret
    exact ⟨rfl, Below.refl _ _⟩
   ·obtain rfl : r = (-1) := Option.some.inj (h.symm.trans (by decide : nextOrderRelation (0, 1, 2) = some (-1)))
    clear h q0 q1 a0 a1 b0 b1
    go_enter Tryd.func86, Tryd.ntmps86
    go_wp2
    go_ret
    exact ⟨rfl, Below.refl _ _⟩
  ·rcases three b0 b1 with rfl|rfl|rfl
   ·obtain rfl : r = 3 := Option.some.inj (h.symm.trans (by decide : nextOrderRelation (0, 2, 0) = some 3))
    clear h q0 q1 a0 a1 b0 b1
    go_enter Tryd.func86, Tryd.ntmps86
    go_wp2
    go_ret
    exact ⟨rfl, Below.refl _ _⟩
   ·obtain rfl : r = 3 := Option.some.inj (h.symm.trans (by decide : nextOrderRelation (0, 2, 1) = some 3))
    clear h q0 q1 a0 a1 b0 b1
    go_enter Tryd.func86, Tryd.ntmps86
    go_wp2
    go_ret
    exact ⟨rfl, Below.refl _ _⟩
   ·obtain rfl : r = (-1) := Option.some.inj (h.symm.trans (by decide : nextOrderRelation (0, 2, 2) = some (-1)))
    clear h q0 q1 a0 a1 b0 b1
    go_enter Tryd.func86, Tryd.ntmps86
    go_wp2
    go_ret
    exact ⟨rfl, Below.refl _ _⟩
 ·skip
  rcases three a0 a1 with rfl|rfl|rfl
  ·rcases three b0 b1 with rfl|rfl|rfl
   ·obtain rfl : r = 1 := Option.some.inj (h.symm.trans (by decide : nextOrderRelation (1, 0, 0) = some 1))
    clear h q0 q1 a0 a1 b0 b1
    go_enter Tryd.func86, Tryd.ntmps86
    go_wp2
    go_ret
    exact ⟨rfl, Below.refl _ _⟩
   ·obtain rfl : r = 1 := Option.some.inj (h.symm.trans (by decide : nextOrderRelation (1, 0, 1) = some 1))
    clear h q0 q1 a0 a1 b0 b1
    go_enter Tryd.func86, Tryd.ntmps86
    go_wp2
    go_ret
    exact ⟨rfl, Below.refl _ _⟩
   ·obtain rfl : r = (-1) := Option.some.inj (h.symm.trans (by decide : nextOrderRelation (1, 0, 2) = some (-1)))
    clear h q0 q1 a0 a1 b0 b1
    go_enter Tryd.func86, Tryd.ntmps86
    go_wp2
    go_ret
    exact ⟨rfl, Below.refl _ _⟩
  ·rcases three b0 b1 with rfl|rfl|rfl
   ·obtain rfl : r = 1 := Option.some.inj (h.symm.trans (by decide : nextOrderRelation (1, 1, 0) = some 1))
    clear h q0 q1 a0 a1 b0 b1
    go_enter Tryd.func86, Tryd.ntmps86
    go_wp2
    go_ret
    exact ⟨rfl, Below.refl _ _⟩
   ·obtain rfl : r = 1 := Option.some.inj (h.symm.trans (by decide : nextOrderRelation (1, 1, 1) = some 1))
    clear h q0 q1 a0 a1 b0 b1
    go_enter Tryd.func86, Tryd.ntmps86
    go_wp2
    go_ret
    exact ⟨rfl, Below.refl _ _⟩
   ·obtain rfl : r = (-1) := Option.some.inj (h.symm.trans (by decide : nextOrderRelation (1, 1, 2) = some (-1)))
    clear h q0 q1 a0 a1 b0 b1
    go_enter Tryd.func86, Tryd.ntmps86
    go_wp2
    go_ret
    exact ⟨rfl, Below.refl _ _⟩
  ·rcases three b0 b1 with rfl|rfl|rfl
   ·obtain rfl : r = 3 := Option.some.inj (h.symm.trans (by decide : nextOrderRelation (1, 2, 0) = some 3))
    clear h q0 q1 a0 a1 b0 b1
    go_enter Tryd.func86, Tryd.ntmps86
    go_wp2
    go_ret
    exact ⟨rfl, Below.refl _ _⟩
   ·obtain rfl : r = 3 := Option.some.inj (h.symm.trans (by decide : nextOrderRelation (1, 2, 1) = some 3))
    clear h q0 q1 a0 a1 b0 b1
    go_enter Tryd.func86, Tryd.ntmps86
    go_wp2
    go_ret
    exact ⟨rfl, Below.refl _ _⟩
   ·obtain rfl : r = (-1) := Option.some.inj (h.symm.trans (by decide : nextOrderRelation (1, 2, 2) = some (-1)))
    clear h q0 q1 a0 a1 b0 b1
    go_enter Tryd.func86, Tryd.ntmps86
    go_wp2
    go_ret
    exact ⟨rfl, Below.refl _ _⟩
 ·skip
  rcases three a0 a1 with rfl|rfl|rfl
  ·rcases three b0 b1 with rfl|rfl|rfl
   ·obtain rfl : r = 2 := Option.some.inj (h.symm.trans (by decide : nextOrderRelation (2, 0, 0) = some 2))
    clear h q0 q1 a0 a1 b0 b1
    go_enter Tryd.func86, Tryd.ntmps86
    go_wp2
    go_ret
    exact ⟨rfl, Below.refl _ _⟩
   ·obtain rfl : r = 2 := Option.some.inj (h.symm.trans (by decide : nextOrderRelation (2, 0, 1) = some 2))
    clear h q0 q1 a0 a1 b0 b1
    go_enter Tryd.func86, Tryd.ntmps86
    go_wp2
    go_ret
    exact ⟨rfl, Below.refl _ _⟩
   ·obtain rfl : r = (-1) := Option.some.inj (h.symm.trans (by decide : nextOrderRelation (2, 0, 2) = some (-1)))
    clear h q0 q1 a0 a1 b0 b1
    go_enter Tryd.func86, Tryd.ntmps86
    go_wp2
    go_ret
    exact ⟨rfl, Below.refl _ _⟩
  ·rcases three b0 b1 with rfl|rfl|rfl
   ·obtain rfl : r = 2 := Option.some.inj (h.symm.trans (by decide : nextOrderRelation (2, 1, 0) = some 2))
    clear h q0 q1 a0 a1 b0 b1
    go_enter Tryd.func86, Tryd.ntmps86
    go_wp2
    go_ret
    exact ⟨rfl, Below.refl _ _⟩
   ·obtain rfl : r = 2 := Option.some.inj (h.symm.trans (by decide : nextOrderRelation (2, 1, 1) = some 2))
    clear h q0 q1 a0 a1 b0 b1
    go_enter Tryd.func86, Tryd.ntmps86
    go_wp2
    go_ret
    exact ⟨rfl, Below.refl _ _⟩
   ·obtain rfl : r = (-1) := Option.some.inj (h.symm.trans (by decide : nextOrderRelation (2, 1, 2) = some (-1)))
    clear h q0 q1 a0 a1 b0 b1
    go_enter Tryd.func86, Tryd.ntmps86
    go_wp2
    go_ret
    exact ⟨rfl, Below.refl _ _⟩
  ·rcases three b0 b1 with rfl|rfl|rfl
   ·obtain rfl : r = 3 := Option.some.inj (h.symm.trans (by decide : nextOrderRelation (2, 2, 0) = some 3))
    clear h q0 q1 a0 a1 b0 b1
    go_enter Tryd.func86, Tryd.ntmps86
    go_wp2
    go_ret
    exact ⟨rfl, Below.refl _ _⟩
   ·obtain rfl : r = 3 := Option.some.inj (h.symm.trans (by decide : nextOrderRelation (2, 2, 1) = some 3))
    clear h q0 q1 a0 a1 b0 b1
    go_enter Tryd.func86, Tryd.ntmps86
    go_wp2
    go_ret
    exact ⟨rfl, Below.refl _ _⟩
   ·obtain rfl : r = (-1) := Option.some.inj (h.symm.trans (by decide : nextOrderRelation (2, 2, 2) = some (-1)))
    clear h q0 q1 a0 a1 b0 b1
    go_enter Tryd.func86, Tryd.ntmps86
    go_wp2
    go_ret
    exact ⟨rfl, Below.refl _ _⟩
 ·skip
  rcases three a0 a1 with rfl|rfl|rfl
  ·rcases three b0 b1 with rfl|rfl|rfl
   ·obtain rfl : r = 3 := Option.some.inj (h.symm.trans (by decide : nextOrderRelation (3, 0, 0) = some 3))
    clear h q0 q1 a0 a1 b0 b1
    go_enter Tryd.func86, Tryd.ntmps86
    go_wp2
    go_ret
    exact ⟨rfl, Below.refl _ _⟩
   ·obtain rfl : r = 3 := Option.some.inj (h.symm.trans (by decide : nextOrderRelation (3, 0, 1) = some 3))
    clear h q0 q1 a0 a1 b0 b1
    go_enter Tryd.func86, Tryd.ntmps86
    go_wp2
    go_ret
    exact ⟨rfl, Below.refl _ _⟩
   ·obtain rfl : r = (-1) := Option.some.inj (h.symm.trans (by decide : nextOrderRelation (3, 0, 2) = some (-1)))
    clear h q0 q1 a0 a1 b0 b1
    go_enter Tryd.func86, Tryd.ntmps86
    go_wp2
    go_ret
    exact ⟨rfl, Below.refl _ _⟩
  ·rcases three b0 b1 with rfl|rfl|rfl
   ·obtain rfl : r = 3 := Option.some.inj (h.symm.trans (by decide : nextOrderRelation (3, 1, 0) = some 3))
    clear h q0 q1 a0 a1 b0 b1
    go_enter Tryd.func86, Tryd.ntmps86
    go_wp2
    go_ret
    exact ⟨rfl, Below.refl _ _⟩
   ·obtain rfl : r = 3 := Option.some.inj (h.symm.trans (by decide : nextOrderRelation (3, 1, 1) = some 3))
    clear h q0 q1 a0 a1 b0 b1
    go_enter Tryd.func86, Tryd.ntmps86
    go_wp2
    go_ret
    exact ⟨rfl, Below.refl _ _⟩
   ·obtain rfl : r = (-1) := Option.some.inj (h.symm.trans (by decide : nextOrderRelation (3, 1, 2) = some (-1)))
    clear h q0 q1 a0 a1 b0 b1
    go_enter Tryd.func86, Tryd.ntmps86
    go_wp2
    go_ret
    exact ⟨rfl, Below.refl _ _⟩
  ·rcases three b0 b1 with rfl|rfl|rfl
   ·obtain rfl : r = 3 := Option.some.inj (h.symm.trans (by decide : nextOrderRelation (3, 2, 0) = some 3))
    clear h q0 q1 a0 a1 b0 b1
    go_enter Tryd.func86, Tryd.ntmps86
    go_wp2
    go_ret
    exact ⟨rfl, Below.refl _ _⟩
   ·obtain rfl : r = 3 := Option.some.inj (h.symm.trans (by decide : nextOrderRelation (3, 2, 1) = some 3))
    clear h q0 q1 a0 a1 b0 b1
    go_enter Tryd.func86, Tryd.ntmps86
    go_wp2
    go_ret
    exact ⟨rfl, Below.refl _ _⟩
   ·obtain rfl : r = (-1) := Option.some.inj (h.symm.trans (by decide : nextOrderRelation (3, 2, 2) = some (-1)))
    clear h q0 q1 a0 a1 b0 b1
    go_enter Tryd.func86, Tryd.ntmps86
    go_wp2
    go_ret
    exact ⟨rfl, Below.refl _ _⟩
def accOrderRelation : Int → Option Bool := accTab [false, true, false, true]
set_option maxHeartbeats 4000000 in
set_option maxRecDepth 100000 in
theorem accOrderRelation_clo (w : World) : CloOK Tryd.prog w 85 #[] (fun x : Int => #[.int .i64 x]) accOrderRelation Value.bool := by
 refine ⟨⟨_, Tryd.func85, by kernel_rfl, rfl⟩, fun q r W hb h => ?_⟩
 have hc : 0 ≤ q ∧ q < 4 := by
  by_cases c : 0 ≤ q ∧ q < 4
  ·exact c
  ·unfold accOrderRelation accTab at h; rw [if_neg (fun h_ => c ⟨h_.1, by have q_ := h_.2; simpa using q_⟩)] at h; cases h
 obtain ⟨q0, q1⟩ := hc
 show Calls Tryd.prog 85 #[.int .i64 q] W fun e W' => e = .returned (.bool r) ∧ Below W.heap.size W W'
 rcases (by omega : q = 0 ∨ q = 1 ∨ q = 2 ∨ q = 3) with rfl|rfl|rfl|rfl
 ·obtain rfl : r = false := Option.some.inj (h.symm.trans (by decide : accOrderRelation 0 = some false))
  clear h q0 q1
  go_enter Tryd.func85, Tryd.ntmps85
  go_wp2
  go_ret
  exact ⟨rfl, Below.refl _ _⟩
 ·obtain rfl : r = true := Option.some.inj (h.symm.trans (by decide : accOrderRelation 1 = some true))
  clear h q0 q1
  go_enter Tryd.func85, Tryd.ntmps85
  go_wp2
  go_ret
  exact ⟨rfl, Below.refl _ _⟩
 ·obtain rfl : r = false := Option.some.inj (h.symm.trans (by decide : accOrderRelation 2 = some false))
  clear h q0 q1
  go_enter Tryd.func85, Tryd.ntmps85
  go_wp2
  go_ret
  exact ⟨rfl, Below.refl _ _⟩
 ·obtain rfl : r = true := Option.some.inj (h.symm.trans (by decide : accOrderRelation 3 = some true))
  clear h q0 q1
  go_enter Tryd.func85, Tryd.ntmps85
  go_wp2
  go_ret
  exact ⟨rfl, Below.refl _ _⟩
def impl_OrderRelation.f (k : Nat) : Option (Int × Int × List Bool × List (List Int)) := knownF k accOrderRelation nextOrderRelation
set_option maxHeartbeats 4000000 in
set_option maxRecDepth 100000 in
theorem impl_OrderRelation.calls (k : Nat) (r1 : Int) (r2 : Int) (r3 : List Bool) (r4 : List (List Int)) (w : World) (htab : TabOK w) (h : impl_OrderRelation.f k = some (r1, r2, r3, r4)) :
  Calls Tryd.prog 39 #[] w fun e w' => ∃ v2_ v3_ : Value, e = .returned (.agg #[.int .i64 r1, .int .i64 r2, v2_, v3_]) ∧ Kd.R Kd.bool 4 w' w.heap.size (fun _ => True) v2_ r3 ∧ Kd.S (Kd.slice 2 (Kd.int .i64)) 55 w' w.heap.size (fun _ => True) v3_ r4 ∧ Below w.heap.size w w' := by
 have HT := Aside0.mk htab
 have H := Aside0.mk (show knownF k accOrderRelation nextOrderRelation = some (r1, r2, r3, r4) from h)
 clear htab h
 go_enter Tryd.func39, Tryd.ntmps39
 go_wp2_with (fail)
 have HB0 := Aside0.mk (below_alloc (Below.refl w.heap.size w) (.cells #[.int .i64 0, .int .i64 0, .slice none 0 0, .slice none 0 0] 28))
 have HBR := Aside0.mk (blk_new w (.cells #[.int .i64 0, .int .i64 0, .slice none 0 0, .slice none 0 0] 28))
 generalize w.alloc _ = w1 at *
 with_reducible refine (known_calls w1 (tab_below HT.out HB0.out) (accOrderRelation_clo _) (nextOrderRelation_clo _) H.out).mono ?_
 rintro e w2 ⟨v2, v3, rfl, hR, hS, hb⟩
 obtain ⟨B2, d2, hv2⟩ := Kd.R_slice hR
 subst hv2
 obtain ⟨B3, d3, hv3⟩ := Kd.S_slice hS
 subst hv3
 have HB2 := Aside0.mk (below_then HB0.out HB0.out.size hb)
 have HBR2 := Aside0.mk (blk_below HBR.out hb)
 have HE := Aside0.mk (fill_endR (w := w) hR hS HB0.out.size HB2.out HBR2.out (by omega) (.int .i64 r1) (.int .i64 r2))
 have n0 : w2.cell? ⟨w.heap.size, 0, none⟩ = some (.int .i64 0) := (blk_cell HBR2.out 0).trans rfl
 have n1 : w2.cell? ⟨w.heap.size, 1, none⟩ = some (.int .i64 0) := (blk_cell HBR2.out 1).trans rfl
 have n2 : w2.cell? ⟨w.heap.size, 2, none⟩ = some (.slice none 0 0) := (blk_cell HBR2.out 2).trans rfl
 have n3 : w2.cell? ⟨w.heap.size, 3, none⟩ = some (.slice none 0 0) := (blk_cell HBR2.out 3).trans rfl
 have f0 := blk_frozen HBR2.out 0
 have f1 := blk_frozen HBR2.out 1
 have f2 := blk_frozen HBR2.out 2
 have f3 := blk_frozen HBR2.out 3
 clear HB0 HBR HB2 HBR2 hR hS hb
 go_wp2
 refine bodyPost_ret (v := .agg #[.int .i64 r1, .int .i64 r2, .slice B2 r3.length d2, .slice B3 r4.length d3]) (by simp [results, Tryd.results39, go_sem, n0, n1, n2, n3]) rfl ⟨_, _, rfl, HE.out⟩
def nextLengthRelation : Int × Int × Int → Option Int := nextTab 2 [0, 0, -1, 0, 0, -1, 1, 1, -1, 1, 1, -1, 1, 1, -1, 1, 1, -1]
set_option maxHeartbeats 4000000 in
set_option maxRecDepth 100000 in
theorem nextLengthRelation_clo (w : World) : CloOK Tryd.prog w 84 #[] (fun x : Int × Int × Int => #[.int .i64 x.1, .int .i64 x.2.1, .int .i64 x.2.2]) nextLengthRelation (Value.int .i64) := by
 refine ⟨⟨_, Tryd.func84, by kernel_rfl, rfl⟩, fun x r W hb h => ?_⟩
 obtain ⟨q, a, b⟩ := x
 have hc : 0 ≤ q ∧ q < 2 ∧ 0 ≤ a ∧ a < 3 ∧ 0 ≤ b ∧ b < 3 := by
  by_cases c : 0 ≤ q ∧ q < 2 ∧ 0 ≤ a ∧ a < 3 ∧ 0 ≤ b ∧ b < 3
  ·exact c
  ·unfold nextLengthRelation nextTab at h; rw [if_neg c] at h; cases h
 obtain ⟨q0, q1, a0, a1, b0, b1⟩ := hc
 show Calls Tryd.prog 84 #[.int .i64 q, .int .i64 a, .int .i64 b] W fun e W' => e = .returned (.int .i64 r) ∧ Below W.heap.size W W'
 rcases (by omega : q = 0 ∨ q = 1) with rfl|rfl
 ·skip
  rcases three a0 a1 with rfl|rfl|rfl
  ·rcases three b0 b1 with rfl|rfl|rfl
   ·obtain rfl : r = 0 := Option.some.inj (h.symm.trans (by decide : nextLengthRelation (0, 0, 0) = some 0))
    clear h q0 q1 a0 a1 b0 b1
    go_enter Tryd.func84, Tryd.ntmps84
    go_wp2
    go_ret
    exact ⟨rfl, Below.refl _ _⟩
   ·obtain rfl : r = 0 := Option.some.inj (h.symm.trans (by decide : nextLengthRelation (0, 0, 1) = some 0))
    clear h q0 q1 a0 a1 b0 b1
    go_enter Tryd.func84, Tryd.ntmps84
    go_wp2
    go_ret
    exact ⟨rfl, Below.refl _ _⟩
   ·obtain rfl : r = (-1) := Option.some.inj (h.symm.trans (by decide : nextLengthRelation (0, 0, 2) = some (-1)))
    clear h q0 q1 a0 a1 b0 b1
    go_enter Tryd.func84, Tryd.ntmps84
    go_wp2
    go_ret
    exact ⟨rfl, Below.refl _ _⟩
  ·rcases three b0 b1 with rfl|rfl|rfl
   ·obtain rfl : r = 0 := Option.some.inj (h.symm.trans (by decide : nextLengthRelation (0, 1, 0) = some 0))
    clear h q0 q1 a0 a1 b0 b1
    go_enter Tryd.func84, Tryd.ntmps84
    go_wp2
    go_ret
    exact ⟨rfl, Below.refl _ _⟩
   ·obtain rfl : r = 0 := Option.some.inj (h.symm.trans (by decide : nextLengthRelation (0, 1, 1) = some 0))
    clear h q0 q1 a0 a1 b0 b1
    go_enter Tryd.func84, Tryd.ntmps84
    go_wp2
    go_ret
    exact ⟨rfl, Below.refl _ _⟩
   ·obtain rfl : r = (-1) := Option.some.inj (h.symm.trans (by decide : nextLengthRelation (0, 1, 2) = some (-1)))
    clear h q0 q1 a0 a1 b0 b1
    go_enter Tryd.func84, Tryd.ntmps84
    go_wp2
    go_ret
    exact ⟨rfl, Below.refl _ _⟩
  ·rcases three b0 b1 with rfl|rfl|rfl
   ·obtain rfl : r = 1 := Option.some.inj (h.symm.trans (by decide : nextLengthRelation (0, 2, 0) = some 1))
    clear h q0 q1 a0 a1 b0 b1
    go_enter Tryd.func84, Tryd.ntmps84
    go_wp2
    go_ret
    exact ⟨rfl, Below.refl _ _⟩
   ·obtain rfl : r = 1 := Option.some.inj (h.symm.trans (by decide : nextLengthRelation (0, 2, 1) = some 1))
    clear h q0 q1 a0 a1 b0 b1
    go_enter Tryd.func84, Tryd.ntmps84
    go_wp2
    go_ret
    exact ⟨rfl, Below.refl _ _⟩
   ·obtain rfl : r = (-1) := Option.some.inj (h.symm.trans (by decide : nextLengthRelation (0, 2, 2) = some (-1)))
    clear h q0 q1 a0 a1 b0 b1
    go_enter Tryd.func84, Tryd.ntmps84
    go_wp2
    go_ret
    exact ⟨rfl, Below.refl _ _⟩
 ·skip
  rcases three a0 a1 with rfl|rfl|rfl
  ·rcases three b0 b1 with rfl|rfl|rfl
   ·obtain rfl : r = 1 := Option.some.inj (h.symm.trans (by decide : nextLengthRelation (1, 0, 0) = some 1))
    clear h q0 q1 a0 a1 b0 b1
    go_enter Tryd.func84, Tryd.ntmps84
    go_wp2
    go_ret
    exact ⟨rfl, Below.refl _ _⟩
   ·obtain rfl : r = 1 := Option.some.inj (h.symm.trans (by decide : nextLengthRelation (1, 0, 1) = some 1))
    clear h q0 q1 a0 a1 b0 b1
    go_enter Tryd.func84, Tryd.ntmps84
    go_wp2
    go_ret
    exact ⟨rfl, Below.refl _ _⟩
   ·obtain rfl : r = (-1) := Option.some.inj (h.symm.trans (by decide : nextLengthRelation (1, 0, 2) = some (-1)))
    clear h q0 q1 a0 a1 b0 b1
    go_enter Tryd.func84, Tryd.ntmps84
    go_wp2
    go_ret
    exact ⟨rfl, Below.refl _ _⟩
  ·rcases three b0 b1 with rfl|rfl|rfl
   ·obtain rfl : r = 1 := Option.some.inj (h.symm.trans (by decide : nextLengthRelation (1, 1, 0) = some 1))
    clear h q0 q1 a0 a1 b0 b1
    go_enter Tryd.func84, Tryd.ntmps84
    go_wp2
    go_ret
    exact ⟨rfl, Below.refl _ _⟩
   ·obtain rfl : r = 1 := Option.some.inj (h.symm.trans (by decide : nextLengthRelation (1, 1, 1) = some 1))
    clear h q0 q1 a0 a1 b0 b1
    go_enter Tryd.func84, Tryd.ntmps84
    go_wp2
    go_ret
    exact ⟨rfl, Below.refl _ _⟩
   ·obtain rfl : r = (-1) := Option.some.inj (h.symm.trans (by decide : nextLengthRelation (1, 1, 2) = some (-1)))
    clear h q0 q1 a0 a1 b0 b1
    go_enter Tryd.func84, Tryd.ntmps84
    go_wp2
    go_ret
    exact ⟨rfl, Below.refl _ _⟩
  ·rcases three b0 b1 with rfl|rfl|rfl
   ·obtain rfl : r = 1 := Option.some.inj (h.symm.trans (by decide : nextLengthRelation (1, 2, 0) = some 1))
    clear h q0 q1 a0 a1 b0 b1
    go_enter Tryd.func84, Tryd.ntmps84
    go_wp2
    go_ret
    exact ⟨rfl, Below.refl _ _⟩
   ·obtain rfl : r = 1 := Option.some.inj (h.symm.trans (by decide : nextLengthRelation (1, 2, 1) = some 1))
    clear h q0 q1 a0 a1 b0 b1
    go_enter Tryd.func84, Tryd.ntmps84
    go_wp2
    go_ret
    exact ⟨rfl, Below.refl _ _⟩
   ·obtain rfl : r = (-1) := Option.some.inj (h.symm.trans (by decide : nextLengthRelation (1, 2, 2) = some (-1)))
    clear h q0 q1 a0 a1 b0 b1
    go_enter Tryd.func84, Tryd.ntmps84
    go_wp2
    go_ret
    exact ⟨rfl, Below.refl _ _⟩
def accLen (kind : Int) (q : Int) : Option Bool := if kind = 1 then accTab [true, false] q else if kind = 2 then accTab [false, true] q else if kind = 3 then accTab [true, true] q else none
set_option maxHeartbeats 4000000 in
set_option maxRecDepth 100000 in
theorem accLen_clo {kind : Int} {w : World} {g : Nat} (hv : w.heap[g]? = some (.cells #[.int .i64 kind] 2 (0, 0))) : CloOK Tryd.prog w 83 #[.pointer (some ⟨g, 0, none⟩)] (fun x : Int => #[.int .i64 x]) (accLen kind) Value.bool := by
 refine ⟨⟨_, Tryd.func83, by kernel_rfl, rfl⟩, fun q r W hb h => ?_⟩
 have hx : W.cell? ⟨g, 0, none⟩ = some (.int .i64 kind) := (blk_cell (blk_below hv hb) 0).trans rfl
 have hk : kind = 1 ∨ kind = 2 ∨ kind = 3 := by
  unfold accLen at h
  by_cases k1 : kind = 1
  ·exact .inl k1
  ·rw [if_neg k1] at h
   by_cases k2 : kind = 2
   ·exact .inr (.inl k2)
   ·rw [if_neg k2] at h
    by_cases k3 : kind = 3
    ·exact .inr (.inr k3)
    ·rw [if_neg k3] at h; cases h
 have hc : 0 ≤ q ∧ q < 2 := by
  by_cases c : 0 ≤ q ∧ q < 2
  ·exact c
  ·have hn : ∀ t : List Bool, t.length = 2 → accTab t q = none := fun t ht => by unfold accTab; rw [if_neg (fun h_ => c ⟨h_.1, by have q_ := h_.2; rw [ht] at q_; simpa using q_⟩)]
   rcases hk with rfl|rfl|rfl <;> (rw [show accLen _ q = accTab _ q from rfl, hn _ rfl] at h; cases h)
 obtain ⟨q0, q1⟩ := hc
 show Calls Tryd.prog 83 #[.int .i64 q, .pointer (some ⟨g, 0, none⟩)] W fun e W' => e = .returned (.bool r) ∧ Below W.heap.size W W'
 clear hv hb
 rcases hk with rfl|rfl|rfl
 ·rcases (by omega : q = 0 ∨ q = 1) with rfl|rfl
  ·obtain rfl : r = true := Option.some.inj (h.symm.trans (by decide : accLen 1 0 = some true))
   clear h q0 q1
   go_enter Tryd.func83, Tryd.ntmps83
   go_wp2
   go_ret
   exact ⟨rfl, Below.refl _ _⟩
  ·obtain rfl : r = false := Option.some.inj (h.symm.trans (by decide : accLen 1 1 = some false))
   clear h q0 q1
   go_enter Tryd.func83, Tryd.ntmps83
   go_wp2
   go_ret
   exact ⟨rfl, Below.refl _ _⟩
 ·rcases (by omega : q = 0 ∨ q = 1) with rfl|rfl
  ·obtain rfl : r = false := Option.some.inj (h.symm.trans (by decide : accLen 2 0 = some false))
   clear h q0 q1
   go_enter Tryd.func83, Tryd.ntmps83
   go_wp2
   go_ret
   exact ⟨rfl, Below.refl _ _⟩
  ·obtain rfl : r = true := Option.some.inj (h.symm.trans (by decide : accLen 2 1 = some true))
   clear h q0 q1
   go_enter Tryd.func83, Tryd.ntmps83
   go_wp2
   go_ret
   exact ⟨rfl, Below.refl _ _⟩
 ·rcases (by omega : q = 0 ∨ q = 1) with rfl|rfl
  ·obtain rfl : r = true := Option.some.inj (h.symm.trans (by decide : accLen 3 0 = some true))
   clear h q0 q1
   go_enter Tryd.func83, Tryd.ntmps83
   go_wp2
   go_ret
   exact ⟨rfl, Below.refl _ _⟩
  ·obtain rfl : r = true := Option.some.inj (h.symm.trans (by decide : accLen 3 1 = some true))
   clear h q0 q1
   go_enter Tryd.func83, Tryd.ntmps83
   go_wp2
   go_ret
   exact ⟨rfl, Below.refl _ _⟩
def impl_LengthRelation.f (k : Nat) (a0 : Int) : Option (Int × Int × List Bool × List (List Int) × Int) := if 1 ≤ a0 ∧ a0 ≤ 3 then (knownF k (accLen a0) nextLengthRelation).bind fun r => some (r.1, r.2.1, r.2.2.1, r.2.2.2, 0) else some (0, 0, [], [], 2)
set_option maxHeartbeats 4000000 in
set_option maxRecDepth 100000 in
theorem impl_LengthRelation.calls (k : Nat) (a0 : Int) (r1 : Int) (r2 : Int) (r3 : List Bool) (r4 : List (List Int)) (r5 : Int) (w : World) (htab : TabOK w) (h : impl_LengthRelation.f k a0 = some (r1, r2, r3, r4, r5)) :
  Calls Tryd.prog 37 #[.int .i64 a0] w fun e w' => ∃ v2_ v3_ : Value, e = .returned (.tuple #[.agg #[.int .i64 r1, .int .i64 r2, v2_, v3_], .int .i64 r5]) ∧ Kd.R Kd.bool 4 w' w.heap.size (fun _ => True) v2_ r3 ∧ Kd.S (Kd.slice 2 (Kd.int .i64)) 55 w' w.heap.size (fun _ => True) v3_ r4 ∧ Below w.heap.size w w' := by
 have HT := Aside0.mk htab
 unfold impl_LengthRelation.f at h
 have HB0 := Aside0.mk (below_alloc (below_alloc (Below.refl w.heap.size w) (.cells #[.int .i64 a0] 2)) (.cells #[.int .i64 0, .int .i64 0, .slice none 0 0, .slice none 0 0] 28))
 have HV := Aside0.mk (show (((w.alloc (.cells #[.int .i64 a0] 2)).alloc (.cells #[.int .i64 0, .int .i64 0, .slice none 0 0, .slice none 0 0] 28)).heap)[w.heap.size]? = some (.cells #[.int .i64 a0] 2 (0, 0)) from blk_alloc (blk_new w _) _)
 have HBR := Aside0.mk (show (((w.alloc (.cells #[.int .i64 a0] 2)).alloc (.cells #[.int .i64 0, .int .i64 0, .slice none 0 0, .slice none 0 0] 28)).heap)[w.heap.size + 1]? = some (.cells #[.int .i64 0, .int .i64 0, .slice none 0 0, .slice none 0 0] 28 (0, 0)) by have h_ := blk_new (w.alloc (.cells #[.int .i64 a0] 2)) (.cells #[.int .i64 0, .int .i64 0, .slice none 0 0, .slice none 0 0] 28); simpa using h_)
 by_cases c : 1 ≤ a0 ∧ a0 ≤ 3
 ·rw [if_pos c] at h
  have hwi := Aside0.mk (show impl_within.f a0 1 3 = some true by unfold impl_within.f; rw [if_pos c.1, decide_eq_true c.2])
  obtain ⟨⟨q1, q2, q3, q4⟩, h1, h⟩ := Option.bind_eq_some_iff.mp h
  simp only [Option.some.injEq, Prod.mk.injEq] at h
  obtain ⟨rfl, rfl, rfl, rfl, rfl⟩ := h
  have H := Aside0.mk h1
  clear htab h1 c
  go_enter Tryd.func37, Tryd.ntmps37
  go_upto_region 1 with (fail)
  generalize World.alloc _ _ = w0 at *
  have hx : w0.cell? ⟨w.heap.size, 0, none⟩ = some (.int .i64 a0) := (blk_cell HV.out 0).trans rfl
  go_wp2_with (fail)
  with_reducible refine (impl_within.calls a0 1 3 true _ hwi.out).mono ?_
  rintro e w1 ⟨rfl, hd⟩
  have hb := hd.below
  have HB1 := Aside0.mk (below_then HB0.out HB0.out.size hb)
  have HV1 := Aside0.mk (blk_below HV.out hb)
  have HBR1 := Aside0.mk (blk_below HBR.out hb)
  clear HB0 HV HBR hd hb hx
  go_wp2_with (fail)
  with_reducible refine (known_calls w1 (tab_below HT.out HB1.out) (accLen_clo HV1.out) (nextLengthRelation_clo _) H.out).mono ?_
  rintro e w2 ⟨v2, v3, rfl, hR, hS, hb⟩
  obtain ⟨B2, d2, hv2⟩ := Kd.R_slice hR
  subst hv2
  obtain ⟨B3, d3, hv3⟩ := Kd.S_slice hS
  subst hv3
  have HB2 := Aside0.mk (below_then HB1.out HB1.out.size hb)
  have HBR2 := Aside0.mk (blk_below HBR1.out hb)
  have HE := Aside0.mk (fill_endR (w := w) hR hS HB1.out.size HB2.out HBR2.out (by omega) (.int .i64 q1) (.int .i64 q2))
  have n0 : w2.cell? ⟨w.heap.size + 1, 0, none⟩ = some (.int .i64 0) := (blk_cell HBR2.out 0).trans rfl
  have n1 : w2.cell? ⟨w.heap.size + 1, 1, none⟩ = some (.int .i64 0) := (blk_cell HBR2.out 1).trans rfl
  have n2 : w2.cell? ⟨w.heap.size + 1, 2, none⟩ = some (.slice none 0 0) := (blk_cell HBR2.out 2).trans rfl
  have n3 : w2.cell? ⟨w.heap.size + 1, 3, none⟩ = some (.slice none 0 0) := (blk_cell HBR2.out 3).trans rfl
  have f0 := blk_frozen HBR2.out 0
  have f1 := blk_frozen HBR2.out 1
  have f2 := blk_frozen HBR2.out 2
  have f3 := blk_frozen HBR2.out 3
  clear HB1 HV1 HBR1 HB2 HBR2 hR hS hb
  go_wp2
  refine bodyPost_ret (v := .tuple #[.agg #[.int .i64 q1, .int .i64 q2, .slice B2 q3.length d2, .slice B3 q4.length d3], .int .i64 0]) (by simp [results, Tryd.results37, go_sem, n0, n1, n2, n3]) rfl ⟨_, _, rfl, HE.out⟩
 ·rw [if_neg c] at h
  have hwi := Aside0.mk (show impl_within.f a0 1 3 = some false by unfold impl_within.f; by_cases c1 : 1 ≤ a0; rw [if_pos c1, decide_eq_false (fun c2 => c ⟨c1, c2⟩)]; rw [if_neg c1])
  simp only [Option.some.injEq, Prod.mk.injEq] at h
  obtain ⟨rfl, rfl, rfl, rfl, rfl⟩ := h
  clear htab c
  go_enter Tryd.func37, Tryd.ntmps37
  go_upto_region 1 with (fail)
  generalize World.alloc _ _ = w0 at *
  have hx : w0.cell? ⟨w.heap.size, 0, none⟩ = some (.int .i64 a0) := (blk_cell HV.out 0).trans rfl
  go_wp2_with (fail)
  with_reducible refine (impl_within.calls a0 1 3 false _ hwi.out).mono ?_
  rintro e w1 ⟨rfl, hd⟩
  have hb := hd.below
  have HB1 := Aside0.mk (below_then HB0.out HB0.out.size hb)
  have HBR1 := Aside0.mk (blk_below HBR.out hb)
  have HE := Aside0.mk (fill_endR (w := w) (Kd.R_nil Kd.bool 4 w1 w1.heap.size (fun _ => True)) (Kd.S_nil (Kd.slice 2 (Kd.int .i64)) 55 w1 w1.heap.size (fun _ => True)) HB1.out.size HB1.out HBR1.out (by omega) (.int .i64 0) (.int .i64 0))
  have n0 : w1.cell? ⟨w.heap.size + 1, 0, none⟩ = some (.int .i64 0) := (blk_cell HBR1.out 0).trans rfl
  have n1 : w1.cell? ⟨w.heap.size + 1, 1, none⟩ = some (.int .i64 0) := (blk_cell HBR1.out 1).trans rfl
  have n2 : w1.cell? ⟨w.heap.size + 1, 2, none⟩ = some (.slice none 0 0) := (blk_cell HBR1.out 2).trans rfl
  have n3 : w1.cell? ⟨w.heap.size + 1, 3, none⟩ = some (.slice none 0 0) := (blk_cell HBR1.out 3).trans rfl
  have f0 := blk_frozen HBR1.out 0
  have f1 := blk_frozen HBR1.out 1
  have f2 := blk_frozen HBR1.out 2
  have f3 := blk_frozen HBR1.out 3
  clear HB0 HV HBR hd hb hx HB1 HBR1
  go_wp2
  refine bodyPost_ret (v := .tuple #[.agg #[.int .i64 0, .int .i64 0, .slice none 0 0, .slice none 0 0], .int .i64 2]) (by simp [results, Tryd.results37, go_sem, n0, n1, n2, n3]) rfl ⟨_, _, rfl, HE.out⟩
end Go.Proofs.YtbkcllfgolmloaaDoor.X

namespace Go.Proofs.YtbkcllfgolmloaaDoor.X
open Go Go.RowKit Go.Proofs.YtbkcllfgolmloaaDoorW.PrintWords Go.Proofs.YtbkcllfgolmloaaDoorW.PrintLast Go.Proofs.YtbkcllfgolmloaaDoorW.PrintMore
set_option linter.unusedVariables false
set_option linter.unusedSimpArgs false
open Classical in
noncomputable def laws_FnExactIsPrefixRelation.f (k : Nat)  : Option Bool := (spec_IsPrefixRelation.f k ).bind fun | (r0_0, r0_1, r0_2, r0_3) => if impl_IsPrefixRelation.f k  = some (r0_0, r0_1, r0_2, r0_3) then (if laws_eqRelation.f k r0_0 r0_1 r0_2 r0_3 r0_0 r0_1 r0_2 r0_3 = some true then ((laws_markBoolS.f k r0_2 1).bind fun | (m4a, r0_2m) => (laws_markInt64SS.f k r0_3 m4a).bind fun | (m4, r0_3m) => if m4 < 0 then none else (if laws_heldRelation.f k r0_0 r0_1 r0_2m r0_3m 1 = some m4 then (some true) else none)) else none) else none
set_option maxHeartbeats 16000000 in
set_option maxRecDepth 100000 in
theorem laws_FnExactIsPrefixRelation.main (k : Nat)  (w : World) (htab : TabOK w)  (r0_0 : Int) (r0_1 : Int) (r0_2 : List Bool) (r0_3 : List (List Int)) (m4a : Int) (r0_2m : List Bool) (m4 : Int) (r0_3m : List (List Int)) (hS : spec_IsPrefixRelation.f k  = some (r0_0, r0_1, r0_2, r0_3)) (hI : impl_IsPrefixRelation.f k  = some (r0_0, r0_1, r0_2, r0_3)) (her : laws_eqRelation.f k r0_0 r0_1 r0_2 r0_3 r0_0 r0_1 r0_2 r0_3 = some true) (hm4a : laws_markBoolS.f k r0_2 1 = some (m4a, r0_2m)) (hm4b : laws_markInt64SS.f k r0_3 m4a = some (m4, r0_3m)) (hn4 : ¬ m4 < 0) (hh : laws_heldRelation.f k r0_0 r0_1 r0_2m r0_3m 1 = some m4)  :
  Calls Tryd.prog 8 #[] w fun e w' => e = .returned (.bool true) ∧ Below w.heap.size w w' := by
 have HS := Aside0.mk hS
 have HI := Aside0.mk hI
 have HER := Aside0.mk her
 have HM4A := Aside0.mk hm4a
 have HM4B := Aside0.mk hm4b
 have HN4 := Aside0.mk hn4
 have HH := Aside0.mk hh
 have HT := Aside0.mk htab
 clear hS hI her hm4a hm4b hn4 hh htab
 have HB_w := Aside0.mk (Below.refl w.heap.size w)
 go_enter Tryd.func8, Tryd.ntmps8
 go_wp2_with (fail)
 with_reducible refine (spec_IsPrefixRelation.calls k  r0_0 r0_1 r0_2 r0_3 _  HS.out).mono ?_
 rintro e w1 ⟨vy102, vy103, rfl, hy102, hy103, hb⟩
 obtain ⟨Ay102, cy102, hvy102⟩ := Kd.R_slice hy102
 subst hvy102
 obtain ⟨Ay103, cy103, hvy103⟩ := Kd.N_slice hy103
 subst hvy103
 have HZ_w1 := Aside0.mk (show w.heap.size + 0 ≤ w1.heap.size by have := hb.size; omega)
 have RIy10_w1 := Aside0.mk (RelRd.mk_ (base := w.heap.size) HB_w.out.size hy102 hy103 (fun k_ h_ => h_.1))
 have HB_w1 := Aside0.mk (below_then HB_w.out HB_w.out.size hb)
 clear HB_w
 clear hy102 hy103 hb
 go_upto_region 2 with (fail)
 have BX1_w2 := Aside0.mk (blk_new w1 (.cells #[.int .i64 r0_0, .int .i64 r0_1, .slice Ay102 r0_2.length cy102, .slice Ay103 r0_3.length cy103] 28))
 have hb := below_alloc (Below.refl w1.heap.size w1) (.cells #[.int .i64 r0_0, .int .i64 r0_1, .slice Ay102 r0_2.length cy102, .slice Ay103 r0_3.length cy103] 28)
 have HZ_w2 := Aside0.mk (show w1.heap.size + 1 ≤ (w1.alloc (.cells #[.int .i64 r0_0, .int .i64 r0_1, .slice Ay102 r0_2.length cy102, .slice Ay103 r0_3.length cy103] 28)).heap.size by simp)
 have HB_w2 := Aside0.mk (below_then HB_w1.out HB_w1.out.size hb)
 have RIy10_w2 := Aside0.mk (RIy10_w1.out.below hb)
 clear HB_w1 RIy10_w1
 clear hb
 generalize w1.alloc _ = w2 at *
 go_wp2_with (fail)
 with_reducible refine (impl_IsPrefixRelation.calls k  r0_0 r0_1 r0_2 r0_3 _ (tab_below HT.out HB_w2.out)  HI.out).mono ?_
 rintro e w3 ⟨vy202, vy203, rfl, hy202, hy203, hb⟩
 obtain ⟨Ay202, cy202, hvy202⟩ := Kd.R_slice hy202
 subst hvy202
 obtain ⟨Ay203, cy203, hvy203⟩ := Kd.S_slice hy203
 subst hvy203
 have HZ_w3 := Aside0.mk (show w2.heap.size + 0 ≤ w3.heap.size by have := hb.size; omega)
 have RIy20_w3 := Aside0.mk (RelOwn.mk_ (base := w.heap.size) HB_w2.out.size hy202 hy203)
 have HB_w3 := Aside0.mk (below_then HB_w2.out HB_w2.out.size hb)
 have RIy10_w3 := Aside0.mk (RIy10_w2.out.below hb)
 have BX1_w3 := Aside0.mk (blk_below BX1_w2.out hb)
 clear HB_w2 RIy10_w2 BX1_w2
 clear hy202 hy203 hb
 go_upto_region 3 with (fail)
 have BX2_w4 := Aside0.mk (blk_new w3 (.cells #[.int .i64 r0_0, .int .i64 r0_1, .slice Ay202 r0_2.length cy202, .slice Ay203 r0_3.length cy203] 28))
 have hb := below_alloc (Below.refl w3.heap.size w3) (.cells #[.int .i64 r0_0, .int .i64 r0_1, .slice Ay202 r0_2.length cy202, .slice Ay203 r0_3.length cy203] 28)
 have HZ_w4 := Aside0.mk (show w3.heap.size + 1 ≤ (w3.alloc (.cells #[.int .i64 r0_0, .int .i64 r0_1, .slice Ay202 r0_2.length cy202, .slice Ay203 r0_3.length cy203] 28)).heap.size by simp)
 have HB_w4 := Aside0.mk (below_then HB_w3.out HB_w3.out.size hb)
 have RIy10_w4 := Aside0.mk (RIy10_w3.out.below hb)
 have BX1_w4 := Aside0.mk (blk_below BX1_w3.out hb)
 have RIy20_w4 := Aside0.mk (RIy20_w3.out.below hb)
 clear HB_w3 RIy10_w3 BX1_w3 RIy20_w3
 clear hb
 generalize w3.alloc _ = w4 at *
 have hx0_0 : w4.cell? ⟨w3.heap.size, 0, none⟩ = some (.int .i64 r0_0) := (blk_cell BX2_w4.out 0).trans rfl
 have hx0_1 : w4.cell? ⟨w3.heap.size, 1, none⟩ = some (.int .i64 r0_1) := (blk_cell BX2_w4.out 1).trans rfl
 have hx0_2 : w4.cell? ⟨w3.heap.size, 2, none⟩ = some (.slice Ay202 r0_2.length cy202) := (blk_cell BX2_w4.out 2).trans rfl
 have hx0_3 : w4.cell? ⟨w3.heap.size, 3, none⟩ = some (.slice Ay203 r0_3.length cy203) := (blk_cell BX2_w4.out 3).trans rfl
 have hx1_0 : w4.cell? ⟨w1.heap.size, 0, none⟩ = some (.int .i64 r0_0) := (blk_cell BX1_w4.out 0).trans rfl
 have hx1_1 : w4.cell? ⟨w1.heap.size, 1, none⟩ = some (.int .i64 r0_1) := (blk_cell BX1_w4.out 1).trans rfl
 have hx1_2 : w4.cell? ⟨w1.heap.size, 2, none⟩ = some (.slice Ay102 r0_2.length cy102) := (blk_cell BX1_w4.out 2).trans rfl
 have hx1_3 : w4.cell? ⟨w1.heap.size, 3, none⟩ = some (.slice Ay103 r0_3.length cy103) := (blk_cell BX1_w4.out 3).trans rfl
 go_wp2_with (fail)
 clear hx0_0 hx0_1 hx0_2 hx0_3 hx1_0 hx1_1 hx1_2 hx1_3
 with_reducible refine (laws_eqRelation.calls k r0_0 r0_1 _ _ r0_2 _ _ r0_3 r0_0 r0_1 _ _ r0_2 _ _ r0_3 true _ RIy20_w4.out.reads.1 RIy20_w4.out.reads.2.1 RIy20_w4.out.reads.2.2.1 RIy20_w4.out.reads.2.2.2 RIy10_w4.out.reads.1 RIy10_w4.out.reads.2.1 RIy10_w4.out.reads.2.2.1 RIy10_w4.out.reads.2.2.2 HER.out).mono ?_
 rintro e w5 ⟨rfl, hb⟩
 have HZ_w5 := Aside0.mk (show w4.heap.size + 0 ≤ w5.heap.size by have := hb.size; omega)
 have HB_w5 := Aside0.mk (below_then HB_w4.out HB_w4.out.size hb)
 have RIy10_w5 := Aside0.mk (RIy10_w4.out.below hb)
 have BX1_w5 := Aside0.mk (blk_below BX1_w4.out hb)
 have RIy20_w5 := Aside0.mk (RIy20_w4.out.below hb)
 have BX2_w5 := Aside0.mk (blk_below BX2_w4.out hb)
 clear HB_w4 RIy10_w4 BX1_w4 RIy20_w4 BX2_w4
 clear hb
 have hx0_0 : w5.cell? ⟨w3.heap.size, 0, none⟩ = some (.int .i64 r0_0) := (blk_cell BX2_w5.out 0).trans rfl
 have hx0_1 : w5.cell? ⟨w3.heap.size, 1, none⟩ = some (.int .i64 r0_1) := (blk_cell BX2_w5.out 1).trans rfl
 have hx0_2 : w5.cell? ⟨w3.heap.size, 2, none⟩ = some (.slice Ay202 r0_2.length cy202) := (blk_cell BX2_w5.out 2).trans rfl
 have hx0_3 : w5.cell? ⟨w3.heap.size, 3, none⟩ = some (.slice Ay203 r0_3.length cy203) := (blk_cell BX2_w5.out 3).trans rfl
 go_wp2_with (fail)
 clear hx0_0 hx0_1 hx0_2 hx0_3
 with_reducible refine (RelOwn.mark k _ _ _ _ r0_2 r0_3 1 m4a m4 r0_2m r0_3m w _ HB_w5.out RIy20_w5.out (by have := HZ_w1.out; have := HZ_w2.out; have := HZ_w3.out; have := HZ_w4.out; have := HZ_w5.out; omega) HM4A.out HM4B.out).mono ?_
 rintro e w6 ⟨rfl, hI_, hB_, hK_⟩
 have HZ_w6 := Aside0.mk (show w5.heap.size + 0 ≤ w6.heap.size by have := hK_.1; omega)
 have RIy10_w6 := Aside0.mk (RIy10_w5.out.kept hK_ (fun k_ h1_ h2_ => by have := (And.intro HZ_w1.out (And.intro HZ_w2.out (And.intro HZ_w3.out (And.intro HZ_w4.out (And.intro HZ_w5.out trivial))))); omega))
 have BX1_w6 := Aside0.mk ((hK_.2 _ (by have q_ := blk_lt BX1_w5.out; exact q_) (by have := (And.intro HZ_w1.out (And.intro HZ_w2.out (And.intro HZ_w3.out (And.intro HZ_w4.out (And.intro HZ_w5.out trivial))))); omega)).trans BX1_w5.out)
 have BX2_w6 := Aside0.mk ((hK_.2 _ (by have q_ := blk_lt BX2_w5.out; exact q_) (by have := (And.intro HZ_w1.out (And.intro HZ_w2.out (And.intro HZ_w3.out (And.intro HZ_w4.out (And.intro HZ_w5.out trivial))))); omega)).trans BX2_w5.out)
 clear RIy10_w5 BX1_w5 BX2_w5
 have HB_w6 := Aside0.mk hB_
 clear HB_w5 hB_
 have RIy20_w6 := Aside0.mk hI_
 clear hI_ hK_ RIy20_w5
 have hd4 : decide (m4 < 0) = false := decide_eq_false (by have q_ := HN4.out; omega)
 have hx0_0 : w6.cell? ⟨w3.heap.size, 0, none⟩ = some (.int .i64 r0_0) := (blk_cell BX2_w6.out 0).trans rfl
 have hx0_1 : w6.cell? ⟨w3.heap.size, 1, none⟩ = some (.int .i64 r0_1) := (blk_cell BX2_w6.out 1).trans rfl
 have hx0_2 : w6.cell? ⟨w3.heap.size, 2, none⟩ = some (.slice Ay202 r0_2.length cy202) := (blk_cell BX2_w6.out 2).trans rfl
 have hx0_3 : w6.cell? ⟨w3.heap.size, 3, none⟩ = some (.slice Ay203 r0_3.length cy203) := (blk_cell BX2_w6.out 3).trans rfl
 go_wp2_with (fail)
 clear hx0_0 hx0_1 hx0_2 hx0_3
 obtain ⟨e2_, e3_, q1_, q2_, q3_, q4_⟩ := RIy20_w6.out.reads'
 have hq_ := laws_heldRelation.calls k r0_0 r0_1 _ _ r0_2m _ _ r0_3m 1 m4 _ q1_ q2_ q3_ q4_ HH.out
 rw [← e2_, ← e3_] at hq_
 clear e2_ e3_ q1_ q2_ q3_ q4_
 with_reducible refine hq_.mono ?_
 clear hq_
 rintro e w7 ⟨rfl, hb⟩
 have HZ_w7 := Aside0.mk (show w6.heap.size + 0 ≤ w7.heap.size by have := hb.size; omega)
 have HB_w7 := Aside0.mk (below_then HB_w6.out HB_w6.out.size hb)
 have RIy10_w7 := Aside0.mk (RIy10_w6.out.below hb)
 have BX1_w7 := Aside0.mk (blk_below BX1_w6.out hb)
 have BX2_w7 := Aside0.mk (blk_below BX2_w6.out hb)
 have RIy20_w7 := Aside0.mk (RIy20_w6.out.below hb)
 clear HB_w6 RIy10_w6 BX1_w6 BX2_w6 RIy20_w6
 clear hb
 go_wp2_with (fail)
 with_reducible refine (impl_IsPrefixRelation.calls k  r0_0 r0_1 r0_2 r0_3 _ (tab_below HT.out HB_w7.out)  HI.out).mono ?_
 rintro e w8 ⟨vy602, vy603, rfl, hy602, hy603, hb⟩
 obtain ⟨Ay602, cy602, hvy602⟩ := Kd.R_slice hy602
 subst hvy602
 obtain ⟨Ay603, cy603, hvy603⟩ := Kd.S_slice hy603
 subst hvy603
 have HZ_w8 := Aside0.mk (show w7.heap.size + 0 ≤ w8.heap.size by have := hb.size; omega)
 have RIy60_w8 := Aside0.mk (RelOwn.mk_ (base := w.heap.size) HB_w7.out.size hy602 hy603)
 have HB_w8 := Aside0.mk (below_then HB_w7.out HB_w7.out.size hb)
 have RIy10_w8 := Aside0.mk (RIy10_w7.out.below hb)
 have BX1_w8 := Aside0.mk (blk_below BX1_w7.out hb)
 have BX2_w8 := Aside0.mk (blk_below BX2_w7.out hb)
 have RIy20_w8 := Aside0.mk (RIy20_w7.out.below hb)
 clear HB_w7 RIy10_w7 BX1_w7 BX2_w7 RIy20_w7
 clear hy602 hy603 hb
 go_upto_region 14 with (fail)
 have BX5_w9 := Aside0.mk (blk_new w8 (.cells #[.int .i64 r0_0, .int .i64 r0_1, .slice Ay602 r0_2.length cy602, .slice Ay603 r0_3.length cy603] 28))
 have hb := below_alloc (Below.refl w8.heap.size w8) (.cells #[.int .i64 r0_0, .int .i64 r0_1, .slice Ay602 r0_2.length cy602, .slice Ay603 r0_3.length cy603] 28)
 have HZ_w9 := Aside0.mk (show w8.heap.size + 1 ≤ (w8.alloc (.cells #[.int .i64 r0_0, .int .i64 r0_1, .slice Ay602 r0_2.length cy602, .slice Ay603 r0_3.length cy603] 28)).heap.size by simp)
 have HB_w9 := Aside0.mk (below_then HB_w8.out HB_w8.out.size hb)
 have RIy10_w9 := Aside0.mk (RIy10_w8.out.below hb)
 have BX1_w9 := Aside0.mk (blk_below BX1_w8.out hb)
 have BX2_w9 := Aside0.mk (blk_below BX2_w8.out hb)
 have RIy20_w9 := Aside0.mk (RIy20_w8.out.below hb)
 have RIy60_w9 := Aside0.mk (RIy60_w8.out.below hb)
 clear HB_w8 RIy10_w8 BX1_w8 BX2_w8 RIy20_w8 RIy60_w8
 clear hb
 generalize w8.alloc _ = w9 at *
 have hx0_0 : w9.cell? ⟨w8.heap.size, 0, none⟩ = some (.int .i64 r0_0) := (blk_cell BX5_w9.out 0).trans rfl
 have hx0_1 : w9.cell? ⟨w8.heap.size, 1, none⟩ = some (.int .i64 r0_1) := (blk_cell BX5_w9.out 1).trans rfl
 have hx0_2 : w9.cell? ⟨w8.heap.size, 2, none⟩ = some (.slice Ay602 r0_2.length cy602) := (blk_cell BX5_w9.out 2).trans rfl
 have hx0_3 : w9.cell? ⟨w8.heap.size, 3, none⟩ = some (.slice Ay603 r0_3.length cy603) := (blk_cell BX5_w9.out 3).trans rfl
 have hx1_0 : w9.cell? ⟨w1.heap.size, 0, none⟩ = some (.int .i64 r0_0) := (blk_cell BX1_w9.out 0).trans rfl
 have hx1_1 : w9.cell? ⟨w1.heap.size, 1, none⟩ = some (.int .i64 r0_1) := (blk_cell BX1_w9.out 1).trans rfl
 have hx1_2 : w9.cell? ⟨w1.heap.size, 2, none⟩ = some (.slice Ay102 r0_2.length cy102) := (blk_cell BX1_w9.out 2).trans rfl
 have hx1_3 : w9.cell? ⟨w1.heap.size, 3, none⟩ = some (.slice Ay103 r0_3.length cy103) := (blk_cell BX1_w9.out 3).trans rfl
 go_wp2_with (fail)
 clear hx0_0 hx0_1 hx0_2 hx0_3 hx1_0 hx1_1 hx1_2 hx1_3
 with_reducible refine (laws_eqRelation.calls k r0_0 r0_1 _ _ r0_2 _ _ r0_3 r0_0 r0_1 _ _ r0_2 _ _ r0_3 true _ RIy60_w9.out.reads.1 RIy60_w9.out.reads.2.1 RIy60_w9.out.reads.2.2.1 RIy60_w9.out.reads.2.2.2 RIy10_w9.out.reads.1 RIy10_w9.out.reads.2.1 RIy10_w9.out.reads.2.2.1 RIy10_w9.out.reads.2.2.2 HER.out).mono ?_
 rintro e w10 ⟨rfl, hb⟩
 have HZ_w10 := Aside0.mk (show w9.heap.size + 0 ≤ w10.heap.size by have := hb.size; omega)
 have HB_w10 := Aside0.mk (below_then HB_w9.out HB_w9.out.size hb)
 have RIy10_w10 := Aside0.mk (RIy10_w9.out.below hb)
 have BX1_w10 := Aside0.mk (blk_below BX1_w9.out hb)
 have BX2_w10 := Aside0.mk (blk_below BX2_w9.out hb)
 have RIy20_w10 := Aside0.mk (RIy20_w9.out.below hb)
 have RIy60_w10 := Aside0.mk (RIy60_w9.out.below hb)
 have BX5_w10 := Aside0.mk (blk_below BX5_w9.out hb)
 clear HB_w9 RIy10_w9 BX1_w9 BX2_w9 RIy20_w9 RIy60_w9 BX5_w9
 clear hb
 have hx0_0 : w10.cell? ⟨w3.heap.size, 0, none⟩ = some (.int .i64 r0_0) := (blk_cell BX2_w10.out 0).trans rfl
 have hx0_1 : w10.cell? ⟨w3.heap.size, 1, none⟩ = some (.int .i64 r0_1) := (blk_cell BX2_w10.out 1).trans rfl
 have hx0_2 : w10.cell? ⟨w3.heap.size, 2, none⟩ = some (.slice Ay202 r0_2.length cy202) := (blk_cell BX2_w10.out 2).trans rfl
 have hx0_3 : w10.cell? ⟨w3.heap.size, 3, none⟩ = some (.slice Ay203 r0_3.length cy203) := (blk_cell BX2_w10.out 3).trans rfl
 go_wp2_with (fail)
 clear hx0_0 hx0_1 hx0_2 hx0_3
 obtain ⟨e2_, e3_, q1_, q2_, q3_, q4_⟩ := RIy20_w10.out.reads'
 have hq_ := laws_heldRelation.calls k r0_0 r0_1 _ _ r0_2m _ _ r0_3m 1 m4 _ q1_ q2_ q3_ q4_ HH.out
 rw [← e2_, ← e3_] at hq_
 clear e2_ e3_ q1_ q2_ q3_ q4_
 with_reducible refine hq_.mono ?_
 clear hq_
 rintro e w11 ⟨rfl, hb⟩
 have HZ_w11 := Aside0.mk (show w10.heap.size + 0 ≤ w11.heap.size by have := hb.size; omega)
 have HB_w11 := Aside0.mk (below_then HB_w10.out HB_w10.out.size hb)
 have RIy10_w11 := Aside0.mk (RIy10_w10.out.below hb)
 have BX1_w11 := Aside0.mk (blk_below BX1_w10.out hb)
 have BX2_w11 := Aside0.mk (blk_below BX2_w10.out hb)
 have RIy20_w11 := Aside0.mk (RIy20_w10.out.below hb)
 have RIy60_w11 := Aside0.mk (RIy60_w10.out.below hb)
 have BX5_w11 := Aside0.mk (blk_below BX5_w10.out hb)
 clear HB_w10 RIy10_w10 BX1_w10 BX2_w10 RIy20_w10 RIy60_w10 BX5_w10
 clear hb
 go_wp2
 go_ret
 exact ⟨rfl, HB_w11.out⟩
theorem laws_FnExactIsPrefixRelation.calls (k : Nat)  (w : World) (htab : TabOK w)  (h : laws_FnExactIsPrefixRelation.f k  = some true) :
  Calls Tryd.prog 8 #[] w fun e w' => e = .returned (.bool true) ∧ Below w.heap.size w w' := by
 unfold laws_FnExactIsPrefixRelation.f at h
 obtain ⟨⟨r0_0, r0_1, r0_2, r0_3⟩, hS, h⟩ := Option.bind_eq_some_iff.mp h
 dsimp only at h
 by_cases hI : impl_IsPrefixRelation.f k  = some (r0_0, r0_1, r0_2, r0_3)
 case neg => rw [if_neg hI] at h; cases h
 rw [if_pos hI] at h
 by_cases her : laws_eqRelation.f k r0_0 r0_1 r0_2 r0_3 r0_0 r0_1 r0_2 r0_3 = some true
 case neg => rw [if_neg her] at h; cases h
 rw [if_pos her] at h
 obtain ⟨⟨m4a, r0_2m⟩, hm4a, h⟩ := Option.bind_eq_some_iff.mp h
 dsimp only at h
 obtain ⟨⟨m4, r0_3m⟩, hm4b, h⟩ := Option.bind_eq_some_iff.mp h
 dsimp only at h
 by_cases hn4 : m4 < 0
 case pos => rw [if_pos hn4] at h; cases h
 rw [if_neg hn4] at h
 by_cases hh : laws_heldRelation.f k r0_0 r0_1 r0_2m r0_3m 1 = some m4
 case neg => rw [if_neg hh] at h; cases h
 rw [if_pos hh] at h
 exact laws_FnExactIsPrefixRelation.main k  w htab  r0_0 r0_1 r0_2 r0_3 m4a r0_2m m4 r0_3m hS hI her hm4a hm4b hn4 hh 
end Go.Proofs.YtbkcllfgolmloaaDoor.X

namespace Go.Proofs.YtbkcllfgolmloaaDoor.X
open Go Go.RowKit Go.Proofs.YtbkcllfgolmloaaDoorW.PrintWords Go.Proofs.YtbkcllfgolmloaaDoorW.PrintLast Go.Proofs.YtbkcllfgolmloaaDoorW.PrintMore
set_option linter.unusedVariables false
set_option linter.unusedSimpArgs false
def cellsOfD : DataW Unit → Array Value
 | .agg l => (l.map fun d => match d with | .lit x => x.value | _ => .bool false).toArray
 | _ => #[]
noncomputable def layAt (w : World) (g : Nat) (d : DataW Unit) : World := { w with heap := w.heap.modify g fun
 | .cells _ t frozen => .cells (cellsOfD d) t frozen
 | o => o }
noncomputable def laidWorld (os : Os) : World :=
 layAt (layAt (layAt (World.holding Tryd.prog os ⟨#[], #[], []⟩) 4 Rows.laid_math_bits_deBruijn32tab) 5 Rows.laid_math_bits_deBruijn64tab) 0 Rows.laid_internal_strconv_uint64pow10
def laid3 : List (String × DataW Unit) := [("math/bits.deBruijn32tab", Rows.laid_math_bits_deBruijn32tab), ("math/bits.deBruijn64tab", Rows.laid_math_bits_deBruijn64tab), ("internal/strconv.uint64pow10", Rows.laid_internal_strconv_uint64pow10)]
set_option maxRecDepth 100000 in
theorem laidWorld_met (os : Os) (args : Array Value) : laidMet Tryd.prog laid3 ((laidWorld os).forCall (fun _ _ => 0) ⟨#[], args, []⟩).memory :=
 laidMet_of_run (ps := (List.range 32).map (MemPlace.cell 4) ++ (List.range 64).map (MemPlace.cell 5) ++ (List.range 20).map (MemPlace.cell 0)) 8 (by kernel_rfl) (by kernel_rfl) (by kernel_rfl)
theorem pow_data : (Rows.laid_internal_strconv_uint64pow10 : DataW Unit) = Lib.tabData .u64 Lib.pow10Tab := by kernel_rfl
theorem tab_of_laid {W : World} (h : laidMet Tryd.prog laid3 W) : Lib.TabIs Tryd.prog W "internal/strconv.uint64pow10" .u64 Lib.pow10Tab := by
 obtain ⟨ps, ⟨_, _, _, _, _, _, _, _, _, _, ⟨_, _, _, _, _, _, _, _, _, _, ⟨g', t', cs, fuel, p, q, hg', ht', hvar, hd, _, _⟩, _⟩, _⟩, _⟩ := h
 obtain rfl := Option.some.inj ((show Tryd.prog.globalNamed "internal/strconv.uint64pow10" = some 0 by kernel_rfl).symm.trans hg')
 obtain rfl := Option.some.inj ((show (Tryd.prog.globals[0]?).map (·.type) = some 180 by kernel_rfl).symm.trans ht')
 rw [pow_data] at hd
 unfold Lib.TabIs
 rw [hvar, ← Lib.cells_of_tab Tryd.underlying180 Tryd.underlying172 (by kernel_rfl) (by kernel_rfl) hd]
theorem tabOK_of {W : World} (h : laidMet Tryd.prog laid3 W) : TabOK W := Lib.tabBelow_of_tabIs (tab_of_laid h)
end Go.Proofs.YtbkcllfgolmloaaDoor.X

namespace Go.Proofs.YtbkcllfgolmloaaDoor.Pure
open Go.RowKit Go.Proofs.YtbkcllfgolmloaaDoor.X Go.Proofs.YtbkcllfgolmloaaDoorW.PrintWords Go.Proofs.YtbkcllfgolmloaaDoorW.PrintLast
set_option linter.unusedVariables false
set_option linter.unusedSimpArgs false
def mB : Nat → Nat → List Bool
 | _, 0 => []
 | a, n + 1 => (Int.tmod (a : Int) 3 == 0) :: mB (a + 1) n
def mI : Nat → Nat → List Int
 | _, 0 => []
 | a, n + 1 => (a : Int) :: mI (a + 1) n
def mII : Nat → List (List Int) → List (List Int)
 | _, [] => []
 | a, r :: rs => mI a r.length :: mII (a + r.length) rs
def sumL : List (List Int) → Nat
 | [] => 0
 | r :: rs => r.length + sumL rs
def relIsPrefixRelation : Int × Int × List Bool × List (List Int) := (impl_IsPrefixRelation.f 2000).getD (0, 0, [], [])
set_option maxRecDepth 100000 in
theorem lawIsPrefixRelation : laws_FnExactIsPrefixRelation.f 2000 = some true := by
 have hI : impl_IsPrefixRelation.f 2000 = some (relIsPrefixRelation.1, relIsPrefixRelation.2.1, relIsPrefixRelation.2.2.1, relIsPrefixRelation.2.2.2) := by decide +kernel
 have hS : spec_IsPrefixRelation.f 2000 = some (relIsPrefixRelation.1, relIsPrefixRelation.2.1, relIsPrefixRelation.2.2.1, relIsPrefixRelation.2.2.2) := by decide +kernel
 have hE : laws_eqRelation.f 2000 relIsPrefixRelation.1 relIsPrefixRelation.2.1 relIsPrefixRelation.2.2.1 relIsPrefixRelation.2.2.2 relIsPrefixRelation.1 relIsPrefixRelation.2.1 relIsPrefixRelation.2.2.1 relIsPrefixRelation.2.2.2 = some true := by decide +kernel
 have h1 : laws_markBoolS.f 2000 relIsPrefixRelation.2.2.1 1 = some (((1 + relIsPrefixRelation.2.2.1.length : Nat) : Int), mB 1 relIsPrefixRelation.2.2.1.length) := by decide +kernel
 have h2 : laws_markInt64SS.f 2000 relIsPrefixRelation.2.2.2 ((1 + relIsPrefixRelation.2.2.1.length : Nat) : Int) = some (((1 + relIsPrefixRelation.2.2.1.length + sumL relIsPrefixRelation.2.2.2 : Nat) : Int), mII (1 + relIsPrefixRelation.2.2.1.length) relIsPrefixRelation.2.2.2) := by decide +kernel
 have h3 : laws_heldRelation.f 2000 relIsPrefixRelation.1 relIsPrefixRelation.2.1 (mB 1 relIsPrefixRelation.2.2.1.length) (mII (1 + relIsPrefixRelation.2.2.1.length) relIsPrefixRelation.2.2.2) 1 = some ((1 + relIsPrefixRelation.2.2.1.length + sumL relIsPrefixRelation.2.2.2 : Nat) : Int) := by decide +kernel
 unfold laws_FnExactIsPrefixRelation.f
 rw [hS]
 simp only [Option.bind_some]
 rw [if_pos hI, if_pos hE, h1]
 simp only [Option.bind_some]
 rw [h2]
 simp only [Option.bind_some]
 rw [if_neg (by omega), if_pos h3]
theorem FnExactIsPrefixRelation : ∃ k, laws_FnExactIsPrefixRelation.f k = some true := ⟨_, lawIsPrefixRelation⟩
end Go.Proofs.YtbkcllfgolmloaaDoor.Pure

-- Written by a program of this claim's author.
namespace Go.Proofs.YtbkcllfgolmloaaDoor.fnExactIsPrefixRelation
open Go.ChangeShapes Go.WideShapes Go.ChangeAt Go.RowKit
open Go.ChangeMaps (open_string shut_string)
set_option linter.unusedVariables false
theorem own : ownKnob Tryd.prog.godebug = none := by kernel_rfl
set_option maxRecDepth 100000 in
theorem lifted (os : Os) (started : os.Started) (H : Type) (enc : TypeId × Value → H) :
  ReturnsInHanded {} Tryd.checked os 8 .any (fun w args => (Rows.fnExactIsPrefixRelationSpec.pre enc Tryd.prog Tryd.f8 Rows.fnExactIsPrefixRelationRow.domain false w args ∧ laidMet Tryd.prog X.laid3 w) ∧ sizedMet enc Tryd.prog Tryd.f8 (OpenSpec.ofChange Rows.fnExactIsPrefixRelationSpec) false w args) (Rows.fnExactIsPrefixRelationSpec.post enc Tryd.prog Tryd.f8 false true false false) := by
 refine returnsInHanded_of_change_and (C := Tryd.checked) (X := fun w _ => laidMet Tryd.prog X.laid3 w) (fun _ _ _ hh h => h.of_heap hh) own started (by kernel_rfl) Tryd.func8
  (ChangeSpec.witness_at (enc := enc) (C := Tryd.checked) (os := os) (X := fun w _ => laidMet Tryd.prog X.laid3 w) false (X.laidWorld os) #[] 8 rfl (by kernel_rfl) (by kernel_rfl) (by kernel_rfl) (by kernel_rfl) (by kernel_rfl) (X.laidWorld_met os _)) ?_
 intro W base args ds gs before hval0 hW _ hsz0 hL _
 have hval : ∀ (j : Nat) t v, Tryd.f8.params[j]? = some t → args[j]? = some v → Value.okWide Tryd.prog W .any base t v := hval0
 have hW' := hW
 obtain ⟨p, q, hA0, hV, rfl, hfz, hnd⟩ := hW
 have hA : DataW.TrodAll enc Tryd.prog W 0 (fun _ => true) true Tryd.f8.params.toList args.toList ds p := hA0
 rw [Tryd.params8] at hA hval
 obtain ⟨rfl, rfl, rfl⟩ := trodAll_none hA
 obtain ⟨rfl, rfl⟩ := trodVars_none hV
 clear hA0 hval0 hsz0
 obtain ⟨n_, hn_⟩ := Pure.FnExactIsPrefixRelation  
 refine (X.laws_FnExactIsPrefixRelation.calls n_  W (X.tabOK_of hL)  hn_).mono fun e W' ⟨he, bel⟩ => ?_
 subst he
 exact ⟨_, rfl, _, _, _, [], _, [], hW', trodAll_mk1 (shut_bool Tryd.underlying4 _), trodAll_mk0, rfl, bel.frame _, fun h => by cases h⟩
theorem over : Rows.fnExactIsPrefixRelationRow.holds Tryd.pinned (OpenSpec.ofChange Rows.fnExactIsPrefixRelationSpec) :=
 OpenClaim.holds_of_wide 8 Tryd.f8 rfl rfl rfl rfl rfl rfl rfl ⟨rfl, rfl, rfl, rfl, rfl⟩ rfl rfl rfl rfl rfl (by kernel_rfl) Tryd.func8 (by kernel_rfl)
  (of_decide_eq_true (by kernel_rfl)) (by unfold Func.isWrapper; first | (rw [if_pos (by decide +kernel)]; kernel_rfl) | (rw [if_neg (by decide +kernel)]; exact ⟨rfl, rfl⟩))
  (fun os started H enc _ => lifted os started H enc)
set_option maxRecDepth 100000 in
theorem proved : Rows.FnExactIsPrefixRelationCardSaid :=
 Claim7.holds_tied_plain_at .later [] Rows.fnExactIsPrefixRelationCard.laidKinds true (true, "f51c4824e2bc35f367135000083f29c5ec74c549effb7d54f23c468ffd466c0d") false
  over (fun _ h => by cases h) (by kernel_rfl) (fun _ h => by cases h) fnExactIsPrefixRelation_row_tie rfl ⟨rfl, rfl⟩ (by kernel_rfl) rfl
  (fun f fn hf hfn => by
   obtain rfl : f = 8 := Option.some.inj ((show Tryd.prog.funcNamed "loop.example/g01168/laws.FnExactIsPrefixRelation" = some 8 by kernel_rfl).symm.trans hf) |>.symm
   obtain rfl : fn = Tryd.f8 := (Option.some.inj (Tryd.func8.symm.trans hfn)).symm
   refine ⟨by kernel_rfl, fun j t ht => ?_⟩
   have hall : (Tryd.f8.params.toList.all fun t => !Tryd.prog.wantsStandIn t) = true := by kernel_rfl
   have := List.all_eq_true.1 hall t (Array.mem_def.1 (Array.mem_of_getElem? ht))
   exact (show Tryd.prog.wantsStandIn t = false by simpa using this))
  (by kernel_rfl)
#print axioms proved
end Go.Proofs.YtbkcllfgolmloaaDoor.fnExactIsPrefixRelation
namespace Go.Proofs.YtbkcllfgolmloaaDoor
/-- The row, under a short name, for the claim. -/
theorem fnExactIsPrefixRelation_holds : Rows.FnExactIsPrefixRelationCardSaid := fnExactIsPrefixRelation.proved
end Go.Proofs.YtbkcllfgolmloaaDoor

