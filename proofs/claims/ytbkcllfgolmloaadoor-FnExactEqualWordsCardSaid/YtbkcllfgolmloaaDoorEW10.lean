import Derived.Test.YtbkcllfgolmloaaDoorRows
import Derived.Test.YtbkcllfgolmloaaDoorEW2
import Derived.Test.YtbkcllfgolmloaaDoorEW5
import Derived.Lib.LaidTab
import Derived.LaidLaws
import Derived.ChangeVars
import Derived.JoinedOf
import Derived.JoinedAt
import Derived.Test.YtbkcllfgolmloaaDoorEW9
namespace Go.Proofs.YtbkcllfgolmloaaDoor.X
open Go Go.RowKit Go.Proofs.YtbkcllfgolmloaaDoorW.PrintWords Go.Proofs.YtbkcllfgolmloaaDoorW.PrintLast Go.Proofs.YtbkcllfgolmloaaDoorW.PrintMore
set_option linter.unusedVariables false
set_option linter.unusedSimpArgs false
def cellsOfD : DataW Unit → Array Value
 | .agg l => (l.map fun d => match d with | .lit x => x.value | _ => .bool false).toArray
 | _ => #[]
noncomputable def layAt (w : World) (g : Nat) (d : DataW Unit) : World := { w with heap := w.heap.modify g fun
 | .cells _ t frozen => .cells (cellsOfD d) t frozen
 | o => o }
noncomputable def laidWorld (os : Os) : World :=
 layAt (layAt (layAt (World.holding Tryd.prog os ⟨#[], #[], []⟩) 4 Rows.laid_math_bits_deBruijn32tab) 5 Rows.laid_math_bits_deBruijn64tab) 0 Rows.laid_internal_strconv_uint64pow10
def laid3 : List (String × DataW Unit) := [("math/bits.deBruijn32tab", Rows.laid_math_bits_deBruijn32tab), ("math/bits.deBruijn64tab", Rows.laid_math_bits_deBruijn64tab), ("internal/strconv.uint64pow10", Rows.laid_internal_strconv_uint64pow10)]
set_option maxRecDepth 100000 in
theorem laidWorld_met (os : Os) (args : Array Value) : laidMet Tryd.prog laid3 ((laidWorld os).forCall (fun _ _ => 0) ⟨#[], args, []⟩).memory :=
 laidMet_of_run (ps := (List.range 32).map (MemPlace.cell 4) ++ (List.range 64).map (MemPlace.cell 5) ++ (List.range 20).map (MemPlace.cell 0)) 8 (by kernel_rfl) (by kernel_rfl) (by kernel_rfl)
theorem pow_data : (Rows.laid_internal_strconv_uint64pow10 : DataW Unit) = Lib.tabData .u64 Lib.pow10Tab := by kernel_rfl
theorem tab_of_laid {W : World} (h : laidMet Tryd.prog laid3 W) : Lib.TabIs Tryd.prog W "internal/strconv.uint64pow10" .u64 Lib.pow10Tab := by
 obtain ⟨ps, ⟨_, _, _, _, _, _, _, _, _, _, ⟨_, _, _, _, _, _, _, _, _, _, ⟨g', t', cs, fuel, p, q, hg', ht', hvar, hd, _, _⟩, _⟩, _⟩, _⟩ := h
 obtain rfl := Option.some.inj ((show Tryd.prog.globalNamed "internal/strconv.uint64pow10" = some 0 by kernel_rfl).symm.trans hg')
 obtain rfl := Option.some.inj ((show (Tryd.prog.globals[0]?).map (·.type) = some 180 by kernel_rfl).symm.trans ht')
 rw [pow_data] at hd
 unfold Lib.TabIs
 rw [hvar, ← Lib.cells_of_tab Tryd.underlying180 Tryd.underlying172 (by kernel_rfl) (by kernel_rfl) hd]
theorem tabOK_of {W : World} (h : laidMet Tryd.prog laid3 W) : TabOK W := Lib.tabBelow_of_tabIs (tab_of_laid h)
end Go.Proofs.YtbkcllfgolmloaaDoor.X

namespace Go.Proofs.YtbkcllfgolmloaaDoor.Pure
open Go.RowKit Go.Proofs.YtbkcllfgolmloaaDoor.X Go.Proofs.YtbkcllfgolmloaaDoorW.PrintWords Go.Proofs.YtbkcllfgolmloaaDoorW.PrintLast
set_option linter.unusedVariables false
set_option linter.unusedSimpArgs false
def mB : Nat → Nat → List Bool
 | _, 0 => []
 | a, n + 1 => (Int.tmod (a : Int) 3 == 0) :: mB (a + 1) n
def mI : Nat → Nat → List Int
 | _, 0 => []
 | a, n + 1 => (a : Int) :: mI (a + 1) n
def mII : Nat → List (List Int) → List (List Int)
 | _, [] => []
 | a, r :: rs => mI a r.length :: mII (a + r.length) rs
def sumL : List (List Int) → Nat
 | [] => 0
 | r :: rs => r.length + sumL rs
def relEqualWords : Int × Int × List Bool × List (List Int) := (impl_EqualWords.f 200).getD (0, 0, [], [])
set_option maxRecDepth 100000 in
theorem lawEqualWords : laws_FnExactEqualWords.f 200 = some true := by
 have hI : impl_EqualWords.f 200 = some (relEqualWords.1, relEqualWords.2.1, relEqualWords.2.2.1, relEqualWords.2.2.2) := by decide +kernel
 have hS : spec_EqualWords.f 200 = some (relEqualWords.1, relEqualWords.2.1, relEqualWords.2.2.1, relEqualWords.2.2.2) := by decide +kernel
 have hE : laws_eqRelation.f 200 relEqualWords.1 relEqualWords.2.1 relEqualWords.2.2.1 relEqualWords.2.2.2 relEqualWords.1 relEqualWords.2.1 relEqualWords.2.2.1 relEqualWords.2.2.2 = some true := by decide +kernel
 have h1 : laws_markBoolS.f 200 relEqualWords.2.2.1 1 = some (((1 + relEqualWords.2.2.1.length : Nat) : Int), mB 1 relEqualWords.2.2.1.length) := by decide +kernel
 have h2 : laws_markInt64SS.f 200 relEqualWords.2.2.2 ((1 + relEqualWords.2.2.1.length : Nat) : Int) = some (((1 + relEqualWords.2.2.1.length + sumL relEqualWords.2.2.2 : Nat) : Int), mII (1 + relEqualWords.2.2.1.length) relEqualWords.2.2.2) := by decide +kernel
 have h3 : laws_heldRelation.f 200 relEqualWords.1 relEqualWords.2.1 (mB 1 relEqualWords.2.2.1.length) (mII (1 + relEqualWords.2.2.1.length) relEqualWords.2.2.2) 1 = some ((1 + relEqualWords.2.2.1.length + sumL relEqualWords.2.2.2 : Nat) : Int) := by decide +kernel
 unfold laws_FnExactEqualWords.f
 rw [hS]
 simp only [Option.bind_some]
 rw [if_pos hI, if_pos hE, h1]
 simp only [Option.bind_some]
 rw [h2]
 simp only [Option.bind_some]
 rw [if_neg (by omega), if_pos h3]
theorem FnExactEqualWords : ∃ k, laws_FnExactEqualWords.f k = some true := ⟨_, lawEqualWords⟩
end Go.Proofs.YtbkcllfgolmloaaDoor.Pure

