-- Written by a program of this claim's author.
import Derived.Test.YtelicdmaohllgaaDoorRows
import Derived.Test.YtelicdmaohllgaaDoorCards
import Derived.Test.YtelicdmaohllgaaDoorTie
import Derived.WalkKit
import Derived.ProofKit
import Derived.SevenTiedAt
namespace Go.Proofs.YtelicdmaohllgaaDoor.fnExactCountAll
set_option maxRecDepth 100000 in
theorem pm : Tryd.pinned.checked.prog.mainIs = some (true, "0c7ba4238cc5b18ce93ff7ca11a5332e08856aff23ce2f214aee8337654ec517".toList) := by kernel_rfl
end Go.Proofs.YtelicdmaohllgaaDoor.fnExactCountAll
