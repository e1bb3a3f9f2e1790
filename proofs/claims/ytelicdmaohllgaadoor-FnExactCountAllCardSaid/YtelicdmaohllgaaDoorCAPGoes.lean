-- Written by a program of this claim's author.
import Derived.Test.YtelicdmaohllgaaDoorRows
import Derived.Test.YtelicdmaohllgaaDoorCards
import Derived.Test.YtelicdmaohllgaaDoorTie
import Derived.WalkKit
import Derived.ProofKit
import Derived.SevenTiedAt
namespace Go.Proofs.YtelicdmaohllgaaDoor.fnExactCountAll
set_option maxRecDepth 100000 in
theorem pg : false = Rows.fnExactCountAllRow.goesBy Tryd.pinned.checked.prog := by kernel_rfl
end Go.Proofs.YtelicdmaohllgaaDoor.fnExactCountAll
