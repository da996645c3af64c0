-- Words of the kit's print, those that this claim uses.
import Derived.Test.YthajahdjkmfnnaaDLWInv
import Derived.Test.YthajahdjkmfnnaaDLWFootNe
namespace Go.Proofs.YthajahdjkmfnnaaW.PrintWords
open Go.RowKit
end Go.Proofs.YthajahdjkmfnnaaW.PrintWords
namespace Go.Proofs.YthajahdjkmfnnaaW.PrintLast
section
variable {ops : Array Oper} {a : Act} {o og : Oper} {g : Nat} {t : Tmp} {u : Bool}
end
end Go.Proofs.YthajahdjkmfnnaaW.PrintLast
