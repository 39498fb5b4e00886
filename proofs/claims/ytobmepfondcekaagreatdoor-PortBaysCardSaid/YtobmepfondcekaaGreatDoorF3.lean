/- A part. -/
import Derived.Test.YtobmepfondcekaaGreatDoorG0
import Derived.Test.YtobmepfondcekaaGreatDoorRows
import Derived.JoinedOf
import Derived.KernelRfl
set_option linter.all false
open Go.Proofs.Tryz
namespace Go.Proofs.YtobmepfondcekaaGreatDoor
set_option maxRecDepth 100000
theorem Mo:(Tryz.pinned.checked.prog.make==some Rows.portNearsRow.make)=true:=Ψ
end Go.Proofs.YtobmepfondcekaaGreatDoor
