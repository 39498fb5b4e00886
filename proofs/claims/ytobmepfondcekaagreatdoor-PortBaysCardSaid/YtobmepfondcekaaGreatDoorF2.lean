/- A part. -/
import Derived.Test.YtobmepfondcekaaGreatDoorG0
import Derived.Test.YtobmepfondcekaaGreatDoorRows
import Derived.JoinedOf
import Derived.KernelRfl
set_option linter.all false
open Go.Proofs.Tryz
namespace Go.Proofs.YtobmepfondcekaaGreatDoor
set_option maxRecDepth 100000
theorem IH:(Rows.portNearsRow.lifted==Tryz.pinned.checked.prog.liftsFinal)=true:=Ψ
end Go.Proofs.YtobmepfondcekaaGreatDoor
