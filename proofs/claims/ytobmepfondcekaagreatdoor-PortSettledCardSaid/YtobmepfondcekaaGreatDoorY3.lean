/- A part of the proof that PortSettled holds for every input. Conditions: none. -/
import Derived.Test.YtobmepfondcekaaGreatDoorZ0
import Derived.Test.YtobmepfondcekaaGreatDoorRows
import Derived.JoinedOf
import Derived.KernelRfl
set_option linter.all false
namespace Go.Proofs.YtobmepfondcekaaGreatDoor
set_option maxRecDepth 100000
theorem Jj:(Tryz.pinned.checked.prog.make==some Rows.portNearsRow.make)=true:=by kernel_rfl
end Go.Proofs.YtobmepfondcekaaGreatDoor
