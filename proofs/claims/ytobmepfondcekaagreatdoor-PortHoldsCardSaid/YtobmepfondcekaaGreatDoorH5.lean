/- Proved: the tied card of PortHolds: on every schedule the law PortHolds returns true for every input, and leaves its arguments as they were. Conditions: those of the given row alone. -/
import Derived.Test.YtobmepfondcekaaGreatDoorH4
set_option linter.all false
open Go.Proofs.Tryz
namespace Go.Proofs.YtobmepfondcekaaGreatDoor
open Go.ChangeShapes Go.WideShapes Go.ChangeAt Go.RowKit Go.Conc Go.ConcM
section
set_option maxRecDepth 100000
theorem portHolds_holds:Rows.PortHoldsSaid:=OpenClaim.holds_of_wide_leaving_time 4 f4 rfl rfl rfl rfl rfl rfl rfl ⟨rfl,rfl,rfl,rfl,rfl⟩ rfl rfl rfl rfl rfl Ψ func4 Dz (of_decide_eq_true Ψ) (by unfold Func.isWrapper;first|(rw[if_pos (by decide+kernel)];kernel_rfl)|(rw[if_neg (by decide+kernel)];exact⟨rfl,rfl⟩)) (λe a H d _ F=>by rw[u6];exact qO e a H d F)
theorem LX:Tryz.pinned.checked.prog.mainIs=some (true, "a567230e4665c4a57b5bdfc57e723d3ecba9dec4d25fb3be6a8bc39afe29a9ef".toList):=Ψ
theorem Ji:true=Rows.portHoldsRow.goesBy Tryz.pinned.checked.prog:=Ψ
theorem portHolds_card:Rows.PortHoldsCardSaid:=rK [.data,.pinned] (true, "a567230e4665c4a57b5bdfc57e723d3ecba9dec4d25fb3be6a8bc39afe29a9ef") false portHolds_holds Ψ portHolds_row_tie rfl ⟨rfl,rfl⟩ LX rfl (λf fn hf hfn=>by obtain rfl:f=4:=VM ((show prog.funcNamed "touchmark/touchmarklaw09.PortHolds" =some 4 by kernel_rfl).symm.trans hf)|>.symm;obtain rfl:fn=f4:=(VM (func4.symm.trans hfn)).symm;exact⟨by kernel_rfl,λj t ht=>by rw[params4]at ht;(have hm:t∈[25,3]:=by simpa using VN ht);have hall:([25,3].all λu=>!prog.wantsStandIn u)=true:=Ψ;exact(show prog.wantsStandIn t=false by simpa using VC.1 hall t hm)⟩) Ji
end
end Go.Proofs.YtobmepfondcekaaGreatDoor
