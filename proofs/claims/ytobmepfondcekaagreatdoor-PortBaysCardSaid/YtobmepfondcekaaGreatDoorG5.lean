/- Proved: the tied card of PortBays: on every schedule the law PortBays returns true for every input, and leaves its arguments as they were. Conditions: those of the given row alone. -/
import Derived.Test.YtobmepfondcekaaGreatDoorG4
set_option linter.all false
open Go.Proofs.Tryz
namespace Go.Proofs.YtobmepfondcekaaGreatDoor
open Go.ChangeShapes Go.WideShapes Go.ChangeAt Go.RowKit Go.Conc Go.ConcM
section
set_option maxRecDepth 100000
theorem portBays_holds:Rows.PortBaysSaid:=OpenClaim.holds_of_wide_leaving_time 15 f15 rfl rfl rfl rfl rfl rfl rfl ⟨rfl,rfl,rfl,rfl,rfl⟩ rfl rfl rfl rfl rfl Ψ func15 BX (of_decide_eq_true Ψ) (by unfold Func.isWrapper;first|(rw[if_pos (by decide+kernel)];kernel_rfl)|(rw[if_neg (by decide+kernel)];exact⟨rfl,rfl⟩)) (λe a H d _ F=>by rw[xQ];exact rN e a H d F)
theorem IK:Tryz.pinned.checked.prog.mainIs=some (true, "a567230e4665c4a57b5bdfc57e723d3ecba9dec4d25fb3be6a8bc39afe29a9ef".toList):=Ψ
theorem Il:true=Rows.portBaysRow.goesBy Tryz.pinned.checked.prog:=Ψ
theorem portBays_card:Rows.PortBaysCardSaid:=rR [.data,.pinned] (true, "a567230e4665c4a57b5bdfc57e723d3ecba9dec4d25fb3be6a8bc39afe29a9ef") false portBays_holds Ψ portBays_row_tie rfl ⟨rfl,rfl⟩ IK rfl (λf fn hf hfn=>by obtain rfl:f=15:=Wf ((show prog.funcNamed "touchmark/touchmarklaw09.PortBays" =some 15 by kernel_rfl).symm.trans hf)|>.symm;obtain rfl:fn=f15:=(Wf (func15.symm.trans hfn)).symm;exact⟨by kernel_rfl,λj t ht=>by rw[params15]at ht;(have hm:t∈[25,33,3]:=by simpa using Wg ht);have hall:([25,33,3].all λu=>!prog.wantsStandIn u)=true:=Ψ;exact(show prog.wantsStandIn t=false by simpa using VS.1 hall t hm)⟩) Il
end
end Go.Proofs.YtobmepfondcekaaGreatDoor
