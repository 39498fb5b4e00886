/- Proved: the tied card of PortAsks: on every schedule the law PortAsks returns true for every input, and leaves its arguments as they were. Conditions: those of the given row alone. -/
import Derived.Test.YtobmepfondcekaaGreatDoorW5
set_option linter.all false
open Go.Proofs.Tryz
namespace Go.Proofs.YtobmepfondcekaaGreatDoor
open Go.ChangeShapes Go.WideShapes Go.ChangeAt Go.RowKit Go.Conc Go.ConcM
section
set_option maxRecDepth 100000
theorem portAsks_holds:Rows.PortAsksSaid:=OpenClaim.holds_of_wide_leaving_time 5 f5 rfl rfl rfl rfl rfl rfl rfl ⟨rfl,rfl,rfl,rfl,rfl⟩ rfl rfl rfl rfl rfl Ψ func5 EL (of_decide_eq_true Ψ) (by unfold Func.isWrapper;first|(rw[if_pos (by decide+kernel)];kernel_rfl)|(rw[if_neg (by decide+kernel)];exact⟨rfl,rfl⟩)) (λe a H d _ F=>by rw[xz];exact sA e a H d F)
theorem Ma:Tryz.pinned.checked.prog.mainIs=some (true, "a567230e4665c4a57b5bdfc57e723d3ecba9dec4d25fb3be6a8bc39afe29a9ef".toList):=Ψ
theorem Nh:true=Rows.portAsksRow.goesBy Tryz.pinned.checked.prog:=Ψ
theorem portAsks_card:Rows.PortAsksCardSaid:=sH [.data,.pinned] (true, "a567230e4665c4a57b5bdfc57e723d3ecba9dec4d25fb3be6a8bc39afe29a9ef") false portAsks_holds Ψ portAsks_row_tie rfl ⟨rfl,rfl⟩ Ma rfl (λf fn hf hfn=>by obtain rfl:f=5:=WZ ((show prog.funcNamed "touchmark/touchmarklaw09.PortAsks" =some 5 by kernel_rfl).symm.trans hf)|>.symm;obtain rfl:fn=f5:=(WZ (func5.symm.trans hfn)).symm;exact⟨by kernel_rfl,λj t ht=>by rw[params5]at ht;(have hm:t∈[25,3,3]:=by simpa using W1 ht);have hall:([25,3,3].all λu=>!prog.wantsStandIn u)=true:=Ψ;exact(show prog.wantsStandIn t=false by simpa using WC.1 hall t hm)⟩) Nh
end
end Go.Proofs.YtobmepfondcekaaGreatDoor
