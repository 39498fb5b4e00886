/- Proved: the tied card of PortOpened: on every schedule the law PortOpened returns true for every input, and leaves its arguments as they were. Conditions: those of the given row alone. -/
import Derived.Test.YtobmepfondcekaaGreatDoorO24
set_option linter.all false
open Go.Proofs.Tryz
namespace Go.Proofs.YtobmepfondcekaaGreatDoor
open Go.ChangeShapes Go.WideShapes Go.ChangeAt Go.RowKit Go.Conc Go.ConcM
section
set_option maxRecDepth 100000
theorem portOpened_holds:Rows.PortOpenedSaid:=OpenClaim.holds_of_wide_leaving_time 14 f14 rfl rfl rfl rfl rfl rfl rfl ⟨rfl,rfl,rfl,rfl,rfl⟩ rfl rfl rfl rfl rfl Ψ func14 zQ (of_decide_eq_true Ψ) (by unfold Func.isWrapper;first|(rw[if_pos (by decide+kernel)];kernel_rfl)|(rw[if_neg (by decide+kernel)];exact⟨rfl,rfl⟩)) (λe a H d _ F=>by rw[tr];exact oB e a H d F)
theorem GH:Tryz.pinned.checked.prog.mainIs=some (true, "a567230e4665c4a57b5bdfc57e723d3ecba9dec4d25fb3be6a8bc39afe29a9ef".toList):=Ψ
theorem Fv:true=Rows.portOpenedRow.goesBy Tryz.pinned.checked.prog:=Ψ
theorem portOpened_card:Rows.PortOpenedCardSaid:=q7 [.data,.pinned] (true, "a567230e4665c4a57b5bdfc57e723d3ecba9dec4d25fb3be6a8bc39afe29a9ef") false portOpened_holds Ψ portOpened_row_tie rfl ⟨rfl,rfl⟩ GH rfl (λf fn hf hfn=>by obtain rfl:f=14:=TZ ((show prog.funcNamed "touchmark/touchmarklaw09.PortOpened" =some 14 by kernel_rfl).symm.trans hf)|>.symm;obtain rfl:fn=f14:=(TZ (func14.symm.trans hfn)).symm;exact⟨by kernel_rfl,λj t ht=>by rw[params14]at ht;(have hm:t∈[25,5,5,5]:=by simpa using T1 ht);have hall:([25,5,5,5].all λu=>!prog.wantsStandIn u)=true:=Ψ;exact(show prog.wantsStandIn t=false by simpa using TF.1 hall t hm)⟩) Fv
end
end Go.Proofs.YtobmepfondcekaaGreatDoor
