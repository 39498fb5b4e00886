/- Proved: the tied card of PortTrue: on every schedule the law PortTrue returns true for every input, and leaves its arguments as they were. Conditions: those of the given row alone. -/
import Derived.Test.YtobmepfondcekaaGreatDoorR7
set_option linter.all false
open Go.Proofs.Tryz
namespace Go.Proofs.YtobmepfondcekaaGreatDoor
open Go.ChangeShapes Go.WideShapes Go.ChangeAt Go.RowKit Go.Conc Go.ConcM
section
set_option maxRecDepth 100000
theorem portTrue_holds:Rows.PortTrueSaid:=OpenClaim.holds_of_wide_leaving_time 6 f6 rfl rfl rfl rfl rfl rfl rfl ⟨rfl,rfl,rfl,rfl,rfl⟩ rfl rfl rfl rfl rfl Ψ func6 EK (of_decide_eq_true Ψ) (by unfold Func.isWrapper;first|(rw[if_pos (by decide+kernel)];kernel_rfl)|(rw[if_neg (by decide+kernel)];exact⟨rfl,rfl⟩)) (λe a H d _ F=>by rw[xk];exact ri e a H d F)
theorem Mb:Tryz.pinned.checked.prog.mainIs=some (true, "a567230e4665c4a57b5bdfc57e723d3ecba9dec4d25fb3be6a8bc39afe29a9ef".toList):=Ψ
theorem JD:true=Rows.portTrueRow.goesBy Tryz.pinned.checked.prog:=Ψ
theorem portTrue_card:Rows.PortTrueCardSaid:=rm [.data,.pinned] (true, "a567230e4665c4a57b5bdfc57e723d3ecba9dec4d25fb3be6a8bc39afe29a9ef") false portTrue_holds Ψ portTrue_row_tie rfl ⟨rfl,rfl⟩ Mb rfl (λf fn hf hfn=>by obtain rfl:f=6:=Vl ((show prog.funcNamed "touchmark/touchmarklaw09.PortTrue" =some 6 by kernel_rfl).symm.trans hf)|>.symm;obtain rfl:fn=f6:=(Vl (func6.symm.trans hfn)).symm;exact⟨by kernel_rfl,λj t ht=>by rw[params6]at ht;(have hm:t∈[25,5,5,46]:=by simpa using Vm ht);have hall:([25,5,5,46].all λu=>!prog.wantsStandIn u)=true:=Ψ;exact(show prog.wantsStandIn t=false by simpa using U8.1 hall t hm)⟩) JD
end
end Go.Proofs.YtobmepfondcekaaGreatDoor
