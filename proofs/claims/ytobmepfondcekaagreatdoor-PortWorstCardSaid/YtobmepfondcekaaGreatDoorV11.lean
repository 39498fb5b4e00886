/- Proved: the tied card of PortWorst: on every schedule the law PortWorst returns true for every input, and leaves its arguments as they were. Conditions: those of the given row alone. -/
import Derived.Test.YtobmepfondcekaaGreatDoorV10
set_option linter.all false
open Go.Proofs.Tryz
namespace Go.Proofs.YtobmepfondcekaaGreatDoor
open Go.ChangeShapes Go.WideShapes Go.ChangeAt Go.RowKit Go.Conc Go.ConcM
section
set_option linter.all false
set_option maxRecDepth 100000
theorem portWorst_holds:Rows.PortWorstSaid:=OpenClaim.holds_of_wide_leaving_time 13 f13 rfl rfl rfl rfl rfl rfl rfl ⟨rfl,rfl,rfl,rfl,rfl⟩ rfl rfl rfl rfl rfl Ψ func13 zI (of_decide_eq_true Ψ) (by unfold Func.isWrapper;first|(rw[if_pos (by decide+kernel)];kernel_rfl)|(rw[if_neg (by decide+kernel)];exact⟨rfl,rfl⟩)) (λe a H d _ F=>by rw[tJ];exact p9 e a H d F)
theorem GX:Tryz.pinned.checked.prog.mainIs=some (true, "a567230e4665c4a57b5bdfc57e723d3ecba9dec4d25fb3be6a8bc39afe29a9ef".toList):=Ψ
theorem EB:true=Rows.portWorstRow.goesBy Tryz.pinned.checked.prog:=Ψ
theorem portWorst_card:Rows.PortWorstCardSaid:=qH [.data,.pinned] (true, "a567230e4665c4a57b5bdfc57e723d3ecba9dec4d25fb3be6a8bc39afe29a9ef") false portWorst_holds Ψ portWorst_row_tie rfl ⟨rfl,rfl⟩ GX rfl (λf fn hf hfn=>by obtain rfl:f=13:=TA ((show prog.funcNamed "touchmark/touchmarklaw09.PortWorst" =some 13 by kernel_rfl).symm.trans hf)|>.symm;obtain rfl:fn=f13:=(TA (func13.symm.trans hfn)).symm;exact⟨by kernel_rfl,λj t ht=>by rw[params13]at ht;(have hm:t∈[25,5,5]:=by simpa using TC ht);have hall:([25,5,5].all λu=>!prog.wantsStandIn u)=true:=Ψ;exact(show prog.wantsStandIn t=false by simpa using Tl.1 hall t hm)⟩) EB
end
end Go.Proofs.YtobmepfondcekaaGreatDoor
