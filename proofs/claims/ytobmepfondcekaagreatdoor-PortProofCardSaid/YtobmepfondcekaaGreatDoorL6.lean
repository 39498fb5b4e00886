/- Proved: the tied card of PortProof: on every schedule the law PortProof returns true for every input, and leaves its arguments as they were. Conditions: those of the given row alone. -/
import Derived.Test.YtobmepfondcekaaGreatDoorL4
import Derived.Test.YtobmepfondcekaaGreatDoorL5
set_option linter.all false
open Go.Proofs.Tryz
namespace Go.Proofs.YtobmepfondcekaaGreatDoor
open Go.ChangeShapes Go.WideShapes Go.ChangeAt Go.RowKit Go.Conc Go.ConcM
section
set_option maxRecDepth 100000
theorem portProof_holds:Rows.PortProofSaid:=OpenClaim.holds_of_wide_leaving_time 17 f17 rfl rfl rfl rfl rfl rfl rfl ⟨rfl,rfl,rfl,rfl,rfl⟩ rfl rfl rfl rfl rfl Ψ func17 BE (of_decide_eq_true Ψ) (by unfold Func.isWrapper;first|(rw[if_pos (by decide+kernel)];kernel_rfl)|(rw[if_neg (by decide+kernel)];exact⟨rfl,rfl⟩)) (λe a H d _ F=>by rw[uN];exact qs e a H d F)
theorem Gt:Tryz.pinned.checked.prog.mainIs=some (true, "a567230e4665c4a57b5bdfc57e723d3ecba9dec4d25fb3be6a8bc39afe29a9ef".toList):=Ψ
theorem G2:true=Rows.portProofRow.goesBy Tryz.pinned.checked.prog:=Ψ
theorem portProof_card:Rows.PortProofCardSaid:=rf [.data,.pinned] (true, "a567230e4665c4a57b5bdfc57e723d3ecba9dec4d25fb3be6a8bc39afe29a9ef") false portProof_holds Ψ portProof_row_tie rfl ⟨rfl,rfl⟩ Gt rfl (λf fn hf hfn=>by obtain rfl:f=17:=Vb ((show prog.funcNamed "touchmark/touchmarklaw09.PortProof" =some 17 by kernel_rfl).symm.trans hf)|>.symm;obtain rfl:fn=f17:=(Vb (func17.symm.trans hfn)).symm;exact⟨by kernel_rfl,λj t ht=>by rw[params17]at ht;(have hm:t∈[25,33,60]:=by simpa using Vg ht);have hall:([25,33,60].all λu=>!prog.wantsStandIn u)=true:=Ψ;exact(show prog.wantsStandIn t=false by simpa using UT.1 hall t hm)⟩) G2
end
end Go.Proofs.YtobmepfondcekaaGreatDoor
