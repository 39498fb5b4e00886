/- Proved: the tied card of PortBayed: on every schedule the law PortBayed returns true for every input, and leaves its arguments as they were. Conditions: those of the given row alone. -/
import Derived.Test.YtobmepfondcekaaGreatDoorK5
set_option linter.all false
open Go.Proofs.Tryz
namespace Go.Proofs.YtobmepfondcekaaGreatDoor
open Go.ChangeShapes Go.WideShapes Go.ChangeAt Go.RowKit Go.Conc Go.ConcM
section
set_option maxRecDepth 100000
theorem portBayed_holds:Rows.PortBayedSaid:=OpenClaim.holds_of_wide_leaving_time 16 f16 rfl rfl rfl rfl rfl rfl rfl ⟨rfl,rfl,rfl,rfl,rfl⟩ rfl rfl rfl rfl rfl Ψ func16 Be (of_decide_eq_true Ψ) (by unfold Func.isWrapper;first|(rw[if_pos (by decide+kernel)];kernel_rfl)|(rw[if_neg (by decide+kernel)];exact⟨rfl,rfl⟩)) (λe a H d _ F=>by rw[uK];exact qw e a H d F)
theorem G2:Tryz.pinned.checked.prog.mainIs=some (true, "a567230e4665c4a57b5bdfc57e723d3ecba9dec4d25fb3be6a8bc39afe29a9ef".toList):=Ψ
theorem Fa:true=Rows.portBayedRow.goesBy Tryz.pinned.checked.prog:=Ψ
theorem portBayed_card:Rows.PortBayedCardSaid:=rn [.data,.pinned] (true, "a567230e4665c4a57b5bdfc57e723d3ecba9dec4d25fb3be6a8bc39afe29a9ef") false portBayed_holds Ψ portBayed_row_tie rfl ⟨rfl,rfl⟩ G2 rfl (λf fn hf hfn=>by obtain rfl:f=16:=U7 ((show prog.funcNamed "touchmark/touchmarklaw09.PortBayed" =some 16 by kernel_rfl).symm.trans hf)|>.symm;obtain rfl:fn=f16:=(U7 (func16.symm.trans hfn)).symm;exact⟨by kernel_rfl,λj t ht=>by rw[params16]at ht;(have hm:t∈[25,60]:=by simpa using Va ht);have hall:([25,60].all λu=>!prog.wantsStandIn u)=true:=Ψ;exact(show prog.wantsStandIn t=false by simpa using UU.1 hall t hm)⟩) Fa
end
end Go.Proofs.YtobmepfondcekaaGreatDoor
