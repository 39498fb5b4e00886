/- Proved: the tied card of PortAsked: on every schedule the law PortAsked returns true for every input, and leaves its arguments as they were. Conditions: those of the given row alone. -/
import Derived.Test.YtobmepfondcekaaGreatDoorT5
set_option linter.all false
open Go.Proofs.Tryz
namespace Go.Proofs.YtobmepfondcekaaGreatDoor
open Go.ChangeShapes Go.WideShapes Go.ChangeAt Go.RowKit Go.Conc Go.ConcM
section
set_option maxRecDepth 100000
theorem portAsked_holds:Rows.PortAskedSaid:=OpenClaim.holds_of_wide_leaving_time 12 f12 rfl rfl rfl rfl rfl rfl rfl ⟨rfl,rfl,rfl,rfl,rfl⟩ rfl rfl rfl rfl rfl Ψ func12 Ay (of_decide_eq_true Ψ) (by unfold Func.isWrapper;first|(rw[if_pos (by decide+kernel)];kernel_rfl)|(rw[if_neg (by decide+kernel)];exact⟨rfl,rfl⟩)) (λe a H d _ F=>by rw[uu];exact qe e a H d F)
theorem E8:Tryz.pinned.checked.prog.mainIs=some (true, "a567230e4665c4a57b5bdfc57e723d3ecba9dec4d25fb3be6a8bc39afe29a9ef".toList):=Ψ
theorem FE:true=Rows.portAskedRow.goesBy Tryz.pinned.checked.prog:=Ψ
theorem portAsked_card:Rows.PortAskedCardSaid:=rh [.data,.pinned] (true, "a567230e4665c4a57b5bdfc57e723d3ecba9dec4d25fb3be6a8bc39afe29a9ef") false portAsked_holds Ψ portAsked_row_tie rfl ⟨rfl,rfl⟩ E8 rfl (λf fn hf hfn=>by obtain rfl:f=12:=U1 ((show prog.funcNamed "touchmark/touchmarklaw09.PortAsked" =some 12 by kernel_rfl).symm.trans hf)|>.symm;obtain rfl:fn=f12:=(U1 (func12.symm.trans hfn)).symm;exact⟨by kernel_rfl,λj t ht=>by rw[params12]at ht;(have hm:t∈[25,5,5,60]:=by simpa using U4 ht);have hall:([25,5,5,60].all λu=>!prog.wantsStandIn u)=true:=Ψ;exact(show prog.wantsStandIn t=false by simpa using UM.1 hall t hm)⟩) FE
end
end Go.Proofs.YtobmepfondcekaaGreatDoor
