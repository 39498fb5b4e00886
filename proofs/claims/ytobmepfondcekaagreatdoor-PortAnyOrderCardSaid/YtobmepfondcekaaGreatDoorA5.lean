/- Proved: the tied card of PortAnyOrder: on every schedule the law PortAnyOrder returns true for every input, and leaves its arguments as they were. Conditions: those of the given row alone. -/
import Derived.Test.YtobmepfondcekaaGreatDoorA4
set_option linter.all false
open Go.Proofs.Tryz
namespace Go.Proofs.YtobmepfondcekaaGreatDoor
open Go.ChangeShapes Go.WideShapes Go.ChangeAt Go.RowKit Go.Conc Go.ConcM
section
set_option maxRecDepth 100000
theorem portAnyOrder_holds:Rows.PortAnyOrderSaid:=OpenClaim.holds_of_wide_leaving_time 11 f11 rfl rfl rfl rfl rfl rfl rfl ⟨rfl,rfl,rfl,rfl,rfl⟩ rfl rfl rfl rfl rfl Ψ func11 BE (of_decide_eq_true Ψ) (by unfold Func.isWrapper;first|(rw[if_pos (by decide+kernel)];kernel_rfl)|(rw[if_neg (by decide+kernel)];exact⟨rfl,rfl⟩)) (λe a H d _ F=>by rw[qC];exact nG e a H d F)
theorem Ga:Tryz.pinned.checked.prog.mainIs=some (true, "a567230e4665c4a57b5bdfc57e723d3ecba9dec4d25fb3be6a8bc39afe29a9ef".toList):=Ψ
theorem Fv:true=Rows.portAnyOrderRow.goesBy Tryz.pinned.checked.prog:=Ψ
theorem portAnyOrder_card:Rows.PortAnyOrderCardSaid:=rh [.data,.pinned] (true, "a567230e4665c4a57b5bdfc57e723d3ecba9dec4d25fb3be6a8bc39afe29a9ef") false portAnyOrder_holds Ψ portAnyOrder_row_tie rfl ⟨rfl,rfl⟩ Ga rfl (λf fn hf hfn=>by obtain rfl:f=11:=Vt ((show prog.funcNamed "touchmark/touchmarklaw09.PortAnyOrder" =some 11 by kernel_rfl).symm.trans hf)|>.symm;obtain rfl:fn=f11:=(Vt (func11.symm.trans hfn)).symm;exact⟨by kernel_rfl,λj t ht=>by rw[params11]at ht;(have hm:t∈[25,5,5,5]:=by simpa using Vj ht);have hall:([25,5,5,5].all λu=>!prog.wantsStandIn u)=true:=Ψ;exact(show prog.wantsStandIn t=false by simpa using U2.1 hall t hm)⟩) Fv
end
end Go.Proofs.YtobmepfondcekaaGreatDoor
