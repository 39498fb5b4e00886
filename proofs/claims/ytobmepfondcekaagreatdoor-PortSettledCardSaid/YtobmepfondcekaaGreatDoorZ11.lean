/- Proved: the tied card of PortSettled: on every schedule the law PortSettled returns true for every input, and leaves its arguments as they were. Conditions: those of the given row alone. -/
import Derived.Test.YtobmepfondcekaaGreatDoorZ10
set_option linter.all false
open Go.Proofs.Tryz renaming prog->Pz
open Go renaming DataW->Vx,Frame->U0,FuncId->Va,IntKind->U1,MemAct->Ve,Operand->Vh,TypeId->U8,Value->UO,World->UL,execOp->UZ
open Bool renaming false->Ul,true->UJ
open Option renaming none->UM,some->UG
open Go.Proofs.Tryz
section
namespace Go.Proofs.YtobmepfondcekaaGreatDoor
open Go.ChangeShapes Go.WideShapes Go.ChangeAt Go.RowKit Go.Conc Go.ConcM
section
set_option linter.all false
set_option maxRecDepth 100000
theorem portSettled_holds:Rows.PortSettledSaid:=OpenClaim.holds_of_wide_leaving_time 8 f8 rfl rfl rfl rfl rfl rfl rfl ⟨rfl,rfl,rfl,rfl,rfl⟩ rfl rfl rfl rfl rfl Ψ func8 aff (of_decide_eq_true Ψ) (by unfold Func.isWrapper;first|(rw[if_pos (by decide+kernel)];kernel_rfl)|(rw[if_neg (by decide+kernel)];exact⟨rfl,rfl⟩)) (λe a H d _ F=>by rw[aeV];exact aeS e a H d F)
theorem n8_main:Tryz.pinned.checked.prog.mainIs=some (UJ, "a567230e4665c4a57b5bdfc57e723d3ecba9dec4d25fb3be6a8bc39afe29a9ef".toList):=by kernel_rfl
theorem n8_goes:UJ=Rows.portSettledRow.goesBy Tryz.pinned.checked.prog:=by kernel_rfl
theorem portSettled_card:Rows.PortSettledCardSaid:=ru [.data,.pinned] (UJ, "a567230e4665c4a57b5bdfc57e723d3ecba9dec4d25fb3be6a8bc39afe29a9ef") Ul portSettled_holds Ψ portSettled_row_tie rfl ⟨rfl,rfl⟩ n8_main rfl (λf fn hf hfn=>by obtain rfl:f=8:=SR ((show Pz.funcNamed "touchmark/touchmarklaw09.PortSettled" =UG 8 by kernel_rfl).symm.trans hf)|>.symm;obtain rfl:fn=f8:=(SR (func8.symm.trans hfn)).symm;exact⟨by kernel_rfl,λj t ht=>by rw[params8]at ht;(have hm:t∈[25,5,5,5,5,60]:=by simpa using S6 ht);have hall:([25,5,5,5,5,60].all λu=>!Pz.wantsStandIn u)=UJ:=Ψ;exact(show Pz.wantsStandIn t=Ul by simpa using S7.1 hall t hm)⟩) n8_goes
end
end Go.Proofs.YtobmepfondcekaaGreatDoor
