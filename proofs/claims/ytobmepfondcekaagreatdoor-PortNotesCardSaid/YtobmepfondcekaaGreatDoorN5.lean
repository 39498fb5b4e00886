/- Proved: the tied card of PortNotes: on every schedule the law PortNotes returns true for every input, and leaves its arguments as they were. Conditions: those of the given row alone. -/
import Derived.Test.YtobmepfondcekaaGreatDoorN4
set_option linter.all false
open Go.Proofs.Tryz
namespace Go.Proofs.YtobmepfondcekaaGreatDoor
open Go.ChangeShapes Go.WideShapes Go.ChangeAt Go.RowKit Go.Conc Go.ConcM
section
set_option maxRecDepth 100000
theorem portNotes_holds:Rows.PortNotesSaid:=OpenClaim.holds_of_wide_leaving_time 9 f9 rfl rfl rfl rfl rfl rfl rfl ⟨rfl,rfl,rfl,rfl,rfl⟩ rfl rfl rfl rfl rfl Ψ func9 Dr (of_decide_eq_true Ψ) (by unfold Func.isWrapper;first|(rw[if_pos (by decide+kernel)];kernel_rfl)|(rw[if_neg (by decide+kernel)];exact⟨rfl,rfl⟩)) (λe a H d _ F=>by rw[uO];exact qv e a H d F)
theorem Ls:Tryz.pinned.checked.prog.mainIs=some (true, "a567230e4665c4a57b5bdfc57e723d3ecba9dec4d25fb3be6a8bc39afe29a9ef".toList):=Ψ
theorem LX:true=Rows.portNotesRow.goesBy Tryz.pinned.checked.prog:=Ψ
theorem portNotes_card:Rows.PortNotesCardSaid:=ru [.data,.pinned] (true, "a567230e4665c4a57b5bdfc57e723d3ecba9dec4d25fb3be6a8bc39afe29a9ef") false portNotes_holds Ψ portNotes_row_tie rfl ⟨rfl,rfl⟩ Ls rfl (λf fn hf hfn=>by obtain rfl:f=9:=VC ((show prog.funcNamed "touchmark/touchmarklaw09.PortNotes" =some 9 by kernel_rfl).symm.trans hf)|>.symm;obtain rfl:fn=f9:=(VC (func9.symm.trans hfn)).symm;exact⟨by kernel_rfl,λj t ht=>by rw[params9]at ht;(have hm:t∈[25,54,5,5]:=by simpa using Vv ht);have hall:([25,54,5,5].all λu=>!prog.wantsStandIn u)=true:=Ψ;exact(show prog.wantsStandIn t=false by simpa using Vj.1 hall t hm)⟩) LX
end
end Go.Proofs.YtobmepfondcekaaGreatDoor
