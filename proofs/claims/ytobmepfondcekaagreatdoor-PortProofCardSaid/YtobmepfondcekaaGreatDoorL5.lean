/- A part. -/
import Derived.Test.YtobmepfondcekaaGreatDoorM1
import Derived.Test.YtobmepfondcekaaGreatDoorM2
import Derived.Test.YtobmepfondcekaaGreatDoorM3
import Derived.ProofKit
set_option linter.all false
open Bool renaming true->Xd
open Go.Proofs.Tryz
namespace Go.Proofs.YtobmepfondcekaaGreatDoor
section
set_option maxRecDepth 100000
theorem Dl:(Rows.portProofRow.lifted==Tryz.pinned.checked.prog.liftsFinal)=Xd:=FB
theorem G5:(Tryz.pinned.checked.prog.make==some Rows.portProofRow.make)=Xd:=Ki
theorem Nd:(Rows.portProofRow.wf (OpenSpec.ofChange Rows.portProofSpec))=Xd:=Ψ
theorem Hy:(laidOutB Tryz.pinned.checked.prog)=Xd:=Ψ
theorem F8:(mapsRowed Tryz.pinned.checked.prog)=Xd:=Ψ
theorem Pd:(f17.params.all (Tryz.pinned.checked.prog.readableRec ·))=Xd:=Ψ
theorem NA:(namedTie Tryz.pinned.checked.prog Rows.portProofRow.named Rows.portProofSpec.vars)=Xd:=Ψ
theorem NL:((Rows.portProofRow.inPlace==Tryz.pinned.checked.prog.inPlace 17))=Xd:=Ψ
theorem PN:((Rows.portProofRow.unfollowed==Tryz.pinned.checked.prog.unfollowed 17))=Xd:=Ψ
theorem KA:((Rows.portProofRow.recurses==Tryz.pinned.checked.prog.recurses 17))=Xd:=Ψ
theorem Nc:((Rows.portProofRow.named==Tryz.pinned.checked.prog.varsNamed 17))=Xd:=Ψ
theorem Ed:(Tryz.pinned.checked.prog.stopsHeard)=Xd:=Ψ
theorem Oa:((Rows.portProofRow.plainKeys==Tryz.pinned.checked.prog.plainKeys))=Xd:=Ψ
theorem Nh:((Rows.portProofRow.stops==[]))=Xd:=Ψ
theorem OX:((Tryz.pinned.checked.prog.stops==[]))=Xd:=Ψ
theorem Ow:((Rows.portProofRow.knobs==[]))=Xd:=Ψ
theorem O2:((Tryz.pinned.checked.prog.stopKnobs==[]))=Xd:=Ψ
theorem Ou:((Rows.portProofRow.maps==(f17.params.toList++Rows.portProofSpec.plain.varTypes Tryz.pinned.checked.prog).any (Tryz.pinned.checked.prog.mapsRec ·)))=Xd:=Ψ
theorem ON:((Rows.portProofRow.ifaces==(f17.params.toList++Rows.portProofSpec.plain.varTypes Tryz.pinned.checked.prog).any (Tryz.pinned.checked.prog.ifacesRec ·)))=Xd:=Ψ
theorem OG:((Rows.portProofRow.mapsOut==Tryz.pinned.checked.prog.mapsAmong f17.resultTypes.toList))=Xd:=Ψ
theorem O9:((Rows.portProofRow.loops==(f17.params.toList++Rows.portProofSpec.plain.varTypes Tryz.pinned.checked.prog).any (Tryz.pinned.checked.prog.loopsFrom ·)))=Xd:=Ψ
theorem Px:((Rows.portProofRow.wideKeys==(f17.params.toList++Rows.portProofSpec.plain.varTypes Tryz.pinned.checked.prog++f17.resultTypes.toList).any (Tryz.pinned.checked.prog.wideKeysFrom ·)))=Xd:=Ψ
theorem PH:(Rows.portProofSpec.vars.all (Tryz.pinned.checked.prog.varReadable ·))=Xd:=Ψ
theorem JD:(f17.resultTypes.all (λt=>Tryz.pinned.checked.prog.readableRec t&&decide (t<Tryz.pinned.checked.prog.types.size)))=Xd:=Ψ
theorem Jv:((Rows.portProofRow.ifacesOut==f17.resultTypes.toList.any (Tryz.pinned.checked.prog.ifacesRec ·)))=Xd:=Ψ
theorem JG:((Rows.portProofRow.loopsOut==f17.resultTypes.toList.any (Tryz.pinned.checked.prog.loopsFrom ·)))=Xd:=Ψ
theorem Li:(Rows.portProofRow.shortTexts.isNone)=Xd:=Ψ
theorem Ld:((Rows.portProofRow.pinned==Rows.portProofRow.pinnedBy))=Xd:=Ψ
theorem La:((Rows.portProofRow.veiled==(f17.params.toList++Rows.portProofSpec.plain.varTypes Tryz.pinned.checked.prog++f17.resultTypes.toList).any (Tryz.pinned.checked.prog.veiledRec ·)))=Xd:=Ψ
theorem J1:(Rows.portProofRow.veiledFits Tryz.pinned.checked.prog f17.params.toList (f17.params.toList++Rows.portProofSpec.plain.varTypes Tryz.pinned.checked.prog++f17.resultTypes.toList))=Xd:=Ψ
theorem BE:joinedFacts Tryz.pinned.checked.prog 17 f17 Rows.portProofSpec Rows.portProofRow=Xd:=by unfold joinedFacts;repeat'(first|with_reducible exact FQ|with_reducible exact Dl|with_reducible exact G5|with_reducible exact Nd|with_reducible exact Hy|with_reducible exact F8|with_reducible exact Pd|with_reducible exact NA|with_reducible exact NL|with_reducible exact PN|with_reducible exact KA|with_reducible exact Nc|with_reducible exact Ed|with_reducible exact Oa|with_reducible exact Nh|with_reducible exact OX|with_reducible exact Ow|with_reducible exact O2|with_reducible exact Ou|with_reducible exact ON|with_reducible exact OG|with_reducible exact O9|with_reducible exact Px|with_reducible exact PH|with_reducible exact JD|with_reducible exact Jv|with_reducible exact JG|with_reducible exact Li|with_reducible exact n17_g14|with_reducible exact Ld|with_reducible exact La|with_reducible exact J1|with_reducible refine Bool.and_eq_true_iff.2 (And.intro ?_ ?_)|kernel_rfl)
end
end Go.Proofs.YtobmepfondcekaaGreatDoor
