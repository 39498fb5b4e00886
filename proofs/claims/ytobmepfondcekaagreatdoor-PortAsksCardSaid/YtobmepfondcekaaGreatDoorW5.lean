/- A part. -/
import Derived.Test.YtobmepfondcekaaGreatDoorW4
import Derived.Test.YtobmepfondcekaaGreatDoorC1
import Derived.Test.YtobmepfondcekaaGreatDoorC2
import Derived.Test.YtobmepfondcekaaGreatDoorC3
set_option linter.all false
open Go.Proofs.Tryz renaming prog->Pz
open Go renaming TypeId->Zd,Value->YY,World->YZ
open Bool renaming false->YT,true->YX
open Go.Proofs.Tryz
section
namespace Go.Bh
open Go.Proofs Go.Conc Go.Mx Go.Rk Go.Cr Go.Pw Go.Lw Go.Me Go.ae
open Go.ChangeShapes Go.WideShapes Go.ChangeAt Go.RowKit Go.ConcM
theorem N8{W:YZ}{base:Nat}{t:Zd}{k:IntKind}{v:YY}(h:Pz.underlying t=some (.int k))(o:YY.okWide Pz W .any base t v):∃n:Int,v=.int k n/\k.min<=n/\n<=k.max:=by simp only[YY.okWide,h,Cell.okWide]at o;cases v<;>simp_all[Cell.ok,IntKind.has]
end Go.Bh
namespace Go.Proofs.YtobmepfondcekaaGreatDoor
open Go.ChangeShapes Go.WideShapes Go.ChangeAt Go.RowKit Go.Conc Go.ConcM
set_option maxRecDepth 100000
end Go.Proofs.YtobmepfondcekaaGreatDoor
end
section
namespace Go.Bh
open Go.Proofs Go.Conc Go.Mx Go.Rk Go.Cr Go.Pw Go.Lw Go.Me Go.ae
open Go.ChangeShapes Go.WideShapes Go.ChangeAt Go.RowKit Go.ConcM
end Go.Bh
namespace Go.Proofs.YtobmepfondcekaaGreatDoor
open Go.ChangeShapes Go.WideShapes Go.ChangeAt Go.RowKit Go.Conc Go.ConcM
set_option maxRecDepth 100000
end Go.Proofs.YtobmepfondcekaaGreatDoor
end
section
namespace Go.Bh
open Go.Proofs Go.Conc Go.Mx Go.Rk Go.Cr Go.Pw Go.Lw Go.Me Go.ae
open Go.ChangeShapes Go.WideShapes Go.ChangeAt Go.RowKit Go.ConcM
theorem PD(a b c:YY):Frame.enter Pz 5 #[a,b,c] .normal=fr 5 (ea 75 [(0,a),(1,b),(2,c)]) [.code kX]:=by have e1:f5.ntmps=75:=Ψ;have e2:f5.body=some kX:=Ψ;have e3:(#[a,b,c])++Array.replicate (75-(#[a,b,c]).size) undef=ea 75 [(0,a),(1,b),(2,c)]:=Ψ;rw[iw _ func5,e1,e2,e3];rfl
set_option maxRecDepth 20000 in theorem I4{H:Type}{enc:Zd×YY->H}{W:YZ}{base:Nat}{args:Array YY}{ds gs:List (DataW H)}{before:List MemPlace}(I:W.ShapedOpen Pz)(e:∀(j:Nat)t v,f5.params[j]?=some t->args[j]?=some v->YY.okWide Pz W .any base t v)(hW:DataW.Whole enc Pz f5.params.toList [] YT W args.toList ds gs before)(w:(DataW.weightsEach Pz f5.params.toList ds).all (·<=reachBytes)=YX):∃M f o w' T,runNT Pz (M+1) (solo (G (Frame.enter Pz 5 args .normal) []) W) #[]=(.ended o w',T)/\runN Pz M (solo (G (Frame.enter Pz 5 args .normal) []) W)=.next f/\step Pz f=.ended o w'/\Conc.Good Pz (λv O=>(YtobmepfondcekaaGreatDoor.Rows.portAsksSpec).post enc Pz f5 YT YX YT YT W args v {O with os:=W.os}/\OsLater W.os O.os) f o w' T:=by have C:=hW;obtain⟨p,q,R,X,rfl,_,_⟩:=hW;obtain⟨y,_,d0,_,_,_,a0,rfl,rfl,Q,R⟩:=trodAll_cons R;obtain⟨z,_,d1,_,_,_,rfl,rfl,rfl,_,R⟩:=trodAll_cons R;obtain⟨A,_,d2,_,_,_,rfl,rfl,rfl,_,R⟩:=trodAll_cons R;obtain⟨rfl,rfl,rfl⟩:=trodAll_nil R;(obtain rfl:args=#[y,z,A]:=by cases args;simp_all);obtain⟨x,rfl,D,u,E,F⟩:=Fy Q (e 0 25 y rfl rfl) λn Y=>of_decide_eq_true (WC.1 w _ (DataW.weights_mem_each (j:=0) rfl rfl n Y));obtain⟨a1,rfl,L⟩:=N8 underlying3 (e 1 3 z rfl rfl);obtain⟨a2,rfl,N⟩:=N8 underlying3 (e 2 3 A rfl rfl);rw[PD];refine Ly (Lz (a:=a1) (hrs:=a2) D u E F (PX I) .all λP w' g d=>?_);refine K3 C rfl (λds h=>?_) rfl (λt k=>?_) g d;{match ds,h with|[a,b,c],_=>rfl};rw[params5]at k;simp only[Wl,Xu,or_false]at k;rcases k with rfl|rfl|rfl;{exactλ_ _=>VL};all_goals first|exactλ_ _=>Hf underlying3
end Go.Bh
namespace Go.Proofs.YtobmepfondcekaaGreatDoor
open Go.ChangeShapes Go.WideShapes Go.ChangeAt Go.RowKit Go.Conc Go.ConcM
set_option maxRecDepth 100000
theorem sA(j:Os)(b:j.Started)(H:Type)(d:Zd×YY->H)(F:Stop.Interp):ReturnsInLeavingWide Rows.portAsksRow.assume Tryz.checked j 5 .any (λw args=>(Rows.portAsksSpec.pre d Pz f5 [] YT w args/\laidMetH Pz Rows.portAsksRow.laid w)/\sizedMet d Pz f5 (OpenSpec.ofChange Rows.portAsksSpec) YT w args) ((OpenSpec.ofChange Rows.portAsksSpec).postWith d Pz f5 F (outsideKept [.timePasses]) YT YX YT):=by refine Go.Bh.BU (C:=Tryz.checked) (X:=λw=>laidMetH Pz Rows.portAsksRow.laid w) Ψ b func5 ?_ λW base args n o h i f hW g=>?_;{refine⟨YZ.laidAll Pz j Rows.portAsksRow.laid,λ_ _=>0,⟨#[],#[.agg #[.slice none 0 0,.slice none 0 0],Iv 0,Iv 0],[]⟩,YZ.laidAll_os _ _ _,YZ.shaped_of_ZipB Ψ Ψ,rfl,(Input.okWide_of_okWideB Ψ).2,⟨⟨ChangeSpec.pre_of_preB (fuel:=8) Ψ,?_⟩,sizedMet_of_sizedB (fuel:=8) Ψ⟩,?_⟩;{rw[MakeChecks.laidMetH_plain _ _ _ Ψ];exact laidMet_laidAll _ Ψ Ψ};simp only[Assume.holds];exact⟨by simp[Rows.portAsksRow,OpenClaim.assume],λ_ _ _ _=>rfl,by simp[Rows.portAsksRow,OpenClaim.assume],by simp[Rows.portAsksRow,OpenClaim.assume],by simp[Rows.portAsksRow,OpenClaim.assume]⟩};obtain⟨_,_,_,m,_⟩:=id hW;obtain⟨rfl,_⟩:=trodVars_none m;refine Go.Bh.I4 i f hW ?_;have e:Rows.portAsksSpec.plain.varTypes Tryz.checked.prog=[]:=Ψ;rw[e,W9,W9]at g;exact g
theorem xz{H:Type}(b:Zd×YY->H):OpenClaim.pre b Tryz.pinned.checked.prog f5 (OpenSpec.ofChange Rows.portAsksSpec) Rows.portAsksRow=λw args=>(Rows.portAsksSpec.pre b Pz f5 [] YT w args/\laidMetH Pz Rows.portAsksRow.laid w)/\sizedMet b Pz f5 (OpenSpec.ofChange Rows.portAsksSpec) YT w args:=by rfl
end Go.Proofs.YtobmepfondcekaaGreatDoor
end
namespace Go.Proofs.YtobmepfondcekaaGreatDoor
section
set_option maxRecDepth 100000
theorem Jb:(Rows.portAsksRow.lifted==Tryz.pinned.checked.prog.liftsFinal)=YX:=JX
theorem LH:(Tryz.pinned.checked.prog.make==some Rows.portAsksRow.make)=YX:=M0
theorem RU:(Rows.portAsksRow.wf (OpenSpec.ofChange Rows.portAsksSpec))=YX:=Ψ
theorem Ka:(laidOutB Tryz.pinned.checked.prog)=YX:=Ψ
theorem Mo:(mapsRowed Tryz.pinned.checked.prog)=YX:=Ψ
theorem SV:(f5.params.all (Tryz.pinned.checked.prog.readableRec ·))=YX:=Ψ
theorem TA:(namedTie Tryz.pinned.checked.prog Rows.portAsksRow.named Rows.portAsksSpec.vars)=YX:=Ψ
theorem S0:((Rows.portAsksRow.inPlace==Tryz.pinned.checked.prog.inPlace 5))=YX:=Ψ
theorem S8:((Rows.portAsksRow.unfollowed==Tryz.pinned.checked.prog.unfollowed 5))=YX:=Ψ
theorem PU:((Rows.portAsksRow.recurses==Tryz.pinned.checked.prog.recurses 5))=YX:=Ψ
theorem Sr:((Rows.portAsksRow.named==Tryz.pinned.checked.prog.varsNamed 5))=YX:=Ψ
theorem Gk:(Tryz.pinned.checked.prog.stopsHeard)=YX:=Ψ
theorem T4:((Rows.portAsksRow.plainKeys==Tryz.pinned.checked.prog.plainKeys))=YX:=Ψ
theorem TD:((Rows.portAsksRow.stops==[]))=YX:=Ψ
theorem RF:((Tryz.pinned.checked.prog.stops==[]))=YX:=Ψ
theorem Sw:((Rows.portAsksRow.knobs==[]))=YX:=Ψ
theorem Tm:((Tryz.pinned.checked.prog.stopKnobs==[]))=YX:=Ψ
theorem TG:((Rows.portAsksRow.maps==(f5.params.toList++Rows.portAsksSpec.plain.varTypes Tryz.pinned.checked.prog).any (Tryz.pinned.checked.prog.mapsRec ·)))=YX:=Ψ
theorem SH:((Rows.portAsksRow.ifaces==(f5.params.toList++Rows.portAsksSpec.plain.varTypes Tryz.pinned.checked.prog).any (Tryz.pinned.checked.prog.ifacesRec ·)))=YX:=Ψ
theorem S6:((Rows.portAsksRow.mapsOut==Tryz.pinned.checked.prog.mapsAmong f5.resultTypes.toList))=YX:=Ψ
theorem Ss:((Rows.portAsksRow.loops==(f5.params.toList++Rows.portAsksSpec.plain.varTypes Tryz.pinned.checked.prog).any (Tryz.pinned.checked.prog.loopsFrom ·)))=YX:=Ψ
theorem TE:((Rows.portAsksRow.wideKeys==(f5.params.toList++Rows.portAsksSpec.plain.varTypes Tryz.pinned.checked.prog++f5.resultTypes.toList).any (Tryz.pinned.checked.prog.wideKeysFrom ·)))=YX:=Ψ
theorem RP:(Rows.portAsksSpec.vars.all (Tryz.pinned.checked.prog.varReadable ·))=YX:=Ψ
theorem OM:(f5.resultTypes.all (λt=>Tryz.pinned.checked.prog.readableRec t&&decide (t<Tryz.pinned.checked.prog.types.size)))=YX:=Ψ
theorem Qk:((Rows.portAsksRow.ifacesOut==f5.resultTypes.toList.any (Tryz.pinned.checked.prog.ifacesRec ·)))=YX:=Ψ
theorem Qp:((Rows.portAsksRow.loopsOut==f5.resultTypes.toList.any (Tryz.pinned.checked.prog.loopsFrom ·)))=YX:=Ψ
theorem QF:(Rows.portAsksRow.shortTexts.isNone)=YX:=Ψ
theorem O2:((Rows.portAsksRow.pinned==Rows.portAsksRow.pinnedBy))=YX:=Ψ
theorem OG:((Rows.portAsksRow.veiled==(f5.params.toList++Rows.portAsksSpec.plain.varTypes Tryz.pinned.checked.prog++f5.resultTypes.toList).any (Tryz.pinned.checked.prog.veiledRec ·)))=YX:=Ψ
theorem Pa:(Rows.portAsksRow.veiledFits Tryz.pinned.checked.prog f5.params.toList (f5.params.toList++Rows.portAsksSpec.plain.varTypes Tryz.pinned.checked.prog++f5.resultTypes.toList))=YX:=Ψ
theorem EL:joinedFacts Tryz.pinned.checked.prog 5 f5 Rows.portAsksSpec Rows.portAsksRow=YX:=by unfold joinedFacts;repeat'(first|with_reducible exact Jo|with_reducible exact Jb|with_reducible exact LH|with_reducible exact RU|with_reducible exact Ka|with_reducible exact Mo|with_reducible exact SV|with_reducible exact TA|with_reducible exact S0|with_reducible exact S8|with_reducible exact PU|with_reducible exact Sr|with_reducible exact Gk|with_reducible exact T4|with_reducible exact TD|with_reducible exact RF|with_reducible exact Sw|with_reducible exact Tm|with_reducible exact TG|with_reducible exact SH|with_reducible exact S6|with_reducible exact Ss|with_reducible exact TE|with_reducible exact RP|with_reducible exact OM|with_reducible exact Qk|with_reducible exact Qp|with_reducible exact QF|with_reducible exact n5_g14|with_reducible exact O2|with_reducible exact OG|with_reducible exact Pa|with_reducible refine Bool.and_eq_true_iff.2 (And.intro ?_ ?_)|kernel_rfl)
end
end Go.Proofs.YtobmepfondcekaaGreatDoor
