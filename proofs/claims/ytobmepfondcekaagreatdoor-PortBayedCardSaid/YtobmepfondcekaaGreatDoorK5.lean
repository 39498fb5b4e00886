/- A part. -/
import Derived.Test.YtobmepfondcekaaGreatDoorK4
import Derived.Test.YtobmepfondcekaaGreatDoorJ1
import Derived.Test.YtobmepfondcekaaGreatDoorJ2
import Derived.Test.YtobmepfondcekaaGreatDoorJ3
set_option linter.all false
open Go.Proofs.Tryz renaming prog->Pz
open Go renaming TypeId->Xv,Value->Xd,World->Xf
open Bool renaming false->WI,true->W8
open Go.Proofs.Tryz
section
namespace Go.Bh
open Go.Proofs Go.Conc Go.Mx Go.Rk Go.Cr Go.Pw Go.Lw Go.Me Go.ab
open Go.ChangeShapes Go.WideShapes Go.ChangeAt Go.RowKit Go.ConcM
theorem RB{W:Xf}{base:Nat}{t:Xv}{k:IntKind}{v:Xd}(h:Pz.underlying t=some (.int k))(o:Xd.okWide Pz W .any base t v):∃n:Int,v=.int k n/\k.min<=n/\n<=k.max:=by simp only[Xd.okWide,h,Cell.okWide]at o;cases v<;>simp_all[Cell.ok,IntKind.has]
end Go.Bh
namespace Go.Proofs.YtobmepfondcekaaGreatDoor
open Go.ChangeShapes Go.WideShapes Go.ChangeAt Go.RowKit Go.Conc Go.ConcM
set_option maxRecDepth 100000
end Go.Proofs.YtobmepfondcekaaGreatDoor
end
section
namespace Go.Bh
open Go.Proofs Go.Conc Go.Mx Go.Rk Go.Cr Go.Pw Go.Lw Go.Me Go.ab
open Go.ChangeShapes Go.WideShapes Go.ChangeAt Go.RowKit Go.ConcM
set_option maxRecDepth 20000 in theorem Rx{W:Xf}{base:Nat}{t:Xv}{k:IntKind}{v:Xd}(h:Pz.underlying t=some (.int k))(o:Xd.okWide Pz W .any base t v)(m:k.min=0):∃n:Nat,v=.int k n/\(n:Int)<=k.max:=by obtain⟨a,e,r,A⟩:=RB h o;rw[m]at r;obtain⟨n,c⟩:=Int.eq_ofNat_of_zero_le r;rw[c]at A e;exact⟨n,e,A⟩
end Go.Bh
namespace Go.Proofs.YtobmepfondcekaaGreatDoor
open Go.ChangeShapes Go.WideShapes Go.ChangeAt Go.RowKit Go.Conc Go.ConcM
set_option maxRecDepth 100000
end Go.Proofs.YtobmepfondcekaaGreatDoor
end
section
namespace Go.Bh
open Go.Proofs Go.Conc Go.Mx Go.Rk Go.Cr Go.Pw Go.Lw Go.Me Go.ab
open Go.ChangeShapes Go.WideShapes Go.ChangeAt Go.RowKit Go.ConcM
theorem Kr(a b:Xd):Frame.enter Pz 16 #[a,b] .normal=fr 16 (ey 206 [(0,a),(1,b)]) [.code bB]:=by have e1:f16.ntmps=206:=Ψ;have e2:f16.body=some bB:=Ψ;have e3:(#[a,b])++Array.replicate (206-(#[a,b]).size) undef=ey 206 [(0,a),(1,b)]:=Ψ;rw[gG _ func16,e1,e2,e3];rfl
set_option maxRecDepth 20000 in theorem D5{H:Type}{enc:Xv×Xd->H}{W:Xf}{base:Nat}{args:Array Xd}{ds gs:List (DataW H)}{before:List MemPlace}(I:W.ShapedOpen Pz)(e:∀(j:Nat)t v,f16.params[j]?=some t->args[j]?=some v->Xd.okWide Pz W .any base t v)(hW:DataW.Whole enc Pz f16.params.toList [] WI W args.toList ds gs before)(w:(DataW.weightsEach Pz f16.params.toList ds).all (·<=reachBytes)=W8):∃M f o w' T,runNT Pz (M+1) (solo (G (Frame.enter Pz 16 args .normal) []) W) #[]=(.ended o w',T)/\runN Pz M (solo (G (Frame.enter Pz 16 args .normal) []) W)=.next f/\step Pz f=.ended o w'/\Conc.Good Pz (λv O=>(YtobmepfondcekaaGreatDoor.Rows.portBayedSpec).post enc Pz f16 WI W8 WI WI W args v {O with os:=W.os}/\OsLater W.os O.os) f o w' T:=by have C:=hW;obtain⟨p,q,R,X,rfl,_,_⟩:=hW;obtain⟨y,_,d0,_,_,_,a0,rfl,rfl,Q,R⟩:=trodAll_cons R;obtain⟨z,_,d1,_,_,_,rfl,rfl,rfl,_,R⟩:=trodAll_cons R;obtain⟨rfl,rfl,rfl⟩:=trodAll_nil R;(obtain rfl:args=#[y,z]:=by cases args;simp_all);obtain⟨x,rfl,D,u,E,F⟩:=Eu Q (e 0 25 y rfl rfl) λn Y=>of_decide_eq_true (UU.1 w _ (DataW.weights_mem_each (j:=0) rfl rfl n Y));obtain⟨a1,rfl,L⟩:=Rx underlying60 (e 1 60 z rfl rfl) rfl;rw[Kr];refine KJ (IU L D u E F (NK I) .all λP w' g d=>?_);refine Ma C rfl (λds h=>?_) rfl (λt k=>?_) g d;{match ds,h with|[a,b],_=>rfl};rw[params16]at k;simp only[Uu,UZ,or_false]at k;rcases k with rfl|rfl;{exactλ_ _=>T5};all_goals first|exactλ_ _=>Mw underlying60
end Go.Bh
namespace Go.Proofs.YtobmepfondcekaaGreatDoor
open Go.ChangeShapes Go.WideShapes Go.ChangeAt Go.RowKit Go.Conc Go.ConcM
set_option maxRecDepth 100000
theorem qw(j:Os)(b:j.Started)(H:Type)(d:Xv×Xd->H)(F:Stop.Interp):ReturnsInLeavingWide Rows.portBayedRow.assume Tryz.checked j 16 .any (λw args=>(Rows.portBayedSpec.pre d Pz f16 [] WI w args/\laidMetH Pz Rows.portBayedRow.laid w)/\sizedMet d Pz f16 (OpenSpec.ofChange Rows.portBayedSpec) WI w args) ((OpenSpec.ofChange Rows.portBayedSpec).postWith d Pz f16 F (outsideKept [.timePasses]) WI W8 WI):=by refine Go.Bh.As (C:=Tryz.checked) (X:=λw=>laidMetH Pz Rows.portBayedRow.laid w) Ψ b func16 ?_ λW base args n o h i f hW g=>?_;{refine⟨Xf.laidAll Pz j Rows.portBayedRow.laid,λ_ _=>0,⟨#[],#[.agg #[.slice none 0 0,.slice none 0 0],.int .u16 0],[]⟩,Xf.laidAll_os _ _ _,Xf.shaped_of_ZipB Ψ Ψ,rfl,(Input.okWide_of_okWideB Ψ).2,⟨⟨ChangeSpec.pre_of_preB (fuel:=8) Ψ,?_⟩,sizedMet_of_sizedB (fuel:=8) Ψ⟩,?_⟩;{rw[MakeChecks.laidMetH_plain _ _ _ Ψ];exact laidMet_laidAll _ Ψ Ψ};simp only[Assume.holds];exact⟨by simp[Rows.portBayedRow,OpenClaim.assume],λ_ _ _ _=>rfl,by simp[Rows.portBayedRow,OpenClaim.assume],by simp[Rows.portBayedRow,OpenClaim.assume],by simp[Rows.portBayedRow,OpenClaim.assume]⟩};obtain⟨_,_,_,m,_⟩:=id hW;obtain⟨rfl,_⟩:=trodVars_none m;refine Go.Bh.D5 i f hW ?_;have e:Rows.portBayedSpec.plain.varTypes Tryz.checked.prog=[]:=Ψ;rw[e,VB,VB]at g;exact g
theorem uK{H:Type}(b:Xv×Xd->H):OpenClaim.pre b Tryz.pinned.checked.prog f16 (OpenSpec.ofChange Rows.portBayedSpec) Rows.portBayedRow=λw args=>(Rows.portBayedSpec.pre b Pz f16 [] WI w args/\laidMetH Pz Rows.portBayedRow.laid w)/\sizedMet b Pz f16 (OpenSpec.ofChange Rows.portBayedSpec) WI w args:=by rfl
end Go.Proofs.YtobmepfondcekaaGreatDoor
end
namespace Go.Proofs.YtobmepfondcekaaGreatDoor
section
set_option maxRecDepth 100000
theorem Dl:(Rows.portBayedRow.lifted==Tryz.pinned.checked.prog.liftsFinal)=W8:=Gc
theorem I4:(Tryz.pinned.checked.prog.make==some Rows.portBayedRow.make)=W8:=Kb
theorem Ow:(Rows.portBayedRow.wf (OpenSpec.ofChange Rows.portBayedSpec))=W8:=Ψ
theorem GB:(laidOutB Tryz.pinned.checked.prog)=W8:=Ψ
theorem HY:(mapsRowed Tryz.pinned.checked.prog)=W8:=Ψ
theorem OS:(f16.params.all (Tryz.pinned.checked.prog.readableRec ·))=W8:=Ψ
theorem NB:(namedTie Tryz.pinned.checked.prog Rows.portBayedRow.named Rows.portBayedSpec.vars)=W8:=Ψ
theorem NN:((Rows.portBayedRow.inPlace==Tryz.pinned.checked.prog.inPlace 16))=W8:=Ψ
theorem OZ:((Rows.portBayedRow.unfollowed==Tryz.pinned.checked.prog.unfollowed 16))=W8:=Ψ
theorem LB:((Rows.portBayedRow.recurses==Tryz.pinned.checked.prog.recurses 16))=W8:=Ψ
theorem OA:((Rows.portBayedRow.named==Tryz.pinned.checked.prog.varsNamed 16))=W8:=Ψ
theorem Er:(Tryz.pinned.checked.prog.stopsHeard)=W8:=Ψ
theorem Nw:((Rows.portBayedRow.plainKeys==Tryz.pinned.checked.prog.plainKeys))=W8:=Ψ
theorem Pq:((Rows.portBayedRow.stops==[]))=W8:=Ψ
theorem PD:((Tryz.pinned.checked.prog.stops==[]))=W8:=Ψ
theorem Nv:((Rows.portBayedRow.knobs==[]))=W8:=Ψ
theorem Nb:((Tryz.pinned.checked.prog.stopKnobs==[]))=W8:=Ψ
theorem Ng:((Rows.portBayedRow.maps==(f16.params.toList++Rows.portBayedSpec.plain.varTypes Tryz.pinned.checked.prog).any (Tryz.pinned.checked.prog.mapsRec ·)))=W8:=Ψ
theorem Pn:((Rows.portBayedRow.ifaces==(f16.params.toList++Rows.portBayedSpec.plain.varTypes Tryz.pinned.checked.prog).any (Tryz.pinned.checked.prog.ifacesRec ·)))=W8:=Ψ
theorem Oo:((Rows.portBayedRow.mapsOut==Tryz.pinned.checked.prog.mapsAmong f16.resultTypes.toList))=W8:=Ψ
theorem NM:((Rows.portBayedRow.loops==(f16.params.toList++Rows.portBayedSpec.plain.varTypes Tryz.pinned.checked.prog).any (Tryz.pinned.checked.prog.loopsFrom ·)))=W8:=Ψ
theorem OV:((Rows.portBayedRow.wideKeys==(f16.params.toList++Rows.portBayedSpec.plain.varTypes Tryz.pinned.checked.prog++f16.resultTypes.toList).any (Tryz.pinned.checked.prog.wideKeysFrom ·)))=W8:=Ψ
theorem O7:(Rows.portBayedSpec.vars.all (Tryz.pinned.checked.prog.varReadable ·))=W8:=Ψ
theorem Mf:(f16.resultTypes.all (λt=>Tryz.pinned.checked.prog.readableRec t&&decide (t<Tryz.pinned.checked.prog.types.size)))=W8:=Ψ
theorem J0:((Rows.portBayedRow.ifacesOut==f16.resultTypes.toList.any (Tryz.pinned.checked.prog.ifacesRec ·)))=W8:=Ψ
theorem Kk:((Rows.portBayedRow.loopsOut==f16.resultTypes.toList.any (Tryz.pinned.checked.prog.loopsFrom ·)))=W8:=Ψ
theorem LN:(Rows.portBayedRow.shortTexts.isNone)=W8:=Ψ
theorem Mc:((Rows.portBayedRow.pinned==Rows.portBayedRow.pinnedBy))=W8:=Ψ
theorem K2:((Rows.portBayedRow.veiled==(f16.params.toList++Rows.portBayedSpec.plain.varTypes Tryz.pinned.checked.prog++f16.resultTypes.toList).any (Tryz.pinned.checked.prog.veiledRec ·)))=W8:=Ψ
theorem Km:(Rows.portBayedRow.veiledFits Tryz.pinned.checked.prog f16.params.toList (f16.params.toList++Rows.portBayedSpec.plain.varTypes Tryz.pinned.checked.prog++f16.resultTypes.toList))=W8:=Ψ
theorem Be:joinedFacts Tryz.pinned.checked.prog 16 f16 Rows.portBayedSpec Rows.portBayedRow=W8:=by unfold joinedFacts;repeat'(first|with_reducible exact Ff|with_reducible exact Dl|with_reducible exact I4|with_reducible exact Ow|with_reducible exact GB|with_reducible exact HY|with_reducible exact OS|with_reducible exact NB|with_reducible exact NN|with_reducible exact OZ|with_reducible exact LB|with_reducible exact OA|with_reducible exact Er|with_reducible exact Nw|with_reducible exact Pq|with_reducible exact PD|with_reducible exact Nv|with_reducible exact Nb|with_reducible exact Ng|with_reducible exact Pn|with_reducible exact Oo|with_reducible exact NM|with_reducible exact OV|with_reducible exact O7|with_reducible exact Mf|with_reducible exact J0|with_reducible exact Kk|with_reducible exact LN|with_reducible exact n16_g14|with_reducible exact Mc|with_reducible exact K2|with_reducible exact Km|with_reducible refine Bool.and_eq_true_iff.2 (And.intro ?_ ?_)|kernel_rfl)
end
end Go.Proofs.YtobmepfondcekaaGreatDoor
