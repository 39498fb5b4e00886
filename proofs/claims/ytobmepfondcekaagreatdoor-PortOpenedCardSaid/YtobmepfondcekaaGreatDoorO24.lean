/- A part of the proof of PortOpened. Conditions: none. -/
import Derived.Test.YtobmepfondcekaaGreatDoorO23
import Derived.Test.YtobmepfondcekaaGreatDoorI1
import Derived.Test.YtobmepfondcekaaGreatDoorI2
import Derived.Test.YtobmepfondcekaaGreatDoorI3
set_option linter.all false
open Go.Proofs.Tryz renaming prog->Pz
open Go renaming TypeId->VX,Value->VI,World->VH
open Bool renaming false->Vo,true->VG
open Go.Proofs.Tryz
section
namespace Go.Bh
open Go.Proofs Go.Conc Go.Mx Go.Rk Go.Cr Go.Pw Go.Lw Go.Me Go.ab
open Go.ChangeShapes Go.WideShapes Go.ChangeAt Go.RowKit Go.ConcM
theorem Qi{W:VH}{base:Nat}{t:VX}{k:IntKind}{v:VI}(h:Pz.underlying t=some (.int k))(o:VI.okWide Pz W .any base t v):∃n:Int,v=.int k n/\k.min<=n/\n<=k.max:=by simp only[VI.okWide,h,Cell.okWide]at o;cases v<;>simp_all[Cell.ok,IntKind.has]
end Go.Bh
namespace Go.Proofs.YtobmepfondcekaaGreatDoor
open Go.ChangeShapes Go.WideShapes Go.ChangeAt Go.RowKit Go.Conc Go.ConcM
set_option maxRecDepth 100000
end Go.Proofs.YtobmepfondcekaaGreatDoor
end
section
namespace Go.Bh
open Go.Proofs Go.Conc Go.Mx Go.Rk Go.Cr Go.Pw Go.Lw Go.Me Go.ab
open Go.ChangeShapes Go.WideShapes Go.ChangeAt Go.RowKit Go.ConcM
set_option maxRecDepth 20000 in theorem E6{W:VH}{base:Nat}{t:VX}{k:IntKind}{v:VI}(h:Pz.underlying t=some (.int k))(o:VI.okWide Pz W .any base t v)(m:k.min=0):∃n:Nat,v=.int k n/\(n:Int)<=k.max:=by obtain⟨a,e,r,A⟩:=Qi h o;rw[m]at r;obtain⟨n,c⟩:=Int.eq_ofNat_of_zero_le r;rw[c]at A e;exact⟨n,e,A⟩
end Go.Bh
namespace Go.Proofs.YtobmepfondcekaaGreatDoor
open Go.ChangeShapes Go.WideShapes Go.ChangeAt Go.RowKit Go.Conc Go.ConcM
set_option maxRecDepth 100000
end Go.Proofs.YtobmepfondcekaaGreatDoor
end
section
namespace Go.Bh
open Go.Proofs Go.Conc Go.Mx Go.Rk Go.Cr Go.Pw Go.Lw Go.Me Go.ab
open Go.ChangeShapes Go.WideShapes Go.ChangeAt Go.RowKit Go.ConcM
theorem IN(a b c d:VI):Frame.enter Pz 14 #[a,b,c,d] .normal=fr 14 (ff 191 [(0,a),(1,b),(2,c),(3,d)]) [.code bB]:=by have e1:f14.ntmps=191:=Ψ;have e2:f14.body=some bB:=Ψ;have e3:(#[a,b,c,d])++Array.replicate (191-(#[a,b,c,d]).size) undef=ff 191 [(0,a),(1,b),(2,c),(3,d)]:=Ψ;rw[gw _ func14,e1,e2,e3];rfl
set_option maxRecDepth 20000 in theorem AU{H:Type}{enc:VX×VI->H}{W:VH}{base:Nat}{args:Array VI}{ds gs:List (DataW H)}{before:List MemPlace}(I:W.ShapedOpen Pz)(e:∀(j:Nat)t v,f14.params[j]?=some t->args[j]?=some v->VI.okWide Pz W .any base t v)(hW:DataW.Whole enc Pz f14.params.toList [] Vo W args.toList ds gs before)(w:(DataW.weightsEach Pz f14.params.toList ds).all (·<=reachBytes)=VG):∃M f o w' T,runNT Pz (M+1) (solo (G (Frame.enter Pz 14 args .normal) []) W) #[]=(.ended o w',T)/\runN Pz M (solo (G (Frame.enter Pz 14 args .normal) []) W)=.next f/\step Pz f=.ended o w'/\Conc.Good Pz (λv O=>(YtobmepfondcekaaGreatDoor.Rows.portOpenedSpec).post enc Pz f14 Vo VG Vo Vo W args v {O with os:=W.os}/\OsLater W.os O.os) f o w' T:=by have C:=hW;obtain⟨p,q,R,X,rfl,_,_⟩:=hW;obtain⟨y,_,d0,_,_,_,a0,rfl,rfl,Q,R⟩:=trodAll_cons R;obtain⟨z,_,d1,_,_,_,rfl,rfl,rfl,_,R⟩:=trodAll_cons R;obtain⟨A,_,d2,_,_,_,rfl,rfl,rfl,_,R⟩:=trodAll_cons R;obtain⟨B,_,d3,_,_,_,rfl,rfl,rfl,_,R⟩:=trodAll_cons R;obtain⟨rfl,rfl,rfl⟩:=trodAll_nil R;(obtain rfl:args=#[y,z,A,B]:=by cases args;simp_all);obtain⟨x,rfl,D,u,E,F⟩:=CM Q (e 0 25 y rfl rfl) λn Y=>of_decide_eq_true (TF.1 w _ (DataW.weights_mem_each (j:=0) rfl rfl n Y));obtain⟨a1,rfl,L⟩:=E6 underlying5 (e 1 5 z rfl rfl) rfl;obtain⟨a2,rfl,N⟩:=E6 underlying5 (e 2 5 A rfl rfl) rfl;obtain⟨a3,rfl,S⟩:=E6 underlying5 (e 3 5 B rfl rfl) rfl;rw[IN];refine Kt (DI L N S D u E F (Ny I) .all λP w' g d=>?_);refine Jt C rfl (λds h=>?_) rfl (λt k=>?_) g d;{match ds,h with|[a,b,c,d],_=>rfl};rw[params14]at k;simp only[Tq,TU,or_false]at k;rcases k with rfl|rfl|rfl|rfl;{exactλ_ _=>SR};all_goals first|exactλ_ _=>Lo underlying5
end Go.Bh
namespace Go.Proofs.YtobmepfondcekaaGreatDoor
open Go.ChangeShapes Go.WideShapes Go.ChangeAt Go.RowKit Go.Conc Go.ConcM
set_option maxRecDepth 100000
theorem oB(j:Os)(b:j.Started)(H:Type)(d:VX×VI->H)(F:Stop.Interp):ReturnsInLeavingWide Rows.portOpenedRow.assume Tryz.checked j 14 .any (λw args=>(Rows.portOpenedSpec.pre d Pz f14 [] Vo w args/\laidMetH Pz Rows.portOpenedRow.laid w)/\sizedMet d Pz f14 (OpenSpec.ofChange Rows.portOpenedSpec) Vo w args) ((OpenSpec.ofChange Rows.portOpenedSpec).postWith d Pz f14 F (outsideKept [.timePasses]) Vo VG Vo):=by refine Go.Bh.Ao (C:=Tryz.checked) (X:=λw=>laidMetH Pz Rows.portOpenedRow.laid w) Ψ b func14 ?_ λW base args n o h i f hW g=>?_;{refine⟨VH.laidAll Pz j Rows.portOpenedRow.laid,λ_ _=>0,⟨#[],#[.agg #[.slice none 0 0,.slice none 0 0],.int .u8 0,.int .u8 0,.int .u8 0],[]⟩,VH.laidAll_os _ _ _,VH.shaped_of_ZipB Ψ Ψ,rfl,(Input.okWide_of_okWideB Ψ).2,⟨⟨ChangeSpec.pre_of_preB (fuel:=8) Ψ,?_⟩,sizedMet_of_sizedB (fuel:=8) Ψ⟩,?_⟩;{rw[MakeChecks.laidMetH_plain _ _ _ Ψ];exact laidMet_laidAll _ Ψ Ψ};simp only[Assume.holds];exact⟨by simp[Rows.portOpenedRow,OpenClaim.assume],λ_ _ _ _=>rfl,by simp[Rows.portOpenedRow,OpenClaim.assume],by simp[Rows.portOpenedRow,OpenClaim.assume],by simp[Rows.portOpenedRow,OpenClaim.assume]⟩};obtain⟨_,_,_,m,_⟩:=id hW;obtain⟨rfl,_⟩:=trodVars_none m;refine Go.Bh.AU i f hW ?_;have e:Rows.portOpenedSpec.plain.varTypes Tryz.checked.prog=[]:=Ψ;rw[e,Ui,Ui]at g;exact g
theorem tr{H:Type}(b:VX×VI->H):OpenClaim.pre b Tryz.pinned.checked.prog f14 (OpenSpec.ofChange Rows.portOpenedSpec) Rows.portOpenedRow=λw args=>(Rows.portOpenedSpec.pre b Pz f14 [] Vo w args/\laidMetH Pz Rows.portOpenedRow.laid w)/\sizedMet b Pz f14 (OpenSpec.ofChange Rows.portOpenedSpec) Vo w args:=by rfl
end Go.Proofs.YtobmepfondcekaaGreatDoor
end
namespace Go.Proofs.YtobmepfondcekaaGreatDoor
section
set_option maxRecDepth 100000
theorem Dl:(Rows.portOpenedRow.lifted==Tryz.pinned.checked.prog.liftsFinal)=VG:=Gn
theorem FK:(Tryz.pinned.checked.prog.make==some Rows.portOpenedRow.make)=VG:=KJ
theorem Nt:(Rows.portOpenedRow.wf (OpenSpec.ofChange Rows.portOpenedSpec))=VG:=Ψ
theorem H4:(laidOutB Tryz.pinned.checked.prog)=VG:=Ψ
theorem Fq:(mapsRowed Tryz.pinned.checked.prog)=VG:=Ψ
theorem Mz:(f14.params.all (Tryz.pinned.checked.prog.readableRec ·))=VG:=Ψ
theorem Oz:(namedTie Tryz.pinned.checked.prog Rows.portOpenedRow.named Rows.portOpenedSpec.vars)=VG:=Ψ
theorem M':((Rows.portOpenedRow.inPlace==Tryz.pinned.checked.prog.inPlace 14))=VG:=Ψ
theorem NC:((Rows.portOpenedRow.unfollowed==Tryz.pinned.checked.prog.unfollowed 14))=VG:=Ψ
theorem KC:((Rows.portOpenedRow.recurses==Tryz.pinned.checked.prog.recurses 14))=VG:=Ψ
theorem MG:((Rows.portOpenedRow.named==Tryz.pinned.checked.prog.varsNamed 14))=VG:=Ψ
theorem Dj:(Tryz.pinned.checked.prog.stopsHeard)=VG:=Ψ
theorem Nq:((Rows.portOpenedRow.plainKeys==Tryz.pinned.checked.prog.plainKeys))=VG:=Ψ
theorem Nk:((Rows.portOpenedRow.stops==[]))=VG:=Ψ
theorem ME:((Tryz.pinned.checked.prog.stops==[]))=VG:=Ψ
theorem Mb:((Rows.portOpenedRow.knobs==[]))=VG:=Ψ
theorem OB:((Tryz.pinned.checked.prog.stopKnobs==[]))=VG:=Ψ
theorem NR:((Rows.portOpenedRow.maps==(f14.params.toList++Rows.portOpenedSpec.plain.varTypes Tryz.pinned.checked.prog).any (Tryz.pinned.checked.prog.mapsRec ·)))=VG:=Ψ
theorem NL:((Rows.portOpenedRow.ifaces==(f14.params.toList++Rows.portOpenedSpec.plain.varTypes Tryz.pinned.checked.prog).any (Tryz.pinned.checked.prog.ifacesRec ·)))=VG:=Ψ
theorem NG:((Rows.portOpenedRow.mapsOut==Tryz.pinned.checked.prog.mapsAmong f14.resultTypes.toList))=VG:=Ψ
theorem M8:((Rows.portOpenedRow.loops==(f14.params.toList++Rows.portOpenedSpec.plain.varTypes Tryz.pinned.checked.prog).any (Tryz.pinned.checked.prog.loopsFrom ·)))=VG:=Ψ
theorem Mk:((Rows.portOpenedRow.wideKeys==(f14.params.toList++Rows.portOpenedSpec.plain.varTypes Tryz.pinned.checked.prog++f14.resultTypes.toList).any (Tryz.pinned.checked.prog.wideKeysFrom ·)))=VG:=Ψ
theorem N0:(Rows.portOpenedSpec.vars.all (Tryz.pinned.checked.prog.varReadable ·))=VG:=Ψ
theorem I0:(f14.resultTypes.all (λt=>Tryz.pinned.checked.prog.readableRec t&&decide (t<Tryz.pinned.checked.prog.types.size)))=VG:=Ψ
theorem IQ:((Rows.portOpenedRow.ifacesOut==f14.resultTypes.toList.any (Tryz.pinned.checked.prog.ifacesRec ·)))=VG:=Ψ
theorem Jk:((Rows.portOpenedRow.loopsOut==f14.resultTypes.toList.any (Tryz.pinned.checked.prog.loopsFrom ·)))=VG:=Ψ
theorem KX:(Rows.portOpenedRow.shortTexts.isNone)=VG:=Ψ
theorem II:((Rows.portOpenedRow.pinned==Rows.portOpenedRow.pinnedBy))=VG:=Ψ
theorem Jz:((Rows.portOpenedRow.veiled==(f14.params.toList++Rows.portOpenedSpec.plain.varTypes Tryz.pinned.checked.prog++f14.resultTypes.toList).any (Tryz.pinned.checked.prog.veiledRec ·)))=VG:=Ψ
theorem Jp:(Rows.portOpenedRow.veiledFits Tryz.pinned.checked.prog f14.params.toList (f14.params.toList++Rows.portOpenedSpec.plain.varTypes Tryz.pinned.checked.prog++f14.resultTypes.toList))=VG:=Ψ
theorem zQ:joinedFacts Tryz.pinned.checked.prog 14 f14 Rows.portOpenedSpec Rows.portOpenedRow=VG:=by unfold joinedFacts;repeat'(first|with_reducible exact GF|with_reducible exact Dl|with_reducible exact FK|with_reducible exact Nt|with_reducible exact H4|with_reducible exact Fq|with_reducible exact Mz|with_reducible exact Oz|with_reducible exact M'|with_reducible exact NC|with_reducible exact KC|with_reducible exact MG|with_reducible exact Dj|with_reducible exact Nq|with_reducible exact Nk|with_reducible exact ME|with_reducible exact Mb|with_reducible exact OB|with_reducible exact NR|with_reducible exact NL|with_reducible exact NG|with_reducible exact M8|with_reducible exact Mk|with_reducible exact N0|with_reducible exact I0|with_reducible exact IQ|with_reducible exact Jk|with_reducible exact KX|with_reducible exact n14_g14|with_reducible exact II|with_reducible exact Jz|with_reducible exact Jp|with_reducible refine Bool.and_eq_true_iff.2 (And.intro ?_ ?_)|kernel_rfl)
end
end Go.Proofs.YtobmepfondcekaaGreatDoor
