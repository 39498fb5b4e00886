/- A part. -/
import Derived.KernelRfl
import GoSem.Core.Value
import Derived.Conc.Own4
import Derived.Conc.SmallLaws
import Derived.Conc.Listed
import Derived.Calls
import Derived.Conc.Own
import Derived.Conc.Events
import Derived.Laws.Entries
import Derived.Conc.LockTrace
import Derived.Conc.MuSpec
import Derived.Conc.Beside
import Derived.Conc.MuWords
import Derived.Conc.ClockLaws
import Derived.Test.YtobmepfondcekaaGreatDoorProg
import Derived.Conc.DeferLaws
import Derived.Conc.QuitsD
import Derived.Conc.WgArith
set_option linter.all false
open Go.Proofs.Tryz renaming prog->Pz
open Go renaming Act->Yq,Addr->Yl,Builtin->Ya,CallKind->Yz,Code->Yt,Deferred->Yc,Event->Ym,Frame->XV,FuncId->X3,Goroutine->XR,IntKind->XU,Item->Yi,MapEntry->Yw,Obj->Yd,Oper->Yu,Operand->X8,Program->XY,Question->Yx,Result->Yg,Sem->Yb,TypeId->XW,Value->XN,World->XP,execOp->XS,stepG->XT,undef->XZ,yielded->XX
open Bool renaming false->XD,true->XL
open Option renaming none->XQ,some->XG
open Go.Proofs.Tryz
abbrev U1:=@Nat.le_refl
abbrev U2:=@Nat.lt_of_lt_of_le
abbrev U3:=@Array.getElem?_eq_some_iff
abbrev U4:=@List.getElem?_eq_getElem
abbrev U5:=@List.mem_of_getElem?
abbrev U6:=@Bool.and_eq_true
abbrev U7:=@Option.map_eq_some_iff
abbrev U8:=@List.mem_cons_self
abbrev U9:=@Array.getD_eq_getD_getElem?
abbrev Va:=@List.mem_cons
abbrev Vb:=@List.mem_map
abbrev Ve:=@Array.getElem?_eq_getElem
abbrev Vf:=@Nat.zero_add
abbrev Vg:=@Nat.le_trans
abbrev Vh:=@List.getElem?_eq_some_iff
abbrev Vi:=@List.getElem?_map
abbrev Vj:=@Option.some.injEq
abbrev Vk:=@Iff.rfl
abbrev Vl:=@List.mem_cons_of_mem
abbrev Vm:=@Prod.mk.injEq
abbrev Vn:=@List.mem_append
abbrev Vo:=@Nat.lt_irrefl
abbrev Vp:=@Option.map_some
abbrev Vq:=@Array.getElem?_replicate
abbrev Vr:=@Option.bind_eq_some_iff
abbrev Vs:=@List.mem_iff_getElem?
abbrev Vt:=@Array.getElem?_setIfInBounds_ne
abbrev Vu:=@Nat.zero_le
abbrev Vv:=@Nat.le_of_lt
abbrev Vw:=@Array.getElem?_push
abbrev Vx:=@List.mem_singleton
abbrev Vy:=@List.map_cons
abbrev Vz:=@Nat.add_zero
abbrev VA:=@List.length_append
abbrev VB:=@Bool.eq_false_iff
abbrev VC:=@List.all_eq_true
abbrev VD:=@Bool.false_eq_true
abbrev VE:=@List.not_mem_nil
abbrev VF:=@Prod.mk.inj
abbrev VG:=@Array.mem_append
abbrev VH:=@Nat.le_of_ble_eq_true
abbrev VI:=@Nat.lt_or_ge
abbrev VJ:=@List.mem_append_right
abbrev VK:=@List.mem_append_left
abbrev VL:=@Nat.le_of_eq
abbrev VM:=@Option.some.inj
abbrev VN:=@Array.mem_of_getElem?
abbrev VO:=@Option.getD_some
abbrev VP:=@Nat.eq_zero_or_pos
abbrev VQ:=@List.length_eq_zero_iff
abbrev VR:=@List.take_of_length_le
abbrev VS:=@List.take_add_one
abbrev VU:=@List.any_eq_true
abbrev VV:=@List.map_nil
abbrev VW:=@List.nodup_cons
abbrev VX:=@Array.getElem?_modify
abbrev VY:=@Classical.byContradiction
abbrev VZ:=@List.mem_filter
abbrev V0:=@List.foldl_cons
abbrev V1:=@Nat.le_add_right
abbrev V2:=@List.all_cons
abbrev V3:=@Bool.false_and
abbrev V4:=@Nat.le_succ
abbrev V5:=@Bool.or_eq_true
abbrev V6:=@List.append_assoc
abbrev V7:=@List.map_append
abbrev V8:=@Nat.not_lt_zero
abbrev V9:=@List.take_length
abbrev Wa:=@Array.getElem?_setIfInBounds
abbrev Wb:=@Nat.lt_or_eq_of_le
abbrev We:=@List.length_cons
abbrev Wf:=@List.perm_middle
abbrev Wg:=@Bool.eq_iff_iff
abbrev Wh:=@Int.toNat_natCast
abbrev Wi:=@Array.getElem?_map
abbrev Wj:=@List.getElem?_append_left
abbrev Wk:=@List.map_toArray
abbrev Wl:=@List.foldl_append
abbrev Wm:=@Nat.ne_of_lt
abbrev Wn:=@List.getElem_mem
abbrev Wo:=@List.drop_eq_getElem_cons
abbrev Wp:=@List.count_cons_of_ne
abbrev Wq:=@List.getElem?_range
abbrev Wr:=@Nat.pos_of_ne_zero
abbrev Ws:=@Nat.mul_le_mul_right
abbrev Wt:=@List.append_nil
abbrev Wu:=@Array.length_toList
abbrev Wv:=@Option.bind_some
abbrev Ww:=@Bool.or_true
abbrev Wx:=@Option.isSome_iff_exists
abbrev Wy:=@Nat.add_assoc
abbrev Wz:=@Nat.mod_lt
abbrev WA:=@List.range_succ
abbrev WB:=@Bool.true_and
abbrev WC:=@List.nodup_nil
abbrev WE:=@Array.getElem?_eq_none
abbrev WG:=@Bool.true_or
abbrev WH:=@Bool.or_false
abbrev WI:=@List.flatMap_cons
abbrev WJ:=@List.contains_iff_mem
abbrev WK:=@Nat.lt_of_le_of_lt
abbrev WL:=@Array.mem_iff_getElem
abbrev WM:=@List.getElem?_cons_succ
abbrev WN:=@List.getElem_toArray
abbrev WO:=@List.getElem_cons_succ
abbrev WQ:=@List.getElem_cons_zero
abbrev WR:=@List.setIfInBounds_toArray
abbrev WS:=@List.set_cons_zero
abbrev WT:=@List.set_cons_succ
abbrev WU:=@Nat.add_mul
abbrev WV:=@List.ext_getElem?
abbrev WW:=@Array.mem_push
abbrev WX:=@Array.all_eq_true_iff_forall_mem
abbrev WY:=@Nat.pow_le_pow_right
abbrev WZ:=@Nat.mul_comm
abbrev W1:=@Bool.toNat_le
abbrev W3:=@Nat.mul_one
abbrev W4:=@List.getElem?_toArray
abbrev W6:=@Array.ext_getElem?
abbrev W7:=@List.mem_map_of_mem
abbrev W8:=@List.mem_flatMap
abbrev W9:=@Bool.false_or
abbrev Xa:=@List.filter_cons
abbrev Xb:=@Prod.ext
abbrev Xc:=@List.cons.injEq
abbrev Xd:=@Nat.le_of_lt_succ
abbrev Xe:=@List.getElem?_append_right
abbrev Xf:=@List.extract_eq_take_drop
abbrev Xg:=@Int.ofNat.inj
abbrev Xh:=@List.nil_append
abbrev Xi:=@Nat.succ_pos
abbrev Xj:=@Nat.testBit_two_pow_mul_add
abbrev Xk:=@Int.fdiv_eq_ediv_of_nonneg
abbrev Xl:=@List.count_pos_iff
abbrev Xm:=@Array.toList_append
abbrev Xn:=@List.length_take
abbrev Xo:=@List.count_append
abbrev Xp:=@Bool.not_false
abbrev Xq:=@Array.size_setIfInBounds
abbrev Xr:=@Nat.lt_of_succ_lt
abbrev Xs:=@List.length_pos_iff
abbrev Xu:=@Int.eq_ofNat_of_zero_le
abbrev Xv:=@Array.toList_setIfInBounds
abbrev Xw:=@List.length_filter_le
abbrev Xx:=@List.foldlM_cons
abbrev Xy:=@Nat.le_of_not_lt
abbrev Xz:=@List.take_succ_eq_append_getElem
abbrev XA:=@List.mapIdx_cons
abbrev XB:=@Array.getElem?_of_mem
abbrev XC:=@List.eq_nil_of_length_eq_zero
abbrev XE:=@Nat.and_two_pow_sub_one_eq_mod
abbrev XF:=@Nat.two_pow_add_eq_or_of_lt
abbrev XH:=@Array.getElem?_append_left
abbrev XI:=@List.eq_nil_or_concat
abbrev XJ:=@List.mem_of_mem_drop
abbrev XK:=@List.map_eq_nil_iff
abbrev XM:=@List.drop_of_length_le
abbrev XO:=@List.count_cons_self
abbrev X0:=@List.map_congr_left
abbrev X5:=@Array.getElem_setIfInBounds
abbrev X6:=@Array.getElem?_push_lt
abbrev X9:=@Array.getElem!_eq_getD
abbrev Ye:=@Array.mapM_eq_foldlM
abbrev Yf:=@Array.foldlM_toList
abbrev Yh:=@Array.getElem?_setIfInBounds_self_of_lt
abbrev Yj:=@List.perm_append_comm_assoc
abbrev Yk:=@Array.toList_extract
abbrev Yn:=@List.take_subset_take_left
abbrev Yo:=@List.getD_eq_getElem?_getD
abbrev Yr:=@List.flatMap_eq_nil_iff
namespace Go
abbrev Iv(n:Int):XN:=.int .i64 n
variable{p:Prop}
theorem Ψ(h:p:=by kernel_rfl):p:=h
theorem Δ(h:p:=by decide):p:=h
theorem Ω(h:p:=by omega):p:=h
theorem Θ(h:p:=by simp):p:=h
theorem Ξ(h:p:=by rw[hP];kernel_rfl):p:=h
theorem Λ(h:p:=by rw[hP];exact .all):p:=h
theorem Υ(h:p:=by intro p hp;simp only[Va,VE,or_false]at hp;(repeat'(refine Or.elim hp ?_ ?_<;>intro hp));(all_goals subst hp);all_goals first|(left;simp;done)|(refine .inr ⟨0,?_,hdep 0 ?_⟩;rotate_left;kernel_rfl;simp;done)|(refine .inr ⟨1,?_,hdep 1 ?_⟩;rotate_left;kernel_rfl;simp;done)|(refine .inr ⟨2,?_,hdep 2 ?_⟩;rotate_left;kernel_rfl;simp;done)|(refine .inr ⟨3,?_,hdep 3 ?_⟩;rotate_left;kernel_rfl;simp;done)|(refine .inr ⟨4,?_,hdep 4 ?_⟩;rotate_left;kernel_rfl;simp;done)|(refine .inr ⟨5,?_,hdep 5 ?_⟩;rotate_left;kernel_rfl;simp;done)|(refine .inr ⟨6,?_,hdep 6 ?_⟩;rotate_left;kernel_rfl;simp;done)|(refine .inr ⟨7,?_,hdep 7 ?_⟩;rotate_left;kernel_rfl;simp;done)|(refine .inr ⟨8,?_,hdep 8 ?_⟩;rotate_left;kernel_rfl;simp;done)|(refine .inr ⟨9,?_,hdep 9 ?_⟩;rotate_left;kernel_rfl;simp;done)|(refine .inr ⟨10,?_,hdep 10 ?_⟩;rotate_left;kernel_rfl;simp;done)|(refine .inr ⟨11,?_,hdep 11 ?_⟩;rotate_left;kernel_rfl;simp;done)|(refine .inr ⟨12,?_,hdep 12 ?_⟩;rotate_left;kernel_rfl;simp;done)|(refine .inr ⟨13,?_,hdep 13 ?_⟩;rotate_left;kernel_rfl;simp;done)|(refine .inr ⟨14,?_,hdep 14 ?_⟩;rotate_left;kernel_rfl;simp;done)|(refine .inr ⟨15,?_,hdep 15 ?_⟩;rotate_left;kernel_rfl;simp;done)|(refine .inr ⟨16,?_,hdep 16 ?_⟩;rotate_left;kernel_rfl;simp;done)|(refine .inr ⟨17,?_,hdep 17 ?_⟩;rotate_left;kernel_rfl;simp;done)|(refine .inr ⟨18,?_,hdep 18 ?_⟩;rotate_left;kernel_rfl;simp;done)|(refine .inr ⟨19,?_,hdep 19 ?_⟩;rotate_left;kernel_rfl;simp;done)|(refine .inr ⟨20,?_,hdep 20 ?_⟩;rotate_left;kernel_rfl;simp;done)|(refine .inr ⟨21,?_,hdep 21 ?_⟩;rotate_left;kernel_rfl;simp;done)|(refine .inr ⟨22,?_,hdep 22 ?_⟩;rotate_left;kernel_rfl;simp;done)|(refine .inr ⟨23,?_,hdep 23 ?_⟩;rotate_left;kernel_rfl;simp;done)|(refine .inr ⟨24,?_,hdep 24 ?_⟩;rotate_left;kernel_rfl;simp;done)|(refine .inr ⟨25,?_,hdep 25 ?_⟩;rotate_left;kernel_rfl;simp;done)):p:=h
abbrev ϖ(b:Nat):XN:=.pointer (XG ⟨b,0,XQ⟩)
abbrev ϱ(b o:Nat):XN:=.pointer (XG ⟨b,o,XQ⟩)
end Go
namespace Go.Pw
open Go.Conc
variable{P:XY}{α:Type}{F F' F1:XV}{o:Yd}{main rd:Bool}{cs:List XV}{w:XP}{ops:Array Yu}{i d m N b:Nat}{k:List Yi}{H L L':List (Nat×XN)}{R:XP->XP->Prop}{D:XP->XP->Array Ym->Prop}{Stop:XR->XP->Prop}{J:XR->Prop}{v:XN}{t:Array XN}{f:X3}
def ek(P:XY){α:Type}:Yb α->Option α
 |.pure a=>XG a
 |.program k=>ek P (k P)
 |_=>XQ
theorem gW{x:Yb α}{a:α}(h:ek P x=XG a)(w:XP):x.run P w=.ok a w/\x.events P w #[]=#[]:=by induction x with|pure b=>simp only[ek,Vj]at h;subst h;exact⟨rfl,rfl⟩|program k c=>exact c P h|_=>simp[ek]at h
def A1(P:XY)(F:XV)(o:Yu):Option XV:=
 match o.op with
 |.defer _=>XQ
 |_=>match ek P (XS F.eval o)with
   |some (.value v)=>XG (F.finish v)
   |some .skip=>XG (F.finish XZ)
   |_=>XQ
def lO(P:XY)(F:XV):Option XV:=
 match F.todo with
 |.code .skip::k=>XG {F with todo:=k}
 |.code (.label _)::k=>XG {F with todo:=k}
 |.inBlock _::k=>XG {F with todo:=k}
 |.inScope _::k=>XG {F with todo:=k}
 |.code (.seq a b)::k=>XG {F with todo:=.code a::.code b::k}
 |.code (.cond c x y)::k=>match F.eval c with
   |.bool b=>XG {F with todo:=.code (if b then x else y)::k}
   |_=>XQ
 |.code (.block id c)::k=>XG {F with todo:=.code c::.inBlock id::k}
 |.code (.loop c)::k=>XG {F with todo:=.code c::.inLoop c::k}
 |.inLoop c::k=>XG {F with todo:=.code c::.inLoop c::k}
 |.code (.scope c)::k=>XG {F with todo:=.code c::.inScope c::k}
 |.code (.exit id)::k=>(exitTo id k).map λk=>{F with todo:=k}
 |.code (.region _ ops XD)::k=>XG {F with todo:=.inRegion ops (List.range ops.size)::k}
 |.inRegion _ []::k=>XG {F with todo:=k}
 |.inRegion ops (i::_)::_=>
   match((ops[i]?).map (Region.wanted · (XX ops F.tmps))).getD XD with
   |true=>(ops[i]?).bind (A1 P F)
   |false=>XG (F.finish XZ)
 |_=>XQ
def hint(H:List (Nat×XN))(F F1:XV):XV×List (XN×XN):=
 match F.todo with
 |.inRegion ops (i::_)::_=>
   match(ops[i]?).bind (·.dst)with
   |some d=>match H.lookup d with
     |some v=>({F1 with tmps:=F.tmps.setIfInBounds d v},[(F1.tmps.getD d XZ,v)])
     |none=>(F1,[])
   |none=>(F1,[])
 |_=>(F1,[])
def bG(P:XY)(H:List (Nat×XN)):Nat->XV->Option (XV×List (XN×XN))
 |0,F=>XG (F,[])
 |n+1,F=>(lO P F).bind λF1=>(bG P H n (hint H F F1).1).map λx=>(x.1,(hint H F F1).2++x.2)
theorem kM(P:XY)(f:X3):seen P f #[]=#[]:=by rw[seen_def];simp
theorem A8{o:Yu}(C:F.mode=.run)(B:F.kind≠.early)(H:∃ops i rest k,F.todo=.inRegion ops (i::rest)::k/\ops[i]?=XG o/\Region.wanted o (XX ops F.tmps)=XL)(h:A1 P F o=XG F'):XT P main (G F cs) w=.go (G F' cs) w #[]:=by obtain⟨ops,i,rest,k,z,A,t⟩:=H;obtain⟨fn,tmps,todo,defers,mode,kind,q⟩:=F;subst z C;(have m:=by simpa using B);(have D:∀c,o.op≠.defer c:=λc e=>by unfold A1 at h;rw[e]at h;cases h);(have y:∀n,ek P (XS (XV.eval {fn:=fn,tmps:=tmps,todo:=.inRegion ops (i::rest)::k,defers:=defers,mode:=.run,kind:=kind,roundOf:=q}) o)=XG n->(∃v,n=.value v/\F'=XV.finish {fn:=fn,tmps:=tmps,todo:=.inRegion ops (i::rest)::k,defers:=defers,mode:=.run,kind:=kind,roundOf:=q} v)\/(n=.skip/\F'=XV.finish {fn:=fn,tmps:=tmps,todo:=.inRegion ops (i::rest)::k,defers:=defers,mode:=.run,kind:=kind,roundOf:=q} XZ):=by intro n E;unfold A1 at h;split at h;{cases h};rw[E]at h;cases n<;>simp at h<;>simp[h]);cases u:ek P (XS (XV.eval {fn:=fn,tmps:=tmps,todo:=.inRegion ops (i::rest)::k,defers:=defers,mode:=.run,kind:=kind,roundOf:=q}) o)with|none=>unfold A1 at h;split at h;{cases h};rw[u]at h;cases h|some n=>obtain⟨p,r⟩:=gW u w;(have x:XT P main (G {fn:=fn,tmps:=tmps,todo:=.inRegion ops (i::rest)::k,defers:=defers,mode:=.run,kind:=kind,roundOf:=q} cs) w=XT.apply P XL {fn:=fn,tmps:=tmps,todo:=.inRegion ops (i::rest)::k,defers:=defers,mode:=.run,kind:=kind,roundOf:=q} cs XQ (XS (XV.eval {fn:=fn,tmps:=tmps,todo:=.inRegion ops (i::rest)::k,defers:=defers,mode:=.run,kind:=kind,roundOf:=q}) o) w:=by cases q with|none=>simp only[G,XT,XT.exec,XT.oper,XV.oper?,A,t,Vp,VO,if_true]|some l=>simp only[G,XT,XT.exec,XT.oper,XV.oper?,A,t,Vp,VO,if_true];split;{rename_i e;exact absurd e (D _)};rfl);rw[x];rcases y n u with⟨v,rfl,rfl⟩|⟨rfl,rfl⟩;{simp[XT.apply,p,r,m,GStep.after,kM,G]};simp[XT.apply,p,r,m,GStep.after,kM,G]
theorem iH(m:F.mode=.run)(a:F.kind≠.early)(h:lO P F=XG F'):(∀main cs w,XT P main (G F cs) w=.go (G F' cs) w #[])/\F'.mode=.run/\F'.kind≠.early:=by obtain⟨t,q,r,f,p,n,v⟩:=F;subst m;unfold lO at h;simp only at h;split at h;(all_goals first|(cases h;exact⟨λmain cs w=>by simp[G,XT,XT.exec],rfl,a⟩)|skip);{split at h;{rename_i b s;cases h;exact⟨λmain cs w=>by simp[G,XT,XT.exec,s],rfl,a⟩};cases h};{rename_i id k;cases j:exitTo id k with|none=>rw[j]at h;cases h|some u=>rw[j]at h;cases h;exact⟨λmain cs w=>by simp[G,XT,XT.exec,j],rfl,a⟩};{rename_i d i e k;split at h;{rename_i g;cases l:d[i]? with|none=>rw[l]at h;cases h|some o=>rw[l]at h g;simp only[Wv]at h;refine⟨λmain cs w=>A8 rfl a ⟨d,i,e,k,rfl,l,by simpa using g⟩ h,?_⟩;unfold A1 at h;split at h;{cases h};split at h<;>cases h<;>exact⟨rfl,a⟩};rename_i g;cases h;refine⟨λmain cs w=>?_,rfl,a⟩;simp only[G,XT,XT.exec,g,VD,if_false]};cases h
theorem F5{rest:List Nat}{d:Tmp}(e:F.todo=.inRegion ops (i::rest)::k)(l:(ops[i]?).bind (·.dst)=XG d)(h:lO P F=XG F1):∃v,F1={F with tmps:=F.tmps.setIfInBounds d v,todo:=.inRegion ops rest::k}:=by(have c:∀v,F.finish v={F with tmps:=F.tmps.setIfInBounds d v,todo:=.inRegion ops rest::k}:=λv=>by obtain⟨m,tmps,todo,b,j,g,n⟩:=F;subst e;simp[XV.finish,l]);unfold lO at h;rw[e]at h;simp only at h;split at h;{cases f:ops[i]? with|none=>rw[f]at h;cases h|some o=>rw[f]at h;simp only[Wv]at h;unfold A1 at h;split at h;{cases h};split at h<;>cases h;{exact⟨_,c _⟩};exact⟨_,c _⟩};cases h;exact⟨_,c _⟩
theorem xN(h:lO P F=XG F1)(a:∀p∈(hint H F F1).2,p.1=p.2):(hint H F F1).1=F1:=by unfold hint at a⊢;split;{rename_i e i j k g;rw[g]at a;simp only at a;cases f:(e[i]?).bind (·.dst)with|none=>rfl|some d=>rw[f]at a;simp only at a⊢;cases l:H.lookup d with|none=>rfl|some v=>rw[l]at a;simp only[Vx,forall_eq]at a⊢;obtain⟨u,rfl⟩:=F5 g f h;rcases VI d F.tmps.size with c|b;{(have:(F.tmps.setIfInBounds d u).getD d XZ=u:=by simp[c]);rw[this]at a;rw[a]};simp[Array.setIfInBounds,Nat.not_lt.2 b]};rfl
theorem se(j:∀a b c,R a b->R b c->R a c)(i:∀w,D w w #[]):∀(n:Nat){F F':XV}{obs:List (XN×XN)}{w:XP},bG P H n F=XG (F',obs)->(∀p∈obs,p.1=p.2)->F.mode=.run->F.kind≠.early->Goes P main R D Stop m (G F' cs) w->Goes P main R D Stop (m+n) (G F cs) w|0,F,F',obs,w,h,_,_,_,g=>by cases h;exact g|n+1,F,F',obs,w,h,k,t,s,g=>by simp only[bG]at h;cases d:lO P F with|none=>rw[d]at h;cases h|some l=>rw[d]at h;simp only[Wv]at h;cases f:bG P H n (hint H F l).1 with|none=>rw[f]at h;cases h|some x=>rw[f]at h;simp only[Vp,Vj,Vm]at h;obtain⟨rfl,rfl⟩:=h;rw[xN d λp d=>k p (Vn.2 (.inl d))]at f;obtain⟨o,q,r⟩:=iH t s d;have:=se j i n (F':=x.1) (obs:=x.2) f (λp d=>k p (Vn.2 (.inr d))) q r g;refine .inr ⟨rfl,λv u=>?_⟩;rw[o];exact⟨i v,this.rely j u⟩
theorem oj(f:∀F b,(∀w,XT P main (G F cs) w=.go (G b cs) w #[])->J (G b cs)->J (G F cs)):∀(n:Nat){F F':XV}{obs:List (XN×XN)},bG P H n F=XG (F',obs)->(∀p∈obs,p.1=p.2)->F.mode=.run->F.kind≠.early->J (G F' cs)->J (G F cs)|0,F,F',obs,h,_,_,_,e=>by cases h;exact e|n+1,F,F',obs,h,g,m,l,e=>by simp only[bG]at h;cases a:lO P F with|none=>rw[a]at h;cases h|some b=>rw[a]at h;simp only[Wv]at h;cases d:bG P H n (hint H F b).1 with|none=>rw[d]at h;cases h|some x=>rw[d]at h;simp only[Vp,Vj,Vm]at h;obtain⟨rfl,rfl⟩:=h;rw[xN a λp a=>g p (Vn.2 (.inl a))]at d;obtain⟨i,j,k⟩:=iH m l a;exact f F b (λw=>i main cs w) (oj f n (F':=x.1) (obs:=x.2) d (λp a=>g p (Vn.2 (.inr a))) j k e)
def tm(N:Nat)(L:List (Nat×XN))(t:Array XN):Array XN:=((List.range N).map λi=>match L.lookup i with|some v=>v|none=>t.getD i XZ).toArray
structure Sl(N:Nat)(L:List (Nat×XN))(t:Array XN):Prop where
 size:t.size=N
 at_:∀p∈L,t.getD p.1 XZ=p.2
theorem jO(h:L.lookup i=XG v):(i,v)∈L:=by induction L with|nil=>cases h|cons p l c=>simp only[List.lookup]at h;split at h;{rename_i e;cases h;(have:=by simpa using e);subst this;exact U8 ..};exact Vl _ (c h)
theorem Sl.tm(h:Sl N L t):t=tm N L t:=by apply W6;intro i;(have e:(Pw.tm N L t)[i]?=((List.range N).map λi=>match L.lookup i with|some v=>v|none=>t.getD i XZ)[i]?:=by unfold Pw.tm;simp);rw[e,Vi];rcases VI i N with a|a;{rw[Wq a];(have b:i<t.size:=by rw[h.size];exact a);simp only[Vp,Ve b,Vj];cases d:L.lookup i with|none=>simp[Ve b]|some v=>have:=h.at_ _ (jO d);simp only[U9,Ve b]at this;exact this};rw[List.getElem?_eq_none (by simpa using a),WE (by rw[h.size];exact a)];rfl
theorem Sl.all(h:(t.size,L.map λp=>t.getD p.1 XZ)=(N,L.map (·.2)):=by kernel_rfl):Sl N L t:=by obtain⟨a,b⟩:=VF h;refine⟨a,λp d=>?_⟩;obtain⟨i,c⟩:=Vs.1 d;have:=congrArg (·[i]?) b;simpa[Vi,c]using this
theorem Sl.S6(h:t.size=N):Sl N [] t:=⟨h,λp a=>by cases a⟩
theorem Sl.cons{N:Nat}{L:List (Nat×XN)}{t:Array XN}{i:Nat}{v:XN}(h:t.getD i XZ=v)(b:Sl N L t):Sl N ((i,v)::L) t:=⟨b.size,λp a=>by rcases Va.1 a with rfl|a;{exact h};exact b.at_ p a⟩
section
abbrev fr(f:X3)(t:Array XN)(k:List Yi):XV:={fn:=f,tmps:=t,todo:=k,defers:=[],mode:=.run,kind:=.normal,roundOf:=XQ}
def sub:List Nat->Yt->Yt
 |[],c=>c
 |i::p,c=>match c,i with
   |.seq a _,0=>sub p a
   |.seq _ b,_=>sub p b
   |.cond _ a _,0=>sub p a
   |.cond _ _ b,_=>sub p b
   |.block _ a,_=>sub p a
   |.loop a,_=>sub p a
   |.scope a,_=>sub p a
   |.rangeFunc _ _ a _,0=>sub p a
   |.rangeFunc _ _ _ b,_=>sub p b
   |c,_=>c
def aR:Yt->Array Yu
 |.region _ ops _=>ops
 |_=>#[]
def opn(ops:Array Yu)(i:Nat):Yu:=(ops[i]?).getD default
def Ue:Nat->Nat->List Nat->List Nat
 |0,_,a=>a
 |f+1,n,a=>match Nat.ble n 1 with|true=>a|false=>Ue f (n/2) (n%2::a)
def dg(n:Nat):List Nat:=Ue 60 n []
abbrev sb(c:Yt)(n:Nat):Yt:=sub (dg n) c
def tT:List Nat->Yt->List Yi->List Yi
 |[],_,k=>k
 |i::p,c,k=>match c,i with
   |.seq a b,0=>tT p a (.code b::k)
   |.seq _ b,_=>tT p b k
   |.cond _ a _,0=>tT p a k
   |.cond _ _ b,_=>tT p b k
   |.block id a,_=>tT p a (.inBlock id::k)
   |.loop a,_=>tT p a (.inLoop a::k)
   |.scope a,_=>tT p a (.inScope a::k)
   |_,_=>k
abbrev rA(c:Yt)(n:Nat)(l:List Nat):List Yi:=.inRegion (aR (sb c n)) l::tT (dg n) c []
abbrev cA(c:Yt)(n:Nat):List Yi:=.code (sb c n)::tT (dg n) c []
abbrev xA(x:Yt)(c:Yt)(n:Nat):List Yi:=.code x::tT (dg n) c []
abbrev dA(c:Yt)(n:Nat)(r:Nat):List Yi:=.code (.region r (aR (sb c n)) XL)::tT (dg n) c []
theorem Sl.get(h:Sl N L t)(a:L.lookup i=XG v):t.getD i XZ=v:=h.at_ _ (jO a)
theorem Sl.gN(h:Sl N L t)(i:Nat)(hl:L.lookup i=XG v):t.getD i XZ=v:=h.get hl
theorem Sl.put(h:Sl N L t)(c:d<N)(e:∀p∈L',p=(d,v)\/(p∈L/\p.1≠d)):Sl N L' (t.setIfInBounds d v):=by refine⟨by simp[h.size],λp f=>?_⟩;rcases e p f with rfl|⟨a,b⟩;{simp[U9,h.size,c]};rw[<-h.at_ p a];simp only[U9];rw[Vt (Ne.symm b)]
theorem Sl.sub(h:Sl N L t)(b:∀p∈L',p∈L):Sl N L' t:=⟨h.size,λp a=>h.at_ p (b p a)⟩
theorem aY{o:Yu}(h:Sl N L t)(b:Region.wanted o (XX ops (tm N L t))=XL):Region.wanted o (XX ops t)=XL:=by rw[h.tm];exact b
theorem Sl.pt(h:Sl N L t)(b:d<N:=by decide)(c:L.all (λp=>!(p.1==d))=XL:=by rfl):Sl N ((d,v)::L) (t.setIfInBounds d v):=h.put b λp a=>by rcases Va.1 a with rfl|a;{exact .inl rfl};exact .inr ⟨a,by simpa using VC.1 c p a⟩
theorem sV:∀p∈([]:List (XN×XN)),p.1=p.2:=λp a=>by cases a
theorem JV{a b:XN}{l:List (XN×XN)}(h:a=b)(d:∀p∈l,p.1=p.2):∀p∈(a,b)::l,p.1=p.2:=λp c=>by rcases Va.1 c with rfl|c;{exact h};exact d p c
theorem int_eq{k:XU}{x y:Int}(h:x=y):XN.int k x=XN.int k y:=by rw[h]
structure Ob where
 c:XN
 b:XN
 h:c=b
def oi(k:XU)(c b:Int)(h:c=b):Ob:=⟨.int k c,.int k b,int_eq h⟩
def o2(c b:Int)(h:c=b):Ob:=oi .u32 c b h
def o3(c b:Int)(h:c=b):Ob:=oi .i32 c b h
def o6(c b:Int)(h:c=b):Ob:=oi .i64 c b h
def o8(c b:Int)(h:c=b):Ob:=oi .u64 c b h
def ob(c b:Bool)(h:c=b):Ob:=⟨.bool c,.bool b,congrArg XN.bool h⟩
def oh(O:List (Nat×Ob)):List (Nat×XN):=O.map λp=>(p.1,p.2.b)
def oo(O:List (Nat×Ob)):List (XN×XN):=O.map λp=>(p.2.c,p.2.b)
theorem tg(O:List (Nat×Ob)):∀p∈oo O,p.1=p.2:=λp a=>by obtain⟨q,_,rfl⟩:=Vb.1 a;exact q.2.h
def iR(P:XY)(H:List (Nat×XN))(n:Nat)(F:XV):Array XN:=match bG P H n F with|some x=>x.1.tmps|none=>#[]
section
variable{k':List Yi}{n:Nat}{obs:List (XN×XN)}
theorem IW(l:∀a b c,R a b->R b c->R a c)(i:∀w,D w w #[])(n:Nat)(o:Sl N L t)(g:bG P H n (fr f (tm N L t) k)=XG (fr f (iR P H n (fr f (tm N L t) k)) k',obs))(q:∀p∈obs,p.1=p.2)(h:Sl N L' (iR P H n (fr f (tm N L t) k)))(j:∀d,Sl N L' d->Goes P main R D Stop m (G (fr f d k') cs) w):Goes P main R D Stop (m+n) (G (fr f t k) cs) w:=by(have e:fr f t k=fr f (tm N L t) k:=by rw[<-o.tm]);rw[e];exact se l i n g q rfl Θ (j _ h)
theorem JO(h:∀F a,(∀w,XT P main (G F cs) w=.go (G a cs) w #[])->J (G a cs)->J (G F cs))(n:Nat)(i:Sl N L t)(c:bG P H n (fr f (tm N L t) k)=XG (fr f (iR P H n (fr f (tm N L t) k)) k',obs))(j:∀p∈obs,p.1=p.2)(d:Sl N L' (iR P H n (fr f (tm N L t) k)))(g:∀b,Sl N L' b->J (G (fr f b k') cs)):J (G (fr f t k) cs):=by(have e:fr f t k=fr f (tm N L t) k:=by rw[<-i.tm]);rw[e];exact oj (main:=main) h n c j rfl Θ (g _ d)
end
end
def xd:XN->Bool
 |.agg _|.tuple _=>XD
 |_=>XL
def Qu{α:Type}(b:Nat)(r:Option (α×Yd×List Nat)):Option (α×Yd×List Nat):=r.map λr=>(r.1,r.2.1,b::r.2.2)
def jR(P:XY)(rd:Bool){α:Type}:Yb α->Yd->Option (α×Yd×List Nat)
 |.pure a,o=>XG (a,o,[])
 |.program k,o=>jR P rd (k P) o
 |.load .plain ⟨b,i,XQ⟩ k,.cells c e fr=>(c[i]?).bind λv=>Qu b (jR P rd (k v) (.cells c e fr))
 |.store .plain ⟨b,i,XQ⟩ v k,.cells c e (0,0)=>match !rd&&xd v&&decide (i<c.size)with
   |true=>Qu b (jR P rd k (.cells (c.setIfInBounds i v) e))
   |false=>XQ
 |.getObj r k,.map es n=>Qu r (jR P rd (k (.map es n)) (.map es n))
 |.setObj r (.map es' n') k,.map _ _=>match rd with
   |false=>Qu r (jR P rd k (.map es' n'))
   |true=>XQ
 |_,_=>XQ
def G7(P:XY){α:Type}:Yb α->Option (Yd×(Nat->Yb α))
 |.program k=>G7 P (k P)
 |.new o k=>XG (o,k)
 |_=>XQ
def iL(w:XP)(b:Nat)(o:Yd):XP:={w with heap:=w.heap.setIfInBounds b o}
theorem qa{o':Yd}(h:w.heap[b]?=XG o):(iL w b o').heap[b]?=XG o':=by obtain⟨a,_⟩:=U3.1 h;simp[iL,a]
theorem oF{c:Nat}(h:c≠b):(iL w b o).heap[c]?=w.heap[c]?:=by simp[iL,Vt (Ne.symm h)]
theorem vK(w:XP)(b:Nat)(o o':Yd):iL (iL w b o) b o'=iL w b o':=by simp[iL]
theorem nj(h:w.heap[b]?=XG o):iL w b o=w:=by obtain⟨c,a⟩:=U3.1 h;(have:w.heap.setIfInBounds b o=w.heap:=Array.ext (by simp) λk d _=>by rw[X5];split;{rename_i e;subst e;exact a.symm};rfl);unfold iL;rw[this]
theorem zN{c:Array XN}{e:XW}(h:w.heap[b]?=XG (.cells c e)):w.setCell ⟨b,i,XQ⟩ v=iL w b (.cells (c.setIfInBounds i v) e):=by obtain⟨f,d⟩:=U3.1 h;(have:w.heap.modify b (λ|.cells c a frozen=>.cells (c.setIfInBounds i v) a frozen|o=>o)=w.heap.setIfInBounds b (.cells (c.setIfInBounds i v) e):=by apply Array.ext (by simp);intro k g _;rw[Array.getElem_modify,X5];split;{rename_i e;subst e;rw[d]};rfl);unfold XP.setCell iL;rw[<-this];rfl
def xg(b:Nat)(e:Ym):Prop:=(match e.loc with|.cell a=>a.block=b|.obj j=>j=b|_=>False)/\e.sync=XD
theorem JE{f:Array Ym->Array Ym}{e:Ym}(i:xg b e)(h:∀es,∃a,f es=es++a/\∀x∈a,xg b x)(es:Array Ym):∃a,f (es.push e)=es++a/\∀x∈a,xg b x:=by obtain⟨a,d,g⟩:=h (es.push e);refine⟨#[e]++a,by simp[d],λx c=>?_⟩;rcases VG.1 c with c|c;{(obtain rfl:=by simpa using c);exact i};exact g x c
theorem kF{r:Option (α×Yd×List Nat)}{a:α}{q:List Nat}(h:Qu b r=XG (a,o,q)):∃c,r=XG (a,o,c)/\q=b::c:=by obtain⟨⟨f,g,c⟩,d,e⟩:=U7.1 h;cases e;exact⟨c,d,rfl⟩
theorem sg{x:Yb α}:∀{o o':Yd}{q:List Nat}{a:α}{w:XP},jR P rd x o=XG (a,o',q)->(∀r∈q,r=b)->w.heap[b]?=XG o->x.run P w=.ok a (iL w b o')/\∀es,∃u,x.events P w es=es++u/\∀e∈u,xg b e:=by induction x with|pure a=>intro o o' q a w h g d;cases h;exact⟨by rw[nj d];rfl,λes=>⟨#[],by simp,by simp⟩⟩|program k n=>exactλh g d=>n P h g d|load m A k n=>intro o o' q a w h g d;obtain⟨j,i,C⟩:=A;cases m<;>cases C<;>cases o<;>simp only[jR,reduceCtorEq]at h;obtain⟨v,z,h⟩:=Vr.1 h;obtain⟨B,s,rfl⟩:=kF h;obtain rfl:j=b:=g _ (U8 ..);obtain⟨l,p⟩:=n v s (λr t=>g r (Vl _ t)) d;(have y:w.cell? ⟨j,i,XQ⟩=XG v:=by simp[XP.cell?,d,z]);refine⟨by simpa[Yb.run,y]using l,λes=>?_⟩;rw[show(Yb.load Mode.plain ⟨j,i,XQ⟩ k).events P w es=(k v).events P w (es.push ⟨.cell ⟨j,i,XQ⟩,XD,XD⟩)by simp[Yb.events,Yb.runT,y,-Yb.runT_eq];rfl];exact JE (f:=(k v).events P w) ⟨rfl,rfl⟩ p es|store m A v k n=>intro o o' q a w h g d;obtain⟨j,i,C⟩:=A;(cases m<;>cases C<;>cases o<;>try(exfalso;revert h;simp[jR];done));rename_i c e fr;obtain⟨F,H⟩:=fr;(cases F<;>cases H<;>try(exfalso;revert h;simp[jR];done));simp only[jR]at h;split at h;{rename_i D;rw[U6,U6,decide_eq_true_eq]at D;obtain⟨⟨_,z⟩,I⟩:=D;obtain⟨B,s,rfl⟩:=kF h;obtain rfl:j=b:=g _ (U8 ..);obtain⟨l,p⟩:=n s (λr t=>g r (Vl _ t)) (qa d);rw[vK,<-zN d]at l;rw[<-zN d]at p;(have y:w.cell? ⟨j,i,XQ⟩=XG c[i]:=by simp[XP.cell?,d,I]);(have E:w.frozen? ⟨j,i,XQ⟩=XD:=by simp[XP.frozen?,d]);refine⟨by cases v<;>simp[xd]at z<;>simpa[Yb.run,y,E]using l,λes=>?_⟩;rw[show(Yb.store Mode.plain ⟨j,i,XQ⟩ v k).events P w es=k.events P (w.setCell ⟨j,i,XQ⟩ v) (es.push ⟨.cell ⟨j,i,XQ⟩,XL,XD⟩)by cases v<;>simp[xd]at z<;>(simp[Yb.events,Yb.runT,y,E,-Yb.runT_eq];rfl)];exact JE (f:=k.events P _) ⟨rfl,rfl⟩ p es};cases h|getObj r k n=>intro o o' q a w h g d;cases o<;>simp only[jR,reduceCtorEq]at h;obtain⟨B,s,rfl⟩:=kF h;obtain rfl:r=b:=g _ (U8 ..);obtain⟨l,p⟩:=n _ s (λr t=>g r (Vl _ t)) d;refine⟨by simpa[Yb.run,d]using l,λes=>?_⟩;rw[show(Yb.getObj r k).events P w es=(k _).events P w (es.push ⟨.obj r,XD,XD⟩)by simp[Yb.events,Yb.runT,d,Yd.isChan,-Yb.runT_eq];rfl];exact JE (f:=(k _).events P w) ⟨rfl,rfl⟩ p es|setObj r ob k n=>intro o o' q a w h g d;cases rd<;>cases o<;>cases ob<;>simp only[jR,reduceCtorEq]at h;obtain⟨B,s,rfl⟩:=kF h;obtain rfl:r=b:=g _ (U8 ..);obtain⟨l,p⟩:=n s (λr t=>g r (Vl _ t)) (qa d);rw[vK]at l;refine⟨by simp only[Yb.run,d];exact l,λes=>?_⟩;rw[show(Yb.setObj r _ k).events P w es=k.events P (iL w r _) (es.push ⟨.obj r,XL,XD⟩)by simp[Yb.events,Yb.runT,d,Yd.isChan,-Yb.runT_eq];rfl];exact JE (f:=k.events P _) ⟨rfl,rfl⟩ p es|_=>intro o o' q a w h;simp[jR]at h
theorem LV{x:Yb α}:∀{o o':Yd}{q:List Nat}{a:α},jR P XL x o=XG (a,o',q)->o'=o:=by induction x with|pure a=>intro o o' q a h;cases h;rfl|program k b=>exactλh=>b P h|load m d k b=>intro o o' q a h;obtain⟨j,i,g⟩:=d;cases m<;>cases g<;>cases o<;>simp only[jR,reduceCtorEq]at h;obtain⟨v,s,h⟩:=Vr.1 h;obtain⟨p,f,rfl⟩:=kF h;exact b v f|getObj r k b=>intro o o' q a h;cases o<;>simp only[jR,reduceCtorEq]at h;obtain⟨p,f,rfl⟩:=kF h;exact b _ f|store m d v k b=>intro o o' q a h;obtain⟨j,i,g⟩:=d;(cases m<;>cases g<;>cases o<;>try(exfalso;revert h;simp[jR];done));rename_i c e fr;obtain⟨l,n⟩:=fr;cases l<;>cases n<;>exfalso<;>revert h<;>simp[jR]|setObj r ob k b=>intro o o' q a h;cases o<;>cases ob<;>simp[jR]at h|_=>intro o o' q a h;simp[jR]at h
theorem Kh{x:Yb α}{k:Nat->Yb α}{a:α}(h:G7 P x=XG (o,k))(d:ek P (k w.heap.size)=XG a):x.run P w=.ok a (w.alloc o)/\x.events P w #[]=#[]:=by induction x with|program f e=>exact e P h|new g f=>cases h;obtain⟨b,c⟩:=gW d (w.alloc o);exact⟨b,c⟩|_=>simp[G7]at h
def Tg:Op->Bool
 |.defer _=>XL
 |_=>XD
def ye(F:XV):Option Yu:=match F.todo with
 |.inRegion ops (i::_)::_=>match((ops[i]?).map (Region.wanted · (XX ops F.tmps))).getD XD with
   |true=>match ops[i]? with
     |some o=>match Tg o.op with|true=>XQ|false=>XG o
     |none=>XQ
   |false=>XQ
 |_=>XQ
def valOf:Next->Option XN
 |.value v=>XG v
 |.skip=>XG XZ
 |_=>XQ
def S3(P:XY)(rd:Bool)(k:Nat)(F:XV)(H:List (Nat×Yd)):Option (XV×List (Nat×Yd)×List (Nat×Nat)):=
 match ye F,H[k]? with
 |some o,XG (b,ob)=>match jR P rd (XS F.eval o) ob with
   |some (n,ob',q)=>(valOf n).map λv=>(F.finish v,H.set k (b,ob'),q.map λr=>(r,b))
   |none=>XQ
 |_,_=>XQ
def OH(P:XY)(c:Nat)(F:XV):Option (XV×Yd):=
 match ye F with
 |some o=>match G7 P (XS F.eval o)with
   |some (ob,k)=>((ek P (k c)).bind valOf).map λv=>(F.finish v,ob)
   |none=>XQ
 |none=>XQ
abbrev MR:=XV×List (Nat×Yd)×List (Nat×Nat)×List (XN×XN)
def iB(P:XY)(rd:Bool)(O:List (Nat×XN)):Nat->List Nat->List Nat->XV->List (Nat×Yd)->Option MR
 |0,_,_,F,H=>XG (F,H,[],[])
 |n+1,hs,bs,F,H=>match lO P F with
   |some F1=>(iB P rd O n hs bs (hint O F F1).1 H).map λr=>(r.1,r.2.1,r.2.2.1,(hint O F F1).2++r.2.2.2)
   |none=>match hs with
     |[]=>XG (F,H,[],[])
     |0::hs=>match bs with
       |[]=>XQ
       |c::bs=>match OH P c F with
         |some (F1,ob)=>iB P rd O n hs bs F1 ((c,ob)::H)
         |none=>XQ
     |(k+1)::hs=>match S3 P rd k F H with
       |some (F1,H1,q)=>(iB P rd O n hs bs F1 H1).map λs=>(s.1,s.2.1,q++s.2.2.1,s.2.2.2)
       |none=>XQ
theorem rW{o:Yu}(h:ye F=XG o):∃ops i rest k,F.todo=.inRegion ops (i::rest)::k/\ops[i]?=XG o/\Region.wanted o (XX ops F.tmps)=XL/\∀c,o.op≠.defer c:=by unfold ye at h;split at h;{rename_i ops i rest k f;split at h;{rename_i g;split at h;{rename_i j d;split at h;{cases h};rename_i b;cases h;refine⟨ops,i,rest,k,f,d,by simpa[d]using g,λc e=>?_⟩;rw[e]at b;cases b};cases h};cases h};cases h
theorem CK{o:Yu}{w':XP}{n:Next}(y:F.mode=.run)(r:F.kind≠.early)(h:ye F=XG o)(A:(XS F.eval o).run P w=.ok n w')(z:valOf n=XG v):XT P main (G F cs) w=.go (G (F.finish v) cs) w' (seen P F.fn ((XS F.eval o).events P w #[]))/\(F.finish v).mode=.run/\(F.finish v).kind≠.early:=by obtain⟨p,i,g,k,u,x,q,C⟩:=rW h;obtain⟨fn,tmps,todo,defers,mode,kind,t⟩:=F;subst u y;(have m:=by simpa using r);refine⟨?_,rfl,r⟩;generalize D:XV.eval _=B at A⊢;(have s:XT P main (G {fn:=fn,tmps:=tmps,todo:=.inRegion p (i::g)::k,defers:=defers,mode:=.run,kind:=kind,roundOf:=t} cs) w=XT.apply P XL {fn:=fn,tmps:=tmps,todo:=.inRegion p (i::g)::k,defers:=defers,mode:=.run,kind:=kind,roundOf:=t} cs XQ (XS B o) w:=by rw[<-D];cases t with|none=>simp only[G,XT,XT.exec,XT.oper,XV.oper?,x,q,Vp,VO,if_true]|some l=>simp only[G,XT,XT.exec,XT.oper,XV.oper?,x,q,Vp,VO,if_true];split;{rename_i e;exact absurd e (C _)};rfl);rw[s];cases n<;>simp[valOf]at z<;>subst z<;>simp[XT.apply,A,m,GStep.after,G]
theorem JY{es:Array Ym}(h:∀e∈es,xg b e):∀e∈seen P f es,xg b e:=λe a=>by rw[seen_def]at a;rcases seen_fold_sub _ _ _ _ e a with x|x;{simp at x};exact h e (by simpa using x)
theorem Ov{k:Nat}{H H1:List (Nat×Yd)}{q:List (Nat×Nat)}(x:F.mode=.run)(u:F.kind≠.early)(h:S3 P rd k F H=XG (F1,H1,q))(z:∀p∈q,p.1=p.2):∃b o o',H[k]?=XG (b,o)/\H1=H.set k (b,o')/\(rd=XL->o'=o)/\(∀main cs w,w.heap[b]?=XG o->∃es,XT P main (G F cs) w=.go (G F1 cs) (iL w b o') es/\∀e∈es,xg b e)/\F1.mode=.run/\F1.kind≠.early:=by unfold S3 at h;split at h;{rename_i C b ob y hH;split at h;{rename_i n d D g;obtain⟨v,B,e⟩:=U7.1 h;cases e;have a:=λr A=>z (r,b) (Vb.2 ⟨r,A,rfl⟩);have c:∀main cs w,w.heap[b]?=XG ob->XT P main (G F cs) w=.go (G (F.finish v) cs) (iL w b d) (seen P F.fn ((XS F.eval C).events P w #[]))/\(F.finish v).mode=.run/\(F.finish v).kind≠.early:=λmain cs w f=>CK x u y (sg g a f).1 B;refine⟨b,ob,d,hH,rfl,λe=>by subst e;exact LV g,λmain cs w f=>⟨_,(c main cs w f).1,JY λe i=>?_⟩,(c XL [] {(default:XP)with heap:=(Array.replicate (b+1) ob)} (by simp)).2⟩;obtain⟨l,m,s⟩:=(sg g a f).2 #[];rw[m]at i;exact s e (by simpa using i)};cases h};cases h
theorem IU(s:F.mode=.run)(q:F.kind≠.early)(h:∀c,∃r,OH P c F=XG r):∃o,∃e:Nat->XV,(∀c,OH P c F=XG (e c,o))/\(∀main cs w,XT P main (G F cs) w=.go (G (e w.heap.size) cs) (w.alloc o) #[])/\∀c,(e c).mode=.run/\(e c).kind≠.early:=by unfold OH at h⊢;cases g:ye F with|none=>obtain⟨r,b⟩:=h 0;rw[g]at b;cases b|some D=>simp only[g]at h⊢;cases l:G7 P (XS F.eval D)with|none=>obtain⟨r,b⟩:=h 0;rw[l]at b;cases b|some x=>obtain⟨ob,p⟩:=x;simp only[l]at h⊢;(have j:∀c,∃n v,ek P (p c)=XG n/\valOf n=XG v:=λc=>by obtain⟨r,b⟩:=h c;obtain⟨v,j,_⟩:=U7.1 b;obtain⟨n,a,d⟩:=Vr.1 j;exact⟨n,v,a,d⟩);(have m:∀main cs(w:XP),XT P main (G F cs) w=.go (G (F.finish (((ek P (p w.heap.size)).bind valOf).getD XZ)) cs) (w.alloc ob) #[]:=λmain cs w=>by obtain⟨n,v,a,d⟩:=j w.heap.size;obtain⟨B,C⟩:=Kh l a;rw[(CK s q g B d).1,C,kM,a];simp[d]);refine⟨ob,λc=>F.finish (((ek P (p c)).bind valOf).getD XZ),λc=>?_,m,λc=>?_⟩;{obtain⟨n,v,a,d⟩:=j c;simp[a,d]};obtain⟨E,i,y,k,a,_⟩:=rW g;obtain⟨H,z,A,f,u,t,I⟩:=F;subst a;exact⟨s,q⟩
structure Carry(P:XY)(rd:Bool)(main:Bool)(cs:List XV)(J:(Nat->Prop)->XR->XP->Prop)(Kn:(Nat->Prop)->XP->List (Nat×Yd)->Prop)(al:Prop):Prop where
 ctl:∀own v F F1,(∀w,XT P main (G F cs) w=.go (G F1 cs) w #[])->J own (G F1 cs) v->J own (G F cs) v
 mem:∀own v H k b o o' F F1,Kn own v H->H[k]?=XG (b,o)->(rd=XL->o'=o)->(∀w:XP,w.heap[b]?=XG o->∃es,XT P main (G F cs) w=.go (G F1 cs) (iL w b o') es/\∀e∈es,xg b e)->(∀v',Kn own v' (H.set k (b,o'))->J own (G F1 cs) v')->J own (G F cs) v
 new:al->∀own v H o F(F1:Nat->XV),Kn own v H->(∀w:XP,XT P main (G F cs) w=.go (G (F1 w.heap.size) cs) (w.alloc o) #[])->(∀own' c v',Kn own' v' ((c,o)::H)->J own' (G (F1 c) cs) v')->J own (G F cs) v
theorem Carry.run{P:XY}{J:(Nat->Prop)->XR->XP->Prop}{Kn:(Nat->Prop)->XP->List (Nat×Yd)->Prop}{al:Prop}(C:Carry P rd main cs J Kn al)(O:List (Nat×XN)):∀(n:Nat)(g:List Nat)(k:Nat)(_:k≠0->al)(own:Nat->Prop)(v:XP)(F:XV)(H:List (Nat×Yd)),F.mode=.run->F.kind≠.early->Kn own v H->(∀bs:List Nat,bs.length=k->∃r,iB P rd O n g bs F H=XG r/\(∀p∈r.2.2.1,p.1=p.2)/\(∀p∈r.2.2.2,p.1=p.2)/\∀d t,Kn d t r.2.1->J d (G r.1 cs) t)->J own (G F cs) v|0,g,k,z,own,v,F,H,K,I,m,E=>by obtain⟨r,h,_,_,y⟩:=E (List.replicate k 0) (by simp);cases h;exact y own v m|n+1,g,k,z,own,v,F,H,K,I,m,E=>by cases a:lO P F with|some f=>obtain⟨h,u,l⟩:=iH K I a;(have R:(hint O F f).1=f:=by obtain⟨r,e,_,B,_⟩:=E (List.replicate k 0) (by simp);simp only[iB,a]at e;obtain⟨s,_,rfl⟩:=U7.1 e;exact xN a λp a=>B p (Vn.2 (.inl a)));refine C.ctl own v F f (λw=>h main cs w) (Carry.run C O n g k z own v f H u l m λbs A=>?_);obtain⟨r,e,D,B,N⟩:=E bs A;simp only[iB,a,R]at e;obtain⟨s,M,rfl⟩:=U7.1 e;exact⟨s,M,D,λp a=>B p (Vn.2 (.inr a)),N⟩|none=>cases g with|nil=>obtain⟨r,e,_,_,y⟩:=E (List.replicate k 0) (by simp);simp only[iB,a,Vj]at e;subst e;exact y own v m|cons j g=>cases j with|zero=>(cases k with|zero=>obtain⟨r,e,_⟩:=E [] rfl;simp[iB,a]at e|succ k=>(obtain⟨o,f,h,u,l⟩:=IU (P:=P) K I λc=>by obtain⟨r,e,_⟩:=E (c::List.replicate k 0) (by simp);simp only[iB,a]at e;cases S:OH P c F with|none=>rw[S]at e;cases e|some r=>exact⟨r,rfl⟩);refine C.new (z (by simp)) own v H o F f m (λw=>u main cs w) λd c t i=>Carry.run C O n g k (λ_=>z (by simp)) d t (f c) _ (l c).1 (l c).2 i λbs A=>?_;obtain⟨r,e,T⟩:=E (c::bs) (by simp[A]);simp only[iB,a,h c]at e;exact⟨r,e,T⟩)|succ j=>cases L:S3 P rd j F H with|none=>obtain⟨r,e,_⟩:=E (List.replicate k 0) (by simp);simp[iB,a,L]at e|some x=>obtain⟨f,W,q⟩:=x;obtain⟨b,o,V,h,rfl,u,l,y,Q⟩:=Ov K I L (by obtain⟨r,e,D,_⟩:=E (List.replicate k 0) (by simp);simp only[iB,a,L]at e;obtain⟨s,_,rfl⟩:=U7.1 e;exactλp a=>D p (Vn.2 (.inl a)));refine C.mem own v H j b o V F f m h u (λw U=>l main cs w U) λt i=>Carry.run C O n g k z own t f _ y Q i λbs A=>?_;obtain⟨r,e,D,B,N⟩:=E bs A;simp only[iB,a,L]at e;obtain⟨s,M,rfl⟩:=U7.1 e;exact⟨s,M,λp a=>D p (Vn.2 (.inr a)),B,N⟩
end Go.Pw
namespace Go.ae
variable{a a' b':Yl}{v w:XP}{v' x x' y y' z:XN}{i b k n:Nat}{e:RuntimeError}{o o':Yd}{P:XY}{α β γ δ ε ζ:Type}{h:Halt}{t:XW}{op:BinOp}{o1:X8}{lo lo' hi hi' mx':Option XN}{f:X3}{gl:Nat->Bool}{ev ev':X8->XN}{ops:Array Yu}{rest:List Nat}{t':Array XN}
section
abbrev bN:=Nat->Option Nat
def bN.le(r r':bN):Prop:=∀b c,r b=XG c->r' b=XG c
theorem bN.le_refl(r:bN):r.le r:=λ_ _ h=>h
theorem bN.le_trans{r r' r'':bN}(h:r.le r')(a:r'.le r''):r.le r'':=λb c e=>a b c (h b c e)
structure ej where
 fns:X3->Bool
 seen:Nat->Prop
 M7:Nat->Nat
 aN:Nat
 low:Nat->Nat:=λ_=>0
def wT:XW:=1000000007
structure Fits(P:XY)(c:ej):Prop where
 aN:c.aN=P.globals.size
 bad:P.info? wT=XQ
 low:∀g,g<c.aN->c.low g=0
def dm(c:ej)(r:bN)(a a':Yl):Prop:=r a.block=XG a'.block/\a'.off=a.off/\a'.spot=a.spot/\c.low a.block<=a.off
def Fc(c:ej):Fn->Bool
 |.func f=>c.fns f
 |_=>XD
inductive ak(c:ej)(r:bN):XN->XN->Prop
 |bool(b:Bool):ak c r (.bool b) (.bool b)
 |int(k:XU)(n:Int):ak c r (.int k n) (.int k n)
 |string(s:ByteArray):ak c r (.string s) (.string s)
 |gk:ak c r (.pointer XQ) (.pointer XQ)
 |ptr{a a':Yl}:dm c r a a'->ak c r (.pointer (XG a)) (.pointer (XG a'))
 |il(n m:Nat):ak c r (.slice XQ n m) (.slice XQ n m)
 |slice{a a':Yl}(n m:Nat):dm c r a a'->ak c r (.slice (XG a) n m) (.slice (XG a') n m)
 |cT(a a':Yl):ak c r (.slice (XG a) 0 0) (.slice (XG a') 0 0)
 |kN:ak c r (.map XQ) (.map XQ)
 |map{a a':Nat}:r a=XG a'->ak c r (.map (XG a)) (.map (XG a'))
 |func{fn:Fn}{x x' y y':Array XN}:Fc c fn=XL->x.size=x'.size->(∀(i:Nat)(v v':XN),x[i]?=XG v->x'[i]?=XG v'->ak c r v v')->
  y.size=y'.size->(∀(i:Nat)(v v':XN),y[i]?=XG v->y'[i]?=XG v'->ak c r v v')->ak c r (.func fn x y) (.func fn x' y')
 |nilFunc:ak c r .nilFunc .nilFunc
 |nilIface:ak c r .nilIface .nilIface
 |iface(t:XW){v v':XN}:ak c r v v'->ak c r (.iface t v) (.iface t v')
 |agg{x x':Array XN}:x.size=x'.size->(∀(i:Nat)(v v':XN),x[i]?=XG v->x'[i]?=XG v'->ak c r v v')->ak c r (.agg x) (.agg x')
 |tuple{x x':Array XN}:x.size=x'.size->(∀(i:Nat)(v v':XN),x[i]?=XG v->x'[i]?=XG v'->ak c r v v')->ak c r (.tuple x) (.tuple x')
structure au(c:ej)(r:bN)(x x':Array XN):Prop where
 size:x.size=x'.size
 el:∀(i:Nat)(v v':XN),x[i]?=XG v->x'[i]?=XG v'->ak c r v v'
theorem dm.mono{c:ej}{r r':bN}(h:r.le r')(x:dm c r a a'):dm c r' a a':=⟨h _ _ x.1,x.2⟩
theorem ak.mono{c:ej}{r r':bN}(h:r.le r'){v:XN}(x:ak c r v v'):ak c r' v v':=by induction x with|bool b=>exact .bool b|int k n=>exact .int k n|string s=>exact .string s|gk=>exact .gk|ptr a=>exact .ptr (a.mono h)|il n m=>exact .il n m|slice n m a=>exact .slice n m (a.mono h)|cT a e=>exact .cT a e|kN=>exact .kN|map a=>exact .map (h _ _ a)|func i j _ l _ f g=>exact .func i j f l g|nilFunc=>exact .nilFunc|nilIface=>exact .nilIface|iface t _ d=>exact .iface t d|agg s _ d=>exact .agg s d|tuple s _ d=>exact .tuple s d
theorem au.mono{c:ej}{r r':bN}(h:r.le r'){x x':Array XN}(k:au c r x x'):au c r' x x':=⟨k.size,λi v d a b=>(k.el i v d a b).mono h⟩
theorem ak.tD{c:ej}{r:bN}{x x':Array XN}(h:au c r x x'):ak c r (.agg x) (.agg x'):=.agg h.size h.el
theorem ak.kG{c:ej}{r:bN}{x x':Array XN}(h:au c r x x'):ak c r (.tuple x) (.tuple x'):=.tuple h.size h.el
section rows
variable{c:ej}{r:bN}
theorem au.get{x x':Array XN}(h:au c r x x'){v:XN}(b:x[i]?=XG v):∃d,x'[i]?=XG d/\ak c r v d:=by have e:=(U3.1 b).1;have a:=h.size▸e;exact⟨x'[i],Ve a,h.el i v _ b (Ve a)⟩
theorem au.none{x x':Array XN}(h:au c r x x')(a:x[i]?=Option.none):x'[i]?=Option.none:=by rw[Array.getElem?_eq_none_iff]at a⊢;rw[<-h.size];exact a
theorem au.getD{x x':Array XN}(h:au c r x x')(i:Nat){d d':XN}(b:ak c r d d'):ak c r (x.getD i d) (x'.getD i d'):=by rw[U9,U9];cases a:x[i]? with|none=>rw[h.none a];exact b|some v=>obtain⟨f,e,k⟩:=h.get a;simp_all
theorem au.empty:au c r #[] #[]:=⟨rfl,λi v a h=>by simp at h⟩
theorem au.push{x x':Array XN}(h:au c r x x'){v:XN}(k:ak c r v v'):au c r (x.push v) (x'.push v'):=by refine⟨by simp[h.size],λi u d a b=>?_⟩;rw[Vw]at a b;rw[<-h.size]at b;split at a;{simp_all};rw[if_neg ‹_›]at b;exact h.el i u d a b
theorem au.append{x x' y y':Array XN}(h:au c r x x')(k:au c r y y'):au c r (x++y) (x'++y'):=by refine⟨by simp[h.size,k.size],λi u d a b=>?_⟩;rw[Array.getElem?_append]at a b;rw[<-h.size]at b;split at a;{rw[if_pos ‹_›]at b;exact h.el i u d a b};rw[if_neg ‹_›]at b;exact k.el _ u d a b
theorem au.set{x x':Array XN}(h:au c r x x')(i:Nat){v:XN}(k:ak c r v v'):au c r (x.setIfInBounds i v) (x'.setIfInBounds i v'):=by refine⟨by simp[h.size],λj u d a b=>?_⟩;rw[Wa]at a b;split at a;{simp_all};rw[if_neg ‹_›]at b;exact h.el j u d a b
theorem au.extract{x x':Array XN}(h:au c r x x')(i j:Nat):au c r (x.extract i j) (x'.extract i j):=by refine⟨by simp[h.size],λk u d a b=>?_⟩;rw[Array.getElem?_extract]at a b;rw[<-h.size]at b;split at a;{rw[if_pos ‹_›]at b;exact h.el _ u d a b};cases a
theorem au.single{v:XN}(k:ak c r v v'):au c r #[v] #[v']:=by refine⟨rfl,λi u d a b=>?_⟩;grind
theorem au.cells{v:XN}(k:ak c r v v'):au c r v.cells v'.cells:=by cases k with|agg s e=>exact⟨s,e⟩|bool b=>exact .single (.bool b)|int k n=>exact .single (.int k n)|string s=>exact .single (.string s)|gk=>exact .single .gk|ptr a=>exact .single (.ptr a)|il n m=>exact .single (.il n m)|cT a g=>exact .single (.cT a g)|slice n m a=>exact .single (.slice n m a)|kN=>exact .single .kN|map a=>exact .single (.map a)|func a b d e f=>exact .single (.func a b d e f)|nilFunc=>exact .single .nilFunc|nilIface=>exact .single .nilIface|iface t a=>exact .single (.iface t a)|tuple a b=>exact .single (.tuple a b)
theorem au.map{α:Type}(l:Array α)(f f':α->XN)(h:∀x∈l,ak c r (f x) (f' x)):au c r (l.map f) (l.map f'):=by refine⟨by simp,λi u d a b=>?_⟩;grind
theorem gG:ak c r XZ XZ:=.tuple rfl λi v a h=>by simp at h
theorem au.replicate(n:Nat){v:XN}(k:ak c r v v'):au c r (Array.replicate n v) (Array.replicate n v'):=by refine⟨by simp,λi u d a b=>?_⟩;grind
end rows
structure FI(c:ej)(r:bN)(e e':Yw):Prop where
 key:ak c r e.key e'.key
 val:ak c r e.val e'.val
 born:e'.born=e.born
inductive me(c:ej)(r:bN):Yd->Yd->Prop
 |cells{x x':Array XN}(t:XW)(fr:Nat×Nat):au c r x x'->me c r (.cells x t fr) (.cells x' t fr)
 |map{x x':Array Yw}(k:Nat):x.size=x'.size->(∀(i:Nat)(e e':Yw),x[i]?=XG e->x'[i]?=XG e'->FI c r e e')->me c r (.map x k) (.map x' k)
 |iter(s:ByteArray)(p:Nat):me c r (.stringIter s p) (.stringIter s p)
 |number{a a':Yl}(l:Bool):dm c r a a'->me c r (.number a l) (.number a' l)
inductive tt(c:ej)(r:bN)(b:Nat):Option Yd->Option Yd->Prop
 |seen{x x':Array XN}(t t':XW)(fr:Nat×Nat):c.seen b->x.size<=c.M7 b->x.size<=x'.size->(c.low b=0->t=t')/\(c.low b≠0->t=wT/\c.aN<=b)->(∀(i:Nat)(v v':XN),c.low b<=i->x[i]?=XG v->x'[i]?=XG v'->ak c r v v')->tt c r b (XG (.cells x t (0,x.size))) (XG (.cells x' t' fr))
 |own{o o':Yd}:¬c.seen b->me c r o o'->tt c r b (XG o) (XG o')
theorem FI.mono{c:ej}{r r':bN}(h:r.le r'){e e':Yw}(k:FI c r e e'):FI c r' e e':=⟨k.key.mono h,k.val.mono h,k.born⟩
theorem me.mono{c:ej}{r r':bN}(h:r.le r')(k:me c r o o'):me c r' o o':=by cases k with|cells t g k=>exact .cells t g (k.mono h)|map k s e=>exact .map k s λi d f a b=>(e i d f a b).mono h|iter s p=>exact .iter s p|number l a=>exact .number l (a.mono h)
theorem tt.mono{c:ej}{r r':bN}(h:r.le r'){o o':Option Yd}(k:tt c r b o o'):tt c r' b o o':=by cases k with|seen t g f s l z y e=>exact .seen t g f s l z y λi v j a b d=>(e i v j a b d).mono h|own n k=>exact .own n (k.mono h)
structure ef(c:ej)(r:bN)(w v:XP):Prop where
 qQ:∀b k:Nat,r b=XG k->b<w.heap.size
 Bc:∀b k:Nat,r b=XG k->k<v.heap.size
 inj:∀b b' k:Nat,r b=XG k->r b'=XG k->b=b'\/(c.seen b/\c.seen b')
 rJ:∀b:Nat,¬c.seen b->c.low b=0
 hid:∀b:Nat,b<c.aN->r b=XQ->w.heap[b]?=XG (.cells #[] 0)
 blk:∀b k:Nat,r b=XG k->tt c r b w.heap[b]? v.heap[k]?
 tape:v.tape=w.tape
 drawn:v.drawn=w.drawn
 old:∀b:Nat,c.seen b->b<w.heap.size
 aN:∀b k:Nat,r b=XG k->b<c.aN->b=k
 jQ:c.aN<=w.heap.size/\c.aN<=v.heap.size
structure Ext(c:ej)(r:bN)(w v:XP)(r':bN)(w' v':XP):Prop where
 rel:ef c r' w' v'
 le:r.le r'
 grow:w.heap.size<=w'.heap.size
 size:v'.heap.size+w.heap.size=v.heap.size+w'.heap.size
 ya:∀b:Nat,b<w.heap.size->r' b=r b
 new:∀b:Nat,w.heap.size<=b->b<w'.heap.size->r' b=XG (v.heap.size+(b-w.heap.size))
 keep:∀k:Nat,k<v.heap.size->(∀b:Nat,r b=XG k->c.seen b)->v'.heap[k]?=v.heap[k]?
 os:v'.os=v.os
 out:v'.output=v.output
 tape:v'.tape=v.tape
theorem Ext.refl{c:ej}{r:bN}(h:ef c r w v):Ext c r w v r w v:=⟨h,bN.le_refl r,U1 _,by omega,λ_ _=>rfl,λb _ _=>by omega,λ_ _ _=>rfl,rfl,rfl,rfl⟩
theorem Ext.trans{c:ej}{r r1 r2:bN}{w1 v1 w2 v2:XP}(h:Ext c r w v r1 w1 v1)(k:Ext c r1 w1 v1 r2 w2 v2):Ext c r w v r2 w2 v2:=by have n:=h.size;have o:=k.size;have g:=h.grow;have m:=k.grow;refine⟨k.rel,bN.le_trans h.le k.le,Vg g m,by omega,λb a=>(k.ya b (U2 a g)).trans (h.ya b a),λb a f=>?_,λj l i=>?_,k.os.trans h.os,k.out.trans h.out,k.tape.trans h.tape⟩;{rcases VI b w1.heap.size with e|d;{exact k.le _ _ (h.new b a e)};rw[k.new b d f];grind};rw[k.keep j Ω (λb a=>?_),h.keep j l i];refine i b ?_;rcases VI b w.heap.size with e|d;{rw[<-h.ya b e];exact a};have:=h.rel.qQ b j a;rw[h.new b d this]at a;grind
def ta(c:ej)(r:bN)(e:Ym):Prop:=
 (∃b:Nat,(match e.loc with|.cell a=>r b=XG a.block/\(c.seen b->a.off<c.M7 b/\a.spot=XQ)|.obj k=>r b=XG k/\¬c.seen b|_=>False)/\(e.write=XL->¬c.seen b)/\e.sync=XD)\/e.loc=.mark .noRoom\/∃f,e.loc=.mark (.extern f)
theorem ta.mono{c:ej}{r r':bN}(h:r.le r'){e:Ym}(x:ta c r e):ta c r' e:=by rcases x with⟨b,a,d⟩|x;{refine .inl ⟨b,?_,d⟩;revert a;cases e.loc<;>simp only[imp_self]<;>exactλx=>⟨h _ _ x.1,x.2⟩};exact .inr x
end
section
variable{c:ej}{r:bN}
def A4:Halt->Bool
 |.unsupported (.initOrder _)=>XD
 |.panic _|.stuck _|.unsupported _=>XL
 |_=>XD
def Out(P:XY)(c:ej)(r:bN)(w v:XP)(s:Yb β)(Q:bN->α->β->Prop):Yg α->Prop
 |.ok a w'=>∃b v' r',s.run P v=.ok b v'/\Ext c r w v r' w' v'/\Q r' a b/\∀e∈s.events P v #[],ta c r' e
 |.halt h _=>A4 h=XL
def ae(P:XY)(c:ej)(r:bN)(x:Yb α)(y:Yb β)(Q:bN->α->β->Prop):Prop:=∀w v,ef c r w v->Out P c r w v y Q (x.run P w)
theorem ae.mono{x:Yb α}{y:Yb β}{Q Q':bN->α->β->Prop}(h:ae P c r x y Q)(k:∀d a b,r.le d->Q d a b->Q' d a b):ae P c r x y Q':=by intro w v l;have:=h w v l;cases f:x.run P w with|halt _ _=>rw[f]at this;exact this|ok a n=>rw[f]at this;obtain⟨b,m,d,g,e,i,j⟩:=this;exact⟨b,m,d,g,e,k _ _ _ e.le i,j⟩
theorem ae.bind{x:Yb α}{y:Yb β}{f:α->Yb γ}{g:β->Yb δ}{Q:bN->α->β->Prop}{Q':bN->γ->δ->Prop}(h:ae P c r x y Q)(k:∀l a b,r.le l->Q l a b->ae P c l (f a) (g b) Q'):ae P c r (x>>=f) (y>>=g) Q':=by intro w v t;have i:=h w v t;rw[Yb.run_bind];cases p:x.run P w with|halt _ _=>rw[p]at i;exact i|ok a m=>rw[p]at i;obtain⟨b,F,D,s,n,B,A⟩:=i;have j:=k D a b n.le B m F n.rel;show Out P c r w v (y>>=g) Q' ((f a).run P m);cases o:(f a).run P m with|halt _ _=>rw[o]at j;exact j|ok z J=>rw[o]at j;obtain⟨u,G,E,H,q,C,I⟩:=j;refine⟨u,G,E,?_,n.trans q,C,λe d=>?_⟩;{simp_all};rw[Yb.events_bind,s,Yg.evThen_ok,Yb.events_acc]at d;rcases VG.1 d with d|d;{exact(A e d).mono q.le};simp_all
theorem ae.pure{a:α}{b:β}{Q:bN->α->β->Prop}(h:Q r a b):ae P c r (Pure.pure a) (Pure.pure b) Q:=λ_ v f=>⟨b,v,r,rfl,.refl f,h,λe d=>by simp at d⟩
theorem ae.halt{y:Yb β}{Q:bN->α->β->Prop}(a:A4 h=XL:=by rfl):ae P c r (Yb.halt h) y Q:=λ_ _ _=>a
theorem ae.stuck{s:String}{y:Yb β}{Q:bN->α->β->Prop}:ae P c r (Go.stuck s:Yb α) y Q:=λ_ _ _=>rfl
theorem ae.unsupported{u:Unsupported}{y:Yb β}{Q:bN->α->β->Prop}(a:A4 (.unsupported u)=XL:=by rfl):ae P c r (Go.unsupported u:Yb α) y Q:=λ_ _ _=>a
theorem ae.never{x:Yb α}{y:Yb β}{Q:bN->α->β->Prop}(h:∀w,∃k w',x.run P w=.halt k w'/\A4 k=XL):ae P c r x y Q:=by intro w v _;obtain⟨k,w',e,a⟩:=h w;rw[e];exact a
theorem ae.ite{b:Prop}[Decidable b]{x x':Yb α}{y y':Yb β}{Q:bN->α->β->Prop}(h:b->ae P c r x y Q)(a:¬b->ae P c r x' y' Q):ae P c r (if b then x else x') (if b then y else y') Q:=by by_cases e:b;{rw[if_pos e,if_pos e];exact h e};rw[if_neg e,if_neg e];exact a e
def bV(P:XY)(q:α->Prop):Yb α->Prop
 |.pure a=>q a
 |.choose _ k=>∀n,bV P q (k n)
 |.program k=>bV P q (k P)
 |.mark m k=>m=.noRoom/\bV P q k
 |.halt h=>A4 h=XL
 |_=>False
abbrev lF(P:XY):Yb α->Prop:=bV P λ_=>True
theorem bV.bind{q:α->Prop}{q':β->Prop}{x:Yb α}{f:α->Yb β}(h:bV P q x)(k:∀a,q a->bV P q' (f a)):bV P q' (x>>=f):=by induction x with|pure a=>exact k a h|choose _ g b=>exactλn=>b n (h n)|program g b=>exact b P h|mark m g b=>exact⟨h.1,b h.2⟩|halt z=>exact h|load _ _ _ _=>exact h.elim|store _ _ _ _ _=>exact h.elim|new _ _ _=>exact h.elim|shape _ _ _=>exact h.elim|freeze _ _ _ _=>exact h.elim|frozen _ _ _=>exact h.elim|getObj _ _ _=>exact h.elim|setObj _ _ _ _=>exact h.elim|sys _ _ _=>exact h.elim
theorem lF.bind{q':β->Prop}{x:Yb α}{f:α->Yb β}(h:lF P x)(k:∀a,bV P q' (f a)):bV P q' (x>>=f):=bV.bind h λa _=>k a
def So(P:XY)(q:α->Prop)(x:Yb α)(w v:XP):Prop:=
 (∃a d,q a/\x.run P w=.ok a {w with drawn:=d}/\x.run P v=.ok a {v with drawn:=d}/\∀e∈x.events P v #[],e.loc=.mark .noRoom)\/∃h w',x.run P w=.halt h w'/\A4 h=XL
theorem bV.run{q₀:α->Prop}{x:Yb α}(h:bV P q₀ x):∀(w v:XP),v.tape=w.tape->v.drawn=w.drawn->So P q₀ x w v:=by induction x with|pure a=>exactλw v _ f=>.inl ⟨a,w.drawn,h,rfl,by rw[<-f];rfl,λe l=>by simp at l⟩|choose q g j=>intro w v i f;have t:∀u:XP,(Yb.choose q g).run P u=if q.forced then(g 0).run P u else(g (q.cut (u.tape u.drawn q))).run P {u with drawn:=u.drawn+1}:=λ_=>rfl;(have y:∀u:XP,(Yb.choose q g).events P u #[]=if q.forced then(g 0).events P u #[]else(g (q.cut (u.tape u.drawn q))).events P {u with drawn:=u.drawn+1} #[]:=λu=>by simp only[Yb.events,Yb.runT];grind);unfold So;simp only[t,y];by_cases s:q.forced=XL;{simp only[s];exact j 0 (h 0) w v i f};obtain⟨B,F,E,C,D⟩:=v;rcases j (q.cut (w.tape w.drawn q)) (h _) {w with drawn:=w.drawn+1} ⟨B,w.tape,w.drawn+1,C,D⟩ rfl rfl with⟨a,d,n,o,p,A⟩|x;{simp_all};simp_all|program g j=>exactλw v i f=>j P h w v i f|mark m g j=>intro w v i f;rcases j h.2 w v i f with⟨a,d,n,o,p,A⟩|x;{refine .inl ⟨a,d,n,o,p,λe l=>?_⟩;have k:e∈g.events P v (#[].push ⟨.mark m,XD,XL⟩):=l;rw[Yb.events_acc]at k;rcases VG.1 k with x|x;{simp at x;rw[x,h.1]};simp_all};exact .inr x|halt z=>exactλw _ _ _=>.inr ⟨z,w,rfl,h⟩|load _ _ _ _=>exact h.elim|store _ _ _ _ _=>exact h.elim|new _ _ _=>exact h.elim|shape _ _ _=>exact h.elim|freeze _ _ _ _=>exact h.elim|frozen _ _ _=>exact h.elim|getObj _ _ _=>exact h.elim|setObj _ _ _ _=>exact h.elim|sys _ _ _=>exact h.elim
theorem ef.AS(h:ef c r w v)(d:Nat):ef c r {w with drawn:=d} {v with drawn:=d}:=⟨h.qQ,h.Bc,h.inj,h.rJ,h.hid,h.blk,h.tape,rfl,h.old,h.aN,h.jQ⟩
theorem ae.eV{q:α->Prop}{x:Yb α}(h:bV P q x):ae P c r x x λ_ a b=>b=a/\q a:=by intro w v f;rcases h.run w v f.tape f.drawn with⟨a,d,g,i,j,l⟩|⟨k,s,e,p⟩;{rw[i];refine⟨a,_,r,j,?_,⟨rfl,g⟩,λe o=>.inr (.inl (l e o))⟩;exact⟨f.AS d,bN.le_refl r,U1 _,rfl,λ_ _=>rfl,λb m n=>absurd n (Nat.not_lt.2 m),λ_ _ _=>rfl,rfl,rfl,rfl⟩};rw[e];exact p
theorem ae.cE{x:Yb α}(h:lF P x):ae P c r x x λ_ a b=>b=a:=(ae.eV h).mono λ_ _ _ _ h=>h.1
theorem vo(a:α):lF P (Pure.pure a):=trivial
theorem lE:lF P program:=trivial
theorem iA(q:Yx):lF P (choose q):=λ_=>trivial
theorem dq(t:XW):lF P (typeInfo t):=by refine lF.bind lE λp=>?_;split<;>first|trivial|exact rfl
theorem aE(t:XW):lF P (underlying t):=by refine lF.bind lE λp=>?_;split<;>first|trivial|exact rfl
theorem bE(t:XW):lF P (sizeOf t):=(dq t).bind λ_=>trivial
theorem nW(t:XW):lF P (isAgg t):=(aE t).bind λd=>by split<;>first|trivial|exact rfl
theorem pI(n:Nat):lF P (askRoom n):=by unfold askRoom;split;{exact⟨rfl,trivial⟩};trivial
end
section
variable{c:ej}{r:bN}
theorem ef.at(h:ef c r w v)(b:dm c r a a'):tt c r a.block w.heap[a.block]? v.heap[a'.block]?:=h.blk _ _ b.1
theorem ef.cell(h:ef c r w v)(g:dm c r a a')(b:w.cell? a=XG x):∃y,v.cell? a'=XG y/\ak c r x y:=by have d:=h.at g;obtain⟨_,m,o,i⟩:=g;unfold XP.cell? at b⊢;generalize q:w.heap[a.block]?=C at d b;generalize p:v.heap[a'.block]?=B at d;cases d with|@seen z D t A j s l u _ e=>grind|own n k=>cases k with|cells t j k=>simp only[o,m]at b⊢;split at b;{cases b};rename_i f;rw[if_neg f];exact k.get b|map _ _ _=>cases b|iter _ _=>cases b|number _ _=>cases b
theorem ef.UG(h:ef c r w v)(g:dm c r a a')(_:w.cell? a=XQ)(d:Bool):∃k,w.farLoad P a d=.error k/\A4 k=XL:=by have f:=h.at g;unfold XP.farLoad;generalize b:w.heap[a.block]?=p at f;generalize i:v.heap[a'.block]?=o at f;cases f with|seen t m j s l _ _ e=>exact⟨_,rfl,by simp only[XP.noCell,b];rfl⟩|own n k=>cases k<;>exact⟨_,rfl,by simp only[XP.noCell,b];rfl⟩
theorem ef.within(h:ef c r w v)(f:dm c r a a')(b:w.cell? a=XG x):c.seen a.block->a'.off<c.M7 a.block/\a'.spot=XQ:=by intro u;have d:=h.at f;obtain⟨_,q,i,-⟩:=f;unfold XP.cell? at b;generalize m:w.heap[a.block]?=A at d b;generalize j:v.heap[a'.block]?=z at d;cases d with|seen t y o s l _ _ e=>simp only at b;split at b;{cases b};have p:=(U3.1 b).1;exact⟨by omega,by simp_all⟩|own n k=>simp_all
theorem ae.load(d:dm c r a a'):ae P c r (load a) (load a') (ak c):=by intro w v f;unfold Go.load;cases b:w.cell? a with|none=>obtain⟨k,e,j⟩:=f.UG (P:=P) d b (Mode.plain==Mode.atomic);(have:(Yb.load .plain a Yb.pure).run P w=.halt k w:=by simp only[Yb.run,b,e]);rw[this];exact j|some x=>obtain⟨y,i,k⟩:=f.cell d b;(have:(Yb.load .plain a Yb.pure).run P w=.ok x w:=by simp only[Yb.run,b]);rw[this];refine⟨y,v,r,by simp only[Yb.run,i],.refl f,k,λe g=>?_⟩;(have h:(Yb.load .plain a' Yb.pure).events P v #[]=#[⟨.cell a',XD,XD⟩]:=by simp only[Yb.events,Yb.runT,i];rfl);rw[h]at g;simp at g;subst g;exact .inl ⟨a.block,⟨d.1,f.within d b⟩,by simp,rfl⟩
theorem ef.wJ(h:ef c r w v)(j:dm c r a a')(b:w.cell? a=XG x)(g:w.frozen? a=XD):∃(z i:Array XN)(t:XW)(d:Nat×Nat),¬c.seen a.block/\w.heap[a.block]?=XG (.cells z t d)/\v.heap[a'.block]?=XG (.cells i t d)/\au c r z i/\a.spot.isSome=XD:=by have f:=h.at j;unfold XP.cell? at b;unfold XP.frozen? at g;generalize o:w.heap[a.block]?=u at f b g;generalize m:v.heap[a'.block]?=q at f;cases f with|seen t p d s l _ _ e=>simp_all|own n k=>cases k with|cells t d k=>grind|map _ _ _=>cases b|iter _ _=>cases b|number _ _=>cases b
theorem heap_setCell(w:XP)(a:Yl)(x:XN):(w.setCell a x).heap.size=w.heap.size:=by simp[XP.setCell]
theorem lR(w:XP)(a:Yl)(x:XN)(h:b≠a.block):(w.setCell a x).heap[b]?=w.heap[b]?:=by simp[XP.setCell,VX,Ne.symm h]
theorem lV(w:XP)(x:XN){z:Array XN}{fr:Nat×Nat}(h:w.heap[a.block]?=XG (.cells z t fr))(b:a.spot.isSome=XD):(w.setCell a x).heap[a.block]?=XG (.cells (z.setIfInBounds a.off x) t fr):=by simp[XP.setCell,VX,h,b]
theorem Ext.QL{w' v':XP}(h:ef c r w v)(p:r b=XG k)(q:¬c.seen b)(D:w'.heap[b]?=XG o)(C:v'.heap[k]?=XG o')(A:me c r o o')(f:w'.heap.size=w.heap.size)(i:v'.heap.size=v.heap.size)(m:∀j,j≠b->w'.heap[j]?=w.heap[j]?)(s:∀j,j≠k->v'.heap[j]?=v.heap[j]?)(n:v'.tape=v.tape)(t:w'.tape=w.tape)(u:v'.drawn=w'.drawn)(y:v'.os=v.os)(z:v'.output=v.output):Ext c r w v r w' v':=by refine⟨⟨λj l a=>f▸h.qQ j l a,λj l a=>i▸h.Bc j l a,h.inj,h.rJ,λj a B=>by rw[m j (λe=>by simp_all)];exact h.hid j a B,λj l a=>?_,by rw[n,t,h.tape],u,λj a=>by rw[f];exact h.old j a,h.aN,by rw[f,i];exact h.jQ⟩,bN.le_refl r,by omega,by omega,λ_ _=>rfl,λj _ _=>by omega,λl F E=>?_,y,z,n⟩;{by_cases d:j=b;{subst d;rw[p]at a;cases a;rw[D,C];exact .own q A};have g:l≠k:=λe=>d ((h.inj _ _ _ (e▸a) p).resolve_right λx=>q x.2);rw[m j d,s l g];exact h.blk j l a};grind
theorem ak.one(h:ak c r x y):y.oneCell'=x.oneCell':=by cases h<;>rfl
theorem ae.store(b:dm c r a a')(q:ak c r x y):ae P c r (store a x) (store a' y) λ_ _ _=>True:=by intro w v f;unfold Go.store;by_cases B:x.oneCell'=XL;{(have C:y.oneCell'=XL:=by rw[q.one,B]);(have e:∀(u:XP)(p:Yl)(z:XN),z.oneCell'=XL->(Yb.store .plain p z (.pure ())).run P u=match u.cell? p with|some _=>if u.frozen? p then .halt (.unsupported (.unsafePointer "a write to bytes that a string shares")) u else .ok () (u.setCell p z)|none=>match u.farStore P p z XD with|.ok (U,_)=>.ok () U|.error h=>.halt h u:=by intro u p z H;cases z<;>first|(simp[XN.oneCell']at H;done)|(rfl));rw[e w a x B];cases L:w.cell? a with|none=>have D:=f.at b;(have:∃k,w.farStore P a x XD=.error k/\A4 k=XL:=by unfold XP.farStore;generalize o:w.heap[a.block]?=Y at D;generalize S:v.heap[a'.block]?=X at D;cases D with|seen t W K s l _ _ e=>exact⟨_,rfl,by simp only[XP.noCell,o];rfl⟩|own n k=>cases k<;>exact⟨_,rfl,by simp only[XP.noCell,o];rfl⟩);obtain⟨k,N,Q⟩:=this;simp only[N];exact Q|some Z=>simp only;cases A:w.frozen? a with|true=>rfl|false=>obtain⟨z,z',t,K,d,I,J,H,i⟩:=f.wJ b L A;obtain⟨y0,T,_⟩:=f.cell b L;(have m:a'.spot.isSome=XD:=by rw[b.2.2.1];exact i);(have O:v.frozen? a'=XD:=by unfold XP.frozen? at A⊢;rw[I]at A;rw[J];simp only[b.2.1];exact A);have g:=H.set a.off q;refine⟨(),v.setCell a' y,r,?_,?_,trivial,λV E=>?_⟩;{simp_all};{refine Ext.QL f b.1 d (lV w x I i) (lV v y J m) ?_ (heap_setCell _ _ _) (heap_setCell _ _ _) (λj G=>lR w a x G) (λj G=>lR v a' y G) rfl rfl f.drawn rfl rfl;rw[b.2.1];exact .cells t K g};(have F:(Yb.store .plain a' y (.pure ())).events P v #[]=#[⟨.cell a',XL,XD⟩]:=by have:=events_store P v #[] a' y .plain C;unfold Go.store at this;simp_all);rw[F]at E;simp at E;subst E;exact .inl ⟨a.block,⟨b.1,λR=>absurd R d⟩,λ_=>d,rfl⟩};refine ae.never (P:=P) (c:=c) (r:=r) (λu=>?_) w v f;cases x<;>first|(simp[XN.oneCell']at B;done)|exact⟨_,_,rfl,rfl⟩
def bN.add(r:bN)(b k:Nat):bN:=λj=>if j=b then XG k else r j
theorem Ext.alloc(h:ef c r w v)(n:me c r o o'):Ext c r w v (r.add w.heap.size v.heap.size) {w with heap:=w.heap.push o} {v with heap:=v.heap.push o'}:=by have p:=λx=>Vo _ (h.old _ x);(have f:r.le (r.add w.heap.size v.heap.size):=by intro b k a;have:=h.qQ b k a;unfold bN.add;grind);refine⟨⟨λb k a=>?_,λb k a=>?_,λb q k a d=>?_,h.rJ,λb i a=>?_,λb k a=>?_,h.tape,h.drawn,λb a=>by have:=h.old b a;simp;omega,λb k a i=>?_,by have:=h.jQ;simp;omega⟩,f,by simp,by simp;omega,λb a=>by unfold bN.add;grind,λb a d=>?_,λk s _=>?_,rfl,rfl,rfl⟩;{unfold bN.add at a;simp;split at a;{omega};have:=h.qQ b k a;omega};{unfold bN.add at a;simp;split at a;{simp_all};have:=h.Bc b k a;omega};{unfold bN.add at a d;split at a<;>split at d;{omega};{cases a;have:=h.Bc _ _ d;omega};{cases d;have:=h.Bc _ _ a;omega};exact h.inj _ _ _ a d};{have m:=U2 i h.jQ.1;unfold bN.add at a;rw[if_neg Ω]at a;rw[Vw,if_neg Ω];exact h.hid b i a};{unfold bN.add at a;split at a;{rename_i e;subst e;cases a;simp only[Array.getElem?_push_size];exact .own p (n.mono f)};have j:=h.qQ b k a;have l:=h.Bc b k a;rw[X6 j,X6 l,<-Ve j,<-Ve l];exact(h.blk b k a).mono f};{unfold bN.add at a;have:=h.jQ;split at a;{omega};exact h.aN b k a i};{unfold bN.add;grind};grind
theorem bN.IS(r:bN)(b k:Nat):r.add b k b=XG k:=by unfold bN.add;simp
theorem ae.newObj(f:me c r o o'):ae P c r (newObj o) (newObj o') λg b d=>g b=XG d/\c.low b=0:=by intro w v a;refine⟨v.heap.size,_,_,rfl,Ext.alloc a f,⟨bN.IS _ _ _,a.rJ _ λx=>Vo _ (a.old _ x)⟩,λe h=>?_⟩;simp_all
theorem ae.newRow{x x':Array XN}(h:au c r x x'):ae P c r (newRow t x) (newRow t x') (dm c):=by refine ae.bind (ae.newObj (.cells t (0,0) h)) λe b d _ a=>ae.pure ⟨a.1,rfl,rfl,VL a.2⟩
theorem ae.newVar(h:ak c r x x'):ae P c r (newVar t x) (newVar t x') (dm c):=ae.newRow (au.cells h)
theorem dm.add{a a':Yl}(h:dm c r a a')(n:Nat):dm c r (a.add n) (a'.add n):=by unfold Yl.add;split;{exact h};exact⟨h.1,by simp[h.2.1],rfl,Vg h.2.2.2 (V1 _ _)⟩
theorem ae.loadCellsFrom(n:Nat):∀{r:bN}{a a':Yl}(i:Nat){acc acc':Array XN},dm c r a a'->au c r acc acc'->ae P c r (loadCellsFrom a i n acc) (loadCellsFrom a' i n acc') (au c):=by induction n with|zero=>intro r a a' i acc acc' e b;exact ae.pure b|succ n g=>intro r a a' i acc acc' e b;exact ae.bind (ae.load (e.add i)) λh x j d f=>g (i+1) (e.mono d) ((b.mono d).push f)
theorem ae.loadCells(b:dm c r a a')(n:Nat):ae P c r (loadCells a n) (loadCells a' n) (au c):=ae.loadCellsFrom n 0 b .empty
theorem ae.II(i:Fits P c){g:Nat}(b:g<c.aN)(o:Nat):ae P c r (Go.load ⟨g,o,XQ⟩) (Go.load ⟨g,o,XQ⟩) (ak c):=by intro w v f;cases d:r g with|some k=>obtain rfl:=f.aN g k d b;exact ae.load ⟨d,rfl,rfl,Vg (VL (i.low g b)) (Vu _)⟩ w v f|none=>have h:=f.hid g b d;(have e:(Go.load ⟨g,o,XQ⟩).run P w=.halt (.stuck "load: no such cell") w:=by simp[Yb.run,XP.cell?,XP.farLoad,XP.noCell,h]);rw[e];exact rfl
theorem ae.uu(f:Fits P c){g:Nat}(h:g<c.aN)(n:Nat):∀{r:bN}(i:Nat){acc acc':Array XN},au c r acc acc'->ae P c r (Go.loadCellsFrom ⟨g,0,XQ⟩ i n acc) (Go.loadCellsFrom ⟨g,0,XQ⟩ i n acc') (au c):=by induction n with|zero=>intro r i acc acc' a;exact ae.pure a|succ n k=>intro r i acc acc' a;(have e:(⟨g,0,XQ⟩:Yl).add i=⟨g,0+i,XQ⟩:=by unfold Yl.add;simp_all);unfold Go.loadCellsFrom;rw[e];exact ae.bind (ae.II f h _) λl x m b j=>k (i+1) ((a.mono b).push j)
theorem ae.IJ(a:Fits P c){g:Nat}(d:g<c.aN)(t:XW):ae P c r (Go.loadVar t ⟨g,0,XQ⟩) (Go.loadVar t ⟨g,0,XQ⟩) (ak c):=by refine ae.bind (ae.cE (nW t)) λp b f k h=>?_;subst h;cases f with|false=>exact ae.II a d 0|true=>refine ae.bind (ae.cE (bE t)) λq n o l i=>?_;subst i;exact ae.bind (ae.uu a d _ 0 .empty) λs x u m j=>ae.pure (.tD j)
theorem ae.storeCells:∀{r:bN}{a a':Yl}{l l':List XN}(i:Nat),dm c r a a'->au c r l.toArray l'.toArray->ae P c r (storeCells a l i) (storeCells a' l' i) λ_ _ _=>True|r,a,a',[],[],i,b,h=>ae.pure trivial|r,a,a',[],_::_,i,b,h=>by have:=h.size;grind|r,a,a',_::_,[],i,b,h=>by have:=h.size;grind|r,a,a',x::l,g::l',i,b,h=>by refine ae.bind (ae.store (b.add i) (h.el 0 x g Θ Θ)) λm _ _ d _=>?_;refine ae.storeCells (i+1) (b.mono d) ((⟨?_,λj u f k e=>?_⟩:au c r l.toArray l'.toArray).mono d);{have:=h.size;simp_all};exact h.el (j+1) u f (by simp_all) (by simp_all)
theorem ae.loadVar(t:XW)(d:dm c r a a'):ae P c r (loadVar t a) (loadVar t a') (ak c):=by refine ae.bind (ae.cE (nW t)) λm g e b h=>?_;subst h;cases e with|false=>exact ae.load (d.mono b)|true=>refine ae.bind (ae.cE (bE t)) λo n l f i=>?_;subst i;exact ae.bind (ae.loadCells ((d.mono b).mono f) _) λp x q k j=>ae.pure (.tD j)
theorem ae.storeVar(t:XW)(j:dm c r a a')(h:ak c r x x'):ae P c r (storeVar t a x) (storeVar t a' x') λ_ _ _=>True:=by refine ae.bind (ae.cE (bE t)) λg n d f k=>?_;subst k;have l:=(au.cells h).size;have b:ae P c g (Go.storeCells a x.cells.toList) (Go.storeCells a' x'.cells.toList) λ_ _ _=>True:=ae.storeCells 0 (j.mono f) (by simpa using(au.cells h).mono f);rw[<-l];by_cases e:x.cells.size≠d;{rw[if_pos e,if_pos e];exactλ_ _ _=>rfl};rw[if_neg e,if_neg e];exact b
theorem ae.getObj{b':Nat}(D:r b=XG b'){k:Yd->Yb α}{k':Yd->Yb β}{Q:bN->α->β->Prop}(G:∀o o',¬c.seen b->me c r o o'->(∀x t f,o≠.cells x t f)->ae P c r (k o) (k' o') Q):ae P c r (getObj b>>=k) (getObj b'>>=k') Q:=by intro w v E;have F:=E.blk b b' D;rw[Yb.run_bind];(have C:∀(u:XP)(j:Nat),(Go.getObj j).run P u=match u.heap[j]? with|some (.cells ..)=>.halt (.stuck "getObj: a row of cells") u|some o=>.ok o u|none=>.halt (.stuck "getObj: no such block") u:=by intro u j;unfold Go.getObj;simp only[Yb.run];rfl);rw[C];generalize O:w.heap[b]?=U at F;generalize g:v.heap[b']?=T at F;cases F with|seen _ _ _ _ _ _ _ _=>exact rfl|own n N=>rename_i o o';cases N with|cells t S _=>exact rfl|map R L M=>have:=G _ _ n (.map R L M) (λ_ _ _ h=>by cases h) w v E;revert this;show Out P c r w v _ Q ((k _).run P w)->Out P c r w v _ Q ((k _).run P w);(cases(k _).run P w with|halt _ _=>exactλh=>h|ok a J=>rintro⟨q,B,A,H,i,z,I⟩;refine⟨q,B,A,by simp_all,i,z,λe d=>?_⟩;rw[Yb.events_bind,C,g]at d;(have y:(Go.getObj b').events P v #[]=#[⟨.obj b',XD,XD⟩]:=by simp[Go.getObj,Yb.events,Yb.runT,g,Yd.isChan,-Yb.runT_eq]);simp only[Yg.evThen_ok]at d;rw[Yb.events_acc,y]at d;rcases VG.1 d with d|d;{simp at d;subst d;exact .inl ⟨b,⟨i.le _ _ D,n⟩,by simp,rfl⟩};simp_all)|iter s p=>have:=G _ _ n (.iter s p) (λ_ _ _ h=>by cases h) w v E;revert this;show Out P c r w v _ Q ((k _).run P w)->Out P c r w v _ Q ((k _).run P w);(cases(k _).run P w with|halt _ _=>exactλh=>h|ok a J=>rintro⟨q,B,A,H,i,z,I⟩;refine⟨q,B,A,by simp_all,i,z,λe d=>?_⟩;rw[Yb.events_bind,C,g]at d;(have y:(Go.getObj b').events P v #[]=#[⟨.obj b',XD,XD⟩]:=by simp[Go.getObj,Yb.events,Yb.runT,g,Yd.isChan,-Yb.runT_eq]);simp only[Yg.evThen_ok]at d;rw[Yb.events_acc,y]at d;rcases VG.1 d with d|d;{simp at d;subst d;exact .inl ⟨b,⟨i.le _ _ D,n⟩,by simp,rfl⟩};simp_all)|number l K=>have:=G _ _ n (.number l K) (λ_ _ _ h=>by cases h) w v E;revert this;show Out P c r w v _ Q ((k _).run P w)->Out P c r w v _ Q ((k _).run P w);cases(k _).run P w with|halt _ _=>exactλh=>h|ok a J=>rintro⟨q,B,A,H,i,z,I⟩;refine⟨q,B,A,by simp_all,i,z,λe d=>?_⟩;rw[Yb.events_bind,C,g]at d;(have y:(Go.getObj b').events P v #[]=#[⟨.obj b',XD,XD⟩]:=by simp[Go.getObj,Yb.events,Yb.runT,g,Yd.isChan,-Yb.runT_eq]);simp only[Yg.evThen_ok]at d;rw[Yb.events_acc,y]at d;rcases VG.1 d with d|d;{simp at d;subst d;exact .inl ⟨b,⟨i.le _ _ D,n⟩,by simp,rfl⟩};simp_all
theorem ae.setObj{b':Nat}(i:r b=XG b')(z:¬c.seen b)(A:me c r o o')(I:o.isChan=XD):ae P c r (setObj b o) (setObj b' o') λ_ _ _=>True:=by intro w v k;have m:=k.blk b b' i;(have C:∀(u:XP)(j:Nat)(o:Yd),(Go.setObj j o).run P u=match u.heap[j]? with|some (.cells ..)=>.halt (.stuck "setObj: a row of cells") u|some _=>.ok () {u with heap:=u.heap.setIfInBounds j o}|none=>.halt (.stuck "setObj: no such block") u:=by intro u j o;rfl);rw[C];have n:=k.qQ b b' i;have y:=k.Bc b b' i;(have E:o'.isChan=XD:=by cases A<;>rfl);generalize H:w.heap[b]?=K at m;generalize g:v.heap[b']?=J at m;(have d:∀q,v.heap[b']?=XG q->(∀x t f,q≠.cells x t f)->q.isChan=XD->Out P c r w v (Go.setObj b' o') (λ_ _ _=>True) (.ok () {w with heap:=w.heap.setIfInBounds b o}):=by intro q F G B;refine⟨(),{v with heap:=v.heap.setIfInBounds b' o'},r,?_,?_,trivial,λe p=>?_⟩;{simp_all};{exact Ext.QL k i z (by simp[n]) (by simp[y]) A Θ Θ (λj s=>Vt (Ne.symm s)) (λj s=>Vt (Ne.symm s)) rfl rfl k.drawn rfl rfl};(have D:(Go.setObj b' o').events P v #[]=#[⟨.obj b',XL,XD⟩]:=by unfold Go.setObj;simp only[Yb.events,Yb.runT,F];simp_all);rw[D]at p;simp at p;subst p;exact .inl ⟨b,⟨i,z⟩,λ_=>z,rfl⟩);cases m with|seen _ _ _ x _ _ _ _=>rfl|own _ h=>cases h with|cells _ _ _=>exact rfl|map _ _ _=>exact d _ g (λ_ _ _ h=>by cases h) rfl|iter _ _=>exact d _ g (λ_ _ _ h=>by cases h) rfl|number _ _=>exact d _ g (λ_ _ _ h=>by cases h) rfl
end
section
variable{c:ej}{r:bN}
def Flat(v:XN):Prop:=∀(c:ej)(r:bN),ak c r v v
theorem Flat.int(k:XU)(n:Int):Flat (.int k n):=λ_ _=>.int k n
theorem Flat.bool(b:Bool):Flat (.bool b):=λ_ _=>.bool b
theorem Flat.string(s:ByteArray):Flat (.string s):=λ_ _=>.string s
def jv:Nat->XN->Bool
 |0,_=>XD
 |_+1,.bool _|_+1,.int _ _|_+1,.string _|_+1,.pointer XQ|_+1,.slice XQ _ _|_+1,.map XQ|_+1,.nilFunc|_+1,.nilIface=>XL
 |n+1,.agg x|n+1,.tuple x=>x.all (jv n)
 |_,_=>XD
theorem im:∀{n:Nat}{v:XN},jv n v=XL->Flat v|0,_,h=>by simp[jv]at h|n+1,v,h=>by intro c r;cases v with|bool b=>exact .bool b|int k n=>exact .int k n|float _ _=>simp[jv]at h|complex _ _ _=>simp[jv]at h|string s=>exact .string s|pointer a=>(cases a with|none=>exact .gk|some _=>simp[jv]at h)|slice a n m=>(cases a with|none=>exact .il n m|some _=>simp[jv]at h)|map a=>(cases a with|none=>exact .kN|some _=>simp[jv]at h)|chan _=>simp[jv]at h|func _ _ _=>simp[jv]at h|nilFunc=>exact .nilFunc|iface _ _=>simp[jv]at h|nilIface=>exact .nilIface|agg x=>simp only[jv,Array.all_eq_true]at h;refine .agg rfl λi v f a b=>?_;rw[a]at b;cases b;obtain⟨e,rfl⟩:=U3.1 a;exact im (h i e) c r|tuple x=>simp only[jv,Array.all_eq_true]at h;refine .tuple rfl λi v f a b=>?_;rw[a]at b;cases b;obtain⟨e,rfl⟩:=U3.1 a;exact im (h i e) c r
theorem ae.flat{x:Yb XN}(h:bV P Flat x):ae P c r x x (ak c):=(ae.eV h).mono λd a b _⟨e,h⟩=>by subst e;exact h c d
theorem bS:bV P (λp=>p=P) program:=rfl
theorem jF(t:XW):bV P (λi=>P.info? t=XG i) (typeInfo t):=by refine bV.bind bS λp a=>?_;subst a;cases h:p.info? t with|none=>exact rfl|some i=>exact rfl
theorem tH(t:XW)(a:∀z,(P.info? t).bind (·.zero)=XG z->Flat z):bV P Flat (zeroValue t):=by refine bV.bind (jF t) λi b=>?_;cases h:i.zero with|none=>exact rfl|some v=>exact a v (by grind)
theorem nO(a:BinOp)(k:XU)(x y:Int):bV P Flat (Op.intArith a k x y):=by unfold Op.intArith;split<;>first|exact .int _ _|exact rfl
theorem zd(a:BinOp)(k:XU)(x y:Int):bV P Flat (Op.intDiv a k x y):=by unfold Op.intDiv;split;{rfl};split<;>first|exact .int _ _|exact rfl
theorem oW(a:BinOp)(k:XU)(x y:Int):bV P Flat (Op.intBits a k x y):=by unfold Op.intBits;split<;>first|exact .int _ _|exact rfl
theorem x5(a:BinOp)(x y:Int):bV P Flat (Op.intCmp a x y):=by unfold Op.intCmp;split<;>first|exact .bool _|exact rfl
theorem uF(a:BinOp)(k b:XU)(x y:Int):bV P Flat (Op.shift a k x b y):=by unfold Op.shift;split;{rfl};split<;>first|exact .int _ _|exact rfl
theorem kq(a:BinOp)(x y:ByteArray):bV P Flat (Op.stringOp a x y):=by unfold Op.stringOp;split<;>first|exact .bool _|exact rfl|(split<;>first|exact .string _|exact rfl)
theorem kg{q:α->Prop}(s:String):bV P q (Go.stuck s):=rfl
theorem pj{q:α->Prop}{b:Prop}[Decidable b]{x y:Yb α}(a:bV P q x)(d:bV P q y):bV P q (if b then x else y):=by grind
theorem mA(d:BinOp)(t:XW)(k j:XU)(a b:Int):bV P Flat (binOp d t (.int k a) (.int j b)):=by cases d<;>first|exact uF .shl k j a b|exact uF .shr k j a b|exact pj (kg _) (nO _ _ _ _)|exact pj (kg _) (zd _ _ _ _)|exact pj (kg _) (oW _ _ _ _)|exact pj (kg _) (x5 _ _ _)
theorem j8(d:BinOp)(t:XW)(a b:ByteArray):bV P Flat (binOp d t (.string a) (.string b)):=by(have:binOp d t (.string a) (.string b)=Op.stringOp d a b:=by cases d<;>rfl);rw[this];exact kq _ _ _
theorem ae.asBool(h:ak c r x x'):ae P c r (asBool x) (asBool x') λ_ a b=>b=a:=by cases h<;>first|exact ae.pure rfl|exact ae.stuck
theorem ae.asIntOf(h:ak c r x x'):ae P c r (asIntOf x) (asIntOf x') λ_ a b=>b=a:=by cases h<;>first|exact ae.pure rfl|exact ae.stuck|exact ae.unsupported
theorem ae.asInt(h:ak c r x x'):ae P c r (asInt x) (asInt x') λ_ a b=>b=a:=ae.bind (ae.asIntOf h) λ_ a b _ e=>ae.pure (by rw[e])
theorem ae.asAgg(h:ak c r x x'):ae P c r (asAgg x) (asAgg x') (au c):=by cases h with|agg a b=>exact ae.pure ⟨a,b⟩|_=>exact ae.stuck
def gf(P:XY)(x:Yb α):Prop:=∀w h w',x.run P w=.halt h w'->A4 h=XL
def kP(P:XY)(x:Yb α):Prop:=∀w,∃k w',x.run P w=.halt k w'/\A4 k=XL
theorem bV.yJ{q:α->Prop}{x:Yb α}(h:bV P q x):gf P x:=by intro w k j e;rcases h.run w w rfl rfl with⟨a,d,_,b,_⟩|⟨i,f,b,g⟩;{simp_all};simp_all
theorem gf.bind{x:Yb α}{f:α->Yb β}(d:gf P x)(h:∀a,gf P (f a)):gf P (x>>=f):=by intro w k j e;rw[Yb.run_bind]at e;cases b:x.run P w with|halt i g=>rw[b]at e;cases e;exact d _ _ _ b|ok a g=>rw[b]at e;exact h a _ _ _ e
theorem dF{x:Yb α}{f:α->Yb β}(e:gf P x)(h:∀a,kP P (f a)):kP P (x>>=f):=by intro w;rw[Yb.run_bind];cases d:x.run P w with|halt k b=>exact⟨k,b,rfl,e _ _ _ d⟩|ok a b=>exact h a b
theorem gw{x:Yb α}{f:α->Yb β}(h:kP P x):kP P (x>>=f):=by intro w;obtain⟨k,b,e,a⟩:=h w;simp_all
theorem eO(a:A4 h=XL:=by rfl):kP P (Yb.halt h:Yb α):=λw=>⟨h,w,rfl,a⟩
theorem rq(o:Yd):gf P (newObj o):=λ_ _ _ e=>by cases e
theorem dr(a:α):gf P (Pure.pure a:Yb α):=λ_ _ _ e=>by cases e
theorem AT(b:Nat):gf P (shape b):=λ_ _ _ e=>by cases e
theorem Aq(a:Yl):gf P (frozen a):=λ_ _ _ e=>by cases e
theorem q7(t:XW):lF P (elemOf t):=(aE t).bind λd=>by cases d<;>first|trivial|exact rfl
theorem dC(e:RuntimeError):kP P (runtimePanic e:Yb α):=by refine dF lE.yJ λp=>?_;cases e with|typeAssertion i q a m=>exact dF (q7 _).yJ λz=>dF ((rq _).bind λ_=>dr _) λ_=>eO|panicNil=>exact dF (q7 _).yJ λz=>dF ((rq _).bind λ_=>dr _) λ_=>eO|_=>exact eO
theorem ae.runtimePanic{y:Yb β}{Q:bN->α->β->Prop}:ae P c r (Go.runtimePanic e:Yb α) y Q:=ae.never (dC e)
theorem qb(k:XU)(x y:Int)(a:BoundsCode):kP P (boundsPanic k x y a:Yb α):=by unfold boundsPanic;split;{exact dF ((iA _).bind λ_=>vo _).yJ λ_=>dC _};exact dF (vo _).yJ λ_=>dC _
theorem ae.boundsPanic{k:XU}{n m:Int}{code:BoundsCode}{y:Yb β}{Q:bN->α->β->Prop}:ae P c r (Go.boundsPanic k n m code:Yb α) y Q:=ae.never (qb k n m code)
theorem ae.sureAddr(h:ak c r x x'):ae P c r (Instr.sureAddr x) (Instr.sureAddr x') (dm c):=by cases h with|ptr h=>exact ae.pure h|_=>exact ae.stuck
theorem ae.asAddr(h:ak c r x x'):ae P c r (asAddr x) (asAddr x') (dm c):=by cases h with|ptr h=>exact ae.pure h|gk=>exact ae.runtimePanic (e:=.nilDeref)|_=>exact ae.stuck
theorem ae.part(t:XW)(off:Nat){x x':Array XN}(h:au c r x x'):ae P c r (part t x off) (part t x' off) (ak c):=by refine ae.bind (ae.cE (nW t)) λm g f a j=>?_;subst j;cases f with|true=>exact ae.bind (ae.cE (bE t)) λp n o i l=>by subst l;exact ae.pure (.tD (((h.mono a).mono i).extract _ _))|false=>cases e:x[off]? with|none=>exact ae.stuck|some v=>obtain⟨q,d,k⟩:=(h.mono a).get e;rw[d];exact ae.pure k
theorem EM(t:XW)(d:∀z,(P.info? t).bind (·.zero)=XG z->Flat z):ae P c r (Instr.alloc t XL (.tuple #[])) (Instr.alloc t XL (.tuple #[])) (ak c):=by refine ae.bind (ae.flat (tH t d)) λg z j f d=>?_;exact ae.bind (ae.newVar d) λi a e _ h=>ae.pure (.ptr h)
theorem Jf(t:XW)(h:ak c r x x'):ae P c r (Instr.box t x) (Instr.box t x') (ak c):=ae.bind (ae.newVar h) λe a d _ h=>ae.pure (.ptr h)
theorem zm(d:Nat->Option (Nat×Nat)):∀(l q:List (Nat×XN)){z z':Array XN},au c r z z'->l.map (·.1)=q.map (·.1)->au c r (l.map (·.2)).toArray (q.map (·.2)).toArray->
 match Instr.fill d z l with|some y=>∃I,Instr.fill d z' q=XG I/\au c r y I|none=>True
 |[],[],z,z',h,_,_=>⟨z',rfl,h⟩
 |[],_::_,_,_,_,e,_=>by simp at e
 |_::_,[],_,_,_,e,_=>by simp at e
 |(i,v)::l,(O,t)::q,z,z',h,e,w=>by
   simp only[Vy,Xc]at e
   obtain⟨rfl,e⟩:=e
   have F:ak c r v t:=w.el 0 v t Θ Θ
   have A:au c r (l.map (·.2)).toArray (q.map (·.2)).toArray:=⟨by have:=w.size;simp_all,λj u E a b=>w.el (j+1) u E (by grind) (by grind)⟩
   have M:=(au.cells F).size
   have C:=h.size
   unfold Instr.fill
   cases d i with
   |none=>trivial
   |some p=>
     obtain⟨k,H⟩:=p
     simp only[<-M,<-C]
     split
     · rename_i y G
       split at G
       ·cases G
       · rename_i L
         rw[if_neg L]
         have D:∀(s f:List (XN×Nat))(z z':Array XN),au c r z z'->s.map (·.2)=f.map (·.2)->au c r (s.map (·.1)).toArray (f.map (·.1)).toArray->
          au c r (s.foldl (λm(x:XN×Nat)=>m.setIfInBounds (k+x.2) x.1) z) (f.foldl (λm(x:XN×Nat)=>m.setIfInBounds (k+x.2) x.1) z'):=by
          intro s
          induction s with
          |nil=>simp_all
          |cons p s N=>intro f z z' C e B;cases f with
            |nil=>simp at e
            |cons Q f=>
              simp only[Vy,Xc]at e
              rw[V0,V0,<-e.1]
              exact N f _ _ (C.set _ (B.el 0 _ _ Θ Θ)) e.2 ⟨by have:=B.size;simp_all,λj u E a b=>B.el (j+1) u E (by grind) (by grind)⟩
         have n:au c r (v.cells.zipIdx.foldl (λm(x:XN×Nat)=>m.setIfInBounds (k+x.2) x.1) z) (t.cells.zipIdx.foldl (λm(x:XN×Nat)=>m.setIfInBounds (k+x.2) x.1) z'):=by
          rw[<-Array.foldl_toList,<-Array.foldl_toList]
          refine D _ _ _ _ h ?_ ?_
          ·simp_all
          · have J:(v.cells.zipIdx.toList.map (·.1)).toArray=v.cells:=by simp
            have K:(t.cells.zipIdx.toList.map (·.1)).toArray=t.cells:=by simp
            rw[J,K];exact au.cells F
         have:=zm d l q n e A
         simp_all
     ·trivial
end
section
variable{c:ej}{r:bN}
inductive sH(c:ej)(b:Nat):Option (XW×Nat)->Option (XW×Nat)->Prop
 |none:sH c b XQ XQ
 |some(t:XW){n m:Nat}:n<=m->c.low b=0->sH c b (XG (t,n)) (XG (t,m))
 |bad(t':XW){n m:Nat}:c.low b≠0->c.aN<=b->sH c b (XG (wT,n)) (XG (t',m))
theorem sH.isSome{s s':Option (XW×Nat)}(h:sH c b s s'):s.isSome=s'.isSome:=by cases h<;>rfl
theorem qR{p:XY}{d:Nat}{e:XW}{m off:Nat}{bs:Int}{o:Nat}(h:n<=m)(a:cellAtBytes p d e n off bs=XG o):cellAtBytes p d e m off bs=XG o:=by unfold cellAtBytes at a⊢;simp only[]at a⊢;split at a;{cases a};rename_i f;rw[if_neg f];simp only[Option.bind_eq_bind]at a⊢;cases i:byteOfCell p d e (off%p.cellsOf e)with|none=>simp_all|some b=>rw[i]at a;simp only[Wv]at a⊢;split at a;{cases a};rename_i g;rw[if_neg ?_];{exact a};simp only[V5,decide_eq_true_eq,Int.ofNat_eq_natCast]at g⊢;have:n*p.bytesOf e<=m*p.bytesOf e:=Ws _ h;omega
theorem ef.shape(h:ef c r w v)(g:r b=XG k):sH c b (w.shape? b) (v.shape? k):=by have d:=h.blk b k g;unfold XP.shape?;generalize w.heap[b]?=p at d;generalize v.heap[k]?=o at d;cases d with|@seen x q t m f s l z y e=>by_cases a:c.low b=0;{obtain rfl:=y.1 a;exact .some t z a};obtain⟨rfl,i⟩:=y.2 a;exact .bad m a i|own n j=>cases j with|cells t f k=>exact .some t (by simp[k.size]) (h.rJ b n)|_=>exact .none
theorem ae.shape(d:r b=XG k):ae P c r (shape b) (shape k) λ_ x y=>sH c b x y:=by intro w v a;exact⟨v.shape? k,v,r,rfl,.refl a,a.shape d,λe f=>by simp_all⟩
theorem ae.viewAt(f:r b=XG k):ae P c r (viewAt b) (viewAt k) λ_ x y=>x=XQ/\y=XQ:=by refine ae.bind (ae.shape f) λg s d h l=>?_;have a:=l.isSome;by_cases e:d.isSome=XL;{rw[a,if_pos e,if_pos e];exact ae.pure ⟨rfl,rfl⟩};rw[a,if_neg e,if_neg e];refine ae.getObj (h _ _ f) λo n _ j i=>?_;cases j with|cells t m _=>exact absurd rfl (i _ _ _)|_=>exact ae.pure ⟨rfl,rfl⟩
theorem ae.noView(d:dm c r a a'):ae P c r (noView a) (noView a') λ_ _ _=>True:=by refine ae.bind (ae.viewAt d.1) λf s g e b=>?_;rw[b.1,b.2];exact ae.pure trivial
def Ph(c:ej)(r:bN):Option (Yl×Bool)->Option (Yl×Bool)->Prop
 |none,XQ=>True
 |some (a,l),XG (a',l')=>dm c r a a'/\l'=l
 |_,_=>False
theorem ae.numberAt(f:r b=XG k):ae P c r (numberAt b) (numberAt k) (Ph c):=by refine ae.bind (ae.shape f) λn s g h m=>?_;have d:=m.isSome;rw[d];by_cases e:g.isSome=XL;{rw[if_pos e,if_pos e];exact ae.pure trivial};rw[if_neg e,if_neg e];refine ae.getObj (h _ _ f) λo q _ j i=>?_;cases j with|cells t p _=>exact absurd rfl (i _ _ _)|number l a=>exact ae.pure ⟨a,rfl⟩|_=>exact ae.pure trivial
theorem ae.behindNumber(d:dm c r a a'):ae P c r (behindNumber a) (behindNumber a') λf x y=>dm c f x.1 y.1/\y.2=x.2:=by refine ae.bind (ae.numberAt d.1) λi s g e b=>ae.pure ?_;match s,g,b with|none,XQ,_=>exact⟨d.mono e,rfl⟩|some (x,l),XG (j,h),b=>exact b
theorem ae.asNumber(b:dm c r a a')(l:Bool):ae P c r (asNumber a l) (asNumber a' l) (ak c):=ae.bind (ae.newObj (.number l b)) λ_ _ _ _ h=>ae.pure (.ptr ⟨h.1,rfl,rfl,VL h.2⟩)
theorem ae.byteOf(b:dm c r a a')(g:c.low a.block=0\/a.block<c.aN):ae P c r (byteOf a) (byteOf a') λ_ x y=>y=x:=by have e:=b.2.2.1;unfold Go.byteOf;rw[e];cases a.spot with|some s=>exact ae.pure rfl|none=>refine ae.bind (ae.eV bS) λn p m d i=>?_;obtain⟨rfl,rfl⟩:=i;refine ae.bind (ae.noView (b.mono d)) λo _ _ f _=>?_;refine ae.bind (ae.shape ((b.mono d).mono f).1) λq s t l e=>?_;rw[b.2.1];cases e with|none=>exact ae.stuck|bad x k d=>exact absurd g Ω|some x h=>refine ae.cE ?_;simp only[];split;{trivial};split<;>first|trivial|exact rfl
theorem ae.unsafeAdd(z:Fits P c)(h:ak c r x x')(k:ak c r y y'):ae P c r (Ya.unsafeAdd_ #[] t #[x,y]) (Ya.unsafeAdd_ #[] t #[x',y']) (ak c):=by(have f:∀{a j:Option Yl},ak c r (.pointer a) (.pointer j)->ae P c r (Ya.unsafeAdd_ #[] t #[.pointer a,y]) (Ya.unsafeAdd_ #[] t #[.pointer j,y']) (ak c):=by intro a j h;refine ae.bind (ae.asInt k) λF n E v A=>?_;subst A;have h:=h.mono v;simp only[];split;{cases h with|gk=>exact ae.unsupported|ptr b=>refine ae.bind (ae.viewAt b.1) λB s D l g=>?_;rw[g.1,g.2];exact ae.pure (.ptr (b.mono l))};split;{exact ae.unsupported};cases h with|gk=>exact ae.unsupported|ptr b=>refine ae.bind (ae.shape b.1) λB s D l g=>?_;cases g with|none=>exact ae.unsupported|bad x u v=>refine ae.bind (ae.eV bS) λC p i w o=>?_;obtain⟨rfl,rfl⟩:=o;(have:i.cellsOf wT=0:=by unfold XY.cellsOf;rw[z.bad];rfl);(have:∀n d q,cellAtBytes i i.depth wT n d q=XQ:=λn d q=>by unfold cellAtBytes;simp[this]);simp only[this];exact ae.unsupported|some x m u=>refine ae.bind (ae.eV bS) λC p i w o=>?_;obtain⟨rfl,rfl⟩:=o;rw[b.2.1];split;{rename_i d e;rw[qR (Nat.div_le_div_right m) e];exact ae.pure (.ptr ⟨((b.mono l).mono w).1,rfl,b.2.2.1,Vg (VL u) (Vu _)⟩)};exact ae.unsupported);cases h with|gk=>exact f .gk|ptr b=>exact f (.ptr b)|_=>exact ae.stuck
theorem ae.movedNumber(g:Fits P c)(h:ak c r x x')(k:ak c r y y'):ae P c r (movedNumber t x y) (movedNumber t x' y') (ak c):=by refine ae.bind (ae.cE (aE t)) λH d E p w=>?_;subst w;have h:=h.mono p;have k:=k.mono p;refine ae.ite (λ_ _ _ _=>rfl) λ_=>?_;cases h with|ptr u=>refine ae.bind (ae.behindNumber u) λI a i q A=>?_;obtain⟨j,o⟩:=A;obtain⟨a,l⟩:=a;subst o;refine ae.bind (ae.unsafeAdd g (.ptr j) (k.mono q)) λJ z K F B=>?_;(cases B with|ptr v=>exact ae.asNumber v _|gk=>exact ae.pure .gk|bool b=>exact ae.pure (.bool b)|int k n=>exact ae.pure (.int k n)|string s=>exact ae.pure (.string s)|il n m=>exact ae.pure (.il n m)|slice n m a=>exact ae.pure (.slice n m a)|cT a i=>exact ae.pure (.cT a i)|kN=>exact ae.pure .kN|map a=>exact ae.pure (.map a)|func a b d e f=>exact ae.pure (.func a b d e f)|nilFunc=>exact ae.pure .nilFunc|nilIface=>exact ae.pure .nilIface|iface t a=>exact ae.pure (.iface t a)|agg a b=>exact ae.pure (.agg a b)|tuple a b=>exact ae.pure (.tuple a b))|gk=>exact ae.unsafeAdd g .gk k|bool b=>exact ae.unsafeAdd g (.bool b) k|int C n=>exact ae.unsafeAdd g (.int C n) k|string s=>exact ae.unsafeAdd g (.string s) k|il n m=>exact ae.unsafeAdd g (.il n m) k|slice n m a=>exact ae.unsafeAdd g (.slice n m a) k|cT a i=>exact ae.unsafeAdd g (.cT a i) k|kN=>exact ae.unsafeAdd g .kN k|map a=>exact ae.unsafeAdd g (.map a) k|func a b d e f=>exact ae.unsafeAdd g (.func a b d e f) k|nilFunc=>exact ae.unsafeAdd g .nilFunc k|nilIface=>exact ae.unsafeAdd g .nilIface k|iface t a=>exact ae.unsafeAdd g (.iface t a) k|agg a b=>exact ae.unsafeAdd g (.agg a b) k|tuple a b=>exact ae.unsafeAdd g (.tuple a b) k
theorem ae.movedPointer(g:Fits P c)(h:ak c r x x')(k:ak c r y y'):ae P c r (movedPointer t x y) (movedPointer t x' y') (ak c):=by unfold Go.movedPointer;cases h with|ptr j=>refine ae.bind (ae.numberAt j.1) λv s q i o=>?_;(match s,q,o with|none,XQ,_=>exact ae.unsafeAdd (t:=t) g (.ptr (j.mono i)) (k.mono i)|some _,XG _,_=>exactλ_ _ _=>rfl)|gk=>exact ae.unsafeAdd g .gk k|bool b=>exact ae.unsafeAdd g (.bool b) k|int p n=>exact ae.unsafeAdd g (.int p n) k|string s=>exact ae.unsafeAdd g (.string s) k|il n m=>exact ae.unsafeAdd g (.il n m) k|slice n m a=>exact ae.unsafeAdd g (.slice n m a) k|cT a l=>exact ae.unsafeAdd g (.cT a l) k|kN=>exact ae.unsafeAdd g .kN k|map a=>exact ae.unsafeAdd g (.map a) k|func a b d e f=>exact ae.unsafeAdd g (.func a b d e f) k|nilFunc=>exact ae.unsafeAdd g .nilFunc k|nilIface=>exact ae.unsafeAdd g .nilIface k|iface t a=>exact ae.unsafeAdd g (.iface t a) k|agg a b=>exact ae.unsafeAdd g (.agg a b) k|tuple a b=>exact ae.unsafeAdd g (.tuple a b) k
theorem ae.known{x:Yb α}{y:Yb β}{Q:bN->α->β->Prop}(h:(∀(i k:Nat),r i=XG k->i<c.aN->i=k)->(∀(i j k:Nat),r i=XG k->r j=XG k->i=j\/(c.seen i/\c.seen j))->ae P c r x y Q):ae P c r x y Q:=λw v a=>h a.aN a.inj w v a
theorem vL{b:Yl}(d:dm c r a a')(f:dm c r b b')(e:a.block=b.block):a'.block=b'.block:=by have h:=f.1;rw[<-e,d.1]at h;simp_all
theorem vD(d:∀(i k:Nat),r i=XG k->i<c.aN->i=k)(b:dm c r a a')(h:a.block<c.aN):a'.block<c.aN:=by have:=d _ _ b.1 h;omega
theorem ae.twoPlaces{b:Yl}(k:Fits P c)(f:dm c r a a')(j:dm c r b b'):ae P c r (Op.twoPlaces a b) (Op.twoPlaces a' b') λ_ x y=>y=x:=by refine ae.known λu A=>?_;refine ae.bind (ae.eV bS) λB p h i t=>?_;obtain⟨rfl,rfl⟩:=t;by_cases d:a.block=b.block;(case neg=>have m:=bne_iff_ne.2 d;rw[m];exactλ_ _ _=>rfl);(have n:(a'.block !=b'.block)=(a.block !=b.block):=by simp[d,vL f j d]);by_cases e:a.block<c.aN;(case neg=>(have q:decide (a.block>=h.globals.size)=XL:=by rw[decide_eq_true_eq,<-k.aN];omega);rw[q,Ww];exactλ_ _ _=>rfl);(have o:decide (a'.block>=h.globals.size)=decide (a.block>=h.globals.size):=by rw[decide_eq_decide,<-k.aN];have:=vD u f e;omega);rw[n,o];refine ae.ite (λ_ _ _ _=>rfl) λ_=>?_;exact ae.bind (ae.byteOf (f.mono i) (.inr e)) λC x E s v=>ae.bind (ae.byteOf ((j.mono i).mono s) (.inr (d▸e))) λD y F z w=>ae.pure (by rw[v,w])
theorem ae.addrMod(h:Fits P c){k:XU}{n:Int}(f:dm c r a a'):ae P c r (Op.addrMod k a n) (Op.addrMod k a' n) (ak c):=by refine ae.bind (ae.shape f.1) λt s y d m=>?_;cases m with|none=>exact ae.unsupported|bad x b d=>refine ae.never (gw λw=>?_);(have e:∃s,(typeInfo wT).run P w=.halt (.stuck s) w:=by unfold typeInfo;rw[Yb.run_bind];simp only[program,Yb.run,Yg.andThen,h.bad];simp);obtain⟨s,e⟩:=e;exact⟨_,w,e,rfl⟩|some x l b=>refine ae.bind (ae.cE (dq _)) λu i q g j=>?_;subst j;refine ae.ite (λ_ _ _ _=>rfl) λ_=>?_;exact ae.bind (ae.byteOf ((f.mono d).mono g) (.inl b)) λv z A p o=>by subst o;exact ae.pure (.int _ _)
theorem ae.addrCmp{b:Yl}(f:Fits P c)(d:dm c r a a')(e:dm c r b b'):ae P c r (Op.addrCmp op a b) (Op.addrCmp op a' b') (ak c):=by refine ae.bind (ae.twoPlaces f d e) λj s h i g=>?_;subst g;cases op<;>first|exact ae.pure (.bool _)|exact ae.unsupported
theorem ae.addrSub{k:XU}{b:Yl}(f:Fits P c)(d:dm c r a a')(e:dm c r b b'):ae P c r (Op.addrSub k a b) (Op.addrSub k a' b') (ak c):=by refine ae.bind (ae.twoPlaces f d e) λi s j h g=>?_;subst g;exact ae.pure (.int _ _)
def Ms(P:XY)(t:XW):Bool:=match(P.info? t).map (λi:TypeInfo=>i.desc)with|some (.named "sync.copyChecker" _)=>XD|_=>XL
def fg(P:XY)(t:XW):Bool:=match P.underlying t with|some (.int _)=>Ms P t|some .string|some .bool=>XL|_=>XD
theorem yN{q:α->Prop}{x:Yb α}{f:α->Yb β}(g:bV P q x)(h:∀a,q a->kP P (f a)):kP P (x>>=f):=by intro w;rw[Yb.run_bind];rcases g.run w w rfl rfl with⟨a,d,e,b,_⟩|⟨k,j,b,i⟩;{rw[b];exact h a e _};simp_all
theorem ae.equal(H:Fits P c)(j:fg P t=XL)(h:ak c r x x')(k:ak c r y y'):ae P c r (Op.equal t x y) (Op.equal t x' y') λ_ a b=>b=a:=by show ae P c r (Op.equalIn (9999+1) t x y) (Op.equalIn (9999+1) t x' y') _;generalize(9999:Nat)=d;unfold Op.equalIn;refine ae.bind (ae.eV (x:=underlying t) (q:=λd=>P.underlying t=XG d) ?_) λr1 z J s m=>?_;{refine bV.bind bS λp v=>?_;subst v;cases h:p.underlying t with|none=>exact rfl|some i=>exact rfl};obtain⟨rfl,m⟩:=m;have h:=h.mono s;have k:=k.mono s;unfold fg at j;rw[m]at j;cases J with|bool=>(cases h<;>cases k<;>first|exact ae.stuck|exact ae.pure rfl)|string=>(cases h<;>cases k<;>first|exact ae.stuck|exact ae.pure rfl)|int q=>(cases h with|int S w=>(cases k with|int I o=>exact ae.ite (λ_=>ae.pure rfl) λ_=>ae.stuck|ptr G=>(match w with|.ofNat 0=>exact ae.pure rfl|.ofNat (_+1)=>exact ae.unsupported|.negSucc _=>exact ae.unsupported)|_=>first|exact ae.stuck|exact ae.unsupported)|ptr N=>(cases k with|int I o=>(match o with|.ofNat 0=>exact ae.pure rfl|.ofNat (_+1)=>exact ae.unsupported|.negSucc _=>exact ae.unsupported)|ptr G=>refine ae.bind (ae.behindNumber N) λr2 x x' C g=>ae.bind (ae.behindNumber (G.mono C)) λr3 y y' D l=>?_;refine ae.known λR n=>?_;have g:=g.1.mono D;have l:=l.1;refine ae.bind (ae.eV bS) λr4 p B E v=>?_;obtain⟨rfl,rfl⟩:=v;by_cases f:x.1.block=y.1.block;(case neg=>have w:(x.1.block==y.1.block)=XD:=beq_eq_false_iff_ne.2 f;(have o:(x.1==y.1)=XD:=by grind);simp only[w,o,V3,VD,if_false];refine ae.never (dF (dq t).yJ λi=>?_);split<;>exact eO);have O:=vL g l f;(have K:(x'.1.block==y'.1.block)=(x.1.block==y.1.block):=by simp_all);by_cases e:x.1.block<c.aN;(case neg=>(have T:decide (x.1.block<B.globals.size)=XD:=by rw[decide_eq_false_iff_not,<-H.aN];exact e);simp only[T,Bool.and_false,VD,if_false];refine ae.never (yN (jF t) λi n=>?_);unfold Ms at j;rw[n]at j;split;{simp_all};exact eO);(have L:decide (x'.1.block<B.globals.size)=decide (x.1.block<B.globals.size):=by rw[decide_eq_decide,<-H.aN];exact⟨λ_=>e,λ_=>vD R g e⟩);(have M:(x'.1==y'.1)=(x.1==y.1):=by obtain⟨⟨xb,xo,xs⟩,_⟩:=x;obtain⟨⟨V,W,X⟩,_⟩:=x';obtain⟨⟨yb,yo,ys⟩,_⟩:=y;obtain⟨⟨Y,Z,ys'⟩,_⟩:=y';obtain⟨s,C,D,-⟩:=g;obtain⟨S,I,k3,-⟩:=l;grind);simp only[K,L,M];refine ae.ite (λe=>?_) λ_=>?_;{(have e:x.1.block<c.aN:=by assumption);exact ae.bind (ae.byteOf (g.mono E) (.inr e)) λU u u' F Q=>ae.bind (ae.byteOf ((l.mono E).mono F) (.inr (f▸e))) λr6 z J h6 m=>ae.pure (by rw[Q,m])};refine ae.bind (ae.cE (dq t)) λU i i' F n=>?_;subst n;refine(ae.cE ?_);(split<;>first|exact rfl|(split<;>first|trivial|exact rfl))|_=>exact ae.unsupported)|gk=>cases k<;>exact ae.unsupported|_=>cases k<;>first|exact ae.stuck|exact ae.unsupported)|_=>simp at j
theorem ae.eqGuard{o2:X8}(b:∀z,x≠.agg z)(a:x≠.nilIface)(h:ak c r x x'):ae P c r (eqGuard op t o1 o2 x y) (eqGuard op t o1 o2 x' y') λ_ _ _=>True:=by refine ae.ite (λ_=>ae.pure trivial) λ_=>?_;cases h<;>first|exact absurd rfl a|exact absurd rfl (b _)|exact ae.pure trivial
theorem j3{d:TypeDesc}(h:P.underlying t=XG d)(w:XP):(underlying t).run P w=.ok d w:=by unfold underlying;simp_all
theorem Ai(a:fg P t=XL)(e:(∃z,x=.agg z)\/x=.nilIface):kP P (Op.equal t x y):=by intro w;show∃k f,(Op.equalIn (9999+1) t x y).run P w=.halt k f/\_;unfold Op.equalIn;unfold fg at a;cases b:P.underlying t with|none=>simp_all|some z=>rw[b]at a;rw[Yb.run_bind,j3 b];rcases e with⟨q,rfl⟩|rfl<;>cases z<;>first|(simp at a;done)|exact⟨_,_,rfl,rfl⟩|(cases y<;>exact⟨_,_,rfl,rfl⟩)
end
def Bx:XN->Bool
 |.int ..|.string ..|.pointer ..|.float ..|.complex ..=>XD
 |_=>XL
set_option maxHeartbeats 4000000 in theorem AB(a:BinOp)(t:XW)(x y:XN)(b:¬(a=.eql\/a=.neq))(c:Bx x=XL):∃h:Halt,binOp a t x y=.halt h/\A4 h=XL:=by(cases a<;>first|exact absurd (.inl rfl) b|exact absurd (.inr rfl) b|skip);all_goals(cases x<;>first|(simp[Bx]at c;done)|skip);all_goals(cases y<;>exact⟨_,rfl,rfl⟩)
section
variable{c:ej}{r:bN}
theorem oJ(a:fg P t=XL)(n:Nat):P.eqGuardType (n+1) t=XD:=by unfold fg at a;unfold XY.eqGuardType;grind
theorem xJ{o2:X8}(l:fg P t=XL)(m:(∃z,x=.agg z)\/x=.nilIface):gf P (eqGuard op t o1 o2 x y):=by
 have a:∀n:Nat,gf P (Op.eqGuardIn (n+1) t .nilIface .nilIface):=λn=>by
  unfold Op.eqGuardIn
  exact gf.bind (aE t).yJ λd=>by cases d<;>exact dr _
 have g:gf P (match x,y with
  |.nilIface,.nilIface=>(do
    if(o1 matches .const _)||(o2 matches .const _)then return
    if<-Op.eqGuardIn Op.maxDepth t x y then unsupported (.noEntry "binop/eql: two nil values of an interface type with methods, neither of them the literal nil"):Yb Unit)
  |.agg _,.agg _=>(do
    if !(<-program).eqGuardType (<-program).depth t then return
    if<-Op.eqGuardIn Op.maxDepth t x y then unsupported (.noEntry "binop/eql: two nil values of an interface type with methods, in a part of a struct or an array"):Yb Unit)
  |_,_=>pure ()):=by
  rcases m with⟨z,rfl⟩|rfl
  ·cases y with
    |agg u=>
      refine bV.yJ (q:=λ_=>True) (bV.bind bS λp k=>bV.bind bS λj f=>?_)
      subst k f
      rw[show j.eqGuardType j.depth t=XD from oJ l _]
      exact trivial
    |_=>exact dr _
  ·cases y with
    |nilIface=>
      by_cases i:((match o1 with|.const _=>XL|_=>XD)||(match o2 with|.const _=>XL|_=>XD))=XL
      ·simp only[i,if_true];exact dr _
      · simp only[i,if_false,VD]
        exact gf.bind (a 9999) λb=>by
         cases b
         ·exact dr _
         ·exactλw h o e=>by cases e;rfl
    |_=>exact dr _
 cases op<;>first|exact g|exact dr _
set_option maxHeartbeats 1000000 in theorem Dg{o2:X8}(hc:Fits P c)(ht:(op=.eql\/op=.neq)->fg P t=XL)(h:ak c r x x')(k:ak c r y y'):ae P c r (do eqGuard op t o1 o2 x y;binOp op t x y) (do eqGuard op t o1 o2 x' y';binOp op t x' y') (ak c):=by by_cases he:op=.eql\/op=.neq;{have ht:=ht he;by_cases hx:(∃z,x=.agg z)\/x=.nilIface;{refine ae.never (dF (xJ ht hx) λ_=>?_);have:∀f:Bool->Yb XN,kP P (Op.equal t x y>>=f):=λf=>gw (Ai (P:=P) (y:=y) ht hx);rcases hx with⟨z,rfl⟩|rfl<;>rcases he with rfl|rfl<;>(cases y<;>exact this _)};(have heq:∀{r:bN},ak c r x x'->ak c r y y'->ae P c r (binOp op t x y) (binOp op t x' y') (ak c):=by intro r h k;have key:=ae.equal hc ht h k;cases h with|int k1 n1=>(cases k with|int k2 n2=>exact ae.flat (mA _ _ _ _ _ _)|_=>rcases he with rfl|rfl<;>exact ae.bind key λ_ _ _ _ e=>by subst e;exact ae.pure (.bool _))|string s1=>(cases k with|string s2=>exact ae.flat (j8 _ _ _ _)|_=>rcases he with rfl|rfl<;>exact ae.bind key λ_ _ _ _ e=>by subst e;exact ae.pure (.bool _))|_=>rcases he with rfl|rfl<;>exact ae.bind key λ_ _ _ _ e=>by subst e;exact ae.pure (.bool _));exact ae.bind (ae.eqGuard (λz e=>hx (.inl ⟨z,e⟩)) (λe=>hx (.inr e)) h) λr1 _ _ h1 _=>heq (h.mono h1) (k.mono h1)};(have e0:∀x y:XN,(do eqGuard op t o1 o2 x y;binOp op t x y)=binOp op t x y:=by intro x y;cases op<;>first|rfl|exact absurd (.inl rfl) he|exact absurd (.inr rfl) he);rw[e0,e0];clear e0;by_cases hx:Bx x=XL;{obtain⟨h',e,hh⟩:=AB op t x y he hx;rw[e];exact ae.halt hh};cases h with|int k1 n1=>(cases k with|int k2 n2=>exact ae.flat (mA _ _ _ _ _ _)|ptr hb=>(cases op<;>first|exact ae.unsupported|exact absurd (.inl rfl) he|exact absurd (.inr rfl) he|exact ae.movedNumber hc (.ptr hb) (.int _ _)|exact ae.bind (ae.behindNumber hb) λr1 z z' h1 hz=>ae.addrMod hc hz.1)|gk=>(cases op<;>first|exact ae.unsupported|exact absurd (.inl rfl) he|exact absurd (.inr rfl) he|exact ae.movedNumber hc .gk (.int _ _))|_=>cases op<;>first|exact ae.stuck|exact absurd (.inl rfl) he|exact absurd (.inr rfl) he)|string s1=>(cases k with|string s2=>exact ae.flat (j8 _ _ _ _)|_=>cases op<;>first|exact ae.stuck|exact ae.unsupported|exact absurd (.inl rfl) he|exact absurd (.inr rfl) he)|ptr ha=>(cases k with|int k2 n2=>(cases op<;>first|exact ae.unsupported|exact absurd (.inl rfl) he|exact absurd (.inr rfl) he|exact ae.movedNumber hc (.ptr ha) (.int _ _)|exact ae.bind (ae.behindNumber ha) λr1 z z' h1 hz=>ae.addrMod hc hz.1|(refine ae.bind (ae.cE (aE t)) λr1 d d' h1 hd=>?_;subst hd;exact ae.ite (λ_=>ae.movedPointer hc (.ptr (ha.mono h1)) (.int _ _)) λ_=>ae.movedNumber hc (.ptr (ha.mono h1)) (.int _ _)))|ptr hb=>(cases op<;>first|exact ae.unsupported|exact absurd (.inl rfl) he|exact absurd (.inr rfl) he|exact ae.bind (ae.behindNumber ha) λr1 z z' h1 hz=>ae.bind (ae.behindNumber (hb.mono h1)) λr2 u u' h2 hu=>ae.addrSub hc (hz.1.mono h2) hu.1|exact ae.bind (ae.behindNumber ha) λr1 z z' h1 hz=>ae.bind (ae.behindNumber (hb.mono h1)) λr2 u u' h2 hu=>ae.addrCmp hc (hz.1.mono h2) hu.1)|_=>cases op<;>first|exact ae.stuck|exact ae.unsupported|exact absurd (.inl rfl) he|exact absurd (.inr rfl) he)|gk=>(cases k with|int k2 n2=>(cases op<;>first|exact ae.unsupported|exact absurd (.inl rfl) he|exact absurd (.inr rfl) he|exact ae.movedNumber hc .gk (.int _ _)|(refine ae.bind (ae.cE (aE t)) λr1 d d' h1 hd=>?_;subst hd;exact ae.ite (λ_=>ae.movedPointer hc .gk (.int _ _)) λ_=>ae.movedNumber hc .gk (.int _ _)))|_=>cases op<;>first|exact ae.stuck|exact ae.unsupported|exact absurd (.inl rfl) he|exact absurd (.inr rfl) he)|_=>exact absurd rfl hx
end
section
variable{c:ej}{r:bN}
theorem ba(t:XW):bV P (λd=>P.underlying t=XG d) (underlying t):=by refine bV.bind bS λp a=>?_;subst a;cases h:p.underlying t with|none=>exact rfl|some i=>exact rfl
theorem xc(t:XW):bV P (λn=>P.cellsOf t=n) (sizeOf t):=by refine bV.bind (jF t) λi a=>?_;show P.cellsOf t=i.size;unfold XY.cellsOf;grind
theorem Bz(t:XW)(h:ak c r x x'):ae P c r (Instr.loadAt t x) (Instr.loadAt t x') (ak c):=ae.bind (ae.sureAddr h) λ_ _ _ _ b=>ae.loadVar t b
theorem Az(t:XW)(h:ak c r x x')(k:ak c r y y'):ae P c r (Instr.storeAt t x y) (Instr.storeAt t x' y') λ_ _ _=>True:=ae.bind (ae.sureAddr h) λ_ _ _ b d=>ae.storeVar t d (k.mono b)
theorem Er{op:UnOp}(h:ak c r x x'):ae P c r (Op.unary op x) (Op.unary op x') (ak c):=by cases h with|bool b=>(cases op<;>first|exact ae.pure (.bool _)|exact ae.stuck)|int k n=>(cases op with|neg=>exact ae.flat (nO .sub k 0 n)|xor=>exact ae.flat (oW .xor k (if k.signed then-1 else k.max) n)|_=>exact ae.stuck)|ptr a=>(cases op<;>first|exact ae.unsupported|exact ae.stuck)|_=>cases op<;>exact ae.stuck
theorem zg(n:Nat)(h:ak c r x x'):ae P c r (Instr.extract x n) (Instr.extract x' n) (ak c):=by cases h with|tuple s e=>rename_i z f;unfold Instr.extract;(cases b:z[n]? with|none=>simp only[b];exact ae.stuck|some v=>obtain⟨g,d,k⟩:=(au.mk s e).get b;simp only[b,d];exact ae.pure k)|_=>exact ae.stuck
theorem ym(s:XW)(n:Nat)(u:∀fs f,P.underlying s=XG (.struct fs)->fs[n]?=XG f->P.cellsOf f.type≠0)(h:ak c r x x'):ae P c r (Instr.fieldAt s x n) (Instr.fieldAt s x' n) (ak c):=by refine ae.bind (ae.eV (ba s)) λz d k l e=>?_;obtain⟨rfl,e⟩:=e;cases k with|struct fs=>simp only[];(cases t:fs[n]? with|none=>exact ae.stuck|some f=>refine ae.bind (ae.sureAddr (h.mono l)) λv a j w p=>?_;(have i:ae P c v (fieldPlace a f) (fieldPlace j f) (dm c):=by refine ae.bind (ae.eV (xc f.type)) λA m y o g=>?_;obtain⟨rfl,g⟩:=g;have:=u fs f e t;rw[g]at this;rw[if_neg this,if_neg this];exact ae.pure ((p.mono o).add _));exact ae.bind i λ_ _ _ _ q=>ae.pure (.ptr q))|_=>exact ae.stuck
theorem Ef(t:XW)(n:Nat)(h:ak c r x x'):ae P c r (Instr.field t x n) (Instr.field t x' n) (ak c):=by refine ae.bind (ae.cE (aE t)) λl d b g j=>?_;subst j;cases b with|struct e=>simp only[];(cases k:e[n]? with|none=>exact ae.stuck|some f=>exact ae.bind (ae.asAgg (h.mono g)) λ_ _ _ _ i=>ae.part _ _ i)|_=>exact ae.stuck
theorem Dx(t:XW)(h:ak c r x x')(k:ak c r y y'):ae P c r (Instr.index t x y) (Instr.index t x' y') (ak c):=by refine ae.bind (ae.asIntOf k) λB z v j q=>?_;subst q;obtain⟨w,i⟩:=v;refine ae.bind (ae.cE (aE t)) λC d g l o=>?_;subst o;have h:=(h.mono j).mono l;cases h with|agg s e=>(cases g with|array u f=>refine ae.ite (λ_=>?_) λ_=>ae.boundsPanic;exact ae.bind (ae.cE (bE f)) λD m A n p=>by subst p;exact ae.part _ _ ((au.mk s e).mono n)|_=>exact ae.stuck)|string s=>(cases g with|string=>simp only[];(cases(if 0<=i then s[i.toNat]? else XQ)with|none=>exact ae.boundsPanic|some b=>exact ae.pure (.int _ _))|_=>exact ae.stuck)|_=>cases g<;>exact ae.stuck
theorem yc(t:XW)(h:ak c r x x')(k:ak c r y y'):ae P c r (Instr.indexAt t x y) (Instr.indexAt t x' y') (ak c):=by unfold Instr.indexAt;refine ae.bind (ae.asIntOf k) λY z V N T=>?_;subst T;obtain⟨X,i⟩:=V;refine ae.bind (ae.cE (aE t)) λZ d M O R=>?_;subst R;have h:=(h.mono N).mono O;let F(U:bN)(a b:Option Yl×Nat×XW):Prop:=ak c U (.pointer a.1) (.pointer b.1)/\b.2=a.2;cases M with|array B f=>refine ae.bind (ae.sureAddr h) λr3 a I W v=>ae.bind (Q:=F) (ae.pure ⟨.ptr v,rfl⟩) λC a b s q=>?_;obtain⟨w,B,f⟩:=a;obtain⟨o,l⟩:=b;obtain⟨g,e⟩:=q;simp only at e g;subst e;refine ae.bind (ae.cE (x:=underlying t) (aE t)) λC u H s A=>?_;subst A;have g:=g.mono s;(cases g with|gk=>exact ae.boundsPanic|ptr v=>refine ae.ite (λ_=>?_) λ_=>?_;{exact ae.bind (ae.cE (bE f)) λL m J D E=>by subst E;exact ae.pure (.ptr ((v.mono D).add _))};exact ae.ite (λ_ _ _ _=>rfl) λ_=>ae.boundsPanic)|slice f=>(cases h with|il n m=>refine ae.bind (Q:=F) (ae.pure ⟨.gk,rfl⟩) λC a b s q=>?_;obtain⟨w,B,f⟩:=a;obtain⟨o,l⟩:=b;obtain⟨g,e⟩:=q;simp only at e g;subst e;refine ae.bind (ae.cE (x:=underlying t) (aE t)) λC u H s A=>?_;subst A;have g:=g.mono s;(cases g with|gk=>exact ae.boundsPanic|ptr v=>refine ae.ite (λ_=>?_) λ_=>?_;{exact ae.bind (ae.cE (bE f)) λL m J D E=>by subst E;exact ae.pure (.ptr ((v.mono D).add _))};exact ae.ite (λ_ _ _ _=>rfl) λ_=>ae.boundsPanic)|slice n m v=>refine ae.bind (Q:=F) (ae.pure ⟨.ptr v,rfl⟩) λC a b s q=>?_;obtain⟨w,B,f⟩:=a;obtain⟨o,l⟩:=b;obtain⟨g,e⟩:=q;simp only at e g;subst e;refine ae.bind (ae.cE (x:=underlying t) (aE t)) λC u H s A=>?_;subst A;have g:=g.mono s;(cases g with|gk=>exact ae.boundsPanic|ptr v=>refine ae.ite (λ_=>?_) λ_=>?_;{exact ae.bind (ae.cE (bE f)) λL m J D E=>by subst E;exact ae.pure (.ptr ((v.mono D).add _))};exact ae.ite (λ_ _ _ _=>rfl) λ_=>ae.boundsPanic)|cT a I=>refine ae.bind (Q:=λ_ p K=>p=(XG a,0,f)/\K=(XG I,0,f)) (ae.pure ⟨rfl,rfl⟩) λC p K s S=>?_;obtain⟨rfl,rfl⟩:=S;refine ae.bind (ae.cE (x:=underlying t) (aE t)) λC u H s A=>?_;subst A;refine ae.ite (λG=>?_) λ_=>ae.ite (λ_ _ _ _=>rfl) λ_=>ae.boundsPanic;simp at G;omega|_=>exactλ_ _ _=>rfl)|_=>cases h<;>exactλ_ _ _=>rfl
theorem wX{fn:Fn}(b:Fc c fn=XL){x x' y y':Array XN}(h:au c r x x')(k:au c r y y'):ae P c r (Instr.makeFunc fn x y) (Instr.makeFunc fn x' y') (ak c):=ae.pure (.func b h.size h.el k.size k.el)
theorem ae.sliceBound(y:Nat)(e:BoundsCode)(h:ak c r x x'):ae P c r (Instr.sliceBound x y e) (Instr.sliceBound x' y e) λ_ a b=>b=a/\a<=y:=by refine ae.bind (ae.asIntOf h) λj z k g f=>?_;subst f;exact ae.ite (λi=>ae.pure ⟨rfl,by omega⟩) λ_=>ae.boundsPanic
def jT(c:ej)(r:bN):Option XN->Option XN->Prop
 |none,XQ=>True
 |some x,XG y=>ak c r x y
 |_,_=>False
theorem jT.mono{r r':bN}(h:r.le r'):∀{x y:Option XN},jT c r x y->jT c r' x y|none,XQ,_=>trivial|some _,XG _,k=>ak.mono h k
theorem ae.sliceBounds(f:Bool)(k j:Nat){mx:Option XN}(i:jT c r lo lo')(m:jT c r hi hi')(s:jT c r mx mx'):ae P c r (Instr.sliceBounds f k j lo hi mx) (Instr.sliceBounds f k j lo' hi' mx') λ_ a b=>b=a/\(k=0->j=0->a=(0,0,0)):=by match mx,mx',s with|none,XQ,_=>refine ae.bind (Q:=λ_ a b=>b=a/\a<=_) (ae.pure ⟨rfl,U1 _⟩) λy z h l e=>?_;obtain⟨rfl,x⟩:=e;(match hi,hi',m with|none,XQ,_=>refine ae.bind (Q:=λ_ a b=>b=a/\a<=_) (ae.pure ⟨rfl,U1 _⟩) λv z h o e=>?_;obtain⟨rfl,u⟩:=e;(match lo,lo',i with|none,XQ,_=>refine ae.bind (Q:=λ_ a b=>b=a/\a<=_) (ae.pure ⟨rfl,U1 _⟩) λq z h p e=>?_;obtain⟨rfl,n⟩:=e;exact ae.pure ⟨rfl,λa b=>by simp_all⟩|some a,XG t,i=>refine ae.bind (ae.sliceBound _ _ (ak.mono o (ak.mono l i))) λq z h p e=>?_;obtain⟨rfl,n⟩:=e;exact ae.pure ⟨rfl,λa b=>by simp_all⟩)|some b,XG w,m=>refine ae.bind (ae.sliceBound _ _ (ak.mono l m)) λv z h o e=>?_;obtain⟨rfl,u⟩:=e;match lo,lo',i with|none,XQ,_=>refine ae.bind (Q:=λ_ a b=>b=a/\a<=_) (ae.pure ⟨rfl,U1 _⟩) λq z h p e=>?_;obtain⟨rfl,n⟩:=e;exact ae.pure ⟨rfl,λa b=>by simp_all⟩|some a,XG t,i=>refine ae.bind (ae.sliceBound _ _ (ak.mono o (ak.mono l i))) λq z h p e=>?_;obtain⟨rfl,n⟩:=e;exact ae.pure ⟨rfl,λa b=>by simp_all⟩)|some d,XG A,s=>refine ae.bind (ae.sliceBound _ _ s) λy z h l e=>?_;obtain⟨rfl,x⟩:=e;match hi,hi',m with|none,XQ,_=>exactλ_ _ _=>rfl|some b,XG w,m=>refine ae.bind (ae.sliceBound _ _ (ak.mono l m)) λv z h o e=>?_;obtain⟨rfl,u⟩:=e;match lo,lo',i with|none,XQ,_=>refine ae.bind (Q:=λ_ a b=>b=a/\a<=_) (ae.pure ⟨rfl,U1 _⟩) λq z h p e=>?_;obtain⟨rfl,n⟩:=e;exact ae.pure ⟨rfl,λa b=>by simp_all⟩|some a,XG t,i=>refine ae.bind (ae.sliceBound _ _ (ak.mono o (ak.mono l i))) λq z h p e=>?_;obtain⟨rfl,n⟩:=e;exact ae.pure ⟨rfl,λa b=>by simp_all⟩
theorem Ev(t:XW){mx:Option XN}(h:ak c r x x')(k:jT c r lo lo')(o:jT c r hi hi')(p:jT c r mx mx'):ae P c r (Instr.slice t x lo hi mx) (Instr.slice t x' lo' hi' mx') (ak c):=by unfold Instr.slice;refine ae.bind (ae.cE (aE t)) λK d y v A=>?_;subst A;have h:=h.mono v;have k:=k.mono v;have o:=o.mono v;have p:=p.mono v;(have J:mx'.isSome=mx.isSome:=by match mx,mx',p with|none,XQ,_=>rfl|some _,XG _,_=>rfl);cases y with|string=>(cases h with|string s=>simp only[J];refine ae.ite (λ_ _ _ _=>rfl) λ_=>?_;exact ae.bind (ae.sliceBounds _ _ _ k o (show jT c K XQ XQ from trivial)) λ_ _ _ _ e=>by obtain⟨rfl,_⟩:=e;exact ae.pure (.string _)|_=>exact ae.stuck)|slice b=>(cases h with|il n m=>refine ae.bind (ae.sliceBounds _ _ _ k o p) λC z u j e=>?_;obtain⟨rfl,_⟩:=e;refine ae.bind (ae.cE (bE b)) λD q B i e=>?_;subst e;refine ae.pure ?_;split<;>exact .il _ _|slice n m g=>refine ae.bind (ae.sliceBounds _ _ _ k o p) λC z u j e=>?_;obtain⟨rfl,_⟩:=e;refine ae.bind (ae.cE (bE b)) λD q B i e=>?_;subst e;refine ae.pure ?_;have g:=(g.mono j).mono i;split;{exact .slice _ _ g};exact .slice _ _ (g.add _)|cT a G=>refine ae.bind (ae.sliceBounds _ _ _ k o p) λC z u j e=>?_;obtain⟨rfl,e⟩:=e;obtain rfl:=e rfl rfl;refine ae.bind (ae.cE (bE b)) λD q B i e=>?_;subst e;refine ae.pure ?_;split<;>exact .cT _ _|_=>exact ae.stuck)|pointer w=>refine ae.bind (ae.asAddr h) λC a G j g=>?_;refine ae.bind (ae.cE (aE w)) λD d y i A=>?_;subst A;(cases y with|array n b=>refine ae.bind (ae.sliceBounds _ _ _ ((k.mono j).mono i) ((o.mono j).mono i) ((p.mono j).mono i)) λL z u H e=>?_;obtain⟨rfl,_⟩:=e;refine ae.bind (ae.cE (bE b)) λM q B I e=>?_;obtain⟨rfl,_⟩:=e;refine ae.pure ?_;have g:=((g.mono i).mono H).mono I;split;{exact .slice _ _ g};exact .slice _ _ (g.add _)|_=>exact ae.stuck)|_=>cases h<;>exact ae.stuck
theorem yP(t:XW){mx:Option XN}(h:ak c r x x')(m:jT c r lo lo')(o:jT c r hi hi')(p:jT c r mx mx'):ae P c r (Instr.sliceAt t x lo hi mx) (Instr.sliceAt t x' lo' hi' mx') (ak c):=by refine ae.bind (ae.cE (aE t)) λE d s f w=>?_;subst w;have k:=Ev (P:=P) t (h.mono f) (m.mono f) (o.mono f) (p.mono f);cases s with|array n g=>refine ae.bind (ae.sureAddr (h.mono f)) λF a A j i=>?_;refine ae.bind (ae.sliceBounds _ _ _ ((m.mono f).mono j) ((o.mono f).mono j) ((p.mono f).mono j)) λG z y u e=>?_;obtain⟨rfl,_⟩:=e;refine ae.bind (ae.cE (bE g)) λH q D v e=>?_;subst e;refine ae.pure ?_;have i:=(i.mono u).mono v;split;{exact .slice _ _ i};exact .slice _ _ (i.add _)|_=>exact k
end
section
variable{c:ej}{r:bN}
def jK(P:XY)(t:XW):Bool:=match(P.info? t).bind (·.zero)with|some z=>jv 100 z|none=>XL
theorem vy(h:jK P t=XL):∀z,(P.info? t).bind (·.zero)=XG z->Flat z:=λz a=>by unfold jK at h;rw[a]at h;exact im h
theorem Flat.vs(h:Flat z)(c:ej)(r:bN):au c r z.cells z.cells:=au.cells (h c r)
theorem ae.zero(h:jK P t=XL):ae P c r (zeroValue t) (zeroValue t) λ_ a b=>b=a/\Flat a:=ae.eV (tH t (vy h))
theorem AY(h:jK P t=XL):ae P c r (Instr.alloc t XL (.tuple #[])) (Instr.alloc t XL (.tuple #[])) (ak c):=EM t (vy h)
structure B1(c:ej)(r:bN)(x x':Array (Nat×XN)):Prop where
 idx:x.toList.map (·.1)=x'.toList.map (·.1)
 val:au c r (x.toList.map (·.2)).toArray (x'.toList.map (·.2)).toArray
theorem B1.mono{r r':bN}(h:r.le r'){x x':Array (Nat×XN)}(k:B1 c r x x'):B1 c r' x x':=⟨k.idx,k.val.mono h⟩
theorem ly(a:Nat->Option (Nat×Nat)){x x':Array (Nat×XN)}(h:B1 c r x x'){z z':Array XN}(e:au c r z z'):Instr.fill a z x.toList=Option.none\/∃y d,Instr.fill a z x.toList=XG y/\Instr.fill a z' x'.toList=XG d/\au c r y d:=by have:=zm a x.toList x'.toList e h.idx h.val;grind
theorem Dq(l:List ε)(f:ε->Yb ζ)(h:∀x∈l,lF P (f x)):lF P (l.mapM f):=by induction l with|nil=>trivial|cons x l b=>rw[List.mapM_cons];exact(h x Θ).bind λ_=>(b λy a=>h y (by simp[a])).bind λ_=>trivial
theorem AL(l:Array ε)(f:ε->Yb ζ)(h:∀x∈l,lF P (f x)):lF P (l.mapM f):=by rw[Array.mapM_eq_mapM_toList];exact lF.bind (Dq _ _ λx a=>h x (by simp_all)) λ_=>trivial
theorem Ee(B:jK P t=XL){x x':Array (Nat×XN)}(h:B1 c r x x'):ae P c r (Instr.build t x) (Instr.build t x') (ak c):=by unfold Instr.build;refine ae.bind (ae.zero B) λD z F q g=>?_;obtain⟨rfl,g⟩:=g;refine ae.bind (ae.cE (aE t)) λE d v s A=>?_;subst A;cases v with|struct w=>refine ae.bind (ae.cE (AL w _ λf _=>(bE f.type).bind λ_=>trivial)) λp u j m o=>?_;subst o;rcases ly (j[·]?) (((h.mono q).mono s).mono m) (g.vs c p)with e|⟨y,C,e,l,k⟩;{simp only[e];exact ae.stuck};simp only[e,l];exact ae.pure (.tD k)|array n b=>refine ae.bind (ae.cE (bE b)) λp u j m o=>?_;subst o;rcases ly (λi=>XG (i*j,j)) (((h.mono q).mono s).mono m) (g.vs c p)with e|⟨y,C,e,l,k⟩;{simp only[e];exact ae.stuck};simp only[e,l];exact ae.pure (.tD k)|_=>exact ae.stuck
theorem au.range{x x':Array XN}(h:au c r x x')(n:Nat):au c r ((Array.range n).map (x[·%x.size]!)) ((Array.range n).map (x'[·%x'.size]!)):=by refine au.map _ _ _ λi _=>?_;rw[<-h.size];rw[X9,X9];exact h.getD _ (by exact .bool XD)
theorem sJ(E:∀e,P.underlying t=XG (.slice e)->jK P e=XL){x x':Array (Nat×XN)}(h:B1 c r x x'):ae P c r (Instr.buildSlice t n x) (Instr.buildSlice t n x') (ak c):=by unfold Instr.buildSlice;refine ae.bind (ae.eV (ba t)) λH d B u s=>?_;obtain⟨rfl,s⟩:=s;cases B with|slice l=>refine ae.bind (ae.cE (bE l)) λI m j v D=>?_;subst D;refine ae.ite (λ_ _ _ _=>rfl) λ_=>?_;refine ae.ite (λ_=>?_) λ_=>?_;{refine ae.bind (Q:=λ_ a b=>b=a/\∀r,au c r a a) (ae.pure ⟨rfl,λ_=>.empty⟩) λw z A p g=>?_;obtain⟨rfl,g⟩:=g;rcases ly (λi=>XG (i*j,j)) (((h.mono u).mono v).mono p) (au.range (g w) (n*j))with e|⟨y,G,e,o,k⟩;{simp only[e];exact ae.stuck};simp only[e,o];exact ae.bind (ae.newRow k) λ_ _ _ _ q=>ae.pure (.slice _ _ q)};refine ae.bind (ae.zero (E _ s)) λw z A p g=>?_;obtain⟨rfl,g⟩:=g;refine ae.bind (Q:=λ_ a b=>b=a/\∀r,au c r a a) (ae.pure ⟨rfl,λr=>g.vs c r⟩) λF z A C g=>?_;obtain⟨rfl,g⟩:=g;rcases ly (λi=>XG (i*j,j)) (((h.mono u).mono v).mono (bN.le_trans p C)) (au.range (g F) (n*j))with e|⟨y,G,e,o,k⟩;{simp only[e];exact ae.stuck};simp only[e,o];exact ae.bind (ae.newRow k) λ_ _ _ _ q=>ae.pure (.slice _ _ q)|_=>exact ae.stuck
theorem yE:ae P c r (Instr.makeMap t XQ) (Instr.makeMap t XQ) (ak c):=ae.bind (ae.newObj (.map 0 rfl λi e b h=>by simp at h)) λ_ _ _ _ h=>ae.pure (.map h.1)
theorem ae.nu{f:α->Yb β}{y:Yb γ}{Q:bN->β->γ->Prop}:ae P c r (Go.runtimePanic e>>=f) y Q:=ae.never (gw (dC e))
theorem uN(C:∀e,P.underlying t=XG (.slice e)->jK P e=XL)(h:ak c r x x')(k:ak c r y y'):ae P c r (Instr.makeSlice t x y) (Instr.makeSlice t x' y') (ak c):=by unfold Instr.makeSlice;refine ae.bind (ae.eV (ba t)) λN d s o m=>?_;obtain⟨rfl,m⟩:=m;cases s with|slice j=>refine ae.bind (ae.asInt (h.mono o)) λO a E u l=>?_;subst l;refine ae.bind (ae.asInt ((k.mono o).mono u)) λR b F G w=>?_;subst w;refine ae.bind (ae.cE (dq j)) λS i L H A=>?_;subst A;simp only[];refine ae.ite (λ_=>?_) λ_=>?_;{refine ae.ite (λ_=>ae.nu) λ_=>?_;refine ae.ite (λ_=>ae.nu) λ_=>?_;exact ae.bind (ae.cE (iA _)) λ_ _ _ _ _=>ae.nu};refine ae.bind (ae.cE (pI _)) λT _ _ I _=>?_;refine ae.bind (ae.cE (bE j)) λU n M J B=>?_;subst B;refine ae.ite (λ_=>?_) λ_=>?_;{refine ae.bind (Q:=λ_ a b=>b=a/\∀r,au c r a a) (ae.pure ⟨rfl,λ_=>.empty⟩) λp z q v g=>?_;obtain⟨rfl,g⟩:=g;exact ae.bind (ae.newRow (au.range (g p) _)) λ_ _ _ _ l=>ae.pure (.slice _ _ l)};refine ae.bind (ae.zero (C _ m)) λp z q v g=>?_;obtain⟨rfl,g⟩:=g;refine ae.bind (Q:=λ_ a b=>b=a/\∀r,au c r a a) (ae.pure ⟨rfl,λr=>g.vs c r⟩) λD z q K g=>?_;obtain⟨rfl,g⟩:=g;exact ae.bind (ae.newRow (au.range (g D) _)) λ_ _ _ _ l=>ae.pure (.slice _ _ l)|_=>exact ae.stuck
end
section
variable{c:ej}{r:bN}
theorem LA(ats:Array XW)(t:XW){x x':Array XN}(h:au c r x x'):ae P c r (Ya.len_ ats t x) (Ya.len_ ats t x') (ak c):=by unfold Ya.len_;cases ats[0]? with|none=>exact ae.stuck|some s=>cases w:x[0]? with|none=>exact ae.stuck|some v=>obtain⟨D,e,k⟩:=h.get w;simp only[e];refine ae.bind (ae.cE (aE s)) λB d g i j=>?_;subst j;have k:=k.mono i;cases g with|string=>(cases k<;>first|exact ae.pure (.int _ _)|exact ae.stuck)|array n e=>exact ae.pure (.int _ _)|pointer f=>refine ae.bind (ae.cE (aE f)) λC u y z q=>?_;subst q;(cases y<;>first|exact ae.pure (.int _ _)|exact ae.stuck)|slice e=>(cases k<;>first|exact ae.pure (.int _ _)|exact ae.stuck)|map a b=>(cases k with|kN=>exact ae.pure (.int _ _)|map p=>refine ae.getObj p λo A _ m l=>?_;(cases m with|map k s _=>simp only[s];exact ae.pure (.int _ _)|cells _ _ _=>exact absurd rfl (l _ _ _)|_=>exact ae.stuck)|_=>exact ae.stuck)|chan a b=>cases k<;>exact ae.stuck|_=>exact ae.stuck
theorem ae.max2(h:ak c r x x')(k:ak c r y y'):ae P c r (Ya.max2 x y) (Ya.max2 x' y') (ak c):=by cases h with|int a b=>(cases k<;>first|exact ae.pure (.int _ _)|exact ae.stuck|exact ae.unsupported)|string a=>(cases k with|string b=>refine ae.bind (ae.flat (kq .geq a b)) λi u l f d=>?_;exact ae.bind (ae.asBool d) λj z m g e=>by subst e;exact ae.pure (.string _)|ptr _=>exact ae.unsupported|_=>exact ae.stuck)|ptr _=>exact ae.unsupported|_=>cases k<;>first|exact ae.stuck|exact ae.unsupported
theorem ae.min2(h:ak c r x x')(k:ak c r y y'):ae P c r (Ya.min2 x y) (Ya.min2 x' y') (ak c):=by cases h with|int a b=>(cases k<;>first|exact ae.pure (.int _ _)|exact ae.stuck|exact ae.unsupported)|string a=>(cases k with|string b=>refine ae.bind (ae.flat (kq .leq a b)) λi u l f d=>?_;exact ae.bind (ae.asBool d) λj z m g e=>by subst e;exact ae.pure (.string _)|ptr _=>exact ae.unsupported|_=>exact ae.stuck)|ptr _=>exact ae.unsupported|_=>cases k<;>first|exact ae.stuck|exact ae.unsupported
theorem ae.foldlM{f:XN->XN->Yb XN}(g:∀{r:bN}{x x' y y':XN},ak c r x x'->ak c r y y'->ae P c r (f x y) (f x' y') (ak c)):∀(l e:List XN){r:bN}{x x':XN},ak c r x x'->au c r l.toArray e.toArray->ae P c r (l.foldlM f x) (e.foldlM f x') (ak c)|[],[],r,x,x',h,_=>ae.pure h|[],_::_,r,x,x',h,d=>by have:=d.size;grind|_::_,[],r,x,x',h,d=>by have:=d.size;grind|y::l,y'::e,r,x,x',h,d=>by rw[Xx,Xx];refine ae.bind (g h (d.el 0 y y' Θ Θ)) λn z o i k=>?_;exact ae.foldlM g l e k ((⟨by have:=d.size;simp_all,λj u m a b=>d.el (j+1) u m (by grind) (by grind)⟩:au c r l.toArray e.toArray).mono i)
theorem Ku(ats:Array XW)(t:XW){x x':Array XN}(h:au c r x x'):ae P c r (Ya.max_ ats t x) (Ya.max_ ats t x') (ak c):=by obtain⟨l⟩:=x;obtain⟨d⟩:=x';unfold Ya.max_;match l,d,h with|[],[],_=>exact ae.stuck|[],_::_,h=>have:=h.size;grind|_::_,[],h=>have:=h.size;grind|y::l,f::d,h=>exact ae.foldlM ae.max2 l d (h.el 0 y f Θ Θ) ⟨by have:=h.size;simp_all,λj u e a b=>h.el (j+1) u e (by grind) (by grind)⟩
theorem JL(ats:Array XW)(t:XW){x x':Array XN}(h:au c r x x'):ae P c r (Ya.min_ ats t x) (Ya.min_ ats t x') (ak c):=by obtain⟨l⟩:=x;obtain⟨d⟩:=x';unfold Ya.min_;match l,d,h with|[],[],_=>exact ae.stuck|[],_::_,h=>have:=h.size;grind|_::_,[],h=>have:=h.size;grind|y::l,f::d,h=>exact ae.foldlM ae.min2 l d (h.el 0 y f Θ Θ) ⟨by have:=h.size;simp_all,λj u e a b=>h.el (j+1) u e (by grind) (by grind)⟩
theorem ae.lenOf(h:ak c r x x'):ae P c r (Ya.lenOf x) (Ya.lenOf x') λ_ a b=>b=a/\∀q,x=.slice (XG q) 0 0->a=0:=by cases h<;>first|exact ae.pure ⟨rfl,λq e=>by cases e;rfl⟩|exact ae.pure ⟨rfl,λq e=>by cases e⟩|exact ae.stuck
theorem ae.vH(size:Nat)(h:ak c r x x'):ae P c r (Ya.firstCells size 0 x) (Ya.firstCells size 0 x') λ_ a b=>a=#[]/\b=#[]:=by unfold Ya.firstCells;rw[Nat.zero_mul];cases h<;>first|exact ae.pure ⟨rfl,rfl⟩|exact ae.stuck|(refine ae.pure ⟨?_,?_⟩<;>simp)
theorem ae.firstCells(size n:Nat)(h:ak c r x x')(j:∀q,x=.slice (XG q) 0 0->n=0):ae P c r (Ya.firstCells size n x) (Ya.firstCells size n x') (au c):=by cases h with|il _ _=>exact ae.pure .empty|cT a d=>obtain rfl:=j a rfl;exact(ae.vH size (.cT a d)).mono λ_ x y _⟨e,f⟩=>by rw[e,f];exact .empty|slice _ _ g=>exact ae.loadCells g _|string s=>refine ae.pure ?_;refine⟨rfl,λi v k a b=>?_⟩;rw[a]at b;cases b;rw[Wi]at a;obtain⟨z,_,rfl⟩:=U7.1 a;exact .int _ _|_=>exact ae.stuck
theorem au.zeroCells(h:Flat z)(n:Nat):au c r (Ya.zeroCells z.cells n) (Ya.zeroCells z.cells n):=by unfold Ya.zeroCells;exact au.range (h.vs c r) _
end
section
variable{c:ej}{r:bN}
theorem ae.IE{x:Yb α}{f:α->Yb β}{y:Yb γ}{Q:bN->β->γ->Prop}(h:kP P x):ae P c r (x>>=f) y Q:=ae.never (gw h)
theorem lN(a:Yl)(n:Nat):gf P (Ya.holdsCells a n):=(AT _).bind λs=>by cases s<;>exact dr _
theorem uV(size sl n:Nat)(base:Option Yl)(x:XN):gf P (Ya.mayShare size sl n base x):=by(have d:∀b:Bool,gf P (if(!b)=XL then Pure.pure XL else match x with|.slice (XG b) _ _=>(do Pure.pure (!(<-Ya.holdsCells b (n*size))||base.any (·.block==b.block)))|_=>Pure.pure XD):=λb=>by split;{exact dr _};split;{exact(lN _ _).bind λ_=>dr _};exact dr _);unfold Ya.mayShare;cases base with|none=>grind|some a=>exact gf.bind (lN _ _) λu=>gf.bind (Aq _) λv=>gf.bind (dr _) λb=>d b
theorem B3{ats:Array XW}(ht:∀s e,ats[0]?=XG s->P.underlying s=XG (.slice e)->jK P e=XL)(hn:∀s k,ats[1]?=XG s->P.underlying s≠XG (.int k)){x x':Array XN}(h:au c r x x'):ae P c r (Ya.append_ ats t x) (Ya.append_ ats t x') (ak c):=by unfold Ya.append_;cases hs:ats[0]? with|none=>exact ae.stuck|some s=>cases hx:x[0]? with|none=>exact ae.stuck|some v=>obtain⟨v',X,kv⟩:=h.get hx;simp only[X];cases hy:x[1]? with|none=>exact ae.stuck|some u=>obtain⟨u',W,A⟩:=h.get hy;simp only[W];refine ae.bind (ae.eV (ba s)) λR d M l H=>?_;obtain⟨rfl,H⟩:=H;cases M with|slice f=>have hz:=ht s f hs H;have O:=kv.mono l;have kx:=O;cases O;(case il|slice|cT=>refine ae.bind (ae.cE (bE f)) λr2 T K B e=>?_;subst e;cases Z:ats[1]?;(case' some xt=>refine ae.bind (ae.eV (ba xt)) λr0 d M Y w=>?_;obtain⟨rfl,w⟩:=w;replace B:=bN.le_trans B Y);all_goals refine ae.bind (Q:=λ_ a b=>b=a/\a=XD) (ae.pure ⟨rfl,by first|rfl|grind⟩) λr3 zs zs' N e=>?_;obtain⟨rfl,rfl⟩:=e;refine ae.bind (ae.lenOf ((A.mono l).mono (bN.le_trans B N))) λr4 n n' h4 e=>?_;obtain⟨rfl,E⟩:=e;have j:R.le r4:=bN.le_trans (bN.le_trans B N) h4;refine ae.ite (λI=>?_) λ_=>?_;{first|exact ae.bind (ae.firstCells _ _ ((A.mono l).mono j) E) λJ z V m g=>ae.pure (.il _ _)|exact ae.bind (ae.firstCells _ _ ((A.mono l).mono j) E) λJ z V m g=>ae.bind (ae.storeCells 0 ((dm.mono (bN.le_trans j m) (by assumption)).add _) (by omega)) λS _ _ C _=>ae.pure (.slice _ _ (dm.mono (bN.le_trans j (bN.le_trans m C)) (by assumption)))|(obtain rfl:n'=0:=by omega);refine ae.bind (ae.vH _ ((A.mono l).mono j)) λJ z V m g=>?_;obtain⟨rfl,rfl⟩:=g;exact ae.bind (Q:=λ_ _ _=>True) (ae.pure trivial) λS _ _ C _=>ae.pure (.cT _ _)};·refine ae.bind (ae.cE (dq f)) λJ i i' m e=>?_;subst e;refine ae.ite (λ_=>ae.nu) λ_=>?_;refine ae.bind (ae.cE (dq f)) λS i2 i2' C e=>?_;subst e;refine ae.ite (λ_=>ae.IE (by simp only[VD,if_false];exact dF (uV _ _ _ _ _) λ_=>by split<;>first|exact eO|exact dF (λ_ _ _ e=>by cases e) λ_=>eO)) λ_=>?_;refine ae.bind (ae.cE (iA _)) λr7 nc nc' h7 e=>?_;subst e;refine ae.bind (ae.cE (dq f)) λr8 i3 i3' h8 e=>?_;subst e;refine ae.bind (ae.cE (pI _)) λr9 _ _ h9 _=>?_;have y:R.le r9:=bN.le_trans j (bN.le_trans m (bN.le_trans C (bN.le_trans h7 (bN.le_trans h8 h9))));refine ae.bind (ae.firstCells _ _ (kx.mono y) (λq e=>by first|rfl|(cases e;done)|grind)) λr10 o o' F ho=>?_;refine ae.bind (ae.firstCells _ _ ((A.mono l).mono (bN.le_trans y F)) E) λr11 q q' G hq=>?_;refine ae.bind (ae.zero hz) λr12 zz zz' p g=>?_;obtain⟨rfl,g⟩:=g;exact ae.bind (ae.newRow ((((ho.mono G).mono p).append (hq.mono p)).append (au.zeroCells g _))) λ_ _ _ _ ha=>ae.pure (.slice _ _ ha));all_goals exact ae.stuck|_=>exact ae.stuck
theorem ae.checkKey(b g:Bool)(f:fg P t=XL)(n:Nat):ae P c r (Instr.checkKey b (n+1) t x) (Instr.checkKey g (n+1) t x') λ_ _ _=>True:=by refine ae.bind (ae.eV (ba t)) λj d h i e=>?_;obtain⟨rfl,e⟩:=e;unfold fg at f;rw[e]at f;cases h with|int k=>exact ae.pure trivial|string=>exact ae.pure trivial|bool=>exact ae.pure trivial|_=>simp at f
theorem zk(d:TypeDesc)(h:ak c r x x')(k:ak c r y y'):Instr.sameNow d x' y'=Instr.sameNow d x y:=by cases h<;>cases k<;>first|rfl|(cases d<;>rfl)
def lK(c:ej)(r:bN)(x x':Array Yw):Prop:=x.size=x'.size/\∀(i:Nat)(e e':Yw),x[i]?=XG e->x'[i]?=XG e'->FI c r e e'
theorem lK.mono{r r':bN}(h:r.le r'){x x':Array Yw}(k:lK c r x x'):lK c r' x x':=⟨k.1,λi e d a b=>(k.2 i e d a b).mono h⟩
def Lx(c:ej)(r:bN):Option (Nat×XN)->Option (Nat×XN)->Prop
 |none,XQ=>True
 |some (i,v),XG (i',v')=>i'=i/\ak c r v v'
 |_,_=>False
theorem qW(d:TypeDesc)(h:ak c r x x'):∀(l m:List Yw)(i:Nat),lK c r l.toArray m.toArray->
 match Instr.findNow d x l i with|some z=>∃p,Instr.findNow d x' m i=XG p/\Lx c r z p|none=>Instr.findNow d x' m i=XQ
 |[],[],i,_=>⟨XQ,rfl,trivial⟩
 |[],_::_,_,k=>by have:=k.1;grind
 |_::_,[],_,k=>by have:=k.1;grind
 |e::l,q::m,i,k=>by
   have o:=k.2 0 e q Θ Θ
   have n:lK c r l.toArray m.toArray:=⟨by have:=k.1;simp_all,λj u s a b=>k.2 (j+1) u s (by grind) (by grind)⟩
   unfold Instr.findNow
   rw[zk d h o.key]
   cases Instr.sameNow d x e.key with
   |none=>rfl
   |some b=>
     cases b with
     |true=>exact⟨_,rfl,rfl,o.val⟩
     |false=>exact qW d h l m (i+1) n
theorem ae.findAsking(n:Fits P c)(p:fg P t=XL):∀(l g:List Yw)(i:Nat){r:bN}{x x':XN},ak c r x x'->lK c r l.toArray g.toArray->ae P c r (Instr.findAsking t x l i) (Instr.findAsking t x' g i) (Lx c)|[],[],i,r,x,x',h,_=>ae.pure trivial|[],_::_,_,r,x,x',h,f=>by have:=f.1;grind|_::_,[],_,r,x,x',h,f=>by have:=f.1;grind|e::l,q::g,i,r,x,x',h,f=>by have o:=f.2 0 e q Θ Θ;have m:lK c r l.toArray g.toArray:=⟨by have:=f.1;simp_all,λj u v a b=>f.2 (j+1) u v (by grind) (by grind)⟩;refine ae.bind (ae.equal n p h o.key) λy b w k s=>?_;subst s;exact ae.ite (λ_=>ae.pure ⟨rfl,o.val.mono k⟩) λ_=>ae.findAsking n p l g (i+1) (h.mono k) (m.mono k)
theorem ae.findKey(j:Fits P c)(n:fg P t=XL){l l':List Yw}(h:ak c r x x')(g:lK c r l.toArray l'.toArray):ae P c r (Instr.findKey t x l) (Instr.findKey t x' l') (Lx c):=by refine ae.bind (ae.cE (aE t)) λo d f b m=>?_;subst m;have:=qW f (h.mono b) l l' 0 (g.mono b);cases e:Instr.findNow f x l 0 with|none=>rw[e]at this;simp only[this];exact ae.findAsking j n l l' 0 (h.mono b) (g.mono b)|some z=>rw[e]at this;obtain⟨p,i,k⟩:=this;simp only[i];exact ae.pure k
theorem BD{ok:Bool}(O:Fits P c)(Z:∀k e,P.underlying t=XG (.map k e)->fg P k=XL/\jK P e=XL)(h:ak c r x x')(k:ak c r y y'):ae P c r (Instr.lookup t x y ok) (Instr.lookup t x' y' ok) (ak c):=by refine ae.bind (ae.eV (ba t)) λr1 d S F I=>?_;obtain⟨rfl,I⟩:=I;cases S with|map J q=>obtain⟨C,R⟩:=Z J q I;let B(A:bN)(a b:XN×Bool):Prop:=ak c A a.1 b.1/\b.2=a.2;(cases h.mono F with|kN=>refine ae.bind (Q:=λA a b=>lK c A a b) (ae.pure ⟨rfl,λi e e' a=>by simp at a⟩) λr2 T E G m=>?_;refine ae.bind (ae.checkKey _ _ C 9999) λr3 _ _ w _=>?_;refine ae.bind (ae.findKey O C (k.mono (bN.le_trans F (bN.le_trans G w))) (by simpa using m.mono w)) λr4 z N U p=>?_;(match z,N,p with|none,XQ,_=>refine ae.bind (ae.zero R) λK u u' V n=>?_;obtain⟨rfl,n⟩:=n;refine ae.bind (Q:=B) (ae.pure ⟨n c K,rfl⟩) λL a b H g=>?_;obtain⟨v,o⟩:=a;obtain⟨j,f⟩:=g;subst f;refine ae.pure ?_;split;{exact .kG (au.push (au.single j) (.bool _))};{exact j}|some (_,_),XG (_,_),p=>refine ae.bind (Q:=B) (ae.pure ⟨p.2,rfl⟩) λL a b H g=>?_;obtain⟨v,o⟩:=a;obtain⟨j,f⟩:=g;subst f;refine ae.pure ?_;split;{exact .kG (au.push (au.single j) (.bool _))};·exact j)|map Y=>refine ae.getObj Y λo D _ X W=>?_;(cases X with|map kk s e=>refine ae.bind (Q:=λA a b=>lK c A a b) (ae.pure ⟨s,e⟩) λr2 T E G m=>?_;refine ae.bind (ae.checkKey _ _ C 9999) λr3 _ _ w _=>?_;refine ae.bind (ae.findKey O C (k.mono (bN.le_trans F (bN.le_trans G w))) (by simpa using m.mono w)) λr4 z N U p=>?_;(match z,N,p with|none,XQ,_=>refine ae.bind (ae.zero R) λK u u' V n=>?_;obtain⟨rfl,n⟩:=n;refine ae.bind (Q:=B) (ae.pure ⟨n c K,rfl⟩) λL a b H g=>?_;obtain⟨v,o⟩:=a;obtain⟨j,f⟩:=g;subst f;refine ae.pure ?_;split;{exact .kG (au.push (au.single j) (.bool _))};{exact j}|some (_,_),XG (_,_),p=>refine ae.bind (Q:=B) (ae.pure ⟨p.2,rfl⟩) λL a b H g=>?_;obtain⟨v,o⟩:=a;obtain⟨j,f⟩:=g;subst f;refine ae.pure ?_;split;{exact .kG (au.push (au.single j) (.bool _))};·exact j)|cells _ _ _=>exact absurd rfl (W _ _ _)|_=>exactλ_ _ _=>rfl)|_=>exactλ_ _ _=>rfl)|_=>exact ae.stuck
end
section
variable{c:ej}{r:bN}
def Na:XN->Bool
 |.string _|.bool _=>XL
 |_=>XD
def Bm(P:XY)(t:XW):Bool:=match P.underlying t with|some .string|some .bool=>XL|_=>XD
theorem Bw(h:Bm P t=XL):fg P t=XL:=by unfold Bm at h;unfold fg;grind
theorem xR(n:Nat)(h:ak c r x x')(k:ak c r y y')(b:Na y=XL):Instr.sameBits n x' y'=Instr.sameBits n x y:=by cases k<;>simp[Na]at b<;>cases h<;>cases n<;>rfl
theorem ae.HH(b:Bm P t=XL)(i:Na x=XD)(l h:List Yw)(k:lK c r l.toArray h.toArray):ae P c r (Instr.findKey t x l) (Instr.findKey t x' h) λ_ u n=>u=XQ/\n=XQ:=by unfold Bm at b;cases g:P.underlying t with|none=>rw[g]at b;simp at b|some d=>rw[g]at b;unfold Instr.findKey;refine ae.bind (ae.eV (ba t)) λq o j p f=>?_;obtain⟨rfl,f⟩:=f;rw[g]at f;cases f;cases l with|nil=>(have:h=[]:=by have:=k.1;grind);subst this;exact ae.pure ⟨rfl,rfl⟩|cons e l=>(have m:Instr.findNow d x (e::l) 0=XQ:=by(have:Instr.sameNow d x e.key=XQ:=by cases d<;>simp at b<;>cases x<;>simp[Na]at i<;>rfl);simp[Instr.findNow,this]);simp only[m];refine ae.never ?_;unfold Instr.findAsking;refine gw ?_;show kP P (Op.equalIn (9999+1) t x e.key);unfold Op.equalIn;intro w;rw[Yb.run_bind,j3 g w];cases d<;>simp at b<;>cases x<;>simp[Na]at i<;>exact⟨_,_,rfl,rfl⟩
theorem u7(hc:Fits P c)(ht:∀k e,P.underlying t=XG (.map k e)->Bm P k=XL){z':XN}(h:ak c r x x')(k:ak c r y y')(l:ak c r z z'):ae P c r (Instr.mapUpdate t x y z) (Instr.mapUpdate t x' y' z') λ_ _ _=>True:=by unfold Instr.mapUpdate;refine ae.bind (ae.eV (ba t)) λr1 d d' R S=>?_;obtain⟨rfl,S⟩:=S;cases d' with|map A E=>have G:=ht A E S;have hk:=Bw G;(cases h.mono R with|kN=>exact ae.runtimePanic|map I=>refine ae.getObj I λo o' ns ho X=>?_;(cases ho with|map kk s e=>rename_i F m;have g:lK c r1 F m:=⟨s,e⟩;refine ae.bind (ae.checkKey _ _ hk 9999) λr2 _ _ C _=>?_;have B:=(k.mono R).mono C;(have w:ae P c r2 (Instr.findKey A y F.toList) (Instr.findKey A y' m.toList) λZ u M=>Lx c Z u M/\(Na y=XD->u=XQ):=by by_cases hy:Na y=XD;{refine(ae.HH G hy _ _ (by simpa using g.mono C)).mono λZ u M _ h=>?_;obtain⟨rfl,rfl⟩:=h;exact⟨trivial,λ_=>rfl⟩};exact(ae.findKey hc hk B (by simpa using g.mono C)).mono λZ u M _ h=>⟨h,λe=>absurd e hy⟩);refine ae.bind w λr3 u M N J=>?_;obtain⟨J,K⟩:=J;have B:=B.mono N;have lr:=((l.mono R).mono C).mono N;have g:=(g.mono C).mono N;have I:=N _ _ (C _ _ I);(match u,M,J,K with|none,XQ,_,_=>refine ae.setObj I ns (.map (kk+1) (by grind) λi e O a b=>?_) rfl;rw[Vw]at a b;rw[<-g.1]at b;split at a;{cases a;rw[if_pos ‹_›]at b;cases b;exact⟨B,lr,rfl⟩};{rw[if_neg ‹_›]at b;exact g.2 i e O a b}|some (i,_),XG (v,_),J,K=>(have Y:Na y=XL:=by simp_all);obtain⟨W,_⟩:=J;subst W;(have p:ak c r3 (((F[v]?).map (·.key)).getD y) (((m[v]?).map (·.key)).getD y'):=by cases V:F[v]? with|none=>simp_all|some Q=>(have H:v<m.size:=by grind);have:=g.2 v Q m[v] V (Ve H);rw[Ve H];exact this.key);(have L:ae P c r3 (Instr.keyThatStays (((F[v]?).map (·.key)).getD y) y) (Instr.keyThatStays (((m[v]?).map (·.key)).getD y') y') (ak c):=by unfold Instr.keyThatStays;rw[xR 10000 p B Y];refine ae.ite (λ_=>ae.pure B) λ_=>?_;refine ae.bind (ae.cE (iA _)) λr4 n n' D X=>?_;subst X;refine ae.pure ?_;split;{exact B.mono D};exact p.mono D);refine ae.bind L λr4 q q' D hq=>?_;refine ae.setObj (D _ _ I) ns (.map kk (by grind) λj e O a b=>?_) rfl;rw[VX]at a b;split at a;{rw[if_pos ‹_›]at b;obtain⟨Q,T,rfl⟩:=U7.1 a;obtain⟨e1,U,rfl⟩:=U7.1 b;exact⟨hq,lr.mono D,((g.2 j Q e1 T U).born)⟩};·rw[if_neg ‹_›]at b;exact(g.2 j e O a b).mono D)|cells _ _ _=>exact absurd rfl (X _ _ _)|_=>exactλ_ _ _=>rfl)|_=>exact ae.stuck)|_=>exact ae.stuck
theorem Dj(k:P.underlying t=XG .string)(h:ak c r x x'):ae P c r (Instr.range t x) (Instr.range t x') (ak c):=by unfold Instr.range;refine ae.bind (ae.eV (ba t)) λv d n i f=>?_;obtain⟨rfl,f⟩:=f;rw[k]at f;cases f;cases h.mono i with|string s=>exact ae.bind (Q:=λl a b=>me c l a b) (ae.pure (.iter s 0)) λw o u p j=>ae.bind (ae.newObj j) λy b m q g=>ae.pure (.ptr ⟨g.1,rfl,rfl,VL g.2⟩)|_=>exactλ_ _ _=>rfl
theorem E1(h:ak c r x x'):ae P c r (Instr.next x XL t) (Instr.next x' XL t) (ak c):=by unfold Instr.next;cases h with|ptr m=>rename_i a l;obtain⟨b,v,k⟩:=a;obtain⟨w,e,i⟩:=l;obtain⟨g,f,j,-⟩:=m;simp only at g f j;subst f j;(cases e with|succ n=>exact ae.stuck|zero=>refine ae.getObj g λo z u f q=>?_;cases f with|iter s p=>refine ae.ite (λ_=>?_) λ_=>ae.pure (.kG (au.single (.bool _)));refine ae.bind (ae.setObj g u (.iter s _) rfl) λA _ _ y _=>ae.pure (.kG ?_);exact((au.single (.bool _)).push (.int _ _)).push (.int _ _)|cells _ _ _=>exact absurd rfl (q _ _ _)|_=>exact ae.stuck)|_=>exact ae.stuck
theorem pY:∀(l l':List XN){r:bN},l.length=l'.length->(∀(i:Nat)(v v':XN),l[i]?=XG v->l'[i]?=XG v'->ak c r v v')->∀s:ByteArray,ae P c r (forIn l s λc r=>(match c with|.int .u8 n=>Pure.pure (ForInStep.yield (r.push (UInt8.ofNat n.toNat)))|_=>(λ_:PUnit=>ForInStep.yield r)<$>stuck "bytesToString: byte expected" :Yb (ForInStep ByteArray))) (forIn l' s λc r=>(match c with|.int .u8 n=>Pure.pure (ForInStep.yield (r.push (UInt8.ofNat n.toNat)))|_=>(λ_:PUnit=>ForInStep.yield r)<$>stuck "bytesToString: byte expected" :Yb (ForInStep ByteArray))) λ_ x y=>x=y|[],[],_,_,_,s=>by rw[List.forIn_nil];exact ae.pure rfl|[],_::_,_,h,_,_=>by cases h|_::_,[],_,h,_,_=>by cases h|v::l,v'::l',r,h,hv,s=>by rw[List.forIn_cons,List.forIn_cons];have h0:ak c r v v':=hv 0 v v' rfl rfl;have hl:∀(i:Nat)(u u':XN),l[i]?=XG u->l'[i]?=XG u'->ak c r u u':=λi u u' a b=>hv (i+1) u u' a b;refine ae.bind (Q:=λ_(x y:ForInStep ByteArray)=>x=y/\∃z,x=.yield z) ?_ λr1 x y hle e=>?_;{cases h0 with|int k n=>(cases k<;>first|exact ae.pure ⟨rfl,_,rfl⟩|exactλ_ _ _=>rfl)|_=>exactλ_ _ _=>rfl};obtain⟨rfl,z,rfl⟩:=e;exact pY l l' (by simpa using h) (λi u u' a b=>(hl i u u' a b).mono hle) z
theorem oI(h:ak c r x x'):ae P c r (Conv.bytesToString x) (Conv.bytesToString x') (ak c):=by(have key:∀{a a':Yl}{n:Nat}{r:bN},ae P c r (Go.loadCells a n) (Go.loadCells a' n) (au c)->ae P c r (Conv.bytesToString (.slice (XG a) n 0)) (Conv.bytesToString (.slice (XG a') n 0)) (ak c):=λ{a a' n r}h=>by unfold Conv.bytesToString;refine ae.bind h λr1 y y' hle hy=>?_;(refine ae.bind (Q:=λ_ x y=>x=y) ?_ λr2 z z' _ e=>by subst e;exact ae.pure (.string _));have:=pY (P:=P) (c:=c) y.toList y'.toList (r:=r1) (by simpa using hy.size) (λi u u' a b=>hy.el i u u' (by simpa using a) (by simpa using b)) ByteArray.empty;simp only[Array.forIn_toList]at this;exact this);cases h with|il n m=>exact ae.pure (.string _)|slice n m h=>exact key (ae.loadCells h n)|cT a a'=>exact key (n:=0) (ae.pure .empty)|_=>exact ae.stuck
def FO(P:XY)(s d:XW):Bool:=match P.underlying s,P.underlying d with|some (.int _),XG (.int _)|some (.int _),XG .string|some .string,XG .string=>XL|some (.slice e),XG .string=>(match P.underlying e with|some (.int .u8)=>XL|_=>XD)|_,_=>XD
theorem Eg{e0:XW}(h:P.underlying e0=XG (.int .u8))(k:ak c r x x'):ae P c r (do match<-underlying e0 with|.int .u8=>Conv.bytesToString x|.int .i32=>Conv.runesToString x|_=>stuck "Convert: a slice of what to string?") (do match<-underlying e0 with|.int .u8=>Conv.bytesToString x'|.int .i32=>Conv.runesToString x'|_=>stuck "Convert: a slice of what to string?") (ak c):=by refine ae.bind (ae.eV (ba e0)) λo a i j e=>?_;obtain⟨rfl,e⟩:=e;rw[h]at e;cases e;exact oI (k.mono j)
theorem Ae{s d:XW}(h:FO P s d=XL)(k:ak c r x x'):ae P c r (convert s d x) (convert s d x') (ak c):=by unfold Go.convert;refine ae.bind (ae.eV (ba s)) λo a i j e=>?_;obtain⟨rfl,e⟩:=e;refine ae.bind (ae.eV (ba d)) λp b g l f=>?_;obtain⟨rfl,f⟩:=f;have k:=(k.mono j).mono l;unfold FO at h;rw[e,f]at h;cases i with|int q=>(cases g with|int n=>(cases k<;>first|exact ae.pure (.int _ _)|exact ae.unsupported)|string=>(cases k<;>first|exact ae.pure (.string _)|exact ae.unsupported)|_=>simp at h)|string=>(cases g with|string=>(cases k<;>first|exact ae.pure (.string _)|exact ae.unsupported)|_=>simp at h)|slice e0=>(cases g with|string=>(have hb:P.underlying e0=XG (.int .u8):=by simp only at h;split at h;{assumption};cases h);have gen:=λ{y y'}(k:ak c p y y')=>Eg (P:=P) hb k;(cases k with|int k n=>exact ae.pure (.string _)|string s=>exact ae.pure (.string _)|bool b=>exact gen (.bool b)|gk=>exact gen .gk|ptr h=>exact gen (.ptr h)|il n m=>exact gen (.il n m)|slice n m h=>exact gen (.slice n m h)|cT a a'=>exact gen (.cT a a')|kN=>exact gen .kN|map h=>exact gen (.map h)|func h1 h2 h3 h4 h5=>exact gen (.func h1 h2 h3 h4 h5)|nilFunc=>exact gen .nilFunc|nilIface=>exact gen .nilIface|iface t h=>exact gen (.iface t h)|agg h1 h2=>exact gen (.agg h1 h2)|tuple h1 h2=>exact gen (.tuple h1 h2))|_=>simp at h)|_=>simp at h
end
section
variable{c:ej}{r:bN}
def b9(c:ej)(gl:Nat->Bool):X8->Bool
 |.tmp _=>XL
 |.const v=>jv 100 v
 |.global g=>gl g
 |.func f=>c.fns f
def zE(P:XY)(t:XW):Bool:=match P.underlying t with|some (.slice e)=>jK P e|_=>XL
def OM(P:XY)(t:XW):Bool:=match P.underlying t with|some (.map k e)=>fg P k&&jK P e|_=>XL
def OB(P:XY)(t:XW):Bool:=match P.underlying t with|some (.map k _)=>Bm P k|_=>XL
def A7(P:XY)(s:XW)(n:Nat):Bool:=match P.underlying s with|some (.struct fs)=>(match fs[n]? with|some f=>P.cellsOf f.type !=0|none=>XL)|_=>XL
def Cy(P:XY)(t:Option XW):Bool:=match t with|some s=>(match P.underlying s with|some (.int _)=>XD|_=>XL)|none=>XL
def Pd(P:XY)(t:Option XW):Bool:=match t with|some s=>zE P s|none=>XL
def isEq:BinOp->Bool
 |.eql|.neq=>XL
 |_=>XD
def Fw(P:XY)(t:XW):Bool:=match P.underlying t with|some .string=>XL|_=>XD
def BA(P:XY)(c:ej)(gl:Nat->Bool)(k:Call):Bool:=
 k.args.all (b9 c gl)&&match k.callee with
 |.value f=>b9 c gl f
 |.builtin .len|.builtin .max|.builtin .min=>XL
 |.builtin .append=>Pd P k.argTypes[0]?&&Cy P k.argTypes[1]?
 |_=>XD
def Fp(P:XY):X8->Bool
 |.global g=>decide (g<P.globals.size)
 |_=>XD
def BJ(P:XY)(c:ej)(gl:Nat->Bool)(o:Yu):Bool:=
 match o.op with
 |.load _ x=>b9 c gl x||Fp P x
 |.move x|.assign x|.box _ x|.nilCheck x|.unOp _ _ x|.field _ x _|.extract x _=>b9 c gl x
 |.pick a b d=>b9 c gl a&&b9 c gl b&&b9 c gl d
 |.alloc e=>jK P e
 |.build t ps=>jK P t&&ps.all λp=>b9 c gl p.2
 |.buildSlice t _ ps=>zE P t&&ps.all λp=>b9 c gl p.2
 |.store _ a x|.indexAddr _ a x|.index _ a x=>b9 c gl a&&b9 c gl x
 |.binOp op t x y _=>b9 c gl x&&b9 c gl y&&(!isEq op||fg P t)
 |.convert s d x=>FO P s d&&b9 c gl x
 |.makeFunc fn first captured=>Fc c fn&&first.all (b9 c gl)&&captured.all (b9 c gl)
 |.makeMap _ XQ=>XL
 |.makeSlice t l k=>zE P t&&b9 c gl l&&b9 c gl k
 |.slice _ x lo hi mx=>b9 c gl x&&lo.all (b9 c gl)&&hi.all (b9 c gl)&&mx.all (b9 c gl)
 |.fieldAddr s x n=>A7 P s n&&b9 c gl x
 |.lookup t x i _=>OM P t&&b9 c gl x&&b9 c gl i
 |.mapUpdate t m k v=>OB P t&&b9 c gl m&&b9 c gl k&&b9 c gl v
 |.range t x=>Fw P t&&b9 c gl x
 |.next it XL=>b9 c gl it
 |.call k=>BA P c gl k
 |_=>XD
inductive xC(c:ej)(r:bN):Next->Next->Prop
 |value{v v':XN}:ak c r v v'->xC c r (.value v) (.value v')
 |skip:xC c r .skip .skip
 |enter{f:X3}{x x':Array XN}:c.fns f=XL->au c r x x'->xC c r (.enter f x) (.enter f x')
def CR(P:XY)(c:ej):Prop:=
 ∀(f:X3)(fn:Func),c.fns f=XL->P.funcs[f]?=XG fn->(fn.name== "runtime.NumGoroutine")=XD/\(fn.body=XQ->Extern.findNext fn=XQ/\∃e,Extern.find fn=XG e/\
   ∀(r:bN)(x x':Array XN),au c r x x'->ae P c r (e x) (e x') (ak c))
theorem ae.value{x:Yb XN}{y:Yb XN}(h:ae P c r x y (ak c)):ae P c r (do Pure.pure (Next.value (<-x))) (do Pure.pure (Next.value (<-y))) (xC c):=ae.bind h λ_ _ _ _ k=>ae.pure (.value k)
theorem ae.unit{x:Yb Unit}{y:Yb Unit}(h:ae P c r x y λ_ _ _=>True):ae P c r (do x;Pure.pure Next.skip) (do y;Pure.pure Next.skip) (xC c):=ae.bind h λ_ _ _ _ _=>ae.pure .skip
theorem ae.Bs(f:X3):ae P c r (mark (.extern f)) (mark (.extern f)) λ_ _ _=>True:=by intro w v b;refine⟨(),v,r,rfl,.refl b,trivial,λe a=>?_⟩;simp at a;subst a;exact .inr (.inr ⟨f,rfl⟩)
theorem xQ(l:CR P c)(i:c.fns f=XL){x x':Array XN}(h:au c r x x'):ae P c r (callFunc f x) (callFunc f x') (xC c):=by refine ae.bind (ae.eV bS) λw p u g m=>?_;obtain⟨rfl,rfl⟩:=m;cases a:u.funcs[f]? with|none=>exact ae.stuck|some d=>obtain⟨s,t⟩:=l f d i a;simp only[a,s,VD];cases k:d.body with|some b=>exact ae.pure (.enter i (h.mono g))|none=>obtain⟨n,e,o,q⟩:=t k;simp only[n,o];exact ae.bind (ae.Bs f) λv _ _ j _=>ae.value (q v x x' ((h.mono g).mono j))
theorem wY(a:∀x,b9 c gl x=XL->ak c r (ev x) (ev' x)){l:Array X8}(h:l.all (b9 c gl)=XL):au c r (l.map ev) (l.map ev'):=au.map l ev ev' λx b=>a x (by rw[WX]at h;grind)
theorem vG(a:∀x,b9 c gl x=XL->ak c r (ev x) (ev' x)){l:Array (Nat×X8)}(h:(l.all λp=>b9 c gl p.2)=XL):B1 c r (l.map λ(i,x)=>(i,ev x)) (l.map λ(i,x)=>(i,ev' x)):=by refine⟨?_,?_⟩;{simp};(have e:∀g:X8->XN,((l.map λp=>(p.1,g p.2)).toList.map (·.2)).toArray=l.map λp=>g p.2:=by grind);rw[e ev,e ev'];refine au.map l _ _ λp b=>a p.2 ?_;rw[WX]at h;grind
theorem xP(a:∀x,b9 c gl x=XL->ak c r (ev x) (ev' x)):∀{x:Option X8},x.all (b9 c gl)=XL->jT c r (x.map ev) (x.map ev')|none,_=>trivial|some x,h=>a x (by grind)
theorem xn(o:Yu)(y:X8)(ev ev':X8->XN)(l:o.op=.nilCheck y)(e:ev y=x)(i:ev' y=x')(h:ak c r x x'):ae P c r (XS ev o) (XS ev' o) (xC c):=by unfold XS;rw[l];simp only[e,i];cases h with|gk=>exact ae.runtimePanic|nilIface=>exact ae.runtimePanic|nilFunc=>exact ae.runtimePanic|bool b=>exact ae.pure (.value (.bool b))|int k n=>exact ae.pure (.value (.int k n))|string s=>exact ae.pure (.value (.string s))|ptr a=>exact ae.pure (.value (.ptr a))|il n m=>exact ae.pure (.value (.il n m))|slice n m a=>exact ae.pure (.value (.slice n m a))|cT a f=>exact ae.pure (.value (.cT a f))|kN=>exact ae.pure (.value .kN)|map a=>exact ae.pure (.value (.map a))|@func j z B u A d p q v w=>(cases j with|func g=>exact ae.pure (.value (.func d p q v w))|_=>simp[Fc]at d)|iface t a=>exact ae.pure (.value (.iface t a))|agg a b=>exact ae.pure (.value (.agg a b))|tuple a b=>exact ae.pure (.value (.tuple a b))
theorem mb(h:zE P t=XL):∀e,P.underlying t=XG (.slice e)->jK P e=XL:=λe a=>by unfold zE at h;simp_all
theorem GC(h:OB P t=XL):∀k e,P.underlying t=XG (.map k e)->Bm P k=XL:=λk e a=>by unfold OB at h;simp_all
theorem FQ(h:OM P t=XL):∀k e,P.underlying t=XG (.map k e)->fg P k=XL/\jK P e=XL:=λk e a=>by unfold OM at h;simp_all
theorem uS(h:A7 P t n=XL):∀fs f,P.underlying t=XG (.struct fs)->fs[n]?=XG f->P.cellsOf f.type≠0:=λfs f a b=>by unfold A7 at h;simp_all
theorem FA(N:Fits P c)(K:CR P c){k:Call}(t:XW)(i:BA P c gl k=XL)(B:∀x,b9 c gl x=XL->ak c r (ev x) (ev' x)):ae P c r (do let d<-resolve ev k t;invoke d.target d.args) (do let d<-resolve ev' k t;invoke d.target d.args) (xC c):=by unfold BA at i;simp only[U6]at i;obtain⟨I,i⟩:=i;have h:=wY B I;obtain⟨l,m,A⟩:=k;unfold resolve;cases l with|invoke x n=>simp at i|value f=>have E:=B f i;simp only[];generalize ev f=q at E;generalize ev' f=O at E;(cases E with|@func J z R u M a b d e g=>(cases J with|func j=>refine ae.bind (Q:=λG x y=>x.target=.fn (.func j) u/\y.target=.fn (.func j) M/\au c G x.args y.args) (ae.pure ⟨rfl,rfl,(au.mk b d).append h⟩) λL x y H p=>?_;obtain⟨C,D,v⟩:=p;rw[C,D];exact xQ K (by assumption) (v.append ((au.mk e g).mono H))|_=>simp[Fc]at a)|nilFunc=>exact ae.never (λw=>dC RuntimeError.nilDeref w)|_=>exactλ_ _ _=>rfl)|builtin b=>refine ae.bind (Q:=λG x y=>x.target=.builtin b A t (m.map λ|.const _=>XL|_=>XD)/\y.target=.builtin b A t (m.map λ|.const _=>XL|_=>XD)/\au c G x.args y.args) (ae.pure ⟨rfl,rfl,h⟩) λL x y H p=>?_;obtain⟨C,D,v⟩:=p;rw[C,D];cases b with|len=>exact ae.value (LA _ _ v)|max=>exact ae.value (Ku _ _ v)|min=>exact ae.value (JL _ _ v)|append=>simp only[U6]at i;refine ae.value (B3 (λs e F o=>?_) (λs k F o=>?_) v);{have:=i.1;rw[F]at this;exact mb this e o};have:=i.2;rw[F]at this;simp[Cy,o]at this|_=>simp at i
theorem yv(w:Fits P c)(H:CR P c){o:Yu}(j:BJ P c gl o=XL)(f:∀x,b9 c gl x=XL->ak c r (ev x) (ev' x))(z:∀g,ev (.global g)=ϖ g/\ev' (.global g)=ϖ g):ae P c r (XS ev o) (XS ev' o) (xC c):=by unfold BJ at j;obtain⟨E,D,O,K,A,guard⟩:=o;cases D with|move x=>exact ae.pure (.value (f x j))|assign x=>exact ae.pure (.value (f x j))|pick a b d=>simp only[U6]at j;refine ae.bind (ae.asBool (f a j.1.1)) λM u V C I=>?_;subst I;refine ae.pure (.value ?_);split;{exact(f b j.1.2).mono C};exact(f d j.2).mono C|alloc e=>exact ae.value (AY j)|box e x=>exact ae.value (Jf e (f x j))|build t L=>simp only[U6]at j;exact ae.value (Ee j.1 (vG f j.2))|buildSlice t n L=>simp only[U6]at j;exact ae.value (sJ (mb j.1) (vG f j.2))|load t a=>rcases V5 ..▸j with j|j;{exact ae.value (Bz t (f a j))};(cases a with|global g=>refine ae.value ?_;rw[(z g).1,(z g).2];exact ae.bind (Q:=λ_ a b=>a=⟨g,0,XQ⟩/\b=⟨g,0,XQ⟩) (ae.pure ⟨rfl,rfl⟩) λM a b C⟨F,G⟩=>by subst F G;exact ae.IJ w (by rw[w.aN];simpa[Fp]using j) t|_=>simp[Fp]at j)|store t a x=>simp only[U6]at j;exact ae.unit (Az t (f a j.1) (f x j.2))|nilCheck x=>exact xn _ x ev ev' rfl rfl rfl (f x j)|binOp D t x y u=>simp only[U6,V5,Bool.not_eq_true']at j;exact ae.value (Dg w (λe=>by rcases j.2 with h|h;{rcases e with rfl|rfl<;>simp[isEq]at h};exact h) (f x j.1.1) (f y j.1.2))|unOp D t x=>exact ae.value (Er (f x j))|convert s d x=>simp only[U6]at j;exact ae.value (Ae j.1 (f x j.2))|makeFunc R B q=>simp only[U6]at j;exact ae.value (wX j.1.1 (wY f j.1.2) (wY f j.2))|makeMap t N=>(cases N with|none=>exact ae.value yE|some _=>simp at j)|makeSlice t l k=>simp only[U6]at j;exact ae.value (uN (mb j.1.1) (f l j.1.2) (f k j.2))|slice t x T S U=>simp only[U6]at j;exact ae.value (yP t (f x j.1.1.1) (xP f j.1.1.2) (xP f j.1.2) (xP f j.2))|fieldAddr s x n=>simp only[U6]at j;exact ae.value (ym s n (uS j.1) (f x j.2))|field t x n=>exact ae.value (Ef t n (f x j))|indexAddr t x i=>simp only[U6]at j;exact ae.value (yc t (f x j.1) (f i j.2))|index t x i=>simp only[U6]at j;exact ae.value (Dx t (f x j.1) (f i j.2))|lookup t x i b=>simp only[U6]at j;exact ae.value (BD w (FQ j.1.1) (f x j.1.2) (f i j.2))|mapUpdate t m k v=>simp only[U6]at j;exact ae.unit (u7 w (GC j.1.1.1) (f m j.1.1.2) (f k j.1.2) (f v j.2))|range t x=>simp only[U6]at j;refine ae.value (Dj ?_ (f x j.2));have:=j.1;unfold Fw at this;grind|next J b=>(cases b with|true=>exact ae.value (E1 (f J j))|false=>simp at j)|extract x n=>exact ae.value (zg n (f x j))|call k=>exact FA w H O j f|_=>simp at j
end
section
variable{c:ej}{r:bN}
def codeOk(P:XY)(c:ej)(gl:Nat->Bool):Yt->Bool
 |.skip|.exit _|.label _|.ret|.refuse _=>XL
 |.region _ ops _=>ops.all (BJ P c gl)
 |.seq a b=>codeOk P c gl a&&codeOk P c gl b
 |.cond x a b=>b9 c gl x&&codeOk P c gl a&&codeOk P c gl b
 |.block _ a|.loop a|.scope a=>codeOk P c gl a
 |_=>XD
def opAt(P:XY)(c:ej)(gl:Nat->Bool)(ops:Array Yu)(i:Nat):Bool:=match ops[i]? with|some o=>BJ P c gl o|none=>XL
theorem Gr{c:ej}(h:ops.all (BJ P c gl)=XL)(l:List Nat):l.all (opAt P c gl ops)=XL:=by rw[VC];intro i _;unfold opAt;grind
theorem vg{c:ej}{o:Yu}(h:(i::rest).all (opAt P c gl ops)=XL)(a:ops[i]?=XG o):BJ P c gl o=XL:=by simp only[V2,U6]at h;have:=h.1;unfold opAt at this;simp_all
theorem vO{c:ej}(h:(i::rest).all (opAt P c gl ops)=XL):rest.all (opAt P c gl ops)=XL:=by simp_all
def bK(P:XY)(c:ej)(gl:Nat->Bool):Yi->Bool
 |.code a|.inLoop a|.inScope a=>codeOk P c gl a
 |.inBlock _=>XL
 |.inRegion ops l=>l.all (opAt P c gl ops)
 |_=>XD
def eC(f:X3)(t:Array XN)(k:List Yi)(m:FrameMode):XV:={fn:=f,tmps:=t,todo:=k,defers:=[],mode:=m,kind:=.normal,roundOf:=XQ}
def md(ret:Bool):FrameMode:=if ret then .returning else .run
structure fT where
 f:X3
 t:Array XN
 k:List Yi
 ret:Bool
 st:List (X3×Array XN×List Yi)
def up(x:X3×Array XN×List Yi):XV:=eC x.1 x.2.1 x.2.2 .run
def fT.g(s:fT)(base:List XV):XR:=Go.Conc.G (eC s.f s.t s.k (md s.ret)) (s.st.map up++base)
structure EX(P:XY)(c:ej)(gl:Nat->Bool)(s:fT):Prop where
 fn:True
 items:s.k.all (bK P c gl)=XL
 below:∀x∈s.st,True/\x.2.2.all (bK P c gl)=XL/\∃ops i rest k,x.2.2=.inRegion ops (i::rest)::k
inductive kU(c:ej)(r:bN):List (X3×Array XN×List Yi)->List (X3×Array XN×List Yi)->Prop
 |nil:kU c r [] []
 |cons{f:X3}{t t':Array XN}{k:List Yi}{l l':List (X3×Array XN×List Yi)}:au c r t t'->kU c r l l'->kU c r ((f,t,k)::l) ((f,t',k)::l')
structure uH(c:ej)(r:bN)(s s':fT):Prop where
 f:s'.f=s.f
 t:au c r s.t s'.t
 k:s'.k=s.k
 ret:s'.ret=s.ret
 st:kU c r s.st s'.st
theorem kU.mono{r r':bN}(h:r.le r'){l l':List (X3×Array XN×List Yi)}(k:kU c r l l'):kU c r' l l':=by induction k with|nil=>exact .nil|cons a _ b=>exact .cons (a.mono h) b
structure Listed(P:XY)(c:ej)(gl:Nat->Bool):Prop where
 aN:Fits P c
 rJ:∀g,gl g=XL->c.low g=0
 ext:CR P c
 body:∀(f:X3)(fn:Func),c.fns f=XL->P.funcs[f]?=XG fn->∃b,(fn.body=XQ\/(fn.body=XG b/\codeOk P c gl b=XL))
def fD:XV:={fn:=0,tmps:=#[],todo:=[],defers:=[{target:=.builtin .make #[] 0 #[],args:=#[]}],mode:=.run,kind:=.normal}
def Su(s:GStep):Prop:=(∃o w,s.bare=.ended o w)\/∃(f:X3)(t:Array XN)(k:List Yi)(ch:List PanicEntry)(st:List (X3×Array XN×List Yi))(w:XP)(es:Array Ym),
 s=.go (Go.Conc.G (eC f t k (.panicking ch)) (st.map up++[fD])) w es/\(∀d w r sv,k.head?≠XG (.call d w r sv))/\∀x∈st,∃ops i rest k',x.2.2=.inRegion ops (i::rest)::k'
theorem uj{t:Array XN}(e:au c r t t')(d:∀g,gl g=XL->r g=XG g)(b:∀g,gl g=XL->c.low g=0){k:List Yi}{m:FrameMode}(x:X8)(h:b9 c gl x=XL):ak c r ((eC f t k m).eval x) ((eC f t' k m).eval x):=by cases x with|tmp i=>exact e.getD i gG|const v=>exact im h c r|global g=>exact .ptr ⟨d g h,rfl,rfl,VL (b g h)⟩|func j=>exact .func (by assumption) rfl (λi v l a=>by simp at a) rfl (λi v l a=>by simp at a)
theorem qZ{t:Array XN}(a:au c r t t')(ops:Array Yu)(j:Nat):XX ops t' j=XX ops t j:=by unfold XX;cases(ops[j]?).bind (·.dst)with|none=>rfl|some d=>simp only[Wv];cases b:t[d]? with|none=>rw[a.none b]|some v=>obtain⟨f,e,k⟩:=a.get b;rw[e];cases k<;>rfl
theorem Nq{t:Array XN}{k:List Yi}(v:XN):(eC f t (.inRegion ops (i::rest)::k) .run).finish v=eC f (match(ops[i]?).bind (·.dst)with|some d=>t.setIfInBounds d v|none=>t) (.inRegion ops rest::k) .run:=rfl
theorem pB{t:Array XN}(a:au c r t t')(d:Option Tmp){v:XN}(b:ak c r v v'):au c r (match d with|some d=>t.setIfInBounds d v|none=>t) (match d with|some d=>t'.setIfInBounds d v'|none=>t'):=by cases d with|none=>exact a|some d=>exact a.set d b
end
end Go.ae
namespace Go.ae
open Go.Conc
variable{P:XY}{c:ej}{r r':bN}{gl:Nat->Bool}{w v v' w2 w' v1:XP}{main u:Bool}{bs cs:List XV}{f j f0:X3}{t t' args t0 x':Array XN}{k k0:List Yi}{st st':List (X3×Array XN×List Yi)}{id i b n g:Nat}{x a:Yt}{ops:Array Yu}{rest:List Nat}{o:Yu}{h:Halt}{fn:Func}{α:Type}{s s' s1 s2:fT}{p:fT×XP}{es:Array Ym}{fr' caller:XV}{Good:XN->XP->Prop}{own RO:Nat->Prop}{CU:Nat->Nat->Prop}{Stop:(Nat->Prop)->XR->XP->Prop}{R:Ending->XP->Prop}{fns:X3->Bool}
section
def UB(P:XY)(c:ej)(r:bN)(main:Bool)(base:List XV)(w v:XP)(s':fT)(s1:fT)(w1:XP):Prop:=
 ∃s1' v1 r1 es,XT P main (s'.g base) v=.go (s1'.g base) v1 es/\Ext c r w v r1 w1 v1/\uH c r1 s1 s1'/\∀e∈es,ta c r1 e
def Stp(P:XY)(c:ej)(gl:Nat->Bool)(r:bN)(main:Bool)(base:List XV)(w v:XP)(s s':fT):Prop:=
 (∃s1 w1 es1,XT P XL (s.g [fD]) w=.go (s1.g [fD]) w1 es1/\EX P c gl s1/\UB P c r main base w v s' s1 w1)\/Su (XT P XL (s.g [fD]) w)
theorem fT.vW(f:X3)(t:Array XN)(k:List Yi)(a:List (X3×Array XN×List Yi))(bs:List XV):(fT.mk f t k XD a).g bs=G (eC f t k .run) (a.map up++bs):=rfl
theorem Stp.ctl{k1:List Yi}{ret1:Bool}(l:ef c r w v)(j:au c r t t')(a:kU c r st st')(b:EX P c gl ⟨f,t,k,XD,st⟩)(i:k1.all (bK P c gl)=XL)(h:∀(main:Bool)(cs:List XV)(w:XP),XT P main (G (eC f t k .run) cs) w=.go (G (eC f t k1 (md ret1)) cs) w #[])(d:∀(main:Bool)(cs:List XV)(w:XP),XT P main (G (eC f t' k .run) cs) w=.go (G (eC f t' k1 (md ret1)) cs) w #[]):Stp P c gl r main bs w v ⟨f,t,k,XD,st⟩ ⟨f,t',k,XD,st'⟩:=.inl ⟨⟨f,t,k1,ret1,st⟩,w,#[],h _ _ _,⟨b.fn,i,b.below⟩,⟨f,t',k1,ret1,st'⟩,v,r,#[],d _ _ _,.refl l,⟨rfl,j,rfl,rfl,a⟩,λe g=>by simp at g⟩
theorem nU{q:Yi->Bool}:∀{k k':List Yi},exitTo id k=XG k'->k.all q=XL->k'.all q=XL|[],_,h,_=>by simp[exitTo]at h|x::k,k',h,b=>by simp only[V2,U6]at b;unfold exitTo at h;split at h;{rename_i d f e;cases e;split at h;{simp_all};exact nU h b.2};{rename_i e;cases e;exact nU h b.2};simp_all
theorem tQ:XT P main (G (eC f t (.code .ret::k) .run) cs) w=.go (G (eC f t (.code .ret::k) .returning) cs) w #[]:=by rfl
theorem mQ:XT P main (G (eC f t (.inScope x::k) .run) cs) w=.go (G (eC f t k .run) cs) w #[]:=by rfl
theorem pG:XT P main (G (eC f t (.code (.scope x)::k) .run) cs) w=.go (G (eC f t (.code x::.inScope x::k) .run) cs) w #[]:=by rfl
theorem lP(h:exitTo id k=XQ):XT P main (G (eC f t (.code (.exit id)::k) .run) cs) w=.ended (.stuck "exit, goto: no such block or label" ((eC f t (.code (.exit id)::k) .run).pos P)) w #[]:=by simp only[G,XT,XT.exec,eC,h,Option.elim,VD,if_false]
theorem mJ:XT P main (G (eC f t (.code (.region id ops XL)::k) .run) cs) w=match(choose (.order f id)).run P w with|.ok b w=>.go (G (eC f t (.inRegion ops (Region.schedule (P.follows .mixedOrders) ops b)::k) .run) cs) w #[]|.halt _ w=>.ended (.stuck "order" ((eC f t (.code (.region id ops XL)::k) .run).pos P)) w:=by rfl
theorem stepG_unwanted(h:((ops[i]?).map (Region.wanted · (XX ops t))).getD XD=XD):XT P main (G (eC f t (.inRegion ops (i::rest)::k) .run) cs) w=.go (G ((eC f t (.inRegion ops (i::rest)::k) .run).finish XZ) cs) w #[]:=by simp only[G,XT,XT.exec,eC,h,VD,if_false]
section op
variable{w1:XP}
abbrev rR(f:X3)(t:Array XN)(ops:Array Yu)(i:Nat)(rest:List Nat)(k:List Yi):XV:=eC f t (.inRegion ops (i::rest)::k) .run
theorem kX{v:XN}(d:ops[i]?=XG o)(e:Region.wanted o (XX ops t)=XL)(b:(XS (rR f t ops i rest k).eval o).run P w=.ok (.value v) w1):XT P main (G (rR f t ops i rest k) cs) w=.go (G ((rR f t ops i rest k).finish v) cs) w1 (seen P f ((XS (rR f t ops i rest k).eval o).events P w #[])):=by simp only[eC]at b;simp[G,XT,XT.exec,XT.oper,XT.apply,XV.oper?,eC,d,e,b,GStep.after]
theorem mg(d:ops[i]?=XG o)(e:Region.wanted o (XX ops t)=XL)(b:(XS (rR f t ops i rest k).eval o).run P w=.ok .skip w1):XT P main (G (rR f t ops i rest k) cs) w=.go (G ((rR f t ops i rest k).finish XZ) cs) w1 (seen P f ((XS (rR f t ops i rest k).eval o).events P w #[])):=by simp only[eC]at b;simp[G,XT,XT.exec,XT.oper,XT.apply,XV.oper?,eC,d,e,b,GStep.after]
theorem lJ(d:ops[i]?=XG o)(e:Region.wanted o (XX ops t)=XL)(b:(XS (rR f t ops i rest k).eval o).run P w=.ok (.enter j args) w1):XT P main (G (rR f t ops i rest k) cs) w=.go (G (XV.enter P j args .normal) (rR f t ops i rest k::cs)) w1 (seen P f ((XS (rR f t ops i rest k).eval o).events P w #[])):=by simp only[eC]at b;simp[G,XT,XT.exec,XT.oper,XT.apply,XV.oper?,eC,d,e,b,GStep.after]
theorem pw{v:XN}(e:ops[i]?=XG o)(g:Region.wanted o (XX ops t)=XL)(d:(XS (rR f t ops i rest k).eval o).run P w=.halt (.panic v) w1):XT P main (G (rR f t ops i rest k) cs) w=.go (G (eC f t (.inRegion ops (i::rest)::k) (.panicking [{v,recovered:=XD}])) cs) w1 (seen P f ((XS (rR f t ops i rest k).eval o).events P w #[])):=by simp only[eC]at d;simp[G,XT,XT.exec,XT.oper,XT.apply,XV.oper?,eC,e,g,d,GStep.after,XV.raise]
theorem rj(e:ops[i]?=XG o)(j:Region.wanted o (XX ops t)=XL)(b:(XS (rR f t ops i rest k).eval o).run P w=.halt h w1)(d:A4 h=XL)(l:∀v,h≠.panic v):∃x w2,(XT P main (G (rR f t ops i rest k) cs) w).bare=.ended x w2:=by simp only[eC]at b;cases h with|panic v=>simp_all|stuck s=>simp[G,XT,XT.exec,XT.oper,XT.apply,XV.oper?,eC,e,j,b]|unsupported u=>(cases u with|initOrder g=>simp[A4]at d|_=>simp[G,XT,XT.exec,XT.oper,XT.apply,XV.oper?,eC,e,j,b])|_=>simp[A4]at d
end op
theorem EX.yR(b:EX P c gl ⟨f,t,.inRegion ops (i::rest)::k,XD,st⟩):(i::rest).all (opAt P c gl ops)=XL/\k.all (bK P c gl)=XL:=by have:=b.items;simp only[V2,U6]at this;exact this
theorem ij(args:Array XN)(a:P.funcs[f]?=XG fn):XV.enter P f args .normal=eC f (args++Array.replicate (fn.ntmps-args.size) XZ) [.code (fn.body.getD (.refuse "unsupported: a function without a Go body is entered"))] .run:=by simp[XV.enter,eC,a]
theorem sR(args:Array XN)(a:P.funcs[f]?=XQ):XV.enter P f args .normal=eC f (args++Array.replicate (0-args.size) XZ) [.code (.refuse "unsupported: a function without a Go body is entered")] .run:=by simp[XV.enter,eC,a]
theorem yd(g:Listed P c gl)(f:c.fns j=XL)(x d:Array XN):∃n b,(XV.enter P j x .normal=eC j (x++Array.replicate (n-x.size) XZ) [.code b] .run/\XV.enter P j d .normal=eC j (d++Array.replicate (n-d.size) XZ) [.code b] .run)/\codeOk P c gl b=XL:=by cases a:P.funcs[j]? with|none=>exact⟨0,_,⟨sR x a,sR d a⟩,rfl⟩|some e=>refine⟨e.ntmps,_,⟨ij x a,ij d a⟩,?_⟩;obtain⟨b,h|⟨h,i⟩⟩:=g.body j e f a;{rw[h];rfl};simp_all
theorem KW(I:Listed P c gl)(V:∀g,gl g=XL->r g=XG g)(Y:ef c r w v)(E:au c r t t')(D:kU c r st st')(A:EX P c gl ⟨f,t,.inRegion ops (i::rest)::k,XD,st⟩)(z:ops[i]?=XG o)(a:Region.wanted o (XX ops t)=XL):Stp P c gl r main bs w v ⟨f,t,.inRegion ops (i::rest)::k,XD,st⟩ ⟨f,t',.inRegion ops (i::rest)::k,XD,st'⟩:=by obtain⟨p,R⟩:=A.yR;have M:=vg p z;have m:=yv I.aN I.ext M (ev:=(rR f t ops i rest k).eval) (λx q=>uj E V I.rJ x q) (λ_=>⟨rfl,rfl⟩) w v Y;(have l:Region.wanted o (XX ops t')=XL:=by rw[funext λj=>qZ E ops j];exact a);unfold Stp;rw[fT.vW];cases q:(XS (rR f t ops i rest k).eval o).run P w with|halt h H=>rw[q]at m;refine .inr ?_;by_cases S:∃u,h=.panic u;{obtain⟨u,rfl⟩:=S;rw[pw z a q];refine .inr ⟨f,t,_,_,st,H,_,rfl,λd w r sv=>by simp,λx q=>(A.below x q).2.2⟩};obtain⟨x,w2,e⟩:=rj z a q m (λu e=>S ⟨u,e⟩);exact .inl ⟨x,w2,e⟩|ok n H=>rw[q]at m;obtain⟨n',O,J,L,B,q1,Z⟩:=m;have C:∀e∈seen P f ((XS (rR f t' ops i rest k).eval o).events P v #[]),ta c J e:=λe U=>Z e (mem_seen U);refine .inl ?_;cases q1 with|@value u u' X=>refine⟨⟨f,_,.inRegion ops rest::k,XD,st⟩,H,seen P f ((XS (rR f t ops i rest k).eval o).events P w #[]),(kX z a q).trans ?_,⟨A.fn,?_,A.below⟩,⟨f,_,.inRegion ops rest::k,XD,st'⟩,O,J,_,(kX z l L).trans ?_,B,⟨rfl,pB (E.mono B.le) ((ops[i]?).bind (·.dst)) X,rfl,rfl,D.mono B.le⟩,C⟩;{rfl};{simp only[V2,bK,R,vO p,Bool.and_self]};rfl|skip=>refine⟨⟨f,_,.inRegion ops rest::k,XD,st⟩,H,seen P f ((XS (rR f t ops i rest k).eval o).events P w #[]),(mg z a q).trans ?_,⟨A.fn,?_,A.below⟩,⟨f,_,.inRegion ops rest::k,XD,st'⟩,O,J,_,(mg z l L).trans ?_,B,⟨rfl,pB (E.mono B.le) ((ops[i]?).bind (·.dst)) gG,rfl,rfl,D.mono B.le⟩,C⟩;{rfl};{simp only[V2,bK,R,vO p,Bool.and_self]};rfl|@enter j x K W F=>obtain⟨n,b,Q,T⟩:=yd I W x K;refine⟨⟨j,x++Array.replicate (n-x.size) XZ,[.code b],XD,(f,t,.inRegion ops (i::rest)::k)::st⟩,H,seen P f ((XS (rR f t ops i rest k).eval o).events P w #[]),(lJ z a q).trans ?_,⟨trivial,?_,?_⟩,⟨j,K++Array.replicate (n-K.size) XZ,[.code b],XD,(f,t',.inRegion ops (i::rest)::k)::st'⟩,O,J,_,(lJ z l L).trans ?_,B,⟨rfl,?_,rfl,rfl,.cons (E.mono B.le) (D.mono B.le)⟩,C⟩;{rw[Q.1];rfl};{simp[bK,T]};{intro y N;rcases Va.1 N with rfl|N;{exact⟨A.fn,A.items,ops,i,rest,k,rfl⟩};exact A.below y N};{rw[Q.2];rfl};rw[F.size.symm];exact F.append (.replicate _ gG)
end
section
theorem ae.yu{f f':α->Yb XN}:∀(l:List α){r:bN}{x x':Array XN},au c r x x'->(∀a b,r.le b->ae P c b (f a) (f' a) (ak c))->ae P c r (l.foldlM (λbs a=>Functor.map bs.push (f a)) x) (l.foldlM (λbs a=>bs.push<$>f' a) x') (au c)|[],_,_,_,h,_=>ae.pure h|a::l,r,x,x',h,e=>by simp only[Xx];refine ae.bind (Q:=au c) ?_ λb y n d j=>ae.yu l j λa k g=>e a k (bN.le_trans d g);simp only[<-bind_pure_comp];exact ae.bind (e a r (bN.le_refl r)) λb v m d i=>ae.pure ((h.mono d).push i)
theorem ae.mapM{f f':α->Yb XN}(l:Array α)(h:∀a b,r.le b->ae P c b (f a) (f' a) (ak c)):ae P c r (l.mapM f) (l.mapM f') (au c):=by rw[Ye,Ye,<-Yf,<-Yf];exact ae.yu l.toList .empty h
theorem j9(fn:Func)(h:au c r t t'):ae P c r (results fn t) (results fn t') (ak c):=by refine ae.bind (ae.mapM _ λa g d=>?_) λg x m d b=>ae.pure ?_;{cases a with|tmp i=>exact ae.pure ((h.mono d).getD i gG)|cell i j=>exact ae.bind (ae.asAddr ((h.mono d).getD i gG)) λl a k _ f=>ae.loadVar j f};by_cases e:x.size=1;{rw[dif_pos e,dif_pos (b.size▸e)];exact b.el 0 _ _ (Ve _) (Ve _)};rw[dif_neg e,dif_neg (b.size▸e)];exact .tuple b.size b.el
section ret
variable{x:XV}{w1:XP}
theorem fw(a:P.funcs[f]?=XQ):XT P main (G (eC f t k .returning) (x::cs)) w=.go (G (x.finish (t.getD 0 XZ)) cs) w #[]:=by simp[G,XT,unwind,doReturn,eC,a]
theorem bJ{v:XN}(a:P.funcs[f]?=XG fn)(b:(results fn t).run P w=.ok v w1):XT P main (G (eC f t k .returning) (x::cs)) w=.go (G (x.finish v) cs) w1 (seen P f ((results fn t).events P w #[])):=by simp[G,XT,unwind,doReturn,eC,a,b,GStep.after]
theorem gH(a:P.funcs[f]?=XG fn)(b:(results fn t).run P w=.halt h w1):∃o w2,(XT P main (G (eC f t k .returning) (x::cs)) w).bare=.ended o w2:=by cases h<;>simp[G,XT,unwind,eC,a,b]
end ret
theorem zU{t0':Array XN}(A:ef c r w v)(z:au c r t t')(l:au c r t0 t0')(j:kU c r st st')(y:EX P c gl ⟨f,t,k,XL,(f0,t0,.inRegion ops (i::rest)::k0)::st⟩):Stp P c gl r main bs w v ⟨f,t,k,XL,(f0,t0,.inRegion ops (i::rest)::k0)::st⟩ ⟨f,t',k,XL,(f0,t0',.inRegion ops (i::rest)::k0)::st'⟩:=by obtain⟨s,C,-⟩:=y.below _ (U8 ..);have a:=λx m=>y.below x (Vl _ m);(have g:(Yi.inRegion ops rest::k0).all (bK P c gl)=XL:=by simp only[V2,bK]at C⊢;simp_all);cases d:P.funcs[f]? with|none=>refine .inl ⟨⟨f0,_,.inRegion ops rest::k0,XD,st⟩,w,#[],(fw d).trans ?_,⟨s,g,a⟩,⟨f0,_,.inRegion ops rest::k0,XD,st'⟩,v,r,#[],(fw d).trans ?_,.refl A,⟨rfl,pB l ((ops[i]?).bind (·.dst)) (z.getD 0 gG),rfl,rfl,j⟩,λe p=>by simp at p⟩;{rfl};rfl|some n=>have b:=j9 n z (P:=P) w v A;cases m:(results n t).run P w with|halt h B=>exact .inr (.inl (gH d m))|ok u B=>rw[m]at b;obtain⟨J,I,H,D,q,F,E⟩:=b;refine .inl ⟨⟨f0,_,.inRegion ops rest::k0,XD,st⟩,B,seen P f ((results n t).events P w #[]),(bJ d m).trans ?_,⟨s,g,a⟩,⟨f0,_,.inRegion ops rest::k0,XD,st'⟩,I,H,seen P f ((results n t').events P v #[]),(bJ d D).trans ?_,q,⟨rfl,pB (l.mono q.le) ((ops[i]?).bind (·.dst)) F,rfl,rfl,j.mono q.le⟩,λe p=>E e (mem_seen p)⟩;{rfl};rfl
theorem mK{x:X8}{b:Yt}(h:(eC f t (.code (.cond x a b)::k) .run).eval x=.bool u):XT P main (G (eC f t (.code (.cond x a b)::k) .run) cs) w=.go (G (eC f t (.code (if u then a else b)::k) .run) cs) w #[]:=by simp only[eC]at h;simp[G,XT,XT.exec,eC,h]
theorem ma{x:X8}{b:Yt}(h:∀u,(eC f t (.code (.cond x a b)::k) .run).eval x≠.bool u):∃o w2,(XT P main (G (eC f t (.code (.cond x a b)::k) .run) cs) w).bare=.ended o w2:=by simp only[eC]at h;simp only[G,XT,XT.exec,eC];simp
theorem RF{x x':XN}(h:x=.bool u)(k:ak c r x x'):x'=.bool u:=by subst h;cases k;rfl
theorem x6(V:Listed P c gl)(U:∀g,gl g=XL->r g=XG g)(z:ef c r w v)(hr:uH c r s s')(p:EX P c gl s)(hne:s.ret=XL->s.st≠[]):Stp P c gl r main bs w v s s':=by obtain⟨f,t,k,R,Y⟩:=s;obtain⟨f',M,k',K,L⟩:=s';obtain⟨N,y,Z,e3,d⟩:=hr;simp only at N y Z e3 d;subst f' k' K;cases R with|true=>(cases d with|nil=>simp_all|@cons f0 t0 t0' k0 l l' h0 O=>obtain⟨-,-,n,i,B,k1,e⟩:=p.below _ (U8 ..);simp only at e;subst e;exact zU z y h0 O p)|false=>cases k with|nil=>exact Stp.ctl (ret1:=XL) (k1:=[]) z y d p rfl (λ_ _ _=>by rfl) (λ_ _ _=>by rfl)|cons x k=>have q:=p.items;simp only[V2,U6]at q;obtain⟨q,A⟩:=q;cases x with|code a=>(cases a with|skip=>exact Stp.ctl (ret1:=XD) (k1:=k) z y d p A (λ_ _ _=>by rfl) (λ_ _ _=>by rfl)|label l=>exact Stp.ctl (ret1:=XD) (k1:=k) z y d p A (λ_ _ _=>by rfl) (λ_ _ _=>by rfl)|ret=>exact Stp.ctl (ret1:=XL) z y d p p.items (λ_ _ _=>tQ) (λ_ _ _=>tQ)|seq a b=>exact Stp.ctl (ret1:=XD) (k1:=.code a::.code b::k) z y d p (by simp only[bK,codeOk,U6]at q;simp[bK,codeOk,A,q]) (λ_ _ _=>by rfl) (λ_ _ _=>by rfl)|block id a=>exact Stp.ctl (ret1:=XD) (k1:=.code a::.inBlock id::k) z y d p (by simp only[bK,codeOk,U6]at q;simp[bK,codeOk,A,q]) (λ_ _ _=>by rfl) (λ_ _ _=>by rfl)|loop a=>exact Stp.ctl (ret1:=XD) (k1:=.code a::.inLoop a::k) z y d p (by simp only[bK,codeOk,U6]at q;simp[bK,codeOk,A,q]) (λ_ _ _=>by rfl) (λ_ _ _=>by rfl)|scope a=>exact Stp.ctl (ret1:=XD) (k1:=.code a::.inScope a::k) z y d p (by simp only[bK,codeOk,U6]at q;simp[bK,codeOk,A,q]) (λ_ _ _=>pG) (λ_ _ _=>pG)|refuse why=>exact .inr (.inl ⟨_,w,by rfl⟩)|exit id=>(cases D:exitTo id k with|none=>exact .inr (.inl ⟨_,w,by rw[fT.vW,lP D];rfl⟩)|some k1=>exact Stp.ctl (ret1:=XD) z y d p (nU D A) (λ_ _ _=>by simp[G,XT,XT.exec,eC,md,D]) (λ_ _ _=>by simp[G,XT,XT.exec,eC,md,D]))|cond x a b=>simp only[bK,codeOk,U6]at q;have hv:=uj y U V.rJ (f:=f) (k:=.code (.cond x a b)::k) (m:=.run) x q.1.1;(cases J:(eC f t (.code (.cond x a b)::k) .run).eval x with|bool u=>have:=RF J hv;exact Stp.ctl (ret1:=XD) (k1:=.code (if u then a else b)::k) z y d p (by cases u<;>simp[bK,q,A]) (λ_ _ _=>mK J) (λ_ _ _=>mK this)|_=>exact .inr (.inl (ma λu e=>by simp_all)))|region id n F=>(have I:n.all (BJ P c gl)=XL:=by assumption);(have H:∀l,(Yi.inRegion n l::k).all (bK P c gl)=XL:=λl=>by simp only[V2,U6];exact⟨Gr I l,A⟩);(cases F with|false=>exact Stp.ctl (ret1:=XD) (k1:=.inRegion n (List.range n.size)::k) z y d p (H _) (λ_ _ _=>by rfl) (λ_ _ _=>by rfl)|true=>have X:=ae.cE (r:=r) (c:=c) (P:=P) (iA (.order f id)) w v z;unfold Stp;rw[fT.vW,mJ];cases hc:(choose (.order f id)).run P w with|halt h S=>exact .inr (.inl ⟨_,S,rfl⟩)|ok u S=>rw[hc]at X;obtain⟨u',v1,r1,N,T,q1,-⟩:=X;subst q1;refine .inl ⟨⟨f,t,_,XD,Y⟩,S,#[],rfl,⟨p.fn,H _,p.below⟩,⟨f,M,_,XD,L⟩,v1,r1,#[],?_,T,⟨rfl,y.mono T.le,rfl,rfl,d.mono T.le⟩,λe D=>by simp at D⟩;rw[fT.vW,mJ,N];rfl)|rangeFunc _ _ _ _=>simp[bK,codeOk]at q|goto l=>simp[bK,codeOk]at q)|inBlock id=>exact Stp.ctl (ret1:=XD) (k1:=k) z y d p A (λ_ _ _=>by rfl) (λ_ _ _=>by rfl)|inLoop a=>exact Stp.ctl (ret1:=XD) (k1:=.code a::.inLoop a::k) z y d p (by simp only[bK]at q;simp[bK,A,q]) (λ_ _ _=>by rfl) (λ_ _ _=>by rfl)|inScope a=>exact Stp.ctl (ret1:=XD) (k1:=k) z y d p A (λ_ _ _=>mQ) (λ_ _ _=>mQ)|inRegion n l=>(cases l with|nil=>exact Stp.ctl (ret1:=XD) (k1:=k) z y d p A (λ_ _ _=>by rfl) (λ_ _ _=>by rfl)|cons i B=>cases E:((n[i]?).map (Region.wanted · (XX n t))).getD XD with|true=>(cases W:n[i]? with|none=>simp_all|some o=>rw[W]at E;exact KW V U z y d p W (by simp_all))|false=>(have Q:((n[i]?).map (Region.wanted · (XX n M))).getD XD=XD:=by rw[show XX n M=XX n t from funext λj=>qZ y n j];exact E);refine .inl ⟨⟨f,_,.inRegion n B::k,XD,Y⟩,w,#[],(stepG_unwanted E).trans ?_,⟨p.fn,?_,p.below⟩,⟨f,_,.inRegion n B::k,XD,L⟩,v,r,#[],(stepG_unwanted Q).trans ?_,.refl z,⟨rfl,pB y ((n[i]?).bind (·.dst)) gG,rfl,rfl,d⟩,λe D=>by simp at D⟩;{rfl};{have:=p.items;simp only[V2,bK,U6]at this⊢;simp_all};rfl)|inRangeFunc _=>simp[bK]at q|endRangeFunc _=>simp[bK]at q|beginRound=>simp[bK]at q|call _ _ _ _=>simp[bK]at q|extern _ _=>simp[bK]at q
end
def re(w:XP)(T:Nat->Yx->Nat)(D:Nat):XP:={w with tape:=T,drawn:=D}
@[simp]theorem Um(w:XP)(T b:Nat->Yx->Nat)(D a:Nat):re (re w T D) b a=re w b a:=rfl
@[simp]theorem wR(w:XP)(T:Nat->Yx->Nat)(D:Nat):(re w T D).heap=w.heap:=rfl
@[simp]theorem C1(w:XP)(T:Nat->Yx->Nat)(D:Nat)(a:Yl):(re w T D).cell? a=w.cell? a:=rfl
theorem AZ(w:XP)(T:Nat->Yx->Nat)(D:Nat)(p:XY)(a:Yl)(b:Bool):(re w T D).farLoad p a b=w.farLoad p a b:=rfl
theorem wq(w:XP)(T:Nat->Yx->Nat)(D:Nat)(p:XY)(a:Yl)(u:XW)(k:Yl)(v:XN)(b:Bool):(re w T D).viewStore p a u k v b=(w.viewStore p a u k v b).map λx=>(re x.1 T D,x.2):=by unfold XP.viewStore;have e:(re w T D).seen p a u k b=w.seen p a u k b:=rfl;rw[e];generalize w.seen p a u k b=j;by_cases i:(!tight p p.depth u)=XL;{simp only[i];rfl};simp only[i,VD];cases j with|error s=>rfl|ok x=>obtain⟨c,e,l,g,f,d⟩:=x;cases n:v.bytes? with|none=>rfl|some bytes=>simp only[bind,Except.bind,pure];by_cases h:XG bytes.length=Option.map (λx=>x.length) f.bytes?;{simp only[ne_eq,h,eq_false];generalize(List.foldlM (m:=Except String) _ c d)=z;cases z<;>rfl};simp only[ne_eq,h,eq_true];rfl
theorem qT(w:XP)(T:Nat->Yx->Nat)(D:Nat)(p:XY)(a:Yl)(v:XN)(b:Bool):(re w T D).farStore p a v b=(w.farStore p a v b).map λx=>(re x.1 T D,x.2):=by unfold XP.farStore;rw[wR];cases w.heap[a.block]? with|none=>rfl|some o=>(cases o<;>try rfl);simp only[wq];generalize w.viewStore _ _ _ _ _ _=z;cases z<;>rfl
theorem Ec(w:XP)(T:Nat->Yx->Nat)(D:Nat)(a:Yl)(n:Nat):(re w T D).freeze a n=re (w.freeze a n) T D:=by unfold XP.freeze;split<;>rfl
def zT:XN->Bool
 |.agg _|.tuple _=>XL
 |_=>XD
theorem Tt(v:XN):zT v=XL\/zT v=XD:=by simp
theorem uX(m:Mode)(a:Yl)(g:Yb α){v:XN}(h:zT v=XL)(w:XP):∃z,(Yb.store m a v g).run P w=.halt z w:=by cases v<;>simp[zT]at h<;>exact⟨_,rfl⟩
theorem tY(m:Mode)(a:Yl)(g:Yb α){v:XN}(h:zT v=XD)(w:XP):(Yb.store m a v g).run P w=match w.cell? a with|some _=>if w.frozen? a then .halt (.unsupported (.unsafePointer "a write to bytes that a string shares")) w else g.run P (w.setCell a v)|none=>match w.farStore P a v (m==.atomic)with|.ok x=>g.run P x.1|.error h=>.halt h w:=by cases v<;>simp[zT]at h<;>(simp only[Yb.run];split;{rename_i b;rw[b]};·split<;>simp_all)
theorem pU(m:Mode)(a:Yl)(g:Yb α){v:XN}(h:zT v=XD)(w:XP):(Yb.store m a v g).events P w #[]=match w.cell? a with|some _=>if w.frozen? a then#[]else g.events P (w.setCell a v) (#[].push ⟨.cell a,XL,m==.atomic⟩)|none=>match w.farStore P a v (m==.atomic)with|.ok x=>g.events P x.1 (#[]++x.2.toArray.map (⟨.cell ·,XL,m==.atomic⟩))|.error _=>#[]:=by cases v<;>simp[zT]at h<;>(simp only[Yb.events,Yb.runT];split<;>(try split)<;>simp_all)
theorem DW(w:XP)(T:Nat->Yx->Nat)(D:Nat)(a:Yl):(re w T D).frozen? a=w.frozen? a:=rfl
theorem uO{w1:XP}{p:XY}{a:Yl}{v:XN}{b:Bool}{l:List Yl}(h:w.farStore p a v b=.ok (w1,l)):w1.drawn=w.drawn/\w1.tape=w.tape:=by have c:w.farStore p a v b=(w.farStore p a v b).map λx=>(re x.1 w.tape w.drawn,x.2):=qT w w.tape w.drawn p a v b;rw[h]at c;injection c with c;have:=(VF c).1;exact⟨(congrArg XP.drawn this).trans rfl,(congrArg XP.tape this).trans rfl⟩
theorem zW(x:Yb α):∀{w w1:XP}{a:α},x.run P w=.ok a w1->(∀e∈x.events P w #[],e.loc≠.output)->w.drawn<=w1.drawn/\w1.tape=w.tape/\∀(T:Nat->Yx->Nat)(D:Nat),(∀j q,w.drawn+j<w1.drawn->T (D+j) q=w.tape (w.drawn+j) q)->x.run P (re w T D)=.ok a (re w1 T (D+(w1.drawn-w.drawn))):=by induction x with|pure a=>simp|halt z=>simp|program g d=>intro w w1 b h c;exact d P h c|mark m g d=>intro w w1 b h c;refine d h λe i=>c e ?_;show e∈g.events P w _;rw[Yb.events_acc];simp_all|sys s g _=>intro w w1 b h c;refine absurd rfl (c ⟨.output,XL,XD⟩ ?_);show _∈(g _).events P _ _;rw[Yb.events_acc];simp|choose q g d=>intro w w1 b h c;have B:∀u:XP,(Yb.choose q g).run P u=if q.forced then(g 0).run P u else(g (q.cut (u.tape u.drawn q))).run P {u with drawn:=u.drawn+1}:=λ_=>rfl;(have I:(Yb.choose q g).events P w #[]=if q.forced then(g 0).events P w #[]else(g (q.cut (w.tape w.drawn q))).events P {w with drawn:=w.drawn+1} #[]:=by simp only[Yb.events,Yb.runT];grind);rw[B]at h;rw[I]at c;simp only[B];by_cases F:q.forced=XL;{grind};rw[if_neg F]at h c;simp only[F,VD,if_false];obtain⟨J,H,K⟩:=d _ h c;simp only at J H;refine⟨by omega,H,λT D t=>?_⟩;(have:=K T (D+1) λj q M=>by have:=t (j+1) q (by grind);grind);have C:=t 0 q Ω;simp only[Vz]at C;show(g (q.cut (T D q))).run P (re w T (D+1))=_;rw[C];refine Eq.trans this ?_;grind|load m a g d=>intro w w1 b h c;simp only[Yb.run,C1,AZ]at h⊢;(cases r:w.cell? a with|some v=>rw[r]at h;refine d v h λe i=>c e ?_;simp only[Yb.events,Yb.runT,r];show e∈(g v).events P w _;rw[Yb.events_acc];simp_all|none=>rw[r]at h;cases l:w.farLoad P a (m==.atomic)with|error z=>simp_all|ok x=>rw[l]at h;refine d x.1 h λe i=>c e ?_;simp only[Yb.events,Yb.runT,r,l];show e∈(g x.1).events P w _;rw[Yb.events_acc];simp_all)|store m a v g d=>intro w w1 b h c;rcases Tt v with y|y;{obtain⟨z,N⟩:=uX (P:=P) m a g y w;simp_all};simp only[tY m a g y,C1,qT,DW]at h⊢;rw[pU m a g y]at c;(cases r:w.cell? a with|some u=>rw[r]at h c;simp only at h c⊢;split at h;{cases h};rename_i l;rw[if_neg l]at c;have:=d (w:=w.setCell a v) h λe i=>c e (by rw[Yb.events_acc];simp_all);refine⟨this.1,this.2.1,λT D t=>?_⟩;exact(if_neg l).trans (this.2.2 T D t)|none=>rw[r]at h c;simp only at h c⊢;cases l:w.farStore P a v (m==.atomic)with|error z=>simp_all|ok x=>rw[l]at h c;simp only[Except.map]at h c⊢;have A:=uO l;have:=d (w:=x.1) h λe i=>c e (by rw[Yb.events_acc];simp_all);simp_all)|new o g d=>intro w w1 b h c;exact d _ h c|shape k g d=>intro w w1 b h c;exact d _ h c|freeze a n g d=>intro w w1 b h c;(have A:(w.freeze a n).drawn=w.drawn/\(w.freeze a n).tape=w.tape:=by unfold XP.freeze;grind);have:=d (w:=w.freeze a n) h c;rw[A.1,A.2]at this;simp only[Yb.run,Ec];exact this|frozen a g d=>intro w w1 b h c;exact d _ h c|getObj k g d=>intro w w1 b h c;(cases f:w.heap[k]? with|none=>simp only[Yb.run,f]at h;cases h|some o=>cases o<;>first|(simp only[Yb.run,f]at h;cases h;done)|(simp only[Yb.run,f,wR]at h⊢;refine d _ h λe i=>c e ?_;simp only[Yb.events,Yb.runT,f];show e∈(g _).events P w _;rw[Yb.events_acc];exact VG.2 (.inr i)))|setObj k o g d=>intro w w1 b h c;cases f:w.heap[k]? with|none=>simp only[Yb.run,f]at h;cases h|some L=>cases L<;>first|(simp only[Yb.run,f]at h;cases h;done)|(simp only[Yb.run,f,wR]at h⊢;refine d (w:={w with heap:=w.heap.setIfInBounds k o}) h λe i=>c e ?_;simp only[Yb.events,Yb.runT,f];show e∈g.events P _ _;rw[Yb.events_acc];exact VG.2 (.inr i))
def nG(r:bN):bN:=λb=>if(r b).isSome then XG b else XQ
theorem qw{k:Nat}(h:r b=XG k):nG r b=XG b:=by simp[nG,h]
theorem mZ{k:Nat}(h:nG r b=XG k):k=b/\∃j,r b=XG j:=by unfold nG at h;split at h;{rename_i e;cases h;exact⟨rfl,Wx.1 e⟩};cases h
theorem dm.self{a a':Yl}(h:dm c r a a'):dm c (nG r) a a:=⟨qw h.1,rfl,rfl,h.2.2.2⟩
theorem l8{x:Array XN}(b:x.size=x'.size)(h:∀(i:Nat)(v a:XN),x[i]?=XG v->x'[i]?=XG a->ak c (nG r) v v):∀(i:Nat)(v a:XN),x[i]?=XG v->x[i]?=XG a->ak c (nG r) v a:=by grind
theorem ak.self{v v':XN}(h:ak c r v v'):ak c (nG r) v v:=by induction h with|bool b=>exact .bool b|int k n=>exact .int k n|string s=>exact .string s|gk=>exact .gk|ptr a=>exact .ptr a.self|il n m=>exact .il n m|slice n m a=>exact .slice n m a.self|cT a l=>exact .cT a a|kN=>exact .kN|map a=>exact .map (qw a)|func g i _ j _ e f=>exact .func g rfl (l8 i e) rfl (l8 j f)|nilFunc=>exact .nilFunc|nilIface=>exact .nilIface|iface t _ d=>exact .iface t d|agg s _ d=>exact .agg rfl (l8 s d)|tuple s _ d=>exact .tuple rfl (l8 s d)
theorem au.self{x:Array XN}(h:au c r x x'):au c (nG r) x x:=⟨rfl,l8 h.size λi v d a b=>(h.el i v d a b).self⟩
theorem me.self{o o':Yd}(h:me c r o o'):me c (nG r) o o:=by cases h with|cells t f k=>exact .cells t f k.self|@map x j k s e=>refine .map k rfl λi d m a b=>?_;rw[a]at b;cases b;have g:=s▸(U3.1 a).1;have:=e i d _ a (Ve g);exact⟨this.key.self,this.val.self,rfl⟩|iter s p=>exact .iter s p|number l a=>exact .number l a.self
theorem tt.self{o o':Option Yd}(h:tt c r b o o'):tt c (nG r) b o o:=by cases h with|@seen x g t m j s l z y e=>refine .seen t t _ s l (U1 _) ⟨λ_=>rfl,y.2⟩ λi u p a b d=>?_;rw[b]at d;cases d;have f:=U2 (U3.1 b).1 z;exact(e i u _ a b (Ve f)).self|own n k=>exact .own n k.self
theorem ef.self(h:ef c r w v):ef c (nG r) w w:=by refine⟨λb k e=>?_,λb k e=>?_,λb g k e d=>?_,h.rJ,λb f e=>h.hid b f (by unfold nG at e;simp_all),λb k e=>?_,rfl,rfl,h.old,λb k e _=>(mZ e).1.symm,h.jQ.1,h.jQ.1⟩;{obtain⟨rfl,j,a⟩:=mZ e;exact h.qQ _ _ a};{obtain⟨rfl,j,a⟩:=mZ e;exact h.qQ _ _ a};{exact .inl ((mZ e).1.symm.trans (mZ d).1)};obtain⟨rfl,j,a⟩:=mZ e;exact(h.blk _ _ a).self
theorem kU.self{l l':List (X3×Array XN×List Yi)}(h:kU c r l l'):kU c (nG r) l l:=by induction h with|nil=>exact .nil|cons a _ b=>exact .cons a.self b
theorem uH.self(h:uH c r s s'):uH c (nG r) s s:=⟨rfl,h.t.self,rfl,rfl,h.st.self⟩
theorem ef.re(h:ef c r w w)(T:Nat->Yx->Nat)(D:Nat):ef c r (re w T D) (re w T D):=⟨h.qQ,h.Bc,h.inj,h.rJ,h.hid,h.blk,rfl,rfl,h.old,h.aN,h.jQ⟩
theorem ta.AF{e:Ym}(h:ta c r e):e.loc≠.output:=by rcases h with⟨b,a,-⟩|h|⟨f,h⟩;{grind};{simp_all};simp_all
structure Fit(P:XY)(c:ej)(gl:Nat->Bool)(s:fT)(w:XP):Prop where
 ok:EX P c gl s
 rel:∃r,ef c r w w/\uH c r s s/\∀g,gl g=XL->r g=XG g
theorem Fit.re(h:Fit P c gl s w)(T:Nat->Yx->Nat)(D:Nat):Fit P c gl s (re w T D):=by obtain⟨e,r,a,b,d⟩:=h;exact⟨e,r,a.re T D,b,d⟩
theorem Fit.OV(d:EX P c gl s)(h:ef c r w v)(a:uH c r s s')(b:∀g,gl g=XL->r g=XG g):Fit P c gl s w:=⟨d,nG r,h.self,a.self,λg e=>qw (b g e)⟩
def ea(P:XY)(s:fT)(w:XP)(s1:fT)(w1:XP):Prop:=∃es,XT P XL (s.g [fD]) w=.go (s1.g [fD]) w1 es
theorem Oh(h:st.map up=st'.map up):st=st':=by induction st generalizing st' with|nil=>simp_all|cons x l a=>cases st' with|nil=>simp at h|cons y b=>simp only[Vy,Xc]at h;have:=h.1;simp only[up,eC]at this;grind
theorem Nc(h:s.g [fD]=s'.g [fD]):s=s':=by obtain⟨f,t,k,b,o⟩:=s;obtain⟨l,p,n,a,j⟩:=s';simp only[fT.g,G,eC,XR.mk.injEq,XV.mk.injEq]at h;obtain⟨⟨d,e,g,-,m,-⟩,i,-⟩:=h;have:=Oh (List.append_cancel_right i);subst d e g this;(have:b=a:=by cases b<;>cases a<;>simp_all[md]);rw[this]
theorem Fit.step(p:Listed P c gl){s:fT}{w:XP}(h:Fit P c gl s w)(f:s.ret=XL->s.st≠[]):(∃a b,ea P s w a b/\Fit P c gl a b)\/Su (XT P XL (s.g [fD]) w):=by obtain⟨u,r,n,o,k⟩:=h;rcases x6 p k n o u f with⟨a,b,d,i,t,y,C,v,A,j,x,q,-⟩|B;{refine .inl ⟨a,b,⟨d,i⟩,?_⟩;rw[i]at j;injection j with l m z;have:=Nc l;subst this m;exact⟨t,v,x.rel,q,λg e=>x.le _ _ (k g e)⟩};simp_all
theorem ea.S0{w1:XP}(h:ea P s w s1 w1)(a:ea P s w s2 w2):s2=s1/\w2=w1:=by obtain⟨_,h⟩:=h;obtain⟨_,a⟩:=a;rw[h]at a;injection a with b d;exact⟨(Nc b).symm,d.symm⟩
def bQ(P:XY)(s:fT)(w:XP)(s1:fT)(w1:XP):Prop:=
 w.drawn<=w1.drawn/\w1.tape=w.tape/\∀(T:Nat->Yx->Nat)(D:Nat),(∀j q,w.drawn+j<w1.drawn->T (D+j) q=w.tape (w.drawn+j) q)->ea P s (re w T D) s1 (re w1 T (D+(w1.drawn-w.drawn)))
theorem bQ.ctl{w1:XP}(a:ea P s w s1 w1)(h:∀w,XT P XL (s.g [fD]) w=.go (s2.g [fD]) w #[]):bQ P s w s1 w1:=by obtain⟨rfl,rfl⟩:=a.S0 ⟨#[],h w⟩;exact⟨U1 _,rfl,λT D _=>⟨#[],by simp_all⟩⟩
theorem ea.js{w1:XP}(a:ea P s w s1 w1)(h:∃o w2,(XT P XL (s.g [fD]) w).bare=.ended o w2):False:=by obtain⟨b,e⟩:=a;simp_all
theorem ea.vq{w1:XP}{ch:List PanicEntry}(d:ea P s w s1 w1)(h:XT P XL (s.g [fD]) w=.go (G (eC f t k (.panicking ch)) cs) w2 es):False:=by obtain⟨a,e⟩:=d;rw[e]at h;injection h with h;simp only[fT.g,G,eC,XR.mk.injEq,XV.mk.injEq]at h;have:=h.1.2.2.2.2.1;cases b:s1.ret<;>simp[md,b]at this
theorem bQ.ET{β:Type}{w1:XP}{x:Yb β}{b:β}(k:ea P s w s1 w1)(a:x.run P w=.ok b w2)(j:∀e∈x.events P w #[],e.loc≠.output)(h:∀w w2,x.run P w=.ok b w2->ea P s w s2 w2):bQ P s w s1 w1:=by obtain⟨rfl,rfl⟩:=k.S0 (h w w2 a);obtain⟨d,f,g⟩:=zW x a j;exact⟨d,f,λT D i=>h _ _ (g T D i)⟩
theorem KJ(v:Listed P c gl){w1:XP}(D:Fit P c gl ⟨f,t,.inRegion ops (i::rest)::k,XD,st⟩ w)(q:ea P ⟨f,t,.inRegion ops (i::rest)::k,XD,st⟩ w s1 w1)(l:ops[i]?=XG o)(a:Region.wanted o (XX ops t)=XL):bQ P ⟨f,t,.inRegion ops (i::rest)::k,XD,st⟩ w s1 w1:=by obtain⟨L,r,J,H,E⟩:=D;have I:=H.t;obtain⟨p,R⟩:=L.yR;have z:=vg p l;have d:=yv v.aN v.ext z (ev:=(rR f t ops i rest k).eval) (λx g=>uj I E v.rJ x g) (λ_=>⟨rfl,rfl⟩) w w J;cases g:(XS (rR f t ops i rest k).eval o).run P w with|halt h y=>rw[g]at d;by_cases B:∃u,h=.panic u;{obtain⟨u,rfl⟩:=B;exact(q.vq (pw l a g)).elim};exact(q.js (rj l a g d (λu e=>B ⟨u,e⟩))).elim|ok n y=>rw[g]at d;obtain⟨T,W,U,O,X,M,A⟩:=d;cases M with|@value u V S=>exact bQ.ET (s2:=⟨f,_,.inRegion ops rest::k,XD,st⟩) q g (λe m=>(A e m).AF) λw y e=>⟨_,(kX l a e).trans (by rfl)⟩|skip=>exact bQ.ET (s2:=⟨f,_,.inRegion ops rest::k,XD,st⟩) q g (λe m=>(A e m).AF) λw y e=>⟨_,(mg l a e).trans (by rfl)⟩|@enter j x N F K=>obtain⟨n,b,C,Q⟩:=yd v F x N;exact bQ.ET (s2:=⟨j,x++Array.replicate (n-x.size) XZ,[.code b],XD,(f,t,.inRegion ops (i::rest)::k)::st⟩) q g (λe m=>(A e m).AF) λw y e=>⟨_,(lJ l a e).trans (by rw[C.1];rfl)⟩
theorem G9{w1:XP}(o:Fit P c gl ⟨f,t,k,XL,(f0,t0,.inRegion ops (i::rest)::k0)::st⟩ w)(l:ea P ⟨f,t,k,XL,(f0,t0,.inRegion ops (i::rest)::k0)::st⟩ w s1 w1):bQ P ⟨f,t,k,XL,(f0,t0,.inRegion ops (i::rest)::k0)::st⟩ w s1 w1:=by obtain⟨A,r,s,p,z⟩:=o;have q:=p.t;cases b:P.funcs[f]? with|none=>refine bQ.ctl (s2:=⟨f0,(match(ops[i]?).bind (·.dst)with|some d=>t0.setIfInBounds d (t.getD 0 XZ)|none=>t0),.inRegion ops rest::k0,XD,st⟩) l λw=>?_;refine(fw b).trans ?_;rfl|some j=>have a:=j9 j q (P:=P) w w s;cases m:(results j t).run P w with|halt h w1=>exact(l.js (gH b m)).elim|ok u x=>rw[m]at a;obtain⟨D,E,C,y,F,B,v⟩:=a;refine bQ.ET (s2:=⟨f0,(match(ops[i]?).bind (·.dst)with|some d=>t0.setIfInBounds d u|none=>t0),.inRegion ops rest::k0,XD,st⟩) l m (λe n=>(v e n).AF) λw x e=>⟨seen P f ((results j t).events P w #[]),?_⟩;refine(bJ b e).trans ?_;rfl
theorem ea.tape(F:Listed P c gl){w1:XP}(y:Fit P c gl s w)(H:s.ret=XL->s.st≠[])(h:ea P s w s1 w1):bQ P s w s1 w1:=by obtain⟨f,t,k,A,j⟩:=s;cases A with|true=>(cases j with|nil=>simp_all|cons x l=>obtain⟨K,N,M⟩:=x;obtain⟨-,-,g,i,p,D,e⟩:=y.ok.below _ (U8 ..);subst e;exact G9 y h)|false=>cases k with|nil=>exact bQ.ctl (s2:=⟨f,t,[],XL,j⟩) h (λ_=>by rfl)|cons x k=>have m:=y.ok.items;cases x with|code a=>(cases a with|skip=>exact bQ.ctl (s2:=⟨f,t,k,XD,j⟩) h (λ_=>by rfl)|label l=>exact bQ.ctl (s2:=⟨f,t,k,XD,j⟩) h (λ_=>by rfl)|ret=>exact bQ.ctl (s2:=⟨f,t,.code .ret::k,XL,j⟩) h (λ_=>by rfl)|seq a b=>exact bQ.ctl (s2:=⟨f,t,.code a::.code b::k,XD,j⟩) h (λ_=>by rfl)|block id a=>exact bQ.ctl (s2:=⟨f,t,.code a::.inBlock id::k,XD,j⟩) h (λ_=>by rfl)|loop a=>exact bQ.ctl (s2:=⟨f,t,.code a::.inLoop a::k,XD,j⟩) h (λ_=>by rfl)|scope a=>exact bQ.ctl (s2:=⟨f,t,.code a::.inScope a::k,XD,j⟩) h (λ_=>by rfl)|refuse J=>exact(h.js ⟨_,w,by rfl⟩).elim|exit id=>(cases z:exitTo id k with|none=>exact(h.js ⟨_,w,by rw[fT.vW,lP z];rfl⟩).elim|some D=>exact bQ.ctl (s2:=⟨f,t,D,XD,j⟩) h (λ_=>by simp[fT.g,G,XT,XT.exec,eC,md,z]))|cond x a b=>(cases I:(eC f t (.code (.cond x a b)::k) .run).eval x with|bool u=>exact bQ.ctl (s2:=⟨f,t,.code (if u then a else b)::k,XD,j⟩) h λ_=>mK I|_=>exact(h.js (ma λu e=>by simp_all)).elim)|region id g q=>(cases q with|false=>exact bQ.ctl (s2:=⟨f,t,.inRegion g (List.range g.size)::k,XD,j⟩) h (λ_=>by rfl)|true=>have E:∀w:XP,∃u B,(choose (.order f id)).run P w=.ok u B:=λw=>⟨_,_,rfl⟩;obtain⟨u,B,e⟩:=E w;refine bQ.ET (s2:=⟨f,t,.inRegion g (Region.schedule (P.follows .mixedOrders) g u)::k,XD,j⟩) h e (λe z=>by simp_all) λw B e=>⟨#[],?_⟩;rw[fT.vW,mJ,e];rfl)|rangeFunc _ _ _ _=>simp[bK,codeOk]at m|goto l=>simp[bK,codeOk]at m)|inBlock id=>exact bQ.ctl (s2:=⟨f,t,k,XD,j⟩) h (λ_=>by rfl)|inLoop a=>exact bQ.ctl (s2:=⟨f,t,.code a::.inLoop a::k,XD,j⟩) h (λ_=>by rfl)|inScope a=>exact bQ.ctl (s2:=⟨f,t,k,XD,j⟩) h (λ_=>by rfl)|inRegion g l=>(cases l with|nil=>exact bQ.ctl (s2:=⟨f,t,k,XD,j⟩) h (λ_=>by rfl)|cons i p=>cases v:((g[i]?).map (Region.wanted · (XX g t))).getD XD with|true=>(cases C:g[i]? with|none=>simp_all|some o=>exact KJ F y h C (by simp_all))|false=>refine bQ.ctl (s2:=⟨f,(match(g[i]?).bind (·.dst)with|some d=>t.setIfInBounds d XZ|none=>t),.inRegion g p::k,XD,j⟩) h λw=>(stepG_unwanted v).trans ?_;rfl)|inRangeFunc _=>simp[bK]at m|endRangeFunc _=>simp[bK]at m|beginRound=>simp[bK]at m|call _ _ _ _=>simp[bK]at m|extern _ _=>simp[bK]at m
def En(fr:XV)(cs:List XV):Prop:=
 (∃(f:X3)(t:Array XN)(k:List Yi)(ch:List PanicEntry)(st:List (X3×Array XN×List Yi)),fr=eC f t k (.panicking ch)/\cs=st.map up++[fD]/\(∀d w r sv,k.head?≠XG (.call d w r sv))/\∀x∈st,∃ops i rest k',x.2.2=.inRegion ops (i::rest)::k')\/
 (((∃ch,fr={fD with mode:=.panicking ch})\/fr=fD\/fr={fD with mode:=.returning})/\cs=[])
theorem En.not{fr:XV}(h:En fr [fD])(a:fr.mode=.returning):False:=by rcases h with⟨f,t,k,b,d,rfl,-⟩|⟨-,h⟩;{simp[eC]at a};cases h
theorem Dp{fr:XV}(h:En fr cs)(w:XP):(∃n m w',step P (lone fr cs w)=.next (lone n m w')/\En n m)\/∃o w',step P (lone fr cs w)=.ended o w':=by rcases h with⟨f,t,k,j,A,rfl,rfl,B,q⟩|⟨h,rfl⟩;{(have u:(eC f t k (.panicking j)).catches P=XD:=by unfold XV.catches;simp only[eC];grind);(have p:∀(x:XV)(l:List XV),XT P XL {frame:=eC f t k (.panicking j),callers:=x::l,status:=.running,dying:=XQ} w=.go {frame:=x.raise j,callers:=l,status:=.running,dying:=XQ} w #[]:=by intro x l;unfold XV.catches eC at u;simp[XT,unwind,eC,XV.catches];simp_all);cases A with|nil=>exact .inl ⟨_,_,w,step_lone_go (by rw[show List.map up []++[fD]=[fD]from rfl,p];rfl),.inr ⟨.inl ⟨j,rfl⟩,rfl⟩⟩|cons x l=>obtain⟨z,i,s,C,e⟩:=q x (U8 ..);refine .inl ⟨_,_,w,step_lone_go (by rw[show List.map up (x::l)++[fD]=up x::(List.map up l++[fD])from rfl,p];rfl),.inl ⟨x.1,x.2.1,x.2.2,j,l,rfl,rfl,λd w r D=>by grind,λy v=>q y (Vl _ v)⟩⟩};refine ?_;rcases h with⟨j,rfl⟩|rfl|rfl;{exact .inr ⟨_,w,step_lone_ended (by rfl)⟩};{exact .inl ⟨_,_,w,step_lone_go (by rfl),.inr ⟨.inr (.inr rfl),rfl⟩⟩};exact .inr ⟨_,w,step_lone_ended (by rfl)⟩
section
theorem runN_add:∀{k:Nat}{m m':Machine},runN P i m=.next m'->runN P (i+k) m=runN P k m':=by induction i with|zero=>intro k m m' h;cases h;simp|succ i a=>intro k m m' h;rw[show i+1+k=(i+k)+1 by omega];simp only[runN]at h⊢;grind
theorem GD{m m':Machine}(h:step P m=.next m'):runN P 1 m=.next m':=by simp[runN,h]
theorem nZ:∀(n:Nat){fr:XV}{cs:List XV}{w:XP},En fr cs->∀{fr':XV}{w':XP},runN P n (lone fr cs w)=.next (lone fr' [fD] w')->fr'.mode=.returning->False:=by intro n;induction n with|zero=>intro fr cs w h fr' w' e a;simp only[runN,lone,Stepped.next.injEq,Machine.mk.injEq]at e;have:=e.2.1;obtain⟨rfl,rfl⟩:=this;exact h.not a|succ n j=>intro fr cs w h fr' w' e a;simp only[runN]at e;rcases Dp (P:=P) h w with⟨f,b,g,d,i⟩|⟨o,g,d⟩;{grind};simp_all
def BC(s:fT)(w:XP):Machine:=lone (eC s.f s.t s.k (md s.ret)) (s.st.map up++[fD]) w
theorem ln{w1:XP}{fr:XV}(h:XT P XL (s.g [fD]) w=.go (G fr cs) w1 es):step P (BC s w)=.next (lone fr cs w1):=step_lone_go (by have:XT P XL {frame:=eC s.f s.t s.k (md s.ret),callers:=s.st.map up++[fD],status:=.running,dying:=XQ} w=.go (G fr cs) w1 es:=h;rw[this];rfl)
theorem ea.Td{w1:XP}(h:ea P s w s1 w1):step P (BC s w)=.next (BC s1 w1):=by obtain⟨a,e⟩:=h;exact ln e
theorem DR(h:Su (XT P XL (s.g [fD]) w))(e:runN P (n+1) (BC s w)=.next (lone fr' [fD] w'))(i:fr'.mode=.returning):False:=by simp only[runN]at e;rcases h with⟨o,a,h⟩|⟨f,t,k,b,j,a,l,h,d,g⟩;{rw[show step P (BC s w)=.ended o a from step_lone_ended h]at e;cases e};rw[ln h]at e;exact nZ n (.inl ⟨f,t,k,b,j,rfl,rfl,d,g⟩) e i
theorem Su.not{w1:XP}(a:ea P s w s1 w1)(h:Su (XT P XL (s.g [fD]) w)):False:=by rcases h with h|⟨f,t,k,b,e,w1,d,h,-⟩;{exact a.js h};exact a.vq h
def OL(s:fT):Prop:=s.ret=XL/\s.st=[]
theorem Eh(p:OL s)(e:runN P (n+1) (BC s w)=.next (lone fr' [fD] w'))(j:fr'.mode=.returning):False:=by obtain⟨f,t,k,q,z⟩:=s;obtain⟨d,g⟩:=p;subst d g;have i:En fD []:=.inr ⟨.inr (.inl rfl),rfl⟩;have a:∀v,fD.finish v=fD:=λv=>rfl;simp only[runN]at e;cases b:P.funcs[f]? with|none=>rw[ln ((fw b).trans (by rw[a]))]at e;exact nZ n i e j|some m=>cases l:(results m t).run P w with|halt h r=>obtain⟨o,y,h⟩:=gH b l;rw[show step P (BC ⟨f,t,k,XL,[]⟩ w)=.ended o y from step_lone_ended h]at e;cases e|ok u r=>rw[ln ((bJ b l).trans (by rw[a]))]at e;exact nZ n i e j
inductive Lone(P:XY)(Good:XN->XP->Prop):fT->XP->Prop
 |done{s:fT}{w:XP}{fn:Func}{v:XN}:OL s->P.funcs[s.f]?=XG fn->(∀T D,(results fn s.t).run P (re w T D)=.ok v (re w T D)/\Good v (re w T D))->Lone P Good s w
 |step{s:fT}{w:XP}:¬OL s->(∀T D,∃s1 w1,ea P s (re w T D) s1 w1)->(∀T D s1 w1,ea P s (re w T D) s1 w1->Lone P Good s1 w1)->Lone P Good s w
section bar
variable(P)(Good:XN->XP->Prop)
noncomputable def vX(p:fT×XP):(Nat->Yx->Nat)×Nat:=open Classical in
 if h:∃a:(Nat->Yx->Nat)×Nat,∀s1 w1,ea P p.1 (re p.2 a.1 a.2) s1 w1->¬Lone P Good s1 w1 then Classical.choose h else(λ_ _=>0,0)
def Live(p:fT×XP):Prop:=¬OL p.1/\∃q:fT×XP,ea P p.1 (re p.2 (vX P Good p).1 (vX P Good p).2) q.1 q.2
noncomputable def FC(p:fT×XP):fT×XP:=open Classical in if h:Live P Good p then Classical.choose h.2 else p
noncomputable def iv(p:fT×XP):Nat->fT×XP
 |0=>p
 |i+1=>FC P Good (iv p i)
noncomputable def pos(p:fT×XP):Nat->Nat
 |0=>0
 |i+1=>open Classical in if Live P Good (iv P Good p i)then pos p i+((iv P Good p (i+1)).2.drawn-(vX P Good (iv P Good p i)).2)else pos p i
def Qf(p:fT×XP)(i n:Nat):Prop:=pos P Good p i<=n/\(n<pos P Good p (i+1)\/¬Live P Good (iv P Good p i))
noncomputable def xZ(p:fT×XP)(n:Nat)(q:Yx):Nat:=open Classical in
 if h:∃i,Qf P Good p i n then(vX P Good (iv P Good p (Classical.choose h))).1 ((vX P Good (iv P Good p (Classical.choose h))).2+(n-pos P Good p (Classical.choose h))) q else 0
end bar
section bar
theorem HT(k:¬Lone P Good s w)(l:¬OL s):∀d e,ea P s (re w (vX P Good (s,w)).1 (vX P Good (s,w)).2) d e->¬Lone P Good d e:=by(have h:∃a:(Nat->Yx->Nat)×Nat,∀d e,ea P s (re w a.1 a.2) d e->¬Lone P Good d e:=by refine VY λj=>k ?_;refine .step l (λT D=>?_) (λT D d e g=>?_);{refine VY λf=>j ⟨(T,D),λd e g=>absurd ⟨d,e,g⟩ f⟩};refine VY λf=>j ⟨(T,D),λm n i=>?_⟩;obtain⟨rfl,rfl⟩:=g.S0 i;exact f);unfold vX;grind
theorem zj(h:Live P Good p):ea P p.1 (re p.2 (vX P Good p).1 (vX P Good p).2) (FC P Good p).1 (FC P Good p).2:=by unfold FC;grind
theorem yU(h:¬Live P Good p):FC P Good p=p:=by unfold FC;simp_all
theorem sG(h:Live P Good (iv P Good p i)):pos P Good p (i+1)=pos P Good p i+((iv P Good p (i+1)).2.drawn-(vX P Good (iv P Good p i)).2):=by exact@if_pos _ (Classical.propDecidable _) h _ _ _
theorem zt(h:¬Live P Good (iv P Good p i)):pos P Good p (i+1)=pos P Good p i:=by exact@if_neg _ (Classical.propDecidable _) h _ _ _
theorem Im{j:Nat}(h:i<=j):pos P Good p i<=pos P Good p j:=by induction h with|refl=>omega|@step m _ b=>by_cases a:Live P Good (iv P Good p m);{rw[sG a];omega};rw[zt a];omega
theorem Es{j:Nat}(h:i<=j)(d:¬Live P Good (iv P Good p i)):iv P Good p j=iv P Good p i/\pos P Good p j=pos P Good p i:=by induction h with|refl=>simp|@step m _ b=>(have a:¬Live P Good (iv P Good p m):=by simp_all);exact⟨(yU a).trans b.1,(zt a).trans b.2⟩
theorem Ir(h:Qf P Good p i n)(q:Yx):xZ P Good p n q=(vX P Good (iv P Good p i)).1 ((vX P Good (iv P Good p i)).2+(n-pos P Good p i)) q:=by(have g:∀{i j:Nat},i<=j->Qf P Good p i n->Qf P Good p j n->iv P Good p j=iv P Good p i/\pos P Good p j=pos P Good p i:=by intro i j a e f;by_cases d:Live P Good (iv P Good p i);{rcases Nat.eq_or_lt_of_le a with rfl|b;{simp};have:=Im (P:=P) (Good:=Good) (p:=p) (show i+1<=j from b);rcases e.2 with h|h;{have:=f.1;omega};simp_all};exact Es a d);have k:∃i,Qf P Good p i n:=⟨i,h⟩;unfold xZ;grind
variable(hl:Listed P c gl)
include hl
theorem xl(j:Fit P c gl p.1 p.2)(k:¬Lone P Good p.1 p.2):∀i,Fit P c gl (iv P Good p i).1 (iv P Good p i).2/\¬Lone P Good (iv P Good p i).1 (iv P Good p i).2:=by intro i;induction i with|zero=>exact⟨j,k⟩|succ i b=>show Fit P c gl (FC P Good (iv P Good p i)).1 (FC P Good (iv P Good p i)).2/\¬Lone P Good (FC P Good (iv P Good p i)).1 (FC P Good (iv P Good p i)).2;by_cases h:Live P Good (iv P Good p i);{have a:=zj h;refine⟨?_,HT b.2 h.1 _ _ a⟩;rcases(b.1.re _ _).step hl (λe d=>h.1 ⟨e,d⟩)with⟨o,q,f,n⟩|g;{obtain⟨l,m⟩:=f.S0 a;simp_all};exact(g.not a).elim};rw[yU h];exact b
theorem IH(g:Fit P c gl p.1 p.2)(k:¬Lone P Good p.1 p.2)(h:Live P Good (iv P Good p i)):ea P (iv P Good p i).1 (re (iv P Good p i).2 (xZ P Good p) (pos P Good p i)) (iv P Good p (i+1)).1 (re (iv P Good p (i+1)).2 (xZ P Good p) (pos P Good p (i+1))):=by have l:=zj h;obtain⟨m,n,d⟩:=l.tape hl ((xl hl g k i).1.re _ _) (λe b=>h.1 ⟨e,b⟩);have a:(iv P Good p (i+1))=FC P Good (iv P Good p i):=rfl;(have:=d (xZ P Good p) (pos P Good p i) λj q o=>by have f:Qf P Good p i (pos P Good p i+j):=⟨V1 ..,.inl (by rw[sG h,a];have:(re (iv P Good p i).2 (vX P Good (iv P Good p i)).1 (vX P Good (iv P Good p i)).2).drawn=(vX P Good (iv P Good p i)).2:=rfl;omega)⟩;rw[Ir f];show _=(vX P Good (iv P Good p i)).1 ((vX P Good (iv P Good p i)).2+j) q;simp);rw[sG h,a];exact this
theorem C3(a:Fit P c gl p.1 p.2)(b:¬Lone P Good p.1 p.2):∀i,(∀l,l<i->Live P Good (iv P Good p l))->runN P i (BC p.1 (re p.2 (xZ P Good p) 0))=.next (BC (iv P Good p i).1 (re (iv P Good p i).2 (xZ P Good p) (pos P Good p i))):=by intro i;induction i with|zero=>intro _;rfl|succ i d=>intro h;rw[runN_add (d λl hl=>h l Ω)];exact GD (IH hl a b (h i Ω)).Td
theorem wN(o:∀v w T D,Good v w->Good v (re w T D))(W:Fit P c gl s w)(H:∀T,∃n K w' v,runN P n (BC s (re w T 0))=.next (lone K [fD] w')/\K.leaving P w' (.returned v)/\Good v w'):Lone P Good s w:=by refine VY λhn=>?_;have f:Fit P c gl (s,w).1 (s,w).2:=W;have g:¬Lone P Good (s,w).1 (s,w).2:=hn;obtain⟨n,K,w',v,E,⟨C,hd,hk,J,R,h⟩,X⟩:=H (xZ P Good (s,w));by_cases z:∀l,l<n->Live P Good (iv P Good (s,w) l);{have:=C3 hl f g n z;rw[show BC (s,w).1 (re (s,w).2 (xZ P Good (s,w)) 0)=BC s (re w (xZ P Good (s,w)) 0)from rfl,E]at this;obtain⟨a,b⟩:=xl hl f g n;generalize iv P Good (s,w) n=q at this a b;simp only[BC,lone,Stepped.next.injEq,Machine.mk.injEq,Array.mk.injEq,Xc,XR.mk.injEq,and_true]at this;obtain⟨rfl,rfl,A⟩:=this;(have B:OL q.1:=by refine⟨?_,?_⟩;{cases E:q.1.ret with|true=>rfl|false=>rw[E]at C;cases C};cases hq:q.1.st with|nil=>rfl|cons x l=>rw[hq]at A;have:=congrArg List.length A;grind);refine b (.done (v:=v) B R λT D=>?_);(have O:∀e∈(results J q.1.t).events P (re q.2 (xZ P Good (s,w)) (pos P Good (s,w) n)) #[],e.loc≠.output:=by obtain⟨ok,r,L,y,-⟩:=a.re (xZ P Good (s,w)) (pos P Good (s,w) n);have:=j9 J y.t (P:=P) _ _ L;rw[show(results J q.1.t).run P (re q.2 (xZ P Good (s,w)) (pos P Good (s,w) n))=_ from h]at this;obtain⟨_,_,r1,_,_,_,l1⟩:=this;exactλe V=>(l1 e V).AF);obtain⟨-,-,M⟩:=zW _ h O;have N:=M T D λj q Z=>absurd Z Ω;rw[Nat.sub_self]at N;exact⟨N,o v (re q.2 (xZ P Good (s,w)) (pos P Good (s,w) n)) T D X⟩};(have:∃i,i<n/\¬Live P Good (iv P Good (s,w) i)/\∀l,l<i->Live P Good (iv P Good (s,w) l):=by(have Q:∃i,i<n/\¬Live P Good (iv P Good (s,w) i):=by simp_all);obtain⟨i,hi⟩:=Q;induction i using Nat.strongRecOn with|_ i ih=>grind);obtain⟨i,Y,d,u⟩:=this;have L:=C3 hl f g i u;obtain⟨k,rfl⟩:∃k,n=i+(k+1):=⟨n-i-1,by omega⟩;have y:=runN_add (k:=k+1) L;rw[show BC (s,w).1 (re (s,w).2 (xZ P Good (s,w)) 0)=BC s (re w (xZ P Good (s,w)) 0)from rfl,E]at y;obtain⟨a,b⟩:=xl hl f g i;by_cases F:OL (iv P Good (s,w) i).1;{exact Eh F y.symm C};rcases(a.re (xZ P Good (s,w)) (pos P Good (s,w) i)).step hl (λe I=>F ⟨e,I⟩)with⟨s1,w1,M,N⟩|U;{obtain⟨-,-,S⟩:=M.tape hl (a.re _ _) (λe I=>F ⟨e,I⟩);(have:=S (vX P Good (iv P Good (s,w) i)).1 (vX P Good (iv P Good (s,w) i)).2 λj q _=>by show _=xZ P Good (s,w) (pos P Good (s,w) i+j) q;rw[Ir (i:=i) ⟨V1 ..,.inr d⟩,Nat.add_sub_cancel_left]);exact d ⟨F,(s1,_),this⟩};exact DR U y.symm C
end bar
end
structure Env(own RO:Nat->Prop)(CU:Nat->Nat->Prop)(v v1:XP):Prop where
 keep:∀k,own k\/RO k->v1.heap[k]?=v.heap[k]?
 cut:∀k n,CU k n->∀(x:Array XN)(t:XW)(fr:Nat×Nat),v.heap[k]?=XG (.cells x t fr)->∃x' fr',v1.heap[k]?=XG (.cells x' t fr')/\x'.size=x.size/\∀o,o<n->x'[o]?=x[o]?
 grow:v.heap.size<=v1.heap.size
def Us(own RO:Nat->Prop)(CU:Nat->Nat->Prop)(e:Ym):Prop:=
 (∃k,(match e.loc with|.cell a=>a.block=k|.obj j=>j=k|_=>False)/\(own k\/(RO k/\e.write=XD))/\e.sync=XD)\/(∃k n o,CU k n/\o<n/\e=⟨.cell ⟨k,o,XQ⟩,XD,XD⟩)\/e.loc=.mark .noRoom\/∃f,e.loc=.mark (.extern f)
def more(own:Nat->Prop)(v v':XP):Nat->Prop:=λk=>own k\/(v.heap.size<=k/\k<v'.heap.size)
structure k6(own RO:Nat->Prop)(CU:Nat->Nat->Prop)(v v':XP)(es:Array Ym):Prop where
 keep:∀k,k<v.heap.size->¬own k->v'.heap[k]?=v.heap[k]?
 grow:v.heap.size<=v'.heap.size
 os:v'.os=v.os
 out:v'.output=v.output
 tape:v'.tape=v.tape
 evs:∀e∈es,Us (more own v v') RO CU e
inductive Loc(P:XY)(main:Bool)(RO:Nat->Prop)(CU:Nat->Nat->Prop)(Stop:(Nat->Prop)->XR->XP->Prop):(Nat->Prop)->XR->XP->Prop
 |stop{own:Nat->Prop}{g:XR}{v:XP}:Stop own g v->Loc P main RO CU Stop own g v
 |step{own:Nat->Prop}{g:XR}{v:XP}:g.status=.running->(∀v1,Env own RO CU v v1->∃g' v' es,XT P main g v1=.go g' v' es/\k6 own RO CU v1 v' es)->
  (∀v1 g' v' es,Env own RO CU v v1->XT P main g v1=.go g' v' es->Loc P main RO CU Stop (more own v1 v') g' v')->Loc P main RO CU Stop own g v
structure Reach(c:ej)(r:bN)(own RO:Nat->Prop)(CU:Nat->Nat->Prop)(v:XP):Prop where
 Bc:∀b k,r b=XG k->own k\/(c.seen b/\(RO k\/CU k (c.M7 b)))
 old:∀k,own k\/RO k->k<v.heap.size
theorem ef.env(h:ef c r w v)(z:Reach c r own RO CU v)(f:Env own RO CU v v1):ef c r (Go.ae.re w v1.tape v1.drawn) v1:=⟨h.qQ,λb k e=>U2 (h.Bc b k e) f.grow,h.inj,h.rJ,h.hid,λb k e=>by have:=h.blk b k e;rcases z.Bc b k e with g|⟨C,g|g⟩;{rw[f.keep k (.inl g)];exact this};{rw[f.keep k (.inr g)];exact this};show tt c r b w.heap[b]? v1.heap[k]?;revert this;generalize w.heap[b]?=J;generalize j:v.heap[k]?=I;intro this;cases this with|@seen x A t m q s l D y e=>obtain⟨K,p,o,F,E⟩:=f.cut k _ g A m q j;rw[o];refine .seen t m p s l Ω y λi u H a b d=>?_;grind|own n _=>simp_all,rfl,rfl,h.old,h.aN,h.jQ.1,Vg h.jQ.2 f.grow⟩
theorem Reach.env(a:Reach c r own RO CU v)(b:Env own RO CU v v1):Reach c r own RO CU v1:=⟨a.Bc,λk h=>U2 (a.old k h) b.grow⟩
theorem Ext.mine(h:Ext c r w v r' w' v')(m:Reach c r own RO CU v)(u:∀e∈es,ta c r' e):k6 own RO CU v v' es/\Reach c r' (more own v v') RO CU v':=by have q:=h.size;have D:=h.grow;(have f:∀b k,r' b=XG k->more own v v' k\/(c.seen b/\(RO k\/CU k (c.M7 b))):=λb k e=>by rcases VI b w.heap.size with g|g;{rw[h.ya b g]at e;rcases m.Bc b k e with x|x;{exact .inl (.inl x)};simp_all};have n:=h.rel.qQ b k e;have o:=h.rel.Bc b k e;rw[h.new b g n]at e;cases e;exact .inl (.inr ⟨by omega,o⟩));refine⟨⟨λk d E=>h.keep k d λb g=>?_,by omega,h.os,h.out,h.tape,λe y=>?_⟩,f,λk d=>?_⟩;{rcases m.Bc b k g with x|x;{simp_all};grind};{rcases u e y with⟨b,g,F,l⟩|x;{(have:∃k,(match e.loc with|.cell a=>a.block=k/\(c.seen b->a.off<c.M7 b/\a.spot=XQ)|.obj j=>j=k/\¬c.seen b|_=>False)/\r' b=XG k:=by grind);obtain⟨k,n,o⟩:=this;(have i:(match e.loc with|.cell a=>a.block=k|.obj j=>j=k|_=>False):=by grind);rcases f b k o with x|⟨q,x|x⟩;{exact .inl ⟨k,i,.inl x,l⟩};{refine .inl ⟨k,i,.inr ⟨x,?_⟩,l⟩;simp_all};refine .inr (.inl ?_);obtain⟨p,I,H⟩:=e;cases p with|cell a=>obtain⟨rfl,t⟩:=n;obtain⟨B,C⟩:=t q;obtain⟨z,A,s⟩:=a;grind|obj j=>simp_all|_=>grind};exact .inr (.inr x)};rcases d with(d|d)|d;{have:=m.old k (.inl d);omega};{exact d.2};have:=m.old k (.inr d);omega
structure Left(c:ej)(r:bN)(own RO:Nat->Prop)(v:XP)(own1:Nat->Prop)(v1:XP):Prop where
 keep:∀k,own k\/RO k->(∀b,r b=XG k->c.seen b)->v1.heap[k]?=v.heap[k]?
 mine:∀k,own1 k->own k\/v.heap.size<=k
 more:∀k,own k->own1 k
 grow:v.heap.size<=v1.heap.size
theorem Left.refl(c:ej)(r:bN)(own RO:Nat->Prop)(v:XP):Left c r own RO v own v:=⟨λ_ _ _=>rfl,λ_ h=>.inl h,λ_ h=>h,U1 _⟩
theorem Left.after{own1:Nat->Prop}{v2:XP}(n:Reach c r own RO CU v)(m:Env own RO CU v v1)(f:Ext c r w v1 r' w' v')(h:Left c r' (Go.ae.more own v1 v') RO v' own1 v2):Left c r own RO v own1 v2:=by have q:=f.size;have p:=f.grow;have j:=m.grow;(have l:∀b k,k<v1.heap.size->r' b=XG k->r b=XG k:=λb k a e=>by rcases VI b w.heap.size with d|d;{rw[<-f.ya b d];exact e};have i:=f.rel.qQ b k e;rw[f.new b d i]at e;grind);refine⟨λk a d=>?_,λk a=>?_,λk a=>h.more k (.inl a),by have:=h.grow;omega⟩;{have g:k<v1.heap.size:=U2 (n.old k a) j;rw[h.keep k (a.imp .inl id) λb e=>d b (l b k g e),f.keep k g d,m.keep k a]};rcases h.mine k a with(i|i)|i;{grind};{omega};omega
theorem Lone.loc(hl:Listed P c gl)(h:Lone P Good s w):∀{r:bN}{own:Nat->Prop}{v:XP}{s':fT},EX P c gl s->(∃T D,ef c r (re w T D) v)->uH c r s s'->(∀g,gl g=XL->r g=XG g)->Reach c r own RO CU v->(∀a x u p n v1,r.le a->Good u n->ef c a n v1->ak c a u p->Reach c a x RO CU v1->Left c r own RO v x v1->Loc P main RO CU Stop x (G (caller.finish p) cs) v1)->Loc P main RO CU Stop own (s'.g (caller::cs)) v:=by induction h with|@done s w U u ht H hd=>intro r own v s' hs⟨T,D,Z⟩Y W b K;obtain⟨f,t,k,ret,st⟩:=s;obtain⟨f',t',k',M,st'⟩:=s';obtain⟨e1,J,e2,e3,I⟩:=Y;simp only at e1 J e2 e3 I H;obtain⟨h1,h2⟩:=ht;simp only at h1 h2;subst f' k' M h1 h2;cases I;(have q:∀v1,Env own RO CU v v1->∃p j a,XT P main ((fT.mk f t' k XL []).g (caller::cs)) v1=.go (G (caller.finish p) cs) j (seen P f ((results U t').events P v1 #[]))/\Ext c r (re w v1.tape v1.drawn) v1 a (re w v1.tape v1.drawn) j/\ak c a u p/\(∀e∈seen P f ((results U t').events P v1 #[]),ta c a e):=by intro v1 d;have E:ef c r (re w v1.tape v1.drawn) v1:=Z.env b d;have A:=j9 U J (P:=P) _ _ E;rw[(hd v1.tape v1.drawn).1]at A;obtain⟨p,j,a,o,l,y,i⟩:=A;exact⟨p,j,a,bJ H o,l,y,λe C=>i e (mem_seen C)⟩);refine .step rfl (λv1 d=>?_) (λv1 g' v' B d C=>?_);{obtain⟨p,j,a,o,l,y,i⟩:=q v1 d;exact⟨_,_,_,o,(l.mine (b.env d) i).1⟩};obtain⟨p,j,a,o,l,y,i⟩:=q v1 d;rw[o]at C;injection C with O Q R;subst O Q R;exact K a _ u p _ j l.le (hd v1.tape v1.drawn).2 l.rel y (l.mine (b.env d) i).2 (Left.after b d l (Left.refl ..))|@step s w X V hall ih=>intro r own v s' hs⟨T,D,Z⟩Y W b K;(have q:∀v1,Env own RO CU v v1->∃z n m j a B,ea P s (re w v1.tape v1.drawn) z n/\EX P c gl z/\XT P main (s'.g (caller::cs)) v1=.go (m.g (caller::cs)) j B/\Ext c r (re w v1.tape v1.drawn) v1 a n j/\uH c a z m/\(∀e∈B,ta c a e):=by intro v1 d;have E:ef c r (re w v1.tape v1.drawn) v1:=Z.env b d;rcases x6 (main:=main) (bs:=caller::cs) hl W E Y hs (λe e'=>X ⟨e,e'⟩)with⟨z,n,S,o,l,m,j,a,B,y,i,N,F⟩|hb;{exact⟨z,n,m,j,a,B,⟨S,o⟩,l,y,i,N,F⟩};obtain⟨z,n,o⟩:=V v1.tape v1.drawn;exact(hb.not o).elim);refine .step rfl (λv1 d=>?_) (λv1 g' v' B d C=>?_);{obtain⟨z,n,m,j,a,B,o,l,y,i,N,F⟩:=q v1 d;exact⟨_,_,_,y,(i.mine (b.env d) F).1⟩};obtain⟨z,n,m,j,a,es',o,l,y,i,N,F⟩:=q v1 d;rw[y]at C;injection C with O Q R;subst O Q R;refine ih v1.tape v1.drawn z n o l ⟨n.tape,n.drawn,i.rel⟩ N (λg e=>i.le _ _ (W g e)) (i.mine (b.env d) F).2 λr2 L u p w2 v3 c1 c2 c3 c4 c5 c6=>?_;exact K r2 L u p w2 v3 (bN.le_trans i.le c1) c2 c3 c4 c5 (Left.after b d i c6)
def entry(f:X3)(fn:Func)(b:Yt)(args:Array XN):fT:=⟨f,args++Array.replicate (fn.ntmps-args.size) XZ,[.code b],XD,[]⟩
theorem uU(p:Listed P c gl){b:Yt}(a:∀v w T D,Good v w->Good v (re w T D))(d:Fit P c gl (entry f fn b args) w)(m:P.funcs[f]?=XG fn)(l:fn.body=XG b)(H:∀T,Calls P f args (re w T 0) R)(k:∀e w',R e w'->∃v,e=.returned v/\Good v w'):Lone P Good (entry f fn b args) w:=by refine wN p a d λT=>?_;obtain⟨e,w',g,h,i,s,j⟩:=H T [fD];obtain⟨v,rfl,o⟩:=k e w' h;obtain⟨n,q⟩:=i;refine⟨n,g,w',v,?_,j,o⟩;rw[<-q];congr 1;rw[ij args m,l];rfl
theorem Loc.call(q:Listed P c gl){b:Yt}{args':Array XN}(j:∀v w T D,Good v w->Good v (re w T D))(E:∀e w',R e w'->∃v,e=.returned v/\Good v w')(o:P.funcs[f]?=XG fn)(p:c.fns f=XL)(n:fn.body=XG b)(t:∀g,gl g=XL->r g=XG g)(a:au c r args args')(i:ef c r w v)(s:Reach c r own RO CU v)(H:∀T,Calls P f args (re w T 0) R)(K:∀m d u A B v1,r.le m->Good u B->ef c m B v1->ak c m u A->Reach c m d RO CU v1->Left c r own RO v d v1->Loc P main RO CU Stop d (G (caller.finish A) cs) v1):Loc P main RO CU Stop own (G (XV.enter P f args' .normal) (caller::cs)) v:=by(have z:EX P c gl (entry f fn b args):=by refine⟨trivial,?_,λx F=>by simp[entry]at F⟩;obtain⟨I,h|⟨h,C⟩⟩:=q.body f fn p o;{simp_all};rw[n]at h;cases h;simp[entry,bK,C]);have y:uH c r (entry f fn b args) (entry f fn b args'):=⟨rfl,by show au c r (args++_) (args'++_);rw[a.size];exact a.append (.replicate _ gG),rfl,rfl,.nil⟩;have l:=Fit.OV z i y t;have k:=uU q j l o n H E;have:=k.loc q (main:=main) (RO:=RO) (CU:=CU) (Stop:=Stop) (caller:=caller) (cs:=cs) z ⟨w.tape,w.drawn,i⟩ y t s K;rw[ij args' o,n];exact this
structure gT where
 k:Nat
 low:Nat
 t:XW
 x:Array XN
def gT.obj(s:gT):Yd:=.cells s.x (if s.low=0 then s.t else wT) (0,s.x.size)
def gB(g:Nat)(ws:List gT)(v:XP):XP:={v with heap:=Array.replicate g (.cells #[] 0)++(ws.map gT.obj).toArray}
def jD(P:XY)(fns:X3->Bool)(ws:List gT):ej:=
 {fns:=fns,seen:=λb=>P.globals.size<=b/\b<P.globals.size+ws.length,M7:=λb=>if b<P.globals.size then 0 else((ws[b-P.globals.size]?).map λs=>s.x.size).getD 0,aN:=P.globals.size,
   low:=λb=>if b<P.globals.size then 0 else((ws[b-P.globals.size]?).map λs=>s.low).getD 0}
def lq(g:Nat)(ws:List gT):bN:=λb=>if b<g then XQ else(ws[b-g]?).map λs=>s.k
theorem fO{ws:List gT}{k:Nat}(h:lq g ws b=XG k):∃(i:Nat)(s:gT),b=g+i/\ws[i]?=XG s/\s.k=k/\i<ws.length:=by unfold lq at h;grind
theorem K7{ws:List gT}{s:gT}(h:ws[i]?=XG s):lq g ws (g+i)=XG s.k:=by unfold lq;simp_all
theorem lu(g:Nat)(ws:List gT)(v:XP):(gB g ws v).heap.size=g+ws.length:=by simp[gB]
theorem vd{ws:List gT}{s:gT}(h:ws[i]?=XG s):(gB g ws v).heap[g+i]?=XG s.obj:=by show(Array.replicate g _++_)[g+i]?=_;grind
theorem BM{ws:List gT}(h:b<g):(gB g ws v).heap[b]?=XG (.cells #[] 0):=by show(Array.replicate g _++_)[b]?=_;grind
theorem ib{ws:List gT}{o:Nat}{s:gT}{u:XN}(h:ws[i]?=XG s)(a:s.x[o]?=XG u):(gB g ws v).cell? ⟨g+i,o,XQ⟩=XG u:=by simp[XP.cell?,vd h,gT.obj,a]
structure uL(P:XY)(fns:X3->Bool)(ws:List gT)(v:XP):Prop where
 jQ:P.globals.size<=v.heap.size
 bad:P.info? wT=XQ
 at_:∀(i:Nat)(s:gT),ws[i]?=XG s->∃(x':Array XN)(t':XW)(fr:Nat×Nat),v.heap[s.k]?=XG (.cells x' t' fr)/\s.x.size<=x'.size/\(s.low=0->s.t=t')/\
  ∀(j:Nat)(u u':XN),s.low<=j->s.x[j]?=XG u->x'[j]?=XG u'->ak (jD P fns ws) (lq P.globals.size ws) u u'
theorem uL.rel{ws:List gT}(h:uL P fns ws v):ef (jD P fns ws) (lq P.globals.size ws) (gB P.globals.size ws v) v:=by refine⟨λb k e=>?_,λb k e=>?_,λb D k e w=>?_,λb g=>?_,λb g _=>BM g,λb k e=>?_,rfl,rfl,λb g=>?_,λb k e q=>?_,?_⟩;{obtain⟨i,s,rfl,f,y,m⟩:=fO e;rw[lu];omega};{obtain⟨i,s,rfl,f,rfl,m⟩:=fO e;obtain⟨C,t,o,p,-⟩:=h.at_ i s f;grind};{obtain⟨i,s,rfl,f,y,m⟩:=fO e;obtain⟨I,J,rfl,x,z,A⟩:=fO w;exact .inr ⟨⟨V1 _ _,by omega⟩,⟨V1 _ _,by omega⟩⟩};{show(if b<P.globals.size then 0 else _)=0;split;{rfl};rename_i H;(have:ws[b-P.globals.size]?=XQ:=by rw[List.getElem?_eq_none_iff];have:¬(P.globals.size<=b/\b<P.globals.size+ws.length):=g;omega);simp_all};{obtain⟨i,s,rfl,f,rfl,m⟩:=fO e;obtain⟨C,t,o,p,B,E,F⟩:=h.at_ i s f;rw[vd f,p];(have l:(jD P fns ws).low (P.globals.size+i)=s.low:=by show(if _<_ then 0 else _)=_;grind);refine .seen _ t o ⟨V1 _ _,by omega⟩ ?_ B ⟨λn=>?_,λn=>?_⟩ λj u K a b d=>?_;{show _<=(if _<_ then 0 else _);grind};{simp_all};{rw[l]at n;rw[if_neg n];exact⟨rfl,V1 _ _⟩};grind};{rw[lu];exact g.2};{obtain⟨i,s,rfl,f,rfl,m⟩:=fO e;have q:P.globals.size+i<P.globals.size:=q;omega};exact⟨by rw[lu];show P.globals.size<=_;omega,h.jQ⟩
theorem y4{ws:List gT}{off:Nat}{s:gT}(h:ws[i]?=XG s)(a:s.low<=off):dm (jD P fns ws) (lq P.globals.size ws) ⟨P.globals.size+i,off,XQ⟩ ⟨s.k,off,XQ⟩:=by refine⟨K7 h,rfl,rfl,?_⟩;(have b:¬(P.globals.size+i<P.globals.size):=by omega);show(if P.globals.size+i<P.globals.size then 0 else((ws[P.globals.size+i-P.globals.size]?).map λs=>s.low).getD 0)<=off;grind
section
section bar
variable(P)(Good:fT->XP->Prop)
end bar
section bar
variable{Good:fT->XP->Prop}
variable(hl:Listed P c gl)(hGood:∀s w T D,Good s w->Good s (re w T D))
include hl hGood
end bar
end
end Go.ae
namespace Go.Mx
variable{i N:Nat}
structure Wd where
 L:Bool
 W:Bool
 S:Bool
 n:Nat
 deriving DecidableEq
def Wd.enc(w:Wd):Nat:=w.L.toNat+2*w.W.toNat+4*w.S.toNat+8*w.n
def Wd.zero:Wd:=⟨XD,XD,XD,0⟩
theorem Wd.wo{w v:Wd}(h:w.enc=v.enc):w=v:=by obtain⟨a,b,c,n⟩:=w;obtain⟨d,e,f,g⟩:=v;cases a<;>cases b<;>cases c<;>cases d<;>cases e<;>cases f<;>simp[Wd.enc]at h⊢<;>omega
inductive Th
 |out|c0
 |ld(aw st:Bool)
 |cs(old:Wd)
 |ca(old:Wd)(aw st:Bool)
 |sq|t2
 |a1(old:Wd)(st:Bool)
 |hold|u0
 |uc(old:Wd)
 |ux|us
def nw(o:Wd)(aw st:Bool):Wd:=⟨!o.S||o.L,!aw&&o.W,o.S||(st&&o.L),if o.L||o.S then o.n+1 else o.n⟩
inductive Mv:Th->Wd->Nat->Th->Wd->Nat->Prop
 |start{w:Wd}{m:Nat}:Mv .out w m .c0 w m
 |Nk{m:Nat}:Mv .c0 ⟨XD,XD,XD,0⟩ m .hold ⟨XL,XD,XD,0⟩ m
 |Mb{w:Wd}{m:Nat}:w≠⟨XD,XD,XD,0⟩->Mv .c0 w m (.ld XD XD) w m
 |S1{w:Wd}{m:Nat}{aw st:Bool}:Mv (.ld aw st) w m (.ld aw st) w m
 |Ur{w:Wd}{m:Nat}{st:Bool}:w.L=XL->w.S=XD->w.W=XD->w.n≠0->Mv (.ld XD st) w m (.cs w) w m
 |SO{w:Wd}{m:Nat}{aw st:Bool}:Mv (.ld aw st) w m (.ca w aw st) w m
 |ND{w:Wd}{m:Nat}:Mv (.cs w) w m (.ld XL XD) {w with W:=XL} m
 |Ju{o w:Wd}{m:Nat}:w≠o->Mv (.cs o) w m (.ld XD XD) w m
 |JA{w:Wd}{m:Nat}{aw st:Bool}:w.L=XD->w.S=XD->Mv (.ca w aw st) w m .hold (nw w aw st) m
 |JD{w:Wd}{m:Nat}{aw st:Bool}:(w.L||w.S)=XL->Mv (.ca w aw st) w m .sq (nw w aw st) m
 |KO{o w:Wd}{m:Nat}{aw st:Bool}:Mv (.ca o aw st) w m (.ld aw st) w m
 |SQ{o w:Wd}{m:Nat}{st:Bool}:o.L=XL->o.S=XD->o.W=XD->o.n≠0->Mv (.ca o XD st) w m (.cs o) w m
 |Jy{o w:Wd}{m:Nat}{aw st:Bool}:w≠o->Mv (.ca o aw st) w m (.ld aw st) w m
 |take{w:Wd}{m:Nat}:Mv .sq w (m+1) .t2 w m
 |R7{w:Wd}{m:Nat}{st:Bool}:w.S=XL->Mv .t2 w m (.a1 w st) w m
 |Q9{w:Wd}{m:Nat}{st:Bool}:w.S=XD->Mv .t2 w m (.ca w XL st) w m
 |SX{w:Wd}{m:Nat}{st:Bool}:w.S=XD->Mv .t2 w m (.ld XL st) w m
 |add{w o:Wd}{m:Nat}{st:Bool}:Mv (.a1 o st) w m .hold ⟨XL,w.W,st&&o.n !=1,w.n-1⟩ m
 |want{w:Wd}{m:Nat}:Mv .hold w m .u0 w m
 |Rq{w:Wd}{m:Nat}:w.S=XL->Mv .u0 w m .us {w with L:=XD} m
 |Of{w:Wd}{m:Nat}:w.S=XD->w.n=0\/w.W=XL->Mv .u0 w m .out {w with L:=XD} m
 |QB{w:Wd}{m:Nat}:w.S=XD->w.n≠0->w.W=XD->Mv .u0 w m (.uc {w with L:=XD}) {w with L:=XD} m
 |PD{w:Wd}{m:Nat}:Mv (.uc w) w m .us {w with W:=XL,n:=w.n-1} m
 |Lz{o w:Wd}{m:Nat}:w≠o->Mv (.uc o) w m .ux w m
 |Pv{w:Wd}{m:Nat}:w.n=0\/w.L=XL\/w.W=XL\/w.S=XL->Mv .ux w m .out w m
 |SN{w:Wd}{m:Nat}:w.n≠0->w.L=XD->w.W=XD->w.S=XD->Mv .ux w m (.uc w) w m
 |BP{w:Wd}{m:Nat}:Mv .us w m .out w (m+1)
def qS:Th->Bool|.hold|.u0=>XL|_=>XD
def BZ:Th->Bool|.us|.t2|.a1 _ _=>XL|.ld aw _=>aw|.ca _ aw _=>aw|_=>XD
def pQ:Th->Bool|.sq=>XL|_=>XD
def Jc:Th->Bool|.us=>XL|_=>XD
def Cd:Th->Bool|.t2|.a1 _ _=>XL|_=>XD
def Je:Th->Bool|.ld aw _=>aw|.ca _ aw _=>aw|_=>XD
def Qd:Th->Bool|.uc _|.ux=>XL|_=>XD
def cnt(p:Th->Bool)(f:Nat->Th):Nat->Nat
 |0=>0
 |N+1=>cnt p f N+(p (f N)).toNat
def upd(f:Nat->Th)(i:Nat)(x:Th):Nat->Th:=λj=>if j=i then x else f j
theorem Ao{p:Th->Bool}{f g:Nat->Th}:∀{N:Nat},(∀j,j<N->p (f j)=p (g j))->cnt p f N=cnt p g N|0,_=>rfl|N+1,h=>by simp only[cnt];rw[Ao λj b=>h j Ω,h N Ω]
theorem k9(p:Th->Bool)(f:Nat->Th)(x:Th):∀{N:Nat},i<N->cnt p (upd f i x) N+(p (f i)).toNat=cnt p f N+(p x).toNat|N+1,h=>by simp only[cnt];rcases Wb (Xd h)with b|rfl;{have:=k9 p f x b;(have e:upd f i x N=f N:=by simp[upd];omega);grind};(have:cnt p (upd f i x) i=cnt p f i:=Ao λj c=>by simp[upd];grind);rw[this];simp[upd];omega
theorem pM{p:Th->Bool}{f:Nat->Th}:∀{N i:Nat},i<N->p (f i)=XL->1<=cnt p f N|N+1,i,h,c=>by simp only[cnt];rcases Wb (Xd h)with b|rfl;{have:=pM b c;omega};simp_all
theorem pE{p:Th->Bool}{f:Nat->Th}:∀{N i j:Nat},i<j->j<N->p (f i)=XL->p (f j)=XL->2<=cnt p f N|N+1,i,j,b,h,c,e=>by simp only[cnt];rcases Wb (Xd h)with d|rfl;{have:=pE b d c e;omega};have:=pM b c;simp_all
def fU(w:Wd):Th->Prop
 |.ld aw st=>st=XL->aw=XL
 |.ca o aw st=>(st=XL->aw=XL)/\(aw=XL->o.W=XL)
 |.cs o=>o.L=XL/\o.S=XD/\o.W=XD/\o.n≠0
 |.a1 o _=>w.S=XL/\w.L=XD/\1<=o.n/\o.n<=w.n
 |.uc o=>o.L=XD/\o.W=XD/\o.S=XD/\o.n≠0
 |_=>True
structure Inv(f:Nat->Th)(N:Nat)(w:Wd)(m:Nat):Prop where
 i1:cnt qS f N=w.L.toNat
 i2:cnt BZ f N+m=(w.W||(w.S&&!w.L)).toNat
 i3:¬(w.W=XL/\w.S=XL)
 i4:if w.W then cnt pQ f N=w.n+m+cnt Jc f N else if w.S&&!w.L then cnt pQ f N+cnt Cd f N=w.n else cnt pQ f N=w.n
 i5:w.L=XD->w.W=XD->w.S=XD->w.n≠0->1<=cnt Qd f N
 i6:w.S=XL->w.n≠0
 i8:w.W=XD->cnt Je f N=0
 loc:∀i,i<N->fU w (f i)
section
theorem vP(f:Nat->Th)(N:Nat):cnt BZ f N=cnt Jc f N+cnt Cd f N+cnt Je f N:=by induction N with|zero=>rfl|succ N c=>simp only[cnt];(have:∀t:Th,(BZ t).toNat=(Jc t).toNat+(Cd t).toNat+(Je t).toNat:=by intro t;cases t with|ld a b=>cases a<;>rfl|ca o a b=>cases a<;>rfl|_=>rfl);grind
section
variable{f:Nat->Th}{w w':Wd}{m m':Nat}{x:Th}
theorem xa(a:i<N)(c:fU w' x)(h:∀j,j<N->j≠i->fU w' (f j)):∀j,j<N->fU w' (upd f i x j):=by intro j b;unfold upd;grind
theorem Iz{t:Th}(h:fU w t)(j:w.S=XL->w.L=XD->w'.S=XL/\w'.L=XD/\w.n<=w'.n):fU w' t:=by cases t with|a1 o l=>obtain⟨d,e,g,k⟩:=h;obtain⟨a,b,c⟩:=j d e;exact⟨a,b,g,by omega⟩|_=>exact h
set_option maxHeartbeats 4000000 in theorem Inv.step(h:Inv f N w m)(c:i<N)(u:Mv (f i) w m x w' m'):Inv (upd f i x) N w' m':=by have g:=k9 qS f x c;have k:=k9 Jc f x c;have l:=k9 Cd f x c;have q:=k9 Je f x c;have r:=k9 pQ f x c;have s:=k9 Qd f x c;have s1:=vP f N;have s2:=vP (upd f i x) N;have v:=h.loc i c;have d:∀p:Th->Bool,p (f i)=XL->1<=cnt p f N:=λp Z=>pM c Z;obtain⟨J,K,M,O,P,Q,R,e⟩:=h;have a:fU w' x->(w.S=XL->w.L=XD->w'.S=XL/\w'.L=XD/\w.n<=w'.n)->∀j,j<N->fU w' (upd f i x j):=λE F=>xa c E λj t _=>Iz (e j t) F;have H:fU w' x->(∀j,j<N->j≠i->fU w' (f j))->∀j,j<N->fU w' (upd f i x j):=xa c;(have b:fU w' x->(2<=cnt Cd f N->False)->Cd (f i)=XL->∀j,j<N->fU w' (upd f i x j):=λE F T=>xa c E λj t I=>by have:=e j t;cases V:f j with|a1 o Y=>refine(F ?_).elim;(have U:Cd (f j)=XL:=by rw[V];rfl);rcases Nat.lt_or_gt_of_ne I with G|G;{exact pE G c U T};exact pE G t T U|_=>rw[V]at this;exact this);have z:=d qS;have A:=d Jc;have B:=d Cd;have C:=d Je;clear d;generalize hy:f i=y at u g k l q r s v z A B C b;clear hy;obtain⟨L,W,S,n⟩:=w;cases y with|ld D Y=>cases D<;>cases L<;>cases W<;>cases S<;>cases u<;>(try dsimp only[Bool.or_true,Bool.or_false,Bool.true_or,Bool.false_or]at*)<;>(try contradiction)<;>(try simp only[VD,or_false,false_or]at*)<;>(simp[qS,Jc,Cd,Je,pQ,Qd,nw,fU]at J K M O P Q R g k l q r s v z A B C<;>(refine⟨?_,?_,?_,?_,?_,?_,?_,?_⟩<;>first|(simp[nw]<;>omega)|omega|(refine a ?_ ?_<;>simp[fU,nw]<;>omega)|(refine a ⟨‹_›,‹_›,‹_›,‹_›⟩ ?_;simp;done)|(refine a ⟨‹_›,‹_›,‹_›,‹_›⟩ ?_;simp;omega)|(refine b ?_ (λX=>?_) rfl<;>(try simp[fU,nw])<;>omega)))|ca o D Y=>cases D<;>cases L<;>cases W<;>cases S<;>cases u<;>(try dsimp only[Bool.or_true,Bool.or_false,Bool.true_or,Bool.false_or]at*)<;>(try contradiction)<;>(try simp only[VD,or_false,false_or]at*)<;>(simp[qS,Jc,Cd,Je,pQ,Qd,nw,fU]at J K M O P Q R g k l q r s v z A B C<;>(refine⟨?_,?_,?_,?_,?_,?_,?_,?_⟩<;>first|(simp[nw]<;>omega)|omega|(refine a ?_ ?_<;>simp[fU,nw]<;>omega)|(refine a ⟨‹_›,‹_›,‹_›,‹_›⟩ ?_;simp;done)|(refine a ⟨‹_›,‹_›,‹_›,‹_›⟩ ?_;simp;omega)|(refine b ?_ (λX=>?_) rfl<;>(try simp[fU,nw])<;>omega)))|_=>cases L<;>cases W<;>cases S<;>cases u<;>(try dsimp only[Bool.or_true,Bool.or_false,Bool.true_or,Bool.false_or]at*)<;>(try contradiction)<;>(try simp only[VD,or_false,false_or]at*)<;>(simp[qS,Jc,Cd,Je,pQ,Qd,nw,fU]at J K M O P Q R g k l q r s v z A B C<;>(refine⟨?_,?_,?_,?_,?_,?_,?_,?_⟩<;>first|(simp[nw]<;>omega)|omega|(refine a ?_ ?_<;>simp[fU,nw]<;>omega)|(refine b ?_ (λX=>?_) rfl<;>(try simp[fU,nw])<;>omega)))
end
end
theorem pC{p:Th->Bool}{f:Nat->Th}:∀{N:Nat},(∀i,i<N->p (f i)=XD)->cnt p f N=0|0,_=>rfl|N+1,h=>by simp only[cnt];rw[pC λi b=>h i Ω,h N Ω];rfl
theorem Inv.Kk{f:Nat->Th}{w:Wd}(h:Inv f N w 0)(b:∀i,i<N->f i=.out\/f i=.sq):∀i,i<N->f i=.out:=by(have z:∀p:Th->Bool,p .out=XD->p .sq=XD->cnt p f N=0:=λp l m=>pC λi a=>by grind);obtain⟨c,d,q,g,j,r,s,k⟩:=h;rw[z qS rfl rfl]at c;rw[z BZ rfl rfl]at d;rw[z Jc rfl rfl,z Cd rfl rfl]at g;rw[z Qd rfl rfl]at j;obtain⟨L,W,S,n⟩:=w;(have o:cnt pQ f N=0:=by grind);intro i a;rcases b i a with e|e;{exact e};have:=pM (p:=pQ) (f:=f) a (by rw[e];rfl);omega
def wt:Th->Nat
 |.uc _|.ux=>5
 |.us=>4
 |.t2|.a1 _ _=>2
 |.ld aw _|.ca _ aw _=>if aw then 1 else 2
 |.cs _=>2
 |.c0=>2
 |_=>0
end Go.Mx
namespace Go.Rk
variable{α:Type}
inductive Rk(α:Type)where
 |z
 |s(f:α->Rk α)
def Lt{α:Type}(a b:Rk α):Prop:=∃f x,b=.s f/\a=f x
theorem Lt.UT:WellFounded (Lt (α:=α)):=by refine⟨λa=>?_⟩;induction a with|z=>exact⟨_,λb⟨f,x,h,_⟩=>by cases h⟩|s g c=>refine⟨_,λb⟨f,x,h,e⟩=>?_⟩;cases h;rw[e];exact c x
abbrev DD{α:Type}:Rk α->Rk α->Prop:=Relation.TransGen Lt
theorem Lt.wf:WellFounded (DD (α:=α)):=Lt.UT.transGen
theorem rO(f:α->Rk α)(x:α):DD (f x) (.s f):=.single ⟨f,x,rfl,rfl⟩
theorem TH(f:α->Rk α)(x:α):DD (f x) (.s λ_=>.s f):=.tail (.single ⟨f,x,rfl,rfl⟩) ⟨_,x,rfl,rfl⟩
def Qj{α:Type}(N:Nat)(V' V:Nat->Rk α):Prop:=∃i,i<N/\DD (V' i) (V i)/\∀j,j≠i->V' j=V j
theorem Qj.wf{α:Type}:∀N:Nat,WellFounded (Qj (α:=α) N)|0=>⟨λV=>⟨_,λc⟨i,h,_⟩=>absurd h (V8 i)⟩⟩|N+1=>by have j:=Qj.wf (α:=α) N;(have f:∀d:Rk α,∀V:Nat->Rk α,V N=d->Acc (Qj (N+1)) V:=by intro d;induction Lt.wf.apply d with|intro d _ l=>intro V;induction j.apply V with|intro V _ e=>intro g;refine⟨_,λc⟨i,k,b,a⟩=>?_⟩;rcases Wb (Xd k)with h|rfl;{exact e c ⟨i,h,b,a⟩ ((a N Ω).trans g)};exact l (c i) (g▸b) c rfl);exact⟨λV=>f _ V rfl⟩
end Go.Rk
namespace Go.Cr
open Go.Conc Go.Mx Go.Rk
open Go.ConcR(KK WgAt stA smA rd wr mk)
open Go.ConcM(OsLater)
variable{g g':XR}{own' O:Nat->Prop}{es:Array Ym}{v':XP}
section
structure Cx where
 P:XY
 RO:Nat->Prop
 mu:Nat
 mo:Nat
 pre:Array XN
 tP:XW
 mm:Nat
 AQ:Array Yw->Prop
 wg:Nat
 tW:XW
 out:Nat
 tO:XW
 no:Nat
 oc:Nat->Nat->Prop
 res:Nat->XN
 base:Nat
 n:Nat
 End:XR->XP->Prop
 w0:XP
 solo:Prop
 halt:(Nat->Prop)->XR->XP->Prop
 sT:Int->Int->Yd
variable(C:Cx)
def Cx.muA:Yl:=⟨C.mu,C.mo,XQ⟩
def Cx.msA:Yl:=⟨C.mu,C.mo+1,XQ⟩
def aB(v:XP)(s q:Int):Prop:=v.heap[C.mu]?=XG (.cells (C.pre++#[.int .i32 s,.int .u32 q]) C.tP)
def cG(v:XP)(w:Wd)(q:Nat):Prop:=aB C v w.enc q
def SW(v:XP)(es:Array Yw):Prop:=∃ck,v.heap[C.mm]?=XG (.map es ck)
def ay(v:XP):Prop:=∃es,SW C v es/\C.AQ es
def Df(v:XP):Prop:=∃cs:Array XN,v.heap[C.out]?=XG (.cells cs C.tO)/\cs.size=C.no
structure cY(v:XP):Prop where
 port:∃s q,aB C v s q
 gC:∃st sm,v.heap[C.wg]?=XG (C.sT st sm)
 uZ:Df C v
structure W0(w:XP):Prop where
 os:OsLater C.w0.os w.os
 out:w.output=C.w0.output
 tape:w.tape=C.w0.tape
structure Cx.Ok:Prop where
 pre:C.pre.size=C.mo
 lU:C.mu≠C.mm
 gd:C.mu≠C.wg
 fW:C.mu≠C.out
 nT:C.mm≠C.wg
 mI:C.mm≠C.out
 iT:C.wg≠C.out
 ro:∀k,C.RO k->k≠C.mu/\k≠C.mm/\k≠C.wg/\k≠C.out
 oc:∀i j o,C.oc i o->C.oc j o->i=j
 UY:∀o,¬C.oc 0 o
structure Env(i:Nat)(own:Nat->Prop)(v v1:XP):Prop where
 keep:∀k,own k\/C.RO k->v1.heap[k]?=v.heap[k]?
 grow:v.heap.size<=v1.heap.size
 aN:cY C v->cY C v1
 BI:∀o,C.oc i o->v1.cell? ⟨C.out,o,XQ⟩=v.cell? ⟨C.out,o,XQ⟩
def Cx.CU(k n:Nat):Prop:=k=C.mu/\n<=C.mo
def Cx.wk(i:Nat):Prop:=i≠0\/C.solo
def q9(own:Nat->Prop)(e:Ym):Prop:=ae.Us own C.RO (λ_ _=>False) e\/∃o,o<C.mo/\e=⟨.cell ⟨C.mu,o,XQ⟩,XD,XD⟩
structure k6(own:Nat->Prop)(v v':XP)(es:Array Ym):Prop where
 keep:∀k,k<v.heap.size->¬own k->v'.heap[k]?=v.heap[k]?
 grow:v.heap.size<=v'.heap.size
 os:v'.os=v.os
 out:v'.output=v.output
 tape:v'.tape=v.tape
 evs:∀e∈es,q9 C (ae.more own v v') e
structure S4(i:Nat)(v v':XP)(es:Array Ym):Prop where
 keep:∀k,k≠C.out->v'.heap[k]?=v.heap[k]?
 size:v'.heap.size=v.heap.size
 os:v'.os=v.os
 out:v'.output=v.output
 tape:v'.tape=v.tape
 blk:Df C v->Df C v'
 cells:∀o,¬C.oc i o->v'.cell? ⟨C.out,o,XQ⟩=v.cell? ⟨C.out,o,XQ⟩
 evs:∀e∈es,∃o,C.oc i o/\e=⟨.cell ⟨C.out,o,XQ⟩,XL,XD⟩
def Fin(i:Nat)(v:XP):Prop:=∀o,C.oc i o->v.cell? ⟨C.out,o,XQ⟩=XG (C.res o)
structure DL(w w':XP)(es:Array Ym):Prop where
 heap:w'.heap=w.heap
 tape:w'.tape=w.tape
 out:w'.output=w.output
 os:OsLater w.os w'.os
 evs:es=#[]
structure Md where
 hold:Bool
 deaf:Bool
 tok:Bool
 said:Bool
def Md.free:Md:=⟨XD,XD,XD,XD⟩
def Md.bI:Md:=⟨XD,XL,XD,XD⟩
def Md.mB:Md:=⟨XL,XL,XD,XD⟩
def Md.AU:Md:=⟨XL,XD,XD,XD⟩
def Md.own:Md:=⟨XL,XD,XL,XD⟩
def Md.y5:Md:=⟨XD,XD,XD,XL⟩
def Md.vT:Md:=⟨XD,XL,XD,XL⟩
def fB(m:Md)(own:Nat->Prop):Nat->Prop:=λk=>own k\/(m.tok=XL/\k=C.mm)
inductive iV(i:Nat):Md->Mark->Md->Prop
 |Qb:iV i .free .disable .bI
 |JM:iV i .AU .disable .mB
 |LP:iV i .y5 .disable .vT
 |en:iV i .bI .enable .free
 |Sv:iV i .mB .enable .AU
 |acq:iV i .AU (.acquire C.muA) .own
 |Ey:iV i .own (.releaseMerge C.muA) .AU
 |DK:i≠0->iV i .free (.releaseMerge (stA C.wg)) .y5
 |sr{m:Md}:i=0->m.tok=XD->iV i m (.read (smA C.wg)) m
section stops
variable(i:Nat)(own:Nat->Prop)
abbrev cJ(S:XR->XP->Prop)(n:Nat)(g:XR)(w:XP):Prop:=Goes C.P (i==0) (Env C i own) DL S n g w
section lock
variable(H:Wd->Bool->Bool->Nat->XR->XP->Prop)(Q:XR->XP->Prop)
def uP(aw st:Bool)(it:Nat)(g:XR)(w:XP):Prop:=
 g.status=.running/\∀wd q,cG C w wd q->(aw=XL->wd.W=XL)->∃g',XT C.P (i==0) g w=.go g' w #[]/\∃n,cJ C i own (H wd aw st it) n g' w
def O2(o:Wd)(it:Nat)(g:XR)(w:XP):Prop:=
 g.status=.running/\∀wd q,cG C w wd q->
   (wd=o->∃g',XT C.P (i==0) g w=.go g' (w.setCell C.muA (.int .i32 ({wd with W:=XL}:Wd).enc)) #[rd C.muA,wr C.muA]/\∃n,cJ C i own (uP C i own H XL XD (it+1)) n g' (w.setCell C.muA (.int .i32 ({wd with W:=XL}:Wd).enc)))/\
   (wd≠o->∃g',XT C.P (i==0) g w=.go g' w #[rd C.muA]/\∃n,cJ C i own (uP C i own H XD XD (it+1)) n g' w)
def AtA1(o:Wd)(st:Bool)(g:XR)(w:XP):Prop:=
 g.status=.running/\∀wd q,cG C w wd q->wd.n<100000000->wd.L=XD->wd.S=XL->wd.n≠0->
   ∃g',XT C.P (i==0) g w=.go g' (w.setCell C.muA (.int .i32 (⟨XL,wd.W,st&&o.n !=1,wd.n-1⟩:Wd).enc)) #[rd C.muA,wr C.muA]/\Q g' (w.setCell C.muA (.int .i32 (⟨XL,wd.W,st&&o.n !=1,wd.n-1⟩:Wd).enc))
def L2(g:XR)(w:XP):Prop:=
 g.status=.running/\∃st,∀wd q,cG C w wd q->wd.n<100000000->(wd.S=XL->wd.L=XD/\wd.W=XD/\wd.n≠0)->(wd.S=XD->wd.W=XL)->∃g',XT C.P (i==0) g w=.go g' w #[]/\
   (wd.S=XL->∃n,cJ C i own (AtA1 C i Q wd st) n g' w)/\(wd.S=XD->∃n,cJ C i own (H wd XL st 0) n g' w)
def Ds(g:XR)(w:XP):Prop:=
 g.status=.running/\g.offers=XQ/\(∀wd,cG C w wd 0->XT C.P (i==0) g w=.go {g with status:=.blocked} w #[])/\
   ∀wd q,cG C w wd (q+1)->∃g',XT C.P (i==0) g w=.go g' (w.setCell C.msA (.int .u32 (q:Nat))) (semEvents C.msA)/\∃n,cJ C i own (L2 C i own H Q) n g' (w.setCell C.msA (.int .u32 (q:Nat)))
def P2(o:Wd)(aw st:Bool)(it:Nat)(g:XR)(w:XP):Prop:=
 g.status=.running/\∀wd q,cG C w wd q->
   (wd=o->∃g',XT C.P (i==0) g w=.go g' (w.setCell C.muA (.int .i32 (nw o aw st).enc)) #[rd C.muA,wr C.muA]/\
    (o.L=XD->o.S=XD->Q g' (w.setCell C.muA (.int .i32 (nw o aw st).enc)))/\((o.L||o.S)=XL->∃n,cJ C i own (Ds C i own H Q) n g' (w.setCell C.muA (.int .i32 (nw o aw st).enc))))/\
   (wd≠o->∃g',XT C.P (i==0) g w=.go g' w #[rd C.muA]/\∃n,cJ C i own (uP C i own H aw st it) n g' w)
def gP(o:Wd)(aw st:Bool)(it:Nat)(g:XR)(w:XP):Prop:=
 (it<4/\uP C i own H aw st (it+1) g w)\/(it<4/\o.L=XL/\o.S=XD/\o.W=XD/\o.n≠0/\aw=XD/\O2 C i own H o it g w)\/P2 C i own H Q o aw st it g w
def jk:Prop:=∀o aw st it g w,it<=4->(aw=XL->o.W=XL)->(st=XL->aw=XL)->o.n<100000000->H o aw st it g w->∃n,cJ C i own (gP C i own H Q o aw st it) n g w
end lock
section unlock
variable(HU:Wd->XR->XP->Prop)(Q:XR->XP->Prop)
def BO(g:XR)(w:XP):Prop:=
 g.status=.running/\mayWake C.P g=XL/\∀wd q,q<100000000->cG C w wd q->∃g',XT C.P (i==0) g w=.go g' (w.setCell C.msA (.int .u32 (q+1:Nat))) (semEvents C.msA)/\∃n,cJ C i own Q n g' (w.setCell C.msA (.int .u32 (q+1:Nat)))
def KA(g:XR)(w:XP):Prop:=
 g.status=.running/\∀wd q,cG C w wd q->wd.n<100000000->∃g',XT C.P (i==0) g w=.go g' w #[]/\
   (wd.n=0\/wd.L=XL\/wd.W=XL\/wd.S=XL->∃n,cJ C i own Q n g' w)/\(wd.n≠0->wd.L=XD->wd.W=XD->wd.S=XD->∃n,cJ C i own (HU wd) n g' w)
def Dw(o:Wd)(g:XR)(w:XP):Prop:=
 g.status=.running/\∀wd q,cG C w wd q->
   (wd=o->∃g',XT C.P (i==0) g w=.go g' (w.setCell C.muA (.int .i32 ({wd with W:=XL,n:=wd.n-1}:Wd).enc)) #[rd C.muA,wr C.muA]/\∃n,cJ C i own (BO C i own Q) n g' (w.setCell C.muA (.int .i32 ({wd with W:=XL,n:=wd.n-1}:Wd).enc)))/\
   (wd≠o->∃g',XT C.P (i==0) g w=.go g' w #[rd C.muA]/\∃n,cJ C i own (KA C i own HU Q) n g' w)
def BK:Prop:=∀o g w,o.L=XD->o.W=XD->o.S=XD->o.n≠0->o.n<100000000->HU o g w->∃n,cJ C i own (Dw C i own HU Q o) n g w
def Pt(g:XR)(w:XP):Prop:=
 g.status=.running/\∀wd q,cG C w wd q->wd.L=XL->wd.n<100000000->
   ∃g',XT C.P (i==0) g w=.go g' (w.setCell C.muA (.int .i32 ({wd with L:=XD}:Wd).enc)) #[rd C.muA,wr C.muA]/\
     (wd.S=XL->∃n,cJ C i own (BO C i own Q) n g' (w.setCell C.muA (.int .i32 ({wd with L:=XD}:Wd).enc)))/\
     (wd.S=XD->(wd.n=0\/wd.W=XL)->∃n,cJ C i own Q n g' (w.setCell C.muA (.int .i32 ({wd with L:=XD}:Wd).enc)))/\
     (wd.S=XD->wd.n≠0->wd.W=XD->∃n,cJ C i own (Dw C i own HU Q {wd with L:=XD}) n g' (w.setCell C.muA (.int .i32 ({wd with L:=XD}:Wd).enc)))
end unlock
def PW(H:Wd->Bool->Bool->Nat->XR->XP->Prop)(Q:XR->XP->Prop)(g:XR)(w:XP):Prop:=
 g.status=.running/\∀wd q,cG C w wd q->
   (wd=⟨XD,XD,XD,0⟩->∃g',XT C.P (i==0) g w=.go g' (w.setCell C.muA (.int .i32 1)) #[rd C.muA,wr C.muA]/\Q g' (w.setCell C.muA (.int .i32 1)))/\
   (wd≠⟨XD,XD,XD,0⟩->∃g',XT C.P (i==0) g w=.go g' w #[rd C.muA]/\∃n,cJ C i own (uP C i own H XD XD 0) n g' w)
def AtD4(g:XR)(w:XP):Prop:=
 g.status=.running/\mayWake C.P g=XL/\(WgAt C.tW C.wg w 0 0->∃g',XT C.P (i==0) g w=.go g' (w.setCell (smA C.wg) (.int .u32 1)) (semEvents (smA C.wg))/\∃q,QuitsD C.P q 1 g')
def AtD3(g:XR)(w:XP):Prop:=
 g.status=.running/\(WgAt C.tW C.wg w 1 0->∃g',XT C.P (i==0) g w=.go g' (w.setCell (stA C.wg) (.int .u64 0)) #[wr (stA C.wg)]/\∃n,cJ C i own (AtD4 C i) n g' (w.setCell (stA C.wg) (.int .u64 0)))
def AtD2(g:XR)(w:XP):Prop:=
 g.status=.running/\(WgAt C.tW C.wg w 1 0->∃g',XT C.P (i==0) g w=.go g' w #[rd (stA C.wg)]/\∃n,cJ C i own (AtD3 C i own) n g' w)
def AtD1(g:XR)(w:XP):Prop:=
 g.status=.running/\∀v wt:Nat,wt<=1->v<100000000->WgAt C.tW C.wg w ((v+1)*KK+wt) 0->
   ∃g',XT C.P (i==0) g w=.go g' (w.setCell (stA C.wg) (.int .u64 (v*KK+wt))) #[rd (stA C.wg),wr (stA C.wg)]/\
     ((v=0/\wt=1)->∃n,cJ C i own (AtD2 C i own) n g' (w.setCell (stA C.wg) (.int .u64 (v*KK+wt))))/\(¬(v=0/\wt=1)->∃q,QuitsD C.P q 1 g')
section wait
variable(A:XR->XP->Prop)
def AtAcq(g:XR)(w:XP):Prop:=
 g.status=.running/\∃g',XT C.P (i==0) g w=.go g' w #[mk (.acquire (stA C.wg))]/\(cY C w->(∀j,Fin C j w)->cG C w ⟨XD,XD,XD,0⟩ 0->W0 C w->C.End g' w)
def AtKe(g:XR)(w:XP):Prop:=
 g.status=.running/\∃g',XT C.P (i==0) g w=.go g' w #[mk .enable]/\∃n,cJ C i own (AtAcq C i) n g' w
def AtW4(g:XR)(w:XP):Prop:=
 g.status=.running/\(WgAt C.tW C.wg w 0 0->∃g',XT C.P (i==0) g w=.go g' w #[rd (stA C.wg)]/\∃n,cJ C i own (AtKe C i own) n g' w)
def AtW3(g:XR)(w:XP):Prop:=
 g.status=.running/\g.offers=XQ/\((∃st,WgAt C.tW C.wg w st 0)->XT C.P (i==0) g w=.go {g with status:=.blocked} w #[])/\
   (WgAt C.tW C.wg w 0 1->∃g',XT C.P (i==0) g w=.go g' (w.setCell (smA C.wg) (.int .u32 0)) (semEvents (smA C.wg))/\∃n,cJ C i own (AtW4 C i own) n g' (w.setCell (smA C.wg) (.int .u32 0)))
def RV(g:XR)(w:XP):Prop:=
 g.status=.running/\∃g',XT C.P (i==0) g w=.go g' w #[mk (.write (smA C.wg))]/\∃n,cJ C i own (AtW3 C i own) n g' w
def AtW2(vs:Nat)(g:XR)(w:XP):Prop:=
 g.status=.running/\∀v:Nat,v<100000000->WgAt C.tW C.wg w (v*KK) 0->
   (v=vs->∃g',XT C.P (i==0) g w=.go g' (w.setCell (stA C.wg) (.int .u64 (v*KK+1))) #[rd (stA C.wg),wr (stA C.wg)]/\∃n,cJ C i own (RV C i own) n g' (w.setCell (stA C.wg) (.int .u64 (v*KK+1))))/\
   (v≠vs->∃g',XT C.P (i==0) g w=.go g' w #[rd (stA C.wg)]/\∃n,cJ C i own A n g' w)
def AtW1(g:XR)(w:XP):Prop:=
 g.status=.running/\∀v:Nat,v<100000000->WgAt C.tW C.wg w (v*KK) 0->∃g',XT C.P (i==0) g w=.go g' w #[rd (stA C.wg)]/\
   (v=0->∃n,cJ C i own (AtKe C i own) n g' w)/\(v≠0->∃n,cJ C i own (AtW2 C i own A v) n g' w)
def Am:Prop:=∀g w,A g w->∃n,cJ C i own (AtW1 C i own A) n g w
end wait
def Uv(c:Nat->XR->XP->Prop)(g:XR)(w:XP):Prop:=
 g.status=.running/\∀v:Nat,v<100000000->WgAt C.tW C.wg w (v*KK) 0->
   ∃g',XT C.P (i==0) g w=.go g' (w.setCell (stA C.wg) (.int .u64 ((v+1)*KK))) #[rd (stA C.wg),wr (stA C.wg)]/\c v g' (w.setCell (stA C.wg) (.int .u64 ((v+1)*KK)))
end stops
abbrev Ix:=XR×XP×XP
inductive fS:Nat->Nat->Md->Rk Ix->(Nat->Prop)->XR->XP->Prop
 |step{i j:Nat}{m:Md}{f:Ix->Rk Ix}{own:Nat->Prop}{g:XR}{v:XP}:g.status=.running->m.said=XD->
  (∀v1,Env C i (fB C m own) v v1->∃g' v' es,XT C.P (i==0) g v1=.go g' v' es/\k6 C (fB C m own) v1 v' es)->
  (∀v1 g' v' es,Env C i (fB C m own) v v1->XT C.P (i==0) g v1=.go g' v' es->fS i j m (f (g',v1,v')) (ae.more own v1 v') g' v')->fS i j m (.s f) own g v
 |idle{i j:Nat}{m:Md}{f:Ix->Rk Ix}{own:Nat->Prop}{g:XR}{v:XP}:g.status=.running->
  (∀v1,Env C i (fB C m own) v v1->∃g' v',XT C.P (i==0) g v1=.go g' v' #[]/\DL v1 v' #[])->
  (∀v1 g' v' es,Env C i (fB C m own) v v1->XT C.P (i==0) g v1=.go g' v' es->fS i j m (f (g',v1,v')) own g' v')->fS i j m (.s f) own g v
 |mark{i j:Nat}{m m':Md}{k:Mark}{f:Ix->Rk Ix}{own:Nat->Prop}{g:XR}{v:XP}:g.status=.running->iV C i m k m'->
  (∀v1,Env C i (fB C m own) v v1->∃g',XT C.P (i==0) g v1=.go g' v1 #[mk k])->(k=.releaseMerge C.muA->m=.own/\ay C v)->(k=.releaseMerge (stA C.wg)->Fin C i v)->
  (∀v1 g' v' es,Env C i (fB C m own) v v1->(k=.acquire C.muA->ay C v1)->XT C.P (i==0) g v1=.go g' v' es->fS i j m' (f (g',v1,v1)) own g' v1)->fS i j m (.s f) own g v
 |lock{i j:Nat}{f:Ix->Rk Ix}{own:Nat->Prop}{g:XR}{v:XP}(H:Wd->Bool->Bool->Nat->XR->XP->Prop)(Q:XR->XP->Prop):g.status=.running->C.wk i->
  (∀g v1 v2,Q g v1->Env C i own v1 v2->Q g v2)->jk C i own H Q->(∀v1,Env C i own v v1->PW C i own H Q g v1)->
  (∀g' v1,Env C i own v v1->Q g' v1->fS i j .mB (f (g',v1,v1)) own g' v1)->fS i j .bI (.s λ_=>.s f) own g v
 |unlock{i j:Nat}{f:Ix->Rk Ix}{own:Nat->Prop}{g:XR}{v:XP}(HU:Wd->XR->XP->Prop)(Q:XR->XP->Prop):g.status=.running->C.wk i->
  (∀g v1 v2,Q g v1->Env C i own v1 v2->Q g v2)->BK C i own HU Q->(∀v1,Env C i own v v1->Pt C i own HU Q g v1)->
  (∀g' v1,Env C i own v v1->Q g' v1->fS i j .bI (f (g',v1,v1)) own g' v1)->fS i j .mB (.s λ_=>.s f) own g v
 |put{i j:Nat}{f:Ix->Rk Ix}{own:Nat->Prop}{g:XR}{v:XP}:g.status=.running->i≠0->
  (∀v1,Env C i own v v1->cY C v1->∃g' v' es,XT C.P (i==0) g v1=.go g' v' es/\S4 C i v1 v' es)->
  (∀v1 g' v' es,Env C i own v v1->cY C v1->XT C.P (i==0) g v1=.go g' v' es->fS i j .free (f (g',v1,v')) own g' v')->fS i j .free (.s f) own g v
 |done{i j:Nat}{own:Nat->Prop}{g:XR}{v:XP}:i≠0->(∀v1,Env C i own v v1->AtD1 C i own g v1)->fS i j .vT (.s λ_=>.z) own g v
 |add{i x:Nat}{f:Ix->Rk Ix}{own:Nat->Prop}{g:XR}{v:XP}(c:Nat->XR->XP->Prop):i=0->(∀v1,Env C i own v v1->Uv C i c g v1)->
  (∀v1 y g',Env C i own v v1->c y g' v1->fS i (2*x+1) .bI (f (g',v1,v1)) own g' v1)->fS i (2*x) .bI (.s f) own g v
 |spawn{i x:Nat}{f ρ:Ix->Rk Ix}{own ownc:Nat->Prop}{g:XR}{v:XP}:i=0->g.status=.running->x<C.n->(∀k,ownc k->own k)->
  (∀v1,Env C i own v v1->∃g' child,XT C.P (i==0) g v1=.spawn g' child v1 #[]/\child.status=.running)->
  (∀v1 g' child v' es,Env C i own v v1->XT C.P (i==0) g v1=.spawn g' child v' es->fS (C.base+x) 0 .free (ρ (child,v1,v1)) ownc child v1)->
  (∀v1 g' child v' es,Env C i own v v1->XT C.P (i==0) g v1=.spawn g' child v' es->fS i (2*x+2) .free (f (g',v1,v1)) (λk=>own k/\¬ownc k) g' v1)->
  fS i (2*x+1) .free (.s f) own g v
 |wait{i:Nat}{own:Nat->Prop}{g:XR}{v:XP}(A:XR->XP->Prop):i=0->Am C i own A->(∃n,cJ C i own A n g v)->fS i (2*C.n) .bI .z own g v
 |stop{i j:Nat}{own:Nat->Prop}{g:XR}{v:XP}:C.solo->g.status=.running->(∀v1,Env C i own v v1->C.halt own g v1)->fS i j .free .z own g v
end
section
variable{C:Cx}{i j:Nat}{m:Md}{own:Nat->Prop}{v v1 v2:XP}
theorem Env.refl:Env C i own v v:=⟨λ_ _=>rfl,U1 _,id,λ_ _=>rfl⟩
theorem Env.trans(h:Env C i own v v1)(k:Env C i own v1 v2):Env C i own v v2:=⟨λx b=>(k.keep x b).trans (h.keep x b),Vg h.grow k.grow,λx=>k.aN (h.aN x),λo a=>(k.BI o a).trans (h.BI o a)⟩
theorem Env.sub(h:Env C i own v v1)(b:∀k,own' k->own k):Env C i own' v v1:=⟨λk a=>h.keep k (a.imp (b k) id),h.grow,h.aN,h.BI⟩
theorem Env.fP(h:Env C i (fB C m own) v v1):Env C i own v v1:=h.sub λ_ a=>.inl a
theorem Env.Kz(h:Env C i own v v1)(b:m.tok=XD):Env C i (fB C m own) v v1:=h.sub λ_ a=>a.resolve_right (by simp[b])
theorem Env.UZ(l:C.pre.size=C.mo)(a:cY C v)(h:Env C i O v v1):ae.Env O C.RO C.CU v v1:=⟨h.keep,λk n e x t f p=>by obtain⟨rfl,o⟩:=e;obtain⟨s,q,c⟩:=a.port;obtain⟨u,r,d⟩:=(h.aN a).port;unfold aB at c d;grind,h.grow⟩
theorem bM(a b c:XP)(h:Env C i own a b)(k:Env C i own b c):Env C i own a c:=h.trans k
theorem ay.env(h:ay C v)(e:Env C i own v v1)(f:own C.mm):ay C v1:=by obtain⟨b,⟨a,d⟩,c⟩:=h;exact⟨b,⟨a,(e.keep _ (.inl f)).trans d⟩,c⟩
theorem Fin.env(h:Fin C i v)(b:Env C i own v v1):Fin C i v1:=λo a=>(b.BI o a).trans (h o a)
theorem fS.env{ρ:Rk Ix}(h:fS C i j m ρ own g v)(b:Env C i (fB C m own) v v1):fS C i j m ρ own g v1:=by cases h with|step d f k p=>exact .step d f (λx a=>k x (b.trans a)) λx l q o a=>p x l q o (b.trans a)|idle d f k=>exact .idle d (λx a=>f x (b.trans a)) λx l q o a=>k x l q o (b.trans a)|mark d f k p s t=>exact .mark d f (λx a=>k x (b.trans a)) (λe=>⟨(p e).1,(p e).2.env b (by rw[(p e).1];exact .inr ⟨rfl,rfl⟩)⟩) (λe=>(s e).env b) λx l q o a=>t x l q o (b.trans a)|lock H Q d r f k p s=>exact .lock H Q d r f k (λx a=>p x (b.fP.trans a)) λl x a=>s l x (b.fP.trans a)|unlock H Q d r f k p s=>exact .unlock H Q d r f k (λx a=>p x (b.fP.trans a)) λl x a=>s l x (b.fP.trans a)|put d r f k=>exact .put d r (λx a=>f x (b.fP.trans a)) λx l q o a=>k x l q o (b.fP.trans a)|done r d=>exact .done r λx a=>d x (b.fP.trans a)|add c d f k=>exact .add c d (λx a=>f x (b.fP.trans a)) λx y l a=>k x y l (b.fP.trans a)|spawn d f k p s t u=>exact .spawn d f k p (λx a=>s x (b.fP.trans a)) (λx l c q o a=>t x l c q o (b.fP.trans a)) λx l c q o a=>u x l c q o (b.fP.trans a)|wait A d f k=>exact .wait A d f (k.imp λn w=>w.rely bM b.fP)|stop d f k=>exact .stop d f λx a=>k x (b.fP.trans a)
theorem fS.running{ρ:Rk Ix}(h:fS C i j m ρ own g v):g.status=.running\/∃n A,cJ C i own A n g v/\Am C i own A:=by cases h with|wait A b a d=>grind|done _ h=>exact .inl (h v .refl).1|add c b a=>exact .inl (a v .refl).1|_=>simp_all
def ag(C:Cx)(i j:Nat)(m:Md)(own:Nat->Prop)(g:XR)(v:XP):Prop:=∃ρ,fS C i j m ρ own g v
open Classical in
noncomputable def Af(p:Ix->Rk Ix->Prop)(x:Ix):Rk Ix:=if h:∃ρ,p x ρ then Classical.choose h else .z
theorem fJ{p:Ix->Rk Ix->Prop}{x:Ix}(h:∃ρ,p x ρ):p x (Af p x):=by unfold Af;grind
theorem ag.env(h:ag C i j m own g v)(a:Env C i (fB C m own) v v1):ag C i j m own g v1:=h.imp λ_ k=>k.env a
theorem wB{w w':XP}{es':Array Ym}(h:GStep.go g w es=.go g' w' es'):g=g'/\w=w'/\es=es':=by simp_all
theorem ag.step(q:g.status=.running)(o:m.said=XD)(h:∀v1,Env C i (fB C m own) v v1->∃g' d es,XT C.P (i==0) g v1=.go g' d es/\k6 C (fB C m own) v1 d es/\ag C i j m (ae.more own v1 d) g' d):ag C i j m own g v:=by refine⟨.s (Af λx f=>fS C i j m f (ae.more own x.2.1 x.2.2) x.1 x.2.2),.step q o (λx k=>?_) λx g' d es k e=>?_⟩;{grind};obtain⟨n,v2,l,a,_,c⟩:=h x k;rw[a]at e;obtain⟨rfl,rfl,rfl⟩:=wB e;exact fJ (p:=λx f=>fS C i j m f (ae.more own x.2.1 x.2.2) x.1 x.2.2) c
theorem ag.idle(l:g.status=.running)(h:∀v1,Env C i (fB C m own) v v1->∃g' b,XT C.P (i==0) g v1=.go g' b #[]/\DL v1 b #[]/\ag C i j m own g' b):ag C i j m own g v:=by refine⟨.s (Af λx d=>fS C i j m d own x.1 x.2.2),.idle l (λx f=>?_) λx g' b n f e=>?_⟩;{grind};obtain⟨k,v2,a,_,c⟩:=h x f;rw[a]at e;obtain⟨rfl,rfl,rfl⟩:=wB e;exact fJ (p:=λx d=>fS C i j m d own x.1 x.2.2) c
theorem cM(w:XP):DL w w #[]:=⟨rfl,rfl,rfl,.refl _,rfl⟩
theorem ag.ctl(a:g.status=.running)(h:∀w,XT C.P (i==0) g w=.go g' w #[])(k:ag C i j m own g' v):ag C i j m own g v:=.idle a λx b=>⟨g',x,h x,cM x,k.env b⟩
theorem ag.mark{m':Md}{k:Mark}(r:g.status=.running)(q:iV C i m k m')(l:k=.releaseMerge C.muA->m=.own/\ay C v)(n:k=.releaseMerge (stA C.wg)->Fin C i v)(h:∀v1,Env C i (fB C m own) v v1->∃g',XT C.P (i==0) g v1=.go g' v1 #[mk k]/\((k=.acquire C.muA->ay C v1)->ag C i j m' own g' v1)):ag C i j m own g v:=by refine⟨.s (Af λx b=>fS C i j m' b own x.1 x.2.1),.mark r q (λx d=>?_) l n λx g' u t d o e=>?_⟩;{grind};obtain⟨f,a,c⟩:=h x d;rw[a]at e;obtain⟨rfl,rfl,rfl⟩:=wB e;exact fJ (p:=λx b=>fS C i j m' b own x.1 x.2.1) (c o)
theorem ag.lock(d:C.wk i)(H:Wd->Bool->Bool->Nat->XR->XP->Prop)(Q:XR->XP->Prop)(l:g.status=.running)(c:∀g v1 v2,Q g v1->Env C i own v1 v2->Q g v2)(b:jk C i own H Q)(h:∀v1,Env C i own v v1->PW C i own H Q g v1)(k:∀g' v1,Env C i own v v1->Q g' v1->ag C i j .mB own g' v1):ag C i j .bI own g v:=⟨_,.lock H Q l d c b h λg' x n e=>fJ (p:=λx a=>fS C i j .mB a own x.1 x.2.1) (k g' x n e)⟩
theorem ag.unlock(e:C.wk i)(a:Wd->XR->XP->Prop)(Q:XR->XP->Prop)(n:g.status=.running)(d:∀g v1 v2,Q g v1->Env C i own v1 v2->Q g v2)(c:BK C i own a Q)(h:∀v1,Env C i own v v1->Pt C i own a Q g v1)(k:∀g' v1,Env C i own v v1->Q g' v1->ag C i j .bI own g' v1):ag C i j .mB own g v:=⟨_,.unlock a Q n e d c h λg' x o l=>fJ (p:=λx b=>fS C i j .bI b own x.1 x.2.1) (k g' x o l)⟩
theorem ag.put(o:i≠0)(q:g.status=.running)(h:∀v1,Env C i own v v1->cY C v1->∃g' b es,XT C.P (i==0) g v1=.go g' b es/\S4 C i v1 b es/\ag C i j .free own g' b):ag C i j .free own g v:=by refine⟨.s (Af λx d=>fS C i j .free d own x.1 x.2.2),.put q o (λx k f=>?_) λx g' b es k f e=>?_⟩;{grind};obtain⟨n,v2,l,a,_,c⟩:=h x k f;rw[a]at e;obtain⟨rfl,rfl,rfl⟩:=wB e;exact fJ (p:=λx d=>fS C i j .free d own x.1 x.2.2) c
theorem ag.done(a:i≠0)(h:∀v1,Env C i own v v1->AtD1 C i own g v1):ag C i j .vT own g v:=⟨_,.done a h⟩
theorem ag.add{x:Nat}(c:Nat->XR->XP->Prop)(b:i=0)(h:∀v1,Env C i own v v1->Uv C i c g v1)(k:∀v1 y g',Env C i own v v1->c y g' v1->ag C i (2*x+1) .bI own g' v1):ag C i (2*x) .bI own g v:=⟨_,.add c b h λv1 y g' e d=>fJ (p:=λz a=>fS C i (2*x+1) .bI a own z.1 z.2.1) (k v1 y g' e d)⟩
theorem ag.spawn{x:Nat}{ownc:Nat->Prop}(A:i=0)(E:g.status=.running)(B:x<C.n)(D:∀k,ownc k->own k)(h:∀v1,Env C i own v v1->∃g' b,XT C.P (i==0) g v1=.spawn g' b v1 #[]/\b.status=.running/\ag C (C.base+x) 0 .free ownc b v1/\ag C i (2*x+2) .free (λk=>own k/\¬ownc k) g' v1):ag C i (2*x+1) .free own g v:=by refine⟨_,.spawn (f:=Af λz l=>fS C i (2*x+2) .free l (λk=>own k/\¬ownc k) z.1 z.2.1) (ρ:=Af λz l=>fS C (C.base+x) 0 .free l ownc z.1 z.2.1) A E B D (λv1 n=>?_) (λv1 g' c F y n e=>?_) λv1 g' c F y n e=>?_⟩;{grind};{obtain⟨w,t,a,_,d,u⟩:=h v1 n;rw[a]at e;injection e with o q r s;subst o q r s;exact fJ (p:=λz l=>fS C (C.base+x) 0 .free l ownc z.1 z.2.1) d};obtain⟨w,t,a,_,d,u⟩:=h v1 n;rw[a]at e;injection e with o q r s;subst o q r s;exact fJ (p:=λz l=>fS C i (2*x+2) .free l (λk=>own k/\¬ownc k) z.1 z.2.1) u
theorem ag.stop(b:C.solo)(a:g.status=.running)(h:∀v1,Env C i own v v1->C.halt own g v1):ag C i j .free own g v:=⟨_,.stop b a h⟩
theorem ag.wait(A:XR->XP->Prop)(a:i=0)(b:Am C i own A)(h:∃n,cJ C i own A n g v):ag C i (2*C.n) .bI own g v:=⟨_,.wait A a b h⟩
theorem k6.Nw(h:ae.k6 own C.RO C.CU v v' es):k6 C own v v' es:=⟨h.keep,h.grow,h.os,h.out,h.tape,λe b=>by rcases h.evs e b with x|⟨k,n,o,⟨rfl,d⟩,c,rfl⟩|x;{exact .inl (.inl x)};{exact .inr ⟨o,by omega,rfl⟩};exact .inl (.inr (.inr x))⟩
theorem k6.sub(h:k6 C own v v' es)(b:∀k,own k->own' k):k6 C own' v v' es:=⟨λk l n=>h.keep k l λx=>n (b k x),h.grow,h.os,h.out,h.tape,λe f=>by rcases h.evs e f with x|x;{refine .inl ?_;rcases x with⟨k,c,a,d⟩|x;{refine .inl ⟨k,c,?_,d⟩;rcases a with(a|a)|a;{exact .inl (.inl (b k a))};{exact .inl (.inr a)};simp_all};exact .inr x};exact .inr x⟩
theorem vj:ae.more (fB C m own) v v'=fB C m (ae.more own v v'):=by funext k;simp only[ae.more,fB];grind
def mi(C:Cx)(own:Nat->Prop):Prop:=∀b,own b->b≠C.mu/\b≠C.mm/\b≠C.wg/\b≠C.out
theorem cY.mine(l:cY C v)(h:k6 C O v v' es)(e:¬O C.mu)(f:¬O C.wg)(k:¬O C.out):cY C v':=by obtain⟨⟨s,q,b⟩,⟨x,y,c⟩,⟨d,a,n⟩⟩:=l;exact⟨⟨s,q,(h.keep _ (U3.1 b).1 e).trans b⟩,⟨x,y,(h.keep _ (U3.1 c).1 f).trans c⟩,⟨d,(h.keep _ (U3.1 a).1 k).trans a,n⟩⟩
theorem mi.more(h:mi C own)(d:cY C v)(l:C.mm<v.heap.size):mi C (ae.more own v v'):=λb a=>by rcases a with a|a;{exact h b a};obtain⟨⟨s,q,e⟩,⟨x,y,p⟩,⟨k,o,n⟩⟩:=d;have f:=(U3.1 e).1;grind
theorem mi.not(b:C.Ok)(h:mi C own):¬fB C m own C.mu/\¬fB C m own C.wg/\¬fB C m own C.out:=by refine⟨?_,?_,?_⟩<;>rintro(a|⟨_,a⟩);{exact(h _ a).1 rfl};{exact b.lU a};{exact(h _ a).2.2.1 rfl};{exact b.nT a.symm};{exact(h _ a).2.2.2 rfl};exact b.mI a.symm
theorem cY.step(a:C.Ok)(b:mi C own){v':XP}{es:Array Ym}(c:cY C v)(h:k6 C (fB C m own) v v' es):cY C v':=c.mine h (b.not a).1 (b.not a).2.1 (b.not a).2.2
theorem ag.loc(t:C.Ok)(A:m.said=XD){Stop:(Nat->Prop)->XR->XP->Prop}(h:ae.Loc C.P (i==0) C.RO C.CU Stop O g v):∀own,O=fB C m own->mi C own->C.mm<v.heap.size->cY C v->(∀own g v,mi C own->C.mm<v.heap.size->cY C v->Stop (fB C m own) g v->ag C i j m own g v)->ag C i j m own g v:=by induction h with|stop h=>exactλown e n p l k=>k _ _ _ n p l (e▸h)|step z y _ B=>intro own e n p l k;subst e;refine .step z A λx q=>?_;have f:=q.UZ t.pre l;obtain⟨s,u,r,a,b⟩:=y x f;have o:=k6.Nw b;have c:=q.aN l;have d:=U2 p q.grow;exact⟨s,u,r,a,o,B x s u r f a _ vj (n.more c d) (U2 d o.grow) (c.step t n o) k⟩
end
end Go.Cr
namespace Go.Cr
open Go.Conc Go.Mx Go.Rk
open Go.ConcR(KK WgAt wgBlock stA smA rd wr mk)
open Go.ConcM(OsLater)
variable{es:Array Ym}{s q:Int}{ty:XW}{g:Nat}
section
variable{C:Cx}{i i':Nat}{own own':Nat->Prop}{w w' w1:XP}
structure lX(C:Cx)(i:Nat)(own:Nat->Prop)(w w':XP):Prop where
 keep:∀k,k<w.heap.size->¬own k->k≠C.mu->k≠C.wg->k≠C.out->w'.heap[k]?=w.heap[k]?
 grow:w.heap.size<=w'.heap.size
 aN:cY C w->cY C w'
 BI:∀o,¬C.oc i o->w'.cell? ⟨C.out,o,XQ⟩=w.cell? ⟨C.out,o,XQ⟩
 os:OsLater w.os w'.os
 out:w'.output=w.output
 tape:w'.tape=w.tape
theorem lX.env(f:C.Ok)(h:lX C i own w w')(l:i'≠i)(j:∀k,own' k->¬own k)(n:∀k,own' k->k<w.heap.size/\k≠C.mu/\k≠C.wg/\k≠C.out)(g:∀k,C.RO k->k<w.heap.size/\¬own k):Env C i' own' w w':=⟨λk e=>by rcases e with e|e;{obtain⟨a,b,c,d⟩:=n k e;exact h.keep k a (j k e) b c d};obtain⟨a,_,b,c⟩:=f.ro k e;exact h.keep k (g k e).1 (g k e).2 a b c,h.grow,h.aN,λo m=>h.BI o λx=>l (f.oc _ _ _ m x)⟩
theorem cell_of_block{a:Yl}(h:w'.heap[a.block]?=w.heap[a.block]?):w'.cell? a=w.cell? a:=by simp[XP.cell?,h]
theorem ja(h:cY C w):C.mu<w.heap.size/\C.wg<w.heap.size/\C.out<w.heap.size:=by obtain⟨⟨s,q,c⟩,⟨a,b,d⟩,⟨f,e,_⟩⟩:=h;exact⟨(U3.1 c).1,(U3.1 d).1,(U3.1 e).1⟩
theorem cY.gA(h:cY C w)(f:w'.heap[C.mu]?=w.heap[C.mu]?)(g:w'.heap[C.wg]?=w.heap[C.wg]?)(j:w'.heap[C.out]?=w.heap[C.out]?):cY C w':=by obtain⟨⟨s,q,a⟩,⟨x,y,b⟩,⟨e,c,d⟩⟩:=h;exact⟨⟨s,q,f.trans a⟩,⟨x,y,g.trans b⟩,⟨e,j.trans c,d⟩⟩
theorem lX.Co(d:cY C w)(h:k6 C own w w' es)(f:¬own C.mu)(g:¬own C.wg)(e:¬own C.out):lX C i own w w':=by obtain⟨a,b,c⟩:=ja d;exact⟨λk j l _ _ _=>h.keep k j l,h.grow,λd=>d.gA (h.keep _ a f) (h.keep _ b g) (h.keep _ c e),λo _=>cell_of_block (h.keep _ c e),by rw[h.os];exact .refl _,h.out,h.tape⟩
theorem lX.CO(h:DL w w' es):lX C i own w w':=⟨λk _ _ _ _ _=>by rw[h.heap],by rw[h.heap];omega,λa=>a.gA (by rw[h.heap]) (by rw[h.heap]) (by rw[h.heap]),λo _=>cell_of_block (by rw[h.heap]),h.os,h.out,h.tape⟩
theorem lX.refl:lX C i own w w:=.CO (cM w)
theorem lX.Nl(c:C.Ok)(h:S4 C i w w' es):lX C i own w w':=⟨λk _ _ _ _ d=>h.keep k d,by rw[h.size];omega,λb=>⟨by obtain⟨s,q,a⟩:=b.port;exact⟨s,q,(h.keep _ c.fW).trans a⟩,by obtain⟨s,q,a⟩:=b.gC;exact⟨s,q,(h.keep _ c.iT).trans a⟩,h.blk b.uZ⟩,h.cells,by rw[h.os];exact .refl _,h.out,h.tape⟩
theorem ah(w:XP)(a:Yl)(v:XN){k:Nat}(h:k≠a.block):(w.setCell a v).heap[k]?=w.heap[k]?:=by simp only[XP.setCell];grind
theorem gO(w:XP)(a:Yl)(v:XN){cs:Array XN}{t:XW}{fr:Nat×Nat}(b:a.spot=XQ)(h:w.heap[a.block]?=XG (.cells cs t fr)):(w.setCell a v).heap[a.block]?=XG (.cells (cs.setIfInBounds a.off v) t fr):=by simp only[XP.setCell];grind
theorem cK(w:XP)(a:Yl)(v:XN):(w.setCell a v).heap.size=w.heap.size:=by simp
theorem aB.setSt(a:C.Ok)(h:aB C w s q)(s':Int):aB C (w.setCell C.muA (.int .i32 s')) s' q:=by unfold aB at h⊢;rw[show C.mu=C.muA.block from rfl,gO w C.muA _ rfl h];congr 2;show(C.pre++#[XN.int .i32 s,XN.int .u32 q]).setIfInBounds C.mo (XN.int .i32 s')=C.pre++#[XN.int .i32 s',XN.int .u32 q];rw[<-a.pre];simp
theorem aB.setSm(b:C.Ok)(h:aB C w s q)(a:Int):aB C (w.setCell C.msA (.int .u32 a)) s a:=by unfold aB at h⊢;rw[show C.mu=C.msA.block from rfl,gO w C.msA _ rfl h];congr 2;show(C.pre++#[XN.int .i32 s,XN.int .u32 q]).setIfInBounds (C.mo+1) (XN.int .u32 a)=C.pre++#[XN.int .i32 s,XN.int .u32 a];rw[<-b.pre];simp
theorem lX.set(a:Yl)(v:XN)(c:a.block=C.mu\/a.block=C.wg)(b:C.Ok)(d:cY C w->cY C (w.setCell a v)):lX C i own w (w.setCell a v):=⟨λk _ _ e f _=>ah w a v (by omega),by simp,d,λo _=>cell_of_block (ah w a v (by rcases c with h|h<;>rw[h];{exact b.fW.symm};exact b.iT.symm)),.refl _,rfl,rfl⟩
theorem lX.st(c:C.Ok)(s':Int):lX C i own w (w.setCell C.muA (.int .i32 s')):=.set _ _ (.inl rfl) c λd=>⟨by obtain⟨s,q,a⟩:=d.port;exact⟨s',q,a.setSt c s'⟩,by obtain⟨s,q,a⟩:=d.gC;exact⟨s,q,(ah w C.muA _ c.gd.symm).trans a⟩,by obtain⟨e,a,b⟩:=d.uZ;exact⟨e,(ah w C.muA _ c.fW.symm).trans a,b⟩⟩
theorem lX.sm(c:C.Ok)(s':Int):lX C i own w (w.setCell C.msA (.int .u32 s')):=.set _ _ (.inl rfl) c λd=>⟨by obtain⟨s,q,a⟩:=d.port;exact⟨s,s',a.setSm c s'⟩,by obtain⟨s,q,a⟩:=d.gC;exact⟨s,q,(ah w C.msA _ c.gd.symm).trans a⟩,by obtain⟨e,a,b⟩:=d.uZ;exact⟨e,(ah w C.msA _ c.fW.symm).trans a,b⟩⟩
theorem kQ{st sm:Int}(h:WgAt ty g w st sm)(v:Int):WgAt ty g (w.setCell (stA g) (.int .u64 v)) v sm:=by unfold WgAt wgBlock at h⊢;exact(gO w (stA g) _ rfl h).trans rfl
theorem oK{st sm:Int}(h:WgAt ty g w st sm)(v:Int):WgAt ty g (w.setCell (smA g) (.int .u32 v)) st v:=by unfold WgAt wgBlock at h⊢;exact(gO w (smA g) _ rfl h).trans rfl
theorem O'{st sm st' sm':Int}(h:WgAt ty g w st sm)(k:WgAt ty g w st' sm'):st=st'/\sm=sm':=by unfold WgAt wgBlock at h k;simp_all
theorem lX.iS(c:C.Ok)(f:C.sT=wgBlock C.tW)(s':Int):lX C i own w (w.setCell (stA C.wg) (.int .u64 s')):=.set _ _ (.inr rfl) c λd=>⟨by obtain⟨s,q,a⟩:=d.port;exact⟨s,q,(ah w (stA C.wg) _ c.gd).trans a⟩,by obtain⟨s,q,a⟩:=d.gC;rw[f]at a⊢;exact⟨s',q,kQ a s'⟩,by obtain⟨e,a,b⟩:=d.uZ;exact⟨e,(ah w (stA C.wg) _ c.iT.symm).trans a,b⟩⟩
theorem lX.Uu(c:C.Ok)(f:C.sT=wgBlock C.tW)(s':Int):lX C i own w (w.setCell (smA C.wg) (.int .u32 s')):=.set _ _ (.inr rfl) c λd=>⟨by obtain⟨s,q,a⟩:=d.port;exact⟨s,q,(ah w (smA C.wg) _ c.gd).trans a⟩,by obtain⟨s,q,a⟩:=d.gC;rw[f]at a⊢;exact⟨s,s',oK a s'⟩,by obtain⟨e,a,b⟩:=d.uZ;exact⟨e,(ah w (smA C.wg) _ c.iT.symm).trans a,b⟩⟩
theorem Env.Ff(f:C.Ok)(h:lX C i (λ_=>False) w w')(l:∀k,own k->k<w.heap.size/\k≠C.mu/\k≠C.wg/\k≠C.out)(j:∀k,C.RO k->k<w.heap.size)(g:∀o,C.oc i o->w'.cell? ⟨C.out,o,XQ⟩=w.cell? ⟨C.out,o,XQ⟩):Env C i own w w':=⟨λk e=>by rcases e with e|e;{obtain⟨a,b,c,d⟩:=l k e;exact h.keep k a id b c d};obtain⟨a,_,b,c⟩:=f.ro k e;exact h.keep k (j k e) id a b c,h.grow,h.aN,g⟩
end
end Go.Cr
namespace Go.Lw
open Go.Proofs Go.Conc Go.Mx Go.Rk Go.Cr Go.RowKit Go.Conc.Lib Go.ConcR.Gen
open Go.ConcR(KK WgAt stA smA rd wr mk DC0)
open Go.ConcM(goes_pad goes_le OsLater)
variable{C:Cx}{i j:Nat}{m:Md}{own:Nat->Prop}{g:XR}{v w:XP}{S:XR->XP->Prop}{K:XP->Prop}{s q:Int}
section
instance:Go.ConcR.Payload:=⟨3⟩
variable{w1:XP}
theorem NO{w':XP}{es:Array Ym}(h:DC0 w w' es):DL w w' es:=by obtain⟨rfl,rfl⟩:=h;exact cM _
theorem yi{K K':XR->XP->Array Ym->Prop}{s:GStep}(h:∀g w es,K g w es->K' g w es)(k:s.goes K):s.goes K':=by cases s<;>first|exact h _ _ _ k|exact k
theorem My{k:Nat}:∀{n:Nat}{g:XR}{v:XP},Goes C.P (i==0) (Env C i own) DC0 (cJ C i own S k) n g v->cJ C i own S (k+n) g v|0,_,_,h=>h _ .refl|n+1,g,v,h=>by rcases h with h|⟨c,h⟩;{exact goes_pad (h _ .refl) _};refine .inr ⟨c,λx d=>yi (λg w e b=>?_) (h x d)⟩;exact⟨NO b.1,My b.2⟩
def Kn(C:Cx)(i:Nat)(own:Nat->Prop)(v w:XP):Prop:=Env C i own v w/\cY C w
theorem Sk:(f113.name== "runtime.NumGoroutine")=XD:=Ψ
theorem Q3:(f144.name== "runtime.NumGoroutine")=XD:=Ψ
theorem QC:(f145.name== "runtime.NumGoroutine")=XD:=Ψ
theorem Qo:(f166.name== "runtime.NumGoroutine")=XD:=Ψ
theorem Sx:(f168.name== "runtime.NumGoroutine")=XD:=Ψ
theorem PZ:(f127.name== "runtime.NumGoroutine")=XD:=Ψ
theorem NJ:f127.body.isNone=XL:=Ψ
theorem N1:Extern.findNext f127=XQ:=Ψ
theorem O1:Extern.find f127=XG (λ_=>do mark .disable;pure Extern.Race.none_):=Ψ
theorem Om:(f128.name== "runtime.NumGoroutine")=XD:=Ψ
theorem PU:f128.body.isNone=XL:=Ψ
theorem N8:Extern.findNext f128=XQ:=Ψ
theorem OF:Extern.find f128=XG (λ_=>do mark .enable;pure Extern.Race.none_):=Ψ
theorem N6:(f139.name== "runtime.NumGoroutine")=XD:=Ψ
theorem Pj:f139.body.isNone=XL:=Ψ
theorem OA:Extern.findNext f139=XQ:=Ψ
theorem Oo:Extern.find f139=XG (Extern.Race.marked .acquire):=Ψ
theorem NX:(f126.name== "runtime.NumGoroutine")=XD:=Ψ
theorem Ny:f126.body.isNone=XL:=Ψ
theorem OQ:Extern.findNext f126=XQ:=Ψ
theorem NT:Extern.find f126=XG (Extern.Race.marked .releaseMerge):=Ψ
theorem Hz:(f165.name== "runtime.NumGoroutine")=XD:=Ψ
theorem Gm:f165.body.isNone=XL:=Ψ
theorem Fb:Extern.findNext f165=XQ:=Ψ
theorem Fv:Extern.find f165=XG (Extern.Atomic.casT (.int .i32)):=Ψ
theorem O0:(f167.name== "runtime.NumGoroutine")=XD:=Ψ
theorem P1:f167.body.isNone=XL:=Ψ
theorem NZ:Extern.findNext f167=XQ:=Ψ
theorem NQ:Extern.find f167=XG (Extern.Atomic.update (Op.intArith .add) .i32 XL):=Ψ
theorem G3:(f182.name== "runtime.NumGoroutine")=XD:=Ψ
theorem FL:f182.body.isNone=XL:=Ψ
theorem IB:Extern.findNext f182=XQ:=Ψ
theorem GO:Extern.find f182=XG (Extern.Sync.canSpin):=Ψ
theorem Ow:(f183.name== "runtime.NumGoroutine")=XD:=Ψ
theorem NM:f183.body.isNone=XL:=Ψ
theorem NP:Extern.findNext f183=XQ:=Ψ
theorem OO:Extern.find f183=XG (λ_=>pure (.tuple #[])):=Ψ
theorem PT:(f185.name== "runtime.NumGoroutine")=XD:=Ψ
theorem OP:f185.body.isNone=XL:=Ψ
theorem PK:Extern.findNext f185=XQ:=Ψ
theorem P8:Extern.find f185=XG (Extern.OsHooks.nano):=Ψ
theorem Ox:f185.norace=XL:=Ψ
theorem I9:(f186.name== "runtime.NumGoroutine")=XD:=Ψ
theorem Hx:f186.body.isNone=XL:=Ψ
theorem Gp:Extern.findNext f186=XQ:=Ψ
theorem Ie:Extern.find f186=XG (Extern.Sync.semacquire):=Ψ
theorem Pa:(f188.name== "runtime.NumGoroutine")=XD:=Ψ
theorem O3:f188.body.isNone=XL:=Ψ
theorem Oa:Extern.findNext f188=XQ:=Ψ
theorem Pn:Extern.find f188=XG (Extern.Sync.semrelease):=Ψ
theorem TO:(Pz.funcs[(base 145).fn]?).any (·.norace)=XL:=Ψ
theorem J6:(Pz.funcs[(base 166).fn]?).any (·.norace)=XL:=Ψ
theorem Tn:(Pz.funcs[(base 168).fn]?).any (·.norace)=XL:=Ψ
section
variable{main:Bool}{b:XV}{a:Yq}{kk:List Yi}{cs:List XV}{ops:Array Yu}{rest:List Nat}{o:Yu}
theorem zl{x:X8}(p:ops[i]?=XG o)(s:Region.wanted o (XX ops a.tmps)=XL)(n:b.kind≠.early)(e:o.op=.load 21 x){ad:Yl}{v:Int}(k:a.eval x=.pointer (XG ad))(h:w.cell? ad=XG (.int .i32 v))(q:(Pz.funcs[b.fn]?).any (·.norace)=XL):XT Pz main (G (b.at a (.inRegion ops (i::rest)::kk)) cs) w=.go (G (b.at (a.put o.dst (.int .i32 v)) (.inRegion ops rest::kk)) cs) w #[]:=by(have r:(XS a.eval o).run Pz w=.ok (.value (.int .i32 v)) w:=by unfold XS;simp only[e,k];simp[go_sem,h]);(have l:(XS a.eval o).events Pz w #[]=#[⟨.cell ad,XD,XD⟩]:=by unfold XS;simp only[e,k];simp[go_sem,h]);rw[stepG_value p s n r];unfold listed;rw[l,seen_def,q];rfl
end
noncomputable def lg:Yt:=f112.body.getD .skip
noncomputable def mV:Yt:=f113.body.getD .skip
noncomputable def cB:Yt:=f144.body.getD .skip
noncomputable def ao:Yt:=f166.body.getD .skip
end
section
variable{w1:XP}
theorem aB.cell(a:C.Ok)(h:aB C w s q):w.cell? ⟨C.mu,C.mo,XQ⟩=XG (.int .i32 s):=by have b:=a.pre;unfold aB at h;simp[XP.cell?,h,<-b]
theorem aB.CP(a:C.Ok)(h:aB C w s q):w.cell? ⟨C.mu,C.mo+1,XQ⟩=XG (.int .u32 q):=by have b:=a.pre;unfold aB at h;simp[XP.cell?,h,<-b]
theorem aB.thaw(h:aB C w s q)(o:Nat):w.frozen? ⟨C.mu,o,XQ⟩=XD:=by unfold aB at h;simp[XP.frozen?,h]
structure Kd(C:Cx)(i:Nat)(own:Nat->Prop)(K:XP->Prop):Prop where
 env:∀{v v1},K v->Env C i own v v1->K v1
 st:∀{v}(x:Int),K v->K (v.setCell C.muA (.int .i32 x))
 sm:∀{v}(x:Int),K v->K (v.setCell C.msA (.int .u32 x))
 aN:∀{v},K v->cY C v
theorem Kd.mu(b:Kd C i own K)(a:C.Ok)(h:K w):∃v:XN,w.cell? ⟨C.mu,C.mo,XQ⟩=XG v:=by obtain⟨⟨s,q,c⟩,_⟩:=b.aN h;exact⟨_,aB.cell a c⟩
theorem Kd.held(a:Kd C i own K)(h:K w/\ay C w)(r:Env C i (fB C .own own) w w1):K w1/\ay C w1:=⟨a.env h.1 r.fP,h.2.env r (.inr ⟨rfl,rfl⟩)⟩
theorem Aw{wd:Wd}(h:((wd.enc:Nat):Int)=0):wd=⟨XD,XD,XD,0⟩:=by obtain⟨L,W,s,n⟩:=wd;(have h:(⟨L,W,s,n⟩:Wd).enc=0:=by omega);cases L<;>cases W<;>cases s<;>simp[Wd.enc]at h⊢<;>omega
theorem Rj:Pz.underlying 217=XG (.pointer 157):=Ψ
theorem z157:(Pz.info? 157).map (λi=>decide (i.size=0))=XG XD:=Ψ
end
end Go.Lw
namespace Go.Lw
open Go.Proofs Go.Conc Go.Mx Go.Rk Go.Cr Go.RowKit Go.Conc.Lib Go.ConcR.Gen Go.Pw
open Go.ConcR(KK WgAt stA smA rd wr mk DC0)
open Go.ConcM(goes_pad goes_le OsLater)
variable{C:Cx}{i j N mm x d a dd:Nat}{m:Md}{own:Nat->Prop}{g:XR}{v n old:Int}{w:XP}{S:XR->XP->Prop}{H L L':List (Nat×XN)}{t vs:Array XN}{f q:X3}{k k' kk:List Yi}{obs:List (XN×XN)}{cs:List XV}{y z:X8}{o:Yu}{ags:Array X8}{main:Bool}{ops:Array Yu}{rest:List Nat}{ats:Array XW}{fn:Func}{ad:Yl}{u:XN}{P:XY}{s d':XW}{caller:XV}{c:Yt}{kd:Yz}{J:XR->Prop}
section
variable{v w1:XP}
section
theorem aC{n:Nat}(h:∀w1,Env C i own w w1->S g w1):cJ C i own S n g w:=Goes.stop h
theorem Ca(n:Nat)(e:Sl N L t)(b:bG C.P H n (fr f (tm N L t) k)=XG (fr f (iR C.P H n (fr f (tm N L t) k)) k',obs))(l:∀p∈obs,p.1=p.2)(c:Sl N L' (iR C.P H n (fr f (tm N L t) k)))(d:∀a w1,Sl N L' a->Env C i own w w1->cJ C i own S mm (G (fr f a k') cs) w1):cJ C i own S (mm+n) (G (fr f t k) cs) w:=by refine My ?_;have:=IW (m:=0) (main:=i==0) (D:=DC0) bM (λw=>⟨rfl,rfl⟩) n e b l c (λa h w1 o=>d a w1 h o);simp_all
theorem Ma(n:Nat)(h:Sl N L t)(b:bG C.P H n (fr f (tm N L t) k)=XG (fr f (iR C.P H n (fr f (tm N L t) k)) k',obs))(l:∀p∈obs,p.1=p.2)(c:Sl N L' (iR C.P H n (fr f (tm N L t) k)))(d:∀a,Sl N L' a->ag C i j m own (G (fr f a k') cs) v):ag C i j m own (G (fr f t k) cs) v:=JO (J:=λg=>ag C i j m own g v) (λF q o e=>.ctl rfl o e) n h b l c d
theorem bZ(n:Nat)(O:List (Nat×Ob))(k':List Yi)(L':List (Nat×XN))(hS:Sl N L t)(hG:∀t' w1,Sl N L' t'->Env C i own w w1->cJ C i own S mm (G (fr f t' k') cs) w1)(hP:C.P=Pz:=by exact hP)(h1:bG Pz (oh O) n (fr f (tm N L t) k)=XG (fr f (iR Pz (oh O) n (fr f (tm N L t) k)) k',oo O):=by kernel_rfl)(h2:Sl N L' (iR Pz (oh O) n (fr f (tm N L t) k)):=by exact .all):cJ C i own S (mm+n) (G (fr f t k) cs) w:=Ca n hS (by rw[hP];exact h1) (tg O) (by simp_all) hG
theorem dT(n:Nat)(k':List Yi)(L':List (Nat×XN))(hS:Sl N L t)(hG:∀t' w1,Sl N L' t'->Env C i own w w1->cJ C i own S mm (G (fr f t' k') cs) w1)(hP:C.P=Pz:=by exact hP)(h1:bG Pz (oh []) n (fr f (tm N L t) k)=XG (fr f (iR Pz (oh []) n (fr f (tm N L t) k)) k',oo []):=by kernel_rfl)(h2:Sl N L' (iR Pz (oh []) n (fr f (tm N L t) k)):=by exact .all):cJ C i own S (mm+n) (G (fr f t k) cs) w:=bZ n [] k' L' hS hG hP h1 h2
theorem wL(n:Nat)(O:List (Nat×Ob))(k':List Yi)(L':List (Nat×XN))(hS:Sl N L t)(hG:∀t',Sl N L' t'->ag C i j m own (G (fr f t' k') cs) v)(hP:C.P=Pz:=by exact hP)(h1:bG Pz (oh O) n (fr f (tm N L t) k)=XG (fr f (iR Pz (oh O) n (fr f (tm N L t) k)) k',oo O):=by kernel_rfl)(h2:Sl N L' (iR Pz (oh O) n (fr f (tm N L t) k)):=by exact .all):ag C i j m own (G (fr f t k) cs) v:=Ma n hS (by rw[hP];exact h1) (tg O) (by simp_all) hG
theorem cV(n:Nat)(k':List Yi)(L':List (Nat×XN))(hS:Sl N L t)(hG:∀t',Sl N L' t'->ag C i j m own (G (fr f t' k') cs) v)(hP:C.P=Pz:=by exact hP)(h1:bG Pz (oh []) n (fr f (tm N L t) k)=XG (fr f (iR Pz (oh []) n (fr f (tm N L t) k)) k',oo []):=by kernel_rfl)(h2:Sl N L' (iR Pz (oh []) n (fr f (tm N L t) k)):=by exact .all):ag C i j m own (G (fr f t k) cs) v:=wL n [] k' L' hS hG hP h1 h2
end
theorem eJ{n:Nat}(d:g.status=.running)(h:∀x,Env C i own w x->∃g' w',XT C.P (i==0) g x=.go g' w' #[]/\DL x w' #[]/\cJ C i own S n g' w'):cJ C i own S (n+1) g w:=.inr ⟨d,λx e=>by obtain⟨g',w',a,b,c⟩:=h x e;simp_all⟩
theorem pN(x:XP):DL x x.later #[]:=⟨rfl,rfl,rfl,⟨x.tick,rfl⟩,rfl⟩
theorem kV(x:XP):DL x x.asked #[]:=⟨rfl,rfl,rfl,.refl _,rfl⟩
theorem qB{x y:XP}{es:Array Ym}(h:DL x y es):Env C i own x y:=⟨λk _=>by rw[h.heap],by rw[h.heap];omega,λf=>by obtain⟨⟨s,q,a⟩,⟨n,l,b⟩,⟨e,c,d⟩⟩:=f;exact⟨⟨s,q,by unfold aB at a⊢;rw[h.heap];exact a⟩,⟨n,l,by rw[h.heap];exact b⟩,⟨e,by rw[h.heap];exact c,d⟩⟩,λo _=>by simp[XP.cell?,h.heap]⟩
def br(o:Yu):Option X3:=match o.op with
 |.call c=>(match c.callee with|.value (.func q)=>XG q|_=>XQ)
 |_=>XQ
def dE(o:Yu):Array X8:=match o.op with|.call c=>c.args|_=>#[]
def uY(o:Yu):Array XW:=match o.op with|.call c=>c.argTypes|_=>#[]
theorem bL(h:br o=XG q)(b:dE o=ags):o.op=.call {callee:=.value (.func q),args:=ags,argTypes:=uY o}:=by subst b;unfold br at h;unfold dE uY;cases d:o.op with|call c=>obtain⟨e,k,f⟩:=c;grind|_=>simp_all
section
theorem eL{v:XN}(a:o.dst=XG d):G ((base f).at ((⟨t,[]⟩:Yq).put o.dst v) k) cs=G (fr f (t.setIfInBounds d v) k) cs:=by rw[a];rfl
theorem nf{v:Int}(hS:Sl N L t)(p:ops[x]?=XG o)(s:Region.wanted o (XX ops (tm N L t))=XL)(k:o.dst=XG d)(h:o.op=.load 21 y)(u:(⟨t,[]⟩:Yq).eval y=.pointer (XG ad))(n:w.cell? ad=XG (.int .i32 v))(r:(Pz.funcs[f]?).any (·.norace)=XL):XT Pz main (G (fr f t (.inRegion ops (x::rest)::kk)) cs) w=.go (G (fr f (t.setIfInBounds d (.int .i32 v)) (.inRegion ops rest::kk)) cs) w #[]:=(zl (b:=base f) (a:=⟨t,[]⟩) p (aY hS s) (by k_ne) h u n r).trans (by first|(rw[eL k])|(rfl))
theorem lG{u:X8}{v:Int}(hS:Sl N L t)(s:ops[x]?=XG o)(D:Region.wanted o (XX ops (tm N L t))=XL)(h:o.dst=XG d)(A:br o=XG 165)(l:dE o=#[y,z,u])(E:(⟨t,[]⟩:Yq).eval y=.pointer (XG ad))(F:(⟨t,[]⟩:Yq).eval z=.int .i32 v)(B:(⟨t,[]⟩:Yq).eval u=.int .i32 n)(p:w.cell? ad=XG (.int .i32 v))(r:w.frozen? ad=XD):XT Pz main (G (fr f t (.inRegion ops (x::rest)::kk)) cs) w=.go (G (fr f (t.setIfInBounds d (.bool XL)) (.inRegion ops rest::kk)) cs) (w.setCell ad (.int .i32 n)) #[rd ad,wr ad]:=(stepG_cas_hit (b:=base f) (a:=⟨t,[]⟩) s (aY hS D) (by k_ne) (bL A l) func165 Hz Gm Fb .i32 Fv E F B p r).trans (by first|(done)|(rw[eL h];rfl))
theorem j2{u:X8}{v:Int}(hS:Sl N L t)(A:ops[x]?=XG o)(E:Region.wanted o (XX ops (tm N L t))=XL)(k:o.dst=XG d)(B:br o=XG 165)(p:dE o=#[y,z,u])(F:(⟨t,[]⟩:Yq).eval y=.pointer (XG ad))(H:(⟨t,[]⟩:Yq).eval z=.int .i32 old)(D:(⟨t,[]⟩:Yq).eval u=.int .i32 n)(r:w.cell? ad=XG (.int .i32 v))(s:w.frozen? ad=XD)(h:¬v=old):XT Pz main (G (fr f t (.inRegion ops (x::rest)::kk)) cs) w=.go (G (fr f (t.setIfInBounds d (.bool XD)) (.inRegion ops rest::kk)) cs) w #[rd ad]:=(stepG_cas_miss (b:=base f) (a:=⟨t,[]⟩) A (aY hS E) (by k_ne) (bL B p) func165 Hz Gm Fb .i32 Fv F H D r s h).trans (by first|(done)|(rw[eL k];rfl))
theorem xe{v:Int}(hS:Sl N L t)(s:ops[x]?=XG o)(A:Region.wanted o (XX ops (tm N L t))=XL)(h:o.dst=XG d)(u:br o=XG 167)(l:dE o=#[y,z])(B:(⟨t,[]⟩:Yq).eval y=.pointer (XG ad))(D:(⟨t,[]⟩:Yq).eval z=.int .i32 n)(p:w.cell? ad=XG (.int .i32 v))(r:w.frozen? ad=XD):XT Pz main (G (fr f t (.inRegion ops (x::rest)::kk)) cs) w=.go (G (fr f (t.setIfInBounds d (.int .i32 (XU.i32.wrap (v+n)))) (.inRegion ops rest::kk)) cs) (w.setCell ad (.int .i32 (XU.i32.wrap (v+n)))) #[rd ad,wr ad]:=(stepG_add_atomic (b:=base f) (a:=⟨t,[]⟩) s (aY hS A) (by k_ne) (bL u l) func167 O0 P1 NZ .i32 NQ B D p r).trans (by first|(done)|(rw[eL h];rfl))
theorem Nt(hS:Sl N L t)(u:ops[x]?=XG o)(z:Region.wanted o (XX ops (tm N L t))=XL)(k:o.dst=XG d)(y:br o=XG 186)(p:dE o=ags)(A:(ags.map (⟨t,[]⟩:Yq).eval)[0]?=XG (.pointer (XG ad)))(r:w.cell? ad=XG (.int .u32 n))(h:n≠0)(s:w.frozen? ad=XD):XT Pz main (G (fr f t (.inRegion ops (x::rest)::kk)) cs) w=.go (G (fr f (t.setIfInBounds d (.tuple #[])) (.inRegion ops rest::kk)) cs) (w.setCell ad (.int .u32 (n-1))) (semEvents ad):=(stepG_semacquire (b:=base f) (a:=⟨t,[]⟩) u (aY hS z) (by k_ne) (bL y p) func186 I9 Hx Gp Ie A r h s).trans (by first|(rw[eL k])|(rfl))
theorem zC(hS:Sl N L t)(p:ops[x]?=XG o)(s:Region.wanted o (XX ops (tm N L t))=XL)(r:br o=XG 186)(l:dE o=ags)(u:(ags.map (⟨t,[]⟩:Yq).eval)[0]?=XG (.pointer (XG ad)))(n:w.cell? ad=XG (.int .u32 0)):XT Pz main (G (fr f t (.inRegion ops (x::rest)::kk)) cs) w=.go {G (fr f t (.inRegion ops (x::rest)::kk)) cs with status:=.blocked} w #[]:=stepG_semacquire_wait (b:=base f) (a:=⟨t,[]⟩) p (aY hS s) (bL r l) func186 I9 Hx Gp Ie u n
theorem F9(hS:Sl N L t)(s:ops[x]?=XG o)(y:Region.wanted o (XX ops (tm N L t))=XL)(h:o.dst=XG d)(u:br o=XG 188)(l:dE o=ags)(z:(ags.map (⟨t,[]⟩:Yq).eval)[0]?=XG (.pointer (XG ad)))(p:w.cell? ad=XG (.int .u32 n))(r:w.frozen? ad=XD):XT Pz main (G (fr f t (.inRegion ops (x::rest)::kk)) cs) w=.go (G (fr f (t.setIfInBounds d (.tuple #[])) (.inRegion ops rest::kk)) cs) (w.setCell ad (.int .u32 (XU.u32.wrap (n+1)))) (semEvents ad):=(stepG_semrelease (b:=base f) (a:=⟨t,[]⟩) s (aY hS y) (by k_ne) (bL u l) func188 Pa O3 Oa Pn z p r).trans (by first|(rw[eL h])|(rfl))
theorem CV(hS:Sl N L t)(l:ops[x]?=XG o)(p:Region.wanted o (XX ops (tm N L t))=XL)(h:o.dst=XG d)(n:br o=XG 185):XT Pz main (G (fr f t (.inRegion ops (x::rest)::kk)) cs) w=.go (G (fr f (t.setIfInBounds d (Iv ((w.os.mono+w.tick:Nat):Int))) (.inRegion ops rest::kk)) cs) w.later #[]:=(stepG_nanotime (b:=base f) (a:=⟨t,[]⟩) l (aY hS p) (by k_ne) (bL n rfl) func185 PT OP PK P8 Ox).trans (by first|(rw[eL h])|(rfl))
theorem om{k:XU}(hS:Sl N L t)(s:ops[x]?=XG o)(y:Region.wanted o (XX ops (tm N L t))=XL)(h:o.dst=XG d)(u:br o=XG 182)(r:dE o=ags)(z:ags.map (⟨t,[]⟩:Yq).eval=#[.int k n])(l:4<=n):XT Pz main (G (fr f t (.inRegion ops (x::rest)::kk)) cs) w=.go (G (fr f (t.setIfInBounds d (.bool XD)) (.inRegion ops rest::kk)) cs) w #[]:=(stepG_canSpin_no (b:=base f) (a:=⟨t,[]⟩) s (aY hS y) (by k_ne) (bL u r) func182 G3 FL IB GO z l).trans (by first|(rw[eL h])|(rfl))
theorem xu{k:XU}(hS:Sl N L t)(s:ops[x]?=XG o)(y:Region.wanted o (XX ops (tm N L t))=XL)(h:o.dst=XG d)(u:br o=XG 182)(r:dE o=ags)(z:ags.map (⟨t,[]⟩:Yq).eval=#[.int k n])(l:n<4):XT Pz main (G (fr f t (.inRegion ops (x::rest)::kk)) cs) w=.go (G (fr f (t.setIfInBounds d (.bool w.spins)) (.inRegion ops rest::kk)) cs) w.asked #[]:=(stepG_canSpin_ask (b:=base f) (a:=⟨t,[]⟩) s (aY hS y) (by k_ne) (bL u r) func182 G3 FL IB GO z l).trans (by first|(rw[eL h])|(rfl))
theorem ED(hS:Sl N L t)(l:ops[x]?=XG o)(p:Region.wanted o (XX ops (tm N L t))=XL)(h:o.dst=XG d)(n:br o=XG 183):XT Pz main (G (fr f t (.inRegion ops (x::rest)::kk)) cs) w=.go (G (fr f (t.setIfInBounds d (.tuple #[])) (.inRegion ops rest::kk)) cs) w #[]:=(stepG_entry_pure (b:=base f) (a:=⟨t,[]⟩) (.tuple #[]) l (aY hS p) (by k_ne) (bL n rfl) func183 Ow NM NP OO).trans (by first|(rw[eL h])|(rfl))
end
end
section
variable{v w1:XP}
section
theorem tF(hS:Sl N L t)(l:ops[x]?=XG o)(p:Region.wanted o (XX ops (tm N L t))=XL)(h:o.dst=XG d)(n:br o=XG 127):XT Pz main (G (fr f t (.inRegion ops (x::rest)::kk)) cs) w=.go (G (fr f (t.setIfInBounds d (.tuple #[])) (.inRegion ops rest::kk)) cs) w #[mk .disable]:=(stepG_mark0 (b:=base f) (a:=⟨t,[]⟩) .disable Θ l (aY hS p) (by k_ne) (bL n rfl) func127 PZ NJ N1 O1).trans (by first|(rw[eL h];done)|(rw[eL h];rfl))
theorem qD(hS:Sl N L t)(l:ops[x]?=XG o)(p:Region.wanted o (XX ops (tm N L t))=XL)(h:o.dst=XG d)(n:br o=XG 128):XT Pz main (G (fr f t (.inRegion ops (x::rest)::kk)) cs) w=.go (G (fr f (t.setIfInBounds d (.tuple #[])) (.inRegion ops rest::kk)) cs) w #[mk .enable]:=(stepG_mark0 (b:=base f) (a:=⟨t,[]⟩) .enable Θ l (aY hS p) (by k_ne) (bL n rfl) func128 Om PU N8 OF).trans (by first|(rw[eL h];done)|(rw[eL h];rfl))
theorem tC(hS:Sl N L t)(n:ops[x]?=XG o)(r:Region.wanted o (XX ops (tm N L t))=XL)(h:o.dst=XG d)(p:br o=XG 139)(l:dE o=ags)(s:(ags.map (⟨t,[]⟩:Yq).eval)[0]?=XG (.pointer (XG ad))):XT Pz main (G (fr f t (.inRegion ops (x::rest)::kk)) cs) w=.go (G (fr f (t.setIfInBounds d (.tuple #[])) (.inRegion ops rest::kk)) cs) w #[mk (.acquire ad)]:=(stepG_markAt (b:=base f) (a:=⟨t,[]⟩) .acquire Θ n (aY hS r) (by k_ne) (bL p l) func139 N6 Pj OA Oo s).trans (by first|(rw[eL h];done)|(rw[eL h];rfl))
theorem rQ(hS:Sl N L t)(n:ops[x]?=XG o)(r:Region.wanted o (XX ops (tm N L t))=XL)(h:o.dst=XG d)(p:br o=XG 126)(l:dE o=ags)(s:(ags.map (⟨t,[]⟩:Yq).eval)[0]?=XG (.pointer (XG ad))):XT Pz main (G (fr f t (.inRegion ops (x::rest)::kk)) cs) w=.go (G (fr f (t.setIfInBounds d (.tuple #[])) (.inRegion ops rest::kk)) cs) w #[mk (.releaseMerge ad)]:=(stepG_markAt (b:=base f) (a:=⟨t,[]⟩) .releaseMerge Θ n (aY hS r) (by k_ne) (bL p l) func126 NX Ny OQ NT s).trans (by first|(rw[eL h];done)|(rw[eL h];rfl))
theorem GN(hS:Sl N L t)(n:ops[x]?=XG o)(r:Region.wanted o (XX ops (tm N L t))=XL)(h:o.dst=XG d)(p:(XS (⟨t,[]⟩:Yq).eval o).run P w=.ok (.value u) w)(l:(XS (⟨t,[]⟩:Yq).eval o).events P w #[]=#[]):XT P main (G (fr f t (.inRegion ops (x::rest)::kk)) cs) w=.go (G (fr f (t.setIfInBounds d u) (.inRegion ops rest::kk)) cs) w #[]:=by refine(stepG_value (b:=base f) (a:=⟨t,[]⟩) (k:=kk) (cs:=cs) n (aY hS r) (by k_ne) p).trans ?_;unfold listed;rw[l,kM,eL h]
theorem wx{s d':XW}{v:XN}(hS:Sl N L t)(p:ops[x]?=XG o)(u:Region.wanted o (XX ops (tm N L t))=XL)(n:o.dst=XG d)(r:o.op=.convert 217 185 y)(z:(⟨t,[]⟩:Yq).eval y=.pointer (XG ad))(c:w.cell? ad=XG v):XT Pz main (G (fr f t (.inRegion ops (x::rest)::kk)) cs) w=.go (G (fr f (t.setIfInBounds d (.pointer (XG ad))) (.inRegion ops rest::kk)) cs) w #[]:=by have l:=run_convert_to_unsafe (P:=Pz) Rj underlying185 z157 c;have k:=λe=>events_convert_to_unsafe (P:=Pz) Rj underlying185 z157 c e;refine GN hS p u n ?_ ?_;{unfold XS;simp_all};unfold XS;simp_all
theorem PL:XT P main (G (fr f t []) cs) w=.go (G (ae.eC f t [] .returning) cs) w #[]:=by rfl
theorem N3:XT P main (G (fr f t (.code .ret::kk)) cs) w=.go (G (ae.eC f t (.code .ret::kk) .returning) cs) w #[]:=by rfl
theorem xM(h:P.funcs[f]?=XG fn)(b:fn.results=#[]):XT P main (G (ae.eC f t kk .returning) (caller::cs)) w=.go (G (caller.finish (.tuple #[])) cs) w #[]:=by
 have c:(results fn t).run P w=.ok (.tuple #[]) w:=by simp[results,b]
 have e:(results fn t).events P w #[]=#[]:=by simp[results,b]
 rw[ae.bJ h c,e,kM]
end
section
theorem jh(a:C.P.funcs[f]?=XG fn)(b:fn.results=#[])(h:ag C i j m own (G (caller.finish (.tuple #[])) cs) v):ag C i j m own (G (fr f t []) (caller::cs)) v:=.ctl rfl (λ_=>PL) (.ctl rfl (λ_=>xM a b) h)
theorem so(a:C.P.funcs[f]?=XG fn)(b:fn.results=#[])(h:ag C i j m own (G (caller.finish (.tuple #[])) cs) v):ag C i j m own (G (fr f t (.code .ret::kk)) (caller::cs)) v:=.ctl rfl (λ_=>N3) (.ctl rfl (λ_=>xM a b) h)
theorem cL{n:Nat}{g':XR}(a:g.status=.running)(h:∀w,XT C.P (i==0) g w=.go g' w #[])(k:cJ C i own S n g' w):cJ C i own S (n+1) g w:=eJ a λx b=>⟨g',x,h x,cM x,k.rely bM b⟩
end
theorem Uk{L S:Bool}(h:(L||S)=XL):(((L.toNat+4*S.toNat:Nat):Int)==0)=XD:=by grind
end
section
variable{v w1:XP}
abbrev qF(kd:Yz)(f:X3)(t:Array XN)(k:List Yi):XV:={fn:=f,tmps:=t,todo:=k,defers:=[],mode:=.run,kind:=kd,roundOf:=XQ}
abbrev Qi(kd:Yz)(f:X3)(t:Array XN)(k:List Yi):XV:={fn:=f,tmps:=t,todo:=k,defers:=[],mode:=.returning,kind:=kd,roundOf:=XQ}
def bk(kd:Yz)(f:X3):XV:={base f with kind:=kd}
section
theorem zG(A:kd≠.early)(hS:Sl N L t)(B:ops[x]?=XG o)(F:Region.wanted o (XX ops (tm N L t))=XL)(D:br o=XG q)(y:dE o=ags)(E:ags.map (⟨t,[]⟩:Yq).eval=vs)(r:P.funcs[q]?=XG fn)(s:(fn.name== "runtime.NumGoroutine")=XD)(z:fn.body=XG c):XT P main (G (qF kd f t (.inRegion ops (x::rest)::kk)) cs) w=.go (G (fr q (vs++Array.replicate (fn.ntmps-vs.size) XZ) [.code c]) (qF kd f t (.inRegion ops (x::rest)::kk)::cs)) w #[]:=by subst E;have n:=bL D y;(have l:fn.body.isNone=XD:=by grind);have h:=stepG_enter (P:=P) (main:=main) (b:=bk kd f) (a:=⟨t,[]⟩) (k:=kk) (rest:=rest) (cs:=cs) (w:=w) B (aY hS F) A (run_call_body n r s l);rw[enter_at _ r z]at h;(have e:listed P (bk kd f).fn ⟨t,[]⟩ o w=#[]:=by unfold listed;rw[events_call_body n r s l];rfl);rw[e]at h;exact h
theorem Cv(hS:Sl N L t)(n:ops[x]?=XG o)(s:Region.wanted o (XX ops (tm N L t))=XL)(p:br o=XG q)(e:dE o=ags)(r:ags.map (⟨t,[]⟩:Yq).eval=vs)(k:P.funcs[q]?=XG fn)(l:(fn.name== "runtime.NumGoroutine")=XD)(h:fn.body=XG c):XT P main (G (fr f t (.inRegion ops (x::rest)::kk)) cs) w=.go (G (fr q (vs++Array.replicate (fn.ntmps-vs.size) XZ) [.code c]) (fr f t (.inRegion ops (x::rest)::kk)::cs)) w #[]:=zG (kd:=.normal) Θ hS n s p e r k l h
theorem wF(h:t.getD a XZ=u):(#[.tmp a]:Array X8).map (⟨t,[]⟩:Yq).eval=#[u]:=by subst h;simp[Yq.eval]
theorem DX{b:Nat}{u':XN}(h:t.getD a XZ=u)(e:t.getD b XZ=u'):(#[.tmp a,.tmp b]:Array X8).map (⟨t,[]⟩:Yq).eval=#[u,u']:=by subst h e;simp[Yq.eval]
theorem Oi{c:XN}(h:t.getD a XZ=u):(#[.tmp a,.const c]:Array X8).map (⟨t,[]⟩:Yq).eval=#[u,c]:=by subst h;simp[Yq.eval]
theorem Ke(b:ops[x]?=XG o)(a:o.dst=XG d)(u:XN):(qF kd f t (.inRegion ops (x::rest)::kk)).finish u=qF kd f (t.setIfInBounds d u) (.inRegion ops rest::kk):=by simp[XV.finish,b,a]
theorem Ho(y:kd≠.early)(s:∀F a,(∀w,XT P main (G F cs) w=.go (G a cs) w #[])->J (G a cs)->J (G F cs))(n:Nat)(u:Sl N L t)(h:bG P H n (qF kd f (tm N L t) k)=XG (qF kd f (match bG P H n (qF kd f (tm N L t) k)with|some x=>x.1.tmps|none=>#[]) k',obs))(z:∀p∈obs,p.1=p.2)(l:Sl N L' (match bG P H n (qF kd f (tm N L t) k)with|some x=>x.1.tmps|none=>#[]))(r:∀b,Sl N L' b->J (G (qF kd f b k') cs)):J (G (qF kd f t k) cs):=by(have e:qF kd f t k=qF kd f (tm N L t) k:=by rw[<-u.tm]);rw[e];exact oj (main:=main) s n h z rfl y (r _ l)
theorem p8(s:kd≠.early)(n:Nat)(r:Sl N L t)(b:bG C.P H n (qF kd f (tm N L t) k)=XG (qF kd f (match bG C.P H n (qF kd f (tm N L t) k)with|some x=>x.1.tmps|none=>#[]) k',obs))(u:∀p∈obs,p.1=p.2)(e:Sl N L' (match bG C.P H n (qF kd f (tm N L t) k)with|some x=>x.1.tmps|none=>#[]))(h:∀a,Sl N L' a->ag C i j m own (G (qF kd f a k') cs) v):ag C i j m own (G (qF kd f t k) cs) v:=Ho (main:=i==0) (J:=λg=>ag C i j m own g v) s (λF z y l=>.ctl rfl y l) n r b u e h
theorem As(n:Nat)(h:Sl N L t)(a:bG C.P H n (fr f (tm N L t) k)=XG (fr f (iR C.P H n (fr f (tm N L t) k)) k',obs))(l:∀p∈obs,p.1=p.2)(b:∀w1,Env C i own w w1->cJ C i own S mm (G (fr f (iR C.P H n (fr f (tm N L t) k)) k') cs) w1):cJ C i own S (mm+n) (G (fr f t k) cs) w:=by(have e:fr f t k=fr f (tm N L t) k:=by rw[<-h.tm]);rw[e];exact se bM cM n a l rfl Θ (b w .refl)
theorem vz(n:kd≠.early)(hS:Sl N L t)(r:ops[x]?=XG o)(y:Region.wanted o (XX ops (tm N L t))=XL)(s:br o=XG q)(e:dE o=ags)(u:ags.map (⟨t,[]⟩:Yq).eval=vs)(l:C.P.funcs[q]?=XG fn)(p:(fn.name== "runtime.NumGoroutine")=XD)(k:fn.body=XG c)(h:ag C i j m own (G (fr q (vs++Array.replicate (fn.ntmps-vs.size) XZ) [.code c]) (qF kd f t (.inRegion ops (x::rest)::kk)::cs)) v):ag C i j m own (G (qF kd f t (.inRegion ops (x::rest)::kk)) cs) v:=.ctl rfl (λ_=>zG n hS r y s e u l p k) h
theorem JK:XT P main (G (qF kd f t []) cs) w=.go (G (Qi kd f t []) cs) w #[]:=by rfl
theorem yY(h:ag C i j m own (G (Qi kd f t []) cs) v):ag C i j m own (G (qF kd f t []) cs) v:=.ctl rfl (λ_=>JK) h
theorem zR(a:C.P.funcs[f]?=XG fn)(b:fn.results=#[])(h:ag C i j m own (G (caller.finish (.tuple #[])) cs) v):ag C i j m own (G (Qi .normal f t kk) (caller::cs)) v:=.ctl rfl (λ_=>xM a b) h
theorem DT(l:C.P.funcs[f]?=XG fn)(e:fn.results=#[])(k:caller.mode=.returning)(h:ag C i j m own (G caller cs) v):ag C i j m own (G (Qi .deferred f t kk) (caller::cs)) v:=.ctl rfl (λw=>stepG_leave_deferred (b:=bk .deferred f) (a:=⟨t,[]⟩) (todo:=kk) rfl rfl l (results_none e _ _ w) (events_results_none e _ _) k) h
end
end
section
variable{v w1:XP}
abbrev cF(kd:Yz)(ds:List Yc)(f:X3)(t:Array XN)(k:List Yi):XV:={fn:=f,tmps:=t,todo:=k,defers:=ds,mode:=.run,kind:=kd,roundOf:=XQ}
abbrev wG(kd:Yz)(ds:List Yc)(f:X3)(t:Array XN)(k:List Yi):XV:={fn:=f,tmps:=t,todo:=k,defers:=ds,mode:=.returning,kind:=kd,roundOf:=XQ}
structure Xt(P:XY)(q:X3)(fn:Func):Prop where
 f:P.funcs[q]?=XG fn
 n:(fn.name== "runtime.NumGoroutine")=XD
 b:fn.body.isNone=XL
 x:Extern.findNext fn=XQ
section
variable{ds:List Yc}
def kC(P:XY)(H:List (Nat×XN))(n:Nat)(F:XV):Array XN:=match bG P H n F with|some x=>x.1.tmps|none=>#[]
theorem yx(y:kd≠.early)(s:∀F a,(∀w,XT P main (G F cs) w=.go (G a cs) w #[])->J (G a cs)->J (G F cs))(n:Nat)(u:Sl N L t)(h:bG P H n (cF kd ds f (tm N L t) k)=XG (cF kd ds f (kC P H n (cF kd ds f (tm N L t) k)) k',obs))(z:∀p∈obs,p.1=p.2)(l:Sl N L' (kC P H n (cF kd ds f (tm N L t) k)))(r:∀b,Sl N L' b->J (G (cF kd ds f b k') cs)):J (G (cF kd ds f t k) cs):=by(have e:cF kd ds f t k=cF kd ds f (tm N L t) k:=by rw[<-u.tm]);rw[e];exact oj s n h z rfl y (r _ l)
theorem GZ(s:kd≠.early)(n:Nat)(r:Sl N L t)(b:bG C.P H n (cF kd ds f (tm N L t) k)=XG (cF kd ds f (kC C.P H n (cF kd ds f (tm N L t) k)) k',obs))(u:∀p∈obs,p.1=p.2)(e:Sl N L' (kC C.P H n (cF kd ds f (tm N L t) k)))(h:∀a,Sl N L' a->ag C i j m own (G (cF kd ds f a k') cs) v):ag C i j m own (G (cF kd ds f t k) cs) v:=yx (J:=λg=>ag C i j m own g v) s (λF z y l=>.ctl rfl y l) n r b u e h
theorem Ex(u:kd≠.early)(n:Nat)(s:Sl N L t)(e:bG P H n (cF kd ds f (tm N L t) k)=XG (cF kd ds f (kC P H n (cF kd ds f (tm N L t) k)) k',obs))(y:∀p∈obs,p.1=p.2)(h:Sl N L' (kC P H n (cF kd ds f (tm N L t) k)))(l:∀b,Sl N L' b->∃a,QuitsD P a dd (G (cF kd ds f b k') cs)):∃a,QuitsD P a dd (G (cF kd ds f t k) cs):=yx (J:=λg=>∃a,QuitsD P a dd g) u (λF A z⟨a,r⟩=>⟨a+1,.ctl rfl (λw=>z w) r⟩) n s e y h l
theorem Al(s:kd≠.early)(n:Nat)(r:Sl N L t)(b:bG C.P H n (cF kd ds f (tm N L t) k)=XG (cF kd ds f (kC C.P H n (cF kd ds f (tm N L t) k)) k',obs))(u:∀p∈obs,p.1=p.2)(h:Sl N L' (kC C.P H n (cF kd ds f (tm N L t) k)))(l:∀a w1,Sl N L' a->Env C i own w w1->cJ C i own S mm (G (cF kd ds f a k') cs) w1):cJ C i own S (mm+n) (G (cF kd ds f t k) cs) w:=by(have e:cF kd ds f t k=cF kd ds f (tm N L t) k:=by rw[<-r.tm]);rw[e];exact se bM cM n b u rfl s (l _ w h .refl)
theorem wj(n:Nat)(O:List (Nat×Ob))(k':List Yi)(L':List (Nat×XN))(hS:Sl N L t)(hG:∀t',Sl N L' t'->ag C i j m own (G (cF kd ds f t' k') cs) v)(hP:C.P=Pz:=by exact hP)(hk:kd≠.early:=by simp)(h1:bG Pz (oh O) n (cF kd ds f (tm N L t) k)=XG (cF kd ds f (kC Pz (oh O) n (cF kd ds f (tm N L t) k)) k',oo O):=by kernel_rfl)(h2:Sl N L' (kC Pz (oh O) n (cF kd ds f (tm N L t) k)):=by exact .all):ag C i j m own (G (cF kd ds f t k) cs) v:=GZ hk n hS (by rw[hP];exact h1) (tg O) (by simp_all) hG
theorem eG(n:Nat)(k':List Yi)(L':List (Nat×XN))(hS:Sl N L t)(hG:∀t',Sl N L' t'->ag C i j m own (G (cF kd ds f t' k') cs) v)(hP:C.P=Pz:=by exact hP)(hk:kd≠.early:=by simp)(h1:bG Pz (oh []) n (cF kd ds f (tm N L t) k)=XG (cF kd ds f (kC Pz (oh []) n (cF kd ds f (tm N L t) k)) k',oo []):=by kernel_rfl)(h2:Sl N L' (kC Pz (oh []) n (cF kd ds f (tm N L t) k)):=by exact .all):ag C i j m own (G (cF kd ds f t k) cs) v:=wj n [] k' L' hS hG hP hk h1 h2
theorem sd(n:Nat)(O:List (Nat×Ob))(k':List Yi)(L':List (Nat×XN))(hS:Sl N L t)(hG:∀t',Sl N L' t'->∃qn,QuitsD C.P qn dd (G (cF kd ds f t' k') cs))(hP:C.P=Pz:=by exact hP)(hk:kd≠.early:=by simp)(h1:bG Pz (oh O) n (cF kd ds f (tm N L t) k)=XG (cF kd ds f (kC Pz (oh O) n (cF kd ds f (tm N L t) k)) k',oo O):=by kernel_rfl)(h2:Sl N L' (kC Pz (oh O) n (cF kd ds f (tm N L t) k)):=by exact .all):∃qn,QuitsD C.P qn dd (G (cF kd ds f t k) cs):=Ex hk n hS (by rw[hP];exact h1) (tg O) (by simp_all) hG
theorem tf(n:Nat)(k':List Yi)(L':List (Nat×XN))(hS:Sl N L t)(hG:∀t',Sl N L' t'->∃qn,QuitsD C.P qn dd (G (cF kd ds f t' k') cs))(hP:C.P=Pz:=by exact hP)(hk:kd≠.early:=by simp)(h1:bG Pz (oh []) n (cF kd ds f (tm N L t) k)=XG (cF kd ds f (kC Pz (oh []) n (cF kd ds f (tm N L t) k)) k',oo []):=by kernel_rfl)(h2:Sl N L' (kC Pz (oh []) n (cF kd ds f (tm N L t) k)):=by exact .all):∃qn,QuitsD C.P qn dd (G (cF kd ds f t k) cs):=sd n [] k' L' hS hG hP hk h1 h2
theorem wM(n:Nat)(O:List (Nat×Ob))(k':List Yi)(L':List (Nat×XN))(hS:Sl N L t)(hG:∀t' w1,Sl N L' t'->Env C i own w w1->cJ C i own S mm (G (cF kd ds f t' k') cs) w1)(hP:C.P=Pz:=by exact hP)(hk:kd≠.early:=by simp)(h1:bG Pz (oh O) n (cF kd ds f (tm N L t) k)=XG (cF kd ds f (kC Pz (oh O) n (cF kd ds f (tm N L t) k)) k',oo O):=by kernel_rfl)(h2:Sl N L' (kC Pz (oh O) n (cF kd ds f (tm N L t) k)):=by exact .all):cJ C i own S (mm+n) (G (cF kd ds f t k) cs) w:=Al hk n hS (by rw[hP];exact h1) (tg O) (by simp_all) hG
theorem cg(n:Nat)(k':List Yi)(L':List (Nat×XN))(hS:Sl N L t)(hG:∀t' w1,Sl N L' t'->Env C i own w w1->cJ C i own S mm (G (cF kd ds f t' k') cs) w1)(hP:C.P=Pz:=by exact hP)(hk:kd≠.early:=by simp)(h1:bG Pz (oh []) n (cF kd ds f (tm N L t) k)=XG (cF kd ds f (kC Pz (oh []) n (cF kd ds f (tm N L t) k)) k',oo []):=by kernel_rfl)(h2:Sl N L' (kC Pz (oh []) n (cF kd ds f (tm N L t) k)):=by exact .all):cJ C i own S (mm+n) (G (cF kd ds f t k) cs) w:=wM n [] k' L' hS hG hP hk h1 h2
theorem mG{v:XN}(a:o.dst=XG d):G ((bk kd f).at (Yq.put ⟨t,ds⟩ o.dst v) k) cs=G (cF kd ds f (t.setIfInBounds d v) k) cs:=by rw[a];rfl
theorem mO(A:kd≠.early)(hS:Sl N L t)(B:ops[x]?=XG o)(F:Region.wanted o (XX ops (tm N L t))=XL)(D:br o=XG q)(y:dE o=ags)(E:ags.map (⟨t,[]⟩:Yq).eval=vs)(r:P.funcs[q]?=XG fn)(s:(fn.name== "runtime.NumGoroutine")=XD)(z:fn.body=XG c):XT P main (G (cF kd ds f t (.inRegion ops (x::rest)::kk)) cs) w=.go (G (fr q (vs++Array.replicate (fn.ntmps-vs.size) XZ) [.code c]) (cF kd ds f t (.inRegion ops (x::rest)::kk)::cs)) w #[]:=by subst E;have n:=bL D y;(have l:fn.body.isNone=XD:=by grind);have h:=stepG_enter (main:=main) (b:=bk kd f) (a:=⟨t,ds⟩) (k:=kk) (rest:=rest) (cs:=cs) (w:=w) B (aY hS F) A (run_call_body n r s l);rw[enter_at _ r z]at h;(have e:listed P (bk kd f).fn ⟨t,ds⟩ o w=#[]:=by unfold listed;rw[events_call_body n r s l];rfl);rw[e]at h;exact h
theorem jj(b:ops[x]?=XG o)(a:o.dst=XG d)(u:XN):(cF kd ds f t (.inRegion ops (x::rest)::kk)).finish u=cF kd ds f (t.setIfInBounds d u) (.inRegion ops rest::kk):=by simp[XV.finish,b,a]
theorem Fg:XT P main (G (cF kd ds f t []) cs) w=.go (G (wG kd ds f t []) cs) w #[]:=by rfl
theorem kH:XT P main (G (cF kd ds f t (.code .ret::kk)) cs) w=.go (G (wG kd ds f t (.code .ret::kk)) cs) w #[]:=by rfl
theorem mT(h:P.funcs[f]?=XG fn)(e:fn.results=#[]):XT P main (G (wG .normal [] f t kk) (caller::cs)) w=.go (G (caller.finish (.tuple #[])) cs) w #[]:=stepG_leave (b:=base f) (a:=⟨t,[]⟩) rfl rfl h (results_none e _ _ w) (events_results_none e _ _)
theorem jd{s:Tmp}(h:P.funcs[f]?=XG fn)(e:fn.results=#[.tmp s])(k:t.getD s XZ=u):XT P main (G (wG .normal [] f t kk) (caller::cs)) w=.go (G (caller.finish u) cs) w #[]:=by subst k;exact stepG_leave (b:=base f) (a:=⟨t,[]⟩) rfl rfl h (results_tmp e _ _ w) (events_results_tmp e _ _)
theorem Kq(k:P.funcs[f]?=XG fn)(e:fn.results=#[])(h:caller.mode=.returning):XT P main (G (wG .deferred [] f t kk) (caller::cs)) w=.go (G caller cs) w #[]:=stepG_leave_deferred (b:=bk .deferred f) (a:=⟨t,[]⟩) rfl rfl k (results_none e _ _ w) (events_results_none e _ _) h
theorem wE(r:kd≠.early)(hS:Sl N L t)(s:ops[x]?=XG o)(y:Region.wanted o (XX ops (tm N L t))=XL)(p:o.dst=XQ)(l:o.op=.defer {callee:=.value (.func q),args:=ags,argTypes:=ats})(u:ags.map (⟨t,[]⟩:Yq).eval=vs):XT P main (G (cF kd ds f t (.inRegion ops (x::rest)::kk)) cs) w=.go (G (cF kd (dcall q vs::ds) f t (.inRegion ops rest::kk)) cs) w #[]:=by subst u;refine(stepG_defer (b:=bk kd f) (a:=⟨t,ds⟩) s (aY hS y) r l).trans ?_;rw[p];rfl
theorem nN(m:Mark)(k:∀g,m≠.extern g)(X:Xt P q fn)(h:Extern.find fn=XG (λ_=>do mark m;pure Extern.Race.none_)):XT P main (G (wG kd (dcall q #[]::ds) f t kk) cs) w=.go (G (wG kd ds f t kk) cs) w #[mk m]:=by have:=stepG_unwind_entry (main:=main) (b:=bk kd f) (a:=⟨t,dcall q #[]::ds⟩) (todo:=kk) (cs:=cs) (w:=w) rfl X.f X.n X.b X.x h (v:=Extern.Race.none_) (w':=w) (evs:=#[⟨.mark m,XD,XL⟩]) Θ Θ (by simp_all);exact this
theorem p0(p:kd≠.early)(m:Mark)(r:∀g,m≠.extern g)(hS:Sl N L t)(s:ops[x]?=XG o)(y:Region.wanted o (XX ops (tm N L t))=XL)(l:o.dst=XG d)(u:br o=XG q)(X:Xt P q fn)(n:Extern.find fn=XG (λ_=>do mark m;pure Extern.Race.none_)):XT P main (G (cF kd ds f t (.inRegion ops (x::rest)::kk)) cs) w=.go (G (cF kd ds f (t.setIfInBounds d (.tuple #[])) (.inRegion ops rest::kk)) cs) w #[mk m]:=(stepG_mark0 (b:=bk kd f) (a:=⟨t,ds⟩) m r s (aY hS y) p (bL u rfl) X.f X.n X.b X.x n).trans (by rw[mG l];try rfl)
theorem mM(s:kd≠.early)(h:Yl->Mark)(u:∀ad g,h ad≠.extern g)(hS:Sl N L t)(y:ops[x]?=XG o)(A:Region.wanted o (XX ops (tm N L t))=XL)(p:o.dst=XG d)(z:br o=XG q)(n:dE o=ags)(X:Xt P q fn)(r:Extern.find fn=XG (Extern.Race.marked h))(B:(ags.map (⟨t,ds⟩:Yq).eval)[0]?=XG (.pointer (XG ad))):XT P main (G (cF kd ds f t (.inRegion ops (x::rest)::kk)) cs) w=.go (G (cF kd ds f (t.setIfInBounds d (.tuple #[])) (.inRegion ops rest::kk)) cs) w #[mk (h ad)]:=(stepG_markAt (b:=bk kd f) (a:=⟨t,ds⟩) h u y (aY hS A) s (bL z n) X.f X.n X.b X.x r B).trans (by rw[mG p];try rfl)
theorem Is(p:kd≠.early)(u:XN)(hS:Sl N L t)(r:ops[x]?=XG o)(y:Region.wanted o (XX ops (tm N L t))=XL)(l:o.dst=XG d)(s:br o=XG q)(X:Xt P q fn)(n:Extern.find fn=XG (λ_=>pure u)):XT P main (G (cF kd ds f t (.inRegion ops (x::rest)::kk)) cs) w=.go (G (cF kd ds f (t.setIfInBounds d u) (.inRegion ops rest::kk)) cs) w #[]:=(stepG_entry_pure (b:=bk kd f) (a:=⟨t,ds⟩) u r (aY hS y) p (bL s rfl) X.f X.n X.b X.x n).trans (by rw[mG l])
theorem Lf(p:kd≠.early)(hS:Sl N L t)(r:ops[x]?=XG o)(y:Region.wanted o (XX ops (tm N L t))=XL)(l:o.dst=XG d)(s:(XS (⟨t,ds⟩:Yq).eval o).run P w=.ok (.value u) w)(n:(XS (⟨t,ds⟩:Yq).eval o).events P w #[]=#[]):XT P main (G (cF kd ds f t (.inRegion ops (x::rest)::kk)) cs) w=.go (G (cF kd ds f (t.setIfInBounds d u) (.inRegion ops rest::kk)) cs) w #[]:=by refine(stepG_value (b:=bk kd f) (a:=⟨t,ds⟩) r (aY hS y) p s).trans ?_;unfold listed;rw[n,kM,mG l]
theorem sF{e:XW}{v:XN}(k:P.underlying s=XG (.pointer e))(a:P.underlying d'=XG .unsafePointer)(l:(P.info? e).map (λi=>decide (i.size=0))=XG XD)(A:kd≠.early)(hS:Sl N L t)(B:ops[x]?=XG o)(E:Region.wanted o (XX ops (tm N L t))=XL)(z:o.dst=XG d)(D:o.op=.convert s d' y)(F:(⟨t,ds⟩:Yq).eval y=.pointer (XG ad))(h:w.cell? ad=XG v):XT P main (G (cF kd ds f t (.inRegion ops (x::rest)::kk)) cs) w=.go (G (cF kd ds f (t.setIfInBounds d (.pointer (XG ad))) (.inRegion ops rest::kk)) cs) w #[]:=by have u:=run_convert_to_unsafe k a l h;have r:=λn=>events_convert_to_unsafe k a l h n;refine Lf A hS B E z ?_ ?_;{unfold XS;simp_all};unfold XS;simp_all
theorem Ik(A:kd≠.early){v:Int}(hS:Sl N L t)(B:ops[x]?=XG o)(E:Region.wanted o (XX ops (tm N L t))=XL)(r:o.dst=XG d)(D:br o=XG q)(l:dE o=#[y,z])(X:Xt P q fn)(s:Extern.find fn=XG (Extern.Atomic.update (Op.intArith .add) .u64 XL))(F:(⟨t,ds⟩:Yq).eval y=.pointer (XG ad))(H:(⟨t,ds⟩:Yq).eval z=.int .u64 n)(p:w.cell? ad=XG (.int .u64 v))(u:w.frozen? ad=XD):XT P main (G (cF kd ds f t (.inRegion ops (x::rest)::kk)) cs) w=.go (G (cF kd ds f (t.setIfInBounds d (.int .u64 (XU.u64.wrap (v+n)))) (.inRegion ops rest::kk)) cs) (w.setCell ad (.int .u64 (XU.u64.wrap (v+n)))) #[rd ad,wr ad]:=(stepG_add_atomic (b:=bk kd f) (a:=⟨t,ds⟩) B (aY hS E) A (bL D l) X.f X.n X.b X.x .u64 s F H p u).trans (by rw[mG r];try rfl)
theorem wW(s:kd≠.early){v:Int}(hS:Sl N L t)(u:ops[x]?=XG o)(A:Region.wanted o (XX ops (tm N L t))=XL)(p:o.dst=XG d)(z:br o=XG q)(l:dE o=#[y])(X:Xt P q fn)(r:Extern.find fn=XG (Extern.Atomic.loadT (.int .u64)))(B:(⟨t,ds⟩:Yq).eval y=.pointer (XG ad))(n:w.cell? ad=XG (.int .u64 v)):XT P main (G (cF kd ds f t (.inRegion ops (x::rest)::kk)) cs) w=.go (G (cF kd ds f (t.setIfInBounds d (.int .u64 v)) (.inRegion ops rest::kk)) cs) w #[rd ad]:=(stepG_load_atomic (b:=bk kd f) (a:=⟨t,ds⟩) u (aY hS A) s (bL z l) X.f X.n X.b X.x .u64 r B n).trans (by rw[mG p];try rfl)
theorem FY(B:kd≠.early)(hS:Sl N L t)(D:ops[x]?=XG o)(F:Region.wanted o (XX ops (tm N L t))=XL)(r:o.dst=XG d)(E:br o=XG q)(l:dE o=#[y,z])(X:Xt P q fn)(s:Extern.find fn=XG Extern.Atomic.storeT)(H:(⟨t,ds⟩:Yq).eval y=.pointer (XG ad))(I:(⟨t,ds⟩:Yq).eval z=.int .u64 n)(p:w.cell? ad=XG u)(A:w.frozen? ad=XD):XT P main (G (cF kd ds f t (.inRegion ops (x::rest)::kk)) cs) w=.go (G (cF kd ds f (t.setIfInBounds d (.tuple #[])) (.inRegion ops rest::kk)) cs) (w.setCell ad (.int .u64 n)) #[wr ad]:=(stepG_store_atomic (b:=bk kd f) (a:=⟨t,ds⟩) D (aY hS F) B (bL E l) X.f X.n X.b X.x s H I p A).trans (by rw[mG r];try rfl)
theorem Be(B:kd≠.early){u:X8}{v:Int}(hS:Sl N L t)(D:ops[x]?=XG o)(H:Region.wanted o (XX ops (tm N L t))=XL)(r:o.dst=XG d)(E:br o=XG q)(l:dE o=#[y,z,u])(X:Xt P q fn)(s:Extern.find fn=XG (Extern.Atomic.casT (.int .u64)))(I:(⟨t,ds⟩:Yq).eval y=.pointer (XG ad))(J:(⟨t,ds⟩:Yq).eval z=.int .u64 v)(F:(⟨t,ds⟩:Yq).eval u=.int .u64 n)(p:w.cell? ad=XG (.int .u64 v))(A:w.frozen? ad=XD):XT P main (G (cF kd ds f t (.inRegion ops (x::rest)::kk)) cs) w=.go (G (cF kd ds f (t.setIfInBounds d (.bool XL)) (.inRegion ops rest::kk)) cs) (w.setCell ad (.int .u64 n)) #[rd ad,wr ad]:=(stepG_cas_hit (b:=bk kd f) (a:=⟨t,ds⟩) D (aY hS H) B (bL E l) X.f X.n X.b X.x .u64 s I J F p A).trans (by rw[mG r];try rfl)
theorem AD(D:kd≠.early){u:X8}{v:Int}(hS:Sl N L t)(E:ops[x]?=XG o)(I:Region.wanted o (XX ops (tm N L t))=XL)(s:o.dst=XG d)(F:br o=XG q)(p:dE o=#[y,z,u])(X:Xt P q fn)(A:Extern.find fn=XG (Extern.Atomic.casT (.int .u64)))(J:(⟨t,ds⟩:Yq).eval y=.pointer (XG ad))(K:(⟨t,ds⟩:Yq).eval z=.int .u64 old)(H:(⟨t,ds⟩:Yq).eval u=.int .u64 n)(r:w.cell? ad=XG (.int .u64 v))(B:w.frozen? ad=XD)(k:¬v=old):XT P main (G (cF kd ds f t (.inRegion ops (x::rest)::kk)) cs) w=.go (G (cF kd ds f (t.setIfInBounds d (.bool XD)) (.inRegion ops rest::kk)) cs) w #[rd ad]:=(stepG_cas_miss (b:=bk kd f) (a:=⟨t,ds⟩) E (aY hS I) D (bL F p) X.f X.n X.b X.x .u64 A J K H r B k).trans (by rw[mG s];try rfl)
theorem QM(z:kd≠.early)(hS:Sl N L t)(A:ops[x]?=XG o)(D:Region.wanted o (XX ops (tm N L t))=XL)(s:o.dst=XG d)(B:br o=XG q)(p:dE o=ags)(X:Xt P q fn)(u:Extern.find fn=XG Extern.Sync.semacquire)(E:(ags.map (⟨t,ds⟩:Yq).eval)[0]?=XG (.pointer (XG ad)))(r:w.cell? ad=XG (.int .u32 n))(k:n≠0)(y:w.frozen? ad=XD):XT P main (G (cF kd ds f t (.inRegion ops (x::rest)::kk)) cs) w=.go (G (cF kd ds f (t.setIfInBounds d (.tuple #[])) (.inRegion ops rest::kk)) cs) (w.setCell ad (.int .u32 (n-1))) (semEvents ad):=(stepG_semacquire (b:=bk kd f) (a:=⟨t,ds⟩) A (aY hS D) z (bL B p) X.f X.n X.b X.x u E r k y).trans (by rw[mG s])
theorem AP(hS:Sl N L t)(s:ops[x]?=XG o)(y:Region.wanted o (XX ops (tm N L t))=XL)(u:br o=XG q)(n:dE o=ags)(X:Xt P q fn)(r:Extern.find fn=XG Extern.Sync.semacquire)(z:(ags.map (⟨t,ds⟩:Yq).eval)[0]?=XG (.pointer (XG ad)))(p:w.cell? ad=XG (.int .u32 0)):XT P main (G (cF kd ds f t (.inRegion ops (x::rest)::kk)) cs) w=.go {G (cF kd ds f t (.inRegion ops (x::rest)::kk)) cs with status:=.blocked} w #[]:=stepG_semacquire_wait (b:=bk kd f) (a:=⟨t,ds⟩) s (aY hS y) (bL u n) X.f X.n X.b X.x r z p
theorem RB(y:kd≠.early)(hS:Sl N L t)(z:ops[x]?=XG o)(B:Region.wanted o (XX ops (tm N L t))=XL)(r:o.dst=XG d)(A:br o=XG q)(l:dE o=ags)(X:Xt P q fn)(s:Extern.find fn=XG Extern.Sync.semrelease)(D:(ags.map (⟨t,ds⟩:Yq).eval)[0]?=XG (.pointer (XG ad)))(p:w.cell? ad=XG (.int .u32 n))(u:w.frozen? ad=XD):XT P main (G (cF kd ds f t (.inRegion ops (x::rest)::kk)) cs) w=.go (G (cF kd ds f (t.setIfInBounds d (.tuple #[])) (.inRegion ops rest::kk)) cs) (w.setCell ad (.int .u32 (XU.u32.wrap (n+1)))) (semEvents ad):=(stepG_semrelease (b:=bk kd f) (a:=⟨t,ds⟩) z (aY hS B) y (bL A l) X.f X.n X.b X.x s D p u).trans (by rw[mG r])
end
end
section
variable{v w1:XP}
abbrev hl(C:Cx)(iS:Int)(st aw:Bool)(it:Nat)(z:Int):List (Nat×XN):=[(0,ϱ C.mu C.mo),(2,Iv iS),(3,.bool st),(4,.bool aw),(5,Iv it),(6,.int .i32 z)]
def iY(C:Cx)(K:XP->Prop)(b₁:XV)(a₁:Yq)(ops₁:Array Yu)(i₁:Nat)(rest₁:List Nat)(k₁:List Yi)(cs₁:List XV)(o:Wd)(aw st:Bool)(it:Nat)(g:XR)(w:XP):Prop:=
 K w/\∃(iS:Int)(t:Array XN),Sl 139 (hl C iS st aw it (o.enc:Nat)) t/\g=G (fr 166 t (cA ao 504)) (b₁.at a₁ (.inRegion ops₁ (i₁::rest₁)::k₁)::cs₁)
section
variable{b₁:XV}{a₁:Yq}{ops₁:Array Yu}{i₁:Nat}{rest₁:List Nat}{k₁:List Yi}{cs₁:List XV}{K:XP->Prop}
set_option maxRecDepth 100000 in theorem P'(hC:C.Ok)(hP:C.P=Pz)(hK:Kd C i own K)(c:K w)(hS:Sl 139 [(0,ϱ C.mu C.mo)] t):cJ C i own (uP C i own (iY C K b₁ a₁ ops₁ i₁ rest₁ k₁ cs₁) XD XD 0) 21 (G (fr 166 t [.code ao]) (b₁.at a₁ (.inRegion ops₁ (i₁::rest₁)::k₁)::cs₁)) w:=by show cJ C i own _ _ (G (fr 166 _ (cA ao 1)) _) w;refine dT 21 (rA ao 62 [3,4]) [(0,ϱ C.mu C.mo),(2,Iv 0),(3,.bool XD),(4,.bool XD),(5,Iv 0),(12,ϱ C.mu C.mo)] hS λt w1 hS r=>aC (n:=0) λw1 e=>?_;replace c:=hK.env (hK.env c r) e;refine⟨rfl,λf q hw _=>⟨_,by rw[hP];exact nf hS (o:=opn (aR (sb ao 62)) 3) (d:=13) Ψ Ψ Ψ (y:=.tmp 12) Ψ (hS.get (by rfl)) (aB.cell hC hw) J6,5,?_⟩⟩;replace hS:Sl 139 [(13,.int .i32 (f.enc:Nat)),(0,ϱ C.mu C.mo),(2,Iv 0),(3,.bool XD),(4,.bool XD),(5,Iv 0),(12,ϱ C.mu C.mo)] _:=hS.put (d:=13) (v:=.int .i32 (f.enc:Nat)) Δ Θ;refine dT 5 (cA ao 504) [(0,ϱ C.mu C.mo),(2,Iv 0),(3,.bool XD),(4,.bool XD),(5,Iv 0),(6,.int .i32 (f.enc:Nat))] hS λt w1 hS r=>aC (n:=0) λw1 e=>?_;exact⟨hK.env (hK.env c r) e,_,t,hS,rfl⟩
end
end
end Go.Lw
