/- A part. -/
import Derived.KernelRfl
import GoSem.Core.Value
import Derived.Conc.Own4
import Derived.Conc.SmallLaws
import Derived.Conc.Listed
import Derived.Calls
import Derived.Conc.Own
import Derived.Conc.Events
import Derived.Laws.Entries
import Derived.Conc.LockTrace
import Derived.Conc.MuSpec
import Derived.Conc.Beside
set_option linter.all false
open Go renaming Addr->XR,Builtin->XJ,Code->X4,Event->XU,Frame->Xp,FuncId->XA,Goroutine->Xk,IntKind->Xq,Item->XO,MapEntry->XZ,Obj->XT,Oper->X0,Operand->XG,Program->Xz,Question->X3,Result->XS,Sem->XN,TypeId->Xv,Value->Xd,World->Xf,execOp->Xn,stepG->Xm,undef->Xo,yielded->Xx
open Bool renaming false->WI,true->W8
open Option renaming none->Xh,some->W1
abbrev Uo:=@Nat.le_refl
abbrev Up:=@Nat.lt_of_lt_of_le
abbrev Uq:=@Array.getElem?_eq_some_iff
abbrev Ur:=@Bool.and_eq_true
abbrev Us:=@List.getElem?_eq_getElem
abbrev Ut:=@List.mem_of_getElem?
abbrev Uu:=@List.mem_cons
abbrev Uv:=@Array.getD_eq_getD_getElem?
abbrev Uw:=@Option.map_eq_some_iff
abbrev Ux:=@Array.getElem?_eq_getElem
abbrev Uy:=@List.mem_map
abbrev Uz:=@List.mem_cons_self
abbrev UA:=@Option.map_some
abbrev UB:=@Option.some.injEq
abbrev UC:=@List.getElem?_eq_some_iff
abbrev UD:=@Iff.rfl
abbrev UE:=@List.any_eq_true
abbrev UF:=@Nat.zero_le
abbrev UG:=@Nat.lt_irrefl
abbrev UH:=@List.mem_cons_of_mem
abbrev UI:=@List.getElem?_map
abbrev UJ:=@List.mem_append
abbrev UK:=@Bool.false_eq_true
abbrev UL:=@Array.getElem?_replicate
abbrev UM:=@Prod.mk.injEq
abbrev UN:=@List.mem_iff_getElem?
abbrev UO:=@Nat.le_of_lt
abbrev UP:=@Nat.le_trans
abbrev UQ:=@Array.getElem?_setIfInBounds_ne
abbrev UR:=@Option.bind_eq_some_iff
abbrev US:=@List.all_cons
abbrev UT:=@Prod.mk.inj
abbrev UU:=@List.all_eq_true
abbrev UW:=@Option.getD_some
abbrev UX:=@Array.getElem?_push
abbrev UY:=@Array.mem_append
abbrev UZ:=@List.not_mem_nil
abbrev U0:=@List.map_cons
abbrev U1:=@Nat.lt_or_ge
abbrev U2:=@Nat.add_zero
abbrev U3:=@List.length_eq_zero_iff
abbrev U4:=@Nat.le_add_right
abbrev U5:=@List.mem_append_left
abbrev U6:=@Nat.le_of_ble_eq_true
abbrev U7:=@Option.some.inj
abbrev U8:=@Classical.byContradiction
abbrev U9:=@List.mem_append_right
abbrev Va:=@Array.mem_of_getElem?
abbrev Vb:=@Nat.eq_zero_or_pos
abbrev Ve:=@Array.getElem?_modify
abbrev Vf:=@List.map_nil
abbrev Vg:=@Nat.not_lt_zero
abbrev Vh:=@Nat.mul_comm
abbrev Vi:=@Nat.le_succ
abbrev Vj:=@List.length_append
abbrev Vk:=@Nat.add_assoc
abbrev Vl:=@Int.le_refl
abbrev Vm:=@Option.bind_some
abbrev Vn:=@List.nodup_cons
abbrev Vo:=@List.mem_singleton
abbrev Vp:=@List.take_of_length_le
abbrev Vq:=@Nat.le_of_eq
abbrev Vr:=@Array.ext_getElem?
abbrev Vs:=@Nat.zero_add
abbrev Vt:=@List.cons.injEq
abbrev Vu:=@List.append_assoc
abbrev Vv:=@Bool.or_eq_true
abbrev Vw:=@List.length_cons
abbrev Vx:=@List.foldl_cons
abbrev Vy:=@List.count_cons_of_ne
abbrev Vz:=@Nat.pos_of_ne_zero
abbrev VA:=@Array.getElem?_map
abbrev VB:=@List.append_nil
abbrev VC:=@Nat.mod_lt
abbrev VD:=@Array.getElem?_setIfInBounds
abbrev VE:=@Nat.ne_of_lt
abbrev VF:=@List.mem_filter
abbrev VG:=@List.perm_middle
abbrev VH:=@List.drop_eq_getElem_cons
abbrev VI:=@Bool.or_true
abbrev VJ:=@Nat.add_comm
abbrev VK:=@List.getElem?_append_left
abbrev VL:=@List.map_toArray
abbrev VM:=@List.getElem_mem
abbrev VN:=@Bool.and_self
abbrev VO:=@Array.all_eq_true_iff_forall_mem
abbrev VP:=@Bool.false_and
abbrev VQ:=@List.take_add_one
abbrev VR:=@List.getElem_toArray
abbrev VS:=@List.getElem_cons_succ
abbrev VU:=@List.getElem_cons_zero
abbrev VV:=@List.setIfInBounds_toArray
abbrev VW:=@List.set_cons_zero
abbrev VX:=@List.set_cons_succ
abbrev VY:=@List.getElem?_cons_succ
abbrev VZ:=@List.nodup_nil
abbrev V0:=@Int.add_zero
abbrev V1:=@List.nil_append
abbrev V2:=@Bool.true_or
abbrev V3:=@Array.getElem?_mapIdx
abbrev V4:=@Nat.lt_or_eq_of_le
abbrev V5:=@Array.mem_iff_getElem
abbrev V6:=@List.mem_flatMap
abbrev V7:=@List.mem_range
abbrev V8:=@List.ext_getElem?
abbrev V9:=@Array.mem_push
abbrev Wa:=@List.foldl_append
abbrev Wb:=@Bool.eq_iff_iff
abbrev We:=@Array.length_toList
abbrev Wf:=@Array.getElem?_eq_none
abbrev Wg:=@Bool.or_false
abbrev Wh:=@List.mem_map_of_mem
abbrev Wi:=@Bool.toNat_le
abbrev Wj:=@List.range_succ
abbrev Wk:=@Array.size_mapIdx
abbrev Wl:=@Int.le_trans
abbrev Wm:=@List.getElem?_toArray
abbrev Wn:=@List.cons_append
abbrev Wo:=@List.all_nil
abbrev Wp:=@Nat.le_of_lt_succ
abbrev Wq:=@Nat.testBit_two_pow_mul_add
abbrev Wr:=@Nat.pow_le_pow_right
abbrev Ws:=@Option.isSome_none
abbrev Wt:=@Array.getElem?_append_left
abbrev Wu:=@List.eq_nil_or_concat
abbrev Wv:=@List.take_length
abbrev Ww:=@Bool.true_and
abbrev Wx:=@List.all_eq_false
abbrev Wy:=@List.mapIdx_cons
abbrev Wz:=@List.count_append
abbrev WA:=@List.flatMap_cons
abbrev WB:=@List.getElem?_append_right
abbrev WC:=@Nat.lt_of_le_of_lt
abbrev WE:=@Nat.le_of_not_lt
abbrev WG:=@List.length_nil
abbrev WH:=@Nat.zero_mul
abbrev WJ:=@Nat.sub_self
abbrev WK:=@List.drop_of_length_le
abbrev WL:=@List.any_cons
abbrev WM:=@Nat.add_sub_cancel_left
abbrev WN:=@List.getElem?_range
abbrev WO:=@Nat.le_antisymm
abbrev WQ:=@Int.max_eq_right
abbrev WR:=@Int.max_eq_left
abbrev WS:=@List.count_pos_iff
abbrev WT:=@Int.le_antisymm
abbrev WU:=@Nat.mul_le_mul_right
abbrev WV:=@Nat.ne_of_beq_eq_false
abbrev WW:=@List.foldlM_cons
abbrev WX:=@Bool.false_or
abbrev WY:=@Array.getElem?_of_mem
abbrev WZ:=@List.eq_nil_of_length_eq_zero
abbrev W4:=@Nat.and_two_pow_sub_one_eq_mod
abbrev W6:=@Nat.two_pow_add_eq_or_of_lt
abbrev W7:=@Int.fdiv_eq_ediv_of_nonneg
abbrev W9:=@List.concat_eq_append
abbrev Xa:=@List.mem_of_mem_drop
abbrev Xb:=@List.map_eq_nil_iff
abbrev Xc:=@List.perm_append_comm_assoc
abbrev Xe:=@List.extract_eq_take_drop
abbrev Xg:=@List.take_succ_eq_append_getElem
abbrev Xi:=@List.take_subset_take_left
abbrev Xj:=@List.flatMap_eq_nil_iff
abbrev Xl:=@Option.isSome_iff_exists
abbrev Xr:=@Array.getElem?_setIfInBounds_self_of_lt
abbrev Xs:=@List.count_cons_self
abbrev Xu:=@List.length_pos_iff
abbrev Xw:=@Nat.pos_iff_ne_zero
abbrev Xy:=@Array.toList_append
abbrev XB:=@Classical.choose_spec
abbrev XC:=@List.getElem?_eq_none
abbrev XE:=@Array.getElem_setIfInBounds
abbrev XF:=@Array.getElem?_push_lt
abbrev XI:=@Array.getElem!_eq_getD
abbrev XK:=@Array.mapM_eq_foldlM
abbrev XL:=@Array.foldlM_toList
abbrev XM:=@List.append_cancel_right
abbrev XP:=@Array.map_congr_left
namespace Go
abbrev Iv(n:Int):Xd:=.int .i64 n
variable{p:Prop}
theorem Ψ(h:p:=by kernel_rfl):p:=h
theorem Δ(h:p:=by decide):p:=h
theorem Ω(h:p:=by omega):p:=h
theorem Θ(h:p:=by simp):p:=h
theorem Ξ(h:p:=by rw[hP];kernel_rfl):p:=h
theorem Λ(h:p:=by rw[hP];exact .all):p:=h
theorem Υ(h:p:=by intro p hp;simp only[Uu,UZ,or_false]at hp;(repeat'(refine Or.elim hp ?_ ?_<;>intro hp));(all_goals subst hp);all_goals first|(left;simp;done)|(refine .inr ⟨0,?_,hdep 0 ?_⟩;rotate_left;kernel_rfl;simp;done)|(refine .inr ⟨1,?_,hdep 1 ?_⟩;rotate_left;kernel_rfl;simp;done)|(refine .inr ⟨2,?_,hdep 2 ?_⟩;rotate_left;kernel_rfl;simp;done)|(refine .inr ⟨3,?_,hdep 3 ?_⟩;rotate_left;kernel_rfl;simp;done)|(refine .inr ⟨4,?_,hdep 4 ?_⟩;rotate_left;kernel_rfl;simp;done)|(refine .inr ⟨5,?_,hdep 5 ?_⟩;rotate_left;kernel_rfl;simp;done)|(refine .inr ⟨6,?_,hdep 6 ?_⟩;rotate_left;kernel_rfl;simp;done)|(refine .inr ⟨7,?_,hdep 7 ?_⟩;rotate_left;kernel_rfl;simp;done)|(refine .inr ⟨8,?_,hdep 8 ?_⟩;rotate_left;kernel_rfl;simp;done)|(refine .inr ⟨9,?_,hdep 9 ?_⟩;rotate_left;kernel_rfl;simp;done)|(refine .inr ⟨10,?_,hdep 10 ?_⟩;rotate_left;kernel_rfl;simp;done)|(refine .inr ⟨11,?_,hdep 11 ?_⟩;rotate_left;kernel_rfl;simp;done)|(refine .inr ⟨12,?_,hdep 12 ?_⟩;rotate_left;kernel_rfl;simp;done)|(refine .inr ⟨13,?_,hdep 13 ?_⟩;rotate_left;kernel_rfl;simp;done)|(refine .inr ⟨14,?_,hdep 14 ?_⟩;rotate_left;kernel_rfl;simp;done)|(refine .inr ⟨15,?_,hdep 15 ?_⟩;rotate_left;kernel_rfl;simp;done)|(refine .inr ⟨16,?_,hdep 16 ?_⟩;rotate_left;kernel_rfl;simp;done)|(refine .inr ⟨17,?_,hdep 17 ?_⟩;rotate_left;kernel_rfl;simp;done)|(refine .inr ⟨18,?_,hdep 18 ?_⟩;rotate_left;kernel_rfl;simp;done)|(refine .inr ⟨19,?_,hdep 19 ?_⟩;rotate_left;kernel_rfl;simp;done)|(refine .inr ⟨20,?_,hdep 20 ?_⟩;rotate_left;kernel_rfl;simp;done)|(refine .inr ⟨21,?_,hdep 21 ?_⟩;rotate_left;kernel_rfl;simp;done)|(refine .inr ⟨22,?_,hdep 22 ?_⟩;rotate_left;kernel_rfl;simp;done)|(refine .inr ⟨23,?_,hdep 23 ?_⟩;rotate_left;kernel_rfl;simp;done)|(refine .inr ⟨24,?_,hdep 24 ?_⟩;rotate_left;kernel_rfl;simp;done)|(refine .inr ⟨25,?_,hdep 25 ?_⟩;rotate_left;kernel_rfl;simp;done)):p:=h
abbrev ϖ(b:Nat):Xd:=.pointer (W1 ⟨b,0,Xh⟩)
abbrev ϱ(b o:Nat):Xd:=.pointer (W1 ⟨b,o,Xh⟩)
end Go
namespace Go.Pw
open Go.Conc
variable{P:Xz}{α:Type}{F F' F1:Xp}{o:XT}{main rd:Bool}{cs:List Xp}{w:Xf}{ops:Array X0}{i d m N b:Nat}{k:List XO}{H L L':List (Nat×Xd)}{R:Xf->Xf->Prop}{D:Xf->Xf->Array XU->Prop}{Stop:Xk->Xf->Prop}{J:Xk->Prop}{v:Xd}{t:Array Xd}{f:XA}
def eJ(P:Xz){α:Type}:XN α->Option α
 |.pure a=>W1 a
 |.program k=>eJ P (k P)
 |_=>Xh
theorem ir{x:XN α}{a:α}(h:eJ P x=W1 a)(w:Xf):x.run P w=.ok a w/\x.events P w #[]=#[]:=by induction x with|pure b=>simp only[eJ,UB]at h;subst h;exact⟨rfl,rfl⟩|program k c=>exact c P h|_=>simp[eJ]at h
def BU(P:Xz)(F:Xp)(o:X0):Option Xp:=
 match o.op with
 |.defer _=>Xh
 |_=>match eJ P (Xn F.eval o)with
   |some (.value v)=>W1 (F.finish v)
   |some .skip=>W1 (F.finish Xo)
   |_=>Xh
def lY(P:Xz)(F:Xp):Option Xp:=
 match F.todo with
 |.code .skip::k=>W1 {F with todo:=k}
 |.code (.label _)::k=>W1 {F with todo:=k}
 |.inBlock _::k=>W1 {F with todo:=k}
 |.inScope _::k=>W1 {F with todo:=k}
 |.code (.seq a b)::k=>W1 {F with todo:=.code a::.code b::k}
 |.code (.cond c x y)::k=>match F.eval c with
   |.bool b=>W1 {F with todo:=.code (if b then x else y)::k}
   |_=>Xh
 |.code (.block id c)::k=>W1 {F with todo:=.code c::.inBlock id::k}
 |.code (.loop c)::k=>W1 {F with todo:=.code c::.inLoop c::k}
 |.inLoop c::k=>W1 {F with todo:=.code c::.inLoop c::k}
 |.code (.scope c)::k=>W1 {F with todo:=.code c::.inScope c::k}
 |.code (.exit id)::k=>(exitTo id k).map λk=>{F with todo:=k}
 |.code (.region _ ops WI)::k=>W1 {F with todo:=.inRegion ops (List.range ops.size)::k}
 |.inRegion _ []::k=>W1 {F with todo:=k}
 |.inRegion ops (i::_)::_=>
   match((ops[i]?).map (Region.wanted · (Xx ops F.tmps))).getD WI with
   |true=>(ops[i]?).bind (BU P F)
   |false=>W1 (F.finish Xo)
 |_=>Xh
def hint(H:List (Nat×Xd))(F F1:Xp):Xp×List (Xd×Xd):=
 match F.todo with
 |.inRegion ops (i::_)::_=>
   match(ops[i]?).bind (·.dst)with
   |some d=>match H.lookup d with
     |some v=>({F1 with tmps:=F.tmps.setIfInBounds d v},[(F1.tmps.getD d Xo,v)])
     |none=>(F1,[])
   |none=>(F1,[])
 |_=>(F1,[])
def bu(P:Xz)(H:List (Nat×Xd)):Nat->Xp->Option (Xp×List (Xd×Xd))
 |0,F=>W1 (F,[])
 |n+1,F=>(lY P F).bind λF1=>(bu P H n (hint H F F1).1).map λx=>(x.1,(hint H F F1).2++x.2)
theorem kS(P:Xz)(f:XA):seen P f #[]=#[]:=by rw[seen_def];simp
theorem BX{o:X0}(C:F.mode=.run)(B:F.kind≠.early)(H:∃ops i rest k,F.todo=.inRegion ops (i::rest)::k/\ops[i]?=W1 o/\Region.wanted o (Xx ops F.tmps)=W8)(h:BU P F o=W1 F'):Xm P main (G F cs) w=.go (G F' cs) w #[]:=by obtain⟨ops,i,rest,k,z,A,t⟩:=H;obtain⟨fn,tmps,todo,defers,mode,kind,q⟩:=F;subst z C;(have m:=by simpa using B);(have D:∀c,o.op≠.defer c:=λc e=>by unfold BU at h;rw[e]at h;cases h);(have y:∀n,eJ P (Xn (Xp.eval {fn:=fn,tmps:=tmps,todo:=.inRegion ops (i::rest)::k,defers:=defers,mode:=.run,kind:=kind,roundOf:=q}) o)=W1 n->(∃v,n=.value v/\F'=Xp.finish {fn:=fn,tmps:=tmps,todo:=.inRegion ops (i::rest)::k,defers:=defers,mode:=.run,kind:=kind,roundOf:=q} v)\/(n=.skip/\F'=Xp.finish {fn:=fn,tmps:=tmps,todo:=.inRegion ops (i::rest)::k,defers:=defers,mode:=.run,kind:=kind,roundOf:=q} Xo):=by intro n E;unfold BU at h;split at h;{cases h};rw[E]at h;cases n<;>simp at h<;>simp[h]);cases u:eJ P (Xn (Xp.eval {fn:=fn,tmps:=tmps,todo:=.inRegion ops (i::rest)::k,defers:=defers,mode:=.run,kind:=kind,roundOf:=q}) o)with|none=>unfold BU at h;split at h;{cases h};rw[u]at h;cases h|some n=>obtain⟨p,r⟩:=ir u w;(have x:Xm P main (G {fn:=fn,tmps:=tmps,todo:=.inRegion ops (i::rest)::k,defers:=defers,mode:=.run,kind:=kind,roundOf:=q} cs) w=Xm.apply P W8 {fn:=fn,tmps:=tmps,todo:=.inRegion ops (i::rest)::k,defers:=defers,mode:=.run,kind:=kind,roundOf:=q} cs Xh (Xn (Xp.eval {fn:=fn,tmps:=tmps,todo:=.inRegion ops (i::rest)::k,defers:=defers,mode:=.run,kind:=kind,roundOf:=q}) o) w:=by cases q with|none=>simp only[G,Xm,Xm.exec,Xm.oper,Xp.oper?,A,t,UA,UW,if_true]|some l=>simp only[G,Xm,Xm.exec,Xm.oper,Xp.oper?,A,t,UA,UW,if_true];split;{rename_i e;exact absurd e (D _)};rfl);rw[x];rcases y n u with⟨v,rfl,rfl⟩|⟨rfl,rfl⟩;{simp[Xm.apply,p,r,m,GStep.after,kS,G]};simp[Xm.apply,p,r,m,GStep.after,kS,G]
theorem kl(m:F.mode=.run)(a:F.kind≠.early)(h:lY P F=W1 F'):(∀main cs w,Xm P main (G F cs) w=.go (G F' cs) w #[])/\F'.mode=.run/\F'.kind≠.early:=by obtain⟨t,q,r,f,p,n,v⟩:=F;subst m;unfold lY at h;simp only at h;split at h;(all_goals first|(cases h;exact⟨λmain cs w=>by simp[G,Xm,Xm.exec],rfl,a⟩)|skip);{split at h;{rename_i b s;cases h;exact⟨λmain cs w=>by simp[G,Xm,Xm.exec,s],rfl,a⟩};cases h};{rename_i id k;cases j:exitTo id k with|none=>rw[j]at h;cases h|some u=>rw[j]at h;cases h;exact⟨λmain cs w=>by simp[G,Xm,Xm.exec,j],rfl,a⟩};{rename_i d i e k;split at h;{rename_i g;cases l:d[i]? with|none=>rw[l]at h;cases h|some o=>rw[l]at h g;simp only[Vm]at h;refine⟨λmain cs w=>BX rfl a ⟨d,i,e,k,rfl,l,by simpa using g⟩ h,?_⟩;unfold BU at h;split at h;{cases h};split at h<;>cases h<;>exact⟨rfl,a⟩};rename_i g;cases h;refine⟨λmain cs w=>?_,rfl,a⟩;simp only[G,Xm,Xm.exec,g,UK,if_false]};cases h
theorem F8{rest:List Nat}{d:Tmp}(e:F.todo=.inRegion ops (i::rest)::k)(l:(ops[i]?).bind (·.dst)=W1 d)(h:lY P F=W1 F1):∃v,F1={F with tmps:=F.tmps.setIfInBounds d v,todo:=.inRegion ops rest::k}:=by(have c:∀v,F.finish v={F with tmps:=F.tmps.setIfInBounds d v,todo:=.inRegion ops rest::k}:=λv=>by obtain⟨m,tmps,todo,b,j,g,n⟩:=F;subst e;simp[Xp.finish,l]);unfold lY at h;rw[e]at h;simp only at h;split at h;{cases f:ops[i]? with|none=>rw[f]at h;cases h|some o=>rw[f]at h;simp only[Vm]at h;unfold BU at h;split at h;{cases h};split at h<;>cases h;{exact⟨_,c _⟩};exact⟨_,c _⟩};cases h;exact⟨_,c _⟩
theorem wu(h:lY P F=W1 F1)(a:∀p∈(hint H F F1).2,p.1=p.2):(hint H F F1).1=F1:=by unfold hint at a⊢;split;{rename_i e i j k g;rw[g]at a;simp only at a;cases f:(e[i]?).bind (·.dst)with|none=>rfl|some d=>rw[f]at a;simp only at a⊢;cases l:H.lookup d with|none=>rfl|some v=>rw[l]at a;simp only[Vo,forall_eq]at a⊢;obtain⟨u,rfl⟩:=F8 g f h;rcases U1 d F.tmps.size with c|b;{(have:(F.tmps.setIfInBounds d u).getD d Xo=u:=by simp[c]);rw[this]at a;rw[a]};simp[Array.setIfInBounds,Nat.not_lt.2 b]};rfl
theorem rF(j:∀a b c,R a b->R b c->R a c)(i:∀w,D w w #[]):∀(n:Nat){F F':Xp}{obs:List (Xd×Xd)}{w:Xf},bu P H n F=W1 (F',obs)->(∀p∈obs,p.1=p.2)->F.mode=.run->F.kind≠.early->Goes P main R D Stop m (G F' cs) w->Goes P main R D Stop (m+n) (G F cs) w|0,F,F',obs,w,h,_,_,_,g=>by cases h;exact g|n+1,F,F',obs,w,h,k,t,s,g=>by simp only[bu]at h;cases d:lY P F with|none=>rw[d]at h;cases h|some l=>rw[d]at h;simp only[Vm]at h;cases f:bu P H n (hint H F l).1 with|none=>rw[f]at h;cases h|some x=>rw[f]at h;simp only[UA,UB,UM]at h;obtain⟨rfl,rfl⟩:=h;rw[wu d λp d=>k p (UJ.2 (.inl d))]at f;obtain⟨o,q,r⟩:=kl t s d;have:=rF j i n (F':=x.1) (obs:=x.2) f (λp d=>k p (UJ.2 (.inr d))) q r g;refine .inr ⟨rfl,λv u=>?_⟩;rw[o];exact⟨i v,this.rely j u⟩
theorem n3(f:∀F b,(∀w,Xm P main (G F cs) w=.go (G b cs) w #[])->J (G b cs)->J (G F cs)):∀(n:Nat){F F':Xp}{obs:List (Xd×Xd)},bu P H n F=W1 (F',obs)->(∀p∈obs,p.1=p.2)->F.mode=.run->F.kind≠.early->J (G F' cs)->J (G F cs)|0,F,F',obs,h,_,_,_,e=>by cases h;exact e|n+1,F,F',obs,h,g,m,l,e=>by simp only[bu]at h;cases a:lY P F with|none=>rw[a]at h;cases h|some b=>rw[a]at h;simp only[Vm]at h;cases d:bu P H n (hint H F b).1 with|none=>rw[d]at h;cases h|some x=>rw[d]at h;simp only[UA,UB,UM]at h;obtain⟨rfl,rfl⟩:=h;rw[wu a λp a=>g p (UJ.2 (.inl a))]at d;obtain⟨i,j,k⟩:=kl m l a;exact f F b (λw=>i main cs w) (n3 f n (F':=x.1) (obs:=x.2) d (λp a=>g p (UJ.2 (.inr a))) j k e)
def tm(N:Nat)(L:List (Nat×Xd))(t:Array Xd):Array Xd:=((List.range N).map λi=>match L.lookup i with|some v=>v|none=>t.getD i Xo).toArray
structure Sl(N:Nat)(L:List (Nat×Xd))(t:Array Xd):Prop where
 size:t.size=N
 at_:∀p∈L,t.getD p.1 Xo=p.2
theorem gx(h:L.lookup i=W1 v):(i,v)∈L:=by induction L with|nil=>cases h|cons p l c=>simp only[List.lookup]at h;split at h;{rename_i e;cases h;(have:=by simpa using e);subst this;exact Uz ..};exact UH _ (c h)
theorem Sl.tm(h:Sl N L t):t=tm N L t:=by apply Vr;intro i;(have e:(Pw.tm N L t)[i]?=((List.range N).map λi=>match L.lookup i with|some v=>v|none=>t.getD i Xo)[i]?:=by unfold Pw.tm;simp);rw[e,UI];rcases U1 i N with a|a;{rw[WN a];(have b:i<t.size:=by rw[h.size];exact a);simp only[UA,Ux b,UB];cases d:L.lookup i with|none=>simp[Ux b]|some v=>have:=h.at_ _ (gx d);simp only[Uv,Ux b]at this;exact this};rw[XC (by simpa using a),Wf (by rw[h.size];exact a)];rfl
theorem Sl.all(h:(t.size,L.map λp=>t.getD p.1 Xo)=(N,L.map (·.2)):=by kernel_rfl):Sl N L t:=by obtain⟨a,b⟩:=UT h;refine⟨a,λp d=>?_⟩;obtain⟨i,c⟩:=UN.1 d;have:=congrArg (·[i]?) b;simpa[UI,c]using this
theorem Sl.OC(h:t.size=N):Sl N [] t:=⟨h,λp a=>by cases a⟩
theorem Sl.cons{N:Nat}{L:List (Nat×Xd)}{t:Array Xd}{i:Nat}{v:Xd}(h:t.getD i Xo=v)(b:Sl N L t):Sl N ((i,v)::L) t:=⟨b.size,λp a=>by rcases Uu.1 a with rfl|a;{exact h};exact b.at_ p a⟩
section
abbrev fr(f:XA)(t:Array Xd)(k:List XO):Xp:={fn:=f,tmps:=t,todo:=k,defers:=[],mode:=.run,kind:=.normal,roundOf:=Xh}
def sub:List Nat->X4->X4
 |[],c=>c
 |i::p,c=>match c,i with
   |.seq a _,0=>sub p a
   |.seq _ b,_=>sub p b
   |.cond _ a _,0=>sub p a
   |.cond _ _ b,_=>sub p b
   |.block _ a,_=>sub p a
   |.loop a,_=>sub p a
   |.scope a,_=>sub p a
   |.rangeFunc _ _ a _,0=>sub p a
   |.rangeFunc _ _ _ b,_=>sub p b
   |c,_=>c
def aU:X4->Array X0
 |.region _ ops _=>ops
 |_=>#[]
def opn(ops:Array X0)(i:Nat):X0:=(ops[i]?).getD default
def TD:Nat->Nat->List Nat->List Nat
 |0,_,a=>a
 |f+1,n,a=>match Nat.ble n 1 with|true=>a|false=>TD f (n/2) (n%2::a)
def dg(n:Nat):List Nat:=TD 60 n []
abbrev sb(c:X4)(n:Nat):X4:=sub (dg n) c
def tT:List Nat->X4->List XO->List XO
 |[],_,k=>k
 |i::p,c,k=>match c,i with
   |.seq a b,0=>tT p a (.code b::k)
   |.seq _ b,_=>tT p b k
   |.cond _ a _,0=>tT p a k
   |.cond _ _ b,_=>tT p b k
   |.block id a,_=>tT p a (.inBlock id::k)
   |.loop a,_=>tT p a (.inLoop a::k)
   |.scope a,_=>tT p a (.inScope a::k)
   |_,_=>k
abbrev rA(c:X4)(n:Nat)(l:List Nat):List XO:=.inRegion (aU (sb c n)) l::tT (dg n) c []
abbrev cA(c:X4)(n:Nat):List XO:=.code (sb c n)::tT (dg n) c []
abbrev xA(x:X4)(c:X4)(n:Nat):List XO:=.code x::tT (dg n) c []
abbrev dA(c:X4)(n:Nat)(r:Nat):List XO:=.code (.region r (aU (sb c n)) W8)::tT (dg n) c []
theorem Sl.get(h:Sl N L t)(a:L.lookup i=W1 v):t.getD i Xo=v:=h.at_ _ (gx a)
theorem Sl.gN(h:Sl N L t)(i:Nat)(hl:L.lookup i=W1 v):t.getD i Xo=v:=h.get hl
theorem Sl.put(h:Sl N L t)(c:d<N)(e:∀p∈L',p=(d,v)\/(p∈L/\p.1≠d)):Sl N L' (t.setIfInBounds d v):=by refine⟨by simp[h.size],λp f=>?_⟩;rcases e p f with rfl|⟨a,b⟩;{simp[Uv,h.size,c]};rw[<-h.at_ p a];simp only[Uv];rw[UQ (Ne.symm b)]
theorem Sl.sub(h:Sl N L t)(b:∀p∈L',p∈L):Sl N L' t:=⟨h.size,λp a=>h.at_ p (b p a)⟩
theorem aS{o:X0}(h:Sl N L t)(b:Region.wanted o (Xx ops (tm N L t))=W8):Region.wanted o (Xx ops t)=W8:=by rw[h.tm];exact b
theorem Sl.pt(h:Sl N L t)(b:d<N:=by decide)(c:L.all (λp=>!(p.1==d))=W8:=by rfl):Sl N ((d,v)::L) (t.setIfInBounds d v):=h.put b λp a=>by rcases Uu.1 a with rfl|a;{exact .inl rfl};exact .inr ⟨a,by simpa using UU.1 c p a⟩
theorem rv:∀p∈([]:List (Xd×Xd)),p.1=p.2:=λp a=>by cases a
theorem LH{a b:Xd}{l:List (Xd×Xd)}(h:a=b)(d:∀p∈l,p.1=p.2):∀p∈(a,b)::l,p.1=p.2:=λp c=>by rcases Uu.1 c with rfl|c;{exact h};exact d p c
theorem int_eq{k:Xq}{x y:Int}(h:x=y):Xd.int k x=Xd.int k y:=by rw[h]
structure Ob where
 c:Xd
 b:Xd
 h:c=b
def oi(k:Xq)(c b:Int)(h:c=b):Ob:=⟨.int k c,.int k b,int_eq h⟩
def o2(c b:Int)(h:c=b):Ob:=oi .u32 c b h
def o3(c b:Int)(h:c=b):Ob:=oi .i32 c b h
def o6(c b:Int)(h:c=b):Ob:=oi .i64 c b h
def o8(c b:Int)(h:c=b):Ob:=oi .u64 c b h
def ob(c b:Bool)(h:c=b):Ob:=⟨.bool c,.bool b,congrArg Xd.bool h⟩
def oh(O:List (Nat×Ob)):List (Nat×Xd):=O.map λp=>(p.1,p.2.b)
def oo(O:List (Nat×Ob)):List (Xd×Xd):=O.map λp=>(p.2.c,p.2.b)
theorem sB(O:List (Nat×Ob)):∀p∈oo O,p.1=p.2:=λp a=>by obtain⟨q,_,rfl⟩:=Uy.1 a;exact q.2.h
def iY(P:Xz)(H:List (Nat×Xd))(n:Nat)(F:Xp):Array Xd:=match bu P H n F with|some x=>x.1.tmps|none=>#[]
section
variable{k':List XO}{n:Nat}{obs:List (Xd×Xd)}
theorem Gg(l:∀a b c,R a b->R b c->R a c)(i:∀w,D w w #[])(n:Nat)(o:Sl N L t)(g:bu P H n (fr f (tm N L t) k)=W1 (fr f (iY P H n (fr f (tm N L t) k)) k',obs))(q:∀p∈obs,p.1=p.2)(h:Sl N L' (iY P H n (fr f (tm N L t) k)))(j:∀d,Sl N L' d->Goes P main R D Stop m (G (fr f d k') cs) w):Goes P main R D Stop (m+n) (G (fr f t k) cs) w:=by(have e:fr f t k=fr f (tm N L t) k:=by rw[<-o.tm]);rw[e];exact rF l i n g q rfl Θ (j _ h)
theorem LV(h:∀F a,(∀w,Xm P main (G F cs) w=.go (G a cs) w #[])->J (G a cs)->J (G F cs))(n:Nat)(i:Sl N L t)(c:bu P H n (fr f (tm N L t) k)=W1 (fr f (iY P H n (fr f (tm N L t) k)) k',obs))(j:∀p∈obs,p.1=p.2)(d:Sl N L' (iY P H n (fr f (tm N L t) k)))(g:∀b,Sl N L' b->J (G (fr f b k') cs)):J (G (fr f t k) cs):=by(have e:fr f t k=fr f (tm N L t) k:=by rw[<-i.tm]);rw[e];exact n3 (main:=main) h n c j rfl Θ (g _ d)
end
end
def xw:Xd->Bool
 |.agg _|.tuple _=>WI
 |_=>W8
def Qk{α:Type}(b:Nat)(r:Option (α×XT×List Nat)):Option (α×XT×List Nat):=r.map λr=>(r.1,r.2.1,b::r.2.2)
def jZ(P:Xz)(rd:Bool){α:Type}:XN α->XT->Option (α×XT×List Nat)
 |.pure a,o=>W1 (a,o,[])
 |.program k,o=>jZ P rd (k P) o
 |.load .plain ⟨b,i,Xh⟩ k,.cells c e fr=>(c[i]?).bind λv=>Qk b (jZ P rd (k v) (.cells c e fr))
 |.store .plain ⟨b,i,Xh⟩ v k,.cells c e (0,0)=>match !rd&&xw v&&decide (i<c.size)with
   |true=>Qk b (jZ P rd k (.cells (c.setIfInBounds i v) e))
   |false=>Xh
 |.getObj r k,.map es n=>Qk r (jZ P rd (k (.map es n)) (.map es n))
 |.setObj r (.map es' n') k,.map _ _=>match rd with
   |false=>Qk r (jZ P rd k (.map es' n'))
   |true=>Xh
 |_,_=>Xh
def FT(P:Xz){α:Type}:XN α->Option (XT×(Nat->XN α))
 |.program k=>FT P (k P)
 |.new o k=>W1 (o,k)
 |_=>Xh
def iJ(w:Xf)(b:Nat)(o:XT):Xf:={w with heap:=w.heap.setIfInBounds b o}
theorem pY{o':XT}(h:w.heap[b]?=W1 o):(iJ w b o').heap[b]?=W1 o':=by obtain⟨a,_⟩:=Uq.1 h;simp[iJ,a]
theorem pR{c:Nat}(h:c≠b):(iJ w b o).heap[c]?=w.heap[c]?:=by simp[iJ,UQ (Ne.symm h)]
theorem uV(w:Xf)(b:Nat)(o o':XT):iJ (iJ w b o) b o'=iJ w b o':=by simp[iJ]
theorem mW(h:w.heap[b]?=W1 o):iJ w b o=w:=by obtain⟨c,a⟩:=Uq.1 h;(have:w.heap.setIfInBounds b o=w.heap:=Array.ext (by simp) λk d _=>by rw[XE];split;{rename_i e;subst e;exact a.symm};rfl);unfold iJ;rw[this]
theorem xS{c:Array Xd}{e:Xv}(h:w.heap[b]?=W1 (.cells c e)):w.setCell ⟨b,i,Xh⟩ v=iJ w b (.cells (c.setIfInBounds i v) e):=by obtain⟨f,d⟩:=Uq.1 h;(have:w.heap.modify b (λ|.cells c a frozen=>.cells (c.setIfInBounds i v) a frozen|o=>o)=w.heap.setIfInBounds b (.cells (c.setIfInBounds i v) e):=by apply Array.ext (by simp);intro k g _;rw[Array.getElem_modify,XE];split;{rename_i e;subst e;rw[d]};rfl);unfold Xf.setCell iJ;rw[<-this];rfl
def xi(b:Nat)(e:XU):Prop:=(match e.loc with|.cell a=>a.block=b|.obj j=>j=b|_=>False)/\e.sync=WI
theorem Jz{f:Array XU->Array XU}{e:XU}(i:xi b e)(h:∀es,∃a,f es=es++a/\∀x∈a,xi b x)(es:Array XU):∃a,f (es.push e)=es++a/\∀x∈a,xi b x:=by obtain⟨a,d,g⟩:=h (es.push e);refine⟨#[e]++a,by simp[d],λx c=>?_⟩;rcases UY.1 c with c|c;{(obtain rfl:=by simpa using c);exact i};exact g x c
theorem kR{r:Option (α×XT×List Nat)}{a:α}{q:List Nat}(h:Qk b r=W1 (a,o,q)):∃c,r=W1 (a,o,c)/\q=b::c:=by obtain⟨⟨f,g,c⟩,d,e⟩:=Uw.1 h;cases e;exact⟨c,d,rfl⟩
theorem rU{x:XN α}:∀{o o':XT}{q:List Nat}{a:α}{w:Xf},jZ P rd x o=W1 (a,o',q)->(∀r∈q,r=b)->w.heap[b]?=W1 o->x.run P w=.ok a (iJ w b o')/\∀es,∃u,x.events P w es=es++u/\∀e∈u,xi b e:=by induction x with|pure a=>intro o o' q a w h g d;cases h;exact⟨by rw[mW d];rfl,λes=>⟨#[],by simp,by simp⟩⟩|program k n=>exactλh g d=>n P h g d|load m A k n=>intro o o' q a w h g d;obtain⟨j,i,C⟩:=A;cases m<;>cases C<;>cases o<;>simp only[jZ,reduceCtorEq]at h;obtain⟨v,z,h⟩:=UR.1 h;obtain⟨B,s,rfl⟩:=kR h;obtain rfl:j=b:=g _ (Uz ..);obtain⟨l,p⟩:=n v s (λr t=>g r (UH _ t)) d;(have y:w.cell? ⟨j,i,Xh⟩=W1 v:=by simp[Xf.cell?,d,z]);refine⟨by simpa[XN.run,y]using l,λes=>?_⟩;rw[show(XN.load Mode.plain ⟨j,i,Xh⟩ k).events P w es=(k v).events P w (es.push ⟨.cell ⟨j,i,Xh⟩,WI,WI⟩)by simp[XN.events,XN.runT,y,-XN.runT_eq];rfl];exact Jz (f:=(k v).events P w) ⟨rfl,rfl⟩ p es|store m A v k n=>intro o o' q a w h g d;obtain⟨j,i,C⟩:=A;(cases m<;>cases C<;>cases o<;>try(exfalso;revert h;simp[jZ];done));rename_i c e fr;obtain⟨F,H⟩:=fr;(cases F<;>cases H<;>try(exfalso;revert h;simp[jZ];done));simp only[jZ]at h;split at h;{rename_i D;rw[Ur,Ur,decide_eq_true_eq]at D;obtain⟨⟨_,z⟩,I⟩:=D;obtain⟨B,s,rfl⟩:=kR h;obtain rfl:j=b:=g _ (Uz ..);obtain⟨l,p⟩:=n s (λr t=>g r (UH _ t)) (pY d);rw[uV,<-xS d]at l;rw[<-xS d]at p;(have y:w.cell? ⟨j,i,Xh⟩=W1 c[i]:=by simp[Xf.cell?,d,I]);(have E:w.frozen? ⟨j,i,Xh⟩=WI:=by simp[Xf.frozen?,d]);refine⟨by cases v<;>simp[xw]at z<;>simpa[XN.run,y,E]using l,λes=>?_⟩;rw[show(XN.store Mode.plain ⟨j,i,Xh⟩ v k).events P w es=k.events P (w.setCell ⟨j,i,Xh⟩ v) (es.push ⟨.cell ⟨j,i,Xh⟩,W8,WI⟩)by cases v<;>simp[xw]at z<;>(simp[XN.events,XN.runT,y,E,-XN.runT_eq];rfl)];exact Jz (f:=k.events P _) ⟨rfl,rfl⟩ p es};cases h|getObj r k n=>intro o o' q a w h g d;cases o<;>simp only[jZ,reduceCtorEq]at h;obtain⟨B,s,rfl⟩:=kR h;obtain rfl:r=b:=g _ (Uz ..);obtain⟨l,p⟩:=n _ s (λr t=>g r (UH _ t)) d;refine⟨by simpa[XN.run,d]using l,λes=>?_⟩;rw[show(XN.getObj r k).events P w es=(k _).events P w (es.push ⟨.obj r,WI,WI⟩)by simp[XN.events,XN.runT,d,XT.isChan,-XN.runT_eq];rfl];exact Jz (f:=(k _).events P w) ⟨rfl,rfl⟩ p es|setObj r ob k n=>intro o o' q a w h g d;cases rd<;>cases o<;>cases ob<;>simp only[jZ,reduceCtorEq]at h;obtain⟨B,s,rfl⟩:=kR h;obtain rfl:r=b:=g _ (Uz ..);obtain⟨l,p⟩:=n s (λr t=>g r (UH _ t)) (pY d);rw[uV]at l;refine⟨by simp only[XN.run,d];exact l,λes=>?_⟩;rw[show(XN.setObj r _ k).events P w es=k.events P (iJ w r _) (es.push ⟨.obj r,W8,WI⟩)by simp[XN.events,XN.runT,d,XT.isChan,-XN.runT_eq];rfl];exact Jz (f:=k.events P _) ⟨rfl,rfl⟩ p es|_=>intro o o' q a w h;simp[jZ]at h
theorem J7{x:XN α}:∀{o o':XT}{q:List Nat}{a:α},jZ P W8 x o=W1 (a,o',q)->o'=o:=by induction x with|pure a=>intro o o' q a h;cases h;rfl|program k b=>exactλh=>b P h|load m d k b=>intro o o' q a h;obtain⟨j,i,g⟩:=d;cases m<;>cases g<;>cases o<;>simp only[jZ,reduceCtorEq]at h;obtain⟨v,s,h⟩:=UR.1 h;obtain⟨p,f,rfl⟩:=kR h;exact b v f|getObj r k b=>intro o o' q a h;cases o<;>simp only[jZ,reduceCtorEq]at h;obtain⟨p,f,rfl⟩:=kR h;exact b _ f|store m d v k b=>intro o o' q a h;obtain⟨j,i,g⟩:=d;(cases m<;>cases g<;>cases o<;>try(exfalso;revert h;simp[jZ];done));rename_i c e fr;obtain⟨l,n⟩:=fr;cases l<;>cases n<;>exfalso<;>revert h<;>simp[jZ]|setObj r ob k b=>intro o o' q a h;cases o<;>cases ob<;>simp[jZ]at h|_=>intro o o' q a h;simp[jZ]at h
theorem JD{x:XN α}{k:Nat->XN α}{a:α}(h:FT P x=W1 (o,k))(d:eJ P (k w.heap.size)=W1 a):x.run P w=.ok a (w.alloc o)/\x.events P w #[]=#[]:=by induction x with|program f e=>exact e P h|new g f=>cases h;obtain⟨b,c⟩:=ir d (w.alloc o);exact⟨b,c⟩|_=>simp[FT]at h
def Tu:Op->Bool
 |.defer _=>W8
 |_=>WI
def BF(F:Xp):Option X0:=match F.todo with
 |.inRegion ops (i::_)::_=>match((ops[i]?).map (Region.wanted · (Xx ops F.tmps))).getD WI with
   |true=>match ops[i]? with
     |some o=>match Tu o.op with|true=>Xh|false=>W1 o
     |none=>Xh
   |false=>Xh
 |_=>Xh
def valOf:Next->Option Xd
 |.value v=>W1 v
 |.skip=>W1 Xo
 |_=>Xh
def Sj(P:Xz)(rd:Bool)(k:Nat)(F:Xp)(H:List (Nat×XT)):Option (Xp×List (Nat×XT)×List (Nat×Nat)):=
 match BF F,H[k]? with
 |some o,W1 (b,ob)=>match jZ P rd (Xn F.eval o) ob with
   |some (n,ob',q)=>(valOf n).map λv=>(F.finish v,H.set k (b,ob'),q.map λr=>(r,b))
   |none=>Xh
 |_,_=>Xh
def RS(P:Xz)(c:Nat)(F:Xp):Option (Xp×XT):=
 match BF F with
 |some o=>match FT P (Xn F.eval o)with
   |some (ob,k)=>((eJ P (k c)).bind valOf).map λv=>(F.finish v,ob)
   |none=>Xh
 |none=>Xh
abbrev MR:=Xp×List (Nat×XT)×List (Nat×Nat)×List (Xd×Xd)
def iK(P:Xz)(rd:Bool)(O:List (Nat×Xd)):Nat->List Nat->List Nat->Xp->List (Nat×XT)->Option MR
 |0,_,_,F,H=>W1 (F,H,[],[])
 |n+1,hs,bs,F,H=>match lY P F with
   |some F1=>(iK P rd O n hs bs (hint O F F1).1 H).map λr=>(r.1,r.2.1,r.2.2.1,(hint O F F1).2++r.2.2.2)
   |none=>match hs with
     |[]=>W1 (F,H,[],[])
     |0::hs=>match bs with
       |[]=>Xh
       |c::bs=>match RS P c F with
         |some (F1,ob)=>iK P rd O n hs bs F1 ((c,ob)::H)
         |none=>Xh
     |(k+1)::hs=>match Sj P rd k F H with
       |some (F1,H1,q)=>(iK P rd O n hs bs F1 H1).map λs=>(s.1,s.2.1,q++s.2.2.1,s.2.2.2)
       |none=>Xh
theorem w9{o:X0}(h:BF F=W1 o):∃ops i rest k,F.todo=.inRegion ops (i::rest)::k/\ops[i]?=W1 o/\Region.wanted o (Xx ops F.tmps)=W8/\∀c,o.op≠.defer c:=by unfold BF at h;split at h;{rename_i ops i rest k f;split at h;{rename_i g;split at h;{rename_i j d;split at h;{cases h};rename_i b;cases h;refine⟨ops,i,rest,k,f,d,by simpa[d]using g,λc e=>?_⟩;rw[e]at b;cases b};cases h};cases h};cases h
theorem C0{o:X0}{w':Xf}{n:Next}(y:F.mode=.run)(r:F.kind≠.early)(h:BF F=W1 o)(A:(Xn F.eval o).run P w=.ok n w')(z:valOf n=W1 v):Xm P main (G F cs) w=.go (G (F.finish v) cs) w' (seen P F.fn ((Xn F.eval o).events P w #[]))/\(F.finish v).mode=.run/\(F.finish v).kind≠.early:=by obtain⟨p,i,g,k,u,x,q,C⟩:=w9 h;obtain⟨fn,tmps,todo,defers,mode,kind,t⟩:=F;subst u y;(have m:=by simpa using r);refine⟨?_,rfl,r⟩;generalize D:Xp.eval _=B at A⊢;(have s:Xm P main (G {fn:=fn,tmps:=tmps,todo:=.inRegion p (i::g)::k,defers:=defers,mode:=.run,kind:=kind,roundOf:=t} cs) w=Xm.apply P W8 {fn:=fn,tmps:=tmps,todo:=.inRegion p (i::g)::k,defers:=defers,mode:=.run,kind:=kind,roundOf:=t} cs Xh (Xn B o) w:=by rw[<-D];cases t with|none=>simp only[G,Xm,Xm.exec,Xm.oper,Xp.oper?,x,q,UA,UW,if_true]|some l=>simp only[G,Xm,Xm.exec,Xm.oper,Xp.oper?,x,q,UA,UW,if_true];split;{rename_i e;exact absurd e (C _)};rfl);rw[s];cases n<;>simp[valOf]at z<;>subst z<;>simp[Xm.apply,A,m,GStep.after,G]
theorem Kh{es:Array XU}(h:∀e∈es,xi b e):∀e∈seen P f es,xi b e:=λe a=>by rw[seen_def]at a;rcases seen_fold_sub _ _ _ _ e a with x|x;{simp at x};exact h e (by simpa using x)
theorem Pf{k:Nat}{H H1:List (Nat×XT)}{q:List (Nat×Nat)}(x:F.mode=.run)(u:F.kind≠.early)(h:Sj P rd k F H=W1 (F1,H1,q))(z:∀p∈q,p.1=p.2):∃b o o',H[k]?=W1 (b,o)/\H1=H.set k (b,o')/\(rd=W8->o'=o)/\(∀main cs w,w.heap[b]?=W1 o->∃es,Xm P main (G F cs) w=.go (G F1 cs) (iJ w b o') es/\∀e∈es,xi b e)/\F1.mode=.run/\F1.kind≠.early:=by unfold Sj at h;split at h;{rename_i C b ob y hH;split at h;{rename_i n d D g;obtain⟨v,B,e⟩:=Uw.1 h;cases e;have a:=λr A=>z (r,b) (Uy.2 ⟨r,A,rfl⟩);have c:∀main cs w,w.heap[b]?=W1 ob->Xm P main (G F cs) w=.go (G (F.finish v) cs) (iJ w b d) (seen P F.fn ((Xn F.eval C).events P w #[]))/\(F.finish v).mode=.run/\(F.finish v).kind≠.early:=λmain cs w f=>C0 x u y (rU g a f).1 B;refine⟨b,ob,d,hH,rfl,λe=>by subst e;exact J7 g,λmain cs w f=>⟨_,(c main cs w f).1,Kh λe i=>?_⟩,(c W8 [] {(default:Xf)with heap:=(Array.replicate (b+1) ob)} (by simp)).2⟩;obtain⟨l,m,s⟩:=(rU g a f).2 #[];rw[m]at i;exact s e (by simpa using i)};cases h};cases h
theorem Pg(s:F.mode=.run)(q:F.kind≠.early)(h:∀c,∃r,RS P c F=W1 r):∃o,∃e:Nat->Xp,(∀c,RS P c F=W1 (e c,o))/\(∀main cs w,Xm P main (G F cs) w=.go (G (e w.heap.size) cs) (w.alloc o) #[])/\∀c,(e c).mode=.run/\(e c).kind≠.early:=by unfold RS at h⊢;cases g:BF F with|none=>obtain⟨r,b⟩:=h 0;rw[g]at b;cases b|some D=>simp only[g]at h⊢;cases l:FT P (Xn F.eval D)with|none=>obtain⟨r,b⟩:=h 0;rw[l]at b;cases b|some x=>obtain⟨ob,p⟩:=x;simp only[l]at h⊢;(have j:∀c,∃n v,eJ P (p c)=W1 n/\valOf n=W1 v:=λc=>by obtain⟨r,b⟩:=h c;obtain⟨v,j,_⟩:=Uw.1 b;obtain⟨n,a,d⟩:=UR.1 j;exact⟨n,v,a,d⟩);(have m:∀main cs(w:Xf),Xm P main (G F cs) w=.go (G (F.finish (((eJ P (p w.heap.size)).bind valOf).getD Xo)) cs) (w.alloc ob) #[]:=λmain cs w=>by obtain⟨n,v,a,d⟩:=j w.heap.size;obtain⟨B,C⟩:=JD l a;rw[(C0 s q g B d).1,C,kS,a];simp[d]);refine⟨ob,λc=>F.finish (((eJ P (p c)).bind valOf).getD Xo),λc=>?_,m,λc=>?_⟩;{obtain⟨n,v,a,d⟩:=j c;simp[a,d]};obtain⟨E,i,y,k,a,_⟩:=w9 g;obtain⟨H,z,A,f,u,t,I⟩:=F;subst a;exact⟨s,q⟩
structure Carry(P:Xz)(rd:Bool)(main:Bool)(cs:List Xp)(J:(Nat->Prop)->Xk->Xf->Prop)(Kn:(Nat->Prop)->Xf->List (Nat×XT)->Prop)(al:Prop):Prop where
 ctl:∀own v F F1,(∀w,Xm P main (G F cs) w=.go (G F1 cs) w #[])->J own (G F1 cs) v->J own (G F cs) v
 mem:∀own v H k b o o' F F1,Kn own v H->H[k]?=W1 (b,o)->(rd=W8->o'=o)->(∀w:Xf,w.heap[b]?=W1 o->∃es,Xm P main (G F cs) w=.go (G F1 cs) (iJ w b o') es/\∀e∈es,xi b e)->(∀v',Kn own v' (H.set k (b,o'))->J own (G F1 cs) v')->J own (G F cs) v
 new:al->∀own v H o F(F1:Nat->Xp),Kn own v H->(∀w:Xf,Xm P main (G F cs) w=.go (G (F1 w.heap.size) cs) (w.alloc o) #[])->(∀own' c v',Kn own' v' ((c,o)::H)->J own' (G (F1 c) cs) v')->J own (G F cs) v
theorem Carry.run{P:Xz}{J:(Nat->Prop)->Xk->Xf->Prop}{Kn:(Nat->Prop)->Xf->List (Nat×XT)->Prop}{al:Prop}(C:Carry P rd main cs J Kn al)(O:List (Nat×Xd)):∀(n:Nat)(g:List Nat)(k:Nat)(_:k≠0->al)(own:Nat->Prop)(v:Xf)(F:Xp)(H:List (Nat×XT)),F.mode=.run->F.kind≠.early->Kn own v H->(∀bs:List Nat,bs.length=k->∃r,iK P rd O n g bs F H=W1 r/\(∀p∈r.2.2.1,p.1=p.2)/\(∀p∈r.2.2.2,p.1=p.2)/\∀d t,Kn d t r.2.1->J d (G r.1 cs) t)->J own (G F cs) v|0,g,k,z,own,v,F,H,K,I,m,E=>by obtain⟨r,h,_,_,y⟩:=E (List.replicate k 0) (by simp);cases h;exact y own v m|n+1,g,k,z,own,v,F,H,K,I,m,E=>by cases a:lY P F with|some f=>obtain⟨h,u,l⟩:=kl K I a;(have R:(hint O F f).1=f:=by obtain⟨r,e,_,B,_⟩:=E (List.replicate k 0) (by simp);simp only[iK,a]at e;obtain⟨s,_,rfl⟩:=Uw.1 e;exact wu a λp a=>B p (UJ.2 (.inl a)));refine C.ctl own v F f (λw=>h main cs w) (Carry.run C O n g k z own v f H u l m λbs A=>?_);obtain⟨r,e,D,B,N⟩:=E bs A;simp only[iK,a,R]at e;obtain⟨s,M,rfl⟩:=Uw.1 e;exact⟨s,M,D,λp a=>B p (UJ.2 (.inr a)),N⟩|none=>cases g with|nil=>obtain⟨r,e,_,_,y⟩:=E (List.replicate k 0) (by simp);simp only[iK,a,UB]at e;subst e;exact y own v m|cons j g=>cases j with|zero=>(cases k with|zero=>obtain⟨r,e,_⟩:=E [] rfl;simp[iK,a]at e|succ k=>(obtain⟨o,f,h,u,l⟩:=Pg (P:=P) K I λc=>by obtain⟨r,e,_⟩:=E (c::List.replicate k 0) (by simp);simp only[iK,a]at e;cases S:RS P c F with|none=>rw[S]at e;cases e|some r=>exact⟨r,rfl⟩);refine C.new (z (by simp)) own v H o F f m (λw=>u main cs w) λd c t i=>Carry.run C O n g k (λ_=>z (by simp)) d t (f c) _ (l c).1 (l c).2 i λbs A=>?_;obtain⟨r,e,T⟩:=E (c::bs) (by simp[A]);simp only[iK,a,h c]at e;exact⟨r,e,T⟩)|succ j=>cases L:Sj P rd j F H with|none=>obtain⟨r,e,_⟩:=E (List.replicate k 0) (by simp);simp[iK,a,L]at e|some x=>obtain⟨f,W,q⟩:=x;obtain⟨b,o,V,h,rfl,u,l,y,Q⟩:=Pf K I L (by obtain⟨r,e,D,_⟩:=E (List.replicate k 0) (by simp);simp only[iK,a,L]at e;obtain⟨s,_,rfl⟩:=Uw.1 e;exactλp a=>D p (UJ.2 (.inl a)));refine C.mem own v H j b o V F f m h u (λw U=>l main cs w U) λt i=>Carry.run C O n g k z own t f _ y Q i λbs A=>?_;obtain⟨r,e,D,B,N⟩:=E bs A;simp only[iK,a,L]at e;obtain⟨s,M,rfl⟩:=Uw.1 e;exact⟨s,M,λp a=>D p (UJ.2 (.inr a)),B,N⟩
end Go.Pw
namespace Go.ab
variable{a a' b':XR}{v w:Xf}{v' x x' y y' z:Xd}{i b k n:Nat}{e:RuntimeError}{o o':XT}{P:Xz}{α β γ δ ε ζ:Type}{h:Halt}{t:Xv}{op:BinOp}{o1:XG}{lo lo' hi hi' mx':Option Xd}{f:XA}{gl:Nat->Bool}{ev ev':XG->Xd}{ops:Array X0}{rest:List Nat}{t':Array Xd}
section
abbrev bC:=Nat->Option Nat
def bC.le(r r':bC):Prop:=∀b c,r b=W1 c->r' b=W1 c
theorem bC.le_refl(r:bC):r.le r:=λ_ _ h=>h
theorem bC.le_trans{r r' r'':bC}(h:r.le r')(a:r'.le r''):r.le r'':=λb c e=>a b c (h b c e)
structure dI where
 fns:XA->Bool
 seen:Nat->Prop
 E1:Nat->Nat
 aJ:Nat
 low:Nat->Nat:=λ_=>0
def xm:Xv:=1000000007
structure Fits(P:Xz)(c:dI):Prop where
 aJ:c.aJ=P.globals.size
 bad:P.info? xm=Xh
 low:∀g,g<c.aJ->c.low g=0
def dB(c:dI)(r:bC)(a a':XR):Prop:=r a.block=W1 a'.block/\a'.off=a.off/\a'.spot=a.spot/\c.low a.block<=a.off
def Gn(c:dI):Fn->Bool
 |.func f=>c.fns f
 |_=>WI
inductive ai(c:dI)(r:bC):Xd->Xd->Prop
 |bool(b:Bool):ai c r (.bool b) (.bool b)
 |int(k:Xq)(n:Int):ai c r (.int k n) (.int k n)
 |string(s:ByteArray):ai c r (.string s) (.string s)
 |gn:ai c r (.pointer Xh) (.pointer Xh)
 |ptr{a a':XR}:dB c r a a'->ai c r (.pointer (W1 a)) (.pointer (W1 a'))
 |gv(n m:Nat):ai c r (.slice Xh n m) (.slice Xh n m)
 |slice{a a':XR}(n m:Nat):dB c r a a'->ai c r (.slice (W1 a) n m) (.slice (W1 a') n m)
 |cG(a a':XR):ai c r (.slice (W1 a) 0 0) (.slice (W1 a') 0 0)
 |kT:ai c r (.map Xh) (.map Xh)
 |map{a a':Nat}:r a=W1 a'->ai c r (.map (W1 a)) (.map (W1 a'))
 |func{fn:Fn}{x x' y y':Array Xd}:Gn c fn=W8->x.size=x'.size->(∀(i:Nat)(v v':Xd),x[i]?=W1 v->x'[i]?=W1 v'->ai c r v v')->
  y.size=y'.size->(∀(i:Nat)(v v':Xd),y[i]?=W1 v->y'[i]?=W1 v'->ai c r v v')->ai c r (.func fn x y) (.func fn x' y')
 |nilFunc:ai c r .nilFunc .nilFunc
 |nilIface:ai c r .nilIface .nilIface
 |iface(t:Xv){v v':Xd}:ai c r v v'->ai c r (.iface t v) (.iface t v')
 |agg{x x':Array Xd}:x.size=x'.size->(∀(i:Nat)(v v':Xd),x[i]?=W1 v->x'[i]?=W1 v'->ai c r v v')->ai c r (.agg x) (.agg x')
 |tuple{x x':Array Xd}:x.size=x'.size->(∀(i:Nat)(v v':Xd),x[i]?=W1 v->x'[i]?=W1 v'->ai c r v v')->ai c r (.tuple x) (.tuple x')
structure aj(c:dI)(r:bC)(x x':Array Xd):Prop where
 size:x.size=x'.size
 el:∀(i:Nat)(v v':Xd),x[i]?=W1 v->x'[i]?=W1 v'->ai c r v v'
theorem dB.mono{c:dI}{r r':bC}(h:r.le r')(x:dB c r a a'):dB c r' a a':=⟨h _ _ x.1,x.2⟩
theorem ai.mono{c:dI}{r r':bC}(h:r.le r'){v:Xd}(x:ai c r v v'):ai c r' v v':=by induction x with|bool b=>exact .bool b|int k n=>exact .int k n|string s=>exact .string s|gn=>exact .gn|ptr a=>exact .ptr (a.mono h)|gv n m=>exact .gv n m|slice n m a=>exact .slice n m (a.mono h)|cG a e=>exact .cG a e|kT=>exact .kT|map a=>exact .map (h _ _ a)|func i j _ l _ f g=>exact .func i j f l g|nilFunc=>exact .nilFunc|nilIface=>exact .nilIface|iface t _ d=>exact .iface t d|agg s _ d=>exact .agg s d|tuple s _ d=>exact .tuple s d
theorem aj.mono{c:dI}{r r':bC}(h:r.le r'){x x':Array Xd}(k:aj c r x x'):aj c r' x x':=⟨k.size,λi v d a b=>(k.el i v d a b).mono h⟩
theorem ai.sP{c:dI}{r:bC}{x x':Array Xd}(h:aj c r x x'):ai c r (.agg x) (.agg x'):=.agg h.size h.el
theorem ai.kO{c:dI}{r:bC}{x x':Array Xd}(h:aj c r x x'):ai c r (.tuple x) (.tuple x'):=.tuple h.size h.el
section rows
variable{c:dI}{r:bC}
theorem aj.get{x x':Array Xd}(h:aj c r x x'){v:Xd}(b:x[i]?=W1 v):∃d,x'[i]?=W1 d/\ai c r v d:=by have e:=(Uq.1 b).1;have a:=h.size▸e;exact⟨x'[i],Ux a,h.el i v _ b (Ux a)⟩
theorem aj.none{x x':Array Xd}(h:aj c r x x')(a:x[i]?=Option.none):x'[i]?=Option.none:=by rw[Array.getElem?_eq_none_iff]at a⊢;rw[<-h.size];exact a
theorem aj.getD{x x':Array Xd}(h:aj c r x x')(i:Nat){d d':Xd}(b:ai c r d d'):ai c r (x.getD i d) (x'.getD i d'):=by rw[Uv,Uv];cases a:x[i]? with|none=>rw[h.none a];exact b|some v=>obtain⟨f,e,k⟩:=h.get a;simp_all
theorem aj.empty:aj c r #[] #[]:=⟨rfl,λi v a h=>by simp at h⟩
theorem aj.push{x x':Array Xd}(h:aj c r x x'){v:Xd}(k:ai c r v v'):aj c r (x.push v) (x'.push v'):=by refine⟨by simp[h.size],λi u d a b=>?_⟩;rw[UX]at a b;rw[<-h.size]at b;split at a;{simp_all};rw[if_neg ‹_›]at b;exact h.el i u d a b
theorem aj.append{x x' y y':Array Xd}(h:aj c r x x')(k:aj c r y y'):aj c r (x++y) (x'++y'):=by refine⟨by simp[h.size,k.size],λi u d a b=>?_⟩;rw[Array.getElem?_append]at a b;rw[<-h.size]at b;split at a;{rw[if_pos ‹_›]at b;exact h.el i u d a b};rw[if_neg ‹_›]at b;exact k.el _ u d a b
theorem aj.set{x x':Array Xd}(h:aj c r x x')(i:Nat){v:Xd}(k:ai c r v v'):aj c r (x.setIfInBounds i v) (x'.setIfInBounds i v'):=by refine⟨by simp[h.size],λj u d a b=>?_⟩;rw[VD]at a b;split at a;{simp_all};rw[if_neg ‹_›]at b;exact h.el j u d a b
theorem aj.extract{x x':Array Xd}(h:aj c r x x')(i j:Nat):aj c r (x.extract i j) (x'.extract i j):=by refine⟨by simp[h.size],λk u d a b=>?_⟩;rw[Array.getElem?_extract]at a b;rw[<-h.size]at b;split at a;{rw[if_pos ‹_›]at b;exact h.el _ u d a b};cases a
theorem aj.single{v:Xd}(k:ai c r v v'):aj c r #[v] #[v']:=by refine⟨rfl,λi u d a b=>?_⟩;grind
theorem aj.cells{v v':Xd}(k:ai c r v v'):aj c r v.cells v'.cells:=by cases k with|agg s e=>exact⟨s,e⟩|bool b=>exact .single (.bool b)|int k n=>exact .single (.int k n)|string s=>exact .single (.string s)|gn=>exact .single .gn|ptr a=>exact .single (.ptr a)|gv n m=>exact .single (.gv n m)|cG a g=>exact .single (.cG a g)|slice n m a=>exact .single (.slice n m a)|kT=>exact .single .kT|map a=>exact .single (.map a)|func a b d e f=>exact .single (.func a b d e f)|nilFunc=>exact .single .nilFunc|nilIface=>exact .single .nilIface|iface t a=>exact .single (.iface t a)|tuple a b=>exact .single (.tuple a b)
theorem aj.map{α:Type}(l:Array α)(f f':α->Xd)(h:∀x∈l,ai c r (f x) (f' x)):aj c r (l.map f) (l.map f'):=by refine⟨by simp,λi u d a b=>?_⟩;grind
theorem fL:ai c r Xo Xo:=.tuple rfl λi v a h=>by simp at h
theorem aj.replicate(n:Nat){v:Xd}(k:ai c r v v'):aj c r (Array.replicate n v) (Array.replicate n v'):=by refine⟨by simp,λi u d a b=>?_⟩;grind
end rows
structure Fl(c:dI)(r:bC)(e e':XZ):Prop where
 key:ai c r e.key e'.key
 val:ai c r e.val e'.val
 born:e'.born=e.born
inductive l4(c:dI)(r:bC):XT->XT->Prop
 |cells{x x':Array Xd}(t:Xv)(fr:Nat×Nat):aj c r x x'->l4 c r (.cells x t fr) (.cells x' t fr)
 |map{x x':Array XZ}(k:Nat):x.size=x'.size->(∀(i:Nat)(e e':XZ),x[i]?=W1 e->x'[i]?=W1 e'->Fl c r e e')->l4 c r (.map x k) (.map x' k)
 |iter(s:ByteArray)(p:Nat):l4 c r (.stringIter s p) (.stringIter s p)
 |number{a a':XR}(l:Bool):dB c r a a'->l4 c r (.number a l) (.number a' l)
inductive qp(c:dI)(r:bC)(b:Nat):Option XT->Option XT->Prop
 |seen{x x':Array Xd}(t t':Xv)(fr:Nat×Nat):c.seen b->x.size<=c.E1 b->x.size<=x'.size->(c.low b=0->t=t')/\(c.low b≠0->t=xm/\c.aJ<=b)->(∀(i:Nat)(v v':Xd),c.low b<=i->x[i]?=W1 v->x'[i]?=W1 v'->ai c r v v')->qp c r b (W1 (.cells x t (0,x.size))) (W1 (.cells x' t' fr))
 |own{o o':XT}:¬c.seen b->l4 c r o o'->qp c r b (W1 o) (W1 o')
theorem Fl.mono{c:dI}{r r':bC}(h:r.le r'){e e':XZ}(k:Fl c r e e'):Fl c r' e e':=⟨k.key.mono h,k.val.mono h,k.born⟩
theorem l4.mono{c:dI}{r r':bC}(h:r.le r')(k:l4 c r o o'):l4 c r' o o':=by cases k with|cells t g k=>exact .cells t g (k.mono h)|map k s e=>exact .map k s λi d f a b=>(e i d f a b).mono h|iter s p=>exact .iter s p|number l a=>exact .number l (a.mono h)
theorem qp.mono{c:dI}{r r':bC}(h:r.le r'){o o':Option XT}(k:qp c r b o o'):qp c r' b o o':=by cases k with|seen t g f s l z y e=>exact .seen t g f s l z y λi v j a b d=>(e i v j a b d).mono h|own n k=>exact .own n (k.mono h)
structure cI(c:dI)(r:bC)(w v:Xf):Prop where
 qh:∀b k:Nat,r b=W1 k->b<w.heap.size
 zN:∀b k:Nat,r b=W1 k->k<v.heap.size
 inj:∀b b' k:Nat,r b=W1 k->r b'=W1 k->b=b'\/(c.seen b/\c.seen b')
 qu:∀b:Nat,¬c.seen b->c.low b=0
 hid:∀b:Nat,b<c.aJ->r b=Xh->w.heap[b]?=W1 (.cells #[] 0)
 blk:∀b k:Nat,r b=W1 k->qp c r b w.heap[b]? v.heap[k]?
 tape:v.tape=w.tape
 drawn:v.drawn=w.drawn
 old:∀b:Nat,c.seen b->b<w.heap.size
 aJ:∀b k:Nat,r b=W1 k->b<c.aJ->b=k
 iu:c.aJ<=w.heap.size/\c.aJ<=v.heap.size
structure Ext(c:dI)(r:bC)(w v:Xf)(r':bC)(w' v':Xf):Prop where
 rel:cI c r' w' v'
 le:r.le r'
 grow:w.heap.size<=w'.heap.size
 size:v'.heap.size+w.heap.size=v.heap.size+w'.heap.size
 zG:∀b:Nat,b<w.heap.size->r' b=r b
 new:∀b:Nat,w.heap.size<=b->b<w'.heap.size->r' b=W1 (v.heap.size+(b-w.heap.size))
 keep:∀k:Nat,k<v.heap.size->(∀b:Nat,r b=W1 k->c.seen b)->v'.heap[k]?=v.heap[k]?
 os:v'.os=v.os
 out:v'.output=v.output
 tape:v'.tape=v.tape
theorem Ext.refl{c:dI}{r:bC}(h:cI c r w v):Ext c r w v r w v:=⟨h,bC.le_refl r,Uo _,by omega,λ_ _=>rfl,λb _ _=>by omega,λ_ _ _=>rfl,rfl,rfl,rfl⟩
theorem Ext.trans{c:dI}{r r1 r2:bC}{w1 v1 w2 v2:Xf}(h:Ext c r w v r1 w1 v1)(k:Ext c r1 w1 v1 r2 w2 v2):Ext c r w v r2 w2 v2:=by have n:=h.size;have o:=k.size;have g:=h.grow;have m:=k.grow;refine⟨k.rel,bC.le_trans h.le k.le,UP g m,by omega,λb a=>(k.zG b (Up a g)).trans (h.zG b a),λb a f=>?_,λj l i=>?_,k.os.trans h.os,k.out.trans h.out,k.tape.trans h.tape⟩;{rcases U1 b w1.heap.size with e|d;{exact k.le _ _ (h.new b a e)};rw[k.new b d f];grind};rw[k.keep j Ω (λb a=>?_),h.keep j l i];refine i b ?_;rcases U1 b w.heap.size with e|d;{rw[<-h.zG b e];exact a};have:=h.rel.qh b j a;rw[h.new b d this]at a;grind
def ru(c:dI)(r:bC)(e:XU):Prop:=
 (∃b:Nat,(match e.loc with|.cell a=>r b=W1 a.block/\(c.seen b->a.off<c.E1 b/\a.spot=Xh)|.obj k=>r b=W1 k/\¬c.seen b|_=>False)/\(e.write=W8->¬c.seen b)/\e.sync=WI)\/e.loc=.mark .noRoom\/∃f,e.loc=.mark (.extern f)
theorem ru.mono{c:dI}{r r':bC}(h:r.le r'){e:XU}(x:ru c r e):ru c r' e:=by rcases x with⟨b,a,d⟩|x;{refine .inl ⟨b,?_,d⟩;revert a;cases e.loc<;>simp only[imp_self]<;>exactλx=>⟨h _ _ x.1,x.2⟩};exact .inr x
end
section
variable{c:dI}{r:bC}
def AG:Halt->Bool
 |.unsupported (.initOrder _)=>WI
 |.panic _|.stuck _|.unsupported _=>W8
 |_=>WI
def Out(P:Xz)(c:dI)(r:bC)(w v:Xf)(s:XN β)(Q:bC->α->β->Prop):XS α->Prop
 |.ok a w'=>∃b v' r',s.run P v=.ok b v'/\Ext c r w v r' w' v'/\Q r' a b/\∀e∈s.events P v #[],ru c r' e
 |.halt h _=>AG h=W8
def ab(P:Xz)(c:dI)(r:bC)(x:XN α)(y:XN β)(Q:bC->α->β->Prop):Prop:=∀w v,cI c r w v->Out P c r w v y Q (x.run P w)
theorem ab.mono{x:XN α}{y:XN β}{Q Q':bC->α->β->Prop}(h:ab P c r x y Q)(k:∀d a b,r.le d->Q d a b->Q' d a b):ab P c r x y Q':=by intro w v l;have:=h w v l;cases f:x.run P w with|halt _ _=>rw[f]at this;exact this|ok a n=>rw[f]at this;obtain⟨b,m,d,g,e,i,j⟩:=this;exact⟨b,m,d,g,e,k _ _ _ e.le i,j⟩
theorem ab.bind{x:XN α}{y:XN β}{f:α->XN γ}{g:β->XN δ}{Q:bC->α->β->Prop}{Q':bC->γ->δ->Prop}(h:ab P c r x y Q)(k:∀l a b,r.le l->Q l a b->ab P c l (f a) (g b) Q'):ab P c r (x>>=f) (y>>=g) Q':=by intro w v t;have i:=h w v t;rw[XN.run_bind];cases p:x.run P w with|halt _ _=>rw[p]at i;exact i|ok a m=>rw[p]at i;obtain⟨b,F,D,s,n,B,A⟩:=i;have j:=k D a b n.le B m F n.rel;show Out P c r w v (y>>=g) Q' ((f a).run P m);cases o:(f a).run P m with|halt _ _=>rw[o]at j;exact j|ok z J=>rw[o]at j;obtain⟨u,G,E,H,q,C,I⟩:=j;refine⟨u,G,E,?_,n.trans q,C,λe d=>?_⟩;{simp_all};rw[XN.events_bind,s,XS.evThen_ok,XN.events_acc]at d;rcases UY.1 d with d|d;{exact(A e d).mono q.le};simp_all
theorem ab.pure{a:α}{b:β}{Q:bC->α->β->Prop}(h:Q r a b):ab P c r (Pure.pure a) (Pure.pure b) Q:=λ_ v f=>⟨b,v,r,rfl,.refl f,h,λe d=>by simp at d⟩
theorem ab.halt{y:XN β}{Q:bC->α->β->Prop}(a:AG h=W8:=by rfl):ab P c r (XN.halt h) y Q:=λ_ _ _=>a
theorem ab.stuck{s:String}{y:XN β}{Q:bC->α->β->Prop}:ab P c r (Go.stuck s:XN α) y Q:=λ_ _ _=>rfl
theorem ab.unsupported{u:Unsupported}{y:XN β}{Q:bC->α->β->Prop}(a:AG (.unsupported u)=W8:=by rfl):ab P c r (Go.unsupported u:XN α) y Q:=λ_ _ _=>a
theorem ab.never{x:XN α}{y:XN β}{Q:bC->α->β->Prop}(h:∀w,∃k w',x.run P w=.halt k w'/\AG k=W8):ab P c r x y Q:=by intro w v _;obtain⟨k,w',e,a⟩:=h w;rw[e];exact a
theorem ab.ite{b:Prop}[Decidable b]{x x':XN α}{y y':XN β}{Q:bC->α->β->Prop}(h:b->ab P c r x y Q)(a:¬b->ab P c r x' y' Q):ab P c r (if b then x else x') (if b then y else y') Q:=by by_cases e:b;{rw[if_pos e,if_pos e];exact h e};rw[if_neg e,if_neg e];exact a e
def bV(P:Xz)(q:α->Prop):XN α->Prop
 |.pure a=>q a
 |.choose _ k=>∀n,bV P q (k n)
 |.program k=>bV P q (k P)
 |.mark m k=>m=.noRoom/\bV P q k
 |.halt h=>AG h=W8
 |_=>False
abbrev lC(P:Xz):XN α->Prop:=bV P λ_=>True
theorem bV.bind{q:α->Prop}{q':β->Prop}{x:XN α}{f:α->XN β}(h:bV P q x)(k:∀a,q a->bV P q' (f a)):bV P q' (x>>=f):=by induction x with|pure a=>exact k a h|choose _ g b=>exactλn=>b n (h n)|program g b=>exact b P h|mark m g b=>exact⟨h.1,b h.2⟩|halt z=>exact h|load _ _ _ _=>exact h.elim|store _ _ _ _ _=>exact h.elim|new _ _ _=>exact h.elim|shape _ _ _=>exact h.elim|freeze _ _ _ _=>exact h.elim|frozen _ _ _=>exact h.elim|getObj _ _ _=>exact h.elim|setObj _ _ _ _=>exact h.elim|sys _ _ _=>exact h.elim
theorem lC.bind{q':β->Prop}{x:XN α}{f:α->XN β}(h:lC P x)(k:∀a,bV P q' (f a)):bV P q' (x>>=f):=bV.bind h λa _=>k a
def QI(P:Xz)(q:α->Prop)(x:XN α)(w v:Xf):Prop:=
 (∃a d,q a/\x.run P w=.ok a {w with drawn:=d}/\x.run P v=.ok a {v with drawn:=d}/\∀e∈x.events P v #[],e.loc=.mark .noRoom)\/∃h w',x.run P w=.halt h w'/\AG h=W8
theorem bV.run{q₀:α->Prop}{x:XN α}(h:bV P q₀ x):∀(w v:Xf),v.tape=w.tape->v.drawn=w.drawn->QI P q₀ x w v:=by induction x with|pure a=>exactλw v _ f=>.inl ⟨a,w.drawn,h,rfl,by rw[<-f];rfl,λe l=>by simp at l⟩|choose q g j=>intro w v i f;have t:∀u:Xf,(XN.choose q g).run P u=if q.forced then(g 0).run P u else(g (q.cut (u.tape u.drawn q))).run P {u with drawn:=u.drawn+1}:=λ_=>rfl;(have y:∀u:Xf,(XN.choose q g).events P u #[]=if q.forced then(g 0).events P u #[]else(g (q.cut (u.tape u.drawn q))).events P {u with drawn:=u.drawn+1} #[]:=λu=>by simp only[XN.events,XN.runT];grind);unfold QI;simp only[t,y];by_cases s:q.forced=W8;{simp only[s];exact j 0 (h 0) w v i f};obtain⟨B,F,E,C,D⟩:=v;rcases j (q.cut (w.tape w.drawn q)) (h _) {w with drawn:=w.drawn+1} ⟨B,w.tape,w.drawn+1,C,D⟩ rfl rfl with⟨a,d,n,o,p,A⟩|x;{simp_all};simp_all|program g j=>exactλw v i f=>j P h w v i f|mark m g j=>intro w v i f;rcases j h.2 w v i f with⟨a,d,n,o,p,A⟩|x;{refine .inl ⟨a,d,n,o,p,λe l=>?_⟩;have k:e∈g.events P v (#[].push ⟨.mark m,WI,W8⟩):=l;rw[XN.events_acc]at k;rcases UY.1 k with x|x;{simp at x;rw[x,h.1]};simp_all};exact .inr x|halt z=>exactλw _ _ _=>.inr ⟨z,w,rfl,h⟩|load _ _ _ _=>exact h.elim|store _ _ _ _ _=>exact h.elim|new _ _ _=>exact h.elim|shape _ _ _=>exact h.elim|freeze _ _ _ _=>exact h.elim|frozen _ _ _=>exact h.elim|getObj _ _ _=>exact h.elim|setObj _ _ _ _=>exact h.elim|sys _ _ _=>exact h.elim
theorem cI.BK(h:cI c r w v)(d:Nat):cI c r {w with drawn:=d} {v with drawn:=d}:=⟨h.qh,h.zN,h.inj,h.qu,h.hid,h.blk,h.tape,rfl,h.old,h.aJ,h.iu⟩
theorem ab.e8{q:α->Prop}{x:XN α}(h:bV P q x):ab P c r x x λ_ a b=>b=a/\q a:=by intro w v f;rcases h.run w v f.tape f.drawn with⟨a,d,g,i,j,l⟩|⟨k,s,e,p⟩;{rw[i];refine⟨a,_,r,j,?_,⟨rfl,g⟩,λe o=>.inr (.inl (l e o))⟩;exact⟨f.BK d,bC.le_refl r,Uo _,rfl,λ_ _=>rfl,λb m n=>absurd n (Nat.not_lt.2 m),λ_ _ _=>rfl,rfl,rfl,rfl⟩};rw[e];exact p
theorem ab.cQ{x:XN α}(h:lC P x):ab P c r x x λ_ a b=>b=a:=(ab.e8 h).mono λ_ _ _ _ h=>h.1
theorem vb(a:α):lC P (Pure.pure a):=trivial
theorem lz:lC P program:=trivial
theorem iC(q:X3):lC P (choose q):=λ_=>trivial
theorem dJ(t:Xv):lC P (typeInfo t):=by refine lC.bind lz λp=>?_;split<;>first|trivial|exact rfl
theorem aE(t:Xv):lC P (underlying t):=by refine lC.bind lz λp=>?_;split<;>first|trivial|exact rfl
theorem bA(t:Xv):lC P (sizeOf t):=(dJ t).bind λ_=>trivial
theorem oC(t:Xv):lC P (isAgg t):=(aE t).bind λd=>by split<;>first|trivial|exact rfl
theorem pN(n:Nat):lC P (askRoom n):=by unfold askRoom;split;{exact⟨rfl,trivial⟩};trivial
end
section
variable{c:dI}{r:bC}
theorem cI.at(h:cI c r w v)(b:dB c r a a'):qp c r a.block w.heap[a.block]? v.heap[a'.block]?:=h.blk _ _ b.1
theorem cI.cell(h:cI c r w v)(g:dB c r a a')(b:w.cell? a=W1 x):∃y,v.cell? a'=W1 y/\ai c r x y:=by have d:=h.at g;obtain⟨_,m,o,i⟩:=g;unfold Xf.cell? at b⊢;generalize q:w.heap[a.block]?=C at d b;generalize p:v.heap[a'.block]?=B at d;cases d with|@seen z D t A j s l u _ e=>grind|own n k=>cases k with|cells t j k=>simp only[o,m]at b⊢;split at b;{cases b};rename_i f;rw[if_neg f];exact k.get b|map _ _ _=>cases b|iter _ _=>cases b|number _ _=>cases b
theorem cI.Un(h:cI c r w v)(g:dB c r a a')(_:w.cell? a=Xh)(d:Bool):∃k,w.farLoad P a d=.error k/\AG k=W8:=by have f:=h.at g;unfold Xf.farLoad;generalize b:w.heap[a.block]?=p at f;generalize i:v.heap[a'.block]?=o at f;cases f with|seen t m j s l _ _ e=>exact⟨_,rfl,by simp only[Xf.noCell,b];rfl⟩|own n k=>cases k<;>exact⟨_,rfl,by simp only[Xf.noCell,b];rfl⟩
theorem cI.within(h:cI c r w v)(f:dB c r a a')(b:w.cell? a=W1 x):c.seen a.block->a'.off<c.E1 a.block/\a'.spot=Xh:=by intro u;have d:=h.at f;obtain⟨_,q,i,-⟩:=f;unfold Xf.cell? at b;generalize m:w.heap[a.block]?=A at d b;generalize j:v.heap[a'.block]?=z at d;cases d with|seen t y o s l _ _ e=>simp only at b;split at b;{cases b};have p:=(Uq.1 b).1;exact⟨by omega,by simp_all⟩|own n k=>simp_all
theorem ab.load(d:dB c r a a'):ab P c r (load a) (load a') (ai c):=by intro w v f;unfold Go.load;cases b:w.cell? a with|none=>obtain⟨k,e,j⟩:=f.Un (P:=P) d b (Mode.plain==Mode.atomic);(have:(XN.load .plain a XN.pure).run P w=.halt k w:=by simp only[XN.run,b,e]);rw[this];exact j|some x=>obtain⟨y,i,k⟩:=f.cell d b;(have:(XN.load .plain a XN.pure).run P w=.ok x w:=by simp only[XN.run,b]);rw[this];refine⟨y,v,r,by simp only[XN.run,i],.refl f,k,λe g=>?_⟩;(have h:(XN.load .plain a' XN.pure).events P v #[]=#[⟨.cell a',WI,WI⟩]:=by simp only[XN.events,XN.runT,i];rfl);rw[h]at g;simp at g;subst g;exact .inl ⟨a.block,⟨d.1,f.within d b⟩,by simp,rfl⟩
theorem cI.w6(h:cI c r w v)(j:dB c r a a')(b:w.cell? a=W1 x)(g:w.frozen? a=WI):∃(z i:Array Xd)(t:Xv)(d:Nat×Nat),¬c.seen a.block/\w.heap[a.block]?=W1 (.cells z t d)/\v.heap[a'.block]?=W1 (.cells i t d)/\aj c r z i/\a.spot.isSome=WI:=by have f:=h.at j;unfold Xf.cell? at b;unfold Xf.frozen? at g;generalize o:w.heap[a.block]?=u at f b g;generalize m:v.heap[a'.block]?=q at f;cases f with|seen t p d s l _ _ e=>simp_all|own n k=>cases k with|cells t d k=>grind|map _ _ _=>cases b|iter _ _=>cases b|number _ _=>cases b
theorem heap_setCell(w:Xf)(a:XR)(x:Xd):(w.setCell a x).heap.size=w.heap.size:=by simp[Xf.setCell]
theorem lR(w:Xf)(a:XR)(x:Xd)(h:b≠a.block):(w.setCell a x).heap[b]?=w.heap[b]?:=by simp[Xf.setCell,Ve,Ne.symm h]
theorem lM(w:Xf)(x:Xd){z:Array Xd}{fr:Nat×Nat}(h:w.heap[a.block]?=W1 (.cells z t fr))(b:a.spot.isSome=WI):(w.setCell a x).heap[a.block]?=W1 (.cells (z.setIfInBounds a.off x) t fr):=by simp[Xf.setCell,Ve,h,b]
theorem Ext.RZ{w' v':Xf}(h:cI c r w v)(p:r b=W1 k)(q:¬c.seen b)(D:w'.heap[b]?=W1 o)(C:v'.heap[k]?=W1 o')(A:l4 c r o o')(f:w'.heap.size=w.heap.size)(i:v'.heap.size=v.heap.size)(m:∀j,j≠b->w'.heap[j]?=w.heap[j]?)(s:∀j,j≠k->v'.heap[j]?=v.heap[j]?)(n:v'.tape=v.tape)(t:w'.tape=w.tape)(u:v'.drawn=w'.drawn)(y:v'.os=v.os)(z:v'.output=v.output):Ext c r w v r w' v':=by refine⟨⟨λj l a=>f▸h.qh j l a,λj l a=>i▸h.zN j l a,h.inj,h.qu,λj a B=>by rw[m j (λe=>by simp_all)];exact h.hid j a B,λj l a=>?_,by rw[n,t,h.tape],u,λj a=>by rw[f];exact h.old j a,h.aJ,by rw[f,i];exact h.iu⟩,bC.le_refl r,by omega,by omega,λ_ _=>rfl,λj _ _=>by omega,λl F E=>?_,y,z,n⟩;{by_cases d:j=b;{subst d;rw[p]at a;cases a;rw[D,C];exact .own q A};have g:l≠k:=λe=>d ((h.inj _ _ _ (e▸a) p).resolve_right λx=>q x.2);rw[m j d,s l g];exact h.blk j l a};grind
theorem ai.one(h:ai c r x y):y.oneCell'=x.oneCell':=by cases h<;>rfl
theorem ab.store(b:dB c r a a')(q:ai c r x y):ab P c r (store a x) (store a' y) λ_ _ _=>True:=by intro w v f;unfold Go.store;by_cases B:x.oneCell'=W8;{(have C:y.oneCell'=W8:=by rw[q.one,B]);(have e:∀(u:Xf)(p:XR)(z:Xd),z.oneCell'=W8->(XN.store .plain p z (.pure ())).run P u=match u.cell? p with|some _=>if u.frozen? p then .halt (.unsupported (.unsafePointer "a write to bytes that a string shares")) u else .ok () (u.setCell p z)|none=>match u.farStore P p z WI with|.ok (U,_)=>.ok () U|.error h=>.halt h u:=by intro u p z H;cases z<;>first|(simp[Xd.oneCell']at H;done)|(rfl));rw[e w a x B];cases L:w.cell? a with|none=>have D:=f.at b;(have:∃k,w.farStore P a x WI=.error k/\AG k=W8:=by unfold Xf.farStore;generalize o:w.heap[a.block]?=Y at D;generalize S:v.heap[a'.block]?=X at D;cases D with|seen t W K s l _ _ e=>exact⟨_,rfl,by simp only[Xf.noCell,o];rfl⟩|own n k=>cases k<;>exact⟨_,rfl,by simp only[Xf.noCell,o];rfl⟩);obtain⟨k,N,Q⟩:=this;simp only[N];exact Q|some Z=>simp only;cases A:w.frozen? a with|true=>rfl|false=>obtain⟨z,z',t,K,d,I,J,H,i⟩:=f.w6 b L A;obtain⟨y0,T,_⟩:=f.cell b L;(have m:a'.spot.isSome=WI:=by rw[b.2.2.1];exact i);(have O:v.frozen? a'=WI:=by unfold Xf.frozen? at A⊢;rw[I]at A;rw[J];simp only[b.2.1];exact A);have g:=H.set a.off q;refine⟨(),v.setCell a' y,r,?_,?_,trivial,λV E=>?_⟩;{simp_all};{refine Ext.RZ f b.1 d (lM w x I i) (lM v y J m) ?_ (heap_setCell _ _ _) (heap_setCell _ _ _) (λj G=>lR w a x G) (λj G=>lR v a' y G) rfl rfl f.drawn rfl rfl;rw[b.2.1];exact .cells t K g};(have F:(XN.store .plain a' y (.pure ())).events P v #[]=#[⟨.cell a',W8,WI⟩]:=by have:=events_store P v #[] a' y .plain C;unfold Go.store at this;simp_all);rw[F]at E;simp at E;subst E;exact .inl ⟨a.block,⟨b.1,λR=>absurd R d⟩,λ_=>d,rfl⟩};refine ab.never (P:=P) (c:=c) (r:=r) (λu=>?_) w v f;cases x<;>first|(simp[Xd.oneCell']at B;done)|exact⟨_,_,rfl,rfl⟩
def bC.add(r:bC)(b k:Nat):bC:=λj=>if j=b then W1 k else r j
theorem Ext.alloc(h:cI c r w v)(n:l4 c r o o'):Ext c r w v (r.add w.heap.size v.heap.size) {w with heap:=w.heap.push o} {v with heap:=v.heap.push o'}:=by have p:=λx=>UG _ (h.old _ x);(have f:r.le (r.add w.heap.size v.heap.size):=by intro b k a;have:=h.qh b k a;unfold bC.add;grind);refine⟨⟨λb k a=>?_,λb k a=>?_,λb q k a d=>?_,h.qu,λb i a=>?_,λb k a=>?_,h.tape,h.drawn,λb a=>by have:=h.old b a;simp;omega,λb k a i=>?_,by have:=h.iu;simp;omega⟩,f,by simp,by simp;omega,λb a=>by unfold bC.add;grind,λb a d=>?_,λk s _=>?_,rfl,rfl,rfl⟩;{unfold bC.add at a;simp;split at a;{omega};have:=h.qh b k a;omega};{unfold bC.add at a;simp;split at a;{simp_all};have:=h.zN b k a;omega};{unfold bC.add at a d;split at a<;>split at d;{omega};{cases a;have:=h.zN _ _ d;omega};{cases d;have:=h.zN _ _ a;omega};exact h.inj _ _ _ a d};{have m:=Up i h.iu.1;unfold bC.add at a;rw[if_neg Ω]at a;rw[UX,if_neg Ω];exact h.hid b i a};{unfold bC.add at a;split at a;{rename_i e;subst e;cases a;simp only[Array.getElem?_push_size];exact .own p (n.mono f)};have j:=h.qh b k a;have l:=h.zN b k a;rw[XF j,XF l,<-Ux j,<-Ux l];exact(h.blk b k a).mono f};{unfold bC.add at a;have:=h.iu;split at a;{omega};exact h.aJ b k a i};{unfold bC.add;grind};grind
theorem bC.H3(r:bC)(b k:Nat):r.add b k b=W1 k:=by unfold bC.add;simp
theorem ab.newObj(f:l4 c r o o'):ab P c r (newObj o) (newObj o') λg b d=>g b=W1 d/\c.low b=0:=by intro w v a;refine⟨v.heap.size,_,_,rfl,Ext.alloc a f,⟨bC.H3 _ _ _,a.qu _ λx=>UG _ (a.old _ x)⟩,λe h=>?_⟩;simp_all
theorem ab.newRow{x x':Array Xd}(h:aj c r x x'):ab P c r (newRow t x) (newRow t x') (dB c):=by refine ab.bind (ab.newObj (.cells t (0,0) h)) λe b d _ a=>ab.pure ⟨a.1,rfl,rfl,Vq a.2⟩
theorem ab.newVar(h:ai c r x x'):ab P c r (newVar t x) (newVar t x') (dB c):=ab.newRow (aj.cells h)
theorem dB.add{a a':XR}(h:dB c r a a')(n:Nat):dB c r (a.add n) (a'.add n):=by unfold XR.add;split;{exact h};exact⟨h.1,by simp[h.2.1],rfl,UP h.2.2.2 (U4 _ _)⟩
theorem ab.loadCellsFrom(n:Nat):∀{r:bC}{a a':XR}(i:Nat){acc acc':Array Xd},dB c r a a'->aj c r acc acc'->ab P c r (loadCellsFrom a i n acc) (loadCellsFrom a' i n acc') (aj c):=by induction n with|zero=>intro r a a' i acc acc' e b;exact ab.pure b|succ n g=>intro r a a' i acc acc' e b;exact ab.bind (ab.load (e.add i)) λh x j d f=>g (i+1) (e.mono d) ((b.mono d).push f)
theorem ab.loadCells(b:dB c r a a')(n:Nat):ab P c r (loadCells a n) (loadCells a' n) (aj c):=ab.loadCellsFrom n 0 b .empty
theorem ab.F7(i:Fits P c){g:Nat}(b:g<c.aJ)(o:Nat):ab P c r (Go.load ⟨g,o,Xh⟩) (Go.load ⟨g,o,Xh⟩) (ai c):=by intro w v f;cases d:r g with|some k=>obtain rfl:=f.aJ g k d b;exact ab.load ⟨d,rfl,rfl,UP (Vq (i.low g b)) (UF _)⟩ w v f|none=>have h:=f.hid g b d;(have e:(Go.load ⟨g,o,Xh⟩).run P w=.halt (.stuck "load: no such cell") w:=by simp[XN.run,Xf.cell?,Xf.farLoad,Xf.noCell,h]);rw[e];exact rfl
theorem ab.tv(f:Fits P c){g:Nat}(h:g<c.aJ)(n:Nat):∀{r:bC}(i:Nat){acc acc':Array Xd},aj c r acc acc'->ab P c r (Go.loadCellsFrom ⟨g,0,Xh⟩ i n acc) (Go.loadCellsFrom ⟨g,0,Xh⟩ i n acc') (aj c):=by induction n with|zero=>intro r i acc acc' a;exact ab.pure a|succ n k=>intro r i acc acc' a;(have e:(⟨g,0,Xh⟩:XR).add i=⟨g,0+i,Xh⟩:=by unfold XR.add;simp_all);unfold Go.loadCellsFrom;rw[e];exact ab.bind (ab.F7 f h _) λl x m b j=>k (i+1) ((a.mono b).push j)
theorem ab.G1(a:Fits P c){g:Nat}(d:g<c.aJ)(t:Xv):ab P c r (Go.loadVar t ⟨g,0,Xh⟩) (Go.loadVar t ⟨g,0,Xh⟩) (ai c):=by refine ab.bind (ab.cQ (oC t)) λp b f k h=>?_;subst h;cases f with|false=>exact ab.F7 a d 0|true=>refine ab.bind (ab.cQ (bA t)) λq n o l i=>?_;subst i;exact ab.bind (ab.tv a d _ 0 .empty) λs x u m j=>ab.pure (.sP j)
theorem ab.storeCells:∀{r:bC}{a a':XR}{l l':List Xd}(i:Nat),dB c r a a'->aj c r l.toArray l'.toArray->ab P c r (storeCells a l i) (storeCells a' l' i) λ_ _ _=>True|r,a,a',[],[],i,b,h=>ab.pure trivial|r,a,a',[],_::_,i,b,h=>by have:=h.size;grind|r,a,a',_::_,[],i,b,h=>by have:=h.size;grind|r,a,a',x::l,g::l',i,b,h=>by refine ab.bind (ab.store (b.add i) (h.el 0 x g Θ Θ)) λm _ _ d _=>?_;refine ab.storeCells (i+1) (b.mono d) ((⟨?_,λj u f k e=>?_⟩:aj c r l.toArray l'.toArray).mono d);{have:=h.size;simp_all};exact h.el (j+1) u f (by simp_all) (by simp_all)
theorem ab.loadVar(t:Xv)(d:dB c r a a'):ab P c r (loadVar t a) (loadVar t a') (ai c):=by refine ab.bind (ab.cQ (oC t)) λm g e b h=>?_;subst h;cases e with|false=>exact ab.load (d.mono b)|true=>refine ab.bind (ab.cQ (bA t)) λo n l f i=>?_;subst i;exact ab.bind (ab.loadCells ((d.mono b).mono f) _) λp x q k j=>ab.pure (.sP j)
theorem ab.storeVar(t:Xv)(j:dB c r a a')(h:ai c r x x'):ab P c r (storeVar t a x) (storeVar t a' x') λ_ _ _=>True:=by refine ab.bind (ab.cQ (bA t)) λg n d f k=>?_;subst k;have l:=(aj.cells h).size;have b:ab P c g (Go.storeCells a x.cells.toList) (Go.storeCells a' x'.cells.toList) λ_ _ _=>True:=ab.storeCells 0 (j.mono f) (by simpa using(aj.cells h).mono f);rw[<-l];by_cases e:x.cells.size≠d;{rw[if_pos e,if_pos e];exactλ_ _ _=>rfl};rw[if_neg e,if_neg e];exact b
theorem ab.getObj{b':Nat}(D:r b=W1 b'){k:XT->XN α}{k':XT->XN β}{Q:bC->α->β->Prop}(G:∀o o',¬c.seen b->l4 c r o o'->(∀x t f,o≠.cells x t f)->ab P c r (k o) (k' o') Q):ab P c r (getObj b>>=k) (getObj b'>>=k') Q:=by intro w v E;have F:=E.blk b b' D;rw[XN.run_bind];(have C:∀(u:Xf)(j:Nat),(Go.getObj j).run P u=match u.heap[j]? with|some (.cells ..)=>.halt (.stuck "getObj: a row of cells") u|some o=>.ok o u|none=>.halt (.stuck "getObj: no such block") u:=by intro u j;unfold Go.getObj;simp only[XN.run];rfl);rw[C];generalize O:w.heap[b]?=U at F;generalize g:v.heap[b']?=T at F;cases F with|seen _ _ _ _ _ _ _ _=>exact rfl|own n N=>rename_i o o';cases N with|cells t S _=>exact rfl|map R L M=>have:=G _ _ n (.map R L M) (λ_ _ _ h=>by cases h) w v E;revert this;show Out P c r w v _ Q ((k _).run P w)->Out P c r w v _ Q ((k _).run P w);(cases(k _).run P w with|halt _ _=>exactλh=>h|ok a J=>rintro⟨q,B,A,H,i,z,I⟩;refine⟨q,B,A,by simp_all,i,z,λe d=>?_⟩;rw[XN.events_bind,C,g]at d;(have y:(Go.getObj b').events P v #[]=#[⟨.obj b',WI,WI⟩]:=by simp[Go.getObj,XN.events,XN.runT,g,XT.isChan,-XN.runT_eq]);simp only[XS.evThen_ok]at d;rw[XN.events_acc,y]at d;rcases UY.1 d with d|d;{simp at d;subst d;exact .inl ⟨b,⟨i.le _ _ D,n⟩,by simp,rfl⟩};simp_all)|iter s p=>have:=G _ _ n (.iter s p) (λ_ _ _ h=>by cases h) w v E;revert this;show Out P c r w v _ Q ((k _).run P w)->Out P c r w v _ Q ((k _).run P w);(cases(k _).run P w with|halt _ _=>exactλh=>h|ok a J=>rintro⟨q,B,A,H,i,z,I⟩;refine⟨q,B,A,by simp_all,i,z,λe d=>?_⟩;rw[XN.events_bind,C,g]at d;(have y:(Go.getObj b').events P v #[]=#[⟨.obj b',WI,WI⟩]:=by simp[Go.getObj,XN.events,XN.runT,g,XT.isChan,-XN.runT_eq]);simp only[XS.evThen_ok]at d;rw[XN.events_acc,y]at d;rcases UY.1 d with d|d;{simp at d;subst d;exact .inl ⟨b,⟨i.le _ _ D,n⟩,by simp,rfl⟩};simp_all)|number l K=>have:=G _ _ n (.number l K) (λ_ _ _ h=>by cases h) w v E;revert this;show Out P c r w v _ Q ((k _).run P w)->Out P c r w v _ Q ((k _).run P w);cases(k _).run P w with|halt _ _=>exactλh=>h|ok a J=>rintro⟨q,B,A,H,i,z,I⟩;refine⟨q,B,A,by simp_all,i,z,λe d=>?_⟩;rw[XN.events_bind,C,g]at d;(have y:(Go.getObj b').events P v #[]=#[⟨.obj b',WI,WI⟩]:=by simp[Go.getObj,XN.events,XN.runT,g,XT.isChan,-XN.runT_eq]);simp only[XS.evThen_ok]at d;rw[XN.events_acc,y]at d;rcases UY.1 d with d|d;{simp at d;subst d;exact .inl ⟨b,⟨i.le _ _ D,n⟩,by simp,rfl⟩};simp_all
theorem ab.setObj{b':Nat}(i:r b=W1 b')(z:¬c.seen b)(A:l4 c r o o')(I:o.isChan=WI):ab P c r (setObj b o) (setObj b' o') λ_ _ _=>True:=by intro w v k;have m:=k.blk b b' i;(have C:∀(u:Xf)(j:Nat)(o:XT),(Go.setObj j o).run P u=match u.heap[j]? with|some (.cells ..)=>.halt (.stuck "setObj: a row of cells") u|some _=>.ok () {u with heap:=u.heap.setIfInBounds j o}|none=>.halt (.stuck "setObj: no such block") u:=by intro u j o;rfl);rw[C];have n:=k.qh b b' i;have y:=k.zN b b' i;(have E:o'.isChan=WI:=by cases A<;>rfl);generalize H:w.heap[b]?=K at m;generalize g:v.heap[b']?=J at m;(have d:∀q,v.heap[b']?=W1 q->(∀x t f,q≠.cells x t f)->q.isChan=WI->Out P c r w v (Go.setObj b' o') (λ_ _ _=>True) (.ok () {w with heap:=w.heap.setIfInBounds b o}):=by intro q F G B;refine⟨(),{v with heap:=v.heap.setIfInBounds b' o'},r,?_,?_,trivial,λe p=>?_⟩;{simp_all};{exact Ext.RZ k i z (by simp[n]) (by simp[y]) A Θ Θ (λj s=>UQ (Ne.symm s)) (λj s=>UQ (Ne.symm s)) rfl rfl k.drawn rfl rfl};(have D:(Go.setObj b' o').events P v #[]=#[⟨.obj b',W8,WI⟩]:=by unfold Go.setObj;simp only[XN.events,XN.runT,F];simp_all);rw[D]at p;simp at p;subst p;exact .inl ⟨b,⟨i,z⟩,λ_=>z,rfl⟩);cases m with|seen _ _ _ x _ _ _ _=>rfl|own _ h=>cases h with|cells _ _ _=>exact rfl|map _ _ _=>exact d _ g (λ_ _ _ h=>by cases h) rfl|iter _ _=>exact d _ g (λ_ _ _ h=>by cases h) rfl|number _ _=>exact d _ g (λ_ _ _ h=>by cases h) rfl
end
section
variable{c:dI}{r:bC}
def Flat(v:Xd):Prop:=∀(c:dI)(r:bC),ai c r v v
theorem Flat.int(k:Xq)(n:Int):Flat (.int k n):=λ_ _=>.int k n
theorem Flat.bool(b:Bool):Flat (.bool b):=λ_ _=>.bool b
theorem Flat.string(s:ByteArray):Flat (.string s):=λ_ _=>.string s
def jW:Nat->Xd->Bool
 |0,_=>WI
 |_+1,.bool _|_+1,.int _ _|_+1,.string _|_+1,.pointer Xh|_+1,.slice Xh _ _|_+1,.map Xh|_+1,.nilFunc|_+1,.nilIface=>W8
 |n+1,.agg x|n+1,.tuple x=>x.all (jW n)
 |_,_=>WI
theorem iA:∀{n:Nat}{v:Xd},jW n v=W8->Flat v|0,_,h=>by simp[jW]at h|n+1,v,h=>by intro c r;cases v with|bool b=>exact .bool b|int k n=>exact .int k n|float _ _=>simp[jW]at h|complex _ _ _=>simp[jW]at h|string s=>exact .string s|pointer a=>(cases a with|none=>exact .gn|some _=>simp[jW]at h)|slice a n m=>(cases a with|none=>exact .gv n m|some _=>simp[jW]at h)|map a=>(cases a with|none=>exact .kT|some _=>simp[jW]at h)|chan _=>simp[jW]at h|func _ _ _=>simp[jW]at h|nilFunc=>exact .nilFunc|iface _ _=>simp[jW]at h|nilIface=>exact .nilIface|agg x=>simp only[jW,Array.all_eq_true]at h;refine .agg rfl λi v f a b=>?_;rw[a]at b;cases b;obtain⟨e,rfl⟩:=Uq.1 a;exact iA (h i e) c r|tuple x=>simp only[jW,Array.all_eq_true]at h;refine .tuple rfl λi v f a b=>?_;rw[a]at b;cases b;obtain⟨e,rfl⟩:=Uq.1 a;exact iA (h i e) c r
theorem ab.flat{x:XN Xd}(h:bV P Flat x):ab P c r x x (ai c):=(ab.e8 h).mono λd a b _⟨e,h⟩=>by subst e;exact h c d
theorem bQ:bV P (λp=>p=P) program:=rfl
theorem jM(t:Xv):bV P (λi=>P.info? t=W1 i) (typeInfo t):=by refine bV.bind bQ λp a=>?_;subst a;cases h:p.info? t with|none=>exact rfl|some i=>exact rfl
theorem sL(t:Xv)(a:∀z,(P.info? t).bind (·.zero)=W1 z->Flat z):bV P Flat (zeroValue t):=by refine bV.bind (jM t) λi b=>?_;cases h:i.zero with|none=>exact rfl|some v=>exact a v (by grind)
theorem nH(a:BinOp)(k:Xq)(x y:Int):bV P Flat (Op.intArith a k x y):=by unfold Op.intArith;split<;>first|exact .int _ _|exact rfl
theorem Al(a:BinOp)(k:Xq)(x y:Int):bV P Flat (Op.intDiv a k x y):=by unfold Op.intDiv;split;{rfl};split<;>first|exact .int _ _|exact rfl
theorem oW(a:BinOp)(k:Xq)(x y:Int):bV P Flat (Op.intBits a k x y):=by unfold Op.intBits;split<;>first|exact .int _ _|exact rfl
theorem zO(a:BinOp)(x y:Int):bV P Flat (Op.intCmp a x y):=by unfold Op.intCmp;split<;>first|exact .bool _|exact rfl
theorem uh(a:BinOp)(k b:Xq)(x y:Int):bV P Flat (Op.shift a k x b y):=by unfold Op.shift;split;{rfl};split<;>first|exact .int _ _|exact rfl
theorem kD(a:BinOp)(x y:ByteArray):bV P Flat (Op.stringOp a x y):=by unfold Op.stringOp;split<;>first|exact .bool _|exact rfl|(split<;>first|exact .string _|exact rfl)
theorem kq{q:α->Prop}(s:String):bV P q (Go.stuck s):=rfl
theorem pj{q:α->Prop}{b:Prop}[Decidable b]{x y:XN α}(a:bV P q x)(d:bV P q y):bV P q (if b then x else y):=by grind
theorem mK(d:BinOp)(t:Xv)(k j:Xq)(a b:Int):bV P Flat (binOp d t (.int k a) (.int j b)):=by cases d<;>first|exact uh .shl k j a b|exact uh .shr k j a b|exact pj (kq _) (nH _ _ _ _)|exact pj (kq _) (Al _ _ _ _)|exact pj (kq _) (oW _ _ _ _)|exact pj (kq _) (zO _ _ _)
theorem j4(d:BinOp)(t:Xv)(a b:ByteArray):bV P Flat (binOp d t (.string a) (.string b)):=by(have:binOp d t (.string a) (.string b)=Op.stringOp d a b:=by cases d<;>rfl);rw[this];exact kD _ _ _
theorem ab.asBool(h:ai c r x x'):ab P c r (asBool x) (asBool x') λ_ a b=>b=a:=by cases h<;>first|exact ab.pure rfl|exact ab.stuck
theorem ab.asIntOf(h:ai c r x x'):ab P c r (asIntOf x) (asIntOf x') λ_ a b=>b=a:=by cases h<;>first|exact ab.pure rfl|exact ab.stuck|exact ab.unsupported
theorem ab.asInt(h:ai c r x x'):ab P c r (asInt x) (asInt x') λ_ a b=>b=a:=ab.bind (ab.asIntOf h) λ_ a b _ e=>ab.pure (by rw[e])
theorem ab.asAgg(h:ai c r x x'):ab P c r (asAgg x) (asAgg x') (aj c):=by cases h with|agg a b=>exact ab.pure ⟨a,b⟩|_=>exact ab.stuck
def gk(P:Xz)(x:XN α):Prop:=∀w h w',x.run P w=.halt h w'->AG h=W8
def kY(P:Xz)(x:XN α):Prop:=∀w,∃k w',x.run P w=.halt k w'/\AG k=W8
theorem bV.xO{q:α->Prop}{x:XN α}(h:bV P q x):gk P x:=by intro w k j e;rcases h.run w w rfl rfl with⟨a,d,_,b,_⟩|⟨i,f,b,g⟩;{simp_all};simp_all
theorem gk.bind{x:XN α}{f:α->XN β}(d:gk P x)(h:∀a,gk P (f a)):gk P (x>>=f):=by intro w k j e;rw[XN.run_bind]at e;cases b:x.run P w with|halt i g=>rw[b]at e;cases e;exact d _ _ _ b|ok a g=>rw[b]at e;exact h a _ _ _ e
theorem dV{x:XN α}{f:α->XN β}(e:gk P x)(h:∀a,kY P (f a)):kY P (x>>=f):=by intro w;rw[XN.run_bind];cases d:x.run P w with|halt k b=>exact⟨k,b,rfl,e _ _ _ d⟩|ok a b=>exact h a b
theorem gB{x:XN α}{f:α->XN β}(h:kY P x):kY P (x>>=f):=by intro w;obtain⟨k,b,e,a⟩:=h w;simp_all
theorem eY(a:AG h=W8:=by rfl):kY P (XN.halt h:XN α):=λw=>⟨h,w,rfl,a⟩
theorem qF(o:XT):gk P (newObj o):=λ_ _ _ e=>by cases e
theorem dK(a:α):gk P (Pure.pure a:XN α):=λ_ _ _ e=>by cases e
theorem Bz(b:Nat):gk P (shape b):=λ_ _ _ e=>by cases e
theorem y6(a:XR):gk P (frozen a):=λ_ _ _ e=>by cases e
theorem qX(t:Xv):lC P (elemOf t):=(aE t).bind λd=>by cases d<;>first|trivial|exact rfl
theorem dZ(e:RuntimeError):kY P (runtimePanic e:XN α):=by refine dV lz.xO λp=>?_;cases e with|typeAssertion i q a m=>exact dV (qX _).xO λz=>dV ((qF _).bind λ_=>dK _) λ_=>eY|panicNil=>exact dV (qX _).xO λz=>dV ((qF _).bind λ_=>dK _) λ_=>eY|_=>exact eY
theorem ab.runtimePanic{y:XN β}{Q:bC->α->β->Prop}:ab P c r (Go.runtimePanic e:XN α) y Q:=ab.never (dZ e)
theorem pT(k:Xq)(x y:Int)(a:BoundsCode):kY P (boundsPanic k x y a:XN α):=by unfold boundsPanic;split;{exact dV ((iC _).bind λ_=>vb _).xO λ_=>dZ _};exact dV (vb _).xO λ_=>dZ _
theorem ab.boundsPanic{k:Xq}{n m:Int}{code:BoundsCode}{y:XN β}{Q:bC->α->β->Prop}:ab P c r (Go.boundsPanic k n m code:XN α) y Q:=ab.never (pT k n m code)
theorem ab.sureAddr(h:ai c r x x'):ab P c r (Instr.sureAddr x) (Instr.sureAddr x') (dB c):=by cases h with|ptr h=>exact ab.pure h|_=>exact ab.stuck
theorem ab.asAddr(h:ai c r x x'):ab P c r (asAddr x) (asAddr x') (dB c):=by cases h with|ptr h=>exact ab.pure h|gn=>exact ab.runtimePanic (e:=.nilDeref)|_=>exact ab.stuck
theorem ab.part(t:Xv)(off:Nat){x x':Array Xd}(h:aj c r x x'):ab P c r (part t x off) (part t x' off) (ai c):=by refine ab.bind (ab.cQ (oC t)) λm g f a j=>?_;subst j;cases f with|true=>exact ab.bind (ab.cQ (bA t)) λp n o i l=>by subst l;exact ab.pure (.sP (((h.mono a).mono i).extract _ _))|false=>cases e:x[off]? with|none=>exact ab.stuck|some v=>obtain⟨q,d,k⟩:=(h.mono a).get e;rw[d];exact ab.pure k
theorem Dm(t:Xv)(d:∀z,(P.info? t).bind (·.zero)=W1 z->Flat z):ab P c r (Instr.alloc t W8 (.tuple #[])) (Instr.alloc t W8 (.tuple #[])) (ai c):=by refine ab.bind (ab.flat (sL t d)) λg z j f d=>?_;exact ab.bind (ab.newVar d) λi a e _ h=>ab.pure (.ptr h)
theorem JN(t:Xv)(h:ai c r x x'):ab P c r (Instr.box t x) (Instr.box t x') (ai c):=ab.bind (ab.newVar h) λe a d _ h=>ab.pure (.ptr h)
theorem yf(d:Nat->Option (Nat×Nat)):∀(l q:List (Nat×Xd)){z z':Array Xd},aj c r z z'->l.map (·.1)=q.map (·.1)->aj c r (l.map (·.2)).toArray (q.map (·.2)).toArray->
 match Instr.fill d z l with|some y=>∃I,Instr.fill d z' q=W1 I/\aj c r y I|none=>True
 |[],[],z,z',h,_,_=>⟨z',rfl,h⟩
 |[],_::_,_,_,_,e,_=>by simp at e
 |_::_,[],_,_,_,e,_=>by simp at e
 |(i,v)::l,(O,t)::q,z,z',h,e,w=>by
   simp only[U0,Vt]at e
   obtain⟨rfl,e⟩:=e
   have F:ai c r v t:=w.el 0 v t Θ Θ
   have A:aj c r (l.map (·.2)).toArray (q.map (·.2)).toArray:=⟨by have:=w.size;simp_all,λj u E a b=>w.el (j+1) u E (by grind) (by grind)⟩
   have M:=(aj.cells F).size
   have C:=h.size
   unfold Instr.fill
   cases d i with
   |none=>trivial
   |some p=>
     obtain⟨k,H⟩:=p
     simp only[<-M,<-C]
     split
     · rename_i y G
       split at G
       ·cases G
       · rename_i L
         rw[if_neg L]
         have D:∀(s f:List (Xd×Nat))(z z':Array Xd),aj c r z z'->s.map (·.2)=f.map (·.2)->aj c r (s.map (·.1)).toArray (f.map (·.1)).toArray->
          aj c r (s.foldl (λm(x:Xd×Nat)=>m.setIfInBounds (k+x.2) x.1) z) (f.foldl (λm(x:Xd×Nat)=>m.setIfInBounds (k+x.2) x.1) z'):=by
          intro s
          induction s with
          |nil=>simp_all
          |cons p s N=>intro f z z' C e B;cases f with
            |nil=>simp at e
            |cons Q f=>
              simp only[U0,Vt]at e
              rw[Vx,Vx,<-e.1]
              exact N f _ _ (C.set _ (B.el 0 _ _ Θ Θ)) e.2 ⟨by have:=B.size;simp_all,λj u E a b=>B.el (j+1) u E (by grind) (by grind)⟩
         have n:aj c r (v.cells.zipIdx.foldl (λm(x:Xd×Nat)=>m.setIfInBounds (k+x.2) x.1) z) (t.cells.zipIdx.foldl (λm(x:Xd×Nat)=>m.setIfInBounds (k+x.2) x.1) z'):=by
          rw[<-Array.foldl_toList,<-Array.foldl_toList]
          refine D _ _ _ _ h ?_ ?_
          ·simp_all
          · have J:(v.cells.zipIdx.toList.map (·.1)).toArray=v.cells:=by simp
            have K:(t.cells.zipIdx.toList.map (·.1)).toArray=t.cells:=by simp
            rw[J,K];exact aj.cells F
         have:=yf d l q n e A
         simp_all
     ·trivial
end
section
variable{c:dI}{r:bC}
inductive tz(c:dI)(b:Nat):Option (Xv×Nat)->Option (Xv×Nat)->Prop
 |none:tz c b Xh Xh
 |some(t:Xv){n m:Nat}:n<=m->c.low b=0->tz c b (W1 (t,n)) (W1 (t,m))
 |bad(t':Xv){n m:Nat}:c.low b≠0->c.aJ<=b->tz c b (W1 (xm,n)) (W1 (t',m))
theorem tz.isSome{s s':Option (Xv×Nat)}(h:tz c b s s'):s.isSome=s'.isSome:=by cases h<;>rfl
theorem qt{p:Xz}{d:Nat}{e:Xv}{m off:Nat}{bs:Int}{o:Nat}(h:n<=m)(a:cellAtBytes p d e n off bs=W1 o):cellAtBytes p d e m off bs=W1 o:=by unfold cellAtBytes at a⊢;simp only[]at a⊢;split at a;{cases a};rename_i f;rw[if_neg f];simp only[Option.bind_eq_bind]at a⊢;cases i:byteOfCell p d e (off%p.cellsOf e)with|none=>simp_all|some b=>rw[i]at a;simp only[Vm]at a⊢;split at a;{cases a};rename_i g;rw[if_neg ?_];{exact a};simp only[Vv,decide_eq_true_eq,Int.ofNat_eq_natCast]at g⊢;have:n*p.bytesOf e<=m*p.bytesOf e:=WU _ h;omega
theorem cI.shape(h:cI c r w v)(g:r b=W1 k):tz c b (w.shape? b) (v.shape? k):=by have d:=h.blk b k g;unfold Xf.shape?;generalize w.heap[b]?=p at d;generalize v.heap[k]?=o at d;cases d with|@seen x q t m f s l z y e=>by_cases a:c.low b=0;{obtain rfl:=y.1 a;exact .some t z a};obtain⟨rfl,i⟩:=y.2 a;exact .bad m a i|own n j=>cases j with|cells t f k=>exact .some t (by simp[k.size]) (h.qu b n)|_=>exact .none
theorem ab.shape(d:r b=W1 k):ab P c r (shape b) (shape k) λ_ x y=>tz c b x y:=by intro w v a;exact⟨v.shape? k,v,r,rfl,.refl a,a.shape d,λe f=>by simp_all⟩
theorem ab.viewAt(f:r b=W1 k):ab P c r (viewAt b) (viewAt k) λ_ x y=>x=Xh/\y=Xh:=by refine ab.bind (ab.shape f) λg s d h l=>?_;have a:=l.isSome;by_cases e:d.isSome=W8;{rw[a,if_pos e,if_pos e];exact ab.pure ⟨rfl,rfl⟩};rw[a,if_neg e,if_neg e];refine ab.getObj (h _ _ f) λo n _ j i=>?_;cases j with|cells t m _=>exact absurd rfl (i _ _ _)|_=>exact ab.pure ⟨rfl,rfl⟩
theorem ab.noView(d:dB c r a a'):ab P c r (noView a) (noView a') λ_ _ _=>True:=by refine ab.bind (ab.viewAt d.1) λf s g e b=>?_;rw[b.1,b.2];exact ab.pure trivial
def OF(c:dI)(r:bC):Option (XR×Bool)->Option (XR×Bool)->Prop
 |none,Xh=>True
 |some (a,l),W1 (a',l')=>dB c r a a'/\l'=l
 |_,_=>False
theorem ab.numberAt(f:r b=W1 k):ab P c r (numberAt b) (numberAt k) (OF c):=by refine ab.bind (ab.shape f) λn s g h m=>?_;have d:=m.isSome;rw[d];by_cases e:g.isSome=W8;{rw[if_pos e,if_pos e];exact ab.pure trivial};rw[if_neg e,if_neg e];refine ab.getObj (h _ _ f) λo q _ j i=>?_;cases j with|cells t p _=>exact absurd rfl (i _ _ _)|number l a=>exact ab.pure ⟨a,rfl⟩|_=>exact ab.pure trivial
theorem ab.behindNumber(d:dB c r a a'):ab P c r (behindNumber a) (behindNumber a') λf x y=>dB c f x.1 y.1/\y.2=x.2:=by refine ab.bind (ab.numberAt d.1) λi s g e b=>ab.pure ?_;match s,g,b with|none,Xh,_=>exact⟨d.mono e,rfl⟩|some (x,l),W1 (j,h),b=>exact b
theorem ab.asNumber(b:dB c r a a')(l:Bool):ab P c r (asNumber a l) (asNumber a' l) (ai c):=ab.bind (ab.newObj (.number l b)) λ_ _ _ _ h=>ab.pure (.ptr ⟨h.1,rfl,rfl,Vq h.2⟩)
theorem ab.byteOf(b:dB c r a a')(g:c.low a.block=0\/a.block<c.aJ):ab P c r (byteOf a) (byteOf a') λ_ x y=>y=x:=by have e:=b.2.2.1;unfold Go.byteOf;rw[e];cases a.spot with|some s=>exact ab.pure rfl|none=>refine ab.bind (ab.e8 bQ) λn p m d i=>?_;obtain⟨rfl,rfl⟩:=i;refine ab.bind (ab.noView (b.mono d)) λo _ _ f _=>?_;refine ab.bind (ab.shape ((b.mono d).mono f).1) λq s t l e=>?_;rw[b.2.1];cases e with|none=>exact ab.stuck|bad x k d=>exact absurd g Ω|some x h=>refine ab.cQ ?_;simp only[];split;{trivial};split<;>first|trivial|exact rfl
theorem ab.unsafeAdd(z:Fits P c)(h:ai c r x x')(k:ai c r y y'):ab P c r (XJ.unsafeAdd_ #[] t #[x,y]) (XJ.unsafeAdd_ #[] t #[x',y']) (ai c):=by(have f:∀{a j:Option XR},ai c r (.pointer a) (.pointer j)->ab P c r (XJ.unsafeAdd_ #[] t #[.pointer a,y]) (XJ.unsafeAdd_ #[] t #[.pointer j,y']) (ai c):=by intro a j h;refine ab.bind (ab.asInt k) λF n E v A=>?_;subst A;have h:=h.mono v;simp only[];split;{cases h with|gn=>exact ab.unsupported|ptr b=>refine ab.bind (ab.viewAt b.1) λB s D l g=>?_;rw[g.1,g.2];exact ab.pure (.ptr (b.mono l))};split;{exact ab.unsupported};cases h with|gn=>exact ab.unsupported|ptr b=>refine ab.bind (ab.shape b.1) λB s D l g=>?_;cases g with|none=>exact ab.unsupported|bad x u v=>refine ab.bind (ab.e8 bQ) λC p i w o=>?_;obtain⟨rfl,rfl⟩:=o;(have:i.cellsOf xm=0:=by unfold Xz.cellsOf;rw[z.bad];rfl);(have:∀n d q,cellAtBytes i i.depth xm n d q=Xh:=λn d q=>by unfold cellAtBytes;simp[this]);simp only[this];exact ab.unsupported|some x m u=>refine ab.bind (ab.e8 bQ) λC p i w o=>?_;obtain⟨rfl,rfl⟩:=o;rw[b.2.1];split;{rename_i d e;rw[qt (Nat.div_le_div_right m) e];exact ab.pure (.ptr ⟨((b.mono l).mono w).1,rfl,b.2.2.1,UP (Vq u) (UF _)⟩)};exact ab.unsupported);cases h with|gn=>exact f .gn|ptr b=>exact f (.ptr b)|_=>exact ab.stuck
theorem ab.movedNumber(g:Fits P c)(h:ai c r x x')(k:ai c r y y'):ab P c r (movedNumber t x y) (movedNumber t x' y') (ai c):=by refine ab.bind (ab.cQ (aE t)) λH d E p w=>?_;subst w;have h:=h.mono p;have k:=k.mono p;refine ab.ite (λ_ _ _ _=>rfl) λ_=>?_;cases h with|ptr u=>refine ab.bind (ab.behindNumber u) λI a i q A=>?_;obtain⟨j,o⟩:=A;obtain⟨a,l⟩:=a;subst o;refine ab.bind (ab.unsafeAdd g (.ptr j) (k.mono q)) λJ z K F B=>?_;(cases B with|ptr v=>exact ab.asNumber v _|gn=>exact ab.pure .gn|bool b=>exact ab.pure (.bool b)|int k n=>exact ab.pure (.int k n)|string s=>exact ab.pure (.string s)|gv n m=>exact ab.pure (.gv n m)|slice n m a=>exact ab.pure (.slice n m a)|cG a i=>exact ab.pure (.cG a i)|kT=>exact ab.pure .kT|map a=>exact ab.pure (.map a)|func a b d e f=>exact ab.pure (.func a b d e f)|nilFunc=>exact ab.pure .nilFunc|nilIface=>exact ab.pure .nilIface|iface t a=>exact ab.pure (.iface t a)|agg a b=>exact ab.pure (.agg a b)|tuple a b=>exact ab.pure (.tuple a b))|gn=>exact ab.unsafeAdd g .gn k|bool b=>exact ab.unsafeAdd g (.bool b) k|int C n=>exact ab.unsafeAdd g (.int C n) k|string s=>exact ab.unsafeAdd g (.string s) k|gv n m=>exact ab.unsafeAdd g (.gv n m) k|slice n m a=>exact ab.unsafeAdd g (.slice n m a) k|cG a i=>exact ab.unsafeAdd g (.cG a i) k|kT=>exact ab.unsafeAdd g .kT k|map a=>exact ab.unsafeAdd g (.map a) k|func a b d e f=>exact ab.unsafeAdd g (.func a b d e f) k|nilFunc=>exact ab.unsafeAdd g .nilFunc k|nilIface=>exact ab.unsafeAdd g .nilIface k|iface t a=>exact ab.unsafeAdd g (.iface t a) k|agg a b=>exact ab.unsafeAdd g (.agg a b) k|tuple a b=>exact ab.unsafeAdd g (.tuple a b) k
theorem ab.movedPointer(g:Fits P c)(h:ai c r x x')(k:ai c r y y'):ab P c r (movedPointer t x y) (movedPointer t x' y') (ai c):=by unfold Go.movedPointer;cases h with|ptr j=>refine ab.bind (ab.numberAt j.1) λv s q i o=>?_;(match s,q,o with|none,Xh,_=>exact ab.unsafeAdd (t:=t) g (.ptr (j.mono i)) (k.mono i)|some _,W1 _,_=>exactλ_ _ _=>rfl)|gn=>exact ab.unsafeAdd g .gn k|bool b=>exact ab.unsafeAdd g (.bool b) k|int p n=>exact ab.unsafeAdd g (.int p n) k|string s=>exact ab.unsafeAdd g (.string s) k|gv n m=>exact ab.unsafeAdd g (.gv n m) k|slice n m a=>exact ab.unsafeAdd g (.slice n m a) k|cG a l=>exact ab.unsafeAdd g (.cG a l) k|kT=>exact ab.unsafeAdd g .kT k|map a=>exact ab.unsafeAdd g (.map a) k|func a b d e f=>exact ab.unsafeAdd g (.func a b d e f) k|nilFunc=>exact ab.unsafeAdd g .nilFunc k|nilIface=>exact ab.unsafeAdd g .nilIface k|iface t a=>exact ab.unsafeAdd g (.iface t a) k|agg a b=>exact ab.unsafeAdd g (.agg a b) k|tuple a b=>exact ab.unsafeAdd g (.tuple a b) k
theorem ab.known{x:XN α}{y:XN β}{Q:bC->α->β->Prop}(h:(∀(i k:Nat),r i=W1 k->i<c.aJ->i=k)->(∀(i j k:Nat),r i=W1 k->r j=W1 k->i=j\/(c.seen i/\c.seen j))->ab P c r x y Q):ab P c r x y Q:=λw v a=>h a.aJ a.inj w v a
theorem vx{b:XR}(d:dB c r a a')(f:dB c r b b')(e:a.block=b.block):a'.block=b'.block:=by have h:=f.1;rw[<-e,d.1]at h;simp_all
theorem vp(d:∀(i k:Nat),r i=W1 k->i<c.aJ->i=k)(b:dB c r a a')(h:a.block<c.aJ):a'.block<c.aJ:=by have:=d _ _ b.1 h;omega
theorem ab.twoPlaces{b:XR}(k:Fits P c)(f:dB c r a a')(j:dB c r b b'):ab P c r (Op.twoPlaces a b) (Op.twoPlaces a' b') λ_ x y=>y=x:=by refine ab.known λu A=>?_;refine ab.bind (ab.e8 bQ) λB p h i t=>?_;obtain⟨rfl,rfl⟩:=t;by_cases d:a.block=b.block;(case neg=>have m:=bne_iff_ne.2 d;rw[m];exactλ_ _ _=>rfl);(have n:(a'.block !=b'.block)=(a.block !=b.block):=by simp[d,vx f j d]);by_cases e:a.block<c.aJ;(case neg=>(have q:decide (a.block>=h.globals.size)=W8:=by rw[decide_eq_true_eq,<-k.aJ];omega);rw[q,VI];exactλ_ _ _=>rfl);(have o:decide (a'.block>=h.globals.size)=decide (a.block>=h.globals.size):=by rw[decide_eq_decide,<-k.aJ];have:=vp u f e;omega);rw[n,o];refine ab.ite (λ_ _ _ _=>rfl) λ_=>?_;exact ab.bind (ab.byteOf (f.mono i) (.inr e)) λC x E s v=>ab.bind (ab.byteOf ((j.mono i).mono s) (.inr (d▸e))) λD y F z w=>ab.pure (by rw[v,w])
theorem ab.addrMod(h:Fits P c){k:Xq}{n:Int}(f:dB c r a a'):ab P c r (Op.addrMod k a n) (Op.addrMod k a' n) (ai c):=by refine ab.bind (ab.shape f.1) λt s y d m=>?_;cases m with|none=>exact ab.unsupported|bad x b d=>refine ab.never (gB λw=>?_);(have e:∃s,(typeInfo xm).run P w=.halt (.stuck s) w:=by unfold typeInfo;rw[XN.run_bind];simp only[program,XN.run,XS.andThen,h.bad];simp);obtain⟨s,e⟩:=e;exact⟨_,w,e,rfl⟩|some x l b=>refine ab.bind (ab.cQ (dJ _)) λu i q g j=>?_;subst j;refine ab.ite (λ_ _ _ _=>rfl) λ_=>?_;exact ab.bind (ab.byteOf ((f.mono d).mono g) (.inl b)) λv z A p o=>by subst o;exact ab.pure (.int _ _)
theorem ab.addrCmp{b:XR}(f:Fits P c)(d:dB c r a a')(e:dB c r b b'):ab P c r (Op.addrCmp op a b) (Op.addrCmp op a' b') (ai c):=by refine ab.bind (ab.twoPlaces f d e) λj s h i g=>?_;subst g;cases op<;>first|exact ab.pure (.bool _)|exact ab.unsupported
theorem ab.addrSub{k:Xq}{b:XR}(f:Fits P c)(d:dB c r a a')(e:dB c r b b'):ab P c r (Op.addrSub k a b) (Op.addrSub k a' b') (ai c):=by refine ab.bind (ab.twoPlaces f d e) λi s j h g=>?_;subst g;exact ab.pure (.int _ _)
def Mk(P:Xz)(t:Xv):Bool:=match(P.info? t).map (λi:TypeInfo=>i.desc)with|some (.named "sync.copyChecker" _)=>WI|_=>W8
def fp(P:Xz)(t:Xv):Bool:=match P.underlying t with|some (.int _)=>Mk P t|some .string|some .bool=>W8|_=>WI
theorem x4{q:α->Prop}{x:XN α}{f:α->XN β}(g:bV P q x)(h:∀a,q a->kY P (f a)):kY P (x>>=f):=by intro w;rw[XN.run_bind];rcases g.run w w rfl rfl with⟨a,d,e,b,_⟩|⟨k,j,b,i⟩;{rw[b];exact h a e _};simp_all
theorem ab.equal(H:Fits P c)(j:fp P t=W8)(h:ai c r x x')(k:ai c r y y'):ab P c r (Op.equal t x y) (Op.equal t x' y') λ_ a b=>b=a:=by show ab P c r (Op.equalIn (9999+1) t x y) (Op.equalIn (9999+1) t x' y') _;generalize(9999:Nat)=d;unfold Op.equalIn;refine ab.bind (ab.e8 (x:=underlying t) (q:=λd=>P.underlying t=W1 d) ?_) λr1 z J s m=>?_;{refine bV.bind bQ λp v=>?_;subst v;cases h:p.underlying t with|none=>exact rfl|some i=>exact rfl};obtain⟨rfl,m⟩:=m;have h:=h.mono s;have k:=k.mono s;unfold fp at j;rw[m]at j;cases J with|bool=>(cases h<;>cases k<;>first|exact ab.stuck|exact ab.pure rfl)|string=>(cases h<;>cases k<;>first|exact ab.stuck|exact ab.pure rfl)|int q=>(cases h with|int S w=>(cases k with|int I o=>exact ab.ite (λ_=>ab.pure rfl) λ_=>ab.stuck|ptr G=>(match w with|.ofNat 0=>exact ab.pure rfl|.ofNat (_+1)=>exact ab.unsupported|.negSucc _=>exact ab.unsupported)|_=>first|exact ab.stuck|exact ab.unsupported)|ptr N=>(cases k with|int I o=>(match o with|.ofNat 0=>exact ab.pure rfl|.ofNat (_+1)=>exact ab.unsupported|.negSucc _=>exact ab.unsupported)|ptr G=>refine ab.bind (ab.behindNumber N) λr2 x x' C g=>ab.bind (ab.behindNumber (G.mono C)) λr3 y y' D l=>?_;refine ab.known λR n=>?_;have g:=g.1.mono D;have l:=l.1;refine ab.bind (ab.e8 bQ) λr4 p B E v=>?_;obtain⟨rfl,rfl⟩:=v;by_cases f:x.1.block=y.1.block;(case neg=>have w:(x.1.block==y.1.block)=WI:=beq_eq_false_iff_ne.2 f;(have o:(x.1==y.1)=WI:=by grind);simp only[w,o,VP,UK,if_false];refine ab.never (dV (dJ t).xO λi=>?_);split<;>exact eY);have O:=vx g l f;(have K:(x'.1.block==y'.1.block)=(x.1.block==y.1.block):=by simp_all);by_cases e:x.1.block<c.aJ;(case neg=>(have T:decide (x.1.block<B.globals.size)=WI:=by rw[decide_eq_false_iff_not,<-H.aJ];exact e);simp only[T,Bool.and_false,UK,if_false];refine ab.never (x4 (jM t) λi n=>?_);unfold Mk at j;rw[n]at j;split;{simp_all};exact eY);(have L:decide (x'.1.block<B.globals.size)=decide (x.1.block<B.globals.size):=by rw[decide_eq_decide,<-H.aJ];exact⟨λ_=>e,λ_=>vp R g e⟩);(have M:(x'.1==y'.1)=(x.1==y.1):=by obtain⟨⟨xb,xo,xs⟩,_⟩:=x;obtain⟨⟨V,W,X⟩,_⟩:=x';obtain⟨⟨yb,yo,ys⟩,_⟩:=y;obtain⟨⟨Y,Z,ys'⟩,_⟩:=y';obtain⟨s,C,D,-⟩:=g;obtain⟨S,I,k3,-⟩:=l;grind);simp only[K,L,M];refine ab.ite (λe=>?_) λ_=>?_;{(have e:x.1.block<c.aJ:=by assumption);exact ab.bind (ab.byteOf (g.mono E) (.inr e)) λU u u' F Q=>ab.bind (ab.byteOf ((l.mono E).mono F) (.inr (f▸e))) λr6 z J h6 m=>ab.pure (by rw[Q,m])};refine ab.bind (ab.cQ (dJ t)) λU i i' F n=>?_;subst n;refine(ab.cQ ?_);(split<;>first|exact rfl|(split<;>first|trivial|exact rfl))|_=>exact ab.unsupported)|gn=>cases k<;>exact ab.unsupported|_=>cases k<;>first|exact ab.stuck|exact ab.unsupported)|_=>simp at j
theorem ab.eqGuard{o2:XG}(b:∀z,x≠.agg z)(a:x≠.nilIface)(h:ai c r x x'):ab P c r (eqGuard op t o1 o2 x y) (eqGuard op t o1 o2 x' y') λ_ _ _=>True:=by refine ab.ite (λ_=>ab.pure trivial) λ_=>?_;cases h<;>first|exact absurd rfl a|exact absurd rfl (b _)|exact ab.pure trivial
theorem j1{d:TypeDesc}(h:P.underlying t=W1 d)(w:Xf):(underlying t).run P w=.ok d w:=by unfold underlying;simp_all
theorem Ae(a:fp P t=W8)(e:(∃z,x=.agg z)\/x=.nilIface):kY P (Op.equal t x y):=by intro w;show∃k f,(Op.equalIn (9999+1) t x y).run P w=.halt k f/\_;unfold Op.equalIn;unfold fp at a;cases b:P.underlying t with|none=>simp_all|some z=>rw[b]at a;rw[XN.run_bind,j1 b];rcases e with⟨q,rfl⟩|rfl<;>cases z<;>first|(simp at a;done)|exact⟨_,_,rfl,rfl⟩|(cases y<;>exact⟨_,_,rfl,rfl⟩)
end
def AD:Xd->Bool
 |.int ..|.string ..|.pointer ..|.float ..|.complex ..=>WI
 |_=>W8
set_option maxHeartbeats 4000000 in theorem zt(a:BinOp)(t:Xv)(x y:Xd)(b:¬(a=.eql\/a=.neq))(c:AD x=W8):∃h:Halt,binOp a t x y=.halt h/\AG h=W8:=by(cases a<;>first|exact absurd (.inl rfl) b|exact absurd (.inr rfl) b|skip);all_goals(cases x<;>first|(simp[AD]at c;done)|skip);all_goals(cases y<;>exact⟨_,rfl,rfl⟩)
section
variable{c:dI}{r:bC}
theorem pM(a:fp P t=W8)(n:Nat):P.eqGuardType (n+1) t=WI:=by unfold fp at a;unfold Xz.eqGuardType;grind
theorem wJ{o2:XG}(l:fp P t=W8)(m:(∃z,x=.agg z)\/x=.nilIface):gk P (eqGuard op t o1 o2 x y):=by
 have a:∀n:Nat,gk P (Op.eqGuardIn (n+1) t .nilIface .nilIface):=λn=>by
  unfold Op.eqGuardIn
  exact gk.bind (aE t).xO λd=>by cases d<;>exact dK _
 have g:gk P (match x,y with
  |.nilIface,.nilIface=>(do
    if(o1 matches .const _)||(o2 matches .const _)then return
    if<-Op.eqGuardIn Op.maxDepth t x y then unsupported (.noEntry "binop/eql: two nil values of an interface type with methods, neither of them the literal nil"):XN Unit)
  |.agg _,.agg _=>(do
    if !(<-program).eqGuardType (<-program).depth t then return
    if<-Op.eqGuardIn Op.maxDepth t x y then unsupported (.noEntry "binop/eql: two nil values of an interface type with methods, in a part of a struct or an array"):XN Unit)
  |_,_=>pure ()):=by
  rcases m with⟨z,rfl⟩|rfl
  ·cases y with
    |agg u=>
      refine bV.xO (q:=λ_=>True) (bV.bind bQ λp k=>bV.bind bQ λj f=>?_)
      subst k f
      rw[show j.eqGuardType j.depth t=WI from pM l _]
      exact trivial
    |_=>exact dK _
  ·cases y with
    |nilIface=>
      by_cases i:((match o1 with|.const _=>W8|_=>WI)||(match o2 with|.const _=>W8|_=>WI))=W8
      ·simp only[i,if_true];exact dK _
      · simp only[i,if_false,UK]
        exact gk.bind (a 9999) λb=>by
         cases b
         ·exact dK _
         ·exactλw h o e=>by cases e;rfl
    |_=>exact dK _
 cases op<;>first|exact g|exact dK _
set_option maxHeartbeats 1000000 in theorem DI{o2:XG}(hc:Fits P c)(ht:(op=.eql\/op=.neq)->fp P t=W8)(h:ai c r x x')(k:ai c r y y'):ab P c r (do eqGuard op t o1 o2 x y;binOp op t x y) (do eqGuard op t o1 o2 x' y';binOp op t x' y') (ai c):=by by_cases he:op=.eql\/op=.neq;{have ht:=ht he;by_cases hx:(∃z,x=.agg z)\/x=.nilIface;{refine ab.never (dV (wJ ht hx) λ_=>?_);have:∀f:Bool->XN Xd,kY P (Op.equal t x y>>=f):=λf=>gB (Ae (P:=P) (y:=y) ht hx);rcases hx with⟨z,rfl⟩|rfl<;>rcases he with rfl|rfl<;>(cases y<;>exact this _)};(have heq:∀{r:bC},ai c r x x'->ai c r y y'->ab P c r (binOp op t x y) (binOp op t x' y') (ai c):=by intro r h k;have key:=ab.equal hc ht h k;cases h with|int k1 n1=>(cases k with|int k2 n2=>exact ab.flat (mK _ _ _ _ _ _)|_=>rcases he with rfl|rfl<;>exact ab.bind key λ_ _ _ _ e=>by subst e;exact ab.pure (.bool _))|string s1=>(cases k with|string s2=>exact ab.flat (j4 _ _ _ _)|_=>rcases he with rfl|rfl<;>exact ab.bind key λ_ _ _ _ e=>by subst e;exact ab.pure (.bool _))|_=>rcases he with rfl|rfl<;>exact ab.bind key λ_ _ _ _ e=>by subst e;exact ab.pure (.bool _));exact ab.bind (ab.eqGuard (λz e=>hx (.inl ⟨z,e⟩)) (λe=>hx (.inr e)) h) λr1 _ _ h1 _=>heq (h.mono h1) (k.mono h1)};(have e0:∀x y:Xd,(do eqGuard op t o1 o2 x y;binOp op t x y)=binOp op t x y:=by intro x y;cases op<;>first|rfl|exact absurd (.inl rfl) he|exact absurd (.inr rfl) he);rw[e0,e0];clear e0;by_cases hx:AD x=W8;{obtain⟨h',e,hh⟩:=zt op t x y he hx;rw[e];exact ab.halt hh};cases h with|int k1 n1=>(cases k with|int k2 n2=>exact ab.flat (mK _ _ _ _ _ _)|ptr hb=>(cases op<;>first|exact ab.unsupported|exact absurd (.inl rfl) he|exact absurd (.inr rfl) he|exact ab.movedNumber hc (.ptr hb) (.int _ _)|exact ab.bind (ab.behindNumber hb) λr1 z z' h1 hz=>ab.addrMod hc hz.1)|gn=>(cases op<;>first|exact ab.unsupported|exact absurd (.inl rfl) he|exact absurd (.inr rfl) he|exact ab.movedNumber hc .gn (.int _ _))|_=>cases op<;>first|exact ab.stuck|exact absurd (.inl rfl) he|exact absurd (.inr rfl) he)|string s1=>(cases k with|string s2=>exact ab.flat (j4 _ _ _ _)|_=>cases op<;>first|exact ab.stuck|exact ab.unsupported|exact absurd (.inl rfl) he|exact absurd (.inr rfl) he)|ptr ha=>(cases k with|int k2 n2=>(cases op<;>first|exact ab.unsupported|exact absurd (.inl rfl) he|exact absurd (.inr rfl) he|exact ab.movedNumber hc (.ptr ha) (.int _ _)|exact ab.bind (ab.behindNumber ha) λr1 z z' h1 hz=>ab.addrMod hc hz.1|(refine ab.bind (ab.cQ (aE t)) λr1 d d' h1 hd=>?_;subst hd;exact ab.ite (λ_=>ab.movedPointer hc (.ptr (ha.mono h1)) (.int _ _)) λ_=>ab.movedNumber hc (.ptr (ha.mono h1)) (.int _ _)))|ptr hb=>(cases op<;>first|exact ab.unsupported|exact absurd (.inl rfl) he|exact absurd (.inr rfl) he|exact ab.bind (ab.behindNumber ha) λr1 z z' h1 hz=>ab.bind (ab.behindNumber (hb.mono h1)) λr2 u u' h2 hu=>ab.addrSub hc (hz.1.mono h2) hu.1|exact ab.bind (ab.behindNumber ha) λr1 z z' h1 hz=>ab.bind (ab.behindNumber (hb.mono h1)) λr2 u u' h2 hu=>ab.addrCmp hc (hz.1.mono h2) hu.1)|_=>cases op<;>first|exact ab.stuck|exact ab.unsupported|exact absurd (.inl rfl) he|exact absurd (.inr rfl) he)|gn=>(cases k with|int k2 n2=>(cases op<;>first|exact ab.unsupported|exact absurd (.inl rfl) he|exact absurd (.inr rfl) he|exact ab.movedNumber hc .gn (.int _ _)|(refine ab.bind (ab.cQ (aE t)) λr1 d d' h1 hd=>?_;subst hd;exact ab.ite (λ_=>ab.movedPointer hc .gn (.int _ _)) λ_=>ab.movedNumber hc .gn (.int _ _)))|_=>cases op<;>first|exact ab.stuck|exact ab.unsupported|exact absurd (.inl rfl) he|exact absurd (.inr rfl) he)|_=>exact absurd rfl hx
end
section
variable{c:dI}{r:bC}
theorem aX(t:Xv):bV P (λd=>P.underlying t=W1 d) (underlying t):=by refine bV.bind bQ λp a=>?_;subst a;cases h:p.underlying t with|none=>exact rfl|some i=>exact rfl
theorem xf(t:Xv):bV P (λn=>P.cellsOf t=n) (sizeOf t):=by refine bV.bind (jM t) λi a=>?_;show P.cellsOf t=i.size;unfold Xz.cellsOf;grind
theorem AK(t:Xv)(h:ai c r x x'):ab P c r (Instr.loadAt t x) (Instr.loadAt t x') (ai c):=ab.bind (ab.sureAddr h) λ_ _ _ _ b=>ab.loadVar t b
theorem zx(t:Xv)(h:ai c r x x')(k:ai c r y y'):ab P c r (Instr.storeAt t x y) (Instr.storeAt t x' y') λ_ _ _=>True:=ab.bind (ab.sureAddr h) λ_ _ _ b d=>ab.storeVar t d (k.mono b)
theorem Ev{op:UnOp}(h:ai c r x x'):ab P c r (Op.unary op x) (Op.unary op x') (ai c):=by cases h with|bool b=>(cases op<;>first|exact ab.pure (.bool _)|exact ab.stuck)|int k n=>(cases op with|neg=>exact ab.flat (nH .sub k 0 n)|xor=>exact ab.flat (oW .xor k (if k.signed then-1 else k.max) n)|_=>exact ab.stuck)|ptr a=>(cases op<;>first|exact ab.unsupported|exact ab.stuck)|_=>cases op<;>exact ab.stuck
theorem zH(n:Nat)(h:ai c r x x'):ab P c r (Instr.extract x n) (Instr.extract x' n) (ai c):=by cases h with|tuple s e=>rename_i z f;unfold Instr.extract;(cases b:z[n]? with|none=>simp only[b];exact ab.stuck|some v=>obtain⟨g,d,k⟩:=(aj.mk s e).get b;simp only[b,d];exact ab.pure k)|_=>exact ab.stuck
theorem xT(s:Xv)(n:Nat)(u:∀fs f,P.underlying s=W1 (.struct fs)->fs[n]?=W1 f->P.cellsOf f.type≠0)(h:ai c r x x'):ab P c r (Instr.fieldAt s x n) (Instr.fieldAt s x' n) (ai c):=by refine ab.bind (ab.e8 (aX s)) λz d k l e=>?_;obtain⟨rfl,e⟩:=e;cases k with|struct fs=>simp only[];(cases t:fs[n]? with|none=>exact ab.stuck|some f=>refine ab.bind (ab.sureAddr (h.mono l)) λv a j w p=>?_;(have i:ab P c v (fieldPlace a f) (fieldPlace j f) (dB c):=by refine ab.bind (ab.e8 (xf f.type)) λA m y o g=>?_;obtain⟨rfl,g⟩:=g;have:=u fs f e t;rw[g]at this;rw[if_neg this,if_neg this];exact ab.pure ((p.mono o).add _));exact ab.bind i λ_ _ _ _ q=>ab.pure (.ptr q))|_=>exact ab.stuck
theorem EK(t:Xv)(n:Nat)(h:ai c r x x'):ab P c r (Instr.field t x n) (Instr.field t x' n) (ai c):=by refine ab.bind (ab.cQ (aE t)) λl d b g j=>?_;subst j;cases b with|struct e=>simp only[];(cases k:e[n]? with|none=>exact ab.stuck|some f=>exact ab.bind (ab.asAgg (h.mono g)) λ_ _ _ _ i=>ab.part _ _ i)|_=>exact ab.stuck
theorem Db(t:Xv)(h:ai c r x x')(k:ai c r y y'):ab P c r (Instr.index t x y) (Instr.index t x' y') (ai c):=by refine ab.bind (ab.asIntOf k) λB z v j q=>?_;subst q;obtain⟨w,i⟩:=v;refine ab.bind (ab.cQ (aE t)) λC d g l o=>?_;subst o;have h:=(h.mono j).mono l;cases h with|agg s e=>(cases g with|array u f=>refine ab.ite (λ_=>?_) λ_=>ab.boundsPanic;exact ab.bind (ab.cQ (bA f)) λD m A n p=>by subst p;exact ab.part _ _ ((aj.mk s e).mono n)|_=>exact ab.stuck)|string s=>(cases g with|string=>simp only[];(cases(if 0<=i then s[i.toNat]? else Xh)with|none=>exact ab.boundsPanic|some b=>exact ab.pure (.int _ _))|_=>exact ab.stuck)|_=>cases g<;>exact ab.stuck
theorem zm(t:Xv)(h:ai c r x x')(k:ai c r y y'):ab P c r (Instr.indexAt t x y) (Instr.indexAt t x' y') (ai c):=by unfold Instr.indexAt;refine ab.bind (ab.asIntOf k) λY z V N T=>?_;subst T;obtain⟨X,i⟩:=V;refine ab.bind (ab.cQ (aE t)) λZ d M O R=>?_;subst R;have h:=(h.mono N).mono O;let F(U:bC)(a b:Option XR×Nat×Xv):Prop:=ai c U (.pointer a.1) (.pointer b.1)/\b.2=a.2;cases M with|array B f=>refine ab.bind (ab.sureAddr h) λr3 a I W v=>ab.bind (Q:=F) (ab.pure ⟨.ptr v,rfl⟩) λC a b s q=>?_;obtain⟨w,B,f⟩:=a;obtain⟨o,l⟩:=b;obtain⟨g,e⟩:=q;simp only at e g;subst e;refine ab.bind (ab.cQ (x:=underlying t) (aE t)) λC u H s A=>?_;subst A;have g:=g.mono s;(cases g with|gn=>exact ab.boundsPanic|ptr v=>refine ab.ite (λ_=>?_) λ_=>?_;{exact ab.bind (ab.cQ (bA f)) λL m J D E=>by subst E;exact ab.pure (.ptr ((v.mono D).add _))};exact ab.ite (λ_ _ _ _=>rfl) λ_=>ab.boundsPanic)|slice f=>(cases h with|gv n m=>refine ab.bind (Q:=F) (ab.pure ⟨.gn,rfl⟩) λC a b s q=>?_;obtain⟨w,B,f⟩:=a;obtain⟨o,l⟩:=b;obtain⟨g,e⟩:=q;simp only at e g;subst e;refine ab.bind (ab.cQ (x:=underlying t) (aE t)) λC u H s A=>?_;subst A;have g:=g.mono s;(cases g with|gn=>exact ab.boundsPanic|ptr v=>refine ab.ite (λ_=>?_) λ_=>?_;{exact ab.bind (ab.cQ (bA f)) λL m J D E=>by subst E;exact ab.pure (.ptr ((v.mono D).add _))};exact ab.ite (λ_ _ _ _=>rfl) λ_=>ab.boundsPanic)|slice n m v=>refine ab.bind (Q:=F) (ab.pure ⟨.ptr v,rfl⟩) λC a b s q=>?_;obtain⟨w,B,f⟩:=a;obtain⟨o,l⟩:=b;obtain⟨g,e⟩:=q;simp only at e g;subst e;refine ab.bind (ab.cQ (x:=underlying t) (aE t)) λC u H s A=>?_;subst A;have g:=g.mono s;(cases g with|gn=>exact ab.boundsPanic|ptr v=>refine ab.ite (λ_=>?_) λ_=>?_;{exact ab.bind (ab.cQ (bA f)) λL m J D E=>by subst E;exact ab.pure (.ptr ((v.mono D).add _))};exact ab.ite (λ_ _ _ _=>rfl) λ_=>ab.boundsPanic)|cG a I=>refine ab.bind (Q:=λ_ p K=>p=(W1 a,0,f)/\K=(W1 I,0,f)) (ab.pure ⟨rfl,rfl⟩) λC p K s S=>?_;obtain⟨rfl,rfl⟩:=S;refine ab.bind (ab.cQ (x:=underlying t) (aE t)) λC u H s A=>?_;subst A;refine ab.ite (λG=>?_) λ_=>ab.ite (λ_ _ _ _=>rfl) λ_=>ab.boundsPanic;simp at G;omega|_=>exactλ_ _ _=>rfl)|_=>cases h<;>exactλ_ _ _=>rfl
theorem wV{fn:Fn}(b:Gn c fn=W8){x x' y y':Array Xd}(h:aj c r x x')(k:aj c r y y'):ab P c r (Instr.makeFunc fn x y) (Instr.makeFunc fn x' y') (ai c):=ab.pure (.func b h.size h.el k.size k.el)
theorem ab.sliceBound(y:Nat)(e:BoundsCode)(h:ai c r x x'):ab P c r (Instr.sliceBound x y e) (Instr.sliceBound x' y e) λ_ a b=>b=a/\a<=y:=by refine ab.bind (ab.asIntOf h) λj z k g f=>?_;subst f;exact ab.ite (λi=>ab.pure ⟨rfl,by omega⟩) λ_=>ab.boundsPanic
def j6(c:dI)(r:bC):Option Xd->Option Xd->Prop
 |none,Xh=>True
 |some x,W1 y=>ai c r x y
 |_,_=>False
theorem j6.mono{r r':bC}(h:r.le r'):∀{x y:Option Xd},j6 c r x y->j6 c r' x y|none,Xh,_=>trivial|some _,W1 _,k=>ai.mono h k
theorem ab.sliceBounds(f:Bool)(k j:Nat){mx:Option Xd}(i:j6 c r lo lo')(m:j6 c r hi hi')(s:j6 c r mx mx'):ab P c r (Instr.sliceBounds f k j lo hi mx) (Instr.sliceBounds f k j lo' hi' mx') λ_ a b=>b=a/\(k=0->j=0->a=(0,0,0)):=by match mx,mx',s with|none,Xh,_=>refine ab.bind (Q:=λ_ a b=>b=a/\a<=_) (ab.pure ⟨rfl,Uo _⟩) λy z h l e=>?_;obtain⟨rfl,x⟩:=e;(match hi,hi',m with|none,Xh,_=>refine ab.bind (Q:=λ_ a b=>b=a/\a<=_) (ab.pure ⟨rfl,Uo _⟩) λv z h o e=>?_;obtain⟨rfl,u⟩:=e;(match lo,lo',i with|none,Xh,_=>refine ab.bind (Q:=λ_ a b=>b=a/\a<=_) (ab.pure ⟨rfl,Uo _⟩) λq z h p e=>?_;obtain⟨rfl,n⟩:=e;exact ab.pure ⟨rfl,λa b=>by simp_all⟩|some a,W1 t,i=>refine ab.bind (ab.sliceBound _ _ (ai.mono o (ai.mono l i))) λq z h p e=>?_;obtain⟨rfl,n⟩:=e;exact ab.pure ⟨rfl,λa b=>by simp_all⟩)|some b,W1 w,m=>refine ab.bind (ab.sliceBound _ _ (ai.mono l m)) λv z h o e=>?_;obtain⟨rfl,u⟩:=e;match lo,lo',i with|none,Xh,_=>refine ab.bind (Q:=λ_ a b=>b=a/\a<=_) (ab.pure ⟨rfl,Uo _⟩) λq z h p e=>?_;obtain⟨rfl,n⟩:=e;exact ab.pure ⟨rfl,λa b=>by simp_all⟩|some a,W1 t,i=>refine ab.bind (ab.sliceBound _ _ (ai.mono o (ai.mono l i))) λq z h p e=>?_;obtain⟨rfl,n⟩:=e;exact ab.pure ⟨rfl,λa b=>by simp_all⟩)|some d,W1 A,s=>refine ab.bind (ab.sliceBound _ _ s) λy z h l e=>?_;obtain⟨rfl,x⟩:=e;match hi,hi',m with|none,Xh,_=>exactλ_ _ _=>rfl|some b,W1 w,m=>refine ab.bind (ab.sliceBound _ _ (ai.mono l m)) λv z h o e=>?_;obtain⟨rfl,u⟩:=e;match lo,lo',i with|none,Xh,_=>refine ab.bind (Q:=λ_ a b=>b=a/\a<=_) (ab.pure ⟨rfl,Uo _⟩) λq z h p e=>?_;obtain⟨rfl,n⟩:=e;exact ab.pure ⟨rfl,λa b=>by simp_all⟩|some a,W1 t,i=>refine ab.bind (ab.sliceBound _ _ (ai.mono o (ai.mono l i))) λq z h p e=>?_;obtain⟨rfl,n⟩:=e;exact ab.pure ⟨rfl,λa b=>by simp_all⟩
theorem Ei(t:Xv){mx:Option Xd}(h:ai c r x x')(k:j6 c r lo lo')(o:j6 c r hi hi')(p:j6 c r mx mx'):ab P c r (Instr.slice t x lo hi mx) (Instr.slice t x' lo' hi' mx') (ai c):=by unfold Instr.slice;refine ab.bind (ab.cQ (aE t)) λK d y v A=>?_;subst A;have h:=h.mono v;have k:=k.mono v;have o:=o.mono v;have p:=p.mono v;(have J:mx'.isSome=mx.isSome:=by match mx,mx',p with|none,Xh,_=>rfl|some _,W1 _,_=>rfl);cases y with|string=>(cases h with|string s=>simp only[J];refine ab.ite (λ_ _ _ _=>rfl) λ_=>?_;exact ab.bind (ab.sliceBounds _ _ _ k o (show j6 c K Xh Xh from trivial)) λ_ _ _ _ e=>by obtain⟨rfl,_⟩:=e;exact ab.pure (.string _)|_=>exact ab.stuck)|slice b=>(cases h with|gv n m=>refine ab.bind (ab.sliceBounds _ _ _ k o p) λC z u j e=>?_;obtain⟨rfl,_⟩:=e;refine ab.bind (ab.cQ (bA b)) λD q B i e=>?_;subst e;refine ab.pure ?_;split<;>exact .gv _ _|slice n m g=>refine ab.bind (ab.sliceBounds _ _ _ k o p) λC z u j e=>?_;obtain⟨rfl,_⟩:=e;refine ab.bind (ab.cQ (bA b)) λD q B i e=>?_;subst e;refine ab.pure ?_;have g:=(g.mono j).mono i;split;{exact .slice _ _ g};exact .slice _ _ (g.add _)|cG a G=>refine ab.bind (ab.sliceBounds _ _ _ k o p) λC z u j e=>?_;obtain⟨rfl,e⟩:=e;obtain rfl:=e rfl rfl;refine ab.bind (ab.cQ (bA b)) λD q B i e=>?_;subst e;refine ab.pure ?_;split<;>exact .cG _ _|_=>exact ab.stuck)|pointer w=>refine ab.bind (ab.asAddr h) λC a G j g=>?_;refine ab.bind (ab.cQ (aE w)) λD d y i A=>?_;subst A;(cases y with|array n b=>refine ab.bind (ab.sliceBounds _ _ _ ((k.mono j).mono i) ((o.mono j).mono i) ((p.mono j).mono i)) λL z u H e=>?_;obtain⟨rfl,_⟩:=e;refine ab.bind (ab.cQ (bA b)) λM q B I e=>?_;obtain⟨rfl,_⟩:=e;refine ab.pure ?_;have g:=((g.mono i).mono H).mono I;split;{exact .slice _ _ g};exact .slice _ _ (g.add _)|_=>exact ab.stuck)|_=>cases h<;>exact ab.stuck
theorem yj(t:Xv){mx:Option Xd}(h:ai c r x x')(m:j6 c r lo lo')(o:j6 c r hi hi')(p:j6 c r mx mx'):ab P c r (Instr.sliceAt t x lo hi mx) (Instr.sliceAt t x' lo' hi' mx') (ai c):=by refine ab.bind (ab.cQ (aE t)) λE d s f w=>?_;subst w;have k:=Ei (P:=P) t (h.mono f) (m.mono f) (o.mono f) (p.mono f);cases s with|array n g=>refine ab.bind (ab.sureAddr (h.mono f)) λF a A j i=>?_;refine ab.bind (ab.sliceBounds _ _ _ ((m.mono f).mono j) ((o.mono f).mono j) ((p.mono f).mono j)) λG z y u e=>?_;obtain⟨rfl,_⟩:=e;refine ab.bind (ab.cQ (bA g)) λH q D v e=>?_;subst e;refine ab.pure ?_;have i:=(i.mono u).mono v;split;{exact .slice _ _ i};exact .slice _ _ (i.add _)|_=>exact k
end
section
variable{c:dI}{r:bC}
def jP(P:Xz)(t:Xv):Bool:=match(P.info? t).bind (·.zero)with|some z=>jW 100 z|none=>W8
theorem uU(h:jP P t=W8):∀z,(P.info? t).bind (·.zero)=W1 z->Flat z:=λz a=>by unfold jP at h;rw[a]at h;exact iA h
theorem Flat.vs(h:Flat z)(c:dI)(r:bC):aj c r z.cells z.cells:=aj.cells (h c r)
theorem ab.zero(h:jP P t=W8):ab P c r (zeroValue t) (zeroValue t) λ_ a b=>b=a/\Flat a:=ab.e8 (sL t (uU h))
theorem BQ(h:jP P t=W8):ab P c r (Instr.alloc t W8 (.tuple #[])) (Instr.alloc t W8 (.tuple #[])) (ai c):=Dm t (uU h)
structure Bj(c:dI)(r:bC)(x x':Array (Nat×Xd)):Prop where
 idx:x.toList.map (·.1)=x'.toList.map (·.1)
 val:aj c r (x.toList.map (·.2)).toArray (x'.toList.map (·.2)).toArray
theorem Bj.mono{r r':bC}(h:r.le r'){x x':Array (Nat×Xd)}(k:Bj c r x x'):Bj c r' x x':=⟨k.idx,k.val.mono h⟩
theorem lj(a:Nat->Option (Nat×Nat)){x x':Array (Nat×Xd)}(h:Bj c r x x'){z z':Array Xd}(e:aj c r z z'):Instr.fill a z x.toList=Option.none\/∃y d,Instr.fill a z x.toList=W1 y/\Instr.fill a z' x'.toList=W1 d/\aj c r y d:=by have:=yf a x.toList x'.toList e h.idx h.val;grind
theorem ER(l:List ε)(f:ε->XN ζ)(h:∀x∈l,lC P (f x)):lC P (l.mapM f):=by induction l with|nil=>trivial|cons x l b=>rw[List.mapM_cons];exact(h x Θ).bind λ_=>(b λy a=>h y (by simp[a])).bind λ_=>trivial
theorem A3(l:Array ε)(f:ε->XN ζ)(h:∀x∈l,lC P (f x)):lC P (l.mapM f):=by rw[Array.mapM_eq_mapM_toList];exact lC.bind (ER _ _ λx a=>h x (by simp_all)) λ_=>trivial
theorem Ex(B:jP P t=W8){x x':Array (Nat×Xd)}(h:Bj c r x x'):ab P c r (Instr.build t x) (Instr.build t x') (ai c):=by unfold Instr.build;refine ab.bind (ab.zero B) λD z F q g=>?_;obtain⟨rfl,g⟩:=g;refine ab.bind (ab.cQ (aE t)) λE d v s A=>?_;subst A;cases v with|struct w=>refine ab.bind (ab.cQ (A3 w _ λf _=>(bA f.type).bind λ_=>trivial)) λp u j m o=>?_;subst o;rcases lj (j[·]?) (((h.mono q).mono s).mono m) (g.vs c p)with e|⟨y,C,e,l,k⟩;{simp only[e];exact ab.stuck};simp only[e,l];exact ab.pure (.sP k)|array n b=>refine ab.bind (ab.cQ (bA b)) λp u j m o=>?_;subst o;rcases lj (λi=>W1 (i*j,j)) (((h.mono q).mono s).mono m) (g.vs c p)with e|⟨y,C,e,l,k⟩;{simp only[e];exact ab.stuck};simp only[e,l];exact ab.pure (.sP k)|_=>exact ab.stuck
theorem aj.range{x x':Array Xd}(h:aj c r x x')(n:Nat):aj c r ((Array.range n).map (x[·%x.size]!)) ((Array.range n).map (x'[·%x'.size]!)):=by refine aj.map _ _ _ λi _=>?_;rw[<-h.size];rw[XI,XI];exact h.getD _ (by exact .bool WI)
theorem tb(E:∀e,P.underlying t=W1 (.slice e)->jP P e=W8){x x':Array (Nat×Xd)}(h:Bj c r x x'):ab P c r (Instr.buildSlice t n x) (Instr.buildSlice t n x') (ai c):=by unfold Instr.buildSlice;refine ab.bind (ab.e8 (aX t)) λH d B u s=>?_;obtain⟨rfl,s⟩:=s;cases B with|slice l=>refine ab.bind (ab.cQ (bA l)) λI m j v D=>?_;subst D;refine ab.ite (λ_ _ _ _=>rfl) λ_=>?_;refine ab.ite (λ_=>?_) λ_=>?_;{refine ab.bind (Q:=λ_ a b=>b=a/\∀r,aj c r a a) (ab.pure ⟨rfl,λ_=>.empty⟩) λw z A p g=>?_;obtain⟨rfl,g⟩:=g;rcases lj (λi=>W1 (i*j,j)) (((h.mono u).mono v).mono p) (aj.range (g w) (n*j))with e|⟨y,G,e,o,k⟩;{simp only[e];exact ab.stuck};simp only[e,o];exact ab.bind (ab.newRow k) λ_ _ _ _ q=>ab.pure (.slice _ _ q)};refine ab.bind (ab.zero (E _ s)) λw z A p g=>?_;obtain⟨rfl,g⟩:=g;refine ab.bind (Q:=λ_ a b=>b=a/\∀r,aj c r a a) (ab.pure ⟨rfl,λr=>g.vs c r⟩) λF z A C g=>?_;obtain⟨rfl,g⟩:=g;rcases lj (λi=>W1 (i*j,j)) (((h.mono u).mono v).mono (bC.le_trans p C)) (aj.range (g F) (n*j))with e|⟨y,G,e,o,k⟩;{simp only[e];exact ab.stuck};simp only[e,o];exact ab.bind (ab.newRow k) λ_ _ _ _ q=>ab.pure (.slice _ _ q)|_=>exact ab.stuck
theorem yO:ab P c r (Instr.makeMap t Xh) (Instr.makeMap t Xh) (ai c):=ab.bind (ab.newObj (.map 0 rfl λi e b h=>by simp at h)) λ_ _ _ _ h=>ab.pure (.map h.1)
theorem ab.mN{f:α->XN β}{y:XN γ}{Q:bC->β->γ->Prop}:ab P c r (Go.runtimePanic e>>=f) y Q:=ab.never (gB (dZ e))
theorem uE(C:∀e,P.underlying t=W1 (.slice e)->jP P e=W8)(h:ai c r x x')(k:ai c r y y'):ab P c r (Instr.makeSlice t x y) (Instr.makeSlice t x' y') (ai c):=by unfold Instr.makeSlice;refine ab.bind (ab.e8 (aX t)) λN d s o m=>?_;obtain⟨rfl,m⟩:=m;cases s with|slice j=>refine ab.bind (ab.asInt (h.mono o)) λO a E u l=>?_;subst l;refine ab.bind (ab.asInt ((k.mono o).mono u)) λR b F G w=>?_;subst w;refine ab.bind (ab.cQ (dJ j)) λS i L H A=>?_;subst A;simp only[];refine ab.ite (λ_=>?_) λ_=>?_;{refine ab.ite (λ_=>ab.mN) λ_=>?_;refine ab.ite (λ_=>ab.mN) λ_=>?_;exact ab.bind (ab.cQ (iC _)) λ_ _ _ _ _=>ab.mN};refine ab.bind (ab.cQ (pN _)) λT _ _ I _=>?_;refine ab.bind (ab.cQ (bA j)) λU n M J B=>?_;subst B;refine ab.ite (λ_=>?_) λ_=>?_;{refine ab.bind (Q:=λ_ a b=>b=a/\∀r,aj c r a a) (ab.pure ⟨rfl,λ_=>.empty⟩) λp z q v g=>?_;obtain⟨rfl,g⟩:=g;exact ab.bind (ab.newRow (aj.range (g p) _)) λ_ _ _ _ l=>ab.pure (.slice _ _ l)};refine ab.bind (ab.zero (C _ m)) λp z q v g=>?_;obtain⟨rfl,g⟩:=g;refine ab.bind (Q:=λ_ a b=>b=a/\∀r,aj c r a a) (ab.pure ⟨rfl,λr=>g.vs c r⟩) λD z q K g=>?_;obtain⟨rfl,g⟩:=g;exact ab.bind (ab.newRow (aj.range (g D) _)) λ_ _ _ _ l=>ab.pure (.slice _ _ l)|_=>exact ab.stuck
end
section
variable{c:dI}{r:bC}
theorem Jy(ats:Array Xv)(t:Xv){x x':Array Xd}(h:aj c r x x'):ab P c r (XJ.len_ ats t x) (XJ.len_ ats t x') (ai c):=by unfold XJ.len_;cases ats[0]? with|none=>exact ab.stuck|some s=>cases w:x[0]? with|none=>exact ab.stuck|some v=>obtain⟨D,e,k⟩:=h.get w;simp only[e];refine ab.bind (ab.cQ (aE s)) λB d g i j=>?_;subst j;have k:=k.mono i;cases g with|string=>(cases k<;>first|exact ab.pure (.int _ _)|exact ab.stuck)|array n e=>exact ab.pure (.int _ _)|pointer f=>refine ab.bind (ab.cQ (aE f)) λC u y z q=>?_;subst q;(cases y<;>first|exact ab.pure (.int _ _)|exact ab.stuck)|slice e=>(cases k<;>first|exact ab.pure (.int _ _)|exact ab.stuck)|map a b=>(cases k with|kT=>exact ab.pure (.int _ _)|map p=>refine ab.getObj p λo A _ m l=>?_;(cases m with|map k s _=>simp only[s];exact ab.pure (.int _ _)|cells _ _ _=>exact absurd rfl (l _ _ _)|_=>exact ab.stuck)|_=>exact ab.stuck)|chan a b=>cases k<;>exact ab.stuck|_=>exact ab.stuck
theorem ab.max2(h:ai c r x x')(k:ai c r y y'):ab P c r (XJ.max2 x y) (XJ.max2 x' y') (ai c):=by cases h with|int a b=>(cases k<;>first|exact ab.pure (.int _ _)|exact ab.stuck|exact ab.unsupported)|string a=>(cases k with|string b=>refine ab.bind (ab.flat (kD .geq a b)) λi u l f d=>?_;exact ab.bind (ab.asBool d) λj z m g e=>by subst e;exact ab.pure (.string _)|ptr _=>exact ab.unsupported|_=>exact ab.stuck)|ptr _=>exact ab.unsupported|_=>cases k<;>first|exact ab.stuck|exact ab.unsupported
theorem ab.min2(h:ai c r x x')(k:ai c r y y'):ab P c r (XJ.min2 x y) (XJ.min2 x' y') (ai c):=by cases h with|int a b=>(cases k<;>first|exact ab.pure (.int _ _)|exact ab.stuck|exact ab.unsupported)|string a=>(cases k with|string b=>refine ab.bind (ab.flat (kD .leq a b)) λi u l f d=>?_;exact ab.bind (ab.asBool d) λj z m g e=>by subst e;exact ab.pure (.string _)|ptr _=>exact ab.unsupported|_=>exact ab.stuck)|ptr _=>exact ab.unsupported|_=>cases k<;>first|exact ab.stuck|exact ab.unsupported
theorem ab.foldlM{f:Xd->Xd->XN Xd}(g:∀{r:bC}{x x' y y':Xd},ai c r x x'->ai c r y y'->ab P c r (f x y) (f x' y') (ai c)):∀(l e:List Xd){r:bC}{x x':Xd},ai c r x x'->aj c r l.toArray e.toArray->ab P c r (l.foldlM f x) (e.foldlM f x') (ai c)|[],[],r,x,x',h,_=>ab.pure h|[],_::_,r,x,x',h,d=>by have:=d.size;grind|_::_,[],r,x,x',h,d=>by have:=d.size;grind|y::l,y'::e,r,x,x',h,d=>by rw[WW,WW];refine ab.bind (g h (d.el 0 y y' Θ Θ)) λn z o i k=>?_;exact ab.foldlM g l e k ((⟨by have:=d.size;simp_all,λj u m a b=>d.el (j+1) u m (by grind) (by grind)⟩:aj c r l.toArray e.toArray).mono i)
theorem JV(ats:Array Xv)(t:Xv){x x':Array Xd}(h:aj c r x x'):ab P c r (XJ.max_ ats t x) (XJ.max_ ats t x') (ai c):=by obtain⟨l⟩:=x;obtain⟨d⟩:=x';unfold XJ.max_;match l,d,h with|[],[],_=>exact ab.stuck|[],_::_,h=>have:=h.size;grind|_::_,[],h=>have:=h.size;grind|y::l,f::d,h=>exact ab.foldlM ab.max2 l d (h.el 0 y f Θ Θ) ⟨by have:=h.size;simp_all,λj u e a b=>h.el (j+1) u e (by grind) (by grind)⟩
theorem KU(ats:Array Xv)(t:Xv){x x':Array Xd}(h:aj c r x x'):ab P c r (XJ.min_ ats t x) (XJ.min_ ats t x') (ai c):=by obtain⟨l⟩:=x;obtain⟨d⟩:=x';unfold XJ.min_;match l,d,h with|[],[],_=>exact ab.stuck|[],_::_,h=>have:=h.size;grind|_::_,[],h=>have:=h.size;grind|y::l,f::d,h=>exact ab.foldlM ab.min2 l d (h.el 0 y f Θ Θ) ⟨by have:=h.size;simp_all,λj u e a b=>h.el (j+1) u e (by grind) (by grind)⟩
theorem ab.lenOf(h:ai c r x x'):ab P c r (XJ.lenOf x) (XJ.lenOf x') λ_ a b=>b=a/\∀q,x=.slice (W1 q) 0 0->a=0:=by cases h<;>first|exact ab.pure ⟨rfl,λq e=>by cases e;rfl⟩|exact ab.pure ⟨rfl,λq e=>by cases e⟩|exact ab.stuck
theorem ab.vl(size:Nat)(h:ai c r x x'):ab P c r (XJ.firstCells size 0 x) (XJ.firstCells size 0 x') λ_ a b=>a=#[]/\b=#[]:=by unfold XJ.firstCells;rw[WH];cases h<;>first|exact ab.pure ⟨rfl,rfl⟩|exact ab.stuck|(refine ab.pure ⟨?_,?_⟩<;>simp)
theorem ab.firstCells(size n:Nat)(h:ai c r x x')(j:∀q,x=.slice (W1 q) 0 0->n=0):ab P c r (XJ.firstCells size n x) (XJ.firstCells size n x') (aj c):=by cases h with|gv _ _=>exact ab.pure .empty|cG a d=>obtain rfl:=j a rfl;exact(ab.vl size (.cG a d)).mono λ_ x y _⟨e,f⟩=>by rw[e,f];exact .empty|slice _ _ g=>exact ab.loadCells g _|string s=>refine ab.pure ?_;refine⟨rfl,λi v k a b=>?_⟩;rw[a]at b;cases b;rw[VA]at a;obtain⟨z,_,rfl⟩:=Uw.1 a;exact .int _ _|_=>exact ab.stuck
theorem aj.zeroCells(h:Flat z)(n:Nat):aj c r (XJ.zeroCells z.cells n) (XJ.zeroCells z.cells n):=by unfold XJ.zeroCells;exact aj.range (h.vs c r) _
end
section
variable{c:dI}{r:bC}
theorem ab.FB{x:XN α}{f:α->XN β}{y:XN γ}{Q:bC->β->γ->Prop}(h:kY P x):ab P c r (x>>=f) y Q:=ab.never (gB h)
theorem lN(a:XR)(n:Nat):gk P (XJ.holdsCells a n):=(Bz _).bind λs=>by cases s<;>exact dK _
theorem uG(size sl n:Nat)(base:Option XR)(x:Xd):gk P (XJ.mayShare size sl n base x):=by(have d:∀b:Bool,gk P (if(!b)=W8 then Pure.pure W8 else match x with|.slice (W1 b) _ _=>(do Pure.pure (!(<-XJ.holdsCells b (n*size))||base.any (·.block==b.block)))|_=>Pure.pure WI):=λb=>by split;{exact dK _};split;{exact(lN _ _).bind λ_=>dK _};exact dK _);unfold XJ.mayShare;cases base with|none=>grind|some a=>exact gk.bind (lN _ _) λu=>gk.bind (y6 _) λv=>gk.bind (dK _) λb=>d b
theorem AO{ats:Array Xv}(ht:∀s e,ats[0]?=W1 s->P.underlying s=W1 (.slice e)->jP P e=W8)(hn:∀s k,ats[1]?=W1 s->P.underlying s≠W1 (.int k)){x x':Array Xd}(h:aj c r x x'):ab P c r (XJ.append_ ats t x) (XJ.append_ ats t x') (ai c):=by unfold XJ.append_;cases hs:ats[0]? with|none=>exact ab.stuck|some s=>cases hx:x[0]? with|none=>exact ab.stuck|some v=>obtain⟨v',X,kv⟩:=h.get hx;simp only[X];cases hy:x[1]? with|none=>exact ab.stuck|some u=>obtain⟨u',W,A⟩:=h.get hy;simp only[W];refine ab.bind (ab.e8 (aX s)) λR d M l H=>?_;obtain⟨rfl,H⟩:=H;cases M with|slice f=>have hz:=ht s f hs H;have O:=kv.mono l;have kx:=O;cases O;(case gv|slice|cG=>refine ab.bind (ab.cQ (bA f)) λr2 T K B e=>?_;subst e;cases Z:ats[1]?;(case' some xt=>refine ab.bind (ab.e8 (aX xt)) λr0 d M Y w=>?_;obtain⟨rfl,w⟩:=w;replace B:=bC.le_trans B Y);all_goals refine ab.bind (Q:=λ_ a b=>b=a/\a=WI) (ab.pure ⟨rfl,by first|rfl|grind⟩) λr3 zs zs' N e=>?_;obtain⟨rfl,rfl⟩:=e;refine ab.bind (ab.lenOf ((A.mono l).mono (bC.le_trans B N))) λr4 n n' h4 e=>?_;obtain⟨rfl,E⟩:=e;have j:R.le r4:=bC.le_trans (bC.le_trans B N) h4;refine ab.ite (λI=>?_) λ_=>?_;{first|exact ab.bind (ab.firstCells _ _ ((A.mono l).mono j) E) λJ z V m g=>ab.pure (.gv _ _)|exact ab.bind (ab.firstCells _ _ ((A.mono l).mono j) E) λJ z V m g=>ab.bind (ab.storeCells 0 ((dB.mono (bC.le_trans j m) (by assumption)).add _) (by omega)) λS _ _ C _=>ab.pure (.slice _ _ (dB.mono (bC.le_trans j (bC.le_trans m C)) (by assumption)))|(obtain rfl:n'=0:=by omega);refine ab.bind (ab.vl _ ((A.mono l).mono j)) λJ z V m g=>?_;obtain⟨rfl,rfl⟩:=g;exact ab.bind (Q:=λ_ _ _=>True) (ab.pure trivial) λS _ _ C _=>ab.pure (.cG _ _)};·refine ab.bind (ab.cQ (dJ f)) λJ i i' m e=>?_;subst e;refine ab.ite (λ_=>ab.mN) λ_=>?_;refine ab.bind (ab.cQ (dJ f)) λS i2 i2' C e=>?_;subst e;refine ab.ite (λ_=>ab.FB (by simp only[UK,if_false];exact dV (uG _ _ _ _ _) λ_=>by split<;>first|exact eY|exact dV (λ_ _ _ e=>by cases e) λ_=>eY)) λ_=>?_;refine ab.bind (ab.cQ (iC _)) λr7 nc nc' h7 e=>?_;subst e;refine ab.bind (ab.cQ (dJ f)) λr8 i3 i3' h8 e=>?_;subst e;refine ab.bind (ab.cQ (pN _)) λr9 _ _ h9 _=>?_;have y:R.le r9:=bC.le_trans j (bC.le_trans m (bC.le_trans C (bC.le_trans h7 (bC.le_trans h8 h9))));refine ab.bind (ab.firstCells _ _ (kx.mono y) (λq e=>by first|rfl|(cases e;done)|grind)) λr10 o o' F ho=>?_;refine ab.bind (ab.firstCells _ _ ((A.mono l).mono (bC.le_trans y F)) E) λr11 q q' G hq=>?_;refine ab.bind (ab.zero hz) λr12 zz zz' p g=>?_;obtain⟨rfl,g⟩:=g;exact ab.bind (ab.newRow ((((ho.mono G).mono p).append (hq.mono p)).append (aj.zeroCells g _))) λ_ _ _ _ ha=>ab.pure (.slice _ _ ha));all_goals exact ab.stuck|_=>exact ab.stuck
theorem ab.checkKey(b g:Bool)(f:fp P t=W8)(n:Nat):ab P c r (Instr.checkKey b (n+1) t x) (Instr.checkKey g (n+1) t x') λ_ _ _=>True:=by refine ab.bind (ab.e8 (aX t)) λj d h i e=>?_;obtain⟨rfl,e⟩:=e;unfold fp at f;rw[e]at f;cases h with|int k=>exact ab.pure trivial|string=>exact ab.pure trivial|bool=>exact ab.pure trivial|_=>simp at f
theorem ze(d:TypeDesc)(h:ai c r x x')(k:ai c r y y'):Instr.sameNow d x' y'=Instr.sameNow d x y:=by cases h<;>cases k<;>first|rfl|(cases d<;>rfl)
def lQ(c:dI)(r:bC)(x x':Array XZ):Prop:=x.size=x'.size/\∀(i:Nat)(e e':XZ),x[i]?=W1 e->x'[i]?=W1 e'->Fl c r e e'
theorem lQ.mono{r r':bC}(h:r.le r'){x x':Array XZ}(k:lQ c r x x'):lQ c r' x x':=⟨k.1,λi e d a b=>(k.2 i e d a b).mono h⟩
def LU(c:dI)(r:bC):Option (Nat×Xd)->Option (Nat×Xd)->Prop
 |none,Xh=>True
 |some (i,v),W1 (i',v')=>i'=i/\ai c r v v'
 |_,_=>False
theorem qJ(d:TypeDesc)(h:ai c r x x'):∀(l m:List XZ)(i:Nat),lQ c r l.toArray m.toArray->
 match Instr.findNow d x l i with|some z=>∃p,Instr.findNow d x' m i=W1 p/\LU c r z p|none=>Instr.findNow d x' m i=Xh
 |[],[],i,_=>⟨Xh,rfl,trivial⟩
 |[],_::_,_,k=>by have:=k.1;grind
 |_::_,[],_,k=>by have:=k.1;grind
 |e::l,q::m,i,k=>by
   have o:=k.2 0 e q Θ Θ
   have n:lQ c r l.toArray m.toArray:=⟨by have:=k.1;simp_all,λj u s a b=>k.2 (j+1) u s (by grind) (by grind)⟩
   unfold Instr.findNow
   rw[ze d h o.key]
   cases Instr.sameNow d x e.key with
   |none=>rfl
   |some b=>
     cases b with
     |true=>exact⟨_,rfl,rfl,o.val⟩
     |false=>exact qJ d h l m (i+1) n
theorem ab.findAsking(n:Fits P c)(p:fp P t=W8):∀(l g:List XZ)(i:Nat){r:bC}{x x':Xd},ai c r x x'->lQ c r l.toArray g.toArray->ab P c r (Instr.findAsking t x l i) (Instr.findAsking t x' g i) (LU c)|[],[],i,r,x,x',h,_=>ab.pure trivial|[],_::_,_,r,x,x',h,f=>by have:=f.1;grind|_::_,[],_,r,x,x',h,f=>by have:=f.1;grind|e::l,q::g,i,r,x,x',h,f=>by have o:=f.2 0 e q Θ Θ;have m:lQ c r l.toArray g.toArray:=⟨by have:=f.1;simp_all,λj u v a b=>f.2 (j+1) u v (by grind) (by grind)⟩;refine ab.bind (ab.equal n p h o.key) λy b w k s=>?_;subst s;exact ab.ite (λ_=>ab.pure ⟨rfl,o.val.mono k⟩) λ_=>ab.findAsking n p l g (i+1) (h.mono k) (m.mono k)
theorem ab.findKey(j:Fits P c)(n:fp P t=W8){l l':List XZ}(h:ai c r x x')(g:lQ c r l.toArray l'.toArray):ab P c r (Instr.findKey t x l) (Instr.findKey t x' l') (LU c):=by refine ab.bind (ab.cQ (aE t)) λo d f b m=>?_;subst m;have:=qJ f (h.mono b) l l' 0 (g.mono b);cases e:Instr.findNow f x l 0 with|none=>rw[e]at this;simp only[this];exact ab.findAsking j n l l' 0 (h.mono b) (g.mono b)|some z=>rw[e]at this;obtain⟨p,i,k⟩:=this;simp only[i];exact ab.pure k
theorem AQ{ok:Bool}(O:Fits P c)(Z:∀k e,P.underlying t=W1 (.map k e)->fp P k=W8/\jP P e=W8)(h:ai c r x x')(k:ai c r y y'):ab P c r (Instr.lookup t x y ok) (Instr.lookup t x' y' ok) (ai c):=by refine ab.bind (ab.e8 (aX t)) λr1 d S F I=>?_;obtain⟨rfl,I⟩:=I;cases S with|map J q=>obtain⟨C,R⟩:=Z J q I;let B(A:bC)(a b:Xd×Bool):Prop:=ai c A a.1 b.1/\b.2=a.2;(cases h.mono F with|kT=>refine ab.bind (Q:=λA a b=>lQ c A a b) (ab.pure ⟨rfl,λi e e' a=>by simp at a⟩) λr2 T E G m=>?_;refine ab.bind (ab.checkKey _ _ C 9999) λr3 _ _ w _=>?_;refine ab.bind (ab.findKey O C (k.mono (bC.le_trans F (bC.le_trans G w))) (by simpa using m.mono w)) λr4 z N U p=>?_;(match z,N,p with|none,Xh,_=>refine ab.bind (ab.zero R) λK u u' V n=>?_;obtain⟨rfl,n⟩:=n;refine ab.bind (Q:=B) (ab.pure ⟨n c K,rfl⟩) λL a b H g=>?_;obtain⟨v,o⟩:=a;obtain⟨j,f⟩:=g;subst f;refine ab.pure ?_;split;{exact .kO (aj.push (aj.single j) (.bool _))};{exact j}|some (_,_),W1 (_,_),p=>refine ab.bind (Q:=B) (ab.pure ⟨p.2,rfl⟩) λL a b H g=>?_;obtain⟨v,o⟩:=a;obtain⟨j,f⟩:=g;subst f;refine ab.pure ?_;split;{exact .kO (aj.push (aj.single j) (.bool _))};·exact j)|map Y=>refine ab.getObj Y λo D _ X W=>?_;(cases X with|map kk s e=>refine ab.bind (Q:=λA a b=>lQ c A a b) (ab.pure ⟨s,e⟩) λr2 T E G m=>?_;refine ab.bind (ab.checkKey _ _ C 9999) λr3 _ _ w _=>?_;refine ab.bind (ab.findKey O C (k.mono (bC.le_trans F (bC.le_trans G w))) (by simpa using m.mono w)) λr4 z N U p=>?_;(match z,N,p with|none,Xh,_=>refine ab.bind (ab.zero R) λK u u' V n=>?_;obtain⟨rfl,n⟩:=n;refine ab.bind (Q:=B) (ab.pure ⟨n c K,rfl⟩) λL a b H g=>?_;obtain⟨v,o⟩:=a;obtain⟨j,f⟩:=g;subst f;refine ab.pure ?_;split;{exact .kO (aj.push (aj.single j) (.bool _))};{exact j}|some (_,_),W1 (_,_),p=>refine ab.bind (Q:=B) (ab.pure ⟨p.2,rfl⟩) λL a b H g=>?_;obtain⟨v,o⟩:=a;obtain⟨j,f⟩:=g;subst f;refine ab.pure ?_;split;{exact .kO (aj.push (aj.single j) (.bool _))};·exact j)|cells _ _ _=>exact absurd rfl (W _ _ _)|_=>exactλ_ _ _=>rfl)|_=>exactλ_ _ _=>rfl)|_=>exact ab.stuck
end
section
variable{c:dI}{r:bC}
def MI:Xd->Bool
 |.string _|.bool _=>W8
 |_=>WI
def BS(P:Xz)(t:Xv):Bool:=match P.underlying t with|some .string|some .bool=>W8|_=>WI
theorem A8(h:BS P t=W8):fp P t=W8:=by unfold BS at h;unfold fp;grind
theorem wh(n:Nat)(h:ai c r x x')(k:ai c r y y')(b:MI y=W8):Instr.sameBits n x' y'=Instr.sameBits n x y:=by cases k<;>simp[MI]at b<;>cases h<;>cases n<;>rfl
theorem ab.FM(b:BS P t=W8)(i:MI x=WI)(l h:List XZ)(k:lQ c r l.toArray h.toArray):ab P c r (Instr.findKey t x l) (Instr.findKey t x' h) λ_ u n=>u=Xh/\n=Xh:=by unfold BS at b;cases g:P.underlying t with|none=>rw[g]at b;simp at b|some d=>rw[g]at b;unfold Instr.findKey;refine ab.bind (ab.e8 (aX t)) λq o j p f=>?_;obtain⟨rfl,f⟩:=f;rw[g]at f;cases f;cases l with|nil=>(have:h=[]:=by have:=k.1;grind);subst this;exact ab.pure ⟨rfl,rfl⟩|cons e l=>(have m:Instr.findNow d x (e::l) 0=Xh:=by(have:Instr.sameNow d x e.key=Xh:=by cases d<;>simp at b<;>cases x<;>simp[MI]at i<;>rfl);simp[Instr.findNow,this]);simp only[m];refine ab.never ?_;unfold Instr.findAsking;refine gB ?_;show kY P (Op.equalIn (9999+1) t x e.key);unfold Op.equalIn;intro w;rw[XN.run_bind,j1 g w];cases d<;>simp at b<;>cases x<;>simp[MI]at i<;>exact⟨_,_,rfl,rfl⟩
theorem uC(hc:Fits P c)(ht:∀k e,P.underlying t=W1 (.map k e)->BS P k=W8){z':Xd}(h:ai c r x x')(k:ai c r y y')(l:ai c r z z'):ab P c r (Instr.mapUpdate t x y z) (Instr.mapUpdate t x' y' z') λ_ _ _=>True:=by unfold Instr.mapUpdate;refine ab.bind (ab.e8 (aX t)) λr1 d d' R S=>?_;obtain⟨rfl,S⟩:=S;cases d' with|map A E=>have G:=ht A E S;have hk:=A8 G;(cases h.mono R with|kT=>exact ab.runtimePanic|map I=>refine ab.getObj I λo o' ns ho X=>?_;(cases ho with|map kk s e=>rename_i F m;have g:lQ c r1 F m:=⟨s,e⟩;refine ab.bind (ab.checkKey _ _ hk 9999) λr2 _ _ C _=>?_;have B:=(k.mono R).mono C;(have w:ab P c r2 (Instr.findKey A y F.toList) (Instr.findKey A y' m.toList) λZ u M=>LU c Z u M/\(MI y=WI->u=Xh):=by by_cases hy:MI y=WI;{refine(ab.FM G hy _ _ (by simpa using g.mono C)).mono λZ u M _ h=>?_;obtain⟨rfl,rfl⟩:=h;exact⟨trivial,λ_=>rfl⟩};exact(ab.findKey hc hk B (by simpa using g.mono C)).mono λZ u M _ h=>⟨h,λe=>absurd e hy⟩);refine ab.bind w λr3 u M N J=>?_;obtain⟨J,K⟩:=J;have B:=B.mono N;have lr:=((l.mono R).mono C).mono N;have g:=(g.mono C).mono N;have I:=N _ _ (C _ _ I);(match u,M,J,K with|none,Xh,_,_=>refine ab.setObj I ns (.map (kk+1) (by grind) λi e O a b=>?_) rfl;rw[UX]at a b;rw[<-g.1]at b;split at a;{cases a;rw[if_pos ‹_›]at b;cases b;exact⟨B,lr,rfl⟩};{rw[if_neg ‹_›]at b;exact g.2 i e O a b}|some (i,_),W1 (v,_),J,K=>(have Y:MI y=W8:=by simp_all);obtain⟨W,_⟩:=J;subst W;(have p:ai c r3 (((F[v]?).map (·.key)).getD y) (((m[v]?).map (·.key)).getD y'):=by cases V:F[v]? with|none=>simp_all|some Q=>(have H:v<m.size:=by grind);have:=g.2 v Q m[v] V (Ux H);rw[Ux H];exact this.key);(have L:ab P c r3 (Instr.keyThatStays (((F[v]?).map (·.key)).getD y) y) (Instr.keyThatStays (((m[v]?).map (·.key)).getD y') y') (ai c):=by unfold Instr.keyThatStays;rw[wh 10000 p B Y];refine ab.ite (λ_=>ab.pure B) λ_=>?_;refine ab.bind (ab.cQ (iC _)) λr4 n n' D X=>?_;subst X;refine ab.pure ?_;split;{exact B.mono D};exact p.mono D);refine ab.bind L λr4 q q' D hq=>?_;refine ab.setObj (D _ _ I) ns (.map kk (by grind) λj e O a b=>?_) rfl;rw[Ve]at a b;split at a;{rw[if_pos ‹_›]at b;obtain⟨Q,T,rfl⟩:=Uw.1 a;obtain⟨e1,U,rfl⟩:=Uw.1 b;exact⟨hq,lr.mono D,((g.2 j Q e1 T U).born)⟩};·rw[if_neg ‹_›]at b;exact(g.2 j e O a b).mono D)|cells _ _ _=>exact absurd rfl (X _ _ _)|_=>exactλ_ _ _=>rfl)|_=>exact ab.stuck)|_=>exact ab.stuck
theorem EJ(k:P.underlying t=W1 .string)(h:ai c r x x'):ab P c r (Instr.range t x) (Instr.range t x') (ai c):=by unfold Instr.range;refine ab.bind (ab.e8 (aX t)) λv d n i f=>?_;obtain⟨rfl,f⟩:=f;rw[k]at f;cases f;cases h.mono i with|string s=>exact ab.bind (Q:=λl a b=>l4 c l a b) (ab.pure (.iter s 0)) λw o u p j=>ab.bind (ab.newObj j) λy b m q g=>ab.pure (.ptr ⟨g.1,rfl,rfl,Vq g.2⟩)|_=>exactλ_ _ _=>rfl
theorem GY(h:ai c r x x'):ab P c r (Instr.next x W8 t) (Instr.next x' W8 t) (ai c):=by unfold Instr.next;cases h with|ptr m=>rename_i a l;obtain⟨b,v,k⟩:=a;obtain⟨w,e,i⟩:=l;obtain⟨g,f,j,-⟩:=m;simp only at g f j;subst f j;(cases e with|succ n=>exact ab.stuck|zero=>refine ab.getObj g λo z u f q=>?_;cases f with|iter s p=>refine ab.ite (λ_=>?_) λ_=>ab.pure (.kO (aj.single (.bool _)));refine ab.bind (ab.setObj g u (.iter s _) rfl) λA _ _ y _=>ab.pure (.kO ?_);exact((aj.single (.bool _)).push (.int _ _)).push (.int _ _)|cells _ _ _=>exact absurd rfl (q _ _ _)|_=>exact ab.stuck)|_=>exact ab.stuck
theorem pW:∀(l l':List Xd){r:bC},l.length=l'.length->(∀(i:Nat)(v v':Xd),l[i]?=W1 v->l'[i]?=W1 v'->ai c r v v')->∀s:ByteArray,ab P c r (forIn l s λc r=>(match c with|.int .u8 n=>Pure.pure (ForInStep.yield (r.push (UInt8.ofNat n.toNat)))|_=>(λ_:PUnit=>ForInStep.yield r)<$>stuck "bytesToString: byte expected" :XN (ForInStep ByteArray))) (forIn l' s λc r=>(match c with|.int .u8 n=>Pure.pure (ForInStep.yield (r.push (UInt8.ofNat n.toNat)))|_=>(λ_:PUnit=>ForInStep.yield r)<$>stuck "bytesToString: byte expected" :XN (ForInStep ByteArray))) λ_ x y=>x=y|[],[],_,_,_,s=>by rw[List.forIn_nil];exact ab.pure rfl|[],_::_,_,h,_,_=>by cases h|_::_,[],_,h,_,_=>by cases h|v::l,v'::l',r,h,hv,s=>by rw[List.forIn_cons,List.forIn_cons];have h0:ai c r v v':=hv 0 v v' rfl rfl;have hl:∀(i:Nat)(u u':Xd),l[i]?=W1 u->l'[i]?=W1 u'->ai c r u u':=λi u u' a b=>hv (i+1) u u' a b;refine ab.bind (Q:=λ_(x y:ForInStep ByteArray)=>x=y/\∃z,x=.yield z) ?_ λr1 x y hle e=>?_;{cases h0 with|int k n=>(cases k<;>first|exact ab.pure ⟨rfl,_,rfl⟩|exactλ_ _ _=>rfl)|_=>exactλ_ _ _=>rfl};obtain⟨rfl,z,rfl⟩:=e;exact pW l l' (by simpa using h) (λi u u' a b=>(hl i u u' a b).mono hle) z
theorem oN(h:ai c r x x'):ab P c r (Conv.bytesToString x) (Conv.bytesToString x') (ai c):=by(have key:∀{a a':XR}{n:Nat}{r:bC},ab P c r (Go.loadCells a n) (Go.loadCells a' n) (aj c)->ab P c r (Conv.bytesToString (.slice (W1 a) n 0)) (Conv.bytesToString (.slice (W1 a') n 0)) (ai c):=λ{a a' n r}h=>by unfold Conv.bytesToString;refine ab.bind h λr1 y y' hle hy=>?_;(refine ab.bind (Q:=λ_ x y=>x=y) ?_ λr2 z z' _ e=>by subst e;exact ab.pure (.string _));have:=pW (P:=P) (c:=c) y.toList y'.toList (r:=r1) (by simpa using hy.size) (λi u u' a b=>hy.el i u u' (by simpa using a) (by simpa using b)) ByteArray.empty;simp only[Array.forIn_toList]at this;exact this);cases h with|gv n m=>exact ab.pure (.string _)|slice n m h=>exact key (ab.loadCells h n)|cG a a'=>exact key (n:=0) (ab.pure .empty)|_=>exact ab.stuck
def Fv(P:Xz)(s d:Xv):Bool:=match P.underlying s,P.underlying d with|some (.int _),W1 (.int _)|some (.int _),W1 .string|some .string,W1 .string=>W8|some (.slice e),W1 .string=>(match P.underlying e with|some (.int .u8)=>W8|_=>WI)|_,_=>WI
theorem Ee{e0:Xv}(h:P.underlying e0=W1 (.int .u8))(k:ai c r x x'):ab P c r (do match<-underlying e0 with|.int .u8=>Conv.bytesToString x|.int .i32=>Conv.runesToString x|_=>stuck "Convert: a slice of what to string?") (do match<-underlying e0 with|.int .u8=>Conv.bytesToString x'|.int .i32=>Conv.runesToString x'|_=>stuck "Convert: a slice of what to string?") (ai c):=by refine ab.bind (ab.e8 (aX e0)) λo a i j e=>?_;obtain⟨rfl,e⟩:=e;rw[h]at e;cases e;exact oN (k.mono j)
theorem zr{s d:Xv}(h:Fv P s d=W8)(k:ai c r x x'):ab P c r (convert s d x) (convert s d x') (ai c):=by unfold Go.convert;refine ab.bind (ab.e8 (aX s)) λo a i j e=>?_;obtain⟨rfl,e⟩:=e;refine ab.bind (ab.e8 (aX d)) λp b g l f=>?_;obtain⟨rfl,f⟩:=f;have k:=(k.mono j).mono l;unfold Fv at h;rw[e,f]at h;cases i with|int q=>(cases g with|int n=>(cases k<;>first|exact ab.pure (.int _ _)|exact ab.unsupported)|string=>(cases k<;>first|exact ab.pure (.string _)|exact ab.unsupported)|_=>simp at h)|string=>(cases g with|string=>(cases k<;>first|exact ab.pure (.string _)|exact ab.unsupported)|_=>simp at h)|slice e0=>(cases g with|string=>(have hb:P.underlying e0=W1 (.int .u8):=by simp only at h;split at h;{assumption};cases h);have gen:=λ{y y'}(k:ai c p y y')=>Ee (P:=P) hb k;(cases k with|int k n=>exact ab.pure (.string _)|string s=>exact ab.pure (.string _)|bool b=>exact gen (.bool b)|gn=>exact gen .gn|ptr h=>exact gen (.ptr h)|gv n m=>exact gen (.gv n m)|slice n m h=>exact gen (.slice n m h)|cG a a'=>exact gen (.cG a a')|kT=>exact gen .kT|map h=>exact gen (.map h)|func h1 h2 h3 h4 h5=>exact gen (.func h1 h2 h3 h4 h5)|nilFunc=>exact gen .nilFunc|nilIface=>exact gen .nilIface|iface t h=>exact gen (.iface t h)|agg h1 h2=>exact gen (.agg h1 h2)|tuple h1 h2=>exact gen (.tuple h1 h2))|_=>simp at h)|_=>simp at h
end
section
variable{c:dI}{r:bC}
def cm(c:dI)(gl:Nat->Bool):XG->Bool
 |.tmp _=>W8
 |.const v=>jW 100 v
 |.global g=>gl g
 |.func f=>c.fns f
def ye(P:Xz)(t:Xv):Bool:=match P.underlying t with|some (.slice e)=>jP P e|_=>W8
def Py(P:Xz)(t:Xv):Bool:=match P.underlying t with|some (.map k e)=>fp P k&&jP P e|_=>W8
def N1(P:Xz)(t:Xv):Bool:=match P.underlying t with|some (.map k _)=>BS P k|_=>W8
def BV(P:Xz)(s:Xv)(n:Nat):Bool:=match P.underlying s with|some (.struct fs)=>(match fs[n]? with|some f=>P.cellsOf f.type !=0|none=>W8)|_=>W8
def C3(P:Xz)(t:Option Xv):Bool:=match t with|some s=>(match P.underlying s with|some (.int _)=>WI|_=>W8)|none=>W8
def Nx(P:Xz)(t:Option Xv):Bool:=match t with|some s=>ye P s|none=>W8
def isEq:BinOp->Bool
 |.eql|.neq=>W8
 |_=>WI
def Fe(P:Xz)(t:Xv):Bool:=match P.underlying t with|some .string=>W8|_=>WI
def BW(P:Xz)(c:dI)(gl:Nat->Bool)(k:Call):Bool:=
 k.args.all (cm c gl)&&match k.callee with
 |.value f=>cm c gl f
 |.builtin .len|.builtin .max|.builtin .min=>W8
 |.builtin .append=>Nx P k.argTypes[0]?&&C3 P k.argTypes[1]?
 |_=>WI
def FK(P:Xz):XG->Bool
 |.global g=>decide (g<P.globals.size)
 |_=>WI
def sN(P:Xz)(c:dI)(gl:Nat->Bool)(o:X0):Bool:=
 match o.op with
 |.load _ x=>cm c gl x||FK P x
 |.move x|.assign x|.box _ x|.nilCheck x|.unOp _ _ x|.field _ x _|.extract x _=>cm c gl x
 |.pick a b d=>cm c gl a&&cm c gl b&&cm c gl d
 |.alloc e=>jP P e
 |.build t ps=>jP P t&&ps.all λp=>cm c gl p.2
 |.buildSlice t _ ps=>ye P t&&ps.all λp=>cm c gl p.2
 |.store _ a x|.indexAddr _ a x|.index _ a x=>cm c gl a&&cm c gl x
 |.binOp op t x y _=>cm c gl x&&cm c gl y&&(!isEq op||fp P t)
 |.convert s d x=>Fv P s d&&cm c gl x
 |.makeFunc fn first captured=>Gn c fn&&first.all (cm c gl)&&captured.all (cm c gl)
 |.makeMap _ Xh=>W8
 |.makeSlice t l k=>ye P t&&cm c gl l&&cm c gl k
 |.slice _ x lo hi mx=>cm c gl x&&lo.all (cm c gl)&&hi.all (cm c gl)&&mx.all (cm c gl)
 |.fieldAddr s x n=>BV P s n&&cm c gl x
 |.lookup t x i _=>Py P t&&cm c gl x&&cm c gl i
 |.mapUpdate t m k v=>N1 P t&&cm c gl m&&cm c gl k&&cm c gl v
 |.range t x=>Fe P t&&cm c gl x
 |.next it W8=>cm c gl it
 |.call k=>BW P c gl k
 |_=>WI
inductive xH(c:dI)(r:bC):Next->Next->Prop
 |value{v v':Xd}:ai c r v v'->xH c r (.value v) (.value v')
 |skip:xH c r .skip .skip
 |enter{f:XA}{x x':Array Xd}:c.fns f=W8->aj c r x x'->xH c r (.enter f x) (.enter f x')
def B6(P:Xz)(c:dI):Prop:=
 ∀(f:XA)(fn:Func),c.fns f=W8->P.funcs[f]?=W1 fn->(fn.name== "runtime.NumGoroutine")=WI/\(fn.body=Xh->Extern.findNext fn=Xh/\∃e,Extern.find fn=W1 e/\
   ∀(r:bC)(x x':Array Xd),aj c r x x'->ab P c r (e x) (e x') (ai c))
theorem ab.value{x:XN Xd}{y:XN Xd}(h:ab P c r x y (ai c)):ab P c r (do Pure.pure (Next.value (<-x))) (do Pure.pure (Next.value (<-y))) (xH c):=ab.bind h λ_ _ _ _ k=>ab.pure (.value k)
theorem ab.unit{x:XN Unit}{y:XN Unit}(h:ab P c r x y λ_ _ _=>True):ab P c r (do x;Pure.pure Next.skip) (do y;Pure.pure Next.skip) (xH c):=ab.bind h λ_ _ _ _ _=>ab.pure .skip
theorem ab.AT(f:XA):ab P c r (mark (.extern f)) (mark (.extern f)) λ_ _ _=>True:=by intro w v b;refine⟨(),v,r,rfl,.refl b,trivial,λe a=>?_⟩;simp at a;subst a;exact .inr (.inr ⟨f,rfl⟩)
theorem we(l:B6 P c)(i:c.fns f=W8){x x':Array Xd}(h:aj c r x x'):ab P c r (callFunc f x) (callFunc f x') (xH c):=by refine ab.bind (ab.e8 bQ) λw p u g m=>?_;obtain⟨rfl,rfl⟩:=m;cases a:u.funcs[f]? with|none=>exact ab.stuck|some d=>obtain⟨s,t⟩:=l f d i a;simp only[a,s,UK];cases k:d.body with|some b=>exact ab.pure (.enter i (h.mono g))|none=>obtain⟨n,e,o,q⟩:=t k;simp only[n,o];exact ab.bind (ab.AT f) λv _ _ j _=>ab.value (q v x x' ((h.mono g).mono j))
theorem wS(a:∀x,cm c gl x=W8->ai c r (ev x) (ev' x)){l:Array XG}(h:l.all (cm c gl)=W8):aj c r (l.map ev) (l.map ev'):=aj.map l ev ev' λx b=>a x (by rw[VO]at h;grind)
theorem vI(a:∀x,cm c gl x=W8->ai c r (ev x) (ev' x)){l:Array (Nat×XG)}(h:(l.all λp=>cm c gl p.2)=W8):Bj c r (l.map λ(i,x)=>(i,ev x)) (l.map λ(i,x)=>(i,ev' x)):=by refine⟨?_,?_⟩;{simp};(have e:∀g:XG->Xd,((l.map λp=>(p.1,g p.2)).toList.map (·.2)).toArray=l.map λp=>g p.2:=by grind);rw[e ev,e ev'];refine aj.map l _ _ λp b=>a p.2 ?_;rw[VO]at h;grind
theorem w8(a:∀x,cm c gl x=W8->ai c r (ev x) (ev' x)):∀{x:Option XG},x.all (cm c gl)=W8->j6 c r (x.map ev) (x.map ev')|none,_=>trivial|some x,h=>a x (by grind)
theorem xp(o:X0)(y:XG)(ev ev':XG->Xd)(l:o.op=.nilCheck y)(e:ev y=x)(i:ev' y=x')(h:ai c r x x'):ab P c r (Xn ev o) (Xn ev' o) (xH c):=by unfold Xn;rw[l];simp only[e,i];cases h with|gn=>exact ab.runtimePanic|nilIface=>exact ab.runtimePanic|nilFunc=>exact ab.runtimePanic|bool b=>exact ab.pure (.value (.bool b))|int k n=>exact ab.pure (.value (.int k n))|string s=>exact ab.pure (.value (.string s))|ptr a=>exact ab.pure (.value (.ptr a))|gv n m=>exact ab.pure (.value (.gv n m))|slice n m a=>exact ab.pure (.value (.slice n m a))|cG a f=>exact ab.pure (.value (.cG a f))|kT=>exact ab.pure (.value .kT)|map a=>exact ab.pure (.value (.map a))|@func j z B u A d p q v w=>(cases j with|func g=>exact ab.pure (.value (.func d p q v w))|_=>simp[Gn]at d)|iface t a=>exact ab.pure (.value (.iface t a))|agg a b=>exact ab.pure (.value (.agg a b))|tuple a b=>exact ab.pure (.value (.tuple a b))
theorem mf(h:ye P t=W8):∀e,P.underlying t=W1 (.slice e)->jP P e=W8:=λe a=>by unfold ye at h;simp_all
theorem Hw(h:N1 P t=W8):∀k e,P.underlying t=W1 (.map k e)->BS P k=W8:=λk e a=>by unfold N1 at h;simp_all
theorem FP(h:Py P t=W8):∀k e,P.underlying t=W1 (.map k e)->fp P k=W8/\jP P e=W8:=λk e a=>by unfold Py at h;simp_all
theorem ui(h:BV P t n=W8):∀fs f,P.underlying t=W1 (.struct fs)->fs[n]?=W1 f->P.cellsOf f.type≠0:=λfs f a b=>by unfold BV at h;simp_all
theorem Gv(N:Fits P c)(K:B6 P c){k:Call}(t:Xv)(i:BW P c gl k=W8)(B:∀x,cm c gl x=W8->ai c r (ev x) (ev' x)):ab P c r (do let d<-resolve ev k t;invoke d.target d.args) (do let d<-resolve ev' k t;invoke d.target d.args) (xH c):=by unfold BW at i;simp only[Ur]at i;obtain⟨I,i⟩:=i;have h:=wS B I;obtain⟨l,m,A⟩:=k;unfold resolve;cases l with|invoke x n=>simp at i|value f=>have E:=B f i;simp only[];generalize ev f=q at E;generalize ev' f=O at E;(cases E with|@func J z R u M a b d e g=>(cases J with|func j=>refine ab.bind (Q:=λG x y=>x.target=.fn (.func j) u/\y.target=.fn (.func j) M/\aj c G x.args y.args) (ab.pure ⟨rfl,rfl,(aj.mk b d).append h⟩) λL x y H p=>?_;obtain⟨C,D,v⟩:=p;rw[C,D];exact we K (by assumption) (v.append ((aj.mk e g).mono H))|_=>simp[Gn]at a)|nilFunc=>exact ab.never (λw=>dZ RuntimeError.nilDeref w)|_=>exactλ_ _ _=>rfl)|builtin b=>refine ab.bind (Q:=λG x y=>x.target=.builtin b A t (m.map λ|.const _=>W8|_=>WI)/\y.target=.builtin b A t (m.map λ|.const _=>W8|_=>WI)/\aj c G x.args y.args) (ab.pure ⟨rfl,rfl,h⟩) λL x y H p=>?_;obtain⟨C,D,v⟩:=p;rw[C,D];cases b with|len=>exact ab.value (Jy _ _ v)|max=>exact ab.value (JV _ _ v)|min=>exact ab.value (KU _ _ v)|append=>simp only[Ur]at i;refine ab.value (AO (λs e F o=>?_) (λs k F o=>?_) v);{have:=i.1;rw[F]at this;exact mf this e o};have:=i.2;rw[F]at this;simp[C3,o]at this|_=>simp at i
theorem tg(w:Fits P c)(H:B6 P c){o:X0}(j:sN P c gl o=W8)(f:∀x,cm c gl x=W8->ai c r (ev x) (ev' x))(z:∀g,ev (.global g)=ϖ g/\ev' (.global g)=ϖ g):ab P c r (Xn ev o) (Xn ev' o) (xH c):=by unfold sN at j;obtain⟨E,D,O,K,A,guard⟩:=o;cases D with|move x=>exact ab.pure (.value (f x j))|assign x=>exact ab.pure (.value (f x j))|pick a b d=>simp only[Ur]at j;refine ab.bind (ab.asBool (f a j.1.1)) λM u V C I=>?_;subst I;refine ab.pure (.value ?_);split;{exact(f b j.1.2).mono C};exact(f d j.2).mono C|alloc e=>exact ab.value (BQ j)|box e x=>exact ab.value (JN e (f x j))|build t L=>simp only[Ur]at j;exact ab.value (Ex j.1 (vI f j.2))|buildSlice t n L=>simp only[Ur]at j;exact ab.value (tb (mf j.1) (vI f j.2))|load t a=>rcases Vv ..▸j with j|j;{exact ab.value (AK t (f a j))};(cases a with|global g=>refine ab.value ?_;rw[(z g).1,(z g).2];exact ab.bind (Q:=λ_ a b=>a=⟨g,0,Xh⟩/\b=⟨g,0,Xh⟩) (ab.pure ⟨rfl,rfl⟩) λM a b C⟨F,G⟩=>by subst F G;exact ab.G1 w (by rw[w.aJ];simpa[FK]using j) t|_=>simp[FK]at j)|store t a x=>simp only[Ur]at j;exact ab.unit (zx t (f a j.1) (f x j.2))|nilCheck x=>exact xp _ x ev ev' rfl rfl rfl (f x j)|binOp D t x y u=>simp only[Ur,Vv,Bool.not_eq_true']at j;exact ab.value (DI w (λe=>by rcases j.2 with h|h;{rcases e with rfl|rfl<;>simp[isEq]at h};exact h) (f x j.1.1) (f y j.1.2))|unOp D t x=>exact ab.value (Ev (f x j))|convert s d x=>simp only[Ur]at j;exact ab.value (zr j.1 (f x j.2))|makeFunc R B q=>simp only[Ur]at j;exact ab.value (wV j.1.1 (wS f j.1.2) (wS f j.2))|makeMap t N=>(cases N with|none=>exact ab.value yO|some _=>simp at j)|makeSlice t l k=>simp only[Ur]at j;exact ab.value (uE (mf j.1.1) (f l j.1.2) (f k j.2))|slice t x T S U=>simp only[Ur]at j;exact ab.value (yj t (f x j.1.1.1) (w8 f j.1.1.2) (w8 f j.1.2) (w8 f j.2))|fieldAddr s x n=>simp only[Ur]at j;exact ab.value (xT s n (ui j.1) (f x j.2))|field t x n=>exact ab.value (EK t n (f x j))|indexAddr t x i=>simp only[Ur]at j;exact ab.value (zm t (f x j.1) (f i j.2))|index t x i=>simp only[Ur]at j;exact ab.value (Db t (f x j.1) (f i j.2))|lookup t x i b=>simp only[Ur]at j;exact ab.value (AQ w (FP j.1.1) (f x j.1.2) (f i j.2))|mapUpdate t m k v=>simp only[Ur]at j;exact ab.unit (uC w (Hw j.1.1.1) (f m j.1.1.2) (f k j.1.2) (f v j.2))|range t x=>simp only[Ur]at j;refine ab.value (EJ ?_ (f x j.2));have:=j.1;unfold Fe at this;grind|next J b=>(cases b with|true=>exact ab.value (GY (f J j))|false=>simp at j)|extract x n=>exact ab.value (zH n (f x j))|call k=>exact Gv w H O j f|_=>simp at j
end
section
variable{c:dI}{r:bC}
def codeOk(P:Xz)(c:dI)(gl:Nat->Bool):X4->Bool
 |.skip|.exit _|.label _|.ret|.refuse _=>W8
 |.region _ ops _=>ops.all (sN P c gl)
 |.seq a b=>codeOk P c gl a&&codeOk P c gl b
 |.cond x a b=>cm c gl x&&codeOk P c gl a&&codeOk P c gl b
 |.block _ a|.loop a|.scope a=>codeOk P c gl a
 |_=>WI
def opAt(P:Xz)(c:dI)(gl:Nat->Bool)(ops:Array X0)(i:Nat):Bool:=match ops[i]? with|some o=>sN P c gl o|none=>W8
theorem Ig{c:dI}(h:ops.all (sN P c gl)=W8)(l:List Nat):l.all (opAt P c gl ops)=W8:=by rw[UU];intro i _;unfold opAt;grind
theorem nk{c:dI}{o:X0}(h:(i::rest).all (opAt P c gl ops)=W8)(a:ops[i]?=W1 o):sN P c gl o=W8:=by simp only[US,Ur]at h;have:=h.1;unfold opAt at this;simp_all
theorem vD{c:dI}(h:(i::rest).all (opAt P c gl ops)=W8):rest.all (opAt P c gl ops)=W8:=by simp_all
def aV(P:Xz)(c:dI)(gl:Nat->Bool):XO->Bool
 |.code a|.inLoop a|.inScope a=>codeOk P c gl a
 |.inBlock _=>W8
 |.inRegion ops l=>l.all (opAt P c gl ops)
 |_=>WI
def cr(f:XA)(t:Array Xd)(k:List XO)(m:FrameMode):Xp:={fn:=f,tmps:=t,todo:=k,defers:=[],mode:=m,kind:=.normal,roundOf:=Xh}
def md(ret:Bool):FrameMode:=if ret then .returning else .run
structure cE where
 f:XA
 t:Array Xd
 k:List XO
 ret:Bool
 st:List (XA×Array Xd×List XO)
def up(x:XA×Array Xd×List XO):Xp:=cr x.1 x.2.1 x.2.2 .run
def cE.g(s:cE)(base:List Xp):Xk:=Go.Conc.G (cr s.f s.t s.k (md s.ret)) (s.st.map up++base)
structure xu(P:Xz)(c:dI)(gl:Nat->Bool)(s:cE):Prop where
 fn:True
 items:s.k.all (aV P c gl)=W8
 below:∀x∈s.st,True/\x.2.2.all (aV P c gl)=W8/\∃ops i rest k,x.2.2=.inRegion ops (i::rest)::k
inductive kP(c:dI)(r:bC):List (XA×Array Xd×List XO)->List (XA×Array Xd×List XO)->Prop
 |nil:kP c r [] []
 |cons{f:XA}{t t':Array Xd}{k:List XO}{l l':List (XA×Array Xd×List XO)}:aj c r t t'->kP c r l l'->kP c r ((f,t,k)::l) ((f,t',k)::l')
structure n5(c:dI)(r:bC)(s s':cE):Prop where
 f:s'.f=s.f
 t:aj c r s.t s'.t
 k:s'.k=s.k
 ret:s'.ret=s.ret
 st:kP c r s.st s'.st
theorem kP.mono{r r':bC}(h:r.le r'){l l':List (XA×Array Xd×List XO)}(k:kP c r l l'):kP c r' l l':=by induction k with|nil=>exact .nil|cons a _ b=>exact .cons (a.mono h) b
structure Listed(P:Xz)(c:dI)(gl:Nat->Bool):Prop where
 aJ:Fits P c
 qu:∀g,gl g=W8->c.low g=0
 ext:B6 P c
 body:∀(f:XA)(fn:Func),c.fns f=W8->P.funcs[f]?=W1 fn->∃b,(fn.body=Xh\/(fn.body=W1 b/\codeOk P c gl b=W8))
def eu:Xp:={fn:=0,tmps:=#[],todo:=[],defers:=[{target:=.builtin .make #[] 0 #[],args:=#[]}],mode:=.run,kind:=.normal}
def PV(s:GStep):Prop:=(∃o w,s.bare=.ended o w)\/∃(f:XA)(t:Array Xd)(k:List XO)(ch:List PanicEntry)(st:List (XA×Array Xd×List XO))(w:Xf)(es:Array XU),
 s=.go (Go.Conc.G (cr f t k (.panicking ch)) (st.map up++[eu])) w es/\(∀d w r sv,k.head?≠W1 (.call d w r sv))/\∀x∈st,∃ops i rest k',x.2.2=.inRegion ops (i::rest)::k'
theorem oT{t:Array Xd}(e:aj c r t t')(d:∀g,gl g=W8->r g=W1 g)(b:∀g,gl g=W8->c.low g=0){k:List XO}{m:FrameMode}(x:XG)(h:cm c gl x=W8):ai c r ((cr f t k m).eval x) ((cr f t' k m).eval x):=by cases x with|tmp i=>exact e.getD i fL|const v=>exact iA h c r|global g=>exact .ptr ⟨d g h,rfl,rfl,Vq (b g h)⟩|func j=>exact .func (by assumption) rfl (λi v l a=>by simp at a) rfl (λi v l a=>by simp at a)
theorem l6{t:Array Xd}(a:aj c r t t')(ops:Array X0)(j:Nat):Xx ops t' j=Xx ops t j:=by unfold Xx;cases(ops[j]?).bind (·.dst)with|none=>rfl|some d=>simp only[Vm];cases b:t[d]? with|none=>rw[a.none b]|some v=>obtain⟨f,e,k⟩:=a.get b;rw[e];cases k<;>rfl
theorem cO{t:Array Xd}{k:List XO}(v:Xd):(cr f t (.inRegion ops (i::rest)::k) .run).finish v=cr f (match(ops[i]?).bind (·.dst)with|some d=>t.setIfInBounds d v|none=>t) (.inRegion ops rest::k) .run:=rfl
theorem pe{t:Array Xd}(a:aj c r t t')(d:Option Tmp){v:Xd}(b:ai c r v v'):aj c r (match d with|some d=>t.setIfInBounds d v|none=>t) (match d with|some d=>t'.setIfInBounds d v'|none=>t'):=by cases d with|none=>exact a|some d=>exact a.set d b
end
end Go.ab
namespace Go.ab
open Go.Conc
variable{P:Xz}{c:dI}{r r':bC}{gl live:Nat->Bool}{w v v' w2 w' v1 v2:Xf}{main u:Bool}{bs cs:List Xp}{f f0:XA}{t t' args t0 x' tl:Array Xd}{k k1 k0 k' kr tail kk:List XO}{st st':List (XA×Array Xd×List XO)}{id i j b n g:Nat}{x a cd:X4}{ops:Array X0}{rest rest':List Nat}{o:X0}{h:Halt}{fn:Func}{α:Type}{s s' s1 s2:cE}{p:cE×Xf}{es:Array XU}{fr' caller F:Xp}{Good:Xd->Xf->Prop}{RO own:Nat->Prop}{CU:Nat->Nat->Prop}{Stop:(Nat->Prop)->Xk->Xf->Prop}{R:Ending->Xf->Prop}{fns:XA->Bool}{Q:Array Xd->Xf->Prop}
section
def T8(P:Xz)(c:dI)(r:bC)(main:Bool)(base:List Xp)(w v:Xf)(s':cE)(s1:cE)(w1:Xf):Prop:=
 ∃s1' v1 r1 es,Xm P main (s'.g base) v=.go (s1'.g base) v1 es/\Ext c r w v r1 w1 v1/\n5 c r1 s1 s1'/\∀e∈es,ru c r1 e
def Stp(P:Xz)(c:dI)(gl:Nat->Bool)(r:bC)(main:Bool)(base:List Xp)(w v:Xf)(s s':cE):Prop:=
 (∃s1 w1 es1,Xm P W8 (s.g [eu]) w=.go (s1.g [eu]) w1 es1/\xu P c gl s1/\T8 P c r main base w v s' s1 w1)\/PV (Xm P W8 (s.g [eu]) w)
theorem cE.vN(f:XA)(t:Array Xd)(k:List XO)(a:List (XA×Array Xd×List XO))(bs:List Xp):(cE.mk f t k WI a).g bs=G (cr f t k .run) (a.map up++bs):=rfl
theorem cE.jc(f:XA)(t:Array Xd)(k:List XO)(a:List (XA×Array Xd×List XO))(bs:List Xp):(cE.mk f t k W8 a).g bs=G (cr f t k .returning) (a.map up++bs):=rfl
theorem Stp.ctl{ret1:Bool}(l:cI c r w v)(j:aj c r t t')(a:kP c r st st')(b:xu P c gl ⟨f,t,k,WI,st⟩)(i:k1.all (aV P c gl)=W8)(h:∀(main:Bool)(cs:List Xp)(w:Xf),Xm P main (G (cr f t k .run) cs) w=.go (G (cr f t k1 (md ret1)) cs) w #[])(d:∀(main:Bool)(cs:List Xp)(w:Xf),Xm P main (G (cr f t' k .run) cs) w=.go (G (cr f t' k1 (md ret1)) cs) w #[]):Stp P c gl r main bs w v ⟨f,t,k,WI,st⟩ ⟨f,t',k,WI,st'⟩:=.inl ⟨⟨f,t,k1,ret1,st⟩,w,#[],h _ _ _,⟨b.fn,i,b.below⟩,⟨f,t',k1,ret1,st'⟩,v,r,#[],d _ _ _,.refl l,⟨rfl,j,rfl,rfl,a⟩,λe g=>by simp at g⟩
theorem oe{q:XO->Bool}:∀{k k':List XO},exitTo id k=W1 k'->k.all q=W8->k'.all q=W8|[],_,h,_=>by simp[exitTo]at h|x::k,k',h,b=>by simp only[US,Ur]at b;unfold exitTo at h;split at h;{rename_i d f e;cases e;split at h;{simp_all};exact oe h b.2};{rename_i e;cases e;exact oe h b.2};simp_all
theorem od:Xm P main (G (cr f t (.code .ret::k) .run) cs) w=.go (G (cr f t (.code .ret::k) .returning) cs) w #[]:=by rfl
theorem jK:Xm P main (G (cr f t (.inScope x::k) .run) cs) w=.go (G (cr f t k .run) cs) w #[]:=by rfl
theorem lu:Xm P main (G (cr f t (.code (.scope x)::k) .run) cs) w=.go (G (cr f t (.code x::.inScope x::k) .run) cs) w #[]:=by rfl
theorem iU(h:exitTo id k=Xh):Xm P main (G (cr f t (.code (.exit id)::k) .run) cs) w=.ended (.stuck "exit, goto: no such block or label" ((cr f t (.code (.exit id)::k) .run).pos P)) w #[]:=by simp only[G,Xm,Xm.exec,cr,h,Option.elim,UK,if_false]
theorem kg:Xm P main (G (cr f t (.code (.region id ops W8)::k) .run) cs) w=match(choose (.order f id)).run P w with|.ok b w=>.go (G (cr f t (.inRegion ops (Region.schedule (P.follows .mixedOrders) ops b)::k) .run) cs) w #[]|.halt _ w=>.ended (.stuck "order" ((cr f t (.code (.region id ops W8)::k) .run).pos P)) w:=by rfl
theorem stepG_unwanted(h:((ops[i]?).map (Region.wanted · (Xx ops t))).getD WI=WI):Xm P main (G (cr f t (.inRegion ops (i::rest)::k) .run) cs) w=.go (G ((cr f t (.inRegion ops (i::rest)::k) .run).finish Xo) cs) w #[]:=by simp only[G,Xm,Xm.exec,cr,h,UK,if_false]
section op
variable{w1:Xf}
abbrev nF(f:XA)(t:Array Xd)(ops:Array X0)(i:Nat)(rest:List Nat)(k:List XO):Xp:=cr f t (.inRegion ops (i::rest)::k) .run
theorem jg{v:Xd}(d:ops[i]?=W1 o)(e:Region.wanted o (Xx ops t)=W8)(b:(Xn (nF f t ops i rest k).eval o).run P w=.ok (.value v) w1):Xm P main (G (nF f t ops i rest k) cs) w=.go (G ((nF f t ops i rest k).finish v) cs) w1 (seen P f ((Xn (nF f t ops i rest k).eval o).events P w #[])):=by simp only[cr]at b;simp[G,Xm,Xm.exec,Xm.oper,Xm.apply,Xp.oper?,cr,d,e,b,GStep.after]
theorem kh(d:ops[i]?=W1 o)(e:Region.wanted o (Xx ops t)=W8)(b:(Xn (nF f t ops i rest k).eval o).run P w=.ok .skip w1):Xm P main (G (nF f t ops i rest k) cs) w=.go (G ((nF f t ops i rest k).finish Xo) cs) w1 (seen P f ((Xn (nF f t ops i rest k).eval o).events P w #[])):=by simp only[cr]at b;simp[G,Xm,Xm.exec,Xm.oper,Xm.apply,Xp.oper?,cr,d,e,b,GStep.after]
theorem ji{j:XA}(d:ops[i]?=W1 o)(e:Region.wanted o (Xx ops t)=W8)(b:(Xn (nF f t ops i rest k).eval o).run P w=.ok (.enter j args) w1):Xm P main (G (nF f t ops i rest k) cs) w=.go (G (Xp.enter P j args .normal) (nF f t ops i rest k::cs)) w1 (seen P f ((Xn (nF f t ops i rest k).eval o).events P w #[])):=by simp only[cr]at b;simp[G,Xm,Xm.exec,Xm.oper,Xm.apply,Xp.oper?,cr,d,e,b,GStep.after]
theorem lf{v:Xd}(e:ops[i]?=W1 o)(g:Region.wanted o (Xx ops t)=W8)(d:(Xn (nF f t ops i rest k).eval o).run P w=.halt (.panic v) w1):Xm P main (G (nF f t ops i rest k) cs) w=.go (G (cr f t (.inRegion ops (i::rest)::k) (.panicking [{v,recovered:=WI}])) cs) w1 (seen P f ((Xn (nF f t ops i rest k).eval o).events P w #[])):=by simp only[cr]at d;simp[G,Xm,Xm.exec,Xm.oper,Xm.apply,Xp.oper?,cr,e,g,d,GStep.after,Xp.raise]
theorem mI(e:ops[i]?=W1 o)(j:Region.wanted o (Xx ops t)=W8)(b:(Xn (nF f t ops i rest k).eval o).run P w=.halt h w1)(d:AG h=W8)(l:∀v,h≠.panic v):∃x w2,(Xm P main (G (nF f t ops i rest k) cs) w).bare=.ended x w2:=by simp only[cr]at b;cases h with|panic v=>simp_all|stuck s=>simp[G,Xm,Xm.exec,Xm.oper,Xm.apply,Xp.oper?,cr,e,j,b]|unsupported u=>(cases u with|initOrder g=>simp[AG]at d|_=>simp[G,Xm,Xm.exec,Xm.oper,Xm.apply,Xp.oper?,cr,e,j,b])|_=>simp[AG]at d
end op
theorem xu.sQ(b:xu P c gl ⟨f,t,.inRegion ops (i::rest)::k,WI,st⟩):(i::rest).all (opAt P c gl ops)=W8/\k.all (aV P c gl)=W8:=by have:=b.items;simp only[US,Ur]at this;exact this
theorem gG(args:Array Xd)(a:P.funcs[f]?=W1 fn):Xp.enter P f args .normal=cr f (args++Array.replicate (fn.ntmps-args.size) Xo) [.code (fn.body.getD (.refuse "unsupported: a function without a Go body is entered"))] .run:=by simp[Xp.enter,cr,a]
theorem n0(args:Array Xd)(a:P.funcs[f]?=Xh):Xp.enter P f args .normal=cr f (args++Array.replicate (0-args.size) Xo) [.code (.refuse "unsupported: a function without a Go body is entered")] .run:=by simp[Xp.enter,cr,a]
theorem xU(g:Listed P c gl){j:XA}(f:c.fns j=W8)(x d:Array Xd):∃n b,(Xp.enter P j x .normal=cr j (x++Array.replicate (n-x.size) Xo) [.code b] .run/\Xp.enter P j d .normal=cr j (d++Array.replicate (n-d.size) Xo) [.code b] .run)/\codeOk P c gl b=W8:=by cases a:P.funcs[j]? with|none=>exact⟨0,_,⟨n0 x a,n0 d a⟩,rfl⟩|some e=>refine⟨e.ntmps,_,⟨gG x a,gG d a⟩,?_⟩;obtain⟨b,h|⟨h,i⟩⟩:=g.body j e f a;{rw[h];rfl};simp_all
theorem LM(I:Listed P c gl)(V:∀g,gl g=W8->r g=W1 g)(Y:cI c r w v)(E:aj c r t t')(D:kP c r st st')(A:xu P c gl ⟨f,t,.inRegion ops (i::rest)::k,WI,st⟩)(z:ops[i]?=W1 o)(a:Region.wanted o (Xx ops t)=W8):Stp P c gl r main bs w v ⟨f,t,.inRegion ops (i::rest)::k,WI,st⟩ ⟨f,t',.inRegion ops (i::rest)::k,WI,st'⟩:=by obtain⟨p,R⟩:=A.sQ;have M:=nk p z;have m:=tg I.aJ I.ext M (ev:=(nF f t ops i rest k).eval) (λx q=>oT E V I.qu x q) (λ_=>⟨rfl,rfl⟩) w v Y;(have l:Region.wanted o (Xx ops t')=W8:=by rw[funext λj=>l6 E ops j];exact a);unfold Stp;rw[cE.vN];cases q:(Xn (nF f t ops i rest k).eval o).run P w with|halt h H=>rw[q]at m;refine .inr ?_;by_cases S:∃u,h=.panic u;{obtain⟨u,rfl⟩:=S;rw[lf z a q];refine .inr ⟨f,t,_,_,st,H,_,rfl,λd w r sv=>by simp,λx q=>(A.below x q).2.2⟩};obtain⟨x,w2,e⟩:=mI z a q m (λu e=>S ⟨u,e⟩);exact .inl ⟨x,w2,e⟩|ok n H=>rw[q]at m;obtain⟨n',O,J,L,B,q1,Z⟩:=m;have C:∀e∈seen P f ((Xn (nF f t' ops i rest k).eval o).events P v #[]),ru c J e:=λe U=>Z e (mem_seen U);refine .inl ?_;cases q1 with|@value u u' X=>refine⟨⟨f,_,.inRegion ops rest::k,WI,st⟩,H,seen P f ((Xn (nF f t ops i rest k).eval o).events P w #[]),(jg z a q).trans ?_,⟨A.fn,?_,A.below⟩,⟨f,_,.inRegion ops rest::k,WI,st'⟩,O,J,_,(jg z l L).trans ?_,B,⟨rfl,pe (E.mono B.le) ((ops[i]?).bind (·.dst)) X,rfl,rfl,D.mono B.le⟩,C⟩;{rfl};{simp only[US,aV,R,vD p,VN]};rfl|skip=>refine⟨⟨f,_,.inRegion ops rest::k,WI,st⟩,H,seen P f ((Xn (nF f t ops i rest k).eval o).events P w #[]),(kh z a q).trans ?_,⟨A.fn,?_,A.below⟩,⟨f,_,.inRegion ops rest::k,WI,st'⟩,O,J,_,(kh z l L).trans ?_,B,⟨rfl,pe (E.mono B.le) ((ops[i]?).bind (·.dst)) fL,rfl,rfl,D.mono B.le⟩,C⟩;{rfl};{simp only[US,aV,R,vD p,VN]};rfl|@enter j x K W F=>obtain⟨n,b,Q,T⟩:=xU I W x K;refine⟨⟨j,x++Array.replicate (n-x.size) Xo,[.code b],WI,(f,t,.inRegion ops (i::rest)::k)::st⟩,H,seen P f ((Xn (nF f t ops i rest k).eval o).events P w #[]),(ji z a q).trans ?_,⟨trivial,?_,?_⟩,⟨j,K++Array.replicate (n-K.size) Xo,[.code b],WI,(f,t',.inRegion ops (i::rest)::k)::st'⟩,O,J,_,(ji z l L).trans ?_,B,⟨rfl,?_,rfl,rfl,.cons (E.mono B.le) (D.mono B.le)⟩,C⟩;{rw[Q.1];rfl};{simp[aV,T]};{intro y N;rcases Uu.1 N with rfl|N;{exact⟨A.fn,A.items,ops,i,rest,k,rfl⟩};exact A.below y N};{rw[Q.2];rfl};rw[F.size.symm];exact F.append (.replicate _ fL)
end
section
theorem ab.zc{f f':α->XN Xd}:∀(l:List α){r:bC}{x x':Array Xd},aj c r x x'->(∀a b,r.le b->ab P c b (f a) (f' a) (ai c))->ab P c r (l.foldlM (λbs a=>Functor.map bs.push (f a)) x) (l.foldlM (λbs a=>bs.push<$>f' a) x') (aj c)|[],_,_,_,h,_=>ab.pure h|a::l,r,x,x',h,e=>by simp only[WW];refine ab.bind (Q:=aj c) ?_ λb y n d j=>ab.zc l j λa k g=>e a k (bC.le_trans d g);simp only[<-bind_pure_comp];exact ab.bind (e a r (bC.le_refl r)) λb v m d i=>ab.pure ((h.mono d).push i)
theorem ab.mapM{f f':α->XN Xd}(l:Array α)(h:∀a b,r.le b->ab P c b (f a) (f' a) (ai c)):ab P c r (l.mapM f) (l.mapM f') (aj c):=by rw[XK,XK,<-XL,<-XL];exact ab.zc l.toList .empty h
theorem kp(fn:Func)(h:aj c r t t'):ab P c r (results fn t) (results fn t') (ai c):=by refine ab.bind (ab.mapM _ λa g d=>?_) λg x m d b=>ab.pure ?_;{cases a with|tmp i=>exact ab.pure ((h.mono d).getD i fL)|cell i j=>exact ab.bind (ab.asAddr ((h.mono d).getD i fL)) λl a k _ f=>ab.loadVar j f};by_cases e:x.size=1;{rw[dif_pos e,dif_pos (b.size▸e)];exact b.el 0 _ _ (Ux _) (Ux _)};rw[dif_neg e,dif_neg (b.size▸e)];exact .tuple b.size b.el
section ret
variable{x:Xp}{w1:Xf}
theorem bM(a:P.funcs[f]?=Xh):Xm P main (G (cr f t k .returning) (x::cs)) w=.go (G (x.finish (t.getD 0 Xo)) cs) w #[]:=by simp[G,Xm,unwind,doReturn,cr,a]
theorem aP{v:Xd}(a:P.funcs[f]?=W1 fn)(b:(results fn t).run P w=.ok v w1):Xm P main (G (cr f t k .returning) (x::cs)) w=.go (G (x.finish v) cs) w1 (seen P f ((results fn t).events P w #[])):=by simp[G,Xm,unwind,doReturn,cr,a,b,GStep.after]
theorem dj(a:P.funcs[f]?=W1 fn)(b:(results fn t).run P w=.halt h w1):∃o w2,(Xm P main (G (cr f t k .returning) (x::cs)) w).bare=.ended o w2:=by cases h<;>simp[G,Xm,unwind,cr,a,b]
end ret
theorem yD{t0':Array Xd}(A:cI c r w v)(z:aj c r t t')(l:aj c r t0 t0')(j:kP c r st st')(y:xu P c gl ⟨f,t,k,W8,(f0,t0,.inRegion ops (i::rest)::k0)::st⟩):Stp P c gl r main bs w v ⟨f,t,k,W8,(f0,t0,.inRegion ops (i::rest)::k0)::st⟩ ⟨f,t',k,W8,(f0,t0',.inRegion ops (i::rest)::k0)::st'⟩:=by obtain⟨s,C,-⟩:=y.below _ (Uz ..);have a:=λx m=>y.below x (UH _ m);(have g:(XO.inRegion ops rest::k0).all (aV P c gl)=W8:=by simp only[US,aV]at C⊢;simp_all);cases d:P.funcs[f]? with|none=>refine .inl ⟨⟨f0,_,.inRegion ops rest::k0,WI,st⟩,w,#[],(bM d).trans ?_,⟨s,g,a⟩,⟨f0,_,.inRegion ops rest::k0,WI,st'⟩,v,r,#[],(bM d).trans ?_,.refl A,⟨rfl,pe l ((ops[i]?).bind (·.dst)) (z.getD 0 fL),rfl,rfl,j⟩,λe p=>by simp at p⟩;{rfl};rfl|some n=>have b:=kp n z (P:=P) w v A;cases m:(results n t).run P w with|halt h B=>exact .inr (.inl (dj d m))|ok u B=>rw[m]at b;obtain⟨J,I,H,D,q,F,E⟩:=b;refine .inl ⟨⟨f0,_,.inRegion ops rest::k0,WI,st⟩,B,seen P f ((results n t).events P w #[]),(aP d m).trans ?_,⟨s,g,a⟩,⟨f0,_,.inRegion ops rest::k0,WI,st'⟩,I,H,seen P f ((results n t').events P v #[]),(aP d D).trans ?_,q,⟨rfl,pe (l.mono q.le) ((ops[i]?).bind (·.dst)) F,rfl,rfl,j.mono q.le⟩,λe p=>E e (mem_seen p)⟩;{rfl};rfl
theorem ko{x:XG}{b:X4}(h:(cr f t (.code (.cond x a b)::k) .run).eval x=.bool u):Xm P main (G (cr f t (.code (.cond x a b)::k) .run) cs) w=.go (G (cr f t (.code (if u then a else b)::k) .run) cs) w #[]:=by simp only[cr]at h;simp[G,Xm,Xm.exec,cr,h]
theorem jO{x:XG}{b:X4}(h:∀u,(cr f t (.code (.cond x a b)::k) .run).eval x≠.bool u):∃o w2,(Xm P main (G (cr f t (.code (.cond x a b)::k) .run) cs) w).bare=.ended o w2:=by simp only[cr]at h;simp only[G,Xm,Xm.exec,cr];simp
theorem Rc{x x':Xd}(h:x=.bool u)(k:ai c r x x'):x'=.bool u:=by subst h;cases k;rfl
theorem uf(V:Listed P c gl)(U:∀g,gl g=W8->r g=W1 g)(z:cI c r w v)(hr:n5 c r s s')(p:xu P c gl s)(hne:s.ret=W8->s.st≠[]):Stp P c gl r main bs w v s s':=by obtain⟨f,t,k,R,Y⟩:=s;obtain⟨f',M,k',K,L⟩:=s';obtain⟨N,y,Z,e3,d⟩:=hr;simp only at N y Z e3 d;subst f' k' K;cases R with|true=>(cases d with|nil=>simp_all|@cons f0 t0 t0' k0 l l' h0 O=>obtain⟨-,-,n,i,B,k1,e⟩:=p.below _ (Uz ..);simp only at e;subst e;exact yD z y h0 O p)|false=>cases k with|nil=>exact Stp.ctl (ret1:=W8) (k1:=[]) z y d p rfl (λ_ _ _=>by rfl) (λ_ _ _=>by rfl)|cons x k=>have q:=p.items;simp only[US,Ur]at q;obtain⟨q,A⟩:=q;cases x with|code a=>(cases a with|skip=>exact Stp.ctl (ret1:=WI) (k1:=k) z y d p A (λ_ _ _=>by rfl) (λ_ _ _=>by rfl)|label l=>exact Stp.ctl (ret1:=WI) (k1:=k) z y d p A (λ_ _ _=>by rfl) (λ_ _ _=>by rfl)|ret=>exact Stp.ctl (ret1:=W8) z y d p p.items (λ_ _ _=>od) (λ_ _ _=>od)|seq a b=>exact Stp.ctl (ret1:=WI) (k1:=.code a::.code b::k) z y d p (by simp only[aV,codeOk,Ur]at q;simp[aV,codeOk,A,q]) (λ_ _ _=>by rfl) (λ_ _ _=>by rfl)|block id a=>exact Stp.ctl (ret1:=WI) (k1:=.code a::.inBlock id::k) z y d p (by simp only[aV,codeOk,Ur]at q;simp[aV,codeOk,A,q]) (λ_ _ _=>by rfl) (λ_ _ _=>by rfl)|loop a=>exact Stp.ctl (ret1:=WI) (k1:=.code a::.inLoop a::k) z y d p (by simp only[aV,codeOk,Ur]at q;simp[aV,codeOk,A,q]) (λ_ _ _=>by rfl) (λ_ _ _=>by rfl)|scope a=>exact Stp.ctl (ret1:=WI) (k1:=.code a::.inScope a::k) z y d p (by simp only[aV,codeOk,Ur]at q;simp[aV,codeOk,A,q]) (λ_ _ _=>lu) (λ_ _ _=>lu)|refuse why=>exact .inr (.inl ⟨_,w,by rfl⟩)|exit id=>(cases D:exitTo id k with|none=>exact .inr (.inl ⟨_,w,by rw[cE.vN,iU D];rfl⟩)|some k1=>exact Stp.ctl (ret1:=WI) z y d p (oe D A) (λ_ _ _=>by simp[G,Xm,Xm.exec,cr,md,D]) (λ_ _ _=>by simp[G,Xm,Xm.exec,cr,md,D]))|cond x a b=>simp only[aV,codeOk,Ur]at q;have hv:=oT y U V.qu (f:=f) (k:=.code (.cond x a b)::k) (m:=.run) x q.1.1;(cases J:(cr f t (.code (.cond x a b)::k) .run).eval x with|bool u=>have:=Rc J hv;exact Stp.ctl (ret1:=WI) (k1:=.code (if u then a else b)::k) z y d p (by cases u<;>simp[aV,q,A]) (λ_ _ _=>ko J) (λ_ _ _=>ko this)|_=>exact .inr (.inl (jO λu e=>by simp_all)))|region id n F=>(have I:n.all (sN P c gl)=W8:=by assumption);(have H:∀l,(XO.inRegion n l::k).all (aV P c gl)=W8:=λl=>by simp only[US,Ur];exact⟨Ig I l,A⟩);(cases F with|false=>exact Stp.ctl (ret1:=WI) (k1:=.inRegion n (List.range n.size)::k) z y d p (H _) (λ_ _ _=>by rfl) (λ_ _ _=>by rfl)|true=>have X:=ab.cQ (r:=r) (c:=c) (P:=P) (iC (.order f id)) w v z;unfold Stp;rw[cE.vN,kg];cases hc:(choose (.order f id)).run P w with|halt h S=>exact .inr (.inl ⟨_,S,rfl⟩)|ok u S=>rw[hc]at X;obtain⟨u',v1,r1,N,T,q1,-⟩:=X;subst q1;refine .inl ⟨⟨f,t,_,WI,Y⟩,S,#[],rfl,⟨p.fn,H _,p.below⟩,⟨f,M,_,WI,L⟩,v1,r1,#[],?_,T,⟨rfl,y.mono T.le,rfl,rfl,d.mono T.le⟩,λe D=>by simp at D⟩;rw[cE.vN,kg,N];rfl)|rangeFunc _ _ _ _=>simp[aV,codeOk]at q|goto l=>simp[aV,codeOk]at q)|inBlock id=>exact Stp.ctl (ret1:=WI) (k1:=k) z y d p A (λ_ _ _=>by rfl) (λ_ _ _=>by rfl)|inLoop a=>exact Stp.ctl (ret1:=WI) (k1:=.code a::.inLoop a::k) z y d p (by simp only[aV]at q;simp[aV,A,q]) (λ_ _ _=>by rfl) (λ_ _ _=>by rfl)|inScope a=>exact Stp.ctl (ret1:=WI) (k1:=k) z y d p A (λ_ _ _=>jK) (λ_ _ _=>jK)|inRegion n l=>(cases l with|nil=>exact Stp.ctl (ret1:=WI) (k1:=k) z y d p A (λ_ _ _=>by rfl) (λ_ _ _=>by rfl)|cons i B=>cases E:((n[i]?).map (Region.wanted · (Xx n t))).getD WI with|true=>(cases W:n[i]? with|none=>simp_all|some o=>rw[W]at E;exact LM V U z y d p W (by simp_all))|false=>(have Q:((n[i]?).map (Region.wanted · (Xx n M))).getD WI=WI:=by rw[show Xx n M=Xx n t from funext λj=>l6 y n j];exact E);refine .inl ⟨⟨f,_,.inRegion n B::k,WI,Y⟩,w,#[],(stepG_unwanted E).trans ?_,⟨p.fn,?_,p.below⟩,⟨f,_,.inRegion n B::k,WI,L⟩,v,r,#[],(stepG_unwanted Q).trans ?_,.refl z,⟨rfl,pe y ((n[i]?).bind (·.dst)) fL,rfl,rfl,d⟩,λe D=>by simp at D⟩;{rfl};{have:=p.items;simp only[US,aV,Ur]at this⊢;simp_all};rfl)|inRangeFunc _=>simp[aV]at q|endRangeFunc _=>simp[aV]at q|beginRound=>simp[aV]at q|call _ _ _ _=>simp[aV]at q|extern _ _=>simp[aV]at q
end
def re(w:Xf)(T:Nat->X3->Nat)(D:Nat):Xf:={w with tape:=T,drawn:=D}
@[simp]theorem TA(w:Xf)(T b:Nat->X3->Nat)(D a:Nat):re (re w T D) b a=re w b a:=rfl
@[simp]theorem vW(w:Xf)(T:Nat->X3->Nat)(D:Nat):(re w T D).heap=w.heap:=rfl
@[simp]theorem Cg(w:Xf)(T:Nat->X3->Nat)(D:Nat)(a:XR):(re w T D).cell? a=w.cell? a:=rfl
theorem AJ(w:Xf)(T:Nat->X3->Nat)(D:Nat)(p:Xz)(a:XR)(b:Bool):(re w T D).farLoad p a b=w.farLoad p a b:=rfl
theorem xl(w:Xf)(T:Nat->X3->Nat)(D:Nat)(p:Xz)(a:XR)(u:Xv)(k:XR)(v:Xd)(b:Bool):(re w T D).viewStore p a u k v b=(w.viewStore p a u k v b).map λx=>(re x.1 T D,x.2):=by unfold Xf.viewStore;have e:(re w T D).seen p a u k b=w.seen p a u k b:=rfl;rw[e];generalize w.seen p a u k b=j;by_cases i:(!tight p p.depth u)=W8;{simp only[i];rfl};simp only[i,UK];cases j with|error s=>rfl|ok x=>obtain⟨c,e,l,g,f,d⟩:=x;cases n:v.bytes? with|none=>rfl|some bytes=>simp only[bind,Except.bind,pure];by_cases h:W1 bytes.length=Option.map (λx=>x.length) f.bytes?;{simp only[ne_eq,h,eq_false];generalize(List.foldlM (m:=Except String) _ c d)=z;cases z<;>rfl};simp only[ne_eq,h,eq_true];rfl
theorem qO(w:Xf)(T:Nat->X3->Nat)(D:Nat)(p:Xz)(a:XR)(v:Xd)(b:Bool):(re w T D).farStore p a v b=(w.farStore p a v b).map λx=>(re x.1 T D,x.2):=by unfold Xf.farStore;rw[vW];cases w.heap[a.block]? with|none=>rfl|some o=>(cases o<;>try rfl);simp only[xl];generalize w.viewStore _ _ _ _ _ _=z;cases z<;>rfl
theorem DD(w:Xf)(T:Nat->X3->Nat)(D:Nat)(a:XR)(n:Nat):(re w T D).freeze a n=re (w.freeze a n) T D:=by unfold Xf.freeze;split<;>rfl
def yC:Xd->Bool
 |.agg _|.tuple _=>W8
 |_=>WI
theorem St(v:Xd):yC v=W8\/yC v=WI:=by simp
theorem uB(m:Mode)(a:XR)(g:XN α){v:Xd}(h:yC v=W8)(w:Xf):∃z,(XN.store m a v g).run P w=.halt z w:=by cases v<;>simp[yC]at h<;>exact⟨_,rfl⟩
theorem tS(m:Mode)(a:XR)(g:XN α){v:Xd}(h:yC v=WI)(w:Xf):(XN.store m a v g).run P w=match w.cell? a with|some _=>if w.frozen? a then .halt (.unsupported (.unsafePointer "a write to bytes that a string shares")) w else g.run P (w.setCell a v)|none=>match w.farStore P a v (m==.atomic)with|.ok x=>g.run P x.1|.error h=>.halt h w:=by cases v<;>simp[yC]at h<;>(simp only[XN.run];split;{rename_i b;rw[b]};·split<;>simp_all)
theorem pK(m:Mode)(a:XR)(g:XN α){v:Xd}(h:yC v=WI)(w:Xf):(XN.store m a v g).events P w #[]=match w.cell? a with|some _=>if w.frozen? a then#[]else g.events P (w.setCell a v) (#[].push ⟨.cell a,W8,m==.atomic⟩)|none=>match w.farStore P a v (m==.atomic)with|.ok x=>g.events P x.1 (#[]++x.2.toArray.map (⟨.cell ·,W8,m==.atomic⟩))|.error _=>#[]:=by cases v<;>simp[yC]at h<;>(simp only[XN.events,XN.runT];split<;>(try split)<;>simp_all)
theorem En(w:Xf)(T:Nat->X3->Nat)(D:Nat)(a:XR):(re w T D).frozen? a=w.frozen? a:=rfl
theorem uo{w1:Xf}{p:Xz}{a:XR}{v:Xd}{b:Bool}{l:List XR}(h:w.farStore p a v b=.ok (w1,l)):w1.drawn=w.drawn/\w1.tape=w.tape:=by have c:w.farStore p a v b=(w.farStore p a v b).map λx=>(re x.1 w.tape w.drawn,x.2):=qO w w.tape w.drawn p a v b;rw[h]at c;injection c with c;have:=(UT c).1;exact⟨(congrArg Xf.drawn this).trans rfl,(congrArg Xf.tape this).trans rfl⟩
theorem Ap(x:XN α):∀{w w1:Xf}{a:α},x.run P w=.ok a w1->(∀e∈x.events P w #[],e.loc≠.output)->w.drawn<=w1.drawn/\w1.tape=w.tape/\∀(T:Nat->X3->Nat)(D:Nat),(∀j q,w.drawn+j<w1.drawn->T (D+j) q=w.tape (w.drawn+j) q)->x.run P (re w T D)=.ok a (re w1 T (D+(w1.drawn-w.drawn))):=by induction x with|pure a=>simp|halt z=>simp|program g d=>intro w w1 b h c;exact d P h c|mark m g d=>intro w w1 b h c;refine d h λe i=>c e ?_;show e∈g.events P w _;rw[XN.events_acc];simp_all|sys s g _=>intro w w1 b h c;refine absurd rfl (c ⟨.output,W8,WI⟩ ?_);show _∈(g _).events P _ _;rw[XN.events_acc];simp|choose q g d=>intro w w1 b h c;have B:∀u:Xf,(XN.choose q g).run P u=if q.forced then(g 0).run P u else(g (q.cut (u.tape u.drawn q))).run P {u with drawn:=u.drawn+1}:=λ_=>rfl;(have I:(XN.choose q g).events P w #[]=if q.forced then(g 0).events P w #[]else(g (q.cut (w.tape w.drawn q))).events P {w with drawn:=w.drawn+1} #[]:=by simp only[XN.events,XN.runT];grind);rw[B]at h;rw[I]at c;simp only[B];by_cases F:q.forced=W8;{grind};rw[if_neg F]at h c;simp only[F,UK,if_false];obtain⟨J,H,K⟩:=d _ h c;simp only at J H;refine⟨by omega,H,λT D t=>?_⟩;(have:=K T (D+1) λj q M=>by have:=t (j+1) q (by grind);grind);have C:=t 0 q Ω;simp only[U2]at C;show(g (q.cut (T D q))).run P (re w T (D+1))=_;rw[C];refine Eq.trans this ?_;grind|load m a g d=>intro w w1 b h c;simp only[XN.run,Cg,AJ]at h⊢;(cases r:w.cell? a with|some v=>rw[r]at h;refine d v h λe i=>c e ?_;simp only[XN.events,XN.runT,r];show e∈(g v).events P w _;rw[XN.events_acc];simp_all|none=>rw[r]at h;cases l:w.farLoad P a (m==.atomic)with|error z=>simp_all|ok x=>rw[l]at h;refine d x.1 h λe i=>c e ?_;simp only[XN.events,XN.runT,r,l];show e∈(g x.1).events P w _;rw[XN.events_acc];simp_all)|store m a v g d=>intro w w1 b h c;rcases St v with y|y;{obtain⟨z,N⟩:=uB (P:=P) m a g y w;simp_all};simp only[tS m a g y,Cg,qO,En]at h⊢;rw[pK m a g y]at c;(cases r:w.cell? a with|some u=>rw[r]at h c;simp only at h c⊢;split at h;{cases h};rename_i l;rw[if_neg l]at c;have:=d (w:=w.setCell a v) h λe i=>c e (by rw[XN.events_acc];simp_all);refine⟨this.1,this.2.1,λT D t=>?_⟩;exact(if_neg l).trans (this.2.2 T D t)|none=>rw[r]at h c;simp only at h c⊢;cases l:w.farStore P a v (m==.atomic)with|error z=>simp_all|ok x=>rw[l]at h c;simp only[Except.map]at h c⊢;have A:=uo l;have:=d (w:=x.1) h λe i=>c e (by rw[XN.events_acc];simp_all);simp_all)|new o g d=>intro w w1 b h c;exact d _ h c|shape k g d=>intro w w1 b h c;exact d _ h c|freeze a n g d=>intro w w1 b h c;(have A:(w.freeze a n).drawn=w.drawn/\(w.freeze a n).tape=w.tape:=by unfold Xf.freeze;grind);have:=d (w:=w.freeze a n) h c;rw[A.1,A.2]at this;simp only[XN.run,DD];exact this|frozen a g d=>intro w w1 b h c;exact d _ h c|getObj k g d=>intro w w1 b h c;(cases f:w.heap[k]? with|none=>simp only[XN.run,f]at h;cases h|some o=>cases o<;>first|(simp only[XN.run,f]at h;cases h;done)|(simp only[XN.run,f,vW]at h⊢;refine d _ h λe i=>c e ?_;simp only[XN.events,XN.runT,f];show e∈(g _).events P w _;rw[XN.events_acc];exact UY.2 (.inr i)))|setObj k o g d=>intro w w1 b h c;cases f:w.heap[k]? with|none=>simp only[XN.run,f]at h;cases h|some L=>cases L<;>first|(simp only[XN.run,f]at h;cases h;done)|(simp only[XN.run,f,vW]at h⊢;refine d (w:={w with heap:=w.heap.setIfInBounds k o}) h λe i=>c e ?_;simp only[XN.events,XN.runT,f];show e∈g.events P _ _;rw[XN.events_acc];exact UY.2 (.inr i))
def nB(r:bC):bC:=λb=>if(r b).isSome then W1 b else Xh
theorem p6{k:Nat}(h:r b=W1 k):nB r b=W1 b:=by simp[nB,h]
theorem mY{k:Nat}(h:nB r b=W1 k):k=b/\∃j,r b=W1 j:=by unfold nB at h;split at h;{rename_i e;cases h;exact⟨rfl,Xl.1 e⟩};cases h
theorem dB.self{a a':XR}(h:dB c r a a'):dB c (nB r) a a:=⟨p6 h.1,rfl,rfl,h.2.2.2⟩
theorem mq{x:Array Xd}(b:x.size=x'.size)(h:∀(i:Nat)(v a:Xd),x[i]?=W1 v->x'[i]?=W1 a->ai c (nB r) v v):∀(i:Nat)(v a:Xd),x[i]?=W1 v->x[i]?=W1 a->ai c (nB r) v a:=by grind
theorem ai.self{v v':Xd}(h:ai c r v v'):ai c (nB r) v v:=by induction h with|bool b=>exact .bool b|int k n=>exact .int k n|string s=>exact .string s|gn=>exact .gn|ptr a=>exact .ptr a.self|gv n m=>exact .gv n m|slice n m a=>exact .slice n m a.self|cG a l=>exact .cG a a|kT=>exact .kT|map a=>exact .map (p6 a)|func g i _ j _ e f=>exact .func g rfl (mq i e) rfl (mq j f)|nilFunc=>exact .nilFunc|nilIface=>exact .nilIface|iface t _ d=>exact .iface t d|agg s _ d=>exact .agg rfl (mq s d)|tuple s _ d=>exact .tuple rfl (mq s d)
theorem aj.self{x:Array Xd}(h:aj c r x x'):aj c (nB r) x x:=⟨rfl,mq h.size λi v d a b=>(h.el i v d a b).self⟩
theorem l4.self{o o':XT}(h:l4 c r o o'):l4 c (nB r) o o:=by cases h with|cells t f k=>exact .cells t f k.self|@map x j k s e=>refine .map k rfl λi d m a b=>?_;rw[a]at b;cases b;have g:=s▸(Uq.1 a).1;have:=e i d _ a (Ux g);exact⟨this.key.self,this.val.self,rfl⟩|iter s p=>exact .iter s p|number l a=>exact .number l a.self
theorem qp.self{o o':Option XT}(h:qp c r b o o'):qp c (nB r) b o o:=by cases h with|@seen x g t m j s l z y e=>refine .seen t t _ s l (Uo _) ⟨λ_=>rfl,y.2⟩ λi u p a b d=>?_;rw[b]at d;cases d;have f:=Up (Uq.1 b).1 z;exact(e i u _ a b (Ux f)).self|own n k=>exact .own n k.self
theorem cI.self(h:cI c r w v):cI c (nB r) w w:=by refine⟨λb k e=>?_,λb k e=>?_,λb g k e d=>?_,h.qu,λb f e=>h.hid b f (by unfold nB at e;simp_all),λb k e=>?_,rfl,rfl,h.old,λb k e _=>(mY e).1.symm,h.iu.1,h.iu.1⟩;{obtain⟨rfl,j,a⟩:=mY e;exact h.qh _ _ a};{obtain⟨rfl,j,a⟩:=mY e;exact h.qh _ _ a};{exact .inl ((mY e).1.symm.trans (mY d).1)};obtain⟨rfl,j,a⟩:=mY e;exact(h.blk _ _ a).self
theorem kP.self{l l':List (XA×Array Xd×List XO)}(h:kP c r l l'):kP c (nB r) l l:=by induction h with|nil=>exact .nil|cons a _ b=>exact .cons a.self b
theorem n5.self(h:n5 c r s s'):n5 c (nB r) s s:=⟨rfl,h.t.self,rfl,rfl,h.st.self⟩
theorem cI.re(h:cI c r w w)(T:Nat->X3->Nat)(D:Nat):cI c r (re w T D) (re w T D):=⟨h.qh,h.zN,h.inj,h.qu,h.hid,h.blk,rfl,rfl,h.old,h.aJ,h.iu⟩
theorem ru.yw{e:XU}(h:ru c r e):e.loc≠.output:=by rcases h with⟨b,a,-⟩|h|⟨f,h⟩;{grind};{simp_all};simp_all
structure Fit(P:Xz)(c:dI)(gl:Nat->Bool)(s:cE)(w:Xf):Prop where
 ok:xu P c gl s
 rel:∃r,cI c r w w/\n5 c r s s/\∀g,gl g=W8->r g=W1 g
theorem Fit.re(h:Fit P c gl s w)(T:Nat->X3->Nat)(D:Nat):Fit P c gl s (re w T D):=by obtain⟨e,r,a,b,d⟩:=h;exact⟨e,r,a.re T D,b,d⟩
theorem Fit.Bl(d:xu P c gl s)(h:cI c r w v)(a:n5 c r s s')(b:∀g,gl g=W8->r g=W1 g):Fit P c gl s w:=⟨d,nB r,h.self,a.self,λg e=>p6 (b g e)⟩
def b8(P:Xz)(s:cE)(w:Xf)(s1:cE)(w1:Xf):Prop:=∃es,Xm P W8 (s.g [eu]) w=.go (s1.g [eu]) w1 es
theorem IJ(h:st.map up=st'.map up):st=st':=by induction st generalizing st' with|nil=>simp_all|cons x l a=>cases st' with|nil=>simp at h|cons y b=>simp only[U0,Vt]at h;have:=h.1;simp only[up,cr]at this;grind
theorem GA(h:s.g [eu]=s'.g [eu]):s=s':=by obtain⟨f,t,k,b,o⟩:=s;obtain⟨l,p,n,a,j⟩:=s';simp only[cE.g,G,cr,Xk.mk.injEq,Xp.mk.injEq]at h;obtain⟨⟨d,e,g,-,m,-⟩,i,-⟩:=h;have:=IJ (XM i);subst d e g this;(have:b=a:=by cases b<;>cases a<;>simp_all[md]);rw[this]
theorem Fit.step(p:Listed P c gl){s:cE}{w:Xf}(h:Fit P c gl s w)(f:s.ret=W8->s.st≠[]):(∃a b,b8 P s w a b/\Fit P c gl a b)\/PV (Xm P W8 (s.g [eu]) w):=by obtain⟨u,r,n,o,k⟩:=h;rcases uf p k n o u f with⟨a,b,d,i,t,y,C,v,A,j,x,q,-⟩|B;{refine .inl ⟨a,b,⟨d,i⟩,?_⟩;rw[i]at j;injection j with l m z;have:=GA l;subst this m;exact⟨t,v,x.rel,q,λg e=>x.le _ _ (k g e)⟩};simp_all
theorem b8.NW{w1:Xf}(h:b8 P s w s1 w1)(a:b8 P s w s2 w2):s2=s1/\w2=w1:=by obtain⟨_,h⟩:=h;obtain⟨_,a⟩:=a;rw[h]at a;injection a with b d;exact⟨(GA b).symm,d.symm⟩
def bN(P:Xz)(s:cE)(w:Xf)(s1:cE)(w1:Xf):Prop:=
 w.drawn<=w1.drawn/\w1.tape=w.tape/\∀(T:Nat->X3->Nat)(D:Nat),(∀j q,w.drawn+j<w1.drawn->T (D+j) q=w.tape (w.drawn+j) q)->b8 P s (re w T D) s1 (re w1 T (D+(w1.drawn-w.drawn)))
theorem bN.ctl{w1:Xf}(a:b8 P s w s1 w1)(h:∀w,Xm P W8 (s.g [eu]) w=.go (s2.g [eu]) w #[]):bN P s w s1 w1:=by obtain⟨rfl,rfl⟩:=a.NW ⟨#[],h w⟩;exact⟨Uo _,rfl,λT D _=>⟨#[],by simp_all⟩⟩
theorem b8.gI{w1:Xf}(a:b8 P s w s1 w1)(h:∃o w2,(Xm P W8 (s.g [eu]) w).bare=.ended o w2):False:=by obtain⟨b,e⟩:=a;simp_all
theorem b8.qv{w1:Xf}{ch:List PanicEntry}(d:b8 P s w s1 w1)(h:Xm P W8 (s.g [eu]) w=.go (G (cr f t k (.panicking ch)) cs) w2 es):False:=by obtain⟨a,e⟩:=d;rw[e]at h;injection h with h;simp only[cE.g,G,cr,Xk.mk.injEq,Xp.mk.injEq]at h;have:=h.1.2.2.2.2.1;cases b:s1.ret<;>simp[md,b]at this
theorem bN.EV{β:Type}{w1:Xf}{x:XN β}{b:β}(k:b8 P s w s1 w1)(a:x.run P w=.ok b w2)(j:∀e∈x.events P w #[],e.loc≠.output)(h:∀w w2,x.run P w=.ok b w2->b8 P s w s2 w2):bN P s w s1 w1:=by obtain⟨rfl,rfl⟩:=k.NW (h w w2 a);obtain⟨d,f,g⟩:=Ap x a j;exact⟨d,f,λT D i=>h _ _ (g T D i)⟩
theorem Lz(v:Listed P c gl){w1:Xf}(D:Fit P c gl ⟨f,t,.inRegion ops (i::rest)::k,WI,st⟩ w)(q:b8 P ⟨f,t,.inRegion ops (i::rest)::k,WI,st⟩ w s1 w1)(l:ops[i]?=W1 o)(a:Region.wanted o (Xx ops t)=W8):bN P ⟨f,t,.inRegion ops (i::rest)::k,WI,st⟩ w s1 w1:=by obtain⟨L,r,J,H,E⟩:=D;have I:=H.t;obtain⟨p,R⟩:=L.sQ;have z:=nk p l;have d:=tg v.aJ v.ext z (ev:=(nF f t ops i rest k).eval) (λx g=>oT I E v.qu x g) (λ_=>⟨rfl,rfl⟩) w w J;cases g:(Xn (nF f t ops i rest k).eval o).run P w with|halt h y=>rw[g]at d;by_cases B:∃u,h=.panic u;{obtain⟨u,rfl⟩:=B;exact(q.qv (lf l a g)).elim};exact(q.gI (mI l a g d (λu e=>B ⟨u,e⟩))).elim|ok n y=>rw[g]at d;obtain⟨T,W,U,O,X,M,A⟩:=d;cases M with|@value u V S=>exact bN.EV (s2:=⟨f,_,.inRegion ops rest::k,WI,st⟩) q g (λe m=>(A e m).yw) λw y e=>⟨_,(jg l a e).trans (by rfl)⟩|skip=>exact bN.EV (s2:=⟨f,_,.inRegion ops rest::k,WI,st⟩) q g (λe m=>(A e m).yw) λw y e=>⟨_,(kh l a e).trans (by rfl)⟩|@enter j x N F K=>obtain⟨n,b,C,Q⟩:=xU v F x N;exact bN.EV (s2:=⟨j,x++Array.replicate (n-x.size) Xo,[.code b],WI,(f,t,.inRegion ops (i::rest)::k)::st⟩) q g (λe m=>(A e m).yw) λw y e=>⟨_,(ji l a e).trans (by rw[C.1];rfl)⟩
theorem GD{w1:Xf}(o:Fit P c gl ⟨f,t,k,W8,(f0,t0,.inRegion ops (i::rest)::k0)::st⟩ w)(l:b8 P ⟨f,t,k,W8,(f0,t0,.inRegion ops (i::rest)::k0)::st⟩ w s1 w1):bN P ⟨f,t,k,W8,(f0,t0,.inRegion ops (i::rest)::k0)::st⟩ w s1 w1:=by obtain⟨A,r,s,p,z⟩:=o;have q:=p.t;cases b:P.funcs[f]? with|none=>refine bN.ctl (s2:=⟨f0,(match(ops[i]?).bind (·.dst)with|some d=>t0.setIfInBounds d (t.getD 0 Xo)|none=>t0),.inRegion ops rest::k0,WI,st⟩) l λw=>?_;refine(bM b).trans ?_;rfl|some j=>have a:=kp j q (P:=P) w w s;cases m:(results j t).run P w with|halt h w1=>exact(l.gI (dj b m)).elim|ok u x=>rw[m]at a;obtain⟨D,E,C,y,F,B,v⟩:=a;refine bN.EV (s2:=⟨f0,(match(ops[i]?).bind (·.dst)with|some d=>t0.setIfInBounds d u|none=>t0),.inRegion ops rest::k0,WI,st⟩) l m (λe n=>(v e n).yw) λw x e=>⟨seen P f ((results j t).events P w #[]),?_⟩;refine(aP b e).trans ?_;rfl
theorem b8.tape(F:Listed P c gl){w1:Xf}(y:Fit P c gl s w)(H:s.ret=W8->s.st≠[])(h:b8 P s w s1 w1):bN P s w s1 w1:=by obtain⟨f,t,k,A,j⟩:=s;cases A with|true=>(cases j with|nil=>simp_all|cons x l=>obtain⟨K,N,M⟩:=x;obtain⟨-,-,g,i,p,D,e⟩:=y.ok.below _ (Uz ..);subst e;exact GD y h)|false=>cases k with|nil=>exact bN.ctl (s2:=⟨f,t,[],W8,j⟩) h (λ_=>by rfl)|cons x k=>have m:=y.ok.items;cases x with|code a=>(cases a with|skip=>exact bN.ctl (s2:=⟨f,t,k,WI,j⟩) h (λ_=>by rfl)|label l=>exact bN.ctl (s2:=⟨f,t,k,WI,j⟩) h (λ_=>by rfl)|ret=>exact bN.ctl (s2:=⟨f,t,.code .ret::k,W8,j⟩) h (λ_=>by rfl)|seq a b=>exact bN.ctl (s2:=⟨f,t,.code a::.code b::k,WI,j⟩) h (λ_=>by rfl)|block id a=>exact bN.ctl (s2:=⟨f,t,.code a::.inBlock id::k,WI,j⟩) h (λ_=>by rfl)|loop a=>exact bN.ctl (s2:=⟨f,t,.code a::.inLoop a::k,WI,j⟩) h (λ_=>by rfl)|scope a=>exact bN.ctl (s2:=⟨f,t,.code a::.inScope a::k,WI,j⟩) h (λ_=>by rfl)|refuse J=>exact(h.gI ⟨_,w,by rfl⟩).elim|exit id=>(cases z:exitTo id k with|none=>exact(h.gI ⟨_,w,by rw[cE.vN,iU z];rfl⟩).elim|some D=>exact bN.ctl (s2:=⟨f,t,D,WI,j⟩) h (λ_=>by simp[cE.g,G,Xm,Xm.exec,cr,md,z]))|cond x a b=>(cases I:(cr f t (.code (.cond x a b)::k) .run).eval x with|bool u=>exact bN.ctl (s2:=⟨f,t,.code (if u then a else b)::k,WI,j⟩) h λ_=>ko I|_=>exact(h.gI (jO λu e=>by simp_all)).elim)|region id g q=>(cases q with|false=>exact bN.ctl (s2:=⟨f,t,.inRegion g (List.range g.size)::k,WI,j⟩) h (λ_=>by rfl)|true=>have E:∀w:Xf,∃u B,(choose (.order f id)).run P w=.ok u B:=λw=>⟨_,_,rfl⟩;obtain⟨u,B,e⟩:=E w;refine bN.EV (s2:=⟨f,t,.inRegion g (Region.schedule (P.follows .mixedOrders) g u)::k,WI,j⟩) h e (λe z=>by simp_all) λw B e=>⟨#[],?_⟩;rw[cE.vN,kg,e];rfl)|rangeFunc _ _ _ _=>simp[aV,codeOk]at m|goto l=>simp[aV,codeOk]at m)|inBlock id=>exact bN.ctl (s2:=⟨f,t,k,WI,j⟩) h (λ_=>by rfl)|inLoop a=>exact bN.ctl (s2:=⟨f,t,.code a::.inLoop a::k,WI,j⟩) h (λ_=>by rfl)|inScope a=>exact bN.ctl (s2:=⟨f,t,k,WI,j⟩) h (λ_=>by rfl)|inRegion g l=>(cases l with|nil=>exact bN.ctl (s2:=⟨f,t,k,WI,j⟩) h (λ_=>by rfl)|cons i p=>cases v:((g[i]?).map (Region.wanted · (Xx g t))).getD WI with|true=>(cases C:g[i]? with|none=>simp_all|some o=>exact Lz F y h C (by simp_all))|false=>refine bN.ctl (s2:=⟨f,(match(g[i]?).bind (·.dst)with|some d=>t.setIfInBounds d Xo|none=>t),.inRegion g p::k,WI,j⟩) h λw=>(stepG_unwanted v).trans ?_;rfl)|inRangeFunc _=>simp[aV]at m|endRangeFunc _=>simp[aV]at m|beginRound=>simp[aV]at m|call _ _ _ _=>simp[aV]at m|extern _ _=>simp[aV]at m
def xa(fr:Xp)(cs:List Xp):Prop:=
 (∃(f:XA)(t:Array Xd)(k:List XO)(ch:List PanicEntry)(st:List (XA×Array Xd×List XO)),fr=cr f t k (.panicking ch)/\cs=st.map up++[eu]/\(∀d w r sv,k.head?≠W1 (.call d w r sv))/\∀x∈st,∃ops i rest k',x.2.2=.inRegion ops (i::rest)::k')\/
 (((∃ch,fr={eu with mode:=.panicking ch})\/fr=eu\/fr={eu with mode:=.returning})/\cs=[])
theorem xa.not{fr:Xp}(h:xa fr [eu])(a:fr.mode=.returning):False:=by rcases h with⟨f,t,k,b,d,rfl,-⟩|⟨-,h⟩;{simp[cr]at a};cases h
theorem uW{fr:Xp}(h:xa fr cs)(w:Xf):(∃n m w',step P (lone fr cs w)=.next (lone n m w')/\xa n m)\/∃o w',step P (lone fr cs w)=.ended o w':=by rcases h with⟨f,t,k,j,A,rfl,rfl,B,q⟩|⟨h,rfl⟩;{(have u:(cr f t k (.panicking j)).catches P=WI:=by unfold Xp.catches;simp only[cr];grind);(have p:∀(x:Xp)(l:List Xp),Xm P W8 {frame:=cr f t k (.panicking j),callers:=x::l,status:=.running,dying:=Xh} w=.go {frame:=x.raise j,callers:=l,status:=.running,dying:=Xh} w #[]:=by intro x l;unfold Xp.catches cr at u;simp[Xm,unwind,cr,Xp.catches];simp_all);cases A with|nil=>exact .inl ⟨_,_,w,step_lone_go (by rw[show List.map up []++[eu]=[eu]from rfl,p];rfl),.inr ⟨.inl ⟨j,rfl⟩,rfl⟩⟩|cons x l=>obtain⟨z,i,s,C,e⟩:=q x (Uz ..);refine .inl ⟨_,_,w,step_lone_go (by rw[show List.map up (x::l)++[eu]=up x::(List.map up l++[eu])from rfl,p];rfl),.inl ⟨x.1,x.2.1,x.2.2,j,l,rfl,rfl,λd w r D=>by grind,λy v=>q y (UH _ v)⟩⟩};refine ?_;rcases h with⟨j,rfl⟩|rfl|rfl;{exact .inr ⟨_,w,step_lone_ended (by rfl)⟩};{exact .inl ⟨_,_,w,step_lone_go (by rfl),.inr ⟨.inr (.inr rfl),rfl⟩⟩};exact .inr ⟨_,w,step_lone_ended (by rfl)⟩
section
theorem runN_add:∀{k:Nat}{m m':Machine},runN P i m=.next m'->runN P (i+k) m=runN P k m':=by induction i with|zero=>intro k m m' h;cases h;simp|succ i a=>intro k m m' h;rw[show i+1+k=(i+k)+1 by omega];simp only[runN]at h⊢;grind
theorem yi{m m':Machine}(h:step P m=.next m'):runN P 1 m=.next m':=by simp[runN,h]
theorem nU:∀(n:Nat){fr:Xp}{cs:List Xp}{w:Xf},xa fr cs->∀{fr':Xp}{w':Xf},runN P n (lone fr cs w)=.next (lone fr' [eu] w')->fr'.mode=.returning->False:=by intro n;induction n with|zero=>intro fr cs w h fr' w' e a;simp only[runN,lone,Stepped.next.injEq,Machine.mk.injEq]at e;have:=e.2.1;obtain⟨rfl,rfl⟩:=this;exact h.not a|succ n j=>intro fr cs w h fr' w' e a;simp only[runN]at e;rcases uW (P:=P) h w with⟨f,b,g,d,i⟩|⟨o,g,d⟩;{grind};simp_all
def k6(s:cE)(w:Xf):Machine:=lone (cr s.f s.t s.k (md s.ret)) (s.st.map up++[eu]) w
theorem gD{w1:Xf}{fr:Xp}(h:Xm P W8 (s.g [eu]) w=.go (G fr cs) w1 es):step P (k6 s w)=.next (lone fr cs w1):=step_lone_go (by have:Xm P W8 {frame:=cr s.f s.t s.k (md s.ret),callers:=s.st.map up++[eu],status:=.running,dying:=Xh} w=.go (G fr cs) w1 es:=h;rw[this];rfl)
theorem b8.QX{w1:Xf}(h:b8 P s w s1 w1):step P (k6 s w)=.next (k6 s1 w1):=by obtain⟨a,e⟩:=h;exact gD e
theorem D7(h:PV (Xm P W8 (s.g [eu]) w))(e:runN P (n+1) (k6 s w)=.next (lone fr' [eu] w'))(i:fr'.mode=.returning):False:=by simp only[runN]at e;rcases h with⟨o,a,h⟩|⟨f,t,k,b,j,a,l,h,d,g⟩;{rw[show step P (k6 s w)=.ended o a from step_lone_ended h]at e;cases e};rw[gD h]at e;exact nU n (.inl ⟨f,t,k,b,j,rfl,rfl,d,g⟩) e i
theorem PV.not{w1:Xf}(a:b8 P s w s1 w1)(h:PV (Xm P W8 (s.g [eu]) w)):False:=by rcases h with h|⟨f,t,k,b,e,w1,d,h,-⟩;{exact a.gI h};exact a.qv h
def EW(s:cE):Prop:=s.ret=W8/\s.st=[]
theorem EO(p:EW s)(e:runN P (n+1) (k6 s w)=.next (lone fr' [eu] w'))(j:fr'.mode=.returning):False:=by obtain⟨f,t,k,q,z⟩:=s;obtain⟨d,g⟩:=p;subst d g;have i:xa eu []:=.inr ⟨.inr (.inl rfl),rfl⟩;have a:∀v,eu.finish v=eu:=λv=>rfl;simp only[runN]at e;cases b:P.funcs[f]? with|none=>rw[gD ((bM b).trans (by rw[a]))]at e;exact nU n i e j|some m=>cases l:(results m t).run P w with|halt h r=>obtain⟨o,y,h⟩:=dj b l;rw[show step P (k6 ⟨f,t,k,W8,[]⟩ w)=.ended o y from step_lone_ended h]at e;cases e|ok u r=>rw[gD ((aP b l).trans (by rw[a]))]at e;exact nU n i e j
inductive Lone(P:Xz)(Good:Xd->Xf->Prop):cE->Xf->Prop
 |done{s:cE}{w:Xf}{fn:Func}{v:Xd}:EW s->P.funcs[s.f]?=W1 fn->(∀T D,(results fn s.t).run P (re w T D)=.ok v (re w T D)/\Good v (re w T D))->Lone P Good s w
 |step{s:cE}{w:Xf}:¬EW s->(∀T D,∃s1 w1,b8 P s (re w T D) s1 w1)->(∀T D s1 w1,b8 P s (re w T D) s1 w1->Lone P Good s1 w1)->Lone P Good s w
section bar
variable(P)(Good:Xd->Xf->Prop)
noncomputable def vi(p:cE×Xf):(Nat->X3->Nat)×Nat:=open Classical in
 if h:∃a:(Nat->X3->Nat)×Nat,∀s1 w1,b8 P p.1 (re p.2 a.1 a.2) s1 w1->¬Lone P Good s1 w1 then Classical.choose h else(λ_ _=>0,0)
def Live(p:cE×Xf):Prop:=¬EW p.1/\∃q:cE×Xf,b8 P p.1 (re p.2 (vi P Good p).1 (vi P Good p).2) q.1 q.2
noncomputable def GV(p:cE×Xf):cE×Xf:=open Classical in if h:Live P Good p then Classical.choose h.2 else p
noncomputable def iy(p:cE×Xf):Nat->cE×Xf
 |0=>p
 |i+1=>GV P Good (iy p i)
noncomputable def pos(p:cE×Xf):Nat->Nat
 |0=>0
 |i+1=>open Classical in if Live P Good (iy P Good p i)then pos p i+((iy P Good p (i+1)).2.drawn-(vi P Good (iy P Good p i)).2)else pos p i
def PW(p:cE×Xf)(i n:Nat):Prop:=pos P Good p i<=n/\(n<pos P Good p (i+1)\/¬Live P Good (iy P Good p i))
noncomputable def xI(p:cE×Xf)(n:Nat)(q:X3):Nat:=open Classical in
 if h:∃i,PW P Good p i n then(vi P Good (iy P Good p (Classical.choose h))).1 ((vi P Good (iy P Good p (Classical.choose h))).2+(n-pos P Good p (Classical.choose h))) q else 0
end bar
section bar
theorem Gb(k:¬Lone P Good s w)(l:¬EW s):∀d e,b8 P s (re w (vi P Good (s,w)).1 (vi P Good (s,w)).2) d e->¬Lone P Good d e:=by(have h:∃a:(Nat->X3->Nat)×Nat,∀d e,b8 P s (re w a.1 a.2) d e->¬Lone P Good d e:=by refine U8 λj=>k ?_;refine .step l (λT D=>?_) (λT D d e g=>?_);{refine U8 λf=>j ⟨(T,D),λd e g=>absurd ⟨d,e,g⟩ f⟩};refine U8 λf=>j ⟨(T,D),λm n i=>?_⟩;obtain⟨rfl,rfl⟩:=g.NW i;exact f);unfold vi;grind
theorem yl(h:Live P Good p):b8 P p.1 (re p.2 (vi P Good p).1 (vi P Good p).2) (GV P Good p).1 (GV P Good p).2:=by unfold GV;grind
theorem zK(h:¬Live P Good p):GV P Good p=p:=by unfold GV;simp_all
theorem tV(h:Live P Good (iy P Good p i)):pos P Good p (i+1)=pos P Good p i+((iy P Good p (i+1)).2.drawn-(vi P Good (iy P Good p i)).2):=by exact@if_pos _ (Classical.propDecidable _) h _ _ _
theorem zJ(h:¬Live P Good (iy P Good p i)):pos P Good p (i+1)=pos P Good p i:=by exact@if_neg _ (Classical.propDecidable _) h _ _ _
theorem He(h:i<=j):pos P Good p i<=pos P Good p j:=by induction h with|refl=>omega|@step m _ b=>by_cases a:Live P Good (iy P Good p m);{rw[tV a];omega};rw[zJ a];omega
theorem EB(h:i<=j)(d:¬Live P Good (iy P Good p i)):iy P Good p j=iy P Good p i/\pos P Good p j=pos P Good p i:=by induction h with|refl=>simp|@step m _ b=>(have a:¬Live P Good (iy P Good p m):=by simp_all);exact⟨(zK a).trans b.1,(zJ a).trans b.2⟩
theorem Il(h:PW P Good p i n)(q:X3):xI P Good p n q=(vi P Good (iy P Good p i)).1 ((vi P Good (iy P Good p i)).2+(n-pos P Good p i)) q:=by(have g:∀{i j:Nat},i<=j->PW P Good p i n->PW P Good p j n->iy P Good p j=iy P Good p i/\pos P Good p j=pos P Good p i:=by intro i j a e f;by_cases d:Live P Good (iy P Good p i);{rcases Nat.eq_or_lt_of_le a with rfl|b;{simp};have:=He (P:=P) (Good:=Good) (p:=p) (show i+1<=j from b);rcases e.2 with h|h;{have:=f.1;omega};simp_all};exact EB a d);have k:∃i,PW P Good p i n:=⟨i,h⟩;unfold xI;grind
variable(hl:Listed P c gl)
include hl
theorem xj(j:Fit P c gl p.1 p.2)(k:¬Lone P Good p.1 p.2):∀i,Fit P c gl (iy P Good p i).1 (iy P Good p i).2/\¬Lone P Good (iy P Good p i).1 (iy P Good p i).2:=by intro i;induction i with|zero=>exact⟨j,k⟩|succ i b=>show Fit P c gl (GV P Good (iy P Good p i)).1 (GV P Good (iy P Good p i)).2/\¬Lone P Good (GV P Good (iy P Good p i)).1 (GV P Good (iy P Good p i)).2;by_cases h:Live P Good (iy P Good p i);{have a:=yl h;refine⟨?_,Gb b.2 h.1 _ _ a⟩;rcases(b.1.re _ _).step hl (λe d=>h.1 ⟨e,d⟩)with⟨o,q,f,n⟩|g;{obtain⟨l,m⟩:=f.NW a;simp_all};exact(g.not a).elim};rw[zK h];exact b
theorem IW(g:Fit P c gl p.1 p.2)(k:¬Lone P Good p.1 p.2)(h:Live P Good (iy P Good p i)):b8 P (iy P Good p i).1 (re (iy P Good p i).2 (xI P Good p) (pos P Good p i)) (iy P Good p (i+1)).1 (re (iy P Good p (i+1)).2 (xI P Good p) (pos P Good p (i+1))):=by have l:=yl h;obtain⟨m,n,d⟩:=l.tape hl ((xj hl g k i).1.re _ _) (λe b=>h.1 ⟨e,b⟩);have a:(iy P Good p (i+1))=GV P Good (iy P Good p i):=rfl;(have:=d (xI P Good p) (pos P Good p i) λj q o=>by have f:PW P Good p i (pos P Good p i+j):=⟨U4 ..,.inl (by rw[tV h,a];have:(re (iy P Good p i).2 (vi P Good (iy P Good p i)).1 (vi P Good (iy P Good p i)).2).drawn=(vi P Good (iy P Good p i)).2:=rfl;omega)⟩;rw[Il f];show _=(vi P Good (iy P Good p i)).1 ((vi P Good (iy P Good p i)).2+j) q;simp);rw[tV h,a];exact this
theorem CX(a:Fit P c gl p.1 p.2)(b:¬Lone P Good p.1 p.2):∀i,(∀l,l<i->Live P Good (iy P Good p l))->runN P i (k6 p.1 (re p.2 (xI P Good p) 0))=.next (k6 (iy P Good p i).1 (re (iy P Good p i).2 (xI P Good p) (pos P Good p i))):=by intro i;induction i with|zero=>intro _;rfl|succ i d=>intro h;rw[runN_add (d λl hl=>h l Ω)];exact yi (IW hl a b (h i Ω)).QX
theorem pF(o:∀v w T D,Good v w->Good v (re w T D))(W:Fit P c gl s w)(H:∀T,∃n K w' v,runN P n (k6 s (re w T 0))=.next (lone K [eu] w')/\K.leaving P w' (.returned v)/\Good v w'):Lone P Good s w:=by refine U8 λhn=>?_;have f:Fit P c gl (s,w).1 (s,w).2:=W;have g:¬Lone P Good (s,w).1 (s,w).2:=hn;obtain⟨n,K,w',v,E,⟨C,hd,hk,J,R,h⟩,X⟩:=H (xI P Good (s,w));by_cases z:∀l,l<n->Live P Good (iy P Good (s,w) l);{have:=CX hl f g n z;rw[show k6 (s,w).1 (re (s,w).2 (xI P Good (s,w)) 0)=k6 s (re w (xI P Good (s,w)) 0)from rfl,E]at this;obtain⟨a,b⟩:=xj hl f g n;generalize iy P Good (s,w) n=q at this a b;simp only[k6,lone,Stepped.next.injEq,Machine.mk.injEq,Array.mk.injEq,Vt,Xk.mk.injEq,and_true]at this;obtain⟨rfl,rfl,A⟩:=this;(have B:EW q.1:=by refine⟨?_,?_⟩;{cases E:q.1.ret with|true=>rfl|false=>rw[E]at C;cases C};cases hq:q.1.st with|nil=>rfl|cons x l=>rw[hq]at A;have:=congrArg List.length A;grind);refine b (.done (v:=v) B R λT D=>?_);(have O:∀e∈(results J q.1.t).events P (re q.2 (xI P Good (s,w)) (pos P Good (s,w) n)) #[],e.loc≠.output:=by obtain⟨ok,r,L,y,-⟩:=a.re (xI P Good (s,w)) (pos P Good (s,w) n);have:=kp J y.t (P:=P) _ _ L;rw[show(results J q.1.t).run P (re q.2 (xI P Good (s,w)) (pos P Good (s,w) n))=_ from h]at this;obtain⟨_,_,r1,_,_,_,l1⟩:=this;exactλe V=>(l1 e V).yw);obtain⟨-,-,M⟩:=Ap _ h O;have N:=M T D λj q Z=>absurd Z Ω;rw[WJ]at N;exact⟨N,o v (re q.2 (xI P Good (s,w)) (pos P Good (s,w) n)) T D X⟩};(have:∃i,i<n/\¬Live P Good (iy P Good (s,w) i)/\∀l,l<i->Live P Good (iy P Good (s,w) l):=by(have Q:∃i,i<n/\¬Live P Good (iy P Good (s,w) i):=by simp_all);obtain⟨i,hi⟩:=Q;induction i using Nat.strongRecOn with|_ i ih=>grind);obtain⟨i,Y,d,u⟩:=this;have L:=CX hl f g i u;obtain⟨k,rfl⟩:∃k,n=i+(k+1):=⟨n-i-1,by omega⟩;have y:=runN_add (k:=k+1) L;rw[show k6 (s,w).1 (re (s,w).2 (xI P Good (s,w)) 0)=k6 s (re w (xI P Good (s,w)) 0)from rfl,E]at y;obtain⟨a,b⟩:=xj hl f g i;by_cases F:EW (iy P Good (s,w) i).1;{exact EO F y.symm C};rcases(a.re (xI P Good (s,w)) (pos P Good (s,w) i)).step hl (λe I=>F ⟨e,I⟩)with⟨s1,w1,M,N⟩|U;{obtain⟨-,-,S⟩:=M.tape hl (a.re _ _) (λe I=>F ⟨e,I⟩);(have:=S (vi P Good (iy P Good (s,w) i)).1 (vi P Good (iy P Good (s,w) i)).2 λj q _=>by show _=xI P Good (s,w) (pos P Good (s,w) i+j) q;rw[Il (i:=i) ⟨U4 ..,.inr d⟩,WM]);exact d ⟨F,(s1,_),this⟩};exact D7 U y.symm C
end bar
end
structure Env(own RO:Nat->Prop)(CU:Nat->Nat->Prop)(v v1:Xf):Prop where
 keep:∀k,own k\/RO k->v1.heap[k]?=v.heap[k]?
 cut:∀k n,CU k n->∀(x:Array Xd)(t:Xv)(fr:Nat×Nat),v.heap[k]?=W1 (.cells x t fr)->∃x' fr',v1.heap[k]?=W1 (.cells x' t fr')/\x'.size=x.size/\∀o,o<n->x'[o]?=x[o]?
 grow:v.heap.size<=v1.heap.size
def TO(own RO:Nat->Prop)(CU:Nat->Nat->Prop)(e:XU):Prop:=
 (∃k,(match e.loc with|.cell a=>a.block=k|.obj j=>j=k|_=>False)/\(own k\/(RO k/\e.write=WI))/\e.sync=WI)\/(∃k n o,CU k n/\o<n/\e=⟨.cell ⟨k,o,Xh⟩,WI,WI⟩)\/e.loc=.mark .noRoom\/∃f,e.loc=.mark (.extern f)
def more(own:Nat->Prop)(v v':Xf):Nat->Prop:=λk=>own k\/(v.heap.size<=k/\k<v'.heap.size)
structure lb(own RO:Nat->Prop)(CU:Nat->Nat->Prop)(v v':Xf)(es:Array XU):Prop where
 keep:∀k,k<v.heap.size->¬own k->v'.heap[k]?=v.heap[k]?
 grow:v.heap.size<=v'.heap.size
 os:v'.os=v.os
 out:v'.output=v.output
 tape:v'.tape=v.tape
 evs:∀e∈es,TO (more own v v') RO CU e
inductive Loc(P:Xz)(main:Bool)(RO:Nat->Prop)(CU:Nat->Nat->Prop)(Stop:(Nat->Prop)->Xk->Xf->Prop):(Nat->Prop)->Xk->Xf->Prop
 |stop{own:Nat->Prop}{g:Xk}{v:Xf}:Stop own g v->Loc P main RO CU Stop own g v
 |step{own:Nat->Prop}{g:Xk}{v:Xf}:g.status=.running->(∀v1,Env own RO CU v v1->∃g' v' es,Xm P main g v1=.go g' v' es/\lb own RO CU v1 v' es)->
  (∀v1 g' v' es,Env own RO CU v v1->Xm P main g v1=.go g' v' es->Loc P main RO CU Stop (more own v1 v') g' v')->Loc P main RO CU Stop own g v
theorem Loc.bind{S S':(Nat->Prop)->Xk->Xf->Prop}{g:Xk}(h:Loc P main RO CU S own g v)(k:∀own g v,S own g v->Loc P main RO CU S' own g v):Loc P main RO CU S' own g v:=by induction h with|stop h=>exact k _ _ _ h|step a h _ b=>exact .step a h b
theorem Env.refl(own RO:Nat->Prop)(CU:Nat->Nat->Prop)(v:Xf):Env own RO CU v v:=⟨λ_ _=>rfl,λ_ _ _ x _ a h=>⟨x,a,h,rfl,λ_ _=>rfl⟩,Uo _⟩
theorem Env.trans(h:Env own RO CU v v1)(k:Env own RO CU v1 v2):Env own RO CU v v2:=⟨λi b=>(k.keep i b).trans (h.keep i b),λi n a x t f g=>by obtain⟨j,e,d,q,o⟩:=h.cut i n a x t f g;obtain⟨u,m,l,s,p⟩:=k.cut i n a j t e d;simp_all,UP h.grow k.grow⟩
structure Reach(c:dI)(r:bC)(own RO:Nat->Prop)(CU:Nat->Nat->Prop)(v:Xf):Prop where
 zN:∀b k,r b=W1 k->own k\/(c.seen b/\(RO k\/CU k (c.E1 b)))
 old:∀k,own k\/RO k->k<v.heap.size
theorem cI.env(h:cI c r w v)(z:Reach c r own RO CU v)(f:Env own RO CU v v1):cI c r (Go.ab.re w v1.tape v1.drawn) v1:=⟨h.qh,λb k e=>Up (h.zN b k e) f.grow,h.inj,h.qu,h.hid,λb k e=>by have:=h.blk b k e;rcases z.zN b k e with g|⟨C,g|g⟩;{rw[f.keep k (.inl g)];exact this};{rw[f.keep k (.inr g)];exact this};show qp c r b w.heap[b]? v1.heap[k]?;revert this;generalize w.heap[b]?=J;generalize j:v.heap[k]?=I;intro this;cases this with|@seen x A t m q s l D y e=>obtain⟨K,p,o,F,E⟩:=f.cut k _ g A m q j;rw[o];refine .seen t m p s l Ω y λi u H a b d=>?_;grind|own n _=>simp_all,rfl,rfl,h.old,h.aJ,h.iu.1,UP h.iu.2 f.grow⟩
theorem Reach.env(a:Reach c r own RO CU v)(b:Env own RO CU v v1):Reach c r own RO CU v1:=⟨a.zN,λk h=>Up (a.old k h) b.grow⟩
theorem Ext.mine(h:Ext c r w v r' w' v')(m:Reach c r own RO CU v)(u:∀e∈es,ru c r' e):lb own RO CU v v' es/\Reach c r' (more own v v') RO CU v':=by have q:=h.size;have D:=h.grow;(have f:∀b k,r' b=W1 k->more own v v' k\/(c.seen b/\(RO k\/CU k (c.E1 b))):=λb k e=>by rcases U1 b w.heap.size with g|g;{rw[h.zG b g]at e;rcases m.zN b k e with x|x;{exact .inl (.inl x)};simp_all};have n:=h.rel.qh b k e;have o:=h.rel.zN b k e;rw[h.new b g n]at e;cases e;exact .inl (.inr ⟨by omega,o⟩));refine⟨⟨λk d E=>h.keep k d λb g=>?_,by omega,h.os,h.out,h.tape,λe y=>?_⟩,f,λk d=>?_⟩;{rcases m.zN b k g with x|x;{simp_all};grind};{rcases u e y with⟨b,g,F,l⟩|x;{(have:∃k,(match e.loc with|.cell a=>a.block=k/\(c.seen b->a.off<c.E1 b/\a.spot=Xh)|.obj j=>j=k/\¬c.seen b|_=>False)/\r' b=W1 k:=by grind);obtain⟨k,n,o⟩:=this;(have i:(match e.loc with|.cell a=>a.block=k|.obj j=>j=k|_=>False):=by grind);rcases f b k o with x|⟨q,x|x⟩;{exact .inl ⟨k,i,.inl x,l⟩};{refine .inl ⟨k,i,.inr ⟨x,?_⟩,l⟩;simp_all};refine .inr (.inl ?_);obtain⟨p,I,H⟩:=e;cases p with|cell a=>obtain⟨rfl,t⟩:=n;obtain⟨B,C⟩:=t q;obtain⟨z,A,s⟩:=a;grind|obj j=>simp_all|_=>grind};exact .inr (.inr x)};rcases d with(d|d)|d;{have:=m.old k (.inl d);omega};{exact d.2};have:=m.old k (.inr d);omega
structure Left(c:dI)(r:bC)(own RO:Nat->Prop)(v:Xf)(own1:Nat->Prop)(v1:Xf):Prop where
 keep:∀k,own k\/RO k->(∀b,r b=W1 k->c.seen b)->v1.heap[k]?=v.heap[k]?
 mine:∀k,own1 k->own k\/v.heap.size<=k
 more:∀k,own k->own1 k
 grow:v.heap.size<=v1.heap.size
theorem Left.refl(c:dI)(r:bC)(own RO:Nat->Prop)(v:Xf):Left c r own RO v own v:=⟨λ_ _ _=>rfl,λ_ h=>.inl h,λ_ h=>h,Uo _⟩
theorem Left.after{own1:Nat->Prop}(n:Reach c r own RO CU v)(m:Env own RO CU v v1)(f:Ext c r w v1 r' w' v')(h:Left c r' (Go.ab.more own v1 v') RO v' own1 v2):Left c r own RO v own1 v2:=by have q:=f.size;have p:=f.grow;have j:=m.grow;(have l:∀b k,k<v1.heap.size->r' b=W1 k->r b=W1 k:=λb k a e=>by rcases U1 b w.heap.size with d|d;{rw[<-f.zG b d];exact e};have i:=f.rel.qh b k e;rw[f.new b d i]at e;grind);refine⟨λk a d=>?_,λk a=>?_,λk a=>h.more k (.inl a),by have:=h.grow;omega⟩;{have g:k<v1.heap.size:=Up (n.old k a) j;rw[h.keep k (a.imp .inl id) λb e=>d b (l b k g e),f.keep k g d,m.keep k a]};rcases h.mine k a with(i|i)|i;{grind};{omega};omega
theorem Lone.loc(hl:Listed P c gl)(h:Lone P Good s w):∀{r:bC}{own:Nat->Prop}{v:Xf}{s':cE},xu P c gl s->(∃T D,cI c r (re w T D) v)->n5 c r s s'->(∀g,gl g=W8->r g=W1 g)->Reach c r own RO CU v->(∀a x u p n v1,r.le a->Good u n->cI c a n v1->ai c a u p->Reach c a x RO CU v1->Left c r own RO v x v1->Loc P main RO CU Stop x (G (caller.finish p) cs) v1)->Loc P main RO CU Stop own (s'.g (caller::cs)) v:=by induction h with|@done s w U u ht H hd=>intro r own v s' hs⟨T,D,Z⟩Y W b K;obtain⟨f,t,k,ret,st⟩:=s;obtain⟨f',t',k',M,st'⟩:=s';obtain⟨e1,J,e2,e3,I⟩:=Y;simp only at e1 J e2 e3 I H;obtain⟨h1,h2⟩:=ht;simp only at h1 h2;subst f' k' M h1 h2;cases I;(have q:∀v1,Env own RO CU v v1->∃p j a,Xm P main ((cE.mk f t' k W8 []).g (caller::cs)) v1=.go (G (caller.finish p) cs) j (seen P f ((results U t').events P v1 #[]))/\Ext c r (re w v1.tape v1.drawn) v1 a (re w v1.tape v1.drawn) j/\ai c a u p/\(∀e∈seen P f ((results U t').events P v1 #[]),ru c a e):=by intro v1 d;have E:cI c r (re w v1.tape v1.drawn) v1:=Z.env b d;have A:=kp U J (P:=P) _ _ E;rw[(hd v1.tape v1.drawn).1]at A;obtain⟨p,j,a,o,l,y,i⟩:=A;exact⟨p,j,a,aP H o,l,y,λe C=>i e (mem_seen C)⟩);refine .step rfl (λv1 d=>?_) (λv1 g' v' B d C=>?_);{obtain⟨p,j,a,o,l,y,i⟩:=q v1 d;exact⟨_,_,_,o,(l.mine (b.env d) i).1⟩};obtain⟨p,j,a,o,l,y,i⟩:=q v1 d;rw[o]at C;injection C with O Q R;subst O Q R;exact K a _ u p _ j l.le (hd v1.tape v1.drawn).2 l.rel y (l.mine (b.env d) i).2 (Left.after b d l (Left.refl ..))|@step s w X V hall ih=>intro r own v s' hs⟨T,D,Z⟩Y W b K;(have q:∀v1,Env own RO CU v v1->∃z n m j a B,b8 P s (re w v1.tape v1.drawn) z n/\xu P c gl z/\Xm P main (s'.g (caller::cs)) v1=.go (m.g (caller::cs)) j B/\Ext c r (re w v1.tape v1.drawn) v1 a n j/\n5 c a z m/\(∀e∈B,ru c a e):=by intro v1 d;have E:cI c r (re w v1.tape v1.drawn) v1:=Z.env b d;rcases uf (main:=main) (bs:=caller::cs) hl W E Y hs (λe e'=>X ⟨e,e'⟩)with⟨z,n,S,o,l,m,j,a,B,y,i,N,F⟩|hb;{exact⟨z,n,m,j,a,B,⟨S,o⟩,l,y,i,N,F⟩};obtain⟨z,n,o⟩:=V v1.tape v1.drawn;exact(hb.not o).elim);refine .step rfl (λv1 d=>?_) (λv1 g' v' B d C=>?_);{obtain⟨z,n,m,j,a,B,o,l,y,i,N,F⟩:=q v1 d;exact⟨_,_,_,y,(i.mine (b.env d) F).1⟩};obtain⟨z,n,m,j,a,es',o,l,y,i,N,F⟩:=q v1 d;rw[y]at C;injection C with O Q R;subst O Q R;refine ih v1.tape v1.drawn z n o l ⟨n.tape,n.drawn,i.rel⟩ N (λg e=>i.le _ _ (W g e)) (i.mine (b.env d) F).2 λr2 L u p w2 v3 c1 c2 c3 c4 c5 c6=>?_;exact K r2 L u p w2 v3 (bC.le_trans i.le c1) c2 c3 c4 c5 (Left.after b d i c6)
def entry(f:XA)(fn:Func)(b:X4)(args:Array Xd):cE:=⟨f,args++Array.replicate (fn.ntmps-args.size) Xo,[.code b],WI,[]⟩
theorem uv(p:Listed P c gl){b:X4}(a:∀v w T D,Good v w->Good v (re w T D))(d:Fit P c gl (entry f fn b args) w)(m:P.funcs[f]?=W1 fn)(l:fn.body=W1 b)(H:∀T,Calls P f args (re w T 0) R)(k:∀e w',R e w'->∃v,e=.returned v/\Good v w'):Lone P Good (entry f fn b args) w:=by refine pF p a d λT=>?_;obtain⟨e,w',g,h,i,s,j⟩:=H T [eu];obtain⟨v,rfl,o⟩:=k e w' h;obtain⟨n,q⟩:=i;refine⟨n,g,w',v,?_,j,o⟩;rw[<-q];congr 1;rw[gG args m,l];rfl
theorem Loc.call(q:Listed P c gl){b:X4}{args':Array Xd}(j:∀v w T D,Good v w->Good v (re w T D))(E:∀e w',R e w'->∃v,e=.returned v/\Good v w')(o:P.funcs[f]?=W1 fn)(p:c.fns f=W8)(n:fn.body=W1 b)(t:∀g,gl g=W8->r g=W1 g)(a:aj c r args args')(i:cI c r w v)(s:Reach c r own RO CU v)(H:∀T,Calls P f args (re w T 0) R)(K:∀m d u A B v1,r.le m->Good u B->cI c m B v1->ai c m u A->Reach c m d RO CU v1->Left c r own RO v d v1->Loc P main RO CU Stop d (G (caller.finish A) cs) v1):Loc P main RO CU Stop own (G (Xp.enter P f args' .normal) (caller::cs)) v:=by(have z:xu P c gl (entry f fn b args):=by refine⟨trivial,?_,λx F=>by simp[entry]at F⟩;obtain⟨I,h|⟨h,C⟩⟩:=q.body f fn p o;{simp_all};rw[n]at h;cases h;simp[entry,aV,C]);have y:n5 c r (entry f fn b args) (entry f fn b args'):=⟨rfl,by show aj c r (args++_) (args'++_);rw[a.size];exact a.append (.replicate _ fL),rfl,rfl,.nil⟩;have l:=Fit.Bl z i y t;have k:=uv q j l o n H E;have:=k.loc q (main:=main) (RO:=RO) (CU:=CU) (Stop:=Stop) (caller:=caller) (cs:=cs) z ⟨w.tape,w.drawn,i⟩ y t s K;rw[gG args' o,n];exact this
structure fA where
 k:Nat
 low:Nat
 t:Xv
 x:Array Xd
def fA.obj(s:fA):XT:=.cells s.x (if s.low=0 then s.t else xm) (0,s.x.size)
def dh(g:Nat)(ws:List fA)(v:Xf):Xf:={v with heap:=Array.replicate g (.cells #[] 0)++(ws.map fA.obj).toArray}
def dv(P:Xz)(fns:XA->Bool)(ws:List fA):dI:=
 {fns:=fns,seen:=λb=>P.globals.size<=b/\b<P.globals.size+ws.length,E1:=λb=>if b<P.globals.size then 0 else((ws[b-P.globals.size]?).map λs=>s.x.size).getD 0,aJ:=P.globals.size,
   low:=λb=>if b<P.globals.size then 0 else((ws[b-P.globals.size]?).map λs=>s.low).getD 0}
def gC(g:Nat)(ws:List fA):bC:=λb=>if b<g then Xh else(ws[b-g]?).map λs=>s.k
theorem eI{ws:List fA}{k:Nat}(h:gC g ws b=W1 k):∃(i:Nat)(s:fA),b=g+i/\ws[i]?=W1 s/\s.k=k/\i<ws.length:=by unfold gC at h;grind
theorem JO{ws:List fA}{s:fA}(h:ws[i]?=W1 s):gC g ws (g+i)=W1 s.k:=by unfold gC;simp_all
theorem jT(g:Nat)(ws:List fA)(v:Xf):(dh g ws v).heap.size=g+ws.length:=by simp[dh]
theorem vJ{ws:List fA}{s:fA}(h:ws[i]?=W1 s):(dh g ws v).heap[g+i]?=W1 s.obj:=by show(Array.replicate g _++_)[g+i]?=_;grind
theorem AV{ws:List fA}(h:b<g):(dh g ws v).heap[b]?=W1 (.cells #[] 0):=by show(Array.replicate g _++_)[b]?=_;grind
theorem bW{ws:List fA}{o:Nat}{s:fA}{u:Xd}(h:ws[i]?=W1 s)(a:s.x[o]?=W1 u):(dh g ws v).cell? ⟨g+i,o,Xh⟩=W1 u:=by simp[Xf.cell?,vJ h,fA.obj,a]
structure nW(P:Xz)(fns:XA->Bool)(ws:List fA)(v:Xf):Prop where
 iu:P.globals.size<=v.heap.size
 bad:P.info? xm=Xh
 at_:∀(i:Nat)(s:fA),ws[i]?=W1 s->∃(x':Array Xd)(t':Xv)(fr:Nat×Nat),v.heap[s.k]?=W1 (.cells x' t' fr)/\s.x.size<=x'.size/\(s.low=0->s.t=t')/\
  ∀(j:Nat)(u u':Xd),s.low<=j->s.x[j]?=W1 u->x'[j]?=W1 u'->ai (dv P fns ws) (gC P.globals.size ws) u u'
theorem nW.rel{ws:List fA}(h:nW P fns ws v):cI (dv P fns ws) (gC P.globals.size ws) (dh P.globals.size ws v) v:=by refine⟨λb k e=>?_,λb k e=>?_,λb D k e w=>?_,λb g=>?_,λb g _=>AV g,λb k e=>?_,rfl,rfl,λb g=>?_,λb k e q=>?_,?_⟩;{obtain⟨i,s,rfl,f,y,m⟩:=eI e;rw[jT];omega};{obtain⟨i,s,rfl,f,rfl,m⟩:=eI e;obtain⟨C,t,o,p,-⟩:=h.at_ i s f;grind};{obtain⟨i,s,rfl,f,y,m⟩:=eI e;obtain⟨I,J,rfl,x,z,A⟩:=eI w;exact .inr ⟨⟨U4 _ _,by omega⟩,⟨U4 _ _,by omega⟩⟩};{show(if b<P.globals.size then 0 else _)=0;split;{rfl};rename_i H;(have:ws[b-P.globals.size]?=Xh:=by rw[List.getElem?_eq_none_iff];have:¬(P.globals.size<=b/\b<P.globals.size+ws.length):=g;omega);simp_all};{obtain⟨i,s,rfl,f,rfl,m⟩:=eI e;obtain⟨C,t,o,p,B,E,F⟩:=h.at_ i s f;rw[vJ f,p];(have l:(dv P fns ws).low (P.globals.size+i)=s.low:=by show(if _<_ then 0 else _)=_;grind);refine .seen _ t o ⟨U4 _ _,by omega⟩ ?_ B ⟨λn=>?_,λn=>?_⟩ λj u K a b d=>?_;{show _<=(if _<_ then 0 else _);grind};{simp_all};{rw[l]at n;rw[if_neg n];exact⟨rfl,U4 _ _⟩};grind};{rw[jT];exact g.2};{obtain⟨i,s,rfl,f,rfl,m⟩:=eI e;have q:P.globals.size+i<P.globals.size:=q;omega};exact⟨by rw[jT];show P.globals.size<=_;omega,h.iu⟩
theorem hZ{ws:List fA}{off:Nat}{s:fA}(h:ws[i]?=W1 s)(a:s.low<=off):dB (dv P fns ws) (gC P.globals.size ws) ⟨P.globals.size+i,off,Xh⟩ ⟨s.k,off,Xh⟩:=by refine⟨JO h,rfl,rfl,?_⟩;(have b:¬(P.globals.size+i<P.globals.size):=by omega);show(if P.globals.size+i<P.globals.size then 0 else((ws[P.globals.size+i-P.globals.size]?).map λs=>s.low).getD 0)<=off;grind
section
theorem DR{fr:Xp}(h:xa fr cs)(e:lone fr cs w=k6 s' w'):False:=by obtain⟨-,rfl,rfl⟩:=e;rcases h with⟨f,t,k,b,d,h,-⟩|⟨-,h⟩;{simp only[cr,Xp.mk.injEq]at h;have:=h.2.2.2.2.1;cases a:s'.ret<;>rw[a]at this<;>simp[md]at this};simp at h
theorem me:∀(n:Nat){fr:Xp}{cs:List Xp}{w:Xf},xa fr cs->∀{s':cE}{w':Xf},runN P n (lone fr cs w)=.next (k6 s' w')->False:=by intro n;induction n with|zero=>intro fr cs w h s' w' e;simp only[runN,Stepped.next.injEq]at e;exact DR h e|succ n i=>intro fr cs w h s' w' e;simp only[runN]at e;rcases uW (P:=P) h w with⟨d,a,f,b,g⟩|⟨o,f,b⟩;{simp_all};simp_all
theorem Br(h:PV (Xm P W8 (s.g [eu]) w))(e:runN P (n+1) (k6 s w)=.next (k6 s' w')):False:=by simp only[runN]at e;rcases h with⟨o,a,h⟩|⟨f,t,k,b,i,a,j,h,d,g⟩;{rw[show step P (k6 s w)=.ended o a from step_lone_ended h]at e;cases e};rw[gD h]at e;exact me n (.inl ⟨f,t,k,b,i,rfl,rfl,d,g⟩) e
theorem AW(m:EW s)(e:runN P (n+1) (k6 s w)=.next (k6 s' w')):False:=by obtain⟨f,t,k,p,y⟩:=s;obtain⟨d,g⟩:=m;subst d g;have i:xa eu []:=.inr ⟨.inr (.inl rfl),rfl⟩;have a:∀v,eu.finish v=eu:=λv=>rfl;simp only[runN]at e;cases b:P.funcs[f]? with|none=>rw[gD ((bM b).trans (by rw[a]))]at e;exact me n i e|some l=>cases j:(results l t).run P w with|halt h q=>obtain⟨o,r,h⟩:=dj b j;rw[show step P (k6 ⟨f,t,k,W8,[]⟩ w)=.ended o r from step_lone_ended h]at e;cases e|ok u q=>rw[gD ((aP b j).trans (by rw[a]))]at e;exact me n i e
theorem Ke(h:k6 s w=k6 s' w'):s=s'/\w=w':=by simp only[k6,lone,Machine.mk.injEq,Array.mk.injEq,Vt,Xk.mk.injEq]at h;obtain⟨a,b,d⟩:=h;refine⟨GA ?_,a⟩;simp only[cE.g,G,b,d]
inductive je(P:Xz)(Good:cE->Xf->Prop):cE->Xf->Prop
 |done{s:cE}{w:Xf}:(∀T D,Good s (re w T D))->je P Good s w
 |step{s:cE}{w:Xf}:¬Good s w->¬EW s->(∀T D,∃s1 w1,b8 P s (re w T D) s1 w1)->(∀T D s1 w1,b8 P s (re w T D) s1 w1->je P Good s1 w1)->je P Good s w
section bar
variable(P)(Good:cE->Xf->Prop)
noncomputable def kN(p:cE×Xf):(Nat->X3->Nat)×Nat:=open Classical in
 if h:∃a:(Nat->X3->Nat)×Nat,∀s1 w1,b8 P p.1 (re p.2 a.1 a.2) s1 w1->¬je P Good s1 w1 then Classical.choose h else(λ_ _=>0,0)
def ig(p:cE×Xf):Prop:=¬EW p.1/\∃q:cE×Xf,b8 P p.1 (re p.2 (kN P Good p).1 (kN P Good p).2) q.1 q.2
noncomputable def sx(p:cE×Xf):cE×Xf:=open Classical in if h:ig P Good p then Classical.choose h.2 else p
noncomputable def cZ(p:cE×Xf):Nat->cE×Xf
 |0=>p
 |i+1=>sx P Good (cZ p i)
noncomputable def jG(p:cE×Xf):Nat->Nat
 |0=>0
 |i+1=>open Classical in if ig P Good (cZ P Good p i)then jG p i+((cZ P Good p (i+1)).2.drawn-(kN P Good (cZ P Good p i)).2)else jG p i
def Dz(p:cE×Xf)(i n:Nat):Prop:=jG P Good p i<=n/\(n<jG P Good p (i+1)\/¬ig P Good (cZ P Good p i))
noncomputable def py(p:cE×Xf)(n:Nat)(q:X3):Nat:=open Classical in
 if h:∃i,Dz P Good p i n then(kN P Good (cZ P Good p (Classical.choose h))).1 ((kN P Good (cZ P Good p (Classical.choose h))).2+(n-jG P Good p (Classical.choose h))) q else 0
end bar
section bar
variable{Good:cE->Xf->Prop}
theorem EH(f:∀s w T D,Good s w->Good s (re w T D))(l:¬je P Good s w)(n:¬EW s):∀d e,b8 P s (re w (kN P Good (s,w)).1 (kN P Good (s,w)).2) d e->¬je P Good d e:=by(have h:∃a:(Nat->X3->Nat)×Nat,∀d e,b8 P s (re w a.1 a.2) d e->¬je P Good d e:=by refine U8 λk=>l ?_;refine .step (λm=>l (.done λT D=>f _ _ T D m)) n (λT D=>?_) (λT D d e i=>?_);{refine U8 λg=>k ⟨(T,D),λd e i=>absurd ⟨d,e,i⟩ g⟩};refine U8 λg=>k ⟨(T,D),λo q j=>?_⟩;obtain⟨rfl,rfl⟩:=i.NW j;exact g);unfold kN;grind
theorem vL(h:ig P Good p):b8 P p.1 (re p.2 (kN P Good p).1 (kN P Good p).2) (sx P Good p).1 (sx P Good p).2:=by unfold sx;grind
theorem vF(h:¬ig P Good p):sx P Good p=p:=by unfold sx;simp_all
theorem qd(h:ig P Good (cZ P Good p i)):jG P Good p (i+1)=jG P Good p i+((cZ P Good p (i+1)).2.drawn-(kN P Good (cZ P Good p i)).2):=by exact@if_pos _ (Classical.propDecidable _) h _ _ _
theorem vy(h:¬ig P Good (cZ P Good p i)):jG P Good p (i+1)=jG P Good p i:=by exact@if_neg _ (Classical.propDecidable _) h _ _ _
theorem EG(h:i<=j):jG P Good p i<=jG P Good p j:=by induction h with|refl=>omega|@step m _ b=>by_cases a:ig P Good (cZ P Good p m);{rw[qd a];omega};rw[vy a];omega
theorem Bi(h:i<=j)(d:¬ig P Good (cZ P Good p i)):cZ P Good p j=cZ P Good p i/\jG P Good p j=jG P Good p i:=by induction h with|refl=>simp|@step m _ b=>(have a:¬ig P Good (cZ P Good p m):=by simp_all);exact⟨(vF a).trans b.1,(vy a).trans b.2⟩
theorem Cy(h:Dz P Good p i n)(q:X3):py P Good p n q=(kN P Good (cZ P Good p i)).1 ((kN P Good (cZ P Good p i)).2+(n-jG P Good p i)) q:=by(have g:∀{i j:Nat},i<=j->Dz P Good p i n->Dz P Good p j n->cZ P Good p j=cZ P Good p i/\jG P Good p j=jG P Good p i:=by intro i j a e f;by_cases d:ig P Good (cZ P Good p i);{rcases Nat.eq_or_lt_of_le a with rfl|b;{simp};have:=EG (P:=P) (Good:=Good) (p:=p) (show i+1<=j from b);rcases e.2 with h|h;{have:=f.1;omega};simp_all};exact Bi a d);have k:∃i,Dz P Good p i n:=⟨i,h⟩;unfold py;grind
variable(hl:Listed P c gl)(hGood:∀s w T D,Good s w->Good s (re w T D))
include hl hGood
theorem rY(j:Fit P c gl p.1 p.2)(k:¬je P Good p.1 p.2):∀i,Fit P c gl (cZ P Good p i).1 (cZ P Good p i).2/\¬je P Good (cZ P Good p i).1 (cZ P Good p i).2:=by intro i;induction i with|zero=>exact⟨j,k⟩|succ i b=>show Fit P c gl (sx P Good (cZ P Good p i)).1 (sx P Good (cZ P Good p i)).2/\¬je P Good (sx P Good (cZ P Good p i)).1 (sx P Good (cZ P Good p i)).2;by_cases h:ig P Good (cZ P Good p i);{have a:=vL h;refine⟨?_,EH hGood b.2 h.1 _ _ a⟩;rcases(b.1.re _ _).step hl (λe d=>h.1 ⟨e,d⟩)with⟨o,q,f,n⟩|g;{obtain⟨l,m⟩:=f.NW a;simp_all};exact(g.not a).elim};rw[vF h];exact b
theorem Dh(g:Fit P c gl p.1 p.2)(k:¬je P Good p.1 p.2)(h:ig P Good (cZ P Good p i)):b8 P (cZ P Good p i).1 (re (cZ P Good p i).2 (py P Good p) (jG P Good p i)) (cZ P Good p (i+1)).1 (re (cZ P Good p (i+1)).2 (py P Good p) (jG P Good p (i+1))):=by have l:=vL h;obtain⟨m,n,d⟩:=l.tape hl ((rY hl hGood g k i).1.re _ _) (λe b=>h.1 ⟨e,b⟩);have a:(cZ P Good p (i+1))=sx P Good (cZ P Good p i):=rfl;(have:=d (py P Good p) (jG P Good p i) λj q o=>by have f:Dz P Good p i (jG P Good p i+j):=⟨U4 ..,.inl (by rw[qd h,a];have:(re (cZ P Good p i).2 (kN P Good (cZ P Good p i)).1 (kN P Good (cZ P Good p i)).2).drawn=(kN P Good (cZ P Good p i)).2:=rfl;omega)⟩;rw[Cy f];show _=(kN P Good (cZ P Good p i)).1 ((kN P Good (cZ P Good p i)).2+j) q;simp);rw[qd h,a];exact this
theorem yW(a:Fit P c gl p.1 p.2)(b:¬je P Good p.1 p.2):∀i,(∀l,l<i->ig P Good (cZ P Good p l))->runN P i (k6 p.1 (re p.2 (py P Good p) 0))=.next (k6 (cZ P Good p i).1 (re (cZ P Good p i).2 (py P Good p) (jG P Good p i))):=by intro i;induction i with|zero=>intro _;rfl|succ i d=>intro h;rw[runN_add (d λl hl=>h l Ω)];exact yi (Dh hl hGood a b (h i Ω)).QX
theorem um(E:Fit P c gl s w)(H:∀T,∃n s' w',runN P n (k6 s (re w T 0))=.next (k6 s' w')/\Good s' w'):je P Good s w:=by refine U8 λJ=>?_;have d:Fit P c gl (s,w).1 (s,w).2:=E;have f:=J;obtain⟨n,s',w',x,F⟩:=H (py P Good (s,w));by_cases o:∀l,l<n->ig P Good (cZ P Good (s,w) l);{have:=yW hl hGood d f n o;rw[show k6 (s,w).1 (re (s,w).2 (py P Good (s,w)) 0)=k6 s (re w (py P Good (s,w)) 0)from rfl,x]at this;obtain⟨b,g⟩:=rY hl hGood d f n;obtain⟨y,L⟩:=Ke (Stepped.next.inj this);refine g (.done λT D=>?_);have:=hGood _ _ T D F;simp_all};(have:∃i,i<n/\¬ig P Good (cZ P Good (s,w) i)/\∀l,l<i->ig P Good (cZ P Good (s,w) l):=by(have v:∃i,i<n/\¬ig P Good (cZ P Good (s,w) i):=by simp_all);obtain⟨i,N⟩:=v;induction i using Nat.strongRecOn with|_ i O=>grind);obtain⟨i,I,a,m⟩:=this;have z:=yW hl hGood d f i m;obtain⟨k,rfl⟩:∃k,n=i+(k+1):=⟨n-i-1,by omega⟩;have u:=runN_add (k:=k+1) z;rw[show k6 (s,w).1 (re (s,w).2 (py P Good (s,w)) 0)=k6 s (re w (py P Good (s,w)) 0)from rfl,x]at u;obtain⟨b,g⟩:=rY hl hGood d f i;by_cases r:EW (cZ P Good (s,w) i).1;{exact AW r u.symm};rcases(b.re (py P Good (s,w)) (jG P Good (s,w) i)).step hl (λe t=>r ⟨e,t⟩)with⟨K,Q,A,M⟩|C;{obtain⟨-,-,B⟩:=A.tape hl (b.re _ _) (λe t=>r ⟨e,t⟩);(have:=B (kN P Good (cZ P Good (s,w) i)).1 (kN P Good (cZ P Good (s,w) i)).2 λj q _=>by show _=py P Good (s,w) (jG P Good (s,w) i+j) q;rw[Cy ⟨U4 ..,.inr a⟩,WM]);exact a ⟨r,(K,_),this⟩};exact Br C u.symm
end bar
end
def R0:XO:=.code (.refuse "")
def Gr(live:Nat->Bool):XG->Bool
 |.tmp i=>live i
 |_=>W8
def nZ(live:Nat->Bool)(o:X0):Bool:=o.op.operands.all (Gr live)&&(match o.dst with|some d=>live d|none=>W8)
def nh(live:Nat->Bool)(ops:Array X0)(o:X0):Bool:=match o.guard with|none=>W8|some (j,_)=>(match(ops[j]?).bind (·.dst)with|some d=>live d|none=>W8)
def tA(live:Nat->Bool)(ops:Array X0)(i:Nat):Bool:=match ops[i]? with|some o=>nZ live o&&nh live ops o|none=>W8
theorem yr(h:ops.all (λo=>nZ live o&&nh live ops o)=W8)(l:List Nat):l.all (tA live ops)=W8:=by rw[UU];intro i _;unfold tA;grind
def gd(live:Nat->Bool):X4->Bool
 |.region _ ops _=>ops.all (λo=>nZ live o&&nh live ops o)
 |.seq a b=>gd live a&&gd live b
 |.cond x a b=>Gr live x&&gd live a&&gd live b
 |.block _ a|.loop a|.scope a=>gd live a
 |.ret=>WI
 |_=>W8
def cY(live:Nat->Bool):XO->Bool
 |.code a|.inLoop a|.inScope a=>gd live a
 |.inRegion ops l=>l.all (tA live ops)
 |_=>W8
structure dq where
 f:XA
 defers:List Deferred
 kind:CallKind
 roundOf:Option Nat
 l2:Option (Array X0×List Nat)
 tail:List XO
 live:Nat->Bool
 t0:Array Xd
def dq.ov(d:dq)(t:Array Xd):Array Xd:=t.mapIdx λi v=>if d.live i then v else d.t0.getD i Xo
def dq.bot(d:dq)(t:Array Xd)(k':List XO):Xp:={fn:=d.f,tmps:=d.ov t,todo:=k',defers:=d.defers,mode:=.run,kind:=d.kind,roundOf:=d.roundOf}
inductive Gl(d:dq):List XO->List XO->Prop
 |app{init:List XO}:d.l2=Xh->init.all (cY d.live)=W8->Gl d (init++[R0]) (init++d.tail)
 |reg{ops:Array X0}{l1 l2:List Nat}:d.l2=W1 (ops,l2)->l1.all (tA d.live ops)=W8->Gl d [.inRegion ops l1,R0] (.inRegion ops (l1++l2)::d.tail)
 |fin{ops:Array X0}{l2:List Nat}:d.l2=W1 (ops,l2)->Gl d [R0] (.inRegion ops l2::d.tail)
def dq.end(d:dq)(k:List XO):Prop:=k=[R0]\/(d.l2.isSome=W8/\∃ops,k=[.inRegion ops [],R0])
inductive LY(d:dq):Bool->XA×Array Xd×List XO->Xp->Prop
 |up{f:XA}{t:Array Xd}{k:List XO}:LY d WI (f,t,k) (cr f t k .run)
 |bot{t:Array Xd}{k k':List XO}:Gl d k k'->LY d W8 (d.f,t,k) (d.bot t k')
theorem KF{d:dq}(h:d.live i=W8):(d.ov t).getD i Xo=t.getD i Xo:=by simp only[dq.ov,Uv,V3];simp_all
theorem PH{d:dq}(h:d.live i=W8):(d.ov t)[i]?=t[i]?:=by simp only[dq.ov,V3];simp_all
theorem PK{d:dq}(h:d.live i=W8)(v:Xd):(d.ov t).setIfInBounds i v=d.ov (t.setIfInBounds i v):=by apply Vr;intro j;simp only[dq.ov,VD,V3,Wk];grind
theorem C1{d:dq}{m:FrameMode}(x:XG)(h:Gr d.live x=W8):(d.bot t k').eval x=(cr f t k m).eval x:=by cases x with|tmp i=>exact KF h|_=>rfl
theorem execOp_congr{ev ev':XG->Xd}(f:∀cs b,o.op≠.select cs b)(h:∀x∈o.op.operands,ev x=ev' x):Xn ev o=Xn ev' o:=by have m:∀(l:Array XG),(∀x∈l,ev x=ev' x)->l.map ev=l.map ev':=λl d=>XP d;(have s:∀(x:Option XG),(∀y∈x,ev y=ev' y)->x.map ev=x.map ev':=λx d=>by cases x with|none=>rfl|some y=>simp_all);(have u:∀(j:Array (Nat×XG)),(∀p∈j,ev p.2=ev' p.2)->(j.map λ(i,x)=>(i,ev x))=(j.map λ(i,x)=>(i,ev' x)):=λj d=>XP λp g=>by grind);(have v:∀(k:Call)(t:Xv),(∀x∈k.operands,ev x=ev' x)->resolve ev k t=resolve ev' k t:=λk t d=>by obtain⟨a,e,q⟩:=k;have r:e.map ev=e.map ev':=m _ λx n=>d x (by cases a<;>simp[Call.operands,n]);unfold resolve;cases a<;>simp only[r];{rw[d _ (by simp[Call.operands])]};rw[d _ (by simp[Call.operands])]);unfold Xn;revert h f;(cases o.op<;>intro f h<;>simp only[Op.operands]at h<;>first|rfl|(simp only[List.mem_toArray,Uu,UZ,or_false,forall_eq,forall_eq_or_imp]at h;simp only[h];done)|(simp only[];rw[u _ (λp g=>h _ (by simp only[List.mem_toArray,Uy];exact⟨p,by simpa using g,rfl⟩))];done)|(simp only[];rw[m _ (λx d=>h x (UY.2 (.inl d))),m _ (λx d=>h x (UY.2 (.inr d)))];done)|(simp only[];rw[s _ (λx d=>h x (by simpa using d))];done)|(simp only[];rw[v _ _ h];done)|(exact absurd rfl (f _ _))|skip);simp_all
section
variable{d:dq}{b:Bool}{cs0:List Xp}{g1:Xk}{x:XO}
theorem Gl.cons(h:Gl d (x::kr) k')(j:x≠R0):(∃init,d.l2=Xh/\kr=init++[R0]/\k'=x::(init++d.tail)/\cY d.live x=W8/\init.all (cY d.live)=W8)\/(∃ops i l,d.l2=W1 (ops,l)/\x=.inRegion ops i/\kr=[R0]/\k'=.inRegion ops (i++l)::d.tail/\i.all (tA d.live ops)=W8):=by generalize a:x::kr=k at h;cases h with|@app init g e=>(cases init with|nil=>simp at a;exact absurd a.1 j|cons y init=>obtain⟨rfl,rfl⟩:=a;simp only[US,Ur]at e;exact .inl ⟨init,g,rfl,rfl,e.1,e.2⟩)|reg g e=>simp only[Vt]at a;exact .inr ⟨_,_,_,g,a.1,a.2,rfl,e⟩|fin g=>simp only[Vt]at a;exact absurd a.1 j
theorem Gl.zM(h:Gl d (x::kr) k')(e:x≠R0)(a:∀ops l,x≠.inRegion ops l):∃init,d.l2=Xh/\kr=init++[R0]/\k'=x::(init++d.tail)/\cY d.live x=W8/\init.all (cY d.live)=W8:=by rcases h.cons e with h|⟨ops,g,_,_,h,_⟩;{exact h};exact absurd h (a _ _)
theorem Gl.mk'{init:List XO}(pre:List XO)(a:d.l2=Xh)(e:init.all (cY d.live)=W8)(g:pre.all (cY d.live)=W8):Gl d (pre++(init++[R0])) (pre++(init++d.tail)):=by rw[<-Vu,<-Vu];exact .app a (by simp[g,e])
theorem mi{tail:List XO}{p:XO->Bool}:∀{init k1:List XO},init.all p=W8->exitTo id (init++[R0])=W1 k1->∃g,k1=g++[R0]/\g.all p=W8/\exitTo id (init++tail)=W1 (g++tail)|[],_,_,h=>by simp[exitTo,R0]at h|x::l,k1,j,h=>by simp only[US,Ur]at j;rw[Wn]at h;unfold exitTo at h;split at h;{rename_i s u e;cases e;split at h;{rename_i i;cases h;exact⟨l,rfl,j.2,by simp[exitTo,i]⟩};rename_i i;obtain⟨r,m,n,o⟩:=mi (tail:=tail) j.2 h;exact⟨r,m,n,by simp[exitTo,i,o]⟩};{rename_i y u q e;cases e;obtain⟨r,m,n,o⟩:=mi (tail:=tail) j.2 h;refine⟨r,m,n,?_⟩;rw[Wn];unfold exitTo;split;{rename_i e;cases e;exact absurd rfl (q _)};{rename_i e;cases e;exact o};rename_i e;cases e};rename_i e;cases e
def After(P:Xz)(main:Bool)(d:dq)(b:Bool)(f:XA)(t:Array Xd)(k:List XO)(F:Xp)(cs0:List Xp)(v v':Xf)(g1:Xk)(es:Array XU):Prop:=
 (∃t1 k1 F1,g1=G (cr f t1 k1 .run) cs0/\LY d b (f,t1,k1) F1/\∀cs,Xm P main (G F cs) v=.go (G F1 cs) v' es)\/
 (∃j t1 k1,g1=G (cr j t1 k1 .run) (cr f t k .run::cs0)/\∀cs,Xm P main (G F cs) v=.go (G (cr j t1 k1 .run) (F::cs)) v' es)\/
 (b=WI/\∃k1,g1=G (cr f t k1 .returning) cs0/\∀cs,Xm P main (G F cs) v=.go (G (cr f t k1 .returning) cs) v' es)
theorem After.ctl(e:Xm P main (G (cr f t k .run) cs0) v=.go g1 v' es)(o:LY d b (f,t,k) F)(L:∀cs,Xm P main (G (cr f t k .run) cs) v=.go (G (cr f t k1 .run) cs) v #[])(g:b=W8->∀k',Gl d k k'->∃a,Gl d k1 a/\∀cs,Xm P main (G (d.bot t k') cs) v=.go (G (d.bot t a) cs) v #[]):After P main d b f t k F cs0 v v' g1 es:=by rw[L]at e;injection e with i j l;subst i j l;cases o with|up=>exact .inl ⟨t,k1,_,rfl,.up,L⟩|bot h=>obtain⟨a,m,n⟩:=g rfl _ h;exact .inl ⟨t,k1,_,rfl,.bot m,n⟩
theorem After.ret(a:Xm P main (G (cr f t k .run) cs0) v=.go g1 v' es)(j:LY d b (f,t,k) F)(L:∀cs,Xm P main (G (cr f t k .run) cs) v=.go (G (cr f t k1 .returning) cs) v #[])(l:∀k',¬Gl d k k'):After P main d b f t k F cs0 v v' g1 es:=by rw[L]at a;injection a with e g i;subst e g i;cases j with|up=>exact .inr (.inr ⟨rfl,k1,rfl,L⟩)|bot h=>exact absurd h (l _)
theorem jH(a:(match(ops[i]?).bind (·.dst)with|some j=>d.live j|none=>W8)=W8)(u:Xd):(d.bot t (.inRegion ops (i::rest')::kk)).finish u=d.bot (match(ops[i]?).bind (·.dst)with|some j=>t.setIfInBounds j u|none=>t) (.inRegion ops rest'::kk):=by simp only[dq.bot,Xp.finish];cases e:(ops[i]?).bind (·.dst)with|none=>rfl|some j=>rw[e]at a;simp only at a⊢;rw[PK a]
section op
variable{w1:Xf}
abbrev fB(d:dq)(t:Array Xd)(ops:Array X0)(i:Nat)(rest:List Nat)(kk:List XO):Xp:=d.bot t (.inRegion ops (i::rest)::kk)
theorem wP{u:Xd}(q:d.kind≠.early)(p:∀c,o.op≠.defer c)(m:ops[i]?=W1 o)(n:Region.wanted o (Xx ops (d.ov t))=W8)(j:(Xn (fB d t ops i rest kk).eval o).run P w=.ok (.value u) w1):Xm P main (G (fB d t ops i rest kk) cs) w=.go (G ((fB d t ops i rest kk).finish u) cs) w1 (seen P d.f ((Xn (fB d t ops i rest kk).eval o).events P w #[])):=by simp only[dq.bot]at j;(have a:=by simpa using q);cases g:d.roundOf with|none=>simp[G,Xm,Xm.exec,Xm.oper,Xm.apply,Xp.oper?,dq.bot,m,n,g,a];rw[<-g,j];simp[GStep.after]|some l=>simp only[G,Xm,Xm.exec,Xm.oper,Xp.oper?,dq.bot,m,n,UA,UW,if_true];split;{rename_i e;exact absurd e (p _)};simp[Xm.apply,j,GStep.after,a]
theorem y5(q:d.kind≠.early)(p:∀c,o.op≠.defer c)(m:ops[i]?=W1 o)(n:Region.wanted o (Xx ops (d.ov t))=W8)(j:(Xn (fB d t ops i rest kk).eval o).run P w=.ok .skip w1):Xm P main (G (fB d t ops i rest kk) cs) w=.go (G ((fB d t ops i rest kk).finish Xo) cs) w1 (seen P d.f ((Xn (fB d t ops i rest kk).eval o).events P w #[])):=by simp only[dq.bot]at j;(have a:=by simpa using q);cases g:d.roundOf with|none=>simp[G,Xm,Xm.exec,Xm.oper,Xm.apply,Xp.oper?,dq.bot,m,n,g,a];rw[<-g,j];simp[GStep.after]|some l=>simp only[G,Xm,Xm.exec,Xm.oper,Xp.oper?,dq.bot,m,n,UA,UW,if_true];split;{rename_i e;exact absurd e (p _)};simp[Xm.apply,j,GStep.after,a]
theorem xD{j:XA}(r:d.kind≠.early)(q:∀c,o.op≠.defer c)(n:ops[i]?=W1 o)(p:Region.wanted o (Xx ops (d.ov t))=W8)(m:(Xn (fB d t ops i rest kk).eval o).run P w=.ok (.enter j args) w1):Xm P main (G (fB d t ops i rest kk) cs) w=.go (G (Xp.enter P j args .normal) (fB d t ops i rest kk::cs)) w1 (seen P d.f ((Xn (fB d t ops i rest kk).eval o).events P w #[])):=by simp only[dq.bot]at m;(have a:=by simpa using r);cases g:d.roundOf with|none=>simp[G,Xm,Xm.exec,Xm.oper,Xm.apply,Xp.oper?,dq.bot,n,p,g,a];rw[<-g,m];simp[GStep.after]|some l=>simp only[G,Xm,Xm.exec,Xm.oper,Xp.oper?,dq.bot,n,p,UA,UW,if_true];split;{rename_i e;exact absurd e (q _)};simp[Xm.apply,m,GStep.after,a]
theorem rm(h:((ops[i]?).map (Region.wanted · (Xx ops (d.ov t)))).getD WI=WI):Xm P main (G (fB d t ops i rest kk) cs) w=.go (G ((fB d t ops i rest kk).finish Xo) cs) w #[]:=by simp only[G,Xm,Xm.exec,dq.bot,h,UK,if_false]
end op
theorem uQ(h:nh d.live ops o=W8):Region.wanted o (Xx ops (d.ov t))=Region.wanted o (Xx ops t):=by unfold Region.wanted;unfold nh at h;cases g:o.guard with|none=>rfl|some p=>obtain⟨j,b⟩:=p;rw[g]at h;simp only at h⊢;unfold Xx;cases e:(ops[j]?).bind (·.dst)with|none=>rfl|some i=>rw[e]at h;simp only[Vm];rw[PH h]
theorem kI(h:tA live ops i=W8)(a:ops[i]?=W1 o):nZ live o=W8/\nh live ops o=W8:=by unfold tA at h;rw[a]at h;simpa using h
theorem E4(h:sN P c gl o=W8):(∀cs b,o.op≠.select cs b)/\∀k,o.op≠.defer k:=by constructor;{intro a b e;rw[sN,e]at h;simp at h};intro a e;rw[sN,e]at h;simp at h
theorem Io(j:XA)(x:Array Xd):∃e k1,Xp.enter P j x .normal=cr j e k1 .run:=by cases a:P.funcs[j]? with|none=>exact⟨_,_,n0 x a⟩|some g=>exact⟨_,_,gG x a⟩
def TW:Next->Prop
 |.value _|.skip|.enter _ _=>True
 |_=>False
def BE(P:Xz)(f:XA)(t:Array Xd)(k:List XO)(v:Xf):Prop:=
 ∀ops i rest kk o,k=.inRegion ops (i::rest)::kk->ops[i]?=W1 o->Region.wanted o (Xx ops t)=W8->∃n w1,(Xn (nF f t ops i rest kk).eval o).run P v=.ok n w1/\TW n
theorem LY.step(D:Xm P main (G (cr f t k .run) cs0) v=.go g1 v' es)(Z:k.all (aV P c gl)=W8)(R:LY d b (f,t,k) F)(he:d.kind≠.early)(hend:b=W8->¬d.end k)(hrun:BE P f t k v)(hp:∀ch,g1.frame.mode≠.panicking ch):After P main d b f t k F cs0 v v' g1 es:=by cases k with|nil=>refine After.ret (k1:=[]) D R (λp=>by simp[G,Xm,Xm.exec,cr]) λk' h=>?_;generalize Z:([]:List XO)=k at h;(cases h with|app _ _=>simp at Z|reg _ _=>simp at Z|fin _=>simp at Z)|cons x kr=>simp only[US,Ur]at Z;obtain⟨V,hkr⟩:=Z;(have q:∀(Q:List XO),x≠R0->(∀g l,x≠.inRegion g l)->(cY d.live x=W8->Q.all (cY d.live)=W8)->(∀(kr:List XO)p,Xm P main (G (cr f t (x::kr) .run) p) v=.go (G (cr f t (Q++kr) .run) p) v #[])->(∀(kr:List XO)p,Xm P main (G (d.bot t (x::kr)) p) v=.go (G (d.bot t (Q++kr)) p) v #[])->After P main d b f t (x::kr) F cs0 v v' g1 es:=by intro Q U O h3 h4 h5;refine After.ctl (k1:=Q++kr) D R (h4 kr) λ_ k' h=>?_;obtain⟨z,A,B,C,I,N⟩:=h.zM U O;subst B C;exact⟨_,.mk' Q A N (h3 I),h5 _⟩);cases x with|code a=>(cases a with|skip=>exact q [] (by simp[R0]) Θ (λ_=>rfl) (λkr p=>by simp[G,Xm,Xm.exec,cr]) (λkr p=>by simp[G,Xm,Xm.exec,dq.bot])|label l=>exact q [] (by simp[R0]) Θ (λ_=>rfl) (λkr p=>by simp[G,Xm,Xm.exec,cr]) (λkr p=>by simp[G,Xm,Xm.exec,dq.bot])|ret=>refine After.ret D R (λp=>od) λk' h=>?_;obtain⟨z,_,_,_,h4,_⟩:=h.zM (by simp[R0]) Θ;simp[cY,gd]at h4|seq a b=>exact q [.code a,.code b] (by simp[R0]) Θ (λh=>by simpa[cY,gd]using h) (λkr p=>by simp[G,Xm,Xm.exec,cr]) (λkr p=>by simp[G,Xm,Xm.exec,dq.bot])|block id a=>exact q [.code a,.inBlock id] (by simp[R0]) Θ (λh=>by simpa[cY,gd]using h) (λkr p=>by simp[G,Xm,Xm.exec,cr]) (λkr p=>by simp[G,Xm,Xm.exec,dq.bot])|loop a=>exact q [.code a,.inLoop a] (by simp[R0]) Θ (λh=>by simpa[cY,gd]using h) (λkr p=>by simp[G,Xm,Xm.exec,cr]) (λkr p=>by simp[G,Xm,Xm.exec,dq.bot])|scope a=>exact q [.code a,.inScope a] (by simp[R0]) Θ (λh=>by simpa[cY,gd]using h) (λkr p=>lu) (λkr p=>by simp[G,Xm,Xm.exec,dq.bot])|refuse why=>have:∃o w,Xm P main (G (cr f t (.code (.refuse why)::kr) .run) cs0) v=.ended o w #[]:=⟨_,v,by simp[G,Xm,Xm.exec,cr];rfl⟩;obtain⟨o,w,e⟩:=this;rw[e]at D;cases D|exit id=>(cases X:exitTo id kr with|none=>rw[iU X]at D;cases D|some k1=>refine After.ctl (k1:=k1) D R (λp=>by simp[G,Xm,Xm.exec,cr,X]) λ_ k' h=>?_;obtain⟨z,A,B,C,I,N⟩:=h.zM (by simp[R0]) Θ;subst B C;obtain⟨i1,f1,f2,f3⟩:=mi (tail:=d.tail) N X;subst f1;exact⟨_,.app A f2,λp=>by simp[G,Xm,Xm.exec,dq.bot,f3]⟩)|cond y a Y=>(cases hv:(cr f t (.code (.cond y a Y)::kr) .run).eval y with|bool u=>refine After.ctl (k1:=.code (if u then a else Y)::kr) D R (λp=>ko hv) λ_ k' h=>?_;obtain⟨z,A,B,C,I,N⟩:=h.zM (by simp[R0]) Θ;subst B C;simp only[cY,gd,Ur]at I;refine⟨_,.mk' [.code (if u then a else Y)] A N (by cases u<;>simp[cY,I]),λp=>?_⟩;have:=C1 (d:=d) (t:=t) (k:=.code (.cond y a Y)::(z++[R0])) (k':=.code (.cond y a Y)::(z++d.tail)) (f:=f) (m:=.run) y I.1.1;rw[hv]at this;simp only[dq.bot]at this;simp[G,Xm,Xm.exec,dq.bot,this]|_=>obtain⟨o,w2,e⟩:=jO (P:=P) (main:=main) (cs:=cs0) (w:=v) (f:=f) (t:=t) (x:=y) (a:=a) (b:=Y) (k:=kr) (λu e=>by rw[hv]at e;cases e);rw[D]at e;cases e)|region id g draw=>(cases draw with|false=>exact q [.inRegion g (List.range g.size)] (by simp[R0]) Θ (λh=>by simp only[cY,gd]at h;simp only[US,Wo,cY,yr h,VN]) (λkr p=>by simp[G,Xm,Xm.exec,cr]) (λkr p=>by simp[G,Xm,Xm.exec,dq.bot])|true=>have L:=λp=>kg (P:=P) (main:=main) (f:=f) (t:=t) (id:=id) (ops:=g) (k:=kr) (cs:=p) (w:=v);rw[L]at D;cases hc:(choose (.order f id)).run P v with|halt h w1=>rw[hc]at D;cases D|ok u w1=>rw[hc]at D;simp only at D;injection D with A B C;subst A B C;cases R with|up=>exact .inl ⟨t,_,_,rfl,.up,λp=>by rw[L,hc]⟩|bot h=>obtain⟨z,A,B,C,I,N⟩:=h.zM (by simp[R0]) Θ;subst B C;refine .inl ⟨t,_,_,rfl,.bot (.mk' [.inRegion g (Region.schedule (P.follows .mixedOrders) g u)] A N (by simp only[cY,gd]at I;simp only[US,Wo,cY,yr I,VN])),λp=>?_⟩;simp only[G,Xm,Xm.exec,dq.bot,Bool.not_true,UK,if_false,hc];rfl)|rangeFunc _ _ _ _=>simp[aV,codeOk]at V|goto l=>simp[aV,codeOk]at V)|inBlock id=>exact q [] (by simp[R0]) Θ (λ_=>rfl) (λkr p=>by simp[G,Xm,Xm.exec,cr]) (λkr p=>by simp[G,Xm,Xm.exec,dq.bot])|inLoop a=>exact q [.code a,.inLoop a] (by simp[R0]) Θ (λh=>by simpa[cY]using h) (λkr p=>by simp[G,Xm,Xm.exec,cr]) (λkr p=>by simp[G,Xm,Xm.exec,dq.bot])|inScope a=>exact q [] (by simp[R0]) Θ (λ_=>rfl) (λkr p=>jK) (λkr p=>by simp[G,Xm,Xm.exec,dq.bot])|inRegion g l=>(cases l with|nil=>refine After.ctl (k1:=kr) D R (λp=>by simp[G,Xm,Xm.exec,cr]) λhb k' h=>?_;rcases h.cons (by simp[R0])with⟨z,A,B,C,I,N⟩|⟨ops',l1,l2,A,B,C,I,N⟩;{subst B C;exact⟨_,.app A N,λp=>by simp[G,Xm,Xm.exec,dq.bot]⟩};exact absurd (by unfold dq.end;rw[A];cases B;exact .inr ⟨rfl,_,by rw[C]⟩) (hend hb)|cons i s=>have hops:(i::s).all (opAt P c gl g)=W8:=V;(have hB:∀k',b=W8->Gl d (.inRegion g (i::s)::kr) k'->∃r E,k'=.inRegion g (i::r)::E/\Gl d (.inRegion g s::kr) (.inRegion g r::E)/\tA d.live g i=W8:=by intro k' _ h;rcases h.cons (by simp[R0])with⟨z,A,B,C,I,N⟩|⟨ops',l1,l2,A,B,C,I,N⟩;{subst B C;simp only[cY,US,Ur]at I;exact⟨s,_,rfl,.mk' [.inRegion g s] A N (by simp only[US,Wo,cY,I.2,VN]),I.1⟩};cases B;subst C I;simp only[US,Ur]at N;exact⟨s++l2,_,rfl,.reg A N.2,N.1⟩);cases M:((g[i]?).map (Region.wanted · (Xx g t))).getD WI with|false=>have L:=λp=>stepG_unwanted (P:=P) (main:=main) (f:=f) (cs:=p) (k:=kr) (rest:=s) (w:=v) M;rw[L]at D;injection D with A B C;subst A B C;(cases R with|up=>exact .inl ⟨_,_,_,by rw[cO],.up,λp=>by rw[L,cO]⟩|bot h=>obtain⟨r,E,rfl,U,O⟩:=hB _ rfl h;refine .inl ⟨_,_,_,by rw[cO],.bot U,λp=>?_⟩;(have hl:(match(g[i]?).bind (·.dst)with|some j=>d.live j|none=>W8)=W8:=by cases K:g[i]? with|none=>rfl|some o=>have:=(kI O K).1;simp only[nZ,Ur]at this;cases hd:o.dst<;>simp only[Vm,hd];rw[hd]at this;exact this.2);exact(rm (by cases K:g[i]? with|none=>rfl|some o=>rw[K]at M;simp only[UA,UW]at M⊢;rw[uQ (kI O K).2];exact M)).trans (congrArg (λF=>GStep.go (G F p) v #[]) (jH hl Xo)))|true=>cases K:g[i]? with|none=>rw[K]at M;simp at M|some o=>rw[K]at M;(have H:Region.wanted o (Xx g t)=W8:=by simpa using M);obtain⟨n,w1,hr,hshp⟩:=hrun g i s kr o rfl K H;have hok:sN P c gl o=W8:=nk hops K;obtain⟨hsel,S⟩:=E4 hok;(have W:∀r E,b=W8->tA d.live g i=W8->Xn (fB d t g i r E).eval o=Xn (nF f t g i s kr).eval o/\Region.wanted o (Xx g (d.ov t))=W8/\(match(g[i]?).bind (·.dst)with|some j=>d.live j|none=>W8)=W8:=by intro r E _ O;have hl:=(kI O K).1;simp only[nZ,Ur]at hl;refine⟨execOp_congr hsel λx hxx=>C1 x ?_,by rw[uQ (kI O K).2];exact H,?_⟩;{have:=hl.1;rw[VO]at this;exact this x hxx};rw[K];cases hd:o.dst<;>simp only[Vm,hd];rw[hd]at hl;exact hl.2);cases n with|value u=>have L:=λp=>jg (P:=P) (main:=main) (cs:=p) K H hr;rw[L]at D;injection D with A B C;subst A B C;(cases R with|up=>exact .inl ⟨_,_,_,by rw[cO],.up,λp=>by rw[L,cO]⟩|bot h=>obtain⟨r,E,rfl,U,O⟩:=hB _ rfl h;obtain⟨T,a2,a3⟩:=W r E rfl O;refine .inl ⟨_,_,_,by rw[cO],.bot U,λp=>?_⟩;exact((wP he S K a2 (by rw[T];exact hr)).trans (by rw[T])).trans (congrArg (λF=>GStep.go (G F p) _ _) (jH a3 u)))|skip=>have L:=λp=>kh (P:=P) (main:=main) (cs:=p) K H hr;rw[L]at D;injection D with A B C;subst A B C;(cases R with|up=>exact .inl ⟨_,_,_,by rw[cO],.up,λp=>by rw[L,cO]⟩|bot h=>obtain⟨r,E,rfl,U,O⟩:=hB _ rfl h;obtain⟨T,a2,a3⟩:=W r E rfl O;refine .inl ⟨_,_,_,by rw[cO],.bot U,λp=>?_⟩;exact((y5 he S K a2 (by rw[T];exact hr)).trans (by rw[T])).trans (congrArg (λF=>GStep.go (G F p) _ _) (jH a3 Xo)))|enter j args=>have L:=λp=>ji (P:=P) (main:=main) (cs:=p) K H hr;obtain⟨t1,k1,I⟩:=Io (P:=P) j args;rw[L]at D;injection D with A B C;subst A B C;(cases R with|up=>exact .inr (.inl ⟨j,t1,k1,by rw[I],λp=>by rw[L,I]⟩)|bot h=>obtain⟨r,E,rfl,U,O⟩:=hB _ rfl h;obtain⟨T,a2,a3⟩:=W r E rfl O;refine .inr (.inl ⟨j,t1,k1,by rw[I],λp=>?_⟩);rw[xD he S K a2 (by rw[T];exact hr),T,I])|_=>exact hshp.elim)|inRangeFunc _=>simp[aV]at V|endRangeFunc _=>simp[aV]at V|beginRound=>simp[aV]at V|call _ _ _ _=>simp[aV]at V|extern _ _=>simp[aV]at V
end
section
variable{d:dq}
theorem cE.k7(h:s.g cs=s'.g cs):s=s':=by obtain⟨f,t,k,b,p⟩:=s;obtain⟨m,q,o,a,l⟩:=s';simp only[cE.g,G,cr,Xk.mk.injEq,Xp.mk.injEq]at h;obtain⟨⟨e,g,i,-,n,-⟩,j,-⟩:=h;have:=IJ (XM j);subst e g i this;(have:b=a:=by cases b<;>cases a<;>simp_all[md]);rw[this]
theorem Gl.op(h:Gl d (.inRegion ops (i::rest)::kr) k'):∃a f,k'=.inRegion ops (i::a)::f/\Gl d (.inRegion ops rest::kr) (.inRegion ops a::f)/\tA d.live ops i=W8:=by rcases h.cons (by simp[R0])with⟨l,g,j,k,b,e⟩|⟨m,o,n,g,j,k,b,e⟩;{subst j k;simp only[cY,US,Ur]at b;exact⟨rest,_,rfl,.mk' [.inRegion ops rest] g e (by simp only[US,Wo,cY,b.2,VN]),b.1⟩};cases j;subst k b;simp only[US,Ur]at e;exact⟨rest++n,_,rfl,.reg g e.2,e.1⟩
theorem FN(a:tA d.live ops i=W8):(match(ops[i]?).bind (·.dst)with|some j=>d.live j|none=>W8)=W8:=by cases b:ops[i]? with|none=>rfl|some o=>have:=(kI a b).1;simp only[nZ]at this;grind
inductive DG(d:dq)(cs:List Xp):cE->Xk->Prop
 |here{t:Array Xd}{k k':List XO}:Gl d k k'->DG d cs ⟨d.f,t,k,WI,[]⟩ (G (d.bot t k') cs)
 |below{f:XA}{t t0:Array Xd}{k k0 k0':List XO}{ret:Bool}{pre st:List (XA×Array Xd×List XO)}:st=pre++[(d.f,t0,k0)]->Gl d k0 k0'->DG d cs ⟨f,t,k,ret,st⟩ (G (cr f t k (md ret)) (pre.map up++d.bot t0 k0'::cs))
theorem DG.running{g:Xk}(h:DG d cs s g):g.status=.running:=by cases h<;>rfl
theorem DG.step{cs cs0:List Xp}{s s1:cE}{g:Xk}{v v':Xf}{es:Array XU}(h:DG d cs s g)(p:Xm P main (s.g cs0) v=.go (s1.g cs0) v' es)(E:xu P c gl s)(he:d.kind≠.early)(H:s.ret=WI->BE P s.f s.t s.k v)(R:s.st=[]->¬d.end s.k):∃g1,Xm P main g v=.go g1 v' es/\DG d cs s1 g1:=by(have w:∀ch,(s1.g cs0).frame.mode≠.panicking ch:=λch e=>by simp only[cE.g,G,cr]at e;cases hr:s1.ret<;>rw[hr]at e<;>simp[md]at e);cases h with|@here t k k' D=>rcases LY.step (d:=d) (b:=W8) (k:=k) (F:=d.bot t k') p E.items (.bot D) he (λ_=>R rfl) (H rfl) w with⟨O,m,F1,B,U,C⟩|⟨j,O,m,B,C⟩|⟨e,_⟩;{obtain rfl:s1=⟨d.f,O,m,WI,[]⟩:=cE.k7 (cs:=cs0) B;cases U with|bot S=>exact⟨_,C cs,.here S⟩};{obtain rfl:s1=⟨j,O,m,WI,[(d.f,t,k)]⟩:=cE.k7 (cs:=cs0) B;exact⟨_,C cs,.below (pre:=[]) rfl D⟩};cases e|@below f t A k N k0' Y n st W D=>subst W;cases Y with|false=>rcases LY.step (d:=d) (b:=WI) (F:=cr f t k .run) p E.items .up he (λe=>by cases e) (H rfl) w with⟨O,m,F1,B,U,C⟩|⟨j,O,m,B,C⟩|⟨_,m,B,C⟩;{obtain rfl:s1=⟨f,O,m,WI,n++[(d.f,A,N)]⟩:=cE.k7 (cs:=cs0) B;cases U with|up=>exact⟨_,C _,.below rfl D⟩};{obtain rfl:s1=⟨j,O,m,WI,(f,t,k)::(n++[(d.f,A,N)])⟩:=cE.k7 (cs:=cs0) (B.trans rfl);exact⟨_,C _,.below (pre:=(f,t,k)::n) rfl D⟩};obtain rfl:s1=⟨f,t,m,W8,n++[(d.f,A,N)]⟩:=cE.k7 (cs:=cs0) B;exact⟨_,C _,.below rfl D⟩|true=>cases n with|nil=>obtain⟨-,-,l,i,a,m,e⟩:=E.below (d.f,A,N) Θ;simp only at e;subst e;obtain⟨X,kk',rfl,S,h2⟩:=D.op;have hl:=FN h2;have L:up (d.f,A,.inRegion l (i::a)::m)=nF d.f A l i a m:=rfl;rw[cE.jc]at p;simp only[V1,U0,Vf,Wn,L]at p;(cases q:P.funcs[f]? with|none=>rw[bM q,cO]at p;injection p with I J K;subst J K;obtain rfl:s1=⟨d.f,_,.inRegion l a::m,WI,[]⟩:=cE.k7 (cs:=cs0) I.symm;exact⟨_,(bM q).trans (congrArg (λF=>GStep.go (G F cs) _ _) (jH hl _)),.here S⟩|some V=>cases M:(results V t).run P v with|halt z w1=>obtain⟨o,Z,e⟩:=dj (main:=main) (k:=k) (x:=nF d.f A l i a m) (cs:=cs0) q M;simp_all|ok u Z=>rw[aP q M,cO]at p;injection p with I J K;subst J K;obtain rfl:s1=⟨d.f,_,.inRegion l a::m,WI,[]⟩:=cE.k7 (cs:=cs0) I.symm;exact⟨_,(aP q M).trans (congrArg (λF=>GStep.go (G F cs) _ _) (jH hl _)),.here S⟩)|cons y n=>obtain⟨Q,T,ky⟩:=y;obtain⟨-,-,l,i,a,m,e⟩:=E.below (Q,T,ky) Θ;simp only at e;subst e;have L:up (Q,T,.inRegion l (i::a)::m)=nF Q T l i a m:=rfl;rw[cE.jc]at p;simp only[Wn,U0,L]at p;cases q:P.funcs[f]? with|none=>rw[bM q,cO]at p;injection p with I J K;subst J K;obtain rfl:s1=⟨Q,_,.inRegion l a::m,WI,n++[(d.f,A,N)]⟩:=cE.k7 (cs:=cs0) I.symm;exact⟨_,(bM q).trans (by rfl),.below rfl D⟩|some V=>cases M:(results V t).run P v with|halt z w1=>obtain⟨o,Z,e⟩:=dj (main:=main) (k:=k) (x:=nF Q T l i a m) (cs:=(n++[(d.f,A,N)]).map up++cs0) q M;simp_all|ok u Z=>rw[aP q M,cO]at p;injection p with I J K;subst J K;obtain rfl:s1=⟨Q,_,.inRegion l a::m,WI,n++[(d.f,A,N)]⟩:=cE.k7 (cs:=cs0) I.symm;exact⟨_,(aP q M).trans (by rfl),.below rfl D⟩
theorem Jx(D:Listed P c gl){w1:Xf}(T:∀g,gl g=W8->r g=W1 g)(W:cI c r w v)(U:n5 c r s s')(V:xu P c gl s)(A:b8 P s w s1 w1)(m:s.ret=WI):BE P s'.f s'.t s'.k v:=by obtain⟨f,t,k,ret,st⟩:=s;obtain⟨S,M,X,L,st'⟩:=s';obtain⟨O,H,Q,R,B⟩:=U;simp only at O H Q R B m;subst S X m;intro a i l I o J E p;subst J;(have h:Region.wanted o (Xx a t)=W8:=by rw[<-funext λj=>l6 H a j];exact p);obtain⟨y,-⟩:=V.sQ;have F:=nk y E;have b:=tg D.aJ D.ext F (ev:=(nF f t a i l I).eval) (λx q=>oT H T D.qu x q) (λ_=>⟨rfl,rfl⟩) w v W;cases q:(Xn (nF f t a i l I).eval o).run P w with|halt z w2=>rw[q]at b;by_cases K:∃u,z=.panic u;{obtain⟨u,rfl⟩:=K;exact(A.qv (lf E h q)).elim};exact(A.gI (mI E h q b (λu e=>K ⟨u,e⟩))).elim|ok n w2=>rw[q]at b;obtain⟨Y,v1,r1,N,-,Z,-⟩:=b;exact⟨Y,v1,N,by cases Z<;>trivial⟩
def MW(d:dq)(Q:Array Xd->Xf->Prop)(s:cE)(w:Xf):Prop:=s.st=[]/\s.ret=WI/\s.f=d.f/\s.k=[R0]/\Q s.t w
theorem je.loc(hl:Listed P c gl)(he:d.kind≠.early)(h:je P (MW d Q) s w):∀{r:bC}{own:Nat->Prop}{v:Xf}{s':cE}{g:Xk},xu P c gl s->(∃T D,cI c r (re w T D) v)->n5 c r s s'->(∀g,gl g=W8->r g=W1 g)->Reach c r own RO CU v->DG d cs s' g->(∀q p t F k' i v1,r.le q->Q t i->Gl d [R0] k'->cI c q i v1->aj c q t F->Reach c q p RO CU v1->Left c r own RO v p v1->Loc P main RO CU Stop p (G (d.bot F k') cs) v1)->Loc P main RO CU Stop own g v:=by induction h with|@done s w hd=>intro r own v s' g I⟨T,D,hw⟩m S b n K;obtain⟨C,g2,g3,g4,g5⟩:=hd T D;obtain⟨f,t,k,ret,st⟩:=s;obtain⟨f',F,k',u,st'⟩:=s';obtain⟨e1,W,e2,e3,a⟩:=m;simp only at e1 W e2 e3 a C g2 g3 g4 g5;subst f' k' u C g2 g3 g4;cases a;(cases n with|here j=>exact K r own _ _ _ _ v (bC.le_refl r) g5 j hw W b (Left.refl ..)|below e j=>simp at e)|@step s w hng U hex hall ih=>intro r own v s' g I⟨T,D,hw⟩m S b n K;have stuck:∀(f:XA)(t:Array Xd)(w:Xf)(A:cE)(i:Xf),¬b8 P ⟨f,t,[R0],WI,[]⟩ w A i:=λf t w A i h=>h.gI ⟨_,w,by rfl⟩;(have o:s.st=[]->s.ret=WI:=λh=>by cases m:s.ret with|false=>rfl|true=>exact absurd ⟨m,h⟩ U);by_cases J:s.st=[]/\d.l2.isSome=W8/\∃B,s.k=[.inRegion B [],R0];{obtain⟨N,h2,B,h3⟩:=J;have h0:=o N;obtain⟨f,t,k,ret,st⟩:=s;obtain⟨f',F,k',u,st'⟩:=s';obtain⟨e1,W,e2,e3,a⟩:=m;simp only at e1 W e2 e3 a N h3 h0;subst f' k' u N h3 h0;cases a;have hls:b8 P ⟨f,t,[.inRegion B [],R0],WI,[]⟩ (re w T D) ⟨f,t,[R0],WI,[]⟩ (re w T D):=⟨#[],by rfl⟩;cases n with|@here _ _ k2 j=>(have:Gl d [R0] k2:=by generalize hk:[XO.inRegion B [],R0]=kk at j;cases j with|app hn _=>simp_all|reg hn _=>simp only[Vt,XO.inRegion.injEq,and_true]at hk;obtain⟨rfl,rfl⟩:=hk;exact .fin hn|fin _=>simp at hk);exact ih T D _ _ hls (s':=⟨d.f,F,[R0],WI,[]⟩) ⟨I.fn,rfl,I.below⟩ ⟨T,D,by simp_all⟩ ⟨rfl,W,rfl,rfl,.nil⟩ S b (.here this) K|below e j=>simp at e};(have R:s.st=[]->¬d.end s.k:=by intro N h2;rcases h2 with h2|⟨h2,h3⟩;{have h0:=o N;obtain⟨f,t,k,ret,st⟩:=s;simp_all};simp_all);(have Y:∀v1,Env own RO CU v v1->∃A i z v2 q M C,b8 P s (re w v1.tape v1.drawn) A i/\xu P c gl A/\Xm P main g v1=.go C v2 M/\DG d cs z C/\Ext c r (re w v1.tape v1.drawn) v1 q i v2/\n5 c q A z/\(∀e∈M,ru c q e):=by intro v1 E;have X:cI c r (re w v1.tape v1.drawn) v1:=hw.env b E;obtain⟨A,i,L⟩:=hex v1.tape v1.drawn;rcases uf (main:=main) (bs:=[]) hl S X m I (λe e'=>U ⟨e,e'⟩)with⟨s2,w2,es1,b1,b2,z,v2,q,M,b3,b4,b5,b6⟩|hb;{obtain⟨rfl,rfl⟩:=b8.NW L ⟨es1,b1⟩;have hs':xu P c gl s':=⟨trivial,by rw[m.k];exact I.items,by have:=I.below;have a:=m.st;revert this;generalize s.st=l at a;generalize s'.st=l' at a;induction a with|nil=>simp|@cons f t F k l l' _ _ ih=>intro h x hx;rcases Uu.1 hx with rfl|hx;{simp_all};exact ih (λy hy=>h y (UH _ hy)) x hx⟩;obtain⟨C,c1,c2⟩:=n.step b3 hs' he (λV=>Jx hl S X m I L (by rw[<-m.ret];exact V)) (λh=>by rw[m.k];refine R ?_;have a:=m.st;rw[h]at a;generalize s.st=l at a;cases a;rfl);grind};exact(hb.not L).elim);refine .step n.running (λv1 E=>?_) (λv1 g' v' M E O=>?_);{obtain⟨A,i,z,v2,q,M,C,L,a2,a3,a4,H,a6,a7⟩:=Y v1 E;exact⟨_,_,_,a3,(H.mine (b.env E) a7).1⟩};obtain⟨A,i,z,v2,q,es',C,L,a2,a3,a4,H,a6,a7⟩:=Y v1 E;rw[a3]at O;injection O with b1 b2 b3;subst b1 b2 b3;refine ih v1.tape v1.drawn A i L a2 ⟨i.tape,i.drawn,H.rel⟩ a6 (λg e=>H.le _ _ (S g e)) (H.mine (b.env E) a7).2 a4 λr2 Z t F k' w2 v3 c1 c2 c3 c4 c5 c6 c7=>?_;exact K r2 Z t F k' w2 v3 (bC.le_trans H.le c1) c2 c3 c4 c5 c6 (Left.after b E H c7)
end
section
variable{d:dq}
def lv(live:Nat->Bool)(t:Array Xd):Array Xd:=t.mapIdx λi v=>if live i then v else Xo
theorem Rg:d.ov (lv d.live d.t0)=d.t0:=by apply Vr;intro i;simp only[dq.ov,lv,V3,Uv];grind
structure Place(P:Xz)(c:dI)(gl:Nat->Bool)(r:bC)(w:Xf)(own RO:Nat->Prop)(CU:Nat->Nat->Prop)(v:Xf):Prop where
 ba:Listed P c gl
 Ty:∀g,gl g=W8->r g=W1 g
 rel:cI c r w v
 reach:Reach c r own RO CU v
theorem Loc.piece(e:Place P c gl r w own RO CU v)(C:d.kind≠.early){k0':List XO}(E:k0.all (aV P c gl)=W8)(l:Gl d k0 k0')(F:aj c r tl (lv d.live d.t0))(B:∀t w T D,Q t w->Q t (re w T D))(H:∀T,∃n f w',runN P n (k6 ⟨d.f,tl,k0,WI,[]⟩ (re w T 0))=.next (k6 ⟨d.f,f,[R0],WI,[]⟩ w')/\Q f w')(K:∀k a t f k' y v1,r.le k->Q t y->Gl d [R0] k'->cI c k y v1->aj c k t f->Reach c k a RO CU v1->Left c r own RO v a v1->Loc P main RO CU Stop a (G (d.bot f k') cs) v1):Loc P main RO CU Stop own (G {fn:=d.f,tmps:=d.t0,todo:=k0',defers:=d.defers,mode:=.run,kind:=d.kind,roundOf:=d.roundOf} cs) v:=by have o:xu P c gl ⟨d.f,tl,k0,WI,[]⟩:=⟨trivial,E,λx I=>by simp at I⟩;have m:n5 c r ⟨d.f,tl,k0,WI,[]⟩ ⟨d.f,lv d.live d.t0,k0,WI,[]⟩:=⟨rfl,F,rfl,rfl,.nil⟩;have g:=Fit.Bl o e.rel m e.Ty;(have b:je P (MW d Q) ⟨d.f,tl,k0,WI,[]⟩ w:=by refine um e.ba (λs w T D h=>⟨h.1,h.2.1,h.2.2.1,h.2.2.2.1,B _ _ T D h.2.2.2.2⟩) g λT=>?_;obtain⟨n,f,w',z,A⟩:=H T;exact⟨n,_,w',z,rfl,rfl,rfl,rfl,A⟩);have:=b.loc e.ba (main:=main) (RO:=RO) (CU:=CU) (Stop:=Stop) (cs:=cs) C o ⟨w.tape,w.drawn,e.rel⟩ m e.Ty e.reach (.here l) K;rw[dq.bot,Rg]at this;exact this
theorem Ej(h:cd.wp P (λe a w=>e=.normal/\a.defers=[]/\Q a.tmps w) ⟨t,[]⟩ w):∃n b w',runN P n (k6 ⟨f,t,[.code cd,R0],WI,[]⟩ w)=.next (k6 ⟨f,b,[R0],WI,[]⟩ w')/\Q b w':=by obtain⟨e,j,w',⟨rfl,g,i⟩,n,k⟩:=h (base f) [R0] [eu];obtain⟨b,l⟩:=j;simp only at g i;subst g;exact⟨n,b,w',k,i⟩
theorem Loc.code(N:Place P c gl r w own RO CU v)(g:Nat->Bool)(o:F.todo=.code cd::tail)(s:F.mode=.run)(p:F.kind≠.early)(q:codeOk P c gl cd=W8)(m:gd g cd=W8)(u:aj c r tl (lv g F.tmps))(M:∀t w T D,Q t w->Q t (re w T D))(H:∀T,cd.wp P (λe a w=>e=.normal/\a.defers=[]/\Q a.tmps w) ⟨tl,[]⟩ (re w T 0))(K:∀j b t k l v1,r.le j->Q t l->cI c j l v1->aj c j t k->Reach c j b RO CU v1->Left c r own RO v b v1->Loc P main RO CU Stop b (G {F with tmps:=k.mapIdx λi x=>if g i then x else F.tmps.getD i Xo,todo:=tail} cs) v1):Loc P main RO CU Stop own (G F cs) v:=by obtain⟨f,U,W,L,md,R,S⟩:=F;simp only at o s p u H K;subst o s;refine Loc.piece (d:=⟨f,L,R,S,Xh,tail,g,U⟩) N p (k0:=[.code cd,R0]) (by simp[aV,q,R0,codeOk]) (.app (init:=[.code cd]) rfl (by simp[cY,m])) u M (λT=>Ej (H T)) λj b t k O l v1 A B n C E I J=>?_;(have:O=tail:=by generalize q:[R0]=V at n;cases n with|@app y _ _=>simp_all|reg h _=>cases h|fin h=>cases h);subst this;exact K j b t k l v1 A B C E I J
end
end Go.ab
namespace Go.Mx
variable{i N:Nat}
structure Wd where
 L:Bool
 W:Bool
 S:Bool
 n:Nat
 deriving DecidableEq
def Wd.enc(w:Wd):Nat:=w.L.toNat+2*w.W.toNat+4*w.S.toNat+8*w.n
def Wd.zero:Wd:=⟨WI,WI,WI,0⟩
theorem Wd.vZ{w v:Wd}(h:w.enc=v.enc):w=v:=by obtain⟨a,b,c,n⟩:=w;obtain⟨d,e,f,g⟩:=v;cases a<;>cases b<;>cases c<;>cases d<;>cases e<;>cases f<;>simp[Wd.enc]at h⊢<;>omega
inductive Th
 |out|c0
 |ld(aw st:Bool)
 |cs(old:Wd)
 |ca(old:Wd)(aw st:Bool)
 |sq|t2
 |a1(old:Wd)(st:Bool)
 |hold|u0
 |uc(old:Wd)
 |ux|us
def nw(o:Wd)(aw st:Bool):Wd:=⟨!o.S||o.L,!aw&&o.W,o.S||(st&&o.L),if o.L||o.S then o.n+1 else o.n⟩
inductive Mv:Th->Wd->Nat->Th->Wd->Nat->Prop
 |start{w:Wd}{m:Nat}:Mv .out w m .c0 w m
 |N7{m:Nat}:Mv .c0 ⟨WI,WI,WI,0⟩ m .hold ⟨W8,WI,WI,0⟩ m
 |Lk{w:Wd}{m:Nat}:w≠⟨WI,WI,WI,0⟩->Mv .c0 w m (.ld WI WI) w m
 |Sm{w:Wd}{m:Nat}{aw st:Bool}:Mv (.ld aw st) w m (.ld aw st) w m
 |TC{w:Wd}{m:Nat}{st:Bool}:w.L=W8->w.S=WI->w.W=WI->w.n≠0->Mv (.ld WI st) w m (.cs w) w m
 |Qv{w:Wd}{m:Nat}{aw st:Bool}:Mv (.ld aw st) w m (.ca w aw st) w m
 |Oy{w:Wd}{m:Nat}:Mv (.cs w) w m (.ld W8 WI) {w with W:=W8} m
 |Ji{o w:Wd}{m:Nat}:w≠o->Mv (.cs o) w m (.ld WI WI) w m
 |KY{w:Wd}{m:Nat}{aw st:Bool}:w.L=WI->w.S=WI->Mv (.ca w aw st) w m .hold (nw w aw st) m
 |LD{w:Wd}{m:Nat}{aw st:Bool}:(w.L||w.S)=W8->Mv (.ca w aw st) w m .sq (nw w aw st) m
 |LJ{o w:Wd}{m:Nat}{aw st:Bool}:Mv (.ca o aw st) w m (.ld aw st) w m
 |QZ{o w:Wd}{m:Nat}{st:Bool}:o.L=W8->o.S=WI->o.W=WI->o.n≠0->Mv (.ca o WI st) w m (.cs o) w m
 |JH{o w:Wd}{m:Nat}{aw st:Bool}:w≠o->Mv (.ca o aw st) w m (.ld aw st) w m
 |take{w:Wd}{m:Nat}:Mv .sq w (m+1) .t2 w m
 |Rf{w:Wd}{m:Nat}{st:Bool}:w.S=W8->Mv .t2 w m (.a1 w st) w m
 |QS{w:Wd}{m:Nat}{st:Bool}:w.S=WI->Mv .t2 w m (.ca w W8 st) w m
 |Sg{w:Wd}{m:Nat}{st:Bool}:w.S=WI->Mv .t2 w m (.ld W8 st) w m
 |add{w o:Wd}{m:Nat}{st:Bool}:Mv (.a1 o st) w m .hold ⟨W8,w.W,st&&o.n !=1,w.n-1⟩ m
 |want{w:Wd}{m:Nat}:Mv .hold w m .u0 w m
 |Qm{w:Wd}{m:Nat}:w.S=W8->Mv .u0 w m .us {w with L:=WI} m
 |NZ{w:Wd}{m:Nat}:w.S=WI->w.n=0\/w.W=W8->Mv .u0 w m .out {w with L:=WI} m
 |R9{w:Wd}{m:Nat}:w.S=WI->w.n≠0->w.W=WI->Mv .u0 w m (.uc {w with L:=WI}) {w with L:=WI} m
 |Np{w:Wd}{m:Nat}:Mv (.uc w) w m .us {w with W:=W8,n:=w.n-1} m
 |Kq{o w:Wd}{m:Nat}:w≠o->Mv (.uc o) w m .ux w m
 |PF{w:Wd}{m:Nat}:w.n=0\/w.L=W8\/w.W=W8\/w.S=W8->Mv .ux w m .out w m
 |Qn{w:Wd}{m:Nat}:w.n≠0->w.L=WI->w.W=WI->w.S=WI->Mv .ux w m (.uc w) w m
 |BI{w:Wd}{m:Nat}:Mv .us w m .out w (m+1)
def qy:Th->Bool|.hold|.u0=>W8|_=>WI
def By:Th->Bool|.us|.t2|.a1 _ _=>W8|.ld aw _=>aw|.ca _ aw _=>aw|_=>WI
def pQ:Th->Bool|.sq=>W8|_=>WI
def Jd:Th->Bool|.us=>W8|_=>WI
def CS:Th->Bool|.t2|.a1 _ _=>W8|_=>WI
def Je:Th->Bool|.ld aw _=>aw|.ca _ aw _=>aw|_=>WI
def PY:Th->Bool|.uc _|.ux=>W8|_=>WI
def cnt(p:Th->Bool)(f:Nat->Th):Nat->Nat
 |0=>0
 |N+1=>cnt p f N+(p (f N)).toNat
def upd(f:Nat->Th)(i:Nat)(x:Th):Nat->Th:=λj=>if j=i then x else f j
theorem ml{p:Th->Bool}{f g:Nat->Th}:∀{N:Nat},(∀j,j<N->p (f j)=p (g j))->cnt p f N=cnt p g N|0,_=>rfl|N+1,h=>by simp only[cnt];rw[ml λj b=>h j Ω,h N Ω]
theorem lk(p:Th->Bool)(f:Nat->Th)(x:Th):∀{N:Nat},i<N->cnt p (upd f i x) N+(p (f i)).toNat=cnt p f N+(p x).toNat|N+1,h=>by simp only[cnt];rcases V4 (Wp h)with b|rfl;{have:=lk p f x b;(have e:upd f i x N=f N:=by simp[upd];omega);grind};(have:cnt p (upd f i x) i=cnt p f i:=ml λj c=>by simp[upd];grind);rw[this];simp[upd];omega
theorem pS{p:Th->Bool}{f:Nat->Th}:∀{N i:Nat},i<N->p (f i)=W8->1<=cnt p f N|N+1,i,h,c=>by simp only[cnt];rcases V4 (Wp h)with b|rfl;{have:=pS b c;omega};simp_all
theorem oK{p:Th->Bool}{f:Nat->Th}:∀{N i j:Nat},i<j->j<N->p (f i)=W8->p (f j)=W8->2<=cnt p f N|N+1,i,j,b,h,c,e=>by simp only[cnt];rcases V4 (Wp h)with d|rfl;{have:=oK b d c e;omega};have:=pS b c;simp_all
def fY(w:Wd):Th->Prop
 |.ld aw st=>st=W8->aw=W8
 |.ca o aw st=>(st=W8->aw=W8)/\(aw=W8->o.W=W8)
 |.cs o=>o.L=W8/\o.S=WI/\o.W=WI/\o.n≠0
 |.a1 o _=>w.S=W8/\w.L=WI/\1<=o.n/\o.n<=w.n
 |.uc o=>o.L=WI/\o.W=WI/\o.S=WI/\o.n≠0
 |_=>True
structure Inv(f:Nat->Th)(N:Nat)(w:Wd)(m:Nat):Prop where
 i1:cnt qy f N=w.L.toNat
 i2:cnt By f N+m=(w.W||(w.S&&!w.L)).toNat
 i3:¬(w.W=W8/\w.S=W8)
 i4:if w.W then cnt pQ f N=w.n+m+cnt Jd f N else if w.S&&!w.L then cnt pQ f N+cnt CS f N=w.n else cnt pQ f N=w.n
 i5:w.L=WI->w.W=WI->w.S=WI->w.n≠0->1<=cnt PY f N
 i6:w.S=W8->w.n≠0
 i8:w.W=WI->cnt Je f N=0
 loc:∀i,i<N->fY w (f i)
section
theorem vr(f:Nat->Th)(N:Nat):cnt By f N=cnt Jd f N+cnt CS f N+cnt Je f N:=by induction N with|zero=>rfl|succ N c=>simp only[cnt];(have:∀t:Th,(By t).toNat=(Jd t).toNat+(CS t).toNat+(Je t).toNat:=by intro t;cases t with|ld a b=>cases a<;>rfl|ca o a b=>cases a<;>rfl|_=>rfl);grind
section
variable{f:Nat->Th}{w w':Wd}{m m':Nat}{x:Th}
theorem v7(a:i<N)(c:fY w' x)(h:∀j,j<N->j≠i->fY w' (f j)):∀j,j<N->fY w' (upd f i x j):=by intro j b;unfold upd;grind
theorem Hc{t:Th}(h:fY w t)(j:w.S=W8->w.L=WI->w'.S=W8/\w'.L=WI/\w.n<=w'.n):fY w' t:=by cases t with|a1 o l=>obtain⟨d,e,g,k⟩:=h;obtain⟨a,b,c⟩:=j d e;exact⟨a,b,g,by omega⟩|_=>exact h
set_option maxHeartbeats 4000000 in theorem Inv.step(h:Inv f N w m)(c:i<N)(u:Mv (f i) w m x w' m'):Inv (upd f i x) N w' m':=by have g:=lk qy f x c;have k:=lk Jd f x c;have l:=lk CS f x c;have q:=lk Je f x c;have r:=lk pQ f x c;have s:=lk PY f x c;have s1:=vr f N;have s2:=vr (upd f i x) N;have v:=h.loc i c;have d:∀p:Th->Bool,p (f i)=W8->1<=cnt p f N:=λp Z=>pS c Z;obtain⟨J,K,M,O,P,Q,R,e⟩:=h;have a:fY w' x->(w.S=W8->w.L=WI->w'.S=W8/\w'.L=WI/\w.n<=w'.n)->∀j,j<N->fY w' (upd f i x j):=λE F=>v7 c E λj t _=>Hc (e j t) F;have H:fY w' x->(∀j,j<N->j≠i->fY w' (f j))->∀j,j<N->fY w' (upd f i x j):=v7 c;(have b:fY w' x->(2<=cnt CS f N->False)->CS (f i)=W8->∀j,j<N->fY w' (upd f i x j):=λE F T=>v7 c E λj t I=>by have:=e j t;cases V:f j with|a1 o Y=>refine(F ?_).elim;(have U:CS (f j)=W8:=by rw[V];rfl);rcases Nat.lt_or_gt_of_ne I with G|G;{exact oK G c U T};exact oK G t T U|_=>rw[V]at this;exact this);have z:=d qy;have A:=d Jd;have B:=d CS;have C:=d Je;clear d;generalize hy:f i=y at u g k l q r s v z A B C b;clear hy;obtain⟨L,W,S,n⟩:=w;cases y with|ld D Y=>cases D<;>cases L<;>cases W<;>cases S<;>cases u<;>(try dsimp only[Bool.or_true,Bool.or_false,Bool.true_or,Bool.false_or]at*)<;>(try contradiction)<;>(try simp only[UK,or_false,false_or]at*)<;>(simp[qy,Jd,CS,Je,pQ,PY,nw,fY]at J K M O P Q R g k l q r s v z A B C<;>(refine⟨?_,?_,?_,?_,?_,?_,?_,?_⟩<;>first|(simp[nw]<;>omega)|omega|(refine a ?_ ?_<;>simp[fY,nw]<;>omega)|(refine a ⟨‹_›,‹_›,‹_›,‹_›⟩ ?_;simp;done)|(refine a ⟨‹_›,‹_›,‹_›,‹_›⟩ ?_;simp;omega)|(refine b ?_ (λX=>?_) rfl<;>(try simp[fY,nw])<;>omega)))|ca o D Y=>cases D<;>cases L<;>cases W<;>cases S<;>cases u<;>(try dsimp only[Bool.or_true,Bool.or_false,Bool.true_or,Bool.false_or]at*)<;>(try contradiction)<;>(try simp only[UK,or_false,false_or]at*)<;>(simp[qy,Jd,CS,Je,pQ,PY,nw,fY]at J K M O P Q R g k l q r s v z A B C<;>(refine⟨?_,?_,?_,?_,?_,?_,?_,?_⟩<;>first|(simp[nw]<;>omega)|omega|(refine a ?_ ?_<;>simp[fY,nw]<;>omega)|(refine a ⟨‹_›,‹_›,‹_›,‹_›⟩ ?_;simp;done)|(refine a ⟨‹_›,‹_›,‹_›,‹_›⟩ ?_;simp;omega)|(refine b ?_ (λX=>?_) rfl<;>(try simp[fY,nw])<;>omega)))|_=>cases L<;>cases W<;>cases S<;>cases u<;>(try dsimp only[Bool.or_true,Bool.or_false,Bool.true_or,Bool.false_or]at*)<;>(try contradiction)<;>(try simp only[UK,or_false,false_or]at*)<;>(simp[qy,Jd,CS,Je,pQ,PY,nw,fY]at J K M O P Q R g k l q r s v z A B C<;>(refine⟨?_,?_,?_,?_,?_,?_,?_,?_⟩<;>first|(simp[nw]<;>omega)|omega|(refine a ?_ ?_<;>simp[fY,nw]<;>omega)|(refine b ?_ (λX=>?_) rfl<;>(try simp[fY,nw])<;>omega)))
end
end
theorem pH{p:Th->Bool}{f:Nat->Th}:∀{N:Nat},(∀i,i<N->p (f i)=WI)->cnt p f N=0|0,_=>rfl|N+1,h=>by simp only[cnt];rw[pH λi b=>h i Ω,h N Ω];rfl
theorem Inv.KI{f:Nat->Th}{w:Wd}(h:Inv f N w 0)(b:∀i,i<N->f i=.out\/f i=.sq):∀i,i<N->f i=.out:=by(have z:∀p:Th->Bool,p .out=WI->p .sq=WI->cnt p f N=0:=λp l m=>pH λi a=>by grind);obtain⟨c,d,q,g,j,r,s,k⟩:=h;rw[z qy rfl rfl]at c;rw[z By rfl rfl]at d;rw[z Jd rfl rfl,z CS rfl rfl]at g;rw[z PY rfl rfl]at j;obtain⟨L,W,S,n⟩:=w;(have o:cnt pQ f N=0:=by grind);intro i a;rcases b i a with e|e;{exact e};have:=pS (p:=pQ) (f:=f) a (by rw[e];rfl);omega
def wt:Th->Nat
 |.uc _|.ux=>5
 |.us=>4
 |.t2|.a1 _ _=>2
 |.ld aw _|.ca _ aw _=>if aw then 1 else 2
 |.cs _=>2
 |.c0=>2
 |_=>0
end Go.Mx
namespace Go.Rk
variable{α:Type}
inductive Rk(α:Type)where
 |z
 |s(f:α->Rk α)
def Lt{α:Type}(a b:Rk α):Prop:=∃f x,b=.s f/\a=f x
theorem Lt.Ug:WellFounded (Lt (α:=α)):=by refine⟨λa=>?_⟩;induction a with|z=>exact⟨_,λb⟨f,x,h,_⟩=>by cases h⟩|s g c=>refine⟨_,λb⟨f,x,h,e⟩=>?_⟩;cases h;rw[e];exact c x
abbrev Dc{α:Type}:Rk α->Rk α->Prop:=Relation.TransGen Lt
theorem Lt.wf:WellFounded (Dc (α:=α)):=Lt.Ug.transGen
theorem ra(f:α->Rk α)(x:α):Dc (f x) (.s f):=.single ⟨f,x,rfl,rfl⟩
theorem SH(f:α->Rk α)(x:α):Dc (f x) (.s λ_=>.s f):=.tail (.single ⟨f,x,rfl,rfl⟩) ⟨_,x,rfl,rfl⟩
def PX{α:Type}(N:Nat)(V' V:Nat->Rk α):Prop:=∃i,i<N/\Dc (V' i) (V i)/\∀j,j≠i->V' j=V j
theorem PX.wf{α:Type}:∀N:Nat,WellFounded (PX (α:=α) N)|0=>⟨λV=>⟨_,λc⟨i,h,_⟩=>absurd h (Vg i)⟩⟩|N+1=>by have j:=PX.wf (α:=α) N;(have f:∀d:Rk α,∀V:Nat->Rk α,V N=d->Acc (PX (N+1)) V:=by intro d;induction Lt.wf.apply d with|intro d _ l=>intro V;induction j.apply V with|intro V _ e=>intro g;refine⟨_,λc⟨i,k,b,a⟩=>?_⟩;rcases V4 (Wp k)with h|rfl;{exact e c ⟨i,h,b,a⟩ ((a N Ω).trans g)};exact l (c i) (g▸b) c rfl);exact⟨λV=>f _ V rfl⟩
end Go.Rk
namespace Go.Cr
open Go.Conc Go.Mx Go.Rk
open Go.ConcR(KK WgAt stA smA rd wr mk)
open Go.ConcM(OsLater)
variable{g g':Xk}{own' O:Nat->Prop}{es:Array XU}{v':Xf}
section
structure Cx where
 P:Xz
 RO:Nat->Prop
 mu:Nat
 mo:Nat
 pre:Array Xd
 tP:Xv
 mm:Nat
 Bu:Array XZ->Prop
 wg:Nat
 tW:Xv
 out:Nat
 tO:Xv
 no:Nat
 oc:Nat->Nat->Prop
 res:Nat->Xd
 base:Nat
 n:Nat
 End:Xk->Xf->Prop
 w0:Xf
 solo:Prop
 halt:(Nat->Prop)->Xk->Xf->Prop
 tw:Int->Int->XT
variable(C:Cx)
def Cx.muA:XR:=⟨C.mu,C.mo,Xh⟩
def Cx.msA:XR:=⟨C.mu,C.mo+1,Xh⟩
def ax(v:Xf)(s q:Int):Prop:=v.heap[C.mu]?=W1 (.cells (C.pre++#[.int .i32 s,.int .u32 q]) C.tP)
def cS(v:Xf)(w:Wd)(q:Nat):Prop:=ax C v w.enc q
def RR(v:Xf)(es:Array XZ):Prop:=∃ck,v.heap[C.mm]?=W1 (.map es ck)
def ar(v:Xf):Prop:=∃es,RR C v es/\C.Bu es
def C'(v:Xf):Prop:=∃cs:Array Xd,v.heap[C.out]?=W1 (.cells cs C.tO)/\cs.size=C.no
structure dn(v:Xf):Prop where
 port:∃s q,ax C v s q
 gM:∃st sm,v.heap[C.wg]?=W1 (C.tw st sm)
 uy:C' C v
structure W0(w:Xf):Prop where
 os:OsLater C.w0.os w.os
 out:w.output=C.w0.output
 tape:w.tape=C.w0.tape
structure Cx.Ok:Prop where
 pre:C.pre.size=C.mo
 lK:C.mu≠C.mm
 gi:C.mu≠C.wg
 gb:C.mu≠C.out
 nP:C.mm≠C.wg
 l5:C.mm≠C.out
 i7:C.wg≠C.out
 ro:∀k,C.RO k->k≠C.mu/\k≠C.mm/\k≠C.wg/\k≠C.out
 oc:∀i j o,C.oc i o->C.oc j o->i=j
 TZ:∀o,¬C.oc 0 o
structure Env(i:Nat)(own:Nat->Prop)(v v1:Xf):Prop where
 keep:∀k,own k\/C.RO k->v1.heap[k]?=v.heap[k]?
 grow:v.heap.size<=v1.heap.size
 aJ:dn C v->dn C v1
 A1:∀o,C.oc i o->v1.cell? ⟨C.out,o,Xh⟩=v.cell? ⟨C.out,o,Xh⟩
def Cx.CU(k n:Nat):Prop:=k=C.mu/\n<=C.mo
def Cx.wk(i:Nat):Prop:=i≠0\/C.solo
def q8(own:Nat->Prop)(e:XU):Prop:=ab.TO own C.RO (λ_ _=>False) e\/∃o,o<C.mo/\e=⟨.cell ⟨C.mu,o,Xh⟩,WI,WI⟩
structure lb(own:Nat->Prop)(v v':Xf)(es:Array XU):Prop where
 keep:∀k,k<v.heap.size->¬own k->v'.heap[k]?=v.heap[k]?
 grow:v.heap.size<=v'.heap.size
 os:v'.os=v.os
 out:v'.output=v.output
 tape:v'.tape=v.tape
 evs:∀e∈es,q8 C (ab.more own v v') e
structure So(i:Nat)(v v':Xf)(es:Array XU):Prop where
 keep:∀k,k≠C.out->v'.heap[k]?=v.heap[k]?
 size:v'.heap.size=v.heap.size
 os:v'.os=v.os
 out:v'.output=v.output
 tape:v'.tape=v.tape
 blk:C' C v->C' C v'
 cells:∀o,¬C.oc i o->v'.cell? ⟨C.out,o,Xh⟩=v.cell? ⟨C.out,o,Xh⟩
 evs:∀e∈es,∃o,C.oc i o/\e=⟨.cell ⟨C.out,o,Xh⟩,W8,WI⟩
def Fin(i:Nat)(v:Xf):Prop:=∀o,C.oc i o->v.cell? ⟨C.out,o,Xh⟩=W1 (C.res o)
structure DL(w w':Xf)(es:Array XU):Prop where
 heap:w'.heap=w.heap
 tape:w'.tape=w.tape
 out:w'.output=w.output
 os:OsLater w.os w'.os
 evs:es=#[]
structure Md where
 hold:Bool
 deaf:Bool
 tok:Bool
 said:Bool
def Md.free:Md:=⟨WI,WI,WI,WI⟩
def Md.bG:Md:=⟨WI,W8,WI,WI⟩
def Md.l7:Md:=⟨W8,W8,WI,WI⟩
def Md.Av:Md:=⟨W8,WI,WI,WI⟩
def Md.own:Md:=⟨W8,WI,W8,WI⟩
def Md.ym:Md:=⟨WI,WI,WI,W8⟩
def Md.u7:Md:=⟨WI,W8,WI,W8⟩
def fy(m:Md)(own:Nat->Prop):Nat->Prop:=λk=>own k\/(m.tok=W8/\k=C.mm)
inductive iS(i:Nat):Md->Mark->Md->Prop
 |PZ:iS i .free .disable .bG
 |JZ:iS i .Av .disable .l7
 |KX:iS i .ym .disable .u7
 |en:iS i .bG .enable .free
 |Qb:iS i .l7 .enable .Av
 |acq:iS i .Av (.acquire C.muA) .own
 |DQ:iS i .own (.releaseMerge C.muA) .Av
 |EN:i≠0->iS i .free (.releaseMerge (stA C.wg)) .ym
 |sr{m:Md}:i=0->m.tok=WI->iS i m (.read (smA C.wg)) m
section stops
variable(i:Nat)(own:Nat->Prop)
abbrev cR(S:Xk->Xf->Prop)(n:Nat)(g:Xk)(w:Xf):Prop:=Goes C.P (i==0) (Env C i own) DL S n g w
section lock
variable(H:Wd->Bool->Bool->Nat->Xk->Xf->Prop)(Q:Xk->Xf->Prop)
def uk(aw st:Bool)(it:Nat)(g:Xk)(w:Xf):Prop:=
 g.status=.running/\∀wd q,cS C w wd q->(aw=W8->wd.W=W8)->∃g',Xm C.P (i==0) g w=.go g' w #[]/\∃n,cR C i own (H wd aw st it) n g' w
def Pt(o:Wd)(it:Nat)(g:Xk)(w:Xf):Prop:=
 g.status=.running/\∀wd q,cS C w wd q->
   (wd=o->∃g',Xm C.P (i==0) g w=.go g' (w.setCell C.muA (.int .i32 ({wd with W:=W8}:Wd).enc)) #[rd C.muA,wr C.muA]/\∃n,cR C i own (uk C i own H W8 WI (it+1)) n g' (w.setCell C.muA (.int .i32 ({wd with W:=W8}:Wd).enc)))/\
   (wd≠o->∃g',Xm C.P (i==0) g w=.go g' w #[rd C.muA]/\∃n,cR C i own (uk C i own H WI WI (it+1)) n g' w)
def AtA1(o:Wd)(st:Bool)(g:Xk)(w:Xf):Prop:=
 g.status=.running/\∀wd q,cS C w wd q->wd.n<100000000->wd.L=WI->wd.S=W8->wd.n≠0->
   ∃g',Xm C.P (i==0) g w=.go g' (w.setCell C.muA (.int .i32 (⟨W8,wd.W,st&&o.n !=1,wd.n-1⟩:Wd).enc)) #[rd C.muA,wr C.muA]/\Q g' (w.setCell C.muA (.int .i32 (⟨W8,wd.W,st&&o.n !=1,wd.n-1⟩:Wd).enc))
def Kc(g:Xk)(w:Xf):Prop:=
 g.status=.running/\∃st,∀wd q,cS C w wd q->wd.n<100000000->(wd.S=W8->wd.L=WI/\wd.W=WI/\wd.n≠0)->(wd.S=WI->wd.W=W8)->∃g',Xm C.P (i==0) g w=.go g' w #[]/\
   (wd.S=W8->∃n,cR C i own (AtA1 C i Q wd st) n g' w)/\(wd.S=WI->∃n,cR C i own (H wd W8 st 0) n g' w)
def Ew(g:Xk)(w:Xf):Prop:=
 g.status=.running/\g.offers=Xh/\(∀wd,cS C w wd 0->Xm C.P (i==0) g w=.go {g with status:=.blocked} w #[])/\
   ∀wd q,cS C w wd (q+1)->∃g',Xm C.P (i==0) g w=.go g' (w.setCell C.msA (.int .u32 (q:Nat))) (semEvents C.msA)/\∃n,cR C i own (Kc C i own H Q) n g' (w.setCell C.msA (.int .u32 (q:Nat)))
def Nq(o:Wd)(aw st:Bool)(it:Nat)(g:Xk)(w:Xf):Prop:=
 g.status=.running/\∀wd q,cS C w wd q->
   (wd=o->∃g',Xm C.P (i==0) g w=.go g' (w.setCell C.muA (.int .i32 (nw o aw st).enc)) #[rd C.muA,wr C.muA]/\
    (o.L=WI->o.S=WI->Q g' (w.setCell C.muA (.int .i32 (nw o aw st).enc)))/\((o.L||o.S)=W8->∃n,cR C i own (Ew C i own H Q) n g' (w.setCell C.muA (.int .i32 (nw o aw st).enc))))/\
   (wd≠o->∃g',Xm C.P (i==0) g w=.go g' w #[rd C.muA]/\∃n,cR C i own (uk C i own H aw st it) n g' w)
def gY(o:Wd)(aw st:Bool)(it:Nat)(g:Xk)(w:Xf):Prop:=
 (it<4/\uk C i own H aw st (it+1) g w)\/(it<4/\o.L=W8/\o.S=WI/\o.W=WI/\o.n≠0/\aw=WI/\Pt C i own H o it g w)\/Nq C i own H Q o aw st it g w
def jh:Prop:=∀o aw st it g w,it<=4->(aw=W8->o.W=W8)->(st=W8->aw=W8)->o.n<100000000->H o aw st it g w->∃n,cR C i own (gY C i own H Q o aw st it) n g w
end lock
section unlock
variable(HU:Wd->Xk->Xf->Prop)(Q:Xk->Xf->Prop)
def AB(g:Xk)(w:Xf):Prop:=
 g.status=.running/\mayWake C.P g=W8/\∀wd q,q<100000000->cS C w wd q->∃g',Xm C.P (i==0) g w=.go g' (w.setCell C.msA (.int .u32 (q+1:Nat))) (semEvents C.msA)/\∃n,cR C i own Q n g' (w.setCell C.msA (.int .u32 (q+1:Nat)))
def Kl(g:Xk)(w:Xf):Prop:=
 g.status=.running/\∀wd q,cS C w wd q->wd.n<100000000->∃g',Xm C.P (i==0) g w=.go g' w #[]/\
   (wd.n=0\/wd.L=W8\/wd.W=W8\/wd.S=W8->∃n,cR C i own Q n g' w)/\(wd.n≠0->wd.L=WI->wd.W=WI->wd.S=WI->∃n,cR C i own (HU wd) n g' w)
def Es(o:Wd)(g:Xk)(w:Xf):Prop:=
 g.status=.running/\∀wd q,cS C w wd q->
   (wd=o->∃g',Xm C.P (i==0) g w=.go g' (w.setCell C.muA (.int .i32 ({wd with W:=W8,n:=wd.n-1}:Wd).enc)) #[rd C.muA,wr C.muA]/\∃n,cR C i own (AB C i own Q) n g' (w.setCell C.muA (.int .i32 ({wd with W:=W8,n:=wd.n-1}:Wd).enc)))/\
   (wd≠o->∃g',Xm C.P (i==0) g w=.go g' w #[rd C.muA]/\∃n,cR C i own (Kl C i own HU Q) n g' w)
def BC:Prop:=∀o g w,o.L=WI->o.W=WI->o.S=WI->o.n≠0->o.n<100000000->HU o g w->∃n,cR C i own (Es C i own HU Q o) n g w
def NC(g:Xk)(w:Xf):Prop:=
 g.status=.running/\∀wd q,cS C w wd q->wd.L=W8->wd.n<100000000->
   ∃g',Xm C.P (i==0) g w=.go g' (w.setCell C.muA (.int .i32 ({wd with L:=WI}:Wd).enc)) #[rd C.muA,wr C.muA]/\
     (wd.S=W8->∃n,cR C i own (AB C i own Q) n g' (w.setCell C.muA (.int .i32 ({wd with L:=WI}:Wd).enc)))/\
     (wd.S=WI->(wd.n=0\/wd.W=W8)->∃n,cR C i own Q n g' (w.setCell C.muA (.int .i32 ({wd with L:=WI}:Wd).enc)))/\
     (wd.S=WI->wd.n≠0->wd.W=WI->∃n,cR C i own (Es C i own HU Q {wd with L:=WI}) n g' (w.setCell C.muA (.int .i32 ({wd with L:=WI}:Wd).enc)))
end unlock
def M'(H:Wd->Bool->Bool->Nat->Xk->Xf->Prop)(Q:Xk->Xf->Prop)(g:Xk)(w:Xf):Prop:=
 g.status=.running/\∀wd q,cS C w wd q->
   (wd=⟨WI,WI,WI,0⟩->∃g',Xm C.P (i==0) g w=.go g' (w.setCell C.muA (.int .i32 1)) #[rd C.muA,wr C.muA]/\Q g' (w.setCell C.muA (.int .i32 1)))/\
   (wd≠⟨WI,WI,WI,0⟩->∃g',Xm C.P (i==0) g w=.go g' w #[rd C.muA]/\∃n,cR C i own (uk C i own H WI WI 0) n g' w)
def AtD4(g:Xk)(w:Xf):Prop:=
 g.status=.running/\mayWake C.P g=W8/\(WgAt C.tW C.wg w 0 0->∃g',Xm C.P (i==0) g w=.go g' (w.setCell (smA C.wg) (.int .u32 1)) (semEvents (smA C.wg))/\∃q,QuitsD C.P q 1 g')
def AtD3(g:Xk)(w:Xf):Prop:=
 g.status=.running/\(WgAt C.tW C.wg w 1 0->∃g',Xm C.P (i==0) g w=.go g' (w.setCell (stA C.wg) (.int .u64 0)) #[wr (stA C.wg)]/\∃n,cR C i own (AtD4 C i) n g' (w.setCell (stA C.wg) (.int .u64 0)))
def AtD2(g:Xk)(w:Xf):Prop:=
 g.status=.running/\(WgAt C.tW C.wg w 1 0->∃g',Xm C.P (i==0) g w=.go g' w #[rd (stA C.wg)]/\∃n,cR C i own (AtD3 C i own) n g' w)
def AtD1(g:Xk)(w:Xf):Prop:=
 g.status=.running/\∀v wt:Nat,wt<=1->v<100000000->WgAt C.tW C.wg w ((v+1)*KK+wt) 0->
   ∃g',Xm C.P (i==0) g w=.go g' (w.setCell (stA C.wg) (.int .u64 (v*KK+wt))) #[rd (stA C.wg),wr (stA C.wg)]/\
     ((v=0/\wt=1)->∃n,cR C i own (AtD2 C i own) n g' (w.setCell (stA C.wg) (.int .u64 (v*KK+wt))))/\(¬(v=0/\wt=1)->∃q,QuitsD C.P q 1 g')
section wait
variable(A:Xk->Xf->Prop)
def AtAcq(g:Xk)(w:Xf):Prop:=
 g.status=.running/\∃g',Xm C.P (i==0) g w=.go g' w #[mk (.acquire (stA C.wg))]/\(dn C w->(∀j,Fin C j w)->cS C w ⟨WI,WI,WI,0⟩ 0->W0 C w->C.End g' w)
def AtKe(g:Xk)(w:Xf):Prop:=
 g.status=.running/\∃g',Xm C.P (i==0) g w=.go g' w #[mk .enable]/\∃n,cR C i own (AtAcq C i) n g' w
def AtW4(g:Xk)(w:Xf):Prop:=
 g.status=.running/\(WgAt C.tW C.wg w 0 0->∃g',Xm C.P (i==0) g w=.go g' w #[rd (stA C.wg)]/\∃n,cR C i own (AtKe C i own) n g' w)
def AtW3(g:Xk)(w:Xf):Prop:=
 g.status=.running/\g.offers=Xh/\((∃st,WgAt C.tW C.wg w st 0)->Xm C.P (i==0) g w=.go {g with status:=.blocked} w #[])/\
   (WgAt C.tW C.wg w 0 1->∃g',Xm C.P (i==0) g w=.go g' (w.setCell (smA C.wg) (.int .u32 0)) (semEvents (smA C.wg))/\∃n,cR C i own (AtW4 C i own) n g' (w.setCell (smA C.wg) (.int .u32 0)))
def Ry(g:Xk)(w:Xf):Prop:=
 g.status=.running/\∃g',Xm C.P (i==0) g w=.go g' w #[mk (.write (smA C.wg))]/\∃n,cR C i own (AtW3 C i own) n g' w
def AtW2(vs:Nat)(g:Xk)(w:Xf):Prop:=
 g.status=.running/\∀v:Nat,v<100000000->WgAt C.tW C.wg w (v*KK) 0->
   (v=vs->∃g',Xm C.P (i==0) g w=.go g' (w.setCell (stA C.wg) (.int .u64 (v*KK+1))) #[rd (stA C.wg),wr (stA C.wg)]/\∃n,cR C i own (Ry C i own) n g' (w.setCell (stA C.wg) (.int .u64 (v*KK+1))))/\
   (v≠vs->∃g',Xm C.P (i==0) g w=.go g' w #[rd (stA C.wg)]/\∃n,cR C i own A n g' w)
def AtW1(g:Xk)(w:Xf):Prop:=
 g.status=.running/\∀v:Nat,v<100000000->WgAt C.tW C.wg w (v*KK) 0->∃g',Xm C.P (i==0) g w=.go g' w #[rd (stA C.wg)]/\
   (v=0->∃n,cR C i own (AtKe C i own) n g' w)/\(v≠0->∃n,cR C i own (AtW2 C i own A v) n g' w)
def zv:Prop:=∀g w,A g w->∃n,cR C i own (AtW1 C i own A) n g w
end wait
def TN(c:Nat->Xk->Xf->Prop)(g:Xk)(w:Xf):Prop:=
 g.status=.running/\∀v:Nat,v<100000000->WgAt C.tW C.wg w (v*KK) 0->
   ∃g',Xm C.P (i==0) g w=.go g' (w.setCell (stA C.wg) (.int .u64 ((v+1)*KK))) #[rd (stA C.wg),wr (stA C.wg)]/\c v g' (w.setCell (stA C.wg) (.int .u64 ((v+1)*KK)))
end stops
abbrev Ix:=Xk×Xf×Xf
inductive fR:Nat->Nat->Md->Rk Ix->(Nat->Prop)->Xk->Xf->Prop
 |step{i j:Nat}{m:Md}{f:Ix->Rk Ix}{own:Nat->Prop}{g:Xk}{v:Xf}:g.status=.running->m.said=WI->
  (∀v1,Env C i (fy C m own) v v1->∃g' v' es,Xm C.P (i==0) g v1=.go g' v' es/\lb C (fy C m own) v1 v' es)->
  (∀v1 g' v' es,Env C i (fy C m own) v v1->Xm C.P (i==0) g v1=.go g' v' es->fR i j m (f (g',v1,v')) (ab.more own v1 v') g' v')->fR i j m (.s f) own g v
 |idle{i j:Nat}{m:Md}{f:Ix->Rk Ix}{own:Nat->Prop}{g:Xk}{v:Xf}:g.status=.running->
  (∀v1,Env C i (fy C m own) v v1->∃g' v',Xm C.P (i==0) g v1=.go g' v' #[]/\DL v1 v' #[])->
  (∀v1 g' v' es,Env C i (fy C m own) v v1->Xm C.P (i==0) g v1=.go g' v' es->fR i j m (f (g',v1,v')) own g' v')->fR i j m (.s f) own g v
 |mark{i j:Nat}{m m':Md}{k:Mark}{f:Ix->Rk Ix}{own:Nat->Prop}{g:Xk}{v:Xf}:g.status=.running->iS C i m k m'->
  (∀v1,Env C i (fy C m own) v v1->∃g',Xm C.P (i==0) g v1=.go g' v1 #[mk k])->(k=.releaseMerge C.muA->m=.own/\ar C v)->(k=.releaseMerge (stA C.wg)->Fin C i v)->
  (∀v1 g' v' es,Env C i (fy C m own) v v1->(k=.acquire C.muA->ar C v1)->Xm C.P (i==0) g v1=.go g' v' es->fR i j m' (f (g',v1,v1)) own g' v1)->fR i j m (.s f) own g v
 |lock{i j:Nat}{f:Ix->Rk Ix}{own:Nat->Prop}{g:Xk}{v:Xf}(H:Wd->Bool->Bool->Nat->Xk->Xf->Prop)(Q:Xk->Xf->Prop):g.status=.running->C.wk i->
  (∀g v1 v2,Q g v1->Env C i own v1 v2->Q g v2)->jh C i own H Q->(∀v1,Env C i own v v1->M' C i own H Q g v1)->
  (∀g' v1,Env C i own v v1->Q g' v1->fR i j .l7 (f (g',v1,v1)) own g' v1)->fR i j .bG (.s λ_=>.s f) own g v
 |unlock{i j:Nat}{f:Ix->Rk Ix}{own:Nat->Prop}{g:Xk}{v:Xf}(HU:Wd->Xk->Xf->Prop)(Q:Xk->Xf->Prop):g.status=.running->C.wk i->
  (∀g v1 v2,Q g v1->Env C i own v1 v2->Q g v2)->BC C i own HU Q->(∀v1,Env C i own v v1->NC C i own HU Q g v1)->
  (∀g' v1,Env C i own v v1->Q g' v1->fR i j .bG (f (g',v1,v1)) own g' v1)->fR i j .l7 (.s λ_=>.s f) own g v
 |put{i j:Nat}{f:Ix->Rk Ix}{own:Nat->Prop}{g:Xk}{v:Xf}:g.status=.running->i≠0->
  (∀v1,Env C i own v v1->dn C v1->∃g' v' es,Xm C.P (i==0) g v1=.go g' v' es/\So C i v1 v' es)->
  (∀v1 g' v' es,Env C i own v v1->dn C v1->Xm C.P (i==0) g v1=.go g' v' es->fR i j .free (f (g',v1,v')) own g' v')->fR i j .free (.s f) own g v
 |done{i j:Nat}{own:Nat->Prop}{g:Xk}{v:Xf}:i≠0->(∀v1,Env C i own v v1->AtD1 C i own g v1)->fR i j .u7 (.s λ_=>.z) own g v
 |add{i x:Nat}{f:Ix->Rk Ix}{own:Nat->Prop}{g:Xk}{v:Xf}(c:Nat->Xk->Xf->Prop):i=0->(∀v1,Env C i own v v1->TN C i c g v1)->
  (∀v1 y g',Env C i own v v1->c y g' v1->fR i (2*x+1) .bG (f (g',v1,v1)) own g' v1)->fR i (2*x) .bG (.s f) own g v
 |spawn{i x:Nat}{f ρ:Ix->Rk Ix}{own ownc:Nat->Prop}{g:Xk}{v:Xf}:i=0->g.status=.running->x<C.n->(∀k,ownc k->own k)->
  (∀v1,Env C i own v v1->∃g' child,Xm C.P (i==0) g v1=.spawn g' child v1 #[]/\child.status=.running)->
  (∀v1 g' child v' es,Env C i own v v1->Xm C.P (i==0) g v1=.spawn g' child v' es->fR (C.base+x) 0 .free (ρ (child,v1,v1)) ownc child v1)->
  (∀v1 g' child v' es,Env C i own v v1->Xm C.P (i==0) g v1=.spawn g' child v' es->fR i (2*x+2) .free (f (g',v1,v1)) (λk=>own k/\¬ownc k) g' v1)->
  fR i (2*x+1) .free (.s f) own g v
 |wait{i:Nat}{own:Nat->Prop}{g:Xk}{v:Xf}(A:Xk->Xf->Prop):i=0->zv C i own A->(∃n,cR C i own A n g v)->fR i (2*C.n) .bG .z own g v
 |stop{i j:Nat}{own:Nat->Prop}{g:Xk}{v:Xf}:C.solo->g.status=.running->(∀v1,Env C i own v v1->C.halt own g v1)->fR i j .free .z own g v
end
section
variable{C:Cx}{i j:Nat}{m:Md}{own:Nat->Prop}{v v1 v2:Xf}
theorem Env.refl:Env C i own v v:=⟨λ_ _=>rfl,Uo _,id,λ_ _=>rfl⟩
theorem Env.trans(h:Env C i own v v1)(k:Env C i own v1 v2):Env C i own v v2:=⟨λx b=>(k.keep x b).trans (h.keep x b),UP h.grow k.grow,λx=>k.aJ (h.aJ x),λo a=>(k.A1 o a).trans (h.A1 o a)⟩
theorem Env.sub(h:Env C i own v v1)(b:∀k,own' k->own k):Env C i own' v v1:=⟨λk a=>h.keep k (a.imp (b k) id),h.grow,h.aJ,h.A1⟩
theorem Env.fK(h:Env C i (fy C m own) v v1):Env C i own v v1:=h.sub λ_ a=>.inl a
theorem Env.JS(h:Env C i own v v1)(b:m.tok=WI):Env C i (fy C m own) v v1:=h.sub λ_ a=>a.resolve_right (by simp[b])
theorem Env.Uh(l:C.pre.size=C.mo)(a:dn C v)(h:Env C i O v v1):ab.Env O C.RO C.CU v v1:=⟨h.keep,λk n e x t f p=>by obtain⟨rfl,o⟩:=e;obtain⟨s,q,c⟩:=a.port;obtain⟨u,r,d⟩:=(h.aJ a).port;unfold ax at c d;grind,h.grow⟩
theorem bI(a b c:Xf)(h:Env C i own a b)(k:Env C i own b c):Env C i own a c:=h.trans k
theorem ar.env(h:ar C v)(e:Env C i own v v1)(f:own C.mm):ar C v1:=by obtain⟨b,⟨a,d⟩,c⟩:=h;exact⟨b,⟨a,(e.keep _ (.inl f)).trans d⟩,c⟩
theorem Fin.env(h:Fin C i v)(b:Env C i own v v1):Fin C i v1:=λo a=>(b.A1 o a).trans (h o a)
theorem fR.env{ρ:Rk Ix}(h:fR C i j m ρ own g v)(b:Env C i (fy C m own) v v1):fR C i j m ρ own g v1:=by cases h with|step d f k p=>exact .step d f (λx a=>k x (b.trans a)) λx l q o a=>p x l q o (b.trans a)|idle d f k=>exact .idle d (λx a=>f x (b.trans a)) λx l q o a=>k x l q o (b.trans a)|mark d f k p s t=>exact .mark d f (λx a=>k x (b.trans a)) (λe=>⟨(p e).1,(p e).2.env b (by rw[(p e).1];exact .inr ⟨rfl,rfl⟩)⟩) (λe=>(s e).env b) λx l q o a=>t x l q o (b.trans a)|lock H Q d r f k p s=>exact .lock H Q d r f k (λx a=>p x (b.fK.trans a)) λl x a=>s l x (b.fK.trans a)|unlock H Q d r f k p s=>exact .unlock H Q d r f k (λx a=>p x (b.fK.trans a)) λl x a=>s l x (b.fK.trans a)|put d r f k=>exact .put d r (λx a=>f x (b.fK.trans a)) λx l q o a=>k x l q o (b.fK.trans a)|done r d=>exact .done r λx a=>d x (b.fK.trans a)|add c d f k=>exact .add c d (λx a=>f x (b.fK.trans a)) λx y l a=>k x y l (b.fK.trans a)|spawn d f k p s t u=>exact .spawn d f k p (λx a=>s x (b.fK.trans a)) (λx l c q o a=>t x l c q o (b.fK.trans a)) λx l c q o a=>u x l c q o (b.fK.trans a)|wait A d f k=>exact .wait A d f (k.imp λn w=>w.rely bI b.fK)|stop d f k=>exact .stop d f λx a=>k x (b.fK.trans a)
theorem fR.running{ρ:Rk Ix}(h:fR C i j m ρ own g v):g.status=.running\/∃n A,cR C i own A n g v/\zv C i own A:=by cases h with|wait A b a d=>grind|done _ h=>exact .inl (h v .refl).1|add c b a=>exact .inl (a v .refl).1|_=>simp_all
def af(C:Cx)(i j:Nat)(m:Md)(own:Nat->Prop)(g:Xk)(v:Xf):Prop:=∃ρ,fR C i j m ρ own g v
open Classical in
noncomputable def xX(p:Ix->Rk Ix->Prop)(x:Ix):Rk Ix:=if h:∃ρ,p x ρ then Classical.choose h else .z
theorem fP{p:Ix->Rk Ix->Prop}{x:Ix}(h:∃ρ,p x ρ):p x (xX p x):=by unfold xX;grind
theorem af.env(h:af C i j m own g v)(a:Env C i (fy C m own) v v1):af C i j m own g v1:=h.imp λ_ k=>k.env a
theorem xE{w w':Xf}{es':Array XU}(h:GStep.go g w es=.go g' w' es'):g=g'/\w=w'/\es=es':=by simp_all
theorem af.step(q:g.status=.running)(o:m.said=WI)(h:∀v1,Env C i (fy C m own) v v1->∃g' d es,Xm C.P (i==0) g v1=.go g' d es/\lb C (fy C m own) v1 d es/\af C i j m (ab.more own v1 d) g' d):af C i j m own g v:=by refine⟨.s (xX λx f=>fR C i j m f (ab.more own x.2.1 x.2.2) x.1 x.2.2),.step q o (λx k=>?_) λx g' d es k e=>?_⟩;{grind};obtain⟨n,v2,l,a,_,c⟩:=h x k;rw[a]at e;obtain⟨rfl,rfl,rfl⟩:=xE e;exact fP (p:=λx f=>fR C i j m f (ab.more own x.2.1 x.2.2) x.1 x.2.2) c
theorem af.idle(l:g.status=.running)(h:∀v1,Env C i (fy C m own) v v1->∃g' b,Xm C.P (i==0) g v1=.go g' b #[]/\DL v1 b #[]/\af C i j m own g' b):af C i j m own g v:=by refine⟨.s (xX λx d=>fR C i j m d own x.1 x.2.2),.idle l (λx f=>?_) λx g' b n f e=>?_⟩;{grind};obtain⟨k,v2,a,_,c⟩:=h x f;rw[a]at e;obtain⟨rfl,rfl,rfl⟩:=xE e;exact fP (p:=λx d=>fR C i j m d own x.1 x.2.2) c
theorem cU(w:Xf):DL w w #[]:=⟨rfl,rfl,rfl,.refl _,rfl⟩
theorem af.ctl(a:g.status=.running)(h:∀w,Xm C.P (i==0) g w=.go g' w #[])(k:af C i j m own g' v):af C i j m own g v:=.idle a λx b=>⟨g',x,h x,cU x,k.env b⟩
theorem af.mark{m':Md}{k:Mark}(r:g.status=.running)(q:iS C i m k m')(l:k=.releaseMerge C.muA->m=.own/\ar C v)(n:k=.releaseMerge (stA C.wg)->Fin C i v)(h:∀v1,Env C i (fy C m own) v v1->∃g',Xm C.P (i==0) g v1=.go g' v1 #[mk k]/\((k=.acquire C.muA->ar C v1)->af C i j m' own g' v1)):af C i j m own g v:=by refine⟨.s (xX λx b=>fR C i j m' b own x.1 x.2.1),.mark r q (λx d=>?_) l n λx g' u t d o e=>?_⟩;{grind};obtain⟨f,a,c⟩:=h x d;rw[a]at e;obtain⟨rfl,rfl,rfl⟩:=xE e;exact fP (p:=λx b=>fR C i j m' b own x.1 x.2.1) (c o)
theorem af.lock(d:C.wk i)(H:Wd->Bool->Bool->Nat->Xk->Xf->Prop)(Q:Xk->Xf->Prop)(l:g.status=.running)(c:∀g v1 v2,Q g v1->Env C i own v1 v2->Q g v2)(b:jh C i own H Q)(h:∀v1,Env C i own v v1->M' C i own H Q g v1)(k:∀g' v1,Env C i own v v1->Q g' v1->af C i j .l7 own g' v1):af C i j .bG own g v:=⟨_,.lock H Q l d c b h λg' x n e=>fP (p:=λx a=>fR C i j .l7 a own x.1 x.2.1) (k g' x n e)⟩
theorem af.unlock(e:C.wk i)(a:Wd->Xk->Xf->Prop)(Q:Xk->Xf->Prop)(n:g.status=.running)(d:∀g v1 v2,Q g v1->Env C i own v1 v2->Q g v2)(c:BC C i own a Q)(h:∀v1,Env C i own v v1->NC C i own a Q g v1)(k:∀g' v1,Env C i own v v1->Q g' v1->af C i j .bG own g' v1):af C i j .l7 own g v:=⟨_,.unlock a Q n e d c h λg' x o l=>fP (p:=λx b=>fR C i j .bG b own x.1 x.2.1) (k g' x o l)⟩
theorem af.put(o:i≠0)(q:g.status=.running)(h:∀v1,Env C i own v v1->dn C v1->∃g' b es,Xm C.P (i==0) g v1=.go g' b es/\So C i v1 b es/\af C i j .free own g' b):af C i j .free own g v:=by refine⟨.s (xX λx d=>fR C i j .free d own x.1 x.2.2),.put q o (λx k f=>?_) λx g' b es k f e=>?_⟩;{grind};obtain⟨n,v2,l,a,_,c⟩:=h x k f;rw[a]at e;obtain⟨rfl,rfl,rfl⟩:=xE e;exact fP (p:=λx d=>fR C i j .free d own x.1 x.2.2) c
theorem af.done(a:i≠0)(h:∀v1,Env C i own v v1->AtD1 C i own g v1):af C i j .u7 own g v:=⟨_,.done a h⟩
theorem af.add{x:Nat}(c:Nat->Xk->Xf->Prop)(b:i=0)(h:∀v1,Env C i own v v1->TN C i c g v1)(k:∀v1 y g',Env C i own v v1->c y g' v1->af C i (2*x+1) .bG own g' v1):af C i (2*x) .bG own g v:=⟨_,.add c b h λv1 y g' e d=>fP (p:=λz a=>fR C i (2*x+1) .bG a own z.1 z.2.1) (k v1 y g' e d)⟩
theorem af.spawn{x:Nat}{ownc:Nat->Prop}(A:i=0)(E:g.status=.running)(B:x<C.n)(D:∀k,ownc k->own k)(h:∀v1,Env C i own v v1->∃g' b,Xm C.P (i==0) g v1=.spawn g' b v1 #[]/\b.status=.running/\af C (C.base+x) 0 .free ownc b v1/\af C i (2*x+2) .free (λk=>own k/\¬ownc k) g' v1):af C i (2*x+1) .free own g v:=by refine⟨_,.spawn (f:=xX λz l=>fR C i (2*x+2) .free l (λk=>own k/\¬ownc k) z.1 z.2.1) (ρ:=xX λz l=>fR C (C.base+x) 0 .free l ownc z.1 z.2.1) A E B D (λv1 n=>?_) (λv1 g' c F y n e=>?_) λv1 g' c F y n e=>?_⟩;{grind};{obtain⟨w,t,a,_,d,u⟩:=h v1 n;rw[a]at e;injection e with o q r s;subst o q r s;exact fP (p:=λz l=>fR C (C.base+x) 0 .free l ownc z.1 z.2.1) d};obtain⟨w,t,a,_,d,u⟩:=h v1 n;rw[a]at e;injection e with o q r s;subst o q r s;exact fP (p:=λz l=>fR C i (2*x+2) .free l (λk=>own k/\¬ownc k) z.1 z.2.1) u
theorem af.stop(b:C.solo)(a:g.status=.running)(h:∀v1,Env C i own v v1->C.halt own g v1):af C i j .free own g v:=⟨_,.stop b a h⟩
theorem af.wait(A:Xk->Xf->Prop)(a:i=0)(b:zv C i own A)(h:∃n,cR C i own A n g v):af C i (2*C.n) .bG own g v:=⟨_,.wait A a b h⟩
theorem lb.Oa(h:ab.lb own C.RO C.CU v v' es):lb C own v v' es:=⟨h.keep,h.grow,h.os,h.out,h.tape,λe b=>by rcases h.evs e b with x|⟨k,n,o,⟨rfl,d⟩,c,rfl⟩|x;{exact .inl (.inl x)};{exact .inr ⟨o,by omega,rfl⟩};exact .inl (.inr (.inr x))⟩
theorem lb.sub(h:lb C own v v' es)(b:∀k,own k->own' k):lb C own' v v' es:=⟨λk l n=>h.keep k l λx=>n (b k x),h.grow,h.os,h.out,h.tape,λe f=>by rcases h.evs e f with x|x;{refine .inl ?_;rcases x with⟨k,c,a,d⟩|x;{refine .inl ⟨k,c,?_,d⟩;rcases a with(a|a)|a;{exact .inl (.inl (b k a))};{exact .inl (.inr a)};simp_all};exact .inr x};exact .inr x⟩
theorem vB:ab.more (fy C m own) v v'=fy C m (ab.more own v v'):=by funext k;simp only[ab.more,fy];grind
def mL(C:Cx)(own:Nat->Prop):Prop:=∀b,own b->b≠C.mu/\b≠C.mm/\b≠C.wg/\b≠C.out
theorem dn.mine(l:dn C v)(h:lb C O v v' es)(e:¬O C.mu)(f:¬O C.wg)(k:¬O C.out):dn C v':=by obtain⟨⟨s,q,b⟩,⟨x,y,c⟩,⟨d,a,n⟩⟩:=l;exact⟨⟨s,q,(h.keep _ (Uq.1 b).1 e).trans b⟩,⟨x,y,(h.keep _ (Uq.1 c).1 f).trans c⟩,⟨d,(h.keep _ (Uq.1 a).1 k).trans a,n⟩⟩
theorem mL.more(h:mL C own)(d:dn C v)(l:C.mm<v.heap.size):mL C (ab.more own v v'):=λb a=>by rcases a with a|a;{exact h b a};obtain⟨⟨s,q,e⟩,⟨x,y,p⟩,⟨k,o,n⟩⟩:=d;have f:=(Uq.1 e).1;grind
theorem mL.not(b:C.Ok)(h:mL C own):¬fy C m own C.mu/\¬fy C m own C.wg/\¬fy C m own C.out:=by refine⟨?_,?_,?_⟩<;>rintro(a|⟨_,a⟩);{exact(h _ a).1 rfl};{exact b.lK a};{exact(h _ a).2.2.1 rfl};{exact b.nP a.symm};{exact(h _ a).2.2.2 rfl};exact b.l5 a.symm
theorem dn.step(a:C.Ok)(b:mL C own){v':Xf}{es:Array XU}(c:dn C v)(h:lb C (fy C m own) v v' es):dn C v':=c.mine h (b.not a).1 (b.not a).2.1 (b.not a).2.2
theorem af.loc(t:C.Ok)(A:m.said=WI){Stop:(Nat->Prop)->Xk->Xf->Prop}(h:ab.Loc C.P (i==0) C.RO C.CU Stop O g v):∀own,O=fy C m own->mL C own->C.mm<v.heap.size->dn C v->(∀own g v,mL C own->C.mm<v.heap.size->dn C v->Stop (fy C m own) g v->af C i j m own g v)->af C i j m own g v:=by induction h with|stop h=>exactλown e n p l k=>k _ _ _ n p l (e▸h)|step z y _ B=>intro own e n p l k;subst e;refine .step z A λx q=>?_;have f:=q.Uh t.pre l;obtain⟨s,u,r,a,b⟩:=y x f;have o:=lb.Oa b;have c:=q.aJ l;have d:=Up p q.grow;exact⟨s,u,r,a,o,B x s u r f a _ vB (n.more c d) (Up d o.grow) (c.step t n o) k⟩
end
end Go.Cr
namespace Go.Cr
open Go.Conc Go.Mx Go.Rk
open Go.ConcR(KK WgAt wgBlock stA smA rd wr mk)
open Go.ConcM(OsLater)
variable{es:Array XU}{s q:Int}{ty:Xv}{g:Nat}
section
variable{C:Cx}{i i':Nat}{own own':Nat->Prop}{w w' w1:Xf}
structure lS(C:Cx)(i:Nat)(own:Nat->Prop)(w w':Xf):Prop where
 keep:∀k,k<w.heap.size->¬own k->k≠C.mu->k≠C.wg->k≠C.out->w'.heap[k]?=w.heap[k]?
 grow:w.heap.size<=w'.heap.size
 aJ:dn C w->dn C w'
 A1:∀o,¬C.oc i o->w'.cell? ⟨C.out,o,Xh⟩=w.cell? ⟨C.out,o,Xh⟩
 os:OsLater w.os w'.os
 out:w'.output=w.output
 tape:w'.tape=w.tape
theorem lS.env(f:C.Ok)(h:lS C i own w w')(l:i'≠i)(j:∀k,own' k->¬own k)(n:∀k,own' k->k<w.heap.size/\k≠C.mu/\k≠C.wg/\k≠C.out)(g:∀k,C.RO k->k<w.heap.size/\¬own k):Env C i' own' w w':=⟨λk e=>by rcases e with e|e;{obtain⟨a,b,c,d⟩:=n k e;exact h.keep k a (j k e) b c d};obtain⟨a,_,b,c⟩:=f.ro k e;exact h.keep k (g k e).1 (g k e).2 a b c,h.grow,h.aJ,λo m=>h.A1 o λx=>l (f.oc _ _ _ m x)⟩
theorem cell_of_block{a:XR}(h:w'.heap[a.block]?=w.heap[a.block]?):w'.cell? a=w.cell? a:=by simp[Xf.cell?,h]
theorem jj(h:dn C w):C.mu<w.heap.size/\C.wg<w.heap.size/\C.out<w.heap.size:=by obtain⟨⟨s,q,c⟩,⟨a,b,d⟩,⟨f,e,_⟩⟩:=h;exact⟨(Uq.1 c).1,(Uq.1 d).1,(Uq.1 e).1⟩
theorem dn.gH(h:dn C w)(f:w'.heap[C.mu]?=w.heap[C.mu]?)(g:w'.heap[C.wg]?=w.heap[C.wg]?)(j:w'.heap[C.out]?=w.heap[C.out]?):dn C w':=by obtain⟨⟨s,q,a⟩,⟨x,y,b⟩,⟨e,c,d⟩⟩:=h;exact⟨⟨s,q,f.trans a⟩,⟨x,y,g.trans b⟩,⟨e,j.trans c,d⟩⟩
theorem lS.Cq(d:dn C w)(h:lb C own w w' es)(f:¬own C.mu)(g:¬own C.wg)(e:¬own C.out):lS C i own w w':=by obtain⟨a,b,c⟩:=jj d;exact⟨λk j l _ _ _=>h.keep k j l,h.grow,λd=>d.gH (h.keep _ a f) (h.keep _ b g) (h.keep _ c e),λo _=>cell_of_block (h.keep _ c e),by rw[h.os];exact .refl _,h.out,h.tape⟩
theorem lS.B4(h:DL w w' es):lS C i own w w':=⟨λk _ _ _ _ _=>by rw[h.heap],by rw[h.heap];omega,λa=>a.gH (by rw[h.heap]) (by rw[h.heap]) (by rw[h.heap]),λo _=>cell_of_block (by rw[h.heap]),h.os,h.out,h.tape⟩
theorem lS.refl:lS C i own w w:=.B4 (cU w)
theorem lS.Oj(c:C.Ok)(h:So C i w w' es):lS C i own w w':=⟨λk _ _ _ _ d=>h.keep k d,by rw[h.size];omega,λb=>⟨by obtain⟨s,q,a⟩:=b.port;exact⟨s,q,(h.keep _ c.gb).trans a⟩,by obtain⟨s,q,a⟩:=b.gM;exact⟨s,q,(h.keep _ c.i7).trans a⟩,h.blk b.uy⟩,h.cells,by rw[h.os];exact .refl _,h.out,h.tape⟩
theorem ag(w:Xf)(a:XR)(v:Xd){k:Nat}(h:k≠a.block):(w.setCell a v).heap[k]?=w.heap[k]?:=by simp only[Xf.setCell];grind
theorem gU(w:Xf)(a:XR)(v:Xd){cs:Array Xd}{t:Xv}{fr:Nat×Nat}(b:a.spot=Xh)(h:w.heap[a.block]?=W1 (.cells cs t fr)):(w.setCell a v).heap[a.block]?=W1 (.cells (cs.setIfInBounds a.off v) t fr):=by simp only[Xf.setCell];grind
theorem cX(w:Xf)(a:XR)(v:Xd):(w.setCell a v).heap.size=w.heap.size:=by simp
theorem ax.setSt(a:C.Ok)(h:ax C w s q)(s':Int):ax C (w.setCell C.muA (.int .i32 s')) s' q:=by unfold ax at h⊢;rw[show C.mu=C.muA.block from rfl,gU w C.muA _ rfl h];congr 2;show(C.pre++#[Xd.int .i32 s,Xd.int .u32 q]).setIfInBounds C.mo (Xd.int .i32 s')=C.pre++#[Xd.int .i32 s',Xd.int .u32 q];rw[<-a.pre];simp
theorem ax.setSm(b:C.Ok)(h:ax C w s q)(a:Int):ax C (w.setCell C.msA (.int .u32 a)) s a:=by unfold ax at h⊢;rw[show C.mu=C.msA.block from rfl,gU w C.msA _ rfl h];congr 2;show(C.pre++#[Xd.int .i32 s,Xd.int .u32 q]).setIfInBounds (C.mo+1) (Xd.int .u32 a)=C.pre++#[Xd.int .i32 s,Xd.int .u32 a];rw[<-b.pre];simp
theorem lS.set(a:XR)(v:Xd)(c:a.block=C.mu\/a.block=C.wg)(b:C.Ok)(d:dn C w->dn C (w.setCell a v)):lS C i own w (w.setCell a v):=⟨λk _ _ e f _=>ag w a v (by omega),by simp,d,λo _=>cell_of_block (ag w a v (by rcases c with h|h<;>rw[h];{exact b.gb.symm};exact b.i7.symm)),.refl _,rfl,rfl⟩
theorem lS.st(c:C.Ok)(s':Int):lS C i own w (w.setCell C.muA (.int .i32 s')):=.set _ _ (.inl rfl) c λd=>⟨by obtain⟨s,q,a⟩:=d.port;exact⟨s',q,a.setSt c s'⟩,by obtain⟨s,q,a⟩:=d.gM;exact⟨s,q,(ag w C.muA _ c.gi.symm).trans a⟩,by obtain⟨e,a,b⟩:=d.uy;exact⟨e,(ag w C.muA _ c.gb.symm).trans a,b⟩⟩
theorem lS.sm(c:C.Ok)(s':Int):lS C i own w (w.setCell C.msA (.int .u32 s')):=.set _ _ (.inl rfl) c λd=>⟨by obtain⟨s,q,a⟩:=d.port;exact⟨s,s',a.setSm c s'⟩,by obtain⟨s,q,a⟩:=d.gM;exact⟨s,q,(ag w C.msA _ c.gi.symm).trans a⟩,by obtain⟨e,a,b⟩:=d.uy;exact⟨e,(ag w C.msA _ c.gb.symm).trans a,b⟩⟩
theorem kX{st sm:Int}(h:WgAt ty g w st sm)(v:Int):WgAt ty g (w.setCell (stA g) (.int .u64 v)) v sm:=by unfold WgAt wgBlock at h⊢;exact(gU w (stA g) _ rfl h).trans rfl
theorem oM{st sm:Int}(h:WgAt ty g w st sm)(v:Int):WgAt ty g (w.setCell (smA g) (.int .u32 v)) st v:=by unfold WgAt wgBlock at h⊢;exact(gU w (smA g) _ rfl h).trans rfl
theorem Nl{st sm st' sm':Int}(h:WgAt ty g w st sm)(k:WgAt ty g w st' sm'):st=st'/\sm=sm':=by unfold WgAt wgBlock at h k;simp_all
theorem lS.iZ(c:C.Ok)(f:C.tw=wgBlock C.tW)(s':Int):lS C i own w (w.setCell (stA C.wg) (.int .u64 s')):=.set _ _ (.inr rfl) c λd=>⟨by obtain⟨s,q,a⟩:=d.port;exact⟨s,q,(ag w (stA C.wg) _ c.gi).trans a⟩,by obtain⟨s,q,a⟩:=d.gM;rw[f]at a⊢;exact⟨s',q,kX a s'⟩,by obtain⟨e,a,b⟩:=d.uy;exact⟨e,(ag w (stA C.wg) _ c.i7.symm).trans a,b⟩⟩
theorem lS.TL(c:C.Ok)(f:C.tw=wgBlock C.tW)(s':Int):lS C i own w (w.setCell (smA C.wg) (.int .u32 s')):=.set _ _ (.inr rfl) c λd=>⟨by obtain⟨s,q,a⟩:=d.port;exact⟨s,q,(ag w (smA C.wg) _ c.gi).trans a⟩,by obtain⟨s,q,a⟩:=d.gM;rw[f]at a⊢;exact⟨s,s',oM a s'⟩,by obtain⟨e,a,b⟩:=d.uy;exact⟨e,(ag w (smA C.wg) _ c.i7.symm).trans a,b⟩⟩
theorem Env.Iy(f:C.Ok)(h:lS C i (λ_=>False) w w')(l:∀k,own k->k<w.heap.size/\k≠C.mu/\k≠C.wg/\k≠C.out)(j:∀k,C.RO k->k<w.heap.size)(g:∀o,C.oc i o->w'.cell? ⟨C.out,o,Xh⟩=w.cell? ⟨C.out,o,Xh⟩):Env C i own w w':=⟨λk e=>by rcases e with e|e;{obtain⟨a,b,c,d⟩:=l k e;exact h.keep k a id b c d};obtain⟨a,_,b,c⟩:=f.ro k e;exact h.keep k (j k e) id a b c,h.grow,h.aJ,g⟩
end
end Go.Cr
