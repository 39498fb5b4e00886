/- A part. -/
import Derived.KernelRfl
import GoSem.Core.Value
import Derived.Conc.Own4
import Derived.Conc.SmallLaws
import Derived.Conc.Listed
import Derived.Calls
import Derived.Conc.Own
import Derived.Conc.Events
import Derived.Laws.Entries
import Derived.Conc.LockTrace
import Derived.Conc.MuSpec
import Derived.Conc.Beside
set_option linter.all false
open Go renaming Addr->XY,Builtin->XQ,Code->Ya,Event->X3,Frame->Xy,FuncId->XI,Goroutine->Xm,IntKind->XA,Item->XV,MapEntry->X7,Obj->X0,Oper->X9,Operand->XN,Program->XF,Question->X8,Result->XX,Sem->XU,TypeId->XD,Value->Xe,World->Xg,execOp->Xp,stepG->Xo,undef->Xq,yielded->XE
open Bool renaming false->Ww,true->Xd
open Option renaming none->Xl,some->Xa
abbrev Us:=@Nat.le_refl
abbrev Ut:=@Nat.lt_of_lt_of_le
abbrev Uu:=@Array.getElem?_eq_some_iff
abbrev Uv:=@Bool.and_eq_true
abbrev Uw:=@List.getElem?_eq_getElem
abbrev Ux:=@List.mem_of_getElem?
abbrev Uy:=@List.mem_cons
abbrev Uz:=@Array.getD_eq_getD_getElem?
abbrev UA:=@Option.map_eq_some_iff
abbrev UB:=@Array.getElem?_eq_getElem
abbrev UC:=@List.mem_map
abbrev UD:=@Option.map_some
abbrev UE:=@Option.some.injEq
abbrev UF:=@List.mem_cons_self
abbrev UG:=@Nat.zero_le
abbrev UH:=@Iff.rfl
abbrev UI:=@List.getElem?_map
abbrev UJ:=@Nat.lt_irrefl
abbrev UK:=@List.any_eq_true
abbrev UL:=@List.mem_append
abbrev UM:=@List.mem_cons_of_mem
abbrev UN:=@List.getElem?_eq_some_iff
abbrev UO:=@Bool.false_eq_true
abbrev UP:=@Prod.mk.injEq
abbrev UQ:=@List.mem_iff_getElem?
abbrev UR:=@Array.getElem?_replicate
abbrev US:=@Nat.le_of_lt
abbrev UT:=@List.all_eq_true
abbrev UU:=@Nat.le_trans
abbrev UW:=@Array.getElem?_setIfInBounds_ne
abbrev UX:=@Option.bind_eq_some_iff
abbrev UY:=@List.all_cons
abbrev UZ:=@Prod.mk.inj
abbrev U0:=@Option.getD_some
abbrev U1:=@Array.mem_append
abbrev U2:=@Array.getElem?_push
abbrev U3:=@List.not_mem_nil
abbrev U4:=@Nat.lt_or_ge
abbrev U5:=@List.map_cons
abbrev U6:=@Nat.add_zero
abbrev U7:=@Nat.le_add_right
abbrev U8:=@List.length_eq_zero_iff
abbrev U9:=@Nat.le_of_ble_eq_true
abbrev Va:=@Classical.byContradiction
abbrev Vb:=@Option.some.inj
abbrev Ve:=@List.mem_append_left
abbrev Vf:=@List.mem_append_right
abbrev Vg:=@Array.mem_of_getElem?
abbrev Vh:=@Nat.eq_zero_or_pos
abbrev Vi:=@Array.getElem?_modify
abbrev Vj:=@List.map_nil
abbrev Vk:=@Nat.not_lt_zero
abbrev Vl:=@Int.le_refl
abbrev Vm:=@Option.bind_some
abbrev Vn:=@Nat.le_succ
abbrev Vo:=@List.length_append
abbrev Vp:=@Nat.add_assoc
abbrev Vq:=@Nat.mul_comm
abbrev Vr:=@List.mem_singleton
abbrev Vs:=@Array.ext_getElem?
abbrev Vt:=@Nat.le_of_eq
abbrev Vu:=@List.cons.injEq
abbrev Vv:=@List.nodup_cons
abbrev Vw:=@List.take_of_length_le
abbrev Vx:=@Nat.zero_add
abbrev Vy:=@List.foldl_cons
abbrev Vz:=@Bool.or_eq_true
abbrev VA:=@Array.getElem?_map
abbrev VB:=@List.append_assoc
abbrev VC:=@Nat.pos_of_ne_zero
abbrev VD:=@List.length_cons
abbrev VE:=@List.count_cons_of_ne
abbrev VF:=@List.getElem_mem
abbrev VG:=@List.mem_range
abbrev VH:=@Array.getElem?_setIfInBounds
abbrev VI:=@Bool.or_true
abbrev VJ:=@Bool.and_self
abbrev VK:=@List.getElem?_append_left
abbrev VL:=@List.perm_middle
abbrev VM:=@List.append_nil
abbrev VN:=@Nat.ne_of_lt
abbrev VO:=@List.map_toArray
abbrev VP:=@List.drop_eq_getElem_cons
abbrev VQ:=@Nat.add_comm
abbrev VR:=@Nat.mod_lt
abbrev VS:=@List.mem_filter
abbrev VU:=@Bool.false_and
abbrev VV:=@Array.all_eq_true_iff_forall_mem
abbrev VW:=@Array.getElem?_mapIdx
abbrev VX:=@List.nil_append
abbrev VY:=@Nat.lt_or_eq_of_le
abbrev VZ:=@Bool.true_or
abbrev V0:=@Array.mem_iff_getElem
abbrev V1:=@List.getElem?_cons_succ
abbrev V2:=@List.nodup_nil
abbrev V3:=@List.take_add_one
abbrev V4:=@List.getElem_toArray
abbrev V5:=@List.getElem_cons_succ
abbrev V6:=@List.getElem_cons_zero
abbrev V7:=@List.setIfInBounds_toArray
abbrev V8:=@List.set_cons_zero
abbrev V9:=@List.set_cons_succ
abbrev Wa:=@List.mem_flatMap
abbrev Wb:=@Array.getElem?_eq_none
abbrev We:=@Bool.not_eq_true'
abbrev Wf:=@Array.size_mapIdx
abbrev Wg:=@List.cons_append
abbrev Wh:=@List.all_nil
abbrev Wi:=@Nat.le_of_lt_succ
abbrev Wj:=@Bool.or_false
abbrev Wk:=@Bool.toNat_le
abbrev Wl:=@Array.mem_push
abbrev Wm:=@List.foldl_append
abbrev Wn:=@List.ext_getElem?
abbrev Wo:=@Bool.eq_iff_iff
abbrev Wp:=@List.flatMap_cons
abbrev Wq:=@Array.length_toList
abbrev Wr:=@List.map_eq_nil_iff
abbrev Ws:=@List.mem_map_of_mem
abbrev Wt:=@List.range_succ
abbrev Wu:=@Int.le_trans
abbrev Wv:=@List.getElem?_toArray
abbrev Wx:=@List.getElem?_range
abbrev Wy:=@Nat.mul_le_mul_right
abbrev Wz:=@List.foldlM_cons
abbrev WA:=@Nat.zero_mul
abbrev WB:=@Nat.sub_self
abbrev WC:=@Nat.add_sub_cancel_left
abbrev WE:=@Bool.false_or
abbrev WG:=@Nat.le_of_not_lt
abbrev WH:=@List.eq_nil_or_concat
abbrev WI:=@Option.isSome_none
abbrev WJ:=@List.getElem?_append_right
abbrev WK:=@List.take_length
abbrev WL:=@Bool.true_and
abbrev WM:=@List.all_eq_false
abbrev WN:=@List.mapIdx_cons
abbrev WO:=@List.count_append
abbrev WQ:=@Nat.lt_of_le_of_lt
abbrev WR:=@Int.add_zero
abbrev WS:=@List.length_nil
abbrev WT:=@Nat.mul_one
abbrev WU:=@Array.getElem?_append_left
abbrev WV:=@List.drop_of_length_le
abbrev WW:=@Nat.pow_le_pow_right
abbrev WX:=@List.any_cons
abbrev WY:=@Nat.le_antisymm
abbrev WZ:=@Int.max_eq_right
abbrev W1:=@Int.max_eq_left
abbrev W4:=@List.count_pos_iff
abbrev W6:=@Int.le_antisymm
abbrev W7:=@Bool.or_eq_false_iff
abbrev W8:=@Nat.ne_of_beq_eq_false
abbrev W9:=@Nat.testBit_two_pow_mul_add
abbrev Xb:=@Array.getElem_setIfInBounds
abbrev Xc:=@Array.getElem?_push_lt
abbrev Xf:=@Array.getElem!_eq_getD
abbrev Xh:=@Array.mapM_eq_foldlM
abbrev Xi:=@Array.foldlM_toList
abbrev Xj:=@Option.isSome_iff_exists
abbrev Xk:=@List.append_cancel_right
abbrev Xn:=@Array.map_congr_left
abbrev Xr:=@Array.getElem?_setIfInBounds_self_of_lt
abbrev Xs:=@List.count_cons_self
abbrev Xu:=@List.length_pos_iff
abbrev Xv:=@Array.getElem?_of_mem
abbrev Xw:=@List.perm_append_comm_assoc
abbrev Xx:=@List.extract_eq_take_drop
abbrev Xz:=@List.take_succ_eq_append_getElem
abbrev XB:=@List.take_subset_take_left
abbrev XC:=@List.flatMap_eq_nil_iff
abbrev XG:=@List.concat_eq_append
abbrev XH:=@Nat.pos_iff_ne_zero
abbrev XJ:=@Array.toList_append
abbrev XK:=@List.mem_of_mem_drop
abbrev XM:=@List.eq_nil_of_length_eq_zero
abbrev XO:=@Classical.choose_spec
abbrev XR:=@Nat.and_two_pow_sub_one_eq_mod
abbrev XS:=@Nat.two_pow_add_eq_or_of_lt
abbrev XT:=@Int.fdiv_eq_ediv_of_nonneg
namespace Go
abbrev Iv(n:Int):Xe:=.int .i64 n
variable{p:Prop}
theorem Ψ(h:p:=by kernel_rfl):p:=h
theorem Δ(h:p:=by decide):p:=h
theorem Ω(h:p:=by omega):p:=h
theorem Θ(h:p:=by simp):p:=h
theorem Ξ(h:p:=by rw[hP];kernel_rfl):p:=h
theorem Λ(h:p:=by rw[hP];exact .all):p:=h
theorem Υ(h:p:=by intro p hp;simp only[Uy,U3,or_false]at hp;(repeat'(refine Or.elim hp ?_ ?_<;>intro hp));(all_goals subst hp);all_goals first|(left;simp;done)|(refine .inr ⟨0,?_,hdep 0 ?_⟩;rotate_left;kernel_rfl;simp;done)|(refine .inr ⟨1,?_,hdep 1 ?_⟩;rotate_left;kernel_rfl;simp;done)|(refine .inr ⟨2,?_,hdep 2 ?_⟩;rotate_left;kernel_rfl;simp;done)|(refine .inr ⟨3,?_,hdep 3 ?_⟩;rotate_left;kernel_rfl;simp;done)|(refine .inr ⟨4,?_,hdep 4 ?_⟩;rotate_left;kernel_rfl;simp;done)|(refine .inr ⟨5,?_,hdep 5 ?_⟩;rotate_left;kernel_rfl;simp;done)|(refine .inr ⟨6,?_,hdep 6 ?_⟩;rotate_left;kernel_rfl;simp;done)|(refine .inr ⟨7,?_,hdep 7 ?_⟩;rotate_left;kernel_rfl;simp;done)|(refine .inr ⟨8,?_,hdep 8 ?_⟩;rotate_left;kernel_rfl;simp;done)|(refine .inr ⟨9,?_,hdep 9 ?_⟩;rotate_left;kernel_rfl;simp;done)|(refine .inr ⟨10,?_,hdep 10 ?_⟩;rotate_left;kernel_rfl;simp;done)|(refine .inr ⟨11,?_,hdep 11 ?_⟩;rotate_left;kernel_rfl;simp;done)|(refine .inr ⟨12,?_,hdep 12 ?_⟩;rotate_left;kernel_rfl;simp;done)|(refine .inr ⟨13,?_,hdep 13 ?_⟩;rotate_left;kernel_rfl;simp;done)|(refine .inr ⟨14,?_,hdep 14 ?_⟩;rotate_left;kernel_rfl;simp;done)|(refine .inr ⟨15,?_,hdep 15 ?_⟩;rotate_left;kernel_rfl;simp;done)|(refine .inr ⟨16,?_,hdep 16 ?_⟩;rotate_left;kernel_rfl;simp;done)|(refine .inr ⟨17,?_,hdep 17 ?_⟩;rotate_left;kernel_rfl;simp;done)|(refine .inr ⟨18,?_,hdep 18 ?_⟩;rotate_left;kernel_rfl;simp;done)|(refine .inr ⟨19,?_,hdep 19 ?_⟩;rotate_left;kernel_rfl;simp;done)|(refine .inr ⟨20,?_,hdep 20 ?_⟩;rotate_left;kernel_rfl;simp;done)|(refine .inr ⟨21,?_,hdep 21 ?_⟩;rotate_left;kernel_rfl;simp;done)|(refine .inr ⟨22,?_,hdep 22 ?_⟩;rotate_left;kernel_rfl;simp;done)|(refine .inr ⟨23,?_,hdep 23 ?_⟩;rotate_left;kernel_rfl;simp;done)|(refine .inr ⟨24,?_,hdep 24 ?_⟩;rotate_left;kernel_rfl;simp;done)|(refine .inr ⟨25,?_,hdep 25 ?_⟩;rotate_left;kernel_rfl;simp;done)):p:=h
abbrev ϖ(b:Nat):Xe:=.pointer (Xa ⟨b,0,Xl⟩)
abbrev ϱ(b o:Nat):Xe:=.pointer (Xa ⟨b,o,Xl⟩)
end Go
namespace Go.Pw
open Go.Conc
variable{P:XF}{α:Type}{F F' F1:Xy}{o:X0}{main rd:Bool}{cs:List Xy}{w:Xg}{ops:Array X9}{i d m N b:Nat}{k:List XV}{H L L':List (Nat×Xe)}{R:Xg->Xg->Prop}{D:Xg->Xg->Array X3->Prop}{Stop:Xm->Xg->Prop}{J:Xm->Prop}{v:Xe}{t:Array Xe}{f:XI}
def eG(P:XF){α:Type}:XU α->Option α
 |.pure a=>Xa a
 |.program k=>eG P (k P)
 |_=>Xl
theorem iq{x:XU α}{a:α}(h:eG P x=Xa a)(w:Xg):x.run P w=.ok a w/\x.events P w #[]=#[]:=by induction x with|pure b=>simp only[eG,UE]at h;subst h;exact⟨rfl,rfl⟩|program k c=>exact c P h|_=>simp[eG]at h
def At(P:XF)(F:Xy)(o:X9):Option Xy:=
 match o.op with
 |.defer _=>Xl
 |_=>match eG P (Xp F.eval o)with
   |some (.value v)=>Xa (F.finish v)
   |some .skip=>Xa (F.finish Xq)
   |_=>Xl
def ml(P:XF)(F:Xy):Option Xy:=
 match F.todo with
 |.code .skip::k=>Xa {F with todo:=k}
 |.code (.label _)::k=>Xa {F with todo:=k}
 |.inBlock _::k=>Xa {F with todo:=k}
 |.inScope _::k=>Xa {F with todo:=k}
 |.code (.seq a b)::k=>Xa {F with todo:=.code a::.code b::k}
 |.code (.cond c x y)::k=>match F.eval c with
   |.bool b=>Xa {F with todo:=.code (if b then x else y)::k}
   |_=>Xl
 |.code (.block id c)::k=>Xa {F with todo:=.code c::.inBlock id::k}
 |.code (.loop c)::k=>Xa {F with todo:=.code c::.inLoop c::k}
 |.inLoop c::k=>Xa {F with todo:=.code c::.inLoop c::k}
 |.code (.scope c)::k=>Xa {F with todo:=.code c::.inScope c::k}
 |.code (.exit id)::k=>(exitTo id k).map λk=>{F with todo:=k}
 |.code (.region _ ops Ww)::k=>Xa {F with todo:=.inRegion ops (List.range ops.size)::k}
 |.inRegion _ []::k=>Xa {F with todo:=k}
 |.inRegion ops (i::_)::_=>
   match((ops[i]?).map (Region.wanted · (XE ops F.tmps))).getD Ww with
   |true=>(ops[i]?).bind (At P F)
   |false=>Xa (F.finish Xq)
 |_=>Xl
def hint(H:List (Nat×Xe))(F F1:Xy):Xy×List (Xe×Xe):=
 match F.todo with
 |.inRegion ops (i::_)::_=>
   match(ops[i]?).bind (·.dst)with
   |some d=>match H.lookup d with
     |some v=>({F1 with tmps:=F.tmps.setIfInBounds d v},[(F1.tmps.getD d Xq,v)])
     |none=>(F1,[])
   |none=>(F1,[])
 |_=>(F1,[])
def bu(P:XF)(H:List (Nat×Xe)):Nat->Xy->Option (Xy×List (Xe×Xe))
 |0,F=>Xa (F,[])
 |n+1,F=>(ml P F).bind λF1=>(bu P H n (hint H F F1).1).map λx=>(x.1,(hint H F F1).2++x.2)
theorem kK(P:XF)(f:XI):seen P f #[]=#[]:=by rw[seen_def];simp
theorem BG{o:X9}(C:F.mode=.run)(B:F.kind≠.early)(H:∃ops i rest k,F.todo=.inRegion ops (i::rest)::k/\ops[i]?=Xa o/\Region.wanted o (XE ops F.tmps)=Xd)(h:At P F o=Xa F'):Xo P main (G F cs) w=.go (G F' cs) w #[]:=by obtain⟨ops,i,rest,k,z,A,t⟩:=H;obtain⟨fn,tmps,todo,defers,mode,kind,q⟩:=F;subst z C;(have m:=by simpa using B);(have D:∀c,o.op≠.defer c:=λc e=>by unfold At at h;rw[e]at h;cases h);(have y:∀n,eG P (Xp (Xy.eval {fn:=fn,tmps:=tmps,todo:=.inRegion ops (i::rest)::k,defers:=defers,mode:=.run,kind:=kind,roundOf:=q}) o)=Xa n->(∃v,n=.value v/\F'=Xy.finish {fn:=fn,tmps:=tmps,todo:=.inRegion ops (i::rest)::k,defers:=defers,mode:=.run,kind:=kind,roundOf:=q} v)\/(n=.skip/\F'=Xy.finish {fn:=fn,tmps:=tmps,todo:=.inRegion ops (i::rest)::k,defers:=defers,mode:=.run,kind:=kind,roundOf:=q} Xq):=by intro n E;unfold At at h;split at h;{cases h};rw[E]at h;cases n<;>simp at h<;>simp[h]);cases u:eG P (Xp (Xy.eval {fn:=fn,tmps:=tmps,todo:=.inRegion ops (i::rest)::k,defers:=defers,mode:=.run,kind:=kind,roundOf:=q}) o)with|none=>unfold At at h;split at h;{cases h};rw[u]at h;cases h|some n=>obtain⟨p,r⟩:=iq u w;(have x:Xo P main (G {fn:=fn,tmps:=tmps,todo:=.inRegion ops (i::rest)::k,defers:=defers,mode:=.run,kind:=kind,roundOf:=q} cs) w=Xo.apply P Xd {fn:=fn,tmps:=tmps,todo:=.inRegion ops (i::rest)::k,defers:=defers,mode:=.run,kind:=kind,roundOf:=q} cs Xl (Xp (Xy.eval {fn:=fn,tmps:=tmps,todo:=.inRegion ops (i::rest)::k,defers:=defers,mode:=.run,kind:=kind,roundOf:=q}) o) w:=by cases q with|none=>simp only[G,Xo,Xo.exec,Xo.oper,Xy.oper?,A,t,UD,U0,if_true]|some l=>simp only[G,Xo,Xo.exec,Xo.oper,Xy.oper?,A,t,UD,U0,if_true];split;{rename_i e;exact absurd e (D _)};rfl);rw[x];rcases y n u with⟨v,rfl,rfl⟩|⟨rfl,rfl⟩;{simp[Xo.apply,p,r,m,GStep.after,kK,G]};simp[Xo.apply,p,r,m,GStep.after,kK,G]
theorem kj(m:F.mode=.run)(a:F.kind≠.early)(h:ml P F=Xa F'):(∀main cs w,Xo P main (G F cs) w=.go (G F' cs) w #[])/\F'.mode=.run/\F'.kind≠.early:=by obtain⟨t,q,r,f,p,n,v⟩:=F;subst m;unfold ml at h;simp only at h;split at h;(all_goals first|(cases h;exact⟨λmain cs w=>by simp[G,Xo,Xo.exec],rfl,a⟩)|skip);{split at h;{rename_i b s;cases h;exact⟨λmain cs w=>by simp[G,Xo,Xo.exec,s],rfl,a⟩};cases h};{rename_i id k;cases j:exitTo id k with|none=>rw[j]at h;cases h|some u=>rw[j]at h;cases h;exact⟨λmain cs w=>by simp[G,Xo,Xo.exec,j],rfl,a⟩};{rename_i d i e k;split at h;{rename_i g;cases l:d[i]? with|none=>rw[l]at h;cases h|some o=>rw[l]at h g;simp only[Vm]at h;refine⟨λmain cs w=>BG rfl a ⟨d,i,e,k,rfl,l,by simpa using g⟩ h,?_⟩;unfold At at h;split at h;{cases h};split at h<;>cases h<;>exact⟨rfl,a⟩};rename_i g;cases h;refine⟨λmain cs w=>?_,rfl,a⟩;simp only[G,Xo,Xo.exec,g,UO,if_false]};cases h
theorem Fc{rest:List Nat}{d:Tmp}(e:F.todo=.inRegion ops (i::rest)::k)(l:(ops[i]?).bind (·.dst)=Xa d)(h:ml P F=Xa F1):∃v,F1={F with tmps:=F.tmps.setIfInBounds d v,todo:=.inRegion ops rest::k}:=by(have c:∀v,F.finish v={F with tmps:=F.tmps.setIfInBounds d v,todo:=.inRegion ops rest::k}:=λv=>by obtain⟨m,tmps,todo,b,j,g,n⟩:=F;subst e;simp[Xy.finish,l]);unfold ml at h;rw[e]at h;simp only at h;split at h;{cases f:ops[i]? with|none=>rw[f]at h;cases h|some o=>rw[f]at h;simp only[Vm]at h;unfold At at h;split at h;{cases h};split at h<;>cases h;{exact⟨_,c _⟩};exact⟨_,c _⟩};cases h;exact⟨_,c _⟩
theorem vV(h:ml P F=Xa F1)(a:∀p∈(hint H F F1).2,p.1=p.2):(hint H F F1).1=F1:=by unfold hint at a⊢;split;{rename_i e i j k g;rw[g]at a;simp only at a;cases f:(e[i]?).bind (·.dst)with|none=>rfl|some d=>rw[f]at a;simp only at a⊢;cases l:H.lookup d with|none=>rfl|some v=>rw[l]at a;simp only[Vr,forall_eq]at a⊢;obtain⟨u,rfl⟩:=Fc g f h;rcases U4 d F.tmps.size with c|b;{(have:(F.tmps.setIfInBounds d u).getD d Xq=u:=by simp[c]);rw[this]at a;rw[a]};simp[Array.setIfInBounds,Nat.not_lt.2 b]};rfl
theorem ru(j:∀a b c,R a b->R b c->R a c)(i:∀w,D w w #[]):∀(n:Nat){F F':Xy}{obs:List (Xe×Xe)}{w:Xg},bu P H n F=Xa (F',obs)->(∀p∈obs,p.1=p.2)->F.mode=.run->F.kind≠.early->Goes P main R D Stop m (G F' cs) w->Goes P main R D Stop (m+n) (G F cs) w|0,F,F',obs,w,h,_,_,_,g=>by cases h;exact g|n+1,F,F',obs,w,h,k,t,s,g=>by simp only[bu]at h;cases d:ml P F with|none=>rw[d]at h;cases h|some l=>rw[d]at h;simp only[Vm]at h;cases f:bu P H n (hint H F l).1 with|none=>rw[f]at h;cases h|some x=>rw[f]at h;simp only[UD,UE,UP]at h;obtain⟨rfl,rfl⟩:=h;rw[vV d λp d=>k p (UL.2 (.inl d))]at f;obtain⟨o,q,r⟩:=kj t s d;have:=ru j i n (F':=x.1) (obs:=x.2) f (λp d=>k p (UL.2 (.inr d))) q r g;refine .inr ⟨rfl,λv u=>?_⟩;rw[o];exact⟨i v,this.rely j u⟩
theorem n4(f:∀F b,(∀w,Xo P main (G F cs) w=.go (G b cs) w #[])->J (G b cs)->J (G F cs)):∀(n:Nat){F F':Xy}{obs:List (Xe×Xe)},bu P H n F=Xa (F',obs)->(∀p∈obs,p.1=p.2)->F.mode=.run->F.kind≠.early->J (G F' cs)->J (G F cs)|0,F,F',obs,h,_,_,_,e=>by cases h;exact e|n+1,F,F',obs,h,g,m,l,e=>by simp only[bu]at h;cases a:ml P F with|none=>rw[a]at h;cases h|some b=>rw[a]at h;simp only[Vm]at h;cases d:bu P H n (hint H F b).1 with|none=>rw[d]at h;cases h|some x=>rw[d]at h;simp only[UD,UE,UP]at h;obtain⟨rfl,rfl⟩:=h;rw[vV a λp a=>g p (UL.2 (.inl a))]at d;obtain⟨i,j,k⟩:=kj m l a;exact f F b (λw=>i main cs w) (n4 f n (F':=x.1) (obs:=x.2) d (λp a=>g p (UL.2 (.inr a))) j k e)
def tm(N:Nat)(L:List (Nat×Xe))(t:Array Xe):Array Xe:=((List.range N).map λi=>match L.lookup i with|some v=>v|none=>t.getD i Xq).toArray
structure Sl(N:Nat)(L:List (Nat×Xe))(t:Array Xe):Prop where
 size:t.size=N
 at_:∀p∈L,t.getD p.1 Xq=p.2
theorem gB(h:L.lookup i=Xa v):(i,v)∈L:=by induction L with|nil=>cases h|cons p l c=>simp only[List.lookup]at h;split at h;{rename_i e;cases h;(have:=by simpa using e);subst this;exact UF ..};exact UM _ (c h)
theorem Sl.tm(h:Sl N L t):t=tm N L t:=by apply Vs;intro i;(have e:(Pw.tm N L t)[i]?=((List.range N).map λi=>match L.lookup i with|some v=>v|none=>t.getD i Xq)[i]?:=by unfold Pw.tm;simp);rw[e,UI];rcases U4 i N with a|a;{rw[Wx a];(have b:i<t.size:=by rw[h.size];exact a);simp only[UD,UB b,UE];cases d:L.lookup i with|none=>simp[UB b]|some v=>have:=h.at_ _ (gB d);simp only[Uz,UB b]at this;exact this};rw[List.getElem?_eq_none (by simpa using a),Wb (by rw[h.size];exact a)];rfl
theorem Sl.all(h:(t.size,L.map λp=>t.getD p.1 Xq)=(N,L.map (·.2)):=by kernel_rfl):Sl N L t:=by obtain⟨a,b⟩:=UZ h;refine⟨a,λp d=>?_⟩;obtain⟨i,c⟩:=UQ.1 d;have:=congrArg (·[i]?) b;simpa[UI,c]using this
theorem Sl.OJ(h:t.size=N):Sl N [] t:=⟨h,λp a=>by cases a⟩
theorem Sl.cons{N:Nat}{L:List (Nat×Xe)}{t:Array Xe}{i:Nat}{v:Xe}(h:t.getD i Xq=v)(b:Sl N L t):Sl N ((i,v)::L) t:=⟨b.size,λp a=>by rcases Uy.1 a with rfl|a;{exact h};exact b.at_ p a⟩
section
abbrev fr(f:XI)(t:Array Xe)(k:List XV):Xy:={fn:=f,tmps:=t,todo:=k,defers:=[],mode:=.run,kind:=.normal,roundOf:=Xl}
def sub:List Nat->Ya->Ya
 |[],c=>c
 |i::p,c=>match c,i with
   |.seq a _,0=>sub p a
   |.seq _ b,_=>sub p b
   |.cond _ a _,0=>sub p a
   |.cond _ _ b,_=>sub p b
   |.block _ a,_=>sub p a
   |.loop a,_=>sub p a
   |.scope a,_=>sub p a
   |.rangeFunc _ _ a _,0=>sub p a
   |.rangeFunc _ _ _ b,_=>sub p b
   |c,_=>c
def aX:Ya->Array X9
 |.region _ ops _=>ops
 |_=>#[]
def opn(ops:Array X9)(i:Nat):X9:=(ops[i]?).getD default
def TD:Nat->Nat->List Nat->List Nat
 |0,_,a=>a
 |f+1,n,a=>match Nat.ble n 1 with|true=>a|false=>TD f (n/2) (n%2::a)
def dg(n:Nat):List Nat:=TD 60 n []
abbrev sb(c:Ya)(n:Nat):Ya:=sub (dg n) c
def tT:List Nat->Ya->List XV->List XV
 |[],_,k=>k
 |i::p,c,k=>match c,i with
   |.seq a b,0=>tT p a (.code b::k)
   |.seq _ b,_=>tT p b k
   |.cond _ a _,0=>tT p a k
   |.cond _ _ b,_=>tT p b k
   |.block id a,_=>tT p a (.inBlock id::k)
   |.loop a,_=>tT p a (.inLoop a::k)
   |.scope a,_=>tT p a (.inScope a::k)
   |_,_=>k
abbrev rA(c:Ya)(n:Nat)(l:List Nat):List XV:=.inRegion (aX (sb c n)) l::tT (dg n) c []
abbrev cA(c:Ya)(n:Nat):List XV:=.code (sb c n)::tT (dg n) c []
abbrev xA(x:Ya)(c:Ya)(n:Nat):List XV:=.code x::tT (dg n) c []
abbrev dA(c:Ya)(n:Nat)(r:Nat):List XV:=.code (.region r (aX (sb c n)) Xd)::tT (dg n) c []
theorem Sl.get(h:Sl N L t)(a:L.lookup i=Xa v):t.getD i Xq=v:=h.at_ _ (gB a)
theorem Sl.gN(h:Sl N L t)(i:Nat)(hl:L.lookup i=Xa v):t.getD i Xq=v:=h.get hl
theorem Sl.put(h:Sl N L t)(c:d<N)(e:∀p∈L',p=(d,v)\/(p∈L/\p.1≠d)):Sl N L' (t.setIfInBounds d v):=by refine⟨by simp[h.size],λp f=>?_⟩;rcases e p f with rfl|⟨a,b⟩;{simp[Uz,h.size,c]};rw[<-h.at_ p a];simp only[Uz];rw[UW (Ne.symm b)]
theorem Sl.sub(h:Sl N L t)(b:∀p∈L',p∈L):Sl N L' t:=⟨h.size,λp a=>h.at_ p (b p a)⟩
theorem aU{o:X9}(h:Sl N L t)(b:Region.wanted o (XE ops (tm N L t))=Xd):Region.wanted o (XE ops t)=Xd:=by rw[h.tm];exact b
theorem Sl.pt(h:Sl N L t)(b:d<N:=by decide)(c:L.all (λp=>!(p.1==d))=Xd:=by rfl):Sl N ((d,v)::L) (t.setIfInBounds d v):=h.put b λp a=>by rcases Uy.1 a with rfl|a;{exact .inl rfl};exact .inr ⟨a,by simpa using UT.1 c p a⟩
theorem q9:∀p∈([]:List (Xe×Xe)),p.1=p.2:=λp a=>by cases a
theorem Ku{a b:Xe}{l:List (Xe×Xe)}(h:a=b)(d:∀p∈l,p.1=p.2):∀p∈(a,b)::l,p.1=p.2:=λp c=>by rcases Uy.1 c with rfl|c;{exact h};exact d p c
theorem int_eq{k:XA}{x y:Int}(h:x=y):Xe.int k x=Xe.int k y:=by rw[h]
structure Ob where
 c:Xe
 b:Xe
 h:c=b
def oi(k:XA)(c b:Int)(h:c=b):Ob:=⟨.int k c,.int k b,int_eq h⟩
def o2(c b:Int)(h:c=b):Ob:=oi .u32 c b h
def o3(c b:Int)(h:c=b):Ob:=oi .i32 c b h
def o6(c b:Int)(h:c=b):Ob:=oi .i64 c b h
def o8(c b:Int)(h:c=b):Ob:=oi .u64 c b h
def ob(c b:Bool)(h:c=b):Ob:=⟨.bool c,.bool b,congrArg Xe.bool h⟩
def oh(O:List (Nat×Ob)):List (Nat×Xe):=O.map λp=>(p.1,p.2.b)
def oo(O:List (Nat×Ob)):List (Xe×Xe):=O.map λp=>(p.2.c,p.2.b)
theorem tF(O:List (Nat×Ob)):∀p∈oo O,p.1=p.2:=λp a=>by obtain⟨q,_,rfl⟩:=UC.1 a;exact q.2.h
def iT(P:XF)(H:List (Nat×Xe))(n:Nat)(F:Xy):Array Xe:=match bu P H n F with|some x=>x.1.tmps|none=>#[]
section
variable{k':List XV}{n:Nat}{obs:List (Xe×Xe)}
theorem GM(l:∀a b c,R a b->R b c->R a c)(i:∀w,D w w #[])(n:Nat)(o:Sl N L t)(g:bu P H n (fr f (tm N L t) k)=Xa (fr f (iT P H n (fr f (tm N L t) k)) k',obs))(q:∀p∈obs,p.1=p.2)(h:Sl N L' (iT P H n (fr f (tm N L t) k)))(j:∀d,Sl N L' d->Goes P main R D Stop m (G (fr f d k') cs) w):Goes P main R D Stop (m+n) (G (fr f t k) cs) w:=by(have e:fr f t k=fr f (tm N L t) k:=by rw[<-o.tm]);rw[e];exact ru l i n g q rfl Θ (j _ h)
theorem LZ(h:∀F a,(∀w,Xo P main (G F cs) w=.go (G a cs) w #[])->J (G a cs)->J (G F cs))(n:Nat)(i:Sl N L t)(c:bu P H n (fr f (tm N L t) k)=Xa (fr f (iT P H n (fr f (tm N L t) k)) k',obs))(j:∀p∈obs,p.1=p.2)(d:Sl N L' (iT P H n (fr f (tm N L t) k)))(g:∀b,Sl N L' b->J (G (fr f b k') cs)):J (G (fr f t k) cs):=by(have e:fr f t k=fr f (tm N L t) k:=by rw[<-i.tm]);rw[e];exact n4 (main:=main) h n c j rfl Θ (g _ d)
end
end
def wW:Xe->Bool
 |.agg _|.tuple _=>Ww
 |_=>Xd
def Qc{α:Type}(b:Nat)(r:Option (α×X0×List Nat)):Option (α×X0×List Nat):=r.map λr=>(r.1,r.2.1,b::r.2.2)
def j1(P:XF)(rd:Bool){α:Type}:XU α->X0->Option (α×X0×List Nat)
 |.pure a,o=>Xa (a,o,[])
 |.program k,o=>j1 P rd (k P) o
 |.load .plain ⟨b,i,Xl⟩ k,.cells c e fr=>(c[i]?).bind λv=>Qc b (j1 P rd (k v) (.cells c e fr))
 |.store .plain ⟨b,i,Xl⟩ v k,.cells c e (0,0)=>match !rd&&wW v&&decide (i<c.size)with
   |true=>Qc b (j1 P rd k (.cells (c.setIfInBounds i v) e))
   |false=>Xl
 |.getObj r k,.map es n=>Qc r (j1 P rd (k (.map es n)) (.map es n))
 |.setObj r (.map es' n') k,.map _ _=>match rd with
   |false=>Qc r (j1 P rd k (.map es' n'))
   |true=>Xl
 |_,_=>Xl
def I3(P:XF){α:Type}:XU α->Option (X0×(Nat->XU α))
 |.program k=>I3 P (k P)
 |.new o k=>Xa (o,k)
 |_=>Xl
def iK(w:Xg)(b:Nat)(o:X0):Xg:={w with heap:=w.heap.setIfInBounds b o}
theorem pK{o':X0}(h:w.heap[b]?=Xa o):(iK w b o').heap[b]?=Xa o':=by obtain⟨a,_⟩:=Uu.1 h;simp[iK,a]
theorem oM{c:Nat}(h:c≠b):(iK w b o).heap[c]?=w.heap[c]?:=by simp[iK,UW (Ne.symm h)]
theorem vP(w:Xg)(b:Nat)(o o':X0):iK (iK w b o) b o'=iK w b o':=by simp[iK]
theorem nn(h:w.heap[b]?=Xa o):iK w b o=w:=by obtain⟨c,a⟩:=Uu.1 h;(have:w.heap.setIfInBounds b o=w.heap:=Array.ext (by simp) λk d _=>by rw[Xb];split;{rename_i e;subst e;exact a.symm};rfl);unfold iK;rw[this]
theorem zc{c:Array Xe}{e:XD}(h:w.heap[b]?=Xa (.cells c e)):w.setCell ⟨b,i,Xl⟩ v=iK w b (.cells (c.setIfInBounds i v) e):=by obtain⟨f,d⟩:=Uu.1 h;(have:w.heap.modify b (λ|.cells c a frozen=>.cells (c.setIfInBounds i v) a frozen|o=>o)=w.heap.setIfInBounds b (.cells (c.setIfInBounds i v) e):=by apply Array.ext (by simp);intro k g _;rw[Array.getElem_modify,Xb];split;{rename_i e;subst e;rw[d]};rfl);unfold Xg.setCell iK;rw[<-this];rfl
def w7(b:Nat)(e:X3):Prop:=(match e.loc with|.cell a=>a.block=b|.obj j=>j=b|_=>False)/\e.sync=Ww
theorem Jr{f:Array X3->Array X3}{e:X3}(i:w7 b e)(h:∀es,∃a,f es=es++a/\∀x∈a,w7 b x)(es:Array X3):∃a,f (es.push e)=es++a/\∀x∈a,w7 b x:=by obtain⟨a,d,g⟩:=h (es.push e);refine⟨#[e]++a,by simp[d],λx c=>?_⟩;rcases U1.1 c with c|c;{(obtain rfl:=by simpa using c);exact i};exact g x c
theorem kY{r:Option (α×X0×List Nat)}{a:α}{q:List Nat}(h:Qc b r=Xa (a,o,q)):∃c,r=Xa (a,o,c)/\q=b::c:=by obtain⟨⟨f,g,c⟩,d,e⟩:=UA.1 h;cases e;exact⟨c,d,rfl⟩
theorem rP{x:XU α}:∀{o o':X0}{q:List Nat}{a:α}{w:Xg},j1 P rd x o=Xa (a,o',q)->(∀r∈q,r=b)->w.heap[b]?=Xa o->x.run P w=.ok a (iK w b o')/\∀es,∃u,x.events P w es=es++u/\∀e∈u,w7 b e:=by induction x with|pure a=>intro o o' q a w h g d;cases h;exact⟨by rw[nn d];rfl,λes=>⟨#[],by simp,by simp⟩⟩|program k n=>exactλh g d=>n P h g d|load m A k n=>intro o o' q a w h g d;obtain⟨j,i,C⟩:=A;cases m<;>cases C<;>cases o<;>simp only[j1,reduceCtorEq]at h;obtain⟨v,z,h⟩:=UX.1 h;obtain⟨B,s,rfl⟩:=kY h;obtain rfl:j=b:=g _ (UF ..);obtain⟨l,p⟩:=n v s (λr t=>g r (UM _ t)) d;(have y:w.cell? ⟨j,i,Xl⟩=Xa v:=by simp[Xg.cell?,d,z]);refine⟨by simpa[XU.run,y]using l,λes=>?_⟩;rw[show(XU.load Mode.plain ⟨j,i,Xl⟩ k).events P w es=(k v).events P w (es.push ⟨.cell ⟨j,i,Xl⟩,Ww,Ww⟩)by simp[XU.events,XU.runT,y,-XU.runT_eq];rfl];exact Jr (f:=(k v).events P w) ⟨rfl,rfl⟩ p es|store m A v k n=>intro o o' q a w h g d;obtain⟨j,i,C⟩:=A;(cases m<;>cases C<;>cases o<;>try(exfalso;revert h;simp[j1];done));rename_i c e fr;obtain⟨F,H⟩:=fr;(cases F<;>cases H<;>try(exfalso;revert h;simp[j1];done));simp only[j1]at h;split at h;{rename_i D;rw[Uv,Uv,decide_eq_true_eq]at D;obtain⟨⟨_,z⟩,I⟩:=D;obtain⟨B,s,rfl⟩:=kY h;obtain rfl:j=b:=g _ (UF ..);obtain⟨l,p⟩:=n s (λr t=>g r (UM _ t)) (pK d);rw[vP,<-zc d]at l;rw[<-zc d]at p;(have y:w.cell? ⟨j,i,Xl⟩=Xa c[i]:=by simp[Xg.cell?,d,I]);(have E:w.frozen? ⟨j,i,Xl⟩=Ww:=by simp[Xg.frozen?,d]);refine⟨by cases v<;>simp[wW]at z<;>simpa[XU.run,y,E]using l,λes=>?_⟩;rw[show(XU.store Mode.plain ⟨j,i,Xl⟩ v k).events P w es=k.events P (w.setCell ⟨j,i,Xl⟩ v) (es.push ⟨.cell ⟨j,i,Xl⟩,Xd,Ww⟩)by cases v<;>simp[wW]at z<;>(simp[XU.events,XU.runT,y,E,-XU.runT_eq];rfl)];exact Jr (f:=k.events P _) ⟨rfl,rfl⟩ p es};cases h|getObj r k n=>intro o o' q a w h g d;cases o<;>simp only[j1,reduceCtorEq]at h;obtain⟨B,s,rfl⟩:=kY h;obtain rfl:r=b:=g _ (UF ..);obtain⟨l,p⟩:=n _ s (λr t=>g r (UM _ t)) d;refine⟨by simpa[XU.run,d]using l,λes=>?_⟩;rw[show(XU.getObj r k).events P w es=(k _).events P w (es.push ⟨.obj r,Ww,Ww⟩)by simp[XU.events,XU.runT,d,X0.isChan,-XU.runT_eq];rfl];exact Jr (f:=(k _).events P w) ⟨rfl,rfl⟩ p es|setObj r ob k n=>intro o o' q a w h g d;cases rd<;>cases o<;>cases ob<;>simp only[j1,reduceCtorEq]at h;obtain⟨B,s,rfl⟩:=kY h;obtain rfl:r=b:=g _ (UF ..);obtain⟨l,p⟩:=n s (λr t=>g r (UM _ t)) (pK d);rw[vP]at l;refine⟨by simp only[XU.run,d];exact l,λes=>?_⟩;rw[show(XU.setObj r _ k).events P w es=k.events P (iK w r _) (es.push ⟨.obj r,Xd,Ww⟩)by simp[XU.events,XU.runT,d,X0.isChan,-XU.runT_eq];rfl];exact Jr (f:=k.events P _) ⟨rfl,rfl⟩ p es|_=>intro o o' q a w h;simp[j1]at h
theorem Kg{x:XU α}:∀{o o':X0}{q:List Nat}{a:α},j1 P Xd x o=Xa (a,o',q)->o'=o:=by induction x with|pure a=>intro o o' q a h;cases h;rfl|program k b=>exactλh=>b P h|load m d k b=>intro o o' q a h;obtain⟨j,i,g⟩:=d;cases m<;>cases g<;>cases o<;>simp only[j1,reduceCtorEq]at h;obtain⟨v,s,h⟩:=UX.1 h;obtain⟨p,f,rfl⟩:=kY h;exact b v f|getObj r k b=>intro o o' q a h;cases o<;>simp only[j1,reduceCtorEq]at h;obtain⟨p,f,rfl⟩:=kY h;exact b _ f|store m d v k b=>intro o o' q a h;obtain⟨j,i,g⟩:=d;(cases m<;>cases g<;>cases o<;>try(exfalso;revert h;simp[j1];done));rename_i c e fr;obtain⟨l,n⟩:=fr;cases l<;>cases n<;>exfalso<;>revert h<;>simp[j1]|setObj r ob k b=>intro o o' q a h;cases o<;>cases ob<;>simp[j1]at h|_=>intro o o' q a h;simp[j1]at h
theorem Lo{x:XU α}{k:Nat->XU α}{a:α}(h:I3 P x=Xa (o,k))(d:eG P (k w.heap.size)=Xa a):x.run P w=.ok a (w.alloc o)/\x.events P w #[]=#[]:=by induction x with|program f e=>exact e P h|new g f=>cases h;obtain⟨b,c⟩:=iq d (w.alloc o);exact⟨b,c⟩|_=>simp[I3]at h
def Tg:Op->Bool
 |.defer _=>Xd
 |_=>Ww
def BB(F:Xy):Option X9:=match F.todo with
 |.inRegion ops (i::_)::_=>match((ops[i]?).map (Region.wanted · (XE ops F.tmps))).getD Ww with
   |true=>match ops[i]? with
     |some o=>match Tg o.op with|true=>Xl|false=>Xa o
     |none=>Xl
   |false=>Xl
 |_=>Xl
def valOf:Next->Option Xe
 |.value v=>Xa v
 |.skip=>Xa Xq
 |_=>Xl
def So(P:XF)(rd:Bool)(k:Nat)(F:Xy)(H:List (Nat×X0)):Option (Xy×List (Nat×X0)×List (Nat×Nat)):=
 match BB F,H[k]? with
 |some o,Xa (b,ob)=>match j1 P rd (Xp F.eval o) ob with
   |some (n,ob',q)=>(valOf n).map λv=>(F.finish v,H.set k (b,ob'),q.map λr=>(r,b))
   |none=>Xl
 |_,_=>Xl
def Qe(P:XF)(c:Nat)(F:Xy):Option (Xy×X0):=
 match BB F with
 |some o=>match I3 P (Xp F.eval o)with
   |some (ob,k)=>((eG P (k c)).bind valOf).map λv=>(F.finish v,ob)
   |none=>Xl
 |none=>Xl
abbrev MR:=Xy×List (Nat×X0)×List (Nat×Nat)×List (Xe×Xe)
def iG(P:XF)(rd:Bool)(O:List (Nat×Xe)):Nat->List Nat->List Nat->Xy->List (Nat×X0)->Option MR
 |0,_,_,F,H=>Xa (F,H,[],[])
 |n+1,hs,bs,F,H=>match ml P F with
   |some F1=>(iG P rd O n hs bs (hint O F F1).1 H).map λr=>(r.1,r.2.1,r.2.2.1,(hint O F F1).2++r.2.2.2)
   |none=>match hs with
     |[]=>Xa (F,H,[],[])
     |0::hs=>match bs with
       |[]=>Xl
       |c::bs=>match Qe P c F with
         |some (F1,ob)=>iG P rd O n hs bs F1 ((c,ob)::H)
         |none=>Xl
     |(k+1)::hs=>match So P rd k F H with
       |some (F1,H1,q)=>(iG P rd O n hs bs F1 H1).map λs=>(s.1,s.2.1,q++s.2.2.1,s.2.2.2)
       |none=>Xl
theorem wY{o:X9}(h:BB F=Xa o):∃ops i rest k,F.todo=.inRegion ops (i::rest)::k/\ops[i]?=Xa o/\Region.wanted o (XE ops F.tmps)=Xd/\∀c,o.op≠.defer c:=by unfold BB at h;split at h;{rename_i ops i rest k f;split at h;{rename_i g;split at h;{rename_i j d;split at h;{cases h};rename_i b;cases h;refine⟨ops,i,rest,k,f,d,by simpa[d]using g,λc e=>?_⟩;rw[e]at b;cases b};cases h};cases h};cases h
theorem Co{o:X9}{w':Xg}{n:Next}(y:F.mode=.run)(r:F.kind≠.early)(h:BB F=Xa o)(A:(Xp F.eval o).run P w=.ok n w')(z:valOf n=Xa v):Xo P main (G F cs) w=.go (G (F.finish v) cs) w' (seen P F.fn ((Xp F.eval o).events P w #[]))/\(F.finish v).mode=.run/\(F.finish v).kind≠.early:=by obtain⟨p,i,g,k,u,x,q,C⟩:=wY h;obtain⟨fn,tmps,todo,defers,mode,kind,t⟩:=F;subst u y;(have m:=by simpa using r);refine⟨?_,rfl,r⟩;generalize D:Xy.eval _=B at A⊢;(have s:Xo P main (G {fn:=fn,tmps:=tmps,todo:=.inRegion p (i::g)::k,defers:=defers,mode:=.run,kind:=kind,roundOf:=t} cs) w=Xo.apply P Xd {fn:=fn,tmps:=tmps,todo:=.inRegion p (i::g)::k,defers:=defers,mode:=.run,kind:=kind,roundOf:=t} cs Xl (Xp B o) w:=by rw[<-D];cases t with|none=>simp only[G,Xo,Xo.exec,Xo.oper,Xy.oper?,x,q,UD,U0,if_true]|some l=>simp only[G,Xo,Xo.exec,Xo.oper,Xy.oper?,x,q,UD,U0,if_true];split;{rename_i e;exact absurd e (C _)};rfl);rw[s];cases n<;>simp[valOf]at z<;>subst z<;>simp[Xo.apply,A,m,GStep.after,G]
theorem KQ{es:Array X3}(h:∀e∈es,w7 b e):∀e∈seen P f es,w7 b e:=λe a=>by rw[seen_def]at a;rcases seen_fold_sub _ _ _ _ e a with x|x;{simp at x};exact h e (by simpa using x)
theorem Nf{k:Nat}{H H1:List (Nat×X0)}{q:List (Nat×Nat)}(x:F.mode=.run)(u:F.kind≠.early)(h:So P rd k F H=Xa (F1,H1,q))(z:∀p∈q,p.1=p.2):∃b o o',H[k]?=Xa (b,o)/\H1=H.set k (b,o')/\(rd=Xd->o'=o)/\(∀main cs w,w.heap[b]?=Xa o->∃es,Xo P main (G F cs) w=.go (G F1 cs) (iK w b o') es/\∀e∈es,w7 b e)/\F1.mode=.run/\F1.kind≠.early:=by unfold So at h;split at h;{rename_i C b ob y hH;split at h;{rename_i n d D g;obtain⟨v,B,e⟩:=UA.1 h;cases e;have a:=λr A=>z (r,b) (UC.2 ⟨r,A,rfl⟩);have c:∀main cs w,w.heap[b]?=Xa ob->Xo P main (G F cs) w=.go (G (F.finish v) cs) (iK w b d) (seen P F.fn ((Xp F.eval C).events P w #[]))/\(F.finish v).mode=.run/\(F.finish v).kind≠.early:=λmain cs w f=>Co x u y (rP g a f).1 B;refine⟨b,ob,d,hH,rfl,λe=>by subst e;exact Kg g,λmain cs w f=>⟨_,(c main cs w f).1,KQ λe i=>?_⟩,(c Xd [] {(default:Xg)with heap:=(Array.replicate (b+1) ob)} (by simp)).2⟩;obtain⟨l,m,s⟩:=(rP g a f).2 #[];rw[m]at i;exact s e (by simpa using i)};cases h};cases h
theorem Ol(s:F.mode=.run)(q:F.kind≠.early)(h:∀c,∃r,Qe P c F=Xa r):∃o,∃e:Nat->Xy,(∀c,Qe P c F=Xa (e c,o))/\(∀main cs w,Xo P main (G F cs) w=.go (G (e w.heap.size) cs) (w.alloc o) #[])/\∀c,(e c).mode=.run/\(e c).kind≠.early:=by unfold Qe at h⊢;cases g:BB F with|none=>obtain⟨r,b⟩:=h 0;rw[g]at b;cases b|some D=>simp only[g]at h⊢;cases l:I3 P (Xp F.eval D)with|none=>obtain⟨r,b⟩:=h 0;rw[l]at b;cases b|some x=>obtain⟨ob,p⟩:=x;simp only[l]at h⊢;(have j:∀c,∃n v,eG P (p c)=Xa n/\valOf n=Xa v:=λc=>by obtain⟨r,b⟩:=h c;obtain⟨v,j,_⟩:=UA.1 b;obtain⟨n,a,d⟩:=UX.1 j;exact⟨n,v,a,d⟩);(have m:∀main cs(w:Xg),Xo P main (G F cs) w=.go (G (F.finish (((eG P (p w.heap.size)).bind valOf).getD Xq)) cs) (w.alloc ob) #[]:=λmain cs w=>by obtain⟨n,v,a,d⟩:=j w.heap.size;obtain⟨B,C⟩:=Lo l a;rw[(Co s q g B d).1,C,kK,a];simp[d]);refine⟨ob,λc=>F.finish (((eG P (p c)).bind valOf).getD Xq),λc=>?_,m,λc=>?_⟩;{obtain⟨n,v,a,d⟩:=j c;simp[a,d]};obtain⟨E,i,y,k,a,_⟩:=wY g;obtain⟨H,z,A,f,u,t,I⟩:=F;subst a;exact⟨s,q⟩
structure Carry(P:XF)(rd:Bool)(main:Bool)(cs:List Xy)(J:(Nat->Prop)->Xm->Xg->Prop)(Kn:(Nat->Prop)->Xg->List (Nat×X0)->Prop)(al:Prop):Prop where
 ctl:∀own v F F1,(∀w,Xo P main (G F cs) w=.go (G F1 cs) w #[])->J own (G F1 cs) v->J own (G F cs) v
 mem:∀own v H k b o o' F F1,Kn own v H->H[k]?=Xa (b,o)->(rd=Xd->o'=o)->(∀w:Xg,w.heap[b]?=Xa o->∃es,Xo P main (G F cs) w=.go (G F1 cs) (iK w b o') es/\∀e∈es,w7 b e)->(∀v',Kn own v' (H.set k (b,o'))->J own (G F1 cs) v')->J own (G F cs) v
 new:al->∀own v H o F(F1:Nat->Xy),Kn own v H->(∀w:Xg,Xo P main (G F cs) w=.go (G (F1 w.heap.size) cs) (w.alloc o) #[])->(∀own' c v',Kn own' v' ((c,o)::H)->J own' (G (F1 c) cs) v')->J own (G F cs) v
theorem Carry.run{P:XF}{J:(Nat->Prop)->Xm->Xg->Prop}{Kn:(Nat->Prop)->Xg->List (Nat×X0)->Prop}{al:Prop}(C:Carry P rd main cs J Kn al)(O:List (Nat×Xe)):∀(n:Nat)(g:List Nat)(k:Nat)(_:k≠0->al)(own:Nat->Prop)(v:Xg)(F:Xy)(H:List (Nat×X0)),F.mode=.run->F.kind≠.early->Kn own v H->(∀bs:List Nat,bs.length=k->∃r,iG P rd O n g bs F H=Xa r/\(∀p∈r.2.2.1,p.1=p.2)/\(∀p∈r.2.2.2,p.1=p.2)/\∀d t,Kn d t r.2.1->J d (G r.1 cs) t)->J own (G F cs) v|0,g,k,z,own,v,F,H,K,I,m,E=>by obtain⟨r,h,_,_,y⟩:=E (List.replicate k 0) (by simp);cases h;exact y own v m|n+1,g,k,z,own,v,F,H,K,I,m,E=>by cases a:ml P F with|some f=>obtain⟨h,u,l⟩:=kj K I a;(have R:(hint O F f).1=f:=by obtain⟨r,e,_,B,_⟩:=E (List.replicate k 0) (by simp);simp only[iG,a]at e;obtain⟨s,_,rfl⟩:=UA.1 e;exact vV a λp a=>B p (UL.2 (.inl a)));refine C.ctl own v F f (λw=>h main cs w) (Carry.run C O n g k z own v f H u l m λbs A=>?_);obtain⟨r,e,D,B,N⟩:=E bs A;simp only[iG,a,R]at e;obtain⟨s,M,rfl⟩:=UA.1 e;exact⟨s,M,D,λp a=>B p (UL.2 (.inr a)),N⟩|none=>cases g with|nil=>obtain⟨r,e,_,_,y⟩:=E (List.replicate k 0) (by simp);simp only[iG,a,UE]at e;subst e;exact y own v m|cons j g=>cases j with|zero=>(cases k with|zero=>obtain⟨r,e,_⟩:=E [] rfl;simp[iG,a]at e|succ k=>(obtain⟨o,f,h,u,l⟩:=Ol (P:=P) K I λc=>by obtain⟨r,e,_⟩:=E (c::List.replicate k 0) (by simp);simp only[iG,a]at e;cases S:Qe P c F with|none=>rw[S]at e;cases e|some r=>exact⟨r,rfl⟩);refine C.new (z (by simp)) own v H o F f m (λw=>u main cs w) λd c t i=>Carry.run C O n g k (λ_=>z (by simp)) d t (f c) _ (l c).1 (l c).2 i λbs A=>?_;obtain⟨r,e,T⟩:=E (c::bs) (by simp[A]);simp only[iG,a,h c]at e;exact⟨r,e,T⟩)|succ j=>cases L:So P rd j F H with|none=>obtain⟨r,e,_⟩:=E (List.replicate k 0) (by simp);simp[iG,a,L]at e|some x=>obtain⟨f,W,q⟩:=x;obtain⟨b,o,V,h,rfl,u,l,y,Q⟩:=Nf K I L (by obtain⟨r,e,D,_⟩:=E (List.replicate k 0) (by simp);simp only[iG,a,L]at e;obtain⟨s,_,rfl⟩:=UA.1 e;exactλp a=>D p (UL.2 (.inl a)));refine C.mem own v H j b o V F f m h u (λw U=>l main cs w U) λt i=>Carry.run C O n g k z own t f _ y Q i λbs A=>?_;obtain⟨r,e,D,B,N⟩:=E bs A;simp only[iG,a,L]at e;obtain⟨s,M,rfl⟩:=UA.1 e;exact⟨s,M,λp a=>D p (UL.2 (.inr a)),B,N⟩
end Go.Pw
namespace Go.ab
variable{a a' b':XY}{v w:Xg}{v' x x' y y' z:Xe}{i b k n:Nat}{e:RuntimeError}{o o':X0}{P:XF}{α β γ δ ε ζ:Type}{h:Halt}{t:XD}{op:BinOp}{o1:XN}{lo lo' hi hi' mx':Option Xe}{f:XI}{gl:Nat->Bool}{ev ev':XN->Xe}{ops:Array X9}{rest:List Nat}{t':Array Xe}
section
abbrev bB:=Nat->Option Nat
def bB.le(r r':bB):Prop:=∀b c,r b=Xa c->r' b=Xa c
theorem bB.le_refl(r:bB):r.le r:=λ_ _ h=>h
theorem bB.le_trans{r r' r'':bB}(h:r.le r')(a:r'.le r''):r.le r'':=λb c e=>a b c (h b c e)
structure dH where
 fns:XI->Bool
 seen:Nat->Prop
 EY:Nat->Nat
 aJ:Nat
 low:Nat->Nat:=λ_=>0
def vW:XD:=1000000007
structure Fits(P:XF)(c:dH):Prop where
 aJ:c.aJ=P.globals.size
 bad:P.info? vW=Xl
 low:∀g,g<c.aJ->c.low g=0
def du(c:dH)(r:bB)(a a':XY):Prop:=r a.block=Xa a'.block/\a'.off=a.off/\a'.spot=a.spot/\c.low a.block<=a.off
def Iz(c:dH):Fn->Bool
 |.func f=>c.fns f
 |_=>Ww
inductive ai(c:dH)(r:bB):Xe->Xe->Prop
 |bool(b:Bool):ai c r (.bool b) (.bool b)
 |int(k:XA)(n:Int):ai c r (.int k n) (.int k n)
 |string(s:ByteArray):ai c r (.string s) (.string s)
 |gi:ai c r (.pointer Xl) (.pointer Xl)
 |ptr{a a':XY}:du c r a a'->ai c r (.pointer (Xa a)) (.pointer (Xa a'))
 |gC(n m:Nat):ai c r (.slice Xl n m) (.slice Xl n m)
 |slice{a a':XY}(n m:Nat):du c r a a'->ai c r (.slice (Xa a) n m) (.slice (Xa a') n m)
 |cE(a a':XY):ai c r (.slice (Xa a) 0 0) (.slice (Xa a') 0 0)
 |k6:ai c r (.map Xl) (.map Xl)
 |map{a a':Nat}:r a=Xa a'->ai c r (.map (Xa a)) (.map (Xa a'))
 |func{fn:Fn}{x x' y y':Array Xe}:Iz c fn=Xd->x.size=x'.size->(∀(i:Nat)(v v':Xe),x[i]?=Xa v->x'[i]?=Xa v'->ai c r v v')->
  y.size=y'.size->(∀(i:Nat)(v v':Xe),y[i]?=Xa v->y'[i]?=Xa v'->ai c r v v')->ai c r (.func fn x y) (.func fn x' y')
 |nilFunc:ai c r .nilFunc .nilFunc
 |nilIface:ai c r .nilIface .nilIface
 |iface(t:XD){v v':Xe}:ai c r v v'->ai c r (.iface t v) (.iface t v')
 |agg{x x':Array Xe}:x.size=x'.size->(∀(i:Nat)(v v':Xe),x[i]?=Xa v->x'[i]?=Xa v'->ai c r v v')->ai c r (.agg x) (.agg x')
 |tuple{x x':Array Xe}:x.size=x'.size->(∀(i:Nat)(v v':Xe),x[i]?=Xa v->x'[i]?=Xa v'->ai c r v v')->ai c r (.tuple x) (.tuple x')
structure aj(c:dH)(r:bB)(x x':Array Xe):Prop where
 size:x.size=x'.size
 el:∀(i:Nat)(v v':Xe),x[i]?=Xa v->x'[i]?=Xa v'->ai c r v v'
theorem du.mono{c:dH}{r r':bB}(h:r.le r')(x:du c r a a'):du c r' a a':=⟨h _ _ x.1,x.2⟩
theorem ai.mono{c:dH}{r r':bB}(h:r.le r'){v:Xe}(x:ai c r v v'):ai c r' v v':=by induction x with|bool b=>exact .bool b|int k n=>exact .int k n|string s=>exact .string s|gi=>exact .gi|ptr a=>exact .ptr (a.mono h)|gC n m=>exact .gC n m|slice n m a=>exact .slice n m (a.mono h)|cE a e=>exact .cE a e|k6=>exact .k6|map a=>exact .map (h _ _ a)|func i j _ l _ f g=>exact .func i j f l g|nilFunc=>exact .nilFunc|nilIface=>exact .nilIface|iface t _ d=>exact .iface t d|agg s _ d=>exact .agg s d|tuple s _ d=>exact .tuple s d
theorem aj.mono{c:dH}{r r':bB}(h:r.le r'){x x':Array Xe}(k:aj c r x x'):aj c r' x x':=⟨k.size,λi v d a b=>(k.el i v d a b).mono h⟩
theorem ai.sI{c:dH}{r:bB}{x x':Array Xe}(h:aj c r x x'):ai c r (.agg x) (.agg x'):=.agg h.size h.el
theorem ai.kZ{c:dH}{r:bB}{x x':Array Xe}(h:aj c r x x'):ai c r (.tuple x) (.tuple x'):=.tuple h.size h.el
section rows
variable{c:dH}{r:bB}
theorem aj.get{x x':Array Xe}(h:aj c r x x'){v:Xe}(b:x[i]?=Xa v):∃d,x'[i]?=Xa d/\ai c r v d:=by have e:=(Uu.1 b).1;have a:=h.size▸e;exact⟨x'[i],UB a,h.el i v _ b (UB a)⟩
theorem aj.none{x x':Array Xe}(h:aj c r x x')(a:x[i]?=Option.none):x'[i]?=Option.none:=by rw[Array.getElem?_eq_none_iff]at a⊢;rw[<-h.size];exact a
theorem aj.getD{x x':Array Xe}(h:aj c r x x')(i:Nat){d d':Xe}(b:ai c r d d'):ai c r (x.getD i d) (x'.getD i d'):=by rw[Uz,Uz];cases a:x[i]? with|none=>rw[h.none a];exact b|some v=>obtain⟨f,e,k⟩:=h.get a;simp_all
theorem aj.empty:aj c r #[] #[]:=⟨rfl,λi v a h=>by simp at h⟩
theorem aj.push{x x':Array Xe}(h:aj c r x x'){v:Xe}(k:ai c r v v'):aj c r (x.push v) (x'.push v'):=by refine⟨by simp[h.size],λi u d a b=>?_⟩;rw[U2]at a b;rw[<-h.size]at b;split at a;{simp_all};rw[if_neg ‹_›]at b;exact h.el i u d a b
theorem aj.append{x x' y y':Array Xe}(h:aj c r x x')(k:aj c r y y'):aj c r (x++y) (x'++y'):=by refine⟨by simp[h.size,k.size],λi u d a b=>?_⟩;rw[Array.getElem?_append]at a b;rw[<-h.size]at b;split at a;{rw[if_pos ‹_›]at b;exact h.el i u d a b};rw[if_neg ‹_›]at b;exact k.el _ u d a b
theorem aj.set{x x':Array Xe}(h:aj c r x x')(i:Nat){v:Xe}(k:ai c r v v'):aj c r (x.setIfInBounds i v) (x'.setIfInBounds i v'):=by refine⟨by simp[h.size],λj u d a b=>?_⟩;rw[VH]at a b;split at a;{simp_all};rw[if_neg ‹_›]at b;exact h.el j u d a b
theorem aj.extract{x x':Array Xe}(h:aj c r x x')(i j:Nat):aj c r (x.extract i j) (x'.extract i j):=by refine⟨by simp[h.size],λk u d a b=>?_⟩;rw[Array.getElem?_extract]at a b;rw[<-h.size]at b;split at a;{rw[if_pos ‹_›]at b;exact h.el _ u d a b};cases a
theorem aj.single{v:Xe}(k:ai c r v v'):aj c r #[v] #[v']:=by refine⟨rfl,λi u d a b=>?_⟩;grind
theorem aj.cells{v v':Xe}(k:ai c r v v'):aj c r v.cells v'.cells:=by cases k with|agg s e=>exact⟨s,e⟩|bool b=>exact .single (.bool b)|int k n=>exact .single (.int k n)|string s=>exact .single (.string s)|gi=>exact .single .gi|ptr a=>exact .single (.ptr a)|gC n m=>exact .single (.gC n m)|cE a g=>exact .single (.cE a g)|slice n m a=>exact .single (.slice n m a)|k6=>exact .single .k6|map a=>exact .single (.map a)|func a b d e f=>exact .single (.func a b d e f)|nilFunc=>exact .single .nilFunc|nilIface=>exact .single .nilIface|iface t a=>exact .single (.iface t a)|tuple a b=>exact .single (.tuple a b)
theorem aj.map{α:Type}(l:Array α)(f f':α->Xe)(h:∀x∈l,ai c r (f x) (f' x)):aj c r (l.map f) (l.map f'):=by refine⟨by simp,λi u d a b=>?_⟩;grind
theorem fO:ai c r Xq Xq:=.tuple rfl λi v a h=>by simp at h
theorem aj.replicate(n:Nat){v:Xe}(k:ai c r v v'):aj c r (Array.replicate n v) (Array.replicate n v'):=by refine⟨by simp,λi u d a b=>?_⟩;grind
end rows
structure Gp(c:dH)(r:bB)(e e':X7):Prop where
 key:ai c r e.key e'.key
 val:ai c r e.val e'.val
 born:e'.born=e.born
inductive lX(c:dH)(r:bB):X0->X0->Prop
 |cells{x x':Array Xe}(t:XD)(fr:Nat×Nat):aj c r x x'->lX c r (.cells x t fr) (.cells x' t fr)
 |map{x x':Array X7}(k:Nat):x.size=x'.size->(∀(i:Nat)(e e':X7),x[i]?=Xa e->x'[i]?=Xa e'->Gp c r e e')->lX c r (.map x k) (.map x' k)
 |iter(s:ByteArray)(p:Nat):lX c r (.stringIter s p) (.stringIter s p)
 |number{a a':XY}(l:Bool):du c r a a'->lX c r (.number a l) (.number a' l)
inductive qg(c:dH)(r:bB)(b:Nat):Option X0->Option X0->Prop
 |seen{x x':Array Xe}(t t':XD)(fr:Nat×Nat):c.seen b->x.size<=c.EY b->x.size<=x'.size->(c.low b=0->t=t')/\(c.low b≠0->t=vW/\c.aJ<=b)->(∀(i:Nat)(v v':Xe),c.low b<=i->x[i]?=Xa v->x'[i]?=Xa v'->ai c r v v')->qg c r b (Xa (.cells x t (0,x.size))) (Xa (.cells x' t' fr))
 |own{o o':X0}:¬c.seen b->lX c r o o'->qg c r b (Xa o) (Xa o')
theorem Gp.mono{c:dH}{r r':bB}(h:r.le r'){e e':X7}(k:Gp c r e e'):Gp c r' e e':=⟨k.key.mono h,k.val.mono h,k.born⟩
theorem lX.mono{c:dH}{r r':bB}(h:r.le r')(k:lX c r o o'):lX c r' o o':=by cases k with|cells t g k=>exact .cells t g (k.mono h)|map k s e=>exact .map k s λi d f a b=>(e i d f a b).mono h|iter s p=>exact .iter s p|number l a=>exact .number l (a.mono h)
theorem qg.mono{c:dH}{r r':bB}(h:r.le r'){o o':Option X0}(k:qg c r b o o'):qg c r' b o o':=by cases k with|seen t g f s l z y e=>exact .seen t g f s l z y λi v j a b d=>(e i v j a b d).mono h|own n k=>exact .own n (k.mono h)
structure cG(c:dH)(r:bB)(w v:Xg):Prop where
 qz:∀b k:Nat,r b=Xa k->b<w.heap.size
 zv:∀b k:Nat,r b=Xa k->k<v.heap.size
 inj:∀b b' k:Nat,r b=Xa k->r b'=Xa k->b=b'\/(c.seen b/\c.seen b')
 qj:∀b:Nat,¬c.seen b->c.low b=0
 hid:∀b:Nat,b<c.aJ->r b=Xl->w.heap[b]?=Xa (.cells #[] 0)
 blk:∀b k:Nat,r b=Xa k->qg c r b w.heap[b]? v.heap[k]?
 tape:v.tape=w.tape
 drawn:v.drawn=w.drawn
 old:∀b:Nat,c.seen b->b<w.heap.size
 aJ:∀b k:Nat,r b=Xa k->b<c.aJ->b=k
 im:c.aJ<=w.heap.size/\c.aJ<=v.heap.size
structure Ext(c:dH)(r:bB)(w v:Xg)(r':bB)(w' v':Xg):Prop where
 rel:cG c r' w' v'
 le:r.le r'
 grow:w.heap.size<=w'.heap.size
 size:v'.heap.size+w.heap.size=v.heap.size+w'.heap.size
 yG:∀b:Nat,b<w.heap.size->r' b=r b
 new:∀b:Nat,w.heap.size<=b->b<w'.heap.size->r' b=Xa (v.heap.size+(b-w.heap.size))
 keep:∀k:Nat,k<v.heap.size->(∀b:Nat,r b=Xa k->c.seen b)->v'.heap[k]?=v.heap[k]?
 os:v'.os=v.os
 out:v'.output=v.output
 tape:v'.tape=v.tape
theorem Ext.refl{c:dH}{r:bB}(h:cG c r w v):Ext c r w v r w v:=⟨h,bB.le_refl r,Us _,by omega,λ_ _=>rfl,λb _ _=>by omega,λ_ _ _=>rfl,rfl,rfl,rfl⟩
theorem Ext.trans{c:dH}{r r1 r2:bB}{w1 v1 w2 v2:Xg}(h:Ext c r w v r1 w1 v1)(k:Ext c r1 w1 v1 r2 w2 v2):Ext c r w v r2 w2 v2:=by have n:=h.size;have o:=k.size;have g:=h.grow;have m:=k.grow;refine⟨k.rel,bB.le_trans h.le k.le,UU g m,by omega,λb a=>(k.yG b (Ut a g)).trans (h.yG b a),λb a f=>?_,λj l i=>?_,k.os.trans h.os,k.out.trans h.out,k.tape.trans h.tape⟩;{rcases U4 b w1.heap.size with e|d;{exact k.le _ _ (h.new b a e)};rw[k.new b d f];grind};rw[k.keep j Ω (λb a=>?_),h.keep j l i];refine i b ?_;rcases U4 b w.heap.size with e|d;{rw[<-h.yG b e];exact a};have:=h.rel.qz b j a;rw[h.new b d this]at a;grind
def q7(c:dH)(r:bB)(e:X3):Prop:=
 (∃b:Nat,(match e.loc with|.cell a=>r b=Xa a.block/\(c.seen b->a.off<c.EY b/\a.spot=Xl)|.obj k=>r b=Xa k/\¬c.seen b|_=>False)/\(e.write=Xd->¬c.seen b)/\e.sync=Ww)\/e.loc=.mark .noRoom\/∃f,e.loc=.mark (.extern f)
theorem q7.mono{c:dH}{r r':bB}(h:r.le r'){e:X3}(x:q7 c r e):q7 c r' e:=by rcases x with⟨b,a,d⟩|x;{refine .inl ⟨b,?_,d⟩;revert a;cases e.loc<;>simp only[imp_self]<;>exactλx=>⟨h _ _ x.1,x.2⟩};exact .inr x
end
section
variable{c:dH}{r:bB}
def Ay:Halt->Bool
 |.unsupported (.initOrder _)=>Ww
 |.panic _|.stuck _|.unsupported _=>Xd
 |_=>Ww
def Out(P:XF)(c:dH)(r:bB)(w v:Xg)(s:XU β)(Q:bB->α->β->Prop):XX α->Prop
 |.ok a w'=>∃b v' r',s.run P v=.ok b v'/\Ext c r w v r' w' v'/\Q r' a b/\∀e∈s.events P v #[],q7 c r' e
 |.halt h _=>Ay h=Xd
def ab(P:XF)(c:dH)(r:bB)(x:XU α)(y:XU β)(Q:bB->α->β->Prop):Prop:=∀w v,cG c r w v->Out P c r w v y Q (x.run P w)
theorem ab.mono{x:XU α}{y:XU β}{Q Q':bB->α->β->Prop}(h:ab P c r x y Q)(k:∀d a b,r.le d->Q d a b->Q' d a b):ab P c r x y Q':=by intro w v l;have:=h w v l;cases f:x.run P w with|halt _ _=>rw[f]at this;exact this|ok a n=>rw[f]at this;obtain⟨b,m,d,g,e,i,j⟩:=this;exact⟨b,m,d,g,e,k _ _ _ e.le i,j⟩
theorem ab.bind{x:XU α}{y:XU β}{f:α->XU γ}{g:β->XU δ}{Q:bB->α->β->Prop}{Q':bB->γ->δ->Prop}(h:ab P c r x y Q)(k:∀l a b,r.le l->Q l a b->ab P c l (f a) (g b) Q'):ab P c r (x>>=f) (y>>=g) Q':=by intro w v t;have i:=h w v t;rw[XU.run_bind];cases p:x.run P w with|halt _ _=>rw[p]at i;exact i|ok a m=>rw[p]at i;obtain⟨b,F,D,s,n,B,A⟩:=i;have j:=k D a b n.le B m F n.rel;show Out P c r w v (y>>=g) Q' ((f a).run P m);cases o:(f a).run P m with|halt _ _=>rw[o]at j;exact j|ok z J=>rw[o]at j;obtain⟨u,G,E,H,q,C,I⟩:=j;refine⟨u,G,E,?_,n.trans q,C,λe d=>?_⟩;{simp_all};rw[XU.events_bind,s,XX.evThen_ok,XU.events_acc]at d;rcases U1.1 d with d|d;{exact(A e d).mono q.le};simp_all
theorem ab.pure{a:α}{b:β}{Q:bB->α->β->Prop}(h:Q r a b):ab P c r (Pure.pure a) (Pure.pure b) Q:=λ_ v f=>⟨b,v,r,rfl,.refl f,h,λe d=>by simp at d⟩
theorem ab.halt{y:XU β}{Q:bB->α->β->Prop}(a:Ay h=Xd:=by rfl):ab P c r (XU.halt h) y Q:=λ_ _ _=>a
theorem ab.stuck{s:String}{y:XU β}{Q:bB->α->β->Prop}:ab P c r (Go.stuck s:XU α) y Q:=λ_ _ _=>rfl
theorem ab.unsupported{u:Unsupported}{y:XU β}{Q:bB->α->β->Prop}(a:Ay (.unsupported u)=Xd:=by rfl):ab P c r (Go.unsupported u:XU α) y Q:=λ_ _ _=>a
theorem ab.never{x:XU α}{y:XU β}{Q:bB->α->β->Prop}(h:∀w,∃k w',x.run P w=.halt k w'/\Ay k=Xd):ab P c r x y Q:=by intro w v _;obtain⟨k,w',e,a⟩:=h w;rw[e];exact a
theorem ab.ite{b:Prop}[Decidable b]{x x':XU α}{y y':XU β}{Q:bB->α->β->Prop}(h:b->ab P c r x y Q)(a:¬b->ab P c r x' y' Q):ab P c r (if b then x else x') (if b then y else y') Q:=by by_cases e:b;{rw[if_pos e,if_pos e];exact h e};rw[if_neg e,if_neg e];exact a e
def bR(P:XF)(q:α->Prop):XU α->Prop
 |.pure a=>q a
 |.choose _ k=>∀n,bR P q (k n)
 |.program k=>bR P q (k P)
 |.mark m k=>m=.noRoom/\bR P q k
 |.halt h=>Ay h=Xd
 |_=>False
abbrev lJ(P:XF):XU α->Prop:=bR P λ_=>True
theorem bR.bind{q:α->Prop}{q':β->Prop}{x:XU α}{f:α->XU β}(h:bR P q x)(k:∀a,q a->bR P q' (f a)):bR P q' (x>>=f):=by induction x with|pure a=>exact k a h|choose _ g b=>exactλn=>b n (h n)|program g b=>exact b P h|mark m g b=>exact⟨h.1,b h.2⟩|halt z=>exact h|load _ _ _ _=>exact h.elim|store _ _ _ _ _=>exact h.elim|new _ _ _=>exact h.elim|shape _ _ _=>exact h.elim|freeze _ _ _ _=>exact h.elim|frozen _ _ _=>exact h.elim|getObj _ _ _=>exact h.elim|setObj _ _ _ _=>exact h.elim|sys _ _ _=>exact h.elim
theorem lJ.bind{q':β->Prop}{x:XU α}{f:α->XU β}(h:lJ P x)(k:∀a,bR P q' (f a)):bR P q' (x>>=f):=bR.bind h λa _=>k a
def QZ(P:XF)(q:α->Prop)(x:XU α)(w v:Xg):Prop:=
 (∃a d,q a/\x.run P w=.ok a {w with drawn:=d}/\x.run P v=.ok a {v with drawn:=d}/\∀e∈x.events P v #[],e.loc=.mark .noRoom)\/∃h w',x.run P w=.halt h w'/\Ay h=Xd
theorem bR.run{q₀:α->Prop}{x:XU α}(h:bR P q₀ x):∀(w v:Xg),v.tape=w.tape->v.drawn=w.drawn->QZ P q₀ x w v:=by induction x with|pure a=>exactλw v _ f=>.inl ⟨a,w.drawn,h,rfl,by rw[<-f];rfl,λe l=>by simp at l⟩|choose q g j=>intro w v i f;have t:∀u:Xg,(XU.choose q g).run P u=if q.forced then(g 0).run P u else(g (q.cut (u.tape u.drawn q))).run P {u with drawn:=u.drawn+1}:=λ_=>rfl;(have y:∀u:Xg,(XU.choose q g).events P u #[]=if q.forced then(g 0).events P u #[]else(g (q.cut (u.tape u.drawn q))).events P {u with drawn:=u.drawn+1} #[]:=λu=>by simp only[XU.events,XU.runT];grind);unfold QZ;simp only[t,y];by_cases s:q.forced=Xd;{simp only[s];exact j 0 (h 0) w v i f};obtain⟨B,F,E,C,D⟩:=v;rcases j (q.cut (w.tape w.drawn q)) (h _) {w with drawn:=w.drawn+1} ⟨B,w.tape,w.drawn+1,C,D⟩ rfl rfl with⟨a,d,n,o,p,A⟩|x;{simp_all};simp_all|program g j=>exactλw v i f=>j P h w v i f|mark m g j=>intro w v i f;rcases j h.2 w v i f with⟨a,d,n,o,p,A⟩|x;{refine .inl ⟨a,d,n,o,p,λe l=>?_⟩;have k:e∈g.events P v (#[].push ⟨.mark m,Ww,Xd⟩):=l;rw[XU.events_acc]at k;rcases U1.1 k with x|x;{simp at x;rw[x,h.1]};simp_all};exact .inr x|halt z=>exactλw _ _ _=>.inr ⟨z,w,rfl,h⟩|load _ _ _ _=>exact h.elim|store _ _ _ _ _=>exact h.elim|new _ _ _=>exact h.elim|shape _ _ _=>exact h.elim|freeze _ _ _ _=>exact h.elim|frozen _ _ _=>exact h.elim|getObj _ _ _=>exact h.elim|setObj _ _ _ _=>exact h.elim|sys _ _ _=>exact h.elim
theorem cG.A8(h:cG c r w v)(d:Nat):cG c r {w with drawn:=d} {v with drawn:=d}:=⟨h.qz,h.zv,h.inj,h.qj,h.hid,h.blk,h.tape,rfl,h.old,h.aJ,h.im⟩
theorem ab.e9{q:α->Prop}{x:XU α}(h:bR P q x):ab P c r x x λ_ a b=>b=a/\q a:=by intro w v f;rcases h.run w v f.tape f.drawn with⟨a,d,g,i,j,l⟩|⟨k,s,e,p⟩;{rw[i];refine⟨a,_,r,j,?_,⟨rfl,g⟩,λe o=>.inr (.inl (l e o))⟩;exact⟨f.A8 d,bB.le_refl r,Us _,rfl,λ_ _=>rfl,λb m n=>absurd n (Nat.not_lt.2 m),λ_ _ _=>rfl,rfl,rfl,rfl⟩};rw[e];exact p
theorem ab.cN{x:XU α}(h:lJ P x):ab P c r x x λ_ a b=>b=a:=(ab.e9 h).mono λ_ _ _ _ h=>h.1
theorem u7(a:α):lJ P (Pure.pure a):=trivial
theorem lA:lJ P program:=trivial
theorem iD(q:X8):lJ P (choose q):=λ_=>trivial
theorem dE(t:XD):lJ P (typeInfo t):=by refine lJ.bind lA λp=>?_;split<;>first|trivial|exact rfl
theorem aD(t:XD):lJ P (underlying t):=by refine lJ.bind lA λp=>?_;split<;>first|trivial|exact rfl
theorem bA(t:XD):lJ P (sizeOf t):=(dE t).bind λ_=>trivial
theorem nZ(t:XD):lJ P (isAgg t):=(aD t).bind λd=>by split<;>first|trivial|exact rfl
theorem pU(n:Nat):lJ P (askRoom n):=by unfold askRoom;split;{exact⟨rfl,trivial⟩};trivial
end
section
variable{c:dH}{r:bB}
theorem cG.at(h:cG c r w v)(b:du c r a a'):qg c r a.block w.heap[a.block]? v.heap[a'.block]?:=h.blk _ _ b.1
theorem cG.cell(h:cG c r w v)(g:du c r a a')(b:w.cell? a=Xa x):∃y,v.cell? a'=Xa y/\ai c r x y:=by have d:=h.at g;obtain⟨_,m,o,i⟩:=g;unfold Xg.cell? at b⊢;generalize q:w.heap[a.block]?=C at d b;generalize p:v.heap[a'.block]?=B at d;cases d with|@seen z D t A j s l u _ e=>grind|own n k=>cases k with|cells t j k=>simp only[o,m]at b⊢;split at b;{cases b};rename_i f;rw[if_neg f];exact k.get b|map _ _ _=>cases b|iter _ _=>cases b|number _ _=>cases b
theorem cG.T6(h:cG c r w v)(g:du c r a a')(_:w.cell? a=Xl)(d:Bool):∃k,w.farLoad P a d=.error k/\Ay k=Xd:=by have f:=h.at g;unfold Xg.farLoad;generalize b:w.heap[a.block]?=p at f;generalize i:v.heap[a'.block]?=o at f;cases f with|seen t m j s l _ _ e=>exact⟨_,rfl,by simp only[Xg.noCell,b];rfl⟩|own n k=>cases k<;>exact⟨_,rfl,by simp only[Xg.noCell,b];rfl⟩
theorem cG.within(h:cG c r w v)(f:du c r a a')(b:w.cell? a=Xa x):c.seen a.block->a'.off<c.EY a.block/\a'.spot=Xl:=by intro u;have d:=h.at f;obtain⟨_,q,i,-⟩:=f;unfold Xg.cell? at b;generalize m:w.heap[a.block]?=A at d b;generalize j:v.heap[a'.block]?=z at d;cases d with|seen t y o s l _ _ e=>simp only at b;split at b;{cases b};have p:=(Uu.1 b).1;exact⟨by omega,by simp_all⟩|own n k=>simp_all
theorem ab.load(d:du c r a a'):ab P c r (load a) (load a') (ai c):=by intro w v f;unfold Go.load;cases b:w.cell? a with|none=>obtain⟨k,e,j⟩:=f.T6 (P:=P) d b (Mode.plain==Mode.atomic);(have:(XU.load .plain a XU.pure).run P w=.halt k w:=by simp only[XU.run,b,e]);rw[this];exact j|some x=>obtain⟨y,i,k⟩:=f.cell d b;(have:(XU.load .plain a XU.pure).run P w=.ok x w:=by simp only[XU.run,b]);rw[this];refine⟨y,v,r,by simp only[XU.run,i],.refl f,k,λe g=>?_⟩;(have h:(XU.load .plain a' XU.pure).events P v #[]=#[⟨.cell a',Ww,Ww⟩]:=by simp only[XU.events,XU.runT,i];rfl);rw[h]at g;simp at g;subst g;exact .inl ⟨a.block,⟨d.1,f.within d b⟩,by simp,rfl⟩
theorem cG.xa(h:cG c r w v)(j:du c r a a')(b:w.cell? a=Xa x)(g:w.frozen? a=Ww):∃(z i:Array Xe)(t:XD)(d:Nat×Nat),¬c.seen a.block/\w.heap[a.block]?=Xa (.cells z t d)/\v.heap[a'.block]?=Xa (.cells i t d)/\aj c r z i/\a.spot.isSome=Ww:=by have f:=h.at j;unfold Xg.cell? at b;unfold Xg.frozen? at g;generalize o:w.heap[a.block]?=u at f b g;generalize m:v.heap[a'.block]?=q at f;cases f with|seen t p d s l _ _ e=>simp_all|own n k=>cases k with|cells t d k=>grind|map _ _ _=>cases b|iter _ _=>cases b|number _ _=>cases b
theorem heap_setCell(w:Xg)(a:XY)(x:Xe):(w.setCell a x).heap.size=w.heap.size:=by simp[Xg.setCell]
theorem lU(w:Xg)(a:XY)(x:Xe)(h:b≠a.block):(w.setCell a x).heap[b]?=w.heap[b]?:=by simp[Xg.setCell,Vi,Ne.symm h]
theorem lP(w:Xg)(x:Xe){z:Array Xe}{fr:Nat×Nat}(h:w.heap[a.block]?=Xa (.cells z t fr))(b:a.spot.isSome=Ww):(w.setCell a x).heap[a.block]?=Xa (.cells (z.setIfInBounds a.off x) t fr):=by simp[Xg.setCell,Vi,h,b]
theorem Ext.QR{w' v':Xg}(h:cG c r w v)(p:r b=Xa k)(q:¬c.seen b)(D:w'.heap[b]?=Xa o)(C:v'.heap[k]?=Xa o')(A:lX c r o o')(f:w'.heap.size=w.heap.size)(i:v'.heap.size=v.heap.size)(m:∀j,j≠b->w'.heap[j]?=w.heap[j]?)(s:∀j,j≠k->v'.heap[j]?=v.heap[j]?)(n:v'.tape=v.tape)(t:w'.tape=w.tape)(u:v'.drawn=w'.drawn)(y:v'.os=v.os)(z:v'.output=v.output):Ext c r w v r w' v':=by refine⟨⟨λj l a=>f▸h.qz j l a,λj l a=>i▸h.zv j l a,h.inj,h.qj,λj a B=>by rw[m j (λe=>by simp_all)];exact h.hid j a B,λj l a=>?_,by rw[n,t,h.tape],u,λj a=>by rw[f];exact h.old j a,h.aJ,by rw[f,i];exact h.im⟩,bB.le_refl r,by omega,by omega,λ_ _=>rfl,λj _ _=>by omega,λl F E=>?_,y,z,n⟩;{by_cases d:j=b;{subst d;rw[p]at a;cases a;rw[D,C];exact .own q A};have g:l≠k:=λe=>d ((h.inj _ _ _ (e▸a) p).resolve_right λx=>q x.2);rw[m j d,s l g];exact h.blk j l a};grind
theorem ai.one(h:ai c r x y):y.oneCell'=x.oneCell':=by cases h<;>rfl
theorem ab.store(b:du c r a a')(q:ai c r x y):ab P c r (store a x) (store a' y) λ_ _ _=>True:=by intro w v f;unfold Go.store;by_cases B:x.oneCell'=Xd;{(have C:y.oneCell'=Xd:=by rw[q.one,B]);(have e:∀(u:Xg)(p:XY)(z:Xe),z.oneCell'=Xd->(XU.store .plain p z (.pure ())).run P u=match u.cell? p with|some _=>if u.frozen? p then .halt (.unsupported (.unsafePointer "a write to bytes that a string shares")) u else .ok () (u.setCell p z)|none=>match u.farStore P p z Ww with|.ok (U,_)=>.ok () U|.error h=>.halt h u:=by intro u p z H;cases z<;>first|(simp[Xe.oneCell']at H;done)|(rfl));rw[e w a x B];cases L:w.cell? a with|none=>have D:=f.at b;(have:∃k,w.farStore P a x Ww=.error k/\Ay k=Xd:=by unfold Xg.farStore;generalize o:w.heap[a.block]?=Y at D;generalize S:v.heap[a'.block]?=X at D;cases D with|seen t W K s l _ _ e=>exact⟨_,rfl,by simp only[Xg.noCell,o];rfl⟩|own n k=>cases k<;>exact⟨_,rfl,by simp only[Xg.noCell,o];rfl⟩);obtain⟨k,N,Q⟩:=this;simp only[N];exact Q|some Z=>simp only;cases A:w.frozen? a with|true=>rfl|false=>obtain⟨z,z',t,K,d,I,J,H,i⟩:=f.xa b L A;obtain⟨y0,T,_⟩:=f.cell b L;(have m:a'.spot.isSome=Ww:=by rw[b.2.2.1];exact i);(have O:v.frozen? a'=Ww:=by unfold Xg.frozen? at A⊢;rw[I]at A;rw[J];simp only[b.2.1];exact A);have g:=H.set a.off q;refine⟨(),v.setCell a' y,r,?_,?_,trivial,λV E=>?_⟩;{simp_all};{refine Ext.QR f b.1 d (lP w x I i) (lP v y J m) ?_ (heap_setCell _ _ _) (heap_setCell _ _ _) (λj G=>lU w a x G) (λj G=>lU v a' y G) rfl rfl f.drawn rfl rfl;rw[b.2.1];exact .cells t K g};(have F:(XU.store .plain a' y (.pure ())).events P v #[]=#[⟨.cell a',Xd,Ww⟩]:=by have:=events_store P v #[] a' y .plain C;unfold Go.store at this;simp_all);rw[F]at E;simp at E;subst E;exact .inl ⟨a.block,⟨b.1,λR=>absurd R d⟩,λ_=>d,rfl⟩};refine ab.never (P:=P) (c:=c) (r:=r) (λu=>?_) w v f;cases x<;>first|(simp[Xe.oneCell']at B;done)|exact⟨_,_,rfl,rfl⟩
def bB.add(r:bB)(b k:Nat):bB:=λj=>if j=b then Xa k else r j
theorem Ext.alloc(h:cG c r w v)(n:lX c r o o'):Ext c r w v (r.add w.heap.size v.heap.size) {w with heap:=w.heap.push o} {v with heap:=v.heap.push o'}:=by have p:=λx=>UJ _ (h.old _ x);(have f:r.le (r.add w.heap.size v.heap.size):=by intro b k a;have:=h.qz b k a;unfold bB.add;grind);refine⟨⟨λb k a=>?_,λb k a=>?_,λb q k a d=>?_,h.qj,λb i a=>?_,λb k a=>?_,h.tape,h.drawn,λb a=>by have:=h.old b a;simp;omega,λb k a i=>?_,by have:=h.im;simp;omega⟩,f,by simp,by simp;omega,λb a=>by unfold bB.add;grind,λb a d=>?_,λk s _=>?_,rfl,rfl,rfl⟩;{unfold bB.add at a;simp;split at a;{omega};have:=h.qz b k a;omega};{unfold bB.add at a;simp;split at a;{simp_all};have:=h.zv b k a;omega};{unfold bB.add at a d;split at a<;>split at d;{omega};{cases a;have:=h.zv _ _ d;omega};{cases d;have:=h.zv _ _ a;omega};exact h.inj _ _ _ a d};{have m:=Ut i h.im.1;unfold bB.add at a;rw[if_neg Ω]at a;rw[U2,if_neg Ω];exact h.hid b i a};{unfold bB.add at a;split at a;{rename_i e;subst e;cases a;simp only[Array.getElem?_push_size];exact .own p (n.mono f)};have j:=h.qz b k a;have l:=h.zv b k a;rw[Xc j,Xc l,<-UB j,<-UB l];exact(h.blk b k a).mono f};{unfold bB.add at a;have:=h.im;split at a;{omega};exact h.aJ b k a i};{unfold bB.add;grind};grind
theorem bB.GJ(r:bB)(b k:Nat):r.add b k b=Xa k:=by unfold bB.add;simp
theorem ab.newObj(f:lX c r o o'):ab P c r (newObj o) (newObj o') λg b d=>g b=Xa d/\c.low b=0:=by intro w v a;refine⟨v.heap.size,_,_,rfl,Ext.alloc a f,⟨bB.GJ _ _ _,a.qj _ λx=>UJ _ (a.old _ x)⟩,λe h=>?_⟩;simp_all
theorem ab.newRow{x x':Array Xe}(h:aj c r x x'):ab P c r (newRow t x) (newRow t x') (du c):=by refine ab.bind (ab.newObj (.cells t (0,0) h)) λe b d _ a=>ab.pure ⟨a.1,rfl,rfl,Vt a.2⟩
theorem ab.newVar(h:ai c r x x'):ab P c r (newVar t x) (newVar t x') (du c):=ab.newRow (aj.cells h)
theorem du.add{a a':XY}(h:du c r a a')(n:Nat):du c r (a.add n) (a'.add n):=by unfold XY.add;split;{exact h};exact⟨h.1,by simp[h.2.1],rfl,UU h.2.2.2 (U7 _ _)⟩
theorem ab.loadCellsFrom(n:Nat):∀{r:bB}{a a':XY}(i:Nat){acc acc':Array Xe},du c r a a'->aj c r acc acc'->ab P c r (loadCellsFrom a i n acc) (loadCellsFrom a' i n acc') (aj c):=by induction n with|zero=>intro r a a' i acc acc' e b;exact ab.pure b|succ n g=>intro r a a' i acc acc' e b;exact ab.bind (ab.load (e.add i)) λh x j d f=>g (i+1) (e.mono d) ((b.mono d).push f)
theorem ab.loadCells(b:du c r a a')(n:Nat):ab P c r (loadCells a n) (loadCells a' n) (aj c):=ab.loadCellsFrom n 0 b .empty
theorem ab.Gs(i:Fits P c){g:Nat}(b:g<c.aJ)(o:Nat):ab P c r (Go.load ⟨g,o,Xl⟩) (Go.load ⟨g,o,Xl⟩) (ai c):=by intro w v f;cases d:r g with|some k=>obtain rfl:=f.aJ g k d b;exact ab.load ⟨d,rfl,rfl,UU (Vt (i.low g b)) (UG _)⟩ w v f|none=>have h:=f.hid g b d;(have e:(Go.load ⟨g,o,Xl⟩).run P w=.halt (.stuck "load: no such cell") w:=by simp[XU.run,Xg.cell?,Xg.farLoad,Xg.noCell,h]);rw[e];exact rfl
theorem ab.tf(f:Fits P c){g:Nat}(h:g<c.aJ)(n:Nat):∀{r:bB}(i:Nat){acc acc':Array Xe},aj c r acc acc'->ab P c r (Go.loadCellsFrom ⟨g,0,Xl⟩ i n acc) (Go.loadCellsFrom ⟨g,0,Xl⟩ i n acc') (aj c):=by induction n with|zero=>intro r i acc acc' a;exact ab.pure a|succ n k=>intro r i acc acc' a;(have e:(⟨g,0,Xl⟩:XY).add i=⟨g,0+i,Xl⟩:=by unfold XY.add;simp_all);unfold Go.loadCellsFrom;rw[e];exact ab.bind (ab.Gs f h _) λl x m b j=>k (i+1) ((a.mono b).push j)
theorem ab.Gy(a:Fits P c){g:Nat}(d:g<c.aJ)(t:XD):ab P c r (Go.loadVar t ⟨g,0,Xl⟩) (Go.loadVar t ⟨g,0,Xl⟩) (ai c):=by refine ab.bind (ab.cN (nZ t)) λp b f k h=>?_;subst h;cases f with|false=>exact ab.Gs a d 0|true=>refine ab.bind (ab.cN (bA t)) λq n o l i=>?_;subst i;exact ab.bind (ab.tf a d _ 0 .empty) λs x u m j=>ab.pure (.sI j)
theorem ab.storeCells:∀{r:bB}{a a':XY}{l l':List Xe}(i:Nat),du c r a a'->aj c r l.toArray l'.toArray->ab P c r (storeCells a l i) (storeCells a' l' i) λ_ _ _=>True|r,a,a',[],[],i,b,h=>ab.pure trivial|r,a,a',[],_::_,i,b,h=>by have:=h.size;grind|r,a,a',_::_,[],i,b,h=>by have:=h.size;grind|r,a,a',x::l,g::l',i,b,h=>by refine ab.bind (ab.store (b.add i) (h.el 0 x g Θ Θ)) λm _ _ d _=>?_;refine ab.storeCells (i+1) (b.mono d) ((⟨?_,λj u f k e=>?_⟩:aj c r l.toArray l'.toArray).mono d);{have:=h.size;simp_all};exact h.el (j+1) u f (by simp_all) (by simp_all)
theorem ab.loadVar(t:XD)(d:du c r a a'):ab P c r (loadVar t a) (loadVar t a') (ai c):=by refine ab.bind (ab.cN (nZ t)) λm g e b h=>?_;subst h;cases e with|false=>exact ab.load (d.mono b)|true=>refine ab.bind (ab.cN (bA t)) λo n l f i=>?_;subst i;exact ab.bind (ab.loadCells ((d.mono b).mono f) _) λp x q k j=>ab.pure (.sI j)
theorem ab.storeVar(t:XD)(j:du c r a a')(h:ai c r x x'):ab P c r (storeVar t a x) (storeVar t a' x') λ_ _ _=>True:=by refine ab.bind (ab.cN (bA t)) λg n d f k=>?_;subst k;have l:=(aj.cells h).size;have b:ab P c g (Go.storeCells a x.cells.toList) (Go.storeCells a' x'.cells.toList) λ_ _ _=>True:=ab.storeCells 0 (j.mono f) (by simpa using(aj.cells h).mono f);rw[<-l];by_cases e:x.cells.size≠d;{rw[if_pos e,if_pos e];exactλ_ _ _=>rfl};rw[if_neg e,if_neg e];exact b
theorem ab.getObj{b':Nat}(D:r b=Xa b'){k:X0->XU α}{k':X0->XU β}{Q:bB->α->β->Prop}(G:∀o o',¬c.seen b->lX c r o o'->(∀x t f,o≠.cells x t f)->ab P c r (k o) (k' o') Q):ab P c r (getObj b>>=k) (getObj b'>>=k') Q:=by intro w v E;have F:=E.blk b b' D;rw[XU.run_bind];(have C:∀(u:Xg)(j:Nat),(Go.getObj j).run P u=match u.heap[j]? with|some (.cells ..)=>.halt (.stuck "getObj: a row of cells") u|some o=>.ok o u|none=>.halt (.stuck "getObj: no such block") u:=by intro u j;unfold Go.getObj;simp only[XU.run];rfl);rw[C];generalize O:w.heap[b]?=U at F;generalize g:v.heap[b']?=T at F;cases F with|seen _ _ _ _ _ _ _ _=>exact rfl|own n N=>rename_i o o';cases N with|cells t S _=>exact rfl|map R L M=>have:=G _ _ n (.map R L M) (λ_ _ _ h=>by cases h) w v E;revert this;show Out P c r w v _ Q ((k _).run P w)->Out P c r w v _ Q ((k _).run P w);(cases(k _).run P w with|halt _ _=>exactλh=>h|ok a J=>rintro⟨q,B,A,H,i,z,I⟩;refine⟨q,B,A,by simp_all,i,z,λe d=>?_⟩;rw[XU.events_bind,C,g]at d;(have y:(Go.getObj b').events P v #[]=#[⟨.obj b',Ww,Ww⟩]:=by simp[Go.getObj,XU.events,XU.runT,g,X0.isChan,-XU.runT_eq]);simp only[XX.evThen_ok]at d;rw[XU.events_acc,y]at d;rcases U1.1 d with d|d;{simp at d;subst d;exact .inl ⟨b,⟨i.le _ _ D,n⟩,by simp,rfl⟩};simp_all)|iter s p=>have:=G _ _ n (.iter s p) (λ_ _ _ h=>by cases h) w v E;revert this;show Out P c r w v _ Q ((k _).run P w)->Out P c r w v _ Q ((k _).run P w);(cases(k _).run P w with|halt _ _=>exactλh=>h|ok a J=>rintro⟨q,B,A,H,i,z,I⟩;refine⟨q,B,A,by simp_all,i,z,λe d=>?_⟩;rw[XU.events_bind,C,g]at d;(have y:(Go.getObj b').events P v #[]=#[⟨.obj b',Ww,Ww⟩]:=by simp[Go.getObj,XU.events,XU.runT,g,X0.isChan,-XU.runT_eq]);simp only[XX.evThen_ok]at d;rw[XU.events_acc,y]at d;rcases U1.1 d with d|d;{simp at d;subst d;exact .inl ⟨b,⟨i.le _ _ D,n⟩,by simp,rfl⟩};simp_all)|number l K=>have:=G _ _ n (.number l K) (λ_ _ _ h=>by cases h) w v E;revert this;show Out P c r w v _ Q ((k _).run P w)->Out P c r w v _ Q ((k _).run P w);cases(k _).run P w with|halt _ _=>exactλh=>h|ok a J=>rintro⟨q,B,A,H,i,z,I⟩;refine⟨q,B,A,by simp_all,i,z,λe d=>?_⟩;rw[XU.events_bind,C,g]at d;(have y:(Go.getObj b').events P v #[]=#[⟨.obj b',Ww,Ww⟩]:=by simp[Go.getObj,XU.events,XU.runT,g,X0.isChan,-XU.runT_eq]);simp only[XX.evThen_ok]at d;rw[XU.events_acc,y]at d;rcases U1.1 d with d|d;{simp at d;subst d;exact .inl ⟨b,⟨i.le _ _ D,n⟩,by simp,rfl⟩};simp_all
theorem ab.setObj{b':Nat}(i:r b=Xa b')(z:¬c.seen b)(A:lX c r o o')(I:o.isChan=Ww):ab P c r (setObj b o) (setObj b' o') λ_ _ _=>True:=by intro w v k;have m:=k.blk b b' i;(have C:∀(u:Xg)(j:Nat)(o:X0),(Go.setObj j o).run P u=match u.heap[j]? with|some (.cells ..)=>.halt (.stuck "setObj: a row of cells") u|some _=>.ok () {u with heap:=u.heap.setIfInBounds j o}|none=>.halt (.stuck "setObj: no such block") u:=by intro u j o;rfl);rw[C];have n:=k.qz b b' i;have y:=k.zv b b' i;(have E:o'.isChan=Ww:=by cases A<;>rfl);generalize H:w.heap[b]?=K at m;generalize g:v.heap[b']?=J at m;(have d:∀q,v.heap[b']?=Xa q->(∀x t f,q≠.cells x t f)->q.isChan=Ww->Out P c r w v (Go.setObj b' o') (λ_ _ _=>True) (.ok () {w with heap:=w.heap.setIfInBounds b o}):=by intro q F G B;refine⟨(),{v with heap:=v.heap.setIfInBounds b' o'},r,?_,?_,trivial,λe p=>?_⟩;{simp_all};{exact Ext.QR k i z (by simp[n]) (by simp[y]) A Θ Θ (λj s=>UW (Ne.symm s)) (λj s=>UW (Ne.symm s)) rfl rfl k.drawn rfl rfl};(have D:(Go.setObj b' o').events P v #[]=#[⟨.obj b',Xd,Ww⟩]:=by unfold Go.setObj;simp only[XU.events,XU.runT,F];simp_all);rw[D]at p;simp at p;subst p;exact .inl ⟨b,⟨i,z⟩,λ_=>z,rfl⟩);cases m with|seen _ _ _ x _ _ _ _=>rfl|own _ h=>cases h with|cells _ _ _=>exact rfl|map _ _ _=>exact d _ g (λ_ _ _ h=>by cases h) rfl|iter _ _=>exact d _ g (λ_ _ _ h=>by cases h) rfl|number _ _=>exact d _ g (λ_ _ _ h=>by cases h) rfl
end
section
variable{c:dH}{r:bB}
def Flat(v:Xe):Prop:=∀(c:dH)(r:bB),ai c r v v
theorem Flat.int(k:XA)(n:Int):Flat (.int k n):=λ_ _=>.int k n
theorem Flat.bool(b:Bool):Flat (.bool b):=λ_ _=>.bool b
theorem Flat.string(s:ByteArray):Flat (.string s):=λ_ _=>.string s
def jO:Nat->Xe->Bool
 |0,_=>Ww
 |_+1,.bool _|_+1,.int _ _|_+1,.string _|_+1,.pointer Xl|_+1,.slice Xl _ _|_+1,.map Xl|_+1,.nilFunc|_+1,.nilIface=>Xd
 |n+1,.agg x|n+1,.tuple x=>x.all (jO n)
 |_,_=>Ww
theorem iB:∀{n:Nat}{v:Xe},jO n v=Xd->Flat v|0,_,h=>by simp[jO]at h|n+1,v,h=>by intro c r;cases v with|bool b=>exact .bool b|int k n=>exact .int k n|float _ _=>simp[jO]at h|complex _ _ _=>simp[jO]at h|string s=>exact .string s|pointer a=>(cases a with|none=>exact .gi|some _=>simp[jO]at h)|slice a n m=>(cases a with|none=>exact .gC n m|some _=>simp[jO]at h)|map a=>(cases a with|none=>exact .k6|some _=>simp[jO]at h)|chan _=>simp[jO]at h|func _ _ _=>simp[jO]at h|nilFunc=>exact .nilFunc|iface _ _=>simp[jO]at h|nilIface=>exact .nilIface|agg x=>simp only[jO,Array.all_eq_true]at h;refine .agg rfl λi v f a b=>?_;rw[a]at b;cases b;obtain⟨e,rfl⟩:=Uu.1 a;exact iB (h i e) c r|tuple x=>simp only[jO,Array.all_eq_true]at h;refine .tuple rfl λi v f a b=>?_;rw[a]at b;cases b;obtain⟨e,rfl⟩:=Uu.1 a;exact iB (h i e) c r
theorem ab.flat{x:XU Xe}(h:bR P Flat x):ab P c r x x (ai c):=(ab.e9 h).mono λd a b _⟨e,h⟩=>by subst e;exact h c d
theorem bO:bR P (λp=>p=P) program:=rfl
theorem j0(t:XD):bR P (λi=>P.info? t=Xa i) (typeInfo t):=by refine bR.bind bO λp a=>?_;subst a;cases h:p.info? t with|none=>exact rfl|some i=>exact rfl
theorem sP(t:XD)(a:∀z,(P.info? t).bind (·.zero)=Xa z->Flat z):bR P Flat (zeroValue t):=by refine bR.bind (j0 t) λi b=>?_;cases h:i.zero with|none=>exact rfl|some v=>exact a v (by grind)
theorem nH(a:BinOp)(k:XA)(x y:Int):bR P Flat (Op.intArith a k x y):=by unfold Op.intArith;split<;>first|exact .int _ _|exact rfl
theorem zQ(a:BinOp)(k:XA)(x y:Int):bR P Flat (Op.intDiv a k x y):=by unfold Op.intDiv;split;{rfl};split<;>first|exact .int _ _|exact rfl
theorem oI(a:BinOp)(k:XA)(x y:Int):bR P Flat (Op.intBits a k x y):=by unfold Op.intBits;split<;>first|exact .int _ _|exact rfl
theorem yt(a:BinOp)(x y:Int):bR P Flat (Op.intCmp a x y):=by unfold Op.intCmp;split<;>first|exact .bool _|exact rfl
theorem sV(a:BinOp)(k b:XA)(x y:Int):bR P Flat (Op.shift a k x b y):=by unfold Op.shift;split;{rfl};split<;>first|exact .int _ _|exact rfl
theorem kF(a:BinOp)(x y:ByteArray):bR P Flat (Op.stringOp a x y):=by unfold Op.stringOp;split<;>first|exact .bool _|exact rfl|(split<;>first|exact .string _|exact rfl)
theorem j3{q:α->Prop}(s:String):bR P q (Go.stuck s):=rfl
theorem oP{q:α->Prop}{b:Prop}[Decidable b]{x y:XU α}(a:bR P q x)(d:bR P q y):bR P q (if b then x else y):=by grind
theorem mq(d:BinOp)(t:XD)(k j:XA)(a b:Int):bR P Flat (binOp d t (.int k a) (.int j b)):=by cases d<;>first|exact sV .shl k j a b|exact sV .shr k j a b|exact oP (j3 _) (nH _ _ _ _)|exact oP (j3 _) (zQ _ _ _ _)|exact oP (j3 _) (oI _ _ _ _)|exact oP (j3 _) (yt _ _ _)
theorem km(d:BinOp)(t:XD)(a b:ByteArray):bR P Flat (binOp d t (.string a) (.string b)):=by(have:binOp d t (.string a) (.string b)=Op.stringOp d a b:=by cases d<;>rfl);rw[this];exact kF _ _ _
theorem ab.asBool(h:ai c r x x'):ab P c r (asBool x) (asBool x') λ_ a b=>b=a:=by cases h<;>first|exact ab.pure rfl|exact ab.stuck
theorem ab.asIntOf(h:ai c r x x'):ab P c r (asIntOf x) (asIntOf x') λ_ a b=>b=a:=by cases h<;>first|exact ab.pure rfl|exact ab.stuck|exact ab.unsupported
theorem ab.asInt(h:ai c r x x'):ab P c r (asInt x) (asInt x') λ_ a b=>b=a:=ab.bind (ab.asIntOf h) λ_ a b _ e=>ab.pure (by rw[e])
theorem ab.asAgg(h:ai c r x x'):ab P c r (asAgg x) (asAgg x') (aj c):=by cases h with|agg a b=>exact ab.pure ⟨a,b⟩|_=>exact ab.stuck
def gk(P:XF)(x:XU α):Prop:=∀w h w',x.run P w=.halt h w'->Ay h=Xd
def kV(P:XF)(x:XU α):Prop:=∀w,∃k w',x.run P w=.halt k w'/\Ay k=Xd
theorem bR.zT{q:α->Prop}{x:XU α}(h:bR P q x):gk P x:=by intro w k j e;rcases h.run w w rfl rfl with⟨a,d,_,b,_⟩|⟨i,f,b,g⟩;{simp_all};simp_all
theorem gk.bind{x:XU α}{f:α->XU β}(d:gk P x)(h:∀a,gk P (f a)):gk P (x>>=f):=by intro w k j e;rw[XU.run_bind]at e;cases b:x.run P w with|halt i g=>rw[b]at e;cases e;exact d _ _ _ b|ok a g=>rw[b]at e;exact h a _ _ _ e
theorem dY{x:XU α}{f:α->XU β}(e:gk P x)(h:∀a,kV P (f a)):kV P (x>>=f):=by intro w;rw[XU.run_bind];cases d:x.run P w with|halt k b=>exact⟨k,b,rfl,e _ _ _ d⟩|ok a b=>exact h a b
theorem gG{x:XU α}{f:α->XU β}(h:kV P x):kV P (x>>=f):=by intro w;obtain⟨k,b,e,a⟩:=h w;simp_all
theorem eX(a:Ay h=Xd:=by rfl):kV P (XU.halt h:XU α):=λw=>⟨h,w,rfl,a⟩
theorem qZ(o:X0):gk P (newObj o):=λ_ _ _ e=>by cases e
theorem dL(a:α):gk P (Pure.pure a:XU α):=λ_ _ _ e=>by cases e
theorem AG(b:Nat):gk P (shape b):=λ_ _ _ e=>by cases e
theorem zi(a:XY):gk P (frozen a):=λ_ _ _ e=>by cases e
theorem qI(t:XD):lJ P (elemOf t):=(aD t).bind λd=>by cases d<;>first|trivial|exact rfl
theorem dV(e:RuntimeError):kV P (runtimePanic e:XU α):=by refine dY lA.zT λp=>?_;cases e with|typeAssertion i q a m=>exact dY (qI _).zT λz=>dY ((qZ _).bind λ_=>dL _) λ_=>eX|panicNil=>exact dY (qI _).zT λz=>dY ((qZ _).bind λ_=>dL _) λ_=>eX|_=>exact eX
theorem ab.runtimePanic{y:XU β}{Q:bB->α->β->Prop}:ab P c r (Go.runtimePanic e:XU α) y Q:=ab.never (dV e)
theorem pg(k:XA)(x y:Int)(a:BoundsCode):kV P (boundsPanic k x y a:XU α):=by unfold boundsPanic;split;{exact dY ((iD _).bind λ_=>u7 _).zT λ_=>dV _};exact dY (u7 _).zT λ_=>dV _
theorem ab.boundsPanic{k:XA}{n m:Int}{code:BoundsCode}{y:XU β}{Q:bB->α->β->Prop}:ab P c r (Go.boundsPanic k n m code:XU α) y Q:=ab.never (pg k n m code)
theorem ab.sureAddr(h:ai c r x x'):ab P c r (Instr.sureAddr x) (Instr.sureAddr x') (du c):=by cases h with|ptr h=>exact ab.pure h|_=>exact ab.stuck
theorem ab.asAddr(h:ai c r x x'):ab P c r (asAddr x) (asAddr x') (du c):=by cases h with|ptr h=>exact ab.pure h|gi=>exact ab.runtimePanic (e:=.nilDeref)|_=>exact ab.stuck
theorem ab.part(t:XD)(off:Nat){x x':Array Xe}(h:aj c r x x'):ab P c r (part t x off) (part t x' off) (ai c):=by refine ab.bind (ab.cN (nZ t)) λm g f a j=>?_;subst j;cases f with|true=>exact ab.bind (ab.cN (bA t)) λp n o i l=>by subst l;exact ab.pure (.sI (((h.mono a).mono i).extract _ _))|false=>cases e:x[off]? with|none=>exact ab.stuck|some v=>obtain⟨q,d,k⟩:=(h.mono a).get e;rw[d];exact ab.pure k
theorem Ex(t:XD)(d:∀z,(P.info? t).bind (·.zero)=Xa z->Flat z):ab P c r (Instr.alloc t Xd (.tuple #[])) (Instr.alloc t Xd (.tuple #[])) (ai c):=by refine ab.bind (ab.flat (sP t d)) λg z j f d=>?_;exact ab.bind (ab.newVar d) λi a e _ h=>ab.pure (.ptr h)
theorem Ly(t:XD)(h:ai c r x x'):ab P c r (Instr.box t x) (Instr.box t x') (ai c):=ab.bind (ab.newVar h) λe a d _ h=>ab.pure (.ptr h)
theorem yR(d:Nat->Option (Nat×Nat)):∀(l q:List (Nat×Xe)){z z':Array Xe},aj c r z z'->l.map (·.1)=q.map (·.1)->aj c r (l.map (·.2)).toArray (q.map (·.2)).toArray->
 match Instr.fill d z l with|some y=>∃I,Instr.fill d z' q=Xa I/\aj c r y I|none=>True
 |[],[],z,z',h,_,_=>⟨z',rfl,h⟩
 |[],_::_,_,_,_,e,_=>by simp at e
 |_::_,[],_,_,_,e,_=>by simp at e
 |(i,v)::l,(O,t)::q,z,z',h,e,w=>by
   simp only[U5,Vu]at e
   obtain⟨rfl,e⟩:=e
   have F:ai c r v t:=w.el 0 v t Θ Θ
   have A:aj c r (l.map (·.2)).toArray (q.map (·.2)).toArray:=⟨by have:=w.size;simp_all,λj u E a b=>w.el (j+1) u E (by grind) (by grind)⟩
   have M:=(aj.cells F).size
   have C:=h.size
   unfold Instr.fill
   cases d i with
   |none=>trivial
   |some p=>
     obtain⟨k,H⟩:=p
     simp only[<-M,<-C]
     split
     · rename_i y G
       split at G
       ·cases G
       · rename_i L
         rw[if_neg L]
         have D:∀(s f:List (Xe×Nat))(z z':Array Xe),aj c r z z'->s.map (·.2)=f.map (·.2)->aj c r (s.map (·.1)).toArray (f.map (·.1)).toArray->
          aj c r (s.foldl (λm(x:Xe×Nat)=>m.setIfInBounds (k+x.2) x.1) z) (f.foldl (λm(x:Xe×Nat)=>m.setIfInBounds (k+x.2) x.1) z'):=by
          intro s
          induction s with
          |nil=>simp_all
          |cons p s N=>intro f z z' C e B;cases f with
            |nil=>simp at e
            |cons Q f=>
              simp only[U5,Vu]at e
              rw[Vy,Vy,<-e.1]
              exact N f _ _ (C.set _ (B.el 0 _ _ Θ Θ)) e.2 ⟨by have:=B.size;simp_all,λj u E a b=>B.el (j+1) u E (by grind) (by grind)⟩
         have n:aj c r (v.cells.zipIdx.foldl (λm(x:Xe×Nat)=>m.setIfInBounds (k+x.2) x.1) z) (t.cells.zipIdx.foldl (λm(x:Xe×Nat)=>m.setIfInBounds (k+x.2) x.1) z'):=by
          rw[<-Array.foldl_toList,<-Array.foldl_toList]
          refine D _ _ _ _ h ?_ ?_
          ·simp_all
          · have J:(v.cells.zipIdx.toList.map (·.1)).toArray=v.cells:=by simp
            have K:(t.cells.zipIdx.toList.map (·.1)).toArray=t.cells:=by simp
            rw[J,K];exact aj.cells F
         have:=yR d l q n e A
         simp_all
     ·trivial
end
section
variable{c:dH}{r:bB}
inductive tz(c:dH)(b:Nat):Option (XD×Nat)->Option (XD×Nat)->Prop
 |none:tz c b Xl Xl
 |some(t:XD){n m:Nat}:n<=m->c.low b=0->tz c b (Xa (t,n)) (Xa (t,m))
 |bad(t':XD){n m:Nat}:c.low b≠0->c.aJ<=b->tz c b (Xa (vW,n)) (Xa (t',m))
theorem tz.isSome{s s':Option (XD×Nat)}(h:tz c b s s'):s.isSome=s'.isSome:=by cases h<;>rfl
theorem qA{p:XF}{d:Nat}{e:XD}{m off:Nat}{bs:Int}{o:Nat}(h:n<=m)(a:cellAtBytes p d e n off bs=Xa o):cellAtBytes p d e m off bs=Xa o:=by unfold cellAtBytes at a⊢;simp only[]at a⊢;split at a;{cases a};rename_i f;rw[if_neg f];simp only[Option.bind_eq_bind]at a⊢;cases i:byteOfCell p d e (off%p.cellsOf e)with|none=>simp_all|some b=>rw[i]at a;simp only[Vm]at a⊢;split at a;{cases a};rename_i g;rw[if_neg ?_];{exact a};simp only[Vz,decide_eq_true_eq,Int.ofNat_eq_natCast]at g⊢;have:n*p.bytesOf e<=m*p.bytesOf e:=Wy _ h;omega
theorem cG.shape(h:cG c r w v)(g:r b=Xa k):tz c b (w.shape? b) (v.shape? k):=by have d:=h.blk b k g;unfold Xg.shape?;generalize w.heap[b]?=p at d;generalize v.heap[k]?=o at d;cases d with|@seen x q t m f s l z y e=>by_cases a:c.low b=0;{obtain rfl:=y.1 a;exact .some t z a};obtain⟨rfl,i⟩:=y.2 a;exact .bad m a i|own n j=>cases j with|cells t f k=>exact .some t (by simp[k.size]) (h.qj b n)|_=>exact .none
theorem ab.shape(d:r b=Xa k):ab P c r (shape b) (shape k) λ_ x y=>tz c b x y:=by intro w v a;exact⟨v.shape? k,v,r,rfl,.refl a,a.shape d,λe f=>by simp_all⟩
theorem ab.viewAt(f:r b=Xa k):ab P c r (viewAt b) (viewAt k) λ_ x y=>x=Xl/\y=Xl:=by refine ab.bind (ab.shape f) λg s d h l=>?_;have a:=l.isSome;by_cases e:d.isSome=Xd;{rw[a,if_pos e,if_pos e];exact ab.pure ⟨rfl,rfl⟩};rw[a,if_neg e,if_neg e];refine ab.getObj (h _ _ f) λo n _ j i=>?_;cases j with|cells t m _=>exact absurd rfl (i _ _ _)|_=>exact ab.pure ⟨rfl,rfl⟩
theorem ab.noView(d:du c r a a'):ab P c r (noView a) (noView a') λ_ _ _=>True:=by refine ab.bind (ab.viewAt d.1) λf s g e b=>?_;rw[b.1,b.2];exact ab.pure trivial
def N8(c:dH)(r:bB):Option (XY×Bool)->Option (XY×Bool)->Prop
 |none,Xl=>True
 |some (a,l),Xa (a',l')=>du c r a a'/\l'=l
 |_,_=>False
theorem ab.numberAt(f:r b=Xa k):ab P c r (numberAt b) (numberAt k) (N8 c):=by refine ab.bind (ab.shape f) λn s g h m=>?_;have d:=m.isSome;rw[d];by_cases e:g.isSome=Xd;{rw[if_pos e,if_pos e];exact ab.pure trivial};rw[if_neg e,if_neg e];refine ab.getObj (h _ _ f) λo q _ j i=>?_;cases j with|cells t p _=>exact absurd rfl (i _ _ _)|number l a=>exact ab.pure ⟨a,rfl⟩|_=>exact ab.pure trivial
theorem ab.behindNumber(d:du c r a a'):ab P c r (behindNumber a) (behindNumber a') λf x y=>du c f x.1 y.1/\y.2=x.2:=by refine ab.bind (ab.numberAt d.1) λi s g e b=>ab.pure ?_;match s,g,b with|none,Xl,_=>exact⟨d.mono e,rfl⟩|some (x,l),Xa (j,h),b=>exact b
theorem ab.asNumber(b:du c r a a')(l:Bool):ab P c r (asNumber a l) (asNumber a' l) (ai c):=ab.bind (ab.newObj (.number l b)) λ_ _ _ _ h=>ab.pure (.ptr ⟨h.1,rfl,rfl,Vt h.2⟩)
theorem ab.byteOf(b:du c r a a')(g:c.low a.block=0\/a.block<c.aJ):ab P c r (byteOf a) (byteOf a') λ_ x y=>y=x:=by have e:=b.2.2.1;unfold Go.byteOf;rw[e];cases a.spot with|some s=>exact ab.pure rfl|none=>refine ab.bind (ab.e9 bO) λn p m d i=>?_;obtain⟨rfl,rfl⟩:=i;refine ab.bind (ab.noView (b.mono d)) λo _ _ f _=>?_;refine ab.bind (ab.shape ((b.mono d).mono f).1) λq s t l e=>?_;rw[b.2.1];cases e with|none=>exact ab.stuck|bad x k d=>exact absurd g Ω|some x h=>refine ab.cN ?_;simp only[];split;{trivial};split<;>first|trivial|exact rfl
theorem ab.unsafeAdd(z:Fits P c)(h:ai c r x x')(k:ai c r y y'):ab P c r (XQ.unsafeAdd_ #[] t #[x,y]) (XQ.unsafeAdd_ #[] t #[x',y']) (ai c):=by(have f:∀{a j:Option XY},ai c r (.pointer a) (.pointer j)->ab P c r (XQ.unsafeAdd_ #[] t #[.pointer a,y]) (XQ.unsafeAdd_ #[] t #[.pointer j,y']) (ai c):=by intro a j h;refine ab.bind (ab.asInt k) λF n E v A=>?_;subst A;have h:=h.mono v;simp only[];split;{cases h with|gi=>exact ab.unsupported|ptr b=>refine ab.bind (ab.viewAt b.1) λB s D l g=>?_;rw[g.1,g.2];exact ab.pure (.ptr (b.mono l))};split;{exact ab.unsupported};cases h with|gi=>exact ab.unsupported|ptr b=>refine ab.bind (ab.shape b.1) λB s D l g=>?_;cases g with|none=>exact ab.unsupported|bad x u v=>refine ab.bind (ab.e9 bO) λC p i w o=>?_;obtain⟨rfl,rfl⟩:=o;(have:i.cellsOf vW=0:=by unfold XF.cellsOf;rw[z.bad];rfl);(have:∀n d q,cellAtBytes i i.depth vW n d q=Xl:=λn d q=>by unfold cellAtBytes;simp[this]);simp only[this];exact ab.unsupported|some x m u=>refine ab.bind (ab.e9 bO) λC p i w o=>?_;obtain⟨rfl,rfl⟩:=o;rw[b.2.1];split;{rename_i d e;rw[qA (Nat.div_le_div_right m) e];exact ab.pure (.ptr ⟨((b.mono l).mono w).1,rfl,b.2.2.1,UU (Vt u) (UG _)⟩)};exact ab.unsupported);cases h with|gi=>exact f .gi|ptr b=>exact f (.ptr b)|_=>exact ab.stuck
theorem ab.movedNumber(g:Fits P c)(h:ai c r x x')(k:ai c r y y'):ab P c r (movedNumber t x y) (movedNumber t x' y') (ai c):=by refine ab.bind (ab.cN (aD t)) λH d E p w=>?_;subst w;have h:=h.mono p;have k:=k.mono p;refine ab.ite (λ_ _ _ _=>rfl) λ_=>?_;cases h with|ptr u=>refine ab.bind (ab.behindNumber u) λI a i q A=>?_;obtain⟨j,o⟩:=A;obtain⟨a,l⟩:=a;subst o;refine ab.bind (ab.unsafeAdd g (.ptr j) (k.mono q)) λJ z K F B=>?_;(cases B with|ptr v=>exact ab.asNumber v _|gi=>exact ab.pure .gi|bool b=>exact ab.pure (.bool b)|int k n=>exact ab.pure (.int k n)|string s=>exact ab.pure (.string s)|gC n m=>exact ab.pure (.gC n m)|slice n m a=>exact ab.pure (.slice n m a)|cE a i=>exact ab.pure (.cE a i)|k6=>exact ab.pure .k6|map a=>exact ab.pure (.map a)|func a b d e f=>exact ab.pure (.func a b d e f)|nilFunc=>exact ab.pure .nilFunc|nilIface=>exact ab.pure .nilIface|iface t a=>exact ab.pure (.iface t a)|agg a b=>exact ab.pure (.agg a b)|tuple a b=>exact ab.pure (.tuple a b))|gi=>exact ab.unsafeAdd g .gi k|bool b=>exact ab.unsafeAdd g (.bool b) k|int C n=>exact ab.unsafeAdd g (.int C n) k|string s=>exact ab.unsafeAdd g (.string s) k|gC n m=>exact ab.unsafeAdd g (.gC n m) k|slice n m a=>exact ab.unsafeAdd g (.slice n m a) k|cE a i=>exact ab.unsafeAdd g (.cE a i) k|k6=>exact ab.unsafeAdd g .k6 k|map a=>exact ab.unsafeAdd g (.map a) k|func a b d e f=>exact ab.unsafeAdd g (.func a b d e f) k|nilFunc=>exact ab.unsafeAdd g .nilFunc k|nilIface=>exact ab.unsafeAdd g .nilIface k|iface t a=>exact ab.unsafeAdd g (.iface t a) k|agg a b=>exact ab.unsafeAdd g (.agg a b) k|tuple a b=>exact ab.unsafeAdd g (.tuple a b) k
theorem ab.movedPointer(g:Fits P c)(h:ai c r x x')(k:ai c r y y'):ab P c r (movedPointer t x y) (movedPointer t x' y') (ai c):=by unfold Go.movedPointer;cases h with|ptr j=>refine ab.bind (ab.numberAt j.1) λv s q i o=>?_;(match s,q,o with|none,Xl,_=>exact ab.unsafeAdd (t:=t) g (.ptr (j.mono i)) (k.mono i)|some _,Xa _,_=>exactλ_ _ _=>rfl)|gi=>exact ab.unsafeAdd g .gi k|bool b=>exact ab.unsafeAdd g (.bool b) k|int p n=>exact ab.unsafeAdd g (.int p n) k|string s=>exact ab.unsafeAdd g (.string s) k|gC n m=>exact ab.unsafeAdd g (.gC n m) k|slice n m a=>exact ab.unsafeAdd g (.slice n m a) k|cE a l=>exact ab.unsafeAdd g (.cE a l) k|k6=>exact ab.unsafeAdd g .k6 k|map a=>exact ab.unsafeAdd g (.map a) k|func a b d e f=>exact ab.unsafeAdd g (.func a b d e f) k|nilFunc=>exact ab.unsafeAdd g .nilFunc k|nilIface=>exact ab.unsafeAdd g .nilIface k|iface t a=>exact ab.unsafeAdd g (.iface t a) k|agg a b=>exact ab.unsafeAdd g (.agg a b) k|tuple a b=>exact ab.unsafeAdd g (.tuple a b) k
theorem ab.known{x:XU α}{y:XU β}{Q:bB->α->β->Prop}(h:(∀(i k:Nat),r i=Xa k->i<c.aJ->i=k)->(∀(i j k:Nat),r i=Xa k->r j=Xa k->i=j\/(c.seen i/\c.seen j))->ab P c r x y Q):ab P c r x y Q:=λw v a=>h a.aJ a.inj w v a
theorem uS{b:XY}(d:du c r a a')(f:du c r b b')(e:a.block=b.block):a'.block=b'.block:=by have h:=f.1;rw[<-e,d.1]at h;simp_all
theorem vi(d:∀(i k:Nat),r i=Xa k->i<c.aJ->i=k)(b:du c r a a')(h:a.block<c.aJ):a'.block<c.aJ:=by have:=d _ _ b.1 h;omega
theorem ab.twoPlaces{b:XY}(k:Fits P c)(f:du c r a a')(j:du c r b b'):ab P c r (Op.twoPlaces a b) (Op.twoPlaces a' b') λ_ x y=>y=x:=by refine ab.known λu A=>?_;refine ab.bind (ab.e9 bO) λB p h i t=>?_;obtain⟨rfl,rfl⟩:=t;by_cases d:a.block=b.block;(case neg=>have m:=bne_iff_ne.2 d;rw[m];exactλ_ _ _=>rfl);(have n:(a'.block !=b'.block)=(a.block !=b.block):=by simp[d,uS f j d]);by_cases e:a.block<c.aJ;(case neg=>(have q:decide (a.block>=h.globals.size)=Xd:=by rw[decide_eq_true_eq,<-k.aJ];omega);rw[q,VI];exactλ_ _ _=>rfl);(have o:decide (a'.block>=h.globals.size)=decide (a.block>=h.globals.size):=by rw[decide_eq_decide,<-k.aJ];have:=vi u f e;omega);rw[n,o];refine ab.ite (λ_ _ _ _=>rfl) λ_=>?_;exact ab.bind (ab.byteOf (f.mono i) (.inr e)) λC x E s v=>ab.bind (ab.byteOf ((j.mono i).mono s) (.inr (d▸e))) λD y F z w=>ab.pure (by rw[v,w])
theorem ab.addrMod(h:Fits P c){k:XA}{n:Int}(f:du c r a a'):ab P c r (Op.addrMod k a n) (Op.addrMod k a' n) (ai c):=by refine ab.bind (ab.shape f.1) λt s y d m=>?_;cases m with|none=>exact ab.unsupported|bad x b d=>refine ab.never (gG λw=>?_);(have e:∃s,(typeInfo vW).run P w=.halt (.stuck s) w:=by unfold typeInfo;rw[XU.run_bind];simp only[program,XU.run,XX.andThen,h.bad];simp);obtain⟨s,e⟩:=e;exact⟨_,w,e,rfl⟩|some x l b=>refine ab.bind (ab.cN (dE _)) λu i q g j=>?_;subst j;refine ab.ite (λ_ _ _ _=>rfl) λ_=>?_;exact ab.bind (ab.byteOf ((f.mono d).mono g) (.inl b)) λv z A p o=>by subst o;exact ab.pure (.int _ _)
theorem ab.addrCmp{b:XY}(f:Fits P c)(d:du c r a a')(e:du c r b b'):ab P c r (Op.addrCmp op a b) (Op.addrCmp op a' b') (ai c):=by refine ab.bind (ab.twoPlaces f d e) λj s h i g=>?_;subst g;cases op<;>first|exact ab.pure (.bool _)|exact ab.unsupported
theorem ab.addrSub{k:XA}{b:XY}(f:Fits P c)(d:du c r a a')(e:du c r b b'):ab P c r (Op.addrSub k a b) (Op.addrSub k a' b') (ai c):=by refine ab.bind (ab.twoPlaces f d e) λi s j h g=>?_;subst g;exact ab.pure (.int _ _)
def Mr(P:XF)(t:XD):Bool:=match(P.info? t).map (λi:TypeInfo=>i.desc)with|some (.named "sync.copyChecker" _)=>Ww|_=>Xd
def fp(P:XF)(t:XD):Bool:=match P.underlying t with|some (.int _)=>Mr P t|some .string|some .bool=>Xd|_=>Ww
theorem zm{q:α->Prop}{x:XU α}{f:α->XU β}(g:bR P q x)(h:∀a,q a->kV P (f a)):kV P (x>>=f):=by intro w;rw[XU.run_bind];rcases g.run w w rfl rfl with⟨a,d,e,b,_⟩|⟨k,j,b,i⟩;{rw[b];exact h a e _};simp_all
theorem ab.equal(H:Fits P c)(j:fp P t=Xd)(h:ai c r x x')(k:ai c r y y'):ab P c r (Op.equal t x y) (Op.equal t x' y') λ_ a b=>b=a:=by show ab P c r (Op.equalIn (9999+1) t x y) (Op.equalIn (9999+1) t x' y') _;generalize(9999:Nat)=d;unfold Op.equalIn;refine ab.bind (ab.e9 (x:=underlying t) (q:=λd=>P.underlying t=Xa d) ?_) λr1 z J s m=>?_;{refine bR.bind bO λp v=>?_;subst v;cases h:p.underlying t with|none=>exact rfl|some i=>exact rfl};obtain⟨rfl,m⟩:=m;have h:=h.mono s;have k:=k.mono s;unfold fp at j;rw[m]at j;cases J with|bool=>(cases h<;>cases k<;>first|exact ab.stuck|exact ab.pure rfl)|string=>(cases h<;>cases k<;>first|exact ab.stuck|exact ab.pure rfl)|int q=>(cases h with|int S w=>(cases k with|int I o=>exact ab.ite (λ_=>ab.pure rfl) λ_=>ab.stuck|ptr G=>(match w with|.ofNat 0=>exact ab.pure rfl|.ofNat (_+1)=>exact ab.unsupported|.negSucc _=>exact ab.unsupported)|_=>first|exact ab.stuck|exact ab.unsupported)|ptr N=>(cases k with|int I o=>(match o with|.ofNat 0=>exact ab.pure rfl|.ofNat (_+1)=>exact ab.unsupported|.negSucc _=>exact ab.unsupported)|ptr G=>refine ab.bind (ab.behindNumber N) λr2 x x' C g=>ab.bind (ab.behindNumber (G.mono C)) λr3 y y' D l=>?_;refine ab.known λR n=>?_;have g:=g.1.mono D;have l:=l.1;refine ab.bind (ab.e9 bO) λr4 p B E v=>?_;obtain⟨rfl,rfl⟩:=v;by_cases f:x.1.block=y.1.block;(case neg=>have w:(x.1.block==y.1.block)=Ww:=beq_eq_false_iff_ne.2 f;(have o:(x.1==y.1)=Ww:=by grind);simp only[w,o,VU,UO,if_false];refine ab.never (dY (dE t).zT λi=>?_);split<;>exact eX);have O:=uS g l f;(have K:(x'.1.block==y'.1.block)=(x.1.block==y.1.block):=by simp_all);by_cases e:x.1.block<c.aJ;(case neg=>(have T:decide (x.1.block<B.globals.size)=Ww:=by rw[decide_eq_false_iff_not,<-H.aJ];exact e);simp only[T,Bool.and_false,UO,if_false];refine ab.never (zm (j0 t) λi n=>?_);unfold Mr at j;rw[n]at j;split;{simp_all};exact eX);(have L:decide (x'.1.block<B.globals.size)=decide (x.1.block<B.globals.size):=by rw[decide_eq_decide,<-H.aJ];exact⟨λ_=>e,λ_=>vi R g e⟩);(have M:(x'.1==y'.1)=(x.1==y.1):=by obtain⟨⟨xb,xo,xs⟩,_⟩:=x;obtain⟨⟨V,W,X⟩,_⟩:=x';obtain⟨⟨yb,yo,ys⟩,_⟩:=y;obtain⟨⟨Y,Z,ys'⟩,_⟩:=y';obtain⟨s,C,D,-⟩:=g;obtain⟨S,I,k3,-⟩:=l;grind);simp only[K,L,M];refine ab.ite (λe=>?_) λ_=>?_;{(have e:x.1.block<c.aJ:=by assumption);exact ab.bind (ab.byteOf (g.mono E) (.inr e)) λU u u' F Q=>ab.bind (ab.byteOf ((l.mono E).mono F) (.inr (f▸e))) λr6 z J h6 m=>ab.pure (by rw[Q,m])};refine ab.bind (ab.cN (dE t)) λU i i' F n=>?_;subst n;refine(ab.cN ?_);(split<;>first|exact rfl|(split<;>first|trivial|exact rfl))|_=>exact ab.unsupported)|gi=>cases k<;>exact ab.unsupported|_=>cases k<;>first|exact ab.stuck|exact ab.unsupported)|_=>simp at j
theorem ab.eqGuard{o2:XN}(b:∀z,x≠.agg z)(a:x≠.nilIface)(h:ai c r x x'):ab P c r (eqGuard op t o1 o2 x y) (eqGuard op t o1 o2 x' y') λ_ _ _=>True:=by refine ab.ite (λ_=>ab.pure trivial) λ_=>?_;cases h<;>first|exact absurd rfl a|exact absurd rfl (b _)|exact ab.pure trivial
theorem kq{d:TypeDesc}(h:P.underlying t=Xa d)(w:Xg):(underlying t).run P w=.ok d w:=by unfold underlying;simp_all
theorem zu(a:fp P t=Xd)(e:(∃z,x=.agg z)\/x=.nilIface):kV P (Op.equal t x y):=by intro w;show∃k f,(Op.equalIn (9999+1) t x y).run P w=.halt k f/\_;unfold Op.equalIn;unfold fp at a;cases b:P.underlying t with|none=>simp_all|some z=>rw[b]at a;rw[XU.run_bind,kq b];rcases e with⟨q,rfl⟩|rfl<;>cases z<;>first|(simp at a;done)|exact⟨_,_,rfl,rfl⟩|(cases y<;>exact⟨_,_,rfl,rfl⟩)
end
def AT:Xe->Bool
 |.int ..|.string ..|.pointer ..|.float ..|.complex ..=>Ww
 |_=>Xd
set_option maxHeartbeats 4000000 in theorem yB(a:BinOp)(t:XD)(x y:Xe)(b:¬(a=.eql\/a=.neq))(c:AT x=Xd):∃h:Halt,binOp a t x y=.halt h/\Ay h=Xd:=by(cases a<;>first|exact absurd (.inl rfl) b|exact absurd (.inr rfl) b|skip);all_goals(cases x<;>first|(simp[AT]at c;done)|skip);all_goals(cases y<;>exact⟨_,rfl,rfl⟩)
section
variable{c:dH}{r:bB}
theorem pW(a:fp P t=Xd)(n:Nat):P.eqGuardType (n+1) t=Ww:=by unfold fp at a;unfold XF.eqGuardType;grind
theorem wG{o2:XN}(l:fp P t=Xd)(m:(∃z,x=.agg z)\/x=.nilIface):gk P (eqGuard op t o1 o2 x y):=by
 have a:∀n:Nat,gk P (Op.eqGuardIn (n+1) t .nilIface .nilIface):=λn=>by
  unfold Op.eqGuardIn
  exact gk.bind (aD t).zT λd=>by cases d<;>exact dL _
 have g:gk P (match x,y with
  |.nilIface,.nilIface=>(do
    if(o1 matches .const _)||(o2 matches .const _)then return
    if<-Op.eqGuardIn Op.maxDepth t x y then unsupported (.noEntry "binop/eql: two nil values of an interface type with methods, neither of them the literal nil"):XU Unit)
  |.agg _,.agg _=>(do
    if !(<-program).eqGuardType (<-program).depth t then return
    if<-Op.eqGuardIn Op.maxDepth t x y then unsupported (.noEntry "binop/eql: two nil values of an interface type with methods, in a part of a struct or an array"):XU Unit)
  |_,_=>pure ()):=by
  rcases m with⟨z,rfl⟩|rfl
  ·cases y with
    |agg u=>
      refine bR.zT (q:=λ_=>True) (bR.bind bO λp k=>bR.bind bO λj f=>?_)
      subst k f
      rw[show j.eqGuardType j.depth t=Ww from pW l _]
      exact trivial
    |_=>exact dL _
  ·cases y with
    |nilIface=>
      by_cases i:((match o1 with|.const _=>Xd|_=>Ww)||(match o2 with|.const _=>Xd|_=>Ww))=Xd
      ·simp only[i,if_true];exact dL _
      · simp only[i,if_false,UO]
        exact gk.bind (a 9999) λb=>by
         cases b
         ·exact dL _
         ·exactλw h o e=>by cases e;rfl
    |_=>exact dL _
 cases op<;>first|exact g|exact dL _
set_option maxHeartbeats 1000000 in theorem DN{o2:XN}(hc:Fits P c)(ht:(op=.eql\/op=.neq)->fp P t=Xd)(h:ai c r x x')(k:ai c r y y'):ab P c r (do eqGuard op t o1 o2 x y;binOp op t x y) (do eqGuard op t o1 o2 x' y';binOp op t x' y') (ai c):=by by_cases he:op=.eql\/op=.neq;{have ht:=ht he;by_cases hx:(∃z,x=.agg z)\/x=.nilIface;{refine ab.never (dY (wG ht hx) λ_=>?_);have:∀f:Bool->XU Xe,kV P (Op.equal t x y>>=f):=λf=>gG (zu (P:=P) (y:=y) ht hx);rcases hx with⟨z,rfl⟩|rfl<;>rcases he with rfl|rfl<;>(cases y<;>exact this _)};(have heq:∀{r:bB},ai c r x x'->ai c r y y'->ab P c r (binOp op t x y) (binOp op t x' y') (ai c):=by intro r h k;have key:=ab.equal hc ht h k;cases h with|int k1 n1=>(cases k with|int k2 n2=>exact ab.flat (mq _ _ _ _ _ _)|_=>rcases he with rfl|rfl<;>exact ab.bind key λ_ _ _ _ e=>by subst e;exact ab.pure (.bool _))|string s1=>(cases k with|string s2=>exact ab.flat (km _ _ _ _)|_=>rcases he with rfl|rfl<;>exact ab.bind key λ_ _ _ _ e=>by subst e;exact ab.pure (.bool _))|_=>rcases he with rfl|rfl<;>exact ab.bind key λ_ _ _ _ e=>by subst e;exact ab.pure (.bool _));exact ab.bind (ab.eqGuard (λz e=>hx (.inl ⟨z,e⟩)) (λe=>hx (.inr e)) h) λr1 _ _ h1 _=>heq (h.mono h1) (k.mono h1)};(have e0:∀x y:Xe,(do eqGuard op t o1 o2 x y;binOp op t x y)=binOp op t x y:=by intro x y;cases op<;>first|rfl|exact absurd (.inl rfl) he|exact absurd (.inr rfl) he);rw[e0,e0];clear e0;by_cases hx:AT x=Xd;{obtain⟨h',e,hh⟩:=yB op t x y he hx;rw[e];exact ab.halt hh};cases h with|int k1 n1=>(cases k with|int k2 n2=>exact ab.flat (mq _ _ _ _ _ _)|ptr hb=>(cases op<;>first|exact ab.unsupported|exact absurd (.inl rfl) he|exact absurd (.inr rfl) he|exact ab.movedNumber hc (.ptr hb) (.int _ _)|exact ab.bind (ab.behindNumber hb) λr1 z z' h1 hz=>ab.addrMod hc hz.1)|gi=>(cases op<;>first|exact ab.unsupported|exact absurd (.inl rfl) he|exact absurd (.inr rfl) he|exact ab.movedNumber hc .gi (.int _ _))|_=>cases op<;>first|exact ab.stuck|exact absurd (.inl rfl) he|exact absurd (.inr rfl) he)|string s1=>(cases k with|string s2=>exact ab.flat (km _ _ _ _)|_=>cases op<;>first|exact ab.stuck|exact ab.unsupported|exact absurd (.inl rfl) he|exact absurd (.inr rfl) he)|ptr ha=>(cases k with|int k2 n2=>(cases op<;>first|exact ab.unsupported|exact absurd (.inl rfl) he|exact absurd (.inr rfl) he|exact ab.movedNumber hc (.ptr ha) (.int _ _)|exact ab.bind (ab.behindNumber ha) λr1 z z' h1 hz=>ab.addrMod hc hz.1|(refine ab.bind (ab.cN (aD t)) λr1 d d' h1 hd=>?_;subst hd;exact ab.ite (λ_=>ab.movedPointer hc (.ptr (ha.mono h1)) (.int _ _)) λ_=>ab.movedNumber hc (.ptr (ha.mono h1)) (.int _ _)))|ptr hb=>(cases op<;>first|exact ab.unsupported|exact absurd (.inl rfl) he|exact absurd (.inr rfl) he|exact ab.bind (ab.behindNumber ha) λr1 z z' h1 hz=>ab.bind (ab.behindNumber (hb.mono h1)) λr2 u u' h2 hu=>ab.addrSub hc (hz.1.mono h2) hu.1|exact ab.bind (ab.behindNumber ha) λr1 z z' h1 hz=>ab.bind (ab.behindNumber (hb.mono h1)) λr2 u u' h2 hu=>ab.addrCmp hc (hz.1.mono h2) hu.1)|_=>cases op<;>first|exact ab.stuck|exact ab.unsupported|exact absurd (.inl rfl) he|exact absurd (.inr rfl) he)|gi=>(cases k with|int k2 n2=>(cases op<;>first|exact ab.unsupported|exact absurd (.inl rfl) he|exact absurd (.inr rfl) he|exact ab.movedNumber hc .gi (.int _ _)|(refine ab.bind (ab.cN (aD t)) λr1 d d' h1 hd=>?_;subst hd;exact ab.ite (λ_=>ab.movedPointer hc .gi (.int _ _)) λ_=>ab.movedNumber hc .gi (.int _ _)))|_=>cases op<;>first|exact ab.stuck|exact ab.unsupported|exact absurd (.inl rfl) he|exact absurd (.inr rfl) he)|_=>exact absurd rfl hx
end
section
variable{c:dH}{r:bB}
theorem aY(t:XD):bR P (λd=>P.underlying t=Xa d) (underlying t):=by refine bR.bind bO λp a=>?_;subst a;cases h:p.underlying t with|none=>exact rfl|some i=>exact rfl
theorem wj(t:XD):bR P (λn=>P.cellsOf t=n) (sizeOf t):=by refine bR.bind (j0 t) λi a=>?_;show P.cellsOf t=i.size;unfold XF.cellsOf;grind
theorem AK(t:XD)(h:ai c r x x'):ab P c r (Instr.loadAt t x) (Instr.loadAt t x') (ai c):=ab.bind (ab.sureAddr h) λ_ _ _ _ b=>ab.loadVar t b
theorem zn(t:XD)(h:ai c r x x')(k:ai c r y y'):ab P c r (Instr.storeAt t x y) (Instr.storeAt t x' y') λ_ _ _=>True:=ab.bind (ab.sureAddr h) λ_ _ _ b d=>ab.storeVar t d (k.mono b)
theorem Dg{op:UnOp}(h:ai c r x x'):ab P c r (Op.unary op x) (Op.unary op x') (ai c):=by cases h with|bool b=>(cases op<;>first|exact ab.pure (.bool _)|exact ab.stuck)|int k n=>(cases op with|neg=>exact ab.flat (nH .sub k 0 n)|xor=>exact ab.flat (oI .xor k (if k.signed then-1 else k.max) n)|_=>exact ab.stuck)|ptr a=>(cases op<;>first|exact ab.unsupported|exact ab.stuck)|_=>cases op<;>exact ab.stuck
theorem zF(n:Nat)(h:ai c r x x'):ab P c r (Instr.extract x n) (Instr.extract x' n) (ai c):=by cases h with|tuple s e=>rename_i z f;unfold Instr.extract;(cases b:z[n]? with|none=>simp only[b];exact ab.stuck|some v=>obtain⟨g,d,k⟩:=(aj.mk s e).get b;simp only[b,d];exact ab.pure k)|_=>exact ab.stuck
theorem zx(s:XD)(n:Nat)(u:∀fs f,P.underlying s=Xa (.struct fs)->fs[n]?=Xa f->P.cellsOf f.type≠0)(h:ai c r x x'):ab P c r (Instr.fieldAt s x n) (Instr.fieldAt s x' n) (ai c):=by refine ab.bind (ab.e9 (aY s)) λz d k l e=>?_;obtain⟨rfl,e⟩:=e;cases k with|struct fs=>simp only[];(cases t:fs[n]? with|none=>exact ab.stuck|some f=>refine ab.bind (ab.sureAddr (h.mono l)) λv a j w p=>?_;(have i:ab P c v (fieldPlace a f) (fieldPlace j f) (du c):=by refine ab.bind (ab.e9 (wj f.type)) λA m y o g=>?_;obtain⟨rfl,g⟩:=g;have:=u fs f e t;rw[g]at this;rw[if_neg this,if_neg this];exact ab.pure ((p.mono o).add _));exact ab.bind i λ_ _ _ _ q=>ab.pure (.ptr q))|_=>exact ab.stuck
theorem Eu(t:XD)(n:Nat)(h:ai c r x x'):ab P c r (Instr.field t x n) (Instr.field t x' n) (ai c):=by refine ab.bind (ab.cN (aD t)) λl d b g j=>?_;subst j;cases b with|struct e=>simp only[];(cases k:e[n]? with|none=>exact ab.stuck|some f=>exact ab.bind (ab.asAgg (h.mono g)) λ_ _ _ _ i=>ab.part _ _ i)|_=>exact ab.stuck
theorem Dv(t:XD)(h:ai c r x x')(k:ai c r y y'):ab P c r (Instr.index t x y) (Instr.index t x' y') (ai c):=by refine ab.bind (ab.asIntOf k) λB z v j q=>?_;subst q;obtain⟨w,i⟩:=v;refine ab.bind (ab.cN (aD t)) λC d g l o=>?_;subst o;have h:=(h.mono j).mono l;cases h with|agg s e=>(cases g with|array u f=>refine ab.ite (λ_=>?_) λ_=>ab.boundsPanic;exact ab.bind (ab.cN (bA f)) λD m A n p=>by subst p;exact ab.part _ _ ((aj.mk s e).mono n)|_=>exact ab.stuck)|string s=>(cases g with|string=>simp only[];(cases(if 0<=i then s[i.toNat]? else Xl)with|none=>exact ab.boundsPanic|some b=>exact ab.pure (.int _ _))|_=>exact ab.stuck)|_=>cases g<;>exact ab.stuck
theorem xP(t:XD)(h:ai c r x x')(k:ai c r y y'):ab P c r (Instr.indexAt t x y) (Instr.indexAt t x' y') (ai c):=by unfold Instr.indexAt;refine ab.bind (ab.asIntOf k) λY z V N T=>?_;subst T;obtain⟨X,i⟩:=V;refine ab.bind (ab.cN (aD t)) λZ d M O R=>?_;subst R;have h:=(h.mono N).mono O;let F(U:bB)(a b:Option XY×Nat×XD):Prop:=ai c U (.pointer a.1) (.pointer b.1)/\b.2=a.2;cases M with|array B f=>refine ab.bind (ab.sureAddr h) λr3 a I W v=>ab.bind (Q:=F) (ab.pure ⟨.ptr v,rfl⟩) λC a b s q=>?_;obtain⟨w,B,f⟩:=a;obtain⟨o,l⟩:=b;obtain⟨g,e⟩:=q;simp only at e g;subst e;refine ab.bind (ab.cN (x:=underlying t) (aD t)) λC u H s A=>?_;subst A;have g:=g.mono s;(cases g with|gi=>exact ab.boundsPanic|ptr v=>refine ab.ite (λ_=>?_) λ_=>?_;{exact ab.bind (ab.cN (bA f)) λL m J D E=>by subst E;exact ab.pure (.ptr ((v.mono D).add _))};exact ab.ite (λ_ _ _ _=>rfl) λ_=>ab.boundsPanic)|slice f=>(cases h with|gC n m=>refine ab.bind (Q:=F) (ab.pure ⟨.gi,rfl⟩) λC a b s q=>?_;obtain⟨w,B,f⟩:=a;obtain⟨o,l⟩:=b;obtain⟨g,e⟩:=q;simp only at e g;subst e;refine ab.bind (ab.cN (x:=underlying t) (aD t)) λC u H s A=>?_;subst A;have g:=g.mono s;(cases g with|gi=>exact ab.boundsPanic|ptr v=>refine ab.ite (λ_=>?_) λ_=>?_;{exact ab.bind (ab.cN (bA f)) λL m J D E=>by subst E;exact ab.pure (.ptr ((v.mono D).add _))};exact ab.ite (λ_ _ _ _=>rfl) λ_=>ab.boundsPanic)|slice n m v=>refine ab.bind (Q:=F) (ab.pure ⟨.ptr v,rfl⟩) λC a b s q=>?_;obtain⟨w,B,f⟩:=a;obtain⟨o,l⟩:=b;obtain⟨g,e⟩:=q;simp only at e g;subst e;refine ab.bind (ab.cN (x:=underlying t) (aD t)) λC u H s A=>?_;subst A;have g:=g.mono s;(cases g with|gi=>exact ab.boundsPanic|ptr v=>refine ab.ite (λ_=>?_) λ_=>?_;{exact ab.bind (ab.cN (bA f)) λL m J D E=>by subst E;exact ab.pure (.ptr ((v.mono D).add _))};exact ab.ite (λ_ _ _ _=>rfl) λ_=>ab.boundsPanic)|cE a I=>refine ab.bind (Q:=λ_ p K=>p=(Xa a,0,f)/\K=(Xa I,0,f)) (ab.pure ⟨rfl,rfl⟩) λC p K s S=>?_;obtain⟨rfl,rfl⟩:=S;refine ab.bind (ab.cN (x:=underlying t) (aD t)) λC u H s A=>?_;subst A;refine ab.ite (λG=>?_) λ_=>ab.ite (λ_ _ _ _=>rfl) λ_=>ab.boundsPanic;simp at G;omega|_=>exactλ_ _ _=>rfl)|_=>cases h<;>exactλ_ _ _=>rfl
theorem vU{fn:Fn}(b:Iz c fn=Xd){x x' y y':Array Xe}(h:aj c r x x')(k:aj c r y y'):ab P c r (Instr.makeFunc fn x y) (Instr.makeFunc fn x' y') (ai c):=ab.pure (.func b h.size h.el k.size k.el)
theorem ab.sliceBound(y:Nat)(e:BoundsCode)(h:ai c r x x'):ab P c r (Instr.sliceBound x y e) (Instr.sliceBound x' y e) λ_ a b=>b=a/\a<=y:=by refine ab.bind (ab.asIntOf h) λj z k g f=>?_;subst f;exact ab.ite (λi=>ab.pure ⟨rfl,by omega⟩) λ_=>ab.boundsPanic
def ko(c:dH)(r:bB):Option Xe->Option Xe->Prop
 |none,Xl=>True
 |some x,Xa y=>ai c r x y
 |_,_=>False
theorem ko.mono{r r':bB}(h:r.le r'):∀{x y:Option Xe},ko c r x y->ko c r' x y|none,Xl,_=>trivial|some _,Xa _,k=>ai.mono h k
theorem ab.sliceBounds(f:Bool)(k j:Nat){mx:Option Xe}(i:ko c r lo lo')(m:ko c r hi hi')(s:ko c r mx mx'):ab P c r (Instr.sliceBounds f k j lo hi mx) (Instr.sliceBounds f k j lo' hi' mx') λ_ a b=>b=a/\(k=0->j=0->a=(0,0,0)):=by match mx,mx',s with|none,Xl,_=>refine ab.bind (Q:=λ_ a b=>b=a/\a<=_) (ab.pure ⟨rfl,Us _⟩) λy z h l e=>?_;obtain⟨rfl,x⟩:=e;(match hi,hi',m with|none,Xl,_=>refine ab.bind (Q:=λ_ a b=>b=a/\a<=_) (ab.pure ⟨rfl,Us _⟩) λv z h o e=>?_;obtain⟨rfl,u⟩:=e;(match lo,lo',i with|none,Xl,_=>refine ab.bind (Q:=λ_ a b=>b=a/\a<=_) (ab.pure ⟨rfl,Us _⟩) λq z h p e=>?_;obtain⟨rfl,n⟩:=e;exact ab.pure ⟨rfl,λa b=>by simp_all⟩|some a,Xa t,i=>refine ab.bind (ab.sliceBound _ _ (ai.mono o (ai.mono l i))) λq z h p e=>?_;obtain⟨rfl,n⟩:=e;exact ab.pure ⟨rfl,λa b=>by simp_all⟩)|some b,Xa w,m=>refine ab.bind (ab.sliceBound _ _ (ai.mono l m)) λv z h o e=>?_;obtain⟨rfl,u⟩:=e;match lo,lo',i with|none,Xl,_=>refine ab.bind (Q:=λ_ a b=>b=a/\a<=_) (ab.pure ⟨rfl,Us _⟩) λq z h p e=>?_;obtain⟨rfl,n⟩:=e;exact ab.pure ⟨rfl,λa b=>by simp_all⟩|some a,Xa t,i=>refine ab.bind (ab.sliceBound _ _ (ai.mono o (ai.mono l i))) λq z h p e=>?_;obtain⟨rfl,n⟩:=e;exact ab.pure ⟨rfl,λa b=>by simp_all⟩)|some d,Xa A,s=>refine ab.bind (ab.sliceBound _ _ s) λy z h l e=>?_;obtain⟨rfl,x⟩:=e;match hi,hi',m with|none,Xl,_=>exactλ_ _ _=>rfl|some b,Xa w,m=>refine ab.bind (ab.sliceBound _ _ (ai.mono l m)) λv z h o e=>?_;obtain⟨rfl,u⟩:=e;match lo,lo',i with|none,Xl,_=>refine ab.bind (Q:=λ_ a b=>b=a/\a<=_) (ab.pure ⟨rfl,Us _⟩) λq z h p e=>?_;obtain⟨rfl,n⟩:=e;exact ab.pure ⟨rfl,λa b=>by simp_all⟩|some a,Xa t,i=>refine ab.bind (ab.sliceBound _ _ (ai.mono o (ai.mono l i))) λq z h p e=>?_;obtain⟨rfl,n⟩:=e;exact ab.pure ⟨rfl,λa b=>by simp_all⟩
theorem Et(t:XD){mx:Option Xe}(h:ai c r x x')(k:ko c r lo lo')(o:ko c r hi hi')(p:ko c r mx mx'):ab P c r (Instr.slice t x lo hi mx) (Instr.slice t x' lo' hi' mx') (ai c):=by unfold Instr.slice;refine ab.bind (ab.cN (aD t)) λK d y v A=>?_;subst A;have h:=h.mono v;have k:=k.mono v;have o:=o.mono v;have p:=p.mono v;(have J:mx'.isSome=mx.isSome:=by match mx,mx',p with|none,Xl,_=>rfl|some _,Xa _,_=>rfl);cases y with|string=>(cases h with|string s=>simp only[J];refine ab.ite (λ_ _ _ _=>rfl) λ_=>?_;exact ab.bind (ab.sliceBounds _ _ _ k o (show ko c K Xl Xl from trivial)) λ_ _ _ _ e=>by obtain⟨rfl,_⟩:=e;exact ab.pure (.string _)|_=>exact ab.stuck)|slice b=>(cases h with|gC n m=>refine ab.bind (ab.sliceBounds _ _ _ k o p) λC z u j e=>?_;obtain⟨rfl,_⟩:=e;refine ab.bind (ab.cN (bA b)) λD q B i e=>?_;subst e;refine ab.pure ?_;split<;>exact .gC _ _|slice n m g=>refine ab.bind (ab.sliceBounds _ _ _ k o p) λC z u j e=>?_;obtain⟨rfl,_⟩:=e;refine ab.bind (ab.cN (bA b)) λD q B i e=>?_;subst e;refine ab.pure ?_;have g:=(g.mono j).mono i;split;{exact .slice _ _ g};exact .slice _ _ (g.add _)|cE a G=>refine ab.bind (ab.sliceBounds _ _ _ k o p) λC z u j e=>?_;obtain⟨rfl,e⟩:=e;obtain rfl:=e rfl rfl;refine ab.bind (ab.cN (bA b)) λD q B i e=>?_;subst e;refine ab.pure ?_;split<;>exact .cE _ _|_=>exact ab.stuck)|pointer w=>refine ab.bind (ab.asAddr h) λC a G j g=>?_;refine ab.bind (ab.cN (aD w)) λD d y i A=>?_;subst A;(cases y with|array n b=>refine ab.bind (ab.sliceBounds _ _ _ ((k.mono j).mono i) ((o.mono j).mono i) ((p.mono j).mono i)) λL z u H e=>?_;obtain⟨rfl,_⟩:=e;refine ab.bind (ab.cN (bA b)) λM q B I e=>?_;obtain⟨rfl,_⟩:=e;refine ab.pure ?_;have g:=((g.mono i).mono H).mono I;split;{exact .slice _ _ g};exact .slice _ _ (g.add _)|_=>exact ab.stuck)|_=>cases h<;>exact ab.stuck
theorem xL(t:XD){mx:Option Xe}(h:ai c r x x')(m:ko c r lo lo')(o:ko c r hi hi')(p:ko c r mx mx'):ab P c r (Instr.sliceAt t x lo hi mx) (Instr.sliceAt t x' lo' hi' mx') (ai c):=by refine ab.bind (ab.cN (aD t)) λE d s f w=>?_;subst w;have k:=Et (P:=P) t (h.mono f) (m.mono f) (o.mono f) (p.mono f);cases s with|array n g=>refine ab.bind (ab.sureAddr (h.mono f)) λF a A j i=>?_;refine ab.bind (ab.sliceBounds _ _ _ ((m.mono f).mono j) ((o.mono f).mono j) ((p.mono f).mono j)) λG z y u e=>?_;obtain⟨rfl,_⟩:=e;refine ab.bind (ab.cN (bA g)) λH q D v e=>?_;subst e;refine ab.pure ?_;have i:=(i.mono u).mono v;split;{exact .slice _ _ i};exact .slice _ _ (i.add _)|_=>exact k
end
section
variable{c:dH}{r:bB}
def jP(P:XF)(t:XD):Bool:=match(P.info? t).bind (·.zero)with|some z=>jO 100 z|none=>Xd
theorem vB(h:jP P t=Xd):∀z,(P.info? t).bind (·.zero)=Xa z->Flat z:=λz a=>by unfold jP at h;rw[a]at h;exact iB h
theorem Flat.vs(h:Flat z)(c:dH)(r:bB):aj c r z.cells z.cells:=aj.cells (h c r)
theorem ab.zero(h:jP P t=Xd):ab P c r (zeroValue t) (zeroValue t) λ_ a b=>b=a/\Flat a:=ab.e9 (sP t (vB h))
theorem AQ(h:jP P t=Xd):ab P c r (Instr.alloc t Xd (.tuple #[])) (Instr.alloc t Xd (.tuple #[])) (ai c):=Ex t (vB h)
structure BJ(c:dH)(r:bB)(x x':Array (Nat×Xe)):Prop where
 idx:x.toList.map (·.1)=x'.toList.map (·.1)
 val:aj c r (x.toList.map (·.2)).toArray (x'.toList.map (·.2)).toArray
theorem BJ.mono{r r':bB}(h:r.le r'){x x':Array (Nat×Xe)}(k:BJ c r x x'):BJ c r' x x':=⟨k.idx,k.val.mono h⟩
theorem k9(a:Nat->Option (Nat×Nat)){x x':Array (Nat×Xe)}(h:BJ c r x x'){z z':Array Xe}(e:aj c r z z'):Instr.fill a z x.toList=Option.none\/∃y d,Instr.fill a z x.toList=Xa y/\Instr.fill a z' x'.toList=Xa d/\aj c r y d:=by have:=yR a x.toList x'.toList e h.idx h.val;grind
theorem DR(l:List ε)(f:ε->XU ζ)(h:∀x∈l,lJ P (f x)):lJ P (l.mapM f):=by induction l with|nil=>trivial|cons x l b=>rw[List.mapM_cons];exact(h x Θ).bind λ_=>(b λy a=>h y (by simp[a])).bind λ_=>trivial
theorem Ax(l:Array ε)(f:ε->XU ζ)(h:∀x∈l,lJ P (f x)):lJ P (l.mapM f):=by rw[Array.mapM_eq_mapM_toList];exact lJ.bind (DR _ _ λx a=>h x (by simp_all)) λ_=>trivial
theorem Ej(B:jP P t=Xd){x x':Array (Nat×Xe)}(h:BJ c r x x'):ab P c r (Instr.build t x) (Instr.build t x') (ai c):=by unfold Instr.build;refine ab.bind (ab.zero B) λD z F q g=>?_;obtain⟨rfl,g⟩:=g;refine ab.bind (ab.cN (aD t)) λE d v s A=>?_;subst A;cases v with|struct w=>refine ab.bind (ab.cN (Ax w _ λf _=>(bA f.type).bind λ_=>trivial)) λp u j m o=>?_;subst o;rcases k9 (j[·]?) (((h.mono q).mono s).mono m) (g.vs c p)with e|⟨y,C,e,l,k⟩;{simp only[e];exact ab.stuck};simp only[e,l];exact ab.pure (.sI k)|array n b=>refine ab.bind (ab.cN (bA b)) λp u j m o=>?_;subst o;rcases k9 (λi=>Xa (i*j,j)) (((h.mono q).mono s).mono m) (g.vs c p)with e|⟨y,C,e,l,k⟩;{simp only[e];exact ab.stuck};simp only[e,l];exact ab.pure (.sI k)|_=>exact ab.stuck
theorem aj.range{x x':Array Xe}(h:aj c r x x')(n:Nat):aj c r ((Array.range n).map (x[·%x.size]!)) ((Array.range n).map (x'[·%x'.size]!)):=by refine aj.map _ _ _ λi _=>?_;rw[<-h.size];rw[Xf,Xf];exact h.getD _ (by exact .bool Ww)
theorem tK(E:∀e,P.underlying t=Xa (.slice e)->jP P e=Xd){x x':Array (Nat×Xe)}(h:BJ c r x x'):ab P c r (Instr.buildSlice t n x) (Instr.buildSlice t n x') (ai c):=by unfold Instr.buildSlice;refine ab.bind (ab.e9 (aY t)) λH d B u s=>?_;obtain⟨rfl,s⟩:=s;cases B with|slice l=>refine ab.bind (ab.cN (bA l)) λI m j v D=>?_;subst D;refine ab.ite (λ_ _ _ _=>rfl) λ_=>?_;refine ab.ite (λ_=>?_) λ_=>?_;{refine ab.bind (Q:=λ_ a b=>b=a/\∀r,aj c r a a) (ab.pure ⟨rfl,λ_=>.empty⟩) λw z A p g=>?_;obtain⟨rfl,g⟩:=g;rcases k9 (λi=>Xa (i*j,j)) (((h.mono u).mono v).mono p) (aj.range (g w) (n*j))with e|⟨y,G,e,o,k⟩;{simp only[e];exact ab.stuck};simp only[e,o];exact ab.bind (ab.newRow k) λ_ _ _ _ q=>ab.pure (.slice _ _ q)};refine ab.bind (ab.zero (E _ s)) λw z A p g=>?_;obtain⟨rfl,g⟩:=g;refine ab.bind (Q:=λ_ a b=>b=a/\∀r,aj c r a a) (ab.pure ⟨rfl,λr=>g.vs c r⟩) λF z A C g=>?_;obtain⟨rfl,g⟩:=g;rcases k9 (λi=>Xa (i*j,j)) (((h.mono u).mono v).mono (bB.le_trans p C)) (aj.range (g F) (n*j))with e|⟨y,G,e,o,k⟩;{simp only[e];exact ab.stuck};simp only[e,o];exact ab.bind (ab.newRow k) λ_ _ _ _ q=>ab.pure (.slice _ _ q)|_=>exact ab.stuck
theorem Ae:ab P c r (Instr.makeMap t Xl) (Instr.makeMap t Xl) (ai c):=ab.bind (ab.newObj (.map 0 rfl λi e b h=>by simp at h)) λ_ _ _ _ h=>ab.pure (.map h.1)
theorem ab.ng{f:α->XU β}{y:XU γ}{Q:bB->β->γ->Prop}:ab P c r (Go.runtimePanic e>>=f) y Q:=ab.never (gG (dV e))
theorem uj(C:∀e,P.underlying t=Xa (.slice e)->jP P e=Xd)(h:ai c r x x')(k:ai c r y y'):ab P c r (Instr.makeSlice t x y) (Instr.makeSlice t x' y') (ai c):=by unfold Instr.makeSlice;refine ab.bind (ab.e9 (aY t)) λN d s o m=>?_;obtain⟨rfl,m⟩:=m;cases s with|slice j=>refine ab.bind (ab.asInt (h.mono o)) λO a E u l=>?_;subst l;refine ab.bind (ab.asInt ((k.mono o).mono u)) λR b F G w=>?_;subst w;refine ab.bind (ab.cN (dE j)) λS i L H A=>?_;subst A;simp only[];refine ab.ite (λ_=>?_) λ_=>?_;{refine ab.ite (λ_=>ab.ng) λ_=>?_;refine ab.ite (λ_=>ab.ng) λ_=>?_;exact ab.bind (ab.cN (iD _)) λ_ _ _ _ _=>ab.ng};refine ab.bind (ab.cN (pU _)) λT _ _ I _=>?_;refine ab.bind (ab.cN (bA j)) λU n M J B=>?_;subst B;refine ab.ite (λ_=>?_) λ_=>?_;{refine ab.bind (Q:=λ_ a b=>b=a/\∀r,aj c r a a) (ab.pure ⟨rfl,λ_=>.empty⟩) λp z q v g=>?_;obtain⟨rfl,g⟩:=g;exact ab.bind (ab.newRow (aj.range (g p) _)) λ_ _ _ _ l=>ab.pure (.slice _ _ l)};refine ab.bind (ab.zero (C _ m)) λp z q v g=>?_;obtain⟨rfl,g⟩:=g;refine ab.bind (Q:=λ_ a b=>b=a/\∀r,aj c r a a) (ab.pure ⟨rfl,λr=>g.vs c r⟩) λD z q K g=>?_;obtain⟨rfl,g⟩:=g;exact ab.bind (ab.newRow (aj.range (g D) _)) λ_ _ _ _ l=>ab.pure (.slice _ _ l)|_=>exact ab.stuck
end
section
variable{c:dH}{r:bB}
theorem LD(ats:Array XD)(t:XD){x x':Array Xe}(h:aj c r x x'):ab P c r (XQ.len_ ats t x) (XQ.len_ ats t x') (ai c):=by unfold XQ.len_;cases ats[0]? with|none=>exact ab.stuck|some s=>cases w:x[0]? with|none=>exact ab.stuck|some v=>obtain⟨D,e,k⟩:=h.get w;simp only[e];refine ab.bind (ab.cN (aD s)) λB d g i j=>?_;subst j;have k:=k.mono i;cases g with|string=>(cases k<;>first|exact ab.pure (.int _ _)|exact ab.stuck)|array n e=>exact ab.pure (.int _ _)|pointer f=>refine ab.bind (ab.cN (aD f)) λC u y z q=>?_;subst q;(cases y<;>first|exact ab.pure (.int _ _)|exact ab.stuck)|slice e=>(cases k<;>first|exact ab.pure (.int _ _)|exact ab.stuck)|map a b=>(cases k with|k6=>exact ab.pure (.int _ _)|map p=>refine ab.getObj p λo A _ m l=>?_;(cases m with|map k s _=>simp only[s];exact ab.pure (.int _ _)|cells _ _ _=>exact absurd rfl (l _ _ _)|_=>exact ab.stuck)|_=>exact ab.stuck)|chan a b=>cases k<;>exact ab.stuck|_=>exact ab.stuck
theorem ab.max2(h:ai c r x x')(k:ai c r y y'):ab P c r (XQ.max2 x y) (XQ.max2 x' y') (ai c):=by cases h with|int a b=>(cases k<;>first|exact ab.pure (.int _ _)|exact ab.stuck|exact ab.unsupported)|string a=>(cases k with|string b=>refine ab.bind (ab.flat (kF .geq a b)) λi u l f d=>?_;exact ab.bind (ab.asBool d) λj z m g e=>by subst e;exact ab.pure (.string _)|ptr _=>exact ab.unsupported|_=>exact ab.stuck)|ptr _=>exact ab.unsupported|_=>cases k<;>first|exact ab.stuck|exact ab.unsupported
theorem ab.min2(h:ai c r x x')(k:ai c r y y'):ab P c r (XQ.min2 x y) (XQ.min2 x' y') (ai c):=by cases h with|int a b=>(cases k<;>first|exact ab.pure (.int _ _)|exact ab.stuck|exact ab.unsupported)|string a=>(cases k with|string b=>refine ab.bind (ab.flat (kF .leq a b)) λi u l f d=>?_;exact ab.bind (ab.asBool d) λj z m g e=>by subst e;exact ab.pure (.string _)|ptr _=>exact ab.unsupported|_=>exact ab.stuck)|ptr _=>exact ab.unsupported|_=>cases k<;>first|exact ab.stuck|exact ab.unsupported
theorem ab.foldlM{f:Xe->Xe->XU Xe}(g:∀{r:bB}{x x' y y':Xe},ai c r x x'->ai c r y y'->ab P c r (f x y) (f x' y') (ai c)):∀(l e:List Xe){r:bB}{x x':Xe},ai c r x x'->aj c r l.toArray e.toArray->ab P c r (l.foldlM f x) (e.foldlM f x') (ai c)|[],[],r,x,x',h,_=>ab.pure h|[],_::_,r,x,x',h,d=>by have:=d.size;grind|_::_,[],r,x,x',h,d=>by have:=d.size;grind|y::l,y'::e,r,x,x',h,d=>by rw[Wz,Wz];refine ab.bind (g h (d.el 0 y y' Θ Θ)) λn z o i k=>?_;exact ab.foldlM g l e k ((⟨by have:=d.size;simp_all,λj u m a b=>d.el (j+1) u m (by grind) (by grind)⟩:aj c r l.toArray e.toArray).mono i)
theorem LG(ats:Array XD)(t:XD){x x':Array Xe}(h:aj c r x x'):ab P c r (XQ.max_ ats t x) (XQ.max_ ats t x') (ai c):=by obtain⟨l⟩:=x;obtain⟨d⟩:=x';unfold XQ.max_;match l,d,h with|[],[],_=>exact ab.stuck|[],_::_,h=>have:=h.size;grind|_::_,[],h=>have:=h.size;grind|y::l,f::d,h=>exact ab.foldlM ab.max2 l d (h.el 0 y f Θ Θ) ⟨by have:=h.size;simp_all,λj u e a b=>h.el (j+1) u e (by grind) (by grind)⟩
theorem JI(ats:Array XD)(t:XD){x x':Array Xe}(h:aj c r x x'):ab P c r (XQ.min_ ats t x) (XQ.min_ ats t x') (ai c):=by obtain⟨l⟩:=x;obtain⟨d⟩:=x';unfold XQ.min_;match l,d,h with|[],[],_=>exact ab.stuck|[],_::_,h=>have:=h.size;grind|_::_,[],h=>have:=h.size;grind|y::l,f::d,h=>exact ab.foldlM ab.min2 l d (h.el 0 y f Θ Θ) ⟨by have:=h.size;simp_all,λj u e a b=>h.el (j+1) u e (by grind) (by grind)⟩
theorem ab.lenOf(h:ai c r x x'):ab P c r (XQ.lenOf x) (XQ.lenOf x') λ_ a b=>b=a/\∀q,x=.slice (Xa q) 0 0->a=0:=by cases h<;>first|exact ab.pure ⟨rfl,λq e=>by cases e;rfl⟩|exact ab.pure ⟨rfl,λq e=>by cases e⟩|exact ab.stuck
theorem ab.vg(size:Nat)(h:ai c r x x'):ab P c r (XQ.firstCells size 0 x) (XQ.firstCells size 0 x') λ_ a b=>a=#[]/\b=#[]:=by unfold XQ.firstCells;rw[WA];cases h<;>first|exact ab.pure ⟨rfl,rfl⟩|exact ab.stuck|(refine ab.pure ⟨?_,?_⟩<;>simp)
theorem ab.firstCells(size n:Nat)(h:ai c r x x')(j:∀q,x=.slice (Xa q) 0 0->n=0):ab P c r (XQ.firstCells size n x) (XQ.firstCells size n x') (aj c):=by cases h with|gC _ _=>exact ab.pure .empty|cE a d=>obtain rfl:=j a rfl;exact(ab.vg size (.cE a d)).mono λ_ x y _⟨e,f⟩=>by rw[e,f];exact .empty|slice _ _ g=>exact ab.loadCells g _|string s=>refine ab.pure ?_;refine⟨rfl,λi v k a b=>?_⟩;rw[a]at b;cases b;rw[VA]at a;obtain⟨z,_,rfl⟩:=UA.1 a;exact .int _ _|_=>exact ab.stuck
theorem aj.zeroCells(h:Flat z)(n:Nat):aj c r (XQ.zeroCells z.cells n) (XQ.zeroCells z.cells n):=by unfold XQ.zeroCells;exact aj.range (h.vs c r) _
end
section
variable{c:dH}{r:bB}
theorem ab.Gm{x:XU α}{f:α->XU β}{y:XU γ}{Q:bB->β->γ->Prop}(h:kV P x):ab P c r (x>>=f) y Q:=ab.never (gG h)
theorem lS(a:XY)(n:Nat):gk P (XQ.holdsCells a n):=(AG _).bind λs=>by cases s<;>exact dL _
theorem uG(size sl n:Nat)(base:Option XY)(x:Xe):gk P (XQ.mayShare size sl n base x):=by(have d:∀b:Bool,gk P (if(!b)=Xd then Pure.pure Xd else match x with|.slice (Xa b) _ _=>(do Pure.pure (!(<-XQ.holdsCells b (n*size))||base.any (·.block==b.block)))|_=>Pure.pure Ww):=λb=>by split;{exact dL _};split;{exact(lS _ _).bind λ_=>dL _};exact dL _);unfold XQ.mayShare;cases base with|none=>grind|some a=>exact gk.bind (lS _ _) λu=>gk.bind (zi _) λv=>gk.bind (dL _) λb=>d b
theorem Bv{ats:Array XD}(ht:∀s e,ats[0]?=Xa s->P.underlying s=Xa (.slice e)->jP P e=Xd)(hn:∀s k,ats[1]?=Xa s->P.underlying s≠Xa (.int k)){x x':Array Xe}(h:aj c r x x'):ab P c r (XQ.append_ ats t x) (XQ.append_ ats t x') (ai c):=by unfold XQ.append_;cases hs:ats[0]? with|none=>exact ab.stuck|some s=>cases hx:x[0]? with|none=>exact ab.stuck|some v=>obtain⟨v',X,kv⟩:=h.get hx;simp only[X];cases hy:x[1]? with|none=>exact ab.stuck|some u=>obtain⟨u',W,A⟩:=h.get hy;simp only[W];refine ab.bind (ab.e9 (aY s)) λR d M l H=>?_;obtain⟨rfl,H⟩:=H;cases M with|slice f=>have hz:=ht s f hs H;have O:=kv.mono l;have kx:=O;cases O;(case gC|slice|cE=>refine ab.bind (ab.cN (bA f)) λr2 T K B e=>?_;subst e;cases Z:ats[1]?;(case' some xt=>refine ab.bind (ab.e9 (aY xt)) λr0 d M Y w=>?_;obtain⟨rfl,w⟩:=w;replace B:=bB.le_trans B Y);all_goals refine ab.bind (Q:=λ_ a b=>b=a/\a=Ww) (ab.pure ⟨rfl,by first|rfl|grind⟩) λr3 zs zs' N e=>?_;obtain⟨rfl,rfl⟩:=e;refine ab.bind (ab.lenOf ((A.mono l).mono (bB.le_trans B N))) λr4 n n' h4 e=>?_;obtain⟨rfl,E⟩:=e;have j:R.le r4:=bB.le_trans (bB.le_trans B N) h4;refine ab.ite (λI=>?_) λ_=>?_;{first|exact ab.bind (ab.firstCells _ _ ((A.mono l).mono j) E) λJ z V m g=>ab.pure (.gC _ _)|exact ab.bind (ab.firstCells _ _ ((A.mono l).mono j) E) λJ z V m g=>ab.bind (ab.storeCells 0 ((du.mono (bB.le_trans j m) (by assumption)).add _) (by omega)) λS _ _ C _=>ab.pure (.slice _ _ (du.mono (bB.le_trans j (bB.le_trans m C)) (by assumption)))|(obtain rfl:n'=0:=by omega);refine ab.bind (ab.vg _ ((A.mono l).mono j)) λJ z V m g=>?_;obtain⟨rfl,rfl⟩:=g;exact ab.bind (Q:=λ_ _ _=>True) (ab.pure trivial) λS _ _ C _=>ab.pure (.cE _ _)};·refine ab.bind (ab.cN (dE f)) λJ i i' m e=>?_;subst e;refine ab.ite (λ_=>ab.ng) λ_=>?_;refine ab.bind (ab.cN (dE f)) λS i2 i2' C e=>?_;subst e;refine ab.ite (λ_=>ab.Gm (by simp only[UO,if_false];exact dY (uG _ _ _ _ _) λ_=>by split<;>first|exact eX|exact dY (λ_ _ _ e=>by cases e) λ_=>eX)) λ_=>?_;refine ab.bind (ab.cN (iD _)) λr7 nc nc' h7 e=>?_;subst e;refine ab.bind (ab.cN (dE f)) λr8 i3 i3' h8 e=>?_;subst e;refine ab.bind (ab.cN (pU _)) λr9 _ _ h9 _=>?_;have y:R.le r9:=bB.le_trans j (bB.le_trans m (bB.le_trans C (bB.le_trans h7 (bB.le_trans h8 h9))));refine ab.bind (ab.firstCells _ _ (kx.mono y) (λq e=>by first|rfl|(cases e;done)|grind)) λr10 o o' F ho=>?_;refine ab.bind (ab.firstCells _ _ ((A.mono l).mono (bB.le_trans y F)) E) λr11 q q' G hq=>?_;refine ab.bind (ab.zero hz) λr12 zz zz' p g=>?_;obtain⟨rfl,g⟩:=g;exact ab.bind (ab.newRow ((((ho.mono G).mono p).append (hq.mono p)).append (aj.zeroCells g _))) λ_ _ _ _ ha=>ab.pure (.slice _ _ ha));all_goals exact ab.stuck|_=>exact ab.stuck
theorem ab.checkKey(b g:Bool)(f:fp P t=Xd)(n:Nat):ab P c r (Instr.checkKey b (n+1) t x) (Instr.checkKey g (n+1) t x') λ_ _ _=>True:=by refine ab.bind (ab.e9 (aY t)) λj d h i e=>?_;obtain⟨rfl,e⟩:=e;unfold fp at f;rw[e]at f;cases h with|int k=>exact ab.pure trivial|string=>exact ab.pure trivial|bool=>exact ab.pure trivial|_=>simp at f
theorem xU(d:TypeDesc)(h:ai c r x x')(k:ai c r y y'):Instr.sameNow d x' y'=Instr.sameNow d x y:=by cases h<;>cases k<;>first|rfl|(cases d<;>rfl)
def lR(c:dH)(r:bB)(x x':Array X7):Prop:=x.size=x'.size/\∀(i:Nat)(e e':X7),x[i]?=Xa e->x'[i]?=Xa e'->Gp c r e e'
theorem lR.mono{r r':bB}(h:r.le r'){x x':Array X7}(k:lR c r x x'):lR c r' x x':=⟨k.1,λi e d a b=>(k.2 i e d a b).mono h⟩
def JE(c:dH)(r:bB):Option (Nat×Xe)->Option (Nat×Xe)->Prop
 |none,Xl=>True
 |some (i,v),Xa (i',v')=>i'=i/\ai c r v v'
 |_,_=>False
theorem qJ(d:TypeDesc)(h:ai c r x x'):∀(l m:List X7)(i:Nat),lR c r l.toArray m.toArray->
 match Instr.findNow d x l i with|some z=>∃p,Instr.findNow d x' m i=Xa p/\JE c r z p|none=>Instr.findNow d x' m i=Xl
 |[],[],i,_=>⟨Xl,rfl,trivial⟩
 |[],_::_,_,k=>by have:=k.1;grind
 |_::_,[],_,k=>by have:=k.1;grind
 |e::l,q::m,i,k=>by
   have o:=k.2 0 e q Θ Θ
   have n:lR c r l.toArray m.toArray:=⟨by have:=k.1;simp_all,λj u s a b=>k.2 (j+1) u s (by grind) (by grind)⟩
   unfold Instr.findNow
   rw[xU d h o.key]
   cases Instr.sameNow d x e.key with
   |none=>rfl
   |some b=>
     cases b with
     |true=>exact⟨_,rfl,rfl,o.val⟩
     |false=>exact qJ d h l m (i+1) n
theorem ab.findAsking(n:Fits P c)(p:fp P t=Xd):∀(l g:List X7)(i:Nat){r:bB}{x x':Xe},ai c r x x'->lR c r l.toArray g.toArray->ab P c r (Instr.findAsking t x l i) (Instr.findAsking t x' g i) (JE c)|[],[],i,r,x,x',h,_=>ab.pure trivial|[],_::_,_,r,x,x',h,f=>by have:=f.1;grind|_::_,[],_,r,x,x',h,f=>by have:=f.1;grind|e::l,q::g,i,r,x,x',h,f=>by have o:=f.2 0 e q Θ Θ;have m:lR c r l.toArray g.toArray:=⟨by have:=f.1;simp_all,λj u v a b=>f.2 (j+1) u v (by grind) (by grind)⟩;refine ab.bind (ab.equal n p h o.key) λy b w k s=>?_;subst s;exact ab.ite (λ_=>ab.pure ⟨rfl,o.val.mono k⟩) λ_=>ab.findAsking n p l g (i+1) (h.mono k) (m.mono k)
theorem ab.findKey(j:Fits P c)(n:fp P t=Xd){l l':List X7}(h:ai c r x x')(g:lR c r l.toArray l'.toArray):ab P c r (Instr.findKey t x l) (Instr.findKey t x' l') (JE c):=by refine ab.bind (ab.cN (aD t)) λo d f b m=>?_;subst m;have:=qJ f (h.mono b) l l' 0 (g.mono b);cases e:Instr.findNow f x l 0 with|none=>rw[e]at this;simp only[this];exact ab.findAsking j n l l' 0 (h.mono b) (g.mono b)|some z=>rw[e]at this;obtain⟨p,i,k⟩:=this;simp only[i];exact ab.pure k
theorem Bs{ok:Bool}(O:Fits P c)(Z:∀k e,P.underlying t=Xa (.map k e)->fp P k=Xd/\jP P e=Xd)(h:ai c r x x')(k:ai c r y y'):ab P c r (Instr.lookup t x y ok) (Instr.lookup t x' y' ok) (ai c):=by refine ab.bind (ab.e9 (aY t)) λr1 d S F I=>?_;obtain⟨rfl,I⟩:=I;cases S with|map J q=>obtain⟨C,R⟩:=Z J q I;let B(A:bB)(a b:Xe×Bool):Prop:=ai c A a.1 b.1/\b.2=a.2;(cases h.mono F with|k6=>refine ab.bind (Q:=λA a b=>lR c A a b) (ab.pure ⟨rfl,λi e e' a=>by simp at a⟩) λr2 T E G m=>?_;refine ab.bind (ab.checkKey _ _ C 9999) λr3 _ _ w _=>?_;refine ab.bind (ab.findKey O C (k.mono (bB.le_trans F (bB.le_trans G w))) (by simpa using m.mono w)) λr4 z N U p=>?_;(match z,N,p with|none,Xl,_=>refine ab.bind (ab.zero R) λK u u' V n=>?_;obtain⟨rfl,n⟩:=n;refine ab.bind (Q:=B) (ab.pure ⟨n c K,rfl⟩) λL a b H g=>?_;obtain⟨v,o⟩:=a;obtain⟨j,f⟩:=g;subst f;refine ab.pure ?_;split;{exact .kZ (aj.push (aj.single j) (.bool _))};{exact j}|some (_,_),Xa (_,_),p=>refine ab.bind (Q:=B) (ab.pure ⟨p.2,rfl⟩) λL a b H g=>?_;obtain⟨v,o⟩:=a;obtain⟨j,f⟩:=g;subst f;refine ab.pure ?_;split;{exact .kZ (aj.push (aj.single j) (.bool _))};·exact j)|map Y=>refine ab.getObj Y λo D _ X W=>?_;(cases X with|map kk s e=>refine ab.bind (Q:=λA a b=>lR c A a b) (ab.pure ⟨s,e⟩) λr2 T E G m=>?_;refine ab.bind (ab.checkKey _ _ C 9999) λr3 _ _ w _=>?_;refine ab.bind (ab.findKey O C (k.mono (bB.le_trans F (bB.le_trans G w))) (by simpa using m.mono w)) λr4 z N U p=>?_;(match z,N,p with|none,Xl,_=>refine ab.bind (ab.zero R) λK u u' V n=>?_;obtain⟨rfl,n⟩:=n;refine ab.bind (Q:=B) (ab.pure ⟨n c K,rfl⟩) λL a b H g=>?_;obtain⟨v,o⟩:=a;obtain⟨j,f⟩:=g;subst f;refine ab.pure ?_;split;{exact .kZ (aj.push (aj.single j) (.bool _))};{exact j}|some (_,_),Xa (_,_),p=>refine ab.bind (Q:=B) (ab.pure ⟨p.2,rfl⟩) λL a b H g=>?_;obtain⟨v,o⟩:=a;obtain⟨j,f⟩:=g;subst f;refine ab.pure ?_;split;{exact .kZ (aj.push (aj.single j) (.bool _))};·exact j)|cells _ _ _=>exact absurd rfl (W _ _ _)|_=>exactλ_ _ _=>rfl)|_=>exactλ_ _ _=>rfl)|_=>exact ab.stuck
end
section
variable{c:dH}{r:bB}
def Ms:Xe->Bool
 |.string _|.bool _=>Xd
 |_=>Ww
def AP(P:XF)(t:XD):Bool:=match P.underlying t with|some .string|some .bool=>Xd|_=>Ww
theorem Bo(h:AP P t=Xd):fp P t=Xd:=by unfold AP at h;unfold fp;grind
theorem wP(n:Nat)(h:ai c r x x')(k:ai c r y y')(b:Ms y=Xd):Instr.sameBits n x' y'=Instr.sameBits n x y:=by cases k<;>simp[Ms]at b<;>cases h<;>cases n<;>rfl
theorem ab.G6(b:AP P t=Xd)(i:Ms x=Ww)(l h:List X7)(k:lR c r l.toArray h.toArray):ab P c r (Instr.findKey t x l) (Instr.findKey t x' h) λ_ u n=>u=Xl/\n=Xl:=by unfold AP at b;cases g:P.underlying t with|none=>rw[g]at b;simp at b|some d=>rw[g]at b;unfold Instr.findKey;refine ab.bind (ab.e9 (aY t)) λq o j p f=>?_;obtain⟨rfl,f⟩:=f;rw[g]at f;cases f;cases l with|nil=>(have:h=[]:=by have:=k.1;grind);subst this;exact ab.pure ⟨rfl,rfl⟩|cons e l=>(have m:Instr.findNow d x (e::l) 0=Xl:=by(have:Instr.sameNow d x e.key=Xl:=by cases d<;>simp at b<;>cases x<;>simp[Ms]at i<;>rfl);simp[Instr.findNow,this]);simp only[m];refine ab.never ?_;unfold Instr.findAsking;refine gG ?_;show kV P (Op.equalIn (9999+1) t x e.key);unfold Op.equalIn;intro w;rw[XU.run_bind,kq g w];cases d<;>simp at b<;>cases x<;>simp[Ms]at i<;>exact⟨_,_,rfl,rfl⟩
theorem uB(hc:Fits P c)(ht:∀k e,P.underlying t=Xa (.map k e)->AP P k=Xd){z':Xe}(h:ai c r x x')(k:ai c r y y')(l:ai c r z z'):ab P c r (Instr.mapUpdate t x y z) (Instr.mapUpdate t x' y' z') λ_ _ _=>True:=by unfold Instr.mapUpdate;refine ab.bind (ab.e9 (aY t)) λr1 d d' R S=>?_;obtain⟨rfl,S⟩:=S;cases d' with|map A E=>have G:=ht A E S;have hk:=Bo G;(cases h.mono R with|k6=>exact ab.runtimePanic|map I=>refine ab.getObj I λo o' ns ho X=>?_;(cases ho with|map kk s e=>rename_i F m;have g:lR c r1 F m:=⟨s,e⟩;refine ab.bind (ab.checkKey _ _ hk 9999) λr2 _ _ C _=>?_;have B:=(k.mono R).mono C;(have w:ab P c r2 (Instr.findKey A y F.toList) (Instr.findKey A y' m.toList) λZ u M=>JE c Z u M/\(Ms y=Ww->u=Xl):=by by_cases hy:Ms y=Ww;{refine(ab.G6 G hy _ _ (by simpa using g.mono C)).mono λZ u M _ h=>?_;obtain⟨rfl,rfl⟩:=h;exact⟨trivial,λ_=>rfl⟩};exact(ab.findKey hc hk B (by simpa using g.mono C)).mono λZ u M _ h=>⟨h,λe=>absurd e hy⟩);refine ab.bind w λr3 u M N J=>?_;obtain⟨J,K⟩:=J;have B:=B.mono N;have lr:=((l.mono R).mono C).mono N;have g:=(g.mono C).mono N;have I:=N _ _ (C _ _ I);(match u,M,J,K with|none,Xl,_,_=>refine ab.setObj I ns (.map (kk+1) (by grind) λi e O a b=>?_) rfl;rw[U2]at a b;rw[<-g.1]at b;split at a;{cases a;rw[if_pos ‹_›]at b;cases b;exact⟨B,lr,rfl⟩};{rw[if_neg ‹_›]at b;exact g.2 i e O a b}|some (i,_),Xa (v,_),J,K=>(have Y:Ms y=Xd:=by simp_all);obtain⟨W,_⟩:=J;subst W;(have p:ai c r3 (((F[v]?).map (·.key)).getD y) (((m[v]?).map (·.key)).getD y'):=by cases V:F[v]? with|none=>simp_all|some Q=>(have H:v<m.size:=by grind);have:=g.2 v Q m[v] V (UB H);rw[UB H];exact this.key);(have L:ab P c r3 (Instr.keyThatStays (((F[v]?).map (·.key)).getD y) y) (Instr.keyThatStays (((m[v]?).map (·.key)).getD y') y') (ai c):=by unfold Instr.keyThatStays;rw[wP 10000 p B Y];refine ab.ite (λ_=>ab.pure B) λ_=>?_;refine ab.bind (ab.cN (iD _)) λr4 n n' D X=>?_;subst X;refine ab.pure ?_;split;{exact B.mono D};exact p.mono D);refine ab.bind L λr4 q q' D hq=>?_;refine ab.setObj (D _ _ I) ns (.map kk (by grind) λj e O a b=>?_) rfl;rw[Vi]at a b;split at a;{rw[if_pos ‹_›]at b;obtain⟨Q,T,rfl⟩:=UA.1 a;obtain⟨e1,U,rfl⟩:=UA.1 b;exact⟨hq,lr.mono D,((g.2 j Q e1 T U).born)⟩};·rw[if_neg ‹_›]at b;exact(g.2 j e O a b).mono D)|cells _ _ _=>exact absurd rfl (X _ _ _)|_=>exactλ_ _ _=>rfl)|_=>exact ab.stuck)|_=>exact ab.stuck
theorem EC(k:P.underlying t=Xa .string)(h:ai c r x x'):ab P c r (Instr.range t x) (Instr.range t x') (ai c):=by unfold Instr.range;refine ab.bind (ab.e9 (aY t)) λv d n i f=>?_;obtain⟨rfl,f⟩:=f;rw[k]at f;cases f;cases h.mono i with|string s=>exact ab.bind (Q:=λl a b=>lX c l a b) (ab.pure (.iter s 0)) λw o u p j=>ab.bind (ab.newObj j) λy b m q g=>ab.pure (.ptr ⟨g.1,rfl,rfl,Vt g.2⟩)|_=>exactλ_ _ _=>rfl
theorem FK(h:ai c r x x'):ab P c r (Instr.next x Xd t) (Instr.next x' Xd t) (ai c):=by unfold Instr.next;cases h with|ptr m=>rename_i a l;obtain⟨b,v,k⟩:=a;obtain⟨w,e,i⟩:=l;obtain⟨g,f,j,-⟩:=m;simp only at g f j;subst f j;(cases e with|succ n=>exact ab.stuck|zero=>refine ab.getObj g λo z u f q=>?_;cases f with|iter s p=>refine ab.ite (λ_=>?_) λ_=>ab.pure (.kZ (aj.single (.bool _)));refine ab.bind (ab.setObj g u (.iter s _) rfl) λA _ _ y _=>ab.pure (.kZ ?_);exact((aj.single (.bool _)).push (.int _ _)).push (.int _ _)|cells _ _ _=>exact absurd rfl (q _ _ _)|_=>exact ab.stuck)|_=>exact ab.stuck
theorem oL:∀(l l':List Xe){r:bB},l.length=l'.length->(∀(i:Nat)(v v':Xe),l[i]?=Xa v->l'[i]?=Xa v'->ai c r v v')->∀s:ByteArray,ab P c r (forIn l s λc r=>(match c with|.int .u8 n=>Pure.pure (ForInStep.yield (r.push (UInt8.ofNat n.toNat)))|_=>(λ_:PUnit=>ForInStep.yield r)<$>stuck "bytesToString: byte expected" :XU (ForInStep ByteArray))) (forIn l' s λc r=>(match c with|.int .u8 n=>Pure.pure (ForInStep.yield (r.push (UInt8.ofNat n.toNat)))|_=>(λ_:PUnit=>ForInStep.yield r)<$>stuck "bytesToString: byte expected" :XU (ForInStep ByteArray))) λ_ x y=>x=y|[],[],_,_,_,s=>by rw[List.forIn_nil];exact ab.pure rfl|[],_::_,_,h,_,_=>by cases h|_::_,[],_,h,_,_=>by cases h|v::l,v'::l',r,h,hv,s=>by rw[List.forIn_cons,List.forIn_cons];have h0:ai c r v v':=hv 0 v v' rfl rfl;have hl:∀(i:Nat)(u u':Xe),l[i]?=Xa u->l'[i]?=Xa u'->ai c r u u':=λi u u' a b=>hv (i+1) u u' a b;refine ab.bind (Q:=λ_(x y:ForInStep ByteArray)=>x=y/\∃z,x=.yield z) ?_ λr1 x y hle e=>?_;{cases h0 with|int k n=>(cases k<;>first|exact ab.pure ⟨rfl,_,rfl⟩|exactλ_ _ _=>rfl)|_=>exactλ_ _ _=>rfl};obtain⟨rfl,z,rfl⟩:=e;exact oL l l' (by simpa using h) (λi u u' a b=>(hl i u u' a b).mono hle) z
theorem oJ(h:ai c r x x'):ab P c r (Conv.bytesToString x) (Conv.bytesToString x') (ai c):=by(have key:∀{a a':XY}{n:Nat}{r:bB},ab P c r (Go.loadCells a n) (Go.loadCells a' n) (aj c)->ab P c r (Conv.bytesToString (.slice (Xa a) n 0)) (Conv.bytesToString (.slice (Xa a') n 0)) (ai c):=λ{a a' n r}h=>by unfold Conv.bytesToString;refine ab.bind h λr1 y y' hle hy=>?_;(refine ab.bind (Q:=λ_ x y=>x=y) ?_ λr2 z z' _ e=>by subst e;exact ab.pure (.string _));have:=oL (P:=P) (c:=c) y.toList y'.toList (r:=r1) (by simpa using hy.size) (λi u u' a b=>hy.el i u u' (by simpa using a) (by simpa using b)) ByteArray.empty;simp only[Array.forIn_toList]at this;exact this);cases h with|gC n m=>exact ab.pure (.string _)|slice n m h=>exact key (ab.loadCells h n)|cE a a'=>exact key (n:=0) (ab.pure .empty)|_=>exact ab.stuck
def Gd(P:XF)(s d:XD):Bool:=match P.underlying s,P.underlying d with|some (.int _),Xa (.int _)|some (.int _),Xa .string|some .string,Xa .string=>Xd|some (.slice e),Xa .string=>(match P.underlying e with|some (.int .u8)=>Xd|_=>Ww)|_,_=>Ww
theorem DV{e0:XD}(h:P.underlying e0=Xa (.int .u8))(k:ai c r x x'):ab P c r (do match<-underlying e0 with|.int .u8=>Conv.bytesToString x|.int .i32=>Conv.runesToString x|_=>stuck "Convert: a slice of what to string?") (do match<-underlying e0 with|.int .u8=>Conv.bytesToString x'|.int .i32=>Conv.runesToString x'|_=>stuck "Convert: a slice of what to string?") (ai c):=by refine ab.bind (ab.e9 (aY e0)) λo a i j e=>?_;obtain⟨rfl,e⟩:=e;rw[h]at e;cases e;exact oJ (k.mono j)
theorem zD{s d:XD}(h:Gd P s d=Xd)(k:ai c r x x'):ab P c r (convert s d x) (convert s d x') (ai c):=by unfold Go.convert;refine ab.bind (ab.e9 (aY s)) λo a i j e=>?_;obtain⟨rfl,e⟩:=e;refine ab.bind (ab.e9 (aY d)) λp b g l f=>?_;obtain⟨rfl,f⟩:=f;have k:=(k.mono j).mono l;unfold Gd at h;rw[e,f]at h;cases i with|int q=>(cases g with|int n=>(cases k<;>first|exact ab.pure (.int _ _)|exact ab.unsupported)|string=>(cases k<;>first|exact ab.pure (.string _)|exact ab.unsupported)|_=>simp at h)|string=>(cases g with|string=>(cases k<;>first|exact ab.pure (.string _)|exact ab.unsupported)|_=>simp at h)|slice e0=>(cases g with|string=>(have hb:P.underlying e0=Xa (.int .u8):=by simp only at h;split at h;{assumption};cases h);have gen:=λ{y y'}(k:ai c p y y')=>DV (P:=P) hb k;(cases k with|int k n=>exact ab.pure (.string _)|string s=>exact ab.pure (.string _)|bool b=>exact gen (.bool b)|gi=>exact gen .gi|ptr h=>exact gen (.ptr h)|gC n m=>exact gen (.gC n m)|slice n m h=>exact gen (.slice n m h)|cE a a'=>exact gen (.cE a a')|k6=>exact gen .k6|map h=>exact gen (.map h)|func h1 h2 h3 h4 h5=>exact gen (.func h1 h2 h3 h4 h5)|nilFunc=>exact gen .nilFunc|nilIface=>exact gen .nilIface|iface t h=>exact gen (.iface t h)|agg h1 h2=>exact gen (.agg h1 h2)|tuple h1 h2=>exact gen (.tuple h1 h2))|_=>simp at h)|_=>simp at h
end
section
variable{c:dH}{r:bB}
def cl(c:dH)(gl:Nat->Bool):XN->Bool
 |.tmp _=>Xd
 |.const v=>jO 100 v
 |.global g=>gl g
 |.func f=>c.fns f
def zH(P:XF)(t:XD):Bool:=match P.underlying t with|some (.slice e)=>jP P e|_=>Xd
def PO(P:XF)(t:XD):Bool:=match P.underlying t with|some (.map k e)=>fp P k&&jP P e|_=>Xd
def On(P:XF)(t:XD):Bool:=match P.underlying t with|some (.map k _)=>AP P k|_=>Xd
def BP(P:XF)(s:XD)(n:Nat):Bool:=match P.underlying s with|some (.struct fs)=>(match fs[n]? with|some f=>P.cellsOf f.type !=0|none=>Xd)|_=>Xd
def Cs(P:XF)(t:Option XD):Bool:=match t with|some s=>(match P.underlying s with|some (.int _)=>Ww|_=>Xd)|none=>Xd
def NG(P:XF)(t:Option XD):Bool:=match t with|some s=>zH P s|none=>Xd
def isEq:BinOp->Bool
 |.eql|.neq=>Xd
 |_=>Ww
def Ii(P:XF)(t:XD):Bool:=match P.underlying t with|some .string=>Xd|_=>Ww
def BH(P:XF)(c:dH)(gl:Nat->Bool)(k:Call):Bool:=
 k.args.all (cl c gl)&&match k.callee with
 |.value f=>cl c gl f
 |.builtin .len|.builtin .max|.builtin .min=>Xd
 |.builtin .append=>NG P k.argTypes[0]?&&Cs P k.argTypes[1]?
 |_=>Ww
def II(P:XF):XN->Bool
 |.global g=>decide (g<P.globals.size)
 |_=>Ww
def ub(P:XF)(c:dH)(gl:Nat->Bool)(o:X9):Bool:=
 match o.op with
 |.load _ x=>cl c gl x||II P x
 |.move x|.assign x|.box _ x|.nilCheck x|.unOp _ _ x|.field _ x _|.extract x _=>cl c gl x
 |.pick a b d=>cl c gl a&&cl c gl b&&cl c gl d
 |.alloc e=>jP P e
 |.build t ps=>jP P t&&ps.all λp=>cl c gl p.2
 |.buildSlice t _ ps=>zH P t&&ps.all λp=>cl c gl p.2
 |.store _ a x|.indexAddr _ a x|.index _ a x=>cl c gl a&&cl c gl x
 |.binOp op t x y _=>cl c gl x&&cl c gl y&&(!isEq op||fp P t)
 |.convert s d x=>Gd P s d&&cl c gl x
 |.makeFunc fn first captured=>Iz c fn&&first.all (cl c gl)&&captured.all (cl c gl)
 |.makeMap _ Xl=>Xd
 |.makeSlice t l k=>zH P t&&cl c gl l&&cl c gl k
 |.slice _ x lo hi mx=>cl c gl x&&lo.all (cl c gl)&&hi.all (cl c gl)&&mx.all (cl c gl)
 |.fieldAddr s x n=>BP P s n&&cl c gl x
 |.lookup t x i _=>PO P t&&cl c gl x&&cl c gl i
 |.mapUpdate t m k v=>On P t&&cl c gl m&&cl c gl k&&cl c gl v
 |.range t x=>Ii P t&&cl c gl x
 |.next it Xd=>cl c gl it
 |.call k=>BH P c gl k
 |_=>Ww
inductive xC(c:dH)(r:bB):Next->Next->Prop
 |value{v v':Xe}:ai c r v v'->xC c r (.value v) (.value v')
 |skip:xC c r .skip .skip
 |enter{f:XI}{x x':Array Xe}:c.fns f=Xd->aj c r x x'->xC c r (.enter f x) (.enter f x')
def Ck(P:XF)(c:dH):Prop:=
 ∀(f:XI)(fn:Func),c.fns f=Xd->P.funcs[f]?=Xa fn->(fn.name== "runtime.NumGoroutine")=Ww/\(fn.body=Xl->Extern.findNext fn=Xl/\∃e,Extern.find fn=Xa e/\
   ∀(r:bB)(x x':Array Xe),aj c r x x'->ab P c r (e x) (e x') (ai c))
theorem ab.value{x:XU Xe}{y:XU Xe}(h:ab P c r x y (ai c)):ab P c r (do Pure.pure (Next.value (<-x))) (do Pure.pure (Next.value (<-y))) (xC c):=ab.bind h λ_ _ _ _ k=>ab.pure (.value k)
theorem ab.unit{x:XU Unit}{y:XU Unit}(h:ab P c r x y λ_ _ _=>True):ab P c r (do x;Pure.pure Next.skip) (do y;Pure.pure Next.skip) (xC c):=ab.bind h λ_ _ _ _ _=>ab.pure .skip
theorem ab.AZ(f:XI):ab P c r (mark (.extern f)) (mark (.extern f)) λ_ _ _=>True:=by intro w v b;refine⟨(),v,r,rfl,.refl b,trivial,λe a=>?_⟩;simp at a;subst a;exact .inr (.inr ⟨f,rfl⟩)
theorem xu(l:Ck P c)(i:c.fns f=Xd){x x':Array Xe}(h:aj c r x x'):ab P c r (callFunc f x) (callFunc f x') (xC c):=by refine ab.bind (ab.e9 bO) λw p u g m=>?_;obtain⟨rfl,rfl⟩:=m;cases a:u.funcs[f]? with|none=>exact ab.stuck|some d=>obtain⟨s,t⟩:=l f d i a;simp only[a,s,UO];cases k:d.body with|some b=>exact ab.pure (.enter i (h.mono g))|none=>obtain⟨n,e,o,q⟩:=t k;simp only[n,o];exact ab.bind (ab.AZ f) λv _ _ j _=>ab.value (q v x x' ((h.mono g).mono j))
theorem vR(a:∀x,cl c gl x=Xd->ai c r (ev x) (ev' x)){l:Array XN}(h:l.all (cl c gl)=Xd):aj c r (l.map ev) (l.map ev'):=aj.map l ev ev' λx b=>a x (by rw[VV]at h;grind)
theorem vO(a:∀x,cl c gl x=Xd->ai c r (ev x) (ev' x)){l:Array (Nat×XN)}(h:(l.all λp=>cl c gl p.2)=Xd):BJ c r (l.map λ(i,x)=>(i,ev x)) (l.map λ(i,x)=>(i,ev' x)):=by refine⟨?_,?_⟩;{simp};(have e:∀g:XN->Xe,((l.map λp=>(p.1,g p.2)).toList.map (·.2)).toArray=l.map λp=>g p.2:=by grind);rw[e ev,e ev'];refine aj.map l _ _ λp b=>a p.2 ?_;rw[VV]at h;grind
theorem xB(a:∀x,cl c gl x=Xd->ai c r (ev x) (ev' x)):∀{x:Option XN},x.all (cl c gl)=Xd->ko c r (x.map ev) (x.map ev')|none,_=>trivial|some x,h=>a x (by grind)
theorem xy(o:X9)(y:XN)(ev ev':XN->Xe)(l:o.op=.nilCheck y)(e:ev y=x)(i:ev' y=x')(h:ai c r x x'):ab P c r (Xp ev o) (Xp ev' o) (xC c):=by unfold Xp;rw[l];simp only[e,i];cases h with|gi=>exact ab.runtimePanic|nilIface=>exact ab.runtimePanic|nilFunc=>exact ab.runtimePanic|bool b=>exact ab.pure (.value (.bool b))|int k n=>exact ab.pure (.value (.int k n))|string s=>exact ab.pure (.value (.string s))|ptr a=>exact ab.pure (.value (.ptr a))|gC n m=>exact ab.pure (.value (.gC n m))|slice n m a=>exact ab.pure (.value (.slice n m a))|cE a f=>exact ab.pure (.value (.cE a f))|k6=>exact ab.pure (.value .k6)|map a=>exact ab.pure (.value (.map a))|@func j z B u A d p q v w=>(cases j with|func g=>exact ab.pure (.value (.func d p q v w))|_=>simp[Iz]at d)|iface t a=>exact ab.pure (.value (.iface t a))|agg a b=>exact ab.pure (.value (.agg a b))|tuple a b=>exact ab.pure (.value (.tuple a b))
theorem lW(h:zH P t=Xd):∀e,P.underlying t=Xa (.slice e)->jP P e=Xd:=λe a=>by unfold zH at h;simp_all
theorem Hw(h:On P t=Xd):∀k e,P.underlying t=Xa (.map k e)->AP P k=Xd:=λk e a=>by unfold On at h;simp_all
theorem Jd(h:PO P t=Xd):∀k e,P.underlying t=Xa (.map k e)->fp P k=Xd/\jP P e=Xd:=λk e a=>by unfold PO at h;simp_all
theorem uo(h:BP P t n=Xd):∀fs f,P.underlying t=Xa (.struct fs)->fs[n]?=Xa f->P.cellsOf f.type≠0:=λfs f a b=>by unfold BP at h;simp_all
theorem IZ(N:Fits P c)(K:Ck P c){k:Call}(t:XD)(i:BH P c gl k=Xd)(B:∀x,cl c gl x=Xd->ai c r (ev x) (ev' x)):ab P c r (do let d<-resolve ev k t;invoke d.target d.args) (do let d<-resolve ev' k t;invoke d.target d.args) (xC c):=by unfold BH at i;simp only[Uv]at i;obtain⟨I,i⟩:=i;have h:=vR B I;obtain⟨l,m,A⟩:=k;unfold resolve;cases l with|invoke x n=>simp at i|value f=>have E:=B f i;simp only[];generalize ev f=q at E;generalize ev' f=O at E;(cases E with|@func J z R u M a b d e g=>(cases J with|func j=>refine ab.bind (Q:=λG x y=>x.target=.fn (.func j) u/\y.target=.fn (.func j) M/\aj c G x.args y.args) (ab.pure ⟨rfl,rfl,(aj.mk b d).append h⟩) λL x y H p=>?_;obtain⟨C,D,v⟩:=p;rw[C,D];exact xu K (by assumption) (v.append ((aj.mk e g).mono H))|_=>simp[Iz]at a)|nilFunc=>exact ab.never (λw=>dV RuntimeError.nilDeref w)|_=>exactλ_ _ _=>rfl)|builtin b=>refine ab.bind (Q:=λG x y=>x.target=.builtin b A t (m.map λ|.const _=>Xd|_=>Ww)/\y.target=.builtin b A t (m.map λ|.const _=>Xd|_=>Ww)/\aj c G x.args y.args) (ab.pure ⟨rfl,rfl,h⟩) λL x y H p=>?_;obtain⟨C,D,v⟩:=p;rw[C,D];cases b with|len=>exact ab.value (LD _ _ v)|max=>exact ab.value (LG _ _ v)|min=>exact ab.value (JI _ _ v)|append=>simp only[Uv]at i;refine ab.value (Bv (λs e F o=>?_) (λs k F o=>?_) v);{have:=i.1;rw[F]at this;exact lW this e o};have:=i.2;rw[F]at this;simp[Cs,o]at this|_=>simp at i
theorem sE(w:Fits P c)(H:Ck P c){o:X9}(j:ub P c gl o=Xd)(f:∀x,cl c gl x=Xd->ai c r (ev x) (ev' x))(z:∀g,ev (.global g)=ϖ g/\ev' (.global g)=ϖ g):ab P c r (Xp ev o) (Xp ev' o) (xC c):=by unfold ub at j;obtain⟨E,D,O,K,A,guard⟩:=o;cases D with|move x=>exact ab.pure (.value (f x j))|assign x=>exact ab.pure (.value (f x j))|pick a b d=>simp only[Uv]at j;refine ab.bind (ab.asBool (f a j.1.1)) λM u V C I=>?_;subst I;refine ab.pure (.value ?_);split;{exact(f b j.1.2).mono C};exact(f d j.2).mono C|alloc e=>exact ab.value (AQ j)|box e x=>exact ab.value (Ly e (f x j))|build t L=>simp only[Uv]at j;exact ab.value (Ej j.1 (vO f j.2))|buildSlice t n L=>simp only[Uv]at j;exact ab.value (tK (lW j.1) (vO f j.2))|load t a=>rcases Vz ..▸j with j|j;{exact ab.value (AK t (f a j))};(cases a with|global g=>refine ab.value ?_;rw[(z g).1,(z g).2];exact ab.bind (Q:=λ_ a b=>a=⟨g,0,Xl⟩/\b=⟨g,0,Xl⟩) (ab.pure ⟨rfl,rfl⟩) λM a b C⟨F,G⟩=>by subst F G;exact ab.Gy w (by rw[w.aJ];simpa[II]using j) t|_=>simp[II]at j)|store t a x=>simp only[Uv]at j;exact ab.unit (zn t (f a j.1) (f x j.2))|nilCheck x=>exact xy _ x ev ev' rfl rfl rfl (f x j)|binOp D t x y u=>simp only[Uv,Vz,We]at j;exact ab.value (DN w (λe=>by rcases j.2 with h|h;{rcases e with rfl|rfl<;>simp[isEq]at h};exact h) (f x j.1.1) (f y j.1.2))|unOp D t x=>exact ab.value (Dg (f x j))|convert s d x=>simp only[Uv]at j;exact ab.value (zD j.1 (f x j.2))|makeFunc R B q=>simp only[Uv]at j;exact ab.value (vU j.1.1 (vR f j.1.2) (vR f j.2))|makeMap t N=>(cases N with|none=>exact ab.value Ae|some _=>simp at j)|makeSlice t l k=>simp only[Uv]at j;exact ab.value (uj (lW j.1.1) (f l j.1.2) (f k j.2))|slice t x T S U=>simp only[Uv]at j;exact ab.value (xL t (f x j.1.1.1) (xB f j.1.1.2) (xB f j.1.2) (xB f j.2))|fieldAddr s x n=>simp only[Uv]at j;exact ab.value (zx s n (uo j.1) (f x j.2))|field t x n=>exact ab.value (Eu t n (f x j))|indexAddr t x i=>simp only[Uv]at j;exact ab.value (xP t (f x j.1) (f i j.2))|index t x i=>simp only[Uv]at j;exact ab.value (Dv t (f x j.1) (f i j.2))|lookup t x i b=>simp only[Uv]at j;exact ab.value (Bs w (Jd j.1.1) (f x j.1.2) (f i j.2))|mapUpdate t m k v=>simp only[Uv]at j;exact ab.unit (uB w (Hw j.1.1.1) (f m j.1.1.2) (f k j.1.2) (f v j.2))|range t x=>simp only[Uv]at j;refine ab.value (EC ?_ (f x j.2));have:=j.1;unfold Ii at this;grind|next J b=>(cases b with|true=>exact ab.value (FK (f J j))|false=>simp at j)|extract x n=>exact ab.value (zF n (f x j))|call k=>exact IZ w H O j f|_=>simp at j
end
section
variable{c:dH}{r:bB}
def codeOk(P:XF)(c:dH)(gl:Nat->Bool):Ya->Bool
 |.skip|.exit _|.label _|.ret|.refuse _=>Xd
 |.region _ ops _=>ops.all (ub P c gl)
 |.seq a b=>codeOk P c gl a&&codeOk P c gl b
 |.cond x a b=>cl c gl x&&codeOk P c gl a&&codeOk P c gl b
 |.block _ a|.loop a|.scope a=>codeOk P c gl a
 |_=>Ww
def opAt(P:XF)(c:dH)(gl:Nat->Bool)(ops:Array X9)(i:Nat):Bool:=match ops[i]? with|some o=>ub P c gl o|none=>Xd
theorem Is{c:dH}(h:ops.all (ub P c gl)=Xd)(l:List Nat):l.all (opAt P c gl ops)=Xd:=by rw[UT];intro i _;unfold opAt;grind
theorem mP{c:dH}{o:X9}(h:(i::rest).all (opAt P c gl ops)=Xd)(a:ops[i]?=Xa o):ub P c gl o=Xd:=by simp only[UY,Uv]at h;have:=h.1;unfold opAt at this;simp_all
theorem uR{c:dH}(h:(i::rest).all (opAt P c gl ops)=Xd):rest.all (opAt P c gl ops)=Xd:=by simp_all
def aV(P:XF)(c:dH)(gl:Nat->Bool):XV->Bool
 |.code a|.inLoop a|.inScope a=>codeOk P c gl a
 |.inBlock _=>Xd
 |.inRegion ops l=>l.all (opAt P c gl ops)
 |_=>Ww
def cm(f:XI)(t:Array Xe)(k:List XV)(m:FrameMode):Xy:={fn:=f,tmps:=t,todo:=k,defers:=[],mode:=m,kind:=.normal,roundOf:=Xl}
def md(ret:Bool):FrameMode:=if ret then .returning else .run
structure cD where
 f:XI
 t:Array Xe
 k:List XV
 ret:Bool
 st:List (XI×Array Xe×List XV)
def up(x:XI×Array Xe×List XV):Xy:=cm x.1 x.2.1 x.2.2 .run
def cD.g(s:cD)(base:List Xy):Xm:=Go.Conc.G (cm s.f s.t s.k (md s.ret)) (s.st.map up++base)
structure xc(P:XF)(c:dH)(gl:Nat->Bool)(s:cD):Prop where
 fn:True
 items:s.k.all (aV P c gl)=Xd
 below:∀x∈s.st,True/\x.2.2.all (aV P c gl)=Xd/\∃ops i rest k,x.2.2=.inRegion ops (i::rest)::k
inductive kQ(c:dH)(r:bB):List (XI×Array Xe×List XV)->List (XI×Array Xe×List XV)->Prop
 |nil:kQ c r [] []
 |cons{f:XI}{t t':Array Xe}{k:List XV}{l l':List (XI×Array Xe×List XV)}:aj c r t t'->kQ c r l l'->kQ c r ((f,t,k)::l) ((f,t',k)::l')
structure ou(c:dH)(r:bB)(s s':cD):Prop where
 f:s'.f=s.f
 t:aj c r s.t s'.t
 k:s'.k=s.k
 ret:s'.ret=s.ret
 st:kQ c r s.st s'.st
theorem kQ.mono{r r':bB}(h:r.le r'){l l':List (XI×Array Xe×List XV)}(k:kQ c r l l'):kQ c r' l l':=by induction k with|nil=>exact .nil|cons a _ b=>exact .cons (a.mono h) b
structure Listed(P:XF)(c:dH)(gl:Nat->Bool):Prop where
 aJ:Fits P c
 qj:∀g,gl g=Xd->c.low g=0
 ext:Ck P c
 body:∀(f:XI)(fn:Func),c.fns f=Xd->P.funcs[f]?=Xa fn->∃b,(fn.body=Xl\/(fn.body=Xa b/\codeOk P c gl b=Xd))
def ey:Xy:={fn:=0,tmps:=#[],todo:=[],defers:=[{target:=.builtin .make #[] 0 #[],args:=#[]}],mode:=.run,kind:=.normal}
def PW(s:GStep):Prop:=(∃o w,s.bare=.ended o w)\/∃(f:XI)(t:Array Xe)(k:List XV)(ch:List PanicEntry)(st:List (XI×Array Xe×List XV))(w:Xg)(es:Array X3),
 s=.go (Go.Conc.G (cm f t k (.panicking ch)) (st.map up++[ey])) w es/\(∀d w r sv,k.head?≠Xa (.call d w r sv))/\∀x∈st,∃ops i rest k',x.2.2=.inRegion ops (i::rest)::k'
theorem pM{t:Array Xe}(e:aj c r t t')(d:∀g,gl g=Xd->r g=Xa g)(b:∀g,gl g=Xd->c.low g=0){k:List XV}{m:FrameMode}(x:XN)(h:cl c gl x=Xd):ai c r ((cm f t k m).eval x) ((cm f t' k m).eval x):=by cases x with|tmp i=>exact e.getD i fO|const v=>exact iB h c r|global g=>exact .ptr ⟨d g h,rfl,rfl,Vt (b g h)⟩|func j=>exact .func (by assumption) rfl (λi v l a=>by simp at a) rfl (λi v l a=>by simp at a)
theorem mH{t:Array Xe}(a:aj c r t t')(ops:Array X9)(j:Nat):XE ops t' j=XE ops t j:=by unfold XE;cases(ops[j]?).bind (·.dst)with|none=>rfl|some d=>simp only[Vm];cases b:t[d]? with|none=>rw[a.none b]|some v=>obtain⟨f,e,k⟩:=a.get b;rw[e];cases k<;>rfl
theorem cK{t:Array Xe}{k:List XV}(v:Xe):(cm f t (.inRegion ops (i::rest)::k) .run).finish v=cm f (match(ops[i]?).bind (·.dst)with|some d=>t.setIfInBounds d v|none=>t) (.inRegion ops rest::k) .run:=rfl
theorem oZ{t:Array Xe}(a:aj c r t t')(d:Option Tmp){v:Xe}(b:ai c r v v'):aj c r (match d with|some d=>t.setIfInBounds d v|none=>t) (match d with|some d=>t'.setIfInBounds d v'|none=>t'):=by cases d with|none=>exact a|some d=>exact a.set d b
end
end Go.ab
namespace Go.ab
open Go.Conc
variable{P:XF}{c:dH}{r r':bB}{gl live:Nat->Bool}{w v v' w2 w' v1 v2:Xg}{main u:Bool}{bs cs:List Xy}{f f0:XI}{t t' args t0 x' tl:Array Xe}{k k1 k0 k' kr tail kk:List XV}{st st':List (XI×Array Xe×List XV)}{id i j b n g:Nat}{x a cd:Ya}{ops:Array X9}{rest rest':List Nat}{o:X9}{h:Halt}{fn:Func}{α:Type}{s s' s1 s2:cD}{p:cD×Xg}{es:Array X3}{fr' caller F:Xy}{Good:Xe->Xg->Prop}{RO own:Nat->Prop}{CU:Nat->Nat->Prop}{Stop:(Nat->Prop)->Xm->Xg->Prop}{R:Ending->Xg->Prop}{fns:XI->Bool}{Q:Array Xe->Xg->Prop}
section
def Ul(P:XF)(c:dH)(r:bB)(main:Bool)(base:List Xy)(w v:Xg)(s':cD)(s1:cD)(w1:Xg):Prop:=
 ∃s1' v1 r1 es,Xo P main (s'.g base) v=.go (s1'.g base) v1 es/\Ext c r w v r1 w1 v1/\ou c r1 s1 s1'/\∀e∈es,q7 c r1 e
def Stp(P:XF)(c:dH)(gl:Nat->Bool)(r:bB)(main:Bool)(base:List Xy)(w v:Xg)(s s':cD):Prop:=
 (∃s1 w1 es1,Xo P Xd (s.g [ey]) w=.go (s1.g [ey]) w1 es1/\xc P c gl s1/\Ul P c r main base w v s' s1 w1)\/PW (Xo P Xd (s.g [ey]) w)
theorem cD.vG(f:XI)(t:Array Xe)(k:List XV)(a:List (XI×Array Xe×List XV))(bs:List Xy):(cD.mk f t k Ww a).g bs=G (cm f t k .run) (a.map up++bs):=rfl
theorem cD.jd(f:XI)(t:Array Xe)(k:List XV)(a:List (XI×Array Xe×List XV))(bs:List Xy):(cD.mk f t k Xd a).g bs=G (cm f t k .returning) (a.map up++bs):=rfl
theorem Stp.ctl{ret1:Bool}(l:cG c r w v)(j:aj c r t t')(a:kQ c r st st')(b:xc P c gl ⟨f,t,k,Ww,st⟩)(i:k1.all (aV P c gl)=Xd)(h:∀(main:Bool)(cs:List Xy)(w:Xg),Xo P main (G (cm f t k .run) cs) w=.go (G (cm f t k1 (md ret1)) cs) w #[])(d:∀(main:Bool)(cs:List Xy)(w:Xg),Xo P main (G (cm f t' k .run) cs) w=.go (G (cm f t' k1 (md ret1)) cs) w #[]):Stp P c gl r main bs w v ⟨f,t,k,Ww,st⟩ ⟨f,t',k,Ww,st'⟩:=.inl ⟨⟨f,t,k1,ret1,st⟩,w,#[],h _ _ _,⟨b.fn,i,b.below⟩,⟨f,t',k1,ret1,st'⟩,v,r,#[],d _ _ _,.refl l,⟨rfl,j,rfl,rfl,a⟩,λe g=>by simp at g⟩
theorem oA{q:XV->Bool}:∀{k k':List XV},exitTo id k=Xa k'->k.all q=Xd->k'.all q=Xd|[],_,h,_=>by simp[exitTo]at h|x::k,k',h,b=>by simp only[UY,Uv]at b;unfold exitTo at h;split at h;{rename_i d f e;cases e;split at h;{simp_all};exact oA h b.2};{rename_i e;cases e;exact oA h b.2};simp_all
theorem og:Xo P main (G (cm f t (.code .ret::k) .run) cs) w=.go (G (cm f t (.code .ret::k) .returning) cs) w #[]:=by rfl
theorem jV:Xo P main (G (cm f t (.inScope x::k) .run) cs) w=.go (G (cm f t k .run) cs) w #[]:=by rfl
theorem lI:Xo P main (G (cm f t (.code (.scope x)::k) .run) cs) w=.go (G (cm f t (.code x::.inScope x::k) .run) cs) w #[]:=by rfl
theorem jb(h:exitTo id k=Xl):Xo P main (G (cm f t (.code (.exit id)::k) .run) cs) w=.ended (.stuck "exit, goto: no such block or label" ((cm f t (.code (.exit id)::k) .run).pos P)) w #[]:=by simp only[G,Xo,Xo.exec,cm,h,Option.elim,UO,if_false]
theorem j6:Xo P main (G (cm f t (.code (.region id ops Xd)::k) .run) cs) w=match(choose (.order f id)).run P w with|.ok b w=>.go (G (cm f t (.inRegion ops (Region.schedule (P.follows .mixedOrders) ops b)::k) .run) cs) w #[]|.halt _ w=>.ended (.stuck "order" ((cm f t (.code (.region id ops Xd)::k) .run).pos P)) w:=by rfl
theorem stepG_unwanted(h:((ops[i]?).map (Region.wanted · (XE ops t))).getD Ww=Ww):Xo P main (G (cm f t (.inRegion ops (i::rest)::k) .run) cs) w=.go (G ((cm f t (.inRegion ops (i::rest)::k) .run).finish Xq) cs) w #[]:=by simp only[G,Xo,Xo.exec,cm,h,UO,if_false]
section op
variable{w1:Xg}
abbrev nF(f:XI)(t:Array Xe)(ops:Array X9)(i:Nat)(rest:List Nat)(k:List XV):Xy:=cm f t (.inRegion ops (i::rest)::k) .run
theorem jl{v:Xe}(d:ops[i]?=Xa o)(e:Region.wanted o (XE ops t)=Xd)(b:(Xp (nF f t ops i rest k).eval o).run P w=.ok (.value v) w1):Xo P main (G (nF f t ops i rest k) cs) w=.go (G ((nF f t ops i rest k).finish v) cs) w1 (seen P f ((Xp (nF f t ops i rest k).eval o).events P w #[])):=by simp only[cm]at b;simp[G,Xo,Xo.exec,Xo.oper,Xo.apply,Xy.oper?,cm,d,e,b,GStep.after]
theorem kg(d:ops[i]?=Xa o)(e:Region.wanted o (XE ops t)=Xd)(b:(Xp (nF f t ops i rest k).eval o).run P w=.ok .skip w1):Xo P main (G (nF f t ops i rest k) cs) w=.go (G ((nF f t ops i rest k).finish Xq) cs) w1 (seen P f ((Xp (nF f t ops i rest k).eval o).events P w #[])):=by simp only[cm]at b;simp[G,Xo,Xo.exec,Xo.oper,Xo.apply,Xy.oper?,cm,d,e,b,GStep.after]
theorem jv{j:XI}(d:ops[i]?=Xa o)(e:Region.wanted o (XE ops t)=Xd)(b:(Xp (nF f t ops i rest k).eval o).run P w=.ok (.enter j args) w1):Xo P main (G (nF f t ops i rest k) cs) w=.go (G (Xy.enter P j args .normal) (nF f t ops i rest k::cs)) w1 (seen P f ((Xp (nF f t ops i rest k).eval o).events P w #[])):=by simp only[cm]at b;simp[G,Xo,Xo.exec,Xo.oper,Xo.apply,Xy.oper?,cm,d,e,b,GStep.after]
theorem lG{v:Xe}(e:ops[i]?=Xa o)(g:Region.wanted o (XE ops t)=Xd)(d:(Xp (nF f t ops i rest k).eval o).run P w=.halt (.panic v) w1):Xo P main (G (nF f t ops i rest k) cs) w=.go (G (cm f t (.inRegion ops (i::rest)::k) (.panicking [{v,recovered:=Ww}])) cs) w1 (seen P f ((Xp (nF f t ops i rest k).eval o).events P w #[])):=by simp only[cm]at d;simp[G,Xo,Xo.exec,Xo.oper,Xo.apply,Xy.oper?,cm,e,g,d,GStep.after,Xy.raise]
theorem lY(e:ops[i]?=Xa o)(j:Region.wanted o (XE ops t)=Xd)(b:(Xp (nF f t ops i rest k).eval o).run P w=.halt h w1)(d:Ay h=Xd)(l:∀v,h≠.panic v):∃x w2,(Xo P main (G (nF f t ops i rest k) cs) w).bare=.ended x w2:=by simp only[cm]at b;cases h with|panic v=>simp_all|stuck s=>simp[G,Xo,Xo.exec,Xo.oper,Xo.apply,Xy.oper?,cm,e,j,b]|unsupported u=>(cases u with|initOrder g=>simp[Ay]at d|_=>simp[G,Xo,Xo.exec,Xo.oper,Xo.apply,Xy.oper?,cm,e,j,b])|_=>simp[Ay]at d
end op
theorem xc.sZ(b:xc P c gl ⟨f,t,.inRegion ops (i::rest)::k,Ww,st⟩):(i::rest).all (opAt P c gl ops)=Xd/\k.all (aV P c gl)=Xd:=by have:=b.items;simp only[UY,Uv]at this;exact this
theorem gH(args:Array Xe)(a:P.funcs[f]?=Xa fn):Xy.enter P f args .normal=cm f (args++Array.replicate (fn.ntmps-args.size) Xq) [.code (fn.body.getD (.refuse "unsupported: a function without a Go body is entered"))] .run:=by simp[Xy.enter,cm,a]
theorem nY(args:Array Xe)(a:P.funcs[f]?=Xl):Xy.enter P f args .normal=cm f (args++Array.replicate (0-args.size) Xq) [.code (.refuse "unsupported: a function without a Go body is entered")] .run:=by simp[Xy.enter,cm,a]
theorem ze(g:Listed P c gl){j:XI}(f:c.fns j=Xd)(x d:Array Xe):∃n b,(Xy.enter P j x .normal=cm j (x++Array.replicate (n-x.size) Xq) [.code b] .run/\Xy.enter P j d .normal=cm j (d++Array.replicate (n-d.size) Xq) [.code b] .run)/\codeOk P c gl b=Xd:=by cases a:P.funcs[j]? with|none=>exact⟨0,_,⟨nY x a,nY d a⟩,rfl⟩|some e=>refine⟨e.ntmps,_,⟨gH x a,gH d a⟩,?_⟩;obtain⟨b,h|⟨h,i⟩⟩:=g.body j e f a;{rw[h];rfl};simp_all
theorem Mi(I:Listed P c gl)(V:∀g,gl g=Xd->r g=Xa g)(Y:cG c r w v)(E:aj c r t t')(D:kQ c r st st')(A:xc P c gl ⟨f,t,.inRegion ops (i::rest)::k,Ww,st⟩)(z:ops[i]?=Xa o)(a:Region.wanted o (XE ops t)=Xd):Stp P c gl r main bs w v ⟨f,t,.inRegion ops (i::rest)::k,Ww,st⟩ ⟨f,t',.inRegion ops (i::rest)::k,Ww,st'⟩:=by obtain⟨p,R⟩:=A.sZ;have M:=mP p z;have m:=sE I.aJ I.ext M (ev:=(nF f t ops i rest k).eval) (λx q=>pM E V I.qj x q) (λ_=>⟨rfl,rfl⟩) w v Y;(have l:Region.wanted o (XE ops t')=Xd:=by rw[funext λj=>mH E ops j];exact a);unfold Stp;rw[cD.vG];cases q:(Xp (nF f t ops i rest k).eval o).run P w with|halt h H=>rw[q]at m;refine .inr ?_;by_cases S:∃u,h=.panic u;{obtain⟨u,rfl⟩:=S;rw[lG z a q];refine .inr ⟨f,t,_,_,st,H,_,rfl,λd w r sv=>by simp,λx q=>(A.below x q).2.2⟩};obtain⟨x,w2,e⟩:=lY z a q m (λu e=>S ⟨u,e⟩);exact .inl ⟨x,w2,e⟩|ok n H=>rw[q]at m;obtain⟨n',O,J,L,B,q1,Z⟩:=m;have C:∀e∈seen P f ((Xp (nF f t' ops i rest k).eval o).events P v #[]),q7 c J e:=λe U=>Z e (mem_seen U);refine .inl ?_;cases q1 with|@value u u' X=>refine⟨⟨f,_,.inRegion ops rest::k,Ww,st⟩,H,seen P f ((Xp (nF f t ops i rest k).eval o).events P w #[]),(jl z a q).trans ?_,⟨A.fn,?_,A.below⟩,⟨f,_,.inRegion ops rest::k,Ww,st'⟩,O,J,_,(jl z l L).trans ?_,B,⟨rfl,oZ (E.mono B.le) ((ops[i]?).bind (·.dst)) X,rfl,rfl,D.mono B.le⟩,C⟩;{rfl};{simp only[UY,aV,R,uR p,VJ]};rfl|skip=>refine⟨⟨f,_,.inRegion ops rest::k,Ww,st⟩,H,seen P f ((Xp (nF f t ops i rest k).eval o).events P w #[]),(kg z a q).trans ?_,⟨A.fn,?_,A.below⟩,⟨f,_,.inRegion ops rest::k,Ww,st'⟩,O,J,_,(kg z l L).trans ?_,B,⟨rfl,oZ (E.mono B.le) ((ops[i]?).bind (·.dst)) fO,rfl,rfl,D.mono B.le⟩,C⟩;{rfl};{simp only[UY,aV,R,uR p,VJ]};rfl|@enter j x K W F=>obtain⟨n,b,Q,T⟩:=ze I W x K;refine⟨⟨j,x++Array.replicate (n-x.size) Xq,[.code b],Ww,(f,t,.inRegion ops (i::rest)::k)::st⟩,H,seen P f ((Xp (nF f t ops i rest k).eval o).events P w #[]),(jv z a q).trans ?_,⟨trivial,?_,?_⟩,⟨j,K++Array.replicate (n-K.size) Xq,[.code b],Ww,(f,t',.inRegion ops (i::rest)::k)::st'⟩,O,J,_,(jv z l L).trans ?_,B,⟨rfl,?_,rfl,rfl,.cons (E.mono B.le) (D.mono B.le)⟩,C⟩;{rw[Q.1];rfl};{simp[aV,T]};{intro y N;rcases Uy.1 N with rfl|N;{exact⟨A.fn,A.items,ops,i,rest,k,rfl⟩};exact A.below y N};{rw[Q.2];rfl};rw[F.size.symm];exact F.append (.replicate _ fO)
end
section
theorem ab.zo{f f':α->XU Xe}:∀(l:List α){r:bB}{x x':Array Xe},aj c r x x'->(∀a b,r.le b->ab P c b (f a) (f' a) (ai c))->ab P c r (l.foldlM (λbs a=>Functor.map bs.push (f a)) x) (l.foldlM (λbs a=>bs.push<$>f' a) x') (aj c)|[],_,_,_,h,_=>ab.pure h|a::l,r,x,x',h,e=>by simp only[Wz];refine ab.bind (Q:=aj c) ?_ λb y n d j=>ab.zo l j λa k g=>e a k (bB.le_trans d g);simp only[<-bind_pure_comp];exact ab.bind (e a r (bB.le_refl r)) λb v m d i=>ab.pure ((h.mono d).push i)
theorem ab.mapM{f f':α->XU Xe}(l:Array α)(h:∀a b,r.le b->ab P c b (f a) (f' a) (ai c)):ab P c r (l.mapM f) (l.mapM f') (aj c):=by rw[Xh,Xh,<-Xi,<-Xi];exact ab.zo l.toList .empty h
theorem kz(fn:Func)(h:aj c r t t'):ab P c r (results fn t) (results fn t') (ai c):=by refine ab.bind (ab.mapM _ λa g d=>?_) λg x m d b=>ab.pure ?_;{cases a with|tmp i=>exact ab.pure ((h.mono d).getD i fO)|cell i j=>exact ab.bind (ab.asAddr ((h.mono d).getD i fO)) λl a k _ f=>ab.loadVar j f};by_cases e:x.size=1;{rw[dif_pos e,dif_pos (b.size▸e)];exact b.el 0 _ _ (UB _) (UB _)};rw[dif_neg e,dif_neg (b.size▸e)];exact .tuple b.size b.el
section ret
variable{x:Xy}{w1:Xg}
theorem bJ(a:P.funcs[f]?=Xl):Xo P main (G (cm f t k .returning) (x::cs)) w=.go (G (x.finish (t.getD 0 Xq)) cs) w #[]:=by simp[G,Xo,unwind,doReturn,cm,a]
theorem aP{v:Xe}(a:P.funcs[f]?=Xa fn)(b:(results fn t).run P w=.ok v w1):Xo P main (G (cm f t k .returning) (x::cs)) w=.go (G (x.finish v) cs) w1 (seen P f ((results fn t).events P w #[])):=by simp[G,Xo,unwind,doReturn,cm,a,b,GStep.after]
theorem da(a:P.funcs[f]?=Xa fn)(b:(results fn t).run P w=.halt h w1):∃o w2,(Xo P main (G (cm f t k .returning) (x::cs)) w).bare=.ended o w2:=by cases h<;>simp[G,Xo,unwind,cm,a,b]
end ret
theorem yW{t0':Array Xe}(A:cG c r w v)(z:aj c r t t')(l:aj c r t0 t0')(j:kQ c r st st')(y:xc P c gl ⟨f,t,k,Xd,(f0,t0,.inRegion ops (i::rest)::k0)::st⟩):Stp P c gl r main bs w v ⟨f,t,k,Xd,(f0,t0,.inRegion ops (i::rest)::k0)::st⟩ ⟨f,t',k,Xd,(f0,t0',.inRegion ops (i::rest)::k0)::st'⟩:=by obtain⟨s,C,-⟩:=y.below _ (UF ..);have a:=λx m=>y.below x (UM _ m);(have g:(XV.inRegion ops rest::k0).all (aV P c gl)=Xd:=by simp only[UY,aV]at C⊢;simp_all);cases d:P.funcs[f]? with|none=>refine .inl ⟨⟨f0,_,.inRegion ops rest::k0,Ww,st⟩,w,#[],(bJ d).trans ?_,⟨s,g,a⟩,⟨f0,_,.inRegion ops rest::k0,Ww,st'⟩,v,r,#[],(bJ d).trans ?_,.refl A,⟨rfl,oZ l ((ops[i]?).bind (·.dst)) (z.getD 0 fO),rfl,rfl,j⟩,λe p=>by simp at p⟩;{rfl};rfl|some n=>have b:=kz n z (P:=P) w v A;cases m:(results n t).run P w with|halt h B=>exact .inr (.inl (da d m))|ok u B=>rw[m]at b;obtain⟨J,I,H,D,q,F,E⟩:=b;refine .inl ⟨⟨f0,_,.inRegion ops rest::k0,Ww,st⟩,B,seen P f ((results n t).events P w #[]),(aP d m).trans ?_,⟨s,g,a⟩,⟨f0,_,.inRegion ops rest::k0,Ww,st'⟩,I,H,seen P f ((results n t').events P v #[]),(aP d D).trans ?_,q,⟨rfl,oZ (l.mono q.le) ((ops[i]?).bind (·.dst)) F,rfl,rfl,j.mono q.le⟩,λe p=>E e (mem_seen p)⟩;{rfl};rfl
theorem kt{x:XN}{b:Ya}(h:(cm f t (.code (.cond x a b)::k) .run).eval x=.bool u):Xo P main (G (cm f t (.code (.cond x a b)::k) .run) cs) w=.go (G (cm f t (.code (if u then a else b)::k) .run) cs) w #[]:=by simp only[cm]at h;simp[G,Xo,Xo.exec,cm,h]
theorem jF{x:XN}{b:Ya}(h:∀u,(cm f t (.code (.cond x a b)::k) .run).eval x≠.bool u):∃o w2,(Xo P main (G (cm f t (.code (.cond x a b)::k) .run) cs) w).bare=.ended o w2:=by simp only[cm]at h;simp only[G,Xo,Xo.exec,cm];simp
theorem Sg{x x':Xe}(h:x=.bool u)(k:ai c r x x'):x'=.bool u:=by subst h;cases k;rfl
theorem sf(V:Listed P c gl)(U:∀g,gl g=Xd->r g=Xa g)(z:cG c r w v)(hr:ou c r s s')(p:xc P c gl s)(hne:s.ret=Xd->s.st≠[]):Stp P c gl r main bs w v s s':=by obtain⟨f,t,k,R,Y⟩:=s;obtain⟨f',M,k',K,L⟩:=s';obtain⟨N,y,Z,e3,d⟩:=hr;simp only at N y Z e3 d;subst f' k' K;cases R with|true=>(cases d with|nil=>simp_all|@cons f0 t0 t0' k0 l l' h0 O=>obtain⟨-,-,n,i,B,k1,e⟩:=p.below _ (UF ..);simp only at e;subst e;exact yW z y h0 O p)|false=>cases k with|nil=>exact Stp.ctl (ret1:=Xd) (k1:=[]) z y d p rfl (λ_ _ _=>by rfl) (λ_ _ _=>by rfl)|cons x k=>have q:=p.items;simp only[UY,Uv]at q;obtain⟨q,A⟩:=q;cases x with|code a=>(cases a with|skip=>exact Stp.ctl (ret1:=Ww) (k1:=k) z y d p A (λ_ _ _=>by rfl) (λ_ _ _=>by rfl)|label l=>exact Stp.ctl (ret1:=Ww) (k1:=k) z y d p A (λ_ _ _=>by rfl) (λ_ _ _=>by rfl)|ret=>exact Stp.ctl (ret1:=Xd) z y d p p.items (λ_ _ _=>og) (λ_ _ _=>og)|seq a b=>exact Stp.ctl (ret1:=Ww) (k1:=.code a::.code b::k) z y d p (by simp only[aV,codeOk,Uv]at q;simp[aV,codeOk,A,q]) (λ_ _ _=>by rfl) (λ_ _ _=>by rfl)|block id a=>exact Stp.ctl (ret1:=Ww) (k1:=.code a::.inBlock id::k) z y d p (by simp only[aV,codeOk,Uv]at q;simp[aV,codeOk,A,q]) (λ_ _ _=>by rfl) (λ_ _ _=>by rfl)|loop a=>exact Stp.ctl (ret1:=Ww) (k1:=.code a::.inLoop a::k) z y d p (by simp only[aV,codeOk,Uv]at q;simp[aV,codeOk,A,q]) (λ_ _ _=>by rfl) (λ_ _ _=>by rfl)|scope a=>exact Stp.ctl (ret1:=Ww) (k1:=.code a::.inScope a::k) z y d p (by simp only[aV,codeOk,Uv]at q;simp[aV,codeOk,A,q]) (λ_ _ _=>lI) (λ_ _ _=>lI)|refuse why=>exact .inr (.inl ⟨_,w,by rfl⟩)|exit id=>(cases D:exitTo id k with|none=>exact .inr (.inl ⟨_,w,by rw[cD.vG,jb D];rfl⟩)|some k1=>exact Stp.ctl (ret1:=Ww) z y d p (oA D A) (λ_ _ _=>by simp[G,Xo,Xo.exec,cm,md,D]) (λ_ _ _=>by simp[G,Xo,Xo.exec,cm,md,D]))|cond x a b=>simp only[aV,codeOk,Uv]at q;have hv:=pM y U V.qj (f:=f) (k:=.code (.cond x a b)::k) (m:=.run) x q.1.1;(cases J:(cm f t (.code (.cond x a b)::k) .run).eval x with|bool u=>have:=Sg J hv;exact Stp.ctl (ret1:=Ww) (k1:=.code (if u then a else b)::k) z y d p (by cases u<;>simp[aV,q,A]) (λ_ _ _=>kt J) (λ_ _ _=>kt this)|_=>exact .inr (.inl (jF λu e=>by simp_all)))|region id n F=>(have I:n.all (ub P c gl)=Xd:=by assumption);(have H:∀l,(XV.inRegion n l::k).all (aV P c gl)=Xd:=λl=>by simp only[UY,Uv];exact⟨Is I l,A⟩);(cases F with|false=>exact Stp.ctl (ret1:=Ww) (k1:=.inRegion n (List.range n.size)::k) z y d p (H _) (λ_ _ _=>by rfl) (λ_ _ _=>by rfl)|true=>have X:=ab.cN (r:=r) (c:=c) (P:=P) (iD (.order f id)) w v z;unfold Stp;rw[cD.vG,j6];cases hc:(choose (.order f id)).run P w with|halt h S=>exact .inr (.inl ⟨_,S,rfl⟩)|ok u S=>rw[hc]at X;obtain⟨u',v1,r1,N,T,q1,-⟩:=X;subst q1;refine .inl ⟨⟨f,t,_,Ww,Y⟩,S,#[],rfl,⟨p.fn,H _,p.below⟩,⟨f,M,_,Ww,L⟩,v1,r1,#[],?_,T,⟨rfl,y.mono T.le,rfl,rfl,d.mono T.le⟩,λe D=>by simp at D⟩;rw[cD.vG,j6,N];rfl)|rangeFunc _ _ _ _=>simp[aV,codeOk]at q|goto l=>simp[aV,codeOk]at q)|inBlock id=>exact Stp.ctl (ret1:=Ww) (k1:=k) z y d p A (λ_ _ _=>by rfl) (λ_ _ _=>by rfl)|inLoop a=>exact Stp.ctl (ret1:=Ww) (k1:=.code a::.inLoop a::k) z y d p (by simp only[aV]at q;simp[aV,A,q]) (λ_ _ _=>by rfl) (λ_ _ _=>by rfl)|inScope a=>exact Stp.ctl (ret1:=Ww) (k1:=k) z y d p A (λ_ _ _=>jV) (λ_ _ _=>jV)|inRegion n l=>(cases l with|nil=>exact Stp.ctl (ret1:=Ww) (k1:=k) z y d p A (λ_ _ _=>by rfl) (λ_ _ _=>by rfl)|cons i B=>cases E:((n[i]?).map (Region.wanted · (XE n t))).getD Ww with|true=>(cases W:n[i]? with|none=>simp_all|some o=>rw[W]at E;exact Mi V U z y d p W (by simp_all))|false=>(have Q:((n[i]?).map (Region.wanted · (XE n M))).getD Ww=Ww:=by rw[show XE n M=XE n t from funext λj=>mH y n j];exact E);refine .inl ⟨⟨f,_,.inRegion n B::k,Ww,Y⟩,w,#[],(stepG_unwanted E).trans ?_,⟨p.fn,?_,p.below⟩,⟨f,_,.inRegion n B::k,Ww,L⟩,v,r,#[],(stepG_unwanted Q).trans ?_,.refl z,⟨rfl,oZ y ((n[i]?).bind (·.dst)) fO,rfl,rfl,d⟩,λe D=>by simp at D⟩;{rfl};{have:=p.items;simp only[UY,aV,Uv]at this⊢;simp_all};rfl)|inRangeFunc _=>simp[aV]at q|endRangeFunc _=>simp[aV]at q|beginRound=>simp[aV]at q|call _ _ _ _=>simp[aV]at q|extern _ _=>simp[aV]at q
end
def re(w:Xg)(T:Nat->X8->Nat)(D:Nat):Xg:={w with tape:=T,drawn:=D}
@[simp]theorem TJ(w:Xg)(T b:Nat->X8->Nat)(D a:Nat):re (re w T D) b a=re w b a:=rfl
@[simp]theorem v7(w:Xg)(T:Nat->X8->Nat)(D:Nat):(re w T D).heap=w.heap:=rfl
@[simp]theorem BV(w:Xg)(T:Nat->X8->Nat)(D:Nat)(a:XY):(re w T D).cell? a=w.cell? a:=rfl
theorem By(w:Xg)(T:Nat->X8->Nat)(D:Nat)(p:XF)(a:XY)(b:Bool):(re w T D).farLoad p a b=w.farLoad p a b:=rfl
theorem xm(w:Xg)(T:Nat->X8->Nat)(D:Nat)(p:XF)(a:XY)(u:XD)(k:XY)(v:Xe)(b:Bool):(re w T D).viewStore p a u k v b=(w.viewStore p a u k v b).map λx=>(re x.1 T D,x.2):=by unfold Xg.viewStore;have e:(re w T D).seen p a u k b=w.seen p a u k b:=rfl;rw[e];generalize w.seen p a u k b=j;by_cases i:(!tight p p.depth u)=Xd;{simp only[i];rfl};simp only[i,UO];cases j with|error s=>rfl|ok x=>obtain⟨c,e,l,g,f,d⟩:=x;cases n:v.bytes? with|none=>rfl|some bytes=>simp only[bind,Except.bind,pure];by_cases h:Xa bytes.length=Option.map (λx=>x.length) f.bytes?;{simp only[ne_eq,h,eq_false];generalize(List.foldlM (m:=Except String) _ c d)=z;cases z<;>rfl};simp only[ne_eq,h,eq_true];rfl
theorem qO(w:Xg)(T:Nat->X8->Nat)(D:Nat)(p:XF)(a:XY)(v:Xe)(b:Bool):(re w T D).farStore p a v b=(w.farStore p a v b).map λx=>(re x.1 T D,x.2):=by unfold Xg.farStore;rw[v7];cases w.heap[a.block]? with|none=>rfl|some o=>(cases o<;>try rfl);simp only[xm];generalize w.viewStore _ _ _ _ _ _=z;cases z<;>rfl
theorem Dy(w:Xg)(T:Nat->X8->Nat)(D:Nat)(a:XY)(n:Nat):(re w T D).freeze a n=re (w.freeze a n) T D:=by unfold Xg.freeze;split<;>rfl
def yD:Xe->Bool
 |.agg _|.tuple _=>Xd
 |_=>Ww
theorem St(v:Xe):yD v=Xd\/yD v=Ww:=by simp
theorem uk(m:Mode)(a:XY)(g:XU α){v:Xe}(h:yD v=Xd)(w:Xg):∃z,(XU.store m a v g).run P w=.halt z w:=by cases v<;>simp[yD]at h<;>exact⟨_,rfl⟩
theorem tX(m:Mode)(a:XY)(g:XU α){v:Xe}(h:yD v=Ww)(w:Xg):(XU.store m a v g).run P w=match w.cell? a with|some _=>if w.frozen? a then .halt (.unsupported (.unsafePointer "a write to bytes that a string shares")) w else g.run P (w.setCell a v)|none=>match w.farStore P a v (m==.atomic)with|.ok x=>g.run P x.1|.error h=>.halt h w:=by cases v<;>simp[yD]at h<;>(simp only[XU.run];split;{rename_i b;rw[b]};·split<;>simp_all)
theorem pq(m:Mode)(a:XY)(g:XU α){v:Xe}(h:yD v=Ww)(w:Xg):(XU.store m a v g).events P w #[]=match w.cell? a with|some _=>if w.frozen? a then#[]else g.events P (w.setCell a v) (#[].push ⟨.cell a,Xd,m==.atomic⟩)|none=>match w.farStore P a v (m==.atomic)with|.ok x=>g.events P x.1 (#[]++x.2.toArray.map (⟨.cell ·,Xd,m==.atomic⟩))|.error _=>#[]:=by cases v<;>simp[yD]at h<;>(simp only[XU.events,XU.runT];split<;>(try split)<;>simp_all)
theorem DQ(w:Xg)(T:Nat->X8->Nat)(D:Nat)(a:XY):(re w T D).frozen? a=w.frozen? a:=rfl
theorem uJ{w1:Xg}{p:XF}{a:XY}{v:Xe}{b:Bool}{l:List XY}(h:w.farStore p a v b=.ok (w1,l)):w1.drawn=w.drawn/\w1.tape=w.tape:=by have c:w.farStore p a v b=(w.farStore p a v b).map λx=>(re x.1 w.tape w.drawn,x.2):=qO w w.tape w.drawn p a v b;rw[h]at c;injection c with c;have:=(UZ c).1;exact⟨(congrArg Xg.drawn this).trans rfl,(congrArg Xg.tape this).trans rfl⟩
theorem y9(x:XU α):∀{w w1:Xg}{a:α},x.run P w=.ok a w1->(∀e∈x.events P w #[],e.loc≠.output)->w.drawn<=w1.drawn/\w1.tape=w.tape/\∀(T:Nat->X8->Nat)(D:Nat),(∀j q,w.drawn+j<w1.drawn->T (D+j) q=w.tape (w.drawn+j) q)->x.run P (re w T D)=.ok a (re w1 T (D+(w1.drawn-w.drawn))):=by induction x with|pure a=>simp|halt z=>simp|program g d=>intro w w1 b h c;exact d P h c|mark m g d=>intro w w1 b h c;refine d h λe i=>c e ?_;show e∈g.events P w _;rw[XU.events_acc];simp_all|sys s g _=>intro w w1 b h c;refine absurd rfl (c ⟨.output,Xd,Ww⟩ ?_);show _∈(g _).events P _ _;rw[XU.events_acc];simp|choose q g d=>intro w w1 b h c;have B:∀u:Xg,(XU.choose q g).run P u=if q.forced then(g 0).run P u else(g (q.cut (u.tape u.drawn q))).run P {u with drawn:=u.drawn+1}:=λ_=>rfl;(have I:(XU.choose q g).events P w #[]=if q.forced then(g 0).events P w #[]else(g (q.cut (w.tape w.drawn q))).events P {w with drawn:=w.drawn+1} #[]:=by simp only[XU.events,XU.runT];grind);rw[B]at h;rw[I]at c;simp only[B];by_cases F:q.forced=Xd;{grind};rw[if_neg F]at h c;simp only[F,UO,if_false];obtain⟨J,H,K⟩:=d _ h c;simp only at J H;refine⟨by omega,H,λT D t=>?_⟩;(have:=K T (D+1) λj q M=>by have:=t (j+1) q (by grind);grind);have C:=t 0 q Ω;simp only[U6]at C;show(g (q.cut (T D q))).run P (re w T (D+1))=_;rw[C];refine Eq.trans this ?_;grind|load m a g d=>intro w w1 b h c;simp only[XU.run,BV,By]at h⊢;(cases r:w.cell? a with|some v=>rw[r]at h;refine d v h λe i=>c e ?_;simp only[XU.events,XU.runT,r];show e∈(g v).events P w _;rw[XU.events_acc];simp_all|none=>rw[r]at h;cases l:w.farLoad P a (m==.atomic)with|error z=>simp_all|ok x=>rw[l]at h;refine d x.1 h λe i=>c e ?_;simp only[XU.events,XU.runT,r,l];show e∈(g x.1).events P w _;rw[XU.events_acc];simp_all)|store m a v g d=>intro w w1 b h c;rcases St v with y|y;{obtain⟨z,N⟩:=uk (P:=P) m a g y w;simp_all};simp only[tX m a g y,BV,qO,DQ]at h⊢;rw[pq m a g y]at c;(cases r:w.cell? a with|some u=>rw[r]at h c;simp only at h c⊢;split at h;{cases h};rename_i l;rw[if_neg l]at c;have:=d (w:=w.setCell a v) h λe i=>c e (by rw[XU.events_acc];simp_all);refine⟨this.1,this.2.1,λT D t=>?_⟩;exact(if_neg l).trans (this.2.2 T D t)|none=>rw[r]at h c;simp only at h c⊢;cases l:w.farStore P a v (m==.atomic)with|error z=>simp_all|ok x=>rw[l]at h c;simp only[Except.map]at h c⊢;have A:=uJ l;have:=d (w:=x.1) h λe i=>c e (by rw[XU.events_acc];simp_all);simp_all)|new o g d=>intro w w1 b h c;exact d _ h c|shape k g d=>intro w w1 b h c;exact d _ h c|freeze a n g d=>intro w w1 b h c;(have A:(w.freeze a n).drawn=w.drawn/\(w.freeze a n).tape=w.tape:=by unfold Xg.freeze;grind);have:=d (w:=w.freeze a n) h c;rw[A.1,A.2]at this;simp only[XU.run,Dy];exact this|frozen a g d=>intro w w1 b h c;exact d _ h c|getObj k g d=>intro w w1 b h c;(cases f:w.heap[k]? with|none=>simp only[XU.run,f]at h;cases h|some o=>cases o<;>first|(simp only[XU.run,f]at h;cases h;done)|(simp only[XU.run,f,v7]at h⊢;refine d _ h λe i=>c e ?_;simp only[XU.events,XU.runT,f];show e∈(g _).events P w _;rw[XU.events_acc];exact U1.2 (.inr i)))|setObj k o g d=>intro w w1 b h c;cases f:w.heap[k]? with|none=>simp only[XU.run,f]at h;cases h|some L=>cases L<;>first|(simp only[XU.run,f]at h;cases h;done)|(simp only[XU.run,f,v7]at h⊢;refine d (w:={w with heap:=w.heap.setIfInBounds k o}) h λe i=>c e ?_;simp only[XU.events,XU.runT,f];show e∈g.events P _ _;rw[XU.events_acc];exact U1.2 (.inr i))
def nD(r:bB):bB:=λb=>if(r b).isSome then Xa b else Xl
theorem qc{k:Nat}(h:r b=Xa k):nD r b=Xa b:=by simp[nD,h]
theorem nk{k:Nat}(h:nD r b=Xa k):k=b/\∃j,r b=Xa j:=by unfold nD at h;split at h;{rename_i e;cases h;exact⟨rfl,Xj.1 e⟩};cases h
theorem du.self{a a':XY}(h:du c r a a'):du c (nD r) a a:=⟨qc h.1,rfl,rfl,h.2.2.2⟩
theorem l6{x:Array Xe}(b:x.size=x'.size)(h:∀(i:Nat)(v a:Xe),x[i]?=Xa v->x'[i]?=Xa a->ai c (nD r) v v):∀(i:Nat)(v a:Xe),x[i]?=Xa v->x[i]?=Xa a->ai c (nD r) v a:=by grind
theorem ai.self{v v':Xe}(h:ai c r v v'):ai c (nD r) v v:=by induction h with|bool b=>exact .bool b|int k n=>exact .int k n|string s=>exact .string s|gi=>exact .gi|ptr a=>exact .ptr a.self|gC n m=>exact .gC n m|slice n m a=>exact .slice n m a.self|cE a l=>exact .cE a a|k6=>exact .k6|map a=>exact .map (qc a)|func g i _ j _ e f=>exact .func g rfl (l6 i e) rfl (l6 j f)|nilFunc=>exact .nilFunc|nilIface=>exact .nilIface|iface t _ d=>exact .iface t d|agg s _ d=>exact .agg rfl (l6 s d)|tuple s _ d=>exact .tuple rfl (l6 s d)
theorem aj.self{x:Array Xe}(h:aj c r x x'):aj c (nD r) x x:=⟨rfl,l6 h.size λi v d a b=>(h.el i v d a b).self⟩
theorem lX.self{o o':X0}(h:lX c r o o'):lX c (nD r) o o:=by cases h with|cells t f k=>exact .cells t f k.self|@map x j k s e=>refine .map k rfl λi d m a b=>?_;rw[a]at b;cases b;have g:=s▸(Uu.1 a).1;have:=e i d _ a (UB g);exact⟨this.key.self,this.val.self,rfl⟩|iter s p=>exact .iter s p|number l a=>exact .number l a.self
theorem qg.self{o o':Option X0}(h:qg c r b o o'):qg c (nD r) b o o:=by cases h with|@seen x g t m j s l z y e=>refine .seen t t _ s l (Us _) ⟨λ_=>rfl,y.2⟩ λi u p a b d=>?_;rw[b]at d;cases d;have f:=Ut (Uu.1 b).1 z;exact(e i u _ a b (UB f)).self|own n k=>exact .own n k.self
theorem cG.self(h:cG c r w v):cG c (nD r) w w:=by refine⟨λb k e=>?_,λb k e=>?_,λb g k e d=>?_,h.qj,λb f e=>h.hid b f (by unfold nD at e;simp_all),λb k e=>?_,rfl,rfl,h.old,λb k e _=>(nk e).1.symm,h.im.1,h.im.1⟩;{obtain⟨rfl,j,a⟩:=nk e;exact h.qz _ _ a};{obtain⟨rfl,j,a⟩:=nk e;exact h.qz _ _ a};{exact .inl ((nk e).1.symm.trans (nk d).1)};obtain⟨rfl,j,a⟩:=nk e;exact(h.blk _ _ a).self
theorem kQ.self{l l':List (XI×Array Xe×List XV)}(h:kQ c r l l'):kQ c (nD r) l l:=by induction h with|nil=>exact .nil|cons a _ b=>exact .cons a.self b
theorem ou.self(h:ou c r s s'):ou c (nD r) s s:=⟨rfl,h.t.self,rfl,rfl,h.st.self⟩
theorem cG.re(h:cG c r w w)(T:Nat->X8->Nat)(D:Nat):cG c r (re w T D) (re w T D):=⟨h.qz,h.zv,h.inj,h.qj,h.hid,h.blk,rfl,rfl,h.old,h.aJ,h.im⟩
theorem q7.zO{e:X3}(h:q7 c r e):e.loc≠.output:=by rcases h with⟨b,a,-⟩|h|⟨f,h⟩;{grind};{simp_all};simp_all
structure Fit(P:XF)(c:dH)(gl:Nat->Bool)(s:cD)(w:Xg):Prop where
 ok:xc P c gl s
 rel:∃r,cG c r w w/\ou c r s s/\∀g,gl g=Xd->r g=Xa g
theorem Fit.re(h:Fit P c gl s w)(T:Nat->X8->Nat)(D:Nat):Fit P c gl s (re w T D):=by obtain⟨e,r,a,b,d⟩:=h;exact⟨e,r,a.re T D,b,d⟩
theorem Fit.A4(d:xc P c gl s)(h:cG c r w v)(a:ou c r s s')(b:∀g,gl g=Xd->r g=Xa g):Fit P c gl s w:=⟨d,nD r,h.self,a.self,λg e=>qc (b g e)⟩
def bZ(P:XF)(s:cD)(w:Xg)(s1:cD)(w1:Xg):Prop:=∃es,Xo P Xd (s.g [ey]) w=.go (s1.g [ey]) w1 es
theorem GH(h:st.map up=st'.map up):st=st':=by induction st generalizing st' with|nil=>simp_all|cons x l a=>cases st' with|nil=>simp at h|cons y b=>simp only[U5,Vu]at h;have:=h.1;simp only[up,cm]at this;grind
theorem G7(h:s.g [ey]=s'.g [ey]):s=s':=by obtain⟨f,t,k,b,o⟩:=s;obtain⟨l,p,n,a,j⟩:=s';simp only[cD.g,G,cm,Xm.mk.injEq,Xy.mk.injEq]at h;obtain⟨⟨d,e,g,-,m,-⟩,i,-⟩:=h;have:=GH (Xk i);subst d e g this;(have:b=a:=by cases b<;>cases a<;>simp_all[md]);rw[this]
theorem Fit.step(p:Listed P c gl){s:cD}{w:Xg}(h:Fit P c gl s w)(f:s.ret=Xd->s.st≠[]):(∃a b,bZ P s w a b/\Fit P c gl a b)\/PW (Xo P Xd (s.g [ey]) w):=by obtain⟨u,r,n,o,k⟩:=h;rcases sf p k n o u f with⟨a,b,d,i,t,y,C,v,A,j,x,q,-⟩|B;{refine .inl ⟨a,b,⟨d,i⟩,?_⟩;rw[i]at j;injection j with l m z;have:=G7 l;subst this m;exact⟨t,v,x.rel,q,λg e=>x.le _ _ (k g e)⟩};simp_all
theorem bZ.Ox{w1:Xg}(h:bZ P s w s1 w1)(a:bZ P s w s2 w2):s2=s1/\w2=w1:=by obtain⟨_,h⟩:=h;obtain⟨_,a⟩:=a;rw[h]at a;injection a with b d;exact⟨(G7 b).symm,d.symm⟩
def bI(P:XF)(s:cD)(w:Xg)(s1:cD)(w1:Xg):Prop:=
 w.drawn<=w1.drawn/\w1.tape=w.tape/\∀(T:Nat->X8->Nat)(D:Nat),(∀j q,w.drawn+j<w1.drawn->T (D+j) q=w.tape (w.drawn+j) q)->bZ P s (re w T D) s1 (re w1 T (D+(w1.drawn-w.drawn)))
theorem bI.ctl{w1:Xg}(a:bZ P s w s1 w1)(h:∀w,Xo P Xd (s.g [ey]) w=.go (s2.g [ey]) w #[]):bI P s w s1 w1:=by obtain⟨rfl,rfl⟩:=a.Ox ⟨#[],h w⟩;exact⟨Us _,rfl,λT D _=>⟨#[],by simp_all⟩⟩
theorem bZ.gS{w1:Xg}(a:bZ P s w s1 w1)(h:∃o w2,(Xo P Xd (s.g [ey]) w).bare=.ended o w2):False:=by obtain⟨b,e⟩:=a;simp_all
theorem bZ.qe{w1:Xg}{ch:List PanicEntry}(d:bZ P s w s1 w1)(h:Xo P Xd (s.g [ey]) w=.go (G (cm f t k (.panicking ch)) cs) w2 es):False:=by obtain⟨a,e⟩:=d;rw[e]at h;injection h with h;simp only[cD.g,G,cm,Xm.mk.injEq,Xy.mk.injEq]at h;have:=h.1.2.2.2.2.1;cases b:s1.ret<;>simp[md,b]at this
theorem bI.EZ{β:Type}{w1:Xg}{x:XU β}{b:β}(k:bZ P s w s1 w1)(a:x.run P w=.ok b w2)(j:∀e∈x.events P w #[],e.loc≠.output)(h:∀w w2,x.run P w=.ok b w2->bZ P s w s2 w2):bI P s w s1 w1:=by obtain⟨rfl,rfl⟩:=k.Ox (h w w2 a);obtain⟨d,f,g⟩:=y9 x a j;exact⟨d,f,λT D i=>h _ _ (g T D i)⟩
theorem J5(v:Listed P c gl){w1:Xg}(D:Fit P c gl ⟨f,t,.inRegion ops (i::rest)::k,Ww,st⟩ w)(q:bZ P ⟨f,t,.inRegion ops (i::rest)::k,Ww,st⟩ w s1 w1)(l:ops[i]?=Xa o)(a:Region.wanted o (XE ops t)=Xd):bI P ⟨f,t,.inRegion ops (i::rest)::k,Ww,st⟩ w s1 w1:=by obtain⟨L,r,J,H,E⟩:=D;have I:=H.t;obtain⟨p,R⟩:=L.sZ;have z:=mP p l;have d:=sE v.aJ v.ext z (ev:=(nF f t ops i rest k).eval) (λx g=>pM I E v.qj x g) (λ_=>⟨rfl,rfl⟩) w w J;cases g:(Xp (nF f t ops i rest k).eval o).run P w with|halt h y=>rw[g]at d;by_cases B:∃u,h=.panic u;{obtain⟨u,rfl⟩:=B;exact(q.qe (lG l a g)).elim};exact(q.gS (lY l a g d (λu e=>B ⟨u,e⟩))).elim|ok n y=>rw[g]at d;obtain⟨T,W,U,O,X,M,A⟩:=d;cases M with|@value u V S=>exact bI.EZ (s2:=⟨f,_,.inRegion ops rest::k,Ww,st⟩) q g (λe m=>(A e m).zO) λw y e=>⟨_,(jl l a e).trans (by rfl)⟩|skip=>exact bI.EZ (s2:=⟨f,_,.inRegion ops rest::k,Ww,st⟩) q g (λe m=>(A e m).zO) λw y e=>⟨_,(kg l a e).trans (by rfl)⟩|@enter j x N F K=>obtain⟨n,b,C,Q⟩:=ze v F x N;exact bI.EZ (s2:=⟨j,x++Array.replicate (n-x.size) Xq,[.code b],Ww,(f,t,.inRegion ops (i::rest)::k)::st⟩) q g (λe m=>(A e m).zO) λw y e=>⟨_,(jv l a e).trans (by rw[C.1];rfl)⟩
theorem Hb{w1:Xg}(o:Fit P c gl ⟨f,t,k,Xd,(f0,t0,.inRegion ops (i::rest)::k0)::st⟩ w)(l:bZ P ⟨f,t,k,Xd,(f0,t0,.inRegion ops (i::rest)::k0)::st⟩ w s1 w1):bI P ⟨f,t,k,Xd,(f0,t0,.inRegion ops (i::rest)::k0)::st⟩ w s1 w1:=by obtain⟨A,r,s,p,z⟩:=o;have q:=p.t;cases b:P.funcs[f]? with|none=>refine bI.ctl (s2:=⟨f0,(match(ops[i]?).bind (·.dst)with|some d=>t0.setIfInBounds d (t.getD 0 Xq)|none=>t0),.inRegion ops rest::k0,Ww,st⟩) l λw=>?_;refine(bJ b).trans ?_;rfl|some j=>have a:=kz j q (P:=P) w w s;cases m:(results j t).run P w with|halt h w1=>exact(l.gS (da b m)).elim|ok u x=>rw[m]at a;obtain⟨D,E,C,y,F,B,v⟩:=a;refine bI.EZ (s2:=⟨f0,(match(ops[i]?).bind (·.dst)with|some d=>t0.setIfInBounds d u|none=>t0),.inRegion ops rest::k0,Ww,st⟩) l m (λe n=>(v e n).zO) λw x e=>⟨seen P f ((results j t).events P w #[]),?_⟩;refine(aP b e).trans ?_;rfl
theorem bZ.tape(F:Listed P c gl){w1:Xg}(y:Fit P c gl s w)(H:s.ret=Xd->s.st≠[])(h:bZ P s w s1 w1):bI P s w s1 w1:=by obtain⟨f,t,k,A,j⟩:=s;cases A with|true=>(cases j with|nil=>simp_all|cons x l=>obtain⟨K,N,M⟩:=x;obtain⟨-,-,g,i,p,D,e⟩:=y.ok.below _ (UF ..);subst e;exact Hb y h)|false=>cases k with|nil=>exact bI.ctl (s2:=⟨f,t,[],Xd,j⟩) h (λ_=>by rfl)|cons x k=>have m:=y.ok.items;cases x with|code a=>(cases a with|skip=>exact bI.ctl (s2:=⟨f,t,k,Ww,j⟩) h (λ_=>by rfl)|label l=>exact bI.ctl (s2:=⟨f,t,k,Ww,j⟩) h (λ_=>by rfl)|ret=>exact bI.ctl (s2:=⟨f,t,.code .ret::k,Xd,j⟩) h (λ_=>by rfl)|seq a b=>exact bI.ctl (s2:=⟨f,t,.code a::.code b::k,Ww,j⟩) h (λ_=>by rfl)|block id a=>exact bI.ctl (s2:=⟨f,t,.code a::.inBlock id::k,Ww,j⟩) h (λ_=>by rfl)|loop a=>exact bI.ctl (s2:=⟨f,t,.code a::.inLoop a::k,Ww,j⟩) h (λ_=>by rfl)|scope a=>exact bI.ctl (s2:=⟨f,t,.code a::.inScope a::k,Ww,j⟩) h (λ_=>by rfl)|refuse J=>exact(h.gS ⟨_,w,by rfl⟩).elim|exit id=>(cases z:exitTo id k with|none=>exact(h.gS ⟨_,w,by rw[cD.vG,jb z];rfl⟩).elim|some D=>exact bI.ctl (s2:=⟨f,t,D,Ww,j⟩) h (λ_=>by simp[cD.g,G,Xo,Xo.exec,cm,md,z]))|cond x a b=>(cases I:(cm f t (.code (.cond x a b)::k) .run).eval x with|bool u=>exact bI.ctl (s2:=⟨f,t,.code (if u then a else b)::k,Ww,j⟩) h λ_=>kt I|_=>exact(h.gS (jF λu e=>by simp_all)).elim)|region id g q=>(cases q with|false=>exact bI.ctl (s2:=⟨f,t,.inRegion g (List.range g.size)::k,Ww,j⟩) h (λ_=>by rfl)|true=>have E:∀w:Xg,∃u B,(choose (.order f id)).run P w=.ok u B:=λw=>⟨_,_,rfl⟩;obtain⟨u,B,e⟩:=E w;refine bI.EZ (s2:=⟨f,t,.inRegion g (Region.schedule (P.follows .mixedOrders) g u)::k,Ww,j⟩) h e (λe z=>by simp_all) λw B e=>⟨#[],?_⟩;rw[cD.vG,j6,e];rfl)|rangeFunc _ _ _ _=>simp[aV,codeOk]at m|goto l=>simp[aV,codeOk]at m)|inBlock id=>exact bI.ctl (s2:=⟨f,t,k,Ww,j⟩) h (λ_=>by rfl)|inLoop a=>exact bI.ctl (s2:=⟨f,t,.code a::.inLoop a::k,Ww,j⟩) h (λ_=>by rfl)|inScope a=>exact bI.ctl (s2:=⟨f,t,k,Ww,j⟩) h (λ_=>by rfl)|inRegion g l=>(cases l with|nil=>exact bI.ctl (s2:=⟨f,t,k,Ww,j⟩) h (λ_=>by rfl)|cons i p=>cases v:((g[i]?).map (Region.wanted · (XE g t))).getD Ww with|true=>(cases C:g[i]? with|none=>simp_all|some o=>exact J5 F y h C (by simp_all))|false=>refine bI.ctl (s2:=⟨f,(match(g[i]?).bind (·.dst)with|some d=>t.setIfInBounds d Xq|none=>t),.inRegion g p::k,Ww,j⟩) h λw=>(stepG_unwanted v).trans ?_;rfl)|inRangeFunc _=>simp[aV]at m|endRangeFunc _=>simp[aV]at m|beginRound=>simp[aV]at m|call _ _ _ _=>simp[aV]at m|extern _ _=>simp[aV]at m
def wN(fr:Xy)(cs:List Xy):Prop:=
 (∃(f:XI)(t:Array Xe)(k:List XV)(ch:List PanicEntry)(st:List (XI×Array Xe×List XV)),fr=cm f t k (.panicking ch)/\cs=st.map up++[ey]/\(∀d w r sv,k.head?≠Xa (.call d w r sv))/\∀x∈st,∃ops i rest k',x.2.2=.inRegion ops (i::rest)::k')\/
 (((∃ch,fr={ey with mode:=.panicking ch})\/fr=ey\/fr={ey with mode:=.returning})/\cs=[])
theorem wN.not{fr:Xy}(h:wN fr [ey])(a:fr.mode=.returning):False:=by rcases h with⟨f,t,k,b,d,rfl,-⟩|⟨-,h⟩;{simp[cm]at a};cases h
theorem vL{fr:Xy}(h:wN fr cs)(w:Xg):(∃n m w',step P (lone fr cs w)=.next (lone n m w')/\wN n m)\/∃o w',step P (lone fr cs w)=.ended o w':=by rcases h with⟨f,t,k,j,A,rfl,rfl,B,q⟩|⟨h,rfl⟩;{(have u:(cm f t k (.panicking j)).catches P=Ww:=by unfold Xy.catches;simp only[cm];grind);(have p:∀(x:Xy)(l:List Xy),Xo P Xd {frame:=cm f t k (.panicking j),callers:=x::l,status:=.running,dying:=Xl} w=.go {frame:=x.raise j,callers:=l,status:=.running,dying:=Xl} w #[]:=by intro x l;unfold Xy.catches cm at u;simp[Xo,unwind,cm,Xy.catches];simp_all);cases A with|nil=>exact .inl ⟨_,_,w,step_lone_go (by rw[show List.map up []++[ey]=[ey]from rfl,p];rfl),.inr ⟨.inl ⟨j,rfl⟩,rfl⟩⟩|cons x l=>obtain⟨z,i,s,C,e⟩:=q x (UF ..);refine .inl ⟨_,_,w,step_lone_go (by rw[show List.map up (x::l)++[ey]=up x::(List.map up l++[ey])from rfl,p];rfl),.inl ⟨x.1,x.2.1,x.2.2,j,l,rfl,rfl,λd w r D=>by grind,λy v=>q y (UM _ v)⟩⟩};refine ?_;rcases h with⟨j,rfl⟩|rfl|rfl;{exact .inr ⟨_,w,step_lone_ended (by rfl)⟩};{exact .inl ⟨_,_,w,step_lone_go (by rfl),.inr ⟨.inr (.inr rfl),rfl⟩⟩};exact .inr ⟨_,w,step_lone_ended (by rfl)⟩
section
theorem runN_add:∀{k:Nat}{m m':Machine},runN P i m=.next m'->runN P (i+k) m=runN P k m':=by induction i with|zero=>intro k m m' h;cases h;simp|succ i a=>intro k m m' h;rw[show i+1+k=(i+k)+1 by omega];simp only[runN]at h⊢;grind
theorem yC{m m':Machine}(h:step P m=.next m'):runN P 1 m=.next m':=by simp[runN,h]
theorem nS:∀(n:Nat){fr:Xy}{cs:List Xy}{w:Xg},wN fr cs->∀{fr':Xy}{w':Xg},runN P n (lone fr cs w)=.next (lone fr' [ey] w')->fr'.mode=.returning->False:=by intro n;induction n with|zero=>intro fr cs w h fr' w' e a;simp only[runN,lone,Stepped.next.injEq,Machine.mk.injEq]at e;have:=e.2.1;obtain⟨rfl,rfl⟩:=this;exact h.not a|succ n j=>intro fr cs w h fr' w' e a;simp only[runN]at e;rcases vL (P:=P) h w with⟨f,b,g,d,i⟩|⟨o,g,d⟩;{grind};simp_all
def k7(s:cD)(w:Xg):Machine:=lone (cm s.f s.t s.k (md s.ret)) (s.st.map up++[ey]) w
theorem gv{w1:Xg}{fr:Xy}(h:Xo P Xd (s.g [ey]) w=.go (G fr cs) w1 es):step P (k7 s w)=.next (lone fr cs w1):=step_lone_go (by have:Xo P Xd {frame:=cm s.f s.t s.k (md s.ret),callers:=s.st.map up++[ey],status:=.running,dying:=Xl} w=.go (G fr cs) w1 es:=h;rw[this];rfl)
theorem bZ.Q1{w1:Xg}(h:bZ P s w s1 w1):step P (k7 s w)=.next (k7 s1 w1):=by obtain⟨a,e⟩:=h;exact gv e
theorem D5(h:PW (Xo P Xd (s.g [ey]) w))(e:runN P (n+1) (k7 s w)=.next (lone fr' [ey] w'))(i:fr'.mode=.returning):False:=by simp only[runN]at e;rcases h with⟨o,a,h⟩|⟨f,t,k,b,j,a,l,h,d,g⟩;{rw[show step P (k7 s w)=.ended o a from step_lone_ended h]at e;cases e};rw[gv h]at e;exact nS n (.inl ⟨f,t,k,b,j,rfl,rfl,d,g⟩) e i
theorem PW.not{w1:Xg}(a:bZ P s w s1 w1)(h:PW (Xo P Xd (s.g [ey]) w)):False:=by rcases h with h|⟨f,t,k,b,e,w1,d,h,-⟩;{exact a.gS h};exact a.qe h
def EU(s:cD):Prop:=s.ret=Xd/\s.st=[]
theorem Ef(p:EU s)(e:runN P (n+1) (k7 s w)=.next (lone fr' [ey] w'))(j:fr'.mode=.returning):False:=by obtain⟨f,t,k,q,z⟩:=s;obtain⟨d,g⟩:=p;subst d g;have i:wN ey []:=.inr ⟨.inr (.inl rfl),rfl⟩;have a:∀v,ey.finish v=ey:=λv=>rfl;simp only[runN]at e;cases b:P.funcs[f]? with|none=>rw[gv ((bJ b).trans (by rw[a]))]at e;exact nS n i e j|some m=>cases l:(results m t).run P w with|halt h r=>obtain⟨o,y,h⟩:=da b l;rw[show step P (k7 ⟨f,t,k,Xd,[]⟩ w)=.ended o y from step_lone_ended h]at e;cases e|ok u r=>rw[gv ((aP b l).trans (by rw[a]))]at e;exact nS n i e j
inductive Lone(P:XF)(Good:Xe->Xg->Prop):cD->Xg->Prop
 |done{s:cD}{w:Xg}{fn:Func}{v:Xe}:EU s->P.funcs[s.f]?=Xa fn->(∀T D,(results fn s.t).run P (re w T D)=.ok v (re w T D)/\Good v (re w T D))->Lone P Good s w
 |step{s:cD}{w:Xg}:¬EU s->(∀T D,∃s1 w1,bZ P s (re w T D) s1 w1)->(∀T D s1 w1,bZ P s (re w T D) s1 w1->Lone P Good s1 w1)->Lone P Good s w
section bar
variable(P)(Good:Xe->Xg->Prop)
noncomputable def va(p:cD×Xg):(Nat->X8->Nat)×Nat:=open Classical in
 if h:∃a:(Nat->X8->Nat)×Nat,∀s1 w1,bZ P p.1 (re p.2 a.1 a.2) s1 w1->¬Lone P Good s1 w1 then Classical.choose h else(λ_ _=>0,0)
def Live(p:cD×Xg):Prop:=¬EU p.1/\∃q:cD×Xg,bZ P p.1 (re p.2 (va P Good p).1 (va P Good p).2) q.1 q.2
noncomputable def FU(p:cD×Xg):cD×Xg:=open Classical in if h:Live P Good p then Classical.choose h.2 else p
noncomputable def iz(p:cD×Xg):Nat->cD×Xg
 |0=>p
 |i+1=>FU P Good (iz p i)
noncomputable def pos(p:cD×Xg):Nat->Nat
 |0=>0
 |i+1=>open Classical in if Live P Good (iz P Good p i)then pos p i+((iz P Good p (i+1)).2.drawn-(va P Good (iz P Good p i)).2)else pos p i
def PX(p:cD×Xg)(i n:Nat):Prop:=pos P Good p i<=n/\(n<pos P Good p (i+1)\/¬Live P Good (iz P Good p i))
noncomputable def xH(p:cD×Xg)(n:Nat)(q:X8):Nat:=open Classical in
 if h:∃i,PX P Good p i n then(va P Good (iz P Good p (Classical.choose h))).1 ((va P Good (iz P Good p (Classical.choose h))).2+(n-pos P Good p (Classical.choose h))) q else 0
end bar
section bar
theorem Gn(k:¬Lone P Good s w)(l:¬EU s):∀d e,bZ P s (re w (va P Good (s,w)).1 (va P Good (s,w)).2) d e->¬Lone P Good d e:=by(have h:∃a:(Nat->X8->Nat)×Nat,∀d e,bZ P s (re w a.1 a.2) d e->¬Lone P Good d e:=by refine Va λj=>k ?_;refine .step l (λT D=>?_) (λT D d e g=>?_);{refine Va λf=>j ⟨(T,D),λd e g=>absurd ⟨d,e,g⟩ f⟩};refine Va λf=>j ⟨(T,D),λm n i=>?_⟩;obtain⟨rfl,rfl⟩:=g.Ox i;exact f);unfold va;grind
theorem zA(h:Live P Good p):bZ P p.1 (re p.2 (va P Good p).1 (va P Good p).2) (FU P Good p).1 (FU P Good p).2:=by unfold FU;grind
theorem yH(h:¬Live P Good p):FU P Good p=p:=by unfold FU;simp_all
theorem sO(h:Live P Good (iz P Good p i)):pos P Good p (i+1)=pos P Good p i+((iz P Good p (i+1)).2.drawn-(va P Good (iz P Good p i)).2):=by exact@if_pos _ (Classical.propDecidable _) h _ _ _
theorem zt(h:¬Live P Good (iz P Good p i)):pos P Good p (i+1)=pos P Good p i:=by exact@if_neg _ (Classical.propDecidable _) h _ _ _
theorem Gg(h:i<=j):pos P Good p i<=pos P Good p j:=by induction h with|refl=>omega|@step m _ b=>by_cases a:Live P Good (iz P Good p m);{rw[sO a];omega};rw[zt a];omega
theorem D6(h:i<=j)(d:¬Live P Good (iz P Good p i)):iz P Good p j=iz P Good p i/\pos P Good p j=pos P Good p i:=by induction h with|refl=>simp|@step m _ b=>(have a:¬Live P Good (iz P Good p m):=by simp_all);exact⟨(yH a).trans b.1,(zt a).trans b.2⟩
theorem GF(h:PX P Good p i n)(q:X8):xH P Good p n q=(va P Good (iz P Good p i)).1 ((va P Good (iz P Good p i)).2+(n-pos P Good p i)) q:=by(have g:∀{i j:Nat},i<=j->PX P Good p i n->PX P Good p j n->iz P Good p j=iz P Good p i/\pos P Good p j=pos P Good p i:=by intro i j a e f;by_cases d:Live P Good (iz P Good p i);{rcases Nat.eq_or_lt_of_le a with rfl|b;{simp};have:=Gg (P:=P) (Good:=Good) (p:=p) (show i+1<=j from b);rcases e.2 with h|h;{have:=f.1;omega};simp_all};exact D6 a d);have k:∃i,PX P Good p i n:=⟨i,h⟩;unfold xH;grind
variable(hl:Listed P c gl)
include hl
theorem wE(j:Fit P c gl p.1 p.2)(k:¬Lone P Good p.1 p.2):∀i,Fit P c gl (iz P Good p i).1 (iz P Good p i).2/\¬Lone P Good (iz P Good p i).1 (iz P Good p i).2:=by intro i;induction i with|zero=>exact⟨j,k⟩|succ i b=>show Fit P c gl (FU P Good (iz P Good p i)).1 (FU P Good (iz P Good p i)).2/\¬Lone P Good (FU P Good (iz P Good p i)).1 (FU P Good (iz P Good p i)).2;by_cases h:Live P Good (iz P Good p i);{have a:=zA h;refine⟨?_,Gn b.2 h.1 _ _ a⟩;rcases(b.1.re _ _).step hl (λe d=>h.1 ⟨e,d⟩)with⟨o,q,f,n⟩|g;{obtain⟨l,m⟩:=f.Ox a;simp_all};exact(g.not a).elim};rw[yH h];exact b
theorem Ig(g:Fit P c gl p.1 p.2)(k:¬Lone P Good p.1 p.2)(h:Live P Good (iz P Good p i)):bZ P (iz P Good p i).1 (re (iz P Good p i).2 (xH P Good p) (pos P Good p i)) (iz P Good p (i+1)).1 (re (iz P Good p (i+1)).2 (xH P Good p) (pos P Good p (i+1))):=by have l:=zA h;obtain⟨m,n,d⟩:=l.tape hl ((wE hl g k i).1.re _ _) (λe b=>h.1 ⟨e,b⟩);have a:(iz P Good p (i+1))=FU P Good (iz P Good p i):=rfl;(have:=d (xH P Good p) (pos P Good p i) λj q o=>by have f:PX P Good p i (pos P Good p i+j):=⟨U7 ..,.inl (by rw[sO h,a];have:(re (iz P Good p i).2 (va P Good (iz P Good p i)).1 (va P Good (iz P Good p i)).2).drawn=(va P Good (iz P Good p i)).2:=rfl;omega)⟩;rw[GF f];show _=(va P Good (iz P Good p i)).1 ((va P Good (iz P Good p i)).2+j) q;simp);rw[sO h,a];exact this
theorem B3(a:Fit P c gl p.1 p.2)(b:¬Lone P Good p.1 p.2):∀i,(∀l,l<i->Live P Good (iz P Good p l))->runN P i (k7 p.1 (re p.2 (xH P Good p) 0))=.next (k7 (iz P Good p i).1 (re (iz P Good p i).2 (xH P Good p) (pos P Good p i))):=by intro i;induction i with|zero=>intro _;rfl|succ i d=>intro h;rw[runN_add (d λl hl=>h l Ω)];exact yC (Ig hl a b (h i Ω)).Q1
theorem pk(o:∀v w T D,Good v w->Good v (re w T D))(W:Fit P c gl s w)(H:∀T,∃n K w' v,runN P n (k7 s (re w T 0))=.next (lone K [ey] w')/\K.leaving P w' (.returned v)/\Good v w'):Lone P Good s w:=by refine Va λhn=>?_;have f:Fit P c gl (s,w).1 (s,w).2:=W;have g:¬Lone P Good (s,w).1 (s,w).2:=hn;obtain⟨n,K,w',v,E,⟨C,hd,hk,J,R,h⟩,X⟩:=H (xH P Good (s,w));by_cases z:∀l,l<n->Live P Good (iz P Good (s,w) l);{have:=B3 hl f g n z;rw[show k7 (s,w).1 (re (s,w).2 (xH P Good (s,w)) 0)=k7 s (re w (xH P Good (s,w)) 0)from rfl,E]at this;obtain⟨a,b⟩:=wE hl f g n;generalize iz P Good (s,w) n=q at this a b;simp only[k7,lone,Stepped.next.injEq,Machine.mk.injEq,Array.mk.injEq,Vu,Xm.mk.injEq,and_true]at this;obtain⟨rfl,rfl,A⟩:=this;(have B:EU q.1:=by refine⟨?_,?_⟩;{cases E:q.1.ret with|true=>rfl|false=>rw[E]at C;cases C};cases hq:q.1.st with|nil=>rfl|cons x l=>rw[hq]at A;have:=congrArg List.length A;grind);refine b (.done (v:=v) B R λT D=>?_);(have O:∀e∈(results J q.1.t).events P (re q.2 (xH P Good (s,w)) (pos P Good (s,w) n)) #[],e.loc≠.output:=by obtain⟨ok,r,L,y,-⟩:=a.re (xH P Good (s,w)) (pos P Good (s,w) n);have:=kz J y.t (P:=P) _ _ L;rw[show(results J q.1.t).run P (re q.2 (xH P Good (s,w)) (pos P Good (s,w) n))=_ from h]at this;obtain⟨_,_,r1,_,_,_,l1⟩:=this;exactλe V=>(l1 e V).zO);obtain⟨-,-,M⟩:=y9 _ h O;have N:=M T D λj q Z=>absurd Z Ω;rw[WB]at N;exact⟨N,o v (re q.2 (xH P Good (s,w)) (pos P Good (s,w) n)) T D X⟩};(have:∃i,i<n/\¬Live P Good (iz P Good (s,w) i)/\∀l,l<i->Live P Good (iz P Good (s,w) l):=by(have Q:∃i,i<n/\¬Live P Good (iz P Good (s,w) i):=by simp_all);obtain⟨i,hi⟩:=Q;induction i using Nat.strongRecOn with|_ i ih=>grind);obtain⟨i,Y,d,u⟩:=this;have L:=B3 hl f g i u;obtain⟨k,rfl⟩:∃k,n=i+(k+1):=⟨n-i-1,by omega⟩;have y:=runN_add (k:=k+1) L;rw[show k7 (s,w).1 (re (s,w).2 (xH P Good (s,w)) 0)=k7 s (re w (xH P Good (s,w)) 0)from rfl,E]at y;obtain⟨a,b⟩:=wE hl f g i;by_cases F:EU (iz P Good (s,w) i).1;{exact Ef F y.symm C};rcases(a.re (xH P Good (s,w)) (pos P Good (s,w) i)).step hl (λe I=>F ⟨e,I⟩)with⟨s1,w1,M,N⟩|U;{obtain⟨-,-,S⟩:=M.tape hl (a.re _ _) (λe I=>F ⟨e,I⟩);(have:=S (va P Good (iz P Good (s,w) i)).1 (va P Good (iz P Good (s,w) i)).2 λj q _=>by show _=xH P Good (s,w) (pos P Good (s,w) i+j) q;rw[GF (i:=i) ⟨U7 ..,.inr d⟩,WC]);exact d ⟨F,(s1,_),this⟩};exact D5 U y.symm C
end bar
end
structure Env(own RO:Nat->Prop)(CU:Nat->Nat->Prop)(v v1:Xg):Prop where
 keep:∀k,own k\/RO k->v1.heap[k]?=v.heap[k]?
 cut:∀k n,CU k n->∀(x:Array Xe)(t:XD)(fr:Nat×Nat),v.heap[k]?=Xa (.cells x t fr)->∃x' fr',v1.heap[k]?=Xa (.cells x' t fr')/\x'.size=x.size/\∀o,o<n->x'[o]?=x[o]?
 grow:v.heap.size<=v1.heap.size
def TK(own RO:Nat->Prop)(CU:Nat->Nat->Prop)(e:X3):Prop:=
 (∃k,(match e.loc with|.cell a=>a.block=k|.obj j=>j=k|_=>False)/\(own k\/(RO k/\e.write=Ww))/\e.sync=Ww)\/(∃k n o,CU k n/\o<n/\e=⟨.cell ⟨k,o,Xl⟩,Ww,Ww⟩)\/e.loc=.mark .noRoom\/∃f,e.loc=.mark (.extern f)
def more(own:Nat->Prop)(v v':Xg):Nat->Prop:=λk=>own k\/(v.heap.size<=k/\k<v'.heap.size)
structure lC(own RO:Nat->Prop)(CU:Nat->Nat->Prop)(v v':Xg)(es:Array X3):Prop where
 keep:∀k,k<v.heap.size->¬own k->v'.heap[k]?=v.heap[k]?
 grow:v.heap.size<=v'.heap.size
 os:v'.os=v.os
 out:v'.output=v.output
 tape:v'.tape=v.tape
 evs:∀e∈es,TK (more own v v') RO CU e
inductive Loc(P:XF)(main:Bool)(RO:Nat->Prop)(CU:Nat->Nat->Prop)(Stop:(Nat->Prop)->Xm->Xg->Prop):(Nat->Prop)->Xm->Xg->Prop
 |stop{own:Nat->Prop}{g:Xm}{v:Xg}:Stop own g v->Loc P main RO CU Stop own g v
 |step{own:Nat->Prop}{g:Xm}{v:Xg}:g.status=.running->(∀v1,Env own RO CU v v1->∃g' v' es,Xo P main g v1=.go g' v' es/\lC own RO CU v1 v' es)->
  (∀v1 g' v' es,Env own RO CU v v1->Xo P main g v1=.go g' v' es->Loc P main RO CU Stop (more own v1 v') g' v')->Loc P main RO CU Stop own g v
theorem Loc.bind{S S':(Nat->Prop)->Xm->Xg->Prop}{g:Xm}(h:Loc P main RO CU S own g v)(k:∀own g v,S own g v->Loc P main RO CU S' own g v):Loc P main RO CU S' own g v:=by induction h with|stop h=>exact k _ _ _ h|step a h _ b=>exact .step a h b
theorem Env.refl(own RO:Nat->Prop)(CU:Nat->Nat->Prop)(v:Xg):Env own RO CU v v:=⟨λ_ _=>rfl,λ_ _ _ x _ a h=>⟨x,a,h,rfl,λ_ _=>rfl⟩,Us _⟩
theorem Env.trans(h:Env own RO CU v v1)(k:Env own RO CU v1 v2):Env own RO CU v v2:=⟨λi b=>(k.keep i b).trans (h.keep i b),λi n a x t f g=>by obtain⟨j,e,d,q,o⟩:=h.cut i n a x t f g;obtain⟨u,m,l,s,p⟩:=k.cut i n a j t e d;simp_all,UU h.grow k.grow⟩
structure Reach(c:dH)(r:bB)(own RO:Nat->Prop)(CU:Nat->Nat->Prop)(v:Xg):Prop where
 zv:∀b k,r b=Xa k->own k\/(c.seen b/\(RO k\/CU k (c.EY b)))
 old:∀k,own k\/RO k->k<v.heap.size
theorem cG.env(h:cG c r w v)(z:Reach c r own RO CU v)(f:Env own RO CU v v1):cG c r (Go.ab.re w v1.tape v1.drawn) v1:=⟨h.qz,λb k e=>Ut (h.zv b k e) f.grow,h.inj,h.qj,h.hid,λb k e=>by have:=h.blk b k e;rcases z.zv b k e with g|⟨C,g|g⟩;{rw[f.keep k (.inl g)];exact this};{rw[f.keep k (.inr g)];exact this};show qg c r b w.heap[b]? v1.heap[k]?;revert this;generalize w.heap[b]?=J;generalize j:v.heap[k]?=I;intro this;cases this with|@seen x A t m q s l D y e=>obtain⟨K,p,o,F,E⟩:=f.cut k _ g A m q j;rw[o];refine .seen t m p s l Ω y λi u H a b d=>?_;grind|own n _=>simp_all,rfl,rfl,h.old,h.aJ,h.im.1,UU h.im.2 f.grow⟩
theorem Reach.env(a:Reach c r own RO CU v)(b:Env own RO CU v v1):Reach c r own RO CU v1:=⟨a.zv,λk h=>Ut (a.old k h) b.grow⟩
theorem Ext.mine(h:Ext c r w v r' w' v')(m:Reach c r own RO CU v)(u:∀e∈es,q7 c r' e):lC own RO CU v v' es/\Reach c r' (more own v v') RO CU v':=by have q:=h.size;have D:=h.grow;(have f:∀b k,r' b=Xa k->more own v v' k\/(c.seen b/\(RO k\/CU k (c.EY b))):=λb k e=>by rcases U4 b w.heap.size with g|g;{rw[h.yG b g]at e;rcases m.zv b k e with x|x;{exact .inl (.inl x)};simp_all};have n:=h.rel.qz b k e;have o:=h.rel.zv b k e;rw[h.new b g n]at e;cases e;exact .inl (.inr ⟨by omega,o⟩));refine⟨⟨λk d E=>h.keep k d λb g=>?_,by omega,h.os,h.out,h.tape,λe y=>?_⟩,f,λk d=>?_⟩;{rcases m.zv b k g with x|x;{simp_all};grind};{rcases u e y with⟨b,g,F,l⟩|x;{(have:∃k,(match e.loc with|.cell a=>a.block=k/\(c.seen b->a.off<c.EY b/\a.spot=Xl)|.obj j=>j=k/\¬c.seen b|_=>False)/\r' b=Xa k:=by grind);obtain⟨k,n,o⟩:=this;(have i:(match e.loc with|.cell a=>a.block=k|.obj j=>j=k|_=>False):=by grind);rcases f b k o with x|⟨q,x|x⟩;{exact .inl ⟨k,i,.inl x,l⟩};{refine .inl ⟨k,i,.inr ⟨x,?_⟩,l⟩;simp_all};refine .inr (.inl ?_);obtain⟨p,I,H⟩:=e;cases p with|cell a=>obtain⟨rfl,t⟩:=n;obtain⟨B,C⟩:=t q;obtain⟨z,A,s⟩:=a;grind|obj j=>simp_all|_=>grind};exact .inr (.inr x)};rcases d with(d|d)|d;{have:=m.old k (.inl d);omega};{exact d.2};have:=m.old k (.inr d);omega
structure Left(c:dH)(r:bB)(own RO:Nat->Prop)(v:Xg)(own1:Nat->Prop)(v1:Xg):Prop where
 keep:∀k,own k\/RO k->(∀b,r b=Xa k->c.seen b)->v1.heap[k]?=v.heap[k]?
 mine:∀k,own1 k->own k\/v.heap.size<=k
 more:∀k,own k->own1 k
 grow:v.heap.size<=v1.heap.size
theorem Left.refl(c:dH)(r:bB)(own RO:Nat->Prop)(v:Xg):Left c r own RO v own v:=⟨λ_ _ _=>rfl,λ_ h=>.inl h,λ_ h=>h,Us _⟩
theorem Left.after{own1:Nat->Prop}(n:Reach c r own RO CU v)(m:Env own RO CU v v1)(f:Ext c r w v1 r' w' v')(h:Left c r' (Go.ab.more own v1 v') RO v' own1 v2):Left c r own RO v own1 v2:=by have q:=f.size;have p:=f.grow;have j:=m.grow;(have l:∀b k,k<v1.heap.size->r' b=Xa k->r b=Xa k:=λb k a e=>by rcases U4 b w.heap.size with d|d;{rw[<-f.yG b d];exact e};have i:=f.rel.qz b k e;rw[f.new b d i]at e;grind);refine⟨λk a d=>?_,λk a=>?_,λk a=>h.more k (.inl a),by have:=h.grow;omega⟩;{have g:k<v1.heap.size:=Ut (n.old k a) j;rw[h.keep k (a.imp .inl id) λb e=>d b (l b k g e),f.keep k g d,m.keep k a]};rcases h.mine k a with(i|i)|i;{grind};{omega};omega
theorem Lone.loc(hl:Listed P c gl)(h:Lone P Good s w):∀{r:bB}{own:Nat->Prop}{v:Xg}{s':cD},xc P c gl s->(∃T D,cG c r (re w T D) v)->ou c r s s'->(∀g,gl g=Xd->r g=Xa g)->Reach c r own RO CU v->(∀a x u p n v1,r.le a->Good u n->cG c a n v1->ai c a u p->Reach c a x RO CU v1->Left c r own RO v x v1->Loc P main RO CU Stop x (G (caller.finish p) cs) v1)->Loc P main RO CU Stop own (s'.g (caller::cs)) v:=by induction h with|@done s w U u ht H hd=>intro r own v s' hs⟨T,D,Z⟩Y W b K;obtain⟨f,t,k,ret,st⟩:=s;obtain⟨f',t',k',M,st'⟩:=s';obtain⟨e1,J,e2,e3,I⟩:=Y;simp only at e1 J e2 e3 I H;obtain⟨h1,h2⟩:=ht;simp only at h1 h2;subst f' k' M h1 h2;cases I;(have q:∀v1,Env own RO CU v v1->∃p j a,Xo P main ((cD.mk f t' k Xd []).g (caller::cs)) v1=.go (G (caller.finish p) cs) j (seen P f ((results U t').events P v1 #[]))/\Ext c r (re w v1.tape v1.drawn) v1 a (re w v1.tape v1.drawn) j/\ai c a u p/\(∀e∈seen P f ((results U t').events P v1 #[]),q7 c a e):=by intro v1 d;have E:cG c r (re w v1.tape v1.drawn) v1:=Z.env b d;have A:=kz U J (P:=P) _ _ E;rw[(hd v1.tape v1.drawn).1]at A;obtain⟨p,j,a,o,l,y,i⟩:=A;exact⟨p,j,a,aP H o,l,y,λe C=>i e (mem_seen C)⟩);refine .step rfl (λv1 d=>?_) (λv1 g' v' B d C=>?_);{obtain⟨p,j,a,o,l,y,i⟩:=q v1 d;exact⟨_,_,_,o,(l.mine (b.env d) i).1⟩};obtain⟨p,j,a,o,l,y,i⟩:=q v1 d;rw[o]at C;injection C with O Q R;subst O Q R;exact K a _ u p _ j l.le (hd v1.tape v1.drawn).2 l.rel y (l.mine (b.env d) i).2 (Left.after b d l (Left.refl ..))|@step s w X V hall ih=>intro r own v s' hs⟨T,D,Z⟩Y W b K;(have q:∀v1,Env own RO CU v v1->∃z n m j a B,bZ P s (re w v1.tape v1.drawn) z n/\xc P c gl z/\Xo P main (s'.g (caller::cs)) v1=.go (m.g (caller::cs)) j B/\Ext c r (re w v1.tape v1.drawn) v1 a n j/\ou c a z m/\(∀e∈B,q7 c a e):=by intro v1 d;have E:cG c r (re w v1.tape v1.drawn) v1:=Z.env b d;rcases sf (main:=main) (bs:=caller::cs) hl W E Y hs (λe e'=>X ⟨e,e'⟩)with⟨z,n,S,o,l,m,j,a,B,y,i,N,F⟩|hb;{exact⟨z,n,m,j,a,B,⟨S,o⟩,l,y,i,N,F⟩};obtain⟨z,n,o⟩:=V v1.tape v1.drawn;exact(hb.not o).elim);refine .step rfl (λv1 d=>?_) (λv1 g' v' B d C=>?_);{obtain⟨z,n,m,j,a,B,o,l,y,i,N,F⟩:=q v1 d;exact⟨_,_,_,y,(i.mine (b.env d) F).1⟩};obtain⟨z,n,m,j,a,es',o,l,y,i,N,F⟩:=q v1 d;rw[y]at C;injection C with O Q R;subst O Q R;refine ih v1.tape v1.drawn z n o l ⟨n.tape,n.drawn,i.rel⟩ N (λg e=>i.le _ _ (W g e)) (i.mine (b.env d) F).2 λr2 L u p w2 v3 c1 c2 c3 c4 c5 c6=>?_;exact K r2 L u p w2 v3 (bB.le_trans i.le c1) c2 c3 c4 c5 (Left.after b d i c6)
def entry(f:XI)(fn:Func)(b:Ya)(args:Array Xe):cD:=⟨f,args++Array.replicate (fn.ntmps-args.size) Xq,[.code b],Ww,[]⟩
theorem uF(p:Listed P c gl){b:Ya}(a:∀v w T D,Good v w->Good v (re w T D))(d:Fit P c gl (entry f fn b args) w)(m:P.funcs[f]?=Xa fn)(l:fn.body=Xa b)(H:∀T,Calls P f args (re w T 0) R)(k:∀e w',R e w'->∃v,e=.returned v/\Good v w'):Lone P Good (entry f fn b args) w:=by refine pk p a d λT=>?_;obtain⟨e,w',g,h,i,s,j⟩:=H T [ey];obtain⟨v,rfl,o⟩:=k e w' h;obtain⟨n,q⟩:=i;refine⟨n,g,w',v,?_,j,o⟩;rw[<-q];congr 1;rw[gH args m,l];rfl
theorem Loc.call(q:Listed P c gl){b:Ya}{args':Array Xe}(j:∀v w T D,Good v w->Good v (re w T D))(E:∀e w',R e w'->∃v,e=.returned v/\Good v w')(o:P.funcs[f]?=Xa fn)(p:c.fns f=Xd)(n:fn.body=Xa b)(t:∀g,gl g=Xd->r g=Xa g)(a:aj c r args args')(i:cG c r w v)(s:Reach c r own RO CU v)(H:∀T,Calls P f args (re w T 0) R)(K:∀m d u A B v1,r.le m->Good u B->cG c m B v1->ai c m u A->Reach c m d RO CU v1->Left c r own RO v d v1->Loc P main RO CU Stop d (G (caller.finish A) cs) v1):Loc P main RO CU Stop own (G (Xy.enter P f args' .normal) (caller::cs)) v:=by(have z:xc P c gl (entry f fn b args):=by refine⟨trivial,?_,λx F=>by simp[entry]at F⟩;obtain⟨I,h|⟨h,C⟩⟩:=q.body f fn p o;{simp_all};rw[n]at h;cases h;simp[entry,aV,C]);have y:ou c r (entry f fn b args) (entry f fn b args'):=⟨rfl,by show aj c r (args++_) (args'++_);rw[a.size];exact a.append (.replicate _ fO),rfl,rfl,.nil⟩;have l:=Fit.A4 z i y t;have k:=uF q j l o n H E;have:=k.loc q (main:=main) (RO:=RO) (CU:=CU) (Stop:=Stop) (caller:=caller) (cs:=cs) z ⟨w.tape,w.drawn,i⟩ y t s K;rw[gH args' o,n];exact this
structure fA where
 k:Nat
 low:Nat
 t:XD
 x:Array Xe
def fA.obj(s:fA):X0:=.cells s.x (if s.low=0 then s.t else vW) (0,s.x.size)
def dh(g:Nat)(ws:List fA)(v:Xg):Xg:={v with heap:=Array.replicate g (.cells #[] 0)++(ws.map fA.obj).toArray}
def dz(P:XF)(fns:XI->Bool)(ws:List fA):dH:=
 {fns:=fns,seen:=λb=>P.globals.size<=b/\b<P.globals.size+ws.length,EY:=λb=>if b<P.globals.size then 0 else((ws[b-P.globals.size]?).map λs=>s.x.size).getD 0,aJ:=P.globals.size,
   low:=λb=>if b<P.globals.size then 0 else((ws[b-P.globals.size]?).map λs=>s.low).getD 0}
def gx(g:Nat)(ws:List fA):bB:=λb=>if b<g then Xl else(ws[b-g]?).map λs=>s.k
theorem eH{ws:List fA}{k:Nat}(h:gx g ws b=Xa k):∃(i:Nat)(s:fA),b=g+i/\ws[i]?=Xa s/\s.k=k/\i<ws.length:=by unfold gx at h;grind
theorem LY{ws:List fA}{s:fA}(h:ws[i]?=Xa s):gx g ws (g+i)=Xa s.k:=by unfold gx;simp_all
theorem jE(g:Nat)(ws:List fA)(v:Xg):(dh g ws v).heap.size=g+ws.length:=by simp[dh]
theorem vr{ws:List fA}{s:fA}(h:ws[i]?=Xa s):(dh g ws v).heap[g+i]?=Xa s.obj:=by show(Array.replicate g _++_)[g+i]?=_;grind
theorem Bf{ws:List fA}(h:b<g):(dh g ws v).heap[b]?=Xa (.cells #[] 0):=by show(Array.replicate g _++_)[b]?=_;grind
theorem bS{ws:List fA}{o:Nat}{s:fA}{u:Xe}(h:ws[i]?=Xa s)(a:s.x[o]?=Xa u):(dh g ws v).cell? ⟨g+i,o,Xl⟩=Xa u:=by simp[Xg.cell?,vr h,fA.obj,a]
structure od(P:XF)(fns:XI->Bool)(ws:List fA)(v:Xg):Prop where
 im:P.globals.size<=v.heap.size
 bad:P.info? vW=Xl
 at_:∀(i:Nat)(s:fA),ws[i]?=Xa s->∃(x':Array Xe)(t':XD)(fr:Nat×Nat),v.heap[s.k]?=Xa (.cells x' t' fr)/\s.x.size<=x'.size/\(s.low=0->s.t=t')/\
  ∀(j:Nat)(u u':Xe),s.low<=j->s.x[j]?=Xa u->x'[j]?=Xa u'->ai (dz P fns ws) (gx P.globals.size ws) u u'
theorem od.rel{ws:List fA}(h:od P fns ws v):cG (dz P fns ws) (gx P.globals.size ws) (dh P.globals.size ws v) v:=by refine⟨λb k e=>?_,λb k e=>?_,λb D k e w=>?_,λb g=>?_,λb g _=>Bf g,λb k e=>?_,rfl,rfl,λb g=>?_,λb k e q=>?_,?_⟩;{obtain⟨i,s,rfl,f,y,m⟩:=eH e;rw[jE];omega};{obtain⟨i,s,rfl,f,rfl,m⟩:=eH e;obtain⟨C,t,o,p,-⟩:=h.at_ i s f;grind};{obtain⟨i,s,rfl,f,y,m⟩:=eH e;obtain⟨I,J,rfl,x,z,A⟩:=eH w;exact .inr ⟨⟨U7 _ _,by omega⟩,⟨U7 _ _,by omega⟩⟩};{show(if b<P.globals.size then 0 else _)=0;split;{rfl};rename_i H;(have:ws[b-P.globals.size]?=Xl:=by rw[List.getElem?_eq_none_iff];have:¬(P.globals.size<=b/\b<P.globals.size+ws.length):=g;omega);simp_all};{obtain⟨i,s,rfl,f,rfl,m⟩:=eH e;obtain⟨C,t,o,p,B,E,F⟩:=h.at_ i s f;rw[vr f,p];(have l:(dz P fns ws).low (P.globals.size+i)=s.low:=by show(if _<_ then 0 else _)=_;grind);refine .seen _ t o ⟨U7 _ _,by omega⟩ ?_ B ⟨λn=>?_,λn=>?_⟩ λj u K a b d=>?_;{show _<=(if _<_ then 0 else _);grind};{simp_all};{rw[l]at n;rw[if_neg n];exact⟨rfl,U7 _ _⟩};grind};{rw[jE];exact g.2};{obtain⟨i,s,rfl,f,rfl,m⟩:=eH e;have q:P.globals.size+i<P.globals.size:=q;omega};exact⟨by rw[jE];show P.globals.size<=_;omega,h.im⟩
theorem gY{ws:List fA}{off:Nat}{s:fA}(h:ws[i]?=Xa s)(a:s.low<=off):du (dz P fns ws) (gx P.globals.size ws) ⟨P.globals.size+i,off,Xl⟩ ⟨s.k,off,Xl⟩:=by refine⟨LY h,rfl,rfl,?_⟩;(have b:¬(P.globals.size+i<P.globals.size):=by omega);show(if P.globals.size+i<P.globals.size then 0 else((ws[P.globals.size+i-P.globals.size]?).map λs=>s.low).getD 0)<=off;grind
section
theorem Ei{fr:Xy}(h:wN fr cs)(e:lone fr cs w=k7 s' w'):False:=by obtain⟨-,rfl,rfl⟩:=e;rcases h with⟨f,t,k,b,d,h,-⟩|⟨-,h⟩;{simp only[cm,Xy.mk.injEq]at h;have:=h.2.2.2.2.1;cases a:s'.ret<;>rw[a]at this<;>simp[md]at this};simp at h
theorem mC:∀(n:Nat){fr:Xy}{cs:List Xy}{w:Xg},wN fr cs->∀{s':cD}{w':Xg},runN P n (lone fr cs w)=.next (k7 s' w')->False:=by intro n;induction n with|zero=>intro fr cs w h s' w' e;simp only[runN,Stepped.next.injEq]at e;exact Ei h e|succ n i=>intro fr cs w h s' w' e;simp only[runN]at e;rcases vL (P:=P) h w with⟨d,a,f,b,g⟩|⟨o,f,b⟩;{simp_all};simp_all
theorem Bp(h:PW (Xo P Xd (s.g [ey]) w))(e:runN P (n+1) (k7 s w)=.next (k7 s' w')):False:=by simp only[runN]at e;rcases h with⟨o,a,h⟩|⟨f,t,k,b,i,a,j,h,d,g⟩;{rw[show step P (k7 s w)=.ended o a from step_lone_ended h]at e;cases e};rw[gv h]at e;exact mC n (.inl ⟨f,t,k,b,i,rfl,rfl,d,g⟩) e
theorem BQ(m:EU s)(e:runN P (n+1) (k7 s w)=.next (k7 s' w')):False:=by obtain⟨f,t,k,p,y⟩:=s;obtain⟨d,g⟩:=m;subst d g;have i:wN ey []:=.inr ⟨.inr (.inl rfl),rfl⟩;have a:∀v,ey.finish v=ey:=λv=>rfl;simp only[runN]at e;cases b:P.funcs[f]? with|none=>rw[gv ((bJ b).trans (by rw[a]))]at e;exact mC n i e|some l=>cases j:(results l t).run P w with|halt h q=>obtain⟨o,r,h⟩:=da b j;rw[show step P (k7 ⟨f,t,k,Xd,[]⟩ w)=.ended o r from step_lone_ended h]at e;cases e|ok u q=>rw[gv ((aP b j).trans (by rw[a]))]at e;exact mC n i e
theorem KM(h:k7 s w=k7 s' w'):s=s'/\w=w':=by simp only[k7,lone,Machine.mk.injEq,Array.mk.injEq,Vu,Xm.mk.injEq]at h;obtain⟨a,b,d⟩:=h;refine⟨G7 ?_,a⟩;simp only[cD.g,G,b,d]
inductive jg(P:XF)(Good:cD->Xg->Prop):cD->Xg->Prop
 |done{s:cD}{w:Xg}:(∀T D,Good s (re w T D))->jg P Good s w
 |step{s:cD}{w:Xg}:¬Good s w->¬EU s->(∀T D,∃s1 w1,bZ P s (re w T D) s1 w1)->(∀T D s1 w1,bZ P s (re w T D) s1 w1->jg P Good s1 w1)->jg P Good s w
section bar
variable(P)(Good:cD->Xg->Prop)
noncomputable def kL(p:cD×Xg):(Nat->X8->Nat)×Nat:=open Classical in
 if h:∃a:(Nat->X8->Nat)×Nat,∀s1 w1,bZ P p.1 (re p.2 a.1 a.2) s1 w1->¬jg P Good s1 w1 then Classical.choose h else(λ_ _=>0,0)
def ij(p:cD×Xg):Prop:=¬EU p.1/\∃q:cD×Xg,bZ P p.1 (re p.2 (kL P Good p).1 (kL P Good p).2) q.1 q.2
noncomputable def uh(p:cD×Xg):cD×Xg:=open Classical in if h:ij P Good p then Classical.choose h.2 else p
noncomputable def cX(p:cD×Xg):Nat->cD×Xg
 |0=>p
 |i+1=>uh P Good (cX p i)
noncomputable def jR(p:cD×Xg):Nat->Nat
 |0=>0
 |i+1=>open Classical in if ij P Good (cX P Good p i)then jR p i+((cX P Good p (i+1)).2.drawn-(kL P Good (cX P Good p i)).2)else jR p i
def EO(p:cD×Xg)(i n:Nat):Prop:=jR P Good p i<=n/\(n<jR P Good p (i+1)\/¬ij P Good (cX P Good p i))
noncomputable def pO(p:cD×Xg)(n:Nat)(q:X8):Nat:=open Classical in
 if h:∃i,EO P Good p i n then(kL P Good (cX P Good p (Classical.choose h))).1 ((kL P Good (cX P Good p (Classical.choose h))).2+(n-jR P Good p (Classical.choose h))) q else 0
end bar
section bar
variable{Good:cD->Xg->Prop}
theorem D2(f:∀s w T D,Good s w->Good s (re w T D))(l:¬jg P Good s w)(n:¬EU s):∀d e,bZ P s (re w (kL P Good (s,w)).1 (kL P Good (s,w)).2) d e->¬jg P Good d e:=by(have h:∃a:(Nat->X8->Nat)×Nat,∀d e,bZ P s (re w a.1 a.2) d e->¬jg P Good d e:=by refine Va λk=>l ?_;refine .step (λm=>l (.done λT D=>f _ _ T D m)) n (λT D=>?_) (λT D d e i=>?_);{refine Va λg=>k ⟨(T,D),λd e i=>absurd ⟨d,e,i⟩ g⟩};refine Va λg=>k ⟨(T,D),λo q j=>?_⟩;obtain⟨rfl,rfl⟩:=i.Ox j;exact g);unfold kL;grind
theorem vm(h:ij P Good p):bZ P p.1 (re p.2 (kL P Good p).1 (kL P Good p).2) (uh P Good p).1 (uh P Good p).2:=by unfold uh;grind
theorem vj(h:¬ij P Good p):uh P Good p=p:=by unfold uh;simp_all
theorem qE(h:ij P Good (cX P Good p i)):jR P Good p (i+1)=jR P Good p i+((cX P Good p (i+1)).2.drawn-(kL P Good (cX P Good p i)).2):=by exact@if_pos _ (Classical.propDecidable _) h _ _ _
theorem vw(h:¬ij P Good (cX P Good p i)):jR P Good p (i+1)=jR P Good p i:=by exact@if_neg _ (Classical.propDecidable _) h _ _ _
theorem DT(h:i<=j):jR P Good p i<=jR P Good p j:=by induction h with|refl=>omega|@step m _ b=>by_cases a:ij P Good (cX P Good p m);{rw[qE a];omega};rw[vw a];omega
theorem As(h:i<=j)(d:¬ij P Good (cX P Good p i)):cX P Good p j=cX P Good p i/\jR P Good p j=jR P Good p i:=by induction h with|refl=>simp|@step m _ b=>(have a:¬ij P Good (cX P Good p m):=by simp_all);exact⟨(vj a).trans b.1,(vw a).trans b.2⟩
theorem CN(h:EO P Good p i n)(q:X8):pO P Good p n q=(kL P Good (cX P Good p i)).1 ((kL P Good (cX P Good p i)).2+(n-jR P Good p i)) q:=by(have g:∀{i j:Nat},i<=j->EO P Good p i n->EO P Good p j n->cX P Good p j=cX P Good p i/\jR P Good p j=jR P Good p i:=by intro i j a e f;by_cases d:ij P Good (cX P Good p i);{rcases Nat.eq_or_lt_of_le a with rfl|b;{simp};have:=DT (P:=P) (Good:=Good) (p:=p) (show i+1<=j from b);rcases e.2 with h|h;{have:=f.1;omega};simp_all};exact As a d);have k:∃i,EO P Good p i n:=⟨i,h⟩;unfold pO;grind
variable(hl:Listed P c gl)(hGood:∀s w T D,Good s w->Good s (re w T D))
include hl hGood
theorem sR(j:Fit P c gl p.1 p.2)(k:¬jg P Good p.1 p.2):∀i,Fit P c gl (cX P Good p i).1 (cX P Good p i).2/\¬jg P Good (cX P Good p i).1 (cX P Good p i).2:=by intro i;induction i with|zero=>exact⟨j,k⟩|succ i b=>show Fit P c gl (uh P Good (cX P Good p i)).1 (uh P Good (cX P Good p i)).2/\¬jg P Good (uh P Good (cX P Good p i)).1 (uh P Good (cX P Good p i)).2;by_cases h:ij P Good (cX P Good p i);{have a:=vm h;refine⟨?_,D2 hGood b.2 h.1 _ _ a⟩;rcases(b.1.re _ _).step hl (λe d=>h.1 ⟨e,d⟩)with⟨o,q,f,n⟩|g;{obtain⟨l,m⟩:=f.Ox a;simp_all};exact(g.not a).elim};rw[vj h];exact b
theorem Dj(g:Fit P c gl p.1 p.2)(k:¬jg P Good p.1 p.2)(h:ij P Good (cX P Good p i)):bZ P (cX P Good p i).1 (re (cX P Good p i).2 (pO P Good p) (jR P Good p i)) (cX P Good p (i+1)).1 (re (cX P Good p (i+1)).2 (pO P Good p) (jR P Good p (i+1))):=by have l:=vm h;obtain⟨m,n,d⟩:=l.tape hl ((sR hl hGood g k i).1.re _ _) (λe b=>h.1 ⟨e,b⟩);have a:(cX P Good p (i+1))=uh P Good (cX P Good p i):=rfl;(have:=d (pO P Good p) (jR P Good p i) λj q o=>by have f:EO P Good p i (jR P Good p i+j):=⟨U7 ..,.inl (by rw[qE h,a];have:(re (cX P Good p i).2 (kL P Good (cX P Good p i)).1 (kL P Good (cX P Good p i)).2).drawn=(kL P Good (cX P Good p i)).2:=rfl;omega)⟩;rw[CN f];show _=(kL P Good (cX P Good p i)).1 ((kL P Good (cX P Good p i)).2+j) q;simp);rw[qE h,a];exact this
theorem zI(a:Fit P c gl p.1 p.2)(b:¬jg P Good p.1 p.2):∀i,(∀l,l<i->ij P Good (cX P Good p l))->runN P i (k7 p.1 (re p.2 (pO P Good p) 0))=.next (k7 (cX P Good p i).1 (re (cX P Good p i).2 (pO P Good p) (jR P Good p i))):=by intro i;induction i with|zero=>intro _;rfl|succ i d=>intro h;rw[runN_add (d λl hl=>h l Ω)];exact yC (Dj hl hGood a b (h i Ω)).Q1
theorem uH(E:Fit P c gl s w)(H:∀T,∃n s' w',runN P n (k7 s (re w T 0))=.next (k7 s' w')/\Good s' w'):jg P Good s w:=by refine Va λJ=>?_;have d:Fit P c gl (s,w).1 (s,w).2:=E;have f:=J;obtain⟨n,s',w',x,F⟩:=H (pO P Good (s,w));by_cases o:∀l,l<n->ij P Good (cX P Good (s,w) l);{have:=zI hl hGood d f n o;rw[show k7 (s,w).1 (re (s,w).2 (pO P Good (s,w)) 0)=k7 s (re w (pO P Good (s,w)) 0)from rfl,x]at this;obtain⟨b,g⟩:=sR hl hGood d f n;obtain⟨y,L⟩:=KM (Stepped.next.inj this);refine g (.done λT D=>?_);have:=hGood _ _ T D F;simp_all};(have:∃i,i<n/\¬ij P Good (cX P Good (s,w) i)/\∀l,l<i->ij P Good (cX P Good (s,w) l):=by(have v:∃i,i<n/\¬ij P Good (cX P Good (s,w) i):=by simp_all);obtain⟨i,N⟩:=v;induction i using Nat.strongRecOn with|_ i O=>grind);obtain⟨i,I,a,m⟩:=this;have z:=zI hl hGood d f i m;obtain⟨k,rfl⟩:∃k,n=i+(k+1):=⟨n-i-1,by omega⟩;have u:=runN_add (k:=k+1) z;rw[show k7 (s,w).1 (re (s,w).2 (pO P Good (s,w)) 0)=k7 s (re w (pO P Good (s,w)) 0)from rfl,x]at u;obtain⟨b,g⟩:=sR hl hGood d f i;by_cases r:EU (cX P Good (s,w) i).1;{exact BQ r u.symm};rcases(b.re (pO P Good (s,w)) (jR P Good (s,w) i)).step hl (λe t=>r ⟨e,t⟩)with⟨K,Q,A,M⟩|C;{obtain⟨-,-,B⟩:=A.tape hl (b.re _ _) (λe t=>r ⟨e,t⟩);(have:=B (kL P Good (cX P Good (s,w) i)).1 (kL P Good (cX P Good (s,w) i)).2 λj q _=>by show _=pO P Good (s,w) (jR P Good (s,w) i+j) q;rw[CN ⟨U7 ..,.inr a⟩,WC]);exact a ⟨r,(K,_),this⟩};exact Bp C u.symm
end bar
end
def R0:XV:=.code (.refuse "")
def GN(live:Nat->Bool):XN->Bool
 |.tmp i=>live i
 |_=>Xd
def nW(live:Nat->Bool)(o:X9):Bool:=o.op.operands.all (GN live)&&(match o.dst with|some d=>live d|none=>Xd)
def mT(live:Nat->Bool)(ops:Array X9)(o:X9):Bool:=match o.guard with|none=>Xd|some (j,_)=>(match(ops[j]?).bind (·.dst)with|some d=>live d|none=>Xd)
def tS(live:Nat->Bool)(ops:Array X9)(i:Nat):Bool:=match ops[i]? with|some o=>nW live o&&mT live ops o|none=>Xd
theorem zZ(h:ops.all (λo=>nW live o&&mT live ops o)=Xd)(l:List Nat):l.all (tS live ops)=Xd:=by rw[UT];intro i _;unfold tS;grind
def gf(live:Nat->Bool):Ya->Bool
 |.region _ ops _=>ops.all (λo=>nW live o&&mT live ops o)
 |.seq a b=>gf live a&&gf live b
 |.cond x a b=>GN live x&&gf live a&&gf live b
 |.block _ a|.loop a|.scope a=>gf live a
 |.ret=>Ww
 |_=>Xd
def cZ(live:Nat->Bool):XV->Bool
 |.code a|.inLoop a|.inScope a=>gf live a
 |.inRegion ops l=>l.all (tS live ops)
 |_=>Xd
structure dm where
 f:XI
 defers:List Deferred
 kind:CallKind
 roundOf:Option Nat
 l2:Option (Array X9×List Nat)
 tail:List XV
 live:Nat->Bool
 t0:Array Xe
def dm.ov(d:dm)(t:Array Xe):Array Xe:=t.mapIdx λi v=>if d.live i then v else d.t0.getD i Xq
def dm.bot(d:dm)(t:Array Xe)(k':List XV):Xy:={fn:=d.f,tmps:=d.ov t,todo:=k',defers:=d.defers,mode:=.run,kind:=d.kind,roundOf:=d.roundOf}
inductive Gl(d:dm):List XV->List XV->Prop
 |app{init:List XV}:d.l2=Xl->init.all (cZ d.live)=Xd->Gl d (init++[R0]) (init++d.tail)
 |reg{ops:Array X9}{l1 l2:List Nat}:d.l2=Xa (ops,l2)->l1.all (tS d.live ops)=Xd->Gl d [.inRegion ops l1,R0] (.inRegion ops (l1++l2)::d.tail)
 |fin{ops:Array X9}{l2:List Nat}:d.l2=Xa (ops,l2)->Gl d [R0] (.inRegion ops l2::d.tail)
def dm.end(d:dm)(k:List XV):Prop:=k=[R0]\/(d.l2.isSome=Xd/\∃ops,k=[.inRegion ops [],R0])
inductive Kb(d:dm):Bool->XI×Array Xe×List XV->Xy->Prop
 |up{f:XI}{t:Array Xe}{k:List XV}:Kb d Ww (f,t,k) (cm f t k .run)
 |bot{t:Array Xe}{k k':List XV}:Gl d k k'->Kb d Xd (d.f,t,k) (d.bot t k')
theorem LJ{d:dm}(h:d.live i=Xd):(d.ov t).getD i Xq=t.getD i Xq:=by simp only[dm.ov,Uz,VW];simp_all
theorem Nv{d:dm}(h:d.live i=Xd):(d.ov t)[i]?=t[i]?:=by simp only[dm.ov,VW];simp_all
theorem NM{d:dm}(h:d.live i=Xd)(v:Xe):(d.ov t).setIfInBounds i v=d.ov (t.setIfInBounds i v):=by apply Vs;intro j;simp only[dm.ov,VH,VW,Wf];grind
theorem CW{d:dm}{m:FrameMode}(x:XN)(h:GN d.live x=Xd):(d.bot t k').eval x=(cm f t k m).eval x:=by cases x with|tmp i=>exact LJ h|_=>rfl
theorem execOp_congr{ev ev':XN->Xe}(f:∀cs b,o.op≠.select cs b)(h:∀x∈o.op.operands,ev x=ev' x):Xp ev o=Xp ev' o:=by have m:∀(l:Array XN),(∀x∈l,ev x=ev' x)->l.map ev=l.map ev':=λl d=>Xn d;(have s:∀(x:Option XN),(∀y∈x,ev y=ev' y)->x.map ev=x.map ev':=λx d=>by cases x with|none=>rfl|some y=>simp_all);(have u:∀(j:Array (Nat×XN)),(∀p∈j,ev p.2=ev' p.2)->(j.map λ(i,x)=>(i,ev x))=(j.map λ(i,x)=>(i,ev' x)):=λj d=>Xn λp g=>by grind);(have v:∀(k:Call)(t:XD),(∀x∈k.operands,ev x=ev' x)->resolve ev k t=resolve ev' k t:=λk t d=>by obtain⟨a,e,q⟩:=k;have r:e.map ev=e.map ev':=m _ λx n=>d x (by cases a<;>simp[Call.operands,n]);unfold resolve;cases a<;>simp only[r];{rw[d _ (by simp[Call.operands])]};rw[d _ (by simp[Call.operands])]);unfold Xp;revert h f;(cases o.op<;>intro f h<;>simp only[Op.operands]at h<;>first|rfl|(simp only[List.mem_toArray,Uy,U3,or_false,forall_eq,forall_eq_or_imp]at h;simp only[h];done)|(simp only[];rw[u _ (λp g=>h _ (by simp only[List.mem_toArray,UC];exact⟨p,by simpa using g,rfl⟩))];done)|(simp only[];rw[m _ (λx d=>h x (U1.2 (.inl d))),m _ (λx d=>h x (U1.2 (.inr d)))];done)|(simp only[];rw[s _ (λx d=>h x (by simpa using d))];done)|(simp only[];rw[v _ _ h];done)|(exact absurd rfl (f _ _))|skip);simp_all
section
variable{d:dm}{b:Bool}{cs0:List Xy}{g1:Xm}{x:XV}
theorem Gl.cons(h:Gl d (x::kr) k')(j:x≠R0):(∃init,d.l2=Xl/\kr=init++[R0]/\k'=x::(init++d.tail)/\cZ d.live x=Xd/\init.all (cZ d.live)=Xd)\/(∃ops i l,d.l2=Xa (ops,l)/\x=.inRegion ops i/\kr=[R0]/\k'=.inRegion ops (i++l)::d.tail/\i.all (tS d.live ops)=Xd):=by generalize a:x::kr=k at h;cases h with|@app init g e=>(cases init with|nil=>simp at a;exact absurd a.1 j|cons y init=>obtain⟨rfl,rfl⟩:=a;simp only[UY,Uv]at e;exact .inl ⟨init,g,rfl,rfl,e.1,e.2⟩)|reg g e=>simp only[Vu]at a;exact .inr ⟨_,_,_,g,a.1,a.2,rfl,e⟩|fin g=>simp only[Vu]at a;exact absurd a.1 j
theorem Gl.zr(h:Gl d (x::kr) k')(e:x≠R0)(a:∀ops l,x≠.inRegion ops l):∃init,d.l2=Xl/\kr=init++[R0]/\k'=x::(init++d.tail)/\cZ d.live x=Xd/\init.all (cZ d.live)=Xd:=by rcases h.cons e with h|⟨ops,g,_,_,h,_⟩;{exact h};exact absurd h (a _ _)
theorem Gl.mk'{init:List XV}(pre:List XV)(a:d.l2=Xl)(e:init.all (cZ d.live)=Xd)(g:pre.all (cZ d.live)=Xd):Gl d (pre++(init++[R0])) (pre++(init++d.tail)):=by rw[<-VB,<-VB];exact .app a (by simp[g,e])
theorem l5{tail:List XV}{p:XV->Bool}:∀{init k1:List XV},init.all p=Xd->exitTo id (init++[R0])=Xa k1->∃g,k1=g++[R0]/\g.all p=Xd/\exitTo id (init++tail)=Xa (g++tail)|[],_,_,h=>by simp[exitTo,R0]at h|x::l,k1,j,h=>by simp only[UY,Uv]at j;rw[Wg]at h;unfold exitTo at h;split at h;{rename_i s u e;cases e;split at h;{rename_i i;cases h;exact⟨l,rfl,j.2,by simp[exitTo,i]⟩};rename_i i;obtain⟨r,m,n,o⟩:=l5 (tail:=tail) j.2 h;exact⟨r,m,n,by simp[exitTo,i,o]⟩};{rename_i y u q e;cases e;obtain⟨r,m,n,o⟩:=l5 (tail:=tail) j.2 h;refine⟨r,m,n,?_⟩;rw[Wg];unfold exitTo;split;{rename_i e;cases e;exact absurd rfl (q _)};{rename_i e;cases e;exact o};rename_i e;cases e};rename_i e;cases e
def After(P:XF)(main:Bool)(d:dm)(b:Bool)(f:XI)(t:Array Xe)(k:List XV)(F:Xy)(cs0:List Xy)(v v':Xg)(g1:Xm)(es:Array X3):Prop:=
 (∃t1 k1 F1,g1=G (cm f t1 k1 .run) cs0/\Kb d b (f,t1,k1) F1/\∀cs,Xo P main (G F cs) v=.go (G F1 cs) v' es)\/
 (∃j t1 k1,g1=G (cm j t1 k1 .run) (cm f t k .run::cs0)/\∀cs,Xo P main (G F cs) v=.go (G (cm j t1 k1 .run) (F::cs)) v' es)\/
 (b=Ww/\∃k1,g1=G (cm f t k1 .returning) cs0/\∀cs,Xo P main (G F cs) v=.go (G (cm f t k1 .returning) cs) v' es)
theorem After.ctl(e:Xo P main (G (cm f t k .run) cs0) v=.go g1 v' es)(o:Kb d b (f,t,k) F)(L:∀cs,Xo P main (G (cm f t k .run) cs) v=.go (G (cm f t k1 .run) cs) v #[])(g:b=Xd->∀k',Gl d k k'->∃a,Gl d k1 a/\∀cs,Xo P main (G (d.bot t k') cs) v=.go (G (d.bot t a) cs) v #[]):After P main d b f t k F cs0 v v' g1 es:=by rw[L]at e;injection e with i j l;subst i j l;cases o with|up=>exact .inl ⟨t,k1,_,rfl,.up,L⟩|bot h=>obtain⟨a,m,n⟩:=g rfl _ h;exact .inl ⟨t,k1,_,rfl,.bot m,n⟩
theorem After.ret(a:Xo P main (G (cm f t k .run) cs0) v=.go g1 v' es)(j:Kb d b (f,t,k) F)(L:∀cs,Xo P main (G (cm f t k .run) cs) v=.go (G (cm f t k1 .returning) cs) v #[])(l:∀k',¬Gl d k k'):After P main d b f t k F cs0 v v' g1 es:=by rw[L]at a;injection a with e g i;subst e g i;cases j with|up=>exact .inr (.inr ⟨rfl,k1,rfl,L⟩)|bot h=>exact absurd h (l _)
theorem jZ(a:(match(ops[i]?).bind (·.dst)with|some j=>d.live j|none=>Xd)=Xd)(u:Xe):(d.bot t (.inRegion ops (i::rest')::kk)).finish u=d.bot (match(ops[i]?).bind (·.dst)with|some j=>t.setIfInBounds j u|none=>t) (.inRegion ops rest'::kk):=by simp only[dm.bot,Xy.finish];cases e:(ops[i]?).bind (·.dst)with|none=>rfl|some j=>rw[e]at a;simp only at a⊢;rw[NM a]
section op
variable{w1:Xg}
abbrev fB(d:dm)(t:Array Xe)(ops:Array X9)(i:Nat)(rest:List Nat)(kk:List XV):Xy:=d.bot t (.inRegion ops (i::rest)::kk)
theorem wS{u:Xe}(q:d.kind≠.early)(p:∀c,o.op≠.defer c)(m:ops[i]?=Xa o)(n:Region.wanted o (XE ops (d.ov t))=Xd)(j:(Xp (fB d t ops i rest kk).eval o).run P w=.ok (.value u) w1):Xo P main (G (fB d t ops i rest kk) cs) w=.go (G ((fB d t ops i rest kk).finish u) cs) w1 (seen P d.f ((Xp (fB d t ops i rest kk).eval o).events P w #[])):=by simp only[dm.bot]at j;(have a:=by simpa using q);cases g:d.roundOf with|none=>simp[G,Xo,Xo.exec,Xo.oper,Xo.apply,Xy.oper?,dm.bot,m,n,g,a];rw[<-g,j];simp[GStep.after]|some l=>simp only[G,Xo,Xo.exec,Xo.oper,Xy.oper?,dm.bot,m,n,UD,U0,if_true];split;{rename_i e;exact absurd e (p _)};simp[Xo.apply,j,GStep.after,a]
theorem y5(q:d.kind≠.early)(p:∀c,o.op≠.defer c)(m:ops[i]?=Xa o)(n:Region.wanted o (XE ops (d.ov t))=Xd)(j:(Xp (fB d t ops i rest kk).eval o).run P w=.ok .skip w1):Xo P main (G (fB d t ops i rest kk) cs) w=.go (G ((fB d t ops i rest kk).finish Xq) cs) w1 (seen P d.f ((Xp (fB d t ops i rest kk).eval o).events P w #[])):=by simp only[dm.bot]at j;(have a:=by simpa using q);cases g:d.roundOf with|none=>simp[G,Xo,Xo.exec,Xo.oper,Xo.apply,Xy.oper?,dm.bot,m,n,g,a];rw[<-g,j];simp[GStep.after]|some l=>simp only[G,Xo,Xo.exec,Xo.oper,Xy.oper?,dm.bot,m,n,UD,U0,if_true];split;{rename_i e;exact absurd e (p _)};simp[Xo.apply,j,GStep.after,a]
theorem xG{j:XI}(r:d.kind≠.early)(q:∀c,o.op≠.defer c)(n:ops[i]?=Xa o)(p:Region.wanted o (XE ops (d.ov t))=Xd)(m:(Xp (fB d t ops i rest kk).eval o).run P w=.ok (.enter j args) w1):Xo P main (G (fB d t ops i rest kk) cs) w=.go (G (Xy.enter P j args .normal) (fB d t ops i rest kk::cs)) w1 (seen P d.f ((Xp (fB d t ops i rest kk).eval o).events P w #[])):=by simp only[dm.bot]at m;(have a:=by simpa using r);cases g:d.roundOf with|none=>simp[G,Xo,Xo.exec,Xo.oper,Xo.apply,Xy.oper?,dm.bot,n,p,g,a];rw[<-g,m];simp[GStep.after]|some l=>simp only[G,Xo,Xo.exec,Xo.oper,Xy.oper?,dm.bot,n,p,UD,U0,if_true];split;{rename_i e;exact absurd e (q _)};simp[Xo.apply,m,GStep.after,a]
theorem rn(h:((ops[i]?).map (Region.wanted · (XE ops (d.ov t)))).getD Ww=Ww):Xo P main (G (fB d t ops i rest kk) cs) w=.go (G ((fB d t ops i rest kk).finish Xq) cs) w #[]:=by simp only[G,Xo,Xo.exec,dm.bot,h,UO,if_false]
end op
theorem uY(h:mT d.live ops o=Xd):Region.wanted o (XE ops (d.ov t))=Region.wanted o (XE ops t):=by unfold Region.wanted;unfold mT at h;cases g:o.guard with|none=>rfl|some p=>obtain⟨j,b⟩:=p;rw[g]at h;simp only at h⊢;unfold XE;cases e:(ops[j]?).bind (·.dst)with|none=>rfl|some i=>rw[e]at h;simp only[Vm];rw[Nv h]
theorem kW(h:tS live ops i=Xd)(a:ops[i]?=Xa o):nW live o=Xd/\mT live ops o=Xd:=by unfold tS at h;rw[a]at h;simpa using h
theorem IE(h:ub P c gl o=Xd):(∀cs b,o.op≠.select cs b)/\∀k,o.op≠.defer k:=by constructor;{intro a b e;rw[ub,e]at h;simp at h};intro a e;rw[ub,e]at h;simp at h
theorem Ic(j:XI)(x:Array Xe):∃e k1,Xy.enter P j x .normal=cm j e k1 .run:=by cases a:P.funcs[j]? with|none=>exact⟨_,_,nY x a⟩|some g=>exact⟨_,_,gH x a⟩
def Uo:Next->Prop
 |.value _|.skip|.enter _ _=>True
 |_=>False
def A1(P:XF)(f:XI)(t:Array Xe)(k:List XV)(v:Xg):Prop:=
 ∀ops i rest kk o,k=.inRegion ops (i::rest)::kk->ops[i]?=Xa o->Region.wanted o (XE ops t)=Xd->∃n w1,(Xp (nF f t ops i rest kk).eval o).run P v=.ok n w1/\Uo n
theorem Kb.step(D:Xo P main (G (cm f t k .run) cs0) v=.go g1 v' es)(Z:k.all (aV P c gl)=Xd)(R:Kb d b (f,t,k) F)(he:d.kind≠.early)(hend:b=Xd->¬d.end k)(hrun:A1 P f t k v)(hp:∀ch,g1.frame.mode≠.panicking ch):After P main d b f t k F cs0 v v' g1 es:=by cases k with|nil=>refine After.ret (k1:=[]) D R (λp=>by simp[G,Xo,Xo.exec,cm]) λk' h=>?_;generalize Z:([]:List XV)=k at h;(cases h with|app _ _=>simp at Z|reg _ _=>simp at Z|fin _=>simp at Z)|cons x kr=>simp only[UY,Uv]at Z;obtain⟨V,hkr⟩:=Z;(have q:∀(Q:List XV),x≠R0->(∀g l,x≠.inRegion g l)->(cZ d.live x=Xd->Q.all (cZ d.live)=Xd)->(∀(kr:List XV)p,Xo P main (G (cm f t (x::kr) .run) p) v=.go (G (cm f t (Q++kr) .run) p) v #[])->(∀(kr:List XV)p,Xo P main (G (d.bot t (x::kr)) p) v=.go (G (d.bot t (Q++kr)) p) v #[])->After P main d b f t (x::kr) F cs0 v v' g1 es:=by intro Q U O h3 h4 h5;refine After.ctl (k1:=Q++kr) D R (h4 kr) λ_ k' h=>?_;obtain⟨z,A,B,C,I,N⟩:=h.zr U O;subst B C;exact⟨_,.mk' Q A N (h3 I),h5 _⟩);cases x with|code a=>(cases a with|skip=>exact q [] (by simp[R0]) Θ (λ_=>rfl) (λkr p=>by simp[G,Xo,Xo.exec,cm]) (λkr p=>by simp[G,Xo,Xo.exec,dm.bot])|label l=>exact q [] (by simp[R0]) Θ (λ_=>rfl) (λkr p=>by simp[G,Xo,Xo.exec,cm]) (λkr p=>by simp[G,Xo,Xo.exec,dm.bot])|ret=>refine After.ret D R (λp=>og) λk' h=>?_;obtain⟨z,_,_,_,h4,_⟩:=h.zr (by simp[R0]) Θ;simp[cZ,gf]at h4|seq a b=>exact q [.code a,.code b] (by simp[R0]) Θ (λh=>by simpa[cZ,gf]using h) (λkr p=>by simp[G,Xo,Xo.exec,cm]) (λkr p=>by simp[G,Xo,Xo.exec,dm.bot])|block id a=>exact q [.code a,.inBlock id] (by simp[R0]) Θ (λh=>by simpa[cZ,gf]using h) (λkr p=>by simp[G,Xo,Xo.exec,cm]) (λkr p=>by simp[G,Xo,Xo.exec,dm.bot])|loop a=>exact q [.code a,.inLoop a] (by simp[R0]) Θ (λh=>by simpa[cZ,gf]using h) (λkr p=>by simp[G,Xo,Xo.exec,cm]) (λkr p=>by simp[G,Xo,Xo.exec,dm.bot])|scope a=>exact q [.code a,.inScope a] (by simp[R0]) Θ (λh=>by simpa[cZ,gf]using h) (λkr p=>lI) (λkr p=>by simp[G,Xo,Xo.exec,dm.bot])|refuse why=>have:∃o w,Xo P main (G (cm f t (.code (.refuse why)::kr) .run) cs0) v=.ended o w #[]:=⟨_,v,by simp[G,Xo,Xo.exec,cm];rfl⟩;obtain⟨o,w,e⟩:=this;rw[e]at D;cases D|exit id=>(cases X:exitTo id kr with|none=>rw[jb X]at D;cases D|some k1=>refine After.ctl (k1:=k1) D R (λp=>by simp[G,Xo,Xo.exec,cm,X]) λ_ k' h=>?_;obtain⟨z,A,B,C,I,N⟩:=h.zr (by simp[R0]) Θ;subst B C;obtain⟨i1,f1,f2,f3⟩:=l5 (tail:=d.tail) N X;subst f1;exact⟨_,.app A f2,λp=>by simp[G,Xo,Xo.exec,dm.bot,f3]⟩)|cond y a Y=>(cases hv:(cm f t (.code (.cond y a Y)::kr) .run).eval y with|bool u=>refine After.ctl (k1:=.code (if u then a else Y)::kr) D R (λp=>kt hv) λ_ k' h=>?_;obtain⟨z,A,B,C,I,N⟩:=h.zr (by simp[R0]) Θ;subst B C;simp only[cZ,gf,Uv]at I;refine⟨_,.mk' [.code (if u then a else Y)] A N (by cases u<;>simp[cZ,I]),λp=>?_⟩;have:=CW (d:=d) (t:=t) (k:=.code (.cond y a Y)::(z++[R0])) (k':=.code (.cond y a Y)::(z++d.tail)) (f:=f) (m:=.run) y I.1.1;rw[hv]at this;simp only[dm.bot]at this;simp[G,Xo,Xo.exec,dm.bot,this]|_=>obtain⟨o,w2,e⟩:=jF (P:=P) (main:=main) (cs:=cs0) (w:=v) (f:=f) (t:=t) (x:=y) (a:=a) (b:=Y) (k:=kr) (λu e=>by rw[hv]at e;cases e);rw[D]at e;cases e)|region id g draw=>(cases draw with|false=>exact q [.inRegion g (List.range g.size)] (by simp[R0]) Θ (λh=>by simp only[cZ,gf]at h;simp only[UY,Wh,cZ,zZ h,VJ]) (λkr p=>by simp[G,Xo,Xo.exec,cm]) (λkr p=>by simp[G,Xo,Xo.exec,dm.bot])|true=>have L:=λp=>j6 (P:=P) (main:=main) (f:=f) (t:=t) (id:=id) (ops:=g) (k:=kr) (cs:=p) (w:=v);rw[L]at D;cases hc:(choose (.order f id)).run P v with|halt h w1=>rw[hc]at D;cases D|ok u w1=>rw[hc]at D;simp only at D;injection D with A B C;subst A B C;cases R with|up=>exact .inl ⟨t,_,_,rfl,.up,λp=>by rw[L,hc]⟩|bot h=>obtain⟨z,A,B,C,I,N⟩:=h.zr (by simp[R0]) Θ;subst B C;refine .inl ⟨t,_,_,rfl,.bot (.mk' [.inRegion g (Region.schedule (P.follows .mixedOrders) g u)] A N (by simp only[cZ,gf]at I;simp only[UY,Wh,cZ,zZ I,VJ])),λp=>?_⟩;simp only[G,Xo,Xo.exec,dm.bot,Bool.not_true,UO,if_false,hc];rfl)|rangeFunc _ _ _ _=>simp[aV,codeOk]at V|goto l=>simp[aV,codeOk]at V)|inBlock id=>exact q [] (by simp[R0]) Θ (λ_=>rfl) (λkr p=>by simp[G,Xo,Xo.exec,cm]) (λkr p=>by simp[G,Xo,Xo.exec,dm.bot])|inLoop a=>exact q [.code a,.inLoop a] (by simp[R0]) Θ (λh=>by simpa[cZ]using h) (λkr p=>by simp[G,Xo,Xo.exec,cm]) (λkr p=>by simp[G,Xo,Xo.exec,dm.bot])|inScope a=>exact q [] (by simp[R0]) Θ (λ_=>rfl) (λkr p=>jV) (λkr p=>by simp[G,Xo,Xo.exec,dm.bot])|inRegion g l=>(cases l with|nil=>refine After.ctl (k1:=kr) D R (λp=>by simp[G,Xo,Xo.exec,cm]) λhb k' h=>?_;rcases h.cons (by simp[R0])with⟨z,A,B,C,I,N⟩|⟨ops',l1,l2,A,B,C,I,N⟩;{subst B C;exact⟨_,.app A N,λp=>by simp[G,Xo,Xo.exec,dm.bot]⟩};exact absurd (by unfold dm.end;rw[A];cases B;exact .inr ⟨rfl,_,by rw[C]⟩) (hend hb)|cons i s=>have hops:(i::s).all (opAt P c gl g)=Xd:=V;(have hB:∀k',b=Xd->Gl d (.inRegion g (i::s)::kr) k'->∃r E,k'=.inRegion g (i::r)::E/\Gl d (.inRegion g s::kr) (.inRegion g r::E)/\tS d.live g i=Xd:=by intro k' _ h;rcases h.cons (by simp[R0])with⟨z,A,B,C,I,N⟩|⟨ops',l1,l2,A,B,C,I,N⟩;{subst B C;simp only[cZ,UY,Uv]at I;exact⟨s,_,rfl,.mk' [.inRegion g s] A N (by simp only[UY,Wh,cZ,I.2,VJ]),I.1⟩};cases B;subst C I;simp only[UY,Uv]at N;exact⟨s++l2,_,rfl,.reg A N.2,N.1⟩);cases M:((g[i]?).map (Region.wanted · (XE g t))).getD Ww with|false=>have L:=λp=>stepG_unwanted (P:=P) (main:=main) (f:=f) (cs:=p) (k:=kr) (rest:=s) (w:=v) M;rw[L]at D;injection D with A B C;subst A B C;(cases R with|up=>exact .inl ⟨_,_,_,by rw[cK],.up,λp=>by rw[L,cK]⟩|bot h=>obtain⟨r,E,rfl,U,O⟩:=hB _ rfl h;refine .inl ⟨_,_,_,by rw[cK],.bot U,λp=>?_⟩;(have hl:(match(g[i]?).bind (·.dst)with|some j=>d.live j|none=>Xd)=Xd:=by cases K:g[i]? with|none=>rfl|some o=>have:=(kW O K).1;simp only[nW,Uv]at this;cases hd:o.dst<;>simp only[Vm,hd];rw[hd]at this;exact this.2);exact(rn (by cases K:g[i]? with|none=>rfl|some o=>rw[K]at M;simp only[UD,U0]at M⊢;rw[uY (kW O K).2];exact M)).trans (congrArg (λF=>GStep.go (G F p) v #[]) (jZ hl Xq)))|true=>cases K:g[i]? with|none=>rw[K]at M;simp at M|some o=>rw[K]at M;(have H:Region.wanted o (XE g t)=Xd:=by simpa using M);obtain⟨n,w1,hr,hshp⟩:=hrun g i s kr o rfl K H;have hok:ub P c gl o=Xd:=mP hops K;obtain⟨hsel,S⟩:=IE hok;(have W:∀r E,b=Xd->tS d.live g i=Xd->Xp (fB d t g i r E).eval o=Xp (nF f t g i s kr).eval o/\Region.wanted o (XE g (d.ov t))=Xd/\(match(g[i]?).bind (·.dst)with|some j=>d.live j|none=>Xd)=Xd:=by intro r E _ O;have hl:=(kW O K).1;simp only[nW,Uv]at hl;refine⟨execOp_congr hsel λx hxx=>CW x ?_,by rw[uY (kW O K).2];exact H,?_⟩;{have:=hl.1;rw[VV]at this;exact this x hxx};rw[K];cases hd:o.dst<;>simp only[Vm,hd];rw[hd]at hl;exact hl.2);cases n with|value u=>have L:=λp=>jl (P:=P) (main:=main) (cs:=p) K H hr;rw[L]at D;injection D with A B C;subst A B C;(cases R with|up=>exact .inl ⟨_,_,_,by rw[cK],.up,λp=>by rw[L,cK]⟩|bot h=>obtain⟨r,E,rfl,U,O⟩:=hB _ rfl h;obtain⟨T,a2,a3⟩:=W r E rfl O;refine .inl ⟨_,_,_,by rw[cK],.bot U,λp=>?_⟩;exact((wS he S K a2 (by rw[T];exact hr)).trans (by rw[T])).trans (congrArg (λF=>GStep.go (G F p) _ _) (jZ a3 u)))|skip=>have L:=λp=>kg (P:=P) (main:=main) (cs:=p) K H hr;rw[L]at D;injection D with A B C;subst A B C;(cases R with|up=>exact .inl ⟨_,_,_,by rw[cK],.up,λp=>by rw[L,cK]⟩|bot h=>obtain⟨r,E,rfl,U,O⟩:=hB _ rfl h;obtain⟨T,a2,a3⟩:=W r E rfl O;refine .inl ⟨_,_,_,by rw[cK],.bot U,λp=>?_⟩;exact((y5 he S K a2 (by rw[T];exact hr)).trans (by rw[T])).trans (congrArg (λF=>GStep.go (G F p) _ _) (jZ a3 Xq)))|enter j args=>have L:=λp=>jv (P:=P) (main:=main) (cs:=p) K H hr;obtain⟨t1,k1,I⟩:=Ic (P:=P) j args;rw[L]at D;injection D with A B C;subst A B C;(cases R with|up=>exact .inr (.inl ⟨j,t1,k1,by rw[I],λp=>by rw[L,I]⟩)|bot h=>obtain⟨r,E,rfl,U,O⟩:=hB _ rfl h;obtain⟨T,a2,a3⟩:=W r E rfl O;refine .inr (.inl ⟨j,t1,k1,by rw[I],λp=>?_⟩);rw[xG he S K a2 (by rw[T];exact hr),T,I])|_=>exact hshp.elim)|inRangeFunc _=>simp[aV]at V|endRangeFunc _=>simp[aV]at V|beginRound=>simp[aV]at V|call _ _ _ _=>simp[aV]at V|extern _ _=>simp[aV]at V
end
section
variable{d:dm}
theorem cD.lg(h:s.g cs=s'.g cs):s=s':=by obtain⟨f,t,k,b,p⟩:=s;obtain⟨m,q,o,a,l⟩:=s';simp only[cD.g,G,cm,Xm.mk.injEq,Xy.mk.injEq]at h;obtain⟨⟨e,g,i,-,n,-⟩,j,-⟩:=h;have:=GH (Xk j);subst e g i this;(have:b=a:=by cases b<;>cases a<;>simp_all[md]);rw[this]
theorem Gl.op(h:Gl d (.inRegion ops (i::rest)::kr) k'):∃a f,k'=.inRegion ops (i::a)::f/\Gl d (.inRegion ops rest::kr) (.inRegion ops a::f)/\tS d.live ops i=Xd:=by rcases h.cons (by simp[R0])with⟨l,g,j,k,b,e⟩|⟨m,o,n,g,j,k,b,e⟩;{subst j k;simp only[cZ,UY,Uv]at b;exact⟨rest,_,rfl,.mk' [.inRegion ops rest] g e (by simp only[UY,Wh,cZ,b.2,VJ]),b.1⟩};cases j;subst k b;simp only[UY,Uv]at e;exact⟨rest++n,_,rfl,.reg g e.2,e.1⟩
theorem GR(a:tS d.live ops i=Xd):(match(ops[i]?).bind (·.dst)with|some j=>d.live j|none=>Xd)=Xd:=by cases b:ops[i]? with|none=>rfl|some o=>have:=(kW a b).1;simp only[nW]at this;grind
inductive DG(d:dm)(cs:List Xy):cD->Xm->Prop
 |here{t:Array Xe}{k k':List XV}:Gl d k k'->DG d cs ⟨d.f,t,k,Ww,[]⟩ (G (d.bot t k') cs)
 |below{f:XI}{t t0:Array Xe}{k k0 k0':List XV}{ret:Bool}{pre st:List (XI×Array Xe×List XV)}:st=pre++[(d.f,t0,k0)]->Gl d k0 k0'->DG d cs ⟨f,t,k,ret,st⟩ (G (cm f t k (md ret)) (pre.map up++d.bot t0 k0'::cs))
theorem DG.running{g:Xm}(h:DG d cs s g):g.status=.running:=by cases h<;>rfl
theorem DG.step{cs cs0:List Xy}{s s1:cD}{g:Xm}{v v':Xg}{es:Array X3}(h:DG d cs s g)(p:Xo P main (s.g cs0) v=.go (s1.g cs0) v' es)(E:xc P c gl s)(he:d.kind≠.early)(H:s.ret=Ww->A1 P s.f s.t s.k v)(R:s.st=[]->¬d.end s.k):∃g1,Xo P main g v=.go g1 v' es/\DG d cs s1 g1:=by(have w:∀ch,(s1.g cs0).frame.mode≠.panicking ch:=λch e=>by simp only[cD.g,G,cm]at e;cases hr:s1.ret<;>rw[hr]at e<;>simp[md]at e);cases h with|@here t k k' D=>rcases Kb.step (d:=d) (b:=Xd) (k:=k) (F:=d.bot t k') p E.items (.bot D) he (λ_=>R rfl) (H rfl) w with⟨O,m,F1,B,U,C⟩|⟨j,O,m,B,C⟩|⟨e,_⟩;{obtain rfl:s1=⟨d.f,O,m,Ww,[]⟩:=cD.lg (cs:=cs0) B;cases U with|bot S=>exact⟨_,C cs,.here S⟩};{obtain rfl:s1=⟨j,O,m,Ww,[(d.f,t,k)]⟩:=cD.lg (cs:=cs0) B;exact⟨_,C cs,.below (pre:=[]) rfl D⟩};cases e|@below f t A k N k0' Y n st W D=>subst W;cases Y with|false=>rcases Kb.step (d:=d) (b:=Ww) (F:=cm f t k .run) p E.items .up he (λe=>by cases e) (H rfl) w with⟨O,m,F1,B,U,C⟩|⟨j,O,m,B,C⟩|⟨_,m,B,C⟩;{obtain rfl:s1=⟨f,O,m,Ww,n++[(d.f,A,N)]⟩:=cD.lg (cs:=cs0) B;cases U with|up=>exact⟨_,C _,.below rfl D⟩};{obtain rfl:s1=⟨j,O,m,Ww,(f,t,k)::(n++[(d.f,A,N)])⟩:=cD.lg (cs:=cs0) (B.trans rfl);exact⟨_,C _,.below (pre:=(f,t,k)::n) rfl D⟩};obtain rfl:s1=⟨f,t,m,Xd,n++[(d.f,A,N)]⟩:=cD.lg (cs:=cs0) B;exact⟨_,C _,.below rfl D⟩|true=>cases n with|nil=>obtain⟨-,-,l,i,a,m,e⟩:=E.below (d.f,A,N) Θ;simp only at e;subst e;obtain⟨X,kk',rfl,S,h2⟩:=D.op;have hl:=GR h2;have L:up (d.f,A,.inRegion l (i::a)::m)=nF d.f A l i a m:=rfl;rw[cD.jd]at p;simp only[VX,U5,Vj,Wg,L]at p;(cases q:P.funcs[f]? with|none=>rw[bJ q,cK]at p;injection p with I J K;subst J K;obtain rfl:s1=⟨d.f,_,.inRegion l a::m,Ww,[]⟩:=cD.lg (cs:=cs0) I.symm;exact⟨_,(bJ q).trans (congrArg (λF=>GStep.go (G F cs) _ _) (jZ hl _)),.here S⟩|some V=>cases M:(results V t).run P v with|halt z w1=>obtain⟨o,Z,e⟩:=da (main:=main) (k:=k) (x:=nF d.f A l i a m) (cs:=cs0) q M;simp_all|ok u Z=>rw[aP q M,cK]at p;injection p with I J K;subst J K;obtain rfl:s1=⟨d.f,_,.inRegion l a::m,Ww,[]⟩:=cD.lg (cs:=cs0) I.symm;exact⟨_,(aP q M).trans (congrArg (λF=>GStep.go (G F cs) _ _) (jZ hl _)),.here S⟩)|cons y n=>obtain⟨Q,T,ky⟩:=y;obtain⟨-,-,l,i,a,m,e⟩:=E.below (Q,T,ky) Θ;simp only at e;subst e;have L:up (Q,T,.inRegion l (i::a)::m)=nF Q T l i a m:=rfl;rw[cD.jd]at p;simp only[Wg,U5,L]at p;cases q:P.funcs[f]? with|none=>rw[bJ q,cK]at p;injection p with I J K;subst J K;obtain rfl:s1=⟨Q,_,.inRegion l a::m,Ww,n++[(d.f,A,N)]⟩:=cD.lg (cs:=cs0) I.symm;exact⟨_,(bJ q).trans (by rfl),.below rfl D⟩|some V=>cases M:(results V t).run P v with|halt z w1=>obtain⟨o,Z,e⟩:=da (main:=main) (k:=k) (x:=nF Q T l i a m) (cs:=(n++[(d.f,A,N)]).map up++cs0) q M;simp_all|ok u Z=>rw[aP q M,cK]at p;injection p with I J K;subst J K;obtain rfl:s1=⟨Q,_,.inRegion l a::m,Ww,n++[(d.f,A,N)]⟩:=cD.lg (cs:=cs0) I.symm;exact⟨_,(aP q M).trans (by rfl),.below rfl D⟩
theorem Ji(D:Listed P c gl){w1:Xg}(T:∀g,gl g=Xd->r g=Xa g)(W:cG c r w v)(U:ou c r s s')(V:xc P c gl s)(A:bZ P s w s1 w1)(m:s.ret=Ww):A1 P s'.f s'.t s'.k v:=by obtain⟨f,t,k,ret,st⟩:=s;obtain⟨S,M,X,L,st'⟩:=s';obtain⟨O,H,Q,R,B⟩:=U;simp only at O H Q R B m;subst S X m;intro a i l I o J E p;subst J;(have h:Region.wanted o (XE a t)=Xd:=by rw[<-funext λj=>mH H a j];exact p);obtain⟨y,-⟩:=V.sZ;have F:=mP y E;have b:=sE D.aJ D.ext F (ev:=(nF f t a i l I).eval) (λx q=>pM H T D.qj x q) (λ_=>⟨rfl,rfl⟩) w v W;cases q:(Xp (nF f t a i l I).eval o).run P w with|halt z w2=>rw[q]at b;by_cases K:∃u,z=.panic u;{obtain⟨u,rfl⟩:=K;exact(A.qe (lG E h q)).elim};exact(A.gS (lY E h q b (λu e=>K ⟨u,e⟩))).elim|ok n w2=>rw[q]at b;obtain⟨Y,v1,r1,N,-,Z,-⟩:=b;exact⟨Y,v1,N,by cases Z<;>trivial⟩
def ME(d:dm)(Q:Array Xe->Xg->Prop)(s:cD)(w:Xg):Prop:=s.st=[]/\s.ret=Ww/\s.f=d.f/\s.k=[R0]/\Q s.t w
theorem jg.loc(hl:Listed P c gl)(he:d.kind≠.early)(h:jg P (ME d Q) s w):∀{r:bB}{own:Nat->Prop}{v:Xg}{s':cD}{g:Xm},xc P c gl s->(∃T D,cG c r (re w T D) v)->ou c r s s'->(∀g,gl g=Xd->r g=Xa g)->Reach c r own RO CU v->DG d cs s' g->(∀q p t F k' i v1,r.le q->Q t i->Gl d [R0] k'->cG c q i v1->aj c q t F->Reach c q p RO CU v1->Left c r own RO v p v1->Loc P main RO CU Stop p (G (d.bot F k') cs) v1)->Loc P main RO CU Stop own g v:=by induction h with|@done s w hd=>intro r own v s' g I⟨T,D,hw⟩m S b n K;obtain⟨C,g2,g3,g4,g5⟩:=hd T D;obtain⟨f,t,k,ret,st⟩:=s;obtain⟨f',F,k',u,st'⟩:=s';obtain⟨e1,W,e2,e3,a⟩:=m;simp only at e1 W e2 e3 a C g2 g3 g4 g5;subst f' k' u C g2 g3 g4;cases a;(cases n with|here j=>exact K r own _ _ _ _ v (bB.le_refl r) g5 j hw W b (Left.refl ..)|below e j=>simp at e)|@step s w hng U hex hall ih=>intro r own v s' g I⟨T,D,hw⟩m S b n K;have stuck:∀(f:XI)(t:Array Xe)(w:Xg)(A:cD)(i:Xg),¬bZ P ⟨f,t,[R0],Ww,[]⟩ w A i:=λf t w A i h=>h.gS ⟨_,w,by rfl⟩;(have o:s.st=[]->s.ret=Ww:=λh=>by cases m:s.ret with|false=>rfl|true=>exact absurd ⟨m,h⟩ U);by_cases J:s.st=[]/\d.l2.isSome=Xd/\∃B,s.k=[.inRegion B [],R0];{obtain⟨N,h2,B,h3⟩:=J;have h0:=o N;obtain⟨f,t,k,ret,st⟩:=s;obtain⟨f',F,k',u,st'⟩:=s';obtain⟨e1,W,e2,e3,a⟩:=m;simp only at e1 W e2 e3 a N h3 h0;subst f' k' u N h3 h0;cases a;have hls:bZ P ⟨f,t,[.inRegion B [],R0],Ww,[]⟩ (re w T D) ⟨f,t,[R0],Ww,[]⟩ (re w T D):=⟨#[],by rfl⟩;cases n with|@here _ _ k2 j=>(have:Gl d [R0] k2:=by generalize hk:[XV.inRegion B [],R0]=kk at j;cases j with|app hn _=>simp_all|reg hn _=>simp only[Vu,XV.inRegion.injEq,and_true]at hk;obtain⟨rfl,rfl⟩:=hk;exact .fin hn|fin _=>simp at hk);exact ih T D _ _ hls (s':=⟨d.f,F,[R0],Ww,[]⟩) ⟨I.fn,rfl,I.below⟩ ⟨T,D,by simp_all⟩ ⟨rfl,W,rfl,rfl,.nil⟩ S b (.here this) K|below e j=>simp at e};(have R:s.st=[]->¬d.end s.k:=by intro N h2;rcases h2 with h2|⟨h2,h3⟩;{have h0:=o N;obtain⟨f,t,k,ret,st⟩:=s;simp_all};simp_all);(have Y:∀v1,Env own RO CU v v1->∃A i z v2 q M C,bZ P s (re w v1.tape v1.drawn) A i/\xc P c gl A/\Xo P main g v1=.go C v2 M/\DG d cs z C/\Ext c r (re w v1.tape v1.drawn) v1 q i v2/\ou c q A z/\(∀e∈M,q7 c q e):=by intro v1 E;have X:cG c r (re w v1.tape v1.drawn) v1:=hw.env b E;obtain⟨A,i,L⟩:=hex v1.tape v1.drawn;rcases sf (main:=main) (bs:=[]) hl S X m I (λe e'=>U ⟨e,e'⟩)with⟨s2,w2,es1,b1,b2,z,v2,q,M,b3,b4,b5,b6⟩|hb;{obtain⟨rfl,rfl⟩:=bZ.Ox L ⟨es1,b1⟩;have hs':xc P c gl s':=⟨trivial,by rw[m.k];exact I.items,by have:=I.below;have a:=m.st;revert this;generalize s.st=l at a;generalize s'.st=l' at a;induction a with|nil=>simp|@cons f t F k l l' _ _ ih=>intro h x hx;rcases Uy.1 hx with rfl|hx;{simp_all};exact ih (λy hy=>h y (UM _ hy)) x hx⟩;obtain⟨C,c1,c2⟩:=n.step b3 hs' he (λV=>Ji hl S X m I L (by rw[<-m.ret];exact V)) (λh=>by rw[m.k];refine R ?_;have a:=m.st;rw[h]at a;generalize s.st=l at a;cases a;rfl);grind};exact(hb.not L).elim);refine .step n.running (λv1 E=>?_) (λv1 g' v' M E O=>?_);{obtain⟨A,i,z,v2,q,M,C,L,a2,a3,a4,H,a6,a7⟩:=Y v1 E;exact⟨_,_,_,a3,(H.mine (b.env E) a7).1⟩};obtain⟨A,i,z,v2,q,es',C,L,a2,a3,a4,H,a6,a7⟩:=Y v1 E;rw[a3]at O;injection O with b1 b2 b3;subst b1 b2 b3;refine ih v1.tape v1.drawn A i L a2 ⟨i.tape,i.drawn,H.rel⟩ a6 (λg e=>H.le _ _ (S g e)) (H.mine (b.env E) a7).2 a4 λr2 Z t F k' w2 v3 c1 c2 c3 c4 c5 c6 c7=>?_;exact K r2 Z t F k' w2 v3 (bB.le_trans H.le c1) c2 c3 c4 c5 c6 (Left.after b E H c7)
end
section
variable{d:dm}
def lv(live:Nat->Bool)(t:Array Xe):Array Xe:=t.mapIdx λi v=>if live i then v else Xq
theorem Ra:d.ov (lv d.live d.t0)=d.t0:=by apply Vs;intro i;simp only[dm.ov,lv,VW,Uz];grind
structure Place(P:XF)(c:dH)(gl:Nat->Bool)(r:bB)(w:Xg)(own RO:Nat->Prop)(CU:Nat->Nat->Prop)(v:Xg):Prop where
 aR:Listed P c gl
 TN:∀g,gl g=Xd->r g=Xa g
 rel:cG c r w v
 reach:Reach c r own RO CU v
theorem Loc.piece(e:Place P c gl r w own RO CU v)(C:d.kind≠.early){k0':List XV}(E:k0.all (aV P c gl)=Xd)(l:Gl d k0 k0')(F:aj c r tl (lv d.live d.t0))(B:∀t w T D,Q t w->Q t (re w T D))(H:∀T,∃n f w',runN P n (k7 ⟨d.f,tl,k0,Ww,[]⟩ (re w T 0))=.next (k7 ⟨d.f,f,[R0],Ww,[]⟩ w')/\Q f w')(K:∀k a t f k' y v1,r.le k->Q t y->Gl d [R0] k'->cG c k y v1->aj c k t f->Reach c k a RO CU v1->Left c r own RO v a v1->Loc P main RO CU Stop a (G (d.bot f k') cs) v1):Loc P main RO CU Stop own (G {fn:=d.f,tmps:=d.t0,todo:=k0',defers:=d.defers,mode:=.run,kind:=d.kind,roundOf:=d.roundOf} cs) v:=by have o:xc P c gl ⟨d.f,tl,k0,Ww,[]⟩:=⟨trivial,E,λx I=>by simp at I⟩;have m:ou c r ⟨d.f,tl,k0,Ww,[]⟩ ⟨d.f,lv d.live d.t0,k0,Ww,[]⟩:=⟨rfl,F,rfl,rfl,.nil⟩;have g:=Fit.A4 o e.rel m e.TN;(have b:jg P (ME d Q) ⟨d.f,tl,k0,Ww,[]⟩ w:=by refine uH e.aR (λs w T D h=>⟨h.1,h.2.1,h.2.2.1,h.2.2.2.1,B _ _ T D h.2.2.2.2⟩) g λT=>?_;obtain⟨n,f,w',z,A⟩:=H T;exact⟨n,_,w',z,rfl,rfl,rfl,rfl,A⟩);have:=b.loc e.aR (main:=main) (RO:=RO) (CU:=CU) (Stop:=Stop) (cs:=cs) C o ⟨w.tape,w.drawn,e.rel⟩ m e.TN e.reach (.here l) K;rw[dm.bot,Ra]at this;exact this
theorem EK(h:cd.wp P (λe a w=>e=.normal/\a.defers=[]/\Q a.tmps w) ⟨t,[]⟩ w):∃n b w',runN P n (k7 ⟨f,t,[.code cd,R0],Ww,[]⟩ w)=.next (k7 ⟨f,b,[R0],Ww,[]⟩ w')/\Q b w':=by obtain⟨e,j,w',⟨rfl,g,i⟩,n,k⟩:=h (base f) [R0] [ey];obtain⟨b,l⟩:=j;simp only at g i;subst g;exact⟨n,b,w',k,i⟩
theorem Loc.code(N:Place P c gl r w own RO CU v)(g:Nat->Bool)(o:F.todo=.code cd::tail)(s:F.mode=.run)(p:F.kind≠.early)(q:codeOk P c gl cd=Xd)(m:gf g cd=Xd)(u:aj c r tl (lv g F.tmps))(M:∀t w T D,Q t w->Q t (re w T D))(H:∀T,cd.wp P (λe a w=>e=.normal/\a.defers=[]/\Q a.tmps w) ⟨tl,[]⟩ (re w T 0))(K:∀j b t k l v1,r.le j->Q t l->cG c j l v1->aj c j t k->Reach c j b RO CU v1->Left c r own RO v b v1->Loc P main RO CU Stop b (G {F with tmps:=k.mapIdx λi x=>if g i then x else F.tmps.getD i Xq,todo:=tail} cs) v1):Loc P main RO CU Stop own (G F cs) v:=by obtain⟨f,U,W,L,md,R,S⟩:=F;simp only at o s p u H K;subst o s;refine Loc.piece (d:=⟨f,L,R,S,Xl,tail,g,U⟩) N p (k0:=[.code cd,R0]) (by simp[aV,q,R0,codeOk]) (.app (init:=[.code cd]) rfl (by simp[cZ,m])) u M (λT=>EK (H T)) λj b t k O l v1 A B n C E I J=>?_;(have:O=tail:=by generalize q:[R0]=V at n;cases n with|@app y _ _=>simp_all|reg h _=>cases h|fin h=>cases h);subst this;exact K j b t k l v1 A B C E I J
end
end Go.ab
namespace Go.Mx
variable{i N:Nat}
structure Wd where
 L:Bool
 W:Bool
 S:Bool
 n:Nat
 deriving DecidableEq
def Wd.enc(w:Wd):Nat:=w.L.toNat+2*w.W.toNat+4*w.S.toNat+8*w.n
def Wd.zero:Wd:=⟨Ww,Ww,Ww,0⟩
theorem Wd.wM{w v:Wd}(h:w.enc=v.enc):w=v:=by obtain⟨a,b,c,n⟩:=w;obtain⟨d,e,f,g⟩:=v;cases a<;>cases b<;>cases c<;>cases d<;>cases e<;>cases f<;>simp[Wd.enc]at h⊢<;>omega
inductive Th
 |out|c0
 |ld(aw st:Bool)
 |cs(old:Wd)
 |ca(old:Wd)(aw st:Bool)
 |sq|t2
 |a1(old:Wd)(st:Bool)
 |hold|u0
 |uc(old:Wd)
 |ux|us
def nw(o:Wd)(aw st:Bool):Wd:=⟨!o.S||o.L,!aw&&o.W,o.S||(st&&o.L),if o.L||o.S then o.n+1 else o.n⟩
inductive Mv:Th->Wd->Nat->Th->Wd->Nat->Prop
 |start{w:Wd}{m:Nat}:Mv .out w m .c0 w m
 |Na{m:Nat}:Mv .c0 ⟨Ww,Ww,Ww,0⟩ m .hold ⟨Xd,Ww,Ww,0⟩ m
 |K9{w:Wd}{m:Nat}:w≠⟨Ww,Ww,Ww,0⟩->Mv .c0 w m (.ld Ww Ww) w m
 |Sj{w:Wd}{m:Nat}{aw st:Bool}:Mv (.ld aw st) w m (.ld aw st) w m
 |TO{w:Wd}{m:Nat}{st:Bool}:w.L=Xd->w.S=Ww->w.W=Ww->w.n≠0->Mv (.ld Ww st) w m (.cs w) w m
 |QD{w:Wd}{m:Nat}{aw st:Bool}:Mv (.ld aw st) w m (.ca w aw st) w m
 |NF{w:Wd}{m:Nat}:Mv (.cs w) w m (.ld Xd Ww) {w with W:=Xd} m
 |K7{o w:Wd}{m:Nat}:w≠o->Mv (.cs o) w m (.ld Ww Ww) w m
 |Lr{w:Wd}{m:Nat}{aw st:Bool}:w.L=Ww->w.S=Ww->Mv (.ca w aw st) w m .hold (nw w aw st) m
 |Lk{w:Wd}{m:Nat}{aw st:Bool}:(w.L||w.S)=Xd->Mv (.ca w aw st) w m .sq (nw w aw st) m
 |Kk{o w:Wd}{m:Nat}{aw st:Bool}:Mv (.ca o aw st) w m (.ld aw st) w m
 |Qf{o w:Wd}{m:Nat}{st:Bool}:o.L=Xd->o.S=Ww->o.W=Ww->o.n≠0->Mv (.ca o Ww st) w m (.cs o) w m
 |JR{o w:Wd}{m:Nat}{aw st:Bool}:w≠o->Mv (.ca o aw st) w m (.ld aw st) w m
 |take{w:Wd}{m:Nat}:Mv .sq w (m+1) .t2 w m
 |RU{w:Wd}{m:Nat}{st:Bool}:w.S=Xd->Mv .t2 w m (.a1 w st) w m
 |Qo{w:Wd}{m:Nat}{st:Bool}:w.S=Ww->Mv .t2 w m (.ca w Xd st) w m
 |Ss{w:Wd}{m:Nat}{st:Bool}:w.S=Ww->Mv .t2 w m (.ld Xd st) w m
 |add{w o:Wd}{m:Nat}{st:Bool}:Mv (.a1 o st) w m .hold ⟨Xd,w.W,st&&o.n !=1,w.n-1⟩ m
 |want{w:Wd}{m:Nat}:Mv .hold w m .u0 w m
 |Qn{w:Wd}{m:Nat}:w.S=Xd->Mv .u0 w m .us {w with L:=Ww} m
 |Oq{w:Wd}{m:Nat}:w.S=Ww->w.n=0\/w.W=Xd->Mv .u0 w m .out {w with L:=Ww} m
 |RJ{w:Wd}{m:Nat}:w.S=Ww->w.n≠0->w.W=Ww->Mv .u0 w m (.uc {w with L:=Ww}) {w with L:=Ww} m
 |OE{w:Wd}{m:Nat}:Mv (.uc w) w m .us {w with W:=Xd,n:=w.n-1} m
 |K8{o w:Wd}{m:Nat}:w≠o->Mv (.uc o) w m .ux w m
 |Oz{w:Wd}{m:Nat}:w.n=0\/w.L=Xd\/w.W=Xd\/w.S=Xd->Mv .ux w m .out w m
 |Qw{w:Wd}{m:Nat}:w.n≠0->w.L=Ww->w.W=Ww->w.S=Ww->Mv .ux w m (.uc w) w m
 |BC{w:Wd}{m:Nat}:Mv .us w m .out w (m+1)
def qC:Th->Bool|.hold|.u0=>Xd|_=>Ww
def BS:Th->Bool|.us|.t2|.a1 _ _=>Xd|.ld aw _=>aw|.ca _ aw _=>aw|_=>Ww
def pQ:Th->Bool|.sq=>Xd|_=>Ww
def Jf:Th->Bool|.us=>Xd|_=>Ww
def CL:Th->Bool|.t2|.a1 _ _=>Xd|_=>Ww
def Jh:Th->Bool|.ld aw _=>aw|.ca _ aw _=>aw|_=>Ww
def P3:Th->Bool|.uc _|.ux=>Xd|_=>Ww
def cnt(p:Th->Bool)(f:Nat->Th):Nat->Nat
 |0=>0
 |N+1=>cnt p f N+(p (f N)).toNat
def upd(f:Nat->Th)(i:Nat)(x:Th):Nat->Th:=λj=>if j=i then x else f j
theorem mL{p:Th->Bool}{f g:Nat->Th}:∀{N:Nat},(∀j,j<N->p (f j)=p (g j))->cnt p f N=cnt p g N|0,_=>rfl|N+1,h=>by simp only[cnt];rw[mL λj b=>h j Ω,h N Ω]
theorem ll(p:Th->Bool)(f:Nat->Th)(x:Th):∀{N:Nat},i<N->cnt p (upd f i x) N+(p (f i)).toNat=cnt p f N+(p x).toNat|N+1,h=>by simp only[cnt];rcases VY (Wi h)with b|rfl;{have:=ll p f x b;(have e:upd f i x N=f N:=by simp[upd];omega);grind};(have:cnt p (upd f i x) i=cnt p f i:=mL λj c=>by simp[upd];grind);rw[this];simp[upd];omega
theorem pY{p:Th->Bool}{f:Nat->Th}:∀{N i:Nat},i<N->p (f i)=Xd->1<=cnt p f N|N+1,i,h,c=>by simp only[cnt];rcases VY (Wi h)with b|rfl;{have:=pY b c;omega};simp_all
theorem o9{p:Th->Bool}{f:Nat->Th}:∀{N i j:Nat},i<j->j<N->p (f i)=Xd->p (f j)=Xd->2<=cnt p f N|N+1,i,j,b,h,c,e=>by simp only[cnt];rcases VY (Wi h)with d|rfl;{have:=o9 b d c e;omega};have:=pY b c;simp_all
def fW(w:Wd):Th->Prop
 |.ld aw st=>st=Xd->aw=Xd
 |.ca o aw st=>(st=Xd->aw=Xd)/\(aw=Xd->o.W=Xd)
 |.cs o=>o.L=Xd/\o.S=Ww/\o.W=Ww/\o.n≠0
 |.a1 o _=>w.S=Xd/\w.L=Ww/\1<=o.n/\o.n<=w.n
 |.uc o=>o.L=Ww/\o.W=Ww/\o.S=Ww/\o.n≠0
 |_=>True
structure Inv(f:Nat->Th)(N:Nat)(w:Wd)(m:Nat):Prop where
 i1:cnt qC f N=w.L.toNat
 i2:cnt BS f N+m=(w.W||(w.S&&!w.L)).toNat
 i3:¬(w.W=Xd/\w.S=Xd)
 i4:if w.W then cnt pQ f N=w.n+m+cnt Jf f N else if w.S&&!w.L then cnt pQ f N+cnt CL f N=w.n else cnt pQ f N=w.n
 i5:w.L=Ww->w.W=Ww->w.S=Ww->w.n≠0->1<=cnt P3 f N
 i6:w.S=Xd->w.n≠0
 i8:w.W=Ww->cnt Jh f N=0
 loc:∀i,i<N->fW w (f i)
section
theorem vq(f:Nat->Th)(N:Nat):cnt BS f N=cnt Jf f N+cnt CL f N+cnt Jh f N:=by induction N with|zero=>rfl|succ N c=>simp only[cnt];(have:∀t:Th,(BS t).toNat=(Jf t).toNat+(CL t).toNat+(Jh t).toNat:=by intro t;cases t with|ld a b=>cases a<;>rfl|ca o a b=>cases a<;>rfl|_=>rfl);grind
section
variable{f:Nat->Th}{w w':Wd}{m m':Nat}{x:Th}
theorem xf(a:i<N)(c:fW w' x)(h:∀j,j<N->j≠i->fW w' (f j)):∀j,j<N->fW w' (upd f i x j):=by intro j b;unfold upd;grind
theorem Iu{t:Th}(h:fW w t)(j:w.S=Xd->w.L=Ww->w'.S=Xd/\w'.L=Ww/\w.n<=w'.n):fW w' t:=by cases t with|a1 o l=>obtain⟨d,e,g,k⟩:=h;obtain⟨a,b,c⟩:=j d e;exact⟨a,b,g,by omega⟩|_=>exact h
set_option maxHeartbeats 4000000 in theorem Inv.step(h:Inv f N w m)(c:i<N)(u:Mv (f i) w m x w' m'):Inv (upd f i x) N w' m':=by have g:=ll qC f x c;have k:=ll Jf f x c;have l:=ll CL f x c;have q:=ll Jh f x c;have r:=ll pQ f x c;have s:=ll P3 f x c;have s1:=vq f N;have s2:=vq (upd f i x) N;have v:=h.loc i c;have d:∀p:Th->Bool,p (f i)=Xd->1<=cnt p f N:=λp Z=>pY c Z;obtain⟨J,K,M,O,P,Q,R,e⟩:=h;have a:fW w' x->(w.S=Xd->w.L=Ww->w'.S=Xd/\w'.L=Ww/\w.n<=w'.n)->∀j,j<N->fW w' (upd f i x j):=λE F=>xf c E λj t _=>Iu (e j t) F;have H:fW w' x->(∀j,j<N->j≠i->fW w' (f j))->∀j,j<N->fW w' (upd f i x j):=xf c;(have b:fW w' x->(2<=cnt CL f N->False)->CL (f i)=Xd->∀j,j<N->fW w' (upd f i x j):=λE F T=>xf c E λj t I=>by have:=e j t;cases V:f j with|a1 o Y=>refine(F ?_).elim;(have U:CL (f j)=Xd:=by rw[V];rfl);rcases Nat.lt_or_gt_of_ne I with G|G;{exact o9 G c U T};exact o9 G t T U|_=>rw[V]at this;exact this);have z:=d qC;have A:=d Jf;have B:=d CL;have C:=d Jh;clear d;generalize hy:f i=y at u g k l q r s v z A B C b;clear hy;obtain⟨L,W,S,n⟩:=w;cases y with|ld D Y=>cases D<;>cases L<;>cases W<;>cases S<;>cases u<;>(try dsimp only[Bool.or_true,Bool.or_false,Bool.true_or,Bool.false_or]at*)<;>(try contradiction)<;>(try simp only[UO,or_false,false_or]at*)<;>(simp[qC,Jf,CL,Jh,pQ,P3,nw,fW]at J K M O P Q R g k l q r s v z A B C<;>(refine⟨?_,?_,?_,?_,?_,?_,?_,?_⟩<;>first|(simp[nw]<;>omega)|omega|(refine a ?_ ?_<;>simp[fW,nw]<;>omega)|(refine a ⟨‹_›,‹_›,‹_›,‹_›⟩ ?_;simp;done)|(refine a ⟨‹_›,‹_›,‹_›,‹_›⟩ ?_;simp;omega)|(refine b ?_ (λX=>?_) rfl<;>(try simp[fW,nw])<;>omega)))|ca o D Y=>cases D<;>cases L<;>cases W<;>cases S<;>cases u<;>(try dsimp only[Bool.or_true,Bool.or_false,Bool.true_or,Bool.false_or]at*)<;>(try contradiction)<;>(try simp only[UO,or_false,false_or]at*)<;>(simp[qC,Jf,CL,Jh,pQ,P3,nw,fW]at J K M O P Q R g k l q r s v z A B C<;>(refine⟨?_,?_,?_,?_,?_,?_,?_,?_⟩<;>first|(simp[nw]<;>omega)|omega|(refine a ?_ ?_<;>simp[fW,nw]<;>omega)|(refine a ⟨‹_›,‹_›,‹_›,‹_›⟩ ?_;simp;done)|(refine a ⟨‹_›,‹_›,‹_›,‹_›⟩ ?_;simp;omega)|(refine b ?_ (λX=>?_) rfl<;>(try simp[fW,nw])<;>omega)))|_=>cases L<;>cases W<;>cases S<;>cases u<;>(try dsimp only[Bool.or_true,Bool.or_false,Bool.true_or,Bool.false_or]at*)<;>(try contradiction)<;>(try simp only[UO,or_false,false_or]at*)<;>(simp[qC,Jf,CL,Jh,pQ,P3,nw,fW]at J K M O P Q R g k l q r s v z A B C<;>(refine⟨?_,?_,?_,?_,?_,?_,?_,?_⟩<;>first|(simp[nw]<;>omega)|omega|(refine a ?_ ?_<;>simp[fW,nw]<;>omega)|(refine b ?_ (λX=>?_) rfl<;>(try simp[fW,nw])<;>omega)))
end
end
theorem p0{p:Th->Bool}{f:Nat->Th}:∀{N:Nat},(∀i,i<N->p (f i)=Ww)->cnt p f N=0|0,_=>rfl|N+1,h=>by simp only[cnt];rw[p0 λi b=>h i Ω,h N Ω];rfl
theorem Inv.JS{f:Nat->Th}{w:Wd}(h:Inv f N w 0)(b:∀i,i<N->f i=.out\/f i=.sq):∀i,i<N->f i=.out:=by(have z:∀p:Th->Bool,p .out=Ww->p .sq=Ww->cnt p f N=0:=λp l m=>p0 λi a=>by grind);obtain⟨c,d,q,g,j,r,s,k⟩:=h;rw[z qC rfl rfl]at c;rw[z BS rfl rfl]at d;rw[z Jf rfl rfl,z CL rfl rfl]at g;rw[z P3 rfl rfl]at j;obtain⟨L,W,S,n⟩:=w;(have o:cnt pQ f N=0:=by grind);intro i a;rcases b i a with e|e;{exact e};have:=pY (p:=pQ) (f:=f) a (by rw[e];rfl);omega
def wt:Th->Nat
 |.uc _|.ux=>5
 |.us=>4
 |.t2|.a1 _ _=>2
 |.ld aw _|.ca _ aw _=>if aw then 1 else 2
 |.cs _=>2
 |.c0=>2
 |_=>0
end Go.Mx
namespace Go.Rk
variable{α:Type}
inductive Rk(α:Type)where
 |z
 |s(f:α->Rk α)
def Lt{α:Type}(a b:Rk α):Prop:=∃f x,b=.s f/\a=f x
theorem Lt.Un:WellFounded (Lt (α:=α)):=by refine⟨λa=>?_⟩;induction a with|z=>exact⟨_,λb⟨f,x,h,_⟩=>by cases h⟩|s g c=>refine⟨_,λb⟨f,x,h,e⟩=>?_⟩;cases h;rw[e];exact c x
abbrev Dn{α:Type}:Rk α->Rk α->Prop:=Relation.TransGen Lt
theorem Lt.wf:WellFounded (Dn (α:=α)):=Lt.Un.transGen
theorem ri(f:α->Rk α)(x:α):Dn (f x) (.s f):=.single ⟨f,x,rfl,rfl⟩
theorem SX(f:α->Rk α)(x:α):Dn (f x) (.s λ_=>.s f):=.tail (.single ⟨f,x,rfl,rfl⟩) ⟨_,x,rfl,rfl⟩
def P4{α:Type}(N:Nat)(V' V:Nat->Rk α):Prop:=∃i,i<N/\Dn (V' i) (V i)/\∀j,j≠i->V' j=V j
theorem P4.wf{α:Type}:∀N:Nat,WellFounded (P4 (α:=α) N)|0=>⟨λV=>⟨_,λc⟨i,h,_⟩=>absurd h (Vk i)⟩⟩|N+1=>by have j:=P4.wf (α:=α) N;(have f:∀d:Rk α,∀V:Nat->Rk α,V N=d->Acc (P4 (N+1)) V:=by intro d;induction Lt.wf.apply d with|intro d _ l=>intro V;induction j.apply V with|intro V _ e=>intro g;refine⟨_,λc⟨i,k,b,a⟩=>?_⟩;rcases VY (Wi k)with h|rfl;{exact e c ⟨i,h,b,a⟩ ((a N Ω).trans g)};exact l (c i) (g▸b) c rfl);exact⟨λV=>f _ V rfl⟩
end Go.Rk
namespace Go.Cr
open Go.Conc Go.Mx Go.Rk
open Go.ConcR(KK WgAt stA smA rd wr mk)
open Go.ConcM(OsLater)
variable{g g':Xm}{own' O:Nat->Prop}{es:Array X3}{v':Xg}
section
structure Cx where
 P:XF
 RO:Nat->Prop
 mu:Nat
 mo:Nat
 pre:Array Xe
 tP:XD
 mm:Nat
 AX:Array X7->Prop
 wg:Nat
 tW:XD
 out:Nat
 tO:XD
 no:Nat
 oc:Nat->Nat->Prop
 res:Nat->Xe
 base:Nat
 n:Nat
 End:Xm->Xg->Prop
 w0:Xg
 solo:Prop
 halt:(Nat->Prop)->Xm->Xg->Prop
 tg:Int->Int->X0
variable(C:Cx)
def Cx.muA:XY:=⟨C.mu,C.mo,Xl⟩
def Cx.msA:XY:=⟨C.mu,C.mo+1,Xl⟩
def av(v:Xg)(s q:Int):Prop:=v.heap[C.mu]?=Xa (.cells (C.pre++#[.int .i32 s,.int .u32 q]) C.tP)
def cQ(v:Xg)(w:Wd)(q:Nat):Prop:=av C v w.enc q
def Ro(v:Xg)(es:Array X7):Prop:=∃ck,v.heap[C.mm]?=Xa (.map es ck)
def ar(v:Xg):Prop:=∃es,Ro C v es/\C.AX es
def CK(v:Xg):Prop:=∃cs:Array Xe,v.heap[C.out]?=Xa (.cells cs C.tO)/\cs.size=C.no
structure dn(v:Xg):Prop where
 port:∃s q,av C v s q
 gM:∃st sm,v.heap[C.wg]?=Xa (C.tg st sm)
 uq:CK C v
structure W0(w:Xg):Prop where
 os:OsLater C.w0.os w.os
 out:w.output=C.w0.output
 tape:w.tape=C.w0.tape
structure Cx.Ok:Prop where
 pre:C.pre.size=C.mo
 lQ:C.mu≠C.mm
 gn:C.mu≠C.wg
 gb:C.mu≠C.out
 nM:C.mm≠C.wg
 mI:C.mm≠C.out
 iU:C.wg≠C.out
 ro:∀k,C.RO k->k≠C.mu/\k≠C.mm/\k≠C.wg/\k≠C.out
 oc:∀i j o,C.oc i o->C.oc j o->i=j
 Ui:∀o,¬C.oc 0 o
structure Env(i:Nat)(own:Nat->Prop)(v v1:Xg):Prop where
 keep:∀k,own k\/C.RO k->v1.heap[k]?=v.heap[k]?
 grow:v.heap.size<=v1.heap.size
 aJ:dn C v->dn C v1
 A9:∀o,C.oc i o->v1.cell? ⟨C.out,o,Xl⟩=v.cell? ⟨C.out,o,Xl⟩
def Cx.CU(k n:Nat):Prop:=k=C.mu/\n<=C.mo
def Cx.wk(i:Nat):Prop:=i≠0\/C.solo
def qP(own:Nat->Prop)(e:X3):Prop:=ab.TK own C.RO (λ_ _=>False) e\/∃o,o<C.mo/\e=⟨.cell ⟨C.mu,o,Xl⟩,Ww,Ww⟩
structure lC(own:Nat->Prop)(v v':Xg)(es:Array X3):Prop where
 keep:∀k,k<v.heap.size->¬own k->v'.heap[k]?=v.heap[k]?
 grow:v.heap.size<=v'.heap.size
 os:v'.os=v.os
 out:v'.output=v.output
 tape:v'.tape=v.tape
 evs:∀e∈es,qP C (ab.more own v v') e
structure Sr(i:Nat)(v v':Xg)(es:Array X3):Prop where
 keep:∀k,k≠C.out->v'.heap[k]?=v.heap[k]?
 size:v'.heap.size=v.heap.size
 os:v'.os=v.os
 out:v'.output=v.output
 tape:v'.tape=v.tape
 blk:CK C v->CK C v'
 cells:∀o,¬C.oc i o->v'.cell? ⟨C.out,o,Xl⟩=v.cell? ⟨C.out,o,Xl⟩
 evs:∀e∈es,∃o,C.oc i o/\e=⟨.cell ⟨C.out,o,Xl⟩,Xd,Ww⟩
def Fin(i:Nat)(v:Xg):Prop:=∀o,C.oc i o->v.cell? ⟨C.out,o,Xl⟩=Xa (C.res o)
structure DL(w w':Xg)(es:Array X3):Prop where
 heap:w'.heap=w.heap
 tape:w'.tape=w.tape
 out:w'.output=w.output
 os:OsLater w.os w'.os
 evs:es=#[]
structure Md where
 hold:Bool
 deaf:Bool
 tok:Bool
 said:Bool
def Md.free:Md:=⟨Ww,Ww,Ww,Ww⟩
def Md.bF:Md:=⟨Ww,Xd,Ww,Ww⟩
def Md.mB:Md:=⟨Xd,Xd,Ww,Ww⟩
def Md.A2:Md:=⟨Xd,Ww,Ww,Ww⟩
def Md.own:Md:=⟨Xd,Ww,Xd,Ww⟩
def Md.yy:Md:=⟨Ww,Ww,Ww,Xd⟩
def Md.vA:Md:=⟨Ww,Xd,Ww,Xd⟩
def fw(m:Md)(own:Nat->Prop):Nat->Prop:=λk=>own k\/(m.tok=Xd/\k=C.mm)
inductive iX(i:Nat):Md->Mark->Md->Prop
 |P7:iX i .free .disable .bF
 |Jm:iX i .A2 .disable .mB
 |JU:iX i .yy .disable .vA
 |en:iX i .bF .enable .free
 |RH:iX i .mB .enable .A2
 |acq:iX i .A2 (.acquire C.muA) .own
 |Ea:iX i .own (.releaseMerge C.muA) .A2
 |Eo:i≠0->iX i .free (.releaseMerge (stA C.wg)) .yy
 |sr{m:Md}:i=0->m.tok=Ww->iX i m (.read (smA C.wg)) m
section stops
variable(i:Nat)(own:Nat->Prop)
abbrev cR(S:Xm->Xg->Prop)(n:Nat)(g:Xm)(w:Xg):Prop:=Goes C.P (i==0) (Env C i own) DL S n g w
section lock
variable(H:Wd->Bool->Bool->Nat->Xm->Xg->Prop)(Q:Xm->Xg->Prop)
def uC(aw st:Bool)(it:Nat)(g:Xm)(w:Xg):Prop:=
 g.status=.running/\∀wd q,cQ C w wd q->(aw=Xd->wd.W=Xd)->∃g',Xo C.P (i==0) g w=.go g' w #[]/\∃n,cR C i own (H wd aw st it) n g' w
def Pt(o:Wd)(it:Nat)(g:Xm)(w:Xg):Prop:=
 g.status=.running/\∀wd q,cQ C w wd q->
   (wd=o->∃g',Xo C.P (i==0) g w=.go g' (w.setCell C.muA (.int .i32 ({wd with W:=Xd}:Wd).enc)) #[rd C.muA,wr C.muA]/\∃n,cR C i own (uC C i own H Xd Ww (it+1)) n g' (w.setCell C.muA (.int .i32 ({wd with W:=Xd}:Wd).enc)))/\
   (wd≠o->∃g',Xo C.P (i==0) g w=.go g' w #[rd C.muA]/\∃n,cR C i own (uC C i own H Ww Ww (it+1)) n g' w)
def AtA1(o:Wd)(st:Bool)(g:Xm)(w:Xg):Prop:=
 g.status=.running/\∀wd q,cQ C w wd q->wd.n<100000000->wd.L=Ww->wd.S=Xd->wd.n≠0->
   ∃g',Xo C.P (i==0) g w=.go g' (w.setCell C.muA (.int .i32 (⟨Xd,wd.W,st&&o.n !=1,wd.n-1⟩:Wd).enc)) #[rd C.muA,wr C.muA]/\Q g' (w.setCell C.muA (.int .i32 (⟨Xd,wd.W,st&&o.n !=1,wd.n-1⟩:Wd).enc))
def KR(g:Xm)(w:Xg):Prop:=
 g.status=.running/\∃st,∀wd q,cQ C w wd q->wd.n<100000000->(wd.S=Xd->wd.L=Ww/\wd.W=Ww/\wd.n≠0)->(wd.S=Ww->wd.W=Xd)->∃g',Xo C.P (i==0) g w=.go g' w #[]/\
   (wd.S=Xd->∃n,cR C i own (AtA1 C i Q wd st) n g' w)/\(wd.S=Ww->∃n,cR C i own (H wd Xd st 0) n g' w)
def DX(g:Xm)(w:Xg):Prop:=
 g.status=.running/\g.offers=Xl/\(∀wd,cQ C w wd 0->Xo C.P (i==0) g w=.go {g with status:=.blocked} w #[])/\
   ∀wd q,cQ C w wd (q+1)->∃g',Xo C.P (i==0) g w=.go g' (w.setCell C.msA (.int .u32 (q:Nat))) (semEvents C.msA)/\∃n,cR C i own (KR C i own H Q) n g' (w.setCell C.msA (.int .u32 (q:Nat)))
def OP(o:Wd)(aw st:Bool)(it:Nat)(g:Xm)(w:Xg):Prop:=
 g.status=.running/\∀wd q,cQ C w wd q->
   (wd=o->∃g',Xo C.P (i==0) g w=.go g' (w.setCell C.muA (.int .i32 (nw o aw st).enc)) #[rd C.muA,wr C.muA]/\
    (o.L=Ww->o.S=Ww->Q g' (w.setCell C.muA (.int .i32 (nw o aw st).enc)))/\((o.L||o.S)=Xd->∃n,cR C i own (DX C i own H Q) n g' (w.setCell C.muA (.int .i32 (nw o aw st).enc))))/\
   (wd≠o->∃g',Xo C.P (i==0) g w=.go g' w #[rd C.muA]/\∃n,cR C i own (uC C i own H aw st it) n g' w)
def gX(o:Wd)(aw st:Bool)(it:Nat)(g:Xm)(w:Xg):Prop:=
 (it<4/\uC C i own H aw st (it+1) g w)\/(it<4/\o.L=Xd/\o.S=Ww/\o.W=Ww/\o.n≠0/\aw=Ww/\Pt C i own H o it g w)\/OP C i own H Q o aw st it g w
def jo:Prop:=∀o aw st it g w,it<=4->(aw=Xd->o.W=Xd)->(st=Xd->aw=Xd)->o.n<100000000->H o aw st it g w->∃n,cR C i own (gX C i own H Q o aw st it) n g w
end lock
section unlock
variable(HU:Wd->Xm->Xg->Prop)(Q:Xm->Xg->Prop)
def A7(g:Xm)(w:Xg):Prop:=
 g.status=.running/\mayWake C.P g=Xd/\∀wd q,q<100000000->cQ C w wd q->∃g',Xo C.P (i==0) g w=.go g' (w.setCell C.msA (.int .u32 (q+1:Nat))) (semEvents C.msA)/\∃n,cR C i own Q n g' (w.setCell C.msA (.int .u32 (q+1:Nat)))
def Jx(g:Xm)(w:Xg):Prop:=
 g.status=.running/\∀wd q,cQ C w wd q->wd.n<100000000->∃g',Xo C.P (i==0) g w=.go g' w #[]/\
   (wd.n=0\/wd.L=Xd\/wd.W=Xd\/wd.S=Xd->∃n,cR C i own Q n g' w)/\(wd.n≠0->wd.L=Ww->wd.W=Ww->wd.S=Ww->∃n,cR C i own (HU wd) n g' w)
def Di(o:Wd)(g:Xm)(w:Xg):Prop:=
 g.status=.running/\∀wd q,cQ C w wd q->
   (wd=o->∃g',Xo C.P (i==0) g w=.go g' (w.setCell C.muA (.int .i32 ({wd with W:=Xd,n:=wd.n-1}:Wd).enc)) #[rd C.muA,wr C.muA]/\∃n,cR C i own (A7 C i own Q) n g' (w.setCell C.muA (.int .i32 ({wd with W:=Xd,n:=wd.n-1}:Wd).enc)))/\
   (wd≠o->∃g',Xo C.P (i==0) g w=.go g' w #[rd C.muA]/\∃n,cR C i own (Jx C i own HU Q) n g' w)
def AI:Prop:=∀o g w,o.L=Ww->o.W=Ww->o.S=Ww->o.n≠0->o.n<100000000->HU o g w->∃n,cR C i own (Di C i own HU Q o) n g w
def PM(g:Xm)(w:Xg):Prop:=
 g.status=.running/\∀wd q,cQ C w wd q->wd.L=Xd->wd.n<100000000->
   ∃g',Xo C.P (i==0) g w=.go g' (w.setCell C.muA (.int .i32 ({wd with L:=Ww}:Wd).enc)) #[rd C.muA,wr C.muA]/\
     (wd.S=Xd->∃n,cR C i own (A7 C i own Q) n g' (w.setCell C.muA (.int .i32 ({wd with L:=Ww}:Wd).enc)))/\
     (wd.S=Ww->(wd.n=0\/wd.W=Xd)->∃n,cR C i own Q n g' (w.setCell C.muA (.int .i32 ({wd with L:=Ww}:Wd).enc)))/\
     (wd.S=Ww->wd.n≠0->wd.W=Ww->∃n,cR C i own (Di C i own HU Q {wd with L:=Ww}) n g' (w.setCell C.muA (.int .i32 ({wd with L:=Ww}:Wd).enc)))
end unlock
def NJ(H:Wd->Bool->Bool->Nat->Xm->Xg->Prop)(Q:Xm->Xg->Prop)(g:Xm)(w:Xg):Prop:=
 g.status=.running/\∀wd q,cQ C w wd q->
   (wd=⟨Ww,Ww,Ww,0⟩->∃g',Xo C.P (i==0) g w=.go g' (w.setCell C.muA (.int .i32 1)) #[rd C.muA,wr C.muA]/\Q g' (w.setCell C.muA (.int .i32 1)))/\
   (wd≠⟨Ww,Ww,Ww,0⟩->∃g',Xo C.P (i==0) g w=.go g' w #[rd C.muA]/\∃n,cR C i own (uC C i own H Ww Ww 0) n g' w)
def AtD4(g:Xm)(w:Xg):Prop:=
 g.status=.running/\mayWake C.P g=Xd/\(WgAt C.tW C.wg w 0 0->∃g',Xo C.P (i==0) g w=.go g' (w.setCell (smA C.wg) (.int .u32 1)) (semEvents (smA C.wg))/\∃q,QuitsD C.P q 1 g')
def AtD3(g:Xm)(w:Xg):Prop:=
 g.status=.running/\(WgAt C.tW C.wg w 1 0->∃g',Xo C.P (i==0) g w=.go g' (w.setCell (stA C.wg) (.int .u64 0)) #[wr (stA C.wg)]/\∃n,cR C i own (AtD4 C i) n g' (w.setCell (stA C.wg) (.int .u64 0)))
def AtD2(g:Xm)(w:Xg):Prop:=
 g.status=.running/\(WgAt C.tW C.wg w 1 0->∃g',Xo C.P (i==0) g w=.go g' w #[rd (stA C.wg)]/\∃n,cR C i own (AtD3 C i own) n g' w)
def AtD1(g:Xm)(w:Xg):Prop:=
 g.status=.running/\∀v wt:Nat,wt<=1->v<100000000->WgAt C.tW C.wg w ((v+1)*KK+wt) 0->
   ∃g',Xo C.P (i==0) g w=.go g' (w.setCell (stA C.wg) (.int .u64 (v*KK+wt))) #[rd (stA C.wg),wr (stA C.wg)]/\
     ((v=0/\wt=1)->∃n,cR C i own (AtD2 C i own) n g' (w.setCell (stA C.wg) (.int .u64 (v*KK+wt))))/\(¬(v=0/\wt=1)->∃q,QuitsD C.P q 1 g')
section wait
variable(A:Xm->Xg->Prop)
def AtAcq(g:Xm)(w:Xg):Prop:=
 g.status=.running/\∃g',Xo C.P (i==0) g w=.go g' w #[mk (.acquire (stA C.wg))]/\(dn C w->(∀j,Fin C j w)->cQ C w ⟨Ww,Ww,Ww,0⟩ 0->W0 C w->C.End g' w)
def AtKe(g:Xm)(w:Xg):Prop:=
 g.status=.running/\∃g',Xo C.P (i==0) g w=.go g' w #[mk .enable]/\∃n,cR C i own (AtAcq C i) n g' w
def AtW4(g:Xm)(w:Xg):Prop:=
 g.status=.running/\(WgAt C.tW C.wg w 0 0->∃g',Xo C.P (i==0) g w=.go g' w #[rd (stA C.wg)]/\∃n,cR C i own (AtKe C i own) n g' w)
def AtW3(g:Xm)(w:Xg):Prop:=
 g.status=.running/\g.offers=Xl/\((∃st,WgAt C.tW C.wg w st 0)->Xo C.P (i==0) g w=.go {g with status:=.blocked} w #[])/\
   (WgAt C.tW C.wg w 0 1->∃g',Xo C.P (i==0) g w=.go g' (w.setCell (smA C.wg) (.int .u32 0)) (semEvents (smA C.wg))/\∃n,cR C i own (AtW4 C i own) n g' (w.setCell (smA C.wg) (.int .u32 0)))
def Q8(g:Xm)(w:Xg):Prop:=
 g.status=.running/\∃g',Xo C.P (i==0) g w=.go g' w #[mk (.write (smA C.wg))]/\∃n,cR C i own (AtW3 C i own) n g' w
def AtW2(vs:Nat)(g:Xm)(w:Xg):Prop:=
 g.status=.running/\∀v:Nat,v<100000000->WgAt C.tW C.wg w (v*KK) 0->
   (v=vs->∃g',Xo C.P (i==0) g w=.go g' (w.setCell (stA C.wg) (.int .u64 (v*KK+1))) #[rd (stA C.wg),wr (stA C.wg)]/\∃n,cR C i own (Q8 C i own) n g' (w.setCell (stA C.wg) (.int .u64 (v*KK+1))))/\
   (v≠vs->∃g',Xo C.P (i==0) g w=.go g' w #[rd (stA C.wg)]/\∃n,cR C i own A n g' w)
def AtW1(g:Xm)(w:Xg):Prop:=
 g.status=.running/\∀v:Nat,v<100000000->WgAt C.tW C.wg w (v*KK) 0->∃g',Xo C.P (i==0) g w=.go g' w #[rd (stA C.wg)]/\
   (v=0->∃n,cR C i own (AtKe C i own) n g' w)/\(v≠0->∃n,cR C i own (AtW2 C i own A v) n g' w)
def yl:Prop:=∀g w,A g w->∃n,cR C i own (AtW1 C i own A) n g w
end wait
def TY(c:Nat->Xm->Xg->Prop)(g:Xm)(w:Xg):Prop:=
 g.status=.running/\∀v:Nat,v<100000000->WgAt C.tW C.wg w (v*KK) 0->
   ∃g',Xo C.P (i==0) g w=.go g' (w.setCell (stA C.wg) (.int .u64 ((v+1)*KK))) #[rd (stA C.wg),wr (stA C.wg)]/\c v g' (w.setCell (stA C.wg) (.int .u64 ((v+1)*KK)))
end stops
abbrev Ix:=Xm×Xg×Xg
inductive fS:Nat->Nat->Md->Rk Ix->(Nat->Prop)->Xm->Xg->Prop
 |step{i j:Nat}{m:Md}{f:Ix->Rk Ix}{own:Nat->Prop}{g:Xm}{v:Xg}:g.status=.running->m.said=Ww->
  (∀v1,Env C i (fw C m own) v v1->∃g' v' es,Xo C.P (i==0) g v1=.go g' v' es/\lC C (fw C m own) v1 v' es)->
  (∀v1 g' v' es,Env C i (fw C m own) v v1->Xo C.P (i==0) g v1=.go g' v' es->fS i j m (f (g',v1,v')) (ab.more own v1 v') g' v')->fS i j m (.s f) own g v
 |idle{i j:Nat}{m:Md}{f:Ix->Rk Ix}{own:Nat->Prop}{g:Xm}{v:Xg}:g.status=.running->
  (∀v1,Env C i (fw C m own) v v1->∃g' v',Xo C.P (i==0) g v1=.go g' v' #[]/\DL v1 v' #[])->
  (∀v1 g' v' es,Env C i (fw C m own) v v1->Xo C.P (i==0) g v1=.go g' v' es->fS i j m (f (g',v1,v')) own g' v')->fS i j m (.s f) own g v
 |mark{i j:Nat}{m m':Md}{k:Mark}{f:Ix->Rk Ix}{own:Nat->Prop}{g:Xm}{v:Xg}:g.status=.running->iX C i m k m'->
  (∀v1,Env C i (fw C m own) v v1->∃g',Xo C.P (i==0) g v1=.go g' v1 #[mk k])->(k=.releaseMerge C.muA->m=.own/\ar C v)->(k=.releaseMerge (stA C.wg)->Fin C i v)->
  (∀v1 g' v' es,Env C i (fw C m own) v v1->(k=.acquire C.muA->ar C v1)->Xo C.P (i==0) g v1=.go g' v' es->fS i j m' (f (g',v1,v1)) own g' v1)->fS i j m (.s f) own g v
 |lock{i j:Nat}{f:Ix->Rk Ix}{own:Nat->Prop}{g:Xm}{v:Xg}(H:Wd->Bool->Bool->Nat->Xm->Xg->Prop)(Q:Xm->Xg->Prop):g.status=.running->C.wk i->
  (∀g v1 v2,Q g v1->Env C i own v1 v2->Q g v2)->jo C i own H Q->(∀v1,Env C i own v v1->NJ C i own H Q g v1)->
  (∀g' v1,Env C i own v v1->Q g' v1->fS i j .mB (f (g',v1,v1)) own g' v1)->fS i j .bF (.s λ_=>.s f) own g v
 |unlock{i j:Nat}{f:Ix->Rk Ix}{own:Nat->Prop}{g:Xm}{v:Xg}(HU:Wd->Xm->Xg->Prop)(Q:Xm->Xg->Prop):g.status=.running->C.wk i->
  (∀g v1 v2,Q g v1->Env C i own v1 v2->Q g v2)->AI C i own HU Q->(∀v1,Env C i own v v1->PM C i own HU Q g v1)->
  (∀g' v1,Env C i own v v1->Q g' v1->fS i j .bF (f (g',v1,v1)) own g' v1)->fS i j .mB (.s λ_=>.s f) own g v
 |put{i j:Nat}{f:Ix->Rk Ix}{own:Nat->Prop}{g:Xm}{v:Xg}:g.status=.running->i≠0->
  (∀v1,Env C i own v v1->dn C v1->∃g' v' es,Xo C.P (i==0) g v1=.go g' v' es/\Sr C i v1 v' es)->
  (∀v1 g' v' es,Env C i own v v1->dn C v1->Xo C.P (i==0) g v1=.go g' v' es->fS i j .free (f (g',v1,v')) own g' v')->fS i j .free (.s f) own g v
 |done{i j:Nat}{own:Nat->Prop}{g:Xm}{v:Xg}:i≠0->(∀v1,Env C i own v v1->AtD1 C i own g v1)->fS i j .vA (.s λ_=>.z) own g v
 |add{i x:Nat}{f:Ix->Rk Ix}{own:Nat->Prop}{g:Xm}{v:Xg}(c:Nat->Xm->Xg->Prop):i=0->(∀v1,Env C i own v v1->TY C i c g v1)->
  (∀v1 y g',Env C i own v v1->c y g' v1->fS i (2*x+1) .bF (f (g',v1,v1)) own g' v1)->fS i (2*x) .bF (.s f) own g v
 |spawn{i x:Nat}{f ρ:Ix->Rk Ix}{own ownc:Nat->Prop}{g:Xm}{v:Xg}:i=0->g.status=.running->x<C.n->(∀k,ownc k->own k)->
  (∀v1,Env C i own v v1->∃g' child,Xo C.P (i==0) g v1=.spawn g' child v1 #[]/\child.status=.running)->
  (∀v1 g' child v' es,Env C i own v v1->Xo C.P (i==0) g v1=.spawn g' child v' es->fS (C.base+x) 0 .free (ρ (child,v1,v1)) ownc child v1)->
  (∀v1 g' child v' es,Env C i own v v1->Xo C.P (i==0) g v1=.spawn g' child v' es->fS i (2*x+2) .free (f (g',v1,v1)) (λk=>own k/\¬ownc k) g' v1)->
  fS i (2*x+1) .free (.s f) own g v
 |wait{i:Nat}{own:Nat->Prop}{g:Xm}{v:Xg}(A:Xm->Xg->Prop):i=0->yl C i own A->(∃n,cR C i own A n g v)->fS i (2*C.n) .bF .z own g v
 |stop{i j:Nat}{own:Nat->Prop}{g:Xm}{v:Xg}:C.solo->g.status=.running->(∀v1,Env C i own v v1->C.halt own g v1)->fS i j .free .z own g v
end
section
variable{C:Cx}{i j:Nat}{m:Md}{own:Nat->Prop}{v v1 v2:Xg}
theorem Env.refl:Env C i own v v:=⟨λ_ _=>rfl,Us _,id,λ_ _=>rfl⟩
theorem Env.trans(h:Env C i own v v1)(k:Env C i own v1 v2):Env C i own v v2:=⟨λx b=>(k.keep x b).trans (h.keep x b),UU h.grow k.grow,λx=>k.aJ (h.aJ x),λo a=>(k.A9 o a).trans (h.A9 o a)⟩
theorem Env.sub(h:Env C i own v v1)(b:∀k,own' k->own k):Env C i own' v v1:=⟨λk a=>h.keep k (a.imp (b k) id),h.grow,h.aJ,h.A9⟩
theorem Env.fL(h:Env C i (fw C m own) v v1):Env C i own v v1:=h.sub λ_ a=>.inl a
theorem Env.KL(h:Env C i own v v1)(b:m.tok=Ww):Env C i (fw C m own) v v1:=h.sub λ_ a=>a.resolve_right (by simp[b])
theorem Env.Uh(l:C.pre.size=C.mo)(a:dn C v)(h:Env C i O v v1):ab.Env O C.RO C.CU v v1:=⟨h.keep,λk n e x t f p=>by obtain⟨rfl,o⟩:=e;obtain⟨s,q,c⟩:=a.port;obtain⟨u,r,d⟩:=(h.aJ a).port;unfold av at c d;grind,h.grow⟩
theorem bH(a b c:Xg)(h:Env C i own a b)(k:Env C i own b c):Env C i own a c:=h.trans k
theorem ar.env(h:ar C v)(e:Env C i own v v1)(f:own C.mm):ar C v1:=by obtain⟨b,⟨a,d⟩,c⟩:=h;exact⟨b,⟨a,(e.keep _ (.inl f)).trans d⟩,c⟩
theorem Fin.env(h:Fin C i v)(b:Env C i own v v1):Fin C i v1:=λo a=>(b.A9 o a).trans (h o a)
theorem fS.env{ρ:Rk Ix}(h:fS C i j m ρ own g v)(b:Env C i (fw C m own) v v1):fS C i j m ρ own g v1:=by cases h with|step d f k p=>exact .step d f (λx a=>k x (b.trans a)) λx l q o a=>p x l q o (b.trans a)|idle d f k=>exact .idle d (λx a=>f x (b.trans a)) λx l q o a=>k x l q o (b.trans a)|mark d f k p s t=>exact .mark d f (λx a=>k x (b.trans a)) (λe=>⟨(p e).1,(p e).2.env b (by rw[(p e).1];exact .inr ⟨rfl,rfl⟩)⟩) (λe=>(s e).env b) λx l q o a=>t x l q o (b.trans a)|lock H Q d r f k p s=>exact .lock H Q d r f k (λx a=>p x (b.fL.trans a)) λl x a=>s l x (b.fL.trans a)|unlock H Q d r f k p s=>exact .unlock H Q d r f k (λx a=>p x (b.fL.trans a)) λl x a=>s l x (b.fL.trans a)|put d r f k=>exact .put d r (λx a=>f x (b.fL.trans a)) λx l q o a=>k x l q o (b.fL.trans a)|done r d=>exact .done r λx a=>d x (b.fL.trans a)|add c d f k=>exact .add c d (λx a=>f x (b.fL.trans a)) λx y l a=>k x y l (b.fL.trans a)|spawn d f k p s t u=>exact .spawn d f k p (λx a=>s x (b.fL.trans a)) (λx l c q o a=>t x l c q o (b.fL.trans a)) λx l c q o a=>u x l c q o (b.fL.trans a)|wait A d f k=>exact .wait A d f (k.imp λn w=>w.rely bH b.fL)|stop d f k=>exact .stop d f λx a=>k x (b.fL.trans a)
theorem fS.running{ρ:Rk Ix}(h:fS C i j m ρ own g v):g.status=.running\/∃n A,cR C i own A n g v/\yl C i own A:=by cases h with|wait A b a d=>grind|done _ h=>exact .inl (h v .refl).1|add c b a=>exact .inl (a v .refl).1|_=>simp_all
def af(C:Cx)(i j:Nat)(m:Md)(own:Nat->Prop)(g:Xm)(v:Xg):Prop:=∃ρ,fS C i j m ρ own g v
open Classical in
noncomputable def yz(p:Ix->Rk Ix->Prop)(x:Ix):Rk Ix:=if h:∃ρ,p x ρ then Classical.choose h else .z
theorem fT{p:Ix->Rk Ix->Prop}{x:Ix}(h:∃ρ,p x ρ):p x (yz p x):=by unfold yz;grind
theorem af.env(h:af C i j m own g v)(a:Env C i (fw C m own) v v1):af C i j m own g v1:=h.imp λ_ k=>k.env a
theorem xk{w w':Xg}{es':Array X3}(h:GStep.go g w es=.go g' w' es'):g=g'/\w=w'/\es=es':=by simp_all
theorem af.step(q:g.status=.running)(o:m.said=Ww)(h:∀v1,Env C i (fw C m own) v v1->∃g' d es,Xo C.P (i==0) g v1=.go g' d es/\lC C (fw C m own) v1 d es/\af C i j m (ab.more own v1 d) g' d):af C i j m own g v:=by refine⟨.s (yz λx f=>fS C i j m f (ab.more own x.2.1 x.2.2) x.1 x.2.2),.step q o (λx k=>?_) λx g' d es k e=>?_⟩;{grind};obtain⟨n,v2,l,a,_,c⟩:=h x k;rw[a]at e;obtain⟨rfl,rfl,rfl⟩:=xk e;exact fT (p:=λx f=>fS C i j m f (ab.more own x.2.1 x.2.2) x.1 x.2.2) c
theorem af.idle(l:g.status=.running)(h:∀v1,Env C i (fw C m own) v v1->∃g' b,Xo C.P (i==0) g v1=.go g' b #[]/\DL v1 b #[]/\af C i j m own g' b):af C i j m own g v:=by refine⟨.s (yz λx d=>fS C i j m d own x.1 x.2.2),.idle l (λx f=>?_) λx g' b n f e=>?_⟩;{grind};obtain⟨k,v2,a,_,c⟩:=h x f;rw[a]at e;obtain⟨rfl,rfl,rfl⟩:=xk e;exact fT (p:=λx d=>fS C i j m d own x.1 x.2.2) c
theorem cT(w:Xg):DL w w #[]:=⟨rfl,rfl,rfl,.refl _,rfl⟩
theorem af.ctl(a:g.status=.running)(h:∀w,Xo C.P (i==0) g w=.go g' w #[])(k:af C i j m own g' v):af C i j m own g v:=.idle a λx b=>⟨g',x,h x,cT x,k.env b⟩
theorem af.mark{m':Md}{k:Mark}(r:g.status=.running)(q:iX C i m k m')(l:k=.releaseMerge C.muA->m=.own/\ar C v)(n:k=.releaseMerge (stA C.wg)->Fin C i v)(h:∀v1,Env C i (fw C m own) v v1->∃g',Xo C.P (i==0) g v1=.go g' v1 #[mk k]/\((k=.acquire C.muA->ar C v1)->af C i j m' own g' v1)):af C i j m own g v:=by refine⟨.s (yz λx b=>fS C i j m' b own x.1 x.2.1),.mark r q (λx d=>?_) l n λx g' u t d o e=>?_⟩;{grind};obtain⟨f,a,c⟩:=h x d;rw[a]at e;obtain⟨rfl,rfl,rfl⟩:=xk e;exact fT (p:=λx b=>fS C i j m' b own x.1 x.2.1) (c o)
theorem af.lock(d:C.wk i)(H:Wd->Bool->Bool->Nat->Xm->Xg->Prop)(Q:Xm->Xg->Prop)(l:g.status=.running)(c:∀g v1 v2,Q g v1->Env C i own v1 v2->Q g v2)(b:jo C i own H Q)(h:∀v1,Env C i own v v1->NJ C i own H Q g v1)(k:∀g' v1,Env C i own v v1->Q g' v1->af C i j .mB own g' v1):af C i j .bF own g v:=⟨_,.lock H Q l d c b h λg' x n e=>fT (p:=λx a=>fS C i j .mB a own x.1 x.2.1) (k g' x n e)⟩
theorem af.unlock(e:C.wk i)(a:Wd->Xm->Xg->Prop)(Q:Xm->Xg->Prop)(n:g.status=.running)(d:∀g v1 v2,Q g v1->Env C i own v1 v2->Q g v2)(c:AI C i own a Q)(h:∀v1,Env C i own v v1->PM C i own a Q g v1)(k:∀g' v1,Env C i own v v1->Q g' v1->af C i j .bF own g' v1):af C i j .mB own g v:=⟨_,.unlock a Q n e d c h λg' x o l=>fT (p:=λx b=>fS C i j .bF b own x.1 x.2.1) (k g' x o l)⟩
theorem af.put(o:i≠0)(q:g.status=.running)(h:∀v1,Env C i own v v1->dn C v1->∃g' b es,Xo C.P (i==0) g v1=.go g' b es/\Sr C i v1 b es/\af C i j .free own g' b):af C i j .free own g v:=by refine⟨.s (yz λx d=>fS C i j .free d own x.1 x.2.2),.put q o (λx k f=>?_) λx g' b es k f e=>?_⟩;{grind};obtain⟨n,v2,l,a,_,c⟩:=h x k f;rw[a]at e;obtain⟨rfl,rfl,rfl⟩:=xk e;exact fT (p:=λx d=>fS C i j .free d own x.1 x.2.2) c
theorem af.done(a:i≠0)(h:∀v1,Env C i own v v1->AtD1 C i own g v1):af C i j .vA own g v:=⟨_,.done a h⟩
theorem af.add{x:Nat}(c:Nat->Xm->Xg->Prop)(b:i=0)(h:∀v1,Env C i own v v1->TY C i c g v1)(k:∀v1 y g',Env C i own v v1->c y g' v1->af C i (2*x+1) .bF own g' v1):af C i (2*x) .bF own g v:=⟨_,.add c b h λv1 y g' e d=>fT (p:=λz a=>fS C i (2*x+1) .bF a own z.1 z.2.1) (k v1 y g' e d)⟩
theorem af.spawn{x:Nat}{ownc:Nat->Prop}(A:i=0)(E:g.status=.running)(B:x<C.n)(D:∀k,ownc k->own k)(h:∀v1,Env C i own v v1->∃g' b,Xo C.P (i==0) g v1=.spawn g' b v1 #[]/\b.status=.running/\af C (C.base+x) 0 .free ownc b v1/\af C i (2*x+2) .free (λk=>own k/\¬ownc k) g' v1):af C i (2*x+1) .free own g v:=by refine⟨_,.spawn (f:=yz λz l=>fS C i (2*x+2) .free l (λk=>own k/\¬ownc k) z.1 z.2.1) (ρ:=yz λz l=>fS C (C.base+x) 0 .free l ownc z.1 z.2.1) A E B D (λv1 n=>?_) (λv1 g' c F y n e=>?_) λv1 g' c F y n e=>?_⟩;{grind};{obtain⟨w,t,a,_,d,u⟩:=h v1 n;rw[a]at e;injection e with o q r s;subst o q r s;exact fT (p:=λz l=>fS C (C.base+x) 0 .free l ownc z.1 z.2.1) d};obtain⟨w,t,a,_,d,u⟩:=h v1 n;rw[a]at e;injection e with o q r s;subst o q r s;exact fT (p:=λz l=>fS C i (2*x+2) .free l (λk=>own k/\¬ownc k) z.1 z.2.1) u
theorem af.stop(b:C.solo)(a:g.status=.running)(h:∀v1,Env C i own v v1->C.halt own g v1):af C i j .free own g v:=⟨_,.stop b a h⟩
theorem af.wait(A:Xm->Xg->Prop)(a:i=0)(b:yl C i own A)(h:∃n,cR C i own A n g v):af C i (2*C.n) .bF own g v:=⟨_,.wait A a b h⟩
theorem lC.Nw(h:ab.lC own C.RO C.CU v v' es):lC C own v v' es:=⟨h.keep,h.grow,h.os,h.out,h.tape,λe b=>by rcases h.evs e b with x|⟨k,n,o,⟨rfl,d⟩,c,rfl⟩|x;{exact .inl (.inl x)};{exact .inr ⟨o,by omega,rfl⟩};exact .inl (.inr (.inr x))⟩
theorem lC.sub(h:lC C own v v' es)(b:∀k,own k->own' k):lC C own' v v' es:=⟨λk l n=>h.keep k l λx=>n (b k x),h.grow,h.os,h.out,h.tape,λe f=>by rcases h.evs e f with x|x;{refine .inl ?_;rcases x with⟨k,c,a,d⟩|x;{refine .inl ⟨k,c,?_,d⟩;rcases a with(a|a)|a;{exact .inl (.inl (b k a))};{exact .inl (.inr a)};simp_all};exact .inr x};exact .inr x⟩
theorem vH:ab.more (fw C m own) v v'=fw C m (ab.more own v v'):=by funext k;simp only[ab.more,fw];grind
def l9(C:Cx)(own:Nat->Prop):Prop:=∀b,own b->b≠C.mu/\b≠C.mm/\b≠C.wg/\b≠C.out
theorem dn.mine(l:dn C v)(h:lC C O v v' es)(e:¬O C.mu)(f:¬O C.wg)(k:¬O C.out):dn C v':=by obtain⟨⟨s,q,b⟩,⟨x,y,c⟩,⟨d,a,n⟩⟩:=l;exact⟨⟨s,q,(h.keep _ (Uu.1 b).1 e).trans b⟩,⟨x,y,(h.keep _ (Uu.1 c).1 f).trans c⟩,⟨d,(h.keep _ (Uu.1 a).1 k).trans a,n⟩⟩
theorem l9.more(h:l9 C own)(d:dn C v)(l:C.mm<v.heap.size):l9 C (ab.more own v v'):=λb a=>by rcases a with a|a;{exact h b a};obtain⟨⟨s,q,e⟩,⟨x,y,p⟩,⟨k,o,n⟩⟩:=d;have f:=(Uu.1 e).1;grind
theorem l9.not(b:C.Ok)(h:l9 C own):¬fw C m own C.mu/\¬fw C m own C.wg/\¬fw C m own C.out:=by refine⟨?_,?_,?_⟩<;>rintro(a|⟨_,a⟩);{exact(h _ a).1 rfl};{exact b.lQ a};{exact(h _ a).2.2.1 rfl};{exact b.nM a.symm};{exact(h _ a).2.2.2 rfl};exact b.mI a.symm
theorem dn.step(a:C.Ok)(b:l9 C own){v':Xg}{es:Array X3}(c:dn C v)(h:lC C (fw C m own) v v' es):dn C v':=c.mine h (b.not a).1 (b.not a).2.1 (b.not a).2.2
theorem af.loc(t:C.Ok)(A:m.said=Ww){Stop:(Nat->Prop)->Xm->Xg->Prop}(h:ab.Loc C.P (i==0) C.RO C.CU Stop O g v):∀own,O=fw C m own->l9 C own->C.mm<v.heap.size->dn C v->(∀own g v,l9 C own->C.mm<v.heap.size->dn C v->Stop (fw C m own) g v->af C i j m own g v)->af C i j m own g v:=by induction h with|stop h=>exactλown e n p l k=>k _ _ _ n p l (e▸h)|step z y _ B=>intro own e n p l k;subst e;refine .step z A λx q=>?_;have f:=q.Uh t.pre l;obtain⟨s,u,r,a,b⟩:=y x f;have o:=lC.Nw b;have c:=q.aJ l;have d:=Ut p q.grow;exact⟨s,u,r,a,o,B x s u r f a _ vH (n.more c d) (Ut d o.grow) (c.step t n o) k⟩
end
end Go.Cr
namespace Go.Cr
open Go.Conc Go.Mx Go.Rk
open Go.ConcR(KK WgAt wgBlock stA smA rd wr mk)
open Go.ConcM(OsLater)
variable{es:Array X3}{s q:Int}{ty:XD}{g:Nat}
section
variable{C:Cx}{i i':Nat}{own own':Nat->Prop}{w w' w1:Xg}
structure lV(C:Cx)(i:Nat)(own:Nat->Prop)(w w':Xg):Prop where
 keep:∀k,k<w.heap.size->¬own k->k≠C.mu->k≠C.wg->k≠C.out->w'.heap[k]?=w.heap[k]?
 grow:w.heap.size<=w'.heap.size
 aJ:dn C w->dn C w'
 A9:∀o,¬C.oc i o->w'.cell? ⟨C.out,o,Xl⟩=w.cell? ⟨C.out,o,Xl⟩
 os:OsLater w.os w'.os
 out:w'.output=w.output
 tape:w'.tape=w.tape
theorem lV.env(f:C.Ok)(h:lV C i own w w')(l:i'≠i)(j:∀k,own' k->¬own k)(n:∀k,own' k->k<w.heap.size/\k≠C.mu/\k≠C.wg/\k≠C.out)(g:∀k,C.RO k->k<w.heap.size/\¬own k):Env C i' own' w w':=⟨λk e=>by rcases e with e|e;{obtain⟨a,b,c,d⟩:=n k e;exact h.keep k a (j k e) b c d};obtain⟨a,_,b,c⟩:=f.ro k e;exact h.keep k (g k e).1 (g k e).2 a b c,h.grow,h.aJ,λo m=>h.A9 o λx=>l (f.oc _ _ _ m x)⟩
theorem cell_of_block{a:XY}(h:w'.heap[a.block]?=w.heap[a.block]?):w'.cell? a=w.cell? a:=by simp[Xg.cell?,h]
theorem jx(h:dn C w):C.mu<w.heap.size/\C.wg<w.heap.size/\C.out<w.heap.size:=by obtain⟨⟨s,q,c⟩,⟨a,b,d⟩,⟨f,e,_⟩⟩:=h;exact⟨(Uu.1 c).1,(Uu.1 d).1,(Uu.1 e).1⟩
theorem dn.gI(h:dn C w)(f:w'.heap[C.mu]?=w.heap[C.mu]?)(g:w'.heap[C.wg]?=w.heap[C.wg]?)(j:w'.heap[C.out]?=w.heap[C.out]?):dn C w':=by obtain⟨⟨s,q,a⟩,⟨x,y,b⟩,⟨e,c,d⟩⟩:=h;exact⟨⟨s,q,f.trans a⟩,⟨x,y,g.trans b⟩,⟨e,j.trans c,d⟩⟩
theorem lV.C6(d:dn C w)(h:lC C own w w' es)(f:¬own C.mu)(g:¬own C.wg)(e:¬own C.out):lV C i own w w':=by obtain⟨a,b,c⟩:=jx d;exact⟨λk j l _ _ _=>h.keep k j l,h.grow,λd=>d.gI (h.keep _ a f) (h.keep _ b g) (h.keep _ c e),λo _=>cell_of_block (h.keep _ c e),by rw[h.os];exact .refl _,h.out,h.tape⟩
theorem lV.CE(h:DL w w' es):lV C i own w w':=⟨λk _ _ _ _ _=>by rw[h.heap],by rw[h.heap];omega,λa=>a.gI (by rw[h.heap]) (by rw[h.heap]) (by rw[h.heap]),λo _=>cell_of_block (by rw[h.heap]),h.os,h.out,h.tape⟩
theorem lV.refl:lV C i own w w:=.CE (cT w)
theorem lV.Of(c:C.Ok)(h:Sr C i w w' es):lV C i own w w':=⟨λk _ _ _ _ d=>h.keep k d,by rw[h.size];omega,λb=>⟨by obtain⟨s,q,a⟩:=b.port;exact⟨s,q,(h.keep _ c.gb).trans a⟩,by obtain⟨s,q,a⟩:=b.gM;exact⟨s,q,(h.keep _ c.iU).trans a⟩,h.blk b.uq⟩,h.cells,by rw[h.os];exact .refl _,h.out,h.tape⟩
theorem ag(w:Xg)(a:XY)(v:Xe){k:Nat}(h:k≠a.block):(w.setCell a v).heap[k]?=w.heap[k]?:=by simp only[Xg.setCell];grind
theorem ic(w:Xg)(a:XY)(v:Xe){cs:Array Xe}{t:XD}{fr:Nat×Nat}(b:a.spot=Xl)(h:w.heap[a.block]?=Xa (.cells cs t fr)):(w.setCell a v).heap[a.block]?=Xa (.cells (cs.setIfInBounds a.off v) t fr):=by simp only[Xg.setCell];grind
theorem cU(w:Xg)(a:XY)(v:Xe):(w.setCell a v).heap.size=w.heap.size:=by simp
theorem av.setSt(a:C.Ok)(h:av C w s q)(s':Int):av C (w.setCell C.muA (.int .i32 s')) s' q:=by unfold av at h⊢;rw[show C.mu=C.muA.block from rfl,ic w C.muA _ rfl h];congr 2;show(C.pre++#[Xe.int .i32 s,Xe.int .u32 q]).setIfInBounds C.mo (Xe.int .i32 s')=C.pre++#[Xe.int .i32 s',Xe.int .u32 q];rw[<-a.pre];simp
theorem av.setSm(b:C.Ok)(h:av C w s q)(a:Int):av C (w.setCell C.msA (.int .u32 a)) s a:=by unfold av at h⊢;rw[show C.mu=C.msA.block from rfl,ic w C.msA _ rfl h];congr 2;show(C.pre++#[Xe.int .i32 s,Xe.int .u32 q]).setIfInBounds (C.mo+1) (Xe.int .u32 a)=C.pre++#[Xe.int .i32 s,Xe.int .u32 a];rw[<-b.pre];simp
theorem lV.set(a:XY)(v:Xe)(c:a.block=C.mu\/a.block=C.wg)(b:C.Ok)(d:dn C w->dn C (w.setCell a v)):lV C i own w (w.setCell a v):=⟨λk _ _ e f _=>ag w a v (by omega),by simp,d,λo _=>cell_of_block (ag w a v (by rcases c with h|h<;>rw[h];{exact b.gb.symm};exact b.iU.symm)),.refl _,rfl,rfl⟩
theorem lV.st(c:C.Ok)(s':Int):lV C i own w (w.setCell C.muA (.int .i32 s')):=.set _ _ (.inl rfl) c λd=>⟨by obtain⟨s,q,a⟩:=d.port;exact⟨s',q,a.setSt c s'⟩,by obtain⟨s,q,a⟩:=d.gM;exact⟨s,q,(ag w C.muA _ c.gn.symm).trans a⟩,by obtain⟨e,a,b⟩:=d.uq;exact⟨e,(ag w C.muA _ c.gb.symm).trans a,b⟩⟩
theorem lV.sm(c:C.Ok)(s':Int):lV C i own w (w.setCell C.msA (.int .u32 s')):=.set _ _ (.inl rfl) c λd=>⟨by obtain⟨s,q,a⟩:=d.port;exact⟨s,s',a.setSm c s'⟩,by obtain⟨s,q,a⟩:=d.gM;exact⟨s,q,(ag w C.msA _ c.gn.symm).trans a⟩,by obtain⟨e,a,b⟩:=d.uq;exact⟨e,(ag w C.msA _ c.gb.symm).trans a,b⟩⟩
theorem kN{st sm:Int}(h:WgAt ty g w st sm)(v:Int):WgAt ty g (w.setCell (stA g) (.int .u64 v)) v sm:=by unfold WgAt wgBlock at h⊢;exact(ic w (stA g) _ rfl h).trans rfl
theorem oT{st sm:Int}(h:WgAt ty g w st sm)(v:Int):WgAt ty g (w.setCell (smA g) (.int .u32 v)) st v:=by unfold WgAt wgBlock at h⊢;exact(ic w (smA g) _ rfl h).trans rfl
theorem OR{st sm st' sm':Int}(h:WgAt ty g w st sm)(k:WgAt ty g w st' sm'):st=st'/\sm=sm':=by unfold WgAt wgBlock at h k;simp_all
theorem lV.iW(c:C.Ok)(f:C.tg=wgBlock C.tW)(s':Int):lV C i own w (w.setCell (stA C.wg) (.int .u64 s')):=.set _ _ (.inr rfl) c λd=>⟨by obtain⟨s,q,a⟩:=d.port;exact⟨s,q,(ag w (stA C.wg) _ c.gn).trans a⟩,by obtain⟨s,q,a⟩:=d.gM;rw[f]at a⊢;exact⟨s',q,kN a s'⟩,by obtain⟨e,a,b⟩:=d.uq;exact⟨e,(ag w (stA C.wg) _ c.iU.symm).trans a,b⟩⟩
theorem lV.TV(c:C.Ok)(f:C.tg=wgBlock C.tW)(s':Int):lV C i own w (w.setCell (smA C.wg) (.int .u32 s')):=.set _ _ (.inr rfl) c λd=>⟨by obtain⟨s,q,a⟩:=d.port;exact⟨s,q,(ag w (smA C.wg) _ c.gn).trans a⟩,by obtain⟨s,q,a⟩:=d.gM;rw[f]at a⊢;exact⟨s,s',oT a s'⟩,by obtain⟨e,a,b⟩:=d.uq;exact⟨e,(ag w (smA C.wg) _ c.iU.symm).trans a,b⟩⟩
theorem Env.Hu(f:C.Ok)(h:lV C i (λ_=>False) w w')(l:∀k,own k->k<w.heap.size/\k≠C.mu/\k≠C.wg/\k≠C.out)(j:∀k,C.RO k->k<w.heap.size)(g:∀o,C.oc i o->w'.cell? ⟨C.out,o,Xl⟩=w.cell? ⟨C.out,o,Xl⟩):Env C i own w w':=⟨λk e=>by rcases e with e|e;{obtain⟨a,b,c,d⟩:=l k e;exact h.keep k a id b c d};obtain⟨a,_,b,c⟩:=f.ro k e;exact h.keep k (j k e) id a b c,h.grow,h.aJ,g⟩
end
end Go.Cr
