/- A part of the proof of PortAsked. Conditions: none. -/
import Derived.KernelRfl
import GoSem.Core.Value
import Derived.Conc.Own4
import Derived.Conc.SmallLaws
import Derived.Conc.Listed
import Derived.Calls
import Derived.Conc.Own
import Derived.Conc.Events
set_option linter.all false
open Go renaming Addr->XO,Builtin->XD,Code->XX,Event->XQ,Frame->Xk,FuncId->Xw,Goroutine->Xc,IntKind->Xl,Item->XG,MapEntry->XV,Obj->XN,Oper->XW,Operand->Xz,Program->Xr,Question->XU,Result->XJ,Sem->XE,TypeId->Xo,Value->W8,World->W6,execOp->Xj,stepG->Xd,undef->Xi,yielded->Xp
open Bool renaming false->Wz,true->WY
open Option renaming none->W9,some->WX
abbrev Uj:=@Nat.le_refl
abbrev Uk:=@Array.getElem?_eq_some_iff
abbrev Ul:=@Nat.lt_of_lt_of_le
abbrev Um:=@Bool.and_eq_true
abbrev Un:=@List.getElem?_eq_getElem
abbrev Uo:=@List.mem_of_getElem?
abbrev Up:=@List.mem_cons
abbrev Uq:=@Array.getD_eq_getD_getElem?
abbrev Ur:=@Option.map_eq_some_iff
abbrev Us:=@List.mem_map
abbrev Ut:=@Array.getElem?_eq_getElem
abbrev Uu:=@List.mem_cons_self
abbrev Uv:=@Option.map_some
abbrev Uw:=@List.mem_cons_of_mem
abbrev Ux:=@List.getElem?_eq_some_iff
abbrev Uy:=@Option.some.injEq
abbrev Uz:=@Nat.le_trans
abbrev UA:=@List.any_eq_true
abbrev UB:=@Iff.rfl
abbrev UC:=@Array.getElem?_replicate
abbrev UD:=@Nat.lt_irrefl
abbrev UE:=@Nat.zero_le
abbrev UF:=@List.mem_iff_getElem?
abbrev UG:=@List.getElem?_map
abbrev UH:=@Nat.le_of_lt
abbrev UI:=@List.mem_append
abbrev UJ:=@Prod.mk.injEq
abbrev UK:=@Bool.false_eq_true
abbrev UL:=@Array.getElem?_setIfInBounds_ne
abbrev UM:=@List.all_eq_true
abbrev UN:=@List.all_cons
abbrev UO:=@Option.bind_eq_some_iff
abbrev UP:=@List.map_cons
abbrev UQ:=@Prod.mk.inj
abbrev UR:=@Option.getD_some
abbrev US:=@Array.getElem?_push
abbrev UT:=@Array.mem_append
abbrev UU:=@List.not_mem_nil
abbrev UW:=@Nat.add_zero
abbrev UX:=@Nat.lt_or_ge
abbrev UY:=@List.length_eq_zero_iff
abbrev UZ:=@Nat.le_add_right
abbrev U0:=@Nat.le_of_ble_eq_true
abbrev U1:=@Option.some.inj
abbrev U2:=@List.mem_append_left
abbrev U3:=@List.mem_append_right
abbrev U4:=@Array.mem_of_getElem?
abbrev U5:=@Nat.eq_zero_or_pos
abbrev U6:=@Classical.byContradiction
abbrev U7:=@Nat.zero_add
abbrev U8:=@Nat.mod_lt
abbrev U9:=@Array.getElem?_modify
abbrev Va:=@List.foldl_cons
abbrev Vb:=@List.nodup_cons
abbrev Ve:=@List.map_nil
abbrev Vf:=@Option.bind_some
abbrev Vg:=@Nat.le_succ
abbrev Vh:=@List.take_of_length_le
abbrev Vi:=@Bool.eq_false_iff
abbrev Vj:=@List.length_append
abbrev Vk:=@Nat.add_assoc
abbrev Vl:=@Nat.le_of_eq
abbrev Vm:=@Nat.mul_comm
abbrev Vn:=@Nat.not_lt_zero
abbrev Vo:=@List.mem_singleton
abbrev Vp:=@Array.ext_getElem?
abbrev Vq:=@List.mem_filter
abbrev Vr:=@Bool.or_eq_true
abbrev Vs:=@List.cons.injEq
abbrev Vt:=@List.drop_eq_getElem_cons
abbrev Vu:=@Nat.pos_of_ne_zero
abbrev Vv:=@List.length_cons
abbrev Vw:=@Nat.add_comm
abbrev Vx:=@List.count_cons_of_ne
abbrev Vy:=@List.append_assoc
abbrev Vz:=@Array.getElem?_setIfInBounds
abbrev VA:=@Array.getElem?_map
abbrev VB:=@Nat.ne_of_lt
abbrev VC:=@Bool.or_true
abbrev VD:=@List.getElem?_append_left
abbrev VE:=@Array.all_eq_true_iff_forall_mem
abbrev VF:=@Int.le_refl
abbrev VG:=@List.perm_middle
abbrev VH:=@List.append_nil
abbrev VI:=@List.map_toArray
abbrev VJ:=@Bool.and_self
abbrev VK:=@Nat.ne_of_beq_eq_false
abbrev VL:=@List.take_add_one
abbrev VM:=@List.getElem?_cons_succ
abbrev VN:=@List.nodup_nil
abbrev VO:=@List.nil_append
abbrev VP:=@Bool.true_or
abbrev VQ:=@List.ext_getElem?
abbrev VR:=@Array.getElem?_mapIdx
abbrev VS:=@Bool.false_and
abbrev VU:=@Array.getElem?_append_left
abbrev VV:=@Array.mem_iff_getElem
abbrev VW:=@List.getElem_toArray
abbrev VX:=@List.getElem_cons_succ
abbrev VY:=@List.getElem_cons_zero
abbrev VZ:=@List.setIfInBounds_toArray
abbrev V0:=@List.set_cons_zero
abbrev V1:=@List.set_cons_succ
abbrev V2:=@Nat.lt_or_eq_of_le
abbrev V3:=@List.mem_flatMap
abbrev V4:=@Int.le_trans
abbrev V5:=@List.extract_eq_take_drop
abbrev V6:=@Array.length_toList
abbrev V7:=@List.mapIdx_cons
abbrev V8:=@Array.getElem?_eq_none
abbrev V9:=@Bool.or_false
abbrev Wa:=@Array.mem_push
abbrev Wb:=@List.mem_map_of_mem
abbrev We:=@List.range_succ
abbrev Wf:=@List.foldl_append
abbrev Wg:=@Array.size_mapIdx
abbrev Wh:=@List.cons_append
abbrev Wi:=@List.all_nil
abbrev Wj:=@Bool.toNat_le
abbrev Wk:=@Nat.le_antisymm
abbrev Wl:=@List.getElem_mem
abbrev Wm:=@List.getElem?_toArray
abbrev Wn:=@List.cons_ne_nil
abbrev Wo:=@Nat.le_of_lt_succ
abbrev Wp:=@List.count_append
abbrev Wq:=@Bool.eq_iff_iff
abbrev Wr:=@Array.toList_inj
abbrev Ws:=@Array.toList_append
abbrev Wt:=@List.flatMap_cons
abbrev Wu:=@List.getElem?_append_right
abbrev Wv:=@Nat.lt_of_le_of_lt
abbrev Ww:=@Nat.le_of_not_lt
abbrev Wx:=@List.length_nil
abbrev Wy:=@Nat.zero_mul
abbrev WA:=@Option.isSome_iff_exists
abbrev WB:=@Nat.mul_one
abbrev WC:=@Nat.sub_self
abbrev WE:=@List.take_length
abbrev WG:=@List.drop_of_length_le
abbrev WH:=@Nat.pow_le_pow_right
abbrev WI:=@List.eq_nil_or_concat
abbrev WJ:=@Option.isSome_none
abbrev WK:=@List.length_pos_iff
abbrev WL:=@List.getElem?_range
abbrev WM:=@Nat.mul_le_mul_right
abbrev WN:=@List.foldlM_cons
abbrev WO:=@Nat.add_sub_cancel_left
abbrev WQ:=@List.any_cons
abbrev WR:=@List.count_pos_iff
abbrev WS:=@Int.le_antisymm
abbrev WT:=@Bool.false_or
abbrev WU:=@Nat.testBit_two_pow_mul_add
abbrev WV:=@List.take_succ_eq_append_getElem
abbrev WW:=@List.count_le_length
abbrev WZ:=@List.take_subset_take_left
abbrev W1:=@Array.toList_extract
abbrev W4:=@List.set_eq_take_append_cons_drop
abbrev W7:=@List.flatMap_eq_nil_iff
abbrev Xa:=@List.contains_iff_mem
abbrev Xb:=@List.map_eq_nil_iff
abbrev Xe:=@Array.getElem?_setIfInBounds_self_of_lt
abbrev Xf:=@List.count_cons_self
abbrev Xg:=@Array.getElem?_of_mem
abbrev Xh:=@List.perm_append_comm_assoc
abbrev Xm:=@Array.getElem_setIfInBounds
abbrev Xn:=@Array.getElem?_push_lt
abbrev Xq:=@Array.getElem!_eq_getD
abbrev Xs:=@Array.mapM_eq_foldlM
abbrev Xu:=@Array.foldlM_toList
abbrev Xv:=@List.append_cancel_right
abbrev Xy:=@Array.map_congr_left
abbrev XA:=@List.concat_eq_append
abbrev XB:=@List.mem_of_mem_drop
abbrev XF:=@Nat.pos_iff_ne_zero
abbrev XI:=@List.eq_nil_of_length_eq_zero
abbrev XK:=@Nat.and_two_pow_sub_one_eq_mod
abbrev XL:=@Nat.two_pow_add_eq_or_of_lt
abbrev XM:=@Int.fdiv_eq_ediv_of_nonneg
namespace Go
abbrev Iv(n:Int):W8:=.int .i64 n
variable{p:Prop}
theorem Ψ(h:p:=by kernel_rfl):p:=h
theorem Δ(h:p:=by decide):p:=h
theorem Ω(h:p:=by omega):p:=h
theorem Θ(h:p:=by simp):p:=h
theorem Ξ(h:p:=by rw[hP];kernel_rfl):p:=h
theorem Λ(h:p:=by rw[hP];exact .all):p:=h
theorem Υ(h:p:=by intro p hp;simp only[Up,UU,or_false]at hp;(repeat'(refine Or.elim hp ?_ ?_<;>intro hp));(all_goals subst hp);all_goals first|(left;simp;done)|(refine .inr ⟨0,?_,hdep 0 ?_⟩;rotate_left;kernel_rfl;simp;done)|(refine .inr ⟨1,?_,hdep 1 ?_⟩;rotate_left;kernel_rfl;simp;done)|(refine .inr ⟨2,?_,hdep 2 ?_⟩;rotate_left;kernel_rfl;simp;done)|(refine .inr ⟨3,?_,hdep 3 ?_⟩;rotate_left;kernel_rfl;simp;done)|(refine .inr ⟨4,?_,hdep 4 ?_⟩;rotate_left;kernel_rfl;simp;done)|(refine .inr ⟨5,?_,hdep 5 ?_⟩;rotate_left;kernel_rfl;simp;done)|(refine .inr ⟨6,?_,hdep 6 ?_⟩;rotate_left;kernel_rfl;simp;done)|(refine .inr ⟨7,?_,hdep 7 ?_⟩;rotate_left;kernel_rfl;simp;done)|(refine .inr ⟨8,?_,hdep 8 ?_⟩;rotate_left;kernel_rfl;simp;done)|(refine .inr ⟨9,?_,hdep 9 ?_⟩;rotate_left;kernel_rfl;simp;done)|(refine .inr ⟨10,?_,hdep 10 ?_⟩;rotate_left;kernel_rfl;simp;done)|(refine .inr ⟨11,?_,hdep 11 ?_⟩;rotate_left;kernel_rfl;simp;done)|(refine .inr ⟨12,?_,hdep 12 ?_⟩;rotate_left;kernel_rfl;simp;done)|(refine .inr ⟨13,?_,hdep 13 ?_⟩;rotate_left;kernel_rfl;simp;done)|(refine .inr ⟨14,?_,hdep 14 ?_⟩;rotate_left;kernel_rfl;simp;done)|(refine .inr ⟨15,?_,hdep 15 ?_⟩;rotate_left;kernel_rfl;simp;done)|(refine .inr ⟨16,?_,hdep 16 ?_⟩;rotate_left;kernel_rfl;simp;done)|(refine .inr ⟨17,?_,hdep 17 ?_⟩;rotate_left;kernel_rfl;simp;done)|(refine .inr ⟨18,?_,hdep 18 ?_⟩;rotate_left;kernel_rfl;simp;done)|(refine .inr ⟨19,?_,hdep 19 ?_⟩;rotate_left;kernel_rfl;simp;done)|(refine .inr ⟨20,?_,hdep 20 ?_⟩;rotate_left;kernel_rfl;simp;done)|(refine .inr ⟨21,?_,hdep 21 ?_⟩;rotate_left;kernel_rfl;simp;done)|(refine .inr ⟨22,?_,hdep 22 ?_⟩;rotate_left;kernel_rfl;simp;done)|(refine .inr ⟨23,?_,hdep 23 ?_⟩;rotate_left;kernel_rfl;simp;done)|(refine .inr ⟨24,?_,hdep 24 ?_⟩;rotate_left;kernel_rfl;simp;done)|(refine .inr ⟨25,?_,hdep 25 ?_⟩;rotate_left;kernel_rfl;simp;done)):p:=h
abbrev ϖ(b:Nat):W8:=.pointer (WX ⟨b,0,W9⟩)
abbrev ϱ(b o:Nat):W8:=.pointer (WX ⟨b,o,W9⟩)
end Go
namespace Go.Pw
open Go.Conc
variable{P:Xr}{α:Type}{F F' F1:Xk}{o:XN}{main rd:Bool}{cs:List Xk}{w:W6}{ops:Array XW}{i d m N b:Nat}{k:List XG}{H L L':List (Nat×W8)}{R:W6->W6->Prop}{D:W6->W6->Array XQ->Prop}{Stop:Xc->W6->Prop}{J:Xc->Prop}{v:W8}{t:Array W8}{f:Xw}
def ez(P:Xr){α:Type}:XE α->Option α
 |.pure a=>WX a
 |.program k=>ez P (k P)
 |_=>W9
theorem ic{x:XE α}{a:α}(h:ez P x=WX a)(w:W6):x.run P w=.ok a w/\x.events P w #[]=#[]:=by induction x with|pure b=>simp only[ez,Uy]at h;subst h;exact⟨rfl,rfl⟩|program k c=>exact c P h|_=>simp[ez]at h
def Ap(P:Xr)(F:Xk)(o:XW):Option Xk:=
 match o.op with
 |.defer _=>W9
 |_=>match ez P (Xj F.eval o)with
   |some (.value v)=>WX (F.finish v)
   |some .skip=>WX (F.finish Xi)
   |_=>W9
def mb(P:Xr)(F:Xk):Option Xk:=
 match F.todo with
 |.code .skip::k=>WX {F with todo:=k}
 |.code (.label _)::k=>WX {F with todo:=k}
 |.inBlock _::k=>WX {F with todo:=k}
 |.inScope _::k=>WX {F with todo:=k}
 |.code (.seq a b)::k=>WX {F with todo:=.code a::.code b::k}
 |.code (.cond c x y)::k=>match F.eval c with
   |.bool b=>WX {F with todo:=.code (if b then x else y)::k}
   |_=>W9
 |.code (.block id c)::k=>WX {F with todo:=.code c::.inBlock id::k}
 |.code (.loop c)::k=>WX {F with todo:=.code c::.inLoop c::k}
 |.inLoop c::k=>WX {F with todo:=.code c::.inLoop c::k}
 |.code (.scope c)::k=>WX {F with todo:=.code c::.inScope c::k}
 |.code (.exit id)::k=>(exitTo id k).map λk=>{F with todo:=k}
 |.code (.region _ ops Wz)::k=>WX {F with todo:=.inRegion ops (List.range ops.size)::k}
 |.inRegion _ []::k=>WX {F with todo:=k}
 |.inRegion ops (i::_)::_=>
   match((ops[i]?).map (Region.wanted · (Xp ops F.tmps))).getD Wz with
   |true=>(ops[i]?).bind (Ap P F)
   |false=>WX (F.finish Xi)
 |_=>W9
def hint(H:List (Nat×W8))(F F1:Xk):Xk×List (W8×W8):=
 match F.todo with
 |.inRegion ops (i::_)::_=>
   match(ops[i]?).bind (·.dst)with
   |some d=>match H.lookup d with
     |some v=>({F1 with tmps:=F.tmps.setIfInBounds d v},[(F1.tmps.getD d Xi,v)])
     |none=>(F1,[])
   |none=>(F1,[])
 |_=>(F1,[])
def bu(P:Xr)(H:List (Nat×W8)):Nat->Xk->Option (Xk×List (W8×W8))
 |0,F=>WX (F,[])
 |n+1,F=>(mb P F).bind λF1=>(bu P H n (hint H F F1).1).map λx=>(x.1,(hint H F F1).2++x.2)
theorem kR(P:Xr)(f:Xw):seen P f #[]=#[]:=by rw[seen_def];simp
theorem BL{o:XW}(C:F.mode=.run)(B:F.kind≠.early)(H:∃ops i rest k,F.todo=.inRegion ops (i::rest)::k/\ops[i]?=WX o/\Region.wanted o (Xp ops F.tmps)=WY)(h:Ap P F o=WX F'):Xd P main (G F cs) w=.go (G F' cs) w #[]:=by obtain⟨ops,i,rest,k,z,A,t⟩:=H;obtain⟨fn,tmps,todo,defers,mode,kind,q⟩:=F;subst z C;(have m:=by simpa using B);(have D:∀c,o.op≠.defer c:=λc e=>by unfold Ap at h;rw[e]at h;cases h);(have y:∀n,ez P (Xj (Xk.eval {fn:=fn,tmps:=tmps,todo:=.inRegion ops (i::rest)::k,defers:=defers,mode:=.run,kind:=kind,roundOf:=q}) o)=WX n->(∃v,n=.value v/\F'=Xk.finish {fn:=fn,tmps:=tmps,todo:=.inRegion ops (i::rest)::k,defers:=defers,mode:=.run,kind:=kind,roundOf:=q} v)\/(n=.skip/\F'=Xk.finish {fn:=fn,tmps:=tmps,todo:=.inRegion ops (i::rest)::k,defers:=defers,mode:=.run,kind:=kind,roundOf:=q} Xi):=by intro n E;unfold Ap at h;split at h;{cases h};rw[E]at h;cases n<;>simp at h<;>simp[h]);cases u:ez P (Xj (Xk.eval {fn:=fn,tmps:=tmps,todo:=.inRegion ops (i::rest)::k,defers:=defers,mode:=.run,kind:=kind,roundOf:=q}) o)with|none=>unfold Ap at h;split at h;{cases h};rw[u]at h;cases h|some n=>obtain⟨p,r⟩:=ic u w;(have x:Xd P main (G {fn:=fn,tmps:=tmps,todo:=.inRegion ops (i::rest)::k,defers:=defers,mode:=.run,kind:=kind,roundOf:=q} cs) w=Xd.apply P WY {fn:=fn,tmps:=tmps,todo:=.inRegion ops (i::rest)::k,defers:=defers,mode:=.run,kind:=kind,roundOf:=q} cs W9 (Xj (Xk.eval {fn:=fn,tmps:=tmps,todo:=.inRegion ops (i::rest)::k,defers:=defers,mode:=.run,kind:=kind,roundOf:=q}) o) w:=by cases q with|none=>simp only[G,Xd,Xd.exec,Xd.oper,Xk.oper?,A,t,Uv,UR,if_true]|some l=>simp only[G,Xd,Xd.exec,Xd.oper,Xk.oper?,A,t,Uv,UR,if_true];split;{rename_i e;exact absurd e (D _)};rfl);rw[x];rcases y n u with⟨v,rfl,rfl⟩|⟨rfl,rfl⟩;{simp[Xd.apply,p,r,m,GStep.after,kR,G]};simp[Xd.apply,p,r,m,GStep.after,kR,G]
theorem kp(m:F.mode=.run)(a:F.kind≠.early)(h:mb P F=WX F'):(∀main cs w,Xd P main (G F cs) w=.go (G F' cs) w #[])/\F'.mode=.run/\F'.kind≠.early:=by obtain⟨t,q,r,f,p,n,v⟩:=F;subst m;unfold mb at h;simp only at h;split at h;(all_goals first|(cases h;exact⟨λmain cs w=>by simp[G,Xd,Xd.exec],rfl,a⟩)|skip);{split at h;{rename_i b s;cases h;exact⟨λmain cs w=>by simp[G,Xd,Xd.exec,s],rfl,a⟩};cases h};{rename_i id k;cases j:exitTo id k with|none=>rw[j]at h;cases h|some u=>rw[j]at h;cases h;exact⟨λmain cs w=>by simp[G,Xd,Xd.exec,j],rfl,a⟩};{rename_i d i e k;split at h;{rename_i g;cases l:d[i]? with|none=>rw[l]at h;cases h|some o=>rw[l]at h g;simp only[Vf]at h;refine⟨λmain cs w=>BL rfl a ⟨d,i,e,k,rfl,l,by simpa using g⟩ h,?_⟩;unfold Ap at h;split at h;{cases h};split at h<;>cases h<;>exact⟨rfl,a⟩};rename_i g;cases h;refine⟨λmain cs w=>?_,rfl,a⟩;simp only[G,Xd,Xd.exec,g,UK,if_false]};cases h
theorem GU{rest:List Nat}{d:Tmp}(e:F.todo=.inRegion ops (i::rest)::k)(l:(ops[i]?).bind (·.dst)=WX d)(h:mb P F=WX F1):∃v,F1={F with tmps:=F.tmps.setIfInBounds d v,todo:=.inRegion ops rest::k}:=by(have c:∀v,F.finish v={F with tmps:=F.tmps.setIfInBounds d v,todo:=.inRegion ops rest::k}:=λv=>by obtain⟨m,tmps,todo,b,j,g,n⟩:=F;subst e;simp[Xk.finish,l]);unfold mb at h;rw[e]at h;simp only at h;split at h;{cases f:ops[i]? with|none=>rw[f]at h;cases h|some o=>rw[f]at h;simp only[Vf]at h;unfold Ap at h;split at h;{cases h};split at h<;>cases h;{exact⟨_,c _⟩};exact⟨_,c _⟩};cases h;exact⟨_,c _⟩
theorem xl(h:mb P F=WX F1)(a:∀p∈(hint H F F1).2,p.1=p.2):(hint H F F1).1=F1:=by unfold hint at a⊢;split;{rename_i e i j k g;rw[g]at a;simp only at a;cases f:(e[i]?).bind (·.dst)with|none=>rfl|some d=>rw[f]at a;simp only at a⊢;cases l:H.lookup d with|none=>rfl|some v=>rw[l]at a;simp only[Vo,forall_eq]at a⊢;obtain⟨u,rfl⟩:=GU g f h;rcases UX d F.tmps.size with c|b;{(have:(F.tmps.setIfInBounds d u).getD d Xi=u:=by simp[c]);rw[this]at a;rw[a]};simp[Array.setIfInBounds,Nat.not_lt.2 b]};rfl
theorem rR(j:∀a b c,R a b->R b c->R a c)(i:∀w,D w w #[]):∀(n:Nat){F F':Xk}{obs:List (W8×W8)}{w:W6},bu P H n F=WX (F',obs)->(∀p∈obs,p.1=p.2)->F.mode=.run->F.kind≠.early->Goes P main R D Stop m (G F' cs) w->Goes P main R D Stop (m+n) (G F cs) w|0,F,F',obs,w,h,_,_,_,g=>by cases h;exact g|n+1,F,F',obs,w,h,k,t,s,g=>by simp only[bu]at h;cases d:mb P F with|none=>rw[d]at h;cases h|some l=>rw[d]at h;simp only[Vf]at h;cases f:bu P H n (hint H F l).1 with|none=>rw[f]at h;cases h|some x=>rw[f]at h;simp only[Uv,Uy,UJ]at h;obtain⟨rfl,rfl⟩:=h;rw[xl d λp d=>k p (UI.2 (.inl d))]at f;obtain⟨o,q,r⟩:=kp t s d;have:=rR j i n (F':=x.1) (obs:=x.2) f (λp d=>k p (UI.2 (.inr d))) q r g;refine .inr ⟨rfl,λv u=>?_⟩;rw[o];exact⟨i v,this.rely j u⟩
theorem nQ(f:∀F b,(∀w,Xd P main (G F cs) w=.go (G b cs) w #[])->J (G b cs)->J (G F cs)):∀(n:Nat){F F':Xk}{obs:List (W8×W8)},bu P H n F=WX (F',obs)->(∀p∈obs,p.1=p.2)->F.mode=.run->F.kind≠.early->J (G F' cs)->J (G F cs)|0,F,F',obs,h,_,_,_,e=>by cases h;exact e|n+1,F,F',obs,h,g,m,l,e=>by simp only[bu]at h;cases a:mb P F with|none=>rw[a]at h;cases h|some b=>rw[a]at h;simp only[Vf]at h;cases d:bu P H n (hint H F b).1 with|none=>rw[d]at h;cases h|some x=>rw[d]at h;simp only[Uv,Uy,UJ]at h;obtain⟨rfl,rfl⟩:=h;rw[xl a λp a=>g p (UI.2 (.inl a))]at d;obtain⟨i,j,k⟩:=kp m l a;exact f F b (λw=>i main cs w) (nQ f n (F':=x.1) (obs:=x.2) d (λp a=>g p (UI.2 (.inr a))) j k e)
def tm(N:Nat)(L:List (Nat×W8))(t:Array W8):Array W8:=((List.range N).map λi=>match L.lookup i with|some v=>v|none=>t.getD i Xi).toArray
structure Sl(N:Nat)(L:List (Nat×W8))(t:Array W8):Prop where
 size:t.size=N
 at_:∀p∈L,t.getD p.1 Xi=p.2
theorem gn(h:L.lookup i=WX v):(i,v)∈L:=by induction L with|nil=>cases h|cons p l c=>simp only[List.lookup]at h;split at h;{rename_i e;cases h;(have:=by simpa using e);subst this;exact Uu ..};exact Uw _ (c h)
theorem Sl.tm(h:Sl N L t):t=tm N L t:=by apply Vp;intro i;(have e:(Pw.tm N L t)[i]?=((List.range N).map λi=>match L.lookup i with|some v=>v|none=>t.getD i Xi)[i]?:=by unfold Pw.tm;simp);rw[e,UG];rcases UX i N with a|a;{rw[WL a];(have b:i<t.size:=by rw[h.size];exact a);simp only[Uv,Ut b,Uy];cases d:L.lookup i with|none=>simp[Ut b]|some v=>have:=h.at_ _ (gn d);simp only[Uq,Ut b]at this;exact this};rw[List.getElem?_eq_none (by simpa using a),V8 (by rw[h.size];exact a)];rfl
theorem Sl.all(h:(t.size,L.map λp=>t.getD p.1 Xi)=(N,L.map (·.2)):=by kernel_rfl):Sl N L t:=by obtain⟨a,b⟩:=UQ h;refine⟨a,λp d=>?_⟩;obtain⟨i,c⟩:=UF.1 d;have:=congrArg (·[i]?) b;simpa[UG,c]using this
theorem Sl.Oq(h:t.size=N):Sl N [] t:=⟨h,λp a=>by cases a⟩
theorem Sl.cons{N:Nat}{L:List (Nat×W8)}{t:Array W8}{i:Nat}{v:W8}(h:t.getD i Xi=v)(b:Sl N L t):Sl N ((i,v)::L) t:=⟨b.size,λp a=>by rcases Up.1 a with rfl|a;{exact h};exact b.at_ p a⟩
section
abbrev fr(f:Xw)(t:Array W8)(k:List XG):Xk:={fn:=f,tmps:=t,todo:=k,defers:=[],mode:=.run,kind:=.normal,roundOf:=W9}
def sub:List Nat->XX->XX
 |[],c=>c
 |i::p,c=>match c,i with
   |.seq a _,0=>sub p a
   |.seq _ b,_=>sub p b
   |.cond _ a _,0=>sub p a
   |.cond _ _ b,_=>sub p b
   |.block _ a,_=>sub p a
   |.loop a,_=>sub p a
   |.scope a,_=>sub p a
   |.rangeFunc _ _ a _,0=>sub p a
   |.rangeFunc _ _ _ b,_=>sub p b
   |c,_=>c
def aT:XX->Array XW
 |.region _ ops _=>ops
 |_=>#[]
def opn(ops:Array XW)(i:Nat):XW:=(ops[i]?).getD default
def TK:Nat->Nat->List Nat->List Nat
 |0,_,a=>a
 |f+1,n,a=>match Nat.ble n 1 with|true=>a|false=>TK f (n/2) (n%2::a)
def dg(n:Nat):List Nat:=TK 60 n []
abbrev sb(c:XX)(n:Nat):XX:=sub (dg n) c
def tT:List Nat->XX->List XG->List XG
 |[],_,k=>k
 |i::p,c,k=>match c,i with
   |.seq a b,0=>tT p a (.code b::k)
   |.seq _ b,_=>tT p b k
   |.cond _ a _,0=>tT p a k
   |.cond _ _ b,_=>tT p b k
   |.block id a,_=>tT p a (.inBlock id::k)
   |.loop a,_=>tT p a (.inLoop a::k)
   |.scope a,_=>tT p a (.inScope a::k)
   |_,_=>k
abbrev rA(c:XX)(n:Nat)(l:List Nat):List XG:=.inRegion (aT (sb c n)) l::tT (dg n) c []
abbrev cA(c:XX)(n:Nat):List XG:=.code (sb c n)::tT (dg n) c []
abbrev xA(x:XX)(c:XX)(n:Nat):List XG:=.code x::tT (dg n) c []
abbrev dA(c:XX)(n:Nat)(r:Nat):List XG:=.code (.region r (aT (sb c n)) WY)::tT (dg n) c []
theorem Sl.get(h:Sl N L t)(a:L.lookup i=WX v):t.getD i Xi=v:=h.at_ _ (gn a)
theorem Sl.gN(h:Sl N L t)(i:Nat)(hl:L.lookup i=WX v):t.getD i Xi=v:=h.get hl
theorem Sl.put(h:Sl N L t)(c:d<N)(e:∀p∈L',p=(d,v)\/(p∈L/\p.1≠d)):Sl N L' (t.setIfInBounds d v):=by refine⟨by simp[h.size],λp f=>?_⟩;rcases e p f with rfl|⟨a,b⟩;{simp[Uq,h.size,c]};rw[<-h.at_ p a];simp only[Uq];rw[UL (Ne.symm b)]
theorem Sl.sub(h:Sl N L t)(b:∀p∈L',p∈L):Sl N L' t:=⟨h.size,λp a=>h.at_ p (b p a)⟩
theorem aU{o:XW}(h:Sl N L t)(b:Region.wanted o (Xp ops (tm N L t))=WY):Region.wanted o (Xp ops t)=WY:=by rw[h.tm];exact b
theorem Sl.pt(h:Sl N L t)(b:d<N:=by decide)(c:L.all (λp=>!(p.1==d))=WY:=by rfl):Sl N ((d,v)::L) (t.setIfInBounds d v):=h.put b λp a=>by rcases Up.1 a with rfl|a;{exact .inl rfl};exact .inr ⟨a,by simpa using UM.1 c p a⟩
theorem rz:∀p∈([]:List (W8×W8)),p.1=p.2:=λp a=>by cases a
theorem LF{a b:W8}{l:List (W8×W8)}(h:a=b)(d:∀p∈l,p.1=p.2):∀p∈(a,b)::l,p.1=p.2:=λp c=>by rcases Up.1 c with rfl|c;{exact h};exact d p c
theorem int_eq{k:Xl}{x y:Int}(h:x=y):W8.int k x=W8.int k y:=by rw[h]
structure Ob where
 c:W8
 b:W8
 h:c=b
def oi(k:Xl)(c b:Int)(h:c=b):Ob:=⟨.int k c,.int k b,int_eq h⟩
def o2(c b:Int)(h:c=b):Ob:=oi .u32 c b h
def o3(c b:Int)(h:c=b):Ob:=oi .i32 c b h
def o6(c b:Int)(h:c=b):Ob:=oi .i64 c b h
def o8(c b:Int)(h:c=b):Ob:=oi .u64 c b h
def ob(c b:Bool)(h:c=b):Ob:=⟨.bool c,.bool b,congrArg W8.bool h⟩
def oh(O:List (Nat×Ob)):List (Nat×W8):=O.map λp=>(p.1,p.2.b)
def oo(O:List (Nat×Ob)):List (W8×W8):=O.map λp=>(p.2.c,p.2.b)
theorem sP(O:List (Nat×Ob)):∀p∈oo O,p.1=p.2:=λp a=>by obtain⟨q,_,rfl⟩:=Us.1 a;exact q.2.h
def iP(P:Xr)(H:List (Nat×W8))(n:Nat)(F:Xk):Array W8:=match bu P H n F with|some x=>x.1.tmps|none=>#[]
section
variable{k':List XG}{n:Nat}{obs:List (W8×W8)}
theorem Fj(l:∀a b c,R a b->R b c->R a c)(i:∀w,D w w #[])(n:Nat)(o:Sl N L t)(g:bu P H n (fr f (tm N L t) k)=WX (fr f (iP P H n (fr f (tm N L t) k)) k',obs))(q:∀p∈obs,p.1=p.2)(h:Sl N L' (iP P H n (fr f (tm N L t) k)))(j:∀d,Sl N L' d->Goes P main R D Stop m (G (fr f d k') cs) w):Goes P main R D Stop (m+n) (G (fr f t k) cs) w:=by(have e:fr f t k=fr f (tm N L t) k:=by rw[<-o.tm]);rw[e];exact rR l i n g q rfl Θ (j _ h)
theorem KL(h:∀F a,(∀w,Xd P main (G F cs) w=.go (G a cs) w #[])->J (G a cs)->J (G F cs))(n:Nat)(i:Sl N L t)(c:bu P H n (fr f (tm N L t) k)=WX (fr f (iP P H n (fr f (tm N L t) k)) k',obs))(j:∀p∈obs,p.1=p.2)(d:Sl N L' (iP P H n (fr f (tm N L t) k)))(g:∀b,Sl N L' b->J (G (fr f b k') cs)):J (G (fr f t k) cs):=by(have e:fr f t k=fr f (tm N L t) k:=by rw[<-i.tm]);rw[e];exact nQ (main:=main) h n c j rfl Θ (g _ d)
end
end
def wQ:W8->Bool
 |.agg _|.tuple _=>Wz
 |_=>WY
def Qh{α:Type}(b:Nat)(r:Option (α×XN×List Nat)):Option (α×XN×List Nat):=r.map λr=>(r.1,r.2.1,b::r.2.2)
def jV(P:Xr)(rd:Bool){α:Type}:XE α->XN->Option (α×XN×List Nat)
 |.pure a,o=>WX (a,o,[])
 |.program k,o=>jV P rd (k P) o
 |.load .plain ⟨b,i,W9⟩ k,.cells c e fr=>(c[i]?).bind λv=>Qh b (jV P rd (k v) (.cells c e fr))
 |.store .plain ⟨b,i,W9⟩ v k,.cells c e (0,0)=>match !rd&&wQ v&&decide (i<c.size)with
   |true=>Qh b (jV P rd k (.cells (c.setIfInBounds i v) e))
   |false=>W9
 |.getObj r k,.map es n=>Qh r (jV P rd (k (.map es n)) (.map es n))
 |.setObj r (.map es' n') k,.map _ _=>match rd with
   |false=>Qh r (jV P rd k (.map es' n'))
   |true=>W9
 |_,_=>W9
def GL(P:Xr){α:Type}:XE α->Option (XN×(Nat->XE α))
 |.program k=>GL P (k P)
 |.new o k=>WX (o,k)
 |_=>W9
def iC(w:W6)(b:Nat)(o:XN):W6:={w with heap:=w.heap.setIfInBounds b o}
theorem p0{o':XN}(h:w.heap[b]?=WX o):(iC w b o').heap[b]?=WX o':=by obtain⟨a,_⟩:=Uk.1 h;simp[iC,a]
theorem oO{c:Nat}(h:c≠b):(iC w b o).heap[c]?=w.heap[c]?:=by simp[iC,UL (Ne.symm h)]
theorem vD(w:W6)(b:Nat)(o o':XN):iC (iC w b o) b o'=iC w b o':=by simp[iC]
theorem ny(h:w.heap[b]?=WX o):iC w b o=w:=by obtain⟨c,a⟩:=Uk.1 h;(have:w.heap.setIfInBounds b o=w.heap:=Array.ext (by simp) λk d _=>by rw[Xm];split;{rename_i e;subst e;exact a.symm};rfl);unfold iC;rw[this]
theorem yP{c:Array W8}{e:Xo}(h:w.heap[b]?=WX (.cells c e)):w.setCell ⟨b,i,W9⟩ v=iC w b (.cells (c.setIfInBounds i v) e):=by obtain⟨f,d⟩:=Uk.1 h;(have:w.heap.modify b (λ|.cells c a frozen=>.cells (c.setIfInBounds i v) a frozen|o=>o)=w.heap.setIfInBounds b (.cells (c.setIfInBounds i v) e):=by apply Array.ext (by simp);intro k g _;rw[Array.getElem_modify,Xm];split;{rename_i e;subst e;rw[d]};rfl);unfold W6.setCell iC;rw[<-this];rfl
def wu(b:Nat)(e:XQ):Prop:=(match e.loc with|.cell a=>a.block=b|.obj j=>j=b|_=>False)/\e.sync=Wz
theorem Jq{f:Array XQ->Array XQ}{e:XQ}(i:wu b e)(h:∀es,∃a,f es=es++a/\∀x∈a,wu b x)(es:Array XQ):∃a,f (es.push e)=es++a/\∀x∈a,wu b x:=by obtain⟨a,d,g⟩:=h (es.push e);refine⟨#[e]++a,by simp[d],λx c=>?_⟩;rcases UT.1 c with c|c;{(obtain rfl:=by simpa using c);exact i};exact g x c
theorem kQ{r:Option (α×XN×List Nat)}{a:α}{q:List Nat}(h:Qh b r=WX (a,o,q)):∃c,r=WX (a,o,c)/\q=b::c:=by obtain⟨⟨f,g,c⟩,d,e⟩:=Ur.1 h;cases e;exact⟨c,d,rfl⟩
theorem rK{x:XE α}:∀{o o':XN}{q:List Nat}{a:α}{w:W6},jV P rd x o=WX (a,o',q)->(∀r∈q,r=b)->w.heap[b]?=WX o->x.run P w=.ok a (iC w b o')/\∀es,∃u,x.events P w es=es++u/\∀e∈u,wu b e:=by induction x with|pure a=>intro o o' q a w h g d;cases h;exact⟨by rw[ny d];rfl,λes=>⟨#[],by simp,by simp⟩⟩|program k n=>exactλh g d=>n P h g d|load m A k n=>intro o o' q a w h g d;obtain⟨j,i,C⟩:=A;cases m<;>cases C<;>cases o<;>simp only[jV,reduceCtorEq]at h;obtain⟨v,z,h⟩:=UO.1 h;obtain⟨B,s,rfl⟩:=kQ h;obtain rfl:j=b:=g _ (Uu ..);obtain⟨l,p⟩:=n v s (λr t=>g r (Uw _ t)) d;(have y:w.cell? ⟨j,i,W9⟩=WX v:=by simp[W6.cell?,d,z]);refine⟨by simpa[XE.run,y]using l,λes=>?_⟩;rw[show(XE.load Mode.plain ⟨j,i,W9⟩ k).events P w es=(k v).events P w (es.push ⟨.cell ⟨j,i,W9⟩,Wz,Wz⟩)by simp[XE.events,XE.runT,y,-XE.runT_eq];rfl];exact Jq (f:=(k v).events P w) ⟨rfl,rfl⟩ p es|store m A v k n=>intro o o' q a w h g d;obtain⟨j,i,C⟩:=A;(cases m<;>cases C<;>cases o<;>try(exfalso;revert h;simp[jV];done));rename_i c e fr;obtain⟨F,H⟩:=fr;(cases F<;>cases H<;>try(exfalso;revert h;simp[jV];done));simp only[jV]at h;split at h;{rename_i D;rw[Um,Um,decide_eq_true_eq]at D;obtain⟨⟨_,z⟩,I⟩:=D;obtain⟨B,s,rfl⟩:=kQ h;obtain rfl:j=b:=g _ (Uu ..);obtain⟨l,p⟩:=n s (λr t=>g r (Uw _ t)) (p0 d);rw[vD,<-yP d]at l;rw[<-yP d]at p;(have y:w.cell? ⟨j,i,W9⟩=WX c[i]:=by simp[W6.cell?,d,I]);(have E:w.frozen? ⟨j,i,W9⟩=Wz:=by simp[W6.frozen?,d]);refine⟨by cases v<;>simp[wQ]at z<;>simpa[XE.run,y,E]using l,λes=>?_⟩;rw[show(XE.store Mode.plain ⟨j,i,W9⟩ v k).events P w es=k.events P (w.setCell ⟨j,i,W9⟩ v) (es.push ⟨.cell ⟨j,i,W9⟩,WY,Wz⟩)by cases v<;>simp[wQ]at z<;>(simp[XE.events,XE.runT,y,E,-XE.runT_eq];rfl)];exact Jq (f:=k.events P _) ⟨rfl,rfl⟩ p es};cases h|getObj r k n=>intro o o' q a w h g d;cases o<;>simp only[jV,reduceCtorEq]at h;obtain⟨B,s,rfl⟩:=kQ h;obtain rfl:r=b:=g _ (Uu ..);obtain⟨l,p⟩:=n _ s (λr t=>g r (Uw _ t)) d;refine⟨by simpa[XE.run,d]using l,λes=>?_⟩;rw[show(XE.getObj r k).events P w es=(k _).events P w (es.push ⟨.obj r,Wz,Wz⟩)by simp[XE.events,XE.runT,d,XN.isChan,-XE.runT_eq];rfl];exact Jq (f:=(k _).events P w) ⟨rfl,rfl⟩ p es|setObj r ob k n=>intro o o' q a w h g d;cases rd<;>cases o<;>cases ob<;>simp only[jV,reduceCtorEq]at h;obtain⟨B,s,rfl⟩:=kQ h;obtain rfl:r=b:=g _ (Uu ..);obtain⟨l,p⟩:=n s (λr t=>g r (Uw _ t)) (p0 d);rw[vD]at l;refine⟨by simp only[XE.run,d];exact l,λes=>?_⟩;rw[show(XE.setObj r _ k).events P w es=k.events P (iC w r _) (es.push ⟨.obj r,WY,Wz⟩)by simp[XE.events,XE.runT,d,XN.isChan,-XE.runT_eq];rfl];exact Jq (f:=k.events P _) ⟨rfl,rfl⟩ p es|_=>intro o o' q a w h;simp[jV]at h
theorem Jv{x:XE α}:∀{o o':XN}{q:List Nat}{a:α},jV P WY x o=WX (a,o',q)->o'=o:=by induction x with|pure a=>intro o o' q a h;cases h;rfl|program k b=>exactλh=>b P h|load m d k b=>intro o o' q a h;obtain⟨j,i,g⟩:=d;cases m<;>cases g<;>cases o<;>simp only[jV,reduceCtorEq]at h;obtain⟨v,s,h⟩:=UO.1 h;obtain⟨p,f,rfl⟩:=kQ h;exact b v f|getObj r k b=>intro o o' q a h;cases o<;>simp only[jV,reduceCtorEq]at h;obtain⟨p,f,rfl⟩:=kQ h;exact b _ f|store m d v k b=>intro o o' q a h;obtain⟨j,i,g⟩:=d;(cases m<;>cases g<;>cases o<;>try(exfalso;revert h;simp[jV];done));rename_i c e fr;obtain⟨l,n⟩:=fr;cases l<;>cases n<;>exfalso<;>revert h<;>simp[jV]|setObj r ob k b=>intro o o' q a h;cases o<;>cases ob<;>simp[jV]at h|_=>intro o o' q a h;simp[jV]at h
theorem Kg{x:XE α}{k:Nat->XE α}{a:α}(h:GL P x=WX (o,k))(d:ez P (k w.heap.size)=WX a):x.run P w=.ok a (w.alloc o)/\x.events P w #[]=#[]:=by induction x with|program f e=>exact e P h|new g f=>cases h;obtain⟨b,c⟩:=ic d (w.alloc o);exact⟨b,c⟩|_=>simp[GL]at h
def Tl:Op->Bool
 |.defer _=>WY
 |_=>Wz
def BK(F:Xk):Option XW:=match F.todo with
 |.inRegion ops (i::_)::_=>match((ops[i]?).map (Region.wanted · (Xp ops F.tmps))).getD Wz with
   |true=>match ops[i]? with
     |some o=>match Tl o.op with|true=>W9|false=>WX o
     |none=>W9
   |false=>W9
 |_=>W9
def valOf:Next->Option W8
 |.value v=>WX v
 |.skip=>WX Xi
 |_=>W9
def Sc(P:Xr)(rd:Bool)(k:Nat)(F:Xk)(H:List (Nat×XN)):Option (Xk×List (Nat×XN)×List (Nat×Nat)):=
 match BK F,H[k]? with
 |some o,WX (b,ob)=>match jV P rd (Xj F.eval o) ob with
   |some (n,ob',q)=>(valOf n).map λv=>(F.finish v,H.set k (b,ob'),q.map λr=>(r,b))
   |none=>W9
 |_,_=>W9
def RZ(P:Xr)(c:Nat)(F:Xk):Option (Xk×XN):=
 match BK F with
 |some o=>match GL P (Xj F.eval o)with
   |some (ob,k)=>((ez P (k c)).bind valOf).map λv=>(F.finish v,ob)
   |none=>W9
 |none=>W9
abbrev MR:=Xk×List (Nat×XN)×List (Nat×Nat)×List (W8×W8)
def iK(P:Xr)(rd:Bool)(O:List (Nat×W8)):Nat->List Nat->List Nat->Xk->List (Nat×XN)->Option MR
 |0,_,_,F,H=>WX (F,H,[],[])
 |n+1,hs,bs,F,H=>match mb P F with
   |some F1=>(iK P rd O n hs bs (hint O F F1).1 H).map λr=>(r.1,r.2.1,r.2.2.1,(hint O F F1).2++r.2.2.2)
   |none=>match hs with
     |[]=>WX (F,H,[],[])
     |0::hs=>match bs with
       |[]=>W9
       |c::bs=>match RZ P c F with
         |some (F1,ob)=>iK P rd O n hs bs F1 ((c,ob)::H)
         |none=>W9
     |(k+1)::hs=>match Sc P rd k F H with
       |some (F1,H1,q)=>(iK P rd O n hs bs F1 H1).map λs=>(s.1,s.2.1,q++s.2.2.1,s.2.2.2)
       |none=>W9
theorem vV{o:XW}(h:BK F=WX o):∃ops i rest k,F.todo=.inRegion ops (i::rest)::k/\ops[i]?=WX o/\Region.wanted o (Xp ops F.tmps)=WY/\∀c,o.op≠.defer c:=by unfold BK at h;split at h;{rename_i ops i rest k f;split at h;{rename_i g;split at h;{rename_i j d;split at h;{cases h};rename_i b;cases h;refine⟨ops,i,rest,k,f,d,by simpa[d]using g,λc e=>?_⟩;rw[e]at b;cases b};cases h};cases h};cases h
theorem Cj{o:XW}{w':W6}{n:Next}(y:F.mode=.run)(r:F.kind≠.early)(h:BK F=WX o)(A:(Xj F.eval o).run P w=.ok n w')(z:valOf n=WX v):Xd P main (G F cs) w=.go (G (F.finish v) cs) w' (seen P F.fn ((Xj F.eval o).events P w #[]))/\(F.finish v).mode=.run/\(F.finish v).kind≠.early:=by obtain⟨p,i,g,k,u,x,q,C⟩:=vV h;obtain⟨fn,tmps,todo,defers,mode,kind,t⟩:=F;subst u y;(have m:=by simpa using r);refine⟨?_,rfl,r⟩;generalize D:Xk.eval _=B at A⊢;(have s:Xd P main (G {fn:=fn,tmps:=tmps,todo:=.inRegion p (i::g)::k,defers:=defers,mode:=.run,kind:=kind,roundOf:=t} cs) w=Xd.apply P WY {fn:=fn,tmps:=tmps,todo:=.inRegion p (i::g)::k,defers:=defers,mode:=.run,kind:=kind,roundOf:=t} cs W9 (Xj B o) w:=by rw[<-D];cases t with|none=>simp only[G,Xd,Xd.exec,Xd.oper,Xk.oper?,x,q,Uv,UR,if_true]|some l=>simp only[G,Xd,Xd.exec,Xd.oper,Xk.oper?,x,q,Uv,UR,if_true];split;{rename_i e;exact absurd e (C _)};rfl);rw[s];cases n<;>simp[valOf]at z<;>subst z<;>simp[Xd.apply,A,m,GStep.after,G]
theorem Lm{es:Array XQ}(h:∀e∈es,wu b e):∀e∈seen P f es,wu b e:=λe a=>by rw[seen_def]at a;rcases seen_fold_sub _ _ _ _ e a with x|x;{simp at x};exact h e (by simpa using x)
theorem N6{k:Nat}{H H1:List (Nat×XN)}{q:List (Nat×Nat)}(x:F.mode=.run)(u:F.kind≠.early)(h:Sc P rd k F H=WX (F1,H1,q))(z:∀p∈q,p.1=p.2):∃b o o',H[k]?=WX (b,o)/\H1=H.set k (b,o')/\(rd=WY->o'=o)/\(∀main cs w,w.heap[b]?=WX o->∃es,Xd P main (G F cs) w=.go (G F1 cs) (iC w b o') es/\∀e∈es,wu b e)/\F1.mode=.run/\F1.kind≠.early:=by unfold Sc at h;split at h;{rename_i C b ob y hH;split at h;{rename_i n d D g;obtain⟨v,B,e⟩:=Ur.1 h;cases e;have a:=λr A=>z (r,b) (Us.2 ⟨r,A,rfl⟩);have c:∀main cs w,w.heap[b]?=WX ob->Xd P main (G F cs) w=.go (G (F.finish v) cs) (iC w b d) (seen P F.fn ((Xj F.eval C).events P w #[]))/\(F.finish v).mode=.run/\(F.finish v).kind≠.early:=λmain cs w f=>Cj x u y (rK g a f).1 B;refine⟨b,ob,d,hH,rfl,λe=>by subst e;exact Jv g,λmain cs w f=>⟨_,(c main cs w f).1,Lm λe i=>?_⟩,(c WY [] {(default:W6)with heap:=(Array.replicate (b+1) ob)} (by simp)).2⟩;obtain⟨l,m,s⟩:=(rK g a f).2 #[];rw[m]at i;exact s e (by simpa using i)};cases h};cases h
theorem NO(s:F.mode=.run)(q:F.kind≠.early)(h:∀c,∃r,RZ P c F=WX r):∃o,∃e:Nat->Xk,(∀c,RZ P c F=WX (e c,o))/\(∀main cs w,Xd P main (G F cs) w=.go (G (e w.heap.size) cs) (w.alloc o) #[])/\∀c,(e c).mode=.run/\(e c).kind≠.early:=by unfold RZ at h⊢;cases g:BK F with|none=>obtain⟨r,b⟩:=h 0;rw[g]at b;cases b|some D=>simp only[g]at h⊢;cases l:GL P (Xj F.eval D)with|none=>obtain⟨r,b⟩:=h 0;rw[l]at b;cases b|some x=>obtain⟨ob,p⟩:=x;simp only[l]at h⊢;(have j:∀c,∃n v,ez P (p c)=WX n/\valOf n=WX v:=λc=>by obtain⟨r,b⟩:=h c;obtain⟨v,j,_⟩:=Ur.1 b;obtain⟨n,a,d⟩:=UO.1 j;exact⟨n,v,a,d⟩);(have m:∀main cs(w:W6),Xd P main (G F cs) w=.go (G (F.finish (((ez P (p w.heap.size)).bind valOf).getD Xi)) cs) (w.alloc ob) #[]:=λmain cs w=>by obtain⟨n,v,a,d⟩:=j w.heap.size;obtain⟨B,C⟩:=Kg l a;rw[(Cj s q g B d).1,C,kR,a];simp[d]);refine⟨ob,λc=>F.finish (((ez P (p c)).bind valOf).getD Xi),λc=>?_,m,λc=>?_⟩;{obtain⟨n,v,a,d⟩:=j c;simp[a,d]};obtain⟨E,i,y,k,a,_⟩:=vV g;obtain⟨H,z,A,f,u,t,I⟩:=F;subst a;exact⟨s,q⟩
structure Carry(P:Xr)(rd:Bool)(main:Bool)(cs:List Xk)(J:(Nat->Prop)->Xc->W6->Prop)(Kn:(Nat->Prop)->W6->List (Nat×XN)->Prop)(al:Prop):Prop where
 ctl:∀own v F F1,(∀w,Xd P main (G F cs) w=.go (G F1 cs) w #[])->J own (G F1 cs) v->J own (G F cs) v
 mem:∀own v H k b o o' F F1,Kn own v H->H[k]?=WX (b,o)->(rd=WY->o'=o)->(∀w:W6,w.heap[b]?=WX o->∃es,Xd P main (G F cs) w=.go (G F1 cs) (iC w b o') es/\∀e∈es,wu b e)->(∀v',Kn own v' (H.set k (b,o'))->J own (G F1 cs) v')->J own (G F cs) v
 new:al->∀own v H o F(F1:Nat->Xk),Kn own v H->(∀w:W6,Xd P main (G F cs) w=.go (G (F1 w.heap.size) cs) (w.alloc o) #[])->(∀own' c v',Kn own' v' ((c,o)::H)->J own' (G (F1 c) cs) v')->J own (G F cs) v
theorem Carry.run{P:Xr}{J:(Nat->Prop)->Xc->W6->Prop}{Kn:(Nat->Prop)->W6->List (Nat×XN)->Prop}{al:Prop}(C:Carry P rd main cs J Kn al)(O:List (Nat×W8)):∀(n:Nat)(g:List Nat)(k:Nat)(_:k≠0->al)(own:Nat->Prop)(v:W6)(F:Xk)(H:List (Nat×XN)),F.mode=.run->F.kind≠.early->Kn own v H->(∀bs:List Nat,bs.length=k->∃r,iK P rd O n g bs F H=WX r/\(∀p∈r.2.2.1,p.1=p.2)/\(∀p∈r.2.2.2,p.1=p.2)/\∀d t,Kn d t r.2.1->J d (G r.1 cs) t)->J own (G F cs) v|0,g,k,z,own,v,F,H,K,I,m,E=>by obtain⟨r,h,_,_,y⟩:=E (List.replicate k 0) (by simp);cases h;exact y own v m|n+1,g,k,z,own,v,F,H,K,I,m,E=>by cases a:mb P F with|some f=>obtain⟨h,u,l⟩:=kp K I a;(have R:(hint O F f).1=f:=by obtain⟨r,e,_,B,_⟩:=E (List.replicate k 0) (by simp);simp only[iK,a]at e;obtain⟨s,_,rfl⟩:=Ur.1 e;exact xl a λp a=>B p (UI.2 (.inl a)));refine C.ctl own v F f (λw=>h main cs w) (Carry.run C O n g k z own v f H u l m λbs A=>?_);obtain⟨r,e,D,B,N⟩:=E bs A;simp only[iK,a,R]at e;obtain⟨s,M,rfl⟩:=Ur.1 e;exact⟨s,M,D,λp a=>B p (UI.2 (.inr a)),N⟩|none=>cases g with|nil=>obtain⟨r,e,_,_,y⟩:=E (List.replicate k 0) (by simp);simp only[iK,a,Uy]at e;subst e;exact y own v m|cons j g=>cases j with|zero=>(cases k with|zero=>obtain⟨r,e,_⟩:=E [] rfl;simp[iK,a]at e|succ k=>(obtain⟨o,f,h,u,l⟩:=NO (P:=P) K I λc=>by obtain⟨r,e,_⟩:=E (c::List.replicate k 0) (by simp);simp only[iK,a]at e;cases S:RZ P c F with|none=>rw[S]at e;cases e|some r=>exact⟨r,rfl⟩);refine C.new (z (by simp)) own v H o F f m (λw=>u main cs w) λd c t i=>Carry.run C O n g k (λ_=>z (by simp)) d t (f c) _ (l c).1 (l c).2 i λbs A=>?_;obtain⟨r,e,T⟩:=E (c::bs) (by simp[A]);simp only[iK,a,h c]at e;exact⟨r,e,T⟩)|succ j=>cases L:Sc P rd j F H with|none=>obtain⟨r,e,_⟩:=E (List.replicate k 0) (by simp);simp[iK,a,L]at e|some x=>obtain⟨f,W,q⟩:=x;obtain⟨b,o,V,h,rfl,u,l,y,Q⟩:=N6 K I L (by obtain⟨r,e,D,_⟩:=E (List.replicate k 0) (by simp);simp only[iK,a,L]at e;obtain⟨s,_,rfl⟩:=Ur.1 e;exactλp a=>D p (UI.2 (.inl a)));refine C.mem own v H j b o V F f m h u (λw U=>l main cs w U) λt i=>Carry.run C O n g k z own t f _ y Q i λbs A=>?_;obtain⟨r,e,D,B,N⟩:=E bs A;simp only[iK,a,L]at e;obtain⟨s,M,rfl⟩:=Ur.1 e;exact⟨s,M,λp a=>D p (UI.2 (.inr a)),B,N⟩
end Go.Pw
namespace Go.ab
variable{a a' b':XO}{v w:W6}{v' x x' y y' z:W8}{i b k n:Nat}{e:RuntimeError}{o o':XN}{P:Xr}{α β γ δ ε ζ:Type}{h:Halt}{t:Xo}{op:BinOp}{o1:Xz}{lo lo' hi hi' mx':Option W8}{f:Xw}{gl:Nat->Bool}{ev ev':Xz->W8}{ops:Array XW}{rest:List Nat}{t':Array W8}
section
abbrev bC:=Nat->Option Nat
def bC.le(r r':bC):Prop:=∀b c,r b=WX c->r' b=WX c
theorem bC.le_refl(r:bC):r.le r:=λ_ _ h=>h
theorem bC.le_trans{r r' r'':bC}(h:r.le r')(a:r'.le r''):r.le r'':=λb c e=>a b c (h b c e)
structure dC where
 fns:Xw->Bool
 seen:Nat->Prop
 E6:Nat->Nat
 aL:Nat
 low:Nat->Nat:=λ_=>0
def vM:Xo:=1000000007
structure Fits(P:Xr)(c:dC):Prop where
 aL:c.aL=P.globals.size
 bad:P.info? vM=W9
 low:∀g,g<c.aL->c.low g=0
def du(c:dC)(r:bC)(a a':XO):Prop:=r a.block=WX a'.block/\a'.off=a.off/\a'.spot=a.spot/\c.low a.block<=a.off
def G9(c:dC):Fn->Bool
 |.func f=>c.fns f
 |_=>Wz
inductive ai(c:dC)(r:bC):W8->W8->Prop
 |bool(b:Bool):ai c r (.bool b) (.bool b)
 |int(k:Xl)(n:Int):ai c r (.int k n) (.int k n)
 |string(s:ByteArray):ai c r (.string s) (.string s)
 |gf:ai c r (.pointer W9) (.pointer W9)
 |ptr{a a':XO}:du c r a a'->ai c r (.pointer (WX a)) (.pointer (WX a'))
 |gv(n m:Nat):ai c r (.slice W9 n m) (.slice W9 n m)
 |slice{a a':XO}(n m:Nat):du c r a a'->ai c r (.slice (WX a) n m) (.slice (WX a') n m)
 |cE(a a':XO):ai c r (.slice (WX a) 0 0) (.slice (WX a') 0 0)
 |kM:ai c r (.map W9) (.map W9)
 |map{a a':Nat}:r a=WX a'->ai c r (.map (WX a)) (.map (WX a'))
 |func{fn:Fn}{x x' y y':Array W8}:G9 c fn=WY->x.size=x'.size->(∀(i:Nat)(v v':W8),x[i]?=WX v->x'[i]?=WX v'->ai c r v v')->
  y.size=y'.size->(∀(i:Nat)(v v':W8),y[i]?=WX v->y'[i]?=WX v'->ai c r v v')->ai c r (.func fn x y) (.func fn x' y')
 |nilFunc:ai c r .nilFunc .nilFunc
 |nilIface:ai c r .nilIface .nilIface
 |iface(t:Xo){v v':W8}:ai c r v v'->ai c r (.iface t v) (.iface t v')
 |agg{x x':Array W8}:x.size=x'.size->(∀(i:Nat)(v v':W8),x[i]?=WX v->x'[i]?=WX v'->ai c r v v')->ai c r (.agg x) (.agg x')
 |tuple{x x':Array W8}:x.size=x'.size->(∀(i:Nat)(v v':W8),x[i]?=WX v->x'[i]?=WX v'->ai c r v v')->ai c r (.tuple x) (.tuple x')
structure ak(c:dC)(r:bC)(x x':Array W8):Prop where
 size:x.size=x'.size
 el:∀(i:Nat)(v v':W8),x[i]?=WX v->x'[i]?=WX v'->ai c r v v'
theorem du.mono{c:dC}{r r':bC}(h:r.le r')(x:du c r a a'):du c r' a a':=⟨h _ _ x.1,x.2⟩
theorem ai.mono{c:dC}{r r':bC}(h:r.le r'){v:W8}(x:ai c r v v'):ai c r' v v':=by induction x with|bool b=>exact .bool b|int k n=>exact .int k n|string s=>exact .string s|gf=>exact .gf|ptr a=>exact .ptr (a.mono h)|gv n m=>exact .gv n m|slice n m a=>exact .slice n m (a.mono h)|cE a e=>exact .cE a e|kM=>exact .kM|map a=>exact .map (h _ _ a)|func i j _ l _ f g=>exact .func i j f l g|nilFunc=>exact .nilFunc|nilIface=>exact .nilIface|iface t _ d=>exact .iface t d|agg s _ d=>exact .agg s d|tuple s _ d=>exact .tuple s d
theorem ak.mono{c:dC}{r r':bC}(h:r.le r'){x x':Array W8}(k:ak c r x x'):ak c r' x x':=⟨k.size,λi v d a b=>(k.el i v d a b).mono h⟩
theorem ai.td{c:dC}{r:bC}{x x':Array W8}(h:ak c r x x'):ai c r (.agg x) (.agg x'):=.agg h.size h.el
theorem ai.kP{c:dC}{r:bC}{x x':Array W8}(h:ak c r x x'):ai c r (.tuple x) (.tuple x'):=.tuple h.size h.el
section rows
variable{c:dC}{r:bC}
theorem ak.get{x x':Array W8}(h:ak c r x x'){v:W8}(b:x[i]?=WX v):∃d,x'[i]?=WX d/\ai c r v d:=by have e:=(Uk.1 b).1;have a:=h.size▸e;exact⟨x'[i],Ut a,h.el i v _ b (Ut a)⟩
theorem ak.none{x x':Array W8}(h:ak c r x x')(a:x[i]?=Option.none):x'[i]?=Option.none:=by rw[Array.getElem?_eq_none_iff]at a⊢;rw[<-h.size];exact a
theorem ak.getD{x x':Array W8}(h:ak c r x x')(i:Nat){d d':W8}(b:ai c r d d'):ai c r (x.getD i d) (x'.getD i d'):=by rw[Uq,Uq];cases a:x[i]? with|none=>rw[h.none a];exact b|some v=>obtain⟨f,e,k⟩:=h.get a;simp_all
theorem ak.empty:ak c r #[] #[]:=⟨rfl,λi v a h=>by simp at h⟩
theorem ak.push{x x':Array W8}(h:ak c r x x'){v:W8}(k:ai c r v v'):ak c r (x.push v) (x'.push v'):=by refine⟨by simp[h.size],λi u d a b=>?_⟩;rw[US]at a b;rw[<-h.size]at b;split at a;{simp_all};rw[if_neg ‹_›]at b;exact h.el i u d a b
theorem ak.append{x x' y y':Array W8}(h:ak c r x x')(k:ak c r y y'):ak c r (x++y) (x'++y'):=by refine⟨by simp[h.size,k.size],λi u d a b=>?_⟩;rw[Array.getElem?_append]at a b;rw[<-h.size]at b;split at a;{rw[if_pos ‹_›]at b;exact h.el i u d a b};rw[if_neg ‹_›]at b;exact k.el _ u d a b
theorem ak.set{x x':Array W8}(h:ak c r x x')(i:Nat){v:W8}(k:ai c r v v'):ak c r (x.setIfInBounds i v) (x'.setIfInBounds i v'):=by refine⟨by simp[h.size],λj u d a b=>?_⟩;rw[Vz]at a b;split at a;{simp_all};rw[if_neg ‹_›]at b;exact h.el j u d a b
theorem ak.extract{x x':Array W8}(h:ak c r x x')(i j:Nat):ak c r (x.extract i j) (x'.extract i j):=by refine⟨by simp[h.size],λk u d a b=>?_⟩;rw[Array.getElem?_extract]at a b;rw[<-h.size]at b;split at a;{rw[if_pos ‹_›]at b;exact h.el _ u d a b};cases a
theorem ak.single{v:W8}(k:ai c r v v'):ak c r #[v] #[v']:=by refine⟨rfl,λi u d a b=>?_⟩;grind
theorem ak.cells{v v':W8}(k:ai c r v v'):ak c r v.cells v'.cells:=by cases k with|agg s e=>exact⟨s,e⟩|bool b=>exact .single (.bool b)|int k n=>exact .single (.int k n)|string s=>exact .single (.string s)|gf=>exact .single .gf|ptr a=>exact .single (.ptr a)|gv n m=>exact .single (.gv n m)|cE a g=>exact .single (.cE a g)|slice n m a=>exact .single (.slice n m a)|kM=>exact .single .kM|map a=>exact .single (.map a)|func a b d e f=>exact .single (.func a b d e f)|nilFunc=>exact .single .nilFunc|nilIface=>exact .single .nilIface|iface t a=>exact .single (.iface t a)|tuple a b=>exact .single (.tuple a b)
theorem ak.map{α:Type}(l:Array α)(f f':α->W8)(h:∀x∈l,ai c r (f x) (f' x)):ak c r (l.map f) (l.map f'):=by refine⟨by simp,λi u d a b=>?_⟩;grind
theorem fL:ai c r Xi Xi:=.tuple rfl λi v a h=>by simp at h
theorem ak.replicate(n:Nat){v:W8}(k:ai c r v v'):ak c r (Array.replicate n v) (Array.replicate n v'):=by refine⟨by simp,λi u d a b=>?_⟩;grind
end rows
structure Ff(c:dC)(r:bC)(e e':XV):Prop where
 key:ai c r e.key e'.key
 val:ai c r e.val e'.val
 born:e'.born=e.born
inductive mC(c:dC)(r:bC):XN->XN->Prop
 |cells{x x':Array W8}(t:Xo)(fr:Nat×Nat):ak c r x x'->mC c r (.cells x t fr) (.cells x' t fr)
 |map{x x':Array XV}(k:Nat):x.size=x'.size->(∀(i:Nat)(e e':XV),x[i]?=WX e->x'[i]?=WX e'->Ff c r e e')->mC c r (.map x k) (.map x' k)
 |iter(s:ByteArray)(p:Nat):mC c r (.stringIter s p) (.stringIter s p)
 |number{a a':XO}(l:Bool):du c r a a'->mC c r (.number a l) (.number a' l)
inductive qo(c:dC)(r:bC)(b:Nat):Option XN->Option XN->Prop
 |seen{x x':Array W8}(t t':Xo)(fr:Nat×Nat):c.seen b->x.size<=c.E6 b->x.size<=x'.size->(c.low b=0->t=t')/\(c.low b≠0->t=vM/\c.aL<=b)->(∀(i:Nat)(v v':W8),c.low b<=i->x[i]?=WX v->x'[i]?=WX v'->ai c r v v')->qo c r b (WX (.cells x t (0,x.size))) (WX (.cells x' t' fr))
 |own{o o':XN}:¬c.seen b->mC c r o o'->qo c r b (WX o) (WX o')
theorem Ff.mono{c:dC}{r r':bC}(h:r.le r'){e e':XV}(k:Ff c r e e'):Ff c r' e e':=⟨k.key.mono h,k.val.mono h,k.born⟩
theorem mC.mono{c:dC}{r r':bC}(h:r.le r')(k:mC c r o o'):mC c r' o o':=by cases k with|cells t g k=>exact .cells t g (k.mono h)|map k s e=>exact .map k s λi d f a b=>(e i d f a b).mono h|iter s p=>exact .iter s p|number l a=>exact .number l (a.mono h)
theorem qo.mono{c:dC}{r r':bC}(h:r.le r'){o o':Option XN}(k:qo c r b o o'):qo c r' b o o':=by cases k with|seen t g f s l z y e=>exact .seen t g f s l z y λi v j a b d=>(e i v j a b d).mono h|own n k=>exact .own n (k.mono h)
structure cG(c:dC)(r:bC)(w v:W6):Prop where
 qH:∀b k:Nat,r b=WX k->b<w.heap.size
 yW:∀b k:Nat,r b=WX k->k<v.heap.size
 inj:∀b b' k:Nat,r b=WX k->r b'=WX k->b=b'\/(c.seen b/\c.seen b')
 qv:∀b:Nat,¬c.seen b->c.low b=0
 hid:∀b:Nat,b<c.aL->r b=W9->w.heap[b]?=WX (.cells #[] 0)
 blk:∀b k:Nat,r b=WX k->qo c r b w.heap[b]? v.heap[k]?
 tape:v.tape=w.tape
 drawn:v.drawn=w.drawn
 old:∀b:Nat,c.seen b->b<w.heap.size
 aL:∀b k:Nat,r b=WX k->b<c.aL->b=k
 gZ:c.aL<=w.heap.size/\c.aL<=v.heap.size
structure Ext(c:dC)(r:bC)(w v:W6)(r':bC)(w' v':W6):Prop where
 rel:cG c r' w' v'
 le:r.le r'
 grow:w.heap.size<=w'.heap.size
 size:v'.heap.size+w.heap.size=v.heap.size+w'.heap.size
 zu:∀b:Nat,b<w.heap.size->r' b=r b
 new:∀b:Nat,w.heap.size<=b->b<w'.heap.size->r' b=WX (v.heap.size+(b-w.heap.size))
 keep:∀k:Nat,k<v.heap.size->(∀b:Nat,r b=WX k->c.seen b)->v'.heap[k]?=v.heap[k]?
 os:v'.os=v.os
 out:v'.output=v.output
 tape:v'.tape=v.tape
theorem Ext.refl{c:dC}{r:bC}(h:cG c r w v):Ext c r w v r w v:=⟨h,bC.le_refl r,Uj _,by omega,λ_ _=>rfl,λb _ _=>by omega,λ_ _ _=>rfl,rfl,rfl,rfl⟩
theorem Ext.trans{c:dC}{r r1 r2:bC}{w1 v1 w2 v2:W6}(h:Ext c r w v r1 w1 v1)(k:Ext c r1 w1 v1 r2 w2 v2):Ext c r w v r2 w2 v2:=by have n:=h.size;have o:=k.size;have g:=h.grow;have m:=k.grow;refine⟨k.rel,bC.le_trans h.le k.le,Uz g m,by omega,λb a=>(k.zu b (Ul a g)).trans (h.zu b a),λb a f=>?_,λj l i=>?_,k.os.trans h.os,k.out.trans h.out,k.tape.trans h.tape⟩;{rcases UX b w1.heap.size with e|d;{exact k.le _ _ (h.new b a e)};rw[k.new b d f];grind};rw[k.keep j Ω (λb a=>?_),h.keep j l i];refine i b ?_;rcases UX b w.heap.size with e|d;{rw[<-h.zu b e];exact a};have:=h.rel.qH b j a;rw[h.new b d this]at a;grind
def rq(c:dC)(r:bC)(e:XQ):Prop:=
 (∃b:Nat,(match e.loc with|.cell a=>r b=WX a.block/\(c.seen b->a.off<c.E6 b/\a.spot=W9)|.obj k=>r b=WX k/\¬c.seen b|_=>False)/\(e.write=WY->¬c.seen b)/\e.sync=Wz)\/e.loc=.mark .noRoom\/∃f,e.loc=.mark (.extern f)
theorem rq.mono{c:dC}{r r':bC}(h:r.le r'){e:XQ}(x:rq c r e):rq c r' e:=by rcases x with⟨b,a,d⟩|x;{refine .inl ⟨b,?_,d⟩;revert a;cases e.loc<;>simp only[imp_self]<;>exactλx=>⟨h _ _ x.1,x.2⟩};exact .inr x
end
section
variable{c:dC}{r:bC}
def AS:Halt->Bool
 |.unsupported (.initOrder _)=>Wz
 |.panic _|.stuck _|.unsupported _=>WY
 |_=>Wz
def Out(P:Xr)(c:dC)(r:bC)(w v:W6)(s:XE β)(Q:bC->α->β->Prop):XJ α->Prop
 |.ok a w'=>∃b v' r',s.run P v=.ok b v'/\Ext c r w v r' w' v'/\Q r' a b/\∀e∈s.events P v #[],rq c r' e
 |.halt h _=>AS h=WY
def ab(P:Xr)(c:dC)(r:bC)(x:XE α)(y:XE β)(Q:bC->α->β->Prop):Prop:=∀w v,cG c r w v->Out P c r w v y Q (x.run P w)
theorem ab.mono{x:XE α}{y:XE β}{Q Q':bC->α->β->Prop}(h:ab P c r x y Q)(k:∀d a b,r.le d->Q d a b->Q' d a b):ab P c r x y Q':=by intro w v l;have:=h w v l;cases f:x.run P w with|halt _ _=>rw[f]at this;exact this|ok a n=>rw[f]at this;obtain⟨b,m,d,g,e,i,j⟩:=this;exact⟨b,m,d,g,e,k _ _ _ e.le i,j⟩
theorem ab.bind{x:XE α}{y:XE β}{f:α->XE γ}{g:β->XE δ}{Q:bC->α->β->Prop}{Q':bC->γ->δ->Prop}(h:ab P c r x y Q)(k:∀l a b,r.le l->Q l a b->ab P c l (f a) (g b) Q'):ab P c r (x>>=f) (y>>=g) Q':=by intro w v t;have i:=h w v t;rw[XE.run_bind];cases p:x.run P w with|halt _ _=>rw[p]at i;exact i|ok a m=>rw[p]at i;obtain⟨b,F,D,s,n,B,A⟩:=i;have j:=k D a b n.le B m F n.rel;show Out P c r w v (y>>=g) Q' ((f a).run P m);cases o:(f a).run P m with|halt _ _=>rw[o]at j;exact j|ok z J=>rw[o]at j;obtain⟨u,G,E,H,q,C,I⟩:=j;refine⟨u,G,E,?_,n.trans q,C,λe d=>?_⟩;{simp_all};rw[XE.events_bind,s,XJ.evThen_ok,XE.events_acc]at d;rcases UT.1 d with d|d;{exact(A e d).mono q.le};simp_all
theorem ab.pure{a:α}{b:β}{Q:bC->α->β->Prop}(h:Q r a b):ab P c r (Pure.pure a) (Pure.pure b) Q:=λ_ v f=>⟨b,v,r,rfl,.refl f,h,λe d=>by simp at d⟩
theorem ab.halt{y:XE β}{Q:bC->α->β->Prop}(a:AS h=WY:=by rfl):ab P c r (XE.halt h) y Q:=λ_ _ _=>a
theorem ab.stuck{s:String}{y:XE β}{Q:bC->α->β->Prop}:ab P c r (Go.stuck s:XE α) y Q:=λ_ _ _=>rfl
theorem ab.unsupported{u:Unsupported}{y:XE β}{Q:bC->α->β->Prop}(a:AS (.unsupported u)=WY:=by rfl):ab P c r (Go.unsupported u:XE α) y Q:=λ_ _ _=>a
theorem ab.never{x:XE α}{y:XE β}{Q:bC->α->β->Prop}(h:∀w,∃k w',x.run P w=.halt k w'/\AS k=WY):ab P c r x y Q:=by intro w v _;obtain⟨k,w',e,a⟩:=h w;rw[e];exact a
theorem ab.ite{b:Prop}[Decidable b]{x x':XE α}{y y':XE β}{Q:bC->α->β->Prop}(h:b->ab P c r x y Q)(a:¬b->ab P c r x' y' Q):ab P c r (if b then x else x') (if b then y else y') Q:=by by_cases e:b;{rw[if_pos e,if_pos e];exact h e};rw[if_neg e,if_neg e];exact a e
def bS(P:Xr)(q:α->Prop):XE α->Prop
 |.pure a=>q a
 |.choose _ k=>∀n,bS P q (k n)
 |.program k=>bS P q (k P)
 |.mark m k=>m=.noRoom/\bS P q k
 |.halt h=>AS h=WY
 |_=>False
abbrev lz(P:Xr):XE α->Prop:=bS P λ_=>True
theorem bS.bind{q:α->Prop}{q':β->Prop}{x:XE α}{f:α->XE β}(h:bS P q x)(k:∀a,q a->bS P q' (f a)):bS P q' (x>>=f):=by induction x with|pure a=>exact k a h|choose _ g b=>exactλn=>b n (h n)|program g b=>exact b P h|mark m g b=>exact⟨h.1,b h.2⟩|halt z=>exact h|load _ _ _ _=>exact h.elim|store _ _ _ _ _=>exact h.elim|new _ _ _=>exact h.elim|shape _ _ _=>exact h.elim|freeze _ _ _ _=>exact h.elim|frozen _ _ _=>exact h.elim|getObj _ _ _=>exact h.elim|setObj _ _ _ _=>exact h.elim|sys _ _ _=>exact h.elim
theorem lz.bind{q':β->Prop}{x:XE α}{f:α->XE β}(h:lz P x)(k:∀a,bS P q' (f a)):bS P q' (x>>=f):=bS.bind h λa _=>k a
def Rb(P:Xr)(q:α->Prop)(x:XE α)(w v:W6):Prop:=
 (∃a d,q a/\x.run P w=.ok a {w with drawn:=d}/\x.run P v=.ok a {v with drawn:=d}/\∀e∈x.events P v #[],e.loc=.mark .noRoom)\/∃h w',x.run P w=.halt h w'/\AS h=WY
theorem bS.run{q₀:α->Prop}{x:XE α}(h:bS P q₀ x):∀(w v:W6),v.tape=w.tape->v.drawn=w.drawn->Rb P q₀ x w v:=by induction x with|pure a=>exactλw v _ f=>.inl ⟨a,w.drawn,h,rfl,by rw[<-f];rfl,λe l=>by simp at l⟩|choose q g j=>intro w v i f;have t:∀u:W6,(XE.choose q g).run P u=if q.forced then(g 0).run P u else(g (q.cut (u.tape u.drawn q))).run P {u with drawn:=u.drawn+1}:=λ_=>rfl;(have y:∀u:W6,(XE.choose q g).events P u #[]=if q.forced then(g 0).events P u #[]else(g (q.cut (u.tape u.drawn q))).events P {u with drawn:=u.drawn+1} #[]:=λu=>by simp only[XE.events,XE.runT];grind);unfold Rb;simp only[t,y];by_cases s:q.forced=WY;{simp only[s];exact j 0 (h 0) w v i f};obtain⟨B,F,E,C,D⟩:=v;rcases j (q.cut (w.tape w.drawn q)) (h _) {w with drawn:=w.drawn+1} ⟨B,w.tape,w.drawn+1,C,D⟩ rfl rfl with⟨a,d,n,o,p,A⟩|x;{simp_all};simp_all|program g j=>exactλw v i f=>j P h w v i f|mark m g j=>intro w v i f;rcases j h.2 w v i f with⟨a,d,n,o,p,A⟩|x;{refine .inl ⟨a,d,n,o,p,λe l=>?_⟩;have k:e∈g.events P v (#[].push ⟨.mark m,Wz,WY⟩):=l;rw[XE.events_acc]at k;rcases UT.1 k with x|x;{simp at x;rw[x,h.1]};simp_all};exact .inr x|halt z=>exactλw _ _ _=>.inr ⟨z,w,rfl,h⟩|load _ _ _ _=>exact h.elim|store _ _ _ _ _=>exact h.elim|new _ _ _=>exact h.elim|shape _ _ _=>exact h.elim|freeze _ _ _ _=>exact h.elim|frozen _ _ _=>exact h.elim|getObj _ _ _=>exact h.elim|setObj _ _ _ _=>exact h.elim|sys _ _ _=>exact h.elim
theorem cG.A8(h:cG c r w v)(d:Nat):cG c r {w with drawn:=d} {v with drawn:=d}:=⟨h.qH,h.yW,h.inj,h.qv,h.hid,h.blk,h.tape,rfl,h.old,h.aL,h.gZ⟩
theorem ab.eY{q:α->Prop}{x:XE α}(h:bS P q x):ab P c r x x λ_ a b=>b=a/\q a:=by intro w v f;rcases h.run w v f.tape f.drawn with⟨a,d,g,i,j,l⟩|⟨k,s,e,p⟩;{rw[i];refine⟨a,_,r,j,?_,⟨rfl,g⟩,λe o=>.inr (.inl (l e o))⟩;exact⟨f.A8 d,bC.le_refl r,Uj _,rfl,λ_ _=>rfl,λb m n=>absurd n (Nat.not_lt.2 m),λ_ _ _=>rfl,rfl,rfl,rfl⟩};rw[e];exact p
theorem ab.cM{x:XE α}(h:lz P x):ab P c r x x λ_ a b=>b=a:=(ab.eY h).mono λ_ _ _ _ h=>h.1
theorem uJ(a:α):lz P (Pure.pure a):=trivial
theorem lO:lz P program:=trivial
theorem iA(q:XU):lz P (choose q):=λ_=>trivial
theorem dE(t:Xo):lz P (typeInfo t):=by refine lz.bind lO λp=>?_;split<;>first|trivial|exact rfl
theorem aE(t:Xo):lz P (underlying t):=by refine lz.bind lO λp=>?_;split<;>first|trivial|exact rfl
theorem bA(t:Xo):lz P (sizeOf t):=(dE t).bind λ_=>trivial
theorem oz(t:Xo):lz P (isAgg t):=(aE t).bind λd=>by split<;>first|trivial|exact rfl
theorem pL(n:Nat):lz P (askRoom n):=by unfold askRoom;split;{exact⟨rfl,trivial⟩};trivial
end
section
variable{c:dC}{r:bC}
theorem cG.at(h:cG c r w v)(b:du c r a a'):qo c r a.block w.heap[a.block]? v.heap[a'.block]?:=h.blk _ _ b.1
theorem cG.cell(h:cG c r w v)(g:du c r a a')(b:w.cell? a=WX x):∃y,v.cell? a'=WX y/\ai c r x y:=by have d:=h.at g;obtain⟨_,m,o,i⟩:=g;unfold W6.cell? at b⊢;generalize q:w.heap[a.block]?=C at d b;generalize p:v.heap[a'.block]?=B at d;cases d with|@seen z D t A j s l u _ e=>grind|own n k=>cases k with|cells t j k=>simp only[o,m]at b⊢;split at b;{cases b};rename_i f;rw[if_neg f];exact k.get b|map _ _ _=>cases b|iter _ _=>cases b|number _ _=>cases b
theorem cG.Uf(h:cG c r w v)(g:du c r a a')(_:w.cell? a=W9)(d:Bool):∃k,w.farLoad P a d=.error k/\AS k=WY:=by have f:=h.at g;unfold W6.farLoad;generalize b:w.heap[a.block]?=p at f;generalize i:v.heap[a'.block]?=o at f;cases f with|seen t m j s l _ _ e=>exact⟨_,rfl,by simp only[W6.noCell,b];rfl⟩|own n k=>cases k<;>exact⟨_,rfl,by simp only[W6.noCell,b];rfl⟩
theorem cG.within(h:cG c r w v)(f:du c r a a')(b:w.cell? a=WX x):c.seen a.block->a'.off<c.E6 a.block/\a'.spot=W9:=by intro u;have d:=h.at f;obtain⟨_,q,i,-⟩:=f;unfold W6.cell? at b;generalize m:w.heap[a.block]?=A at d b;generalize j:v.heap[a'.block]?=z at d;cases d with|seen t y o s l _ _ e=>simp only at b;split at b;{cases b};have p:=(Uk.1 b).1;exact⟨by omega,by simp_all⟩|own n k=>simp_all
theorem ab.load(d:du c r a a'):ab P c r (load a) (load a') (ai c):=by intro w v f;unfold Go.load;cases b:w.cell? a with|none=>obtain⟨k,e,j⟩:=f.Uf (P:=P) d b (Mode.plain==Mode.atomic);(have:(XE.load .plain a XE.pure).run P w=.halt k w:=by simp only[XE.run,b,e]);rw[this];exact j|some x=>obtain⟨y,i,k⟩:=f.cell d b;(have:(XE.load .plain a XE.pure).run P w=.ok x w:=by simp only[XE.run,b]);rw[this];refine⟨y,v,r,by simp only[XE.run,i],.refl f,k,λe g=>?_⟩;(have h:(XE.load .plain a' XE.pure).events P v #[]=#[⟨.cell a',Wz,Wz⟩]:=by simp only[XE.events,XE.runT,i];rfl);rw[h]at g;simp at g;subst g;exact .inl ⟨a.block,⟨d.1,f.within d b⟩,by simp,rfl⟩
theorem cG.xv(h:cG c r w v)(j:du c r a a')(b:w.cell? a=WX x)(g:w.frozen? a=Wz):∃(z i:Array W8)(t:Xo)(d:Nat×Nat),¬c.seen a.block/\w.heap[a.block]?=WX (.cells z t d)/\v.heap[a'.block]?=WX (.cells i t d)/\ak c r z i/\a.spot.isSome=Wz:=by have f:=h.at j;unfold W6.cell? at b;unfold W6.frozen? at g;generalize o:w.heap[a.block]?=u at f b g;generalize m:v.heap[a'.block]?=q at f;cases f with|seen t p d s l _ _ e=>simp_all|own n k=>cases k with|cells t d k=>grind|map _ _ _=>cases b|iter _ _=>cases b|number _ _=>cases b
theorem heap_setCell(w:W6)(a:XO)(x:W8):(w.setCell a x).heap.size=w.heap.size:=by simp[W6.setCell]
theorem lT(w:W6)(a:XO)(x:W8)(h:b≠a.block):(w.setCell a x).heap[b]?=w.heap[b]?:=by simp[W6.setCell,U9,Ne.symm h]
theorem lR(w:W6)(x:W8){z:Array W8}{fr:Nat×Nat}(h:w.heap[a.block]?=WX (.cells z t fr))(b:a.spot.isSome=Wz):(w.setCell a x).heap[a.block]?=WX (.cells (z.setIfInBounds a.off x) t fr):=by simp[W6.setCell,U9,h,b]
theorem Ext.Qe{w' v':W6}(h:cG c r w v)(p:r b=WX k)(q:¬c.seen b)(D:w'.heap[b]?=WX o)(C:v'.heap[k]?=WX o')(A:mC c r o o')(f:w'.heap.size=w.heap.size)(i:v'.heap.size=v.heap.size)(m:∀j,j≠b->w'.heap[j]?=w.heap[j]?)(s:∀j,j≠k->v'.heap[j]?=v.heap[j]?)(n:v'.tape=v.tape)(t:w'.tape=w.tape)(u:v'.drawn=w'.drawn)(y:v'.os=v.os)(z:v'.output=v.output):Ext c r w v r w' v':=by refine⟨⟨λj l a=>f▸h.qH j l a,λj l a=>i▸h.yW j l a,h.inj,h.qv,λj a B=>by rw[m j (λe=>by simp_all)];exact h.hid j a B,λj l a=>?_,by rw[n,t,h.tape],u,λj a=>by rw[f];exact h.old j a,h.aL,by rw[f,i];exact h.gZ⟩,bC.le_refl r,by omega,by omega,λ_ _=>rfl,λj _ _=>by omega,λl F E=>?_,y,z,n⟩;{by_cases d:j=b;{subst d;rw[p]at a;cases a;rw[D,C];exact .own q A};have g:l≠k:=λe=>d ((h.inj _ _ _ (e▸a) p).resolve_right λx=>q x.2);rw[m j d,s l g];exact h.blk j l a};grind
theorem ai.one(h:ai c r x y):y.oneCell'=x.oneCell':=by cases h<;>rfl
theorem ab.store(b:du c r a a')(q:ai c r x y):ab P c r (store a x) (store a' y) λ_ _ _=>True:=by intro w v f;unfold Go.store;by_cases B:x.oneCell'=WY;{(have C:y.oneCell'=WY:=by rw[q.one,B]);(have e:∀(u:W6)(p:XO)(z:W8),z.oneCell'=WY->(XE.store .plain p z (.pure ())).run P u=match u.cell? p with|some _=>if u.frozen? p then .halt (.unsupported (.unsafePointer "a write to bytes that a string shares")) u else .ok () (u.setCell p z)|none=>match u.farStore P p z Wz with|.ok (U,_)=>.ok () U|.error h=>.halt h u:=by intro u p z H;cases z<;>first|(simp[W8.oneCell']at H;done)|(rfl));rw[e w a x B];cases L:w.cell? a with|none=>have D:=f.at b;(have:∃k,w.farStore P a x Wz=.error k/\AS k=WY:=by unfold W6.farStore;generalize o:w.heap[a.block]?=Y at D;generalize S:v.heap[a'.block]?=X at D;cases D with|seen t W K s l _ _ e=>exact⟨_,rfl,by simp only[W6.noCell,o];rfl⟩|own n k=>cases k<;>exact⟨_,rfl,by simp only[W6.noCell,o];rfl⟩);obtain⟨k,N,Q⟩:=this;simp only[N];exact Q|some Z=>simp only;cases A:w.frozen? a with|true=>rfl|false=>obtain⟨z,z',t,K,d,I,J,H,i⟩:=f.xv b L A;obtain⟨y0,T,_⟩:=f.cell b L;(have m:a'.spot.isSome=Wz:=by rw[b.2.2.1];exact i);(have O:v.frozen? a'=Wz:=by unfold W6.frozen? at A⊢;rw[I]at A;rw[J];simp only[b.2.1];exact A);have g:=H.set a.off q;refine⟨(),v.setCell a' y,r,?_,?_,trivial,λV E=>?_⟩;{simp_all};{refine Ext.Qe f b.1 d (lR w x I i) (lR v y J m) ?_ (heap_setCell _ _ _) (heap_setCell _ _ _) (λj G=>lT w a x G) (λj G=>lT v a' y G) rfl rfl f.drawn rfl rfl;rw[b.2.1];exact .cells t K g};(have F:(XE.store .plain a' y (.pure ())).events P v #[]=#[⟨.cell a',WY,Wz⟩]:=by have:=events_store P v #[] a' y .plain C;unfold Go.store at this;simp_all);rw[F]at E;simp at E;subst E;exact .inl ⟨a.block,⟨b.1,λR=>absurd R d⟩,λ_=>d,rfl⟩};refine ab.never (P:=P) (c:=c) (r:=r) (λu=>?_) w v f;cases x<;>first|(simp[W8.oneCell']at B;done)|exact⟨_,_,rfl,rfl⟩
def bC.add(r:bC)(b k:Nat):bC:=λj=>if j=b then WX k else r j
theorem Ext.alloc(h:cG c r w v)(n:mC c r o o'):Ext c r w v (r.add w.heap.size v.heap.size) {w with heap:=w.heap.push o} {v with heap:=v.heap.push o'}:=by have p:=λx=>UD _ (h.old _ x);(have f:r.le (r.add w.heap.size v.heap.size):=by intro b k a;have:=h.qH b k a;unfold bC.add;grind);refine⟨⟨λb k a=>?_,λb k a=>?_,λb q k a d=>?_,h.qv,λb i a=>?_,λb k a=>?_,h.tape,h.drawn,λb a=>by have:=h.old b a;simp;omega,λb k a i=>?_,by have:=h.gZ;simp;omega⟩,f,by simp,by simp;omega,λb a=>by unfold bC.add;grind,λb a d=>?_,λk s _=>?_,rfl,rfl,rfl⟩;{unfold bC.add at a;simp;split at a;{omega};have:=h.qH b k a;omega};{unfold bC.add at a;simp;split at a;{simp_all};have:=h.yW b k a;omega};{unfold bC.add at a d;split at a<;>split at d;{omega};{cases a;have:=h.yW _ _ d;omega};{cases d;have:=h.yW _ _ a;omega};exact h.inj _ _ _ a d};{have m:=Ul i h.gZ.1;unfold bC.add at a;rw[if_neg Ω]at a;rw[US,if_neg Ω];exact h.hid b i a};{unfold bC.add at a;split at a;{rename_i e;subst e;cases a;simp only[Array.getElem?_push_size];exact .own p (n.mono f)};have j:=h.qH b k a;have l:=h.yW b k a;rw[Xn j,Xn l,<-Ut j,<-Ut l];exact(h.blk b k a).mono f};{unfold bC.add at a;have:=h.gZ;split at a;{omega};exact h.aL b k a i};{unfold bC.add;grind};grind
theorem bC.G3(r:bC)(b k:Nat):r.add b k b=WX k:=by unfold bC.add;simp
theorem ab.newObj(f:mC c r o o'):ab P c r (newObj o) (newObj o') λg b d=>g b=WX d/\c.low b=0:=by intro w v a;refine⟨v.heap.size,_,_,rfl,Ext.alloc a f,⟨bC.G3 _ _ _,a.qv _ λx=>UD _ (a.old _ x)⟩,λe h=>?_⟩;simp_all
theorem ab.newRow{x x':Array W8}(h:ak c r x x'):ab P c r (newRow t x) (newRow t x') (du c):=by refine ab.bind (ab.newObj (.cells t (0,0) h)) λe b d _ a=>ab.pure ⟨a.1,rfl,rfl,Vl a.2⟩
theorem ab.newVar(h:ai c r x x'):ab P c r (newVar t x) (newVar t x') (du c):=ab.newRow (ak.cells h)
theorem du.add{a a':XO}(h:du c r a a')(n:Nat):du c r (a.add n) (a'.add n):=by unfold XO.add;split;{exact h};exact⟨h.1,by simp[h.2.1],rfl,Uz h.2.2.2 (UZ _ _)⟩
theorem ab.loadCellsFrom(n:Nat):∀{r:bC}{a a':XO}(i:Nat){acc acc':Array W8},du c r a a'->ak c r acc acc'->ab P c r (loadCellsFrom a i n acc) (loadCellsFrom a' i n acc') (ak c):=by induction n with|zero=>intro r a a' i acc acc' e b;exact ab.pure b|succ n g=>intro r a a' i acc acc' e b;exact ab.bind (ab.load (e.add i)) λh x j d f=>g (i+1) (e.mono d) ((b.mono d).push f)
theorem ab.loadCells(b:du c r a a')(n:Nat):ab P c r (loadCells a n) (loadCells a' n) (ak c):=ab.loadCellsFrom n 0 b .empty
theorem ab.HI(i:Fits P c){g:Nat}(b:g<c.aL)(o:Nat):ab P c r (Go.load ⟨g,o,W9⟩) (Go.load ⟨g,o,W9⟩) (ai c):=by intro w v f;cases d:r g with|some k=>obtain rfl:=f.aL g k d b;exact ab.load ⟨d,rfl,rfl,Uz (Vl (i.low g b)) (UE _)⟩ w v f|none=>have h:=f.hid g b d;(have e:(Go.load ⟨g,o,W9⟩).run P w=.halt (.stuck "load: no such cell") w:=by simp[XE.run,W6.cell?,W6.farLoad,W6.noCell,h]);rw[e];exact rfl
theorem ab.tI(f:Fits P c){g:Nat}(h:g<c.aL)(n:Nat):∀{r:bC}(i:Nat){acc acc':Array W8},ak c r acc acc'->ab P c r (Go.loadCellsFrom ⟨g,0,W9⟩ i n acc) (Go.loadCellsFrom ⟨g,0,W9⟩ i n acc') (ak c):=by induction n with|zero=>intro r i acc acc' a;exact ab.pure a|succ n k=>intro r i acc acc' a;(have e:(⟨g,0,W9⟩:XO).add i=⟨g,0+i,W9⟩:=by unfold XO.add;simp_all);unfold Go.loadCellsFrom;rw[e];exact ab.bind (ab.HI f h _) λl x m b j=>k (i+1) ((a.mono b).push j)
theorem ab.Hc(a:Fits P c){g:Nat}(d:g<c.aL)(t:Xo):ab P c r (Go.loadVar t ⟨g,0,W9⟩) (Go.loadVar t ⟨g,0,W9⟩) (ai c):=by refine ab.bind (ab.cM (oz t)) λp b f k h=>?_;subst h;cases f with|false=>exact ab.HI a d 0|true=>refine ab.bind (ab.cM (bA t)) λq n o l i=>?_;subst i;exact ab.bind (ab.tI a d _ 0 .empty) λs x u m j=>ab.pure (.td j)
theorem ab.storeCells:∀{r:bC}{a a':XO}{l l':List W8}(i:Nat),du c r a a'->ak c r l.toArray l'.toArray->ab P c r (storeCells a l i) (storeCells a' l' i) λ_ _ _=>True|r,a,a',[],[],i,b,h=>ab.pure trivial|r,a,a',[],_::_,i,b,h=>by have:=h.size;grind|r,a,a',_::_,[],i,b,h=>by have:=h.size;grind|r,a,a',x::l,g::l',i,b,h=>by refine ab.bind (ab.store (b.add i) (h.el 0 x g Θ Θ)) λm _ _ d _=>?_;refine ab.storeCells (i+1) (b.mono d) ((⟨?_,λj u f k e=>?_⟩:ak c r l.toArray l'.toArray).mono d);{have:=h.size;simp_all};exact h.el (j+1) u f (by simp_all) (by simp_all)
theorem ab.loadVar(t:Xo)(d:du c r a a'):ab P c r (loadVar t a) (loadVar t a') (ai c):=by refine ab.bind (ab.cM (oz t)) λm g e b h=>?_;subst h;cases e with|false=>exact ab.load (d.mono b)|true=>refine ab.bind (ab.cM (bA t)) λo n l f i=>?_;subst i;exact ab.bind (ab.loadCells ((d.mono b).mono f) _) λp x q k j=>ab.pure (.td j)
theorem ab.storeVar(t:Xo)(j:du c r a a')(h:ai c r x x'):ab P c r (storeVar t a x) (storeVar t a' x') λ_ _ _=>True:=by refine ab.bind (ab.cM (bA t)) λg n d f k=>?_;subst k;have l:=(ak.cells h).size;have b:ab P c g (Go.storeCells a x.cells.toList) (Go.storeCells a' x'.cells.toList) λ_ _ _=>True:=ab.storeCells 0 (j.mono f) (by simpa using(ak.cells h).mono f);rw[<-l];by_cases e:x.cells.size≠d;{rw[if_pos e,if_pos e];exactλ_ _ _=>rfl};rw[if_neg e,if_neg e];exact b
theorem ab.getObj{b':Nat}(D:r b=WX b'){k:XN->XE α}{k':XN->XE β}{Q:bC->α->β->Prop}(G:∀o o',¬c.seen b->mC c r o o'->(∀x t f,o≠.cells x t f)->ab P c r (k o) (k' o') Q):ab P c r (getObj b>>=k) (getObj b'>>=k') Q:=by intro w v E;have F:=E.blk b b' D;rw[XE.run_bind];(have C:∀(u:W6)(j:Nat),(Go.getObj j).run P u=match u.heap[j]? with|some (.cells ..)=>.halt (.stuck "getObj: a row of cells") u|some o=>.ok o u|none=>.halt (.stuck "getObj: no such block") u:=by intro u j;unfold Go.getObj;simp only[XE.run];rfl);rw[C];generalize O:w.heap[b]?=U at F;generalize g:v.heap[b']?=T at F;cases F with|seen _ _ _ _ _ _ _ _=>exact rfl|own n N=>rename_i o o';cases N with|cells t S _=>exact rfl|map R L M=>have:=G _ _ n (.map R L M) (λ_ _ _ h=>by cases h) w v E;revert this;show Out P c r w v _ Q ((k _).run P w)->Out P c r w v _ Q ((k _).run P w);(cases(k _).run P w with|halt _ _=>exactλh=>h|ok a J=>rintro⟨q,B,A,H,i,z,I⟩;refine⟨q,B,A,by simp_all,i,z,λe d=>?_⟩;rw[XE.events_bind,C,g]at d;(have y:(Go.getObj b').events P v #[]=#[⟨.obj b',Wz,Wz⟩]:=by simp[Go.getObj,XE.events,XE.runT,g,XN.isChan,-XE.runT_eq]);simp only[XJ.evThen_ok]at d;rw[XE.events_acc,y]at d;rcases UT.1 d with d|d;{simp at d;subst d;exact .inl ⟨b,⟨i.le _ _ D,n⟩,by simp,rfl⟩};simp_all)|iter s p=>have:=G _ _ n (.iter s p) (λ_ _ _ h=>by cases h) w v E;revert this;show Out P c r w v _ Q ((k _).run P w)->Out P c r w v _ Q ((k _).run P w);(cases(k _).run P w with|halt _ _=>exactλh=>h|ok a J=>rintro⟨q,B,A,H,i,z,I⟩;refine⟨q,B,A,by simp_all,i,z,λe d=>?_⟩;rw[XE.events_bind,C,g]at d;(have y:(Go.getObj b').events P v #[]=#[⟨.obj b',Wz,Wz⟩]:=by simp[Go.getObj,XE.events,XE.runT,g,XN.isChan,-XE.runT_eq]);simp only[XJ.evThen_ok]at d;rw[XE.events_acc,y]at d;rcases UT.1 d with d|d;{simp at d;subst d;exact .inl ⟨b,⟨i.le _ _ D,n⟩,by simp,rfl⟩};simp_all)|number l K=>have:=G _ _ n (.number l K) (λ_ _ _ h=>by cases h) w v E;revert this;show Out P c r w v _ Q ((k _).run P w)->Out P c r w v _ Q ((k _).run P w);cases(k _).run P w with|halt _ _=>exactλh=>h|ok a J=>rintro⟨q,B,A,H,i,z,I⟩;refine⟨q,B,A,by simp_all,i,z,λe d=>?_⟩;rw[XE.events_bind,C,g]at d;(have y:(Go.getObj b').events P v #[]=#[⟨.obj b',Wz,Wz⟩]:=by simp[Go.getObj,XE.events,XE.runT,g,XN.isChan,-XE.runT_eq]);simp only[XJ.evThen_ok]at d;rw[XE.events_acc,y]at d;rcases UT.1 d with d|d;{simp at d;subst d;exact .inl ⟨b,⟨i.le _ _ D,n⟩,by simp,rfl⟩};simp_all
theorem ab.setObj{b':Nat}(i:r b=WX b')(z:¬c.seen b)(A:mC c r o o')(I:o.isChan=Wz):ab P c r (setObj b o) (setObj b' o') λ_ _ _=>True:=by intro w v k;have m:=k.blk b b' i;(have C:∀(u:W6)(j:Nat)(o:XN),(Go.setObj j o).run P u=match u.heap[j]? with|some (.cells ..)=>.halt (.stuck "setObj: a row of cells") u|some _=>.ok () {u with heap:=u.heap.setIfInBounds j o}|none=>.halt (.stuck "setObj: no such block") u:=by intro u j o;rfl);rw[C];have n:=k.qH b b' i;have y:=k.yW b b' i;(have E:o'.isChan=Wz:=by cases A<;>rfl);generalize H:w.heap[b]?=K at m;generalize g:v.heap[b']?=J at m;(have d:∀q,v.heap[b']?=WX q->(∀x t f,q≠.cells x t f)->q.isChan=Wz->Out P c r w v (Go.setObj b' o') (λ_ _ _=>True) (.ok () {w with heap:=w.heap.setIfInBounds b o}):=by intro q F G B;refine⟨(),{v with heap:=v.heap.setIfInBounds b' o'},r,?_,?_,trivial,λe p=>?_⟩;{simp_all};{exact Ext.Qe k i z (by simp[n]) (by simp[y]) A Θ Θ (λj s=>UL (Ne.symm s)) (λj s=>UL (Ne.symm s)) rfl rfl k.drawn rfl rfl};(have D:(Go.setObj b' o').events P v #[]=#[⟨.obj b',WY,Wz⟩]:=by unfold Go.setObj;simp only[XE.events,XE.runT,F];simp_all);rw[D]at p;simp at p;subst p;exact .inl ⟨b,⟨i,z⟩,λ_=>z,rfl⟩);cases m with|seen _ _ _ x _ _ _ _=>rfl|own _ h=>cases h with|cells _ _ _=>exact rfl|map _ _ _=>exact d _ g (λ_ _ _ h=>by cases h) rfl|iter _ _=>exact d _ g (λ_ _ _ h=>by cases h) rfl|number _ _=>exact d _ g (λ_ _ _ h=>by cases h) rfl
end
section
variable{c:dC}{r:bC}
def Flat(v:W8):Prop:=∀(c:dC)(r:bC),ai c r v v
theorem Flat.int(k:Xl)(n:Int):Flat (.int k n):=λ_ _=>.int k n
theorem Flat.bool(b:Bool):Flat (.bool b):=λ_ _=>.bool b
theorem Flat.string(s:ByteArray):Flat (.string s):=λ_ _=>.string s
def jC:Nat->W8->Bool
 |0,_=>Wz
 |_+1,.bool _|_+1,.int _ _|_+1,.string _|_+1,.pointer W9|_+1,.slice W9 _ _|_+1,.map W9|_+1,.nilFunc|_+1,.nilIface=>WY
 |n+1,.agg x|n+1,.tuple x=>x.all (jC n)
 |_,_=>Wz
theorem iq:∀{n:Nat}{v:W8},jC n v=WY->Flat v|0,_,h=>by simp[jC]at h|n+1,v,h=>by intro c r;cases v with|bool b=>exact .bool b|int k n=>exact .int k n|float _ _=>simp[jC]at h|complex _ _ _=>simp[jC]at h|string s=>exact .string s|pointer a=>(cases a with|none=>exact .gf|some _=>simp[jC]at h)|slice a n m=>(cases a with|none=>exact .gv n m|some _=>simp[jC]at h)|map a=>(cases a with|none=>exact .kM|some _=>simp[jC]at h)|chan _=>simp[jC]at h|func _ _ _=>simp[jC]at h|nilFunc=>exact .nilFunc|iface _ _=>simp[jC]at h|nilIface=>exact .nilIface|agg x=>simp only[jC,Array.all_eq_true]at h;refine .agg rfl λi v f a b=>?_;rw[a]at b;cases b;obtain⟨e,rfl⟩:=Uk.1 a;exact iq (h i e) c r|tuple x=>simp only[jC,Array.all_eq_true]at h;refine .tuple rfl λi v f a b=>?_;rw[a]at b;cases b;obtain⟨e,rfl⟩:=Uk.1 a;exact iq (h i e) c r
theorem ab.flat{x:XE W8}(h:bS P Flat x):ab P c r x x (ai c):=(ab.eY h).mono λd a b _⟨e,h⟩=>by subst e;exact h c d
theorem bP:bS P (λp=>p=P) program:=rfl
theorem jR(t:Xo):bS P (λi=>P.info? t=WX i) (typeInfo t):=by refine bS.bind bP λp a=>?_;subst a;cases h:p.info? t with|none=>exact rfl|some i=>exact rfl
theorem sN(t:Xo)(a:∀z,(P.info? t).bind (·.zero)=WX z->Flat z):bS P Flat (zeroValue t):=by refine bS.bind (jR t) λi b=>?_;cases h:i.zero with|none=>exact rfl|some v=>exact a v (by grind)
theorem nH(a:BinOp)(k:Xl)(x y:Int):bS P Flat (Op.intArith a k x y):=by unfold Op.intArith;split<;>first|exact .int _ _|exact rfl
theorem y4(a:BinOp)(k:Xl)(x y:Int):bS P Flat (Op.intDiv a k x y):=by unfold Op.intDiv;split;{rfl};split<;>first|exact .int _ _|exact rfl
theorem pA(a:BinOp)(k:Xl)(x y:Int):bS P Flat (Op.intBits a k x y):=by unfold Op.intBits;split<;>first|exact .int _ _|exact rfl
theorem yZ(a:BinOp)(x y:Int):bS P Flat (Op.intCmp a x y):=by unfold Op.intCmp;split<;>first|exact .bool _|exact rfl
theorem sW(a:BinOp)(k b:Xl)(x y:Int):bS P Flat (Op.shift a k x b y):=by unfold Op.shift;split;{rfl};split<;>first|exact .int _ _|exact rfl
theorem kz(a:BinOp)(x y:ByteArray):bS P Flat (Op.stringOp a x y):=by unfold Op.stringOp;split<;>first|exact .bool _|exact rfl|(split<;>first|exact .string _|exact rfl)
theorem j1{q:α->Prop}(s:String):bS P q (Go.stuck s):=rfl
theorem pN{q:α->Prop}{b:Prop}[Decidable b]{x y:XE α}(a:bS P q x)(d:bS P q y):bS P q (if b then x else y):=by grind
theorem mz(d:BinOp)(t:Xo)(k j:Xl)(a b:Int):bS P Flat (binOp d t (.int k a) (.int j b)):=by cases d<;>first|exact sW .shl k j a b|exact sW .shr k j a b|exact pN (j1 _) (nH _ _ _ _)|exact pN (j1 _) (y4 _ _ _ _)|exact pN (j1 _) (pA _ _ _ _)|exact pN (j1 _) (yZ _ _ _)
theorem jY(d:BinOp)(t:Xo)(a b:ByteArray):bS P Flat (binOp d t (.string a) (.string b)):=by(have:binOp d t (.string a) (.string b)=Op.stringOp d a b:=by cases d<;>rfl);rw[this];exact kz _ _ _
theorem ab.asBool(h:ai c r x x'):ab P c r (asBool x) (asBool x') λ_ a b=>b=a:=by cases h<;>first|exact ab.pure rfl|exact ab.stuck
theorem ab.asIntOf(h:ai c r x x'):ab P c r (asIntOf x) (asIntOf x') λ_ a b=>b=a:=by cases h<;>first|exact ab.pure rfl|exact ab.stuck|exact ab.unsupported
theorem ab.asInt(h:ai c r x x'):ab P c r (asInt x) (asInt x') λ_ a b=>b=a:=ab.bind (ab.asIntOf h) λ_ a b _ e=>ab.pure (by rw[e])
theorem ab.asAgg(h:ai c r x x'):ab P c r (asAgg x) (asAgg x') (ak c):=by cases h with|agg a b=>exact ab.pure ⟨a,b⟩|_=>exact ab.stuck
def gb(P:Xr)(x:XE α):Prop:=∀w h w',x.run P w=.halt h w'->AS h=WY
def k7(P:Xr)(x:XE α):Prop:=∀w,∃k w',x.run P w=.halt k w'/\AS k=WY
theorem bS.yr{q:α->Prop}{x:XE α}(h:bS P q x):gb P x:=by intro w k j e;rcases h.run w w rfl rfl with⟨a,d,_,b,_⟩|⟨i,f,b,g⟩;{simp_all};simp_all
theorem gb.bind{x:XE α}{f:α->XE β}(d:gb P x)(h:∀a,gb P (f a)):gb P (x>>=f):=by intro w k j e;rw[XE.run_bind]at e;cases b:x.run P w with|halt i g=>rw[b]at e;cases e;exact d _ _ _ b|ok a g=>rw[b]at e;exact h a _ _ _ e
theorem dP{x:XE α}{f:α->XE β}(e:gb P x)(h:∀a,k7 P (f a)):k7 P (x>>=f):=by intro w;rw[XE.run_bind];cases d:x.run P w with|halt k b=>exact⟨k,b,rfl,e _ _ _ d⟩|ok a b=>exact h a b
theorem gq{x:XE α}{f:α->XE β}(h:k7 P x):k7 P (x>>=f):=by intro w;obtain⟨k,b,e,a⟩:=h w;simp_all
theorem eN(a:AS h=WY:=by rfl):k7 P (XE.halt h:XE α):=λw=>⟨h,w,rfl,a⟩
theorem q7(o:XN):gb P (newObj o):=λ_ _ _ e=>by cases e
theorem dI(a:α):gb P (Pure.pure a:XE α):=λ_ _ _ e=>by cases e
theorem Bs(b:Nat):gb P (shape b):=λ_ _ _ e=>by cases e
theorem Aj(a:XO):gb P (frozen a):=λ_ _ _ e=>by cases e
theorem q9(t:Xo):lz P (elemOf t):=(aE t).bind λd=>by cases d<;>first|trivial|exact rfl
theorem dV(e:RuntimeError):k7 P (runtimePanic e:XE α):=by refine dP lO.yr λp=>?_;cases e with|typeAssertion i q a m=>exact dP (q9 _).yr λz=>dP ((q7 _).bind λ_=>dI _) λ_=>eN|panicNil=>exact dP (q9 _).yr λz=>dP ((q7 _).bind λ_=>dI _) λ_=>eN|_=>exact eN
theorem ab.runtimePanic{y:XE β}{Q:bC->α->β->Prop}:ab P c r (Go.runtimePanic e:XE α) y Q:=ab.never (dV e)
theorem pd(k:Xl)(x y:Int)(a:BoundsCode):k7 P (boundsPanic k x y a:XE α):=by unfold boundsPanic;split;{exact dP ((iA _).bind λ_=>uJ _).yr λ_=>dV _};exact dP (uJ _).yr λ_=>dV _
theorem ab.boundsPanic{k:Xl}{n m:Int}{code:BoundsCode}{y:XE β}{Q:bC->α->β->Prop}:ab P c r (Go.boundsPanic k n m code:XE α) y Q:=ab.never (pd k n m code)
theorem ab.sureAddr(h:ai c r x x'):ab P c r (Instr.sureAddr x) (Instr.sureAddr x') (du c):=by cases h with|ptr h=>exact ab.pure h|_=>exact ab.stuck
theorem ab.asAddr(h:ai c r x x'):ab P c r (asAddr x) (asAddr x') (du c):=by cases h with|ptr h=>exact ab.pure h|gf=>exact ab.runtimePanic (e:=.nilDeref)|_=>exact ab.stuck
theorem ab.part(t:Xo)(off:Nat){x x':Array W8}(h:ak c r x x'):ab P c r (part t x off) (part t x' off) (ai c):=by refine ab.bind (ab.cM (oz t)) λm g f a j=>?_;subst j;cases f with|true=>exact ab.bind (ab.cM (bA t)) λp n o i l=>by subst l;exact ab.pure (.td (((h.mono a).mono i).extract _ _))|false=>cases e:x[off]? with|none=>exact ab.stuck|some v=>obtain⟨q,d,k⟩:=(h.mono a).get e;rw[d];exact ab.pure k
theorem Ef(t:Xo)(d:∀z,(P.info? t).bind (·.zero)=WX z->Flat z):ab P c r (Instr.alloc t WY (.tuple #[])) (Instr.alloc t WY (.tuple #[])) (ai c):=by refine ab.bind (ab.flat (sN t d)) λg z j f d=>?_;exact ab.bind (ab.newVar d) λi a e _ h=>ab.pure (.ptr h)
theorem JC(t:Xo)(h:ai c r x x'):ab P c r (Instr.box t x) (Instr.box t x') (ai c):=ab.bind (ab.newVar h) λe a d _ h=>ab.pure (.ptr h)
theorem yi(d:Nat->Option (Nat×Nat)):∀(l q:List (Nat×W8)){z z':Array W8},ak c r z z'->l.map (·.1)=q.map (·.1)->ak c r (l.map (·.2)).toArray (q.map (·.2)).toArray->
 match Instr.fill d z l with|some y=>∃I,Instr.fill d z' q=WX I/\ak c r y I|none=>True
 |[],[],z,z',h,_,_=>⟨z',rfl,h⟩
 |[],_::_,_,_,_,e,_=>by simp at e
 |_::_,[],_,_,_,e,_=>by simp at e
 |(i,v)::l,(O,t)::q,z,z',h,e,w=>by
   simp only[UP,Vs]at e
   obtain⟨rfl,e⟩:=e
   have F:ai c r v t:=w.el 0 v t Θ Θ
   have A:ak c r (l.map (·.2)).toArray (q.map (·.2)).toArray:=⟨by have:=w.size;simp_all,λj u E a b=>w.el (j+1) u E (by grind) (by grind)⟩
   have M:=(ak.cells F).size
   have C:=h.size
   unfold Instr.fill
   cases d i with
   |none=>trivial
   |some p=>
     obtain⟨k,H⟩:=p
     simp only[<-M,<-C]
     split
     · rename_i y G
       split at G
       ·cases G
       · rename_i L
         rw[if_neg L]
         have D:∀(s f:List (W8×Nat))(z z':Array W8),ak c r z z'->s.map (·.2)=f.map (·.2)->ak c r (s.map (·.1)).toArray (f.map (·.1)).toArray->
          ak c r (s.foldl (λm(x:W8×Nat)=>m.setIfInBounds (k+x.2) x.1) z) (f.foldl (λm(x:W8×Nat)=>m.setIfInBounds (k+x.2) x.1) z'):=by
          intro s
          induction s with
          |nil=>simp_all
          |cons p s N=>intro f z z' C e B;cases f with
            |nil=>simp at e
            |cons Q f=>
              simp only[UP,Vs]at e
              rw[Va,Va,<-e.1]
              exact N f _ _ (C.set _ (B.el 0 _ _ Θ Θ)) e.2 ⟨by have:=B.size;simp_all,λj u E a b=>B.el (j+1) u E (by grind) (by grind)⟩
         have n:ak c r (v.cells.zipIdx.foldl (λm(x:W8×Nat)=>m.setIfInBounds (k+x.2) x.1) z) (t.cells.zipIdx.foldl (λm(x:W8×Nat)=>m.setIfInBounds (k+x.2) x.1) z'):=by
          rw[<-Array.foldl_toList,<-Array.foldl_toList]
          refine D _ _ _ _ h ?_ ?_
          ·simp_all
          · have J:(v.cells.zipIdx.toList.map (·.1)).toArray=v.cells:=by simp
            have K:(t.cells.zipIdx.toList.map (·.1)).toArray=t.cells:=by simp
            rw[J,K];exact ak.cells F
         have:=yi d l q n e A
         simp_all
     ·trivial
end
section
variable{c:dC}{r:bC}
inductive su(c:dC)(b:Nat):Option (Xo×Nat)->Option (Xo×Nat)->Prop
 |none:su c b W9 W9
 |some(t:Xo){n m:Nat}:n<=m->c.low b=0->su c b (WX (t,n)) (WX (t,m))
 |bad(t':Xo){n m:Nat}:c.low b≠0->c.aL<=b->su c b (WX (vM,n)) (WX (t',m))
theorem su.isSome{s s':Option (Xo×Nat)}(h:su c b s s'):s.isSome=s'.isSome:=by cases h<;>rfl
theorem ql{p:Xr}{d:Nat}{e:Xo}{m off:Nat}{bs:Int}{o:Nat}(h:n<=m)(a:cellAtBytes p d e n off bs=WX o):cellAtBytes p d e m off bs=WX o:=by unfold cellAtBytes at a⊢;simp only[]at a⊢;split at a;{cases a};rename_i f;rw[if_neg f];simp only[Option.bind_eq_bind]at a⊢;cases i:byteOfCell p d e (off%p.cellsOf e)with|none=>simp_all|some b=>rw[i]at a;simp only[Vf]at a⊢;split at a;{cases a};rename_i g;rw[if_neg ?_];{exact a};simp only[Vr,decide_eq_true_eq,Int.ofNat_eq_natCast]at g⊢;have:n*p.bytesOf e<=m*p.bytesOf e:=WM _ h;omega
theorem cG.shape(h:cG c r w v)(g:r b=WX k):su c b (w.shape? b) (v.shape? k):=by have d:=h.blk b k g;unfold W6.shape?;generalize w.heap[b]?=p at d;generalize v.heap[k]?=o at d;cases d with|@seen x q t m f s l z y e=>by_cases a:c.low b=0;{obtain rfl:=y.1 a;exact .some t z a};obtain⟨rfl,i⟩:=y.2 a;exact .bad m a i|own n j=>cases j with|cells t f k=>exact .some t (by simp[k.size]) (h.qv b n)|_=>exact .none
theorem ab.shape(d:r b=WX k):ab P c r (shape b) (shape k) λ_ x y=>su c b x y:=by intro w v a;exact⟨v.shape? k,v,r,rfl,.refl a,a.shape d,λe f=>by simp_all⟩
theorem ab.viewAt(f:r b=WX k):ab P c r (viewAt b) (viewAt k) λ_ x y=>x=W9/\y=W9:=by refine ab.bind (ab.shape f) λg s d h l=>?_;have a:=l.isSome;by_cases e:d.isSome=WY;{rw[a,if_pos e,if_pos e];exact ab.pure ⟨rfl,rfl⟩};rw[a,if_neg e,if_neg e];refine ab.getObj (h _ _ f) λo n _ j i=>?_;cases j with|cells t m _=>exact absurd rfl (i _ _ _)|_=>exact ab.pure ⟨rfl,rfl⟩
theorem ab.noView(d:du c r a a'):ab P c r (noView a) (noView a') λ_ _ _=>True:=by refine ab.bind (ab.viewAt d.1) λf s g e b=>?_;rw[b.1,b.2];exact ab.pure trivial
def NR(c:dC)(r:bC):Option (XO×Bool)->Option (XO×Bool)->Prop
 |none,W9=>True
 |some (a,l),WX (a',l')=>du c r a a'/\l'=l
 |_,_=>False
theorem ab.numberAt(f:r b=WX k):ab P c r (numberAt b) (numberAt k) (NR c):=by refine ab.bind (ab.shape f) λn s g h m=>?_;have d:=m.isSome;rw[d];by_cases e:g.isSome=WY;{rw[if_pos e,if_pos e];exact ab.pure trivial};rw[if_neg e,if_neg e];refine ab.getObj (h _ _ f) λo q _ j i=>?_;cases j with|cells t p _=>exact absurd rfl (i _ _ _)|number l a=>exact ab.pure ⟨a,rfl⟩|_=>exact ab.pure trivial
theorem ab.behindNumber(d:du c r a a'):ab P c r (behindNumber a) (behindNumber a') λf x y=>du c f x.1 y.1/\y.2=x.2:=by refine ab.bind (ab.numberAt d.1) λi s g e b=>ab.pure ?_;match s,g,b with|none,W9,_=>exact⟨d.mono e,rfl⟩|some (x,l),WX (j,h),b=>exact b
theorem ab.asNumber(b:du c r a a')(l:Bool):ab P c r (asNumber a l) (asNumber a' l) (ai c):=ab.bind (ab.newObj (.number l b)) λ_ _ _ _ h=>ab.pure (.ptr ⟨h.1,rfl,rfl,Vl h.2⟩)
theorem ab.byteOf(b:du c r a a')(g:c.low a.block=0\/a.block<c.aL):ab P c r (byteOf a) (byteOf a') λ_ x y=>y=x:=by have e:=b.2.2.1;unfold Go.byteOf;rw[e];cases a.spot with|some s=>exact ab.pure rfl|none=>refine ab.bind (ab.eY bP) λn p m d i=>?_;obtain⟨rfl,rfl⟩:=i;refine ab.bind (ab.noView (b.mono d)) λo _ _ f _=>?_;refine ab.bind (ab.shape ((b.mono d).mono f).1) λq s t l e=>?_;rw[b.2.1];cases e with|none=>exact ab.stuck|bad x k d=>exact absurd g Ω|some x h=>refine ab.cM ?_;simp only[];split;{trivial};split<;>first|trivial|exact rfl
theorem ab.unsafeAdd(z:Fits P c)(h:ai c r x x')(k:ai c r y y'):ab P c r (XD.unsafeAdd_ #[] t #[x,y]) (XD.unsafeAdd_ #[] t #[x',y']) (ai c):=by(have f:∀{a j:Option XO},ai c r (.pointer a) (.pointer j)->ab P c r (XD.unsafeAdd_ #[] t #[.pointer a,y]) (XD.unsafeAdd_ #[] t #[.pointer j,y']) (ai c):=by intro a j h;refine ab.bind (ab.asInt k) λF n E v A=>?_;subst A;have h:=h.mono v;simp only[];split;{cases h with|gf=>exact ab.unsupported|ptr b=>refine ab.bind (ab.viewAt b.1) λB s D l g=>?_;rw[g.1,g.2];exact ab.pure (.ptr (b.mono l))};split;{exact ab.unsupported};cases h with|gf=>exact ab.unsupported|ptr b=>refine ab.bind (ab.shape b.1) λB s D l g=>?_;cases g with|none=>exact ab.unsupported|bad x u v=>refine ab.bind (ab.eY bP) λC p i w o=>?_;obtain⟨rfl,rfl⟩:=o;(have:i.cellsOf vM=0:=by unfold Xr.cellsOf;rw[z.bad];rfl);(have:∀n d q,cellAtBytes i i.depth vM n d q=W9:=λn d q=>by unfold cellAtBytes;simp[this]);simp only[this];exact ab.unsupported|some x m u=>refine ab.bind (ab.eY bP) λC p i w o=>?_;obtain⟨rfl,rfl⟩:=o;rw[b.2.1];split;{rename_i d e;rw[ql (Nat.div_le_div_right m) e];exact ab.pure (.ptr ⟨((b.mono l).mono w).1,rfl,b.2.2.1,Uz (Vl u) (UE _)⟩)};exact ab.unsupported);cases h with|gf=>exact f .gf|ptr b=>exact f (.ptr b)|_=>exact ab.stuck
theorem ab.movedNumber(g:Fits P c)(h:ai c r x x')(k:ai c r y y'):ab P c r (movedNumber t x y) (movedNumber t x' y') (ai c):=by refine ab.bind (ab.cM (aE t)) λH d E p w=>?_;subst w;have h:=h.mono p;have k:=k.mono p;refine ab.ite (λ_ _ _ _=>rfl) λ_=>?_;cases h with|ptr u=>refine ab.bind (ab.behindNumber u) λI a i q A=>?_;obtain⟨j,o⟩:=A;obtain⟨a,l⟩:=a;subst o;refine ab.bind (ab.unsafeAdd g (.ptr j) (k.mono q)) λJ z K F B=>?_;(cases B with|ptr v=>exact ab.asNumber v _|gf=>exact ab.pure .gf|bool b=>exact ab.pure (.bool b)|int k n=>exact ab.pure (.int k n)|string s=>exact ab.pure (.string s)|gv n m=>exact ab.pure (.gv n m)|slice n m a=>exact ab.pure (.slice n m a)|cE a i=>exact ab.pure (.cE a i)|kM=>exact ab.pure .kM|map a=>exact ab.pure (.map a)|func a b d e f=>exact ab.pure (.func a b d e f)|nilFunc=>exact ab.pure .nilFunc|nilIface=>exact ab.pure .nilIface|iface t a=>exact ab.pure (.iface t a)|agg a b=>exact ab.pure (.agg a b)|tuple a b=>exact ab.pure (.tuple a b))|gf=>exact ab.unsafeAdd g .gf k|bool b=>exact ab.unsafeAdd g (.bool b) k|int C n=>exact ab.unsafeAdd g (.int C n) k|string s=>exact ab.unsafeAdd g (.string s) k|gv n m=>exact ab.unsafeAdd g (.gv n m) k|slice n m a=>exact ab.unsafeAdd g (.slice n m a) k|cE a i=>exact ab.unsafeAdd g (.cE a i) k|kM=>exact ab.unsafeAdd g .kM k|map a=>exact ab.unsafeAdd g (.map a) k|func a b d e f=>exact ab.unsafeAdd g (.func a b d e f) k|nilFunc=>exact ab.unsafeAdd g .nilFunc k|nilIface=>exact ab.unsafeAdd g .nilIface k|iface t a=>exact ab.unsafeAdd g (.iface t a) k|agg a b=>exact ab.unsafeAdd g (.agg a b) k|tuple a b=>exact ab.unsafeAdd g (.tuple a b) k
theorem ab.movedPointer(g:Fits P c)(h:ai c r x x')(k:ai c r y y'):ab P c r (movedPointer t x y) (movedPointer t x' y') (ai c):=by unfold Go.movedPointer;cases h with|ptr j=>refine ab.bind (ab.numberAt j.1) λv s q i o=>?_;(match s,q,o with|none,W9,_=>exact ab.unsafeAdd (t:=t) g (.ptr (j.mono i)) (k.mono i)|some _,WX _,_=>exactλ_ _ _=>rfl)|gf=>exact ab.unsafeAdd g .gf k|bool b=>exact ab.unsafeAdd g (.bool b) k|int p n=>exact ab.unsafeAdd g (.int p n) k|string s=>exact ab.unsafeAdd g (.string s) k|gv n m=>exact ab.unsafeAdd g (.gv n m) k|slice n m a=>exact ab.unsafeAdd g (.slice n m a) k|cE a l=>exact ab.unsafeAdd g (.cE a l) k|kM=>exact ab.unsafeAdd g .kM k|map a=>exact ab.unsafeAdd g (.map a) k|func a b d e f=>exact ab.unsafeAdd g (.func a b d e f) k|nilFunc=>exact ab.unsafeAdd g .nilFunc k|nilIface=>exact ab.unsafeAdd g .nilIface k|iface t a=>exact ab.unsafeAdd g (.iface t a) k|agg a b=>exact ab.unsafeAdd g (.agg a b) k|tuple a b=>exact ab.unsafeAdd g (.tuple a b) k
theorem ab.known{x:XE α}{y:XE β}{Q:bC->α->β->Prop}(h:(∀(i k:Nat),r i=WX k->i<c.aL->i=k)->(∀(i j k:Nat),r i=WX k->r j=WX k->i=j\/(c.seen i/\c.seen j))->ab P c r x y Q):ab P c r x y Q:=λw v a=>h a.aL a.inj w v a
theorem vi{b:XO}(d:du c r a a')(f:du c r b b')(e:a.block=b.block):a'.block=b'.block:=by have h:=f.1;rw[<-e,d.1]at h;simp_all
theorem uQ(d:∀(i k:Nat),r i=WX k->i<c.aL->i=k)(b:du c r a a')(h:a.block<c.aL):a'.block<c.aL:=by have:=d _ _ b.1 h;omega
theorem ab.twoPlaces{b:XO}(k:Fits P c)(f:du c r a a')(j:du c r b b'):ab P c r (Op.twoPlaces a b) (Op.twoPlaces a' b') λ_ x y=>y=x:=by refine ab.known λu A=>?_;refine ab.bind (ab.eY bP) λB p h i t=>?_;obtain⟨rfl,rfl⟩:=t;by_cases d:a.block=b.block;(case neg=>have m:=bne_iff_ne.2 d;rw[m];exactλ_ _ _=>rfl);(have n:(a'.block !=b'.block)=(a.block !=b.block):=by simp[d,vi f j d]);by_cases e:a.block<c.aL;(case neg=>(have q:decide (a.block>=h.globals.size)=WY:=by rw[decide_eq_true_eq,<-k.aL];omega);rw[q,VC];exactλ_ _ _=>rfl);(have o:decide (a'.block>=h.globals.size)=decide (a.block>=h.globals.size):=by rw[decide_eq_decide,<-k.aL];have:=uQ u f e;omega);rw[n,o];refine ab.ite (λ_ _ _ _=>rfl) λ_=>?_;exact ab.bind (ab.byteOf (f.mono i) (.inr e)) λC x E s v=>ab.bind (ab.byteOf ((j.mono i).mono s) (.inr (d▸e))) λD y F z w=>ab.pure (by rw[v,w])
theorem ab.addrMod(h:Fits P c){k:Xl}{n:Int}(f:du c r a a'):ab P c r (Op.addrMod k a n) (Op.addrMod k a' n) (ai c):=by refine ab.bind (ab.shape f.1) λt s y d m=>?_;cases m with|none=>exact ab.unsupported|bad x b d=>refine ab.never (gq λw=>?_);(have e:∃s,(typeInfo vM).run P w=.halt (.stuck s) w:=by unfold typeInfo;rw[XE.run_bind];simp only[program,XE.run,XJ.andThen,h.bad];simp);obtain⟨s,e⟩:=e;exact⟨_,w,e,rfl⟩|some x l b=>refine ab.bind (ab.cM (dE _)) λu i q g j=>?_;subst j;refine ab.ite (λ_ _ _ _=>rfl) λ_=>?_;exact ab.bind (ab.byteOf ((f.mono d).mono g) (.inl b)) λv z A p o=>by subst o;exact ab.pure (.int _ _)
theorem ab.addrCmp{b:XO}(f:Fits P c)(d:du c r a a')(e:du c r b b'):ab P c r (Op.addrCmp op a b) (Op.addrCmp op a' b') (ai c):=by refine ab.bind (ab.twoPlaces f d e) λj s h i g=>?_;subst g;cases op<;>first|exact ab.pure (.bool _)|exact ab.unsupported
theorem ab.addrSub{k:Xl}{b:XO}(f:Fits P c)(d:du c r a a')(e:du c r b b'):ab P c r (Op.addrSub k a b) (Op.addrSub k a' b') (ai c):=by refine ab.bind (ab.twoPlaces f d e) λi s j h g=>?_;subst g;exact ab.pure (.int _ _)
def Mm(P:Xr)(t:Xo):Bool:=match(P.info? t).map (λi:TypeInfo=>i.desc)with|some (.named "sync.copyChecker" _)=>Wz|_=>WY
def ff(P:Xr)(t:Xo):Bool:=match P.underlying t with|some (.int _)=>Mm P t|some .string|some .bool=>WY|_=>Wz
theorem zJ{q:α->Prop}{x:XE α}{f:α->XE β}(g:bS P q x)(h:∀a,q a->k7 P (f a)):k7 P (x>>=f):=by intro w;rw[XE.run_bind];rcases g.run w w rfl rfl with⟨a,d,e,b,_⟩|⟨k,j,b,i⟩;{rw[b];exact h a e _};simp_all
theorem ab.equal(H:Fits P c)(j:ff P t=WY)(h:ai c r x x')(k:ai c r y y'):ab P c r (Op.equal t x y) (Op.equal t x' y') λ_ a b=>b=a:=by show ab P c r (Op.equalIn (9999+1) t x y) (Op.equalIn (9999+1) t x' y') _;generalize(9999:Nat)=d;unfold Op.equalIn;refine ab.bind (ab.eY (x:=underlying t) (q:=λd=>P.underlying t=WX d) ?_) λr1 z J s m=>?_;{refine bS.bind bP λp v=>?_;subst v;cases h:p.underlying t with|none=>exact rfl|some i=>exact rfl};obtain⟨rfl,m⟩:=m;have h:=h.mono s;have k:=k.mono s;unfold ff at j;rw[m]at j;cases J with|bool=>(cases h<;>cases k<;>first|exact ab.stuck|exact ab.pure rfl)|string=>(cases h<;>cases k<;>first|exact ab.stuck|exact ab.pure rfl)|int q=>(cases h with|int S w=>(cases k with|int I o=>exact ab.ite (λ_=>ab.pure rfl) λ_=>ab.stuck|ptr G=>(match w with|.ofNat 0=>exact ab.pure rfl|.ofNat (_+1)=>exact ab.unsupported|.negSucc _=>exact ab.unsupported)|_=>first|exact ab.stuck|exact ab.unsupported)|ptr N=>(cases k with|int I o=>(match o with|.ofNat 0=>exact ab.pure rfl|.ofNat (_+1)=>exact ab.unsupported|.negSucc _=>exact ab.unsupported)|ptr G=>refine ab.bind (ab.behindNumber N) λr2 x x' C g=>ab.bind (ab.behindNumber (G.mono C)) λr3 y y' D l=>?_;refine ab.known λR n=>?_;have g:=g.1.mono D;have l:=l.1;refine ab.bind (ab.eY bP) λr4 p B E v=>?_;obtain⟨rfl,rfl⟩:=v;by_cases f:x.1.block=y.1.block;(case neg=>have w:(x.1.block==y.1.block)=Wz:=beq_eq_false_iff_ne.2 f;(have o:(x.1==y.1)=Wz:=by grind);simp only[w,o,VS,UK,if_false];refine ab.never (dP (dE t).yr λi=>?_);split<;>exact eN);have O:=vi g l f;(have K:(x'.1.block==y'.1.block)=(x.1.block==y.1.block):=by simp_all);by_cases e:x.1.block<c.aL;(case neg=>(have T:decide (x.1.block<B.globals.size)=Wz:=by rw[decide_eq_false_iff_not,<-H.aL];exact e);simp only[T,Bool.and_false,UK,if_false];refine ab.never (zJ (jR t) λi n=>?_);unfold Mm at j;rw[n]at j;split;{simp_all};exact eN);(have L:decide (x'.1.block<B.globals.size)=decide (x.1.block<B.globals.size):=by rw[decide_eq_decide,<-H.aL];exact⟨λ_=>e,λ_=>uQ R g e⟩);(have M:(x'.1==y'.1)=(x.1==y.1):=by obtain⟨⟨xb,xo,xs⟩,_⟩:=x;obtain⟨⟨V,W,X⟩,_⟩:=x';obtain⟨⟨yb,yo,ys⟩,_⟩:=y;obtain⟨⟨Y,Z,ys'⟩,_⟩:=y';obtain⟨s,C,D,-⟩:=g;obtain⟨S,I,k3,-⟩:=l;grind);simp only[K,L,M];refine ab.ite (λe=>?_) λ_=>?_;{(have e:x.1.block<c.aL:=by assumption);exact ab.bind (ab.byteOf (g.mono E) (.inr e)) λU u u' F Q=>ab.bind (ab.byteOf ((l.mono E).mono F) (.inr (f▸e))) λr6 z J h6 m=>ab.pure (by rw[Q,m])};refine ab.bind (ab.cM (dE t)) λU i i' F n=>?_;subst n;refine(ab.cM ?_);(split<;>first|exact rfl|(split<;>first|trivial|exact rfl))|_=>exact ab.unsupported)|gf=>cases k<;>exact ab.unsupported|_=>cases k<;>first|exact ab.stuck|exact ab.unsupported)|_=>simp at j
theorem ab.eqGuard{o2:Xz}(b:∀z,x≠.agg z)(a:x≠.nilIface)(h:ai c r x x'):ab P c r (eqGuard op t o1 o2 x y) (eqGuard op t o1 o2 x' y') λ_ _ _=>True:=by refine ab.ite (λ_=>ab.pure trivial) λ_=>?_;cases h<;>first|exact absurd rfl a|exact absurd rfl (b _)|exact ab.pure trivial
theorem j8{d:TypeDesc}(h:P.underlying t=WX d)(w:W6):(underlying t).run P w=.ok d w:=by unfold underlying;simp_all
theorem za(a:ff P t=WY)(e:(∃z,x=.agg z)\/x=.nilIface):k7 P (Op.equal t x y):=by intro w;show∃k f,(Op.equalIn (9999+1) t x y).run P w=.halt k f/\_;unfold Op.equalIn;unfold ff at a;cases b:P.underlying t with|none=>simp_all|some z=>rw[b]at a;rw[XE.run_bind,j8 b];rcases e with⟨q,rfl⟩|rfl<;>cases z<;>first|(simp at a;done)|exact⟨_,_,rfl,rfl⟩|(cases y<;>exact⟨_,_,rfl,rfl⟩)
end
def Bm:W8->Bool
 |.int ..|.string ..|.pointer ..|.float ..|.complex ..=>Wz
 |_=>WY
set_option maxHeartbeats 4000000 in theorem yF(a:BinOp)(t:Xo)(x y:W8)(b:¬(a=.eql\/a=.neq))(c:Bm x=WY):∃h:Halt,binOp a t x y=.halt h/\AS h=WY:=by(cases a<;>first|exact absurd (.inl rfl) b|exact absurd (.inr rfl) b|skip);all_goals(cases x<;>first|(simp[Bm]at c;done)|skip);all_goals(cases y<;>exact⟨_,rfl,rfl⟩)
section
variable{c:dC}{r:bC}
theorem oS(a:ff P t=WY)(n:Nat):P.eqGuardType (n+1) t=Wz:=by unfold ff at a;unfold Xr.eqGuardType;grind
theorem w7{o2:Xz}(l:ff P t=WY)(m:(∃z,x=.agg z)\/x=.nilIface):gb P (eqGuard op t o1 o2 x y):=by
 have a:∀n:Nat,gb P (Op.eqGuardIn (n+1) t .nilIface .nilIface):=λn=>by
  unfold Op.eqGuardIn
  exact gb.bind (aE t).yr λd=>by cases d<;>exact dI _
 have g:gb P (match x,y with
  |.nilIface,.nilIface=>(do
    if(o1 matches .const _)||(o2 matches .const _)then return
    if<-Op.eqGuardIn Op.maxDepth t x y then unsupported (.noEntry "binop/eql: two nil values of an interface type with methods, neither of them the literal nil"):XE Unit)
  |.agg _,.agg _=>(do
    if !(<-program).eqGuardType (<-program).depth t then return
    if<-Op.eqGuardIn Op.maxDepth t x y then unsupported (.noEntry "binop/eql: two nil values of an interface type with methods, in a part of a struct or an array"):XE Unit)
  |_,_=>pure ()):=by
  rcases m with⟨z,rfl⟩|rfl
  ·cases y with
    |agg u=>
      refine bS.yr (q:=λ_=>True) (bS.bind bP λp k=>bS.bind bP λj f=>?_)
      subst k f
      rw[show j.eqGuardType j.depth t=Wz from oS l _]
      exact trivial
    |_=>exact dI _
  ·cases y with
    |nilIface=>
      by_cases i:((match o1 with|.const _=>WY|_=>Wz)||(match o2 with|.const _=>WY|_=>Wz))=WY
      ·simp only[i,if_true];exact dI _
      · simp only[i,if_false,UK]
        exact gb.bind (a 9999) λb=>by
         cases b
         ·exact dI _
         ·exactλw h o e=>by cases e;rfl
    |_=>exact dI _
 cases op<;>first|exact g|exact dI _
set_option maxHeartbeats 1000000 in theorem Dh{o2:Xz}(hc:Fits P c)(ht:(op=.eql\/op=.neq)->ff P t=WY)(h:ai c r x x')(k:ai c r y y'):ab P c r (do eqGuard op t o1 o2 x y;binOp op t x y) (do eqGuard op t o1 o2 x' y';binOp op t x' y') (ai c):=by by_cases he:op=.eql\/op=.neq;{have ht:=ht he;by_cases hx:(∃z,x=.agg z)\/x=.nilIface;{refine ab.never (dP (w7 ht hx) λ_=>?_);have:∀f:Bool->XE W8,k7 P (Op.equal t x y>>=f):=λf=>gq (za (P:=P) (y:=y) ht hx);rcases hx with⟨z,rfl⟩|rfl<;>rcases he with rfl|rfl<;>(cases y<;>exact this _)};(have heq:∀{r:bC},ai c r x x'->ai c r y y'->ab P c r (binOp op t x y) (binOp op t x' y') (ai c):=by intro r h k;have key:=ab.equal hc ht h k;cases h with|int k1 n1=>(cases k with|int k2 n2=>exact ab.flat (mz _ _ _ _ _ _)|_=>rcases he with rfl|rfl<;>exact ab.bind key λ_ _ _ _ e=>by subst e;exact ab.pure (.bool _))|string s1=>(cases k with|string s2=>exact ab.flat (jY _ _ _ _)|_=>rcases he with rfl|rfl<;>exact ab.bind key λ_ _ _ _ e=>by subst e;exact ab.pure (.bool _))|_=>rcases he with rfl|rfl<;>exact ab.bind key λ_ _ _ _ e=>by subst e;exact ab.pure (.bool _));exact ab.bind (ab.eqGuard (λz e=>hx (.inl ⟨z,e⟩)) (λe=>hx (.inr e)) h) λr1 _ _ h1 _=>heq (h.mono h1) (k.mono h1)};(have e0:∀x y:W8,(do eqGuard op t o1 o2 x y;binOp op t x y)=binOp op t x y:=by intro x y;cases op<;>first|rfl|exact absurd (.inl rfl) he|exact absurd (.inr rfl) he);rw[e0,e0];clear e0;by_cases hx:Bm x=WY;{obtain⟨h',e,hh⟩:=yF op t x y he hx;rw[e];exact ab.halt hh};cases h with|int k1 n1=>(cases k with|int k2 n2=>exact ab.flat (mz _ _ _ _ _ _)|ptr hb=>(cases op<;>first|exact ab.unsupported|exact absurd (.inl rfl) he|exact absurd (.inr rfl) he|exact ab.movedNumber hc (.ptr hb) (.int _ _)|exact ab.bind (ab.behindNumber hb) λr1 z z' h1 hz=>ab.addrMod hc hz.1)|gf=>(cases op<;>first|exact ab.unsupported|exact absurd (.inl rfl) he|exact absurd (.inr rfl) he|exact ab.movedNumber hc .gf (.int _ _))|_=>cases op<;>first|exact ab.stuck|exact absurd (.inl rfl) he|exact absurd (.inr rfl) he)|string s1=>(cases k with|string s2=>exact ab.flat (jY _ _ _ _)|_=>cases op<;>first|exact ab.stuck|exact ab.unsupported|exact absurd (.inl rfl) he|exact absurd (.inr rfl) he)|ptr ha=>(cases k with|int k2 n2=>(cases op<;>first|exact ab.unsupported|exact absurd (.inl rfl) he|exact absurd (.inr rfl) he|exact ab.movedNumber hc (.ptr ha) (.int _ _)|exact ab.bind (ab.behindNumber ha) λr1 z z' h1 hz=>ab.addrMod hc hz.1|(refine ab.bind (ab.cM (aE t)) λr1 d d' h1 hd=>?_;subst hd;exact ab.ite (λ_=>ab.movedPointer hc (.ptr (ha.mono h1)) (.int _ _)) λ_=>ab.movedNumber hc (.ptr (ha.mono h1)) (.int _ _)))|ptr hb=>(cases op<;>first|exact ab.unsupported|exact absurd (.inl rfl) he|exact absurd (.inr rfl) he|exact ab.bind (ab.behindNumber ha) λr1 z z' h1 hz=>ab.bind (ab.behindNumber (hb.mono h1)) λr2 u u' h2 hu=>ab.addrSub hc (hz.1.mono h2) hu.1|exact ab.bind (ab.behindNumber ha) λr1 z z' h1 hz=>ab.bind (ab.behindNumber (hb.mono h1)) λr2 u u' h2 hu=>ab.addrCmp hc (hz.1.mono h2) hu.1)|_=>cases op<;>first|exact ab.stuck|exact ab.unsupported|exact absurd (.inl rfl) he|exact absurd (.inr rfl) he)|gf=>(cases k with|int k2 n2=>(cases op<;>first|exact ab.unsupported|exact absurd (.inl rfl) he|exact absurd (.inr rfl) he|exact ab.movedNumber hc .gf (.int _ _)|(refine ab.bind (ab.cM (aE t)) λr1 d d' h1 hd=>?_;subst hd;exact ab.ite (λ_=>ab.movedPointer hc .gf (.int _ _)) λ_=>ab.movedNumber hc .gf (.int _ _)))|_=>cases op<;>first|exact ab.stuck|exact ab.unsupported|exact absurd (.inl rfl) he|exact absurd (.inr rfl) he)|_=>exact absurd rfl hx
end
section
variable{c:dC}{r:bC}
theorem aX(t:Xo):bS P (λd=>P.underlying t=WX d) (underlying t):=by refine bS.bind bP λp a=>?_;subst a;cases h:p.underlying t with|none=>exact rfl|some i=>exact rfl
theorem xH(t:Xo):bS P (λn=>P.cellsOf t=n) (sizeOf t):=by refine bS.bind (jR t) λi a=>?_;show P.cellsOf t=i.size;unfold Xr.cellsOf;grind
theorem BF(t:Xo)(h:ai c r x x'):ab P c r (Instr.loadAt t x) (Instr.loadAt t x') (ai c):=ab.bind (ab.sureAddr h) λ_ _ _ _ b=>ab.loadVar t b
theorem x4(t:Xo)(h:ai c r x x')(k:ai c r y y'):ab P c r (Instr.storeAt t x y) (Instr.storeAt t x' y') λ_ _ _=>True:=ab.bind (ab.sureAddr h) λ_ _ _ b d=>ab.storeVar t d (k.mono b)
theorem Dr{op:UnOp}(h:ai c r x x'):ab P c r (Op.unary op x) (Op.unary op x') (ai c):=by cases h with|bool b=>(cases op<;>first|exact ab.pure (.bool _)|exact ab.stuck)|int k n=>(cases op with|neg=>exact ab.flat (nH .sub k 0 n)|xor=>exact ab.flat (pA .xor k (if k.signed then-1 else k.max) n)|_=>exact ab.stuck)|ptr a=>(cases op<;>first|exact ab.unsupported|exact ab.stuck)|_=>cases op<;>exact ab.stuck
theorem zH(n:Nat)(h:ai c r x x'):ab P c r (Instr.extract x n) (Instr.extract x' n) (ai c):=by cases h with|tuple s e=>rename_i z f;unfold Instr.extract;(cases b:z[n]? with|none=>simp only[b];exact ab.stuck|some v=>obtain⟨g,d,k⟩:=(ak.mk s e).get b;simp only[b,d];exact ab.pure k)|_=>exact ab.stuck
theorem yI(s:Xo)(n:Nat)(u:∀fs f,P.underlying s=WX (.struct fs)->fs[n]?=WX f->P.cellsOf f.type≠0)(h:ai c r x x'):ab P c r (Instr.fieldAt s x n) (Instr.fieldAt s x' n) (ai c):=by refine ab.bind (ab.eY (aX s)) λz d k l e=>?_;obtain⟨rfl,e⟩:=e;cases k with|struct fs=>simp only[];(cases t:fs[n]? with|none=>exact ab.stuck|some f=>refine ab.bind (ab.sureAddr (h.mono l)) λv a j w p=>?_;(have i:ab P c v (fieldPlace a f) (fieldPlace j f) (du c):=by refine ab.bind (ab.eY (xH f.type)) λA m y o g=>?_;obtain⟨rfl,g⟩:=g;have:=u fs f e t;rw[g]at this;rw[if_neg this,if_neg this];exact ab.pure ((p.mono o).add _));exact ab.bind i λ_ _ _ _ q=>ab.pure (.ptr q))|_=>exact ab.stuck
theorem DC(t:Xo)(n:Nat)(h:ai c r x x'):ab P c r (Instr.field t x n) (Instr.field t x' n) (ai c):=by refine ab.bind (ab.cM (aE t)) λl d b g j=>?_;subst j;cases b with|struct e=>simp only[];(cases k:e[n]? with|none=>exact ab.stuck|some f=>exact ab.bind (ab.asAgg (h.mono g)) λ_ _ _ _ i=>ab.part _ _ i)|_=>exact ab.stuck
theorem Dq(t:Xo)(h:ai c r x x')(k:ai c r y y'):ab P c r (Instr.index t x y) (Instr.index t x' y') (ai c):=by refine ab.bind (ab.asIntOf k) λB z v j q=>?_;subst q;obtain⟨w,i⟩:=v;refine ab.bind (ab.cM (aE t)) λC d g l o=>?_;subst o;have h:=(h.mono j).mono l;cases h with|agg s e=>(cases g with|array u f=>refine ab.ite (λ_=>?_) λ_=>ab.boundsPanic;exact ab.bind (ab.cM (bA f)) λD m A n p=>by subst p;exact ab.part _ _ ((ak.mk s e).mono n)|_=>exact ab.stuck)|string s=>(cases g with|string=>simp only[];(cases(if 0<=i then s[i.toNat]? else W9)with|none=>exact ab.boundsPanic|some b=>exact ab.pure (.int _ _))|_=>exact ab.stuck)|_=>cases g<;>exact ab.stuck
theorem zf(t:Xo)(h:ai c r x x')(k:ai c r y y'):ab P c r (Instr.indexAt t x y) (Instr.indexAt t x' y') (ai c):=by unfold Instr.indexAt;refine ab.bind (ab.asIntOf k) λY z V N T=>?_;subst T;obtain⟨X,i⟩:=V;refine ab.bind (ab.cM (aE t)) λZ d M O R=>?_;subst R;have h:=(h.mono N).mono O;let F(U:bC)(a b:Option XO×Nat×Xo):Prop:=ai c U (.pointer a.1) (.pointer b.1)/\b.2=a.2;cases M with|array B f=>refine ab.bind (ab.sureAddr h) λr3 a I W v=>ab.bind (Q:=F) (ab.pure ⟨.ptr v,rfl⟩) λC a b s q=>?_;obtain⟨w,B,f⟩:=a;obtain⟨o,l⟩:=b;obtain⟨g,e⟩:=q;simp only at e g;subst e;refine ab.bind (ab.cM (x:=underlying t) (aE t)) λC u H s A=>?_;subst A;have g:=g.mono s;(cases g with|gf=>exact ab.boundsPanic|ptr v=>refine ab.ite (λ_=>?_) λ_=>?_;{exact ab.bind (ab.cM (bA f)) λL m J D E=>by subst E;exact ab.pure (.ptr ((v.mono D).add _))};exact ab.ite (λ_ _ _ _=>rfl) λ_=>ab.boundsPanic)|slice f=>(cases h with|gv n m=>refine ab.bind (Q:=F) (ab.pure ⟨.gf,rfl⟩) λC a b s q=>?_;obtain⟨w,B,f⟩:=a;obtain⟨o,l⟩:=b;obtain⟨g,e⟩:=q;simp only at e g;subst e;refine ab.bind (ab.cM (x:=underlying t) (aE t)) λC u H s A=>?_;subst A;have g:=g.mono s;(cases g with|gf=>exact ab.boundsPanic|ptr v=>refine ab.ite (λ_=>?_) λ_=>?_;{exact ab.bind (ab.cM (bA f)) λL m J D E=>by subst E;exact ab.pure (.ptr ((v.mono D).add _))};exact ab.ite (λ_ _ _ _=>rfl) λ_=>ab.boundsPanic)|slice n m v=>refine ab.bind (Q:=F) (ab.pure ⟨.ptr v,rfl⟩) λC a b s q=>?_;obtain⟨w,B,f⟩:=a;obtain⟨o,l⟩:=b;obtain⟨g,e⟩:=q;simp only at e g;subst e;refine ab.bind (ab.cM (x:=underlying t) (aE t)) λC u H s A=>?_;subst A;have g:=g.mono s;(cases g with|gf=>exact ab.boundsPanic|ptr v=>refine ab.ite (λ_=>?_) λ_=>?_;{exact ab.bind (ab.cM (bA f)) λL m J D E=>by subst E;exact ab.pure (.ptr ((v.mono D).add _))};exact ab.ite (λ_ _ _ _=>rfl) λ_=>ab.boundsPanic)|cE a I=>refine ab.bind (Q:=λ_ p K=>p=(WX a,0,f)/\K=(WX I,0,f)) (ab.pure ⟨rfl,rfl⟩) λC p K s S=>?_;obtain⟨rfl,rfl⟩:=S;refine ab.bind (ab.cM (x:=underlying t) (aE t)) λC u H s A=>?_;subst A;refine ab.ite (λG=>?_) λ_=>ab.ite (λ_ _ _ _=>rfl) λ_=>ab.boundsPanic;simp at G;omega|_=>exactλ_ _ _=>rfl)|_=>cases h<;>exactλ_ _ _=>rfl
theorem xB{fn:Fn}(b:G9 c fn=WY){x x' y y':Array W8}(h:ak c r x x')(k:ak c r y y'):ab P c r (Instr.makeFunc fn x y) (Instr.makeFunc fn x' y') (ai c):=ab.pure (.func b h.size h.el k.size k.el)
theorem ab.sliceBound(y:Nat)(e:BoundsCode)(h:ai c r x x'):ab P c r (Instr.sliceBound x y e) (Instr.sliceBound x' y e) λ_ a b=>b=a/\a<=y:=by refine ab.bind (ab.asIntOf h) λj z k g f=>?_;subst f;exact ab.ite (λi=>ab.pure ⟨rfl,by omega⟩) λ_=>ab.boundsPanic
def j5(c:dC)(r:bC):Option W8->Option W8->Prop
 |none,W9=>True
 |some x,WX y=>ai c r x y
 |_,_=>False
theorem j5.mono{r r':bC}(h:r.le r'):∀{x y:Option W8},j5 c r x y->j5 c r' x y|none,W9,_=>trivial|some _,WX _,k=>ai.mono h k
theorem ab.sliceBounds(f:Bool)(k j:Nat){mx:Option W8}(i:j5 c r lo lo')(m:j5 c r hi hi')(s:j5 c r mx mx'):ab P c r (Instr.sliceBounds f k j lo hi mx) (Instr.sliceBounds f k j lo' hi' mx') λ_ a b=>b=a/\(k=0->j=0->a=(0,0,0)):=by match mx,mx',s with|none,W9,_=>refine ab.bind (Q:=λ_ a b=>b=a/\a<=_) (ab.pure ⟨rfl,Uj _⟩) λy z h l e=>?_;obtain⟨rfl,x⟩:=e;(match hi,hi',m with|none,W9,_=>refine ab.bind (Q:=λ_ a b=>b=a/\a<=_) (ab.pure ⟨rfl,Uj _⟩) λv z h o e=>?_;obtain⟨rfl,u⟩:=e;(match lo,lo',i with|none,W9,_=>refine ab.bind (Q:=λ_ a b=>b=a/\a<=_) (ab.pure ⟨rfl,Uj _⟩) λq z h p e=>?_;obtain⟨rfl,n⟩:=e;exact ab.pure ⟨rfl,λa b=>by simp_all⟩|some a,WX t,i=>refine ab.bind (ab.sliceBound _ _ (ai.mono o (ai.mono l i))) λq z h p e=>?_;obtain⟨rfl,n⟩:=e;exact ab.pure ⟨rfl,λa b=>by simp_all⟩)|some b,WX w,m=>refine ab.bind (ab.sliceBound _ _ (ai.mono l m)) λv z h o e=>?_;obtain⟨rfl,u⟩:=e;match lo,lo',i with|none,W9,_=>refine ab.bind (Q:=λ_ a b=>b=a/\a<=_) (ab.pure ⟨rfl,Uj _⟩) λq z h p e=>?_;obtain⟨rfl,n⟩:=e;exact ab.pure ⟨rfl,λa b=>by simp_all⟩|some a,WX t,i=>refine ab.bind (ab.sliceBound _ _ (ai.mono o (ai.mono l i))) λq z h p e=>?_;obtain⟨rfl,n⟩:=e;exact ab.pure ⟨rfl,λa b=>by simp_all⟩)|some d,WX A,s=>refine ab.bind (ab.sliceBound _ _ s) λy z h l e=>?_;obtain⟨rfl,x⟩:=e;match hi,hi',m with|none,W9,_=>exactλ_ _ _=>rfl|some b,WX w,m=>refine ab.bind (ab.sliceBound _ _ (ai.mono l m)) λv z h o e=>?_;obtain⟨rfl,u⟩:=e;match lo,lo',i with|none,W9,_=>refine ab.bind (Q:=λ_ a b=>b=a/\a<=_) (ab.pure ⟨rfl,Uj _⟩) λq z h p e=>?_;obtain⟨rfl,n⟩:=e;exact ab.pure ⟨rfl,λa b=>by simp_all⟩|some a,WX t,i=>refine ab.bind (ab.sliceBound _ _ (ai.mono o (ai.mono l i))) λq z h p e=>?_;obtain⟨rfl,n⟩:=e;exact ab.pure ⟨rfl,λa b=>by simp_all⟩
theorem El(t:Xo){mx:Option W8}(h:ai c r x x')(k:j5 c r lo lo')(o:j5 c r hi hi')(p:j5 c r mx mx'):ab P c r (Instr.slice t x lo hi mx) (Instr.slice t x' lo' hi' mx') (ai c):=by unfold Instr.slice;refine ab.bind (ab.cM (aE t)) λK d y v A=>?_;subst A;have h:=h.mono v;have k:=k.mono v;have o:=o.mono v;have p:=p.mono v;(have J:mx'.isSome=mx.isSome:=by match mx,mx',p with|none,W9,_=>rfl|some _,WX _,_=>rfl);cases y with|string=>(cases h with|string s=>simp only[J];refine ab.ite (λ_ _ _ _=>rfl) λ_=>?_;exact ab.bind (ab.sliceBounds _ _ _ k o (show j5 c K W9 W9 from trivial)) λ_ _ _ _ e=>by obtain⟨rfl,_⟩:=e;exact ab.pure (.string _)|_=>exact ab.stuck)|slice b=>(cases h with|gv n m=>refine ab.bind (ab.sliceBounds _ _ _ k o p) λC z u j e=>?_;obtain⟨rfl,_⟩:=e;refine ab.bind (ab.cM (bA b)) λD q B i e=>?_;subst e;refine ab.pure ?_;split<;>exact .gv _ _|slice n m g=>refine ab.bind (ab.sliceBounds _ _ _ k o p) λC z u j e=>?_;obtain⟨rfl,_⟩:=e;refine ab.bind (ab.cM (bA b)) λD q B i e=>?_;subst e;refine ab.pure ?_;have g:=(g.mono j).mono i;split;{exact .slice _ _ g};exact .slice _ _ (g.add _)|cE a G=>refine ab.bind (ab.sliceBounds _ _ _ k o p) λC z u j e=>?_;obtain⟨rfl,e⟩:=e;obtain rfl:=e rfl rfl;refine ab.bind (ab.cM (bA b)) λD q B i e=>?_;subst e;refine ab.pure ?_;split<;>exact .cE _ _|_=>exact ab.stuck)|pointer w=>refine ab.bind (ab.asAddr h) λC a G j g=>?_;refine ab.bind (ab.cM (aE w)) λD d y i A=>?_;subst A;(cases y with|array n b=>refine ab.bind (ab.sliceBounds _ _ _ ((k.mono j).mono i) ((o.mono j).mono i) ((p.mono j).mono i)) λL z u H e=>?_;obtain⟨rfl,_⟩:=e;refine ab.bind (ab.cM (bA b)) λM q B I e=>?_;obtain⟨rfl,_⟩:=e;refine ab.pure ?_;have g:=((g.mono i).mono H).mono I;split;{exact .slice _ _ g};exact .slice _ _ (g.add _)|_=>exact ab.stuck)|_=>cases h<;>exact ab.stuck
theorem yt(t:Xo){mx:Option W8}(h:ai c r x x')(m:j5 c r lo lo')(o:j5 c r hi hi')(p:j5 c r mx mx'):ab P c r (Instr.sliceAt t x lo hi mx) (Instr.sliceAt t x' lo' hi' mx') (ai c):=by refine ab.bind (ab.cM (aE t)) λE d s f w=>?_;subst w;have k:=El (P:=P) t (h.mono f) (m.mono f) (o.mono f) (p.mono f);cases s with|array n g=>refine ab.bind (ab.sureAddr (h.mono f)) λF a A j i=>?_;refine ab.bind (ab.sliceBounds _ _ _ ((m.mono f).mono j) ((o.mono f).mono j) ((p.mono f).mono j)) λG z y u e=>?_;obtain⟨rfl,_⟩:=e;refine ab.bind (ab.cM (bA g)) λH q D v e=>?_;subst e;refine ab.pure ?_;have i:=(i.mono u).mono v;split;{exact .slice _ _ i};exact .slice _ _ (i.add _)|_=>exact k
end
section
variable{c:dC}{r:bC}
def jI(P:Xr)(t:Xo):Bool:=match(P.info? t).bind (·.zero)with|some z=>jC 100 z|none=>WY
theorem vq(h:jI P t=WY):∀z,(P.info? t).bind (·.zero)=WX z->Flat z:=λz a=>by unfold jI at h;rw[a]at h;exact iq h
theorem Flat.vs(h:Flat z)(c:dC)(r:bC):ak c r z.cells z.cells:=ak.cells (h c r)
theorem ab.zero(h:jI P t=WY):ab P c r (zeroValue t) (zeroValue t) λ_ a b=>b=a/\Flat a:=ab.eY (sN t (vq h))
theorem An(h:jI P t=WY):ab P c r (Instr.alloc t WY (.tuple #[])) (Instr.alloc t WY (.tuple #[])) (ai c):=Ef t (vq h)
structure AN(c:dC)(r:bC)(x x':Array (Nat×W8)):Prop where
 idx:x.toList.map (·.1)=x'.toList.map (·.1)
 val:ak c r (x.toList.map (·.2)).toArray (x'.toList.map (·.2)).toArray
theorem AN.mono{r r':bC}(h:r.le r'){x x':Array (Nat×W8)}(k:AN c r x x'):AN c r' x x':=⟨k.idx,k.val.mono h⟩
theorem lH(a:Nat->Option (Nat×Nat)){x x':Array (Nat×W8)}(h:AN c r x x'){z z':Array W8}(e:ak c r z z'):Instr.fill a z x.toList=Option.none\/∃y d,Instr.fill a z x.toList=WX y/\Instr.fill a z' x'.toList=WX d/\ak c r y d:=by have:=yi a x.toList x'.toList e h.idx h.val;grind
theorem Er(l:List ε)(f:ε->XE ζ)(h:∀x∈l,lz P (f x)):lz P (l.mapM f):=by induction l with|nil=>trivial|cons x l b=>rw[List.mapM_cons];exact(h x Θ).bind λ_=>(b λy a=>h y (by simp[a])).bind λ_=>trivial
theorem AF(l:Array ε)(f:ε->XE ζ)(h:∀x∈l,lz P (f x)):lz P (l.mapM f):=by rw[Array.mapM_eq_mapM_toList];exact lz.bind (Er _ _ λx a=>h x (by simp_all)) λ_=>trivial
theorem Ek(B:jI P t=WY){x x':Array (Nat×W8)}(h:AN c r x x'):ab P c r (Instr.build t x) (Instr.build t x') (ai c):=by unfold Instr.build;refine ab.bind (ab.zero B) λD z F q g=>?_;obtain⟨rfl,g⟩:=g;refine ab.bind (ab.cM (aE t)) λE d v s A=>?_;subst A;cases v with|struct w=>refine ab.bind (ab.cM (AF w _ λf _=>(bA f.type).bind λ_=>trivial)) λp u j m o=>?_;subst o;rcases lH (j[·]?) (((h.mono q).mono s).mono m) (g.vs c p)with e|⟨y,C,e,l,k⟩;{simp only[e];exact ab.stuck};simp only[e,l];exact ab.pure (.td k)|array n b=>refine ab.bind (ab.cM (bA b)) λp u j m o=>?_;subst o;rcases lH (λi=>WX (i*j,j)) (((h.mono q).mono s).mono m) (g.vs c p)with e|⟨y,C,e,l,k⟩;{simp only[e];exact ab.stuck};simp only[e,l];exact ab.pure (.td k)|_=>exact ab.stuck
theorem ak.range{x x':Array W8}(h:ak c r x x')(n:Nat):ak c r ((Array.range n).map (x[·%x.size]!)) ((Array.range n).map (x'[·%x'.size]!)):=by refine ak.map _ _ _ λi _=>?_;rw[<-h.size];rw[Xq,Xq];exact h.getD _ (by exact .bool Wz)
theorem tq(E:∀e,P.underlying t=WX (.slice e)->jI P e=WY){x x':Array (Nat×W8)}(h:AN c r x x'):ab P c r (Instr.buildSlice t n x) (Instr.buildSlice t n x') (ai c):=by unfold Instr.buildSlice;refine ab.bind (ab.eY (aX t)) λH d B u s=>?_;obtain⟨rfl,s⟩:=s;cases B with|slice l=>refine ab.bind (ab.cM (bA l)) λI m j v D=>?_;subst D;refine ab.ite (λ_ _ _ _=>rfl) λ_=>?_;refine ab.ite (λ_=>?_) λ_=>?_;{refine ab.bind (Q:=λ_ a b=>b=a/\∀r,ak c r a a) (ab.pure ⟨rfl,λ_=>.empty⟩) λw z A p g=>?_;obtain⟨rfl,g⟩:=g;rcases lH (λi=>WX (i*j,j)) (((h.mono u).mono v).mono p) (ak.range (g w) (n*j))with e|⟨y,G,e,o,k⟩;{simp only[e];exact ab.stuck};simp only[e,o];exact ab.bind (ab.newRow k) λ_ _ _ _ q=>ab.pure (.slice _ _ q)};refine ab.bind (ab.zero (E _ s)) λw z A p g=>?_;obtain⟨rfl,g⟩:=g;refine ab.bind (Q:=λ_ a b=>b=a/\∀r,ak c r a a) (ab.pure ⟨rfl,λr=>g.vs c r⟩) λF z A C g=>?_;obtain⟨rfl,g⟩:=g;rcases lH (λi=>WX (i*j,j)) (((h.mono u).mono v).mono (bC.le_trans p C)) (ak.range (g F) (n*j))with e|⟨y,G,e,o,k⟩;{simp only[e];exact ab.stuck};simp only[e,o];exact ab.bind (ab.newRow k) λ_ _ _ _ q=>ab.pure (.slice _ _ q)|_=>exact ab.stuck
theorem yy:ab P c r (Instr.makeMap t W9) (Instr.makeMap t W9) (ai c):=ab.bind (ab.newObj (.map 0 rfl λi e b h=>by simp at h)) λ_ _ _ _ h=>ab.pure (.map h.1)
theorem ab.nt{f:α->XE β}{y:XE γ}{Q:bC->β->γ->Prop}:ab P c r (Go.runtimePanic e>>=f) y Q:=ab.never (gq (dV e))
theorem ui(C:∀e,P.underlying t=WX (.slice e)->jI P e=WY)(h:ai c r x x')(k:ai c r y y'):ab P c r (Instr.makeSlice t x y) (Instr.makeSlice t x' y') (ai c):=by unfold Instr.makeSlice;refine ab.bind (ab.eY (aX t)) λN d s o m=>?_;obtain⟨rfl,m⟩:=m;cases s with|slice j=>refine ab.bind (ab.asInt (h.mono o)) λO a E u l=>?_;subst l;refine ab.bind (ab.asInt ((k.mono o).mono u)) λR b F G w=>?_;subst w;refine ab.bind (ab.cM (dE j)) λS i L H A=>?_;subst A;simp only[];refine ab.ite (λ_=>?_) λ_=>?_;{refine ab.ite (λ_=>ab.nt) λ_=>?_;refine ab.ite (λ_=>ab.nt) λ_=>?_;exact ab.bind (ab.cM (iA _)) λ_ _ _ _ _=>ab.nt};refine ab.bind (ab.cM (pL _)) λT _ _ I _=>?_;refine ab.bind (ab.cM (bA j)) λU n M J B=>?_;subst B;refine ab.ite (λ_=>?_) λ_=>?_;{refine ab.bind (Q:=λ_ a b=>b=a/\∀r,ak c r a a) (ab.pure ⟨rfl,λ_=>.empty⟩) λp z q v g=>?_;obtain⟨rfl,g⟩:=g;exact ab.bind (ab.newRow (ak.range (g p) _)) λ_ _ _ _ l=>ab.pure (.slice _ _ l)};refine ab.bind (ab.zero (C _ m)) λp z q v g=>?_;obtain⟨rfl,g⟩:=g;refine ab.bind (Q:=λ_ a b=>b=a/\∀r,ak c r a a) (ab.pure ⟨rfl,λr=>g.vs c r⟩) λD z q K g=>?_;obtain⟨rfl,g⟩:=g;exact ab.bind (ab.newRow (ak.range (g D) _)) λ_ _ _ _ l=>ab.pure (.slice _ _ l)|_=>exact ab.stuck
end
section
variable{c:dC}{r:bC}
theorem K6(ats:Array Xo)(t:Xo){x x':Array W8}(h:ak c r x x'):ab P c r (XD.len_ ats t x) (XD.len_ ats t x') (ai c):=by unfold XD.len_;cases ats[0]? with|none=>exact ab.stuck|some s=>cases w:x[0]? with|none=>exact ab.stuck|some v=>obtain⟨D,e,k⟩:=h.get w;simp only[e];refine ab.bind (ab.cM (aE s)) λB d g i j=>?_;subst j;have k:=k.mono i;cases g with|string=>(cases k<;>first|exact ab.pure (.int _ _)|exact ab.stuck)|array n e=>exact ab.pure (.int _ _)|pointer f=>refine ab.bind (ab.cM (aE f)) λC u y z q=>?_;subst q;(cases y<;>first|exact ab.pure (.int _ _)|exact ab.stuck)|slice e=>(cases k<;>first|exact ab.pure (.int _ _)|exact ab.stuck)|map a b=>(cases k with|kM=>exact ab.pure (.int _ _)|map p=>refine ab.getObj p λo A _ m l=>?_;(cases m with|map k s _=>simp only[s];exact ab.pure (.int _ _)|cells _ _ _=>exact absurd rfl (l _ _ _)|_=>exact ab.stuck)|_=>exact ab.stuck)|chan a b=>cases k<;>exact ab.stuck|_=>exact ab.stuck
theorem ab.max2(h:ai c r x x')(k:ai c r y y'):ab P c r (XD.max2 x y) (XD.max2 x' y') (ai c):=by cases h with|int a b=>(cases k<;>first|exact ab.pure (.int _ _)|exact ab.stuck|exact ab.unsupported)|string a=>(cases k with|string b=>refine ab.bind (ab.flat (kz .geq a b)) λi u l f d=>?_;exact ab.bind (ab.asBool d) λj z m g e=>by subst e;exact ab.pure (.string _)|ptr _=>exact ab.unsupported|_=>exact ab.stuck)|ptr _=>exact ab.unsupported|_=>cases k<;>first|exact ab.stuck|exact ab.unsupported
theorem ab.min2(h:ai c r x x')(k:ai c r y y'):ab P c r (XD.min2 x y) (XD.min2 x' y') (ai c):=by cases h with|int a b=>(cases k<;>first|exact ab.pure (.int _ _)|exact ab.stuck|exact ab.unsupported)|string a=>(cases k with|string b=>refine ab.bind (ab.flat (kz .leq a b)) λi u l f d=>?_;exact ab.bind (ab.asBool d) λj z m g e=>by subst e;exact ab.pure (.string _)|ptr _=>exact ab.unsupported|_=>exact ab.stuck)|ptr _=>exact ab.unsupported|_=>cases k<;>first|exact ab.stuck|exact ab.unsupported
theorem ab.foldlM{f:W8->W8->XE W8}(g:∀{r:bC}{x x' y y':W8},ai c r x x'->ai c r y y'->ab P c r (f x y) (f x' y') (ai c)):∀(l e:List W8){r:bC}{x x':W8},ai c r x x'->ak c r l.toArray e.toArray->ab P c r (l.foldlM f x) (e.foldlM f x') (ai c)|[],[],r,x,x',h,_=>ab.pure h|[],_::_,r,x,x',h,d=>by have:=d.size;grind|_::_,[],r,x,x',h,d=>by have:=d.size;grind|y::l,y'::e,r,x,x',h,d=>by rw[WN,WN];refine ab.bind (g h (d.el 0 y y' Θ Θ)) λn z o i k=>?_;exact ab.foldlM g l e k ((⟨by have:=d.size;simp_all,λj u m a b=>d.el (j+1) u m (by grind) (by grind)⟩:ak c r l.toArray e.toArray).mono i)
theorem KY(ats:Array Xo)(t:Xo){x x':Array W8}(h:ak c r x x'):ab P c r (XD.max_ ats t x) (XD.max_ ats t x') (ai c):=by obtain⟨l⟩:=x;obtain⟨d⟩:=x';unfold XD.max_;match l,d,h with|[],[],_=>exact ab.stuck|[],_::_,h=>have:=h.size;grind|_::_,[],h=>have:=h.size;grind|y::l,f::d,h=>exact ab.foldlM ab.max2 l d (h.el 0 y f Θ Θ) ⟨by have:=h.size;simp_all,λj u e a b=>h.el (j+1) u e (by grind) (by grind)⟩
theorem Jw(ats:Array Xo)(t:Xo){x x':Array W8}(h:ak c r x x'):ab P c r (XD.min_ ats t x) (XD.min_ ats t x') (ai c):=by obtain⟨l⟩:=x;obtain⟨d⟩:=x';unfold XD.min_;match l,d,h with|[],[],_=>exact ab.stuck|[],_::_,h=>have:=h.size;grind|_::_,[],h=>have:=h.size;grind|y::l,f::d,h=>exact ab.foldlM ab.min2 l d (h.el 0 y f Θ Θ) ⟨by have:=h.size;simp_all,λj u e a b=>h.el (j+1) u e (by grind) (by grind)⟩
theorem ab.lenOf(h:ai c r x x'):ab P c r (XD.lenOf x) (XD.lenOf x') λ_ a b=>b=a/\∀q,x=.slice (WX q) 0 0->a=0:=by cases h<;>first|exact ab.pure ⟨rfl,λq e=>by cases e;rfl⟩|exact ab.pure ⟨rfl,λq e=>by cases e⟩|exact ab.stuck
theorem ab.vB(size:Nat)(h:ai c r x x'):ab P c r (XD.firstCells size 0 x) (XD.firstCells size 0 x') λ_ a b=>a=#[]/\b=#[]:=by unfold XD.firstCells;rw[Wy];cases h<;>first|exact ab.pure ⟨rfl,rfl⟩|exact ab.stuck|(refine ab.pure ⟨?_,?_⟩<;>simp)
theorem ab.firstCells(size n:Nat)(h:ai c r x x')(j:∀q,x=.slice (WX q) 0 0->n=0):ab P c r (XD.firstCells size n x) (XD.firstCells size n x') (ak c):=by cases h with|gv _ _=>exact ab.pure .empty|cE a d=>obtain rfl:=j a rfl;exact(ab.vB size (.cE a d)).mono λ_ x y _⟨e,f⟩=>by rw[e,f];exact .empty|slice _ _ g=>exact ab.loadCells g _|string s=>refine ab.pure ?_;refine⟨rfl,λi v k a b=>?_⟩;rw[a]at b;cases b;rw[VA]at a;obtain⟨z,_,rfl⟩:=Ur.1 a;exact .int _ _|_=>exact ab.stuck
theorem ak.zeroCells(h:Flat z)(n:Nat):ak c r (XD.zeroCells z.cells n) (XD.zeroCells z.cells n):=by unfold XD.zeroCells;exact ak.range (h.vs c r) _
end
section
variable{c:dC}{r:bC}
theorem ab.Gh{x:XE α}{f:α->XE β}{y:XE γ}{Q:bC->β->γ->Prop}(h:k7 P x):ab P c r (x>>=f) y Q:=ab.never (gq h)
theorem lW(a:XO)(n:Nat):gb P (XD.holdsCells a n):=(Bs _).bind λs=>by cases s<;>exact dI _
theorem uv(size sl n:Nat)(base:Option XO)(x:W8):gb P (XD.mayShare size sl n base x):=by(have d:∀b:Bool,gb P (if(!b)=WY then Pure.pure WY else match x with|.slice (WX b) _ _=>(do Pure.pure (!(<-XD.holdsCells b (n*size))||base.any (·.block==b.block)))|_=>Pure.pure Wz):=λb=>by split;{exact dI _};split;{exact(lW _ _).bind λ_=>dI _};exact dI _);unfold XD.mayShare;cases base with|none=>grind|some a=>exact gb.bind (lW _ _) λu=>gb.bind (Aj _) λv=>gb.bind (dI _) λb=>d b
theorem Au{ats:Array Xo}(ht:∀s e,ats[0]?=WX s->P.underlying s=WX (.slice e)->jI P e=WY)(hn:∀s k,ats[1]?=WX s->P.underlying s≠WX (.int k)){x x':Array W8}(h:ak c r x x'):ab P c r (XD.append_ ats t x) (XD.append_ ats t x') (ai c):=by unfold XD.append_;cases hs:ats[0]? with|none=>exact ab.stuck|some s=>cases hx:x[0]? with|none=>exact ab.stuck|some v=>obtain⟨v',X,kv⟩:=h.get hx;simp only[X];cases hy:x[1]? with|none=>exact ab.stuck|some u=>obtain⟨u',W,A⟩:=h.get hy;simp only[W];refine ab.bind (ab.eY (aX s)) λR d M l H=>?_;obtain⟨rfl,H⟩:=H;cases M with|slice f=>have hz:=ht s f hs H;have O:=kv.mono l;have kx:=O;cases O;(case gv|slice|cE=>refine ab.bind (ab.cM (bA f)) λr2 T K B e=>?_;subst e;cases Z:ats[1]?;(case' some xt=>refine ab.bind (ab.eY (aX xt)) λr0 d M Y w=>?_;obtain⟨rfl,w⟩:=w;replace B:=bC.le_trans B Y);all_goals refine ab.bind (Q:=λ_ a b=>b=a/\a=Wz) (ab.pure ⟨rfl,by first|rfl|grind⟩) λr3 zs zs' N e=>?_;obtain⟨rfl,rfl⟩:=e;refine ab.bind (ab.lenOf ((A.mono l).mono (bC.le_trans B N))) λr4 n n' h4 e=>?_;obtain⟨rfl,E⟩:=e;have j:R.le r4:=bC.le_trans (bC.le_trans B N) h4;refine ab.ite (λI=>?_) λ_=>?_;{first|exact ab.bind (ab.firstCells _ _ ((A.mono l).mono j) E) λJ z V m g=>ab.pure (.gv _ _)|exact ab.bind (ab.firstCells _ _ ((A.mono l).mono j) E) λJ z V m g=>ab.bind (ab.storeCells 0 ((du.mono (bC.le_trans j m) (by assumption)).add _) (by omega)) λS _ _ C _=>ab.pure (.slice _ _ (du.mono (bC.le_trans j (bC.le_trans m C)) (by assumption)))|(obtain rfl:n'=0:=by omega);refine ab.bind (ab.vB _ ((A.mono l).mono j)) λJ z V m g=>?_;obtain⟨rfl,rfl⟩:=g;exact ab.bind (Q:=λ_ _ _=>True) (ab.pure trivial) λS _ _ C _=>ab.pure (.cE _ _)};·refine ab.bind (ab.cM (dE f)) λJ i i' m e=>?_;subst e;refine ab.ite (λ_=>ab.nt) λ_=>?_;refine ab.bind (ab.cM (dE f)) λS i2 i2' C e=>?_;subst e;refine ab.ite (λ_=>ab.Gh (by simp only[UK,if_false];exact dP (uv _ _ _ _ _) λ_=>by split<;>first|exact eN|exact dP (λ_ _ _ e=>by cases e) λ_=>eN)) λ_=>?_;refine ab.bind (ab.cM (iA _)) λr7 nc nc' h7 e=>?_;subst e;refine ab.bind (ab.cM (dE f)) λr8 i3 i3' h8 e=>?_;subst e;refine ab.bind (ab.cM (pL _)) λr9 _ _ h9 _=>?_;have y:R.le r9:=bC.le_trans j (bC.le_trans m (bC.le_trans C (bC.le_trans h7 (bC.le_trans h8 h9))));refine ab.bind (ab.firstCells _ _ (kx.mono y) (λq e=>by first|rfl|(cases e;done)|grind)) λr10 o o' F ho=>?_;refine ab.bind (ab.firstCells _ _ ((A.mono l).mono (bC.le_trans y F)) E) λr11 q q' G hq=>?_;refine ab.bind (ab.zero hz) λr12 zz zz' p g=>?_;obtain⟨rfl,g⟩:=g;exact ab.bind (ab.newRow ((((ho.mono G).mono p).append (hq.mono p)).append (ak.zeroCells g _))) λ_ _ _ _ ha=>ab.pure (.slice _ _ ha));all_goals exact ab.stuck|_=>exact ab.stuck
theorem ab.checkKey(b g:Bool)(f:ff P t=WY)(n:Nat):ab P c r (Instr.checkKey b (n+1) t x) (Instr.checkKey g (n+1) t x') λ_ _ _=>True:=by refine ab.bind (ab.eY (aX t)) λj d h i e=>?_;obtain⟨rfl,e⟩:=e;unfold ff at f;rw[e]at f;cases h with|int k=>exact ab.pure trivial|string=>exact ab.pure trivial|bool=>exact ab.pure trivial|_=>simp at f
theorem zE(d:TypeDesc)(h:ai c r x x')(k:ai c r y y'):Instr.sameNow d x' y'=Instr.sameNow d x y:=by cases h<;>cases k<;>first|rfl|(cases d<;>rfl)
def lQ(c:dC)(r:bC)(x x':Array XV):Prop:=x.size=x'.size/\∀(i:Nat)(e e':XV),x[i]?=WX e->x'[i]?=WX e'->Ff c r e e'
theorem lQ.mono{r r':bC}(h:r.le r'){x x':Array XV}(k:lQ c r x x'):lQ c r' x x':=⟨k.1,λi e d a b=>(k.2 i e d a b).mono h⟩
def LD(c:dC)(r:bC):Option (Nat×W8)->Option (Nat×W8)->Prop
 |none,W9=>True
 |some (i,v),WX (i',v')=>i'=i/\ai c r v v'
 |_,_=>False
theorem qS(d:TypeDesc)(h:ai c r x x'):∀(l m:List XV)(i:Nat),lQ c r l.toArray m.toArray->
 match Instr.findNow d x l i with|some z=>∃p,Instr.findNow d x' m i=WX p/\LD c r z p|none=>Instr.findNow d x' m i=W9
 |[],[],i,_=>⟨W9,rfl,trivial⟩
 |[],_::_,_,k=>by have:=k.1;grind
 |_::_,[],_,k=>by have:=k.1;grind
 |e::l,q::m,i,k=>by
   have o:=k.2 0 e q Θ Θ
   have n:lQ c r l.toArray m.toArray:=⟨by have:=k.1;simp_all,λj u s a b=>k.2 (j+1) u s (by grind) (by grind)⟩
   unfold Instr.findNow
   rw[zE d h o.key]
   cases Instr.sameNow d x e.key with
   |none=>rfl
   |some b=>
     cases b with
     |true=>exact⟨_,rfl,rfl,o.val⟩
     |false=>exact qS d h l m (i+1) n
theorem ab.findAsking(n:Fits P c)(p:ff P t=WY):∀(l g:List XV)(i:Nat){r:bC}{x x':W8},ai c r x x'->lQ c r l.toArray g.toArray->ab P c r (Instr.findAsking t x l i) (Instr.findAsking t x' g i) (LD c)|[],[],i,r,x,x',h,_=>ab.pure trivial|[],_::_,_,r,x,x',h,f=>by have:=f.1;grind|_::_,[],_,r,x,x',h,f=>by have:=f.1;grind|e::l,q::g,i,r,x,x',h,f=>by have o:=f.2 0 e q Θ Θ;have m:lQ c r l.toArray g.toArray:=⟨by have:=f.1;simp_all,λj u v a b=>f.2 (j+1) u v (by grind) (by grind)⟩;refine ab.bind (ab.equal n p h o.key) λy b w k s=>?_;subst s;exact ab.ite (λ_=>ab.pure ⟨rfl,o.val.mono k⟩) λ_=>ab.findAsking n p l g (i+1) (h.mono k) (m.mono k)
theorem ab.findKey(j:Fits P c)(n:ff P t=WY){l l':List XV}(h:ai c r x x')(g:lQ c r l.toArray l'.toArray):ab P c r (Instr.findKey t x l) (Instr.findKey t x' l') (LD c):=by refine ab.bind (ab.cM (aE t)) λo d f b m=>?_;subst m;have:=qS f (h.mono b) l l' 0 (g.mono b);cases e:Instr.findNow f x l 0 with|none=>rw[e]at this;simp only[this];exact ab.findAsking j n l l' 0 (h.mono b) (g.mono b)|some z=>rw[e]at this;obtain⟨p,i,k⟩:=this;simp only[i];exact ab.pure k
theorem BM{ok:Bool}(O:Fits P c)(Z:∀k e,P.underlying t=WX (.map k e)->ff P k=WY/\jI P e=WY)(h:ai c r x x')(k:ai c r y y'):ab P c r (Instr.lookup t x y ok) (Instr.lookup t x' y' ok) (ai c):=by refine ab.bind (ab.eY (aX t)) λr1 d S F I=>?_;obtain⟨rfl,I⟩:=I;cases S with|map J q=>obtain⟨C,R⟩:=Z J q I;let B(A:bC)(a b:W8×Bool):Prop:=ai c A a.1 b.1/\b.2=a.2;(cases h.mono F with|kM=>refine ab.bind (Q:=λA a b=>lQ c A a b) (ab.pure ⟨rfl,λi e e' a=>by simp at a⟩) λr2 T E G m=>?_;refine ab.bind (ab.checkKey _ _ C 9999) λr3 _ _ w _=>?_;refine ab.bind (ab.findKey O C (k.mono (bC.le_trans F (bC.le_trans G w))) (by simpa using m.mono w)) λr4 z N U p=>?_;(match z,N,p with|none,W9,_=>refine ab.bind (ab.zero R) λK u u' V n=>?_;obtain⟨rfl,n⟩:=n;refine ab.bind (Q:=B) (ab.pure ⟨n c K,rfl⟩) λL a b H g=>?_;obtain⟨v,o⟩:=a;obtain⟨j,f⟩:=g;subst f;refine ab.pure ?_;split;{exact .kP (ak.push (ak.single j) (.bool _))};{exact j}|some (_,_),WX (_,_),p=>refine ab.bind (Q:=B) (ab.pure ⟨p.2,rfl⟩) λL a b H g=>?_;obtain⟨v,o⟩:=a;obtain⟨j,f⟩:=g;subst f;refine ab.pure ?_;split;{exact .kP (ak.push (ak.single j) (.bool _))};·exact j)|map Y=>refine ab.getObj Y λo D _ X W=>?_;(cases X with|map kk s e=>refine ab.bind (Q:=λA a b=>lQ c A a b) (ab.pure ⟨s,e⟩) λr2 T E G m=>?_;refine ab.bind (ab.checkKey _ _ C 9999) λr3 _ _ w _=>?_;refine ab.bind (ab.findKey O C (k.mono (bC.le_trans F (bC.le_trans G w))) (by simpa using m.mono w)) λr4 z N U p=>?_;(match z,N,p with|none,W9,_=>refine ab.bind (ab.zero R) λK u u' V n=>?_;obtain⟨rfl,n⟩:=n;refine ab.bind (Q:=B) (ab.pure ⟨n c K,rfl⟩) λL a b H g=>?_;obtain⟨v,o⟩:=a;obtain⟨j,f⟩:=g;subst f;refine ab.pure ?_;split;{exact .kP (ak.push (ak.single j) (.bool _))};{exact j}|some (_,_),WX (_,_),p=>refine ab.bind (Q:=B) (ab.pure ⟨p.2,rfl⟩) λL a b H g=>?_;obtain⟨v,o⟩:=a;obtain⟨j,f⟩:=g;subst f;refine ab.pure ?_;split;{exact .kP (ak.push (ak.single j) (.bool _))};·exact j)|cells _ _ _=>exact absurd rfl (W _ _ _)|_=>exactλ_ _ _=>rfl)|_=>exactλ_ _ _=>rfl)|_=>exact ab.stuck
end
section
variable{c:dC}{r:bC}
def Mz:W8->Bool
 |.string _|.bool _=>WY
 |_=>Wz
def AE(P:Xr)(t:Xo):Bool:=match P.underlying t with|some .string|some .bool=>WY|_=>Wz
theorem BI(h:AE P t=WY):ff P t=WY:=by unfold AE at h;unfold ff;grind
theorem wO(n:Nat)(h:ai c r x x')(k:ai c r y y')(b:Mz y=WY):Instr.sameBits n x' y'=Instr.sameBits n x y:=by cases k<;>simp[Mz]at b<;>cases h<;>cases n<;>rfl
theorem ab.FH(b:AE P t=WY)(i:Mz x=Wz)(l h:List XV)(k:lQ c r l.toArray h.toArray):ab P c r (Instr.findKey t x l) (Instr.findKey t x' h) λ_ u n=>u=W9/\n=W9:=by unfold AE at b;cases g:P.underlying t with|none=>rw[g]at b;simp at b|some d=>rw[g]at b;unfold Instr.findKey;refine ab.bind (ab.eY (aX t)) λq o j p f=>?_;obtain⟨rfl,f⟩:=f;rw[g]at f;cases f;cases l with|nil=>(have:h=[]:=by have:=k.1;grind);subst this;exact ab.pure ⟨rfl,rfl⟩|cons e l=>(have m:Instr.findNow d x (e::l) 0=W9:=by(have:Instr.sameNow d x e.key=W9:=by cases d<;>simp at b<;>cases x<;>simp[Mz]at i<;>rfl);simp[Instr.findNow,this]);simp only[m];refine ab.never ?_;unfold Instr.findAsking;refine gq ?_;show k7 P (Op.equalIn (9999+1) t x e.key);unfold Op.equalIn;intro w;rw[XE.run_bind,j8 g w];cases d<;>simp at b<;>cases x<;>simp[Mz]at i<;>exact⟨_,_,rfl,rfl⟩
theorem uC(hc:Fits P c)(ht:∀k e,P.underlying t=WX (.map k e)->AE P k=WY){z':W8}(h:ai c r x x')(k:ai c r y y')(l:ai c r z z'):ab P c r (Instr.mapUpdate t x y z) (Instr.mapUpdate t x' y' z') λ_ _ _=>True:=by unfold Instr.mapUpdate;refine ab.bind (ab.eY (aX t)) λr1 d d' R S=>?_;obtain⟨rfl,S⟩:=S;cases d' with|map A E=>have G:=ht A E S;have hk:=BI G;(cases h.mono R with|kM=>exact ab.runtimePanic|map I=>refine ab.getObj I λo o' ns ho X=>?_;(cases ho with|map kk s e=>rename_i F m;have g:lQ c r1 F m:=⟨s,e⟩;refine ab.bind (ab.checkKey _ _ hk 9999) λr2 _ _ C _=>?_;have B:=(k.mono R).mono C;(have w:ab P c r2 (Instr.findKey A y F.toList) (Instr.findKey A y' m.toList) λZ u M=>LD c Z u M/\(Mz y=Wz->u=W9):=by by_cases hy:Mz y=Wz;{refine(ab.FH G hy _ _ (by simpa using g.mono C)).mono λZ u M _ h=>?_;obtain⟨rfl,rfl⟩:=h;exact⟨trivial,λ_=>rfl⟩};exact(ab.findKey hc hk B (by simpa using g.mono C)).mono λZ u M _ h=>⟨h,λe=>absurd e hy⟩);refine ab.bind w λr3 u M N J=>?_;obtain⟨J,K⟩:=J;have B:=B.mono N;have lr:=((l.mono R).mono C).mono N;have g:=(g.mono C).mono N;have I:=N _ _ (C _ _ I);(match u,M,J,K with|none,W9,_,_=>refine ab.setObj I ns (.map (kk+1) (by grind) λi e O a b=>?_) rfl;rw[US]at a b;rw[<-g.1]at b;split at a;{cases a;rw[if_pos ‹_›]at b;cases b;exact⟨B,lr,rfl⟩};{rw[if_neg ‹_›]at b;exact g.2 i e O a b}|some (i,_),WX (v,_),J,K=>(have Y:Mz y=WY:=by simp_all);obtain⟨W,_⟩:=J;subst W;(have p:ai c r3 (((F[v]?).map (·.key)).getD y) (((m[v]?).map (·.key)).getD y'):=by cases V:F[v]? with|none=>simp_all|some Q=>(have H:v<m.size:=by grind);have:=g.2 v Q m[v] V (Ut H);rw[Ut H];exact this.key);(have L:ab P c r3 (Instr.keyThatStays (((F[v]?).map (·.key)).getD y) y) (Instr.keyThatStays (((m[v]?).map (·.key)).getD y') y') (ai c):=by unfold Instr.keyThatStays;rw[wO 10000 p B Y];refine ab.ite (λ_=>ab.pure B) λ_=>?_;refine ab.bind (ab.cM (iA _)) λr4 n n' D X=>?_;subst X;refine ab.pure ?_;split;{exact B.mono D};exact p.mono D);refine ab.bind L λr4 q q' D hq=>?_;refine ab.setObj (D _ _ I) ns (.map kk (by grind) λj e O a b=>?_) rfl;rw[U9]at a b;split at a;{rw[if_pos ‹_›]at b;obtain⟨Q,T,rfl⟩:=Ur.1 a;obtain⟨e1,U,rfl⟩:=Ur.1 b;exact⟨hq,lr.mono D,((g.2 j Q e1 T U).born)⟩};·rw[if_neg ‹_›]at b;exact(g.2 j e O a b).mono D)|cells _ _ _=>exact absurd rfl (X _ _ _)|_=>exactλ_ _ _=>rfl)|_=>exact ab.stuck)|_=>exact ab.stuck
theorem Eb(k:P.underlying t=WX .string)(h:ai c r x x'):ab P c r (Instr.range t x) (Instr.range t x') (ai c):=by unfold Instr.range;refine ab.bind (ab.eY (aX t)) λv d n i f=>?_;obtain⟨rfl,f⟩:=f;rw[k]at f;cases f;cases h.mono i with|string s=>exact ab.bind (Q:=λl a b=>mC c l a b) (ab.pure (.iter s 0)) λw o u p j=>ab.bind (ab.newObj j) λy b m q g=>ab.pure (.ptr ⟨g.1,rfl,rfl,Vl g.2⟩)|_=>exactλ_ _ _=>rfl
theorem FK(h:ai c r x x'):ab P c r (Instr.next x WY t) (Instr.next x' WY t) (ai c):=by unfold Instr.next;cases h with|ptr m=>rename_i a l;obtain⟨b,v,k⟩:=a;obtain⟨w,e,i⟩:=l;obtain⟨g,f,j,-⟩:=m;simp only at g f j;subst f j;(cases e with|succ n=>exact ab.stuck|zero=>refine ab.getObj g λo z u f q=>?_;cases f with|iter s p=>refine ab.ite (λ_=>?_) λ_=>ab.pure (.kP (ak.single (.bool _)));refine ab.bind (ab.setObj g u (.iter s _) rfl) λA _ _ y _=>ab.pure (.kP ?_);exact((ak.single (.bool _)).push (.int _ _)).push (.int _ _)|cells _ _ _=>exact absurd rfl (q _ _ _)|_=>exact ab.stuck)|_=>exact ab.stuck
theorem pG:∀(l l':List W8){r:bC},l.length=l'.length->(∀(i:Nat)(v v':W8),l[i]?=WX v->l'[i]?=WX v'->ai c r v v')->∀s:ByteArray,ab P c r (forIn l s λc r=>(match c with|.int .u8 n=>Pure.pure (ForInStep.yield (r.push (UInt8.ofNat n.toNat)))|_=>(λ_:PUnit=>ForInStep.yield r)<$>stuck "bytesToString: byte expected" :XE (ForInStep ByteArray))) (forIn l' s λc r=>(match c with|.int .u8 n=>Pure.pure (ForInStep.yield (r.push (UInt8.ofNat n.toNat)))|_=>(λ_:PUnit=>ForInStep.yield r)<$>stuck "bytesToString: byte expected" :XE (ForInStep ByteArray))) λ_ x y=>x=y|[],[],_,_,_,s=>by rw[List.forIn_nil];exact ab.pure rfl|[],_::_,_,h,_,_=>by cases h|_::_,[],_,h,_,_=>by cases h|v::l,v'::l',r,h,hv,s=>by rw[List.forIn_cons,List.forIn_cons];have h0:ai c r v v':=hv 0 v v' rfl rfl;have hl:∀(i:Nat)(u u':W8),l[i]?=WX u->l'[i]?=WX u'->ai c r u u':=λi u u' a b=>hv (i+1) u u' a b;refine ab.bind (Q:=λ_(x y:ForInStep ByteArray)=>x=y/\∃z,x=.yield z) ?_ λr1 x y hle e=>?_;{cases h0 with|int k n=>(cases k<;>first|exact ab.pure ⟨rfl,_,rfl⟩|exactλ_ _ _=>rfl)|_=>exactλ_ _ _=>rfl};obtain⟨rfl,z,rfl⟩:=e;exact pG l l' (by simpa using h) (λi u u' a b=>(hl i u u' a b).mono hle) z
theorem pR(h:ai c r x x'):ab P c r (Conv.bytesToString x) (Conv.bytesToString x') (ai c):=by(have key:∀{a a':XO}{n:Nat}{r:bC},ab P c r (Go.loadCells a n) (Go.loadCells a' n) (ak c)->ab P c r (Conv.bytesToString (.slice (WX a) n 0)) (Conv.bytesToString (.slice (WX a') n 0)) (ai c):=λ{a a' n r}h=>by unfold Conv.bytesToString;refine ab.bind h λr1 y y' hle hy=>?_;(refine ab.bind (Q:=λ_ x y=>x=y) ?_ λr2 z z' _ e=>by subst e;exact ab.pure (.string _));have:=pG (P:=P) (c:=c) y.toList y'.toList (r:=r1) (by simpa using hy.size) (λi u u' a b=>hy.el i u u' (by simpa using a) (by simpa using b)) ByteArray.empty;simp only[Array.forIn_toList]at this;exact this);cases h with|gv n m=>exact ab.pure (.string _)|slice n m h=>exact key (ab.loadCells h n)|cE a a'=>exact key (n:=0) (ab.pure .empty)|_=>exact ab.stuck
def I9(P:Xr)(s d:Xo):Bool:=match P.underlying s,P.underlying d with|some (.int _),WX (.int _)|some (.int _),WX .string|some .string,WX .string=>WY|some (.slice e),WX .string=>(match P.underlying e with|some (.int .u8)=>WY|_=>Wz)|_,_=>Wz
theorem D1{e0:Xo}(h:P.underlying e0=WX (.int .u8))(k:ai c r x x'):ab P c r (do match<-underlying e0 with|.int .u8=>Conv.bytesToString x|.int .i32=>Conv.runesToString x|_=>stuck "Convert: a slice of what to string?") (do match<-underlying e0 with|.int .u8=>Conv.bytesToString x'|.int .i32=>Conv.runesToString x'|_=>stuck "Convert: a slice of what to string?") (ai c):=by refine ab.bind (ab.eY (aX e0)) λo a i j e=>?_;obtain⟨rfl,e⟩:=e;rw[h]at e;cases e;exact pR (k.mono j)
theorem zU{s d:Xo}(h:I9 P s d=WY)(k:ai c r x x'):ab P c r (convert s d x) (convert s d x') (ai c):=by unfold Go.convert;refine ab.bind (ab.eY (aX s)) λo a i j e=>?_;obtain⟨rfl,e⟩:=e;refine ab.bind (ab.eY (aX d)) λp b g l f=>?_;obtain⟨rfl,f⟩:=f;have k:=(k.mono j).mono l;unfold I9 at h;rw[e,f]at h;cases i with|int q=>(cases g with|int n=>(cases k<;>first|exact ab.pure (.int _ _)|exact ab.unsupported)|string=>(cases k<;>first|exact ab.pure (.string _)|exact ab.unsupported)|_=>simp at h)|string=>(cases g with|string=>(cases k<;>first|exact ab.pure (.string _)|exact ab.unsupported)|_=>simp at h)|slice e0=>(cases g with|string=>(have hb:P.underlying e0=WX (.int .u8):=by simp only at h;split at h;{assumption};cases h);have gen:=λ{y y'}(k:ai c p y y')=>D1 (P:=P) hb k;(cases k with|int k n=>exact ab.pure (.string _)|string s=>exact ab.pure (.string _)|bool b=>exact gen (.bool b)|gf=>exact gen .gf|ptr h=>exact gen (.ptr h)|gv n m=>exact gen (.gv n m)|slice n m h=>exact gen (.slice n m h)|cE a a'=>exact gen (.cE a a')|kM=>exact gen .kM|map h=>exact gen (.map h)|func h1 h2 h3 h4 h5=>exact gen (.func h1 h2 h3 h4 h5)|nilFunc=>exact gen .nilFunc|nilIface=>exact gen .nilIface|iface t h=>exact gen (.iface t h)|agg h1 h2=>exact gen (.agg h1 h2)|tuple h1 h2=>exact gen (.tuple h1 h2))|_=>simp at h)|_=>simp at h
end
section
variable{c:dC}{r:bC}
def cl(c:dC)(gl:Nat->Bool):Xz->Bool
 |.tmp _=>WY
 |.const v=>jC 100 v
 |.global g=>gl g
 |.func f=>c.fns f
def Ak(P:Xr)(t:Xo):Bool:=match P.underlying t with|some (.slice e)=>jI P e|_=>WY
def O8(P:Xr)(t:Xo):Bool:=match P.underlying t with|some (.map k e)=>ff P k&&jI P e|_=>WY
def NY(P:Xr)(t:Xo):Bool:=match P.underlying t with|some (.map k _)=>AE P k|_=>WY
def BE(P:Xr)(s:Xo)(n:Nat):Bool:=match P.underlying s with|some (.struct fs)=>(match fs[n]? with|some f=>P.cellsOf f.type !=0|none=>WY)|_=>WY
def BZ(P:Xr)(t:Option Xo):Bool:=match t with|some s=>(match P.underlying s with|some (.int _)=>Wz|_=>WY)|none=>WY
def Po(P:Xr)(t:Option Xo):Bool:=match t with|some s=>Ak P s|none=>WY
def isEq:BinOp->Bool
 |.eql|.neq=>WY
 |_=>Wz
def GI(P:Xr)(t:Xo):Bool:=match P.underlying t with|some .string=>WY|_=>Wz
def BN(P:Xr)(c:dC)(gl:Nat->Bool)(k:Call):Bool:=
 k.args.all (cl c gl)&&match k.callee with
 |.value f=>cl c gl f
 |.builtin .len|.builtin .max|.builtin .min=>WY
 |.builtin .append=>Po P k.argTypes[0]?&&BZ P k.argTypes[1]?
 |_=>Wz
def FZ(P:Xr):Xz->Bool
 |.global g=>decide (g<P.globals.size)
 |_=>Wz
def tN(P:Xr)(c:dC)(gl:Nat->Bool)(o:XW):Bool:=
 match o.op with
 |.load _ x=>cl c gl x||FZ P x
 |.move x|.assign x|.box _ x|.nilCheck x|.unOp _ _ x|.field _ x _|.extract x _=>cl c gl x
 |.pick a b d=>cl c gl a&&cl c gl b&&cl c gl d
 |.alloc e=>jI P e
 |.build t ps=>jI P t&&ps.all λp=>cl c gl p.2
 |.buildSlice t _ ps=>Ak P t&&ps.all λp=>cl c gl p.2
 |.store _ a x|.indexAddr _ a x|.index _ a x=>cl c gl a&&cl c gl x
 |.binOp op t x y _=>cl c gl x&&cl c gl y&&(!isEq op||ff P t)
 |.convert s d x=>I9 P s d&&cl c gl x
 |.makeFunc fn first captured=>G9 c fn&&first.all (cl c gl)&&captured.all (cl c gl)
 |.makeMap _ W9=>WY
 |.makeSlice t l k=>Ak P t&&cl c gl l&&cl c gl k
 |.slice _ x lo hi mx=>cl c gl x&&lo.all (cl c gl)&&hi.all (cl c gl)&&mx.all (cl c gl)
 |.fieldAddr s x n=>BE P s n&&cl c gl x
 |.lookup t x i _=>O8 P t&&cl c gl x&&cl c gl i
 |.mapUpdate t m k v=>NY P t&&cl c gl m&&cl c gl k&&cl c gl v
 |.range t x=>GI P t&&cl c gl x
 |.next it WY=>cl c gl it
 |.call k=>BN P c gl k
 |_=>Wz
inductive vZ(c:dC)(r:bC):Next->Next->Prop
 |value{v v':W8}:ai c r v v'->vZ c r (.value v) (.value v')
 |skip:vZ c r .skip .skip
 |enter{f:Xw}{x x':Array W8}:c.fns f=WY->ak c r x x'->vZ c r (.enter f x) (.enter f x')
def C3(P:Xr)(c:dC):Prop:=
 ∀(f:Xw)(fn:Func),c.fns f=WY->P.funcs[f]?=WX fn->(fn.name== "runtime.NumGoroutine")=Wz/\(fn.body=W9->Extern.findNext fn=W9/\∃e,Extern.find fn=WX e/\
   ∀(r:bC)(x x':Array W8),ak c r x x'->ab P c r (e x) (e x') (ai c))
theorem ab.value{x:XE W8}{y:XE W8}(h:ab P c r x y (ai c)):ab P c r (do Pure.pure (Next.value (<-x))) (do Pure.pure (Next.value (<-y))) (vZ c):=ab.bind h λ_ _ _ _ k=>ab.pure (.value k)
theorem ab.unit{x:XE Unit}{y:XE Unit}(h:ab P c r x y λ_ _ _=>True):ab P c r (do x;Pure.pure Next.skip) (do y;Pure.pure Next.skip) (vZ c):=ab.bind h λ_ _ _ _ _=>ab.pure .skip
theorem ab.Ax(f:Xw):ab P c r (mark (.extern f)) (mark (.extern f)) λ_ _ _=>True:=by intro w v b;refine⟨(),v,r,rfl,.refl b,trivial,λe a=>?_⟩;simp at a;subst a;exact .inr (.inr ⟨f,rfl⟩)
theorem vW(l:C3 P c)(i:c.fns f=WY){x x':Array W8}(h:ak c r x x'):ab P c r (callFunc f x) (callFunc f x') (vZ c):=by refine ab.bind (ab.eY bP) λw p u g m=>?_;obtain⟨rfl,rfl⟩:=m;cases a:u.funcs[f]? with|none=>exact ab.stuck|some d=>obtain⟨s,t⟩:=l f d i a;simp only[a,s,UK];cases k:d.body with|some b=>exact ab.pure (.enter i (h.mono g))|none=>obtain⟨n,e,o,q⟩:=t k;simp only[n,o];exact ab.bind (ab.Ax f) λv _ _ j _=>ab.value (q v x x' ((h.mono g).mono j))
theorem vY(a:∀x,cl c gl x=WY->ai c r (ev x) (ev' x)){l:Array Xz}(h:l.all (cl c gl)=WY):ak c r (l.map ev) (l.map ev'):=ak.map l ev ev' λx b=>a x (by rw[VE]at h;grind)
theorem uV(a:∀x,cl c gl x=WY->ai c r (ev x) (ev' x)){l:Array (Nat×Xz)}(h:(l.all λp=>cl c gl p.2)=WY):AN c r (l.map λ(i,x)=>(i,ev x)) (l.map λ(i,x)=>(i,ev' x)):=by refine⟨?_,?_⟩;{simp};(have e:∀g:Xz->W8,((l.map λp=>(p.1,g p.2)).toList.map (·.2)).toArray=l.map λp=>g p.2:=by grind);rw[e ev,e ev'];refine ak.map l _ _ λp b=>a p.2 ?_;rw[VE]at h;grind
theorem vT(a:∀x,cl c gl x=WY->ai c r (ev x) (ev' x)):∀{x:Option Xz},x.all (cl c gl)=WY->j5 c r (x.map ev) (x.map ev')|none,_=>trivial|some x,h=>a x (by grind)
theorem wU(o:XW)(y:Xz)(ev ev':Xz->W8)(l:o.op=.nilCheck y)(e:ev y=x)(i:ev' y=x')(h:ai c r x x'):ab P c r (Xj ev o) (Xj ev' o) (vZ c):=by unfold Xj;rw[l];simp only[e,i];cases h with|gf=>exact ab.runtimePanic|nilIface=>exact ab.runtimePanic|nilFunc=>exact ab.runtimePanic|bool b=>exact ab.pure (.value (.bool b))|int k n=>exact ab.pure (.value (.int k n))|string s=>exact ab.pure (.value (.string s))|ptr a=>exact ab.pure (.value (.ptr a))|gv n m=>exact ab.pure (.value (.gv n m))|slice n m a=>exact ab.pure (.value (.slice n m a))|cE a f=>exact ab.pure (.value (.cE a f))|kM=>exact ab.pure (.value .kM)|map a=>exact ab.pure (.value (.map a))|@func j z B u A d p q v w=>(cases j with|func g=>exact ab.pure (.value (.func d p q v w))|_=>simp[G9]at d)|iface t a=>exact ab.pure (.value (.iface t a))|agg a b=>exact ab.pure (.value (.agg a b))|tuple a b=>exact ab.pure (.value (.tuple a b))
theorem l8(h:Ak P t=WY):∀e,P.underlying t=WX (.slice e)->jI P e=WY:=λe a=>by unfold Ak at h;simp_all
theorem Hx(h:NY P t=WY):∀k e,P.underlying t=WX (.map k e)->AE P k=WY:=λk e a=>by unfold NY at h;simp_all
theorem Gv(h:O8 P t=WY):∀k e,P.underlying t=WX (.map k e)->ff P k=WY/\jI P e=WY:=λk e a=>by unfold O8 at h;simp_all
theorem uo(h:BE P t n=WY):∀fs f,P.underlying t=WX (.struct fs)->fs[n]?=WX f->P.cellsOf f.type≠0:=λfs f a b=>by unfold BE at h;simp_all
theorem FD(N:Fits P c)(K:C3 P c){k:Call}(t:Xo)(i:BN P c gl k=WY)(B:∀x,cl c gl x=WY->ai c r (ev x) (ev' x)):ab P c r (do let d<-resolve ev k t;invoke d.target d.args) (do let d<-resolve ev' k t;invoke d.target d.args) (vZ c):=by unfold BN at i;simp only[Um]at i;obtain⟨I,i⟩:=i;have h:=vY B I;obtain⟨l,m,A⟩:=k;unfold resolve;cases l with|invoke x n=>simp at i|value f=>have E:=B f i;simp only[];generalize ev f=q at E;generalize ev' f=O at E;(cases E with|@func J z R u M a b d e g=>(cases J with|func j=>refine ab.bind (Q:=λG x y=>x.target=.fn (.func j) u/\y.target=.fn (.func j) M/\ak c G x.args y.args) (ab.pure ⟨rfl,rfl,(ak.mk b d).append h⟩) λL x y H p=>?_;obtain⟨C,D,v⟩:=p;rw[C,D];exact vW K (by assumption) (v.append ((ak.mk e g).mono H))|_=>simp[G9]at a)|nilFunc=>exact ab.never (λw=>dV RuntimeError.nilDeref w)|_=>exactλ_ _ _=>rfl)|builtin b=>refine ab.bind (Q:=λG x y=>x.target=.builtin b A t (m.map λ|.const _=>WY|_=>Wz)/\y.target=.builtin b A t (m.map λ|.const _=>WY|_=>Wz)/\ak c G x.args y.args) (ab.pure ⟨rfl,rfl,h⟩) λL x y H p=>?_;obtain⟨C,D,v⟩:=p;rw[C,D];cases b with|len=>exact ab.value (K6 _ _ v)|max=>exact ab.value (KY _ _ v)|min=>exact ab.value (Jw _ _ v)|append=>simp only[Um]at i;refine ab.value (Au (λs e F o=>?_) (λs k F o=>?_) v);{have:=i.1;rw[F]at this;exact l8 this e o};have:=i.2;rw[F]at this;simp[BZ,o]at this|_=>simp at i
theorem ss(w:Fits P c)(H:C3 P c){o:XW}(j:tN P c gl o=WY)(f:∀x,cl c gl x=WY->ai c r (ev x) (ev' x))(z:∀g,ev (.global g)=ϖ g/\ev' (.global g)=ϖ g):ab P c r (Xj ev o) (Xj ev' o) (vZ c):=by unfold tN at j;obtain⟨E,D,O,K,A,guard⟩:=o;cases D with|move x=>exact ab.pure (.value (f x j))|assign x=>exact ab.pure (.value (f x j))|pick a b d=>simp only[Um]at j;refine ab.bind (ab.asBool (f a j.1.1)) λM u V C I=>?_;subst I;refine ab.pure (.value ?_);split;{exact(f b j.1.2).mono C};exact(f d j.2).mono C|alloc e=>exact ab.value (An j)|box e x=>exact ab.value (JC e (f x j))|build t L=>simp only[Um]at j;exact ab.value (Ek j.1 (uV f j.2))|buildSlice t n L=>simp only[Um]at j;exact ab.value (tq (l8 j.1) (uV f j.2))|load t a=>rcases Vr ..▸j with j|j;{exact ab.value (BF t (f a j))};(cases a with|global g=>refine ab.value ?_;rw[(z g).1,(z g).2];exact ab.bind (Q:=λ_ a b=>a=⟨g,0,W9⟩/\b=⟨g,0,W9⟩) (ab.pure ⟨rfl,rfl⟩) λM a b C⟨F,G⟩=>by subst F G;exact ab.Hc w (by rw[w.aL];simpa[FZ]using j) t|_=>simp[FZ]at j)|store t a x=>simp only[Um]at j;exact ab.unit (x4 t (f a j.1) (f x j.2))|nilCheck x=>exact wU _ x ev ev' rfl rfl rfl (f x j)|binOp D t x y u=>simp only[Um,Vr,Bool.not_eq_true']at j;exact ab.value (Dh w (λe=>by rcases j.2 with h|h;{rcases e with rfl|rfl<;>simp[isEq]at h};exact h) (f x j.1.1) (f y j.1.2))|unOp D t x=>exact ab.value (Dr (f x j))|convert s d x=>simp only[Um]at j;exact ab.value (zU j.1 (f x j.2))|makeFunc R B q=>simp only[Um]at j;exact ab.value (xB j.1.1 (vY f j.1.2) (vY f j.2))|makeMap t N=>(cases N with|none=>exact ab.value yy|some _=>simp at j)|makeSlice t l k=>simp only[Um]at j;exact ab.value (ui (l8 j.1.1) (f l j.1.2) (f k j.2))|slice t x T S U=>simp only[Um]at j;exact ab.value (yt t (f x j.1.1.1) (vT f j.1.1.2) (vT f j.1.2) (vT f j.2))|fieldAddr s x n=>simp only[Um]at j;exact ab.value (yI s n (uo j.1) (f x j.2))|field t x n=>exact ab.value (DC t n (f x j))|indexAddr t x i=>simp only[Um]at j;exact ab.value (zf t (f x j.1) (f i j.2))|index t x i=>simp only[Um]at j;exact ab.value (Dq t (f x j.1) (f i j.2))|lookup t x i b=>simp only[Um]at j;exact ab.value (BM w (Gv j.1.1) (f x j.1.2) (f i j.2))|mapUpdate t m k v=>simp only[Um]at j;exact ab.unit (uC w (Hx j.1.1.1) (f m j.1.1.2) (f k j.1.2) (f v j.2))|range t x=>simp only[Um]at j;refine ab.value (Eb ?_ (f x j.2));have:=j.1;unfold GI at this;grind|next J b=>(cases b with|true=>exact ab.value (FK (f J j))|false=>simp at j)|extract x n=>exact ab.value (zH n (f x j))|call k=>exact FD w H O j f|_=>simp at j
end
section
variable{c:dC}{r:bC}
def codeOk(P:Xr)(c:dC)(gl:Nat->Bool):XX->Bool
 |.skip|.exit _|.label _|.ret|.refuse _=>WY
 |.region _ ops _=>ops.all (tN P c gl)
 |.seq a b=>codeOk P c gl a&&codeOk P c gl b
 |.cond x a b=>cl c gl x&&codeOk P c gl a&&codeOk P c gl b
 |.block _ a|.loop a|.scope a=>codeOk P c gl a
 |_=>Wz
def opAt(P:Xr)(c:dC)(gl:Nat->Bool)(ops:Array XW)(i:Nat):Bool:=match ops[i]? with|some o=>tN P c gl o|none=>WY
theorem IQ{c:dC}(h:ops.all (tN P c gl)=WY)(l:List Nat):l.all (opAt P c gl ops)=WY:=by rw[UM];intro i _;unfold opAt;grind
theorem nx{c:dC}{o:XW}(h:(i::rest).all (opAt P c gl ops)=WY)(a:ops[i]?=WX o):tN P c gl o=WY:=by simp only[UN,Um]at h;have:=h.1;unfold opAt at this;simp_all
theorem uT{c:dC}(h:(i::rest).all (opAt P c gl ops)=WY):rest.all (opAt P c gl ops)=WY:=by simp_all
def aW(P:Xr)(c:dC)(gl:Nat->Bool):XG->Bool
 |.code a|.inLoop a|.inScope a=>codeOk P c gl a
 |.inBlock _=>WY
 |.inRegion ops l=>l.all (opAt P c gl ops)
 |_=>Wz
def cm(f:Xw)(t:Array W8)(k:List XG)(m:FrameMode):Xk:={fn:=f,tmps:=t,todo:=k,defers:=[],mode:=m,kind:=.normal,roundOf:=W9}
def md(ret:Bool):FrameMode:=if ret then .returning else .run
structure cC where
 f:Xw
 t:Array W8
 k:List XG
 ret:Bool
 st:List (Xw×Array W8×List XG)
def up(x:Xw×Array W8×List XG):Xk:=cm x.1 x.2.1 x.2.2 .run
def cC.g(s:cC)(base:List Xk):Xc:=Go.Conc.G (cm s.f s.t s.k (md s.ret)) (s.st.map up++base)
structure v7(P:Xr)(c:dC)(gl:Nat->Bool)(s:cC):Prop where
 fn:True
 items:s.k.all (aW P c gl)=WY
 below:∀x∈s.st,True/\x.2.2.all (aW P c gl)=WY/\∃ops i rest k,x.2.2=.inRegion ops (i::rest)::k
inductive kK(c:dC)(r:bC):List (Xw×Array W8×List XG)->List (Xw×Array W8×List XG)->Prop
 |nil:kK c r [] []
 |cons{f:Xw}{t t':Array W8}{k:List XG}{l l':List (Xw×Array W8×List XG)}:ak c r t t'->kK c r l l'->kK c r ((f,t,k)::l) ((f,t',k)::l')
structure nR(c:dC)(r:bC)(s s':cC):Prop where
 f:s'.f=s.f
 t:ak c r s.t s'.t
 k:s'.k=s.k
 ret:s'.ret=s.ret
 st:kK c r s.st s'.st
theorem kK.mono{r r':bC}(h:r.le r'){l l':List (Xw×Array W8×List XG)}(k:kK c r l l'):kK c r' l l':=by induction k with|nil=>exact .nil|cons a _ b=>exact .cons (a.mono h) b
structure Listed(P:Xr)(c:dC)(gl:Nat->Bool):Prop where
 aL:Fits P c
 qv:∀g,gl g=WY->c.low g=0
 ext:C3 P c
 body:∀(f:Xw)(fn:Func),c.fns f=WY->P.funcs[f]?=WX fn->∃b,(fn.body=W9\/(fn.body=WX b/\codeOk P c gl b=WY))
def er:Xk:={fn:=0,tmps:=#[],todo:=[],defers:=[{target:=.builtin .make #[] 0 #[],args:=#[]}],mode:=.run,kind:=.normal}
def P5(s:GStep):Prop:=(∃o w,s.bare=.ended o w)\/∃(f:Xw)(t:Array W8)(k:List XG)(ch:List PanicEntry)(st:List (Xw×Array W8×List XG))(w:W6)(es:Array XQ),
 s=.go (Go.Conc.G (cm f t k (.panicking ch)) (st.map up++[er])) w es/\(∀d w r sv,k.head?≠WX (.call d w r sv))/\∀x∈st,∃ops i rest k',x.2.2=.inRegion ops (i::rest)::k'
theorem pB{t:Array W8}(e:ak c r t t')(d:∀g,gl g=WY->r g=WX g)(b:∀g,gl g=WY->c.low g=0){k:List XG}{m:FrameMode}(x:Xz)(h:cl c gl x=WY):ai c r ((cm f t k m).eval x) ((cm f t' k m).eval x):=by cases x with|tmp i=>exact e.getD i fL|const v=>exact iq h c r|global g=>exact .ptr ⟨d g h,rfl,rfl,Vl (b g h)⟩|func j=>exact .func (by assumption) rfl (λi v l a=>by simp at a) rfl (λi v l a=>by simp at a)
theorem l5{t:Array W8}(a:ak c r t t')(ops:Array XW)(j:Nat):Xp ops t' j=Xp ops t j:=by unfold Xp;cases(ops[j]?).bind (·.dst)with|none=>rfl|some d=>simp only[Vf];cases b:t[d]? with|none=>rw[a.none b]|some v=>obtain⟨f,e,k⟩:=a.get b;rw[e];cases k<;>rfl
theorem cI{t:Array W8}{k:List XG}(v:W8):(cm f t (.inRegion ops (i::rest)::k) .run).finish v=cm f (match(ops[i]?).bind (·.dst)with|some d=>t.setIfInBounds d v|none=>t) (.inRegion ops rest::k) .run:=rfl
theorem pK{t:Array W8}(a:ak c r t t')(d:Option Tmp){v:W8}(b:ai c r v v'):ak c r (match d with|some d=>t.setIfInBounds d v|none=>t) (match d with|some d=>t'.setIfInBounds d v'|none=>t'):=by cases d with|none=>exact a|some d=>exact a.set d b
end
end Go.ab
namespace Go.ab
open Go.Conc
variable{P:Xr}{c:dC}{r r':bC}{gl live:Nat->Bool}{w v v' w2 w' v1 v2:W6}{main u:Bool}{bs cs:List Xk}{f f0:Xw}{t t' args t0 x':Array W8}{k k1 k0 k' kr kk:List XG}{st st':List (Xw×Array W8×List XG)}{id i j b n g:Nat}{x a:XX}{ops:Array XW}{rest rest':List Nat}{o:XW}{h:Halt}{fn:Func}{α:Type}{s s' s1 s2:cC}{p:cC×W6}{es:Array XQ}{fr' caller:Xk}{Good:W8->W6->Prop}{RO own:Nat->Prop}{CU:Nat->Nat->Prop}{Stop:(Nat->Prop)->Xc->W6->Prop}{R:Ending->W6->Prop}{fns:Xw->Bool}
section
def T2(P:Xr)(c:dC)(r:bC)(main:Bool)(base:List Xk)(w v:W6)(s':cC)(s1:cC)(w1:W6):Prop:=
 ∃s1' v1 r1 es,Xd P main (s'.g base) v=.go (s1'.g base) v1 es/\Ext c r w v r1 w1 v1/\nR c r1 s1 s1'/\∀e∈es,rq c r1 e
def Stp(P:Xr)(c:dC)(gl:Nat->Bool)(r:bC)(main:Bool)(base:List Xk)(w v:W6)(s s':cC):Prop:=
 (∃s1 w1 es1,Xd P WY (s.g [er]) w=.go (s1.g [er]) w1 es1/\v7 P c gl s1/\T2 P c r main base w v s' s1 w1)\/P5 (Xd P WY (s.g [er]) w)
theorem cC.vo(f:Xw)(t:Array W8)(k:List XG)(a:List (Xw×Array W8×List XG))(bs:List Xk):(cC.mk f t k Wz a).g bs=G (cm f t k .run) (a.map up++bs):=rfl
theorem cC.iW(f:Xw)(t:Array W8)(k:List XG)(a:List (Xw×Array W8×List XG))(bs:List Xk):(cC.mk f t k WY a).g bs=G (cm f t k .returning) (a.map up++bs):=rfl
theorem Stp.ctl{ret1:Bool}(l:cG c r w v)(j:ak c r t t')(a:kK c r st st')(b:v7 P c gl ⟨f,t,k,Wz,st⟩)(i:k1.all (aW P c gl)=WY)(h:∀(main:Bool)(cs:List Xk)(w:W6),Xd P main (G (cm f t k .run) cs) w=.go (G (cm f t k1 (md ret1)) cs) w #[])(d:∀(main:Bool)(cs:List Xk)(w:W6),Xd P main (G (cm f t' k .run) cs) w=.go (G (cm f t' k1 (md ret1)) cs) w #[]):Stp P c gl r main bs w v ⟨f,t,k,Wz,st⟩ ⟨f,t',k,Wz,st'⟩:=.inl ⟨⟨f,t,k1,ret1,st⟩,w,#[],h _ _ _,⟨b.fn,i,b.below⟩,⟨f,t',k1,ret1,st'⟩,v,r,#[],d _ _ _,.refl l,⟨rfl,j,rfl,rfl,a⟩,λe g=>by simp at g⟩
theorem ou{q:XG->Bool}:∀{k k':List XG},exitTo id k=WX k'->k.all q=WY->k'.all q=WY|[],_,h,_=>by simp[exitTo]at h|x::k,k',h,b=>by simp only[UN,Um]at b;unfold exitTo at h;split at h;{rename_i d f e;cases e;split at h;{simp_all};exact ou h b.2};{rename_i e;cases e;exact ou h b.2};simp_all
theorem nZ:Xd P main (G (cm f t (.code .ret::k) .run) cs) w=.go (G (cm f t (.code .ret::k) .returning) cs) w #[]:=by rfl
theorem jz:Xd P main (G (cm f t (.inScope x::k) .run) cs) w=.go (G (cm f t k .run) cs) w #[]:=by rfl
theorem lB:Xd P main (G (cm f t (.code (.scope x)::k) .run) cs) w=.go (G (cm f t (.code x::.inScope x::k) .run) cs) w #[]:=by rfl
theorem iO(h:exitTo id k=W9):Xd P main (G (cm f t (.code (.exit id)::k) .run) cs) w=.ended (.stuck "exit, goto: no such block or label" ((cm f t (.code (.exit id)::k) .run).pos P)) w #[]:=by simp only[G,Xd,Xd.exec,cm,h,Option.elim,UK,if_false]
theorem j9:Xd P main (G (cm f t (.code (.region id ops WY)::k) .run) cs) w=match(choose (.order f id)).run P w with|.ok b w=>.go (G (cm f t (.inRegion ops (Region.schedule (P.follows .mixedOrders) ops b)::k) .run) cs) w #[]|.halt _ w=>.ended (.stuck "order" ((cm f t (.code (.region id ops WY)::k) .run).pos P)) w:=by rfl
theorem stepG_unwanted(h:((ops[i]?).map (Region.wanted · (Xp ops t))).getD Wz=Wz):Xd P main (G (cm f t (.inRegion ops (i::rest)::k) .run) cs) w=.go (G ((cm f t (.inRegion ops (i::rest)::k) .run).finish Xi) cs) w #[]:=by simp only[G,Xd,Xd.exec,cm,h,UK,if_false]
section op
variable{w1:W6}
abbrev nD(f:Xw)(t:Array W8)(ops:Array XW)(i:Nat)(rest:List Nat)(k:List XG):Xk:=cm f t (.inRegion ops (i::rest)::k) .run
theorem jf{v:W8}(d:ops[i]?=WX o)(e:Region.wanted o (Xp ops t)=WY)(b:(Xj (nD f t ops i rest k).eval o).run P w=.ok (.value v) w1):Xd P main (G (nD f t ops i rest k) cs) w=.go (G ((nD f t ops i rest k).finish v) cs) w1 (seen P f ((Xj (nD f t ops i rest k).eval o).events P w #[])):=by simp only[cm]at b;simp[G,Xd,Xd.exec,Xd.oper,Xd.apply,Xk.oper?,cm,d,e,b,GStep.after]
theorem jZ(d:ops[i]?=WX o)(e:Region.wanted o (Xp ops t)=WY)(b:(Xj (nD f t ops i rest k).eval o).run P w=.ok .skip w1):Xd P main (G (nD f t ops i rest k) cs) w=.go (G ((nD f t ops i rest k).finish Xi) cs) w1 (seen P f ((Xj (nD f t ops i rest k).eval o).events P w #[])):=by simp only[cm]at b;simp[G,Xd,Xd.exec,Xd.oper,Xd.apply,Xk.oper?,cm,d,e,b,GStep.after]
theorem je{j:Xw}(d:ops[i]?=WX o)(e:Region.wanted o (Xp ops t)=WY)(b:(Xj (nD f t ops i rest k).eval o).run P w=.ok (.enter j args) w1):Xd P main (G (nD f t ops i rest k) cs) w=.go (G (Xk.enter P j args .normal) (nD f t ops i rest k::cs)) w1 (seen P f ((Xj (nD f t ops i rest k).eval o).events P w #[])):=by simp only[cm]at b;simp[G,Xd,Xd.exec,Xd.oper,Xd.apply,Xk.oper?,cm,d,e,b,GStep.after]
theorem lI{v:W8}(e:ops[i]?=WX o)(g:Region.wanted o (Xp ops t)=WY)(d:(Xj (nD f t ops i rest k).eval o).run P w=.halt (.panic v) w1):Xd P main (G (nD f t ops i rest k) cs) w=.go (G (cm f t (.inRegion ops (i::rest)::k) (.panicking [{v,recovered:=Wz}])) cs) w1 (seen P f ((Xj (nD f t ops i rest k).eval o).events P w #[])):=by simp only[cm]at d;simp[G,Xd,Xd.exec,Xd.oper,Xd.apply,Xk.oper?,cm,e,g,d,GStep.after,Xk.raise]
theorem l7(e:ops[i]?=WX o)(j:Region.wanted o (Xp ops t)=WY)(b:(Xj (nD f t ops i rest k).eval o).run P w=.halt h w1)(d:AS h=WY)(l:∀v,h≠.panic v):∃x w2,(Xd P main (G (nD f t ops i rest k) cs) w).bare=.ended x w2:=by simp only[cm]at b;cases h with|panic v=>simp_all|stuck s=>simp[G,Xd,Xd.exec,Xd.oper,Xd.apply,Xk.oper?,cm,e,j,b]|unsupported u=>(cases u with|initOrder g=>simp[AS]at d|_=>simp[G,Xd,Xd.exec,Xd.oper,Xd.apply,Xk.oper?,cm,e,j,b])|_=>simp[AS]at d
end op
theorem v7.sd(b:v7 P c gl ⟨f,t,.inRegion ops (i::rest)::k,Wz,st⟩):(i::rest).all (opAt P c gl ops)=WY/\k.all (aW P c gl)=WY:=by have:=b.items;simp only[UN,Um]at this;exact this
theorem gB(args:Array W8)(a:P.funcs[f]?=WX fn):Xk.enter P f args .normal=cm f (args++Array.replicate (fn.ntmps-args.size) Xi) [.code (fn.body.getD (.refuse "unsupported: a function without a Go body is entered"))] .run:=by simp[Xk.enter,cm,a]
theorem n9(args:Array W8)(a:P.funcs[f]?=W9):Xk.enter P f args .normal=cm f (args++Array.replicate (0-args.size) Xi) [.code (.refuse "unsupported: a function without a Go body is entered")] .run:=by simp[Xk.enter,cm,a]
theorem yq(g:Listed P c gl){j:Xw}(f:c.fns j=WY)(x d:Array W8):∃n b,(Xk.enter P j x .normal=cm j (x++Array.replicate (n-x.size) Xi) [.code b] .run/\Xk.enter P j d .normal=cm j (d++Array.replicate (n-d.size) Xi) [.code b] .run)/\codeOk P c gl b=WY:=by cases a:P.funcs[j]? with|none=>exact⟨0,_,⟨n9 x a,n9 d a⟩,rfl⟩|some e=>refine⟨e.ntmps,_,⟨gB x a,gB d a⟩,?_⟩;obtain⟨b,h|⟨h,i⟩⟩:=g.body j e f a;{rw[h];rfl};simp_all
theorem Lu(I:Listed P c gl)(V:∀g,gl g=WY->r g=WX g)(Y:cG c r w v)(E:ak c r t t')(D:kK c r st st')(A:v7 P c gl ⟨f,t,.inRegion ops (i::rest)::k,Wz,st⟩)(z:ops[i]?=WX o)(a:Region.wanted o (Xp ops t)=WY):Stp P c gl r main bs w v ⟨f,t,.inRegion ops (i::rest)::k,Wz,st⟩ ⟨f,t',.inRegion ops (i::rest)::k,Wz,st'⟩:=by obtain⟨p,R⟩:=A.sd;have M:=nx p z;have m:=ss I.aL I.ext M (ev:=(nD f t ops i rest k).eval) (λx q=>pB E V I.qv x q) (λ_=>⟨rfl,rfl⟩) w v Y;(have l:Region.wanted o (Xp ops t')=WY:=by rw[funext λj=>l5 E ops j];exact a);unfold Stp;rw[cC.vo];cases q:(Xj (nD f t ops i rest k).eval o).run P w with|halt h H=>rw[q]at m;refine .inr ?_;by_cases S:∃u,h=.panic u;{obtain⟨u,rfl⟩:=S;rw[lI z a q];refine .inr ⟨f,t,_,_,st,H,_,rfl,λd w r sv=>by simp,λx q=>(A.below x q).2.2⟩};obtain⟨x,w2,e⟩:=l7 z a q m (λu e=>S ⟨u,e⟩);exact .inl ⟨x,w2,e⟩|ok n H=>rw[q]at m;obtain⟨n',O,J,L,B,q1,Z⟩:=m;have C:∀e∈seen P f ((Xj (nD f t' ops i rest k).eval o).events P v #[]),rq c J e:=λe U=>Z e (mem_seen U);refine .inl ?_;cases q1 with|@value u u' X=>refine⟨⟨f,_,.inRegion ops rest::k,Wz,st⟩,H,seen P f ((Xj (nD f t ops i rest k).eval o).events P w #[]),(jf z a q).trans ?_,⟨A.fn,?_,A.below⟩,⟨f,_,.inRegion ops rest::k,Wz,st'⟩,O,J,_,(jf z l L).trans ?_,B,⟨rfl,pK (E.mono B.le) ((ops[i]?).bind (·.dst)) X,rfl,rfl,D.mono B.le⟩,C⟩;{rfl};{simp only[UN,aW,R,uT p,VJ]};rfl|skip=>refine⟨⟨f,_,.inRegion ops rest::k,Wz,st⟩,H,seen P f ((Xj (nD f t ops i rest k).eval o).events P w #[]),(jZ z a q).trans ?_,⟨A.fn,?_,A.below⟩,⟨f,_,.inRegion ops rest::k,Wz,st'⟩,O,J,_,(jZ z l L).trans ?_,B,⟨rfl,pK (E.mono B.le) ((ops[i]?).bind (·.dst)) fL,rfl,rfl,D.mono B.le⟩,C⟩;{rfl};{simp only[UN,aW,R,uT p,VJ]};rfl|@enter j x K W F=>obtain⟨n,b,Q,T⟩:=yq I W x K;refine⟨⟨j,x++Array.replicate (n-x.size) Xi,[.code b],Wz,(f,t,.inRegion ops (i::rest)::k)::st⟩,H,seen P f ((Xj (nD f t ops i rest k).eval o).events P w #[]),(je z a q).trans ?_,⟨trivial,?_,?_⟩,⟨j,K++Array.replicate (n-K.size) Xi,[.code b],Wz,(f,t',.inRegion ops (i::rest)::k)::st'⟩,O,J,_,(je z l L).trans ?_,B,⟨rfl,?_,rfl,rfl,.cons (E.mono B.le) (D.mono B.le)⟩,C⟩;{rw[Q.1];rfl};{simp[aW,T]};{intro y N;rcases Up.1 N with rfl|N;{exact⟨A.fn,A.items,ops,i,rest,k,rfl⟩};exact A.below y N};{rw[Q.2];rfl};rw[F.size.symm];exact F.append (.replicate _ fL)
end
section
theorem ab.x8{f f':α->XE W8}:∀(l:List α){r:bC}{x x':Array W8},ak c r x x'->(∀a b,r.le b->ab P c b (f a) (f' a) (ai c))->ab P c r (l.foldlM (λbs a=>Functor.map bs.push (f a)) x) (l.foldlM (λbs a=>bs.push<$>f' a) x') (ak c)|[],_,_,_,h,_=>ab.pure h|a::l,r,x,x',h,e=>by simp only[WN];refine ab.bind (Q:=ak c) ?_ λb y n d j=>ab.x8 l j λa k g=>e a k (bC.le_trans d g);simp only[<-bind_pure_comp];exact ab.bind (e a r (bC.le_refl r)) λb v m d i=>ab.pure ((h.mono d).push i)
theorem ab.mapM{f f':α->XE W8}(l:Array α)(h:∀a b,r.le b->ab P c b (f a) (f' a) (ai c)):ab P c r (l.mapM f) (l.mapM f') (ak c):=by rw[Xs,Xs,<-Xu,<-Xu];exact ab.x8 l.toList .empty h
theorem j4(fn:Func)(h:ak c r t t'):ab P c r (results fn t) (results fn t') (ai c):=by refine ab.bind (ab.mapM _ λa g d=>?_) λg x m d b=>ab.pure ?_;{cases a with|tmp i=>exact ab.pure ((h.mono d).getD i fL)|cell i j=>exact ab.bind (ab.asAddr ((h.mono d).getD i fL)) λl a k _ f=>ab.loadVar j f};by_cases e:x.size=1;{rw[dif_pos e,dif_pos (b.size▸e)];exact b.el 0 _ _ (Ut _) (Ut _)};rw[dif_neg e,dif_neg (b.size▸e)];exact .tuple b.size b.el
section ret
variable{x:Xk}{w1:W6}
theorem bN(a:P.funcs[f]?=W9):Xd P main (G (cm f t k .returning) (x::cs)) w=.go (G (x.finish (t.getD 0 Xi)) cs) w #[]:=by simp[G,Xd,unwind,doReturn,cm,a]
theorem aQ{v:W8}(a:P.funcs[f]?=WX fn)(b:(results fn t).run P w=.ok v w1):Xd P main (G (cm f t k .returning) (x::cs)) w=.go (G (x.finish v) cs) w1 (seen P f ((results fn t).events P w #[])):=by simp[G,Xd,unwind,doReturn,cm,a,b,GStep.after]
theorem c8(a:P.funcs[f]?=WX fn)(b:(results fn t).run P w=.halt h w1):∃o w2,(Xd P main (G (cm f t k .returning) (x::cs)) w).bare=.ended o w2:=by cases h<;>simp[G,Xd,unwind,cm,a,b]
end ret
theorem yz{t0':Array W8}(A:cG c r w v)(z:ak c r t t')(l:ak c r t0 t0')(j:kK c r st st')(y:v7 P c gl ⟨f,t,k,WY,(f0,t0,.inRegion ops (i::rest)::k0)::st⟩):Stp P c gl r main bs w v ⟨f,t,k,WY,(f0,t0,.inRegion ops (i::rest)::k0)::st⟩ ⟨f,t',k,WY,(f0,t0',.inRegion ops (i::rest)::k0)::st'⟩:=by obtain⟨s,C,-⟩:=y.below _ (Uu ..);have a:=λx m=>y.below x (Uw _ m);(have g:(XG.inRegion ops rest::k0).all (aW P c gl)=WY:=by simp only[UN,aW]at C⊢;simp_all);cases d:P.funcs[f]? with|none=>refine .inl ⟨⟨f0,_,.inRegion ops rest::k0,Wz,st⟩,w,#[],(bN d).trans ?_,⟨s,g,a⟩,⟨f0,_,.inRegion ops rest::k0,Wz,st'⟩,v,r,#[],(bN d).trans ?_,.refl A,⟨rfl,pK l ((ops[i]?).bind (·.dst)) (z.getD 0 fL),rfl,rfl,j⟩,λe p=>by simp at p⟩;{rfl};rfl|some n=>have b:=j4 n z (P:=P) w v A;cases m:(results n t).run P w with|halt h B=>exact .inr (.inl (c8 d m))|ok u B=>rw[m]at b;obtain⟨J,I,H,D,q,F,E⟩:=b;refine .inl ⟨⟨f0,_,.inRegion ops rest::k0,Wz,st⟩,B,seen P f ((results n t).events P w #[]),(aQ d m).trans ?_,⟨s,g,a⟩,⟨f0,_,.inRegion ops rest::k0,Wz,st'⟩,I,H,seen P f ((results n t').events P v #[]),(aQ d D).trans ?_,q,⟨rfl,pK (l.mono q.le) ((ops[i]?).bind (·.dst)) F,rfl,rfl,j.mono q.le⟩,λe p=>E e (mem_seen p)⟩;{rfl};rfl
theorem kq{x:Xz}{b:XX}(h:(cm f t (.code (.cond x a b)::k) .run).eval x=.bool u):Xd P main (G (cm f t (.code (.cond x a b)::k) .run) cs) w=.go (G (cm f t (.code (if u then a else b)::k) .run) cs) w #[]:=by simp only[cm]at h;simp[G,Xd,Xd.exec,cm,h]
theorem jA{x:Xz}{b:XX}(h:∀u,(cm f t (.code (.cond x a b)::k) .run).eval x≠.bool u):∃o w2,(Xd P main (G (cm f t (.code (.cond x a b)::k) .run) cs) w).bare=.ended o w2:=by simp only[cm]at h;simp only[G,Xd,Xd.exec,cm];simp
theorem QX{x x':W8}(h:x=.bool u)(k:ai c r x x'):x'=.bool u:=by subst h;cases k;rfl
theorem sn(V:Listed P c gl)(U:∀g,gl g=WY->r g=WX g)(z:cG c r w v)(hr:nR c r s s')(p:v7 P c gl s)(hne:s.ret=WY->s.st≠[]):Stp P c gl r main bs w v s s':=by obtain⟨f,t,k,R,Y⟩:=s;obtain⟨f',M,k',K,L⟩:=s';obtain⟨N,y,Z,e3,d⟩:=hr;simp only at N y Z e3 d;subst f' k' K;cases R with|true=>(cases d with|nil=>simp_all|@cons f0 t0 t0' k0 l l' h0 O=>obtain⟨-,-,n,i,B,k1,e⟩:=p.below _ (Uu ..);simp only at e;subst e;exact yz z y h0 O p)|false=>cases k with|nil=>exact Stp.ctl (ret1:=WY) (k1:=[]) z y d p rfl (λ_ _ _=>by rfl) (λ_ _ _=>by rfl)|cons x k=>have q:=p.items;simp only[UN,Um]at q;obtain⟨q,A⟩:=q;cases x with|code a=>(cases a with|skip=>exact Stp.ctl (ret1:=Wz) (k1:=k) z y d p A (λ_ _ _=>by rfl) (λ_ _ _=>by rfl)|label l=>exact Stp.ctl (ret1:=Wz) (k1:=k) z y d p A (λ_ _ _=>by rfl) (λ_ _ _=>by rfl)|ret=>exact Stp.ctl (ret1:=WY) z y d p p.items (λ_ _ _=>nZ) (λ_ _ _=>nZ)|seq a b=>exact Stp.ctl (ret1:=Wz) (k1:=.code a::.code b::k) z y d p (by simp only[aW,codeOk,Um]at q;simp[aW,codeOk,A,q]) (λ_ _ _=>by rfl) (λ_ _ _=>by rfl)|block id a=>exact Stp.ctl (ret1:=Wz) (k1:=.code a::.inBlock id::k) z y d p (by simp only[aW,codeOk,Um]at q;simp[aW,codeOk,A,q]) (λ_ _ _=>by rfl) (λ_ _ _=>by rfl)|loop a=>exact Stp.ctl (ret1:=Wz) (k1:=.code a::.inLoop a::k) z y d p (by simp only[aW,codeOk,Um]at q;simp[aW,codeOk,A,q]) (λ_ _ _=>by rfl) (λ_ _ _=>by rfl)|scope a=>exact Stp.ctl (ret1:=Wz) (k1:=.code a::.inScope a::k) z y d p (by simp only[aW,codeOk,Um]at q;simp[aW,codeOk,A,q]) (λ_ _ _=>lB) (λ_ _ _=>lB)|refuse why=>exact .inr (.inl ⟨_,w,by rfl⟩)|exit id=>(cases D:exitTo id k with|none=>exact .inr (.inl ⟨_,w,by rw[cC.vo,iO D];rfl⟩)|some k1=>exact Stp.ctl (ret1:=Wz) z y d p (ou D A) (λ_ _ _=>by simp[G,Xd,Xd.exec,cm,md,D]) (λ_ _ _=>by simp[G,Xd,Xd.exec,cm,md,D]))|cond x a b=>simp only[aW,codeOk,Um]at q;have hv:=pB y U V.qv (f:=f) (k:=.code (.cond x a b)::k) (m:=.run) x q.1.1;(cases J:(cm f t (.code (.cond x a b)::k) .run).eval x with|bool u=>have:=QX J hv;exact Stp.ctl (ret1:=Wz) (k1:=.code (if u then a else b)::k) z y d p (by cases u<;>simp[aW,q,A]) (λ_ _ _=>kq J) (λ_ _ _=>kq this)|_=>exact .inr (.inl (jA λu e=>by simp_all)))|region id n F=>(have I:n.all (tN P c gl)=WY:=by assumption);(have H:∀l,(XG.inRegion n l::k).all (aW P c gl)=WY:=λl=>by simp only[UN,Um];exact⟨IQ I l,A⟩);(cases F with|false=>exact Stp.ctl (ret1:=Wz) (k1:=.inRegion n (List.range n.size)::k) z y d p (H _) (λ_ _ _=>by rfl) (λ_ _ _=>by rfl)|true=>have X:=ab.cM (r:=r) (c:=c) (P:=P) (iA (.order f id)) w v z;unfold Stp;rw[cC.vo,j9];cases hc:(choose (.order f id)).run P w with|halt h S=>exact .inr (.inl ⟨_,S,rfl⟩)|ok u S=>rw[hc]at X;obtain⟨u',v1,r1,N,T,q1,-⟩:=X;subst q1;refine .inl ⟨⟨f,t,_,Wz,Y⟩,S,#[],rfl,⟨p.fn,H _,p.below⟩,⟨f,M,_,Wz,L⟩,v1,r1,#[],?_,T,⟨rfl,y.mono T.le,rfl,rfl,d.mono T.le⟩,λe D=>by simp at D⟩;rw[cC.vo,j9,N];rfl)|rangeFunc _ _ _ _=>simp[aW,codeOk]at q|goto l=>simp[aW,codeOk]at q)|inBlock id=>exact Stp.ctl (ret1:=Wz) (k1:=k) z y d p A (λ_ _ _=>by rfl) (λ_ _ _=>by rfl)|inLoop a=>exact Stp.ctl (ret1:=Wz) (k1:=.code a::.inLoop a::k) z y d p (by simp only[aW]at q;simp[aW,A,q]) (λ_ _ _=>by rfl) (λ_ _ _=>by rfl)|inScope a=>exact Stp.ctl (ret1:=Wz) (k1:=k) z y d p A (λ_ _ _=>jz) (λ_ _ _=>jz)|inRegion n l=>(cases l with|nil=>exact Stp.ctl (ret1:=Wz) (k1:=k) z y d p A (λ_ _ _=>by rfl) (λ_ _ _=>by rfl)|cons i B=>cases E:((n[i]?).map (Region.wanted · (Xp n t))).getD Wz with|true=>(cases W:n[i]? with|none=>simp_all|some o=>rw[W]at E;exact Lu V U z y d p W (by simp_all))|false=>(have Q:((n[i]?).map (Region.wanted · (Xp n M))).getD Wz=Wz:=by rw[show Xp n M=Xp n t from funext λj=>l5 y n j];exact E);refine .inl ⟨⟨f,_,.inRegion n B::k,Wz,Y⟩,w,#[],(stepG_unwanted E).trans ?_,⟨p.fn,?_,p.below⟩,⟨f,_,.inRegion n B::k,Wz,L⟩,v,r,#[],(stepG_unwanted Q).trans ?_,.refl z,⟨rfl,pK y ((n[i]?).bind (·.dst)) fL,rfl,rfl,d⟩,λe D=>by simp at D⟩;{rfl};{have:=p.items;simp only[UN,aW,Um]at this⊢;simp_all};rfl)|inRangeFunc _=>simp[aW]at q|endRangeFunc _=>simp[aW]at q|beginRound=>simp[aW]at q|call _ _ _ _=>simp[aW]at q|extern _ _=>simp[aW]at q
end
def re(w:W6)(T:Nat->XU->Nat)(D:Nat):W6:={w with tape:=T,drawn:=D}
@[simp]theorem TO(w:W6)(T b:Nat->XU->Nat)(D a:Nat):re (re w T D) b a=re w b a:=rfl
@[simp]theorem wJ(w:W6)(T:Nat->XU->Nat)(D:Nat):(re w T D).heap=w.heap:=rfl
@[simp]theorem Da(w:W6)(T:Nat->XU->Nat)(D:Nat)(a:XO):(re w T D).cell? a=w.cell? a:=rfl
theorem BA(w:W6)(T:Nat->XU->Nat)(D:Nat)(p:Xr)(a:XO)(b:Bool):(re w T D).farLoad p a b=w.farLoad p a b:=rfl
theorem wG(w:W6)(T:Nat->XU->Nat)(D:Nat)(p:Xr)(a:XO)(u:Xo)(k:XO)(v:W8)(b:Bool):(re w T D).viewStore p a u k v b=(w.viewStore p a u k v b).map λx=>(re x.1 T D,x.2):=by unfold W6.viewStore;have e:(re w T D).seen p a u k b=w.seen p a u k b:=rfl;rw[e];generalize w.seen p a u k b=j;by_cases i:(!tight p p.depth u)=WY;{simp only[i];rfl};simp only[i,UK];cases j with|error s=>rfl|ok x=>obtain⟨c,e,l,g,f,d⟩:=x;cases n:v.bytes? with|none=>rfl|some bytes=>simp only[bind,Except.bind,pure];by_cases h:WX bytes.length=Option.map (λx=>x.length) f.bytes?;{simp only[ne_eq,h,eq_false];generalize(List.foldlM (m:=Except String) _ c d)=z;cases z<;>rfl};simp only[ne_eq,h,eq_true];rfl
theorem qL(w:W6)(T:Nat->XU->Nat)(D:Nat)(p:Xr)(a:XO)(v:W8)(b:Bool):(re w T D).farStore p a v b=(w.farStore p a v b).map λx=>(re x.1 T D,x.2):=by unfold W6.farStore;rw[wJ];cases w.heap[a.block]? with|none=>rfl|some o=>(cases o<;>try rfl);simp only[wG];generalize w.viewStore _ _ _ _ _ _=z;cases z<;>rfl
theorem Ep(w:W6)(T:Nat->XU->Nat)(D:Nat)(a:XO)(n:Nat):(re w T D).freeze a n=re (w.freeze a n) T D:=by unfold W6.freeze;split<;>rfl
def xW:W8->Bool
 |.agg _|.tuple _=>WY
 |_=>Wz
theorem Tv(v:W8):xW v=WY\/xW v=Wz:=by simp
theorem uj(m:Mode)(a:XO)(g:XE α){v:W8}(h:xW v=WY)(w:W6):∃z,(XE.store m a v g).run P w=.halt z w:=by cases v<;>simp[xW]at h<;>exact⟨_,rfl⟩
theorem sG(m:Mode)(a:XO)(g:XE α){v:W8}(h:xW v=Wz)(w:W6):(XE.store m a v g).run P w=match w.cell? a with|some _=>if w.frozen? a then .halt (.unsupported (.unsafePointer "a write to bytes that a string shares")) w else g.run P (w.setCell a v)|none=>match w.farStore P a v (m==.atomic)with|.ok x=>g.run P x.1|.error h=>.halt h w:=by cases v<;>simp[xW]at h<;>(simp only[XE.run];split;{rename_i b;rw[b]};·split<;>simp_all)
theorem pP(m:Mode)(a:XO)(g:XE α){v:W8}(h:xW v=Wz)(w:W6):(XE.store m a v g).events P w #[]=match w.cell? a with|some _=>if w.frozen? a then#[]else g.events P (w.setCell a v) (#[].push ⟨.cell a,WY,m==.atomic⟩)|none=>match w.farStore P a v (m==.atomic)with|.ok x=>g.events P x.1 (#[]++x.2.toArray.map (⟨.cell ·,WY,m==.atomic⟩))|.error _=>#[]:=by cases v<;>simp[xW]at h<;>(simp only[XE.events,XE.runT];split<;>(try split)<;>simp_all)
theorem De(w:W6)(T:Nat->XU->Nat)(D:Nat)(a:XO):(re w T D).frozen? a=w.frozen? a:=rfl
theorem uk{w1:W6}{p:Xr}{a:XO}{v:W8}{b:Bool}{l:List XO}(h:w.farStore p a v b=.ok (w1,l)):w1.drawn=w.drawn/\w1.tape=w.tape:=by have c:w.farStore p a v b=(w.farStore p a v b).map λx=>(re x.1 w.tape w.drawn,x.2):=qL w w.tape w.drawn p a v b;rw[h]at c;injection c with c;have:=(UQ c).1;exact⟨(congrArg W6.drawn this).trans rfl,(congrArg W6.tape this).trans rfl⟩
theorem x5(x:XE α):∀{w w1:W6}{a:α},x.run P w=.ok a w1->(∀e∈x.events P w #[],e.loc≠.output)->w.drawn<=w1.drawn/\w1.tape=w.tape/\∀(T:Nat->XU->Nat)(D:Nat),(∀j q,w.drawn+j<w1.drawn->T (D+j) q=w.tape (w.drawn+j) q)->x.run P (re w T D)=.ok a (re w1 T (D+(w1.drawn-w.drawn))):=by induction x with|pure a=>simp|halt z=>simp|program g d=>intro w w1 b h c;exact d P h c|mark m g d=>intro w w1 b h c;refine d h λe i=>c e ?_;show e∈g.events P w _;rw[XE.events_acc];simp_all|sys s g _=>intro w w1 b h c;refine absurd rfl (c ⟨.output,WY,Wz⟩ ?_);show _∈(g _).events P _ _;rw[XE.events_acc];simp|choose q g d=>intro w w1 b h c;have B:∀u:W6,(XE.choose q g).run P u=if q.forced then(g 0).run P u else(g (q.cut (u.tape u.drawn q))).run P {u with drawn:=u.drawn+1}:=λ_=>rfl;(have I:(XE.choose q g).events P w #[]=if q.forced then(g 0).events P w #[]else(g (q.cut (w.tape w.drawn q))).events P {w with drawn:=w.drawn+1} #[]:=by simp only[XE.events,XE.runT];grind);rw[B]at h;rw[I]at c;simp only[B];by_cases F:q.forced=WY;{grind};rw[if_neg F]at h c;simp only[F,UK,if_false];obtain⟨J,H,K⟩:=d _ h c;simp only at J H;refine⟨by omega,H,λT D t=>?_⟩;(have:=K T (D+1) λj q M=>by have:=t (j+1) q (by grind);grind);have C:=t 0 q Ω;simp only[UW]at C;show(g (q.cut (T D q))).run P (re w T (D+1))=_;rw[C];refine Eq.trans this ?_;grind|load m a g d=>intro w w1 b h c;simp only[XE.run,Da,BA]at h⊢;(cases r:w.cell? a with|some v=>rw[r]at h;refine d v h λe i=>c e ?_;simp only[XE.events,XE.runT,r];show e∈(g v).events P w _;rw[XE.events_acc];simp_all|none=>rw[r]at h;cases l:w.farLoad P a (m==.atomic)with|error z=>simp_all|ok x=>rw[l]at h;refine d x.1 h λe i=>c e ?_;simp only[XE.events,XE.runT,r,l];show e∈(g x.1).events P w _;rw[XE.events_acc];simp_all)|store m a v g d=>intro w w1 b h c;rcases Tv v with y|y;{obtain⟨z,N⟩:=uj (P:=P) m a g y w;simp_all};simp only[sG m a g y,Da,qL,De]at h⊢;rw[pP m a g y]at c;(cases r:w.cell? a with|some u=>rw[r]at h c;simp only at h c⊢;split at h;{cases h};rename_i l;rw[if_neg l]at c;have:=d (w:=w.setCell a v) h λe i=>c e (by rw[XE.events_acc];simp_all);refine⟨this.1,this.2.1,λT D t=>?_⟩;exact(if_neg l).trans (this.2.2 T D t)|none=>rw[r]at h c;simp only at h c⊢;cases l:w.farStore P a v (m==.atomic)with|error z=>simp_all|ok x=>rw[l]at h c;simp only[Except.map]at h c⊢;have A:=uk l;have:=d (w:=x.1) h λe i=>c e (by rw[XE.events_acc];simp_all);simp_all)|new o g d=>intro w w1 b h c;exact d _ h c|shape k g d=>intro w w1 b h c;exact d _ h c|freeze a n g d=>intro w w1 b h c;(have A:(w.freeze a n).drawn=w.drawn/\(w.freeze a n).tape=w.tape:=by unfold W6.freeze;grind);have:=d (w:=w.freeze a n) h c;rw[A.1,A.2]at this;simp only[XE.run,Ep];exact this|frozen a g d=>intro w w1 b h c;exact d _ h c|getObj k g d=>intro w w1 b h c;(cases f:w.heap[k]? with|none=>simp only[XE.run,f]at h;cases h|some o=>cases o<;>first|(simp only[XE.run,f]at h;cases h;done)|(simp only[XE.run,f,wJ]at h⊢;refine d _ h λe i=>c e ?_;simp only[XE.events,XE.runT,f];show e∈(g _).events P w _;rw[XE.events_acc];exact UT.2 (.inr i)))|setObj k o g d=>intro w w1 b h c;cases f:w.heap[k]? with|none=>simp only[XE.run,f]at h;cases h|some L=>cases L<;>first|(simp only[XE.run,f]at h;cases h;done)|(simp only[XE.run,f,wJ]at h⊢;refine d (w:={w with heap:=w.heap.setIfInBounds k o}) h λe i=>c e ?_;simp only[XE.events,XE.runT,f];show e∈g.events P _ _;rw[XE.events_acc];exact UT.2 (.inr i))
def nF(r:bC):bC:=λb=>if(r b).isSome then WX b else W9
theorem qp{k:Nat}(h:r b=WX k):nF r b=WX b:=by simp[nF,h]
theorem ni{k:Nat}(h:nF r b=WX k):k=b/\∃j,r b=WX j:=by unfold nF at h;split at h;{rename_i e;cases h;exact⟨rfl,WA.1 e⟩};cases h
theorem du.self{a a':XO}(h:du c r a a'):du c (nF r) a a:=⟨qp h.1,rfl,rfl,h.2.2.2⟩
theorem l6{x:Array W8}(b:x.size=x'.size)(h:∀(i:Nat)(v a:W8),x[i]?=WX v->x'[i]?=WX a->ai c (nF r) v v):∀(i:Nat)(v a:W8),x[i]?=WX v->x[i]?=WX a->ai c (nF r) v a:=by grind
theorem ai.self{v v':W8}(h:ai c r v v'):ai c (nF r) v v:=by induction h with|bool b=>exact .bool b|int k n=>exact .int k n|string s=>exact .string s|gf=>exact .gf|ptr a=>exact .ptr a.self|gv n m=>exact .gv n m|slice n m a=>exact .slice n m a.self|cE a l=>exact .cE a a|kM=>exact .kM|map a=>exact .map (qp a)|func g i _ j _ e f=>exact .func g rfl (l6 i e) rfl (l6 j f)|nilFunc=>exact .nilFunc|nilIface=>exact .nilIface|iface t _ d=>exact .iface t d|agg s _ d=>exact .agg rfl (l6 s d)|tuple s _ d=>exact .tuple rfl (l6 s d)
theorem ak.self{x:Array W8}(h:ak c r x x'):ak c (nF r) x x:=⟨rfl,l6 h.size λi v d a b=>(h.el i v d a b).self⟩
theorem mC.self{o o':XN}(h:mC c r o o'):mC c (nF r) o o:=by cases h with|cells t f k=>exact .cells t f k.self|@map x j k s e=>refine .map k rfl λi d m a b=>?_;rw[a]at b;cases b;have g:=s▸(Uk.1 a).1;have:=e i d _ a (Ut g);exact⟨this.key.self,this.val.self,rfl⟩|iter s p=>exact .iter s p|number l a=>exact .number l a.self
theorem qo.self{o o':Option XN}(h:qo c r b o o'):qo c (nF r) b o o:=by cases h with|@seen x g t m j s l z y e=>refine .seen t t _ s l (Uj _) ⟨λ_=>rfl,y.2⟩ λi u p a b d=>?_;rw[b]at d;cases d;have f:=Ul (Uk.1 b).1 z;exact(e i u _ a b (Ut f)).self|own n k=>exact .own n k.self
theorem cG.self(h:cG c r w v):cG c (nF r) w w:=by refine⟨λb k e=>?_,λb k e=>?_,λb g k e d=>?_,h.qv,λb f e=>h.hid b f (by unfold nF at e;simp_all),λb k e=>?_,rfl,rfl,h.old,λb k e _=>(ni e).1.symm,h.gZ.1,h.gZ.1⟩;{obtain⟨rfl,j,a⟩:=ni e;exact h.qH _ _ a};{obtain⟨rfl,j,a⟩:=ni e;exact h.qH _ _ a};{exact .inl ((ni e).1.symm.trans (ni d).1)};obtain⟨rfl,j,a⟩:=ni e;exact(h.blk _ _ a).self
theorem kK.self{l l':List (Xw×Array W8×List XG)}(h:kK c r l l'):kK c (nF r) l l:=by induction h with|nil=>exact .nil|cons a _ b=>exact .cons a.self b
theorem nR.self(h:nR c r s s'):nR c (nF r) s s:=⟨rfl,h.t.self,rfl,rfl,h.st.self⟩
theorem cG.re(h:cG c r w w)(T:Nat->XU->Nat)(D:Nat):cG c r (re w T D) (re w T D):=⟨h.qH,h.yW,h.inj,h.qv,h.hid,h.blk,rfl,rfl,h.old,h.aL,h.gZ⟩
theorem rq.yQ{e:XQ}(h:rq c r e):e.loc≠.output:=by rcases h with⟨b,a,-⟩|h|⟨f,h⟩;{grind};{simp_all};simp_all
structure Fit(P:Xr)(c:dC)(gl:Nat->Bool)(s:cC)(w:W6):Prop where
 ok:v7 P c gl s
 rel:∃r,cG c r w w/\nR c r s s/\∀g,gl g=WY->r g=WX g
theorem Fit.re(h:Fit P c gl s w)(T:Nat->XU->Nat)(D:Nat):Fit P c gl s (re w T D):=by obtain⟨e,r,a,b,d⟩:=h;exact⟨e,r,a.re T D,b,d⟩
theorem Fit.A0(d:v7 P c gl s)(h:cG c r w v)(a:nR c r s s')(b:∀g,gl g=WY->r g=WX g):Fit P c gl s w:=⟨d,nF r,h.self,a.self,λg e=>qp (b g e)⟩
def bZ(P:Xr)(s:cC)(w:W6)(s1:cC)(w1:W6):Prop:=∃es,Xd P WY (s.g [er]) w=.go (s1.g [er]) w1 es
theorem Gc(h:st.map up=st'.map up):st=st':=by induction st generalizing st' with|nil=>simp_all|cons x l a=>cases st' with|nil=>simp at h|cons y b=>simp only[UP,Vs]at h;have:=h.1;simp only[up,cm]at this;grind
theorem IV(h:s.g [er]=s'.g [er]):s=s':=by obtain⟨f,t,k,b,o⟩:=s;obtain⟨l,p,n,a,j⟩:=s';simp only[cC.g,G,cm,Xc.mk.injEq,Xk.mk.injEq]at h;obtain⟨⟨d,e,g,-,m,-⟩,i,-⟩:=h;have:=Gc (Xv i);subst d e g this;(have:b=a:=by cases b<;>cases a<;>simp_all[md]);rw[this]
theorem Fit.step(p:Listed P c gl){s:cC}{w:W6}(h:Fit P c gl s w)(f:s.ret=WY->s.st≠[]):(∃a b,bZ P s w a b/\Fit P c gl a b)\/P5 (Xd P WY (s.g [er]) w):=by obtain⟨u,r,n,o,k⟩:=h;rcases sn p k n o u f with⟨a,b,d,i,t,y,C,v,A,j,x,q,-⟩|B;{refine .inl ⟨a,b,⟨d,i⟩,?_⟩;rw[i]at j;injection j with l m z;have:=IV l;subst this m;exact⟨t,v,x.rel,q,λg e=>x.le _ _ (k g e)⟩};simp_all
theorem bZ.NC{w1:W6}(h:bZ P s w s1 w1)(a:bZ P s w s2 w2):s2=s1/\w2=w1:=by obtain⟨_,h⟩:=h;obtain⟨_,a⟩:=a;rw[h]at a;injection a with b d;exact⟨(IV b).symm,d.symm⟩
def bM(P:Xr)(s:cC)(w:W6)(s1:cC)(w1:W6):Prop:=
 w.drawn<=w1.drawn/\w1.tape=w.tape/\∀(T:Nat->XU->Nat)(D:Nat),(∀j q,w.drawn+j<w1.drawn->T (D+j) q=w.tape (w.drawn+j) q)->bZ P s (re w T D) s1 (re w1 T (D+(w1.drawn-w.drawn)))
theorem bM.ctl{w1:W6}(a:bZ P s w s1 w1)(h:∀w,Xd P WY (s.g [er]) w=.go (s2.g [er]) w #[]):bM P s w s1 w1:=by obtain⟨rfl,rfl⟩:=a.NC ⟨#[],h w⟩;exact⟨Uj _,rfl,λT D _=>⟨#[],by simp_all⟩⟩
theorem bZ.gH{w1:W6}(a:bZ P s w s1 w1)(h:∃o w2,(Xd P WY (s.g [er]) w).bare=.ended o w2):False:=by obtain⟨b,e⟩:=a;simp_all
theorem bZ.qs{w1:W6}{ch:List PanicEntry}(d:bZ P s w s1 w1)(h:Xd P WY (s.g [er]) w=.go (G (cm f t k (.panicking ch)) cs) w2 es):False:=by obtain⟨a,e⟩:=d;rw[e]at h;injection h with h;simp only[cC.g,G,cm,Xc.mk.injEq,Xk.mk.injEq]at h;have:=h.1.2.2.2.2.1;cases b:s1.ret<;>simp[md,b]at this
theorem bM.E4{β:Type}{w1:W6}{x:XE β}{b:β}(k:bZ P s w s1 w1)(a:x.run P w=.ok b w2)(j:∀e∈x.events P w #[],e.loc≠.output)(h:∀w w2,x.run P w=.ok b w2->bZ P s w s2 w2):bM P s w s1 w1:=by obtain⟨rfl,rfl⟩:=k.NC (h w w2 a);obtain⟨d,f,g⟩:=x5 x a j;exact⟨d,f,λT D i=>h _ _ (g T D i)⟩
theorem Kh(v:Listed P c gl){w1:W6}(D:Fit P c gl ⟨f,t,.inRegion ops (i::rest)::k,Wz,st⟩ w)(q:bZ P ⟨f,t,.inRegion ops (i::rest)::k,Wz,st⟩ w s1 w1)(l:ops[i]?=WX o)(a:Region.wanted o (Xp ops t)=WY):bM P ⟨f,t,.inRegion ops (i::rest)::k,Wz,st⟩ w s1 w1:=by obtain⟨L,r,J,H,E⟩:=D;have I:=H.t;obtain⟨p,R⟩:=L.sd;have z:=nx p l;have d:=ss v.aL v.ext z (ev:=(nD f t ops i rest k).eval) (λx g=>pB I E v.qv x g) (λ_=>⟨rfl,rfl⟩) w w J;cases g:(Xj (nD f t ops i rest k).eval o).run P w with|halt h y=>rw[g]at d;by_cases B:∃u,h=.panic u;{obtain⟨u,rfl⟩:=B;exact(q.qs (lI l a g)).elim};exact(q.gH (l7 l a g d (λu e=>B ⟨u,e⟩))).elim|ok n y=>rw[g]at d;obtain⟨T,W,U,O,X,M,A⟩:=d;cases M with|@value u V S=>exact bM.E4 (s2:=⟨f,_,.inRegion ops rest::k,Wz,st⟩) q g (λe m=>(A e m).yQ) λw y e=>⟨_,(jf l a e).trans (by rfl)⟩|skip=>exact bM.E4 (s2:=⟨f,_,.inRegion ops rest::k,Wz,st⟩) q g (λe m=>(A e m).yQ) λw y e=>⟨_,(jZ l a e).trans (by rfl)⟩|@enter j x N F K=>obtain⟨n,b,C,Q⟩:=yq v F x N;exact bM.E4 (s2:=⟨j,x++Array.replicate (n-x.size) Xi,[.code b],Wz,(f,t,.inRegion ops (i::rest)::k)::st⟩) q g (λe m=>(A e m).yQ) λw y e=>⟨_,(je l a e).trans (by rw[C.1];rfl)⟩
theorem Gn{w1:W6}(o:Fit P c gl ⟨f,t,k,WY,(f0,t0,.inRegion ops (i::rest)::k0)::st⟩ w)(l:bZ P ⟨f,t,k,WY,(f0,t0,.inRegion ops (i::rest)::k0)::st⟩ w s1 w1):bM P ⟨f,t,k,WY,(f0,t0,.inRegion ops (i::rest)::k0)::st⟩ w s1 w1:=by obtain⟨A,r,s,p,z⟩:=o;have q:=p.t;cases b:P.funcs[f]? with|none=>refine bM.ctl (s2:=⟨f0,(match(ops[i]?).bind (·.dst)with|some d=>t0.setIfInBounds d (t.getD 0 Xi)|none=>t0),.inRegion ops rest::k0,Wz,st⟩) l λw=>?_;refine(bN b).trans ?_;rfl|some j=>have a:=j4 j q (P:=P) w w s;cases m:(results j t).run P w with|halt h w1=>exact(l.gH (c8 b m)).elim|ok u x=>rw[m]at a;obtain⟨D,E,C,y,F,B,v⟩:=a;refine bM.E4 (s2:=⟨f0,(match(ops[i]?).bind (·.dst)with|some d=>t0.setIfInBounds d u|none=>t0),.inRegion ops rest::k0,Wz,st⟩) l m (λe n=>(v e n).yQ) λw x e=>⟨seen P f ((results j t).events P w #[]),?_⟩;refine(aQ b e).trans ?_;rfl
theorem bZ.tape(F:Listed P c gl){w1:W6}(y:Fit P c gl s w)(H:s.ret=WY->s.st≠[])(h:bZ P s w s1 w1):bM P s w s1 w1:=by obtain⟨f,t,k,A,j⟩:=s;cases A with|true=>(cases j with|nil=>simp_all|cons x l=>obtain⟨K,N,M⟩:=x;obtain⟨-,-,g,i,p,D,e⟩:=y.ok.below _ (Uu ..);subst e;exact Gn y h)|false=>cases k with|nil=>exact bM.ctl (s2:=⟨f,t,[],WY,j⟩) h (λ_=>by rfl)|cons x k=>have m:=y.ok.items;cases x with|code a=>(cases a with|skip=>exact bM.ctl (s2:=⟨f,t,k,Wz,j⟩) h (λ_=>by rfl)|label l=>exact bM.ctl (s2:=⟨f,t,k,Wz,j⟩) h (λ_=>by rfl)|ret=>exact bM.ctl (s2:=⟨f,t,.code .ret::k,WY,j⟩) h (λ_=>by rfl)|seq a b=>exact bM.ctl (s2:=⟨f,t,.code a::.code b::k,Wz,j⟩) h (λ_=>by rfl)|block id a=>exact bM.ctl (s2:=⟨f,t,.code a::.inBlock id::k,Wz,j⟩) h (λ_=>by rfl)|loop a=>exact bM.ctl (s2:=⟨f,t,.code a::.inLoop a::k,Wz,j⟩) h (λ_=>by rfl)|scope a=>exact bM.ctl (s2:=⟨f,t,.code a::.inScope a::k,Wz,j⟩) h (λ_=>by rfl)|refuse J=>exact(h.gH ⟨_,w,by rfl⟩).elim|exit id=>(cases z:exitTo id k with|none=>exact(h.gH ⟨_,w,by rw[cC.vo,iO z];rfl⟩).elim|some D=>exact bM.ctl (s2:=⟨f,t,D,Wz,j⟩) h (λ_=>by simp[cC.g,G,Xd,Xd.exec,cm,md,z]))|cond x a b=>(cases I:(cm f t (.code (.cond x a b)::k) .run).eval x with|bool u=>exact bM.ctl (s2:=⟨f,t,.code (if u then a else b)::k,Wz,j⟩) h λ_=>kq I|_=>exact(h.gH (jA λu e=>by simp_all)).elim)|region id g q=>(cases q with|false=>exact bM.ctl (s2:=⟨f,t,.inRegion g (List.range g.size)::k,Wz,j⟩) h (λ_=>by rfl)|true=>have E:∀w:W6,∃u B,(choose (.order f id)).run P w=.ok u B:=λw=>⟨_,_,rfl⟩;obtain⟨u,B,e⟩:=E w;refine bM.E4 (s2:=⟨f,t,.inRegion g (Region.schedule (P.follows .mixedOrders) g u)::k,Wz,j⟩) h e (λe z=>by simp_all) λw B e=>⟨#[],?_⟩;rw[cC.vo,j9,e];rfl)|rangeFunc _ _ _ _=>simp[aW,codeOk]at m|goto l=>simp[aW,codeOk]at m)|inBlock id=>exact bM.ctl (s2:=⟨f,t,k,Wz,j⟩) h (λ_=>by rfl)|inLoop a=>exact bM.ctl (s2:=⟨f,t,.code a::.inLoop a::k,Wz,j⟩) h (λ_=>by rfl)|inScope a=>exact bM.ctl (s2:=⟨f,t,k,Wz,j⟩) h (λ_=>by rfl)|inRegion g l=>(cases l with|nil=>exact bM.ctl (s2:=⟨f,t,k,Wz,j⟩) h (λ_=>by rfl)|cons i p=>cases v:((g[i]?).map (Region.wanted · (Xp g t))).getD Wz with|true=>(cases C:g[i]? with|none=>simp_all|some o=>exact Kh F y h C (by simp_all))|false=>refine bM.ctl (s2:=⟨f,(match(g[i]?).bind (·.dst)with|some d=>t.setIfInBounds d Xi|none=>t),.inRegion g p::k,Wz,j⟩) h λw=>(stepG_unwanted v).trans ?_;rfl)|inRangeFunc _=>simp[aW]at m|endRangeFunc _=>simp[aW]at m|beginRound=>simp[aW]at m|call _ _ _ _=>simp[aW]at m|extern _ _=>simp[aW]at m
def xG(fr:Xk)(cs:List Xk):Prop:=
 (∃(f:Xw)(t:Array W8)(k:List XG)(ch:List PanicEntry)(st:List (Xw×Array W8×List XG)),fr=cm f t k (.panicking ch)/\cs=st.map up++[er]/\(∀d w r sv,k.head?≠WX (.call d w r sv))/\∀x∈st,∃ops i rest k',x.2.2=.inRegion ops (i::rest)::k')\/
 (((∃ch,fr={er with mode:=.panicking ch})\/fr=er\/fr={er with mode:=.returning})/\cs=[])
theorem xG.not{fr:Xk}(h:xG fr [er])(a:fr.mode=.returning):False:=by rcases h with⟨f,t,k,b,d,rfl,-⟩|⟨-,h⟩;{simp[cm]at a};cases h
theorem uS{fr:Xk}(h:xG fr cs)(w:W6):(∃n m w',step P (lone fr cs w)=.next (lone n m w')/\xG n m)\/∃o w',step P (lone fr cs w)=.ended o w':=by rcases h with⟨f,t,k,j,A,rfl,rfl,B,q⟩|⟨h,rfl⟩;{(have u:(cm f t k (.panicking j)).catches P=Wz:=by unfold Xk.catches;simp only[cm];grind);(have p:∀(x:Xk)(l:List Xk),Xd P WY {frame:=cm f t k (.panicking j),callers:=x::l,status:=.running,dying:=W9} w=.go {frame:=x.raise j,callers:=l,status:=.running,dying:=W9} w #[]:=by intro x l;unfold Xk.catches cm at u;simp[Xd,unwind,cm,Xk.catches];simp_all);cases A with|nil=>exact .inl ⟨_,_,w,step_lone_go (by rw[show List.map up []++[er]=[er]from rfl,p];rfl),.inr ⟨.inl ⟨j,rfl⟩,rfl⟩⟩|cons x l=>obtain⟨z,i,s,C,e⟩:=q x (Uu ..);refine .inl ⟨_,_,w,step_lone_go (by rw[show List.map up (x::l)++[er]=up x::(List.map up l++[er])from rfl,p];rfl),.inl ⟨x.1,x.2.1,x.2.2,j,l,rfl,rfl,λd w r D=>by grind,λy v=>q y (Uw _ v)⟩⟩};refine ?_;rcases h with⟨j,rfl⟩|rfl|rfl;{exact .inr ⟨_,w,step_lone_ended (by rfl)⟩};{exact .inl ⟨_,_,w,step_lone_go (by rfl),.inr ⟨.inr (.inr rfl),rfl⟩⟩};exact .inr ⟨_,w,step_lone_ended (by rfl)⟩
section
theorem runN_add:∀{k:Nat}{m m':Machine},runN P i m=.next m'->runN P (i+k) m=runN P k m':=by induction i with|zero=>intro k m m' h;cases h;simp|succ i a=>intro k m m' h;rw[show i+1+k=(i+k)+1 by omega];simp only[runN]at h⊢;grind
theorem yj{m m':Machine}(h:step P m=.next m'):runN P 1 m=.next m':=by simp[runN,h]
theorem oC:∀(n:Nat){fr:Xk}{cs:List Xk}{w:W6},xG fr cs->∀{fr':Xk}{w':W6},runN P n (lone fr cs w)=.next (lone fr' [er] w')->fr'.mode=.returning->False:=by intro n;induction n with|zero=>intro fr cs w h fr' w' e a;simp only[runN,lone,Stepped.next.injEq,Machine.mk.injEq]at e;have:=e.2.1;obtain⟨rfl,rfl⟩:=this;exact h.not a|succ n j=>intro fr cs w h fr' w' e a;simp only[runN]at e;rcases uS (P:=P) h w with⟨f,b,g,d,i⟩|⟨o,g,d⟩;{grind};simp_all
def lf(s:cC)(w:W6):Machine:=lone (cm s.f s.t s.k (md s.ret)) (s.st.map up++[er]) w
theorem gr{w1:W6}{fr:Xk}(h:Xd P WY (s.g [er]) w=.go (G fr cs) w1 es):step P (lf s w)=.next (lone fr cs w1):=step_lone_go (by have:Xd P WY {frame:=cm s.f s.t s.k (md s.ret),callers:=s.st.map up++[er],status:=.running,dying:=W9} w=.go (G fr cs) w1 es:=h;rw[this];rfl)
theorem bZ.Ru{w1:W6}(h:bZ P s w s1 w1):step P (lf s w)=.next (lf s1 w1):=by obtain⟨a,e⟩:=h;exact gr e
theorem Ey(h:P5 (Xd P WY (s.g [er]) w))(e:runN P (n+1) (lf s w)=.next (lone fr' [er] w'))(i:fr'.mode=.returning):False:=by simp only[runN]at e;rcases h with⟨o,a,h⟩|⟨f,t,k,b,j,a,l,h,d,g⟩;{rw[show step P (lf s w)=.ended o a from step_lone_ended h]at e;cases e};rw[gr h]at e;exact oC n (.inl ⟨f,t,k,b,j,rfl,rfl,d,g⟩) e i
theorem P5.not{w1:W6}(a:bZ P s w s1 w1)(h:P5 (Xd P WY (s.g [er]) w)):False:=by rcases h with h|⟨f,t,k,b,e,w1,d,h,-⟩;{exact a.gH h};exact a.qs h
def E5(s:cC):Prop:=s.ret=WY/\s.st=[]
theorem Ei(p:E5 s)(e:runN P (n+1) (lf s w)=.next (lone fr' [er] w'))(j:fr'.mode=.returning):False:=by obtain⟨f,t,k,q,z⟩:=s;obtain⟨d,g⟩:=p;subst d g;have i:xG er []:=.inr ⟨.inr (.inl rfl),rfl⟩;have a:∀v,er.finish v=er:=λv=>rfl;simp only[runN]at e;cases b:P.funcs[f]? with|none=>rw[gr ((bN b).trans (by rw[a]))]at e;exact oC n i e j|some m=>cases l:(results m t).run P w with|halt h r=>obtain⟨o,y,h⟩:=c8 b l;rw[show step P (lf ⟨f,t,k,WY,[]⟩ w)=.ended o y from step_lone_ended h]at e;cases e|ok u r=>rw[gr ((aQ b l).trans (by rw[a]))]at e;exact oC n i e j
inductive Lone(P:Xr)(Good:W8->W6->Prop):cC->W6->Prop
 |done{s:cC}{w:W6}{fn:Func}{v:W8}:E5 s->P.funcs[s.f]?=WX fn->(∀T D,(results fn s.t).run P (re w T D)=.ok v (re w T D)/\Good v (re w T D))->Lone P Good s w
 |step{s:cC}{w:W6}:¬E5 s->(∀T D,∃s1 w1,bZ P s (re w T D) s1 w1)->(∀T D s1 w1,bZ P s (re w T D) s1 w1->Lone P Good s1 w1)->Lone P Good s w
section bar
variable(P)(Good:W8->W6->Prop)
noncomputable def ve(p:cC×W6):(Nat->XU->Nat)×Nat:=open Classical in
 if h:∃a:(Nat->XU->Nat)×Nat,∀s1 w1,bZ P p.1 (re p.2 a.1 a.2) s1 w1->¬Lone P Good s1 w1 then Classical.choose h else(λ_ _=>0,0)
def Live(p:cC×W6):Prop:=¬E5 p.1/\∃q:cC×W6,bZ P p.1 (re p.2 (ve P Good p).1 (ve P Good p).2) q.1 q.2
noncomputable def FU(p:cC×W6):cC×W6:=open Classical in if h:Live P Good p then Classical.choose h.2 else p
noncomputable def iu(p:cC×W6):Nat->cC×W6
 |0=>p
 |i+1=>FU P Good (iu p i)
noncomputable def pos(p:cC×W6):Nat->Nat
 |0=>0
 |i+1=>open Classical in if Live P Good (iu P Good p i)then pos p i+((iu P Good p (i+1)).2.drawn-(ve P Good (iu P Good p i)).2)else pos p i
def PY(p:cC×W6)(i n:Nat):Prop:=pos P Good p i<=n/\(n<pos P Good p (i+1)\/¬Live P Good (iu P Good p i))
noncomputable def xL(p:cC×W6)(n:Nat)(q:XU):Nat:=open Classical in
 if h:∃i,PY P Good p i n then(ve P Good (iu P Good p (Classical.choose h))).1 ((ve P Good (iu P Good p (Classical.choose h))).2+(n-pos P Good p (Classical.choose h))) q else 0
end bar
section bar
theorem Hj(k:¬Lone P Good s w)(l:¬E5 s):∀d e,bZ P s (re w (ve P Good (s,w)).1 (ve P Good (s,w)).2) d e->¬Lone P Good d e:=by(have h:∃a:(Nat->XU->Nat)×Nat,∀d e,bZ P s (re w a.1 a.2) d e->¬Lone P Good d e:=by refine U6 λj=>k ?_;refine .step l (λT D=>?_) (λT D d e g=>?_);{refine U6 λf=>j ⟨(T,D),λd e g=>absurd ⟨d,e,g⟩ f⟩};refine U6 λf=>j ⟨(T,D),λm n i=>?_⟩;obtain⟨rfl,rfl⟩:=g.NC i;exact f);unfold ve;grind
theorem zZ(h:Live P Good p):bZ P p.1 (re p.2 (ve P Good p).1 (ve P Good p).2) (FU P Good p).1 (FU P Good p).2:=by unfold FU;grind
theorem yJ(h:¬Live P Good p):FU P Good p=p:=by unfold FU;simp_all
theorem sI(h:Live P Good (iu P Good p i)):pos P Good p (i+1)=pos P Good p i+((iu P Good p (i+1)).2.drawn-(ve P Good (iu P Good p i)).2):=by exact@if_pos _ (Classical.propDecidable _) h _ _ _
theorem zb(h:¬Live P Good (iu P Good p i)):pos P Good p (i+1)=pos P Good p i:=by exact@if_neg _ (Classical.propDecidable _) h _ _ _
theorem Fw(h:i<=j):pos P Good p i<=pos P Good p j:=by induction h with|refl=>omega|@step m _ b=>by_cases a:Live P Good (iu P Good p m);{rw[sI a];omega};rw[zb a];omega
theorem Dz(h:i<=j)(d:¬Live P Good (iu P Good p i)):iu P Good p j=iu P Good p i/\pos P Good p j=pos P Good p i:=by induction h with|refl=>simp|@step m _ b=>(have a:¬Live P Good (iu P Good p m):=by simp_all);exact⟨(yJ a).trans b.1,(zb a).trans b.2⟩
theorem Ga(h:PY P Good p i n)(q:XU):xL P Good p n q=(ve P Good (iu P Good p i)).1 ((ve P Good (iu P Good p i)).2+(n-pos P Good p i)) q:=by(have g:∀{i j:Nat},i<=j->PY P Good p i n->PY P Good p j n->iu P Good p j=iu P Good p i/\pos P Good p j=pos P Good p i:=by intro i j a e f;by_cases d:Live P Good (iu P Good p i);{rcases Nat.eq_or_lt_of_le a with rfl|b;{simp};have:=Fw (P:=P) (Good:=Good) (p:=p) (show i+1<=j from b);rcases e.2 with h|h;{have:=f.1;omega};simp_all};exact Dz a d);have k:∃i,PY P Good p i n:=⟨i,h⟩;unfold xL;grind
variable(hl:Listed P c gl)
include hl
theorem vS(j:Fit P c gl p.1 p.2)(k:¬Lone P Good p.1 p.2):∀i,Fit P c gl (iu P Good p i).1 (iu P Good p i).2/\¬Lone P Good (iu P Good p i).1 (iu P Good p i).2:=by intro i;induction i with|zero=>exact⟨j,k⟩|succ i b=>show Fit P c gl (FU P Good (iu P Good p i)).1 (FU P Good (iu P Good p i)).2/\¬Lone P Good (FU P Good (iu P Good p i)).1 (FU P Good (iu P Good p i)).2;by_cases h:Live P Good (iu P Good p i);{have a:=zZ h;refine⟨?_,Hj b.2 h.1 _ _ a⟩;rcases(b.1.re _ _).step hl (λe d=>h.1 ⟨e,d⟩)with⟨o,q,f,n⟩|g;{obtain⟨l,m⟩:=f.NC a;simp_all};exact(g.not a).elim};rw[yJ h];exact b
theorem H7(g:Fit P c gl p.1 p.2)(k:¬Lone P Good p.1 p.2)(h:Live P Good (iu P Good p i)):bZ P (iu P Good p i).1 (re (iu P Good p i).2 (xL P Good p) (pos P Good p i)) (iu P Good p (i+1)).1 (re (iu P Good p (i+1)).2 (xL P Good p) (pos P Good p (i+1))):=by have l:=zZ h;obtain⟨m,n,d⟩:=l.tape hl ((vS hl g k i).1.re _ _) (λe b=>h.1 ⟨e,b⟩);have a:(iu P Good p (i+1))=FU P Good (iu P Good p i):=rfl;(have:=d (xL P Good p) (pos P Good p i) λj q o=>by have f:PY P Good p i (pos P Good p i+j):=⟨UZ ..,.inl (by rw[sI h,a];have:(re (iu P Good p i).2 (ve P Good (iu P Good p i)).1 (ve P Good (iu P Good p i)).2).drawn=(ve P Good (iu P Good p i)).2:=rfl;omega)⟩;rw[Ga f];show _=(ve P Good (iu P Good p i)).1 ((ve P Good (iu P Good p i)).2+j) q;simp);rw[sI h,a];exact this
theorem Ct(a:Fit P c gl p.1 p.2)(b:¬Lone P Good p.1 p.2):∀i,(∀l,l<i->Live P Good (iu P Good p l))->runN P i (lf p.1 (re p.2 (xL P Good p) 0))=.next (lf (iu P Good p i).1 (re (iu P Good p i).2 (xL P Good p) (pos P Good p i))):=by intro i;induction i with|zero=>intro _;rfl|succ i d=>intro h;rw[runN_add (d λl hl=>h l Ω)];exact yj (H7 hl a b (h i Ω)).Ru
theorem oW(o:∀v w T D,Good v w->Good v (re w T D))(W:Fit P c gl s w)(H:∀T,∃n K w' v,runN P n (lf s (re w T 0))=.next (lone K [er] w')/\K.leaving P w' (.returned v)/\Good v w'):Lone P Good s w:=by refine U6 λhn=>?_;have f:Fit P c gl (s,w).1 (s,w).2:=W;have g:¬Lone P Good (s,w).1 (s,w).2:=hn;obtain⟨n,K,w',v,E,⟨C,hd,hk,J,R,h⟩,X⟩:=H (xL P Good (s,w));by_cases z:∀l,l<n->Live P Good (iu P Good (s,w) l);{have:=Ct hl f g n z;rw[show lf (s,w).1 (re (s,w).2 (xL P Good (s,w)) 0)=lf s (re w (xL P Good (s,w)) 0)from rfl,E]at this;obtain⟨a,b⟩:=vS hl f g n;generalize iu P Good (s,w) n=q at this a b;simp only[lf,lone,Stepped.next.injEq,Machine.mk.injEq,Array.mk.injEq,Vs,Xc.mk.injEq,and_true]at this;obtain⟨rfl,rfl,A⟩:=this;(have B:E5 q.1:=by refine⟨?_,?_⟩;{cases E:q.1.ret with|true=>rfl|false=>rw[E]at C;cases C};cases hq:q.1.st with|nil=>rfl|cons x l=>rw[hq]at A;have:=congrArg List.length A;grind);refine b (.done (v:=v) B R λT D=>?_);(have O:∀e∈(results J q.1.t).events P (re q.2 (xL P Good (s,w)) (pos P Good (s,w) n)) #[],e.loc≠.output:=by obtain⟨ok,r,L,y,-⟩:=a.re (xL P Good (s,w)) (pos P Good (s,w) n);have:=j4 J y.t (P:=P) _ _ L;rw[show(results J q.1.t).run P (re q.2 (xL P Good (s,w)) (pos P Good (s,w) n))=_ from h]at this;obtain⟨_,_,r1,_,_,_,l1⟩:=this;exactλe V=>(l1 e V).yQ);obtain⟨-,-,M⟩:=x5 _ h O;have N:=M T D λj q Z=>absurd Z Ω;rw[WC]at N;exact⟨N,o v (re q.2 (xL P Good (s,w)) (pos P Good (s,w) n)) T D X⟩};(have:∃i,i<n/\¬Live P Good (iu P Good (s,w) i)/\∀l,l<i->Live P Good (iu P Good (s,w) l):=by(have Q:∃i,i<n/\¬Live P Good (iu P Good (s,w) i):=by simp_all);obtain⟨i,hi⟩:=Q;induction i using Nat.strongRecOn with|_ i ih=>grind);obtain⟨i,Y,d,u⟩:=this;have L:=Ct hl f g i u;obtain⟨k,rfl⟩:∃k,n=i+(k+1):=⟨n-i-1,by omega⟩;have y:=runN_add (k:=k+1) L;rw[show lf (s,w).1 (re (s,w).2 (xL P Good (s,w)) 0)=lf s (re w (xL P Good (s,w)) 0)from rfl,E]at y;obtain⟨a,b⟩:=vS hl f g i;by_cases F:E5 (iu P Good (s,w) i).1;{exact Ei F y.symm C};rcases(a.re (xL P Good (s,w)) (pos P Good (s,w) i)).step hl (λe I=>F ⟨e,I⟩)with⟨s1,w1,M,N⟩|U;{obtain⟨-,-,S⟩:=M.tape hl (a.re _ _) (λe I=>F ⟨e,I⟩);(have:=S (ve P Good (iu P Good (s,w) i)).1 (ve P Good (iu P Good (s,w) i)).2 λj q _=>by show _=xL P Good (s,w) (pos P Good (s,w) i+j) q;rw[Ga (i:=i) ⟨UZ ..,.inr d⟩,WO]);exact d ⟨F,(s1,_),this⟩};exact Ey U y.symm C
end bar
end
structure Env(own RO:Nat->Prop)(CU:Nat->Nat->Prop)(v v1:W6):Prop where
 keep:∀k,own k\/RO k->v1.heap[k]?=v.heap[k]?
 cut:∀k n,CU k n->∀(x:Array W8)(t:Xo)(fr:Nat×Nat),v.heap[k]?=WX (.cells x t fr)->∃x' fr',v1.heap[k]?=WX (.cells x' t fr')/\x'.size=x.size/\∀o,o<n->x'[o]?=x[o]?
 grow:v.heap.size<=v1.heap.size
def Tz(own RO:Nat->Prop)(CU:Nat->Nat->Prop)(e:XQ):Prop:=
 (∃k,(match e.loc with|.cell a=>a.block=k|.obj j=>j=k|_=>False)/\(own k\/(RO k/\e.write=Wz))/\e.sync=Wz)\/(∃k n o,CU k n/\o<n/\e=⟨.cell ⟨k,o,W9⟩,Wz,Wz⟩)\/e.loc=.mark .noRoom\/∃f,e.loc=.mark (.extern f)
def more(own:Nat->Prop)(v v':W6):Nat->Prop:=λk=>own k\/(v.heap.size<=k/\k<v'.heap.size)
structure lK(own RO:Nat->Prop)(CU:Nat->Nat->Prop)(v v':W6)(es:Array XQ):Prop where
 keep:∀k,k<v.heap.size->¬own k->v'.heap[k]?=v.heap[k]?
 grow:v.heap.size<=v'.heap.size
 os:v'.os=v.os
 out:v'.output=v.output
 tape:v'.tape=v.tape
 evs:∀e∈es,Tz (more own v v') RO CU e
inductive Loc(P:Xr)(main:Bool)(RO:Nat->Prop)(CU:Nat->Nat->Prop)(Stop:(Nat->Prop)->Xc->W6->Prop):(Nat->Prop)->Xc->W6->Prop
 |stop{own:Nat->Prop}{g:Xc}{v:W6}:Stop own g v->Loc P main RO CU Stop own g v
 |step{own:Nat->Prop}{g:Xc}{v:W6}:g.status=.running->(∀v1,Env own RO CU v v1->∃g' v' es,Xd P main g v1=.go g' v' es/\lK own RO CU v1 v' es)->
  (∀v1 g' v' es,Env own RO CU v v1->Xd P main g v1=.go g' v' es->Loc P main RO CU Stop (more own v1 v') g' v')->Loc P main RO CU Stop own g v
theorem Loc.bind{S S':(Nat->Prop)->Xc->W6->Prop}{g:Xc}(h:Loc P main RO CU S own g v)(k:∀own g v,S own g v->Loc P main RO CU S' own g v):Loc P main RO CU S' own g v:=by induction h with|stop h=>exact k _ _ _ h|step a h _ b=>exact .step a h b
theorem Env.refl(own RO:Nat->Prop)(CU:Nat->Nat->Prop)(v:W6):Env own RO CU v v:=⟨λ_ _=>rfl,λ_ _ _ x _ a h=>⟨x,a,h,rfl,λ_ _=>rfl⟩,Uj _⟩
theorem Env.trans(h:Env own RO CU v v1)(k:Env own RO CU v1 v2):Env own RO CU v v2:=⟨λi b=>(k.keep i b).trans (h.keep i b),λi n a x t f g=>by obtain⟨j,e,d,q,o⟩:=h.cut i n a x t f g;obtain⟨u,m,l,s,p⟩:=k.cut i n a j t e d;simp_all,Uz h.grow k.grow⟩
structure Reach(c:dC)(r:bC)(own RO:Nat->Prop)(CU:Nat->Nat->Prop)(v:W6):Prop where
 yW:∀b k,r b=WX k->own k\/(c.seen b/\(RO k\/CU k (c.E6 b)))
 old:∀k,own k\/RO k->k<v.heap.size
theorem cG.env(h:cG c r w v)(z:Reach c r own RO CU v)(f:Env own RO CU v v1):cG c r (Go.ab.re w v1.tape v1.drawn) v1:=⟨h.qH,λb k e=>Ul (h.yW b k e) f.grow,h.inj,h.qv,h.hid,λb k e=>by have:=h.blk b k e;rcases z.yW b k e with g|⟨C,g|g⟩;{rw[f.keep k (.inl g)];exact this};{rw[f.keep k (.inr g)];exact this};show qo c r b w.heap[b]? v1.heap[k]?;revert this;generalize w.heap[b]?=J;generalize j:v.heap[k]?=I;intro this;cases this with|@seen x A t m q s l D y e=>obtain⟨K,p,o,F,E⟩:=f.cut k _ g A m q j;rw[o];refine .seen t m p s l Ω y λi u H a b d=>?_;grind|own n _=>simp_all,rfl,rfl,h.old,h.aL,h.gZ.1,Uz h.gZ.2 f.grow⟩
theorem Reach.env(a:Reach c r own RO CU v)(b:Env own RO CU v v1):Reach c r own RO CU v1:=⟨a.yW,λk h=>Ul (a.old k h) b.grow⟩
theorem Ext.mine(h:Ext c r w v r' w' v')(m:Reach c r own RO CU v)(u:∀e∈es,rq c r' e):lK own RO CU v v' es/\Reach c r' (more own v v') RO CU v':=by have q:=h.size;have D:=h.grow;(have f:∀b k,r' b=WX k->more own v v' k\/(c.seen b/\(RO k\/CU k (c.E6 b))):=λb k e=>by rcases UX b w.heap.size with g|g;{rw[h.zu b g]at e;rcases m.yW b k e with x|x;{exact .inl (.inl x)};simp_all};have n:=h.rel.qH b k e;have o:=h.rel.yW b k e;rw[h.new b g n]at e;cases e;exact .inl (.inr ⟨by omega,o⟩));refine⟨⟨λk d E=>h.keep k d λb g=>?_,by omega,h.os,h.out,h.tape,λe y=>?_⟩,f,λk d=>?_⟩;{rcases m.yW b k g with x|x;{simp_all};grind};{rcases u e y with⟨b,g,F,l⟩|x;{(have:∃k,(match e.loc with|.cell a=>a.block=k/\(c.seen b->a.off<c.E6 b/\a.spot=W9)|.obj j=>j=k/\¬c.seen b|_=>False)/\r' b=WX k:=by grind);obtain⟨k,n,o⟩:=this;(have i:(match e.loc with|.cell a=>a.block=k|.obj j=>j=k|_=>False):=by grind);rcases f b k o with x|⟨q,x|x⟩;{exact .inl ⟨k,i,.inl x,l⟩};{refine .inl ⟨k,i,.inr ⟨x,?_⟩,l⟩;simp_all};refine .inr (.inl ?_);obtain⟨p,I,H⟩:=e;cases p with|cell a=>obtain⟨rfl,t⟩:=n;obtain⟨B,C⟩:=t q;obtain⟨z,A,s⟩:=a;grind|obj j=>simp_all|_=>grind};exact .inr (.inr x)};rcases d with(d|d)|d;{have:=m.old k (.inl d);omega};{exact d.2};have:=m.old k (.inr d);omega
structure Left(c:dC)(r:bC)(own RO:Nat->Prop)(v:W6)(own1:Nat->Prop)(v1:W6):Prop where
 keep:∀k,own k\/RO k->(∀b,r b=WX k->c.seen b)->v1.heap[k]?=v.heap[k]?
 mine:∀k,own1 k->own k\/v.heap.size<=k
 more:∀k,own k->own1 k
 grow:v.heap.size<=v1.heap.size
theorem Left.refl(c:dC)(r:bC)(own RO:Nat->Prop)(v:W6):Left c r own RO v own v:=⟨λ_ _ _=>rfl,λ_ h=>.inl h,λ_ h=>h,Uj _⟩
theorem Left.after{own1:Nat->Prop}(n:Reach c r own RO CU v)(m:Env own RO CU v v1)(f:Ext c r w v1 r' w' v')(h:Left c r' (Go.ab.more own v1 v') RO v' own1 v2):Left c r own RO v own1 v2:=by have q:=f.size;have p:=f.grow;have j:=m.grow;(have l:∀b k,k<v1.heap.size->r' b=WX k->r b=WX k:=λb k a e=>by rcases UX b w.heap.size with d|d;{rw[<-f.zu b d];exact e};have i:=f.rel.qH b k e;rw[f.new b d i]at e;grind);refine⟨λk a d=>?_,λk a=>?_,λk a=>h.more k (.inl a),by have:=h.grow;omega⟩;{have g:k<v1.heap.size:=Ul (n.old k a) j;rw[h.keep k (a.imp .inl id) λb e=>d b (l b k g e),f.keep k g d,m.keep k a]};rcases h.mine k a with(i|i)|i;{grind};{omega};omega
theorem Lone.loc(hl:Listed P c gl)(h:Lone P Good s w):∀{r:bC}{own:Nat->Prop}{v:W6}{s':cC},v7 P c gl s->(∃T D,cG c r (re w T D) v)->nR c r s s'->(∀g,gl g=WY->r g=WX g)->Reach c r own RO CU v->(∀a x u p n v1,r.le a->Good u n->cG c a n v1->ai c a u p->Reach c a x RO CU v1->Left c r own RO v x v1->Loc P main RO CU Stop x (G (caller.finish p) cs) v1)->Loc P main RO CU Stop own (s'.g (caller::cs)) v:=by induction h with|@done s w U u ht H hd=>intro r own v s' hs⟨T,D,Z⟩Y W b K;obtain⟨f,t,k,ret,st⟩:=s;obtain⟨f',t',k',M,st'⟩:=s';obtain⟨e1,J,e2,e3,I⟩:=Y;simp only at e1 J e2 e3 I H;obtain⟨h1,h2⟩:=ht;simp only at h1 h2;subst f' k' M h1 h2;cases I;(have q:∀v1,Env own RO CU v v1->∃p j a,Xd P main ((cC.mk f t' k WY []).g (caller::cs)) v1=.go (G (caller.finish p) cs) j (seen P f ((results U t').events P v1 #[]))/\Ext c r (re w v1.tape v1.drawn) v1 a (re w v1.tape v1.drawn) j/\ai c a u p/\(∀e∈seen P f ((results U t').events P v1 #[]),rq c a e):=by intro v1 d;have E:cG c r (re w v1.tape v1.drawn) v1:=Z.env b d;have A:=j4 U J (P:=P) _ _ E;rw[(hd v1.tape v1.drawn).1]at A;obtain⟨p,j,a,o,l,y,i⟩:=A;exact⟨p,j,a,aQ H o,l,y,λe C=>i e (mem_seen C)⟩);refine .step rfl (λv1 d=>?_) (λv1 g' v' B d C=>?_);{obtain⟨p,j,a,o,l,y,i⟩:=q v1 d;exact⟨_,_,_,o,(l.mine (b.env d) i).1⟩};obtain⟨p,j,a,o,l,y,i⟩:=q v1 d;rw[o]at C;injection C with O Q R;subst O Q R;exact K a _ u p _ j l.le (hd v1.tape v1.drawn).2 l.rel y (l.mine (b.env d) i).2 (Left.after b d l (Left.refl ..))|@step s w X V hall ih=>intro r own v s' hs⟨T,D,Z⟩Y W b K;(have q:∀v1,Env own RO CU v v1->∃z n m j a B,bZ P s (re w v1.tape v1.drawn) z n/\v7 P c gl z/\Xd P main (s'.g (caller::cs)) v1=.go (m.g (caller::cs)) j B/\Ext c r (re w v1.tape v1.drawn) v1 a n j/\nR c a z m/\(∀e∈B,rq c a e):=by intro v1 d;have E:cG c r (re w v1.tape v1.drawn) v1:=Z.env b d;rcases sn (main:=main) (bs:=caller::cs) hl W E Y hs (λe e'=>X ⟨e,e'⟩)with⟨z,n,S,o,l,m,j,a,B,y,i,N,F⟩|hb;{exact⟨z,n,m,j,a,B,⟨S,o⟩,l,y,i,N,F⟩};obtain⟨z,n,o⟩:=V v1.tape v1.drawn;exact(hb.not o).elim);refine .step rfl (λv1 d=>?_) (λv1 g' v' B d C=>?_);{obtain⟨z,n,m,j,a,B,o,l,y,i,N,F⟩:=q v1 d;exact⟨_,_,_,y,(i.mine (b.env d) F).1⟩};obtain⟨z,n,m,j,a,es',o,l,y,i,N,F⟩:=q v1 d;rw[y]at C;injection C with O Q R;subst O Q R;refine ih v1.tape v1.drawn z n o l ⟨n.tape,n.drawn,i.rel⟩ N (λg e=>i.le _ _ (W g e)) (i.mine (b.env d) F).2 λr2 L u p w2 v3 c1 c2 c3 c4 c5 c6=>?_;exact K r2 L u p w2 v3 (bC.le_trans i.le c1) c2 c3 c4 c5 (Left.after b d i c6)
def entry(f:Xw)(fn:Func)(b:XX)(args:Array W8):cC:=⟨f,args++Array.replicate (fn.ntmps-args.size) Xi,[.code b],Wz,[]⟩
theorem uf(p:Listed P c gl){b:XX}(a:∀v w T D,Good v w->Good v (re w T D))(d:Fit P c gl (entry f fn b args) w)(m:P.funcs[f]?=WX fn)(l:fn.body=WX b)(H:∀T,Calls P f args (re w T 0) R)(k:∀e w',R e w'->∃v,e=.returned v/\Good v w'):Lone P Good (entry f fn b args) w:=by refine oW p a d λT=>?_;obtain⟨e,w',g,h,i,s,j⟩:=H T [er];obtain⟨v,rfl,o⟩:=k e w' h;obtain⟨n,q⟩:=i;refine⟨n,g,w',v,?_,j,o⟩;rw[<-q];congr 1;rw[gB args m,l];rfl
theorem Loc.call(q:Listed P c gl){b:XX}{args':Array W8}(j:∀v w T D,Good v w->Good v (re w T D))(E:∀e w',R e w'->∃v,e=.returned v/\Good v w')(o:P.funcs[f]?=WX fn)(p:c.fns f=WY)(n:fn.body=WX b)(t:∀g,gl g=WY->r g=WX g)(a:ak c r args args')(i:cG c r w v)(s:Reach c r own RO CU v)(H:∀T,Calls P f args (re w T 0) R)(K:∀m d u A B v1,r.le m->Good u B->cG c m B v1->ai c m u A->Reach c m d RO CU v1->Left c r own RO v d v1->Loc P main RO CU Stop d (G (caller.finish A) cs) v1):Loc P main RO CU Stop own (G (Xk.enter P f args' .normal) (caller::cs)) v:=by(have z:v7 P c gl (entry f fn b args):=by refine⟨trivial,?_,λx F=>by simp[entry]at F⟩;obtain⟨I,h|⟨h,C⟩⟩:=q.body f fn p o;{simp_all};rw[n]at h;cases h;simp[entry,aW,C]);have y:nR c r (entry f fn b args) (entry f fn b args'):=⟨rfl,by show ak c r (args++_) (args'++_);rw[a.size];exact a.append (.replicate _ fL),rfl,rfl,.nil⟩;have l:=Fit.A0 z i y t;have k:=uf q j l o n H E;have:=k.loc q (main:=main) (RO:=RO) (CU:=CU) (Stop:=Stop) (caller:=caller) (cs:=cs) z ⟨w.tape,w.drawn,i⟩ y t s K;rw[gB args' o,n];exact this
structure fG where
 k:Nat
 low:Nat
 t:Xo
 x:Array W8
def fG.obj(s:fG):XN:=.cells s.x (if s.low=0 then s.t else vM) (0,s.x.size)
def dh(g:Nat)(ws:List fG)(v:W6):W6:={v with heap:=Array.replicate g (.cells #[] 0)++(ws.map fG.obj).toArray}
def dv(P:Xr)(fns:Xw->Bool)(ws:List fG):dC:=
 {fns:=fns,seen:=λb=>P.globals.size<=b/\b<P.globals.size+ws.length,E6:=λb=>if b<P.globals.size then 0 else((ws[b-P.globals.size]?).map λs=>s.x.size).getD 0,aL:=P.globals.size,
   low:=λb=>if b<P.globals.size then 0 else((ws[b-P.globals.size]?).map λs=>s.low).getD 0}
def gk(g:Nat)(ws:List fG):bC:=λb=>if b<g then W9 else(ws[b-g]?).map λs=>s.k
theorem eF{ws:List fG}{k:Nat}(h:gk g ws b=WX k):∃(i:Nat)(s:fG),b=g+i/\ws[i]?=WX s/\s.k=k/\i<ws.length:=by unfold gk at h;grind
theorem KX{ws:List fG}{s:fG}(h:ws[i]?=WX s):gk g ws (g+i)=WX s.k:=by unfold gk;simp_all
theorem jD(g:Nat)(ws:List fG)(v:W6):(dh g ws v).heap.size=g+ws.length:=by simp[dh]
theorem va{ws:List fG}{s:fG}(h:ws[i]?=WX s):(dh g ws v).heap[g+i]?=WX s.obj:=by show(Array.replicate g _++_)[g+i]?=_;grind
theorem Bo{ws:List fG}(h:b<g):(dh g ws v).heap[b]?=WX (.cells #[] 0):=by show(Array.replicate g _++_)[b]?=_;grind
theorem bT{ws:List fG}{o:Nat}{s:fG}{u:W8}(h:ws[i]?=WX s)(a:s.x[o]?=WX u):(dh g ws v).cell? ⟨g+i,o,W9⟩=WX u:=by simp[W6.cell?,va h,fG.obj,a]
structure om(P:Xr)(fns:Xw->Bool)(ws:List fG)(v:W6):Prop where
 gZ:P.globals.size<=v.heap.size
 bad:P.info? vM=W9
 at_:∀(i:Nat)(s:fG),ws[i]?=WX s->∃(x':Array W8)(t':Xo)(fr:Nat×Nat),v.heap[s.k]?=WX (.cells x' t' fr)/\s.x.size<=x'.size/\(s.low=0->s.t=t')/\
  ∀(j:Nat)(u u':W8),s.low<=j->s.x[j]?=WX u->x'[j]?=WX u'->ai (dv P fns ws) (gk P.globals.size ws) u u'
theorem om.rel{ws:List fG}(h:om P fns ws v):cG (dv P fns ws) (gk P.globals.size ws) (dh P.globals.size ws v) v:=by refine⟨λb k e=>?_,λb k e=>?_,λb D k e w=>?_,λb g=>?_,λb g _=>Bo g,λb k e=>?_,rfl,rfl,λb g=>?_,λb k e q=>?_,?_⟩;{obtain⟨i,s,rfl,f,y,m⟩:=eF e;rw[jD];omega};{obtain⟨i,s,rfl,f,rfl,m⟩:=eF e;obtain⟨C,t,o,p,-⟩:=h.at_ i s f;grind};{obtain⟨i,s,rfl,f,y,m⟩:=eF e;obtain⟨I,J,rfl,x,z,A⟩:=eF w;exact .inr ⟨⟨UZ _ _,by omega⟩,⟨UZ _ _,by omega⟩⟩};{show(if b<P.globals.size then 0 else _)=0;split;{rfl};rename_i H;(have:ws[b-P.globals.size]?=W9:=by rw[List.getElem?_eq_none_iff];have:¬(P.globals.size<=b/\b<P.globals.size+ws.length):=g;omega);simp_all};{obtain⟨i,s,rfl,f,rfl,m⟩:=eF e;obtain⟨C,t,o,p,B,E,F⟩:=h.at_ i s f;rw[va f,p];(have l:(dv P fns ws).low (P.globals.size+i)=s.low:=by show(if _<_ then 0 else _)=_;grind);refine .seen _ t o ⟨UZ _ _,by omega⟩ ?_ B ⟨λn=>?_,λn=>?_⟩ λj u K a b d=>?_;{show _<=(if _<_ then 0 else _);grind};{simp_all};{rw[l]at n;rw[if_neg n];exact⟨rfl,UZ _ _⟩};grind};{rw[jD];exact g.2};{obtain⟨i,s,rfl,f,rfl,m⟩:=eF e;have q:P.globals.size+i<P.globals.size:=q;omega};exact⟨by rw[jD];show P.globals.size<=_;omega,h.gZ⟩
theorem hZ{ws:List fG}{off:Nat}{s:fG}(h:ws[i]?=WX s)(a:s.low<=off):du (dv P fns ws) (gk P.globals.size ws) ⟨P.globals.size+i,off,W9⟩ ⟨s.k,off,W9⟩:=by refine⟨KX h,rfl,rfl,?_⟩;(have b:¬(P.globals.size+i<P.globals.size):=by omega);show(if P.globals.size+i<P.globals.size then 0 else((ws[P.globals.size+i-P.globals.size]?).map λs=>s.low).getD 0)<=off;grind
section
theorem DN{fr:Xk}(h:xG fr cs)(e:lone fr cs w=lf s' w'):False:=by obtain⟨-,rfl,rfl⟩:=e;rcases h with⟨f,t,k,b,d,h,-⟩|⟨-,h⟩;{simp only[cm,Xk.mk.injEq]at h;have:=h.2.2.2.2.1;cases a:s'.ret<;>rw[a]at this<;>simp[md]at this};simp at h
theorem mh:∀(n:Nat){fr:Xk}{cs:List Xk}{w:W6},xG fr cs->∀{s':cC}{w':W6},runN P n (lone fr cs w)=.next (lf s' w')->False:=by intro n;induction n with|zero=>intro fr cs w h s' w' e;simp only[runN,Stepped.next.injEq]at e;exact DN h e|succ n i=>intro fr cs w h s' w' e;simp only[runN]at e;rcases uS (P:=P) h w with⟨d,a,f,b,g⟩|⟨o,f,b⟩;{simp_all};simp_all
theorem AV(h:P5 (Xd P WY (s.g [er]) w))(e:runN P (n+1) (lf s w)=.next (lf s' w')):False:=by simp only[runN]at e;rcases h with⟨o,a,h⟩|⟨f,t,k,b,i,a,j,h,d,g⟩;{rw[show step P (lf s w)=.ended o a from step_lone_ended h]at e;cases e};rw[gr h]at e;exact mh n (.inl ⟨f,t,k,b,i,rfl,rfl,d,g⟩) e
theorem BJ(m:E5 s)(e:runN P (n+1) (lf s w)=.next (lf s' w')):False:=by obtain⟨f,t,k,p,y⟩:=s;obtain⟨d,g⟩:=m;subst d g;have i:xG er []:=.inr ⟨.inr (.inl rfl),rfl⟩;have a:∀v,er.finish v=er:=λv=>rfl;simp only[runN]at e;cases b:P.funcs[f]? with|none=>rw[gr ((bN b).trans (by rw[a]))]at e;exact mh n i e|some l=>cases j:(results l t).run P w with|halt h q=>obtain⟨o,r,h⟩:=c8 b j;rw[show step P (lf ⟨f,t,k,WY,[]⟩ w)=.ended o r from step_lone_ended h]at e;cases e|ok u q=>rw[gr ((aQ b j).trans (by rw[a]))]at e;exact mh n i e
theorem Mf(h:lf s w=lf s' w'):s=s'/\w=w':=by simp only[lf,lone,Machine.mk.injEq,Array.mk.injEq,Vs,Xc.mk.injEq]at h;obtain⟨a,b,d⟩:=h;refine⟨IV ?_,a⟩;simp only[cC.g,G,b,d]
inductive iX(P:Xr)(Good:cC->W6->Prop):cC->W6->Prop
 |done{s:cC}{w:W6}:(∀T D,Good s (re w T D))->iX P Good s w
 |step{s:cC}{w:W6}:¬Good s w->¬E5 s->(∀T D,∃s1 w1,bZ P s (re w T D) s1 w1)->(∀T D s1 w1,bZ P s (re w T D) s1 w1->iX P Good s1 w1)->iX P Good s w
section bar
variable(P)(Good:cC->W6->Prop)
noncomputable def kJ(p:cC×W6):(Nat->XU->Nat)×Nat:=open Classical in
 if h:∃a:(Nat->XU->Nat)×Nat,∀s1 w1,bZ P p.1 (re p.2 a.1 a.2) s1 w1->¬iX P Good s1 w1 then Classical.choose h else(λ_ _=>0,0)
def hU(p:cC×W6):Prop:=¬E5 p.1/\∃q:cC×W6,bZ P p.1 (re p.2 (kJ P Good p).1 (kJ P Good p).2) q.1 q.2
noncomputable def sX(p:cC×W6):cC×W6:=open Classical in if h:hU P Good p then Classical.choose h.2 else p
noncomputable def cW(p:cC×W6):Nat->cC×W6
 |0=>p
 |i+1=>sX P Good (cW p i)
noncomputable def jJ(p:cC×W6):Nat->Nat
 |0=>0
 |i+1=>open Classical in if hU P Good (cW P Good p i)then jJ p i+((cW P Good p (i+1)).2.drawn-(kJ P Good (cW P Good p i)).2)else jJ p i
def Ev(p:cC×W6)(i n:Nat):Prop:=jJ P Good p i<=n/\(n<jJ P Good p (i+1)\/¬hU P Good (cW P Good p i))
noncomputable def pD(p:cC×W6)(n:Nat)(q:XU):Nat:=open Classical in
 if h:∃i,Ev P Good p i n then(kJ P Good (cW P Good p (Classical.choose h))).1 ((kJ P Good (cW P Good p (Classical.choose h))).2+(n-jJ P Good p (Classical.choose h))) q else 0
end bar
section bar
variable{Good:cC->W6->Prop}
theorem EH(f:∀s w T D,Good s w->Good s (re w T D))(l:¬iX P Good s w)(n:¬E5 s):∀d e,bZ P s (re w (kJ P Good (s,w)).1 (kJ P Good (s,w)).2) d e->¬iX P Good d e:=by(have h:∃a:(Nat->XU->Nat)×Nat,∀d e,bZ P s (re w a.1 a.2) d e->¬iX P Good d e:=by refine U6 λk=>l ?_;refine .step (λm=>l (.done λT D=>f _ _ T D m)) n (λT D=>?_) (λT D d e i=>?_);{refine U6 λg=>k ⟨(T,D),λd e i=>absurd ⟨d,e,i⟩ g⟩};refine U6 λg=>k ⟨(T,D),λo q j=>?_⟩;obtain⟨rfl,rfl⟩:=i.NC j;exact g);unfold kJ;grind
theorem vy(h:hU P Good p):bZ P p.1 (re p.2 (kJ P Good p).1 (kJ P Good p).2) (sX P Good p).1 (sX P Good p).2:=by unfold sX;grind
theorem uZ(h:¬hU P Good p):sX P Good p=p:=by unfold sX;simp_all
theorem qd(h:hU P Good (cW P Good p i)):jJ P Good p (i+1)=jJ P Good p i+((cW P Good p (i+1)).2.drawn-(kJ P Good (cW P Good p i)).2):=by exact@if_pos _ (Classical.propDecidable _) h _ _ _
theorem vv(h:¬hU P Good (cW P Good p i)):jJ P Good p (i+1)=jJ P Good p i:=by exact@if_neg _ (Classical.propDecidable _) h _ _ _
theorem DV(h:i<=j):jJ P Good p i<=jJ P Good p j:=by induction h with|refl=>omega|@step m _ b=>by_cases a:hU P Good (cW P Good p m);{rw[qd a];omega};rw[vv a];omega
theorem AM(h:i<=j)(d:¬hU P Good (cW P Good p i)):cW P Good p j=cW P Good p i/\jJ P Good p j=jJ P Good p i:=by induction h with|refl=>simp|@step m _ b=>(have a:¬hU P Good (cW P Good p m):=by simp_all);exact⟨(uZ a).trans b.1,(vv a).trans b.2⟩
theorem BV(h:Ev P Good p i n)(q:XU):pD P Good p n q=(kJ P Good (cW P Good p i)).1 ((kJ P Good (cW P Good p i)).2+(n-jJ P Good p i)) q:=by(have g:∀{i j:Nat},i<=j->Ev P Good p i n->Ev P Good p j n->cW P Good p j=cW P Good p i/\jJ P Good p j=jJ P Good p i:=by intro i j a e f;by_cases d:hU P Good (cW P Good p i);{rcases Nat.eq_or_lt_of_le a with rfl|b;{simp};have:=DV (P:=P) (Good:=Good) (p:=p) (show i+1<=j from b);rcases e.2 with h|h;{have:=f.1;omega};simp_all};exact AM a d);have k:∃i,Ev P Good p i n:=⟨i,h⟩;unfold pD;grind
variable(hl:Listed P c gl)(hGood:∀s w T D,Good s w->Good s (re w T D))
include hl hGood
theorem rU(j:Fit P c gl p.1 p.2)(k:¬iX P Good p.1 p.2):∀i,Fit P c gl (cW P Good p i).1 (cW P Good p i).2/\¬iX P Good (cW P Good p i).1 (cW P Good p i).2:=by intro i;induction i with|zero=>exact⟨j,k⟩|succ i b=>show Fit P c gl (sX P Good (cW P Good p i)).1 (sX P Good (cW P Good p i)).2/\¬iX P Good (sX P Good (cW P Good p i)).1 (sX P Good (cW P Good p i)).2;by_cases h:hU P Good (cW P Good p i);{have a:=vy h;refine⟨?_,EH hGood b.2 h.1 _ _ a⟩;rcases(b.1.re _ _).step hl (λe d=>h.1 ⟨e,d⟩)with⟨o,q,f,n⟩|g;{obtain⟨l,m⟩:=f.NC a;simp_all};exact(g.not a).elim};rw[uZ h];exact b
theorem EN(g:Fit P c gl p.1 p.2)(k:¬iX P Good p.1 p.2)(h:hU P Good (cW P Good p i)):bZ P (cW P Good p i).1 (re (cW P Good p i).2 (pD P Good p) (jJ P Good p i)) (cW P Good p (i+1)).1 (re (cW P Good p (i+1)).2 (pD P Good p) (jJ P Good p (i+1))):=by have l:=vy h;obtain⟨m,n,d⟩:=l.tape hl ((rU hl hGood g k i).1.re _ _) (λe b=>h.1 ⟨e,b⟩);have a:(cW P Good p (i+1))=sX P Good (cW P Good p i):=rfl;(have:=d (pD P Good p) (jJ P Good p i) λj q o=>by have f:Ev P Good p i (jJ P Good p i+j):=⟨UZ ..,.inl (by rw[qd h,a];have:(re (cW P Good p i).2 (kJ P Good (cW P Good p i)).1 (kJ P Good (cW P Good p i)).2).drawn=(kJ P Good (cW P Good p i)).2:=rfl;omega)⟩;rw[BV f];show _=(kJ P Good (cW P Good p i)).1 ((kJ P Good (cW P Good p i)).2+j) q;simp);rw[qd h,a];exact this
theorem yE(a:Fit P c gl p.1 p.2)(b:¬iX P Good p.1 p.2):∀i,(∀l,l<i->hU P Good (cW P Good p l))->runN P i (lf p.1 (re p.2 (pD P Good p) 0))=.next (lf (cW P Good p i).1 (re (cW P Good p i).2 (pD P Good p) (jJ P Good p i))):=by intro i;induction i with|zero=>intro _;rfl|succ i d=>intro h;rw[runN_add (d λl hl=>h l Ω)];exact yj (EN hl hGood a b (h i Ω)).Ru
theorem tZ(E:Fit P c gl s w)(H:∀T,∃n s' w',runN P n (lf s (re w T 0))=.next (lf s' w')/\Good s' w'):iX P Good s w:=by refine U6 λJ=>?_;have d:Fit P c gl (s,w).1 (s,w).2:=E;have f:=J;obtain⟨n,s',w',x,F⟩:=H (pD P Good (s,w));by_cases o:∀l,l<n->hU P Good (cW P Good (s,w) l);{have:=yE hl hGood d f n o;rw[show lf (s,w).1 (re (s,w).2 (pD P Good (s,w)) 0)=lf s (re w (pD P Good (s,w)) 0)from rfl,x]at this;obtain⟨b,g⟩:=rU hl hGood d f n;obtain⟨y,L⟩:=Mf (Stepped.next.inj this);refine g (.done λT D=>?_);have:=hGood _ _ T D F;simp_all};(have:∃i,i<n/\¬hU P Good (cW P Good (s,w) i)/\∀l,l<i->hU P Good (cW P Good (s,w) l):=by(have v:∃i,i<n/\¬hU P Good (cW P Good (s,w) i):=by simp_all);obtain⟨i,N⟩:=v;induction i using Nat.strongRecOn with|_ i O=>grind);obtain⟨i,I,a,m⟩:=this;have z:=yE hl hGood d f i m;obtain⟨k,rfl⟩:∃k,n=i+(k+1):=⟨n-i-1,by omega⟩;have u:=runN_add (k:=k+1) z;rw[show lf (s,w).1 (re (s,w).2 (pD P Good (s,w)) 0)=lf s (re w (pD P Good (s,w)) 0)from rfl,x]at u;obtain⟨b,g⟩:=rU hl hGood d f i;by_cases r:E5 (cW P Good (s,w) i).1;{exact BJ r u.symm};rcases(b.re (pD P Good (s,w)) (jJ P Good (s,w) i)).step hl (λe t=>r ⟨e,t⟩)with⟨K,Q,A,M⟩|C;{obtain⟨-,-,B⟩:=A.tape hl (b.re _ _) (λe t=>r ⟨e,t⟩);(have:=B (kJ P Good (cW P Good (s,w) i)).1 (kJ P Good (cW P Good (s,w) i)).2 λj q _=>by show _=pD P Good (s,w) (jJ P Good (s,w) i+j) q;rw[BV ⟨UZ ..,.inr a⟩,WO]);exact a ⟨r,(K,_),this⟩};exact AV C u.symm
end bar
end
def R0:XG:=.code (.refuse "")
def FX(live:Nat->Bool):Xz->Bool
 |.tmp i=>live i
 |_=>WY
def nX(live:Nat->Bool)(o:XW):Bool:=o.op.operands.all (FX live)&&(match o.dst with|some d=>live d|none=>WY)
def nB(live:Nat->Bool)(ops:Array XW)(o:XW):Bool:=match o.guard with|none=>WY|some (j,_)=>(match(ops[j]?).bind (·.dst)with|some d=>live d|none=>WY)
def tQ(live:Nat->Bool)(ops:Array XW)(i:Nat):Bool:=match ops[i]? with|some o=>nX live o&&nB live ops o|none=>WY
theorem zq(h:ops.all (λo=>nX live o&&nB live ops o)=WY)(l:List Nat):l.all (tQ live ops)=WY:=by rw[UM];intro i _;unfold tQ;grind
def fW(live:Nat->Bool):XX->Bool
 |.region _ ops _=>ops.all (λo=>nX live o&&nB live ops o)
 |.seq a b=>fW live a&&fW live b
 |.cond x a b=>FX live x&&fW live a&&fW live b
 |.block _ a|.loop a|.scope a=>fW live a
 |.ret=>Wz
 |_=>WY
def cV(live:Nat->Bool):XG->Bool
 |.code a|.inLoop a|.inScope a=>fW live a
 |.inRegion ops l=>l.all (tQ live ops)
 |_=>WY
structure dm where
 f:Xw
 defers:List Deferred
 kind:CallKind
 roundOf:Option Nat
 l2:Option (Array XW×List Nat)
 tail:List XG
 live:Nat->Bool
 t0:Array W8
def dm.ov(d:dm)(t:Array W8):Array W8:=t.mapIdx λi v=>if d.live i then v else d.t0.getD i Xi
def dm.bot(d:dm)(t:Array W8)(k':List XG):Xk:={fn:=d.f,tmps:=d.ov t,todo:=k',defers:=d.defers,mode:=.run,kind:=d.kind,roundOf:=d.roundOf}
inductive Gl(d:dm):List XG->List XG->Prop
 |app{init:List XG}:d.l2=W9->init.all (cV d.live)=WY->Gl d (init++[R0]) (init++d.tail)
 |reg{ops:Array XW}{l1 l2:List Nat}:d.l2=WX (ops,l2)->l1.all (tQ d.live ops)=WY->Gl d [.inRegion ops l1,R0] (.inRegion ops (l1++l2)::d.tail)
 |fin{ops:Array XW}{l2:List Nat}:d.l2=WX (ops,l2)->Gl d [R0] (.inRegion ops l2::d.tail)
def dm.end(d:dm)(k:List XG):Prop:=k=[R0]\/(d.l2.isSome=WY/\∃ops,k=[.inRegion ops [],R0])
inductive K8(d:dm):Bool->Xw×Array W8×List XG->Xk->Prop
 |up{f:Xw}{t:Array W8}{k:List XG}:K8 d Wz (f,t,k) (cm f t k .run)
 |bot{t:Array W8}{k k':List XG}:Gl d k k'->K8 d WY (d.f,t,k) (d.bot t k')
theorem JH{d:dm}(h:d.live i=WY):(d.ov t).getD i Xi=t.getD i Xi:=by simp only[dm.ov,Uq,VR];simp_all
theorem PD{d:dm}(h:d.live i=WY):(d.ov t)[i]?=t[i]?:=by simp only[dm.ov,VR];simp_all
theorem N3{d:dm}(h:d.live i=WY)(v:W8):(d.ov t).setIfInBounds i v=d.ov (t.setIfInBounds i v):=by apply Vp;intro j;simp only[dm.ov,Vz,VR,Wg];grind
theorem Cs{d:dm}{m:FrameMode}(x:Xz)(h:FX d.live x=WY):(d.bot t k').eval x=(cm f t k m).eval x:=by cases x with|tmp i=>exact JH h|_=>rfl
theorem execOp_congr{ev ev':Xz->W8}(f:∀cs b,o.op≠.select cs b)(h:∀x∈o.op.operands,ev x=ev' x):Xj ev o=Xj ev' o:=by have m:∀(l:Array Xz),(∀x∈l,ev x=ev' x)->l.map ev=l.map ev':=λl d=>Xy d;(have s:∀(x:Option Xz),(∀y∈x,ev y=ev' y)->x.map ev=x.map ev':=λx d=>by cases x with|none=>rfl|some y=>simp_all);(have u:∀(j:Array (Nat×Xz)),(∀p∈j,ev p.2=ev' p.2)->(j.map λ(i,x)=>(i,ev x))=(j.map λ(i,x)=>(i,ev' x)):=λj d=>Xy λp g=>by grind);(have v:∀(k:Call)(t:Xo),(∀x∈k.operands,ev x=ev' x)->resolve ev k t=resolve ev' k t:=λk t d=>by obtain⟨a,e,q⟩:=k;have r:e.map ev=e.map ev':=m _ λx n=>d x (by cases a<;>simp[Call.operands,n]);unfold resolve;cases a<;>simp only[r];{rw[d _ (by simp[Call.operands])]};rw[d _ (by simp[Call.operands])]);unfold Xj;revert h f;(cases o.op<;>intro f h<;>simp only[Op.operands]at h<;>first|rfl|(simp only[List.mem_toArray,Up,UU,or_false,forall_eq,forall_eq_or_imp]at h;simp only[h];done)|(simp only[];rw[u _ (λp g=>h _ (by simp only[List.mem_toArray,Us];exact⟨p,by simpa using g,rfl⟩))];done)|(simp only[];rw[m _ (λx d=>h x (UT.2 (.inl d))),m _ (λx d=>h x (UT.2 (.inr d)))];done)|(simp only[];rw[s _ (λx d=>h x (by simpa using d))];done)|(simp only[];rw[v _ _ h];done)|(exact absurd rfl (f _ _))|skip);simp_all
section
variable{d:dm}{b:Bool}{F:Xk}{cs0:List Xk}{g1:Xc}{x:XG}
theorem Gl.cons(h:Gl d (x::kr) k')(j:x≠R0):(∃init,d.l2=W9/\kr=init++[R0]/\k'=x::(init++d.tail)/\cV d.live x=WY/\init.all (cV d.live)=WY)\/(∃ops i l,d.l2=WX (ops,l)/\x=.inRegion ops i/\kr=[R0]/\k'=.inRegion ops (i++l)::d.tail/\i.all (tQ d.live ops)=WY):=by generalize a:x::kr=k at h;cases h with|@app init g e=>(cases init with|nil=>simp at a;exact absurd a.1 j|cons y init=>obtain⟨rfl,rfl⟩:=a;simp only[UN,Um]at e;exact .inl ⟨init,g,rfl,rfl,e.1,e.2⟩)|reg g e=>simp only[Vs]at a;exact .inr ⟨_,_,_,g,a.1,a.2,rfl,e⟩|fin g=>simp only[Vs]at a;exact absurd a.1 j
theorem Gl.xZ(h:Gl d (x::kr) k')(e:x≠R0)(a:∀ops l,x≠.inRegion ops l):∃init,d.l2=W9/\kr=init++[R0]/\k'=x::(init++d.tail)/\cV d.live x=WY/\init.all (cV d.live)=WY:=by rcases h.cons e with h|⟨ops,g,_,_,h,_⟩;{exact h};exact absurd h (a _ _)
theorem Gl.mk'{init:List XG}(pre:List XG)(a:d.l2=W9)(e:init.all (cV d.live)=WY)(g:pre.all (cV d.live)=WY):Gl d (pre++(init++[R0])) (pre++(init++d.tail)):=by rw[<-Vy,<-Vy];exact .app a (by simp[g,e])
theorem l4{tail:List XG}{p:XG->Bool}:∀{init k1:List XG},init.all p=WY->exitTo id (init++[R0])=WX k1->∃g,k1=g++[R0]/\g.all p=WY/\exitTo id (init++tail)=WX (g++tail)|[],_,_,h=>by simp[exitTo,R0]at h|x::l,k1,j,h=>by simp only[UN,Um]at j;rw[Wh]at h;unfold exitTo at h;split at h;{rename_i s u e;cases e;split at h;{rename_i i;cases h;exact⟨l,rfl,j.2,by simp[exitTo,i]⟩};rename_i i;obtain⟨r,m,n,o⟩:=l4 (tail:=tail) j.2 h;exact⟨r,m,n,by simp[exitTo,i,o]⟩};{rename_i y u q e;cases e;obtain⟨r,m,n,o⟩:=l4 (tail:=tail) j.2 h;refine⟨r,m,n,?_⟩;rw[Wh];unfold exitTo;split;{rename_i e;cases e;exact absurd rfl (q _)};{rename_i e;cases e;exact o};rename_i e;cases e};rename_i e;cases e
def After(P:Xr)(main:Bool)(d:dm)(b:Bool)(f:Xw)(t:Array W8)(k:List XG)(F:Xk)(cs0:List Xk)(v v':W6)(g1:Xc)(es:Array XQ):Prop:=
 (∃t1 k1 F1,g1=G (cm f t1 k1 .run) cs0/\K8 d b (f,t1,k1) F1/\∀cs,Xd P main (G F cs) v=.go (G F1 cs) v' es)\/
 (∃j t1 k1,g1=G (cm j t1 k1 .run) (cm f t k .run::cs0)/\∀cs,Xd P main (G F cs) v=.go (G (cm j t1 k1 .run) (F::cs)) v' es)\/
 (b=Wz/\∃k1,g1=G (cm f t k1 .returning) cs0/\∀cs,Xd P main (G F cs) v=.go (G (cm f t k1 .returning) cs) v' es)
theorem After.ctl(e:Xd P main (G (cm f t k .run) cs0) v=.go g1 v' es)(o:K8 d b (f,t,k) F)(L:∀cs,Xd P main (G (cm f t k .run) cs) v=.go (G (cm f t k1 .run) cs) v #[])(g:b=WY->∀k',Gl d k k'->∃a,Gl d k1 a/\∀cs,Xd P main (G (d.bot t k') cs) v=.go (G (d.bot t a) cs) v #[]):After P main d b f t k F cs0 v v' g1 es:=by rw[L]at e;injection e with i j l;subst i j l;cases o with|up=>exact .inl ⟨t,k1,_,rfl,.up,L⟩|bot h=>obtain⟨a,m,n⟩:=g rfl _ h;exact .inl ⟨t,k1,_,rfl,.bot m,n⟩
theorem After.ret(a:Xd P main (G (cm f t k .run) cs0) v=.go g1 v' es)(j:K8 d b (f,t,k) F)(L:∀cs,Xd P main (G (cm f t k .run) cs) v=.go (G (cm f t k1 .returning) cs) v #[])(l:∀k',¬Gl d k k'):After P main d b f t k F cs0 v v' g1 es:=by rw[L]at a;injection a with e g i;subst e g i;cases j with|up=>exact .inr (.inr ⟨rfl,k1,rfl,L⟩)|bot h=>exact absurd h (l _)
theorem jP(a:(match(ops[i]?).bind (·.dst)with|some j=>d.live j|none=>WY)=WY)(u:W8):(d.bot t (.inRegion ops (i::rest')::kk)).finish u=d.bot (match(ops[i]?).bind (·.dst)with|some j=>t.setIfInBounds j u|none=>t) (.inRegion ops rest'::kk):=by simp only[dm.bot,Xk.finish];cases e:(ops[i]?).bind (·.dst)with|none=>rfl|some j=>rw[e]at a;simp only at a⊢;rw[N3 a]
section op
variable{w1:W6}
abbrev fB(d:dm)(t:Array W8)(ops:Array XW)(i:Nat)(rest:List Nat)(kk:List XG):Xk:=d.bot t (.inRegion ops (i::rest)::kk)
theorem wh{u:W8}(q:d.kind≠.early)(p:∀c,o.op≠.defer c)(m:ops[i]?=WX o)(n:Region.wanted o (Xp ops (d.ov t))=WY)(j:(Xj (fB d t ops i rest kk).eval o).run P w=.ok (.value u) w1):Xd P main (G (fB d t ops i rest kk) cs) w=.go (G ((fB d t ops i rest kk).finish u) cs) w1 (seen P d.f ((Xj (fB d t ops i rest kk).eval o).events P w #[])):=by simp only[dm.bot]at j;(have a:=by simpa using q);cases g:d.roundOf with|none=>simp[G,Xd,Xd.exec,Xd.oper,Xd.apply,Xk.oper?,dm.bot,m,n,g,a];rw[<-g,j];simp[GStep.after]|some l=>simp only[G,Xd,Xd.exec,Xd.oper,Xk.oper?,dm.bot,m,n,Uv,UR,if_true];split;{rename_i e;exact absurd e (p _)};simp[Xd.apply,j,GStep.after,a]
theorem ya(q:d.kind≠.early)(p:∀c,o.op≠.defer c)(m:ops[i]?=WX o)(n:Region.wanted o (Xp ops (d.ov t))=WY)(j:(Xj (fB d t ops i rest kk).eval o).run P w=.ok .skip w1):Xd P main (G (fB d t ops i rest kk) cs) w=.go (G ((fB d t ops i rest kk).finish Xi) cs) w1 (seen P d.f ((Xj (fB d t ops i rest kk).eval o).events P w #[])):=by simp only[dm.bot]at j;(have a:=by simpa using q);cases g:d.roundOf with|none=>simp[G,Xd,Xd.exec,Xd.oper,Xd.apply,Xk.oper?,dm.bot,m,n,g,a];rw[<-g,j];simp[GStep.after]|some l=>simp only[G,Xd,Xd.exec,Xd.oper,Xk.oper?,dm.bot,m,n,Uv,UR,if_true];split;{rename_i e;exact absurd e (p _)};simp[Xd.apply,j,GStep.after,a]
theorem wD{j:Xw}(r:d.kind≠.early)(q:∀c,o.op≠.defer c)(n:ops[i]?=WX o)(p:Region.wanted o (Xp ops (d.ov t))=WY)(m:(Xj (fB d t ops i rest kk).eval o).run P w=.ok (.enter j args) w1):Xd P main (G (fB d t ops i rest kk) cs) w=.go (G (Xk.enter P j args .normal) (fB d t ops i rest kk::cs)) w1 (seen P d.f ((Xj (fB d t ops i rest kk).eval o).events P w #[])):=by simp only[dm.bot]at m;(have a:=by simpa using r);cases g:d.roundOf with|none=>simp[G,Xd,Xd.exec,Xd.oper,Xd.apply,Xk.oper?,dm.bot,n,p,g,a];rw[<-g,m];simp[GStep.after]|some l=>simp only[G,Xd,Xd.exec,Xd.oper,Xk.oper?,dm.bot,n,p,Uv,UR,if_true];split;{rename_i e;exact absurd e (q _)};simp[Xd.apply,m,GStep.after,a]
theorem ru(h:((ops[i]?).map (Region.wanted · (Xp ops (d.ov t)))).getD Wz=Wz):Xd P main (G (fB d t ops i rest kk) cs) w=.go (G ((fB d t ops i rest kk).finish Xi) cs) w #[]:=by simp only[G,Xd,Xd.exec,dm.bot,h,UK,if_false]
end op
theorem vd(h:nB d.live ops o=WY):Region.wanted o (Xp ops (d.ov t))=Region.wanted o (Xp ops t):=by unfold Region.wanted;unfold nB at h;cases g:o.guard with|none=>rfl|some p=>obtain⟨j,b⟩:=p;rw[g]at h;simp only at h⊢;unfold Xp;cases e:(ops[j]?).bind (·.dst)with|none=>rfl|some i=>rw[e]at h;simp only[Vf];rw[PD h]
theorem kV(h:tQ live ops i=WY)(a:ops[i]?=WX o):nX live o=WY/\nB live ops o=WY:=by unfold tQ at h;rw[a]at h;simpa using h
theorem IK(h:tN P c gl o=WY):(∀cs b,o.op≠.select cs b)/\∀k,o.op≠.defer k:=by constructor;{intro a b e;rw[tN,e]at h;simp at h};intro a e;rw[tN,e]at h;simp at h
theorem Jc(j:Xw)(x:Array W8):∃e k1,Xk.enter P j x .normal=cm j e k1 .run:=by cases a:P.funcs[j]? with|none=>exact⟨_,_,n9 x a⟩|some g=>exact⟨_,_,gB x a⟩
def TR:Next->Prop
 |.value _|.skip|.enter _ _=>True
 |_=>False
def Bz(P:Xr)(f:Xw)(t:Array W8)(k:List XG)(v:W6):Prop:=
 ∀ops i rest kk o,k=.inRegion ops (i::rest)::kk->ops[i]?=WX o->Region.wanted o (Xp ops t)=WY->∃n w1,(Xj (nD f t ops i rest kk).eval o).run P v=.ok n w1/\TR n
theorem K8.step(D:Xd P main (G (cm f t k .run) cs0) v=.go g1 v' es)(Z:k.all (aW P c gl)=WY)(R:K8 d b (f,t,k) F)(he:d.kind≠.early)(hend:b=WY->¬d.end k)(hrun:Bz P f t k v)(hp:∀ch,g1.frame.mode≠.panicking ch):After P main d b f t k F cs0 v v' g1 es:=by cases k with|nil=>refine After.ret (k1:=[]) D R (λp=>by simp[G,Xd,Xd.exec,cm]) λk' h=>?_;generalize Z:([]:List XG)=k at h;(cases h with|app _ _=>simp at Z|reg _ _=>simp at Z|fin _=>simp at Z)|cons x kr=>simp only[UN,Um]at Z;obtain⟨V,hkr⟩:=Z;(have q:∀(Q:List XG),x≠R0->(∀g l,x≠.inRegion g l)->(cV d.live x=WY->Q.all (cV d.live)=WY)->(∀(kr:List XG)p,Xd P main (G (cm f t (x::kr) .run) p) v=.go (G (cm f t (Q++kr) .run) p) v #[])->(∀(kr:List XG)p,Xd P main (G (d.bot t (x::kr)) p) v=.go (G (d.bot t (Q++kr)) p) v #[])->After P main d b f t (x::kr) F cs0 v v' g1 es:=by intro Q U O h3 h4 h5;refine After.ctl (k1:=Q++kr) D R (h4 kr) λ_ k' h=>?_;obtain⟨z,A,B,C,I,N⟩:=h.xZ U O;subst B C;exact⟨_,.mk' Q A N (h3 I),h5 _⟩);cases x with|code a=>(cases a with|skip=>exact q [] (by simp[R0]) Θ (λ_=>rfl) (λkr p=>by simp[G,Xd,Xd.exec,cm]) (λkr p=>by simp[G,Xd,Xd.exec,dm.bot])|label l=>exact q [] (by simp[R0]) Θ (λ_=>rfl) (λkr p=>by simp[G,Xd,Xd.exec,cm]) (λkr p=>by simp[G,Xd,Xd.exec,dm.bot])|ret=>refine After.ret D R (λp=>nZ) λk' h=>?_;obtain⟨z,_,_,_,h4,_⟩:=h.xZ (by simp[R0]) Θ;simp[cV,fW]at h4|seq a b=>exact q [.code a,.code b] (by simp[R0]) Θ (λh=>by simpa[cV,fW]using h) (λkr p=>by simp[G,Xd,Xd.exec,cm]) (λkr p=>by simp[G,Xd,Xd.exec,dm.bot])|block id a=>exact q [.code a,.inBlock id] (by simp[R0]) Θ (λh=>by simpa[cV,fW]using h) (λkr p=>by simp[G,Xd,Xd.exec,cm]) (λkr p=>by simp[G,Xd,Xd.exec,dm.bot])|loop a=>exact q [.code a,.inLoop a] (by simp[R0]) Θ (λh=>by simpa[cV,fW]using h) (λkr p=>by simp[G,Xd,Xd.exec,cm]) (λkr p=>by simp[G,Xd,Xd.exec,dm.bot])|scope a=>exact q [.code a,.inScope a] (by simp[R0]) Θ (λh=>by simpa[cV,fW]using h) (λkr p=>lB) (λkr p=>by simp[G,Xd,Xd.exec,dm.bot])|refuse why=>have:∃o w,Xd P main (G (cm f t (.code (.refuse why)::kr) .run) cs0) v=.ended o w #[]:=⟨_,v,by simp[G,Xd,Xd.exec,cm];rfl⟩;obtain⟨o,w,e⟩:=this;rw[e]at D;cases D|exit id=>(cases X:exitTo id kr with|none=>rw[iO X]at D;cases D|some k1=>refine After.ctl (k1:=k1) D R (λp=>by simp[G,Xd,Xd.exec,cm,X]) λ_ k' h=>?_;obtain⟨z,A,B,C,I,N⟩:=h.xZ (by simp[R0]) Θ;subst B C;obtain⟨i1,f1,f2,f3⟩:=l4 (tail:=d.tail) N X;subst f1;exact⟨_,.app A f2,λp=>by simp[G,Xd,Xd.exec,dm.bot,f3]⟩)|cond y a Y=>(cases hv:(cm f t (.code (.cond y a Y)::kr) .run).eval y with|bool u=>refine After.ctl (k1:=.code (if u then a else Y)::kr) D R (λp=>kq hv) λ_ k' h=>?_;obtain⟨z,A,B,C,I,N⟩:=h.xZ (by simp[R0]) Θ;subst B C;simp only[cV,fW,Um]at I;refine⟨_,.mk' [.code (if u then a else Y)] A N (by cases u<;>simp[cV,I]),λp=>?_⟩;have:=Cs (d:=d) (t:=t) (k:=.code (.cond y a Y)::(z++[R0])) (k':=.code (.cond y a Y)::(z++d.tail)) (f:=f) (m:=.run) y I.1.1;rw[hv]at this;simp only[dm.bot]at this;simp[G,Xd,Xd.exec,dm.bot,this]|_=>obtain⟨o,w2,e⟩:=jA (P:=P) (main:=main) (cs:=cs0) (w:=v) (f:=f) (t:=t) (x:=y) (a:=a) (b:=Y) (k:=kr) (λu e=>by rw[hv]at e;cases e);rw[D]at e;cases e)|region id g draw=>(cases draw with|false=>exact q [.inRegion g (List.range g.size)] (by simp[R0]) Θ (λh=>by simp only[cV,fW]at h;simp only[UN,Wi,cV,zq h,VJ]) (λkr p=>by simp[G,Xd,Xd.exec,cm]) (λkr p=>by simp[G,Xd,Xd.exec,dm.bot])|true=>have L:=λp=>j9 (P:=P) (main:=main) (f:=f) (t:=t) (id:=id) (ops:=g) (k:=kr) (cs:=p) (w:=v);rw[L]at D;cases hc:(choose (.order f id)).run P v with|halt h w1=>rw[hc]at D;cases D|ok u w1=>rw[hc]at D;simp only at D;injection D with A B C;subst A B C;cases R with|up=>exact .inl ⟨t,_,_,rfl,.up,λp=>by rw[L,hc]⟩|bot h=>obtain⟨z,A,B,C,I,N⟩:=h.xZ (by simp[R0]) Θ;subst B C;refine .inl ⟨t,_,_,rfl,.bot (.mk' [.inRegion g (Region.schedule (P.follows .mixedOrders) g u)] A N (by simp only[cV,fW]at I;simp only[UN,Wi,cV,zq I,VJ])),λp=>?_⟩;simp only[G,Xd,Xd.exec,dm.bot,Bool.not_true,UK,if_false,hc];rfl)|rangeFunc _ _ _ _=>simp[aW,codeOk]at V|goto l=>simp[aW,codeOk]at V)|inBlock id=>exact q [] (by simp[R0]) Θ (λ_=>rfl) (λkr p=>by simp[G,Xd,Xd.exec,cm]) (λkr p=>by simp[G,Xd,Xd.exec,dm.bot])|inLoop a=>exact q [.code a,.inLoop a] (by simp[R0]) Θ (λh=>by simpa[cV]using h) (λkr p=>by simp[G,Xd,Xd.exec,cm]) (λkr p=>by simp[G,Xd,Xd.exec,dm.bot])|inScope a=>exact q [] (by simp[R0]) Θ (λ_=>rfl) (λkr p=>jz) (λkr p=>by simp[G,Xd,Xd.exec,dm.bot])|inRegion g l=>(cases l with|nil=>refine After.ctl (k1:=kr) D R (λp=>by simp[G,Xd,Xd.exec,cm]) λhb k' h=>?_;rcases h.cons (by simp[R0])with⟨z,A,B,C,I,N⟩|⟨ops',l1,l2,A,B,C,I,N⟩;{subst B C;exact⟨_,.app A N,λp=>by simp[G,Xd,Xd.exec,dm.bot]⟩};exact absurd (by unfold dm.end;rw[A];cases B;exact .inr ⟨rfl,_,by rw[C]⟩) (hend hb)|cons i s=>have hops:(i::s).all (opAt P c gl g)=WY:=V;(have hB:∀k',b=WY->Gl d (.inRegion g (i::s)::kr) k'->∃r E,k'=.inRegion g (i::r)::E/\Gl d (.inRegion g s::kr) (.inRegion g r::E)/\tQ d.live g i=WY:=by intro k' _ h;rcases h.cons (by simp[R0])with⟨z,A,B,C,I,N⟩|⟨ops',l1,l2,A,B,C,I,N⟩;{subst B C;simp only[cV,UN,Um]at I;exact⟨s,_,rfl,.mk' [.inRegion g s] A N (by simp only[UN,Wi,cV,I.2,VJ]),I.1⟩};cases B;subst C I;simp only[UN,Um]at N;exact⟨s++l2,_,rfl,.reg A N.2,N.1⟩);cases M:((g[i]?).map (Region.wanted · (Xp g t))).getD Wz with|false=>have L:=λp=>stepG_unwanted (P:=P) (main:=main) (f:=f) (cs:=p) (k:=kr) (rest:=s) (w:=v) M;rw[L]at D;injection D with A B C;subst A B C;(cases R with|up=>exact .inl ⟨_,_,_,by rw[cI],.up,λp=>by rw[L,cI]⟩|bot h=>obtain⟨r,E,rfl,U,O⟩:=hB _ rfl h;refine .inl ⟨_,_,_,by rw[cI],.bot U,λp=>?_⟩;(have hl:(match(g[i]?).bind (·.dst)with|some j=>d.live j|none=>WY)=WY:=by cases K:g[i]? with|none=>rfl|some o=>have:=(kV O K).1;simp only[nX,Um]at this;cases hd:o.dst<;>simp only[Vf,hd];rw[hd]at this;exact this.2);exact(ru (by cases K:g[i]? with|none=>rfl|some o=>rw[K]at M;simp only[Uv,UR]at M⊢;rw[vd (kV O K).2];exact M)).trans (congrArg (λF=>GStep.go (G F p) v #[]) (jP hl Xi)))|true=>cases K:g[i]? with|none=>rw[K]at M;simp at M|some o=>rw[K]at M;(have H:Region.wanted o (Xp g t)=WY:=by simpa using M);obtain⟨n,w1,hr,hshp⟩:=hrun g i s kr o rfl K H;have hok:tN P c gl o=WY:=nx hops K;obtain⟨hsel,S⟩:=IK hok;(have W:∀r E,b=WY->tQ d.live g i=WY->Xj (fB d t g i r E).eval o=Xj (nD f t g i s kr).eval o/\Region.wanted o (Xp g (d.ov t))=WY/\(match(g[i]?).bind (·.dst)with|some j=>d.live j|none=>WY)=WY:=by intro r E _ O;have hl:=(kV O K).1;simp only[nX,Um]at hl;refine⟨execOp_congr hsel λx hxx=>Cs x ?_,by rw[vd (kV O K).2];exact H,?_⟩;{have:=hl.1;rw[VE]at this;exact this x hxx};rw[K];cases hd:o.dst<;>simp only[Vf,hd];rw[hd]at hl;exact hl.2);cases n with|value u=>have L:=λp=>jf (P:=P) (main:=main) (cs:=p) K H hr;rw[L]at D;injection D with A B C;subst A B C;(cases R with|up=>exact .inl ⟨_,_,_,by rw[cI],.up,λp=>by rw[L,cI]⟩|bot h=>obtain⟨r,E,rfl,U,O⟩:=hB _ rfl h;obtain⟨T,a2,a3⟩:=W r E rfl O;refine .inl ⟨_,_,_,by rw[cI],.bot U,λp=>?_⟩;exact((wh he S K a2 (by rw[T];exact hr)).trans (by rw[T])).trans (congrArg (λF=>GStep.go (G F p) _ _) (jP a3 u)))|skip=>have L:=λp=>jZ (P:=P) (main:=main) (cs:=p) K H hr;rw[L]at D;injection D with A B C;subst A B C;(cases R with|up=>exact .inl ⟨_,_,_,by rw[cI],.up,λp=>by rw[L,cI]⟩|bot h=>obtain⟨r,E,rfl,U,O⟩:=hB _ rfl h;obtain⟨T,a2,a3⟩:=W r E rfl O;refine .inl ⟨_,_,_,by rw[cI],.bot U,λp=>?_⟩;exact((ya he S K a2 (by rw[T];exact hr)).trans (by rw[T])).trans (congrArg (λF=>GStep.go (G F p) _ _) (jP a3 Xi)))|enter j args=>have L:=λp=>je (P:=P) (main:=main) (cs:=p) K H hr;obtain⟨t1,k1,I⟩:=Jc (P:=P) j args;rw[L]at D;injection D with A B C;subst A B C;(cases R with|up=>exact .inr (.inl ⟨j,t1,k1,by rw[I],λp=>by rw[L,I]⟩)|bot h=>obtain⟨r,E,rfl,U,O⟩:=hB _ rfl h;obtain⟨T,a2,a3⟩:=W r E rfl O;refine .inr (.inl ⟨j,t1,k1,by rw[I],λp=>?_⟩);rw[wD he S K a2 (by rw[T];exact hr),T,I])|_=>exact hshp.elim)|inRangeFunc _=>simp[aW]at V|endRangeFunc _=>simp[aW]at V|beginRound=>simp[aW]at V|call _ _ _ _=>simp[aW]at V|extern _ _=>simp[aW]at V
end
section
variable{d:dm}
theorem cC.lu(h:s.g cs=s'.g cs):s=s':=by obtain⟨f,t,k,b,p⟩:=s;obtain⟨m,q,o,a,l⟩:=s';simp only[cC.g,G,cm,Xc.mk.injEq,Xk.mk.injEq]at h;obtain⟨⟨e,g,i,-,n,-⟩,j,-⟩:=h;have:=Gc (Xv j);subst e g i this;(have:b=a:=by cases b<;>cases a<;>simp_all[md]);rw[this]
theorem Gl.op(h:Gl d (.inRegion ops (i::rest)::kr) k'):∃a f,k'=.inRegion ops (i::a)::f/\Gl d (.inRegion ops rest::kr) (.inRegion ops a::f)/\tQ d.live ops i=WY:=by rcases h.cons (by simp[R0])with⟨l,g,j,k,b,e⟩|⟨m,o,n,g,j,k,b,e⟩;{subst j k;simp only[cV,UN,Um]at b;exact⟨rest,_,rfl,.mk' [.inRegion ops rest] g e (by simp only[UN,Wi,cV,b.2,VJ]),b.1⟩};cases j;subst k b;simp only[UN,Um]at e;exact⟨rest++n,_,rfl,.reg g e.2,e.1⟩
theorem Gp(a:tQ d.live ops i=WY):(match(ops[i]?).bind (·.dst)with|some j=>d.live j|none=>WY)=WY:=by cases b:ops[i]? with|none=>rfl|some o=>have:=(kV a b).1;simp only[nX]at this;grind
inductive DG(d:dm)(cs:List Xk):cC->Xc->Prop
 |here{t:Array W8}{k k':List XG}:Gl d k k'->DG d cs ⟨d.f,t,k,Wz,[]⟩ (G (d.bot t k') cs)
 |below{f:Xw}{t t0:Array W8}{k k0 k0':List XG}{ret:Bool}{pre st:List (Xw×Array W8×List XG)}:st=pre++[(d.f,t0,k0)]->Gl d k0 k0'->DG d cs ⟨f,t,k,ret,st⟩ (G (cm f t k (md ret)) (pre.map up++d.bot t0 k0'::cs))
theorem DG.running{g:Xc}(h:DG d cs s g):g.status=.running:=by cases h<;>rfl
theorem DG.step{cs cs0:List Xk}{s s1:cC}{g:Xc}{v v':W6}{es:Array XQ}(h:DG d cs s g)(p:Xd P main (s.g cs0) v=.go (s1.g cs0) v' es)(E:v7 P c gl s)(he:d.kind≠.early)(H:s.ret=Wz->Bz P s.f s.t s.k v)(R:s.st=[]->¬d.end s.k):∃g1,Xd P main g v=.go g1 v' es/\DG d cs s1 g1:=by(have w:∀ch,(s1.g cs0).frame.mode≠.panicking ch:=λch e=>by simp only[cC.g,G,cm]at e;cases hr:s1.ret<;>rw[hr]at e<;>simp[md]at e);cases h with|@here t k k' D=>rcases K8.step (d:=d) (b:=WY) (k:=k) (F:=d.bot t k') p E.items (.bot D) he (λ_=>R rfl) (H rfl) w with⟨O,m,F1,B,U,C⟩|⟨j,O,m,B,C⟩|⟨e,_⟩;{obtain rfl:s1=⟨d.f,O,m,Wz,[]⟩:=cC.lu (cs:=cs0) B;cases U with|bot S=>exact⟨_,C cs,.here S⟩};{obtain rfl:s1=⟨j,O,m,Wz,[(d.f,t,k)]⟩:=cC.lu (cs:=cs0) B;exact⟨_,C cs,.below (pre:=[]) rfl D⟩};cases e|@below f t A k N k0' Y n st W D=>subst W;cases Y with|false=>rcases K8.step (d:=d) (b:=Wz) (F:=cm f t k .run) p E.items .up he (λe=>by cases e) (H rfl) w with⟨O,m,F1,B,U,C⟩|⟨j,O,m,B,C⟩|⟨_,m,B,C⟩;{obtain rfl:s1=⟨f,O,m,Wz,n++[(d.f,A,N)]⟩:=cC.lu (cs:=cs0) B;cases U with|up=>exact⟨_,C _,.below rfl D⟩};{obtain rfl:s1=⟨j,O,m,Wz,(f,t,k)::(n++[(d.f,A,N)])⟩:=cC.lu (cs:=cs0) (B.trans rfl);exact⟨_,C _,.below (pre:=(f,t,k)::n) rfl D⟩};obtain rfl:s1=⟨f,t,m,WY,n++[(d.f,A,N)]⟩:=cC.lu (cs:=cs0) B;exact⟨_,C _,.below rfl D⟩|true=>cases n with|nil=>obtain⟨-,-,l,i,a,m,e⟩:=E.below (d.f,A,N) Θ;simp only at e;subst e;obtain⟨X,kk',rfl,S,h2⟩:=D.op;have hl:=Gp h2;have L:up (d.f,A,.inRegion l (i::a)::m)=nD d.f A l i a m:=rfl;rw[cC.iW]at p;simp only[VO,UP,Ve,Wh,L]at p;(cases q:P.funcs[f]? with|none=>rw[bN q,cI]at p;injection p with I J K;subst J K;obtain rfl:s1=⟨d.f,_,.inRegion l a::m,Wz,[]⟩:=cC.lu (cs:=cs0) I.symm;exact⟨_,(bN q).trans (congrArg (λF=>GStep.go (G F cs) _ _) (jP hl _)),.here S⟩|some V=>cases M:(results V t).run P v with|halt z w1=>obtain⟨o,Z,e⟩:=c8 (main:=main) (k:=k) (x:=nD d.f A l i a m) (cs:=cs0) q M;simp_all|ok u Z=>rw[aQ q M,cI]at p;injection p with I J K;subst J K;obtain rfl:s1=⟨d.f,_,.inRegion l a::m,Wz,[]⟩:=cC.lu (cs:=cs0) I.symm;exact⟨_,(aQ q M).trans (congrArg (λF=>GStep.go (G F cs) _ _) (jP hl _)),.here S⟩)|cons y n=>obtain⟨Q,T,ky⟩:=y;obtain⟨-,-,l,i,a,m,e⟩:=E.below (Q,T,ky) Θ;simp only at e;subst e;have L:up (Q,T,.inRegion l (i::a)::m)=nD Q T l i a m:=rfl;rw[cC.iW]at p;simp only[Wh,UP,L]at p;cases q:P.funcs[f]? with|none=>rw[bN q,cI]at p;injection p with I J K;subst J K;obtain rfl:s1=⟨Q,_,.inRegion l a::m,Wz,n++[(d.f,A,N)]⟩:=cC.lu (cs:=cs0) I.symm;exact⟨_,(bN q).trans (by rfl),.below rfl D⟩|some V=>cases M:(results V t).run P v with|halt z w1=>obtain⟨o,Z,e⟩:=c8 (main:=main) (k:=k) (x:=nD Q T l i a m) (cs:=(n++[(d.f,A,N)]).map up++cs0) q M;simp_all|ok u Z=>rw[aQ q M,cI]at p;injection p with I J K;subst J K;obtain rfl:s1=⟨Q,_,.inRegion l a::m,Wz,n++[(d.f,A,N)]⟩:=cC.lu (cs:=cs0) I.symm;exact⟨_,(aQ q M).trans (by rfl),.below rfl D⟩
theorem KV(D:Listed P c gl){w1:W6}(T:∀g,gl g=WY->r g=WX g)(W:cG c r w v)(U:nR c r s s')(V:v7 P c gl s)(A:bZ P s w s1 w1)(m:s.ret=Wz):Bz P s'.f s'.t s'.k v:=by obtain⟨f,t,k,ret,st⟩:=s;obtain⟨S,M,X,L,st'⟩:=s';obtain⟨O,H,Q,R,B⟩:=U;simp only at O H Q R B m;subst S X m;intro a i l I o J E p;subst J;(have h:Region.wanted o (Xp a t)=WY:=by rw[<-funext λj=>l5 H a j];exact p);obtain⟨y,-⟩:=V.sd;have F:=nx y E;have b:=ss D.aL D.ext F (ev:=(nD f t a i l I).eval) (λx q=>pB H T D.qv x q) (λ_=>⟨rfl,rfl⟩) w v W;cases q:(Xj (nD f t a i l I).eval o).run P w with|halt z w2=>rw[q]at b;by_cases K:∃u,z=.panic u;{obtain⟨u,rfl⟩:=K;exact(A.qs (lI E h q)).elim};exact(A.gH (l7 E h q b (λu e=>K ⟨u,e⟩))).elim|ok n w2=>rw[q]at b;obtain⟨Y,v1,r1,N,-,Z,-⟩:=b;exact⟨Y,v1,N,by cases Z<;>trivial⟩
def MZ(d:dm)(Q:Array W8->W6->Prop)(s:cC)(w:W6):Prop:=s.st=[]/\s.ret=Wz/\s.f=d.f/\s.k=[R0]/\Q s.t w
theorem iX.loc(hl:Listed P c gl){Q:Array W8->W6->Prop}(he:d.kind≠.early)(h:iX P (MZ d Q) s w):∀{r:bC}{own:Nat->Prop}{v:W6}{s':cC}{g:Xc},v7 P c gl s->(∃T D,cG c r (re w T D) v)->nR c r s s'->(∀g,gl g=WY->r g=WX g)->Reach c r own RO CU v->DG d cs s' g->(∀q p t F k' i v1,r.le q->Q t i->Gl d [R0] k'->cG c q i v1->ak c q t F->Reach c q p RO CU v1->Left c r own RO v p v1->Loc P main RO CU Stop p (G (d.bot F k') cs) v1)->Loc P main RO CU Stop own g v:=by induction h with|@done s w hd=>intro r own v s' g I⟨T,D,hw⟩m S b n K;obtain⟨C,g2,g3,g4,g5⟩:=hd T D;obtain⟨f,t,k,ret,st⟩:=s;obtain⟨f',F,k',u,st'⟩:=s';obtain⟨e1,W,e2,e3,a⟩:=m;simp only at e1 W e2 e3 a C g2 g3 g4 g5;subst f' k' u C g2 g3 g4;cases a;(cases n with|here j=>exact K r own _ _ _ _ v (bC.le_refl r) g5 j hw W b (Left.refl ..)|below e j=>simp at e)|@step s w hng U hex hall ih=>intro r own v s' g I⟨T,D,hw⟩m S b n K;have stuck:∀(f:Xw)(t:Array W8)(w:W6)(A:cC)(i:W6),¬bZ P ⟨f,t,[R0],Wz,[]⟩ w A i:=λf t w A i h=>h.gH ⟨_,w,by rfl⟩;(have o:s.st=[]->s.ret=Wz:=λh=>by cases m:s.ret with|false=>rfl|true=>exact absurd ⟨m,h⟩ U);by_cases J:s.st=[]/\d.l2.isSome=WY/\∃B,s.k=[.inRegion B [],R0];{obtain⟨N,h2,B,h3⟩:=J;have h0:=o N;obtain⟨f,t,k,ret,st⟩:=s;obtain⟨f',F,k',u,st'⟩:=s';obtain⟨e1,W,e2,e3,a⟩:=m;simp only at e1 W e2 e3 a N h3 h0;subst f' k' u N h3 h0;cases a;have hls:bZ P ⟨f,t,[.inRegion B [],R0],Wz,[]⟩ (re w T D) ⟨f,t,[R0],Wz,[]⟩ (re w T D):=⟨#[],by rfl⟩;cases n with|@here _ _ k2 j=>(have:Gl d [R0] k2:=by generalize hk:[XG.inRegion B [],R0]=kk at j;cases j with|app hn _=>simp_all|reg hn _=>simp only[Vs,XG.inRegion.injEq,and_true]at hk;obtain⟨rfl,rfl⟩:=hk;exact .fin hn|fin _=>simp at hk);exact ih T D _ _ hls (s':=⟨d.f,F,[R0],Wz,[]⟩) ⟨I.fn,rfl,I.below⟩ ⟨T,D,by simp_all⟩ ⟨rfl,W,rfl,rfl,.nil⟩ S b (.here this) K|below e j=>simp at e};(have R:s.st=[]->¬d.end s.k:=by intro N h2;rcases h2 with h2|⟨h2,h3⟩;{have h0:=o N;obtain⟨f,t,k,ret,st⟩:=s;simp_all};simp_all);(have Y:∀v1,Env own RO CU v v1->∃A i z v2 q M C,bZ P s (re w v1.tape v1.drawn) A i/\v7 P c gl A/\Xd P main g v1=.go C v2 M/\DG d cs z C/\Ext c r (re w v1.tape v1.drawn) v1 q i v2/\nR c q A z/\(∀e∈M,rq c q e):=by intro v1 E;have X:cG c r (re w v1.tape v1.drawn) v1:=hw.env b E;obtain⟨A,i,L⟩:=hex v1.tape v1.drawn;rcases sn (main:=main) (bs:=[]) hl S X m I (λe e'=>U ⟨e,e'⟩)with⟨s2,w2,es1,b1,b2,z,v2,q,M,b3,b4,b5,b6⟩|hb;{obtain⟨rfl,rfl⟩:=bZ.NC L ⟨es1,b1⟩;have hs':v7 P c gl s':=⟨trivial,by rw[m.k];exact I.items,by have:=I.below;have a:=m.st;revert this;generalize s.st=l at a;generalize s'.st=l' at a;induction a with|nil=>simp|@cons f t F k l l' _ _ ih=>intro h x hx;rcases Up.1 hx with rfl|hx;{simp_all};exact ih (λy hy=>h y (Uw _ hy)) x hx⟩;obtain⟨C,c1,c2⟩:=n.step b3 hs' he (λV=>KV hl S X m I L (by rw[<-m.ret];exact V)) (λh=>by rw[m.k];refine R ?_;have a:=m.st;rw[h]at a;generalize s.st=l at a;cases a;rfl);grind};exact(hb.not L).elim);refine .step n.running (λv1 E=>?_) (λv1 g' v' M E O=>?_);{obtain⟨A,i,z,v2,q,M,C,L,a2,a3,a4,H,a6,a7⟩:=Y v1 E;exact⟨_,_,_,a3,(H.mine (b.env E) a7).1⟩};obtain⟨A,i,z,v2,q,es',C,L,a2,a3,a4,H,a6,a7⟩:=Y v1 E;rw[a3]at O;injection O with b1 b2 b3;subst b1 b2 b3;refine ih v1.tape v1.drawn A i L a2 ⟨i.tape,i.drawn,H.rel⟩ a6 (λg e=>H.le _ _ (S g e)) (H.mine (b.env E) a7).2 a4 λr2 Z t F k' w2 v3 c1 c2 c3 c4 c5 c6 c7=>?_;exact K r2 Z t F k' w2 v3 (bC.le_trans H.le c1) c2 c3 c4 c5 c6 (Left.after b E H c7)
end
end Go.ab
