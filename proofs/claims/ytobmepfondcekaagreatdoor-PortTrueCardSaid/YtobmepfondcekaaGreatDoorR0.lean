/- A part of the proof of PortTrue. Conditions: none. -/
import Derived.KernelRfl
import GoSem.Core.Value
import Derived.Conc.Own4
import Derived.Conc.SmallLaws
import Derived.Conc.Listed
import Derived.Calls
import Derived.Conc.Own
import Derived.Conc.Events
set_option linter.all false
open Go renaming Addr->Yc,Builtin->XY,Code->Yl,Event->Ye,Frame->XF,FuncId->XO,Goroutine->Xz,IntKind->XH,Item->X3,MapEntry->Yj,Obj->Yf,Oper->Yk,Operand->XR,Program->XN,Question->Yi,Result->Ya,Sem->X0,TypeId->XI,Value->Xu,World->Xr,execOp->XE,stepG->XA,undef->XD,yielded->XM
open Bool renaming false->WN,true->Xq
open Option renaming none->Xv,some->Xp
abbrev UB:=@Nat.le_refl
abbrev UC:=@Nat.lt_of_lt_of_le
abbrev UD:=@Array.getElem?_eq_some_iff
abbrev UE:=@Bool.and_eq_true
abbrev UF:=@List.getElem?_eq_getElem
abbrev UG:=@List.mem_of_getElem?
abbrev UH:=@Array.getD_eq_getD_getElem?
abbrev UI:=@List.mem_cons
abbrev UJ:=@Option.map_eq_some_iff
abbrev UK:=@List.mem_map
abbrev UL:=@Array.getElem?_eq_getElem
abbrev UM:=@List.mem_cons_self
abbrev UN:=@Option.map_some
abbrev UO:=@Nat.le_trans
abbrev UP:=@Option.some.injEq
abbrev UQ:=@List.any_eq_true
abbrev UR:=@List.getElem?_eq_some_iff
abbrev US:=@List.getElem?_map
abbrev UT:=@Iff.rfl
abbrev UU:=@Array.getElem?_replicate
abbrev UW:=@List.mem_append
abbrev UX:=@Nat.lt_irrefl
abbrev UY:=@Prod.mk.injEq
abbrev UZ:=@List.mem_iff_getElem?
abbrev U0:=@Bool.false_eq_true
abbrev U1:=@List.mem_cons_of_mem
abbrev U2:=@Nat.zero_le
abbrev U3:=@Nat.le_of_lt
abbrev U4:=@List.length_eq_zero_iff
abbrev U5:=@Array.getElem?_setIfInBounds_ne
abbrev U6:=@List.all_cons
abbrev U7:=@Option.bind_eq_some_iff
abbrev U8:=@List.all_eq_true
abbrev U9:=@Option.getD_some
abbrev Va:=@Array.mem_append
abbrev Vb:=@Array.getElem?_push
abbrev Ve:=@List.map_cons
abbrev Vf:=@Prod.mk.inj
abbrev Vg:=@List.not_mem_nil
abbrev Vh:=@Nat.add_zero
abbrev Vi:=@Nat.lt_or_ge
abbrev Vj:=@Nat.le_add_right
abbrev Vk:=@Nat.le_of_ble_eq_true
abbrev Vl:=@Option.some.inj
abbrev Vm:=@Array.mem_of_getElem?
abbrev Vn:=@List.mem_append_left
abbrev Vo:=@List.mem_append_right
abbrev Vp:=@List.take_of_length_le
abbrev Vq:=@Classical.byContradiction
abbrev Vr:=@Nat.eq_zero_or_pos
abbrev Vs:=@Array.getElem?_modify
abbrev Vt:=@List.mem_filter
abbrev Vu:=@List.length_cons
abbrev Vv:=@List.map_nil
abbrev Vw:=@Nat.mod_lt
abbrev Vx:=@Array.ext_getElem?
abbrev Vy:=@List.length_append
abbrev Vz:=@Nat.add_assoc
abbrev VA:=@Nat.le_succ
abbrev VB:=@Nat.mul_comm
abbrev VC:=@Nat.not_lt_zero
abbrev VD:=@Option.bind_some
abbrev VE:=@List.nodup_cons
abbrev VF:=@Bool.eq_false_iff
abbrev VG:=@Nat.le_of_eq
abbrev VH:=@List.cons.injEq
abbrev VI:=@Nat.zero_add
abbrev VJ:=@Nat.pos_of_ne_zero
abbrev VK:=@List.foldl_cons
abbrev VL:=@List.count_cons_of_ne
abbrev VM:=@Array.getElem?_setIfInBounds
abbrev VN:=@Bool.or_eq_true
abbrev VO:=@Bool.or_true
abbrev VP:=@Array.getElem?_map
abbrev VQ:=@List.append_assoc
abbrev VR:=@List.getElem_mem
abbrev VS:=@List.mem_singleton
abbrev VU:=@Bool.or_false
abbrev VV:=@List.getElem?_append_left
abbrev VW:=@Nat.add_comm
abbrev VX:=@List.reverse_cons
abbrev VY:=@Bool.and_self
abbrev VZ:=@List.drop_eq_getElem_cons
abbrev V0:=@Nat.ne_of_lt
abbrev V1:=@List.perm_middle
abbrev V2:=@List.append_nil
abbrev V3:=@List.map_toArray
abbrev V4:=@Array.all_eq_true_iff_forall_mem
abbrev V5:=@Array.getElem?_mapIdx
abbrev V6:=@Bool.false_and
abbrev V7:=@Nat.mul_one
abbrev V8:=@List.mem_map_of_mem
abbrev V9:=@List.take_add_one
abbrev Wa:=@Int.le_refl
abbrev Wb:=@List.mem_flatMap
abbrev We:=@List.take_succ_eq_append_getElem
abbrev Wf:=@Bool.true_or
abbrev Wg:=@List.getElem_toArray
abbrev Wh:=@List.getElem_cons_succ
abbrev Wi:=@List.getElem_cons_zero
abbrev Wj:=@List.setIfInBounds_toArray
abbrev Wk:=@List.set_cons_zero
abbrev Wl:=@List.set_cons_succ
abbrev Wm:=@Bool.true_and
abbrev Wn:=@List.extract_eq_take_drop
abbrev Wo:=@List.getElem?_cons_succ
abbrev Wp:=@List.nodup_nil
abbrev Wq:=@List.nil_append
abbrev Wr:=@Array.mem_iff_getElem
abbrev Ws:=@Nat.lt_or_eq_of_le
abbrev Wt:=@List.cons_append
abbrev Wu:=@List.ext_getElem?
abbrev Wv:=@Array.getElem?_eq_none
abbrev Ww:=@List.map_eq_nil_iff
abbrev Wx:=@Array.mem_push
abbrev Wy:=@List.range_succ
abbrev Wz:=@Array.size_mapIdx
abbrev WA:=@Nat.le_antisymm
abbrev WB:=@List.foldl_append
abbrev WC:=@List.flatMap_cons
abbrev WE:=@Array.length_toList
abbrev WG:=@List.length_pos_iff
abbrev WH:=@Bool.toNat_le
abbrev WI:=@List.all_nil
abbrev WJ:=@Nat.le_of_lt_succ
abbrev WK:=@Bool.false_or
abbrev WL:=@List.getElem?_toArray
abbrev WM:=@List.cons_ne_nil
abbrev WO:=@List.length_nil
abbrev WQ:=@Array.getElem?_append_left
abbrev WR:=@Nat.sub_self
abbrev WS:=@List.take_length
abbrev WT:=@List.drop_of_length_le
abbrev WU:=@Nat.pow_le_pow_right
abbrev WV:=@List.mapIdx_cons
abbrev WW:=@List.any_cons
abbrev WX:=@Nat.add_sub_cancel_left
abbrev WY:=@List.getElem?_range
abbrev WZ:=@List.length_take
abbrev W4:=@List.eq_nil_or_concat
abbrev W6:=@List.count_pos_iff
abbrev W7:=@Int.le_antisymm
abbrev W8:=@Bool.eq_iff_iff
abbrev W9:=@Int.le_trans
abbrev Xa:=@Nat.mul_le_mul_right
abbrev Xb:=@List.foldlM_cons
abbrev Xc:=@Nat.zero_mul
abbrev Xd:=@List.count_append
abbrev Xe:=@Array.toList_append
abbrev Xf:=@Array.toList_extract
abbrev Xg:=@List.length_drop
abbrev Xh:=@List.getElem?_append_right
abbrev Xi:=@Nat.lt_of_le_of_lt
abbrev Xj:=@Nat.le_of_not_lt
abbrev Xk:=@Option.isSome_none
abbrev Xl:=@Nat.testBit_two_pow_mul_add
abbrev Xm:=@Nat.ne_of_beq_eq_false
abbrev Xn:=@List.contains_iff_mem
abbrev Xo:=@Option.isSome_iff_exists
abbrev Xs:=@List.flatMap_eq_nil_iff
abbrev Xw:=@List.length_reverse
abbrev Xx:=@List.concat_eq_append
abbrev Xy:=@Nat.pos_iff_ne_zero
abbrev XB:=@Array.getElem_setIfInBounds
abbrev XC:=@Array.getElem?_push_lt
abbrev XG:=@Array.getElem!_eq_getD
abbrev XJ:=@Array.mapM_eq_foldlM
abbrev XK:=@Array.foldlM_toList
abbrev XL:=@List.append_cancel_right
abbrev XS:=@List.take_subset_take_left
abbrev XT:=@Array.getElem?_setIfInBounds_self_of_lt
abbrev XU:=@List.count_cons_self
abbrev XV:=@Array.getElem?_of_mem
abbrev XW:=@List.perm_append_comm_assoc
abbrev XX:=@Int.fdiv_eq_ediv_of_nonneg
abbrev XZ:=@List.mem_of_mem_drop
abbrev X4:=@Array.map_congr_left
abbrev X6:=@List.eq_nil_of_length_eq_zero
abbrev X8:=@Nat.and_two_pow_sub_one_eq_mod
abbrev X9:=@Nat.two_pow_add_eq_or_of_lt
abbrev Yb:=@List.contains_append
namespace Go
abbrev Iv(n:Int):Xu:=.int .i64 n
variable{p:Prop}
theorem Ψ(h:p:=by kernel_rfl):p:=h
theorem Δ(h:p:=by decide):p:=h
theorem Ω(h:p:=by omega):p:=h
theorem Θ(h:p:=by simp):p:=h
theorem Ξ(h:p:=by rw[hP];kernel_rfl):p:=h
theorem Λ(h:p:=by rw[hP];exact .all):p:=h
theorem Υ(h:p:=by intro p hp;simp only[UI,Vg,or_false]at hp;(repeat'(refine Or.elim hp ?_ ?_<;>intro hp));(all_goals subst hp);all_goals first|(left;simp;done)|(refine .inr ⟨0,?_,hdep 0 ?_⟩;rotate_left;kernel_rfl;simp;done)|(refine .inr ⟨1,?_,hdep 1 ?_⟩;rotate_left;kernel_rfl;simp;done)|(refine .inr ⟨2,?_,hdep 2 ?_⟩;rotate_left;kernel_rfl;simp;done)|(refine .inr ⟨3,?_,hdep 3 ?_⟩;rotate_left;kernel_rfl;simp;done)|(refine .inr ⟨4,?_,hdep 4 ?_⟩;rotate_left;kernel_rfl;simp;done)|(refine .inr ⟨5,?_,hdep 5 ?_⟩;rotate_left;kernel_rfl;simp;done)|(refine .inr ⟨6,?_,hdep 6 ?_⟩;rotate_left;kernel_rfl;simp;done)|(refine .inr ⟨7,?_,hdep 7 ?_⟩;rotate_left;kernel_rfl;simp;done)|(refine .inr ⟨8,?_,hdep 8 ?_⟩;rotate_left;kernel_rfl;simp;done)|(refine .inr ⟨9,?_,hdep 9 ?_⟩;rotate_left;kernel_rfl;simp;done)|(refine .inr ⟨10,?_,hdep 10 ?_⟩;rotate_left;kernel_rfl;simp;done)|(refine .inr ⟨11,?_,hdep 11 ?_⟩;rotate_left;kernel_rfl;simp;done)|(refine .inr ⟨12,?_,hdep 12 ?_⟩;rotate_left;kernel_rfl;simp;done)|(refine .inr ⟨13,?_,hdep 13 ?_⟩;rotate_left;kernel_rfl;simp;done)|(refine .inr ⟨14,?_,hdep 14 ?_⟩;rotate_left;kernel_rfl;simp;done)|(refine .inr ⟨15,?_,hdep 15 ?_⟩;rotate_left;kernel_rfl;simp;done)|(refine .inr ⟨16,?_,hdep 16 ?_⟩;rotate_left;kernel_rfl;simp;done)|(refine .inr ⟨17,?_,hdep 17 ?_⟩;rotate_left;kernel_rfl;simp;done)|(refine .inr ⟨18,?_,hdep 18 ?_⟩;rotate_left;kernel_rfl;simp;done)|(refine .inr ⟨19,?_,hdep 19 ?_⟩;rotate_left;kernel_rfl;simp;done)|(refine .inr ⟨20,?_,hdep 20 ?_⟩;rotate_left;kernel_rfl;simp;done)|(refine .inr ⟨21,?_,hdep 21 ?_⟩;rotate_left;kernel_rfl;simp;done)|(refine .inr ⟨22,?_,hdep 22 ?_⟩;rotate_left;kernel_rfl;simp;done)|(refine .inr ⟨23,?_,hdep 23 ?_⟩;rotate_left;kernel_rfl;simp;done)|(refine .inr ⟨24,?_,hdep 24 ?_⟩;rotate_left;kernel_rfl;simp;done)|(refine .inr ⟨25,?_,hdep 25 ?_⟩;rotate_left;kernel_rfl;simp;done)):p:=h
abbrev ϖ(b:Nat):Xu:=.pointer (Xp ⟨b,0,Xv⟩)
abbrev ϱ(b o:Nat):Xu:=.pointer (Xp ⟨b,o,Xv⟩)
end Go
namespace Go.Pw
open Go.Conc
variable{P:XN}{α:Type}{F F' F1:XF}{o:Yf}{main rd:Bool}{cs:List XF}{w:Xr}{ops:Array Yk}{i d m N b:Nat}{k:List X3}{H L L':List (Nat×Xu)}{R:Xr->Xr->Prop}{D:Xr->Xr->Array Ye->Prop}{Stop:Xz->Xr->Prop}{J:Xz->Prop}{v:Xu}{t:Array Xu}{f:XO}
def ew(P:XN){α:Type}:X0 α->Option α
 |.pure a=>Xp a
 |.program k=>ew P (k P)
 |_=>Xv
theorem ic{x:X0 α}{a:α}(h:ew P x=Xp a)(w:Xr):x.run P w=.ok a w/\x.events P w #[]=#[]:=by induction x with|pure b=>simp only[ew,UP]at h;subst h;exact⟨rfl,rfl⟩|program k c=>exact c P h|_=>simp[ew]at h
def AZ(P:XN)(F:XF)(o:Yk):Option XF:=
 match o.op with
 |.defer _=>Xv
 |_=>match ew P (XE F.eval o)with
   |some (.value v)=>Xp (F.finish v)
   |some .skip=>Xp (F.finish XD)
   |_=>Xv
def mA(P:XN)(F:XF):Option XF:=
 match F.todo with
 |.code .skip::k=>Xp {F with todo:=k}
 |.code (.label _)::k=>Xp {F with todo:=k}
 |.inBlock _::k=>Xp {F with todo:=k}
 |.inScope _::k=>Xp {F with todo:=k}
 |.code (.seq a b)::k=>Xp {F with todo:=.code a::.code b::k}
 |.code (.cond c x y)::k=>match F.eval c with
   |.bool b=>Xp {F with todo:=.code (if b then x else y)::k}
   |_=>Xv
 |.code (.block id c)::k=>Xp {F with todo:=.code c::.inBlock id::k}
 |.code (.loop c)::k=>Xp {F with todo:=.code c::.inLoop c::k}
 |.inLoop c::k=>Xp {F with todo:=.code c::.inLoop c::k}
 |.code (.scope c)::k=>Xp {F with todo:=.code c::.inScope c::k}
 |.code (.exit id)::k=>(exitTo id k).map λk=>{F with todo:=k}
 |.code (.region _ ops WN)::k=>Xp {F with todo:=.inRegion ops (List.range ops.size)::k}
 |.inRegion _ []::k=>Xp {F with todo:=k}
 |.inRegion ops (i::_)::_=>
   match((ops[i]?).map (Region.wanted · (XM ops F.tmps))).getD WN with
   |true=>(ops[i]?).bind (AZ P F)
   |false=>Xp (F.finish XD)
 |_=>Xv
def hint(H:List (Nat×Xu))(F F1:XF):XF×List (Xu×Xu):=
 match F.todo with
 |.inRegion ops (i::_)::_=>
   match(ops[i]?).bind (·.dst)with
   |some d=>match H.lookup d with
     |some v=>({F1 with tmps:=F.tmps.setIfInBounds d v},[(F1.tmps.getD d XD,v)])
     |none=>(F1,[])
   |none=>(F1,[])
 |_=>(F1,[])
def br(P:XN)(H:List (Nat×Xu)):Nat->XF->Option (XF×List (Xu×Xu))
 |0,F=>Xp (F,[])
 |n+1,F=>(mA P F).bind λF1=>(br P H n (hint H F F1).1).map λx=>(x.1,(hint H F F1).2++x.2)
theorem kJ(P:XN)(f:XO):seen P f #[]=#[]:=by rw[seen_def];simp
theorem A6{o:Yk}(C:F.mode=.run)(B:F.kind≠.early)(H:∃ops i rest k,F.todo=.inRegion ops (i::rest)::k/\ops[i]?=Xp o/\Region.wanted o (XM ops F.tmps)=Xq)(h:AZ P F o=Xp F'):XA P main (G F cs) w=.go (G F' cs) w #[]:=by obtain⟨ops,i,rest,k,z,A,t⟩:=H;obtain⟨fn,tmps,todo,defers,mode,kind,q⟩:=F;subst z C;(have m:=by simpa using B);(have D:∀c,o.op≠.defer c:=λc e=>by unfold AZ at h;rw[e]at h;cases h);(have y:∀n,ew P (XE (XF.eval {fn:=fn,tmps:=tmps,todo:=.inRegion ops (i::rest)::k,defers:=defers,mode:=.run,kind:=kind,roundOf:=q}) o)=Xp n->(∃v,n=.value v/\F'=XF.finish {fn:=fn,tmps:=tmps,todo:=.inRegion ops (i::rest)::k,defers:=defers,mode:=.run,kind:=kind,roundOf:=q} v)\/(n=.skip/\F'=XF.finish {fn:=fn,tmps:=tmps,todo:=.inRegion ops (i::rest)::k,defers:=defers,mode:=.run,kind:=kind,roundOf:=q} XD):=by intro n E;unfold AZ at h;split at h;{cases h};rw[E]at h;cases n<;>simp at h<;>simp[h]);cases u:ew P (XE (XF.eval {fn:=fn,tmps:=tmps,todo:=.inRegion ops (i::rest)::k,defers:=defers,mode:=.run,kind:=kind,roundOf:=q}) o)with|none=>unfold AZ at h;split at h;{cases h};rw[u]at h;cases h|some n=>obtain⟨p,r⟩:=ic u w;(have x:XA P main (G {fn:=fn,tmps:=tmps,todo:=.inRegion ops (i::rest)::k,defers:=defers,mode:=.run,kind:=kind,roundOf:=q} cs) w=XA.apply P Xq {fn:=fn,tmps:=tmps,todo:=.inRegion ops (i::rest)::k,defers:=defers,mode:=.run,kind:=kind,roundOf:=q} cs Xv (XE (XF.eval {fn:=fn,tmps:=tmps,todo:=.inRegion ops (i::rest)::k,defers:=defers,mode:=.run,kind:=kind,roundOf:=q}) o) w:=by cases q with|none=>simp only[G,XA,XA.exec,XA.oper,XF.oper?,A,t,UN,U9,if_true]|some l=>simp only[G,XA,XA.exec,XA.oper,XF.oper?,A,t,UN,U9,if_true];split;{rename_i e;exact absurd e (D _)};rfl);rw[x];rcases y n u with⟨v,rfl,rfl⟩|⟨rfl,rfl⟩;{simp[XA.apply,p,r,m,GStep.after,kJ,G]};simp[XA.apply,p,r,m,GStep.after,kJ,G]
theorem ki(m:F.mode=.run)(a:F.kind≠.early)(h:mA P F=Xp F'):(∀main cs w,XA P main (G F cs) w=.go (G F' cs) w #[])/\F'.mode=.run/\F'.kind≠.early:=by obtain⟨t,q,r,f,p,n,v⟩:=F;subst m;unfold mA at h;simp only at h;split at h;(all_goals first|(cases h;exact⟨λmain cs w=>by simp[G,XA,XA.exec],rfl,a⟩)|skip);{split at h;{rename_i b s;cases h;exact⟨λmain cs w=>by simp[G,XA,XA.exec,s],rfl,a⟩};cases h};{rename_i id k;cases j:exitTo id k with|none=>rw[j]at h;cases h|some u=>rw[j]at h;cases h;exact⟨λmain cs w=>by simp[G,XA,XA.exec,j],rfl,a⟩};{rename_i d i e k;split at h;{rename_i g;cases l:d[i]? with|none=>rw[l]at h;cases h|some o=>rw[l]at h g;simp only[VD]at h;refine⟨λmain cs w=>A6 rfl a ⟨d,i,e,k,rfl,l,by simpa using g⟩ h,?_⟩;unfold AZ at h;split at h;{cases h};split at h<;>cases h<;>exact⟨rfl,a⟩};rename_i g;cases h;refine⟨λmain cs w=>?_,rfl,a⟩;simp only[G,XA,XA.exec,g,U0,if_false]};cases h
theorem ID{rest:List Nat}{d:Tmp}(e:F.todo=.inRegion ops (i::rest)::k)(l:(ops[i]?).bind (·.dst)=Xp d)(h:mA P F=Xp F1):∃v,F1={F with tmps:=F.tmps.setIfInBounds d v,todo:=.inRegion ops rest::k}:=by(have c:∀v,F.finish v={F with tmps:=F.tmps.setIfInBounds d v,todo:=.inRegion ops rest::k}:=λv=>by obtain⟨m,tmps,todo,b,j,g,n⟩:=F;subst e;simp[XF.finish,l]);unfold mA at h;rw[e]at h;simp only at h;split at h;{cases f:ops[i]? with|none=>rw[f]at h;cases h|some o=>rw[f]at h;simp only[VD]at h;unfold AZ at h;split at h;{cases h};split at h<;>cases h;{exact⟨_,c _⟩};exact⟨_,c _⟩};cases h;exact⟨_,c _⟩
theorem wF(h:mA P F=Xp F1)(a:∀p∈(hint H F F1).2,p.1=p.2):(hint H F F1).1=F1:=by unfold hint at a⊢;split;{rename_i e i j k g;rw[g]at a;simp only at a;cases f:(e[i]?).bind (·.dst)with|none=>rfl|some d=>rw[f]at a;simp only at a⊢;cases l:H.lookup d with|none=>rfl|some v=>rw[l]at a;simp only[VS,forall_eq]at a⊢;obtain⟨u,rfl⟩:=ID g f h;rcases Vi d F.tmps.size with c|b;{(have:(F.tmps.setIfInBounds d u).getD d XD=u:=by simp[c]);rw[this]at a;rw[a]};simp[Array.setIfInBounds,Nat.not_lt.2 b]};rfl
theorem rK(j:∀a b c,R a b->R b c->R a c)(i:∀w,D w w #[]):∀(n:Nat){F F':XF}{obs:List (Xu×Xu)}{w:Xr},br P H n F=Xp (F',obs)->(∀p∈obs,p.1=p.2)->F.mode=.run->F.kind≠.early->Goes P main R D Stop m (G F' cs) w->Goes P main R D Stop (m+n) (G F cs) w|0,F,F',obs,w,h,_,_,_,g=>by cases h;exact g|n+1,F,F',obs,w,h,k,t,s,g=>by simp only[br]at h;cases d:mA P F with|none=>rw[d]at h;cases h|some l=>rw[d]at h;simp only[VD]at h;cases f:br P H n (hint H F l).1 with|none=>rw[f]at h;cases h|some x=>rw[f]at h;simp only[UN,UP,UY]at h;obtain⟨rfl,rfl⟩:=h;rw[wF d λp d=>k p (UW.2 (.inl d))]at f;obtain⟨o,q,r⟩:=ki t s d;have:=rK j i n (F':=x.1) (obs:=x.2) f (λp d=>k p (UW.2 (.inr d))) q r g;refine .inr ⟨rfl,λv u=>?_⟩;rw[o];exact⟨i v,this.rely j u⟩
theorem nR(f:∀F b,(∀w,XA P main (G F cs) w=.go (G b cs) w #[])->J (G b cs)->J (G F cs)):∀(n:Nat){F F':XF}{obs:List (Xu×Xu)},br P H n F=Xp (F',obs)->(∀p∈obs,p.1=p.2)->F.mode=.run->F.kind≠.early->J (G F' cs)->J (G F cs)|0,F,F',obs,h,_,_,_,e=>by cases h;exact e|n+1,F,F',obs,h,g,m,l,e=>by simp only[br]at h;cases a:mA P F with|none=>rw[a]at h;cases h|some b=>rw[a]at h;simp only[VD]at h;cases d:br P H n (hint H F b).1 with|none=>rw[d]at h;cases h|some x=>rw[d]at h;simp only[UN,UP,UY]at h;obtain⟨rfl,rfl⟩:=h;rw[wF a λp a=>g p (UW.2 (.inl a))]at d;obtain⟨i,j,k⟩:=ki m l a;exact f F b (λw=>i main cs w) (nR f n (F':=x.1) (obs:=x.2) d (λp a=>g p (UW.2 (.inr a))) j k e)
def tm(N:Nat)(L:List (Nat×Xu))(t:Array Xu):Array Xu:=((List.range N).map λi=>match L.lookup i with|some v=>v|none=>t.getD i XD).toArray
structure Sl(N:Nat)(L:List (Nat×Xu))(t:Array Xu):Prop where
 size:t.size=N
 at_:∀p∈L,t.getD p.1 XD=p.2
theorem fy(h:L.lookup i=Xp v):(i,v)∈L:=by induction L with|nil=>cases h|cons p l c=>simp only[List.lookup]at h;split at h;{rename_i e;cases h;(have:=by simpa using e);subst this;exact UM ..};exact U1 _ (c h)
theorem Sl.tm(h:Sl N L t):t=tm N L t:=by apply Vx;intro i;(have e:(Pw.tm N L t)[i]?=((List.range N).map λi=>match L.lookup i with|some v=>v|none=>t.getD i XD)[i]?:=by unfold Pw.tm;simp);rw[e,US];rcases Vi i N with a|a;{rw[WY a];(have b:i<t.size:=by rw[h.size];exact a);simp only[UN,UL b,UP];cases d:L.lookup i with|none=>simp[UL b]|some v=>have:=h.at_ _ (fy d);simp only[UH,UL b]at this;exact this};rw[List.getElem?_eq_none (by simpa using a),Wv (by rw[h.size];exact a)];rfl
theorem Sl.all(h:(t.size,L.map λp=>t.getD p.1 XD)=(N,L.map (·.2)):=by kernel_rfl):Sl N L t:=by obtain⟨a,b⟩:=Vf h;refine⟨a,λp d=>?_⟩;obtain⟨i,c⟩:=UZ.1 d;have:=congrArg (·[i]?) b;simpa[US,c]using this
theorem Sl.Px(h:t.size=N):Sl N [] t:=⟨h,λp a=>by cases a⟩
theorem Sl.cons{N:Nat}{L:List (Nat×Xu)}{t:Array Xu}{i:Nat}{v:Xu}(h:t.getD i XD=v)(b:Sl N L t):Sl N ((i,v)::L) t:=⟨b.size,λp a=>by rcases UI.1 a with rfl|a;{exact h};exact b.at_ p a⟩
section
abbrev fr(f:XO)(t:Array Xu)(k:List X3):XF:={fn:=f,tmps:=t,todo:=k,defers:=[],mode:=.run,kind:=.normal,roundOf:=Xv}
def sub:List Nat->Yl->Yl
 |[],c=>c
 |i::p,c=>match c,i with
   |.seq a _,0=>sub p a
   |.seq _ b,_=>sub p b
   |.cond _ a _,0=>sub p a
   |.cond _ _ b,_=>sub p b
   |.block _ a,_=>sub p a
   |.loop a,_=>sub p a
   |.scope a,_=>sub p a
   |.rangeFunc _ _ a _,0=>sub p a
   |.rangeFunc _ _ _ b,_=>sub p b
   |c,_=>c
def aV:Yl->Array Yk
 |.region _ ops _=>ops
 |_=>#[]
def opn(ops:Array Yk)(i:Nat):Yk:=(ops[i]?).getD default
def TY:Nat->Nat->List Nat->List Nat
 |0,_,a=>a
 |f+1,n,a=>match Nat.ble n 1 with|true=>a|false=>TY f (n/2) (n%2::a)
def dg(n:Nat):List Nat:=TY 60 n []
abbrev sb(c:Yl)(n:Nat):Yl:=sub (dg n) c
def tT:List Nat->Yl->List X3->List X3
 |[],_,k=>k
 |i::p,c,k=>match c,i with
   |.seq a b,0=>tT p a (.code b::k)
   |.seq _ b,_=>tT p b k
   |.cond _ a _,0=>tT p a k
   |.cond _ _ b,_=>tT p b k
   |.block id a,_=>tT p a (.inBlock id::k)
   |.loop a,_=>tT p a (.inLoop a::k)
   |.scope a,_=>tT p a (.inScope a::k)
   |_,_=>k
abbrev rA(c:Yl)(n:Nat)(l:List Nat):List X3:=.inRegion (aV (sb c n)) l::tT (dg n) c []
abbrev cA(c:Yl)(n:Nat):List X3:=.code (sb c n)::tT (dg n) c []
abbrev xA(x:Yl)(c:Yl)(n:Nat):List X3:=.code x::tT (dg n) c []
abbrev dA(c:Yl)(n:Nat)(r:Nat):List X3:=.code (.region r (aV (sb c n)) Xq)::tT (dg n) c []
theorem Sl.get(h:Sl N L t)(a:L.lookup i=Xp v):t.getD i XD=v:=h.at_ _ (fy a)
theorem Sl.gN(h:Sl N L t)(i:Nat)(hl:L.lookup i=Xp v):t.getD i XD=v:=h.get hl
theorem Sl.put(h:Sl N L t)(c:d<N)(e:∀p∈L',p=(d,v)\/(p∈L/\p.1≠d)):Sl N L' (t.setIfInBounds d v):=by refine⟨by simp[h.size],λp f=>?_⟩;rcases e p f with rfl|⟨a,b⟩;{simp[UH,h.size,c]};rw[<-h.at_ p a];simp only[UH];rw[U5 (Ne.symm b)]
theorem Sl.sub{N:Nat}{L L':List (Nat×Xu)}{t:Array Xu}(h:Sl N L t)(b:∀p∈L',p∈L):Sl N L' t:=⟨h.size,λp a=>h.at_ p (b p a)⟩
theorem aU{o:Yk}(h:Sl N L t)(b:Region.wanted o (XM ops (tm N L t))=Xq):Region.wanted o (XM ops t)=Xq:=by rw[h.tm];exact b
theorem Sl.pt(h:Sl N L t)(b:d<N:=by decide)(c:L.all (λp=>!(p.1==d))=Xq:=by rfl):Sl N ((d,v)::L) (t.setIfInBounds d v):=h.put b λp a=>by rcases UI.1 a with rfl|a;{exact .inl rfl};exact .inr ⟨a,by simpa using U8.1 c p a⟩
theorem rh:∀p∈([]:List (Xu×Xu)),p.1=p.2:=λp a=>by cases a
theorem JP{a b:Xu}{l:List (Xu×Xu)}(h:a=b)(d:∀p∈l,p.1=p.2):∀p∈(a,b)::l,p.1=p.2:=λp c=>by rcases UI.1 c with rfl|c;{exact h};exact d p c
theorem int_eq{k:XH}{x y:Int}(h:x=y):Xu.int k x=Xu.int k y:=by rw[h]
structure Ob where
 c:Xu
 b:Xu
 h:c=b
def oi(k:XH)(c b:Int)(h:c=b):Ob:=⟨.int k c,.int k b,int_eq h⟩
def o2(c b:Int)(h:c=b):Ob:=oi .u32 c b h
def o3(c b:Int)(h:c=b):Ob:=oi .i32 c b h
def o6(c b:Int)(h:c=b):Ob:=oi .i64 c b h
def o8(c b:Int)(h:c=b):Ob:=oi .u64 c b h
def ob(c b:Bool)(h:c=b):Ob:=⟨.bool c,.bool b,congrArg Xu.bool h⟩
def oh(O:List (Nat×Ob)):List (Nat×Xu):=O.map λp=>(p.1,p.2.b)
def oo(O:List (Nat×Ob)):List (Xu×Xu):=O.map λp=>(p.2.c,p.2.b)
theorem tf(O:List (Nat×Ob)):∀p∈oo O,p.1=p.2:=λp a=>by obtain⟨q,_,rfl⟩:=UK.1 a;exact q.2.h
def iS(P:XN)(H:List (Nat×Xu))(n:Nat)(F:XF):Array Xu:=match br P H n F with|some x=>x.1.tmps|none=>#[]
section
variable{k':List X3}{n:Nat}{obs:List (Xu×Xu)}
theorem Hk(l:∀a b c,R a b->R b c->R a c)(i:∀w,D w w #[])(n:Nat)(o:Sl N L t)(g:br P H n (fr f (tm N L t) k)=Xp (fr f (iS P H n (fr f (tm N L t) k)) k',obs))(q:∀p∈obs,p.1=p.2)(h:Sl N L' (iS P H n (fr f (tm N L t) k)))(j:∀d,Sl N L' d->Goes P main R D Stop m (G (fr f d k') cs) w):Goes P main R D Stop (m+n) (G (fr f t k) cs) w:=by(have e:fr f t k=fr f (tm N L t) k:=by rw[<-o.tm]);rw[e];exact rK l i n g q rfl Θ (j _ h)
theorem Ml(h:∀F a,(∀w,XA P main (G F cs) w=.go (G a cs) w #[])->J (G a cs)->J (G F cs))(n:Nat)(i:Sl N L t)(c:br P H n (fr f (tm N L t) k)=Xp (fr f (iS P H n (fr f (tm N L t) k)) k',obs))(j:∀p∈obs,p.1=p.2)(d:Sl N L' (iS P H n (fr f (tm N L t) k)))(g:∀b,Sl N L' b->J (G (fr f b k') cs)):J (G (fr f t k) cs):=by(have e:fr f t k=fr f (tm N L t) k:=by rw[<-i.tm]);rw[e];exact nR (main:=main) h n c j rfl Θ (g _ d)
end
end
def wR:Xu->Bool
 |.agg _|.tuple _=>WN
 |_=>Xq
def Rh{α:Type}(b:Nat)(r:Option (α×Yf×List Nat)):Option (α×Yf×List Nat):=r.map λr=>(r.1,r.2.1,b::r.2.2)
def jS(P:XN)(rd:Bool){α:Type}:X0 α->Yf->Option (α×Yf×List Nat)
 |.pure a,o=>Xp (a,o,[])
 |.program k,o=>jS P rd (k P) o
 |.load .plain ⟨b,i,Xv⟩ k,.cells c e fr=>(c[i]?).bind λv=>Rh b (jS P rd (k v) (.cells c e fr))
 |.store .plain ⟨b,i,Xv⟩ v k,.cells c e (0,0)=>match !rd&&wR v&&decide (i<c.size)with
   |true=>Rh b (jS P rd k (.cells (c.setIfInBounds i v) e))
   |false=>Xv
 |.getObj r k,.map es n=>Rh r (jS P rd (k (.map es n)) (.map es n))
 |.setObj r (.map es' n') k,.map _ _=>match rd with
   |false=>Rh r (jS P rd k (.map es' n'))
   |true=>Xv
 |_,_=>Xv
def Iu(P:XN){α:Type}:X0 α->Option (Yf×(Nat->X0 α))
 |.program k=>Iu P (k P)
 |.new o k=>Xp (o,k)
 |_=>Xv
def iw(w:Xr)(b:Nat)(o:Yf):Xr:={w with heap:=w.heap.setIfInBounds b o}
theorem p7{o':Yf}(h:w.heap[b]?=Xp o):(iw w b o').heap[b]?=Xp o':=by obtain⟨a,_⟩:=UD.1 h;simp[iw,a]
theorem oG{c:Nat}(h:c≠b):(iw w b o).heap[c]?=w.heap[c]?:=by simp[iw,U5 (Ne.symm h)]
theorem vw(w:Xr)(b:Nat)(o o':Yf):iw (iw w b o) b o'=iw w b o':=by simp[iw]
theorem mU(h:w.heap[b]?=Xp o):iw w b o=w:=by obtain⟨c,a⟩:=UD.1 h;(have:w.heap.setIfInBounds b o=w.heap:=Array.ext (by simp) λk d _=>by rw[XB];split;{rename_i e;subst e;exact a.symm};rfl);unfold iw;rw[this]
theorem zy{c:Array Xu}{e:XI}(h:w.heap[b]?=Xp (.cells c e)):w.setCell ⟨b,i,Xv⟩ v=iw w b (.cells (c.setIfInBounds i v) e):=by obtain⟨f,d⟩:=UD.1 h;(have:w.heap.modify b (λ|.cells c a frozen=>.cells (c.setIfInBounds i v) a frozen|o=>o)=w.heap.setIfInBounds b (.cells (c.setIfInBounds i v) e):=by apply Array.ext (by simp);intro k g _;rw[Array.getElem_modify,XB];split;{rename_i e;subst e;rw[d]};rfl);unfold Xr.setCell iw;rw[<-this];rfl
def v7(b:Nat)(e:Ye):Prop:=(match e.loc with|.cell a=>a.block=b|.obj j=>j=b|_=>False)/\e.sync=WN
theorem Kl{f:Array Ye->Array Ye}{e:Ye}(i:v7 b e)(h:∀es,∃a,f es=es++a/\∀x∈a,v7 b x)(es:Array Ye):∃a,f (es.push e)=es++a/\∀x∈a,v7 b x:=by obtain⟨a,d,g⟩:=h (es.push e);refine⟨#[e]++a,by simp[d],λx c=>?_⟩;rcases Va.1 c with c|c;{(obtain rfl:=by simpa using c);exact i};exact g x c
theorem kI{r:Option (α×Yf×List Nat)}{a:α}{q:List Nat}(h:Rh b r=Xp (a,o,q)):∃c,r=Xp (a,o,c)/\q=b::c:=by obtain⟨⟨f,g,c⟩,d,e⟩:=UJ.1 h;cases e;exact⟨c,d,rfl⟩
theorem rI{x:X0 α}:∀{o o':Yf}{q:List Nat}{a:α}{w:Xr},jS P rd x o=Xp (a,o',q)->(∀r∈q,r=b)->w.heap[b]?=Xp o->x.run P w=.ok a (iw w b o')/\∀es,∃u,x.events P w es=es++u/\∀e∈u,v7 b e:=by induction x with|pure a=>intro o o' q a w h g d;cases h;exact⟨by rw[mU d];rfl,λes=>⟨#[],by simp,by simp⟩⟩|program k n=>exactλh g d=>n P h g d|load m A k n=>intro o o' q a w h g d;obtain⟨j,i,C⟩:=A;cases m<;>cases C<;>cases o<;>simp only[jS,reduceCtorEq]at h;obtain⟨v,z,h⟩:=U7.1 h;obtain⟨B,s,rfl⟩:=kI h;obtain rfl:j=b:=g _ (UM ..);obtain⟨l,p⟩:=n v s (λr t=>g r (U1 _ t)) d;(have y:w.cell? ⟨j,i,Xv⟩=Xp v:=by simp[Xr.cell?,d,z]);refine⟨by simpa[X0.run,y]using l,λes=>?_⟩;rw[show(X0.load Mode.plain ⟨j,i,Xv⟩ k).events P w es=(k v).events P w (es.push ⟨.cell ⟨j,i,Xv⟩,WN,WN⟩)by simp[X0.events,X0.runT,y,-X0.runT_eq];rfl];exact Kl (f:=(k v).events P w) ⟨rfl,rfl⟩ p es|store m A v k n=>intro o o' q a w h g d;obtain⟨j,i,C⟩:=A;(cases m<;>cases C<;>cases o<;>try(exfalso;revert h;simp[jS];done));rename_i c e fr;obtain⟨F,H⟩:=fr;(cases F<;>cases H<;>try(exfalso;revert h;simp[jS];done));simp only[jS]at h;split at h;{rename_i D;rw[UE,UE,decide_eq_true_eq]at D;obtain⟨⟨_,z⟩,I⟩:=D;obtain⟨B,s,rfl⟩:=kI h;obtain rfl:j=b:=g _ (UM ..);obtain⟨l,p⟩:=n s (λr t=>g r (U1 _ t)) (p7 d);rw[vw,<-zy d]at l;rw[<-zy d]at p;(have y:w.cell? ⟨j,i,Xv⟩=Xp c[i]:=by simp[Xr.cell?,d,I]);(have E:w.frozen? ⟨j,i,Xv⟩=WN:=by simp[Xr.frozen?,d]);refine⟨by cases v<;>simp[wR]at z<;>simpa[X0.run,y,E]using l,λes=>?_⟩;rw[show(X0.store Mode.plain ⟨j,i,Xv⟩ v k).events P w es=k.events P (w.setCell ⟨j,i,Xv⟩ v) (es.push ⟨.cell ⟨j,i,Xv⟩,Xq,WN⟩)by cases v<;>simp[wR]at z<;>(simp[X0.events,X0.runT,y,E,-X0.runT_eq];rfl)];exact Kl (f:=k.events P _) ⟨rfl,rfl⟩ p es};cases h|getObj r k n=>intro o o' q a w h g d;cases o<;>simp only[jS,reduceCtorEq]at h;obtain⟨B,s,rfl⟩:=kI h;obtain rfl:r=b:=g _ (UM ..);obtain⟨l,p⟩:=n _ s (λr t=>g r (U1 _ t)) d;refine⟨by simpa[X0.run,d]using l,λes=>?_⟩;rw[show(X0.getObj r k).events P w es=(k _).events P w (es.push ⟨.obj r,WN,WN⟩)by simp[X0.events,X0.runT,d,Yf.isChan,-X0.runT_eq];rfl];exact Kl (f:=(k _).events P w) ⟨rfl,rfl⟩ p es|setObj r ob k n=>intro o o' q a w h g d;cases rd<;>cases o<;>cases ob<;>simp only[jS,reduceCtorEq]at h;obtain⟨B,s,rfl⟩:=kI h;obtain rfl:r=b:=g _ (UM ..);obtain⟨l,p⟩:=n s (λr t=>g r (U1 _ t)) (p7 d);rw[vw]at l;refine⟨by simp only[X0.run,d];exact l,λes=>?_⟩;rw[show(X0.setObj r _ k).events P w es=k.events P (iw w r _) (es.push ⟨.obj r,Xq,WN⟩)by simp[X0.events,X0.runT,d,Yf.isChan,-X0.runT_eq];rfl];exact Kl (f:=k.events P _) ⟨rfl,rfl⟩ p es|_=>intro o o' q a w h;simp[jS]at h
theorem LP{x:X0 α}:∀{o o':Yf}{q:List Nat}{a:α},jS P Xq x o=Xp (a,o',q)->o'=o:=by induction x with|pure a=>intro o o' q a h;cases h;rfl|program k b=>exactλh=>b P h|load m d k b=>intro o o' q a h;obtain⟨j,i,g⟩:=d;cases m<;>cases g<;>cases o<;>simp only[jS,reduceCtorEq]at h;obtain⟨v,s,h⟩:=U7.1 h;obtain⟨p,f,rfl⟩:=kI h;exact b v f|getObj r k b=>intro o o' q a h;cases o<;>simp only[jS,reduceCtorEq]at h;obtain⟨p,f,rfl⟩:=kI h;exact b _ f|store m d v k b=>intro o o' q a h;obtain⟨j,i,g⟩:=d;(cases m<;>cases g<;>cases o<;>try(exfalso;revert h;simp[jS];done));rename_i c e fr;obtain⟨l,n⟩:=fr;cases l<;>cases n<;>exfalso<;>revert h<;>simp[jS]|setObj r ob k b=>intro o o' q a h;cases o<;>cases ob<;>simp[jS]at h|_=>intro o o' q a h;simp[jS]at h
theorem KZ{x:X0 α}{k:Nat->X0 α}{a:α}(h:Iu P x=Xp (o,k))(d:ew P (k w.heap.size)=Xp a):x.run P w=.ok a (w.alloc o)/\x.events P w #[]=#[]:=by induction x with|program f e=>exact e P h|new g f=>cases h;obtain⟨b,c⟩:=ic d (w.alloc o);exact⟨b,c⟩|_=>simp[Iu]at h
def Ta:Op->Bool
 |.defer _=>Xq
 |_=>WN
def Ar(F:XF):Option Yk:=match F.todo with
 |.inRegion ops (i::_)::_=>match((ops[i]?).map (Region.wanted · (XM ops F.tmps))).getD WN with
   |true=>match ops[i]? with
     |some o=>match Ta o.op with|true=>Xv|false=>Xp o
     |none=>Xv
   |false=>Xv
 |_=>Xv
def valOf:Next->Option Xu
 |.value v=>Xp v
 |.skip=>Xp XD
 |_=>Xv
def St(P:XN)(rd:Bool)(k:Nat)(F:XF)(H:List (Nat×Yf)):Option (XF×List (Nat×Yf)×List (Nat×Nat)):=
 match Ar F,H[k]? with
 |some o,Xp (b,ob)=>match jS P rd (XE F.eval o) ob with
   |some (n,ob',q)=>(valOf n).map λv=>(F.finish v,H.set k (b,ob'),q.map λr=>(r,b))
   |none=>Xv
 |_,_=>Xv
def QO(P:XN)(c:Nat)(F:XF):Option (XF×Yf):=
 match Ar F with
 |some o=>match Iu P (XE F.eval o)with
   |some (ob,k)=>((ew P (k c)).bind valOf).map λv=>(F.finish v,ob)
   |none=>Xv
 |none=>Xv
abbrev MR:=XF×List (Nat×Yf)×List (Nat×Nat)×List (Xu×Xu)
def ir(P:XN)(rd:Bool)(O:List (Nat×Xu)):Nat->List Nat->List Nat->XF->List (Nat×Yf)->Option MR
 |0,_,_,F,H=>Xp (F,H,[],[])
 |n+1,hs,bs,F,H=>match mA P F with
   |some F1=>(ir P rd O n hs bs (hint O F F1).1 H).map λr=>(r.1,r.2.1,r.2.2.1,(hint O F F1).2++r.2.2.2)
   |none=>match hs with
     |[]=>Xp (F,H,[],[])
     |0::hs=>match bs with
       |[]=>Xv
       |c::bs=>match QO P c F with
         |some (F1,ob)=>ir P rd O n hs bs F1 ((c,ob)::H)
         |none=>Xv
     |(k+1)::hs=>match St P rd k F H with
       |some (F1,H1,q)=>(ir P rd O n hs bs F1 H1).map λs=>(s.1,s.2.1,q++s.2.2.1,s.2.2.2)
       |none=>Xv
theorem wM{o:Yk}(h:Ar F=Xp o):∃ops i rest k,F.todo=.inRegion ops (i::rest)::k/\ops[i]?=Xp o/\Region.wanted o (XM ops F.tmps)=Xq/\∀c,o.op≠.defer c:=by unfold Ar at h;split at h;{rename_i ops i rest k f;split at h;{rename_i g;split at h;{rename_i j d;split at h;{cases h};rename_i b;cases h;refine⟨ops,i,rest,k,f,d,by simpa[d]using g,λc e=>?_⟩;rw[e]at b;cases b};cases h};cases h};cases h
theorem Cd{o:Yk}{w':Xr}{n:Next}(y:F.mode=.run)(r:F.kind≠.early)(h:Ar F=Xp o)(A:(XE F.eval o).run P w=.ok n w')(z:valOf n=Xp v):XA P main (G F cs) w=.go (G (F.finish v) cs) w' (seen P F.fn ((XE F.eval o).events P w #[]))/\(F.finish v).mode=.run/\(F.finish v).kind≠.early:=by obtain⟨p,i,g,k,u,x,q,C⟩:=wM h;obtain⟨fn,tmps,todo,defers,mode,kind,t⟩:=F;subst u y;(have m:=by simpa using r);refine⟨?_,rfl,r⟩;generalize D:XF.eval _=B at A⊢;(have s:XA P main (G {fn:=fn,tmps:=tmps,todo:=.inRegion p (i::g)::k,defers:=defers,mode:=.run,kind:=kind,roundOf:=t} cs) w=XA.apply P Xq {fn:=fn,tmps:=tmps,todo:=.inRegion p (i::g)::k,defers:=defers,mode:=.run,kind:=kind,roundOf:=t} cs Xv (XE B o) w:=by rw[<-D];cases t with|none=>simp only[G,XA,XA.exec,XA.oper,XF.oper?,x,q,UN,U9,if_true]|some l=>simp only[G,XA,XA.exec,XA.oper,XF.oper?,x,q,UN,U9,if_true];split;{rename_i e;exact absurd e (C _)};rfl);rw[s];cases n<;>simp[valOf]at z<;>subst z<;>simp[XA.apply,A,m,GStep.after,G]
theorem LB{es:Array Ye}(h:∀e∈es,v7 b e):∀e∈seen P f es,v7 b e:=λe a=>by rw[seen_def]at a;rcases seen_fold_sub _ _ _ _ e a with x|x;{simp at x};exact h e (by simpa using x)
theorem Nu{k:Nat}{H H1:List (Nat×Yf)}{q:List (Nat×Nat)}(x:F.mode=.run)(u:F.kind≠.early)(h:St P rd k F H=Xp (F1,H1,q))(z:∀p∈q,p.1=p.2):∃b o o',H[k]?=Xp (b,o)/\H1=H.set k (b,o')/\(rd=Xq->o'=o)/\(∀main cs w,w.heap[b]?=Xp o->∃es,XA P main (G F cs) w=.go (G F1 cs) (iw w b o') es/\∀e∈es,v7 b e)/\F1.mode=.run/\F1.kind≠.early:=by unfold St at h;split at h;{rename_i C b ob y hH;split at h;{rename_i n d D g;obtain⟨v,B,e⟩:=UJ.1 h;cases e;have a:=λr A=>z (r,b) (UK.2 ⟨r,A,rfl⟩);have c:∀main cs w,w.heap[b]?=Xp ob->XA P main (G F cs) w=.go (G (F.finish v) cs) (iw w b d) (seen P F.fn ((XE F.eval C).events P w #[]))/\(F.finish v).mode=.run/\(F.finish v).kind≠.early:=λmain cs w f=>Cd x u y (rI g a f).1 B;refine⟨b,ob,d,hH,rfl,λe=>by subst e;exact LP g,λmain cs w f=>⟨_,(c main cs w f).1,LB λe i=>?_⟩,(c Xq [] {(default:Xr)with heap:=(Array.replicate (b+1) ob)} (by simp)).2⟩;obtain⟨l,m,s⟩:=(rI g a f).2 #[];rw[m]at i;exact s e (by simpa using i)};cases h};cases h
theorem NF(s:F.mode=.run)(q:F.kind≠.early)(h:∀c,∃r,QO P c F=Xp r):∃o,∃e:Nat->XF,(∀c,QO P c F=Xp (e c,o))/\(∀main cs w,XA P main (G F cs) w=.go (G (e w.heap.size) cs) (w.alloc o) #[])/\∀c,(e c).mode=.run/\(e c).kind≠.early:=by unfold QO at h⊢;cases g:Ar F with|none=>obtain⟨r,b⟩:=h 0;rw[g]at b;cases b|some D=>simp only[g]at h⊢;cases l:Iu P (XE F.eval D)with|none=>obtain⟨r,b⟩:=h 0;rw[l]at b;cases b|some x=>obtain⟨ob,p⟩:=x;simp only[l]at h⊢;(have j:∀c,∃n v,ew P (p c)=Xp n/\valOf n=Xp v:=λc=>by obtain⟨r,b⟩:=h c;obtain⟨v,j,_⟩:=UJ.1 b;obtain⟨n,a,d⟩:=U7.1 j;exact⟨n,v,a,d⟩);(have m:∀main cs(w:Xr),XA P main (G F cs) w=.go (G (F.finish (((ew P (p w.heap.size)).bind valOf).getD XD)) cs) (w.alloc ob) #[]:=λmain cs w=>by obtain⟨n,v,a,d⟩:=j w.heap.size;obtain⟨B,C⟩:=KZ l a;rw[(Cd s q g B d).1,C,kJ,a];simp[d]);refine⟨ob,λc=>F.finish (((ew P (p c)).bind valOf).getD XD),λc=>?_,m,λc=>?_⟩;{obtain⟨n,v,a,d⟩:=j c;simp[a,d]};obtain⟨E,i,y,k,a,_⟩:=wM g;obtain⟨H,z,A,f,u,t,I⟩:=F;subst a;exact⟨s,q⟩
structure Carry(P:XN)(rd:Bool)(main:Bool)(cs:List XF)(J:(Nat->Prop)->Xz->Xr->Prop)(Kn:(Nat->Prop)->Xr->List (Nat×Yf)->Prop)(al:Prop):Prop where
 ctl:∀own v F F1,(∀w,XA P main (G F cs) w=.go (G F1 cs) w #[])->J own (G F1 cs) v->J own (G F cs) v
 mem:∀own v H k b o o' F F1,Kn own v H->H[k]?=Xp (b,o)->(rd=Xq->o'=o)->(∀w:Xr,w.heap[b]?=Xp o->∃es,XA P main (G F cs) w=.go (G F1 cs) (iw w b o') es/\∀e∈es,v7 b e)->(∀v',Kn own v' (H.set k (b,o'))->J own (G F1 cs) v')->J own (G F cs) v
 new:al->∀own v H o F(F1:Nat->XF),Kn own v H->(∀w:Xr,XA P main (G F cs) w=.go (G (F1 w.heap.size) cs) (w.alloc o) #[])->(∀own' c v',Kn own' v' ((c,o)::H)->J own' (G (F1 c) cs) v')->J own (G F cs) v
theorem Carry.run{P:XN}{J:(Nat->Prop)->Xz->Xr->Prop}{Kn:(Nat->Prop)->Xr->List (Nat×Yf)->Prop}{al:Prop}(C:Carry P rd main cs J Kn al)(O:List (Nat×Xu)):∀(n:Nat)(g:List Nat)(k:Nat)(_:k≠0->al)(own:Nat->Prop)(v:Xr)(F:XF)(H:List (Nat×Yf)),F.mode=.run->F.kind≠.early->Kn own v H->(∀bs:List Nat,bs.length=k->∃r,ir P rd O n g bs F H=Xp r/\(∀p∈r.2.2.1,p.1=p.2)/\(∀p∈r.2.2.2,p.1=p.2)/\∀d t,Kn d t r.2.1->J d (G r.1 cs) t)->J own (G F cs) v|0,g,k,z,own,v,F,H,K,I,m,E=>by obtain⟨r,h,_,_,y⟩:=E (List.replicate k 0) (by simp);cases h;exact y own v m|n+1,g,k,z,own,v,F,H,K,I,m,E=>by cases a:mA P F with|some f=>obtain⟨h,u,l⟩:=ki K I a;(have R:(hint O F f).1=f:=by obtain⟨r,e,_,B,_⟩:=E (List.replicate k 0) (by simp);simp only[ir,a]at e;obtain⟨s,_,rfl⟩:=UJ.1 e;exact wF a λp a=>B p (UW.2 (.inl a)));refine C.ctl own v F f (λw=>h main cs w) (Carry.run C O n g k z own v f H u l m λbs A=>?_);obtain⟨r,e,D,B,N⟩:=E bs A;simp only[ir,a,R]at e;obtain⟨s,M,rfl⟩:=UJ.1 e;exact⟨s,M,D,λp a=>B p (UW.2 (.inr a)),N⟩|none=>cases g with|nil=>obtain⟨r,e,_,_,y⟩:=E (List.replicate k 0) (by simp);simp only[ir,a,UP]at e;subst e;exact y own v m|cons j g=>cases j with|zero=>(cases k with|zero=>obtain⟨r,e,_⟩:=E [] rfl;simp[ir,a]at e|succ k=>(obtain⟨o,f,h,u,l⟩:=NF (P:=P) K I λc=>by obtain⟨r,e,_⟩:=E (c::List.replicate k 0) (by simp);simp only[ir,a]at e;cases S:QO P c F with|none=>rw[S]at e;cases e|some r=>exact⟨r,rfl⟩);refine C.new (z (by simp)) own v H o F f m (λw=>u main cs w) λd c t i=>Carry.run C O n g k (λ_=>z (by simp)) d t (f c) _ (l c).1 (l c).2 i λbs A=>?_;obtain⟨r,e,T⟩:=E (c::bs) (by simp[A]);simp only[ir,a,h c]at e;exact⟨r,e,T⟩)|succ j=>cases L:St P rd j F H with|none=>obtain⟨r,e,_⟩:=E (List.replicate k 0) (by simp);simp[ir,a,L]at e|some x=>obtain⟨f,W,q⟩:=x;obtain⟨b,o,V,h,rfl,u,l,y,Q⟩:=Nu K I L (by obtain⟨r,e,D,_⟩:=E (List.replicate k 0) (by simp);simp only[ir,a,L]at e;obtain⟨s,_,rfl⟩:=UJ.1 e;exactλp a=>D p (UW.2 (.inl a)));refine C.mem own v H j b o V F f m h u (λw U=>l main cs w U) λt i=>Carry.run C O n g k z own t f _ y Q i λbs A=>?_;obtain⟨r,e,D,B,N⟩:=E bs A;simp only[ir,a,L]at e;obtain⟨s,M,rfl⟩:=UJ.1 e;exact⟨s,M,λp a=>D p (UW.2 (.inr a)),B,N⟩
end Go.Pw
namespace Go.ab
variable{a a' b':Yc}{v w:Xr}{v' x x' y y' z:Xu}{i b k n:Nat}{e:RuntimeError}{o o':Yf}{P:XN}{α β γ δ ε ζ:Type}{h:Halt}{t:XI}{op:BinOp}{o1:XR}{lo lo' hi hi' mx':Option Xu}{f:XO}{gl:Nat->Bool}{ev ev':XR->Xu}{ops:Array Yk}{rest:List Nat}{t':Array Xu}
section
abbrev bB:=Nat->Option Nat
def bB.le(r r':bB):Prop:=∀b c,r b=Xp c->r' b=Xp c
theorem bB.le_refl(r:bB):r.le r:=λ_ _ h=>h
theorem bB.le_trans{r r' r'':bB}(h:r.le r')(a:r'.le r''):r.le r'':=λb c e=>a b c (h b c e)
structure dx where
 fns:XO->Bool
 seen:Nat->Prop
 EZ:Nat->Nat
 aL:Nat
 low:Nat->Nat:=λ_=>0
def wT:XI:=1000000007
structure Fits(P:XN)(c:dx):Prop where
 aL:c.aL=P.globals.size
 bad:P.info? wT=Xv
 low:∀g,g<c.aL->c.low g=0
def dw(c:dx)(r:bB)(a a':Yc):Prop:=r a.block=Xp a'.block/\a'.off=a.off/\a'.spot=a.spot/\c.low a.block<=a.off
def Hu(c:dx):Fn->Bool
 |.func f=>c.fns f
 |_=>WN
inductive ai(c:dx)(r:bB):Xu->Xu->Prop
 |bool(b:Bool):ai c r (.bool b) (.bool b)
 |int(k:XH)(n:Int):ai c r (.int k n) (.int k n)
 |string(s:ByteArray):ai c r (.string s) (.string s)
 |gf:ai c r (.pointer Xv) (.pointer Xv)
 |ptr{a a':Yc}:dw c r a a'->ai c r (.pointer (Xp a)) (.pointer (Xp a'))
 |gu(n m:Nat):ai c r (.slice Xv n m) (.slice Xv n m)
 |slice{a a':Yc}(n m:Nat):dw c r a a'->ai c r (.slice (Xp a) n m) (.slice (Xp a') n m)
 |cE(a a':Yc):ai c r (.slice (Xp a) 0 0) (.slice (Xp a') 0 0)
 |kO:ai c r (.map Xv) (.map Xv)
 |map{a a':Nat}:r a=Xp a'->ai c r (.map (Xp a)) (.map (Xp a'))
 |func{fn:Fn}{x x' y y':Array Xu}:Hu c fn=Xq->x.size=x'.size->(∀(i:Nat)(v v':Xu),x[i]?=Xp v->x'[i]?=Xp v'->ai c r v v')->
  y.size=y'.size->(∀(i:Nat)(v v':Xu),y[i]?=Xp v->y'[i]?=Xp v'->ai c r v v')->ai c r (.func fn x y) (.func fn x' y')
 |nilFunc:ai c r .nilFunc .nilFunc
 |nilIface:ai c r .nilIface .nilIface
 |iface(t:XI){v v':Xu}:ai c r v v'->ai c r (.iface t v) (.iface t v')
 |agg{x x':Array Xu}:x.size=x'.size->(∀(i:Nat)(v v':Xu),x[i]?=Xp v->x'[i]?=Xp v'->ai c r v v')->ai c r (.agg x) (.agg x')
 |tuple{x x':Array Xu}:x.size=x'.size->(∀(i:Nat)(v v':Xu),x[i]?=Xp v->x'[i]?=Xp v'->ai c r v v')->ai c r (.tuple x) (.tuple x')
structure aj(c:dx)(r:bB)(x x':Array Xu):Prop where
 size:x.size=x'.size
 el:∀(i:Nat)(v v':Xu),x[i]?=Xp v->x'[i]?=Xp v'->ai c r v v'
theorem dw.mono{c:dx}{r r':bB}(h:r.le r')(x:dw c r a a'):dw c r' a a':=⟨h _ _ x.1,x.2⟩
theorem ai.mono{c:dx}{r r':bB}(h:r.le r'){v:Xu}(x:ai c r v v'):ai c r' v v':=by induction x with|bool b=>exact .bool b|int k n=>exact .int k n|string s=>exact .string s|gf=>exact .gf|ptr a=>exact .ptr (a.mono h)|gu n m=>exact .gu n m|slice n m a=>exact .slice n m (a.mono h)|cE a e=>exact .cE a e|kO=>exact .kO|map a=>exact .map (h _ _ a)|func i j _ l _ f g=>exact .func i j f l g|nilFunc=>exact .nilFunc|nilIface=>exact .nilIface|iface t _ d=>exact .iface t d|agg s _ d=>exact .agg s d|tuple s _ d=>exact .tuple s d
theorem aj.mono{c:dx}{r r':bB}(h:r.le r'){x x':Array Xu}(k:aj c r x x'):aj c r' x x':=⟨k.size,λi v d a b=>(k.el i v d a b).mono h⟩
theorem ai.tr{c:dx}{r:bB}{x x':Array Xu}(h:aj c r x x'):ai c r (.agg x) (.agg x'):=.agg h.size h.el
theorem ai.kW{c:dx}{r:bB}{x x':Array Xu}(h:aj c r x x'):ai c r (.tuple x) (.tuple x'):=.tuple h.size h.el
section rows
variable{c:dx}{r:bB}
theorem aj.get{x x':Array Xu}(h:aj c r x x'){v:Xu}(b:x[i]?=Xp v):∃d,x'[i]?=Xp d/\ai c r v d:=by have e:=(UD.1 b).1;have a:=h.size▸e;exact⟨x'[i],UL a,h.el i v _ b (UL a)⟩
theorem aj.none{x x':Array Xu}(h:aj c r x x')(a:x[i]?=Option.none):x'[i]?=Option.none:=by rw[Array.getElem?_eq_none_iff]at a⊢;rw[<-h.size];exact a
theorem aj.getD{x x':Array Xu}(h:aj c r x x')(i:Nat){d d':Xu}(b:ai c r d d'):ai c r (x.getD i d) (x'.getD i d'):=by rw[UH,UH];cases a:x[i]? with|none=>rw[h.none a];exact b|some v=>obtain⟨f,e,k⟩:=h.get a;simp_all
theorem aj.empty:aj c r #[] #[]:=⟨rfl,λi v a h=>by simp at h⟩
theorem aj.push{x x':Array Xu}(h:aj c r x x'){v:Xu}(k:ai c r v v'):aj c r (x.push v) (x'.push v'):=by refine⟨by simp[h.size],λi u d a b=>?_⟩;rw[Vb]at a b;rw[<-h.size]at b;split at a;{simp_all};rw[if_neg ‹_›]at b;exact h.el i u d a b
theorem aj.append{x x' y y':Array Xu}(h:aj c r x x')(k:aj c r y y'):aj c r (x++y) (x'++y'):=by refine⟨by simp[h.size,k.size],λi u d a b=>?_⟩;rw[Array.getElem?_append]at a b;rw[<-h.size]at b;split at a;{rw[if_pos ‹_›]at b;exact h.el i u d a b};rw[if_neg ‹_›]at b;exact k.el _ u d a b
theorem aj.set{x x':Array Xu}(h:aj c r x x')(i:Nat){v:Xu}(k:ai c r v v'):aj c r (x.setIfInBounds i v) (x'.setIfInBounds i v'):=by refine⟨by simp[h.size],λj u d a b=>?_⟩;rw[VM]at a b;split at a;{simp_all};rw[if_neg ‹_›]at b;exact h.el j u d a b
theorem aj.extract{x x':Array Xu}(h:aj c r x x')(i j:Nat):aj c r (x.extract i j) (x'.extract i j):=by refine⟨by simp[h.size],λk u d a b=>?_⟩;rw[Array.getElem?_extract]at a b;rw[<-h.size]at b;split at a;{rw[if_pos ‹_›]at b;exact h.el _ u d a b};cases a
theorem aj.single{v:Xu}(k:ai c r v v'):aj c r #[v] #[v']:=by refine⟨rfl,λi u d a b=>?_⟩;grind
theorem aj.cells{v v':Xu}(k:ai c r v v'):aj c r v.cells v'.cells:=by cases k with|agg s e=>exact⟨s,e⟩|bool b=>exact .single (.bool b)|int k n=>exact .single (.int k n)|string s=>exact .single (.string s)|gf=>exact .single .gf|ptr a=>exact .single (.ptr a)|gu n m=>exact .single (.gu n m)|cE a g=>exact .single (.cE a g)|slice n m a=>exact .single (.slice n m a)|kO=>exact .single .kO|map a=>exact .single (.map a)|func a b d e f=>exact .single (.func a b d e f)|nilFunc=>exact .single .nilFunc|nilIface=>exact .single .nilIface|iface t a=>exact .single (.iface t a)|tuple a b=>exact .single (.tuple a b)
theorem aj.map{α:Type}(l:Array α)(f f':α->Xu)(h:∀x∈l,ai c r (f x) (f' x)):aj c r (l.map f) (l.map f'):=by refine⟨by simp,λi u d a b=>?_⟩;grind
theorem fJ:ai c r XD XD:=.tuple rfl λi v a h=>by simp at h
theorem aj.replicate(n:Nat){v:Xu}(k:ai c r v v'):aj c r (Array.replicate n v) (Array.replicate n v'):=by refine⟨by simp,λi u d a b=>?_⟩;grind
end rows
structure II(c:dx)(r:bB)(e e':Yj):Prop where
 key:ai c r e.key e'.key
 val:ai c r e.val e'.val
 born:e'.born=e.born
inductive mb(c:dx)(r:bB):Yf->Yf->Prop
 |cells{x x':Array Xu}(t:XI)(fr:Nat×Nat):aj c r x x'->mb c r (.cells x t fr) (.cells x' t fr)
 |map{x x':Array Yj}(k:Nat):x.size=x'.size->(∀(i:Nat)(e e':Yj),x[i]?=Xp e->x'[i]?=Xp e'->II c r e e')->mb c r (.map x k) (.map x' k)
 |iter(s:ByteArray)(p:Nat):mb c r (.stringIter s p) (.stringIter s p)
 |number{a a':Yc}(l:Bool):dw c r a a'->mb c r (.number a l) (.number a' l)
inductive qd(c:dx)(r:bB)(b:Nat):Option Yf->Option Yf->Prop
 |seen{x x':Array Xu}(t t':XI)(fr:Nat×Nat):c.seen b->x.size<=c.EZ b->x.size<=x'.size->(c.low b=0->t=t')/\(c.low b≠0->t=wT/\c.aL<=b)->(∀(i:Nat)(v v':Xu),c.low b<=i->x[i]?=Xp v->x'[i]?=Xp v'->ai c r v v')->qd c r b (Xp (.cells x t (0,x.size))) (Xp (.cells x' t' fr))
 |own{o o':Yf}:¬c.seen b->mb c r o o'->qd c r b (Xp o) (Xp o')
theorem II.mono{c:dx}{r r':bB}(h:r.le r'){e e':Yj}(k:II c r e e'):II c r' e e':=⟨k.key.mono h,k.val.mono h,k.born⟩
theorem mb.mono{c:dx}{r r':bB}(h:r.le r')(k:mb c r o o'):mb c r' o o':=by cases k with|cells t g k=>exact .cells t g (k.mono h)|map k s e=>exact .map k s λi d f a b=>(e i d f a b).mono h|iter s p=>exact .iter s p|number l a=>exact .number l (a.mono h)
theorem qd.mono{c:dx}{r r':bB}(h:r.le r'){o o':Option Yf}(k:qd c r b o o'):qd c r' b o o':=by cases k with|seen t g f s l z y e=>exact .seen t g f s l z y λi v j a b d=>(e i v j a b d).mono h|own n k=>exact .own n (k.mono h)
structure cC(c:dx)(r:bB)(w v:Xr):Prop where
 qD:∀b k:Nat,r b=Xp k->b<w.heap.size
 ze:∀b k:Nat,r b=Xp k->k<v.heap.size
 inj:∀b b' k:Nat,r b=Xp k->r b'=Xp k->b=b'\/(c.seen b/\c.seen b')
 qh:∀b:Nat,¬c.seen b->c.low b=0
 hid:∀b:Nat,b<c.aL->r b=Xv->w.heap[b]?=Xp (.cells #[] 0)
 blk:∀b k:Nat,r b=Xp k->qd c r b w.heap[b]? v.heap[k]?
 tape:v.tape=w.tape
 drawn:v.drawn=w.drawn
 old:∀b:Nat,c.seen b->b<w.heap.size
 aL:∀b k:Nat,r b=Xp k->b<c.aL->b=k
 iy:c.aL<=w.heap.size/\c.aL<=v.heap.size
structure Ext(c:dx)(r:bB)(w v:Xr)(r':bB)(w' v':Xr):Prop where
 rel:cC c r' w' v'
 le:r.le r'
 grow:w.heap.size<=w'.heap.size
 size:v'.heap.size+w.heap.size=v.heap.size+w'.heap.size
 yj:∀b:Nat,b<w.heap.size->r' b=r b
 new:∀b:Nat,w.heap.size<=b->b<w'.heap.size->r' b=Xp (v.heap.size+(b-w.heap.size))
 keep:∀k:Nat,k<v.heap.size->(∀b:Nat,r b=Xp k->c.seen b)->v'.heap[k]?=v.heap[k]?
 os:v'.os=v.os
 out:v'.output=v.output
 tape:v'.tape=v.tape
theorem Ext.refl{c:dx}{r:bB}(h:cC c r w v):Ext c r w v r w v:=⟨h,bB.le_refl r,UB _,by omega,λ_ _=>rfl,λb _ _=>by omega,λ_ _ _=>rfl,rfl,rfl,rfl⟩
theorem Ext.trans{c:dx}{r r1 r2:bB}{w1 v1 w2 v2:Xr}(h:Ext c r w v r1 w1 v1)(k:Ext c r1 w1 v1 r2 w2 v2):Ext c r w v r2 w2 v2:=by have n:=h.size;have o:=k.size;have g:=h.grow;have m:=k.grow;refine⟨k.rel,bB.le_trans h.le k.le,UO g m,by omega,λb a=>(k.yj b (UC a g)).trans (h.yj b a),λb a f=>?_,λj l i=>?_,k.os.trans h.os,k.out.trans h.out,k.tape.trans h.tape⟩;{rcases Vi b w1.heap.size with e|d;{exact k.le _ _ (h.new b a e)};rw[k.new b d f];grind};rw[k.keep j Ω (λb a=>?_),h.keep j l i];refine i b ?_;rcases Vi b w.heap.size with e|d;{rw[<-h.yj b e];exact a};have:=h.rel.qD b j a;rw[h.new b d this]at a;grind
def rq(c:dx)(r:bB)(e:Ye):Prop:=
 (∃b:Nat,(match e.loc with|.cell a=>r b=Xp a.block/\(c.seen b->a.off<c.EZ b/\a.spot=Xv)|.obj k=>r b=Xp k/\¬c.seen b|_=>False)/\(e.write=Xq->¬c.seen b)/\e.sync=WN)\/e.loc=.mark .noRoom\/∃f,e.loc=.mark (.extern f)
theorem rq.mono{c:dx}{r r':bB}(h:r.le r'){e:Ye}(x:rq c r e):rq c r' e:=by rcases x with⟨b,a,d⟩|x;{refine .inl ⟨b,?_,d⟩;revert a;cases e.loc<;>simp only[imp_self]<;>exactλx=>⟨h _ _ x.1,x.2⟩};exact .inr x
end
section
variable{c:dx}{r:bB}
def BA:Halt->Bool
 |.unsupported (.initOrder _)=>WN
 |.panic _|.stuck _|.unsupported _=>Xq
 |_=>WN
def Out(P:XN)(c:dx)(r:bB)(w v:Xr)(s:X0 β)(Q:bB->α->β->Prop):Ya α->Prop
 |.ok a w'=>∃b v' r',s.run P v=.ok b v'/\Ext c r w v r' w' v'/\Q r' a b/\∀e∈s.events P v #[],rq c r' e
 |.halt h _=>BA h=Xq
def ab(P:XN)(c:dx)(r:bB)(x:X0 α)(y:X0 β)(Q:bB->α->β->Prop):Prop:=∀w v,cC c r w v->Out P c r w v y Q (x.run P w)
theorem ab.mono{x:X0 α}{y:X0 β}{Q Q':bB->α->β->Prop}(h:ab P c r x y Q)(k:∀d a b,r.le d->Q d a b->Q' d a b):ab P c r x y Q':=by intro w v l;have:=h w v l;cases f:x.run P w with|halt _ _=>rw[f]at this;exact this|ok a n=>rw[f]at this;obtain⟨b,m,d,g,e,i,j⟩:=this;exact⟨b,m,d,g,e,k _ _ _ e.le i,j⟩
theorem ab.bind{x:X0 α}{y:X0 β}{f:α->X0 γ}{g:β->X0 δ}{Q:bB->α->β->Prop}{Q':bB->γ->δ->Prop}(h:ab P c r x y Q)(k:∀l a b,r.le l->Q l a b->ab P c l (f a) (g b) Q'):ab P c r (x>>=f) (y>>=g) Q':=by intro w v t;have i:=h w v t;rw[X0.run_bind];cases p:x.run P w with|halt _ _=>rw[p]at i;exact i|ok a m=>rw[p]at i;obtain⟨b,F,D,s,n,B,A⟩:=i;have j:=k D a b n.le B m F n.rel;show Out P c r w v (y>>=g) Q' ((f a).run P m);cases o:(f a).run P m with|halt _ _=>rw[o]at j;exact j|ok z J=>rw[o]at j;obtain⟨u,G,E,H,q,C,I⟩:=j;refine⟨u,G,E,?_,n.trans q,C,λe d=>?_⟩;{simp_all};rw[X0.events_bind,s,Ya.evThen_ok,X0.events_acc]at d;rcases Va.1 d with d|d;{exact(A e d).mono q.le};simp_all
theorem ab.pure{a:α}{b:β}{Q:bB->α->β->Prop}(h:Q r a b):ab P c r (Pure.pure a) (Pure.pure b) Q:=λ_ v f=>⟨b,v,r,rfl,.refl f,h,λe d=>by simp at d⟩
theorem ab.halt{y:X0 β}{Q:bB->α->β->Prop}(a:BA h=Xq:=by rfl):ab P c r (X0.halt h) y Q:=λ_ _ _=>a
theorem ab.stuck{s:String}{y:X0 β}{Q:bB->α->β->Prop}:ab P c r (Go.stuck s:X0 α) y Q:=λ_ _ _=>rfl
theorem ab.unsupported{u:Unsupported}{y:X0 β}{Q:bB->α->β->Prop}(a:BA (.unsupported u)=Xq:=by rfl):ab P c r (Go.unsupported u:X0 α) y Q:=λ_ _ _=>a
theorem ab.never{x:X0 α}{y:X0 β}{Q:bB->α->β->Prop}(h:∀w,∃k w',x.run P w=.halt k w'/\BA k=Xq):ab P c r x y Q:=by intro w v _;obtain⟨k,w',e,a⟩:=h w;rw[e];exact a
theorem ab.ite{b:Prop}[Decidable b]{x x':X0 α}{y y':X0 β}{Q:bB->α->β->Prop}(h:b->ab P c r x y Q)(a:¬b->ab P c r x' y' Q):ab P c r (if b then x else x') (if b then y else y') Q:=by by_cases e:b;{rw[if_pos e,if_pos e];exact h e};rw[if_neg e,if_neg e];exact a e
def bO(P:XN)(q:α->Prop):X0 α->Prop
 |.pure a=>q a
 |.choose _ k=>∀n,bO P q (k n)
 |.program k=>bO P q (k P)
 |.mark m k=>m=.noRoom/\bO P q k
 |.halt h=>BA h=Xq
 |_=>False
abbrev lD(P:XN):X0 α->Prop:=bO P λ_=>True
theorem bO.bind{q:α->Prop}{q':β->Prop}{x:X0 α}{f:α->X0 β}(h:bO P q x)(k:∀a,q a->bO P q' (f a)):bO P q' (x>>=f):=by induction x with|pure a=>exact k a h|choose _ g b=>exactλn=>b n (h n)|program g b=>exact b P h|mark m g b=>exact⟨h.1,b h.2⟩|halt z=>exact h|load _ _ _ _=>exact h.elim|store _ _ _ _ _=>exact h.elim|new _ _ _=>exact h.elim|shape _ _ _=>exact h.elim|freeze _ _ _ _=>exact h.elim|frozen _ _ _=>exact h.elim|getObj _ _ _=>exact h.elim|setObj _ _ _ _=>exact h.elim|sys _ _ _=>exact h.elim
theorem lD.bind{q':β->Prop}{x:X0 α}{f:α->X0 β}(h:lD P x)(k:∀a,bO P q' (f a)):bO P q' (x>>=f):=bO.bind h λa _=>k a
def QS(P:XN)(q:α->Prop)(x:X0 α)(w v:Xr):Prop:=
 (∃a d,q a/\x.run P w=.ok a {w with drawn:=d}/\x.run P v=.ok a {v with drawn:=d}/\∀e∈x.events P v #[],e.loc=.mark .noRoom)\/∃h w',x.run P w=.halt h w'/\BA h=Xq
theorem bO.run{q₀:α->Prop}{x:X0 α}(h:bO P q₀ x):∀(w v:Xr),v.tape=w.tape->v.drawn=w.drawn->QS P q₀ x w v:=by induction x with|pure a=>exactλw v _ f=>.inl ⟨a,w.drawn,h,rfl,by rw[<-f];rfl,λe l=>by simp at l⟩|choose q g j=>intro w v i f;have t:∀u:Xr,(X0.choose q g).run P u=if q.forced then(g 0).run P u else(g (q.cut (u.tape u.drawn q))).run P {u with drawn:=u.drawn+1}:=λ_=>rfl;(have y:∀u:Xr,(X0.choose q g).events P u #[]=if q.forced then(g 0).events P u #[]else(g (q.cut (u.tape u.drawn q))).events P {u with drawn:=u.drawn+1} #[]:=λu=>by simp only[X0.events,X0.runT];grind);unfold QS;simp only[t,y];by_cases s:q.forced=Xq;{simp only[s];exact j 0 (h 0) w v i f};obtain⟨B,F,E,C,D⟩:=v;rcases j (q.cut (w.tape w.drawn q)) (h _) {w with drawn:=w.drawn+1} ⟨B,w.tape,w.drawn+1,C,D⟩ rfl rfl with⟨a,d,n,o,p,A⟩|x;{simp_all};simp_all|program g j=>exactλw v i f=>j P h w v i f|mark m g j=>intro w v i f;rcases j h.2 w v i f with⟨a,d,n,o,p,A⟩|x;{refine .inl ⟨a,d,n,o,p,λe l=>?_⟩;have k:e∈g.events P v (#[].push ⟨.mark m,WN,Xq⟩):=l;rw[X0.events_acc]at k;rcases Va.1 k with x|x;{simp at x;rw[x,h.1]};simp_all};exact .inr x|halt z=>exactλw _ _ _=>.inr ⟨z,w,rfl,h⟩|load _ _ _ _=>exact h.elim|store _ _ _ _ _=>exact h.elim|new _ _ _=>exact h.elim|shape _ _ _=>exact h.elim|freeze _ _ _ _=>exact h.elim|frozen _ _ _=>exact h.elim|getObj _ _ _=>exact h.elim|setObj _ _ _ _=>exact h.elim|sys _ _ _=>exact h.elim
theorem cC.AE(h:cC c r w v)(d:Nat):cC c r {w with drawn:=d} {v with drawn:=d}:=⟨h.qD,h.ze,h.inj,h.qh,h.hid,h.blk,h.tape,rfl,h.old,h.aL,h.iy⟩
theorem ab.eV{q:α->Prop}{x:X0 α}(h:bO P q x):ab P c r x x λ_ a b=>b=a/\q a:=by intro w v f;rcases h.run w v f.tape f.drawn with⟨a,d,g,i,j,l⟩|⟨k,s,e,p⟩;{rw[i];refine⟨a,_,r,j,?_,⟨rfl,g⟩,λe o=>.inr (.inl (l e o))⟩;exact⟨f.AE d,bB.le_refl r,UB _,rfl,λ_ _=>rfl,λb m n=>absurd n (Nat.not_lt.2 m),λ_ _ _=>rfl,rfl,rfl,rfl⟩};rw[e];exact p
theorem ab.cL{x:X0 α}(h:lD P x):ab P c r x x λ_ a b=>b=a:=(ab.eV h).mono λ_ _ _ _ h=>h.1
theorem vA(a:α):lD P (Pure.pure a):=trivial
theorem lE:lD P program:=trivial
theorem iH(q:Yi):lD P (choose q):=λ_=>trivial
theorem dy(t:XI):lD P (typeInfo t):=by refine lD.bind lE λp=>?_;split<;>first|trivial|exact rfl
theorem aE(t:XI):lD P (underlying t):=by refine lD.bind lE λp=>?_;split<;>first|trivial|exact rfl
theorem bA(t:XI):lD P (sizeOf t):=(dy t).bind λ_=>trivial
theorem oD(t:XI):lD P (isAgg t):=(aE t).bind λd=>by split<;>first|trivial|exact rfl
theorem pJ(n:Nat):lD P (askRoom n):=by unfold askRoom;split;{exact⟨rfl,trivial⟩};trivial
end
section
variable{c:dx}{r:bB}
theorem cC.at(h:cC c r w v)(b:dw c r a a'):qd c r a.block w.heap[a.block]? v.heap[a'.block]?:=h.blk _ _ b.1
theorem cC.cell(h:cC c r w v)(g:dw c r a a')(b:w.cell? a=Xp x):∃y,v.cell? a'=Xp y/\ai c r x y:=by have d:=h.at g;obtain⟨_,m,o,i⟩:=g;unfold Xr.cell? at b⊢;generalize q:w.heap[a.block]?=C at d b;generalize p:v.heap[a'.block]?=B at d;cases d with|@seen z D t A j s l u _ e=>grind|own n k=>cases k with|cells t j k=>simp only[o,m]at b⊢;split at b;{cases b};rename_i f;rw[if_neg f];exact k.get b|map _ _ _=>cases b|iter _ _=>cases b|number _ _=>cases b
theorem cC.Uu(h:cC c r w v)(g:dw c r a a')(_:w.cell? a=Xv)(d:Bool):∃k,w.farLoad P a d=.error k/\BA k=Xq:=by have f:=h.at g;unfold Xr.farLoad;generalize b:w.heap[a.block]?=p at f;generalize i:v.heap[a'.block]?=o at f;cases f with|seen t m j s l _ _ e=>exact⟨_,rfl,by simp only[Xr.noCell,b];rfl⟩|own n k=>cases k<;>exact⟨_,rfl,by simp only[Xr.noCell,b];rfl⟩
theorem cC.within(h:cC c r w v)(f:dw c r a a')(b:w.cell? a=Xp x):c.seen a.block->a'.off<c.EZ a.block/\a'.spot=Xv:=by intro u;have d:=h.at f;obtain⟨_,q,i,-⟩:=f;unfold Xr.cell? at b;generalize m:w.heap[a.block]?=A at d b;generalize j:v.heap[a'.block]?=z at d;cases d with|seen t y o s l _ _ e=>simp only at b;split at b;{cases b};have p:=(UD.1 b).1;exact⟨by omega,by simp_all⟩|own n k=>simp_all
theorem ab.load(d:dw c r a a'):ab P c r (load a) (load a') (ai c):=by intro w v f;unfold Go.load;cases b:w.cell? a with|none=>obtain⟨k,e,j⟩:=f.Uu (P:=P) d b (Mode.plain==Mode.atomic);(have:(X0.load .plain a X0.pure).run P w=.halt k w:=by simp only[X0.run,b,e]);rw[this];exact j|some x=>obtain⟨y,i,k⟩:=f.cell d b;(have:(X0.load .plain a X0.pure).run P w=.ok x w:=by simp only[X0.run,b]);rw[this];refine⟨y,v,r,by simp only[X0.run,i],.refl f,k,λe g=>?_⟩;(have h:(X0.load .plain a' X0.pure).events P v #[]=#[⟨.cell a',WN,WN⟩]:=by simp only[X0.events,X0.runT,i];rfl);rw[h]at g;simp at g;subst g;exact .inl ⟨a.block,⟨d.1,f.within d b⟩,by simp,rfl⟩
theorem cC.wP(h:cC c r w v)(j:dw c r a a')(b:w.cell? a=Xp x)(g:w.frozen? a=WN):∃(z i:Array Xu)(t:XI)(d:Nat×Nat),¬c.seen a.block/\w.heap[a.block]?=Xp (.cells z t d)/\v.heap[a'.block]?=Xp (.cells i t d)/\aj c r z i/\a.spot.isSome=WN:=by have f:=h.at j;unfold Xr.cell? at b;unfold Xr.frozen? at g;generalize o:w.heap[a.block]?=u at f b g;generalize m:v.heap[a'.block]?=q at f;cases f with|seen t p d s l _ _ e=>simp_all|own n k=>cases k with|cells t d k=>grind|map _ _ _=>cases b|iter _ _=>cases b|number _ _=>cases b
theorem heap_setCell(w:Xr)(a:Yc)(x:Xu):(w.setCell a x).heap.size=w.heap.size:=by simp[Xr.setCell]
theorem lN(w:Xr)(a:Yc)(x:Xu)(h:b≠a.block):(w.setCell a x).heap[b]?=w.heap[b]?:=by simp[Xr.setCell,Vs,Ne.symm h]
theorem lR(w:Xr)(x:Xu){z:Array Xu}{fr:Nat×Nat}(h:w.heap[a.block]?=Xp (.cells z t fr))(b:a.spot.isSome=WN):(w.setCell a x).heap[a.block]?=Xp (.cells (z.setIfInBounds a.off x) t fr):=by simp[Xr.setCell,Vs,h,b]
theorem Ext.Qc{w' v':Xr}(h:cC c r w v)(p:r b=Xp k)(q:¬c.seen b)(D:w'.heap[b]?=Xp o)(C:v'.heap[k]?=Xp o')(A:mb c r o o')(f:w'.heap.size=w.heap.size)(i:v'.heap.size=v.heap.size)(m:∀j,j≠b->w'.heap[j]?=w.heap[j]?)(s:∀j,j≠k->v'.heap[j]?=v.heap[j]?)(n:v'.tape=v.tape)(t:w'.tape=w.tape)(u:v'.drawn=w'.drawn)(y:v'.os=v.os)(z:v'.output=v.output):Ext c r w v r w' v':=by refine⟨⟨λj l a=>f▸h.qD j l a,λj l a=>i▸h.ze j l a,h.inj,h.qh,λj a B=>by rw[m j (λe=>by simp_all)];exact h.hid j a B,λj l a=>?_,by rw[n,t,h.tape],u,λj a=>by rw[f];exact h.old j a,h.aL,by rw[f,i];exact h.iy⟩,bB.le_refl r,by omega,by omega,λ_ _=>rfl,λj _ _=>by omega,λl F E=>?_,y,z,n⟩;{by_cases d:j=b;{subst d;rw[p]at a;cases a;rw[D,C];exact .own q A};have g:l≠k:=λe=>d ((h.inj _ _ _ (e▸a) p).resolve_right λx=>q x.2);rw[m j d,s l g];exact h.blk j l a};grind
theorem ai.one(h:ai c r x y):y.oneCell'=x.oneCell':=by cases h<;>rfl
theorem ab.store(b:dw c r a a')(q:ai c r x y):ab P c r (store a x) (store a' y) λ_ _ _=>True:=by intro w v f;unfold Go.store;by_cases B:x.oneCell'=Xq;{(have C:y.oneCell'=Xq:=by rw[q.one,B]);(have e:∀(u:Xr)(p:Yc)(z:Xu),z.oneCell'=Xq->(X0.store .plain p z (.pure ())).run P u=match u.cell? p with|some _=>if u.frozen? p then .halt (.unsupported (.unsafePointer "a write to bytes that a string shares")) u else .ok () (u.setCell p z)|none=>match u.farStore P p z WN with|.ok (U,_)=>.ok () U|.error h=>.halt h u:=by intro u p z H;cases z<;>first|(simp[Xu.oneCell']at H;done)|(rfl));rw[e w a x B];cases L:w.cell? a with|none=>have D:=f.at b;(have:∃k,w.farStore P a x WN=.error k/\BA k=Xq:=by unfold Xr.farStore;generalize o:w.heap[a.block]?=Y at D;generalize S:v.heap[a'.block]?=X at D;cases D with|seen t W K s l _ _ e=>exact⟨_,rfl,by simp only[Xr.noCell,o];rfl⟩|own n k=>cases k<;>exact⟨_,rfl,by simp only[Xr.noCell,o];rfl⟩);obtain⟨k,N,Q⟩:=this;simp only[N];exact Q|some Z=>simp only;cases A:w.frozen? a with|true=>rfl|false=>obtain⟨z,z',t,K,d,I,J,H,i⟩:=f.wP b L A;obtain⟨y0,T,_⟩:=f.cell b L;(have m:a'.spot.isSome=WN:=by rw[b.2.2.1];exact i);(have O:v.frozen? a'=WN:=by unfold Xr.frozen? at A⊢;rw[I]at A;rw[J];simp only[b.2.1];exact A);have g:=H.set a.off q;refine⟨(),v.setCell a' y,r,?_,?_,trivial,λV E=>?_⟩;{simp_all};{refine Ext.Qc f b.1 d (lR w x I i) (lR v y J m) ?_ (heap_setCell _ _ _) (heap_setCell _ _ _) (λj G=>lN w a x G) (λj G=>lN v a' y G) rfl rfl f.drawn rfl rfl;rw[b.2.1];exact .cells t K g};(have F:(X0.store .plain a' y (.pure ())).events P v #[]=#[⟨.cell a',Xq,WN⟩]:=by have:=events_store P v #[] a' y .plain C;unfold Go.store at this;simp_all);rw[F]at E;simp at E;subst E;exact .inl ⟨a.block,⟨b.1,λR=>absurd R d⟩,λ_=>d,rfl⟩};refine ab.never (P:=P) (c:=c) (r:=r) (λu=>?_) w v f;cases x<;>first|(simp[Xu.oneCell']at B;done)|exact⟨_,_,rfl,rfl⟩
def bB.add(r:bB)(b k:Nat):bB:=λj=>if j=b then Xp k else r j
theorem Ext.alloc(h:cC c r w v)(n:mb c r o o'):Ext c r w v (r.add w.heap.size v.heap.size) {w with heap:=w.heap.push o} {v with heap:=v.heap.push o'}:=by have p:=λx=>UX _ (h.old _ x);(have f:r.le (r.add w.heap.size v.heap.size):=by intro b k a;have:=h.qD b k a;unfold bB.add;grind);refine⟨⟨λb k a=>?_,λb k a=>?_,λb q k a d=>?_,h.qh,λb i a=>?_,λb k a=>?_,h.tape,h.drawn,λb a=>by have:=h.old b a;simp;omega,λb k a i=>?_,by have:=h.iy;simp;omega⟩,f,by simp,by simp;omega,λb a=>by unfold bB.add;grind,λb a d=>?_,λk s _=>?_,rfl,rfl,rfl⟩;{unfold bB.add at a;simp;split at a;{omega};have:=h.qD b k a;omega};{unfold bB.add at a;simp;split at a;{simp_all};have:=h.ze b k a;omega};{unfold bB.add at a d;split at a<;>split at d;{omega};{cases a;have:=h.ze _ _ d;omega};{cases d;have:=h.ze _ _ a;omega};exact h.inj _ _ _ a d};{have m:=UC i h.iy.1;unfold bB.add at a;rw[if_neg Ω]at a;rw[Vb,if_neg Ω];exact h.hid b i a};{unfold bB.add at a;split at a;{rename_i e;subst e;cases a;simp only[Array.getElem?_push_size];exact .own p (n.mono f)};have j:=h.qD b k a;have l:=h.ze b k a;rw[XC j,XC l,<-UL j,<-UL l];exact(h.blk b k a).mono f};{unfold bB.add at a;have:=h.iy;split at a;{omega};exact h.aL b k a i};{unfold bB.add;grind};grind
theorem bB.Hj(r:bB)(b k:Nat):r.add b k b=Xp k:=by unfold bB.add;simp
theorem ab.newObj(f:mb c r o o'):ab P c r (newObj o) (newObj o') λg b d=>g b=Xp d/\c.low b=0:=by intro w v a;refine⟨v.heap.size,_,_,rfl,Ext.alloc a f,⟨bB.Hj _ _ _,a.qh _ λx=>UX _ (a.old _ x)⟩,λe h=>?_⟩;simp_all
theorem ab.newRow{x x':Array Xu}(h:aj c r x x'):ab P c r (newRow t x) (newRow t x') (dw c):=by refine ab.bind (ab.newObj (.cells t (0,0) h)) λe b d _ a=>ab.pure ⟨a.1,rfl,rfl,VG a.2⟩
theorem ab.newVar(h:ai c r x x'):ab P c r (newVar t x) (newVar t x') (dw c):=ab.newRow (aj.cells h)
theorem dw.add{a a':Yc}(h:dw c r a a')(n:Nat):dw c r (a.add n) (a'.add n):=by unfold Yc.add;split;{exact h};exact⟨h.1,by simp[h.2.1],rfl,UO h.2.2.2 (Vj _ _)⟩
theorem ab.loadCellsFrom(n:Nat):∀{r:bB}{a a':Yc}(i:Nat){acc acc':Array Xu},dw c r a a'->aj c r acc acc'->ab P c r (loadCellsFrom a i n acc) (loadCellsFrom a' i n acc') (aj c):=by induction n with|zero=>intro r a a' i acc acc' e b;exact ab.pure b|succ n g=>intro r a a' i acc acc' e b;exact ab.bind (ab.load (e.add i)) λh x j d f=>g (i+1) (e.mono d) ((b.mono d).push f)
theorem ab.loadCells(b:dw c r a a')(n:Nat):ab P c r (loadCells a n) (loadCells a' n) (aj c):=ab.loadCellsFrom n 0 b .empty
theorem ab.FM(i:Fits P c){g:Nat}(b:g<c.aL)(o:Nat):ab P c r (Go.load ⟨g,o,Xv⟩) (Go.load ⟨g,o,Xv⟩) (ai c):=by intro w v f;cases d:r g with|some k=>obtain rfl:=f.aL g k d b;exact ab.load ⟨d,rfl,rfl,UO (VG (i.low g b)) (U2 _)⟩ w v f|none=>have h:=f.hid g b d;(have e:(Go.load ⟨g,o,Xv⟩).run P w=.halt (.stuck "load: no such cell") w:=by simp[X0.run,Xr.cell?,Xr.farLoad,Xr.noCell,h]);rw[e];exact rfl
theorem ab.sy(f:Fits P c){g:Nat}(h:g<c.aL)(n:Nat):∀{r:bB}(i:Nat){acc acc':Array Xu},aj c r acc acc'->ab P c r (Go.loadCellsFrom ⟨g,0,Xv⟩ i n acc) (Go.loadCellsFrom ⟨g,0,Xv⟩ i n acc') (aj c):=by induction n with|zero=>intro r i acc acc' a;exact ab.pure a|succ n k=>intro r i acc acc' a;(have e:(⟨g,0,Xv⟩:Yc).add i=⟨g,0+i,Xv⟩:=by unfold Yc.add;simp_all);unfold Go.loadCellsFrom;rw[e];exact ab.bind (ab.FM f h _) λl x m b j=>k (i+1) ((a.mono b).push j)
theorem ab.E7(a:Fits P c){g:Nat}(d:g<c.aL)(t:XI):ab P c r (Go.loadVar t ⟨g,0,Xv⟩) (Go.loadVar t ⟨g,0,Xv⟩) (ai c):=by refine ab.bind (ab.cL (oD t)) λp b f k h=>?_;subst h;cases f with|false=>exact ab.FM a d 0|true=>refine ab.bind (ab.cL (bA t)) λq n o l i=>?_;subst i;exact ab.bind (ab.sy a d _ 0 .empty) λs x u m j=>ab.pure (.tr j)
theorem ab.storeCells:∀{r:bB}{a a':Yc}{l l':List Xu}(i:Nat),dw c r a a'->aj c r l.toArray l'.toArray->ab P c r (storeCells a l i) (storeCells a' l' i) λ_ _ _=>True|r,a,a',[],[],i,b,h=>ab.pure trivial|r,a,a',[],_::_,i,b,h=>by have:=h.size;grind|r,a,a',_::_,[],i,b,h=>by have:=h.size;grind|r,a,a',x::l,g::l',i,b,h=>by refine ab.bind (ab.store (b.add i) (h.el 0 x g Θ Θ)) λm _ _ d _=>?_;refine ab.storeCells (i+1) (b.mono d) ((⟨?_,λj u f k e=>?_⟩:aj c r l.toArray l'.toArray).mono d);{have:=h.size;simp_all};exact h.el (j+1) u f (by simp_all) (by simp_all)
theorem ab.loadVar(t:XI)(d:dw c r a a'):ab P c r (loadVar t a) (loadVar t a') (ai c):=by refine ab.bind (ab.cL (oD t)) λm g e b h=>?_;subst h;cases e with|false=>exact ab.load (d.mono b)|true=>refine ab.bind (ab.cL (bA t)) λo n l f i=>?_;subst i;exact ab.bind (ab.loadCells ((d.mono b).mono f) _) λp x q k j=>ab.pure (.tr j)
theorem ab.storeVar(t:XI)(j:dw c r a a')(h:ai c r x x'):ab P c r (storeVar t a x) (storeVar t a' x') λ_ _ _=>True:=by refine ab.bind (ab.cL (bA t)) λg n d f k=>?_;subst k;have l:=(aj.cells h).size;have b:ab P c g (Go.storeCells a x.cells.toList) (Go.storeCells a' x'.cells.toList) λ_ _ _=>True:=ab.storeCells 0 (j.mono f) (by simpa using(aj.cells h).mono f);rw[<-l];by_cases e:x.cells.size≠d;{rw[if_pos e,if_pos e];exactλ_ _ _=>rfl};rw[if_neg e,if_neg e];exact b
theorem ab.getObj{b':Nat}(D:r b=Xp b'){k:Yf->X0 α}{k':Yf->X0 β}{Q:bB->α->β->Prop}(G:∀o o',¬c.seen b->mb c r o o'->(∀x t f,o≠.cells x t f)->ab P c r (k o) (k' o') Q):ab P c r (getObj b>>=k) (getObj b'>>=k') Q:=by intro w v E;have F:=E.blk b b' D;rw[X0.run_bind];(have C:∀(u:Xr)(j:Nat),(Go.getObj j).run P u=match u.heap[j]? with|some (.cells ..)=>.halt (.stuck "getObj: a row of cells") u|some o=>.ok o u|none=>.halt (.stuck "getObj: no such block") u:=by intro u j;unfold Go.getObj;simp only[X0.run];rfl);rw[C];generalize O:w.heap[b]?=U at F;generalize g:v.heap[b']?=T at F;cases F with|seen _ _ _ _ _ _ _ _=>exact rfl|own n N=>rename_i o o';cases N with|cells t S _=>exact rfl|map R L M=>have:=G _ _ n (.map R L M) (λ_ _ _ h=>by cases h) w v E;revert this;show Out P c r w v _ Q ((k _).run P w)->Out P c r w v _ Q ((k _).run P w);(cases(k _).run P w with|halt _ _=>exactλh=>h|ok a J=>rintro⟨q,B,A,H,i,z,I⟩;refine⟨q,B,A,by simp_all,i,z,λe d=>?_⟩;rw[X0.events_bind,C,g]at d;(have y:(Go.getObj b').events P v #[]=#[⟨.obj b',WN,WN⟩]:=by simp[Go.getObj,X0.events,X0.runT,g,Yf.isChan,-X0.runT_eq]);simp only[Ya.evThen_ok]at d;rw[X0.events_acc,y]at d;rcases Va.1 d with d|d;{simp at d;subst d;exact .inl ⟨b,⟨i.le _ _ D,n⟩,by simp,rfl⟩};simp_all)|iter s p=>have:=G _ _ n (.iter s p) (λ_ _ _ h=>by cases h) w v E;revert this;show Out P c r w v _ Q ((k _).run P w)->Out P c r w v _ Q ((k _).run P w);(cases(k _).run P w with|halt _ _=>exactλh=>h|ok a J=>rintro⟨q,B,A,H,i,z,I⟩;refine⟨q,B,A,by simp_all,i,z,λe d=>?_⟩;rw[X0.events_bind,C,g]at d;(have y:(Go.getObj b').events P v #[]=#[⟨.obj b',WN,WN⟩]:=by simp[Go.getObj,X0.events,X0.runT,g,Yf.isChan,-X0.runT_eq]);simp only[Ya.evThen_ok]at d;rw[X0.events_acc,y]at d;rcases Va.1 d with d|d;{simp at d;subst d;exact .inl ⟨b,⟨i.le _ _ D,n⟩,by simp,rfl⟩};simp_all)|number l K=>have:=G _ _ n (.number l K) (λ_ _ _ h=>by cases h) w v E;revert this;show Out P c r w v _ Q ((k _).run P w)->Out P c r w v _ Q ((k _).run P w);cases(k _).run P w with|halt _ _=>exactλh=>h|ok a J=>rintro⟨q,B,A,H,i,z,I⟩;refine⟨q,B,A,by simp_all,i,z,λe d=>?_⟩;rw[X0.events_bind,C,g]at d;(have y:(Go.getObj b').events P v #[]=#[⟨.obj b',WN,WN⟩]:=by simp[Go.getObj,X0.events,X0.runT,g,Yf.isChan,-X0.runT_eq]);simp only[Ya.evThen_ok]at d;rw[X0.events_acc,y]at d;rcases Va.1 d with d|d;{simp at d;subst d;exact .inl ⟨b,⟨i.le _ _ D,n⟩,by simp,rfl⟩};simp_all
theorem ab.setObj{b':Nat}(i:r b=Xp b')(z:¬c.seen b)(A:mb c r o o')(I:o.isChan=WN):ab P c r (setObj b o) (setObj b' o') λ_ _ _=>True:=by intro w v k;have m:=k.blk b b' i;(have C:∀(u:Xr)(j:Nat)(o:Yf),(Go.setObj j o).run P u=match u.heap[j]? with|some (.cells ..)=>.halt (.stuck "setObj: a row of cells") u|some _=>.ok () {u with heap:=u.heap.setIfInBounds j o}|none=>.halt (.stuck "setObj: no such block") u:=by intro u j o;rfl);rw[C];have n:=k.qD b b' i;have y:=k.ze b b' i;(have E:o'.isChan=WN:=by cases A<;>rfl);generalize H:w.heap[b]?=K at m;generalize g:v.heap[b']?=J at m;(have d:∀q,v.heap[b']?=Xp q->(∀x t f,q≠.cells x t f)->q.isChan=WN->Out P c r w v (Go.setObj b' o') (λ_ _ _=>True) (.ok () {w with heap:=w.heap.setIfInBounds b o}):=by intro q F G B;refine⟨(),{v with heap:=v.heap.setIfInBounds b' o'},r,?_,?_,trivial,λe p=>?_⟩;{simp_all};{exact Ext.Qc k i z (by simp[n]) (by simp[y]) A Θ Θ (λj s=>U5 (Ne.symm s)) (λj s=>U5 (Ne.symm s)) rfl rfl k.drawn rfl rfl};(have D:(Go.setObj b' o').events P v #[]=#[⟨.obj b',Xq,WN⟩]:=by unfold Go.setObj;simp only[X0.events,X0.runT,F];simp_all);rw[D]at p;simp at p;subst p;exact .inl ⟨b,⟨i,z⟩,λ_=>z,rfl⟩);cases m with|seen _ _ _ x _ _ _ _=>rfl|own _ h=>cases h with|cells _ _ _=>exact rfl|map _ _ _=>exact d _ g (λ_ _ _ h=>by cases h) rfl|iter _ _=>exact d _ g (λ_ _ _ h=>by cases h) rfl|number _ _=>exact d _ g (λ_ _ _ h=>by cases h) rfl
end
section
variable{c:dx}{r:bB}
def Flat(v:Xu):Prop:=∀(c:dx)(r:bB),ai c r v v
theorem Flat.int(k:XH)(n:Int):Flat (.int k n):=λ_ _=>.int k n
theorem Flat.bool(b:Bool):Flat (.bool b):=λ_ _=>.bool b
theorem Flat.string(s:ByteArray):Flat (.string s):=λ_ _=>.string s
def jF:Nat->Xu->Bool
 |0,_=>WN
 |_+1,.bool _|_+1,.int _ _|_+1,.string _|_+1,.pointer Xv|_+1,.slice Xv _ _|_+1,.map Xv|_+1,.nilFunc|_+1,.nilIface=>Xq
 |n+1,.agg x|n+1,.tuple x=>x.all (jF n)
 |_,_=>WN
theorem il:∀{n:Nat}{v:Xu},jF n v=Xq->Flat v|0,_,h=>by simp[jF]at h|n+1,v,h=>by intro c r;cases v with|bool b=>exact .bool b|int k n=>exact .int k n|float _ _=>simp[jF]at h|complex _ _ _=>simp[jF]at h|string s=>exact .string s|pointer a=>(cases a with|none=>exact .gf|some _=>simp[jF]at h)|slice a n m=>(cases a with|none=>exact .gu n m|some _=>simp[jF]at h)|map a=>(cases a with|none=>exact .kO|some _=>simp[jF]at h)|chan _=>simp[jF]at h|func _ _ _=>simp[jF]at h|nilFunc=>exact .nilFunc|iface _ _=>simp[jF]at h|nilIface=>exact .nilIface|agg x=>simp only[jF,Array.all_eq_true]at h;refine .agg rfl λi v f a b=>?_;rw[a]at b;cases b;obtain⟨e,rfl⟩:=UD.1 a;exact il (h i e) c r|tuple x=>simp only[jF,Array.all_eq_true]at h;refine .tuple rfl λi v f a b=>?_;rw[a]at b;cases b;obtain⟨e,rfl⟩:=UD.1 a;exact il (h i e) c r
theorem ab.flat{x:X0 Xu}(h:bO P Flat x):ab P c r x x (ai c):=(ab.eV h).mono λd a b _⟨e,h⟩=>by subst e;exact h c d
theorem bM:bO P (λp=>p=P) program:=rfl
theorem jQ(t:XI):bO P (λi=>P.info? t=Xp i) (typeInfo t):=by refine bO.bind bM λp a=>?_;subst a;cases h:p.info? t with|none=>exact rfl|some i=>exact rfl
theorem tv(t:XI)(a:∀z,(P.info? t).bind (·.zero)=Xp z->Flat z):bO P Flat (zeroValue t):=by refine bO.bind (jQ t) λi b=>?_;cases h:i.zero with|none=>exact rfl|some v=>exact a v (by grind)
theorem nO(a:BinOp)(k:XH)(x y:Int):bO P Flat (Op.intArith a k x y):=by unfold Op.intArith;split<;>first|exact .int _ _|exact rfl
theorem yB(a:BinOp)(k:XH)(x y:Int):bO P Flat (Op.intDiv a k x y):=by unfold Op.intDiv;split;{rfl};split<;>first|exact .int _ _|exact rfl
theorem pw(a:BinOp)(k:XH)(x y:Int):bO P Flat (Op.intBits a k x y):=by unfold Op.intBits;split<;>first|exact .int _ _|exact rfl
theorem yK(a:BinOp)(x y:Int):bO P Flat (Op.intCmp a x y):=by unfold Op.intCmp;split<;>first|exact .bool _|exact rfl
theorem sH(a:BinOp)(k b:XH)(x y:Int):bO P Flat (Op.shift a k x b y):=by unfold Op.shift;split;{rfl};split<;>first|exact .int _ _|exact rfl
theorem kC(a:BinOp)(x y:ByteArray):bO P Flat (Op.stringOp a x y):=by unfold Op.stringOp;split<;>first|exact .bool _|exact rfl|(split<;>first|exact .string _|exact rfl)
theorem j1{q:α->Prop}(s:String):bO P q (Go.stuck s):=rfl
theorem ph{q:α->Prop}{b:Prop}[Decidable b]{x y:X0 α}(a:bO P q x)(d:bO P q y):bO P q (if b then x else y):=by grind
theorem l5(d:BinOp)(t:XI)(k j:XH)(a b:Int):bO P Flat (binOp d t (.int k a) (.int j b)):=by cases d<;>first|exact sH .shl k j a b|exact sH .shr k j a b|exact ph (j1 _) (nO _ _ _ _)|exact ph (j1 _) (yB _ _ _ _)|exact ph (j1 _) (pw _ _ _ _)|exact ph (j1 _) (yK _ _ _)
theorem j8(d:BinOp)(t:XI)(a b:ByteArray):bO P Flat (binOp d t (.string a) (.string b)):=by(have:binOp d t (.string a) (.string b)=Op.stringOp d a b:=by cases d<;>rfl);rw[this];exact kC _ _ _
theorem ab.asBool(h:ai c r x x'):ab P c r (asBool x) (asBool x') λ_ a b=>b=a:=by cases h<;>first|exact ab.pure rfl|exact ab.stuck
theorem ab.asIntOf(h:ai c r x x'):ab P c r (asIntOf x) (asIntOf x') λ_ a b=>b=a:=by cases h<;>first|exact ab.pure rfl|exact ab.stuck|exact ab.unsupported
theorem ab.asInt(h:ai c r x x'):ab P c r (asInt x) (asInt x') λ_ a b=>b=a:=ab.bind (ab.asIntOf h) λ_ a b _ e=>ab.pure (by rw[e])
theorem ab.asAgg(h:ai c r x x'):ab P c r (asAgg x) (asAgg x') (aj c):=by cases h with|agg a b=>exact ab.pure ⟨a,b⟩|_=>exact ab.stuck
def ga(P:XN)(x:X0 α):Prop:=∀w h w',x.run P w=.halt h w'->BA h=Xq
def kT(P:XN)(x:X0 α):Prop:=∀w,∃k w',x.run P w=.halt k w'/\BA k=Xq
theorem bO.xQ{q:α->Prop}{x:X0 α}(h:bO P q x):ga P x:=by intro w k j e;rcases h.run w w rfl rfl with⟨a,d,_,b,_⟩|⟨i,f,b,g⟩;{simp_all};simp_all
theorem ga.bind{x:X0 α}{f:α->X0 β}(d:ga P x)(h:∀a,ga P (f a)):ga P (x>>=f):=by intro w k j e;rw[X0.run_bind]at e;cases b:x.run P w with|halt i g=>rw[b]at e;cases e;exact d _ _ _ b|ok a g=>rw[b]at e;exact h a _ _ _ e
theorem dE{x:X0 α}{f:α->X0 β}(e:ga P x)(h:∀a,kT P (f a)):kT P (x>>=f):=by intro w;rw[X0.run_bind];cases d:x.run P w with|halt k b=>exact⟨k,b,rfl,e _ _ _ d⟩|ok a b=>exact h a b
theorem gr{x:X0 α}{f:α->X0 β}(h:kT P x):kT P (x>>=f):=by intro w;obtain⟨k,b,e,a⟩:=h w;simp_all
theorem eS(a:BA h=Xq:=by rfl):kT P (X0.halt h:X0 α):=λw=>⟨h,w,rfl,a⟩
theorem qS(o:Yf):ga P (newObj o):=λ_ _ _ e=>by cases e
theorem dz(a:α):ga P (Pure.pure a:X0 α):=λ_ _ _ e=>by cases e
theorem AY(b:Nat):ga P (shape b):=λ_ _ _ e=>by cases e
theorem zY(a:Yc):ga P (frozen a):=λ_ _ _ e=>by cases e
theorem qU(t:XI):lD P (elemOf t):=(aE t).bind λd=>by cases d<;>first|trivial|exact rfl
theorem dM(e:RuntimeError):kT P (runtimePanic e:X0 α):=by refine dE lE.xQ λp=>?_;cases e with|typeAssertion i q a m=>exact dE (qU _).xQ λz=>dE ((qS _).bind λ_=>dz _) λ_=>eS|panicNil=>exact dE (qU _).xQ λz=>dE ((qS _).bind λ_=>dz _) λ_=>eS|_=>exact eS
theorem ab.runtimePanic{y:X0 β}{Q:bB->α->β->Prop}:ab P c r (Go.runtimePanic e:X0 α) y Q:=ab.never (dM e)
theorem oQ(k:XH)(x y:Int)(a:BoundsCode):kT P (boundsPanic k x y a:X0 α):=by unfold boundsPanic;split;{exact dE ((iH _).bind λ_=>vA _).xQ λ_=>dM _};exact dE (vA _).xQ λ_=>dM _
theorem ab.boundsPanic{k:XH}{n m:Int}{code:BoundsCode}{y:X0 β}{Q:bB->α->β->Prop}:ab P c r (Go.boundsPanic k n m code:X0 α) y Q:=ab.never (oQ k n m code)
theorem ab.sureAddr(h:ai c r x x'):ab P c r (Instr.sureAddr x) (Instr.sureAddr x') (dw c):=by cases h with|ptr h=>exact ab.pure h|_=>exact ab.stuck
theorem ab.asAddr(h:ai c r x x'):ab P c r (asAddr x) (asAddr x') (dw c):=by cases h with|ptr h=>exact ab.pure h|gf=>exact ab.runtimePanic (e:=.nilDeref)|_=>exact ab.stuck
theorem ab.part(t:XI)(off:Nat){x x':Array Xu}(h:aj c r x x'):ab P c r (part t x off) (part t x' off) (ai c):=by refine ab.bind (ab.cL (oD t)) λm g f a j=>?_;subst j;cases f with|true=>exact ab.bind (ab.cL (bA t)) λp n o i l=>by subst l;exact ab.pure (.tr (((h.mono a).mono i).extract _ _))|false=>cases e:x[off]? with|none=>exact ab.stuck|some v=>obtain⟨q,d,k⟩:=(h.mono a).get e;rw[d];exact ab.pure k
theorem DV(t:XI)(d:∀z,(P.info? t).bind (·.zero)=Xp z->Flat z):ab P c r (Instr.alloc t Xq (.tuple #[])) (Instr.alloc t Xq (.tuple #[])) (ai c):=by refine ab.bind (ab.flat (tv t d)) λg z j f d=>?_;exact ab.bind (ab.newVar d) λi a e _ h=>ab.pure (.ptr h)
theorem LA(t:XI)(h:ai c r x x'):ab P c r (Instr.box t x) (Instr.box t x') (ai c):=ab.bind (ab.newVar h) λe a d _ h=>ab.pure (.ptr h)
theorem x8(d:Nat->Option (Nat×Nat)):∀(l q:List (Nat×Xu)){z z':Array Xu},aj c r z z'->l.map (·.1)=q.map (·.1)->aj c r (l.map (·.2)).toArray (q.map (·.2)).toArray->
 match Instr.fill d z l with|some y=>∃I,Instr.fill d z' q=Xp I/\aj c r y I|none=>True
 |[],[],z,z',h,_,_=>⟨z',rfl,h⟩
 |[],_::_,_,_,_,e,_=>by simp at e
 |_::_,[],_,_,_,e,_=>by simp at e
 |(i,v)::l,(O,t)::q,z,z',h,e,w=>by
   simp only[Ve,VH]at e
   obtain⟨rfl,e⟩:=e
   have F:ai c r v t:=w.el 0 v t Θ Θ
   have A:aj c r (l.map (·.2)).toArray (q.map (·.2)).toArray:=⟨by have:=w.size;simp_all,λj u E a b=>w.el (j+1) u E (by grind) (by grind)⟩
   have M:=(aj.cells F).size
   have C:=h.size
   unfold Instr.fill
   cases d i with
   |none=>trivial
   |some p=>
     obtain⟨k,H⟩:=p
     simp only[<-M,<-C]
     split
     · rename_i y G
       split at G
       ·cases G
       · rename_i L
         rw[if_neg L]
         have D:∀(s f:List (Xu×Nat))(z z':Array Xu),aj c r z z'->s.map (·.2)=f.map (·.2)->aj c r (s.map (·.1)).toArray (f.map (·.1)).toArray->
          aj c r (s.foldl (λm(x:Xu×Nat)=>m.setIfInBounds (k+x.2) x.1) z) (f.foldl (λm(x:Xu×Nat)=>m.setIfInBounds (k+x.2) x.1) z'):=by
          intro s
          induction s with
          |nil=>simp_all
          |cons p s N=>intro f z z' C e B;cases f with
            |nil=>simp at e
            |cons Q f=>
              simp only[Ve,VH]at e
              rw[VK,VK,<-e.1]
              exact N f _ _ (C.set _ (B.el 0 _ _ Θ Θ)) e.2 ⟨by have:=B.size;simp_all,λj u E a b=>B.el (j+1) u E (by grind) (by grind)⟩
         have n:aj c r (v.cells.zipIdx.foldl (λm(x:Xu×Nat)=>m.setIfInBounds (k+x.2) x.1) z) (t.cells.zipIdx.foldl (λm(x:Xu×Nat)=>m.setIfInBounds (k+x.2) x.1) z'):=by
          rw[<-Array.foldl_toList,<-Array.foldl_toList]
          refine D _ _ _ _ h ?_ ?_
          ·simp_all
          · have J:(v.cells.zipIdx.toList.map (·.1)).toArray=v.cells:=by simp
            have K:(t.cells.zipIdx.toList.map (·.1)).toArray=t.cells:=by simp
            rw[J,K];exact aj.cells F
         have:=x8 d l q n e A
         simp_all
     ·trivial
end
section
variable{c:dx}{r:bB}
inductive sL(c:dx)(b:Nat):Option (XI×Nat)->Option (XI×Nat)->Prop
 |none:sL c b Xv Xv
 |some(t:XI){n m:Nat}:n<=m->c.low b=0->sL c b (Xp (t,n)) (Xp (t,m))
 |bad(t':XI){n m:Nat}:c.low b≠0->c.aL<=b->sL c b (Xp (wT,n)) (Xp (t',m))
theorem sL.isSome{s s':Option (XI×Nat)}(h:sL c b s s'):s.isSome=s'.isSome:=by cases h<;>rfl
theorem qw{p:XN}{d:Nat}{e:XI}{m off:Nat}{bs:Int}{o:Nat}(h:n<=m)(a:cellAtBytes p d e n off bs=Xp o):cellAtBytes p d e m off bs=Xp o:=by unfold cellAtBytes at a⊢;simp only[]at a⊢;split at a;{cases a};rename_i f;rw[if_neg f];simp only[Option.bind_eq_bind]at a⊢;cases i:byteOfCell p d e (off%p.cellsOf e)with|none=>simp_all|some b=>rw[i]at a;simp only[VD]at a⊢;split at a;{cases a};rename_i g;rw[if_neg ?_];{exact a};simp only[VN,decide_eq_true_eq,Int.ofNat_eq_natCast]at g⊢;have:n*p.bytesOf e<=m*p.bytesOf e:=Xa _ h;omega
theorem cC.shape(h:cC c r w v)(g:r b=Xp k):sL c b (w.shape? b) (v.shape? k):=by have d:=h.blk b k g;unfold Xr.shape?;generalize w.heap[b]?=p at d;generalize v.heap[k]?=o at d;cases d with|@seen x q t m f s l z y e=>by_cases a:c.low b=0;{obtain rfl:=y.1 a;exact .some t z a};obtain⟨rfl,i⟩:=y.2 a;exact .bad m a i|own n j=>cases j with|cells t f k=>exact .some t (by simp[k.size]) (h.qh b n)|_=>exact .none
theorem ab.shape(d:r b=Xp k):ab P c r (shape b) (shape k) λ_ x y=>sL c b x y:=by intro w v a;exact⟨v.shape? k,v,r,rfl,.refl a,a.shape d,λe f=>by simp_all⟩
theorem ab.viewAt(f:r b=Xp k):ab P c r (viewAt b) (viewAt k) λ_ x y=>x=Xv/\y=Xv:=by refine ab.bind (ab.shape f) λg s d h l=>?_;have a:=l.isSome;by_cases e:d.isSome=Xq;{rw[a,if_pos e,if_pos e];exact ab.pure ⟨rfl,rfl⟩};rw[a,if_neg e,if_neg e];refine ab.getObj (h _ _ f) λo n _ j i=>?_;cases j with|cells t m _=>exact absurd rfl (i _ _ _)|_=>exact ab.pure ⟨rfl,rfl⟩
theorem ab.noView(d:dw c r a a'):ab P c r (noView a) (noView a') λ_ _ _=>True:=by refine ab.bind (ab.viewAt d.1) λf s g e b=>?_;rw[b.1,b.2];exact ab.pure trivial
def N6(c:dx)(r:bB):Option (Yc×Bool)->Option (Yc×Bool)->Prop
 |none,Xv=>True
 |some (a,l),Xp (a',l')=>dw c r a a'/\l'=l
 |_,_=>False
theorem ab.numberAt(f:r b=Xp k):ab P c r (numberAt b) (numberAt k) (N6 c):=by refine ab.bind (ab.shape f) λn s g h m=>?_;have d:=m.isSome;rw[d];by_cases e:g.isSome=Xq;{rw[if_pos e,if_pos e];exact ab.pure trivial};rw[if_neg e,if_neg e];refine ab.getObj (h _ _ f) λo q _ j i=>?_;cases j with|cells t p _=>exact absurd rfl (i _ _ _)|number l a=>exact ab.pure ⟨a,rfl⟩|_=>exact ab.pure trivial
theorem ab.behindNumber(d:dw c r a a'):ab P c r (behindNumber a) (behindNumber a') λf x y=>dw c f x.1 y.1/\y.2=x.2:=by refine ab.bind (ab.numberAt d.1) λi s g e b=>ab.pure ?_;match s,g,b with|none,Xv,_=>exact⟨d.mono e,rfl⟩|some (x,l),Xp (j,h),b=>exact b
theorem ab.asNumber(b:dw c r a a')(l:Bool):ab P c r (asNumber a l) (asNumber a' l) (ai c):=ab.bind (ab.newObj (.number l b)) λ_ _ _ _ h=>ab.pure (.ptr ⟨h.1,rfl,rfl,VG h.2⟩)
theorem ab.byteOf(b:dw c r a a')(g:c.low a.block=0\/a.block<c.aL):ab P c r (byteOf a) (byteOf a') λ_ x y=>y=x:=by have e:=b.2.2.1;unfold Go.byteOf;rw[e];cases a.spot with|some s=>exact ab.pure rfl|none=>refine ab.bind (ab.eV bM) λn p m d i=>?_;obtain⟨rfl,rfl⟩:=i;refine ab.bind (ab.noView (b.mono d)) λo _ _ f _=>?_;refine ab.bind (ab.shape ((b.mono d).mono f).1) λq s t l e=>?_;rw[b.2.1];cases e with|none=>exact ab.stuck|bad x k d=>exact absurd g Ω|some x h=>refine ab.cL ?_;simp only[];split;{trivial};split<;>first|trivial|exact rfl
theorem ab.unsafeAdd(z:Fits P c)(h:ai c r x x')(k:ai c r y y'):ab P c r (XY.unsafeAdd_ #[] t #[x,y]) (XY.unsafeAdd_ #[] t #[x',y']) (ai c):=by(have f:∀{a j:Option Yc},ai c r (.pointer a) (.pointer j)->ab P c r (XY.unsafeAdd_ #[] t #[.pointer a,y]) (XY.unsafeAdd_ #[] t #[.pointer j,y']) (ai c):=by intro a j h;refine ab.bind (ab.asInt k) λF n E v A=>?_;subst A;have h:=h.mono v;simp only[];split;{cases h with|gf=>exact ab.unsupported|ptr b=>refine ab.bind (ab.viewAt b.1) λB s D l g=>?_;rw[g.1,g.2];exact ab.pure (.ptr (b.mono l))};split;{exact ab.unsupported};cases h with|gf=>exact ab.unsupported|ptr b=>refine ab.bind (ab.shape b.1) λB s D l g=>?_;cases g with|none=>exact ab.unsupported|bad x u v=>refine ab.bind (ab.eV bM) λC p i w o=>?_;obtain⟨rfl,rfl⟩:=o;(have:i.cellsOf wT=0:=by unfold XN.cellsOf;rw[z.bad];rfl);(have:∀n d q,cellAtBytes i i.depth wT n d q=Xv:=λn d q=>by unfold cellAtBytes;simp[this]);simp only[this];exact ab.unsupported|some x m u=>refine ab.bind (ab.eV bM) λC p i w o=>?_;obtain⟨rfl,rfl⟩:=o;rw[b.2.1];split;{rename_i d e;rw[qw (Nat.div_le_div_right m) e];exact ab.pure (.ptr ⟨((b.mono l).mono w).1,rfl,b.2.2.1,UO (VG u) (U2 _)⟩)};exact ab.unsupported);cases h with|gf=>exact f .gf|ptr b=>exact f (.ptr b)|_=>exact ab.stuck
theorem ab.movedNumber(g:Fits P c)(h:ai c r x x')(k:ai c r y y'):ab P c r (movedNumber t x y) (movedNumber t x' y') (ai c):=by refine ab.bind (ab.cL (aE t)) λH d E p w=>?_;subst w;have h:=h.mono p;have k:=k.mono p;refine ab.ite (λ_ _ _ _=>rfl) λ_=>?_;cases h with|ptr u=>refine ab.bind (ab.behindNumber u) λI a i q A=>?_;obtain⟨j,o⟩:=A;obtain⟨a,l⟩:=a;subst o;refine ab.bind (ab.unsafeAdd g (.ptr j) (k.mono q)) λJ z K F B=>?_;(cases B with|ptr v=>exact ab.asNumber v _|gf=>exact ab.pure .gf|bool b=>exact ab.pure (.bool b)|int k n=>exact ab.pure (.int k n)|string s=>exact ab.pure (.string s)|gu n m=>exact ab.pure (.gu n m)|slice n m a=>exact ab.pure (.slice n m a)|cE a i=>exact ab.pure (.cE a i)|kO=>exact ab.pure .kO|map a=>exact ab.pure (.map a)|func a b d e f=>exact ab.pure (.func a b d e f)|nilFunc=>exact ab.pure .nilFunc|nilIface=>exact ab.pure .nilIface|iface t a=>exact ab.pure (.iface t a)|agg a b=>exact ab.pure (.agg a b)|tuple a b=>exact ab.pure (.tuple a b))|gf=>exact ab.unsafeAdd g .gf k|bool b=>exact ab.unsafeAdd g (.bool b) k|int C n=>exact ab.unsafeAdd g (.int C n) k|string s=>exact ab.unsafeAdd g (.string s) k|gu n m=>exact ab.unsafeAdd g (.gu n m) k|slice n m a=>exact ab.unsafeAdd g (.slice n m a) k|cE a i=>exact ab.unsafeAdd g (.cE a i) k|kO=>exact ab.unsafeAdd g .kO k|map a=>exact ab.unsafeAdd g (.map a) k|func a b d e f=>exact ab.unsafeAdd g (.func a b d e f) k|nilFunc=>exact ab.unsafeAdd g .nilFunc k|nilIface=>exact ab.unsafeAdd g .nilIface k|iface t a=>exact ab.unsafeAdd g (.iface t a) k|agg a b=>exact ab.unsafeAdd g (.agg a b) k|tuple a b=>exact ab.unsafeAdd g (.tuple a b) k
theorem ab.movedPointer(g:Fits P c)(h:ai c r x x')(k:ai c r y y'):ab P c r (movedPointer t x y) (movedPointer t x' y') (ai c):=by unfold Go.movedPointer;cases h with|ptr j=>refine ab.bind (ab.numberAt j.1) λv s q i o=>?_;(match s,q,o with|none,Xv,_=>exact ab.unsafeAdd (t:=t) g (.ptr (j.mono i)) (k.mono i)|some _,Xp _,_=>exactλ_ _ _=>rfl)|gf=>exact ab.unsafeAdd g .gf k|bool b=>exact ab.unsafeAdd g (.bool b) k|int p n=>exact ab.unsafeAdd g (.int p n) k|string s=>exact ab.unsafeAdd g (.string s) k|gu n m=>exact ab.unsafeAdd g (.gu n m) k|slice n m a=>exact ab.unsafeAdd g (.slice n m a) k|cE a l=>exact ab.unsafeAdd g (.cE a l) k|kO=>exact ab.unsafeAdd g .kO k|map a=>exact ab.unsafeAdd g (.map a) k|func a b d e f=>exact ab.unsafeAdd g (.func a b d e f) k|nilFunc=>exact ab.unsafeAdd g .nilFunc k|nilIface=>exact ab.unsafeAdd g .nilIface k|iface t a=>exact ab.unsafeAdd g (.iface t a) k|agg a b=>exact ab.unsafeAdd g (.agg a b) k|tuple a b=>exact ab.unsafeAdd g (.tuple a b) k
theorem ab.known{x:X0 α}{y:X0 β}{Q:bB->α->β->Prop}(h:(∀(i k:Nat),r i=Xp k->i<c.aL->i=k)->(∀(i j k:Nat),r i=Xp k->r j=Xp k->i=j\/(c.seen i/\c.seen j))->ab P c r x y Q):ab P c r x y Q:=λw v a=>h a.aL a.inj w v a
theorem vC{b:Yc}(d:dw c r a a')(f:dw c r b b')(e:a.block=b.block):a'.block=b'.block:=by have h:=f.1;rw[<-e,d.1]at h;simp_all
theorem uM(d:∀(i k:Nat),r i=Xp k->i<c.aL->i=k)(b:dw c r a a')(h:a.block<c.aL):a'.block<c.aL:=by have:=d _ _ b.1 h;omega
theorem ab.twoPlaces{b:Yc}(k:Fits P c)(f:dw c r a a')(j:dw c r b b'):ab P c r (Op.twoPlaces a b) (Op.twoPlaces a' b') λ_ x y=>y=x:=by refine ab.known λu A=>?_;refine ab.bind (ab.eV bM) λB p h i t=>?_;obtain⟨rfl,rfl⟩:=t;by_cases d:a.block=b.block;(case neg=>have m:=bne_iff_ne.2 d;rw[m];exactλ_ _ _=>rfl);(have n:(a'.block !=b'.block)=(a.block !=b.block):=by simp[d,vC f j d]);by_cases e:a.block<c.aL;(case neg=>(have q:decide (a.block>=h.globals.size)=Xq:=by rw[decide_eq_true_eq,<-k.aL];omega);rw[q,VO];exactλ_ _ _=>rfl);(have o:decide (a'.block>=h.globals.size)=decide (a.block>=h.globals.size):=by rw[decide_eq_decide,<-k.aL];have:=uM u f e;omega);rw[n,o];refine ab.ite (λ_ _ _ _=>rfl) λ_=>?_;exact ab.bind (ab.byteOf (f.mono i) (.inr e)) λC x E s v=>ab.bind (ab.byteOf ((j.mono i).mono s) (.inr (d▸e))) λD y F z w=>ab.pure (by rw[v,w])
theorem ab.addrMod(h:Fits P c){k:XH}{n:Int}(f:dw c r a a'):ab P c r (Op.addrMod k a n) (Op.addrMod k a' n) (ai c):=by refine ab.bind (ab.shape f.1) λt s y d m=>?_;cases m with|none=>exact ab.unsupported|bad x b d=>refine ab.never (gr λw=>?_);(have e:∃s,(typeInfo wT).run P w=.halt (.stuck s) w:=by unfold typeInfo;rw[X0.run_bind];simp only[program,X0.run,Ya.andThen,h.bad];simp);obtain⟨s,e⟩:=e;exact⟨_,w,e,rfl⟩|some x l b=>refine ab.bind (ab.cL (dy _)) λu i q g j=>?_;subst j;refine ab.ite (λ_ _ _ _=>rfl) λ_=>?_;exact ab.bind (ab.byteOf ((f.mono d).mono g) (.inl b)) λv z A p o=>by subst o;exact ab.pure (.int _ _)
theorem ab.addrCmp{b:Yc}(f:Fits P c)(d:dw c r a a')(e:dw c r b b'):ab P c r (Op.addrCmp op a b) (Op.addrCmp op a' b') (ai c):=by refine ab.bind (ab.twoPlaces f d e) λj s h i g=>?_;subst g;cases op<;>first|exact ab.pure (.bool _)|exact ab.unsupported
theorem ab.addrSub{k:XH}{b:Yc}(f:Fits P c)(d:dw c r a a')(e:dw c r b b'):ab P c r (Op.addrSub k a b) (Op.addrSub k a' b') (ai c):=by refine ab.bind (ab.twoPlaces f d e) λi s j h g=>?_;subst g;exact ab.pure (.int _ _)
def MH(P:XN)(t:XI):Bool:=match(P.info? t).map (λi:TypeInfo=>i.desc)with|some (.named "sync.copyChecker" _)=>WN|_=>Xq
def fg(P:XN)(t:XI):Bool:=match P.underlying t with|some (.int _)=>MH P t|some .string|some .bool=>Xq|_=>WN
theorem x5{q:α->Prop}{x:X0 α}{f:α->X0 β}(g:bO P q x)(h:∀a,q a->kT P (f a)):kT P (x>>=f):=by intro w;rw[X0.run_bind];rcases g.run w w rfl rfl with⟨a,d,e,b,_⟩|⟨k,j,b,i⟩;{rw[b];exact h a e _};simp_all
theorem ab.equal(H:Fits P c)(j:fg P t=Xq)(h:ai c r x x')(k:ai c r y y'):ab P c r (Op.equal t x y) (Op.equal t x' y') λ_ a b=>b=a:=by show ab P c r (Op.equalIn (9999+1) t x y) (Op.equalIn (9999+1) t x' y') _;generalize(9999:Nat)=d;unfold Op.equalIn;refine ab.bind (ab.eV (x:=underlying t) (q:=λd=>P.underlying t=Xp d) ?_) λr1 z J s m=>?_;{refine bO.bind bM λp v=>?_;subst v;cases h:p.underlying t with|none=>exact rfl|some i=>exact rfl};obtain⟨rfl,m⟩:=m;have h:=h.mono s;have k:=k.mono s;unfold fg at j;rw[m]at j;cases J with|bool=>(cases h<;>cases k<;>first|exact ab.stuck|exact ab.pure rfl)|string=>(cases h<;>cases k<;>first|exact ab.stuck|exact ab.pure rfl)|int q=>(cases h with|int S w=>(cases k with|int I o=>exact ab.ite (λ_=>ab.pure rfl) λ_=>ab.stuck|ptr G=>(match w with|.ofNat 0=>exact ab.pure rfl|.ofNat (_+1)=>exact ab.unsupported|.negSucc _=>exact ab.unsupported)|_=>first|exact ab.stuck|exact ab.unsupported)|ptr N=>(cases k with|int I o=>(match o with|.ofNat 0=>exact ab.pure rfl|.ofNat (_+1)=>exact ab.unsupported|.negSucc _=>exact ab.unsupported)|ptr G=>refine ab.bind (ab.behindNumber N) λr2 x x' C g=>ab.bind (ab.behindNumber (G.mono C)) λr3 y y' D l=>?_;refine ab.known λR n=>?_;have g:=g.1.mono D;have l:=l.1;refine ab.bind (ab.eV bM) λr4 p B E v=>?_;obtain⟨rfl,rfl⟩:=v;by_cases f:x.1.block=y.1.block;(case neg=>have w:(x.1.block==y.1.block)=WN:=beq_eq_false_iff_ne.2 f;(have o:(x.1==y.1)=WN:=by grind);simp only[w,o,V6,U0,if_false];refine ab.never (dE (dy t).xQ λi=>?_);split<;>exact eS);have O:=vC g l f;(have K:(x'.1.block==y'.1.block)=(x.1.block==y.1.block):=by simp_all);by_cases e:x.1.block<c.aL;(case neg=>(have T:decide (x.1.block<B.globals.size)=WN:=by rw[decide_eq_false_iff_not,<-H.aL];exact e);simp only[T,Bool.and_false,U0,if_false];refine ab.never (x5 (jQ t) λi n=>?_);unfold MH at j;rw[n]at j;split;{simp_all};exact eS);(have L:decide (x'.1.block<B.globals.size)=decide (x.1.block<B.globals.size):=by rw[decide_eq_decide,<-H.aL];exact⟨λ_=>e,λ_=>uM R g e⟩);(have M:(x'.1==y'.1)=(x.1==y.1):=by obtain⟨⟨xb,xo,xs⟩,_⟩:=x;obtain⟨⟨V,W,X⟩,_⟩:=x';obtain⟨⟨yb,yo,ys⟩,_⟩:=y;obtain⟨⟨Y,Z,ys'⟩,_⟩:=y';obtain⟨s,C,D,-⟩:=g;obtain⟨S,I,k3,-⟩:=l;grind);simp only[K,L,M];refine ab.ite (λe=>?_) λ_=>?_;{(have e:x.1.block<c.aL:=by assumption);exact ab.bind (ab.byteOf (g.mono E) (.inr e)) λU u u' F Q=>ab.bind (ab.byteOf ((l.mono E).mono F) (.inr (f▸e))) λr6 z J h6 m=>ab.pure (by rw[Q,m])};refine ab.bind (ab.cL (dy t)) λU i i' F n=>?_;subst n;refine(ab.cL ?_);(split<;>first|exact rfl|(split<;>first|trivial|exact rfl))|_=>exact ab.unsupported)|gf=>cases k<;>exact ab.unsupported|_=>cases k<;>first|exact ab.stuck|exact ab.unsupported)|_=>simp at j
theorem ab.eqGuard{o2:XR}(b:∀z,x≠.agg z)(a:x≠.nilIface)(h:ai c r x x'):ab P c r (eqGuard op t o1 o2 x y) (eqGuard op t o1 o2 x' y') λ_ _ _=>True:=by refine ab.ite (λ_=>ab.pure trivial) λ_=>?_;cases h<;>first|exact absurd rfl a|exact absurd rfl (b _)|exact ab.pure trivial
theorem j7{d:TypeDesc}(h:P.underlying t=Xp d)(w:Xr):(underlying t).run P w=.ok d w:=by unfold underlying;simp_all
theorem yY(a:fg P t=Xq)(e:(∃z,x=.agg z)\/x=.nilIface):kT P (Op.equal t x y):=by intro w;show∃k f,(Op.equalIn (9999+1) t x y).run P w=.halt k f/\_;unfold Op.equalIn;unfold fg at a;cases b:P.underlying t with|none=>simp_all|some z=>rw[b]at a;rw[X0.run_bind,j7 b];rcases e with⟨q,rfl⟩|rfl<;>cases z<;>first|(simp at a;done)|exact⟨_,_,rfl,rfl⟩|(cases y<;>exact⟨_,_,rfl,rfl⟩)
end
def Bi:Xu->Bool
 |.int ..|.string ..|.pointer ..|.float ..|.complex ..=>WN
 |_=>Xq
set_option maxHeartbeats 4000000 in theorem yp(a:BinOp)(t:XI)(x y:Xu)(b:¬(a=.eql\/a=.neq))(c:Bi x=Xq):∃h:Halt,binOp a t x y=.halt h/\BA h=Xq:=by(cases a<;>first|exact absurd (.inl rfl) b|exact absurd (.inr rfl) b|skip);all_goals(cases x<;>first|(simp[Bi]at c;done)|skip);all_goals(cases y<;>exact⟨_,rfl,rfl⟩)
section
variable{c:dx}{r:bB}
theorem oK(a:fg P t=Xq)(n:Nat):P.eqGuardType (n+1) t=WN:=by unfold fg at a;unfold XN.eqGuardType;grind
theorem xd{o2:XR}(l:fg P t=Xq)(m:(∃z,x=.agg z)\/x=.nilIface):ga P (eqGuard op t o1 o2 x y):=by
 have a:∀n:Nat,ga P (Op.eqGuardIn (n+1) t .nilIface .nilIface):=λn=>by
  unfold Op.eqGuardIn
  exact ga.bind (aE t).xQ λd=>by cases d<;>exact dz _
 have g:ga P (match x,y with
  |.nilIface,.nilIface=>(do
    if(o1 matches .const _)||(o2 matches .const _)then return
    if<-Op.eqGuardIn Op.maxDepth t x y then unsupported (.noEntry "binop/eql: two nil values of an interface type with methods, neither of them the literal nil"):X0 Unit)
  |.agg _,.agg _=>(do
    if !(<-program).eqGuardType (<-program).depth t then return
    if<-Op.eqGuardIn Op.maxDepth t x y then unsupported (.noEntry "binop/eql: two nil values of an interface type with methods, in a part of a struct or an array"):X0 Unit)
  |_,_=>pure ()):=by
  rcases m with⟨z,rfl⟩|rfl
  ·cases y with
    |agg u=>
      refine bO.xQ (q:=λ_=>True) (bO.bind bM λp k=>bO.bind bM λj f=>?_)
      subst k f
      rw[show j.eqGuardType j.depth t=WN from oK l _]
      exact trivial
    |_=>exact dz _
  ·cases y with
    |nilIface=>
      by_cases i:((match o1 with|.const _=>Xq|_=>WN)||(match o2 with|.const _=>Xq|_=>WN))=Xq
      ·simp only[i,if_true];exact dz _
      · simp only[i,if_false,U0]
        exact ga.bind (a 9999) λb=>by
         cases b
         ·exact dz _
         ·exactλw h o e=>by cases e;rfl
    |_=>exact dz _
 cases op<;>first|exact g|exact dz _
set_option maxHeartbeats 1000000 in theorem Dn{o2:XR}(hc:Fits P c)(ht:(op=.eql\/op=.neq)->fg P t=Xq)(h:ai c r x x')(k:ai c r y y'):ab P c r (do eqGuard op t o1 o2 x y;binOp op t x y) (do eqGuard op t o1 o2 x' y';binOp op t x' y') (ai c):=by by_cases he:op=.eql\/op=.neq;{have ht:=ht he;by_cases hx:(∃z,x=.agg z)\/x=.nilIface;{refine ab.never (dE (xd ht hx) λ_=>?_);have:∀f:Bool->X0 Xu,kT P (Op.equal t x y>>=f):=λf=>gr (yY (P:=P) (y:=y) ht hx);rcases hx with⟨z,rfl⟩|rfl<;>rcases he with rfl|rfl<;>(cases y<;>exact this _)};(have heq:∀{r:bB},ai c r x x'->ai c r y y'->ab P c r (binOp op t x y) (binOp op t x' y') (ai c):=by intro r h k;have key:=ab.equal hc ht h k;cases h with|int k1 n1=>(cases k with|int k2 n2=>exact ab.flat (l5 _ _ _ _ _ _)|_=>rcases he with rfl|rfl<;>exact ab.bind key λ_ _ _ _ e=>by subst e;exact ab.pure (.bool _))|string s1=>(cases k with|string s2=>exact ab.flat (j8 _ _ _ _)|_=>rcases he with rfl|rfl<;>exact ab.bind key λ_ _ _ _ e=>by subst e;exact ab.pure (.bool _))|_=>rcases he with rfl|rfl<;>exact ab.bind key λ_ _ _ _ e=>by subst e;exact ab.pure (.bool _));exact ab.bind (ab.eqGuard (λz e=>hx (.inl ⟨z,e⟩)) (λe=>hx (.inr e)) h) λr1 _ _ h1 _=>heq (h.mono h1) (k.mono h1)};(have e0:∀x y:Xu,(do eqGuard op t o1 o2 x y;binOp op t x y)=binOp op t x y:=by intro x y;cases op<;>first|rfl|exact absurd (.inl rfl) he|exact absurd (.inr rfl) he);rw[e0,e0];clear e0;by_cases hx:Bi x=Xq;{obtain⟨h',e,hh⟩:=yp op t x y he hx;rw[e];exact ab.halt hh};cases h with|int k1 n1=>(cases k with|int k2 n2=>exact ab.flat (l5 _ _ _ _ _ _)|ptr hb=>(cases op<;>first|exact ab.unsupported|exact absurd (.inl rfl) he|exact absurd (.inr rfl) he|exact ab.movedNumber hc (.ptr hb) (.int _ _)|exact ab.bind (ab.behindNumber hb) λr1 z z' h1 hz=>ab.addrMod hc hz.1)|gf=>(cases op<;>first|exact ab.unsupported|exact absurd (.inl rfl) he|exact absurd (.inr rfl) he|exact ab.movedNumber hc .gf (.int _ _))|_=>cases op<;>first|exact ab.stuck|exact absurd (.inl rfl) he|exact absurd (.inr rfl) he)|string s1=>(cases k with|string s2=>exact ab.flat (j8 _ _ _ _)|_=>cases op<;>first|exact ab.stuck|exact ab.unsupported|exact absurd (.inl rfl) he|exact absurd (.inr rfl) he)|ptr ha=>(cases k with|int k2 n2=>(cases op<;>first|exact ab.unsupported|exact absurd (.inl rfl) he|exact absurd (.inr rfl) he|exact ab.movedNumber hc (.ptr ha) (.int _ _)|exact ab.bind (ab.behindNumber ha) λr1 z z' h1 hz=>ab.addrMod hc hz.1|(refine ab.bind (ab.cL (aE t)) λr1 d d' h1 hd=>?_;subst hd;exact ab.ite (λ_=>ab.movedPointer hc (.ptr (ha.mono h1)) (.int _ _)) λ_=>ab.movedNumber hc (.ptr (ha.mono h1)) (.int _ _)))|ptr hb=>(cases op<;>first|exact ab.unsupported|exact absurd (.inl rfl) he|exact absurd (.inr rfl) he|exact ab.bind (ab.behindNumber ha) λr1 z z' h1 hz=>ab.bind (ab.behindNumber (hb.mono h1)) λr2 u u' h2 hu=>ab.addrSub hc (hz.1.mono h2) hu.1|exact ab.bind (ab.behindNumber ha) λr1 z z' h1 hz=>ab.bind (ab.behindNumber (hb.mono h1)) λr2 u u' h2 hu=>ab.addrCmp hc (hz.1.mono h2) hu.1)|_=>cases op<;>first|exact ab.stuck|exact ab.unsupported|exact absurd (.inl rfl) he|exact absurd (.inr rfl) he)|gf=>(cases k with|int k2 n2=>(cases op<;>first|exact ab.unsupported|exact absurd (.inl rfl) he|exact absurd (.inr rfl) he|exact ab.movedNumber hc .gf (.int _ _)|(refine ab.bind (ab.cL (aE t)) λr1 d d' h1 hd=>?_;subst hd;exact ab.ite (λ_=>ab.movedPointer hc .gf (.int _ _)) λ_=>ab.movedNumber hc .gf (.int _ _)))|_=>cases op<;>first|exact ab.stuck|exact ab.unsupported|exact absurd (.inl rfl) he|exact absurd (.inr rfl) he)|_=>exact absurd rfl hx
end
section
variable{c:dx}{r:bB}
theorem aY(t:XI):bO P (λd=>P.underlying t=Xp d) (underlying t):=by refine bO.bind bM λp a=>?_;subst a;cases h:p.underlying t with|none=>exact rfl|some i=>exact rfl
theorem xi(t:XI):bO P (λn=>P.cellsOf t=n) (sizeOf t):=by refine bO.bind (jQ t) λi a=>?_;show P.cellsOf t=i.size;unfold XN.cellsOf;grind
theorem A9(t:XI)(h:ai c r x x'):ab P c r (Instr.loadAt t x) (Instr.loadAt t x') (ai c):=ab.bind (ab.sureAddr h) λ_ _ _ _ b=>ab.loadVar t b
theorem zN(t:XI)(h:ai c r x x')(k:ai c r y y'):ab P c r (Instr.storeAt t x y) (Instr.storeAt t x' y') λ_ _ _=>True:=ab.bind (ab.sureAddr h) λ_ _ _ b d=>ab.storeVar t d (k.mono b)
theorem DD{op:UnOp}(h:ai c r x x'):ab P c r (Op.unary op x) (Op.unary op x') (ai c):=by cases h with|bool b=>(cases op<;>first|exact ab.pure (.bool _)|exact ab.stuck)|int k n=>(cases op with|neg=>exact ab.flat (nO .sub k 0 n)|xor=>exact ab.flat (pw .xor k (if k.signed then-1 else k.max) n)|_=>exact ab.stuck)|ptr a=>(cases op<;>first|exact ab.unsupported|exact ab.stuck)|_=>cases op<;>exact ab.stuck
theorem yV(n:Nat)(h:ai c r x x'):ab P c r (Instr.extract x n) (Instr.extract x' n) (ai c):=by cases h with|tuple s e=>rename_i z f;unfold Instr.extract;(cases b:z[n]? with|none=>simp only[b];exact ab.stuck|some v=>obtain⟨g,d,k⟩:=(aj.mk s e).get b;simp only[b,d];exact ab.pure k)|_=>exact ab.stuck
theorem xT(s:XI)(n:Nat)(u:∀fs f,P.underlying s=Xp (.struct fs)->fs[n]?=Xp f->P.cellsOf f.type≠0)(h:ai c r x x'):ab P c r (Instr.fieldAt s x n) (Instr.fieldAt s x' n) (ai c):=by refine ab.bind (ab.eV (aY s)) λz d k l e=>?_;obtain⟨rfl,e⟩:=e;cases k with|struct fs=>simp only[];(cases t:fs[n]? with|none=>exact ab.stuck|some f=>refine ab.bind (ab.sureAddr (h.mono l)) λv a j w p=>?_;(have i:ab P c v (fieldPlace a f) (fieldPlace j f) (dw c):=by refine ab.bind (ab.eV (xi f.type)) λA m y o g=>?_;obtain⟨rfl,g⟩:=g;have:=u fs f e t;rw[g]at this;rw[if_neg this,if_neg this];exact ab.pure ((p.mono o).add _));exact ab.bind i λ_ _ _ _ q=>ab.pure (.ptr q))|_=>exact ab.stuck
theorem DJ(t:XI)(n:Nat)(h:ai c r x x'):ab P c r (Instr.field t x n) (Instr.field t x' n) (ai c):=by refine ab.bind (ab.cL (aE t)) λl d b g j=>?_;subst j;cases b with|struct e=>simp only[];(cases k:e[n]? with|none=>exact ab.stuck|some f=>exact ab.bind (ab.asAgg (h.mono g)) λ_ _ _ _ i=>ab.part _ _ i)|_=>exact ab.stuck
theorem EJ(t:XI)(h:ai c r x x')(k:ai c r y y'):ab P c r (Instr.index t x y) (Instr.index t x' y') (ai c):=by refine ab.bind (ab.asIntOf k) λB z v j q=>?_;subst q;obtain⟨w,i⟩:=v;refine ab.bind (ab.cL (aE t)) λC d g l o=>?_;subst o;have h:=(h.mono j).mono l;cases h with|agg s e=>(cases g with|array u f=>refine ab.ite (λ_=>?_) λ_=>ab.boundsPanic;exact ab.bind (ab.cL (bA f)) λD m A n p=>by subst p;exact ab.part _ _ ((aj.mk s e).mono n)|_=>exact ab.stuck)|string s=>(cases g with|string=>simp only[];(cases(if 0<=i then s[i.toNat]? else Xv)with|none=>exact ab.boundsPanic|some b=>exact ab.pure (.int _ _))|_=>exact ab.stuck)|_=>cases g<;>exact ab.stuck
theorem yy(t:XI)(h:ai c r x x')(k:ai c r y y'):ab P c r (Instr.indexAt t x y) (Instr.indexAt t x' y') (ai c):=by unfold Instr.indexAt;refine ab.bind (ab.asIntOf k) λY z V N T=>?_;subst T;obtain⟨X,i⟩:=V;refine ab.bind (ab.cL (aE t)) λZ d M O R=>?_;subst R;have h:=(h.mono N).mono O;let F(U:bB)(a b:Option Yc×Nat×XI):Prop:=ai c U (.pointer a.1) (.pointer b.1)/\b.2=a.2;cases M with|array B f=>refine ab.bind (ab.sureAddr h) λr3 a I W v=>ab.bind (Q:=F) (ab.pure ⟨.ptr v,rfl⟩) λC a b s q=>?_;obtain⟨w,B,f⟩:=a;obtain⟨o,l⟩:=b;obtain⟨g,e⟩:=q;simp only at e g;subst e;refine ab.bind (ab.cL (x:=underlying t) (aE t)) λC u H s A=>?_;subst A;have g:=g.mono s;(cases g with|gf=>exact ab.boundsPanic|ptr v=>refine ab.ite (λ_=>?_) λ_=>?_;{exact ab.bind (ab.cL (bA f)) λL m J D E=>by subst E;exact ab.pure (.ptr ((v.mono D).add _))};exact ab.ite (λ_ _ _ _=>rfl) λ_=>ab.boundsPanic)|slice f=>(cases h with|gu n m=>refine ab.bind (Q:=F) (ab.pure ⟨.gf,rfl⟩) λC a b s q=>?_;obtain⟨w,B,f⟩:=a;obtain⟨o,l⟩:=b;obtain⟨g,e⟩:=q;simp only at e g;subst e;refine ab.bind (ab.cL (x:=underlying t) (aE t)) λC u H s A=>?_;subst A;have g:=g.mono s;(cases g with|gf=>exact ab.boundsPanic|ptr v=>refine ab.ite (λ_=>?_) λ_=>?_;{exact ab.bind (ab.cL (bA f)) λL m J D E=>by subst E;exact ab.pure (.ptr ((v.mono D).add _))};exact ab.ite (λ_ _ _ _=>rfl) λ_=>ab.boundsPanic)|slice n m v=>refine ab.bind (Q:=F) (ab.pure ⟨.ptr v,rfl⟩) λC a b s q=>?_;obtain⟨w,B,f⟩:=a;obtain⟨o,l⟩:=b;obtain⟨g,e⟩:=q;simp only at e g;subst e;refine ab.bind (ab.cL (x:=underlying t) (aE t)) λC u H s A=>?_;subst A;have g:=g.mono s;(cases g with|gf=>exact ab.boundsPanic|ptr v=>refine ab.ite (λ_=>?_) λ_=>?_;{exact ab.bind (ab.cL (bA f)) λL m J D E=>by subst E;exact ab.pure (.ptr ((v.mono D).add _))};exact ab.ite (λ_ _ _ _=>rfl) λ_=>ab.boundsPanic)|cE a I=>refine ab.bind (Q:=λ_ p K=>p=(Xp a,0,f)/\K=(Xp I,0,f)) (ab.pure ⟨rfl,rfl⟩) λC p K s S=>?_;obtain⟨rfl,rfl⟩:=S;refine ab.bind (ab.cL (x:=underlying t) (aE t)) λC u H s A=>?_;subst A;refine ab.ite (λG=>?_) λ_=>ab.ite (λ_ _ _ _=>rfl) λ_=>ab.boundsPanic;simp at G;omega|_=>exactλ_ _ _=>rfl)|_=>cases h<;>exactλ_ _ _=>rfl
theorem xr{fn:Fn}(b:Hu c fn=Xq){x x' y y':Array Xu}(h:aj c r x x')(k:aj c r y y'):ab P c r (Instr.makeFunc fn x y) (Instr.makeFunc fn x' y') (ai c):=ab.pure (.func b h.size h.el k.size k.el)
theorem ab.sliceBound(y:Nat)(e:BoundsCode)(h:ai c r x x'):ab P c r (Instr.sliceBound x y e) (Instr.sliceBound x' y e) λ_ a b=>b=a/\a<=y:=by refine ab.bind (ab.asIntOf h) λj z k g f=>?_;subst f;exact ab.ite (λi=>ab.pure ⟨rfl,by omega⟩) λ_=>ab.boundsPanic
def j9(c:dx)(r:bB):Option Xu->Option Xu->Prop
 |none,Xv=>True
 |some x,Xp y=>ai c r x y
 |_,_=>False
theorem j9.mono{r r':bB}(h:r.le r'):∀{x y:Option Xu},j9 c r x y->j9 c r' x y|none,Xv,_=>trivial|some _,Xp _,k=>ai.mono h k
theorem ab.sliceBounds(f:Bool)(k j:Nat){mx:Option Xu}(i:j9 c r lo lo')(m:j9 c r hi hi')(s:j9 c r mx mx'):ab P c r (Instr.sliceBounds f k j lo hi mx) (Instr.sliceBounds f k j lo' hi' mx') λ_ a b=>b=a/\(k=0->j=0->a=(0,0,0)):=by match mx,mx',s with|none,Xv,_=>refine ab.bind (Q:=λ_ a b=>b=a/\a<=_) (ab.pure ⟨rfl,UB _⟩) λy z h l e=>?_;obtain⟨rfl,x⟩:=e;(match hi,hi',m with|none,Xv,_=>refine ab.bind (Q:=λ_ a b=>b=a/\a<=_) (ab.pure ⟨rfl,UB _⟩) λv z h o e=>?_;obtain⟨rfl,u⟩:=e;(match lo,lo',i with|none,Xv,_=>refine ab.bind (Q:=λ_ a b=>b=a/\a<=_) (ab.pure ⟨rfl,UB _⟩) λq z h p e=>?_;obtain⟨rfl,n⟩:=e;exact ab.pure ⟨rfl,λa b=>by simp_all⟩|some a,Xp t,i=>refine ab.bind (ab.sliceBound _ _ (ai.mono o (ai.mono l i))) λq z h p e=>?_;obtain⟨rfl,n⟩:=e;exact ab.pure ⟨rfl,λa b=>by simp_all⟩)|some b,Xp w,m=>refine ab.bind (ab.sliceBound _ _ (ai.mono l m)) λv z h o e=>?_;obtain⟨rfl,u⟩:=e;match lo,lo',i with|none,Xv,_=>refine ab.bind (Q:=λ_ a b=>b=a/\a<=_) (ab.pure ⟨rfl,UB _⟩) λq z h p e=>?_;obtain⟨rfl,n⟩:=e;exact ab.pure ⟨rfl,λa b=>by simp_all⟩|some a,Xp t,i=>refine ab.bind (ab.sliceBound _ _ (ai.mono o (ai.mono l i))) λq z h p e=>?_;obtain⟨rfl,n⟩:=e;exact ab.pure ⟨rfl,λa b=>by simp_all⟩)|some d,Xp A,s=>refine ab.bind (ab.sliceBound _ _ s) λy z h l e=>?_;obtain⟨rfl,x⟩:=e;match hi,hi',m with|none,Xv,_=>exactλ_ _ _=>rfl|some b,Xp w,m=>refine ab.bind (ab.sliceBound _ _ (ai.mono l m)) λv z h o e=>?_;obtain⟨rfl,u⟩:=e;match lo,lo',i with|none,Xv,_=>refine ab.bind (Q:=λ_ a b=>b=a/\a<=_) (ab.pure ⟨rfl,UB _⟩) λq z h p e=>?_;obtain⟨rfl,n⟩:=e;exact ab.pure ⟨rfl,λa b=>by simp_all⟩|some a,Xp t,i=>refine ab.bind (ab.sliceBound _ _ (ai.mono o (ai.mono l i))) λq z h p e=>?_;obtain⟨rfl,n⟩:=e;exact ab.pure ⟨rfl,λa b=>by simp_all⟩
theorem Dj(t:XI){mx:Option Xu}(h:ai c r x x')(k:j9 c r lo lo')(o:j9 c r hi hi')(p:j9 c r mx mx'):ab P c r (Instr.slice t x lo hi mx) (Instr.slice t x' lo' hi' mx') (ai c):=by unfold Instr.slice;refine ab.bind (ab.cL (aE t)) λK d y v A=>?_;subst A;have h:=h.mono v;have k:=k.mono v;have o:=o.mono v;have p:=p.mono v;(have J:mx'.isSome=mx.isSome:=by match mx,mx',p with|none,Xv,_=>rfl|some _,Xp _,_=>rfl);cases y with|string=>(cases h with|string s=>simp only[J];refine ab.ite (λ_ _ _ _=>rfl) λ_=>?_;exact ab.bind (ab.sliceBounds _ _ _ k o (show j9 c K Xv Xv from trivial)) λ_ _ _ _ e=>by obtain⟨rfl,_⟩:=e;exact ab.pure (.string _)|_=>exact ab.stuck)|slice b=>(cases h with|gu n m=>refine ab.bind (ab.sliceBounds _ _ _ k o p) λC z u j e=>?_;obtain⟨rfl,_⟩:=e;refine ab.bind (ab.cL (bA b)) λD q B i e=>?_;subst e;refine ab.pure ?_;split<;>exact .gu _ _|slice n m g=>refine ab.bind (ab.sliceBounds _ _ _ k o p) λC z u j e=>?_;obtain⟨rfl,_⟩:=e;refine ab.bind (ab.cL (bA b)) λD q B i e=>?_;subst e;refine ab.pure ?_;have g:=(g.mono j).mono i;split;{exact .slice _ _ g};exact .slice _ _ (g.add _)|cE a G=>refine ab.bind (ab.sliceBounds _ _ _ k o p) λC z u j e=>?_;obtain⟨rfl,e⟩:=e;obtain rfl:=e rfl rfl;refine ab.bind (ab.cL (bA b)) λD q B i e=>?_;subst e;refine ab.pure ?_;split<;>exact .cE _ _|_=>exact ab.stuck)|pointer w=>refine ab.bind (ab.asAddr h) λC a G j g=>?_;refine ab.bind (ab.cL (aE w)) λD d y i A=>?_;subst A;(cases y with|array n b=>refine ab.bind (ab.sliceBounds _ _ _ ((k.mono j).mono i) ((o.mono j).mono i) ((p.mono j).mono i)) λL z u H e=>?_;obtain⟨rfl,_⟩:=e;refine ab.bind (ab.cL (bA b)) λM q B I e=>?_;obtain⟨rfl,_⟩:=e;refine ab.pure ?_;have g:=((g.mono i).mono H).mono I;split;{exact .slice _ _ g};exact .slice _ _ (g.add _)|_=>exact ab.stuck)|_=>cases h<;>exact ab.stuck
theorem xS(t:XI){mx:Option Xu}(h:ai c r x x')(m:j9 c r lo lo')(o:j9 c r hi hi')(p:j9 c r mx mx'):ab P c r (Instr.sliceAt t x lo hi mx) (Instr.sliceAt t x' lo' hi' mx') (ai c):=by refine ab.bind (ab.cL (aE t)) λE d s f w=>?_;subst w;have k:=Dj (P:=P) t (h.mono f) (m.mono f) (o.mono f) (p.mono f);cases s with|array n g=>refine ab.bind (ab.sureAddr (h.mono f)) λF a A j i=>?_;refine ab.bind (ab.sliceBounds _ _ _ ((m.mono f).mono j) ((o.mono f).mono j) ((p.mono f).mono j)) λG z y u e=>?_;obtain⟨rfl,_⟩:=e;refine ab.bind (ab.cL (bA g)) λH q D v e=>?_;subst e;refine ab.pure ?_;have i:=(i.mono u).mono v;split;{exact .slice _ _ i};exact .slice _ _ (i.add _)|_=>exact k
end
section
variable{c:dx}{r:bB}
def jv(P:XN)(t:XI):Bool:=match(P.info? t).bind (·.zero)with|some z=>jF 100 z|none=>Xq
theorem vb(h:jv P t=Xq):∀z,(P.info? t).bind (·.zero)=Xp z->Flat z:=λz a=>by unfold jv at h;rw[a]at h;exact il h
theorem Flat.vs(h:Flat z)(c:dx)(r:bB):aj c r z.cells z.cells:=aj.cells (h c r)
theorem ab.zero(h:jv P t=Xq):ab P c r (zeroValue t) (zeroValue t) λ_ a b=>b=a/\Flat a:=ab.eV (tv t (vb h))
theorem AQ(h:jv P t=Xq):ab P c r (Instr.alloc t Xq (.tuple #[])) (Instr.alloc t Xq (.tuple #[])) (ai c):=DV t (vb h)
structure A8(c:dx)(r:bB)(x x':Array (Nat×Xu)):Prop where
 idx:x.toList.map (·.1)=x'.toList.map (·.1)
 val:aj c r (x.toList.map (·.2)).toArray (x'.toList.map (·.2)).toArray
theorem A8.mono{r r':bB}(h:r.le r'){x x':Array (Nat×Xu)}(k:A8 c r x x'):A8 c r' x x':=⟨k.idx,k.val.mono h⟩
theorem lI(a:Nat->Option (Nat×Nat)){x x':Array (Nat×Xu)}(h:A8 c r x x'){z z':Array Xu}(e:aj c r z z'):Instr.fill a z x.toList=Option.none\/∃y d,Instr.fill a z x.toList=Xp y/\Instr.fill a z' x'.toList=Xp d/\aj c r y d:=by have:=x8 a x.toList x'.toList e h.idx h.val;grind
theorem EI(l:List ε)(f:ε->X0 ζ)(h:∀x∈l,lD P (f x)):lD P (l.mapM f):=by induction l with|nil=>trivial|cons x l b=>rw[List.mapM_cons];exact(h x Θ).bind λ_=>(b λy a=>h y (by simp[a])).bind λ_=>trivial
theorem AI(l:Array ε)(f:ε->X0 ζ)(h:∀x∈l,lD P (f x)):lD P (l.mapM f):=by rw[Array.mapM_eq_mapM_toList];exact lD.bind (EI _ _ λx a=>h x (by simp_all)) λ_=>trivial
theorem DZ(B:jv P t=Xq){x x':Array (Nat×Xu)}(h:A8 c r x x'):ab P c r (Instr.build t x) (Instr.build t x') (ai c):=by unfold Instr.build;refine ab.bind (ab.zero B) λD z F q g=>?_;obtain⟨rfl,g⟩:=g;refine ab.bind (ab.cL (aE t)) λE d v s A=>?_;subst A;cases v with|struct w=>refine ab.bind (ab.cL (AI w _ λf _=>(bA f.type).bind λ_=>trivial)) λp u j m o=>?_;subst o;rcases lI (j[·]?) (((h.mono q).mono s).mono m) (g.vs c p)with e|⟨y,C,e,l,k⟩;{simp only[e];exact ab.stuck};simp only[e,l];exact ab.pure (.tr k)|array n b=>refine ab.bind (ab.cL (bA b)) λp u j m o=>?_;subst o;rcases lI (λi=>Xp (i*j,j)) (((h.mono q).mono s).mono m) (g.vs c p)with e|⟨y,C,e,l,k⟩;{simp only[e];exact ab.stuck};simp only[e,l];exact ab.pure (.tr k)|_=>exact ab.stuck
theorem aj.range{x x':Array Xu}(h:aj c r x x')(n:Nat):aj c r ((Array.range n).map (x[·%x.size]!)) ((Array.range n).map (x'[·%x'.size]!)):=by refine aj.map _ _ _ λi _=>?_;rw[<-h.size];rw[XG,XG];exact h.getD _ (by exact .bool WN)
theorem sj(E:∀e,P.underlying t=Xp (.slice e)->jv P e=Xq){x x':Array (Nat×Xu)}(h:A8 c r x x'):ab P c r (Instr.buildSlice t n x) (Instr.buildSlice t n x') (ai c):=by unfold Instr.buildSlice;refine ab.bind (ab.eV (aY t)) λH d B u s=>?_;obtain⟨rfl,s⟩:=s;cases B with|slice l=>refine ab.bind (ab.cL (bA l)) λI m j v D=>?_;subst D;refine ab.ite (λ_ _ _ _=>rfl) λ_=>?_;refine ab.ite (λ_=>?_) λ_=>?_;{refine ab.bind (Q:=λ_ a b=>b=a/\∀r,aj c r a a) (ab.pure ⟨rfl,λ_=>.empty⟩) λw z A p g=>?_;obtain⟨rfl,g⟩:=g;rcases lI (λi=>Xp (i*j,j)) (((h.mono u).mono v).mono p) (aj.range (g w) (n*j))with e|⟨y,G,e,o,k⟩;{simp only[e];exact ab.stuck};simp only[e,o];exact ab.bind (ab.newRow k) λ_ _ _ _ q=>ab.pure (.slice _ _ q)};refine ab.bind (ab.zero (E _ s)) λw z A p g=>?_;obtain⟨rfl,g⟩:=g;refine ab.bind (Q:=λ_ a b=>b=a/\∀r,aj c r a a) (ab.pure ⟨rfl,λr=>g.vs c r⟩) λF z A C g=>?_;obtain⟨rfl,g⟩:=g;rcases lI (λi=>Xp (i*j,j)) (((h.mono u).mono v).mono (bB.le_trans p C)) (aj.range (g F) (n*j))with e|⟨y,G,e,o,k⟩;{simp only[e];exact ab.stuck};simp only[e,o];exact ab.bind (ab.newRow k) λ_ _ _ _ q=>ab.pure (.slice _ _ q)|_=>exact ab.stuck
theorem yX:ab P c r (Instr.makeMap t Xv) (Instr.makeMap t Xv) (ai c):=ab.bind (ab.newObj (.map 0 rfl λi e b h=>by simp at h)) λ_ _ _ _ h=>ab.pure (.map h.1)
theorem ab.mQ{f:α->X0 β}{y:X0 γ}{Q:bB->β->γ->Prop}:ab P c r (Go.runtimePanic e>>=f) y Q:=ab.never (gr (dM e))
theorem uq(C:∀e,P.underlying t=Xp (.slice e)->jv P e=Xq)(h:ai c r x x')(k:ai c r y y'):ab P c r (Instr.makeSlice t x y) (Instr.makeSlice t x' y') (ai c):=by unfold Instr.makeSlice;refine ab.bind (ab.eV (aY t)) λN d s o m=>?_;obtain⟨rfl,m⟩:=m;cases s with|slice j=>refine ab.bind (ab.asInt (h.mono o)) λO a E u l=>?_;subst l;refine ab.bind (ab.asInt ((k.mono o).mono u)) λR b F G w=>?_;subst w;refine ab.bind (ab.cL (dy j)) λS i L H A=>?_;subst A;simp only[];refine ab.ite (λ_=>?_) λ_=>?_;{refine ab.ite (λ_=>ab.mQ) λ_=>?_;refine ab.ite (λ_=>ab.mQ) λ_=>?_;exact ab.bind (ab.cL (iH _)) λ_ _ _ _ _=>ab.mQ};refine ab.bind (ab.cL (pJ _)) λT _ _ I _=>?_;refine ab.bind (ab.cL (bA j)) λU n M J B=>?_;subst B;refine ab.ite (λ_=>?_) λ_=>?_;{refine ab.bind (Q:=λ_ a b=>b=a/\∀r,aj c r a a) (ab.pure ⟨rfl,λ_=>.empty⟩) λp z q v g=>?_;obtain⟨rfl,g⟩:=g;exact ab.bind (ab.newRow (aj.range (g p) _)) λ_ _ _ _ l=>ab.pure (.slice _ _ l)};refine ab.bind (ab.zero (C _ m)) λp z q v g=>?_;obtain⟨rfl,g⟩:=g;refine ab.bind (Q:=λ_ a b=>b=a/\∀r,aj c r a a) (ab.pure ⟨rfl,λr=>g.vs c r⟩) λD z q K g=>?_;obtain⟨rfl,g⟩:=g;exact ab.bind (ab.newRow (aj.range (g D) _)) λ_ _ _ _ l=>ab.pure (.slice _ _ l)|_=>exact ab.stuck
end
section
variable{c:dx}{r:bB}
theorem Mk(ats:Array XI)(t:XI){x x':Array Xu}(h:aj c r x x'):ab P c r (XY.len_ ats t x) (XY.len_ ats t x') (ai c):=by unfold XY.len_;cases ats[0]? with|none=>exact ab.stuck|some s=>cases w:x[0]? with|none=>exact ab.stuck|some v=>obtain⟨D,e,k⟩:=h.get w;simp only[e];refine ab.bind (ab.cL (aE s)) λB d g i j=>?_;subst j;have k:=k.mono i;cases g with|string=>(cases k<;>first|exact ab.pure (.int _ _)|exact ab.stuck)|array n e=>exact ab.pure (.int _ _)|pointer f=>refine ab.bind (ab.cL (aE f)) λC u y z q=>?_;subst q;(cases y<;>first|exact ab.pure (.int _ _)|exact ab.stuck)|slice e=>(cases k<;>first|exact ab.pure (.int _ _)|exact ab.stuck)|map a b=>(cases k with|kO=>exact ab.pure (.int _ _)|map p=>refine ab.getObj p λo A _ m l=>?_;(cases m with|map k s _=>simp only[s];exact ab.pure (.int _ _)|cells _ _ _=>exact absurd rfl (l _ _ _)|_=>exact ab.stuck)|_=>exact ab.stuck)|chan a b=>cases k<;>exact ab.stuck|_=>exact ab.stuck
theorem ab.max2(h:ai c r x x')(k:ai c r y y'):ab P c r (XY.max2 x y) (XY.max2 x' y') (ai c):=by cases h with|int a b=>(cases k<;>first|exact ab.pure (.int _ _)|exact ab.stuck|exact ab.unsupported)|string a=>(cases k with|string b=>refine ab.bind (ab.flat (kC .geq a b)) λi u l f d=>?_;exact ab.bind (ab.asBool d) λj z m g e=>by subst e;exact ab.pure (.string _)|ptr _=>exact ab.unsupported|_=>exact ab.stuck)|ptr _=>exact ab.unsupported|_=>cases k<;>first|exact ab.stuck|exact ab.unsupported
theorem ab.min2(h:ai c r x x')(k:ai c r y y'):ab P c r (XY.min2 x y) (XY.min2 x' y') (ai c):=by cases h with|int a b=>(cases k<;>first|exact ab.pure (.int _ _)|exact ab.stuck|exact ab.unsupported)|string a=>(cases k with|string b=>refine ab.bind (ab.flat (kC .leq a b)) λi u l f d=>?_;exact ab.bind (ab.asBool d) λj z m g e=>by subst e;exact ab.pure (.string _)|ptr _=>exact ab.unsupported|_=>exact ab.stuck)|ptr _=>exact ab.unsupported|_=>cases k<;>first|exact ab.stuck|exact ab.unsupported
theorem ab.foldlM{f:Xu->Xu->X0 Xu}(g:∀{r:bB}{x x' y y':Xu},ai c r x x'->ai c r y y'->ab P c r (f x y) (f x' y') (ai c)):∀(l e:List Xu){r:bB}{x x':Xu},ai c r x x'->aj c r l.toArray e.toArray->ab P c r (l.foldlM f x) (e.foldlM f x') (ai c)|[],[],r,x,x',h,_=>ab.pure h|[],_::_,r,x,x',h,d=>by have:=d.size;grind|_::_,[],r,x,x',h,d=>by have:=d.size;grind|y::l,y'::e,r,x,x',h,d=>by rw[Xb,Xb];refine ab.bind (g h (d.el 0 y y' Θ Θ)) λn z o i k=>?_;exact ab.foldlM g l e k ((⟨by have:=d.size;simp_all,λj u m a b=>d.el (j+1) u m (by grind) (by grind)⟩:aj c r l.toArray e.toArray).mono i)
theorem JV(ats:Array XI)(t:XI){x x':Array Xu}(h:aj c r x x'):ab P c r (XY.max_ ats t x) (XY.max_ ats t x') (ai c):=by obtain⟨l⟩:=x;obtain⟨d⟩:=x';unfold XY.max_;match l,d,h with|[],[],_=>exact ab.stuck|[],_::_,h=>have:=h.size;grind|_::_,[],h=>have:=h.size;grind|y::l,f::d,h=>exact ab.foldlM ab.max2 l d (h.el 0 y f Θ Θ) ⟨by have:=h.size;simp_all,λj u e a b=>h.el (j+1) u e (by grind) (by grind)⟩
theorem L9(ats:Array XI)(t:XI){x x':Array Xu}(h:aj c r x x'):ab P c r (XY.min_ ats t x) (XY.min_ ats t x') (ai c):=by obtain⟨l⟩:=x;obtain⟨d⟩:=x';unfold XY.min_;match l,d,h with|[],[],_=>exact ab.stuck|[],_::_,h=>have:=h.size;grind|_::_,[],h=>have:=h.size;grind|y::l,f::d,h=>exact ab.foldlM ab.min2 l d (h.el 0 y f Θ Θ) ⟨by have:=h.size;simp_all,λj u e a b=>h.el (j+1) u e (by grind) (by grind)⟩
theorem ab.lenOf(h:ai c r x x'):ab P c r (XY.lenOf x) (XY.lenOf x') λ_ a b=>b=a/\∀q,x=.slice (Xp q) 0 0->a=0:=by cases h<;>first|exact ab.pure ⟨rfl,λq e=>by cases e;rfl⟩|exact ab.pure ⟨rfl,λq e=>by cases e⟩|exact ab.stuck
theorem ab.vJ(size:Nat)(h:ai c r x x'):ab P c r (XY.firstCells size 0 x) (XY.firstCells size 0 x') λ_ a b=>a=#[]/\b=#[]:=by unfold XY.firstCells;rw[Xc];cases h<;>first|exact ab.pure ⟨rfl,rfl⟩|exact ab.stuck|(refine ab.pure ⟨?_,?_⟩<;>simp)
theorem ab.firstCells(size n:Nat)(h:ai c r x x')(j:∀q,x=.slice (Xp q) 0 0->n=0):ab P c r (XY.firstCells size n x) (XY.firstCells size n x') (aj c):=by cases h with|gu _ _=>exact ab.pure .empty|cE a d=>obtain rfl:=j a rfl;exact(ab.vJ size (.cE a d)).mono λ_ x y _⟨e,f⟩=>by rw[e,f];exact .empty|slice _ _ g=>exact ab.loadCells g _|string s=>refine ab.pure ?_;refine⟨rfl,λi v k a b=>?_⟩;rw[a]at b;cases b;rw[VP]at a;obtain⟨z,_,rfl⟩:=UJ.1 a;exact .int _ _|_=>exact ab.stuck
theorem aj.zeroCells(h:Flat z)(n:Nat):aj c r (XY.zeroCells z.cells n) (XY.zeroCells z.cells n):=by unfold XY.zeroCells;exact aj.range (h.vs c r) _
end
section
variable{c:dx}{r:bB}
theorem ab.GJ{x:X0 α}{f:α->X0 β}{y:X0 γ}{Q:bB->β->γ->Prop}(h:kT P x):ab P c r (x>>=f) y Q:=ab.never (gr h)
theorem lP(a:Yc)(n:Nat):ga P (XY.holdsCells a n):=(AY _).bind λs=>by cases s<;>exact dz _
theorem uI(size sl n:Nat)(base:Option Yc)(x:Xu):ga P (XY.mayShare size sl n base x):=by(have d:∀b:Bool,ga P (if(!b)=Xq then Pure.pure Xq else match x with|.slice (Xp b) _ _=>(do Pure.pure (!(<-XY.holdsCells b (n*size))||base.any (·.block==b.block)))|_=>Pure.pure WN):=λb=>by split;{exact dz _};split;{exact(lP _ _).bind λ_=>dz _};exact dz _);unfold XY.mayShare;cases base with|none=>grind|some a=>exact ga.bind (lP _ _) λu=>ga.bind (zY _) λv=>ga.bind (dz _) λb=>d b
theorem An{ats:Array XI}(ht:∀s e,ats[0]?=Xp s->P.underlying s=Xp (.slice e)->jv P e=Xq)(hn:∀s k,ats[1]?=Xp s->P.underlying s≠Xp (.int k)){x x':Array Xu}(h:aj c r x x'):ab P c r (XY.append_ ats t x) (XY.append_ ats t x') (ai c):=by unfold XY.append_;cases hs:ats[0]? with|none=>exact ab.stuck|some s=>cases hx:x[0]? with|none=>exact ab.stuck|some v=>obtain⟨v',X,kv⟩:=h.get hx;simp only[X];cases hy:x[1]? with|none=>exact ab.stuck|some u=>obtain⟨u',W,A⟩:=h.get hy;simp only[W];refine ab.bind (ab.eV (aY s)) λR d M l H=>?_;obtain⟨rfl,H⟩:=H;cases M with|slice f=>have hz:=ht s f hs H;have O:=kv.mono l;have kx:=O;cases O;(case gu|slice|cE=>refine ab.bind (ab.cL (bA f)) λr2 T K B e=>?_;subst e;cases Z:ats[1]?;(case' some xt=>refine ab.bind (ab.eV (aY xt)) λr0 d M Y w=>?_;obtain⟨rfl,w⟩:=w;replace B:=bB.le_trans B Y);all_goals refine ab.bind (Q:=λ_ a b=>b=a/\a=WN) (ab.pure ⟨rfl,by first|rfl|grind⟩) λr3 zs zs' N e=>?_;obtain⟨rfl,rfl⟩:=e;refine ab.bind (ab.lenOf ((A.mono l).mono (bB.le_trans B N))) λr4 n n' h4 e=>?_;obtain⟨rfl,E⟩:=e;have j:R.le r4:=bB.le_trans (bB.le_trans B N) h4;refine ab.ite (λI=>?_) λ_=>?_;{first|exact ab.bind (ab.firstCells _ _ ((A.mono l).mono j) E) λJ z V m g=>ab.pure (.gu _ _)|exact ab.bind (ab.firstCells _ _ ((A.mono l).mono j) E) λJ z V m g=>ab.bind (ab.storeCells 0 ((dw.mono (bB.le_trans j m) (by assumption)).add _) (by omega)) λS _ _ C _=>ab.pure (.slice _ _ (dw.mono (bB.le_trans j (bB.le_trans m C)) (by assumption)))|(obtain rfl:n'=0:=by omega);refine ab.bind (ab.vJ _ ((A.mono l).mono j)) λJ z V m g=>?_;obtain⟨rfl,rfl⟩:=g;exact ab.bind (Q:=λ_ _ _=>True) (ab.pure trivial) λS _ _ C _=>ab.pure (.cE _ _)};·refine ab.bind (ab.cL (dy f)) λJ i i' m e=>?_;subst e;refine ab.ite (λ_=>ab.mQ) λ_=>?_;refine ab.bind (ab.cL (dy f)) λS i2 i2' C e=>?_;subst e;refine ab.ite (λ_=>ab.GJ (by simp only[U0,if_false];exact dE (uI _ _ _ _ _) λ_=>by split<;>first|exact eS|exact dE (λ_ _ _ e=>by cases e) λ_=>eS)) λ_=>?_;refine ab.bind (ab.cL (iH _)) λr7 nc nc' h7 e=>?_;subst e;refine ab.bind (ab.cL (dy f)) λr8 i3 i3' h8 e=>?_;subst e;refine ab.bind (ab.cL (pJ _)) λr9 _ _ h9 _=>?_;have y:R.le r9:=bB.le_trans j (bB.le_trans m (bB.le_trans C (bB.le_trans h7 (bB.le_trans h8 h9))));refine ab.bind (ab.firstCells _ _ (kx.mono y) (λq e=>by first|rfl|(cases e;done)|grind)) λr10 o o' F ho=>?_;refine ab.bind (ab.firstCells _ _ ((A.mono l).mono (bB.le_trans y F)) E) λr11 q q' G hq=>?_;refine ab.bind (ab.zero hz) λr12 zz zz' p g=>?_;obtain⟨rfl,g⟩:=g;exact ab.bind (ab.newRow ((((ho.mono G).mono p).append (hq.mono p)).append (aj.zeroCells g _))) λ_ _ _ _ ha=>ab.pure (.slice _ _ ha));all_goals exact ab.stuck|_=>exact ab.stuck
theorem ab.checkKey(b g:Bool)(f:fg P t=Xq)(n:Nat):ab P c r (Instr.checkKey b (n+1) t x) (Instr.checkKey g (n+1) t x') λ_ _ _=>True:=by refine ab.bind (ab.eV (aY t)) λj d h i e=>?_;obtain⟨rfl,e⟩:=e;unfold fg at f;rw[e]at f;cases h with|int k=>exact ab.pure trivial|string=>exact ab.pure trivial|bool=>exact ab.pure trivial|_=>simp at f
theorem xN(d:TypeDesc)(h:ai c r x x')(k:ai c r y y'):Instr.sameNow d x' y'=Instr.sameNow d x y:=by cases h<;>cases k<;>first|rfl|(cases d<;>rfl)
def lQ(c:dx)(r:bB)(x x':Array Yj):Prop:=x.size=x'.size/\∀(i:Nat)(e e':Yj),x[i]?=Xp e->x'[i]?=Xp e'->II c r e e'
theorem lQ.mono{r r':bB}(h:r.le r'){x x':Array Yj}(k:lQ c r x x'):lQ c r' x x':=⟨k.1,λi e d a b=>(k.2 i e d a b).mono h⟩
def LW(c:dx)(r:bB):Option (Nat×Xu)->Option (Nat×Xu)->Prop
 |none,Xv=>True
 |some (i,v),Xp (i',v')=>i'=i/\ai c r v v'
 |_,_=>False
theorem qT(d:TypeDesc)(h:ai c r x x'):∀(l m:List Yj)(i:Nat),lQ c r l.toArray m.toArray->
 match Instr.findNow d x l i with|some z=>∃p,Instr.findNow d x' m i=Xp p/\LW c r z p|none=>Instr.findNow d x' m i=Xv
 |[],[],i,_=>⟨Xv,rfl,trivial⟩
 |[],_::_,_,k=>by have:=k.1;grind
 |_::_,[],_,k=>by have:=k.1;grind
 |e::l,q::m,i,k=>by
   have o:=k.2 0 e q Θ Θ
   have n:lQ c r l.toArray m.toArray:=⟨by have:=k.1;simp_all,λj u s a b=>k.2 (j+1) u s (by grind) (by grind)⟩
   unfold Instr.findNow
   rw[xN d h o.key]
   cases Instr.sameNow d x e.key with
   |none=>rfl
   |some b=>
     cases b with
     |true=>exact⟨_,rfl,rfl,o.val⟩
     |false=>exact qT d h l m (i+1) n
theorem ab.findAsking(n:Fits P c)(p:fg P t=Xq):∀(l g:List Yj)(i:Nat){r:bB}{x x':Xu},ai c r x x'->lQ c r l.toArray g.toArray->ab P c r (Instr.findAsking t x l i) (Instr.findAsking t x' g i) (LW c)|[],[],i,r,x,x',h,_=>ab.pure trivial|[],_::_,_,r,x,x',h,f=>by have:=f.1;grind|_::_,[],_,r,x,x',h,f=>by have:=f.1;grind|e::l,q::g,i,r,x,x',h,f=>by have o:=f.2 0 e q Θ Θ;have m:lQ c r l.toArray g.toArray:=⟨by have:=f.1;simp_all,λj u v a b=>f.2 (j+1) u v (by grind) (by grind)⟩;refine ab.bind (ab.equal n p h o.key) λy b w k s=>?_;subst s;exact ab.ite (λ_=>ab.pure ⟨rfl,o.val.mono k⟩) λ_=>ab.findAsking n p l g (i+1) (h.mono k) (m.mono k)
theorem ab.findKey(j:Fits P c)(n:fg P t=Xq){l l':List Yj}(h:ai c r x x')(g:lQ c r l.toArray l'.toArray):ab P c r (Instr.findKey t x l) (Instr.findKey t x' l') (LW c):=by refine ab.bind (ab.cL (aE t)) λo d f b m=>?_;subst m;have:=qT f (h.mono b) l l' 0 (g.mono b);cases e:Instr.findNow f x l 0 with|none=>rw[e]at this;simp only[this];exact ab.findAsking j n l l' 0 (h.mono b) (g.mono b)|some z=>rw[e]at this;obtain⟨p,i,k⟩:=this;simp only[i];exact ab.pure k
theorem Bp{ok:Bool}(O:Fits P c)(Z:∀k e,P.underlying t=Xp (.map k e)->fg P k=Xq/\jv P e=Xq)(h:ai c r x x')(k:ai c r y y'):ab P c r (Instr.lookup t x y ok) (Instr.lookup t x' y' ok) (ai c):=by refine ab.bind (ab.eV (aY t)) λr1 d S F I=>?_;obtain⟨rfl,I⟩:=I;cases S with|map J q=>obtain⟨C,R⟩:=Z J q I;let B(A:bB)(a b:Xu×Bool):Prop:=ai c A a.1 b.1/\b.2=a.2;(cases h.mono F with|kO=>refine ab.bind (Q:=λA a b=>lQ c A a b) (ab.pure ⟨rfl,λi e e' a=>by simp at a⟩) λr2 T E G m=>?_;refine ab.bind (ab.checkKey _ _ C 9999) λr3 _ _ w _=>?_;refine ab.bind (ab.findKey O C (k.mono (bB.le_trans F (bB.le_trans G w))) (by simpa using m.mono w)) λr4 z N U p=>?_;(match z,N,p with|none,Xv,_=>refine ab.bind (ab.zero R) λK u u' V n=>?_;obtain⟨rfl,n⟩:=n;refine ab.bind (Q:=B) (ab.pure ⟨n c K,rfl⟩) λL a b H g=>?_;obtain⟨v,o⟩:=a;obtain⟨j,f⟩:=g;subst f;refine ab.pure ?_;split;{exact .kW (aj.push (aj.single j) (.bool _))};{exact j}|some (_,_),Xp (_,_),p=>refine ab.bind (Q:=B) (ab.pure ⟨p.2,rfl⟩) λL a b H g=>?_;obtain⟨v,o⟩:=a;obtain⟨j,f⟩:=g;subst f;refine ab.pure ?_;split;{exact .kW (aj.push (aj.single j) (.bool _))};·exact j)|map Y=>refine ab.getObj Y λo D _ X W=>?_;(cases X with|map kk s e=>refine ab.bind (Q:=λA a b=>lQ c A a b) (ab.pure ⟨s,e⟩) λr2 T E G m=>?_;refine ab.bind (ab.checkKey _ _ C 9999) λr3 _ _ w _=>?_;refine ab.bind (ab.findKey O C (k.mono (bB.le_trans F (bB.le_trans G w))) (by simpa using m.mono w)) λr4 z N U p=>?_;(match z,N,p with|none,Xv,_=>refine ab.bind (ab.zero R) λK u u' V n=>?_;obtain⟨rfl,n⟩:=n;refine ab.bind (Q:=B) (ab.pure ⟨n c K,rfl⟩) λL a b H g=>?_;obtain⟨v,o⟩:=a;obtain⟨j,f⟩:=g;subst f;refine ab.pure ?_;split;{exact .kW (aj.push (aj.single j) (.bool _))};{exact j}|some (_,_),Xp (_,_),p=>refine ab.bind (Q:=B) (ab.pure ⟨p.2,rfl⟩) λL a b H g=>?_;obtain⟨v,o⟩:=a;obtain⟨j,f⟩:=g;subst f;refine ab.pure ?_;split;{exact .kW (aj.push (aj.single j) (.bool _))};·exact j)|cells _ _ _=>exact absurd rfl (W _ _ _)|_=>exactλ_ _ _=>rfl)|_=>exactλ_ _ _=>rfl)|_=>exact ab.stuck
end
section
variable{c:dx}{r:bB}
def M7:Xu->Bool
 |.string _|.bool _=>Xq
 |_=>WN
def BE(P:XN)(t:XI):Bool:=match P.underlying t with|some .string|some .bool=>Xq|_=>WN
theorem BI(h:BE P t=Xq):fg P t=Xq:=by unfold BE at h;unfold fg;grind
theorem xC(n:Nat)(h:ai c r x x')(k:ai c r y y')(b:M7 y=Xq):Instr.sameBits n x' y'=Instr.sameBits n x y:=by cases k<;>simp[M7]at b<;>cases h<;>cases n<;>rfl
theorem ab.FO(b:BE P t=Xq)(i:M7 x=WN)(l h:List Yj)(k:lQ c r l.toArray h.toArray):ab P c r (Instr.findKey t x l) (Instr.findKey t x' h) λ_ u n=>u=Xv/\n=Xv:=by unfold BE at b;cases g:P.underlying t with|none=>rw[g]at b;simp at b|some d=>rw[g]at b;unfold Instr.findKey;refine ab.bind (ab.eV (aY t)) λq o j p f=>?_;obtain⟨rfl,f⟩:=f;rw[g]at f;cases f;cases l with|nil=>(have:h=[]:=by have:=k.1;grind);subst this;exact ab.pure ⟨rfl,rfl⟩|cons e l=>(have m:Instr.findNow d x (e::l) 0=Xv:=by(have:Instr.sameNow d x e.key=Xv:=by cases d<;>simp at b<;>cases x<;>simp[M7]at i<;>rfl);simp[Instr.findNow,this]);simp only[m];refine ab.never ?_;unfold Instr.findAsking;refine gr ?_;show kT P (Op.equalIn (9999+1) t x e.key);unfold Op.equalIn;intro w;rw[X0.run_bind,j7 g w];cases d<;>simp at b<;>cases x<;>simp[M7]at i<;>exact⟨_,_,rfl,rfl⟩
theorem uL(hc:Fits P c)(ht:∀k e,P.underlying t=Xp (.map k e)->BE P k=Xq){z':Xu}(h:ai c r x x')(k:ai c r y y')(l:ai c r z z'):ab P c r (Instr.mapUpdate t x y z) (Instr.mapUpdate t x' y' z') λ_ _ _=>True:=by unfold Instr.mapUpdate;refine ab.bind (ab.eV (aY t)) λr1 d d' R S=>?_;obtain⟨rfl,S⟩:=S;cases d' with|map A E=>have G:=ht A E S;have hk:=BI G;(cases h.mono R with|kO=>exact ab.runtimePanic|map I=>refine ab.getObj I λo o' ns ho X=>?_;(cases ho with|map kk s e=>rename_i F m;have g:lQ c r1 F m:=⟨s,e⟩;refine ab.bind (ab.checkKey _ _ hk 9999) λr2 _ _ C _=>?_;have B:=(k.mono R).mono C;(have w:ab P c r2 (Instr.findKey A y F.toList) (Instr.findKey A y' m.toList) λZ u M=>LW c Z u M/\(M7 y=WN->u=Xv):=by by_cases hy:M7 y=WN;{refine(ab.FO G hy _ _ (by simpa using g.mono C)).mono λZ u M _ h=>?_;obtain⟨rfl,rfl⟩:=h;exact⟨trivial,λ_=>rfl⟩};exact(ab.findKey hc hk B (by simpa using g.mono C)).mono λZ u M _ h=>⟨h,λe=>absurd e hy⟩);refine ab.bind w λr3 u M N J=>?_;obtain⟨J,K⟩:=J;have B:=B.mono N;have lr:=((l.mono R).mono C).mono N;have g:=(g.mono C).mono N;have I:=N _ _ (C _ _ I);(match u,M,J,K with|none,Xv,_,_=>refine ab.setObj I ns (.map (kk+1) (by grind) λi e O a b=>?_) rfl;rw[Vb]at a b;rw[<-g.1]at b;split at a;{cases a;rw[if_pos ‹_›]at b;cases b;exact⟨B,lr,rfl⟩};{rw[if_neg ‹_›]at b;exact g.2 i e O a b}|some (i,_),Xp (v,_),J,K=>(have Y:M7 y=Xq:=by simp_all);obtain⟨W,_⟩:=J;subst W;(have p:ai c r3 (((F[v]?).map (·.key)).getD y) (((m[v]?).map (·.key)).getD y'):=by cases V:F[v]? with|none=>simp_all|some Q=>(have H:v<m.size:=by grind);have:=g.2 v Q m[v] V (UL H);rw[UL H];exact this.key);(have L:ab P c r3 (Instr.keyThatStays (((F[v]?).map (·.key)).getD y) y) (Instr.keyThatStays (((m[v]?).map (·.key)).getD y') y') (ai c):=by unfold Instr.keyThatStays;rw[xC 10000 p B Y];refine ab.ite (λ_=>ab.pure B) λ_=>?_;refine ab.bind (ab.cL (iH _)) λr4 n n' D X=>?_;subst X;refine ab.pure ?_;split;{exact B.mono D};exact p.mono D);refine ab.bind L λr4 q q' D hq=>?_;refine ab.setObj (D _ _ I) ns (.map kk (by grind) λj e O a b=>?_) rfl;rw[Vs]at a b;split at a;{rw[if_pos ‹_›]at b;obtain⟨Q,T,rfl⟩:=UJ.1 a;obtain⟨e1,U,rfl⟩:=UJ.1 b;exact⟨hq,lr.mono D,((g.2 j Q e1 T U).born)⟩};·rw[if_neg ‹_›]at b;exact(g.2 j e O a b).mono D)|cells _ _ _=>exact absurd rfl (X _ _ _)|_=>exactλ_ _ _=>rfl)|_=>exact ab.stuck)|_=>exact ab.stuck
theorem ES(k:P.underlying t=Xp .string)(h:ai c r x x'):ab P c r (Instr.range t x) (Instr.range t x') (ai c):=by unfold Instr.range;refine ab.bind (ab.eV (aY t)) λv d n i f=>?_;obtain⟨rfl,f⟩:=f;rw[k]at f;cases f;cases h.mono i with|string s=>exact ab.bind (Q:=λl a b=>mb c l a b) (ab.pure (.iter s 0)) λw o u p j=>ab.bind (ab.newObj j) λy b m q g=>ab.pure (.ptr ⟨g.1,rfl,rfl,VG g.2⟩)|_=>exactλ_ _ _=>rfl
theorem HT(h:ai c r x x'):ab P c r (Instr.next x Xq t) (Instr.next x' Xq t) (ai c):=by unfold Instr.next;cases h with|ptr m=>rename_i a l;obtain⟨b,v,k⟩:=a;obtain⟨w,e,i⟩:=l;obtain⟨g,f,j,-⟩:=m;simp only at g f j;subst f j;(cases e with|succ n=>exact ab.stuck|zero=>refine ab.getObj g λo z u f q=>?_;cases f with|iter s p=>refine ab.ite (λ_=>?_) λ_=>ab.pure (.kW (aj.single (.bool _)));refine ab.bind (ab.setObj g u (.iter s _) rfl) λA _ _ y _=>ab.pure (.kW ?_);exact((aj.single (.bool _)).push (.int _ _)).push (.int _ _)|cells _ _ _=>exact absurd rfl (q _ _ _)|_=>exact ab.stuck)|_=>exact ab.stuck
theorem pU:∀(l l':List Xu){r:bB},l.length=l'.length->(∀(i:Nat)(v v':Xu),l[i]?=Xp v->l'[i]?=Xp v'->ai c r v v')->∀s:ByteArray,ab P c r (forIn l s λc r=>(match c with|.int .u8 n=>Pure.pure (ForInStep.yield (r.push (UInt8.ofNat n.toNat)))|_=>(λ_:PUnit=>ForInStep.yield r)<$>stuck "bytesToString: byte expected" :X0 (ForInStep ByteArray))) (forIn l' s λc r=>(match c with|.int .u8 n=>Pure.pure (ForInStep.yield (r.push (UInt8.ofNat n.toNat)))|_=>(λ_:PUnit=>ForInStep.yield r)<$>stuck "bytesToString: byte expected" :X0 (ForInStep ByteArray))) λ_ x y=>x=y|[],[],_,_,_,s=>by rw[List.forIn_nil];exact ab.pure rfl|[],_::_,_,h,_,_=>by cases h|_::_,[],_,h,_,_=>by cases h|v::l,v'::l',r,h,hv,s=>by rw[List.forIn_cons,List.forIn_cons];have h0:ai c r v v':=hv 0 v v' rfl rfl;have hl:∀(i:Nat)(u u':Xu),l[i]?=Xp u->l'[i]?=Xp u'->ai c r u u':=λi u u' a b=>hv (i+1) u u' a b;refine ab.bind (Q:=λ_(x y:ForInStep ByteArray)=>x=y/\∃z,x=.yield z) ?_ λr1 x y hle e=>?_;{cases h0 with|int k n=>(cases k<;>first|exact ab.pure ⟨rfl,_,rfl⟩|exactλ_ _ _=>rfl)|_=>exactλ_ _ _=>rfl};obtain⟨rfl,z,rfl⟩:=e;exact pU l l' (by simpa using h) (λi u u' a b=>(hl i u u' a b).mono hle) z
theorem pF(h:ai c r x x'):ab P c r (Conv.bytesToString x) (Conv.bytesToString x') (ai c):=by(have key:∀{a a':Yc}{n:Nat}{r:bB},ab P c r (Go.loadCells a n) (Go.loadCells a' n) (aj c)->ab P c r (Conv.bytesToString (.slice (Xp a) n 0)) (Conv.bytesToString (.slice (Xp a') n 0)) (ai c):=λ{a a' n r}h=>by unfold Conv.bytesToString;refine ab.bind h λr1 y y' hle hy=>?_;(refine ab.bind (Q:=λ_ x y=>x=y) ?_ λr2 z z' _ e=>by subst e;exact ab.pure (.string _));have:=pU (P:=P) (c:=c) y.toList y'.toList (r:=r1) (by simpa using hy.size) (λi u u' a b=>hy.el i u u' (by simpa using a) (by simpa using b)) ByteArray.empty;simp only[Array.forIn_toList]at this;exact this);cases h with|gu n m=>exact ab.pure (.string _)|slice n m h=>exact key (ab.loadCells h n)|cE a a'=>exact key (n:=0) (ab.pure .empty)|_=>exact ab.stuck
def GO(P:XN)(s d:XI):Bool:=match P.underlying s,P.underlying d with|some (.int _),Xp (.int _)|some (.int _),Xp .string|some .string,Xp .string=>Xq|some (.slice e),Xp .string=>(match P.underlying e with|some (.int .u8)=>Xq|_=>WN)|_,_=>WN
theorem Dz{e0:XI}(h:P.underlying e0=Xp (.int .u8))(k:ai c r x x'):ab P c r (do match<-underlying e0 with|.int .u8=>Conv.bytesToString x|.int .i32=>Conv.runesToString x|_=>stuck "Convert: a slice of what to string?") (do match<-underlying e0 with|.int .u8=>Conv.bytesToString x'|.int .i32=>Conv.runesToString x'|_=>stuck "Convert: a slice of what to string?") (ai c):=by refine ab.bind (ab.eV (aY e0)) λo a i j e=>?_;obtain⟨rfl,e⟩:=e;rw[h]at e;cases e;exact pF (k.mono j)
theorem xP{s d:XI}(h:GO P s d=Xq)(k:ai c r x x'):ab P c r (convert s d x) (convert s d x') (ai c):=by unfold Go.convert;refine ab.bind (ab.eV (aY s)) λo a i j e=>?_;obtain⟨rfl,e⟩:=e;refine ab.bind (ab.eV (aY d)) λp b g l f=>?_;obtain⟨rfl,f⟩:=f;have k:=(k.mono j).mono l;unfold GO at h;rw[e,f]at h;cases i with|int q=>(cases g with|int n=>(cases k<;>first|exact ab.pure (.int _ _)|exact ab.unsupported)|string=>(cases k<;>first|exact ab.pure (.string _)|exact ab.unsupported)|_=>simp at h)|string=>(cases g with|string=>(cases k<;>first|exact ab.pure (.string _)|exact ab.unsupported)|_=>simp at h)|slice e0=>(cases g with|string=>(have hb:P.underlying e0=Xp (.int .u8):=by simp only at h;split at h;{assumption};cases h);have gen:=λ{y y'}(k:ai c p y y')=>Dz (P:=P) hb k;(cases k with|int k n=>exact ab.pure (.string _)|string s=>exact ab.pure (.string _)|bool b=>exact gen (.bool b)|gf=>exact gen .gf|ptr h=>exact gen (.ptr h)|gu n m=>exact gen (.gu n m)|slice n m h=>exact gen (.slice n m h)|cE a a'=>exact gen (.cE a a')|kO=>exact gen .kO|map h=>exact gen (.map h)|func h1 h2 h3 h4 h5=>exact gen (.func h1 h2 h3 h4 h5)|nilFunc=>exact gen .nilFunc|nilIface=>exact gen .nilIface|iface t h=>exact gen (.iface t h)|agg h1 h2=>exact gen (.agg h1 h2)|tuple h1 h2=>exact gen (.tuple h1 h2))|_=>simp at h)|_=>simp at h
end
section
variable{c:dx}{r:bB}
def bZ(c:dx)(gl:Nat->Bool):XR->Bool
 |.tmp _=>Xq
 |.const v=>jF 100 v
 |.global g=>gl g
 |.func f=>c.fns f
def yN(P:XN)(t:XI):Bool:=match P.underlying t with|some (.slice e)=>jv P e|_=>Xq
def OW(P:XN)(t:XI):Bool:=match P.underlying t with|some (.map k e)=>fg P k&&jv P e|_=>Xq
def Nq(P:XN)(t:XI):Bool:=match P.underlying t with|some (.map k _)=>BE P k|_=>Xq
def Al(P:XN)(s:XI)(n:Nat):Bool:=match P.underlying s with|some (.struct fs)=>(match fs[n]? with|some f=>P.cellsOf f.type !=0|none=>Xq)|_=>Xq
def CM(P:XN)(t:Option XI):Bool:=match t with|some s=>(match P.underlying s with|some (.int _)=>WN|_=>Xq)|none=>Xq
def O0(P:XN)(t:Option XI):Bool:=match t with|some s=>yN P s|none=>Xq
def isEq:BinOp->Bool
 |.eql|.neq=>Xq
 |_=>WN
def Hh(P:XN)(t:XI):Bool:=match P.underlying t with|some .string=>Xq|_=>WN
def Ba(P:XN)(c:dx)(gl:Nat->Bool)(k:Call):Bool:=
 k.args.all (bZ c gl)&&match k.callee with
 |.value f=>bZ c gl f
 |.builtin .len|.builtin .max|.builtin .min=>Xq
 |.builtin .append=>O0 P k.argTypes[0]?&&CM P k.argTypes[1]?
 |_=>WN
def Jc(P:XN):XR->Bool
 |.global g=>decide (g<P.globals.size)
 |_=>WN
def sG(P:XN)(c:dx)(gl:Nat->Bool)(o:Yk):Bool:=
 match o.op with
 |.load _ x=>bZ c gl x||Jc P x
 |.move x|.assign x|.box _ x|.nilCheck x|.unOp _ _ x|.field _ x _|.extract x _=>bZ c gl x
 |.pick a b d=>bZ c gl a&&bZ c gl b&&bZ c gl d
 |.alloc e=>jv P e
 |.build t ps=>jv P t&&ps.all λp=>bZ c gl p.2
 |.buildSlice t _ ps=>yN P t&&ps.all λp=>bZ c gl p.2
 |.store _ a x|.indexAddr _ a x|.index _ a x=>bZ c gl a&&bZ c gl x
 |.binOp op t x y _=>bZ c gl x&&bZ c gl y&&(!isEq op||fg P t)
 |.convert s d x=>GO P s d&&bZ c gl x
 |.makeFunc fn first captured=>Hu c fn&&first.all (bZ c gl)&&captured.all (bZ c gl)
 |.makeMap _ Xv=>Xq
 |.makeSlice t l k=>yN P t&&bZ c gl l&&bZ c gl k
 |.slice _ x lo hi mx=>bZ c gl x&&lo.all (bZ c gl)&&hi.all (bZ c gl)&&mx.all (bZ c gl)
 |.fieldAddr s x n=>Al P s n&&bZ c gl x
 |.lookup t x i _=>OW P t&&bZ c gl x&&bZ c gl i
 |.mapUpdate t m k v=>Nq P t&&bZ c gl m&&bZ c gl k&&bZ c gl v
 |.range t x=>Hh P t&&bZ c gl x
 |.next it Xq=>bZ c gl it
 |.call k=>Ba P c gl k
 |_=>WN
inductive xu(c:dx)(r:bB):Next->Next->Prop
 |value{v v':Xu}:ai c r v v'->xu c r (.value v) (.value v')
 |skip:xu c r .skip .skip
 |enter{f:XO}{x x':Array Xu}:c.fns f=Xq->aj c r x x'->xu c r (.enter f x) (.enter f x')
def Cs(P:XN)(c:dx):Prop:=
 ∀(f:XO)(fn:Func),c.fns f=Xq->P.funcs[f]?=Xp fn->(fn.name== "runtime.NumGoroutine")=WN/\(fn.body=Xv->Extern.findNext fn=Xv/\∃e,Extern.find fn=Xp e/\
   ∀(r:bB)(x x':Array Xu),aj c r x x'->ab P c r (e x) (e x') (ai c))
theorem ab.value{x:X0 Xu}{y:X0 Xu}(h:ab P c r x y (ai c)):ab P c r (do Pure.pure (Next.value (<-x))) (do Pure.pure (Next.value (<-y))) (xu c):=ab.bind h λ_ _ _ _ k=>ab.pure (.value k)
theorem ab.unit{x:X0 Unit}{y:X0 Unit}(h:ab P c r x y λ_ _ _=>True):ab P c r (do x;Pure.pure Next.skip) (do y;Pure.pure Next.skip) (xu c):=ab.bind h λ_ _ _ _ _=>ab.pure .skip
theorem ab.Aw(f:XO):ab P c r (mark (.extern f)) (mark (.extern f)) λ_ _ _=>True:=by intro w v b;refine⟨(),v,r,rfl,.refl b,trivial,λe a=>?_⟩;simp at a;subst a;exact .inr (.inr ⟨f,rfl⟩)
theorem xB(l:Cs P c)(i:c.fns f=Xq){x x':Array Xu}(h:aj c r x x'):ab P c r (callFunc f x) (callFunc f x') (xu c):=by refine ab.bind (ab.eV bM) λw p u g m=>?_;obtain⟨rfl,rfl⟩:=m;cases a:u.funcs[f]? with|none=>exact ab.stuck|some d=>obtain⟨s,t⟩:=l f d i a;simp only[a,s,U0];cases k:d.body with|some b=>exact ab.pure (.enter i (h.mono g))|none=>obtain⟨n,e,o,q⟩:=t k;simp only[n,o];exact ab.bind (ab.Aw f) λv _ _ j _=>ab.value (q v x x' ((h.mono g).mono j))
theorem wL(a:∀x,bZ c gl x=Xq->ai c r (ev x) (ev' x)){l:Array XR}(h:l.all (bZ c gl)=Xq):aj c r (l.map ev) (l.map ev'):=aj.map l ev ev' λx b=>a x (by rw[V4]at h;grind)
theorem vi(a:∀x,bZ c gl x=Xq->ai c r (ev x) (ev' x)){l:Array (Nat×XR)}(h:(l.all λp=>bZ c gl p.2)=Xq):A8 c r (l.map λ(i,x)=>(i,ev x)) (l.map λ(i,x)=>(i,ev' x)):=by refine⟨?_,?_⟩;{simp};(have e:∀g:XR->Xu,((l.map λp=>(p.1,g p.2)).toList.map (·.2)).toArray=l.map λp=>g p.2:=by grind);rw[e ev,e ev'];refine aj.map l _ _ λp b=>a p.2 ?_;rw[V4]at h;grind
theorem xz(a:∀x,bZ c gl x=Xq->ai c r (ev x) (ev' x)):∀{x:Option XR},x.all (bZ c gl)=Xq->j9 c r (x.map ev) (x.map ev')|none,_=>trivial|some x,h=>a x (by grind)
theorem xI(o:Yk)(y:XR)(ev ev':XR->Xu)(l:o.op=.nilCheck y)(e:ev y=x)(i:ev' y=x')(h:ai c r x x'):ab P c r (XE ev o) (XE ev' o) (xu c):=by unfold XE;rw[l];simp only[e,i];cases h with|gf=>exact ab.runtimePanic|nilIface=>exact ab.runtimePanic|nilFunc=>exact ab.runtimePanic|bool b=>exact ab.pure (.value (.bool b))|int k n=>exact ab.pure (.value (.int k n))|string s=>exact ab.pure (.value (.string s))|ptr a=>exact ab.pure (.value (.ptr a))|gu n m=>exact ab.pure (.value (.gu n m))|slice n m a=>exact ab.pure (.value (.slice n m a))|cE a f=>exact ab.pure (.value (.cE a f))|kO=>exact ab.pure (.value .kO)|map a=>exact ab.pure (.value (.map a))|@func j z B u A d p q v w=>(cases j with|func g=>exact ab.pure (.value (.func d p q v w))|_=>simp[Hu]at d)|iface t a=>exact ab.pure (.value (.iface t a))|agg a b=>exact ab.pure (.value (.agg a b))|tuple a b=>exact ab.pure (.value (.tuple a b))
theorem mF(h:yN P t=Xq):∀e,P.underlying t=Xp (.slice e)->jv P e=Xq:=λe a=>by unfold yN at h;simp_all
theorem Gj(h:Nq P t=Xq):∀k e,P.underlying t=Xp (.map k e)->BE P k=Xq:=λk e a=>by unfold Nq at h;simp_all
theorem F8(h:OW P t=Xq):∀k e,P.underlying t=Xp (.map k e)->fg P k=Xq/\jv P e=Xq:=λk e a=>by unfold OW at h;simp_all
theorem uo(h:Al P t n=Xq):∀fs f,P.underlying t=Xp (.struct fs)->fs[n]?=Xp f->P.cellsOf f.type≠0:=λfs f a b=>by unfold Al at h;simp_all
theorem Ga(N:Fits P c)(K:Cs P c){k:Call}(t:XI)(i:Ba P c gl k=Xq)(B:∀x,bZ c gl x=Xq->ai c r (ev x) (ev' x)):ab P c r (do let d<-resolve ev k t;invoke d.target d.args) (do let d<-resolve ev' k t;invoke d.target d.args) (xu c):=by unfold Ba at i;simp only[UE]at i;obtain⟨I,i⟩:=i;have h:=wL B I;obtain⟨l,m,A⟩:=k;unfold resolve;cases l with|invoke x n=>simp at i|value f=>have E:=B f i;simp only[];generalize ev f=q at E;generalize ev' f=O at E;(cases E with|@func J z R u M a b d e g=>(cases J with|func j=>refine ab.bind (Q:=λG x y=>x.target=.fn (.func j) u/\y.target=.fn (.func j) M/\aj c G x.args y.args) (ab.pure ⟨rfl,rfl,(aj.mk b d).append h⟩) λL x y H p=>?_;obtain⟨C,D,v⟩:=p;rw[C,D];exact xB K (by assumption) (v.append ((aj.mk e g).mono H))|_=>simp[Hu]at a)|nilFunc=>exact ab.never (λw=>dM RuntimeError.nilDeref w)|_=>exactλ_ _ _=>rfl)|builtin b=>refine ab.bind (Q:=λG x y=>x.target=.builtin b A t (m.map λ|.const _=>Xq|_=>WN)/\y.target=.builtin b A t (m.map λ|.const _=>Xq|_=>WN)/\aj c G x.args y.args) (ab.pure ⟨rfl,rfl,h⟩) λL x y H p=>?_;obtain⟨C,D,v⟩:=p;rw[C,D];cases b with|len=>exact ab.value (Mk _ _ v)|max=>exact ab.value (JV _ _ v)|min=>exact ab.value (L9 _ _ v)|append=>simp only[UE]at i;refine ab.value (An (λs e F o=>?_) (λs k F o=>?_) v);{have:=i.1;rw[F]at this;exact mF this e o};have:=i.2;rw[F]at this;simp[CM,o]at this|_=>simp at i
theorem tH(w:Fits P c)(H:Cs P c){o:Yk}(j:sG P c gl o=Xq)(f:∀x,bZ c gl x=Xq->ai c r (ev x) (ev' x))(z:∀g,ev (.global g)=ϖ g/\ev' (.global g)=ϖ g):ab P c r (XE ev o) (XE ev' o) (xu c):=by unfold sG at j;obtain⟨E,D,O,K,A,guard⟩:=o;cases D with|move x=>exact ab.pure (.value (f x j))|assign x=>exact ab.pure (.value (f x j))|pick a b d=>simp only[UE]at j;refine ab.bind (ab.asBool (f a j.1.1)) λM u V C I=>?_;subst I;refine ab.pure (.value ?_);split;{exact(f b j.1.2).mono C};exact(f d j.2).mono C|alloc e=>exact ab.value (AQ j)|box e x=>exact ab.value (LA e (f x j))|build t L=>simp only[UE]at j;exact ab.value (DZ j.1 (vi f j.2))|buildSlice t n L=>simp only[UE]at j;exact ab.value (sj (mF j.1) (vi f j.2))|load t a=>rcases VN ..▸j with j|j;{exact ab.value (A9 t (f a j))};(cases a with|global g=>refine ab.value ?_;rw[(z g).1,(z g).2];exact ab.bind (Q:=λ_ a b=>a=⟨g,0,Xv⟩/\b=⟨g,0,Xv⟩) (ab.pure ⟨rfl,rfl⟩) λM a b C⟨F,G⟩=>by subst F G;exact ab.E7 w (by rw[w.aL];simpa[Jc]using j) t|_=>simp[Jc]at j)|store t a x=>simp only[UE]at j;exact ab.unit (zN t (f a j.1) (f x j.2))|nilCheck x=>exact xI _ x ev ev' rfl rfl rfl (f x j)|binOp D t x y u=>simp only[UE,VN,Bool.not_eq_true']at j;exact ab.value (Dn w (λe=>by rcases j.2 with h|h;{rcases e with rfl|rfl<;>simp[isEq]at h};exact h) (f x j.1.1) (f y j.1.2))|unOp D t x=>exact ab.value (DD (f x j))|convert s d x=>simp only[UE]at j;exact ab.value (xP j.1 (f x j.2))|makeFunc R B q=>simp only[UE]at j;exact ab.value (xr j.1.1 (wL f j.1.2) (wL f j.2))|makeMap t N=>(cases N with|none=>exact ab.value yX|some _=>simp at j)|makeSlice t l k=>simp only[UE]at j;exact ab.value (uq (mF j.1.1) (f l j.1.2) (f k j.2))|slice t x T S U=>simp only[UE]at j;exact ab.value (xS t (f x j.1.1.1) (xz f j.1.1.2) (xz f j.1.2) (xz f j.2))|fieldAddr s x n=>simp only[UE]at j;exact ab.value (xT s n (uo j.1) (f x j.2))|field t x n=>exact ab.value (DJ t n (f x j))|indexAddr t x i=>simp only[UE]at j;exact ab.value (yy t (f x j.1) (f i j.2))|index t x i=>simp only[UE]at j;exact ab.value (EJ t (f x j.1) (f i j.2))|lookup t x i b=>simp only[UE]at j;exact ab.value (Bp w (F8 j.1.1) (f x j.1.2) (f i j.2))|mapUpdate t m k v=>simp only[UE]at j;exact ab.unit (uL w (Gj j.1.1.1) (f m j.1.1.2) (f k j.1.2) (f v j.2))|range t x=>simp only[UE]at j;refine ab.value (ES ?_ (f x j.2));have:=j.1;unfold Hh at this;grind|next J b=>(cases b with|true=>exact ab.value (HT (f J j))|false=>simp at j)|extract x n=>exact ab.value (yV n (f x j))|call k=>exact Ga w H O j f|_=>simp at j
end
section
variable{c:dx}{r:bB}
def codeOk(P:XN)(c:dx)(gl:Nat->Bool):Yl->Bool
 |.skip|.exit _|.label _|.ret|.refuse _=>Xq
 |.region _ ops _=>ops.all (sG P c gl)
 |.seq a b=>codeOk P c gl a&&codeOk P c gl b
 |.cond x a b=>bZ c gl x&&codeOk P c gl a&&codeOk P c gl b
 |.block _ a|.loop a|.scope a=>codeOk P c gl a
 |_=>WN
def opAt(P:XN)(c:dx)(gl:Nat->Bool)(ops:Array Yk)(i:Nat):Bool:=match ops[i]? with|some o=>sG P c gl o|none=>Xq
theorem GP{c:dx}(h:ops.all (sG P c gl)=Xq)(l:List Nat):l.all (opAt P c gl ops)=Xq:=by rw[U8];intro i _;unfold opAt;grind
theorem mR{c:dx}{o:Yk}(h:(i::rest).all (opAt P c gl ops)=Xq)(a:ops[i]?=Xp o):sG P c gl o=Xq:=by simp only[U6,UE]at h;have:=h.1;unfold opAt at this;simp_all
theorem vx{c:dx}(h:(i::rest).all (opAt P c gl ops)=Xq):rest.all (opAt P c gl ops)=Xq:=by simp_all
def aW(P:XN)(c:dx)(gl:Nat->Bool):X3->Bool
 |.code a|.inLoop a|.inScope a=>codeOk P c gl a
 |.inBlock _=>Xq
 |.inRegion ops l=>l.all (opAt P c gl ops)
 |_=>WN
def b8(f:XO)(t:Array Xu)(k:List X3)(m:FrameMode):XF:={fn:=f,tmps:=t,todo:=k,defers:=[],mode:=m,kind:=.normal,roundOf:=Xv}
def md(ret:Bool):FrameMode:=if ret then .returning else .run
structure cy where
 f:XO
 t:Array Xu
 k:List X3
 ret:Bool
 st:List (XO×Array Xu×List X3)
def up(x:XO×Array Xu×List X3):XF:=b8 x.1 x.2.1 x.2.2 .run
def cy.g(s:cy)(base:List XF):Xz:=Go.Conc.G (b8 s.f s.t s.k (md s.ret)) (s.st.map up++base)
structure wu(P:XN)(c:dx)(gl:Nat->Bool)(s:cy):Prop where
 fn:True
 items:s.k.all (aW P c gl)=Xq
 below:∀x∈s.st,True/\x.2.2.all (aW P c gl)=Xq/\∃ops i rest k,x.2.2=.inRegion ops (i::rest)::k
inductive kZ(c:dx)(r:bB):List (XO×Array Xu×List X3)->List (XO×Array Xu×List X3)->Prop
 |nil:kZ c r [] []
 |cons{f:XO}{t t':Array Xu}{k:List X3}{l l':List (XO×Array Xu×List X3)}:aj c r t t'->kZ c r l l'->kZ c r ((f,t,k)::l) ((f,t',k)::l')
structure nY(c:dx)(r:bB)(s s':cy):Prop where
 f:s'.f=s.f
 t:aj c r s.t s'.t
 k:s'.k=s.k
 ret:s'.ret=s.ret
 st:kZ c r s.st s'.st
theorem kZ.mono{r r':bB}(h:r.le r'){l l':List (XO×Array Xu×List X3)}(k:kZ c r l l'):kZ c r' l l':=by induction k with|nil=>exact .nil|cons a _ b=>exact .cons (a.mono h) b
structure Listed(P:XN)(c:dx)(gl:Nat->Bool):Prop where
 aL:Fits P c
 qh:∀g,gl g=Xq->c.low g=0
 ext:Cs P c
 body:∀(f:XO)(fn:Func),c.fns f=Xq->P.funcs[f]?=Xp fn->∃b,(fn.body=Xv\/(fn.body=Xp b/\codeOk P c gl b=Xq))
def ej:XF:={fn:=0,tmps:=#[],todo:=[],defers:=[{target:=.builtin .make #[] 0 #[],args:=#[]}],mode:=.run,kind:=.normal}
def PV(s:GStep):Prop:=(∃o w,s.bare=.ended o w)\/∃(f:XO)(t:Array Xu)(k:List X3)(ch:List PanicEntry)(st:List (XO×Array Xu×List X3))(w:Xr)(es:Array Ye),
 s=.go (Go.Conc.G (b8 f t k (.panicking ch)) (st.map up++[ej])) w es/\(∀d w r sv,k.head?≠Xp (.call d w r sv))/\∀x∈st,∃ops i rest k',x.2.2=.inRegion ops (i::rest)::k'
theorem oM{t:Array Xu}(e:aj c r t t')(d:∀g,gl g=Xq->r g=Xp g)(b:∀g,gl g=Xq->c.low g=0){k:List X3}{m:FrameMode}(x:XR)(h:bZ c gl x=Xq):ai c r ((b8 f t k m).eval x) ((b8 f t' k m).eval x):=by cases x with|tmp i=>exact e.getD i fJ|const v=>exact il h c r|global g=>exact .ptr ⟨d g h,rfl,rfl,VG (b g h)⟩|func j=>exact .func (by assumption) rfl (λi v l a=>by simp at a) rfl (λi v l a=>by simp at a)
theorem mq{t:Array Xu}(a:aj c r t t')(ops:Array Yk)(j:Nat):XM ops t' j=XM ops t j:=by unfold XM;cases(ops[j]?).bind (·.dst)with|none=>rfl|some d=>simp only[VD];cases b:t[d]? with|none=>rw[a.none b]|some v=>obtain⟨f,e,k⟩:=a.get b;rw[e];cases k<;>rfl
theorem cK{t:Array Xu}{k:List X3}(v:Xu):(b8 f t (.inRegion ops (i::rest)::k) .run).finish v=b8 f (match(ops[i]?).bind (·.dst)with|some d=>t.setIfInBounds d v|none=>t) (.inRegion ops rest::k) .run:=rfl
theorem pN{t:Array Xu}(a:aj c r t t')(d:Option Tmp){v:Xu}(b:ai c r v v'):aj c r (match d with|some d=>t.setIfInBounds d v|none=>t) (match d with|some d=>t'.setIfInBounds d v'|none=>t'):=by cases d with|none=>exact a|some d=>exact a.set d b
end
end Go.ab
namespace Go.ab
open Go.Conc
variable{P:XN}{c:dx}{r:bB}{gl:Nat->Bool}{w w2 w':Xr}{v:Xu}{main u:Bool}{bs cs:List XF}{f j f0:XO}{t t' t0 x':Array Xu}{k k0:List X3}{st st':List (XO×Array Xu×List X3)}{id i b n:Nat}{x a:Yl}{ops:Array Yk}{rest:List Nat}{o:Yk}{h:Halt}{fn:Func}{α:Type}{s s' s1 s2:cy}{es:Array Ye}{fr':XF}
section
def Ua(P:XN)(c:dx)(r:bB)(main:Bool)(base:List XF)(w v:Xr)(s':cy)(s1:cy)(w1:Xr):Prop:=
 ∃s1' v1 r1 es,XA P main (s'.g base) v=.go (s1'.g base) v1 es/\Ext c r w v r1 w1 v1/\nY c r1 s1 s1'/\∀e∈es,rq c r1 e
def Stp(P:XN)(c:dx)(gl:Nat->Bool)(r:bB)(main:Bool)(base:List XF)(w v:Xr)(s s':cy):Prop:=
 (∃s1 w1 es1,XA P Xq (s.g [ej]) w=.go (s1.g [ej]) w1 es1/\wu P c gl s1/\Ua P c r main base w v s' s1 w1)\/PV (XA P Xq (s.g [ej]) w)
theorem cy.vD(f:XO)(t:Array Xu)(k:List X3)(a:List (XO×Array Xu×List X3))(bs:List XF):(cy.mk f t k WN a).g bs=G (b8 f t k .run) (a.map up++bs):=rfl
theorem cy.iV(f:XO)(t:Array Xu)(k:List X3)(a:List (XO×Array Xu×List X3))(bs:List XF):(cy.mk f t k Xq a).g bs=G (b8 f t k .returning) (a.map up++bs):=rfl
theorem Stp.ctl{v:Xr}{k1:List X3}{ret1:Bool}(l:cC c r w v)(j:aj c r t t')(a:kZ c r st st')(b:wu P c gl ⟨f,t,k,WN,st⟩)(i:k1.all (aW P c gl)=Xq)(h:∀(main:Bool)(cs:List XF)(w:Xr),XA P main (G (b8 f t k .run) cs) w=.go (G (b8 f t k1 (md ret1)) cs) w #[])(d:∀(main:Bool)(cs:List XF)(w:Xr),XA P main (G (b8 f t' k .run) cs) w=.go (G (b8 f t' k1 (md ret1)) cs) w #[]):Stp P c gl r main bs w v ⟨f,t,k,WN,st⟩ ⟨f,t',k,WN,st'⟩:=.inl ⟨⟨f,t,k1,ret1,st⟩,w,#[],h _ _ _,⟨b.fn,i,b.below⟩,⟨f,t',k1,ret1,st'⟩,v,r,#[],d _ _ _,.refl l,⟨rfl,j,rfl,rfl,a⟩,λe g=>by simp at g⟩
theorem n9{q:X3->Bool}:∀{k k':List X3},exitTo id k=Xp k'->k.all q=Xq->k'.all q=Xq|[],_,h,_=>by simp[exitTo]at h|x::k,k',h,b=>by simp only[U6,UE]at b;unfold exitTo at h;split at h;{rename_i d f e;cases e;split at h;{simp_all};exact n9 h b.2};{rename_i e;cases e;exact n9 h b.2};simp_all
theorem ot:XA P main (G (b8 f t (.code .ret::k) .run) cs) w=.go (G (b8 f t (.code .ret::k) .returning) cs) w #[]:=by rfl
theorem jE:XA P main (G (b8 f t (.inScope x::k) .run) cs) w=.go (G (b8 f t k .run) cs) w #[]:=by rfl
theorem lu:XA P main (G (b8 f t (.code (.scope x)::k) .run) cs) w=.go (G (b8 f t (.code x::.inScope x::k) .run) cs) w #[]:=by rfl
theorem iQ(h:exitTo id k=Xv):XA P main (G (b8 f t (.code (.exit id)::k) .run) cs) w=.ended (.stuck "exit, goto: no such block or label" ((b8 f t (.code (.exit id)::k) .run).pos P)) w #[]:=by simp only[G,XA,XA.exec,b8,h,Option.elim,U0,if_false]
theorem kl:XA P main (G (b8 f t (.code (.region id ops Xq)::k) .run) cs) w=match(choose (.order f id)).run P w with|.ok b w=>.go (G (b8 f t (.inRegion ops (Region.schedule (P.follows .mixedOrders) ops b)::k) .run) cs) w #[]|.halt _ w=>.ended (.stuck "order" ((b8 f t (.code (.region id ops Xq)::k) .run).pos P)) w:=by rfl
theorem stepG_unwanted(h:((ops[i]?).map (Region.wanted · (XM ops t))).getD WN=WN):XA P main (G (b8 f t (.inRegion ops (i::rest)::k) .run) cs) w=.go (G ((b8 f t (.inRegion ops (i::rest)::k) .run).finish XD) cs) w #[]:=by simp only[G,XA,XA.exec,b8,h,U0,if_false]
section op
variable{w1:Xr}
abbrev nF(f:XO)(t:Array Xu)(ops:Array Yk)(i:Nat)(rest:List Nat)(k:List X3):XF:=b8 f t (.inRegion ops (i::rest)::k) .run
theorem jh(d:ops[i]?=Xp o)(e:Region.wanted o (XM ops t)=Xq)(b:(XE (nF f t ops i rest k).eval o).run P w=.ok (.value v) w1):XA P main (G (nF f t ops i rest k) cs) w=.go (G ((nF f t ops i rest k).finish v) cs) w1 (seen P f ((XE (nF f t ops i rest k).eval o).events P w #[])):=by simp only[b8]at b;simp[G,XA,XA.exec,XA.oper,XA.apply,XF.oper?,b8,d,e,b,GStep.after]
theorem jU(d:ops[i]?=Xp o)(e:Region.wanted o (XM ops t)=Xq)(b:(XE (nF f t ops i rest k).eval o).run P w=.ok .skip w1):XA P main (G (nF f t ops i rest k) cs) w=.go (G ((nF f t ops i rest k).finish XD) cs) w1 (seen P f ((XE (nF f t ops i rest k).eval o).events P w #[])):=by simp only[b8]at b;simp[G,XA,XA.exec,XA.oper,XA.apply,XF.oper?,b8,d,e,b,GStep.after]
theorem jd{args:Array Xu}(d:ops[i]?=Xp o)(e:Region.wanted o (XM ops t)=Xq)(b:(XE (nF f t ops i rest k).eval o).run P w=.ok (.enter j args) w1):XA P main (G (nF f t ops i rest k) cs) w=.go (G (XF.enter P j args .normal) (nF f t ops i rest k::cs)) w1 (seen P f ((XE (nF f t ops i rest k).eval o).events P w #[])):=by simp only[b8]at b;simp[G,XA,XA.exec,XA.oper,XA.apply,XF.oper?,b8,d,e,b,GStep.after]
theorem k9(e:ops[i]?=Xp o)(g:Region.wanted o (XM ops t)=Xq)(d:(XE (nF f t ops i rest k).eval o).run P w=.halt (.panic v) w1):XA P main (G (nF f t ops i rest k) cs) w=.go (G (b8 f t (.inRegion ops (i::rest)::k) (.panicking [{v,recovered:=WN}])) cs) w1 (seen P f ((XE (nF f t ops i rest k).eval o).events P w #[])):=by simp only[b8]at d;simp[G,XA,XA.exec,XA.oper,XA.apply,XF.oper?,b8,e,g,d,GStep.after,XF.raise]
theorem l8(e:ops[i]?=Xp o)(j:Region.wanted o (XM ops t)=Xq)(b:(XE (nF f t ops i rest k).eval o).run P w=.halt h w1)(d:BA h=Xq)(l:∀v,h≠.panic v):∃x w2,(XA P main (G (nF f t ops i rest k) cs) w).bare=.ended x w2:=by simp only[b8]at b;cases h with|panic v=>simp_all|stuck s=>simp[G,XA,XA.exec,XA.oper,XA.apply,XF.oper?,b8,e,j,b]|unsupported u=>(cases u with|initOrder g=>simp[BA]at d|_=>simp[G,XA,XA.exec,XA.oper,XA.apply,XF.oper?,b8,e,j,b])|_=>simp[BA]at d
end op
theorem wu.tt(b:wu P c gl ⟨f,t,.inRegion ops (i::rest)::k,WN,st⟩):(i::rest).all (opAt P c gl ops)=Xq/\k.all (aW P c gl)=Xq:=by have:=b.items;simp only[U6,UE]at this;exact this
theorem gB(args:Array Xu)(a:P.funcs[f]?=Xp fn):XF.enter P f args .normal=b8 f (args++Array.replicate (fn.ntmps-args.size) XD) [.code (fn.body.getD (.refuse "unsupported: a function without a Go body is entered"))] .run:=by simp[XF.enter,b8,a]
theorem n5(args:Array Xu)(a:P.funcs[f]?=Xv):XF.enter P f args .normal=b8 f (args++Array.replicate (0-args.size) XD) [.code (.refuse "unsupported: a function without a Go body is entered")] .run:=by simp[XF.enter,b8,a]
theorem xV(g:Listed P c gl)(f:c.fns j=Xq)(x d:Array Xu):∃n b,(XF.enter P j x .normal=b8 j (x++Array.replicate (n-x.size) XD) [.code b] .run/\XF.enter P j d .normal=b8 j (d++Array.replicate (n-d.size) XD) [.code b] .run)/\codeOk P c gl b=Xq:=by cases a:P.funcs[j]? with|none=>exact⟨0,_,⟨n5 x a,n5 d a⟩,rfl⟩|some e=>refine⟨e.ntmps,_,⟨gB x a,gB d a⟩,?_⟩;obtain⟨b,h|⟨h,i⟩⟩:=g.body j e f a;{rw[h];rfl};simp_all
theorem Mo(I:Listed P c gl){v:Xr}(V:∀g,gl g=Xq->r g=Xp g)(Y:cC c r w v)(E:aj c r t t')(D:kZ c r st st')(A:wu P c gl ⟨f,t,.inRegion ops (i::rest)::k,WN,st⟩)(z:ops[i]?=Xp o)(a:Region.wanted o (XM ops t)=Xq):Stp P c gl r main bs w v ⟨f,t,.inRegion ops (i::rest)::k,WN,st⟩ ⟨f,t',.inRegion ops (i::rest)::k,WN,st'⟩:=by obtain⟨p,R⟩:=A.tt;have M:=mR p z;have m:=tH I.aL I.ext M (ev:=(nF f t ops i rest k).eval) (λx q=>oM E V I.qh x q) (λ_=>⟨rfl,rfl⟩) w v Y;(have l:Region.wanted o (XM ops t')=Xq:=by rw[funext λj=>mq E ops j];exact a);unfold Stp;rw[cy.vD];cases q:(XE (nF f t ops i rest k).eval o).run P w with|halt h H=>rw[q]at m;refine .inr ?_;by_cases S:∃u,h=.panic u;{obtain⟨u,rfl⟩:=S;rw[k9 z a q];refine .inr ⟨f,t,_,_,st,H,_,rfl,λd w r sv=>by simp,λx q=>(A.below x q).2.2⟩};obtain⟨x,w2,e⟩:=l8 z a q m (λu e=>S ⟨u,e⟩);exact .inl ⟨x,w2,e⟩|ok n H=>rw[q]at m;obtain⟨n',O,J,L,B,q1,Z⟩:=m;have C:∀e∈seen P f ((XE (nF f t' ops i rest k).eval o).events P v #[]),rq c J e:=λe U=>Z e (mem_seen U);refine .inl ?_;cases q1 with|@value u u' X=>refine⟨⟨f,_,.inRegion ops rest::k,WN,st⟩,H,seen P f ((XE (nF f t ops i rest k).eval o).events P w #[]),(jh z a q).trans ?_,⟨A.fn,?_,A.below⟩,⟨f,_,.inRegion ops rest::k,WN,st'⟩,O,J,_,(jh z l L).trans ?_,B,⟨rfl,pN (E.mono B.le) ((ops[i]?).bind (·.dst)) X,rfl,rfl,D.mono B.le⟩,C⟩;{rfl};{simp only[U6,aW,R,vx p,VY]};rfl|skip=>refine⟨⟨f,_,.inRegion ops rest::k,WN,st⟩,H,seen P f ((XE (nF f t ops i rest k).eval o).events P w #[]),(jU z a q).trans ?_,⟨A.fn,?_,A.below⟩,⟨f,_,.inRegion ops rest::k,WN,st'⟩,O,J,_,(jU z l L).trans ?_,B,⟨rfl,pN (E.mono B.le) ((ops[i]?).bind (·.dst)) fJ,rfl,rfl,D.mono B.le⟩,C⟩;{rfl};{simp only[U6,aW,R,vx p,VY]};rfl|@enter j x K W F=>obtain⟨n,b,Q,T⟩:=xV I W x K;refine⟨⟨j,x++Array.replicate (n-x.size) XD,[.code b],WN,(f,t,.inRegion ops (i::rest)::k)::st⟩,H,seen P f ((XE (nF f t ops i rest k).eval o).events P w #[]),(jd z a q).trans ?_,⟨trivial,?_,?_⟩,⟨j,K++Array.replicate (n-K.size) XD,[.code b],WN,(f,t',.inRegion ops (i::rest)::k)::st'⟩,O,J,_,(jd z l L).trans ?_,B,⟨rfl,?_,rfl,rfl,.cons (E.mono B.le) (D.mono B.le)⟩,C⟩;{rw[Q.1];rfl};{simp[aW,T]};{intro y N;rcases UI.1 N with rfl|N;{exact⟨A.fn,A.items,ops,i,rest,k,rfl⟩};exact A.below y N};{rw[Q.2];rfl};rw[F.size.symm];exact F.append (.replicate _ fJ)
end
section
theorem ab.yf{f f':α->X0 Xu}:∀(l:List α){r:bB}{x x':Array Xu},aj c r x x'->(∀a b,r.le b->ab P c b (f a) (f' a) (ai c))->ab P c r (l.foldlM (λbs a=>Functor.map bs.push (f a)) x) (l.foldlM (λbs a=>bs.push<$>f' a) x') (aj c)|[],_,_,_,h,_=>ab.pure h|a::l,r,x,x',h,e=>by simp only[Xb];refine ab.bind (Q:=aj c) ?_ λb y n d j=>ab.yf l j λa k g=>e a k (bB.le_trans d g);simp only[<-bind_pure_comp];exact ab.bind (e a r (bB.le_refl r)) λb v m d i=>ab.pure ((h.mono d).push i)
theorem ab.mapM{f f':α->X0 Xu}(l:Array α)(h:∀a b,r.le b->ab P c b (f a) (f' a) (ai c)):ab P c r (l.mapM f) (l.mapM f') (aj c):=by rw[XJ,XJ,<-XK,<-XK];exact ab.yf l.toList .empty h
theorem j2(fn:Func)(h:aj c r t t'):ab P c r (results fn t) (results fn t') (ai c):=by refine ab.bind (ab.mapM _ λa g d=>?_) λg x m d b=>ab.pure ?_;{cases a with|tmp i=>exact ab.pure ((h.mono d).getD i fJ)|cell i j=>exact ab.bind (ab.asAddr ((h.mono d).getD i fJ)) λl a k _ f=>ab.loadVar j f};by_cases e:x.size=1;{rw[dif_pos e,dif_pos (b.size▸e)];exact b.el 0 _ _ (UL _) (UL _)};rw[dif_neg e,dif_neg (b.size▸e)];exact .tuple b.size b.el
section ret
variable{x:XF}{w1:Xr}
theorem bJ(a:P.funcs[f]?=Xv):XA P main (G (b8 f t k .returning) (x::cs)) w=.go (G (x.finish (t.getD 0 XD)) cs) w #[]:=by simp[G,XA,unwind,doReturn,b8,a]
theorem aR(a:P.funcs[f]?=Xp fn)(b:(results fn t).run P w=.ok v w1):XA P main (G (b8 f t k .returning) (x::cs)) w=.go (G (x.finish v) cs) w1 (seen P f ((results fn t).events P w #[])):=by simp[G,XA,unwind,doReturn,b8,a,b,GStep.after]
theorem cX(a:P.funcs[f]?=Xp fn)(b:(results fn t).run P w=.halt h w1):∃o w2,(XA P main (G (b8 f t k .returning) (x::cs)) w).bare=.ended o w2:=by cases h<;>simp[G,XA,unwind,b8,a,b]
end ret
theorem zZ{v:Xr}{t0':Array Xu}(A:cC c r w v)(z:aj c r t t')(l:aj c r t0 t0')(j:kZ c r st st')(y:wu P c gl ⟨f,t,k,Xq,(f0,t0,.inRegion ops (i::rest)::k0)::st⟩):Stp P c gl r main bs w v ⟨f,t,k,Xq,(f0,t0,.inRegion ops (i::rest)::k0)::st⟩ ⟨f,t',k,Xq,(f0,t0',.inRegion ops (i::rest)::k0)::st'⟩:=by obtain⟨s,C,-⟩:=y.below _ (UM ..);have a:=λx m=>y.below x (U1 _ m);(have g:(X3.inRegion ops rest::k0).all (aW P c gl)=Xq:=by simp only[U6,aW]at C⊢;simp_all);cases d:P.funcs[f]? with|none=>refine .inl ⟨⟨f0,_,.inRegion ops rest::k0,WN,st⟩,w,#[],(bJ d).trans ?_,⟨s,g,a⟩,⟨f0,_,.inRegion ops rest::k0,WN,st'⟩,v,r,#[],(bJ d).trans ?_,.refl A,⟨rfl,pN l ((ops[i]?).bind (·.dst)) (z.getD 0 fJ),rfl,rfl,j⟩,λe p=>by simp at p⟩;{rfl};rfl|some n=>have b:=j2 n z (P:=P) w v A;cases m:(results n t).run P w with|halt h B=>exact .inr (.inl (cX d m))|ok u B=>rw[m]at b;obtain⟨J,I,H,D,q,F,E⟩:=b;refine .inl ⟨⟨f0,_,.inRegion ops rest::k0,WN,st⟩,B,seen P f ((results n t).events P w #[]),(aR d m).trans ?_,⟨s,g,a⟩,⟨f0,_,.inRegion ops rest::k0,WN,st'⟩,I,H,seen P f ((results n t').events P v #[]),(aR d D).trans ?_,q,⟨rfl,pN (l.mono q.le) ((ops[i]?).bind (·.dst)) F,rfl,rfl,j.mono q.le⟩,λe p=>E e (mem_seen p)⟩;{rfl};rfl
theorem jX{x:XR}{b:Yl}(h:(b8 f t (.code (.cond x a b)::k) .run).eval x=.bool u):XA P main (G (b8 f t (.code (.cond x a b)::k) .run) cs) w=.go (G (b8 f t (.code (if u then a else b)::k) .run) cs) w #[]:=by simp only[b8]at h;simp[G,XA,XA.exec,b8,h]
theorem jO{x:XR}{b:Yl}(h:∀u,(b8 f t (.code (.cond x a b)::k) .run).eval x≠.bool u):∃o w2,(XA P main (G (b8 f t (.code (.cond x a b)::k) .run) cs) w).bare=.ended o w2:=by simp only[b8]at h;simp only[G,XA,XA.exec,b8];simp
theorem QT{x x':Xu}(h:x=.bool u)(k:ai c r x x'):x'=.bool u:=by subst h;cases k;rfl
theorem sw(V:Listed P c gl){v:Xr}(U:∀g,gl g=Xq->r g=Xp g)(z:cC c r w v)(hr:nY c r s s')(p:wu P c gl s)(hne:s.ret=Xq->s.st≠[]):Stp P c gl r main bs w v s s':=by obtain⟨f,t,k,R,Y⟩:=s;obtain⟨f',M,k',K,L⟩:=s';obtain⟨N,y,Z,e3,d⟩:=hr;simp only at N y Z e3 d;subst f' k' K;cases R with|true=>(cases d with|nil=>simp_all|@cons f0 t0 t0' k0 l l' h0 O=>obtain⟨-,-,n,i,B,k1,e⟩:=p.below _ (UM ..);simp only at e;subst e;exact zZ z y h0 O p)|false=>cases k with|nil=>exact Stp.ctl (ret1:=Xq) (k1:=[]) z y d p rfl (λ_ _ _=>by rfl) (λ_ _ _=>by rfl)|cons x k=>have q:=p.items;simp only[U6,UE]at q;obtain⟨q,A⟩:=q;cases x with|code a=>(cases a with|skip=>exact Stp.ctl (ret1:=WN) (k1:=k) z y d p A (λ_ _ _=>by rfl) (λ_ _ _=>by rfl)|label l=>exact Stp.ctl (ret1:=WN) (k1:=k) z y d p A (λ_ _ _=>by rfl) (λ_ _ _=>by rfl)|ret=>exact Stp.ctl (ret1:=Xq) z y d p p.items (λ_ _ _=>ot) (λ_ _ _=>ot)|seq a b=>exact Stp.ctl (ret1:=WN) (k1:=.code a::.code b::k) z y d p (by simp only[aW,codeOk,UE]at q;simp[aW,codeOk,A,q]) (λ_ _ _=>by rfl) (λ_ _ _=>by rfl)|block id a=>exact Stp.ctl (ret1:=WN) (k1:=.code a::.inBlock id::k) z y d p (by simp only[aW,codeOk,UE]at q;simp[aW,codeOk,A,q]) (λ_ _ _=>by rfl) (λ_ _ _=>by rfl)|loop a=>exact Stp.ctl (ret1:=WN) (k1:=.code a::.inLoop a::k) z y d p (by simp only[aW,codeOk,UE]at q;simp[aW,codeOk,A,q]) (λ_ _ _=>by rfl) (λ_ _ _=>by rfl)|scope a=>exact Stp.ctl (ret1:=WN) (k1:=.code a::.inScope a::k) z y d p (by simp only[aW,codeOk,UE]at q;simp[aW,codeOk,A,q]) (λ_ _ _=>lu) (λ_ _ _=>lu)|refuse why=>exact .inr (.inl ⟨_,w,by rfl⟩)|exit id=>(cases D:exitTo id k with|none=>exact .inr (.inl ⟨_,w,by rw[cy.vD,iQ D];rfl⟩)|some k1=>exact Stp.ctl (ret1:=WN) z y d p (n9 D A) (λ_ _ _=>by simp[G,XA,XA.exec,b8,md,D]) (λ_ _ _=>by simp[G,XA,XA.exec,b8,md,D]))|cond x a b=>simp only[aW,codeOk,UE]at q;have hv:=oM y U V.qh (f:=f) (k:=.code (.cond x a b)::k) (m:=.run) x q.1.1;(cases J:(b8 f t (.code (.cond x a b)::k) .run).eval x with|bool u=>have:=QT J hv;exact Stp.ctl (ret1:=WN) (k1:=.code (if u then a else b)::k) z y d p (by cases u<;>simp[aW,q,A]) (λ_ _ _=>jX J) (λ_ _ _=>jX this)|_=>exact .inr (.inl (jO λu e=>by simp_all)))|region id n F=>(have I:n.all (sG P c gl)=Xq:=by assumption);(have H:∀l,(X3.inRegion n l::k).all (aW P c gl)=Xq:=λl=>by simp only[U6,UE];exact⟨GP I l,A⟩);(cases F with|false=>exact Stp.ctl (ret1:=WN) (k1:=.inRegion n (List.range n.size)::k) z y d p (H _) (λ_ _ _=>by rfl) (λ_ _ _=>by rfl)|true=>have X:=ab.cL (r:=r) (c:=c) (P:=P) (iH (.order f id)) w v z;unfold Stp;rw[cy.vD,kl];cases hc:(choose (.order f id)).run P w with|halt h S=>exact .inr (.inl ⟨_,S,rfl⟩)|ok u S=>rw[hc]at X;obtain⟨u',v1,r1,N,T,q1,-⟩:=X;subst q1;refine .inl ⟨⟨f,t,_,WN,Y⟩,S,#[],rfl,⟨p.fn,H _,p.below⟩,⟨f,M,_,WN,L⟩,v1,r1,#[],?_,T,⟨rfl,y.mono T.le,rfl,rfl,d.mono T.le⟩,λe D=>by simp at D⟩;rw[cy.vD,kl,N];rfl)|rangeFunc _ _ _ _=>simp[aW,codeOk]at q|goto l=>simp[aW,codeOk]at q)|inBlock id=>exact Stp.ctl (ret1:=WN) (k1:=k) z y d p A (λ_ _ _=>by rfl) (λ_ _ _=>by rfl)|inLoop a=>exact Stp.ctl (ret1:=WN) (k1:=.code a::.inLoop a::k) z y d p (by simp only[aW]at q;simp[aW,A,q]) (λ_ _ _=>by rfl) (λ_ _ _=>by rfl)|inScope a=>exact Stp.ctl (ret1:=WN) (k1:=k) z y d p A (λ_ _ _=>jE) (λ_ _ _=>jE)|inRegion n l=>(cases l with|nil=>exact Stp.ctl (ret1:=WN) (k1:=k) z y d p A (λ_ _ _=>by rfl) (λ_ _ _=>by rfl)|cons i B=>cases E:((n[i]?).map (Region.wanted · (XM n t))).getD WN with|true=>(cases W:n[i]? with|none=>simp_all|some o=>rw[W]at E;exact Mo V U z y d p W (by simp_all))|false=>(have Q:((n[i]?).map (Region.wanted · (XM n M))).getD WN=WN:=by rw[show XM n M=XM n t from funext λj=>mq y n j];exact E);refine .inl ⟨⟨f,_,.inRegion n B::k,WN,Y⟩,w,#[],(stepG_unwanted E).trans ?_,⟨p.fn,?_,p.below⟩,⟨f,_,.inRegion n B::k,WN,L⟩,v,r,#[],(stepG_unwanted Q).trans ?_,.refl z,⟨rfl,pN y ((n[i]?).bind (·.dst)) fJ,rfl,rfl,d⟩,λe D=>by simp at D⟩;{rfl};{have:=p.items;simp only[U6,aW,UE]at this⊢;simp_all};rfl)|inRangeFunc _=>simp[aW]at q|endRangeFunc _=>simp[aW]at q|beginRound=>simp[aW]at q|call _ _ _ _=>simp[aW]at q|extern _ _=>simp[aW]at q
end
def re(w:Xr)(T:Nat->Yi->Nat)(D:Nat):Xr:={w with tape:=T,drawn:=D}
@[simp]theorem T1(w:Xr)(T b:Nat->Yi->Nat)(D a:Nat):re (re w T D) b a=re w b a:=rfl
@[simp]theorem wC(w:Xr)(T:Nat->Yi->Nat)(D:Nat):(re w T D).heap=w.heap:=rfl
@[simp]theorem CW(w:Xr)(T:Nat->Yi->Nat)(D:Nat)(a:Yc):(re w T D).cell? a=w.cell? a:=rfl
theorem AH(w:Xr)(T:Nat->Yi->Nat)(D:Nat)(p:XN)(a:Yc)(b:Bool):(re w T D).farLoad p a b=w.farLoad p a b:=rfl
theorem vQ(w:Xr)(T:Nat->Yi->Nat)(D:Nat)(p:XN)(a:Yc)(u:XI)(k:Yc)(v:Xu)(b:Bool):(re w T D).viewStore p a u k v b=(w.viewStore p a u k v b).map λx=>(re x.1 T D,x.2):=by unfold Xr.viewStore;have e:(re w T D).seen p a u k b=w.seen p a u k b:=rfl;rw[e];generalize w.seen p a u k b=j;by_cases i:(!tight p p.depth u)=Xq;{simp only[i];rfl};simp only[i,U0];cases j with|error s=>rfl|ok x=>obtain⟨c,e,l,g,f,d⟩:=x;cases n:v.bytes? with|none=>rfl|some bytes=>simp only[bind,Except.bind,pure];by_cases h:Xp bytes.length=Option.map (λx=>x.length) f.bytes?;{simp only[ne_eq,h,eq_false];generalize(List.foldlM (m:=Except String) _ c d)=z;cases z<;>rfl};simp only[ne_eq,h,eq_true];rfl
theorem qM(w:Xr)(T:Nat->Yi->Nat)(D:Nat)(p:XN)(a:Yc)(v:Xu)(b:Bool):(re w T D).farStore p a v b=(w.farStore p a v b).map λx=>(re x.1 T D,x.2):=by unfold Xr.farStore;rw[wC];cases w.heap[a.block]? with|none=>rfl|some o=>(cases o<;>try rfl);simp only[vQ];generalize w.viewStore _ _ _ _ _ _=z;cases z<;>rfl
theorem Dh(w:Xr)(T:Nat->Yi->Nat)(D:Nat)(a:Yc)(n:Nat):(re w T D).freeze a n=re (w.freeze a n) T D:=by unfold Xr.freeze;split<;>rfl
def zM:Xu->Bool
 |.agg _|.tuple _=>Xq
 |_=>WN
theorem TB(v:Xu):zM v=Xq\/zM v=WN:=by simp
theorem uB(m:Mode)(a:Yc)(g:X0 α)(h:zM v=Xq)(w:Xr):∃z,(X0.store m a v g).run P w=.halt z w:=by cases v<;>simp[zM]at h<;>exact⟨_,rfl⟩
theorem tB(m:Mode)(a:Yc)(g:X0 α)(h:zM v=WN)(w:Xr):(X0.store m a v g).run P w=match w.cell? a with|some _=>if w.frozen? a then .halt (.unsupported (.unsafePointer "a write to bytes that a string shares")) w else g.run P (w.setCell a v)|none=>match w.farStore P a v (m==.atomic)with|.ok x=>g.run P x.1|.error h=>.halt h w:=by cases v<;>simp[zM]at h<;>(simp only[X0.run];split;{rename_i b;rw[b]};·split<;>simp_all)
theorem oL(m:Mode)(a:Yc)(g:X0 α)(h:zM v=WN)(w:Xr):(X0.store m a v g).events P w #[]=match w.cell? a with|some _=>if w.frozen? a then#[]else g.events P (w.setCell a v) (#[].push ⟨.cell a,Xq,m==.atomic⟩)|none=>match w.farStore P a v (m==.atomic)with|.ok x=>g.events P x.1 (#[]++x.2.toArray.map (⟨.cell ·,Xq,m==.atomic⟩))|.error _=>#[]:=by cases v<;>simp[zM]at h<;>(simp only[X0.events,X0.runT];split<;>(try split)<;>simp_all)
theorem Eo(w:Xr)(T:Nat->Yi->Nat)(D:Nat)(a:Yc):(re w T D).frozen? a=w.frozen? a:=rfl
theorem uA{w1:Xr}{p:XN}{a:Yc}{b:Bool}{l:List Yc}(h:w.farStore p a v b=.ok (w1,l)):w1.drawn=w.drawn/\w1.tape=w.tape:=by have c:w.farStore p a v b=(w.farStore p a v b).map λx=>(re x.1 w.tape w.drawn,x.2):=qM w w.tape w.drawn p a v b;rw[h]at c;injection c with c;have:=(Vf c).1;exact⟨(congrArg Xr.drawn this).trans rfl,(congrArg Xr.tape this).trans rfl⟩
theorem zi(x:X0 α):∀{w w1:Xr}{a:α},x.run P w=.ok a w1->(∀e∈x.events P w #[],e.loc≠.output)->w.drawn<=w1.drawn/\w1.tape=w.tape/\∀(T:Nat->Yi->Nat)(D:Nat),(∀j q,w.drawn+j<w1.drawn->T (D+j) q=w.tape (w.drawn+j) q)->x.run P (re w T D)=.ok a (re w1 T (D+(w1.drawn-w.drawn))):=by induction x with|pure a=>simp|halt z=>simp|program g d=>intro w w1 b h c;exact d P h c|mark m g d=>intro w w1 b h c;refine d h λe i=>c e ?_;show e∈g.events P w _;rw[X0.events_acc];simp_all|sys s g _=>intro w w1 b h c;refine absurd rfl (c ⟨.output,Xq,WN⟩ ?_);show _∈(g _).events P _ _;rw[X0.events_acc];simp|choose q g d=>intro w w1 b h c;have B:∀u:Xr,(X0.choose q g).run P u=if q.forced then(g 0).run P u else(g (q.cut (u.tape u.drawn q))).run P {u with drawn:=u.drawn+1}:=λ_=>rfl;(have I:(X0.choose q g).events P w #[]=if q.forced then(g 0).events P w #[]else(g (q.cut (w.tape w.drawn q))).events P {w with drawn:=w.drawn+1} #[]:=by simp only[X0.events,X0.runT];grind);rw[B]at h;rw[I]at c;simp only[B];by_cases F:q.forced=Xq;{grind};rw[if_neg F]at h c;simp only[F,U0,if_false];obtain⟨J,H,K⟩:=d _ h c;simp only at J H;refine⟨by omega,H,λT D t=>?_⟩;(have:=K T (D+1) λj q M=>by have:=t (j+1) q (by grind);grind);have C:=t 0 q Ω;simp only[Vh]at C;show(g (q.cut (T D q))).run P (re w T (D+1))=_;rw[C];refine Eq.trans this ?_;grind|load m a g d=>intro w w1 b h c;simp only[X0.run,CW,AH]at h⊢;(cases r:w.cell? a with|some v=>rw[r]at h;refine d v h λe i=>c e ?_;simp only[X0.events,X0.runT,r];show e∈(g v).events P w _;rw[X0.events_acc];simp_all|none=>rw[r]at h;cases l:w.farLoad P a (m==.atomic)with|error z=>simp_all|ok x=>rw[l]at h;refine d x.1 h λe i=>c e ?_;simp only[X0.events,X0.runT,r,l];show e∈(g x.1).events P w _;rw[X0.events_acc];simp_all)|store m a v g d=>intro w w1 b h c;rcases TB v with y|y;{obtain⟨z,N⟩:=uB (P:=P) m a g y w;simp_all};simp only[tB m a g y,CW,qM,Eo]at h⊢;rw[oL m a g y]at c;(cases r:w.cell? a with|some u=>rw[r]at h c;simp only at h c⊢;split at h;{cases h};rename_i l;rw[if_neg l]at c;have:=d (w:=w.setCell a v) h λe i=>c e (by rw[X0.events_acc];simp_all);refine⟨this.1,this.2.1,λT D t=>?_⟩;exact(if_neg l).trans (this.2.2 T D t)|none=>rw[r]at h c;simp only at h c⊢;cases l:w.farStore P a v (m==.atomic)with|error z=>simp_all|ok x=>rw[l]at h c;simp only[Except.map]at h c⊢;have A:=uA l;have:=d (w:=x.1) h λe i=>c e (by rw[X0.events_acc];simp_all);simp_all)|new o g d=>intro w w1 b h c;exact d _ h c|shape k g d=>intro w w1 b h c;exact d _ h c|freeze a n g d=>intro w w1 b h c;(have A:(w.freeze a n).drawn=w.drawn/\(w.freeze a n).tape=w.tape:=by unfold Xr.freeze;grind);have:=d (w:=w.freeze a n) h c;rw[A.1,A.2]at this;simp only[X0.run,Dh];exact this|frozen a g d=>intro w w1 b h c;exact d _ h c|getObj k g d=>intro w w1 b h c;(cases f:w.heap[k]? with|none=>simp only[X0.run,f]at h;cases h|some o=>cases o<;>first|(simp only[X0.run,f]at h;cases h;done)|(simp only[X0.run,f,wC]at h⊢;refine d _ h λe i=>c e ?_;simp only[X0.events,X0.runT,f];show e∈(g _).events P w _;rw[X0.events_acc];exact Va.2 (.inr i)))|setObj k o g d=>intro w w1 b h c;cases f:w.heap[k]? with|none=>simp only[X0.run,f]at h;cases h|some L=>cases L<;>first|(simp only[X0.run,f]at h;cases h;done)|(simp only[X0.run,f,wC]at h⊢;refine d (w:={w with heap:=w.heap.setIfInBounds k o}) h λe i=>c e ?_;simp only[X0.events,X0.runT,f];show e∈g.events P _ _;rw[X0.events_acc];exact Va.2 (.inr i))
def nE(r:bB):bB:=λb=>if(r b).isSome then Xp b else Xv
theorem qj{k:Nat}(h:r b=Xp k):nE r b=Xp b:=by simp[nE,h]
theorem mX{k:Nat}(h:nE r b=Xp k):k=b/\∃j,r b=Xp j:=by unfold nE at h;split at h;{rename_i e;cases h;exact⟨rfl,Xo.1 e⟩};cases h
theorem dw.self{a a':Yc}(h:dw c r a a'):dw c (nE r) a a:=⟨qj h.1,rfl,rfl,h.2.2.2⟩
theorem mC{x:Array Xu}(b:x.size=x'.size)(h:∀(i:Nat)(v a:Xu),x[i]?=Xp v->x'[i]?=Xp a->ai c (nE r) v v):∀(i:Nat)(v a:Xu),x[i]?=Xp v->x[i]?=Xp a->ai c (nE r) v a:=by grind
theorem ai.self{v':Xu}(h:ai c r v v'):ai c (nE r) v v:=by induction h with|bool b=>exact .bool b|int k n=>exact .int k n|string s=>exact .string s|gf=>exact .gf|ptr a=>exact .ptr a.self|gu n m=>exact .gu n m|slice n m a=>exact .slice n m a.self|cE a l=>exact .cE a a|kO=>exact .kO|map a=>exact .map (qj a)|func g i _ j _ e f=>exact .func g rfl (mC i e) rfl (mC j f)|nilFunc=>exact .nilFunc|nilIface=>exact .nilIface|iface t _ d=>exact .iface t d|agg s _ d=>exact .agg rfl (mC s d)|tuple s _ d=>exact .tuple rfl (mC s d)
theorem aj.self{x:Array Xu}(h:aj c r x x'):aj c (nE r) x x:=⟨rfl,mC h.size λi v d a b=>(h.el i v d a b).self⟩
theorem mb.self{o o':Yf}(h:mb c r o o'):mb c (nE r) o o:=by cases h with|cells t f k=>exact .cells t f k.self|@map x j k s e=>refine .map k rfl λi d m a b=>?_;rw[a]at b;cases b;have g:=s▸(UD.1 a).1;have:=e i d _ a (UL g);exact⟨this.key.self,this.val.self,rfl⟩|iter s p=>exact .iter s p|number l a=>exact .number l a.self
theorem qd.self{o o':Option Yf}(h:qd c r b o o'):qd c (nE r) b o o:=by cases h with|@seen x g t m j s l z y e=>refine .seen t t _ s l (UB _) ⟨λ_=>rfl,y.2⟩ λi u p a b d=>?_;rw[b]at d;cases d;have f:=UC (UD.1 b).1 z;exact(e i u _ a b (UL f)).self|own n k=>exact .own n k.self
theorem cC.self{v:Xr}(h:cC c r w v):cC c (nE r) w w:=by refine⟨λb k e=>?_,λb k e=>?_,λb g k e d=>?_,h.qh,λb f e=>h.hid b f (by unfold nE at e;simp_all),λb k e=>?_,rfl,rfl,h.old,λb k e _=>(mX e).1.symm,h.iy.1,h.iy.1⟩;{obtain⟨rfl,j,a⟩:=mX e;exact h.qD _ _ a};{obtain⟨rfl,j,a⟩:=mX e;exact h.qD _ _ a};{exact .inl ((mX e).1.symm.trans (mX d).1)};obtain⟨rfl,j,a⟩:=mX e;exact(h.blk _ _ a).self
theorem kZ.self{l l':List (XO×Array Xu×List X3)}(h:kZ c r l l'):kZ c (nE r) l l:=by induction h with|nil=>exact .nil|cons a _ b=>exact .cons a.self b
theorem nY.self(h:nY c r s s'):nY c (nE r) s s:=⟨rfl,h.t.self,rfl,rfl,h.st.self⟩
theorem cC.re(h:cC c r w w)(T:Nat->Yi->Nat)(D:Nat):cC c r (re w T D) (re w T D):=⟨h.qD,h.ze,h.inj,h.qh,h.hid,h.blk,rfl,rfl,h.old,h.aL,h.iy⟩
theorem rq.zX{e:Ye}(h:rq c r e):e.loc≠.output:=by rcases h with⟨b,a,-⟩|h|⟨f,h⟩;{grind};{simp_all};simp_all
structure Fit(P:XN)(c:dx)(gl:Nat->Bool)(s:cy)(w:Xr):Prop where
 ok:wu P c gl s
 rel:∃r,cC c r w w/\nY c r s s/\∀g,gl g=Xq->r g=Xp g
theorem Fit.re(h:Fit P c gl s w)(T:Nat->Yi->Nat)(D:Nat):Fit P c gl s (re w T D):=by obtain⟨e,r,a,b,d⟩:=h;exact⟨e,r,a.re T D,b,d⟩
theorem Fit.AW{v:Xr}(d:wu P c gl s)(h:cC c r w v)(a:nY c r s s')(b:∀g,gl g=Xq->r g=Xp g):Fit P c gl s w:=⟨d,nE r,h.self,a.self,λg e=>qj (b g e)⟩
def bV(P:XN)(s:cy)(w:Xr)(s1:cy)(w1:Xr):Prop:=∃es,XA P Xq (s.g [ej]) w=.go (s1.g [ej]) w1 es
theorem F7(h:st.map up=st'.map up):st=st':=by induction st generalizing st' with|nil=>simp_all|cons x l a=>cases st' with|nil=>simp at h|cons y b=>simp only[Ve,VH]at h;have:=h.1;simp only[up,b8]at this;grind
theorem I0(h:s.g [ej]=s'.g [ej]):s=s':=by obtain⟨f,t,k,b,o⟩:=s;obtain⟨l,p,n,a,j⟩:=s';simp only[cy.g,G,b8,Xz.mk.injEq,XF.mk.injEq]at h;obtain⟨⟨d,e,g,-,m,-⟩,i,-⟩:=h;have:=F7 (XL i);subst d e g this;(have:b=a:=by cases b<;>cases a<;>simp_all[md]);rw[this]
theorem Fit.step(p:Listed P c gl){s:cy}{w:Xr}(h:Fit P c gl s w)(f:s.ret=Xq->s.st≠[]):(∃a b,bV P s w a b/\Fit P c gl a b)\/PV (XA P Xq (s.g [ej]) w):=by obtain⟨u,r,n,o,k⟩:=h;rcases sw p k n o u f with⟨a,b,d,i,t,y,C,v,A,j,x,q,-⟩|B;{refine .inl ⟨a,b,⟨d,i⟩,?_⟩;rw[i]at j;injection j with l m z;have:=I0 l;subst this m;exact⟨t,v,x.rel,q,λg e=>x.le _ _ (k g e)⟩};simp_all
theorem bV.O4{w1:Xr}(h:bV P s w s1 w1)(a:bV P s w s2 w2):s2=s1/\w2=w1:=by obtain⟨_,h⟩:=h;obtain⟨_,a⟩:=a;rw[h]at a;injection a with b d;exact⟨(I0 b).symm,d.symm⟩
def bH(P:XN)(s:cy)(w:Xr)(s1:cy)(w1:Xr):Prop:=
 w.drawn<=w1.drawn/\w1.tape=w.tape/\∀(T:Nat->Yi->Nat)(D:Nat),(∀j q,w.drawn+j<w1.drawn->T (D+j) q=w.tape (w.drawn+j) q)->bV P s (re w T D) s1 (re w1 T (D+(w1.drawn-w.drawn)))
theorem bH.ctl{w1:Xr}(a:bV P s w s1 w1)(h:∀w,XA P Xq (s.g [ej]) w=.go (s2.g [ej]) w #[]):bH P s w s1 w1:=by obtain⟨rfl,rfl⟩:=a.O4 ⟨#[],h w⟩;exact⟨UB _,rfl,λT D _=>⟨#[],by simp_all⟩⟩
theorem bV.gH{w1:Xr}(a:bV P s w s1 w1)(h:∃o w2,(XA P Xq (s.g [ej]) w).bare=.ended o w2):False:=by obtain⟨b,e⟩:=a;simp_all
theorem bV.qv{w1:Xr}{ch:List PanicEntry}(d:bV P s w s1 w1)(h:XA P Xq (s.g [ej]) w=.go (G (b8 f t k (.panicking ch)) cs) w2 es):False:=by obtain⟨a,e⟩:=d;rw[e]at h;injection h with h;simp only[cy.g,G,b8,Xz.mk.injEq,XF.mk.injEq]at h;have:=h.1.2.2.2.2.1;cases b:s1.ret<;>simp[md,b]at this
theorem bH.EU{β:Type}{w1:Xr}{x:X0 β}{b:β}(k:bV P s w s1 w1)(a:x.run P w=.ok b w2)(j:∀e∈x.events P w #[],e.loc≠.output)(h:∀w w2,x.run P w=.ok b w2->bV P s w s2 w2):bH P s w s1 w1:=by obtain⟨rfl,rfl⟩:=k.O4 (h w w2 a);obtain⟨d,f,g⟩:=zi x a j;exact⟨d,f,λT D i=>h _ _ (g T D i)⟩
theorem Kt(v:Listed P c gl){w1:Xr}(D:Fit P c gl ⟨f,t,.inRegion ops (i::rest)::k,WN,st⟩ w)(q:bV P ⟨f,t,.inRegion ops (i::rest)::k,WN,st⟩ w s1 w1)(l:ops[i]?=Xp o)(a:Region.wanted o (XM ops t)=Xq):bH P ⟨f,t,.inRegion ops (i::rest)::k,WN,st⟩ w s1 w1:=by obtain⟨L,r,J,H,E⟩:=D;have I:=H.t;obtain⟨p,R⟩:=L.tt;have z:=mR p l;have d:=tH v.aL v.ext z (ev:=(nF f t ops i rest k).eval) (λx g=>oM I E v.qh x g) (λ_=>⟨rfl,rfl⟩) w w J;cases g:(XE (nF f t ops i rest k).eval o).run P w with|halt h y=>rw[g]at d;by_cases B:∃u,h=.panic u;{obtain⟨u,rfl⟩:=B;exact(q.qv (k9 l a g)).elim};exact(q.gH (l8 l a g d (λu e=>B ⟨u,e⟩))).elim|ok n y=>rw[g]at d;obtain⟨T,W,U,O,X,M,A⟩:=d;cases M with|@value u V S=>exact bH.EU (s2:=⟨f,_,.inRegion ops rest::k,WN,st⟩) q g (λe m=>(A e m).zX) λw y e=>⟨_,(jh l a e).trans (by rfl)⟩|skip=>exact bH.EU (s2:=⟨f,_,.inRegion ops rest::k,WN,st⟩) q g (λe m=>(A e m).zX) λw y e=>⟨_,(jU l a e).trans (by rfl)⟩|@enter j x N F K=>obtain⟨n,b,C,Q⟩:=xV v F x N;exact bH.EU (s2:=⟨j,x++Array.replicate (n-x.size) XD,[.code b],WN,(f,t,.inRegion ops (i::rest)::k)::st⟩) q g (λe m=>(A e m).zX) λw y e=>⟨_,(jd l a e).trans (by rw[C.1];rfl)⟩
theorem Im{w1:Xr}(o:Fit P c gl ⟨f,t,k,Xq,(f0,t0,.inRegion ops (i::rest)::k0)::st⟩ w)(l:bV P ⟨f,t,k,Xq,(f0,t0,.inRegion ops (i::rest)::k0)::st⟩ w s1 w1):bH P ⟨f,t,k,Xq,(f0,t0,.inRegion ops (i::rest)::k0)::st⟩ w s1 w1:=by obtain⟨A,r,s,p,z⟩:=o;have q:=p.t;cases b:P.funcs[f]? with|none=>refine bH.ctl (s2:=⟨f0,(match(ops[i]?).bind (·.dst)with|some d=>t0.setIfInBounds d (t.getD 0 XD)|none=>t0),.inRegion ops rest::k0,WN,st⟩) l λw=>?_;refine(bJ b).trans ?_;rfl|some j=>have a:=j2 j q (P:=P) w w s;cases m:(results j t).run P w with|halt h w1=>exact(l.gH (cX b m)).elim|ok u x=>rw[m]at a;obtain⟨D,E,C,y,F,B,v⟩:=a;refine bH.EU (s2:=⟨f0,(match(ops[i]?).bind (·.dst)with|some d=>t0.setIfInBounds d u|none=>t0),.inRegion ops rest::k0,WN,st⟩) l m (λe n=>(v e n).zX) λw x e=>⟨seen P f ((results j t).events P w #[]),?_⟩;refine(aR b e).trans ?_;rfl
theorem bV.tape(F:Listed P c gl){w1:Xr}(y:Fit P c gl s w)(H:s.ret=Xq->s.st≠[])(h:bV P s w s1 w1):bH P s w s1 w1:=by obtain⟨f,t,k,A,j⟩:=s;cases A with|true=>(cases j with|nil=>simp_all|cons x l=>obtain⟨K,N,M⟩:=x;obtain⟨-,-,g,i,p,D,e⟩:=y.ok.below _ (UM ..);subst e;exact Im y h)|false=>cases k with|nil=>exact bH.ctl (s2:=⟨f,t,[],Xq,j⟩) h (λ_=>by rfl)|cons x k=>have m:=y.ok.items;cases x with|code a=>(cases a with|skip=>exact bH.ctl (s2:=⟨f,t,k,WN,j⟩) h (λ_=>by rfl)|label l=>exact bH.ctl (s2:=⟨f,t,k,WN,j⟩) h (λ_=>by rfl)|ret=>exact bH.ctl (s2:=⟨f,t,.code .ret::k,Xq,j⟩) h (λ_=>by rfl)|seq a b=>exact bH.ctl (s2:=⟨f,t,.code a::.code b::k,WN,j⟩) h (λ_=>by rfl)|block id a=>exact bH.ctl (s2:=⟨f,t,.code a::.inBlock id::k,WN,j⟩) h (λ_=>by rfl)|loop a=>exact bH.ctl (s2:=⟨f,t,.code a::.inLoop a::k,WN,j⟩) h (λ_=>by rfl)|scope a=>exact bH.ctl (s2:=⟨f,t,.code a::.inScope a::k,WN,j⟩) h (λ_=>by rfl)|refuse J=>exact(h.gH ⟨_,w,by rfl⟩).elim|exit id=>(cases z:exitTo id k with|none=>exact(h.gH ⟨_,w,by rw[cy.vD,iQ z];rfl⟩).elim|some D=>exact bH.ctl (s2:=⟨f,t,D,WN,j⟩) h (λ_=>by simp[cy.g,G,XA,XA.exec,b8,md,z]))|cond x a b=>(cases I:(b8 f t (.code (.cond x a b)::k) .run).eval x with|bool u=>exact bH.ctl (s2:=⟨f,t,.code (if u then a else b)::k,WN,j⟩) h λ_=>jX I|_=>exact(h.gH (jO λu e=>by simp_all)).elim)|region id g q=>(cases q with|false=>exact bH.ctl (s2:=⟨f,t,.inRegion g (List.range g.size)::k,WN,j⟩) h (λ_=>by rfl)|true=>have E:∀w:Xr,∃u B,(choose (.order f id)).run P w=.ok u B:=λw=>⟨_,_,rfl⟩;obtain⟨u,B,e⟩:=E w;refine bH.EU (s2:=⟨f,t,.inRegion g (Region.schedule (P.follows .mixedOrders) g u)::k,WN,j⟩) h e (λe z=>by simp_all) λw B e=>⟨#[],?_⟩;rw[cy.vD,kl,e];rfl)|rangeFunc _ _ _ _=>simp[aW,codeOk]at m|goto l=>simp[aW,codeOk]at m)|inBlock id=>exact bH.ctl (s2:=⟨f,t,k,WN,j⟩) h (λ_=>by rfl)|inLoop a=>exact bH.ctl (s2:=⟨f,t,.code a::.inLoop a::k,WN,j⟩) h (λ_=>by rfl)|inScope a=>exact bH.ctl (s2:=⟨f,t,k,WN,j⟩) h (λ_=>by rfl)|inRegion g l=>(cases l with|nil=>exact bH.ctl (s2:=⟨f,t,k,WN,j⟩) h (λ_=>by rfl)|cons i p=>cases v:((g[i]?).map (Region.wanted · (XM g t))).getD WN with|true=>(cases C:g[i]? with|none=>simp_all|some o=>exact Kt F y h C (by simp_all))|false=>refine bH.ctl (s2:=⟨f,(match(g[i]?).bind (·.dst)with|some d=>t.setIfInBounds d XD|none=>t),.inRegion g p::k,WN,j⟩) h λw=>(stepG_unwanted v).trans ?_;rfl)|inRangeFunc _=>simp[aW]at m|endRangeFunc _=>simp[aW]at m|beginRound=>simp[aW]at m|call _ _ _ _=>simp[aW]at m|extern _ _=>simp[aW]at m
def xD(fr:XF)(cs:List XF):Prop:=
 (∃(f:XO)(t:Array Xu)(k:List X3)(ch:List PanicEntry)(st:List (XO×Array Xu×List X3)),fr=b8 f t k (.panicking ch)/\cs=st.map up++[ej]/\(∀d w r sv,k.head?≠Xp (.call d w r sv))/\∀x∈st,∃ops i rest k',x.2.2=.inRegion ops (i::rest)::k')\/
 (((∃ch,fr={ej with mode:=.panicking ch})\/fr=ej\/fr={ej with mode:=.returning})/\cs=[])
theorem xD.not{fr:XF}(h:xD fr [ej])(a:fr.mode=.returning):False:=by rcases h with⟨f,t,k,b,d,rfl,-⟩|⟨-,h⟩;{simp[b8]at a};cases h
theorem vg{fr:XF}(h:xD fr cs)(w:Xr):(∃n m w',step P (lone fr cs w)=.next (lone n m w')/\xD n m)\/∃o w',step P (lone fr cs w)=.ended o w':=by rcases h with⟨f,t,k,j,A,rfl,rfl,B,q⟩|⟨h,rfl⟩;{(have u:(b8 f t k (.panicking j)).catches P=WN:=by unfold XF.catches;simp only[b8];grind);(have p:∀(x:XF)(l:List XF),XA P Xq {frame:=b8 f t k (.panicking j),callers:=x::l,status:=.running,dying:=Xv} w=.go {frame:=x.raise j,callers:=l,status:=.running,dying:=Xv} w #[]:=by intro x l;unfold XF.catches b8 at u;simp[XA,unwind,b8,XF.catches];simp_all);cases A with|nil=>exact .inl ⟨_,_,w,step_lone_go (by rw[show List.map up []++[ej]=[ej]from rfl,p];rfl),.inr ⟨.inl ⟨j,rfl⟩,rfl⟩⟩|cons x l=>obtain⟨z,i,s,C,e⟩:=q x (UM ..);refine .inl ⟨_,_,w,step_lone_go (by rw[show List.map up (x::l)++[ej]=up x::(List.map up l++[ej])from rfl,p];rfl),.inl ⟨x.1,x.2.1,x.2.2,j,l,rfl,rfl,λd w r D=>by grind,λy v=>q y (U1 _ v)⟩⟩};refine ?_;rcases h with⟨j,rfl⟩|rfl|rfl;{exact .inr ⟨_,w,step_lone_ended (by rfl)⟩};{exact .inl ⟨_,_,w,step_lone_go (by rfl),.inr ⟨.inr (.inr rfl),rfl⟩⟩};exact .inr ⟨_,w,step_lone_ended (by rfl)⟩
section
theorem runN_add:∀{k:Nat}{m m':Machine},runN P i m=.next m'->runN P (i+k) m=runN P k m':=by induction i with|zero=>intro k m m' h;cases h;simp|succ i a=>intro k m m' h;rw[show i+1+k=(i+k)+1 by omega];simp only[runN]at h⊢;grind
theorem zd{m m':Machine}(h:step P m=.next m'):runN P 1 m=.next m':=by simp[runN,h]
theorem n0:∀(n:Nat){fr:XF}{cs:List XF}{w:Xr},xD fr cs->∀{fr':XF}{w':Xr},runN P n (lone fr cs w)=.next (lone fr' [ej] w')->fr'.mode=.returning->False:=by intro n;induction n with|zero=>intro fr cs w h fr' w' e a;simp only[runN,lone,Stepped.next.injEq,Machine.mk.injEq]at e;have:=e.2.1;obtain⟨rfl,rfl⟩:=this;exact h.not a|succ n j=>intro fr cs w h fr' w' e a;simp only[runN]at e;rcases vg (P:=P) h w with⟨f,b,g,d,i⟩|⟨o,g,d⟩;{grind};simp_all
def k7(s:cy)(w:Xr):Machine:=lone (b8 s.f s.t s.k (md s.ret)) (s.st.map up++[ej]) w
theorem gk{w1:Xr}{fr:XF}(h:XA P Xq (s.g [ej]) w=.go (G fr cs) w1 es):step P (k7 s w)=.next (lone fr cs w1):=step_lone_go (by have:XA P Xq {frame:=b8 s.f s.t s.k (md s.ret),callers:=s.st.map up++[ej],status:=.running,dying:=Xv} w=.go (G fr cs) w1 es:=h;rw[this];rfl)
theorem bV.Re{w1:Xr}(h:bV P s w s1 w1):step P (k7 s w)=.next (k7 s1 w1):=by obtain⟨a,e⟩:=h;exact gk e
theorem Eb(h:PV (XA P Xq (s.g [ej]) w))(e:runN P (n+1) (k7 s w)=.next (lone fr' [ej] w'))(i:fr'.mode=.returning):False:=by simp only[runN]at e;rcases h with⟨o,a,h⟩|⟨f,t,k,b,j,a,l,h,d,g⟩;{rw[show step P (k7 s w)=.ended o a from step_lone_ended h]at e;cases e};rw[gk h]at e;exact n0 n (.inl ⟨f,t,k,b,j,rfl,rfl,d,g⟩) e i
theorem PV.not{w1:Xr}(a:bV P s w s1 w1)(h:PV (XA P Xq (s.g [ej]) w)):False:=by rcases h with h|⟨f,t,k,b,e,w1,d,h,-⟩;{exact a.gH h};exact a.qv h
def EV(s:cy):Prop:=s.ret=Xq/\s.st=[]
theorem Di(p:EV s)(e:runN P (n+1) (k7 s w)=.next (lone fr' [ej] w'))(j:fr'.mode=.returning):False:=by obtain⟨f,t,k,q,z⟩:=s;obtain⟨d,g⟩:=p;subst d g;have i:xD ej []:=.inr ⟨.inr (.inl rfl),rfl⟩;have a:∀v,ej.finish v=ej:=λv=>rfl;simp only[runN]at e;cases b:P.funcs[f]? with|none=>rw[gk ((bJ b).trans (by rw[a]))]at e;exact n0 n i e j|some m=>cases l:(results m t).run P w with|halt h r=>obtain⟨o,y,h⟩:=cX b l;rw[show step P (k7 ⟨f,t,k,Xq,[]⟩ w)=.ended o y from step_lone_ended h]at e;cases e|ok u r=>rw[gk ((aR b l).trans (by rw[a]))]at e;exact n0 n i e j
inductive Lone(P:XN)(Good:Xu->Xr->Prop):cy->Xr->Prop
 |done{s:cy}{w:Xr}{fn:Func}{v:Xu}:EV s->P.funcs[s.f]?=Xp fn->(∀T D,(results fn s.t).run P (re w T D)=.ok v (re w T D)/\Good v (re w T D))->Lone P Good s w
 |step{s:cy}{w:Xr}:¬EV s->(∀T D,∃s1 w1,bV P s (re w T D) s1 w1)->(∀T D s1 w1,bV P s (re w T D) s1 w1->Lone P Good s1 w1)->Lone P Good s w
section bar
variable(P)(Good:Xu->Xr->Prop)
noncomputable def uU(p:cy×Xr):(Nat->Yi->Nat)×Nat:=open Classical in
 if h:∃a:(Nat->Yi->Nat)×Nat,∀s1 w1,bV P p.1 (re p.2 a.1 a.2) s1 w1->¬Lone P Good s1 w1 then Classical.choose h else(λ_ _=>0,0)
def Live(p:cy×Xr):Prop:=¬EV p.1/\∃q:cy×Xr,bV P p.1 (re p.2 (uU P Good p).1 (uU P Good p).2) q.1 q.2
noncomputable def G7(p:cy×Xr):cy×Xr:=open Classical in if h:Live P Good p then Classical.choose h.2 else p
noncomputable def iq(p:cy×Xr):Nat->cy×Xr
 |0=>p
 |i+1=>G7 P Good (iq p i)
noncomputable def pos(p:cy×Xr):Nat->Nat
 |0=>0
 |i+1=>open Classical in if Live P Good (iq P Good p i)then pos p i+((iq P Good p (i+1)).2.drawn-(uU P Good (iq P Good p i)).2)else pos p i
def PT(p:cy×Xr)(i n:Nat):Prop:=pos P Good p i<=n/\(n<pos P Good p (i+1)\/¬Live P Good (iq P Good p i))
noncomputable def xK(p:cy×Xr)(n:Nat)(q:Yi):Nat:=open Classical in
 if h:∃i,PT P Good p i n then(uU P Good (iq P Good p (Classical.choose h))).1 ((uU P Good (iq P Good p (Classical.choose h))).2+(n-pos P Good p (Classical.choose h))) q else 0
end bar
section bar
variable{Good:Xu->Xr->Prop}{p:cy×Xr}
theorem Fg(k:¬Lone P Good s w)(l:¬EV s):∀d e,bV P s (re w (uU P Good (s,w)).1 (uU P Good (s,w)).2) d e->¬Lone P Good d e:=by(have h:∃a:(Nat->Yi->Nat)×Nat,∀d e,bV P s (re w a.1 a.2) d e->¬Lone P Good d e:=by refine Vq λj=>k ?_;refine .step l (λT D=>?_) (λT D d e g=>?_);{refine Vq λf=>j ⟨(T,D),λd e g=>absurd ⟨d,e,g⟩ f⟩};refine Vq λf=>j ⟨(T,D),λm n i=>?_⟩;obtain⟨rfl,rfl⟩:=g.O4 i;exact f);unfold uU;grind
theorem zP(h:Live P Good p):bV P p.1 (re p.2 (uU P Good p).1 (uU P Good p).2) (G7 P Good p).1 (G7 P Good p).2:=by unfold G7;grind
theorem zH(h:¬Live P Good p):G7 P Good p=p:=by unfold G7;simp_all
theorem tz(h:Live P Good (iq P Good p i)):pos P Good p (i+1)=pos P Good p i+((iq P Good p (i+1)).2.drawn-(uU P Good (iq P Good p i)).2):=by exact@if_pos _ (Classical.propDecidable _) h _ _ _
theorem zh(h:¬Live P Good (iq P Good p i)):pos P Good p (i+1)=pos P Good p i:=by exact@if_neg _ (Classical.propDecidable _) h _ _ _
theorem Fb{j:Nat}(h:i<=j):pos P Good p i<=pos P Good p j:=by induction h with|refl=>omega|@step m _ b=>by_cases a:Live P Good (iq P Good p m);{rw[tz a];omega};rw[zh a];omega
theorem Df{j:Nat}(h:i<=j)(d:¬Live P Good (iq P Good p i)):iq P Good p j=iq P Good p i/\pos P Good p j=pos P Good p i:=by induction h with|refl=>simp|@step m _ b=>(have a:¬Live P Good (iq P Good p m):=by simp_all);exact⟨(zH a).trans b.1,(zh a).trans b.2⟩
theorem He(h:PT P Good p i n)(q:Yi):xK P Good p n q=(uU P Good (iq P Good p i)).1 ((uU P Good (iq P Good p i)).2+(n-pos P Good p i)) q:=by(have g:∀{i j:Nat},i<=j->PT P Good p i n->PT P Good p j n->iq P Good p j=iq P Good p i/\pos P Good p j=pos P Good p i:=by intro i j a e f;by_cases d:Live P Good (iq P Good p i);{rcases Nat.eq_or_lt_of_le a with rfl|b;{simp};have:=Fb (P:=P) (Good:=Good) (p:=p) (show i+1<=j from b);rcases e.2 with h|h;{have:=f.1;omega};simp_all};exact Df a d);have k:∃i,PT P Good p i n:=⟨i,h⟩;unfold xK;grind
variable(hl:Listed P c gl)
include hl
theorem wD(j:Fit P c gl p.1 p.2)(k:¬Lone P Good p.1 p.2):∀i,Fit P c gl (iq P Good p i).1 (iq P Good p i).2/\¬Lone P Good (iq P Good p i).1 (iq P Good p i).2:=by intro i;induction i with|zero=>exact⟨j,k⟩|succ i b=>show Fit P c gl (G7 P Good (iq P Good p i)).1 (G7 P Good (iq P Good p i)).2/\¬Lone P Good (G7 P Good (iq P Good p i)).1 (G7 P Good (iq P Good p i)).2;by_cases h:Live P Good (iq P Good p i);{have a:=zP h;refine⟨?_,Fg b.2 h.1 _ _ a⟩;rcases(b.1.re _ _).step hl (λe d=>h.1 ⟨e,d⟩)with⟨o,q,f,n⟩|g;{obtain⟨l,m⟩:=f.O4 a;simp_all};exact(g.not a).elim};rw[zH h];exact b
theorem IU(g:Fit P c gl p.1 p.2)(k:¬Lone P Good p.1 p.2)(h:Live P Good (iq P Good p i)):bV P (iq P Good p i).1 (re (iq P Good p i).2 (xK P Good p) (pos P Good p i)) (iq P Good p (i+1)).1 (re (iq P Good p (i+1)).2 (xK P Good p) (pos P Good p (i+1))):=by have l:=zP h;obtain⟨m,n,d⟩:=l.tape hl ((wD hl g k i).1.re _ _) (λe b=>h.1 ⟨e,b⟩);have a:(iq P Good p (i+1))=G7 P Good (iq P Good p i):=rfl;(have:=d (xK P Good p) (pos P Good p i) λj q o=>by have f:PT P Good p i (pos P Good p i+j):=⟨Vj ..,.inl (by rw[tz h,a];have:(re (iq P Good p i).2 (uU P Good (iq P Good p i)).1 (uU P Good (iq P Good p i)).2).drawn=(uU P Good (iq P Good p i)).2:=rfl;omega)⟩;rw[He f];show _=(uU P Good (iq P Good p i)).1 ((uU P Good (iq P Good p i)).2+j) q;simp);rw[tz h,a];exact this
theorem CQ(a:Fit P c gl p.1 p.2)(b:¬Lone P Good p.1 p.2):∀i,(∀l,l<i->Live P Good (iq P Good p l))->runN P i (k7 p.1 (re p.2 (xK P Good p) 0))=.next (k7 (iq P Good p i).1 (re (iq P Good p i).2 (xK P Good p) (pos P Good p i))):=by intro i;induction i with|zero=>intro _;rfl|succ i d=>intro h;rw[runN_add (d λl hl=>h l Ω)];exact zd (IU hl a b (h i Ω)).Re
theorem oU(o:∀v w T D,Good v w->Good v (re w T D))(W:Fit P c gl s w)(H:∀T,∃n K w' v,runN P n (k7 s (re w T 0))=.next (lone K [ej] w')/\K.leaving P w' (.returned v)/\Good v w'):Lone P Good s w:=by refine Vq λhn=>?_;have f:Fit P c gl (s,w).1 (s,w).2:=W;have g:¬Lone P Good (s,w).1 (s,w).2:=hn;obtain⟨n,K,w',v,E,⟨C,hd,hk,J,R,h⟩,X⟩:=H (xK P Good (s,w));by_cases z:∀l,l<n->Live P Good (iq P Good (s,w) l);{have:=CQ hl f g n z;rw[show k7 (s,w).1 (re (s,w).2 (xK P Good (s,w)) 0)=k7 s (re w (xK P Good (s,w)) 0)from rfl,E]at this;obtain⟨a,b⟩:=wD hl f g n;generalize iq P Good (s,w) n=q at this a b;simp only[k7,lone,Stepped.next.injEq,Machine.mk.injEq,Array.mk.injEq,VH,Xz.mk.injEq,and_true]at this;obtain⟨rfl,rfl,A⟩:=this;(have B:EV q.1:=by refine⟨?_,?_⟩;{cases E:q.1.ret with|true=>rfl|false=>rw[E]at C;cases C};cases hq:q.1.st with|nil=>rfl|cons x l=>rw[hq]at A;have:=congrArg List.length A;grind);refine b (.done (v:=v) B R λT D=>?_);(have O:∀e∈(results J q.1.t).events P (re q.2 (xK P Good (s,w)) (pos P Good (s,w) n)) #[],e.loc≠.output:=by obtain⟨ok,r,L,y,-⟩:=a.re (xK P Good (s,w)) (pos P Good (s,w) n);have:=j2 J y.t (P:=P) _ _ L;rw[show(results J q.1.t).run P (re q.2 (xK P Good (s,w)) (pos P Good (s,w) n))=_ from h]at this;obtain⟨_,_,r1,_,_,_,l1⟩:=this;exactλe V=>(l1 e V).zX);obtain⟨-,-,M⟩:=zi _ h O;have N:=M T D λj q Z=>absurd Z Ω;rw[WR]at N;exact⟨N,o v (re q.2 (xK P Good (s,w)) (pos P Good (s,w) n)) T D X⟩};(have:∃i,i<n/\¬Live P Good (iq P Good (s,w) i)/\∀l,l<i->Live P Good (iq P Good (s,w) l):=by(have Q:∃i,i<n/\¬Live P Good (iq P Good (s,w) i):=by simp_all);obtain⟨i,hi⟩:=Q;induction i using Nat.strongRecOn with|_ i ih=>grind);obtain⟨i,Y,d,u⟩:=this;have L:=CQ hl f g i u;obtain⟨k,rfl⟩:∃k,n=i+(k+1):=⟨n-i-1,by omega⟩;have y:=runN_add (k:=k+1) L;rw[show k7 (s,w).1 (re (s,w).2 (xK P Good (s,w)) 0)=k7 s (re w (xK P Good (s,w)) 0)from rfl,E]at y;obtain⟨a,b⟩:=wD hl f g i;by_cases F:EV (iq P Good (s,w) i).1;{exact Di F y.symm C};rcases(a.re (xK P Good (s,w)) (pos P Good (s,w) i)).step hl (λe I=>F ⟨e,I⟩)with⟨s1,w1,M,N⟩|U;{obtain⟨-,-,S⟩:=M.tape hl (a.re _ _) (λe I=>F ⟨e,I⟩);(have:=S (uU P Good (iq P Good (s,w) i)).1 (uU P Good (iq P Good (s,w) i)).2 λj q _=>by show _=xK P Good (s,w) (pos P Good (s,w) i+j) q;rw[He (i:=i) ⟨Vj ..,.inr d⟩,WX]);exact d ⟨F,(s1,_),this⟩};exact Eb U y.symm C
end bar
end
end Go.ab
