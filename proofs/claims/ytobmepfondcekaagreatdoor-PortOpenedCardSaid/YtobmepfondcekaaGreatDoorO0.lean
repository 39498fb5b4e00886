/- A part of the proof of PortOpened. Conditions: none. -/
import Derived.KernelRfl
import GoSem.Core.Value
import Derived.Conc.Own4
import Derived.Conc.SmallLaws
import Derived.Conc.Listed
import Derived.Calls
import Derived.Conc.Own
import Derived.Conc.Events
set_option linter.all false
open Go renaming Addr->Wq,Code->WE,Event->Wv,Frame->VU,FuncId->V8,Goroutine->VK,Item->Wg,MapEntry->WB,Obj->Ws,Oper->WA,Program->V6,Result->Wp,Sem->Wl,TypeId->VX,Value->VI,World->VH,execOp->VR,stepG->VO,undef->VP,yielded->V5
open Bool renaming false->Vo,true->VG
open Option renaming none->VJ,some->VF
abbrev Ti:=@Nat.le_refl
abbrev Tj:=@Nat.lt_of_lt_of_le
abbrev Tk:=@Array.getElem?_eq_some_iff
abbrev Tl:=@Bool.and_eq_true
abbrev Tm:=@List.getElem?_eq_getElem
abbrev Tn:=@List.mem_of_getElem?
abbrev To:=@List.mem_map
abbrev Tp:=@Array.getD_eq_getD_getElem?
abbrev Tq:=@List.mem_cons
abbrev Ts:=@Option.map_eq_some_iff
abbrev Tt:=@Array.getElem?_eq_getElem
abbrev Tu:=@Option.some.injEq
abbrev Tv:=@Option.map_some
abbrev Tw:=@Prod.mk.injEq
abbrev Tx:=@List.getElem?_eq_some_iff
abbrev Ty:=@List.getElem?_map
abbrev Tz:=@List.mem_iff_getElem?
abbrev TA:=@Iff.rfl
abbrev TB:=@List.mem_append
abbrev TC:=@Nat.lt_irrefl
abbrev TD:=@List.mem_cons_self
abbrev TE:=@Array.getElem?_replicate
abbrev TF:=@List.all_eq_true
abbrev TG:=@Bool.false_eq_true
abbrev TH:=@Nat.zero_le
abbrev TJ:=@Array.getElem?_setIfInBounds_ne
abbrev TK:=@Nat.le_trans
abbrev TL:=@Nat.le_of_lt
abbrev TM:=@List.all_cons
abbrev TN:=@Nat.lt_or_ge
abbrev TO:=@Option.bind_eq_some_iff
abbrev TP:=@Array.getElem?_push
abbrev TQ:=@Option.getD_some
abbrev TR:=@Prod.mk.inj
abbrev TS:=@Array.mem_append
abbrev TT:=@List.map_cons
abbrev TU:=@List.not_mem_nil
abbrev TV:=@List.mem_cons_of_mem
abbrev TW:=@Nat.add_zero
abbrev TX:=@Nat.le_add_right
abbrev TY:=@Nat.le_of_ble_eq_true
abbrev TZ:=@Option.some.inj
abbrev T0:=@List.length_eq_zero_iff
abbrev T1:=@Array.mem_of_getElem?
abbrev T2:=@List.mem_append_right
abbrev T3:=@Nat.eq_zero_or_pos
abbrev T4:=@Classical.byContradiction
abbrev T5:=@Array.getElem?_modify
abbrev T6:=@List.any_eq_true
abbrev T7:=@List.mem_append_left
abbrev T8:=@Bool.or_eq_true
abbrev T9:=@List.mem_filter
abbrev Ua:=@List.map_nil
abbrev Ub:=@Nat.le_succ
abbrev Uc:=@Nat.mul_comm
abbrev Ud:=@Nat.add_assoc
abbrev Ue:=@Option.bind_some
abbrev Uf:=@List.getElem?_append_left
abbrev Ug:=@List.length_append
abbrev Uh:=@Nat.zero_add
abbrev Ui:=@List.append_nil
abbrev Uj:=@Nat.not_lt_zero
abbrev Uk:=@List.take_of_length_le
abbrev Ul:=@Array.ext_getElem?
abbrev Um:=@Nat.le_of_eq
abbrev Un:=@List.cons.injEq
abbrev Uo:=@List.nodup_cons
abbrev Up:=@List.append_assoc
abbrev Uq:=@Array.getElem?_map
abbrev Ur:=@Nat.add_comm
abbrev Us:=@List.mem_singleton
abbrev Ut:=@List.drop_eq_getElem_cons
abbrev Uu:=@Nat.ne_of_lt
abbrev Uv:=@Array.getElem?_setIfInBounds
abbrev Uw:=@Bool.false_and
abbrev Ux:=@List.length_cons
abbrev Uy:=@List.perm_middle
abbrev Uz:=@Nat.mod_lt
abbrev UA:=@Nat.pos_of_ne_zero
abbrev UB:=@List.getElem_mem
abbrev UC:=@List.count_cons_of_ne
abbrev UD:=@List.foldl_cons
abbrev UE:=@Bool.or_true
abbrev UF:=@Bool.and_self
abbrev UG:=@List.map_toArray
abbrev UH:=@List.take_add_one
abbrev UI:=@List.getElem_toArray
abbrev UJ:=@List.getElem_cons_succ
abbrev UK:=@List.getElem_cons_zero
abbrev UL:=@List.setIfInBounds_toArray
abbrev UM:=@List.set_cons_zero
abbrev UN:=@List.set_cons_succ
abbrev UO:=@Array.getElem?_mapIdx
abbrev UP:=@Bool.eq_false_iff
abbrev UQ:=@Bool.or_false
abbrev UR:=@List.nodup_nil
abbrev US:=@Int.add_zero
abbrev UT:=@List.nil_append
abbrev UU:=@Array.all_eq_true_iff_forall_mem
abbrev UW:=@List.getElem?_cons_succ
abbrev UX:=@Nat.lt_or_eq_of_le
abbrev UY:=@Array.mem_iff_getElem
abbrev UZ:=@Bool.toNat_le
abbrev U0:=@List.range_succ
abbrev U1:=@List.ext_getElem?
abbrev U2:=@Array.size_mapIdx
abbrev U3:=@List.mem_flatMap
abbrev U4:=@List.foldl_append
abbrev U5:=@List.take_length
abbrev U6:=@Array.getElem?_eq_none
abbrev U7:=@Array.mem_push
abbrev U8:=@List.map_append
abbrev U9:=@List.mem_map_of_mem
abbrev Va:=@List.drop_of_length_le
abbrev Vb:=@Nat.pow_le_pow_right
abbrev Ve:=@List.getElem?_toArray
abbrev Vf:=@Array.length_toList
abbrev Vg:=@Bool.true_or
abbrev Vh:=@List.getElem?_append_right
abbrev Vi:=@List.cons_append
abbrev Vj:=@List.all_nil
abbrev Vk:=@Nat.le_of_lt_succ
abbrev Vl:=@Nat.sub_self
abbrev Vm:=@List.mapIdx_cons
abbrev Vn:=@List.take_succ_eq_append_getElem
abbrev Vp:=@List.getElem?_range
abbrev Vq:=@List.map_eq_nil_iff
abbrev Vr:=@List.length_nil
abbrev Vs:=@Array.getElem?_append_left
abbrev Vt:=@Nat.mul_le_mul_right
abbrev Vu:=@Nat.ne_of_beq_eq_false
abbrev Vv:=@Nat.lt_of_le_of_lt
abbrev Vw:=@Nat.zero_mul
abbrev Vx:=@Nat.le_of_not_lt
abbrev Vy:=@Nat.add_sub_cancel_left
abbrev Vz:=@List.count_append
abbrev VA:=@Nat.testBit_lt_two_pow
abbrev VB:=@List.foldlM_cons
abbrev VC:=@Nat.testBit_two_pow_mul_add
abbrev VD:=@Option.isSome_none
abbrev VE:=@Bool.false_or
abbrev VL:=@Array.getElem_setIfInBounds
abbrev VM:=@Array.getElem?_push_lt
abbrev VN:=@Option.isSome_iff_exists
abbrev VQ:=@List.length_pos_iff
abbrev VS:=@List.eq_nil_of_length_eq_zero
abbrev VW:=@List.mem_of_mem_take
abbrev VY:=@List.extract_eq_take_drop
abbrev VZ:=@List.flatMap_eq_nil_iff
abbrev V0:=@Array.getElem?_of_mem
abbrev V1:=@Int.fdiv_eq_ediv_of_nonneg
abbrev V2:=@Array.toList_append
abbrev V3:=@List.count_cons_self
abbrev V4:=@List.mem_of_mem_drop
abbrev V7:=@List.take_subset_take_left
abbrev Wb:=@Array.getElem!_eq_getD
abbrev Wh:=@Array.mapM_eq_foldlM
abbrev Wi:=@Array.foldlM_toList
abbrev Wj:=@List.append_cancel_right
abbrev Wk:=@List.perm_append_comm_assoc
abbrev Wm:=@Nat.and_two_pow_sub_one_eq_mod
abbrev Wn:=@Nat.two_pow_add_eq_or_of_lt
abbrev Wr:=@Array.map_congr_left
abbrev Wt:=@List.eq_nil_or_concat
abbrev Wu:=@Array.getElem?_setIfInBounds_self_of_lt
namespace Go
abbrev Iv(n:Int):VI:=.int .i64 n
variable{p:Prop}
theorem Ψ(h:p:=by kernel_rfl):p:=h
theorem Δ(h:p:=by decide):p:=h
theorem Ω(h:p:=by omega):p:=h
theorem Θ(h:p:=by simp):p:=h
theorem Ξ(h:p:=by rw[hP];kernel_rfl):p:=h
theorem Λ(h:p:=by rw[hP];exact .all):p:=h
theorem Υ(h:p:=by intro p hp;simp only[Tq,TU,or_false]at hp;(repeat'(refine Or.elim hp ?_ ?_<;>intro hp));(all_goals subst hp);all_goals first|(left;simp;done)|(refine .inr ⟨0,?_,hdep 0 ?_⟩;rotate_left;kernel_rfl;simp;done)|(refine .inr ⟨1,?_,hdep 1 ?_⟩;rotate_left;kernel_rfl;simp;done)|(refine .inr ⟨2,?_,hdep 2 ?_⟩;rotate_left;kernel_rfl;simp;done)|(refine .inr ⟨3,?_,hdep 3 ?_⟩;rotate_left;kernel_rfl;simp;done)|(refine .inr ⟨4,?_,hdep 4 ?_⟩;rotate_left;kernel_rfl;simp;done)|(refine .inr ⟨5,?_,hdep 5 ?_⟩;rotate_left;kernel_rfl;simp;done)|(refine .inr ⟨6,?_,hdep 6 ?_⟩;rotate_left;kernel_rfl;simp;done)|(refine .inr ⟨7,?_,hdep 7 ?_⟩;rotate_left;kernel_rfl;simp;done)|(refine .inr ⟨8,?_,hdep 8 ?_⟩;rotate_left;kernel_rfl;simp;done)|(refine .inr ⟨9,?_,hdep 9 ?_⟩;rotate_left;kernel_rfl;simp;done)|(refine .inr ⟨10,?_,hdep 10 ?_⟩;rotate_left;kernel_rfl;simp;done)|(refine .inr ⟨11,?_,hdep 11 ?_⟩;rotate_left;kernel_rfl;simp;done)|(refine .inr ⟨12,?_,hdep 12 ?_⟩;rotate_left;kernel_rfl;simp;done)|(refine .inr ⟨13,?_,hdep 13 ?_⟩;rotate_left;kernel_rfl;simp;done)|(refine .inr ⟨14,?_,hdep 14 ?_⟩;rotate_left;kernel_rfl;simp;done)|(refine .inr ⟨15,?_,hdep 15 ?_⟩;rotate_left;kernel_rfl;simp;done)|(refine .inr ⟨16,?_,hdep 16 ?_⟩;rotate_left;kernel_rfl;simp;done)|(refine .inr ⟨17,?_,hdep 17 ?_⟩;rotate_left;kernel_rfl;simp;done)|(refine .inr ⟨18,?_,hdep 18 ?_⟩;rotate_left;kernel_rfl;simp;done)|(refine .inr ⟨19,?_,hdep 19 ?_⟩;rotate_left;kernel_rfl;simp;done)|(refine .inr ⟨20,?_,hdep 20 ?_⟩;rotate_left;kernel_rfl;simp;done)|(refine .inr ⟨21,?_,hdep 21 ?_⟩;rotate_left;kernel_rfl;simp;done)|(refine .inr ⟨22,?_,hdep 22 ?_⟩;rotate_left;kernel_rfl;simp;done)|(refine .inr ⟨23,?_,hdep 23 ?_⟩;rotate_left;kernel_rfl;simp;done)|(refine .inr ⟨24,?_,hdep 24 ?_⟩;rotate_left;kernel_rfl;simp;done)|(refine .inr ⟨25,?_,hdep 25 ?_⟩;rotate_left;kernel_rfl;simp;done)):p:=h
abbrev ϖ(b:Nat):VI:=.pointer (VF ⟨b,0,VJ⟩)
abbrev ϱ(b o:Nat):VI:=.pointer (VF ⟨b,o,VJ⟩)
end Go
namespace Go.Pw
open Go.Conc
variable{P:V6}{α:Type}{F F' F1:VU}{o:Ws}{main rd:Bool}{cs:List VU}{w:VH}{ops:Array WA}{i d m N b:Nat}{k:List Wg}{H L L':List (Nat×VI)}{R:VH->VH->Prop}{D:VH->VH->Array Wv->Prop}{Stop:VK->VH->Prop}{J:VK->Prop}{v:VI}{t:Array VI}{f:V8}
def eE(P:V6){α:Type}:Wl α->Option α
 |.pure a=>VF a
 |.program k=>eE P (k P)
 |_=>VJ
theorem gX{x:Wl α}{a:α}(h:eE P x=VF a)(w:VH):x.run P w=.ok a w/\x.events P w #[]=#[]:=by induction x with|pure b=>simp only[eE,Tu]at h;subst h;exact⟨rfl,rfl⟩|program k c=>exact c P h|_=>simp[eE]at h
def AQ(P:V6)(F:VU)(o:WA):Option VU:=
 match o.op with
 |.defer _=>VJ
 |_=>match eE P (VR F.eval o)with
   |some (.value v)=>VF (F.finish v)
   |some .skip=>VF (F.finish VP)
   |_=>VJ
def lI(P:V6)(F:VU):Option VU:=
 match F.todo with
 |.code .skip::k=>VF {F with todo:=k}
 |.code (.label _)::k=>VF {F with todo:=k}
 |.inBlock _::k=>VF {F with todo:=k}
 |.inScope _::k=>VF {F with todo:=k}
 |.code (.seq a b)::k=>VF {F with todo:=.code a::.code b::k}
 |.code (.cond c x y)::k=>match F.eval c with
   |.bool b=>VF {F with todo:=.code (if b then x else y)::k}
   |_=>VJ
 |.code (.block id c)::k=>VF {F with todo:=.code c::.inBlock id::k}
 |.code (.loop c)::k=>VF {F with todo:=.code c::.inLoop c::k}
 |.inLoop c::k=>VF {F with todo:=.code c::.inLoop c::k}
 |.code (.scope c)::k=>VF {F with todo:=.code c::.inScope c::k}
 |.code (.exit id)::k=>(exitTo id k).map λk=>{F with todo:=k}
 |.code (.region _ ops Vo)::k=>VF {F with todo:=.inRegion ops (List.range ops.size)::k}
 |.inRegion _ []::k=>VF {F with todo:=k}
 |.inRegion ops (i::_)::_=>
   match((ops[i]?).map (Region.wanted · (V5 ops F.tmps))).getD Vo with
   |true=>(ops[i]?).bind (AQ P F)
   |false=>VF (F.finish VP)
 |_=>VJ
def hint(H:List (Nat×VI))(F F1:VU):VU×List (VI×VI):=
 match F.todo with
 |.inRegion ops (i::_)::_=>
   match(ops[i]?).bind (·.dst)with
   |some d=>match H.lookup d with
     |some v=>({F1 with tmps:=F.tmps.setIfInBounds d v},[(F1.tmps.getD d VP,v)])
     |none=>(F1,[])
   |none=>(F1,[])
 |_=>(F1,[])
def br(P:V6)(H:List (Nat×VI)):Nat->VU->Option (VU×List (VI×VI))
 |0,F=>VF (F,[])
 |n+1,F=>(lI P F).bind λF1=>(br P H n (hint H F F1).1).map λx=>(x.1,(hint H F F1).2++x.2)
theorem km(P:V6)(f:V8):seen P f #[]=#[]:=by rw[seen_def];simp
theorem AF{o:WA}(C:F.mode=.run)(B:F.kind≠.early)(H:∃ops i rest k,F.todo=.inRegion ops (i::rest)::k/\ops[i]?=VF o/\Region.wanted o (V5 ops F.tmps)=VG)(h:AQ P F o=VF F'):VO P main (G F cs) w=.go (G F' cs) w #[]:=by obtain⟨ops,i,rest,k,z,A,t⟩:=H;obtain⟨fn,tmps,todo,defers,mode,kind,q⟩:=F;subst z C;(have m:=by simpa using B);(have D:∀c,o.op≠.defer c:=λc e=>by unfold AQ at h;rw[e]at h;cases h);(have y:∀n,eE P (VR (VU.eval {fn:=fn,tmps:=tmps,todo:=.inRegion ops (i::rest)::k,defers:=defers,mode:=.run,kind:=kind,roundOf:=q}) o)=VF n->(∃v,n=.value v/\F'=VU.finish {fn:=fn,tmps:=tmps,todo:=.inRegion ops (i::rest)::k,defers:=defers,mode:=.run,kind:=kind,roundOf:=q} v)\/(n=.skip/\F'=VU.finish {fn:=fn,tmps:=tmps,todo:=.inRegion ops (i::rest)::k,defers:=defers,mode:=.run,kind:=kind,roundOf:=q} VP):=by intro n E;unfold AQ at h;split at h;{cases h};rw[E]at h;cases n<;>simp at h<;>simp[h]);cases u:eE P (VR (VU.eval {fn:=fn,tmps:=tmps,todo:=.inRegion ops (i::rest)::k,defers:=defers,mode:=.run,kind:=kind,roundOf:=q}) o)with|none=>unfold AQ at h;split at h;{cases h};rw[u]at h;cases h|some n=>obtain⟨p,r⟩:=gX u w;(have x:VO P main (G {fn:=fn,tmps:=tmps,todo:=.inRegion ops (i::rest)::k,defers:=defers,mode:=.run,kind:=kind,roundOf:=q} cs) w=VO.apply P VG {fn:=fn,tmps:=tmps,todo:=.inRegion ops (i::rest)::k,defers:=defers,mode:=.run,kind:=kind,roundOf:=q} cs VJ (VR (VU.eval {fn:=fn,tmps:=tmps,todo:=.inRegion ops (i::rest)::k,defers:=defers,mode:=.run,kind:=kind,roundOf:=q}) o) w:=by cases q with|none=>simp only[G,VO,VO.exec,VO.oper,VU.oper?,A,t,Tv,TQ,if_true]|some l=>simp only[G,VO,VO.exec,VO.oper,VU.oper?,A,t,Tv,TQ,if_true];split;{rename_i e;exact absurd e (D _)};rfl);rw[x];rcases y n u with⟨v,rfl,rfl⟩|⟨rfl,rfl⟩;{simp[VO.apply,p,r,m,GStep.after,km,G]};simp[VO.apply,p,r,m,GStep.after,km,G]
theorem ir(m:F.mode=.run)(a:F.kind≠.early)(h:lI P F=VF F'):(∀main cs w,VO P main (G F cs) w=.go (G F' cs) w #[])/\F'.mode=.run/\F'.kind≠.early:=by obtain⟨t,q,r,f,p,n,v⟩:=F;subst m;unfold lI at h;simp only at h;split at h;(all_goals first|(cases h;exact⟨λmain cs w=>by simp[G,VO,VO.exec],rfl,a⟩)|skip);{split at h;{rename_i b s;cases h;exact⟨λmain cs w=>by simp[G,VO,VO.exec,s],rfl,a⟩};cases h};{rename_i id k;cases j:exitTo id k with|none=>rw[j]at h;cases h|some u=>rw[j]at h;cases h;exact⟨λmain cs w=>by simp[G,VO,VO.exec,j],rfl,a⟩};{rename_i d i e k;split at h;{rename_i g;cases l:d[i]? with|none=>rw[l]at h;cases h|some o=>rw[l]at h g;simp only[Ue]at h;refine⟨λmain cs w=>AF rfl a ⟨d,i,e,k,rfl,l,by simpa using g⟩ h,?_⟩;unfold AQ at h;split at h;{cases h};split at h<;>cases h<;>exact⟨rfl,a⟩};rename_i g;cases h;refine⟨λmain cs w=>?_,rfl,a⟩;simp only[G,VO,VO.exec,g,TG,if_false]};cases h
theorem G1{rest:List Nat}{d:Tmp}(e:F.todo=.inRegion ops (i::rest)::k)(l:(ops[i]?).bind (·.dst)=VF d)(h:lI P F=VF F1):∃v,F1={F with tmps:=F.tmps.setIfInBounds d v,todo:=.inRegion ops rest::k}:=by(have c:∀v,F.finish v={F with tmps:=F.tmps.setIfInBounds d v,todo:=.inRegion ops rest::k}:=λv=>by obtain⟨m,tmps,todo,b,j,g,n⟩:=F;subst e;simp[VU.finish,l]);unfold lI at h;rw[e]at h;simp only at h;split at h;{cases f:ops[i]? with|none=>rw[f]at h;cases h|some o=>rw[f]at h;simp only[Ue]at h;unfold AQ at h;split at h;{cases h};split at h<;>cases h;{exact⟨_,c _⟩};exact⟨_,c _⟩};cases h;exact⟨_,c _⟩
theorem vC(h:lI P F=VF F1)(a:∀p∈(hint H F F1).2,p.1=p.2):(hint H F F1).1=F1:=by unfold hint at a⊢;split;{rename_i e i j k g;rw[g]at a;simp only at a;cases f:(e[i]?).bind (·.dst)with|none=>rfl|some d=>rw[f]at a;simp only at a⊢;cases l:H.lookup d with|none=>rfl|some v=>rw[l]at a;simp only[Us,forall_eq]at a⊢;obtain⟨u,rfl⟩:=G1 g f h;rcases TN d F.tmps.size with c|b;{(have:(F.tmps.setIfInBounds d u).getD d VP=u:=by simp[c]);rw[this]at a;rw[a]};simp[Array.setIfInBounds,Nat.not_lt.2 b]};rfl
theorem rr(j:∀a b c,R a b->R b c->R a c)(i:∀w,D w w #[]):∀(n:Nat){F F':VU}{obs:List (VI×VI)}{w:VH},br P H n F=VF (F',obs)->(∀p∈obs,p.1=p.2)->F.mode=.run->F.kind≠.early->Goes P main R D Stop m (G F' cs) w->Goes P main R D Stop (m+n) (G F cs) w|0,F,F',obs,w,h,_,_,_,g=>by cases h;exact g|n+1,F,F',obs,w,h,k,t,s,g=>by simp only[br]at h;cases d:lI P F with|none=>rw[d]at h;cases h|some l=>rw[d]at h;simp only[Ue]at h;cases f:br P H n (hint H F l).1 with|none=>rw[f]at h;cases h|some x=>rw[f]at h;simp only[Tv,Tu,Tw]at h;obtain⟨rfl,rfl⟩:=h;rw[vC d λp d=>k p (TB.2 (.inl d))]at f;obtain⟨o,q,r⟩:=ir t s d;have:=rr j i n (F':=x.1) (obs:=x.2) f (λp d=>k p (TB.2 (.inr d))) q r g;refine .inr ⟨rfl,λv u=>?_⟩;rw[o];exact⟨i v,this.rely j u⟩
theorem nR(f:∀F b,(∀w,VO P main (G F cs) w=.go (G b cs) w #[])->J (G b cs)->J (G F cs)):∀(n:Nat){F F':VU}{obs:List (VI×VI)},br P H n F=VF (F',obs)->(∀p∈obs,p.1=p.2)->F.mode=.run->F.kind≠.early->J (G F' cs)->J (G F cs)|0,F,F',obs,h,_,_,_,e=>by cases h;exact e|n+1,F,F',obs,h,g,m,l,e=>by simp only[br]at h;cases a:lI P F with|none=>rw[a]at h;cases h|some b=>rw[a]at h;simp only[Ue]at h;cases d:br P H n (hint H F b).1 with|none=>rw[d]at h;cases h|some x=>rw[d]at h;simp only[Tv,Tu,Tw]at h;obtain⟨rfl,rfl⟩:=h;rw[vC a λp a=>g p (TB.2 (.inl a))]at d;obtain⟨i,j,k⟩:=ir m l a;exact f F b (λw=>i main cs w) (nR f n (F':=x.1) (obs:=x.2) d (λp a=>g p (TB.2 (.inr a))) j k e)
def tm(N:Nat)(L:List (Nat×VI))(t:Array VI):Array VI:=((List.range N).map λi=>match L.lookup i with|some v=>v|none=>t.getD i VP).toArray
structure Sl(N:Nat)(L:List (Nat×VI))(t:Array VI):Prop where
 size:t.size=N
 at_:∀p∈L,t.getD p.1 VP=p.2
theorem eI(h:L.lookup i=VF v):(i,v)∈L:=by induction L with|nil=>cases h|cons p l c=>simp only[List.lookup]at h;split at h;{rename_i e;cases h;(have:=by simpa using e);subst this;exact TD ..};exact TV _ (c h)
theorem Sl.tm(h:Sl N L t):t=tm N L t:=by apply Ul;intro i;(have e:(Pw.tm N L t)[i]?=((List.range N).map λi=>match L.lookup i with|some v=>v|none=>t.getD i VP)[i]?:=by unfold Pw.tm;simp);rw[e,Ty];rcases TN i N with a|a;{rw[Vp a];(have b:i<t.size:=by rw[h.size];exact a);simp only[Tv,Tt b,Tu];cases d:L.lookup i with|none=>simp[Tt b]|some v=>have:=h.at_ _ (eI d);simp only[Tp,Tt b]at this;exact this};rw[List.getElem?_eq_none (by simpa using a),U6 (by rw[h.size];exact a)];rfl
theorem Sl.all(h:(t.size,L.map λp=>t.getD p.1 VP)=(N,L.map (·.2)):=by kernel_rfl):Sl N L t:=by obtain⟨a,b⟩:=TR h;refine⟨a,λp d=>?_⟩;obtain⟨i,c⟩:=Tz.1 d;have:=congrArg (·[i]?) b;simpa[Ty,c]using this
theorem Sl.MZ(h:t.size=N):Sl N [] t:=⟨h,λp a=>by cases a⟩
theorem Sl.cons{N:Nat}{L:List (Nat×VI)}{t:Array VI}{i:Nat}{v:VI}(h:t.getD i VP=v)(b:Sl N L t):Sl N ((i,v)::L) t:=⟨b.size,λp a=>by rcases Tq.1 a with rfl|a;{exact h};exact b.at_ p a⟩
section
abbrev fr(f:V8)(t:Array VI)(k:List Wg):VU:={fn:=f,tmps:=t,todo:=k,defers:=[],mode:=.run,kind:=.normal,roundOf:=VJ}
def sub:List Nat->WE->WE
 |[],c=>c
 |i::p,c=>match c,i with
   |.seq a _,0=>sub p a
   |.seq _ b,_=>sub p b
   |.cond _ a _,0=>sub p a
   |.cond _ _ b,_=>sub p b
   |.block _ a,_=>sub p a
   |.loop a,_=>sub p a
   |.scope a,_=>sub p a
   |.rangeFunc _ _ a _,0=>sub p a
   |.rangeFunc _ _ _ b,_=>sub p b
   |c,_=>c
def aT:WE->Array WA
 |.region _ ops _=>ops
 |_=>#[]
def opn(ops:Array WA)(i:Nat):WA:=(ops[i]?).getD default
def Sy:Nat->Nat->List Nat->List Nat
 |0,_,a=>a
 |f+1,n,a=>match Nat.ble n 1 with|true=>a|false=>Sy f (n/2) (n%2::a)
def dg(n:Nat):List Nat:=Sy 60 n []
abbrev sb(c:WE)(n:Nat):WE:=sub (dg n) c
def tT:List Nat->WE->List Wg->List Wg
 |[],_,k=>k
 |i::p,c,k=>match c,i with
   |.seq a b,0=>tT p a (.code b::k)
   |.seq _ b,_=>tT p b k
   |.cond _ a _,0=>tT p a k
   |.cond _ _ b,_=>tT p b k
   |.block id a,_=>tT p a (.inBlock id::k)
   |.loop a,_=>tT p a (.inLoop a::k)
   |.scope a,_=>tT p a (.inScope a::k)
   |_,_=>k
abbrev rA(c:WE)(n:Nat)(l:List Nat):List Wg:=.inRegion (aT (sb c n)) l::tT (dg n) c []
abbrev cA(c:WE)(n:Nat):List Wg:=.code (sb c n)::tT (dg n) c []
abbrev xA(x:WE)(c:WE)(n:Nat):List Wg:=.code x::tT (dg n) c []
abbrev dA(c:WE)(n:Nat)(r:Nat):List Wg:=.code (.region r (aT (sb c n)) VG)::tT (dg n) c []
theorem Sl.get(h:Sl N L t)(a:L.lookup i=VF v):t.getD i VP=v:=h.at_ _ (eI a)
theorem Sl.gN(h:Sl N L t)(i:Nat)(hl:L.lookup i=VF v):t.getD i VP=v:=h.get hl
theorem Sl.put(h:Sl N L t)(c:d<N)(e:∀p∈L',p=(d,v)\/(p∈L/\p.1≠d)):Sl N L' (t.setIfInBounds d v):=by refine⟨by simp[h.size],λp f=>?_⟩;rcases e p f with rfl|⟨a,b⟩;{simp[Tp,h.size,c]};rw[<-h.at_ p a];simp only[Tp];rw[TJ (Ne.symm b)]
theorem Sl.sub(h:Sl N L t)(b:∀p∈L',p∈L):Sl N L' t:=⟨h.size,λp a=>h.at_ p (b p a)⟩
theorem aR{o:WA}(h:Sl N L t)(b:Region.wanted o (V5 ops (tm N L t))=VG):Region.wanted o (V5 ops t)=VG:=by rw[h.tm];exact b
theorem Sl.pt(h:Sl N L t)(b:d<N:=by decide)(c:L.all (λp=>!(p.1==d))=VG:=by rfl):Sl N ((d,v)::L) (t.setIfInBounds d v):=h.put b λp a=>by rcases Tq.1 a with rfl|a;{exact .inl rfl};exact .inr ⟨a,by simpa using TF.1 c p a⟩
theorem q9:∀p∈([]:List (VI×VI)),p.1=p.2:=λp a=>by cases a
theorem JP{a b:VI}{l:List (VI×VI)}(h:a=b)(d:∀p∈l,p.1=p.2):∀p∈(a,b)::l,p.1=p.2:=λp c=>by rcases Tq.1 c with rfl|c;{exact h};exact d p c
theorem int_eq{k:IntKind}{x y:Int}(h:x=y):VI.int k x=VI.int k y:=by rw[h]
structure Ob where
 c:VI
 b:VI
 h:c=b
def oi(k:IntKind)(c b:Int)(h:c=b):Ob:=⟨.int k c,.int k b,int_eq h⟩
def o2(c b:Int)(h:c=b):Ob:=oi .u32 c b h
def o3(c b:Int)(h:c=b):Ob:=oi .i32 c b h
def o6(c b:Int)(h:c=b):Ob:=oi .i64 c b h
def o8(c b:Int)(h:c=b):Ob:=oi .u64 c b h
def ob(c b:Bool)(h:c=b):Ob:=⟨.bool c,.bool b,congrArg VI.bool h⟩
def oh(O:List (Nat×Ob)):List (Nat×VI):=O.map λp=>(p.1,p.2.b)
def oo(O:List (Nat×Ob)):List (VI×VI):=O.map λp=>(p.2.c,p.2.b)
theorem tp(O:List (Nat×Ob)):∀p∈oo O,p.1=p.2:=λp a=>by obtain⟨q,_,rfl⟩:=To.1 a;exact q.2.h
def iF(P:V6)(H:List (Nat×VI))(n:Nat)(F:VU):Array VI:=match br P H n F with|some x=>x.1.tmps|none=>#[]
section
variable{k':List Wg}{n:Nat}{obs:List (VI×VI)}
theorem Ic(l:∀a b c,R a b->R b c->R a c)(i:∀w,D w w #[])(n:Nat)(o:Sl N L t)(g:br P H n (fr f (tm N L t) k)=VF (fr f (iF P H n (fr f (tm N L t) k)) k',obs))(q:∀p∈obs,p.1=p.2)(h:Sl N L' (iF P H n (fr f (tm N L t) k)))(j:∀d,Sl N L' d->Goes P main R D Stop m (G (fr f d k') cs) w):Goes P main R D Stop (m+n) (G (fr f t k) cs) w:=by(have e:fr f t k=fr f (tm N L t) k:=by rw[<-o.tm]);rw[e];exact rr l i n g q rfl Θ (j _ h)
theorem J6(h:∀F a,(∀w,VO P main (G F cs) w=.go (G a cs) w #[])->J (G a cs)->J (G F cs))(n:Nat)(i:Sl N L t)(c:br P H n (fr f (tm N L t) k)=VF (fr f (iF P H n (fr f (tm N L t) k)) k',obs))(j:∀p∈obs,p.1=p.2)(d:Sl N L' (iF P H n (fr f (tm N L t) k)))(g:∀b,Sl N L' b->J (G (fr f b k') cs)):J (G (fr f t k) cs):=by(have e:fr f t k=fr f (tm N L t) k:=by rw[<-i.tm]);rw[e];exact nR (main:=main) h n c j rfl Θ (g _ d)
end
end
def vD:VI->Bool
 |.agg _|.tuple _=>Vo
 |_=>VG
def Pk{α:Type}(b:Nat)(r:Option (α×Ws×List Nat)):Option (α×Ws×List Nat):=r.map λr=>(r.1,r.2.1,b::r.2.2)
def jK(P:V6)(rd:Bool){α:Type}:Wl α->Ws->Option (α×Ws×List Nat)
 |.pure a,o=>VF (a,o,[])
 |.program k,o=>jK P rd (k P) o
 |.load .plain ⟨b,i,VJ⟩ k,.cells c e fr=>(c[i]?).bind λv=>Pk b (jK P rd (k v) (.cells c e fr))
 |.store .plain ⟨b,i,VJ⟩ v k,.cells c e (0,0)=>match !rd&&vD v&&decide (i<c.size)with
   |true=>Pk b (jK P rd k (.cells (c.setIfInBounds i v) e))
   |false=>VJ
 |.getObj r k,.map es n=>Pk r (jK P rd (k (.map es n)) (.map es n))
 |.setObj r (.map es' n') k,.map _ _=>match rd with
   |false=>Pk r (jK P rd k (.map es' n'))
   |true=>VJ
 |_,_=>VJ
def Gt(P:V6){α:Type}:Wl α->Option (Ws×(Nat->Wl α))
 |.program k=>Gt P (k P)
 |.new o k=>VF (o,k)
 |_=>VJ
def iw(w:VH)(b:Nat)(o:Ws):VH:={w with heap:=w.heap.setIfInBounds b o}
theorem pD{o':Ws}(h:w.heap[b]?=VF o):(iw w b o').heap[b]?=VF o':=by obtain⟨a,_⟩:=Tk.1 h;simp[iw,a]
theorem pC{c:Nat}(h:c≠b):(iw w b o).heap[c]?=w.heap[c]?:=by simp[iw,TJ (Ne.symm h)]
theorem vk(w:VH)(b:Nat)(o o':Ws):iw (iw w b o) b o'=iw w b o':=by simp[iw]
theorem mH(h:w.heap[b]?=VF o):iw w b o=w:=by obtain⟨c,a⟩:=Tk.1 h;(have:w.heap.setIfInBounds b o=w.heap:=Array.ext (by simp) λk d _=>by rw[VL];split;{rename_i e;subst e;exact a.symm};rfl);unfold iw;rw[this]
theorem xN{c:Array VI}{e:VX}(h:w.heap[b]?=VF (.cells c e)):w.setCell ⟨b,i,VJ⟩ v=iw w b (.cells (c.setIfInBounds i v) e):=by obtain⟨f,d⟩:=Tk.1 h;(have:w.heap.modify b (λ|.cells c a frozen=>.cells (c.setIfInBounds i v) a frozen|o=>o)=w.heap.setIfInBounds b (.cells (c.setIfInBounds i v) e):=by apply Array.ext (by simp);intro k g _;rw[Array.getElem_modify,VL];split;{rename_i e;subst e;rw[d]};rfl);unfold VH.setCell iw;rw[<-this];rfl
def w6(b:Nat)(e:Wv):Prop:=(match e.loc with|.cell a=>a.block=b|.obj j=>j=b|_=>False)/\e.sync=Vo
theorem I3{f:Array Wv->Array Wv}{e:Wv}(i:w6 b e)(h:∀es,∃a,f es=es++a/\∀x∈a,w6 b x)(es:Array Wv):∃a,f (es.push e)=es++a/\∀x∈a,w6 b x:=by obtain⟨a,d,g⟩:=h (es.push e);refine⟨#[e]++a,by simp[d],λx c=>?_⟩;rcases TS.1 c with c|c;{(obtain rfl:=by simpa using c);exact i};exact g x c
theorem kH{r:Option (α×Ws×List Nat)}{a:α}{q:List Nat}(h:Pk b r=VF (a,o,q)):∃c,r=VF (a,o,c)/\q=b::c:=by obtain⟨⟨f,g,c⟩,d,e⟩:=Ts.1 h;cases e;exact⟨c,d,rfl⟩
theorem rG{x:Wl α}:∀{o o':Ws}{q:List Nat}{a:α}{w:VH},jK P rd x o=VF (a,o',q)->(∀r∈q,r=b)->w.heap[b]?=VF o->x.run P w=.ok a (iw w b o')/\∀es,∃u,x.events P w es=es++u/\∀e∈u,w6 b e:=by induction x with|pure a=>intro o o' q a w h g d;cases h;exact⟨by rw[mH d];rfl,λes=>⟨#[],by simp,by simp⟩⟩|program k n=>exactλh g d=>n P h g d|load m A k n=>intro o o' q a w h g d;obtain⟨j,i,C⟩:=A;cases m<;>cases C<;>cases o<;>simp only[jK,reduceCtorEq]at h;obtain⟨v,z,h⟩:=TO.1 h;obtain⟨B,s,rfl⟩:=kH h;obtain rfl:j=b:=g _ (TD ..);obtain⟨l,p⟩:=n v s (λr t=>g r (TV _ t)) d;(have y:w.cell? ⟨j,i,VJ⟩=VF v:=by simp[VH.cell?,d,z]);refine⟨by simpa[Wl.run,y]using l,λes=>?_⟩;rw[show(Wl.load Mode.plain ⟨j,i,VJ⟩ k).events P w es=(k v).events P w (es.push ⟨.cell ⟨j,i,VJ⟩,Vo,Vo⟩)by simp[Wl.events,Wl.runT,y,-Wl.runT_eq];rfl];exact I3 (f:=(k v).events P w) ⟨rfl,rfl⟩ p es|store m A v k n=>intro o o' q a w h g d;obtain⟨j,i,C⟩:=A;(cases m<;>cases C<;>cases o<;>try(exfalso;revert h;simp[jK];done));rename_i c e fr;obtain⟨F,H⟩:=fr;(cases F<;>cases H<;>try(exfalso;revert h;simp[jK];done));simp only[jK]at h;split at h;{rename_i D;rw[Tl,Tl,decide_eq_true_eq]at D;obtain⟨⟨_,z⟩,I⟩:=D;obtain⟨B,s,rfl⟩:=kH h;obtain rfl:j=b:=g _ (TD ..);obtain⟨l,p⟩:=n s (λr t=>g r (TV _ t)) (pD d);rw[vk,<-xN d]at l;rw[<-xN d]at p;(have y:w.cell? ⟨j,i,VJ⟩=VF c[i]:=by simp[VH.cell?,d,I]);(have E:w.frozen? ⟨j,i,VJ⟩=Vo:=by simp[VH.frozen?,d]);refine⟨by cases v<;>simp[vD]at z<;>simpa[Wl.run,y,E]using l,λes=>?_⟩;rw[show(Wl.store Mode.plain ⟨j,i,VJ⟩ v k).events P w es=k.events P (w.setCell ⟨j,i,VJ⟩ v) (es.push ⟨.cell ⟨j,i,VJ⟩,VG,Vo⟩)by cases v<;>simp[vD]at z<;>(simp[Wl.events,Wl.runT,y,E,-Wl.runT_eq];rfl)];exact I3 (f:=k.events P _) ⟨rfl,rfl⟩ p es};cases h|getObj r k n=>intro o o' q a w h g d;cases o<;>simp only[jK,reduceCtorEq]at h;obtain⟨B,s,rfl⟩:=kH h;obtain rfl:r=b:=g _ (TD ..);obtain⟨l,p⟩:=n _ s (λr t=>g r (TV _ t)) d;refine⟨by simpa[Wl.run,d]using l,λes=>?_⟩;rw[show(Wl.getObj r k).events P w es=(k _).events P w (es.push ⟨.obj r,Vo,Vo⟩)by simp[Wl.events,Wl.runT,d,Ws.isChan,-Wl.runT_eq];rfl];exact I3 (f:=(k _).events P w) ⟨rfl,rfl⟩ p es|setObj r ob k n=>intro o o' q a w h g d;cases rd<;>cases o<;>cases ob<;>simp only[jK,reduceCtorEq]at h;obtain⟨B,s,rfl⟩:=kH h;obtain rfl:r=b:=g _ (TD ..);obtain⟨l,p⟩:=n s (λr t=>g r (TV _ t)) (pD d);rw[vk]at l;refine⟨by simp only[Wl.run,d];exact l,λes=>?_⟩;rw[show(Wl.setObj r _ k).events P w es=k.events P (iw w r _) (es.push ⟨.obj r,VG,Vo⟩)by simp[Wl.events,Wl.runT,d,Ws.isChan,-Wl.runT_eq];rfl];exact I3 (f:=k.events P _) ⟨rfl,rfl⟩ p es|_=>intro o o' q a w h;simp[jK]at h
theorem KT{x:Wl α}:∀{o o':Ws}{q:List Nat}{a:α},jK P VG x o=VF (a,o',q)->o'=o:=by induction x with|pure a=>intro o o' q a h;cases h;rfl|program k b=>exactλh=>b P h|load m d k b=>intro o o' q a h;obtain⟨j,i,g⟩:=d;cases m<;>cases g<;>cases o<;>simp only[jK,reduceCtorEq]at h;obtain⟨v,s,h⟩:=TO.1 h;obtain⟨p,f,rfl⟩:=kH h;exact b v f|getObj r k b=>intro o o' q a h;cases o<;>simp only[jK,reduceCtorEq]at h;obtain⟨p,f,rfl⟩:=kH h;exact b _ f|store m d v k b=>intro o o' q a h;obtain⟨j,i,g⟩:=d;(cases m<;>cases g<;>cases o<;>try(exfalso;revert h;simp[jK];done));rename_i c e fr;obtain⟨l,n⟩:=fr;cases l<;>cases n<;>exfalso<;>revert h<;>simp[jK]|setObj r ob k b=>intro o o' q a h;cases o<;>cases ob<;>simp[jK]at h|_=>intro o o' q a h;simp[jK]at h
theorem Iu{x:Wl α}{k:Nat->Wl α}{a:α}(h:Gt P x=VF (o,k))(d:eE P (k w.heap.size)=VF a):x.run P w=.ok a (w.alloc o)/\x.events P w #[]=#[]:=by induction x with|program f e=>exact e P h|new g f=>cases h;obtain⟨b,c⟩:=gX d (w.alloc o);exact⟨b,c⟩|_=>simp[Gt]at h
def Rh:Op->Bool
 |.defer _=>VG
 |_=>Vo
def zU(F:VU):Option WA:=match F.todo with
 |.inRegion ops (i::_)::_=>match((ops[i]?).map (Region.wanted · (V5 ops F.tmps))).getD Vo with
   |true=>match ops[i]? with
     |some o=>match Rh o.op with|true=>VJ|false=>VF o
     |none=>VJ
   |false=>VJ
 |_=>VJ
def valOf:Next->Option VI
 |.value v=>VF v
 |.skip=>VF VP
 |_=>VJ
def Q2(P:V6)(rd:Bool)(k:Nat)(F:VU)(H:List (Nat×Ws)):Option (VU×List (Nat×Ws)×List (Nat×Nat)):=
 match zU F,H[k]? with
 |some o,VF (b,ob)=>match jK P rd (VR F.eval o) ob with
   |some (n,ob',q)=>(valOf n).map λv=>(F.finish v,H.set k (b,ob'),q.map λr=>(r,b))
   |none=>VJ
 |_,_=>VJ
def P'(P:V6)(c:Nat)(F:VU):Option (VU×Ws):=
 match zU F with
 |some o=>match Gt P (VR F.eval o)with
   |some (ob,k)=>((eE P (k c)).bind valOf).map λv=>(F.finish v,ob)
   |none=>VJ
 |none=>VJ
abbrev MR:=VU×List (Nat×Ws)×List (Nat×Nat)×List (VI×VI)
def ik(P:V6)(rd:Bool)(O:List (Nat×VI)):Nat->List Nat->List Nat->VU->List (Nat×Ws)->Option MR
 |0,_,_,F,H=>VF (F,H,[],[])
 |n+1,hs,bs,F,H=>match lI P F with
   |some F1=>(ik P rd O n hs bs (hint O F F1).1 H).map λr=>(r.1,r.2.1,r.2.2.1,(hint O F F1).2++r.2.2.2)
   |none=>match hs with
     |[]=>VF (F,H,[],[])
     |0::hs=>match bs with
       |[]=>VJ
       |c::bs=>match P' P c F with
         |some (F1,ob)=>ik P rd O n hs bs F1 ((c,ob)::H)
         |none=>VJ
     |(k+1)::hs=>match Q2 P rd k F H with
       |some (F1,H1,q)=>(ik P rd O n hs bs F1 H1).map λs=>(s.1,s.2.1,q++s.2.2.1,s.2.2.2)
       |none=>VJ
theorem vZ{o:WA}(h:zU F=VF o):∃ops i rest k,F.todo=.inRegion ops (i::rest)::k/\ops[i]?=VF o/\Region.wanted o (V5 ops F.tmps)=VG/\∀c,o.op≠.defer c:=by unfold zU at h;split at h;{rename_i ops i rest k f;split at h;{rename_i g;split at h;{rename_i j d;split at h;{cases h};rename_i b;cases h;refine⟨ops,i,rest,k,f,d,by simpa[d]using g,λc e=>?_⟩;rw[e]at b;cases b};cases h};cases h};cases h
theorem Bg{o:WA}{w':VH}{n:Next}(y:F.mode=.run)(r:F.kind≠.early)(h:zU F=VF o)(A:(VR F.eval o).run P w=.ok n w')(z:valOf n=VF v):VO P main (G F cs) w=.go (G (F.finish v) cs) w' (seen P F.fn ((VR F.eval o).events P w #[]))/\(F.finish v).mode=.run/\(F.finish v).kind≠.early:=by obtain⟨p,i,g,k,u,x,q,C⟩:=vZ h;obtain⟨fn,tmps,todo,defers,mode,kind,t⟩:=F;subst u y;(have m:=by simpa using r);refine⟨?_,rfl,r⟩;generalize D:VU.eval _=B at A⊢;(have s:VO P main (G {fn:=fn,tmps:=tmps,todo:=.inRegion p (i::g)::k,defers:=defers,mode:=.run,kind:=kind,roundOf:=t} cs) w=VO.apply P VG {fn:=fn,tmps:=tmps,todo:=.inRegion p (i::g)::k,defers:=defers,mode:=.run,kind:=kind,roundOf:=t} cs VJ (VR B o) w:=by rw[<-D];cases t with|none=>simp only[G,VO,VO.exec,VO.oper,VU.oper?,x,q,Tv,TQ,if_true]|some l=>simp only[G,VO,VO.exec,VO.oper,VU.oper?,x,q,Tv,TQ,if_true];split;{rename_i e;exact absurd e (C _)};rfl);rw[s];cases n<;>simp[valOf]at z<;>subst z<;>simp[VO.apply,A,m,GStep.after,G]
theorem KI{es:Array Wv}(h:∀e∈es,w6 b e):∀e∈seen P f es,w6 b e:=λe a=>by rw[seen_def]at a;rcases seen_fold_sub _ _ _ _ e a with x|x;{simp at x};exact h e (by simpa using x)
theorem Mo{k:Nat}{H H1:List (Nat×Ws)}{q:List (Nat×Nat)}(x:F.mode=.run)(u:F.kind≠.early)(h:Q2 P rd k F H=VF (F1,H1,q))(z:∀p∈q,p.1=p.2):∃b o o',H[k]?=VF (b,o)/\H1=H.set k (b,o')/\(rd=VG->o'=o)/\(∀main cs w,w.heap[b]?=VF o->∃es,VO P main (G F cs) w=.go (G F1 cs) (iw w b o') es/\∀e∈es,w6 b e)/\F1.mode=.run/\F1.kind≠.early:=by unfold Q2 at h;split at h;{rename_i C b ob y hH;split at h;{rename_i n d D g;obtain⟨v,B,e⟩:=Ts.1 h;cases e;have a:=λr A=>z (r,b) (To.2 ⟨r,A,rfl⟩);have c:∀main cs w,w.heap[b]?=VF ob->VO P main (G F cs) w=.go (G (F.finish v) cs) (iw w b d) (seen P F.fn ((VR F.eval C).events P w #[]))/\(F.finish v).mode=.run/\(F.finish v).kind≠.early:=λmain cs w f=>Bg x u y (rG g a f).1 B;refine⟨b,ob,d,hH,rfl,λe=>by subst e;exact KT g,λmain cs w f=>⟨_,(c main cs w f).1,KI λe i=>?_⟩,(c VG [] {(default:VH)with heap:=(Array.replicate (b+1) ob)} (by simp)).2⟩;obtain⟨l,m,s⟩:=(rG g a f).2 #[];rw[m]at i;exact s e (by simpa using i)};cases h};cases h
theorem Ni(s:F.mode=.run)(q:F.kind≠.early)(h:∀c,∃r,P' P c F=VF r):∃o,∃e:Nat->VU,(∀c,P' P c F=VF (e c,o))/\(∀main cs w,VO P main (G F cs) w=.go (G (e w.heap.size) cs) (w.alloc o) #[])/\∀c,(e c).mode=.run/\(e c).kind≠.early:=by unfold P' at h⊢;cases g:zU F with|none=>obtain⟨r,b⟩:=h 0;rw[g]at b;cases b|some D=>simp only[g]at h⊢;cases l:Gt P (VR F.eval D)with|none=>obtain⟨r,b⟩:=h 0;rw[l]at b;cases b|some x=>obtain⟨ob,p⟩:=x;simp only[l]at h⊢;(have j:∀c,∃n v,eE P (p c)=VF n/\valOf n=VF v:=λc=>by obtain⟨r,b⟩:=h c;obtain⟨v,j,_⟩:=Ts.1 b;obtain⟨n,a,d⟩:=TO.1 j;exact⟨n,v,a,d⟩);(have m:∀main cs(w:VH),VO P main (G F cs) w=.go (G (F.finish (((eE P (p w.heap.size)).bind valOf).getD VP)) cs) (w.alloc ob) #[]:=λmain cs w=>by obtain⟨n,v,a,d⟩:=j w.heap.size;obtain⟨B,C⟩:=Iu l a;rw[(Bg s q g B d).1,C,km,a];simp[d]);refine⟨ob,λc=>F.finish (((eE P (p c)).bind valOf).getD VP),λc=>?_,m,λc=>?_⟩;{obtain⟨n,v,a,d⟩:=j c;simp[a,d]};obtain⟨E,i,y,k,a,_⟩:=vZ g;obtain⟨H,z,A,f,u,t,I⟩:=F;subst a;exact⟨s,q⟩
structure Carry(P:V6)(rd:Bool)(main:Bool)(cs:List VU)(J:(Nat->Prop)->VK->VH->Prop)(Kn:(Nat->Prop)->VH->List (Nat×Ws)->Prop)(al:Prop):Prop where
 ctl:∀own v F F1,(∀w,VO P main (G F cs) w=.go (G F1 cs) w #[])->J own (G F1 cs) v->J own (G F cs) v
 mem:∀own v H k b o o' F F1,Kn own v H->H[k]?=VF (b,o)->(rd=VG->o'=o)->(∀w:VH,w.heap[b]?=VF o->∃es,VO P main (G F cs) w=.go (G F1 cs) (iw w b o') es/\∀e∈es,w6 b e)->(∀v',Kn own v' (H.set k (b,o'))->J own (G F1 cs) v')->J own (G F cs) v
 new:al->∀own v H o F(F1:Nat->VU),Kn own v H->(∀w:VH,VO P main (G F cs) w=.go (G (F1 w.heap.size) cs) (w.alloc o) #[])->(∀own' c v',Kn own' v' ((c,o)::H)->J own' (G (F1 c) cs) v')->J own (G F cs) v
theorem Carry.run{P:V6}{J:(Nat->Prop)->VK->VH->Prop}{Kn:(Nat->Prop)->VH->List (Nat×Ws)->Prop}{al:Prop}(C:Carry P rd main cs J Kn al)(O:List (Nat×VI)):∀(n:Nat)(g:List Nat)(k:Nat)(_:k≠0->al)(own:Nat->Prop)(v:VH)(F:VU)(H:List (Nat×Ws)),F.mode=.run->F.kind≠.early->Kn own v H->(∀bs:List Nat,bs.length=k->∃r,ik P rd O n g bs F H=VF r/\(∀p∈r.2.2.1,p.1=p.2)/\(∀p∈r.2.2.2,p.1=p.2)/\∀d t,Kn d t r.2.1->J d (G r.1 cs) t)->J own (G F cs) v|0,g,k,z,own,v,F,H,K,I,m,E=>by obtain⟨r,h,_,_,y⟩:=E (List.replicate k 0) (by simp);cases h;exact y own v m|n+1,g,k,z,own,v,F,H,K,I,m,E=>by cases a:lI P F with|some f=>obtain⟨h,u,l⟩:=ir K I a;(have R:(hint O F f).1=f:=by obtain⟨r,e,_,B,_⟩:=E (List.replicate k 0) (by simp);simp only[ik,a]at e;obtain⟨s,_,rfl⟩:=Ts.1 e;exact vC a λp a=>B p (TB.2 (.inl a)));refine C.ctl own v F f (λw=>h main cs w) (Carry.run C O n g k z own v f H u l m λbs A=>?_);obtain⟨r,e,D,B,N⟩:=E bs A;simp only[ik,a,R]at e;obtain⟨s,M,rfl⟩:=Ts.1 e;exact⟨s,M,D,λp a=>B p (TB.2 (.inr a)),N⟩|none=>cases g with|nil=>obtain⟨r,e,_,_,y⟩:=E (List.replicate k 0) (by simp);simp only[ik,a,Tu]at e;subst e;exact y own v m|cons j g=>cases j with|zero=>(cases k with|zero=>obtain⟨r,e,_⟩:=E [] rfl;simp[ik,a]at e|succ k=>(obtain⟨o,f,h,u,l⟩:=Ni (P:=P) K I λc=>by obtain⟨r,e,_⟩:=E (c::List.replicate k 0) (by simp);simp only[ik,a]at e;cases S:P' P c F with|none=>rw[S]at e;cases e|some r=>exact⟨r,rfl⟩);refine C.new (z (by simp)) own v H o F f m (λw=>u main cs w) λd c t i=>Carry.run C O n g k (λ_=>z (by simp)) d t (f c) _ (l c).1 (l c).2 i λbs A=>?_;obtain⟨r,e,T⟩:=E (c::bs) (by simp[A]);simp only[ik,a,h c]at e;exact⟨r,e,T⟩)|succ j=>cases L:Q2 P rd j F H with|none=>obtain⟨r,e,_⟩:=E (List.replicate k 0) (by simp);simp[ik,a,L]at e|some x=>obtain⟨f,W,q⟩:=x;obtain⟨b,o,V,h,rfl,u,l,y,Q⟩:=Mo K I L (by obtain⟨r,e,D,_⟩:=E (List.replicate k 0) (by simp);simp only[ik,a,L]at e;obtain⟨s,_,rfl⟩:=Ts.1 e;exactλp a=>D p (TB.2 (.inl a)));refine C.mem own v H j b o V F f m h u (λw U=>l main cs w U) λt i=>Carry.run C O n g k z own t f _ y Q i λbs A=>?_;obtain⟨r,e,D,B,N⟩:=E bs A;simp only[ik,a,L]at e;obtain⟨s,M,rfl⟩:=Ts.1 e;exact⟨s,M,λp a=>D p (TB.2 (.inr a)),B,N⟩
end Go.Pw
namespace Go.ab
variable{a a':Wq}{v w:VH}{v' y:VI}{x x':Array VI}{i b g b':Nat}{o o':Ws}{P:V6}{α β γ δ:Type}{t:VX}
section
abbrev bA:=Nat->Option Nat
def bA.le(r r':bA):Prop:=∀b c,r b=VF c->r' b=VF c
theorem bA.le_refl(r:bA):r.le r:=λ_ _ h=>h
theorem bA.le_trans{r r' r'':bA}(h:r.le r')(a:r'.le r''):r.le r'':=λb c e=>a b c (h b c e)
structure dz where
 fns:V8->Bool
 seen:Nat->Prop
 Ed:Nat->Nat
 aJ:Nat
 low:Nat->Nat:=λ_=>0
def vL:VX:=1000000007
structure Fits(P:V6)(c:dz):Prop where
 aJ:c.aJ=P.globals.size
 bad:P.info? vL=VJ
 low:∀g,g<c.aJ->c.low g=0
def dw(c:dz)(r:bA)(a a':Wq):Prop:=r a.block=VF a'.block/\a'.off=a.off/\a'.spot=a.spot/\c.low a.block<=a.off
def Gj(c:dz):Fn->Bool
 |.func f=>c.fns f
 |_=>Vo
inductive ai(c:dz)(r:bA):VI->VI->Prop
 |bool(b:Bool):ai c r (.bool b) (.bool b)
 |int(k:IntKind)(n:Int):ai c r (.int k n) (.int k n)
 |string(s:ByteArray):ai c r (.string s) (.string s)
 |gb:ai c r (.pointer VJ) (.pointer VJ)
 |ptr{a a':Wq}:dw c r a a'->ai c r (.pointer (VF a)) (.pointer (VF a'))
 |gi(n m:Nat):ai c r (.slice VJ n m) (.slice VJ n m)
 |slice{a a':Wq}(n m:Nat):dw c r a a'->ai c r (.slice (VF a) n m) (.slice (VF a') n m)
 |cB(a a':Wq):ai c r (.slice (VF a) 0 0) (.slice (VF a') 0 0)
 |kC:ai c r (.map VJ) (.map VJ)
 |map{a a':Nat}:r a=VF a'->ai c r (.map (VF a)) (.map (VF a'))
 |func{fn:Fn}{x x' y y':Array VI}:Gj c fn=VG->x.size=x'.size->(∀(i:Nat)(v v':VI),x[i]?=VF v->x'[i]?=VF v'->ai c r v v')->
  y.size=y'.size->(∀(i:Nat)(v v':VI),y[i]?=VF v->y'[i]?=VF v'->ai c r v v')->ai c r (.func fn x y) (.func fn x' y')
 |nilFunc:ai c r .nilFunc .nilFunc
 |nilIface:ai c r .nilIface .nilIface
 |iface(t:VX){v v':VI}:ai c r v v'->ai c r (.iface t v) (.iface t v')
 |agg{x x':Array VI}:x.size=x'.size->(∀(i:Nat)(v v':VI),x[i]?=VF v->x'[i]?=VF v'->ai c r v v')->ai c r (.agg x) (.agg x')
 |tuple{x x':Array VI}:x.size=x'.size->(∀(i:Nat)(v v':VI),x[i]?=VF v->x'[i]?=VF v'->ai c r v v')->ai c r (.tuple x) (.tuple x')
structure aj(c:dz)(r:bA)(x x':Array VI):Prop where
 size:x.size=x'.size
 el:∀(i:Nat)(v v':VI),x[i]?=VF v->x'[i]?=VF v'->ai c r v v'
theorem dw.mono{c:dz}{r r':bA}(h:r.le r')(x:dw c r a a'):dw c r' a a':=⟨h _ _ x.1,x.2⟩
theorem ai.mono{c:dz}{r r':bA}(h:r.le r'){v:VI}(x:ai c r v v'):ai c r' v v':=by induction x with|bool b=>exact .bool b|int k n=>exact .int k n|string s=>exact .string s|gb=>exact .gb|ptr a=>exact .ptr (a.mono h)|gi n m=>exact .gi n m|slice n m a=>exact .slice n m (a.mono h)|cB a e=>exact .cB a e|kC=>exact .kC|map a=>exact .map (h _ _ a)|func i j _ l _ f g=>exact .func i j f l g|nilFunc=>exact .nilFunc|nilIface=>exact .nilIface|iface t _ d=>exact .iface t d|agg s _ d=>exact .agg s d|tuple s _ d=>exact .tuple s d
theorem aj.mono{c:dz}{r r':bA}(h:r.le r')(k:aj c r x x'):aj c r' x x':=⟨k.size,λi v d a b=>(k.el i v d a b).mono h⟩
theorem ai.ss{c:dz}{r:bA}(h:aj c r x x'):ai c r (.agg x) (.agg x'):=.agg h.size h.el
theorem ai.kJ{c:dz}{r:bA}(h:aj c r x x'):ai c r (.tuple x) (.tuple x'):=.tuple h.size h.el
section rows
variable{c:dz}{r:bA}
theorem aj.get(h:aj c r x x'){v:VI}(b:x[i]?=VF v):∃d,x'[i]?=VF d/\ai c r v d:=by have e:=(Tk.1 b).1;have a:=h.size▸e;exact⟨x'[i],Tt a,h.el i v _ b (Tt a)⟩
theorem aj.none(h:aj c r x x')(a:x[i]?=Option.none):x'[i]?=Option.none:=by rw[Array.getElem?_eq_none_iff]at a⊢;rw[<-h.size];exact a
theorem aj.getD(h:aj c r x x')(i:Nat){d d':VI}(b:ai c r d d'):ai c r (x.getD i d) (x'.getD i d'):=by rw[Tp,Tp];cases a:x[i]? with|none=>rw[h.none a];exact b|some v=>obtain⟨f,e,k⟩:=h.get a;simp_all
theorem aj.empty:aj c r #[] #[]:=⟨rfl,λi v a h=>by simp at h⟩
theorem aj.push(h:aj c r x x'){v:VI}(k:ai c r v v'):aj c r (x.push v) (x'.push v'):=by refine⟨by simp[h.size],λi u d a b=>?_⟩;rw[TP]at a b;rw[<-h.size]at b;split at a;{simp_all};rw[if_neg ‹_›]at b;exact h.el i u d a b
theorem aj.append{y y':Array VI}(h:aj c r x x')(k:aj c r y y'):aj c r (x++y) (x'++y'):=by refine⟨by simp[h.size,k.size],λi u d a b=>?_⟩;rw[Array.getElem?_append]at a b;rw[<-h.size]at b;split at a;{rw[if_pos ‹_›]at b;exact h.el i u d a b};rw[if_neg ‹_›]at b;exact k.el _ u d a b
theorem aj.set(h:aj c r x x')(i:Nat){v:VI}(k:ai c r v v'):aj c r (x.setIfInBounds i v) (x'.setIfInBounds i v'):=by refine⟨by simp[h.size],λj u d a b=>?_⟩;rw[Uv]at a b;split at a;{simp_all};rw[if_neg ‹_›]at b;exact h.el j u d a b
theorem aj.extract(h:aj c r x x')(i j:Nat):aj c r (x.extract i j) (x'.extract i j):=by refine⟨by simp[h.size],λk u d a b=>?_⟩;rw[Array.getElem?_extract]at a b;rw[<-h.size]at b;split at a;{rw[if_pos ‹_›]at b;exact h.el _ u d a b};cases a
theorem aj.single{v:VI}(k:ai c r v v'):aj c r #[v] #[v']:=by refine⟨rfl,λi u d a b=>?_⟩;grind
theorem aj.cells{v v':VI}(k:ai c r v v'):aj c r v.cells v'.cells:=by cases k with|agg s e=>exact⟨s,e⟩|bool b=>exact .single (.bool b)|int k n=>exact .single (.int k n)|string s=>exact .single (.string s)|gb=>exact .single .gb|ptr a=>exact .single (.ptr a)|gi n m=>exact .single (.gi n m)|cB a g=>exact .single (.cB a g)|slice n m a=>exact .single (.slice n m a)|kC=>exact .single .kC|map a=>exact .single (.map a)|func a b d e f=>exact .single (.func a b d e f)|nilFunc=>exact .single .nilFunc|nilIface=>exact .single .nilIface|iface t a=>exact .single (.iface t a)|tuple a b=>exact .single (.tuple a b)
theorem aj.map{α:Type}(l:Array α)(f f':α->VI)(h:∀x∈l,ai c r (f x) (f' x)):aj c r (l.map f) (l.map f'):=by refine⟨by simp,λi u d a b=>?_⟩;grind
theorem fL:ai c r VP VP:=.tuple rfl λi v a h=>by simp at h
theorem aj.replicate(n:Nat){v:VI}(k:ai c r v v'):aj c r (Array.replicate n v) (Array.replicate n v'):=by refine⟨by simp,λi u d a b=>?_⟩;grind
end rows
structure Hw(c:dz)(r:bA)(e e':WB):Prop where
 key:ai c r e.key e'.key
 val:ai c r e.val e'.val
 born:e'.born=e.born
inductive l5(c:dz)(r:bA):Ws->Ws->Prop
 |cells{x x':Array VI}(t:VX)(fr:Nat×Nat):aj c r x x'->l5 c r (.cells x t fr) (.cells x' t fr)
 |map{x x':Array WB}(k:Nat):x.size=x'.size->(∀(i:Nat)(e e':WB),x[i]?=VF e->x'[i]?=VF e'->Hw c r e e')->l5 c r (.map x k) (.map x' k)
 |iter(s:ByteArray)(p:Nat):l5 c r (.stringIter s p) (.stringIter s p)
 |number{a a':Wq}(l:Bool):dw c r a a'->l5 c r (.number a l) (.number a' l)
inductive qh(c:dz)(r:bA)(b:Nat):Option Ws->Option Ws->Prop
 |seen{x x':Array VI}(t t':VX)(fr:Nat×Nat):c.seen b->x.size<=c.Ed b->x.size<=x'.size->(c.low b=0->t=t')/\(c.low b≠0->t=vL/\c.aJ<=b)->(∀(i:Nat)(v v':VI),c.low b<=i->x[i]?=VF v->x'[i]?=VF v'->ai c r v v')->qh c r b (VF (.cells x t (0,x.size))) (VF (.cells x' t' fr))
 |own{o o':Ws}:¬c.seen b->l5 c r o o'->qh c r b (VF o) (VF o')
theorem Hw.mono{c:dz}{r r':bA}(h:r.le r'){e e':WB}(k:Hw c r e e'):Hw c r' e e':=⟨k.key.mono h,k.val.mono h,k.born⟩
theorem l5.mono{c:dz}{r r':bA}(h:r.le r')(k:l5 c r o o'):l5 c r' o o':=by cases k with|cells t g k=>exact .cells t g (k.mono h)|map k s e=>exact .map k s λi d f a b=>(e i d f a b).mono h|iter s p=>exact .iter s p|number l a=>exact .number l (a.mono h)
theorem qh.mono{c:dz}{r r':bA}(h:r.le r'){o o':Option Ws}(k:qh c r b o o'):qh c r' b o o':=by cases k with|seen t g f s l z y e=>exact .seen t g f s l z y λi v j a b d=>(e i v j a b d).mono h|own n k=>exact .own n (k.mono h)
structure cC(c:dz)(r:bA)(w v:VH):Prop where
 qf:∀b k:Nat,r b=VF k->b<w.heap.size
 zm:∀b k:Nat,r b=VF k->k<v.heap.size
 inj:∀b b' k:Nat,r b=VF k->r b'=VF k->b=b'\/(c.seen b/\c.seen b')
 qk:∀b:Nat,¬c.seen b->c.low b=0
 hid:∀b:Nat,b<c.aJ->r b=VJ->w.heap[b]?=VF (.cells #[] 0)
 blk:∀b k:Nat,r b=VF k->qh c r b w.heap[b]? v.heap[k]?
 tape:v.tape=w.tape
 drawn:v.drawn=w.drawn
 old:∀b:Nat,c.seen b->b<w.heap.size
 aJ:∀b k:Nat,r b=VF k->b<c.aJ->b=k
 ig:c.aJ<=w.heap.size/\c.aJ<=v.heap.size
structure Ext(c:dz)(r:bA)(w v:VH)(r':bA)(w' v':VH):Prop where
 rel:cC c r' w' v'
 le:r.le r'
 grow:w.heap.size<=w'.heap.size
 size:v'.heap.size+w.heap.size=v.heap.size+w'.heap.size
 zd:∀b:Nat,b<w.heap.size->r' b=r b
 new:∀b:Nat,w.heap.size<=b->b<w'.heap.size->r' b=VF (v.heap.size+(b-w.heap.size))
 keep:∀k:Nat,k<v.heap.size->(∀b:Nat,r b=VF k->c.seen b)->v'.heap[k]?=v.heap[k]?
 os:v'.os=v.os
 out:v'.output=v.output
 tape:v'.tape=v.tape
theorem Ext.refl{c:dz}{r:bA}(h:cC c r w v):Ext c r w v r w v:=⟨h,bA.le_refl r,Ti _,by omega,λ_ _=>rfl,λb _ _=>by omega,λ_ _ _=>rfl,rfl,rfl,rfl⟩
theorem Ext.trans{c:dz}{r r1 r2:bA}{w1 v1 w2 v2:VH}(h:Ext c r w v r1 w1 v1)(k:Ext c r1 w1 v1 r2 w2 v2):Ext c r w v r2 w2 v2:=by have n:=h.size;have o:=k.size;have g:=h.grow;have m:=k.grow;refine⟨k.rel,bA.le_trans h.le k.le,TK g m,by omega,λb a=>(k.zd b (Tj a g)).trans (h.zd b a),λb a f=>?_,λj l i=>?_,k.os.trans h.os,k.out.trans h.out,k.tape.trans h.tape⟩;{rcases TN b w1.heap.size with e|d;{exact k.le _ _ (h.new b a e)};rw[k.new b d f];grind};rw[k.keep j Ω (λb a=>?_),h.keep j l i];refine i b ?_;rcases TN b w.heap.size with e|d;{rw[<-h.zd b e];exact a};have:=h.rel.qf b j a;rw[h.new b d this]at a;grind
def qZ(c:dz)(r:bA)(e:Wv):Prop:=
 (∃b:Nat,(match e.loc with|.cell a=>r b=VF a.block/\(c.seen b->a.off<c.Ed b/\a.spot=VJ)|.obj k=>r b=VF k/\¬c.seen b|_=>False)/\(e.write=VG->¬c.seen b)/\e.sync=Vo)\/e.loc=.mark .noRoom\/∃f,e.loc=.mark (.extern f)
theorem qZ.mono{c:dz}{r r':bA}(h:r.le r'){e:Wv}(x:qZ c r e):qZ c r' e:=by rcases x with⟨b,a,d⟩|x;{refine .inl ⟨b,?_,d⟩;revert a;cases e.loc<;>simp only[imp_self]<;>exactλx=>⟨h _ _ x.1,x.2⟩};exact .inr x
end
section
variable{c:dz}{r:bA}
def AG:Halt->Bool
 |.unsupported (.initOrder _)=>Vo
 |.panic _|.stuck _|.unsupported _=>VG
 |_=>Vo
def Out(P:V6)(c:dz)(r:bA)(w v:VH)(s:Wl β)(Q:bA->α->β->Prop):Wp α->Prop
 |.ok a w'=>∃b v' r',s.run P v=.ok b v'/\Ext c r w v r' w' v'/\Q r' a b/\∀e∈s.events P v #[],qZ c r' e
 |.halt h _=>AG h=VG
def ab(P:V6)(c:dz)(r:bA)(x:Wl α)(y:Wl β)(Q:bA->α->β->Prop):Prop:=∀w v,cC c r w v->Out P c r w v y Q (x.run P w)
theorem ab.mono{x:Wl α}{y:Wl β}{Q Q':bA->α->β->Prop}(h:ab P c r x y Q)(k:∀d a b,r.le d->Q d a b->Q' d a b):ab P c r x y Q':=by intro w v l;have:=h w v l;cases f:x.run P w with|halt _ _=>rw[f]at this;exact this|ok a n=>rw[f]at this;obtain⟨b,m,d,g,e,i,j⟩:=this;exact⟨b,m,d,g,e,k _ _ _ e.le i,j⟩
theorem ab.bind{x:Wl α}{y:Wl β}{f:α->Wl γ}{g:β->Wl δ}{Q:bA->α->β->Prop}{Q':bA->γ->δ->Prop}(h:ab P c r x y Q)(k:∀l a b,r.le l->Q l a b->ab P c l (f a) (g b) Q'):ab P c r (x>>=f) (y>>=g) Q':=by intro w v t;have i:=h w v t;rw[Wl.run_bind];cases p:x.run P w with|halt _ _=>rw[p]at i;exact i|ok a m=>rw[p]at i;obtain⟨b,F,D,s,n,B,A⟩:=i;have j:=k D a b n.le B m F n.rel;show Out P c r w v (y>>=g) Q' ((f a).run P m);cases o:(f a).run P m with|halt _ _=>rw[o]at j;exact j|ok z J=>rw[o]at j;obtain⟨u,G,E,H,q,C,I⟩:=j;refine⟨u,G,E,?_,n.trans q,C,λe d=>?_⟩;{simp_all};rw[Wl.events_bind,s,Wp.evThen_ok,Wl.events_acc]at d;rcases TS.1 d with d|d;{exact(A e d).mono q.le};simp_all
theorem ab.pure{a:α}{b:β}{Q:bA->α->β->Prop}(h:Q r a b):ab P c r (Pure.pure a) (Pure.pure b) Q:=λ_ v f=>⟨b,v,r,rfl,.refl f,h,λe d=>by simp at d⟩
theorem ab.halt{h:Halt}{y:Wl β}{Q:bA->α->β->Prop}(a:AG h=VG:=by rfl):ab P c r (Wl.halt h) y Q:=λ_ _ _=>a
theorem ab.stuck{s:String}{y:Wl β}{Q:bA->α->β->Prop}:ab P c r (Go.stuck s:Wl α) y Q:=λ_ _ _=>rfl
theorem ab.unsupported{u:Unsupported}{y:Wl β}{Q:bA->α->β->Prop}(a:AG (.unsupported u)=VG:=by rfl):ab P c r (Go.unsupported u:Wl α) y Q:=λ_ _ _=>a
theorem ab.never{x:Wl α}{y:Wl β}{Q:bA->α->β->Prop}(h:∀w,∃k w',x.run P w=.halt k w'/\AG k=VG):ab P c r x y Q:=by intro w v _;obtain⟨k,w',e,a⟩:=h w;rw[e];exact a
theorem ab.ite{b:Prop}[Decidable b]{x x':Wl α}{y y':Wl β}{Q:bA->α->β->Prop}(h:b->ab P c r x y Q)(a:¬b->ab P c r x' y' Q):ab P c r (if b then x else x') (if b then y else y') Q:=by by_cases e:b;{rw[if_pos e,if_pos e];exact h e};rw[if_neg e,if_neg e];exact a e
def bR(P:V6)(q:α->Prop):Wl α->Prop
 |.pure a=>q a
 |.choose _ k=>∀n,bR P q (k n)
 |.program k=>bR P q (k P)
 |.mark m k=>m=.noRoom/\bR P q k
 |.halt h=>AG h=VG
 |_=>False
abbrev kR(P:V6):Wl α->Prop:=bR P λ_=>True
theorem bR.bind{q:α->Prop}{q':β->Prop}{x:Wl α}{f:α->Wl β}(h:bR P q x)(k:∀a,q a->bR P q' (f a)):bR P q' (x>>=f):=by induction x with|pure a=>exact k a h|choose _ g b=>exactλn=>b n (h n)|program g b=>exact b P h|mark m g b=>exact⟨h.1,b h.2⟩|halt z=>exact h|load _ _ _ _=>exact h.elim|store _ _ _ _ _=>exact h.elim|new _ _ _=>exact h.elim|shape _ _ _=>exact h.elim|freeze _ _ _ _=>exact h.elim|frozen _ _ _=>exact h.elim|getObj _ _ _=>exact h.elim|setObj _ _ _ _=>exact h.elim|sys _ _ _=>exact h.elim
theorem kR.bind{q':β->Prop}{x:Wl α}{f:α->Wl β}(h:kR P x)(k:∀a,bR P q' (f a)):bR P q' (x>>=f):=bR.bind h λa _=>k a
def Pt(P:V6)(q:α->Prop)(x:Wl α)(w v:VH):Prop:=
 (∃a d,q a/\x.run P w=.ok a {w with drawn:=d}/\x.run P v=.ok a {v with drawn:=d}/\∀e∈x.events P v #[],e.loc=.mark .noRoom)\/∃h w',x.run P w=.halt h w'/\AG h=VG
theorem bR.run{q₀:α->Prop}{x:Wl α}(h:bR P q₀ x):∀(w v:VH),v.tape=w.tape->v.drawn=w.drawn->Pt P q₀ x w v:=by induction x with|pure a=>exactλw v _ f=>.inl ⟨a,w.drawn,h,rfl,by rw[<-f];rfl,λe l=>by simp at l⟩|choose q g j=>intro w v i f;have t:∀u:VH,(Wl.choose q g).run P u=if q.forced then(g 0).run P u else(g (q.cut (u.tape u.drawn q))).run P {u with drawn:=u.drawn+1}:=λ_=>rfl;(have y:∀u:VH,(Wl.choose q g).events P u #[]=if q.forced then(g 0).events P u #[]else(g (q.cut (u.tape u.drawn q))).events P {u with drawn:=u.drawn+1} #[]:=λu=>by simp only[Wl.events,Wl.runT];grind);unfold Pt;simp only[t,y];by_cases s:q.forced=VG;{simp only[s];exact j 0 (h 0) w v i f};obtain⟨B,F,E,C,D⟩:=v;rcases j (q.cut (w.tape w.drawn q)) (h _) {w with drawn:=w.drawn+1} ⟨B,w.tape,w.drawn+1,C,D⟩ rfl rfl with⟨a,d,n,o,p,A⟩|x;{simp_all};simp_all|program g j=>exactλw v i f=>j P h w v i f|mark m g j=>intro w v i f;rcases j h.2 w v i f with⟨a,d,n,o,p,A⟩|x;{refine .inl ⟨a,d,n,o,p,λe l=>?_⟩;have k:e∈g.events P v (#[].push ⟨.mark m,Vo,VG⟩):=l;rw[Wl.events_acc]at k;rcases TS.1 k with x|x;{simp at x;rw[x,h.1]};simp_all};exact .inr x|halt z=>exactλw _ _ _=>.inr ⟨z,w,rfl,h⟩|load _ _ _ _=>exact h.elim|store _ _ _ _ _=>exact h.elim|new _ _ _=>exact h.elim|shape _ _ _=>exact h.elim|freeze _ _ _ _=>exact h.elim|frozen _ _ _=>exact h.elim|getObj _ _ _=>exact h.elim|setObj _ _ _ _=>exact h.elim|sys _ _ _=>exact h.elim
theorem cC.AR(h:cC c r w v)(d:Nat):cC c r {w with drawn:=d} {v with drawn:=d}:=⟨h.qf,h.zm,h.inj,h.qk,h.hid,h.blk,h.tape,rfl,h.old,h.aJ,h.ig⟩
theorem ab.eY{q:α->Prop}{x:Wl α}(h:bR P q x):ab P c r x x λ_ a b=>b=a/\q a:=by intro w v f;rcases h.run w v f.tape f.drawn with⟨a,d,g,i,j,l⟩|⟨k,s,e,p⟩;{rw[i];refine⟨a,_,r,j,?_,⟨rfl,g⟩,λe o=>.inr (.inl (l e o))⟩;exact⟨f.AR d,bA.le_refl r,Ti _,rfl,λ_ _=>rfl,λb m n=>absurd n (Nat.not_lt.2 m),λ_ _ _=>rfl,rfl,rfl,rfl⟩};rw[e];exact p
theorem ab.cK{x:Wl α}(h:kR P x):ab P c r x x λ_ a b=>b=a:=(ab.eY h).mono λ_ _ _ _ h=>h.1
theorem va(a:α):kR P (Pure.pure a):=trivial
theorem lB:kR P program:=trivial
theorem iq(q:Question):kR P (choose q):=λ_=>trivial
theorem dB(t:VX):kR P (typeInfo t):=by refine kR.bind lB λp=>?_;split<;>first|trivial|exact rfl
theorem aE(t:VX):kR P (underlying t):=by refine kR.bind lB λp=>?_;split<;>first|trivial|exact rfl
theorem bu(t:VX):kR P (sizeOf t):=(dB t).bind λ_=>trivial
theorem nM(t:VX):kR P (isAgg t):=(aE t).bind λd=>by split<;>first|trivial|exact rfl
theorem py(n:Nat):kR P (askRoom n):=by unfold askRoom;split;{exact⟨rfl,trivial⟩};trivial
end
section
variable{c:dz}{r:bA}
theorem cC.at(h:cC c r w v)(b:dw c r a a'):qh c r a.block w.heap[a.block]? v.heap[a'.block]?:=h.blk _ _ b.1
theorem cC.cell(h:cC c r w v)(g:dw c r a a'){x:VI}(b:w.cell? a=VF x):∃y,v.cell? a'=VF y/\ai c r x y:=by have d:=h.at g;obtain⟨_,m,o,i⟩:=g;unfold VH.cell? at b⊢;generalize q:w.heap[a.block]?=C at d b;generalize p:v.heap[a'.block]?=B at d;cases d with|@seen z D t A j s l u _ e=>grind|own n k=>cases k with|cells t j k=>simp only[o,m]at b⊢;split at b;{cases b};rename_i f;rw[if_neg f];exact k.get b|map _ _ _=>cases b|iter _ _=>cases b|number _ _=>cases b
theorem cC.S2(h:cC c r w v)(g:dw c r a a')(_:w.cell? a=VJ)(d:Bool):∃k,w.farLoad P a d=.error k/\AG k=VG:=by have f:=h.at g;unfold VH.farLoad;generalize b:w.heap[a.block]?=p at f;generalize i:v.heap[a'.block]?=o at f;cases f with|seen t m j s l _ _ e=>exact⟨_,rfl,by simp only[VH.noCell,b];rfl⟩|own n k=>cases k<;>exact⟨_,rfl,by simp only[VH.noCell,b];rfl⟩
theorem cC.within(h:cC c r w v)(f:dw c r a a'){x:VI}(b:w.cell? a=VF x):c.seen a.block->a'.off<c.Ed a.block/\a'.spot=VJ:=by intro u;have d:=h.at f;obtain⟨_,q,i,-⟩:=f;unfold VH.cell? at b;generalize m:w.heap[a.block]?=A at d b;generalize j:v.heap[a'.block]?=z at d;cases d with|seen t y o s l _ _ e=>simp only at b;split at b;{cases b};have p:=(Tk.1 b).1;exact⟨by omega,by simp_all⟩|own n k=>simp_all
theorem ab.load(d:dw c r a a'):ab P c r (load a) (load a') (ai c):=by intro w v f;unfold Go.load;cases b:w.cell? a with|none=>obtain⟨k,e,j⟩:=f.S2 (P:=P) d b (Mode.plain==Mode.atomic);(have:(Wl.load .plain a Wl.pure).run P w=.halt k w:=by simp only[Wl.run,b,e]);rw[this];exact j|some x=>obtain⟨y,i,k⟩:=f.cell d b;(have:(Wl.load .plain a Wl.pure).run P w=.ok x w:=by simp only[Wl.run,b]);rw[this];refine⟨y,v,r,by simp only[Wl.run,i],.refl f,k,λe g=>?_⟩;(have h:(Wl.load .plain a' Wl.pure).events P v #[]=#[⟨.cell a',Vo,Vo⟩]:=by simp only[Wl.events,Wl.runT,i];rfl);rw[h]at g;simp at g;subst g;exact .inl ⟨a.block,⟨d.1,f.within d b⟩,by simp,rfl⟩
theorem cC.vn(h:cC c r w v)(j:dw c r a a'){x:VI}(b:w.cell? a=VF x)(g:w.frozen? a=Vo):∃(z i:Array VI)(t:VX)(d:Nat×Nat),¬c.seen a.block/\w.heap[a.block]?=VF (.cells z t d)/\v.heap[a'.block]?=VF (.cells i t d)/\aj c r z i/\a.spot.isSome=Vo:=by have f:=h.at j;unfold VH.cell? at b;unfold VH.frozen? at g;generalize o:w.heap[a.block]?=u at f b g;generalize m:v.heap[a'.block]?=q at f;cases f with|seen t p d s l _ _ e=>simp_all|own n k=>cases k with|cells t d k=>grind|map _ _ _=>cases b|iter _ _=>cases b|number _ _=>cases b
theorem heap_setCell(w:VH)(a:Wq)(x:VI):(w.setCell a x).heap.size=w.heap.size:=by simp[VH.setCell]
theorem lE(w:VH)(a:Wq)(x:VI)(h:b≠a.block):(w.setCell a x).heap[b]?=w.heap[b]?:=by simp[VH.setCell,T5,Ne.symm h]
theorem lG(w:VH)(x:VI){z:Array VI}{fr:Nat×Nat}(h:w.heap[a.block]?=VF (.cells z t fr))(b:a.spot.isSome=Vo):(w.setCell a x).heap[a.block]?=VF (.cells (z.setIfInBounds a.off x) t fr):=by simp[VH.setCell,T5,h,b]
theorem Ext.Qm{w' v':VH}(h:cC c r w v){k:Nat}(p:r b=VF k)(q:¬c.seen b)(D:w'.heap[b]?=VF o)(C:v'.heap[k]?=VF o')(A:l5 c r o o')(f:w'.heap.size=w.heap.size)(i:v'.heap.size=v.heap.size)(m:∀j,j≠b->w'.heap[j]?=w.heap[j]?)(s:∀j,j≠k->v'.heap[j]?=v.heap[j]?)(n:v'.tape=v.tape)(t:w'.tape=w.tape)(u:v'.drawn=w'.drawn)(y:v'.os=v.os)(z:v'.output=v.output):Ext c r w v r w' v':=by refine⟨⟨λj l a=>f▸h.qf j l a,λj l a=>i▸h.zm j l a,h.inj,h.qk,λj a B=>by rw[m j (λe=>by simp_all)];exact h.hid j a B,λj l a=>?_,by rw[n,t,h.tape],u,λj a=>by rw[f];exact h.old j a,h.aJ,by rw[f,i];exact h.ig⟩,bA.le_refl r,by omega,by omega,λ_ _=>rfl,λj _ _=>by omega,λl F E=>?_,y,z,n⟩;{by_cases d:j=b;{subst d;rw[p]at a;cases a;rw[D,C];exact .own q A};have g:l≠k:=λe=>d ((h.inj _ _ _ (e▸a) p).resolve_right λx=>q x.2);rw[m j d,s l g];exact h.blk j l a};grind
theorem ai.one{x:VI}(h:ai c r x y):y.oneCell'=x.oneCell':=by cases h<;>rfl
theorem ab.store(b:dw c r a a'){x:VI}(q:ai c r x y):ab P c r (store a x) (store a' y) λ_ _ _=>True:=by intro w v f;unfold Go.store;by_cases B:x.oneCell'=VG;{(have C:y.oneCell'=VG:=by rw[q.one,B]);(have e:∀(u:VH)(p:Wq)(z:VI),z.oneCell'=VG->(Wl.store .plain p z (.pure ())).run P u=match u.cell? p with|some _=>if u.frozen? p then .halt (.unsupported (.unsafePointer "a write to bytes that a string shares")) u else .ok () (u.setCell p z)|none=>match u.farStore P p z Vo with|.ok (U,_)=>.ok () U|.error h=>.halt h u:=by intro u p z H;cases z<;>first|(simp[VI.oneCell']at H;done)|(rfl));rw[e w a x B];cases L:w.cell? a with|none=>have D:=f.at b;(have:∃k,w.farStore P a x Vo=.error k/\AG k=VG:=by unfold VH.farStore;generalize o:w.heap[a.block]?=Y at D;generalize S:v.heap[a'.block]?=X at D;cases D with|seen t W K s l _ _ e=>exact⟨_,rfl,by simp only[VH.noCell,o];rfl⟩|own n k=>cases k<;>exact⟨_,rfl,by simp only[VH.noCell,o];rfl⟩);obtain⟨k,N,Q⟩:=this;simp only[N];exact Q|some Z=>simp only;cases A:w.frozen? a with|true=>rfl|false=>obtain⟨z,z',t,K,d,I,J,H,i⟩:=f.vn b L A;obtain⟨y0,T,_⟩:=f.cell b L;(have m:a'.spot.isSome=Vo:=by rw[b.2.2.1];exact i);(have O:v.frozen? a'=Vo:=by unfold VH.frozen? at A⊢;rw[I]at A;rw[J];simp only[b.2.1];exact A);have g:=H.set a.off q;refine⟨(),v.setCell a' y,r,?_,?_,trivial,λV E=>?_⟩;{simp_all};{refine Ext.Qm f b.1 d (lG w x I i) (lG v y J m) ?_ (heap_setCell _ _ _) (heap_setCell _ _ _) (λj G=>lE w a x G) (λj G=>lE v a' y G) rfl rfl f.drawn rfl rfl;rw[b.2.1];exact .cells t K g};(have F:(Wl.store .plain a' y (.pure ())).events P v #[]=#[⟨.cell a',VG,Vo⟩]:=by have:=events_store P v #[] a' y .plain C;unfold Go.store at this;simp_all);rw[F]at E;simp at E;subst E;exact .inl ⟨a.block,⟨b.1,λR=>absurd R d⟩,λ_=>d,rfl⟩};refine ab.never (P:=P) (c:=c) (r:=r) (λu=>?_) w v f;cases x<;>first|(simp[VI.oneCell']at B;done)|exact⟨_,_,rfl,rfl⟩
def bA.add(r:bA)(b k:Nat):bA:=λj=>if j=b then VF k else r j
theorem Ext.alloc(h:cC c r w v)(n:l5 c r o o'):Ext c r w v (r.add w.heap.size v.heap.size) {w with heap:=w.heap.push o} {v with heap:=v.heap.push o'}:=by have p:=λx=>TC _ (h.old _ x);(have f:r.le (r.add w.heap.size v.heap.size):=by intro b k a;have:=h.qf b k a;unfold bA.add;grind);refine⟨⟨λb k a=>?_,λb k a=>?_,λb q k a d=>?_,h.qk,λb i a=>?_,λb k a=>?_,h.tape,h.drawn,λb a=>by have:=h.old b a;simp;omega,λb k a i=>?_,by have:=h.ig;simp;omega⟩,f,by simp,by simp;omega,λb a=>by unfold bA.add;grind,λb a d=>?_,λk s _=>?_,rfl,rfl,rfl⟩;{unfold bA.add at a;simp;split at a;{omega};have:=h.qf b k a;omega};{unfold bA.add at a;simp;split at a;{simp_all};have:=h.zm b k a;omega};{unfold bA.add at a d;split at a<;>split at d;{omega};{cases a;have:=h.zm _ _ d;omega};{cases d;have:=h.zm _ _ a;omega};exact h.inj _ _ _ a d};{have m:=Tj i h.ig.1;unfold bA.add at a;rw[if_neg Ω]at a;rw[TP,if_neg Ω];exact h.hid b i a};{unfold bA.add at a;split at a;{rename_i e;subst e;cases a;simp only[Array.getElem?_push_size];exact .own p (n.mono f)};have j:=h.qf b k a;have l:=h.zm b k a;rw[VM j,VM l,<-Tt j,<-Tt l];exact(h.blk b k a).mono f};{unfold bA.add at a;have:=h.ig;split at a;{omega};exact h.aJ b k a i};{unfold bA.add;grind};grind
theorem bA.EZ(r:bA)(b k:Nat):r.add b k b=VF k:=by unfold bA.add;simp
theorem ab.newObj(f:l5 c r o o'):ab P c r (newObj o) (newObj o') λg b d=>g b=VF d/\c.low b=0:=by intro w v a;refine⟨v.heap.size,_,_,rfl,Ext.alloc a f,⟨bA.EZ _ _ _,a.qk _ λx=>TC _ (a.old _ x)⟩,λe h=>?_⟩;simp_all
theorem ab.newRow(h:aj c r x x'):ab P c r (newRow t x) (newRow t x') (dw c):=by refine ab.bind (ab.newObj (.cells t (0,0) h)) λe b d _ a=>ab.pure ⟨a.1,rfl,rfl,Um a.2⟩
theorem ab.newVar{x x':VI}(h:ai c r x x'):ab P c r (newVar t x) (newVar t x') (dw c):=ab.newRow (aj.cells h)
theorem dw.add{a a':Wq}(h:dw c r a a')(n:Nat):dw c r (a.add n) (a'.add n):=by unfold Wq.add;split;{exact h};exact⟨h.1,by simp[h.2.1],rfl,TK h.2.2.2 (TX _ _)⟩
theorem ab.loadCellsFrom(n:Nat):∀{r:bA}{a a':Wq}(i:Nat){acc acc':Array VI},dw c r a a'->aj c r acc acc'->ab P c r (loadCellsFrom a i n acc) (loadCellsFrom a' i n acc') (aj c):=by induction n with|zero=>intro r a a' i acc acc' e b;exact ab.pure b|succ n g=>intro r a a' i acc acc' e b;exact ab.bind (ab.load (e.add i)) λh x j d f=>g (i+1) (e.mono d) ((b.mono d).push f)
theorem ab.loadCells(b:dw c r a a')(n:Nat):ab P c r (loadCells a n) (loadCells a' n) (aj c):=ab.loadCellsFrom n 0 b .empty
theorem ab.EB(i:Fits P c)(b:g<c.aJ)(o:Nat):ab P c r (Go.load ⟨g,o,VJ⟩) (Go.load ⟨g,o,VJ⟩) (ai c):=by intro w v f;cases d:r g with|some k=>obtain rfl:=f.aJ g k d b;exact ab.load ⟨d,rfl,rfl,TK (Um (i.low g b)) (TH _)⟩ w v f|none=>have h:=f.hid g b d;(have e:(Go.load ⟨g,o,VJ⟩).run P w=.halt (.stuck "load: no such cell") w:=by simp[Wl.run,VH.cell?,VH.farLoad,VH.noCell,h]);rw[e];exact rfl
theorem ab.tt(f:Fits P c)(h:g<c.aJ)(n:Nat):∀{r:bA}(i:Nat){acc acc':Array VI},aj c r acc acc'->ab P c r (Go.loadCellsFrom ⟨g,0,VJ⟩ i n acc) (Go.loadCellsFrom ⟨g,0,VJ⟩ i n acc') (aj c):=by induction n with|zero=>intro r i acc acc' a;exact ab.pure a|succ n k=>intro r i acc acc' a;(have e:(⟨g,0,VJ⟩:Wq).add i=⟨g,0+i,VJ⟩:=by unfold Wq.add;simp_all);unfold Go.loadCellsFrom;rw[e];exact ab.bind (ab.EB f h _) λl x m b j=>k (i+1) ((a.mono b).push j)
theorem ab.HV(a:Fits P c)(d:g<c.aJ)(t:VX):ab P c r (Go.loadVar t ⟨g,0,VJ⟩) (Go.loadVar t ⟨g,0,VJ⟩) (ai c):=by refine ab.bind (ab.cK (nM t)) λp b f k h=>?_;subst h;cases f with|false=>exact ab.EB a d 0|true=>refine ab.bind (ab.cK (bu t)) λq n o l i=>?_;subst i;exact ab.bind (ab.tt a d _ 0 .empty) λs x u m j=>ab.pure (.ss j)
theorem ab.storeCells:∀{r:bA}{a a':Wq}{l l':List VI}(i:Nat),dw c r a a'->aj c r l.toArray l'.toArray->ab P c r (storeCells a l i) (storeCells a' l' i) λ_ _ _=>True|r,a,a',[],[],i,b,h=>ab.pure trivial|r,a,a',[],_::_,i,b,h=>by have:=h.size;grind|r,a,a',_::_,[],i,b,h=>by have:=h.size;grind|r,a,a',x::l,g::l',i,b,h=>by refine ab.bind (ab.store (b.add i) (h.el 0 x g Θ Θ)) λm _ _ d _=>?_;refine ab.storeCells (i+1) (b.mono d) ((⟨?_,λj u f k e=>?_⟩:aj c r l.toArray l'.toArray).mono d);{have:=h.size;simp_all};exact h.el (j+1) u f (by simp_all) (by simp_all)
theorem ab.loadVar(t:VX)(d:dw c r a a'):ab P c r (loadVar t a) (loadVar t a') (ai c):=by refine ab.bind (ab.cK (nM t)) λm g e b h=>?_;subst h;cases e with|false=>exact ab.load (d.mono b)|true=>refine ab.bind (ab.cK (bu t)) λo n l f i=>?_;subst i;exact ab.bind (ab.loadCells ((d.mono b).mono f) _) λp x q k j=>ab.pure (.ss j)
theorem ab.storeVar(t:VX)(j:dw c r a a'){x x':VI}(h:ai c r x x'):ab P c r (storeVar t a x) (storeVar t a' x') λ_ _ _=>True:=by refine ab.bind (ab.cK (bu t)) λg n d f k=>?_;subst k;have l:=(aj.cells h).size;have b:ab P c g (Go.storeCells a x.cells.toList) (Go.storeCells a' x'.cells.toList) λ_ _ _=>True:=ab.storeCells 0 (j.mono f) (by simpa using(aj.cells h).mono f);rw[<-l];by_cases e:x.cells.size≠d;{rw[if_pos e,if_pos e];exactλ_ _ _=>rfl};rw[if_neg e,if_neg e];exact b
theorem ab.getObj(D:r b=VF b'){k:Ws->Wl α}{k':Ws->Wl β}{Q:bA->α->β->Prop}(G:∀o o',¬c.seen b->l5 c r o o'->(∀x t f,o≠.cells x t f)->ab P c r (k o) (k' o') Q):ab P c r (getObj b>>=k) (getObj b'>>=k') Q:=by intro w v E;have F:=E.blk b b' D;rw[Wl.run_bind];(have C:∀(u:VH)(j:Nat),(Go.getObj j).run P u=match u.heap[j]? with|some (.cells ..)=>.halt (.stuck "getObj: a row of cells") u|some o=>.ok o u|none=>.halt (.stuck "getObj: no such block") u:=by intro u j;unfold Go.getObj;simp only[Wl.run];rfl);rw[C];generalize O:w.heap[b]?=U at F;generalize g:v.heap[b']?=T at F;cases F with|seen _ _ _ _ _ _ _ _=>exact rfl|own n N=>rename_i o o';cases N with|cells t S _=>exact rfl|map R L M=>have:=G _ _ n (.map R L M) (λ_ _ _ h=>by cases h) w v E;revert this;show Out P c r w v _ Q ((k _).run P w)->Out P c r w v _ Q ((k _).run P w);(cases(k _).run P w with|halt _ _=>exactλh=>h|ok a J=>rintro⟨q,B,A,H,i,z,I⟩;refine⟨q,B,A,by simp_all,i,z,λe d=>?_⟩;rw[Wl.events_bind,C,g]at d;(have y:(Go.getObj b').events P v #[]=#[⟨.obj b',Vo,Vo⟩]:=by simp[Go.getObj,Wl.events,Wl.runT,g,Ws.isChan,-Wl.runT_eq]);simp only[Wp.evThen_ok]at d;rw[Wl.events_acc,y]at d;rcases TS.1 d with d|d;{simp at d;subst d;exact .inl ⟨b,⟨i.le _ _ D,n⟩,by simp,rfl⟩};simp_all)|iter s p=>have:=G _ _ n (.iter s p) (λ_ _ _ h=>by cases h) w v E;revert this;show Out P c r w v _ Q ((k _).run P w)->Out P c r w v _ Q ((k _).run P w);(cases(k _).run P w with|halt _ _=>exactλh=>h|ok a J=>rintro⟨q,B,A,H,i,z,I⟩;refine⟨q,B,A,by simp_all,i,z,λe d=>?_⟩;rw[Wl.events_bind,C,g]at d;(have y:(Go.getObj b').events P v #[]=#[⟨.obj b',Vo,Vo⟩]:=by simp[Go.getObj,Wl.events,Wl.runT,g,Ws.isChan,-Wl.runT_eq]);simp only[Wp.evThen_ok]at d;rw[Wl.events_acc,y]at d;rcases TS.1 d with d|d;{simp at d;subst d;exact .inl ⟨b,⟨i.le _ _ D,n⟩,by simp,rfl⟩};simp_all)|number l K=>have:=G _ _ n (.number l K) (λ_ _ _ h=>by cases h) w v E;revert this;show Out P c r w v _ Q ((k _).run P w)->Out P c r w v _ Q ((k _).run P w);cases(k _).run P w with|halt _ _=>exactλh=>h|ok a J=>rintro⟨q,B,A,H,i,z,I⟩;refine⟨q,B,A,by simp_all,i,z,λe d=>?_⟩;rw[Wl.events_bind,C,g]at d;(have y:(Go.getObj b').events P v #[]=#[⟨.obj b',Vo,Vo⟩]:=by simp[Go.getObj,Wl.events,Wl.runT,g,Ws.isChan,-Wl.runT_eq]);simp only[Wp.evThen_ok]at d;rw[Wl.events_acc,y]at d;rcases TS.1 d with d|d;{simp at d;subst d;exact .inl ⟨b,⟨i.le _ _ D,n⟩,by simp,rfl⟩};simp_all
theorem ab.setObj(i:r b=VF b')(z:¬c.seen b)(A:l5 c r o o')(I:o.isChan=Vo):ab P c r (setObj b o) (setObj b' o') λ_ _ _=>True:=by intro w v k;have m:=k.blk b b' i;(have C:∀(u:VH)(j:Nat)(o:Ws),(Go.setObj j o).run P u=match u.heap[j]? with|some (.cells ..)=>.halt (.stuck "setObj: a row of cells") u|some _=>.ok () {u with heap:=u.heap.setIfInBounds j o}|none=>.halt (.stuck "setObj: no such block") u:=by intro u j o;rfl);rw[C];have n:=k.qf b b' i;have y:=k.zm b b' i;(have E:o'.isChan=Vo:=by cases A<;>rfl);generalize H:w.heap[b]?=K at m;generalize g:v.heap[b']?=J at m;(have d:∀q,v.heap[b']?=VF q->(∀x t f,q≠.cells x t f)->q.isChan=Vo->Out P c r w v (Go.setObj b' o') (λ_ _ _=>True) (.ok () {w with heap:=w.heap.setIfInBounds b o}):=by intro q F G B;refine⟨(),{v with heap:=v.heap.setIfInBounds b' o'},r,?_,?_,trivial,λe p=>?_⟩;{simp_all};{exact Ext.Qm k i z (by simp[n]) (by simp[y]) A Θ Θ (λj s=>TJ (Ne.symm s)) (λj s=>TJ (Ne.symm s)) rfl rfl k.drawn rfl rfl};(have D:(Go.setObj b' o').events P v #[]=#[⟨.obj b',VG,Vo⟩]:=by unfold Go.setObj;simp only[Wl.events,Wl.runT,F];simp_all);rw[D]at p;simp at p;subst p;exact .inl ⟨b,⟨i,z⟩,λ_=>z,rfl⟩);cases m with|seen _ _ _ x _ _ _ _=>rfl|own _ h=>cases h with|cells _ _ _=>exact rfl|map _ _ _=>exact d _ g (λ_ _ _ h=>by cases h) rfl|iter _ _=>exact d _ g (λ_ _ _ h=>by cases h) rfl|number _ _=>exact d _ g (λ_ _ _ h=>by cases h) rfl
end
end Go.ab
