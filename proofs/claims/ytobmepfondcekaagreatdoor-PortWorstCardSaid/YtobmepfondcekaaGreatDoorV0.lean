/- A part of the proof that PortWorst holds for every input. Conditions: none. -/
import Derived.KernelRfl
import GoSem.Core.Value
import Derived.Conc.Own4
import Derived.Conc.SmallLaws
import Derived.Conc.Listed
import Derived.Calls
import Derived.Conc.Own
import Derived.Conc.Events
set_option linter.all false
open Go renaming Addr->V0,Builtin->VW,Code->We,Event->V4,Frame->Vx,FuncId->VE,Goroutine->Vp,IntKind->Vy,Item->VR,MapEntry->V8,Obj->V2,Oper->Wb,Operand->VK,Program->VD,Result->VZ,Sem->VL,TypeId->Vz,Value->Vm,World->Vl,execOp->Vv,stepG->Vu,undef->Vr,yielded->VC
open Bool renaming false->UW,true->Vk
open Option renaming none->Vo,some->Vg
abbrev SR:=@Nat.le_refl
abbrev SS:=@Array.getElem?_eq_some_iff
abbrev SU:=@Nat.lt_of_lt_of_le
abbrev SV:=@Bool.and_eq_true
abbrev SW:=@List.getElem?_eq_getElem
abbrev SX:=@List.mem_of_getElem?
abbrev SY:=@Array.getD_eq_getD_getElem?
abbrev SZ:=@Option.map_eq_some_iff
abbrev S0:=@List.mem_cons
abbrev S1:=@Array.getElem?_eq_getElem
abbrev S2:=@List.mem_map
abbrev S3:=@Option.map_some
abbrev S4:=@Nat.le_trans
abbrev S6:=@Iff.rfl
abbrev S7:=@Option.some.injEq
abbrev S8:=@Nat.lt_irrefl
abbrev S9:=@List.mem_iff_getElem?
abbrev Ta:=@Array.getElem?_replicate
abbrev Tb:=@List.getElem?_eq_some_iff
abbrev Tc:=@List.getElem?_map
abbrev Td:=@Nat.le_of_lt
abbrev Te:=@Bool.false_eq_true
abbrev Tf:=@List.mem_cons_self
abbrev Tg:=@List.mem_cons_of_mem
abbrev Ti:=@Nat.zero_le
abbrev Tj:=@List.all_cons
abbrev Tk:=@List.mem_append
abbrev Tl:=@List.all_eq_true
abbrev Tm:=@Prod.mk.injEq
abbrev Tn:=@Array.getElem?_setIfInBounds_ne
abbrev To:=@Array.mem_append
abbrev Tp:=@List.map_cons
abbrev Tq:=@Option.getD_some
abbrev Ts:=@Array.getElem?_push
abbrev Tt:=@Prod.mk.inj
abbrev Tu:=@List.not_mem_nil
abbrev Tv:=@Option.bind_eq_some_iff
abbrev Tw:=@Nat.add_zero
abbrev Tx:=@Nat.le_add_right
abbrev Ty:=@Nat.lt_or_ge
abbrev Tz:=@Nat.le_of_ble_eq_true
abbrev TA:=@Option.some.inj
abbrev TB:=@List.length_eq_zero_iff
abbrev TC:=@Array.mem_of_getElem?
abbrev TD:=@Nat.eq_zero_or_pos
abbrev TE:=@Classical.byContradiction
abbrev TF:=@Array.getElem?_modify
abbrev TG:=@Option.bind_some
abbrev TH:=@Nat.le_of_eq
abbrev TJ:=@List.map_nil
abbrev TK:=@Nat.not_lt_zero
abbrev TL:=@List.take_of_length_le
abbrev TM:=@Nat.le_succ
abbrev TN:=@Nat.mul_comm
abbrev TO:=@Nat.mod_lt
abbrev TP:=@List.any_eq_true
abbrev TQ:=@Bool.or_eq_true
abbrev TR:=@List.cons.injEq
abbrev TS:=@Array.ext_getElem?
abbrev TT:=@List.nodup_cons
abbrev TU:=@Nat.add_assoc
abbrev TV:=@Nat.zero_add
abbrev TW:=@List.mem_singleton
abbrev TX:=@Array.getElem?_map
abbrev TY:=@Nat.add_comm
abbrev TZ:=@Bool.and_self
abbrev T0:=@Array.getElem?_setIfInBounds
abbrev T1:=@Bool.or_true
abbrev T2:=@List.foldl_cons
abbrev T3:=@List.length_append
abbrev T4:=@List.drop_eq_getElem_cons
abbrev T5:=@List.count_cons_of_ne
abbrev T6:=@List.perm_middle
abbrev T7:=@Nat.pos_of_ne_zero
abbrev T8:=@Nat.ne_of_lt
abbrev T9:=@List.mem_filter
abbrev Ua:=@List.append_nil
abbrev Ub:=@List.map_toArray
abbrev Uc:=@Array.all_eq_true_iff_forall_mem
abbrev Ud:=@Array.getElem?_mapIdx
abbrev Ue:=@Array.size_mapIdx
abbrev Uf:=@List.append_assoc
abbrev Ug:=@List.nil_append
abbrev Uh:=@Nat.lt_or_eq_of_le
abbrev Ui:=@List.nodup_nil
abbrev Uj:=@List.mem_append_left
abbrev Uk:=@List.ext_getElem?
abbrev Ul:=@List.take_add_one
abbrev Um:=@Array.mem_iff_getElem
abbrev Un:=@List.getElem?_cons_succ
abbrev Uo:=@List.getElem?_append_left
abbrev Up:=@List.getElem_toArray
abbrev Uq:=@List.getElem_cons_succ
abbrev Ur:=@List.getElem_cons_zero
abbrev Us:=@List.setIfInBounds_toArray
abbrev Ut:=@List.set_cons_zero
abbrev Uu:=@List.set_cons_succ
abbrev Uv:=@List.cons_append
abbrev Uw:=@List.all_nil
abbrev Ux:=@Nat.le_of_lt_succ
abbrev Uy:=@Bool.or_false
abbrev Uz:=@Bool.true_or
abbrev UA:=@Array.getElem?_eq_none
abbrev UB:=@Bool.false_and
abbrev UC:=@List.mapIdx_cons
abbrev UD:=@List.length_cons
abbrev UE:=@List.getElem_mem
abbrev UF:=@List.range_succ
abbrev UG:=@List.mem_flatMap
abbrev UH:=@List.getElem?_toArray
abbrev UI:=@List.cons_ne_nil
abbrev UJ:=@Bool.eq_false_iff
abbrev UK:=@Int.le_refl
abbrev UL:=@List.mem_append_right
abbrev UM:=@Array.mem_push
abbrev UN:=@Bool.toNat_le
abbrev UO:=@List.foldl_append
abbrev UP:=@List.extract_eq_take_drop
abbrev UQ:=@Array.length_toList
abbrev UR:=@List.foldlM_cons
abbrev US:=@Option.isSome_iff_exists
abbrev UT:=@Nat.add_sub_cancel_left
abbrev UU:=@Bool.false_or
abbrev UX:=@Nat.mul_le_mul_right
abbrev UY:=@Nat.zero_mul
abbrev UZ:=@Array.toList_append
abbrev U0:=@List.count_append
abbrev U1:=@List.length_pos_iff
abbrev U2:=@Nat.lt_of_le_of_lt
abbrev U3:=@Nat.le_of_not_lt
abbrev U4:=@List.take_length
abbrev U5:=@List.drop_of_length_le
abbrev U6:=@Nat.pow_le_pow_right
abbrev U7:=@Array.getElem?_append_left
abbrev U8:=@Array.toList_inj
abbrev U9:=@Nat.ne_of_beq_eq_false
abbrev Va:=@Int.le_trans
abbrev Vb:=@Option.isSome_none
abbrev Ve:=@List.getElem?_append_right
abbrev Vf:=@Nat.testBit_two_pow_mul_add
abbrev Vh:=@Array.mapM_eq_foldlM
abbrev Vi:=@Array.foldlM_toList
abbrev Vj:=@List.append_cancel_right
abbrev Vn:=@Array.map_congr_left
abbrev Vq:=@List.getElem?_range
abbrev Vs:=@Array.getElem_setIfInBounds
abbrev Vt:=@Array.getElem?_push_lt
abbrev Vw:=@Array.getElem!_eq_getD
abbrev VA:=@List.count_cons_self
abbrev VB:=@List.mem_of_mem_drop
abbrev VF:=@List.eq_nil_of_length_eq_zero
abbrev VI:=@List.map_eq_nil_iff
abbrev VJ:=@List.set_eq_take_append_cons_drop
abbrev VM:=@Array.getElem?_setIfInBounds_self_of_lt
abbrev VN:=@List.eq_nil_or_concat
abbrev VO:=@Array.getElem?_of_mem
abbrev VP:=@List.perm_append_comm_assoc
abbrev VQ:=@Array.toList_extract
abbrev VS:=@Nat.and_two_pow_sub_one_eq_mod
abbrev VU:=@Nat.two_pow_add_eq_or_of_lt
abbrev VV:=@Int.fdiv_eq_ediv_of_nonneg
abbrev VX:=@List.take_succ_eq_append_getElem
abbrev V1:=@List.take_subset_take_left
namespace Go
abbrev Iv(n:Int):Vm:=.int .i64 n
variable{p:Prop}
theorem Ψ(h:p:=by kernel_rfl):p:=h
theorem Δ(h:p:=by decide):p:=h
theorem Ω(h:p:=by omega):p:=h
theorem Θ(h:p:=by simp):p:=h
theorem Ξ(h:p:=by rw[hP];kernel_rfl):p:=h
theorem Λ(h:p:=by rw[hP];exact .all):p:=h
theorem Υ(h:p:=by intro p hp;simp only[S0,Tu,or_false]at hp;(repeat'(refine Or.elim hp ?_ ?_<;>intro hp));(all_goals subst hp);all_goals first|(left;simp;done)|(refine .inr ⟨0,?_,hdep 0 ?_⟩;rotate_left;kernel_rfl;simp;done)|(refine .inr ⟨1,?_,hdep 1 ?_⟩;rotate_left;kernel_rfl;simp;done)|(refine .inr ⟨2,?_,hdep 2 ?_⟩;rotate_left;kernel_rfl;simp;done)|(refine .inr ⟨3,?_,hdep 3 ?_⟩;rotate_left;kernel_rfl;simp;done)|(refine .inr ⟨4,?_,hdep 4 ?_⟩;rotate_left;kernel_rfl;simp;done)|(refine .inr ⟨5,?_,hdep 5 ?_⟩;rotate_left;kernel_rfl;simp;done)|(refine .inr ⟨6,?_,hdep 6 ?_⟩;rotate_left;kernel_rfl;simp;done)|(refine .inr ⟨7,?_,hdep 7 ?_⟩;rotate_left;kernel_rfl;simp;done)|(refine .inr ⟨8,?_,hdep 8 ?_⟩;rotate_left;kernel_rfl;simp;done)|(refine .inr ⟨9,?_,hdep 9 ?_⟩;rotate_left;kernel_rfl;simp;done)|(refine .inr ⟨10,?_,hdep 10 ?_⟩;rotate_left;kernel_rfl;simp;done)|(refine .inr ⟨11,?_,hdep 11 ?_⟩;rotate_left;kernel_rfl;simp;done)|(refine .inr ⟨12,?_,hdep 12 ?_⟩;rotate_left;kernel_rfl;simp;done)|(refine .inr ⟨13,?_,hdep 13 ?_⟩;rotate_left;kernel_rfl;simp;done)|(refine .inr ⟨14,?_,hdep 14 ?_⟩;rotate_left;kernel_rfl;simp;done)|(refine .inr ⟨15,?_,hdep 15 ?_⟩;rotate_left;kernel_rfl;simp;done)|(refine .inr ⟨16,?_,hdep 16 ?_⟩;rotate_left;kernel_rfl;simp;done)|(refine .inr ⟨17,?_,hdep 17 ?_⟩;rotate_left;kernel_rfl;simp;done)|(refine .inr ⟨18,?_,hdep 18 ?_⟩;rotate_left;kernel_rfl;simp;done)|(refine .inr ⟨19,?_,hdep 19 ?_⟩;rotate_left;kernel_rfl;simp;done)|(refine .inr ⟨20,?_,hdep 20 ?_⟩;rotate_left;kernel_rfl;simp;done)|(refine .inr ⟨21,?_,hdep 21 ?_⟩;rotate_left;kernel_rfl;simp;done)|(refine .inr ⟨22,?_,hdep 22 ?_⟩;rotate_left;kernel_rfl;simp;done)|(refine .inr ⟨23,?_,hdep 23 ?_⟩;rotate_left;kernel_rfl;simp;done)|(refine .inr ⟨24,?_,hdep 24 ?_⟩;rotate_left;kernel_rfl;simp;done)|(refine .inr ⟨25,?_,hdep 25 ?_⟩;rotate_left;kernel_rfl;simp;done)):p:=h
abbrev ϖ(b:Nat):Vm:=.pointer (Vg ⟨b,0,Vo⟩)
abbrev ϱ(b o:Nat):Vm:=.pointer (Vg ⟨b,o,Vo⟩)
end Go
namespace Go.Pw
open Go.Conc
variable{P:VD}{α:Type}{F F' F1:Vx}{o:V2}{main rd:Bool}{cs:List Vx}{w:Vl}{ops:Array Wb}{i d m N b:Nat}{k:List VR}{H L L':List (Nat×Vm)}{R:Vl->Vl->Prop}{D:Vl->Vl->Array V4->Prop}{Stop:Vp->Vl->Prop}{J:Vp->Prop}{v:Vm}{t:Array Vm}{f:VE}
def ep(P:VD){α:Type}:VL α->Option α
 |.pure a=>Vg a
 |.program k=>ep P (k P)
 |_=>Vo
theorem hU{x:VL α}{a:α}(h:ep P x=Vg a)(w:Vl):x.run P w=.ok a w/\x.events P w #[]=#[]:=by induction x with|pure b=>simp only[ep,S7]at h;subst h;exact⟨rfl,rfl⟩|program k c=>exact c P h|_=>simp[ep]at h
def zt(P:VD)(F:Vx)(o:Wb):Option Vx:=
 match o.op with
 |.defer _=>Vo
 |_=>match ep P (Vv F.eval o)with
   |some (.value v)=>Vg (F.finish v)
   |some .skip=>Vg (F.finish Vr)
   |_=>Vo
def me(P:VD)(F:Vx):Option Vx:=
 match F.todo with
 |.code .skip::k=>Vg {F with todo:=k}
 |.code (.label _)::k=>Vg {F with todo:=k}
 |.inBlock _::k=>Vg {F with todo:=k}
 |.inScope _::k=>Vg {F with todo:=k}
 |.code (.seq a b)::k=>Vg {F with todo:=.code a::.code b::k}
 |.code (.cond c x y)::k=>match F.eval c with
   |.bool b=>Vg {F with todo:=.code (if b then x else y)::k}
   |_=>Vo
 |.code (.block id c)::k=>Vg {F with todo:=.code c::.inBlock id::k}
 |.code (.loop c)::k=>Vg {F with todo:=.code c::.inLoop c::k}
 |.inLoop c::k=>Vg {F with todo:=.code c::.inLoop c::k}
 |.code (.scope c)::k=>Vg {F with todo:=.code c::.inScope c::k}
 |.code (.exit id)::k=>(exitTo id k).map λk=>{F with todo:=k}
 |.code (.region _ ops UW)::k=>Vg {F with todo:=.inRegion ops (List.range ops.size)::k}
 |.inRegion _ []::k=>Vg {F with todo:=k}
 |.inRegion ops (i::_)::_=>
   match((ops[i]?).map (Region.wanted · (VC ops F.tmps))).getD UW with
   |true=>(ops[i]?).bind (zt P F)
   |false=>Vg (F.finish Vr)
 |_=>Vo
def hint(H:List (Nat×Vm))(F F1:Vx):Vx×List (Vm×Vm):=
 match F.todo with
 |.inRegion ops (i::_)::_=>
   match(ops[i]?).bind (·.dst)with
   |some d=>match H.lookup d with
     |some v=>({F1 with tmps:=F.tmps.setIfInBounds d v},[(F1.tmps.getD d Vr,v)])
     |none=>(F1,[])
   |none=>(F1,[])
 |_=>(F1,[])
def bj(P:VD)(H:List (Nat×Vm)):Nat->Vx->Option (Vx×List (Vm×Vm))
 |0,F=>Vg (F,[])
 |n+1,F=>(me P F).bind λF1=>(bj P H n (hint H F F1).1).map λx=>(x.1,(hint H F F1).2++x.2)
theorem kS(P:VD)(f:VE):seen P f #[]=#[]:=by rw[seen_def];simp
theorem Am{o:Wb}(C:F.mode=.run)(B:F.kind≠.early)(H:∃ops i rest k,F.todo=.inRegion ops (i::rest)::k/\ops[i]?=Vg o/\Region.wanted o (VC ops F.tmps)=Vk)(h:zt P F o=Vg F'):Vu P main (G F cs) w=.go (G F' cs) w #[]:=by obtain⟨ops,i,rest,k,z,A,t⟩:=H;obtain⟨fn,tmps,todo,defers,mode,kind,q⟩:=F;subst z C;(have m:=by simpa using B);(have D:∀c,o.op≠.defer c:=λc e=>by unfold zt at h;rw[e]at h;cases h);(have y:∀n,ep P (Vv (Vx.eval {fn:=fn,tmps:=tmps,todo:=.inRegion ops (i::rest)::k,defers:=defers,mode:=.run,kind:=kind,roundOf:=q}) o)=Vg n->(∃v,n=.value v/\F'=Vx.finish {fn:=fn,tmps:=tmps,todo:=.inRegion ops (i::rest)::k,defers:=defers,mode:=.run,kind:=kind,roundOf:=q} v)\/(n=.skip/\F'=Vx.finish {fn:=fn,tmps:=tmps,todo:=.inRegion ops (i::rest)::k,defers:=defers,mode:=.run,kind:=kind,roundOf:=q} Vr):=by intro n E;unfold zt at h;split at h;{cases h};rw[E]at h;cases n<;>simp at h<;>simp[h]);cases u:ep P (Vv (Vx.eval {fn:=fn,tmps:=tmps,todo:=.inRegion ops (i::rest)::k,defers:=defers,mode:=.run,kind:=kind,roundOf:=q}) o)with|none=>unfold zt at h;split at h;{cases h};rw[u]at h;cases h|some n=>obtain⟨p,r⟩:=hU u w;(have x:Vu P main (G {fn:=fn,tmps:=tmps,todo:=.inRegion ops (i::rest)::k,defers:=defers,mode:=.run,kind:=kind,roundOf:=q} cs) w=Vu.apply P Vk {fn:=fn,tmps:=tmps,todo:=.inRegion ops (i::rest)::k,defers:=defers,mode:=.run,kind:=kind,roundOf:=q} cs Vo (Vv (Vx.eval {fn:=fn,tmps:=tmps,todo:=.inRegion ops (i::rest)::k,defers:=defers,mode:=.run,kind:=kind,roundOf:=q}) o) w:=by cases q with|none=>simp only[G,Vu,Vu.exec,Vu.oper,Vx.oper?,A,t,S3,Tq,if_true]|some l=>simp only[G,Vu,Vu.exec,Vu.oper,Vx.oper?,A,t,S3,Tq,if_true];split;{rename_i e;exact absurd e (D _)};rfl);rw[x];rcases y n u with⟨v,rfl,rfl⟩|⟨rfl,rfl⟩;{simp[Vu.apply,p,r,m,GStep.after,kS,G]};simp[Vu.apply,p,r,m,GStep.after,kS,G]
theorem j4(m:F.mode=.run)(a:F.kind≠.early)(h:me P F=Vg F'):(∀main cs w,Vu P main (G F cs) w=.go (G F' cs) w #[])/\F'.mode=.run/\F'.kind≠.early:=by obtain⟨t,q,r,f,p,n,v⟩:=F;subst m;unfold me at h;simp only at h;split at h;(all_goals first|(cases h;exact⟨λmain cs w=>by simp[G,Vu,Vu.exec],rfl,a⟩)|skip);{split at h;{rename_i b s;cases h;exact⟨λmain cs w=>by simp[G,Vu,Vu.exec,s],rfl,a⟩};cases h};{rename_i id k;cases j:exitTo id k with|none=>rw[j]at h;cases h|some u=>rw[j]at h;cases h;exact⟨λmain cs w=>by simp[G,Vu,Vu.exec,j],rfl,a⟩};{rename_i d i e k;split at h;{rename_i g;cases l:d[i]? with|none=>rw[l]at h;cases h|some o=>rw[l]at h g;simp only[TG]at h;refine⟨λmain cs w=>Am rfl a ⟨d,i,e,k,rfl,l,by simpa using g⟩ h,?_⟩;unfold zt at h;split at h;{cases h};split at h<;>cases h<;>exact⟨rfl,a⟩};rename_i g;cases h;refine⟨λmain cs w=>?_,rfl,a⟩;simp only[G,Vu,Vu.exec,g,Te,if_false]};cases h
theorem EF{rest:List Nat}{d:Tmp}(e:F.todo=.inRegion ops (i::rest)::k)(l:(ops[i]?).bind (·.dst)=Vg d)(h:me P F=Vg F1):∃v,F1={F with tmps:=F.tmps.setIfInBounds d v,todo:=.inRegion ops rest::k}:=by(have c:∀v,F.finish v={F with tmps:=F.tmps.setIfInBounds d v,todo:=.inRegion ops rest::k}:=λv=>by obtain⟨m,tmps,todo,b,j,g,n⟩:=F;subst e;simp[Vx.finish,l]);unfold me at h;rw[e]at h;simp only at h;split at h;{cases f:ops[i]? with|none=>rw[f]at h;cases h|some o=>rw[f]at h;simp only[TG]at h;unfold zt at h;split at h;{cases h};split at h<;>cases h;{exact⟨_,c _⟩};exact⟨_,c _⟩};cases h;exact⟨_,c _⟩
theorem uW(h:me P F=Vg F1)(a:∀p∈(hint H F F1).2,p.1=p.2):(hint H F F1).1=F1:=by unfold hint at a⊢;split;{rename_i e i j k g;rw[g]at a;simp only at a;cases f:(e[i]?).bind (·.dst)with|none=>rfl|some d=>rw[f]at a;simp only at a⊢;cases l:H.lookup d with|none=>rfl|some v=>rw[l]at a;simp only[TW,forall_eq]at a⊢;obtain⟨u,rfl⟩:=EF g f h;rcases Ty d F.tmps.size with c|b;{(have:(F.tmps.setIfInBounds d u).getD d Vr=u:=by simp[c]);rw[this]at a;rw[a]};simp[Array.setIfInBounds,Nat.not_lt.2 b]};rfl
theorem qX(j:∀a b c,R a b->R b c->R a c)(i:∀w,D w w #[]):∀(n:Nat){F F':Vx}{obs:List (Vm×Vm)}{w:Vl},bj P H n F=Vg (F',obs)->(∀p∈obs,p.1=p.2)->F.mode=.run->F.kind≠.early->Goes P main R D Stop m (G F' cs) w->Goes P main R D Stop (m+n) (G F cs) w|0,F,F',obs,w,h,_,_,_,g=>by cases h;exact g|n+1,F,F',obs,w,h,k,t,s,g=>by simp only[bj]at h;cases d:me P F with|none=>rw[d]at h;cases h|some l=>rw[d]at h;simp only[TG]at h;cases f:bj P H n (hint H F l).1 with|none=>rw[f]at h;cases h|some x=>rw[f]at h;simp only[S3,S7,Tm]at h;obtain⟨rfl,rfl⟩:=h;rw[uW d λp d=>k p (Tk.2 (.inl d))]at f;obtain⟨o,q,r⟩:=j4 t s d;have:=qX j i n (F':=x.1) (obs:=x.2) f (λp d=>k p (Tk.2 (.inr d))) q r g;refine .inr ⟨rfl,λv u=>?_⟩;rw[o];exact⟨i v,this.rely j u⟩
theorem ny(f:∀F b,(∀w,Vu P main (G F cs) w=.go (G b cs) w #[])->J (G b cs)->J (G F cs)):∀(n:Nat){F F':Vx}{obs:List (Vm×Vm)},bj P H n F=Vg (F',obs)->(∀p∈obs,p.1=p.2)->F.mode=.run->F.kind≠.early->J (G F' cs)->J (G F cs)|0,F,F',obs,h,_,_,_,e=>by cases h;exact e|n+1,F,F',obs,h,g,m,l,e=>by simp only[bj]at h;cases a:me P F with|none=>rw[a]at h;cases h|some b=>rw[a]at h;simp only[TG]at h;cases d:bj P H n (hint H F b).1 with|none=>rw[d]at h;cases h|some x=>rw[d]at h;simp only[S3,S7,Tm]at h;obtain⟨rfl,rfl⟩:=h;rw[uW a λp a=>g p (Tk.2 (.inl a))]at d;obtain⟨i,j,k⟩:=j4 m l a;exact f F b (λw=>i main cs w) (ny f n (F':=x.1) (obs:=x.2) d (λp a=>g p (Tk.2 (.inr a))) j k e)
def tm(N:Nat)(L:List (Nat×Vm))(t:Array Vm):Array Vm:=((List.range N).map λi=>match L.lookup i with|some v=>v|none=>t.getD i Vr).toArray
structure Sl(N:Nat)(L:List (Nat×Vm))(t:Array Vm):Prop where
 size:t.size=N
 at_:∀p∈L,t.getD p.1 Vr=p.2
theorem gm(h:L.lookup i=Vg v):(i,v)∈L:=by induction L with|nil=>cases h|cons p l c=>simp only[List.lookup]at h;split at h;{rename_i e;cases h;(have:=by simpa using e);subst this;exact Tf ..};exact Tg _ (c h)
theorem Sl.tm(h:Sl N L t):t=tm N L t:=by apply TS;intro i;(have e:(Pw.tm N L t)[i]?=((List.range N).map λi=>match L.lookup i with|some v=>v|none=>t.getD i Vr)[i]?:=by unfold Pw.tm;simp);rw[e,Tc];rcases Ty i N with a|a;{rw[Vq a];(have b:i<t.size:=by rw[h.size];exact a);simp only[S3,S1 b,S7];cases d:L.lookup i with|none=>simp[S1 b]|some v=>have:=h.at_ _ (gm d);simp only[SY,S1 b]at this;exact this};rw[List.getElem?_eq_none (by simpa using a),UA (by rw[h.size];exact a)];rfl
theorem Sl.all(h:(t.size,L.map λp=>t.getD p.1 Vr)=(N,L.map (·.2)):=by kernel_rfl):Sl N L t:=by obtain⟨a,b⟩:=Tt h;refine⟨a,λp d=>?_⟩;obtain⟨i,c⟩:=S9.1 d;have:=congrArg (·[i]?) b;simpa[Tc,c]using this
theorem Sl.LL(h:t.size=N):Sl N [] t:=⟨h,λp a=>by cases a⟩
theorem Sl.cons{N:Nat}{L:List (Nat×Vm)}{t:Array Vm}{i:Nat}{v:Vm}(h:t.getD i Vr=v)(b:Sl N L t):Sl N ((i,v)::L) t:=⟨b.size,λp a=>by rcases S0.1 a with rfl|a;{exact h};exact b.at_ p a⟩
section
abbrev fr(f:VE)(t:Array Vm)(k:List VR):Vx:={fn:=f,tmps:=t,todo:=k,defers:=[],mode:=.run,kind:=.normal,roundOf:=Vo}
def sub:List Nat->We->We
 |[],c=>c
 |i::p,c=>match c,i with
   |.seq a _,0=>sub p a
   |.seq _ b,_=>sub p b
   |.cond _ a _,0=>sub p a
   |.cond _ _ b,_=>sub p b
   |.block _ a,_=>sub p a
   |.loop a,_=>sub p a
   |.scope a,_=>sub p a
   |.rangeFunc _ _ a _,0=>sub p a
   |.rangeFunc _ _ _ b,_=>sub p b
   |c,_=>c
def aT:We->Array Wb
 |.region _ ops _=>ops
 |_=>#[]
def opn(ops:Array Wb)(i:Nat):Wb:=(ops[i]?).getD default
def Se:Nat->Nat->List Nat->List Nat
 |0,_,a=>a
 |f+1,n,a=>match Nat.ble n 1 with|true=>a|false=>Se f (n/2) (n%2::a)
def dg(n:Nat):List Nat:=Se 60 n []
abbrev sb(c:We)(n:Nat):We:=sub (dg n) c
def tT:List Nat->We->List VR->List VR
 |[],_,k=>k
 |i::p,c,k=>match c,i with
   |.seq a b,0=>tT p a (.code b::k)
   |.seq _ b,_=>tT p b k
   |.cond _ a _,0=>tT p a k
   |.cond _ _ b,_=>tT p b k
   |.block id a,_=>tT p a (.inBlock id::k)
   |.loop a,_=>tT p a (.inLoop a::k)
   |.scope a,_=>tT p a (.inScope a::k)
   |_,_=>k
abbrev rA(c:We)(n:Nat)(l:List Nat):List VR:=.inRegion (aT (sb c n)) l::tT (dg n) c []
abbrev cA(c:We)(n:Nat):List VR:=.code (sb c n)::tT (dg n) c []
abbrev xA(x:We)(c:We)(n:Nat):List VR:=.code x::tT (dg n) c []
abbrev dA(c:We)(n:Nat)(r:Nat):List VR:=.code (.region r (aT (sb c n)) Vk)::tT (dg n) c []
theorem Sl.get(h:Sl N L t)(a:L.lookup i=Vg v):t.getD i Vr=v:=h.at_ _ (gm a)
theorem Sl.gN(h:Sl N L t)(i:Nat)(hl:L.lookup i=Vg v):t.getD i Vr=v:=h.get hl
theorem Sl.put(h:Sl N L t)(c:d<N)(e:∀p∈L',p=(d,v)\/(p∈L/\p.1≠d)):Sl N L' (t.setIfInBounds d v):=by refine⟨by simp[h.size],λp f=>?_⟩;rcases e p f with rfl|⟨a,b⟩;{simp[SY,h.size,c]};rw[<-h.at_ p a];simp only[SY];rw[Tn (Ne.symm b)]
theorem Sl.sub(h:Sl N L t)(b:∀p∈L',p∈L):Sl N L' t:=⟨h.size,λp a=>h.at_ p (b p a)⟩
theorem aS{o:Wb}(h:Sl N L t)(b:Region.wanted o (VC ops (tm N L t))=Vk):Region.wanted o (VC ops t)=Vk:=by rw[h.tm];exact b
theorem Sl.pt(h:Sl N L t)(b:d<N:=by decide)(c:L.all (λp=>!(p.1==d))=Vk:=by rfl):Sl N ((d,v)::L) (t.setIfInBounds d v):=h.put b λp a=>by rcases S0.1 a with rfl|a;{exact .inl rfl};exact .inr ⟨a,by simpa using Tl.1 c p a⟩
theorem qI:∀p∈([]:List (Vm×Vm)),p.1=p.2:=λp a=>by cases a
theorem J1{a b:Vm}{l:List (Vm×Vm)}(h:a=b)(d:∀p∈l,p.1=p.2):∀p∈(a,b)::l,p.1=p.2:=λp c=>by rcases S0.1 c with rfl|c;{exact h};exact d p c
theorem int_eq{k:Vy}{x y:Int}(h:x=y):Vm.int k x=Vm.int k y:=by rw[h]
structure Ob where
 c:Vm
 b:Vm
 h:c=b
def oi(k:Vy)(c b:Int)(h:c=b):Ob:=⟨.int k c,.int k b,int_eq h⟩
def o2(c b:Int)(h:c=b):Ob:=oi .u32 c b h
def o3(c b:Int)(h:c=b):Ob:=oi .i32 c b h
def o6(c b:Int)(h:c=b):Ob:=oi .i64 c b h
def o8(c b:Int)(h:c=b):Ob:=oi .u64 c b h
def ob(c b:Bool)(h:c=b):Ob:=⟨.bool c,.bool b,congrArg Vm.bool h⟩
def oh(O:List (Nat×Ob)):List (Nat×Vm):=O.map λp=>(p.1,p.2.b)
def oo(O:List (Nat×Ob)):List (Vm×Vm):=O.map λp=>(p.2.c,p.2.b)
theorem rn(O:List (Nat×Ob)):∀p∈oo O,p.1=p.2:=λp a=>by obtain⟨q,_,rfl⟩:=S2.1 a;exact q.2.h
def iJ(P:VD)(H:List (Nat×Vm))(n:Nat)(F:Vx):Array Vm:=match bj P H n F with|some x=>x.1.tmps|none=>#[]
section
variable{k':List VR}{n:Nat}{obs:List (Vm×Vm)}
theorem FM(l:∀a b c,R a b->R b c->R a c)(i:∀w,D w w #[])(n:Nat)(o:Sl N L t)(g:bj P H n (fr f (tm N L t) k)=Vg (fr f (iJ P H n (fr f (tm N L t) k)) k',obs))(q:∀p∈obs,p.1=p.2)(h:Sl N L' (iJ P H n (fr f (tm N L t) k)))(j:∀d,Sl N L' d->Goes P main R D Stop m (G (fr f d k') cs) w):Goes P main R D Stop (m+n) (G (fr f t k) cs) w:=by(have e:fr f t k=fr f (tm N L t) k:=by rw[<-o.tm]);rw[e];exact qX l i n g q rfl Θ (j _ h)
theorem IM(h:∀F a,(∀w,Vu P main (G F cs) w=.go (G a cs) w #[])->J (G a cs)->J (G F cs))(n:Nat)(i:Sl N L t)(c:bj P H n (fr f (tm N L t) k)=Vg (fr f (iJ P H n (fr f (tm N L t) k)) k',obs))(j:∀p∈obs,p.1=p.2)(d:Sl N L' (iJ P H n (fr f (tm N L t) k)))(g:∀b,Sl N L' b->J (G (fr f b k') cs)):J (G (fr f t k) cs):=by(have e:fr f t k=fr f (tm N L t) k:=by rw[<-i.tm]);rw[e];exact ny (main:=main) h n c j rfl Θ (g _ d)
end
end
def wu:Vm->Bool
 |.agg _|.tuple _=>UW
 |_=>Vk
def Qk{α:Type}(b:Nat)(r:Option (α×V2×List Nat)):Option (α×V2×List Nat):=r.map λr=>(r.1,r.2.1,b::r.2.2)
def jK(P:VD)(rd:Bool){α:Type}:VL α->V2->Option (α×V2×List Nat)
 |.pure a,o=>Vg (a,o,[])
 |.program k,o=>jK P rd (k P) o
 |.load .plain ⟨b,i,Vo⟩ k,.cells c e fr=>(c[i]?).bind λv=>Qk b (jK P rd (k v) (.cells c e fr))
 |.store .plain ⟨b,i,Vo⟩ v k,.cells c e (0,0)=>match !rd&&wu v&&decide (i<c.size)with
   |true=>Qk b (jK P rd k (.cells (c.setIfInBounds i v) e))
   |false=>Vo
 |.getObj r k,.map es n=>Qk r (jK P rd (k (.map es n)) (.map es n))
 |.setObj r (.map es' n') k,.map _ _=>match rd with
   |false=>Qk r (jK P rd k (.map es' n'))
   |true=>Vo
 |_,_=>Vo
def Gv(P:VD){α:Type}:VL α->Option (V2×(Nat->VL α))
 |.program k=>Gv P (k P)
 |.new o k=>Vg (o,k)
 |_=>Vo
def iq(w:Vl)(b:Nat)(o:V2):Vl:={w with heap:=w.heap.setIfInBounds b o}
theorem oV{o':V2}(h:w.heap[b]?=Vg o):(iq w b o').heap[b]?=Vg o':=by obtain⟨a,_⟩:=SS.1 h;simp[iq,a]
theorem pw{c:Nat}(h:c≠b):(iq w b o).heap[c]?=w.heap[c]?:=by simp[iq,Tn (Ne.symm h)]
theorem uN(w:Vl)(b:Nat)(o o':V2):iq (iq w b o) b o'=iq w b o':=by simp[iq]
theorem mH(h:w.heap[b]?=Vg o):iq w b o=w:=by obtain⟨c,a⟩:=SS.1 h;(have:w.heap.setIfInBounds b o=w.heap:=Array.ext (by simp) λk d _=>by rw[Vs];split;{rename_i e;subst e;exact a.symm};rfl);unfold iq;rw[this]
theorem xJ{c:Array Vm}{e:Vz}(h:w.heap[b]?=Vg (.cells c e)):w.setCell ⟨b,i,Vo⟩ v=iq w b (.cells (c.setIfInBounds i v) e):=by obtain⟨f,d⟩:=SS.1 h;(have:w.heap.modify b (λ|.cells c a frozen=>.cells (c.setIfInBounds i v) a frozen|o=>o)=w.heap.setIfInBounds b (.cells (c.setIfInBounds i v) e):=by apply Array.ext (by simp);intro k g _;rw[Array.getElem_modify,Vs];split;{rename_i e;subst e;rw[d]};rfl);unfold Vl.setCell iq;rw[<-this];rfl
def vk(b:Nat)(e:V4):Prop:=(match e.loc with|.cell a=>a.block=b|.obj j=>j=b|_=>False)/\e.sync=UW
theorem Jz{f:Array V4->Array V4}{e:V4}(i:vk b e)(h:∀es,∃a,f es=es++a/\∀x∈a,vk b x)(es:Array V4):∃a,f (es.push e)=es++a/\∀x∈a,vk b x:=by obtain⟨a,d,g⟩:=h (es.push e);refine⟨#[e]++a,by simp[d],λx c=>?_⟩;rcases To.1 c with c|c;{(obtain rfl:=by simpa using c);exact i};exact g x c
theorem kG{r:Option (α×V2×List Nat)}{a:α}{q:List Nat}(h:Qk b r=Vg (a,o,q)):∃c,r=Vg (a,o,c)/\q=b::c:=by obtain⟨⟨f,g,c⟩,d,e⟩:=SZ.1 h;cases e;exact⟨c,d,rfl⟩
theorem qY{x:VL α}:∀{o o':V2}{q:List Nat}{a:α}{w:Vl},jK P rd x o=Vg (a,o',q)->(∀r∈q,r=b)->w.heap[b]?=Vg o->x.run P w=.ok a (iq w b o')/\∀es,∃u,x.events P w es=es++u/\∀e∈u,vk b e:=by induction x with|pure a=>intro o o' q a w h g d;cases h;exact⟨by rw[mH d];rfl,λes=>⟨#[],by simp,by simp⟩⟩|program k n=>exactλh g d=>n P h g d|load m A k n=>intro o o' q a w h g d;obtain⟨j,i,C⟩:=A;cases m<;>cases C<;>cases o<;>simp only[jK,reduceCtorEq]at h;obtain⟨v,z,h⟩:=Tv.1 h;obtain⟨B,s,rfl⟩:=kG h;obtain rfl:j=b:=g _ (Tf ..);obtain⟨l,p⟩:=n v s (λr t=>g r (Tg _ t)) d;(have y:w.cell? ⟨j,i,Vo⟩=Vg v:=by simp[Vl.cell?,d,z]);refine⟨by simpa[VL.run,y]using l,λes=>?_⟩;rw[show(VL.load Mode.plain ⟨j,i,Vo⟩ k).events P w es=(k v).events P w (es.push ⟨.cell ⟨j,i,Vo⟩,UW,UW⟩)by simp[VL.events,VL.runT,y,-VL.runT_eq];rfl];exact Jz (f:=(k v).events P w) ⟨rfl,rfl⟩ p es|store m A v k n=>intro o o' q a w h g d;obtain⟨j,i,C⟩:=A;(cases m<;>cases C<;>cases o<;>try(exfalso;revert h;simp[jK];done));rename_i c e fr;obtain⟨F,H⟩:=fr;(cases F<;>cases H<;>try(exfalso;revert h;simp[jK];done));simp only[jK]at h;split at h;{rename_i D;rw[SV,SV,decide_eq_true_eq]at D;obtain⟨⟨_,z⟩,I⟩:=D;obtain⟨B,s,rfl⟩:=kG h;obtain rfl:j=b:=g _ (Tf ..);obtain⟨l,p⟩:=n s (λr t=>g r (Tg _ t)) (oV d);rw[uN,<-xJ d]at l;rw[<-xJ d]at p;(have y:w.cell? ⟨j,i,Vo⟩=Vg c[i]:=by simp[Vl.cell?,d,I]);(have E:w.frozen? ⟨j,i,Vo⟩=UW:=by simp[Vl.frozen?,d]);refine⟨by cases v<;>simp[wu]at z<;>simpa[VL.run,y,E]using l,λes=>?_⟩;rw[show(VL.store Mode.plain ⟨j,i,Vo⟩ v k).events P w es=k.events P (w.setCell ⟨j,i,Vo⟩ v) (es.push ⟨.cell ⟨j,i,Vo⟩,Vk,UW⟩)by cases v<;>simp[wu]at z<;>(simp[VL.events,VL.runT,y,E,-VL.runT_eq];rfl)];exact Jz (f:=k.events P _) ⟨rfl,rfl⟩ p es};cases h|getObj r k n=>intro o o' q a w h g d;cases o<;>simp only[jK,reduceCtorEq]at h;obtain⟨B,s,rfl⟩:=kG h;obtain rfl:r=b:=g _ (Tf ..);obtain⟨l,p⟩:=n _ s (λr t=>g r (Tg _ t)) d;refine⟨by simpa[VL.run,d]using l,λes=>?_⟩;rw[show(VL.getObj r k).events P w es=(k _).events P w (es.push ⟨.obj r,UW,UW⟩)by simp[VL.events,VL.runT,d,V2.isChan,-VL.runT_eq];rfl];exact Jz (f:=(k _).events P w) ⟨rfl,rfl⟩ p es|setObj r ob k n=>intro o o' q a w h g d;cases rd<;>cases o<;>cases ob<;>simp only[jK,reduceCtorEq]at h;obtain⟨B,s,rfl⟩:=kG h;obtain rfl:r=b:=g _ (Tf ..);obtain⟨l,p⟩:=n s (λr t=>g r (Tg _ t)) (oV d);rw[uN]at l;refine⟨by simp only[VL.run,d];exact l,λes=>?_⟩;rw[show(VL.setObj r _ k).events P w es=k.events P (iq w r _) (es.push ⟨.obj r,Vk,UW⟩)by simp[VL.events,VL.runT,d,V2.isChan,-VL.runT_eq];rfl];exact Jz (f:=k.events P _) ⟨rfl,rfl⟩ p es|_=>intro o o' q a w h;simp[jK]at h
theorem Jd{x:VL α}:∀{o o':V2}{q:List Nat}{a:α},jK P Vk x o=Vg (a,o',q)->o'=o:=by induction x with|pure a=>intro o o' q a h;cases h;rfl|program k b=>exactλh=>b P h|load m d k b=>intro o o' q a h;obtain⟨j,i,g⟩:=d;cases m<;>cases g<;>cases o<;>simp only[jK,reduceCtorEq]at h;obtain⟨v,s,h⟩:=Tv.1 h;obtain⟨p,f,rfl⟩:=kG h;exact b v f|getObj r k b=>intro o o' q a h;cases o<;>simp only[jK,reduceCtorEq]at h;obtain⟨p,f,rfl⟩:=kG h;exact b _ f|store m d v k b=>intro o o' q a h;obtain⟨j,i,g⟩:=d;(cases m<;>cases g<;>cases o<;>try(exfalso;revert h;simp[jK];done));rename_i c e fr;obtain⟨l,n⟩:=fr;cases l<;>cases n<;>exfalso<;>revert h<;>simp[jK]|setObj r ob k b=>intro o o' q a h;cases o<;>cases ob<;>simp[jK]at h|_=>intro o o' q a h;simp[jK]at h
theorem KQ{x:VL α}{k:Nat->VL α}{a:α}(h:Gv P x=Vg (o,k))(d:ep P (k w.heap.size)=Vg a):x.run P w=.ok a (w.alloc o)/\x.events P w #[]=#[]:=by induction x with|program f e=>exact e P h|new g f=>cases h;obtain⟨b,c⟩:=hU d (w.alloc o);exact⟨b,c⟩|_=>simp[Gv]at h
def RA:Op->Bool
 |.defer _=>Vk
 |_=>UW
def AT(F:Vx):Option Wb:=match F.todo with
 |.inRegion ops (i::_)::_=>match((ops[i]?).map (Region.wanted · (VC ops F.tmps))).getD UW with
   |true=>match ops[i]? with
     |some o=>match RA o.op with|true=>Vo|false=>Vg o
     |none=>Vo
   |false=>Vo
 |_=>Vo
def valOf:Next->Option Vm
 |.value v=>Vg v
 |.skip=>Vg Vr
 |_=>Vo
def QK(P:VD)(rd:Bool)(k:Nat)(F:Vx)(H:List (Nat×V2)):Option (Vx×List (Nat×V2)×List (Nat×Nat)):=
 match AT F,H[k]? with
 |some o,Vg (b,ob)=>match jK P rd (Vv F.eval o) ob with
   |some (n,ob',q)=>(valOf n).map λv=>(F.finish v,H.set k (b,ob'),q.map λr=>(r,b))
   |none=>Vo
 |_,_=>Vo
def Qw(P:VD)(c:Nat)(F:Vx):Option (Vx×V2):=
 match AT F with
 |some o=>match Gv P (Vv F.eval o)with
   |some (ob,k)=>((ep P (k c)).bind valOf).map λv=>(F.finish v,ob)
   |none=>Vo
 |none=>Vo
abbrev MR:=Vx×List (Nat×V2)×List (Nat×Nat)×List (Vm×Vm)
def iA(P:VD)(rd:Bool)(O:List (Nat×Vm)):Nat->List Nat->List Nat->Vx->List (Nat×V2)->Option MR
 |0,_,_,F,H=>Vg (F,H,[],[])
 |n+1,hs,bs,F,H=>match me P F with
   |some F1=>(iA P rd O n hs bs (hint O F F1).1 H).map λr=>(r.1,r.2.1,r.2.2.1,(hint O F F1).2++r.2.2.2)
   |none=>match hs with
     |[]=>Vg (F,H,[],[])
     |0::hs=>match bs with
       |[]=>Vo
       |c::bs=>match Qw P c F with
         |some (F1,ob)=>iA P rd O n hs bs F1 ((c,ob)::H)
         |none=>Vo
     |(k+1)::hs=>match QK P rd k F H with
       |some (F1,H1,q)=>(iA P rd O n hs bs F1 H1).map λs=>(s.1,s.2.1,q++s.2.2.1,s.2.2.2)
       |none=>Vo
theorem vw{o:Wb}(h:AT F=Vg o):∃ops i rest k,F.todo=.inRegion ops (i::rest)::k/\ops[i]?=Vg o/\Region.wanted o (VC ops F.tmps)=Vk/\∀c,o.op≠.defer c:=by unfold AT at h;split at h;{rename_i ops i rest k f;split at h;{rename_i g;split at h;{rename_i j d;split at h;{cases h};rename_i b;cases h;refine⟨ops,i,rest,k,f,d,by simpa[d]using g,λc e=>?_⟩;rw[e]at b;cases b};cases h};cases h};cases h
theorem Bp{o:Wb}{w':Vl}{n:Next}(y:F.mode=.run)(r:F.kind≠.early)(h:AT F=Vg o)(A:(Vv F.eval o).run P w=.ok n w')(z:valOf n=Vg v):Vu P main (G F cs) w=.go (G (F.finish v) cs) w' (seen P F.fn ((Vv F.eval o).events P w #[]))/\(F.finish v).mode=.run/\(F.finish v).kind≠.early:=by obtain⟨p,i,g,k,u,x,q,C⟩:=vw h;obtain⟨fn,tmps,todo,defers,mode,kind,t⟩:=F;subst u y;(have m:=by simpa using r);refine⟨?_,rfl,r⟩;generalize D:Vx.eval _=B at A⊢;(have s:Vu P main (G {fn:=fn,tmps:=tmps,todo:=.inRegion p (i::g)::k,defers:=defers,mode:=.run,kind:=kind,roundOf:=t} cs) w=Vu.apply P Vk {fn:=fn,tmps:=tmps,todo:=.inRegion p (i::g)::k,defers:=defers,mode:=.run,kind:=kind,roundOf:=t} cs Vo (Vv B o) w:=by rw[<-D];cases t with|none=>simp only[G,Vu,Vu.exec,Vu.oper,Vx.oper?,x,q,S3,Tq,if_true]|some l=>simp only[G,Vu,Vu.exec,Vu.oper,Vx.oper?,x,q,S3,Tq,if_true];split;{rename_i e;exact absurd e (C _)};rfl);rw[s];cases n<;>simp[valOf]at z<;>subst z<;>simp[Vu.apply,A,m,GStep.after,G]
theorem Jh{es:Array V4}(h:∀e∈es,vk b e):∀e∈seen P f es,vk b e:=λe a=>by rw[seen_def]at a;rcases seen_fold_sub _ _ _ _ e a with x|x;{simp at x};exact h e (by simpa using x)
theorem MJ{k:Nat}{H H1:List (Nat×V2)}{q:List (Nat×Nat)}(x:F.mode=.run)(u:F.kind≠.early)(h:QK P rd k F H=Vg (F1,H1,q))(z:∀p∈q,p.1=p.2):∃b o o',H[k]?=Vg (b,o)/\H1=H.set k (b,o')/\(rd=Vk->o'=o)/\(∀main cs w,w.heap[b]?=Vg o->∃es,Vu P main (G F cs) w=.go (G F1 cs) (iq w b o') es/\∀e∈es,vk b e)/\F1.mode=.run/\F1.kind≠.early:=by unfold QK at h;split at h;{rename_i C b ob y hH;split at h;{rename_i n d D g;obtain⟨v,B,e⟩:=SZ.1 h;cases e;have a:=λr A=>z (r,b) (S2.2 ⟨r,A,rfl⟩);have c:∀main cs w,w.heap[b]?=Vg ob->Vu P main (G F cs) w=.go (G (F.finish v) cs) (iq w b d) (seen P F.fn ((Vv F.eval C).events P w #[]))/\(F.finish v).mode=.run/\(F.finish v).kind≠.early:=λmain cs w f=>Bp x u y (qY g a f).1 B;refine⟨b,ob,d,hH,rfl,λe=>by subst e;exact Jd g,λmain cs w f=>⟨_,(c main cs w f).1,Jh λe i=>?_⟩,(c Vk [] {(default:Vl)with heap:=(Array.replicate (b+1) ob)} (by simp)).2⟩;obtain⟨l,m,s⟩:=(qY g a f).2 #[];rw[m]at i;exact s e (by simpa using i)};cases h};cases h
theorem Mz(s:F.mode=.run)(q:F.kind≠.early)(h:∀c,∃r,Qw P c F=Vg r):∃o,∃e:Nat->Vx,(∀c,Qw P c F=Vg (e c,o))/\(∀main cs w,Vu P main (G F cs) w=.go (G (e w.heap.size) cs) (w.alloc o) #[])/\∀c,(e c).mode=.run/\(e c).kind≠.early:=by unfold Qw at h⊢;cases g:AT F with|none=>obtain⟨r,b⟩:=h 0;rw[g]at b;cases b|some D=>simp only[g]at h⊢;cases l:Gv P (Vv F.eval D)with|none=>obtain⟨r,b⟩:=h 0;rw[l]at b;cases b|some x=>obtain⟨ob,p⟩:=x;simp only[l]at h⊢;(have j:∀c,∃n v,ep P (p c)=Vg n/\valOf n=Vg v:=λc=>by obtain⟨r,b⟩:=h c;obtain⟨v,j,_⟩:=SZ.1 b;obtain⟨n,a,d⟩:=Tv.1 j;exact⟨n,v,a,d⟩);(have m:∀main cs(w:Vl),Vu P main (G F cs) w=.go (G (F.finish (((ep P (p w.heap.size)).bind valOf).getD Vr)) cs) (w.alloc ob) #[]:=λmain cs w=>by obtain⟨n,v,a,d⟩:=j w.heap.size;obtain⟨B,C⟩:=KQ l a;rw[(Bp s q g B d).1,C,kS,a];simp[d]);refine⟨ob,λc=>F.finish (((ep P (p c)).bind valOf).getD Vr),λc=>?_,m,λc=>?_⟩;{obtain⟨n,v,a,d⟩:=j c;simp[a,d]};obtain⟨E,i,y,k,a,_⟩:=vw g;obtain⟨H,z,A,f,u,t,I⟩:=F;subst a;exact⟨s,q⟩
structure Carry(P:VD)(rd:Bool)(main:Bool)(cs:List Vx)(J:(Nat->Prop)->Vp->Vl->Prop)(Kn:(Nat->Prop)->Vl->List (Nat×V2)->Prop)(al:Prop):Prop where
 ctl:∀own v F F1,(∀w,Vu P main (G F cs) w=.go (G F1 cs) w #[])->J own (G F1 cs) v->J own (G F cs) v
 mem:∀own v H k b o o' F F1,Kn own v H->H[k]?=Vg (b,o)->(rd=Vk->o'=o)->(∀w:Vl,w.heap[b]?=Vg o->∃es,Vu P main (G F cs) w=.go (G F1 cs) (iq w b o') es/\∀e∈es,vk b e)->(∀v',Kn own v' (H.set k (b,o'))->J own (G F1 cs) v')->J own (G F cs) v
 new:al->∀own v H o F(F1:Nat->Vx),Kn own v H->(∀w:Vl,Vu P main (G F cs) w=.go (G (F1 w.heap.size) cs) (w.alloc o) #[])->(∀own' c v',Kn own' v' ((c,o)::H)->J own' (G (F1 c) cs) v')->J own (G F cs) v
theorem Carry.run{P:VD}{J:(Nat->Prop)->Vp->Vl->Prop}{Kn:(Nat->Prop)->Vl->List (Nat×V2)->Prop}{al:Prop}(C:Carry P rd main cs J Kn al)(O:List (Nat×Vm)):∀(n:Nat)(g:List Nat)(k:Nat)(_:k≠0->al)(own:Nat->Prop)(v:Vl)(F:Vx)(H:List (Nat×V2)),F.mode=.run->F.kind≠.early->Kn own v H->(∀bs:List Nat,bs.length=k->∃r,iA P rd O n g bs F H=Vg r/\(∀p∈r.2.2.1,p.1=p.2)/\(∀p∈r.2.2.2,p.1=p.2)/\∀d t,Kn d t r.2.1->J d (G r.1 cs) t)->J own (G F cs) v|0,g,k,z,own,v,F,H,K,I,m,E=>by obtain⟨r,h,_,_,y⟩:=E (List.replicate k 0) (by simp);cases h;exact y own v m|n+1,g,k,z,own,v,F,H,K,I,m,E=>by cases a:me P F with|some f=>obtain⟨h,u,l⟩:=j4 K I a;(have R:(hint O F f).1=f:=by obtain⟨r,e,_,B,_⟩:=E (List.replicate k 0) (by simp);simp only[iA,a]at e;obtain⟨s,_,rfl⟩:=SZ.1 e;exact uW a λp a=>B p (Tk.2 (.inl a)));refine C.ctl own v F f (λw=>h main cs w) (Carry.run C O n g k z own v f H u l m λbs A=>?_);obtain⟨r,e,D,B,N⟩:=E bs A;simp only[iA,a,R]at e;obtain⟨s,M,rfl⟩:=SZ.1 e;exact⟨s,M,D,λp a=>B p (Tk.2 (.inr a)),N⟩|none=>cases g with|nil=>obtain⟨r,e,_,_,y⟩:=E (List.replicate k 0) (by simp);simp only[iA,a,S7]at e;subst e;exact y own v m|cons j g=>cases j with|zero=>(cases k with|zero=>obtain⟨r,e,_⟩:=E [] rfl;simp[iA,a]at e|succ k=>(obtain⟨o,f,h,u,l⟩:=Mz (P:=P) K I λc=>by obtain⟨r,e,_⟩:=E (c::List.replicate k 0) (by simp);simp only[iA,a]at e;cases S:Qw P c F with|none=>rw[S]at e;cases e|some r=>exact⟨r,rfl⟩);refine C.new (z (by simp)) own v H o F f m (λw=>u main cs w) λd c t i=>Carry.run C O n g k (λ_=>z (by simp)) d t (f c) _ (l c).1 (l c).2 i λbs A=>?_;obtain⟨r,e,T⟩:=E (c::bs) (by simp[A]);simp only[iA,a,h c]at e;exact⟨r,e,T⟩)|succ j=>cases L:QK P rd j F H with|none=>obtain⟨r,e,_⟩:=E (List.replicate k 0) (by simp);simp[iA,a,L]at e|some x=>obtain⟨f,W,q⟩:=x;obtain⟨b,o,V,h,rfl,u,l,y,Q⟩:=MJ K I L (by obtain⟨r,e,D,_⟩:=E (List.replicate k 0) (by simp);simp only[iA,a,L]at e;obtain⟨s,_,rfl⟩:=SZ.1 e;exactλp a=>D p (Tk.2 (.inl a)));refine C.mem own v H j b o V F f m h u (λw U=>l main cs w U) λt i=>Carry.run C O n g k z own t f _ y Q i λbs A=>?_;obtain⟨r,e,D,B,N⟩:=E bs A;simp only[iA,a,L]at e;obtain⟨s,M,rfl⟩:=SZ.1 e;exact⟨s,M,λp a=>D p (Tk.2 (.inr a)),B,N⟩
end Go.Pw
namespace Go.ab
variable{a a' b':V0}{v w:Vl}{v' x x' y y' z:Vm}{i b k g:Nat}{e:RuntimeError}{o o':V2}{P:VD}{α β γ δ ε ζ:Type}{h:Halt}{t:Vz}{n:Int}{op:BinOp}{o1:VK}{lo lo' hi hi' mx':Option Vm}
section
abbrev bu:=Nat->Option Nat
def bu.le(r r':bu):Prop:=∀b c,r b=Vg c->r' b=Vg c
theorem bu.le_refl(r:bu):r.le r:=λ_ _ h=>h
theorem bu.le_trans{r r' r'':bu}(h:r.le r')(a:r'.le r''):r.le r'':=λb c e=>a b c (h b c e)
structure dw where
 fns:VE->Bool
 seen:Nat->Prop
 DY:Nat->Nat
 aJ:Nat
 low:Nat->Nat:=λ_=>0
def vM:Vz:=1000000007
structure Fits(P:VD)(c:dw):Prop where
 aJ:c.aJ=P.globals.size
 bad:P.info? vM=Vo
 low:∀g,g<c.aJ->c.low g=0
def dr(c:dw)(r:bu)(a a':V0):Prop:=r a.block=Vg a'.block/\a'.off=a.off/\a'.spot=a.spot/\c.low a.block<=a.off
def Gx(c:dw):Fn->Bool
 |.func f=>c.fns f
 |_=>UW
inductive ai(c:dw)(r:bu):Vm->Vm->Prop
 |bool(b:Bool):ai c r (.bool b) (.bool b)
 |int(k:Vy)(n:Int):ai c r (.int k n) (.int k n)
 |string(s:ByteArray):ai c r (.string s) (.string s)
 |ga:ai c r (.pointer Vo) (.pointer Vo)
 |ptr{a a':V0}:dr c r a a'->ai c r (.pointer (Vg a)) (.pointer (Vg a'))
 |fO(n m:Nat):ai c r (.slice Vo n m) (.slice Vo n m)
 |slice{a a':V0}(n m:Nat):dr c r a a'->ai c r (.slice (Vg a) n m) (.slice (Vg a') n m)
 |cx(a a':V0):ai c r (.slice (Vg a) 0 0) (.slice (Vg a') 0 0)
 |kC:ai c r (.map Vo) (.map Vo)
 |map{a a':Nat}:r a=Vg a'->ai c r (.map (Vg a)) (.map (Vg a'))
 |func{fn:Fn}{x x' y y':Array Vm}:Gx c fn=Vk->x.size=x'.size->(∀(i:Nat)(v v':Vm),x[i]?=Vg v->x'[i]?=Vg v'->ai c r v v')->
  y.size=y'.size->(∀(i:Nat)(v v':Vm),y[i]?=Vg v->y'[i]?=Vg v'->ai c r v v')->ai c r (.func fn x y) (.func fn x' y')
 |nilFunc:ai c r .nilFunc .nilFunc
 |nilIface:ai c r .nilIface .nilIface
 |iface(t:Vz){v v':Vm}:ai c r v v'->ai c r (.iface t v) (.iface t v')
 |agg{x x':Array Vm}:x.size=x'.size->(∀(i:Nat)(v v':Vm),x[i]?=Vg v->x'[i]?=Vg v'->ai c r v v')->ai c r (.agg x) (.agg x')
 |tuple{x x':Array Vm}:x.size=x'.size->(∀(i:Nat)(v v':Vm),x[i]?=Vg v->x'[i]?=Vg v'->ai c r v v')->ai c r (.tuple x) (.tuple x')
structure aj(c:dw)(r:bu)(x x':Array Vm):Prop where
 size:x.size=x'.size
 el:∀(i:Nat)(v v':Vm),x[i]?=Vg v->x'[i]?=Vg v'->ai c r v v'
theorem dr.mono{c:dw}{r r':bu}(h:r.le r')(x:dr c r a a'):dr c r' a a':=⟨h _ _ x.1,x.2⟩
theorem ai.mono{c:dw}{r r':bu}(h:r.le r'){v:Vm}(x:ai c r v v'):ai c r' v v':=by induction x with|bool b=>exact .bool b|int k n=>exact .int k n|string s=>exact .string s|ga=>exact .ga|ptr a=>exact .ptr (a.mono h)|fO n m=>exact .fO n m|slice n m a=>exact .slice n m (a.mono h)|cx a e=>exact .cx a e|kC=>exact .kC|map a=>exact .map (h _ _ a)|func i j _ l _ f g=>exact .func i j f l g|nilFunc=>exact .nilFunc|nilIface=>exact .nilIface|iface t _ d=>exact .iface t d|agg s _ d=>exact .agg s d|tuple s _ d=>exact .tuple s d
theorem aj.mono{c:dw}{r r':bu}(h:r.le r'){x x':Array Vm}(k:aj c r x x'):aj c r' x x':=⟨k.size,λi v d a b=>(k.el i v d a b).mono h⟩
theorem ai.sI{c:dw}{r:bu}{x x':Array Vm}(h:aj c r x x'):ai c r (.agg x) (.agg x'):=.agg h.size h.el
theorem ai.kJ{c:dw}{r:bu}{x x':Array Vm}(h:aj c r x x'):ai c r (.tuple x) (.tuple x'):=.tuple h.size h.el
section rows
variable{c:dw}{r:bu}
theorem aj.get{x x':Array Vm}(h:aj c r x x'){v:Vm}(b:x[i]?=Vg v):∃d,x'[i]?=Vg d/\ai c r v d:=by have e:=(SS.1 b).1;have a:=h.size▸e;exact⟨x'[i],S1 a,h.el i v _ b (S1 a)⟩
theorem aj.none{x x':Array Vm}(h:aj c r x x')(a:x[i]?=Option.none):x'[i]?=Option.none:=by rw[Array.getElem?_eq_none_iff]at a⊢;rw[<-h.size];exact a
theorem aj.getD{x x':Array Vm}(h:aj c r x x')(i:Nat){d d':Vm}(b:ai c r d d'):ai c r (x.getD i d) (x'.getD i d'):=by rw[SY,SY];cases a:x[i]? with|none=>rw[h.none a];exact b|some v=>obtain⟨f,e,k⟩:=h.get a;simp_all
theorem aj.empty:aj c r #[] #[]:=⟨rfl,λi v a h=>by simp at h⟩
theorem aj.push{x x':Array Vm}(h:aj c r x x'){v:Vm}(k:ai c r v v'):aj c r (x.push v) (x'.push v'):=by refine⟨by simp[h.size],λi u d a b=>?_⟩;rw[Ts]at a b;rw[<-h.size]at b;split at a;{simp_all};rw[if_neg ‹_›]at b;exact h.el i u d a b
theorem aj.append{x x' y y':Array Vm}(h:aj c r x x')(k:aj c r y y'):aj c r (x++y) (x'++y'):=by refine⟨by simp[h.size,k.size],λi u d a b=>?_⟩;rw[Array.getElem?_append]at a b;rw[<-h.size]at b;split at a;{rw[if_pos ‹_›]at b;exact h.el i u d a b};rw[if_neg ‹_›]at b;exact k.el _ u d a b
theorem aj.set{x x':Array Vm}(h:aj c r x x')(i:Nat){v:Vm}(k:ai c r v v'):aj c r (x.setIfInBounds i v) (x'.setIfInBounds i v'):=by refine⟨by simp[h.size],λj u d a b=>?_⟩;rw[T0]at a b;split at a;{simp_all};rw[if_neg ‹_›]at b;exact h.el j u d a b
theorem aj.extract{x x':Array Vm}(h:aj c r x x')(i j:Nat):aj c r (x.extract i j) (x'.extract i j):=by refine⟨by simp[h.size],λk u d a b=>?_⟩;rw[Array.getElem?_extract]at a b;rw[<-h.size]at b;split at a;{rw[if_pos ‹_›]at b;exact h.el _ u d a b};cases a
theorem aj.single{v:Vm}(k:ai c r v v'):aj c r #[v] #[v']:=by refine⟨rfl,λi u d a b=>?_⟩;grind
theorem aj.cells{v v':Vm}(k:ai c r v v'):aj c r v.cells v'.cells:=by cases k with|agg s e=>exact⟨s,e⟩|bool b=>exact .single (.bool b)|int k n=>exact .single (.int k n)|string s=>exact .single (.string s)|ga=>exact .single .ga|ptr a=>exact .single (.ptr a)|fO n m=>exact .single (.fO n m)|cx a g=>exact .single (.cx a g)|slice n m a=>exact .single (.slice n m a)|kC=>exact .single .kC|map a=>exact .single (.map a)|func a b d e f=>exact .single (.func a b d e f)|nilFunc=>exact .single .nilFunc|nilIface=>exact .single .nilIface|iface t a=>exact .single (.iface t a)|tuple a b=>exact .single (.tuple a b)
theorem aj.map{α:Type}(l:Array α)(f f':α->Vm)(h:∀x∈l,ai c r (f x) (f' x)):aj c r (l.map f) (l.map f'):=by refine⟨by simp,λi u d a b=>?_⟩;grind
theorem fE:ai c r Vr Vr:=.tuple rfl λi v a h=>by simp at h
theorem aj.replicate(n:Nat){v:Vm}(k:ai c r v v'):aj c r (Array.replicate n v) (Array.replicate n v'):=by refine⟨by simp,λi u d a b=>?_⟩;grind
end rows
structure E3(c:dw)(r:bu)(e e':V8):Prop where
 key:ai c r e.key e'.key
 val:ai c r e.val e'.val
 born:e'.born=e.born
inductive lY(c:dw)(r:bu):V2->V2->Prop
 |cells{x x':Array Vm}(t:Vz)(fr:Nat×Nat):aj c r x x'->lY c r (.cells x t fr) (.cells x' t fr)
 |map{x x':Array V8}(k:Nat):x.size=x'.size->(∀(i:Nat)(e e':V8),x[i]?=Vg e->x'[i]?=Vg e'->E3 c r e e')->lY c r (.map x k) (.map x' k)
 |iter(s:ByteArray)(p:Nat):lY c r (.stringIter s p) (.stringIter s p)
 |number{a a':V0}(l:Bool):dr c r a a'->lY c r (.number a l) (.number a' l)
inductive p7(c:dw)(r:bu)(b:Nat):Option V2->Option V2->Prop
 |seen{x x':Array Vm}(t t':Vz)(fr:Nat×Nat):c.seen b->x.size<=c.DY b->x.size<=x'.size->(c.low b=0->t=t')/\(c.low b≠0->t=vM/\c.aJ<=b)->(∀(i:Nat)(v v':Vm),c.low b<=i->x[i]?=Vg v->x'[i]?=Vg v'->ai c r v v')->p7 c r b (Vg (.cells x t (0,x.size))) (Vg (.cells x' t' fr))
 |own{o o':V2}:¬c.seen b->lY c r o o'->p7 c r b (Vg o) (Vg o')
theorem E3.mono{c:dw}{r r':bu}(h:r.le r'){e e':V8}(k:E3 c r e e'):E3 c r' e e':=⟨k.key.mono h,k.val.mono h,k.born⟩
theorem lY.mono{c:dw}{r r':bu}(h:r.le r')(k:lY c r o o'):lY c r' o o':=by cases k with|cells t g k=>exact .cells t g (k.mono h)|map k s e=>exact .map k s λi d f a b=>(e i d f a b).mono h|iter s p=>exact .iter s p|number l a=>exact .number l (a.mono h)
theorem p7.mono{c:dw}{r r':bu}(h:r.le r'){o o':Option V2}(k:p7 c r b o o'):p7 c r' b o o':=by cases k with|seen t g f s l z y e=>exact .seen t g f s l z y λi v j a b d=>(e i v j a b d).mono h|own n k=>exact .own n (k.mono h)
structure cw(c:dw)(r:bu)(w v:Vl):Prop where
 pW:∀b k:Nat,r b=Vg k->b<w.heap.size
 ym:∀b k:Nat,r b=Vg k->k<v.heap.size
 inj:∀b b' k:Nat,r b=Vg k->r b'=Vg k->b=b'\/(c.seen b/\c.seen b')
 p5:∀b:Nat,¬c.seen b->c.low b=0
 hid:∀b:Nat,b<c.aJ->r b=Vo->w.heap[b]?=Vg (.cells #[] 0)
 blk:∀b k:Nat,r b=Vg k->p7 c r b w.heap[b]? v.heap[k]?
 tape:v.tape=w.tape
 drawn:v.drawn=w.drawn
 old:∀b:Nat,c.seen b->b<w.heap.size
 aJ:∀b k:Nat,r b=Vg k->b<c.aJ->b=k
 gY:c.aJ<=w.heap.size/\c.aJ<=v.heap.size
structure Ext(c:dw)(r:bu)(w v:Vl)(r':bu)(w' v':Vl):Prop where
 rel:cw c r' w' v'
 le:r.le r'
 grow:w.heap.size<=w'.heap.size
 size:v'.heap.size+w.heap.size=v.heap.size+w'.heap.size
 zo:∀b:Nat,b<w.heap.size->r' b=r b
 new:∀b:Nat,w.heap.size<=b->b<w'.heap.size->r' b=Vg (v.heap.size+(b-w.heap.size))
 keep:∀k:Nat,k<v.heap.size->(∀b:Nat,r b=Vg k->c.seen b)->v'.heap[k]?=v.heap[k]?
 os:v'.os=v.os
 out:v'.output=v.output
 tape:v'.tape=v.tape
theorem Ext.refl{c:dw}{r:bu}(h:cw c r w v):Ext c r w v r w v:=⟨h,bu.le_refl r,SR _,by omega,λ_ _=>rfl,λb _ _=>by omega,λ_ _ _=>rfl,rfl,rfl,rfl⟩
theorem Ext.trans{c:dw}{r r1 r2:bu}{w1 v1 w2 v2:Vl}(h:Ext c r w v r1 w1 v1)(k:Ext c r1 w1 v1 r2 w2 v2):Ext c r w v r2 w2 v2:=by have n:=h.size;have o:=k.size;have g:=h.grow;have m:=k.grow;refine⟨k.rel,bu.le_trans h.le k.le,S4 g m,by omega,λb a=>(k.zo b (SU a g)).trans (h.zo b a),λb a f=>?_,λj l i=>?_,k.os.trans h.os,k.out.trans h.out,k.tape.trans h.tape⟩;{rcases Ty b w1.heap.size with e|d;{exact k.le _ _ (h.new b a e)};rw[k.new b d f];grind};rw[k.keep j Ω (λb a=>?_),h.keep j l i];refine i b ?_;rcases Ty b w.heap.size with e|d;{rw[<-h.zo b e];exact a};have:=h.rel.pW b j a;rw[h.new b d this]at a;grind
def qJ(c:dw)(r:bu)(e:V4):Prop:=
 (∃b:Nat,(match e.loc with|.cell a=>r b=Vg a.block/\(c.seen b->a.off<c.DY b/\a.spot=Vo)|.obj k=>r b=Vg k/\¬c.seen b|_=>False)/\(e.write=Vk->¬c.seen b)/\e.sync=UW)\/e.loc=.mark .noRoom\/∃f,e.loc=.mark (.extern f)
theorem qJ.mono{c:dw}{r r':bu}(h:r.le r'){e:V4}(x:qJ c r e):qJ c r' e:=by rcases x with⟨b,a,d⟩|x;{refine .inl ⟨b,?_,d⟩;revert a;cases e.loc<;>simp only[imp_self]<;>exactλx=>⟨h _ _ x.1,x.2⟩};exact .inr x
end
section
variable{c:dw}{r:bu}
def AB:Halt->Bool
 |.unsupported (.initOrder _)=>UW
 |.panic _|.stuck _|.unsupported _=>Vk
 |_=>UW
def Out(P:VD)(c:dw)(r:bu)(w v:Vl)(s:VL β)(Q:bu->α->β->Prop):VZ α->Prop
 |.ok a w'=>∃b v' r',s.run P v=.ok b v'/\Ext c r w v r' w' v'/\Q r' a b/\∀e∈s.events P v #[],qJ c r' e
 |.halt h _=>AB h=Vk
def ab(P:VD)(c:dw)(r:bu)(x:VL α)(y:VL β)(Q:bu->α->β->Prop):Prop:=∀w v,cw c r w v->Out P c r w v y Q (x.run P w)
theorem ab.mono{x:VL α}{y:VL β}{Q Q':bu->α->β->Prop}(h:ab P c r x y Q)(k:∀d a b,r.le d->Q d a b->Q' d a b):ab P c r x y Q':=by intro w v l;have:=h w v l;cases f:x.run P w with|halt _ _=>rw[f]at this;exact this|ok a n=>rw[f]at this;obtain⟨b,m,d,g,e,i,j⟩:=this;exact⟨b,m,d,g,e,k _ _ _ e.le i,j⟩
theorem ab.bind{x:VL α}{y:VL β}{f:α->VL γ}{g:β->VL δ}{Q:bu->α->β->Prop}{Q':bu->γ->δ->Prop}(h:ab P c r x y Q)(k:∀l a b,r.le l->Q l a b->ab P c l (f a) (g b) Q'):ab P c r (x>>=f) (y>>=g) Q':=by intro w v t;have i:=h w v t;rw[VL.run_bind];cases p:x.run P w with|halt _ _=>rw[p]at i;exact i|ok a m=>rw[p]at i;obtain⟨b,F,D,s,n,B,A⟩:=i;have j:=k D a b n.le B m F n.rel;show Out P c r w v (y>>=g) Q' ((f a).run P m);cases o:(f a).run P m with|halt _ _=>rw[o]at j;exact j|ok z J=>rw[o]at j;obtain⟨u,G,E,H,q,C,I⟩:=j;refine⟨u,G,E,?_,n.trans q,C,λe d=>?_⟩;{simp_all};rw[VL.events_bind,s,VZ.evThen_ok,VL.events_acc]at d;rcases To.1 d with d|d;{exact(A e d).mono q.le};simp_all
theorem ab.pure{a:α}{b:β}{Q:bu->α->β->Prop}(h:Q r a b):ab P c r (Pure.pure a) (Pure.pure b) Q:=λ_ v f=>⟨b,v,r,rfl,.refl f,h,λe d=>by simp at d⟩
theorem ab.halt{y:VL β}{Q:bu->α->β->Prop}(a:AB h=Vk:=by rfl):ab P c r (VL.halt h) y Q:=λ_ _ _=>a
theorem ab.stuck{s:String}{y:VL β}{Q:bu->α->β->Prop}:ab P c r (Go.stuck s:VL α) y Q:=λ_ _ _=>rfl
theorem ab.unsupported{u:Unsupported}{y:VL β}{Q:bu->α->β->Prop}(a:AB (.unsupported u)=Vk:=by rfl):ab P c r (Go.unsupported u:VL α) y Q:=λ_ _ _=>a
theorem ab.never{x:VL α}{y:VL β}{Q:bu->α->β->Prop}(h:∀w,∃k w',x.run P w=.halt k w'/\AB k=Vk):ab P c r x y Q:=by intro w v _;obtain⟨k,w',e,a⟩:=h w;rw[e];exact a
theorem ab.ite{b:Prop}[Decidable b]{x x':VL α}{y y':VL β}{Q:bu->α->β->Prop}(h:b->ab P c r x y Q)(a:¬b->ab P c r x' y' Q):ab P c r (if b then x else x') (if b then y else y') Q:=by by_cases e:b;{rw[if_pos e,if_pos e];exact h e};rw[if_neg e,if_neg e];exact a e
def bN(P:VD)(q:α->Prop):VL α->Prop
 |.pure a=>q a
 |.choose _ k=>∀n,bN P q (k n)
 |.program k=>bN P q (k P)
 |.mark m k=>m=.noRoom/\bN P q k
 |.halt h=>AB h=Vk
 |_=>False
abbrev k7(P:VD):VL α->Prop:=bN P λ_=>True
theorem bN.bind{q:α->Prop}{q':β->Prop}{x:VL α}{f:α->VL β}(h:bN P q x)(k:∀a,q a->bN P q' (f a)):bN P q' (x>>=f):=by induction x with|pure a=>exact k a h|choose _ g b=>exactλn=>b n (h n)|program g b=>exact b P h|mark m g b=>exact⟨h.1,b h.2⟩|halt z=>exact h|load _ _ _ _=>exact h.elim|store _ _ _ _ _=>exact h.elim|new _ _ _=>exact h.elim|shape _ _ _=>exact h.elim|freeze _ _ _ _=>exact h.elim|frozen _ _ _=>exact h.elim|getObj _ _ _=>exact h.elim|setObj _ _ _ _=>exact h.elim|sys _ _ _=>exact h.elim
theorem k7.bind{q':β->Prop}{x:VL α}{f:α->VL β}(h:k7 P x)(k:∀a,bN P q' (f a)):bN P q' (x>>=f):=bN.bind h λa _=>k a
def QA(P:VD)(q:α->Prop)(x:VL α)(w v:Vl):Prop:=
 (∃a d,q a/\x.run P w=.ok a {w with drawn:=d}/\x.run P v=.ok a {v with drawn:=d}/\∀e∈x.events P v #[],e.loc=.mark .noRoom)\/∃h w',x.run P w=.halt h w'/\AB h=Vk
theorem bN.run{q₀:α->Prop}{x:VL α}(h:bN P q₀ x):∀(w v:Vl),v.tape=w.tape->v.drawn=w.drawn->QA P q₀ x w v:=by induction x with|pure a=>exactλw v _ f=>.inl ⟨a,w.drawn,h,rfl,by rw[<-f];rfl,λe l=>by simp at l⟩|choose q g j=>intro w v i f;have t:∀u:Vl,(VL.choose q g).run P u=if q.forced then(g 0).run P u else(g (q.cut (u.tape u.drawn q))).run P {u with drawn:=u.drawn+1}:=λ_=>rfl;(have y:∀u:Vl,(VL.choose q g).events P u #[]=if q.forced then(g 0).events P u #[]else(g (q.cut (u.tape u.drawn q))).events P {u with drawn:=u.drawn+1} #[]:=λu=>by simp only[VL.events,VL.runT];grind);unfold QA;simp only[t,y];by_cases s:q.forced=Vk;{simp only[s];exact j 0 (h 0) w v i f};obtain⟨B,F,E,C,D⟩:=v;rcases j (q.cut (w.tape w.drawn q)) (h _) {w with drawn:=w.drawn+1} ⟨B,w.tape,w.drawn+1,C,D⟩ rfl rfl with⟨a,d,n,o,p,A⟩|x;{simp_all};simp_all|program g j=>exactλw v i f=>j P h w v i f|mark m g j=>intro w v i f;rcases j h.2 w v i f with⟨a,d,n,o,p,A⟩|x;{refine .inl ⟨a,d,n,o,p,λe l=>?_⟩;have k:e∈g.events P v (#[].push ⟨.mark m,UW,Vk⟩):=l;rw[VL.events_acc]at k;rcases To.1 k with x|x;{simp at x;rw[x,h.1]};simp_all};exact .inr x|halt z=>exactλw _ _ _=>.inr ⟨z,w,rfl,h⟩|load _ _ _ _=>exact h.elim|store _ _ _ _ _=>exact h.elim|new _ _ _=>exact h.elim|shape _ _ _=>exact h.elim|freeze _ _ _ _=>exact h.elim|frozen _ _ _=>exact h.elim|getObj _ _ _=>exact h.elim|setObj _ _ _ _=>exact h.elim|sys _ _ _=>exact h.elim
theorem cw.AP(h:cw c r w v)(d:Nat):cw c r {w with drawn:=d} {v with drawn:=d}:=⟨h.pW,h.ym,h.inj,h.p5,h.hid,h.blk,h.tape,rfl,h.old,h.aJ,h.gY⟩
theorem ab.eW{q:α->Prop}{x:VL α}(h:bN P q x):ab P c r x x λ_ a b=>b=a/\q a:=by intro w v f;rcases h.run w v f.tape f.drawn with⟨a,d,g,i,j,l⟩|⟨k,s,e,p⟩;{rw[i];refine⟨a,_,r,j,?_,⟨rfl,g⟩,λe o=>.inr (.inl (l e o))⟩;exact⟨f.AP d,bu.le_refl r,SR _,rfl,λ_ _=>rfl,λb m n=>absurd n (Nat.not_lt.2 m),λ_ _ _=>rfl,rfl,rfl,rfl⟩};rw[e];exact p
theorem ab.cF{x:VL α}(h:k7 P x):ab P c r x x λ_ a b=>b=a:=(ab.eW h).mono λ_ _ _ _ h=>h.1
theorem um(a:α):k7 P (Pure.pure a):=trivial
theorem kY:k7 P program:=trivial
theorem iz(q:Question):k7 P (choose q):=λ_=>trivial
theorem dv(t:Vz):k7 P (typeInfo t):=by refine k7.bind kY λp=>?_;split<;>first|trivial|exact rfl
theorem aD(t:Vz):k7 P (underlying t):=by refine k7.bind kY λp=>?_;split<;>first|trivial|exact rfl
theorem br(t:Vz):k7 P (sizeOf t):=(dv t).bind λ_=>trivial
theorem nS(t:Vz):k7 P (isAgg t):=(aD t).bind λd=>by split<;>first|trivial|exact rfl
theorem pC(n:Nat):k7 P (askRoom n):=by unfold askRoom;split;{exact⟨rfl,trivial⟩};trivial
end
section
variable{c:dw}{r:bu}
theorem cw.at(h:cw c r w v)(b:dr c r a a'):p7 c r a.block w.heap[a.block]? v.heap[a'.block]?:=h.blk _ _ b.1
theorem cw.cell(h:cw c r w v)(g:dr c r a a')(b:w.cell? a=Vg x):∃y,v.cell? a'=Vg y/\ai c r x y:=by have d:=h.at g;obtain⟨_,m,o,i⟩:=g;unfold Vl.cell? at b⊢;generalize q:w.heap[a.block]?=C at d b;generalize p:v.heap[a'.block]?=B at d;cases d with|@seen z D t A j s l u _ e=>grind|own n k=>cases k with|cells t j k=>simp only[o,m]at b⊢;split at b;{cases b};rename_i f;rw[if_neg f];exact k.get b|map _ _ _=>cases b|iter _ _=>cases b|number _ _=>cases b
theorem cw.SN(h:cw c r w v)(g:dr c r a a')(_:w.cell? a=Vo)(d:Bool):∃k,w.farLoad P a d=.error k/\AB k=Vk:=by have f:=h.at g;unfold Vl.farLoad;generalize b:w.heap[a.block]?=p at f;generalize i:v.heap[a'.block]?=o at f;cases f with|seen t m j s l _ _ e=>exact⟨_,rfl,by simp only[Vl.noCell,b];rfl⟩|own n k=>cases k<;>exact⟨_,rfl,by simp only[Vl.noCell,b];rfl⟩
theorem cw.within(h:cw c r w v)(f:dr c r a a')(b:w.cell? a=Vg x):c.seen a.block->a'.off<c.DY a.block/\a'.spot=Vo:=by intro u;have d:=h.at f;obtain⟨_,q,i,-⟩:=f;unfold Vl.cell? at b;generalize m:w.heap[a.block]?=A at d b;generalize j:v.heap[a'.block]?=z at d;cases d with|seen t y o s l _ _ e=>simp only at b;split at b;{cases b};have p:=(SS.1 b).1;exact⟨by omega,by simp_all⟩|own n k=>simp_all
theorem ab.load(d:dr c r a a'):ab P c r (load a) (load a') (ai c):=by intro w v f;unfold Go.load;cases b:w.cell? a with|none=>obtain⟨k,e,j⟩:=f.SN (P:=P) d b (Mode.plain==Mode.atomic);(have:(VL.load .plain a VL.pure).run P w=.halt k w:=by simp only[VL.run,b,e]);rw[this];exact j|some x=>obtain⟨y,i,k⟩:=f.cell d b;(have:(VL.load .plain a VL.pure).run P w=.ok x w:=by simp only[VL.run,b]);rw[this];refine⟨y,v,r,by simp only[VL.run,i],.refl f,k,λe g=>?_⟩;(have h:(VL.load .plain a' VL.pure).events P v #[]=#[⟨.cell a',UW,UW⟩]:=by simp only[VL.events,VL.runT,i];rfl);rw[h]at g;simp at g;subst g;exact .inl ⟨a.block,⟨d.1,f.within d b⟩,by simp,rfl⟩
theorem cw.vi(h:cw c r w v)(j:dr c r a a')(b:w.cell? a=Vg x)(g:w.frozen? a=UW):∃(z i:Array Vm)(t:Vz)(d:Nat×Nat),¬c.seen a.block/\w.heap[a.block]?=Vg (.cells z t d)/\v.heap[a'.block]?=Vg (.cells i t d)/\aj c r z i/\a.spot.isSome=UW:=by have f:=h.at j;unfold Vl.cell? at b;unfold Vl.frozen? at g;generalize o:w.heap[a.block]?=u at f b g;generalize m:v.heap[a'.block]?=q at f;cases f with|seen t p d s l _ _ e=>simp_all|own n k=>cases k with|cells t d k=>grind|map _ _ _=>cases b|iter _ _=>cases b|number _ _=>cases b
theorem heap_setCell(w:Vl)(a:V0)(x:Vm):(w.setCell a x).heap.size=w.heap.size:=by simp[Vl.setCell]
theorem lI(w:Vl)(a:V0)(x:Vm)(h:b≠a.block):(w.setCell a x).heap[b]?=w.heap[b]?:=by simp[Vl.setCell,TF,Ne.symm h]
theorem lD(w:Vl)(x:Vm){z:Array Vm}{fr:Nat×Nat}(h:w.heap[a.block]?=Vg (.cells z t fr))(b:a.spot.isSome=UW):(w.setCell a x).heap[a.block]?=Vg (.cells (z.setIfInBounds a.off x) t fr):=by simp[Vl.setCell,TF,h,b]
theorem Ext.P3{w' v':Vl}(h:cw c r w v)(p:r b=Vg k)(q:¬c.seen b)(D:w'.heap[b]?=Vg o)(C:v'.heap[k]?=Vg o')(A:lY c r o o')(f:w'.heap.size=w.heap.size)(i:v'.heap.size=v.heap.size)(m:∀j,j≠b->w'.heap[j]?=w.heap[j]?)(s:∀j,j≠k->v'.heap[j]?=v.heap[j]?)(n:v'.tape=v.tape)(t:w'.tape=w.tape)(u:v'.drawn=w'.drawn)(y:v'.os=v.os)(z:v'.output=v.output):Ext c r w v r w' v':=by refine⟨⟨λj l a=>f▸h.pW j l a,λj l a=>i▸h.ym j l a,h.inj,h.p5,λj a B=>by rw[m j (λe=>by simp_all)];exact h.hid j a B,λj l a=>?_,by rw[n,t,h.tape],u,λj a=>by rw[f];exact h.old j a,h.aJ,by rw[f,i];exact h.gY⟩,bu.le_refl r,by omega,by omega,λ_ _=>rfl,λj _ _=>by omega,λl F E=>?_,y,z,n⟩;{by_cases d:j=b;{subst d;rw[p]at a;cases a;rw[D,C];exact .own q A};have g:l≠k:=λe=>d ((h.inj _ _ _ (e▸a) p).resolve_right λx=>q x.2);rw[m j d,s l g];exact h.blk j l a};grind
theorem ai.one(h:ai c r x y):y.oneCell'=x.oneCell':=by cases h<;>rfl
theorem ab.store(b:dr c r a a')(q:ai c r x y):ab P c r (store a x) (store a' y) λ_ _ _=>True:=by intro w v f;unfold Go.store;by_cases B:x.oneCell'=Vk;{(have C:y.oneCell'=Vk:=by rw[q.one,B]);(have e:∀(u:Vl)(p:V0)(z:Vm),z.oneCell'=Vk->(VL.store .plain p z (.pure ())).run P u=match u.cell? p with|some _=>if u.frozen? p then .halt (.unsupported (.unsafePointer "a write to bytes that a string shares")) u else .ok () (u.setCell p z)|none=>match u.farStore P p z UW with|.ok (U,_)=>.ok () U|.error h=>.halt h u:=by intro u p z H;cases z<;>first|(simp[Vm.oneCell']at H;done)|(rfl));rw[e w a x B];cases L:w.cell? a with|none=>have D:=f.at b;(have:∃k,w.farStore P a x UW=.error k/\AB k=Vk:=by unfold Vl.farStore;generalize o:w.heap[a.block]?=Y at D;generalize S:v.heap[a'.block]?=X at D;cases D with|seen t W K s l _ _ e=>exact⟨_,rfl,by simp only[Vl.noCell,o];rfl⟩|own n k=>cases k<;>exact⟨_,rfl,by simp only[Vl.noCell,o];rfl⟩);obtain⟨k,N,Q⟩:=this;simp only[N];exact Q|some Z=>simp only;cases A:w.frozen? a with|true=>rfl|false=>obtain⟨z,z',t,K,d,I,J,H,i⟩:=f.vi b L A;obtain⟨y0,T,_⟩:=f.cell b L;(have m:a'.spot.isSome=UW:=by rw[b.2.2.1];exact i);(have O:v.frozen? a'=UW:=by unfold Vl.frozen? at A⊢;rw[I]at A;rw[J];simp only[b.2.1];exact A);have g:=H.set a.off q;refine⟨(),v.setCell a' y,r,?_,?_,trivial,λV E=>?_⟩;{simp_all};{refine Ext.P3 f b.1 d (lD w x I i) (lD v y J m) ?_ (heap_setCell _ _ _) (heap_setCell _ _ _) (λj G=>lI w a x G) (λj G=>lI v a' y G) rfl rfl f.drawn rfl rfl;rw[b.2.1];exact .cells t K g};(have F:(VL.store .plain a' y (.pure ())).events P v #[]=#[⟨.cell a',Vk,UW⟩]:=by have:=events_store P v #[] a' y .plain C;unfold Go.store at this;simp_all);rw[F]at E;simp at E;subst E;exact .inl ⟨a.block,⟨b.1,λR=>absurd R d⟩,λ_=>d,rfl⟩};refine ab.never (P:=P) (c:=c) (r:=r) (λu=>?_) w v f;cases x<;>first|(simp[Vm.oneCell']at B;done)|exact⟨_,_,rfl,rfl⟩
def bu.add(r:bu)(b k:Nat):bu:=λj=>if j=b then Vg k else r j
theorem Ext.alloc(h:cw c r w v)(n:lY c r o o'):Ext c r w v (r.add w.heap.size v.heap.size) {w with heap:=w.heap.push o} {v with heap:=v.heap.push o'}:=by have p:=λx=>S8 _ (h.old _ x);(have f:r.le (r.add w.heap.size v.heap.size):=by intro b k a;have:=h.pW b k a;unfold bu.add;grind);refine⟨⟨λb k a=>?_,λb k a=>?_,λb q k a d=>?_,h.p5,λb i a=>?_,λb k a=>?_,h.tape,h.drawn,λb a=>by have:=h.old b a;simp;omega,λb k a i=>?_,by have:=h.gY;simp;omega⟩,f,by simp,by simp;omega,λb a=>by unfold bu.add;grind,λb a d=>?_,λk s _=>?_,rfl,rfl,rfl⟩;{unfold bu.add at a;simp;split at a;{omega};have:=h.pW b k a;omega};{unfold bu.add at a;simp;split at a;{simp_all};have:=h.ym b k a;omega};{unfold bu.add at a d;split at a<;>split at d;{omega};{cases a;have:=h.ym _ _ d;omega};{cases d;have:=h.ym _ _ a;omega};exact h.inj _ _ _ a d};{have m:=SU i h.gY.1;unfold bu.add at a;rw[if_neg Ω]at a;rw[Ts,if_neg Ω];exact h.hid b i a};{unfold bu.add at a;split at a;{rename_i e;subst e;cases a;simp only[Array.getElem?_push_size];exact .own p (n.mono f)};have j:=h.pW b k a;have l:=h.ym b k a;rw[Vt j,Vt l,<-S1 j,<-S1 l];exact(h.blk b k a).mono f};{unfold bu.add at a;have:=h.gY;split at a;{omega};exact h.aJ b k a i};{unfold bu.add;grind};grind
theorem bu.Ep(r:bu)(b k:Nat):r.add b k b=Vg k:=by unfold bu.add;simp
theorem ab.newObj(f:lY c r o o'):ab P c r (newObj o) (newObj o') λg b d=>g b=Vg d/\c.low b=0:=by intro w v a;refine⟨v.heap.size,_,_,rfl,Ext.alloc a f,⟨bu.Ep _ _ _,a.p5 _ λx=>S8 _ (a.old _ x)⟩,λe h=>?_⟩;simp_all
theorem ab.newRow{x x':Array Vm}(h:aj c r x x'):ab P c r (newRow t x) (newRow t x') (dr c):=by refine ab.bind (ab.newObj (.cells t (0,0) h)) λe b d _ a=>ab.pure ⟨a.1,rfl,rfl,TH a.2⟩
theorem ab.newVar(h:ai c r x x'):ab P c r (newVar t x) (newVar t x') (dr c):=ab.newRow (aj.cells h)
theorem dr.add{a a':V0}(h:dr c r a a')(n:Nat):dr c r (a.add n) (a'.add n):=by unfold V0.add;split;{exact h};exact⟨h.1,by simp[h.2.1],rfl,S4 h.2.2.2 (Tx _ _)⟩
theorem ab.loadCellsFrom(n:Nat):∀{r:bu}{a a':V0}(i:Nat){acc acc':Array Vm},dr c r a a'->aj c r acc acc'->ab P c r (loadCellsFrom a i n acc) (loadCellsFrom a' i n acc') (aj c):=by induction n with|zero=>intro r a a' i acc acc' e b;exact ab.pure b|succ n g=>intro r a a' i acc acc' e b;exact ab.bind (ab.load (e.add i)) λh x j d f=>g (i+1) (e.mono d) ((b.mono d).push f)
theorem ab.loadCells(b:dr c r a a')(n:Nat):ab P c r (loadCells a n) (loadCells a' n) (aj c):=ab.loadCellsFrom n 0 b .empty
theorem ab.Ea(i:Fits P c)(b:g<c.aJ)(o:Nat):ab P c r (Go.load ⟨g,o,Vo⟩) (Go.load ⟨g,o,Vo⟩) (ai c):=by intro w v f;cases d:r g with|some k=>obtain rfl:=f.aJ g k d b;exact ab.load ⟨d,rfl,rfl,S4 (TH (i.low g b)) (Ti _)⟩ w v f|none=>have h:=f.hid g b d;(have e:(Go.load ⟨g,o,Vo⟩).run P w=.halt (.stuck "load: no such cell") w:=by simp[VL.run,Vl.cell?,Vl.farLoad,Vl.noCell,h]);rw[e];exact rfl
theorem ab.rr(f:Fits P c)(h:g<c.aJ)(n:Nat):∀{r:bu}(i:Nat){acc acc':Array Vm},aj c r acc acc'->ab P c r (Go.loadCellsFrom ⟨g,0,Vo⟩ i n acc) (Go.loadCellsFrom ⟨g,0,Vo⟩ i n acc') (aj c):=by induction n with|zero=>intro r i acc acc' a;exact ab.pure a|succ n k=>intro r i acc acc' a;(have e:(⟨g,0,Vo⟩:V0).add i=⟨g,0+i,Vo⟩:=by unfold V0.add;simp_all);unfold Go.loadCellsFrom;rw[e];exact ab.bind (ab.Ea f h _) λl x m b j=>k (i+1) ((a.mono b).push j)
theorem ab.EX(a:Fits P c)(d:g<c.aJ)(t:Vz):ab P c r (Go.loadVar t ⟨g,0,Vo⟩) (Go.loadVar t ⟨g,0,Vo⟩) (ai c):=by refine ab.bind (ab.cF (nS t)) λp b f k h=>?_;subst h;cases f with|false=>exact ab.Ea a d 0|true=>refine ab.bind (ab.cF (br t)) λq n o l i=>?_;subst i;exact ab.bind (ab.rr a d _ 0 .empty) λs x u m j=>ab.pure (.sI j)
theorem ab.storeCells:∀{r:bu}{a a':V0}{l l':List Vm}(i:Nat),dr c r a a'->aj c r l.toArray l'.toArray->ab P c r (storeCells a l i) (storeCells a' l' i) λ_ _ _=>True|r,a,a',[],[],i,b,h=>ab.pure trivial|r,a,a',[],_::_,i,b,h=>by have:=h.size;grind|r,a,a',_::_,[],i,b,h=>by have:=h.size;grind|r,a,a',x::l,g::l',i,b,h=>by refine ab.bind (ab.store (b.add i) (h.el 0 x g Θ Θ)) λm _ _ d _=>?_;refine ab.storeCells (i+1) (b.mono d) ((⟨?_,λj u f k e=>?_⟩:aj c r l.toArray l'.toArray).mono d);{have:=h.size;simp_all};exact h.el (j+1) u f (by simp_all) (by simp_all)
theorem ab.loadVar(t:Vz)(d:dr c r a a'):ab P c r (loadVar t a) (loadVar t a') (ai c):=by refine ab.bind (ab.cF (nS t)) λm g e b h=>?_;subst h;cases e with|false=>exact ab.load (d.mono b)|true=>refine ab.bind (ab.cF (br t)) λo n l f i=>?_;subst i;exact ab.bind (ab.loadCells ((d.mono b).mono f) _) λp x q k j=>ab.pure (.sI j)
theorem ab.storeVar(t:Vz)(j:dr c r a a')(h:ai c r x x'):ab P c r (storeVar t a x) (storeVar t a' x') λ_ _ _=>True:=by refine ab.bind (ab.cF (br t)) λg n d f k=>?_;subst k;have l:=(aj.cells h).size;have b:ab P c g (Go.storeCells a x.cells.toList) (Go.storeCells a' x'.cells.toList) λ_ _ _=>True:=ab.storeCells 0 (j.mono f) (by simpa using(aj.cells h).mono f);rw[<-l];by_cases e:x.cells.size≠d;{rw[if_pos e,if_pos e];exactλ_ _ _=>rfl};rw[if_neg e,if_neg e];exact b
theorem ab.getObj{b':Nat}(D:r b=Vg b'){k:V2->VL α}{k':V2->VL β}{Q:bu->α->β->Prop}(G:∀o o',¬c.seen b->lY c r o o'->(∀x t f,o≠.cells x t f)->ab P c r (k o) (k' o') Q):ab P c r (getObj b>>=k) (getObj b'>>=k') Q:=by intro w v E;have F:=E.blk b b' D;rw[VL.run_bind];(have C:∀(u:Vl)(j:Nat),(Go.getObj j).run P u=match u.heap[j]? with|some (.cells ..)=>.halt (.stuck "getObj: a row of cells") u|some o=>.ok o u|none=>.halt (.stuck "getObj: no such block") u:=by intro u j;unfold Go.getObj;simp only[VL.run];rfl);rw[C];generalize O:w.heap[b]?=U at F;generalize g:v.heap[b']?=T at F;cases F with|seen _ _ _ _ _ _ _ _=>exact rfl|own n N=>rename_i o o';cases N with|cells t S _=>exact rfl|map R L M=>have:=G _ _ n (.map R L M) (λ_ _ _ h=>by cases h) w v E;revert this;show Out P c r w v _ Q ((k _).run P w)->Out P c r w v _ Q ((k _).run P w);(cases(k _).run P w with|halt _ _=>exactλh=>h|ok a J=>rintro⟨q,B,A,H,i,z,I⟩;refine⟨q,B,A,by simp_all,i,z,λe d=>?_⟩;rw[VL.events_bind,C,g]at d;(have y:(Go.getObj b').events P v #[]=#[⟨.obj b',UW,UW⟩]:=by simp[Go.getObj,VL.events,VL.runT,g,V2.isChan,-VL.runT_eq]);simp only[VZ.evThen_ok]at d;rw[VL.events_acc,y]at d;rcases To.1 d with d|d;{simp at d;subst d;exact .inl ⟨b,⟨i.le _ _ D,n⟩,by simp,rfl⟩};simp_all)|iter s p=>have:=G _ _ n (.iter s p) (λ_ _ _ h=>by cases h) w v E;revert this;show Out P c r w v _ Q ((k _).run P w)->Out P c r w v _ Q ((k _).run P w);(cases(k _).run P w with|halt _ _=>exactλh=>h|ok a J=>rintro⟨q,B,A,H,i,z,I⟩;refine⟨q,B,A,by simp_all,i,z,λe d=>?_⟩;rw[VL.events_bind,C,g]at d;(have y:(Go.getObj b').events P v #[]=#[⟨.obj b',UW,UW⟩]:=by simp[Go.getObj,VL.events,VL.runT,g,V2.isChan,-VL.runT_eq]);simp only[VZ.evThen_ok]at d;rw[VL.events_acc,y]at d;rcases To.1 d with d|d;{simp at d;subst d;exact .inl ⟨b,⟨i.le _ _ D,n⟩,by simp,rfl⟩};simp_all)|number l K=>have:=G _ _ n (.number l K) (λ_ _ _ h=>by cases h) w v E;revert this;show Out P c r w v _ Q ((k _).run P w)->Out P c r w v _ Q ((k _).run P w);cases(k _).run P w with|halt _ _=>exactλh=>h|ok a J=>rintro⟨q,B,A,H,i,z,I⟩;refine⟨q,B,A,by simp_all,i,z,λe d=>?_⟩;rw[VL.events_bind,C,g]at d;(have y:(Go.getObj b').events P v #[]=#[⟨.obj b',UW,UW⟩]:=by simp[Go.getObj,VL.events,VL.runT,g,V2.isChan,-VL.runT_eq]);simp only[VZ.evThen_ok]at d;rw[VL.events_acc,y]at d;rcases To.1 d with d|d;{simp at d;subst d;exact .inl ⟨b,⟨i.le _ _ D,n⟩,by simp,rfl⟩};simp_all
theorem ab.setObj{b':Nat}(i:r b=Vg b')(z:¬c.seen b)(A:lY c r o o')(I:o.isChan=UW):ab P c r (setObj b o) (setObj b' o') λ_ _ _=>True:=by intro w v k;have m:=k.blk b b' i;(have C:∀(u:Vl)(j:Nat)(o:V2),(Go.setObj j o).run P u=match u.heap[j]? with|some (.cells ..)=>.halt (.stuck "setObj: a row of cells") u|some _=>.ok () {u with heap:=u.heap.setIfInBounds j o}|none=>.halt (.stuck "setObj: no such block") u:=by intro u j o;rfl);rw[C];have n:=k.pW b b' i;have y:=k.ym b b' i;(have E:o'.isChan=UW:=by cases A<;>rfl);generalize H:w.heap[b]?=K at m;generalize g:v.heap[b']?=J at m;(have d:∀q,v.heap[b']?=Vg q->(∀x t f,q≠.cells x t f)->q.isChan=UW->Out P c r w v (Go.setObj b' o') (λ_ _ _=>True) (.ok () {w with heap:=w.heap.setIfInBounds b o}):=by intro q F G B;refine⟨(),{v with heap:=v.heap.setIfInBounds b' o'},r,?_,?_,trivial,λe p=>?_⟩;{simp_all};{exact Ext.P3 k i z (by simp[n]) (by simp[y]) A Θ Θ (λj s=>Tn (Ne.symm s)) (λj s=>Tn (Ne.symm s)) rfl rfl k.drawn rfl rfl};(have D:(Go.setObj b' o').events P v #[]=#[⟨.obj b',Vk,UW⟩]:=by unfold Go.setObj;simp only[VL.events,VL.runT,F];simp_all);rw[D]at p;simp at p;subst p;exact .inl ⟨b,⟨i,z⟩,λ_=>z,rfl⟩);cases m with|seen _ _ _ x _ _ _ _=>rfl|own _ h=>cases h with|cells _ _ _=>exact rfl|map _ _ _=>exact d _ g (λ_ _ _ h=>by cases h) rfl|iter _ _=>exact d _ g (λ_ _ _ h=>by cases h) rfl|number _ _=>exact d _ g (λ_ _ _ h=>by cases h) rfl
end
section
variable{c:dw}{r:bu}
def Flat(v:Vm):Prop:=∀(c:dw)(r:bu),ai c r v v
theorem Flat.int(k:Vy)(n:Int):Flat (.int k n):=λ_ _=>.int k n
theorem Flat.bool(b:Bool):Flat (.bool b):=λ_ _=>.bool b
theorem Flat.string(s:ByteArray):Flat (.string s):=λ_ _=>.string s
def jG:Nat->Vm->Bool
 |0,_=>UW
 |_+1,.bool _|_+1,.int _ _|_+1,.string _|_+1,.pointer Vo|_+1,.slice Vo _ _|_+1,.map Vo|_+1,.nilFunc|_+1,.nilIface=>Vk
 |n+1,.agg x|n+1,.tuple x=>x.all (jG n)
 |_,_=>UW
theorem il:∀{n:Nat}{v:Vm},jG n v=Vk->Flat v|0,_,h=>by simp[jG]at h|n+1,v,h=>by intro c r;cases v with|bool b=>exact .bool b|int k n=>exact .int k n|float _ _=>simp[jG]at h|complex _ _ _=>simp[jG]at h|string s=>exact .string s|pointer a=>(cases a with|none=>exact .ga|some _=>simp[jG]at h)|slice a n m=>(cases a with|none=>exact .fO n m|some _=>simp[jG]at h)|map a=>(cases a with|none=>exact .kC|some _=>simp[jG]at h)|chan _=>simp[jG]at h|func _ _ _=>simp[jG]at h|nilFunc=>exact .nilFunc|iface _ _=>simp[jG]at h|nilIface=>exact .nilIface|agg x=>simp only[jG,Array.all_eq_true]at h;refine .agg rfl λi v f a b=>?_;rw[a]at b;cases b;obtain⟨e,rfl⟩:=SS.1 a;exact il (h i e) c r|tuple x=>simp only[jG,Array.all_eq_true]at h;refine .tuple rfl λi v f a b=>?_;rw[a]at b;cases b;obtain⟨e,rfl⟩:=SS.1 a;exact il (h i e) c r
theorem ab.flat{x:VL Vm}(h:bN P Flat x):ab P c r x x (ai c):=(ab.eW h).mono λd a b _⟨e,h⟩=>by subst e;exact h c d
theorem bL:bN P (λp=>p=P) program:=rfl
theorem jx(t:Vz):bN P (λi=>P.info? t=Vg i) (typeInfo t):=by refine bN.bind bL λp a=>?_;subst a;cases h:p.info? t with|none=>exact rfl|some i=>exact rfl
theorem sD(t:Vz)(a:∀z,(P.info? t).bind (·.zero)=Vg z->Flat z):bN P Flat (zeroValue t):=by refine bN.bind (jx t) λi b=>?_;cases h:i.zero with|none=>exact rfl|some v=>exact a v (by grind)
theorem nh(a:BinOp)(k:Vy)(x y:Int):bN P Flat (Op.intArith a k x y):=by unfold Op.intArith;split<;>first|exact .int _ _|exact rfl
theorem wW(a:BinOp)(k:Vy)(x y:Int):bN P Flat (Op.intDiv a k x y):=by unfold Op.intDiv;split;{rfl};split<;>first|exact .int _ _|exact rfl
theorem od(a:BinOp)(k:Vy)(x y:Int):bN P Flat (Op.intBits a k x y):=by unfold Op.intBits;split<;>first|exact .int _ _|exact rfl
theorem xQ(a:BinOp)(x y:Int):bN P Flat (Op.intCmp a x y):=by unfold Op.intCmp;split<;>first|exact .bool _|exact rfl
theorem rI(a:BinOp)(k b:Vy)(x y:Int):bN P Flat (Op.shift a k x b y):=by unfold Op.shift;split;{rfl};split<;>first|exact .int _ _|exact rfl
theorem j8(a:BinOp)(x y:ByteArray):bN P Flat (Op.stringOp a x y):=by unfold Op.stringOp;split<;>first|exact .bool _|exact rfl|(split<;>first|exact .string _|exact rfl)
theorem jR{q:α->Prop}(s:String):bN P q (Go.stuck s):=rfl
theorem oJ{q:α->Prop}{b:Prop}[Decidable b]{x y:VL α}(a:bN P q x)(d:bN P q y):bN P q (if b then x else y):=by grind
theorem lN(d:BinOp)(t:Vz)(k j:Vy)(a b:Int):bN P Flat (binOp d t (.int k a) (.int j b)):=by cases d<;>first|exact rI .shl k j a b|exact rI .shr k j a b|exact oJ (jR _) (nh _ _ _ _)|exact oJ (jR _) (wW _ _ _ _)|exact oJ (jR _) (od _ _ _ _)|exact oJ (jR _) (xQ _ _ _)
theorem jS(d:BinOp)(t:Vz)(a b:ByteArray):bN P Flat (binOp d t (.string a) (.string b)):=by(have:binOp d t (.string a) (.string b)=Op.stringOp d a b:=by cases d<;>rfl);rw[this];exact j8 _ _ _
theorem ab.asBool(h:ai c r x x'):ab P c r (asBool x) (asBool x') λ_ a b=>b=a:=by cases h<;>first|exact ab.pure rfl|exact ab.stuck
theorem ab.asIntOf(h:ai c r x x'):ab P c r (asIntOf x) (asIntOf x') λ_ a b=>b=a:=by cases h<;>first|exact ab.pure rfl|exact ab.stuck|exact ab.unsupported
theorem ab.asInt(h:ai c r x x'):ab P c r (asInt x) (asInt x') λ_ a b=>b=a:=ab.bind (ab.asIntOf h) λ_ a b _ e=>ab.pure (by rw[e])
theorem ab.asAgg(h:ai c r x x'):ab P c r (asAgg x) (asAgg x') (aj c):=by cases h with|agg a b=>exact ab.pure ⟨a,b⟩|_=>exact ab.stuck
def fT(P:VD)(x:VL α):Prop:=∀w h w',x.run P w=.halt h w'->AB h=Vk
def kO(P:VD)(x:VL α):Prop:=∀w,∃k w',x.run P w=.halt k w'/\AB k=Vk
theorem bN.yC{q:α->Prop}{x:VL α}(h:bN P q x):fT P x:=by intro w k j e;rcases h.run w w rfl rfl with⟨a,d,_,b,_⟩|⟨i,f,b,g⟩;{simp_all};simp_all
theorem fT.bind{x:VL α}{f:α->VL β}(d:fT P x)(h:∀a,fT P (f a)):fT P (x>>=f):=by intro w k j e;rw[VL.run_bind]at e;cases b:x.run P w with|halt i g=>rw[b]at e;cases e;exact d _ _ _ b|ok a g=>rw[b]at e;exact h a _ _ _ e
theorem dC{x:VL α}{f:α->VL β}(e:fT P x)(h:∀a,kO P (f a)):kO P (x>>=f):=by intro w;rw[VL.run_bind];cases d:x.run P w with|halt k b=>exact⟨k,b,rfl,e _ _ _ d⟩|ok a b=>exact h a b
theorem gk{x:VL α}{f:α->VL β}(h:kO P x):kO P (x>>=f):=by intro w;obtain⟨k,b,e,a⟩:=h w;simp_all
theorem eK(a:AB h=Vk:=by rfl):kO P (VL.halt h:VL α):=λw=>⟨h,w,rfl,a⟩
theorem qA(o:V2):fT P (newObj o):=λ_ _ _ e=>by cases e
theorem dz(a:α):fT P (Pure.pure a:VL α):=λ_ _ _ e=>by cases e
theorem A3(b:Nat):fT P (shape b):=λ_ _ _ e=>by cases e
theorem yD(a:V0):fT P (frozen a):=λ_ _ _ e=>by cases e
theorem qy(t:Vz):k7 P (elemOf t):=(aD t).bind λd=>by cases d<;>first|trivial|exact rfl
theorem dH(e:RuntimeError):kO P (runtimePanic e:VL α):=by refine dC kY.yC λp=>?_;cases e with|typeAssertion i q a m=>exact dC (qy _).yC λz=>dC ((qA _).bind λ_=>dz _) λ_=>eK|panicNil=>exact dC (qy _).yC λz=>dC ((qA _).bind λ_=>dz _) λ_=>eK|_=>exact eK
theorem ab.runtimePanic{y:VL β}{Q:bu->α->β->Prop}:ab P c r (Go.runtimePanic e:VL α) y Q:=ab.never (dH e)
theorem ou(k:Vy)(x y:Int)(a:BoundsCode):kO P (boundsPanic k x y a:VL α):=by unfold boundsPanic;split;{exact dC ((iz _).bind λ_=>um _).yC λ_=>dH _};exact dC (um _).yC λ_=>dH _
theorem ab.boundsPanic{k:Vy}{m:Int}{code:BoundsCode}{y:VL β}{Q:bu->α->β->Prop}:ab P c r (Go.boundsPanic k n m code:VL α) y Q:=ab.never (ou k n m code)
theorem ab.sureAddr(h:ai c r x x'):ab P c r (Instr.sureAddr x) (Instr.sureAddr x') (dr c):=by cases h with|ptr h=>exact ab.pure h|_=>exact ab.stuck
theorem ab.asAddr(h:ai c r x x'):ab P c r (asAddr x) (asAddr x') (dr c):=by cases h with|ptr h=>exact ab.pure h|ga=>exact ab.runtimePanic (e:=.nilDeref)|_=>exact ab.stuck
theorem ab.part(t:Vz)(off:Nat){x x':Array Vm}(h:aj c r x x'):ab P c r (part t x off) (part t x' off) (ai c):=by refine ab.bind (ab.cF (nS t)) λm g f a j=>?_;subst j;cases f with|true=>exact ab.bind (ab.cF (br t)) λp n o i l=>by subst l;exact ab.pure (.sI (((h.mono a).mono i).extract _ _))|false=>cases e:x[off]? with|none=>exact ab.stuck|some v=>obtain⟨q,d,k⟩:=(h.mono a).get e;rw[d];exact ab.pure k
theorem Ci(t:Vz)(d:∀z,(P.info? t).bind (·.zero)=Vg z->Flat z):ab P c r (Instr.alloc t Vk (.tuple #[])) (Instr.alloc t Vk (.tuple #[])) (ai c):=by refine ab.bind (ab.flat (sD t d)) λg z j f d=>?_;exact ab.bind (ab.newVar d) λi a e _ h=>ab.pure (.ptr h)
theorem IT(t:Vz)(h:ai c r x x'):ab P c r (Instr.box t x) (Instr.box t x') (ai c):=ab.bind (ab.newVar h) λe a d _ h=>ab.pure (.ptr h)
theorem x4(d:Nat->Option (Nat×Nat)):∀(l q:List (Nat×Vm)){z z':Array Vm},aj c r z z'->l.map (·.1)=q.map (·.1)->aj c r (l.map (·.2)).toArray (q.map (·.2)).toArray->
 match Instr.fill d z l with|some y=>∃I,Instr.fill d z' q=Vg I/\aj c r y I|none=>True
 |[],[],z,z',h,_,_=>⟨z',rfl,h⟩
 |[],_::_,_,_,_,e,_=>by simp at e
 |_::_,[],_,_,_,e,_=>by simp at e
 |(i,v)::l,(O,t)::q,z,z',h,e,w=>by
   simp only[Tp,TR]at e
   obtain⟨rfl,e⟩:=e
   have F:ai c r v t:=w.el 0 v t Θ Θ
   have A:aj c r (l.map (·.2)).toArray (q.map (·.2)).toArray:=⟨by have:=w.size;simp_all,λj u E a b=>w.el (j+1) u E (by grind) (by grind)⟩
   have M:=(aj.cells F).size
   have C:=h.size
   unfold Instr.fill
   cases d i with
   |none=>trivial
   |some p=>
     obtain⟨k,H⟩:=p
     simp only[<-M,<-C]
     split
     · rename_i y G
       split at G
       ·cases G
       · rename_i L
         rw[if_neg L]
         have D:∀(s f:List (Vm×Nat))(z z':Array Vm),aj c r z z'->s.map (·.2)=f.map (·.2)->aj c r (s.map (·.1)).toArray (f.map (·.1)).toArray->
          aj c r (s.foldl (λm(x:Vm×Nat)=>m.setIfInBounds (k+x.2) x.1) z) (f.foldl (λm(x:Vm×Nat)=>m.setIfInBounds (k+x.2) x.1) z'):=by
          intro s
          induction s with
          |nil=>simp_all
          |cons p s N=>intro f z z' C e B;cases f with
            |nil=>simp at e
            |cons Q f=>
              simp only[Tp,TR]at e
              rw[T2,T2,<-e.1]
              exact N f _ _ (C.set _ (B.el 0 _ _ Θ Θ)) e.2 ⟨by have:=B.size;simp_all,λj u E a b=>B.el (j+1) u E (by grind) (by grind)⟩
         have n:aj c r (v.cells.zipIdx.foldl (λm(x:Vm×Nat)=>m.setIfInBounds (k+x.2) x.1) z) (t.cells.zipIdx.foldl (λm(x:Vm×Nat)=>m.setIfInBounds (k+x.2) x.1) z'):=by
          rw[<-Array.foldl_toList,<-Array.foldl_toList]
          refine D _ _ _ _ h ?_ ?_
          ·simp_all
          · have J:(v.cells.zipIdx.toList.map (·.1)).toArray=v.cells:=by simp
            have K:(t.cells.zipIdx.toList.map (·.1)).toArray=t.cells:=by simp
            rw[J,K];exact aj.cells F
         have:=x4 d l q n e A
         simp_all
     ·trivial
end
section
variable{c:dw}{r:bu}
inductive sH(c:dw)(b:Nat):Option (Vz×Nat)->Option (Vz×Nat)->Prop
 |none:sH c b Vo Vo
 |some(t:Vz){n m:Nat}:n<=m->c.low b=0->sH c b (Vg (t,n)) (Vg (t,m))
 |bad(t':Vz){n m:Nat}:c.low b≠0->c.aJ<=b->sH c b (Vg (vM,n)) (Vg (t',m))
theorem sH.isSome{s s':Option (Vz×Nat)}(h:sH c b s s'):s.isSome=s'.isSome:=by cases h<;>rfl
theorem pX{p:VD}{d:Nat}{e:Vz}{n m off:Nat}{bs:Int}{o:Nat}(h:n<=m)(a:cellAtBytes p d e n off bs=Vg o):cellAtBytes p d e m off bs=Vg o:=by unfold cellAtBytes at a⊢;simp only[]at a⊢;split at a;{cases a};rename_i f;rw[if_neg f];simp only[Option.bind_eq_bind]at a⊢;cases i:byteOfCell p d e (off%p.cellsOf e)with|none=>simp_all|some b=>rw[i]at a;simp only[TG]at a⊢;split at a;{cases a};rename_i g;rw[if_neg ?_];{exact a};simp only[TQ,decide_eq_true_eq,Int.ofNat_eq_natCast]at g⊢;have:n*p.bytesOf e<=m*p.bytesOf e:=UX _ h;omega
theorem cw.shape(h:cw c r w v)(g:r b=Vg k):sH c b (w.shape? b) (v.shape? k):=by have d:=h.blk b k g;unfold Vl.shape?;generalize w.heap[b]?=p at d;generalize v.heap[k]?=o at d;cases d with|@seen x q t m f s l z y e=>by_cases a:c.low b=0;{obtain rfl:=y.1 a;exact .some t z a};obtain⟨rfl,i⟩:=y.2 a;exact .bad m a i|own n j=>cases j with|cells t f k=>exact .some t (by simp[k.size]) (h.p5 b n)|_=>exact .none
theorem ab.shape(d:r b=Vg k):ab P c r (shape b) (shape k) λ_ x y=>sH c b x y:=by intro w v a;exact⟨v.shape? k,v,r,rfl,.refl a,a.shape d,λe f=>by simp_all⟩
theorem ab.viewAt(f:r b=Vg k):ab P c r (viewAt b) (viewAt k) λ_ x y=>x=Vo/\y=Vo:=by refine ab.bind (ab.shape f) λg s d h l=>?_;have a:=l.isSome;by_cases e:d.isSome=Vk;{rw[a,if_pos e,if_pos e];exact ab.pure ⟨rfl,rfl⟩};rw[a,if_neg e,if_neg e];refine ab.getObj (h _ _ f) λo n _ j i=>?_;cases j with|cells t m _=>exact absurd rfl (i _ _ _)|_=>exact ab.pure ⟨rfl,rfl⟩
theorem ab.noView(d:dr c r a a'):ab P c r (noView a) (noView a') λ_ _ _=>True:=by refine ab.bind (ab.viewAt d.1) λf s g e b=>?_;rw[b.1,b.2];exact ab.pure trivial
def N8(c:dw)(r:bu):Option (V0×Bool)->Option (V0×Bool)->Prop
 |none,Vo=>True
 |some (a,l),Vg (a',l')=>dr c r a a'/\l'=l
 |_,_=>False
theorem ab.numberAt(f:r b=Vg k):ab P c r (numberAt b) (numberAt k) (N8 c):=by refine ab.bind (ab.shape f) λn s g h m=>?_;have d:=m.isSome;rw[d];by_cases e:g.isSome=Vk;{rw[if_pos e,if_pos e];exact ab.pure trivial};rw[if_neg e,if_neg e];refine ab.getObj (h _ _ f) λo q _ j i=>?_;cases j with|cells t p _=>exact absurd rfl (i _ _ _)|number l a=>exact ab.pure ⟨a,rfl⟩|_=>exact ab.pure trivial
theorem ab.behindNumber(d:dr c r a a'):ab P c r (behindNumber a) (behindNumber a') λf x y=>dr c f x.1 y.1/\y.2=x.2:=by refine ab.bind (ab.numberAt d.1) λi s g e b=>ab.pure ?_;match s,g,b with|none,Vo,_=>exact⟨d.mono e,rfl⟩|some (x,l),Vg (j,h),b=>exact b
theorem ab.asNumber(b:dr c r a a')(l:Bool):ab P c r (asNumber a l) (asNumber a' l) (ai c):=ab.bind (ab.newObj (.number l b)) λ_ _ _ _ h=>ab.pure (.ptr ⟨h.1,rfl,rfl,TH h.2⟩)
theorem ab.byteOf(b:dr c r a a')(g:c.low a.block=0\/a.block<c.aJ):ab P c r (byteOf a) (byteOf a') λ_ x y=>y=x:=by have e:=b.2.2.1;unfold Go.byteOf;rw[e];cases a.spot with|some s=>exact ab.pure rfl|none=>refine ab.bind (ab.eW bL) λn p m d i=>?_;obtain⟨rfl,rfl⟩:=i;refine ab.bind (ab.noView (b.mono d)) λo _ _ f _=>?_;refine ab.bind (ab.shape ((b.mono d).mono f).1) λq s t l e=>?_;rw[b.2.1];cases e with|none=>exact ab.stuck|bad x k d=>exact absurd g Ω|some x h=>refine ab.cF ?_;simp only[];split;{trivial};split<;>first|trivial|exact rfl
theorem ab.unsafeAdd(z:Fits P c)(h:ai c r x x')(k:ai c r y y'):ab P c r (VW.unsafeAdd_ #[] t #[x,y]) (VW.unsafeAdd_ #[] t #[x',y']) (ai c):=by(have f:∀{a j:Option V0},ai c r (.pointer a) (.pointer j)->ab P c r (VW.unsafeAdd_ #[] t #[.pointer a,y]) (VW.unsafeAdd_ #[] t #[.pointer j,y']) (ai c):=by intro a j h;refine ab.bind (ab.asInt k) λF n E v A=>?_;subst A;have h:=h.mono v;simp only[];split;{cases h with|ga=>exact ab.unsupported|ptr b=>refine ab.bind (ab.viewAt b.1) λB s D l g=>?_;rw[g.1,g.2];exact ab.pure (.ptr (b.mono l))};split;{exact ab.unsupported};cases h with|ga=>exact ab.unsupported|ptr b=>refine ab.bind (ab.shape b.1) λB s D l g=>?_;cases g with|none=>exact ab.unsupported|bad x u v=>refine ab.bind (ab.eW bL) λC p i w o=>?_;obtain⟨rfl,rfl⟩:=o;(have:i.cellsOf vM=0:=by unfold VD.cellsOf;rw[z.bad];rfl);(have:∀n d q,cellAtBytes i i.depth vM n d q=Vo:=λn d q=>by unfold cellAtBytes;simp[this]);simp only[this];exact ab.unsupported|some x m u=>refine ab.bind (ab.eW bL) λC p i w o=>?_;obtain⟨rfl,rfl⟩:=o;rw[b.2.1];split;{rename_i d e;rw[pX (Nat.div_le_div_right m) e];exact ab.pure (.ptr ⟨((b.mono l).mono w).1,rfl,b.2.2.1,S4 (TH u) (Ti _)⟩)};exact ab.unsupported);cases h with|ga=>exact f .ga|ptr b=>exact f (.ptr b)|_=>exact ab.stuck
theorem ab.movedNumber(g:Fits P c)(h:ai c r x x')(k:ai c r y y'):ab P c r (movedNumber t x y) (movedNumber t x' y') (ai c):=by refine ab.bind (ab.cF (aD t)) λH d E p w=>?_;subst w;have h:=h.mono p;have k:=k.mono p;refine ab.ite (λ_ _ _ _=>rfl) λ_=>?_;cases h with|ptr u=>refine ab.bind (ab.behindNumber u) λI a i q A=>?_;obtain⟨j,o⟩:=A;obtain⟨a,l⟩:=a;subst o;refine ab.bind (ab.unsafeAdd g (.ptr j) (k.mono q)) λJ z K F B=>?_;(cases B with|ptr v=>exact ab.asNumber v _|ga=>exact ab.pure .ga|bool b=>exact ab.pure (.bool b)|int k n=>exact ab.pure (.int k n)|string s=>exact ab.pure (.string s)|fO n m=>exact ab.pure (.fO n m)|slice n m a=>exact ab.pure (.slice n m a)|cx a i=>exact ab.pure (.cx a i)|kC=>exact ab.pure .kC|map a=>exact ab.pure (.map a)|func a b d e f=>exact ab.pure (.func a b d e f)|nilFunc=>exact ab.pure .nilFunc|nilIface=>exact ab.pure .nilIface|iface t a=>exact ab.pure (.iface t a)|agg a b=>exact ab.pure (.agg a b)|tuple a b=>exact ab.pure (.tuple a b))|ga=>exact ab.unsafeAdd g .ga k|bool b=>exact ab.unsafeAdd g (.bool b) k|int C n=>exact ab.unsafeAdd g (.int C n) k|string s=>exact ab.unsafeAdd g (.string s) k|fO n m=>exact ab.unsafeAdd g (.fO n m) k|slice n m a=>exact ab.unsafeAdd g (.slice n m a) k|cx a i=>exact ab.unsafeAdd g (.cx a i) k|kC=>exact ab.unsafeAdd g .kC k|map a=>exact ab.unsafeAdd g (.map a) k|func a b d e f=>exact ab.unsafeAdd g (.func a b d e f) k|nilFunc=>exact ab.unsafeAdd g .nilFunc k|nilIface=>exact ab.unsafeAdd g .nilIface k|iface t a=>exact ab.unsafeAdd g (.iface t a) k|agg a b=>exact ab.unsafeAdd g (.agg a b) k|tuple a b=>exact ab.unsafeAdd g (.tuple a b) k
theorem ab.movedPointer(g:Fits P c)(h:ai c r x x')(k:ai c r y y'):ab P c r (movedPointer t x y) (movedPointer t x' y') (ai c):=by unfold Go.movedPointer;cases h with|ptr j=>refine ab.bind (ab.numberAt j.1) λv s q i o=>?_;(match s,q,o with|none,Vo,_=>exact ab.unsafeAdd (t:=t) g (.ptr (j.mono i)) (k.mono i)|some _,Vg _,_=>exactλ_ _ _=>rfl)|ga=>exact ab.unsafeAdd g .ga k|bool b=>exact ab.unsafeAdd g (.bool b) k|int p n=>exact ab.unsafeAdd g (.int p n) k|string s=>exact ab.unsafeAdd g (.string s) k|fO n m=>exact ab.unsafeAdd g (.fO n m) k|slice n m a=>exact ab.unsafeAdd g (.slice n m a) k|cx a l=>exact ab.unsafeAdd g (.cx a l) k|kC=>exact ab.unsafeAdd g .kC k|map a=>exact ab.unsafeAdd g (.map a) k|func a b d e f=>exact ab.unsafeAdd g (.func a b d e f) k|nilFunc=>exact ab.unsafeAdd g .nilFunc k|nilIface=>exact ab.unsafeAdd g .nilIface k|iface t a=>exact ab.unsafeAdd g (.iface t a) k|agg a b=>exact ab.unsafeAdd g (.agg a b) k|tuple a b=>exact ab.unsafeAdd g (.tuple a b) k
theorem ab.known{x:VL α}{y:VL β}{Q:bu->α->β->Prop}(h:(∀(i k:Nat),r i=Vg k->i<c.aJ->i=k)->(∀(i j k:Nat),r i=Vg k->r j=Vg k->i=j\/(c.seen i/\c.seen j))->ab P c r x y Q):ab P c r x y Q:=λw v a=>h a.aJ a.inj w v a
theorem tS{b:V0}(d:dr c r a a')(f:dr c r b b')(e:a.block=b.block):a'.block=b'.block:=by have h:=f.1;rw[<-e,d.1]at h;simp_all
theorem uy(d:∀(i k:Nat),r i=Vg k->i<c.aJ->i=k)(b:dr c r a a')(h:a.block<c.aJ):a'.block<c.aJ:=by have:=d _ _ b.1 h;omega
theorem ab.twoPlaces{b:V0}(k:Fits P c)(f:dr c r a a')(j:dr c r b b'):ab P c r (Op.twoPlaces a b) (Op.twoPlaces a' b') λ_ x y=>y=x:=by refine ab.known λu A=>?_;refine ab.bind (ab.eW bL) λB p h i t=>?_;obtain⟨rfl,rfl⟩:=t;by_cases d:a.block=b.block;(case neg=>have m:=bne_iff_ne.2 d;rw[m];exactλ_ _ _=>rfl);(have n:(a'.block !=b'.block)=(a.block !=b.block):=by simp[d,tS f j d]);by_cases e:a.block<c.aJ;(case neg=>(have q:decide (a.block>=h.globals.size)=Vk:=by rw[decide_eq_true_eq,<-k.aJ];omega);rw[q,T1];exactλ_ _ _=>rfl);(have o:decide (a'.block>=h.globals.size)=decide (a.block>=h.globals.size):=by rw[decide_eq_decide,<-k.aJ];have:=uy u f e;omega);rw[n,o];refine ab.ite (λ_ _ _ _=>rfl) λ_=>?_;exact ab.bind (ab.byteOf (f.mono i) (.inr e)) λC x E s v=>ab.bind (ab.byteOf ((j.mono i).mono s) (.inr (d▸e))) λD y F z w=>ab.pure (by rw[v,w])
theorem ab.addrMod(h:Fits P c){k:Vy}(f:dr c r a a'):ab P c r (Op.addrMod k a n) (Op.addrMod k a' n) (ai c):=by refine ab.bind (ab.shape f.1) λt s y d m=>?_;cases m with|none=>exact ab.unsupported|bad x b d=>refine ab.never (gk λw=>?_);(have e:∃s,(typeInfo vM).run P w=.halt (.stuck s) w:=by unfold typeInfo;rw[VL.run_bind];simp only[program,VL.run,VZ.andThen,h.bad];simp);obtain⟨s,e⟩:=e;exact⟨_,w,e,rfl⟩|some x l b=>refine ab.bind (ab.cF (dv _)) λu i q g j=>?_;subst j;refine ab.ite (λ_ _ _ _=>rfl) λ_=>?_;exact ab.bind (ab.byteOf ((f.mono d).mono g) (.inl b)) λv z A p o=>by subst o;exact ab.pure (.int _ _)
theorem ab.addrCmp{b:V0}(f:Fits P c)(d:dr c r a a')(e:dr c r b b'):ab P c r (Op.addrCmp op a b) (Op.addrCmp op a' b') (ai c):=by refine ab.bind (ab.twoPlaces f d e) λj s h i g=>?_;subst g;cases op<;>first|exact ab.pure (.bool _)|exact ab.unsupported
theorem ab.addrSub{k:Vy}{b:V0}(f:Fits P c)(d:dr c r a a')(e:dr c r b b'):ab P c r (Op.addrSub k a b) (Op.addrSub k a' b') (ai c):=by refine ab.bind (ab.twoPlaces f d e) λi s j h g=>?_;subst g;exact ab.pure (.int _ _)
def Lk(P:VD)(t:Vz):Bool:=match(P.info? t).map (λi:TypeInfo=>i.desc)with|some (.named "sync.copyChecker" _)=>UW|_=>Vk
def fa(P:VD)(t:Vz):Bool:=match P.underlying t with|some (.int _)=>Lk P t|some .string|some .bool=>Vk|_=>UW
theorem yG{q:α->Prop}{x:VL α}{f:α->VL β}(g:bN P q x)(h:∀a,q a->kO P (f a)):kO P (x>>=f):=by intro w;rw[VL.run_bind];rcases g.run w w rfl rfl with⟨a,d,e,b,_⟩|⟨k,j,b,i⟩;{rw[b];exact h a e _};simp_all
theorem ab.equal(H:Fits P c)(j:fa P t=Vk)(h:ai c r x x')(k:ai c r y y'):ab P c r (Op.equal t x y) (Op.equal t x' y') λ_ a b=>b=a:=by show ab P c r (Op.equalIn (9999+1) t x y) (Op.equalIn (9999+1) t x' y') _;generalize(9999:Nat)=d;unfold Op.equalIn;refine ab.bind (ab.eW (x:=underlying t) (q:=λd=>P.underlying t=Vg d) ?_) λr1 z J s m=>?_;{refine bN.bind bL λp v=>?_;subst v;cases h:p.underlying t with|none=>exact rfl|some i=>exact rfl};obtain⟨rfl,m⟩:=m;have h:=h.mono s;have k:=k.mono s;unfold fa at j;rw[m]at j;cases J with|bool=>(cases h<;>cases k<;>first|exact ab.stuck|exact ab.pure rfl)|string=>(cases h<;>cases k<;>first|exact ab.stuck|exact ab.pure rfl)|int q=>(cases h with|int S w=>(cases k with|int I o=>exact ab.ite (λ_=>ab.pure rfl) λ_=>ab.stuck|ptr G=>(match w with|.ofNat 0=>exact ab.pure rfl|.ofNat (_+1)=>exact ab.unsupported|.negSucc _=>exact ab.unsupported)|_=>first|exact ab.stuck|exact ab.unsupported)|ptr N=>(cases k with|int I o=>(match o with|.ofNat 0=>exact ab.pure rfl|.ofNat (_+1)=>exact ab.unsupported|.negSucc _=>exact ab.unsupported)|ptr G=>refine ab.bind (ab.behindNumber N) λr2 x x' C g=>ab.bind (ab.behindNumber (G.mono C)) λr3 y y' D l=>?_;refine ab.known λR n=>?_;have g:=g.1.mono D;have l:=l.1;refine ab.bind (ab.eW bL) λr4 p B E v=>?_;obtain⟨rfl,rfl⟩:=v;by_cases f:x.1.block=y.1.block;(case neg=>have w:(x.1.block==y.1.block)=UW:=beq_eq_false_iff_ne.2 f;(have o:(x.1==y.1)=UW:=by grind);simp only[w,o,UB,Te,if_false];refine ab.never (dC (dv t).yC λi=>?_);split<;>exact eK);have O:=tS g l f;(have K:(x'.1.block==y'.1.block)=(x.1.block==y.1.block):=by simp_all);by_cases e:x.1.block<c.aJ;(case neg=>(have T:decide (x.1.block<B.globals.size)=UW:=by rw[decide_eq_false_iff_not,<-H.aJ];exact e);simp only[T,Bool.and_false,Te,if_false];refine ab.never (yG (jx t) λi n=>?_);unfold Lk at j;rw[n]at j;split;{simp_all};exact eK);(have L:decide (x'.1.block<B.globals.size)=decide (x.1.block<B.globals.size):=by rw[decide_eq_decide,<-H.aJ];exact⟨λ_=>e,λ_=>uy R g e⟩);(have M:(x'.1==y'.1)=(x.1==y.1):=by obtain⟨⟨xb,xo,xs⟩,_⟩:=x;obtain⟨⟨V,W,X⟩,_⟩:=x';obtain⟨⟨yb,yo,ys⟩,_⟩:=y;obtain⟨⟨Y,Z,ys'⟩,_⟩:=y';obtain⟨s,C,D,-⟩:=g;obtain⟨S,I,k3,-⟩:=l;grind);simp only[K,L,M];refine ab.ite (λe=>?_) λ_=>?_;{(have e:x.1.block<c.aJ:=by assumption);exact ab.bind (ab.byteOf (g.mono E) (.inr e)) λU u u' F Q=>ab.bind (ab.byteOf ((l.mono E).mono F) (.inr (f▸e))) λr6 z J h6 m=>ab.pure (by rw[Q,m])};refine ab.bind (ab.cF (dv t)) λU i i' F n=>?_;subst n;refine(ab.cF ?_);(split<;>first|exact rfl|(split<;>first|trivial|exact rfl))|_=>exact ab.unsupported)|ga=>cases k<;>exact ab.unsupported|_=>cases k<;>first|exact ab.stuck|exact ab.unsupported)|_=>simp at j
theorem ab.eqGuard{o2:VK}(b:∀z,x≠.agg z)(a:x≠.nilIface)(h:ai c r x x'):ab P c r (eqGuard op t o1 o2 x y) (eqGuard op t o1 o2 x' y') λ_ _ _=>True:=by refine ab.ite (λ_=>ab.pure trivial) λ_=>?_;cases h<;>first|exact absurd rfl a|exact absurd rfl (b _)|exact ab.pure trivial
theorem jP{d:TypeDesc}(h:P.underlying t=Vg d)(w:Vl):(underlying t).run P w=.ok d w:=by unfold underlying;simp_all
theorem xN(a:fa P t=Vk)(e:(∃z,x=.agg z)\/x=.nilIface):kO P (Op.equal t x y):=by intro w;show∃k f,(Op.equalIn (9999+1) t x y).run P w=.halt k f/\_;unfold Op.equalIn;unfold fa at a;cases b:P.underlying t with|none=>simp_all|some z=>rw[b]at a;rw[VL.run_bind,jP b];rcases e with⟨q,rfl⟩|rfl<;>cases z<;>first|(simp at a;done)|exact⟨_,_,rfl,rfl⟩|(cases y<;>exact⟨_,_,rfl,rfl⟩)
end
def zF:Vm->Bool
 |.int ..|.string ..|.pointer ..|.float ..|.complex ..=>UW
 |_=>Vk
set_option maxHeartbeats 4000000 in theorem yx(a:BinOp)(t:Vz)(x y:Vm)(b:¬(a=.eql\/a=.neq))(c:zF x=Vk):∃h:Halt,binOp a t x y=.halt h/\AB h=Vk:=by(cases a<;>first|exact absurd (.inl rfl) b|exact absurd (.inr rfl) b|skip);all_goals(cases x<;>first|(simp[zF]at c;done)|skip);all_goals(cases y<;>exact⟨_,rfl,rfl⟩)
section
variable{c:dw}{r:bu}
theorem po(a:fa P t=Vk)(n:Nat):P.eqGuardType (n+1) t=UW:=by unfold fa at a;unfold VD.eqGuardType;grind
theorem wP{o2:VK}(l:fa P t=Vk)(m:(∃z,x=.agg z)\/x=.nilIface):fT P (eqGuard op t o1 o2 x y):=by
 have a:∀n:Nat,fT P (Op.eqGuardIn (n+1) t .nilIface .nilIface):=λn=>by
  unfold Op.eqGuardIn
  exact fT.bind (aD t).yC λd=>by cases d<;>exact dz _
 have g:fT P (match x,y with
  |.nilIface,.nilIface=>(do
    if(o1 matches .const _)||(o2 matches .const _)then return
    if<-Op.eqGuardIn Op.maxDepth t x y then unsupported (.noEntry "binop/eql: two nil values of an interface type with methods, neither of them the literal nil"):VL Unit)
  |.agg _,.agg _=>(do
    if !(<-program).eqGuardType (<-program).depth t then return
    if<-Op.eqGuardIn Op.maxDepth t x y then unsupported (.noEntry "binop/eql: two nil values of an interface type with methods, in a part of a struct or an array"):VL Unit)
  |_,_=>pure ()):=by
  rcases m with⟨z,rfl⟩|rfl
  ·cases y with
    |agg u=>
      refine bN.yC (q:=λ_=>True) (bN.bind bL λp k=>bN.bind bL λj f=>?_)
      subst k f
      rw[show j.eqGuardType j.depth t=UW from po l _]
      exact trivial
    |_=>exact dz _
  ·cases y with
    |nilIface=>
      by_cases i:((match o1 with|.const _=>Vk|_=>UW)||(match o2 with|.const _=>Vk|_=>UW))=Vk
      ·simp only[i,if_true];exact dz _
      · simp only[i,if_false,Te]
        exact fT.bind (a 9999) λb=>by
         cases b
         ·exact dz _
         ·exactλw h o e=>by cases e;rfl
    |_=>exact dz _
 cases op<;>first|exact g|exact dz _
set_option maxHeartbeats 1000000 in theorem DK{o2:VK}(hc:Fits P c)(ht:(op=.eql\/op=.neq)->fa P t=Vk)(h:ai c r x x')(k:ai c r y y'):ab P c r (do eqGuard op t o1 o2 x y;binOp op t x y) (do eqGuard op t o1 o2 x' y';binOp op t x' y') (ai c):=by by_cases he:op=.eql\/op=.neq;{have ht:=ht he;by_cases hx:(∃z,x=.agg z)\/x=.nilIface;{refine ab.never (dC (wP ht hx) λ_=>?_);have:∀f:Bool->VL Vm,kO P (Op.equal t x y>>=f):=λf=>gk (xN (P:=P) (y:=y) ht hx);rcases hx with⟨z,rfl⟩|rfl<;>rcases he with rfl|rfl<;>(cases y<;>exact this _)};(have heq:∀{r:bu},ai c r x x'->ai c r y y'->ab P c r (binOp op t x y) (binOp op t x' y') (ai c):=by intro r h k;have key:=ab.equal hc ht h k;cases h with|int k1 n1=>(cases k with|int k2 n2=>exact ab.flat (lN _ _ _ _ _ _)|_=>rcases he with rfl|rfl<;>exact ab.bind key λ_ _ _ _ e=>by subst e;exact ab.pure (.bool _))|string s1=>(cases k with|string s2=>exact ab.flat (jS _ _ _ _)|_=>rcases he with rfl|rfl<;>exact ab.bind key λ_ _ _ _ e=>by subst e;exact ab.pure (.bool _))|_=>rcases he with rfl|rfl<;>exact ab.bind key λ_ _ _ _ e=>by subst e;exact ab.pure (.bool _));exact ab.bind (ab.eqGuard (λz e=>hx (.inl ⟨z,e⟩)) (λe=>hx (.inr e)) h) λr1 _ _ h1 _=>heq (h.mono h1) (k.mono h1)};(have e0:∀x y:Vm,(do eqGuard op t o1 o2 x y;binOp op t x y)=binOp op t x y:=by intro x y;cases op<;>first|rfl|exact absurd (.inl rfl) he|exact absurd (.inr rfl) he);rw[e0,e0];clear e0;by_cases hx:zF x=Vk;{obtain⟨h',e,hh⟩:=yx op t x y he hx;rw[e];exact ab.halt hh};cases h with|int k1 n1=>(cases k with|int k2 n2=>exact ab.flat (lN _ _ _ _ _ _)|ptr hb=>(cases op<;>first|exact ab.unsupported|exact absurd (.inl rfl) he|exact absurd (.inr rfl) he|exact ab.movedNumber hc (.ptr hb) (.int _ _)|exact ab.bind (ab.behindNumber hb) λr1 z z' h1 hz=>ab.addrMod hc hz.1)|ga=>(cases op<;>first|exact ab.unsupported|exact absurd (.inl rfl) he|exact absurd (.inr rfl) he|exact ab.movedNumber hc .ga (.int _ _))|_=>cases op<;>first|exact ab.stuck|exact absurd (.inl rfl) he|exact absurd (.inr rfl) he)|string s1=>(cases k with|string s2=>exact ab.flat (jS _ _ _ _)|_=>cases op<;>first|exact ab.stuck|exact ab.unsupported|exact absurd (.inl rfl) he|exact absurd (.inr rfl) he)|ptr ha=>(cases k with|int k2 n2=>(cases op<;>first|exact ab.unsupported|exact absurd (.inl rfl) he|exact absurd (.inr rfl) he|exact ab.movedNumber hc (.ptr ha) (.int _ _)|exact ab.bind (ab.behindNumber ha) λr1 z z' h1 hz=>ab.addrMod hc hz.1|(refine ab.bind (ab.cF (aD t)) λr1 d d' h1 hd=>?_;subst hd;exact ab.ite (λ_=>ab.movedPointer hc (.ptr (ha.mono h1)) (.int _ _)) λ_=>ab.movedNumber hc (.ptr (ha.mono h1)) (.int _ _)))|ptr hb=>(cases op<;>first|exact ab.unsupported|exact absurd (.inl rfl) he|exact absurd (.inr rfl) he|exact ab.bind (ab.behindNumber ha) λr1 z z' h1 hz=>ab.bind (ab.behindNumber (hb.mono h1)) λr2 u u' h2 hu=>ab.addrSub hc (hz.1.mono h2) hu.1|exact ab.bind (ab.behindNumber ha) λr1 z z' h1 hz=>ab.bind (ab.behindNumber (hb.mono h1)) λr2 u u' h2 hu=>ab.addrCmp hc (hz.1.mono h2) hu.1)|_=>cases op<;>first|exact ab.stuck|exact ab.unsupported|exact absurd (.inl rfl) he|exact absurd (.inr rfl) he)|ga=>(cases k with|int k2 n2=>(cases op<;>first|exact ab.unsupported|exact absurd (.inl rfl) he|exact absurd (.inr rfl) he|exact ab.movedNumber hc .ga (.int _ _)|(refine ab.bind (ab.cF (aD t)) λr1 d d' h1 hd=>?_;subst hd;exact ab.ite (λ_=>ab.movedPointer hc .ga (.int _ _)) λ_=>ab.movedNumber hc .ga (.int _ _)))|_=>cases op<;>first|exact ab.stuck|exact ab.unsupported|exact absurd (.inl rfl) he|exact absurd (.inr rfl) he)|_=>exact absurd rfl hx
end
section
variable{c:dw}{r:bu}
theorem aW(t:Vz):bN P (λd=>P.underlying t=Vg d) (underlying t):=by refine bN.bind bL λp a=>?_;subst a;cases h:p.underlying t with|none=>exact rfl|some i=>exact rfl
theorem vX(t:Vz):bN P (λn=>P.cellsOf t=n) (sizeOf t):=by refine bN.bind (jx t) λi a=>?_;show P.cellsOf t=i.size;unfold VD.cellsOf;grind
theorem Av(t:Vz)(h:ai c r x x'):ab P c r (Instr.loadAt t x) (Instr.loadAt t x') (ai c):=ab.bind (ab.sureAddr h) λ_ _ _ _ b=>ab.loadVar t b
theorem xp(t:Vz)(h:ai c r x x')(k:ai c r y y'):ab P c r (Instr.storeAt t x y) (Instr.storeAt t x' y') λ_ _ _=>True:=ab.bind (ab.sureAddr h) λ_ _ _ b d=>ab.storeVar t d (k.mono b)
theorem De{op:UnOp}(h:ai c r x x'):ab P c r (Op.unary op x) (Op.unary op x') (ai c):=by cases h with|bool b=>(cases op<;>first|exact ab.pure (.bool _)|exact ab.stuck)|int k n=>(cases op with|neg=>exact ab.flat (nh .sub k 0 n)|xor=>exact ab.flat (od .xor k (if k.signed then-1 else k.max) n)|_=>exact ab.stuck)|ptr a=>(cases op<;>first|exact ab.unsupported|exact ab.stuck)|_=>cases op<;>exact ab.stuck
theorem xU(n:Nat)(h:ai c r x x'):ab P c r (Instr.extract x n) (Instr.extract x' n) (ai c):=by cases h with|tuple s e=>rename_i z f;unfold Instr.extract;(cases b:z[n]? with|none=>simp only[b];exact ab.stuck|some v=>obtain⟨g,d,k⟩:=(aj.mk s e).get b;simp only[b,d];exact ab.pure k)|_=>exact ab.stuck
theorem xC(s:Vz)(n:Nat)(u:∀fs f,P.underlying s=Vg (.struct fs)->fs[n]?=Vg f->P.cellsOf f.type≠0)(h:ai c r x x'):ab P c r (Instr.fieldAt s x n) (Instr.fieldAt s x' n) (ai c):=by refine ab.bind (ab.eW (aW s)) λz d k l e=>?_;obtain⟨rfl,e⟩:=e;cases k with|struct fs=>simp only[];(cases t:fs[n]? with|none=>exact ab.stuck|some f=>refine ab.bind (ab.sureAddr (h.mono l)) λv a j w p=>?_;(have i:ab P c v (fieldPlace a f) (fieldPlace j f) (dr c):=by refine ab.bind (ab.eW (vX f.type)) λA m y o g=>?_;obtain⟨rfl,g⟩:=g;have:=u fs f e t;rw[g]at this;rw[if_neg this,if_neg this];exact ab.pure ((p.mono o).add _));exact ab.bind i λ_ _ _ _ q=>ab.pure (.ptr q))|_=>exact ab.stuck
theorem CO(t:Vz)(n:Nat)(h:ai c r x x'):ab P c r (Instr.field t x n) (Instr.field t x' n) (ai c):=by refine ab.bind (ab.cF (aD t)) λl d b g j=>?_;subst j;cases b with|struct e=>simp only[];(cases k:e[n]? with|none=>exact ab.stuck|some f=>exact ab.bind (ab.asAgg (h.mono g)) λ_ _ _ _ i=>ab.part _ _ i)|_=>exact ab.stuck
theorem Cs(t:Vz)(h:ai c r x x')(k:ai c r y y'):ab P c r (Instr.index t x y) (Instr.index t x' y') (ai c):=by refine ab.bind (ab.asIntOf k) λB z v j q=>?_;subst q;obtain⟨w,i⟩:=v;refine ab.bind (ab.cF (aD t)) λC d g l o=>?_;subst o;have h:=(h.mono j).mono l;cases h with|agg s e=>(cases g with|array u f=>refine ab.ite (λ_=>?_) λ_=>ab.boundsPanic;exact ab.bind (ab.cF (br f)) λD m A n p=>by subst p;exact ab.part _ _ ((aj.mk s e).mono n)|_=>exact ab.stuck)|string s=>(cases g with|string=>simp only[];(cases(if 0<=i then s[i.toNat]? else Vo)with|none=>exact ab.boundsPanic|some b=>exact ab.pure (.int _ _))|_=>exact ab.stuck)|_=>cases g<;>exact ab.stuck
theorem xO(t:Vz)(h:ai c r x x')(k:ai c r y y'):ab P c r (Instr.indexAt t x y) (Instr.indexAt t x' y') (ai c):=by unfold Instr.indexAt;refine ab.bind (ab.asIntOf k) λY z V N T=>?_;subst T;obtain⟨X,i⟩:=V;refine ab.bind (ab.cF (aD t)) λZ d M O R=>?_;subst R;have h:=(h.mono N).mono O;let F(U:bu)(a b:Option V0×Nat×Vz):Prop:=ai c U (.pointer a.1) (.pointer b.1)/\b.2=a.2;cases M with|array B f=>refine ab.bind (ab.sureAddr h) λr3 a I W v=>ab.bind (Q:=F) (ab.pure ⟨.ptr v,rfl⟩) λC a b s q=>?_;obtain⟨w,B,f⟩:=a;obtain⟨o,l⟩:=b;obtain⟨g,e⟩:=q;simp only at e g;subst e;refine ab.bind (ab.cF (x:=underlying t) (aD t)) λC u H s A=>?_;subst A;have g:=g.mono s;(cases g with|ga=>exact ab.boundsPanic|ptr v=>refine ab.ite (λ_=>?_) λ_=>?_;{exact ab.bind (ab.cF (br f)) λL m J D E=>by subst E;exact ab.pure (.ptr ((v.mono D).add _))};exact ab.ite (λ_ _ _ _=>rfl) λ_=>ab.boundsPanic)|slice f=>(cases h with|fO n m=>refine ab.bind (Q:=F) (ab.pure ⟨.ga,rfl⟩) λC a b s q=>?_;obtain⟨w,B,f⟩:=a;obtain⟨o,l⟩:=b;obtain⟨g,e⟩:=q;simp only at e g;subst e;refine ab.bind (ab.cF (x:=underlying t) (aD t)) λC u H s A=>?_;subst A;have g:=g.mono s;(cases g with|ga=>exact ab.boundsPanic|ptr v=>refine ab.ite (λ_=>?_) λ_=>?_;{exact ab.bind (ab.cF (br f)) λL m J D E=>by subst E;exact ab.pure (.ptr ((v.mono D).add _))};exact ab.ite (λ_ _ _ _=>rfl) λ_=>ab.boundsPanic)|slice n m v=>refine ab.bind (Q:=F) (ab.pure ⟨.ptr v,rfl⟩) λC a b s q=>?_;obtain⟨w,B,f⟩:=a;obtain⟨o,l⟩:=b;obtain⟨g,e⟩:=q;simp only at e g;subst e;refine ab.bind (ab.cF (x:=underlying t) (aD t)) λC u H s A=>?_;subst A;have g:=g.mono s;(cases g with|ga=>exact ab.boundsPanic|ptr v=>refine ab.ite (λ_=>?_) λ_=>?_;{exact ab.bind (ab.cF (br f)) λL m J D E=>by subst E;exact ab.pure (.ptr ((v.mono D).add _))};exact ab.ite (λ_ _ _ _=>rfl) λ_=>ab.boundsPanic)|cx a I=>refine ab.bind (Q:=λ_ p K=>p=(Vg a,0,f)/\K=(Vg I,0,f)) (ab.pure ⟨rfl,rfl⟩) λC p K s S=>?_;obtain⟨rfl,rfl⟩:=S;refine ab.bind (ab.cF (x:=underlying t) (aD t)) λC u H s A=>?_;subst A;refine ab.ite (λG=>?_) λ_=>ab.ite (λ_ _ _ _=>rfl) λ_=>ab.boundsPanic;simp at G;omega|_=>exactλ_ _ _=>rfl)|_=>cases h<;>exactλ_ _ _=>rfl
theorem vj{fn:Fn}(b:Gx c fn=Vk){x x' y y':Array Vm}(h:aj c r x x')(k:aj c r y y'):ab P c r (Instr.makeFunc fn x y) (Instr.makeFunc fn x' y') (ai c):=ab.pure (.func b h.size h.el k.size k.el)
theorem ab.sliceBound(y:Nat)(e:BoundsCode)(h:ai c r x x'):ab P c r (Instr.sliceBound x y e) (Instr.sliceBound x' y e) λ_ a b=>b=a/\a<=y:=by refine ab.bind (ab.asIntOf h) λj z k g f=>?_;subst f;exact ab.ite (λi=>ab.pure ⟨rfl,by omega⟩) λ_=>ab.boundsPanic
def j1(c:dw)(r:bu):Option Vm->Option Vm->Prop
 |none,Vo=>True
 |some x,Vg y=>ai c r x y
 |_,_=>False
theorem j1.mono{r r':bu}(h:r.le r'):∀{x y:Option Vm},j1 c r x y->j1 c r' x y|none,Vo,_=>trivial|some _,Vg _,k=>ai.mono h k
theorem ab.sliceBounds(f:Bool)(k j:Nat){mx:Option Vm}(i:j1 c r lo lo')(m:j1 c r hi hi')(s:j1 c r mx mx'):ab P c r (Instr.sliceBounds f k j lo hi mx) (Instr.sliceBounds f k j lo' hi' mx') λ_ a b=>b=a/\(k=0->j=0->a=(0,0,0)):=by match mx,mx',s with|none,Vo,_=>refine ab.bind (Q:=λ_ a b=>b=a/\a<=_) (ab.pure ⟨rfl,SR _⟩) λy z h l e=>?_;obtain⟨rfl,x⟩:=e;(match hi,hi',m with|none,Vo,_=>refine ab.bind (Q:=λ_ a b=>b=a/\a<=_) (ab.pure ⟨rfl,SR _⟩) λv z h o e=>?_;obtain⟨rfl,u⟩:=e;(match lo,lo',i with|none,Vo,_=>refine ab.bind (Q:=λ_ a b=>b=a/\a<=_) (ab.pure ⟨rfl,SR _⟩) λq z h p e=>?_;obtain⟨rfl,n⟩:=e;exact ab.pure ⟨rfl,λa b=>by simp_all⟩|some a,Vg t,i=>refine ab.bind (ab.sliceBound _ _ (ai.mono o (ai.mono l i))) λq z h p e=>?_;obtain⟨rfl,n⟩:=e;exact ab.pure ⟨rfl,λa b=>by simp_all⟩)|some b,Vg w,m=>refine ab.bind (ab.sliceBound _ _ (ai.mono l m)) λv z h o e=>?_;obtain⟨rfl,u⟩:=e;match lo,lo',i with|none,Vo,_=>refine ab.bind (Q:=λ_ a b=>b=a/\a<=_) (ab.pure ⟨rfl,SR _⟩) λq z h p e=>?_;obtain⟨rfl,n⟩:=e;exact ab.pure ⟨rfl,λa b=>by simp_all⟩|some a,Vg t,i=>refine ab.bind (ab.sliceBound _ _ (ai.mono o (ai.mono l i))) λq z h p e=>?_;obtain⟨rfl,n⟩:=e;exact ab.pure ⟨rfl,λa b=>by simp_all⟩)|some d,Vg A,s=>refine ab.bind (ab.sliceBound _ _ s) λy z h l e=>?_;obtain⟨rfl,x⟩:=e;match hi,hi',m with|none,Vo,_=>exactλ_ _ _=>rfl|some b,Vg w,m=>refine ab.bind (ab.sliceBound _ _ (ai.mono l m)) λv z h o e=>?_;obtain⟨rfl,u⟩:=e;match lo,lo',i with|none,Vo,_=>refine ab.bind (Q:=λ_ a b=>b=a/\a<=_) (ab.pure ⟨rfl,SR _⟩) λq z h p e=>?_;obtain⟨rfl,n⟩:=e;exact ab.pure ⟨rfl,λa b=>by simp_all⟩|some a,Vg t,i=>refine ab.bind (ab.sliceBound _ _ (ai.mono o (ai.mono l i))) λq z h p e=>?_;obtain⟨rfl,n⟩:=e;exact ab.pure ⟨rfl,λa b=>by simp_all⟩
theorem DO(t:Vz){mx:Option Vm}(h:ai c r x x')(k:j1 c r lo lo')(o:j1 c r hi hi')(p:j1 c r mx mx'):ab P c r (Instr.slice t x lo hi mx) (Instr.slice t x' lo' hi' mx') (ai c):=by unfold Instr.slice;refine ab.bind (ab.cF (aD t)) λK d y v A=>?_;subst A;have h:=h.mono v;have k:=k.mono v;have o:=o.mono v;have p:=p.mono v;(have J:mx'.isSome=mx.isSome:=by match mx,mx',p with|none,Vo,_=>rfl|some _,Vg _,_=>rfl);cases y with|string=>(cases h with|string s=>simp only[J];refine ab.ite (λ_ _ _ _=>rfl) λ_=>?_;exact ab.bind (ab.sliceBounds _ _ _ k o (show j1 c K Vo Vo from trivial)) λ_ _ _ _ e=>by obtain⟨rfl,_⟩:=e;exact ab.pure (.string _)|_=>exact ab.stuck)|slice b=>(cases h with|fO n m=>refine ab.bind (ab.sliceBounds _ _ _ k o p) λC z u j e=>?_;obtain⟨rfl,_⟩:=e;refine ab.bind (ab.cF (br b)) λD q B i e=>?_;subst e;refine ab.pure ?_;split<;>exact .fO _ _|slice n m g=>refine ab.bind (ab.sliceBounds _ _ _ k o p) λC z u j e=>?_;obtain⟨rfl,_⟩:=e;refine ab.bind (ab.cF (br b)) λD q B i e=>?_;subst e;refine ab.pure ?_;have g:=(g.mono j).mono i;split;{exact .slice _ _ g};exact .slice _ _ (g.add _)|cx a G=>refine ab.bind (ab.sliceBounds _ _ _ k o p) λC z u j e=>?_;obtain⟨rfl,e⟩:=e;obtain rfl:=e rfl rfl;refine ab.bind (ab.cF (br b)) λD q B i e=>?_;subst e;refine ab.pure ?_;split<;>exact .cx _ _|_=>exact ab.stuck)|pointer w=>refine ab.bind (ab.asAddr h) λC a G j g=>?_;refine ab.bind (ab.cF (aD w)) λD d y i A=>?_;subst A;(cases y with|array n b=>refine ab.bind (ab.sliceBounds _ _ _ ((k.mono j).mono i) ((o.mono j).mono i) ((p.mono j).mono i)) λL z u H e=>?_;obtain⟨rfl,_⟩:=e;refine ab.bind (ab.cF (br b)) λM q B I e=>?_;obtain⟨rfl,_⟩:=e;refine ab.pure ?_;have g:=((g.mono i).mono H).mono I;split;{exact .slice _ _ g};exact .slice _ _ (g.add _)|_=>exact ab.stuck)|_=>cases h<;>exact ab.stuck
theorem yV(t:Vz){mx:Option Vm}(h:ai c r x x')(m:j1 c r lo lo')(o:j1 c r hi hi')(p:j1 c r mx mx'):ab P c r (Instr.sliceAt t x lo hi mx) (Instr.sliceAt t x' lo' hi' mx') (ai c):=by refine ab.bind (ab.cF (aD t)) λE d s f w=>?_;subst w;have k:=DO (P:=P) t (h.mono f) (m.mono f) (o.mono f) (p.mono f);cases s with|array n g=>refine ab.bind (ab.sureAddr (h.mono f)) λF a A j i=>?_;refine ab.bind (ab.sliceBounds _ _ _ ((m.mono f).mono j) ((o.mono f).mono j) ((p.mono f).mono j)) λG z y u e=>?_;obtain⟨rfl,_⟩:=e;refine ab.bind (ab.cF (br g)) λH q D v e=>?_;subst e;refine ab.pure ?_;have i:=(i.mono u).mono v;split;{exact .slice _ _ i};exact .slice _ _ (i.add _)|_=>exact k
end
section
variable{c:dw}{r:bu}
def js(P:VD)(t:Vz):Bool:=match(P.info? t).bind (·.zero)with|some z=>jG 100 z|none=>Vk
theorem ui(h:js P t=Vk):∀z,(P.info? t).bind (·.zero)=Vg z->Flat z:=λz a=>by unfold js at h;rw[a]at h;exact il h
theorem Flat.vs(h:Flat z)(c:dw)(r:bu):aj c r z.cells z.cells:=aj.cells (h c r)
theorem ab.zero(h:js P t=Vk):ab P c r (zeroValue t) (zeroValue t) λ_ a b=>b=a/\Flat a:=ab.eW (sD t (ui h))
theorem AW(h:js P t=Vk):ab P c r (Instr.alloc t Vk (.tuple #[])) (Instr.alloc t Vk (.tuple #[])) (ai c):=Ci t (ui h)
structure zA(c:dw)(r:bu)(x x':Array (Nat×Vm)):Prop where
 idx:x.toList.map (·.1)=x'.toList.map (·.1)
 val:aj c r (x.toList.map (·.2)).toArray (x'.toList.map (·.2)).toArray
theorem zA.mono{r r':bu}(h:r.le r'){x x':Array (Nat×Vm)}(k:zA c r x x'):zA c r' x x':=⟨k.idx,k.val.mono h⟩
theorem lz(a:Nat->Option (Nat×Nat)){x x':Array (Nat×Vm)}(h:zA c r x x'){z z':Array Vm}(e:aj c r z z'):Instr.fill a z x.toList=Option.none\/∃y d,Instr.fill a z x.toList=Vg y/\Instr.fill a z' x'.toList=Vg d/\aj c r y d:=by have:=x4 a x.toList x'.toList e h.idx h.val;grind
theorem CY(l:List ε)(f:ε->VL ζ)(h:∀x∈l,k7 P (f x)):k7 P (l.mapM f):=by induction l with|nil=>trivial|cons x l b=>rw[List.mapM_cons];exact(h x Θ).bind λ_=>(b λy a=>h y (by simp[a])).bind λ_=>trivial
theorem zB(l:Array ε)(f:ε->VL ζ)(h:∀x∈l,k7 P (f x)):k7 P (l.mapM f):=by rw[Array.mapM_eq_mapM_toList];exact k7.bind (CY _ _ λx a=>h x (by simp_all)) λ_=>trivial
theorem Dc(B:js P t=Vk){x x':Array (Nat×Vm)}(h:zA c r x x'):ab P c r (Instr.build t x) (Instr.build t x') (ai c):=by unfold Instr.build;refine ab.bind (ab.zero B) λD z F q g=>?_;obtain⟨rfl,g⟩:=g;refine ab.bind (ab.cF (aD t)) λE d v s A=>?_;subst A;cases v with|struct w=>refine ab.bind (ab.cF (zB w _ λf _=>(br f.type).bind λ_=>trivial)) λp u j m o=>?_;subst o;rcases lz (j[·]?) (((h.mono q).mono s).mono m) (g.vs c p)with e|⟨y,C,e,l,k⟩;{simp only[e];exact ab.stuck};simp only[e,l];exact ab.pure (.sI k)|array n b=>refine ab.bind (ab.cF (br b)) λp u j m o=>?_;subst o;rcases lz (λi=>Vg (i*j,j)) (((h.mono q).mono s).mono m) (g.vs c p)with e|⟨y,C,e,l,k⟩;{simp only[e];exact ab.stuck};simp only[e,l];exact ab.pure (.sI k)|_=>exact ab.stuck
theorem aj.range{x x':Array Vm}(h:aj c r x x')(n:Nat):aj c r ((Array.range n).map (x[·%x.size]!)) ((Array.range n).map (x'[·%x'.size]!)):=by refine aj.map _ _ _ λi _=>?_;rw[<-h.size];rw[Vw,Vw];exact h.getD _ (by exact .bool UW)
theorem rB{n:Nat}(E:∀e,P.underlying t=Vg (.slice e)->js P e=Vk){x x':Array (Nat×Vm)}(h:zA c r x x'):ab P c r (Instr.buildSlice t n x) (Instr.buildSlice t n x') (ai c):=by unfold Instr.buildSlice;refine ab.bind (ab.eW (aW t)) λH d B u s=>?_;obtain⟨rfl,s⟩:=s;cases B with|slice l=>refine ab.bind (ab.cF (br l)) λI m j v D=>?_;subst D;refine ab.ite (λ_ _ _ _=>rfl) λ_=>?_;refine ab.ite (λ_=>?_) λ_=>?_;{refine ab.bind (Q:=λ_ a b=>b=a/\∀r,aj c r a a) (ab.pure ⟨rfl,λ_=>.empty⟩) λw z A p g=>?_;obtain⟨rfl,g⟩:=g;rcases lz (λi=>Vg (i*j,j)) (((h.mono u).mono v).mono p) (aj.range (g w) (n*j))with e|⟨y,G,e,o,k⟩;{simp only[e];exact ab.stuck};simp only[e,o];exact ab.bind (ab.newRow k) λ_ _ _ _ q=>ab.pure (.slice _ _ q)};refine ab.bind (ab.zero (E _ s)) λw z A p g=>?_;obtain⟨rfl,g⟩:=g;refine ab.bind (Q:=λ_ a b=>b=a/\∀r,aj c r a a) (ab.pure ⟨rfl,λr=>g.vs c r⟩) λF z A C g=>?_;obtain⟨rfl,g⟩:=g;rcases lz (λi=>Vg (i*j,j)) (((h.mono u).mono v).mono (bu.le_trans p C)) (aj.range (g F) (n*j))with e|⟨y,G,e,o,k⟩;{simp only[e];exact ab.stuck};simp only[e,o];exact ab.bind (ab.newRow k) λ_ _ _ _ q=>ab.pure (.slice _ _ q)|_=>exact ab.stuck
theorem w9:ab P c r (Instr.makeMap t Vo) (Instr.makeMap t Vo) (ai c):=ab.bind (ab.newObj (.map 0 rfl λi e b h=>by simp at h)) λ_ _ _ _ h=>ab.pure (.map h.1)
theorem ab.mU{f:α->VL β}{y:VL γ}{Q:bu->β->γ->Prop}:ab P c r (Go.runtimePanic e>>=f) y Q:=ab.never (gk (dH e))
theorem tK(C:∀e,P.underlying t=Vg (.slice e)->js P e=Vk)(h:ai c r x x')(k:ai c r y y'):ab P c r (Instr.makeSlice t x y) (Instr.makeSlice t x' y') (ai c):=by unfold Instr.makeSlice;refine ab.bind (ab.eW (aW t)) λN d s o m=>?_;obtain⟨rfl,m⟩:=m;cases s with|slice j=>refine ab.bind (ab.asInt (h.mono o)) λO a E u l=>?_;subst l;refine ab.bind (ab.asInt ((k.mono o).mono u)) λR b F G w=>?_;subst w;refine ab.bind (ab.cF (dv j)) λS i L H A=>?_;subst A;simp only[];refine ab.ite (λ_=>?_) λ_=>?_;{refine ab.ite (λ_=>ab.mU) λ_=>?_;refine ab.ite (λ_=>ab.mU) λ_=>?_;exact ab.bind (ab.cF (iz _)) λ_ _ _ _ _=>ab.mU};refine ab.bind (ab.cF (pC _)) λT _ _ I _=>?_;refine ab.bind (ab.cF (br j)) λU n M J B=>?_;subst B;refine ab.ite (λ_=>?_) λ_=>?_;{refine ab.bind (Q:=λ_ a b=>b=a/\∀r,aj c r a a) (ab.pure ⟨rfl,λ_=>.empty⟩) λp z q v g=>?_;obtain⟨rfl,g⟩:=g;exact ab.bind (ab.newRow (aj.range (g p) _)) λ_ _ _ _ l=>ab.pure (.slice _ _ l)};refine ab.bind (ab.zero (C _ m)) λp z q v g=>?_;obtain⟨rfl,g⟩:=g;refine ab.bind (Q:=λ_ a b=>b=a/\∀r,aj c r a a) (ab.pure ⟨rfl,λr=>g.vs c r⟩) λD z q K g=>?_;obtain⟨rfl,g⟩:=g;exact ab.bind (ab.newRow (aj.range (g D) _)) λ_ _ _ _ l=>ab.pure (.slice _ _ l)|_=>exact ab.stuck
end
section
variable{c:dw}{r:bu}
theorem I0(ats:Array Vz)(t:Vz){x x':Array Vm}(h:aj c r x x'):ab P c r (VW.len_ ats t x) (VW.len_ ats t x') (ai c):=by unfold VW.len_;cases ats[0]? with|none=>exact ab.stuck|some s=>cases w:x[0]? with|none=>exact ab.stuck|some v=>obtain⟨D,e,k⟩:=h.get w;simp only[e];refine ab.bind (ab.cF (aD s)) λB d g i j=>?_;subst j;have k:=k.mono i;cases g with|string=>(cases k<;>first|exact ab.pure (.int _ _)|exact ab.stuck)|array n e=>exact ab.pure (.int _ _)|pointer f=>refine ab.bind (ab.cF (aD f)) λC u y z q=>?_;subst q;(cases y<;>first|exact ab.pure (.int _ _)|exact ab.stuck)|slice e=>(cases k<;>first|exact ab.pure (.int _ _)|exact ab.stuck)|map a b=>(cases k with|kC=>exact ab.pure (.int _ _)|map p=>refine ab.getObj p λo A _ m l=>?_;(cases m with|map k s _=>simp only[s];exact ab.pure (.int _ _)|cells _ _ _=>exact absurd rfl (l _ _ _)|_=>exact ab.stuck)|_=>exact ab.stuck)|chan a b=>cases k<;>exact ab.stuck|_=>exact ab.stuck
theorem ab.max2(h:ai c r x x')(k:ai c r y y'):ab P c r (VW.max2 x y) (VW.max2 x' y') (ai c):=by cases h with|int a b=>(cases k<;>first|exact ab.pure (.int _ _)|exact ab.stuck|exact ab.unsupported)|string a=>(cases k with|string b=>refine ab.bind (ab.flat (j8 .geq a b)) λi u l f d=>?_;exact ab.bind (ab.asBool d) λj z m g e=>by subst e;exact ab.pure (.string _)|ptr _=>exact ab.unsupported|_=>exact ab.stuck)|ptr _=>exact ab.unsupported|_=>cases k<;>first|exact ab.stuck|exact ab.unsupported
theorem ab.min2(h:ai c r x x')(k:ai c r y y'):ab P c r (VW.min2 x y) (VW.min2 x' y') (ai c):=by cases h with|int a b=>(cases k<;>first|exact ab.pure (.int _ _)|exact ab.stuck|exact ab.unsupported)|string a=>(cases k with|string b=>refine ab.bind (ab.flat (j8 .leq a b)) λi u l f d=>?_;exact ab.bind (ab.asBool d) λj z m g e=>by subst e;exact ab.pure (.string _)|ptr _=>exact ab.unsupported|_=>exact ab.stuck)|ptr _=>exact ab.unsupported|_=>cases k<;>first|exact ab.stuck|exact ab.unsupported
theorem ab.foldlM{f:Vm->Vm->VL Vm}(g:∀{r:bu}{x x' y y':Vm},ai c r x x'->ai c r y y'->ab P c r (f x y) (f x' y') (ai c)):∀(l e:List Vm){r:bu}{x x':Vm},ai c r x x'->aj c r l.toArray e.toArray->ab P c r (l.foldlM f x) (e.foldlM f x') (ai c)|[],[],r,x,x',h,_=>ab.pure h|[],_::_,r,x,x',h,d=>by have:=d.size;grind|_::_,[],r,x,x',h,d=>by have:=d.size;grind|y::l,y'::e,r,x,x',h,d=>by rw[UR,UR];refine ab.bind (g h (d.el 0 y y' Θ Θ)) λn z o i k=>?_;exact ab.foldlM g l e k ((⟨by have:=d.size;simp_all,λj u m a b=>d.el (j+1) u m (by grind) (by grind)⟩:aj c r l.toArray e.toArray).mono i)
theorem JU(ats:Array Vz)(t:Vz){x x':Array Vm}(h:aj c r x x'):ab P c r (VW.max_ ats t x) (VW.max_ ats t x') (ai c):=by obtain⟨l⟩:=x;obtain⟨d⟩:=x';unfold VW.max_;match l,d,h with|[],[],_=>exact ab.stuck|[],_::_,h=>have:=h.size;grind|_::_,[],h=>have:=h.size;grind|y::l,f::d,h=>exact ab.foldlM ab.max2 l d (h.el 0 y f Θ Θ) ⟨by have:=h.size;simp_all,λj u e a b=>h.el (j+1) u e (by grind) (by grind)⟩
theorem Kv(ats:Array Vz)(t:Vz){x x':Array Vm}(h:aj c r x x'):ab P c r (VW.min_ ats t x) (VW.min_ ats t x') (ai c):=by obtain⟨l⟩:=x;obtain⟨d⟩:=x';unfold VW.min_;match l,d,h with|[],[],_=>exact ab.stuck|[],_::_,h=>have:=h.size;grind|_::_,[],h=>have:=h.size;grind|y::l,f::d,h=>exact ab.foldlM ab.min2 l d (h.el 0 y f Θ Θ) ⟨by have:=h.size;simp_all,λj u e a b=>h.el (j+1) u e (by grind) (by grind)⟩
theorem ab.lenOf(h:ai c r x x'):ab P c r (VW.lenOf x) (VW.lenOf x') λ_ a b=>b=a/\∀q,x=.slice (Vg q) 0 0->a=0:=by cases h<;>first|exact ab.pure ⟨rfl,λq e=>by cases e;rfl⟩|exact ab.pure ⟨rfl,λq e=>by cases e⟩|exact ab.stuck
theorem ab.uS(size:Nat)(h:ai c r x x'):ab P c r (VW.firstCells size 0 x) (VW.firstCells size 0 x') λ_ a b=>a=#[]/\b=#[]:=by unfold VW.firstCells;rw[UY];cases h<;>first|exact ab.pure ⟨rfl,rfl⟩|exact ab.stuck|(refine ab.pure ⟨?_,?_⟩<;>simp)
theorem ab.firstCells(size n:Nat)(h:ai c r x x')(j:∀q,x=.slice (Vg q) 0 0->n=0):ab P c r (VW.firstCells size n x) (VW.firstCells size n x') (aj c):=by cases h with|fO _ _=>exact ab.pure .empty|cx a d=>obtain rfl:=j a rfl;exact(ab.uS size (.cx a d)).mono λ_ x y _⟨e,f⟩=>by rw[e,f];exact .empty|slice _ _ g=>exact ab.loadCells g _|string s=>refine ab.pure ?_;refine⟨rfl,λi v k a b=>?_⟩;rw[a]at b;cases b;rw[TX]at a;obtain⟨z,_,rfl⟩:=SZ.1 a;exact .int _ _|_=>exact ab.stuck
theorem aj.zeroCells(h:Flat z)(n:Nat):aj c r (VW.zeroCells z.cells n) (VW.zeroCells z.cells n):=by unfold VW.zeroCells;exact aj.range (h.vs c r) _
end
section
variable{c:dw}{r:bu}
theorem ab.EM{x:VL α}{f:α->VL β}{y:VL γ}{Q:bu->β->γ->Prop}(h:kO P x):ab P c r (x>>=f) y Q:=ab.never (gk h)
theorem lF(a:V0)(n:Nat):fT P (VW.holdsCells a n):=(A3 _).bind λs=>by cases s<;>exact dz _
theorem tf(size sl n:Nat)(base:Option V0)(x:Vm):fT P (VW.mayShare size sl n base x):=by(have d:∀b:Bool,fT P (if(!b)=Vk then Pure.pure Vk else match x with|.slice (Vg b) _ _=>(do Pure.pure (!(<-VW.holdsCells b (n*size))||base.any (·.block==b.block)))|_=>Pure.pure UW):=λb=>by split;{exact dz _};split;{exact(lF _ _).bind λ_=>dz _};exact dz _);unfold VW.mayShare;cases base with|none=>grind|some a=>exact fT.bind (lF _ _) λu=>fT.bind (yD _) λv=>fT.bind (dz _) λb=>d b
theorem Ai{ats:Array Vz}(ht:∀s e,ats[0]?=Vg s->P.underlying s=Vg (.slice e)->js P e=Vk)(hn:∀s k,ats[1]?=Vg s->P.underlying s≠Vg (.int k)){x x':Array Vm}(h:aj c r x x'):ab P c r (VW.append_ ats t x) (VW.append_ ats t x') (ai c):=by unfold VW.append_;cases hs:ats[0]? with|none=>exact ab.stuck|some s=>cases hx:x[0]? with|none=>exact ab.stuck|some v=>obtain⟨v',X,kv⟩:=h.get hx;simp only[X];cases hy:x[1]? with|none=>exact ab.stuck|some u=>obtain⟨u',W,A⟩:=h.get hy;simp only[W];refine ab.bind (ab.eW (aW s)) λR d M l H=>?_;obtain⟨rfl,H⟩:=H;cases M with|slice f=>have hz:=ht s f hs H;have O:=kv.mono l;have kx:=O;cases O;(case fO|slice|cx=>refine ab.bind (ab.cF (br f)) λr2 T K B e=>?_;subst e;cases Z:ats[1]?;(case' some xt=>refine ab.bind (ab.eW (aW xt)) λr0 d M Y w=>?_;obtain⟨rfl,w⟩:=w;replace B:=bu.le_trans B Y);all_goals refine ab.bind (Q:=λ_ a b=>b=a/\a=UW) (ab.pure ⟨rfl,by first|rfl|grind⟩) λr3 zs zs' N e=>?_;obtain⟨rfl,rfl⟩:=e;refine ab.bind (ab.lenOf ((A.mono l).mono (bu.le_trans B N))) λr4 n n' h4 e=>?_;obtain⟨rfl,E⟩:=e;have j:R.le r4:=bu.le_trans (bu.le_trans B N) h4;refine ab.ite (λI=>?_) λ_=>?_;{first|exact ab.bind (ab.firstCells _ _ ((A.mono l).mono j) E) λJ z V m g=>ab.pure (.fO _ _)|exact ab.bind (ab.firstCells _ _ ((A.mono l).mono j) E) λJ z V m g=>ab.bind (ab.storeCells 0 ((dr.mono (bu.le_trans j m) (by assumption)).add _) (by omega)) λS _ _ C _=>ab.pure (.slice _ _ (dr.mono (bu.le_trans j (bu.le_trans m C)) (by assumption)))|(obtain rfl:n'=0:=by omega);refine ab.bind (ab.uS _ ((A.mono l).mono j)) λJ z V m g=>?_;obtain⟨rfl,rfl⟩:=g;exact ab.bind (Q:=λ_ _ _=>True) (ab.pure trivial) λS _ _ C _=>ab.pure (.cx _ _)};·refine ab.bind (ab.cF (dv f)) λJ i i' m e=>?_;subst e;refine ab.ite (λ_=>ab.mU) λ_=>?_;refine ab.bind (ab.cF (dv f)) λS i2 i2' C e=>?_;subst e;refine ab.ite (λ_=>ab.EM (by simp only[Te,if_false];exact dC (tf _ _ _ _ _) λ_=>by split<;>first|exact eK|exact dC (λ_ _ _ e=>by cases e) λ_=>eK)) λ_=>?_;refine ab.bind (ab.cF (iz _)) λr7 nc nc' h7 e=>?_;subst e;refine ab.bind (ab.cF (dv f)) λr8 i3 i3' h8 e=>?_;subst e;refine ab.bind (ab.cF (pC _)) λr9 _ _ h9 _=>?_;have y:R.le r9:=bu.le_trans j (bu.le_trans m (bu.le_trans C (bu.le_trans h7 (bu.le_trans h8 h9))));refine ab.bind (ab.firstCells _ _ (kx.mono y) (λq e=>by first|rfl|(cases e;done)|grind)) λr10 o o' F ho=>?_;refine ab.bind (ab.firstCells _ _ ((A.mono l).mono (bu.le_trans y F)) E) λr11 q q' G hq=>?_;refine ab.bind (ab.zero hz) λr12 zz zz' p g=>?_;obtain⟨rfl,g⟩:=g;exact ab.bind (ab.newRow ((((ho.mono G).mono p).append (hq.mono p)).append (aj.zeroCells g _))) λ_ _ _ _ ha=>ab.pure (.slice _ _ ha));all_goals exact ab.stuck|_=>exact ab.stuck
theorem ab.checkKey(b g:Bool)(f:fa P t=Vk)(n:Nat):ab P c r (Instr.checkKey b (n+1) t x) (Instr.checkKey g (n+1) t x') λ_ _ _=>True:=by refine ab.bind (ab.eW (aW t)) λj d h i e=>?_;obtain⟨rfl,e⟩:=e;unfold fa at f;rw[e]at f;cases h with|int k=>exact ab.pure trivial|string=>exact ab.pure trivial|bool=>exact ab.pure trivial|_=>simp at f
theorem xK(d:TypeDesc)(h:ai c r x x')(k:ai c r y y'):Instr.sameNow d x' y'=Instr.sameNow d x y:=by cases h<;>cases k<;>first|rfl|(cases d<;>rfl)
def lG(c:dw)(r:bu)(x x':Array V8):Prop:=x.size=x'.size/\∀(i:Nat)(e e':V8),x[i]?=Vg e->x'[i]?=Vg e'->E3 c r e e'
theorem lG.mono{r r':bu}(h:r.le r'){x x':Array V8}(k:lG c r x x'):lG c r' x x':=⟨k.1,λi e d a b=>(k.2 i e d a b).mono h⟩
def IB(c:dw)(r:bu):Option (Nat×Vm)->Option (Nat×Vm)->Prop
 |none,Vo=>True
 |some (i,v),Vg (i',v')=>i'=i/\ai c r v v'
 |_,_=>False
theorem qk(d:TypeDesc)(h:ai c r x x'):∀(l m:List V8)(i:Nat),lG c r l.toArray m.toArray->
 match Instr.findNow d x l i with|some z=>∃p,Instr.findNow d x' m i=Vg p/\IB c r z p|none=>Instr.findNow d x' m i=Vo
 |[],[],i,_=>⟨Vo,rfl,trivial⟩
 |[],_::_,_,k=>by have:=k.1;grind
 |_::_,[],_,k=>by have:=k.1;grind
 |e::l,q::m,i,k=>by
   have o:=k.2 0 e q Θ Θ
   have n:lG c r l.toArray m.toArray:=⟨by have:=k.1;simp_all,λj u s a b=>k.2 (j+1) u s (by grind) (by grind)⟩
   unfold Instr.findNow
   rw[xK d h o.key]
   cases Instr.sameNow d x e.key with
   |none=>rfl
   |some b=>
     cases b with
     |true=>exact⟨_,rfl,rfl,o.val⟩
     |false=>exact qk d h l m (i+1) n
theorem ab.findAsking(n:Fits P c)(p:fa P t=Vk):∀(l g:List V8)(i:Nat){r:bu}{x x':Vm},ai c r x x'->lG c r l.toArray g.toArray->ab P c r (Instr.findAsking t x l i) (Instr.findAsking t x' g i) (IB c)|[],[],i,r,x,x',h,_=>ab.pure trivial|[],_::_,_,r,x,x',h,f=>by have:=f.1;grind|_::_,[],_,r,x,x',h,f=>by have:=f.1;grind|e::l,q::g,i,r,x,x',h,f=>by have o:=f.2 0 e q Θ Θ;have m:lG c r l.toArray g.toArray:=⟨by have:=f.1;simp_all,λj u v a b=>f.2 (j+1) u v (by grind) (by grind)⟩;refine ab.bind (ab.equal n p h o.key) λy b w k s=>?_;subst s;exact ab.ite (λ_=>ab.pure ⟨rfl,o.val.mono k⟩) λ_=>ab.findAsking n p l g (i+1) (h.mono k) (m.mono k)
theorem ab.findKey(j:Fits P c)(n:fa P t=Vk){l l':List V8}(h:ai c r x x')(g:lG c r l.toArray l'.toArray):ab P c r (Instr.findKey t x l) (Instr.findKey t x' l') (IB c):=by refine ab.bind (ab.cF (aD t)) λo d f b m=>?_;subst m;have:=qk f (h.mono b) l l' 0 (g.mono b);cases e:Instr.findNow f x l 0 with|none=>rw[e]at this;simp only[this];exact ab.findAsking j n l l' 0 (h.mono b) (g.mono b)|some z=>rw[e]at this;obtain⟨p,i,k⟩:=this;simp only[i];exact ab.pure k
theorem zO{ok:Bool}(O:Fits P c)(Z:∀k e,P.underlying t=Vg (.map k e)->fa P k=Vk/\js P e=Vk)(h:ai c r x x')(k:ai c r y y'):ab P c r (Instr.lookup t x y ok) (Instr.lookup t x' y' ok) (ai c):=by refine ab.bind (ab.eW (aW t)) λr1 d S F I=>?_;obtain⟨rfl,I⟩:=I;cases S with|map J q=>obtain⟨C,R⟩:=Z J q I;let B(A:bu)(a b:Vm×Bool):Prop:=ai c A a.1 b.1/\b.2=a.2;(cases h.mono F with|kC=>refine ab.bind (Q:=λA a b=>lG c A a b) (ab.pure ⟨rfl,λi e e' a=>by simp at a⟩) λr2 T E G m=>?_;refine ab.bind (ab.checkKey _ _ C 9999) λr3 _ _ w _=>?_;refine ab.bind (ab.findKey O C (k.mono (bu.le_trans F (bu.le_trans G w))) (by simpa using m.mono w)) λr4 z N U p=>?_;(match z,N,p with|none,Vo,_=>refine ab.bind (ab.zero R) λK u u' V n=>?_;obtain⟨rfl,n⟩:=n;refine ab.bind (Q:=B) (ab.pure ⟨n c K,rfl⟩) λL a b H g=>?_;obtain⟨v,o⟩:=a;obtain⟨j,f⟩:=g;subst f;refine ab.pure ?_;split;{exact .kJ (aj.push (aj.single j) (.bool _))};{exact j}|some (_,_),Vg (_,_),p=>refine ab.bind (Q:=B) (ab.pure ⟨p.2,rfl⟩) λL a b H g=>?_;obtain⟨v,o⟩:=a;obtain⟨j,f⟩:=g;subst f;refine ab.pure ?_;split;{exact .kJ (aj.push (aj.single j) (.bool _))};·exact j)|map Y=>refine ab.getObj Y λo D _ X W=>?_;(cases X with|map kk s e=>refine ab.bind (Q:=λA a b=>lG c A a b) (ab.pure ⟨s,e⟩) λr2 T E G m=>?_;refine ab.bind (ab.checkKey _ _ C 9999) λr3 _ _ w _=>?_;refine ab.bind (ab.findKey O C (k.mono (bu.le_trans F (bu.le_trans G w))) (by simpa using m.mono w)) λr4 z N U p=>?_;(match z,N,p with|none,Vo,_=>refine ab.bind (ab.zero R) λK u u' V n=>?_;obtain⟨rfl,n⟩:=n;refine ab.bind (Q:=B) (ab.pure ⟨n c K,rfl⟩) λL a b H g=>?_;obtain⟨v,o⟩:=a;obtain⟨j,f⟩:=g;subst f;refine ab.pure ?_;split;{exact .kJ (aj.push (aj.single j) (.bool _))};{exact j}|some (_,_),Vg (_,_),p=>refine ab.bind (Q:=B) (ab.pure ⟨p.2,rfl⟩) λL a b H g=>?_;obtain⟨v,o⟩:=a;obtain⟨j,f⟩:=g;subst f;refine ab.pure ?_;split;{exact .kJ (aj.push (aj.single j) (.bool _))};·exact j)|cells _ _ _=>exact absurd rfl (W _ _ _)|_=>exactλ_ _ _=>rfl)|_=>exactλ_ _ _=>rfl)|_=>exact ab.stuck
end
section
variable{c:dw}{r:bu}
def Lo:Vm->Bool
 |.string _|.bool _=>Vk
 |_=>UW
def Ay(P:VD)(t:Vz):Bool:=match P.underlying t with|some .string|some .bool=>Vk|_=>UW
theorem zH(h:Ay P t=Vk):fa P t=Vk:=by unfold Ay at h;unfold fa;grind
theorem vO(n:Nat)(h:ai c r x x')(k:ai c r y y')(b:Lo y=Vk):Instr.sameBits n x' y'=Instr.sameBits n x y:=by cases k<;>simp[Lo]at b<;>cases h<;>cases n<;>rfl
theorem ab.Ew(b:Ay P t=Vk)(i:Lo x=UW)(l h:List V8)(k:lG c r l.toArray h.toArray):ab P c r (Instr.findKey t x l) (Instr.findKey t x' h) λ_ u n=>u=Vo/\n=Vo:=by unfold Ay at b;cases g:P.underlying t with|none=>rw[g]at b;simp at b|some d=>rw[g]at b;unfold Instr.findKey;refine ab.bind (ab.eW (aW t)) λq o j p f=>?_;obtain⟨rfl,f⟩:=f;rw[g]at f;cases f;cases l with|nil=>(have:h=[]:=by have:=k.1;grind);subst this;exact ab.pure ⟨rfl,rfl⟩|cons e l=>(have m:Instr.findNow d x (e::l) 0=Vo:=by(have:Instr.sameNow d x e.key=Vo:=by cases d<;>simp at b<;>cases x<;>simp[Lo]at i<;>rfl);simp[Instr.findNow,this]);simp only[m];refine ab.never ?_;unfold Instr.findAsking;refine gk ?_;show kO P (Op.equalIn (9999+1) t x e.key);unfold Op.equalIn;intro w;rw[VL.run_bind,jP g w];cases d<;>simp at b<;>cases x<;>simp[Lo]at i<;>exact⟨_,_,rfl,rfl⟩
theorem tz(hc:Fits P c)(ht:∀k e,P.underlying t=Vg (.map k e)->Ay P k=Vk){z':Vm}(h:ai c r x x')(k:ai c r y y')(l:ai c r z z'):ab P c r (Instr.mapUpdate t x y z) (Instr.mapUpdate t x' y' z') λ_ _ _=>True:=by unfold Instr.mapUpdate;refine ab.bind (ab.eW (aW t)) λr1 d d' R S=>?_;obtain⟨rfl,S⟩:=S;cases d' with|map A E=>have G:=ht A E S;have hk:=zH G;(cases h.mono R with|kC=>exact ab.runtimePanic|map I=>refine ab.getObj I λo o' ns ho X=>?_;(cases ho with|map kk s e=>rename_i F m;have g:lG c r1 F m:=⟨s,e⟩;refine ab.bind (ab.checkKey _ _ hk 9999) λr2 _ _ C _=>?_;have B:=(k.mono R).mono C;(have w:ab P c r2 (Instr.findKey A y F.toList) (Instr.findKey A y' m.toList) λZ u M=>IB c Z u M/\(Lo y=UW->u=Vo):=by by_cases hy:Lo y=UW;{refine(ab.Ew G hy _ _ (by simpa using g.mono C)).mono λZ u M _ h=>?_;obtain⟨rfl,rfl⟩:=h;exact⟨trivial,λ_=>rfl⟩};exact(ab.findKey hc hk B (by simpa using g.mono C)).mono λZ u M _ h=>⟨h,λe=>absurd e hy⟩);refine ab.bind w λr3 u M N J=>?_;obtain⟨J,K⟩:=J;have B:=B.mono N;have lr:=((l.mono R).mono C).mono N;have g:=(g.mono C).mono N;have I:=N _ _ (C _ _ I);(match u,M,J,K with|none,Vo,_,_=>refine ab.setObj I ns (.map (kk+1) (by grind) λi e O a b=>?_) rfl;rw[Ts]at a b;rw[<-g.1]at b;split at a;{cases a;rw[if_pos ‹_›]at b;cases b;exact⟨B,lr,rfl⟩};{rw[if_neg ‹_›]at b;exact g.2 i e O a b}|some (i,_),Vg (v,_),J,K=>(have Y:Lo y=Vk:=by simp_all);obtain⟨W,_⟩:=J;subst W;(have p:ai c r3 (((F[v]?).map (·.key)).getD y) (((m[v]?).map (·.key)).getD y'):=by cases V:F[v]? with|none=>simp_all|some Q=>(have H:v<m.size:=by grind);have:=g.2 v Q m[v] V (S1 H);rw[S1 H];exact this.key);(have L:ab P c r3 (Instr.keyThatStays (((F[v]?).map (·.key)).getD y) y) (Instr.keyThatStays (((m[v]?).map (·.key)).getD y') y') (ai c):=by unfold Instr.keyThatStays;rw[vO 10000 p B Y];refine ab.ite (λ_=>ab.pure B) λ_=>?_;refine ab.bind (ab.cF (iz _)) λr4 n n' D X=>?_;subst X;refine ab.pure ?_;split;{exact B.mono D};exact p.mono D);refine ab.bind L λr4 q q' D hq=>?_;refine ab.setObj (D _ _ I) ns (.map kk (by grind) λj e O a b=>?_) rfl;rw[TF]at a b;split at a;{rw[if_pos ‹_›]at b;obtain⟨Q,T,rfl⟩:=SZ.1 a;obtain⟨e1,U,rfl⟩:=SZ.1 b;exact⟨hq,lr.mono D,((g.2 j Q e1 T U).born)⟩};·rw[if_neg ‹_›]at b;exact(g.2 j e O a b).mono D)|cells _ _ _=>exact absurd rfl (X _ _ _)|_=>exactλ_ _ _=>rfl)|_=>exact ab.stuck)|_=>exact ab.stuck
theorem DQ(k:P.underlying t=Vg .string)(h:ai c r x x'):ab P c r (Instr.range t x) (Instr.range t x') (ai c):=by unfold Instr.range;refine ab.bind (ab.eW (aW t)) λv d n i f=>?_;obtain⟨rfl,f⟩:=f;rw[k]at f;cases f;cases h.mono i with|string s=>exact ab.bind (Q:=λl a b=>lY c l a b) (ab.pure (.iter s 0)) λw o u p j=>ab.bind (ab.newObj j) λy b m q g=>ab.pure (.ptr ⟨g.1,rfl,rfl,TH g.2⟩)|_=>exactλ_ _ _=>rfl
theorem GB(h:ai c r x x'):ab P c r (Instr.next x Vk t) (Instr.next x' Vk t) (ai c):=by unfold Instr.next;cases h with|ptr m=>rename_i a l;obtain⟨b,v,k⟩:=a;obtain⟨w,e,i⟩:=l;obtain⟨g,f,j,-⟩:=m;simp only at g f j;subst f j;(cases e with|succ n=>exact ab.stuck|zero=>refine ab.getObj g λo z u f q=>?_;cases f with|iter s p=>refine ab.ite (λ_=>?_) λ_=>ab.pure (.kJ (aj.single (.bool _)));refine ab.bind (ab.setObj g u (.iter s _) rfl) λA _ _ y _=>ab.pure (.kJ ?_);exact((aj.single (.bool _)).push (.int _ _)).push (.int _ _)|cells _ _ _=>exact absurd rfl (q _ _ _)|_=>exact ab.stuck)|_=>exact ab.stuck
theorem oz:∀(l l':List Vm){r:bu},l.length=l'.length->(∀(i:Nat)(v v':Vm),l[i]?=Vg v->l'[i]?=Vg v'->ai c r v v')->∀s:ByteArray,ab P c r (forIn l s λc r=>(match c with|.int .u8 n=>Pure.pure (ForInStep.yield (r.push (UInt8.ofNat n.toNat)))|_=>(λ_:PUnit=>ForInStep.yield r)<$>stuck "bytesToString: byte expected" :VL (ForInStep ByteArray))) (forIn l' s λc r=>(match c with|.int .u8 n=>Pure.pure (ForInStep.yield (r.push (UInt8.ofNat n.toNat)))|_=>(λ_:PUnit=>ForInStep.yield r)<$>stuck "bytesToString: byte expected" :VL (ForInStep ByteArray))) λ_ x y=>x=y|[],[],_,_,_,s=>by rw[List.forIn_nil];exact ab.pure rfl|[],_::_,_,h,_,_=>by cases h|_::_,[],_,h,_,_=>by cases h|v::l,v'::l',r,h,hv,s=>by rw[List.forIn_cons,List.forIn_cons];have h0:ai c r v v':=hv 0 v v' rfl rfl;have hl:∀(i:Nat)(u u':Vm),l[i]?=Vg u->l'[i]?=Vg u'->ai c r u u':=λi u u' a b=>hv (i+1) u u' a b;refine ab.bind (Q:=λ_(x y:ForInStep ByteArray)=>x=y/\∃z,x=.yield z) ?_ λr1 x y hle e=>?_;{cases h0 with|int k n=>(cases k<;>first|exact ab.pure ⟨rfl,_,rfl⟩|exactλ_ _ _=>rfl)|_=>exactλ_ _ _=>rfl};obtain⟨rfl,z,rfl⟩:=e;exact oz l l' (by simpa using h) (λi u u' a b=>(hl i u u' a b).mono hle) z
theorem ot(h:ai c r x x'):ab P c r (Conv.bytesToString x) (Conv.bytesToString x') (ai c):=by(have key:∀{a a':V0}{n:Nat}{r:bu},ab P c r (Go.loadCells a n) (Go.loadCells a' n) (aj c)->ab P c r (Conv.bytesToString (.slice (Vg a) n 0)) (Conv.bytesToString (.slice (Vg a') n 0)) (ai c):=λ{a a' n r}h=>by unfold Conv.bytesToString;refine ab.bind h λr1 y y' hle hy=>?_;(refine ab.bind (Q:=λ_ x y=>x=y) ?_ λr2 z z' _ e=>by subst e;exact ab.pure (.string _));have:=oz (P:=P) (c:=c) y.toList y'.toList (r:=r1) (by simpa using hy.size) (λi u u' a b=>hy.el i u u' (by simpa using a) (by simpa using b)) ByteArray.empty;simp only[Array.forIn_toList]at this;exact this);cases h with|fO n m=>exact ab.pure (.string _)|slice n m h=>exact key (ab.loadCells h n)|cx a a'=>exact key (n:=0) (ab.pure .empty)|_=>exact ab.stuck
def GY(P:VD)(s d:Vz):Bool:=match P.underlying s,P.underlying d with|some (.int _),Vg (.int _)|some (.int _),Vg .string|some .string,Vg .string=>Vk|some (.slice e),Vg .string=>(match P.underlying e with|some (.int .u8)=>Vk|_=>UW)|_,_=>UW
theorem C0{e0:Vz}(h:P.underlying e0=Vg (.int .u8))(k:ai c r x x'):ab P c r (do match<-underlying e0 with|.int .u8=>Conv.bytesToString x|.int .i32=>Conv.runesToString x|_=>stuck "Convert: a slice of what to string?") (do match<-underlying e0 with|.int .u8=>Conv.bytesToString x'|.int .i32=>Conv.runesToString x'|_=>stuck "Convert: a slice of what to string?") (ai c):=by refine ab.bind (ab.eW (aW e0)) λo a i j e=>?_;obtain⟨rfl,e⟩:=e;rw[h]at e;cases e;exact ot (k.mono j)
theorem y5{s d:Vz}(h:GY P s d=Vk)(k:ai c r x x'):ab P c r (convert s d x) (convert s d x') (ai c):=by unfold Go.convert;refine ab.bind (ab.eW (aW s)) λo a i j e=>?_;obtain⟨rfl,e⟩:=e;refine ab.bind (ab.eW (aW d)) λp b g l f=>?_;obtain⟨rfl,f⟩:=f;have k:=(k.mono j).mono l;unfold GY at h;rw[e,f]at h;cases i with|int q=>(cases g with|int n=>(cases k<;>first|exact ab.pure (.int _ _)|exact ab.unsupported)|string=>(cases k<;>first|exact ab.pure (.string _)|exact ab.unsupported)|_=>simp at h)|string=>(cases g with|string=>(cases k<;>first|exact ab.pure (.string _)|exact ab.unsupported)|_=>simp at h)|slice e0=>(cases g with|string=>(have hb:P.underlying e0=Vg (.int .u8):=by simp only at h;split at h;{assumption};cases h);have gen:=λ{y y'}(k:ai c p y y')=>C0 (P:=P) hb k;(cases k with|int k n=>exact ab.pure (.string _)|string s=>exact ab.pure (.string _)|bool b=>exact gen (.bool b)|ga=>exact gen .ga|ptr h=>exact gen (.ptr h)|fO n m=>exact gen (.fO n m)|slice n m h=>exact gen (.slice n m h)|cx a a'=>exact gen (.cx a a')|kC=>exact gen .kC|map h=>exact gen (.map h)|func h1 h2 h3 h4 h5=>exact gen (.func h1 h2 h3 h4 h5)|nilFunc=>exact gen .nilFunc|nilIface=>exact gen .nilIface|iface t h=>exact gen (.iface t h)|agg h1 h2=>exact gen (.agg h1 h2)|tuple h1 h2=>exact gen (.tuple h1 h2))|_=>simp at h)|_=>simp at h
end
end Go.ab
