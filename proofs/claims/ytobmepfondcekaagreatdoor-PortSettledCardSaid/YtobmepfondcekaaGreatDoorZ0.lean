/- A part of the proof that PortSettled holds for every input. Conditions: none. -/
import Derived.KernelRfl
import GoSem.Core.Value
import Derived.Conc.Own4
import Derived.Conc.SmallLaws
import Derived.Conc.Listed
import Derived.Calls
import Derived.Conc.Own
import Derived.Conc.Events
set_option linter.all false
open Go renaming Addr->Vs,Builtin->Vm,Code->VD,Event->Vv,Frame->U0,FuncId->Va,Goroutine->UP,IntKind->U1,Item->Vj,MapEntry->Vz,Obj->Vu,Oper->VB,Operand->Vh,Program->U9,Result->Vk,Sem->Vg,TypeId->U8,Value->UO,World->UL,execOp->UZ,stepG->UY,undef->UT,yielded->U7
open Bool renaming false->Ul,true->UJ
open Option renaming none->UM,some->UG
abbrev Sm:=@Nat.le_refl
abbrev Sn:=@Nat.lt_of_lt_of_le
abbrev So:=@Array.getElem?_eq_some_iff
abbrev Qaa:=@Bool.and_eq_true
abbrev Sq:=@List.getElem?_eq_getElem
abbrev Sr:=@Array.getD_eq_getD_getElem?
abbrev Ss:=@List.mem_of_getElem?
abbrev St:=@Option.map_eq_some_iff
abbrev Su:=@Array.getElem?_eq_getElem
abbrev Sv:=@List.mem_cons
abbrev Sw:=@List.mem_map
abbrev Sx:=@Nat.le_trans
abbrev Sy:=@Iff.rfl
abbrev Sz:=@Nat.lt_irrefl
abbrev SB:=@Bool.false_eq_true
abbrev SC:=@Option.map_some
abbrev SD:=@Array.getElem?_replicate
abbrev SE:=@List.all_cons
abbrev SF:=@Nat.le_of_lt
abbrev SG:=@List.getElem?_eq_some_iff
abbrev SH:=@List.map_cons
abbrev SI:=@Option.getD_some
abbrev SJ:=@Option.some.injEq
abbrev SK:=@Nat.zero_le
abbrev SL:=@List.mem_append
abbrev SN:=@Array.getElem?_setIfInBounds_ne
abbrev SO:=@Array.mem_append
abbrev SP:=@Array.getElem?_push
abbrev SQ:=@Nat.add_zero
abbrev SR:=@Option.some.inj
abbrev SS:=@List.getElem?_map
abbrev SU:=@Option.bind_eq_some_iff
abbrev SV:=@List.not_mem_nil
abbrev SW:=@List.mem_cons_of_mem
abbrev SX:=@List.mem_iff_getElem?
abbrev SY:=@Nat.le_add_right
abbrev SZ:=@Nat.lt_or_ge
abbrev S0:=@List.mem_cons_self
abbrev S3:=@Nat.le_of_ble_eq_true
abbrev S4:=@Prod.mk.inj
abbrev S6:=@Array.mem_of_getElem?
abbrev S7:=@List.all_eq_true
abbrev S8:=@Nat.eq_zero_or_pos
abbrev S9:=@List.length_eq_zero_iff
abbrev Ta:=@List.cons.injEq
abbrev Tb:=@Prod.mk.injEq
abbrev Tc:=@Array.getElem?_modify
abbrev Td:=@Classical.byContradiction
abbrev Te:=@Option.bind_some
abbrev Tf:=@List.map_nil
abbrev Tg:=@Nat.mul_comm
abbrev Ti:=@Array.getElem?_setIfInBounds
abbrev Tj:=@Array.ext_getElem?
abbrev Tk:=@Nat.le_of_eq
abbrev Tl:=@Nat.le_succ
abbrev Tm:=@Nat.not_lt_zero
abbrev Tn:=@List.take_of_length_le
abbrev To:=@Nat.add_assoc
abbrev Tp:=@List.cons_append
abbrev Tq:=@Nat.zero_add
abbrev Ts:=@List.any_eq_true
abbrev Tt:=@List.nodup_cons
abbrev Tu:=@Array.getElem?_map
abbrev Tv:=@Nat.add_comm
abbrev Tw:=@List.map_toArray
abbrev Tx:=@Bool.and_self
abbrev Ty:=@List.mem_singleton
abbrev Tz:=@Bool.or_eq_true
abbrev TA:=@List.getElem?_append_left
abbrev TB:=@List.perm_middle
abbrev TC:=@Nat.pos_of_ne_zero
abbrev TD:=@Nat.mod_lt
abbrev TE:=@List.foldl_cons
abbrev TF:=@List.length_append
abbrev TG:=@List.drop_eq_getElem_cons
abbrev TH:=@List.count_cons_of_ne
abbrev TJ:=@Nat.ne_of_lt
abbrev TK:=@Bool.or_true
abbrev TL:=@Nat.lt_or_eq_of_le
abbrev TM:=@List.append_assoc
abbrev TN:=@List.ext_getElem?
abbrev TO:=@List.take_add_one
abbrev TP:=@List.getElem_toArray
abbrev TQ:=@List.getElem_cons_succ
abbrev TR:=@List.getElem_cons_zero
abbrev TS:=@List.setIfInBounds_toArray
abbrev TT:=@List.set_cons_zero
abbrev TU:=@List.set_cons_succ
abbrev TV:=@List.length_cons
abbrev TW:=@List.getElem?_cons_succ
abbrev TX:=@List.nodup_nil
abbrev TY:=@Array.mem_iff_getElem
abbrev TZ:=@Array.all_eq_true_iff_forall_mem
abbrev T0:=@Bool.true_or
abbrev T1:=@List.range_succ
abbrev T2:=@List.nil_append
abbrev T3:=@Array.size_mapIdx
abbrev T4:=@Array.getElem?_mapIdx
abbrev T5:=@Array.mk.injEq
abbrev T6:=@List.all_nil
abbrev T7:=@List.mem_flatMap
abbrev T8:=@Array.getElem?_eq_none
abbrev T9:=@List.foldl_append
abbrev Ua:=@Bool.toNat_le
abbrev Ub:=@Bool.eq_iff_iff
abbrev Uc:=@Array.length_toList
abbrev Ud:=@List.getElem?_toArray
abbrev Ue:=@List.cons_ne_nil
abbrev Uf:=@Nat.le_of_lt_succ
abbrev Ug:=@Nat.succ_pos
abbrev Uh:=@Option.isSome_none
abbrev Ui:=@List.mem_append_right
abbrev Uj:=@List.mem_append_left
abbrev Uk:=@List.append_nil
abbrev Um:=@List.take_length
abbrev Un:=@Array.mem_push
abbrev Uo:=@Nat.testBit_two_pow_mul_add
abbrev Up:=@Nat.pow_le_pow_right
abbrev Uq:=@List.mapIdx_cons
abbrev Ur:=@List.count_append
abbrev Us:=@List.getElem_mem
abbrev Ut:=@List.getElem?_append_right
abbrev Uu:=@List.length_nil
abbrev Uv:=@Bool.false_and
abbrev Uw:=@Nat.mul_le_mul_right
abbrev Ux:=@List.foldlM_cons
abbrev Uy:=@Nat.zero_mul
abbrev Uz:=@Nat.add_sub_cancel_left
abbrev UA:=@List.mem_filter
abbrev UB:=@Int.ofNat.inj
abbrev UC:=@Bool.or_false
abbrev UD:=@Bool.false_or
abbrev UE:=@List.drop_of_length_le
abbrev UF:=@List.getElem?_range
abbrev UH:=@Array.getElem_setIfInBounds
abbrev UI:=@Array.getElem?_push_lt
abbrev UK:=@List.extract_eq_take_drop
abbrev UN:=@List.eq_nil_or_concat
abbrev UQ:=@Array.getElem?_setIfInBounds_self_of_lt
abbrev UR:=@Array.getElem?_of_mem
abbrev US:=@List.eq_nil_of_length_eq_zero
abbrev UU:=@Nat.and_two_pow_sub_one_eq_mod
abbrev UW:=@Nat.two_pow_add_eq_or_of_lt
abbrev UX:=@Int.fdiv_eq_ediv_of_nonneg
abbrev U2:=@Array.toList_append
abbrev U3:=@List.count_cons_self
abbrev U4:=@List.mem_of_mem_drop
abbrev U5:=@List.length_pos_iff
abbrev U6:=@List.perm_append_comm_assoc
abbrev Vf:=@Array.getElem!_eq_getD
abbrev Vi:=@List.take_succ_eq_append_getElem
abbrev Vl:=@List.take_subset_take_left
abbrev Vn:=@Array.map_congr_left
abbrev Vp:=@Array.mapM_eq_foldlM
abbrev Vq:=@Array.foldlM_toList
abbrev Vr:=@List.append_cancel_right
namespace Go
abbrev Iv(n:Int):UO:=.int .i64 n
variable{p:Prop}
theorem Ψ(h:p:=by kernel_rfl):p:=h
theorem Δ(h:p:=by decide):p:=h
theorem Ω(h:p:=by omega):p:=h
theorem Θ(h:p:=by simp):p:=h
theorem Ξ(h:p:=by rw[hP];kernel_rfl):p:=h
theorem Λ(h:p:=by rw[hP];exact .all):p:=h
theorem Υ(h:p:=by intro p hp;simp only[Sv,SV,or_false]at hp;(repeat'(refine Or.elim hp ?_ ?_<;>intro hp));(all_goals subst hp);all_goals first|(left;simp;done)|(refine .inr ⟨0,?_,hdep 0 ?_⟩;rotate_left;kernel_rfl;simp;done)|(refine .inr ⟨1,?_,hdep 1 ?_⟩;rotate_left;kernel_rfl;simp;done)|(refine .inr ⟨2,?_,hdep 2 ?_⟩;rotate_left;kernel_rfl;simp;done)|(refine .inr ⟨3,?_,hdep 3 ?_⟩;rotate_left;kernel_rfl;simp;done)|(refine .inr ⟨4,?_,hdep 4 ?_⟩;rotate_left;kernel_rfl;simp;done)|(refine .inr ⟨5,?_,hdep 5 ?_⟩;rotate_left;kernel_rfl;simp;done)|(refine .inr ⟨6,?_,hdep 6 ?_⟩;rotate_left;kernel_rfl;simp;done)|(refine .inr ⟨7,?_,hdep 7 ?_⟩;rotate_left;kernel_rfl;simp;done)|(refine .inr ⟨8,?_,hdep 8 ?_⟩;rotate_left;kernel_rfl;simp;done)|(refine .inr ⟨9,?_,hdep 9 ?_⟩;rotate_left;kernel_rfl;simp;done)|(refine .inr ⟨10,?_,hdep 10 ?_⟩;rotate_left;kernel_rfl;simp;done)|(refine .inr ⟨11,?_,hdep 11 ?_⟩;rotate_left;kernel_rfl;simp;done)|(refine .inr ⟨12,?_,hdep 12 ?_⟩;rotate_left;kernel_rfl;simp;done)|(refine .inr ⟨13,?_,hdep 13 ?_⟩;rotate_left;kernel_rfl;simp;done)|(refine .inr ⟨14,?_,hdep 14 ?_⟩;rotate_left;kernel_rfl;simp;done)|(refine .inr ⟨15,?_,hdep 15 ?_⟩;rotate_left;kernel_rfl;simp;done)|(refine .inr ⟨16,?_,hdep 16 ?_⟩;rotate_left;kernel_rfl;simp;done)|(refine .inr ⟨17,?_,hdep 17 ?_⟩;rotate_left;kernel_rfl;simp;done)|(refine .inr ⟨18,?_,hdep 18 ?_⟩;rotate_left;kernel_rfl;simp;done)|(refine .inr ⟨19,?_,hdep 19 ?_⟩;rotate_left;kernel_rfl;simp;done)|(refine .inr ⟨20,?_,hdep 20 ?_⟩;rotate_left;kernel_rfl;simp;done)|(refine .inr ⟨21,?_,hdep 21 ?_⟩;rotate_left;kernel_rfl;simp;done)|(refine .inr ⟨22,?_,hdep 22 ?_⟩;rotate_left;kernel_rfl;simp;done)|(refine .inr ⟨23,?_,hdep 23 ?_⟩;rotate_left;kernel_rfl;simp;done)|(refine .inr ⟨24,?_,hdep 24 ?_⟩;rotate_left;kernel_rfl;simp;done)|(refine .inr ⟨25,?_,hdep 25 ?_⟩;rotate_left;kernel_rfl;simp;done)):p:=h
abbrev ϖ(b:Nat):UO:=.pointer (UG ⟨b,0,UM⟩)
abbrev ϱ(b o:Nat):UO:=.pointer (UG ⟨b,o,UM⟩)
end Go
namespace Go.Pw
open Go.Conc
variable{P:U9}{α:Type}{F F' F1:U0}{o:Vu}{main rd:Bool}{cs:List U0}{w:UL}{ops:Array VB}{i d m N b:Nat}{k:List Vj}{H L L':List (Nat×UO)}{R:UL->UL->Prop}{D:UL->UL->Array Vv->Prop}{Stop:UP->UL->Prop}{J:UP->Prop}{v:UO}{t:Array UO}{f:Va}
def eG(P:U9){α:Type}:Vg α->Option α
 |.pure a=>UG a
 |.program k=>eG P (k P)
 |_=>UM
theorem iq{x:Vg α}{a:α}(h:eG P x=UG a)(w:UL):x.run P w=.ok a w/\x.events P w #[]=#[]:=by induction x with|pure b=>simp only[eG,SJ]at h;subst h;exact⟨rfl,rfl⟩|program k c=>exact c P h|_=>simp[eG]at h
def Bm(P:U9)(F:U0)(o:VB):Option U0:=
 match o.op with
 |.defer _=>UM
 |_=>match eG P (UZ F.eval o)with
   |some (.value v)=>UG (F.finish v)
   |some .skip=>UG (F.finish UT)
   |_=>UM
def kM(P:U9)(F:U0):Option U0:=
 match F.todo with
 |.code .skip::k=>UG {F with todo:=k}
 |.code (.label _)::k=>UG {F with todo:=k}
 |.inBlock _::k=>UG {F with todo:=k}
 |.inScope _::k=>UG {F with todo:=k}
 |.code (.seq a b)::k=>UG {F with todo:=.code a::.code b::k}
 |.code (.cond c x y)::k=>match F.eval c with
   |.bool b=>UG {F with todo:=.code (if b then x else y)::k}
   |_=>UM
 |.code (.block id c)::k=>UG {F with todo:=.code c::.inBlock id::k}
 |.code (.loop c)::k=>UG {F with todo:=.code c::.inLoop c::k}
 |.inLoop c::k=>UG {F with todo:=.code c::.inLoop c::k}
 |.code (.scope c)::k=>UG {F with todo:=.code c::.inScope c::k}
 |.code (.exit id)::k=>(exitTo id k).map λk=>{F with todo:=k}
 |.code (.region _ ops Ul)::k=>UG {F with todo:=.inRegion ops (List.range ops.size)::k}
 |.inRegion _ []::k=>UG {F with todo:=k}
 |.inRegion ops (i::_)::_=>
   match((ops[i]?).map (Region.wanted · (U7 ops F.tmps))).getD Ul with
   |true=>(ops[i]?).bind (Bm P F)
   |false=>UG (F.finish UT)
 |_=>UM
def hint(H:List (Nat×UO))(F F1:U0):U0×List (UO×UO):=
 match F.todo with
 |.inRegion ops (i::_)::_=>
   match(ops[i]?).bind (·.dst)with
   |some d=>match H.lookup d with
     |some v=>({F1 with tmps:=F.tmps.setIfInBounds d v},[(F1.tmps.getD d UT,v)])
     |none=>(F1,[])
   |none=>(F1,[])
 |_=>(F1,[])
def bA(P:U9)(H:List (Nat×UO)):Nat->U0->Option (U0×List (UO×UO))
 |0,F=>UG (F,[])
 |n+1,F=>(kM P F).bind λF1=>(bA P H n (hint H F F1).1).map λx=>(x.1,(hint H F F1).2++x.2)
theorem lb(P:U9)(f:Va):seen P f #[]=#[]:=by rw[seen_def];simp
theorem Ap{o:VB}(C:F.mode=.run)(B:F.kind≠.early)(H:∃ops i rest k,F.todo=.inRegion ops (i::rest)::k/\ops[i]?=UG o/\Region.wanted o (U7 ops F.tmps)=UJ)(h:Bm P F o=UG F'):UY P main (G F cs) w=.go (G F' cs) w #[]:=by obtain⟨ops,i,rest,k,z,A,t⟩:=H;obtain⟨fn,tmps,todo,defers,mode,kind,q⟩:=F;subst z C;(have m:=by simpa using B);(have D:∀c,o.op≠.defer c:=λc e=>by unfold Bm at h;rw[e]at h;cases h);(have y:∀n,eG P (UZ (U0.eval {fn:=fn,tmps:=tmps,todo:=.inRegion ops (i::rest)::k,defers:=defers,mode:=.run,kind:=kind,roundOf:=q}) o)=UG n->(∃v,n=.value v/\F'=U0.finish {fn:=fn,tmps:=tmps,todo:=.inRegion ops (i::rest)::k,defers:=defers,mode:=.run,kind:=kind,roundOf:=q} v)\/(n=.skip/\F'=U0.finish {fn:=fn,tmps:=tmps,todo:=.inRegion ops (i::rest)::k,defers:=defers,mode:=.run,kind:=kind,roundOf:=q} UT):=by intro n E;unfold Bm at h;split at h;{cases h};rw[E]at h;cases n<;>simp at h<;>simp[h]);cases u:eG P (UZ (U0.eval {fn:=fn,tmps:=tmps,todo:=.inRegion ops (i::rest)::k,defers:=defers,mode:=.run,kind:=kind,roundOf:=q}) o)with|none=>unfold Bm at h;split at h;{cases h};rw[u]at h;cases h|some n=>obtain⟨p,r⟩:=iq u w;(have x:UY P main (G {fn:=fn,tmps:=tmps,todo:=.inRegion ops (i::rest)::k,defers:=defers,mode:=.run,kind:=kind,roundOf:=q} cs) w=UY.apply P UJ {fn:=fn,tmps:=tmps,todo:=.inRegion ops (i::rest)::k,defers:=defers,mode:=.run,kind:=kind,roundOf:=q} cs UM (UZ (U0.eval {fn:=fn,tmps:=tmps,todo:=.inRegion ops (i::rest)::k,defers:=defers,mode:=.run,kind:=kind,roundOf:=q}) o) w:=by cases q with|none=>simp only[G,UY,UY.exec,UY.oper,U0.oper?,A,t,SC,SI,if_true]|some l=>simp only[G,UY,UY.exec,UY.oper,U0.oper?,A,t,SC,SI,if_true];split;{rename_i e;exact absurd e (D _)};rfl);rw[x];rcases y n u with⟨v,rfl,rfl⟩|⟨rfl,rfl⟩;{simp[UY.apply,p,r,m,GStep.after,lb,G]};simp[UY.apply,p,r,m,GStep.after,lb,G]
theorem iE(m:F.mode=.run)(a:F.kind≠.early)(h:kM P F=UG F'):(∀main cs w,UY P main (G F cs) w=.go (G F' cs) w #[])/\F'.mode=.run/\F'.kind≠.early:=by obtain⟨t,q,r,f,p,n,v⟩:=F;subst m;unfold kM at h;simp only at h;split at h;(all_goals first|(cases h;exact⟨λmain cs w=>by simp[G,UY,UY.exec],rfl,a⟩)|skip);{split at h;{rename_i b s;cases h;exact⟨λmain cs w=>by simp[G,UY,UY.exec,s],rfl,a⟩};cases h};{rename_i id k;cases j:exitTo id k with|none=>rw[j]at h;cases h|some u=>rw[j]at h;cases h;exact⟨λmain cs w=>by simp[G,UY,UY.exec,j],rfl,a⟩};{rename_i d i e k;split at h;{rename_i g;cases l:d[i]? with|none=>rw[l]at h;cases h|some o=>rw[l]at h g;simp only[Te]at h;refine⟨λmain cs w=>Ap rfl a ⟨d,i,e,k,rfl,l,by simpa using g⟩ h,?_⟩;unfold Bm at h;split at h;{cases h};split at h<;>cases h<;>exact⟨rfl,a⟩};rename_i g;cases h;refine⟨λmain cs w=>?_,rfl,a⟩;simp only[G,UY,UY.exec,g,SB,if_false]};cases h
theorem GZ{rest:List Nat}{d:Tmp}(e:F.todo=.inRegion ops (i::rest)::k)(l:(ops[i]?).bind (·.dst)=UG d)(h:kM P F=UG F1):∃v,F1={F with tmps:=F.tmps.setIfInBounds d v,todo:=.inRegion ops rest::k}:=by(have c:∀v,F.finish v={F with tmps:=F.tmps.setIfInBounds d v,todo:=.inRegion ops rest::k}:=λv=>by obtain⟨m,tmps,todo,b,j,g,n⟩:=F;subst e;simp[U0.finish,l]);unfold kM at h;rw[e]at h;simp only at h;split at h;{cases f:ops[i]? with|none=>rw[f]at h;cases h|some o=>rw[f]at h;simp only[Te]at h;unfold Bm at h;split at h;{cases h};split at h<;>cases h;{exact⟨_,c _⟩};exact⟨_,c _⟩};cases h;exact⟨_,c _⟩
theorem wb(h:kM P F=UG F1)(a:∀p∈(hint H F F1).2,p.1=p.2):(hint H F F1).1=F1:=by unfold hint at a⊢;split;{rename_i e i j k g;rw[g]at a;simp only at a;cases f:(e[i]?).bind (·.dst)with|none=>rfl|some d=>rw[f]at a;simp only at a⊢;cases l:H.lookup d with|none=>rfl|some v=>rw[l]at a;simp only[Ty,forall_eq]at a⊢;obtain⟨u,rfl⟩:=GZ g f h;rcases SZ d F.tmps.size with c|b;{(have:(F.tmps.setIfInBounds d u).getD d UT=u:=by simp[c]);rw[this]at a;rw[a]};simp[Array.setIfInBounds,Nat.not_lt.2 b]};rfl
theorem rL(j:∀a b c,R a b->R b c->R a c)(i:∀w,D w w #[]):∀(n:Nat){F F':U0}{obs:List (UO×UO)}{w:UL},bA P H n F=UG (F',obs)->(∀p∈obs,p.1=p.2)->F.mode=.run->F.kind≠.early->Goes P main R D Stop m (G F' cs) w->Goes P main R D Stop (m+n) (G F cs) w|0,F,F',obs,w,h,_,_,_,g=>by cases h;exact g|n+1,F,F',obs,w,h,k,t,s,g=>by simp only[bA]at h;cases d:kM P F with|none=>rw[d]at h;cases h|some l=>rw[d]at h;simp only[Te]at h;cases f:bA P H n (hint H F l).1 with|none=>rw[f]at h;cases h|some x=>rw[f]at h;simp only[SC,SJ,Tb]at h;obtain⟨rfl,rfl⟩:=h;rw[wb d λp d=>k p (SL.2 (.inl d))]at f;obtain⟨o,q,r⟩:=iE t s d;have:=rL j i n (F':=x.1) (obs:=x.2) f (λp d=>k p (SL.2 (.inr d))) q r g;refine .inr ⟨rfl,λv u=>?_⟩;rw[o];exact⟨i v,this.rely j u⟩
theorem ox(f:∀F b,(∀w,UY P main (G F cs) w=.go (G b cs) w #[])->J (G b cs)->J (G F cs)):∀(n:Nat){F F':U0}{obs:List (UO×UO)},bA P H n F=UG (F',obs)->(∀p∈obs,p.1=p.2)->F.mode=.run->F.kind≠.early->J (G F' cs)->J (G F cs)|0,F,F',obs,h,_,_,_,e=>by cases h;exact e|n+1,F,F',obs,h,g,m,l,e=>by simp only[bA]at h;cases a:kM P F with|none=>rw[a]at h;cases h|some b=>rw[a]at h;simp only[Te]at h;cases d:bA P H n (hint H F b).1 with|none=>rw[d]at h;cases h|some x=>rw[d]at h;simp only[SC,SJ,Tb]at h;obtain⟨rfl,rfl⟩:=h;rw[wb a λp a=>g p (SL.2 (.inl a))]at d;obtain⟨i,j,k⟩:=iE m l a;exact f F b (λw=>i main cs w) (ox f n (F':=x.1) (obs:=x.2) d (λp a=>g p (SL.2 (.inr a))) j k e)
def tm(N:Nat)(L:List (Nat×UO))(t:Array UO):Array UO:=((List.range N).map λi=>match L.lookup i with|some v=>v|none=>t.getD i UT).toArray
structure Sl(N:Nat)(L:List (Nat×UO))(t:Array UO):Prop where
 size:t.size=N
 at_:∀p∈L,t.getD p.1 UT=p.2
theorem jK(h:L.lookup i=UG v):(i,v)∈L:=by induction L with|nil=>cases h|cons p l c=>simp only[List.lookup]at h;split at h;{rename_i e;cases h;(have:=by simpa using e);subst this;exact S0 ..};exact SW _ (c h)
theorem Sl.tm(h:Sl N L t):t=tm N L t:=by apply Tj;intro i;(have e:(Pw.tm N L t)[i]?=((List.range N).map λi=>match L.lookup i with|some v=>v|none=>t.getD i UT)[i]?:=by unfold Pw.tm;simp);rw[e,SS];rcases SZ i N with a|a;{rw[UF a];(have b:i<t.size:=by rw[h.size];exact a);simp only[SC,Su b,SJ];cases d:L.lookup i with|none=>simp[Su b]|some v=>have:=h.at_ _ (jK d);simp only[Sr,Su b]at this;exact this};rw[List.getElem?_eq_none (by simpa using a),T8 (by rw[h.size];exact a)];rfl
theorem Sl.all(h:(t.size,L.map λp=>t.getD p.1 UT)=(N,L.map (·.2)):=by kernel_rfl):Sl N L t:=by obtain⟨a,b⟩:=S4 h;refine⟨a,λp d=>?_⟩;obtain⟨i,c⟩:=SX.1 d;have:=congrArg (·[i]?) b;simpa[SS,c]using this
theorem Sl.K9(h:t.size=N):Sl N [] t:=⟨h,λp a=>by cases a⟩
theorem Sl.cons{N:Nat}{L:List (Nat×UO)}{t:Array UO}{i:Nat}{v:UO}(h:t.getD i UT=v)(b:Sl N L t):Sl N ((i,v)::L) t:=⟨b.size,λp a=>by rcases Sv.1 a with rfl|a;{exact h};exact b.at_ p a⟩
section
abbrev fr(f:Va)(t:Array UO)(k:List Vj):U0:={fn:=f,tmps:=t,todo:=k,defers:=[],mode:=.run,kind:=.normal,roundOf:=UM}
def sub:List Nat->VD->VD
 |[],c=>c
 |i::p,c=>match c,i with
   |.seq a _,0=>sub p a
   |.seq _ b,_=>sub p b
   |.cond _ a _,0=>sub p a
   |.cond _ _ b,_=>sub p b
   |.block _ a,_=>sub p a
   |.loop a,_=>sub p a
   |.scope a,_=>sub p a
   |.rangeFunc _ _ a _,0=>sub p a
   |.rangeFunc _ _ _ b,_=>sub p b
   |c,_=>c
def aR:VD->Array VB
 |.region _ ops _=>ops
 |_=>#[]
def opn(ops:Array VB)(i:Nat):VB:=(ops[i]?).getD default
def RA:Nat->Nat->List Nat->List Nat
 |0,_,a=>a
 |f+1,n,a=>match Nat.ble n 1 with|true=>a|false=>RA f (n/2) (n%2::a)
def dg(n:Nat):List Nat:=RA 60 n []
abbrev sb(c:VD)(n:Nat):VD:=sub (dg n) c
def tT:List Nat->VD->List Vj->List Vj
 |[],_,k=>k
 |i::p,c,k=>match c,i with
   |.seq a b,0=>tT p a (.code b::k)
   |.seq _ b,_=>tT p b k
   |.cond _ a _,0=>tT p a k
   |.cond _ _ b,_=>tT p b k
   |.block id a,_=>tT p a (.inBlock id::k)
   |.loop a,_=>tT p a (.inLoop a::k)
   |.scope a,_=>tT p a (.inScope a::k)
   |_,_=>k
abbrev rA(c:VD)(n:Nat)(l:List Nat):List Vj:=.inRegion (aR (sb c n)) l::tT (dg n) c []
abbrev cA(c:VD)(n:Nat):List Vj:=.code (sb c n)::tT (dg n) c []
abbrev xA(x:VD)(c:VD)(n:Nat):List Vj:=.code x::tT (dg n) c []
abbrev dA(c:VD)(n:Nat)(r:Nat):List Vj:=.code (.region r (aR (sb c n)) UJ)::tT (dg n) c []
theorem Sl.get(h:Sl N L t)(a:L.lookup i=UG v):t.getD i UT=v:=h.at_ _ (jK a)
theorem Sl.gN(h:Sl N L t)(i:Nat)(hl:L.lookup i=UG v):t.getD i UT=v:=h.get hl
theorem Sl.put(h:Sl N L t)(c:d<N)(e:∀p∈L',p=(d,v)\/(p∈L/\p.1≠d)):Sl N L' (t.setIfInBounds d v):=by refine⟨by simp[h.size],λp f=>?_⟩;rcases e p f with rfl|⟨a,b⟩;{simp[Sr,h.size,c]};rw[<-h.at_ p a];simp only[Sr];rw[SN (Ne.symm b)]
theorem Sl.sub(h:Sl N L t)(b:∀p∈L',p∈L):Sl N L' t:=⟨h.size,λp a=>h.at_ p (b p a)⟩
theorem aW{o:VB}(h:Sl N L t)(b:Region.wanted o (U7 ops (tm N L t))=UJ):Region.wanted o (U7 ops t)=UJ:=by rw[h.tm];exact b
theorem Sl.pt(h:Sl N L t)(b:d<N:=by decide)(c:L.all (λp=>!(p.1==d))=UJ:=by rfl):Sl N ((d,v)::L) (t.setIfInBounds d v):=h.put b λp a=>by rcases Sv.1 a with rfl|a;{exact .inl rfl};exact .inr ⟨a,by simpa using S7.1 c p a⟩
theorem ry:∀p∈([]:List (UO×UO)),p.1=p.2:=λp a=>by cases a
theorem Iy{a b:UO}{l:List (UO×UO)}(h:a=b)(d:∀p∈l,p.1=p.2):∀p∈(a,b)::l,p.1=p.2:=λp c=>by rcases Sv.1 c with rfl|c;{exact h};exact d p c
theorem int_eq{k:U1}{x y:Int}(h:x=y):UO.int k x=UO.int k y:=by rw[h]
structure Ob where
 c:UO
 b:UO
 h:c=b
def oi(k:U1)(c b:Int)(h:c=b):Ob:=⟨.int k c,.int k b,int_eq h⟩
def o2(c b:Int)(h:c=b):Ob:=oi .u32 c b h
def o3(c b:Int)(h:c=b):Ob:=oi .i32 c b h
def o6(c b:Int)(h:c=b):Ob:=oi .i64 c b h
def o8(c b:Int)(h:c=b):Ob:=oi .u64 c b h
def ob(c b:Bool)(h:c=b):Ob:=⟨.bool c,.bool b,congrArg UO.bool h⟩
def oh(O:List (Nat×Ob)):List (Nat×UO):=O.map λp=>(p.1,p.2.b)
def oo(O:List (Nat×Ob)):List (UO×UO):=O.map λp=>(p.2.c,p.2.b)
theorem tM(O:List (Nat×Ob)):∀p∈oo O,p.1=p.2:=λp a=>by obtain⟨q,_,rfl⟩:=Sw.1 a;exact q.2.h
def iR(P:U9)(H:List (Nat×UO))(n:Nat)(F:U0):Array UO:=match bA P H n F with|some x=>x.1.tmps|none=>#[]
section
variable{k':List Vj}{n:Nat}{obs:List (UO×UO)}
theorem Gs(l:∀a b c,R a b->R b c->R a c)(i:∀w,D w w #[])(n:Nat)(o:Sl N L t)(g:bA P H n (fr f (tm N L t) k)=UG (fr f (iR P H n (fr f (tm N L t) k)) k',obs))(q:∀p∈obs,p.1=p.2)(h:Sl N L' (iR P H n (fr f (tm N L t) k)))(j:∀d,Sl N L' d->Goes P main R D Stop m (G (fr f d k') cs) w):Goes P main R D Stop (m+n) (G (fr f t k) cs) w:=by(have e:fr f t k=fr f (tm N L t) k:=by rw[<-o.tm]);rw[e];exact rL l i n g q rfl Θ (j _ h)
theorem Jc(h:∀F a,(∀w,UY P main (G F cs) w=.go (G a cs) w #[])->J (G a cs)->J (G F cs))(n:Nat)(i:Sl N L t)(c:bA P H n (fr f (tm N L t) k)=UG (fr f (iR P H n (fr f (tm N L t) k)) k',obs))(j:∀p∈obs,p.1=p.2)(d:Sl N L' (iR P H n (fr f (tm N L t) k)))(g:∀b,Sl N L' b->J (G (fr f b k') cs)):J (G (fr f t k) cs):=by(have e:fr f t k=fr f (tm N L t) k:=by rw[<-i.tm]);rw[e];exact ox (main:=main) h n c j rfl Θ (g _ d)
end
end
def xj:UO->Bool
 |.agg _|.tuple _=>Ul
 |_=>UJ
def PV{α:Type}(b:Nat)(r:Option (α×Vu×List Nat)):Option (α×Vu×List Nat):=r.map λr=>(r.1,r.2.1,b::r.2.2)
def jR(P:U9)(rd:Bool){α:Type}:Vg α->Vu->Option (α×Vu×List Nat)
 |.pure a,o=>UG (a,o,[])
 |.program k,o=>jR P rd (k P) o
 |.load .plain ⟨b,i,UM⟩ k,.cells c e fr=>(c[i]?).bind λv=>PV b (jR P rd (k v) (.cells c e fr))
 |.store .plain ⟨b,i,UM⟩ v k,.cells c e (0,0)=>match !rd&&xj v&&decide (i<c.size)with
   |true=>PV b (jR P rd k (.cells (c.setIfInBounds i v) e))
   |false=>UM
 |.getObj r k,.map es n=>PV r (jR P rd (k (.map es n)) (.map es n))
 |.setObj r (.map es' n') k,.map _ _=>match rd with
   |false=>PV r (jR P rd k (.map es' n'))
   |true=>UM
 |_,_=>UM
def Ff(P:U9){α:Type}:Vg α->Option (Vu×(Nat->Vg α))
 |.program k=>Ff P (k P)
 |.new o k=>UG (o,k)
 |_=>UM
def iH(w:UL)(b:Nat)(o:Vu):UL:={w with heap:=w.heap.setIfInBounds b o}
theorem ph{o':Vu}(h:w.heap[b]?=UG o):(iH w b o').heap[b]?=UG o':=by obtain⟨a,_⟩:=So.1 h;simp[iH,a]
theorem oJ{c:Nat}(h:c≠b):(iH w b o).heap[c]?=w.heap[c]?:=by simp[iH,SN (Ne.symm h)]
theorem uJ(w:UL)(b:Nat)(o o':Vu):iH (iH w b o) b o'=iH w b o':=by simp[iH]
theorem ng(h:w.heap[b]?=UG o):iH w b o=w:=by obtain⟨c,a⟩:=So.1 h;(have:w.heap.setIfInBounds b o=w.heap:=Array.ext (by simp) λk d _=>by rw[UH];split;{rename_i e;subst e;exact a.symm};rfl);unfold iH;rw[this]
theorem xO{c:Array UO}{e:U8}(h:w.heap[b]?=UG (.cells c e)):w.setCell ⟨b,i,UM⟩ v=iH w b (.cells (c.setIfInBounds i v) e):=by obtain⟨f,d⟩:=So.1 h;(have:w.heap.modify b (λ|.cells c a frozen=>.cells (c.setIfInBounds i v) a frozen|o=>o)=w.heap.setIfInBounds b (.cells (c.setIfInBounds i v) e):=by apply Array.ext (by simp);intro k g _;rw[Array.getElem_modify,UH];split;{rename_i e;subst e;rw[d]};rfl);unfold UL.setCell iH;rw[<-this];rfl
def xm(b:Nat)(e:Vv):Prop:=(match e.loc with|.cell a=>a.block=b|.obj j=>j=b|_=>False)/\e.sync=Ul
theorem Jf{f:Array Vv->Array Vv}{e:Vv}(i:xm b e)(h:∀es,∃a,f es=es++a/\∀x∈a,xm b x)(es:Array Vv):∃a,f (es.push e)=es++a/\∀x∈a,xm b x:=by obtain⟨a,d,g⟩:=h (es.push e);refine⟨#[e]++a,by simp[d],λx c=>?_⟩;rcases SO.1 c with c|c;{(obtain rfl:=by simpa using c);exact i};exact g x c
theorem kI{r:Option (α×Vu×List Nat)}{a:α}{q:List Nat}(h:PV b r=UG (a,o,q)):∃c,r=UG (a,o,c)/\q=b::c:=by obtain⟨⟨f,g,c⟩,d,e⟩:=St.1 h;cases e;exact⟨c,d,rfl⟩
theorem rH{x:Vg α}:∀{o o':Vu}{q:List Nat}{a:α}{w:UL},jR P rd x o=UG (a,o',q)->(∀r∈q,r=b)->w.heap[b]?=UG o->x.run P w=.ok a (iH w b o')/\∀es,∃u,x.events P w es=es++u/\∀e∈u,xm b e:=by induction x with|pure a=>intro o o' q a w h g d;cases h;exact⟨by rw[ng d];rfl,λes=>⟨#[],by simp,by simp⟩⟩|program k n=>exactλh g d=>n P h g d|load m A k n=>intro o o' q a w h g d;obtain⟨j,i,C⟩:=A;cases m<;>cases C<;>cases o<;>simp only[jR,reduceCtorEq]at h;obtain⟨v,z,h⟩:=SU.1 h;obtain⟨B,s,rfl⟩:=kI h;obtain rfl:j=b:=g _ (S0 ..);obtain⟨l,p⟩:=n v s (λr t=>g r (SW _ t)) d;(have y:w.cell? ⟨j,i,UM⟩=UG v:=by simp[UL.cell?,d,z]);refine⟨by simpa[Vg.run,y]using l,λes=>?_⟩;rw[show(Vg.load Mode.plain ⟨j,i,UM⟩ k).events P w es=(k v).events P w (es.push ⟨.cell ⟨j,i,UM⟩,Ul,Ul⟩)by simp[Vg.events,Vg.runT,y,-Vg.runT_eq];rfl];exact Jf (f:=(k v).events P w) ⟨rfl,rfl⟩ p es|store m A v k n=>intro o o' q a w h g d;obtain⟨j,i,C⟩:=A;(cases m<;>cases C<;>cases o<;>try(exfalso;revert h;simp[jR];done));rename_i c e fr;obtain⟨F,H⟩:=fr;(cases F<;>cases H<;>try(exfalso;revert h;simp[jR];done));simp only[jR]at h;split at h;{rename_i D;rw[Qaa,Qaa,decide_eq_true_eq]at D;obtain⟨⟨_,z⟩,I⟩:=D;obtain⟨B,s,rfl⟩:=kI h;obtain rfl:j=b:=g _ (S0 ..);obtain⟨l,p⟩:=n s (λr t=>g r (SW _ t)) (ph d);rw[uJ,<-xO d]at l;rw[<-xO d]at p;(have y:w.cell? ⟨j,i,UM⟩=UG c[i]:=by simp[UL.cell?,d,I]);(have E:w.frozen? ⟨j,i,UM⟩=Ul:=by simp[UL.frozen?,d]);refine⟨by cases v<;>simp[xj]at z<;>simpa[Vg.run,y,E]using l,λes=>?_⟩;rw[show(Vg.store Mode.plain ⟨j,i,UM⟩ v k).events P w es=k.events P (w.setCell ⟨j,i,UM⟩ v) (es.push ⟨.cell ⟨j,i,UM⟩,UJ,Ul⟩)by cases v<;>simp[xj]at z<;>(simp[Vg.events,Vg.runT,y,E,-Vg.runT_eq];rfl)];exact Jf (f:=k.events P _) ⟨rfl,rfl⟩ p es};cases h|getObj r k n=>intro o o' q a w h g d;cases o<;>simp only[jR,reduceCtorEq]at h;obtain⟨B,s,rfl⟩:=kI h;obtain rfl:r=b:=g _ (S0 ..);obtain⟨l,p⟩:=n _ s (λr t=>g r (SW _ t)) d;refine⟨by simpa[Vg.run,d]using l,λes=>?_⟩;rw[show(Vg.getObj r k).events P w es=(k _).events P w (es.push ⟨.obj r,Ul,Ul⟩)by simp[Vg.events,Vg.runT,d,Vu.isChan,-Vg.runT_eq];rfl];exact Jf (f:=(k _).events P w) ⟨rfl,rfl⟩ p es|setObj r ob k n=>intro o o' q a w h g d;cases rd<;>cases o<;>cases ob<;>simp only[jR,reduceCtorEq]at h;obtain⟨B,s,rfl⟩:=kI h;obtain rfl:r=b:=g _ (S0 ..);obtain⟨l,p⟩:=n s (λr t=>g r (SW _ t)) (ph d);rw[uJ]at l;refine⟨by simp only[Vg.run,d];exact l,λes=>?_⟩;rw[show(Vg.setObj r _ k).events P w es=k.events P (iH w r _) (es.push ⟨.obj r,UJ,Ul⟩)by simp[Vg.events,Vg.runT,d,Vu.isChan,-Vg.runT_eq];rfl];exact Jf (f:=k.events P _) ⟨rfl,rfl⟩ p es|_=>intro o o' q a w h;simp[jR]at h
theorem JU{x:Vg α}:∀{o o':Vu}{q:List Nat}{a:α},jR P UJ x o=UG (a,o',q)->o'=o:=by induction x with|pure a=>intro o o' q a h;cases h;rfl|program k b=>exactλh=>b P h|load m d k b=>intro o o' q a h;obtain⟨j,i,g⟩:=d;cases m<;>cases g<;>cases o<;>simp only[jR,reduceCtorEq]at h;obtain⟨v,s,h⟩:=SU.1 h;obtain⟨p,f,rfl⟩:=kI h;exact b v f|getObj r k b=>intro o o' q a h;cases o<;>simp only[jR,reduceCtorEq]at h;obtain⟨p,f,rfl⟩:=kI h;exact b _ f|store m d v k b=>intro o o' q a h;obtain⟨j,i,g⟩:=d;(cases m<;>cases g<;>cases o<;>try(exfalso;revert h;simp[jR];done));rename_i c e fr;obtain⟨l,n⟩:=fr;cases l<;>cases n<;>exfalso<;>revert h<;>simp[jR]|setObj r ob k b=>intro o o' q a h;cases o<;>cases ob<;>simp[jR]at h|_=>intro o o' q a h;simp[jR]at h
theorem IT{x:Vg α}{k:Nat->Vg α}{a:α}(h:Ff P x=UG (o,k))(d:eG P (k w.heap.size)=UG a):x.run P w=.ok a (w.alloc o)/\x.events P w #[]=#[]:=by induction x with|program f e=>exact e P h|new g f=>cases h;obtain⟨b,c⟩:=iq d (w.alloc o);exact⟨b,c⟩|_=>simp[Ff]at h
def QL:Op->Bool
 |.defer _=>UJ
 |_=>Ul
def AZ(F:U0):Option VB:=match F.todo with
 |.inRegion ops (i::_)::_=>match((ops[i]?).map (Region.wanted · (U7 ops F.tmps))).getD Ul with
   |true=>match ops[i]? with
     |some o=>match QL o.op with|true=>UM|false=>UG o
     |none=>UM
   |false=>UM
 |_=>UM
def valOf:Next->Option UO
 |.value v=>UG v
 |.skip=>UG UT
 |_=>UM
def Ql(P:U9)(rd:Bool)(k:Nat)(F:U0)(H:List (Nat×Vu)):Option (U0×List (Nat×Vu)×List (Nat×Nat)):=
 match AZ F,H[k]? with
 |some o,UG (b,ob)=>match jR P rd (UZ F.eval o) ob with
   |some (n,ob',q)=>(valOf n).map λv=>(F.finish v,H.set k (b,ob'),q.map λr=>(r,b))
   |none=>UM
 |_,_=>UM
def Qd(P:U9)(c:Nat)(F:U0):Option (U0×Vu):=
 match AZ F with
 |some o=>match Ff P (UZ F.eval o)with
   |some (ob,k)=>((eG P (k c)).bind valOf).map λv=>(F.finish v,ob)
   |none=>UM
 |none=>UM
abbrev MR:=U0×List (Nat×Vu)×List (Nat×Nat)×List (UO×UO)
def kz(P:U9)(rd:Bool)(O:List (Nat×UO)):Nat->List Nat->List Nat->U0->List (Nat×Vu)->Option MR
 |0,_,_,F,H=>UG (F,H,[],[])
 |n+1,hs,bs,F,H=>match kM P F with
   |some F1=>(kz P rd O n hs bs (hint O F F1).1 H).map λr=>(r.1,r.2.1,r.2.2.1,(hint O F F1).2++r.2.2.2)
   |none=>match hs with
     |[]=>UG (F,H,[],[])
     |0::hs=>match bs with
       |[]=>UM
       |c::bs=>match Qd P c F with
         |some (F1,ob)=>kz P rd O n hs bs F1 ((c,ob)::H)
         |none=>UM
     |(k+1)::hs=>match Ql P rd k F H with
       |some (F1,H1,q)=>(kz P rd O n hs bs F1 H1).map λs=>(s.1,s.2.1,q++s.2.2.1,s.2.2.2)
       |none=>UM
theorem vU{o:VB}(h:AZ F=UG o):∃ops i rest k,F.todo=.inRegion ops (i::rest)::k/\ops[i]?=UG o/\Region.wanted o (U7 ops F.tmps)=UJ/\∀c,o.op≠.defer c:=by unfold AZ at h;split at h;{rename_i ops i rest k f;split at h;{rename_i g;split at h;{rename_i j d;split at h;{cases h};rename_i b;cases h;refine⟨ops,i,rest,k,f,d,by simpa[d]using g,λc e=>?_⟩;rw[e]at b;cases b};cases h};cases h};cases h
theorem Co{o:VB}{w':UL}{n:Next}(y:F.mode=.run)(r:F.kind≠.early)(h:AZ F=UG o)(A:(UZ F.eval o).run P w=.ok n w')(z:valOf n=UG v):UY P main (G F cs) w=.go (G (F.finish v) cs) w' (seen P F.fn ((UZ F.eval o).events P w #[]))/\(F.finish v).mode=.run/\(F.finish v).kind≠.early:=by obtain⟨p,i,g,k,u,x,q,C⟩:=vU h;obtain⟨fn,tmps,todo,defers,mode,kind,t⟩:=F;subst u y;(have m:=by simpa using r);refine⟨?_,rfl,r⟩;generalize D:U0.eval _=B at A⊢;(have s:UY P main (G {fn:=fn,tmps:=tmps,todo:=.inRegion p (i::g)::k,defers:=defers,mode:=.run,kind:=kind,roundOf:=t} cs) w=UY.apply P UJ {fn:=fn,tmps:=tmps,todo:=.inRegion p (i::g)::k,defers:=defers,mode:=.run,kind:=kind,roundOf:=t} cs UM (UZ B o) w:=by rw[<-D];cases t with|none=>simp only[G,UY,UY.exec,UY.oper,U0.oper?,x,q,SC,SI,if_true]|some l=>simp only[G,UY,UY.exec,UY.oper,U0.oper?,x,q,SC,SI,if_true];split;{rename_i e;exact absurd e (C _)};rfl);rw[s];cases n<;>simp[valOf]at z<;>subst z<;>simp[UY.apply,A,m,GStep.after,G]
theorem JC{es:Array Vv}(h:∀e∈es,xm b e):∀e∈seen P f es,xm b e:=λe a=>by rw[seen_def]at a;rcases seen_fold_sub _ _ _ _ e a with x|x;{simp at x};exact h e (by simpa using x)
theorem Mt{k:Nat}{H H1:List (Nat×Vu)}{q:List (Nat×Nat)}(x:F.mode=.run)(u:F.kind≠.early)(h:Ql P rd k F H=UG (F1,H1,q))(z:∀p∈q,p.1=p.2):∃b o o',H[k]?=UG (b,o)/\H1=H.set k (b,o')/\(rd=UJ->o'=o)/\(∀main cs w,w.heap[b]?=UG o->∃es,UY P main (G F cs) w=.go (G F1 cs) (iH w b o') es/\∀e∈es,xm b e)/\F1.mode=.run/\F1.kind≠.early:=by unfold Ql at h;split at h;{rename_i C b ob y hH;split at h;{rename_i n d D g;obtain⟨v,B,e⟩:=St.1 h;cases e;have a:=λr A=>z (r,b) (Sw.2 ⟨r,A,rfl⟩);have c:∀main cs w,w.heap[b]?=UG ob->UY P main (G F cs) w=.go (G (F.finish v) cs) (iH w b d) (seen P F.fn ((UZ F.eval C).events P w #[]))/\(F.finish v).mode=.run/\(F.finish v).kind≠.early:=λmain cs w f=>Co x u y (rH g a f).1 B;refine⟨b,ob,d,hH,rfl,λe=>by subst e;exact JU g,λmain cs w f=>⟨_,(c main cs w f).1,JC λe i=>?_⟩,(c UJ [] {(default:UL)with heap:=(Array.replicate (b+1) ob)} (by simp)).2⟩;obtain⟨l,m,s⟩:=(rH g a f).2 #[];rw[m]at i;exact s e (by simpa using i)};cases h};cases h
theorem M5(s:F.mode=.run)(q:F.kind≠.early)(h:∀c,∃r,Qd P c F=UG r):∃o,∃e:Nat->U0,(∀c,Qd P c F=UG (e c,o))/\(∀main cs w,UY P main (G F cs) w=.go (G (e w.heap.size) cs) (w.alloc o) #[])/\∀c,(e c).mode=.run/\(e c).kind≠.early:=by unfold Qd at h⊢;cases g:AZ F with|none=>obtain⟨r,b⟩:=h 0;rw[g]at b;cases b|some D=>simp only[g]at h⊢;cases l:Ff P (UZ F.eval D)with|none=>obtain⟨r,b⟩:=h 0;rw[l]at b;cases b|some x=>obtain⟨ob,p⟩:=x;simp only[l]at h⊢;(have j:∀c,∃n v,eG P (p c)=UG n/\valOf n=UG v:=λc=>by obtain⟨r,b⟩:=h c;obtain⟨v,j,_⟩:=St.1 b;obtain⟨n,a,d⟩:=SU.1 j;exact⟨n,v,a,d⟩);(have m:∀main cs(w:UL),UY P main (G F cs) w=.go (G (F.finish (((eG P (p w.heap.size)).bind valOf).getD UT)) cs) (w.alloc ob) #[]:=λmain cs w=>by obtain⟨n,v,a,d⟩:=j w.heap.size;obtain⟨B,C⟩:=IT l a;rw[(Co s q g B d).1,C,lb,a];simp[d]);refine⟨ob,λc=>F.finish (((eG P (p c)).bind valOf).getD UT),λc=>?_,m,λc=>?_⟩;{obtain⟨n,v,a,d⟩:=j c;simp[a,d]};obtain⟨E,i,y,k,a,_⟩:=vU g;obtain⟨H,z,A,f,u,t,I⟩:=F;subst a;exact⟨s,q⟩
structure Carry(P:U9)(rd:Bool)(main:Bool)(cs:List U0)(J:(Nat->Prop)->UP->UL->Prop)(Kn:(Nat->Prop)->UL->List (Nat×Vu)->Prop)(al:Prop):Prop where
 ctl:∀own v F F1,(∀w,UY P main (G F cs) w=.go (G F1 cs) w #[])->J own (G F1 cs) v->J own (G F cs) v
 mem:∀own v H k b o o' F F1,Kn own v H->H[k]?=UG (b,o)->(rd=UJ->o'=o)->(∀w:UL,w.heap[b]?=UG o->∃es,UY P main (G F cs) w=.go (G F1 cs) (iH w b o') es/\∀e∈es,xm b e)->(∀v',Kn own v' (H.set k (b,o'))->J own (G F1 cs) v')->J own (G F cs) v
 new:al->∀own v H o F(F1:Nat->U0),Kn own v H->(∀w:UL,UY P main (G F cs) w=.go (G (F1 w.heap.size) cs) (w.alloc o) #[])->(∀own' c v',Kn own' v' ((c,o)::H)->J own' (G (F1 c) cs) v')->J own (G F cs) v
theorem Carry.run{P:U9}{J:(Nat->Prop)->UP->UL->Prop}{Kn:(Nat->Prop)->UL->List (Nat×Vu)->Prop}{al:Prop}(C:Carry P rd main cs J Kn al)(O:List (Nat×UO)):∀(n:Nat)(g:List Nat)(k:Nat)(_:k≠0->al)(own:Nat->Prop)(v:UL)(F:U0)(H:List (Nat×Vu)),F.mode=.run->F.kind≠.early->Kn own v H->(∀bs:List Nat,bs.length=k->∃r,kz P rd O n g bs F H=UG r/\(∀p∈r.2.2.1,p.1=p.2)/\(∀p∈r.2.2.2,p.1=p.2)/\∀d t,Kn d t r.2.1->J d (G r.1 cs) t)->J own (G F cs) v|0,g,k,z,own,v,F,H,K,I,m,E=>by obtain⟨r,h,_,_,y⟩:=E (List.replicate k 0) (by simp);cases h;exact y own v m|n+1,g,k,z,own,v,F,H,K,I,m,E=>by cases a:kM P F with|some f=>obtain⟨h,u,l⟩:=iE K I a;(have R:(hint O F f).1=f:=by obtain⟨r,e,_,B,_⟩:=E (List.replicate k 0) (by simp);simp only[kz,a]at e;obtain⟨s,_,rfl⟩:=St.1 e;exact wb a λp a=>B p (SL.2 (.inl a)));refine C.ctl own v F f (λw=>h main cs w) (Carry.run C O n g k z own v f H u l m λbs A=>?_);obtain⟨r,e,D,B,N⟩:=E bs A;simp only[kz,a,R]at e;obtain⟨s,M,rfl⟩:=St.1 e;exact⟨s,M,D,λp a=>B p (SL.2 (.inr a)),N⟩|none=>cases g with|nil=>obtain⟨r,e,_,_,y⟩:=E (List.replicate k 0) (by simp);simp only[kz,a,SJ]at e;subst e;exact y own v m|cons j g=>cases j with|zero=>(cases k with|zero=>obtain⟨r,e,_⟩:=E [] rfl;simp[kz,a]at e|succ k=>(obtain⟨o,f,h,u,l⟩:=M5 (P:=P) K I λc=>by obtain⟨r,e,_⟩:=E (c::List.replicate k 0) (by simp);simp only[kz,a]at e;cases S:Qd P c F with|none=>rw[S]at e;cases e|some r=>exact⟨r,rfl⟩);refine C.new (z (by simp)) own v H o F f m (λw=>u main cs w) λd c t i=>Carry.run C O n g k (λ_=>z (by simp)) d t (f c) _ (l c).1 (l c).2 i λbs A=>?_;obtain⟨r,e,T⟩:=E (c::bs) (by simp[A]);simp only[kz,a,h c]at e;exact⟨r,e,T⟩)|succ j=>cases L:Ql P rd j F H with|none=>obtain⟨r,e,_⟩:=E (List.replicate k 0) (by simp);simp[kz,a,L]at e|some x=>obtain⟨f,W,q⟩:=x;obtain⟨b,o,V,h,rfl,u,l,y,Q⟩:=Mt K I L (by obtain⟨r,e,D,_⟩:=E (List.replicate k 0) (by simp);simp only[kz,a,L]at e;obtain⟨s,_,rfl⟩:=St.1 e;exactλp a=>D p (SL.2 (.inl a)));refine C.mem own v H j b o V F f m h u (λw U=>l main cs w U) λt i=>Carry.run C O n g k z own t f _ y Q i λbs A=>?_;obtain⟨r,e,D,B,N⟩:=E bs A;simp only[kz,a,L]at e;obtain⟨s,M,rfl⟩:=St.1 e;exact⟨s,M,λp a=>D p (SL.2 (.inr a)),B,N⟩
end Go.Pw
namespace Go.ae
variable{a a' b':Vs}{v w:UL}{v' x x' y y' z:UO}{i b k g:Nat}{e:RuntimeError}{o o':Vu}{P:U9}{α β γ δ ε ζ:Type}{h:Halt}{t:U8}{n:Int}{op:BinOp}{o1:Vh}{lo lo' hi hi' mx':Option UO}
section
abbrev bC:=Nat->Option Nat
def bC.le(r r':bC):Prop:=∀b c,r b=UG c->r' b=UG c
theorem bC.le_refl(r:bC):r.le r:=λ_ _ h=>h
theorem bC.le_trans{r r' r'':bC}(h:r.le r')(a:r'.le r''):r.le r'':=λb c e=>a b c (h b c e)
structure dG where
 fns:Va->Bool
 seen:Nat->Prop
 zR:Nat->Nat
 aJ:Nat
 low:Nat->Nat:=λ_=>0
def vY:U8:=1000000007
structure Fits(P:U9)(c:dG):Prop where
 aJ:c.aJ=P.globals.size
 bad:P.info? vY=UM
 low:∀g,g<c.aJ->c.low g=0
def dx(c:dG)(r:bC)(a a':Vs):Prop:=r a.block=UG a'.block/\a'.off=a.off/\a'.spot=a.spot/\c.low a.block<=a.off
def Fi(c:dG):Fn->Bool
 |.func f=>c.fns f
 |_=>Ul
inductive aj(c:dG)(r:bC):UO->UO->Prop
 |bool(b:Bool):aj c r (.bool b) (.bool b)
 |int(k:U1)(n:Int):aj c r (.int k n) (.int k n)
 |string(s:ByteArray):aj c r (.string s) (.string s)
 |gO:aj c r (.pointer UM) (.pointer UM)
 |ptr{a a':Vs}:dx c r a a'->aj c r (.pointer (UG a)) (.pointer (UG a'))
 |gP(n m:Nat):aj c r (.slice UM n m) (.slice UM n m)
 |slice{a a':Vs}(n m:Nat):dx c r a a'->aj c r (.slice (UG a) n m) (.slice (UG a') n m)
 |dh(a a':Vs):aj c r (.slice (UG a) 0 0) (.slice (UG a') 0 0)
 |l8:aj c r (.map UM) (.map UM)
 |map{a a':Nat}:r a=UG a'->aj c r (.map (UG a)) (.map (UG a'))
 |func{fn:Fn}{x x' y y':Array UO}:Fi c fn=UJ->x.size=x'.size->(∀(i:Nat)(v v':UO),x[i]?=UG v->x'[i]?=UG v'->aj c r v v')->
  y.size=y'.size->(∀(i:Nat)(v v':UO),y[i]?=UG v->y'[i]?=UG v'->aj c r v v')->aj c r (.func fn x y) (.func fn x' y')
 |nilFunc:aj c r .nilFunc .nilFunc
 |nilIface:aj c r .nilIface .nilIface
 |iface(t:U8){v v':UO}:aj c r v v'->aj c r (.iface t v) (.iface t v')
 |agg{x x':Array UO}:x.size=x'.size->(∀(i:Nat)(v v':UO),x[i]?=UG v->x'[i]?=UG v'->aj c r v v')->aj c r (.agg x) (.agg x')
 |tuple{x x':Array UO}:x.size=x'.size->(∀(i:Nat)(v v':UO),x[i]?=UG v->x'[i]?=UG v'->aj c r v v')->aj c r (.tuple x) (.tuple x')
structure ak(c:dG)(r:bC)(x x':Array UO):Prop where
 size:x.size=x'.size
 el:∀(i:Nat)(v v':UO),x[i]?=UG v->x'[i]?=UG v'->aj c r v v'
theorem dx.mono{c:dG}{r r':bC}(h:r.le r')(x:dx c r a a'):dx c r' a a':=⟨h _ _ x.1,x.2⟩
theorem aj.mono{c:dG}{r r':bC}(h:r.le r'){v:UO}(x:aj c r v v'):aj c r' v v':=by induction x with|bool b=>exact .bool b|int k n=>exact .int k n|string s=>exact .string s|gO=>exact .gO|ptr a=>exact .ptr (a.mono h)|gP n m=>exact .gP n m|slice n m a=>exact .slice n m (a.mono h)|dh a e=>exact .dh a e|l8=>exact .l8|map a=>exact .map (h _ _ a)|func i j _ l _ f g=>exact .func i j f l g|nilFunc=>exact .nilFunc|nilIface=>exact .nilIface|iface t _ d=>exact .iface t d|agg s _ d=>exact .agg s d|tuple s _ d=>exact .tuple s d
theorem ak.mono{c:dG}{r r':bC}(h:r.le r'){x x':Array UO}(k:ak c r x x'):ak c r' x x':=⟨k.size,λi v d a b=>(k.el i v d a b).mono h⟩
theorem aj.tQ{c:dG}{r:bC}{x x':Array UO}(h:ak c r x x'):aj c r (.agg x) (.agg x'):=.agg h.size h.el
theorem aj.kK{c:dG}{r:bC}{x x':Array UO}(h:ak c r x x'):aj c r (.tuple x) (.tuple x'):=.tuple h.size h.el
section rows
variable{c:dG}{r:bC}
theorem ak.get{x x':Array UO}(h:ak c r x x'){v:UO}(b:x[i]?=UG v):∃d,x'[i]?=UG d/\aj c r v d:=by have e:=(So.1 b).1;have a:=h.size▸e;exact⟨x'[i],Su a,h.el i v _ b (Su a)⟩
theorem ak.none{x x':Array UO}(h:ak c r x x')(a:x[i]?=Option.none):x'[i]?=Option.none:=by rw[Array.getElem?_eq_none_iff]at a⊢;rw[<-h.size];exact a
theorem ak.getD{x x':Array UO}(h:ak c r x x')(i:Nat){d d':UO}(b:aj c r d d'):aj c r (x.getD i d) (x'.getD i d'):=by rw[Sr,Sr];cases a:x[i]? with|none=>rw[h.none a];exact b|some v=>obtain⟨f,e,k⟩:=h.get a;simp_all
theorem ak.empty:ak c r #[] #[]:=⟨rfl,λi v a h=>by simp at h⟩
theorem ak.push{x x':Array UO}(h:ak c r x x'){v:UO}(k:aj c r v v'):ak c r (x.push v) (x'.push v'):=by refine⟨by simp[h.size],λi u d a b=>?_⟩;rw[SP]at a b;rw[<-h.size]at b;split at a;{simp_all};rw[if_neg ‹_›]at b;exact h.el i u d a b
theorem ak.append{x x' y y':Array UO}(h:ak c r x x')(k:ak c r y y'):ak c r (x++y) (x'++y'):=by refine⟨by simp[h.size,k.size],λi u d a b=>?_⟩;rw[Array.getElem?_append]at a b;rw[<-h.size]at b;split at a;{rw[if_pos ‹_›]at b;exact h.el i u d a b};rw[if_neg ‹_›]at b;exact k.el _ u d a b
theorem ak.set{x x':Array UO}(h:ak c r x x')(i:Nat){v:UO}(k:aj c r v v'):ak c r (x.setIfInBounds i v) (x'.setIfInBounds i v'):=by refine⟨by simp[h.size],λj u d a b=>?_⟩;rw[Ti]at a b;split at a;{simp_all};rw[if_neg ‹_›]at b;exact h.el j u d a b
theorem ak.extract{x x':Array UO}(h:ak c r x x')(i j:Nat):ak c r (x.extract i j) (x'.extract i j):=by refine⟨by simp[h.size],λk u d a b=>?_⟩;rw[Array.getElem?_extract]at a b;rw[<-h.size]at b;split at a;{rw[if_pos ‹_›]at b;exact h.el _ u d a b};cases a
theorem ak.single{v:UO}(k:aj c r v v'):ak c r #[v] #[v']:=by refine⟨rfl,λi u d a b=>?_⟩;grind
theorem ak.cells{v v':UO}(k:aj c r v v'):ak c r v.cells v'.cells:=by cases k with|agg s e=>exact⟨s,e⟩|bool b=>exact .single (.bool b)|int k n=>exact .single (.int k n)|string s=>exact .single (.string s)|gO=>exact .single .gO|ptr a=>exact .single (.ptr a)|gP n m=>exact .single (.gP n m)|dh a g=>exact .single (.dh a g)|slice n m a=>exact .single (.slice n m a)|l8=>exact .single .l8|map a=>exact .single (.map a)|func a b d e f=>exact .single (.func a b d e f)|nilFunc=>exact .single .nilFunc|nilIface=>exact .single .nilIface|iface t a=>exact .single (.iface t a)|tuple a b=>exact .single (.tuple a b)
theorem ak.map{α:Type}(l:Array α)(f f':α->UO)(h:∀x∈l,aj c r (f x) (f' x)):ak c r (l.map f) (l.map f'):=by refine⟨by simp,λi u d a b=>?_⟩;grind
theorem fW:aj c r UT UT:=.tuple rfl λi v a h=>by simp at h
theorem ak.replicate(n:Nat){v:UO}(k:aj c r v v'):ak c r (Array.replicate n v) (Array.replicate n v'):=by refine⟨by simp,λi u d a b=>?_⟩;grind
end rows
structure FY(c:dG)(r:bC)(e e':Vz):Prop where
 key:aj c r e.key e'.key
 val:aj c r e.val e'.val
 born:e'.born=e.born
inductive mK(c:dG)(r:bC):Vu->Vu->Prop
 |cells{x x':Array UO}(t:U8)(fr:Nat×Nat):ak c r x x'->mK c r (.cells x t fr) (.cells x' t fr)
 |map{x x':Array Vz}(k:Nat):x.size=x'.size->(∀(i:Nat)(e e':Vz),x[i]?=UG e->x'[i]?=UG e'->FY c r e e')->mK c r (.map x k) (.map x' k)
 |iter(s:ByteArray)(p:Nat):mK c r (.stringIter s p) (.stringIter s p)
 |number{a a':Vs}(l:Bool):dx c r a a'->mK c r (.number a l) (.number a' l)
inductive ql(c:dG)(r:bC)(b:Nat):Option Vu->Option Vu->Prop
 |seen{x x':Array UO}(t t':U8)(fr:Nat×Nat):c.seen b->x.size<=c.zR b->x.size<=x'.size->(c.low b=0->t=t')/\(c.low b≠0->t=vY/\c.aJ<=b)->(∀(i:Nat)(v v':UO),c.low b<=i->x[i]?=UG v->x'[i]?=UG v'->aj c r v v')->ql c r b (UG (.cells x t (0,x.size))) (UG (.cells x' t' fr))
 |own{o o':Vu}:¬c.seen b->mK c r o o'->ql c r b (UG o) (UG o')
theorem FY.mono{c:dG}{r r':bC}(h:r.le r'){e e':Vz}(k:FY c r e e'):FY c r' e e':=⟨k.key.mono h,k.val.mono h,k.born⟩
theorem mK.mono{c:dG}{r r':bC}(h:r.le r')(k:mK c r o o'):mK c r' o o':=by cases k with|cells t g k=>exact .cells t g (k.mono h)|map k s e=>exact .map k s λi d f a b=>(e i d f a b).mono h|iter s p=>exact .iter s p|number l a=>exact .number l (a.mono h)
theorem ql.mono{c:dG}{r r':bC}(h:r.le r'){o o':Option Vu}(k:ql c r b o o'):ql c r' b o o':=by cases k with|seen t g f s l z y e=>exact .seen t g f s l z y λi v j a b d=>(e i v j a b d).mono h|own n k=>exact .own n (k.mono h)
structure cm(c:dG)(r:bC)(w v:UL):Prop where
 qg:∀b k:Nat,r b=UG k->b<w.heap.size
 xV:∀b k:Nat,r b=UG k->k<v.heap.size
 inj:∀b b' k:Nat,r b=UG k->r b'=UG k->b=b'\/(c.seen b/\c.seen b')
 qa:∀b:Nat,¬c.seen b->c.low b=0
 hid:∀b:Nat,b<c.aJ->r b=UM->w.heap[b]?=UG (.cells #[] 0)
 blk:∀b k:Nat,r b=UG k->ql c r b w.heap[b]? v.heap[k]?
 tape:v.tape=w.tape
 drawn:v.drawn=w.drawn
 old:∀b:Nat,c.seen b->b<w.heap.size
 aJ:∀b k:Nat,r b=UG k->b<c.aJ->b=k
 iT:c.aJ<=w.heap.size/\c.aJ<=v.heap.size
structure Ext(c:dG)(r:bC)(w v:UL)(r':bC)(w' v':UL):Prop where
 rel:cm c r' w' v'
 le:r.le r'
 grow:w.heap.size<=w'.heap.size
 size:v'.heap.size+w.heap.size=v.heap.size+w'.heap.size
 xU:∀b:Nat,b<w.heap.size->r' b=r b
 new:∀b:Nat,w.heap.size<=b->b<w'.heap.size->r' b=UG (v.heap.size+(b-w.heap.size))
 keep:∀k:Nat,k<v.heap.size->(∀b:Nat,r b=UG k->c.seen b)->v'.heap[k]?=v.heap[k]?
 os:v'.os=v.os
 out:v'.output=v.output
 tape:v'.tape=v.tape
theorem Ext.refl{c:dG}{r:bC}(h:cm c r w v):Ext c r w v r w v:=⟨h,bC.le_refl r,Sm _,by omega,λ_ _=>rfl,λb _ _=>by omega,λ_ _ _=>rfl,rfl,rfl,rfl⟩
theorem Ext.trans{c:dG}{r r1 r2:bC}{w1 v1 w2 v2:UL}(h:Ext c r w v r1 w1 v1)(k:Ext c r1 w1 v1 r2 w2 v2):Ext c r w v r2 w2 v2:=by have n:=h.size;have o:=k.size;have g:=h.grow;have m:=k.grow;refine⟨k.rel,bC.le_trans h.le k.le,Sx g m,by omega,λb a=>(k.xU b (Sn a g)).trans (h.xU b a),λb a f=>?_,λj l i=>?_,k.os.trans h.os,k.out.trans h.out,k.tape.trans h.tape⟩;{rcases SZ b w1.heap.size with e|d;{exact k.le _ _ (h.new b a e)};rw[k.new b d f];grind};rw[k.keep j Ω (λb a=>?_),h.keep j l i];refine i b ?_;rcases SZ b w.heap.size with e|d;{rw[<-h.xU b e];exact a};have:=h.rel.qg b j a;rw[h.new b d this]at a;grind
def rm(c:dG)(r:bC)(e:Vv):Prop:=
 (∃b:Nat,(match e.loc with|.cell a=>r b=UG a.block/\(c.seen b->a.off<c.zR b/\a.spot=UM)|.obj k=>r b=UG k/\¬c.seen b|_=>False)/\(e.write=UJ->¬c.seen b)/\e.sync=Ul)\/e.loc=.mark .noRoom\/∃f,e.loc=.mark (.extern f)
theorem rm.mono{c:dG}{r r':bC}(h:r.le r'){e:Vv}(x:rm c r e):rm c r' e:=by rcases x with⟨b,a,d⟩|x;{refine .inl ⟨b,?_,d⟩;revert a;cases e.loc<;>simp only[imp_self]<;>exactλx=>⟨h _ _ x.1,x.2⟩};exact .inr x
end
section
variable{c:dG}{r:bC}
def Av:Halt->Bool
 |.unsupported (.initOrder _)=>Ul
 |.panic _|.stuck _|.unsupported _=>UJ
 |_=>Ul
def Out(P:U9)(c:dG)(r:bC)(w v:UL)(s:Vg β)(Q:bC->α->β->Prop):Vk α->Prop
 |.ok a w'=>∃b v' r',s.run P v=.ok b v'/\Ext c r w v r' w' v'/\Q r' a b/\∀e∈s.events P v #[],rm c r' e
 |.halt h _=>Av h=UJ
def ae(P:U9)(c:dG)(r:bC)(x:Vg α)(y:Vg β)(Q:bC->α->β->Prop):Prop:=∀w v,cm c r w v->Out P c r w v y Q (x.run P w)
theorem ae.mono{x:Vg α}{y:Vg β}{Q Q':bC->α->β->Prop}(h:ae P c r x y Q)(k:∀d a b,r.le d->Q d a b->Q' d a b):ae P c r x y Q':=by intro w v l;have:=h w v l;cases f:x.run P w with|halt _ _=>rw[f]at this;exact this|ok a n=>rw[f]at this;obtain⟨b,m,d,g,e,i,j⟩:=this;exact⟨b,m,d,g,e,k _ _ _ e.le i,j⟩
theorem ae.bind{x:Vg α}{y:Vg β}{f:α->Vg γ}{g:β->Vg δ}{Q:bC->α->β->Prop}{Q':bC->γ->δ->Prop}(h:ae P c r x y Q)(k:∀l a b,r.le l->Q l a b->ae P c l (f a) (g b) Q'):ae P c r (x>>=f) (y>>=g) Q':=by intro w v t;have i:=h w v t;rw[Vg.run_bind];cases p:x.run P w with|halt _ _=>rw[p]at i;exact i|ok a m=>rw[p]at i;obtain⟨b,F,D,s,n,B,A⟩:=i;have j:=k D a b n.le B m F n.rel;show Out P c r w v (y>>=g) Q' ((f a).run P m);cases o:(f a).run P m with|halt _ _=>rw[o]at j;exact j|ok z J=>rw[o]at j;obtain⟨u,G,E,H,q,C,I⟩:=j;refine⟨u,G,E,?_,n.trans q,C,λe d=>?_⟩;{simp_all};rw[Vg.events_bind,s,Vk.evThen_ok,Vg.events_acc]at d;rcases SO.1 d with d|d;{exact(A e d).mono q.le};simp_all
theorem ae.pure{a:α}{b:β}{Q:bC->α->β->Prop}(h:Q r a b):ae P c r (Pure.pure a) (Pure.pure b) Q:=λ_ v f=>⟨b,v,r,rfl,.refl f,h,λe d=>by simp at d⟩
theorem ae.halt{y:Vg β}{Q:bC->α->β->Prop}(a:Av h=UJ:=by rfl):ae P c r (Vg.halt h) y Q:=λ_ _ _=>a
theorem ae.stuck{s:String}{y:Vg β}{Q:bC->α->β->Prop}:ae P c r (Go.stuck s:Vg α) y Q:=λ_ _ _=>rfl
theorem ae.unsupported{u:Unsupported}{y:Vg β}{Q:bC->α->β->Prop}(a:Av (.unsupported u)=UJ:=by rfl):ae P c r (Go.unsupported u:Vg α) y Q:=λ_ _ _=>a
theorem ae.never{x:Vg α}{y:Vg β}{Q:bC->α->β->Prop}(h:∀w,∃k w',x.run P w=.halt k w'/\Av k=UJ):ae P c r x y Q:=by intro w v _;obtain⟨k,w',e,a⟩:=h w;rw[e];exact a
theorem ae.ite{b:Prop}[Decidable b]{x x':Vg α}{y y':Vg β}{Q:bC->α->β->Prop}(h:b->ae P c r x y Q)(a:¬b->ae P c r x' y' Q):ae P c r (if b then x else x') (if b then y else y') Q:=by by_cases e:b;{rw[if_pos e,if_pos e];exact h e};rw[if_neg e,if_neg e];exact a e
def bQ(P:U9)(q:α->Prop):Vg α->Prop
 |.pure a=>q a
 |.choose _ k=>∀n,bQ P q (k n)
 |.program k=>bQ P q (k P)
 |.mark m k=>m=.noRoom/\bQ P q k
 |.halt h=>Av h=UJ
 |_=>False
abbrev ll(P:U9):Vg α->Prop:=bQ P λ_=>True
theorem bQ.bind{q:α->Prop}{q':β->Prop}{x:Vg α}{f:α->Vg β}(h:bQ P q x)(k:∀a,q a->bQ P q' (f a)):bQ P q' (x>>=f):=by induction x with|pure a=>exact k a h|choose _ g b=>exactλn=>b n (h n)|program g b=>exact b P h|mark m g b=>exact⟨h.1,b h.2⟩|halt z=>exact h|load _ _ _ _=>exact h.elim|store _ _ _ _ _=>exact h.elim|new _ _ _=>exact h.elim|shape _ _ _=>exact h.elim|freeze _ _ _ _=>exact h.elim|frozen _ _ _=>exact h.elim|getObj _ _ _=>exact h.elim|setObj _ _ _ _=>exact h.elim|sys _ _ _=>exact h.elim
theorem ll.bind{q':β->Prop}{x:Vg α}{f:α->Vg β}(h:ll P x)(k:∀a,bQ P q' (f a)):bQ P q' (x>>=f):=bQ.bind h λa _=>k a
def PE(P:U9)(q:α->Prop)(x:Vg α)(w v:UL):Prop:=
 (∃a d,q a/\x.run P w=.ok a {w with drawn:=d}/\x.run P v=.ok a {v with drawn:=d}/\∀e∈x.events P v #[],e.loc=.mark .noRoom)\/∃h w',x.run P w=.halt h w'/\Av h=UJ
theorem bQ.run{q₀:α->Prop}{x:Vg α}(h:bQ P q₀ x):∀(w v:UL),v.tape=w.tape->v.drawn=w.drawn->PE P q₀ x w v:=by induction x with|pure a=>exactλw v _ f=>.inl ⟨a,w.drawn,h,rfl,by rw[<-f];rfl,λe l=>by simp at l⟩|choose q g j=>intro w v i f;have t:∀u:UL,(Vg.choose q g).run P u=if q.forced then(g 0).run P u else(g (q.cut (u.tape u.drawn q))).run P {u with drawn:=u.drawn+1}:=λ_=>rfl;(have y:∀u:UL,(Vg.choose q g).events P u #[]=if q.forced then(g 0).events P u #[]else(g (q.cut (u.tape u.drawn q))).events P {u with drawn:=u.drawn+1} #[]:=λu=>by simp only[Vg.events,Vg.runT];grind);unfold PE;simp only[t,y];by_cases s:q.forced=UJ;{simp only[s];exact j 0 (h 0) w v i f};obtain⟨B,F,E,C,D⟩:=v;rcases j (q.cut (w.tape w.drawn q)) (h _) {w with drawn:=w.drawn+1} ⟨B,w.tape,w.drawn+1,C,D⟩ rfl rfl with⟨a,d,n,o,p,A⟩|x;{simp_all};simp_all|program g j=>exactλw v i f=>j P h w v i f|mark m g j=>intro w v i f;rcases j h.2 w v i f with⟨a,d,n,o,p,A⟩|x;{refine .inl ⟨a,d,n,o,p,λe l=>?_⟩;have k:e∈g.events P v (#[].push ⟨.mark m,Ul,UJ⟩):=l;rw[Vg.events_acc]at k;rcases SO.1 k with x|x;{simp at x;rw[x,h.1]};simp_all};exact .inr x|halt z=>exactλw _ _ _=>.inr ⟨z,w,rfl,h⟩|load _ _ _ _=>exact h.elim|store _ _ _ _ _=>exact h.elim|new _ _ _=>exact h.elim|shape _ _ _=>exact h.elim|freeze _ _ _ _=>exact h.elim|frozen _ _ _=>exact h.elim|getObj _ _ _=>exact h.elim|setObj _ _ _ _=>exact h.elim|sys _ _ _=>exact h.elim
theorem cm.Aj(h:cm c r w v)(d:Nat):cm c r {w with drawn:=d} {v with drawn:=d}:=⟨h.qg,h.xV,h.inj,h.qa,h.hid,h.blk,h.tape,rfl,h.old,h.aJ,h.iT⟩
theorem ae.fA{q:α->Prop}{x:Vg α}(h:bQ P q x):ae P c r x x λ_ a b=>b=a/\q a:=by intro w v f;rcases h.run w v f.tape f.drawn with⟨a,d,g,i,j,l⟩|⟨k,s,e,p⟩;{rw[i];refine⟨a,_,r,j,?_,⟨rfl,g⟩,λe o=>.inr (.inl (l e o))⟩;exact⟨f.Aj d,bC.le_refl r,Sm _,rfl,λ_ _=>rfl,λb m n=>absurd n (Nat.not_lt.2 m),λ_ _ _=>rfl,rfl,rfl,rfl⟩};rw[e];exact p
theorem ae.cJ{x:Vg α}(h:ll P x):ae P c r x x λ_ a b=>b=a:=(ae.fA h).mono λ_ _ _ _ h=>h.1
theorem uZ(a:α):ll P (Pure.pure a):=trivial
theorem lL:ll P program:=trivial
theorem iD(q:Question):ll P (choose q):=λ_=>trivial
theorem dE(t:U8):ll P (typeInfo t):=by refine ll.bind lL λp=>?_;split<;>first|trivial|exact rfl
theorem aE(t:U8):ll P (underlying t):=by refine ll.bind lL λp=>?_;split<;>first|trivial|exact rfl
theorem bB(t:U8):ll P (sizeOf t):=(dE t).bind λ_=>trivial
theorem nX(t:U8):ll P (isAgg t):=(aE t).bind λd=>by split<;>first|trivial|exact rfl
theorem aeL(n:Nat):ll P (askRoom n):=by unfold askRoom;split;{exact⟨rfl,trivial⟩};trivial
end
section
variable{c:dG}{r:bC}
theorem cm.at(h:cm c r w v)(b:dx c r a a'):ql c r a.block w.heap[a.block]? v.heap[a'.block]?:=h.blk _ _ b.1
theorem cm.cell(h:cm c r w v)(g:dx c r a a')(b:w.cell? a=UG x):∃y,v.cell? a'=UG y/\aj c r x y:=by have d:=h.at g;obtain⟨_,m,o,i⟩:=g;unfold UL.cell? at b⊢;generalize q:w.heap[a.block]?=C at d b;generalize p:v.heap[a'.block]?=B at d;cases d with|@seen z D t A j s l u _ e=>grind|own n k=>cases k with|cells t j k=>simp only[o,m]at b⊢;split at b;{cases b};rename_i f;rw[if_neg f];exact k.get b|map _ _ _=>cases b|iter _ _=>cases b|number _ _=>cases b
theorem cm.R7(h:cm c r w v)(g:dx c r a a')(_:w.cell? a=UM)(d:Bool):∃k,w.farLoad P a d=.error k/\Av k=UJ:=by have f:=h.at g;unfold UL.farLoad;generalize b:w.heap[a.block]?=p at f;generalize i:v.heap[a'.block]?=o at f;cases f with|seen t m j s l _ _ e=>exact⟨_,rfl,by simp only[UL.noCell,b];rfl⟩|own n k=>cases k<;>exact⟨_,rfl,by simp only[UL.noCell,b];rfl⟩
theorem cm.within(h:cm c r w v)(f:dx c r a a')(b:w.cell? a=UG x):c.seen a.block->a'.off<c.zR a.block/\a'.spot=UM:=by intro u;have d:=h.at f;obtain⟨_,q,i,-⟩:=f;unfold UL.cell? at b;generalize m:w.heap[a.block]?=A at d b;generalize j:v.heap[a'.block]?=z at d;cases d with|seen t y o s l _ _ e=>simp only at b;split at b;{cases b};have p:=(So.1 b).1;exact⟨by omega,by simp_all⟩|own n k=>simp_all
theorem ae.load(d:dx c r a a'):ae P c r (load a) (load a') (aj c):=by intro w v f;unfold Go.load;cases b:w.cell? a with|none=>obtain⟨k,e,j⟩:=f.R7 (P:=P) d b (Mode.plain==Mode.atomic);(have:(Vg.load .plain a Vg.pure).run P w=.halt k w:=by simp only[Vg.run,b,e]);rw[this];exact j|some x=>obtain⟨y,i,k⟩:=f.cell d b;(have:(Vg.load .plain a Vg.pure).run P w=.ok x w:=by simp only[Vg.run,b]);rw[this];refine⟨y,v,r,by simp only[Vg.run,i],.refl f,k,λe g=>?_⟩;(have h:(Vg.load .plain a' Vg.pure).events P v #[]=#[⟨.cell a',Ul,Ul⟩]:=by simp only[Vg.events,Vg.runT,i];rfl);rw[h]at g;simp at g;subst g;exact .inl ⟨a.block,⟨d.1,f.within d b⟩,by simp,rfl⟩
theorem cm.wh(h:cm c r w v)(j:dx c r a a')(b:w.cell? a=UG x)(g:w.frozen? a=Ul):∃(z i:Array UO)(t:U8)(d:Nat×Nat),¬c.seen a.block/\w.heap[a.block]?=UG (.cells z t d)/\v.heap[a'.block]?=UG (.cells i t d)/\ak c r z i/\a.spot.isSome=Ul:=by have f:=h.at j;unfold UL.cell? at b;unfold UL.frozen? at g;generalize o:w.heap[a.block]?=u at f b g;generalize m:v.heap[a'.block]?=q at f;cases f with|seen t p d s l _ _ e=>simp_all|own n k=>cases k with|cells t d k=>grind|map _ _ _=>cases b|iter _ _=>cases b|number _ _=>cases b
theorem heap_setCell(w:UL)(a:Vs)(x:UO):(w.setCell a x).heap.size=w.heap.size:=by simp[UL.setCell]
theorem lV(w:UL)(a:Vs)(x:UO)(h:b≠a.block):(w.setCell a x).heap[b]?=w.heap[b]?:=by simp[UL.setCell,Tc,Ne.symm h]
theorem lZ(w:UL)(x:UO){z:Array UO}{fr:Nat×Nat}(h:w.heap[a.block]?=UG (.cells z t fr))(b:a.spot.isSome=Ul):(w.setCell a x).heap[a.block]?=UG (.cells (z.setIfInBounds a.off x) t fr):=by simp[UL.setCell,Tc,h,b]
theorem Ext.Pz{w' v':UL}(h:cm c r w v)(p:r b=UG k)(q:¬c.seen b)(D:w'.heap[b]?=UG o)(C:v'.heap[k]?=UG o')(A:mK c r o o')(f:w'.heap.size=w.heap.size)(i:v'.heap.size=v.heap.size)(m:∀j,j≠b->w'.heap[j]?=w.heap[j]?)(s:∀j,j≠k->v'.heap[j]?=v.heap[j]?)(n:v'.tape=v.tape)(t:w'.tape=w.tape)(u:v'.drawn=w'.drawn)(y:v'.os=v.os)(z:v'.output=v.output):Ext c r w v r w' v':=by refine⟨⟨λj l a=>f▸h.qg j l a,λj l a=>i▸h.xV j l a,h.inj,h.qa,λj a B=>by rw[m j (λe=>by simp_all)];exact h.hid j a B,λj l a=>?_,by rw[n,t,h.tape],u,λj a=>by rw[f];exact h.old j a,h.aJ,by rw[f,i];exact h.iT⟩,bC.le_refl r,by omega,by omega,λ_ _=>rfl,λj _ _=>by omega,λl F E=>?_,y,z,n⟩;{by_cases d:j=b;{subst d;rw[p]at a;cases a;rw[D,C];exact .own q A};have g:l≠k:=λe=>d ((h.inj _ _ _ (e▸a) p).resolve_right λx=>q x.2);rw[m j d,s l g];exact h.blk j l a};grind
theorem aj.one(h:aj c r x y):y.oneCell'=x.oneCell':=by cases h<;>rfl
theorem ae.store(b:dx c r a a')(q:aj c r x y):ae P c r (store a x) (store a' y) λ_ _ _=>True:=by intro w v f;unfold Go.store;by_cases B:x.oneCell'=UJ;{(have C:y.oneCell'=UJ:=by rw[q.one,B]);(have e:∀(u:UL)(p:Vs)(z:UO),z.oneCell'=UJ->(Vg.store .plain p z (.pure ())).run P u=match u.cell? p with|some _=>if u.frozen? p then .halt (.unsupported (.unsafePointer "a write to bytes that a string shares")) u else .ok () (u.setCell p z)|none=>match u.farStore P p z Ul with|.ok (U,_)=>.ok () U|.error h=>.halt h u:=by intro u p z H;cases z<;>first|(simp[UO.oneCell']at H;done)|(rfl));rw[e w a x B];cases L:w.cell? a with|none=>have D:=f.at b;(have:∃k,w.farStore P a x Ul=.error k/\Av k=UJ:=by unfold UL.farStore;generalize o:w.heap[a.block]?=Y at D;generalize S:v.heap[a'.block]?=X at D;cases D with|seen t W K s l _ _ e=>exact⟨_,rfl,by simp only[UL.noCell,o];rfl⟩|own n k=>cases k<;>exact⟨_,rfl,by simp only[UL.noCell,o];rfl⟩);obtain⟨k,N,Q⟩:=this;simp only[N];exact Q|some Z=>simp only;cases A:w.frozen? a with|true=>rfl|false=>obtain⟨z,z',t,K,d,I,J,H,i⟩:=f.wh b L A;obtain⟨y0,T,_⟩:=f.cell b L;(have m:a'.spot.isSome=Ul:=by rw[b.2.2.1];exact i);(have O:v.frozen? a'=Ul:=by unfold UL.frozen? at A⊢;rw[I]at A;rw[J];simp only[b.2.1];exact A);have g:=H.set a.off q;refine⟨(),v.setCell a' y,r,?_,?_,trivial,λV E=>?_⟩;{simp_all};{refine Ext.Pz f b.1 d (lZ w x I i) (lZ v y J m) ?_ (heap_setCell _ _ _) (heap_setCell _ _ _) (λj G=>lV w a x G) (λj G=>lV v a' y G) rfl rfl f.drawn rfl rfl;rw[b.2.1];exact .cells t K g};(have F:(Vg.store .plain a' y (.pure ())).events P v #[]=#[⟨.cell a',UJ,Ul⟩]:=by have:=events_store P v #[] a' y .plain C;unfold Go.store at this;simp_all);rw[F]at E;simp at E;subst E;exact .inl ⟨a.block,⟨b.1,λR=>absurd R d⟩,λ_=>d,rfl⟩};refine ae.never (P:=P) (c:=c) (r:=r) (λu=>?_) w v f;cases x<;>first|(simp[UO.oneCell']at B;done)|exact⟨_,_,rfl,rfl⟩
def bC.add(r:bC)(b k:Nat):bC:=λj=>if j=b then UG k else r j
theorem Ext.alloc(h:cm c r w v)(n:mK c r o o'):Ext c r w v (r.add w.heap.size v.heap.size) {w with heap:=w.heap.push o} {v with heap:=v.heap.push o'}:=by have p:=λx=>Sz _ (h.old _ x);(have f:r.le (r.add w.heap.size v.heap.size):=by intro b k a;have:=h.qg b k a;unfold bC.add;grind);refine⟨⟨λb k a=>?_,λb k a=>?_,λb q k a d=>?_,h.qa,λb i a=>?_,λb k a=>?_,h.tape,h.drawn,λb a=>by have:=h.old b a;simp;omega,λb k a i=>?_,by have:=h.iT;simp;omega⟩,f,by simp,by simp;omega,λb a=>by unfold bC.add;grind,λb a d=>?_,λk s _=>?_,rfl,rfl,rfl⟩;{unfold bC.add at a;simp;split at a;{omega};have:=h.qg b k a;omega};{unfold bC.add at a;simp;split at a;{simp_all};have:=h.xV b k a;omega};{unfold bC.add at a d;split at a<;>split at d;{omega};{cases a;have:=h.xV _ _ d;omega};{cases d;have:=h.xV _ _ a;omega};exact h.inj _ _ _ a d};{have m:=Sn i h.iT.1;unfold bC.add at a;rw[if_neg Ω]at a;rw[SP,if_neg Ω];exact h.hid b i a};{unfold bC.add at a;split at a;{rename_i e;subst e;cases a;simp only[Array.getElem?_push_size];exact .own p (n.mono f)};have j:=h.qg b k a;have l:=h.xV b k a;rw[UI j,UI l,<-Su j,<-Su l];exact(h.blk b k a).mono f};{unfold bC.add at a;have:=h.iT;split at a;{omega};exact h.aJ b k a i};{unfold bC.add;grind};grind
theorem bC.FK(r:bC)(b k:Nat):r.add b k b=UG k:=by unfold bC.add;simp
theorem ae.newObj(f:mK c r o o'):ae P c r (newObj o) (newObj o') λg b d=>g b=UG d/\c.low b=0:=by intro w v a;refine⟨v.heap.size,_,_,rfl,Ext.alloc a f,⟨bC.FK _ _ _,a.qa _ λx=>Sz _ (a.old _ x)⟩,λe h=>?_⟩;simp_all
theorem ae.newRow{x x':Array UO}(h:ak c r x x'):ae P c r (newRow t x) (newRow t x') (dx c):=by refine ae.bind (ae.newObj (.cells t (0,0) h)) λe b d _ a=>ae.pure ⟨a.1,rfl,rfl,Tk a.2⟩
theorem ae.newVar(h:aj c r x x'):ae P c r (newVar t x) (newVar t x') (dx c):=ae.newRow (ak.cells h)
theorem dx.add{a a':Vs}(h:dx c r a a')(n:Nat):dx c r (a.add n) (a'.add n):=by unfold Vs.add;split;{exact h};exact⟨h.1,by simp[h.2.1],rfl,Sx h.2.2.2 (SY _ _)⟩
theorem ae.loadCellsFrom(n:Nat):∀{r:bC}{a a':Vs}(i:Nat){acc acc':Array UO},dx c r a a'->ak c r acc acc'->ae P c r (loadCellsFrom a i n acc) (loadCellsFrom a' i n acc') (ak c):=by induction n with|zero=>intro r a a' i acc acc' e b;exact ae.pure b|succ n g=>intro r a a' i acc acc' e b;exact ae.bind (ae.load (e.add i)) λh x j d f=>g (i+1) (e.mono d) ((b.mono d).push f)
theorem ae.loadCells(b:dx c r a a')(n:Nat):ae P c r (loadCells a n) (loadCells a' n) (ak c):=ae.loadCellsFrom n 0 b .empty
theorem ae.EM(i:Fits P c)(b:g<c.aJ)(o:Nat):ae P c r (Go.load ⟨g,o,UM⟩) (Go.load ⟨g,o,UM⟩) (aj c):=by intro w v f;cases d:r g with|some k=>obtain rfl:=f.aJ g k d b;exact ae.load ⟨d,rfl,rfl,Sx (Tk (i.low g b)) (SK _)⟩ w v f|none=>have h:=f.hid g b d;(have e:(Go.load ⟨g,o,UM⟩).run P w=.halt (.stuck "load: no such cell") w:=by simp[Vg.run,UL.cell?,UL.farLoad,UL.noCell,h]);rw[e];exact rfl
theorem ae.sw(f:Fits P c)(h:g<c.aJ)(n:Nat):∀{r:bC}(i:Nat){acc acc':Array UO},ak c r acc acc'->ae P c r (Go.loadCellsFrom ⟨g,0,UM⟩ i n acc) (Go.loadCellsFrom ⟨g,0,UM⟩ i n acc') (ak c):=by induction n with|zero=>intro r i acc acc' a;exact ae.pure a|succ n k=>intro r i acc acc' a;(have e:(⟨g,0,UM⟩:Vs).add i=⟨g,0+i,UM⟩:=by unfold Vs.add;simp_all);unfold Go.loadCellsFrom;rw[e];exact ae.bind (ae.EM f h _) λl x m b j=>k (i+1) ((a.mono b).push j)
theorem ae.Hf(a:Fits P c)(d:g<c.aJ)(t:U8):ae P c r (Go.loadVar t ⟨g,0,UM⟩) (Go.loadVar t ⟨g,0,UM⟩) (aj c):=by refine ae.bind (ae.cJ (nX t)) λp b f k h=>?_;subst h;cases f with|false=>exact ae.EM a d 0|true=>refine ae.bind (ae.cJ (bB t)) λq n o l i=>?_;subst i;exact ae.bind (ae.sw a d _ 0 .empty) λs x u m j=>ae.pure (.tQ j)
theorem ae.storeCells:∀{r:bC}{a a':Vs}{l l':List UO}(i:Nat),dx c r a a'->ak c r l.toArray l'.toArray->ae P c r (storeCells a l i) (storeCells a' l' i) λ_ _ _=>True|r,a,a',[],[],i,b,h=>ae.pure trivial|r,a,a',[],_::_,i,b,h=>by have:=h.size;grind|r,a,a',_::_,[],i,b,h=>by have:=h.size;grind|r,a,a',x::l,g::l',i,b,h=>by refine ae.bind (ae.store (b.add i) (h.el 0 x g Θ Θ)) λm _ _ d _=>?_;refine ae.storeCells (i+1) (b.mono d) ((⟨?_,λj u f k e=>?_⟩:ak c r l.toArray l'.toArray).mono d);{have:=h.size;simp_all};exact h.el (j+1) u f (by simp_all) (by simp_all)
theorem ae.loadVar(t:U8)(d:dx c r a a'):ae P c r (loadVar t a) (loadVar t a') (aj c):=by refine ae.bind (ae.cJ (nX t)) λm g e b h=>?_;subst h;cases e with|false=>exact ae.load (d.mono b)|true=>refine ae.bind (ae.cJ (bB t)) λo n l f i=>?_;subst i;exact ae.bind (ae.loadCells ((d.mono b).mono f) _) λp x q k j=>ae.pure (.tQ j)
theorem ae.storeVar(t:U8)(j:dx c r a a')(h:aj c r x x'):ae P c r (storeVar t a x) (storeVar t a' x') λ_ _ _=>True:=by refine ae.bind (ae.cJ (bB t)) λg n d f k=>?_;subst k;have l:=(ak.cells h).size;have b:ae P c g (Go.storeCells a x.cells.toList) (Go.storeCells a' x'.cells.toList) λ_ _ _=>True:=ae.storeCells 0 (j.mono f) (by simpa using(ak.cells h).mono f);rw[<-l];by_cases e:x.cells.size≠d;{rw[if_pos e,if_pos e];exactλ_ _ _=>rfl};rw[if_neg e,if_neg e];exact b
theorem ae.getObj{b':Nat}(D:r b=UG b'){k:Vu->Vg α}{k':Vu->Vg β}{Q:bC->α->β->Prop}(G:∀o o',¬c.seen b->mK c r o o'->(∀x t f,o≠.cells x t f)->ae P c r (k o) (k' o') Q):ae P c r (getObj b>>=k) (getObj b'>>=k') Q:=by intro w v E;have F:=E.blk b b' D;rw[Vg.run_bind];(have C:∀(u:UL)(j:Nat),(Go.getObj j).run P u=match u.heap[j]? with|some (.cells ..)=>.halt (.stuck "getObj: a row of cells") u|some o=>.ok o u|none=>.halt (.stuck "getObj: no such block") u:=by intro u j;unfold Go.getObj;simp only[Vg.run];rfl);rw[C];generalize O:w.heap[b]?=U at F;generalize g:v.heap[b']?=T at F;cases F with|seen _ _ _ _ _ _ _ _=>exact rfl|own n N=>rename_i o o';cases N with|cells t S _=>exact rfl|map R L M=>have:=G _ _ n (.map R L M) (λ_ _ _ h=>by cases h) w v E;revert this;show Out P c r w v _ Q ((k _).run P w)->Out P c r w v _ Q ((k _).run P w);(cases(k _).run P w with|halt _ _=>exactλh=>h|ok a J=>rintro⟨q,B,A,H,i,z,I⟩;refine⟨q,B,A,by simp_all,i,z,λe d=>?_⟩;rw[Vg.events_bind,C,g]at d;(have y:(Go.getObj b').events P v #[]=#[⟨.obj b',Ul,Ul⟩]:=by simp[Go.getObj,Vg.events,Vg.runT,g,Vu.isChan,-Vg.runT_eq]);simp only[Vk.evThen_ok]at d;rw[Vg.events_acc,y]at d;rcases SO.1 d with d|d;{simp at d;subst d;exact .inl ⟨b,⟨i.le _ _ D,n⟩,by simp,rfl⟩};simp_all)|iter s p=>have:=G _ _ n (.iter s p) (λ_ _ _ h=>by cases h) w v E;revert this;show Out P c r w v _ Q ((k _).run P w)->Out P c r w v _ Q ((k _).run P w);(cases(k _).run P w with|halt _ _=>exactλh=>h|ok a J=>rintro⟨q,B,A,H,i,z,I⟩;refine⟨q,B,A,by simp_all,i,z,λe d=>?_⟩;rw[Vg.events_bind,C,g]at d;(have y:(Go.getObj b').events P v #[]=#[⟨.obj b',Ul,Ul⟩]:=by simp[Go.getObj,Vg.events,Vg.runT,g,Vu.isChan,-Vg.runT_eq]);simp only[Vk.evThen_ok]at d;rw[Vg.events_acc,y]at d;rcases SO.1 d with d|d;{simp at d;subst d;exact .inl ⟨b,⟨i.le _ _ D,n⟩,by simp,rfl⟩};simp_all)|number l K=>have:=G _ _ n (.number l K) (λ_ _ _ h=>by cases h) w v E;revert this;show Out P c r w v _ Q ((k _).run P w)->Out P c r w v _ Q ((k _).run P w);cases(k _).run P w with|halt _ _=>exactλh=>h|ok a J=>rintro⟨q,B,A,H,i,z,I⟩;refine⟨q,B,A,by simp_all,i,z,λe d=>?_⟩;rw[Vg.events_bind,C,g]at d;(have y:(Go.getObj b').events P v #[]=#[⟨.obj b',Ul,Ul⟩]:=by simp[Go.getObj,Vg.events,Vg.runT,g,Vu.isChan,-Vg.runT_eq]);simp only[Vk.evThen_ok]at d;rw[Vg.events_acc,y]at d;rcases SO.1 d with d|d;{simp at d;subst d;exact .inl ⟨b,⟨i.le _ _ D,n⟩,by simp,rfl⟩};simp_all
theorem ae.setObj{b':Nat}(i:r b=UG b')(z:¬c.seen b)(A:mK c r o o')(I:o.isChan=Ul):ae P c r (setObj b o) (setObj b' o') λ_ _ _=>True:=by intro w v k;have m:=k.blk b b' i;(have C:∀(u:UL)(j:Nat)(o:Vu),(Go.setObj j o).run P u=match u.heap[j]? with|some (.cells ..)=>.halt (.stuck "setObj: a row of cells") u|some _=>.ok () {u with heap:=u.heap.setIfInBounds j o}|none=>.halt (.stuck "setObj: no such block") u:=by intro u j o;rfl);rw[C];have n:=k.qg b b' i;have y:=k.xV b b' i;(have E:o'.isChan=Ul:=by cases A<;>rfl);generalize H:w.heap[b]?=K at m;generalize g:v.heap[b']?=J at m;(have d:∀q,v.heap[b']?=UG q->(∀x t f,q≠.cells x t f)->q.isChan=Ul->Out P c r w v (Go.setObj b' o') (λ_ _ _=>True) (.ok () {w with heap:=w.heap.setIfInBounds b o}):=by intro q F G B;refine⟨(),{v with heap:=v.heap.setIfInBounds b' o'},r,?_,?_,trivial,λe p=>?_⟩;{simp_all};{exact Ext.Pz k i z (by simp[n]) (by simp[y]) A Θ Θ (λj s=>SN (Ne.symm s)) (λj s=>SN (Ne.symm s)) rfl rfl k.drawn rfl rfl};(have D:(Go.setObj b' o').events P v #[]=#[⟨.obj b',UJ,Ul⟩]:=by unfold Go.setObj;simp only[Vg.events,Vg.runT,F];simp_all);rw[D]at p;simp at p;subst p;exact .inl ⟨b,⟨i,z⟩,λ_=>z,rfl⟩);cases m with|seen _ _ _ x _ _ _ _=>rfl|own _ h=>cases h with|cells _ _ _=>exact rfl|map _ _ _=>exact d _ g (λ_ _ _ h=>by cases h) rfl|iter _ _=>exact d _ g (λ_ _ _ h=>by cases h) rfl|number _ _=>exact d _ g (λ_ _ _ h=>by cases h) rfl
end
section
variable{c:dG}{r:bC}
def Flat(v:UO):Prop:=∀(c:dG)(r:bC),aj c r v v
theorem Flat.int(k:U1)(n:Int):Flat (.int k n):=λ_ _=>.int k n
theorem Flat.bool(b:Bool):Flat (.bool b):=λ_ _=>.bool b
theorem Flat.string(s:ByteArray):Flat (.string s):=λ_ _=>.string s
def jz:Nat->UO->Bool
 |0,_=>Ul
 |_+1,.bool _|_+1,.int _ _|_+1,.string _|_+1,.pointer UM|_+1,.slice UM _ _|_+1,.map UM|_+1,.nilFunc|_+1,.nilIface=>UJ
 |n+1,.agg x|n+1,.tuple x=>x.all (jz n)
 |_,_=>Ul
theorem ir:∀{n:Nat}{v:UO},jz n v=UJ->Flat v|0,_,h=>by simp[jz]at h|n+1,v,h=>by intro c r;cases v with|bool b=>exact .bool b|int k n=>exact .int k n|float _ _=>simp[jz]at h|complex _ _ _=>simp[jz]at h|string s=>exact .string s|pointer a=>(cases a with|none=>exact .gO|some _=>simp[jz]at h)|slice a n m=>(cases a with|none=>exact .gP n m|some _=>simp[jz]at h)|map a=>(cases a with|none=>exact .l8|some _=>simp[jz]at h)|chan _=>simp[jz]at h|func _ _ _=>simp[jz]at h|nilFunc=>exact .nilFunc|iface _ _=>simp[jz]at h|nilIface=>exact .nilIface|agg x=>simp only[jz,Array.all_eq_true]at h;refine .agg rfl λi v f a b=>?_;rw[a]at b;cases b;obtain⟨e,rfl⟩:=So.1 a;exact ir (h i e) c r|tuple x=>simp only[jz,Array.all_eq_true]at h;refine .tuple rfl λi v f a b=>?_;rw[a]at b;cases b;obtain⟨e,rfl⟩:=So.1 a;exact ir (h i e) c r
theorem ae.flat{x:Vg UO}(h:bQ P Flat x):ae P c r x x (aj c):=(ae.fA h).mono λd a b _⟨e,h⟩=>by subst e;exact h c d
theorem bP:bQ P (λp=>p=P) program:=rfl
theorem jv(t:U8):bQ P (λi=>P.info? t=UG i) (typeInfo t):=by refine bQ.bind bP λp a=>?_;subst a;cases h:p.info? t with|none=>exact rfl|some i=>exact rfl
theorem rV(t:U8)(a:∀z,(P.info? t).bind (·.zero)=UG z->Flat z):bQ P Flat (zeroValue t):=by refine bQ.bind (jv t) λi b=>?_;cases h:i.zero with|none=>exact rfl|some v=>exact a v (by grind)
theorem nL(a:BinOp)(k:U1)(x y:Int):bQ P Flat (Op.intArith a k x y):=by unfold Op.intArith;split<;>first|exact .int _ _|exact rfl
theorem yR(a:BinOp)(k:U1)(x y:Int):bQ P Flat (Op.intDiv a k x y):=by unfold Op.intDiv;split;{rfl};split<;>first|exact .int _ _|exact rfl
theorem pG(a:BinOp)(k:U1)(x y:Int):bQ P Flat (Op.intBits a k x y):=by unfold Op.intBits;split<;>first|exact .int _ _|exact rfl
theorem zP(a:BinOp)(x y:Int):bQ P Flat (Op.intCmp a x y):=by unfold Op.intCmp;split<;>first|exact .bool _|exact rfl
theorem sI(a:BinOp)(k b:U1)(x y:Int):bQ P Flat (Op.shift a k x b y):=by unfold Op.shift;split;{rfl};split<;>first|exact .int _ _|exact rfl
theorem kC(a:BinOp)(x y:ByteArray):bQ P Flat (Op.stringOp a x y):=by unfold Op.stringOp;split<;>first|exact .bool _|exact rfl|(split<;>first|exact .string _|exact rfl)
theorem km{q:α->Prop}(s:String):bQ P q (Go.stuck s):=rfl
theorem pd{q:α->Prop}{b:Prop}[Decidable b]{x y:Vg α}(a:bQ P q x)(d:bQ P q y):bQ P q (if b then x else y):=by grind
theorem mL(d:BinOp)(t:U8)(k j:U1)(a b:Int):bQ P Flat (binOp d t (.int k a) (.int j b)):=by cases d<;>first|exact sI .shl k j a b|exact sI .shr k j a b|exact pd (km _) (nL _ _ _ _)|exact pd (km _) (yR _ _ _ _)|exact pd (km _) (pG _ _ _ _)|exact pd (km _) (zP _ _ _)
theorem jS(d:BinOp)(t:U8)(a b:ByteArray):bQ P Flat (binOp d t (.string a) (.string b)):=by(have:binOp d t (.string a) (.string b)=Op.stringOp d a b:=by cases d<;>rfl);rw[this];exact kC _ _ _
theorem ae.asBool(h:aj c r x x'):ae P c r (asBool x) (asBool x') λ_ a b=>b=a:=by cases h<;>first|exact ae.pure rfl|exact ae.stuck
theorem ae.asIntOf(h:aj c r x x'):ae P c r (asIntOf x) (asIntOf x') λ_ a b=>b=a:=by cases h<;>first|exact ae.pure rfl|exact ae.stuck|exact ae.unsupported
theorem ae.asInt(h:aj c r x x'):ae P c r (asInt x) (asInt x') λ_ a b=>b=a:=ae.bind (ae.asIntOf h) λ_ a b _ e=>ae.pure (by rw[e])
theorem ae.asAgg(h:aj c r x x'):ae P c r (asAgg x) (asAgg x') (ak c):=by cases h with|agg a b=>exact ae.pure ⟨a,b⟩|_=>exact ae.stuck
def gm(P:U9)(x:Vg α):Prop:=∀w h w',x.run P w=.halt h w'->Av h=UJ
def kX(P:U9)(x:Vg α):Prop:=∀w,∃k w',x.run P w=.halt k w'/\Av k=UJ
theorem bQ.y4{q:α->Prop}{x:Vg α}(h:bQ P q x):gm P x:=by intro w k j e;rcases h.run w w rfl rfl with⟨a,d,_,b,_⟩|⟨i,f,b,g⟩;{simp_all};simp_all
theorem gm.bind{x:Vg α}{f:α->Vg β}(d:gm P x)(h:∀a,gm P (f a)):gm P (x>>=f):=by intro w k j e;rw[Vg.run_bind]at e;cases b:x.run P w with|halt i g=>rw[b]at e;cases e;exact d _ _ _ b|ok a g=>rw[b]at e;exact h a _ _ _ e
theorem dP{x:Vg α}{f:α->Vg β}(e:gm P x)(h:∀a,kX P (f a)):kX P (x>>=f):=by intro w;rw[Vg.run_bind];cases d:x.run P w with|halt k b=>exact⟨k,b,rfl,e _ _ _ d⟩|ok a b=>exact h a b
theorem gB{x:Vg α}{f:α->Vg β}(h:kX P x):kX P (x>>=f):=by intro w;obtain⟨k,b,e,a⟩:=h w;simp_all
theorem eW(a:Av h=UJ:=by rfl):kX P (Vg.halt h:Vg α):=λw=>⟨h,w,rfl,a⟩
theorem qJ(o:Vu):gm P (newObj o):=λ_ _ _ e=>by cases e
theorem dK(a:α):gm P (Pure.pure a:Vg α):=λ_ _ _ e=>by cases e
theorem zX(b:Nat):gm P (shape b):=λ_ _ _ e=>by cases e
theorem xY(a:Vs):gm P (frozen a):=λ_ _ _ e=>by cases e
theorem qU(t:U8):ll P (elemOf t):=(aE t).bind λd=>by cases d<;>first|trivial|exact rfl
theorem acz(e:RuntimeError):kX P (runtimePanic e:Vg α):=by refine dP lL.y4 λp=>?_;cases e with|typeAssertion i q a m=>exact dP (qU _).y4 λz=>dP ((qJ _).bind λ_=>dK _) λ_=>eW|panicNil=>exact dP (qU _).y4 λz=>dP ((qJ _).bind λ_=>dK _) λ_=>eW|_=>exact eW
theorem ae.runtimePanic{y:Vg β}{Q:bC->α->β->Prop}:ae P c r (Go.runtimePanic e:Vg α) y Q:=ae.never (acz e)
theorem pF(k:U1)(x y:Int)(a:BoundsCode):kX P (boundsPanic k x y a:Vg α):=by unfold boundsPanic;split;{exact dP ((iD _).bind λ_=>uZ _).y4 λ_=>acz _};exact dP (uZ _).y4 λ_=>acz _
theorem ae.boundsPanic{k:U1}{m:Int}{code:BoundsCode}{y:Vg β}{Q:bC->α->β->Prop}:ae P c r (Go.boundsPanic k n m code:Vg α) y Q:=ae.never (pF k n m code)
theorem ae.sureAddr(h:aj c r x x'):ae P c r (Instr.sureAddr x) (Instr.sureAddr x') (dx c):=by cases h with|ptr h=>exact ae.pure h|_=>exact ae.stuck
theorem ae.asAddr(h:aj c r x x'):ae P c r (asAddr x) (asAddr x') (dx c):=by cases h with|ptr h=>exact ae.pure h|gO=>exact ae.runtimePanic (e:=.nilDeref)|_=>exact ae.stuck
theorem ae.part(t:U8)(off:Nat){x x':Array UO}(h:ak c r x x'):ae P c r (part t x off) (part t x' off) (aj c):=by refine ae.bind (ae.cJ (nX t)) λm g f a j=>?_;subst j;cases f with|true=>exact ae.bind (ae.cJ (bB t)) λp n o i l=>by subst l;exact ae.pure (.tQ (((h.mono a).mono i).extract _ _))|false=>cases e:x[off]? with|none=>exact ae.stuck|some v=>obtain⟨q,d,k⟩:=(h.mono a).get e;rw[d];exact ae.pure k
theorem CZ(t:U8)(d:∀z,(P.info? t).bind (·.zero)=UG z->Flat z):ae P c r (Instr.alloc t UJ (.tuple #[])) (Instr.alloc t UJ (.tuple #[])) (aj c):=by refine ae.bind (ae.flat (rV t d)) λg z j f d=>?_;exact ae.bind (ae.newVar d) λi a e _ h=>ae.pure (.ptr h)
theorem J3(t:U8)(h:aj c r x x'):ae P c r (Instr.box t x) (Instr.box t x') (aj c):=ae.bind (ae.newVar h) λe a d _ h=>ae.pure (.ptr h)
theorem yh(d:Nat->Option (Nat×Nat)):∀(l q:List (Nat×UO)){z z':Array UO},ak c r z z'->l.map (·.1)=q.map (·.1)->ak c r (l.map (·.2)).toArray (q.map (·.2)).toArray->
 match Instr.fill d z l with|some y=>∃I,Instr.fill d z' q=UG I/\ak c r y I|none=>True
 |[],[],z,z',h,_,_=>⟨z',rfl,h⟩
 |[],_::_,_,_,_,e,_=>by simp at e
 |_::_,[],_,_,_,e,_=>by simp at e
 |(i,v)::l,(O,t)::q,z,z',h,e,w=>by
   simp only[SH,Ta]at e
   obtain⟨rfl,e⟩:=e
   have F:aj c r v t:=w.el 0 v t Θ Θ
   have A:ak c r (l.map (·.2)).toArray (q.map (·.2)).toArray:=⟨by have:=w.size;simp_all,λj u E a b=>w.el (j+1) u E (by grind) (by grind)⟩
   have M:=(ak.cells F).size
   have C:=h.size
   unfold Instr.fill
   cases d i with
   |none=>trivial
   |some p=>
     obtain⟨k,H⟩:=p
     simp only[<-M,<-C]
     split
     · rename_i y G
       split at G
       ·cases G
       · rename_i L
         rw[if_neg L]
         have D:∀(s f:List (UO×Nat))(z z':Array UO),ak c r z z'->s.map (·.2)=f.map (·.2)->ak c r (s.map (·.1)).toArray (f.map (·.1)).toArray->
          ak c r (s.foldl (λm(x:UO×Nat)=>m.setIfInBounds (k+x.2) x.1) z) (f.foldl (λm(x:UO×Nat)=>m.setIfInBounds (k+x.2) x.1) z'):=by
          intro s
          induction s with
          |nil=>simp_all
          |cons p s N=>intro f z z' C e B;cases f with
            |nil=>simp at e
            |cons Q f=>
              simp only[SH,Ta]at e
              rw[TE,TE,<-e.1]
              exact N f _ _ (C.set _ (B.el 0 _ _ Θ Θ)) e.2 ⟨by have:=B.size;simp_all,λj u E a b=>B.el (j+1) u E (by grind) (by grind)⟩
         have n:ak c r (v.cells.zipIdx.foldl (λm(x:UO×Nat)=>m.setIfInBounds (k+x.2) x.1) z) (t.cells.zipIdx.foldl (λm(x:UO×Nat)=>m.setIfInBounds (k+x.2) x.1) z'):=by
          rw[<-Array.foldl_toList,<-Array.foldl_toList]
          refine D _ _ _ _ h ?_ ?_
          ·simp_all
          · have J:(v.cells.zipIdx.toList.map (·.1)).toArray=v.cells:=by simp
            have K:(t.cells.zipIdx.toList.map (·.1)).toArray=t.cells:=by simp
            rw[J,K];exact ak.cells F
         have:=yh d l q n e A
         simp_all
     ·trivial
end
section
variable{c:dG}{r:bC}
inductive tn(c:dG)(b:Nat):Option (U8×Nat)->Option (U8×Nat)->Prop
 |none:tn c b UM UM
 |some(t:U8){n m:Nat}:n<=m->c.low b=0->tn c b (UG (t,n)) (UG (t,m))
 |bad(t':U8){n m:Nat}:c.low b≠0->c.aJ<=b->tn c b (UG (vY,n)) (UG (t',m))
theorem tn.isSome{s s':Option (U8×Nat)}(h:tn c b s s'):s.isSome=s'.isSome:=by cases h<;>rfl
theorem qc{p:U9}{d:Nat}{e:U8}{n m off:Nat}{bs:Int}{o:Nat}(h:n<=m)(a:cellAtBytes p d e n off bs=UG o):cellAtBytes p d e m off bs=UG o:=by unfold cellAtBytes at a⊢;simp only[]at a⊢;split at a;{cases a};rename_i f;rw[if_neg f];simp only[Option.bind_eq_bind]at a⊢;cases i:byteOfCell p d e (off%p.cellsOf e)with|none=>simp_all|some b=>rw[i]at a;simp only[Te]at a⊢;split at a;{cases a};rename_i g;rw[if_neg ?_];{exact a};simp only[Tz,decide_eq_true_eq,Int.ofNat_eq_natCast]at g⊢;have:n*p.bytesOf e<=m*p.bytesOf e:=Uw _ h;omega
theorem cm.shape(h:cm c r w v)(g:r b=UG k):tn c b (w.shape? b) (v.shape? k):=by have d:=h.blk b k g;unfold UL.shape?;generalize w.heap[b]?=p at d;generalize v.heap[k]?=o at d;cases d with|@seen x q t m f s l z y e=>by_cases a:c.low b=0;{obtain rfl:=y.1 a;exact .some t z a};obtain⟨rfl,i⟩:=y.2 a;exact .bad m a i|own n j=>cases j with|cells t f k=>exact .some t (by simp[k.size]) (h.qa b n)|_=>exact .none
theorem ae.shape(d:r b=UG k):ae P c r (shape b) (shape k) λ_ x y=>tn c b x y:=by intro w v a;exact⟨v.shape? k,v,r,rfl,.refl a,a.shape d,λe f=>by simp_all⟩
theorem ae.viewAt(f:r b=UG k):ae P c r (viewAt b) (viewAt k) λ_ x y=>x=UM/\y=UM:=by refine ae.bind (ae.shape f) λg s d h l=>?_;have a:=l.isSome;by_cases e:d.isSome=UJ;{rw[a,if_pos e,if_pos e];exact ae.pure ⟨rfl,rfl⟩};rw[a,if_neg e,if_neg e];refine ae.getObj (h _ _ f) λo n _ j i=>?_;cases j with|cells t m _=>exact absurd rfl (i _ _ _)|_=>exact ae.pure ⟨rfl,rfl⟩
theorem ae.noView(d:dx c r a a'):ae P c r (noView a) (noView a') λ_ _ _=>True:=by refine ae.bind (ae.viewAt d.1) λf s g e b=>?_;rw[b.1,b.2];exact ae.pure trivial
def L8(c:dG)(r:bC):Option (Vs×Bool)->Option (Vs×Bool)->Prop
 |none,UM=>True
 |some (a,l),UG (a',l')=>dx c r a a'/\l'=l
 |_,_=>False
theorem ae.numberAt(f:r b=UG k):ae P c r (numberAt b) (numberAt k) (L8 c):=by refine ae.bind (ae.shape f) λn s g h m=>?_;have d:=m.isSome;rw[d];by_cases e:g.isSome=UJ;{rw[if_pos e,if_pos e];exact ae.pure trivial};rw[if_neg e,if_neg e];refine ae.getObj (h _ _ f) λo q _ j i=>?_;cases j with|cells t p _=>exact absurd rfl (i _ _ _)|number l a=>exact ae.pure ⟨a,rfl⟩|_=>exact ae.pure trivial
theorem ae.behindNumber(d:dx c r a a'):ae P c r (behindNumber a) (behindNumber a') λf x y=>dx c f x.1 y.1/\y.2=x.2:=by refine ae.bind (ae.numberAt d.1) λi s g e b=>ae.pure ?_;match s,g,b with|none,UM,_=>exact⟨d.mono e,rfl⟩|some (x,l),UG (j,h),b=>exact b
theorem ae.asNumber(b:dx c r a a')(l:Bool):ae P c r (asNumber a l) (asNumber a' l) (aj c):=ae.bind (ae.newObj (.number l b)) λ_ _ _ _ h=>ae.pure (.ptr ⟨h.1,rfl,rfl,Tk h.2⟩)
theorem ae.byteOf(b:dx c r a a')(g:c.low a.block=0\/a.block<c.aJ):ae P c r (byteOf a) (byteOf a') λ_ x y=>y=x:=by have e:=b.2.2.1;unfold Go.byteOf;rw[e];cases a.spot with|some s=>exact ae.pure rfl|none=>refine ae.bind (ae.fA bP) λn p m d i=>?_;obtain⟨rfl,rfl⟩:=i;refine ae.bind (ae.noView (b.mono d)) λo _ _ f _=>?_;refine ae.bind (ae.shape ((b.mono d).mono f).1) λq s t l e=>?_;rw[b.2.1];cases e with|none=>exact ae.stuck|bad x k d=>exact absurd g Ω|some x h=>refine ae.cJ ?_;simp only[];split;{trivial};split<;>first|trivial|exact rfl
theorem ae.unsafeAdd(z:Fits P c)(h:aj c r x x')(k:aj c r y y'):ae P c r (Vm.unsafeAdd_ #[] t #[x,y]) (Vm.unsafeAdd_ #[] t #[x',y']) (aj c):=by(have f:∀{a j:Option Vs},aj c r (.pointer a) (.pointer j)->ae P c r (Vm.unsafeAdd_ #[] t #[.pointer a,y]) (Vm.unsafeAdd_ #[] t #[.pointer j,y']) (aj c):=by intro a j h;refine ae.bind (ae.asInt k) λF n E v A=>?_;subst A;have h:=h.mono v;simp only[];split;{cases h with|gO=>exact ae.unsupported|ptr b=>refine ae.bind (ae.viewAt b.1) λB s D l g=>?_;rw[g.1,g.2];exact ae.pure (.ptr (b.mono l))};split;{exact ae.unsupported};cases h with|gO=>exact ae.unsupported|ptr b=>refine ae.bind (ae.shape b.1) λB s D l g=>?_;cases g with|none=>exact ae.unsupported|bad x u v=>refine ae.bind (ae.fA bP) λC p i w o=>?_;obtain⟨rfl,rfl⟩:=o;(have:i.cellsOf vY=0:=by unfold U9.cellsOf;rw[z.bad];rfl);(have:∀n d q,cellAtBytes i i.depth vY n d q=UM:=λn d q=>by unfold cellAtBytes;simp[this]);simp only[this];exact ae.unsupported|some x m u=>refine ae.bind (ae.fA bP) λC p i w o=>?_;obtain⟨rfl,rfl⟩:=o;rw[b.2.1];split;{rename_i d e;rw[qc (Nat.div_le_div_right m) e];exact ae.pure (.ptr ⟨((b.mono l).mono w).1,rfl,b.2.2.1,Sx (Tk u) (SK _)⟩)};exact ae.unsupported);cases h with|gO=>exact f .gO|ptr b=>exact f (.ptr b)|_=>exact ae.stuck
theorem ae.movedNumber(g:Fits P c)(h:aj c r x x')(k:aj c r y y'):ae P c r (movedNumber t x y) (movedNumber t x' y') (aj c):=by refine ae.bind (ae.cJ (aE t)) λH d E p w=>?_;subst w;have h:=h.mono p;have k:=k.mono p;refine ae.ite (λ_ _ _ _=>rfl) λ_=>?_;cases h with|ptr u=>refine ae.bind (ae.behindNumber u) λI a i q A=>?_;obtain⟨j,o⟩:=A;obtain⟨a,l⟩:=a;subst o;refine ae.bind (ae.unsafeAdd g (.ptr j) (k.mono q)) λJ z K F B=>?_;(cases B with|ptr v=>exact ae.asNumber v _|gO=>exact ae.pure .gO|bool b=>exact ae.pure (.bool b)|int k n=>exact ae.pure (.int k n)|string s=>exact ae.pure (.string s)|gP n m=>exact ae.pure (.gP n m)|slice n m a=>exact ae.pure (.slice n m a)|dh a i=>exact ae.pure (.dh a i)|l8=>exact ae.pure .l8|map a=>exact ae.pure (.map a)|func a b d e f=>exact ae.pure (.func a b d e f)|nilFunc=>exact ae.pure .nilFunc|nilIface=>exact ae.pure .nilIface|iface t a=>exact ae.pure (.iface t a)|agg a b=>exact ae.pure (.agg a b)|tuple a b=>exact ae.pure (.tuple a b))|gO=>exact ae.unsafeAdd g .gO k|bool b=>exact ae.unsafeAdd g (.bool b) k|int C n=>exact ae.unsafeAdd g (.int C n) k|string s=>exact ae.unsafeAdd g (.string s) k|gP n m=>exact ae.unsafeAdd g (.gP n m) k|slice n m a=>exact ae.unsafeAdd g (.slice n m a) k|dh a i=>exact ae.unsafeAdd g (.dh a i) k|l8=>exact ae.unsafeAdd g .l8 k|map a=>exact ae.unsafeAdd g (.map a) k|func a b d e f=>exact ae.unsafeAdd g (.func a b d e f) k|nilFunc=>exact ae.unsafeAdd g .nilFunc k|nilIface=>exact ae.unsafeAdd g .nilIface k|iface t a=>exact ae.unsafeAdd g (.iface t a) k|agg a b=>exact ae.unsafeAdd g (.agg a b) k|tuple a b=>exact ae.unsafeAdd g (.tuple a b) k
theorem ae.movedPointer(g:Fits P c)(h:aj c r x x')(k:aj c r y y'):ae P c r (movedPointer t x y) (movedPointer t x' y') (aj c):=by unfold Go.movedPointer;cases h with|ptr j=>refine ae.bind (ae.numberAt j.1) λv s q i o=>?_;(match s,q,o with|none,UM,_=>exact ae.unsafeAdd (t:=t) g (.ptr (j.mono i)) (k.mono i)|some _,UG _,_=>exactλ_ _ _=>rfl)|gO=>exact ae.unsafeAdd g .gO k|bool b=>exact ae.unsafeAdd g (.bool b) k|int p n=>exact ae.unsafeAdd g (.int p n) k|string s=>exact ae.unsafeAdd g (.string s) k|gP n m=>exact ae.unsafeAdd g (.gP n m) k|slice n m a=>exact ae.unsafeAdd g (.slice n m a) k|dh a l=>exact ae.unsafeAdd g (.dh a l) k|l8=>exact ae.unsafeAdd g .l8 k|map a=>exact ae.unsafeAdd g (.map a) k|func a b d e f=>exact ae.unsafeAdd g (.func a b d e f) k|nilFunc=>exact ae.unsafeAdd g .nilFunc k|nilIface=>exact ae.unsafeAdd g .nilIface k|iface t a=>exact ae.unsafeAdd g (.iface t a) k|agg a b=>exact ae.unsafeAdd g (.agg a b) k|tuple a b=>exact ae.unsafeAdd g (.tuple a b) k
theorem ae.known{x:Vg α}{y:Vg β}{Q:bC->α->β->Prop}(h:(∀(i k:Nat),r i=UG k->i<c.aJ->i=k)->(∀(i j k:Nat),r i=UG k->r j=UG k->i=j\/(c.seen i/\c.seen j))->ae P c r x y Q):ae P c r x y Q:=λw v a=>h a.aJ a.inj w v a
theorem vi{b:Vs}(d:dx c r a a')(f:dx c r b b')(e:a.block=b.block):a'.block=b'.block:=by have h:=f.1;rw[<-e,d.1]at h;simp_all
theorem vB(d:∀(i k:Nat),r i=UG k->i<c.aJ->i=k)(b:dx c r a a')(h:a.block<c.aJ):a'.block<c.aJ:=by have:=d _ _ b.1 h;omega
theorem ae.twoPlaces{b:Vs}(k:Fits P c)(f:dx c r a a')(j:dx c r b b'):ae P c r (Op.twoPlaces a b) (Op.twoPlaces a' b') λ_ x y=>y=x:=by refine ae.known λu A=>?_;refine ae.bind (ae.fA bP) λB p h i t=>?_;obtain⟨rfl,rfl⟩:=t;by_cases d:a.block=b.block;(case neg=>have m:=bne_iff_ne.2 d;rw[m];exactλ_ _ _=>rfl);(have n:(a'.block !=b'.block)=(a.block !=b.block):=by simp[d,vi f j d]);by_cases e:a.block<c.aJ;(case neg=>(have q:decide (a.block>=h.globals.size)=UJ:=by rw[decide_eq_true_eq,<-k.aJ];omega);rw[q,TK];exactλ_ _ _=>rfl);(have o:decide (a'.block>=h.globals.size)=decide (a.block>=h.globals.size):=by rw[decide_eq_decide,<-k.aJ];have:=vB u f e;omega);rw[n,o];refine ae.ite (λ_ _ _ _=>rfl) λ_=>?_;exact ae.bind (ae.byteOf (f.mono i) (.inr e)) λC x E s v=>ae.bind (ae.byteOf ((j.mono i).mono s) (.inr (d▸e))) λD y F z w=>ae.pure (by rw[v,w])
theorem ae.addrMod(h:Fits P c){k:U1}(f:dx c r a a'):ae P c r (Op.addrMod k a n) (Op.addrMod k a' n) (aj c):=by refine ae.bind (ae.shape f.1) λt s y d m=>?_;cases m with|none=>exact ae.unsupported|bad x b d=>refine ae.never (gB λw=>?_);(have e:∃s,(typeInfo vY).run P w=.halt (.stuck s) w:=by unfold typeInfo;rw[Vg.run_bind];simp only[program,Vg.run,Vk.andThen,h.bad];simp);obtain⟨s,e⟩:=e;exact⟨_,w,e,rfl⟩|some x l b=>refine ae.bind (ae.cJ (dE _)) λu i q g j=>?_;subst j;refine ae.ite (λ_ _ _ _=>rfl) λ_=>?_;exact ae.bind (ae.byteOf ((f.mono d).mono g) (.inl b)) λv z A p o=>by subst o;exact ae.pure (.int _ _)
theorem ae.addrCmp{b:Vs}(f:Fits P c)(d:dx c r a a')(e:dx c r b b'):ae P c r (Op.addrCmp op a b) (Op.addrCmp op a' b') (aj c):=by refine ae.bind (ae.twoPlaces f d e) λj s h i g=>?_;subst g;cases op<;>first|exact ae.pure (.bool _)|exact ae.unsupported
theorem ae.addrSub{k:U1}{b:Vs}(f:Fits P c)(d:dx c r a a')(e:dx c r b b'):ae P c r (Op.addrSub k a b) (Op.addrSub k a' b') (aj c):=by refine ae.bind (ae.twoPlaces f d e) λi s j h g=>?_;subst g;exact ae.pure (.int _ _)
def KX(P:U9)(t:U8):Bool:=match(P.info? t).map (λi:TypeInfo=>i.desc)with|some (.named "sync.copyChecker" _)=>Ul|_=>UJ
def fy(P:U9)(t:U8):Bool:=match P.underlying t with|some (.int _)=>KX P t|some .string|some .bool=>UJ|_=>Ul
theorem yO{q:α->Prop}{x:Vg α}{f:α->Vg β}(g:bQ P q x)(h:∀a,q a->kX P (f a)):kX P (x>>=f):=by intro w;rw[Vg.run_bind];rcases g.run w w rfl rfl with⟨a,d,e,b,_⟩|⟨k,j,b,i⟩;{rw[b];exact h a e _};simp_all
theorem ae.equal(H:Fits P c)(j:fy P t=UJ)(h:aj c r x x')(k:aj c r y y'):ae P c r (Op.equal t x y) (Op.equal t x' y') λ_ a b=>b=a:=by show ae P c r (Op.equalIn (9999+1) t x y) (Op.equalIn (9999+1) t x' y') _;generalize(9999:Nat)=d;unfold Op.equalIn;refine ae.bind (ae.fA (x:=underlying t) (q:=λd=>P.underlying t=UG d) ?_) λr1 z J s m=>?_;{refine bQ.bind bP λp v=>?_;subst v;cases h:p.underlying t with|none=>exact rfl|some i=>exact rfl};obtain⟨rfl,m⟩:=m;have h:=h.mono s;have k:=k.mono s;unfold fy at j;rw[m]at j;cases J with|bool=>(cases h<;>cases k<;>first|exact ae.stuck|exact ae.pure rfl)|string=>(cases h<;>cases k<;>first|exact ae.stuck|exact ae.pure rfl)|int q=>(cases h with|int S w=>(cases k with|int I o=>exact ae.ite (λ_=>ae.pure rfl) λ_=>ae.stuck|ptr G=>(match w with|.ofNat 0=>exact ae.pure rfl|.ofNat (_+1)=>exact ae.unsupported|.negSucc _=>exact ae.unsupported)|_=>first|exact ae.stuck|exact ae.unsupported)|ptr N=>(cases k with|int I o=>(match o with|.ofNat 0=>exact ae.pure rfl|.ofNat (_+1)=>exact ae.unsupported|.negSucc _=>exact ae.unsupported)|ptr G=>refine ae.bind (ae.behindNumber N) λr2 x x' C g=>ae.bind (ae.behindNumber (G.mono C)) λr3 y y' D l=>?_;refine ae.known λR n=>?_;have g:=g.1.mono D;have l:=l.1;refine ae.bind (ae.fA bP) λr4 p B E v=>?_;obtain⟨rfl,rfl⟩:=v;by_cases f:x.1.block=y.1.block;(case neg=>have w:(x.1.block==y.1.block)=Ul:=beq_eq_false_iff_ne.2 f;(have o:(x.1==y.1)=Ul:=by grind);simp only[w,o,Uv,SB,if_false];refine ae.never (dP (dE t).y4 λi=>?_);split<;>exact eW);have O:=vi g l f;(have K:(x'.1.block==y'.1.block)=(x.1.block==y.1.block):=by simp_all);by_cases e:x.1.block<c.aJ;(case neg=>(have T:decide (x.1.block<B.globals.size)=Ul:=by rw[decide_eq_false_iff_not,<-H.aJ];exact e);simp only[T,Bool.and_false,SB,if_false];refine ae.never (yO (jv t) λi n=>?_);unfold KX at j;rw[n]at j;split;{simp_all};exact eW);(have L:decide (x'.1.block<B.globals.size)=decide (x.1.block<B.globals.size):=by rw[decide_eq_decide,<-H.aJ];exact⟨λ_=>e,λ_=>vB R g e⟩);(have M:(x'.1==y'.1)=(x.1==y.1):=by obtain⟨⟨xb,xo,xs⟩,_⟩:=x;obtain⟨⟨V,W,X⟩,_⟩:=x';obtain⟨⟨yb,yo,ys⟩,_⟩:=y;obtain⟨⟨Y,Z,ys'⟩,_⟩:=y';obtain⟨s,C,D,-⟩:=g;obtain⟨S,I,k3,-⟩:=l;grind);simp only[K,L,M];refine ae.ite (λe=>?_) λ_=>?_;{(have e:x.1.block<c.aJ:=by assumption);exact ae.bind (ae.byteOf (g.mono E) (.inr e)) λU u u' F Q=>ae.bind (ae.byteOf ((l.mono E).mono F) (.inr (f▸e))) λr6 z J h6 m=>ae.pure (by rw[Q,m])};refine ae.bind (ae.cJ (dE t)) λU i i' F n=>?_;subst n;refine(ae.cJ ?_);(split<;>first|exact rfl|(split<;>first|trivial|exact rfl))|_=>exact ae.unsupported)|gO=>cases k<;>exact ae.unsupported|_=>cases k<;>first|exact ae.stuck|exact ae.unsupported)|_=>simp at j
theorem ae.eqGuard{o2:Vh}(b:∀z,x≠.agg z)(a:x≠.nilIface)(h:aj c r x x'):ae P c r (eqGuard op t o1 o2 x y) (eqGuard op t o1 o2 x' y') λ_ _ _=>True:=by refine ae.ite (λ_=>ae.pure trivial) λ_=>?_;cases h<;>first|exact absurd rfl a|exact absurd rfl (b _)|exact ae.pure trivial
theorem jU{d:TypeDesc}(h:P.underlying t=UG d)(w:UL):(underlying t).run P w=.ok d w:=by unfold underlying;simp_all
theorem yA(a:fy P t=UJ)(e:(∃z,x=.agg z)\/x=.nilIface):kX P (Op.equal t x y):=by intro w;show∃k f,(Op.equalIn (9999+1) t x y).run P w=.halt k f/\_;unfold Op.equalIn;unfold fy at a;cases b:P.underlying t with|none=>simp_all|some z=>rw[b]at a;rw[Vg.run_bind,jU b];rcases e with⟨q,rfl⟩|rfl<;>cases z<;>first|(simp at a;done)|exact⟨_,_,rfl,rfl⟩|(cases y<;>exact⟨_,_,rfl,rfl⟩)
end
def Ab:UO->Bool
 |.int ..|.string ..|.pointer ..|.float ..|.complex ..=>Ul
 |_=>UJ
set_option maxHeartbeats 4000000 in theorem zM(a:BinOp)(t:U8)(x y:UO)(b:¬(a=.eql\/a=.neq))(c:Ab x=UJ):∃h:Halt,binOp a t x y=.halt h/\Av h=UJ:=by(cases a<;>first|exact absurd (.inl rfl) b|exact absurd (.inr rfl) b|skip);all_goals(cases x<;>first|(simp[Ab]at c;done)|skip);all_goals(cases y<;>exact⟨_,rfl,rfl⟩)
section
variable{c:dG}{r:bC}
theorem oU(a:fy P t=UJ)(n:Nat):P.eqGuardType (n+1) t=Ul:=by unfold fy at a;unfold U9.eqGuardType;grind
theorem vJ{o2:Vh}(l:fy P t=UJ)(m:(∃z,x=.agg z)\/x=.nilIface):gm P (eqGuard op t o1 o2 x y):=by
 have a:∀n:Nat,gm P (Op.eqGuardIn (n+1) t .nilIface .nilIface):=λn=>by
  unfold Op.eqGuardIn
  exact gm.bind (aE t).y4 λd=>by cases d<;>exact dK _
 have g:gm P (match x,y with
  |.nilIface,.nilIface=>(do
    if(o1 matches .const _)||(o2 matches .const _)then return
    if<-Op.eqGuardIn Op.maxDepth t x y then unsupported (.noEntry "binop/eql: two nil values of an interface type with methods, neither of them the literal nil"):Vg Unit)
  |.agg _,.agg _=>(do
    if !(<-program).eqGuardType (<-program).depth t then return
    if<-Op.eqGuardIn Op.maxDepth t x y then unsupported (.noEntry "binop/eql: two nil values of an interface type with methods, in a part of a struct or an array"):Vg Unit)
  |_,_=>pure ()):=by
  rcases m with⟨z,rfl⟩|rfl
  ·cases y with
    |agg u=>
      refine bQ.y4 (q:=λ_=>True) (bQ.bind bP λp k=>bQ.bind bP λj f=>?_)
      subst k f
      rw[show j.eqGuardType j.depth t=Ul from oU l _]
      exact trivial
    |_=>exact dK _
  ·cases y with
    |nilIface=>
      by_cases i:((match o1 with|.const _=>UJ|_=>Ul)||(match o2 with|.const _=>UJ|_=>Ul))=UJ
      ·simp only[i,if_true];exact dK _
      · simp only[i,if_false,SB]
        exact gm.bind (a 9999) λb=>by
         cases b
         ·exact dK _
         ·exactλw h o e=>by cases e;rfl
    |_=>exact dK _
 cases op<;>first|exact g|exact dK _
set_option maxHeartbeats 1000000 in theorem CK{o2:Vh}(hc:Fits P c)(ht:(op=.eql\/op=.neq)->fy P t=UJ)(h:aj c r x x')(k:aj c r y y'):ae P c r (do eqGuard op t o1 o2 x y;binOp op t x y) (do eqGuard op t o1 o2 x' y';binOp op t x' y') (aj c):=by by_cases he:op=.eql\/op=.neq;{have ht:=ht he;by_cases hx:(∃z,x=.agg z)\/x=.nilIface;{refine ae.never (dP (vJ ht hx) λ_=>?_);have:∀f:Bool->Vg UO,kX P (Op.equal t x y>>=f):=λf=>gB (yA (P:=P) (y:=y) ht hx);rcases hx with⟨z,rfl⟩|rfl<;>rcases he with rfl|rfl<;>(cases y<;>exact this _)};(have heq:∀{r:bC},aj c r x x'->aj c r y y'->ae P c r (binOp op t x y) (binOp op t x' y') (aj c):=by intro r h k;have key:=ae.equal hc ht h k;cases h with|int k1 n1=>(cases k with|int k2 n2=>exact ae.flat (mL _ _ _ _ _ _)|_=>rcases he with rfl|rfl<;>exact ae.bind key λ_ _ _ _ e=>by subst e;exact ae.pure (.bool _))|string s1=>(cases k with|string s2=>exact ae.flat (jS _ _ _ _)|_=>rcases he with rfl|rfl<;>exact ae.bind key λ_ _ _ _ e=>by subst e;exact ae.pure (.bool _))|_=>rcases he with rfl|rfl<;>exact ae.bind key λ_ _ _ _ e=>by subst e;exact ae.pure (.bool _));exact ae.bind (ae.eqGuard (λz e=>hx (.inl ⟨z,e⟩)) (λe=>hx (.inr e)) h) λr1 _ _ h1 _=>heq (h.mono h1) (k.mono h1)};(have e0:∀x y:UO,(do eqGuard op t o1 o2 x y;binOp op t x y)=binOp op t x y:=by intro x y;cases op<;>first|rfl|exact absurd (.inl rfl) he|exact absurd (.inr rfl) he);rw[e0,e0];clear e0;by_cases hx:Ab x=UJ;{obtain⟨h',e,hh⟩:=zM op t x y he hx;rw[e];exact ae.halt hh};cases h with|int k1 n1=>(cases k with|int k2 n2=>exact ae.flat (mL _ _ _ _ _ _)|ptr hb=>(cases op<;>first|exact ae.unsupported|exact absurd (.inl rfl) he|exact absurd (.inr rfl) he|exact ae.movedNumber hc (.ptr hb) (.int _ _)|exact ae.bind (ae.behindNumber hb) λr1 z z' h1 hz=>ae.addrMod hc hz.1)|gO=>(cases op<;>first|exact ae.unsupported|exact absurd (.inl rfl) he|exact absurd (.inr rfl) he|exact ae.movedNumber hc .gO (.int _ _))|_=>cases op<;>first|exact ae.stuck|exact absurd (.inl rfl) he|exact absurd (.inr rfl) he)|string s1=>(cases k with|string s2=>exact ae.flat (jS _ _ _ _)|_=>cases op<;>first|exact ae.stuck|exact ae.unsupported|exact absurd (.inl rfl) he|exact absurd (.inr rfl) he)|ptr ha=>(cases k with|int k2 n2=>(cases op<;>first|exact ae.unsupported|exact absurd (.inl rfl) he|exact absurd (.inr rfl) he|exact ae.movedNumber hc (.ptr ha) (.int _ _)|exact ae.bind (ae.behindNumber ha) λr1 z z' h1 hz=>ae.addrMod hc hz.1|(refine ae.bind (ae.cJ (aE t)) λr1 d d' h1 hd=>?_;subst hd;exact ae.ite (λ_=>ae.movedPointer hc (.ptr (ha.mono h1)) (.int _ _)) λ_=>ae.movedNumber hc (.ptr (ha.mono h1)) (.int _ _)))|ptr hb=>(cases op<;>first|exact ae.unsupported|exact absurd (.inl rfl) he|exact absurd (.inr rfl) he|exact ae.bind (ae.behindNumber ha) λr1 z z' h1 hz=>ae.bind (ae.behindNumber (hb.mono h1)) λr2 u u' h2 hu=>ae.addrSub hc (hz.1.mono h2) hu.1|exact ae.bind (ae.behindNumber ha) λr1 z z' h1 hz=>ae.bind (ae.behindNumber (hb.mono h1)) λr2 u u' h2 hu=>ae.addrCmp hc (hz.1.mono h2) hu.1)|_=>cases op<;>first|exact ae.stuck|exact ae.unsupported|exact absurd (.inl rfl) he|exact absurd (.inr rfl) he)|gO=>(cases k with|int k2 n2=>(cases op<;>first|exact ae.unsupported|exact absurd (.inl rfl) he|exact absurd (.inr rfl) he|exact ae.movedNumber hc .gO (.int _ _)|(refine ae.bind (ae.cJ (aE t)) λr1 d d' h1 hd=>?_;subst hd;exact ae.ite (λ_=>ae.movedPointer hc .gO (.int _ _)) λ_=>ae.movedNumber hc .gO (.int _ _)))|_=>cases op<;>first|exact ae.stuck|exact ae.unsupported|exact absurd (.inl rfl) he|exact absurd (.inr rfl) he)|_=>exact absurd rfl hx
end
section
variable{c:dG}{r:bC}
theorem bh(t:U8):bQ P (λd=>P.underlying t=UG d) (underlying t):=by refine bQ.bind bP λp a=>?_;subst a;cases h:p.underlying t with|none=>exact rfl|some i=>exact rfl
theorem vH(t:U8):bQ P (λn=>P.cellsOf t=n) (sizeOf t):=by refine bQ.bind (jv t) λi a=>?_;show P.cellsOf t=i.size;unfold U9.cellsOf;grind
theorem AR(t:U8)(h:aj c r x x'):ae P c r (Instr.loadAt t x) (Instr.loadAt t x') (aj c):=ae.bind (ae.sureAddr h) λ_ _ _ _ b=>ae.loadVar t b
theorem xN(t:U8)(h:aj c r x x')(k:aj c r y y'):ae P c r (Instr.storeAt t x y) (Instr.storeAt t x' y') λ_ _ _=>True:=ae.bind (ae.sureAddr h) λ_ _ _ b d=>ae.storeVar t d (k.mono b)
theorem CJ{op:UnOp}(h:aj c r x x'):ae P c r (Op.unary op x) (Op.unary op x') (aj c):=by cases h with|bool b=>(cases op<;>first|exact ae.pure (.bool _)|exact ae.stuck)|int k n=>(cases op with|neg=>exact ae.flat (nL .sub k 0 n)|xor=>exact ae.flat (pG .xor k (if k.signed then-1 else k.max) n)|_=>exact ae.stuck)|ptr a=>(cases op<;>first|exact ae.unsupported|exact ae.stuck)|_=>cases op<;>exact ae.stuck
theorem zD(n:Nat)(h:aj c r x x'):ae P c r (Instr.extract x n) (Instr.extract x' n) (aj c):=by cases h with|tuple s e=>rename_i z f;unfold Instr.extract;(cases b:z[n]? with|none=>simp only[b];exact ae.stuck|some v=>obtain⟨g,d,k⟩:=(ak.mk s e).get b;simp only[b,d];exact ae.pure k)|_=>exact ae.stuck
theorem yK(s:U8)(n:Nat)(u:∀fs f,P.underlying s=UG (.struct fs)->fs[n]?=UG f->P.cellsOf f.type≠0)(h:aj c r x x'):ae P c r (Instr.fieldAt s x n) (Instr.fieldAt s x' n) (aj c):=by refine ae.bind (ae.fA (bh s)) λz d k l e=>?_;obtain⟨rfl,e⟩:=e;cases k with|struct fs=>simp only[];(cases t:fs[n]? with|none=>exact ae.stuck|some f=>refine ae.bind (ae.sureAddr (h.mono l)) λv a j w p=>?_;(have i:ae P c v (fieldPlace a f) (fieldPlace j f) (dx c):=by refine ae.bind (ae.fA (vH f.type)) λA m y o g=>?_;obtain⟨rfl,g⟩:=g;have:=u fs f e t;rw[g]at this;rw[if_neg this,if_neg this];exact ae.pure ((p.mono o).add _));exact ae.bind i λ_ _ _ _ q=>ae.pure (.ptr q))|_=>exact ae.stuck
theorem DC(t:U8)(n:Nat)(h:aj c r x x'):ae P c r (Instr.field t x n) (Instr.field t x' n) (aj c):=by refine ae.bind (ae.cJ (aE t)) λl d b g j=>?_;subst j;cases b with|struct e=>simp only[];(cases k:e[n]? with|none=>exact ae.stuck|some f=>exact ae.bind (ae.asAgg (h.mono g)) λ_ _ _ _ i=>ae.part _ _ i)|_=>exact ae.stuck
theorem DK(t:U8)(h:aj c r x x')(k:aj c r y y'):ae P c r (Instr.index t x y) (Instr.index t x' y') (aj c):=by refine ae.bind (ae.asIntOf k) λB z v j q=>?_;subst q;obtain⟨w,i⟩:=v;refine ae.bind (ae.cJ (aE t)) λC d g l o=>?_;subst o;have h:=(h.mono j).mono l;cases h with|agg s e=>(cases g with|array u f=>refine ae.ite (λ_=>?_) λ_=>ae.boundsPanic;exact ae.bind (ae.cJ (bB f)) λD m A n p=>by subst p;exact ae.part _ _ ((ak.mk s e).mono n)|_=>exact ae.stuck)|string s=>(cases g with|string=>simp only[];(cases(if 0<=i then s[i.toNat]? else UM)with|none=>exact ae.boundsPanic|some b=>exact ae.pure (.int _ _))|_=>exact ae.stuck)|_=>cases g<;>exact ae.stuck
theorem xy(t:U8)(h:aj c r x x')(k:aj c r y y'):ae P c r (Instr.indexAt t x y) (Instr.indexAt t x' y') (aj c):=by unfold Instr.indexAt;refine ae.bind (ae.asIntOf k) λY z V N T=>?_;subst T;obtain⟨X,i⟩:=V;refine ae.bind (ae.cJ (aE t)) λZ d M O R=>?_;subst R;have h:=(h.mono N).mono O;let F(U:bC)(a b:Option Vs×Nat×U8):Prop:=aj c U (.pointer a.1) (.pointer b.1)/\b.2=a.2;cases M with|array B f=>refine ae.bind (ae.sureAddr h) λr3 a I W v=>ae.bind (Q:=F) (ae.pure ⟨.ptr v,rfl⟩) λC a b s q=>?_;obtain⟨w,B,f⟩:=a;obtain⟨o,l⟩:=b;obtain⟨g,e⟩:=q;simp only at e g;subst e;refine ae.bind (ae.cJ (x:=underlying t) (aE t)) λC u H s A=>?_;subst A;have g:=g.mono s;(cases g with|gO=>exact ae.boundsPanic|ptr v=>refine ae.ite (λ_=>?_) λ_=>?_;{exact ae.bind (ae.cJ (bB f)) λL m J D E=>by subst E;exact ae.pure (.ptr ((v.mono D).add _))};exact ae.ite (λ_ _ _ _=>rfl) λ_=>ae.boundsPanic)|slice f=>(cases h with|gP n m=>refine ae.bind (Q:=F) (ae.pure ⟨.gO,rfl⟩) λC a b s q=>?_;obtain⟨w,B,f⟩:=a;obtain⟨o,l⟩:=b;obtain⟨g,e⟩:=q;simp only at e g;subst e;refine ae.bind (ae.cJ (x:=underlying t) (aE t)) λC u H s A=>?_;subst A;have g:=g.mono s;(cases g with|gO=>exact ae.boundsPanic|ptr v=>refine ae.ite (λ_=>?_) λ_=>?_;{exact ae.bind (ae.cJ (bB f)) λL m J D E=>by subst E;exact ae.pure (.ptr ((v.mono D).add _))};exact ae.ite (λ_ _ _ _=>rfl) λ_=>ae.boundsPanic)|slice n m v=>refine ae.bind (Q:=F) (ae.pure ⟨.ptr v,rfl⟩) λC a b s q=>?_;obtain⟨w,B,f⟩:=a;obtain⟨o,l⟩:=b;obtain⟨g,e⟩:=q;simp only at e g;subst e;refine ae.bind (ae.cJ (x:=underlying t) (aE t)) λC u H s A=>?_;subst A;have g:=g.mono s;(cases g with|gO=>exact ae.boundsPanic|ptr v=>refine ae.ite (λ_=>?_) λ_=>?_;{exact ae.bind (ae.cJ (bB f)) λL m J D E=>by subst E;exact ae.pure (.ptr ((v.mono D).add _))};exact ae.ite (λ_ _ _ _=>rfl) λ_=>ae.boundsPanic)|dh a I=>refine ae.bind (Q:=λ_ p K=>p=(UG a,0,f)/\K=(UG I,0,f)) (ae.pure ⟨rfl,rfl⟩) λC p K s S=>?_;obtain⟨rfl,rfl⟩:=S;refine ae.bind (ae.cJ (x:=underlying t) (aE t)) λC u H s A=>?_;subst A;refine ae.ite (λG=>?_) λ_=>ae.ite (λ_ _ _ _=>rfl) λ_=>ae.boundsPanic;simp at G;omega|_=>exactλ_ _ _=>rfl)|_=>cases h<;>exactλ_ _ _=>rfl
theorem wF{fn:Fn}(b:Fi c fn=UJ){x x' y y':Array UO}(h:ak c r x x')(k:ak c r y y'):ae P c r (Instr.makeFunc fn x y) (Instr.makeFunc fn x' y') (aj c):=ae.pure (.func b h.size h.el k.size k.el)
theorem ae.sliceBound(y:Nat)(e:BoundsCode)(h:aj c r x x'):ae P c r (Instr.sliceBound x y e) (Instr.sliceBound x' y e) λ_ a b=>b=a/\a<=y:=by refine ae.bind (ae.asIntOf h) λj z k g f=>?_;subst f;exact ae.ite (λi=>ae.pure ⟨rfl,by omega⟩) λ_=>ae.boundsPanic
def j8(c:dG)(r:bC):Option UO->Option UO->Prop
 |none,UM=>True
 |some x,UG y=>aj c r x y
 |_,_=>False
theorem j8.mono{r r':bC}(h:r.le r'):∀{x y:Option UO},j8 c r x y->j8 c r' x y|none,UM,_=>trivial|some _,UG _,k=>aj.mono h k
theorem ae.sliceBounds(f:Bool)(k j:Nat){mx:Option UO}(i:j8 c r lo lo')(m:j8 c r hi hi')(s:j8 c r mx mx'):ae P c r (Instr.sliceBounds f k j lo hi mx) (Instr.sliceBounds f k j lo' hi' mx') λ_ a b=>b=a/\(k=0->j=0->a=(0,0,0)):=by match mx,mx',s with|none,UM,_=>refine ae.bind (Q:=λ_ a b=>b=a/\a<=_) (ae.pure ⟨rfl,Sm _⟩) λy z h l e=>?_;obtain⟨rfl,x⟩:=e;(match hi,hi',m with|none,UM,_=>refine ae.bind (Q:=λ_ a b=>b=a/\a<=_) (ae.pure ⟨rfl,Sm _⟩) λv z h o e=>?_;obtain⟨rfl,u⟩:=e;(match lo,lo',i with|none,UM,_=>refine ae.bind (Q:=λ_ a b=>b=a/\a<=_) (ae.pure ⟨rfl,Sm _⟩) λq z h p e=>?_;obtain⟨rfl,n⟩:=e;exact ae.pure ⟨rfl,λa b=>by simp_all⟩|some a,UG t,i=>refine ae.bind (ae.sliceBound _ _ (aj.mono o (aj.mono l i))) λq z h p e=>?_;obtain⟨rfl,n⟩:=e;exact ae.pure ⟨rfl,λa b=>by simp_all⟩)|some b,UG w,m=>refine ae.bind (ae.sliceBound _ _ (aj.mono l m)) λv z h o e=>?_;obtain⟨rfl,u⟩:=e;match lo,lo',i with|none,UM,_=>refine ae.bind (Q:=λ_ a b=>b=a/\a<=_) (ae.pure ⟨rfl,Sm _⟩) λq z h p e=>?_;obtain⟨rfl,n⟩:=e;exact ae.pure ⟨rfl,λa b=>by simp_all⟩|some a,UG t,i=>refine ae.bind (ae.sliceBound _ _ (aj.mono o (aj.mono l i))) λq z h p e=>?_;obtain⟨rfl,n⟩:=e;exact ae.pure ⟨rfl,λa b=>by simp_all⟩)|some d,UG A,s=>refine ae.bind (ae.sliceBound _ _ s) λy z h l e=>?_;obtain⟨rfl,x⟩:=e;match hi,hi',m with|none,UM,_=>exactλ_ _ _=>rfl|some b,UG w,m=>refine ae.bind (ae.sliceBound _ _ (aj.mono l m)) λv z h o e=>?_;obtain⟨rfl,u⟩:=e;match lo,lo',i with|none,UM,_=>refine ae.bind (Q:=λ_ a b=>b=a/\a<=_) (ae.pure ⟨rfl,Sm _⟩) λq z h p e=>?_;obtain⟨rfl,n⟩:=e;exact ae.pure ⟨rfl,λa b=>by simp_all⟩|some a,UG t,i=>refine ae.bind (ae.sliceBound _ _ (aj.mono o (aj.mono l i))) λq z h p e=>?_;obtain⟨rfl,n⟩:=e;exact ae.pure ⟨rfl,λa b=>by simp_all⟩
theorem Cu(t:U8){mx:Option UO}(h:aj c r x x')(k:j8 c r lo lo')(o:j8 c r hi hi')(p:j8 c r mx mx'):ae P c r (Instr.slice t x lo hi mx) (Instr.slice t x' lo' hi' mx') (aj c):=by unfold Instr.slice;refine ae.bind (ae.cJ (aE t)) λK d y v A=>?_;subst A;have h:=h.mono v;have k:=k.mono v;have o:=o.mono v;have p:=p.mono v;(have J:mx'.isSome=mx.isSome:=by match mx,mx',p with|none,UM,_=>rfl|some _,UG _,_=>rfl);cases y with|string=>(cases h with|string s=>simp only[J];refine ae.ite (λ_ _ _ _=>rfl) λ_=>?_;exact ae.bind (ae.sliceBounds _ _ _ k o (show j8 c K UM UM from trivial)) λ_ _ _ _ e=>by obtain⟨rfl,_⟩:=e;exact ae.pure (.string _)|_=>exact ae.stuck)|slice b=>(cases h with|gP n m=>refine ae.bind (ae.sliceBounds _ _ _ k o p) λC z u j e=>?_;obtain⟨rfl,_⟩:=e;refine ae.bind (ae.cJ (bB b)) λD q B i e=>?_;subst e;refine ae.pure ?_;split<;>exact .gP _ _|slice n m g=>refine ae.bind (ae.sliceBounds _ _ _ k o p) λC z u j e=>?_;obtain⟨rfl,_⟩:=e;refine ae.bind (ae.cJ (bB b)) λD q B i e=>?_;subst e;refine ae.pure ?_;have g:=(g.mono j).mono i;split;{exact .slice _ _ g};exact .slice _ _ (g.add _)|dh a G=>refine ae.bind (ae.sliceBounds _ _ _ k o p) λC z u j e=>?_;obtain⟨rfl,e⟩:=e;obtain rfl:=e rfl rfl;refine ae.bind (ae.cJ (bB b)) λD q B i e=>?_;subst e;refine ae.pure ?_;split<;>exact .dh _ _|_=>exact ae.stuck)|pointer w=>refine ae.bind (ae.asAddr h) λC a G j g=>?_;refine ae.bind (ae.cJ (aE w)) λD d y i A=>?_;subst A;(cases y with|array n b=>refine ae.bind (ae.sliceBounds _ _ _ ((k.mono j).mono i) ((o.mono j).mono i) ((p.mono j).mono i)) λL z u H e=>?_;obtain⟨rfl,_⟩:=e;refine ae.bind (ae.cJ (bB b)) λM q B I e=>?_;obtain⟨rfl,_⟩:=e;refine ae.pure ?_;have g:=((g.mono i).mono H).mono I;split;{exact .slice _ _ g};exact .slice _ _ (g.add _)|_=>exact ae.stuck)|_=>cases h<;>exact ae.stuck
theorem yx(t:U8){mx:Option UO}(h:aj c r x x')(m:j8 c r lo lo')(o:j8 c r hi hi')(p:j8 c r mx mx'):ae P c r (Instr.sliceAt t x lo hi mx) (Instr.sliceAt t x' lo' hi' mx') (aj c):=by refine ae.bind (ae.cJ (aE t)) λE d s f w=>?_;subst w;have k:=Cu (P:=P) t (h.mono f) (m.mono f) (o.mono f) (p.mono f);cases s with|array n g=>refine ae.bind (ae.sureAddr (h.mono f)) λF a A j i=>?_;refine ae.bind (ae.sliceBounds _ _ _ ((m.mono f).mono j) ((o.mono f).mono j) ((p.mono f).mono j)) λG z y u e=>?_;obtain⟨rfl,_⟩:=e;refine ae.bind (ae.cJ (bB g)) λH q D v e=>?_;subst e;refine ae.pure ?_;have i:=(i.mono u).mono v;split;{exact .slice _ _ i};exact .slice _ _ (i.add _)|_=>exact k
end
section
variable{c:dG}{r:bC}
def jM(P:U9)(t:U8):Bool:=match(P.info? t).bind (·.zero)with|some z=>jz 100 z|none=>UJ
theorem vr(h:jM P t=UJ):∀z,(P.info? t).bind (·.zero)=UG z->Flat z:=λz a=>by unfold jM at h;rw[a]at h;exact ir h
theorem Flat.vs(h:Flat z)(c:dG)(r:bC):ak c r z.cells z.cells:=ak.cells (h c r)
theorem ae.zero(h:jM P t=UJ):ae P c r (zeroValue t) (zeroValue t) λ_ a b=>b=a/\Flat a:=ae.fA (rV t (vr h))
theorem Ag(h:jM P t=UJ):ae P c r (Instr.alloc t UJ (.tuple #[])) (Instr.alloc t UJ (.tuple #[])) (aj c):=CZ t (vr h)
structure As(c:dG)(r:bC)(x x':Array (Nat×UO)):Prop where
 idx:x.toList.map (·.1)=x'.toList.map (·.1)
 val:ak c r (x.toList.map (·.2)).toArray (x'.toList.map (·.2)).toArray
theorem As.mono{r r':bC}(h:r.le r'){x x':Array (Nat×UO)}(k:As c r x x'):As c r' x x':=⟨k.idx,k.val.mono h⟩
theorem lN(a:Nat->Option (Nat×Nat)){x x':Array (Nat×UO)}(h:As c r x x'){z z':Array UO}(e:ak c r z z'):Instr.fill a z x.toList=Option.none\/∃y d,Instr.fill a z x.toList=UG y/\Instr.fill a z' x'.toList=UG d/\ak c r y d:=by have:=yh a x.toList x'.toList e h.idx h.val;grind
theorem Dj(l:List ε)(f:ε->Vg ζ)(h:∀x∈l,ll P (f x)):ll P (l.mapM f):=by induction l with|nil=>trivial|cons x l b=>rw[List.mapM_cons];exact(h x Θ).bind λ_=>(b λy a=>h y (by simp[a])).bind λ_=>trivial
theorem A1(l:Array ε)(f:ε->Vg ζ)(h:∀x∈l,ll P (f x)):ll P (l.mapM f):=by rw[Array.mapM_eq_mapM_toList];exact ll.bind (Dj _ _ λx a=>h x (by simp_all)) λ_=>trivial
theorem CP(B:jM P t=UJ){x x':Array (Nat×UO)}(h:As c r x x'):ae P c r (Instr.build t x) (Instr.build t x') (aj c):=by unfold Instr.build;refine ae.bind (ae.zero B) λD z F q g=>?_;obtain⟨rfl,g⟩:=g;refine ae.bind (ae.cJ (aE t)) λE d v s A=>?_;subst A;cases v with|struct w=>refine ae.bind (ae.cJ (A1 w _ λf _=>(bB f.type).bind λ_=>trivial)) λp u j m o=>?_;subst o;rcases lN (j[·]?) (((h.mono q).mono s).mono m) (g.vs c p)with e|⟨y,C,e,l,k⟩;{simp only[e];exact ae.stuck};simp only[e,l];exact ae.pure (.tQ k)|array n b=>refine ae.bind (ae.cJ (bB b)) λp u j m o=>?_;subst o;rcases lN (λi=>UG (i*j,j)) (((h.mono q).mono s).mono m) (g.vs c p)with e|⟨y,C,e,l,k⟩;{simp only[e];exact ae.stuck};simp only[e,l];exact ae.pure (.tQ k)|_=>exact ae.stuck
theorem ak.range{x x':Array UO}(h:ak c r x x')(n:Nat):ak c r ((Array.range n).map (x[·%x.size]!)) ((Array.range n).map (x'[·%x'.size]!)):=by refine ak.map _ _ _ λi _=>?_;rw[<-h.size];rw[Vf,Vf];exact h.getD _ (by exact .bool Ul)
theorem sM{n:Nat}(E:∀e,P.underlying t=UG (.slice e)->jM P e=UJ){x x':Array (Nat×UO)}(h:As c r x x'):ae P c r (Instr.buildSlice t n x) (Instr.buildSlice t n x') (aj c):=by unfold Instr.buildSlice;refine ae.bind (ae.fA (bh t)) λH d B u s=>?_;obtain⟨rfl,s⟩:=s;cases B with|slice l=>refine ae.bind (ae.cJ (bB l)) λI m j v D=>?_;subst D;refine ae.ite (λ_ _ _ _=>rfl) λ_=>?_;refine ae.ite (λ_=>?_) λ_=>?_;{refine ae.bind (Q:=λ_ a b=>b=a/\∀r,ak c r a a) (ae.pure ⟨rfl,λ_=>.empty⟩) λw z A p g=>?_;obtain⟨rfl,g⟩:=g;rcases lN (λi=>UG (i*j,j)) (((h.mono u).mono v).mono p) (ak.range (g w) (n*j))with e|⟨y,G,e,o,k⟩;{simp only[e];exact ae.stuck};simp only[e,o];exact ae.bind (ae.newRow k) λ_ _ _ _ q=>ae.pure (.slice _ _ q)};refine ae.bind (ae.zero (E _ s)) λw z A p g=>?_;obtain⟨rfl,g⟩:=g;refine ae.bind (Q:=λ_ a b=>b=a/\∀r,ak c r a a) (ae.pure ⟨rfl,λr=>g.vs c r⟩) λF z A C g=>?_;obtain⟨rfl,g⟩:=g;rcases lN (λi=>UG (i*j,j)) (((h.mono u).mono v).mono (bC.le_trans p C)) (ak.range (g F) (n*j))with e|⟨y,G,e,o,k⟩;{simp only[e];exact ae.stuck};simp only[e,o];exact ae.bind (ae.newRow k) λ_ _ _ _ q=>ae.pure (.slice _ _ q)|_=>exact ae.stuck
theorem y7:ae P c r (Instr.makeMap t UM) (Instr.makeMap t UM) (aj c):=ae.bind (ae.newObj (.map 0 rfl λi e b h=>by simp at h)) λ_ _ _ _ h=>ae.pure (.map h.1)
theorem ae.nD{f:α->Vg β}{y:Vg γ}{Q:bC->β->γ->Prop}:ae P c r (Go.runtimePanic e>>=f) y Q:=ae.never (gB (acz e))
theorem uy(C:∀e,P.underlying t=UG (.slice e)->jM P e=UJ)(h:aj c r x x')(k:aj c r y y'):ae P c r (Instr.makeSlice t x y) (Instr.makeSlice t x' y') (aj c):=by unfold Instr.makeSlice;refine ae.bind (ae.fA (bh t)) λN d s o m=>?_;obtain⟨rfl,m⟩:=m;cases s with|slice j=>refine ae.bind (ae.asInt (h.mono o)) λO a E u l=>?_;subst l;refine ae.bind (ae.asInt ((k.mono o).mono u)) λR b F G w=>?_;subst w;refine ae.bind (ae.cJ (dE j)) λS i L H A=>?_;subst A;simp only[];refine ae.ite (λ_=>?_) λ_=>?_;{refine ae.ite (λ_=>ae.nD) λ_=>?_;refine ae.ite (λ_=>ae.nD) λ_=>?_;exact ae.bind (ae.cJ (iD _)) λ_ _ _ _ _=>ae.nD};refine ae.bind (ae.cJ (aeL _)) λT _ _ I _=>?_;refine ae.bind (ae.cJ (bB j)) λU n M J B=>?_;subst B;refine ae.ite (λ_=>?_) λ_=>?_;{refine ae.bind (Q:=λ_ a b=>b=a/\∀r,ak c r a a) (ae.pure ⟨rfl,λ_=>.empty⟩) λp z q v g=>?_;obtain⟨rfl,g⟩:=g;exact ae.bind (ae.newRow (ak.range (g p) _)) λ_ _ _ _ l=>ae.pure (.slice _ _ l)};refine ae.bind (ae.zero (C _ m)) λp z q v g=>?_;obtain⟨rfl,g⟩:=g;refine ae.bind (Q:=λ_ a b=>b=a/\∀r,ak c r a a) (ae.pure ⟨rfl,λr=>g.vs c r⟩) λD z q K g=>?_;obtain⟨rfl,g⟩:=g;exact ae.bind (ae.newRow (ak.range (g D) _)) λ_ _ _ _ l=>ae.pure (.slice _ _ l)|_=>exact ae.stuck
end
section
variable{c:dG}{r:bC}
theorem Kv(ats:Array U8)(t:U8){x x':Array UO}(h:ak c r x x'):ae P c r (Vm.len_ ats t x) (Vm.len_ ats t x') (aj c):=by unfold Vm.len_;cases ats[0]? with|none=>exact ae.stuck|some s=>cases w:x[0]? with|none=>exact ae.stuck|some v=>obtain⟨D,e,k⟩:=h.get w;simp only[e];refine ae.bind (ae.cJ (aE s)) λB d g i j=>?_;subst j;have k:=k.mono i;cases g with|string=>(cases k<;>first|exact ae.pure (.int _ _)|exact ae.stuck)|array n e=>exact ae.pure (.int _ _)|pointer f=>refine ae.bind (ae.cJ (aE f)) λC u y z q=>?_;subst q;(cases y<;>first|exact ae.pure (.int _ _)|exact ae.stuck)|slice e=>(cases k<;>first|exact ae.pure (.int _ _)|exact ae.stuck)|map a b=>(cases k with|l8=>exact ae.pure (.int _ _)|map p=>refine ae.getObj p λo A _ m l=>?_;(cases m with|map k s _=>simp only[s];exact ae.pure (.int _ _)|cells _ _ _=>exact absurd rfl (l _ _ _)|_=>exact ae.stuck)|_=>exact ae.stuck)|chan a b=>cases k<;>exact ae.stuck|_=>exact ae.stuck
theorem ae.max2(h:aj c r x x')(k:aj c r y y'):ae P c r (Vm.max2 x y) (Vm.max2 x' y') (aj c):=by cases h with|int a b=>(cases k<;>first|exact ae.pure (.int _ _)|exact ae.stuck|exact ae.unsupported)|string a=>(cases k with|string b=>refine ae.bind (ae.flat (kC .geq a b)) λi u l f d=>?_;exact ae.bind (ae.asBool d) λj z m g e=>by subst e;exact ae.pure (.string _)|ptr _=>exact ae.unsupported|_=>exact ae.stuck)|ptr _=>exact ae.unsupported|_=>cases k<;>first|exact ae.stuck|exact ae.unsupported
theorem ae.min2(h:aj c r x x')(k:aj c r y y'):ae P c r (Vm.min2 x y) (Vm.min2 x' y') (aj c):=by cases h with|int a b=>(cases k<;>first|exact ae.pure (.int _ _)|exact ae.stuck|exact ae.unsupported)|string a=>(cases k with|string b=>refine ae.bind (ae.flat (kC .leq a b)) λi u l f d=>?_;exact ae.bind (ae.asBool d) λj z m g e=>by subst e;exact ae.pure (.string _)|ptr _=>exact ae.unsupported|_=>exact ae.stuck)|ptr _=>exact ae.unsupported|_=>cases k<;>first|exact ae.stuck|exact ae.unsupported
theorem ae.foldlM{f:UO->UO->Vg UO}(g:∀{r:bC}{x x' y y':UO},aj c r x x'->aj c r y y'->ae P c r (f x y) (f x' y') (aj c)):∀(l e:List UO){r:bC}{x x':UO},aj c r x x'->ak c r l.toArray e.toArray->ae P c r (l.foldlM f x) (e.foldlM f x') (aj c)|[],[],r,x,x',h,_=>ae.pure h|[],_::_,r,x,x',h,d=>by have:=d.size;grind|_::_,[],r,x,x',h,d=>by have:=d.size;grind|y::l,y'::e,r,x,x',h,d=>by rw[Ux,Ux];refine ae.bind (g h (d.el 0 y y' Θ Θ)) λn z o i k=>?_;exact ae.foldlM g l e k ((⟨by have:=d.size;simp_all,λj u m a b=>d.el (j+1) u m (by grind) (by grind)⟩:ak c r l.toArray e.toArray).mono i)
theorem IE(ats:Array U8)(t:U8){x x':Array UO}(h:ak c r x x'):ae P c r (Vm.max_ ats t x) (Vm.max_ ats t x') (aj c):=by obtain⟨l⟩:=x;obtain⟨d⟩:=x';unfold Vm.max_;match l,d,h with|[],[],_=>exact ae.stuck|[],_::_,h=>have:=h.size;grind|_::_,[],h=>have:=h.size;grind|y::l,f::d,h=>exact ae.foldlM ae.max2 l d (h.el 0 y f Θ Θ) ⟨by have:=h.size;simp_all,λj u e a b=>h.el (j+1) u e (by grind) (by grind)⟩
theorem I9(ats:Array U8)(t:U8){x x':Array UO}(h:ak c r x x'):ae P c r (Vm.min_ ats t x) (Vm.min_ ats t x') (aj c):=by obtain⟨l⟩:=x;obtain⟨d⟩:=x';unfold Vm.min_;match l,d,h with|[],[],_=>exact ae.stuck|[],_::_,h=>have:=h.size;grind|_::_,[],h=>have:=h.size;grind|y::l,f::d,h=>exact ae.foldlM ae.min2 l d (h.el 0 y f Θ Θ) ⟨by have:=h.size;simp_all,λj u e a b=>h.el (j+1) u e (by grind) (by grind)⟩
theorem ae.lenOf(h:aj c r x x'):ae P c r (Vm.lenOf x) (Vm.lenOf x') λ_ a b=>b=a/\∀q,x=.slice (UG q) 0 0->a=0:=by cases h<;>first|exact ae.pure ⟨rfl,λq e=>by cases e;rfl⟩|exact ae.pure ⟨rfl,λq e=>by cases e⟩|exact ae.stuck
theorem ae.vn(size:Nat)(h:aj c r x x'):ae P c r (Vm.firstCells size 0 x) (Vm.firstCells size 0 x') λ_ a b=>a=#[]/\b=#[]:=by unfold Vm.firstCells;rw[Uy];cases h<;>first|exact ae.pure ⟨rfl,rfl⟩|exact ae.stuck|(refine ae.pure ⟨?_,?_⟩<;>simp)
theorem ae.firstCells(size n:Nat)(h:aj c r x x')(j:∀q,x=.slice (UG q) 0 0->n=0):ae P c r (Vm.firstCells size n x) (Vm.firstCells size n x') (ak c):=by cases h with|gP _ _=>exact ae.pure .empty|dh a d=>obtain rfl:=j a rfl;exact(ae.vn size (.dh a d)).mono λ_ x y _⟨e,f⟩=>by rw[e,f];exact .empty|slice _ _ g=>exact ae.loadCells g _|string s=>refine ae.pure ?_;refine⟨rfl,λi v k a b=>?_⟩;rw[a]at b;cases b;rw[Tu]at a;obtain⟨z,_,rfl⟩:=St.1 a;exact .int _ _|_=>exact ae.stuck
theorem ak.zeroCells(h:Flat z)(n:Nat):ak c r (Vm.zeroCells z.cells n) (Vm.zeroCells z.cells n):=by unfold Vm.zeroCells;exact ak.range (h.vs c r) _
end
section
variable{c:dG}{r:bC}
theorem ae.FJ{x:Vg α}{f:α->Vg β}{y:Vg γ}{Q:bC->β->γ->Prop}(h:kX P x):ae P c r (x>>=f) y Q:=ae.never (gB h)
theorem lX(a:Vs)(n:Nat):gm P (Vm.holdsCells a n):=(zX _).bind λs=>by cases s<;>exact dK _
theorem uD(size sl n:Nat)(base:Option Vs)(x:UO):gm P (Vm.mayShare size sl n base x):=by(have d:∀b:Bool,gm P (if(!b)=UJ then Pure.pure UJ else match x with|.slice (UG b) _ _=>(do Pure.pure (!(<-Vm.holdsCells b (n*size))||base.any (·.block==b.block)))|_=>Pure.pure Ul):=λb=>by split;{exact dK _};split;{exact(lX _ _).bind λ_=>dK _};exact dK _);unfold Vm.mayShare;cases base with|none=>grind|some a=>exact gm.bind (lX _ _) λu=>gm.bind (xY _) λv=>gm.bind (dK _) λb=>d b
theorem AK{ats:Array U8}(ht:∀s e,ats[0]?=UG s->P.underlying s=UG (.slice e)->jM P e=UJ)(hn:∀s k,ats[1]?=UG s->P.underlying s≠UG (.int k)){x x':Array UO}(h:ak c r x x'):ae P c r (Vm.append_ ats t x) (Vm.append_ ats t x') (aj c):=by unfold Vm.append_;cases hs:ats[0]? with|none=>exact ae.stuck|some s=>cases hx:x[0]? with|none=>exact ae.stuck|some v=>obtain⟨v',X,kv⟩:=h.get hx;simp only[X];cases hy:x[1]? with|none=>exact ae.stuck|some u=>obtain⟨u',W,A⟩:=h.get hy;simp only[W];refine ae.bind (ae.fA (bh s)) λR d M l H=>?_;obtain⟨rfl,H⟩:=H;cases M with|slice f=>have hz:=ht s f hs H;have O:=kv.mono l;have kx:=O;cases O;(case gP|slice|dh=>refine ae.bind (ae.cJ (bB f)) λr2 T K B e=>?_;subst e;cases Z:ats[1]?;(case' some xt=>refine ae.bind (ae.fA (bh xt)) λr0 d M Y w=>?_;obtain⟨rfl,w⟩:=w;replace B:=bC.le_trans B Y);all_goals refine ae.bind (Q:=λ_ a b=>b=a/\a=Ul) (ae.pure ⟨rfl,by first|rfl|grind⟩) λr3 zs zs' N e=>?_;obtain⟨rfl,rfl⟩:=e;refine ae.bind (ae.lenOf ((A.mono l).mono (bC.le_trans B N))) λr4 n n' h4 e=>?_;obtain⟨rfl,E⟩:=e;have j:R.le r4:=bC.le_trans (bC.le_trans B N) h4;refine ae.ite (λI=>?_) λ_=>?_;{first|exact ae.bind (ae.firstCells _ _ ((A.mono l).mono j) E) λJ z V m g=>ae.pure (.gP _ _)|exact ae.bind (ae.firstCells _ _ ((A.mono l).mono j) E) λJ z V m g=>ae.bind (ae.storeCells 0 ((dx.mono (bC.le_trans j m) (by assumption)).add _) (by omega)) λS _ _ C _=>ae.pure (.slice _ _ (dx.mono (bC.le_trans j (bC.le_trans m C)) (by assumption)))|(obtain rfl:n'=0:=by omega);refine ae.bind (ae.vn _ ((A.mono l).mono j)) λJ z V m g=>?_;obtain⟨rfl,rfl⟩:=g;exact ae.bind (Q:=λ_ _ _=>True) (ae.pure trivial) λS _ _ C _=>ae.pure (.dh _ _)};·refine ae.bind (ae.cJ (dE f)) λJ i i' m e=>?_;subst e;refine ae.ite (λ_=>ae.nD) λ_=>?_;refine ae.bind (ae.cJ (dE f)) λS i2 i2' C e=>?_;subst e;refine ae.ite (λ_=>ae.FJ (by simp only[SB,if_false];exact dP (uD _ _ _ _ _) λ_=>by split<;>first|exact eW|exact dP (λ_ _ _ e=>by cases e) λ_=>eW)) λ_=>?_;refine ae.bind (ae.cJ (iD _)) λr7 nc nc' h7 e=>?_;subst e;refine ae.bind (ae.cJ (dE f)) λr8 i3 i3' h8 e=>?_;subst e;refine ae.bind (ae.cJ (aeL _)) λr9 _ _ h9 _=>?_;have y:R.le r9:=bC.le_trans j (bC.le_trans m (bC.le_trans C (bC.le_trans h7 (bC.le_trans h8 h9))));refine ae.bind (ae.firstCells _ _ (kx.mono y) (λq e=>by first|rfl|(cases e;done)|grind)) λr10 o o' F ho=>?_;refine ae.bind (ae.firstCells _ _ ((A.mono l).mono (bC.le_trans y F)) E) λr11 q q' G hq=>?_;refine ae.bind (ae.zero hz) λr12 zz zz' p g=>?_;obtain⟨rfl,g⟩:=g;exact ae.bind (ae.newRow ((((ho.mono G).mono p).append (hq.mono p)).append (ak.zeroCells g _))) λ_ _ _ _ ha=>ae.pure (.slice _ _ ha));all_goals exact ae.stuck|_=>exact ae.stuck
theorem ae.checkKey(b g:Bool)(f:fy P t=UJ)(n:Nat):ae P c r (Instr.checkKey b (n+1) t x) (Instr.checkKey g (n+1) t x') λ_ _ _=>True:=by refine ae.bind (ae.fA (bh t)) λj d h i e=>?_;obtain⟨rfl,e⟩:=e;unfold fy at f;rw[e]at f;cases h with|int k=>exact ae.pure trivial|string=>exact ae.pure trivial|bool=>exact ae.pure trivial|_=>simp at f
theorem x7(d:TypeDesc)(h:aj c r x x')(k:aj c r y y'):Instr.sameNow d x' y'=Instr.sameNow d x y:=by cases h<;>cases k<;>first|rfl|(cases d<;>rfl)
def lY(c:dG)(r:bC)(x x':Array Vz):Prop:=x.size=x'.size/\∀(i:Nat)(e e':Vz),x[i]?=UG e->x'[i]?=UG e'->FY c r e e'
theorem lY.mono{r r':bC}(h:r.le r'){x x':Array Vz}(k:lY c r x x'):lY c r' x x':=⟨k.1,λi e d a b=>(k.2 i e d a b).mono h⟩
def AS(c:dG)(r:bC):Option (Nat×UO)->Option (Nat×UO)->Prop
 |none,UM=>True
 |some (i,v),UG (i',v')=>i'=i/\aj c r v v'
 |_,_=>False
theorem qQ(d:TypeDesc)(h:aj c r x x'):∀(l m:List Vz)(i:Nat),lY c r l.toArray m.toArray->
 match Instr.findNow d x l i with|some z=>∃p,Instr.findNow d x' m i=UG p/\AS c r z p|none=>Instr.findNow d x' m i=UM
 |[],[],i,_=>⟨UM,rfl,trivial⟩
 |[],_::_,_,k=>by have:=k.1;grind
 |_::_,[],_,k=>by have:=k.1;grind
 |e::l,q::m,i,k=>by
   have o:=k.2 0 e q Θ Θ
   have n:lY c r l.toArray m.toArray:=⟨by have:=k.1;simp_all,λj u s a b=>k.2 (j+1) u s (by grind) (by grind)⟩
   unfold Instr.findNow
   rw[x7 d h o.key]
   cases Instr.sameNow d x e.key with
   |none=>rfl
   |some b=>
     cases b with
     |true=>exact⟨_,rfl,rfl,o.val⟩
     |false=>exact qQ d h l m (i+1) n
theorem ae.findAsking(n:Fits P c)(p:fy P t=UJ):∀(l g:List Vz)(i:Nat){r:bC}{x x':UO},aj c r x x'->lY c r l.toArray g.toArray->ae P c r (Instr.findAsking t x l i) (Instr.findAsking t x' g i) (AS c)|[],[],i,r,x,x',h,_=>ae.pure trivial|[],_::_,_,r,x,x',h,f=>by have:=f.1;grind|_::_,[],_,r,x,x',h,f=>by have:=f.1;grind|e::l,q::g,i,r,x,x',h,f=>by have o:=f.2 0 e q Θ Θ;have m:lY c r l.toArray g.toArray:=⟨by have:=f.1;simp_all,λj u v a b=>f.2 (j+1) u v (by grind) (by grind)⟩;refine ae.bind (ae.equal n p h o.key) λy b w k s=>?_;subst s;exact ae.ite (λ_=>ae.pure ⟨rfl,o.val.mono k⟩) λ_=>ae.findAsking n p l g (i+1) (h.mono k) (m.mono k)
theorem ae.findKey(j:Fits P c)(n:fy P t=UJ){l l':List Vz}(h:aj c r x x')(g:lY c r l.toArray l'.toArray):ae P c r (Instr.findKey t x l) (Instr.findKey t x' l') (AS c):=by refine ae.bind (ae.cJ (aE t)) λo d f b m=>?_;subst m;have:=qQ f (h.mono b) l l' 0 (g.mono b);cases e:Instr.findNow f x l 0 with|none=>rw[e]at this;simp only[this];exact ae.findAsking j n l l' 0 (h.mono b) (g.mono b)|some z=>rw[e]at this;obtain⟨p,i,k⟩:=this;simp only[i];exact ae.pure k
theorem A7{ok:Bool}(O:Fits P c)(Z:∀k e,P.underlying t=UG (.map k e)->fy P k=UJ/\jM P e=UJ)(h:aj c r x x')(k:aj c r y y'):ae P c r (Instr.lookup t x y ok) (Instr.lookup t x' y' ok) (aj c):=by refine ae.bind (ae.fA (bh t)) λr1 d S F I=>?_;obtain⟨rfl,I⟩:=I;cases S with|map J q=>obtain⟨C,R⟩:=Z J q I;let B(A:bC)(a b:UO×Bool):Prop:=aj c A a.1 b.1/\b.2=a.2;(cases h.mono F with|l8=>refine ae.bind (Q:=λA a b=>lY c A a b) (ae.pure ⟨rfl,λi e e' a=>by simp at a⟩) λr2 T E G m=>?_;refine ae.bind (ae.checkKey _ _ C 9999) λr3 _ _ w _=>?_;refine ae.bind (ae.findKey O C (k.mono (bC.le_trans F (bC.le_trans G w))) (by simpa using m.mono w)) λr4 z N U p=>?_;(match z,N,p with|none,UM,_=>refine ae.bind (ae.zero R) λK u u' V n=>?_;obtain⟨rfl,n⟩:=n;refine ae.bind (Q:=B) (ae.pure ⟨n c K,rfl⟩) λL a b H g=>?_;obtain⟨v,o⟩:=a;obtain⟨j,f⟩:=g;subst f;refine ae.pure ?_;split;{exact .kK (ak.push (ak.single j) (.bool _))};{exact j}|some (_,_),UG (_,_),p=>refine ae.bind (Q:=B) (ae.pure ⟨p.2,rfl⟩) λL a b H g=>?_;obtain⟨v,o⟩:=a;obtain⟨j,f⟩:=g;subst f;refine ae.pure ?_;split;{exact .kK (ak.push (ak.single j) (.bool _))};·exact j)|map Y=>refine ae.getObj Y λo D _ X W=>?_;(cases X with|map kk s e=>refine ae.bind (Q:=λA a b=>lY c A a b) (ae.pure ⟨s,e⟩) λr2 T E G m=>?_;refine ae.bind (ae.checkKey _ _ C 9999) λr3 _ _ w _=>?_;refine ae.bind (ae.findKey O C (k.mono (bC.le_trans F (bC.le_trans G w))) (by simpa using m.mono w)) λr4 z N U p=>?_;(match z,N,p with|none,UM,_=>refine ae.bind (ae.zero R) λK u u' V n=>?_;obtain⟨rfl,n⟩:=n;refine ae.bind (Q:=B) (ae.pure ⟨n c K,rfl⟩) λL a b H g=>?_;obtain⟨v,o⟩:=a;obtain⟨j,f⟩:=g;subst f;refine ae.pure ?_;split;{exact .kK (ak.push (ak.single j) (.bool _))};{exact j}|some (_,_),UG (_,_),p=>refine ae.bind (Q:=B) (ae.pure ⟨p.2,rfl⟩) λL a b H g=>?_;obtain⟨v,o⟩:=a;obtain⟨j,f⟩:=g;subst f;refine ae.pure ?_;split;{exact .kK (ak.push (ak.single j) (.bool _))};·exact j)|cells _ _ _=>exact absurd rfl (W _ _ _)|_=>exactλ_ _ _=>rfl)|_=>exactλ_ _ _=>rfl)|_=>exact ae.stuck
end
section
variable{c:dG}{r:bC}
def KR:UO->Bool
 |.string _|.bool _=>UJ
 |_=>Ul
def Ay(P:U9)(t:U8):Bool:=match P.underlying t with|some .string|some .bool=>UJ|_=>Ul
theorem Al(h:Ay P t=UJ):fy P t=UJ:=by unfold Ay at h;unfold fy;grind
theorem wP(n:Nat)(h:aj c r x x')(k:aj c r y y')(b:KR y=UJ):Instr.sameBits n x' y'=Instr.sameBits n x y:=by cases k<;>simp[KR]at b<;>cases h<;>cases n<;>rfl
theorem ae.Ht(b:Ay P t=UJ)(i:KR x=Ul)(l h:List Vz)(k:lY c r l.toArray h.toArray):ae P c r (Instr.findKey t x l) (Instr.findKey t x' h) λ_ u n=>u=UM/\n=UM:=by unfold Ay at b;cases g:P.underlying t with|none=>rw[g]at b;simp at b|some d=>rw[g]at b;unfold Instr.findKey;refine ae.bind (ae.fA (bh t)) λq o j p f=>?_;obtain⟨rfl,f⟩:=f;rw[g]at f;cases f;cases l with|nil=>(have:h=[]:=by have:=k.1;grind);subst this;exact ae.pure ⟨rfl,rfl⟩|cons e l=>(have m:Instr.findNow d x (e::l) 0=UM:=by(have:Instr.sameNow d x e.key=UM:=by cases d<;>simp at b<;>cases x<;>simp[KR]at i<;>rfl);simp[Instr.findNow,this]);simp only[m];refine ae.never ?_;unfold Instr.findAsking;refine gB ?_;show kX P (Op.equalIn (9999+1) t x e.key);unfold Op.equalIn;intro w;rw[Vg.run_bind,jU g w];cases d<;>simp at b<;>cases x<;>simp[KR]at i<;>exact⟨_,_,rfl,rfl⟩
theorem ui(hc:Fits P c)(ht:∀k e,P.underlying t=UG (.map k e)->Ay P k=UJ){z':UO}(h:aj c r x x')(k:aj c r y y')(l:aj c r z z'):ae P c r (Instr.mapUpdate t x y z) (Instr.mapUpdate t x' y' z') λ_ _ _=>True:=by unfold Instr.mapUpdate;refine ae.bind (ae.fA (bh t)) λr1 d d' R S=>?_;obtain⟨rfl,S⟩:=S;cases d' with|map A E=>have G:=ht A E S;have hk:=Al G;(cases h.mono R with|l8=>exact ae.runtimePanic|map I=>refine ae.getObj I λo o' ns ho X=>?_;(cases ho with|map kk s e=>rename_i F m;have g:lY c r1 F m:=⟨s,e⟩;refine ae.bind (ae.checkKey _ _ hk 9999) λr2 _ _ C _=>?_;have B:=(k.mono R).mono C;(have w:ae P c r2 (Instr.findKey A y F.toList) (Instr.findKey A y' m.toList) λZ u M=>AS c Z u M/\(KR y=Ul->u=UM):=by by_cases hy:KR y=Ul;{refine(ae.Ht G hy _ _ (by simpa using g.mono C)).mono λZ u M _ h=>?_;obtain⟨rfl,rfl⟩:=h;exact⟨trivial,λ_=>rfl⟩};exact(ae.findKey hc hk B (by simpa using g.mono C)).mono λZ u M _ h=>⟨h,λe=>absurd e hy⟩);refine ae.bind w λr3 u M N J=>?_;obtain⟨J,K⟩:=J;have B:=B.mono N;have lr:=((l.mono R).mono C).mono N;have g:=(g.mono C).mono N;have I:=N _ _ (C _ _ I);(match u,M,J,K with|none,UM,_,_=>refine ae.setObj I ns (.map (kk+1) (by grind) λi e O a b=>?_) rfl;rw[SP]at a b;rw[<-g.1]at b;split at a;{cases a;rw[if_pos ‹_›]at b;cases b;exact⟨B,lr,rfl⟩};{rw[if_neg ‹_›]at b;exact g.2 i e O a b}|some (i,_),UG (v,_),J,K=>(have Y:KR y=UJ:=by simp_all);obtain⟨W,_⟩:=J;subst W;(have p:aj c r3 (((F[v]?).map (·.key)).getD y) (((m[v]?).map (·.key)).getD y'):=by cases V:F[v]? with|none=>simp_all|some Q=>(have H:v<m.size:=by grind);have:=g.2 v Q m[v] V (Su H);rw[Su H];exact this.key);(have L:ae P c r3 (Instr.keyThatStays (((F[v]?).map (·.key)).getD y) y) (Instr.keyThatStays (((m[v]?).map (·.key)).getD y') y') (aj c):=by unfold Instr.keyThatStays;rw[wP 10000 p B Y];refine ae.ite (λ_=>ae.pure B) λ_=>?_;refine ae.bind (ae.cJ (iD _)) λr4 n n' D X=>?_;subst X;refine ae.pure ?_;split;{exact B.mono D};exact p.mono D);refine ae.bind L λr4 q q' D hq=>?_;refine ae.setObj (D _ _ I) ns (.map kk (by grind) λj e O a b=>?_) rfl;rw[Tc]at a b;split at a;{rw[if_pos ‹_›]at b;obtain⟨Q,T,rfl⟩:=St.1 a;obtain⟨e1,U,rfl⟩:=St.1 b;exact⟨hq,lr.mono D,((g.2 j Q e1 T U).born)⟩};·rw[if_neg ‹_›]at b;exact(g.2 j e O a b).mono D)|cells _ _ _=>exact absurd rfl (X _ _ _)|_=>exactλ_ _ _=>rfl)|_=>exact ae.stuck)|_=>exact ae.stuck
theorem Cq(k:P.underlying t=UG .string)(h:aj c r x x'):ae P c r (Instr.range t x) (Instr.range t x') (aj c):=by unfold Instr.range;refine ae.bind (ae.fA (bh t)) λv d n i f=>?_;obtain⟨rfl,f⟩:=f;rw[k]at f;cases f;cases h.mono i with|string s=>exact ae.bind (Q:=λl a b=>mK c l a b) (ae.pure (.iter s 0)) λw o u p j=>ae.bind (ae.newObj j) λy b m q g=>ae.pure (.ptr ⟨g.1,rfl,rfl,Tk g.2⟩)|_=>exactλ_ _ _=>rfl
theorem E2(h:aj c r x x'):ae P c r (Instr.next x UJ t) (Instr.next x' UJ t) (aj c):=by unfold Instr.next;cases h with|ptr m=>rename_i a l;obtain⟨b,v,k⟩:=a;obtain⟨w,e,i⟩:=l;obtain⟨g,f,j,-⟩:=m;simp only at g f j;subst f j;(cases e with|succ n=>exact ae.stuck|zero=>refine ae.getObj g λo z u f q=>?_;cases f with|iter s p=>refine ae.ite (λ_=>?_) λ_=>ae.pure (.kK (ak.single (.bool _)));refine ae.bind (ae.setObj g u (.iter s _) rfl) λA _ _ y _=>ae.pure (.kK ?_);exact((ak.single (.bool _)).push (.int _ _)).push (.int _ _)|cells _ _ _=>exact absurd rfl (q _ _ _)|_=>exact ae.stuck)|_=>exact ae.stuck
theorem aau:∀(l l':List UO){r:bC},l.length=l'.length->(∀(i:Nat)(v v':UO),l[i]?=UG v->l'[i]?=UG v'->aj c r v v')->∀s:ByteArray,ae P c r (forIn l s λc r=>(match c with|.int .u8 n=>Pure.pure (ForInStep.yield (r.push (UInt8.ofNat n.toNat)))|_=>(λ_:PUnit=>ForInStep.yield r)<$>stuck "bytesToString: byte expected" :Vg (ForInStep ByteArray))) (forIn l' s λc r=>(match c with|.int .u8 n=>Pure.pure (ForInStep.yield (r.push (UInt8.ofNat n.toNat)))|_=>(λ_:PUnit=>ForInStep.yield r)<$>stuck "bytesToString: byte expected" :Vg (ForInStep ByteArray))) λ_ x y=>x=y|[],[],_,_,_,s=>by rw[List.forIn_nil];exact ae.pure rfl|[],_::_,_,h,_,_=>by cases h|_::_,[],_,h,_,_=>by cases h|v::l,v'::l',r,h,hv,s=>by rw[List.forIn_cons,List.forIn_cons];have h0:aj c r v v':=hv 0 v v' rfl rfl;have hl:∀(i:Nat)(u u':UO),l[i]?=UG u->l'[i]?=UG u'->aj c r u u':=λi u u' a b=>hv (i+1) u u' a b;refine ae.bind (Q:=λ_(x y:ForInStep ByteArray)=>x=y/\∃z,x=.yield z) ?_ λr1 x y hle e=>?_;{cases h0 with|int k n=>(cases k<;>first|exact ae.pure ⟨rfl,_,rfl⟩|exactλ_ _ _=>rfl)|_=>exactλ_ _ _=>rfl};obtain⟨rfl,z,rfl⟩:=e;exact aau l l' (by simpa using h) (λi u u' a b=>(hl i u u' a b).mono hle) z
theorem aaw(h:aj c r x x'):ae P c r (Conv.bytesToString x) (Conv.bytesToString x') (aj c):=by(have key:∀{a a':Vs}{n:Nat}{r:bC},ae P c r (Go.loadCells a n) (Go.loadCells a' n) (ak c)->ae P c r (Conv.bytesToString (.slice (UG a) n 0)) (Conv.bytesToString (.slice (UG a') n 0)) (aj c):=λ{a a' n r}h=>by unfold Conv.bytesToString;refine ae.bind h λr1 y y' hle hy=>?_;(refine ae.bind (Q:=λ_ x y=>x=y) ?_ λr2 z z' _ e=>by subst e;exact ae.pure (.string _));have:=aau (P:=P) (c:=c) y.toList y'.toList (r:=r1) (by simpa using hy.size) (λi u u' a b=>hy.el i u u' (by simpa using a) (by simpa using b)) ByteArray.empty;simp only[Array.forIn_toList]at this;exact this);cases h with|gP n m=>exact ae.pure (.string _)|slice n m h=>exact key (ae.loadCells h n)|dh a a'=>exact key (n:=0) (ae.pure .empty)|_=>exact ae.stuck
def Fv(P:U9)(s d:U8):Bool:=match P.underlying s,P.underlying d with|some (.int _),UG (.int _)|some (.int _),UG .string|some .string,UG .string=>UJ|some (.slice e),UG .string=>(match P.underlying e with|some (.int .u8)=>UJ|_=>Ul)|_,_=>Ul
theorem aa9{e0:U8}(h:P.underlying e0=UG (.int .u8))(k:aj c r x x'):ae P c r (do match<-underlying e0 with|.int .u8=>Conv.bytesToString x|.int .i32=>Conv.runesToString x|_=>stuck "Convert: a slice of what to string?") (do match<-underlying e0 with|.int .u8=>Conv.bytesToString x'|.int .i32=>Conv.runesToString x'|_=>stuck "Convert: a slice of what to string?") (aj c):=by refine ae.bind (ae.fA (bh e0)) λo a i j e=>?_;obtain⟨rfl,e⟩:=e;rw[h]at e;cases e;exact aaw (k.mono j)
theorem xC{s d:U8}(h:Fv P s d=UJ)(k:aj c r x x'):ae P c r (convert s d x) (convert s d x') (aj c):=by unfold Go.convert;refine ae.bind (ae.fA (bh s)) λo a i j e=>?_;obtain⟨rfl,e⟩:=e;refine ae.bind (ae.fA (bh d)) λp b g l f=>?_;obtain⟨rfl,f⟩:=f;have k:=(k.mono j).mono l;unfold Fv at h;rw[e,f]at h;cases i with|int q=>(cases g with|int n=>(cases k<;>first|exact ae.pure (.int _ _)|exact ae.unsupported)|string=>(cases k<;>first|exact ae.pure (.string _)|exact ae.unsupported)|_=>simp at h)|string=>(cases g with|string=>(cases k<;>first|exact ae.pure (.string _)|exact ae.unsupported)|_=>simp at h)|slice e0=>(cases g with|string=>(have hb:P.underlying e0=UG (.int .u8):=by simp only at h;split at h;{assumption};cases h);have gen:=λ{y y'}(k:aj c p y y')=>aa9 (P:=P) hb k;(cases k with|int k n=>exact ae.pure (.string _)|string s=>exact ae.pure (.string _)|bool b=>exact gen (.bool b)|gO=>exact gen .gO|ptr h=>exact gen (.ptr h)|gP n m=>exact gen (.gP n m)|slice n m h=>exact gen (.slice n m h)|dh a a'=>exact gen (.dh a a')|l8=>exact gen .l8|map h=>exact gen (.map h)|func h1 h2 h3 h4 h5=>exact gen (.func h1 h2 h3 h4 h5)|nilFunc=>exact gen .nilFunc|nilIface=>exact gen .nilIface|iface t h=>exact gen (.iface t h)|agg h1 h2=>exact gen (.agg h1 h2)|tuple h1 h2=>exact gen (.tuple h1 h2))|_=>simp at h)|_=>simp at h
end
end Go.ae
