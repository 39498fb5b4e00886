/- A part. -/
import Derived.KernelRfl
import GoSem.Core.Value
import Derived.Conc.Own4
import Derived.Conc.SmallLaws
import Derived.Conc.Listed
import Derived.Calls
import Derived.Conc.Own
import Derived.Conc.Events
import Derived.Laws.Entries
import Derived.Conc.LockTrace
import Derived.Conc.MuSpec
import Derived.Conc.Beside
import Derived.Conc.MuWords
import Derived.Conc.ClockLaws
import Derived.Test.YtobmepfondcekaaGreatDoorProg
import Derived.Conc.DeferLaws
import Derived.Conc.QuitsD
import Derived.Conc.WgArith
set_option linter.all false
open Go.Proofs.Tryz renaming prog->Pz
open Go renaming Act->XZ,Addr->XU,Builtin->XJ,CallKind->X9,Code->X5,Deferred->XP,Event->XV,Frame->Xu,FuncId->XC,Goroutine->Xh,IntKind->Xs,Item->XT,MapEntry->X3,Obj->XQ,Oper->X4,Operand->XI,Program->Xz,Question->X7,Result->XS,Sem->XN,TypeId->Xv,Value->Xc,World->Xf,execOp->Xm,stepG->Xp,undef->XA,yielded->Xy
open Bool renaming false->W4,true->W9
open Option renaming none->Xg,some->W7
open Go.Proofs.Tryz
abbrev Uv:=@Nat.le_refl
abbrev Uw:=@Nat.lt_of_lt_of_le
abbrev Ux:=@Array.getElem?_eq_some_iff
abbrev Uy:=@Bool.and_eq_true
abbrev Uz:=@List.getElem?_eq_getElem
abbrev UA:=@Option.map_eq_some_iff
abbrev UB:=@List.mem_cons_self
abbrev UC:=@List.mem_cons
abbrev UD:=@List.mem_of_getElem?
abbrev UE:=@List.mem_map
abbrev UF:=@Array.getD_eq_getD_getElem?
abbrev UG:=@Array.getElem?_eq_getElem
abbrev UH:=@Nat.zero_add
abbrev UI:=@List.getElem?_eq_some_iff
abbrev UJ:=@List.getElem?_map
abbrev UK:=@Option.some.injEq
abbrev UL:=@List.any_eq_true
abbrev UM:=@Prod.mk.injEq
abbrev UN:=@List.mem_cons_of_mem
abbrev UO:=@Iff.rfl
abbrev UP:=@Nat.lt_irrefl
abbrev UQ:=@List.mem_append
abbrev UR:=@Array.getElem?_replicate
abbrev US:=@Option.map_some
abbrev UT:=@List.mem_iff_getElem?
abbrev UU:=@Option.bind_eq_some_iff
abbrev UW:=@Nat.le_trans
abbrev UX:=@Array.getElem?_setIfInBounds_ne
abbrev UY:=@List.mem_append_right
abbrev UZ:=@Array.getElem?_push
abbrev U0:=@Nat.add_zero
abbrev U1:=@List.map_cons
abbrev U2:=@List.all_eq_true
abbrev U3:=@List.mem_append_left
abbrev U5:=@Bool.false_eq_true
abbrev U6:=@List.not_mem_nil
abbrev U7:=@List.length_eq_zero_iff
abbrev U8:=@List.mem_singleton
abbrev U9:=@Prod.mk.inj
abbrev Va:=@Bool.eq_false_iff
abbrev Vb:=@Nat.lt_or_ge
abbrev Ve:=@Array.mem_append
abbrev Vf:=@Nat.zero_le
abbrev Vg:=@Nat.le_of_ble_eq_true
abbrev Vh:=@Nat.le_of_lt
abbrev Vi:=@List.length_append
abbrev Vj:=@Array.mem_of_getElem?
abbrev Vk:=@Nat.eq_zero_or_pos
abbrev Vl:=@Option.getD_some
abbrev Vm:=@Nat.mod_lt
abbrev Vn:=@Nat.le_of_eq
abbrev Vo:=@List.nodup_cons
abbrev Vp:=@Classical.byContradiction
abbrev Vq:=@List.take_of_length_le
abbrev Vr:=@Bool.or_eq_true
abbrev Vs:=@Int.le_refl
abbrev Vt:=@Option.some.inj
abbrev Vu:=@Array.getElem?_modify
abbrev Vv:=@List.mem_filter
abbrev Vw:=@List.map_nil
abbrev Vx:=@Nat.le_add_right
abbrev Vy:=@List.all_cons
abbrev Vz:=@Nat.not_lt_zero
abbrev VA:=@List.append_nil
abbrev VB:=@Nat.le_succ
abbrev VC:=@Bool.false_and
abbrev VD:=@List.getElem?_range
abbrev VE:=@List.foldl_cons
abbrev VF:=@List.getElem?_append_left
abbrev VG:=@List.count_cons_of_ne
abbrev VH:=@List.perm_middle
abbrev VI:=@Array.getElem?_setIfInBounds
abbrev VJ:=@Array.getElem?_map
abbrev VK:=@List.getElem_mem
abbrev VL:=@List.take_add_one
abbrev VM:=@Bool.true_and
abbrev VN:=@List.drop_eq_getElem_cons
abbrev VO:=@Nat.ne_of_lt
abbrev VP:=@Bool.or_true
abbrev VQ:=@List.length_cons
abbrev VR:=@Nat.pos_of_ne_zero
abbrev VS:=@Nat.add_assoc
abbrev VU:=@Int.add_zero
abbrev VV:=@Option.isSome_iff_exists
abbrev VW:=@Nat.mul_le_mul_right
abbrev VX:=@Option.bind_some
abbrev VY:=@List.mem_flatMap
abbrev VZ:=@List.append_assoc
abbrev V0:=@List.map_toArray
abbrev V1:=@List.getElem_toArray
abbrev V2:=@List.getElem_cons_succ
abbrev V3:=@List.getElem_cons_zero
abbrev V4:=@List.setIfInBounds_toArray
abbrev V5:=@List.set_cons_zero
abbrev V6:=@List.set_cons_succ
abbrev V7:=@Bool.eq_iff_iff
abbrev V8:=@List.getElem?_cons_succ
abbrev V9:=@List.getElem?_append_right
abbrev Wa:=@List.nodup_nil
abbrev Wb:=@Array.length_toList
abbrev We:=@Bool.true_or
abbrev Wf:=@Nat.add_mul
abbrev Wg:=@List.map_append
abbrev Wh:=@Nat.mul_one
abbrev Wi:=@Nat.lt_or_eq_of_le
abbrev Wj:=@Int.le_antisymm
abbrev Wk:=@Nat.mod_eq_of_lt
abbrev Wl:=@Array.mem_iff_getElem
abbrev Wm:=@List.foldl_append
abbrev Wn:=@List.nil_append
abbrev Wo:=@Array.all_eq_true_iff_forall_mem
abbrev Wp:=@Bool.or_false
abbrev Wq:=@Array.mem_push
abbrev Wr:=@List.mem_map_of_mem
abbrev Ws:=@List.range_succ
abbrev Wt:=@Bool.toNat_le
abbrev Wu:=@Array.ext_getElem?
abbrev Wv:=@Array.getElem?_eq_none
abbrev Ww:=@List.cons.injEq
abbrev Wx:=@Nat.le_of_lt_succ
abbrev Wy:=@Int.le_trans
abbrev Wz:=@List.getElem?_toArray
abbrev WA:=@List.take_length
abbrev WB:=@List.mapIdx_cons
abbrev WC:=@List.count_append
abbrev WE:=@List.flatMap_cons
abbrev WG:=@Nat.add_comm
abbrev WH:=@Nat.lt_of_le_of_lt
abbrev WI:=@Nat.le_of_not_lt
abbrev WJ:=@List.ext_getElem?
abbrev WK:=@List.any_cons
abbrev WL:=@Nat.le_antisymm
abbrev WM:=@Nat.testBit_two_pow_mul_add
abbrev WN:=@Nat.testBit_lt_two_pow
abbrev WO:=@Nat.pow_le_pow_right
abbrev WQ:=@Int.fdiv_eq_ediv_of_nonneg
abbrev WR:=@Nat.mul_comm
abbrev WS:=@List.eq_nil_or_concat
abbrev WT:=@List.foldlM_cons
abbrev WU:=@Bool.false_or
abbrev WV:=@Int.max_eq_right
abbrev WW:=@Int.max_eq_left
abbrev WX:=@List.count_pos_iff
abbrev WY:=@List.length_drop
abbrev WZ:=@Bool.not_false
abbrev W1:=@Nat.lt_of_succ_lt
abbrev W3:=@Nat.div_add_mod
abbrev W6:=@List.take_succ_eq_append_getElem
abbrev W8:=@List.take_subset_take_left
abbrev Xa:=@List.extract_eq_take_drop
abbrev Xb:=@List.flatMap_eq_nil_iff
abbrev Xd:=@List.contains_iff_mem
abbrev Xe:=@List.map_eq_nil_iff
abbrev Xi:=@Array.getElem?_append_left
abbrev Xj:=@List.drop_of_length_le
abbrev Xk:=@Array.getElem?_of_mem
abbrev Xl:=@List.eq_nil_of_length_eq_zero
abbrev Xn:=@Nat.and_two_pow_sub_one_eq_mod
abbrev Xo:=@Nat.two_pow_add_eq_or_of_lt
abbrev Xq:=@List.concat_eq_append
abbrev Xr:=@List.mem_of_mem_drop
abbrev Xw:=@Array.getElem_setIfInBounds
abbrev Xx:=@Array.getElem?_push_lt
abbrev XB:=@Array.getElem!_eq_getD
abbrev XF:=@Array.mapM_eq_foldlM
abbrev XG:=@Array.foldlM_toList
abbrev XH:=@Nat.pos_iff_ne_zero
abbrev XK:=@Array.toList_append
abbrev XL:=@List.take_append_drop
abbrev XM:=@List.count_cons_self
abbrev XO:=@Classical.choose_spec
abbrev XR:=@List.length_pos_iff
abbrev XX:=@Array.getElem?_setIfInBounds_self_of_lt
abbrev XY:=@List.perm_append_comm_assoc
namespace Go
abbrev Iv(n:Int):Xc:=.int .i64 n
variable{p:Prop}
theorem Ψ(h:p:=by kernel_rfl):p:=h
theorem Δ(h:p:=by decide):p:=h
theorem Ω(h:p:=by omega):p:=h
theorem Θ(h:p:=by simp):p:=h
theorem Ξ(h:p:=by rw[hP];kernel_rfl):p:=h
theorem Λ(h:p:=by rw[hP];exact .all):p:=h
theorem Υ(h:p:=by intro p hp;simp only[UC,U6,or_false]at hp;(repeat'(refine Or.elim hp ?_ ?_<;>intro hp));(all_goals subst hp);all_goals first|(left;simp;done)|(refine .inr ⟨0,?_,hdep 0 ?_⟩;rotate_left;kernel_rfl;simp;done)|(refine .inr ⟨1,?_,hdep 1 ?_⟩;rotate_left;kernel_rfl;simp;done)|(refine .inr ⟨2,?_,hdep 2 ?_⟩;rotate_left;kernel_rfl;simp;done)|(refine .inr ⟨3,?_,hdep 3 ?_⟩;rotate_left;kernel_rfl;simp;done)|(refine .inr ⟨4,?_,hdep 4 ?_⟩;rotate_left;kernel_rfl;simp;done)|(refine .inr ⟨5,?_,hdep 5 ?_⟩;rotate_left;kernel_rfl;simp;done)|(refine .inr ⟨6,?_,hdep 6 ?_⟩;rotate_left;kernel_rfl;simp;done)|(refine .inr ⟨7,?_,hdep 7 ?_⟩;rotate_left;kernel_rfl;simp;done)|(refine .inr ⟨8,?_,hdep 8 ?_⟩;rotate_left;kernel_rfl;simp;done)|(refine .inr ⟨9,?_,hdep 9 ?_⟩;rotate_left;kernel_rfl;simp;done)|(refine .inr ⟨10,?_,hdep 10 ?_⟩;rotate_left;kernel_rfl;simp;done)|(refine .inr ⟨11,?_,hdep 11 ?_⟩;rotate_left;kernel_rfl;simp;done)|(refine .inr ⟨12,?_,hdep 12 ?_⟩;rotate_left;kernel_rfl;simp;done)|(refine .inr ⟨13,?_,hdep 13 ?_⟩;rotate_left;kernel_rfl;simp;done)|(refine .inr ⟨14,?_,hdep 14 ?_⟩;rotate_left;kernel_rfl;simp;done)|(refine .inr ⟨15,?_,hdep 15 ?_⟩;rotate_left;kernel_rfl;simp;done)|(refine .inr ⟨16,?_,hdep 16 ?_⟩;rotate_left;kernel_rfl;simp;done)|(refine .inr ⟨17,?_,hdep 17 ?_⟩;rotate_left;kernel_rfl;simp;done)|(refine .inr ⟨18,?_,hdep 18 ?_⟩;rotate_left;kernel_rfl;simp;done)|(refine .inr ⟨19,?_,hdep 19 ?_⟩;rotate_left;kernel_rfl;simp;done)|(refine .inr ⟨20,?_,hdep 20 ?_⟩;rotate_left;kernel_rfl;simp;done)|(refine .inr ⟨21,?_,hdep 21 ?_⟩;rotate_left;kernel_rfl;simp;done)|(refine .inr ⟨22,?_,hdep 22 ?_⟩;rotate_left;kernel_rfl;simp;done)|(refine .inr ⟨23,?_,hdep 23 ?_⟩;rotate_left;kernel_rfl;simp;done)|(refine .inr ⟨24,?_,hdep 24 ?_⟩;rotate_left;kernel_rfl;simp;done)|(refine .inr ⟨25,?_,hdep 25 ?_⟩;rotate_left;kernel_rfl;simp;done)):p:=h
abbrev ϖ(b:Nat):Xc:=.pointer (W7 ⟨b,0,Xg⟩)
abbrev ϱ(b o:Nat):Xc:=.pointer (W7 ⟨b,o,Xg⟩)
end Go
namespace Go.Pw
open Go.Conc
variable{P:Xz}{α:Type}{F F' F1:Xu}{o:XQ}{main rd:Bool}{cs:List Xu}{w:Xf}{ops:Array X4}{i d m N b:Nat}{k:List XT}{H L L':List (Nat×Xc)}{R:Xf->Xf->Prop}{D:Xf->Xf->Array XV->Prop}{Stop:Xh->Xf->Prop}{J:Xh->Prop}{v:Xc}{t:Array Xc}{f:XC}
def ep(P:Xz){α:Type}:XN α->Option α
 |.pure a=>W7 a
 |.program k=>ep P (k P)
 |_=>Xg
theorem ir{x:XN α}{a:α}(h:ep P x=W7 a)(w:Xf):x.run P w=.ok a w/\x.events P w #[]=#[]:=by induction x with|pure b=>simp only[ep,UK]at h;subst h;exact⟨rfl,rfl⟩|program k c=>exact c P h|_=>simp[ep]at h
def AT(P:Xz)(F:Xu)(o:X4):Option Xu:=
 match o.op with
 |.defer _=>Xg
 |_=>match ep P (Xm F.eval o)with
   |some (.value v)=>W7 (F.finish v)
   |some .skip=>W7 (F.finish XA)
   |_=>Xg
def lW(P:Xz)(F:Xu):Option Xu:=
 match F.todo with
 |.code .skip::k=>W7 {F with todo:=k}
 |.code (.label _)::k=>W7 {F with todo:=k}
 |.inBlock _::k=>W7 {F with todo:=k}
 |.inScope _::k=>W7 {F with todo:=k}
 |.code (.seq a b)::k=>W7 {F with todo:=.code a::.code b::k}
 |.code (.cond c x y)::k=>match F.eval c with
   |.bool b=>W7 {F with todo:=.code (if b then x else y)::k}
   |_=>Xg
 |.code (.block id c)::k=>W7 {F with todo:=.code c::.inBlock id::k}
 |.code (.loop c)::k=>W7 {F with todo:=.code c::.inLoop c::k}
 |.inLoop c::k=>W7 {F with todo:=.code c::.inLoop c::k}
 |.code (.scope c)::k=>W7 {F with todo:=.code c::.inScope c::k}
 |.code (.exit id)::k=>(exitTo id k).map λk=>{F with todo:=k}
 |.code (.region _ ops W4)::k=>W7 {F with todo:=.inRegion ops (List.range ops.size)::k}
 |.inRegion _ []::k=>W7 {F with todo:=k}
 |.inRegion ops (i::_)::_=>
   match((ops[i]?).map (Region.wanted · (Xy ops F.tmps))).getD W4 with
   |true=>(ops[i]?).bind (AT P F)
   |false=>W7 (F.finish XA)
 |_=>Xg
def hint(H:List (Nat×Xc))(F F1:Xu):Xu×List (Xc×Xc):=
 match F.todo with
 |.inRegion ops (i::_)::_=>
   match(ops[i]?).bind (·.dst)with
   |some d=>match H.lookup d with
     |some v=>({F1 with tmps:=F.tmps.setIfInBounds d v},[(F1.tmps.getD d XA,v)])
     |none=>(F1,[])
   |none=>(F1,[])
 |_=>(F1,[])
def bD(P:Xz)(H:List (Nat×Xc)):Nat->Xu->Option (Xu×List (Xc×Xc))
 |0,F=>W7 (F,[])
 |n+1,F=>(lW P F).bind λF1=>(bD P H n (hint H F F1).1).map λx=>(x.1,(hint H F F1).2++x.2)
theorem kG(P:Xz)(f:XC):seen P f #[]=#[]:=by rw[seen_def];simp
theorem AR{o:X4}(C:F.mode=.run)(B:F.kind≠.early)(H:∃ops i rest k,F.todo=.inRegion ops (i::rest)::k/\ops[i]?=W7 o/\Region.wanted o (Xy ops F.tmps)=W9)(h:AT P F o=W7 F'):Xp P main (G F cs) w=.go (G F' cs) w #[]:=by obtain⟨ops,i,rest,k,z,A,t⟩:=H;obtain⟨fn,tmps,todo,defers,mode,kind,q⟩:=F;subst z C;(have m:=by simpa using B);(have D:∀c,o.op≠.defer c:=λc e=>by unfold AT at h;rw[e]at h;cases h);(have y:∀n,ep P (Xm (Xu.eval {fn:=fn,tmps:=tmps,todo:=.inRegion ops (i::rest)::k,defers:=defers,mode:=.run,kind:=kind,roundOf:=q}) o)=W7 n->(∃v,n=.value v/\F'=Xu.finish {fn:=fn,tmps:=tmps,todo:=.inRegion ops (i::rest)::k,defers:=defers,mode:=.run,kind:=kind,roundOf:=q} v)\/(n=.skip/\F'=Xu.finish {fn:=fn,tmps:=tmps,todo:=.inRegion ops (i::rest)::k,defers:=defers,mode:=.run,kind:=kind,roundOf:=q} XA):=by intro n E;unfold AT at h;split at h;{cases h};rw[E]at h;cases n<;>simp at h<;>simp[h]);cases u:ep P (Xm (Xu.eval {fn:=fn,tmps:=tmps,todo:=.inRegion ops (i::rest)::k,defers:=defers,mode:=.run,kind:=kind,roundOf:=q}) o)with|none=>unfold AT at h;split at h;{cases h};rw[u]at h;cases h|some n=>obtain⟨p,r⟩:=ir u w;(have x:Xp P main (G {fn:=fn,tmps:=tmps,todo:=.inRegion ops (i::rest)::k,defers:=defers,mode:=.run,kind:=kind,roundOf:=q} cs) w=Xp.apply P W9 {fn:=fn,tmps:=tmps,todo:=.inRegion ops (i::rest)::k,defers:=defers,mode:=.run,kind:=kind,roundOf:=q} cs Xg (Xm (Xu.eval {fn:=fn,tmps:=tmps,todo:=.inRegion ops (i::rest)::k,defers:=defers,mode:=.run,kind:=kind,roundOf:=q}) o) w:=by cases q with|none=>simp only[G,Xp,Xp.exec,Xp.oper,Xu.oper?,A,t,US,Vl,if_true]|some l=>simp only[G,Xp,Xp.exec,Xp.oper,Xu.oper?,A,t,US,Vl,if_true];split;{rename_i e;exact absurd e (D _)};rfl);rw[x];rcases y n u with⟨v,rfl,rfl⟩|⟨rfl,rfl⟩;{simp[Xp.apply,p,r,m,GStep.after,kG,G]};simp[Xp.apply,p,r,m,GStep.after,kG,G]
theorem iU(m:F.mode=.run)(a:F.kind≠.early)(h:lW P F=W7 F'):(∀main cs w,Xp P main (G F cs) w=.go (G F' cs) w #[])/\F'.mode=.run/\F'.kind≠.early:=by obtain⟨t,q,r,f,p,n,v⟩:=F;subst m;unfold lW at h;simp only at h;split at h;(all_goals first|(cases h;exact⟨λmain cs w=>by simp[G,Xp,Xp.exec],rfl,a⟩)|skip);{split at h;{rename_i b s;cases h;exact⟨λmain cs w=>by simp[G,Xp,Xp.exec,s],rfl,a⟩};cases h};{rename_i id k;cases j:exitTo id k with|none=>rw[j]at h;cases h|some u=>rw[j]at h;cases h;exact⟨λmain cs w=>by simp[G,Xp,Xp.exec,j],rfl,a⟩};{rename_i d i e k;split at h;{rename_i g;cases l:d[i]? with|none=>rw[l]at h;cases h|some o=>rw[l]at h g;simp only[VX]at h;refine⟨λmain cs w=>AR rfl a ⟨d,i,e,k,rfl,l,by simpa using g⟩ h,?_⟩;unfold AT at h;split at h;{cases h};split at h<;>cases h<;>exact⟨rfl,a⟩};rename_i g;cases h;refine⟨λmain cs w=>?_,rfl,a⟩;simp only[G,Xp,Xp.exec,g,U5,if_false]};cases h
theorem FK{rest:List Nat}{d:Tmp}(e:F.todo=.inRegion ops (i::rest)::k)(l:(ops[i]?).bind (·.dst)=W7 d)(h:lW P F=W7 F1):∃v,F1={F with tmps:=F.tmps.setIfInBounds d v,todo:=.inRegion ops rest::k}:=by(have c:∀v,F.finish v={F with tmps:=F.tmps.setIfInBounds d v,todo:=.inRegion ops rest::k}:=λv=>by obtain⟨m,tmps,todo,b,j,g,n⟩:=F;subst e;simp[Xu.finish,l]);unfold lW at h;rw[e]at h;simp only at h;split at h;{cases f:ops[i]? with|none=>rw[f]at h;cases h|some o=>rw[f]at h;simp only[VX]at h;unfold AT at h;split at h;{cases h};split at h<;>cases h;{exact⟨_,c _⟩};exact⟨_,c _⟩};cases h;exact⟨_,c _⟩
theorem wJ(h:lW P F=W7 F1)(a:∀p∈(hint H F F1).2,p.1=p.2):(hint H F F1).1=F1:=by unfold hint at a⊢;split;{rename_i e i j k g;rw[g]at a;simp only at a;cases f:(e[i]?).bind (·.dst)with|none=>rfl|some d=>rw[f]at a;simp only at a⊢;cases l:H.lookup d with|none=>rfl|some v=>rw[l]at a;simp only[U8,forall_eq]at a⊢;obtain⟨u,rfl⟩:=FK g f h;rcases Vb d F.tmps.size with c|b;{(have:(F.tmps.setIfInBounds d u).getD d XA=u:=by simp[c]);rw[this]at a;rw[a]};simp[Array.setIfInBounds,Nat.not_lt.2 b]};rfl
theorem rG(j:∀a b c,R a b->R b c->R a c)(i:∀w,D w w #[]):∀(n:Nat){F F':Xu}{obs:List (Xc×Xc)}{w:Xf},bD P H n F=W7 (F',obs)->(∀p∈obs,p.1=p.2)->F.mode=.run->F.kind≠.early->Goes P main R D Stop m (G F' cs) w->Goes P main R D Stop (m+n) (G F cs) w|0,F,F',obs,w,h,_,_,_,g=>by cases h;exact g|n+1,F,F',obs,w,h,k,t,s,g=>by simp only[bD]at h;cases d:lW P F with|none=>rw[d]at h;cases h|some l=>rw[d]at h;simp only[VX]at h;cases f:bD P H n (hint H F l).1 with|none=>rw[f]at h;cases h|some x=>rw[f]at h;simp only[US,UK,UM]at h;obtain⟨rfl,rfl⟩:=h;rw[wJ d λp d=>k p (UQ.2 (.inl d))]at f;obtain⟨o,q,r⟩:=iU t s d;have:=rG j i n (F':=x.1) (obs:=x.2) f (λp d=>k p (UQ.2 (.inr d))) q r g;refine .inr ⟨rfl,λv u=>?_⟩;rw[o];exact⟨i v,this.rely j u⟩
theorem ot(f:∀F b,(∀w,Xp P main (G F cs) w=.go (G b cs) w #[])->J (G b cs)->J (G F cs)):∀(n:Nat){F F':Xu}{obs:List (Xc×Xc)},bD P H n F=W7 (F',obs)->(∀p∈obs,p.1=p.2)->F.mode=.run->F.kind≠.early->J (G F' cs)->J (G F cs)|0,F,F',obs,h,_,_,_,e=>by cases h;exact e|n+1,F,F',obs,h,g,m,l,e=>by simp only[bD]at h;cases a:lW P F with|none=>rw[a]at h;cases h|some b=>rw[a]at h;simp only[VX]at h;cases d:bD P H n (hint H F b).1 with|none=>rw[d]at h;cases h|some x=>rw[d]at h;simp only[US,UK,UM]at h;obtain⟨rfl,rfl⟩:=h;rw[wJ a λp a=>g p (UQ.2 (.inl a))]at d;obtain⟨i,j,k⟩:=iU m l a;exact f F b (λw=>i main cs w) (ot f n (F':=x.1) (obs:=x.2) d (λp a=>g p (UQ.2 (.inr a))) j k e)
def tm(N:Nat)(L:List (Nat×Xc))(t:Array Xc):Array Xc:=((List.range N).map λi=>match L.lookup i with|some v=>v|none=>t.getD i XA).toArray
structure Sl(N:Nat)(L:List (Nat×Xc))(t:Array Xc):Prop where
 size:t.size=N
 at_:∀p∈L,t.getD p.1 XA=p.2
theorem jX(h:L.lookup i=W7 v):(i,v)∈L:=by induction L with|nil=>cases h|cons p l c=>simp only[List.lookup]at h;split at h;{rename_i e;cases h;(have:=by simpa using e);subst this;exact UB ..};exact UN _ (c h)
theorem Sl.tm(h:Sl N L t):t=tm N L t:=by apply Wu;intro i;(have e:(Pw.tm N L t)[i]?=((List.range N).map λi=>match L.lookup i with|some v=>v|none=>t.getD i XA)[i]?:=by unfold Pw.tm;simp);rw[e,UJ];rcases Vb i N with a|a;{rw[VD a];(have b:i<t.size:=by rw[h.size];exact a);simp only[US,UG b,UK];cases d:L.lookup i with|none=>simp[UG b]|some v=>have:=h.at_ _ (jX d);simp only[UF,UG b]at this;exact this};rw[List.getElem?_eq_none (by simpa using a),Wv (by rw[h.size];exact a)];rfl
theorem Sl.all(h:(t.size,L.map λp=>t.getD p.1 XA)=(N,L.map (·.2)):=by kernel_rfl):Sl N L t:=by obtain⟨a,b⟩:=U9 h;refine⟨a,λp d=>?_⟩;obtain⟨i,c⟩:=UT.1 d;have:=congrArg (·[i]?) b;simpa[UJ,c]using this
theorem Sl.Ss(h:t.size=N):Sl N [] t:=⟨h,λp a=>by cases a⟩
theorem Sl.cons{N:Nat}{L:List (Nat×Xc)}{t:Array Xc}{i:Nat}{v:Xc}(h:t.getD i XA=v)(b:Sl N L t):Sl N ((i,v)::L) t:=⟨b.size,λp a=>by rcases UC.1 a with rfl|a;{exact h};exact b.at_ p a⟩
section
abbrev fr(f:XC)(t:Array Xc)(k:List XT):Xu:={fn:=f,tmps:=t,todo:=k,defers:=[],mode:=.run,kind:=.normal,roundOf:=Xg}
def sub:List Nat->X5->X5
 |[],c=>c
 |i::p,c=>match c,i with
   |.seq a _,0=>sub p a
   |.seq _ b,_=>sub p b
   |.cond _ a _,0=>sub p a
   |.cond _ _ b,_=>sub p b
   |.block _ a,_=>sub p a
   |.loop a,_=>sub p a
   |.scope a,_=>sub p a
   |.rangeFunc _ _ a _,0=>sub p a
   |.rangeFunc _ _ _ b,_=>sub p b
   |c,_=>c
def aT:X5->Array X4
 |.region _ ops _=>ops
 |_=>#[]
def opn(ops:Array X4)(i:Nat):X4:=(ops[i]?).getD default
def TP:Nat->Nat->List Nat->List Nat
 |0,_,a=>a
 |f+1,n,a=>match Nat.ble n 1 with|true=>a|false=>TP f (n/2) (n%2::a)
def dg(n:Nat):List Nat:=TP 60 n []
abbrev sb(c:X5)(n:Nat):X5:=sub (dg n) c
def tT:List Nat->X5->List XT->List XT
 |[],_,k=>k
 |i::p,c,k=>match c,i with
   |.seq a b,0=>tT p a (.code b::k)
   |.seq _ b,_=>tT p b k
   |.cond _ a _,0=>tT p a k
   |.cond _ _ b,_=>tT p b k
   |.block id a,_=>tT p a (.inBlock id::k)
   |.loop a,_=>tT p a (.inLoop a::k)
   |.scope a,_=>tT p a (.inScope a::k)
   |_,_=>k
abbrev rA(c:X5)(n:Nat)(l:List Nat):List XT:=.inRegion (aT (sb c n)) l::tT (dg n) c []
abbrev cA(c:X5)(n:Nat):List XT:=.code (sb c n)::tT (dg n) c []
abbrev xA(x:X5)(c:X5)(n:Nat):List XT:=.code x::tT (dg n) c []
abbrev dA(c:X5)(n:Nat)(r:Nat):List XT:=.code (.region r (aT (sb c n)) W9)::tT (dg n) c []
theorem Sl.get(h:Sl N L t)(a:L.lookup i=W7 v):t.getD i XA=v:=h.at_ _ (jX a)
theorem Sl.gN(h:Sl N L t)(i:Nat)(hl:L.lookup i=W7 v):t.getD i XA=v:=h.get hl
theorem Sl.put(h:Sl N L t)(c:d<N)(e:∀p∈L',p=(d,v)\/(p∈L/\p.1≠d)):Sl N L' (t.setIfInBounds d v):=by refine⟨by simp[h.size],λp f=>?_⟩;rcases e p f with rfl|⟨a,b⟩;{simp[UF,h.size,c]};rw[<-h.at_ p a];simp only[UF];rw[UX (Ne.symm b)]
theorem Sl.sub(h:Sl N L t)(b:∀p∈L',p∈L):Sl N L' t:=⟨h.size,λp a=>h.at_ p (b p a)⟩
theorem aU{o:X4}(h:Sl N L t)(b:Region.wanted o (Xy ops (tm N L t))=W9):Region.wanted o (Xy ops t)=W9:=by rw[h.tm];exact b
theorem Sl.pt(h:Sl N L t)(b:d<N:=by decide)(c:L.all (λp=>!(p.1==d))=W9:=by rfl):Sl N ((d,v)::L) (t.setIfInBounds d v):=h.put b λp a=>by rcases UC.1 a with rfl|a;{exact .inl rfl};exact .inr ⟨a,by simpa using U2.1 c p a⟩
theorem tz:∀p∈([]:List (Xc×Xc)),p.1=p.2:=λp a=>by cases a
theorem L6{a b:Xc}{l:List (Xc×Xc)}(h:a=b)(d:∀p∈l,p.1=p.2):∀p∈(a,b)::l,p.1=p.2:=λp c=>by rcases UC.1 c with rfl|c;{exact h};exact d p c
theorem int_eq{k:Xs}{x y:Int}(h:x=y):Xc.int k x=Xc.int k y:=by rw[h]
structure Ob where
 c:Xc
 b:Xc
 h:c=b
def oi(k:Xs)(c b:Int)(h:c=b):Ob:=⟨.int k c,.int k b,int_eq h⟩
def o2(c b:Int)(h:c=b):Ob:=oi .u32 c b h
def o3(c b:Int)(h:c=b):Ob:=oi .i32 c b h
def o6(c b:Int)(h:c=b):Ob:=oi .i64 c b h
def o8(c b:Int)(h:c=b):Ob:=oi .u64 c b h
def ob(c b:Bool)(h:c=b):Ob:=⟨.bool c,.bool b,congrArg Xc.bool h⟩
def oh(O:List (Nat×Ob)):List (Nat×Xc):=O.map λp=>(p.1,p.2.b)
def oo(O:List (Nat×Ob)):List (Xc×Xc):=O.map λp=>(p.2.c,p.2.b)
theorem tM(O:List (Nat×Ob)):∀p∈oo O,p.1=p.2:=λp a=>by obtain⟨q,_,rfl⟩:=UE.1 a;exact q.2.h
def jb(P:Xz)(H:List (Nat×Xc))(n:Nat)(F:Xu):Array Xc:=match bD P H n F with|some x=>x.1.tmps|none=>#[]
section
variable{k':List XT}{n:Nat}{obs:List (Xc×Xc)}
theorem IL(l:∀a b c,R a b->R b c->R a c)(i:∀w,D w w #[])(n:Nat)(o:Sl N L t)(g:bD P H n (fr f (tm N L t) k)=W7 (fr f (jb P H n (fr f (tm N L t) k)) k',obs))(q:∀p∈obs,p.1=p.2)(h:Sl N L' (jb P H n (fr f (tm N L t) k)))(j:∀d,Sl N L' d->Goes P main R D Stop m (G (fr f d k') cs) w):Goes P main R D Stop (m+n) (G (fr f t k) cs) w:=by(have e:fr f t k=fr f (tm N L t) k:=by rw[<-o.tm]);rw[e];exact rG l i n g q rfl Θ (j _ h)
theorem JH(h:∀F a,(∀w,Xp P main (G F cs) w=.go (G a cs) w #[])->J (G a cs)->J (G F cs))(n:Nat)(i:Sl N L t)(c:bD P H n (fr f (tm N L t) k)=W7 (fr f (jb P H n (fr f (tm N L t) k)) k',obs))(j:∀p∈obs,p.1=p.2)(d:Sl N L' (jb P H n (fr f (tm N L t) k)))(g:∀b,Sl N L' b->J (G (fr f b k') cs)):J (G (fr f t k) cs):=by(have e:fr f t k=fr f (tm N L t) k:=by rw[<-i.tm]);rw[e];exact ot (main:=main) h n c j rfl Θ (g _ d)
end
end
def wW:Xc->Bool
 |.agg _|.tuple _=>W4
 |_=>W9
def QN{α:Type}(b:Nat)(r:Option (α×XQ×List Nat)):Option (α×XQ×List Nat):=r.map λr=>(r.1,r.2.1,b::r.2.2)
def jZ(P:Xz)(rd:Bool){α:Type}:XN α->XQ->Option (α×XQ×List Nat)
 |.pure a,o=>W7 (a,o,[])
 |.program k,o=>jZ P rd (k P) o
 |.load .plain ⟨b,i,Xg⟩ k,.cells c e fr=>(c[i]?).bind λv=>QN b (jZ P rd (k v) (.cells c e fr))
 |.store .plain ⟨b,i,Xg⟩ v k,.cells c e (0,0)=>match !rd&&wW v&&decide (i<c.size)with
   |true=>QN b (jZ P rd k (.cells (c.setIfInBounds i v) e))
   |false=>Xg
 |.getObj r k,.map es n=>QN r (jZ P rd (k (.map es n)) (.map es n))
 |.setObj r (.map es' n') k,.map _ _=>match rd with
   |false=>QN r (jZ P rd k (.map es' n'))
   |true=>Xg
 |_,_=>Xg
def Hu(P:Xz){α:Type}:XN α->Option (XQ×(Nat->XN α))
 |.program k=>Hu P (k P)
 |.new o k=>W7 (o,k)
 |_=>Xg
def iV(w:Xf)(b:Nat)(o:XQ):Xf:={w with heap:=w.heap.setIfInBounds b o}
theorem pK{o':XQ}(h:w.heap[b]?=W7 o):(iV w b o').heap[b]?=W7 o':=by obtain⟨a,_⟩:=Ux.1 h;simp[iV,a]
theorem oM{c:Nat}(h:c≠b):(iV w b o).heap[c]?=w.heap[c]?:=by simp[iV,UX (Ne.symm h)]
theorem vQ(w:Xf)(b:Nat)(o o':XQ):iV (iV w b o) b o'=iV w b o':=by simp[iV]
theorem nB(h:w.heap[b]?=W7 o):iV w b o=w:=by obtain⟨c,a⟩:=Ux.1 h;(have:w.heap.setIfInBounds b o=w.heap:=Array.ext (by simp) λk d _=>by rw[Xw];split;{rename_i e;subst e;exact a.symm};rfl);unfold iV;rw[this]
theorem Au{c:Array Xc}{e:Xv}(h:w.heap[b]?=W7 (.cells c e)):w.setCell ⟨b,i,Xg⟩ v=iV w b (.cells (c.setIfInBounds i v) e):=by obtain⟨f,d⟩:=Ux.1 h;(have:w.heap.modify b (λ|.cells c a frozen=>.cells (c.setIfInBounds i v) a frozen|o=>o)=w.heap.setIfInBounds b (.cells (c.setIfInBounds i v) e):=by apply Array.ext (by simp);intro k g _;rw[Array.getElem_modify,Xw];split;{rename_i e;subst e;rw[d]};rfl);unfold Xf.setCell iV;rw[<-this];rfl
def wo(b:Nat)(e:XV):Prop:=(match e.loc with|.cell a=>a.block=b|.obj j=>j=b|_=>False)/\e.sync=W4
theorem Lk{f:Array XV->Array XV}{e:XV}(i:wo b e)(h:∀es,∃a,f es=es++a/\∀x∈a,wo b x)(es:Array XV):∃a,f (es.push e)=es++a/\∀x∈a,wo b x:=by obtain⟨a,d,g⟩:=h (es.push e);refine⟨#[e]++a,by simp[d],λx c=>?_⟩;rcases Ve.1 c with c|c;{(obtain rfl:=by simpa using c);exact i};exact g x c
theorem kN{r:Option (α×XQ×List Nat)}{a:α}{q:List Nat}(h:QN b r=W7 (a,o,q)):∃c,r=W7 (a,o,c)/\q=b::c:=by obtain⟨⟨f,g,c⟩,d,e⟩:=UA.1 h;cases e;exact⟨c,d,rfl⟩
theorem rU{x:XN α}:∀{o o':XQ}{q:List Nat}{a:α}{w:Xf},jZ P rd x o=W7 (a,o',q)->(∀r∈q,r=b)->w.heap[b]?=W7 o->x.run P w=.ok a (iV w b o')/\∀es,∃u,x.events P w es=es++u/\∀e∈u,wo b e:=by induction x with|pure a=>intro o o' q a w h g d;cases h;exact⟨by rw[nB d];rfl,λes=>⟨#[],by simp,by simp⟩⟩|program k n=>exactλh g d=>n P h g d|load m A k n=>intro o o' q a w h g d;obtain⟨j,i,C⟩:=A;cases m<;>cases C<;>cases o<;>simp only[jZ,reduceCtorEq]at h;obtain⟨v,z,h⟩:=UU.1 h;obtain⟨B,s,rfl⟩:=kN h;obtain rfl:j=b:=g _ (UB ..);obtain⟨l,p⟩:=n v s (λr t=>g r (UN _ t)) d;(have y:w.cell? ⟨j,i,Xg⟩=W7 v:=by simp[Xf.cell?,d,z]);refine⟨by simpa[XN.run,y]using l,λes=>?_⟩;rw[show(XN.load Mode.plain ⟨j,i,Xg⟩ k).events P w es=(k v).events P w (es.push ⟨.cell ⟨j,i,Xg⟩,W4,W4⟩)by simp[XN.events,XN.runT,y,-XN.runT_eq];rfl];exact Lk (f:=(k v).events P w) ⟨rfl,rfl⟩ p es|store m A v k n=>intro o o' q a w h g d;obtain⟨j,i,C⟩:=A;(cases m<;>cases C<;>cases o<;>try(exfalso;revert h;simp[jZ];done));rename_i c e fr;obtain⟨F,H⟩:=fr;(cases F<;>cases H<;>try(exfalso;revert h;simp[jZ];done));simp only[jZ]at h;split at h;{rename_i D;rw[Uy,Uy,decide_eq_true_eq]at D;obtain⟨⟨_,z⟩,I⟩:=D;obtain⟨B,s,rfl⟩:=kN h;obtain rfl:j=b:=g _ (UB ..);obtain⟨l,p⟩:=n s (λr t=>g r (UN _ t)) (pK d);rw[vQ,<-Au d]at l;rw[<-Au d]at p;(have y:w.cell? ⟨j,i,Xg⟩=W7 c[i]:=by simp[Xf.cell?,d,I]);(have E:w.frozen? ⟨j,i,Xg⟩=W4:=by simp[Xf.frozen?,d]);refine⟨by cases v<;>simp[wW]at z<;>simpa[XN.run,y,E]using l,λes=>?_⟩;rw[show(XN.store Mode.plain ⟨j,i,Xg⟩ v k).events P w es=k.events P (w.setCell ⟨j,i,Xg⟩ v) (es.push ⟨.cell ⟨j,i,Xg⟩,W9,W4⟩)by cases v<;>simp[wW]at z<;>(simp[XN.events,XN.runT,y,E,-XN.runT_eq];rfl)];exact Lk (f:=k.events P _) ⟨rfl,rfl⟩ p es};cases h|getObj r k n=>intro o o' q a w h g d;cases o<;>simp only[jZ,reduceCtorEq]at h;obtain⟨B,s,rfl⟩:=kN h;obtain rfl:r=b:=g _ (UB ..);obtain⟨l,p⟩:=n _ s (λr t=>g r (UN _ t)) d;refine⟨by simpa[XN.run,d]using l,λes=>?_⟩;rw[show(XN.getObj r k).events P w es=(k _).events P w (es.push ⟨.obj r,W4,W4⟩)by simp[XN.events,XN.runT,d,XQ.isChan,-XN.runT_eq];rfl];exact Lk (f:=(k _).events P w) ⟨rfl,rfl⟩ p es|setObj r ob k n=>intro o o' q a w h g d;cases rd<;>cases o<;>cases ob<;>simp only[jZ,reduceCtorEq]at h;obtain⟨B,s,rfl⟩:=kN h;obtain rfl:r=b:=g _ (UB ..);obtain⟨l,p⟩:=n s (λr t=>g r (UN _ t)) (pK d);rw[vQ]at l;refine⟨by simp only[XN.run,d];exact l,λes=>?_⟩;rw[show(XN.setObj r _ k).events P w es=k.events P (iV w r _) (es.push ⟨.obj r,W9,W4⟩)by simp[XN.events,XN.runT,d,XQ.isChan,-XN.runT_eq];rfl];exact Lk (f:=k.events P _) ⟨rfl,rfl⟩ p es|_=>intro o o' q a w h;simp[jZ]at h
theorem JZ{x:XN α}:∀{o o':XQ}{q:List Nat}{a:α},jZ P W9 x o=W7 (a,o',q)->o'=o:=by induction x with|pure a=>intro o o' q a h;cases h;rfl|program k b=>exactλh=>b P h|load m d k b=>intro o o' q a h;obtain⟨j,i,g⟩:=d;cases m<;>cases g<;>cases o<;>simp only[jZ,reduceCtorEq]at h;obtain⟨v,s,h⟩:=UU.1 h;obtain⟨p,f,rfl⟩:=kN h;exact b v f|getObj r k b=>intro o o' q a h;cases o<;>simp only[jZ,reduceCtorEq]at h;obtain⟨p,f,rfl⟩:=kN h;exact b _ f|store m d v k b=>intro o o' q a h;obtain⟨j,i,g⟩:=d;(cases m<;>cases g<;>cases o<;>try(exfalso;revert h;simp[jZ];done));rename_i c e fr;obtain⟨l,n⟩:=fr;cases l<;>cases n<;>exfalso<;>revert h<;>simp[jZ]|setObj r ob k b=>intro o o' q a h;cases o<;>cases ob<;>simp[jZ]at h|_=>intro o o' q a h;simp[jZ]at h
theorem JG{x:XN α}{k:Nat->XN α}{a:α}(h:Hu P x=W7 (o,k))(d:ep P (k w.heap.size)=W7 a):x.run P w=.ok a (w.alloc o)/\x.events P w #[]=#[]:=by induction x with|program f e=>exact e P h|new g f=>cases h;obtain⟨b,c⟩:=ir d (w.alloc o);exact⟨b,c⟩|_=>simp[Hu]at h
def TB:Op->Bool
 |.defer _=>W9
 |_=>W4
def zU(F:Xu):Option X4:=match F.todo with
 |.inRegion ops (i::_)::_=>match((ops[i]?).map (Region.wanted · (Xy ops F.tmps))).getD W4 with
   |true=>match ops[i]? with
     |some o=>match TB o.op with|true=>Xg|false=>W7 o
     |none=>Xg
   |false=>Xg
 |_=>Xg
def valOf:Next->Option Xc
 |.value v=>W7 v
 |.skip=>W7 XA
 |_=>Xg
def Sq(P:Xz)(rd:Bool)(k:Nat)(F:Xu)(H:List (Nat×XQ)):Option (Xu×List (Nat×XQ)×List (Nat×Nat)):=
 match zU F,H[k]? with
 |some o,W7 (b,ob)=>match jZ P rd (Xm F.eval o) ob with
   |some (n,ob',q)=>(valOf n).map λv=>(F.finish v,H.set k (b,ob'),q.map λr=>(r,b))
   |none=>Xg
 |_,_=>Xg
def OB(P:Xz)(c:Nat)(F:Xu):Option (Xu×XQ):=
 match zU F with
 |some o=>match Hu P (Xm F.eval o)with
   |some (ob,k)=>((ep P (k c)).bind valOf).map λv=>(F.finish v,ob)
   |none=>Xg
 |none=>Xg
abbrev MR:=Xu×List (Nat×XQ)×List (Nat×Nat)×List (Xc×Xc)
def iM(P:Xz)(rd:Bool)(O:List (Nat×Xc)):Nat->List Nat->List Nat->Xu->List (Nat×XQ)->Option MR
 |0,_,_,F,H=>W7 (F,H,[],[])
 |n+1,hs,bs,F,H=>match lW P F with
   |some F1=>(iM P rd O n hs bs (hint O F F1).1 H).map λr=>(r.1,r.2.1,r.2.2.1,(hint O F F1).2++r.2.2.2)
   |none=>match hs with
     |[]=>W7 (F,H,[],[])
     |0::hs=>match bs with
       |[]=>Xg
       |c::bs=>match OB P c F with
         |some (F1,ob)=>iM P rd O n hs bs F1 ((c,ob)::H)
         |none=>Xg
     |(k+1)::hs=>match Sq P rd k F H with
       |some (F1,H1,q)=>(iM P rd O n hs bs F1 H1).map λs=>(s.1,s.2.1,q++s.2.2.1,s.2.2.2)
       |none=>Xg
theorem rE{o:X4}(h:zU F=W7 o):∃ops i rest k,F.todo=.inRegion ops (i::rest)::k/\ops[i]?=W7 o/\Region.wanted o (Xy ops F.tmps)=W9/\∀c,o.op≠.defer c:=by unfold zU at h;split at h;{rename_i ops i rest k f;split at h;{rename_i g;split at h;{rename_i j d;split at h;{cases h};rename_i b;cases h;refine⟨ops,i,rest,k,f,d,by simpa[d]using g,λc e=>?_⟩;rw[e]at b;cases b};cases h};cases h};cases h
theorem CM{o:X4}{w':Xf}{n:Next}(y:F.mode=.run)(r:F.kind≠.early)(h:zU F=W7 o)(A:(Xm F.eval o).run P w=.ok n w')(z:valOf n=W7 v):Xp P main (G F cs) w=.go (G (F.finish v) cs) w' (seen P F.fn ((Xm F.eval o).events P w #[]))/\(F.finish v).mode=.run/\(F.finish v).kind≠.early:=by obtain⟨p,i,g,k,u,x,q,C⟩:=rE h;obtain⟨fn,tmps,todo,defers,mode,kind,t⟩:=F;subst u y;(have m:=by simpa using r);refine⟨?_,rfl,r⟩;generalize D:Xu.eval _=B at A⊢;(have s:Xp P main (G {fn:=fn,tmps:=tmps,todo:=.inRegion p (i::g)::k,defers:=defers,mode:=.run,kind:=kind,roundOf:=t} cs) w=Xp.apply P W9 {fn:=fn,tmps:=tmps,todo:=.inRegion p (i::g)::k,defers:=defers,mode:=.run,kind:=kind,roundOf:=t} cs Xg (Xm B o) w:=by rw[<-D];cases t with|none=>simp only[G,Xp,Xp.exec,Xp.oper,Xu.oper?,x,q,US,Vl,if_true]|some l=>simp only[G,Xp,Xp.exec,Xp.oper,Xu.oper?,x,q,US,Vl,if_true];split;{rename_i e;exact absurd e (C _)};rfl);rw[s];cases n<;>simp[valOf]at z<;>subst z<;>simp[Xp.apply,A,m,GStep.after,G]
theorem Ln{es:Array XV}(h:∀e∈es,wo b e):∀e∈seen P f es,wo b e:=λe a=>by rw[seen_def]at a;rcases seen_fold_sub _ _ _ _ e a with x|x;{simp at x};exact h e (by simpa using x)
theorem NR{k:Nat}{H H1:List (Nat×XQ)}{q:List (Nat×Nat)}(x:F.mode=.run)(u:F.kind≠.early)(h:Sq P rd k F H=W7 (F1,H1,q))(z:∀p∈q,p.1=p.2):∃b o o',H[k]?=W7 (b,o)/\H1=H.set k (b,o')/\(rd=W9->o'=o)/\(∀main cs w,w.heap[b]?=W7 o->∃es,Xp P main (G F cs) w=.go (G F1 cs) (iV w b o') es/\∀e∈es,wo b e)/\F1.mode=.run/\F1.kind≠.early:=by unfold Sq at h;split at h;{rename_i C b ob y hH;split at h;{rename_i n d D g;obtain⟨v,B,e⟩:=UA.1 h;cases e;have a:=λr A=>z (r,b) (UE.2 ⟨r,A,rfl⟩);have c:∀main cs w,w.heap[b]?=W7 ob->Xp P main (G F cs) w=.go (G (F.finish v) cs) (iV w b d) (seen P F.fn ((Xm F.eval C).events P w #[]))/\(F.finish v).mode=.run/\(F.finish v).kind≠.early:=λmain cs w f=>CM x u y (rU g a f).1 B;refine⟨b,ob,d,hH,rfl,λe=>by subst e;exact JZ g,λmain cs w f=>⟨_,(c main cs w f).1,Ln λe i=>?_⟩,(c W9 [] {(default:Xf)with heap:=(Array.replicate (b+1) ob)} (by simp)).2⟩;obtain⟨l,m,s⟩:=(rU g a f).2 #[];rw[m]at i;exact s e (by simpa using i)};cases h};cases h
theorem GW(s:F.mode=.run)(q:F.kind≠.early)(h:∀c,∃r,OB P c F=W7 r):∃o,∃e:Nat->Xu,(∀c,OB P c F=W7 (e c,o))/\(∀main cs w,Xp P main (G F cs) w=.go (G (e w.heap.size) cs) (w.alloc o) #[])/\∀c,(e c).mode=.run/\(e c).kind≠.early:=by unfold OB at h⊢;cases g:zU F with|none=>obtain⟨r,b⟩:=h 0;rw[g]at b;cases b|some D=>simp only[g]at h⊢;cases l:Hu P (Xm F.eval D)with|none=>obtain⟨r,b⟩:=h 0;rw[l]at b;cases b|some x=>obtain⟨ob,p⟩:=x;simp only[l]at h⊢;(have j:∀c,∃n v,ep P (p c)=W7 n/\valOf n=W7 v:=λc=>by obtain⟨r,b⟩:=h c;obtain⟨v,j,_⟩:=UA.1 b;obtain⟨n,a,d⟩:=UU.1 j;exact⟨n,v,a,d⟩);(have m:∀main cs(w:Xf),Xp P main (G F cs) w=.go (G (F.finish (((ep P (p w.heap.size)).bind valOf).getD XA)) cs) (w.alloc ob) #[]:=λmain cs w=>by obtain⟨n,v,a,d⟩:=j w.heap.size;obtain⟨B,C⟩:=JG l a;rw[(CM s q g B d).1,C,kG,a];simp[d]);refine⟨ob,λc=>F.finish (((ep P (p c)).bind valOf).getD XA),λc=>?_,m,λc=>?_⟩;{obtain⟨n,v,a,d⟩:=j c;simp[a,d]};obtain⟨E,i,y,k,a,_⟩:=rE g;obtain⟨H,z,A,f,u,t,I⟩:=F;subst a;exact⟨s,q⟩
structure Carry(P:Xz)(rd:Bool)(main:Bool)(cs:List Xu)(J:(Nat->Prop)->Xh->Xf->Prop)(Kn:(Nat->Prop)->Xf->List (Nat×XQ)->Prop)(al:Prop):Prop where
 ctl:∀own v F F1,(∀w,Xp P main (G F cs) w=.go (G F1 cs) w #[])->J own (G F1 cs) v->J own (G F cs) v
 mem:∀own v H k b o o' F F1,Kn own v H->H[k]?=W7 (b,o)->(rd=W9->o'=o)->(∀w:Xf,w.heap[b]?=W7 o->∃es,Xp P main (G F cs) w=.go (G F1 cs) (iV w b o') es/\∀e∈es,wo b e)->(∀v',Kn own v' (H.set k (b,o'))->J own (G F1 cs) v')->J own (G F cs) v
 new:al->∀own v H o F(F1:Nat->Xu),Kn own v H->(∀w:Xf,Xp P main (G F cs) w=.go (G (F1 w.heap.size) cs) (w.alloc o) #[])->(∀own' c v',Kn own' v' ((c,o)::H)->J own' (G (F1 c) cs) v')->J own (G F cs) v
theorem Carry.run{P:Xz}{J:(Nat->Prop)->Xh->Xf->Prop}{Kn:(Nat->Prop)->Xf->List (Nat×XQ)->Prop}{al:Prop}(C:Carry P rd main cs J Kn al)(O:List (Nat×Xc)):∀(n:Nat)(g:List Nat)(k:Nat)(_:k≠0->al)(own:Nat->Prop)(v:Xf)(F:Xu)(H:List (Nat×XQ)),F.mode=.run->F.kind≠.early->Kn own v H->(∀bs:List Nat,bs.length=k->∃r,iM P rd O n g bs F H=W7 r/\(∀p∈r.2.2.1,p.1=p.2)/\(∀p∈r.2.2.2,p.1=p.2)/\∀d t,Kn d t r.2.1->J d (G r.1 cs) t)->J own (G F cs) v|0,g,k,z,own,v,F,H,K,I,m,E=>by obtain⟨r,h,_,_,y⟩:=E (List.replicate k 0) (by simp);cases h;exact y own v m|n+1,g,k,z,own,v,F,H,K,I,m,E=>by cases a:lW P F with|some f=>obtain⟨h,u,l⟩:=iU K I a;(have R:(hint O F f).1=f:=by obtain⟨r,e,_,B,_⟩:=E (List.replicate k 0) (by simp);simp only[iM,a]at e;obtain⟨s,_,rfl⟩:=UA.1 e;exact wJ a λp a=>B p (UQ.2 (.inl a)));refine C.ctl own v F f (λw=>h main cs w) (Carry.run C O n g k z own v f H u l m λbs A=>?_);obtain⟨r,e,D,B,N⟩:=E bs A;simp only[iM,a,R]at e;obtain⟨s,M,rfl⟩:=UA.1 e;exact⟨s,M,D,λp a=>B p (UQ.2 (.inr a)),N⟩|none=>cases g with|nil=>obtain⟨r,e,_,_,y⟩:=E (List.replicate k 0) (by simp);simp only[iM,a,UK]at e;subst e;exact y own v m|cons j g=>cases j with|zero=>(cases k with|zero=>obtain⟨r,e,_⟩:=E [] rfl;simp[iM,a]at e|succ k=>(obtain⟨o,f,h,u,l⟩:=GW (P:=P) K I λc=>by obtain⟨r,e,_⟩:=E (c::List.replicate k 0) (by simp);simp only[iM,a]at e;cases S:OB P c F with|none=>rw[S]at e;cases e|some r=>exact⟨r,rfl⟩);refine C.new (z (by simp)) own v H o F f m (λw=>u main cs w) λd c t i=>Carry.run C O n g k (λ_=>z (by simp)) d t (f c) _ (l c).1 (l c).2 i λbs A=>?_;obtain⟨r,e,T⟩:=E (c::bs) (by simp[A]);simp only[iM,a,h c]at e;exact⟨r,e,T⟩)|succ j=>cases L:Sq P rd j F H with|none=>obtain⟨r,e,_⟩:=E (List.replicate k 0) (by simp);simp[iM,a,L]at e|some x=>obtain⟨f,W,q⟩:=x;obtain⟨b,o,V,h,rfl,u,l,y,Q⟩:=NR K I L (by obtain⟨r,e,D,_⟩:=E (List.replicate k 0) (by simp);simp only[iM,a,L]at e;obtain⟨s,_,rfl⟩:=UA.1 e;exactλp a=>D p (UQ.2 (.inl a)));refine C.mem own v H j b o V F f m h u (λw U=>l main cs w U) λt i=>Carry.run C O n g k z own t f _ y Q i λbs A=>?_;obtain⟨r,e,D,B,N⟩:=E bs A;simp only[iM,a,L]at e;obtain⟨s,M,rfl⟩:=UA.1 e;exact⟨s,M,λp a=>D p (UQ.2 (.inr a)),B,N⟩
end Go.Pw
namespace Go.ab
variable{a a' b':XU}{v w:Xf}{v' x x' y y' z:Xc}{i b k n:Nat}{e:RuntimeError}{o o':XQ}{P:Xz}{α β γ δ ε ζ:Type}{h:Halt}{t:Xv}{op:BinOp}{o1:XI}{lo lo' hi hi' mx':Option Xc}{f:XC}{gl:Nat->Bool}{ev ev':XI->Xc}{ops:Array X4}{rest:List Nat}{t':Array Xc}
section
abbrev bQ:=Nat->Option Nat
def bQ.le(r r':bQ):Prop:=∀b c,r b=W7 c->r' b=W7 c
theorem bQ.le_refl(r:bQ):r.le r:=λ_ _ h=>h
theorem bQ.le_trans{r r' r'':bQ}(h:r.le r')(a:r'.le r''):r.le r'':=λb c e=>a b c (h b c e)
structure ej where
 fns:XC->Bool
 seen:Nat->Prop
 MX:Nat->Nat
 aP:Nat
 low:Nat->Nat:=λ_=>0
def v8:Xv:=1000000007
structure Fits(P:Xz)(c:ej):Prop where
 aP:c.aP=P.globals.size
 bad:P.info? v8=Xg
 low:∀g,g<c.aP->c.low g=0
def cZ(c:ej)(r:bQ)(a a':XU):Prop:=r a.block=W7 a'.block/\a'.off=a.off/\a'.spot=a.spot/\c.low a.block<=a.off
def IK(c:ej):Fn->Bool
 |.func f=>c.fns f
 |_=>W4
inductive ai(c:ej)(r:bQ):Xc->Xc->Prop
 |bool(b:Bool):ai c r (.bool b) (.bool b)
 |int(k:Xs)(n:Int):ai c r (.int k n) (.int k n)
 |string(s:ByteArray):ai c r (.string s) (.string s)
 |gq:ai c r (.pointer Xg) (.pointer Xg)
 |ptr{a a':XU}:cZ c r a a'->ai c r (.pointer (W7 a)) (.pointer (W7 a'))
 |iC(n m:Nat):ai c r (.slice Xg n m) (.slice Xg n m)
 |slice{a a':XU}(n m:Nat):cZ c r a a'->ai c r (.slice (W7 a) n m) (.slice (W7 a') n m)
 |cQ(a a':XU):ai c r (.slice (W7 a) 0 0) (.slice (W7 a') 0 0)
 |kR:ai c r (.map Xg) (.map Xg)
 |map{a a':Nat}:r a=W7 a'->ai c r (.map (W7 a)) (.map (W7 a'))
 |func{fn:Fn}{x x' y y':Array Xc}:IK c fn=W9->x.size=x'.size->(∀(i:Nat)(v v':Xc),x[i]?=W7 v->x'[i]?=W7 v'->ai c r v v')->
  y.size=y'.size->(∀(i:Nat)(v v':Xc),y[i]?=W7 v->y'[i]?=W7 v'->ai c r v v')->ai c r (.func fn x y) (.func fn x' y')
 |nilFunc:ai c r .nilFunc .nilFunc
 |nilIface:ai c r .nilIface .nilIface
 |iface(t:Xv){v v':Xc}:ai c r v v'->ai c r (.iface t v) (.iface t v')
 |agg{x x':Array Xc}:x.size=x'.size->(∀(i:Nat)(v v':Xc),x[i]?=W7 v->x'[i]?=W7 v'->ai c r v v')->ai c r (.agg x) (.agg x')
 |tuple{x x':Array Xc}:x.size=x'.size->(∀(i:Nat)(v v':Xc),x[i]?=W7 v->x'[i]?=W7 v'->ai c r v v')->ai c r (.tuple x) (.tuple x')
structure ak(c:ej)(r:bQ)(x x':Array Xc):Prop where
 size:x.size=x'.size
 el:∀(i:Nat)(v v':Xc),x[i]?=W7 v->x'[i]?=W7 v'->ai c r v v'
theorem cZ.mono{c:ej}{r r':bQ}(h:r.le r')(x:cZ c r a a'):cZ c r' a a':=⟨h _ _ x.1,x.2⟩
theorem ai.mono{c:ej}{r r':bQ}(h:r.le r'){v:Xc}(x:ai c r v v'):ai c r' v v':=by induction x with|bool b=>exact .bool b|int k n=>exact .int k n|string s=>exact .string s|gq=>exact .gq|ptr a=>exact .ptr (a.mono h)|iC n m=>exact .iC n m|slice n m a=>exact .slice n m (a.mono h)|cQ a e=>exact .cQ a e|kR=>exact .kR|map a=>exact .map (h _ _ a)|func i j _ l _ f g=>exact .func i j f l g|nilFunc=>exact .nilFunc|nilIface=>exact .nilIface|iface t _ d=>exact .iface t d|agg s _ d=>exact .agg s d|tuple s _ d=>exact .tuple s d
theorem ak.mono{c:ej}{r r':bQ}(h:r.le r'){x x':Array Xc}(k:ak c r x x'):ak c r' x x':=⟨k.size,λi v d a b=>(k.el i v d a b).mono h⟩
theorem ai.tn{c:ej}{r:bQ}{x x':Array Xc}(h:ak c r x x'):ai c r (.agg x) (.agg x'):=.agg h.size h.el
theorem ai.kT{c:ej}{r:bQ}{x x':Array Xc}(h:ak c r x x'):ai c r (.tuple x) (.tuple x'):=.tuple h.size h.el
section rows
variable{c:ej}{r:bQ}
theorem ak.get{x x':Array Xc}(h:ak c r x x'){v:Xc}(b:x[i]?=W7 v):∃d,x'[i]?=W7 d/\ai c r v d:=by have e:=(Ux.1 b).1;have a:=h.size▸e;exact⟨x'[i],UG a,h.el i v _ b (UG a)⟩
theorem ak.none{x x':Array Xc}(h:ak c r x x')(a:x[i]?=Option.none):x'[i]?=Option.none:=by rw[Array.getElem?_eq_none_iff]at a⊢;rw[<-h.size];exact a
theorem ak.getD{x x':Array Xc}(h:ak c r x x')(i:Nat){d d':Xc}(b:ai c r d d'):ai c r (x.getD i d) (x'.getD i d'):=by rw[UF,UF];cases a:x[i]? with|none=>rw[h.none a];exact b|some v=>obtain⟨f,e,k⟩:=h.get a;simp_all
theorem ak.empty:ak c r #[] #[]:=⟨rfl,λi v a h=>by simp at h⟩
theorem ak.push{x x':Array Xc}(h:ak c r x x'){v:Xc}(k:ai c r v v'):ak c r (x.push v) (x'.push v'):=by refine⟨by simp[h.size],λi u d a b=>?_⟩;rw[UZ]at a b;rw[<-h.size]at b;split at a;{simp_all};rw[if_neg ‹_›]at b;exact h.el i u d a b
theorem ak.append{x x' y y':Array Xc}(h:ak c r x x')(k:ak c r y y'):ak c r (x++y) (x'++y'):=by refine⟨by simp[h.size,k.size],λi u d a b=>?_⟩;rw[Array.getElem?_append]at a b;rw[<-h.size]at b;split at a;{rw[if_pos ‹_›]at b;exact h.el i u d a b};rw[if_neg ‹_›]at b;exact k.el _ u d a b
theorem ak.set{x x':Array Xc}(h:ak c r x x')(i:Nat){v:Xc}(k:ai c r v v'):ak c r (x.setIfInBounds i v) (x'.setIfInBounds i v'):=by refine⟨by simp[h.size],λj u d a b=>?_⟩;rw[VI]at a b;split at a;{simp_all};rw[if_neg ‹_›]at b;exact h.el j u d a b
theorem ak.extract{x x':Array Xc}(h:ak c r x x')(i j:Nat):ak c r (x.extract i j) (x'.extract i j):=by refine⟨by simp[h.size],λk u d a b=>?_⟩;rw[Array.getElem?_extract]at a b;rw[<-h.size]at b;split at a;{rw[if_pos ‹_›]at b;exact h.el _ u d a b};cases a
theorem ak.single{v:Xc}(k:ai c r v v'):ak c r #[v] #[v']:=by refine⟨rfl,λi u d a b=>?_⟩;grind
theorem ak.cells{v:Xc}(k:ai c r v v'):ak c r v.cells v'.cells:=by cases k with|agg s e=>exact⟨s,e⟩|bool b=>exact .single (.bool b)|int k n=>exact .single (.int k n)|string s=>exact .single (.string s)|gq=>exact .single .gq|ptr a=>exact .single (.ptr a)|iC n m=>exact .single (.iC n m)|cQ a g=>exact .single (.cQ a g)|slice n m a=>exact .single (.slice n m a)|kR=>exact .single .kR|map a=>exact .single (.map a)|func a b d e f=>exact .single (.func a b d e f)|nilFunc=>exact .single .nilFunc|nilIface=>exact .single .nilIface|iface t a=>exact .single (.iface t a)|tuple a b=>exact .single (.tuple a b)
theorem ak.map{α:Type}(l:Array α)(f f':α->Xc)(h:∀x∈l,ai c r (f x) (f' x)):ak c r (l.map f) (l.map f'):=by refine⟨by simp,λi u d a b=>?_⟩;grind
theorem gK:ai c r XA XA:=.tuple rfl λi v a h=>by simp at h
theorem ak.replicate(n:Nat){v:Xc}(k:ai c r v v'):ak c r (Array.replicate n v) (Array.replicate n v'):=by refine⟨by simp,λi u d a b=>?_⟩;grind
end rows
structure EW(c:ej)(r:bQ)(e e':X3):Prop where
 key:ai c r e.key e'.key
 val:ai c r e.val e'.val
 born:e'.born=e.born
inductive mQ(c:ej)(r:bQ):XQ->XQ->Prop
 |cells{x x':Array Xc}(t:Xv)(fr:Nat×Nat):ak c r x x'->mQ c r (.cells x t fr) (.cells x' t fr)
 |map{x x':Array X3}(k:Nat):x.size=x'.size->(∀(i:Nat)(e e':X3),x[i]?=W7 e->x'[i]?=W7 e'->EW c r e e')->mQ c r (.map x k) (.map x' k)
 |iter(s:ByteArray)(p:Nat):mQ c r (.stringIter s p) (.stringIter s p)
 |number{a a':XU}(l:Bool):cZ c r a a'->mQ c r (.number a l) (.number a' l)
inductive um(c:ej)(r:bQ)(b:Nat):Option XQ->Option XQ->Prop
 |seen{x x':Array Xc}(t t':Xv)(fr:Nat×Nat):c.seen b->x.size<=c.MX b->x.size<=x'.size->(c.low b=0->t=t')/\(c.low b≠0->t=v8/\c.aP<=b)->(∀(i:Nat)(v v':Xc),c.low b<=i->x[i]?=W7 v->x'[i]?=W7 v'->ai c r v v')->um c r b (W7 (.cells x t (0,x.size))) (W7 (.cells x' t' fr))
 |own{o o':XQ}:¬c.seen b->mQ c r o o'->um c r b (W7 o) (W7 o')
theorem EW.mono{c:ej}{r r':bQ}(h:r.le r'){e e':X3}(k:EW c r e e'):EW c r' e e':=⟨k.key.mono h,k.val.mono h,k.born⟩
theorem mQ.mono{c:ej}{r r':bQ}(h:r.le r')(k:mQ c r o o'):mQ c r' o o':=by cases k with|cells t g k=>exact .cells t g (k.mono h)|map k s e=>exact .map k s λi d f a b=>(e i d f a b).mono h|iter s p=>exact .iter s p|number l a=>exact .number l (a.mono h)
theorem um.mono{c:ej}{r r':bQ}(h:r.le r'){o o':Option XQ}(k:um c r b o o'):um c r' b o o':=by cases k with|seen t g f s l z y e=>exact .seen t g f s l z y λi v j a b d=>(e i v j a b d).mono h|own n k=>exact .own n (k.mono h)
structure ef(c:ej)(r:bQ)(w v:Xf):Prop where
 qo:∀b k:Nat,r b=W7 k->b<w.heap.size
 BS:∀b k:Nat,r b=W7 k->k<v.heap.size
 inj:∀b b' k:Nat,r b=W7 k->r b'=W7 k->b=b'\/(c.seen b/\c.seen b')
 rm:∀b:Nat,¬c.seen b->c.low b=0
 hid:∀b:Nat,b<c.aP->r b=Xg->w.heap[b]?=W7 (.cells #[] 0)
 blk:∀b k:Nat,r b=W7 k->um c r b w.heap[b]? v.heap[k]?
 tape:v.tape=w.tape
 drawn:v.drawn=w.drawn
 old:∀b:Nat,c.seen b->b<w.heap.size
 aP:∀b k:Nat,r b=W7 k->b<c.aP->b=k
 kH:c.aP<=w.heap.size/\c.aP<=v.heap.size
structure Ext(c:ej)(r:bQ)(w v:Xf)(r':bQ)(w' v':Xf):Prop where
 rel:ef c r' w' v'
 le:r.le r'
 grow:w.heap.size<=w'.heap.size
 size:v'.heap.size+w.heap.size=v.heap.size+w'.heap.size
 xX:∀b:Nat,b<w.heap.size->r' b=r b
 new:∀b:Nat,w.heap.size<=b->b<w'.heap.size->r' b=W7 (v.heap.size+(b-w.heap.size))
 keep:∀k:Nat,k<v.heap.size->(∀b:Nat,r b=W7 k->c.seen b)->v'.heap[k]?=v.heap[k]?
 os:v'.os=v.os
 out:v'.output=v.output
 tape:v'.tape=v.tape
theorem Ext.refl{c:ej}{r:bQ}(h:ef c r w v):Ext c r w v r w v:=⟨h,bQ.le_refl r,Uv _,by omega,λ_ _=>rfl,λb _ _=>by omega,λ_ _ _=>rfl,rfl,rfl,rfl⟩
theorem Ext.trans{c:ej}{r r1 r2:bQ}{w1 v1 w2 v2:Xf}(h:Ext c r w v r1 w1 v1)(k:Ext c r1 w1 v1 r2 w2 v2):Ext c r w v r2 w2 v2:=by have n:=h.size;have o:=k.size;have g:=h.grow;have m:=k.grow;refine⟨k.rel,bQ.le_trans h.le k.le,UW g m,by omega,λb a=>(k.xX b (Uw a g)).trans (h.xX b a),λb a f=>?_,λj l i=>?_,k.os.trans h.os,k.out.trans h.out,k.tape.trans h.tape⟩;{rcases Vb b w1.heap.size with e|d;{exact k.le _ _ (h.new b a e)};rw[k.new b d f];grind};rw[k.keep j Ω (λb a=>?_),h.keep j l i];refine i b ?_;rcases Vb b w.heap.size with e|d;{rw[<-h.xX b e];exact a};have:=h.rel.qo b j a;rw[h.new b d this]at a;grind
def tc(c:ej)(r:bQ)(e:XV):Prop:=
 (∃b:Nat,(match e.loc with|.cell a=>r b=W7 a.block/\(c.seen b->a.off<c.MX b/\a.spot=Xg)|.obj k=>r b=W7 k/\¬c.seen b|_=>False)/\(e.write=W9->¬c.seen b)/\e.sync=W4)\/e.loc=.mark .noRoom\/∃f,e.loc=.mark (.extern f)
theorem tc.mono{c:ej}{r r':bQ}(h:r.le r'){e:XV}(x:tc c r e):tc c r' e:=by rcases x with⟨b,a,d⟩|x;{refine .inl ⟨b,?_,d⟩;revert a;cases e.loc<;>simp only[imp_self]<;>exactλx=>⟨h _ _ x.1,x.2⟩};exact .inr x
end
section
variable{c:ej}{r:bQ}
def AH:Halt->Bool
 |.unsupported (.initOrder _)=>W4
 |.panic _|.stuck _|.unsupported _=>W9
 |_=>W4
def Out(P:Xz)(c:ej)(r:bQ)(w v:Xf)(s:XN β)(Q:bQ->α->β->Prop):XS α->Prop
 |.ok a w'=>∃b v' r',s.run P v=.ok b v'/\Ext c r w v r' w' v'/\Q r' a b/\∀e∈s.events P v #[],tc c r' e
 |.halt h _=>AH h=W9
def ab(P:Xz)(c:ej)(r:bQ)(x:XN α)(y:XN β)(Q:bQ->α->β->Prop):Prop:=∀w v,ef c r w v->Out P c r w v y Q (x.run P w)
theorem ab.mono{x:XN α}{y:XN β}{Q Q':bQ->α->β->Prop}(h:ab P c r x y Q)(k:∀d a b,r.le d->Q d a b->Q' d a b):ab P c r x y Q':=by intro w v l;have:=h w v l;cases f:x.run P w with|halt _ _=>rw[f]at this;exact this|ok a n=>rw[f]at this;obtain⟨b,m,d,g,e,i,j⟩:=this;exact⟨b,m,d,g,e,k _ _ _ e.le i,j⟩
theorem ab.bind{x:XN α}{y:XN β}{f:α->XN γ}{g:β->XN δ}{Q:bQ->α->β->Prop}{Q':bQ->γ->δ->Prop}(h:ab P c r x y Q)(k:∀l a b,r.le l->Q l a b->ab P c l (f a) (g b) Q'):ab P c r (x>>=f) (y>>=g) Q':=by intro w v t;have i:=h w v t;rw[XN.run_bind];cases p:x.run P w with|halt _ _=>rw[p]at i;exact i|ok a m=>rw[p]at i;obtain⟨b,F,D,s,n,B,A⟩:=i;have j:=k D a b n.le B m F n.rel;show Out P c r w v (y>>=g) Q' ((f a).run P m);cases o:(f a).run P m with|halt _ _=>rw[o]at j;exact j|ok z J=>rw[o]at j;obtain⟨u,G,E,H,q,C,I⟩:=j;refine⟨u,G,E,?_,n.trans q,C,λe d=>?_⟩;{simp_all};rw[XN.events_bind,s,XS.evThen_ok,XN.events_acc]at d;rcases Ve.1 d with d|d;{exact(A e d).mono q.le};simp_all
theorem ab.pure{a:α}{b:β}{Q:bQ->α->β->Prop}(h:Q r a b):ab P c r (Pure.pure a) (Pure.pure b) Q:=λ_ v f=>⟨b,v,r,rfl,.refl f,h,λe d=>by simp at d⟩
theorem ab.halt{y:XN β}{Q:bQ->α->β->Prop}(a:AH h=W9:=by rfl):ab P c r (XN.halt h) y Q:=λ_ _ _=>a
theorem ab.stuck{s:String}{y:XN β}{Q:bQ->α->β->Prop}:ab P c r (Go.stuck s:XN α) y Q:=λ_ _ _=>rfl
theorem ab.unsupported{u:Unsupported}{y:XN β}{Q:bQ->α->β->Prop}(a:AH (.unsupported u)=W9:=by rfl):ab P c r (Go.unsupported u:XN α) y Q:=λ_ _ _=>a
theorem ab.never{x:XN α}{y:XN β}{Q:bQ->α->β->Prop}(h:∀w,∃k w',x.run P w=.halt k w'/\AH k=W9):ab P c r x y Q:=by intro w v _;obtain⟨k,w',e,a⟩:=h w;rw[e];exact a
theorem ab.ite{b:Prop}[Decidable b]{x x':XN α}{y y':XN β}{Q:bQ->α->β->Prop}(h:b->ab P c r x y Q)(a:¬b->ab P c r x' y' Q):ab P c r (if b then x else x') (if b then y else y') Q:=by by_cases e:b;{rw[if_pos e,if_pos e];exact h e};rw[if_neg e,if_neg e];exact a e
def b8(P:Xz)(q:α->Prop):XN α->Prop
 |.pure a=>q a
 |.choose _ k=>∀n,b8 P q (k n)
 |.program k=>b8 P q (k P)
 |.mark m k=>m=.noRoom/\b8 P q k
 |.halt h=>AH h=W9
 |_=>False
abbrev ln(P:Xz):XN α->Prop:=b8 P λ_=>True
theorem b8.bind{q:α->Prop}{q':β->Prop}{x:XN α}{f:α->XN β}(h:b8 P q x)(k:∀a,q a->b8 P q' (f a)):b8 P q' (x>>=f):=by induction x with|pure a=>exact k a h|choose _ g b=>exactλn=>b n (h n)|program g b=>exact b P h|mark m g b=>exact⟨h.1,b h.2⟩|halt z=>exact h|load _ _ _ _=>exact h.elim|store _ _ _ _ _=>exact h.elim|new _ _ _=>exact h.elim|shape _ _ _=>exact h.elim|freeze _ _ _ _=>exact h.elim|frozen _ _ _=>exact h.elim|getObj _ _ _=>exact h.elim|setObj _ _ _ _=>exact h.elim|sys _ _ _=>exact h.elim
theorem ln.bind{q':β->Prop}{x:XN α}{f:α->XN β}(h:ln P x)(k:∀a,b8 P q' (f a)):b8 P q' (x>>=f):=b8.bind h λa _=>k a
def Sc(P:Xz)(q:α->Prop)(x:XN α)(w v:Xf):Prop:=
 (∃a d,q a/\x.run P w=.ok a {w with drawn:=d}/\x.run P v=.ok a {v with drawn:=d}/\∀e∈x.events P v #[],e.loc=.mark .noRoom)\/∃h w',x.run P w=.halt h w'/\AH h=W9
theorem b8.run{q₀:α->Prop}{x:XN α}(h:b8 P q₀ x):∀(w v:Xf),v.tape=w.tape->v.drawn=w.drawn->Sc P q₀ x w v:=by induction x with|pure a=>exactλw v _ f=>.inl ⟨a,w.drawn,h,rfl,by rw[<-f];rfl,λe l=>by simp at l⟩|choose q g j=>intro w v i f;have t:∀u:Xf,(XN.choose q g).run P u=if q.forced then(g 0).run P u else(g (q.cut (u.tape u.drawn q))).run P {u with drawn:=u.drawn+1}:=λ_=>rfl;(have y:∀u:Xf,(XN.choose q g).events P u #[]=if q.forced then(g 0).events P u #[]else(g (q.cut (u.tape u.drawn q))).events P {u with drawn:=u.drawn+1} #[]:=λu=>by simp only[XN.events,XN.runT];grind);unfold Sc;simp only[t,y];by_cases s:q.forced=W9;{simp only[s];exact j 0 (h 0) w v i f};obtain⟨B,F,E,C,D⟩:=v;rcases j (q.cut (w.tape w.drawn q)) (h _) {w with drawn:=w.drawn+1} ⟨B,w.tape,w.drawn+1,C,D⟩ rfl rfl with⟨a,d,n,o,p,A⟩|x;{simp_all};simp_all|program g j=>exactλw v i f=>j P h w v i f|mark m g j=>intro w v i f;rcases j h.2 w v i f with⟨a,d,n,o,p,A⟩|x;{refine .inl ⟨a,d,n,o,p,λe l=>?_⟩;have k:e∈g.events P v (#[].push ⟨.mark m,W4,W9⟩):=l;rw[XN.events_acc]at k;rcases Ve.1 k with x|x;{simp at x;rw[x,h.1]};simp_all};exact .inr x|halt z=>exactλw _ _ _=>.inr ⟨z,w,rfl,h⟩|load _ _ _ _=>exact h.elim|store _ _ _ _ _=>exact h.elim|new _ _ _=>exact h.elim|shape _ _ _=>exact h.elim|freeze _ _ _ _=>exact h.elim|frozen _ _ _=>exact h.elim|getObj _ _ _=>exact h.elim|setObj _ _ _ _=>exact h.elim|sys _ _ _=>exact h.elim
theorem ef.Bf(h:ef c r w v)(d:Nat):ef c r {w with drawn:=d} {v with drawn:=d}:=⟨h.qo,h.BS,h.inj,h.rm,h.hid,h.blk,h.tape,rfl,h.old,h.aP,h.kH⟩
theorem ab.eZ{q:α->Prop}{x:XN α}(h:b8 P q x):ab P c r x x λ_ a b=>b=a/\q a:=by intro w v f;rcases h.run w v f.tape f.drawn with⟨a,d,g,i,j,l⟩|⟨k,s,e,p⟩;{rw[i];refine⟨a,_,r,j,?_,⟨rfl,g⟩,λe o=>.inr (.inl (l e o))⟩;exact⟨f.Bf d,bQ.le_refl r,Uv _,rfl,λ_ _=>rfl,λb m n=>absurd n (Nat.not_lt.2 m),λ_ _ _=>rfl,rfl,rfl,rfl⟩};rw[e];exact p
theorem ab.cG{x:XN α}(h:ln P x):ab P c r x x λ_ a b=>b=a:=(ab.eZ h).mono λ_ _ _ _ h=>h.1
theorem uZ(a:α):ln P (Pure.pure a):=trivial
theorem lu:ln P program:=trivial
theorem iQ(q:X7):ln P (choose q):=λ_=>trivial
theorem di(t:Xv):ln P (typeInfo t):=by refine ln.bind lu λp=>?_;split<;>first|trivial|exact rfl
theorem aG(t:Xv):ln P (underlying t):=by refine ln.bind lu λp=>?_;split<;>first|trivial|exact rfl
theorem bB(t:Xv):ln P (sizeOf t):=(di t).bind λ_=>trivial
theorem n3(t:Xv):ln P (isAgg t):=(aG t).bind λd=>by split<;>first|trivial|exact rfl
theorem pF(n:Nat):ln P (askRoom n):=by unfold askRoom;split;{exact⟨rfl,trivial⟩};trivial
end
section
variable{c:ej}{r:bQ}
theorem ef.at(h:ef c r w v)(b:cZ c r a a'):um c r a.block w.heap[a.block]? v.heap[a'.block]?:=h.blk _ _ b.1
theorem ef.cell(h:ef c r w v)(g:cZ c r a a')(b:w.cell? a=W7 x):∃y,v.cell? a'=W7 y/\ai c r x y:=by have d:=h.at g;obtain⟨_,m,o,i⟩:=g;unfold Xf.cell? at b⊢;generalize q:w.heap[a.block]?=C at d b;generalize p:v.heap[a'.block]?=B at d;cases d with|@seen z D t A j s l u _ e=>grind|own n k=>cases k with|cells t j k=>simp only[o,m]at b⊢;split at b;{cases b};rename_i f;rw[if_neg f];exact k.get b|map _ _ _=>cases b|iter _ _=>cases b|number _ _=>cases b
theorem ef.Ut(h:ef c r w v)(g:cZ c r a a')(_:w.cell? a=Xg)(d:Bool):∃k,w.farLoad P a d=.error k/\AH k=W9:=by have f:=h.at g;unfold Xf.farLoad;generalize b:w.heap[a.block]?=p at f;generalize i:v.heap[a'.block]?=o at f;cases f with|seen t m j s l _ _ e=>exact⟨_,rfl,by simp only[Xf.noCell,b];rfl⟩|own n k=>cases k<;>exact⟨_,rfl,by simp only[Xf.noCell,b];rfl⟩
theorem ef.within(h:ef c r w v)(f:cZ c r a a')(b:w.cell? a=W7 x):c.seen a.block->a'.off<c.MX a.block/\a'.spot=Xg:=by intro u;have d:=h.at f;obtain⟨_,q,i,-⟩:=f;unfold Xf.cell? at b;generalize m:w.heap[a.block]?=A at d b;generalize j:v.heap[a'.block]?=z at d;cases d with|seen t y o s l _ _ e=>simp only at b;split at b;{cases b};have p:=(Ux.1 b).1;exact⟨by omega,by simp_all⟩|own n k=>simp_all
theorem ab.load(d:cZ c r a a'):ab P c r (load a) (load a') (ai c):=by intro w v f;unfold Go.load;cases b:w.cell? a with|none=>obtain⟨k,e,j⟩:=f.Ut (P:=P) d b (Mode.plain==Mode.atomic);(have:(XN.load .plain a XN.pure).run P w=.halt k w:=by simp only[XN.run,b,e]);rw[this];exact j|some x=>obtain⟨y,i,k⟩:=f.cell d b;(have:(XN.load .plain a XN.pure).run P w=.ok x w:=by simp only[XN.run,b]);rw[this];refine⟨y,v,r,by simp only[XN.run,i],.refl f,k,λe g=>?_⟩;(have h:(XN.load .plain a' XN.pure).events P v #[]=#[⟨.cell a',W4,W4⟩]:=by simp only[XN.events,XN.runT,i];rfl);rw[h]at g;simp at g;subst g;exact .inl ⟨a.block,⟨d.1,f.within d b⟩,by simp,rfl⟩
theorem ef.vV(h:ef c r w v)(j:cZ c r a a')(b:w.cell? a=W7 x)(g:w.frozen? a=W4):∃(z i:Array Xc)(t:Xv)(d:Nat×Nat),¬c.seen a.block/\w.heap[a.block]?=W7 (.cells z t d)/\v.heap[a'.block]?=W7 (.cells i t d)/\ak c r z i/\a.spot.isSome=W4:=by have f:=h.at j;unfold Xf.cell? at b;unfold Xf.frozen? at g;generalize o:w.heap[a.block]?=u at f b g;generalize m:v.heap[a'.block]?=q at f;cases f with|seen t p d s l _ _ e=>simp_all|own n k=>cases k with|cells t d k=>grind|map _ _ _=>cases b|iter _ _=>cases b|number _ _=>cases b
theorem heap_setCell(w:Xf)(a:XU)(x:Xc):(w.setCell a x).heap.size=w.heap.size:=by simp[Xf.setCell]
theorem lR(w:Xf)(a:XU)(x:Xc)(h:b≠a.block):(w.setCell a x).heap[b]?=w.heap[b]?:=by simp[Xf.setCell,Vu,Ne.symm h]
theorem lV(w:Xf)(x:Xc){z:Array Xc}{fr:Nat×Nat}(h:w.heap[a.block]?=W7 (.cells z t fr))(b:a.spot.isSome=W4):(w.setCell a x).heap[a.block]?=W7 (.cells (z.setIfInBounds a.off x) t fr):=by simp[Xf.setCell,Vu,h,b]
theorem Ext.QP{w' v':Xf}(h:ef c r w v)(p:r b=W7 k)(q:¬c.seen b)(D:w'.heap[b]?=W7 o)(C:v'.heap[k]?=W7 o')(A:mQ c r o o')(f:w'.heap.size=w.heap.size)(i:v'.heap.size=v.heap.size)(m:∀j,j≠b->w'.heap[j]?=w.heap[j]?)(s:∀j,j≠k->v'.heap[j]?=v.heap[j]?)(n:v'.tape=v.tape)(t:w'.tape=w.tape)(u:v'.drawn=w'.drawn)(y:v'.os=v.os)(z:v'.output=v.output):Ext c r w v r w' v':=by refine⟨⟨λj l a=>f▸h.qo j l a,λj l a=>i▸h.BS j l a,h.inj,h.rm,λj a B=>by rw[m j (λe=>by simp_all)];exact h.hid j a B,λj l a=>?_,by rw[n,t,h.tape],u,λj a=>by rw[f];exact h.old j a,h.aP,by rw[f,i];exact h.kH⟩,bQ.le_refl r,by omega,by omega,λ_ _=>rfl,λj _ _=>by omega,λl F E=>?_,y,z,n⟩;{by_cases d:j=b;{subst d;rw[p]at a;cases a;rw[D,C];exact .own q A};have g:l≠k:=λe=>d ((h.inj _ _ _ (e▸a) p).resolve_right λx=>q x.2);rw[m j d,s l g];exact h.blk j l a};grind
theorem ai.one(h:ai c r x y):y.oneCell'=x.oneCell':=by cases h<;>rfl
theorem ab.store(b:cZ c r a a')(q:ai c r x y):ab P c r (store a x) (store a' y) λ_ _ _=>True:=by intro w v f;unfold Go.store;by_cases B:x.oneCell'=W9;{(have C:y.oneCell'=W9:=by rw[q.one,B]);(have e:∀(u:Xf)(p:XU)(z:Xc),z.oneCell'=W9->(XN.store .plain p z (.pure ())).run P u=match u.cell? p with|some _=>if u.frozen? p then .halt (.unsupported (.unsafePointer "a write to bytes that a string shares")) u else .ok () (u.setCell p z)|none=>match u.farStore P p z W4 with|.ok (U,_)=>.ok () U|.error h=>.halt h u:=by intro u p z H;cases z<;>first|(simp[Xc.oneCell']at H;done)|(rfl));rw[e w a x B];cases L:w.cell? a with|none=>have D:=f.at b;(have:∃k,w.farStore P a x W4=.error k/\AH k=W9:=by unfold Xf.farStore;generalize o:w.heap[a.block]?=Y at D;generalize S:v.heap[a'.block]?=X at D;cases D with|seen t W K s l _ _ e=>exact⟨_,rfl,by simp only[Xf.noCell,o];rfl⟩|own n k=>cases k<;>exact⟨_,rfl,by simp only[Xf.noCell,o];rfl⟩);obtain⟨k,N,Q⟩:=this;simp only[N];exact Q|some Z=>simp only;cases A:w.frozen? a with|true=>rfl|false=>obtain⟨z,z',t,K,d,I,J,H,i⟩:=f.vV b L A;obtain⟨y0,T,_⟩:=f.cell b L;(have m:a'.spot.isSome=W4:=by rw[b.2.2.1];exact i);(have O:v.frozen? a'=W4:=by unfold Xf.frozen? at A⊢;rw[I]at A;rw[J];simp only[b.2.1];exact A);have g:=H.set a.off q;refine⟨(),v.setCell a' y,r,?_,?_,trivial,λV E=>?_⟩;{simp_all};{refine Ext.QP f b.1 d (lV w x I i) (lV v y J m) ?_ (heap_setCell _ _ _) (heap_setCell _ _ _) (λj G=>lR w a x G) (λj G=>lR v a' y G) rfl rfl f.drawn rfl rfl;rw[b.2.1];exact .cells t K g};(have F:(XN.store .plain a' y (.pure ())).events P v #[]=#[⟨.cell a',W9,W4⟩]:=by have:=events_store P v #[] a' y .plain C;unfold Go.store at this;simp_all);rw[F]at E;simp at E;subst E;exact .inl ⟨a.block,⟨b.1,λR=>absurd R d⟩,λ_=>d,rfl⟩};refine ab.never (P:=P) (c:=c) (r:=r) (λu=>?_) w v f;cases x<;>first|(simp[Xc.oneCell']at B;done)|exact⟨_,_,rfl,rfl⟩
def bQ.add(r:bQ)(b k:Nat):bQ:=λj=>if j=b then W7 k else r j
theorem Ext.alloc(h:ef c r w v)(n:mQ c r o o'):Ext c r w v (r.add w.heap.size v.heap.size) {w with heap:=w.heap.push o} {v with heap:=v.heap.push o'}:=by have p:=λx=>UP _ (h.old _ x);(have f:r.le (r.add w.heap.size v.heap.size):=by intro b k a;have:=h.qo b k a;unfold bQ.add;grind);refine⟨⟨λb k a=>?_,λb k a=>?_,λb q k a d=>?_,h.rm,λb i a=>?_,λb k a=>?_,h.tape,h.drawn,λb a=>by have:=h.old b a;simp;omega,λb k a i=>?_,by have:=h.kH;simp;omega⟩,f,by simp,by simp;omega,λb a=>by unfold bQ.add;grind,λb a d=>?_,λk s _=>?_,rfl,rfl,rfl⟩;{unfold bQ.add at a;simp;split at a;{omega};have:=h.qo b k a;omega};{unfold bQ.add at a;simp;split at a;{simp_all};have:=h.BS b k a;omega};{unfold bQ.add at a d;split at a<;>split at d;{omega};{cases a;have:=h.BS _ _ d;omega};{cases d;have:=h.BS _ _ a;omega};exact h.inj _ _ _ a d};{have m:=Uw i h.kH.1;unfold bQ.add at a;rw[if_neg Ω]at a;rw[UZ,if_neg Ω];exact h.hid b i a};{unfold bQ.add at a;split at a;{rename_i e;subst e;cases a;simp only[Array.getElem?_push_size];exact .own p (n.mono f)};have j:=h.qo b k a;have l:=h.BS b k a;rw[Xx j,Xx l,<-UG j,<-UG l];exact(h.blk b k a).mono f};{unfold bQ.add at a;have:=h.kH;split at a;{omega};exact h.aP b k a i};{unfold bQ.add;grind};grind
theorem bQ.FV(r:bQ)(b k:Nat):r.add b k b=W7 k:=by unfold bQ.add;simp
theorem ab.newObj(f:mQ c r o o'):ab P c r (newObj o) (newObj o') λg b d=>g b=W7 d/\c.low b=0:=by intro w v a;refine⟨v.heap.size,_,_,rfl,Ext.alloc a f,⟨bQ.FV _ _ _,a.rm _ λx=>UP _ (a.old _ x)⟩,λe h=>?_⟩;simp_all
theorem ab.newRow{x x':Array Xc}(h:ak c r x x'):ab P c r (newRow t x) (newRow t x') (cZ c):=by refine ab.bind (ab.newObj (.cells t (0,0) h)) λe b d _ a=>ab.pure ⟨a.1,rfl,rfl,Vn a.2⟩
theorem ab.newVar(h:ai c r x x'):ab P c r (newVar t x) (newVar t x') (cZ c):=ab.newRow (ak.cells h)
theorem cZ.add{a a':XU}(h:cZ c r a a')(n:Nat):cZ c r (a.add n) (a'.add n):=by unfold XU.add;split;{exact h};exact⟨h.1,by simp[h.2.1],rfl,UW h.2.2.2 (Vx _ _)⟩
theorem ab.loadCellsFrom(n:Nat):∀{r:bQ}{a a':XU}(i:Nat){acc acc':Array Xc},cZ c r a a'->ak c r acc acc'->ab P c r (loadCellsFrom a i n acc) (loadCellsFrom a' i n acc') (ak c):=by induction n with|zero=>intro r a a' i acc acc' e b;exact ab.pure b|succ n g=>intro r a a' i acc acc' e b;exact ab.bind (ab.load (e.add i)) λh x j d f=>g (i+1) (e.mono d) ((b.mono d).push f)
theorem ab.loadCells(b:cZ c r a a')(n:Nat):ab P c r (loadCells a n) (loadCells a' n) (ak c):=ab.loadCellsFrom n 0 b .empty
theorem ab.GD(i:Fits P c){g:Nat}(b:g<c.aP)(o:Nat):ab P c r (Go.load ⟨g,o,Xg⟩) (Go.load ⟨g,o,Xg⟩) (ai c):=by intro w v f;cases d:r g with|some k=>obtain rfl:=f.aP g k d b;exact ab.load ⟨d,rfl,rfl,UW (Vn (i.low g b)) (Vf _)⟩ w v f|none=>have h:=f.hid g b d;(have e:(Go.load ⟨g,o,Xg⟩).run P w=.halt (.stuck "load: no such cell") w:=by simp[XN.run,Xf.cell?,Xf.farLoad,Xf.noCell,h]);rw[e];exact rfl
theorem ab.tU(f:Fits P c){g:Nat}(h:g<c.aP)(n:Nat):∀{r:bQ}(i:Nat){acc acc':Array Xc},ak c r acc acc'->ab P c r (Go.loadCellsFrom ⟨g,0,Xg⟩ i n acc) (Go.loadCellsFrom ⟨g,0,Xg⟩ i n acc') (ak c):=by induction n with|zero=>intro r i acc acc' a;exact ab.pure a|succ n k=>intro r i acc acc' a;(have e:(⟨g,0,Xg⟩:XU).add i=⟨g,0+i,Xg⟩:=by unfold XU.add;simp_all);unfold Go.loadCellsFrom;rw[e];exact ab.bind (ab.GD f h _) λl x m b j=>k (i+1) ((a.mono b).push j)
theorem ab.Hl(a:Fits P c){g:Nat}(d:g<c.aP)(t:Xv):ab P c r (Go.loadVar t ⟨g,0,Xg⟩) (Go.loadVar t ⟨g,0,Xg⟩) (ai c):=by refine ab.bind (ab.cG (n3 t)) λp b f k h=>?_;subst h;cases f with|false=>exact ab.GD a d 0|true=>refine ab.bind (ab.cG (bB t)) λq n o l i=>?_;subst i;exact ab.bind (ab.tU a d _ 0 .empty) λs x u m j=>ab.pure (.tn j)
theorem ab.storeCells:∀{r:bQ}{a a':XU}{l l':List Xc}(i:Nat),cZ c r a a'->ak c r l.toArray l'.toArray->ab P c r (storeCells a l i) (storeCells a' l' i) λ_ _ _=>True|r,a,a',[],[],i,b,h=>ab.pure trivial|r,a,a',[],_::_,i,b,h=>by have:=h.size;grind|r,a,a',_::_,[],i,b,h=>by have:=h.size;grind|r,a,a',x::l,g::l',i,b,h=>by refine ab.bind (ab.store (b.add i) (h.el 0 x g Θ Θ)) λm _ _ d _=>?_;refine ab.storeCells (i+1) (b.mono d) ((⟨?_,λj u f k e=>?_⟩:ak c r l.toArray l'.toArray).mono d);{have:=h.size;simp_all};exact h.el (j+1) u f (by simp_all) (by simp_all)
theorem ab.loadVar(t:Xv)(d:cZ c r a a'):ab P c r (loadVar t a) (loadVar t a') (ai c):=by refine ab.bind (ab.cG (n3 t)) λm g e b h=>?_;subst h;cases e with|false=>exact ab.load (d.mono b)|true=>refine ab.bind (ab.cG (bB t)) λo n l f i=>?_;subst i;exact ab.bind (ab.loadCells ((d.mono b).mono f) _) λp x q k j=>ab.pure (.tn j)
theorem ab.storeVar(t:Xv)(j:cZ c r a a')(h:ai c r x x'):ab P c r (storeVar t a x) (storeVar t a' x') λ_ _ _=>True:=by refine ab.bind (ab.cG (bB t)) λg n d f k=>?_;subst k;have l:=(ak.cells h).size;have b:ab P c g (Go.storeCells a x.cells.toList) (Go.storeCells a' x'.cells.toList) λ_ _ _=>True:=ab.storeCells 0 (j.mono f) (by simpa using(ak.cells h).mono f);rw[<-l];by_cases e:x.cells.size≠d;{rw[if_pos e,if_pos e];exactλ_ _ _=>rfl};rw[if_neg e,if_neg e];exact b
theorem ab.getObj{b':Nat}(D:r b=W7 b'){k:XQ->XN α}{k':XQ->XN β}{Q:bQ->α->β->Prop}(G:∀o o',¬c.seen b->mQ c r o o'->(∀x t f,o≠.cells x t f)->ab P c r (k o) (k' o') Q):ab P c r (getObj b>>=k) (getObj b'>>=k') Q:=by intro w v E;have F:=E.blk b b' D;rw[XN.run_bind];(have C:∀(u:Xf)(j:Nat),(Go.getObj j).run P u=match u.heap[j]? with|some (.cells ..)=>.halt (.stuck "getObj: a row of cells") u|some o=>.ok o u|none=>.halt (.stuck "getObj: no such block") u:=by intro u j;unfold Go.getObj;simp only[XN.run];rfl);rw[C];generalize O:w.heap[b]?=U at F;generalize g:v.heap[b']?=T at F;cases F with|seen _ _ _ _ _ _ _ _=>exact rfl|own n N=>rename_i o o';cases N with|cells t S _=>exact rfl|map R L M=>have:=G _ _ n (.map R L M) (λ_ _ _ h=>by cases h) w v E;revert this;show Out P c r w v _ Q ((k _).run P w)->Out P c r w v _ Q ((k _).run P w);(cases(k _).run P w with|halt _ _=>exactλh=>h|ok a J=>rintro⟨q,B,A,H,i,z,I⟩;refine⟨q,B,A,by simp_all,i,z,λe d=>?_⟩;rw[XN.events_bind,C,g]at d;(have y:(Go.getObj b').events P v #[]=#[⟨.obj b',W4,W4⟩]:=by simp[Go.getObj,XN.events,XN.runT,g,XQ.isChan,-XN.runT_eq]);simp only[XS.evThen_ok]at d;rw[XN.events_acc,y]at d;rcases Ve.1 d with d|d;{simp at d;subst d;exact .inl ⟨b,⟨i.le _ _ D,n⟩,by simp,rfl⟩};simp_all)|iter s p=>have:=G _ _ n (.iter s p) (λ_ _ _ h=>by cases h) w v E;revert this;show Out P c r w v _ Q ((k _).run P w)->Out P c r w v _ Q ((k _).run P w);(cases(k _).run P w with|halt _ _=>exactλh=>h|ok a J=>rintro⟨q,B,A,H,i,z,I⟩;refine⟨q,B,A,by simp_all,i,z,λe d=>?_⟩;rw[XN.events_bind,C,g]at d;(have y:(Go.getObj b').events P v #[]=#[⟨.obj b',W4,W4⟩]:=by simp[Go.getObj,XN.events,XN.runT,g,XQ.isChan,-XN.runT_eq]);simp only[XS.evThen_ok]at d;rw[XN.events_acc,y]at d;rcases Ve.1 d with d|d;{simp at d;subst d;exact .inl ⟨b,⟨i.le _ _ D,n⟩,by simp,rfl⟩};simp_all)|number l K=>have:=G _ _ n (.number l K) (λ_ _ _ h=>by cases h) w v E;revert this;show Out P c r w v _ Q ((k _).run P w)->Out P c r w v _ Q ((k _).run P w);cases(k _).run P w with|halt _ _=>exactλh=>h|ok a J=>rintro⟨q,B,A,H,i,z,I⟩;refine⟨q,B,A,by simp_all,i,z,λe d=>?_⟩;rw[XN.events_bind,C,g]at d;(have y:(Go.getObj b').events P v #[]=#[⟨.obj b',W4,W4⟩]:=by simp[Go.getObj,XN.events,XN.runT,g,XQ.isChan,-XN.runT_eq]);simp only[XS.evThen_ok]at d;rw[XN.events_acc,y]at d;rcases Ve.1 d with d|d;{simp at d;subst d;exact .inl ⟨b,⟨i.le _ _ D,n⟩,by simp,rfl⟩};simp_all
theorem ab.setObj{b':Nat}(i:r b=W7 b')(z:¬c.seen b)(A:mQ c r o o')(I:o.isChan=W4):ab P c r (setObj b o) (setObj b' o') λ_ _ _=>True:=by intro w v k;have m:=k.blk b b' i;(have C:∀(u:Xf)(j:Nat)(o:XQ),(Go.setObj j o).run P u=match u.heap[j]? with|some (.cells ..)=>.halt (.stuck "setObj: a row of cells") u|some _=>.ok () {u with heap:=u.heap.setIfInBounds j o}|none=>.halt (.stuck "setObj: no such block") u:=by intro u j o;rfl);rw[C];have n:=k.qo b b' i;have y:=k.BS b b' i;(have E:o'.isChan=W4:=by cases A<;>rfl);generalize H:w.heap[b]?=K at m;generalize g:v.heap[b']?=J at m;(have d:∀q,v.heap[b']?=W7 q->(∀x t f,q≠.cells x t f)->q.isChan=W4->Out P c r w v (Go.setObj b' o') (λ_ _ _=>True) (.ok () {w with heap:=w.heap.setIfInBounds b o}):=by intro q F G B;refine⟨(),{v with heap:=v.heap.setIfInBounds b' o'},r,?_,?_,trivial,λe p=>?_⟩;{simp_all};{exact Ext.QP k i z (by simp[n]) (by simp[y]) A Θ Θ (λj s=>UX (Ne.symm s)) (λj s=>UX (Ne.symm s)) rfl rfl k.drawn rfl rfl};(have D:(Go.setObj b' o').events P v #[]=#[⟨.obj b',W9,W4⟩]:=by unfold Go.setObj;simp only[XN.events,XN.runT,F];simp_all);rw[D]at p;simp at p;subst p;exact .inl ⟨b,⟨i,z⟩,λ_=>z,rfl⟩);cases m with|seen _ _ _ x _ _ _ _=>rfl|own _ h=>cases h with|cells _ _ _=>exact rfl|map _ _ _=>exact d _ g (λ_ _ _ h=>by cases h) rfl|iter _ _=>exact d _ g (λ_ _ _ h=>by cases h) rfl|number _ _=>exact d _ g (λ_ _ _ h=>by cases h) rfl
end
section
variable{c:ej}{r:bQ}
def Flat(v:Xc):Prop:=∀(c:ej)(r:bQ),ai c r v v
theorem Flat.int(k:Xs)(n:Int):Flat (.int k n):=λ_ _=>.int k n
theorem Flat.bool(b:Bool):Flat (.bool b):=λ_ _=>.bool b
theorem Flat.string(s:ByteArray):Flat (.string s):=λ_ _=>.string s
def jG:Nat->Xc->Bool
 |0,_=>W4
 |_+1,.bool _|_+1,.int _ _|_+1,.string _|_+1,.pointer Xg|_+1,.slice Xg _ _|_+1,.map Xg|_+1,.nilFunc|_+1,.nilIface=>W9
 |n+1,.agg x|n+1,.tuple x=>x.all (jG n)
 |_,_=>W4
theorem iF:∀{n:Nat}{v:Xc},jG n v=W9->Flat v|0,_,h=>by simp[jG]at h|n+1,v,h=>by intro c r;cases v with|bool b=>exact .bool b|int k n=>exact .int k n|float _ _=>simp[jG]at h|complex _ _ _=>simp[jG]at h|string s=>exact .string s|pointer a=>(cases a with|none=>exact .gq|some _=>simp[jG]at h)|slice a n m=>(cases a with|none=>exact .iC n m|some _=>simp[jG]at h)|map a=>(cases a with|none=>exact .kR|some _=>simp[jG]at h)|chan _=>simp[jG]at h|func _ _ _=>simp[jG]at h|nilFunc=>exact .nilFunc|iface _ _=>simp[jG]at h|nilIface=>exact .nilIface|agg x=>simp only[jG,Array.all_eq_true]at h;refine .agg rfl λi v f a b=>?_;rw[a]at b;cases b;obtain⟨e,rfl⟩:=Ux.1 a;exact iF (h i e) c r|tuple x=>simp only[jG,Array.all_eq_true]at h;refine .tuple rfl λi v f a b=>?_;rw[a]at b;cases b;obtain⟨e,rfl⟩:=Ux.1 a;exact iF (h i e) c r
theorem ab.flat{x:XN Xc}(h:b8 P Flat x):ab P c r x x (ai c):=(ab.eZ h).mono λd a b _⟨e,h⟩=>by subst e;exact h c d
theorem bX:b8 P (λp=>p=P) program:=rfl
theorem jF(t:Xv):b8 P (λi=>P.info? t=W7 i) (typeInfo t):=by refine b8.bind bX λp a=>?_;subst a;cases h:p.info? t with|none=>exact rfl|some i=>exact rfl
theorem sE(t:Xv)(a:∀z,(P.info? t).bind (·.zero)=W7 z->Flat z):b8 P Flat (zeroValue t):=by refine b8.bind (jF t) λi b=>?_;cases h:i.zero with|none=>exact rfl|some v=>exact a v (by grind)
theorem nL(a:BinOp)(k:Xs)(x y:Int):b8 P Flat (Op.intArith a k x y):=by unfold Op.intArith;split<;>first|exact .int _ _|exact rfl
theorem Ah(a:BinOp)(k:Xs)(x y:Int):b8 P Flat (Op.intDiv a k x y):=by unfold Op.intDiv;split;{rfl};split<;>first|exact .int _ _|exact rfl
theorem oN(a:BinOp)(k:Xs)(x y:Int):b8 P Flat (Op.intBits a k x y):=by unfold Op.intBits;split<;>first|exact .int _ _|exact rfl
theorem Ad(a:BinOp)(x y:Int):b8 P Flat (Op.intCmp a x y):=by unfold Op.intCmp;split<;>first|exact .bool _|exact rfl
theorem tC(a:BinOp)(k b:Xs)(x y:Int):b8 P Flat (Op.shift a k x b y):=by unfold Op.shift;split;{rfl};split<;>first|exact .int _ _|exact rfl
theorem kF(a:BinOp)(x y:ByteArray):b8 P Flat (Op.stringOp a x y):=by unfold Op.stringOp;split<;>first|exact .bool _|exact rfl|(split<;>first|exact .string _|exact rfl)
theorem kr{q:α->Prop}(s:String):b8 P q (Go.stuck s):=rfl
theorem pD{q:α->Prop}{b:Prop}[Decidable b]{x y:XN α}(a:b8 P q x)(d:b8 P q y):b8 P q (if b then x else y):=by grind
theorem me(d:BinOp)(t:Xv)(k j:Xs)(a b:Int):b8 P Flat (binOp d t (.int k a) (.int j b)):=by cases d<;>first|exact tC .shl k j a b|exact tC .shr k j a b|exact pD (kr _) (nL _ _ _ _)|exact pD (kr _) (Ah _ _ _ _)|exact pD (kr _) (oN _ _ _ _)|exact pD (kr _) (Ad _ _ _)
theorem j2(d:BinOp)(t:Xv)(a b:ByteArray):b8 P Flat (binOp d t (.string a) (.string b)):=by(have:binOp d t (.string a) (.string b)=Op.stringOp d a b:=by cases d<;>rfl);rw[this];exact kF _ _ _
theorem ab.asBool(h:ai c r x x'):ab P c r (asBool x) (asBool x') λ_ a b=>b=a:=by cases h<;>first|exact ab.pure rfl|exact ab.stuck
theorem ab.asIntOf(h:ai c r x x'):ab P c r (asIntOf x) (asIntOf x') λ_ a b=>b=a:=by cases h<;>first|exact ab.pure rfl|exact ab.stuck|exact ab.unsupported
theorem ab.asInt(h:ai c r x x'):ab P c r (asInt x) (asInt x') λ_ a b=>b=a:=ab.bind (ab.asIntOf h) λ_ a b _ e=>ab.pure (by rw[e])
theorem ab.asAgg(h:ai c r x x'):ab P c r (asAgg x) (asAgg x') (ak c):=by cases h with|agg a b=>exact ab.pure ⟨a,b⟩|_=>exact ab.stuck
def gj(P:Xz)(x:XN α):Prop:=∀w h w',x.run P w=.halt h w'->AH h=W9
def kK(P:Xz)(x:XN α):Prop:=∀w,∃k w',x.run P w=.halt k w'/\AH k=W9
theorem b8.y8{q:α->Prop}{x:XN α}(h:b8 P q x):gj P x:=by intro w k j e;rcases h.run w w rfl rfl with⟨a,d,_,b,_⟩|⟨i,f,b,g⟩;{simp_all};simp_all
theorem gj.bind{x:XN α}{f:α->XN β}(d:gj P x)(h:∀a,gj P (f a)):gj P (x>>=f):=by intro w k j e;rw[XN.run_bind]at e;cases b:x.run P w with|halt i g=>rw[b]at e;cases e;exact d _ _ _ b|ok a g=>rw[b]at e;exact h a _ _ _ e
theorem dz{x:XN α}{f:α->XN β}(e:gj P x)(h:∀a,kK P (f a)):kK P (x>>=f):=by intro w;rw[XN.run_bind];cases d:x.run P w with|halt k b=>exact⟨k,b,rfl,e _ _ _ d⟩|ok a b=>exact h a b
theorem gA{x:XN α}{f:α->XN β}(h:kK P x):kK P (x>>=f):=by intro w;obtain⟨k,b,e,a⟩:=h w;simp_all
theorem eO(a:AH h=W9:=by rfl):kK P (XN.halt h:XN α):=λw=>⟨h,w,rfl,a⟩
theorem q9(o:XQ):gj P (newObj o):=λ_ _ _ e=>by cases e
theorem dq(a:α):gj P (Pure.pure a:XN α):=λ_ _ _ e=>by cases e
theorem AG(b:Nat):gj P (shape b):=λ_ _ _ e=>by cases e
theorem Ab(a:XU):gj P (frozen a):=λ_ _ _ e=>by cases e
theorem ra(t:Xv):ln P (elemOf t):=(aG t).bind λd=>by cases d<;>first|trivial|exact rfl
theorem du(e:RuntimeError):kK P (runtimePanic e:XN α):=by refine dz lu.y8 λp=>?_;cases e with|typeAssertion i q a m=>exact dz (ra _).y8 λz=>dz ((q9 _).bind λ_=>dq _) λ_=>eO|panicNil=>exact dz (ra _).y8 λz=>dz ((q9 _).bind λ_=>dq _) λ_=>eO|_=>exact eO
theorem ab.runtimePanic{y:XN β}{Q:bQ->α->β->Prop}:ab P c r (Go.runtimePanic e:XN α) y Q:=ab.never (du e)
theorem pO(k:Xs)(x y:Int)(a:BoundsCode):kK P (boundsPanic k x y a:XN α):=by unfold boundsPanic;split;{exact dz ((iQ _).bind λ_=>uZ _).y8 λ_=>du _};exact dz (uZ _).y8 λ_=>du _
theorem ab.boundsPanic{k:Xs}{n m:Int}{code:BoundsCode}{y:XN β}{Q:bQ->α->β->Prop}:ab P c r (Go.boundsPanic k n m code:XN α) y Q:=ab.never (pO k n m code)
theorem ab.sureAddr(h:ai c r x x'):ab P c r (Instr.sureAddr x) (Instr.sureAddr x') (cZ c):=by cases h with|ptr h=>exact ab.pure h|_=>exact ab.stuck
theorem ab.asAddr(h:ai c r x x'):ab P c r (asAddr x) (asAddr x') (cZ c):=by cases h with|ptr h=>exact ab.pure h|gq=>exact ab.runtimePanic (e:=.nilDeref)|_=>exact ab.stuck
theorem ab.part(t:Xv)(off:Nat){x x':Array Xc}(h:ak c r x x'):ab P c r (part t x off) (part t x' off) (ai c):=by refine ab.bind (ab.cG (n3 t)) λm g f a j=>?_;subst j;cases f with|true=>exact ab.bind (ab.cG (bB t)) λp n o i l=>by subst l;exact ab.pure (.tn (((h.mono a).mono i).extract _ _))|false=>cases e:x[off]? with|none=>exact ab.stuck|some v=>obtain⟨q,d,k⟩:=(h.mono a).get e;rw[d];exact ab.pure k
theorem DZ(t:Xv)(d:∀z,(P.info? t).bind (·.zero)=W7 z->Flat z):ab P c r (Instr.alloc t W9 (.tuple #[])) (Instr.alloc t W9 (.tuple #[])) (ai c):=by refine ab.bind (ab.flat (sE t d)) λg z j f d=>?_;exact ab.bind (ab.newVar d) λi a e _ h=>ab.pure (.ptr h)
theorem Lv(t:Xv)(h:ai c r x x'):ab P c r (Instr.box t x) (Instr.box t x') (ai c):=ab.bind (ab.newVar h) λe a d _ h=>ab.pure (.ptr h)
theorem yh(d:Nat->Option (Nat×Nat)):∀(l q:List (Nat×Xc)){z z':Array Xc},ak c r z z'->l.map (·.1)=q.map (·.1)->ak c r (l.map (·.2)).toArray (q.map (·.2)).toArray->
 match Instr.fill d z l with|some y=>∃I,Instr.fill d z' q=W7 I/\ak c r y I|none=>True
 |[],[],z,z',h,_,_=>⟨z',rfl,h⟩
 |[],_::_,_,_,_,e,_=>by simp at e
 |_::_,[],_,_,_,e,_=>by simp at e
 |(i,v)::l,(O,t)::q,z,z',h,e,w=>by
   simp only[U1,Ww]at e
   obtain⟨rfl,e⟩:=e
   have F:ai c r v t:=w.el 0 v t Θ Θ
   have A:ak c r (l.map (·.2)).toArray (q.map (·.2)).toArray:=⟨by have:=w.size;simp_all,λj u E a b=>w.el (j+1) u E (by grind) (by grind)⟩
   have M:=(ak.cells F).size
   have C:=h.size
   unfold Instr.fill
   cases d i with
   |none=>trivial
   |some p=>
     obtain⟨k,H⟩:=p
     simp only[<-M,<-C]
     split
     · rename_i y G
       split at G
       ·cases G
       · rename_i L
         rw[if_neg L]
         have D:∀(s f:List (Xc×Nat))(z z':Array Xc),ak c r z z'->s.map (·.2)=f.map (·.2)->ak c r (s.map (·.1)).toArray (f.map (·.1)).toArray->
          ak c r (s.foldl (λm(x:Xc×Nat)=>m.setIfInBounds (k+x.2) x.1) z) (f.foldl (λm(x:Xc×Nat)=>m.setIfInBounds (k+x.2) x.1) z'):=by
          intro s
          induction s with
          |nil=>simp_all
          |cons p s N=>intro f z z' C e B;cases f with
            |nil=>simp at e
            |cons Q f=>
              simp only[U1,Ww]at e
              rw[VE,VE,<-e.1]
              exact N f _ _ (C.set _ (B.el 0 _ _ Θ Θ)) e.2 ⟨by have:=B.size;simp_all,λj u E a b=>B.el (j+1) u E (by grind) (by grind)⟩
         have n:ak c r (v.cells.zipIdx.foldl (λm(x:Xc×Nat)=>m.setIfInBounds (k+x.2) x.1) z) (t.cells.zipIdx.foldl (λm(x:Xc×Nat)=>m.setIfInBounds (k+x.2) x.1) z'):=by
          rw[<-Array.foldl_toList,<-Array.foldl_toList]
          refine D _ _ _ _ h ?_ ?_
          ·simp_all
          · have J:(v.cells.zipIdx.toList.map (·.1)).toArray=v.cells:=by simp
            have K:(t.cells.zipIdx.toList.map (·.1)).toArray=t.cells:=by simp
            rw[J,K];exact ak.cells F
         have:=yh d l q n e A
         simp_all
     ·trivial
end
section
variable{c:ej}{r:bQ}
inductive sK(c:ej)(b:Nat):Option (Xv×Nat)->Option (Xv×Nat)->Prop
 |none:sK c b Xg Xg
 |some(t:Xv){n m:Nat}:n<=m->c.low b=0->sK c b (W7 (t,n)) (W7 (t,m))
 |bad(t':Xv){n m:Nat}:c.low b≠0->c.aP<=b->sK c b (W7 (v8,n)) (W7 (t',m))
theorem sK.isSome{s s':Option (Xv×Nat)}(h:sK c b s s'):s.isSome=s'.isSome:=by cases h<;>rfl
theorem ql{p:Xz}{d:Nat}{e:Xv}{m off:Nat}{bs:Int}{o:Nat}(h:n<=m)(a:cellAtBytes p d e n off bs=W7 o):cellAtBytes p d e m off bs=W7 o:=by unfold cellAtBytes at a⊢;simp only[]at a⊢;split at a;{cases a};rename_i f;rw[if_neg f];simp only[Option.bind_eq_bind]at a⊢;cases i:byteOfCell p d e (off%p.cellsOf e)with|none=>simp_all|some b=>rw[i]at a;simp only[VX]at a⊢;split at a;{cases a};rename_i g;rw[if_neg ?_];{exact a};simp only[Vr,decide_eq_true_eq,Int.ofNat_eq_natCast]at g⊢;have:n*p.bytesOf e<=m*p.bytesOf e:=VW _ h;omega
theorem ef.shape(h:ef c r w v)(g:r b=W7 k):sK c b (w.shape? b) (v.shape? k):=by have d:=h.blk b k g;unfold Xf.shape?;generalize w.heap[b]?=p at d;generalize v.heap[k]?=o at d;cases d with|@seen x q t m f s l z y e=>by_cases a:c.low b=0;{obtain rfl:=y.1 a;exact .some t z a};obtain⟨rfl,i⟩:=y.2 a;exact .bad m a i|own n j=>cases j with|cells t f k=>exact .some t (by simp[k.size]) (h.rm b n)|_=>exact .none
theorem ab.shape(d:r b=W7 k):ab P c r (shape b) (shape k) λ_ x y=>sK c b x y:=by intro w v a;exact⟨v.shape? k,v,r,rfl,.refl a,a.shape d,λe f=>by simp_all⟩
theorem ab.viewAt(f:r b=W7 k):ab P c r (viewAt b) (viewAt k) λ_ x y=>x=Xg/\y=Xg:=by refine ab.bind (ab.shape f) λg s d h l=>?_;have a:=l.isSome;by_cases e:d.isSome=W9;{rw[a,if_pos e,if_pos e];exact ab.pure ⟨rfl,rfl⟩};rw[a,if_neg e,if_neg e];refine ab.getObj (h _ _ f) λo n _ j i=>?_;cases j with|cells t m _=>exact absurd rfl (i _ _ _)|_=>exact ab.pure ⟨rfl,rfl⟩
theorem ab.noView(d:cZ c r a a'):ab P c r (noView a) (noView a') λ_ _ _=>True:=by refine ab.bind (ab.viewAt d.1) λf s g e b=>?_;rw[b.1,b.2];exact ab.pure trivial
def PF(c:ej)(r:bQ):Option (XU×Bool)->Option (XU×Bool)->Prop
 |none,Xg=>True
 |some (a,l),W7 (a',l')=>cZ c r a a'/\l'=l
 |_,_=>False
theorem ab.numberAt(f:r b=W7 k):ab P c r (numberAt b) (numberAt k) (PF c):=by refine ab.bind (ab.shape f) λn s g h m=>?_;have d:=m.isSome;rw[d];by_cases e:g.isSome=W9;{rw[if_pos e,if_pos e];exact ab.pure trivial};rw[if_neg e,if_neg e];refine ab.getObj (h _ _ f) λo q _ j i=>?_;cases j with|cells t p _=>exact absurd rfl (i _ _ _)|number l a=>exact ab.pure ⟨a,rfl⟩|_=>exact ab.pure trivial
theorem ab.behindNumber(d:cZ c r a a'):ab P c r (behindNumber a) (behindNumber a') λf x y=>cZ c f x.1 y.1/\y.2=x.2:=by refine ab.bind (ab.numberAt d.1) λi s g e b=>ab.pure ?_;match s,g,b with|none,Xg,_=>exact⟨d.mono e,rfl⟩|some (x,l),W7 (j,h),b=>exact b
theorem ab.asNumber(b:cZ c r a a')(l:Bool):ab P c r (asNumber a l) (asNumber a' l) (ai c):=ab.bind (ab.newObj (.number l b)) λ_ _ _ _ h=>ab.pure (.ptr ⟨h.1,rfl,rfl,Vn h.2⟩)
theorem ab.byteOf(b:cZ c r a a')(g:c.low a.block=0\/a.block<c.aP):ab P c r (byteOf a) (byteOf a') λ_ x y=>y=x:=by have e:=b.2.2.1;unfold Go.byteOf;rw[e];cases a.spot with|some s=>exact ab.pure rfl|none=>refine ab.bind (ab.eZ bX) λn p m d i=>?_;obtain⟨rfl,rfl⟩:=i;refine ab.bind (ab.noView (b.mono d)) λo _ _ f _=>?_;refine ab.bind (ab.shape ((b.mono d).mono f).1) λq s t l e=>?_;rw[b.2.1];cases e with|none=>exact ab.stuck|bad x k d=>exact absurd g Ω|some x h=>refine ab.cG ?_;simp only[];split;{trivial};split<;>first|trivial|exact rfl
theorem ab.unsafeAdd(z:Fits P c)(h:ai c r x x')(k:ai c r y y'):ab P c r (XJ.unsafeAdd_ #[] t #[x,y]) (XJ.unsafeAdd_ #[] t #[x',y']) (ai c):=by(have f:∀{a j:Option XU},ai c r (.pointer a) (.pointer j)->ab P c r (XJ.unsafeAdd_ #[] t #[.pointer a,y]) (XJ.unsafeAdd_ #[] t #[.pointer j,y']) (ai c):=by intro a j h;refine ab.bind (ab.asInt k) λF n E v A=>?_;subst A;have h:=h.mono v;simp only[];split;{cases h with|gq=>exact ab.unsupported|ptr b=>refine ab.bind (ab.viewAt b.1) λB s D l g=>?_;rw[g.1,g.2];exact ab.pure (.ptr (b.mono l))};split;{exact ab.unsupported};cases h with|gq=>exact ab.unsupported|ptr b=>refine ab.bind (ab.shape b.1) λB s D l g=>?_;cases g with|none=>exact ab.unsupported|bad x u v=>refine ab.bind (ab.eZ bX) λC p i w o=>?_;obtain⟨rfl,rfl⟩:=o;(have:i.cellsOf v8=0:=by unfold Xz.cellsOf;rw[z.bad];rfl);(have:∀n d q,cellAtBytes i i.depth v8 n d q=Xg:=λn d q=>by unfold cellAtBytes;simp[this]);simp only[this];exact ab.unsupported|some x m u=>refine ab.bind (ab.eZ bX) λC p i w o=>?_;obtain⟨rfl,rfl⟩:=o;rw[b.2.1];split;{rename_i d e;rw[ql (Nat.div_le_div_right m) e];exact ab.pure (.ptr ⟨((b.mono l).mono w).1,rfl,b.2.2.1,UW (Vn u) (Vf _)⟩)};exact ab.unsupported);cases h with|gq=>exact f .gq|ptr b=>exact f (.ptr b)|_=>exact ab.stuck
theorem ab.movedNumber(g:Fits P c)(h:ai c r x x')(k:ai c r y y'):ab P c r (movedNumber t x y) (movedNumber t x' y') (ai c):=by refine ab.bind (ab.cG (aG t)) λH d E p w=>?_;subst w;have h:=h.mono p;have k:=k.mono p;refine ab.ite (λ_ _ _ _=>rfl) λ_=>?_;cases h with|ptr u=>refine ab.bind (ab.behindNumber u) λI a i q A=>?_;obtain⟨j,o⟩:=A;obtain⟨a,l⟩:=a;subst o;refine ab.bind (ab.unsafeAdd g (.ptr j) (k.mono q)) λJ z K F B=>?_;(cases B with|ptr v=>exact ab.asNumber v _|gq=>exact ab.pure .gq|bool b=>exact ab.pure (.bool b)|int k n=>exact ab.pure (.int k n)|string s=>exact ab.pure (.string s)|iC n m=>exact ab.pure (.iC n m)|slice n m a=>exact ab.pure (.slice n m a)|cQ a i=>exact ab.pure (.cQ a i)|kR=>exact ab.pure .kR|map a=>exact ab.pure (.map a)|func a b d e f=>exact ab.pure (.func a b d e f)|nilFunc=>exact ab.pure .nilFunc|nilIface=>exact ab.pure .nilIface|iface t a=>exact ab.pure (.iface t a)|agg a b=>exact ab.pure (.agg a b)|tuple a b=>exact ab.pure (.tuple a b))|gq=>exact ab.unsafeAdd g .gq k|bool b=>exact ab.unsafeAdd g (.bool b) k|int C n=>exact ab.unsafeAdd g (.int C n) k|string s=>exact ab.unsafeAdd g (.string s) k|iC n m=>exact ab.unsafeAdd g (.iC n m) k|slice n m a=>exact ab.unsafeAdd g (.slice n m a) k|cQ a i=>exact ab.unsafeAdd g (.cQ a i) k|kR=>exact ab.unsafeAdd g .kR k|map a=>exact ab.unsafeAdd g (.map a) k|func a b d e f=>exact ab.unsafeAdd g (.func a b d e f) k|nilFunc=>exact ab.unsafeAdd g .nilFunc k|nilIface=>exact ab.unsafeAdd g .nilIface k|iface t a=>exact ab.unsafeAdd g (.iface t a) k|agg a b=>exact ab.unsafeAdd g (.agg a b) k|tuple a b=>exact ab.unsafeAdd g (.tuple a b) k
theorem ab.movedPointer(g:Fits P c)(h:ai c r x x')(k:ai c r y y'):ab P c r (movedPointer t x y) (movedPointer t x' y') (ai c):=by unfold Go.movedPointer;cases h with|ptr j=>refine ab.bind (ab.numberAt j.1) λv s q i o=>?_;(match s,q,o with|none,Xg,_=>exact ab.unsafeAdd (t:=t) g (.ptr (j.mono i)) (k.mono i)|some _,W7 _,_=>exactλ_ _ _=>rfl)|gq=>exact ab.unsafeAdd g .gq k|bool b=>exact ab.unsafeAdd g (.bool b) k|int p n=>exact ab.unsafeAdd g (.int p n) k|string s=>exact ab.unsafeAdd g (.string s) k|iC n m=>exact ab.unsafeAdd g (.iC n m) k|slice n m a=>exact ab.unsafeAdd g (.slice n m a) k|cQ a l=>exact ab.unsafeAdd g (.cQ a l) k|kR=>exact ab.unsafeAdd g .kR k|map a=>exact ab.unsafeAdd g (.map a) k|func a b d e f=>exact ab.unsafeAdd g (.func a b d e f) k|nilFunc=>exact ab.unsafeAdd g .nilFunc k|nilIface=>exact ab.unsafeAdd g .nilIface k|iface t a=>exact ab.unsafeAdd g (.iface t a) k|agg a b=>exact ab.unsafeAdd g (.agg a b) k|tuple a b=>exact ab.unsafeAdd g (.tuple a b) k
theorem ab.known{x:XN α}{y:XN β}{Q:bQ->α->β->Prop}(h:(∀(i k:Nat),r i=W7 k->i<c.aP->i=k)->(∀(i j k:Nat),r i=W7 k->r j=W7 k->i=j\/(c.seen i/\c.seen j))->ab P c r x y Q):ab P c r x y Q:=λw v a=>h a.aP a.inj w v a
theorem uY{b:XU}(d:cZ c r a a')(f:cZ c r b b')(e:a.block=b.block):a'.block=b'.block:=by have h:=f.1;rw[<-e,d.1]at h;simp_all
theorem ve(d:∀(i k:Nat),r i=W7 k->i<c.aP->i=k)(b:cZ c r a a')(h:a.block<c.aP):a'.block<c.aP:=by have:=d _ _ b.1 h;omega
theorem ab.twoPlaces{b:XU}(k:Fits P c)(f:cZ c r a a')(j:cZ c r b b'):ab P c r (Op.twoPlaces a b) (Op.twoPlaces a' b') λ_ x y=>y=x:=by refine ab.known λu A=>?_;refine ab.bind (ab.eZ bX) λB p h i t=>?_;obtain⟨rfl,rfl⟩:=t;by_cases d:a.block=b.block;(case neg=>have m:=bne_iff_ne.2 d;rw[m];exactλ_ _ _=>rfl);(have n:(a'.block !=b'.block)=(a.block !=b.block):=by simp[d,uY f j d]);by_cases e:a.block<c.aP;(case neg=>(have q:decide (a.block>=h.globals.size)=W9:=by rw[decide_eq_true_eq,<-k.aP];omega);rw[q,VP];exactλ_ _ _=>rfl);(have o:decide (a'.block>=h.globals.size)=decide (a.block>=h.globals.size):=by rw[decide_eq_decide,<-k.aP];have:=ve u f e;omega);rw[n,o];refine ab.ite (λ_ _ _ _=>rfl) λ_=>?_;exact ab.bind (ab.byteOf (f.mono i) (.inr e)) λC x E s v=>ab.bind (ab.byteOf ((j.mono i).mono s) (.inr (d▸e))) λD y F z w=>ab.pure (by rw[v,w])
theorem ab.addrMod(h:Fits P c){k:Xs}{n:Int}(f:cZ c r a a'):ab P c r (Op.addrMod k a n) (Op.addrMod k a' n) (ai c):=by refine ab.bind (ab.shape f.1) λt s y d m=>?_;cases m with|none=>exact ab.unsupported|bad x b d=>refine ab.never (gA λw=>?_);(have e:∃s,(typeInfo v8).run P w=.halt (.stuck s) w:=by unfold typeInfo;rw[XN.run_bind];simp only[program,XN.run,XS.andThen,h.bad];simp);obtain⟨s,e⟩:=e;exact⟨_,w,e,rfl⟩|some x l b=>refine ab.bind (ab.cG (di _)) λu i q g j=>?_;subst j;refine ab.ite (λ_ _ _ _=>rfl) λ_=>?_;exact ab.bind (ab.byteOf ((f.mono d).mono g) (.inl b)) λv z A p o=>by subst o;exact ab.pure (.int _ _)
theorem ab.addrCmp{b:XU}(f:Fits P c)(d:cZ c r a a')(e:cZ c r b b'):ab P c r (Op.addrCmp op a b) (Op.addrCmp op a' b') (ai c):=by refine ab.bind (ab.twoPlaces f d e) λj s h i g=>?_;subst g;cases op<;>first|exact ab.pure (.bool _)|exact ab.unsupported
theorem ab.addrSub{k:Xs}{b:XU}(f:Fits P c)(d:cZ c r a a')(e:cZ c r b b'):ab P c r (Op.addrSub k a b) (Op.addrSub k a' b') (ai c):=by refine ab.bind (ab.twoPlaces f d e) λi s j h g=>?_;subst g;exact ab.pure (.int _ _)
def MH(P:Xz)(t:Xv):Bool:=match(P.info? t).map (λi:TypeInfo=>i.desc)with|some (.named "sync.copyChecker" _)=>W4|_=>W9
def fp(P:Xz)(t:Xv):Bool:=match P.underlying t with|some (.int _)=>MH P t|some .string|some .bool=>W9|_=>W4
theorem zN{q:α->Prop}{x:XN α}{f:α->XN β}(g:b8 P q x)(h:∀a,q a->kK P (f a)):kK P (x>>=f):=by intro w;rw[XN.run_bind];rcases g.run w w rfl rfl with⟨a,d,e,b,_⟩|⟨k,j,b,i⟩;{rw[b];exact h a e _};simp_all
theorem ab.equal(H:Fits P c)(j:fp P t=W9)(h:ai c r x x')(k:ai c r y y'):ab P c r (Op.equal t x y) (Op.equal t x' y') λ_ a b=>b=a:=by show ab P c r (Op.equalIn (9999+1) t x y) (Op.equalIn (9999+1) t x' y') _;generalize(9999:Nat)=d;unfold Op.equalIn;refine ab.bind (ab.eZ (x:=underlying t) (q:=λd=>P.underlying t=W7 d) ?_) λr1 z J s m=>?_;{refine b8.bind bX λp v=>?_;subst v;cases h:p.underlying t with|none=>exact rfl|some i=>exact rfl};obtain⟨rfl,m⟩:=m;have h:=h.mono s;have k:=k.mono s;unfold fp at j;rw[m]at j;cases J with|bool=>(cases h<;>cases k<;>first|exact ab.stuck|exact ab.pure rfl)|string=>(cases h<;>cases k<;>first|exact ab.stuck|exact ab.pure rfl)|int q=>(cases h with|int S w=>(cases k with|int I o=>exact ab.ite (λ_=>ab.pure rfl) λ_=>ab.stuck|ptr G=>(match w with|.ofNat 0=>exact ab.pure rfl|.ofNat (_+1)=>exact ab.unsupported|.negSucc _=>exact ab.unsupported)|_=>first|exact ab.stuck|exact ab.unsupported)|ptr N=>(cases k with|int I o=>(match o with|.ofNat 0=>exact ab.pure rfl|.ofNat (_+1)=>exact ab.unsupported|.negSucc _=>exact ab.unsupported)|ptr G=>refine ab.bind (ab.behindNumber N) λr2 x x' C g=>ab.bind (ab.behindNumber (G.mono C)) λr3 y y' D l=>?_;refine ab.known λR n=>?_;have g:=g.1.mono D;have l:=l.1;refine ab.bind (ab.eZ bX) λr4 p B E v=>?_;obtain⟨rfl,rfl⟩:=v;by_cases f:x.1.block=y.1.block;(case neg=>have w:(x.1.block==y.1.block)=W4:=beq_eq_false_iff_ne.2 f;(have o:(x.1==y.1)=W4:=by grind);simp only[w,o,VC,U5,if_false];refine ab.never (dz (di t).y8 λi=>?_);split<;>exact eO);have O:=uY g l f;(have K:(x'.1.block==y'.1.block)=(x.1.block==y.1.block):=by simp_all);by_cases e:x.1.block<c.aP;(case neg=>(have T:decide (x.1.block<B.globals.size)=W4:=by rw[decide_eq_false_iff_not,<-H.aP];exact e);simp only[T,Bool.and_false,U5,if_false];refine ab.never (zN (jF t) λi n=>?_);unfold MH at j;rw[n]at j;split;{simp_all};exact eO);(have L:decide (x'.1.block<B.globals.size)=decide (x.1.block<B.globals.size):=by rw[decide_eq_decide,<-H.aP];exact⟨λ_=>e,λ_=>ve R g e⟩);(have M:(x'.1==y'.1)=(x.1==y.1):=by obtain⟨⟨xb,xo,xs⟩,_⟩:=x;obtain⟨⟨V,W,X⟩,_⟩:=x';obtain⟨⟨yb,yo,ys⟩,_⟩:=y;obtain⟨⟨Y,Z,ys'⟩,_⟩:=y';obtain⟨s,C,D,-⟩:=g;obtain⟨S,I,k3,-⟩:=l;grind);simp only[K,L,M];refine ab.ite (λe=>?_) λ_=>?_;{(have e:x.1.block<c.aP:=by assumption);exact ab.bind (ab.byteOf (g.mono E) (.inr e)) λU u u' F Q=>ab.bind (ab.byteOf ((l.mono E).mono F) (.inr (f▸e))) λr6 z J h6 m=>ab.pure (by rw[Q,m])};refine ab.bind (ab.cG (di t)) λU i i' F n=>?_;subst n;refine(ab.cG ?_);(split<;>first|exact rfl|(split<;>first|trivial|exact rfl))|_=>exact ab.unsupported)|gq=>cases k<;>exact ab.unsupported|_=>cases k<;>first|exact ab.stuck|exact ab.unsupported)|_=>simp at j
theorem ab.eqGuard{o2:XI}(b:∀z,x≠.agg z)(a:x≠.nilIface)(h:ai c r x x'):ab P c r (eqGuard op t o1 o2 x y) (eqGuard op t o1 o2 x' y') λ_ _ _=>True:=by refine ab.ite (λ_=>ab.pure trivial) λ_=>?_;cases h<;>first|exact absurd rfl a|exact absurd rfl (b _)|exact ab.pure trivial
theorem kl{d:TypeDesc}(h:P.underlying t=W7 d)(w:Xf):(underlying t).run P w=.ok d w:=by unfold underlying;simp_all
theorem zK(a:fp P t=W9)(e:(∃z,x=.agg z)\/x=.nilIface):kK P (Op.equal t x y):=by intro w;show∃k f,(Op.equalIn (9999+1) t x y).run P w=.halt k f/\_;unfold Op.equalIn;unfold fp at a;cases b:P.underlying t with|none=>simp_all|some z=>rw[b]at a;rw[XN.run_bind,kl b];rcases e with⟨q,rfl⟩|rfl<;>cases z<;>first|(simp at a;done)|exact⟨_,_,rfl,rfl⟩|(cases y<;>exact⟨_,_,rfl,rfl⟩)
end
def A4:Xc->Bool
 |.int ..|.string ..|.pointer ..|.float ..|.complex ..=>W4
 |_=>W9
set_option maxHeartbeats 4000000 in theorem zF(a:BinOp)(t:Xv)(x y:Xc)(b:¬(a=.eql\/a=.neq))(c:A4 x=W9):∃h:Halt,binOp a t x y=.halt h/\AH h=W9:=by(cases a<;>first|exact absurd (.inl rfl) b|exact absurd (.inr rfl) b|skip);all_goals(cases x<;>first|(simp[A4]at c;done)|skip);all_goals(cases y<;>exact⟨_,rfl,rfl⟩)
section
variable{c:ej}{r:bQ}
theorem pg(a:fp P t=W9)(n:Nat):P.eqGuardType (n+1) t=W4:=by unfold fp at a;unfold Xz.eqGuardType;grind
theorem xm{o2:XI}(l:fp P t=W9)(m:(∃z,x=.agg z)\/x=.nilIface):gj P (eqGuard op t o1 o2 x y):=by
 have a:∀n:Nat,gj P (Op.eqGuardIn (n+1) t .nilIface .nilIface):=λn=>by
  unfold Op.eqGuardIn
  exact gj.bind (aG t).y8 λd=>by cases d<;>exact dq _
 have g:gj P (match x,y with
  |.nilIface,.nilIface=>(do
    if(o1 matches .const _)||(o2 matches .const _)then return
    if<-Op.eqGuardIn Op.maxDepth t x y then unsupported (.noEntry "binop/eql: two nil values of an interface type with methods, neither of them the literal nil"):XN Unit)
  |.agg _,.agg _=>(do
    if !(<-program).eqGuardType (<-program).depth t then return
    if<-Op.eqGuardIn Op.maxDepth t x y then unsupported (.noEntry "binop/eql: two nil values of an interface type with methods, in a part of a struct or an array"):XN Unit)
  |_,_=>pure ()):=by
  rcases m with⟨z,rfl⟩|rfl
  ·cases y with
    |agg u=>
      refine b8.y8 (q:=λ_=>True) (b8.bind bX λp k=>b8.bind bX λj f=>?_)
      subst k f
      rw[show j.eqGuardType j.depth t=W4 from pg l _]
      exact trivial
    |_=>exact dq _
  ·cases y with
    |nilIface=>
      by_cases i:((match o1 with|.const _=>W9|_=>W4)||(match o2 with|.const _=>W9|_=>W4))=W9
      ·simp only[i,if_true];exact dq _
      · simp only[i,if_false,U5]
        exact gj.bind (a 9999) λb=>by
         cases b
         ·exact dq _
         ·exactλw h o e=>by cases e;rfl
    |_=>exact dq _
 cases op<;>first|exact g|exact dq _
set_option maxHeartbeats 1000000 in theorem Dx{o2:XI}(hc:Fits P c)(ht:(op=.eql\/op=.neq)->fp P t=W9)(h:ai c r x x')(k:ai c r y y'):ab P c r (do eqGuard op t o1 o2 x y;binOp op t x y) (do eqGuard op t o1 o2 x' y';binOp op t x' y') (ai c):=by by_cases he:op=.eql\/op=.neq;{have ht:=ht he;by_cases hx:(∃z,x=.agg z)\/x=.nilIface;{refine ab.never (dz (xm ht hx) λ_=>?_);have:∀f:Bool->XN Xc,kK P (Op.equal t x y>>=f):=λf=>gA (zK (P:=P) (y:=y) ht hx);rcases hx with⟨z,rfl⟩|rfl<;>rcases he with rfl|rfl<;>(cases y<;>exact this _)};(have heq:∀{r:bQ},ai c r x x'->ai c r y y'->ab P c r (binOp op t x y) (binOp op t x' y') (ai c):=by intro r h k;have key:=ab.equal hc ht h k;cases h with|int k1 n1=>(cases k with|int k2 n2=>exact ab.flat (me _ _ _ _ _ _)|_=>rcases he with rfl|rfl<;>exact ab.bind key λ_ _ _ _ e=>by subst e;exact ab.pure (.bool _))|string s1=>(cases k with|string s2=>exact ab.flat (j2 _ _ _ _)|_=>rcases he with rfl|rfl<;>exact ab.bind key λ_ _ _ _ e=>by subst e;exact ab.pure (.bool _))|_=>rcases he with rfl|rfl<;>exact ab.bind key λ_ _ _ _ e=>by subst e;exact ab.pure (.bool _));exact ab.bind (ab.eqGuard (λz e=>hx (.inl ⟨z,e⟩)) (λe=>hx (.inr e)) h) λr1 _ _ h1 _=>heq (h.mono h1) (k.mono h1)};(have e0:∀x y:Xc,(do eqGuard op t o1 o2 x y;binOp op t x y)=binOp op t x y:=by intro x y;cases op<;>first|rfl|exact absurd (.inl rfl) he|exact absurd (.inr rfl) he);rw[e0,e0];clear e0;by_cases hx:A4 x=W9;{obtain⟨h',e,hh⟩:=zF op t x y he hx;rw[e];exact ab.halt hh};cases h with|int k1 n1=>(cases k with|int k2 n2=>exact ab.flat (me _ _ _ _ _ _)|ptr hb=>(cases op<;>first|exact ab.unsupported|exact absurd (.inl rfl) he|exact absurd (.inr rfl) he|exact ab.movedNumber hc (.ptr hb) (.int _ _)|exact ab.bind (ab.behindNumber hb) λr1 z z' h1 hz=>ab.addrMod hc hz.1)|gq=>(cases op<;>first|exact ab.unsupported|exact absurd (.inl rfl) he|exact absurd (.inr rfl) he|exact ab.movedNumber hc .gq (.int _ _))|_=>cases op<;>first|exact ab.stuck|exact absurd (.inl rfl) he|exact absurd (.inr rfl) he)|string s1=>(cases k with|string s2=>exact ab.flat (j2 _ _ _ _)|_=>cases op<;>first|exact ab.stuck|exact ab.unsupported|exact absurd (.inl rfl) he|exact absurd (.inr rfl) he)|ptr ha=>(cases k with|int k2 n2=>(cases op<;>first|exact ab.unsupported|exact absurd (.inl rfl) he|exact absurd (.inr rfl) he|exact ab.movedNumber hc (.ptr ha) (.int _ _)|exact ab.bind (ab.behindNumber ha) λr1 z z' h1 hz=>ab.addrMod hc hz.1|(refine ab.bind (ab.cG (aG t)) λr1 d d' h1 hd=>?_;subst hd;exact ab.ite (λ_=>ab.movedPointer hc (.ptr (ha.mono h1)) (.int _ _)) λ_=>ab.movedNumber hc (.ptr (ha.mono h1)) (.int _ _)))|ptr hb=>(cases op<;>first|exact ab.unsupported|exact absurd (.inl rfl) he|exact absurd (.inr rfl) he|exact ab.bind (ab.behindNumber ha) λr1 z z' h1 hz=>ab.bind (ab.behindNumber (hb.mono h1)) λr2 u u' h2 hu=>ab.addrSub hc (hz.1.mono h2) hu.1|exact ab.bind (ab.behindNumber ha) λr1 z z' h1 hz=>ab.bind (ab.behindNumber (hb.mono h1)) λr2 u u' h2 hu=>ab.addrCmp hc (hz.1.mono h2) hu.1)|_=>cases op<;>first|exact ab.stuck|exact ab.unsupported|exact absurd (.inl rfl) he|exact absurd (.inr rfl) he)|gq=>(cases k with|int k2 n2=>(cases op<;>first|exact ab.unsupported|exact absurd (.inl rfl) he|exact absurd (.inr rfl) he|exact ab.movedNumber hc .gq (.int _ _)|(refine ab.bind (ab.cG (aG t)) λr1 d d' h1 hd=>?_;subst hd;exact ab.ite (λ_=>ab.movedPointer hc .gq (.int _ _)) λ_=>ab.movedNumber hc .gq (.int _ _)))|_=>cases op<;>first|exact ab.stuck|exact ab.unsupported|exact absurd (.inl rfl) he|exact absurd (.inr rfl) he)|_=>exact absurd rfl hx
end
section
variable{c:ej}{r:bQ}
theorem aY(t:Xv):b8 P (λd=>P.underlying t=W7 d) (underlying t):=by refine b8.bind bX λp a=>?_;subst a;cases h:p.underlying t with|none=>exact rfl|some i=>exact rfl
theorem vZ(t:Xv):b8 P (λn=>P.cellsOf t=n) (sizeOf t):=by refine b8.bind (jF t) λi a=>?_;show P.cellsOf t=i.size;unfold Xz.cellsOf;grind
theorem AB(t:Xv)(h:ai c r x x'):ab P c r (Instr.loadAt t x) (Instr.loadAt t x') (ai c):=ab.bind (ab.sureAddr h) λ_ _ _ _ b=>ab.loadVar t b
theorem yD(t:Xv)(h:ai c r x x')(k:ai c r y y'):ab P c r (Instr.storeAt t x y) (Instr.storeAt t x' y') λ_ _ _=>True:=ab.bind (ab.sureAddr h) λ_ _ _ b d=>ab.storeVar t d (k.mono b)
theorem DG{op:UnOp}(h:ai c r x x'):ab P c r (Op.unary op x) (Op.unary op x') (ai c):=by cases h with|bool b=>(cases op<;>first|exact ab.pure (.bool _)|exact ab.stuck)|int k n=>(cases op with|neg=>exact ab.flat (nL .sub k 0 n)|xor=>exact ab.flat (oN .xor k (if k.signed then-1 else k.max) n)|_=>exact ab.stuck)|ptr a=>(cases op<;>first|exact ab.unsupported|exact ab.stuck)|_=>cases op<;>exact ab.stuck
theorem yJ(n:Nat)(h:ai c r x x'):ab P c r (Instr.extract x n) (Instr.extract x' n) (ai c):=by cases h with|tuple s e=>rename_i z f;unfold Instr.extract;(cases b:z[n]? with|none=>simp only[b];exact ab.stuck|some v=>obtain⟨g,d,k⟩:=(ak.mk s e).get b;simp only[b,d];exact ab.pure k)|_=>exact ab.stuck
theorem xW(s:Xv)(n:Nat)(u:∀fs f,P.underlying s=W7 (.struct fs)->fs[n]?=W7 f->P.cellsOf f.type≠0)(h:ai c r x x'):ab P c r (Instr.fieldAt s x n) (Instr.fieldAt s x' n) (ai c):=by refine ab.bind (ab.eZ (aY s)) λz d k l e=>?_;obtain⟨rfl,e⟩:=e;cases k with|struct fs=>simp only[];(cases t:fs[n]? with|none=>exact ab.stuck|some f=>refine ab.bind (ab.sureAddr (h.mono l)) λv a j w p=>?_;(have i:ab P c v (fieldPlace a f) (fieldPlace j f) (cZ c):=by refine ab.bind (ab.eZ (vZ f.type)) λA m y o g=>?_;obtain⟨rfl,g⟩:=g;have:=u fs f e t;rw[g]at this;rw[if_neg this,if_neg this];exact ab.pure ((p.mono o).add _));exact ab.bind i λ_ _ _ _ q=>ab.pure (.ptr q))|_=>exact ab.stuck
theorem DN(t:Xv)(n:Nat)(h:ai c r x x'):ab P c r (Instr.field t x n) (Instr.field t x' n) (ai c):=by refine ab.bind (ab.cG (aG t)) λl d b g j=>?_;subst j;cases b with|struct e=>simp only[];(cases k:e[n]? with|none=>exact ab.stuck|some f=>exact ab.bind (ab.asAgg (h.mono g)) λ_ _ _ _ i=>ab.part _ _ i)|_=>exact ab.stuck
theorem Em(t:Xv)(h:ai c r x x')(k:ai c r y y'):ab P c r (Instr.index t x y) (Instr.index t x' y') (ai c):=by refine ab.bind (ab.asIntOf k) λB z v j q=>?_;subst q;obtain⟨w,i⟩:=v;refine ab.bind (ab.cG (aG t)) λC d g l o=>?_;subst o;have h:=(h.mono j).mono l;cases h with|agg s e=>(cases g with|array u f=>refine ab.ite (λ_=>?_) λ_=>ab.boundsPanic;exact ab.bind (ab.cG (bB f)) λD m A n p=>by subst p;exact ab.part _ _ ((ak.mk s e).mono n)|_=>exact ab.stuck)|string s=>(cases g with|string=>simp only[];(cases(if 0<=i then s[i.toNat]? else Xg)with|none=>exact ab.boundsPanic|some b=>exact ab.pure (.int _ _))|_=>exact ab.stuck)|_=>cases g<;>exact ab.stuck
theorem yC(t:Xv)(h:ai c r x x')(k:ai c r y y'):ab P c r (Instr.indexAt t x y) (Instr.indexAt t x' y') (ai c):=by unfold Instr.indexAt;refine ab.bind (ab.asIntOf k) λY z V N T=>?_;subst T;obtain⟨X,i⟩:=V;refine ab.bind (ab.cG (aG t)) λZ d M O R=>?_;subst R;have h:=(h.mono N).mono O;let F(U:bQ)(a b:Option XU×Nat×Xv):Prop:=ai c U (.pointer a.1) (.pointer b.1)/\b.2=a.2;cases M with|array B f=>refine ab.bind (ab.sureAddr h) λr3 a I W v=>ab.bind (Q:=F) (ab.pure ⟨.ptr v,rfl⟩) λC a b s q=>?_;obtain⟨w,B,f⟩:=a;obtain⟨o,l⟩:=b;obtain⟨g,e⟩:=q;simp only at e g;subst e;refine ab.bind (ab.cG (x:=underlying t) (aG t)) λC u H s A=>?_;subst A;have g:=g.mono s;(cases g with|gq=>exact ab.boundsPanic|ptr v=>refine ab.ite (λ_=>?_) λ_=>?_;{exact ab.bind (ab.cG (bB f)) λL m J D E=>by subst E;exact ab.pure (.ptr ((v.mono D).add _))};exact ab.ite (λ_ _ _ _=>rfl) λ_=>ab.boundsPanic)|slice f=>(cases h with|iC n m=>refine ab.bind (Q:=F) (ab.pure ⟨.gq,rfl⟩) λC a b s q=>?_;obtain⟨w,B,f⟩:=a;obtain⟨o,l⟩:=b;obtain⟨g,e⟩:=q;simp only at e g;subst e;refine ab.bind (ab.cG (x:=underlying t) (aG t)) λC u H s A=>?_;subst A;have g:=g.mono s;(cases g with|gq=>exact ab.boundsPanic|ptr v=>refine ab.ite (λ_=>?_) λ_=>?_;{exact ab.bind (ab.cG (bB f)) λL m J D E=>by subst E;exact ab.pure (.ptr ((v.mono D).add _))};exact ab.ite (λ_ _ _ _=>rfl) λ_=>ab.boundsPanic)|slice n m v=>refine ab.bind (Q:=F) (ab.pure ⟨.ptr v,rfl⟩) λC a b s q=>?_;obtain⟨w,B,f⟩:=a;obtain⟨o,l⟩:=b;obtain⟨g,e⟩:=q;simp only at e g;subst e;refine ab.bind (ab.cG (x:=underlying t) (aG t)) λC u H s A=>?_;subst A;have g:=g.mono s;(cases g with|gq=>exact ab.boundsPanic|ptr v=>refine ab.ite (λ_=>?_) λ_=>?_;{exact ab.bind (ab.cG (bB f)) λL m J D E=>by subst E;exact ab.pure (.ptr ((v.mono D).add _))};exact ab.ite (λ_ _ _ _=>rfl) λ_=>ab.boundsPanic)|cQ a I=>refine ab.bind (Q:=λ_ p K=>p=(W7 a,0,f)/\K=(W7 I,0,f)) (ab.pure ⟨rfl,rfl⟩) λC p K s S=>?_;obtain⟨rfl,rfl⟩:=S;refine ab.bind (ab.cG (x:=underlying t) (aG t)) λC u H s A=>?_;subst A;refine ab.ite (λG=>?_) λ_=>ab.ite (λ_ _ _ _=>rfl) λ_=>ab.boundsPanic;simp at G;omega|_=>exactλ_ _ _=>rfl)|_=>cases h<;>exactλ_ _ _=>rfl
theorem wy{fn:Fn}(b:IK c fn=W9){x x' y y':Array Xc}(h:ak c r x x')(k:ak c r y y'):ab P c r (Instr.makeFunc fn x y) (Instr.makeFunc fn x' y') (ai c):=ab.pure (.func b h.size h.el k.size k.el)
theorem ab.sliceBound(y:Nat)(e:BoundsCode)(h:ai c r x x'):ab P c r (Instr.sliceBound x y e) (Instr.sliceBound x' y e) λ_ a b=>b=a/\a<=y:=by refine ab.bind (ab.asIntOf h) λj z k g f=>?_;subst f;exact ab.ite (λi=>ab.pure ⟨rfl,by omega⟩) λ_=>ab.boundsPanic
def kq(c:ej)(r:bQ):Option Xc->Option Xc->Prop
 |none,Xg=>True
 |some x,W7 y=>ai c r x y
 |_,_=>False
theorem kq.mono{r r':bQ}(h:r.le r'):∀{x y:Option Xc},kq c r x y->kq c r' x y|none,Xg,_=>trivial|some _,W7 _,k=>ai.mono h k
theorem ab.sliceBounds(f:Bool)(k j:Nat){mx:Option Xc}(i:kq c r lo lo')(m:kq c r hi hi')(s:kq c r mx mx'):ab P c r (Instr.sliceBounds f k j lo hi mx) (Instr.sliceBounds f k j lo' hi' mx') λ_ a b=>b=a/\(k=0->j=0->a=(0,0,0)):=by match mx,mx',s with|none,Xg,_=>refine ab.bind (Q:=λ_ a b=>b=a/\a<=_) (ab.pure ⟨rfl,Uv _⟩) λy z h l e=>?_;obtain⟨rfl,x⟩:=e;(match hi,hi',m with|none,Xg,_=>refine ab.bind (Q:=λ_ a b=>b=a/\a<=_) (ab.pure ⟨rfl,Uv _⟩) λv z h o e=>?_;obtain⟨rfl,u⟩:=e;(match lo,lo',i with|none,Xg,_=>refine ab.bind (Q:=λ_ a b=>b=a/\a<=_) (ab.pure ⟨rfl,Uv _⟩) λq z h p e=>?_;obtain⟨rfl,n⟩:=e;exact ab.pure ⟨rfl,λa b=>by simp_all⟩|some a,W7 t,i=>refine ab.bind (ab.sliceBound _ _ (ai.mono o (ai.mono l i))) λq z h p e=>?_;obtain⟨rfl,n⟩:=e;exact ab.pure ⟨rfl,λa b=>by simp_all⟩)|some b,W7 w,m=>refine ab.bind (ab.sliceBound _ _ (ai.mono l m)) λv z h o e=>?_;obtain⟨rfl,u⟩:=e;match lo,lo',i with|none,Xg,_=>refine ab.bind (Q:=λ_ a b=>b=a/\a<=_) (ab.pure ⟨rfl,Uv _⟩) λq z h p e=>?_;obtain⟨rfl,n⟩:=e;exact ab.pure ⟨rfl,λa b=>by simp_all⟩|some a,W7 t,i=>refine ab.bind (ab.sliceBound _ _ (ai.mono o (ai.mono l i))) λq z h p e=>?_;obtain⟨rfl,n⟩:=e;exact ab.pure ⟨rfl,λa b=>by simp_all⟩)|some d,W7 A,s=>refine ab.bind (ab.sliceBound _ _ s) λy z h l e=>?_;obtain⟨rfl,x⟩:=e;match hi,hi',m with|none,Xg,_=>exactλ_ _ _=>rfl|some b,W7 w,m=>refine ab.bind (ab.sliceBound _ _ (ai.mono l m)) λv z h o e=>?_;obtain⟨rfl,u⟩:=e;match lo,lo',i with|none,Xg,_=>refine ab.bind (Q:=λ_ a b=>b=a/\a<=_) (ab.pure ⟨rfl,Uv _⟩) λq z h p e=>?_;obtain⟨rfl,n⟩:=e;exact ab.pure ⟨rfl,λa b=>by simp_all⟩|some a,W7 t,i=>refine ab.bind (ab.sliceBound _ _ (ai.mono o (ai.mono l i))) λq z h p e=>?_;obtain⟨rfl,n⟩:=e;exact ab.pure ⟨rfl,λa b=>by simp_all⟩
theorem Du(t:Xv){mx:Option Xc}(h:ai c r x x')(k:kq c r lo lo')(o:kq c r hi hi')(p:kq c r mx mx'):ab P c r (Instr.slice t x lo hi mx) (Instr.slice t x' lo' hi' mx') (ai c):=by unfold Instr.slice;refine ab.bind (ab.cG (aG t)) λK d y v A=>?_;subst A;have h:=h.mono v;have k:=k.mono v;have o:=o.mono v;have p:=p.mono v;(have J:mx'.isSome=mx.isSome:=by match mx,mx',p with|none,Xg,_=>rfl|some _,W7 _,_=>rfl);cases y with|string=>(cases h with|string s=>simp only[J];refine ab.ite (λ_ _ _ _=>rfl) λ_=>?_;exact ab.bind (ab.sliceBounds _ _ _ k o (show kq c K Xg Xg from trivial)) λ_ _ _ _ e=>by obtain⟨rfl,_⟩:=e;exact ab.pure (.string _)|_=>exact ab.stuck)|slice b=>(cases h with|iC n m=>refine ab.bind (ab.sliceBounds _ _ _ k o p) λC z u j e=>?_;obtain⟨rfl,_⟩:=e;refine ab.bind (ab.cG (bB b)) λD q B i e=>?_;subst e;refine ab.pure ?_;split<;>exact .iC _ _|slice n m g=>refine ab.bind (ab.sliceBounds _ _ _ k o p) λC z u j e=>?_;obtain⟨rfl,_⟩:=e;refine ab.bind (ab.cG (bB b)) λD q B i e=>?_;subst e;refine ab.pure ?_;have g:=(g.mono j).mono i;split;{exact .slice _ _ g};exact .slice _ _ (g.add _)|cQ a G=>refine ab.bind (ab.sliceBounds _ _ _ k o p) λC z u j e=>?_;obtain⟨rfl,e⟩:=e;obtain rfl:=e rfl rfl;refine ab.bind (ab.cG (bB b)) λD q B i e=>?_;subst e;refine ab.pure ?_;split<;>exact .cQ _ _|_=>exact ab.stuck)|pointer w=>refine ab.bind (ab.asAddr h) λC a G j g=>?_;refine ab.bind (ab.cG (aG w)) λD d y i A=>?_;subst A;(cases y with|array n b=>refine ab.bind (ab.sliceBounds _ _ _ ((k.mono j).mono i) ((o.mono j).mono i) ((p.mono j).mono i)) λL z u H e=>?_;obtain⟨rfl,_⟩:=e;refine ab.bind (ab.cG (bB b)) λM q B I e=>?_;obtain⟨rfl,_⟩:=e;refine ab.pure ?_;have g:=((g.mono i).mono H).mono I;split;{exact .slice _ _ g};exact .slice _ _ (g.add _)|_=>exact ab.stuck)|_=>cases h<;>exact ab.stuck
theorem xQ(t:Xv){mx:Option Xc}(h:ai c r x x')(m:kq c r lo lo')(o:kq c r hi hi')(p:kq c r mx mx'):ab P c r (Instr.sliceAt t x lo hi mx) (Instr.sliceAt t x' lo' hi' mx') (ai c):=by refine ab.bind (ab.cG (aG t)) λE d s f w=>?_;subst w;have k:=Du (P:=P) t (h.mono f) (m.mono f) (o.mono f) (p.mono f);cases s with|array n g=>refine ab.bind (ab.sureAddr (h.mono f)) λF a A j i=>?_;refine ab.bind (ab.sliceBounds _ _ _ ((m.mono f).mono j) ((o.mono f).mono j) ((p.mono f).mono j)) λG z y u e=>?_;obtain⟨rfl,_⟩:=e;refine ab.bind (ab.cG (bB g)) λH q D v e=>?_;subst e;refine ab.pure ?_;have i:=(i.mono u).mono v;split;{exact .slice _ _ i};exact .slice _ _ (i.add _)|_=>exact k
end
section
variable{c:ej}{r:bQ}
def jI(P:Xz)(t:Xv):Bool:=match(P.info? t).bind (·.zero)with|some z=>jG 100 z|none=>W9
theorem vC(h:jI P t=W9):∀z,(P.info? t).bind (·.zero)=W7 z->Flat z:=λz a=>by unfold jI at h;rw[a]at h;exact iF h
theorem Flat.vs(h:Flat z)(c:ej)(r:bQ):ak c r z.cells z.cells:=ak.cells (h c r)
theorem ab.zero(h:jI P t=W9):ab P c r (zeroValue t) (zeroValue t) λ_ a b=>b=a/\Flat a:=ab.eZ (sE t (vC h))
theorem AU(h:jI P t=W9):ab P c r (Instr.alloc t W9 (.tuple #[])) (Instr.alloc t W9 (.tuple #[])) (ai c):=DZ t (vC h)
structure A7(c:ej)(r:bQ)(x x':Array (Nat×Xc)):Prop where
 idx:x.toList.map (·.1)=x'.toList.map (·.1)
 val:ak c r (x.toList.map (·.2)).toArray (x'.toList.map (·.2)).toArray
theorem A7.mono{r r':bQ}(h:r.le r'){x x':Array (Nat×Xc)}(k:A7 c r x x'):A7 c r' x x':=⟨k.idx,k.val.mono h⟩
theorem lB(a:Nat->Option (Nat×Nat)){x x':Array (Nat×Xc)}(h:A7 c r x x'){z z':Array Xc}(e:ak c r z z'):Instr.fill a z x.toList=Option.none\/∃y d,Instr.fill a z x.toList=W7 y/\Instr.fill a z' x'.toList=W7 d/\ak c r y d:=by have:=yh a x.toList x'.toList e h.idx h.val;grind
theorem Ex(l:List ε)(f:ε->XN ζ)(h:∀x∈l,ln P (f x)):ln P (l.mapM f):=by induction l with|nil=>trivial|cons x l b=>rw[List.mapM_cons];exact(h x Θ).bind λ_=>(b λy a=>h y (by simp[a])).bind λ_=>trivial
theorem AX(l:Array ε)(f:ε->XN ζ)(h:∀x∈l,ln P (f x)):ln P (l.mapM f):=by rw[Array.mapM_eq_mapM_toList];exact ln.bind (Ex _ _ λx a=>h x (by simp_all)) λ_=>trivial
theorem Ei(B:jI P t=W9){x x':Array (Nat×Xc)}(h:A7 c r x x'):ab P c r (Instr.build t x) (Instr.build t x') (ai c):=by unfold Instr.build;refine ab.bind (ab.zero B) λD z F q g=>?_;obtain⟨rfl,g⟩:=g;refine ab.bind (ab.cG (aG t)) λE d v s A=>?_;subst A;cases v with|struct w=>refine ab.bind (ab.cG (AX w _ λf _=>(bB f.type).bind λ_=>trivial)) λp u j m o=>?_;subst o;rcases lB (j[·]?) (((h.mono q).mono s).mono m) (g.vs c p)with e|⟨y,C,e,l,k⟩;{simp only[e];exact ab.stuck};simp only[e,l];exact ab.pure (.tn k)|array n b=>refine ab.bind (ab.cG (bB b)) λp u j m o=>?_;subst o;rcases lB (λi=>W7 (i*j,j)) (((h.mono q).mono s).mono m) (g.vs c p)with e|⟨y,C,e,l,k⟩;{simp only[e];exact ab.stuck};simp only[e,l];exact ab.pure (.tn k)|_=>exact ab.stuck
theorem ak.range{x x':Array Xc}(h:ak c r x x')(n:Nat):ak c r ((Array.range n).map (x[·%x.size]!)) ((Array.range n).map (x'[·%x'.size]!)):=by refine ak.map _ _ _ λi _=>?_;rw[<-h.size];rw[XB,XB];exact h.getD _ (by exact .bool W4)
theorem tg(E:∀e,P.underlying t=W7 (.slice e)->jI P e=W9){x x':Array (Nat×Xc)}(h:A7 c r x x'):ab P c r (Instr.buildSlice t n x) (Instr.buildSlice t n x') (ai c):=by unfold Instr.buildSlice;refine ab.bind (ab.eZ (aY t)) λH d B u s=>?_;obtain⟨rfl,s⟩:=s;cases B with|slice l=>refine ab.bind (ab.cG (bB l)) λI m j v D=>?_;subst D;refine ab.ite (λ_ _ _ _=>rfl) λ_=>?_;refine ab.ite (λ_=>?_) λ_=>?_;{refine ab.bind (Q:=λ_ a b=>b=a/\∀r,ak c r a a) (ab.pure ⟨rfl,λ_=>.empty⟩) λw z A p g=>?_;obtain⟨rfl,g⟩:=g;rcases lB (λi=>W7 (i*j,j)) (((h.mono u).mono v).mono p) (ak.range (g w) (n*j))with e|⟨y,G,e,o,k⟩;{simp only[e];exact ab.stuck};simp only[e,o];exact ab.bind (ab.newRow k) λ_ _ _ _ q=>ab.pure (.slice _ _ q)};refine ab.bind (ab.zero (E _ s)) λw z A p g=>?_;obtain⟨rfl,g⟩:=g;refine ab.bind (Q:=λ_ a b=>b=a/\∀r,ak c r a a) (ab.pure ⟨rfl,λr=>g.vs c r⟩) λF z A C g=>?_;obtain⟨rfl,g⟩:=g;rcases lB (λi=>W7 (i*j,j)) (((h.mono u).mono v).mono (bQ.le_trans p C)) (ak.range (g F) (n*j))with e|⟨y,G,e,o,k⟩;{simp only[e];exact ab.stuck};simp only[e,o];exact ab.bind (ab.newRow k) λ_ _ _ _ q=>ab.pure (.slice _ _ q)|_=>exact ab.stuck
theorem zY:ab P c r (Instr.makeMap t Xg) (Instr.makeMap t Xg) (ai c):=ab.bind (ab.newObj (.map 0 rfl λi e b h=>by simp at h)) λ_ _ _ _ h=>ab.pure (.map h.1)
theorem ab.mX{f:α->XN β}{y:XN γ}{Q:bQ->β->γ->Prop}:ab P c r (Go.runtimePanic e>>=f) y Q:=ab.never (gA (du e))
theorem uB(C:∀e,P.underlying t=W7 (.slice e)->jI P e=W9)(h:ai c r x x')(k:ai c r y y'):ab P c r (Instr.makeSlice t x y) (Instr.makeSlice t x' y') (ai c):=by unfold Instr.makeSlice;refine ab.bind (ab.eZ (aY t)) λN d s o m=>?_;obtain⟨rfl,m⟩:=m;cases s with|slice j=>refine ab.bind (ab.asInt (h.mono o)) λO a E u l=>?_;subst l;refine ab.bind (ab.asInt ((k.mono o).mono u)) λR b F G w=>?_;subst w;refine ab.bind (ab.cG (di j)) λS i L H A=>?_;subst A;simp only[];refine ab.ite (λ_=>?_) λ_=>?_;{refine ab.ite (λ_=>ab.mX) λ_=>?_;refine ab.ite (λ_=>ab.mX) λ_=>?_;exact ab.bind (ab.cG (iQ _)) λ_ _ _ _ _=>ab.mX};refine ab.bind (ab.cG (pF _)) λT _ _ I _=>?_;refine ab.bind (ab.cG (bB j)) λU n M J B=>?_;subst B;refine ab.ite (λ_=>?_) λ_=>?_;{refine ab.bind (Q:=λ_ a b=>b=a/\∀r,ak c r a a) (ab.pure ⟨rfl,λ_=>.empty⟩) λp z q v g=>?_;obtain⟨rfl,g⟩:=g;exact ab.bind (ab.newRow (ak.range (g p) _)) λ_ _ _ _ l=>ab.pure (.slice _ _ l)};refine ab.bind (ab.zero (C _ m)) λp z q v g=>?_;obtain⟨rfl,g⟩:=g;refine ab.bind (Q:=λ_ a b=>b=a/\∀r,ak c r a a) (ab.pure ⟨rfl,λr=>g.vs c r⟩) λD z q K g=>?_;obtain⟨rfl,g⟩:=g;exact ab.bind (ab.newRow (ak.range (g D) _)) λ_ _ _ _ l=>ab.pure (.slice _ _ l)|_=>exact ab.stuck
end
section
variable{c:ej}{r:bQ}
theorem LK(ats:Array Xv)(t:Xv){x x':Array Xc}(h:ak c r x x'):ab P c r (XJ.len_ ats t x) (XJ.len_ ats t x') (ai c):=by unfold XJ.len_;cases ats[0]? with|none=>exact ab.stuck|some s=>cases w:x[0]? with|none=>exact ab.stuck|some v=>obtain⟨D,e,k⟩:=h.get w;simp only[e];refine ab.bind (ab.cG (aG s)) λB d g i j=>?_;subst j;have k:=k.mono i;cases g with|string=>(cases k<;>first|exact ab.pure (.int _ _)|exact ab.stuck)|array n e=>exact ab.pure (.int _ _)|pointer f=>refine ab.bind (ab.cG (aG f)) λC u y z q=>?_;subst q;(cases y<;>first|exact ab.pure (.int _ _)|exact ab.stuck)|slice e=>(cases k<;>first|exact ab.pure (.int _ _)|exact ab.stuck)|map a b=>(cases k with|kR=>exact ab.pure (.int _ _)|map p=>refine ab.getObj p λo A _ m l=>?_;(cases m with|map k s _=>simp only[s];exact ab.pure (.int _ _)|cells _ _ _=>exact absurd rfl (l _ _ _)|_=>exact ab.stuck)|_=>exact ab.stuck)|chan a b=>cases k<;>exact ab.stuck|_=>exact ab.stuck
theorem ab.max2(h:ai c r x x')(k:ai c r y y'):ab P c r (XJ.max2 x y) (XJ.max2 x' y') (ai c):=by cases h with|int a b=>(cases k<;>first|exact ab.pure (.int _ _)|exact ab.stuck|exact ab.unsupported)|string a=>(cases k with|string b=>refine ab.bind (ab.flat (kF .geq a b)) λi u l f d=>?_;exact ab.bind (ab.asBool d) λj z m g e=>by subst e;exact ab.pure (.string _)|ptr _=>exact ab.unsupported|_=>exact ab.stuck)|ptr _=>exact ab.unsupported|_=>cases k<;>first|exact ab.stuck|exact ab.unsupported
theorem ab.min2(h:ai c r x x')(k:ai c r y y'):ab P c r (XJ.min2 x y) (XJ.min2 x' y') (ai c):=by cases h with|int a b=>(cases k<;>first|exact ab.pure (.int _ _)|exact ab.stuck|exact ab.unsupported)|string a=>(cases k with|string b=>refine ab.bind (ab.flat (kF .leq a b)) λi u l f d=>?_;exact ab.bind (ab.asBool d) λj z m g e=>by subst e;exact ab.pure (.string _)|ptr _=>exact ab.unsupported|_=>exact ab.stuck)|ptr _=>exact ab.unsupported|_=>cases k<;>first|exact ab.stuck|exact ab.unsupported
theorem ab.foldlM{f:Xc->Xc->XN Xc}(g:∀{r:bQ}{x x' y y':Xc},ai c r x x'->ai c r y y'->ab P c r (f x y) (f x' y') (ai c)):∀(l e:List Xc){r:bQ}{x x':Xc},ai c r x x'->ak c r l.toArray e.toArray->ab P c r (l.foldlM f x) (e.foldlM f x') (ai c)|[],[],r,x,x',h,_=>ab.pure h|[],_::_,r,x,x',h,d=>by have:=d.size;grind|_::_,[],r,x,x',h,d=>by have:=d.size;grind|y::l,y'::e,r,x,x',h,d=>by rw[WT,WT];refine ab.bind (g h (d.el 0 y y' Θ Θ)) λn z o i k=>?_;exact ab.foldlM g l e k ((⟨by have:=d.size;simp_all,λj u m a b=>d.el (j+1) u m (by grind) (by grind)⟩:ak c r l.toArray e.toArray).mono i)
theorem KV(ats:Array Xv)(t:Xv){x x':Array Xc}(h:ak c r x x'):ab P c r (XJ.max_ ats t x) (XJ.max_ ats t x') (ai c):=by obtain⟨l⟩:=x;obtain⟨d⟩:=x';unfold XJ.max_;match l,d,h with|[],[],_=>exact ab.stuck|[],_::_,h=>have:=h.size;grind|_::_,[],h=>have:=h.size;grind|y::l,f::d,h=>exact ab.foldlM ab.max2 l d (h.el 0 y f Θ Θ) ⟨by have:=h.size;simp_all,λj u e a b=>h.el (j+1) u e (by grind) (by grind)⟩
theorem K3(ats:Array Xv)(t:Xv){x x':Array Xc}(h:ak c r x x'):ab P c r (XJ.min_ ats t x) (XJ.min_ ats t x') (ai c):=by obtain⟨l⟩:=x;obtain⟨d⟩:=x';unfold XJ.min_;match l,d,h with|[],[],_=>exact ab.stuck|[],_::_,h=>have:=h.size;grind|_::_,[],h=>have:=h.size;grind|y::l,f::d,h=>exact ab.foldlM ab.min2 l d (h.el 0 y f Θ Θ) ⟨by have:=h.size;simp_all,λj u e a b=>h.el (j+1) u e (by grind) (by grind)⟩
theorem ab.lenOf(h:ai c r x x'):ab P c r (XJ.lenOf x) (XJ.lenOf x') λ_ a b=>b=a/\∀q,x=.slice (W7 q) 0 0->a=0:=by cases h<;>first|exact ab.pure ⟨rfl,λq e=>by cases e;rfl⟩|exact ab.pure ⟨rfl,λq e=>by cases e⟩|exact ab.stuck
theorem ab.vF(size:Nat)(h:ai c r x x'):ab P c r (XJ.firstCells size 0 x) (XJ.firstCells size 0 x') λ_ a b=>a=#[]/\b=#[]:=by unfold XJ.firstCells;rw[Nat.zero_mul];cases h<;>first|exact ab.pure ⟨rfl,rfl⟩|exact ab.stuck|(refine ab.pure ⟨?_,?_⟩<;>simp)
theorem ab.firstCells(size n:Nat)(h:ai c r x x')(j:∀q,x=.slice (W7 q) 0 0->n=0):ab P c r (XJ.firstCells size n x) (XJ.firstCells size n x') (ak c):=by cases h with|iC _ _=>exact ab.pure .empty|cQ a d=>obtain rfl:=j a rfl;exact(ab.vF size (.cQ a d)).mono λ_ x y _⟨e,f⟩=>by rw[e,f];exact .empty|slice _ _ g=>exact ab.loadCells g _|string s=>refine ab.pure ?_;refine⟨rfl,λi v k a b=>?_⟩;rw[a]at b;cases b;rw[VJ]at a;obtain⟨z,_,rfl⟩:=UA.1 a;exact .int _ _|_=>exact ab.stuck
theorem ak.zeroCells(h:Flat z)(n:Nat):ak c r (XJ.zeroCells z.cells n) (XJ.zeroCells z.cells n):=by unfold XJ.zeroCells;exact ak.range (h.vs c r) _
end
section
variable{c:ej}{r:bQ}
theorem ab.E0{x:XN α}{f:α->XN β}{y:XN γ}{Q:bQ->β->γ->Prop}(h:kK P x):ab P c r (x>>=f) y Q:=ab.never (gA h)
theorem lQ(a:XU)(n:Nat):gj P (XJ.holdsCells a n):=(AG _).bind λs=>by cases s<;>exact dq _
theorem uK(size sl n:Nat)(base:Option XU)(x:Xc):gj P (XJ.mayShare size sl n base x):=by(have d:∀b:Bool,gj P (if(!b)=W9 then Pure.pure W9 else match x with|.slice (W7 b) _ _=>(do Pure.pure (!(<-XJ.holdsCells b (n*size))||base.any (·.block==b.block)))|_=>Pure.pure W4):=λb=>by split;{exact dq _};split;{exact(lQ _ _).bind λ_=>dq _};exact dq _);unfold XJ.mayShare;cases base with|none=>grind|some a=>exact gj.bind (lQ _ _) λu=>gj.bind (Ab _) λv=>gj.bind (dq _) λb=>d b
theorem Bz{ats:Array Xv}(ht:∀s e,ats[0]?=W7 s->P.underlying s=W7 (.slice e)->jI P e=W9)(hn:∀s k,ats[1]?=W7 s->P.underlying s≠W7 (.int k)){x x':Array Xc}(h:ak c r x x'):ab P c r (XJ.append_ ats t x) (XJ.append_ ats t x') (ai c):=by unfold XJ.append_;cases hs:ats[0]? with|none=>exact ab.stuck|some s=>cases hx:x[0]? with|none=>exact ab.stuck|some v=>obtain⟨v',X,kv⟩:=h.get hx;simp only[X];cases hy:x[1]? with|none=>exact ab.stuck|some u=>obtain⟨u',W,A⟩:=h.get hy;simp only[W];refine ab.bind (ab.eZ (aY s)) λR d M l H=>?_;obtain⟨rfl,H⟩:=H;cases M with|slice f=>have hz:=ht s f hs H;have O:=kv.mono l;have kx:=O;cases O;(case iC|slice|cQ=>refine ab.bind (ab.cG (bB f)) λr2 T K B e=>?_;subst e;cases Z:ats[1]?;(case' some xt=>refine ab.bind (ab.eZ (aY xt)) λr0 d M Y w=>?_;obtain⟨rfl,w⟩:=w;replace B:=bQ.le_trans B Y);all_goals refine ab.bind (Q:=λ_ a b=>b=a/\a=W4) (ab.pure ⟨rfl,by first|rfl|grind⟩) λr3 zs zs' N e=>?_;obtain⟨rfl,rfl⟩:=e;refine ab.bind (ab.lenOf ((A.mono l).mono (bQ.le_trans B N))) λr4 n n' h4 e=>?_;obtain⟨rfl,E⟩:=e;have j:R.le r4:=bQ.le_trans (bQ.le_trans B N) h4;refine ab.ite (λI=>?_) λ_=>?_;{first|exact ab.bind (ab.firstCells _ _ ((A.mono l).mono j) E) λJ z V m g=>ab.pure (.iC _ _)|exact ab.bind (ab.firstCells _ _ ((A.mono l).mono j) E) λJ z V m g=>ab.bind (ab.storeCells 0 ((cZ.mono (bQ.le_trans j m) (by assumption)).add _) (by omega)) λS _ _ C _=>ab.pure (.slice _ _ (cZ.mono (bQ.le_trans j (bQ.le_trans m C)) (by assumption)))|(obtain rfl:n'=0:=by omega);refine ab.bind (ab.vF _ ((A.mono l).mono j)) λJ z V m g=>?_;obtain⟨rfl,rfl⟩:=g;exact ab.bind (Q:=λ_ _ _=>True) (ab.pure trivial) λS _ _ C _=>ab.pure (.cQ _ _)};·refine ab.bind (ab.cG (di f)) λJ i i' m e=>?_;subst e;refine ab.ite (λ_=>ab.mX) λ_=>?_;refine ab.bind (ab.cG (di f)) λS i2 i2' C e=>?_;subst e;refine ab.ite (λ_=>ab.E0 (by simp only[U5,if_false];exact dz (uK _ _ _ _ _) λ_=>by split<;>first|exact eO|exact dz (λ_ _ _ e=>by cases e) λ_=>eO)) λ_=>?_;refine ab.bind (ab.cG (iQ _)) λr7 nc nc' h7 e=>?_;subst e;refine ab.bind (ab.cG (di f)) λr8 i3 i3' h8 e=>?_;subst e;refine ab.bind (ab.cG (pF _)) λr9 _ _ h9 _=>?_;have y:R.le r9:=bQ.le_trans j (bQ.le_trans m (bQ.le_trans C (bQ.le_trans h7 (bQ.le_trans h8 h9))));refine ab.bind (ab.firstCells _ _ (kx.mono y) (λq e=>by first|rfl|(cases e;done)|grind)) λr10 o o' F ho=>?_;refine ab.bind (ab.firstCells _ _ ((A.mono l).mono (bQ.le_trans y F)) E) λr11 q q' G hq=>?_;refine ab.bind (ab.zero hz) λr12 zz zz' p g=>?_;obtain⟨rfl,g⟩:=g;exact ab.bind (ab.newRow ((((ho.mono G).mono p).append (hq.mono p)).append (ak.zeroCells g _))) λ_ _ _ _ ha=>ab.pure (.slice _ _ ha));all_goals exact ab.stuck|_=>exact ab.stuck
theorem ab.checkKey(b g:Bool)(f:fp P t=W9)(n:Nat):ab P c r (Instr.checkKey b (n+1) t x) (Instr.checkKey g (n+1) t x') λ_ _ _=>True:=by refine ab.bind (ab.eZ (aY t)) λj d h i e=>?_;obtain⟨rfl,e⟩:=e;unfold fp at f;rw[e]at f;cases h with|int k=>exact ab.pure trivial|string=>exact ab.pure trivial|bool=>exact ab.pure trivial|_=>simp at f
theorem Ae(d:TypeDesc)(h:ai c r x x')(k:ai c r y y'):Instr.sameNow d x' y'=Instr.sameNow d x y:=by cases h<;>cases k<;>first|rfl|(cases d<;>rfl)
def lO(c:ej)(r:bQ)(x x':Array X3):Prop:=x.size=x'.size/\∀(i:Nat)(e e':X3),x[i]?=W7 e->x'[i]?=W7 e'->EW c r e e'
theorem lO.mono{r r':bQ}(h:r.le r'){x x':Array X3}(k:lO c r x x'):lO c r' x x':=⟨k.1,λi e d a b=>(k.2 i e d a b).mono h⟩
def LP(c:ej)(r:bQ):Option (Nat×Xc)->Option (Nat×Xc)->Prop
 |none,Xg=>True
 |some (i,v),W7 (i',v')=>i'=i/\ai c r v v'
 |_,_=>False
theorem rf(d:TypeDesc)(h:ai c r x x'):∀(l m:List X3)(i:Nat),lO c r l.toArray m.toArray->
 match Instr.findNow d x l i with|some z=>∃p,Instr.findNow d x' m i=W7 p/\LP c r z p|none=>Instr.findNow d x' m i=Xg
 |[],[],i,_=>⟨Xg,rfl,trivial⟩
 |[],_::_,_,k=>by have:=k.1;grind
 |_::_,[],_,k=>by have:=k.1;grind
 |e::l,q::m,i,k=>by
   have o:=k.2 0 e q Θ Θ
   have n:lO c r l.toArray m.toArray:=⟨by have:=k.1;simp_all,λj u s a b=>k.2 (j+1) u s (by grind) (by grind)⟩
   unfold Instr.findNow
   rw[Ae d h o.key]
   cases Instr.sameNow d x e.key with
   |none=>rfl
   |some b=>
     cases b with
     |true=>exact⟨_,rfl,rfl,o.val⟩
     |false=>exact rf d h l m (i+1) n
theorem ab.findAsking(n:Fits P c)(p:fp P t=W9):∀(l g:List X3)(i:Nat){r:bQ}{x x':Xc},ai c r x x'->lO c r l.toArray g.toArray->ab P c r (Instr.findAsking t x l i) (Instr.findAsking t x' g i) (LP c)|[],[],i,r,x,x',h,_=>ab.pure trivial|[],_::_,_,r,x,x',h,f=>by have:=f.1;grind|_::_,[],_,r,x,x',h,f=>by have:=f.1;grind|e::l,q::g,i,r,x,x',h,f=>by have o:=f.2 0 e q Θ Θ;have m:lO c r l.toArray g.toArray:=⟨by have:=f.1;simp_all,λj u v a b=>f.2 (j+1) u v (by grind) (by grind)⟩;refine ab.bind (ab.equal n p h o.key) λy b w k s=>?_;subst s;exact ab.ite (λ_=>ab.pure ⟨rfl,o.val.mono k⟩) λ_=>ab.findAsking n p l g (i+1) (h.mono k) (m.mono k)
theorem ab.findKey(j:Fits P c)(n:fp P t=W9){l l':List X3}(h:ai c r x x')(g:lO c r l.toArray l'.toArray):ab P c r (Instr.findKey t x l) (Instr.findKey t x' l') (LP c):=by refine ab.bind (ab.cG (aG t)) λo d f b m=>?_;subst m;have:=rf f (h.mono b) l l' 0 (g.mono b);cases e:Instr.findNow f x l 0 with|none=>rw[e]at this;simp only[this];exact ab.findAsking j n l l' 0 (h.mono b) (g.mono b)|some z=>rw[e]at this;obtain⟨p,i,k⟩:=this;simp only[i];exact ab.pure k
theorem BD{ok:Bool}(O:Fits P c)(Z:∀k e,P.underlying t=W7 (.map k e)->fp P k=W9/\jI P e=W9)(h:ai c r x x')(k:ai c r y y'):ab P c r (Instr.lookup t x y ok) (Instr.lookup t x' y' ok) (ai c):=by refine ab.bind (ab.eZ (aY t)) λr1 d S F I=>?_;obtain⟨rfl,I⟩:=I;cases S with|map J q=>obtain⟨C,R⟩:=Z J q I;let B(A:bQ)(a b:Xc×Bool):Prop:=ai c A a.1 b.1/\b.2=a.2;(cases h.mono F with|kR=>refine ab.bind (Q:=λA a b=>lO c A a b) (ab.pure ⟨rfl,λi e e' a=>by simp at a⟩) λr2 T E G m=>?_;refine ab.bind (ab.checkKey _ _ C 9999) λr3 _ _ w _=>?_;refine ab.bind (ab.findKey O C (k.mono (bQ.le_trans F (bQ.le_trans G w))) (by simpa using m.mono w)) λr4 z N U p=>?_;(match z,N,p with|none,Xg,_=>refine ab.bind (ab.zero R) λK u u' V n=>?_;obtain⟨rfl,n⟩:=n;refine ab.bind (Q:=B) (ab.pure ⟨n c K,rfl⟩) λL a b H g=>?_;obtain⟨v,o⟩:=a;obtain⟨j,f⟩:=g;subst f;refine ab.pure ?_;split;{exact .kT (ak.push (ak.single j) (.bool _))};{exact j}|some (_,_),W7 (_,_),p=>refine ab.bind (Q:=B) (ab.pure ⟨p.2,rfl⟩) λL a b H g=>?_;obtain⟨v,o⟩:=a;obtain⟨j,f⟩:=g;subst f;refine ab.pure ?_;split;{exact .kT (ak.push (ak.single j) (.bool _))};·exact j)|map Y=>refine ab.getObj Y λo D _ X W=>?_;(cases X with|map kk s e=>refine ab.bind (Q:=λA a b=>lO c A a b) (ab.pure ⟨s,e⟩) λr2 T E G m=>?_;refine ab.bind (ab.checkKey _ _ C 9999) λr3 _ _ w _=>?_;refine ab.bind (ab.findKey O C (k.mono (bQ.le_trans F (bQ.le_trans G w))) (by simpa using m.mono w)) λr4 z N U p=>?_;(match z,N,p with|none,Xg,_=>refine ab.bind (ab.zero R) λK u u' V n=>?_;obtain⟨rfl,n⟩:=n;refine ab.bind (Q:=B) (ab.pure ⟨n c K,rfl⟩) λL a b H g=>?_;obtain⟨v,o⟩:=a;obtain⟨j,f⟩:=g;subst f;refine ab.pure ?_;split;{exact .kT (ak.push (ak.single j) (.bool _))};{exact j}|some (_,_),W7 (_,_),p=>refine ab.bind (Q:=B) (ab.pure ⟨p.2,rfl⟩) λL a b H g=>?_;obtain⟨v,o⟩:=a;obtain⟨j,f⟩:=g;subst f;refine ab.pure ?_;split;{exact .kT (ak.push (ak.single j) (.bool _))};·exact j)|cells _ _ _=>exact absurd rfl (W _ _ _)|_=>exactλ_ _ _=>rfl)|_=>exactλ_ _ _=>rfl)|_=>exact ab.stuck
end
section
variable{c:ej}{r:bQ}
def M1:Xc->Bool
 |.string _|.bool _=>W9
 |_=>W4
def Ba(P:Xz)(t:Xv):Bool:=match P.underlying t with|some .string|some .bool=>W9|_=>W4
theorem AK(h:Ba P t=W9):fp P t=W9:=by unfold Ba at h;unfold fp;grind
theorem v7(n:Nat)(h:ai c r x x')(k:ai c r y y')(b:M1 y=W9):Instr.sameBits n x' y'=Instr.sameBits n x y:=by cases k<;>simp[M1]at b<;>cases h<;>cases n<;>rfl
theorem ab.Fe(b:Ba P t=W9)(i:M1 x=W4)(l h:List X3)(k:lO c r l.toArray h.toArray):ab P c r (Instr.findKey t x l) (Instr.findKey t x' h) λ_ u n=>u=Xg/\n=Xg:=by unfold Ba at b;cases g:P.underlying t with|none=>rw[g]at b;simp at b|some d=>rw[g]at b;unfold Instr.findKey;refine ab.bind (ab.eZ (aY t)) λq o j p f=>?_;obtain⟨rfl,f⟩:=f;rw[g]at f;cases f;cases l with|nil=>(have:h=[]:=by have:=k.1;grind);subst this;exact ab.pure ⟨rfl,rfl⟩|cons e l=>(have m:Instr.findNow d x (e::l) 0=Xg:=by(have:Instr.sameNow d x e.key=Xg:=by cases d<;>simp at b<;>cases x<;>simp[M1]at i<;>rfl);simp[Instr.findNow,this]);simp only[m];refine ab.never ?_;unfold Instr.findAsking;refine gA ?_;show kK P (Op.equalIn (9999+1) t x e.key);unfold Op.equalIn;intro w;rw[XN.run_bind,kl g w];cases d<;>simp at b<;>cases x<;>simp[M1]at i<;>exact⟨_,_,rfl,rfl⟩
theorem uC(hc:Fits P c)(ht:∀k e,P.underlying t=W7 (.map k e)->Ba P k=W9){z':Xc}(h:ai c r x x')(k:ai c r y y')(l:ai c r z z'):ab P c r (Instr.mapUpdate t x y z) (Instr.mapUpdate t x' y' z') λ_ _ _=>True:=by unfold Instr.mapUpdate;refine ab.bind (ab.eZ (aY t)) λr1 d d' R S=>?_;obtain⟨rfl,S⟩:=S;cases d' with|map A E=>have G:=ht A E S;have hk:=AK G;(cases h.mono R with|kR=>exact ab.runtimePanic|map I=>refine ab.getObj I λo o' ns ho X=>?_;(cases ho with|map kk s e=>rename_i F m;have g:lO c r1 F m:=⟨s,e⟩;refine ab.bind (ab.checkKey _ _ hk 9999) λr2 _ _ C _=>?_;have B:=(k.mono R).mono C;(have w:ab P c r2 (Instr.findKey A y F.toList) (Instr.findKey A y' m.toList) λZ u M=>LP c Z u M/\(M1 y=W4->u=Xg):=by by_cases hy:M1 y=W4;{refine(ab.Fe G hy _ _ (by simpa using g.mono C)).mono λZ u M _ h=>?_;obtain⟨rfl,rfl⟩:=h;exact⟨trivial,λ_=>rfl⟩};exact(ab.findKey hc hk B (by simpa using g.mono C)).mono λZ u M _ h=>⟨h,λe=>absurd e hy⟩);refine ab.bind w λr3 u M N J=>?_;obtain⟨J,K⟩:=J;have B:=B.mono N;have lr:=((l.mono R).mono C).mono N;have g:=(g.mono C).mono N;have I:=N _ _ (C _ _ I);(match u,M,J,K with|none,Xg,_,_=>refine ab.setObj I ns (.map (kk+1) (by grind) λi e O a b=>?_) rfl;rw[UZ]at a b;rw[<-g.1]at b;split at a;{cases a;rw[if_pos ‹_›]at b;cases b;exact⟨B,lr,rfl⟩};{rw[if_neg ‹_›]at b;exact g.2 i e O a b}|some (i,_),W7 (v,_),J,K=>(have Y:M1 y=W9:=by simp_all);obtain⟨W,_⟩:=J;subst W;(have p:ai c r3 (((F[v]?).map (·.key)).getD y) (((m[v]?).map (·.key)).getD y'):=by cases V:F[v]? with|none=>simp_all|some Q=>(have H:v<m.size:=by grind);have:=g.2 v Q m[v] V (UG H);rw[UG H];exact this.key);(have L:ab P c r3 (Instr.keyThatStays (((F[v]?).map (·.key)).getD y) y) (Instr.keyThatStays (((m[v]?).map (·.key)).getD y') y') (ai c):=by unfold Instr.keyThatStays;rw[v7 10000 p B Y];refine ab.ite (λ_=>ab.pure B) λ_=>?_;refine ab.bind (ab.cG (iQ _)) λr4 n n' D X=>?_;subst X;refine ab.pure ?_;split;{exact B.mono D};exact p.mono D);refine ab.bind L λr4 q q' D hq=>?_;refine ab.setObj (D _ _ I) ns (.map kk (by grind) λj e O a b=>?_) rfl;rw[Vu]at a b;split at a;{rw[if_pos ‹_›]at b;obtain⟨Q,T,rfl⟩:=UA.1 a;obtain⟨e1,U,rfl⟩:=UA.1 b;exact⟨hq,lr.mono D,((g.2 j Q e1 T U).born)⟩};·rw[if_neg ‹_›]at b;exact(g.2 j e O a b).mono D)|cells _ _ _=>exact absurd rfl (X _ _ _)|_=>exactλ_ _ _=>rfl)|_=>exact ab.stuck)|_=>exact ab.stuck
theorem DK(k:P.underlying t=W7 .string)(h:ai c r x x'):ab P c r (Instr.range t x) (Instr.range t x') (ai c):=by unfold Instr.range;refine ab.bind (ab.eZ (aY t)) λv d n i f=>?_;obtain⟨rfl,f⟩:=f;rw[k]at f;cases f;cases h.mono i with|string s=>exact ab.bind (Q:=λl a b=>mQ c l a b) (ab.pure (.iter s 0)) λw o u p j=>ab.bind (ab.newObj j) λy b m q g=>ab.pure (.ptr ⟨g.1,rfl,rfl,Vn g.2⟩)|_=>exactλ_ _ _=>rfl
theorem IE(h:ai c r x x'):ab P c r (Instr.next x W9 t) (Instr.next x' W9 t) (ai c):=by unfold Instr.next;cases h with|ptr m=>rename_i a l;obtain⟨b,v,k⟩:=a;obtain⟨w,e,i⟩:=l;obtain⟨g,f,j,-⟩:=m;simp only at g f j;subst f j;(cases e with|succ n=>exact ab.stuck|zero=>refine ab.getObj g λo z u f q=>?_;cases f with|iter s p=>refine ab.ite (λ_=>?_) λ_=>ab.pure (.kT (ak.single (.bool _)));refine ab.bind (ab.setObj g u (.iter s _) rfl) λA _ _ y _=>ab.pure (.kT ?_);exact((ak.single (.bool _)).push (.int _ _)).push (.int _ _)|cells _ _ _=>exact absurd rfl (q _ _ _)|_=>exact ab.stuck)|_=>exact ab.stuck
theorem pI:∀(l l':List Xc){r:bQ},l.length=l'.length->(∀(i:Nat)(v v':Xc),l[i]?=W7 v->l'[i]?=W7 v'->ai c r v v')->∀s:ByteArray,ab P c r (forIn l s λc r=>(match c with|.int .u8 n=>Pure.pure (ForInStep.yield (r.push (UInt8.ofNat n.toNat)))|_=>(λ_:PUnit=>ForInStep.yield r)<$>stuck "bytesToString: byte expected" :XN (ForInStep ByteArray))) (forIn l' s λc r=>(match c with|.int .u8 n=>Pure.pure (ForInStep.yield (r.push (UInt8.ofNat n.toNat)))|_=>(λ_:PUnit=>ForInStep.yield r)<$>stuck "bytesToString: byte expected" :XN (ForInStep ByteArray))) λ_ x y=>x=y|[],[],_,_,_,s=>by rw[List.forIn_nil];exact ab.pure rfl|[],_::_,_,h,_,_=>by cases h|_::_,[],_,h,_,_=>by cases h|v::l,v'::l',r,h,hv,s=>by rw[List.forIn_cons,List.forIn_cons];have h0:ai c r v v':=hv 0 v v' rfl rfl;have hl:∀(i:Nat)(u u':Xc),l[i]?=W7 u->l'[i]?=W7 u'->ai c r u u':=λi u u' a b=>hv (i+1) u u' a b;refine ab.bind (Q:=λ_(x y:ForInStep ByteArray)=>x=y/\∃z,x=.yield z) ?_ λr1 x y hle e=>?_;{cases h0 with|int k n=>(cases k<;>first|exact ab.pure ⟨rfl,_,rfl⟩|exactλ_ _ _=>rfl)|_=>exactλ_ _ _=>rfl};obtain⟨rfl,z,rfl⟩:=e;exact pI l l' (by simpa using h) (λi u u' a b=>(hl i u u' a b).mono hle) z
theorem py(h:ai c r x x'):ab P c r (Conv.bytesToString x) (Conv.bytesToString x') (ai c):=by(have key:∀{a a':XU}{n:Nat}{r:bQ},ab P c r (Go.loadCells a n) (Go.loadCells a' n) (ak c)->ab P c r (Conv.bytesToString (.slice (W7 a) n 0)) (Conv.bytesToString (.slice (W7 a') n 0)) (ai c):=λ{a a' n r}h=>by unfold Conv.bytesToString;refine ab.bind h λr1 y y' hle hy=>?_;(refine ab.bind (Q:=λ_ x y=>x=y) ?_ λr2 z z' _ e=>by subst e;exact ab.pure (.string _));have:=pI (P:=P) (c:=c) y.toList y'.toList (r:=r1) (by simpa using hy.size) (λi u u' a b=>hy.el i u u' (by simpa using a) (by simpa using b)) ByteArray.empty;simp only[Array.forIn_toList]at this;exact this);cases h with|iC n m=>exact ab.pure (.string _)|slice n m h=>exact key (ab.loadCells h n)|cQ a a'=>exact key (n:=0) (ab.pure .empty)|_=>exact ab.stuck
def Hy(P:Xz)(s d:Xv):Bool:=match P.underlying s,P.underlying d with|some (.int _),W7 (.int _)|some (.int _),W7 .string|some .string,W7 .string=>W9|some (.slice e),W7 .string=>(match P.underlying e with|some (.int .u8)=>W9|_=>W4)|_,_=>W4
theorem DC{e0:Xv}(h:P.underlying e0=W7 (.int .u8))(k:ai c r x x'):ab P c r (do match<-underlying e0 with|.int .u8=>Conv.bytesToString x|.int .i32=>Conv.runesToString x|_=>stuck "Convert: a slice of what to string?") (do match<-underlying e0 with|.int .u8=>Conv.bytesToString x'|.int .i32=>Conv.runesToString x'|_=>stuck "Convert: a slice of what to string?") (ai c):=by refine ab.bind (ab.eZ (aY e0)) λo a i j e=>?_;obtain⟨rfl,e⟩:=e;rw[h]at e;cases e;exact py (k.mono j)
theorem x6{s d:Xv}(h:Hy P s d=W9)(k:ai c r x x'):ab P c r (convert s d x) (convert s d x') (ai c):=by unfold Go.convert;refine ab.bind (ab.eZ (aY s)) λo a i j e=>?_;obtain⟨rfl,e⟩:=e;refine ab.bind (ab.eZ (aY d)) λp b g l f=>?_;obtain⟨rfl,f⟩:=f;have k:=(k.mono j).mono l;unfold Hy at h;rw[e,f]at h;cases i with|int q=>(cases g with|int n=>(cases k<;>first|exact ab.pure (.int _ _)|exact ab.unsupported)|string=>(cases k<;>first|exact ab.pure (.string _)|exact ab.unsupported)|_=>simp at h)|string=>(cases g with|string=>(cases k<;>first|exact ab.pure (.string _)|exact ab.unsupported)|_=>simp at h)|slice e0=>(cases g with|string=>(have hb:P.underlying e0=W7 (.int .u8):=by simp only at h;split at h;{assumption};cases h);have gen:=λ{y y'}(k:ai c p y y')=>DC (P:=P) hb k;(cases k with|int k n=>exact ab.pure (.string _)|string s=>exact ab.pure (.string _)|bool b=>exact gen (.bool b)|gq=>exact gen .gq|ptr h=>exact gen (.ptr h)|iC n m=>exact gen (.iC n m)|slice n m h=>exact gen (.slice n m h)|cQ a a'=>exact gen (.cQ a a')|kR=>exact gen .kR|map h=>exact gen (.map h)|func h1 h2 h3 h4 h5=>exact gen (.func h1 h2 h3 h4 h5)|nilFunc=>exact gen .nilFunc|nilIface=>exact gen .nilIface|iface t h=>exact gen (.iface t h)|agg h1 h2=>exact gen (.agg h1 h2)|tuple h1 h2=>exact gen (.tuple h1 h2))|_=>simp at h)|_=>simp at h
end
section
variable{c:ej}{r:bQ}
def cu(c:ej)(gl:Nat->Bool):XI->Bool
 |.tmp _=>W9
 |.const v=>jG 100 v
 |.global g=>gl g
 |.func f=>c.fns f
def zQ(P:Xz)(t:Xv):Bool:=match P.underlying t with|some (.slice e)=>jI P e|_=>W9
def Oy(P:Xz)(t:Xv):Bool:=match P.underlying t with|some (.map k e)=>fp P k&&jI P e|_=>W9
def Nu(P:Xz)(t:Xv):Bool:=match P.underlying t with|some (.map k _)=>Ba P k|_=>W9
def Bl(P:Xz)(s:Xv)(n:Nat):Bool:=match P.underlying s with|some (.struct fs)=>(match fs[n]? with|some f=>P.cellsOf f.type !=0|none=>W9)|_=>W9
def B9(P:Xz)(t:Option Xv):Bool:=match t with|some s=>(match P.underlying s with|some (.int _)=>W4|_=>W9)|none=>W9
def Ns(P:Xz)(t:Option Xv):Bool:=match t with|some s=>zQ P s|none=>W9
def isEq:BinOp->Bool
 |.eql|.neq=>W9
 |_=>W4
def G6(P:Xz)(t:Xv):Bool:=match P.underlying t with|some .string=>W9|_=>W4
def A5(P:Xz)(c:ej)(gl:Nat->Bool)(k:Call):Bool:=
 k.args.all (cu c gl)&&match k.callee with
 |.value f=>cu c gl f
 |.builtin .len|.builtin .max|.builtin .min=>W9
 |.builtin .append=>Ns P k.argTypes[0]?&&B9 P k.argTypes[1]?
 |_=>W4
def GH(P:Xz):XI->Bool
 |.global g=>decide (g<P.globals.size)
 |_=>W4
def BK(P:Xz)(c:ej)(gl:Nat->Bool)(o:X4):Bool:=
 match o.op with
 |.load _ x=>cu c gl x||GH P x
 |.move x|.assign x|.box _ x|.nilCheck x|.unOp _ _ x|.field _ x _|.extract x _=>cu c gl x
 |.pick a b d=>cu c gl a&&cu c gl b&&cu c gl d
 |.alloc e=>jI P e
 |.build t ps=>jI P t&&ps.all λp=>cu c gl p.2
 |.buildSlice t _ ps=>zQ P t&&ps.all λp=>cu c gl p.2
 |.store _ a x|.indexAddr _ a x|.index _ a x=>cu c gl a&&cu c gl x
 |.binOp op t x y _=>cu c gl x&&cu c gl y&&(!isEq op||fp P t)
 |.convert s d x=>Hy P s d&&cu c gl x
 |.makeFunc fn first captured=>IK c fn&&first.all (cu c gl)&&captured.all (cu c gl)
 |.makeMap _ Xg=>W9
 |.makeSlice t l k=>zQ P t&&cu c gl l&&cu c gl k
 |.slice _ x lo hi mx=>cu c gl x&&lo.all (cu c gl)&&hi.all (cu c gl)&&mx.all (cu c gl)
 |.fieldAddr s x n=>Bl P s n&&cu c gl x
 |.lookup t x i _=>Oy P t&&cu c gl x&&cu c gl i
 |.mapUpdate t m k v=>Nu P t&&cu c gl m&&cu c gl k&&cu c gl v
 |.range t x=>G6 P t&&cu c gl x
 |.next it W9=>cu c gl it
 |.call k=>A5 P c gl k
 |_=>W4
inductive wu(c:ej)(r:bQ):Next->Next->Prop
 |value{v v':Xc}:ai c r v v'->wu c r (.value v) (.value v')
 |skip:wu c r .skip .skip
 |enter{f:XC}{x x':Array Xc}:c.fns f=W9->ak c r x x'->wu c r (.enter f x) (.enter f x')
def CF(P:Xz)(c:ej):Prop:=
 ∀(f:XC)(fn:Func),c.fns f=W9->P.funcs[f]?=W7 fn->(fn.name== "runtime.NumGoroutine")=W4/\(fn.body=Xg->Extern.findNext fn=Xg/\∃e,Extern.find fn=W7 e/\
   ∀(r:bQ)(x x':Array Xc),ak c r x x'->ab P c r (e x) (e x') (ai c))
theorem ab.value{x:XN Xc}{y:XN Xc}(h:ab P c r x y (ai c)):ab P c r (do Pure.pure (Next.value (<-x))) (do Pure.pure (Next.value (<-y))) (wu c):=ab.bind h λ_ _ _ _ k=>ab.pure (.value k)
theorem ab.unit{x:XN Unit}{y:XN Unit}(h:ab P c r x y λ_ _ _=>True):ab P c r (do x;Pure.pure Next.skip) (do y;Pure.pure Next.skip) (wu c):=ab.bind h λ_ _ _ _ _=>ab.pure .skip
theorem ab.BC(f:XC):ab P c r (mark (.extern f)) (mark (.extern f)) λ_ _ _=>True:=by intro w v b;refine⟨(),v,r,rfl,.refl b,trivial,λe a=>?_⟩;simp at a;subst a;exact .inr (.inr ⟨f,rfl⟩)
theorem xj(l:CF P c)(i:c.fns f=W9){x x':Array Xc}(h:ak c r x x'):ab P c r (callFunc f x) (callFunc f x') (wu c):=by refine ab.bind (ab.eZ bX) λw p u g m=>?_;obtain⟨rfl,rfl⟩:=m;cases a:u.funcs[f]? with|none=>exact ab.stuck|some d=>obtain⟨s,t⟩:=l f d i a;simp only[a,s,U5];cases k:d.body with|some b=>exact ab.pure (.enter i (h.mono g))|none=>obtain⟨n,e,o,q⟩:=t k;simp only[n,o];exact ab.bind (ab.BC f) λv _ _ j _=>ab.value (q v x x' ((h.mono g).mono j))
theorem w8(a:∀x,cu c gl x=W9->ai c r (ev x) (ev' x)){l:Array XI}(h:l.all (cu c gl)=W9):ak c r (l.map ev) (l.map ev'):=ak.map l ev ev' λx b=>a x (by rw[Wo]at h;grind)
theorem vP(a:∀x,cu c gl x=W9->ai c r (ev x) (ev' x)){l:Array (Nat×XI)}(h:(l.all λp=>cu c gl p.2)=W9):A7 c r (l.map λ(i,x)=>(i,ev x)) (l.map λ(i,x)=>(i,ev' x)):=by refine⟨?_,?_⟩;{simp};(have e:∀g:XI->Xc,((l.map λp=>(p.1,g p.2)).toList.map (·.2)).toArray=l.map λp=>g p.2:=by grind);rw[e ev,e ev'];refine ak.map l _ _ λp b=>a p.2 ?_;rw[Wo]at h;grind
theorem xe(a:∀x,cu c gl x=W9->ai c r (ev x) (ev' x)):∀{x:Option XI},x.all (cu c gl)=W9->kq c r (x.map ev) (x.map ev')|none,_=>trivial|some x,h=>a x (by grind)
theorem wm(o:X4)(y:XI)(ev ev':XI->Xc)(l:o.op=.nilCheck y)(e:ev y=x)(i:ev' y=x')(h:ai c r x x'):ab P c r (Xm ev o) (Xm ev' o) (wu c):=by unfold Xm;rw[l];simp only[e,i];cases h with|gq=>exact ab.runtimePanic|nilIface=>exact ab.runtimePanic|nilFunc=>exact ab.runtimePanic|bool b=>exact ab.pure (.value (.bool b))|int k n=>exact ab.pure (.value (.int k n))|string s=>exact ab.pure (.value (.string s))|ptr a=>exact ab.pure (.value (.ptr a))|iC n m=>exact ab.pure (.value (.iC n m))|slice n m a=>exact ab.pure (.value (.slice n m a))|cQ a f=>exact ab.pure (.value (.cQ a f))|kR=>exact ab.pure (.value .kR)|map a=>exact ab.pure (.value (.map a))|@func j z B u A d p q v w=>(cases j with|func g=>exact ab.pure (.value (.func d p q v w))|_=>simp[IK]at d)|iface t a=>exact ab.pure (.value (.iface t a))|agg a b=>exact ab.pure (.value (.agg a b))|tuple a b=>exact ab.pure (.value (.tuple a b))
theorem lZ(h:zQ P t=W9):∀e,P.underlying t=W7 (.slice e)->jI P e=W9:=λe a=>by unfold zQ at h;simp_all
theorem EX(h:Nu P t=W9):∀k e,P.underlying t=W7 (.map k e)->Ba P k=W9:=λk e a=>by unfold Nu at h;simp_all
theorem Gs(h:Oy P t=W9):∀k e,P.underlying t=W7 (.map k e)->fp P k=W9/\jI P e=W9:=λk e a=>by unfold Oy at h;simp_all
theorem uR(h:Bl P t n=W9):∀fs f,P.underlying t=W7 (.struct fs)->fs[n]?=W7 f->P.cellsOf f.type≠0:=λfs f a b=>by unfold Bl at h;simp_all
theorem Iq(N:Fits P c)(K:CF P c){k:Call}(t:Xv)(i:A5 P c gl k=W9)(B:∀x,cu c gl x=W9->ai c r (ev x) (ev' x)):ab P c r (do let d<-resolve ev k t;invoke d.target d.args) (do let d<-resolve ev' k t;invoke d.target d.args) (wu c):=by unfold A5 at i;simp only[Uy]at i;obtain⟨I,i⟩:=i;have h:=w8 B I;obtain⟨l,m,A⟩:=k;unfold resolve;cases l with|invoke x n=>simp at i|value f=>have E:=B f i;simp only[];generalize ev f=q at E;generalize ev' f=O at E;(cases E with|@func J z R u M a b d e g=>(cases J with|func j=>refine ab.bind (Q:=λG x y=>x.target=.fn (.func j) u/\y.target=.fn (.func j) M/\ak c G x.args y.args) (ab.pure ⟨rfl,rfl,(ak.mk b d).append h⟩) λL x y H p=>?_;obtain⟨C,D,v⟩:=p;rw[C,D];exact xj K (by assumption) (v.append ((ak.mk e g).mono H))|_=>simp[IK]at a)|nilFunc=>exact ab.never (λw=>du RuntimeError.nilDeref w)|_=>exactλ_ _ _=>rfl)|builtin b=>refine ab.bind (Q:=λG x y=>x.target=.builtin b A t (m.map λ|.const _=>W9|_=>W4)/\y.target=.builtin b A t (m.map λ|.const _=>W9|_=>W4)/\ak c G x.args y.args) (ab.pure ⟨rfl,rfl,h⟩) λL x y H p=>?_;obtain⟨C,D,v⟩:=p;rw[C,D];cases b with|len=>exact ab.value (LK _ _ v)|max=>exact ab.value (KV _ _ v)|min=>exact ab.value (K3 _ _ v)|append=>simp only[Uy]at i;refine ab.value (Bz (λs e F o=>?_) (λs k F o=>?_) v);{have:=i.1;rw[F]at this;exact lZ this e o};have:=i.2;rw[F]at this;simp[B9,o]at this|_=>simp at i
theorem zP(w:Fits P c)(H:CF P c){o:X4}(j:BK P c gl o=W9)(f:∀x,cu c gl x=W9->ai c r (ev x) (ev' x))(z:∀g,ev (.global g)=ϖ g/\ev' (.global g)=ϖ g):ab P c r (Xm ev o) (Xm ev' o) (wu c):=by unfold BK at j;obtain⟨E,D,O,K,A,guard⟩:=o;cases D with|move x=>exact ab.pure (.value (f x j))|assign x=>exact ab.pure (.value (f x j))|pick a b d=>simp only[Uy]at j;refine ab.bind (ab.asBool (f a j.1.1)) λM u V C I=>?_;subst I;refine ab.pure (.value ?_);split;{exact(f b j.1.2).mono C};exact(f d j.2).mono C|alloc e=>exact ab.value (AU j)|box e x=>exact ab.value (Lv e (f x j))|build t L=>simp only[Uy]at j;exact ab.value (Ei j.1 (vP f j.2))|buildSlice t n L=>simp only[Uy]at j;exact ab.value (tg (lZ j.1) (vP f j.2))|load t a=>rcases Vr ..▸j with j|j;{exact ab.value (AB t (f a j))};(cases a with|global g=>refine ab.value ?_;rw[(z g).1,(z g).2];exact ab.bind (Q:=λ_ a b=>a=⟨g,0,Xg⟩/\b=⟨g,0,Xg⟩) (ab.pure ⟨rfl,rfl⟩) λM a b C⟨F,G⟩=>by subst F G;exact ab.Hl w (by rw[w.aP];simpa[GH]using j) t|_=>simp[GH]at j)|store t a x=>simp only[Uy]at j;exact ab.unit (yD t (f a j.1) (f x j.2))|nilCheck x=>exact wm _ x ev ev' rfl rfl rfl (f x j)|binOp D t x y u=>simp only[Uy,Vr,Bool.not_eq_true']at j;exact ab.value (Dx w (λe=>by rcases j.2 with h|h;{rcases e with rfl|rfl<;>simp[isEq]at h};exact h) (f x j.1.1) (f y j.1.2))|unOp D t x=>exact ab.value (DG (f x j))|convert s d x=>simp only[Uy]at j;exact ab.value (x6 j.1 (f x j.2))|makeFunc R B q=>simp only[Uy]at j;exact ab.value (wy j.1.1 (w8 f j.1.2) (w8 f j.2))|makeMap t N=>(cases N with|none=>exact ab.value zY|some _=>simp at j)|makeSlice t l k=>simp only[Uy]at j;exact ab.value (uB (lZ j.1.1) (f l j.1.2) (f k j.2))|slice t x T S U=>simp only[Uy]at j;exact ab.value (xQ t (f x j.1.1.1) (xe f j.1.1.2) (xe f j.1.2) (xe f j.2))|fieldAddr s x n=>simp only[Uy]at j;exact ab.value (xW s n (uR j.1) (f x j.2))|field t x n=>exact ab.value (DN t n (f x j))|indexAddr t x i=>simp only[Uy]at j;exact ab.value (yC t (f x j.1) (f i j.2))|index t x i=>simp only[Uy]at j;exact ab.value (Em t (f x j.1) (f i j.2))|lookup t x i b=>simp only[Uy]at j;exact ab.value (BD w (Gs j.1.1) (f x j.1.2) (f i j.2))|mapUpdate t m k v=>simp only[Uy]at j;exact ab.unit (uC w (EX j.1.1.1) (f m j.1.1.2) (f k j.1.2) (f v j.2))|range t x=>simp only[Uy]at j;refine ab.value (DK ?_ (f x j.2));have:=j.1;unfold G6 at this;grind|next J b=>(cases b with|true=>exact ab.value (IE (f J j))|false=>simp at j)|extract x n=>exact ab.value (yJ n (f x j))|call k=>exact Iq w H O j f|_=>simp at j
end
section
variable{c:ej}{r:bQ}
def codeOk(P:Xz)(c:ej)(gl:Nat->Bool):X5->Bool
 |.skip|.exit _|.label _|.ret|.refuse _=>W9
 |.region _ ops _=>ops.all (BK P c gl)
 |.seq a b=>codeOk P c gl a&&codeOk P c gl b
 |.cond x a b=>cu c gl x&&codeOk P c gl a&&codeOk P c gl b
 |.block _ a|.loop a|.scope a=>codeOk P c gl a
 |_=>W4
def opAt(P:Xz)(c:ej)(gl:Nat->Bool)(ops:Array X4)(i:Nat):Bool:=match ops[i]? with|some o=>BK P c gl o|none=>W9
theorem Hf{c:ej}(h:ops.all (BK P c gl)=W9)(l:List Nat):l.all (opAt P c gl ops)=W9:=by rw[U2];intro i _;unfold opAt;grind
theorem vJ{c:ej}{o:X4}(h:(i::rest).all (opAt P c gl ops)=W9)(a:ops[i]?=W7 o):BK P c gl o=W9:=by simp only[Vy,Uy]at h;have:=h.1;unfold opAt at this;simp_all
theorem vg{c:ej}(h:(i::rest).all (opAt P c gl ops)=W9):rest.all (opAt P c gl ops)=W9:=by simp_all
def bJ(P:Xz)(c:ej)(gl:Nat->Bool):XT->Bool
 |.code a|.inLoop a|.inScope a=>codeOk P c gl a
 |.inBlock _=>W9
 |.inRegion ops l=>l.all (opAt P c gl ops)
 |_=>W4
def eC(f:XC)(t:Array Xc)(k:List XT)(m:FrameMode):Xu:={fn:=f,tmps:=t,todo:=k,defers:=[],mode:=m,kind:=.normal,roundOf:=Xg}
def md(ret:Bool):FrameMode:=if ret then .returning else .run
structure fV where
 f:XC
 t:Array Xc
 k:List XT
 ret:Bool
 st:List (XC×Array Xc×List XT)
def up(x:XC×Array Xc×List XT):Xu:=eC x.1 x.2.1 x.2.2 .run
def fV.g(s:fV)(base:List Xu):Xh:=Go.Conc.G (eC s.f s.t s.k (md s.ret)) (s.st.map up++base)
structure EK(P:Xz)(c:ej)(gl:Nat->Bool)(s:fV):Prop where
 fn:True
 items:s.k.all (bJ P c gl)=W9
 below:∀x∈s.st,True/\x.2.2.all (bJ P c gl)=W9/\∃ops i rest k,x.2.2=.inRegion ops (i::rest)::k
inductive kP(c:ej)(r:bQ):List (XC×Array Xc×List XT)->List (XC×Array Xc×List XT)->Prop
 |nil:kP c r [] []
 |cons{f:XC}{t t':Array Xc}{k:List XT}{l l':List (XC×Array Xc×List XT)}:ak c r t t'->kP c r l l'->kP c r ((f,t,k)::l) ((f,t',k)::l')
structure uI(c:ej)(r:bQ)(s s':fV):Prop where
 f:s'.f=s.f
 t:ak c r s.t s'.t
 k:s'.k=s.k
 ret:s'.ret=s.ret
 st:kP c r s.st s'.st
theorem kP.mono{r r':bQ}(h:r.le r'){l l':List (XC×Array Xc×List XT)}(k:kP c r l l'):kP c r' l l':=by induction k with|nil=>exact .nil|cons a _ b=>exact .cons (a.mono h) b
structure Listed(P:Xz)(c:ej)(gl:Nat->Bool):Prop where
 aP:Fits P c
 rm:∀g,gl g=W9->c.low g=0
 ext:CF P c
 body:∀(f:XC)(fn:Func),c.fns f=W9->P.funcs[f]?=W7 fn->∃b,(fn.body=Xg\/(fn.body=W7 b/\codeOk P c gl b=W9))
def fD:Xu:={fn:=0,tmps:=#[],todo:=[],defers:=[{target:=.builtin .make #[] 0 #[],args:=#[]}],mode:=.run,kind:=.normal}
def Q7(s:GStep):Prop:=(∃o w,s.bare=.ended o w)\/∃(f:XC)(t:Array Xc)(k:List XT)(ch:List PanicEntry)(st:List (XC×Array Xc×List XT))(w:Xf)(es:Array XV),
 s=.go (Go.Conc.G (eC f t k (.panicking ch)) (st.map up++[fD])) w es/\(∀d w r sv,k.head?≠W7 (.call d w r sv))/\∀x∈st,∃ops i rest k',x.2.2=.inRegion ops (i::rest)::k'
theorem sD{t:Array Xc}(e:ak c r t t')(d:∀g,gl g=W9->r g=W7 g)(b:∀g,gl g=W9->c.low g=0){k:List XT}{m:FrameMode}(x:XI)(h:cu c gl x=W9):ai c r ((eC f t k m).eval x) ((eC f t' k m).eval x):=by cases x with|tmp i=>exact e.getD i gK|const v=>exact iF h c r|global g=>exact .ptr ⟨d g h,rfl,rfl,Vn (b g h)⟩|func j=>exact .func (by assumption) rfl (λi v l a=>by simp at a) rfl (λi v l a=>by simp at a)
theorem qY{t:Array Xc}(a:ak c r t t')(ops:Array X4)(j:Nat):Xy ops t' j=Xy ops t j:=by unfold Xy;cases(ops[j]?).bind (·.dst)with|none=>rfl|some d=>simp only[VX];cases b:t[d]? with|none=>rw[a.none b]|some v=>obtain⟨f,e,k⟩:=a.get b;rw[e];cases k<;>rfl
theorem OD{t:Array Xc}{k:List XT}(v:Xc):(eC f t (.inRegion ops (i::rest)::k) .run).finish v=eC f (match(ops[i]?).bind (·.dst)with|some d=>t.setIfInBounds d v|none=>t) (.inRegion ops rest::k) .run:=rfl
theorem pP{t:Array Xc}(a:ak c r t t')(d:Option Tmp){v:Xc}(b:ai c r v v'):ak c r (match d with|some d=>t.setIfInBounds d v|none=>t) (match d with|some d=>t'.setIfInBounds d v'|none=>t'):=by cases d with|none=>exact a|some d=>exact a.set d b
end
end Go.ab
namespace Go.ab
open Go.Conc
variable{P:Xz}{c:ej}{r r':bQ}{gl:Nat->Bool}{w v v' w2 w' v1:Xf}{main u:Bool}{bs cs:List Xu}{f j f0:XC}{t t' args t0 x':Array Xc}{k k0:List XT}{st st':List (XC×Array Xc×List XT)}{id i b n g:Nat}{x a:X5}{ops:Array X4}{rest:List Nat}{o:X4}{h:Halt}{fn:Func}{α:Type}{s s' s1 s2:fV}{p:fV×Xf}{es:Array XV}{fr' caller:Xu}{Good:Xc->Xf->Prop}{own RO:Nat->Prop}{CU:Nat->Nat->Prop}{Stop:(Nat->Prop)->Xh->Xf->Prop}{R:Ending->Xf->Prop}{fns:XC->Bool}
section
def Um(P:Xz)(c:ej)(r:bQ)(main:Bool)(base:List Xu)(w v:Xf)(s':fV)(s1:fV)(w1:Xf):Prop:=
 ∃s1' v1 r1 es,Xp P main (s'.g base) v=.go (s1'.g base) v1 es/\Ext c r w v r1 w1 v1/\uI c r1 s1 s1'/\∀e∈es,tc c r1 e
def Stp(P:Xz)(c:ej)(gl:Nat->Bool)(r:bQ)(main:Bool)(base:List Xu)(w v:Xf)(s s':fV):Prop:=
 (∃s1 w1 es1,Xp P W9 (s.g [fD]) w=.go (s1.g [fD]) w1 es1/\EK P c gl s1/\Um P c r main base w v s' s1 w1)\/Q7 (Xp P W9 (s.g [fD]) w)
theorem fV.vx(f:XC)(t:Array Xc)(k:List XT)(a:List (XC×Array Xc×List XT))(bs:List Xu):(fV.mk f t k W4 a).g bs=G (eC f t k .run) (a.map up++bs):=rfl
theorem Stp.ctl{k1:List XT}{ret1:Bool}(l:ef c r w v)(j:ak c r t t')(a:kP c r st st')(b:EK P c gl ⟨f,t,k,W4,st⟩)(i:k1.all (bJ P c gl)=W9)(h:∀(main:Bool)(cs:List Xu)(w:Xf),Xp P main (G (eC f t k .run) cs) w=.go (G (eC f t k1 (md ret1)) cs) w #[])(d:∀(main:Bool)(cs:List Xu)(w:Xf),Xp P main (G (eC f t' k .run) cs) w=.go (G (eC f t' k1 (md ret1)) cs) w #[]):Stp P c gl r main bs w v ⟨f,t,k,W4,st⟩ ⟨f,t',k,W4,st'⟩:=.inl ⟨⟨f,t,k1,ret1,st⟩,w,#[],h _ _ _,⟨b.fn,i,b.below⟩,⟨f,t',k1,ret1,st'⟩,v,r,#[],d _ _ _,.refl l,⟨rfl,j,rfl,rfl,a⟩,λe g=>by simp at g⟩
theorem oa{q:XT->Bool}:∀{k k':List XT},exitTo id k=W7 k'->k.all q=W9->k'.all q=W9|[],_,h,_=>by simp[exitTo]at h|x::k,k',h,b=>by simp only[Vy,Uy]at b;unfold exitTo at h;split at h;{rename_i d f e;cases e;split at h;{simp_all};exact oa h b.2};{rename_i e;cases e;exact oa h b.2};simp_all
theorem sP:Xp P main (G (eC f t (.code .ret::k) .run) cs) w=.go (G (eC f t (.code .ret::k) .returning) cs) w #[]:=by rfl
theorem mb:Xp P main (G (eC f t (.inScope x::k) .run) cs) w=.go (G (eC f t k .run) cs) w #[]:=by rfl
theorem pN:Xp P main (G (eC f t (.code (.scope x)::k) .run) cs) w=.go (G (eC f t (.code x::.inScope x::k) .run) cs) w #[]:=by rfl
theorem lU(h:exitTo id k=Xg):Xp P main (G (eC f t (.code (.exit id)::k) .run) cs) w=.ended (.stuck "exit, goto: no such block or label" ((eC f t (.code (.exit id)::k) .run).pos P)) w #[]:=by simp only[G,Xp,Xp.exec,eC,h,Option.elim,U5,if_false]
theorem mH:Xp P main (G (eC f t (.code (.region id ops W9)::k) .run) cs) w=match(choose (.order f id)).run P w with|.ok b w=>.go (G (eC f t (.inRegion ops (Region.schedule (P.follows .mixedOrders) ops b)::k) .run) cs) w #[]|.halt _ w=>.ended (.stuck "order" ((eC f t (.code (.region id ops W9)::k) .run).pos P)) w:=by rfl
theorem stepG_unwanted(h:((ops[i]?).map (Region.wanted · (Xy ops t))).getD W4=W4):Xp P main (G (eC f t (.inRegion ops (i::rest)::k) .run) cs) w=.go (G ((eC f t (.inRegion ops (i::rest)::k) .run).finish XA) cs) w #[]:=by simp only[G,Xp,Xp.exec,eC,h,U5,if_false]
section op
variable{w1:Xf}
abbrev ry(f:XC)(t:Array Xc)(ops:Array X4)(i:Nat)(rest:List Nat)(k:List XT):Xu:=eC f t (.inRegion ops (i::rest)::k) .run
theorem lx{v:Xc}(d:ops[i]?=W7 o)(e:Region.wanted o (Xy ops t)=W9)(b:(Xm (ry f t ops i rest k).eval o).run P w=.ok (.value v) w1):Xp P main (G (ry f t ops i rest k) cs) w=.go (G ((ry f t ops i rest k).finish v) cs) w1 (seen P f ((Xm (ry f t ops i rest k).eval o).events P w #[])):=by simp only[eC]at b;simp[G,Xp,Xp.exec,Xp.oper,Xp.apply,Xu.oper?,eC,d,e,b,GStep.after]
theorem mM(d:ops[i]?=W7 o)(e:Region.wanted o (Xy ops t)=W9)(b:(Xm (ry f t ops i rest k).eval o).run P w=.ok .skip w1):Xp P main (G (ry f t ops i rest k) cs) w=.go (G ((ry f t ops i rest k).finish XA) cs) w1 (seen P f ((Xm (ry f t ops i rest k).eval o).events P w #[])):=by simp only[eC]at b;simp[G,Xp,Xp.exec,Xp.oper,Xp.apply,Xu.oper?,eC,d,e,b,GStep.after]
theorem lA(d:ops[i]?=W7 o)(e:Region.wanted o (Xy ops t)=W9)(b:(Xm (ry f t ops i rest k).eval o).run P w=.ok (.enter j args) w1):Xp P main (G (ry f t ops i rest k) cs) w=.go (G (Xu.enter P j args .normal) (ry f t ops i rest k::cs)) w1 (seen P f ((Xm (ry f t ops i rest k).eval o).events P w #[])):=by simp only[eC]at b;simp[G,Xp,Xp.exec,Xp.oper,Xp.apply,Xu.oper?,eC,d,e,b,GStep.after]
theorem pM{v:Xc}(e:ops[i]?=W7 o)(g:Region.wanted o (Xy ops t)=W9)(d:(Xm (ry f t ops i rest k).eval o).run P w=.halt (.panic v) w1):Xp P main (G (ry f t ops i rest k) cs) w=.go (G (eC f t (.inRegion ops (i::rest)::k) (.panicking [{v,recovered:=W4}])) cs) w1 (seen P f ((Xm (ry f t ops i rest k).eval o).events P w #[])):=by simp only[eC]at d;simp[G,Xp,Xp.exec,Xp.oper,Xp.apply,Xu.oper?,eC,e,g,d,GStep.after,Xu.raise]
theorem qL(e:ops[i]?=W7 o)(j:Region.wanted o (Xy ops t)=W9)(b:(Xm (ry f t ops i rest k).eval o).run P w=.halt h w1)(d:AH h=W9)(l:∀v,h≠.panic v):∃x w2,(Xp P main (G (ry f t ops i rest k) cs) w).bare=.ended x w2:=by simp only[eC]at b;cases h with|panic v=>simp_all|stuck s=>simp[G,Xp,Xp.exec,Xp.oper,Xp.apply,Xu.oper?,eC,e,j,b]|unsupported u=>(cases u with|initOrder g=>simp[AH]at d|_=>simp[G,Xp,Xp.exec,Xp.oper,Xp.apply,Xu.oper?,eC,e,j,b])|_=>simp[AH]at d
end op
theorem EK.yx(b:EK P c gl ⟨f,t,.inRegion ops (i::rest)::k,W4,st⟩):(i::rest).all (opAt P c gl ops)=W9/\k.all (bJ P c gl)=W9:=by have:=b.items;simp only[Vy,Uy]at this;exact this
theorem il(args:Array Xc)(a:P.funcs[f]?=W7 fn):Xu.enter P f args .normal=eC f (args++Array.replicate (fn.ntmps-args.size) XA) [.code (fn.body.getD (.refuse "unsupported: a function without a Go body is entered"))] .run:=by simp[Xu.enter,eC,a]
theorem tY(args:Array Xc)(a:P.funcs[f]?=Xg):Xu.enter P f args .normal=eC f (args++Array.replicate (0-args.size) XA) [.code (.refuse "unsupported: a function without a Go body is entered")] .run:=by simp[Xu.enter,eC,a]
theorem zk(g:Listed P c gl)(f:c.fns j=W9)(x d:Array Xc):∃n b,(Xu.enter P j x .normal=eC j (x++Array.replicate (n-x.size) XA) [.code b] .run/\Xu.enter P j d .normal=eC j (d++Array.replicate (n-d.size) XA) [.code b] .run)/\codeOk P c gl b=W9:=by cases a:P.funcs[j]? with|none=>exact⟨0,_,⟨tY x a,tY d a⟩,rfl⟩|some e=>refine⟨e.ntmps,_,⟨il x a,il d a⟩,?_⟩;obtain⟨b,h|⟨h,i⟩⟩:=g.body j e f a;{rw[h];rfl};simp_all
theorem JE(I:Listed P c gl)(V:∀g,gl g=W9->r g=W7 g)(Y:ef c r w v)(E:ak c r t t')(D:kP c r st st')(A:EK P c gl ⟨f,t,.inRegion ops (i::rest)::k,W4,st⟩)(z:ops[i]?=W7 o)(a:Region.wanted o (Xy ops t)=W9):Stp P c gl r main bs w v ⟨f,t,.inRegion ops (i::rest)::k,W4,st⟩ ⟨f,t',.inRegion ops (i::rest)::k,W4,st'⟩:=by obtain⟨p,R⟩:=A.yx;have M:=vJ p z;have m:=zP I.aP I.ext M (ev:=(ry f t ops i rest k).eval) (λx q=>sD E V I.rm x q) (λ_=>⟨rfl,rfl⟩) w v Y;(have l:Region.wanted o (Xy ops t')=W9:=by rw[funext λj=>qY E ops j];exact a);unfold Stp;rw[fV.vx];cases q:(Xm (ry f t ops i rest k).eval o).run P w with|halt h H=>rw[q]at m;refine .inr ?_;by_cases S:∃u,h=.panic u;{obtain⟨u,rfl⟩:=S;rw[pM z a q];refine .inr ⟨f,t,_,_,st,H,_,rfl,λd w r sv=>by simp,λx q=>(A.below x q).2.2⟩};obtain⟨x,w2,e⟩:=qL z a q m (λu e=>S ⟨u,e⟩);exact .inl ⟨x,w2,e⟩|ok n H=>rw[q]at m;obtain⟨n',O,J,L,B,q1,Z⟩:=m;have C:∀e∈seen P f ((Xm (ry f t' ops i rest k).eval o).events P v #[]),tc c J e:=λe U=>Z e (mem_seen U);refine .inl ?_;cases q1 with|@value u u' X=>refine⟨⟨f,_,.inRegion ops rest::k,W4,st⟩,H,seen P f ((Xm (ry f t ops i rest k).eval o).events P w #[]),(lx z a q).trans ?_,⟨A.fn,?_,A.below⟩,⟨f,_,.inRegion ops rest::k,W4,st'⟩,O,J,_,(lx z l L).trans ?_,B,⟨rfl,pP (E.mono B.le) ((ops[i]?).bind (·.dst)) X,rfl,rfl,D.mono B.le⟩,C⟩;{rfl};{simp only[Vy,bJ,R,vg p,Bool.and_self]};rfl|skip=>refine⟨⟨f,_,.inRegion ops rest::k,W4,st⟩,H,seen P f ((Xm (ry f t ops i rest k).eval o).events P w #[]),(mM z a q).trans ?_,⟨A.fn,?_,A.below⟩,⟨f,_,.inRegion ops rest::k,W4,st'⟩,O,J,_,(mM z l L).trans ?_,B,⟨rfl,pP (E.mono B.le) ((ops[i]?).bind (·.dst)) gK,rfl,rfl,D.mono B.le⟩,C⟩;{rfl};{simp only[Vy,bJ,R,vg p,Bool.and_self]};rfl|@enter j x K W F=>obtain⟨n,b,Q,T⟩:=zk I W x K;refine⟨⟨j,x++Array.replicate (n-x.size) XA,[.code b],W4,(f,t,.inRegion ops (i::rest)::k)::st⟩,H,seen P f ((Xm (ry f t ops i rest k).eval o).events P w #[]),(lA z a q).trans ?_,⟨trivial,?_,?_⟩,⟨j,K++Array.replicate (n-K.size) XA,[.code b],W4,(f,t',.inRegion ops (i::rest)::k)::st'⟩,O,J,_,(lA z l L).trans ?_,B,⟨rfl,?_,rfl,rfl,.cons (E.mono B.le) (D.mono B.le)⟩,C⟩;{rw[Q.1];rfl};{simp[bJ,T]};{intro y N;rcases UC.1 N with rfl|N;{exact⟨A.fn,A.items,ops,i,rest,k,rfl⟩};exact A.below y N};{rw[Q.2];rfl};rw[F.size.symm];exact F.append (.replicate _ gK)
end
section
theorem ab.Ag{f f':α->XN Xc}:∀(l:List α){r:bQ}{x x':Array Xc},ak c r x x'->(∀a b,r.le b->ab P c b (f a) (f' a) (ai c))->ab P c r (l.foldlM (λbs a=>Functor.map bs.push (f a)) x) (l.foldlM (λbs a=>bs.push<$>f' a) x') (ak c)|[],_,_,_,h,_=>ab.pure h|a::l,r,x,x',h,e=>by simp only[WT];refine ab.bind (Q:=ak c) ?_ λb y n d j=>ab.Ag l j λa k g=>e a k (bQ.le_trans d g);simp only[<-bind_pure_comp];exact ab.bind (e a r (bQ.le_refl r)) λb v m d i=>ab.pure ((h.mono d).push i)
theorem ab.mapM{f f':α->XN Xc}(l:Array α)(h:∀a b,r.le b->ab P c b (f a) (f' a) (ai c)):ab P c r (l.mapM f) (l.mapM f') (ak c):=by rw[XF,XF,<-XG,<-XG];exact ab.Ag l.toList .empty h
theorem j9(fn:Func)(h:ak c r t t'):ab P c r (results fn t) (results fn t') (ai c):=by refine ab.bind (ab.mapM _ λa g d=>?_) λg x m d b=>ab.pure ?_;{cases a with|tmp i=>exact ab.pure ((h.mono d).getD i gK)|cell i j=>exact ab.bind (ab.asAddr ((h.mono d).getD i gK)) λl a k _ f=>ab.loadVar j f};by_cases e:x.size=1;{rw[dif_pos e,dif_pos (b.size▸e)];exact b.el 0 _ _ (UG _) (UG _)};rw[dif_neg e,dif_neg (b.size▸e)];exact .tuple b.size b.el
section ret
variable{x:Xu}{w1:Xf}
theorem ft(a:P.funcs[f]?=Xg):Xp P main (G (eC f t k .returning) (x::cs)) w=.go (G (x.finish (t.getD 0 XA)) cs) w #[]:=by simp[G,Xp,unwind,doReturn,eC,a]
theorem bI{v:Xc}(a:P.funcs[f]?=W7 fn)(b:(results fn t).run P w=.ok v w1):Xp P main (G (eC f t k .returning) (x::cs)) w=.go (G (x.finish v) cs) w1 (seen P f ((results fn t).events P w #[])):=by simp[G,Xp,unwind,doReturn,eC,a,b,GStep.after]
theorem ib(a:P.funcs[f]?=W7 fn)(b:(results fn t).run P w=.halt h w1):∃o w2,(Xp P main (G (eC f t k .returning) (x::cs)) w).bare=.ended o w2:=by cases h<;>simp[G,Xp,unwind,eC,a,b]
end ret
theorem Ao{t0':Array Xc}(A:ef c r w v)(z:ak c r t t')(l:ak c r t0 t0')(j:kP c r st st')(y:EK P c gl ⟨f,t,k,W9,(f0,t0,.inRegion ops (i::rest)::k0)::st⟩):Stp P c gl r main bs w v ⟨f,t,k,W9,(f0,t0,.inRegion ops (i::rest)::k0)::st⟩ ⟨f,t',k,W9,(f0,t0',.inRegion ops (i::rest)::k0)::st'⟩:=by obtain⟨s,C,-⟩:=y.below _ (UB ..);have a:=λx m=>y.below x (UN _ m);(have g:(XT.inRegion ops rest::k0).all (bJ P c gl)=W9:=by simp only[Vy,bJ]at C⊢;simp_all);cases d:P.funcs[f]? with|none=>refine .inl ⟨⟨f0,_,.inRegion ops rest::k0,W4,st⟩,w,#[],(ft d).trans ?_,⟨s,g,a⟩,⟨f0,_,.inRegion ops rest::k0,W4,st'⟩,v,r,#[],(ft d).trans ?_,.refl A,⟨rfl,pP l ((ops[i]?).bind (·.dst)) (z.getD 0 gK),rfl,rfl,j⟩,λe p=>by simp at p⟩;{rfl};rfl|some n=>have b:=j9 n z (P:=P) w v A;cases m:(results n t).run P w with|halt h B=>exact .inr (.inl (ib d m))|ok u B=>rw[m]at b;obtain⟨J,I,H,D,q,F,E⟩:=b;refine .inl ⟨⟨f0,_,.inRegion ops rest::k0,W4,st⟩,B,seen P f ((results n t).events P w #[]),(bI d m).trans ?_,⟨s,g,a⟩,⟨f0,_,.inRegion ops rest::k0,W4,st'⟩,I,H,seen P f ((results n t').events P v #[]),(bI d D).trans ?_,q,⟨rfl,pP (l.mono q.le) ((ops[i]?).bind (·.dst)) F,rfl,rfl,j.mono q.le⟩,λe p=>E e (mem_seen p)⟩;{rfl};rfl
theorem mP{x:XI}{b:X5}(h:(eC f t (.code (.cond x a b)::k) .run).eval x=.bool u):Xp P main (G (eC f t (.code (.cond x a b)::k) .run) cs) w=.go (G (eC f t (.code (if u then a else b)::k) .run) cs) w #[]:=by simp only[eC]at h;simp[G,Xp,Xp.exec,eC,h]
theorem l4{x:XI}{b:X5}(h:∀u,(eC f t (.code (.cond x a b)::k) .run).eval x≠.bool u):∃o w2,(Xp P main (G (eC f t (.code (.cond x a b)::k) .run) cs) w).bare=.ended o w2:=by simp only[eC]at h;simp only[G,Xp,Xp.exec,eC];simp
theorem Q5{x x':Xc}(h:x=.bool u)(k:ai c r x x'):x'=.bool u:=by subst h;cases k;rfl
theorem zw(V:Listed P c gl)(U:∀g,gl g=W9->r g=W7 g)(z:ef c r w v)(hr:uI c r s s')(p:EK P c gl s)(hne:s.ret=W9->s.st≠[]):Stp P c gl r main bs w v s s':=by obtain⟨f,t,k,R,Y⟩:=s;obtain⟨f',M,k',K,L⟩:=s';obtain⟨N,y,Z,e3,d⟩:=hr;simp only at N y Z e3 d;subst f' k' K;cases R with|true=>(cases d with|nil=>simp_all|@cons f0 t0 t0' k0 l l' h0 O=>obtain⟨-,-,n,i,B,k1,e⟩:=p.below _ (UB ..);simp only at e;subst e;exact Ao z y h0 O p)|false=>cases k with|nil=>exact Stp.ctl (ret1:=W9) (k1:=[]) z y d p rfl (λ_ _ _=>by rfl) (λ_ _ _=>by rfl)|cons x k=>have q:=p.items;simp only[Vy,Uy]at q;obtain⟨q,A⟩:=q;cases x with|code a=>(cases a with|skip=>exact Stp.ctl (ret1:=W4) (k1:=k) z y d p A (λ_ _ _=>by rfl) (λ_ _ _=>by rfl)|label l=>exact Stp.ctl (ret1:=W4) (k1:=k) z y d p A (λ_ _ _=>by rfl) (λ_ _ _=>by rfl)|ret=>exact Stp.ctl (ret1:=W9) z y d p p.items (λ_ _ _=>sP) (λ_ _ _=>sP)|seq a b=>exact Stp.ctl (ret1:=W4) (k1:=.code a::.code b::k) z y d p (by simp only[bJ,codeOk,Uy]at q;simp[bJ,codeOk,A,q]) (λ_ _ _=>by rfl) (λ_ _ _=>by rfl)|block id a=>exact Stp.ctl (ret1:=W4) (k1:=.code a::.inBlock id::k) z y d p (by simp only[bJ,codeOk,Uy]at q;simp[bJ,codeOk,A,q]) (λ_ _ _=>by rfl) (λ_ _ _=>by rfl)|loop a=>exact Stp.ctl (ret1:=W4) (k1:=.code a::.inLoop a::k) z y d p (by simp only[bJ,codeOk,Uy]at q;simp[bJ,codeOk,A,q]) (λ_ _ _=>by rfl) (λ_ _ _=>by rfl)|scope a=>exact Stp.ctl (ret1:=W4) (k1:=.code a::.inScope a::k) z y d p (by simp only[bJ,codeOk,Uy]at q;simp[bJ,codeOk,A,q]) (λ_ _ _=>pN) (λ_ _ _=>pN)|refuse why=>exact .inr (.inl ⟨_,w,by rfl⟩)|exit id=>(cases D:exitTo id k with|none=>exact .inr (.inl ⟨_,w,by rw[fV.vx,lU D];rfl⟩)|some k1=>exact Stp.ctl (ret1:=W4) z y d p (oa D A) (λ_ _ _=>by simp[G,Xp,Xp.exec,eC,md,D]) (λ_ _ _=>by simp[G,Xp,Xp.exec,eC,md,D]))|cond x a b=>simp only[bJ,codeOk,Uy]at q;have hv:=sD y U V.rm (f:=f) (k:=.code (.cond x a b)::k) (m:=.run) x q.1.1;(cases J:(eC f t (.code (.cond x a b)::k) .run).eval x with|bool u=>have:=Q5 J hv;exact Stp.ctl (ret1:=W4) (k1:=.code (if u then a else b)::k) z y d p (by cases u<;>simp[bJ,q,A]) (λ_ _ _=>mP J) (λ_ _ _=>mP this)|_=>exact .inr (.inl (l4 λu e=>by simp_all)))|region id n F=>(have I:n.all (BK P c gl)=W9:=by assumption);(have H:∀l,(XT.inRegion n l::k).all (bJ P c gl)=W9:=λl=>by simp only[Vy,Uy];exact⟨Hf I l,A⟩);(cases F with|false=>exact Stp.ctl (ret1:=W4) (k1:=.inRegion n (List.range n.size)::k) z y d p (H _) (λ_ _ _=>by rfl) (λ_ _ _=>by rfl)|true=>have X:=ab.cG (r:=r) (c:=c) (P:=P) (iQ (.order f id)) w v z;unfold Stp;rw[fV.vx,mH];cases hc:(choose (.order f id)).run P w with|halt h S=>exact .inr (.inl ⟨_,S,rfl⟩)|ok u S=>rw[hc]at X;obtain⟨u',v1,r1,N,T,q1,-⟩:=X;subst q1;refine .inl ⟨⟨f,t,_,W4,Y⟩,S,#[],rfl,⟨p.fn,H _,p.below⟩,⟨f,M,_,W4,L⟩,v1,r1,#[],?_,T,⟨rfl,y.mono T.le,rfl,rfl,d.mono T.le⟩,λe D=>by simp at D⟩;rw[fV.vx,mH,N];rfl)|rangeFunc _ _ _ _=>simp[bJ,codeOk]at q|goto l=>simp[bJ,codeOk]at q)|inBlock id=>exact Stp.ctl (ret1:=W4) (k1:=k) z y d p A (λ_ _ _=>by rfl) (λ_ _ _=>by rfl)|inLoop a=>exact Stp.ctl (ret1:=W4) (k1:=.code a::.inLoop a::k) z y d p (by simp only[bJ]at q;simp[bJ,A,q]) (λ_ _ _=>by rfl) (λ_ _ _=>by rfl)|inScope a=>exact Stp.ctl (ret1:=W4) (k1:=k) z y d p A (λ_ _ _=>mb) (λ_ _ _=>mb)|inRegion n l=>(cases l with|nil=>exact Stp.ctl (ret1:=W4) (k1:=k) z y d p A (λ_ _ _=>by rfl) (λ_ _ _=>by rfl)|cons i B=>cases E:((n[i]?).map (Region.wanted · (Xy n t))).getD W4 with|true=>(cases W:n[i]? with|none=>simp_all|some o=>rw[W]at E;exact JE V U z y d p W (by simp_all))|false=>(have Q:((n[i]?).map (Region.wanted · (Xy n M))).getD W4=W4:=by rw[show Xy n M=Xy n t from funext λj=>qY y n j];exact E);refine .inl ⟨⟨f,_,.inRegion n B::k,W4,Y⟩,w,#[],(stepG_unwanted E).trans ?_,⟨p.fn,?_,p.below⟩,⟨f,_,.inRegion n B::k,W4,L⟩,v,r,#[],(stepG_unwanted Q).trans ?_,.refl z,⟨rfl,pP y ((n[i]?).bind (·.dst)) gK,rfl,rfl,d⟩,λe D=>by simp at D⟩;{rfl};{have:=p.items;simp only[Vy,bJ,Uy]at this⊢;simp_all};rfl)|inRangeFunc _=>simp[bJ]at q|endRangeFunc _=>simp[bJ]at q|beginRound=>simp[bJ]at q|call _ _ _ _=>simp[bJ]at q|extern _ _=>simp[bJ]at q
end
def re(w:Xf)(T:Nat->X7->Nat)(D:Nat):Xf:={w with tape:=T,drawn:=D}
@[simp]theorem TM(w:Xf)(T b:Nat->X7->Nat)(D a:Nat):re (re w T D) b a=re w b a:=rfl
@[simp]theorem xz(w:Xf)(T:Nat->X7->Nat)(D:Nat):(re w T D).heap=w.heap:=rfl
@[simp]theorem Cb(w:Xf)(T:Nat->X7->Nat)(D:Nat)(a:XU):(re w T D).cell? a=w.cell? a:=rfl
theorem BN(w:Xf)(T:Nat->X7->Nat)(D:Nat)(p:Xz)(a:XU)(b:Bool):(re w T D).farLoad p a b=w.farLoad p a b:=rfl
theorem vY(w:Xf)(T:Nat->X7->Nat)(D:Nat)(p:Xz)(a:XU)(u:Xv)(k:XU)(v:Xc)(b:Bool):(re w T D).viewStore p a u k v b=(w.viewStore p a u k v b).map λx=>(re x.1 T D,x.2):=by unfold Xf.viewStore;have e:(re w T D).seen p a u k b=w.seen p a u k b:=rfl;rw[e];generalize w.seen p a u k b=j;by_cases i:(!tight p p.depth u)=W9;{simp only[i];rfl};simp only[i,U5];cases j with|error s=>rfl|ok x=>obtain⟨c,e,l,g,f,d⟩:=x;cases n:v.bytes? with|none=>rfl|some bytes=>simp only[bind,Except.bind,pure];by_cases h:W7 bytes.length=Option.map (λx=>x.length) f.bytes?;{simp only[ne_eq,h,eq_false];generalize(List.foldlM (m:=Except String) _ c d)=z;cases z<;>rfl};simp only[ne_eq,h,eq_true];rfl
theorem qW(w:Xf)(T:Nat->X7->Nat)(D:Nat)(p:Xz)(a:XU)(v:Xc)(b:Bool):(re w T D).farStore p a v b=(w.farStore p a v b).map λx=>(re x.1 T D,x.2):=by unfold Xf.farStore;rw[xz];cases w.heap[a.block]? with|none=>rfl|some o=>(cases o<;>try rfl);simp only[vY];generalize w.viewStore _ _ _ _ _ _=z;cases z<;>rfl
theorem Dw(w:Xf)(T:Nat->X7->Nat)(D:Nat)(a:XU)(n:Nat):(re w T D).freeze a n=re (w.freeze a n) T D:=by unfold Xf.freeze;split<;>rfl
def xP:Xc->Bool
 |.agg _|.tuple _=>W9
 |_=>W4
theorem SL(v:Xc):xP v=W9\/xP v=W4:=by simp
theorem uy(m:Mode)(a:XU)(g:XN α){v:Xc}(h:xP v=W9)(w:Xf):∃z,(XN.store m a v g).run P w=.halt z w:=by cases v<;>simp[xP]at h<;>exact⟨_,rfl⟩
theorem td(m:Mode)(a:XU)(g:XN α){v:Xc}(h:xP v=W4)(w:Xf):(XN.store m a v g).run P w=match w.cell? a with|some _=>if w.frozen? a then .halt (.unsupported (.unsafePointer "a write to bytes that a string shares")) w else g.run P (w.setCell a v)|none=>match w.farStore P a v (m==.atomic)with|.ok x=>g.run P x.1|.error h=>.halt h w:=by cases v<;>simp[xP]at h<;>(simp only[XN.run];split;{rename_i b;rw[b]};·split<;>simp_all)
theorem oQ(m:Mode)(a:XU)(g:XN α){v:Xc}(h:xP v=W4)(w:Xf):(XN.store m a v g).events P w #[]=match w.cell? a with|some _=>if w.frozen? a then#[]else g.events P (w.setCell a v) (#[].push ⟨.cell a,W9,m==.atomic⟩)|none=>match w.farStore P a v (m==.atomic)with|.ok x=>g.events P x.1 (#[]++x.2.toArray.map (⟨.cell ·,W9,m==.atomic⟩))|.error _=>#[]:=by cases v<;>simp[xP]at h<;>(simp only[XN.events,XN.runT];split<;>(try split)<;>simp_all)
theorem Er(w:Xf)(T:Nat->X7->Nat)(D:Nat)(a:XU):(re w T D).frozen? a=w.frozen? a:=rfl
theorem uO{w1:Xf}{p:Xz}{a:XU}{v:Xc}{b:Bool}{l:List XU}(h:w.farStore p a v b=.ok (w1,l)):w1.drawn=w.drawn/\w1.tape=w.tape:=by have c:w.farStore p a v b=(w.farStore p a v b).map λx=>(re x.1 w.tape w.drawn,x.2):=qW w w.tape w.drawn p a v b;rw[h]at c;injection c with c;have:=(U9 c).1;exact⟨(congrArg Xf.drawn this).trans rfl,(congrArg Xf.tape this).trans rfl⟩
theorem zh(x:XN α):∀{w w1:Xf}{a:α},x.run P w=.ok a w1->(∀e∈x.events P w #[],e.loc≠.output)->w.drawn<=w1.drawn/\w1.tape=w.tape/\∀(T:Nat->X7->Nat)(D:Nat),(∀j q,w.drawn+j<w1.drawn->T (D+j) q=w.tape (w.drawn+j) q)->x.run P (re w T D)=.ok a (re w1 T (D+(w1.drawn-w.drawn))):=by induction x with|pure a=>simp|halt z=>simp|program g d=>intro w w1 b h c;exact d P h c|mark m g d=>intro w w1 b h c;refine d h λe i=>c e ?_;show e∈g.events P w _;rw[XN.events_acc];simp_all|sys s g _=>intro w w1 b h c;refine absurd rfl (c ⟨.output,W9,W4⟩ ?_);show _∈(g _).events P _ _;rw[XN.events_acc];simp|choose q g d=>intro w w1 b h c;have B:∀u:Xf,(XN.choose q g).run P u=if q.forced then(g 0).run P u else(g (q.cut (u.tape u.drawn q))).run P {u with drawn:=u.drawn+1}:=λ_=>rfl;(have I:(XN.choose q g).events P w #[]=if q.forced then(g 0).events P w #[]else(g (q.cut (w.tape w.drawn q))).events P {w with drawn:=w.drawn+1} #[]:=by simp only[XN.events,XN.runT];grind);rw[B]at h;rw[I]at c;simp only[B];by_cases F:q.forced=W9;{grind};rw[if_neg F]at h c;simp only[F,U5,if_false];obtain⟨J,H,K⟩:=d _ h c;simp only at J H;refine⟨by omega,H,λT D t=>?_⟩;(have:=K T (D+1) λj q M=>by have:=t (j+1) q (by grind);grind);have C:=t 0 q Ω;simp only[U0]at C;show(g (q.cut (T D q))).run P (re w T (D+1))=_;rw[C];refine Eq.trans this ?_;grind|load m a g d=>intro w w1 b h c;simp only[XN.run,Cb,BN]at h⊢;(cases r:w.cell? a with|some v=>rw[r]at h;refine d v h λe i=>c e ?_;simp only[XN.events,XN.runT,r];show e∈(g v).events P w _;rw[XN.events_acc];simp_all|none=>rw[r]at h;cases l:w.farLoad P a (m==.atomic)with|error z=>simp_all|ok x=>rw[l]at h;refine d x.1 h λe i=>c e ?_;simp only[XN.events,XN.runT,r,l];show e∈(g x.1).events P w _;rw[XN.events_acc];simp_all)|store m a v g d=>intro w w1 b h c;rcases SL v with y|y;{obtain⟨z,N⟩:=uy (P:=P) m a g y w;simp_all};simp only[td m a g y,Cb,qW,Er]at h⊢;rw[oQ m a g y]at c;(cases r:w.cell? a with|some u=>rw[r]at h c;simp only at h c⊢;split at h;{cases h};rename_i l;rw[if_neg l]at c;have:=d (w:=w.setCell a v) h λe i=>c e (by rw[XN.events_acc];simp_all);refine⟨this.1,this.2.1,λT D t=>?_⟩;exact(if_neg l).trans (this.2.2 T D t)|none=>rw[r]at h c;simp only at h c⊢;cases l:w.farStore P a v (m==.atomic)with|error z=>simp_all|ok x=>rw[l]at h c;simp only[Except.map]at h c⊢;have A:=uO l;have:=d (w:=x.1) h λe i=>c e (by rw[XN.events_acc];simp_all);simp_all)|new o g d=>intro w w1 b h c;exact d _ h c|shape k g d=>intro w w1 b h c;exact d _ h c|freeze a n g d=>intro w w1 b h c;(have A:(w.freeze a n).drawn=w.drawn/\(w.freeze a n).tape=w.tape:=by unfold Xf.freeze;grind);have:=d (w:=w.freeze a n) h c;rw[A.1,A.2]at this;simp only[XN.run,Dw];exact this|frozen a g d=>intro w w1 b h c;exact d _ h c|getObj k g d=>intro w w1 b h c;(cases f:w.heap[k]? with|none=>simp only[XN.run,f]at h;cases h|some o=>cases o<;>first|(simp only[XN.run,f]at h;cases h;done)|(simp only[XN.run,f,xz]at h⊢;refine d _ h λe i=>c e ?_;simp only[XN.events,XN.runT,f];show e∈(g _).events P w _;rw[XN.events_acc];exact Ve.2 (.inr i)))|setObj k o g d=>intro w w1 b h c;cases f:w.heap[k]? with|none=>simp only[XN.run,f]at h;cases h|some L=>cases L<;>first|(simp only[XN.run,f]at h;cases h;done)|(simp only[XN.run,f,xz]at h⊢;refine d (w:={w with heap:=w.heap.setIfInBounds k o}) h λe i=>c e ?_;simp only[XN.events,XN.runT,f];show e∈g.events P _ _;rw[XN.events_acc];exact Ve.2 (.inr i))
def nH(r:bQ):bQ:=λb=>if(r b).isSome then W7 b else Xg
theorem qB{k:Nat}(h:r b=W7 k):nH r b=W7 b:=by simp[nH,h]
theorem nu{k:Nat}(h:nH r b=W7 k):k=b/\∃j,r b=W7 j:=by unfold nH at h;split at h;{rename_i e;cases h;exact⟨rfl,VV.1 e⟩};cases h
theorem cZ.self{a a':XU}(h:cZ c r a a'):cZ c (nH r) a a:=⟨qB h.1,rfl,rfl,h.2.2.2⟩
theorem mR{x:Array Xc}(b:x.size=x'.size)(h:∀(i:Nat)(v a:Xc),x[i]?=W7 v->x'[i]?=W7 a->ai c (nH r) v v):∀(i:Nat)(v a:Xc),x[i]?=W7 v->x[i]?=W7 a->ai c (nH r) v a:=by grind
theorem ai.self{v v':Xc}(h:ai c r v v'):ai c (nH r) v v:=by induction h with|bool b=>exact .bool b|int k n=>exact .int k n|string s=>exact .string s|gq=>exact .gq|ptr a=>exact .ptr a.self|iC n m=>exact .iC n m|slice n m a=>exact .slice n m a.self|cQ a l=>exact .cQ a a|kR=>exact .kR|map a=>exact .map (qB a)|func g i _ j _ e f=>exact .func g rfl (mR i e) rfl (mR j f)|nilFunc=>exact .nilFunc|nilIface=>exact .nilIface|iface t _ d=>exact .iface t d|agg s _ d=>exact .agg rfl (mR s d)|tuple s _ d=>exact .tuple rfl (mR s d)
theorem ak.self{x:Array Xc}(h:ak c r x x'):ak c (nH r) x x:=⟨rfl,mR h.size λi v d a b=>(h.el i v d a b).self⟩
theorem mQ.self{o o':XQ}(h:mQ c r o o'):mQ c (nH r) o o:=by cases h with|cells t f k=>exact .cells t f k.self|@map x j k s e=>refine .map k rfl λi d m a b=>?_;rw[a]at b;cases b;have g:=s▸(Ux.1 a).1;have:=e i d _ a (UG g);exact⟨this.key.self,this.val.self,rfl⟩|iter s p=>exact .iter s p|number l a=>exact .number l a.self
theorem um.self{o o':Option XQ}(h:um c r b o o'):um c (nH r) b o o:=by cases h with|@seen x g t m j s l z y e=>refine .seen t t _ s l (Uv _) ⟨λ_=>rfl,y.2⟩ λi u p a b d=>?_;rw[b]at d;cases d;have f:=Uw (Ux.1 b).1 z;exact(e i u _ a b (UG f)).self|own n k=>exact .own n k.self
theorem ef.self(h:ef c r w v):ef c (nH r) w w:=by refine⟨λb k e=>?_,λb k e=>?_,λb g k e d=>?_,h.rm,λb f e=>h.hid b f (by unfold nH at e;simp_all),λb k e=>?_,rfl,rfl,h.old,λb k e _=>(nu e).1.symm,h.kH.1,h.kH.1⟩;{obtain⟨rfl,j,a⟩:=nu e;exact h.qo _ _ a};{obtain⟨rfl,j,a⟩:=nu e;exact h.qo _ _ a};{exact .inl ((nu e).1.symm.trans (nu d).1)};obtain⟨rfl,j,a⟩:=nu e;exact(h.blk _ _ a).self
theorem kP.self{l l':List (XC×Array Xc×List XT)}(h:kP c r l l'):kP c (nH r) l l:=by induction h with|nil=>exact .nil|cons a _ b=>exact .cons a.self b
theorem uI.self(h:uI c r s s'):uI c (nH r) s s:=⟨rfl,h.t.self,rfl,rfl,h.st.self⟩
theorem ef.re(h:ef c r w w)(T:Nat->X7->Nat)(D:Nat):ef c r (re w T D) (re w T D):=⟨h.qo,h.BS,h.inj,h.rm,h.hid,h.blk,rfl,rfl,h.old,h.aP,h.kH⟩
theorem tc.An{e:XV}(h:tc c r e):e.loc≠.output:=by rcases h with⟨b,a,-⟩|h|⟨f,h⟩;{grind};{simp_all};simp_all
structure Fit(P:Xz)(c:ej)(gl:Nat->Bool)(s:fV)(w:Xf):Prop where
 ok:EK P c gl s
 rel:∃r,ef c r w w/\uI c r s s/\∀g,gl g=W9->r g=W7 g
theorem Fit.re(h:Fit P c gl s w)(T:Nat->X7->Nat)(D:Nat):Fit P c gl s (re w T D):=by obtain⟨e,r,a,b,d⟩:=h;exact⟨e,r,a.re T D,b,d⟩
theorem Fit.O2(d:EK P c gl s)(h:ef c r w v)(a:uI c r s s')(b:∀g,gl g=W9->r g=W7 g):Fit P c gl s w:=⟨d,nH r,h.self,a.self,λg e=>qB (b g e)⟩
def ed(P:Xz)(s:fV)(w:Xf)(s1:fV)(w1:Xf):Prop:=∃es,Xp P W9 (s.g [fD]) w=.go (s1.g [fD]) w1 es
theorem PL(h:st.map up=st'.map up):st=st':=by induction st generalizing st' with|nil=>simp_all|cons x l a=>cases st' with|nil=>simp at h|cons y b=>simp only[U1,Ww]at h;have:=h.1;simp only[up,eC]at this;grind
theorem M8(h:s.g [fD]=s'.g [fD]):s=s':=by obtain⟨f,t,k,b,o⟩:=s;obtain⟨l,p,n,a,j⟩:=s';simp only[fV.g,G,eC,Xh.mk.injEq,Xu.mk.injEq]at h;obtain⟨⟨d,e,g,-,m,-⟩,i,-⟩:=h;have:=PL (List.append_cancel_right i);subst d e g this;(have:b=a:=by cases b<;>cases a<;>simp_all[md]);rw[this]
theorem Fit.step(p:Listed P c gl){s:fV}{w:Xf}(h:Fit P c gl s w)(f:s.ret=W9->s.st≠[]):(∃a b,ed P s w a b/\Fit P c gl a b)\/Q7 (Xp P W9 (s.g [fD]) w):=by obtain⟨u,r,n,o,k⟩:=h;rcases zw p k n o u f with⟨a,b,d,i,t,y,C,v,A,j,x,q,-⟩|B;{refine .inl ⟨a,b,⟨d,i⟩,?_⟩;rw[i]at j;injection j with l m z;have:=M8 l;subst this m;exact⟨t,v,x.rel,q,λg e=>x.le _ _ (k g e)⟩};simp_all
theorem ed.SB{w1:Xf}(h:ed P s w s1 w1)(a:ed P s w s2 w2):s2=s1/\w2=w1:=by obtain⟨_,h⟩:=h;obtain⟨_,a⟩:=a;rw[h]at a;injection a with b d;exact⟨(M8 b).symm,d.symm⟩
def bS(P:Xz)(s:fV)(w:Xf)(s1:fV)(w1:Xf):Prop:=
 w.drawn<=w1.drawn/\w1.tape=w.tape/\∀(T:Nat->X7->Nat)(D:Nat),(∀j q,w.drawn+j<w1.drawn->T (D+j) q=w.tape (w.drawn+j) q)->ed P s (re w T D) s1 (re w1 T (D+(w1.drawn-w.drawn)))
theorem bS.ctl{w1:Xf}(a:ed P s w s1 w1)(h:∀w,Xp P W9 (s.g [fD]) w=.go (s2.g [fD]) w #[]):bS P s w s1 w1:=by obtain⟨rfl,rfl⟩:=a.SB ⟨#[],h w⟩;exact⟨Uv _,rfl,λT D _=>⟨#[],by simp_all⟩⟩
theorem ed.jB{w1:Xf}(a:ed P s w s1 w1)(h:∃o w2,(Xp P W9 (s.g [fD]) w).bare=.ended o w2):False:=by obtain⟨b,e⟩:=a;simp_all
theorem ed.vp{w1:Xf}{ch:List PanicEntry}(d:ed P s w s1 w1)(h:Xp P W9 (s.g [fD]) w=.go (G (eC f t k (.panicking ch)) cs) w2 es):False:=by obtain⟨a,e⟩:=d;rw[e]at h;injection h with h;simp only[fV.g,G,eC,Xh.mk.injEq,Xu.mk.injEq]at h;have:=h.1.2.2.2.2.1;cases b:s1.ret<;>simp[md,b]at this
theorem bS.EN{β:Type}{w1:Xf}{x:XN β}{b:β}(k:ed P s w s1 w1)(a:x.run P w=.ok b w2)(j:∀e∈x.events P w #[],e.loc≠.output)(h:∀w w2,x.run P w=.ok b w2->ed P s w s2 w2):bS P s w s1 w1:=by obtain⟨rfl,rfl⟩:=k.SB (h w w2 a);obtain⟨d,f,g⟩:=zh x a j;exact⟨d,f,λT D i=>h _ _ (g T D i)⟩
theorem Jr(v:Listed P c gl){w1:Xf}(D:Fit P c gl ⟨f,t,.inRegion ops (i::rest)::k,W4,st⟩ w)(q:ed P ⟨f,t,.inRegion ops (i::rest)::k,W4,st⟩ w s1 w1)(l:ops[i]?=W7 o)(a:Region.wanted o (Xy ops t)=W9):bS P ⟨f,t,.inRegion ops (i::rest)::k,W4,st⟩ w s1 w1:=by obtain⟨L,r,J,H,E⟩:=D;have I:=H.t;obtain⟨p,R⟩:=L.yx;have z:=vJ p l;have d:=zP v.aP v.ext z (ev:=(ry f t ops i rest k).eval) (λx g=>sD I E v.rm x g) (λ_=>⟨rfl,rfl⟩) w w J;cases g:(Xm (ry f t ops i rest k).eval o).run P w with|halt h y=>rw[g]at d;by_cases B:∃u,h=.panic u;{obtain⟨u,rfl⟩:=B;exact(q.vp (pM l a g)).elim};exact(q.jB (qL l a g d (λu e=>B ⟨u,e⟩))).elim|ok n y=>rw[g]at d;obtain⟨T,W,U,O,X,M,A⟩:=d;cases M with|@value u V S=>exact bS.EN (s2:=⟨f,_,.inRegion ops rest::k,W4,st⟩) q g (λe m=>(A e m).An) λw y e=>⟨_,(lx l a e).trans (by rfl)⟩|skip=>exact bS.EN (s2:=⟨f,_,.inRegion ops rest::k,W4,st⟩) q g (λe m=>(A e m).An) λw y e=>⟨_,(mM l a e).trans (by rfl)⟩|@enter j x N F K=>obtain⟨n,b,C,Q⟩:=zk v F x N;exact bS.EN (s2:=⟨j,x++Array.replicate (n-x.size) XA,[.code b],W4,(f,t,.inRegion ops (i::rest)::k)::st⟩) q g (λe m=>(A e m).An) λw y e=>⟨_,(lA l a e).trans (by rw[C.1];rfl)⟩
theorem HH{w1:Xf}(o:Fit P c gl ⟨f,t,k,W9,(f0,t0,.inRegion ops (i::rest)::k0)::st⟩ w)(l:ed P ⟨f,t,k,W9,(f0,t0,.inRegion ops (i::rest)::k0)::st⟩ w s1 w1):bS P ⟨f,t,k,W9,(f0,t0,.inRegion ops (i::rest)::k0)::st⟩ w s1 w1:=by obtain⟨A,r,s,p,z⟩:=o;have q:=p.t;cases b:P.funcs[f]? with|none=>refine bS.ctl (s2:=⟨f0,(match(ops[i]?).bind (·.dst)with|some d=>t0.setIfInBounds d (t.getD 0 XA)|none=>t0),.inRegion ops rest::k0,W4,st⟩) l λw=>?_;refine(ft b).trans ?_;rfl|some j=>have a:=j9 j q (P:=P) w w s;cases m:(results j t).run P w with|halt h w1=>exact(l.jB (ib b m)).elim|ok u x=>rw[m]at a;obtain⟨D,E,C,y,F,B,v⟩:=a;refine bS.EN (s2:=⟨f0,(match(ops[i]?).bind (·.dst)with|some d=>t0.setIfInBounds d u|none=>t0),.inRegion ops rest::k0,W4,st⟩) l m (λe n=>(v e n).An) λw x e=>⟨seen P f ((results j t).events P w #[]),?_⟩;refine(bI b e).trans ?_;rfl
theorem ed.tape(F:Listed P c gl){w1:Xf}(y:Fit P c gl s w)(H:s.ret=W9->s.st≠[])(h:ed P s w s1 w1):bS P s w s1 w1:=by obtain⟨f,t,k,A,j⟩:=s;cases A with|true=>(cases j with|nil=>simp_all|cons x l=>obtain⟨K,N,M⟩:=x;obtain⟨-,-,g,i,p,D,e⟩:=y.ok.below _ (UB ..);subst e;exact HH y h)|false=>cases k with|nil=>exact bS.ctl (s2:=⟨f,t,[],W9,j⟩) h (λ_=>by rfl)|cons x k=>have m:=y.ok.items;cases x with|code a=>(cases a with|skip=>exact bS.ctl (s2:=⟨f,t,k,W4,j⟩) h (λ_=>by rfl)|label l=>exact bS.ctl (s2:=⟨f,t,k,W4,j⟩) h (λ_=>by rfl)|ret=>exact bS.ctl (s2:=⟨f,t,.code .ret::k,W9,j⟩) h (λ_=>by rfl)|seq a b=>exact bS.ctl (s2:=⟨f,t,.code a::.code b::k,W4,j⟩) h (λ_=>by rfl)|block id a=>exact bS.ctl (s2:=⟨f,t,.code a::.inBlock id::k,W4,j⟩) h (λ_=>by rfl)|loop a=>exact bS.ctl (s2:=⟨f,t,.code a::.inLoop a::k,W4,j⟩) h (λ_=>by rfl)|scope a=>exact bS.ctl (s2:=⟨f,t,.code a::.inScope a::k,W4,j⟩) h (λ_=>by rfl)|refuse J=>exact(h.jB ⟨_,w,by rfl⟩).elim|exit id=>(cases z:exitTo id k with|none=>exact(h.jB ⟨_,w,by rw[fV.vx,lU z];rfl⟩).elim|some D=>exact bS.ctl (s2:=⟨f,t,D,W4,j⟩) h (λ_=>by simp[fV.g,G,Xp,Xp.exec,eC,md,z]))|cond x a b=>(cases I:(eC f t (.code (.cond x a b)::k) .run).eval x with|bool u=>exact bS.ctl (s2:=⟨f,t,.code (if u then a else b)::k,W4,j⟩) h λ_=>mP I|_=>exact(h.jB (l4 λu e=>by simp_all)).elim)|region id g q=>(cases q with|false=>exact bS.ctl (s2:=⟨f,t,.inRegion g (List.range g.size)::k,W4,j⟩) h (λ_=>by rfl)|true=>have E:∀w:Xf,∃u B,(choose (.order f id)).run P w=.ok u B:=λw=>⟨_,_,rfl⟩;obtain⟨u,B,e⟩:=E w;refine bS.EN (s2:=⟨f,t,.inRegion g (Region.schedule (P.follows .mixedOrders) g u)::k,W4,j⟩) h e (λe z=>by simp_all) λw B e=>⟨#[],?_⟩;rw[fV.vx,mH,e];rfl)|rangeFunc _ _ _ _=>simp[bJ,codeOk]at m|goto l=>simp[bJ,codeOk]at m)|inBlock id=>exact bS.ctl (s2:=⟨f,t,k,W4,j⟩) h (λ_=>by rfl)|inLoop a=>exact bS.ctl (s2:=⟨f,t,.code a::.inLoop a::k,W4,j⟩) h (λ_=>by rfl)|inScope a=>exact bS.ctl (s2:=⟨f,t,k,W4,j⟩) h (λ_=>by rfl)|inRegion g l=>(cases l with|nil=>exact bS.ctl (s2:=⟨f,t,k,W4,j⟩) h (λ_=>by rfl)|cons i p=>cases v:((g[i]?).map (Region.wanted · (Xy g t))).getD W4 with|true=>(cases C:g[i]? with|none=>simp_all|some o=>exact Jr F y h C (by simp_all))|false=>refine bS.ctl (s2:=⟨f,(match(g[i]?).bind (·.dst)with|some d=>t.setIfInBounds d XA|none=>t),.inRegion g p::k,W4,j⟩) h λw=>(stepG_unwanted v).trans ?_;rfl)|inRangeFunc _=>simp[bJ]at m|endRangeFunc _=>simp[bJ]at m|beginRound=>simp[bJ]at m|call _ _ _ _=>simp[bJ]at m|extern _ _=>simp[bJ]at m
def DT(fr:Xu)(cs:List Xu):Prop:=
 (∃(f:XC)(t:Array Xc)(k:List XT)(ch:List PanicEntry)(st:List (XC×Array Xc×List XT)),fr=eC f t k (.panicking ch)/\cs=st.map up++[fD]/\(∀d w r sv,k.head?≠W7 (.call d w r sv))/\∀x∈st,∃ops i rest k',x.2.2=.inRegion ops (i::rest)::k')\/
 (((∃ch,fr={fD with mode:=.panicking ch})\/fr=fD\/fr={fD with mode:=.returning})/\cs=[])
theorem DT.not{fr:Xu}(h:DT fr [fD])(a:fr.mode=.returning):False:=by rcases h with⟨f,t,k,b,d,rfl,-⟩|⟨-,h⟩;{simp[eC]at a};cases h
theorem Dg{fr:Xu}(h:DT fr cs)(w:Xf):(∃n m w',step P (lone fr cs w)=.next (lone n m w')/\DT n m)\/∃o w',step P (lone fr cs w)=.ended o w':=by rcases h with⟨f,t,k,j,A,rfl,rfl,B,q⟩|⟨h,rfl⟩;{(have u:(eC f t k (.panicking j)).catches P=W4:=by unfold Xu.catches;simp only[eC];grind);(have p:∀(x:Xu)(l:List Xu),Xp P W9 {frame:=eC f t k (.panicking j),callers:=x::l,status:=.running,dying:=Xg} w=.go {frame:=x.raise j,callers:=l,status:=.running,dying:=Xg} w #[]:=by intro x l;unfold Xu.catches eC at u;simp[Xp,unwind,eC,Xu.catches];simp_all);cases A with|nil=>exact .inl ⟨_,_,w,step_lone_go (by rw[show List.map up []++[fD]=[fD]from rfl,p];rfl),.inr ⟨.inl ⟨j,rfl⟩,rfl⟩⟩|cons x l=>obtain⟨z,i,s,C,e⟩:=q x (UB ..);refine .inl ⟨_,_,w,step_lone_go (by rw[show List.map up (x::l)++[fD]=up x::(List.map up l++[fD])from rfl,p];rfl),.inl ⟨x.1,x.2.1,x.2.2,j,l,rfl,rfl,λd w r D=>by grind,λy v=>q y (UN _ v)⟩⟩};refine ?_;rcases h with⟨j,rfl⟩|rfl|rfl;{exact .inr ⟨_,w,step_lone_ended (by rfl)⟩};{exact .inl ⟨_,_,w,step_lone_go (by rfl),.inr ⟨.inr (.inr rfl),rfl⟩⟩};exact .inr ⟨_,w,step_lone_ended (by rfl)⟩
section
theorem runN_add:∀{k:Nat}{m m':Machine},runN P i m=.next m'->runN P (i+k) m=runN P k m':=by induction i with|zero=>intro k m m' h;cases h;simp|succ i a=>intro k m m' h;rw[show i+1+k=(i+k)+1 by omega];simp only[runN]at h⊢;grind
theorem Gq{m m':Machine}(h:step P m=.next m'):runN P 1 m=.next m':=by simp[runN,h]
theorem og:∀(n:Nat){fr:Xu}{cs:List Xu}{w:Xf},DT fr cs->∀{fr':Xu}{w':Xf},runN P n (lone fr cs w)=.next (lone fr' [fD] w')->fr'.mode=.returning->False:=by intro n;induction n with|zero=>intro fr cs w h fr' w' e a;simp only[runN,lone,Stepped.next.injEq,Machine.mk.injEq]at e;have:=e.2.1;obtain⟨rfl,rfl⟩:=this;exact h.not a|succ n j=>intro fr cs w h fr' w' e a;simp only[runN]at e;rcases Dg (P:=P) h w with⟨f,b,g,d,i⟩|⟨o,g,d⟩;{grind};simp_all
def Bb(s:fV)(w:Xf):Machine:=lone (eC s.f s.t s.k (md s.ret)) (s.st.map up++[fD]) w
theorem k8{w1:Xf}{fr:Xu}(h:Xp P W9 (s.g [fD]) w=.go (G fr cs) w1 es):step P (Bb s w)=.next (lone fr cs w1):=step_lone_go (by have:Xp P W9 {frame:=eC s.f s.t s.k (md s.ret),callers:=s.st.map up++[fD],status:=.running,dying:=Xg} w=.go (G fr cs) w1 es:=h;rw[this];rfl)
theorem ed.Te{w1:Xf}(h:ed P s w s1 w1):step P (Bb s w)=.next (Bb s1 w1):=by obtain⟨a,e⟩:=h;exact k8 e
theorem Ev(h:Q7 (Xp P W9 (s.g [fD]) w))(e:runN P (n+1) (Bb s w)=.next (lone fr' [fD] w'))(i:fr'.mode=.returning):False:=by simp only[runN]at e;rcases h with⟨o,a,h⟩|⟨f,t,k,b,j,a,l,h,d,g⟩;{rw[show step P (Bb s w)=.ended o a from step_lone_ended h]at e;cases e};rw[k8 h]at e;exact og n (.inl ⟨f,t,k,b,j,rfl,rfl,d,g⟩) e i
theorem Q7.not{w1:Xf}(a:ed P s w s1 w1)(h:Q7 (Xp P W9 (s.g [fD]) w)):False:=by rcases h with h|⟨f,t,k,b,e,w1,d,h,-⟩;{exact a.jB h};exact a.vp h
def Ol(s:fV):Prop:=s.ret=W9/\s.st=[]
theorem Ey(p:Ol s)(e:runN P (n+1) (Bb s w)=.next (lone fr' [fD] w'))(j:fr'.mode=.returning):False:=by obtain⟨f,t,k,q,z⟩:=s;obtain⟨d,g⟩:=p;subst d g;have i:DT fD []:=.inr ⟨.inr (.inl rfl),rfl⟩;have a:∀v,fD.finish v=fD:=λv=>rfl;simp only[runN]at e;cases b:P.funcs[f]? with|none=>rw[k8 ((ft b).trans (by rw[a]))]at e;exact og n i e j|some m=>cases l:(results m t).run P w with|halt h r=>obtain⟨o,y,h⟩:=ib b l;rw[show step P (Bb ⟨f,t,k,W9,[]⟩ w)=.ended o y from step_lone_ended h]at e;cases e|ok u r=>rw[k8 ((bI b l).trans (by rw[a]))]at e;exact og n i e j
inductive Lone(P:Xz)(Good:Xc->Xf->Prop):fV->Xf->Prop
 |done{s:fV}{w:Xf}{fn:Func}{v:Xc}:Ol s->P.funcs[s.f]?=W7 fn->(∀T D,(results fn s.t).run P (re w T D)=.ok v (re w T D)/\Good v (re w T D))->Lone P Good s w
 |step{s:fV}{w:Xf}:¬Ol s->(∀T D,∃s1 w1,ed P s (re w T D) s1 w1)->(∀T D s1 w1,ed P s (re w T D) s1 w1->Lone P Good s1 w1)->Lone P Good s w
section bar
variable(P)(Good:Xc->Xf->Prop)
noncomputable def va(p:fV×Xf):(Nat->X7->Nat)×Nat:=open Classical in
 if h:∃a:(Nat->X7->Nat)×Nat,∀s1 w1,ed P p.1 (re p.2 a.1 a.2) s1 w1->¬Lone P Good s1 w1 then Classical.choose h else(λ_ _=>0,0)
def Live(p:fV×Xf):Prop:=¬Ol p.1/\∃q:fV×Xf,ed P p.1 (re p.2 (va P Good p).1 (va P Good p).2) q.1 q.2
noncomputable def ET(p:fV×Xf):fV×Xf:=open Classical in if h:Live P Good p then Classical.choose h.2 else p
noncomputable def iH(p:fV×Xf):Nat->fV×Xf
 |0=>p
 |i+1=>ET P Good (iH p i)
noncomputable def pos(p:fV×Xf):Nat->Nat
 |0=>0
 |i+1=>open Classical in if Live P Good (iH P Good p i)then pos p i+((iH P Good p (i+1)).2.drawn-(va P Good (iH P Good p i)).2)else pos p i
def P5(p:fV×Xf)(i n:Nat):Prop:=pos P Good p i<=n/\(n<pos P Good p (i+1)\/¬Live P Good (iH P Good p i))
noncomputable def xH(p:fV×Xf)(n:Nat)(q:X7):Nat:=open Classical in
 if h:∃i,P5 P Good p i n then(va P Good (iH P Good p (Classical.choose h))).1 ((va P Good (iH P Good p (Classical.choose h))).2+(n-pos P Good p (Classical.choose h))) q else 0
end bar
section bar
theorem Gm(k:¬Lone P Good s w)(l:¬Ol s):∀d e,ed P s (re w (va P Good (s,w)).1 (va P Good (s,w)).2) d e->¬Lone P Good d e:=by(have h:∃a:(Nat->X7->Nat)×Nat,∀d e,ed P s (re w a.1 a.2) d e->¬Lone P Good d e:=by refine Vp λj=>k ?_;refine .step l (λT D=>?_) (λT D d e g=>?_);{refine Vp λf=>j ⟨(T,D),λd e g=>absurd ⟨d,e,g⟩ f⟩};refine Vp λf=>j ⟨(T,D),λm n i=>?_⟩;obtain⟨rfl,rfl⟩:=g.SB i;exact f);unfold va;grind
theorem zc(h:Live P Good p):ed P p.1 (re p.2 (va P Good p).1 (va P Good p).2) (ET P Good p).1 (ET P Good p).2:=by unfold ET;grind
theorem yu(h:¬Live P Good p):ET P Good p=p:=by unfold ET;simp_all
theorem tK(h:Live P Good (iH P Good p i)):pos P Good p (i+1)=pos P Good p i+((iH P Good p (i+1)).2.drawn-(va P Good (iH P Good p i)).2):=by exact@if_pos _ (Classical.propDecidable _) h _ _ _
theorem y9(h:¬Live P Good (iH P Good p i)):pos P Good p (i+1)=pos P Good p i:=by exact@if_neg _ (Classical.propDecidable _) h _ _ _
theorem G7{j:Nat}(h:i<=j):pos P Good p i<=pos P Good p j:=by induction h with|refl=>omega|@step m _ b=>by_cases a:Live P Good (iH P Good p m);{rw[tK a];omega};rw[y9 a];omega
theorem Ej{j:Nat}(h:i<=j)(d:¬Live P Good (iH P Good p i)):iH P Good p j=iH P Good p i/\pos P Good p j=pos P Good p i:=by induction h with|refl=>simp|@step m _ b=>(have a:¬Live P Good (iH P Good p m):=by simp_all);exact⟨(yu a).trans b.1,(y9 a).trans b.2⟩
theorem F6(h:P5 P Good p i n)(q:X7):xH P Good p n q=(va P Good (iH P Good p i)).1 ((va P Good (iH P Good p i)).2+(n-pos P Good p i)) q:=by(have g:∀{i j:Nat},i<=j->P5 P Good p i n->P5 P Good p j n->iH P Good p j=iH P Good p i/\pos P Good p j=pos P Good p i:=by intro i j a e f;by_cases d:Live P Good (iH P Good p i);{rcases Nat.eq_or_lt_of_le a with rfl|b;{simp};have:=G7 (P:=P) (Good:=Good) (p:=p) (show i+1<=j from b);rcases e.2 with h|h;{have:=f.1;omega};simp_all};exact Ej a d);have k:∃i,P5 P Good p i n:=⟨i,h⟩;unfold xH;grind
variable(hl:Listed P c gl)
include hl
theorem wQ(j:Fit P c gl p.1 p.2)(k:¬Lone P Good p.1 p.2):∀i,Fit P c gl (iH P Good p i).1 (iH P Good p i).2/\¬Lone P Good (iH P Good p i).1 (iH P Good p i).2:=by intro i;induction i with|zero=>exact⟨j,k⟩|succ i b=>show Fit P c gl (ET P Good (iH P Good p i)).1 (ET P Good (iH P Good p i)).2/\¬Lone P Good (ET P Good (iH P Good p i)).1 (ET P Good (iH P Good p i)).2;by_cases h:Live P Good (iH P Good p i);{have a:=zc h;refine⟨?_,Gm b.2 h.1 _ _ a⟩;rcases(b.1.re _ _).step hl (λe d=>h.1 ⟨e,d⟩)with⟨o,q,f,n⟩|g;{obtain⟨l,m⟩:=f.SB a;simp_all};exact(g.not a).elim};rw[yu h];exact b
theorem Hv(g:Fit P c gl p.1 p.2)(k:¬Lone P Good p.1 p.2)(h:Live P Good (iH P Good p i)):ed P (iH P Good p i).1 (re (iH P Good p i).2 (xH P Good p) (pos P Good p i)) (iH P Good p (i+1)).1 (re (iH P Good p (i+1)).2 (xH P Good p) (pos P Good p (i+1))):=by have l:=zc h;obtain⟨m,n,d⟩:=l.tape hl ((wQ hl g k i).1.re _ _) (λe b=>h.1 ⟨e,b⟩);have a:(iH P Good p (i+1))=ET P Good (iH P Good p i):=rfl;(have:=d (xH P Good p) (pos P Good p i) λj q o=>by have f:P5 P Good p i (pos P Good p i+j):=⟨Vx ..,.inl (by rw[tK h,a];have:(re (iH P Good p i).2 (va P Good (iH P Good p i)).1 (va P Good (iH P Good p i)).2).drawn=(va P Good (iH P Good p i)).2:=rfl;omega)⟩;rw[F6 f];show _=(va P Good (iH P Good p i)).1 ((va P Good (iH P Good p i)).2+j) q;simp);rw[tK h,a];exact this
theorem Cw(a:Fit P c gl p.1 p.2)(b:¬Lone P Good p.1 p.2):∀i,(∀l,l<i->Live P Good (iH P Good p l))->runN P i (Bb p.1 (re p.2 (xH P Good p) 0))=.next (Bb (iH P Good p i).1 (re (iH P Good p i).2 (xH P Good p) (pos P Good p i))):=by intro i;induction i with|zero=>intro _;rfl|succ i d=>intro h;rw[runN_add (d λl hl=>h l Ω)];exact Gq (Hv hl a b (h i Ω)).Te
theorem wG(o:∀v w T D,Good v w->Good v (re w T D))(W:Fit P c gl s w)(H:∀T,∃n K w' v,runN P n (Bb s (re w T 0))=.next (lone K [fD] w')/\K.leaving P w' (.returned v)/\Good v w'):Lone P Good s w:=by refine Vp λhn=>?_;have f:Fit P c gl (s,w).1 (s,w).2:=W;have g:¬Lone P Good (s,w).1 (s,w).2:=hn;obtain⟨n,K,w',v,E,⟨C,hd,hk,J,R,h⟩,X⟩:=H (xH P Good (s,w));by_cases z:∀l,l<n->Live P Good (iH P Good (s,w) l);{have:=Cw hl f g n z;rw[show Bb (s,w).1 (re (s,w).2 (xH P Good (s,w)) 0)=Bb s (re w (xH P Good (s,w)) 0)from rfl,E]at this;obtain⟨a,b⟩:=wQ hl f g n;generalize iH P Good (s,w) n=q at this a b;simp only[Bb,lone,Stepped.next.injEq,Machine.mk.injEq,Array.mk.injEq,Ww,Xh.mk.injEq,and_true]at this;obtain⟨rfl,rfl,A⟩:=this;(have B:Ol q.1:=by refine⟨?_,?_⟩;{cases E:q.1.ret with|true=>rfl|false=>rw[E]at C;cases C};cases hq:q.1.st with|nil=>rfl|cons x l=>rw[hq]at A;have:=congrArg List.length A;grind);refine b (.done (v:=v) B R λT D=>?_);(have O:∀e∈(results J q.1.t).events P (re q.2 (xH P Good (s,w)) (pos P Good (s,w) n)) #[],e.loc≠.output:=by obtain⟨ok,r,L,y,-⟩:=a.re (xH P Good (s,w)) (pos P Good (s,w) n);have:=j9 J y.t (P:=P) _ _ L;rw[show(results J q.1.t).run P (re q.2 (xH P Good (s,w)) (pos P Good (s,w) n))=_ from h]at this;obtain⟨_,_,r1,_,_,_,l1⟩:=this;exactλe V=>(l1 e V).An);obtain⟨-,-,M⟩:=zh _ h O;have N:=M T D λj q Z=>absurd Z Ω;rw[Nat.sub_self]at N;exact⟨N,o v (re q.2 (xH P Good (s,w)) (pos P Good (s,w) n)) T D X⟩};(have:∃i,i<n/\¬Live P Good (iH P Good (s,w) i)/\∀l,l<i->Live P Good (iH P Good (s,w) l):=by(have Q:∃i,i<n/\¬Live P Good (iH P Good (s,w) i):=by simp_all);obtain⟨i,hi⟩:=Q;induction i using Nat.strongRecOn with|_ i ih=>grind);obtain⟨i,Y,d,u⟩:=this;have L:=Cw hl f g i u;obtain⟨k,rfl⟩:∃k,n=i+(k+1):=⟨n-i-1,by omega⟩;have y:=runN_add (k:=k+1) L;rw[show Bb (s,w).1 (re (s,w).2 (xH P Good (s,w)) 0)=Bb s (re w (xH P Good (s,w)) 0)from rfl,E]at y;obtain⟨a,b⟩:=wQ hl f g i;by_cases F:Ol (iH P Good (s,w) i).1;{exact Ey F y.symm C};rcases(a.re (xH P Good (s,w)) (pos P Good (s,w) i)).step hl (λe I=>F ⟨e,I⟩)with⟨s1,w1,M,N⟩|U;{obtain⟨-,-,S⟩:=M.tape hl (a.re _ _) (λe I=>F ⟨e,I⟩);(have:=S (va P Good (iH P Good (s,w) i)).1 (va P Good (iH P Good (s,w) i)).2 λj q _=>by show _=xH P Good (s,w) (pos P Good (s,w) i+j) q;rw[F6 (i:=i) ⟨Vx ..,.inr d⟩,Nat.add_sub_cancel_left]);exact d ⟨F,(s1,_),this⟩};exact Ev U y.symm C
end bar
end
structure Env(own RO:Nat->Prop)(CU:Nat->Nat->Prop)(v v1:Xf):Prop where
 keep:∀k,own k\/RO k->v1.heap[k]?=v.heap[k]?
 cut:∀k n,CU k n->∀(x:Array Xc)(t:Xv)(fr:Nat×Nat),v.heap[k]?=W7 (.cells x t fr)->∃x' fr',v1.heap[k]?=W7 (.cells x' t fr')/\x'.size=x.size/\∀o,o<n->x'[o]?=x[o]?
 grow:v.heap.size<=v1.heap.size
def TX(own RO:Nat->Prop)(CU:Nat->Nat->Prop)(e:XV):Prop:=
 (∃k,(match e.loc with|.cell a=>a.block=k|.obj j=>j=k|_=>False)/\(own k\/(RO k/\e.write=W4))/\e.sync=W4)\/(∃k n o,CU k n/\o<n/\e=⟨.cell ⟨k,o,Xg⟩,W4,W4⟩)\/e.loc=.mark .noRoom\/∃f,e.loc=.mark (.extern f)
def more(own:Nat->Prop)(v v':Xf):Nat->Prop:=λk=>own k\/(v.heap.size<=k/\k<v'.heap.size)
structure lH(own RO:Nat->Prop)(CU:Nat->Nat->Prop)(v v':Xf)(es:Array XV):Prop where
 keep:∀k,k<v.heap.size->¬own k->v'.heap[k]?=v.heap[k]?
 grow:v.heap.size<=v'.heap.size
 os:v'.os=v.os
 out:v'.output=v.output
 tape:v'.tape=v.tape
 evs:∀e∈es,TX (more own v v') RO CU e
inductive Loc(P:Xz)(main:Bool)(RO:Nat->Prop)(CU:Nat->Nat->Prop)(Stop:(Nat->Prop)->Xh->Xf->Prop):(Nat->Prop)->Xh->Xf->Prop
 |stop{own:Nat->Prop}{g:Xh}{v:Xf}:Stop own g v->Loc P main RO CU Stop own g v
 |step{own:Nat->Prop}{g:Xh}{v:Xf}:g.status=.running->(∀v1,Env own RO CU v v1->∃g' v' es,Xp P main g v1=.go g' v' es/\lH own RO CU v1 v' es)->
  (∀v1 g' v' es,Env own RO CU v v1->Xp P main g v1=.go g' v' es->Loc P main RO CU Stop (more own v1 v') g' v')->Loc P main RO CU Stop own g v
structure Reach(c:ej)(r:bQ)(own RO:Nat->Prop)(CU:Nat->Nat->Prop)(v:Xf):Prop where
 BS:∀b k,r b=W7 k->own k\/(c.seen b/\(RO k\/CU k (c.MX b)))
 old:∀k,own k\/RO k->k<v.heap.size
theorem ef.env(h:ef c r w v)(z:Reach c r own RO CU v)(f:Env own RO CU v v1):ef c r (Go.ab.re w v1.tape v1.drawn) v1:=⟨h.qo,λb k e=>Uw (h.BS b k e) f.grow,h.inj,h.rm,h.hid,λb k e=>by have:=h.blk b k e;rcases z.BS b k e with g|⟨C,g|g⟩;{rw[f.keep k (.inl g)];exact this};{rw[f.keep k (.inr g)];exact this};show um c r b w.heap[b]? v1.heap[k]?;revert this;generalize w.heap[b]?=J;generalize j:v.heap[k]?=I;intro this;cases this with|@seen x A t m q s l D y e=>obtain⟨K,p,o,F,E⟩:=f.cut k _ g A m q j;rw[o];refine .seen t m p s l Ω y λi u H a b d=>?_;grind|own n _=>simp_all,rfl,rfl,h.old,h.aP,h.kH.1,UW h.kH.2 f.grow⟩
theorem Reach.env(a:Reach c r own RO CU v)(b:Env own RO CU v v1):Reach c r own RO CU v1:=⟨a.BS,λk h=>Uw (a.old k h) b.grow⟩
theorem Ext.mine(h:Ext c r w v r' w' v')(m:Reach c r own RO CU v)(u:∀e∈es,tc c r' e):lH own RO CU v v' es/\Reach c r' (more own v v') RO CU v':=by have q:=h.size;have D:=h.grow;(have f:∀b k,r' b=W7 k->more own v v' k\/(c.seen b/\(RO k\/CU k (c.MX b))):=λb k e=>by rcases Vb b w.heap.size with g|g;{rw[h.xX b g]at e;rcases m.BS b k e with x|x;{exact .inl (.inl x)};simp_all};have n:=h.rel.qo b k e;have o:=h.rel.BS b k e;rw[h.new b g n]at e;cases e;exact .inl (.inr ⟨by omega,o⟩));refine⟨⟨λk d E=>h.keep k d λb g=>?_,by omega,h.os,h.out,h.tape,λe y=>?_⟩,f,λk d=>?_⟩;{rcases m.BS b k g with x|x;{simp_all};grind};{rcases u e y with⟨b,g,F,l⟩|x;{(have:∃k,(match e.loc with|.cell a=>a.block=k/\(c.seen b->a.off<c.MX b/\a.spot=Xg)|.obj j=>j=k/\¬c.seen b|_=>False)/\r' b=W7 k:=by grind);obtain⟨k,n,o⟩:=this;(have i:(match e.loc with|.cell a=>a.block=k|.obj j=>j=k|_=>False):=by grind);rcases f b k o with x|⟨q,x|x⟩;{exact .inl ⟨k,i,.inl x,l⟩};{refine .inl ⟨k,i,.inr ⟨x,?_⟩,l⟩;simp_all};refine .inr (.inl ?_);obtain⟨p,I,H⟩:=e;cases p with|cell a=>obtain⟨rfl,t⟩:=n;obtain⟨B,C⟩:=t q;obtain⟨z,A,s⟩:=a;grind|obj j=>simp_all|_=>grind};exact .inr (.inr x)};rcases d with(d|d)|d;{have:=m.old k (.inl d);omega};{exact d.2};have:=m.old k (.inr d);omega
structure Left(c:ej)(r:bQ)(own RO:Nat->Prop)(v:Xf)(own1:Nat->Prop)(v1:Xf):Prop where
 keep:∀k,own k\/RO k->(∀b,r b=W7 k->c.seen b)->v1.heap[k]?=v.heap[k]?
 mine:∀k,own1 k->own k\/v.heap.size<=k
 more:∀k,own k->own1 k
 grow:v.heap.size<=v1.heap.size
theorem Left.refl(c:ej)(r:bQ)(own RO:Nat->Prop)(v:Xf):Left c r own RO v own v:=⟨λ_ _ _=>rfl,λ_ h=>.inl h,λ_ h=>h,Uv _⟩
theorem Left.after{own1:Nat->Prop}{v2:Xf}(n:Reach c r own RO CU v)(m:Env own RO CU v v1)(f:Ext c r w v1 r' w' v')(h:Left c r' (Go.ab.more own v1 v') RO v' own1 v2):Left c r own RO v own1 v2:=by have q:=f.size;have p:=f.grow;have j:=m.grow;(have l:∀b k,k<v1.heap.size->r' b=W7 k->r b=W7 k:=λb k a e=>by rcases Vb b w.heap.size with d|d;{rw[<-f.xX b d];exact e};have i:=f.rel.qo b k e;rw[f.new b d i]at e;grind);refine⟨λk a d=>?_,λk a=>?_,λk a=>h.more k (.inl a),by have:=h.grow;omega⟩;{have g:k<v1.heap.size:=Uw (n.old k a) j;rw[h.keep k (a.imp .inl id) λb e=>d b (l b k g e),f.keep k g d,m.keep k a]};rcases h.mine k a with(i|i)|i;{grind};{omega};omega
theorem Lone.loc(hl:Listed P c gl)(h:Lone P Good s w):∀{r:bQ}{own:Nat->Prop}{v:Xf}{s':fV},EK P c gl s->(∃T D,ef c r (re w T D) v)->uI c r s s'->(∀g,gl g=W9->r g=W7 g)->Reach c r own RO CU v->(∀a x u p n v1,r.le a->Good u n->ef c a n v1->ai c a u p->Reach c a x RO CU v1->Left c r own RO v x v1->Loc P main RO CU Stop x (G (caller.finish p) cs) v1)->Loc P main RO CU Stop own (s'.g (caller::cs)) v:=by induction h with|@done s w U u ht H hd=>intro r own v s' hs⟨T,D,Z⟩Y W b K;obtain⟨f,t,k,ret,st⟩:=s;obtain⟨f',t',k',M,st'⟩:=s';obtain⟨e1,J,e2,e3,I⟩:=Y;simp only at e1 J e2 e3 I H;obtain⟨h1,h2⟩:=ht;simp only at h1 h2;subst f' k' M h1 h2;cases I;(have q:∀v1,Env own RO CU v v1->∃p j a,Xp P main ((fV.mk f t' k W9 []).g (caller::cs)) v1=.go (G (caller.finish p) cs) j (seen P f ((results U t').events P v1 #[]))/\Ext c r (re w v1.tape v1.drawn) v1 a (re w v1.tape v1.drawn) j/\ai c a u p/\(∀e∈seen P f ((results U t').events P v1 #[]),tc c a e):=by intro v1 d;have E:ef c r (re w v1.tape v1.drawn) v1:=Z.env b d;have A:=j9 U J (P:=P) _ _ E;rw[(hd v1.tape v1.drawn).1]at A;obtain⟨p,j,a,o,l,y,i⟩:=A;exact⟨p,j,a,bI H o,l,y,λe C=>i e (mem_seen C)⟩);refine .step rfl (λv1 d=>?_) (λv1 g' v' B d C=>?_);{obtain⟨p,j,a,o,l,y,i⟩:=q v1 d;exact⟨_,_,_,o,(l.mine (b.env d) i).1⟩};obtain⟨p,j,a,o,l,y,i⟩:=q v1 d;rw[o]at C;injection C with O Q R;subst O Q R;exact K a _ u p _ j l.le (hd v1.tape v1.drawn).2 l.rel y (l.mine (b.env d) i).2 (Left.after b d l (Left.refl ..))|@step s w X V hall ih=>intro r own v s' hs⟨T,D,Z⟩Y W b K;(have q:∀v1,Env own RO CU v v1->∃z n m j a B,ed P s (re w v1.tape v1.drawn) z n/\EK P c gl z/\Xp P main (s'.g (caller::cs)) v1=.go (m.g (caller::cs)) j B/\Ext c r (re w v1.tape v1.drawn) v1 a n j/\uI c a z m/\(∀e∈B,tc c a e):=by intro v1 d;have E:ef c r (re w v1.tape v1.drawn) v1:=Z.env b d;rcases zw (main:=main) (bs:=caller::cs) hl W E Y hs (λe e'=>X ⟨e,e'⟩)with⟨z,n,S,o,l,m,j,a,B,y,i,N,F⟩|hb;{exact⟨z,n,m,j,a,B,⟨S,o⟩,l,y,i,N,F⟩};obtain⟨z,n,o⟩:=V v1.tape v1.drawn;exact(hb.not o).elim);refine .step rfl (λv1 d=>?_) (λv1 g' v' B d C=>?_);{obtain⟨z,n,m,j,a,B,o,l,y,i,N,F⟩:=q v1 d;exact⟨_,_,_,y,(i.mine (b.env d) F).1⟩};obtain⟨z,n,m,j,a,es',o,l,y,i,N,F⟩:=q v1 d;rw[y]at C;injection C with O Q R;subst O Q R;refine ih v1.tape v1.drawn z n o l ⟨n.tape,n.drawn,i.rel⟩ N (λg e=>i.le _ _ (W g e)) (i.mine (b.env d) F).2 λr2 L u p w2 v3 c1 c2 c3 c4 c5 c6=>?_;exact K r2 L u p w2 v3 (bQ.le_trans i.le c1) c2 c3 c4 c5 (Left.after b d i c6)
def entry(f:XC)(fn:Func)(b:X5)(args:Array Xc):fV:=⟨f,args++Array.replicate (fn.ntmps-args.size) XA,[.code b],W4,[]⟩
theorem uF(p:Listed P c gl){b:X5}(a:∀v w T D,Good v w->Good v (re w T D))(d:Fit P c gl (entry f fn b args) w)(m:P.funcs[f]?=W7 fn)(l:fn.body=W7 b)(H:∀T,Calls P f args (re w T 0) R)(k:∀e w',R e w'->∃v,e=.returned v/\Good v w'):Lone P Good (entry f fn b args) w:=by refine wG p a d λT=>?_;obtain⟨e,w',g,h,i,s,j⟩:=H T [fD];obtain⟨v,rfl,o⟩:=k e w' h;obtain⟨n,q⟩:=i;refine⟨n,g,w',v,?_,j,o⟩;rw[<-q];congr 1;rw[il args m,l];rfl
theorem Loc.call(q:Listed P c gl){b:X5}{args':Array Xc}(j:∀v w T D,Good v w->Good v (re w T D))(E:∀e w',R e w'->∃v,e=.returned v/\Good v w')(o:P.funcs[f]?=W7 fn)(p:c.fns f=W9)(n:fn.body=W7 b)(t:∀g,gl g=W9->r g=W7 g)(a:ak c r args args')(i:ef c r w v)(s:Reach c r own RO CU v)(H:∀T,Calls P f args (re w T 0) R)(K:∀m d u A B v1,r.le m->Good u B->ef c m B v1->ai c m u A->Reach c m d RO CU v1->Left c r own RO v d v1->Loc P main RO CU Stop d (G (caller.finish A) cs) v1):Loc P main RO CU Stop own (G (Xu.enter P f args' .normal) (caller::cs)) v:=by(have z:EK P c gl (entry f fn b args):=by refine⟨trivial,?_,λx F=>by simp[entry]at F⟩;obtain⟨I,h|⟨h,C⟩⟩:=q.body f fn p o;{simp_all};rw[n]at h;cases h;simp[entry,bJ,C]);have y:uI c r (entry f fn b args) (entry f fn b args'):=⟨rfl,by show ak c r (args++_) (args'++_);rw[a.size];exact a.append (.replicate _ gK),rfl,rfl,.nil⟩;have l:=Fit.O2 z i y t;have k:=uF q j l o n H E;have:=k.loc q (main:=main) (RO:=RO) (CU:=CU) (Stop:=Stop) (caller:=caller) (cs:=cs) z ⟨w.tape,w.drawn,i⟩ y t s K;rw[il args' o,n];exact this
structure ie where
 k:Nat
 low:Nat
 t:Xv
 x:Array Xc
def ie.obj(s:ie):XQ:=.cells s.x (if s.low=0 then s.t else v8) (0,s.x.size)
def gE(g:Nat)(ws:List ie)(v:Xf):Xf:={v with heap:=Array.replicate g (.cells #[] 0)++(ws.map ie.obj).toArray}
def jV(P:Xz)(fns:XC->Bool)(ws:List ie):ej:=
 {fns:=fns,seen:=λb=>P.globals.size<=b/\b<P.globals.size+ws.length,MX:=λb=>if b<P.globals.size then 0 else((ws[b-P.globals.size]?).map λs=>s.x.size).getD 0,aP:=P.globals.size,
   low:=λb=>if b<P.globals.size then 0 else((ws[b-P.globals.size]?).map λs=>s.low).getD 0}
def ll(g:Nat)(ws:List ie):bQ:=λb=>if b<g then Xg else(ws[b-g]?).map λs=>s.k
theorem fM{ws:List ie}{k:Nat}(h:ll g ws b=W7 k):∃(i:Nat)(s:ie),b=g+i/\ws[i]?=W7 s/\s.k=k/\i<ws.length:=by unfold ll at h;grind
theorem LQ{ws:List ie}{s:ie}(h:ws[i]?=W7 s):ll g ws (g+i)=W7 s.k:=by unfold ll;simp_all
theorem lD(g:Nat)(ws:List ie)(v:Xf):(gE g ws v).heap.size=g+ws.length:=by simp[gE]
theorem uW{ws:List ie}{s:ie}(h:ws[i]?=W7 s):(gE g ws v).heap[g+i]?=W7 s.obj:=by show(Array.replicate g _++_)[g+i]?=_;grind
theorem BF{ws:List ie}(h:b<g):(gE g ws v).heap[b]?=W7 (.cells #[] 0):=by show(Array.replicate g _++_)[b]?=_;grind
theorem iq{ws:List ie}{o:Nat}{s:ie}{u:Xc}(h:ws[i]?=W7 s)(a:s.x[o]?=W7 u):(gE g ws v).cell? ⟨g+i,o,Xg⟩=W7 u:=by simp[Xf.cell?,uW h,ie.obj,a]
structure uH(P:Xz)(fns:XC->Bool)(ws:List ie)(v:Xf):Prop where
 kH:P.globals.size<=v.heap.size
 bad:P.info? v8=Xg
 at_:∀(i:Nat)(s:ie),ws[i]?=W7 s->∃(x':Array Xc)(t':Xv)(fr:Nat×Nat),v.heap[s.k]?=W7 (.cells x' t' fr)/\s.x.size<=x'.size/\(s.low=0->s.t=t')/\
  ∀(j:Nat)(u u':Xc),s.low<=j->s.x[j]?=W7 u->x'[j]?=W7 u'->ai (jV P fns ws) (ll P.globals.size ws) u u'
theorem uH.rel{ws:List ie}(h:uH P fns ws v):ef (jV P fns ws) (ll P.globals.size ws) (gE P.globals.size ws v) v:=by refine⟨λb k e=>?_,λb k e=>?_,λb D k e w=>?_,λb g=>?_,λb g _=>BF g,λb k e=>?_,rfl,rfl,λb g=>?_,λb k e q=>?_,?_⟩;{obtain⟨i,s,rfl,f,y,m⟩:=fM e;rw[lD];omega};{obtain⟨i,s,rfl,f,rfl,m⟩:=fM e;obtain⟨C,t,o,p,-⟩:=h.at_ i s f;grind};{obtain⟨i,s,rfl,f,y,m⟩:=fM e;obtain⟨I,J,rfl,x,z,A⟩:=fM w;exact .inr ⟨⟨Vx _ _,by omega⟩,⟨Vx _ _,by omega⟩⟩};{show(if b<P.globals.size then 0 else _)=0;split;{rfl};rename_i H;(have:ws[b-P.globals.size]?=Xg:=by rw[List.getElem?_eq_none_iff];have:¬(P.globals.size<=b/\b<P.globals.size+ws.length):=g;omega);simp_all};{obtain⟨i,s,rfl,f,rfl,m⟩:=fM e;obtain⟨C,t,o,p,B,E,F⟩:=h.at_ i s f;rw[uW f,p];(have l:(jV P fns ws).low (P.globals.size+i)=s.low:=by show(if _<_ then 0 else _)=_;grind);refine .seen _ t o ⟨Vx _ _,by omega⟩ ?_ B ⟨λn=>?_,λn=>?_⟩ λj u K a b d=>?_;{show _<=(if _<_ then 0 else _);grind};{simp_all};{rw[l]at n;rw[if_neg n];exact⟨rfl,Vx _ _⟩};grind};{rw[lD];exact g.2};{obtain⟨i,s,rfl,f,rfl,m⟩:=fM e;have q:P.globals.size+i<P.globals.size:=q;omega};exact⟨by rw[lD];show P.globals.size<=_;omega,h.kH⟩
theorem y5{ws:List ie}{off:Nat}{s:ie}(h:ws[i]?=W7 s)(a:s.low<=off):cZ (jV P fns ws) (ll P.globals.size ws) ⟨P.globals.size+i,off,Xg⟩ ⟨s.k,off,Xg⟩:=by refine⟨LQ h,rfl,rfl,?_⟩;(have b:¬(P.globals.size+i<P.globals.size):=by omega);show(if P.globals.size+i<P.globals.size then 0 else((ws[P.globals.size+i-P.globals.size]?).map λs=>s.low).getD 0)<=off;grind
section
section bar
variable(P)(Good:fV->Xf->Prop)
end bar
section bar
variable{Good:fV->Xf->Prop}
variable(hl:Listed P c gl)(hGood:∀s w T D,Good s w->Good s (re w T D))
include hl hGood
end bar
end
end Go.ab
namespace Go.Mx
variable{i N:Nat}
structure Wd where
 L:Bool
 W:Bool
 S:Bool
 n:Nat
 deriving DecidableEq
def Wd.enc(w:Wd):Nat:=w.L.toNat+2*w.W.toNat+4*w.S.toNat+8*w.n
def Wd.zero:Wd:=⟨W4,W4,W4,0⟩
theorem Wd.wC{w v:Wd}(h:w.enc=v.enc):w=v:=by obtain⟨a,b,c,n⟩:=w;obtain⟨d,e,f,g⟩:=v;cases a<;>cases b<;>cases c<;>cases d<;>cases e<;>cases f<;>simp[Wd.enc]at h⊢<;>omega
inductive Th
 |out|c0
 |ld(aw st:Bool)
 |cs(old:Wd)
 |ca(old:Wd)(aw st:Bool)
 |sq|t2
 |a1(old:Wd)(st:Bool)
 |hold|u0
 |uc(old:Wd)
 |ux|us
def nw(o:Wd)(aw st:Bool):Wd:=⟨!o.S||o.L,!aw&&o.W,o.S||(st&&o.L),if o.L||o.S then o.n+1 else o.n⟩
inductive Mv:Th->Wd->Nat->Th->Wd->Nat->Prop
 |start{w:Wd}{m:Nat}:Mv .out w m .c0 w m
 |Pe{m:Nat}:Mv .c0 ⟨W4,W4,W4,0⟩ m .hold ⟨W9,W4,W4,0⟩ m
 |Kz{w:Wd}{m:Nat}:w≠⟨W4,W4,W4,0⟩->Mv .c0 w m (.ld W4 W4) w m
 |Sv{w:Wd}{m:Nat}{aw st:Bool}:Mv (.ld aw st) w m (.ld aw st) w m
 |TR{w:Wd}{m:Nat}{st:Bool}:w.L=W9->w.S=W4->w.W=W4->w.n≠0->Mv (.ld W4 st) w m (.cs w) w m
 |QK{w:Wd}{m:Nat}{aw st:Bool}:Mv (.ld aw st) w m (.ca w aw st) w m
 |OR{w:Wd}{m:Nat}:Mv (.cs w) w m (.ld W9 W4) {w with W:=W9} m
 |JX{o w:Wd}{m:Nat}:w≠o->Mv (.cs o) w m (.ld W4 W4) w m
 |KU{w:Wd}{m:Nat}{aw st:Bool}:w.L=W4->w.S=W4->Mv (.ca w aw st) w m .hold (nw w aw st) m
 |Ks{w:Wd}{m:Nat}{aw st:Bool}:(w.L||w.S)=W9->Mv (.ca w aw st) w m .sq (nw w aw st) m
 |Jy{o w:Wd}{m:Nat}{aw st:Bool}:Mv (.ca o aw st) w m (.ld aw st) w m
 |Q6{o w:Wd}{m:Nat}{st:Bool}:o.L=W9->o.S=W4->o.W=W4->o.n≠0->Mv (.ca o W4 st) w m (.cs o) w m
 |Ji{o w:Wd}{m:Nat}{aw st:Bool}:w≠o->Mv (.ca o aw st) w m (.ld aw st) w m
 |take{w:Wd}{m:Nat}:Mv .sq w (m+1) .t2 w m
 |Qe{w:Wd}{m:Nat}{st:Bool}:w.S=W9->Mv .t2 w m (.a1 w st) w m
 |RL{w:Wd}{m:Nat}{st:Bool}:w.S=W4->Mv .t2 w m (.ca w W9 st) w m
 |Sz{w:Wd}{m:Nat}{st:Bool}:w.S=W4->Mv .t2 w m (.ld W9 st) w m
 |add{w o:Wd}{m:Nat}{st:Bool}:Mv (.a1 o st) w m .hold ⟨W9,w.W,st&&o.n !=1,w.n-1⟩ m
 |want{w:Wd}{m:Nat}:Mv .hold w m .u0 w m
 |Rm{w:Wd}{m:Nat}:w.S=W9->Mv .u0 w m .us {w with L:=W4} m
 |PD{w:Wd}{m:Nat}:w.S=W4->w.n=0\/w.W=W9->Mv .u0 w m .out {w with L:=W4} m
 |Q2{w:Wd}{m:Nat}:w.S=W4->w.n≠0->w.W=W4->Mv .u0 w m (.uc {w with L:=W4}) {w with L:=W4} m
 |Ot{w:Wd}{m:Nat}:Mv (.uc w) w m .us {w with W:=W9,n:=w.n-1} m
 |JO{o w:Wd}{m:Nat}:w≠o->Mv (.uc o) w m .ux w m
 |NY{w:Wd}{m:Nat}:w.n=0\/w.L=W9\/w.W=W9\/w.S=W9->Mv .ux w m .out w m
 |QX{w:Wd}{m:Nat}:w.n≠0->w.L=W4->w.W=W4->w.S=W4->Mv .ux w m (.uc w) w m
 |AY{w:Wd}{m:Nat}:Mv .us w m .out w (m+1)
def qp:Th->Bool|.hold|.u0=>W9|_=>W4
def AV:Th->Bool|.us|.t2|.a1 _ _=>W9|.ld aw _=>aw|.ca _ aw _=>aw|_=>W4
def pQ:Th->Bool|.sq=>W9|_=>W4
def IV:Th->Bool|.us=>W9|_=>W4
def Cy:Th->Bool|.t2|.a1 _ _=>W9|_=>W4
def IW:Th->Bool|.ld aw _=>aw|.ca _ aw _=>aw|_=>W4
def P2:Th->Bool|.uc _|.ux=>W9|_=>W4
def cnt(p:Th->Bool)(f:Nat->Th):Nat->Nat
 |0=>0
 |N+1=>cnt p f N+(p (f N)).toNat
def upd(f:Nat->Th)(i:Nat)(x:Th):Nat->Th:=λj=>if j=i then x else f j
theorem mj{p:Th->Bool}{f g:Nat->Th}:∀{N:Nat},(∀j,j<N->p (f j)=p (g j))->cnt p f N=cnt p g N|0,_=>rfl|N+1,h=>by simp only[cnt];rw[mj λj b=>h j Ω,h N Ω]
theorem lI(p:Th->Bool)(f:Nat->Th)(x:Th):∀{N:Nat},i<N->cnt p (upd f i x) N+(p (f i)).toNat=cnt p f N+(p x).toNat|N+1,h=>by simp only[cnt];rcases Wi (Wx h)with b|rfl;{have:=lI p f x b;(have e:upd f i x N=f N:=by simp[upd];omega);grind};(have:cnt p (upd f i x) i=cnt p f i:=mj λj c=>by simp[upd];grind);rw[this];simp[upd];omega
theorem pw{p:Th->Bool}{f:Nat->Th}:∀{N i:Nat},i<N->p (f i)=W9->1<=cnt p f N|N+1,i,h,c=>by simp only[cnt];rcases Wi (Wx h)with b|rfl;{have:=pw b c;omega};simp_all
theorem pZ{p:Th->Bool}{f:Nat->Th}:∀{N i j:Nat},i<j->j<N->p (f i)=W9->p (f j)=W9->2<=cnt p f N|N+1,i,j,b,h,c,e=>by simp only[cnt];rcases Wi (Wx h)with d|rfl;{have:=pZ b d c e;omega};have:=pw b c;simp_all
def fT(w:Wd):Th->Prop
 |.ld aw st=>st=W9->aw=W9
 |.ca o aw st=>(st=W9->aw=W9)/\(aw=W9->o.W=W9)
 |.cs o=>o.L=W9/\o.S=W4/\o.W=W4/\o.n≠0
 |.a1 o _=>w.S=W9/\w.L=W4/\1<=o.n/\o.n<=w.n
 |.uc o=>o.L=W4/\o.W=W4/\o.S=W4/\o.n≠0
 |_=>True
structure Inv(f:Nat->Th)(N:Nat)(w:Wd)(m:Nat):Prop where
 i1:cnt qp f N=w.L.toNat
 i2:cnt AV f N+m=(w.W||(w.S&&!w.L)).toNat
 i3:¬(w.W=W9/\w.S=W9)
 i4:if w.W then cnt pQ f N=w.n+m+cnt IV f N else if w.S&&!w.L then cnt pQ f N+cnt Cy f N=w.n else cnt pQ f N=w.n
 i5:w.L=W4->w.W=W4->w.S=W4->w.n≠0->1<=cnt P2 f N
 i6:w.S=W9->w.n≠0
 i8:w.W=W4->cnt IW f N=0
 loc:∀i,i<N->fT w (f i)
section
theorem vO(f:Nat->Th)(N:Nat):cnt AV f N=cnt IV f N+cnt Cy f N+cnt IW f N:=by induction N with|zero=>rfl|succ N c=>simp only[cnt];(have:∀t:Th,(AV t).toNat=(IV t).toNat+(Cy t).toNat+(IW t).toNat:=by intro t;cases t with|ld a b=>cases a<;>rfl|ca o a b=>cases a<;>rfl|_=>rfl);grind
section
variable{f:Nat->Th}{w w':Wd}{m m':Nat}{x:Th}
theorem xh(a:i<N)(c:fT w' x)(h:∀j,j<N->j≠i->fT w' (f j)):∀j,j<N->fT w' (upd f i x j):=by intro j b;unfold upd;grind
theorem Fg{t:Th}(h:fT w t)(j:w.S=W9->w.L=W4->w'.S=W9/\w'.L=W4/\w.n<=w'.n):fT w' t:=by cases t with|a1 o l=>obtain⟨d,e,g,k⟩:=h;obtain⟨a,b,c⟩:=j d e;exact⟨a,b,g,by omega⟩|_=>exact h
set_option maxHeartbeats 4000000 in theorem Inv.step(h:Inv f N w m)(c:i<N)(u:Mv (f i) w m x w' m'):Inv (upd f i x) N w' m':=by have g:=lI qp f x c;have k:=lI IV f x c;have l:=lI Cy f x c;have q:=lI IW f x c;have r:=lI pQ f x c;have s:=lI P2 f x c;have s1:=vO f N;have s2:=vO (upd f i x) N;have v:=h.loc i c;have d:∀p:Th->Bool,p (f i)=W9->1<=cnt p f N:=λp Z=>pw c Z;obtain⟨J,K,M,O,P,Q,R,e⟩:=h;have a:fT w' x->(w.S=W9->w.L=W4->w'.S=W9/\w'.L=W4/\w.n<=w'.n)->∀j,j<N->fT w' (upd f i x j):=λE F=>xh c E λj t _=>Fg (e j t) F;have H:fT w' x->(∀j,j<N->j≠i->fT w' (f j))->∀j,j<N->fT w' (upd f i x j):=xh c;(have b:fT w' x->(2<=cnt Cy f N->False)->Cy (f i)=W9->∀j,j<N->fT w' (upd f i x j):=λE F T=>xh c E λj t I=>by have:=e j t;cases V:f j with|a1 o Y=>refine(F ?_).elim;(have U:Cy (f j)=W9:=by rw[V];rfl);rcases Nat.lt_or_gt_of_ne I with G|G;{exact pZ G c U T};exact pZ G t T U|_=>rw[V]at this;exact this);have z:=d qp;have A:=d IV;have B:=d Cy;have C:=d IW;clear d;generalize hy:f i=y at u g k l q r s v z A B C b;clear hy;obtain⟨L,W,S,n⟩:=w;cases y with|ld D Y=>cases D<;>cases L<;>cases W<;>cases S<;>cases u<;>(try dsimp only[Bool.or_true,Bool.or_false,Bool.true_or,Bool.false_or]at*)<;>(try contradiction)<;>(try simp only[U5,or_false,false_or]at*)<;>(simp[qp,IV,Cy,IW,pQ,P2,nw,fT]at J K M O P Q R g k l q r s v z A B C<;>(refine⟨?_,?_,?_,?_,?_,?_,?_,?_⟩<;>first|(simp[nw]<;>omega)|omega|(refine a ?_ ?_<;>simp[fT,nw]<;>omega)|(refine a ⟨‹_›,‹_›,‹_›,‹_›⟩ ?_;simp;done)|(refine a ⟨‹_›,‹_›,‹_›,‹_›⟩ ?_;simp;omega)|(refine b ?_ (λX=>?_) rfl<;>(try simp[fT,nw])<;>omega)))|ca o D Y=>cases D<;>cases L<;>cases W<;>cases S<;>cases u<;>(try dsimp only[Bool.or_true,Bool.or_false,Bool.true_or,Bool.false_or]at*)<;>(try contradiction)<;>(try simp only[U5,or_false,false_or]at*)<;>(simp[qp,IV,Cy,IW,pQ,P2,nw,fT]at J K M O P Q R g k l q r s v z A B C<;>(refine⟨?_,?_,?_,?_,?_,?_,?_,?_⟩<;>first|(simp[nw]<;>omega)|omega|(refine a ?_ ?_<;>simp[fT,nw]<;>omega)|(refine a ⟨‹_›,‹_›,‹_›,‹_›⟩ ?_;simp;done)|(refine a ⟨‹_›,‹_›,‹_›,‹_›⟩ ?_;simp;omega)|(refine b ?_ (λX=>?_) rfl<;>(try simp[fT,nw])<;>omega)))|_=>cases L<;>cases W<;>cases S<;>cases u<;>(try dsimp only[Bool.or_true,Bool.or_false,Bool.true_or,Bool.false_or]at*)<;>(try contradiction)<;>(try simp only[U5,or_false,false_or]at*)<;>(simp[qp,IV,Cy,IW,pQ,P2,nw,fT]at J K M O P Q R g k l q r s v z A B C<;>(refine⟨?_,?_,?_,?_,?_,?_,?_,?_⟩<;>first|(simp[nw]<;>omega)|omega|(refine a ?_ ?_<;>simp[fT,nw]<;>omega)|(refine b ?_ (λX=>?_) rfl<;>(try simp[fT,nw])<;>omega)))
end
end
theorem pA{p:Th->Bool}{f:Nat->Th}:∀{N:Nat},(∀i,i<N->p (f i)=W4)->cnt p f N=0|0,_=>rfl|N+1,h=>by simp only[cnt];rw[pA λi b=>h i Ω,h N Ω];rfl
theorem Inv.JP{f:Nat->Th}{w:Wd}(h:Inv f N w 0)(b:∀i,i<N->f i=.out\/f i=.sq):∀i,i<N->f i=.out:=by(have z:∀p:Th->Bool,p .out=W4->p .sq=W4->cnt p f N=0:=λp l m=>pA λi a=>by grind);obtain⟨c,d,q,g,j,r,s,k⟩:=h;rw[z qp rfl rfl]at c;rw[z AV rfl rfl]at d;rw[z IV rfl rfl,z Cy rfl rfl]at g;rw[z P2 rfl rfl]at j;obtain⟨L,W,S,n⟩:=w;(have o:cnt pQ f N=0:=by grind);intro i a;rcases b i a with e|e;{exact e};have:=pw (p:=pQ) (f:=f) a (by rw[e];rfl);omega
def wt:Th->Nat
 |.uc _|.ux=>5
 |.us=>4
 |.t2|.a1 _ _=>2
 |.ld aw _|.ca _ aw _=>if aw then 1 else 2
 |.cs _=>2
 |.c0=>2
 |_=>0
end Go.Mx
namespace Go.Rk
variable{α:Type}
inductive Rk(α:Type)where
 |z
 |s(f:α->Rk α)
def Lt{α:Type}(a b:Rk α):Prop:=∃f x,b=.s f/\a=f x
theorem Lt.Uu:WellFounded (Lt (α:=α)):=by refine⟨λa=>?_⟩;induction a with|z=>exact⟨_,λb⟨f,x,h,_⟩=>by cases h⟩|s g c=>refine⟨_,λb⟨f,x,h,e⟩=>?_⟩;cases h;rw[e];exact c x
abbrev Eu{α:Type}:Rk α->Rk α->Prop:=Relation.TransGen Lt
theorem Lt.wf:WellFounded (Eu (α:=α)):=Lt.Uu.transGen
theorem ri(f:α->Rk α)(x:α):Eu (f x) (.s f):=.single ⟨f,x,rfl,rfl⟩
theorem SK(f:α->Rk α)(x:α):Eu (f x) (.s λ_=>.s f):=.tail (.single ⟨f,x,rfl,rfl⟩) ⟨_,x,rfl,rfl⟩
def P3{α:Type}(N:Nat)(V' V:Nat->Rk α):Prop:=∃i,i<N/\Eu (V' i) (V i)/\∀j,j≠i->V' j=V j
theorem P3.wf{α:Type}:∀N:Nat,WellFounded (P3 (α:=α) N)|0=>⟨λV=>⟨_,λc⟨i,h,_⟩=>absurd h (Vz i)⟩⟩|N+1=>by have j:=P3.wf (α:=α) N;(have f:∀d:Rk α,∀V:Nat->Rk α,V N=d->Acc (P3 (N+1)) V:=by intro d;induction Lt.wf.apply d with|intro d _ l=>intro V;induction j.apply V with|intro V _ e=>intro g;refine⟨_,λc⟨i,k,b,a⟩=>?_⟩;rcases Wi (Wx k)with h|rfl;{exact e c ⟨i,h,b,a⟩ ((a N Ω).trans g)};exact l (c i) (g▸b) c rfl);exact⟨λV=>f _ V rfl⟩
end Go.Rk
namespace Go.Cr
open Go.Conc Go.Mx Go.Rk
open Go.ConcR(KK WgAt stA smA rd wr mk)
open Go.ConcM(OsLater)
variable{g g':Xh}{own' O:Nat->Prop}{es:Array XV}{v':Xf}
section
structure Cx where
 P:Xz
 RO:Nat->Prop
 mu:Nat
 mo:Nat
 pre:Array Xc
 tP:Xv
 mm:Nat
 A9:Array X3->Prop
 wg:Nat
 tW:Xv
 out:Nat
 tO:Xv
 no:Nat
 oc:Nat->Nat->Prop
 res:Nat->Xc
 base:Nat
 n:Nat
 End:Xh->Xf->Prop
 w0:Xf
 solo:Prop
 halt:(Nat->Prop)->Xh->Xf->Prop
 sB:Int->Int->XQ
variable(C:Cx)
def Cx.muA:XU:=⟨C.mu,C.mo,Xg⟩
def Cx.msA:XU:=⟨C.mu,C.mo+1,Xg⟩
def az(v:Xf)(s q:Int):Prop:=v.heap[C.mu]?=W7 (.cells (C.pre++#[.int .i32 s,.int .u32 q]) C.tP)
def cH(v:Xf)(w:Wd)(q:Nat):Prop:=az C v w.enc q
def Ra(v:Xf)(es:Array X3):Prop:=∃ck,v.heap[C.mm]?=W7 (.map es ck)
def au(v:Xf):Prop:=∃es,Ra C v es/\C.A9 es
def Cl(v:Xf):Prop:=∃cs:Array Xc,v.heap[C.out]?=W7 (.cells cs C.tO)/\cs.size=C.no
structure cW(v:Xf):Prop where
 port:∃s q,az C v s q
 gD:∃st sm,v.heap[C.wg]?=W7 (C.sB st sm)
 uD:Cl C v
structure W0(w:Xf):Prop where
 os:OsLater C.w0.os w.os
 out:w.output=C.w0.output
 tape:w.tape=C.w0.tape
structure Cx.Ok:Prop where
 pre:C.pre.size=C.mo
 lT:C.mu≠C.mm
 gn:C.mu≠C.wg
 fZ:C.mu≠C.out
 nS:C.mm≠C.wg
 mi:C.mm≠C.out
 iZ:C.wg≠C.out
 ro:∀k,C.RO k->k≠C.mu/\k≠C.mm/\k≠C.wg/\k≠C.out
 oc:∀i j o,C.oc i o->C.oc j o->i=j
 Uh:∀o,¬C.oc 0 o
structure Env(i:Nat)(own:Nat->Prop)(v v1:Xf):Prop where
 keep:∀k,own k\/C.RO k->v1.heap[k]?=v.heap[k]?
 grow:v.heap.size<=v1.heap.size
 aP:cW C v->cW C v1
 BI:∀o,C.oc i o->v1.cell? ⟨C.out,o,Xg⟩=v.cell? ⟨C.out,o,Xg⟩
def Cx.CU(k n:Nat):Prop:=k=C.mu/\n<=C.mo
def Cx.wk(i:Nat):Prop:=i≠0\/C.solo
def qX(own:Nat->Prop)(e:XV):Prop:=ab.TX own C.RO (λ_ _=>False) e\/∃o,o<C.mo/\e=⟨.cell ⟨C.mu,o,Xg⟩,W4,W4⟩
structure lH(own:Nat->Prop)(v v':Xf)(es:Array XV):Prop where
 keep:∀k,k<v.heap.size->¬own k->v'.heap[k]?=v.heap[k]?
 grow:v.heap.size<=v'.heap.size
 os:v'.os=v.os
 out:v'.output=v.output
 tape:v'.tape=v.tape
 evs:∀e∈es,qX C (ab.more own v v') e
structure Sy(i:Nat)(v v':Xf)(es:Array XV):Prop where
 keep:∀k,k≠C.out->v'.heap[k]?=v.heap[k]?
 size:v'.heap.size=v.heap.size
 os:v'.os=v.os
 out:v'.output=v.output
 tape:v'.tape=v.tape
 blk:Cl C v->Cl C v'
 cells:∀o,¬C.oc i o->v'.cell? ⟨C.out,o,Xg⟩=v.cell? ⟨C.out,o,Xg⟩
 evs:∀e∈es,∃o,C.oc i o/\e=⟨.cell ⟨C.out,o,Xg⟩,W9,W4⟩
def Fin(i:Nat)(v:Xf):Prop:=∀o,C.oc i o->v.cell? ⟨C.out,o,Xg⟩=W7 (C.res o)
structure DL(w w':Xf)(es:Array XV):Prop where
 heap:w'.heap=w.heap
 tape:w'.tape=w.tape
 out:w'.output=w.output
 os:OsLater w.os w'.os
 evs:es=#[]
structure Md where
 hold:Bool
 deaf:Bool
 tok:Bool
 said:Bool
def Md.free:Md:=⟨W4,W4,W4,W4⟩
def Md.bK:Md:=⟨W4,W9,W4,W4⟩
def Md.mE:Md:=⟨W9,W9,W4,W4⟩
def Md.Br:Md:=⟨W9,W4,W4,W4⟩
def Md.own:Md:=⟨W9,W4,W9,W4⟩
def Md.At:Md:=⟨W4,W4,W4,W9⟩
def Md.vj:Md:=⟨W4,W9,W4,W9⟩
def fA(m:Md)(own:Nat->Prop):Nat->Prop:=λk=>own k\/(m.tok=W9/\k=C.mm)
inductive i7(i:Nat):Md->Mark->Md->Prop
 |P7:i7 i .free .disable .bK
 |Ko:i7 i .Br .disable .mE
 |KA:i7 i .At .disable .vj
 |en:i7 i .bK .enable .free
 |Qo:i7 i .mE .enable .Br
 |acq:i7 i .Br (.acquire C.muA) .own
 |Dv:i7 i .own (.releaseMerge C.muA) .Br
 |EC:i≠0->i7 i .free (.releaseMerge (stA C.wg)) .At
 |sr{m:Md}:i=0->m.tok=W4->i7 i m (.read (smA C.wg)) m
section stops
variable(i:Nat)(own:Nat->Prop)
abbrev cI(S:Xh->Xf->Prop)(n:Nat)(g:Xh)(w:Xf):Prop:=Goes C.P (i==0) (Env C i own) DL S n g w
section lock
variable(H:Wd->Bool->Bool->Nat->Xh->Xf->Prop)(Q:Xh->Xf->Prop)
def uL(aw st:Bool)(it:Nat)(g:Xh)(w:Xf):Prop:=
 g.status=.running/\∀wd q,cH C w wd q->(aw=W9->wd.W=W9)->∃g',Xp C.P (i==0) g w=.go g' w #[]/\∃n,cI C i own (H wd aw st it) n g' w
def Nv(o:Wd)(it:Nat)(g:Xh)(w:Xf):Prop:=
 g.status=.running/\∀wd q,cH C w wd q->
   (wd=o->∃g',Xp C.P (i==0) g w=.go g' (w.setCell C.muA (.int .i32 ({wd with W:=W9}:Wd).enc)) #[rd C.muA,wr C.muA]/\∃n,cI C i own (uL C i own H W9 W4 (it+1)) n g' (w.setCell C.muA (.int .i32 ({wd with W:=W9}:Wd).enc)))/\
   (wd≠o->∃g',Xp C.P (i==0) g w=.go g' w #[rd C.muA]/\∃n,cI C i own (uL C i own H W4 W4 (it+1)) n g' w)
def AtA1(o:Wd)(st:Bool)(g:Xh)(w:Xf):Prop:=
 g.status=.running/\∀wd q,cH C w wd q->wd.n<100000000->wd.L=W4->wd.S=W9->wd.n≠0->
   ∃g',Xp C.P (i==0) g w=.go g' (w.setCell C.muA (.int .i32 (⟨W9,wd.W,st&&o.n !=1,wd.n-1⟩:Wd).enc)) #[rd C.muA,wr C.muA]/\Q g' (w.setCell C.muA (.int .i32 (⟨W9,wd.W,st&&o.n !=1,wd.n-1⟩:Wd).enc))
def Lz(g:Xh)(w:Xf):Prop:=
 g.status=.running/\∃st,∀wd q,cH C w wd q->wd.n<100000000->(wd.S=W9->wd.L=W4/\wd.W=W4/\wd.n≠0)->(wd.S=W4->wd.W=W9)->∃g',Xp C.P (i==0) g w=.go g' w #[]/\
   (wd.S=W9->∃n,cI C i own (AtA1 C i Q wd st) n g' w)/\(wd.S=W4->∃n,cI C i own (H wd W9 st 0) n g' w)
def De(g:Xh)(w:Xf):Prop:=
 g.status=.running/\g.offers=Xg/\(∀wd,cH C w wd 0->Xp C.P (i==0) g w=.go {g with status:=.blocked} w #[])/\
   ∀wd q,cH C w wd (q+1)->∃g',Xp C.P (i==0) g w=.go g' (w.setCell C.msA (.int .u32 (q:Nat))) (semEvents C.msA)/\∃n,cI C i own (Lz C i own H Q) n g' (w.setCell C.msA (.int .u32 (q:Nat)))
def PN(o:Wd)(aw st:Bool)(it:Nat)(g:Xh)(w:Xf):Prop:=
 g.status=.running/\∀wd q,cH C w wd q->
   (wd=o->∃g',Xp C.P (i==0) g w=.go g' (w.setCell C.muA (.int .i32 (nw o aw st).enc)) #[rd C.muA,wr C.muA]/\
    (o.L=W4->o.S=W4->Q g' (w.setCell C.muA (.int .i32 (nw o aw st).enc)))/\((o.L||o.S)=W9->∃n,cI C i own (De C i own H Q) n g' (w.setCell C.muA (.int .i32 (nw o aw st).enc))))/\
   (wd≠o->∃g',Xp C.P (i==0) g w=.go g' w #[rd C.muA]/\∃n,cI C i own (uL C i own H aw st it) n g' w)
def gY(o:Wd)(aw st:Bool)(it:Nat)(g:Xh)(w:Xf):Prop:=
 (it<4/\uL C i own H aw st (it+1) g w)\/(it<4/\o.L=W9/\o.S=W4/\o.W=W4/\o.n≠0/\aw=W4/\Nv C i own H o it g w)\/PN C i own H Q o aw st it g w
def jo:Prop:=∀o aw st it g w,it<=4->(aw=W9->o.W=W9)->(st=W9->aw=W9)->o.n<100000000->H o aw st it g w->∃n,cI C i own (gY C i own H Q o aw st it) n g w
end lock
section unlock
variable(HU:Wd->Xh->Xf->Prop)(Q:Xh->Xf->Prop)
def Bw(g:Xh)(w:Xf):Prop:=
 g.status=.running/\mayWake C.P g=W9/\∀wd q,q<100000000->cH C w wd q->∃g',Xp C.P (i==0) g w=.go g' (w.setCell C.msA (.int .u32 (q+1:Nat))) (semEvents C.msA)/\∃n,cI C i own Q n g' (w.setCell C.msA (.int .u32 (q+1:Nat)))
def Ju(g:Xh)(w:Xf):Prop:=
 g.status=.running/\∀wd q,cH C w wd q->wd.n<100000000->∃g',Xp C.P (i==0) g w=.go g' w #[]/\
   (wd.n=0\/wd.L=W9\/wd.W=W9\/wd.S=W9->∃n,cI C i own Q n g' w)/\(wd.n≠0->wd.L=W4->wd.W=W4->wd.S=W4->∃n,cI C i own (HU wd) n g' w)
def Ef(o:Wd)(g:Xh)(w:Xf):Prop:=
 g.status=.running/\∀wd q,cH C w wd q->
   (wd=o->∃g',Xp C.P (i==0) g w=.go g' (w.setCell C.muA (.int .i32 ({wd with W:=W9,n:=wd.n-1}:Wd).enc)) #[rd C.muA,wr C.muA]/\∃n,cI C i own (Bw C i own Q) n g' (w.setCell C.muA (.int .i32 ({wd with W:=W9,n:=wd.n-1}:Wd).enc)))/\
   (wd≠o->∃g',Xp C.P (i==0) g w=.go g' w #[rd C.muA]/\∃n,cI C i own (Ju C i own HU Q) n g' w)
def Bq:Prop:=∀o g w,o.L=W4->o.W=W4->o.S=W4->o.n≠0->o.n<100000000->HU o g w->∃n,cI C i own (Ef C i own HU Q o) n g w
def Pv(g:Xh)(w:Xf):Prop:=
 g.status=.running/\∀wd q,cH C w wd q->wd.L=W9->wd.n<100000000->
   ∃g',Xp C.P (i==0) g w=.go g' (w.setCell C.muA (.int .i32 ({wd with L:=W4}:Wd).enc)) #[rd C.muA,wr C.muA]/\
     (wd.S=W9->∃n,cI C i own (Bw C i own Q) n g' (w.setCell C.muA (.int .i32 ({wd with L:=W4}:Wd).enc)))/\
     (wd.S=W4->(wd.n=0\/wd.W=W9)->∃n,cI C i own Q n g' (w.setCell C.muA (.int .i32 ({wd with L:=W4}:Wd).enc)))/\
     (wd.S=W4->wd.n≠0->wd.W=W4->∃n,cI C i own (Ef C i own HU Q {wd with L:=W4}) n g' (w.setCell C.muA (.int .i32 ({wd with L:=W4}:Wd).enc)))
end unlock
def Nl(H:Wd->Bool->Bool->Nat->Xh->Xf->Prop)(Q:Xh->Xf->Prop)(g:Xh)(w:Xf):Prop:=
 g.status=.running/\∀wd q,cH C w wd q->
   (wd=⟨W4,W4,W4,0⟩->∃g',Xp C.P (i==0) g w=.go g' (w.setCell C.muA (.int .i32 1)) #[rd C.muA,wr C.muA]/\Q g' (w.setCell C.muA (.int .i32 1)))/\
   (wd≠⟨W4,W4,W4,0⟩->∃g',Xp C.P (i==0) g w=.go g' w #[rd C.muA]/\∃n,cI C i own (uL C i own H W4 W4 0) n g' w)
def AtD4(g:Xh)(w:Xf):Prop:=
 g.status=.running/\mayWake C.P g=W9/\(WgAt C.tW C.wg w 0 0->∃g',Xp C.P (i==0) g w=.go g' (w.setCell (smA C.wg) (.int .u32 1)) (semEvents (smA C.wg))/\∃q,QuitsD C.P q 1 g')
def AtD3(g:Xh)(w:Xf):Prop:=
 g.status=.running/\(WgAt C.tW C.wg w 1 0->∃g',Xp C.P (i==0) g w=.go g' (w.setCell (stA C.wg) (.int .u64 0)) #[wr (stA C.wg)]/\∃n,cI C i own (AtD4 C i) n g' (w.setCell (stA C.wg) (.int .u64 0)))
def AtD2(g:Xh)(w:Xf):Prop:=
 g.status=.running/\(WgAt C.tW C.wg w 1 0->∃g',Xp C.P (i==0) g w=.go g' w #[rd (stA C.wg)]/\∃n,cI C i own (AtD3 C i own) n g' w)
def AtD1(g:Xh)(w:Xf):Prop:=
 g.status=.running/\∀v wt:Nat,wt<=1->v<100000000->WgAt C.tW C.wg w ((v+1)*KK+wt) 0->
   ∃g',Xp C.P (i==0) g w=.go g' (w.setCell (stA C.wg) (.int .u64 (v*KK+wt))) #[rd (stA C.wg),wr (stA C.wg)]/\
     ((v=0/\wt=1)->∃n,cI C i own (AtD2 C i own) n g' (w.setCell (stA C.wg) (.int .u64 (v*KK+wt))))/\(¬(v=0/\wt=1)->∃q,QuitsD C.P q 1 g')
section wait
variable(A:Xh->Xf->Prop)
def AtAcq(g:Xh)(w:Xf):Prop:=
 g.status=.running/\∃g',Xp C.P (i==0) g w=.go g' w #[mk (.acquire (stA C.wg))]/\(cW C w->(∀j,Fin C j w)->cH C w ⟨W4,W4,W4,0⟩ 0->W0 C w->C.End g' w)
def AtKe(g:Xh)(w:Xf):Prop:=
 g.status=.running/\∃g',Xp C.P (i==0) g w=.go g' w #[mk .enable]/\∃n,cI C i own (AtAcq C i) n g' w
def AtW4(g:Xh)(w:Xf):Prop:=
 g.status=.running/\(WgAt C.tW C.wg w 0 0->∃g',Xp C.P (i==0) g w=.go g' w #[rd (stA C.wg)]/\∃n,cI C i own (AtKe C i own) n g' w)
def AtW3(g:Xh)(w:Xf):Prop:=
 g.status=.running/\g.offers=Xg/\((∃st,WgAt C.tW C.wg w st 0)->Xp C.P (i==0) g w=.go {g with status:=.blocked} w #[])/\
   (WgAt C.tW C.wg w 0 1->∃g',Xp C.P (i==0) g w=.go g' (w.setCell (smA C.wg) (.int .u32 0)) (semEvents (smA C.wg))/\∃n,cI C i own (AtW4 C i own) n g' (w.setCell (smA C.wg) (.int .u32 0)))
def Rf(g:Xh)(w:Xf):Prop:=
 g.status=.running/\∃g',Xp C.P (i==0) g w=.go g' w #[mk (.write (smA C.wg))]/\∃n,cI C i own (AtW3 C i own) n g' w
def AtW2(vs:Nat)(g:Xh)(w:Xf):Prop:=
 g.status=.running/\∀v:Nat,v<100000000->WgAt C.tW C.wg w (v*KK) 0->
   (v=vs->∃g',Xp C.P (i==0) g w=.go g' (w.setCell (stA C.wg) (.int .u64 (v*KK+1))) #[rd (stA C.wg),wr (stA C.wg)]/\∃n,cI C i own (Rf C i own) n g' (w.setCell (stA C.wg) (.int .u64 (v*KK+1))))/\
   (v≠vs->∃g',Xp C.P (i==0) g w=.go g' w #[rd (stA C.wg)]/\∃n,cI C i own A n g' w)
def AtW1(g:Xh)(w:Xf):Prop:=
 g.status=.running/\∀v:Nat,v<100000000->WgAt C.tW C.wg w (v*KK) 0->∃g',Xp C.P (i==0) g w=.go g' w #[rd (stA C.wg)]/\
   (v=0->∃n,cI C i own (AtKe C i own) n g' w)/\(v≠0->∃n,cI C i own (AtW2 C i own A v) n g' w)
def y6:Prop:=∀g w,A g w->∃n,cI C i own (AtW1 C i own A) n g w
end wait
def TZ(c:Nat->Xh->Xf->Prop)(g:Xh)(w:Xf):Prop:=
 g.status=.running/\∀v:Nat,v<100000000->WgAt C.tW C.wg w (v*KK) 0->
   ∃g',Xp C.P (i==0) g w=.go g' (w.setCell (stA C.wg) (.int .u64 ((v+1)*KK))) #[rd (stA C.wg),wr (stA C.wg)]/\c v g' (w.setCell (stA C.wg) (.int .u64 ((v+1)*KK)))
end stops
abbrev Ix:=Xh×Xf×Xf
inductive fQ:Nat->Nat->Md->Rk Ix->(Nat->Prop)->Xh->Xf->Prop
 |step{i j:Nat}{m:Md}{f:Ix->Rk Ix}{own:Nat->Prop}{g:Xh}{v:Xf}:g.status=.running->m.said=W4->
  (∀v1,Env C i (fA C m own) v v1->∃g' v' es,Xp C.P (i==0) g v1=.go g' v' es/\lH C (fA C m own) v1 v' es)->
  (∀v1 g' v' es,Env C i (fA C m own) v v1->Xp C.P (i==0) g v1=.go g' v' es->fQ i j m (f (g',v1,v')) (ab.more own v1 v') g' v')->fQ i j m (.s f) own g v
 |idle{i j:Nat}{m:Md}{f:Ix->Rk Ix}{own:Nat->Prop}{g:Xh}{v:Xf}:g.status=.running->
  (∀v1,Env C i (fA C m own) v v1->∃g' v',Xp C.P (i==0) g v1=.go g' v' #[]/\DL v1 v' #[])->
  (∀v1 g' v' es,Env C i (fA C m own) v v1->Xp C.P (i==0) g v1=.go g' v' es->fQ i j m (f (g',v1,v')) own g' v')->fQ i j m (.s f) own g v
 |mark{i j:Nat}{m m':Md}{k:Mark}{f:Ix->Rk Ix}{own:Nat->Prop}{g:Xh}{v:Xf}:g.status=.running->i7 C i m k m'->
  (∀v1,Env C i (fA C m own) v v1->∃g',Xp C.P (i==0) g v1=.go g' v1 #[mk k])->(k=.releaseMerge C.muA->m=.own/\au C v)->(k=.releaseMerge (stA C.wg)->Fin C i v)->
  (∀v1 g' v' es,Env C i (fA C m own) v v1->(k=.acquire C.muA->au C v1)->Xp C.P (i==0) g v1=.go g' v' es->fQ i j m' (f (g',v1,v1)) own g' v1)->fQ i j m (.s f) own g v
 |lock{i j:Nat}{f:Ix->Rk Ix}{own:Nat->Prop}{g:Xh}{v:Xf}(H:Wd->Bool->Bool->Nat->Xh->Xf->Prop)(Q:Xh->Xf->Prop):g.status=.running->C.wk i->
  (∀g v1 v2,Q g v1->Env C i own v1 v2->Q g v2)->jo C i own H Q->(∀v1,Env C i own v v1->Nl C i own H Q g v1)->
  (∀g' v1,Env C i own v v1->Q g' v1->fQ i j .mE (f (g',v1,v1)) own g' v1)->fQ i j .bK (.s λ_=>.s f) own g v
 |unlock{i j:Nat}{f:Ix->Rk Ix}{own:Nat->Prop}{g:Xh}{v:Xf}(HU:Wd->Xh->Xf->Prop)(Q:Xh->Xf->Prop):g.status=.running->C.wk i->
  (∀g v1 v2,Q g v1->Env C i own v1 v2->Q g v2)->Bq C i own HU Q->(∀v1,Env C i own v v1->Pv C i own HU Q g v1)->
  (∀g' v1,Env C i own v v1->Q g' v1->fQ i j .bK (f (g',v1,v1)) own g' v1)->fQ i j .mE (.s λ_=>.s f) own g v
 |put{i j:Nat}{f:Ix->Rk Ix}{own:Nat->Prop}{g:Xh}{v:Xf}:g.status=.running->i≠0->
  (∀v1,Env C i own v v1->cW C v1->∃g' v' es,Xp C.P (i==0) g v1=.go g' v' es/\Sy C i v1 v' es)->
  (∀v1 g' v' es,Env C i own v v1->cW C v1->Xp C.P (i==0) g v1=.go g' v' es->fQ i j .free (f (g',v1,v')) own g' v')->fQ i j .free (.s f) own g v
 |done{i j:Nat}{own:Nat->Prop}{g:Xh}{v:Xf}:i≠0->(∀v1,Env C i own v v1->AtD1 C i own g v1)->fQ i j .vj (.s λ_=>.z) own g v
 |add{i x:Nat}{f:Ix->Rk Ix}{own:Nat->Prop}{g:Xh}{v:Xf}(c:Nat->Xh->Xf->Prop):i=0->(∀v1,Env C i own v v1->TZ C i c g v1)->
  (∀v1 y g',Env C i own v v1->c y g' v1->fQ i (2*x+1) .bK (f (g',v1,v1)) own g' v1)->fQ i (2*x) .bK (.s f) own g v
 |spawn{i x:Nat}{f ρ:Ix->Rk Ix}{own ownc:Nat->Prop}{g:Xh}{v:Xf}:i=0->g.status=.running->x<C.n->(∀k,ownc k->own k)->
  (∀v1,Env C i own v v1->∃g' child,Xp C.P (i==0) g v1=.spawn g' child v1 #[]/\child.status=.running)->
  (∀v1 g' child v' es,Env C i own v v1->Xp C.P (i==0) g v1=.spawn g' child v' es->fQ (C.base+x) 0 .free (ρ (child,v1,v1)) ownc child v1)->
  (∀v1 g' child v' es,Env C i own v v1->Xp C.P (i==0) g v1=.spawn g' child v' es->fQ i (2*x+2) .free (f (g',v1,v1)) (λk=>own k/\¬ownc k) g' v1)->
  fQ i (2*x+1) .free (.s f) own g v
 |wait{i:Nat}{own:Nat->Prop}{g:Xh}{v:Xf}(A:Xh->Xf->Prop):i=0->y6 C i own A->(∃n,cI C i own A n g v)->fQ i (2*C.n) .bK .z own g v
 |stop{i j:Nat}{own:Nat->Prop}{g:Xh}{v:Xf}:C.solo->g.status=.running->(∀v1,Env C i own v v1->C.halt own g v1)->fQ i j .free .z own g v
end
section
variable{C:Cx}{i j:Nat}{m:Md}{own:Nat->Prop}{v v1 v2:Xf}
theorem Env.refl:Env C i own v v:=⟨λ_ _=>rfl,Uv _,id,λ_ _=>rfl⟩
theorem Env.trans(h:Env C i own v v1)(k:Env C i own v1 v2):Env C i own v v2:=⟨λx b=>(k.keep x b).trans (h.keep x b),UW h.grow k.grow,λx=>k.aP (h.aP x),λo a=>(k.BI o a).trans (h.BI o a)⟩
theorem Env.sub(h:Env C i own v v1)(b:∀k,own' k->own k):Env C i own' v v1:=⟨λk a=>h.keep k (a.imp (b k) id),h.grow,h.aP,h.BI⟩
theorem Env.fN(h:Env C i (fA C m own) v v1):Env C i own v v1:=h.sub λ_ a=>.inl a
theorem Env.Kx(h:Env C i own v v1)(b:m.tok=W4):Env C i (fA C m own) v v1:=h.sub λ_ a=>a.resolve_right (by simp[b])
theorem Env.T1(l:C.pre.size=C.mo)(a:cW C v)(h:Env C i O v v1):ab.Env O C.RO C.CU v v1:=⟨h.keep,λk n e x t f p=>by obtain⟨rfl,o⟩:=e;obtain⟨s,q,c⟩:=a.port;obtain⟨u,r,d⟩:=(h.aP a).port;unfold az at c d;grind,h.grow⟩
theorem bN(a b c:Xf)(h:Env C i own a b)(k:Env C i own b c):Env C i own a c:=h.trans k
theorem au.env(h:au C v)(e:Env C i own v v1)(f:own C.mm):au C v1:=by obtain⟨b,⟨a,d⟩,c⟩:=h;exact⟨b,⟨a,(e.keep _ (.inl f)).trans d⟩,c⟩
theorem Fin.env(h:Fin C i v)(b:Env C i own v v1):Fin C i v1:=λo a=>(b.BI o a).trans (h o a)
theorem fQ.env{ρ:Rk Ix}(h:fQ C i j m ρ own g v)(b:Env C i (fA C m own) v v1):fQ C i j m ρ own g v1:=by cases h with|step d f k p=>exact .step d f (λx a=>k x (b.trans a)) λx l q o a=>p x l q o (b.trans a)|idle d f k=>exact .idle d (λx a=>f x (b.trans a)) λx l q o a=>k x l q o (b.trans a)|mark d f k p s t=>exact .mark d f (λx a=>k x (b.trans a)) (λe=>⟨(p e).1,(p e).2.env b (by rw[(p e).1];exact .inr ⟨rfl,rfl⟩)⟩) (λe=>(s e).env b) λx l q o a=>t x l q o (b.trans a)|lock H Q d r f k p s=>exact .lock H Q d r f k (λx a=>p x (b.fN.trans a)) λl x a=>s l x (b.fN.trans a)|unlock H Q d r f k p s=>exact .unlock H Q d r f k (λx a=>p x (b.fN.trans a)) λl x a=>s l x (b.fN.trans a)|put d r f k=>exact .put d r (λx a=>f x (b.fN.trans a)) λx l q o a=>k x l q o (b.fN.trans a)|done r d=>exact .done r λx a=>d x (b.fN.trans a)|add c d f k=>exact .add c d (λx a=>f x (b.fN.trans a)) λx y l a=>k x y l (b.fN.trans a)|spawn d f k p s t u=>exact .spawn d f k p (λx a=>s x (b.fN.trans a)) (λx l c q o a=>t x l c q o (b.fN.trans a)) λx l c q o a=>u x l c q o (b.fN.trans a)|wait A d f k=>exact .wait A d f (k.imp λn w=>w.rely bN b.fN)|stop d f k=>exact .stop d f λx a=>k x (b.fN.trans a)
theorem fQ.running{ρ:Rk Ix}(h:fQ C i j m ρ own g v):g.status=.running\/∃n A,cI C i own A n g v/\y6 C i own A:=by cases h with|wait A b a d=>grind|done _ h=>exact .inl (h v .refl).1|add c b a=>exact .inl (a v .refl).1|_=>simp_all
def af(C:Cx)(i j:Nat)(m:Md)(own:Nat->Prop)(g:Xh)(v:Xf):Prop:=∃ρ,fQ C i j m ρ own g v
open Classical in
noncomputable def y7(p:Ix->Rk Ix->Prop)(x:Ix):Rk Ix:=if h:∃ρ,p x ρ then Classical.choose h else .z
theorem fR{p:Ix->Rk Ix->Prop}{x:Ix}(h:∃ρ,p x ρ):p x (y7 p x):=by unfold y7;grind
theorem af.env(h:af C i j m own g v)(a:Env C i (fA C m own) v v1):af C i j m own g v1:=h.imp λ_ k=>k.env a
theorem xu{w w':Xf}{es':Array XV}(h:GStep.go g w es=.go g' w' es'):g=g'/\w=w'/\es=es':=by simp_all
theorem af.step(q:g.status=.running)(o:m.said=W4)(h:∀v1,Env C i (fA C m own) v v1->∃g' d es,Xp C.P (i==0) g v1=.go g' d es/\lH C (fA C m own) v1 d es/\af C i j m (ab.more own v1 d) g' d):af C i j m own g v:=by refine⟨.s (y7 λx f=>fQ C i j m f (ab.more own x.2.1 x.2.2) x.1 x.2.2),.step q o (λx k=>?_) λx g' d es k e=>?_⟩;{grind};obtain⟨n,v2,l,a,_,c⟩:=h x k;rw[a]at e;obtain⟨rfl,rfl,rfl⟩:=xu e;exact fR (p:=λx f=>fQ C i j m f (ab.more own x.2.1 x.2.2) x.1 x.2.2) c
theorem af.idle(l:g.status=.running)(h:∀v1,Env C i (fA C m own) v v1->∃g' b,Xp C.P (i==0) g v1=.go g' b #[]/\DL v1 b #[]/\af C i j m own g' b):af C i j m own g v:=by refine⟨.s (y7 λx d=>fQ C i j m d own x.1 x.2.2),.idle l (λx f=>?_) λx g' b n f e=>?_⟩;{grind};obtain⟨k,v2,a,_,c⟩:=h x f;rw[a]at e;obtain⟨rfl,rfl,rfl⟩:=xu e;exact fR (p:=λx d=>fQ C i j m d own x.1 x.2.2) c
theorem cK(w:Xf):DL w w #[]:=⟨rfl,rfl,rfl,.refl _,rfl⟩
theorem af.ctl(a:g.status=.running)(h:∀w,Xp C.P (i==0) g w=.go g' w #[])(k:af C i j m own g' v):af C i j m own g v:=.idle a λx b=>⟨g',x,h x,cK x,k.env b⟩
theorem af.mark{m':Md}{k:Mark}(r:g.status=.running)(q:i7 C i m k m')(l:k=.releaseMerge C.muA->m=.own/\au C v)(n:k=.releaseMerge (stA C.wg)->Fin C i v)(h:∀v1,Env C i (fA C m own) v v1->∃g',Xp C.P (i==0) g v1=.go g' v1 #[mk k]/\((k=.acquire C.muA->au C v1)->af C i j m' own g' v1)):af C i j m own g v:=by refine⟨.s (y7 λx b=>fQ C i j m' b own x.1 x.2.1),.mark r q (λx d=>?_) l n λx g' u t d o e=>?_⟩;{grind};obtain⟨f,a,c⟩:=h x d;rw[a]at e;obtain⟨rfl,rfl,rfl⟩:=xu e;exact fR (p:=λx b=>fQ C i j m' b own x.1 x.2.1) (c o)
theorem af.lock(d:C.wk i)(H:Wd->Bool->Bool->Nat->Xh->Xf->Prop)(Q:Xh->Xf->Prop)(l:g.status=.running)(c:∀g v1 v2,Q g v1->Env C i own v1 v2->Q g v2)(b:jo C i own H Q)(h:∀v1,Env C i own v v1->Nl C i own H Q g v1)(k:∀g' v1,Env C i own v v1->Q g' v1->af C i j .mE own g' v1):af C i j .bK own g v:=⟨_,.lock H Q l d c b h λg' x n e=>fR (p:=λx a=>fQ C i j .mE a own x.1 x.2.1) (k g' x n e)⟩
theorem af.unlock(e:C.wk i)(a:Wd->Xh->Xf->Prop)(Q:Xh->Xf->Prop)(n:g.status=.running)(d:∀g v1 v2,Q g v1->Env C i own v1 v2->Q g v2)(c:Bq C i own a Q)(h:∀v1,Env C i own v v1->Pv C i own a Q g v1)(k:∀g' v1,Env C i own v v1->Q g' v1->af C i j .bK own g' v1):af C i j .mE own g v:=⟨_,.unlock a Q n e d c h λg' x o l=>fR (p:=λx b=>fQ C i j .bK b own x.1 x.2.1) (k g' x o l)⟩
theorem af.put(o:i≠0)(q:g.status=.running)(h:∀v1,Env C i own v v1->cW C v1->∃g' b es,Xp C.P (i==0) g v1=.go g' b es/\Sy C i v1 b es/\af C i j .free own g' b):af C i j .free own g v:=by refine⟨.s (y7 λx d=>fQ C i j .free d own x.1 x.2.2),.put q o (λx k f=>?_) λx g' b es k f e=>?_⟩;{grind};obtain⟨n,v2,l,a,_,c⟩:=h x k f;rw[a]at e;obtain⟨rfl,rfl,rfl⟩:=xu e;exact fR (p:=λx d=>fQ C i j .free d own x.1 x.2.2) c
theorem af.done(a:i≠0)(h:∀v1,Env C i own v v1->AtD1 C i own g v1):af C i j .vj own g v:=⟨_,.done a h⟩
theorem af.add{x:Nat}(c:Nat->Xh->Xf->Prop)(b:i=0)(h:∀v1,Env C i own v v1->TZ C i c g v1)(k:∀v1 y g',Env C i own v v1->c y g' v1->af C i (2*x+1) .bK own g' v1):af C i (2*x) .bK own g v:=⟨_,.add c b h λv1 y g' e d=>fR (p:=λz a=>fQ C i (2*x+1) .bK a own z.1 z.2.1) (k v1 y g' e d)⟩
theorem af.spawn{x:Nat}{ownc:Nat->Prop}(A:i=0)(E:g.status=.running)(B:x<C.n)(D:∀k,ownc k->own k)(h:∀v1,Env C i own v v1->∃g' b,Xp C.P (i==0) g v1=.spawn g' b v1 #[]/\b.status=.running/\af C (C.base+x) 0 .free ownc b v1/\af C i (2*x+2) .free (λk=>own k/\¬ownc k) g' v1):af C i (2*x+1) .free own g v:=by refine⟨_,.spawn (f:=y7 λz l=>fQ C i (2*x+2) .free l (λk=>own k/\¬ownc k) z.1 z.2.1) (ρ:=y7 λz l=>fQ C (C.base+x) 0 .free l ownc z.1 z.2.1) A E B D (λv1 n=>?_) (λv1 g' c F y n e=>?_) λv1 g' c F y n e=>?_⟩;{grind};{obtain⟨w,t,a,_,d,u⟩:=h v1 n;rw[a]at e;injection e with o q r s;subst o q r s;exact fR (p:=λz l=>fQ C (C.base+x) 0 .free l ownc z.1 z.2.1) d};obtain⟨w,t,a,_,d,u⟩:=h v1 n;rw[a]at e;injection e with o q r s;subst o q r s;exact fR (p:=λz l=>fQ C i (2*x+2) .free l (λk=>own k/\¬ownc k) z.1 z.2.1) u
theorem af.stop(b:C.solo)(a:g.status=.running)(h:∀v1,Env C i own v v1->C.halt own g v1):af C i j .free own g v:=⟨_,.stop b a h⟩
theorem af.wait(A:Xh->Xf->Prop)(a:i=0)(b:y6 C i own A)(h:∃n,cI C i own A n g v):af C i (2*C.n) .bK own g v:=⟨_,.wait A a b h⟩
theorem lH.Po(h:ab.lH own C.RO C.CU v v' es):lH C own v v' es:=⟨h.keep,h.grow,h.os,h.out,h.tape,λe b=>by rcases h.evs e b with x|⟨k,n,o,⟨rfl,d⟩,c,rfl⟩|x;{exact .inl (.inl x)};{exact .inr ⟨o,by omega,rfl⟩};exact .inl (.inr (.inr x))⟩
theorem lH.sub(h:lH C own v v' es)(b:∀k,own k->own' k):lH C own' v v' es:=⟨λk l n=>h.keep k l λx=>n (b k x),h.grow,h.os,h.out,h.tape,λe f=>by rcases h.evs e f with x|x;{refine .inl ?_;rcases x with⟨k,c,a,d⟩|x;{refine .inl ⟨k,c,?_,d⟩;rcases a with(a|a)|a;{exact .inl (.inl (b k a))};{exact .inl (.inr a)};simp_all};exact .inr x};exact .inr x⟩
theorem vi:ab.more (fA C m own) v v'=fA C m (ab.more own v v'):=by funext k;simp only[ab.more,fA];grind
def mK(C:Cx)(own:Nat->Prop):Prop:=∀b,own b->b≠C.mu/\b≠C.mm/\b≠C.wg/\b≠C.out
theorem cW.mine(l:cW C v)(h:lH C O v v' es)(e:¬O C.mu)(f:¬O C.wg)(k:¬O C.out):cW C v':=by obtain⟨⟨s,q,b⟩,⟨x,y,c⟩,⟨d,a,n⟩⟩:=l;exact⟨⟨s,q,(h.keep _ (Ux.1 b).1 e).trans b⟩,⟨x,y,(h.keep _ (Ux.1 c).1 f).trans c⟩,⟨d,(h.keep _ (Ux.1 a).1 k).trans a,n⟩⟩
theorem mK.more(h:mK C own)(d:cW C v)(l:C.mm<v.heap.size):mK C (ab.more own v v'):=λb a=>by rcases a with a|a;{exact h b a};obtain⟨⟨s,q,e⟩,⟨x,y,p⟩,⟨k,o,n⟩⟩:=d;have f:=(Ux.1 e).1;grind
theorem mK.not(b:C.Ok)(h:mK C own):¬fA C m own C.mu/\¬fA C m own C.wg/\¬fA C m own C.out:=by refine⟨?_,?_,?_⟩<;>rintro(a|⟨_,a⟩);{exact(h _ a).1 rfl};{exact b.lT a};{exact(h _ a).2.2.1 rfl};{exact b.nS a.symm};{exact(h _ a).2.2.2 rfl};exact b.mi a.symm
theorem cW.step(a:C.Ok)(b:mK C own){v':Xf}{es:Array XV}(c:cW C v)(h:lH C (fA C m own) v v' es):cW C v':=c.mine h (b.not a).1 (b.not a).2.1 (b.not a).2.2
theorem af.loc(t:C.Ok)(A:m.said=W4){Stop:(Nat->Prop)->Xh->Xf->Prop}(h:ab.Loc C.P (i==0) C.RO C.CU Stop O g v):∀own,O=fA C m own->mK C own->C.mm<v.heap.size->cW C v->(∀own g v,mK C own->C.mm<v.heap.size->cW C v->Stop (fA C m own) g v->af C i j m own g v)->af C i j m own g v:=by induction h with|stop h=>exactλown e n p l k=>k _ _ _ n p l (e▸h)|step z y _ B=>intro own e n p l k;subst e;refine .step z A λx q=>?_;have f:=q.T1 t.pre l;obtain⟨s,u,r,a,b⟩:=y x f;have o:=lH.Po b;have c:=q.aP l;have d:=Uw p q.grow;exact⟨s,u,r,a,o,B x s u r f a _ vi (n.more c d) (Uw d o.grow) (c.step t n o) k⟩
end
end Go.Cr
namespace Go.Cr
open Go.Conc Go.Mx Go.Rk
open Go.ConcR(KK WgAt wgBlock stA smA rd wr mk)
open Go.ConcM(OsLater)
variable{es:Array XV}{s q:Int}{ty:Xv}{g:Nat}
section
variable{C:Cx}{i i':Nat}{own own':Nat->Prop}{w w' w1:Xf}
structure lY(C:Cx)(i:Nat)(own:Nat->Prop)(w w':Xf):Prop where
 keep:∀k,k<w.heap.size->¬own k->k≠C.mu->k≠C.wg->k≠C.out->w'.heap[k]?=w.heap[k]?
 grow:w.heap.size<=w'.heap.size
 aP:cW C w->cW C w'
 BI:∀o,¬C.oc i o->w'.cell? ⟨C.out,o,Xg⟩=w.cell? ⟨C.out,o,Xg⟩
 os:OsLater w.os w'.os
 out:w'.output=w.output
 tape:w'.tape=w.tape
theorem lY.env(f:C.Ok)(h:lY C i own w w')(l:i'≠i)(j:∀k,own' k->¬own k)(n:∀k,own' k->k<w.heap.size/\k≠C.mu/\k≠C.wg/\k≠C.out)(g:∀k,C.RO k->k<w.heap.size/\¬own k):Env C i' own' w w':=⟨λk e=>by rcases e with e|e;{obtain⟨a,b,c,d⟩:=n k e;exact h.keep k a (j k e) b c d};obtain⟨a,_,b,c⟩:=f.ro k e;exact h.keep k (g k e).1 (g k e).2 a b c,h.grow,h.aP,λo m=>h.BI o λx=>l (f.oc _ _ _ m x)⟩
theorem cell_of_block{a:XU}(h:w'.heap[a.block]?=w.heap[a.block]?):w'.cell? a=w.cell? a:=by simp[Xf.cell?,h]
theorem jy(h:cW C w):C.mu<w.heap.size/\C.wg<w.heap.size/\C.out<w.heap.size:=by obtain⟨⟨s,q,c⟩,⟨a,b,d⟩,⟨f,e,_⟩⟩:=h;exact⟨(Ux.1 c).1,(Ux.1 d).1,(Ux.1 e).1⟩
theorem cW.gG(h:cW C w)(f:w'.heap[C.mu]?=w.heap[C.mu]?)(g:w'.heap[C.wg]?=w.heap[C.wg]?)(j:w'.heap[C.out]?=w.heap[C.out]?):cW C w':=by obtain⟨⟨s,q,a⟩,⟨x,y,b⟩,⟨e,c,d⟩⟩:=h;exact⟨⟨s,q,f.trans a⟩,⟨x,y,g.trans b⟩,⟨e,j.trans c,d⟩⟩
theorem lY.CY(d:cW C w)(h:lH C own w w' es)(f:¬own C.mu)(g:¬own C.wg)(e:¬own C.out):lY C i own w w':=by obtain⟨a,b,c⟩:=jy d;exact⟨λk j l _ _ _=>h.keep k j l,h.grow,λd=>d.gG (h.keep _ a f) (h.keep _ b g) (h.keep _ c e),λo _=>cell_of_block (h.keep _ c e),by rw[h.os];exact .refl _,h.out,h.tape⟩
theorem lY.CO(h:DL w w' es):lY C i own w w':=⟨λk _ _ _ _ _=>by rw[h.heap],by rw[h.heap];omega,λa=>a.gG (by rw[h.heap]) (by rw[h.heap]) (by rw[h.heap]),λo _=>cell_of_block (by rw[h.heap]),h.os,h.out,h.tape⟩
theorem lY.refl:lY C i own w w:=.CO (cK w)
theorem lY.O5(c:C.Ok)(h:Sy C i w w' es):lY C i own w w':=⟨λk _ _ _ _ d=>h.keep k d,by rw[h.size];omega,λb=>⟨by obtain⟨s,q,a⟩:=b.port;exact⟨s,q,(h.keep _ c.fZ).trans a⟩,by obtain⟨s,q,a⟩:=b.gD;exact⟨s,q,(h.keep _ c.iZ).trans a⟩,h.blk b.uD⟩,h.cells,by rw[h.os];exact .refl _,h.out,h.tape⟩
theorem ag(w:Xf)(a:XU)(v:Xc){k:Nat}(h:k≠a.block):(w.setCell a v).heap[k]?=w.heap[k]?:=by simp only[Xf.setCell];grind
theorem ia(w:Xf)(a:XU)(v:Xc){cs:Array Xc}{t:Xv}{fr:Nat×Nat}(b:a.spot=Xg)(h:w.heap[a.block]?=W7 (.cells cs t fr)):(w.setCell a v).heap[a.block]?=W7 (.cells (cs.setIfInBounds a.off v) t fr):=by simp only[Xf.setCell];grind
theorem cJ(w:Xf)(a:XU)(v:Xc):(w.setCell a v).heap.size=w.heap.size:=by simp
theorem az.setSt(a:C.Ok)(h:az C w s q)(s':Int):az C (w.setCell C.muA (.int .i32 s')) s' q:=by unfold az at h⊢;rw[show C.mu=C.muA.block from rfl,ia w C.muA _ rfl h];congr 2;show(C.pre++#[Xc.int .i32 s,Xc.int .u32 q]).setIfInBounds C.mo (Xc.int .i32 s')=C.pre++#[Xc.int .i32 s',Xc.int .u32 q];rw[<-a.pre];simp
theorem az.setSm(b:C.Ok)(h:az C w s q)(a:Int):az C (w.setCell C.msA (.int .u32 a)) s a:=by unfold az at h⊢;rw[show C.mu=C.msA.block from rfl,ia w C.msA _ rfl h];congr 2;show(C.pre++#[Xc.int .i32 s,Xc.int .u32 q]).setIfInBounds (C.mo+1) (Xc.int .u32 a)=C.pre++#[Xc.int .i32 s,Xc.int .u32 a];rw[<-b.pre];simp
theorem lY.set(a:XU)(v:Xc)(c:a.block=C.mu\/a.block=C.wg)(b:C.Ok)(d:cW C w->cW C (w.setCell a v)):lY C i own w (w.setCell a v):=⟨λk _ _ e f _=>ag w a v (by omega),by simp,d,λo _=>cell_of_block (ag w a v (by rcases c with h|h<;>rw[h];{exact b.fZ.symm};exact b.iZ.symm)),.refl _,rfl,rfl⟩
theorem lY.st(c:C.Ok)(s':Int):lY C i own w (w.setCell C.muA (.int .i32 s')):=.set _ _ (.inl rfl) c λd=>⟨by obtain⟨s,q,a⟩:=d.port;exact⟨s',q,a.setSt c s'⟩,by obtain⟨s,q,a⟩:=d.gD;exact⟨s,q,(ag w C.muA _ c.gn.symm).trans a⟩,by obtain⟨e,a,b⟩:=d.uD;exact⟨e,(ag w C.muA _ c.fZ.symm).trans a,b⟩⟩
theorem lY.sm(c:C.Ok)(s':Int):lY C i own w (w.setCell C.msA (.int .u32 s')):=.set _ _ (.inl rfl) c λd=>⟨by obtain⟨s,q,a⟩:=d.port;exact⟨s,s',a.setSm c s'⟩,by obtain⟨s,q,a⟩:=d.gD;exact⟨s,q,(ag w C.msA _ c.gn.symm).trans a⟩,by obtain⟨e,a,b⟩:=d.uD;exact⟨e,(ag w C.msA _ c.fZ.symm).trans a,b⟩⟩
theorem kQ{st sm:Int}(h:WgAt ty g w st sm)(v:Int):WgAt ty g (w.setCell (stA g) (.int .u64 v)) v sm:=by unfold WgAt wgBlock at h⊢;exact(ia w (stA g) _ rfl h).trans rfl
theorem pB{st sm:Int}(h:WgAt ty g w st sm)(v:Int):WgAt ty g (w.setCell (smA g) (.int .u32 v)) st v:=by unfold WgAt wgBlock at h⊢;exact(ia w (smA g) _ rfl h).trans rfl
theorem Ng{st sm st' sm':Int}(h:WgAt ty g w st sm)(k:WgAt ty g w st' sm'):st=st'/\sm=sm':=by unfold WgAt wgBlock at h k;simp_all
theorem lY.je(c:C.Ok)(f:C.sB=wgBlock C.tW)(s':Int):lY C i own w (w.setCell (stA C.wg) (.int .u64 s')):=.set _ _ (.inr rfl) c λd=>⟨by obtain⟨s,q,a⟩:=d.port;exact⟨s,q,(ag w (stA C.wg) _ c.gn).trans a⟩,by obtain⟨s,q,a⟩:=d.gD;rw[f]at a⊢;exact⟨s',q,kQ a s'⟩,by obtain⟨e,a,b⟩:=d.uD;exact⟨e,(ag w (stA C.wg) _ c.iZ.symm).trans a,b⟩⟩
theorem lY.TG(c:C.Ok)(f:C.sB=wgBlock C.tW)(s':Int):lY C i own w (w.setCell (smA C.wg) (.int .u32 s')):=.set _ _ (.inr rfl) c λd=>⟨by obtain⟨s,q,a⟩:=d.port;exact⟨s,q,(ag w (smA C.wg) _ c.gn).trans a⟩,by obtain⟨s,q,a⟩:=d.gD;rw[f]at a⊢;exact⟨s,s',pB a s'⟩,by obtain⟨e,a,b⟩:=d.uD;exact⟨e,(ag w (smA C.wg) _ c.iZ.symm).trans a,b⟩⟩
theorem Env.Ii(f:C.Ok)(h:lY C i (λ_=>False) w w')(l:∀k,own k->k<w.heap.size/\k≠C.mu/\k≠C.wg/\k≠C.out)(j:∀k,C.RO k->k<w.heap.size)(g:∀o,C.oc i o->w'.cell? ⟨C.out,o,Xg⟩=w.cell? ⟨C.out,o,Xg⟩):Env C i own w w':=⟨λk e=>by rcases e with e|e;{obtain⟨a,b,c,d⟩:=l k e;exact h.keep k a id b c d};obtain⟨a,_,b,c⟩:=f.ro k e;exact h.keep k (j k e) id a b c,h.grow,h.aP,g⟩
end
end Go.Cr
namespace Go.Lw
open Go.Proofs Go.Conc Go.Mx Go.Rk Go.Cr Go.RowKit Go.Conc.Lib Go.ConcR.Gen
open Go.ConcR(KK WgAt stA smA rd wr mk DC0)
open Go.ConcM(goes_pad goes_le OsLater)
variable{C:Cx}{i j:Nat}{m:Md}{own:Nat->Prop}{g:Xh}{v w:Xf}{S:Xh->Xf->Prop}{K:Xf->Prop}{s q:Int}
section
instance:Go.ConcR.Payload:=⟨3⟩
variable{w1:Xf}
theorem OV{w':Xf}{es:Array XV}(h:DC0 w w' es):DL w w' es:=by obtain⟨rfl,rfl⟩:=h;exact cK _
theorem zf{K K':Xh->Xf->Array XV->Prop}{s:GStep}(h:∀g w es,K g w es->K' g w es)(k:s.goes K):s.goes K':=by cases s<;>first|exact h _ _ _ k|exact k
theorem MG{k:Nat}:∀{n:Nat}{g:Xh}{v:Xf},Goes C.P (i==0) (Env C i own) DC0 (cI C i own S k) n g v->cI C i own S (k+n) g v|0,_,_,h=>h _ .refl|n+1,g,v,h=>by rcases h with h|⟨c,h⟩;{exact goes_pad (h _ .refl) _};refine .inr ⟨c,λx d=>zf (λg w e b=>?_) (h x d)⟩;exact⟨OV b.1,MG b.2⟩
def Kn(C:Cx)(i:Nat)(own:Nat->Prop)(v w:Xf):Prop:=Env C i own v w/\cW C w
theorem Qk:(f113.name== "runtime.NumGoroutine")=W4:=Ψ
theorem Q4:(f144.name== "runtime.NumGoroutine")=W4:=Ψ
theorem QB:(f145.name== "runtime.NumGoroutine")=W4:=Ψ
theorem Sn:(f166.name== "runtime.NumGoroutine")=W4:=Ψ
theorem Rh:(f168.name== "runtime.NumGoroutine")=W4:=Ψ
theorem Oe:(f127.name== "runtime.NumGoroutine")=W4:=Ψ
theorem PY:f127.body.isNone=W9:=Ψ
theorem NW:Extern.findNext f127=Xg:=Ψ
theorem Ow:Extern.find f127=W7 (λ_=>do mark .disable;pure Extern.Race.none_):=Ψ
theorem N9:(f128.name== "runtime.NumGoroutine")=W4:=Ψ
theorem PI:f128.body.isNone=W9:=Ψ
theorem NA:Extern.findNext f128=Xg:=Ψ
theorem PU:Extern.find f128=W7 (λ_=>do mark .enable;pure Extern.Race.none_):=Ψ
theorem Oj:(f139.name== "runtime.NumGoroutine")=W4:=Ψ
theorem NQ:f139.body.isNone=W9:=Ψ
theorem NM:Extern.findNext f139=Xg:=Ψ
theorem OH:Extern.find f139=W7 (Extern.Race.marked .acquire):=Ψ
theorem NU:(f126.name== "runtime.NumGoroutine")=W4:=Ψ
theorem PE:f126.body.isNone=W9:=Ψ
theorem NN:Extern.findNext f126=Xg:=Ψ
theorem Oi:Extern.find f126=W7 (Extern.Race.marked .releaseMerge):=Ψ
theorem G3:(f165.name== "runtime.NumGoroutine")=W4:=Ψ
theorem E6:f165.body.isNone=W9:=Ψ
theorem FU:Extern.findNext f165=Xg:=Ψ
theorem GN:Extern.find f165=W7 (Extern.Atomic.casT (.int .i32)):=Ψ
theorem Ph:(f167.name== "runtime.NumGoroutine")=W4:=Ψ
theorem NK:f167.body.isNone=W9:=Ψ
theorem Nf:Extern.findNext f167=Xg:=Ψ
theorem PO:Extern.find f167=W7 (Extern.Atomic.update (Op.intArith .add) .i32 W9):=Ψ
theorem GB:(f182.name== "runtime.NumGoroutine")=W4:=Ψ
theorem HV:f182.body.isNone=W9:=Ψ
theorem G9:Extern.findNext f182=Xg:=Ψ
theorem IQ:Extern.find f182=W7 (Extern.Sync.canSpin):=Ψ
theorem NX:(f183.name== "runtime.NumGoroutine")=W4:=Ψ
theorem N7:f183.body.isNone=W9:=Ψ
theorem NT:Extern.findNext f183=Xg:=Ψ
theorem Nz:Extern.find f183=W7 (λ_=>pure (.tuple #[])):=Ψ
theorem Pj:(f185.name== "runtime.NumGoroutine")=W4:=Ψ
theorem Ps:f185.body.isNone=W9:=Ψ
theorem OY:Extern.findNext f185=Xg:=Ψ
theorem OU:Extern.find f185=W7 (Extern.OsHooks.nano):=Ψ
theorem N1:f185.norace=W9:=Ψ
theorem FZ:(f186.name== "runtime.NumGoroutine")=W4:=Ψ
theorem IU:f186.body.isNone=W9:=Ψ
theorem GM:Extern.findNext f186=Xg:=Ψ
theorem Gr:Extern.find f186=W7 (Extern.Sync.semacquire):=Ψ
theorem Oa:(f188.name== "runtime.NumGoroutine")=W4:=Ψ
theorem Nq:f188.body.isNone=W9:=Ψ
theorem NP:Extern.findNext f188=Xg:=Ψ
theorem N4:Extern.find f188=W7 (Extern.Sync.semrelease):=Ψ
theorem Tg:(Pz.funcs[(base 145).fn]?).any (·.norace)=W9:=Ψ
theorem Ki:(Pz.funcs[(base 166).fn]?).any (·.norace)=W9:=Ψ
theorem S4:(Pz.funcs[(base 168).fn]?).any (·.norace)=W9:=Ψ
section
variable{main:Bool}{b:Xu}{a:XZ}{kk:List XT}{cs:List Xu}{ops:Array X4}{rest:List Nat}{o:X4}
theorem xM{x:XI}(p:ops[i]?=W7 o)(s:Region.wanted o (Xy ops a.tmps)=W9)(n:b.kind≠.early)(e:o.op=.load 21 x){ad:XU}{v:Int}(k:a.eval x=.pointer (W7 ad))(h:w.cell? ad=W7 (.int .i32 v))(q:(Pz.funcs[b.fn]?).any (·.norace)=W9):Xp Pz main (G (b.at a (.inRegion ops (i::rest)::kk)) cs) w=.go (G (b.at (a.put o.dst (.int .i32 v)) (.inRegion ops rest::kk)) cs) w #[]:=by(have r:(Xm a.eval o).run Pz w=.ok (.value (.int .i32 v)) w:=by unfold Xm;simp only[e,k];simp[go_sem,h]);(have l:(Xm a.eval o).events Pz w #[]=#[⟨.cell ad,W4,W4⟩]:=by unfold Xm;simp only[e,k];simp[go_sem,h]);rw[stepG_value p s n r];unfold listed;rw[l,seen_def,q];rfl
end
noncomputable def lE:X5:=f112.body.getD .skip
noncomputable def mZ:X5:=f113.body.getD .skip
noncomputable def cD:X5:=f144.body.getD .skip
noncomputable def aj:X5:=f166.body.getD .skip
end
section
variable{w1:Xf}
theorem az.cell(a:C.Ok)(h:az C w s q):w.cell? ⟨C.mu,C.mo,Xg⟩=W7 (.int .i32 s):=by have b:=a.pre;unfold az at h;simp[Xf.cell?,h,<-b]
theorem az.Ch(a:C.Ok)(h:az C w s q):w.cell? ⟨C.mu,C.mo+1,Xg⟩=W7 (.int .u32 q):=by have b:=a.pre;unfold az at h;simp[Xf.cell?,h,<-b]
theorem az.thaw(h:az C w s q)(o:Nat):w.frozen? ⟨C.mu,o,Xg⟩=W4:=by unfold az at h;simp[Xf.frozen?,h]
structure Kd(C:Cx)(i:Nat)(own:Nat->Prop)(K:Xf->Prop):Prop where
 env:∀{v v1},K v->Env C i own v v1->K v1
 st:∀{v}(x:Int),K v->K (v.setCell C.muA (.int .i32 x))
 sm:∀{v}(x:Int),K v->K (v.setCell C.msA (.int .u32 x))
 aP:∀{v},K v->cW C v
theorem Kd.mu(b:Kd C i own K)(a:C.Ok)(h:K w):∃v:Xc,w.cell? ⟨C.mu,C.mo,Xg⟩=W7 v:=by obtain⟨⟨s,q,c⟩,_⟩:=b.aP h;exact⟨_,az.cell a c⟩
theorem Kd.held(a:Kd C i own K)(h:K w/\au C w)(r:Env C i (fA C .own own) w w1):K w1/\au C w1:=⟨a.env h.1 r.fN,h.2.env r (.inr ⟨rfl,rfl⟩)⟩
theorem yn{wd:Wd}(h:((wd.enc:Nat):Int)=0):wd=⟨W4,W4,W4,0⟩:=by obtain⟨L,W,s,n⟩:=wd;(have h:(⟨L,W,s,n⟩:Wd).enc=0:=by omega);cases L<;>cases W<;>cases s<;>simp[Wd.enc]at h⊢<;>omega
theorem Sk:Pz.underlying 217=W7 (.pointer 157):=Ψ
theorem z157:(Pz.info? 157).map (λi=>decide (i.size=0))=W7 W4:=Ψ
end
end Go.Lw
namespace Go.Lw
open Go.Proofs Go.Conc Go.Mx Go.Rk Go.Cr Go.RowKit Go.Conc.Lib Go.ConcR.Gen Go.Pw
open Go.ConcR(KK WgAt stA smA rd wr mk DC0)
open Go.ConcM(goes_pad goes_le OsLater)
variable{C:Cx}{i j N mm x d a dd:Nat}{m:Md}{own:Nat->Prop}{g:Xh}{v n old:Int}{w:Xf}{S:Xh->Xf->Prop}{H L L':List (Nat×Xc)}{t vs:Array Xc}{f q:XC}{k k' kk:List XT}{obs:List (Xc×Xc)}{cs:List Xu}{y z:XI}{o:X4}{ags:Array XI}{main:Bool}{ops:Array X4}{rest:List Nat}{ats:Array Xv}{fn:Func}{ad:XU}{u:Xc}{P:Xz}{s d':Xv}{caller:Xu}{c:X5}{kd:X9}{J:Xh->Prop}
section
variable{v w1:Xf}
section
theorem aD{n:Nat}(h:∀w1,Env C i own w w1->S g w1):cI C i own S n g w:=Goes.stop h
theorem CL(n:Nat)(e:Sl N L t)(b:bD C.P H n (fr f (tm N L t) k)=W7 (fr f (jb C.P H n (fr f (tm N L t) k)) k',obs))(l:∀p∈obs,p.1=p.2)(c:Sl N L' (jb C.P H n (fr f (tm N L t) k)))(d:∀a w1,Sl N L' a->Env C i own w w1->cI C i own S mm (G (fr f a k') cs) w1):cI C i own S (mm+n) (G (fr f t k) cs) w:=by refine MG ?_;have:=IL (m:=0) (main:=i==0) (D:=DC0) bN (λw=>⟨rfl,rfl⟩) n e b l c (λa h w1 o=>d a w1 h o);simp_all
theorem J8(n:Nat)(h:Sl N L t)(b:bD C.P H n (fr f (tm N L t) k)=W7 (fr f (jb C.P H n (fr f (tm N L t) k)) k',obs))(l:∀p∈obs,p.1=p.2)(c:Sl N L' (jb C.P H n (fr f (tm N L t) k)))(d:∀a,Sl N L' a->af C i j m own (G (fr f a k') cs) v):af C i j m own (G (fr f t k) cs) v:=JH (J:=λg=>af C i j m own g v) (λF q o e=>.ctl rfl o e) n h b l c d
theorem cj(n:Nat)(O:List (Nat×Ob))(k':List XT)(L':List (Nat×Xc))(hS:Sl N L t)(hG:∀t' w1,Sl N L' t'->Env C i own w w1->cI C i own S mm (G (fr f t' k') cs) w1)(hP:C.P=Pz:=by exact hP)(h1:bD Pz (oh O) n (fr f (tm N L t) k)=W7 (fr f (jb Pz (oh O) n (fr f (tm N L t) k)) k',oo O):=by kernel_rfl)(h2:Sl N L' (jb Pz (oh O) n (fr f (tm N L t) k)):=by exact .all):cI C i own S (mm+n) (G (fr f t k) cs) w:=CL n hS (by rw[hP];exact h1) (tM O) (by simp_all) hG
theorem dP(n:Nat)(k':List XT)(L':List (Nat×Xc))(hS:Sl N L t)(hG:∀t' w1,Sl N L' t'->Env C i own w w1->cI C i own S mm (G (fr f t' k') cs) w1)(hP:C.P=Pz:=by exact hP)(h1:bD Pz (oh []) n (fr f (tm N L t) k)=W7 (fr f (jb Pz (oh []) n (fr f (tm N L t) k)) k',oo []):=by kernel_rfl)(h2:Sl N L' (jb Pz (oh []) n (fr f (tm N L t) k)):=by exact .all):cI C i own S (mm+n) (G (fr f t k) cs) w:=cj n [] k' L' hS hG hP h1 h2
theorem wM(n:Nat)(O:List (Nat×Ob))(k':List XT)(L':List (Nat×Xc))(hS:Sl N L t)(hG:∀t',Sl N L' t'->af C i j m own (G (fr f t' k') cs) v)(hP:C.P=Pz:=by exact hP)(h1:bD Pz (oh O) n (fr f (tm N L t) k)=W7 (fr f (jb Pz (oh O) n (fr f (tm N L t) k)) k',oo O):=by kernel_rfl)(h2:Sl N L' (jb Pz (oh O) n (fr f (tm N L t) k)):=by exact .all):af C i j m own (G (fr f t k) cs) v:=J8 n hS (by rw[hP];exact h1) (tM O) (by simp_all) hG
theorem cS(n:Nat)(k':List XT)(L':List (Nat×Xc))(hS:Sl N L t)(hG:∀t',Sl N L' t'->af C i j m own (G (fr f t' k') cs) v)(hP:C.P=Pz:=by exact hP)(h1:bD Pz (oh []) n (fr f (tm N L t) k)=W7 (fr f (jb Pz (oh []) n (fr f (tm N L t) k)) k',oo []):=by kernel_rfl)(h2:Sl N L' (jb Pz (oh []) n (fr f (tm N L t) k)):=by exact .all):af C i j m own (G (fr f t k) cs) v:=wM n [] k' L' hS hG hP h1 h2
end
theorem eF{n:Nat}(d:g.status=.running)(h:∀x,Env C i own w x->∃g' w',Xp C.P (i==0) g x=.go g' w' #[]/\DL x w' #[]/\cI C i own S n g' w'):cI C i own S (n+1) g w:=.inr ⟨d,λx e=>by obtain⟨g',w',a,b,c⟩:=h x e;simp_all⟩
theorem pj(x:Xf):DL x x.later #[]:=⟨rfl,rfl,rfl,⟨x.tick,rfl⟩,rfl⟩
theorem k6(x:Xf):DL x x.asked #[]:=⟨rfl,rfl,rfl,.refl _,rfl⟩
theorem qs{x y:Xf}{es:Array XV}(h:DL x y es):Env C i own x y:=⟨λk _=>by rw[h.heap],by rw[h.heap];omega,λf=>by obtain⟨⟨s,q,a⟩,⟨n,l,b⟩,⟨e,c,d⟩⟩:=f;exact⟨⟨s,q,by unfold az at a⊢;rw[h.heap];exact a⟩,⟨n,l,by rw[h.heap];exact b⟩,⟨e,by rw[h.heap];exact c,d⟩⟩,λo _=>by simp[Xf.cell?,h.heap]⟩
def bb(o:X4):Option XC:=match o.op with
 |.call c=>(match c.callee with|.value (.func q)=>W7 q|_=>Xg)
 |_=>Xg
def dr(o:X4):Array XI:=match o.op with|.call c=>c.args|_=>#[]
def uG(o:X4):Array Xv:=match o.op with|.call c=>c.argTypes|_=>#[]
theorem bM(h:bb o=W7 q)(b:dr o=ags):o.op=.call {callee:=.value (.func q),args:=ags,argTypes:=uG o}:=by subst b;unfold bb at h;unfold dr uG;cases d:o.op with|call c=>obtain⟨e,k,f⟩:=c;grind|_=>simp_all
section
theorem eJ{v:Xc}(a:o.dst=W7 d):G ((base f).at ((⟨t,[]⟩:XZ).put o.dst v) k) cs=G (fr f (t.setIfInBounds d v) k) cs:=by rw[a];rfl
theorem nA{v:Int}(hS:Sl N L t)(p:ops[x]?=W7 o)(s:Region.wanted o (Xy ops (tm N L t))=W9)(k:o.dst=W7 d)(h:o.op=.load 21 y)(u:(⟨t,[]⟩:XZ).eval y=.pointer (W7 ad))(n:w.cell? ad=W7 (.int .i32 v))(r:(Pz.funcs[f]?).any (·.norace)=W9):Xp Pz main (G (fr f t (.inRegion ops (x::rest)::kk)) cs) w=.go (G (fr f (t.setIfInBounds d (.int .i32 v)) (.inRegion ops rest::kk)) cs) w #[]:=(xM (b:=base f) (a:=⟨t,[]⟩) p (aU hS s) (by k_ne) h u n r).trans (by first|(rw[eJ k])|(rfl))
theorem lh{u:XI}{v:Int}(hS:Sl N L t)(s:ops[x]?=W7 o)(D:Region.wanted o (Xy ops (tm N L t))=W9)(h:o.dst=W7 d)(A:bb o=W7 165)(l:dr o=#[y,z,u])(E:(⟨t,[]⟩:XZ).eval y=.pointer (W7 ad))(F:(⟨t,[]⟩:XZ).eval z=.int .i32 v)(B:(⟨t,[]⟩:XZ).eval u=.int .i32 n)(p:w.cell? ad=W7 (.int .i32 v))(r:w.frozen? ad=W4):Xp Pz main (G (fr f t (.inRegion ops (x::rest)::kk)) cs) w=.go (G (fr f (t.setIfInBounds d (.bool W9)) (.inRegion ops rest::kk)) cs) (w.setCell ad (.int .i32 n)) #[rd ad,wr ad]:=(stepG_cas_hit (b:=base f) (a:=⟨t,[]⟩) s (aU hS D) (by k_ne) (bM A l) func165 G3 E6 FU .i32 GN E F B p r).trans (by first|(done)|(rw[eJ h];rfl))
theorem j6{u:XI}{v:Int}(hS:Sl N L t)(A:ops[x]?=W7 o)(E:Region.wanted o (Xy ops (tm N L t))=W9)(k:o.dst=W7 d)(B:bb o=W7 165)(p:dr o=#[y,z,u])(F:(⟨t,[]⟩:XZ).eval y=.pointer (W7 ad))(H:(⟨t,[]⟩:XZ).eval z=.int .i32 old)(D:(⟨t,[]⟩:XZ).eval u=.int .i32 n)(r:w.cell? ad=W7 (.int .i32 v))(s:w.frozen? ad=W4)(h:¬v=old):Xp Pz main (G (fr f t (.inRegion ops (x::rest)::kk)) cs) w=.go (G (fr f (t.setIfInBounds d (.bool W4)) (.inRegion ops rest::kk)) cs) w #[rd ad]:=(stepG_cas_miss (b:=base f) (a:=⟨t,[]⟩) A (aU hS E) (by k_ne) (bM B p) func165 G3 E6 FU .i32 GN F H D r s h).trans (by first|(done)|(rw[eJ k];rfl))
theorem we{v:Int}(hS:Sl N L t)(s:ops[x]?=W7 o)(A:Region.wanted o (Xy ops (tm N L t))=W9)(h:o.dst=W7 d)(u:bb o=W7 167)(l:dr o=#[y,z])(B:(⟨t,[]⟩:XZ).eval y=.pointer (W7 ad))(D:(⟨t,[]⟩:XZ).eval z=.int .i32 n)(p:w.cell? ad=W7 (.int .i32 v))(r:w.frozen? ad=W4):Xp Pz main (G (fr f t (.inRegion ops (x::rest)::kk)) cs) w=.go (G (fr f (t.setIfInBounds d (.int .i32 (Xs.i32.wrap (v+n)))) (.inRegion ops rest::kk)) cs) (w.setCell ad (.int .i32 (Xs.i32.wrap (v+n)))) #[rd ad,wr ad]:=(stepG_add_atomic (b:=base f) (a:=⟨t,[]⟩) s (aU hS A) (by k_ne) (bM u l) func167 Ph NK Nf .i32 PO B D p r).trans (by first|(done)|(rw[eJ h];rfl))
theorem NG(hS:Sl N L t)(u:ops[x]?=W7 o)(z:Region.wanted o (Xy ops (tm N L t))=W9)(k:o.dst=W7 d)(y:bb o=W7 186)(p:dr o=ags)(A:(ags.map (⟨t,[]⟩:XZ).eval)[0]?=W7 (.pointer (W7 ad)))(r:w.cell? ad=W7 (.int .u32 n))(h:n≠0)(s:w.frozen? ad=W4):Xp Pz main (G (fr f t (.inRegion ops (x::rest)::kk)) cs) w=.go (G (fr f (t.setIfInBounds d (.tuple #[])) (.inRegion ops rest::kk)) cs) (w.setCell ad (.int .u32 (n-1))) (semEvents ad):=(stepG_semacquire (b:=base f) (a:=⟨t,[]⟩) u (aU hS z) (by k_ne) (bM y p) func186 FZ IU GM Gr A r h s).trans (by first|(rw[eJ k])|(rfl))
theorem zZ(hS:Sl N L t)(p:ops[x]?=W7 o)(s:Region.wanted o (Xy ops (tm N L t))=W9)(r:bb o=W7 186)(l:dr o=ags)(u:(ags.map (⟨t,[]⟩:XZ).eval)[0]?=W7 (.pointer (W7 ad)))(n:w.cell? ad=W7 (.int .u32 0)):Xp Pz main (G (fr f t (.inRegion ops (x::rest)::kk)) cs) w=.go {G (fr f t (.inRegion ops (x::rest)::kk)) cs with status:=.blocked} w #[]:=stepG_semacquire_wait (b:=base f) (a:=⟨t,[]⟩) p (aU hS s) (bM r l) func186 FZ IU GM Gr u n
theorem FQ(hS:Sl N L t)(s:ops[x]?=W7 o)(y:Region.wanted o (Xy ops (tm N L t))=W9)(h:o.dst=W7 d)(u:bb o=W7 188)(l:dr o=ags)(z:(ags.map (⟨t,[]⟩:XZ).eval)[0]?=W7 (.pointer (W7 ad)))(p:w.cell? ad=W7 (.int .u32 n))(r:w.frozen? ad=W4):Xp Pz main (G (fr f t (.inRegion ops (x::rest)::kk)) cs) w=.go (G (fr f (t.setIfInBounds d (.tuple #[])) (.inRegion ops rest::kk)) cs) (w.setCell ad (.int .u32 (Xs.u32.wrap (n+1)))) (semEvents ad):=(stepG_semrelease (b:=base f) (a:=⟨t,[]⟩) s (aU hS y) (by k_ne) (bM u l) func188 Oa Nq NP N4 z p r).trans (by first|(rw[eJ h])|(rfl))
theorem Cs(hS:Sl N L t)(l:ops[x]?=W7 o)(p:Region.wanted o (Xy ops (tm N L t))=W9)(h:o.dst=W7 d)(n:bb o=W7 185):Xp Pz main (G (fr f t (.inRegion ops (x::rest)::kk)) cs) w=.go (G (fr f (t.setIfInBounds d (Iv ((w.os.mono+w.tick:Nat):Int))) (.inRegion ops rest::kk)) cs) w.later #[]:=(stepG_nanotime (b:=base f) (a:=⟨t,[]⟩) l (aU hS p) (by k_ne) (bM n rfl) func185 Pj Ps OY OU N1).trans (by first|(rw[eJ h])|(rfl))
theorem ov{k:Xs}(hS:Sl N L t)(s:ops[x]?=W7 o)(y:Region.wanted o (Xy ops (tm N L t))=W9)(h:o.dst=W7 d)(u:bb o=W7 182)(r:dr o=ags)(z:ags.map (⟨t,[]⟩:XZ).eval=#[.int k n])(l:4<=n):Xp Pz main (G (fr f t (.inRegion ops (x::rest)::kk)) cs) w=.go (G (fr f (t.setIfInBounds d (.bool W4)) (.inRegion ops rest::kk)) cs) w #[]:=(stepG_canSpin_no (b:=base f) (a:=⟨t,[]⟩) s (aU hS y) (by k_ne) (bM u r) func182 GB HV G9 IQ z l).trans (by first|(rw[eJ h])|(rfl))
theorem xB{k:Xs}(hS:Sl N L t)(s:ops[x]?=W7 o)(y:Region.wanted o (Xy ops (tm N L t))=W9)(h:o.dst=W7 d)(u:bb o=W7 182)(r:dr o=ags)(z:ags.map (⟨t,[]⟩:XZ).eval=#[.int k n])(l:n<4):Xp Pz main (G (fr f t (.inRegion ops (x::rest)::kk)) cs) w=.go (G (fr f (t.setIfInBounds d (.bool w.spins)) (.inRegion ops rest::kk)) cs) w.asked #[]:=(stepG_canSpin_ask (b:=base f) (a:=⟨t,[]⟩) s (aU hS y) (by k_ne) (bM u r) func182 GB HV G9 IQ z l).trans (by first|(rw[eJ h])|(rfl))
theorem DW(hS:Sl N L t)(l:ops[x]?=W7 o)(p:Region.wanted o (Xy ops (tm N L t))=W9)(h:o.dst=W7 d)(n:bb o=W7 183):Xp Pz main (G (fr f t (.inRegion ops (x::rest)::kk)) cs) w=.go (G (fr f (t.setIfInBounds d (.tuple #[])) (.inRegion ops rest::kk)) cs) w #[]:=(stepG_entry_pure (b:=base f) (a:=⟨t,[]⟩) (.tuple #[]) l (aU hS p) (by k_ne) (bM n rfl) func183 NX N7 NT Nz).trans (by first|(rw[eJ h])|(rfl))
end
end
section
variable{v w1:Xf}
section
theorem sn(hS:Sl N L t)(l:ops[x]?=W7 o)(p:Region.wanted o (Xy ops (tm N L t))=W9)(h:o.dst=W7 d)(n:bb o=W7 127):Xp Pz main (G (fr f t (.inRegion ops (x::rest)::kk)) cs) w=.go (G (fr f (t.setIfInBounds d (.tuple #[])) (.inRegion ops rest::kk)) cs) w #[mk .disable]:=(stepG_mark0 (b:=base f) (a:=⟨t,[]⟩) .disable Θ l (aU hS p) (by k_ne) (bM n rfl) func127 Oe PY NW Ow).trans (by first|(rw[eJ h];done)|(rw[eJ h];rfl))
theorem qz(hS:Sl N L t)(l:ops[x]?=W7 o)(p:Region.wanted o (Xy ops (tm N L t))=W9)(h:o.dst=W7 d)(n:bb o=W7 128):Xp Pz main (G (fr f t (.inRegion ops (x::rest)::kk)) cs) w=.go (G (fr f (t.setIfInBounds d (.tuple #[])) (.inRegion ops rest::kk)) cs) w #[mk .enable]:=(stepG_mark0 (b:=base f) (a:=⟨t,[]⟩) .enable Θ l (aU hS p) (by k_ne) (bM n rfl) func128 N9 PI NA PU).trans (by first|(rw[eJ h];done)|(rw[eJ h];rfl))
theorem sg(hS:Sl N L t)(n:ops[x]?=W7 o)(r:Region.wanted o (Xy ops (tm N L t))=W9)(h:o.dst=W7 d)(p:bb o=W7 139)(l:dr o=ags)(s:(ags.map (⟨t,[]⟩:XZ).eval)[0]?=W7 (.pointer (W7 ad))):Xp Pz main (G (fr f t (.inRegion ops (x::rest)::kk)) cs) w=.go (G (fr f (t.setIfInBounds d (.tuple #[])) (.inRegion ops rest::kk)) cs) w #[mk (.acquire ad)]:=(stepG_markAt (b:=base f) (a:=⟨t,[]⟩) .acquire Θ n (aU hS r) (by k_ne) (bM p l) func139 Oj NQ NM OH s).trans (by first|(rw[eJ h];done)|(rw[eJ h];rfl))
theorem rv(hS:Sl N L t)(n:ops[x]?=W7 o)(r:Region.wanted o (Xy ops (tm N L t))=W9)(h:o.dst=W7 d)(p:bb o=W7 126)(l:dr o=ags)(s:(ags.map (⟨t,[]⟩:XZ).eval)[0]?=W7 (.pointer (W7 ad))):Xp Pz main (G (fr f t (.inRegion ops (x::rest)::kk)) cs) w=.go (G (fr f (t.setIfInBounds d (.tuple #[])) (.inRegion ops rest::kk)) cs) w #[mk (.releaseMerge ad)]:=(stepG_markAt (b:=base f) (a:=⟨t,[]⟩) .releaseMerge Θ n (aU hS r) (by k_ne) (bM p l) func126 NU PE NN Oi s).trans (by first|(rw[eJ h];done)|(rw[eJ h];rfl))
theorem IN(hS:Sl N L t)(n:ops[x]?=W7 o)(r:Region.wanted o (Xy ops (tm N L t))=W9)(h:o.dst=W7 d)(p:(Xm (⟨t,[]⟩:XZ).eval o).run P w=.ok (.value u) w)(l:(Xm (⟨t,[]⟩:XZ).eval o).events P w #[]=#[]):Xp P main (G (fr f t (.inRegion ops (x::rest)::kk)) cs) w=.go (G (fr f (t.setIfInBounds d u) (.inRegion ops rest::kk)) cs) w #[]:=by refine(stepG_value (b:=base f) (a:=⟨t,[]⟩) (k:=kk) (cs:=cs) n (aU hS r) (by k_ne) p).trans ?_;unfold listed;rw[l,kG,eJ h]
theorem xd{s d':Xv}{v:Xc}(hS:Sl N L t)(p:ops[x]?=W7 o)(u:Region.wanted o (Xy ops (tm N L t))=W9)(n:o.dst=W7 d)(r:o.op=.convert 217 185 y)(z:(⟨t,[]⟩:XZ).eval y=.pointer (W7 ad))(c:w.cell? ad=W7 v):Xp Pz main (G (fr f t (.inRegion ops (x::rest)::kk)) cs) w=.go (G (fr f (t.setIfInBounds d (.pointer (W7 ad))) (.inRegion ops rest::kk)) cs) w #[]:=by have l:=run_convert_to_unsafe (P:=Pz) Sk underlying185 z157 c;have k:=λe=>events_convert_to_unsafe (P:=Pz) Sk underlying185 z157 c e;refine IN hS p u n ?_ ?_;{unfold Xm;simp_all};unfold Xm;simp_all
theorem OT:Xp P main (G (fr f t []) cs) w=.go (G (ab.eC f t [] .returning) cs) w #[]:=by rfl
theorem Pa:Xp P main (G (fr f t (.code .ret::kk)) cs) w=.go (G (ab.eC f t (.code .ret::kk) .returning) cs) w #[]:=by rfl
theorem wK(h:P.funcs[f]?=W7 fn)(b:fn.results=#[]):Xp P main (G (ab.eC f t kk .returning) (caller::cs)) w=.go (G (caller.finish (.tuple #[])) cs) w #[]:=by
 have c:(results fn t).run P w=.ok (.tuple #[]) w:=by simp[results,b]
 have e:(results fn t).events P w #[]=#[]:=by simp[results,b]
 rw[ab.bI h c,e,kG]
end
section
theorem js(a:C.P.funcs[f]?=W7 fn)(b:fn.results=#[])(h:af C i j m own (G (caller.finish (.tuple #[])) cs) v):af C i j m own (G (fr f t []) (caller::cs)) v:=.ctl rfl (λ_=>OT) (.ctl rfl (λ_=>wK a b) h)
theorem rF(a:C.P.funcs[f]?=W7 fn)(b:fn.results=#[])(h:af C i j m own (G (caller.finish (.tuple #[])) cs) v):af C i j m own (G (fr f t (.code .ret::kk)) (caller::cs)) v:=.ctl rfl (λ_=>Pa) (.ctl rfl (λ_=>wK a b) h)
theorem cL{n:Nat}{g':Xh}(a:g.status=.running)(h:∀w,Xp C.P (i==0) g w=.go g' w #[])(k:cI C i own S n g' w):cI C i own S (n+1) g w:=eF a λx b=>⟨g',x,h x,cK x,k.rely bN b⟩
end
theorem TT{L S:Bool}(h:(L||S)=W9):(((L.toNat+4*S.toNat:Nat):Int)==0)=W4:=by grind
end
section
variable{v w1:Xf}
abbrev qu(kd:X9)(f:XC)(t:Array Xc)(k:List XT):Xu:={fn:=f,tmps:=t,todo:=k,defers:=[],mode:=.run,kind:=kd,roundOf:=Xg}
abbrev P1(kd:X9)(f:XC)(t:Array Xc)(k:List XT):Xu:={fn:=f,tmps:=t,todo:=k,defers:=[],mode:=.returning,kind:=kd,roundOf:=Xg}
def bk(kd:X9)(f:XC):Xu:={base f with kind:=kd}
section
theorem Ar(A:kd≠.early)(hS:Sl N L t)(B:ops[x]?=W7 o)(F:Region.wanted o (Xy ops (tm N L t))=W9)(D:bb o=W7 q)(y:dr o=ags)(E:ags.map (⟨t,[]⟩:XZ).eval=vs)(r:P.funcs[q]?=W7 fn)(s:(fn.name== "runtime.NumGoroutine")=W4)(z:fn.body=W7 c):Xp P main (G (qu kd f t (.inRegion ops (x::rest)::kk)) cs) w=.go (G (fr q (vs++Array.replicate (fn.ntmps-vs.size) XA) [.code c]) (qu kd f t (.inRegion ops (x::rest)::kk)::cs)) w #[]:=by subst E;have n:=bM D y;(have l:fn.body.isNone=W4:=by grind);have h:=stepG_enter (P:=P) (main:=main) (b:=bk kd f) (a:=⟨t,[]⟩) (k:=kk) (rest:=rest) (cs:=cs) (w:=w) B (aU hS F) A (run_call_body n r s l);rw[enter_at _ r z]at h;(have e:listed P (bk kd f).fn ⟨t,[]⟩ o w=#[]:=by unfold listed;rw[events_call_body n r s l];rfl);rw[e]at h;exact h
theorem BX(hS:Sl N L t)(n:ops[x]?=W7 o)(s:Region.wanted o (Xy ops (tm N L t))=W9)(p:bb o=W7 q)(e:dr o=ags)(r:ags.map (⟨t,[]⟩:XZ).eval=vs)(k:P.funcs[q]?=W7 fn)(l:(fn.name== "runtime.NumGoroutine")=W4)(h:fn.body=W7 c):Xp P main (G (fr f t (.inRegion ops (x::rest)::kk)) cs) w=.go (G (fr q (vs++Array.replicate (fn.ntmps-vs.size) XA) [.code c]) (fr f t (.inRegion ops (x::rest)::kk)::cs)) w #[]:=Ar (kd:=.normal) Θ hS n s p e r k l h
theorem wD(h:t.getD a XA=u):(#[.tmp a]:Array XI).map (⟨t,[]⟩:XZ).eval=#[u]:=by subst h;simp[XZ.eval]
theorem D2{b:Nat}{u':Xc}(h:t.getD a XA=u)(e:t.getD b XA=u'):(#[.tmp a,.tmp b]:Array XI).map (⟨t,[]⟩:XZ).eval=#[u,u']:=by subst h e;simp[XZ.eval]
theorem OG{c:Xc}(h:t.getD a XA=u):(#[.tmp a,.const c]:Array XI).map (⟨t,[]⟩:XZ).eval=#[u,c]:=by subst h;simp[XZ.eval]
theorem JF(b:ops[x]?=W7 o)(a:o.dst=W7 d)(u:Xc):(qu kd f t (.inRegion ops (x::rest)::kk)).finish u=qu kd f (t.setIfInBounds d u) (.inRegion ops rest::kk):=by simp[Xu.finish,b,a]
theorem FX(y:kd≠.early)(s:∀F a,(∀w,Xp P main (G F cs) w=.go (G a cs) w #[])->J (G a cs)->J (G F cs))(n:Nat)(u:Sl N L t)(h:bD P H n (qu kd f (tm N L t) k)=W7 (qu kd f (match bD P H n (qu kd f (tm N L t) k)with|some x=>x.1.tmps|none=>#[]) k',obs))(z:∀p∈obs,p.1=p.2)(l:Sl N L' (match bD P H n (qu kd f (tm N L t) k)with|some x=>x.1.tmps|none=>#[]))(r:∀b,Sl N L' b->J (G (qu kd f b k') cs)):J (G (qu kd f t k) cs):=by(have e:qu kd f t k=qu kd f (tm N L t) k:=by rw[<-u.tm]);rw[e];exact ot (main:=main) s n h z rfl y (r _ l)
theorem oz(s:kd≠.early)(n:Nat)(r:Sl N L t)(b:bD C.P H n (qu kd f (tm N L t) k)=W7 (qu kd f (match bD C.P H n (qu kd f (tm N L t) k)with|some x=>x.1.tmps|none=>#[]) k',obs))(u:∀p∈obs,p.1=p.2)(e:Sl N L' (match bD C.P H n (qu kd f (tm N L t) k)with|some x=>x.1.tmps|none=>#[]))(h:∀a,Sl N L' a->af C i j m own (G (qu kd f a k') cs) v):af C i j m own (G (qu kd f t k) cs) v:=FX (main:=i==0) (J:=λg=>af C i j m own g v) s (λF z y l=>.ctl rfl y l) n r b u e h
theorem yr(n:Nat)(h:Sl N L t)(a:bD C.P H n (fr f (tm N L t) k)=W7 (fr f (jb C.P H n (fr f (tm N L t) k)) k',obs))(l:∀p∈obs,p.1=p.2)(b:∀w1,Env C i own w w1->cI C i own S mm (G (fr f (jb C.P H n (fr f (tm N L t) k)) k') cs) w1):cI C i own S (mm+n) (G (fr f t k) cs) w:=by(have e:fr f t k=fr f (tm N L t) k:=by rw[<-h.tm]);rw[e];exact rG bN cK n a l rfl Θ (b w .refl)
theorem vd(n:kd≠.early)(hS:Sl N L t)(r:ops[x]?=W7 o)(y:Region.wanted o (Xy ops (tm N L t))=W9)(s:bb o=W7 q)(e:dr o=ags)(u:ags.map (⟨t,[]⟩:XZ).eval=vs)(l:C.P.funcs[q]?=W7 fn)(p:(fn.name== "runtime.NumGoroutine")=W4)(k:fn.body=W7 c)(h:af C i j m own (G (fr q (vs++Array.replicate (fn.ntmps-vs.size) XA) [.code c]) (qu kd f t (.inRegion ops (x::rest)::kk)::cs)) v):af C i j m own (G (qu kd f t (.inRegion ops (x::rest)::kk)) cs) v:=.ctl rfl (λ_=>Ar n hS r y s e u l p k) h
theorem LI:Xp P main (G (qu kd f t []) cs) w=.go (G (P1 kd f t []) cs) w #[]:=by rfl
theorem yf(h:af C i j m own (G (P1 kd f t []) cs) v):af C i j m own (G (qu kd f t []) cs) v:=.ctl rfl (λ_=>LI) h
theorem xK(a:C.P.funcs[f]?=W7 fn)(b:fn.results=#[])(h:af C i j m own (G (caller.finish (.tuple #[])) cs) v):af C i j m own (G (P1 .normal f t kk) (caller::cs)) v:=.ctl rfl (λ_=>wK a b) h
theorem DI(l:C.P.funcs[f]?=W7 fn)(e:fn.results=#[])(k:caller.mode=.returning)(h:af C i j m own (G caller cs) v):af C i j m own (G (P1 .deferred f t kk) (caller::cs)) v:=.ctl rfl (λw=>stepG_leave_deferred (b:=bk .deferred f) (a:=⟨t,[]⟩) (todo:=kk) rfl rfl l (results_none e _ _ w) (events_results_none e _ _) k) h
end
end
section
variable{v w1:Xf}
abbrev cE(kd:X9)(ds:List XP)(f:XC)(t:Array Xc)(k:List XT):Xu:={fn:=f,tmps:=t,todo:=k,defers:=ds,mode:=.run,kind:=kd,roundOf:=Xg}
abbrev xi(kd:X9)(ds:List XP)(f:XC)(t:Array Xc)(k:List XT):Xu:={fn:=f,tmps:=t,todo:=k,defers:=ds,mode:=.returning,kind:=kd,roundOf:=Xg}
structure Xt(P:Xz)(q:XC)(fn:Func):Prop where
 f:P.funcs[q]?=W7 fn
 n:(fn.name== "runtime.NumGoroutine")=W4
 b:fn.body.isNone=W9
 x:Extern.findNext fn=Xg
section
variable{ds:List XP}
def kZ(P:Xz)(H:List (Nat×Xc))(n:Nat)(F:Xu):Array Xc:=match bD P H n F with|some x=>x.1.tmps|none=>#[]
theorem zl(y:kd≠.early)(s:∀F a,(∀w,Xp P main (G F cs) w=.go (G a cs) w #[])->J (G a cs)->J (G F cs))(n:Nat)(u:Sl N L t)(h:bD P H n (cE kd ds f (tm N L t) k)=W7 (cE kd ds f (kZ P H n (cE kd ds f (tm N L t) k)) k',obs))(z:∀p∈obs,p.1=p.2)(l:Sl N L' (kZ P H n (cE kd ds f (tm N L t) k)))(r:∀b,Sl N L' b->J (G (cE kd ds f b k') cs)):J (G (cE kd ds f t k) cs):=by(have e:cE kd ds f t k=cE kd ds f (tm N L t) k:=by rw[<-u.tm]);rw[e];exact ot s n h z rfl y (r _ l)
theorem FY(s:kd≠.early)(n:Nat)(r:Sl N L t)(b:bD C.P H n (cE kd ds f (tm N L t) k)=W7 (cE kd ds f (kZ C.P H n (cE kd ds f (tm N L t) k)) k',obs))(u:∀p∈obs,p.1=p.2)(e:Sl N L' (kZ C.P H n (cE kd ds f (tm N L t) k)))(h:∀a,Sl N L' a->af C i j m own (G (cE kd ds f a k') cs) v):af C i j m own (G (cE kd ds f t k) cs) v:=zl (J:=λg=>af C i j m own g v) s (λF z y l=>.ctl rfl y l) n r b u e h
theorem DQ(u:kd≠.early)(n:Nat)(s:Sl N L t)(e:bD P H n (cE kd ds f (tm N L t) k)=W7 (cE kd ds f (kZ P H n (cE kd ds f (tm N L t) k)) k',obs))(y:∀p∈obs,p.1=p.2)(h:Sl N L' (kZ P H n (cE kd ds f (tm N L t) k)))(l:∀b,Sl N L' b->∃a,QuitsD P a dd (G (cE kd ds f b k') cs)):∃a,QuitsD P a dd (G (cE kd ds f t k) cs):=zl (J:=λg=>∃a,QuitsD P a dd g) u (λF A z⟨a,r⟩=>⟨a+1,.ctl rfl (λw=>z w) r⟩) n s e y h l
theorem x5(s:kd≠.early)(n:Nat)(r:Sl N L t)(b:bD C.P H n (cE kd ds f (tm N L t) k)=W7 (cE kd ds f (kZ C.P H n (cE kd ds f (tm N L t) k)) k',obs))(u:∀p∈obs,p.1=p.2)(h:Sl N L' (kZ C.P H n (cE kd ds f (tm N L t) k)))(l:∀a w1,Sl N L' a->Env C i own w w1->cI C i own S mm (G (cE kd ds f a k') cs) w1):cI C i own S (mm+n) (G (cE kd ds f t k) cs) w:=by(have e:cE kd ds f t k=cE kd ds f (tm N L t) k:=by rw[<-r.tm]);rw[e];exact rG bN cK n b u rfl s (l _ w h .refl)
theorem wE(n:Nat)(O:List (Nat×Ob))(k':List XT)(L':List (Nat×Xc))(hS:Sl N L t)(hG:∀t',Sl N L' t'->af C i j m own (G (cE kd ds f t' k') cs) v)(hP:C.P=Pz:=by exact hP)(hk:kd≠.early:=by simp)(h1:bD Pz (oh O) n (cE kd ds f (tm N L t) k)=W7 (cE kd ds f (kZ Pz (oh O) n (cE kd ds f (tm N L t) k)) k',oo O):=by kernel_rfl)(h2:Sl N L' (kZ Pz (oh O) n (cE kd ds f (tm N L t) k)):=by exact .all):af C i j m own (G (cE kd ds f t k) cs) v:=FY hk n hS (by rw[hP];exact h1) (tM O) (by simp_all) hG
theorem eY(n:Nat)(k':List XT)(L':List (Nat×Xc))(hS:Sl N L t)(hG:∀t',Sl N L' t'->af C i j m own (G (cE kd ds f t' k') cs) v)(hP:C.P=Pz:=by exact hP)(hk:kd≠.early:=by simp)(h1:bD Pz (oh []) n (cE kd ds f (tm N L t) k)=W7 (cE kd ds f (kZ Pz (oh []) n (cE kd ds f (tm N L t) k)) k',oo []):=by kernel_rfl)(h2:Sl N L' (kZ Pz (oh []) n (cE kd ds f (tm N L t) k)):=by exact .all):af C i j m own (G (cE kd ds f t k) cs) v:=wE n [] k' L' hS hG hP hk h1 h2
theorem rT(n:Nat)(O:List (Nat×Ob))(k':List XT)(L':List (Nat×Xc))(hS:Sl N L t)(hG:∀t',Sl N L' t'->∃qn,QuitsD C.P qn dd (G (cE kd ds f t' k') cs))(hP:C.P=Pz:=by exact hP)(hk:kd≠.early:=by simp)(h1:bD Pz (oh O) n (cE kd ds f (tm N L t) k)=W7 (cE kd ds f (kZ Pz (oh O) n (cE kd ds f (tm N L t) k)) k',oo O):=by kernel_rfl)(h2:Sl N L' (kZ Pz (oh O) n (cE kd ds f (tm N L t) k)):=by exact .all):∃qn,QuitsD C.P qn dd (G (cE kd ds f t k) cs):=DQ hk n hS (by rw[hP];exact h1) (tM O) (by simp_all) hG
theorem sw(n:Nat)(k':List XT)(L':List (Nat×Xc))(hS:Sl N L t)(hG:∀t',Sl N L' t'->∃qn,QuitsD C.P qn dd (G (cE kd ds f t' k') cs))(hP:C.P=Pz:=by exact hP)(hk:kd≠.early:=by simp)(h1:bD Pz (oh []) n (cE kd ds f (tm N L t) k)=W7 (cE kd ds f (kZ Pz (oh []) n (cE kd ds f (tm N L t) k)) k',oo []):=by kernel_rfl)(h2:Sl N L' (kZ Pz (oh []) n (cE kd ds f (tm N L t) k)):=by exact .all):∃qn,QuitsD C.P qn dd (G (cE kd ds f t k) cs):=rT n [] k' L' hS hG hP hk h1 h2
theorem wS(n:Nat)(O:List (Nat×Ob))(k':List XT)(L':List (Nat×Xc))(hS:Sl N L t)(hG:∀t' w1,Sl N L' t'->Env C i own w w1->cI C i own S mm (G (cE kd ds f t' k') cs) w1)(hP:C.P=Pz:=by exact hP)(hk:kd≠.early:=by simp)(h1:bD Pz (oh O) n (cE kd ds f (tm N L t) k)=W7 (cE kd ds f (kZ Pz (oh O) n (cE kd ds f (tm N L t) k)) k',oo O):=by kernel_rfl)(h2:Sl N L' (kZ Pz (oh O) n (cE kd ds f (tm N L t) k)):=by exact .all):cI C i own S (mm+n) (G (cE kd ds f t k) cs) w:=x5 hk n hS (by rw[hP];exact h1) (tM O) (by simp_all) hG
theorem cx(n:Nat)(k':List XT)(L':List (Nat×Xc))(hS:Sl N L t)(hG:∀t' w1,Sl N L' t'->Env C i own w w1->cI C i own S mm (G (cE kd ds f t' k') cs) w1)(hP:C.P=Pz:=by exact hP)(hk:kd≠.early:=by simp)(h1:bD Pz (oh []) n (cE kd ds f (tm N L t) k)=W7 (cE kd ds f (kZ Pz (oh []) n (cE kd ds f (tm N L t) k)) k',oo []):=by kernel_rfl)(h2:Sl N L' (kZ Pz (oh []) n (cE kd ds f (tm N L t) k)):=by exact .all):cI C i own S (mm+n) (G (cE kd ds f t k) cs) w:=wS n [] k' L' hS hG hP hk h1 h2
theorem l5{v:Xc}(a:o.dst=W7 d):G ((bk kd f).at (XZ.put ⟨t,ds⟩ o.dst v) k) cs=G (cE kd ds f (t.setIfInBounds d v) k) cs:=by rw[a];rfl
theorem l9(A:kd≠.early)(hS:Sl N L t)(B:ops[x]?=W7 o)(F:Region.wanted o (Xy ops (tm N L t))=W9)(D:bb o=W7 q)(y:dr o=ags)(E:ags.map (⟨t,[]⟩:XZ).eval=vs)(r:P.funcs[q]?=W7 fn)(s:(fn.name== "runtime.NumGoroutine")=W4)(z:fn.body=W7 c):Xp P main (G (cE kd ds f t (.inRegion ops (x::rest)::kk)) cs) w=.go (G (fr q (vs++Array.replicate (fn.ntmps-vs.size) XA) [.code c]) (cE kd ds f t (.inRegion ops (x::rest)::kk)::cs)) w #[]:=by subst E;have n:=bM D y;(have l:fn.body.isNone=W4:=by grind);have h:=stepG_enter (main:=main) (b:=bk kd f) (a:=⟨t,ds⟩) (k:=kk) (rest:=rest) (cs:=cs) (w:=w) B (aU hS F) A (run_call_body n r s l);rw[enter_at _ r z]at h;(have e:listed P (bk kd f).fn ⟨t,ds⟩ o w=#[]:=by unfold listed;rw[events_call_body n r s l];rfl);rw[e]at h;exact h
theorem jk(b:ops[x]?=W7 o)(a:o.dst=W7 d)(u:Xc):(cE kd ds f t (.inRegion ops (x::rest)::kk)).finish u=cE kd ds f (t.setIfInBounds d u) (.inRegion ops rest::kk):=by simp[Xu.finish,b,a]
theorem GF:Xp P main (G (cE kd ds f t []) cs) w=.go (G (xi kd ds f t []) cs) w #[]:=by rfl
theorem kX:Xp P main (G (cE kd ds f t (.code .ret::kk)) cs) w=.go (G (xi kd ds f t (.code .ret::kk)) cs) w #[]:=by rfl
theorem mV(h:P.funcs[f]?=W7 fn)(e:fn.results=#[]):Xp P main (G (xi .normal [] f t kk) (caller::cs)) w=.go (G (caller.finish (.tuple #[])) cs) w #[]:=stepG_leave (b:=base f) (a:=⟨t,[]⟩) rfl rfl h (results_none e _ _ w) (events_results_none e _ _)
theorem jw{s:Tmp}(h:P.funcs[f]?=W7 fn)(e:fn.results=#[.tmp s])(k:t.getD s XA=u):Xp P main (G (xi .normal [] f t kk) (caller::cs)) w=.go (G (caller.finish u) cs) w #[]:=by subst k;exact stepG_leave (b:=base f) (a:=⟨t,[]⟩) rfl rfl h (results_tmp e _ _ w) (events_results_tmp e _ _)
theorem Le(k:P.funcs[f]?=W7 fn)(e:fn.results=#[])(h:caller.mode=.returning):Xp P main (G (xi .deferred [] f t kk) (caller::cs)) w=.go (G caller cs) w #[]:=stepG_leave_deferred (b:=bk .deferred f) (a:=⟨t,[]⟩) rfl rfl k (results_none e _ _ w) (events_results_none e _ _) h
theorem vW(r:kd≠.early)(hS:Sl N L t)(s:ops[x]?=W7 o)(y:Region.wanted o (Xy ops (tm N L t))=W9)(p:o.dst=Xg)(l:o.op=.defer {callee:=.value (.func q),args:=ags,argTypes:=ats})(u:ags.map (⟨t,[]⟩:XZ).eval=vs):Xp P main (G (cE kd ds f t (.inRegion ops (x::rest)::kk)) cs) w=.go (G (cE kd (dcall q vs::ds) f t (.inRegion ops rest::kk)) cs) w #[]:=by subst u;refine(stepG_defer (b:=bk kd f) (a:=⟨t,ds⟩) s (aU hS y) r l).trans ?_;rw[p];rfl
theorem nP(m:Mark)(k:∀g,m≠.extern g)(X:Xt P q fn)(h:Extern.find fn=W7 (λ_=>do mark m;pure Extern.Race.none_)):Xp P main (G (xi kd (dcall q #[]::ds) f t kk) cs) w=.go (G (xi kd ds f t kk) cs) w #[mk m]:=by have:=stepG_unwind_entry (main:=main) (b:=bk kd f) (a:=⟨t,dcall q #[]::ds⟩) (todo:=kk) (cs:=cs) (w:=w) rfl X.f X.n X.b X.x h (v:=Extern.Race.none_) (w':=w) (evs:=#[⟨.mark m,W4,W9⟩]) Θ Θ (by simp_all);exact this
theorem oW(p:kd≠.early)(m:Mark)(r:∀g,m≠.extern g)(hS:Sl N L t)(s:ops[x]?=W7 o)(y:Region.wanted o (Xy ops (tm N L t))=W9)(l:o.dst=W7 d)(u:bb o=W7 q)(X:Xt P q fn)(n:Extern.find fn=W7 (λ_=>do mark m;pure Extern.Race.none_)):Xp P main (G (cE kd ds f t (.inRegion ops (x::rest)::kk)) cs) w=.go (G (cE kd ds f (t.setIfInBounds d (.tuple #[])) (.inRegion ops rest::kk)) cs) w #[mk m]:=(stepG_mark0 (b:=bk kd f) (a:=⟨t,ds⟩) m r s (aU hS y) p (bM u rfl) X.f X.n X.b X.x n).trans (by rw[l5 l];try rfl)
theorem mG(s:kd≠.early)(h:XU->Mark)(u:∀ad g,h ad≠.extern g)(hS:Sl N L t)(y:ops[x]?=W7 o)(A:Region.wanted o (Xy ops (tm N L t))=W9)(p:o.dst=W7 d)(z:bb o=W7 q)(n:dr o=ags)(X:Xt P q fn)(r:Extern.find fn=W7 (Extern.Race.marked h))(B:(ags.map (⟨t,ds⟩:XZ).eval)[0]?=W7 (.pointer (W7 ad))):Xp P main (G (cE kd ds f t (.inRegion ops (x::rest)::kk)) cs) w=.go (G (cE kd ds f (t.setIfInBounds d (.tuple #[])) (.inRegion ops rest::kk)) cs) w #[mk (h ad)]:=(stepG_markAt (b:=bk kd f) (a:=⟨t,ds⟩) h u y (aU hS A) s (bM z n) X.f X.n X.b X.x r B).trans (by rw[l5 p];try rfl)
theorem Iy(p:kd≠.early)(u:Xc)(hS:Sl N L t)(r:ops[x]?=W7 o)(y:Region.wanted o (Xy ops (tm N L t))=W9)(l:o.dst=W7 d)(s:bb o=W7 q)(X:Xt P q fn)(n:Extern.find fn=W7 (λ_=>pure u)):Xp P main (G (cE kd ds f t (.inRegion ops (x::rest)::kk)) cs) w=.go (G (cE kd ds f (t.setIfInBounds d u) (.inRegion ops rest::kk)) cs) w #[]:=(stepG_entry_pure (b:=bk kd f) (a:=⟨t,ds⟩) u r (aU hS y) p (bM s rfl) X.f X.n X.b X.x n).trans (by rw[l5 l])
theorem Jf(p:kd≠.early)(hS:Sl N L t)(r:ops[x]?=W7 o)(y:Region.wanted o (Xy ops (tm N L t))=W9)(l:o.dst=W7 d)(s:(Xm (⟨t,ds⟩:XZ).eval o).run P w=.ok (.value u) w)(n:(Xm (⟨t,ds⟩:XZ).eval o).events P w #[]=#[]):Xp P main (G (cE kd ds f t (.inRegion ops (x::rest)::kk)) cs) w=.go (G (cE kd ds f (t.setIfInBounds d u) (.inRegion ops rest::kk)) cs) w #[]:=by refine(stepG_value (b:=bk kd f) (a:=⟨t,ds⟩) r (aU hS y) p s).trans ?_;unfold listed;rw[n,kG,l5 l]
theorem sW{e:Xv}{v:Xc}(k:P.underlying s=W7 (.pointer e))(a:P.underlying d'=W7 .unsafePointer)(l:(P.info? e).map (λi=>decide (i.size=0))=W7 W4)(A:kd≠.early)(hS:Sl N L t)(B:ops[x]?=W7 o)(E:Region.wanted o (Xy ops (tm N L t))=W9)(z:o.dst=W7 d)(D:o.op=.convert s d' y)(F:(⟨t,ds⟩:XZ).eval y=.pointer (W7 ad))(h:w.cell? ad=W7 v):Xp P main (G (cE kd ds f t (.inRegion ops (x::rest)::kk)) cs) w=.go (G (cE kd ds f (t.setIfInBounds d (.pointer (W7 ad))) (.inRegion ops rest::kk)) cs) w #[]:=by have u:=run_convert_to_unsafe k a l h;have r:=λn=>events_convert_to_unsafe k a l h n;refine Jf A hS B E z ?_ ?_;{unfold Xm;simp_all};unfold Xm;simp_all
theorem Gv(A:kd≠.early){v:Int}(hS:Sl N L t)(B:ops[x]?=W7 o)(E:Region.wanted o (Xy ops (tm N L t))=W9)(r:o.dst=W7 d)(D:bb o=W7 q)(l:dr o=#[y,z])(X:Xt P q fn)(s:Extern.find fn=W7 (Extern.Atomic.update (Op.intArith .add) .u64 W9))(F:(⟨t,ds⟩:XZ).eval y=.pointer (W7 ad))(H:(⟨t,ds⟩:XZ).eval z=.int .u64 n)(p:w.cell? ad=W7 (.int .u64 v))(u:w.frozen? ad=W4):Xp P main (G (cE kd ds f t (.inRegion ops (x::rest)::kk)) cs) w=.go (G (cE kd ds f (t.setIfInBounds d (.int .u64 (Xs.u64.wrap (v+n)))) (.inRegion ops rest::kk)) cs) (w.setCell ad (.int .u64 (Xs.u64.wrap (v+n)))) #[rd ad,wr ad]:=(stepG_add_atomic (b:=bk kd f) (a:=⟨t,ds⟩) B (aU hS E) A (bM D l) X.f X.n X.b X.x .u64 s F H p u).trans (by rw[l5 r];try rfl)
theorem xv(s:kd≠.early){v:Int}(hS:Sl N L t)(u:ops[x]?=W7 o)(A:Region.wanted o (Xy ops (tm N L t))=W9)(p:o.dst=W7 d)(z:bb o=W7 q)(l:dr o=#[y])(X:Xt P q fn)(r:Extern.find fn=W7 (Extern.Atomic.loadT (.int .u64)))(B:(⟨t,ds⟩:XZ).eval y=.pointer (W7 ad))(n:w.cell? ad=W7 (.int .u64 v)):Xp P main (G (cE kd ds f t (.inRegion ops (x::rest)::kk)) cs) w=.go (G (cE kd ds f (t.setIfInBounds d (.int .u64 v)) (.inRegion ops rest::kk)) cs) w #[rd ad]:=(stepG_load_atomic (b:=bk kd f) (a:=⟨t,ds⟩) u (aU hS A) s (bM z l) X.f X.n X.b X.x .u64 r B n).trans (by rw[l5 p];try rfl)
theorem Gh(B:kd≠.early)(hS:Sl N L t)(D:ops[x]?=W7 o)(F:Region.wanted o (Xy ops (tm N L t))=W9)(r:o.dst=W7 d)(E:bb o=W7 q)(l:dr o=#[y,z])(X:Xt P q fn)(s:Extern.find fn=W7 Extern.Atomic.storeT)(H:(⟨t,ds⟩:XZ).eval y=.pointer (W7 ad))(I:(⟨t,ds⟩:XZ).eval z=.int .u64 n)(p:w.cell? ad=W7 u)(A:w.frozen? ad=W4):Xp P main (G (cE kd ds f t (.inRegion ops (x::rest)::kk)) cs) w=.go (G (cE kd ds f (t.setIfInBounds d (.tuple #[])) (.inRegion ops rest::kk)) cs) (w.setCell ad (.int .u64 n)) #[wr ad]:=(stepG_store_atomic (b:=bk kd f) (a:=⟨t,ds⟩) D (aU hS F) B (bM E l) X.f X.n X.b X.x s H I p A).trans (by rw[l5 r];try rfl)
theorem AS(B:kd≠.early){u:XI}{v:Int}(hS:Sl N L t)(D:ops[x]?=W7 o)(H:Region.wanted o (Xy ops (tm N L t))=W9)(r:o.dst=W7 d)(E:bb o=W7 q)(l:dr o=#[y,z,u])(X:Xt P q fn)(s:Extern.find fn=W7 (Extern.Atomic.casT (.int .u64)))(I:(⟨t,ds⟩:XZ).eval y=.pointer (W7 ad))(J:(⟨t,ds⟩:XZ).eval z=.int .u64 v)(F:(⟨t,ds⟩:XZ).eval u=.int .u64 n)(p:w.cell? ad=W7 (.int .u64 v))(A:w.frozen? ad=W4):Xp P main (G (cE kd ds f t (.inRegion ops (x::rest)::kk)) cs) w=.go (G (cE kd ds f (t.setIfInBounds d (.bool W9)) (.inRegion ops rest::kk)) cs) (w.setCell ad (.int .u64 n)) #[rd ad,wr ad]:=(stepG_cas_hit (b:=bk kd f) (a:=⟨t,ds⟩) D (aU hS H) B (bM E l) X.f X.n X.b X.x .u64 s I J F p A).trans (by rw[l5 r];try rfl)
theorem yv(D:kd≠.early){u:XI}{v:Int}(hS:Sl N L t)(E:ops[x]?=W7 o)(I:Region.wanted o (Xy ops (tm N L t))=W9)(s:o.dst=W7 d)(F:bb o=W7 q)(p:dr o=#[y,z,u])(X:Xt P q fn)(A:Extern.find fn=W7 (Extern.Atomic.casT (.int .u64)))(J:(⟨t,ds⟩:XZ).eval y=.pointer (W7 ad))(K:(⟨t,ds⟩:XZ).eval z=.int .u64 old)(H:(⟨t,ds⟩:XZ).eval u=.int .u64 n)(r:w.cell? ad=W7 (.int .u64 v))(B:w.frozen? ad=W4)(k:¬v=old):Xp P main (G (cE kd ds f t (.inRegion ops (x::rest)::kk)) cs) w=.go (G (cE kd ds f (t.setIfInBounds d (.bool W4)) (.inRegion ops rest::kk)) cs) w #[rd ad]:=(stepG_cas_miss (b:=bk kd f) (a:=⟨t,ds⟩) E (aU hS I) D (bM F p) X.f X.n X.b X.x .u64 A J K H r B k).trans (by rw[l5 s];try rfl)
theorem Q1(z:kd≠.early)(hS:Sl N L t)(A:ops[x]?=W7 o)(D:Region.wanted o (Xy ops (tm N L t))=W9)(s:o.dst=W7 d)(B:bb o=W7 q)(p:dr o=ags)(X:Xt P q fn)(u:Extern.find fn=W7 Extern.Sync.semacquire)(E:(ags.map (⟨t,ds⟩:XZ).eval)[0]?=W7 (.pointer (W7 ad)))(r:w.cell? ad=W7 (.int .u32 n))(k:n≠0)(y:w.frozen? ad=W4):Xp P main (G (cE kd ds f t (.inRegion ops (x::rest)::kk)) cs) w=.go (G (cE kd ds f (t.setIfInBounds d (.tuple #[])) (.inRegion ops rest::kk)) cs) (w.setCell ad (.int .u32 (n-1))) (semEvents ad):=(stepG_semacquire (b:=bk kd f) (a:=⟨t,ds⟩) A (aU hS D) z (bM B p) X.f X.n X.b X.x u E r k y).trans (by rw[l5 s])
theorem BB(hS:Sl N L t)(s:ops[x]?=W7 o)(y:Region.wanted o (Xy ops (tm N L t))=W9)(u:bb o=W7 q)(n:dr o=ags)(X:Xt P q fn)(r:Extern.find fn=W7 Extern.Sync.semacquire)(z:(ags.map (⟨t,ds⟩:XZ).eval)[0]?=W7 (.pointer (W7 ad)))(p:w.cell? ad=W7 (.int .u32 0)):Xp P main (G (cE kd ds f t (.inRegion ops (x::rest)::kk)) cs) w=.go {G (cE kd ds f t (.inRegion ops (x::rest)::kk)) cs with status:=.blocked} w #[]:=stepG_semacquire_wait (b:=bk kd f) (a:=⟨t,ds⟩) s (aU hS y) (bM u n) X.f X.n X.b X.x r z p
theorem RI(y:kd≠.early)(hS:Sl N L t)(z:ops[x]?=W7 o)(B:Region.wanted o (Xy ops (tm N L t))=W9)(r:o.dst=W7 d)(A:bb o=W7 q)(l:dr o=ags)(X:Xt P q fn)(s:Extern.find fn=W7 Extern.Sync.semrelease)(D:(ags.map (⟨t,ds⟩:XZ).eval)[0]?=W7 (.pointer (W7 ad)))(p:w.cell? ad=W7 (.int .u32 n))(u:w.frozen? ad=W4):Xp P main (G (cE kd ds f t (.inRegion ops (x::rest)::kk)) cs) w=.go (G (cE kd ds f (t.setIfInBounds d (.tuple #[])) (.inRegion ops rest::kk)) cs) (w.setCell ad (.int .u32 (Xs.u32.wrap (n+1)))) (semEvents ad):=(stepG_semrelease (b:=bk kd f) (a:=⟨t,ds⟩) z (aU hS B) y (bM A l) X.f X.n X.b X.x s D p u).trans (by rw[l5 r])
end
end
section
variable{v w1:Xf}
abbrev hl(C:Cx)(je:Int)(st aw:Bool)(it:Nat)(z:Int):List (Nat×Xc):=[(0,ϱ C.mu C.mo),(2,Iv je),(3,.bool st),(4,.bool aw),(5,Iv it),(6,.int .i32 z)]
def ji(C:Cx)(K:Xf->Prop)(b₁:Xu)(a₁:XZ)(ops₁:Array X4)(i₁:Nat)(rest₁:List Nat)(k₁:List XT)(cs₁:List Xu)(o:Wd)(aw st:Bool)(it:Nat)(g:Xh)(w:Xf):Prop:=
 K w/\∃(je:Int)(t:Array Xc),Sl 139 (hl C je st aw it (o.enc:Nat)) t/\g=G (fr 166 t (cA aj 504)) (b₁.at a₁ (.inRegion ops₁ (i₁::rest₁)::k₁)::cs₁)
section
variable{b₁:Xu}{a₁:XZ}{ops₁:Array X4}{i₁:Nat}{rest₁:List Nat}{k₁:List XT}{cs₁:List Xu}{K:Xf->Prop}
set_option maxRecDepth 100000 in theorem PW(hC:C.Ok)(hP:C.P=Pz)(hK:Kd C i own K)(c:K w)(hS:Sl 139 [(0,ϱ C.mu C.mo)] t):cI C i own (uL C i own (ji C K b₁ a₁ ops₁ i₁ rest₁ k₁ cs₁) W4 W4 0) 21 (G (fr 166 t [.code aj]) (b₁.at a₁ (.inRegion ops₁ (i₁::rest₁)::k₁)::cs₁)) w:=by show cI C i own _ _ (G (fr 166 _ (cA aj 1)) _) w;refine dP 21 (rA aj 62 [3,4]) [(0,ϱ C.mu C.mo),(2,Iv 0),(3,.bool W4),(4,.bool W4),(5,Iv 0),(12,ϱ C.mu C.mo)] hS λt w1 hS r=>aD (n:=0) λw1 e=>?_;replace c:=hK.env (hK.env c r) e;refine⟨rfl,λf q hw _=>⟨_,by rw[hP];exact nA hS (o:=opn (aT (sb aj 62)) 3) (d:=13) Ψ Ψ Ψ (y:=.tmp 12) Ψ (hS.get (by rfl)) (az.cell hC hw) Ki,5,?_⟩⟩;replace hS:Sl 139 [(13,.int .i32 (f.enc:Nat)),(0,ϱ C.mu C.mo),(2,Iv 0),(3,.bool W4),(4,.bool W4),(5,Iv 0),(12,ϱ C.mu C.mo)] _:=hS.put (d:=13) (v:=.int .i32 (f.enc:Nat)) Δ Θ;refine dP 5 (cA aj 504) [(0,ϱ C.mu C.mo),(2,Iv 0),(3,.bool W4),(4,.bool W4),(5,Iv 0),(6,.int .i32 (f.enc:Nat))] hS λt w1 hS r=>aD (n:=0) λw1 e=>?_;exact⟨hK.env (hK.env c r) e,_,t,hS,rfl⟩
end
end
end Go.Lw
