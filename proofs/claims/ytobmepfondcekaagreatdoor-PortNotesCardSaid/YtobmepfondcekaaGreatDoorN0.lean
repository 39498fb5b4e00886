/- A part. -/
import Derived.KernelRfl
import GoSem.Core.Value
import Derived.Conc.Own4
import Derived.Conc.SmallLaws
import Derived.Conc.Listed
import Derived.Calls
import Derived.Conc.Own
import Derived.Conc.Events
import Derived.Laws.Entries
import Derived.Conc.LockTrace
import Derived.Conc.MuSpec
import Derived.Conc.Beside
import Derived.Conc.MuWords
import Derived.Conc.ClockLaws
import Derived.Test.YtobmepfondcekaaGreatDoorProg
import Derived.Conc.DeferLaws
import Derived.Conc.QuitsD
import Derived.Conc.WgArith
set_option linter.all false
open Go.Proofs.Tryz renaming prog->Pz
open Go renaming Act->Yc,Addr->X7,Builtin->XV,CallKind->Yk,Code->Yg,Deferred->XW,Event->X9,Frame->XF,FuncId->XM,Goroutine->XB,IntKind->XE,Item->X6,MapEntry->Ye,Obj->X3,Oper->Yf,Operand->XS,Program->XI,Question->Yi,Result->XX,Sem->XT,TypeId->XG,Value->Xv,World->Xz,execOp->XC,stepG->XD,undef->XJ,yielded->XH
open Bool renaming false->Xj,true->Xs
open Option renaming none->Xw,some->Xn
open Go.Proofs.Tryz
abbrev UH:=@Nat.le_refl
abbrev UI:=@Nat.lt_of_lt_of_le
abbrev UJ:=@Array.getElem?_eq_some_iff
abbrev UK:=@Bool.and_eq_true
abbrev UL:=@List.getElem?_eq_getElem
abbrev UM:=@List.mem_of_getElem?
abbrev UN:=@Option.map_eq_some_iff
abbrev UO:=@List.mem_cons
abbrev UP:=@List.mem_cons_self
abbrev UQ:=@Array.getD_eq_getD_getElem?
abbrev UR:=@List.mem_map
abbrev US:=@Nat.zero_add
abbrev UT:=@Array.getElem?_eq_getElem
abbrev UU:=@List.getElem?_eq_some_iff
abbrev UW:=@List.mem_append
abbrev UX:=@List.any_eq_true
abbrev UY:=@List.getElem?_map
abbrev UZ:=@List.mem_cons_of_mem
abbrev U0:=@List.mem_singleton
abbrev U1:=@Iff.rfl
abbrev U2:=@Prod.mk.injEq
abbrev U3:=@Option.some.injEq
abbrev U4:=@Nat.lt_irrefl
abbrev U5:=@Option.map_some
abbrev U6:=@Array.getElem?_setIfInBounds_ne
abbrev U7:=@Array.getElem?_replicate
abbrev U8:=@Int.le_refl
abbrev U9:=@Nat.le_trans
abbrev Va:=@List.mem_iff_getElem?
abbrev Vb:=@Option.bind_eq_some_iff
abbrev Ve:=@Nat.add_zero
abbrev Vf:=@List.mem_append_left
abbrev Vg:=@Array.getElem?_push
abbrev Vh:=@Prod.mk.inj
abbrev Vi:=@List.map_cons
abbrev Vj:=@List.all_eq_true
abbrev Vk:=@Bool.false_eq_true
abbrev Vl:=@List.not_mem_nil
abbrev Vm:=@List.mem_append_right
abbrev Vn:=@Bool.eq_false_iff
abbrev Vo:=@Nat.lt_or_ge
abbrev Vp:=@Array.mem_append
abbrev Vq:=@Nat.zero_le
abbrev Vr:=@List.length_eq_zero_iff
abbrev Vs:=@Nat.le_of_lt
abbrev Vt:=@Nat.le_of_ble_eq_true
abbrev Vu:=@Option.getD_some
abbrev Vv:=@Array.mem_of_getElem?
abbrev Vw:=@Nat.eq_zero_or_pos
abbrev Vx:=@List.length_append
abbrev Vy:=@Nat.le_of_eq
abbrev Vz:=@List.nodup_cons
abbrev VA:=@Classical.byContradiction
abbrev VB:=@List.map_nil
abbrev VC:=@Option.some.inj
abbrev VD:=@Array.getElem?_modify
abbrev VE:=@List.mem_filter
abbrev VF:=@Nat.not_lt_zero
abbrev VG:=@Nat.le_add_right
abbrev VH:=@List.all_cons
abbrev VI:=@Nat.mod_lt
abbrev VJ:=@Bool.false_and
abbrev VK:=@Nat.le_succ
abbrev VL:=@Bool.or_eq_true
abbrev VM:=@List.take_of_length_le
abbrev VN:=@List.getElem?_range
abbrev VO:=@Nat.mul_le_mul_right
abbrev VP:=@List.append_nil
abbrev VQ:=@Array.getElem?_setIfInBounds
abbrev VR:=@List.foldl_cons
abbrev VS:=@List.count_cons_of_ne
abbrev VU:=@List.append_assoc
abbrev VV:=@List.perm_middle
abbrev VW:=@List.nil_append
abbrev VX:=@Option.bind_some
abbrev VY:=@Array.getElem?_map
abbrev VZ:=@Nat.ne_of_lt
abbrev V0:=@List.getElem_mem
abbrev V1:=@List.length_cons
abbrev V2:=@List.drop_eq_getElem_cons
abbrev V3:=@Bool.true_and
abbrev V4:=@List.map_append
abbrev V5:=@Nat.pos_of_ne_zero
abbrev V6:=@List.set_cons_zero
abbrev V7:=@List.set_cons_succ
abbrev V8:=@List.length_set
abbrev V9:=@List.getElem?_append_left
abbrev Wa:=@List.map_toArray
abbrev Wb:=@Bool.or_true
abbrev We:=@Option.isSome_iff_exists
abbrev Wf:=@Nat.add_assoc
abbrev Wg:=@Nat.lt_or_eq_of_le
abbrev Wh:=@Bool.true_or
abbrev Wi:=@List.mem_flatMap
abbrev Wj:=@List.nodup_nil
abbrev Wk:=@Nat.mul_one
abbrev Wl:=@Array.size_setIfInBounds
abbrev Wm:=@List.length_pos_iff
abbrev Wn:=@Array.mem_iff_getElem
abbrev Wo:=@List.getElem?_cons_succ
abbrev Wp:=@List.take_add_one
abbrev Wq:=@List.getElem_toArray
abbrev Wr:=@List.getElem_cons_succ
abbrev Ws:=@List.getElem_cons_zero
abbrev Wt:=@List.setIfInBounds_toArray
abbrev Wu:=@Array.length_toList
abbrev Wv:=@Nat.add_mul
abbrev Ww:=@Array.mem_push
abbrev Wx:=@Array.all_eq_true_iff_forall_mem
abbrev Wy:=@List.foldl_append
abbrev Wz:=@Bool.toNat_le
abbrev WA:=@Bool.eq_iff_iff
abbrev WB:=@Int.le_trans
abbrev WC:=@List.range_succ
abbrev WE:=@Array.getElem?_eq_none
abbrev WG:=@List.getElem?_toArray
abbrev WH:=@Array.ext_getElem?
abbrev WI:=@List.mem_map_of_mem
abbrev WJ:=@List.getElem?_set
abbrev WK:=@Array.getElem?_setIfInBounds_self_of_lt
abbrev WL:=@List.mem_or_eq_of_mem_set
abbrev WM:=@List.getElem?_append_right
abbrev WN:=@List.cons.injEq
abbrev WO:=@Nat.le_of_lt_succ
abbrev WQ:=@Bool.or_false
abbrev WR:=@List.ext_getElem?
abbrev WS:=@Nat.testBit_two_pow_mul_add
abbrev WT:=@Int.fdiv_eq_ediv_of_nonneg
abbrev WU:=@Nat.mul_comm
abbrev WV:=@List.eq_nil_or_concat
abbrev WW:=@Int.max_eq_right
abbrev WX:=@Int.max_eq_left
abbrev WY:=@List.any_cons
abbrev WZ:=@List.count_pos_iff
abbrev W1:=@Int.le_antisymm
abbrev W3:=@List.flatMap_cons
abbrev W4:=@List.count_append
abbrev W6:=@Bool.not_false
abbrev W7:=@Nat.lt_of_succ_lt
abbrev W8:=@List.cons_append
abbrev W9:=@List.nodup_append
abbrev Xa:=@Nat.le_of_not_lt
abbrev Xb:=@List.foldlM_cons
abbrev Xc:=@Bool.false_or
abbrev Xd:=@List.take_length
abbrev Xe:=@List.mapIdx_cons
abbrev Xf:=@Nat.lt_of_le_of_lt
abbrev Xg:=@Nat.le_antisymm
abbrev Xh:=@Array.getElem?_of_mem
abbrev Xi:=@List.eq_nil_of_length_eq_zero
abbrev Xk:=@Nat.and_two_pow_sub_one_eq_mod
abbrev Xl:=@Nat.two_pow_add_eq_or_of_lt
abbrev Xm:=@Nat.pow_le_pow_right
abbrev Xo:=@Array.getElem?_append_left
abbrev Xp:=@List.concat_eq_append
abbrev Xq:=@List.mem_of_mem_drop
abbrev Xr:=@List.map_eq_nil_iff
abbrev Xu:=@Nat.pos_iff_ne_zero
abbrev Xx:=@Array.toList_append
abbrev Xy:=@List.count_cons_self
abbrev XA:=@Classical.choose_spec
abbrev XK:=@List.perm_append_comm_assoc
abbrev XL:=@List.contains_iff_mem
abbrev XN:=@List.extract_eq_take_drop
abbrev XQ:=@Array.getElem_setIfInBounds
abbrev XR:=@Array.getElem?_push_lt
abbrev XU:=@Array.getElem!_eq_getD
abbrev XY:=@Array.mapM_eq_foldlM
abbrev XZ:=@Array.foldlM_toList
abbrev X0:=@List.take_succ_eq_append_getElem
abbrev X5:=@List.take_subset_take_left
abbrev X8:=@List.flatMap_eq_nil_iff
abbrev Ya:=@List.drop_of_length_le
namespace Go
abbrev Iv(n:Int):Xv:=.int .i64 n
variable{p:Prop}
theorem Ψ(h:p:=by kernel_rfl):p:=h
theorem Δ(h:p:=by decide):p:=h
theorem Ω(h:p:=by omega):p:=h
theorem Θ(h:p:=by simp):p:=h
theorem Ξ(h:p:=by rw[hP];kernel_rfl):p:=h
theorem Λ(h:p:=by rw[hP];exact .all):p:=h
theorem Υ(h:p:=by intro p hp;simp only[UO,Vl,or_false]at hp;(repeat'(refine Or.elim hp ?_ ?_<;>intro hp));(all_goals subst hp);all_goals first|(left;simp;done)|(refine .inr ⟨0,?_,hdep 0 ?_⟩;rotate_left;kernel_rfl;simp;done)|(refine .inr ⟨1,?_,hdep 1 ?_⟩;rotate_left;kernel_rfl;simp;done)|(refine .inr ⟨2,?_,hdep 2 ?_⟩;rotate_left;kernel_rfl;simp;done)|(refine .inr ⟨3,?_,hdep 3 ?_⟩;rotate_left;kernel_rfl;simp;done)|(refine .inr ⟨4,?_,hdep 4 ?_⟩;rotate_left;kernel_rfl;simp;done)|(refine .inr ⟨5,?_,hdep 5 ?_⟩;rotate_left;kernel_rfl;simp;done)|(refine .inr ⟨6,?_,hdep 6 ?_⟩;rotate_left;kernel_rfl;simp;done)|(refine .inr ⟨7,?_,hdep 7 ?_⟩;rotate_left;kernel_rfl;simp;done)|(refine .inr ⟨8,?_,hdep 8 ?_⟩;rotate_left;kernel_rfl;simp;done)|(refine .inr ⟨9,?_,hdep 9 ?_⟩;rotate_left;kernel_rfl;simp;done)|(refine .inr ⟨10,?_,hdep 10 ?_⟩;rotate_left;kernel_rfl;simp;done)|(refine .inr ⟨11,?_,hdep 11 ?_⟩;rotate_left;kernel_rfl;simp;done)|(refine .inr ⟨12,?_,hdep 12 ?_⟩;rotate_left;kernel_rfl;simp;done)|(refine .inr ⟨13,?_,hdep 13 ?_⟩;rotate_left;kernel_rfl;simp;done)|(refine .inr ⟨14,?_,hdep 14 ?_⟩;rotate_left;kernel_rfl;simp;done)|(refine .inr ⟨15,?_,hdep 15 ?_⟩;rotate_left;kernel_rfl;simp;done)|(refine .inr ⟨16,?_,hdep 16 ?_⟩;rotate_left;kernel_rfl;simp;done)|(refine .inr ⟨17,?_,hdep 17 ?_⟩;rotate_left;kernel_rfl;simp;done)|(refine .inr ⟨18,?_,hdep 18 ?_⟩;rotate_left;kernel_rfl;simp;done)|(refine .inr ⟨19,?_,hdep 19 ?_⟩;rotate_left;kernel_rfl;simp;done)|(refine .inr ⟨20,?_,hdep 20 ?_⟩;rotate_left;kernel_rfl;simp;done)|(refine .inr ⟨21,?_,hdep 21 ?_⟩;rotate_left;kernel_rfl;simp;done)|(refine .inr ⟨22,?_,hdep 22 ?_⟩;rotate_left;kernel_rfl;simp;done)|(refine .inr ⟨23,?_,hdep 23 ?_⟩;rotate_left;kernel_rfl;simp;done)|(refine .inr ⟨24,?_,hdep 24 ?_⟩;rotate_left;kernel_rfl;simp;done)|(refine .inr ⟨25,?_,hdep 25 ?_⟩;rotate_left;kernel_rfl;simp;done)):p:=h
abbrev ϖ(b:Nat):Xv:=.pointer (Xn ⟨b,0,Xw⟩)
abbrev ϱ(b o:Nat):Xv:=.pointer (Xn ⟨b,o,Xw⟩)
end Go
namespace Go.Pw
open Go.Conc
variable{P:XI}{α:Type}{F F' F1:XF}{o:X3}{main rd:Bool}{cs:List XF}{w:Xz}{ops:Array Yf}{i d m N b:Nat}{k:List X6}{H L L':List (Nat×Xv)}{R:Xz->Xz->Prop}{D:Xz->Xz->Array X9->Prop}{Stop:XB->Xz->Prop}{J:XB->Prop}{v:Xv}{t:Array Xv}{f:XM}
def dZ(P:XI){α:Type}:XT α->Option α
 |.pure a=>Xn a
 |.program k=>dZ P (k P)
 |_=>Xw
theorem ib{x:XT α}{a:α}(h:dZ P x=Xn a)(w:Xz):x.run P w=.ok a w/\x.events P w #[]=#[]:=by induction x with|pure b=>simp only[dZ,U3]at h;subst h;exact⟨rfl,rfl⟩|program k c=>exact c P h|_=>simp[dZ]at h
def AJ(P:XI)(F:XF)(o:Yf):Option XF:=
 match o.op with
 |.defer _=>Xw
 |_=>match dZ P (XC F.eval o)with
   |some (.value v)=>Xn (F.finish v)
   |some .skip=>Xn (F.finish XJ)
   |_=>Xw
def lV(P:XI)(F:XF):Option XF:=
 match F.todo with
 |.code .skip::k=>Xn {F with todo:=k}
 |.code (.label _)::k=>Xn {F with todo:=k}
 |.inBlock _::k=>Xn {F with todo:=k}
 |.inScope _::k=>Xn {F with todo:=k}
 |.code (.seq a b)::k=>Xn {F with todo:=.code a::.code b::k}
 |.code (.cond c x y)::k=>match F.eval c with
   |.bool b=>Xn {F with todo:=.code (if b then x else y)::k}
   |_=>Xw
 |.code (.block id c)::k=>Xn {F with todo:=.code c::.inBlock id::k}
 |.code (.loop c)::k=>Xn {F with todo:=.code c::.inLoop c::k}
 |.inLoop c::k=>Xn {F with todo:=.code c::.inLoop c::k}
 |.code (.scope c)::k=>Xn {F with todo:=.code c::.inScope c::k}
 |.code (.exit id)::k=>(exitTo id k).map λk=>{F with todo:=k}
 |.code (.region _ ops Xj)::k=>Xn {F with todo:=.inRegion ops (List.range ops.size)::k}
 |.inRegion _ []::k=>Xn {F with todo:=k}
 |.inRegion ops (i::_)::_=>
   match((ops[i]?).map (Region.wanted · (XH ops F.tmps))).getD Xj with
   |true=>(ops[i]?).bind (AJ P F)
   |false=>Xn (F.finish XJ)
 |_=>Xw
def hint(H:List (Nat×Xv))(F F1:XF):XF×List (Xv×Xv):=
 match F.todo with
 |.inRegion ops (i::_)::_=>
   match(ops[i]?).bind (·.dst)with
   |some d=>match H.lookup d with
     |some v=>({F1 with tmps:=F.tmps.setIfInBounds d v},[(F1.tmps.getD d XJ,v)])
     |none=>(F1,[])
   |none=>(F1,[])
 |_=>(F1,[])
def bE(P:XI)(H:List (Nat×Xv)):Nat->XF->Option (XF×List (Xv×Xv))
 |0,F=>Xn (F,[])
 |n+1,F=>(lV P F).bind λF1=>(bE P H n (hint H F F1).1).map λx=>(x.1,(hint H F F1).2++x.2)
theorem kL(P:XI)(f:XM):seen P f #[]=#[]:=by rw[seen_def];simp
theorem AG{o:Yf}(C:F.mode=.run)(B:F.kind≠.early)(H:∃ops i rest k,F.todo=.inRegion ops (i::rest)::k/\ops[i]?=Xn o/\Region.wanted o (XH ops F.tmps)=Xs)(h:AJ P F o=Xn F'):XD P main (G F cs) w=.go (G F' cs) w #[]:=by obtain⟨ops,i,rest,k,z,A,t⟩:=H;obtain⟨fn,tmps,todo,defers,mode,kind,q⟩:=F;subst z C;(have m:=by simpa using B);(have D:∀c,o.op≠.defer c:=λc e=>by unfold AJ at h;rw[e]at h;cases h);(have y:∀n,dZ P (XC (XF.eval {fn:=fn,tmps:=tmps,todo:=.inRegion ops (i::rest)::k,defers:=defers,mode:=.run,kind:=kind,roundOf:=q}) o)=Xn n->(∃v,n=.value v/\F'=XF.finish {fn:=fn,tmps:=tmps,todo:=.inRegion ops (i::rest)::k,defers:=defers,mode:=.run,kind:=kind,roundOf:=q} v)\/(n=.skip/\F'=XF.finish {fn:=fn,tmps:=tmps,todo:=.inRegion ops (i::rest)::k,defers:=defers,mode:=.run,kind:=kind,roundOf:=q} XJ):=by intro n E;unfold AJ at h;split at h;{cases h};rw[E]at h;cases n<;>simp at h<;>simp[h]);cases u:dZ P (XC (XF.eval {fn:=fn,tmps:=tmps,todo:=.inRegion ops (i::rest)::k,defers:=defers,mode:=.run,kind:=kind,roundOf:=q}) o)with|none=>unfold AJ at h;split at h;{cases h};rw[u]at h;cases h|some n=>obtain⟨p,r⟩:=ib u w;(have x:XD P main (G {fn:=fn,tmps:=tmps,todo:=.inRegion ops (i::rest)::k,defers:=defers,mode:=.run,kind:=kind,roundOf:=q} cs) w=XD.apply P Xs {fn:=fn,tmps:=tmps,todo:=.inRegion ops (i::rest)::k,defers:=defers,mode:=.run,kind:=kind,roundOf:=q} cs Xw (XC (XF.eval {fn:=fn,tmps:=tmps,todo:=.inRegion ops (i::rest)::k,defers:=defers,mode:=.run,kind:=kind,roundOf:=q}) o) w:=by cases q with|none=>simp only[G,XD,XD.exec,XD.oper,XF.oper?,A,t,U5,Vu,if_true]|some l=>simp only[G,XD,XD.exec,XD.oper,XF.oper?,A,t,U5,Vu,if_true];split;{rename_i e;exact absurd e (D _)};rfl);rw[x];rcases y n u with⟨v,rfl,rfl⟩|⟨rfl,rfl⟩;{simp[XD.apply,p,r,m,GStep.after,kL,G]};simp[XD.apply,p,r,m,GStep.after,kL,G]
theorem iJ(m:F.mode=.run)(a:F.kind≠.early)(h:lV P F=Xn F'):(∀main cs w,XD P main (G F cs) w=.go (G F' cs) w #[])/\F'.mode=.run/\F'.kind≠.early:=by obtain⟨t,q,r,f,p,n,v⟩:=F;subst m;unfold lV at h;simp only at h;split at h;(all_goals first|(cases h;exact⟨λmain cs w=>by simp[G,XD,XD.exec],rfl,a⟩)|skip);{split at h;{rename_i b s;cases h;exact⟨λmain cs w=>by simp[G,XD,XD.exec,s],rfl,a⟩};cases h};{rename_i id k;cases j:exitTo id k with|none=>rw[j]at h;cases h|some u=>rw[j]at h;cases h;exact⟨λmain cs w=>by simp[G,XD,XD.exec,j],rfl,a⟩};{rename_i d i e k;split at h;{rename_i g;cases l:d[i]? with|none=>rw[l]at h;cases h|some o=>rw[l]at h g;simp only[VX]at h;refine⟨λmain cs w=>AG rfl a ⟨d,i,e,k,rfl,l,by simpa using g⟩ h,?_⟩;unfold AJ at h;split at h;{cases h};split at h<;>cases h<;>exact⟨rfl,a⟩};rename_i g;cases h;refine⟨λmain cs w=>?_,rfl,a⟩;simp only[G,XD,XD.exec,g,Vk,if_false]};cases h
theorem H0{rest:List Nat}{d:Tmp}(e:F.todo=.inRegion ops (i::rest)::k)(l:(ops[i]?).bind (·.dst)=Xn d)(h:lV P F=Xn F1):∃v,F1={F with tmps:=F.tmps.setIfInBounds d v,todo:=.inRegion ops rest::k}:=by(have c:∀v,F.finish v={F with tmps:=F.tmps.setIfInBounds d v,todo:=.inRegion ops rest::k}:=λv=>by obtain⟨m,tmps,todo,b,j,g,n⟩:=F;subst e;simp[XF.finish,l]);unfold lV at h;rw[e]at h;simp only at h;split at h;{cases f:ops[i]? with|none=>rw[f]at h;cases h|some o=>rw[f]at h;simp only[VX]at h;unfold AJ at h;split at h;{cases h};split at h<;>cases h;{exact⟨_,c _⟩};exact⟨_,c _⟩};cases h;exact⟨_,c _⟩
theorem xh(h:lV P F=Xn F1)(a:∀p∈(hint H F F1).2,p.1=p.2):(hint H F F1).1=F1:=by unfold hint at a⊢;split;{rename_i e i j k g;rw[g]at a;simp only at a;cases f:(e[i]?).bind (·.dst)with|none=>rfl|some d=>rw[f]at a;simp only at a⊢;cases l:H.lookup d with|none=>rfl|some v=>rw[l]at a;simp only[U0,forall_eq]at a⊢;obtain⟨u,rfl⟩:=H0 g f h;rcases Vo d F.tmps.size with c|b;{(have:(F.tmps.setIfInBounds d u).getD d XJ=u:=by simp[c]);rw[this]at a;rw[a]};simp[Array.setIfInBounds,Nat.not_lt.2 b]};rfl
theorem rJ(j:∀a b c,R a b->R b c->R a c)(i:∀w,D w w #[]):∀(n:Nat){F F':XF}{obs:List (Xv×Xv)}{w:Xz},bE P H n F=Xn (F',obs)->(∀p∈obs,p.1=p.2)->F.mode=.run->F.kind≠.early->Goes P main R D Stop m (G F' cs) w->Goes P main R D Stop (m+n) (G F cs) w|0,F,F',obs,w,h,_,_,_,g=>by cases h;exact g|n+1,F,F',obs,w,h,k,t,s,g=>by simp only[bE]at h;cases d:lV P F with|none=>rw[d]at h;cases h|some l=>rw[d]at h;simp only[VX]at h;cases f:bE P H n (hint H F l).1 with|none=>rw[f]at h;cases h|some x=>rw[f]at h;simp only[U5,U3,U2]at h;obtain⟨rfl,rfl⟩:=h;rw[xh d λp d=>k p (UW.2 (.inl d))]at f;obtain⟨o,q,r⟩:=iJ t s d;have:=rJ j i n (F':=x.1) (obs:=x.2) f (λp d=>k p (UW.2 (.inr d))) q r g;refine .inr ⟨rfl,λv u=>?_⟩;rw[o];exact⟨i v,this.rely j u⟩
theorem nY(f:∀F b,(∀w,XD P main (G F cs) w=.go (G b cs) w #[])->J (G b cs)->J (G F cs)):∀(n:Nat){F F':XF}{obs:List (Xv×Xv)},bE P H n F=Xn (F',obs)->(∀p∈obs,p.1=p.2)->F.mode=.run->F.kind≠.early->J (G F' cs)->J (G F cs)|0,F,F',obs,h,_,_,_,e=>by cases h;exact e|n+1,F,F',obs,h,g,m,l,e=>by simp only[bE]at h;cases a:lV P F with|none=>rw[a]at h;cases h|some b=>rw[a]at h;simp only[VX]at h;cases d:bE P H n (hint H F b).1 with|none=>rw[d]at h;cases h|some x=>rw[d]at h;simp only[U5,U3,U2]at h;obtain⟨rfl,rfl⟩:=h;rw[xh a λp a=>g p (UW.2 (.inl a))]at d;obtain⟨i,j,k⟩:=iJ m l a;exact f F b (λw=>i main cs w) (nY f n (F':=x.1) (obs:=x.2) d (λp a=>g p (UW.2 (.inr a))) j k e)
def tm(N:Nat)(L:List (Nat×Xv))(t:Array Xv):Array Xv:=((List.range N).map λi=>match L.lookup i with|some v=>v|none=>t.getD i XJ).toArray
structure Sl(N:Nat)(L:List (Nat×Xv))(t:Array Xv):Prop where
 size:t.size=N
 at_:∀p∈L,t.getD p.1 XJ=p.2
theorem jH(h:L.lookup i=Xn v):(i,v)∈L:=by induction L with|nil=>cases h|cons p l c=>simp only[List.lookup]at h;split at h;{rename_i e;cases h;(have:=by simpa using e);subst this;exact UP ..};exact UZ _ (c h)
theorem Sl.tm(h:Sl N L t):t=tm N L t:=by apply WH;intro i;(have e:(Pw.tm N L t)[i]?=((List.range N).map λi=>match L.lookup i with|some v=>v|none=>t.getD i XJ)[i]?:=by unfold Pw.tm;simp);rw[e,UY];rcases Vo i N with a|a;{rw[VN a];(have b:i<t.size:=by rw[h.size];exact a);simp only[U5,UT b,U3];cases d:L.lookup i with|none=>simp[UT b]|some v=>have:=h.at_ _ (jH d);simp only[UQ,UT b]at this;exact this};rw[List.getElem?_eq_none (by simpa using a),WE (by rw[h.size];exact a)];rfl
theorem Sl.all(h:(t.size,L.map λp=>t.getD p.1 XJ)=(N,L.map (·.2)):=by kernel_rfl):Sl N L t:=by obtain⟨a,b⟩:=Vh h;refine⟨a,λp d=>?_⟩;obtain⟨i,c⟩:=Va.1 d;have:=congrArg (·[i]?) b;simpa[UY,c]using this
theorem Sl.SJ(h:t.size=N):Sl N [] t:=⟨h,λp a=>by cases a⟩
theorem Sl.cons{N:Nat}{L:List (Nat×Xv)}{t:Array Xv}{i:Nat}{v:Xv}(h:t.getD i XJ=v)(b:Sl N L t):Sl N ((i,v)::L) t:=⟨b.size,λp a=>by rcases UO.1 a with rfl|a;{exact h};exact b.at_ p a⟩
section
abbrev fr(f:XM)(t:Array Xv)(k:List X6):XF:={fn:=f,tmps:=t,todo:=k,defers:=[],mode:=.run,kind:=.normal,roundOf:=Xw}
def sub:List Nat->Yg->Yg
 |[],c=>c
 |i::p,c=>match c,i with
   |.seq a _,0=>sub p a
   |.seq _ b,_=>sub p b
   |.cond _ a _,0=>sub p a
   |.cond _ _ b,_=>sub p b
   |.block _ a,_=>sub p a
   |.loop a,_=>sub p a
   |.scope a,_=>sub p a
   |.rangeFunc _ _ a _,0=>sub p a
   |.rangeFunc _ _ _ b,_=>sub p b
   |c,_=>c
def aQ:Yg->Array Yf
 |.region _ ops _=>ops
 |_=>#[]
def opn(ops:Array Yf)(i:Nat):Yf:=(ops[i]?).getD default
def T6:Nat->Nat->List Nat->List Nat
 |0,_,a=>a
 |f+1,n,a=>match Nat.ble n 1 with|true=>a|false=>T6 f (n/2) (n%2::a)
def dg(n:Nat):List Nat:=T6 60 n []
abbrev sb(c:Yg)(n:Nat):Yg:=sub (dg n) c
def tT:List Nat->Yg->List X6->List X6
 |[],_,k=>k
 |i::p,c,k=>match c,i with
   |.seq a b,0=>tT p a (.code b::k)
   |.seq _ b,_=>tT p b k
   |.cond _ a _,0=>tT p a k
   |.cond _ _ b,_=>tT p b k
   |.block id a,_=>tT p a (.inBlock id::k)
   |.loop a,_=>tT p a (.inLoop a::k)
   |.scope a,_=>tT p a (.inScope a::k)
   |_,_=>k
abbrev rA(c:Yg)(n:Nat)(l:List Nat):List X6:=.inRegion (aQ (sb c n)) l::tT (dg n) c []
abbrev cA(c:Yg)(n:Nat):List X6:=.code (sb c n)::tT (dg n) c []
abbrev xA(x:Yg)(c:Yg)(n:Nat):List X6:=.code x::tT (dg n) c []
abbrev dA(c:Yg)(n:Nat)(r:Nat):List X6:=.code (.region r (aQ (sb c n)) Xs)::tT (dg n) c []
theorem Sl.get(h:Sl N L t)(a:L.lookup i=Xn v):t.getD i XJ=v:=h.at_ _ (jH a)
theorem Sl.gN(h:Sl N L t)(i:Nat)(hl:L.lookup i=Xn v):t.getD i XJ=v:=h.get hl
theorem Sl.put(h:Sl N L t)(c:d<N)(e:∀p∈L',p=(d,v)\/(p∈L/\p.1≠d)):Sl N L' (t.setIfInBounds d v):=by refine⟨by simp[h.size],λp f=>?_⟩;rcases e p f with rfl|⟨a,b⟩;{simp[UQ,h.size,c]};rw[<-h.at_ p a];simp only[UQ];rw[U6 (Ne.symm b)]
theorem Sl.sub(h:Sl N L t)(b:∀p∈L',p∈L):Sl N L' t:=⟨h.size,λp a=>h.at_ p (b p a)⟩
theorem aU{o:Yf}(h:Sl N L t)(b:Region.wanted o (XH ops (tm N L t))=Xs):Region.wanted o (XH ops t)=Xs:=by rw[h.tm];exact b
theorem Sl.pt(h:Sl N L t)(b:d<N:=by decide)(c:L.all (λp=>!(p.1==d))=Xs:=by rfl):Sl N ((d,v)::L) (t.setIfInBounds d v):=h.put b λp a=>by rcases UO.1 a with rfl|a;{exact .inl rfl};exact .inr ⟨a,by simpa using Vj.1 c p a⟩
theorem sF:∀p∈([]:List (Xv×Xv)),p.1=p.2:=λp a=>by cases a
theorem Lo{a b:Xv}{l:List (Xv×Xv)}(h:a=b)(d:∀p∈l,p.1=p.2):∀p∈(a,b)::l,p.1=p.2:=λp c=>by rcases UO.1 c with rfl|c;{exact h};exact d p c
theorem int_eq{k:XE}{x y:Int}(h:x=y):Xv.int k x=Xv.int k y:=by rw[h]
structure Ob where
 c:Xv
 b:Xv
 h:c=b
def oi(k:XE)(c b:Int)(h:c=b):Ob:=⟨.int k c,.int k b,int_eq h⟩
def o2(c b:Int)(h:c=b):Ob:=oi .u32 c b h
def o3(c b:Int)(h:c=b):Ob:=oi .i32 c b h
def o6(c b:Int)(h:c=b):Ob:=oi .i64 c b h
def o8(c b:Int)(h:c=b):Ob:=oi .u64 c b h
def ob(c b:Bool)(h:c=b):Ob:=⟨.bool c,.bool b,congrArg Xv.bool h⟩
def oh(O:List (Nat×Ob)):List (Nat×Xv):=O.map λp=>(p.1,p.2.b)
def oo(O:List (Nat×Ob)):List (Xv×Xv):=O.map λp=>(p.2.c,p.2.b)
theorem tN(O:List (Nat×Ob)):∀p∈oo O,p.1=p.2:=λp a=>by obtain⟨q,_,rfl⟩:=UR.1 a;exact q.2.h
def iV(P:XI)(H:List (Nat×Xv))(n:Nat)(F:XF):Array Xv:=match bE P H n F with|some x=>x.1.tmps|none=>#[]
section
variable{k':List X6}{n:Nat}{obs:List (Xv×Xv)}
theorem F9(l:∀a b c,R a b->R b c->R a c)(i:∀w,D w w #[])(n:Nat)(o:Sl N L t)(g:bE P H n (fr f (tm N L t) k)=Xn (fr f (iV P H n (fr f (tm N L t) k)) k',obs))(q:∀p∈obs,p.1=p.2)(h:Sl N L' (iV P H n (fr f (tm N L t) k)))(j:∀d,Sl N L' d->Goes P main R D Stop m (G (fr f d k') cs) w):Goes P main R D Stop (m+n) (G (fr f t k) cs) w:=by(have e:fr f t k=fr f (tm N L t) k:=by rw[<-o.tm]);rw[e];exact rJ l i n g q rfl Θ (j _ h)
theorem KQ(h:∀F a,(∀w,XD P main (G F cs) w=.go (G a cs) w #[])->J (G a cs)->J (G F cs))(n:Nat)(i:Sl N L t)(c:bE P H n (fr f (tm N L t) k)=Xn (fr f (iV P H n (fr f (tm N L t) k)) k',obs))(j:∀p∈obs,p.1=p.2)(d:Sl N L' (iV P H n (fr f (tm N L t) k)))(g:∀b,Sl N L' b->J (G (fr f b k') cs)):J (G (fr f t k) cs):=by(have e:fr f t k=fr f (tm N L t) k:=by rw[<-i.tm]);rw[e];exact nY (main:=main) h n c j rfl Θ (g _ d)
end
end
def xq:Xv->Bool
 |.agg _|.tuple _=>Xj
 |_=>Xs
def Sy{α:Type}(b:Nat)(r:Option (α×X3×List Nat)):Option (α×X3×List Nat):=r.map λr=>(r.1,r.2.1,b::r.2.2)
def jT(P:XI)(rd:Bool){α:Type}:XT α->X3->Option (α×X3×List Nat)
 |.pure a,o=>Xn (a,o,[])
 |.program k,o=>jT P rd (k P) o
 |.load .plain ⟨b,i,Xw⟩ k,.cells c e fr=>(c[i]?).bind λv=>Sy b (jT P rd (k v) (.cells c e fr))
 |.store .plain ⟨b,i,Xw⟩ v k,.cells c e (0,0)=>match !rd&&xq v&&decide (i<c.size)with
   |true=>Sy b (jT P rd k (.cells (c.setIfInBounds i v) e))
   |false=>Xw
 |.getObj r k,.map es n=>Sy r (jT P rd (k (.map es n)) (.map es n))
 |.setObj r (.map es' n') k,.map _ _=>match rd with
   |false=>Sy r (jT P rd k (.map es' n'))
   |true=>Xw
 |_,_=>Xw
def Hi(P:XI){α:Type}:XT α->Option (X3×(Nat->XT α))
 |.program k=>Hi P (k P)
 |.new o k=>Xn (o,k)
 |_=>Xw
def iD(w:Xz)(b:Nat)(o:X3):Xz:={w with heap:=w.heap.setIfInBounds b o}
theorem pj{o':X3}(h:w.heap[b]?=Xn o):(iD w b o').heap[b]?=Xn o':=by obtain⟨a,_⟩:=UJ.1 h;simp[iD,a]
theorem pP{c:Nat}(h:c≠b):(iD w b o).heap[c]?=w.heap[c]?:=by simp[iD,U6 (Ne.symm h)]
theorem vO(w:Xz)(b:Nat)(o o':X3):iD (iD w b o) b o'=iD w b o':=by simp[iD]
theorem nG(h:w.heap[b]?=Xn o):iD w b o=w:=by obtain⟨c,a⟩:=UJ.1 h;(have:w.heap.setIfInBounds b o=w.heap:=Array.ext (by simp) λk d _=>by rw[XQ];split;{rename_i e;subst e;exact a.symm};rfl);unfold iD;rw[this]
theorem xW{c:Array Xv}{e:XG}(h:w.heap[b]?=Xn (.cells c e)):w.setCell ⟨b,i,Xw⟩ v=iD w b (.cells (c.setIfInBounds i v) e):=by obtain⟨f,d⟩:=UJ.1 h;(have:w.heap.modify b (λ|.cells c a frozen=>.cells (c.setIfInBounds i v) a frozen|o=>o)=w.heap.setIfInBounds b (.cells (c.setIfInBounds i v) e):=by apply Array.ext (by simp);intro k g _;rw[Array.getElem_modify,XQ];split;{rename_i e;subst e;rw[d]};rfl);unfold Xz.setCell iD;rw[<-this];rfl
def xg(b:Nat)(e:X9):Prop:=(match e.loc with|.cell a=>a.block=b|.obj j=>j=b|_=>False)/\e.sync=Xj
theorem LO{f:Array X9->Array X9}{e:X9}(i:xg b e)(h:∀es,∃a,f es=es++a/\∀x∈a,xg b x)(es:Array X9):∃a,f (es.push e)=es++a/\∀x∈a,xg b x:=by obtain⟨a,d,g⟩:=h (es.push e);refine⟨#[e]++a,by simp[d],λx c=>?_⟩;rcases Vp.1 c with c|c;{(obtain rfl:=by simpa using c);exact i};exact g x c
theorem kT{r:Option (α×X3×List Nat)}{a:α}{q:List Nat}(h:Sy b r=Xn (a,o,q)):∃c,r=Xn (a,o,c)/\q=b::c:=by obtain⟨⟨f,g,c⟩,d,e⟩:=UN.1 h;cases e;exact⟨c,d,rfl⟩
theorem rT{x:XT α}:∀{o o':X3}{q:List Nat}{a:α}{w:Xz},jT P rd x o=Xn (a,o',q)->(∀r∈q,r=b)->w.heap[b]?=Xn o->x.run P w=.ok a (iD w b o')/\∀es,∃u,x.events P w es=es++u/\∀e∈u,xg b e:=by induction x with|pure a=>intro o o' q a w h g d;cases h;exact⟨by rw[nG d];rfl,λes=>⟨#[],by simp,by simp⟩⟩|program k n=>exactλh g d=>n P h g d|load m A k n=>intro o o' q a w h g d;obtain⟨j,i,C⟩:=A;cases m<;>cases C<;>cases o<;>simp only[jT,reduceCtorEq]at h;obtain⟨v,z,h⟩:=Vb.1 h;obtain⟨B,s,rfl⟩:=kT h;obtain rfl:j=b:=g _ (UP ..);obtain⟨l,p⟩:=n v s (λr t=>g r (UZ _ t)) d;(have y:w.cell? ⟨j,i,Xw⟩=Xn v:=by simp[Xz.cell?,d,z]);refine⟨by simpa[XT.run,y]using l,λes=>?_⟩;rw[show(XT.load Mode.plain ⟨j,i,Xw⟩ k).events P w es=(k v).events P w (es.push ⟨.cell ⟨j,i,Xw⟩,Xj,Xj⟩)by simp[XT.events,XT.runT,y,-XT.runT_eq];rfl];exact LO (f:=(k v).events P w) ⟨rfl,rfl⟩ p es|store m A v k n=>intro o o' q a w h g d;obtain⟨j,i,C⟩:=A;(cases m<;>cases C<;>cases o<;>try(exfalso;revert h;simp[jT];done));rename_i c e fr;obtain⟨F,H⟩:=fr;(cases F<;>cases H<;>try(exfalso;revert h;simp[jT];done));simp only[jT]at h;split at h;{rename_i D;rw[UK,UK,decide_eq_true_eq]at D;obtain⟨⟨_,z⟩,I⟩:=D;obtain⟨B,s,rfl⟩:=kT h;obtain rfl:j=b:=g _ (UP ..);obtain⟨l,p⟩:=n s (λr t=>g r (UZ _ t)) (pj d);rw[vO,<-xW d]at l;rw[<-xW d]at p;(have y:w.cell? ⟨j,i,Xw⟩=Xn c[i]:=by simp[Xz.cell?,d,I]);(have E:w.frozen? ⟨j,i,Xw⟩=Xj:=by simp[Xz.frozen?,d]);refine⟨by cases v<;>simp[xq]at z<;>simpa[XT.run,y,E]using l,λes=>?_⟩;rw[show(XT.store Mode.plain ⟨j,i,Xw⟩ v k).events P w es=k.events P (w.setCell ⟨j,i,Xw⟩ v) (es.push ⟨.cell ⟨j,i,Xw⟩,Xs,Xj⟩)by cases v<;>simp[xq]at z<;>(simp[XT.events,XT.runT,y,E,-XT.runT_eq];rfl)];exact LO (f:=k.events P _) ⟨rfl,rfl⟩ p es};cases h|getObj r k n=>intro o o' q a w h g d;cases o<;>simp only[jT,reduceCtorEq]at h;obtain⟨B,s,rfl⟩:=kT h;obtain rfl:r=b:=g _ (UP ..);obtain⟨l,p⟩:=n _ s (λr t=>g r (UZ _ t)) d;refine⟨by simpa[XT.run,d]using l,λes=>?_⟩;rw[show(XT.getObj r k).events P w es=(k _).events P w (es.push ⟨.obj r,Xj,Xj⟩)by simp[XT.events,XT.runT,d,X3.isChan,-XT.runT_eq];rfl];exact LO (f:=(k _).events P w) ⟨rfl,rfl⟩ p es|setObj r ob k n=>intro o o' q a w h g d;cases rd<;>cases o<;>cases ob<;>simp only[jT,reduceCtorEq]at h;obtain⟨B,s,rfl⟩:=kT h;obtain rfl:r=b:=g _ (UP ..);obtain⟨l,p⟩:=n s (λr t=>g r (UZ _ t)) (pj d);rw[vO]at l;refine⟨by simp only[XT.run,d];exact l,λes=>?_⟩;rw[show(XT.setObj r _ k).events P w es=k.events P (iD w r _) (es.push ⟨.obj r,Xs,Xj⟩)by simp[XT.events,XT.runT,d,X3.isChan,-XT.runT_eq];rfl];exact LO (f:=k.events P _) ⟨rfl,rfl⟩ p es|_=>intro o o' q a w h;simp[jT]at h
theorem Lr{x:XT α}:∀{o o':X3}{q:List Nat}{a:α},jT P Xs x o=Xn (a,o',q)->o'=o:=by induction x with|pure a=>intro o o' q a h;cases h;rfl|program k b=>exactλh=>b P h|load m d k b=>intro o o' q a h;obtain⟨j,i,g⟩:=d;cases m<;>cases g<;>cases o<;>simp only[jT,reduceCtorEq]at h;obtain⟨v,s,h⟩:=Vb.1 h;obtain⟨p,f,rfl⟩:=kT h;exact b v f|getObj r k b=>intro o o' q a h;cases o<;>simp only[jT,reduceCtorEq]at h;obtain⟨p,f,rfl⟩:=kT h;exact b _ f|store m d v k b=>intro o o' q a h;obtain⟨j,i,g⟩:=d;(cases m<;>cases g<;>cases o<;>try(exfalso;revert h;simp[jT];done));rename_i c e fr;obtain⟨l,n⟩:=fr;cases l<;>cases n<;>exfalso<;>revert h<;>simp[jT]|setObj r ob k b=>intro o o' q a h;cases o<;>cases ob<;>simp[jT]at h|_=>intro o o' q a h;simp[jT]at h
theorem Kv{x:XT α}{k:Nat->XT α}{a:α}(h:Hi P x=Xn (o,k))(d:dZ P (k w.heap.size)=Xn a):x.run P w=.ok a (w.alloc o)/\x.events P w #[]=#[]:=by induction x with|program f e=>exact e P h|new g f=>cases h;obtain⟨b,c⟩:=ib d (w.alloc o);exact⟨b,c⟩|_=>simp[Hi]at h
def SZ:Op->Bool
 |.defer _=>Xs
 |_=>Xj
def yl(F:XF):Option Yf:=match F.todo with
 |.inRegion ops (i::_)::_=>match((ops[i]?).map (Region.wanted · (XH ops F.tmps))).getD Xj with
   |true=>match ops[i]? with
     |some o=>match SZ o.op with|true=>Xw|false=>Xn o
     |none=>Xw
   |false=>Xw
 |_=>Xw
def valOf:Next->Option Xv
 |.value v=>Xn v
 |.skip=>Xn XJ
 |_=>Xw
def SV(P:XI)(rd:Bool)(k:Nat)(F:XF)(H:List (Nat×X3)):Option (XF×List (Nat×X3)×List (Nat×Nat)):=
 match yl F,H[k]? with
 |some o,Xn (b,ob)=>match jT P rd (XC F.eval o) ob with
   |some (n,ob',q)=>(valOf n).map λv=>(F.finish v,H.set k (b,ob'),q.map λr=>(r,b))
   |none=>Xw
 |_,_=>Xw
def PM(P:XI)(c:Nat)(F:XF):Option (XF×X3):=
 match yl F with
 |some o=>match Hi P (XC F.eval o)with
   |some (ob,k)=>((dZ P (k c)).bind valOf).map λv=>(F.finish v,ob)
   |none=>Xw
 |none=>Xw
abbrev MR:=XF×List (Nat×X3)×List (Nat×Nat)×List (Xv×Xv)
def iI(P:XI)(rd:Bool)(O:List (Nat×Xv)):Nat->List Nat->List Nat->XF->List (Nat×X3)->Option MR
 |0,_,_,F,H=>Xn (F,H,[],[])
 |n+1,hs,bs,F,H=>match lV P F with
   |some F1=>(iI P rd O n hs bs (hint O F F1).1 H).map λr=>(r.1,r.2.1,r.2.2.1,(hint O F F1).2++r.2.2.2)
   |none=>match hs with
     |[]=>Xn (F,H,[],[])
     |0::hs=>match bs with
       |[]=>Xw
       |c::bs=>match PM P c F with
         |some (F1,ob)=>iI P rd O n hs bs F1 ((c,ob)::H)
         |none=>Xw
     |(k+1)::hs=>match SV P rd k F H with
       |some (F1,H1,q)=>(iI P rd O n hs bs F1 H1).map λs=>(s.1,s.2.1,q++s.2.2.1,s.2.2.2)
       |none=>Xw
theorem rI{o:Yf}(h:yl F=Xn o):∃ops i rest k,F.todo=.inRegion ops (i::rest)::k/\ops[i]?=Xn o/\Region.wanted o (XH ops F.tmps)=Xs/\∀c,o.op≠.defer c:=by unfold yl at h;split at h;{rename_i ops i rest k f;split at h;{rename_i g;split at h;{rename_i j d;split at h;{cases h};rename_i b;cases h;refine⟨ops,i,rest,k,f,d,by simpa[d]using g,λc e=>?_⟩;rw[e]at b;cases b};cases h};cases h};cases h
theorem Ch{o:Yf}{w':Xz}{n:Next}(y:F.mode=.run)(r:F.kind≠.early)(h:yl F=Xn o)(A:(XC F.eval o).run P w=.ok n w')(z:valOf n=Xn v):XD P main (G F cs) w=.go (G (F.finish v) cs) w' (seen P F.fn ((XC F.eval o).events P w #[]))/\(F.finish v).mode=.run/\(F.finish v).kind≠.early:=by obtain⟨p,i,g,k,u,x,q,C⟩:=rI h;obtain⟨fn,tmps,todo,defers,mode,kind,t⟩:=F;subst u y;(have m:=by simpa using r);refine⟨?_,rfl,r⟩;generalize D:XF.eval _=B at A⊢;(have s:XD P main (G {fn:=fn,tmps:=tmps,todo:=.inRegion p (i::g)::k,defers:=defers,mode:=.run,kind:=kind,roundOf:=t} cs) w=XD.apply P Xs {fn:=fn,tmps:=tmps,todo:=.inRegion p (i::g)::k,defers:=defers,mode:=.run,kind:=kind,roundOf:=t} cs Xw (XC B o) w:=by rw[<-D];cases t with|none=>simp only[G,XD,XD.exec,XD.oper,XF.oper?,x,q,U5,Vu,if_true]|some l=>simp only[G,XD,XD.exec,XD.oper,XF.oper?,x,q,U5,Vu,if_true];split;{rename_i e;exact absurd e (C _)};rfl);rw[s];cases n<;>simp[valOf]at z<;>subst z<;>simp[XD.apply,A,m,GStep.after,G]
theorem LW{es:Array X9}(h:∀e∈es,xg b e):∀e∈seen P f es,xg b e:=λe a=>by rw[seen_def]at a;rcases seen_fold_sub _ _ _ _ e a with x|x;{simp at x};exact h e (by simpa using x)
theorem Nk{k:Nat}{H H1:List (Nat×X3)}{q:List (Nat×Nat)}(x:F.mode=.run)(u:F.kind≠.early)(h:SV P rd k F H=Xn (F1,H1,q))(z:∀p∈q,p.1=p.2):∃b o o',H[k]?=Xn (b,o)/\H1=H.set k (b,o')/\(rd=Xs->o'=o)/\(∀main cs w,w.heap[b]?=Xn o->∃es,XD P main (G F cs) w=.go (G F1 cs) (iD w b o') es/\∀e∈es,xg b e)/\F1.mode=.run/\F1.kind≠.early:=by unfold SV at h;split at h;{rename_i C b ob y hH;split at h;{rename_i n d D g;obtain⟨v,B,e⟩:=UN.1 h;cases e;have a:=λr A=>z (r,b) (UR.2 ⟨r,A,rfl⟩);have c:∀main cs w,w.heap[b]?=Xn ob->XD P main (G F cs) w=.go (G (F.finish v) cs) (iD w b d) (seen P F.fn ((XC F.eval C).events P w #[]))/\(F.finish v).mode=.run/\(F.finish v).kind≠.early:=λmain cs w f=>Ch x u y (rT g a f).1 B;refine⟨b,ob,d,hH,rfl,λe=>by subst e;exact Lr g,λmain cs w f=>⟨_,(c main cs w f).1,LW λe i=>?_⟩,(c Xs [] {(default:Xz)with heap:=(Array.replicate (b+1) ob)} (by simp)).2⟩;obtain⟨l,m,s⟩:=(rT g a f).2 #[];rw[m]at i;exact s e (by simpa using i)};cases h};cases h
theorem FU(s:F.mode=.run)(q:F.kind≠.early)(h:∀c,∃r,PM P c F=Xn r):∃o,∃e:Nat->XF,(∀c,PM P c F=Xn (e c,o))/\(∀main cs w,XD P main (G F cs) w=.go (G (e w.heap.size) cs) (w.alloc o) #[])/\∀c,(e c).mode=.run/\(e c).kind≠.early:=by unfold PM at h⊢;cases g:yl F with|none=>obtain⟨r,b⟩:=h 0;rw[g]at b;cases b|some D=>simp only[g]at h⊢;cases l:Hi P (XC F.eval D)with|none=>obtain⟨r,b⟩:=h 0;rw[l]at b;cases b|some x=>obtain⟨ob,p⟩:=x;simp only[l]at h⊢;(have j:∀c,∃n v,dZ P (p c)=Xn n/\valOf n=Xn v:=λc=>by obtain⟨r,b⟩:=h c;obtain⟨v,j,_⟩:=UN.1 b;obtain⟨n,a,d⟩:=Vb.1 j;exact⟨n,v,a,d⟩);(have m:∀main cs(w:Xz),XD P main (G F cs) w=.go (G (F.finish (((dZ P (p w.heap.size)).bind valOf).getD XJ)) cs) (w.alloc ob) #[]:=λmain cs w=>by obtain⟨n,v,a,d⟩:=j w.heap.size;obtain⟨B,C⟩:=Kv l a;rw[(Ch s q g B d).1,C,kL,a];simp[d]);refine⟨ob,λc=>F.finish (((dZ P (p c)).bind valOf).getD XJ),λc=>?_,m,λc=>?_⟩;{obtain⟨n,v,a,d⟩:=j c;simp[a,d]};obtain⟨E,i,y,k,a,_⟩:=rI g;obtain⟨H,z,A,f,u,t,I⟩:=F;subst a;exact⟨s,q⟩
structure Carry(P:XI)(rd:Bool)(main:Bool)(cs:List XF)(J:(Nat->Prop)->XB->Xz->Prop)(Kn:(Nat->Prop)->Xz->List (Nat×X3)->Prop)(al:Prop):Prop where
 ctl:∀own v F F1,(∀w,XD P main (G F cs) w=.go (G F1 cs) w #[])->J own (G F1 cs) v->J own (G F cs) v
 mem:∀own v H k b o o' F F1,Kn own v H->H[k]?=Xn (b,o)->(rd=Xs->o'=o)->(∀w:Xz,w.heap[b]?=Xn o->∃es,XD P main (G F cs) w=.go (G F1 cs) (iD w b o') es/\∀e∈es,xg b e)->(∀v',Kn own v' (H.set k (b,o'))->J own (G F1 cs) v')->J own (G F cs) v
 new:al->∀own v H o F(F1:Nat->XF),Kn own v H->(∀w:Xz,XD P main (G F cs) w=.go (G (F1 w.heap.size) cs) (w.alloc o) #[])->(∀own' c v',Kn own' v' ((c,o)::H)->J own' (G (F1 c) cs) v')->J own (G F cs) v
theorem Carry.run{P:XI}{J:(Nat->Prop)->XB->Xz->Prop}{Kn:(Nat->Prop)->Xz->List (Nat×X3)->Prop}{al:Prop}(C:Carry P rd main cs J Kn al)(O:List (Nat×Xv)):∀(n:Nat)(g:List Nat)(k:Nat)(_:k≠0->al)(own:Nat->Prop)(v:Xz)(F:XF)(H:List (Nat×X3)),F.mode=.run->F.kind≠.early->Kn own v H->(∀bs:List Nat,bs.length=k->∃r,iI P rd O n g bs F H=Xn r/\(∀p∈r.2.2.1,p.1=p.2)/\(∀p∈r.2.2.2,p.1=p.2)/\∀d t,Kn d t r.2.1->J d (G r.1 cs) t)->J own (G F cs) v|0,g,k,z,own,v,F,H,K,I,m,E=>by obtain⟨r,h,_,_,y⟩:=E (List.replicate k 0) (by simp);cases h;exact y own v m|n+1,g,k,z,own,v,F,H,K,I,m,E=>by cases a:lV P F with|some f=>obtain⟨h,u,l⟩:=iJ K I a;(have R:(hint O F f).1=f:=by obtain⟨r,e,_,B,_⟩:=E (List.replicate k 0) (by simp);simp only[iI,a]at e;obtain⟨s,_,rfl⟩:=UN.1 e;exact xh a λp a=>B p (UW.2 (.inl a)));refine C.ctl own v F f (λw=>h main cs w) (Carry.run C O n g k z own v f H u l m λbs A=>?_);obtain⟨r,e,D,B,N⟩:=E bs A;simp only[iI,a,R]at e;obtain⟨s,M,rfl⟩:=UN.1 e;exact⟨s,M,D,λp a=>B p (UW.2 (.inr a)),N⟩|none=>cases g with|nil=>obtain⟨r,e,_,_,y⟩:=E (List.replicate k 0) (by simp);simp only[iI,a,U3]at e;subst e;exact y own v m|cons j g=>cases j with|zero=>(cases k with|zero=>obtain⟨r,e,_⟩:=E [] rfl;simp[iI,a]at e|succ k=>(obtain⟨o,f,h,u,l⟩:=FU (P:=P) K I λc=>by obtain⟨r,e,_⟩:=E (c::List.replicate k 0) (by simp);simp only[iI,a]at e;cases S:PM P c F with|none=>rw[S]at e;cases e|some r=>exact⟨r,rfl⟩);refine C.new (z (by simp)) own v H o F f m (λw=>u main cs w) λd c t i=>Carry.run C O n g k (λ_=>z (by simp)) d t (f c) _ (l c).1 (l c).2 i λbs A=>?_;obtain⟨r,e,T⟩:=E (c::bs) (by simp[A]);simp only[iI,a,h c]at e;exact⟨r,e,T⟩)|succ j=>cases L:SV P rd j F H with|none=>obtain⟨r,e,_⟩:=E (List.replicate k 0) (by simp);simp[iI,a,L]at e|some x=>obtain⟨f,W,q⟩:=x;obtain⟨b,o,V,h,rfl,u,l,y,Q⟩:=Nk K I L (by obtain⟨r,e,D,_⟩:=E (List.replicate k 0) (by simp);simp only[iI,a,L]at e;obtain⟨s,_,rfl⟩:=UN.1 e;exactλp a=>D p (UW.2 (.inl a)));refine C.mem own v H j b o V F f m h u (λw U=>l main cs w U) λt i=>Carry.run C O n g k z own t f _ y Q i λbs A=>?_;obtain⟨r,e,D,B,N⟩:=E bs A;simp only[iI,a,L]at e;obtain⟨s,M,rfl⟩:=UN.1 e;exact⟨s,M,λp a=>D p (UW.2 (.inr a)),B,N⟩
end Go.Pw
namespace Go.ab
variable{a a' b':X7}{v w:Xz}{v' x x' y y' z:Xv}{i b k n:Nat}{e:RuntimeError}{o o':X3}{P:XI}{α β γ δ ε ζ:Type}{h:Halt}{t:XG}{op:BinOp}{o1:XS}{lo lo' hi hi' mx':Option Xv}{f:XM}{gl:Nat->Bool}{ev ev':XS->Xv}{ops:Array Yf}{rest:List Nat}{t':Array Xv}
section
abbrev bQ:=Nat->Option Nat
def bQ.le(r r':bQ):Prop:=∀b c,r b=Xn c->r' b=Xn c
theorem bQ.le_refl(r:bQ):r.le r:=λ_ _ h=>h
theorem bQ.le_trans{r r' r'':bQ}(h:r.le r')(a:r'.le r''):r.le r'':=λb c e=>a b c (h b c e)
structure dW where
 fns:XM->Bool
 seen:Nat->Prop
 MK:Nat->Nat
 aL:Nat
 low:Nat->Nat:=λ_=>0
def wv:XG:=1000000007
structure Fits(P:XI)(c:dW):Prop where
 aL:c.aL=P.globals.size
 bad:P.info? wv=Xw
 low:∀g,g<c.aL->c.low g=0
def c7(c:dW)(r:bQ)(a a':X7):Prop:=r a.block=Xn a'.block/\a'.off=a.off/\a'.spot=a.spot/\c.low a.block<=a.off
def E8(c:dW):Fn->Bool
 |.func f=>c.fns f
 |_=>Xj
inductive ai(c:dW)(r:bQ):Xv->Xv->Prop
 |bool(b:Bool):ai c r (.bool b) (.bool b)
 |int(k:XE)(n:Int):ai c r (.int k n) (.int k n)
 |string(s:ByteArray):ai c r (.string s) (.string s)
 |gm:ai c r (.pointer Xw) (.pointer Xw)
 |ptr{a a':X7}:c7 c r a a'->ai c r (.pointer (Xn a)) (.pointer (Xn a'))
 |ig(n m:Nat):ai c r (.slice Xw n m) (.slice Xw n m)
 |slice{a a':X7}(n m:Nat):c7 c r a a'->ai c r (.slice (Xn a) n m) (.slice (Xn a') n m)
 |cO(a a':X7):ai c r (.slice (Xn a) 0 0) (.slice (Xn a') 0 0)
 |kK:ai c r (.map Xw) (.map Xw)
 |map{a a':Nat}:r a=Xn a'->ai c r (.map (Xn a)) (.map (Xn a'))
 |func{fn:Fn}{x x' y y':Array Xv}:E8 c fn=Xs->x.size=x'.size->(∀(i:Nat)(v v':Xv),x[i]?=Xn v->x'[i]?=Xn v'->ai c r v v')->
  y.size=y'.size->(∀(i:Nat)(v v':Xv),y[i]?=Xn v->y'[i]?=Xn v'->ai c r v v')->ai c r (.func fn x y) (.func fn x' y')
 |nilFunc:ai c r .nilFunc .nilFunc
 |nilIface:ai c r .nilIface .nilIface
 |iface(t:XG){v v':Xv}:ai c r v v'->ai c r (.iface t v) (.iface t v')
 |agg{x x':Array Xv}:x.size=x'.size->(∀(i:Nat)(v v':Xv),x[i]?=Xn v->x'[i]?=Xn v'->ai c r v v')->ai c r (.agg x) (.agg x')
 |tuple{x x':Array Xv}:x.size=x'.size->(∀(i:Nat)(v v':Xv),x[i]?=Xn v->x'[i]?=Xn v'->ai c r v v')->ai c r (.tuple x) (.tuple x')
structure ak(c:dW)(r:bQ)(x x':Array Xv):Prop where
 size:x.size=x'.size
 el:∀(i:Nat)(v v':Xv),x[i]?=Xn v->x'[i]?=Xn v'->ai c r v v'
theorem c7.mono{c:dW}{r r':bQ}(h:r.le r')(x:c7 c r a a'):c7 c r' a a':=⟨h _ _ x.1,x.2⟩
theorem ai.mono{c:dW}{r r':bQ}(h:r.le r'){v:Xv}(x:ai c r v v'):ai c r' v v':=by induction x with|bool b=>exact .bool b|int k n=>exact .int k n|string s=>exact .string s|gm=>exact .gm|ptr a=>exact .ptr (a.mono h)|ig n m=>exact .ig n m|slice n m a=>exact .slice n m (a.mono h)|cO a e=>exact .cO a e|kK=>exact .kK|map a=>exact .map (h _ _ a)|func i j _ l _ f g=>exact .func i j f l g|nilFunc=>exact .nilFunc|nilIface=>exact .nilIface|iface t _ d=>exact .iface t d|agg s _ d=>exact .agg s d|tuple s _ d=>exact .tuple s d
theorem ak.mono{c:dW}{r r':bQ}(h:r.le r'){x x':Array Xv}(k:ak c r x x'):ak c r' x x':=⟨k.size,λi v d a b=>(k.el i v d a b).mono h⟩
theorem ai.tA{c:dW}{r:bQ}{x x':Array Xv}(h:ak c r x x'):ai c r (.agg x) (.agg x'):=.agg h.size h.el
theorem ai.kG{c:dW}{r:bQ}{x x':Array Xv}(h:ak c r x x'):ai c r (.tuple x) (.tuple x'):=.tuple h.size h.el
section rows
variable{c:dW}{r:bQ}
theorem ak.get{x x':Array Xv}(h:ak c r x x'){v:Xv}(b:x[i]?=Xn v):∃d,x'[i]?=Xn d/\ai c r v d:=by have e:=(UJ.1 b).1;have a:=h.size▸e;exact⟨x'[i],UT a,h.el i v _ b (UT a)⟩
theorem ak.none{x x':Array Xv}(h:ak c r x x')(a:x[i]?=Option.none):x'[i]?=Option.none:=by rw[Array.getElem?_eq_none_iff]at a⊢;rw[<-h.size];exact a
theorem ak.getD{x x':Array Xv}(h:ak c r x x')(i:Nat){d d':Xv}(b:ai c r d d'):ai c r (x.getD i d) (x'.getD i d'):=by rw[UQ,UQ];cases a:x[i]? with|none=>rw[h.none a];exact b|some v=>obtain⟨f,e,k⟩:=h.get a;simp_all
theorem ak.empty:ak c r #[] #[]:=⟨rfl,λi v a h=>by simp at h⟩
theorem ak.push{x x':Array Xv}(h:ak c r x x'){v:Xv}(k:ai c r v v'):ak c r (x.push v) (x'.push v'):=by refine⟨by simp[h.size],λi u d a b=>?_⟩;rw[Vg]at a b;rw[<-h.size]at b;split at a;{simp_all};rw[if_neg ‹_›]at b;exact h.el i u d a b
theorem ak.append{x x' y y':Array Xv}(h:ak c r x x')(k:ak c r y y'):ak c r (x++y) (x'++y'):=by refine⟨by simp[h.size,k.size],λi u d a b=>?_⟩;rw[Array.getElem?_append]at a b;rw[<-h.size]at b;split at a;{rw[if_pos ‹_›]at b;exact h.el i u d a b};rw[if_neg ‹_›]at b;exact k.el _ u d a b
theorem ak.set{x x':Array Xv}(h:ak c r x x')(i:Nat){v:Xv}(k:ai c r v v'):ak c r (x.setIfInBounds i v) (x'.setIfInBounds i v'):=by refine⟨by simp[h.size],λj u d a b=>?_⟩;rw[VQ]at a b;split at a;{simp_all};rw[if_neg ‹_›]at b;exact h.el j u d a b
theorem ak.extract{x x':Array Xv}(h:ak c r x x')(i j:Nat):ak c r (x.extract i j) (x'.extract i j):=by refine⟨by simp[h.size],λk u d a b=>?_⟩;rw[Array.getElem?_extract]at a b;rw[<-h.size]at b;split at a;{rw[if_pos ‹_›]at b;exact h.el _ u d a b};cases a
theorem ak.single{v:Xv}(k:ai c r v v'):ak c r #[v] #[v']:=by refine⟨rfl,λi u d a b=>?_⟩;grind
theorem ak.cells{v:Xv}(k:ai c r v v'):ak c r v.cells v'.cells:=by cases k with|agg s e=>exact⟨s,e⟩|bool b=>exact .single (.bool b)|int k n=>exact .single (.int k n)|string s=>exact .single (.string s)|gm=>exact .single .gm|ptr a=>exact .single (.ptr a)|ig n m=>exact .single (.ig n m)|cO a g=>exact .single (.cO a g)|slice n m a=>exact .single (.slice n m a)|kK=>exact .single .kK|map a=>exact .single (.map a)|func a b d e f=>exact .single (.func a b d e f)|nilFunc=>exact .single .nilFunc|nilIface=>exact .single .nilIface|iface t a=>exact .single (.iface t a)|tuple a b=>exact .single (.tuple a b)
theorem ak.map{α:Type}(l:Array α)(f f':α->Xv)(h:∀x∈l,ai c r (f x) (f' x)):ak c r (l.map f) (l.map f'):=by refine⟨by simp,λi u d a b=>?_⟩;grind
theorem gH:ai c r XJ XJ:=.tuple rfl λi v a h=>by simp at h
theorem ak.replicate(n:Nat){v:Xv}(k:ai c r v v'):ak c r (Array.replicate n v) (Array.replicate n v'):=by refine⟨by simp,λi u d a b=>?_⟩;grind
end rows
structure FJ(c:dW)(r:bQ)(e e':Ye):Prop where
 key:ai c r e.key e'.key
 val:ai c r e.val e'.val
 born:e'.born=e.born
inductive mf(c:dW)(r:bQ):X3->X3->Prop
 |cells{x x':Array Xv}(t:XG)(fr:Nat×Nat):ak c r x x'->mf c r (.cells x t fr) (.cells x' t fr)
 |map{x x':Array Ye}(k:Nat):x.size=x'.size->(∀(i:Nat)(e e':Ye),x[i]?=Xn e->x'[i]?=Xn e'->FJ c r e e')->mf c r (.map x k) (.map x' k)
 |iter(s:ByteArray)(p:Nat):mf c r (.stringIter s p) (.stringIter s p)
 |number{a a':X7}(l:Bool):c7 c r a a'->mf c r (.number a l) (.number a' l)
inductive sC(c:dW)(r:bQ)(b:Nat):Option X3->Option X3->Prop
 |seen{x x':Array Xv}(t t':XG)(fr:Nat×Nat):c.seen b->x.size<=c.MK b->x.size<=x'.size->(c.low b=0->t=t')/\(c.low b≠0->t=wv/\c.aL<=b)->(∀(i:Nat)(v v':Xv),c.low b<=i->x[i]?=Xn v->x'[i]?=Xn v'->ai c r v v')->sC c r b (Xn (.cells x t (0,x.size))) (Xn (.cells x' t' fr))
 |own{o o':X3}:¬c.seen b->mf c r o o'->sC c r b (Xn o) (Xn o')
theorem FJ.mono{c:dW}{r r':bQ}(h:r.le r'){e e':Ye}(k:FJ c r e e'):FJ c r' e e':=⟨k.key.mono h,k.val.mono h,k.born⟩
theorem mf.mono{c:dW}{r r':bQ}(h:r.le r')(k:mf c r o o'):mf c r' o o':=by cases k with|cells t g k=>exact .cells t g (k.mono h)|map k s e=>exact .map k s λi d f a b=>(e i d f a b).mono h|iter s p=>exact .iter s p|number l a=>exact .number l (a.mono h)
theorem sC.mono{c:dW}{r r':bQ}(h:r.le r'){o o':Option X3}(k:sC c r b o o'):sC c r' b o o':=by cases k with|seen t g f s l z y e=>exact .seen t g f s l z y λi v j a b d=>(e i v j a b d).mono h|own n k=>exact .own n (k.mono h)
structure dU(c:dW)(r:bQ)(w v:Xz):Prop where
 qy:∀b k:Nat,r b=Xn k->b<w.heap.size
 Ba:∀b k:Nat,r b=Xn k->k<v.heap.size
 inj:∀b b' k:Nat,r b=Xn k->r b'=Xn k->b=b'\/(c.seen b/\c.seen b')
 rE:∀b:Nat,¬c.seen b->c.low b=0
 hid:∀b:Nat,b<c.aL->r b=Xw->w.heap[b]?=Xn (.cells #[] 0)
 blk:∀b k:Nat,r b=Xn k->sC c r b w.heap[b]? v.heap[k]?
 tape:v.tape=w.tape
 drawn:v.drawn=w.drawn
 old:∀b:Nat,c.seen b->b<w.heap.size
 aL:∀b k:Nat,r b=Xn k->b<c.aL->b=k
 kP:c.aL<=w.heap.size/\c.aL<=v.heap.size
structure Ext(c:dW)(r:bQ)(w v:Xz)(r':bQ)(w' v':Xz):Prop where
 rel:dU c r' w' v'
 le:r.le r'
 grow:w.heap.size<=w'.heap.size
 size:v'.heap.size+w.heap.size=v.heap.size+w'.heap.size
 zr:∀b:Nat,b<w.heap.size->r' b=r b
 new:∀b:Nat,w.heap.size<=b->b<w'.heap.size->r' b=Xn (v.heap.size+(b-w.heap.size))
 keep:∀k:Nat,k<v.heap.size->(∀b:Nat,r b=Xn k->c.seen b)->v'.heap[k]?=v.heap[k]?
 os:v'.os=v.os
 out:v'.output=v.output
 tape:v'.tape=v.tape
theorem Ext.refl{c:dW}{r:bQ}(h:dU c r w v):Ext c r w v r w v:=⟨h,bQ.le_refl r,UH _,by omega,λ_ _=>rfl,λb _ _=>by omega,λ_ _ _=>rfl,rfl,rfl,rfl⟩
theorem Ext.trans{c:dW}{r r1 r2:bQ}{w1 v1 w2 v2:Xz}(h:Ext c r w v r1 w1 v1)(k:Ext c r1 w1 v1 r2 w2 v2):Ext c r w v r2 w2 v2:=by have n:=h.size;have o:=k.size;have g:=h.grow;have m:=k.grow;refine⟨k.rel,bQ.le_trans h.le k.le,U9 g m,by omega,λb a=>(k.zr b (UI a g)).trans (h.zr b a),λb a f=>?_,λj l i=>?_,k.os.trans h.os,k.out.trans h.out,k.tape.trans h.tape⟩;{rcases Vo b w1.heap.size with e|d;{exact k.le _ _ (h.new b a e)};rw[k.new b d f];grind};rw[k.keep j Ω (λb a=>?_),h.keep j l i];refine i b ?_;rcases Vo b w.heap.size with e|d;{rw[<-h.zr b e];exact a};have:=h.rel.qy b j a;rw[h.new b d this]at a;grind
def sn(c:dW)(r:bQ)(e:X9):Prop:=
 (∃b:Nat,(match e.loc with|.cell a=>r b=Xn a.block/\(c.seen b->a.off<c.MK b/\a.spot=Xw)|.obj k=>r b=Xn k/\¬c.seen b|_=>False)/\(e.write=Xs->¬c.seen b)/\e.sync=Xj)\/e.loc=.mark .noRoom\/∃f,e.loc=.mark (.extern f)
theorem sn.mono{c:dW}{r r':bQ}(h:r.le r'){e:X9}(x:sn c r e):sn c r' e:=by rcases x with⟨b,a,d⟩|x;{refine .inl ⟨b,?_,d⟩;revert a;cases e.loc<;>simp only[imp_self]<;>exactλx=>⟨h _ _ x.1,x.2⟩};exact .inr x
end
section
variable{c:dW}{r:bQ}
def AL:Halt->Bool
 |.unsupported (.initOrder _)=>Xj
 |.panic _|.stuck _|.unsupported _=>Xs
 |_=>Xj
def Out(P:XI)(c:dW)(r:bQ)(w v:Xz)(s:XT β)(Q:bQ->α->β->Prop):XX α->Prop
 |.ok a w'=>∃b v' r',s.run P v=.ok b v'/\Ext c r w v r' w' v'/\Q r' a b/\∀e∈s.events P v #[],sn c r' e
 |.halt h _=>AL h=Xs
def ab(P:XI)(c:dW)(r:bQ)(x:XT α)(y:XT β)(Q:bQ->α->β->Prop):Prop:=∀w v,dU c r w v->Out P c r w v y Q (x.run P w)
theorem ab.mono{x:XT α}{y:XT β}{Q Q':bQ->α->β->Prop}(h:ab P c r x y Q)(k:∀d a b,r.le d->Q d a b->Q' d a b):ab P c r x y Q':=by intro w v l;have:=h w v l;cases f:x.run P w with|halt _ _=>rw[f]at this;exact this|ok a n=>rw[f]at this;obtain⟨b,m,d,g,e,i,j⟩:=this;exact⟨b,m,d,g,e,k _ _ _ e.le i,j⟩
theorem ab.bind{x:XT α}{y:XT β}{f:α->XT γ}{g:β->XT δ}{Q:bQ->α->β->Prop}{Q':bQ->γ->δ->Prop}(h:ab P c r x y Q)(k:∀l a b,r.le l->Q l a b->ab P c l (f a) (g b) Q'):ab P c r (x>>=f) (y>>=g) Q':=by intro w v t;have i:=h w v t;rw[XT.run_bind];cases p:x.run P w with|halt _ _=>rw[p]at i;exact i|ok a m=>rw[p]at i;obtain⟨b,F,D,s,n,B,A⟩:=i;have j:=k D a b n.le B m F n.rel;show Out P c r w v (y>>=g) Q' ((f a).run P m);cases o:(f a).run P m with|halt _ _=>rw[o]at j;exact j|ok z J=>rw[o]at j;obtain⟨u,G,E,H,q,C,I⟩:=j;refine⟨u,G,E,?_,n.trans q,C,λe d=>?_⟩;{simp_all};rw[XT.events_bind,s,XX.evThen_ok,XT.events_acc]at d;rcases Vp.1 d with d|d;{exact(A e d).mono q.le};simp_all
theorem ab.pure{a:α}{b:β}{Q:bQ->α->β->Prop}(h:Q r a b):ab P c r (Pure.pure a) (Pure.pure b) Q:=λ_ v f=>⟨b,v,r,rfl,.refl f,h,λe d=>by simp at d⟩
theorem ab.halt{y:XT β}{Q:bQ->α->β->Prop}(a:AL h=Xs:=by rfl):ab P c r (XT.halt h) y Q:=λ_ _ _=>a
theorem ab.stuck{s:String}{y:XT β}{Q:bQ->α->β->Prop}:ab P c r (Go.stuck s:XT α) y Q:=λ_ _ _=>rfl
theorem ab.unsupported{u:Unsupported}{y:XT β}{Q:bQ->α->β->Prop}(a:AL (.unsupported u)=Xs:=by rfl):ab P c r (Go.unsupported u:XT α) y Q:=λ_ _ _=>a
theorem ab.never{x:XT α}{y:XT β}{Q:bQ->α->β->Prop}(h:∀w,∃k w',x.run P w=.halt k w'/\AL k=Xs):ab P c r x y Q:=by intro w v _;obtain⟨k,w',e,a⟩:=h w;rw[e];exact a
theorem ab.ite{b:Prop}[Decidable b]{x x':XT α}{y y':XT β}{Q:bQ->α->β->Prop}(h:b->ab P c r x y Q)(a:¬b->ab P c r x' y' Q):ab P c r (if b then x else x') (if b then y else y') Q:=by by_cases e:b;{rw[if_pos e,if_pos e];exact h e};rw[if_neg e,if_neg e];exact a e
def bY(P:XI)(q:α->Prop):XT α->Prop
 |.pure a=>q a
 |.choose _ k=>∀n,bY P q (k n)
 |.program k=>bY P q (k P)
 |.mark m k=>m=.noRoom/\bY P q k
 |.halt h=>AL h=Xs
 |_=>False
abbrev lJ(P:XI):XT α->Prop:=bY P λ_=>True
theorem bY.bind{q:α->Prop}{q':β->Prop}{x:XT α}{f:α->XT β}(h:bY P q x)(k:∀a,q a->bY P q' (f a)):bY P q' (x>>=f):=by induction x with|pure a=>exact k a h|choose _ g b=>exactλn=>b n (h n)|program g b=>exact b P h|mark m g b=>exact⟨h.1,b h.2⟩|halt z=>exact h|load _ _ _ _=>exact h.elim|store _ _ _ _ _=>exact h.elim|new _ _ _=>exact h.elim|shape _ _ _=>exact h.elim|freeze _ _ _ _=>exact h.elim|frozen _ _ _=>exact h.elim|getObj _ _ _=>exact h.elim|setObj _ _ _ _=>exact h.elim|sys _ _ _=>exact h.elim
theorem lJ.bind{q':β->Prop}{x:XT α}{f:α->XT β}(h:lJ P x)(k:∀a,bY P q' (f a)):bY P q' (x>>=f):=bY.bind h λa _=>k a
def Qb(P:XI)(q:α->Prop)(x:XT α)(w v:Xz):Prop:=
 (∃a d,q a/\x.run P w=.ok a {w with drawn:=d}/\x.run P v=.ok a {v with drawn:=d}/\∀e∈x.events P v #[],e.loc=.mark .noRoom)\/∃h w',x.run P w=.halt h w'/\AL h=Xs
theorem bY.run{q₀:α->Prop}{x:XT α}(h:bY P q₀ x):∀(w v:Xz),v.tape=w.tape->v.drawn=w.drawn->Qb P q₀ x w v:=by induction x with|pure a=>exactλw v _ f=>.inl ⟨a,w.drawn,h,rfl,by rw[<-f];rfl,λe l=>by simp at l⟩|choose q g j=>intro w v i f;have t:∀u:Xz,(XT.choose q g).run P u=if q.forced then(g 0).run P u else(g (q.cut (u.tape u.drawn q))).run P {u with drawn:=u.drawn+1}:=λ_=>rfl;(have y:∀u:Xz,(XT.choose q g).events P u #[]=if q.forced then(g 0).events P u #[]else(g (q.cut (u.tape u.drawn q))).events P {u with drawn:=u.drawn+1} #[]:=λu=>by simp only[XT.events,XT.runT];grind);unfold Qb;simp only[t,y];by_cases s:q.forced=Xs;{simp only[s];exact j 0 (h 0) w v i f};obtain⟨B,F,E,C,D⟩:=v;rcases j (q.cut (w.tape w.drawn q)) (h _) {w with drawn:=w.drawn+1} ⟨B,w.tape,w.drawn+1,C,D⟩ rfl rfl with⟨a,d,n,o,p,A⟩|x;{simp_all};simp_all|program g j=>exactλw v i f=>j P h w v i f|mark m g j=>intro w v i f;rcases j h.2 w v i f with⟨a,d,n,o,p,A⟩|x;{refine .inl ⟨a,d,n,o,p,λe l=>?_⟩;have k:e∈g.events P v (#[].push ⟨.mark m,Xj,Xs⟩):=l;rw[XT.events_acc]at k;rcases Vp.1 k with x|x;{simp at x;rw[x,h.1]};simp_all};exact .inr x|halt z=>exactλw _ _ _=>.inr ⟨z,w,rfl,h⟩|load _ _ _ _=>exact h.elim|store _ _ _ _ _=>exact h.elim|new _ _ _=>exact h.elim|shape _ _ _=>exact h.elim|freeze _ _ _ _=>exact h.elim|frozen _ _ _=>exact h.elim|getObj _ _ _=>exact h.elim|setObj _ _ _ _=>exact h.elim|sys _ _ _=>exact h.elim
theorem dU.A2(h:dU c r w v)(d:Nat):dU c r {w with drawn:=d} {v with drawn:=d}:=⟨h.qy,h.Ba,h.inj,h.rE,h.hid,h.blk,h.tape,rfl,h.old,h.aL,h.kP⟩
theorem ab.eW{q:α->Prop}{x:XT α}(h:bY P q x):ab P c r x x λ_ a b=>b=a/\q a:=by intro w v f;rcases h.run w v f.tape f.drawn with⟨a,d,g,i,j,l⟩|⟨k,s,e,p⟩;{rw[i];refine⟨a,_,r,j,?_,⟨rfl,g⟩,λe o=>.inr (.inl (l e o))⟩;exact⟨f.A2 d,bQ.le_refl r,UH _,rfl,λ_ _=>rfl,λb m n=>absurd n (Nat.not_lt.2 m),λ_ _ _=>rfl,rfl,rfl,rfl⟩};rw[e];exact p
theorem ab.cC{x:XT α}(h:lJ P x):ab P c r x x λ_ a b=>b=a:=(ab.eW h).mono λ_ _ _ _ h=>h.1
theorem vi(a:α):lJ P (Pure.pure a):=trivial
theorem lI:lJ P program:=trivial
theorem iE(q:Yi):lJ P (choose q):=λ_=>trivial
theorem de(t:XG):lJ P (typeInfo t):=by refine lJ.bind lI λp=>?_;split<;>first|trivial|exact rfl
theorem aE(t:XG):lJ P (underlying t):=by refine lJ.bind lI λp=>?_;split<;>first|trivial|exact rfl
theorem bD(t:XG):lJ P (sizeOf t):=(de t).bind λ_=>trivial
theorem og(t:XG):lJ P (isAgg t):=(aE t).bind λd=>by split<;>first|trivial|exact rfl
theorem pR(n:Nat):lJ P (askRoom n):=by unfold askRoom;split;{exact⟨rfl,trivial⟩};trivial
end
section
variable{c:dW}{r:bQ}
theorem dU.at(h:dU c r w v)(b:c7 c r a a'):sC c r a.block w.heap[a.block]? v.heap[a'.block]?:=h.blk _ _ b.1
theorem dU.cell(h:dU c r w v)(g:c7 c r a a')(b:w.cell? a=Xn x):∃y,v.cell? a'=Xn y/\ai c r x y:=by have d:=h.at g;obtain⟨_,m,o,i⟩:=g;unfold Xz.cell? at b⊢;generalize q:w.heap[a.block]?=C at d b;generalize p:v.heap[a'.block]?=B at d;cases d with|@seen z D t A j s l u _ e=>grind|own n k=>cases k with|cells t j k=>simp only[o,m]at b⊢;split at b;{cases b};rename_i f;rw[if_neg f];exact k.get b|map _ _ _=>cases b|iter _ _=>cases b|number _ _=>cases b
theorem dU.UA(h:dU c r w v)(g:c7 c r a a')(_:w.cell? a=Xw)(d:Bool):∃k,w.farLoad P a d=.error k/\AL k=Xs:=by have f:=h.at g;unfold Xz.farLoad;generalize b:w.heap[a.block]?=p at f;generalize i:v.heap[a'.block]?=o at f;cases f with|seen t m j s l _ _ e=>exact⟨_,rfl,by simp only[Xz.noCell,b];rfl⟩|own n k=>cases k<;>exact⟨_,rfl,by simp only[Xz.noCell,b];rfl⟩
theorem dU.within(h:dU c r w v)(f:c7 c r a a')(b:w.cell? a=Xn x):c.seen a.block->a'.off<c.MK a.block/\a'.spot=Xw:=by intro u;have d:=h.at f;obtain⟨_,q,i,-⟩:=f;unfold Xz.cell? at b;generalize m:w.heap[a.block]?=A at d b;generalize j:v.heap[a'.block]?=z at d;cases d with|seen t y o s l _ _ e=>simp only at b;split at b;{cases b};have p:=(UJ.1 b).1;exact⟨by omega,by simp_all⟩|own n k=>simp_all
theorem ab.load(d:c7 c r a a'):ab P c r (load a) (load a') (ai c):=by intro w v f;unfold Go.load;cases b:w.cell? a with|none=>obtain⟨k,e,j⟩:=f.UA (P:=P) d b (Mode.plain==Mode.atomic);(have:(XT.load .plain a XT.pure).run P w=.halt k w:=by simp only[XT.run,b,e]);rw[this];exact j|some x=>obtain⟨y,i,k⟩:=f.cell d b;(have:(XT.load .plain a XT.pure).run P w=.ok x w:=by simp only[XT.run,b]);rw[this];refine⟨y,v,r,by simp only[XT.run,i],.refl f,k,λe g=>?_⟩;(have h:(XT.load .plain a' XT.pure).events P v #[]=#[⟨.cell a',Xj,Xj⟩]:=by simp only[XT.events,XT.runT,i];rfl);rw[h]at g;simp at g;subst g;exact .inl ⟨a.block,⟨d.1,f.within d b⟩,by simp,rfl⟩
theorem dU.xa(h:dU c r w v)(j:c7 c r a a')(b:w.cell? a=Xn x)(g:w.frozen? a=Xj):∃(z i:Array Xv)(t:XG)(d:Nat×Nat),¬c.seen a.block/\w.heap[a.block]?=Xn (.cells z t d)/\v.heap[a'.block]?=Xn (.cells i t d)/\ak c r z i/\a.spot.isSome=Xj:=by have f:=h.at j;unfold Xz.cell? at b;unfold Xz.frozen? at g;generalize o:w.heap[a.block]?=u at f b g;generalize m:v.heap[a'.block]?=q at f;cases f with|seen t p d s l _ _ e=>simp_all|own n k=>cases k with|cells t d k=>grind|map _ _ _=>cases b|iter _ _=>cases b|number _ _=>cases b
theorem heap_setCell(w:Xz)(a:X7)(x:Xv):(w.setCell a x).heap.size=w.heap.size:=by simp[Xz.setCell]
theorem lR(w:Xz)(a:X7)(x:Xv)(h:b≠a.block):(w.setCell a x).heap[b]?=w.heap[b]?:=by simp[Xz.setCell,VD,Ne.symm h]
theorem lN(w:Xz)(x:Xv){z:Array Xv}{fr:Nat×Nat}(h:w.heap[a.block]?=Xn (.cells z t fr))(b:a.spot.isSome=Xj):(w.setCell a x).heap[a.block]?=Xn (.cells (z.setIfInBounds a.off x) t fr):=by simp[Xz.setCell,VD,h,b]
theorem Ext.JH{w' v':Xz}(h:dU c r w v)(p:r b=Xn k)(q:¬c.seen b)(D:w'.heap[b]?=Xn o)(C:v'.heap[k]?=Xn o')(A:mf c r o o')(f:w'.heap.size=w.heap.size)(i:v'.heap.size=v.heap.size)(m:∀j,j≠b->w'.heap[j]?=w.heap[j]?)(s:∀j,j≠k->v'.heap[j]?=v.heap[j]?)(n:v'.tape=v.tape)(t:w'.tape=w.tape)(u:v'.drawn=w'.drawn)(y:v'.os=v.os)(z:v'.output=v.output):Ext c r w v r w' v':=by refine⟨⟨λj l a=>f▸h.qy j l a,λj l a=>i▸h.Ba j l a,h.inj,h.rE,λj a B=>by rw[m j (λe=>by simp_all)];exact h.hid j a B,λj l a=>?_,by rw[n,t,h.tape],u,λj a=>by rw[f];exact h.old j a,h.aL,by rw[f,i];exact h.kP⟩,bQ.le_refl r,by omega,by omega,λ_ _=>rfl,λj _ _=>by omega,λl F E=>?_,y,z,n⟩;{by_cases d:j=b;{subst d;rw[p]at a;cases a;rw[D,C];exact .own q A};have g:l≠k:=λe=>d ((h.inj _ _ _ (e▸a) p).resolve_right λx=>q x.2);rw[m j d,s l g];exact h.blk j l a};grind
theorem ai.one(h:ai c r x y):y.oneCell'=x.oneCell':=by cases h<;>rfl
theorem ab.store(b:c7 c r a a')(q:ai c r x y):ab P c r (store a x) (store a' y) λ_ _ _=>True:=by intro w v f;unfold Go.store;by_cases B:x.oneCell'=Xs;{(have C:y.oneCell'=Xs:=by rw[q.one,B]);(have e:∀(u:Xz)(p:X7)(z:Xv),z.oneCell'=Xs->(XT.store .plain p z (.pure ())).run P u=match u.cell? p with|some _=>if u.frozen? p then .halt (.unsupported (.unsafePointer "a write to bytes that a string shares")) u else .ok () (u.setCell p z)|none=>match u.farStore P p z Xj with|.ok (U,_)=>.ok () U|.error h=>.halt h u:=by intro u p z H;cases z<;>first|(simp[Xv.oneCell']at H;done)|(rfl));rw[e w a x B];cases L:w.cell? a with|none=>have D:=f.at b;(have:∃k,w.farStore P a x Xj=.error k/\AL k=Xs:=by unfold Xz.farStore;generalize o:w.heap[a.block]?=Y at D;generalize S:v.heap[a'.block]?=X at D;cases D with|seen t W K s l _ _ e=>exact⟨_,rfl,by simp only[Xz.noCell,o];rfl⟩|own n k=>cases k<;>exact⟨_,rfl,by simp only[Xz.noCell,o];rfl⟩);obtain⟨k,N,Q⟩:=this;simp only[N];exact Q|some Z=>simp only;cases A:w.frozen? a with|true=>rfl|false=>obtain⟨z,z',t,K,d,I,J,H,i⟩:=f.xa b L A;obtain⟨y0,T,_⟩:=f.cell b L;(have m:a'.spot.isSome=Xj:=by rw[b.2.2.1];exact i);(have O:v.frozen? a'=Xj:=by unfold Xz.frozen? at A⊢;rw[I]at A;rw[J];simp only[b.2.1];exact A);have g:=H.set a.off q;refine⟨(),v.setCell a' y,r,?_,?_,trivial,λV E=>?_⟩;{simp_all};{refine Ext.JH f b.1 d (lN w x I i) (lN v y J m) ?_ (heap_setCell _ _ _) (heap_setCell _ _ _) (λj G=>lR w a x G) (λj G=>lR v a' y G) rfl rfl f.drawn rfl rfl;rw[b.2.1];exact .cells t K g};(have F:(XT.store .plain a' y (.pure ())).events P v #[]=#[⟨.cell a',Xs,Xj⟩]:=by have:=events_store P v #[] a' y .plain C;unfold Go.store at this;simp_all);rw[F]at E;simp at E;subst E;exact .inl ⟨a.block,⟨b.1,λR=>absurd R d⟩,λ_=>d,rfl⟩};refine ab.never (P:=P) (c:=c) (r:=r) (λu=>?_) w v f;cases x<;>first|(simp[Xv.oneCell']at B;done)|exact⟨_,_,rfl,rfl⟩
def bQ.add(r:bQ)(b k:Nat):bQ:=λj=>if j=b then Xn k else r j
theorem Ext.alloc(h:dU c r w v)(n:mf c r o o'):Ext c r w v (r.add w.heap.size v.heap.size) {w with heap:=w.heap.push o} {v with heap:=v.heap.push o'}:=by have p:=λx=>U4 _ (h.old _ x);(have f:r.le (r.add w.heap.size v.heap.size):=by intro b k a;have:=h.qy b k a;unfold bQ.add;grind);refine⟨⟨λb k a=>?_,λb k a=>?_,λb q k a d=>?_,h.rE,λb i a=>?_,λb k a=>?_,h.tape,h.drawn,λb a=>by have:=h.old b a;simp;omega,λb k a i=>?_,by have:=h.kP;simp;omega⟩,f,by simp,by simp;omega,λb a=>by unfold bQ.add;grind,λb a d=>?_,λk s _=>?_,rfl,rfl,rfl⟩;{unfold bQ.add at a;simp;split at a;{omega};have:=h.qy b k a;omega};{unfold bQ.add at a;simp;split at a;{simp_all};have:=h.Ba b k a;omega};{unfold bQ.add at a d;split at a<;>split at d;{omega};{cases a;have:=h.Ba _ _ d;omega};{cases d;have:=h.Ba _ _ a;omega};exact h.inj _ _ _ a d};{have m:=UI i h.kP.1;unfold bQ.add at a;rw[if_neg Ω]at a;rw[Vg,if_neg Ω];exact h.hid b i a};{unfold bQ.add at a;split at a;{rename_i e;subst e;cases a;simp only[Array.getElem?_push_size];exact .own p (n.mono f)};have j:=h.qy b k a;have l:=h.Ba b k a;rw[XR j,XR l,<-UT j,<-UT l];exact(h.blk b k a).mono f};{unfold bQ.add at a;have:=h.kP;split at a;{omega};exact h.aL b k a i};{unfold bQ.add;grind};grind
theorem bQ.Iq(r:bQ)(b k:Nat):r.add b k b=Xn k:=by unfold bQ.add;simp
theorem ab.newObj(f:mf c r o o'):ab P c r (newObj o) (newObj o') λg b d=>g b=Xn d/\c.low b=0:=by intro w v a;refine⟨v.heap.size,_,_,rfl,Ext.alloc a f,⟨bQ.Iq _ _ _,a.rE _ λx=>U4 _ (a.old _ x)⟩,λe h=>?_⟩;simp_all
theorem ab.newRow{x x':Array Xv}(h:ak c r x x'):ab P c r (newRow t x) (newRow t x') (c7 c):=by refine ab.bind (ab.newObj (.cells t (0,0) h)) λe b d _ a=>ab.pure ⟨a.1,rfl,rfl,Vy a.2⟩
theorem ab.newVar(h:ai c r x x'):ab P c r (newVar t x) (newVar t x') (c7 c):=ab.newRow (ak.cells h)
theorem c7.add{a a':X7}(h:c7 c r a a')(n:Nat):c7 c r (a.add n) (a'.add n):=by unfold X7.add;split;{exact h};exact⟨h.1,by simp[h.2.1],rfl,U9 h.2.2.2 (VG _ _)⟩
theorem ab.loadCellsFrom(n:Nat):∀{r:bQ}{a a':X7}(i:Nat){acc acc':Array Xv},c7 c r a a'->ak c r acc acc'->ab P c r (loadCellsFrom a i n acc) (loadCellsFrom a' i n acc') (ak c):=by induction n with|zero=>intro r a a' i acc acc' e b;exact ab.pure b|succ n g=>intro r a a' i acc acc' e b;exact ab.bind (ab.load (e.add i)) λh x j d f=>g (i+1) (e.mono d) ((b.mono d).push f)
theorem ab.loadCells(b:c7 c r a a')(n:Nat):ab P c r (loadCells a n) (loadCells a' n) (ak c):=ab.loadCellsFrom n 0 b .empty
theorem ab.FK(i:Fits P c){g:Nat}(b:g<c.aL)(o:Nat):ab P c r (Go.load ⟨g,o,Xw⟩) (Go.load ⟨g,o,Xw⟩) (ai c):=by intro w v f;cases d:r g with|some k=>obtain rfl:=f.aL g k d b;exact ab.load ⟨d,rfl,rfl,U9 (Vy (i.low g b)) (Vq _)⟩ w v f|none=>have h:=f.hid g b d;(have e:(Go.load ⟨g,o,Xw⟩).run P w=.halt (.stuck "load: no such cell") w:=by simp[XT.run,Xz.cell?,Xz.farLoad,Xz.noCell,h]);rw[e];exact rfl
theorem ab.uj(f:Fits P c){g:Nat}(h:g<c.aL)(n:Nat):∀{r:bQ}(i:Nat){acc acc':Array Xv},ak c r acc acc'->ab P c r (Go.loadCellsFrom ⟨g,0,Xw⟩ i n acc) (Go.loadCellsFrom ⟨g,0,Xw⟩ i n acc') (ak c):=by induction n with|zero=>intro r i acc acc' a;exact ab.pure a|succ n k=>intro r i acc acc' a;(have e:(⟨g,0,Xw⟩:X7).add i=⟨g,0+i,Xw⟩:=by unfold X7.add;simp_all);unfold Go.loadCellsFrom;rw[e];exact ab.bind (ab.FK f h _) λl x m b j=>k (i+1) ((a.mono b).push j)
theorem ab.Gt(a:Fits P c){g:Nat}(d:g<c.aL)(t:XG):ab P c r (Go.loadVar t ⟨g,0,Xw⟩) (Go.loadVar t ⟨g,0,Xw⟩) (ai c):=by refine ab.bind (ab.cC (og t)) λp b f k h=>?_;subst h;cases f with|false=>exact ab.FK a d 0|true=>refine ab.bind (ab.cC (bD t)) λq n o l i=>?_;subst i;exact ab.bind (ab.uj a d _ 0 .empty) λs x u m j=>ab.pure (.tA j)
theorem ab.storeCells:∀{r:bQ}{a a':X7}{l l':List Xv}(i:Nat),c7 c r a a'->ak c r l.toArray l'.toArray->ab P c r (storeCells a l i) (storeCells a' l' i) λ_ _ _=>True|r,a,a',[],[],i,b,h=>ab.pure trivial|r,a,a',[],_::_,i,b,h=>by have:=h.size;grind|r,a,a',_::_,[],i,b,h=>by have:=h.size;grind|r,a,a',x::l,g::l',i,b,h=>by refine ab.bind (ab.store (b.add i) (h.el 0 x g Θ Θ)) λm _ _ d _=>?_;refine ab.storeCells (i+1) (b.mono d) ((⟨?_,λj u f k e=>?_⟩:ak c r l.toArray l'.toArray).mono d);{have:=h.size;simp_all};exact h.el (j+1) u f (by simp_all) (by simp_all)
theorem ab.loadVar(t:XG)(d:c7 c r a a'):ab P c r (loadVar t a) (loadVar t a') (ai c):=by refine ab.bind (ab.cC (og t)) λm g e b h=>?_;subst h;cases e with|false=>exact ab.load (d.mono b)|true=>refine ab.bind (ab.cC (bD t)) λo n l f i=>?_;subst i;exact ab.bind (ab.loadCells ((d.mono b).mono f) _) λp x q k j=>ab.pure (.tA j)
theorem ab.storeVar(t:XG)(j:c7 c r a a')(h:ai c r x x'):ab P c r (storeVar t a x) (storeVar t a' x') λ_ _ _=>True:=by refine ab.bind (ab.cC (bD t)) λg n d f k=>?_;subst k;have l:=(ak.cells h).size;have b:ab P c g (Go.storeCells a x.cells.toList) (Go.storeCells a' x'.cells.toList) λ_ _ _=>True:=ab.storeCells 0 (j.mono f) (by simpa using(ak.cells h).mono f);rw[<-l];by_cases e:x.cells.size≠d;{rw[if_pos e,if_pos e];exactλ_ _ _=>rfl};rw[if_neg e,if_neg e];exact b
theorem ab.getObj{b':Nat}(D:r b=Xn b'){k:X3->XT α}{k':X3->XT β}{Q:bQ->α->β->Prop}(G:∀o o',¬c.seen b->mf c r o o'->(∀x t f,o≠.cells x t f)->ab P c r (k o) (k' o') Q):ab P c r (getObj b>>=k) (getObj b'>>=k') Q:=by intro w v E;have F:=E.blk b b' D;rw[XT.run_bind];(have C:∀(u:Xz)(j:Nat),(Go.getObj j).run P u=match u.heap[j]? with|some (.cells ..)=>.halt (.stuck "getObj: a row of cells") u|some o=>.ok o u|none=>.halt (.stuck "getObj: no such block") u:=by intro u j;unfold Go.getObj;simp only[XT.run];rfl);rw[C];generalize O:w.heap[b]?=U at F;generalize g:v.heap[b']?=T at F;cases F with|seen _ _ _ _ _ _ _ _=>exact rfl|own n N=>rename_i o o';cases N with|cells t S _=>exact rfl|map R L M=>have:=G _ _ n (.map R L M) (λ_ _ _ h=>by cases h) w v E;revert this;show Out P c r w v _ Q ((k _).run P w)->Out P c r w v _ Q ((k _).run P w);(cases(k _).run P w with|halt _ _=>exactλh=>h|ok a J=>rintro⟨q,B,A,H,i,z,I⟩;refine⟨q,B,A,by simp_all,i,z,λe d=>?_⟩;rw[XT.events_bind,C,g]at d;(have y:(Go.getObj b').events P v #[]=#[⟨.obj b',Xj,Xj⟩]:=by simp[Go.getObj,XT.events,XT.runT,g,X3.isChan,-XT.runT_eq]);simp only[XX.evThen_ok]at d;rw[XT.events_acc,y]at d;rcases Vp.1 d with d|d;{simp at d;subst d;exact .inl ⟨b,⟨i.le _ _ D,n⟩,by simp,rfl⟩};simp_all)|iter s p=>have:=G _ _ n (.iter s p) (λ_ _ _ h=>by cases h) w v E;revert this;show Out P c r w v _ Q ((k _).run P w)->Out P c r w v _ Q ((k _).run P w);(cases(k _).run P w with|halt _ _=>exactλh=>h|ok a J=>rintro⟨q,B,A,H,i,z,I⟩;refine⟨q,B,A,by simp_all,i,z,λe d=>?_⟩;rw[XT.events_bind,C,g]at d;(have y:(Go.getObj b').events P v #[]=#[⟨.obj b',Xj,Xj⟩]:=by simp[Go.getObj,XT.events,XT.runT,g,X3.isChan,-XT.runT_eq]);simp only[XX.evThen_ok]at d;rw[XT.events_acc,y]at d;rcases Vp.1 d with d|d;{simp at d;subst d;exact .inl ⟨b,⟨i.le _ _ D,n⟩,by simp,rfl⟩};simp_all)|number l K=>have:=G _ _ n (.number l K) (λ_ _ _ h=>by cases h) w v E;revert this;show Out P c r w v _ Q ((k _).run P w)->Out P c r w v _ Q ((k _).run P w);cases(k _).run P w with|halt _ _=>exactλh=>h|ok a J=>rintro⟨q,B,A,H,i,z,I⟩;refine⟨q,B,A,by simp_all,i,z,λe d=>?_⟩;rw[XT.events_bind,C,g]at d;(have y:(Go.getObj b').events P v #[]=#[⟨.obj b',Xj,Xj⟩]:=by simp[Go.getObj,XT.events,XT.runT,g,X3.isChan,-XT.runT_eq]);simp only[XX.evThen_ok]at d;rw[XT.events_acc,y]at d;rcases Vp.1 d with d|d;{simp at d;subst d;exact .inl ⟨b,⟨i.le _ _ D,n⟩,by simp,rfl⟩};simp_all
theorem ab.setObj{b':Nat}(i:r b=Xn b')(z:¬c.seen b)(A:mf c r o o')(I:o.isChan=Xj):ab P c r (setObj b o) (setObj b' o') λ_ _ _=>True:=by intro w v k;have m:=k.blk b b' i;(have C:∀(u:Xz)(j:Nat)(o:X3),(Go.setObj j o).run P u=match u.heap[j]? with|some (.cells ..)=>.halt (.stuck "setObj: a row of cells") u|some _=>.ok () {u with heap:=u.heap.setIfInBounds j o}|none=>.halt (.stuck "setObj: no such block") u:=by intro u j o;rfl);rw[C];have n:=k.qy b b' i;have y:=k.Ba b b' i;(have E:o'.isChan=Xj:=by cases A<;>rfl);generalize H:w.heap[b]?=K at m;generalize g:v.heap[b']?=J at m;(have d:∀q,v.heap[b']?=Xn q->(∀x t f,q≠.cells x t f)->q.isChan=Xj->Out P c r w v (Go.setObj b' o') (λ_ _ _=>True) (.ok () {w with heap:=w.heap.setIfInBounds b o}):=by intro q F G B;refine⟨(),{v with heap:=v.heap.setIfInBounds b' o'},r,?_,?_,trivial,λe p=>?_⟩;{simp_all};{exact Ext.JH k i z (by simp[n]) (by simp[y]) A Θ Θ (λj s=>U6 (Ne.symm s)) (λj s=>U6 (Ne.symm s)) rfl rfl k.drawn rfl rfl};(have D:(Go.setObj b' o').events P v #[]=#[⟨.obj b',Xs,Xj⟩]:=by unfold Go.setObj;simp only[XT.events,XT.runT,F];simp_all);rw[D]at p;simp at p;subst p;exact .inl ⟨b,⟨i,z⟩,λ_=>z,rfl⟩);cases m with|seen _ _ _ x _ _ _ _=>rfl|own _ h=>cases h with|cells _ _ _=>exact rfl|map _ _ _=>exact d _ g (λ_ _ _ h=>by cases h) rfl|iter _ _=>exact d _ g (λ_ _ _ h=>by cases h) rfl|number _ _=>exact d _ g (λ_ _ _ h=>by cases h) rfl
end
section
variable{c:dW}{r:bQ}
def Flat(v:Xv):Prop:=∀(c:dW)(r:bQ),ai c r v v
theorem Flat.int(k:XE)(n:Int):Flat (.int k n):=λ_ _=>.int k n
theorem Flat.bool(b:Bool):Flat (.bool b):=λ_ _=>.bool b
theorem Flat.string(s:ByteArray):Flat (.string s):=λ_ _=>.string s
def jL:Nat->Xv->Bool
 |0,_=>Xj
 |_+1,.bool _|_+1,.int _ _|_+1,.string _|_+1,.pointer Xw|_+1,.slice Xw _ _|_+1,.map Xw|_+1,.nilFunc|_+1,.nilIface=>Xs
 |n+1,.agg x|n+1,.tuple x=>x.all (jL n)
 |_,_=>Xj
theorem iy:∀{n:Nat}{v:Xv},jL n v=Xs->Flat v|0,_,h=>by simp[jL]at h|n+1,v,h=>by intro c r;cases v with|bool b=>exact .bool b|int k n=>exact .int k n|float _ _=>simp[jL]at h|complex _ _ _=>simp[jL]at h|string s=>exact .string s|pointer a=>(cases a with|none=>exact .gm|some _=>simp[jL]at h)|slice a n m=>(cases a with|none=>exact .ig n m|some _=>simp[jL]at h)|map a=>(cases a with|none=>exact .kK|some _=>simp[jL]at h)|chan _=>simp[jL]at h|func _ _ _=>simp[jL]at h|nilFunc=>exact .nilFunc|iface _ _=>simp[jL]at h|nilIface=>exact .nilIface|agg x=>simp only[jL,Array.all_eq_true]at h;refine .agg rfl λi v f a b=>?_;rw[a]at b;cases b;obtain⟨e,rfl⟩:=UJ.1 a;exact iy (h i e) c r|tuple x=>simp only[jL,Array.all_eq_true]at h;refine .tuple rfl λi v f a b=>?_;rw[a]at b;cases b;obtain⟨e,rfl⟩:=UJ.1 a;exact iy (h i e) c r
theorem ab.flat{x:XT Xv}(h:bY P Flat x):ab P c r x x (ai c):=(ab.eW h).mono λd a b _⟨e,h⟩=>by subst e;exact h c d
theorem bW:bY P (λp=>p=P) program:=rfl
theorem jM(t:XG):bY P (λi=>P.info? t=Xn i) (typeInfo t):=by refine bY.bind bW λp a=>?_;subst a;cases h:p.info? t with|none=>exact rfl|some i=>exact rfl
theorem tL(t:XG)(a:∀z,(P.info? t).bind (·.zero)=Xn z->Flat z):bY P Flat (zeroValue t):=by refine bY.bind (jM t) λi b=>?_;cases h:i.zero with|none=>exact rfl|some v=>exact a v (by grind)
theorem nU(a:BinOp)(k:XE)(x y:Int):bY P Flat (Op.intArith a k x y):=by unfold Op.intArith;split<;>first|exact .int _ _|exact rfl
theorem zJ(a:BinOp)(k:XE)(x y:Int):bY P Flat (Op.intDiv a k x y):=by unfold Op.intDiv;split;{rfl};split<;>first|exact .int _ _|exact rfl
theorem pZ(a:BinOp)(k:XE)(x y:Int):bY P Flat (Op.intBits a k x y):=by unfold Op.intBits;split<;>first|exact .int _ _|exact rfl
theorem zS(a:BinOp)(x y:Int):bY P Flat (Op.intCmp a x y):=by unfold Op.intCmp;split<;>first|exact .bool _|exact rfl
theorem tg(a:BinOp)(k b:XE)(x y:Int):bY P Flat (Op.shift a k x b y):=by unfold Op.shift;split;{rfl};split<;>first|exact .int _ _|exact rfl
theorem kl(a:BinOp)(x y:ByteArray):bY P Flat (Op.stringOp a x y):=by unfold Op.stringOp;split<;>first|exact .bool _|exact rfl|(split<;>first|exact .string _|exact rfl)
theorem jW{q:α->Prop}(s:String):bY P q (Go.stuck s):=rfl
theorem pT{q:α->Prop}{b:Prop}[Decidable b]{x y:XT α}(a:bY P q x)(d:bY P q y):bY P q (if b then x else y):=by grind
theorem mC(d:BinOp)(t:XG)(k j:XE)(a b:Int):bY P Flat (binOp d t (.int k a) (.int j b)):=by cases d<;>first|exact tg .shl k j a b|exact tg .shr k j a b|exact pT (jW _) (nU _ _ _ _)|exact pT (jW _) (zJ _ _ _ _)|exact pT (jW _) (pZ _ _ _ _)|exact pT (jW _) (zS _ _ _)
theorem jY(d:BinOp)(t:XG)(a b:ByteArray):bY P Flat (binOp d t (.string a) (.string b)):=by(have:binOp d t (.string a) (.string b)=Op.stringOp d a b:=by cases d<;>rfl);rw[this];exact kl _ _ _
theorem ab.asBool(h:ai c r x x'):ab P c r (asBool x) (asBool x') λ_ a b=>b=a:=by cases h<;>first|exact ab.pure rfl|exact ab.stuck
theorem ab.asIntOf(h:ai c r x x'):ab P c r (asIntOf x) (asIntOf x') λ_ a b=>b=a:=by cases h<;>first|exact ab.pure rfl|exact ab.stuck|exact ab.unsupported
theorem ab.asInt(h:ai c r x x'):ab P c r (asInt x) (asInt x') λ_ a b=>b=a:=ab.bind (ab.asIntOf h) λ_ a b _ e=>ab.pure (by rw[e])
theorem ab.asAgg(h:ai c r x x'):ab P c r (asAgg x) (asAgg x') (ak c):=by cases h with|agg a b=>exact ab.pure ⟨a,b⟩|_=>exact ab.stuck
def gh(P:XI)(x:XT α):Prop:=∀w h w',x.run P w=.halt h w'->AL h=Xs
def kO(P:XI)(x:XT α):Prop:=∀w,∃k w',x.run P w=.halt k w'/\AL k=Xs
theorem bY.x5{q:α->Prop}{x:XT α}(h:bY P q x):gh P x:=by intro w k j e;rcases h.run w w rfl rfl with⟨a,d,_,b,_⟩|⟨i,f,b,g⟩;{simp_all};simp_all
theorem gh.bind{x:XT α}{f:α->XT β}(d:gh P x)(h:∀a,gh P (f a)):gh P (x>>=f):=by intro w k j e;rw[XT.run_bind]at e;cases b:x.run P w with|halt i g=>rw[b]at e;cases e;exact d _ _ _ b|ok a g=>rw[b]at e;exact h a _ _ _ e
theorem dq{x:XT α}{f:α->XT β}(e:gh P x)(h:∀a,kO P (f a)):kO P (x>>=f):=by intro w;rw[XT.run_bind];cases d:x.run P w with|halt k b=>exact⟨k,b,rfl,e _ _ _ d⟩|ok a b=>exact h a b
theorem gz{x:XT α}{f:α->XT β}(h:kO P x):kO P (x>>=f):=by intro w;obtain⟨k,b,e,a⟩:=h w;simp_all
theorem ek(a:AL h=Xs:=by rfl):kO P (XT.halt h:XT α):=λw=>⟨h,w,rfl,a⟩
theorem q9(o:X3):gh P (newObj o):=λ_ _ _ e=>by cases e
theorem di(a:α):gh P (Pure.pure a:XT α):=λ_ _ _ e=>by cases e
theorem BW(b:Nat):gh P (shape b):=λ_ _ _ e=>by cases e
theorem zA(a:X7):gh P (frozen a):=λ_ _ _ e=>by cases e
theorem qJ(t:XG):lJ P (elemOf t):=(aE t).bind λd=>by cases d<;>first|trivial|exact rfl
theorem du(e:RuntimeError):kO P (runtimePanic e:XT α):=by refine dq lI.x5 λp=>?_;cases e with|typeAssertion i q a m=>exact dq (qJ _).x5 λz=>dq ((q9 _).bind λ_=>di _) λ_=>ek|panicNil=>exact dq (qJ _).x5 λz=>dq ((q9 _).bind λ_=>di _) λ_=>ek|_=>exact ek
theorem ab.runtimePanic{y:XT β}{Q:bQ->α->β->Prop}:ab P c r (Go.runtimePanic e:XT α) y Q:=ab.never (du e)
theorem oM(k:XE)(x y:Int)(a:BoundsCode):kO P (boundsPanic k x y a:XT α):=by unfold boundsPanic;split;{exact dq ((iE _).bind λ_=>vi _).x5 λ_=>du _};exact dq (vi _).x5 λ_=>du _
theorem ab.boundsPanic{k:XE}{n m:Int}{code:BoundsCode}{y:XT β}{Q:bQ->α->β->Prop}:ab P c r (Go.boundsPanic k n m code:XT α) y Q:=ab.never (oM k n m code)
theorem ab.sureAddr(h:ai c r x x'):ab P c r (Instr.sureAddr x) (Instr.sureAddr x') (c7 c):=by cases h with|ptr h=>exact ab.pure h|_=>exact ab.stuck
theorem ab.asAddr(h:ai c r x x'):ab P c r (asAddr x) (asAddr x') (c7 c):=by cases h with|ptr h=>exact ab.pure h|gm=>exact ab.runtimePanic (e:=.nilDeref)|_=>exact ab.stuck
theorem ab.part(t:XG)(off:Nat){x x':Array Xv}(h:ak c r x x'):ab P c r (part t x off) (part t x' off) (ai c):=by refine ab.bind (ab.cC (og t)) λm g f a j=>?_;subst j;cases f with|true=>exact ab.bind (ab.cC (bD t)) λp n o i l=>by subst l;exact ab.pure (.tA (((h.mono a).mono i).extract _ _))|false=>cases e:x[off]? with|none=>exact ab.stuck|some v=>obtain⟨q,d,k⟩:=(h.mono a).get e;rw[d];exact ab.pure k
theorem D5(t:XG)(d:∀z,(P.info? t).bind (·.zero)=Xn z->Flat z):ab P c r (Instr.alloc t Xs (.tuple #[])) (Instr.alloc t Xs (.tuple #[])) (ai c):=by refine ab.bind (ab.flat (tL t d)) λg z j f d=>?_;exact ab.bind (ab.newVar d) λi a e _ h=>ab.pure (.ptr h)
theorem Jy(t:XG)(h:ai c r x x'):ab P c r (Instr.box t x) (Instr.box t x') (ai c):=ab.bind (ab.newVar h) λe a d _ h=>ab.pure (.ptr h)
theorem yN(d:Nat->Option (Nat×Nat)):∀(l q:List (Nat×Xv)){z z':Array Xv},ak c r z z'->l.map (·.1)=q.map (·.1)->ak c r (l.map (·.2)).toArray (q.map (·.2)).toArray->
 match Instr.fill d z l with|some y=>∃I,Instr.fill d z' q=Xn I/\ak c r y I|none=>True
 |[],[],z,z',h,_,_=>⟨z',rfl,h⟩
 |[],_::_,_,_,_,e,_=>by simp at e
 |_::_,[],_,_,_,e,_=>by simp at e
 |(i,v)::l,(O,t)::q,z,z',h,e,w=>by
   simp only[Vi,WN]at e
   obtain⟨rfl,e⟩:=e
   have F:ai c r v t:=w.el 0 v t Θ Θ
   have A:ak c r (l.map (·.2)).toArray (q.map (·.2)).toArray:=⟨by have:=w.size;simp_all,λj u E a b=>w.el (j+1) u E (by grind) (by grind)⟩
   have M:=(ak.cells F).size
   have C:=h.size
   unfold Instr.fill
   cases d i with
   |none=>trivial
   |some p=>
     obtain⟨k,H⟩:=p
     simp only[<-M,<-C]
     split
     · rename_i y G
       split at G
       ·cases G
       · rename_i L
         rw[if_neg L]
         have D:∀(s f:List (Xv×Nat))(z z':Array Xv),ak c r z z'->s.map (·.2)=f.map (·.2)->ak c r (s.map (·.1)).toArray (f.map (·.1)).toArray->
          ak c r (s.foldl (λm(x:Xv×Nat)=>m.setIfInBounds (k+x.2) x.1) z) (f.foldl (λm(x:Xv×Nat)=>m.setIfInBounds (k+x.2) x.1) z'):=by
          intro s
          induction s with
          |nil=>simp_all
          |cons p s N=>intro f z z' C e B;cases f with
            |nil=>simp at e
            |cons Q f=>
              simp only[Vi,WN]at e
              rw[VR,VR,<-e.1]
              exact N f _ _ (C.set _ (B.el 0 _ _ Θ Θ)) e.2 ⟨by have:=B.size;simp_all,λj u E a b=>B.el (j+1) u E (by grind) (by grind)⟩
         have n:ak c r (v.cells.zipIdx.foldl (λm(x:Xv×Nat)=>m.setIfInBounds (k+x.2) x.1) z) (t.cells.zipIdx.foldl (λm(x:Xv×Nat)=>m.setIfInBounds (k+x.2) x.1) z'):=by
          rw[<-Array.foldl_toList,<-Array.foldl_toList]
          refine D _ _ _ _ h ?_ ?_
          ·simp_all
          · have J:(v.cells.zipIdx.toList.map (·.1)).toArray=v.cells:=by simp
            have K:(t.cells.zipIdx.toList.map (·.1)).toArray=t.cells:=by simp
            rw[J,K];exact ak.cells F
         have:=yN d l q n e A
         simp_all
     ·trivial
end
section
variable{c:dW}{r:bQ}
inductive ss(c:dW)(b:Nat):Option (XG×Nat)->Option (XG×Nat)->Prop
 |none:ss c b Xw Xw
 |some(t:XG){n m:Nat}:n<=m->c.low b=0->ss c b (Xn (t,n)) (Xn (t,m))
 |bad(t':XG){n m:Nat}:c.low b≠0->c.aL<=b->ss c b (Xn (wv,n)) (Xn (t',m))
theorem ss.isSome{s s':Option (XG×Nat)}(h:ss c b s s'):s.isSome=s'.isSome:=by cases h<;>rfl
theorem qf{p:XI}{d:Nat}{e:XG}{m off:Nat}{bs:Int}{o:Nat}(h:n<=m)(a:cellAtBytes p d e n off bs=Xn o):cellAtBytes p d e m off bs=Xn o:=by unfold cellAtBytes at a⊢;simp only[]at a⊢;split at a;{cases a};rename_i f;rw[if_neg f];simp only[Option.bind_eq_bind]at a⊢;cases i:byteOfCell p d e (off%p.cellsOf e)with|none=>simp_all|some b=>rw[i]at a;simp only[VX]at a⊢;split at a;{cases a};rename_i g;rw[if_neg ?_];{exact a};simp only[VL,decide_eq_true_eq,Int.ofNat_eq_natCast]at g⊢;have:n*p.bytesOf e<=m*p.bytesOf e:=VO _ h;omega
theorem dU.shape(h:dU c r w v)(g:r b=Xn k):ss c b (w.shape? b) (v.shape? k):=by have d:=h.blk b k g;unfold Xz.shape?;generalize w.heap[b]?=p at d;generalize v.heap[k]?=o at d;cases d with|@seen x q t m f s l z y e=>by_cases a:c.low b=0;{obtain rfl:=y.1 a;exact .some t z a};obtain⟨rfl,i⟩:=y.2 a;exact .bad m a i|own n j=>cases j with|cells t f k=>exact .some t (by simp[k.size]) (h.rE b n)|_=>exact .none
theorem ab.shape(d:r b=Xn k):ab P c r (shape b) (shape k) λ_ x y=>ss c b x y:=by intro w v a;exact⟨v.shape? k,v,r,rfl,.refl a,a.shape d,λe f=>by simp_all⟩
theorem ab.viewAt(f:r b=Xn k):ab P c r (viewAt b) (viewAt k) λ_ x y=>x=Xw/\y=Xw:=by refine ab.bind (ab.shape f) λg s d h l=>?_;have a:=l.isSome;by_cases e:d.isSome=Xs;{rw[a,if_pos e,if_pos e];exact ab.pure ⟨rfl,rfl⟩};rw[a,if_neg e,if_neg e];refine ab.getObj (h _ _ f) λo n _ j i=>?_;cases j with|cells t m _=>exact absurd rfl (i _ _ _)|_=>exact ab.pure ⟨rfl,rfl⟩
theorem ab.noView(d:c7 c r a a'):ab P c r (noView a) (noView a') λ_ _ _=>True:=by refine ab.bind (ab.viewAt d.1) λf s g e b=>?_;rw[b.1,b.2];exact ab.pure trivial
def OT(c:dW)(r:bQ):Option (X7×Bool)->Option (X7×Bool)->Prop
 |none,Xw=>True
 |some (a,l),Xn (a',l')=>c7 c r a a'/\l'=l
 |_,_=>False
theorem ab.numberAt(f:r b=Xn k):ab P c r (numberAt b) (numberAt k) (OT c):=by refine ab.bind (ab.shape f) λn s g h m=>?_;have d:=m.isSome;rw[d];by_cases e:g.isSome=Xs;{rw[if_pos e,if_pos e];exact ab.pure trivial};rw[if_neg e,if_neg e];refine ab.getObj (h _ _ f) λo q _ j i=>?_;cases j with|cells t p _=>exact absurd rfl (i _ _ _)|number l a=>exact ab.pure ⟨a,rfl⟩|_=>exact ab.pure trivial
theorem ab.behindNumber(d:c7 c r a a'):ab P c r (behindNumber a) (behindNumber a') λf x y=>c7 c f x.1 y.1/\y.2=x.2:=by refine ab.bind (ab.numberAt d.1) λi s g e b=>ab.pure ?_;match s,g,b with|none,Xw,_=>exact⟨d.mono e,rfl⟩|some (x,l),Xn (j,h),b=>exact b
theorem ab.asNumber(b:c7 c r a a')(l:Bool):ab P c r (asNumber a l) (asNumber a' l) (ai c):=ab.bind (ab.newObj (.number l b)) λ_ _ _ _ h=>ab.pure (.ptr ⟨h.1,rfl,rfl,Vy h.2⟩)
theorem ab.byteOf(b:c7 c r a a')(g:c.low a.block=0\/a.block<c.aL):ab P c r (byteOf a) (byteOf a') λ_ x y=>y=x:=by have e:=b.2.2.1;unfold Go.byteOf;rw[e];cases a.spot with|some s=>exact ab.pure rfl|none=>refine ab.bind (ab.eW bW) λn p m d i=>?_;obtain⟨rfl,rfl⟩:=i;refine ab.bind (ab.noView (b.mono d)) λo _ _ f _=>?_;refine ab.bind (ab.shape ((b.mono d).mono f).1) λq s t l e=>?_;rw[b.2.1];cases e with|none=>exact ab.stuck|bad x k d=>exact absurd g Ω|some x h=>refine ab.cC ?_;simp only[];split;{trivial};split<;>first|trivial|exact rfl
theorem ab.unsafeAdd(z:Fits P c)(h:ai c r x x')(k:ai c r y y'):ab P c r (XV.unsafeAdd_ #[] t #[x,y]) (XV.unsafeAdd_ #[] t #[x',y']) (ai c):=by(have f:∀{a j:Option X7},ai c r (.pointer a) (.pointer j)->ab P c r (XV.unsafeAdd_ #[] t #[.pointer a,y]) (XV.unsafeAdd_ #[] t #[.pointer j,y']) (ai c):=by intro a j h;refine ab.bind (ab.asInt k) λF n E v A=>?_;subst A;have h:=h.mono v;simp only[];split;{cases h with|gm=>exact ab.unsupported|ptr b=>refine ab.bind (ab.viewAt b.1) λB s D l g=>?_;rw[g.1,g.2];exact ab.pure (.ptr (b.mono l))};split;{exact ab.unsupported};cases h with|gm=>exact ab.unsupported|ptr b=>refine ab.bind (ab.shape b.1) λB s D l g=>?_;cases g with|none=>exact ab.unsupported|bad x u v=>refine ab.bind (ab.eW bW) λC p i w o=>?_;obtain⟨rfl,rfl⟩:=o;(have:i.cellsOf wv=0:=by unfold XI.cellsOf;rw[z.bad];rfl);(have:∀n d q,cellAtBytes i i.depth wv n d q=Xw:=λn d q=>by unfold cellAtBytes;simp[this]);simp only[this];exact ab.unsupported|some x m u=>refine ab.bind (ab.eW bW) λC p i w o=>?_;obtain⟨rfl,rfl⟩:=o;rw[b.2.1];split;{rename_i d e;rw[qf (Nat.div_le_div_right m) e];exact ab.pure (.ptr ⟨((b.mono l).mono w).1,rfl,b.2.2.1,U9 (Vy u) (Vq _)⟩)};exact ab.unsupported);cases h with|gm=>exact f .gm|ptr b=>exact f (.ptr b)|_=>exact ab.stuck
theorem ab.movedNumber(g:Fits P c)(h:ai c r x x')(k:ai c r y y'):ab P c r (movedNumber t x y) (movedNumber t x' y') (ai c):=by refine ab.bind (ab.cC (aE t)) λH d E p w=>?_;subst w;have h:=h.mono p;have k:=k.mono p;refine ab.ite (λ_ _ _ _=>rfl) λ_=>?_;cases h with|ptr u=>refine ab.bind (ab.behindNumber u) λI a i q A=>?_;obtain⟨j,o⟩:=A;obtain⟨a,l⟩:=a;subst o;refine ab.bind (ab.unsafeAdd g (.ptr j) (k.mono q)) λJ z K F B=>?_;(cases B with|ptr v=>exact ab.asNumber v _|gm=>exact ab.pure .gm|bool b=>exact ab.pure (.bool b)|int k n=>exact ab.pure (.int k n)|string s=>exact ab.pure (.string s)|ig n m=>exact ab.pure (.ig n m)|slice n m a=>exact ab.pure (.slice n m a)|cO a i=>exact ab.pure (.cO a i)|kK=>exact ab.pure .kK|map a=>exact ab.pure (.map a)|func a b d e f=>exact ab.pure (.func a b d e f)|nilFunc=>exact ab.pure .nilFunc|nilIface=>exact ab.pure .nilIface|iface t a=>exact ab.pure (.iface t a)|agg a b=>exact ab.pure (.agg a b)|tuple a b=>exact ab.pure (.tuple a b))|gm=>exact ab.unsafeAdd g .gm k|bool b=>exact ab.unsafeAdd g (.bool b) k|int C n=>exact ab.unsafeAdd g (.int C n) k|string s=>exact ab.unsafeAdd g (.string s) k|ig n m=>exact ab.unsafeAdd g (.ig n m) k|slice n m a=>exact ab.unsafeAdd g (.slice n m a) k|cO a i=>exact ab.unsafeAdd g (.cO a i) k|kK=>exact ab.unsafeAdd g .kK k|map a=>exact ab.unsafeAdd g (.map a) k|func a b d e f=>exact ab.unsafeAdd g (.func a b d e f) k|nilFunc=>exact ab.unsafeAdd g .nilFunc k|nilIface=>exact ab.unsafeAdd g .nilIface k|iface t a=>exact ab.unsafeAdd g (.iface t a) k|agg a b=>exact ab.unsafeAdd g (.agg a b) k|tuple a b=>exact ab.unsafeAdd g (.tuple a b) k
theorem ab.movedPointer(g:Fits P c)(h:ai c r x x')(k:ai c r y y'):ab P c r (movedPointer t x y) (movedPointer t x' y') (ai c):=by unfold Go.movedPointer;cases h with|ptr j=>refine ab.bind (ab.numberAt j.1) λv s q i o=>?_;(match s,q,o with|none,Xw,_=>exact ab.unsafeAdd (t:=t) g (.ptr (j.mono i)) (k.mono i)|some _,Xn _,_=>exactλ_ _ _=>rfl)|gm=>exact ab.unsafeAdd g .gm k|bool b=>exact ab.unsafeAdd g (.bool b) k|int p n=>exact ab.unsafeAdd g (.int p n) k|string s=>exact ab.unsafeAdd g (.string s) k|ig n m=>exact ab.unsafeAdd g (.ig n m) k|slice n m a=>exact ab.unsafeAdd g (.slice n m a) k|cO a l=>exact ab.unsafeAdd g (.cO a l) k|kK=>exact ab.unsafeAdd g .kK k|map a=>exact ab.unsafeAdd g (.map a) k|func a b d e f=>exact ab.unsafeAdd g (.func a b d e f) k|nilFunc=>exact ab.unsafeAdd g .nilFunc k|nilIface=>exact ab.unsafeAdd g .nilIface k|iface t a=>exact ab.unsafeAdd g (.iface t a) k|agg a b=>exact ab.unsafeAdd g (.agg a b) k|tuple a b=>exact ab.unsafeAdd g (.tuple a b) k
theorem ab.known{x:XT α}{y:XT β}{Q:bQ->α->β->Prop}(h:(∀(i k:Nat),r i=Xn k->i<c.aL->i=k)->(∀(i j k:Nat),r i=Xn k->r j=Xn k->i=j\/(c.seen i/\c.seen j))->ab P c r x y Q):ab P c r x y Q:=λw v a=>h a.aL a.inj w v a
theorem vb{b:X7}(d:c7 c r a a')(f:c7 c r b b')(e:a.block=b.block):a'.block=b'.block:=by have h:=f.1;rw[<-e,d.1]at h;simp_all
theorem uS(d:∀(i k:Nat),r i=Xn k->i<c.aL->i=k)(b:c7 c r a a')(h:a.block<c.aL):a'.block<c.aL:=by have:=d _ _ b.1 h;omega
theorem ab.twoPlaces{b:X7}(k:Fits P c)(f:c7 c r a a')(j:c7 c r b b'):ab P c r (Op.twoPlaces a b) (Op.twoPlaces a' b') λ_ x y=>y=x:=by refine ab.known λu A=>?_;refine ab.bind (ab.eW bW) λB p h i t=>?_;obtain⟨rfl,rfl⟩:=t;by_cases d:a.block=b.block;(case neg=>have m:=bne_iff_ne.2 d;rw[m];exactλ_ _ _=>rfl);(have n:(a'.block !=b'.block)=(a.block !=b.block):=by simp[d,vb f j d]);by_cases e:a.block<c.aL;(case neg=>(have q:decide (a.block>=h.globals.size)=Xs:=by rw[decide_eq_true_eq,<-k.aL];omega);rw[q,Wb];exactλ_ _ _=>rfl);(have o:decide (a'.block>=h.globals.size)=decide (a.block>=h.globals.size):=by rw[decide_eq_decide,<-k.aL];have:=uS u f e;omega);rw[n,o];refine ab.ite (λ_ _ _ _=>rfl) λ_=>?_;exact ab.bind (ab.byteOf (f.mono i) (.inr e)) λC x E s v=>ab.bind (ab.byteOf ((j.mono i).mono s) (.inr (d▸e))) λD y F z w=>ab.pure (by rw[v,w])
theorem ab.addrMod(h:Fits P c){k:XE}{n:Int}(f:c7 c r a a'):ab P c r (Op.addrMod k a n) (Op.addrMod k a' n) (ai c):=by refine ab.bind (ab.shape f.1) λt s y d m=>?_;cases m with|none=>exact ab.unsupported|bad x b d=>refine ab.never (gz λw=>?_);(have e:∃s,(typeInfo wv).run P w=.halt (.stuck s) w:=by unfold typeInfo;rw[XT.run_bind];simp only[program,XT.run,XX.andThen,h.bad];simp);obtain⟨s,e⟩:=e;exact⟨_,w,e,rfl⟩|some x l b=>refine ab.bind (ab.cC (de _)) λu i q g j=>?_;subst j;refine ab.ite (λ_ _ _ _=>rfl) λ_=>?_;exact ab.bind (ab.byteOf ((f.mono d).mono g) (.inl b)) λv z A p o=>by subst o;exact ab.pure (.int _ _)
theorem ab.addrCmp{b:X7}(f:Fits P c)(d:c7 c r a a')(e:c7 c r b b'):ab P c r (Op.addrCmp op a b) (Op.addrCmp op a' b') (ai c):=by refine ab.bind (ab.twoPlaces f d e) λj s h i g=>?_;subst g;cases op<;>first|exact ab.pure (.bool _)|exact ab.unsupported
theorem ab.addrSub{k:XE}{b:X7}(f:Fits P c)(d:c7 c r a a')(e:c7 c r b b'):ab P c r (Op.addrSub k a b) (Op.addrSub k a' b') (ai c):=by refine ab.bind (ab.twoPlaces f d e) λi s j h g=>?_;subst g;exact ab.pure (.int _ _)
def M5(P:XI)(t:XG):Bool:=match(P.info? t).map (λi:TypeInfo=>i.desc)with|some (.named "sync.copyChecker" _)=>Xj|_=>Xs
def fe(P:XI)(t:XG):Bool:=match P.underlying t with|some (.int _)=>M5 P t|some .string|some .bool=>Xs|_=>Xj
theorem Ae{q:α->Prop}{x:XT α}{f:α->XT β}(g:bY P q x)(h:∀a,q a->kO P (f a)):kO P (x>>=f):=by intro w;rw[XT.run_bind];rcases g.run w w rfl rfl with⟨a,d,e,b,_⟩|⟨k,j,b,i⟩;{rw[b];exact h a e _};simp_all
theorem ab.equal(H:Fits P c)(j:fe P t=Xs)(h:ai c r x x')(k:ai c r y y'):ab P c r (Op.equal t x y) (Op.equal t x' y') λ_ a b=>b=a:=by show ab P c r (Op.equalIn (9999+1) t x y) (Op.equalIn (9999+1) t x' y') _;generalize(9999:Nat)=d;unfold Op.equalIn;refine ab.bind (ab.eW (x:=underlying t) (q:=λd=>P.underlying t=Xn d) ?_) λr1 z J s m=>?_;{refine bY.bind bW λp v=>?_;subst v;cases h:p.underlying t with|none=>exact rfl|some i=>exact rfl};obtain⟨rfl,m⟩:=m;have h:=h.mono s;have k:=k.mono s;unfold fe at j;rw[m]at j;cases J with|bool=>(cases h<;>cases k<;>first|exact ab.stuck|exact ab.pure rfl)|string=>(cases h<;>cases k<;>first|exact ab.stuck|exact ab.pure rfl)|int q=>(cases h with|int S w=>(cases k with|int I o=>exact ab.ite (λ_=>ab.pure rfl) λ_=>ab.stuck|ptr G=>(match w with|.ofNat 0=>exact ab.pure rfl|.ofNat (_+1)=>exact ab.unsupported|.negSucc _=>exact ab.unsupported)|_=>first|exact ab.stuck|exact ab.unsupported)|ptr N=>(cases k with|int I o=>(match o with|.ofNat 0=>exact ab.pure rfl|.ofNat (_+1)=>exact ab.unsupported|.negSucc _=>exact ab.unsupported)|ptr G=>refine ab.bind (ab.behindNumber N) λr2 x x' C g=>ab.bind (ab.behindNumber (G.mono C)) λr3 y y' D l=>?_;refine ab.known λR n=>?_;have g:=g.1.mono D;have l:=l.1;refine ab.bind (ab.eW bW) λr4 p B E v=>?_;obtain⟨rfl,rfl⟩:=v;by_cases f:x.1.block=y.1.block;(case neg=>have w:(x.1.block==y.1.block)=Xj:=beq_eq_false_iff_ne.2 f;(have o:(x.1==y.1)=Xj:=by grind);simp only[w,o,VJ,Vk,if_false];refine ab.never (dq (de t).x5 λi=>?_);split<;>exact ek);have O:=vb g l f;(have K:(x'.1.block==y'.1.block)=(x.1.block==y.1.block):=by simp_all);by_cases e:x.1.block<c.aL;(case neg=>(have T:decide (x.1.block<B.globals.size)=Xj:=by rw[decide_eq_false_iff_not,<-H.aL];exact e);simp only[T,Bool.and_false,Vk,if_false];refine ab.never (Ae (jM t) λi n=>?_);unfold M5 at j;rw[n]at j;split;{simp_all};exact ek);(have L:decide (x'.1.block<B.globals.size)=decide (x.1.block<B.globals.size):=by rw[decide_eq_decide,<-H.aL];exact⟨λ_=>e,λ_=>uS R g e⟩);(have M:(x'.1==y'.1)=(x.1==y.1):=by obtain⟨⟨xb,xo,xs⟩,_⟩:=x;obtain⟨⟨V,W,X⟩,_⟩:=x';obtain⟨⟨yb,yo,ys⟩,_⟩:=y;obtain⟨⟨Y,Z,ys'⟩,_⟩:=y';obtain⟨s,C,D,-⟩:=g;obtain⟨S,I,k3,-⟩:=l;grind);simp only[K,L,M];refine ab.ite (λe=>?_) λ_=>?_;{(have e:x.1.block<c.aL:=by assumption);exact ab.bind (ab.byteOf (g.mono E) (.inr e)) λU u u' F Q=>ab.bind (ab.byteOf ((l.mono E).mono F) (.inr (f▸e))) λr6 z J h6 m=>ab.pure (by rw[Q,m])};refine ab.bind (ab.cC (de t)) λU i i' F n=>?_;subst n;refine(ab.cC ?_);(split<;>first|exact rfl|(split<;>first|trivial|exact rfl))|_=>exact ab.unsupported)|gm=>cases k<;>exact ab.unsupported|_=>cases k<;>first|exact ab.stuck|exact ab.unsupported)|_=>simp at j
theorem ab.eqGuard{o2:XS}(b:∀z,x≠.agg z)(a:x≠.nilIface)(h:ai c r x x'):ab P c r (eqGuard op t o1 o2 x y) (eqGuard op t o1 o2 x' y') λ_ _ _=>True:=by refine ab.ite (λ_=>ab.pure trivial) λ_=>?_;cases h<;>first|exact absurd rfl a|exact absurd rfl (b _)|exact ab.pure trivial
theorem j1{d:TypeDesc}(h:P.underlying t=Xn d)(w:Xz):(underlying t).run P w=.ok d w:=by unfold underlying;simp_all
theorem Ap(a:fe P t=Xs)(e:(∃z,x=.agg z)\/x=.nilIface):kO P (Op.equal t x y):=by intro w;show∃k f,(Op.equalIn (9999+1) t x y).run P w=.halt k f/\_;unfold Op.equalIn;unfold fe at a;cases b:P.underlying t with|none=>simp_all|some z=>rw[b]at a;rw[XT.run_bind,j1 b];rcases e with⟨q,rfl⟩|rfl<;>cases z<;>first|(simp at a;done)|exact⟨_,_,rfl,rfl⟩|(cases y<;>exact⟨_,_,rfl,rfl⟩)
end
def BA:Xv->Bool
 |.int ..|.string ..|.pointer ..|.float ..|.complex ..=>Xj
 |_=>Xs
set_option maxHeartbeats 4000000 in theorem Ad(a:BinOp)(t:XG)(x y:Xv)(b:¬(a=.eql\/a=.neq))(c:BA x=Xs):∃h:Halt,binOp a t x y=.halt h/\AL h=Xs:=by(cases a<;>first|exact absurd (.inl rfl) b|exact absurd (.inr rfl) b|skip);all_goals(cases x<;>first|(simp[BA]at c;done)|skip);all_goals(cases y<;>exact⟨_,rfl,rfl⟩)
section
variable{c:dW}{r:bQ}
theorem py(a:fe P t=Xs)(n:Nat):P.eqGuardType (n+1) t=Xj:=by unfold fe at a;unfold XI.eqGuardType;grind
theorem wP{o2:XS}(l:fe P t=Xs)(m:(∃z,x=.agg z)\/x=.nilIface):gh P (eqGuard op t o1 o2 x y):=by
 have a:∀n:Nat,gh P (Op.eqGuardIn (n+1) t .nilIface .nilIface):=λn=>by
  unfold Op.eqGuardIn
  exact gh.bind (aE t).x5 λd=>by cases d<;>exact di _
 have g:gh P (match x,y with
  |.nilIface,.nilIface=>(do
    if(o1 matches .const _)||(o2 matches .const _)then return
    if<-Op.eqGuardIn Op.maxDepth t x y then unsupported (.noEntry "binop/eql: two nil values of an interface type with methods, neither of them the literal nil"):XT Unit)
  |.agg _,.agg _=>(do
    if !(<-program).eqGuardType (<-program).depth t then return
    if<-Op.eqGuardIn Op.maxDepth t x y then unsupported (.noEntry "binop/eql: two nil values of an interface type with methods, in a part of a struct or an array"):XT Unit)
  |_,_=>pure ()):=by
  rcases m with⟨z,rfl⟩|rfl
  ·cases y with
    |agg u=>
      refine bY.x5 (q:=λ_=>True) (bY.bind bW λp k=>bY.bind bW λj f=>?_)
      subst k f
      rw[show j.eqGuardType j.depth t=Xj from py l _]
      exact trivial
    |_=>exact di _
  ·cases y with
    |nilIface=>
      by_cases i:((match o1 with|.const _=>Xs|_=>Xj)||(match o2 with|.const _=>Xs|_=>Xj))=Xs
      ·simp only[i,if_true];exact di _
      · simp only[i,if_false,Vk]
        exact gh.bind (a 9999) λb=>by
         cases b
         ·exact di _
         ·exactλw h o e=>by cases e;rfl
    |_=>exact di _
 cases op<;>first|exact g|exact di _
set_option maxHeartbeats 1000000 in theorem D2{o2:XS}(hc:Fits P c)(ht:(op=.eql\/op=.neq)->fe P t=Xs)(h:ai c r x x')(k:ai c r y y'):ab P c r (do eqGuard op t o1 o2 x y;binOp op t x y) (do eqGuard op t o1 o2 x' y';binOp op t x' y') (ai c):=by by_cases he:op=.eql\/op=.neq;{have ht:=ht he;by_cases hx:(∃z,x=.agg z)\/x=.nilIface;{refine ab.never (dq (wP ht hx) λ_=>?_);have:∀f:Bool->XT Xv,kO P (Op.equal t x y>>=f):=λf=>gz (Ap (P:=P) (y:=y) ht hx);rcases hx with⟨z,rfl⟩|rfl<;>rcases he with rfl|rfl<;>(cases y<;>exact this _)};(have heq:∀{r:bQ},ai c r x x'->ai c r y y'->ab P c r (binOp op t x y) (binOp op t x' y') (ai c):=by intro r h k;have key:=ab.equal hc ht h k;cases h with|int k1 n1=>(cases k with|int k2 n2=>exact ab.flat (mC _ _ _ _ _ _)|_=>rcases he with rfl|rfl<;>exact ab.bind key λ_ _ _ _ e=>by subst e;exact ab.pure (.bool _))|string s1=>(cases k with|string s2=>exact ab.flat (jY _ _ _ _)|_=>rcases he with rfl|rfl<;>exact ab.bind key λ_ _ _ _ e=>by subst e;exact ab.pure (.bool _))|_=>rcases he with rfl|rfl<;>exact ab.bind key λ_ _ _ _ e=>by subst e;exact ab.pure (.bool _));exact ab.bind (ab.eqGuard (λz e=>hx (.inl ⟨z,e⟩)) (λe=>hx (.inr e)) h) λr1 _ _ h1 _=>heq (h.mono h1) (k.mono h1)};(have e0:∀x y:Xv,(do eqGuard op t o1 o2 x y;binOp op t x y)=binOp op t x y:=by intro x y;cases op<;>first|rfl|exact absurd (.inl rfl) he|exact absurd (.inr rfl) he);rw[e0,e0];clear e0;by_cases hx:BA x=Xs;{obtain⟨h',e,hh⟩:=Ad op t x y he hx;rw[e];exact ab.halt hh};cases h with|int k1 n1=>(cases k with|int k2 n2=>exact ab.flat (mC _ _ _ _ _ _)|ptr hb=>(cases op<;>first|exact ab.unsupported|exact absurd (.inl rfl) he|exact absurd (.inr rfl) he|exact ab.movedNumber hc (.ptr hb) (.int _ _)|exact ab.bind (ab.behindNumber hb) λr1 z z' h1 hz=>ab.addrMod hc hz.1)|gm=>(cases op<;>first|exact ab.unsupported|exact absurd (.inl rfl) he|exact absurd (.inr rfl) he|exact ab.movedNumber hc .gm (.int _ _))|_=>cases op<;>first|exact ab.stuck|exact absurd (.inl rfl) he|exact absurd (.inr rfl) he)|string s1=>(cases k with|string s2=>exact ab.flat (jY _ _ _ _)|_=>cases op<;>first|exact ab.stuck|exact ab.unsupported|exact absurd (.inl rfl) he|exact absurd (.inr rfl) he)|ptr ha=>(cases k with|int k2 n2=>(cases op<;>first|exact ab.unsupported|exact absurd (.inl rfl) he|exact absurd (.inr rfl) he|exact ab.movedNumber hc (.ptr ha) (.int _ _)|exact ab.bind (ab.behindNumber ha) λr1 z z' h1 hz=>ab.addrMod hc hz.1|(refine ab.bind (ab.cC (aE t)) λr1 d d' h1 hd=>?_;subst hd;exact ab.ite (λ_=>ab.movedPointer hc (.ptr (ha.mono h1)) (.int _ _)) λ_=>ab.movedNumber hc (.ptr (ha.mono h1)) (.int _ _)))|ptr hb=>(cases op<;>first|exact ab.unsupported|exact absurd (.inl rfl) he|exact absurd (.inr rfl) he|exact ab.bind (ab.behindNumber ha) λr1 z z' h1 hz=>ab.bind (ab.behindNumber (hb.mono h1)) λr2 u u' h2 hu=>ab.addrSub hc (hz.1.mono h2) hu.1|exact ab.bind (ab.behindNumber ha) λr1 z z' h1 hz=>ab.bind (ab.behindNumber (hb.mono h1)) λr2 u u' h2 hu=>ab.addrCmp hc (hz.1.mono h2) hu.1)|_=>cases op<;>first|exact ab.stuck|exact ab.unsupported|exact absurd (.inl rfl) he|exact absurd (.inr rfl) he)|gm=>(cases k with|int k2 n2=>(cases op<;>first|exact ab.unsupported|exact absurd (.inl rfl) he|exact absurd (.inr rfl) he|exact ab.movedNumber hc .gm (.int _ _)|(refine ab.bind (ab.cC (aE t)) λr1 d d' h1 hd=>?_;subst hd;exact ab.ite (λ_=>ab.movedPointer hc .gm (.int _ _)) λ_=>ab.movedNumber hc .gm (.int _ _)))|_=>cases op<;>first|exact ab.stuck|exact ab.unsupported|exact absurd (.inl rfl) he|exact absurd (.inr rfl) he)|_=>exact absurd rfl hx
end
section
variable{c:dW}{r:bQ}
theorem aZ(t:XG):bY P (λd=>P.underlying t=Xn d) (underlying t):=by refine bY.bind bW λp a=>?_;subst a;cases h:p.underlying t with|none=>exact rfl|some i=>exact rfl
theorem wB(t:XG):bY P (λn=>P.cellsOf t=n) (sizeOf t):=by refine bY.bind (jM t) λi a=>?_;show P.cellsOf t=i.size;unfold XI.cellsOf;grind
theorem Bu(t:XG)(h:ai c r x x'):ab P c r (Instr.loadAt t x) (Instr.loadAt t x') (ai c):=ab.bind (ab.sureAddr h) λ_ _ _ _ b=>ab.loadVar t b
theorem yc(t:XG)(h:ai c r x x')(k:ai c r y y'):ab P c r (Instr.storeAt t x y) (Instr.storeAt t x' y') λ_ _ _=>True:=ab.bind (ab.sureAddr h) λ_ _ _ b d=>ab.storeVar t d (k.mono b)
theorem ED{op:UnOp}(h:ai c r x x'):ab P c r (Op.unary op x) (Op.unary op x') (ai c):=by cases h with|bool b=>(cases op<;>first|exact ab.pure (.bool _)|exact ab.stuck)|int k n=>(cases op with|neg=>exact ab.flat (nU .sub k 0 n)|xor=>exact ab.flat (pZ .xor k (if k.signed then-1 else k.max) n)|_=>exact ab.stuck)|ptr a=>(cases op<;>first|exact ab.unsupported|exact ab.stuck)|_=>cases op<;>exact ab.stuck
theorem Ag(n:Nat)(h:ai c r x x'):ab P c r (Instr.extract x n) (Instr.extract x' n) (ai c):=by cases h with|tuple s e=>rename_i z f;unfold Instr.extract;(cases b:z[n]? with|none=>simp only[b];exact ab.stuck|some v=>obtain⟨g,d,k⟩:=(ak.mk s e).get b;simp only[b,d];exact ab.pure k)|_=>exact ab.stuck
theorem xZ(s:XG)(n:Nat)(u:∀fs f,P.underlying s=Xn (.struct fs)->fs[n]?=Xn f->P.cellsOf f.type≠0)(h:ai c r x x'):ab P c r (Instr.fieldAt s x n) (Instr.fieldAt s x' n) (ai c):=by refine ab.bind (ab.eW (aZ s)) λz d k l e=>?_;obtain⟨rfl,e⟩:=e;cases k with|struct fs=>simp only[];(cases t:fs[n]? with|none=>exact ab.stuck|some f=>refine ab.bind (ab.sureAddr (h.mono l)) λv a j w p=>?_;(have i:ab P c v (fieldPlace a f) (fieldPlace j f) (c7 c):=by refine ab.bind (ab.eW (wB f.type)) λA m y o g=>?_;obtain⟨rfl,g⟩:=g;have:=u fs f e t;rw[g]at this;rw[if_neg this,if_neg this];exact ab.pure ((p.mono o).add _));exact ab.bind i λ_ _ _ _ q=>ab.pure (.ptr q))|_=>exact ab.stuck
theorem D7(t:XG)(n:Nat)(h:ai c r x x'):ab P c r (Instr.field t x n) (Instr.field t x' n) (ai c):=by refine ab.bind (ab.cC (aE t)) λl d b g j=>?_;subst j;cases b with|struct e=>simp only[];(cases k:e[n]? with|none=>exact ab.stuck|some f=>exact ab.bind (ab.asAgg (h.mono g)) λ_ _ _ _ i=>ab.part _ _ i)|_=>exact ab.stuck
theorem Ej(t:XG)(h:ai c r x x')(k:ai c r y y'):ab P c r (Instr.index t x y) (Instr.index t x' y') (ai c):=by refine ab.bind (ab.asIntOf k) λB z v j q=>?_;subst q;obtain⟨w,i⟩:=v;refine ab.bind (ab.cC (aE t)) λC d g l o=>?_;subst o;have h:=(h.mono j).mono l;cases h with|agg s e=>(cases g with|array u f=>refine ab.ite (λ_=>?_) λ_=>ab.boundsPanic;exact ab.bind (ab.cC (bD f)) λD m A n p=>by subst p;exact ab.part _ _ ((ak.mk s e).mono n)|_=>exact ab.stuck)|string s=>(cases g with|string=>simp only[];(cases(if 0<=i then s[i.toNat]? else Xw)with|none=>exact ab.boundsPanic|some b=>exact ab.pure (.int _ _))|_=>exact ab.stuck)|_=>cases g<;>exact ab.stuck
theorem yZ(t:XG)(h:ai c r x x')(k:ai c r y y'):ab P c r (Instr.indexAt t x y) (Instr.indexAt t x' y') (ai c):=by unfold Instr.indexAt;refine ab.bind (ab.asIntOf k) λY z V N T=>?_;subst T;obtain⟨X,i⟩:=V;refine ab.bind (ab.cC (aE t)) λZ d M O R=>?_;subst R;have h:=(h.mono N).mono O;let F(U:bQ)(a b:Option X7×Nat×XG):Prop:=ai c U (.pointer a.1) (.pointer b.1)/\b.2=a.2;cases M with|array B f=>refine ab.bind (ab.sureAddr h) λr3 a I W v=>ab.bind (Q:=F) (ab.pure ⟨.ptr v,rfl⟩) λC a b s q=>?_;obtain⟨w,B,f⟩:=a;obtain⟨o,l⟩:=b;obtain⟨g,e⟩:=q;simp only at e g;subst e;refine ab.bind (ab.cC (x:=underlying t) (aE t)) λC u H s A=>?_;subst A;have g:=g.mono s;(cases g with|gm=>exact ab.boundsPanic|ptr v=>refine ab.ite (λ_=>?_) λ_=>?_;{exact ab.bind (ab.cC (bD f)) λL m J D E=>by subst E;exact ab.pure (.ptr ((v.mono D).add _))};exact ab.ite (λ_ _ _ _=>rfl) λ_=>ab.boundsPanic)|slice f=>(cases h with|ig n m=>refine ab.bind (Q:=F) (ab.pure ⟨.gm,rfl⟩) λC a b s q=>?_;obtain⟨w,B,f⟩:=a;obtain⟨o,l⟩:=b;obtain⟨g,e⟩:=q;simp only at e g;subst e;refine ab.bind (ab.cC (x:=underlying t) (aE t)) λC u H s A=>?_;subst A;have g:=g.mono s;(cases g with|gm=>exact ab.boundsPanic|ptr v=>refine ab.ite (λ_=>?_) λ_=>?_;{exact ab.bind (ab.cC (bD f)) λL m J D E=>by subst E;exact ab.pure (.ptr ((v.mono D).add _))};exact ab.ite (λ_ _ _ _=>rfl) λ_=>ab.boundsPanic)|slice n m v=>refine ab.bind (Q:=F) (ab.pure ⟨.ptr v,rfl⟩) λC a b s q=>?_;obtain⟨w,B,f⟩:=a;obtain⟨o,l⟩:=b;obtain⟨g,e⟩:=q;simp only at e g;subst e;refine ab.bind (ab.cC (x:=underlying t) (aE t)) λC u H s A=>?_;subst A;have g:=g.mono s;(cases g with|gm=>exact ab.boundsPanic|ptr v=>refine ab.ite (λ_=>?_) λ_=>?_;{exact ab.bind (ab.cC (bD f)) λL m J D E=>by subst E;exact ab.pure (.ptr ((v.mono D).add _))};exact ab.ite (λ_ _ _ _=>rfl) λ_=>ab.boundsPanic)|cO a I=>refine ab.bind (Q:=λ_ p K=>p=(Xn a,0,f)/\K=(Xn I,0,f)) (ab.pure ⟨rfl,rfl⟩) λC p K s S=>?_;obtain⟨rfl,rfl⟩:=S;refine ab.bind (ab.cC (x:=underlying t) (aE t)) λC u H s A=>?_;subst A;refine ab.ite (λG=>?_) λ_=>ab.ite (λ_ _ _ _=>rfl) λ_=>ab.boundsPanic;simp at G;omega|_=>exactλ_ _ _=>rfl)|_=>cases h<;>exactλ_ _ _=>rfl
theorem xp{fn:Fn}(b:E8 c fn=Xs){x x' y y':Array Xv}(h:ak c r x x')(k:ak c r y y'):ab P c r (Instr.makeFunc fn x y) (Instr.makeFunc fn x' y') (ai c):=ab.pure (.func b h.size h.el k.size k.el)
theorem ab.sliceBound(y:Nat)(e:BoundsCode)(h:ai c r x x'):ab P c r (Instr.sliceBound x y e) (Instr.sliceBound x' y e) λ_ a b=>b=a/\a<=y:=by refine ab.bind (ab.asIntOf h) λj z k g f=>?_;subst f;exact ab.ite (λi=>ab.pure ⟨rfl,by omega⟩) λ_=>ab.boundsPanic
def j2(c:dW)(r:bQ):Option Xv->Option Xv->Prop
 |none,Xw=>True
 |some x,Xn y=>ai c r x y
 |_,_=>False
theorem j2.mono{r r':bQ}(h:r.le r'):∀{x y:Option Xv},j2 c r x y->j2 c r' x y|none,Xw,_=>trivial|some _,Xn _,k=>ai.mono h k
theorem ab.sliceBounds(f:Bool)(k j:Nat){mx:Option Xv}(i:j2 c r lo lo')(m:j2 c r hi hi')(s:j2 c r mx mx'):ab P c r (Instr.sliceBounds f k j lo hi mx) (Instr.sliceBounds f k j lo' hi' mx') λ_ a b=>b=a/\(k=0->j=0->a=(0,0,0)):=by match mx,mx',s with|none,Xw,_=>refine ab.bind (Q:=λ_ a b=>b=a/\a<=_) (ab.pure ⟨rfl,UH _⟩) λy z h l e=>?_;obtain⟨rfl,x⟩:=e;(match hi,hi',m with|none,Xw,_=>refine ab.bind (Q:=λ_ a b=>b=a/\a<=_) (ab.pure ⟨rfl,UH _⟩) λv z h o e=>?_;obtain⟨rfl,u⟩:=e;(match lo,lo',i with|none,Xw,_=>refine ab.bind (Q:=λ_ a b=>b=a/\a<=_) (ab.pure ⟨rfl,UH _⟩) λq z h p e=>?_;obtain⟨rfl,n⟩:=e;exact ab.pure ⟨rfl,λa b=>by simp_all⟩|some a,Xn t,i=>refine ab.bind (ab.sliceBound _ _ (ai.mono o (ai.mono l i))) λq z h p e=>?_;obtain⟨rfl,n⟩:=e;exact ab.pure ⟨rfl,λa b=>by simp_all⟩)|some b,Xn w,m=>refine ab.bind (ab.sliceBound _ _ (ai.mono l m)) λv z h o e=>?_;obtain⟨rfl,u⟩:=e;match lo,lo',i with|none,Xw,_=>refine ab.bind (Q:=λ_ a b=>b=a/\a<=_) (ab.pure ⟨rfl,UH _⟩) λq z h p e=>?_;obtain⟨rfl,n⟩:=e;exact ab.pure ⟨rfl,λa b=>by simp_all⟩|some a,Xn t,i=>refine ab.bind (ab.sliceBound _ _ (ai.mono o (ai.mono l i))) λq z h p e=>?_;obtain⟨rfl,n⟩:=e;exact ab.pure ⟨rfl,λa b=>by simp_all⟩)|some d,Xn A,s=>refine ab.bind (ab.sliceBound _ _ s) λy z h l e=>?_;obtain⟨rfl,x⟩:=e;match hi,hi',m with|none,Xw,_=>exactλ_ _ _=>rfl|some b,Xn w,m=>refine ab.bind (ab.sliceBound _ _ (ai.mono l m)) λv z h o e=>?_;obtain⟨rfl,u⟩:=e;match lo,lo',i with|none,Xw,_=>refine ab.bind (Q:=λ_ a b=>b=a/\a<=_) (ab.pure ⟨rfl,UH _⟩) λq z h p e=>?_;obtain⟨rfl,n⟩:=e;exact ab.pure ⟨rfl,λa b=>by simp_all⟩|some a,Xn t,i=>refine ab.bind (ab.sliceBound _ _ (ai.mono o (ai.mono l i))) λq z h p e=>?_;obtain⟨rfl,n⟩:=e;exact ab.pure ⟨rfl,λa b=>by simp_all⟩
theorem Ed(t:XG){mx:Option Xv}(h:ai c r x x')(k:j2 c r lo lo')(o:j2 c r hi hi')(p:j2 c r mx mx'):ab P c r (Instr.slice t x lo hi mx) (Instr.slice t x' lo' hi' mx') (ai c):=by unfold Instr.slice;refine ab.bind (ab.cC (aE t)) λK d y v A=>?_;subst A;have h:=h.mono v;have k:=k.mono v;have o:=o.mono v;have p:=p.mono v;(have J:mx'.isSome=mx.isSome:=by match mx,mx',p with|none,Xw,_=>rfl|some _,Xn _,_=>rfl);cases y with|string=>(cases h with|string s=>simp only[J];refine ab.ite (λ_ _ _ _=>rfl) λ_=>?_;exact ab.bind (ab.sliceBounds _ _ _ k o (show j2 c K Xw Xw from trivial)) λ_ _ _ _ e=>by obtain⟨rfl,_⟩:=e;exact ab.pure (.string _)|_=>exact ab.stuck)|slice b=>(cases h with|ig n m=>refine ab.bind (ab.sliceBounds _ _ _ k o p) λC z u j e=>?_;obtain⟨rfl,_⟩:=e;refine ab.bind (ab.cC (bD b)) λD q B i e=>?_;subst e;refine ab.pure ?_;split<;>exact .ig _ _|slice n m g=>refine ab.bind (ab.sliceBounds _ _ _ k o p) λC z u j e=>?_;obtain⟨rfl,_⟩:=e;refine ab.bind (ab.cC (bD b)) λD q B i e=>?_;subst e;refine ab.pure ?_;have g:=(g.mono j).mono i;split;{exact .slice _ _ g};exact .slice _ _ (g.add _)|cO a G=>refine ab.bind (ab.sliceBounds _ _ _ k o p) λC z u j e=>?_;obtain⟨rfl,e⟩:=e;obtain rfl:=e rfl rfl;refine ab.bind (ab.cC (bD b)) λD q B i e=>?_;subst e;refine ab.pure ?_;split<;>exact .cO _ _|_=>exact ab.stuck)|pointer w=>refine ab.bind (ab.asAddr h) λC a G j g=>?_;refine ab.bind (ab.cC (aE w)) λD d y i A=>?_;subst A;(cases y with|array n b=>refine ab.bind (ab.sliceBounds _ _ _ ((k.mono j).mono i) ((o.mono j).mono i) ((p.mono j).mono i)) λL z u H e=>?_;obtain⟨rfl,_⟩:=e;refine ab.bind (ab.cC (bD b)) λM q B I e=>?_;obtain⟨rfl,_⟩:=e;refine ab.pure ?_;have g:=((g.mono i).mono H).mono I;split;{exact .slice _ _ g};exact .slice _ _ (g.add _)|_=>exact ab.stuck)|_=>cases h<;>exact ab.stuck
theorem zB(t:XG){mx:Option Xv}(h:ai c r x x')(m:j2 c r lo lo')(o:j2 c r hi hi')(p:j2 c r mx mx'):ab P c r (Instr.sliceAt t x lo hi mx) (Instr.sliceAt t x' lo' hi' mx') (ai c):=by refine ab.bind (ab.cC (aE t)) λE d s f w=>?_;subst w;have k:=Ed (P:=P) t (h.mono f) (m.mono f) (o.mono f) (p.mono f);cases s with|array n g=>refine ab.bind (ab.sureAddr (h.mono f)) λF a A j i=>?_;refine ab.bind (ab.sliceBounds _ _ _ ((m.mono f).mono j) ((o.mono f).mono j) ((p.mono f).mono j)) λG z y u e=>?_;obtain⟨rfl,_⟩:=e;refine ab.bind (ab.cC (bD g)) λH q D v e=>?_;subst e;refine ab.pure ?_;have i:=(i.mono u).mono v;split;{exact .slice _ _ i};exact .slice _ _ (i.add _)|_=>exact k
end
section
variable{c:dW}{r:bQ}
def jC(P:XI)(t:XG):Bool:=match(P.info? t).bind (·.zero)with|some z=>jL 100 z|none=>Xs
theorem vv(h:jC P t=Xs):∀z,(P.info? t).bind (·.zero)=Xn z->Flat z:=λz a=>by unfold jC at h;rw[a]at h;exact iy h
theorem Flat.vs(h:Flat z)(c:dW)(r:bQ):ak c r z.cells z.cells:=ak.cells (h c r)
theorem ab.zero(h:jC P t=Xs):ab P c r (zeroValue t) (zeroValue t) λ_ a b=>b=a/\Flat a:=ab.eW (tL t (vv h))
theorem B4(h:jC P t=Xs):ab P c r (Instr.alloc t Xs (.tuple #[])) (Instr.alloc t Xs (.tuple #[])) (ai c):=D5 t (vv h)
structure BP(c:dW)(r:bQ)(x x':Array (Nat×Xv)):Prop where
 idx:x.toList.map (·.1)=x'.toList.map (·.1)
 val:ak c r (x.toList.map (·.2)).toArray (x'.toList.map (·.2)).toArray
theorem BP.mono{r r':bQ}(h:r.le r'){x x':Array (Nat×Xv)}(k:BP c r x x'):BP c r' x x':=⟨k.idx,k.val.mono h⟩
theorem lg(a:Nat->Option (Nat×Nat)){x x':Array (Nat×Xv)}(h:BP c r x x'){z z':Array Xv}(e:ak c r z z'):Instr.fill a z x.toList=Option.none\/∃y d,Instr.fill a z x.toList=Xn y/\Instr.fill a z' x'.toList=Xn d/\ak c r y d:=by have:=yN a x.toList x'.toList e h.idx h.val;grind
theorem EA(l:List ε)(f:ε->XT ζ)(h:∀x∈l,lJ P (f x)):lJ P (l.mapM f):=by induction l with|nil=>trivial|cons x l b=>rw[List.mapM_cons];exact(h x Θ).bind λ_=>(b λy a=>h y (by simp[a])).bind λ_=>trivial
theorem Bo(l:Array ε)(f:ε->XT ζ)(h:∀x∈l,lJ P (f x)):lJ P (l.mapM f):=by rw[Array.mapM_eq_mapM_toList];exact lJ.bind (EA _ _ λx a=>h x (by simp_all)) λ_=>trivial
theorem Ek(B:jC P t=Xs){x x':Array (Nat×Xv)}(h:BP c r x x'):ab P c r (Instr.build t x) (Instr.build t x') (ai c):=by unfold Instr.build;refine ab.bind (ab.zero B) λD z F q g=>?_;obtain⟨rfl,g⟩:=g;refine ab.bind (ab.cC (aE t)) λE d v s A=>?_;subst A;cases v with|struct w=>refine ab.bind (ab.cC (Bo w _ λf _=>(bD f.type).bind λ_=>trivial)) λp u j m o=>?_;subst o;rcases lg (j[·]?) (((h.mono q).mono s).mono m) (g.vs c p)with e|⟨y,C,e,l,k⟩;{simp only[e];exact ab.stuck};simp only[e,l];exact ab.pure (.tA k)|array n b=>refine ab.bind (ab.cC (bD b)) λp u j m o=>?_;subst o;rcases lg (λi=>Xn (i*j,j)) (((h.mono q).mono s).mono m) (g.vs c p)with e|⟨y,C,e,l,k⟩;{simp only[e];exact ab.stuck};simp only[e,l];exact ab.pure (.tA k)|_=>exact ab.stuck
theorem ak.range{x x':Array Xv}(h:ak c r x x')(n:Nat):ak c r ((Array.range n).map (x[·%x.size]!)) ((Array.range n).map (x'[·%x'.size]!)):=by refine ak.map _ _ _ λi _=>?_;rw[<-h.size];rw[XU,XU];exact h.getD _ (by exact .bool Xj)
theorem uk(E:∀e,P.underlying t=Xn (.slice e)->jC P e=Xs){x x':Array (Nat×Xv)}(h:BP c r x x'):ab P c r (Instr.buildSlice t n x) (Instr.buildSlice t n x') (ai c):=by unfold Instr.buildSlice;refine ab.bind (ab.eW (aZ t)) λH d B u s=>?_;obtain⟨rfl,s⟩:=s;cases B with|slice l=>refine ab.bind (ab.cC (bD l)) λI m j v D=>?_;subst D;refine ab.ite (λ_ _ _ _=>rfl) λ_=>?_;refine ab.ite (λ_=>?_) λ_=>?_;{refine ab.bind (Q:=λ_ a b=>b=a/\∀r,ak c r a a) (ab.pure ⟨rfl,λ_=>.empty⟩) λw z A p g=>?_;obtain⟨rfl,g⟩:=g;rcases lg (λi=>Xn (i*j,j)) (((h.mono u).mono v).mono p) (ak.range (g w) (n*j))with e|⟨y,G,e,o,k⟩;{simp only[e];exact ab.stuck};simp only[e,o];exact ab.bind (ab.newRow k) λ_ _ _ _ q=>ab.pure (.slice _ _ q)};refine ab.bind (ab.zero (E _ s)) λw z A p g=>?_;obtain⟨rfl,g⟩:=g;refine ab.bind (Q:=λ_ a b=>b=a/\∀r,ak c r a a) (ab.pure ⟨rfl,λr=>g.vs c r⟩) λF z A C g=>?_;obtain⟨rfl,g⟩:=g;rcases lg (λi=>Xn (i*j,j)) (((h.mono u).mono v).mono (bQ.le_trans p C)) (ak.range (g F) (n*j))with e|⟨y,G,e,o,k⟩;{simp only[e];exact ab.stuck};simp only[e,o];exact ab.bind (ab.newRow k) λ_ _ _ _ q=>ab.pure (.slice _ _ q)|_=>exact ab.stuck
theorem zX:ab P c r (Instr.makeMap t Xw) (Instr.makeMap t Xw) (ai c):=ab.bind (ab.newObj (.map 0 rfl λi e b h=>by simp at h)) λ_ _ _ _ h=>ab.pure (.map h.1)
theorem ab.mZ{f:α->XT β}{y:XT γ}{Q:bQ->β->γ->Prop}:ab P c r (Go.runtimePanic e>>=f) y Q:=ab.never (gz (du e))
theorem uK(C:∀e,P.underlying t=Xn (.slice e)->jC P e=Xs)(h:ai c r x x')(k:ai c r y y'):ab P c r (Instr.makeSlice t x y) (Instr.makeSlice t x' y') (ai c):=by unfold Instr.makeSlice;refine ab.bind (ab.eW (aZ t)) λN d s o m=>?_;obtain⟨rfl,m⟩:=m;cases s with|slice j=>refine ab.bind (ab.asInt (h.mono o)) λO a E u l=>?_;subst l;refine ab.bind (ab.asInt ((k.mono o).mono u)) λR b F G w=>?_;subst w;refine ab.bind (ab.cC (de j)) λS i L H A=>?_;subst A;simp only[];refine ab.ite (λ_=>?_) λ_=>?_;{refine ab.ite (λ_=>ab.mZ) λ_=>?_;refine ab.ite (λ_=>ab.mZ) λ_=>?_;exact ab.bind (ab.cC (iE _)) λ_ _ _ _ _=>ab.mZ};refine ab.bind (ab.cC (pR _)) λT _ _ I _=>?_;refine ab.bind (ab.cC (bD j)) λU n M J B=>?_;subst B;refine ab.ite (λ_=>?_) λ_=>?_;{refine ab.bind (Q:=λ_ a b=>b=a/\∀r,ak c r a a) (ab.pure ⟨rfl,λ_=>.empty⟩) λp z q v g=>?_;obtain⟨rfl,g⟩:=g;exact ab.bind (ab.newRow (ak.range (g p) _)) λ_ _ _ _ l=>ab.pure (.slice _ _ l)};refine ab.bind (ab.zero (C _ m)) λp z q v g=>?_;obtain⟨rfl,g⟩:=g;refine ab.bind (Q:=λ_ a b=>b=a/\∀r,ak c r a a) (ab.pure ⟨rfl,λr=>g.vs c r⟩) λD z q K g=>?_;obtain⟨rfl,g⟩:=g;exact ab.bind (ab.newRow (ak.range (g D) _)) λ_ _ _ _ l=>ab.pure (.slice _ _ l)|_=>exact ab.stuck
end
section
variable{c:dW}{r:bQ}
theorem JU(ats:Array XG)(t:XG){x x':Array Xv}(h:ak c r x x'):ab P c r (XV.len_ ats t x) (XV.len_ ats t x') (ai c):=by unfold XV.len_;cases ats[0]? with|none=>exact ab.stuck|some s=>cases w:x[0]? with|none=>exact ab.stuck|some v=>obtain⟨D,e,k⟩:=h.get w;simp only[e];refine ab.bind (ab.cC (aE s)) λB d g i j=>?_;subst j;have k:=k.mono i;cases g with|string=>(cases k<;>first|exact ab.pure (.int _ _)|exact ab.stuck)|array n e=>exact ab.pure (.int _ _)|pointer f=>refine ab.bind (ab.cC (aE f)) λC u y z q=>?_;subst q;(cases y<;>first|exact ab.pure (.int _ _)|exact ab.stuck)|slice e=>(cases k<;>first|exact ab.pure (.int _ _)|exact ab.stuck)|map a b=>(cases k with|kK=>exact ab.pure (.int _ _)|map p=>refine ab.getObj p λo A _ m l=>?_;(cases m with|map k s _=>simp only[s];exact ab.pure (.int _ _)|cells _ _ _=>exact absurd rfl (l _ _ _)|_=>exact ab.stuck)|_=>exact ab.stuck)|chan a b=>cases k<;>exact ab.stuck|_=>exact ab.stuck
theorem ab.max2(h:ai c r x x')(k:ai c r y y'):ab P c r (XV.max2 x y) (XV.max2 x' y') (ai c):=by cases h with|int a b=>(cases k<;>first|exact ab.pure (.int _ _)|exact ab.stuck|exact ab.unsupported)|string a=>(cases k with|string b=>refine ab.bind (ab.flat (kl .geq a b)) λi u l f d=>?_;exact ab.bind (ab.asBool d) λj z m g e=>by subst e;exact ab.pure (.string _)|ptr _=>exact ab.unsupported|_=>exact ab.stuck)|ptr _=>exact ab.unsupported|_=>cases k<;>first|exact ab.stuck|exact ab.unsupported
theorem ab.min2(h:ai c r x x')(k:ai c r y y'):ab P c r (XV.min2 x y) (XV.min2 x' y') (ai c):=by cases h with|int a b=>(cases k<;>first|exact ab.pure (.int _ _)|exact ab.stuck|exact ab.unsupported)|string a=>(cases k with|string b=>refine ab.bind (ab.flat (kl .leq a b)) λi u l f d=>?_;exact ab.bind (ab.asBool d) λj z m g e=>by subst e;exact ab.pure (.string _)|ptr _=>exact ab.unsupported|_=>exact ab.stuck)|ptr _=>exact ab.unsupported|_=>cases k<;>first|exact ab.stuck|exact ab.unsupported
theorem ab.foldlM{f:Xv->Xv->XT Xv}(g:∀{r:bQ}{x x' y y':Xv},ai c r x x'->ai c r y y'->ab P c r (f x y) (f x' y') (ai c)):∀(l e:List Xv){r:bQ}{x x':Xv},ai c r x x'->ak c r l.toArray e.toArray->ab P c r (l.foldlM f x) (e.foldlM f x') (ai c)|[],[],r,x,x',h,_=>ab.pure h|[],_::_,r,x,x',h,d=>by have:=d.size;grind|_::_,[],r,x,x',h,d=>by have:=d.size;grind|y::l,y'::e,r,x,x',h,d=>by rw[Xb,Xb];refine ab.bind (g h (d.el 0 y y' Θ Θ)) λn z o i k=>?_;exact ab.foldlM g l e k ((⟨by have:=d.size;simp_all,λj u m a b=>d.el (j+1) u m (by grind) (by grind)⟩:ak c r l.toArray e.toArray).mono i)
theorem LZ(ats:Array XG)(t:XG){x x':Array Xv}(h:ak c r x x'):ab P c r (XV.max_ ats t x) (XV.max_ ats t x') (ai c):=by obtain⟨l⟩:=x;obtain⟨d⟩:=x';unfold XV.max_;match l,d,h with|[],[],_=>exact ab.stuck|[],_::_,h=>have:=h.size;grind|_::_,[],h=>have:=h.size;grind|y::l,f::d,h=>exact ab.foldlM ab.max2 l d (h.el 0 y f Θ Θ) ⟨by have:=h.size;simp_all,λj u e a b=>h.el (j+1) u e (by grind) (by grind)⟩
theorem Ju(ats:Array XG)(t:XG){x x':Array Xv}(h:ak c r x x'):ab P c r (XV.min_ ats t x) (XV.min_ ats t x') (ai c):=by obtain⟨l⟩:=x;obtain⟨d⟩:=x';unfold XV.min_;match l,d,h with|[],[],_=>exact ab.stuck|[],_::_,h=>have:=h.size;grind|_::_,[],h=>have:=h.size;grind|y::l,f::d,h=>exact ab.foldlM ab.min2 l d (h.el 0 y f Θ Θ) ⟨by have:=h.size;simp_all,λj u e a b=>h.el (j+1) u e (by grind) (by grind)⟩
theorem ab.lenOf(h:ai c r x x'):ab P c r (XV.lenOf x) (XV.lenOf x') λ_ a b=>b=a/\∀q,x=.slice (Xn q) 0 0->a=0:=by cases h<;>first|exact ab.pure ⟨rfl,λq e=>by cases e;rfl⟩|exact ab.pure ⟨rfl,λq e=>by cases e⟩|exact ab.stuck
theorem ab.vL(size:Nat)(h:ai c r x x'):ab P c r (XV.firstCells size 0 x) (XV.firstCells size 0 x') λ_ a b=>a=#[]/\b=#[]:=by unfold XV.firstCells;rw[Nat.zero_mul];cases h<;>first|exact ab.pure ⟨rfl,rfl⟩|exact ab.stuck|(refine ab.pure ⟨?_,?_⟩<;>simp)
theorem ab.firstCells(size n:Nat)(h:ai c r x x')(j:∀q,x=.slice (Xn q) 0 0->n=0):ab P c r (XV.firstCells size n x) (XV.firstCells size n x') (ak c):=by cases h with|ig _ _=>exact ab.pure .empty|cO a d=>obtain rfl:=j a rfl;exact(ab.vL size (.cO a d)).mono λ_ x y _⟨e,f⟩=>by rw[e,f];exact .empty|slice _ _ g=>exact ab.loadCells g _|string s=>refine ab.pure ?_;refine⟨rfl,λi v k a b=>?_⟩;rw[a]at b;cases b;rw[VY]at a;obtain⟨z,_,rfl⟩:=UN.1 a;exact .int _ _|_=>exact ab.stuck
theorem ak.zeroCells(h:Flat z)(n:Nat):ak c r (XV.zeroCells z.cells n) (XV.zeroCells z.cells n):=by unfold XV.zeroCells;exact ak.range (h.vs c r) _
end
section
variable{c:dW}{r:bQ}
theorem ab.Gc{x:XT α}{f:α->XT β}{y:XT γ}{Q:bQ->β->γ->Prop}(h:kO P x):ab P c r (x>>=f) y Q:=ab.never (gz h)
theorem lU(a:X7)(n:Nat):gh P (XV.holdsCells a n):=(BW _).bind λs=>by cases s<;>exact di _
theorem uN(size sl n:Nat)(base:Option X7)(x:Xv):gh P (XV.mayShare size sl n base x):=by(have d:∀b:Bool,gh P (if(!b)=Xs then Pure.pure Xs else match x with|.slice (Xn b) _ _=>(do Pure.pure (!(<-XV.holdsCells b (n*size))||base.any (·.block==b.block)))|_=>Pure.pure Xj):=λb=>by split;{exact di _};split;{exact(lU _ _).bind λ_=>di _};exact di _);unfold XV.mayShare;cases base with|none=>grind|some a=>exact gh.bind (lU _ _) λu=>gh.bind (zA _) λv=>gh.bind (di _) λb=>d b
theorem B6{ats:Array XG}(ht:∀s e,ats[0]?=Xn s->P.underlying s=Xn (.slice e)->jC P e=Xs)(hn:∀s k,ats[1]?=Xn s->P.underlying s≠Xn (.int k)){x x':Array Xv}(h:ak c r x x'):ab P c r (XV.append_ ats t x) (XV.append_ ats t x') (ai c):=by unfold XV.append_;cases hs:ats[0]? with|none=>exact ab.stuck|some s=>cases hx:x[0]? with|none=>exact ab.stuck|some v=>obtain⟨v',X,kv⟩:=h.get hx;simp only[X];cases hy:x[1]? with|none=>exact ab.stuck|some u=>obtain⟨u',W,A⟩:=h.get hy;simp only[W];refine ab.bind (ab.eW (aZ s)) λR d M l H=>?_;obtain⟨rfl,H⟩:=H;cases M with|slice f=>have hz:=ht s f hs H;have O:=kv.mono l;have kx:=O;cases O;(case ig|slice|cO=>refine ab.bind (ab.cC (bD f)) λr2 T K B e=>?_;subst e;cases Z:ats[1]?;(case' some xt=>refine ab.bind (ab.eW (aZ xt)) λr0 d M Y w=>?_;obtain⟨rfl,w⟩:=w;replace B:=bQ.le_trans B Y);all_goals refine ab.bind (Q:=λ_ a b=>b=a/\a=Xj) (ab.pure ⟨rfl,by first|rfl|grind⟩) λr3 zs zs' N e=>?_;obtain⟨rfl,rfl⟩:=e;refine ab.bind (ab.lenOf ((A.mono l).mono (bQ.le_trans B N))) λr4 n n' h4 e=>?_;obtain⟨rfl,E⟩:=e;have j:R.le r4:=bQ.le_trans (bQ.le_trans B N) h4;refine ab.ite (λI=>?_) λ_=>?_;{first|exact ab.bind (ab.firstCells _ _ ((A.mono l).mono j) E) λJ z V m g=>ab.pure (.ig _ _)|exact ab.bind (ab.firstCells _ _ ((A.mono l).mono j) E) λJ z V m g=>ab.bind (ab.storeCells 0 ((c7.mono (bQ.le_trans j m) (by assumption)).add _) (by omega)) λS _ _ C _=>ab.pure (.slice _ _ (c7.mono (bQ.le_trans j (bQ.le_trans m C)) (by assumption)))|(obtain rfl:n'=0:=by omega);refine ab.bind (ab.vL _ ((A.mono l).mono j)) λJ z V m g=>?_;obtain⟨rfl,rfl⟩:=g;exact ab.bind (Q:=λ_ _ _=>True) (ab.pure trivial) λS _ _ C _=>ab.pure (.cO _ _)};·refine ab.bind (ab.cC (de f)) λJ i i' m e=>?_;subst e;refine ab.ite (λ_=>ab.mZ) λ_=>?_;refine ab.bind (ab.cC (de f)) λS i2 i2' C e=>?_;subst e;refine ab.ite (λ_=>ab.Gc (by simp only[Vk,if_false];exact dq (uN _ _ _ _ _) λ_=>by split<;>first|exact ek|exact dq (λ_ _ _ e=>by cases e) λ_=>ek)) λ_=>?_;refine ab.bind (ab.cC (iE _)) λr7 nc nc' h7 e=>?_;subst e;refine ab.bind (ab.cC (de f)) λr8 i3 i3' h8 e=>?_;subst e;refine ab.bind (ab.cC (pR _)) λr9 _ _ h9 _=>?_;have y:R.le r9:=bQ.le_trans j (bQ.le_trans m (bQ.le_trans C (bQ.le_trans h7 (bQ.le_trans h8 h9))));refine ab.bind (ab.firstCells _ _ (kx.mono y) (λq e=>by first|rfl|(cases e;done)|grind)) λr10 o o' F ho=>?_;refine ab.bind (ab.firstCells _ _ ((A.mono l).mono (bQ.le_trans y F)) E) λr11 q q' G hq=>?_;refine ab.bind (ab.zero hz) λr12 zz zz' p g=>?_;obtain⟨rfl,g⟩:=g;exact ab.bind (ab.newRow ((((ho.mono G).mono p).append (hq.mono p)).append (ak.zeroCells g _))) λ_ _ _ _ ha=>ab.pure (.slice _ _ ha));all_goals exact ab.stuck|_=>exact ab.stuck
theorem ab.checkKey(b g:Bool)(f:fe P t=Xs)(n:Nat):ab P c r (Instr.checkKey b (n+1) t x) (Instr.checkKey g (n+1) t x') λ_ _ _=>True:=by refine ab.bind (ab.eW (aZ t)) λj d h i e=>?_;obtain⟨rfl,e⟩:=e;unfold fe at f;rw[e]at f;cases h with|int k=>exact ab.pure trivial|string=>exact ab.pure trivial|bool=>exact ab.pure trivial|_=>simp at f
theorem x9(d:TypeDesc)(h:ai c r x x')(k:ai c r y y'):Instr.sameNow d x' y'=Instr.sameNow d x y:=by cases h<;>cases k<;>first|rfl|(cases d<;>rfl)
def lL(c:dW)(r:bQ)(x x':Array Ye):Prop:=x.size=x'.size/\∀(i:Nat)(e e':Ye),x[i]?=Xn e->x'[i]?=Xn e'->FJ c r e e'
theorem lL.mono{r r':bQ}(h:r.le r'){x x':Array Ye}(k:lL c r x x'):lL c r' x x':=⟨k.1,λi e d a b=>(k.2 i e d a b).mono h⟩
def KC(c:dW)(r:bQ):Option (Nat×Xv)->Option (Nat×Xv)->Prop
 |none,Xw=>True
 |some (i,v),Xn (i',v')=>i'=i/\ai c r v v'
 |_,_=>False
theorem qQ(d:TypeDesc)(h:ai c r x x'):∀(l m:List Ye)(i:Nat),lL c r l.toArray m.toArray->
 match Instr.findNow d x l i with|some z=>∃p,Instr.findNow d x' m i=Xn p/\KC c r z p|none=>Instr.findNow d x' m i=Xw
 |[],[],i,_=>⟨Xw,rfl,trivial⟩
 |[],_::_,_,k=>by have:=k.1;grind
 |_::_,[],_,k=>by have:=k.1;grind
 |e::l,q::m,i,k=>by
   have o:=k.2 0 e q Θ Θ
   have n:lL c r l.toArray m.toArray:=⟨by have:=k.1;simp_all,λj u s a b=>k.2 (j+1) u s (by grind) (by grind)⟩
   unfold Instr.findNow
   rw[x9 d h o.key]
   cases Instr.sameNow d x e.key with
   |none=>rfl
   |some b=>
     cases b with
     |true=>exact⟨_,rfl,rfl,o.val⟩
     |false=>exact qQ d h l m (i+1) n
theorem ab.findAsking(n:Fits P c)(p:fe P t=Xs):∀(l g:List Ye)(i:Nat){r:bQ}{x x':Xv},ai c r x x'->lL c r l.toArray g.toArray->ab P c r (Instr.findAsking t x l i) (Instr.findAsking t x' g i) (KC c)|[],[],i,r,x,x',h,_=>ab.pure trivial|[],_::_,_,r,x,x',h,f=>by have:=f.1;grind|_::_,[],_,r,x,x',h,f=>by have:=f.1;grind|e::l,q::g,i,r,x,x',h,f=>by have o:=f.2 0 e q Θ Θ;have m:lL c r l.toArray g.toArray:=⟨by have:=f.1;simp_all,λj u v a b=>f.2 (j+1) u v (by grind) (by grind)⟩;refine ab.bind (ab.equal n p h o.key) λy b w k s=>?_;subst s;exact ab.ite (λ_=>ab.pure ⟨rfl,o.val.mono k⟩) λ_=>ab.findAsking n p l g (i+1) (h.mono k) (m.mono k)
theorem ab.findKey(j:Fits P c)(n:fe P t=Xs){l l':List Ye}(h:ai c r x x')(g:lL c r l.toArray l'.toArray):ab P c r (Instr.findKey t x l) (Instr.findKey t x' l') (KC c):=by refine ab.bind (ab.cC (aE t)) λo d f b m=>?_;subst m;have:=qQ f (h.mono b) l l' 0 (g.mono b);cases e:Instr.findNow f x l 0 with|none=>rw[e]at this;simp only[this];exact ab.findAsking j n l l' 0 (h.mono b) (g.mono b)|some z=>rw[e]at this;obtain⟨p,i,k⟩:=this;simp only[i];exact ab.pure k
theorem BQ{ok:Bool}(O:Fits P c)(Z:∀k e,P.underlying t=Xn (.map k e)->fe P k=Xs/\jC P e=Xs)(h:ai c r x x')(k:ai c r y y'):ab P c r (Instr.lookup t x y ok) (Instr.lookup t x' y' ok) (ai c):=by refine ab.bind (ab.eW (aZ t)) λr1 d S F I=>?_;obtain⟨rfl,I⟩:=I;cases S with|map J q=>obtain⟨C,R⟩:=Z J q I;let B(A:bQ)(a b:Xv×Bool):Prop:=ai c A a.1 b.1/\b.2=a.2;(cases h.mono F with|kK=>refine ab.bind (Q:=λA a b=>lL c A a b) (ab.pure ⟨rfl,λi e e' a=>by simp at a⟩) λr2 T E G m=>?_;refine ab.bind (ab.checkKey _ _ C 9999) λr3 _ _ w _=>?_;refine ab.bind (ab.findKey O C (k.mono (bQ.le_trans F (bQ.le_trans G w))) (by simpa using m.mono w)) λr4 z N U p=>?_;(match z,N,p with|none,Xw,_=>refine ab.bind (ab.zero R) λK u u' V n=>?_;obtain⟨rfl,n⟩:=n;refine ab.bind (Q:=B) (ab.pure ⟨n c K,rfl⟩) λL a b H g=>?_;obtain⟨v,o⟩:=a;obtain⟨j,f⟩:=g;subst f;refine ab.pure ?_;split;{exact .kG (ak.push (ak.single j) (.bool _))};{exact j}|some (_,_),Xn (_,_),p=>refine ab.bind (Q:=B) (ab.pure ⟨p.2,rfl⟩) λL a b H g=>?_;obtain⟨v,o⟩:=a;obtain⟨j,f⟩:=g;subst f;refine ab.pure ?_;split;{exact .kG (ak.push (ak.single j) (.bool _))};·exact j)|map Y=>refine ab.getObj Y λo D _ X W=>?_;(cases X with|map kk s e=>refine ab.bind (Q:=λA a b=>lL c A a b) (ab.pure ⟨s,e⟩) λr2 T E G m=>?_;refine ab.bind (ab.checkKey _ _ C 9999) λr3 _ _ w _=>?_;refine ab.bind (ab.findKey O C (k.mono (bQ.le_trans F (bQ.le_trans G w))) (by simpa using m.mono w)) λr4 z N U p=>?_;(match z,N,p with|none,Xw,_=>refine ab.bind (ab.zero R) λK u u' V n=>?_;obtain⟨rfl,n⟩:=n;refine ab.bind (Q:=B) (ab.pure ⟨n c K,rfl⟩) λL a b H g=>?_;obtain⟨v,o⟩:=a;obtain⟨j,f⟩:=g;subst f;refine ab.pure ?_;split;{exact .kG (ak.push (ak.single j) (.bool _))};{exact j}|some (_,_),Xn (_,_),p=>refine ab.bind (Q:=B) (ab.pure ⟨p.2,rfl⟩) λL a b H g=>?_;obtain⟨v,o⟩:=a;obtain⟨j,f⟩:=g;subst f;refine ab.pure ?_;split;{exact .kG (ak.push (ak.single j) (.bool _))};·exact j)|cells _ _ _=>exact absurd rfl (W _ _ _)|_=>exactλ_ _ _=>rfl)|_=>exactλ_ _ _=>rfl)|_=>exact ab.stuck
end
section
variable{c:dW}{r:bQ}
def ME:Xv->Bool
 |.string _|.bool _=>Xs
 |_=>Xj
def AN(P:XI)(t:XG):Bool:=match P.underlying t with|some .string|some .bool=>Xs|_=>Xj
theorem AE(h:AN P t=Xs):fe P t=Xs:=by unfold AN at h;unfold fe;grind
theorem wM(n:Nat)(h:ai c r x x')(k:ai c r y y')(b:ME y=Xs):Instr.sameBits n x' y'=Instr.sameBits n x y:=by cases k<;>simp[ME]at b<;>cases h<;>cases n<;>rfl
theorem ab.Hy(b:AN P t=Xs)(i:ME x=Xj)(l h:List Ye)(k:lL c r l.toArray h.toArray):ab P c r (Instr.findKey t x l) (Instr.findKey t x' h) λ_ u n=>u=Xw/\n=Xw:=by unfold AN at b;cases g:P.underlying t with|none=>rw[g]at b;simp at b|some d=>rw[g]at b;unfold Instr.findKey;refine ab.bind (ab.eW (aZ t)) λq o j p f=>?_;obtain⟨rfl,f⟩:=f;rw[g]at f;cases f;cases l with|nil=>(have:h=[]:=by have:=k.1;grind);subst this;exact ab.pure ⟨rfl,rfl⟩|cons e l=>(have m:Instr.findNow d x (e::l) 0=Xw:=by(have:Instr.sameNow d x e.key=Xw:=by cases d<;>simp at b<;>cases x<;>simp[ME]at i<;>rfl);simp[Instr.findNow,this]);simp only[m];refine ab.never ?_;unfold Instr.findAsking;refine gz ?_;show kO P (Op.equalIn (9999+1) t x e.key);unfold Op.equalIn;intro w;rw[XT.run_bind,j1 g w];cases d<;>simp at b<;>cases x<;>simp[ME]at i<;>exact⟨_,_,rfl,rfl⟩
theorem uF(hc:Fits P c)(ht:∀k e,P.underlying t=Xn (.map k e)->AN P k=Xs){z':Xv}(h:ai c r x x')(k:ai c r y y')(l:ai c r z z'):ab P c r (Instr.mapUpdate t x y z) (Instr.mapUpdate t x' y' z') λ_ _ _=>True:=by unfold Instr.mapUpdate;refine ab.bind (ab.eW (aZ t)) λr1 d d' R S=>?_;obtain⟨rfl,S⟩:=S;cases d' with|map A E=>have G:=ht A E S;have hk:=AE G;(cases h.mono R with|kK=>exact ab.runtimePanic|map I=>refine ab.getObj I λo o' ns ho X=>?_;(cases ho with|map kk s e=>rename_i F m;have g:lL c r1 F m:=⟨s,e⟩;refine ab.bind (ab.checkKey _ _ hk 9999) λr2 _ _ C _=>?_;have B:=(k.mono R).mono C;(have w:ab P c r2 (Instr.findKey A y F.toList) (Instr.findKey A y' m.toList) λZ u M=>KC c Z u M/\(ME y=Xj->u=Xw):=by by_cases hy:ME y=Xj;{refine(ab.Hy G hy _ _ (by simpa using g.mono C)).mono λZ u M _ h=>?_;obtain⟨rfl,rfl⟩:=h;exact⟨trivial,λ_=>rfl⟩};exact(ab.findKey hc hk B (by simpa using g.mono C)).mono λZ u M _ h=>⟨h,λe=>absurd e hy⟩);refine ab.bind w λr3 u M N J=>?_;obtain⟨J,K⟩:=J;have B:=B.mono N;have lr:=((l.mono R).mono C).mono N;have g:=(g.mono C).mono N;have I:=N _ _ (C _ _ I);(match u,M,J,K with|none,Xw,_,_=>refine ab.setObj I ns (.map (kk+1) (by grind) λi e O a b=>?_) rfl;rw[Vg]at a b;rw[<-g.1]at b;split at a;{cases a;rw[if_pos ‹_›]at b;cases b;exact⟨B,lr,rfl⟩};{rw[if_neg ‹_›]at b;exact g.2 i e O a b}|some (i,_),Xn (v,_),J,K=>(have Y:ME y=Xs:=by simp_all);obtain⟨W,_⟩:=J;subst W;(have p:ai c r3 (((F[v]?).map (·.key)).getD y) (((m[v]?).map (·.key)).getD y'):=by cases V:F[v]? with|none=>simp_all|some Q=>(have H:v<m.size:=by grind);have:=g.2 v Q m[v] V (UT H);rw[UT H];exact this.key);(have L:ab P c r3 (Instr.keyThatStays (((F[v]?).map (·.key)).getD y) y) (Instr.keyThatStays (((m[v]?).map (·.key)).getD y') y') (ai c):=by unfold Instr.keyThatStays;rw[wM 10000 p B Y];refine ab.ite (λ_=>ab.pure B) λ_=>?_;refine ab.bind (ab.cC (iE _)) λr4 n n' D X=>?_;subst X;refine ab.pure ?_;split;{exact B.mono D};exact p.mono D);refine ab.bind L λr4 q q' D hq=>?_;refine ab.setObj (D _ _ I) ns (.map kk (by grind) λj e O a b=>?_) rfl;rw[VD]at a b;split at a;{rw[if_pos ‹_›]at b;obtain⟨Q,T,rfl⟩:=UN.1 a;obtain⟨e1,U,rfl⟩:=UN.1 b;exact⟨hq,lr.mono D,((g.2 j Q e1 T U).born)⟩};·rw[if_neg ‹_›]at b;exact(g.2 j e O a b).mono D)|cells _ _ _=>exact absurd rfl (X _ _ _)|_=>exactλ_ _ _=>rfl)|_=>exact ab.stuck)|_=>exact ab.stuck
theorem Dt(k:P.underlying t=Xn .string)(h:ai c r x x'):ab P c r (Instr.range t x) (Instr.range t x') (ai c):=by unfold Instr.range;refine ab.bind (ab.eW (aZ t)) λv d n i f=>?_;obtain⟨rfl,f⟩:=f;rw[k]at f;cases f;cases h.mono i with|string s=>exact ab.bind (Q:=λl a b=>mf c l a b) (ab.pure (.iter s 0)) λw o u p j=>ab.bind (ab.newObj j) λy b m q g=>ab.pure (.ptr ⟨g.1,rfl,rfl,Vy g.2⟩)|_=>exactλ_ _ _=>rfl
theorem F7(h:ai c r x x'):ab P c r (Instr.next x Xs t) (Instr.next x' Xs t) (ai c):=by unfold Instr.next;cases h with|ptr m=>rename_i a l;obtain⟨b,v,k⟩:=a;obtain⟨w,e,i⟩:=l;obtain⟨g,f,j,-⟩:=m;simp only at g f j;subst f j;(cases e with|succ n=>exact ab.stuck|zero=>refine ab.getObj g λo z u f q=>?_;cases f with|iter s p=>refine ab.ite (λ_=>?_) λ_=>ab.pure (.kG (ak.single (.bool _)));refine ab.bind (ab.setObj g u (.iter s _) rfl) λA _ _ y _=>ab.pure (.kG ?_);exact((ak.single (.bool _)).push (.int _ _)).push (.int _ _)|cells _ _ _=>exact absurd rfl (q _ _ _)|_=>exact ab.stuck)|_=>exact ab.stuck
theorem oJ:∀(l l':List Xv){r:bQ},l.length=l'.length->(∀(i:Nat)(v v':Xv),l[i]?=Xn v->l'[i]?=Xn v'->ai c r v v')->∀s:ByteArray,ab P c r (forIn l s λc r=>(match c with|.int .u8 n=>Pure.pure (ForInStep.yield (r.push (UInt8.ofNat n.toNat)))|_=>(λ_:PUnit=>ForInStep.yield r)<$>stuck "bytesToString: byte expected" :XT (ForInStep ByteArray))) (forIn l' s λc r=>(match c with|.int .u8 n=>Pure.pure (ForInStep.yield (r.push (UInt8.ofNat n.toNat)))|_=>(λ_:PUnit=>ForInStep.yield r)<$>stuck "bytesToString: byte expected" :XT (ForInStep ByteArray))) λ_ x y=>x=y|[],[],_,_,_,s=>by rw[List.forIn_nil];exact ab.pure rfl|[],_::_,_,h,_,_=>by cases h|_::_,[],_,h,_,_=>by cases h|v::l,v'::l',r,h,hv,s=>by rw[List.forIn_cons,List.forIn_cons];have h0:ai c r v v':=hv 0 v v' rfl rfl;have hl:∀(i:Nat)(u u':Xv),l[i]?=Xn u->l'[i]?=Xn u'->ai c r u u':=λi u u' a b=>hv (i+1) u u' a b;refine ab.bind (Q:=λ_(x y:ForInStep ByteArray)=>x=y/\∃z,x=.yield z) ?_ λr1 x y hle e=>?_;{cases h0 with|int k n=>(cases k<;>first|exact ab.pure ⟨rfl,_,rfl⟩|exactλ_ _ _=>rfl)|_=>exactλ_ _ _=>rfl};obtain⟨rfl,z,rfl⟩:=e;exact oJ l l' (by simpa using h) (λi u u' a b=>(hl i u u' a b).mono hle) z
theorem pA(h:ai c r x x'):ab P c r (Conv.bytesToString x) (Conv.bytesToString x') (ai c):=by(have key:∀{a a':X7}{n:Nat}{r:bQ},ab P c r (Go.loadCells a n) (Go.loadCells a' n) (ak c)->ab P c r (Conv.bytesToString (.slice (Xn a) n 0)) (Conv.bytesToString (.slice (Xn a') n 0)) (ai c):=λ{a a' n r}h=>by unfold Conv.bytesToString;refine ab.bind h λr1 y y' hle hy=>?_;(refine ab.bind (Q:=λ_ x y=>x=y) ?_ λr2 z z' _ e=>by subst e;exact ab.pure (.string _));have:=oJ (P:=P) (c:=c) y.toList y'.toList (r:=r1) (by simpa using hy.size) (λi u u' a b=>hy.el i u u' (by simpa using a) (by simpa using b)) ByteArray.empty;simp only[Array.forIn_toList]at this;exact this);cases h with|ig n m=>exact ab.pure (.string _)|slice n m h=>exact key (ab.loadCells h n)|cO a a'=>exact key (n:=0) (ab.pure .empty)|_=>exact ab.stuck
def Hf(P:XI)(s d:XG):Bool:=match P.underlying s,P.underlying d with|some (.int _),Xn (.int _)|some (.int _),Xn .string|some .string,Xn .string=>Xs|some (.slice e),Xn .string=>(match P.underlying e with|some (.int .u8)=>Xs|_=>Xj)|_,_=>Xj
theorem Dl{e0:XG}(h:P.underlying e0=Xn (.int .u8))(k:ai c r x x'):ab P c r (do match<-underlying e0 with|.int .u8=>Conv.bytesToString x|.int .i32=>Conv.runesToString x|_=>stuck "Convert: a slice of what to string?") (do match<-underlying e0 with|.int .u8=>Conv.bytesToString x'|.int .i32=>Conv.runesToString x'|_=>stuck "Convert: a slice of what to string?") (ai c):=by refine ab.bind (ab.eW (aZ e0)) λo a i j e=>?_;obtain⟨rfl,e⟩:=e;rw[h]at e;cases e;exact pA (k.mono j)
theorem zq{s d:XG}(h:Hf P s d=Xs)(k:ai c r x x'):ab P c r (convert s d x) (convert s d x') (ai c):=by unfold Go.convert;refine ab.bind (ab.eW (aZ s)) λo a i j e=>?_;obtain⟨rfl,e⟩:=e;refine ab.bind (ab.eW (aZ d)) λp b g l f=>?_;obtain⟨rfl,f⟩:=f;have k:=(k.mono j).mono l;unfold Hf at h;rw[e,f]at h;cases i with|int q=>(cases g with|int n=>(cases k<;>first|exact ab.pure (.int _ _)|exact ab.unsupported)|string=>(cases k<;>first|exact ab.pure (.string _)|exact ab.unsupported)|_=>simp at h)|string=>(cases g with|string=>(cases k<;>first|exact ab.pure (.string _)|exact ab.unsupported)|_=>simp at h)|slice e0=>(cases g with|string=>(have hb:P.underlying e0=Xn (.int .u8):=by simp only at h;split at h;{assumption};cases h);have gen:=λ{y y'}(k:ai c p y y')=>Dl (P:=P) hb k;(cases k with|int k n=>exact ab.pure (.string _)|string s=>exact ab.pure (.string _)|bool b=>exact gen (.bool b)|gm=>exact gen .gm|ptr h=>exact gen (.ptr h)|ig n m=>exact gen (.ig n m)|slice n m h=>exact gen (.slice n m h)|cO a a'=>exact gen (.cO a a')|kK=>exact gen .kK|map h=>exact gen (.map h)|func h1 h2 h3 h4 h5=>exact gen (.func h1 h2 h3 h4 h5)|nilFunc=>exact gen .nilFunc|nilIface=>exact gen .nilIface|iface t h=>exact gen (.iface t h)|agg h1 h2=>exact gen (.agg h1 h2)|tuple h1 h2=>exact gen (.tuple h1 h2))|_=>simp at h)|_=>simp at h
end
section
variable{c:dW}{r:bQ}
def cg(c:dW)(gl:Nat->Bool):XS->Bool
 |.tmp _=>Xs
 |.const v=>jL 100 v
 |.global g=>gl g
 |.func f=>c.fns f
def yO(P:XI)(t:XG):Bool:=match P.underlying t with|some (.slice e)=>jC P e|_=>Xs
def Ot(P:XI)(t:XG):Bool:=match P.underlying t with|some (.map k e)=>fe P k&&jC P e|_=>Xs
def NV(P:XI)(t:XG):Bool:=match P.underlying t with|some (.map k _)=>AN P k|_=>Xs
def Bz(P:XI)(s:XG)(n:Nat):Bool:=match P.underlying s with|some (.struct fs)=>(match fs[n]? with|some f=>P.cellsOf f.type !=0|none=>Xs)|_=>Xs
def Cg(P:XI)(t:Option XG):Bool:=match t with|some s=>(match P.underlying s with|some (.int _)=>Xj|_=>Xs)|none=>Xs
def Nx(P:XI)(t:Option XG):Bool:=match t with|some s=>yO P s|none=>Xs
def isEq:BinOp->Bool
 |.eql|.neq=>Xs
 |_=>Xj
def IW(P:XI)(t:XG):Bool:=match P.underlying t with|some .string=>Xs|_=>Xj
def BM(P:XI)(c:dW)(gl:Nat->Bool)(k:Call):Bool:=
 k.args.all (cg c gl)&&match k.callee with
 |.value f=>cg c gl f
 |.builtin .len|.builtin .max|.builtin .min=>Xs
 |.builtin .append=>Nx P k.argTypes[0]?&&Cg P k.argTypes[1]?
 |_=>Xj
def GY(P:XI):XS->Bool
 |.global g=>decide (g<P.globals.size)
 |_=>Xj
def Az(P:XI)(c:dW)(gl:Nat->Bool)(o:Yf):Bool:=
 match o.op with
 |.load _ x=>cg c gl x||GY P x
 |.move x|.assign x|.box _ x|.nilCheck x|.unOp _ _ x|.field _ x _|.extract x _=>cg c gl x
 |.pick a b d=>cg c gl a&&cg c gl b&&cg c gl d
 |.alloc e=>jC P e
 |.build t ps=>jC P t&&ps.all λp=>cg c gl p.2
 |.buildSlice t _ ps=>yO P t&&ps.all λp=>cg c gl p.2
 |.store _ a x|.indexAddr _ a x|.index _ a x=>cg c gl a&&cg c gl x
 |.binOp op t x y _=>cg c gl x&&cg c gl y&&(!isEq op||fe P t)
 |.convert s d x=>Hf P s d&&cg c gl x
 |.makeFunc fn first captured=>E8 c fn&&first.all (cg c gl)&&captured.all (cg c gl)
 |.makeMap _ Xw=>Xs
 |.makeSlice t l k=>yO P t&&cg c gl l&&cg c gl k
 |.slice _ x lo hi mx=>cg c gl x&&lo.all (cg c gl)&&hi.all (cg c gl)&&mx.all (cg c gl)
 |.fieldAddr s x n=>Bz P s n&&cg c gl x
 |.lookup t x i _=>Ot P t&&cg c gl x&&cg c gl i
 |.mapUpdate t m k v=>NV P t&&cg c gl m&&cg c gl k&&cg c gl v
 |.range t x=>IW P t&&cg c gl x
 |.next it Xs=>cg c gl it
 |.call k=>BM P c gl k
 |_=>Xj
inductive vQ(c:dW)(r:bQ):Next->Next->Prop
 |value{v v':Xv}:ai c r v v'->vQ c r (.value v) (.value v')
 |skip:vQ c r .skip .skip
 |enter{f:XM}{x x':Array Xv}:c.fns f=Xs->ak c r x x'->vQ c r (.enter f x) (.enter f x')
def C6(P:XI)(c:dW):Prop:=
 ∀(f:XM)(fn:Func),c.fns f=Xs->P.funcs[f]?=Xn fn->(fn.name== "runtime.NumGoroutine")=Xj/\(fn.body=Xw->Extern.findNext fn=Xw/\∃e,Extern.find fn=Xn e/\
   ∀(r:bQ)(x x':Array Xv),ak c r x x'->ab P c r (e x) (e x') (ai c))
theorem ab.value{x:XT Xv}{y:XT Xv}(h:ab P c r x y (ai c)):ab P c r (do Pure.pure (Next.value (<-x))) (do Pure.pure (Next.value (<-y))) (vQ c):=ab.bind h λ_ _ _ _ k=>ab.pure (.value k)
theorem ab.unit{x:XT Unit}{y:XT Unit}(h:ab P c r x y λ_ _ _=>True):ab P c r (do x;Pure.pure Next.skip) (do y;Pure.pure Next.skip) (vQ c):=ab.bind h λ_ _ _ _ _=>ab.pure .skip
theorem ab.BH(f:XM):ab P c r (mark (.extern f)) (mark (.extern f)) λ_ _ _=>True:=by intro w v b;refine⟨(),v,r,rfl,.refl b,trivial,λe a=>?_⟩;simp at a;subst a;exact .inr (.inr ⟨f,rfl⟩)
theorem wC(l:C6 P c)(i:c.fns f=Xs){x x':Array Xv}(h:ak c r x x'):ab P c r (callFunc f x) (callFunc f x') (vQ c):=by refine ab.bind (ab.eW bW) λw p u g m=>?_;obtain⟨rfl,rfl⟩:=m;cases a:u.funcs[f]? with|none=>exact ab.stuck|some d=>obtain⟨s,t⟩:=l f d i a;simp only[a,s,Vk];cases k:d.body with|some b=>exact ab.pure (.enter i (h.mono g))|none=>obtain⟨n,e,o,q⟩:=t k;simp only[n,o];exact ab.bind (ab.BH f) λv _ _ j _=>ab.value (q v x x' ((h.mono g).mono j))
theorem wq(a:∀x,cg c gl x=Xs->ai c r (ev x) (ev' x)){l:Array XS}(h:l.all (cg c gl)=Xs):ak c r (l.map ev) (l.map ev'):=ak.map l ev ev' λx b=>a x (by rw[Wx]at h;grind)
theorem vf(a:∀x,cg c gl x=Xs->ai c r (ev x) (ev' x)){l:Array (Nat×XS)}(h:(l.all λp=>cg c gl p.2)=Xs):BP c r (l.map λ(i,x)=>(i,ev x)) (l.map λ(i,x)=>(i,ev' x)):=by refine⟨?_,?_⟩;{simp};(have e:∀g:XS->Xv,((l.map λp=>(p.1,g p.2)).toList.map (·.2)).toArray=l.map λp=>g p.2:=by grind);rw[e ev,e ev'];refine ak.map l _ _ λp b=>a p.2 ?_;rw[Wx]at h;grind
theorem wZ(a:∀x,cg c gl x=Xs->ai c r (ev x) (ev' x)):∀{x:Option XS},x.all (cg c gl)=Xs->j2 c r (x.map ev) (x.map ev')|none,_=>trivial|some x,h=>a x (by grind)
theorem vU(o:Yf)(y:XS)(ev ev':XS->Xv)(l:o.op=.nilCheck y)(e:ev y=x)(i:ev' y=x')(h:ai c r x x'):ab P c r (XC ev o) (XC ev' o) (vQ c):=by unfold XC;rw[l];simp only[e,i];cases h with|gm=>exact ab.runtimePanic|nilIface=>exact ab.runtimePanic|nilFunc=>exact ab.runtimePanic|bool b=>exact ab.pure (.value (.bool b))|int k n=>exact ab.pure (.value (.int k n))|string s=>exact ab.pure (.value (.string s))|ptr a=>exact ab.pure (.value (.ptr a))|ig n m=>exact ab.pure (.value (.ig n m))|slice n m a=>exact ab.pure (.value (.slice n m a))|cO a f=>exact ab.pure (.value (.cO a f))|kK=>exact ab.pure (.value .kK)|map a=>exact ab.pure (.value (.map a))|@func j z B u A d p q v w=>(cases j with|func g=>exact ab.pure (.value (.func d p q v w))|_=>simp[E8]at d)|iface t a=>exact ab.pure (.value (.iface t a))|agg a b=>exact ab.pure (.value (.agg a b))|tuple a b=>exact ab.pure (.value (.tuple a b))
theorem l9(h:yO P t=Xs):∀e,P.underlying t=Xn (.slice e)->jC P e=Xs:=λe a=>by unfold yO at h;simp_all
theorem HY(h:NV P t=Xs):∀k e,P.underlying t=Xn (.map k e)->AN P k=Xs:=λk e a=>by unfold NV at h;simp_all
theorem IK(h:Ot P t=Xs):∀k e,P.underlying t=Xn (.map k e)->fe P k=Xs/\jC P e=Xs:=λk e a=>by unfold Ot at h;simp_all
theorem uJ(h:Bz P t n=Xs):∀fs f,P.underlying t=Xn (.struct fs)->fs[n]?=Xn f->P.cellsOf f.type≠0:=λfs f a b=>by unfold Bz at h;simp_all
theorem F8(N:Fits P c)(K:C6 P c){k:Call}(t:XG)(i:BM P c gl k=Xs)(B:∀x,cg c gl x=Xs->ai c r (ev x) (ev' x)):ab P c r (do let d<-resolve ev k t;invoke d.target d.args) (do let d<-resolve ev' k t;invoke d.target d.args) (vQ c):=by unfold BM at i;simp only[UK]at i;obtain⟨I,i⟩:=i;have h:=wq B I;obtain⟨l,m,A⟩:=k;unfold resolve;cases l with|invoke x n=>simp at i|value f=>have E:=B f i;simp only[];generalize ev f=q at E;generalize ev' f=O at E;(cases E with|@func J z R u M a b d e g=>(cases J with|func j=>refine ab.bind (Q:=λG x y=>x.target=.fn (.func j) u/\y.target=.fn (.func j) M/\ak c G x.args y.args) (ab.pure ⟨rfl,rfl,(ak.mk b d).append h⟩) λL x y H p=>?_;obtain⟨C,D,v⟩:=p;rw[C,D];exact wC K (by assumption) (v.append ((ak.mk e g).mono H))|_=>simp[E8]at a)|nilFunc=>exact ab.never (λw=>du RuntimeError.nilDeref w)|_=>exactλ_ _ _=>rfl)|builtin b=>refine ab.bind (Q:=λG x y=>x.target=.builtin b A t (m.map λ|.const _=>Xs|_=>Xj)/\y.target=.builtin b A t (m.map λ|.const _=>Xs|_=>Xj)/\ak c G x.args y.args) (ab.pure ⟨rfl,rfl,h⟩) λL x y H p=>?_;obtain⟨C,D,v⟩:=p;rw[C,D];cases b with|len=>exact ab.value (JU _ _ v)|max=>exact ab.value (LZ _ _ v)|min=>exact ab.value (Ju _ _ v)|append=>simp only[UK]at i;refine ab.value (B6 (λs e F o=>?_) (λs k F o=>?_) v);{have:=i.1;rw[F]at this;exact l9 this e o};have:=i.2;rw[F]at this;simp[Cg,o]at this|_=>simp at i
theorem zE(w:Fits P c)(H:C6 P c){o:Yf}(j:Az P c gl o=Xs)(f:∀x,cg c gl x=Xs->ai c r (ev x) (ev' x))(z:∀g,ev (.global g)=ϖ g/\ev' (.global g)=ϖ g):ab P c r (XC ev o) (XC ev' o) (vQ c):=by unfold Az at j;obtain⟨E,D,O,K,A,guard⟩:=o;cases D with|move x=>exact ab.pure (.value (f x j))|assign x=>exact ab.pure (.value (f x j))|pick a b d=>simp only[UK]at j;refine ab.bind (ab.asBool (f a j.1.1)) λM u V C I=>?_;subst I;refine ab.pure (.value ?_);split;{exact(f b j.1.2).mono C};exact(f d j.2).mono C|alloc e=>exact ab.value (B4 j)|box e x=>exact ab.value (Jy e (f x j))|build t L=>simp only[UK]at j;exact ab.value (Ek j.1 (vf f j.2))|buildSlice t n L=>simp only[UK]at j;exact ab.value (uk (l9 j.1) (vf f j.2))|load t a=>rcases VL ..▸j with j|j;{exact ab.value (Bu t (f a j))};(cases a with|global g=>refine ab.value ?_;rw[(z g).1,(z g).2];exact ab.bind (Q:=λ_ a b=>a=⟨g,0,Xw⟩/\b=⟨g,0,Xw⟩) (ab.pure ⟨rfl,rfl⟩) λM a b C⟨F,G⟩=>by subst F G;exact ab.Gt w (by rw[w.aL];simpa[GY]using j) t|_=>simp[GY]at j)|store t a x=>simp only[UK]at j;exact ab.unit (yc t (f a j.1) (f x j.2))|nilCheck x=>exact vU _ x ev ev' rfl rfl rfl (f x j)|binOp D t x y u=>simp only[UK,VL,Bool.not_eq_true']at j;exact ab.value (D2 w (λe=>by rcases j.2 with h|h;{rcases e with rfl|rfl<;>simp[isEq]at h};exact h) (f x j.1.1) (f y j.1.2))|unOp D t x=>exact ab.value (ED (f x j))|convert s d x=>simp only[UK]at j;exact ab.value (zq j.1 (f x j.2))|makeFunc R B q=>simp only[UK]at j;exact ab.value (xp j.1.1 (wq f j.1.2) (wq f j.2))|makeMap t N=>(cases N with|none=>exact ab.value zX|some _=>simp at j)|makeSlice t l k=>simp only[UK]at j;exact ab.value (uK (l9 j.1.1) (f l j.1.2) (f k j.2))|slice t x T S U=>simp only[UK]at j;exact ab.value (zB t (f x j.1.1.1) (wZ f j.1.1.2) (wZ f j.1.2) (wZ f j.2))|fieldAddr s x n=>simp only[UK]at j;exact ab.value (xZ s n (uJ j.1) (f x j.2))|field t x n=>exact ab.value (D7 t n (f x j))|indexAddr t x i=>simp only[UK]at j;exact ab.value (yZ t (f x j.1) (f i j.2))|index t x i=>simp only[UK]at j;exact ab.value (Ej t (f x j.1) (f i j.2))|lookup t x i b=>simp only[UK]at j;exact ab.value (BQ w (IK j.1.1) (f x j.1.2) (f i j.2))|mapUpdate t m k v=>simp only[UK]at j;exact ab.unit (uF w (HY j.1.1.1) (f m j.1.1.2) (f k j.1.2) (f v j.2))|range t x=>simp only[UK]at j;refine ab.value (Dt ?_ (f x j.2));have:=j.1;unfold IW at this;grind|next J b=>(cases b with|true=>exact ab.value (F7 (f J j))|false=>simp at j)|extract x n=>exact ab.value (Ag n (f x j))|call k=>exact F8 w H O j f|_=>simp at j
end
section
variable{c:dW}{r:bQ}
def codeOk(P:XI)(c:dW)(gl:Nat->Bool):Yg->Bool
 |.skip|.exit _|.label _|.ret|.refuse _=>Xs
 |.region _ ops _=>ops.all (Az P c gl)
 |.seq a b=>codeOk P c gl a&&codeOk P c gl b
 |.cond x a b=>cg c gl x&&codeOk P c gl a&&codeOk P c gl b
 |.block _ a|.loop a|.scope a=>codeOk P c gl a
 |_=>Xj
def opAt(P:XI)(c:dW)(gl:Nat->Bool)(ops:Array Yf)(i:Nat):Bool:=match ops[i]? with|some o=>Az P c gl o|none=>Xs
theorem HT{c:dW}(h:ops.all (Az P c gl)=Xs)(l:List Nat):l.all (opAt P c gl ops)=Xs:=by rw[Vj];intro i _;unfold opAt;grind
theorem vB{c:dW}{o:Yf}(h:(i::rest).all (opAt P c gl ops)=Xs)(a:ops[i]?=Xn o):Az P c gl o=Xs:=by simp only[VH,UK]at h;have:=h.1;unfold opAt at this;simp_all
theorem vA{c:dW}(h:(i::rest).all (opAt P c gl ops)=Xs):rest.all (opAt P c gl ops)=Xs:=by simp_all
def bK(P:XI)(c:dW)(gl:Nat->Bool):X6->Bool
 |.code a|.inLoop a|.inScope a=>codeOk P c gl a
 |.inBlock _=>Xs
 |.inRegion ops l=>l.all (opAt P c gl ops)
 |_=>Xj
def ef(f:XM)(t:Array Xv)(k:List X6)(m:FrameMode):XF:={fn:=f,tmps:=t,todo:=k,defers:=[],mode:=m,kind:=.normal,roundOf:=Xw}
def md(ret:Bool):FrameMode:=if ret then .returning else .run
structure fP where
 f:XM
 t:Array Xv
 k:List X6
 ret:Bool
 st:List (XM×Array Xv×List X6)
def up(x:XM×Array Xv×List X6):XF:=ef x.1 x.2.1 x.2.2 .run
def fP.g(s:fP)(base:List XF):XB:=Go.Conc.G (ef s.f s.t s.k (md s.ret)) (s.st.map up++base)
structure E0(P:XI)(c:dW)(gl:Nat->Bool)(s:fP):Prop where
 fn:True
 items:s.k.all (bK P c gl)=Xs
 below:∀x∈s.st,True/\x.2.2.all (bK P c gl)=Xs/\∃ops i rest k,x.2.2=.inRegion ops (i::rest)::k
inductive kV(c:dW)(r:bQ):List (XM×Array Xv×List X6)->List (XM×Array Xv×List X6)->Prop
 |nil:kV c r [] []
 |cons{f:XM}{t t':Array Xv}{k:List X6}{l l':List (XM×Array Xv×List X6)}:ak c r t t'->kV c r l l'->kV c r ((f,t,k)::l) ((f,t',k)::l')
structure uM(c:dW)(r:bQ)(s s':fP):Prop where
 f:s'.f=s.f
 t:ak c r s.t s'.t
 k:s'.k=s.k
 ret:s'.ret=s.ret
 st:kV c r s.st s'.st
theorem kV.mono{r r':bQ}(h:r.le r'){l l':List (XM×Array Xv×List X6)}(k:kV c r l l'):kV c r' l l':=by induction k with|nil=>exact .nil|cons a _ b=>exact .cons (a.mono h) b
structure Listed(P:XI)(c:dW)(gl:Nat->Bool):Prop where
 aL:Fits P c
 rE:∀g,gl g=Xs->c.low g=0
 ext:C6 P c
 body:∀(f:XM)(fn:Func),c.fns f=Xs->P.funcs[f]?=Xn fn->∃b,(fn.body=Xw\/(fn.body=Xn b/\codeOk P c gl b=Xs))
def ft:XF:={fn:=0,tmps:=#[],todo:=[],defers:=[{target:=.builtin .make #[] 0 #[],args:=#[]}],mode:=.run,kind:=.normal}
def Ri(s:GStep):Prop:=(∃o w,s.bare=.ended o w)\/∃(f:XM)(t:Array Xv)(k:List X6)(ch:List PanicEntry)(st:List (XM×Array Xv×List X6))(w:Xz)(es:Array X9),
 s=.go (Go.Conc.G (ef f t k (.panicking ch)) (st.map up++[ft])) w es/\(∀d w r sv,k.head?≠Xn (.call d w r sv))/\∀x∈st,∃ops i rest k',x.2.2=.inRegion ops (i::rest)::k'
theorem sg{t:Array Xv}(e:ak c r t t')(d:∀g,gl g=Xs->r g=Xn g)(b:∀g,gl g=Xs->c.low g=0){k:List X6}{m:FrameMode}(x:XS)(h:cg c gl x=Xs):ai c r ((ef f t k m).eval x) ((ef f t' k m).eval x):=by cases x with|tmp i=>exact e.getD i gH|const v=>exact iy h c r|global g=>exact .ptr ⟨d g h,rfl,rfl,Vy (b g h)⟩|func j=>exact .func (by assumption) rfl (λi v l a=>by simp at a) rfl (λi v l a=>by simp at a)
theorem q7{t:Array Xv}(a:ak c r t t')(ops:Array Yf)(j:Nat):XH ops t' j=XH ops t j:=by unfold XH;cases(ops[j]?).bind (·.dst)with|none=>rfl|some d=>simp only[VX];cases b:t[d]? with|none=>rw[a.none b]|some v=>obtain⟨f,e,k⟩:=a.get b;rw[e];cases k<;>rfl
theorem NP{t:Array Xv}{k:List X6}(v:Xv):(ef f t (.inRegion ops (i::rest)::k) .run).finish v=ef f (match(ops[i]?).bind (·.dst)with|some d=>t.setIfInBounds d v|none=>t) (.inRegion ops rest::k) .run:=rfl
theorem pL{t:Array Xv}(a:ak c r t t')(d:Option Tmp){v:Xv}(b:ai c r v v'):ak c r (match d with|some d=>t.setIfInBounds d v|none=>t) (match d with|some d=>t'.setIfInBounds d v'|none=>t'):=by cases d with|none=>exact a|some d=>exact a.set d b
end
end Go.ab
namespace Go.ab
open Go.Conc
variable{P:XI}{c:dW}{r r':bQ}{gl:Nat->Bool}{w v v' w2 w' v1:Xz}{main u:Bool}{bs cs:List XF}{f j f0:XM}{t t' args t0 x':Array Xv}{k k0:List X6}{st st':List (XM×Array Xv×List X6)}{id i b n g:Nat}{x a:Yg}{ops:Array Yf}{rest:List Nat}{o:Yf}{h:Halt}{fn:Func}{α:Type}{s s' s1 s2:fP}{p:fP×Xz}{es:Array X9}{fr' caller:XF}{Good:Xv->Xz->Prop}{own RO:Nat->Prop}{CU:Nat->Nat->Prop}{Stop:(Nat->Prop)->XB->Xz->Prop}{R:Ending->Xz->Prop}{fns:XM->Bool}
section
def UF(P:XI)(c:dW)(r:bQ)(main:Bool)(base:List XF)(w v:Xz)(s':fP)(s1:fP)(w1:Xz):Prop:=
 ∃s1' v1 r1 es,XD P main (s'.g base) v=.go (s1'.g base) v1 es/\Ext c r w v r1 w1 v1/\uM c r1 s1 s1'/\∀e∈es,sn c r1 e
def Stp(P:XI)(c:dW)(gl:Nat->Bool)(r:bQ)(main:Bool)(base:List XF)(w v:Xz)(s s':fP):Prop:=
 (∃s1 w1 es1,XD P Xs (s.g [ft]) w=.go (s1.g [ft]) w1 es1/\E0 P c gl s1/\UF P c r main base w v s' s1 w1)\/Ri (XD P Xs (s.g [ft]) w)
theorem fP.vr(f:XM)(t:Array Xv)(k:List X6)(a:List (XM×Array Xv×List X6))(bs:List XF):(fP.mk f t k Xj a).g bs=G (ef f t k .run) (a.map up++bs):=rfl
theorem Stp.ctl{k1:List X6}{ret1:Bool}(l:dU c r w v)(j:ak c r t t')(a:kV c r st st')(b:E0 P c gl ⟨f,t,k,Xj,st⟩)(i:k1.all (bK P c gl)=Xs)(h:∀(main:Bool)(cs:List XF)(w:Xz),XD P main (G (ef f t k .run) cs) w=.go (G (ef f t k1 (md ret1)) cs) w #[])(d:∀(main:Bool)(cs:List XF)(w:Xz),XD P main (G (ef f t' k .run) cs) w=.go (G (ef f t' k1 (md ret1)) cs) w #[]):Stp P c gl r main bs w v ⟨f,t,k,Xj,st⟩ ⟨f,t',k,Xj,st'⟩:=.inl ⟨⟨f,t,k1,ret1,st⟩,w,#[],h _ _ _,⟨b.fn,i,b.below⟩,⟨f,t',k1,ret1,st'⟩,v,r,#[],d _ _ _,.refl l,⟨rfl,j,rfl,rfl,a⟩,λe g=>by simp at g⟩
theorem oA{q:X6->Bool}:∀{k k':List X6},exitTo id k=Xn k'->k.all q=Xs->k'.all q=Xs|[],_,h,_=>by simp[exitTo]at h|x::k,k',h,b=>by simp only[VH,UK]at b;unfold exitTo at h;split at h;{rename_i d f e;cases e;split at h;{simp_all};exact oA h b.2};{rename_i e;cases e;exact oA h b.2};simp_all
theorem ui:XD P main (G (ef f t (.code .ret::k) .run) cs) w=.go (G (ef f t (.code .ret::k) .returning) cs) w #[]:=by rfl
theorem mE:XD P main (G (ef f t (.inScope x::k) .run) cs) w=.go (G (ef f t k .run) cs) w #[]:=by rfl
theorem pk:XD P main (G (ef f t (.code (.scope x)::k) .run) cs) w=.go (G (ef f t (.code x::.inScope x::k) .run) cs) w #[]:=by rfl
theorem lQ(h:exitTo id k=Xw):XD P main (G (ef f t (.code (.exit id)::k) .run) cs) w=.ended (.stuck "exit, goto: no such block or label" ((ef f t (.code (.exit id)::k) .run).pos P)) w #[]:=by simp only[G,XD,XD.exec,ef,h,Option.elim,Vk,if_false]
theorem mN:XD P main (G (ef f t (.code (.region id ops Xs)::k) .run) cs) w=match(choose (.order f id)).run P w with|.ok b w=>.go (G (ef f t (.inRegion ops (Region.schedule (P.follows .mixedOrders) ops b)::k) .run) cs) w #[]|.halt _ w=>.ended (.stuck "order" ((ef f t (.code (.region id ops Xs)::k) .run).pos P)) w:=by rfl
theorem stepG_unwanted(h:((ops[i]?).map (Region.wanted · (XH ops t))).getD Xj=Xj):XD P main (G (ef f t (.inRegion ops (i::rest)::k) .run) cs) w=.go (G ((ef f t (.inRegion ops (i::rest)::k) .run).finish XJ) cs) w #[]:=by simp only[G,XD,XD.exec,ef,h,Vk,if_false]
section op
variable{w1:Xz}
abbrev rC(f:XM)(t:Array Xv)(ops:Array Yf)(i:Nat)(rest:List Nat)(k:List X6):XF:=ef f t (.inRegion ops (i::rest)::k) .run
theorem ln{v:Xv}(d:ops[i]?=Xn o)(e:Region.wanted o (XH ops t)=Xs)(b:(XC (rC f t ops i rest k).eval o).run P w=.ok (.value v) w1):XD P main (G (rC f t ops i rest k) cs) w=.go (G ((rC f t ops i rest k).finish v) cs) w1 (seen P f ((XC (rC f t ops i rest k).eval o).events P w #[])):=by simp only[ef]at b;simp[G,XD,XD.exec,XD.oper,XD.apply,XF.oper?,ef,d,e,b,GStep.after]
theorem mG(d:ops[i]?=Xn o)(e:Region.wanted o (XH ops t)=Xs)(b:(XC (rC f t ops i rest k).eval o).run P w=.ok .skip w1):XD P main (G (rC f t ops i rest k) cs) w=.go (G ((rC f t ops i rest k).finish XJ) cs) w1 (seen P f ((XC (rC f t ops i rest k).eval o).events P w #[])):=by simp only[ef]at b;simp[G,XD,XD.exec,XD.oper,XD.apply,XF.oper?,ef,d,e,b,GStep.after]
theorem lF(d:ops[i]?=Xn o)(e:Region.wanted o (XH ops t)=Xs)(b:(XC (rC f t ops i rest k).eval o).run P w=.ok (.enter j args) w1):XD P main (G (rC f t ops i rest k) cs) w=.go (G (XF.enter P j args .normal) (rC f t ops i rest k::cs)) w1 (seen P f ((XC (rC f t ops i rest k).eval o).events P w #[])):=by simp only[ef]at b;simp[G,XD,XD.exec,XD.oper,XD.apply,XF.oper?,ef,d,e,b,GStep.after]
theorem pD{v:Xv}(e:ops[i]?=Xn o)(g:Region.wanted o (XH ops t)=Xs)(d:(XC (rC f t ops i rest k).eval o).run P w=.halt (.panic v) w1):XD P main (G (rC f t ops i rest k) cs) w=.go (G (ef f t (.inRegion ops (i::rest)::k) (.panicking [{v,recovered:=Xj}])) cs) w1 (seen P f ((XC (rC f t ops i rest k).eval o).events P w #[])):=by simp only[ef]at d;simp[G,XD,XD.exec,XD.oper,XD.apply,XF.oper?,ef,e,g,d,GStep.after,XF.raise]
theorem rm(e:ops[i]?=Xn o)(j:Region.wanted o (XH ops t)=Xs)(b:(XC (rC f t ops i rest k).eval o).run P w=.halt h w1)(d:AL h=Xs)(l:∀v,h≠.panic v):∃x w2,(XD P main (G (rC f t ops i rest k) cs) w).bare=.ended x w2:=by simp only[ef]at b;cases h with|panic v=>simp_all|stuck s=>simp[G,XD,XD.exec,XD.oper,XD.apply,XF.oper?,ef,e,j,b]|unsupported u=>(cases u with|initOrder g=>simp[AL]at d|_=>simp[G,XD,XD.exec,XD.oper,XD.apply,XF.oper?,ef,e,j,b])|_=>simp[AL]at d
end op
theorem E0.ya(b:E0 P c gl ⟨f,t,.inRegion ops (i::rest)::k,Xj,st⟩):(i::rest).all (opAt P c gl ops)=Xs/\k.all (bK P c gl)=Xs:=by have:=b.items;simp only[VH,UK]at this;exact this
theorem ie(args:Array Xv)(a:P.funcs[f]?=Xn fn):XF.enter P f args .normal=ef f (args++Array.replicate (fn.ntmps-args.size) XJ) [.code (fn.body.getD (.refuse "unsupported: a function without a Go body is entered"))] .run:=by simp[XF.enter,ef,a]
theorem tl(args:Array Xv)(a:P.funcs[f]?=Xw):XF.enter P f args .normal=ef f (args++Array.replicate (0-args.size) XJ) [.code (.refuse "unsupported: a function without a Go body is entered")] .run:=by simp[XF.enter,ef,a]
theorem zI(g:Listed P c gl)(f:c.fns j=Xs)(x d:Array Xv):∃n b,(XF.enter P j x .normal=ef j (x++Array.replicate (n-x.size) XJ) [.code b] .run/\XF.enter P j d .normal=ef j (d++Array.replicate (n-d.size) XJ) [.code b] .run)/\codeOk P c gl b=Xs:=by cases a:P.funcs[j]? with|none=>exact⟨0,_,⟨tl x a,tl d a⟩,rfl⟩|some e=>refine⟨e.ntmps,_,⟨ie x a,ie d a⟩,?_⟩;obtain⟨b,h|⟨h,i⟩⟩:=g.body j e f a;{rw[h];rfl};simp_all
theorem KH(I:Listed P c gl)(V:∀g,gl g=Xs->r g=Xn g)(Y:dU c r w v)(E:ak c r t t')(D:kV c r st st')(A:E0 P c gl ⟨f,t,.inRegion ops (i::rest)::k,Xj,st⟩)(z:ops[i]?=Xn o)(a:Region.wanted o (XH ops t)=Xs):Stp P c gl r main bs w v ⟨f,t,.inRegion ops (i::rest)::k,Xj,st⟩ ⟨f,t',.inRegion ops (i::rest)::k,Xj,st'⟩:=by obtain⟨p,R⟩:=A.ya;have M:=vB p z;have m:=zE I.aL I.ext M (ev:=(rC f t ops i rest k).eval) (λx q=>sg E V I.rE x q) (λ_=>⟨rfl,rfl⟩) w v Y;(have l:Region.wanted o (XH ops t')=Xs:=by rw[funext λj=>q7 E ops j];exact a);unfold Stp;rw[fP.vr];cases q:(XC (rC f t ops i rest k).eval o).run P w with|halt h H=>rw[q]at m;refine .inr ?_;by_cases S:∃u,h=.panic u;{obtain⟨u,rfl⟩:=S;rw[pD z a q];refine .inr ⟨f,t,_,_,st,H,_,rfl,λd w r sv=>by simp,λx q=>(A.below x q).2.2⟩};obtain⟨x,w2,e⟩:=rm z a q m (λu e=>S ⟨u,e⟩);exact .inl ⟨x,w2,e⟩|ok n H=>rw[q]at m;obtain⟨n',O,J,L,B,q1,Z⟩:=m;have C:∀e∈seen P f ((XC (rC f t' ops i rest k).eval o).events P v #[]),sn c J e:=λe U=>Z e (mem_seen U);refine .inl ?_;cases q1 with|@value u u' X=>refine⟨⟨f,_,.inRegion ops rest::k,Xj,st⟩,H,seen P f ((XC (rC f t ops i rest k).eval o).events P w #[]),(ln z a q).trans ?_,⟨A.fn,?_,A.below⟩,⟨f,_,.inRegion ops rest::k,Xj,st'⟩,O,J,_,(ln z l L).trans ?_,B,⟨rfl,pL (E.mono B.le) ((ops[i]?).bind (·.dst)) X,rfl,rfl,D.mono B.le⟩,C⟩;{rfl};{simp only[VH,bK,R,vA p,Bool.and_self]};rfl|skip=>refine⟨⟨f,_,.inRegion ops rest::k,Xj,st⟩,H,seen P f ((XC (rC f t ops i rest k).eval o).events P w #[]),(mG z a q).trans ?_,⟨A.fn,?_,A.below⟩,⟨f,_,.inRegion ops rest::k,Xj,st'⟩,O,J,_,(mG z l L).trans ?_,B,⟨rfl,pL (E.mono B.le) ((ops[i]?).bind (·.dst)) gH,rfl,rfl,D.mono B.le⟩,C⟩;{rfl};{simp only[VH,bK,R,vA p,Bool.and_self]};rfl|@enter j x K W F=>obtain⟨n,b,Q,T⟩:=zI I W x K;refine⟨⟨j,x++Array.replicate (n-x.size) XJ,[.code b],Xj,(f,t,.inRegion ops (i::rest)::k)::st⟩,H,seen P f ((XC (rC f t ops i rest k).eval o).events P w #[]),(lF z a q).trans ?_,⟨trivial,?_,?_⟩,⟨j,K++Array.replicate (n-K.size) XJ,[.code b],Xj,(f,t',.inRegion ops (i::rest)::k)::st'⟩,O,J,_,(lF z l L).trans ?_,B,⟨rfl,?_,rfl,rfl,.cons (E.mono B.le) (D.mono B.le)⟩,C⟩;{rw[Q.1];rfl};{simp[bK,T]};{intro y N;rcases UO.1 N with rfl|N;{exact⟨A.fn,A.items,ops,i,rest,k,rfl⟩};exact A.below y N};{rw[Q.2];rfl};rw[F.size.symm];exact F.append (.replicate _ gH)
end
section
theorem ab.An{f f':α->XT Xv}:∀(l:List α){r:bQ}{x x':Array Xv},ak c r x x'->(∀a b,r.le b->ab P c b (f a) (f' a) (ai c))->ab P c r (l.foldlM (λbs a=>Functor.map bs.push (f a)) x) (l.foldlM (λbs a=>bs.push<$>f' a) x') (ak c)|[],_,_,_,h,_=>ab.pure h|a::l,r,x,x',h,e=>by simp only[Xb];refine ab.bind (Q:=ak c) ?_ λb y n d j=>ab.An l j λa k g=>e a k (bQ.le_trans d g);simp only[<-bind_pure_comp];exact ab.bind (e a r (bQ.le_refl r)) λb v m d i=>ab.pure ((h.mono d).push i)
theorem ab.mapM{f f':α->XT Xv}(l:Array α)(h:∀a b,r.le b->ab P c b (f a) (f' a) (ai c)):ab P c r (l.mapM f) (l.mapM f') (ak c):=by rw[XY,XY,<-XZ,<-XZ];exact ab.An l.toList .empty h
theorem jX(fn:Func)(h:ak c r t t'):ab P c r (results fn t) (results fn t') (ai c):=by refine ab.bind (ab.mapM _ λa g d=>?_) λg x m d b=>ab.pure ?_;{cases a with|tmp i=>exact ab.pure ((h.mono d).getD i gH)|cell i j=>exact ab.bind (ab.asAddr ((h.mono d).getD i gH)) λl a k _ f=>ab.loadVar j f};by_cases e:x.size=1;{rw[dif_pos e,dif_pos (b.size▸e)];exact b.el 0 _ _ (UT _) (UT _)};rw[dif_neg e,dif_neg (b.size▸e)];exact .tuple b.size b.el
section ret
variable{x:XF}{w1:Xz}
theorem ff(a:P.funcs[f]?=Xw):XD P main (G (ef f t k .returning) (x::cs)) w=.go (G (x.finish (t.getD 0 XJ)) cs) w #[]:=by simp[G,XD,unwind,doReturn,ef,a]
theorem bJ{v:Xv}(a:P.funcs[f]?=Xn fn)(b:(results fn t).run P w=.ok v w1):XD P main (G (ef f t k .returning) (x::cs)) w=.go (G (x.finish v) cs) w1 (seen P f ((results fn t).events P w #[])):=by simp[G,XD,unwind,doReturn,ef,a,b,GStep.after]
theorem gS(a:P.funcs[f]?=Xn fn)(b:(results fn t).run P w=.halt h w1):∃o w2,(XD P main (G (ef f t k .returning) (x::cs)) w).bare=.ended o w2:=by cases h<;>simp[G,XD,unwind,ef,a,b]
end ret
theorem zj{t0':Array Xv}(A:dU c r w v)(z:ak c r t t')(l:ak c r t0 t0')(j:kV c r st st')(y:E0 P c gl ⟨f,t,k,Xs,(f0,t0,.inRegion ops (i::rest)::k0)::st⟩):Stp P c gl r main bs w v ⟨f,t,k,Xs,(f0,t0,.inRegion ops (i::rest)::k0)::st⟩ ⟨f,t',k,Xs,(f0,t0',.inRegion ops (i::rest)::k0)::st'⟩:=by obtain⟨s,C,-⟩:=y.below _ (UP ..);have a:=λx m=>y.below x (UZ _ m);(have g:(X6.inRegion ops rest::k0).all (bK P c gl)=Xs:=by simp only[VH,bK]at C⊢;simp_all);cases d:P.funcs[f]? with|none=>refine .inl ⟨⟨f0,_,.inRegion ops rest::k0,Xj,st⟩,w,#[],(ff d).trans ?_,⟨s,g,a⟩,⟨f0,_,.inRegion ops rest::k0,Xj,st'⟩,v,r,#[],(ff d).trans ?_,.refl A,⟨rfl,pL l ((ops[i]?).bind (·.dst)) (z.getD 0 gH),rfl,rfl,j⟩,λe p=>by simp at p⟩;{rfl};rfl|some n=>have b:=jX n z (P:=P) w v A;cases m:(results n t).run P w with|halt h B=>exact .inr (.inl (gS d m))|ok u B=>rw[m]at b;obtain⟨J,I,H,D,q,F,E⟩:=b;refine .inl ⟨⟨f0,_,.inRegion ops rest::k0,Xj,st⟩,B,seen P f ((results n t).events P w #[]),(bJ d m).trans ?_,⟨s,g,a⟩,⟨f0,_,.inRegion ops rest::k0,Xj,st'⟩,I,H,seen P f ((results n t').events P v #[]),(bJ d D).trans ?_,q,⟨rfl,pL (l.mono q.le) ((ops[i]?).bind (·.dst)) F,rfl,rfl,j.mono q.le⟩,λe p=>E e (mem_seen p)⟩;{rfl};rfl
theorem l4{x:XS}{b:Yg}(h:(ef f t (.code (.cond x a b)::k) .run).eval x=.bool u):XD P main (G (ef f t (.code (.cond x a b)::k) .run) cs) w=.go (G (ef f t (.code (if u then a else b)::k) .run) cs) w #[]:=by simp only[ef]at h;simp[G,XD,XD.exec,ef,h]
theorem mJ{x:XS}{b:Yg}(h:∀u,(ef f t (.code (.cond x a b)::k) .run).eval x≠.bool u):∃o w2,(XD P main (G (ef f t (.code (.cond x a b)::k) .run) cs) w).bare=.ended o w2:=by simp only[ef]at h;simp only[G,XD,XD.exec,ef];simp
theorem QI{x x':Xv}(h:x=.bool u)(k:ai c r x x'):x'=.bool u:=by subst h;cases k;rfl
theorem yR(V:Listed P c gl)(U:∀g,gl g=Xs->r g=Xn g)(z:dU c r w v)(hr:uM c r s s')(p:E0 P c gl s)(hne:s.ret=Xs->s.st≠[]):Stp P c gl r main bs w v s s':=by obtain⟨f,t,k,R,Y⟩:=s;obtain⟨f',M,k',K,L⟩:=s';obtain⟨N,y,Z,e3,d⟩:=hr;simp only at N y Z e3 d;subst f' k' K;cases R with|true=>(cases d with|nil=>simp_all|@cons f0 t0 t0' k0 l l' h0 O=>obtain⟨-,-,n,i,B,k1,e⟩:=p.below _ (UP ..);simp only at e;subst e;exact zj z y h0 O p)|false=>cases k with|nil=>exact Stp.ctl (ret1:=Xs) (k1:=[]) z y d p rfl (λ_ _ _=>by rfl) (λ_ _ _=>by rfl)|cons x k=>have q:=p.items;simp only[VH,UK]at q;obtain⟨q,A⟩:=q;cases x with|code a=>(cases a with|skip=>exact Stp.ctl (ret1:=Xj) (k1:=k) z y d p A (λ_ _ _=>by rfl) (λ_ _ _=>by rfl)|label l=>exact Stp.ctl (ret1:=Xj) (k1:=k) z y d p A (λ_ _ _=>by rfl) (λ_ _ _=>by rfl)|ret=>exact Stp.ctl (ret1:=Xs) z y d p p.items (λ_ _ _=>ui) (λ_ _ _=>ui)|seq a b=>exact Stp.ctl (ret1:=Xj) (k1:=.code a::.code b::k) z y d p (by simp only[bK,codeOk,UK]at q;simp[bK,codeOk,A,q]) (λ_ _ _=>by rfl) (λ_ _ _=>by rfl)|block id a=>exact Stp.ctl (ret1:=Xj) (k1:=.code a::.inBlock id::k) z y d p (by simp only[bK,codeOk,UK]at q;simp[bK,codeOk,A,q]) (λ_ _ _=>by rfl) (λ_ _ _=>by rfl)|loop a=>exact Stp.ctl (ret1:=Xj) (k1:=.code a::.inLoop a::k) z y d p (by simp only[bK,codeOk,UK]at q;simp[bK,codeOk,A,q]) (λ_ _ _=>by rfl) (λ_ _ _=>by rfl)|scope a=>exact Stp.ctl (ret1:=Xj) (k1:=.code a::.inScope a::k) z y d p (by simp only[bK,codeOk,UK]at q;simp[bK,codeOk,A,q]) (λ_ _ _=>pk) (λ_ _ _=>pk)|refuse why=>exact .inr (.inl ⟨_,w,by rfl⟩)|exit id=>(cases D:exitTo id k with|none=>exact .inr (.inl ⟨_,w,by rw[fP.vr,lQ D];rfl⟩)|some k1=>exact Stp.ctl (ret1:=Xj) z y d p (oA D A) (λ_ _ _=>by simp[G,XD,XD.exec,ef,md,D]) (λ_ _ _=>by simp[G,XD,XD.exec,ef,md,D]))|cond x a b=>simp only[bK,codeOk,UK]at q;have hv:=sg y U V.rE (f:=f) (k:=.code (.cond x a b)::k) (m:=.run) x q.1.1;(cases J:(ef f t (.code (.cond x a b)::k) .run).eval x with|bool u=>have:=QI J hv;exact Stp.ctl (ret1:=Xj) (k1:=.code (if u then a else b)::k) z y d p (by cases u<;>simp[bK,q,A]) (λ_ _ _=>l4 J) (λ_ _ _=>l4 this)|_=>exact .inr (.inl (mJ λu e=>by simp_all)))|region id n F=>(have I:n.all (Az P c gl)=Xs:=by assumption);(have H:∀l,(X6.inRegion n l::k).all (bK P c gl)=Xs:=λl=>by simp only[VH,UK];exact⟨HT I l,A⟩);(cases F with|false=>exact Stp.ctl (ret1:=Xj) (k1:=.inRegion n (List.range n.size)::k) z y d p (H _) (λ_ _ _=>by rfl) (λ_ _ _=>by rfl)|true=>have X:=ab.cC (r:=r) (c:=c) (P:=P) (iE (.order f id)) w v z;unfold Stp;rw[fP.vr,mN];cases hc:(choose (.order f id)).run P w with|halt h S=>exact .inr (.inl ⟨_,S,rfl⟩)|ok u S=>rw[hc]at X;obtain⟨u',v1,r1,N,T,q1,-⟩:=X;subst q1;refine .inl ⟨⟨f,t,_,Xj,Y⟩,S,#[],rfl,⟨p.fn,H _,p.below⟩,⟨f,M,_,Xj,L⟩,v1,r1,#[],?_,T,⟨rfl,y.mono T.le,rfl,rfl,d.mono T.le⟩,λe D=>by simp at D⟩;rw[fP.vr,mN,N];rfl)|rangeFunc _ _ _ _=>simp[bK,codeOk]at q|goto l=>simp[bK,codeOk]at q)|inBlock id=>exact Stp.ctl (ret1:=Xj) (k1:=k) z y d p A (λ_ _ _=>by rfl) (λ_ _ _=>by rfl)|inLoop a=>exact Stp.ctl (ret1:=Xj) (k1:=.code a::.inLoop a::k) z y d p (by simp only[bK]at q;simp[bK,A,q]) (λ_ _ _=>by rfl) (λ_ _ _=>by rfl)|inScope a=>exact Stp.ctl (ret1:=Xj) (k1:=k) z y d p A (λ_ _ _=>mE) (λ_ _ _=>mE)|inRegion n l=>(cases l with|nil=>exact Stp.ctl (ret1:=Xj) (k1:=k) z y d p A (λ_ _ _=>by rfl) (λ_ _ _=>by rfl)|cons i B=>cases E:((n[i]?).map (Region.wanted · (XH n t))).getD Xj with|true=>(cases W:n[i]? with|none=>simp_all|some o=>rw[W]at E;exact KH V U z y d p W (by simp_all))|false=>(have Q:((n[i]?).map (Region.wanted · (XH n M))).getD Xj=Xj:=by rw[show XH n M=XH n t from funext λj=>q7 y n j];exact E);refine .inl ⟨⟨f,_,.inRegion n B::k,Xj,Y⟩,w,#[],(stepG_unwanted E).trans ?_,⟨p.fn,?_,p.below⟩,⟨f,_,.inRegion n B::k,Xj,L⟩,v,r,#[],(stepG_unwanted Q).trans ?_,.refl z,⟨rfl,pL y ((n[i]?).bind (·.dst)) gH,rfl,rfl,d⟩,λe D=>by simp at D⟩;{rfl};{have:=p.items;simp only[VH,bK,UK]at this⊢;simp_all};rfl)|inRangeFunc _=>simp[bK]at q|endRangeFunc _=>simp[bK]at q|beginRound=>simp[bK]at q|call _ _ _ _=>simp[bK]at q|extern _ _=>simp[bK]at q
end
def re(w:Xz)(T:Nat->Yi->Nat)(D:Nat):Xz:={w with tape:=T,drawn:=D}
@[simp]theorem Ub(w:Xz)(T b:Nat->Yi->Nat)(D a:Nat):re (re w T D) b a=re w b a:=rfl
@[simp]theorem xy(w:Xz)(T:Nat->Yi->Nat)(D:Nat):(re w T D).heap=w.heap:=rfl
@[simp]theorem Cj(w:Xz)(T:Nat->Yi->Nat)(D:Nat)(a:X7):(re w T D).cell? a=w.cell? a:=rfl
theorem AK(w:Xz)(T:Nat->Yi->Nat)(D:Nat)(p:XI)(a:X7)(b:Bool):(re w T D).farLoad p a b=w.farLoad p a b:=rfl
theorem wQ(w:Xz)(T:Nat->Yi->Nat)(D:Nat)(p:XI)(a:X7)(u:XG)(k:X7)(v:Xv)(b:Bool):(re w T D).viewStore p a u k v b=(w.viewStore p a u k v b).map λx=>(re x.1 T D,x.2):=by unfold Xz.viewStore;have e:(re w T D).seen p a u k b=w.seen p a u k b:=rfl;rw[e];generalize w.seen p a u k b=j;by_cases i:(!tight p p.depth u)=Xs;{simp only[i];rfl};simp only[i,Vk];cases j with|error s=>rfl|ok x=>obtain⟨c,e,l,g,f,d⟩:=x;cases n:v.bytes? with|none=>rfl|some bytes=>simp only[bind,Except.bind,pure];by_cases h:Xn bytes.length=Option.map (λx=>x.length) f.bytes?;{simp only[ne_eq,h,eq_false];generalize(List.foldlM (m:=Except String) _ c d)=z;cases z<;>rfl};simp only[ne_eq,h,eq_true];rfl
theorem ri(w:Xz)(T:Nat->Yi->Nat)(D:Nat)(p:XI)(a:X7)(v:Xv)(b:Bool):(re w T D).farStore p a v b=(w.farStore p a v b).map λx=>(re x.1 T D,x.2):=by unfold Xz.farStore;rw[xy];cases w.heap[a.block]? with|none=>rfl|some o=>(cases o<;>try rfl);simp only[wQ];generalize w.viewStore _ _ _ _ _ _=z;cases z<;>rfl
theorem DX(w:Xz)(T:Nat->Yi->Nat)(D:Nat)(a:X7)(n:Nat):(re w T D).freeze a n=re (w.freeze a n) T D:=by unfold Xz.freeze;split<;>rfl
def y5:Xv->Bool
 |.agg _|.tuple _=>Xs
 |_=>Xj
theorem S3(v:Xv):y5 v=Xs\/y5 v=Xj:=by simp
theorem uC(m:Mode)(a:X7)(g:XT α){v:Xv}(h:y5 v=Xs)(w:Xz):∃z,(XT.store m a v g).run P w=.halt z w:=by cases v<;>simp[y5]at h<;>exact⟨_,rfl⟩
theorem so(m:Mode)(a:X7)(g:XT α){v:Xv}(h:y5 v=Xj)(w:Xz):(XT.store m a v g).run P w=match w.cell? a with|some _=>if w.frozen? a then .halt (.unsupported (.unsafePointer "a write to bytes that a string shares")) w else g.run P (w.setCell a v)|none=>match w.farStore P a v (m==.atomic)with|.ok x=>g.run P x.1|.error h=>.halt h w:=by cases v<;>simp[y5]at h<;>(simp only[XT.run];split;{rename_i b;rw[b]};·split<;>simp_all)
theorem oF(m:Mode)(a:X7)(g:XT α){v:Xv}(h:y5 v=Xj)(w:Xz):(XT.store m a v g).events P w #[]=match w.cell? a with|some _=>if w.frozen? a then#[]else g.events P (w.setCell a v) (#[].push ⟨.cell a,Xs,m==.atomic⟩)|none=>match w.farStore P a v (m==.atomic)with|.ok x=>g.events P x.1 (#[]++x.2.toArray.map (⟨.cell ·,Xs,m==.atomic⟩))|.error _=>#[]:=by cases v<;>simp[y5]at h<;>(simp only[XT.events,XT.runT];split<;>(try split)<;>simp_all)
theorem EB(w:Xz)(T:Nat->Yi->Nat)(D:Nat)(a:X7):(re w T D).frozen? a=w.frozen? a:=rfl
theorem uL{w1:Xz}{p:XI}{a:X7}{v:Xv}{b:Bool}{l:List X7}(h:w.farStore p a v b=.ok (w1,l)):w1.drawn=w.drawn/\w1.tape=w.tape:=by have c:w.farStore p a v b=(w.farStore p a v b).map λx=>(re x.1 w.tape w.drawn,x.2):=ri w w.tape w.drawn p a v b;rw[h]at c;injection c with c;have:=(Vh c).1;exact⟨(congrArg Xz.drawn this).trans rfl,(congrArg Xz.tape this).trans rfl⟩
theorem y6(x:XT α):∀{w w1:Xz}{a:α},x.run P w=.ok a w1->(∀e∈x.events P w #[],e.loc≠.output)->w.drawn<=w1.drawn/\w1.tape=w.tape/\∀(T:Nat->Yi->Nat)(D:Nat),(∀j q,w.drawn+j<w1.drawn->T (D+j) q=w.tape (w.drawn+j) q)->x.run P (re w T D)=.ok a (re w1 T (D+(w1.drawn-w.drawn))):=by induction x with|pure a=>simp|halt z=>simp|program g d=>intro w w1 b h c;exact d P h c|mark m g d=>intro w w1 b h c;refine d h λe i=>c e ?_;show e∈g.events P w _;rw[XT.events_acc];simp_all|sys s g _=>intro w w1 b h c;refine absurd rfl (c ⟨.output,Xs,Xj⟩ ?_);show _∈(g _).events P _ _;rw[XT.events_acc];simp|choose q g d=>intro w w1 b h c;have B:∀u:Xz,(XT.choose q g).run P u=if q.forced then(g 0).run P u else(g (q.cut (u.tape u.drawn q))).run P {u with drawn:=u.drawn+1}:=λ_=>rfl;(have I:(XT.choose q g).events P w #[]=if q.forced then(g 0).events P w #[]else(g (q.cut (w.tape w.drawn q))).events P {w with drawn:=w.drawn+1} #[]:=by simp only[XT.events,XT.runT];grind);rw[B]at h;rw[I]at c;simp only[B];by_cases F:q.forced=Xs;{grind};rw[if_neg F]at h c;simp only[F,Vk,if_false];obtain⟨J,H,K⟩:=d _ h c;simp only at J H;refine⟨by omega,H,λT D t=>?_⟩;(have:=K T (D+1) λj q M=>by have:=t (j+1) q (by grind);grind);have C:=t 0 q Ω;simp only[Ve]at C;show(g (q.cut (T D q))).run P (re w T (D+1))=_;rw[C];refine Eq.trans this ?_;grind|load m a g d=>intro w w1 b h c;simp only[XT.run,Cj,AK]at h⊢;(cases r:w.cell? a with|some v=>rw[r]at h;refine d v h λe i=>c e ?_;simp only[XT.events,XT.runT,r];show e∈(g v).events P w _;rw[XT.events_acc];simp_all|none=>rw[r]at h;cases l:w.farLoad P a (m==.atomic)with|error z=>simp_all|ok x=>rw[l]at h;refine d x.1 h λe i=>c e ?_;simp only[XT.events,XT.runT,r,l];show e∈(g x.1).events P w _;rw[XT.events_acc];simp_all)|store m a v g d=>intro w w1 b h c;rcases S3 v with y|y;{obtain⟨z,N⟩:=uC (P:=P) m a g y w;simp_all};simp only[so m a g y,Cj,ri,EB]at h⊢;rw[oF m a g y]at c;(cases r:w.cell? a with|some u=>rw[r]at h c;simp only at h c⊢;split at h;{cases h};rename_i l;rw[if_neg l]at c;have:=d (w:=w.setCell a v) h λe i=>c e (by rw[XT.events_acc];simp_all);refine⟨this.1,this.2.1,λT D t=>?_⟩;exact(if_neg l).trans (this.2.2 T D t)|none=>rw[r]at h c;simp only at h c⊢;cases l:w.farStore P a v (m==.atomic)with|error z=>simp_all|ok x=>rw[l]at h c;simp only[Except.map]at h c⊢;have A:=uL l;have:=d (w:=x.1) h λe i=>c e (by rw[XT.events_acc];simp_all);simp_all)|new o g d=>intro w w1 b h c;exact d _ h c|shape k g d=>intro w w1 b h c;exact d _ h c|freeze a n g d=>intro w w1 b h c;(have A:(w.freeze a n).drawn=w.drawn/\(w.freeze a n).tape=w.tape:=by unfold Xz.freeze;grind);have:=d (w:=w.freeze a n) h c;rw[A.1,A.2]at this;simp only[XT.run,DX];exact this|frozen a g d=>intro w w1 b h c;exact d _ h c|getObj k g d=>intro w w1 b h c;(cases f:w.heap[k]? with|none=>simp only[XT.run,f]at h;cases h|some o=>cases o<;>first|(simp only[XT.run,f]at h;cases h;done)|(simp only[XT.run,f,xy]at h⊢;refine d _ h λe i=>c e ?_;simp only[XT.events,XT.runT,f];show e∈(g _).events P w _;rw[XT.events_acc];exact Vp.2 (.inr i)))|setObj k o g d=>intro w w1 b h c;cases f:w.heap[k]? with|none=>simp only[XT.run,f]at h;cases h|some L=>cases L<;>first|(simp only[XT.run,f]at h;cases h;done)|(simp only[XT.run,f,xy]at h⊢;refine d (w:={w with heap:=w.heap.setIfInBounds k o}) h λe i=>c e ?_;simp only[XT.events,XT.runT,f];show e∈g.events P _ _;rw[XT.events_acc];exact Vp.2 (.inr i))
def nM(r:bQ):bQ:=λb=>if(r b).isSome then Xn b else Xw
theorem qg{k:Nat}(h:r b=Xn k):nM r b=Xn b:=by simp[nM,h]
theorem nD{k:Nat}(h:nM r b=Xn k):k=b/\∃j,r b=Xn j:=by unfold nM at h;split at h;{rename_i e;cases h;exact⟨rfl,We.1 e⟩};cases h
theorem c7.self{a a':X7}(h:c7 c r a a'):c7 c (nM r) a a:=⟨qg h.1,rfl,rfl,h.2.2.2⟩
theorem lY{x:Array Xv}(b:x.size=x'.size)(h:∀(i:Nat)(v a:Xv),x[i]?=Xn v->x'[i]?=Xn a->ai c (nM r) v v):∀(i:Nat)(v a:Xv),x[i]?=Xn v->x[i]?=Xn a->ai c (nM r) v a:=by grind
theorem ai.self{v v':Xv}(h:ai c r v v'):ai c (nM r) v v:=by induction h with|bool b=>exact .bool b|int k n=>exact .int k n|string s=>exact .string s|gm=>exact .gm|ptr a=>exact .ptr a.self|ig n m=>exact .ig n m|slice n m a=>exact .slice n m a.self|cO a l=>exact .cO a a|kK=>exact .kK|map a=>exact .map (qg a)|func g i _ j _ e f=>exact .func g rfl (lY i e) rfl (lY j f)|nilFunc=>exact .nilFunc|nilIface=>exact .nilIface|iface t _ d=>exact .iface t d|agg s _ d=>exact .agg rfl (lY s d)|tuple s _ d=>exact .tuple rfl (lY s d)
theorem ak.self{x:Array Xv}(h:ak c r x x'):ak c (nM r) x x:=⟨rfl,lY h.size λi v d a b=>(h.el i v d a b).self⟩
theorem mf.self{o o':X3}(h:mf c r o o'):mf c (nM r) o o:=by cases h with|cells t f k=>exact .cells t f k.self|@map x j k s e=>refine .map k rfl λi d m a b=>?_;rw[a]at b;cases b;have g:=s▸(UJ.1 a).1;have:=e i d _ a (UT g);exact⟨this.key.self,this.val.self,rfl⟩|iter s p=>exact .iter s p|number l a=>exact .number l a.self
theorem sC.self{o o':Option X3}(h:sC c r b o o'):sC c (nM r) b o o:=by cases h with|@seen x g t m j s l z y e=>refine .seen t t _ s l (UH _) ⟨λ_=>rfl,y.2⟩ λi u p a b d=>?_;rw[b]at d;cases d;have f:=UI (UJ.1 b).1 z;exact(e i u _ a b (UT f)).self|own n k=>exact .own n k.self
theorem dU.self(h:dU c r w v):dU c (nM r) w w:=by refine⟨λb k e=>?_,λb k e=>?_,λb g k e d=>?_,h.rE,λb f e=>h.hid b f (by unfold nM at e;simp_all),λb k e=>?_,rfl,rfl,h.old,λb k e _=>(nD e).1.symm,h.kP.1,h.kP.1⟩;{obtain⟨rfl,j,a⟩:=nD e;exact h.qy _ _ a};{obtain⟨rfl,j,a⟩:=nD e;exact h.qy _ _ a};{exact .inl ((nD e).1.symm.trans (nD d).1)};obtain⟨rfl,j,a⟩:=nD e;exact(h.blk _ _ a).self
theorem kV.self{l l':List (XM×Array Xv×List X6)}(h:kV c r l l'):kV c (nM r) l l:=by induction h with|nil=>exact .nil|cons a _ b=>exact .cons a.self b
theorem uM.self(h:uM c r s s'):uM c (nM r) s s:=⟨rfl,h.t.self,rfl,rfl,h.st.self⟩
theorem dU.re(h:dU c r w w)(T:Nat->Yi->Nat)(D:Nat):dU c r (re w T D) (re w T D):=⟨h.qy,h.Ba,h.inj,h.rE,h.hid,h.blk,rfl,rfl,h.old,h.aL,h.kP⟩
theorem sn.yL{e:X9}(h:sn c r e):e.loc≠.output:=by rcases h with⟨b,a,-⟩|h|⟨f,h⟩;{grind};{simp_all};simp_all
structure Fit(P:XI)(c:dW)(gl:Nat->Bool)(s:fP)(w:Xz):Prop where
 ok:E0 P c gl s
 rel:∃r,dU c r w w/\uM c r s s/\∀g,gl g=Xs->r g=Xn g
theorem Fit.re(h:Fit P c gl s w)(T:Nat->Yi->Nat)(D:Nat):Fit P c gl s (re w T D):=by obtain⟨e,r,a,b,d⟩:=h;exact⟨e,r,a.re T D,b,d⟩
theorem Fit.Pf(d:E0 P c gl s)(h:dU c r w v)(a:uM c r s s')(b:∀g,gl g=Xs->r g=Xn g):Fit P c gl s w:=⟨d,nM r,h.self,a.self,λg e=>qg (b g e)⟩
def dT(P:XI)(s:fP)(w:Xz)(s1:fP)(w1:Xz):Prop:=∃es,XD P Xs (s.g [ft]) w=.go (s1.g [ft]) w1 es
theorem N2(h:st.map up=st'.map up):st=st':=by induction st generalizing st' with|nil=>simp_all|cons x l a=>cases st' with|nil=>simp at h|cons y b=>simp only[Vi,WN]at h;have:=h.1;simp only[up,ef]at this;grind
theorem MV(h:s.g [ft]=s'.g [ft]):s=s':=by obtain⟨f,t,k,b,o⟩:=s;obtain⟨l,p,n,a,j⟩:=s';simp only[fP.g,G,ef,XB.mk.injEq,XF.mk.injEq]at h;obtain⟨⟨d,e,g,-,m,-⟩,i,-⟩:=h;have:=N2 (List.append_cancel_right i);subst d e g this;(have:b=a:=by cases b<;>cases a<;>simp_all[md]);rw[this]
theorem Fit.step(p:Listed P c gl){s:fP}{w:Xz}(h:Fit P c gl s w)(f:s.ret=Xs->s.st≠[]):(∃a b,dT P s w a b/\Fit P c gl a b)\/Ri (XD P Xs (s.g [ft]) w):=by obtain⟨u,r,n,o,k⟩:=h;rcases yR p k n o u f with⟨a,b,d,i,t,y,C,v,A,j,x,q,-⟩|B;{refine .inl ⟨a,b,⟨d,i⟩,?_⟩;rw[i]at j;injection j with l m z;have:=MV l;subst this m;exact⟨t,v,x.rel,q,λg e=>x.le _ _ (k g e)⟩};simp_all
theorem dT.SU{w1:Xz}(h:dT P s w s1 w1)(a:dT P s w s2 w2):s2=s1/\w2=w1:=by obtain⟨_,h⟩:=h;obtain⟨_,a⟩:=a;rw[h]at a;injection a with b d;exact⟨(MV b).symm,d.symm⟩
def bT(P:XI)(s:fP)(w:Xz)(s1:fP)(w1:Xz):Prop:=
 w.drawn<=w1.drawn/\w1.tape=w.tape/\∀(T:Nat->Yi->Nat)(D:Nat),(∀j q,w.drawn+j<w1.drawn->T (D+j) q=w.tape (w.drawn+j) q)->dT P s (re w T D) s1 (re w1 T (D+(w1.drawn-w.drawn)))
theorem bT.ctl{w1:Xz}(a:dT P s w s1 w1)(h:∀w,XD P Xs (s.g [ft]) w=.go (s2.g [ft]) w #[]):bT P s w s1 w1:=by obtain⟨rfl,rfl⟩:=a.SU ⟨#[],h w⟩;exact⟨UH _,rfl,λT D _=>⟨#[],by simp_all⟩⟩
theorem dT.jo{w1:Xz}(a:dT P s w s1 w1)(h:∃o w2,(XD P Xs (s.g [ft]) w).bare=.ended o w2):False:=by obtain⟨b,e⟩:=a;simp_all
theorem dT.ve{w1:Xz}{ch:List PanicEntry}(d:dT P s w s1 w1)(h:XD P Xs (s.g [ft]) w=.go (G (ef f t k (.panicking ch)) cs) w2 es):False:=by obtain⟨a,e⟩:=d;rw[e]at h;injection h with h;simp only[fP.g,G,ef,XB.mk.injEq,XF.mk.injEq]at h;have:=h.1.2.2.2.2.1;cases b:s1.ret<;>simp[md,b]at this
theorem bT.E5{β:Type}{w1:Xz}{x:XT β}{b:β}(k:dT P s w s1 w1)(a:x.run P w=.ok b w2)(j:∀e∈x.events P w #[],e.loc≠.output)(h:∀w w2,x.run P w=.ok b w2->dT P s w s2 w2):bT P s w s1 w1:=by obtain⟨rfl,rfl⟩:=k.SU (h w w2 a);obtain⟨d,f,g⟩:=y6 x a j;exact⟨d,f,λT D i=>h _ _ (g T D i)⟩
theorem Ll(v:Listed P c gl){w1:Xz}(D:Fit P c gl ⟨f,t,.inRegion ops (i::rest)::k,Xj,st⟩ w)(q:dT P ⟨f,t,.inRegion ops (i::rest)::k,Xj,st⟩ w s1 w1)(l:ops[i]?=Xn o)(a:Region.wanted o (XH ops t)=Xs):bT P ⟨f,t,.inRegion ops (i::rest)::k,Xj,st⟩ w s1 w1:=by obtain⟨L,r,J,H,E⟩:=D;have I:=H.t;obtain⟨p,R⟩:=L.ya;have z:=vB p l;have d:=zE v.aL v.ext z (ev:=(rC f t ops i rest k).eval) (λx g=>sg I E v.rE x g) (λ_=>⟨rfl,rfl⟩) w w J;cases g:(XC (rC f t ops i rest k).eval o).run P w with|halt h y=>rw[g]at d;by_cases B:∃u,h=.panic u;{obtain⟨u,rfl⟩:=B;exact(q.ve (pD l a g)).elim};exact(q.jo (rm l a g d (λu e=>B ⟨u,e⟩))).elim|ok n y=>rw[g]at d;obtain⟨T,W,U,O,X,M,A⟩:=d;cases M with|@value u V S=>exact bT.E5 (s2:=⟨f,_,.inRegion ops rest::k,Xj,st⟩) q g (λe m=>(A e m).yL) λw y e=>⟨_,(ln l a e).trans (by rfl)⟩|skip=>exact bT.E5 (s2:=⟨f,_,.inRegion ops rest::k,Xj,st⟩) q g (λe m=>(A e m).yL) λw y e=>⟨_,(mG l a e).trans (by rfl)⟩|@enter j x N F K=>obtain⟨n,b,C,Q⟩:=zI v F x N;exact bT.E5 (s2:=⟨j,x++Array.replicate (n-x.size) XJ,[.code b],Xj,(f,t,.inRegion ops (i::rest)::k)::st⟩) q g (λe m=>(A e m).yL) λw y e=>⟨_,(lF l a e).trans (by rw[C.1];rfl)⟩
theorem IX{w1:Xz}(o:Fit P c gl ⟨f,t,k,Xs,(f0,t0,.inRegion ops (i::rest)::k0)::st⟩ w)(l:dT P ⟨f,t,k,Xs,(f0,t0,.inRegion ops (i::rest)::k0)::st⟩ w s1 w1):bT P ⟨f,t,k,Xs,(f0,t0,.inRegion ops (i::rest)::k0)::st⟩ w s1 w1:=by obtain⟨A,r,s,p,z⟩:=o;have q:=p.t;cases b:P.funcs[f]? with|none=>refine bT.ctl (s2:=⟨f0,(match(ops[i]?).bind (·.dst)with|some d=>t0.setIfInBounds d (t.getD 0 XJ)|none=>t0),.inRegion ops rest::k0,Xj,st⟩) l λw=>?_;refine(ff b).trans ?_;rfl|some j=>have a:=jX j q (P:=P) w w s;cases m:(results j t).run P w with|halt h w1=>exact(l.jo (gS b m)).elim|ok u x=>rw[m]at a;obtain⟨D,E,C,y,F,B,v⟩:=a;refine bT.E5 (s2:=⟨f0,(match(ops[i]?).bind (·.dst)with|some d=>t0.setIfInBounds d u|none=>t0),.inRegion ops rest::k0,Xj,st⟩) l m (λe n=>(v e n).yL) λw x e=>⟨seen P f ((results j t).events P w #[]),?_⟩;refine(bJ b e).trans ?_;rfl
theorem dT.tape(F:Listed P c gl){w1:Xz}(y:Fit P c gl s w)(H:s.ret=Xs->s.st≠[])(h:dT P s w s1 w1):bT P s w s1 w1:=by obtain⟨f,t,k,A,j⟩:=s;cases A with|true=>(cases j with|nil=>simp_all|cons x l=>obtain⟨K,N,M⟩:=x;obtain⟨-,-,g,i,p,D,e⟩:=y.ok.below _ (UP ..);subst e;exact IX y h)|false=>cases k with|nil=>exact bT.ctl (s2:=⟨f,t,[],Xs,j⟩) h (λ_=>by rfl)|cons x k=>have m:=y.ok.items;cases x with|code a=>(cases a with|skip=>exact bT.ctl (s2:=⟨f,t,k,Xj,j⟩) h (λ_=>by rfl)|label l=>exact bT.ctl (s2:=⟨f,t,k,Xj,j⟩) h (λ_=>by rfl)|ret=>exact bT.ctl (s2:=⟨f,t,.code .ret::k,Xs,j⟩) h (λ_=>by rfl)|seq a b=>exact bT.ctl (s2:=⟨f,t,.code a::.code b::k,Xj,j⟩) h (λ_=>by rfl)|block id a=>exact bT.ctl (s2:=⟨f,t,.code a::.inBlock id::k,Xj,j⟩) h (λ_=>by rfl)|loop a=>exact bT.ctl (s2:=⟨f,t,.code a::.inLoop a::k,Xj,j⟩) h (λ_=>by rfl)|scope a=>exact bT.ctl (s2:=⟨f,t,.code a::.inScope a::k,Xj,j⟩) h (λ_=>by rfl)|refuse J=>exact(h.jo ⟨_,w,by rfl⟩).elim|exit id=>(cases z:exitTo id k with|none=>exact(h.jo ⟨_,w,by rw[fP.vr,lQ z];rfl⟩).elim|some D=>exact bT.ctl (s2:=⟨f,t,D,Xj,j⟩) h (λ_=>by simp[fP.g,G,XD,XD.exec,ef,md,z]))|cond x a b=>(cases I:(ef f t (.code (.cond x a b)::k) .run).eval x with|bool u=>exact bT.ctl (s2:=⟨f,t,.code (if u then a else b)::k,Xj,j⟩) h λ_=>l4 I|_=>exact(h.jo (mJ λu e=>by simp_all)).elim)|region id g q=>(cases q with|false=>exact bT.ctl (s2:=⟨f,t,.inRegion g (List.range g.size)::k,Xj,j⟩) h (λ_=>by rfl)|true=>have E:∀w:Xz,∃u B,(choose (.order f id)).run P w=.ok u B:=λw=>⟨_,_,rfl⟩;obtain⟨u,B,e⟩:=E w;refine bT.E5 (s2:=⟨f,t,.inRegion g (Region.schedule (P.follows .mixedOrders) g u)::k,Xj,j⟩) h e (λe z=>by simp_all) λw B e=>⟨#[],?_⟩;rw[fP.vr,mN,e];rfl)|rangeFunc _ _ _ _=>simp[bK,codeOk]at m|goto l=>simp[bK,codeOk]at m)|inBlock id=>exact bT.ctl (s2:=⟨f,t,k,Xj,j⟩) h (λ_=>by rfl)|inLoop a=>exact bT.ctl (s2:=⟨f,t,.code a::.inLoop a::k,Xj,j⟩) h (λ_=>by rfl)|inScope a=>exact bT.ctl (s2:=⟨f,t,k,Xj,j⟩) h (λ_=>by rfl)|inRegion g l=>(cases l with|nil=>exact bT.ctl (s2:=⟨f,t,k,Xj,j⟩) h (λ_=>by rfl)|cons i p=>cases v:((g[i]?).map (Region.wanted · (XH g t))).getD Xj with|true=>(cases C:g[i]? with|none=>simp_all|some o=>exact Ll F y h C (by simp_all))|false=>refine bT.ctl (s2:=⟨f,(match(g[i]?).bind (·.dst)with|some d=>t.setIfInBounds d XJ|none=>t),.inRegion g p::k,Xj,j⟩) h λw=>(stepG_unwanted v).trans ?_;rfl)|inRangeFunc _=>simp[bK]at m|endRangeFunc _=>simp[bK]at m|beginRound=>simp[bK]at m|call _ _ _ _=>simp[bK]at m|extern _ _=>simp[bK]at m
def D8(fr:XF)(cs:List XF):Prop:=
 (∃(f:XM)(t:Array Xv)(k:List X6)(ch:List PanicEntry)(st:List (XM×Array Xv×List X6)),fr=ef f t k (.panicking ch)/\cs=st.map up++[ft]/\(∀d w r sv,k.head?≠Xn (.call d w r sv))/\∀x∈st,∃ops i rest k',x.2.2=.inRegion ops (i::rest)::k')\/
 (((∃ch,fr={ft with mode:=.panicking ch})\/fr=ft\/fr={ft with mode:=.returning})/\cs=[])
theorem D8.not{fr:XF}(h:D8 fr [ft])(a:fr.mode=.returning):False:=by rcases h with⟨f,t,k,b,d,rfl,-⟩|⟨-,h⟩;{simp[ef]at a};cases h
theorem Eh{fr:XF}(h:D8 fr cs)(w:Xz):(∃n m w',step P (lone fr cs w)=.next (lone n m w')/\D8 n m)\/∃o w',step P (lone fr cs w)=.ended o w':=by rcases h with⟨f,t,k,j,A,rfl,rfl,B,q⟩|⟨h,rfl⟩;{(have u:(ef f t k (.panicking j)).catches P=Xj:=by unfold XF.catches;simp only[ef];grind);(have p:∀(x:XF)(l:List XF),XD P Xs {frame:=ef f t k (.panicking j),callers:=x::l,status:=.running,dying:=Xw} w=.go {frame:=x.raise j,callers:=l,status:=.running,dying:=Xw} w #[]:=by intro x l;unfold XF.catches ef at u;simp[XD,unwind,ef,XF.catches];simp_all);cases A with|nil=>exact .inl ⟨_,_,w,step_lone_go (by rw[show List.map up []++[ft]=[ft]from rfl,p];rfl),.inr ⟨.inl ⟨j,rfl⟩,rfl⟩⟩|cons x l=>obtain⟨z,i,s,C,e⟩:=q x (UP ..);refine .inl ⟨_,_,w,step_lone_go (by rw[show List.map up (x::l)++[ft]=up x::(List.map up l++[ft])from rfl,p];rfl),.inl ⟨x.1,x.2.1,x.2.2,j,l,rfl,rfl,λd w r D=>by grind,λy v=>q y (UZ _ v)⟩⟩};refine ?_;rcases h with⟨j,rfl⟩|rfl|rfl;{exact .inr ⟨_,w,step_lone_ended (by rfl)⟩};{exact .inl ⟨_,_,w,step_lone_go (by rfl),.inr ⟨.inr (.inr rfl),rfl⟩⟩};exact .inr ⟨_,w,step_lone_ended (by rfl)⟩
section
theorem runN_add:∀{k:Nat}{m m':Machine},runN P i m=.next m'->runN P (i+k) m=runN P k m':=by induction i with|zero=>intro k m m' h;cases h;simp|succ i a=>intro k m m' h;rw[show i+1+k=(i+k)+1 by omega];simp only[runN]at h⊢;grind
theorem HV{m m':Machine}(h:step P m=.next m'):runN P 1 m=.next m':=by simp[runN,h]
theorem ov:∀(n:Nat){fr:XF}{cs:List XF}{w:Xz},D8 fr cs->∀{fr':XF}{w':Xz},runN P n (lone fr cs w)=.next (lone fr' [ft] w')->fr'.mode=.returning->False:=by intro n;induction n with|zero=>intro fr cs w h fr' w' e a;simp only[runN,lone,Stepped.next.injEq,Machine.mk.injEq]at e;have:=e.2.1;obtain⟨rfl,rfl⟩:=this;exact h.not a|succ n j=>intro fr cs w h fr' w' e a;simp only[runN]at e;rcases Eh (P:=P) h w with⟨f,b,g,d,i⟩|⟨o,g,d⟩;{grind};simp_all
def A5(s:fP)(w:Xz):Machine:=lone (ef s.f s.t s.k (md s.ret)) (s.st.map up++[ft]) w
theorem lD{w1:Xz}{fr:XF}(h:XD P Xs (s.g [ft]) w=.go (G fr cs) w1 es):step P (A5 s w)=.next (lone fr cs w1):=step_lone_go (by have:XD P Xs {frame:=ef s.f s.t s.k (md s.ret),callers:=s.st.map up++[ft],status:=.running,dying:=Xw} w=.go (G fr cs) w1 es:=h;rw[this];rfl)
theorem dT.Tc{w1:Xz}(h:dT P s w s1 w1):step P (A5 s w)=.next (A5 s1 w1):=by obtain⟨a,e⟩:=h;exact lD e
theorem Es(h:Ri (XD P Xs (s.g [ft]) w))(e:runN P (n+1) (A5 s w)=.next (lone fr' [ft] w'))(i:fr'.mode=.returning):False:=by simp only[runN]at e;rcases h with⟨o,a,h⟩|⟨f,t,k,b,j,a,l,h,d,g⟩;{rw[show step P (A5 s w)=.ended o a from step_lone_ended h]at e;cases e};rw[lD h]at e;exact ov n (.inl ⟨f,t,k,b,j,rfl,rfl,d,g⟩) e i
theorem Ri.not{w1:Xz}(a:dT P s w s1 w1)(h:Ri (XD P Xs (s.g [ft]) w)):False:=by rcases h with h|⟨f,t,k,b,e,w1,d,h,-⟩;{exact a.jo h};exact a.ve h
def OS(s:fP):Prop:=s.ret=Xs/\s.st=[]
theorem Ef(p:OS s)(e:runN P (n+1) (A5 s w)=.next (lone fr' [ft] w'))(j:fr'.mode=.returning):False:=by obtain⟨f,t,k,q,z⟩:=s;obtain⟨d,g⟩:=p;subst d g;have i:D8 ft []:=.inr ⟨.inr (.inl rfl),rfl⟩;have a:∀v,ft.finish v=ft:=λv=>rfl;simp only[runN]at e;cases b:P.funcs[f]? with|none=>rw[lD ((ff b).trans (by rw[a]))]at e;exact ov n i e j|some m=>cases l:(results m t).run P w with|halt h r=>obtain⟨o,y,h⟩:=gS b l;rw[show step P (A5 ⟨f,t,k,Xs,[]⟩ w)=.ended o y from step_lone_ended h]at e;cases e|ok u r=>rw[lD ((bJ b l).trans (by rw[a]))]at e;exact ov n i e j
inductive Lone(P:XI)(Good:Xv->Xz->Prop):fP->Xz->Prop
 |done{s:fP}{w:Xz}{fn:Func}{v:Xv}:OS s->P.funcs[s.f]?=Xn fn->(∀T D,(results fn s.t).run P (re w T D)=.ok v (re w T D)/\Good v (re w T D))->Lone P Good s w
 |step{s:fP}{w:Xz}:¬OS s->(∀T D,∃s1 w1,dT P s (re w T D) s1 w1)->(∀T D s1 w1,dT P s (re w T D) s1 w1->Lone P Good s1 w1)->Lone P Good s w
section bar
variable(P)(Good:Xv->Xz->Prop)
noncomputable def uY(p:fP×Xz):(Nat->Yi->Nat)×Nat:=open Classical in
 if h:∃a:(Nat->Yi->Nat)×Nat,∀s1 w1,dT P p.1 (re p.2 a.1 a.2) s1 w1->¬Lone P Good s1 w1 then Classical.choose h else(λ_ _=>0,0)
def Live(p:fP×Xz):Prop:=¬OS p.1/\∃q:fP×Xz,dT P p.1 (re p.2 (uY P Good p).1 (uY P Good p).2) q.1 q.2
noncomputable def Ip(p:fP×Xz):fP×Xz:=open Classical in if h:Live P Good p then Classical.choose h.2 else p
noncomputable def iA(p:fP×Xz):Nat->fP×Xz
 |0=>p
 |i+1=>Ip P Good (iA p i)
noncomputable def pos(p:fP×Xz):Nat->Nat
 |0=>0
 |i+1=>open Classical in if Live P Good (iA P Good p i)then pos p i+((iA P Good p (i+1)).2.drawn-(uY P Good (iA P Good p i)).2)else pos p i
def P3(p:fP×Xz)(i n:Nat):Prop:=pos P Good p i<=n/\(n<pos P Good p (i+1)\/¬Live P Good (iA P Good p i))
noncomputable def xF(p:fP×Xz)(n:Nat)(q:Yi):Nat:=open Classical in
 if h:∃i,P3 P Good p i n then(uY P Good (iA P Good p (Classical.choose h))).1 ((uY P Good (iA P Good p (Classical.choose h))).2+(n-pos P Good p (Classical.choose h))) q else 0
end bar
section bar
theorem H5(k:¬Lone P Good s w)(l:¬OS s):∀d e,dT P s (re w (uY P Good (s,w)).1 (uY P Good (s,w)).2) d e->¬Lone P Good d e:=by(have h:∃a:(Nat->Yi->Nat)×Nat,∀d e,dT P s (re w a.1 a.2) d e->¬Lone P Good d e:=by refine VA λj=>k ?_;refine .step l (λT D=>?_) (λT D d e g=>?_);{refine VA λf=>j ⟨(T,D),λd e g=>absurd ⟨d,e,g⟩ f⟩};refine VA λf=>j ⟨(T,D),λm n i=>?_⟩;obtain⟨rfl,rfl⟩:=g.SU i;exact f);unfold uY;grind
theorem xP(h:Live P Good p):dT P p.1 (re p.2 (uY P Good p).1 (uY P Good p).2) (Ip P Good p).1 (Ip P Good p).2:=by unfold Ip;grind
theorem Ai(h:¬Live P Good p):Ip P Good p=p:=by unfold Ip;simp_all
theorem tw(h:Live P Good (iA P Good p i)):pos P Good p (i+1)=pos P Good p i+((iA P Good p (i+1)).2.drawn-(uY P Good (iA P Good p i)).2):=by exact@if_pos _ (Classical.propDecidable _) h _ _ _
theorem yh(h:¬Live P Good (iA P Good p i)):pos P Good p (i+1)=pos P Good p i:=by exact@if_neg _ (Classical.propDecidable _) h _ _ _
theorem GQ{j:Nat}(h:i<=j):pos P Good p i<=pos P Good p j:=by induction h with|refl=>omega|@step m _ b=>by_cases a:Live P Good (iA P Good p m);{rw[tw a];omega};rw[yh a];omega
theorem Dn{j:Nat}(h:i<=j)(d:¬Live P Good (iA P Good p i)):iA P Good p j=iA P Good p i/\pos P Good p j=pos P Good p i:=by induction h with|refl=>simp|@step m _ b=>(have a:¬Live P Good (iA P Good p m):=by simp_all);exact⟨(Ai a).trans b.1,(yh a).trans b.2⟩
theorem GA(h:P3 P Good p i n)(q:Yi):xF P Good p n q=(uY P Good (iA P Good p i)).1 ((uY P Good (iA P Good p i)).2+(n-pos P Good p i)) q:=by(have g:∀{i j:Nat},i<=j->P3 P Good p i n->P3 P Good p j n->iA P Good p j=iA P Good p i/\pos P Good p j=pos P Good p i:=by intro i j a e f;by_cases d:Live P Good (iA P Good p i);{rcases Nat.eq_or_lt_of_le a with rfl|b;{simp};have:=GQ (P:=P) (Good:=Good) (p:=p) (show i+1<=j from b);rcases e.2 with h|h;{have:=f.1;omega};simp_all};exact Dn a d);have k:∃i,P3 P Good p i n:=⟨i,h⟩;unfold xF;grind
variable(hl:Listed P c gl)
include hl
theorem xl(j:Fit P c gl p.1 p.2)(k:¬Lone P Good p.1 p.2):∀i,Fit P c gl (iA P Good p i).1 (iA P Good p i).2/\¬Lone P Good (iA P Good p i).1 (iA P Good p i).2:=by intro i;induction i with|zero=>exact⟨j,k⟩|succ i b=>show Fit P c gl (Ip P Good (iA P Good p i)).1 (Ip P Good (iA P Good p i)).2/\¬Lone P Good (Ip P Good (iA P Good p i)).1 (Ip P Good (iA P Good p i)).2;by_cases h:Live P Good (iA P Good p i);{have a:=xP h;refine⟨?_,H5 b.2 h.1 _ _ a⟩;rcases(b.1.re _ _).step hl (λe d=>h.1 ⟨e,d⟩)with⟨o,q,f,n⟩|g;{obtain⟨l,m⟩:=f.SU a;simp_all};exact(g.not a).elim};rw[Ai h];exact b
theorem Gs(g:Fit P c gl p.1 p.2)(k:¬Lone P Good p.1 p.2)(h:Live P Good (iA P Good p i)):dT P (iA P Good p i).1 (re (iA P Good p i).2 (xF P Good p) (pos P Good p i)) (iA P Good p (i+1)).1 (re (iA P Good p (i+1)).2 (xF P Good p) (pos P Good p (i+1))):=by have l:=xP h;obtain⟨m,n,d⟩:=l.tape hl ((xl hl g k i).1.re _ _) (λe b=>h.1 ⟨e,b⟩);have a:(iA P Good p (i+1))=Ip P Good (iA P Good p i):=rfl;(have:=d (xF P Good p) (pos P Good p i) λj q o=>by have f:P3 P Good p i (pos P Good p i+j):=⟨VG ..,.inl (by rw[tw h,a];have:(re (iA P Good p i).2 (uY P Good (iA P Good p i)).1 (uY P Good (iA P Good p i)).2).drawn=(uY P Good (iA P Good p i)).2:=rfl;omega)⟩;rw[GA f];show _=(uY P Good (iA P Good p i)).1 ((uY P Good (iA P Good p i)).2+j) q;simp);rw[tw h,a];exact this
theorem Da(a:Fit P c gl p.1 p.2)(b:¬Lone P Good p.1 p.2):∀i,(∀l,l<i->Live P Good (iA P Good p l))->runN P i (A5 p.1 (re p.2 (xF P Good p) 0))=.next (A5 (iA P Good p i).1 (re (iA P Good p i).2 (xF P Good p) (pos P Good p i))):=by intro i;induction i with|zero=>intro _;rfl|succ i d=>intro h;rw[runN_add (d λl hl=>h l Ω)];exact HV (Gs hl a b (h i Ω)).Tc
theorem wy(o:∀v w T D,Good v w->Good v (re w T D))(W:Fit P c gl s w)(H:∀T,∃n K w' v,runN P n (A5 s (re w T 0))=.next (lone K [ft] w')/\K.leaving P w' (.returned v)/\Good v w'):Lone P Good s w:=by refine VA λhn=>?_;have f:Fit P c gl (s,w).1 (s,w).2:=W;have g:¬Lone P Good (s,w).1 (s,w).2:=hn;obtain⟨n,K,w',v,E,⟨C,hd,hk,J,R,h⟩,X⟩:=H (xF P Good (s,w));by_cases z:∀l,l<n->Live P Good (iA P Good (s,w) l);{have:=Da hl f g n z;rw[show A5 (s,w).1 (re (s,w).2 (xF P Good (s,w)) 0)=A5 s (re w (xF P Good (s,w)) 0)from rfl,E]at this;obtain⟨a,b⟩:=xl hl f g n;generalize iA P Good (s,w) n=q at this a b;simp only[A5,lone,Stepped.next.injEq,Machine.mk.injEq,Array.mk.injEq,WN,XB.mk.injEq,and_true]at this;obtain⟨rfl,rfl,A⟩:=this;(have B:OS q.1:=by refine⟨?_,?_⟩;{cases E:q.1.ret with|true=>rfl|false=>rw[E]at C;cases C};cases hq:q.1.st with|nil=>rfl|cons x l=>rw[hq]at A;have:=congrArg List.length A;grind);refine b (.done (v:=v) B R λT D=>?_);(have O:∀e∈(results J q.1.t).events P (re q.2 (xF P Good (s,w)) (pos P Good (s,w) n)) #[],e.loc≠.output:=by obtain⟨ok,r,L,y,-⟩:=a.re (xF P Good (s,w)) (pos P Good (s,w) n);have:=jX J y.t (P:=P) _ _ L;rw[show(results J q.1.t).run P (re q.2 (xF P Good (s,w)) (pos P Good (s,w) n))=_ from h]at this;obtain⟨_,_,r1,_,_,_,l1⟩:=this;exactλe V=>(l1 e V).yL);obtain⟨-,-,M⟩:=y6 _ h O;have N:=M T D λj q Z=>absurd Z Ω;rw[Nat.sub_self]at N;exact⟨N,o v (re q.2 (xF P Good (s,w)) (pos P Good (s,w) n)) T D X⟩};(have:∃i,i<n/\¬Live P Good (iA P Good (s,w) i)/\∀l,l<i->Live P Good (iA P Good (s,w) l):=by(have Q:∃i,i<n/\¬Live P Good (iA P Good (s,w) i):=by simp_all);obtain⟨i,hi⟩:=Q;induction i using Nat.strongRecOn with|_ i ih=>grind);obtain⟨i,Y,d,u⟩:=this;have L:=Da hl f g i u;obtain⟨k,rfl⟩:∃k,n=i+(k+1):=⟨n-i-1,by omega⟩;have y:=runN_add (k:=k+1) L;rw[show A5 (s,w).1 (re (s,w).2 (xF P Good (s,w)) 0)=A5 s (re w (xF P Good (s,w)) 0)from rfl,E]at y;obtain⟨a,b⟩:=xl hl f g i;by_cases F:OS (iA P Good (s,w) i).1;{exact Ef F y.symm C};rcases(a.re (xF P Good (s,w)) (pos P Good (s,w) i)).step hl (λe I=>F ⟨e,I⟩)with⟨s1,w1,M,N⟩|U;{obtain⟨-,-,S⟩:=M.tape hl (a.re _ _) (λe I=>F ⟨e,I⟩);(have:=S (uY P Good (iA P Good (s,w) i)).1 (uY P Good (iA P Good (s,w) i)).2 λj q _=>by show _=xF P Good (s,w) (pos P Good (s,w) i+j) q;rw[GA (i:=i) ⟨VG ..,.inr d⟩,Nat.add_sub_cancel_left]);exact d ⟨F,(s1,_),this⟩};exact Es U y.symm C
end bar
end
structure Env(own RO:Nat->Prop)(CU:Nat->Nat->Prop)(v v1:Xz):Prop where
 keep:∀k,own k\/RO k->v1.heap[k]?=v.heap[k]?
 cut:∀k n,CU k n->∀(x:Array Xv)(t:XG)(fr:Nat×Nat),v.heap[k]?=Xn (.cells x t fr)->∃x' fr',v1.heap[k]?=Xn (.cells x' t fr')/\x'.size=x.size/\∀o,o<n->x'[o]?=x[o]?
 grow:v.heap.size<=v1.heap.size
def Ue(own RO:Nat->Prop)(CU:Nat->Nat->Prop)(e:X9):Prop:=
 (∃k,(match e.loc with|.cell a=>a.block=k|.obj j=>j=k|_=>False)/\(own k\/(RO k/\e.write=Xj))/\e.sync=Xj)\/(∃k n o,CU k n/\o<n/\e=⟨.cell ⟨k,o,Xw⟩,Xj,Xj⟩)\/e.loc=.mark .noRoom\/∃f,e.loc=.mark (.extern f)
def more(own:Nat->Prop)(v v':Xz):Nat->Prop:=λk=>own k\/(v.heap.size<=k/\k<v'.heap.size)
structure lC(own RO:Nat->Prop)(CU:Nat->Nat->Prop)(v v':Xz)(es:Array X9):Prop where
 keep:∀k,k<v.heap.size->¬own k->v'.heap[k]?=v.heap[k]?
 grow:v.heap.size<=v'.heap.size
 os:v'.os=v.os
 out:v'.output=v.output
 tape:v'.tape=v.tape
 evs:∀e∈es,Ue (more own v v') RO CU e
inductive Loc(P:XI)(main:Bool)(RO:Nat->Prop)(CU:Nat->Nat->Prop)(Stop:(Nat->Prop)->XB->Xz->Prop):(Nat->Prop)->XB->Xz->Prop
 |stop{own:Nat->Prop}{g:XB}{v:Xz}:Stop own g v->Loc P main RO CU Stop own g v
 |step{own:Nat->Prop}{g:XB}{v:Xz}:g.status=.running->(∀v1,Env own RO CU v v1->∃g' v' es,XD P main g v1=.go g' v' es/\lC own RO CU v1 v' es)->
  (∀v1 g' v' es,Env own RO CU v v1->XD P main g v1=.go g' v' es->Loc P main RO CU Stop (more own v1 v') g' v')->Loc P main RO CU Stop own g v
structure Reach(c:dW)(r:bQ)(own RO:Nat->Prop)(CU:Nat->Nat->Prop)(v:Xz):Prop where
 Ba:∀b k,r b=Xn k->own k\/(c.seen b/\(RO k\/CU k (c.MK b)))
 old:∀k,own k\/RO k->k<v.heap.size
theorem dU.env(h:dU c r w v)(z:Reach c r own RO CU v)(f:Env own RO CU v v1):dU c r (Go.ab.re w v1.tape v1.drawn) v1:=⟨h.qy,λb k e=>UI (h.Ba b k e) f.grow,h.inj,h.rE,h.hid,λb k e=>by have:=h.blk b k e;rcases z.Ba b k e with g|⟨C,g|g⟩;{rw[f.keep k (.inl g)];exact this};{rw[f.keep k (.inr g)];exact this};show sC c r b w.heap[b]? v1.heap[k]?;revert this;generalize w.heap[b]?=J;generalize j:v.heap[k]?=I;intro this;cases this with|@seen x A t m q s l D y e=>obtain⟨K,p,o,F,E⟩:=f.cut k _ g A m q j;rw[o];refine .seen t m p s l Ω y λi u H a b d=>?_;grind|own n _=>simp_all,rfl,rfl,h.old,h.aL,h.kP.1,U9 h.kP.2 f.grow⟩
theorem Reach.env(a:Reach c r own RO CU v)(b:Env own RO CU v v1):Reach c r own RO CU v1:=⟨a.Ba,λk h=>UI (a.old k h) b.grow⟩
theorem Ext.mine(h:Ext c r w v r' w' v')(m:Reach c r own RO CU v)(u:∀e∈es,sn c r' e):lC own RO CU v v' es/\Reach c r' (more own v v') RO CU v':=by have q:=h.size;have D:=h.grow;(have f:∀b k,r' b=Xn k->more own v v' k\/(c.seen b/\(RO k\/CU k (c.MK b))):=λb k e=>by rcases Vo b w.heap.size with g|g;{rw[h.zr b g]at e;rcases m.Ba b k e with x|x;{exact .inl (.inl x)};simp_all};have n:=h.rel.qy b k e;have o:=h.rel.Ba b k e;rw[h.new b g n]at e;cases e;exact .inl (.inr ⟨by omega,o⟩));refine⟨⟨λk d E=>h.keep k d λb g=>?_,by omega,h.os,h.out,h.tape,λe y=>?_⟩,f,λk d=>?_⟩;{rcases m.Ba b k g with x|x;{simp_all};grind};{rcases u e y with⟨b,g,F,l⟩|x;{(have:∃k,(match e.loc with|.cell a=>a.block=k/\(c.seen b->a.off<c.MK b/\a.spot=Xw)|.obj j=>j=k/\¬c.seen b|_=>False)/\r' b=Xn k:=by grind);obtain⟨k,n,o⟩:=this;(have i:(match e.loc with|.cell a=>a.block=k|.obj j=>j=k|_=>False):=by grind);rcases f b k o with x|⟨q,x|x⟩;{exact .inl ⟨k,i,.inl x,l⟩};{refine .inl ⟨k,i,.inr ⟨x,?_⟩,l⟩;simp_all};refine .inr (.inl ?_);obtain⟨p,I,H⟩:=e;cases p with|cell a=>obtain⟨rfl,t⟩:=n;obtain⟨B,C⟩:=t q;obtain⟨z,A,s⟩:=a;grind|obj j=>simp_all|_=>grind};exact .inr (.inr x)};rcases d with(d|d)|d;{have:=m.old k (.inl d);omega};{exact d.2};have:=m.old k (.inr d);omega
structure Left(c:dW)(r:bQ)(own RO:Nat->Prop)(v:Xz)(own1:Nat->Prop)(v1:Xz):Prop where
 keep:∀k,own k\/RO k->(∀b,r b=Xn k->c.seen b)->v1.heap[k]?=v.heap[k]?
 mine:∀k,own1 k->own k\/v.heap.size<=k
 more:∀k,own k->own1 k
 grow:v.heap.size<=v1.heap.size
theorem Left.refl(c:dW)(r:bQ)(own RO:Nat->Prop)(v:Xz):Left c r own RO v own v:=⟨λ_ _ _=>rfl,λ_ h=>.inl h,λ_ h=>h,UH _⟩
theorem Left.after{own1:Nat->Prop}{v2:Xz}(n:Reach c r own RO CU v)(m:Env own RO CU v v1)(f:Ext c r w v1 r' w' v')(h:Left c r' (Go.ab.more own v1 v') RO v' own1 v2):Left c r own RO v own1 v2:=by have q:=f.size;have p:=f.grow;have j:=m.grow;(have l:∀b k,k<v1.heap.size->r' b=Xn k->r b=Xn k:=λb k a e=>by rcases Vo b w.heap.size with d|d;{rw[<-f.zr b d];exact e};have i:=f.rel.qy b k e;rw[f.new b d i]at e;grind);refine⟨λk a d=>?_,λk a=>?_,λk a=>h.more k (.inl a),by have:=h.grow;omega⟩;{have g:k<v1.heap.size:=UI (n.old k a) j;rw[h.keep k (a.imp .inl id) λb e=>d b (l b k g e),f.keep k g d,m.keep k a]};rcases h.mine k a with(i|i)|i;{grind};{omega};omega
theorem Lone.loc(hl:Listed P c gl)(h:Lone P Good s w):∀{r:bQ}{own:Nat->Prop}{v:Xz}{s':fP},E0 P c gl s->(∃T D,dU c r (re w T D) v)->uM c r s s'->(∀g,gl g=Xs->r g=Xn g)->Reach c r own RO CU v->(∀a x u p n v1,r.le a->Good u n->dU c a n v1->ai c a u p->Reach c a x RO CU v1->Left c r own RO v x v1->Loc P main RO CU Stop x (G (caller.finish p) cs) v1)->Loc P main RO CU Stop own (s'.g (caller::cs)) v:=by induction h with|@done s w U u ht H hd=>intro r own v s' hs⟨T,D,Z⟩Y W b K;obtain⟨f,t,k,ret,st⟩:=s;obtain⟨f',t',k',M,st'⟩:=s';obtain⟨e1,J,e2,e3,I⟩:=Y;simp only at e1 J e2 e3 I H;obtain⟨h1,h2⟩:=ht;simp only at h1 h2;subst f' k' M h1 h2;cases I;(have q:∀v1,Env own RO CU v v1->∃p j a,XD P main ((fP.mk f t' k Xs []).g (caller::cs)) v1=.go (G (caller.finish p) cs) j (seen P f ((results U t').events P v1 #[]))/\Ext c r (re w v1.tape v1.drawn) v1 a (re w v1.tape v1.drawn) j/\ai c a u p/\(∀e∈seen P f ((results U t').events P v1 #[]),sn c a e):=by intro v1 d;have E:dU c r (re w v1.tape v1.drawn) v1:=Z.env b d;have A:=jX U J (P:=P) _ _ E;rw[(hd v1.tape v1.drawn).1]at A;obtain⟨p,j,a,o,l,y,i⟩:=A;exact⟨p,j,a,bJ H o,l,y,λe C=>i e (mem_seen C)⟩);refine .step rfl (λv1 d=>?_) (λv1 g' v' B d C=>?_);{obtain⟨p,j,a,o,l,y,i⟩:=q v1 d;exact⟨_,_,_,o,(l.mine (b.env d) i).1⟩};obtain⟨p,j,a,o,l,y,i⟩:=q v1 d;rw[o]at C;injection C with O Q R;subst O Q R;exact K a _ u p _ j l.le (hd v1.tape v1.drawn).2 l.rel y (l.mine (b.env d) i).2 (Left.after b d l (Left.refl ..))|@step s w X V hall ih=>intro r own v s' hs⟨T,D,Z⟩Y W b K;(have q:∀v1,Env own RO CU v v1->∃z n m j a B,dT P s (re w v1.tape v1.drawn) z n/\E0 P c gl z/\XD P main (s'.g (caller::cs)) v1=.go (m.g (caller::cs)) j B/\Ext c r (re w v1.tape v1.drawn) v1 a n j/\uM c a z m/\(∀e∈B,sn c a e):=by intro v1 d;have E:dU c r (re w v1.tape v1.drawn) v1:=Z.env b d;rcases yR (main:=main) (bs:=caller::cs) hl W E Y hs (λe e'=>X ⟨e,e'⟩)with⟨z,n,S,o,l,m,j,a,B,y,i,N,F⟩|hb;{exact⟨z,n,m,j,a,B,⟨S,o⟩,l,y,i,N,F⟩};obtain⟨z,n,o⟩:=V v1.tape v1.drawn;exact(hb.not o).elim);refine .step rfl (λv1 d=>?_) (λv1 g' v' B d C=>?_);{obtain⟨z,n,m,j,a,B,o,l,y,i,N,F⟩:=q v1 d;exact⟨_,_,_,y,(i.mine (b.env d) F).1⟩};obtain⟨z,n,m,j,a,es',o,l,y,i,N,F⟩:=q v1 d;rw[y]at C;injection C with O Q R;subst O Q R;refine ih v1.tape v1.drawn z n o l ⟨n.tape,n.drawn,i.rel⟩ N (λg e=>i.le _ _ (W g e)) (i.mine (b.env d) F).2 λr2 L u p w2 v3 c1 c2 c3 c4 c5 c6=>?_;exact K r2 L u p w2 v3 (bQ.le_trans i.le c1) c2 c3 c4 c5 (Left.after b d i c6)
def entry(f:XM)(fn:Func)(b:Yg)(args:Array Xv):fP:=⟨f,args++Array.replicate (fn.ntmps-args.size) XJ,[.code b],Xj,[]⟩
theorem uG(p:Listed P c gl){b:Yg}(a:∀v w T D,Good v w->Good v (re w T D))(d:Fit P c gl (entry f fn b args) w)(m:P.funcs[f]?=Xn fn)(l:fn.body=Xn b)(H:∀T,Calls P f args (re w T 0) R)(k:∀e w',R e w'->∃v,e=.returned v/\Good v w'):Lone P Good (entry f fn b args) w:=by refine wy p a d λT=>?_;obtain⟨e,w',g,h,i,s,j⟩:=H T [ft];obtain⟨v,rfl,o⟩:=k e w' h;obtain⟨n,q⟩:=i;refine⟨n,g,w',v,?_,j,o⟩;rw[<-q];congr 1;rw[ie args m,l];rfl
theorem Loc.call(q:Listed P c gl){b:Yg}{args':Array Xv}(j:∀v w T D,Good v w->Good v (re w T D))(E:∀e w',R e w'->∃v,e=.returned v/\Good v w')(o:P.funcs[f]?=Xn fn)(p:c.fns f=Xs)(n:fn.body=Xn b)(t:∀g,gl g=Xs->r g=Xn g)(a:ak c r args args')(i:dU c r w v)(s:Reach c r own RO CU v)(H:∀T,Calls P f args (re w T 0) R)(K:∀m d u A B v1,r.le m->Good u B->dU c m B v1->ai c m u A->Reach c m d RO CU v1->Left c r own RO v d v1->Loc P main RO CU Stop d (G (caller.finish A) cs) v1):Loc P main RO CU Stop own (G (XF.enter P f args' .normal) (caller::cs)) v:=by(have z:E0 P c gl (entry f fn b args):=by refine⟨trivial,?_,λx F=>by simp[entry]at F⟩;obtain⟨I,h|⟨h,C⟩⟩:=q.body f fn p o;{simp_all};rw[n]at h;cases h;simp[entry,bK,C]);have y:uM c r (entry f fn b args) (entry f fn b args'):=⟨rfl,by show ak c r (args++_) (args'++_);rw[a.size];exact a.append (.replicate _ gH),rfl,rfl,.nil⟩;have l:=Fit.Pf z i y t;have k:=uG q j l o n H E;have:=k.loc q (main:=main) (RO:=RO) (CU:=CU) (Stop:=Stop) (caller:=caller) (cs:=cs) z ⟨w.tape,w.drawn,i⟩ y t s K;rw[ie args' o,n];exact this
structure gY where
 k:Nat
 low:Nat
 t:XG
 x:Array Xv
def gY.obj(s:gY):X3:=.cells s.x (if s.low=0 then s.t else wv) (0,s.x.size)
def gG(g:Nat)(ws:List gY)(v:Xz):Xz:={v with heap:=Array.replicate g (.cells #[] 0)++(ws.map gY.obj).toArray}
def jP(P:XI)(fns:XM->Bool)(ws:List gY):dW:=
 {fns:=fns,seen:=λb=>P.globals.size<=b/\b<P.globals.size+ws.length,MK:=λb=>if b<P.globals.size then 0 else((ws[b-P.globals.size]?).map λs=>s.x.size).getD 0,aL:=P.globals.size,
   low:=λb=>if b<P.globals.size then 0 else((ws[b-P.globals.size]?).map λs=>s.low).getD 0}
def lx(g:Nat)(ws:List gY):bQ:=λb=>if b<g then Xw else(ws[b-g]?).map λs=>s.k
theorem fG{ws:List gY}{k:Nat}(h:lx g ws b=Xn k):∃(i:Nat)(s:gY),b=g+i/\ws[i]?=Xn s/\s.k=k/\i<ws.length:=by unfold lx at h;grind
theorem Ln{ws:List gY}{s:gY}(h:ws[i]?=Xn s):lx g ws (g+i)=Xn s.k:=by unfold lx;simp_all
theorem kY(g:Nat)(ws:List gY)(v:Xz):(gG g ws v).heap.size=g+ws.length:=by simp[gG]
theorem vp{ws:List gY}{s:gY}(h:ws[i]?=Xn s):(gG g ws v).heap[g+i]?=Xn s.obj:=by show(Array.replicate g _++_)[g+i]?=_;grind
theorem B3{ws:List gY}(h:b<g):(gG g ws v).heap[b]?=Xn (.cells #[] 0):=by show(Array.replicate g _++_)[b]?=_;grind
theorem im{ws:List gY}{o:Nat}{s:gY}{u:Xv}(h:ws[i]?=Xn s)(a:s.x[o]?=Xn u):(gG g ws v).cell? ⟨g+i,o,Xw⟩=Xn u:=by simp[Xz.cell?,vp h,gY.obj,a]
structure uA(P:XI)(fns:XM->Bool)(ws:List gY)(v:Xz):Prop where
 kP:P.globals.size<=v.heap.size
 bad:P.info? wv=Xw
 at_:∀(i:Nat)(s:gY),ws[i]?=Xn s->∃(x':Array Xv)(t':XG)(fr:Nat×Nat),v.heap[s.k]?=Xn (.cells x' t' fr)/\s.x.size<=x'.size/\(s.low=0->s.t=t')/\
  ∀(j:Nat)(u u':Xv),s.low<=j->s.x[j]?=Xn u->x'[j]?=Xn u'->ai (jP P fns ws) (lx P.globals.size ws) u u'
theorem uA.rel{ws:List gY}(h:uA P fns ws v):dU (jP P fns ws) (lx P.globals.size ws) (gG P.globals.size ws v) v:=by refine⟨λb k e=>?_,λb k e=>?_,λb D k e w=>?_,λb g=>?_,λb g _=>B3 g,λb k e=>?_,rfl,rfl,λb g=>?_,λb k e q=>?_,?_⟩;{obtain⟨i,s,rfl,f,y,m⟩:=fG e;rw[kY];omega};{obtain⟨i,s,rfl,f,rfl,m⟩:=fG e;obtain⟨C,t,o,p,-⟩:=h.at_ i s f;grind};{obtain⟨i,s,rfl,f,y,m⟩:=fG e;obtain⟨I,J,rfl,x,z,A⟩:=fG w;exact .inr ⟨⟨VG _ _,by omega⟩,⟨VG _ _,by omega⟩⟩};{show(if b<P.globals.size then 0 else _)=0;split;{rfl};rename_i H;(have:ws[b-P.globals.size]?=Xw:=by rw[List.getElem?_eq_none_iff];have:¬(P.globals.size<=b/\b<P.globals.size+ws.length):=g;omega);simp_all};{obtain⟨i,s,rfl,f,rfl,m⟩:=fG e;obtain⟨C,t,o,p,B,E,F⟩:=h.at_ i s f;rw[vp f,p];(have l:(jP P fns ws).low (P.globals.size+i)=s.low:=by show(if _<_ then 0 else _)=_;grind);refine .seen _ t o ⟨VG _ _,by omega⟩ ?_ B ⟨λn=>?_,λn=>?_⟩ λj u K a b d=>?_;{show _<=(if _<_ then 0 else _);grind};{simp_all};{rw[l]at n;rw[if_neg n];exact⟨rfl,VG _ _⟩};grind};{rw[kY];exact g.2};{obtain⟨i,s,rfl,f,rfl,m⟩:=fG e;have q:P.globals.size+i<P.globals.size:=q;omega};exact⟨by rw[kY];show P.globals.size<=_;omega,h.kP⟩
theorem ym{ws:List gY}{off:Nat}{s:gY}(h:ws[i]?=Xn s)(a:s.low<=off):c7 (jP P fns ws) (lx P.globals.size ws) ⟨P.globals.size+i,off,Xw⟩ ⟨s.k,off,Xw⟩:=by refine⟨Ln h,rfl,rfl,?_⟩;(have b:¬(P.globals.size+i<P.globals.size):=by omega);show(if P.globals.size+i<P.globals.size then 0 else((ws[P.globals.size+i-P.globals.size]?).map λs=>s.low).getD 0)<=off;grind
section
section bar
variable(P)(Good:fP->Xz->Prop)
end bar
section bar
variable{Good:fP->Xz->Prop}
variable(hl:Listed P c gl)(hGood:∀s w T D,Good s w->Good s (re w T D))
include hl hGood
end bar
end
end Go.ab
namespace Go.Mx
variable{i N:Nat}
structure Wd where
 L:Bool
 W:Bool
 S:Bool
 n:Nat
 deriving DecidableEq
def Wd.enc(w:Wd):Nat:=w.L.toNat+2*w.W.toNat+4*w.S.toNat+8*w.n
def Wd.zero:Wd:=⟨Xj,Xj,Xj,0⟩
theorem Wd.w8{w v:Wd}(h:w.enc=v.enc):w=v:=by obtain⟨a,b,c,n⟩:=w;obtain⟨d,e,f,g⟩:=v;cases a<;>cases b<;>cases c<;>cases d<;>cases e<;>cases f<;>simp[Wd.enc]at h⊢<;>omega
inductive Th
 |out|c0
 |ld(aw st:Bool)
 |cs(old:Wd)
 |ca(old:Wd)(aw st:Bool)
 |sq|t2
 |a1(old:Wd)(st:Bool)
 |hold|u0
 |uc(old:Wd)
 |ux|us
def nw(o:Wd)(aw st:Bool):Wd:=⟨!o.S||o.L,!aw&&o.W,o.S||(st&&o.L),if o.L||o.S then o.n+1 else o.n⟩
inductive Mv:Th->Wd->Nat->Th->Wd->Nat->Prop
 |start{w:Wd}{m:Nat}:Mv .out w m .c0 w m
 |Pa{m:Nat}:Mv .c0 ⟨Xj,Xj,Xj,0⟩ m .hold ⟨Xs,Xj,Xj,0⟩ m
 |Jg{w:Wd}{m:Nat}:w≠⟨Xj,Xj,Xj,0⟩->Mv .c0 w m (.ld Xj Xj) w m
 |SQ{w:Wd}{m:Nat}{aw st:Bool}:Mv (.ld aw st) w m (.ld aw st) w m
 |T3{w:Wd}{m:Nat}{st:Bool}:w.L=Xs->w.S=Xj->w.W=Xj->w.n≠0->Mv (.ld Xj st) w m (.cs w) w m
 |Rj{w:Wd}{m:Nat}{aw st:Bool}:Mv (.ld aw st) w m (.ca w aw st) w m
 |Pb{w:Wd}{m:Nat}:Mv (.cs w) w m (.ld Xs Xj) {w with W:=Xs} m
 |KT{o w:Wd}{m:Nat}:w≠o->Mv (.cs o) w m (.ld Xj Xj) w m
 |LJ{w:Wd}{m:Nat}{aw st:Bool}:w.L=Xj->w.S=Xj->Mv (.ca w aw st) w m .hold (nw w aw st) m
 |Lz{w:Wd}{m:Nat}{aw st:Bool}:(w.L||w.S)=Xs->Mv (.ca w aw st) w m .sq (nw w aw st) m
 |J0{o w:Wd}{m:Nat}{aw st:Bool}:Mv (.ca o aw st) w m (.ld aw st) w m
 |RP{o w:Wd}{m:Nat}{st:Bool}:o.L=Xs->o.S=Xj->o.W=Xj->o.n≠0->Mv (.ca o Xj st) w m (.cs o) w m
 |KW{o w:Wd}{m:Nat}{aw st:Bool}:w≠o->Mv (.ca o aw st) w m (.ld aw st) w m
 |take{w:Wd}{m:Nat}:Mv .sq w (m+1) .t2 w m
 |RI{w:Wd}{m:Nat}{st:Bool}:w.S=Xs->Mv .t2 w m (.a1 w st) w m
 |R6{w:Wd}{m:Nat}{st:Bool}:w.S=Xj->Mv .t2 w m (.ca w Xs st) w m
 |SK{w:Wd}{m:Nat}{st:Bool}:w.S=Xj->Mv .t2 w m (.ld Xs st) w m
 |add{w o:Wd}{m:Nat}{st:Bool}:Mv (.a1 o st) w m .hold ⟨Xs,w.W,st&&o.n !=1,w.n-1⟩ m
 |want{w:Wd}{m:Nat}:Mv .hold w m .u0 w m
 |RN{w:Wd}{m:Nat}:w.S=Xs->Mv .u0 w m .us {w with L:=Xj} m
 |NY{w:Wd}{m:Nat}:w.S=Xj->w.n=0\/w.W=Xs->Mv .u0 w m .out {w with L:=Xj} m
 |RR{w:Wd}{m:Nat}:w.S=Xj->w.n≠0->w.W=Xj->Mv .u0 w m (.uc {w with L:=Xj}) {w with L:=Xj} m
 |PX{w:Wd}{m:Nat}:Mv (.uc w) w m .us {w with W:=Xs,n:=w.n-1} m
 |Mh{o w:Wd}{m:Nat}:w≠o->Mv (.uc o) w m .ux w m
 |Nr{w:Wd}{m:Nat}:w.n=0\/w.L=Xs\/w.W=Xs\/w.S=Xs->Mv .ux w m .out w m
 |Qc{w:Wd}{m:Nat}:w.n≠0->w.L=Xj->w.W=Xj->w.S=Xj->Mv .ux w m (.uc w) w m
 |Ax{w:Wd}{m:Nat}:Mv .us w m .out w (m+1)
def qB:Th->Bool|.hold|.u0=>Xs|_=>Xj
def BU:Th->Bool|.us|.t2|.a1 _ _=>Xs|.ld aw _=>aw|.ca _ aw _=>aw|_=>Xj
def pQ:Th->Bool|.sq=>Xs|_=>Xj
def I':Th->Bool|.us=>Xs|_=>Xj
def CE:Th->Bool|.t2|.a1 _ _=>Xs|_=>Xj
def Jd:Th->Bool|.ld aw _=>aw|.ca _ aw _=>aw|_=>Xj
def P7:Th->Bool|.uc _|.ux=>Xs|_=>Xj
def cnt(p:Th->Bool)(f:Nat->Th):Nat->Nat
 |0=>0
 |N+1=>cnt p f N+(p (f N)).toNat
def upd(f:Nat->Th)(i:Nat)(x:Th):Nat->Th:=λj=>if j=i then x else f j
theorem mS{p:Th->Bool}{f g:Nat->Th}:∀{N:Nat},(∀j,j<N->p (f j)=p (g j))->cnt p f N=cnt p g N|0,_=>rfl|N+1,h=>by simp only[cnt];rw[mS λj b=>h j Ω,h N Ω]
theorem lB(p:Th->Bool)(f:Nat->Th)(x:Th):∀{N:Nat},i<N->cnt p (upd f i x) N+(p (f i)).toNat=cnt p f N+(p x).toNat|N+1,h=>by simp only[cnt];rcases Wg (WO h)with b|rfl;{have:=lB p f x b;(have e:upd f i x N=f N:=by simp[upd];omega);grind};(have:cnt p (upd f i x) i=cnt p f i:=mS λj c=>by simp[upd];grind);rw[this];simp[upd];omega
theorem oI{p:Th->Bool}{f:Nat->Th}:∀{N i:Nat},i<N->p (f i)=Xs->1<=cnt p f N|N+1,i,h,c=>by simp only[cnt];rcases Wg (WO h)with b|rfl;{have:=oI b c;omega};simp_all
theorem pN{p:Th->Bool}{f:Nat->Th}:∀{N i j:Nat},i<j->j<N->p (f i)=Xs->p (f j)=Xs->2<=cnt p f N|N+1,i,j,b,h,c,e=>by simp only[cnt];rcases Wg (WO h)with d|rfl;{have:=pN b d c e;omega};have:=oI b c;simp_all
def fR(w:Wd):Th->Prop
 |.ld aw st=>st=Xs->aw=Xs
 |.ca o aw st=>(st=Xs->aw=Xs)/\(aw=Xs->o.W=Xs)
 |.cs o=>o.L=Xs/\o.S=Xj/\o.W=Xj/\o.n≠0
 |.a1 o _=>w.S=Xs/\w.L=Xj/\1<=o.n/\o.n<=w.n
 |.uc o=>o.L=Xj/\o.W=Xj/\o.S=Xj/\o.n≠0
 |_=>True
structure Inv(f:Nat->Th)(N:Nat)(w:Wd)(m:Nat):Prop where
 i1:cnt qB f N=w.L.toNat
 i2:cnt BU f N+m=(w.W||(w.S&&!w.L)).toNat
 i3:¬(w.W=Xs/\w.S=Xs)
 i4:if w.W then cnt pQ f N=w.n+m+cnt I' f N else if w.S&&!w.L then cnt pQ f N+cnt CE f N=w.n else cnt pQ f N=w.n
 i5:w.L=Xj->w.W=Xj->w.S=Xj->w.n≠0->1<=cnt P7 f N
 i6:w.S=Xs->w.n≠0
 i8:w.W=Xj->cnt Jd f N=0
 loc:∀i,i<N->fR w (f i)
section
theorem vG(f:Nat->Th)(N:Nat):cnt BU f N=cnt I' f N+cnt CE f N+cnt Jd f N:=by induction N with|zero=>rfl|succ N c=>simp only[cnt];(have:∀t:Th,(BU t).toNat=(I' t).toNat+(CE t).toNat+(Jd t).toNat:=by intro t;cases t with|ld a b=>cases a<;>rfl|ca o a b=>cases a<;>rfl|_=>rfl);grind
section
variable{f:Nat->Th}{w w':Wd}{m m':Nat}{x:Th}
theorem wG(a:i<N)(c:fR w' x)(h:∀j,j<N->j≠i->fR w' (f j)):∀j,j<N->fR w' (upd f i x j):=by intro j b;unfold upd;grind
theorem Iy{t:Th}(h:fR w t)(j:w.S=Xs->w.L=Xj->w'.S=Xs/\w'.L=Xj/\w.n<=w'.n):fR w' t:=by cases t with|a1 o l=>obtain⟨d,e,g,k⟩:=h;obtain⟨a,b,c⟩:=j d e;exact⟨a,b,g,by omega⟩|_=>exact h
set_option maxHeartbeats 4000000 in theorem Inv.step(h:Inv f N w m)(c:i<N)(u:Mv (f i) w m x w' m'):Inv (upd f i x) N w' m':=by have g:=lB qB f x c;have k:=lB I' f x c;have l:=lB CE f x c;have q:=lB Jd f x c;have r:=lB pQ f x c;have s:=lB P7 f x c;have s1:=vG f N;have s2:=vG (upd f i x) N;have v:=h.loc i c;have d:∀p:Th->Bool,p (f i)=Xs->1<=cnt p f N:=λp Z=>oI c Z;obtain⟨J,K,M,O,P,Q,R,e⟩:=h;have a:fR w' x->(w.S=Xs->w.L=Xj->w'.S=Xs/\w'.L=Xj/\w.n<=w'.n)->∀j,j<N->fR w' (upd f i x j):=λE F=>wG c E λj t _=>Iy (e j t) F;have H:fR w' x->(∀j,j<N->j≠i->fR w' (f j))->∀j,j<N->fR w' (upd f i x j):=wG c;(have b:fR w' x->(2<=cnt CE f N->False)->CE (f i)=Xs->∀j,j<N->fR w' (upd f i x j):=λE F T=>wG c E λj t I=>by have:=e j t;cases V:f j with|a1 o Y=>refine(F ?_).elim;(have U:CE (f j)=Xs:=by rw[V];rfl);rcases Nat.lt_or_gt_of_ne I with G|G;{exact pN G c U T};exact pN G t T U|_=>rw[V]at this;exact this);have z:=d qB;have A:=d I';have B:=d CE;have C:=d Jd;clear d;generalize hy:f i=y at u g k l q r s v z A B C b;clear hy;obtain⟨L,W,S,n⟩:=w;cases y with|ld D Y=>cases D<;>cases L<;>cases W<;>cases S<;>cases u<;>(try dsimp only[Bool.or_true,Bool.or_false,Bool.true_or,Bool.false_or]at*)<;>(try contradiction)<;>(try simp only[Vk,or_false,false_or]at*)<;>(simp[qB,I',CE,Jd,pQ,P7,nw,fR]at J K M O P Q R g k l q r s v z A B C<;>(refine⟨?_,?_,?_,?_,?_,?_,?_,?_⟩<;>first|(simp[nw]<;>omega)|omega|(refine a ?_ ?_<;>simp[fR,nw]<;>omega)|(refine a ⟨‹_›,‹_›,‹_›,‹_›⟩ ?_;simp;done)|(refine a ⟨‹_›,‹_›,‹_›,‹_›⟩ ?_;simp;omega)|(refine b ?_ (λX=>?_) rfl<;>(try simp[fR,nw])<;>omega)))|ca o D Y=>cases D<;>cases L<;>cases W<;>cases S<;>cases u<;>(try dsimp only[Bool.or_true,Bool.or_false,Bool.true_or,Bool.false_or]at*)<;>(try contradiction)<;>(try simp only[Vk,or_false,false_or]at*)<;>(simp[qB,I',CE,Jd,pQ,P7,nw,fR]at J K M O P Q R g k l q r s v z A B C<;>(refine⟨?_,?_,?_,?_,?_,?_,?_,?_⟩<;>first|(simp[nw]<;>omega)|omega|(refine a ?_ ?_<;>simp[fR,nw]<;>omega)|(refine a ⟨‹_›,‹_›,‹_›,‹_›⟩ ?_;simp;done)|(refine a ⟨‹_›,‹_›,‹_›,‹_›⟩ ?_;simp;omega)|(refine b ?_ (λX=>?_) rfl<;>(try simp[fR,nw])<;>omega)))|_=>cases L<;>cases W<;>cases S<;>cases u<;>(try dsimp only[Bool.or_true,Bool.or_false,Bool.true_or,Bool.false_or]at*)<;>(try contradiction)<;>(try simp only[Vk,or_false,false_or]at*)<;>(simp[qB,I',CE,Jd,pQ,P7,nw,fR]at J K M O P Q R g k l q r s v z A B C<;>(refine⟨?_,?_,?_,?_,?_,?_,?_,?_⟩<;>first|(simp[nw]<;>omega)|omega|(refine a ?_ ?_<;>simp[fR,nw]<;>omega)|(refine b ?_ (λX=>?_) rfl<;>(try simp[fR,nw])<;>omega)))
end
end
theorem oG{p:Th->Bool}{f:Nat->Th}:∀{N:Nat},(∀i,i<N->p (f i)=Xj)->cnt p f N=0|0,_=>rfl|N+1,h=>by simp only[cnt];rw[oG λi b=>h i Ω,h N Ω];rfl
theorem Inv.KG{f:Nat->Th}{w:Wd}(h:Inv f N w 0)(b:∀i,i<N->f i=.out\/f i=.sq):∀i,i<N->f i=.out:=by(have z:∀p:Th->Bool,p .out=Xj->p .sq=Xj->cnt p f N=0:=λp l m=>oG λi a=>by grind);obtain⟨c,d,q,g,j,r,s,k⟩:=h;rw[z qB rfl rfl]at c;rw[z BU rfl rfl]at d;rw[z I' rfl rfl,z CE rfl rfl]at g;rw[z P7 rfl rfl]at j;obtain⟨L,W,S,n⟩:=w;(have o:cnt pQ f N=0:=by grind);intro i a;rcases b i a with e|e;{exact e};have:=oI (p:=pQ) (f:=f) a (by rw[e];rfl);omega
def wt:Th->Nat
 |.uc _|.ux=>5
 |.us=>4
 |.t2|.a1 _ _=>2
 |.ld aw _|.ca _ aw _=>if aw then 1 else 2
 |.cs _=>2
 |.c0=>2
 |_=>0
end Go.Mx
namespace Go.Rk
variable{α:Type}
inductive Rk(α:Type)where
 |z
 |s(f:α->Rk α)
def Lt{α:Type}(a b:Rk α):Prop:=∃f x,b=.s f/\a=f x
theorem Lt.Uk:WellFounded (Lt (α:=α)):=by refine⟨λa=>?_⟩;induction a with|z=>exact⟨_,λb⟨f,x,h,_⟩=>by cases h⟩|s g c=>refine⟨_,λb⟨f,x,h,e⟩=>?_⟩;cases h;rw[e];exact c x
abbrev Dw{α:Type}:Rk α->Rk α->Prop:=Relation.TransGen Lt
theorem Lt.wf:WellFounded (Dw (α:=α)):=Lt.Uk.transGen
theorem rr(f:α->Rk α)(x:α):Dw (f x) (.s f):=.single ⟨f,x,rfl,rfl⟩
theorem Tf(f:α->Rk α)(x:α):Dw (f x) (.s λ_=>.s f):=.tail (.single ⟨f,x,rfl,rfl⟩) ⟨_,x,rfl,rfl⟩
def P5{α:Type}(N:Nat)(V' V:Nat->Rk α):Prop:=∃i,i<N/\Dw (V' i) (V i)/\∀j,j≠i->V' j=V j
theorem P5.wf{α:Type}:∀N:Nat,WellFounded (P5 (α:=α) N)|0=>⟨λV=>⟨_,λc⟨i,h,_⟩=>absurd h (VF i)⟩⟩|N+1=>by have j:=P5.wf (α:=α) N;(have f:∀d:Rk α,∀V:Nat->Rk α,V N=d->Acc (P5 (N+1)) V:=by intro d;induction Lt.wf.apply d with|intro d _ l=>intro V;induction j.apply V with|intro V _ e=>intro g;refine⟨_,λc⟨i,k,b,a⟩=>?_⟩;rcases Wg (WO k)with h|rfl;{exact e c ⟨i,h,b,a⟩ ((a N Ω).trans g)};exact l (c i) (g▸b) c rfl);exact⟨λV=>f _ V rfl⟩
end Go.Rk
namespace Go.Cr
open Go.Conc Go.Mx Go.Rk
open Go.ConcR(KK WgAt stA smA rd wr mk)
open Go.ConcM(OsLater)
variable{g g':XB}{own' O:Nat->Prop}{es:Array X9}{v':Xz}
section
structure Cx where
 P:XI
 RO:Nat->Prop
 mu:Nat
 mo:Nat
 pre:Array Xv
 tP:XG
 mm:Nat
 BN:Array Ye->Prop
 wg:Nat
 tW:XG
 out:Nat
 tO:XG
 no:Nat
 oc:Nat->Nat->Prop
 res:Nat->Xv
 base:Nat
 n:Nat
 End:XB->Xz->Prop
 w0:Xz
 solo:Prop
 halt:(Nat->Prop)->XB->Xz->Prop
 tQ:Int->Int->X3
variable(C:Cx)
def Cx.muA:X7:=⟨C.mu,C.mo,Xw⟩
def Cx.msA:X7:=⟨C.mu,C.mo+1,Xw⟩
def aB(v:Xz)(s q:Int):Prop:=v.heap[C.mu]?=Xn (.cells (C.pre++#[.int .i32 s,.int .u32 q]) C.tP)
def cH(v:Xz)(w:Wd)(q:Nat):Prop:=aB C v w.enc q
def Qr(v:Xz)(es:Array Ye):Prop:=∃ck,v.heap[C.mm]?=Xn (.map es ck)
def au(v:Xz):Prop:=∃es,Qr C v es/\C.BN es
def Ck(v:Xz):Prop:=∃cs:Array Xv,v.heap[C.out]?=Xn (.cells cs C.tO)/\cs.size=C.no
structure cV(v:Xz):Prop where
 port:∃s q,aB C v s q
 gC:∃st sm,v.heap[C.wg]?=Xn (C.tQ st sm)
 uB:Ck C v
structure W0(w:Xz):Prop where
 os:OsLater C.w0.os w.os
 out:w.output=C.w0.output
 tape:w.tape=C.w0.tape
structure Cx.Ok:Prop where
 pre:C.pre.size=C.mo
 lP:C.mu≠C.mm
 gd:C.mu≠C.wg
 fW:C.mu≠C.out
 nW:C.mm≠C.wg
 mP:C.mm≠C.out
 iS:C.wg≠C.out
 ro:∀k,C.RO k->k≠C.mu/\k≠C.mm/\k≠C.wg/\k≠C.out
 oc:∀i j o,C.oc i o->C.oc j o->i=j
 Uu:∀o,¬C.oc 0 o
structure Env(i:Nat)(own:Nat->Prop)(v v1:Xz):Prop where
 keep:∀k,own k\/C.RO k->v1.heap[k]?=v.heap[k]?
 grow:v.heap.size<=v1.heap.size
 aL:cV C v->cV C v1
 AT:∀o,C.oc i o->v1.cell? ⟨C.out,o,Xw⟩=v.cell? ⟨C.out,o,Xw⟩
def Cx.CU(k n:Nat):Prop:=k=C.mu/\n<=C.mo
def Cx.wk(i:Nat):Prop:=i≠0\/C.solo
def qT(own:Nat->Prop)(e:X9):Prop:=ab.Ue own C.RO (λ_ _=>False) e\/∃o,o<C.mo/\e=⟨.cell ⟨C.mu,o,Xw⟩,Xj,Xj⟩
structure lC(own:Nat->Prop)(v v':Xz)(es:Array X9):Prop where
 keep:∀k,k<v.heap.size->¬own k->v'.heap[k]?=v.heap[k]?
 grow:v.heap.size<=v'.heap.size
 os:v'.os=v.os
 out:v'.output=v.output
 tape:v'.tape=v.tape
 evs:∀e∈es,qT C (ab.more own v v') e
structure SW(i:Nat)(v v':Xz)(es:Array X9):Prop where
 keep:∀k,k≠C.out->v'.heap[k]?=v.heap[k]?
 size:v'.heap.size=v.heap.size
 os:v'.os=v.os
 out:v'.output=v.output
 tape:v'.tape=v.tape
 blk:Ck C v->Ck C v'
 cells:∀o,¬C.oc i o->v'.cell? ⟨C.out,o,Xw⟩=v.cell? ⟨C.out,o,Xw⟩
 evs:∀e∈es,∃o,C.oc i o/\e=⟨.cell ⟨C.out,o,Xw⟩,Xs,Xj⟩
def Fin(i:Nat)(v:Xz):Prop:=∀o,C.oc i o->v.cell? ⟨C.out,o,Xw⟩=Xn (C.res o)
structure DL(w w':Xz)(es:Array X9):Prop where
 heap:w'.heap=w.heap
 tape:w'.tape=w.tape
 out:w'.output=w.output
 os:OsLater w.os w'.os
 evs:es=#[]
structure Md where
 hold:Bool
 deaf:Bool
 tok:Bool
 said:Bool
def Md.free:Md:=⟨Xj,Xj,Xj,Xj⟩
def Md.bH:Md:=⟨Xj,Xs,Xj,Xj⟩
def Md.mh:Md:=⟨Xs,Xs,Xj,Xj⟩
def Md.AP:Md:=⟨Xs,Xj,Xj,Xj⟩
def Md.own:Md:=⟨Xs,Xj,Xs,Xj⟩
def Md.yf:Md:=⟨Xj,Xj,Xj,Xs⟩
def Md.vx:Md:=⟨Xj,Xs,Xj,Xs⟩
def fj(m:Md)(own:Nat->Prop):Nat->Prop:=λk=>own k\/(m.tok=Xs/\k=C.mm)
inductive iX(i:Nat):Md->Mark->Md->Prop
 |P9:iX i .free .disable .bH
 |Jm:iX i .AP .disable .mh
 |Kh:iX i .yf .disable .vx
 |en:iX i .bH .enable .free
 |RS:iX i .mh .enable .AP
 |acq:iX i .AP (.acquire C.muA) .own
 |DV:iX i .own (.releaseMerge C.muA) .AP
 |El:i≠0->iX i .free (.releaseMerge (stA C.wg)) .yf
 |sr{m:Md}:i=0->m.tok=Xj->iX i m (.read (smA C.wg)) m
section stops
variable(i:Nat)(own:Nat->Prop)
abbrev cF(S:XB->Xz->Prop)(n:Nat)(g:XB)(w:Xz):Prop:=Goes C.P (i==0) (Env C i own) DL S n g w
section lock
variable(H:Wd->Bool->Bool->Nat->XB->Xz->Prop)(Q:XB->Xz->Prop)
def uH(aw st:Bool)(it:Nat)(g:XB)(w:Xz):Prop:=
 g.status=.running/\∀wd q,cH C w wd q->(aw=Xs->wd.W=Xs)->∃g',XD C.P (i==0) g w=.go g' w #[]/\∃n,cF C i own (H wd aw st it) n g' w
def PW(o:Wd)(it:Nat)(g:XB)(w:Xz):Prop:=
 g.status=.running/\∀wd q,cH C w wd q->
   (wd=o->∃g',XD C.P (i==0) g w=.go g' (w.setCell C.muA (.int .i32 ({wd with W:=Xs}:Wd).enc)) #[rd C.muA,wr C.muA]/\∃n,cF C i own (uH C i own H Xs Xj (it+1)) n g' (w.setCell C.muA (.int .i32 ({wd with W:=Xs}:Wd).enc)))/\
   (wd≠o->∃g',XD C.P (i==0) g w=.go g' w #[rd C.muA]/\∃n,cF C i own (uH C i own H Xj Xj (it+1)) n g' w)
def AtA1(o:Wd)(st:Bool)(g:XB)(w:Xz):Prop:=
 g.status=.running/\∀wd q,cH C w wd q->wd.n<100000000->wd.L=Xj->wd.S=Xs->wd.n≠0->
   ∃g',XD C.P (i==0) g w=.go g' (w.setCell C.muA (.int .i32 (⟨Xs,wd.W,st&&o.n !=1,wd.n-1⟩:Wd).enc)) #[rd C.muA,wr C.muA]/\Q g' (w.setCell C.muA (.int .i32 (⟨Xs,wd.W,st&&o.n !=1,wd.n-1⟩:Wd).enc))
def Jx(g:XB)(w:Xz):Prop:=
 g.status=.running/\∃st,∀wd q,cH C w wd q->wd.n<100000000->(wd.S=Xs->wd.L=Xj/\wd.W=Xj/\wd.n≠0)->(wd.S=Xj->wd.W=Xs)->∃g',XD C.P (i==0) g w=.go g' w #[]/\
   (wd.S=Xs->∃n,cF C i own (AtA1 C i Q wd st) n g' w)/\(wd.S=Xj->∃n,cF C i own (H wd Xs st 0) n g' w)
def DG(g:XB)(w:Xz):Prop:=
 g.status=.running/\g.offers=Xw/\(∀wd,cH C w wd 0->XD C.P (i==0) g w=.go {g with status:=.blocked} w #[])/\
   ∀wd q,cH C w wd (q+1)->∃g',XD C.P (i==0) g w=.go g' (w.setCell C.msA (.int .u32 (q:Nat))) (semEvents C.msA)/\∃n,cF C i own (Jx C i own H Q) n g' (w.setCell C.msA (.int .u32 (q:Nat)))
def OV(o:Wd)(aw st:Bool)(it:Nat)(g:XB)(w:Xz):Prop:=
 g.status=.running/\∀wd q,cH C w wd q->
   (wd=o->∃g',XD C.P (i==0) g w=.go g' (w.setCell C.muA (.int .i32 (nw o aw st).enc)) #[rd C.muA,wr C.muA]/\
    (o.L=Xj->o.S=Xj->Q g' (w.setCell C.muA (.int .i32 (nw o aw st).enc)))/\((o.L||o.S)=Xs->∃n,cF C i own (DG C i own H Q) n g' (w.setCell C.muA (.int .i32 (nw o aw st).enc))))/\
   (wd≠o->∃g',XD C.P (i==0) g w=.go g' w #[rd C.muA]/\∃n,cF C i own (uH C i own H aw st it) n g' w)
def gU(o:Wd)(aw st:Bool)(it:Nat)(g:XB)(w:Xz):Prop:=
 (it<4/\uH C i own H aw st (it+1) g w)\/(it<4/\o.L=Xs/\o.S=Xj/\o.W=Xj/\o.n≠0/\aw=Xj/\PW C i own H o it g w)\/OV C i own H Q o aw st it g w
def jm:Prop:=∀o aw st it g w,it<=4->(aw=Xs->o.W=Xs)->(st=Xs->aw=Xs)->o.n<100000000->H o aw st it g w->∃n,cF C i own (gU C i own H Q o aw st it) n g w
end lock
section unlock
variable(HU:Wd->XB->Xz->Prop)(Q:XB->Xz->Prop)
def Bv(g:XB)(w:Xz):Prop:=
 g.status=.running/\mayWake C.P g=Xs/\∀wd q,q<100000000->cH C w wd q->∃g',XD C.P (i==0) g w=.go g' (w.setCell C.msA (.int .u32 (q+1:Nat))) (semEvents C.msA)/\∃n,cF C i own Q n g' (w.setCell C.msA (.int .u32 (q+1:Nat)))
def Jh(g:XB)(w:Xz):Prop:=
 g.status=.running/\∀wd q,cH C w wd q->wd.n<100000000->∃g',XD C.P (i==0) g w=.go g' w #[]/\
   (wd.n=0\/wd.L=Xs\/wd.W=Xs\/wd.S=Xs->∃n,cF C i own Q n g' w)/\(wd.n≠0->wd.L=Xj->wd.W=Xj->wd.S=Xj->∃n,cF C i own (HU wd) n g' w)
def EK(o:Wd)(g:XB)(w:Xz):Prop:=
 g.status=.running/\∀wd q,cH C w wd q->
   (wd=o->∃g',XD C.P (i==0) g w=.go g' (w.setCell C.muA (.int .i32 ({wd with W:=Xs,n:=wd.n-1}:Wd).enc)) #[rd C.muA,wr C.muA]/\∃n,cF C i own (Bv C i own Q) n g' (w.setCell C.muA (.int .i32 ({wd with W:=Xs,n:=wd.n-1}:Wd).enc)))/\
   (wd≠o->∃g',XD C.P (i==0) g w=.go g' w #[rd C.muA]/\∃n,cF C i own (Jh C i own HU Q) n g' w)
def B8:Prop:=∀o g w,o.L=Xj->o.W=Xj->o.S=Xj->o.n≠0->o.n<100000000->HU o g w->∃n,cF C i own (EK C i own HU Q o) n g w
def Pj(g:XB)(w:Xz):Prop:=
 g.status=.running/\∀wd q,cH C w wd q->wd.L=Xs->wd.n<100000000->
   ∃g',XD C.P (i==0) g w=.go g' (w.setCell C.muA (.int .i32 ({wd with L:=Xj}:Wd).enc)) #[rd C.muA,wr C.muA]/\
     (wd.S=Xs->∃n,cF C i own (Bv C i own Q) n g' (w.setCell C.muA (.int .i32 ({wd with L:=Xj}:Wd).enc)))/\
     (wd.S=Xj->(wd.n=0\/wd.W=Xs)->∃n,cF C i own Q n g' (w.setCell C.muA (.int .i32 ({wd with L:=Xj}:Wd).enc)))/\
     (wd.S=Xj->wd.n≠0->wd.W=Xj->∃n,cF C i own (EK C i own HU Q {wd with L:=Xj}) n g' (w.setCell C.muA (.int .i32 ({wd with L:=Xj}:Wd).enc)))
end unlock
def Pp(H:Wd->Bool->Bool->Nat->XB->Xz->Prop)(Q:XB->Xz->Prop)(g:XB)(w:Xz):Prop:=
 g.status=.running/\∀wd q,cH C w wd q->
   (wd=⟨Xj,Xj,Xj,0⟩->∃g',XD C.P (i==0) g w=.go g' (w.setCell C.muA (.int .i32 1)) #[rd C.muA,wr C.muA]/\Q g' (w.setCell C.muA (.int .i32 1)))/\
   (wd≠⟨Xj,Xj,Xj,0⟩->∃g',XD C.P (i==0) g w=.go g' w #[rd C.muA]/\∃n,cF C i own (uH C i own H Xj Xj 0) n g' w)
def AtD4(g:XB)(w:Xz):Prop:=
 g.status=.running/\mayWake C.P g=Xs/\(WgAt C.tW C.wg w 0 0->∃g',XD C.P (i==0) g w=.go g' (w.setCell (smA C.wg) (.int .u32 1)) (semEvents (smA C.wg))/\∃q,QuitsD C.P q 1 g')
def AtD3(g:XB)(w:Xz):Prop:=
 g.status=.running/\(WgAt C.tW C.wg w 1 0->∃g',XD C.P (i==0) g w=.go g' (w.setCell (stA C.wg) (.int .u64 0)) #[wr (stA C.wg)]/\∃n,cF C i own (AtD4 C i) n g' (w.setCell (stA C.wg) (.int .u64 0)))
def AtD2(g:XB)(w:Xz):Prop:=
 g.status=.running/\(WgAt C.tW C.wg w 1 0->∃g',XD C.P (i==0) g w=.go g' w #[rd (stA C.wg)]/\∃n,cF C i own (AtD3 C i own) n g' w)
def AtD1(g:XB)(w:Xz):Prop:=
 g.status=.running/\∀v wt:Nat,wt<=1->v<100000000->WgAt C.tW C.wg w ((v+1)*KK+wt) 0->
   ∃g',XD C.P (i==0) g w=.go g' (w.setCell (stA C.wg) (.int .u64 (v*KK+wt))) #[rd (stA C.wg),wr (stA C.wg)]/\
     ((v=0/\wt=1)->∃n,cF C i own (AtD2 C i own) n g' (w.setCell (stA C.wg) (.int .u64 (v*KK+wt))))/\(¬(v=0/\wt=1)->∃q,QuitsD C.P q 1 g')
section wait
variable(A:XB->Xz->Prop)
def AtAcq(g:XB)(w:Xz):Prop:=
 g.status=.running/\∃g',XD C.P (i==0) g w=.go g' w #[mk (.acquire (stA C.wg))]/\(cV C w->(∀j,Fin C j w)->cH C w ⟨Xj,Xj,Xj,0⟩ 0->W0 C w->C.End g' w)
def AtKe(g:XB)(w:Xz):Prop:=
 g.status=.running/\∃g',XD C.P (i==0) g w=.go g' w #[mk .enable]/\∃n,cF C i own (AtAcq C i) n g' w
def AtW4(g:XB)(w:Xz):Prop:=
 g.status=.running/\(WgAt C.tW C.wg w 0 0->∃g',XD C.P (i==0) g w=.go g' w #[rd (stA C.wg)]/\∃n,cF C i own (AtKe C i own) n g' w)
def AtW3(g:XB)(w:Xz):Prop:=
 g.status=.running/\g.offers=Xw/\((∃st,WgAt C.tW C.wg w st 0)->XD C.P (i==0) g w=.go {g with status:=.blocked} w #[])/\
   (WgAt C.tW C.wg w 0 1->∃g',XD C.P (i==0) g w=.go g' (w.setCell (smA C.wg) (.int .u32 0)) (semEvents (smA C.wg))/\∃n,cF C i own (AtW4 C i own) n g' (w.setCell (smA C.wg) (.int .u32 0)))
def Sn(g:XB)(w:Xz):Prop:=
 g.status=.running/\∃g',XD C.P (i==0) g w=.go g' w #[mk (.write (smA C.wg))]/\∃n,cF C i own (AtW3 C i own) n g' w
def AtW2(vs:Nat)(g:XB)(w:Xz):Prop:=
 g.status=.running/\∀v:Nat,v<100000000->WgAt C.tW C.wg w (v*KK) 0->
   (v=vs->∃g',XD C.P (i==0) g w=.go g' (w.setCell (stA C.wg) (.int .u64 (v*KK+1))) #[rd (stA C.wg),wr (stA C.wg)]/\∃n,cF C i own (Sn C i own) n g' (w.setCell (stA C.wg) (.int .u64 (v*KK+1))))/\
   (v≠vs->∃g',XD C.P (i==0) g w=.go g' w #[rd (stA C.wg)]/\∃n,cF C i own A n g' w)
def AtW1(g:XB)(w:Xz):Prop:=
 g.status=.running/\∀v:Nat,v<100000000->WgAt C.tW C.wg w (v*KK) 0->∃g',XD C.P (i==0) g w=.go g' w #[rd (stA C.wg)]/\
   (v=0->∃n,cF C i own (AtKe C i own) n g' w)/\(v≠0->∃n,cF C i own (AtW2 C i own A v) n g' w)
def zZ:Prop:=∀g w,A g w->∃n,cF C i own (AtW1 C i own A) n g w
end wait
def T5(c:Nat->XB->Xz->Prop)(g:XB)(w:Xz):Prop:=
 g.status=.running/\∀v:Nat,v<100000000->WgAt C.tW C.wg w (v*KK) 0->
   ∃g',XD C.P (i==0) g w=.go g' (w.setCell (stA C.wg) (.int .u64 ((v+1)*KK))) #[rd (stA C.wg),wr (stA C.wg)]/\c v g' (w.setCell (stA C.wg) (.int .u64 ((v+1)*KK)))
end stops
abbrev Ix:=XB×Xz×Xz
inductive fH:Nat->Nat->Md->Rk Ix->(Nat->Prop)->XB->Xz->Prop
 |step{i j:Nat}{m:Md}{f:Ix->Rk Ix}{own:Nat->Prop}{g:XB}{v:Xz}:g.status=.running->m.said=Xj->
  (∀v1,Env C i (fj C m own) v v1->∃g' v' es,XD C.P (i==0) g v1=.go g' v' es/\lC C (fj C m own) v1 v' es)->
  (∀v1 g' v' es,Env C i (fj C m own) v v1->XD C.P (i==0) g v1=.go g' v' es->fH i j m (f (g',v1,v')) (ab.more own v1 v') g' v')->fH i j m (.s f) own g v
 |idle{i j:Nat}{m:Md}{f:Ix->Rk Ix}{own:Nat->Prop}{g:XB}{v:Xz}:g.status=.running->
  (∀v1,Env C i (fj C m own) v v1->∃g' v',XD C.P (i==0) g v1=.go g' v' #[]/\DL v1 v' #[])->
  (∀v1 g' v' es,Env C i (fj C m own) v v1->XD C.P (i==0) g v1=.go g' v' es->fH i j m (f (g',v1,v')) own g' v')->fH i j m (.s f) own g v
 |mark{i j:Nat}{m m':Md}{k:Mark}{f:Ix->Rk Ix}{own:Nat->Prop}{g:XB}{v:Xz}:g.status=.running->iX C i m k m'->
  (∀v1,Env C i (fj C m own) v v1->∃g',XD C.P (i==0) g v1=.go g' v1 #[mk k])->(k=.releaseMerge C.muA->m=.own/\au C v)->(k=.releaseMerge (stA C.wg)->Fin C i v)->
  (∀v1 g' v' es,Env C i (fj C m own) v v1->(k=.acquire C.muA->au C v1)->XD C.P (i==0) g v1=.go g' v' es->fH i j m' (f (g',v1,v1)) own g' v1)->fH i j m (.s f) own g v
 |lock{i j:Nat}{f:Ix->Rk Ix}{own:Nat->Prop}{g:XB}{v:Xz}(H:Wd->Bool->Bool->Nat->XB->Xz->Prop)(Q:XB->Xz->Prop):g.status=.running->C.wk i->
  (∀g v1 v2,Q g v1->Env C i own v1 v2->Q g v2)->jm C i own H Q->(∀v1,Env C i own v v1->Pp C i own H Q g v1)->
  (∀g' v1,Env C i own v v1->Q g' v1->fH i j .mh (f (g',v1,v1)) own g' v1)->fH i j .bH (.s λ_=>.s f) own g v
 |unlock{i j:Nat}{f:Ix->Rk Ix}{own:Nat->Prop}{g:XB}{v:Xz}(HU:Wd->XB->Xz->Prop)(Q:XB->Xz->Prop):g.status=.running->C.wk i->
  (∀g v1 v2,Q g v1->Env C i own v1 v2->Q g v2)->B8 C i own HU Q->(∀v1,Env C i own v v1->Pj C i own HU Q g v1)->
  (∀g' v1,Env C i own v v1->Q g' v1->fH i j .bH (f (g',v1,v1)) own g' v1)->fH i j .mh (.s λ_=>.s f) own g v
 |put{i j:Nat}{f:Ix->Rk Ix}{own:Nat->Prop}{g:XB}{v:Xz}:g.status=.running->i≠0->
  (∀v1,Env C i own v v1->cV C v1->∃g' v' es,XD C.P (i==0) g v1=.go g' v' es/\SW C i v1 v' es)->
  (∀v1 g' v' es,Env C i own v v1->cV C v1->XD C.P (i==0) g v1=.go g' v' es->fH i j .free (f (g',v1,v')) own g' v')->fH i j .free (.s f) own g v
 |done{i j:Nat}{own:Nat->Prop}{g:XB}{v:Xz}:i≠0->(∀v1,Env C i own v v1->AtD1 C i own g v1)->fH i j .vx (.s λ_=>.z) own g v
 |add{i x:Nat}{f:Ix->Rk Ix}{own:Nat->Prop}{g:XB}{v:Xz}(c:Nat->XB->Xz->Prop):i=0->(∀v1,Env C i own v v1->T5 C i c g v1)->
  (∀v1 y g',Env C i own v v1->c y g' v1->fH i (2*x+1) .bH (f (g',v1,v1)) own g' v1)->fH i (2*x) .bH (.s f) own g v
 |spawn{i x:Nat}{f ρ:Ix->Rk Ix}{own ownc:Nat->Prop}{g:XB}{v:Xz}:i=0->g.status=.running->x<C.n->(∀k,ownc k->own k)->
  (∀v1,Env C i own v v1->∃g' child,XD C.P (i==0) g v1=.spawn g' child v1 #[]/\child.status=.running)->
  (∀v1 g' child v' es,Env C i own v v1->XD C.P (i==0) g v1=.spawn g' child v' es->fH (C.base+x) 0 .free (ρ (child,v1,v1)) ownc child v1)->
  (∀v1 g' child v' es,Env C i own v v1->XD C.P (i==0) g v1=.spawn g' child v' es->fH i (2*x+2) .free (f (g',v1,v1)) (λk=>own k/\¬ownc k) g' v1)->
  fH i (2*x+1) .free (.s f) own g v
 |wait{i:Nat}{own:Nat->Prop}{g:XB}{v:Xz}(A:XB->Xz->Prop):i=0->zZ C i own A->(∃n,cF C i own A n g v)->fH i (2*C.n) .bH .z own g v
 |stop{i j:Nat}{own:Nat->Prop}{g:XB}{v:Xz}:C.solo->g.status=.running->(∀v1,Env C i own v v1->C.halt own g v1)->fH i j .free .z own g v
end
section
variable{C:Cx}{i j:Nat}{m:Md}{own:Nat->Prop}{v v1 v2:Xz}
theorem Env.refl:Env C i own v v:=⟨λ_ _=>rfl,UH _,id,λ_ _=>rfl⟩
theorem Env.trans(h:Env C i own v v1)(k:Env C i own v1 v2):Env C i own v v2:=⟨λx b=>(k.keep x b).trans (h.keep x b),U9 h.grow k.grow,λx=>k.aL (h.aL x),λo a=>(k.AT o a).trans (h.AT o a)⟩
theorem Env.sub(h:Env C i own v v1)(b:∀k,own' k->own k):Env C i own' v v1:=⟨λk a=>h.keep k (a.imp (b k) id),h.grow,h.aL,h.AT⟩
theorem Env.fD(h:Env C i (fj C m own) v v1):Env C i own v v1:=h.sub λ_ a=>.inl a
theorem Env.L6(h:Env C i own v v1)(b:m.tok=Xj):Env C i (fj C m own) v v1:=h.sub λ_ a=>a.resolve_right (by simp[b])
theorem Env.Uj(l:C.pre.size=C.mo)(a:cV C v)(h:Env C i O v v1):ab.Env O C.RO C.CU v v1:=⟨h.keep,λk n e x t f p=>by obtain⟨rfl,o⟩:=e;obtain⟨s,q,c⟩:=a.port;obtain⟨u,r,d⟩:=(h.aL a).port;unfold aB at c d;grind,h.grow⟩
theorem bM(a b c:Xz)(h:Env C i own a b)(k:Env C i own b c):Env C i own a c:=h.trans k
theorem au.env(h:au C v)(e:Env C i own v v1)(f:own C.mm):au C v1:=by obtain⟨b,⟨a,d⟩,c⟩:=h;exact⟨b,⟨a,(e.keep _ (.inl f)).trans d⟩,c⟩
theorem Fin.env(h:Fin C i v)(b:Env C i own v v1):Fin C i v1:=λo a=>(b.AT o a).trans (h o a)
theorem fH.env{ρ:Rk Ix}(h:fH C i j m ρ own g v)(b:Env C i (fj C m own) v v1):fH C i j m ρ own g v1:=by cases h with|step d f k p=>exact .step d f (λx a=>k x (b.trans a)) λx l q o a=>p x l q o (b.trans a)|idle d f k=>exact .idle d (λx a=>f x (b.trans a)) λx l q o a=>k x l q o (b.trans a)|mark d f k p s t=>exact .mark d f (λx a=>k x (b.trans a)) (λe=>⟨(p e).1,(p e).2.env b (by rw[(p e).1];exact .inr ⟨rfl,rfl⟩)⟩) (λe=>(s e).env b) λx l q o a=>t x l q o (b.trans a)|lock H Q d r f k p s=>exact .lock H Q d r f k (λx a=>p x (b.fD.trans a)) λl x a=>s l x (b.fD.trans a)|unlock H Q d r f k p s=>exact .unlock H Q d r f k (λx a=>p x (b.fD.trans a)) λl x a=>s l x (b.fD.trans a)|put d r f k=>exact .put d r (λx a=>f x (b.fD.trans a)) λx l q o a=>k x l q o (b.fD.trans a)|done r d=>exact .done r λx a=>d x (b.fD.trans a)|add c d f k=>exact .add c d (λx a=>f x (b.fD.trans a)) λx y l a=>k x y l (b.fD.trans a)|spawn d f k p s t u=>exact .spawn d f k p (λx a=>s x (b.fD.trans a)) (λx l c q o a=>t x l c q o (b.fD.trans a)) λx l c q o a=>u x l c q o (b.fD.trans a)|wait A d f k=>exact .wait A d f (k.imp λn w=>w.rely bM b.fD)|stop d f k=>exact .stop d f λx a=>k x (b.fD.trans a)
theorem fH.running{ρ:Rk Ix}(h:fH C i j m ρ own g v):g.status=.running\/∃n A,cF C i own A n g v/\zZ C i own A:=by cases h with|wait A b a d=>grind|done _ h=>exact .inl (h v .refl).1|add c b a=>exact .inl (a v .refl).1|_=>simp_all
def af(C:Cx)(i j:Nat)(m:Md)(own:Nat->Prop)(g:XB)(v:Xz):Prop:=∃ρ,fH C i j m ρ own g v
open Classical in
noncomputable def xK(p:Ix->Rk Ix->Prop)(x:Ix):Rk Ix:=if h:∃ρ,p x ρ then Classical.choose h else .z
theorem fM{p:Ix->Rk Ix->Prop}{x:Ix}(h:∃ρ,p x ρ):p x (xK p x):=by unfold xK;grind
theorem af.env(h:af C i j m own g v)(a:Env C i (fj C m own) v v1):af C i j m own g v1:=h.imp λ_ k=>k.env a
theorem wF{w w':Xz}{es':Array X9}(h:GStep.go g w es=.go g' w' es'):g=g'/\w=w'/\es=es':=by simp_all
theorem af.step(q:g.status=.running)(o:m.said=Xj)(h:∀v1,Env C i (fj C m own) v v1->∃g' d es,XD C.P (i==0) g v1=.go g' d es/\lC C (fj C m own) v1 d es/\af C i j m (ab.more own v1 d) g' d):af C i j m own g v:=by refine⟨.s (xK λx f=>fH C i j m f (ab.more own x.2.1 x.2.2) x.1 x.2.2),.step q o (λx k=>?_) λx g' d es k e=>?_⟩;{grind};obtain⟨n,v2,l,a,_,c⟩:=h x k;rw[a]at e;obtain⟨rfl,rfl,rfl⟩:=wF e;exact fM (p:=λx f=>fH C i j m f (ab.more own x.2.1 x.2.2) x.1 x.2.2) c
theorem af.idle(l:g.status=.running)(h:∀v1,Env C i (fj C m own) v v1->∃g' b,XD C.P (i==0) g v1=.go g' b #[]/\DL v1 b #[]/\af C i j m own g' b):af C i j m own g v:=by refine⟨.s (xK λx d=>fH C i j m d own x.1 x.2.2),.idle l (λx f=>?_) λx g' b n f e=>?_⟩;{grind};obtain⟨k,v2,a,_,c⟩:=h x f;rw[a]at e;obtain⟨rfl,rfl,rfl⟩:=wF e;exact fM (p:=λx d=>fH C i j m d own x.1 x.2.2) c
theorem cJ(w:Xz):DL w w #[]:=⟨rfl,rfl,rfl,.refl _,rfl⟩
theorem af.ctl(a:g.status=.running)(h:∀w,XD C.P (i==0) g w=.go g' w #[])(k:af C i j m own g' v):af C i j m own g v:=.idle a λx b=>⟨g',x,h x,cJ x,k.env b⟩
theorem af.mark{m':Md}{k:Mark}(r:g.status=.running)(q:iX C i m k m')(l:k=.releaseMerge C.muA->m=.own/\au C v)(n:k=.releaseMerge (stA C.wg)->Fin C i v)(h:∀v1,Env C i (fj C m own) v v1->∃g',XD C.P (i==0) g v1=.go g' v1 #[mk k]/\((k=.acquire C.muA->au C v1)->af C i j m' own g' v1)):af C i j m own g v:=by refine⟨.s (xK λx b=>fH C i j m' b own x.1 x.2.1),.mark r q (λx d=>?_) l n λx g' u t d o e=>?_⟩;{grind};obtain⟨f,a,c⟩:=h x d;rw[a]at e;obtain⟨rfl,rfl,rfl⟩:=wF e;exact fM (p:=λx b=>fH C i j m' b own x.1 x.2.1) (c o)
theorem af.lock(d:C.wk i)(H:Wd->Bool->Bool->Nat->XB->Xz->Prop)(Q:XB->Xz->Prop)(l:g.status=.running)(c:∀g v1 v2,Q g v1->Env C i own v1 v2->Q g v2)(b:jm C i own H Q)(h:∀v1,Env C i own v v1->Pp C i own H Q g v1)(k:∀g' v1,Env C i own v v1->Q g' v1->af C i j .mh own g' v1):af C i j .bH own g v:=⟨_,.lock H Q l d c b h λg' x n e=>fM (p:=λx a=>fH C i j .mh a own x.1 x.2.1) (k g' x n e)⟩
theorem af.unlock(e:C.wk i)(a:Wd->XB->Xz->Prop)(Q:XB->Xz->Prop)(n:g.status=.running)(d:∀g v1 v2,Q g v1->Env C i own v1 v2->Q g v2)(c:B8 C i own a Q)(h:∀v1,Env C i own v v1->Pj C i own a Q g v1)(k:∀g' v1,Env C i own v v1->Q g' v1->af C i j .bH own g' v1):af C i j .mh own g v:=⟨_,.unlock a Q n e d c h λg' x o l=>fM (p:=λx b=>fH C i j .bH b own x.1 x.2.1) (k g' x o l)⟩
theorem af.put(o:i≠0)(q:g.status=.running)(h:∀v1,Env C i own v v1->cV C v1->∃g' b es,XD C.P (i==0) g v1=.go g' b es/\SW C i v1 b es/\af C i j .free own g' b):af C i j .free own g v:=by refine⟨.s (xK λx d=>fH C i j .free d own x.1 x.2.2),.put q o (λx k f=>?_) λx g' b es k f e=>?_⟩;{grind};obtain⟨n,v2,l,a,_,c⟩:=h x k f;rw[a]at e;obtain⟨rfl,rfl,rfl⟩:=wF e;exact fM (p:=λx d=>fH C i j .free d own x.1 x.2.2) c
theorem af.done(a:i≠0)(h:∀v1,Env C i own v v1->AtD1 C i own g v1):af C i j .vx own g v:=⟨_,.done a h⟩
theorem af.add{x:Nat}(c:Nat->XB->Xz->Prop)(b:i=0)(h:∀v1,Env C i own v v1->T5 C i c g v1)(k:∀v1 y g',Env C i own v v1->c y g' v1->af C i (2*x+1) .bH own g' v1):af C i (2*x) .bH own g v:=⟨_,.add c b h λv1 y g' e d=>fM (p:=λz a=>fH C i (2*x+1) .bH a own z.1 z.2.1) (k v1 y g' e d)⟩
theorem af.spawn{x:Nat}{ownc:Nat->Prop}(A:i=0)(E:g.status=.running)(B:x<C.n)(D:∀k,ownc k->own k)(h:∀v1,Env C i own v v1->∃g' b,XD C.P (i==0) g v1=.spawn g' b v1 #[]/\b.status=.running/\af C (C.base+x) 0 .free ownc b v1/\af C i (2*x+2) .free (λk=>own k/\¬ownc k) g' v1):af C i (2*x+1) .free own g v:=by refine⟨_,.spawn (f:=xK λz l=>fH C i (2*x+2) .free l (λk=>own k/\¬ownc k) z.1 z.2.1) (ρ:=xK λz l=>fH C (C.base+x) 0 .free l ownc z.1 z.2.1) A E B D (λv1 n=>?_) (λv1 g' c F y n e=>?_) λv1 g' c F y n e=>?_⟩;{grind};{obtain⟨w,t,a,_,d,u⟩:=h v1 n;rw[a]at e;injection e with o q r s;subst o q r s;exact fM (p:=λz l=>fH C (C.base+x) 0 .free l ownc z.1 z.2.1) d};obtain⟨w,t,a,_,d,u⟩:=h v1 n;rw[a]at e;injection e with o q r s;subst o q r s;exact fM (p:=λz l=>fH C i (2*x+2) .free l (λk=>own k/\¬ownc k) z.1 z.2.1) u
theorem af.stop(b:C.solo)(a:g.status=.running)(h:∀v1,Env C i own v v1->C.halt own g v1):af C i j .free own g v:=⟨_,.stop b a h⟩
theorem af.wait(A:XB->Xz->Prop)(a:i=0)(b:zZ C i own A)(h:∃n,cF C i own A n g v):af C i (2*C.n) .bH own g v:=⟨_,.wait A a b h⟩
theorem lC.OY(h:ab.lC own C.RO C.CU v v' es):lC C own v v' es:=⟨h.keep,h.grow,h.os,h.out,h.tape,λe b=>by rcases h.evs e b with x|⟨k,n,o,⟨rfl,d⟩,c,rfl⟩|x;{exact .inl (.inl x)};{exact .inr ⟨o,by omega,rfl⟩};exact .inl (.inr (.inr x))⟩
theorem lC.sub(h:lC C own v v' es)(b:∀k,own k->own' k):lC C own' v v' es:=⟨λk l n=>h.keep k l λx=>n (b k x),h.grow,h.os,h.out,h.tape,λe f=>by rcases h.evs e f with x|x;{refine .inl ?_;rcases x with⟨k,c,a,d⟩|x;{refine .inl ⟨k,c,?_,d⟩;rcases a with(a|a)|a;{exact .inl (.inl (b k a))};{exact .inl (.inr a)};simp_all};exact .inr x};exact .inr x⟩
theorem vk:ab.more (fj C m own) v v'=fj C m (ab.more own v v'):=by funext k;simp only[ab.more,fj];grind
def mz(C:Cx)(own:Nat->Prop):Prop:=∀b,own b->b≠C.mu/\b≠C.mm/\b≠C.wg/\b≠C.out
theorem cV.mine(l:cV C v)(h:lC C O v v' es)(e:¬O C.mu)(f:¬O C.wg)(k:¬O C.out):cV C v':=by obtain⟨⟨s,q,b⟩,⟨x,y,c⟩,⟨d,a,n⟩⟩:=l;exact⟨⟨s,q,(h.keep _ (UJ.1 b).1 e).trans b⟩,⟨x,y,(h.keep _ (UJ.1 c).1 f).trans c⟩,⟨d,(h.keep _ (UJ.1 a).1 k).trans a,n⟩⟩
theorem mz.more(h:mz C own)(d:cV C v)(l:C.mm<v.heap.size):mz C (ab.more own v v'):=λb a=>by rcases a with a|a;{exact h b a};obtain⟨⟨s,q,e⟩,⟨x,y,p⟩,⟨k,o,n⟩⟩:=d;have f:=(UJ.1 e).1;grind
theorem mz.not(b:C.Ok)(h:mz C own):¬fj C m own C.mu/\¬fj C m own C.wg/\¬fj C m own C.out:=by refine⟨?_,?_,?_⟩<;>rintro(a|⟨_,a⟩);{exact(h _ a).1 rfl};{exact b.lP a};{exact(h _ a).2.2.1 rfl};{exact b.nW a.symm};{exact(h _ a).2.2.2 rfl};exact b.mP a.symm
theorem cV.step(a:C.Ok)(b:mz C own){v':Xz}{es:Array X9}(c:cV C v)(h:lC C (fj C m own) v v' es):cV C v':=c.mine h (b.not a).1 (b.not a).2.1 (b.not a).2.2
theorem af.loc(t:C.Ok)(A:m.said=Xj){Stop:(Nat->Prop)->XB->Xz->Prop}(h:ab.Loc C.P (i==0) C.RO C.CU Stop O g v):∀own,O=fj C m own->mz C own->C.mm<v.heap.size->cV C v->(∀own g v,mz C own->C.mm<v.heap.size->cV C v->Stop (fj C m own) g v->af C i j m own g v)->af C i j m own g v:=by induction h with|stop h=>exactλown e n p l k=>k _ _ _ n p l (e▸h)|step z y _ B=>intro own e n p l k;subst e;refine .step z A λx q=>?_;have f:=q.Uj t.pre l;obtain⟨s,u,r,a,b⟩:=y x f;have o:=lC.OY b;have c:=q.aL l;have d:=UI p q.grow;exact⟨s,u,r,a,o,B x s u r f a _ vk (n.more c d) (UI d o.grow) (c.step t n o) k⟩
end
end Go.Cr
namespace Go.Cr
open Go.Conc Go.Mx Go.Rk
open Go.ConcR(KK WgAt wgBlock stA smA rd wr mk)
open Go.ConcM(OsLater)
variable{es:Array X9}{s q:Int}{ty:XG}{g:Nat}
section
variable{C:Cx}{i i':Nat}{own own':Nat->Prop}{w w' w1:Xz}
structure lX(C:Cx)(i:Nat)(own:Nat->Prop)(w w':Xz):Prop where
 keep:∀k,k<w.heap.size->¬own k->k≠C.mu->k≠C.wg->k≠C.out->w'.heap[k]?=w.heap[k]?
 grow:w.heap.size<=w'.heap.size
 aL:cV C w->cV C w'
 AT:∀o,¬C.oc i o->w'.cell? ⟨C.out,o,Xw⟩=w.cell? ⟨C.out,o,Xw⟩
 os:OsLater w.os w'.os
 out:w'.output=w.output
 tape:w'.tape=w.tape
theorem lX.env(f:C.Ok)(h:lX C i own w w')(l:i'≠i)(j:∀k,own' k->¬own k)(n:∀k,own' k->k<w.heap.size/\k≠C.mu/\k≠C.wg/\k≠C.out)(g:∀k,C.RO k->k<w.heap.size/\¬own k):Env C i' own' w w':=⟨λk e=>by rcases e with e|e;{obtain⟨a,b,c,d⟩:=n k e;exact h.keep k a (j k e) b c d};obtain⟨a,_,b,c⟩:=f.ro k e;exact h.keep k (g k e).1 (g k e).2 a b c,h.grow,h.aL,λo m=>h.AT o λx=>l (f.oc _ _ _ m x)⟩
theorem cell_of_block{a:X7}(h:w'.heap[a.block]?=w.heap[a.block]?):w'.cell? a=w.cell? a:=by simp[Xz.cell?,h]
theorem je(h:cV C w):C.mu<w.heap.size/\C.wg<w.heap.size/\C.out<w.heap.size:=by obtain⟨⟨s,q,c⟩,⟨a,b,d⟩,⟨f,e,_⟩⟩:=h;exact⟨(UJ.1 c).1,(UJ.1 d).1,(UJ.1 e).1⟩
theorem cV.gD(h:cV C w)(f:w'.heap[C.mu]?=w.heap[C.mu]?)(g:w'.heap[C.wg]?=w.heap[C.wg]?)(j:w'.heap[C.out]?=w.heap[C.out]?):cV C w':=by obtain⟨⟨s,q,a⟩,⟨x,y,b⟩,⟨e,c,d⟩⟩:=h;exact⟨⟨s,q,f.trans a⟩,⟨x,y,g.trans b⟩,⟨e,j.trans c,d⟩⟩
theorem lX.CQ(d:cV C w)(h:lC C own w w' es)(f:¬own C.mu)(g:¬own C.wg)(e:¬own C.out):lX C i own w w':=by obtain⟨a,b,c⟩:=je d;exact⟨λk j l _ _ _=>h.keep k j l,h.grow,λd=>d.gD (h.keep _ a f) (h.keep _ b g) (h.keep _ c e),λo _=>cell_of_block (h.keep _ c e),by rw[h.os];exact .refl _,h.out,h.tape⟩
theorem lX.CP(h:DL w w' es):lX C i own w w':=⟨λk _ _ _ _ _=>by rw[h.heap],by rw[h.heap];omega,λa=>a.gD (by rw[h.heap]) (by rw[h.heap]) (by rw[h.heap]),λo _=>cell_of_block (by rw[h.heap]),h.os,h.out,h.tape⟩
theorem lX.refl:lX C i own w w:=.CP (cJ w)
theorem lX.Pd(c:C.Ok)(h:SW C i w w' es):lX C i own w w':=⟨λk _ _ _ _ d=>h.keep k d,by rw[h.size];omega,λb=>⟨by obtain⟨s,q,a⟩:=b.port;exact⟨s,q,(h.keep _ c.fW).trans a⟩,by obtain⟨s,q,a⟩:=b.gC;exact⟨s,q,(h.keep _ c.iS).trans a⟩,h.blk b.uB⟩,h.cells,by rw[h.os];exact .refl _,h.out,h.tape⟩
theorem ag(w:Xz)(a:X7)(v:Xv){k:Nat}(h:k≠a.block):(w.setCell a v).heap[k]?=w.heap[k]?:=by simp only[Xz.setCell];grind
theorem gQ(w:Xz)(a:X7)(v:Xv){cs:Array Xv}{t:XG}{fr:Nat×Nat}(b:a.spot=Xw)(h:w.heap[a.block]?=Xn (.cells cs t fr)):(w.setCell a v).heap[a.block]?=Xn (.cells (cs.setIfInBounds a.off v) t fr):=by simp only[Xz.setCell];grind
theorem cL(w:Xz)(a:X7)(v:Xv):(w.setCell a v).heap.size=w.heap.size:=by simp
theorem aB.setSt(a:C.Ok)(h:aB C w s q)(s':Int):aB C (w.setCell C.muA (.int .i32 s')) s' q:=by unfold aB at h⊢;rw[show C.mu=C.muA.block from rfl,gQ w C.muA _ rfl h];congr 2;show(C.pre++#[Xv.int .i32 s,Xv.int .u32 q]).setIfInBounds C.mo (Xv.int .i32 s')=C.pre++#[Xv.int .i32 s',Xv.int .u32 q];rw[<-a.pre];simp
theorem aB.setSm(b:C.Ok)(h:aB C w s q)(a:Int):aB C (w.setCell C.msA (.int .u32 a)) s a:=by unfold aB at h⊢;rw[show C.mu=C.msA.block from rfl,gQ w C.msA _ rfl h];congr 2;show(C.pre++#[Xv.int .i32 s,Xv.int .u32 q]).setIfInBounds (C.mo+1) (Xv.int .u32 a)=C.pre++#[Xv.int .i32 s,Xv.int .u32 a];rw[<-b.pre];simp
theorem lX.set(a:X7)(v:Xv)(c:a.block=C.mu\/a.block=C.wg)(b:C.Ok)(d:cV C w->cV C (w.setCell a v)):lX C i own w (w.setCell a v):=⟨λk _ _ e f _=>ag w a v (by omega),by simp,d,λo _=>cell_of_block (ag w a v (by rcases c with h|h<;>rw[h];{exact b.fW.symm};exact b.iS.symm)),.refl _,rfl,rfl⟩
theorem lX.st(c:C.Ok)(s':Int):lX C i own w (w.setCell C.muA (.int .i32 s')):=.set _ _ (.inl rfl) c λd=>⟨by obtain⟨s,q,a⟩:=d.port;exact⟨s',q,a.setSt c s'⟩,by obtain⟨s,q,a⟩:=d.gC;exact⟨s,q,(ag w C.muA _ c.gd.symm).trans a⟩,by obtain⟨e,a,b⟩:=d.uB;exact⟨e,(ag w C.muA _ c.fW.symm).trans a,b⟩⟩
theorem lX.sm(c:C.Ok)(s':Int):lX C i own w (w.setCell C.msA (.int .u32 s')):=.set _ _ (.inl rfl) c λd=>⟨by obtain⟨s,q,a⟩:=d.port;exact⟨s,s',a.setSm c s'⟩,by obtain⟨s,q,a⟩:=d.gC;exact⟨s,q,(ag w C.msA _ c.gd.symm).trans a⟩,by obtain⟨e,a,b⟩:=d.uB;exact⟨e,(ag w C.msA _ c.fW.symm).trans a,b⟩⟩
theorem kH{st sm:Int}(h:WgAt ty g w st sm)(v:Int):WgAt ty g (w.setCell (stA g) (.int .u64 v)) v sm:=by unfold WgAt wgBlock at h⊢;exact(gQ w (stA g) _ rfl h).trans rfl
theorem ph{st sm:Int}(h:WgAt ty g w st sm)(v:Int):WgAt ty g (w.setCell (smA g) (.int .u32 v)) st v:=by unfold WgAt wgBlock at h⊢;exact(gQ w (smA g) _ rfl h).trans rfl
theorem Ox{st sm st' sm':Int}(h:WgAt ty g w st sm)(k:WgAt ty g w st' sm'):st=st'/\sm=sm':=by unfold WgAt wgBlock at h k;simp_all
theorem lX.iQ(c:C.Ok)(f:C.tQ=wgBlock C.tW)(s':Int):lX C i own w (w.setCell (stA C.wg) (.int .u64 s')):=.set _ _ (.inr rfl) c λd=>⟨by obtain⟨s,q,a⟩:=d.port;exact⟨s,q,(ag w (stA C.wg) _ c.gd).trans a⟩,by obtain⟨s,q,a⟩:=d.gC;rw[f]at a⊢;exact⟨s',q,kH a s'⟩,by obtain⟨e,a,b⟩:=d.uB;exact⟨e,(ag w (stA C.wg) _ c.iS.symm).trans a,b⟩⟩
theorem lX.T1(c:C.Ok)(f:C.tQ=wgBlock C.tW)(s':Int):lX C i own w (w.setCell (smA C.wg) (.int .u32 s')):=.set _ _ (.inr rfl) c λd=>⟨by obtain⟨s,q,a⟩:=d.port;exact⟨s,q,(ag w (smA C.wg) _ c.gd).trans a⟩,by obtain⟨s,q,a⟩:=d.gC;rw[f]at a⊢;exact⟨s,s',ph a s'⟩,by obtain⟨e,a,b⟩:=d.uB;exact⟨e,(ag w (smA C.wg) _ c.iS.symm).trans a,b⟩⟩
theorem Env.Fl(f:C.Ok)(h:lX C i (λ_=>False) w w')(l:∀k,own k->k<w.heap.size/\k≠C.mu/\k≠C.wg/\k≠C.out)(j:∀k,C.RO k->k<w.heap.size)(g:∀o,C.oc i o->w'.cell? ⟨C.out,o,Xw⟩=w.cell? ⟨C.out,o,Xw⟩):Env C i own w w':=⟨λk e=>by rcases e with e|e;{obtain⟨a,b,c,d⟩:=l k e;exact h.keep k a id b c d};obtain⟨a,_,b,c⟩:=f.ro k e;exact h.keep k (j k e) id a b c,h.grow,h.aL,g⟩
end
end Go.Cr
namespace Go.Lw
open Go.Proofs Go.Conc Go.Mx Go.Rk Go.Cr Go.RowKit Go.Conc.Lib Go.ConcR.Gen
open Go.ConcR(KK WgAt stA smA rd wr mk DC0)
open Go.ConcM(goes_pad goes_le OsLater)
variable{C:Cx}{i j:Nat}{m:Md}{own:Nat->Prop}{g:XB}{v w:Xz}{S:XB->Xz->Prop}{K:Xz->Prop}{s q:Int}
section
instance:Go.ConcR.Payload:=⟨3⟩
variable{w1:Xz}
theorem NT{w':Xz}{es:Array X9}(h:DC0 w w' es):DL w w' es:=by obtain⟨rfl,rfl⟩:=h;exact cJ _
theorem yM{K K':XB->Xz->Array X9->Prop}{s:GStep}(h:∀g w es,K g w es->K' g w es)(k:s.goes K):s.goes K':=by cases s<;>first|exact h _ _ _ k|exact k
theorem Nc{k:Nat}:∀{n:Nat}{g:XB}{v:Xz},Goes C.P (i==0) (Env C i own) DC0 (cF C i own S k) n g v->cF C i own S (k+n) g v|0,_,_,h=>h _ .refl|n+1,g,v,h=>by rcases h with h|⟨c,h⟩;{exact goes_pad (h _ .refl) _};refine .inr ⟨c,λx d=>yM (λg w e b=>?_) (h x d)⟩;exact⟨NT b.1,Nc b.2⟩
def Kn(C:Cx)(i:Nat)(own:Nat->Prop)(v w:Xz):Prop:=Env C i own v w/\cV C w
theorem Sa:(f113.name== "runtime.NumGoroutine")=Xj:=Ψ
theorem Qh:(f144.name== "runtime.NumGoroutine")=Xj:=Ψ
theorem QZ:(f145.name== "runtime.NumGoroutine")=Xj:=Ψ
theorem Rd:(f166.name== "runtime.NumGoroutine")=Xj:=Ψ
theorem QU:(f168.name== "runtime.NumGoroutine")=Xj:=Ψ
theorem O8:(f127.name== "runtime.NumGoroutine")=Xj:=Ψ
theorem PN:f127.body.isNone=Xs:=Ψ
theorem OJ:Extern.findNext f127=Xw:=Ψ
theorem O9:Extern.find f127=Xn (λ_=>do mark .disable;pure Extern.Race.none_):=Ψ
theorem OL:(f128.name== "runtime.NumGoroutine")=Xj:=Ψ
theorem N6:f128.body.isNone=Xs:=Ψ
theorem Oi:Extern.findNext f128=Xw:=Ψ
theorem Oz:Extern.find f128=Xn (λ_=>do mark .enable;pure Extern.Race.none_):=Ψ
theorem NQ:(f139.name== "runtime.NumGoroutine")=Xj:=Ψ
theorem N8:f139.body.isNone=Xs:=Ψ
theorem NF:Extern.findNext f139=Xw:=Ψ
theorem OA:Extern.find f139=Xn (Extern.Race.marked .acquire):=Ψ
theorem ON:(f126.name== "runtime.NumGoroutine")=Xj:=Ψ
theorem Ns:f126.body.isNone=Xs:=Ψ
theorem Pm:Extern.findNext f126=Xw:=Ψ
theorem Oc:Extern.find f126=Xn (Extern.Race.marked .releaseMerge):=Ψ
theorem Fb:(f165.name== "runtime.NumGoroutine")=Xj:=Ψ
theorem I6:f165.body.isNone=Xs:=Ψ
theorem GC:Extern.findNext f165=Xw:=Ψ
theorem G9:Extern.find f165=Xn (Extern.Atomic.casT (.int .i32)):=Ψ
theorem Po:(f167.name== "runtime.NumGoroutine")=Xj:=Ψ
theorem Ny:f167.body.isNone=Xs:=Ψ
theorem O':Extern.findNext f167=Xw:=Ψ
theorem NO:Extern.find f167=Xn (Extern.Atomic.update (Op.intArith .add) .i32 Xs):=Ψ
theorem GD:(f182.name== "runtime.NumGoroutine")=Xj:=Ψ
theorem Hv:f182.body.isNone=Xs:=Ψ
theorem I3:Extern.findNext f182=Xw:=Ψ
theorem FP:Extern.find f182=Xn (Extern.Sync.canSpin):=Ψ
theorem Px:(f183.name== "runtime.NumGoroutine")=Xj:=Ψ
theorem Oq:f183.body.isNone=Xs:=Ψ
theorem NK:Extern.findNext f183=Xw:=Ψ
theorem O0:Extern.find f183=Xn (λ_=>pure (.tuple #[])):=Ψ
theorem Py:(f185.name== "runtime.NumGoroutine")=Xj:=Ψ
theorem O2:f185.body.isNone=Xs:=Ψ
theorem N0:Extern.findNext f185=Xw:=Ψ
theorem O3:Extern.find f185=Xn (Extern.OsHooks.nano):=Ψ
theorem Ov:f185.norace=Xs:=Ψ
theorem FC:(f186.name== "runtime.NumGoroutine")=Xj:=Ψ
theorem Fp:f186.body.isNone=Xs:=Ψ
theorem GO:Extern.findNext f186=Xw:=Ψ
theorem IQ:Extern.find f186=Xn (Extern.Sync.semacquire):=Ψ
theorem NG:(f188.name== "runtime.NumGoroutine")=Xj:=Ψ
theorem Pg:f188.body.isNone=Xs:=Ψ
theorem NN:Extern.findNext f188=Xw:=Ψ
theorem O7:Extern.find f188=Xn (Extern.Sync.semrelease):=Ψ
theorem Tt:(Pz.funcs[(base 145).fn]?).any (·.norace)=Xs:=Ψ
theorem KL:(Pz.funcs[(base 166).fn]?).any (·.norace)=Xs:=Ψ
theorem TN:(Pz.funcs[(base 168).fn]?).any (·.norace)=Xs:=Ψ
section
variable{main:Bool}{b:XF}{a:Yc}{kk:List X6}{cs:List XF}{ops:Array Yf}{rest:List Nat}{o:Yf}
theorem zn{x:XS}(p:ops[i]?=Xn o)(s:Region.wanted o (XH ops a.tmps)=Xs)(n:b.kind≠.early)(e:o.op=.load 21 x){ad:X7}{v:Int}(k:a.eval x=.pointer (Xn ad))(h:w.cell? ad=Xn (.int .i32 v))(q:(Pz.funcs[b.fn]?).any (·.norace)=Xs):XD Pz main (G (b.at a (.inRegion ops (i::rest)::kk)) cs) w=.go (G (b.at (a.put o.dst (.int .i32 v)) (.inRegion ops rest::kk)) cs) w #[]:=by(have r:(XC a.eval o).run Pz w=.ok (.value (.int .i32 v)) w:=by unfold XC;simp only[e,k];simp[go_sem,h]);(have l:(XC a.eval o).events Pz w #[]=#[⟨.cell ad,Xj,Xj⟩]:=by unfold XC;simp only[e,k];simp[go_sem,h]);rw[stepG_value p s n r];unfold listed;rw[l,seen_def,q];rfl
end
noncomputable def lu:Yg:=f112.body.getD .skip
noncomputable def nB:Yg:=f113.body.getD .skip
noncomputable def cB:Yg:=f144.body.getD .skip
noncomputable def aj:Yg:=f166.body.getD .skip
end
section
variable{w1:Xz}
theorem aB.cell(a:C.Ok)(h:aB C w s q):w.cell? ⟨C.mu,C.mo,Xw⟩=Xn (.int .i32 s):=by have b:=a.pre;unfold aB at h;simp[Xz.cell?,h,<-b]
theorem aB.CR(a:C.Ok)(h:aB C w s q):w.cell? ⟨C.mu,C.mo+1,Xw⟩=Xn (.int .u32 q):=by have b:=a.pre;unfold aB at h;simp[Xz.cell?,h,<-b]
theorem aB.thaw(h:aB C w s q)(o:Nat):w.frozen? ⟨C.mu,o,Xw⟩=Xj:=by unfold aB at h;simp[Xz.frozen?,h]
structure Kd(C:Cx)(i:Nat)(own:Nat->Prop)(K:Xz->Prop):Prop where
 env:∀{v v1},K v->Env C i own v v1->K v1
 st:∀{v}(x:Int),K v->K (v.setCell C.muA (.int .i32 x))
 sm:∀{v}(x:Int),K v->K (v.setCell C.msA (.int .u32 x))
 aL:∀{v},K v->cV C v
theorem Kd.mu(b:Kd C i own K)(a:C.Ok)(h:K w):∃v:Xv,w.cell? ⟨C.mu,C.mo,Xw⟩=Xn v:=by obtain⟨⟨s,q,c⟩,_⟩:=b.aL h;exact⟨_,aB.cell a c⟩
theorem Kd.held(a:Kd C i own K)(h:K w/\au C w)(r:Env C i (fj C .own own) w w1):K w1/\au C w1:=⟨a.env h.1 r.fD,h.2.env r (.inr ⟨rfl,rfl⟩)⟩
theorem yE{wd:Wd}(h:((wd.enc:Nat):Int)=0):wd=⟨Xj,Xj,Xj,0⟩:=by obtain⟨L,W,s,n⟩:=wd;(have h:(⟨L,W,s,n⟩:Wd).enc=0:=by omega);cases L<;>cases W<;>cases s<;>simp[Wd.enc]at h⊢<;>omega
theorem Rm:Pz.underlying 217=Xn (.pointer 157):=Ψ
theorem z157:(Pz.info? 157).map (λi=>decide (i.size=0))=Xn Xj:=Ψ
end
end Go.Lw
namespace Go.Lw
open Go.Proofs Go.Conc Go.Mx Go.Rk Go.Cr Go.RowKit Go.Conc.Lib Go.ConcR.Gen Go.Pw
open Go.ConcR(KK WgAt stA smA rd wr mk DC0)
open Go.ConcM(goes_pad goes_le OsLater)
variable{C:Cx}{i j N mm x d a dd:Nat}{m:Md}{own:Nat->Prop}{g:XB}{v n old:Int}{w:Xz}{S:XB->Xz->Prop}{H L L':List (Nat×Xv)}{t vs:Array Xv}{f q:XM}{k k' kk:List X6}{obs:List (Xv×Xv)}{cs:List XF}{y z:XS}{o:Yf}{ags:Array XS}{main:Bool}{ops:Array Yf}{rest:List Nat}{ats:Array XG}{fn:Func}{ad:X7}{u:Xv}{P:XI}{s d':XG}{caller:XF}{c:Yg}{kd:Yk}{J:XB->Prop}
section
variable{v w1:Xz}
section
theorem aC{n:Nat}(h:∀w1,Env C i own w w1->S g w1):cF C i own S n g w:=Goes.stop h
theorem C5(n:Nat)(e:Sl N L t)(b:bE C.P H n (fr f (tm N L t) k)=Xn (fr f (iV C.P H n (fr f (tm N L t) k)) k',obs))(l:∀p∈obs,p.1=p.2)(c:Sl N L' (iV C.P H n (fr f (tm N L t) k)))(d:∀a w1,Sl N L' a->Env C i own w w1->cF C i own S mm (G (fr f a k') cs) w1):cF C i own S (mm+n) (G (fr f t k) cs) w:=by refine Nc ?_;have:=F9 (m:=0) (main:=i==0) (D:=DC0) bM (λw=>⟨rfl,rfl⟩) n e b l c (λa h w1 o=>d a w1 h o);simp_all
theorem LR(n:Nat)(h:Sl N L t)(b:bE C.P H n (fr f (tm N L t) k)=Xn (fr f (iV C.P H n (fr f (tm N L t) k)) k',obs))(l:∀p∈obs,p.1=p.2)(c:Sl N L' (iV C.P H n (fr f (tm N L t) k)))(d:∀a,Sl N L' a->af C i j m own (G (fr f a k') cs) v):af C i j m own (G (fr f t k) cs) v:=KQ (J:=λg=>af C i j m own g v) (λF q o e=>.ctl rfl o e) n h b l c d
theorem b9(n:Nat)(O:List (Nat×Ob))(k':List X6)(L':List (Nat×Xv))(hS:Sl N L t)(hG:∀t' w1,Sl N L' t'->Env C i own w w1->cF C i own S mm (G (fr f t' k') cs) w1)(hP:C.P=Pz:=by exact hP)(h1:bE Pz (oh O) n (fr f (tm N L t) k)=Xn (fr f (iV Pz (oh O) n (fr f (tm N L t) k)) k',oo O):=by kernel_rfl)(h2:Sl N L' (iV Pz (oh O) n (fr f (tm N L t) k)):=by exact .all):cF C i own S (mm+n) (G (fr f t k) cs) w:=C5 n hS (by rw[hP];exact h1) (tN O) (by simp_all) hG
theorem dJ(n:Nat)(k':List X6)(L':List (Nat×Xv))(hS:Sl N L t)(hG:∀t' w1,Sl N L' t'->Env C i own w w1->cF C i own S mm (G (fr f t' k') cs) w1)(hP:C.P=Pz:=by exact hP)(h1:bE Pz (oh []) n (fr f (tm N L t) k)=Xn (fr f (iV Pz (oh []) n (fr f (tm N L t) k)) k',oo []):=by kernel_rfl)(h2:Sl N L' (iV Pz (oh []) n (fr f (tm N L t) k)):=by exact .all):cF C i own S (mm+n) (G (fr f t k) cs) w:=b9 n [] k' L' hS hG hP h1 h2
theorem xk(n:Nat)(O:List (Nat×Ob))(k':List X6)(L':List (Nat×Xv))(hS:Sl N L t)(hG:∀t',Sl N L' t'->af C i j m own (G (fr f t' k') cs) v)(hP:C.P=Pz:=by exact hP)(h1:bE Pz (oh O) n (fr f (tm N L t) k)=Xn (fr f (iV Pz (oh O) n (fr f (tm N L t) k)) k',oo O):=by kernel_rfl)(h2:Sl N L' (iV Pz (oh O) n (fr f (tm N L t) k)):=by exact .all):af C i j m own (G (fr f t k) cs) v:=LR n hS (by rw[hP];exact h1) (tN O) (by simp_all) hG
theorem cT(n:Nat)(k':List X6)(L':List (Nat×Xv))(hS:Sl N L t)(hG:∀t',Sl N L' t'->af C i j m own (G (fr f t' k') cs) v)(hP:C.P=Pz:=by exact hP)(h1:bE Pz (oh []) n (fr f (tm N L t) k)=Xn (fr f (iV Pz (oh []) n (fr f (tm N L t) k)) k',oo []):=by kernel_rfl)(h2:Sl N L' (iV Pz (oh []) n (fr f (tm N L t) k)):=by exact .all):af C i j m own (G (fr f t k) cs) v:=xk n [] k' L' hS hG hP h1 h2
end
theorem eG{n:Nat}(d:g.status=.running)(h:∀x,Env C i own w x->∃g' w',XD C.P (i==0) g x=.go g' w' #[]/\DL x w' #[]/\cF C i own S n g' w'):cF C i own S (n+1) g w:=.inr ⟨d,λx e=>by obtain⟨g',w',a,b,c⟩:=h x e;simp_all⟩
theorem pB(x:Xz):DL x x.later #[]:=⟨rfl,rfl,rfl,⟨x.tick,rfl⟩,rfl⟩
theorem kD(x:Xz):DL x x.asked #[]:=⟨rfl,rfl,rfl,.refl _,rfl⟩
theorem qw{x y:Xz}{es:Array X9}(h:DL x y es):Env C i own x y:=⟨λk _=>by rw[h.heap],by rw[h.heap];omega,λf=>by obtain⟨⟨s,q,a⟩,⟨n,l,b⟩,⟨e,c,d⟩⟩:=f;exact⟨⟨s,q,by unfold aB at a⊢;rw[h.heap];exact a⟩,⟨n,l,by rw[h.heap];exact b⟩,⟨e,by rw[h.heap];exact c,d⟩⟩,λo _=>by simp[Xz.cell?,h.heap]⟩
def bh(o:Yf):Option XM:=match o.op with
 |.call c=>(match c.callee with|.value (.func q)=>Xn q|_=>Xw)
 |_=>Xw
def dy(o:Yf):Array XS:=match o.op with|.call c=>c.args|_=>#[]
def uq(o:Yf):Array XG:=match o.op with|.call c=>c.argTypes|_=>#[]
theorem bL(h:bh o=Xn q)(b:dy o=ags):o.op=.call {callee:=.value (.func q),args:=ags,argTypes:=uq o}:=by subst b;unfold bh at h;unfold dy uq;cases d:o.op with|call c=>obtain⟨e,k,f⟩:=c;grind|_=>simp_all
section
theorem eH{v:Xv}(a:o.dst=Xn d):G ((base f).at ((⟨t,[]⟩:Yc).put o.dst v) k) cs=G (fr f (t.setIfInBounds d v) k) cs:=by rw[a];rfl
theorem nh{v:Int}(hS:Sl N L t)(p:ops[x]?=Xn o)(s:Region.wanted o (XH ops (tm N L t))=Xs)(k:o.dst=Xn d)(h:o.op=.load 21 y)(u:(⟨t,[]⟩:Yc).eval y=.pointer (Xn ad))(n:w.cell? ad=Xn (.int .i32 v))(r:(Pz.funcs[f]?).any (·.norace)=Xs):XD Pz main (G (fr f t (.inRegion ops (x::rest)::kk)) cs) w=.go (G (fr f (t.setIfInBounds d (.int .i32 v)) (.inRegion ops rest::kk)) cs) w #[]:=(zn (b:=base f) (a:=⟨t,[]⟩) p (aU hS s) (by k_ne) h u n r).trans (by first|(rw[eH k])|(rfl))
theorem lK{u:XS}{v:Int}(hS:Sl N L t)(s:ops[x]?=Xn o)(D:Region.wanted o (XH ops (tm N L t))=Xs)(h:o.dst=Xn d)(A:bh o=Xn 165)(l:dy o=#[y,z,u])(E:(⟨t,[]⟩:Yc).eval y=.pointer (Xn ad))(F:(⟨t,[]⟩:Yc).eval z=.int .i32 v)(B:(⟨t,[]⟩:Yc).eval u=.int .i32 n)(p:w.cell? ad=Xn (.int .i32 v))(r:w.frozen? ad=Xj):XD Pz main (G (fr f t (.inRegion ops (x::rest)::kk)) cs) w=.go (G (fr f (t.setIfInBounds d (.bool Xs)) (.inRegion ops rest::kk)) cs) (w.setCell ad (.int .i32 n)) #[rd ad,wr ad]:=(stepG_cas_hit (b:=base f) (a:=⟨t,[]⟩) s (aU hS D) (by k_ne) (bL A l) func165 Fb I6 GC .i32 G9 E F B p r).trans (by first|(done)|(rw[eH h];rfl))
theorem kh{u:XS}{v:Int}(hS:Sl N L t)(A:ops[x]?=Xn o)(E:Region.wanted o (XH ops (tm N L t))=Xs)(k:o.dst=Xn d)(B:bh o=Xn 165)(p:dy o=#[y,z,u])(F:(⟨t,[]⟩:Yc).eval y=.pointer (Xn ad))(H:(⟨t,[]⟩:Yc).eval z=.int .i32 old)(D:(⟨t,[]⟩:Yc).eval u=.int .i32 n)(r:w.cell? ad=Xn (.int .i32 v))(s:w.frozen? ad=Xj)(h:¬v=old):XD Pz main (G (fr f t (.inRegion ops (x::rest)::kk)) cs) w=.go (G (fr f (t.setIfInBounds d (.bool Xj)) (.inRegion ops rest::kk)) cs) w #[rd ad]:=(stepG_cas_miss (b:=base f) (a:=⟨t,[]⟩) A (aU hS E) (by k_ne) (bL B p) func165 Fb I6 GC .i32 G9 F H D r s h).trans (by first|(done)|(rw[eH k];rfl))
theorem xv{v:Int}(hS:Sl N L t)(s:ops[x]?=Xn o)(A:Region.wanted o (XH ops (tm N L t))=Xs)(h:o.dst=Xn d)(u:bh o=Xn 167)(l:dy o=#[y,z])(B:(⟨t,[]⟩:Yc).eval y=.pointer (Xn ad))(D:(⟨t,[]⟩:Yc).eval z=.int .i32 n)(p:w.cell? ad=Xn (.int .i32 v))(r:w.frozen? ad=Xj):XD Pz main (G (fr f t (.inRegion ops (x::rest)::kk)) cs) w=.go (G (fr f (t.setIfInBounds d (.int .i32 (XE.i32.wrap (v+n)))) (.inRegion ops rest::kk)) cs) (w.setCell ad (.int .i32 (XE.i32.wrap (v+n)))) #[rd ad,wr ad]:=(stepG_add_atomic (b:=base f) (a:=⟨t,[]⟩) s (aU hS A) (by k_ne) (bL u l) func167 Po Ny O' .i32 NO B D p r).trans (by first|(done)|(rw[eH h];rfl))
theorem OG(hS:Sl N L t)(u:ops[x]?=Xn o)(z:Region.wanted o (XH ops (tm N L t))=Xs)(k:o.dst=Xn d)(y:bh o=Xn 186)(p:dy o=ags)(A:(ags.map (⟨t,[]⟩:Yc).eval)[0]?=Xn (.pointer (Xn ad)))(r:w.cell? ad=Xn (.int .u32 n))(h:n≠0)(s:w.frozen? ad=Xj):XD Pz main (G (fr f t (.inRegion ops (x::rest)::kk)) cs) w=.go (G (fr f (t.setIfInBounds d (.tuple #[])) (.inRegion ops rest::kk)) cs) (w.setCell ad (.int .u32 (n-1))) (semEvents ad):=(stepG_semacquire (b:=base f) (a:=⟨t,[]⟩) u (aU hS z) (by k_ne) (bL y p) func186 FC Fp GO IQ A r h s).trans (by first|(rw[eH k])|(rfl))
theorem zR(hS:Sl N L t)(p:ops[x]?=Xn o)(s:Region.wanted o (XH ops (tm N L t))=Xs)(r:bh o=Xn 186)(l:dy o=ags)(u:(ags.map (⟨t,[]⟩:Yc).eval)[0]?=Xn (.pointer (Xn ad)))(n:w.cell? ad=Xn (.int .u32 0)):XD Pz main (G (fr f t (.inRegion ops (x::rest)::kk)) cs) w=.go {G (fr f t (.inRegion ops (x::rest)::kk)) cs with status:=.blocked} w #[]:=stepG_semacquire_wait (b:=base f) (a:=⟨t,[]⟩) p (aU hS s) (bL r l) func186 FC Fp GO IQ u n
theorem Ib(hS:Sl N L t)(s:ops[x]?=Xn o)(y:Region.wanted o (XH ops (tm N L t))=Xs)(h:o.dst=Xn d)(u:bh o=Xn 188)(l:dy o=ags)(z:(ags.map (⟨t,[]⟩:Yc).eval)[0]?=Xn (.pointer (Xn ad)))(p:w.cell? ad=Xn (.int .u32 n))(r:w.frozen? ad=Xj):XD Pz main (G (fr f t (.inRegion ops (x::rest)::kk)) cs) w=.go (G (fr f (t.setIfInBounds d (.tuple #[])) (.inRegion ops rest::kk)) cs) (w.setCell ad (.int .u32 (XE.u32.wrap (n+1)))) (semEvents ad):=(stepG_semrelease (b:=base f) (a:=⟨t,[]⟩) s (aU hS y) (by k_ne) (bL u l) func188 NG Pg NN O7 z p r).trans (by first|(rw[eH h])|(rfl))
theorem Cp(hS:Sl N L t)(l:ops[x]?=Xn o)(p:Region.wanted o (XH ops (tm N L t))=Xs)(h:o.dst=Xn d)(n:bh o=Xn 185):XD Pz main (G (fr f t (.inRegion ops (x::rest)::kk)) cs) w=.go (G (fr f (t.setIfInBounds d (Iv ((w.os.mono+w.tick:Nat):Int))) (.inRegion ops rest::kk)) cs) w.later #[]:=(stepG_nanotime (b:=base f) (a:=⟨t,[]⟩) l (aU hS p) (by k_ne) (bL n rfl) func185 Py O2 N0 O3 Ov).trans (by first|(rw[eH h])|(rfl))
theorem n3{k:XE}(hS:Sl N L t)(s:ops[x]?=Xn o)(y:Region.wanted o (XH ops (tm N L t))=Xs)(h:o.dst=Xn d)(u:bh o=Xn 182)(r:dy o=ags)(z:ags.map (⟨t,[]⟩:Yc).eval=#[.int k n])(l:4<=n):XD Pz main (G (fr f t (.inRegion ops (x::rest)::kk)) cs) w=.go (G (fr f (t.setIfInBounds d (.bool Xj)) (.inRegion ops rest::kk)) cs) w #[]:=(stepG_canSpin_no (b:=base f) (a:=⟨t,[]⟩) s (aU hS y) (by k_ne) (bL u r) func182 GD Hv I3 FP z l).trans (by first|(rw[eH h])|(rfl))
theorem xn{k:XE}(hS:Sl N L t)(s:ops[x]?=Xn o)(y:Region.wanted o (XH ops (tm N L t))=Xs)(h:o.dst=Xn d)(u:bh o=Xn 182)(r:dy o=ags)(z:ags.map (⟨t,[]⟩:Yc).eval=#[.int k n])(l:n<4):XD Pz main (G (fr f t (.inRegion ops (x::rest)::kk)) cs) w=.go (G (fr f (t.setIfInBounds d (.bool w.spins)) (.inRegion ops rest::kk)) cs) w.asked #[]:=(stepG_canSpin_ask (b:=base f) (a:=⟨t,[]⟩) s (aU hS y) (by k_ne) (bL u r) func182 GD Hv I3 FP z l).trans (by first|(rw[eH h])|(rfl))
theorem D6(hS:Sl N L t)(l:ops[x]?=Xn o)(p:Region.wanted o (XH ops (tm N L t))=Xs)(h:o.dst=Xn d)(n:bh o=Xn 183):XD Pz main (G (fr f t (.inRegion ops (x::rest)::kk)) cs) w=.go (G (fr f (t.setIfInBounds d (.tuple #[])) (.inRegion ops rest::kk)) cs) w #[]:=(stepG_entry_pure (b:=base f) (a:=⟨t,[]⟩) (.tuple #[]) l (aU hS p) (by k_ne) (bL n rfl) func183 Px Oq NK O0).trans (by first|(rw[eH h])|(rfl))
end
end
section
variable{v w1:Xz}
section
theorem tZ(hS:Sl N L t)(l:ops[x]?=Xn o)(p:Region.wanted o (XH ops (tm N L t))=Xs)(h:o.dst=Xn d)(n:bh o=Xn 127):XD Pz main (G (fr f t (.inRegion ops (x::rest)::kk)) cs) w=.go (G (fr f (t.setIfInBounds d (.tuple #[])) (.inRegion ops rest::kk)) cs) w #[mk .disable]:=(stepG_mark0 (b:=base f) (a:=⟨t,[]⟩) .disable Θ l (aU hS p) (by k_ne) (bL n rfl) func127 O8 PN OJ O9).trans (by first|(rw[eH h];done)|(rw[eH h];rfl))
theorem qk(hS:Sl N L t)(l:ops[x]?=Xn o)(p:Region.wanted o (XH ops (tm N L t))=Xs)(h:o.dst=Xn d)(n:bh o=Xn 128):XD Pz main (G (fr f t (.inRegion ops (x::rest)::kk)) cs) w=.go (G (fr f (t.setIfInBounds d (.tuple #[])) (.inRegion ops rest::kk)) cs) w #[mk .enable]:=(stepG_mark0 (b:=base f) (a:=⟨t,[]⟩) .enable Θ l (aU hS p) (by k_ne) (bL n rfl) func128 OL N6 Oi Oz).trans (by first|(rw[eH h];done)|(rw[eH h];rfl))
theorem tS(hS:Sl N L t)(n:ops[x]?=Xn o)(r:Region.wanted o (XH ops (tm N L t))=Xs)(h:o.dst=Xn d)(p:bh o=Xn 139)(l:dy o=ags)(s:(ags.map (⟨t,[]⟩:Yc).eval)[0]?=Xn (.pointer (Xn ad))):XD Pz main (G (fr f t (.inRegion ops (x::rest)::kk)) cs) w=.go (G (fr f (t.setIfInBounds d (.tuple #[])) (.inRegion ops rest::kk)) cs) w #[mk (.acquire ad)]:=(stepG_markAt (b:=base f) (a:=⟨t,[]⟩) .acquire Θ n (aU hS r) (by k_ne) (bL p l) func139 NQ N8 NF OA s).trans (by first|(rw[eH h];done)|(rw[eH h];rfl))
theorem rz(hS:Sl N L t)(n:ops[x]?=Xn o)(r:Region.wanted o (XH ops (tm N L t))=Xs)(h:o.dst=Xn d)(p:bh o=Xn 126)(l:dy o=ags)(s:(ags.map (⟨t,[]⟩:Yc).eval)[0]?=Xn (.pointer (Xn ad))):XD Pz main (G (fr f t (.inRegion ops (x::rest)::kk)) cs) w=.go (G (fr f (t.setIfInBounds d (.tuple #[])) (.inRegion ops rest::kk)) cs) w #[mk (.releaseMerge ad)]:=(stepG_markAt (b:=base f) (a:=⟨t,[]⟩) .releaseMerge Θ n (aU hS r) (by k_ne) (bL p l) func126 ON Ns Pm Oc s).trans (by first|(rw[eH h];done)|(rw[eH h];rfl))
theorem GJ(hS:Sl N L t)(n:ops[x]?=Xn o)(r:Region.wanted o (XH ops (tm N L t))=Xs)(h:o.dst=Xn d)(p:(XC (⟨t,[]⟩:Yc).eval o).run P w=.ok (.value u) w)(l:(XC (⟨t,[]⟩:Yc).eval o).events P w #[]=#[]):XD P main (G (fr f t (.inRegion ops (x::rest)::kk)) cs) w=.go (G (fr f (t.setIfInBounds d u) (.inRegion ops rest::kk)) cs) w #[]:=by refine(stepG_value (b:=base f) (a:=⟨t,[]⟩) (k:=kk) (cs:=cs) n (aU hS r) (by k_ne) p).trans ?_;unfold listed;rw[l,kL,eH h]
theorem wi{s d':XG}{v:Xv}(hS:Sl N L t)(p:ops[x]?=Xn o)(u:Region.wanted o (XH ops (tm N L t))=Xs)(n:o.dst=Xn d)(r:o.op=.convert 217 185 y)(z:(⟨t,[]⟩:Yc).eval y=.pointer (Xn ad))(c:w.cell? ad=Xn v):XD Pz main (G (fr f t (.inRegion ops (x::rest)::kk)) cs) w=.go (G (fr f (t.setIfInBounds d (.pointer (Xn ad))) (.inRegion ops rest::kk)) cs) w #[]:=by have l:=run_convert_to_unsafe (P:=Pz) Rm underlying185 z157 c;have k:=λe=>events_convert_to_unsafe (P:=Pz) Rm underlying185 z157 c e;refine GJ hS p u n ?_ ?_;{unfold XC;simp_all};unfold XC;simp_all
theorem OO:XD P main (G (fr f t []) cs) w=.go (G (ab.ef f t [] .returning) cs) w #[]:=by rfl
theorem N5:XD P main (G (fr f t (.code .ret::kk)) cs) w=.go (G (ab.ef f t (.code .ret::kk) .returning) cs) w #[]:=by rfl
theorem vY(h:P.funcs[f]?=Xn fn)(b:fn.results=#[]):XD P main (G (ab.ef f t kk .returning) (caller::cs)) w=.go (G (caller.finish (.tuple #[])) cs) w #[]:=by
 have c:(results fn t).run P w=.ok (.tuple #[]) w:=by simp[results,b]
 have e:(results fn t).events P w #[]=#[]:=by simp[results,b]
 rw[ab.bJ h c,e,kL]
end
section
theorem jd(a:C.P.funcs[f]?=Xn fn)(b:fn.results=#[])(h:af C i j m own (G (caller.finish (.tuple #[])) cs) v):af C i j m own (G (fr f t []) (caller::cs)) v:=.ctl rfl (λ_=>OO) (.ctl rfl (λ_=>vY a b) h)
theorem rO(a:C.P.funcs[f]?=Xn fn)(b:fn.results=#[])(h:af C i j m own (G (caller.finish (.tuple #[])) cs) v):af C i j m own (G (fr f t (.code .ret::kk)) (caller::cs)) v:=.ctl rfl (λ_=>N5) (.ctl rfl (λ_=>vY a b) h)
theorem cI{n:Nat}{g':XB}(a:g.status=.running)(h:∀w,XD C.P (i==0) g w=.go g' w #[])(k:cF C i own S n g' w):cF C i own S (n+1) g w:=eG a λx b=>⟨g',x,h x,cJ x,k.rely bM b⟩
end
theorem Ua{L S:Bool}(h:(L||S)=Xs):(((L.toNat+4*S.toNat:Nat):Int)==0)=Xj:=by grind
end
section
variable{v w1:Xz}
abbrev qh(kd:Yk)(f:XM)(t:Array Xv)(k:List X6):XF:={fn:=f,tmps:=t,todo:=k,defers:=[],mode:=.run,kind:=kd,roundOf:=Xw}
abbrev P4(kd:Yk)(f:XM)(t:Array Xv)(k:List X6):XF:={fn:=f,tmps:=t,todo:=k,defers:=[],mode:=.returning,kind:=kd,roundOf:=Xw}
def bk(kd:Yk)(f:XM):XF:={base f with kind:=kd}
section
theorem yD(A:kd≠.early)(hS:Sl N L t)(B:ops[x]?=Xn o)(F:Region.wanted o (XH ops (tm N L t))=Xs)(D:bh o=Xn q)(y:dy o=ags)(E:ags.map (⟨t,[]⟩:Yc).eval=vs)(r:P.funcs[q]?=Xn fn)(s:(fn.name== "runtime.NumGoroutine")=Xj)(z:fn.body=Xn c):XD P main (G (qh kd f t (.inRegion ops (x::rest)::kk)) cs) w=.go (G (fr q (vs++Array.replicate (fn.ntmps-vs.size) XJ) [.code c]) (qh kd f t (.inRegion ops (x::rest)::kk)::cs)) w #[]:=by subst E;have n:=bL D y;(have l:fn.body.isNone=Xj:=by grind);have h:=stepG_enter (P:=P) (main:=main) (b:=bk kd f) (a:=⟨t,[]⟩) (k:=kk) (rest:=rest) (cs:=cs) (w:=w) B (aU hS F) A (run_call_body n r s l);rw[enter_at _ r z]at h;(have e:listed P (bk kd f).fn ⟨t,[]⟩ o w=#[]:=by unfold listed;rw[events_call_body n r s l];rfl);rw[e]at h;exact h
theorem Ca(hS:Sl N L t)(n:ops[x]?=Xn o)(s:Region.wanted o (XH ops (tm N L t))=Xs)(p:bh o=Xn q)(e:dy o=ags)(r:ags.map (⟨t,[]⟩:Yc).eval=vs)(k:P.funcs[q]?=Xn fn)(l:(fn.name== "runtime.NumGoroutine")=Xj)(h:fn.body=Xn c):XD P main (G (fr f t (.inRegion ops (x::rest)::kk)) cs) w=.go (G (fr q (vs++Array.replicate (fn.ntmps-vs.size) XJ) [.code c]) (fr f t (.inRegion ops (x::rest)::kk)::cs)) w #[]:=yD (kd:=.normal) Θ hS n s p e r k l h
theorem wI(h:t.getD a XJ=u):(#[.tmp a]:Array XS).map (⟨t,[]⟩:Yc).eval=#[u]:=by subst h;simp[Yc.eval]
theorem Er{b:Nat}{u':Xv}(h:t.getD a XJ=u)(e:t.getD b XJ=u'):(#[.tmp a,.tmp b]:Array XS).map (⟨t,[]⟩:Yc).eval=#[u,u']:=by subst h e;simp[Yc.eval]
theorem PE{c:Xv}(h:t.getD a XJ=u):(#[.tmp a,.const c]:Array XS).map (⟨t,[]⟩:Yc).eval=#[u,c]:=by subst h;simp[Yc.eval]
theorem K4(b:ops[x]?=Xn o)(a:o.dst=Xn d)(u:Xv):(qh kd f t (.inRegion ops (x::rest)::kk)).finish u=qh kd f (t.setIfInBounds d u) (.inRegion ops rest::kk):=by simp[XF.finish,b,a]
theorem FI(y:kd≠.early)(s:∀F a,(∀w,XD P main (G F cs) w=.go (G a cs) w #[])->J (G a cs)->J (G F cs))(n:Nat)(u:Sl N L t)(h:bE P H n (qh kd f (tm N L t) k)=Xn (qh kd f (match bE P H n (qh kd f (tm N L t) k)with|some x=>x.1.tmps|none=>#[]) k',obs))(z:∀p∈obs,p.1=p.2)(l:Sl N L' (match bE P H n (qh kd f (tm N L t) k)with|some x=>x.1.tmps|none=>#[]))(r:∀b,Sl N L' b->J (G (qh kd f b k') cs)):J (G (qh kd f t k) cs):=by(have e:qh kd f t k=qh kd f (tm N L t) k:=by rw[<-u.tm]);rw[e];exact nY (main:=main) s n h z rfl y (r _ l)
theorem p5(s:kd≠.early)(n:Nat)(r:Sl N L t)(b:bE C.P H n (qh kd f (tm N L t) k)=Xn (qh kd f (match bE C.P H n (qh kd f (tm N L t) k)with|some x=>x.1.tmps|none=>#[]) k',obs))(u:∀p∈obs,p.1=p.2)(e:Sl N L' (match bE C.P H n (qh kd f (tm N L t) k)with|some x=>x.1.tmps|none=>#[]))(h:∀a,Sl N L' a->af C i j m own (G (qh kd f a k') cs) v):af C i j m own (G (qh kd f t k) cs) v:=FI (main:=i==0) (J:=λg=>af C i j m own g v) s (λF z y l=>.ctl rfl y l) n r b u e h
theorem Ah(n:Nat)(h:Sl N L t)(a:bE C.P H n (fr f (tm N L t) k)=Xn (fr f (iV C.P H n (fr f (tm N L t) k)) k',obs))(l:∀p∈obs,p.1=p.2)(b:∀w1,Env C i own w w1->cF C i own S mm (G (fr f (iV C.P H n (fr f (tm N L t) k)) k') cs) w1):cF C i own S (mm+n) (G (fr f t k) cs) w:=by(have e:fr f t k=fr f (tm N L t) k:=by rw[<-h.tm]);rw[e];exact rJ bM cJ n a l rfl Θ (b w .refl)
theorem vC(n:kd≠.early)(hS:Sl N L t)(r:ops[x]?=Xn o)(y:Region.wanted o (XH ops (tm N L t))=Xs)(s:bh o=Xn q)(e:dy o=ags)(u:ags.map (⟨t,[]⟩:Yc).eval=vs)(l:C.P.funcs[q]?=Xn fn)(p:(fn.name== "runtime.NumGoroutine")=Xj)(k:fn.body=Xn c)(h:af C i j m own (G (fr q (vs++Array.replicate (fn.ntmps-vs.size) XJ) [.code c]) (qh kd f t (.inRegion ops (x::rest)::kk)::cs)) v):af C i j m own (G (qh kd f t (.inRegion ops (x::rest)::kk)) cs) v:=.ctl rfl (λ_=>yD n hS r y s e u l p k) h
theorem KM:XD P main (G (qh kd f t []) cs) w=.go (G (P4 kd f t []) cs) w #[]:=by rfl
theorem zp(h:af C i j m own (G (P4 kd f t []) cs) v):af C i j m own (G (qh kd f t []) cs) v:=.ctl rfl (λ_=>KM) h
theorem zw(a:C.P.funcs[f]?=Xn fn)(b:fn.results=#[])(h:af C i j m own (G (caller.finish (.tuple #[])) cs) v):af C i j m own (G (P4 .normal f t kk) (caller::cs)) v:=.ctl rfl (λ_=>vY a b) h
theorem EN(l:C.P.funcs[f]?=Xn fn)(e:fn.results=#[])(k:caller.mode=.returning)(h:af C i j m own (G caller cs) v):af C i j m own (G (P4 .deferred f t kk) (caller::cs)) v:=.ctl rfl (λw=>stepG_leave_deferred (b:=bk .deferred f) (a:=⟨t,[]⟩) (todo:=kk) rfl rfl l (results_none e _ _ w) (events_results_none e _ _) k) h
end
end
section
variable{v w1:Xz}
abbrev cD(kd:Yk)(ds:List XW)(f:XM)(t:Array Xv)(k:List X6):XF:={fn:=f,tmps:=t,todo:=k,defers:=ds,mode:=.run,kind:=kd,roundOf:=Xw}
abbrev wW(kd:Yk)(ds:List XW)(f:XM)(t:Array Xv)(k:List X6):XF:={fn:=f,tmps:=t,todo:=k,defers:=ds,mode:=.returning,kind:=kd,roundOf:=Xw}
structure Xt(P:XI)(q:XM)(fn:Func):Prop where
 f:P.funcs[q]?=Xn fn
 n:(fn.name== "runtime.NumGoroutine")=Xj
 b:fn.body.isNone=Xs
 x:Extern.findNext fn=Xw
section
variable{ds:List XW}
def kI(P:XI)(H:List (Nat×Xv))(n:Nat)(F:XF):Array Xv:=match bE P H n F with|some x=>x.1.tmps|none=>#[]
theorem yI(y:kd≠.early)(s:∀F a,(∀w,XD P main (G F cs) w=.go (G a cs) w #[])->J (G a cs)->J (G F cs))(n:Nat)(u:Sl N L t)(h:bE P H n (cD kd ds f (tm N L t) k)=Xn (cD kd ds f (kI P H n (cD kd ds f (tm N L t) k)) k',obs))(z:∀p∈obs,p.1=p.2)(l:Sl N L' (kI P H n (cD kd ds f (tm N L t) k)))(r:∀b,Sl N L' b->J (G (cD kd ds f b k') cs)):J (G (cD kd ds f t k) cs):=by(have e:cD kd ds f t k=cD kd ds f (tm N L t) k:=by rw[<-u.tm]);rw[e];exact nY s n h z rfl y (r _ l)
theorem Gp(s:kd≠.early)(n:Nat)(r:Sl N L t)(b:bE C.P H n (cD kd ds f (tm N L t) k)=Xn (cD kd ds f (kI C.P H n (cD kd ds f (tm N L t) k)) k',obs))(u:∀p∈obs,p.1=p.2)(e:Sl N L' (kI C.P H n (cD kd ds f (tm N L t) k)))(h:∀a,Sl N L' a->af C i j m own (G (cD kd ds f a k') cs) v):af C i j m own (G (cD kd ds f t k) cs) v:=yI (J:=λg=>af C i j m own g v) s (λF z y l=>.ctl rfl y l) n r b u e h
theorem EV(u:kd≠.early)(n:Nat)(s:Sl N L t)(e:bE P H n (cD kd ds f (tm N L t) k)=Xn (cD kd ds f (kI P H n (cD kd ds f (tm N L t) k)) k',obs))(y:∀p∈obs,p.1=p.2)(h:Sl N L' (kI P H n (cD kd ds f (tm N L t) k)))(l:∀b,Sl N L' b->∃a,QuitsD P a dd (G (cD kd ds f b k') cs)):∃a,QuitsD P a dd (G (cD kd ds f t k) cs):=yI (J:=λg=>∃a,QuitsD P a dd g) u (λF A z⟨a,r⟩=>⟨a+1,.ctl rfl (λw=>z w) r⟩) n s e y h l
theorem As(s:kd≠.early)(n:Nat)(r:Sl N L t)(b:bE C.P H n (cD kd ds f (tm N L t) k)=Xn (cD kd ds f (kI C.P H n (cD kd ds f (tm N L t) k)) k',obs))(u:∀p∈obs,p.1=p.2)(h:Sl N L' (kI C.P H n (cD kd ds f (tm N L t) k)))(l:∀a w1,Sl N L' a->Env C i own w w1->cF C i own S mm (G (cD kd ds f a k') cs) w1):cF C i own S (mm+n) (G (cD kd ds f t k) cs) w:=by(have e:cD kd ds f t k=cD kd ds f (tm N L t) k:=by rw[<-r.tm]);rw[e];exact rJ bM cJ n b u rfl s (l _ w h .refl)
theorem xw(n:Nat)(O:List (Nat×Ob))(k':List X6)(L':List (Nat×Xv))(hS:Sl N L t)(hG:∀t',Sl N L' t'->af C i j m own (G (cD kd ds f t' k') cs) v)(hP:C.P=Pz:=by exact hP)(hk:kd≠.early:=by simp)(h1:bE Pz (oh O) n (cD kd ds f (tm N L t) k)=Xn (cD kd ds f (kI Pz (oh O) n (cD kd ds f (tm N L t) k)) k',oo O):=by kernel_rfl)(h2:Sl N L' (kI Pz (oh O) n (cD kd ds f (tm N L t) k)):=by exact .all):af C i j m own (G (cD kd ds f t k) cs) v:=Gp hk n hS (by rw[hP];exact h1) (tN O) (by simp_all) hG
theorem ey(n:Nat)(k':List X6)(L':List (Nat×Xv))(hS:Sl N L t)(hG:∀t',Sl N L' t'->af C i j m own (G (cD kd ds f t' k') cs) v)(hP:C.P=Pz:=by exact hP)(hk:kd≠.early:=by simp)(h1:bE Pz (oh []) n (cD kd ds f (tm N L t) k)=Xn (cD kd ds f (kI Pz (oh []) n (cD kd ds f (tm N L t) k)) k',oo []):=by kernel_rfl)(h2:Sl N L' (kI Pz (oh []) n (cD kd ds f (tm N L t) k)):=by exact .all):af C i j m own (G (cD kd ds f t k) cs) v:=xw n [] k' L' hS hG hP hk h1 h2
theorem rR(n:Nat)(O:List (Nat×Ob))(k':List X6)(L':List (Nat×Xv))(hS:Sl N L t)(hG:∀t',Sl N L' t'->∃qn,QuitsD C.P qn dd (G (cD kd ds f t' k') cs))(hP:C.P=Pz:=by exact hP)(hk:kd≠.early:=by simp)(h1:bE Pz (oh O) n (cD kd ds f (tm N L t) k)=Xn (cD kd ds f (kI Pz (oh O) n (cD kd ds f (tm N L t) k)) k',oo O):=by kernel_rfl)(h2:Sl N L' (kI Pz (oh O) n (cD kd ds f (tm N L t) k)):=by exact .all):∃qn,QuitsD C.P qn dd (G (cD kd ds f t k) cs):=EV hk n hS (by rw[hP];exact h1) (tN O) (by simp_all) hG
theorem sB(n:Nat)(k':List X6)(L':List (Nat×Xv))(hS:Sl N L t)(hG:∀t',Sl N L' t'->∃qn,QuitsD C.P qn dd (G (cD kd ds f t' k') cs))(hP:C.P=Pz:=by exact hP)(hk:kd≠.early:=by simp)(h1:bE Pz (oh []) n (cD kd ds f (tm N L t) k)=Xn (cD kd ds f (kI Pz (oh []) n (cD kd ds f (tm N L t) k)) k',oo []):=by kernel_rfl)(h2:Sl N L' (kI Pz (oh []) n (cD kd ds f (tm N L t) k)):=by exact .all):∃qn,QuitsD C.P qn dd (G (cD kd ds f t k) cs):=rR n [] k' L' hS hG hP hk h1 h2
theorem wN(n:Nat)(O:List (Nat×Ob))(k':List X6)(L':List (Nat×Xv))(hS:Sl N L t)(hG:∀t' w1,Sl N L' t'->Env C i own w w1->cF C i own S mm (G (cD kd ds f t' k') cs) w1)(hP:C.P=Pz:=by exact hP)(hk:kd≠.early:=by simp)(h1:bE Pz (oh O) n (cD kd ds f (tm N L t) k)=Xn (cD kd ds f (kI Pz (oh O) n (cD kd ds f (tm N L t) k)) k',oo O):=by kernel_rfl)(h2:Sl N L' (kI Pz (oh O) n (cD kd ds f (tm N L t) k)):=by exact .all):cF C i own S (mm+n) (G (cD kd ds f t k) cs) w:=As hk n hS (by rw[hP];exact h1) (tN O) (by simp_all) hG
theorem cj(n:Nat)(k':List X6)(L':List (Nat×Xv))(hS:Sl N L t)(hG:∀t' w1,Sl N L' t'->Env C i own w w1->cF C i own S mm (G (cD kd ds f t' k') cs) w1)(hP:C.P=Pz:=by exact hP)(hk:kd≠.early:=by simp)(h1:bE Pz (oh []) n (cD kd ds f (tm N L t) k)=Xn (cD kd ds f (kI Pz (oh []) n (cD kd ds f (tm N L t) k)) k',oo []):=by kernel_rfl)(h2:Sl N L' (kI Pz (oh []) n (cD kd ds f (tm N L t) k)):=by exact .all):cF C i own S (mm+n) (G (cD kd ds f t k) cs) w:=wN n [] k' L' hS hG hP hk h1 h2
theorem mF{v:Xv}(a:o.dst=Xn d):G ((bk kd f).at (Yc.put ⟨t,ds⟩ o.dst v) k) cs=G (cD kd ds f (t.setIfInBounds d v) k) cs:=by rw[a];rfl
theorem mQ(A:kd≠.early)(hS:Sl N L t)(B:ops[x]?=Xn o)(F:Region.wanted o (XH ops (tm N L t))=Xs)(D:bh o=Xn q)(y:dy o=ags)(E:ags.map (⟨t,[]⟩:Yc).eval=vs)(r:P.funcs[q]?=Xn fn)(s:(fn.name== "runtime.NumGoroutine")=Xj)(z:fn.body=Xn c):XD P main (G (cD kd ds f t (.inRegion ops (x::rest)::kk)) cs) w=.go (G (fr q (vs++Array.replicate (fn.ntmps-vs.size) XJ) [.code c]) (cD kd ds f t (.inRegion ops (x::rest)::kk)::cs)) w #[]:=by subst E;have n:=bL D y;(have l:fn.body.isNone=Xj:=by grind);have h:=stepG_enter (main:=main) (b:=bk kd f) (a:=⟨t,ds⟩) (k:=kk) (rest:=rest) (cs:=cs) (w:=w) B (aU hS F) A (run_call_body n r s l);rw[enter_at _ r z]at h;(have e:listed P (bk kd f).fn ⟨t,ds⟩ o w=#[]:=by unfold listed;rw[events_call_body n r s l];rfl);rw[e]at h;exact h
theorem jk(b:ops[x]?=Xn o)(a:o.dst=Xn d)(u:Xv):(cD kd ds f t (.inRegion ops (x::rest)::kk)).finish u=cD kd ds f (t.setIfInBounds d u) (.inRegion ops rest::kk):=by simp[XF.finish,b,a]
theorem F6:XD P main (G (cD kd ds f t []) cs) w=.go (G (wW kd ds f t []) cs) w #[]:=by rfl
theorem kQ:XD P main (G (cD kd ds f t (.code .ret::kk)) cs) w=.go (G (wW kd ds f t (.code .ret::kk)) cs) w #[]:=by rfl
theorem ny(h:P.funcs[f]?=Xn fn)(e:fn.results=#[]):XD P main (G (wW .normal [] f t kk) (caller::cs)) w=.go (G (caller.finish (.tuple #[])) cs) w #[]:=stepG_leave (b:=base f) (a:=⟨t,[]⟩) rfl rfl h (results_none e _ _ w) (events_results_none e _ _)
theorem jc{s:Tmp}(h:P.funcs[f]?=Xn fn)(e:fn.results=#[.tmp s])(k:t.getD s XJ=u):XD P main (G (wW .normal [] f t kk) (caller::cs)) w=.go (G (caller.finish u) cs) w #[]:=by subst k;exact stepG_leave (b:=base f) (a:=⟨t,[]⟩) rfl rfl h (results_tmp e _ _ w) (events_results_tmp e _ _)
theorem J1(k:P.funcs[f]?=Xn fn)(e:fn.results=#[])(h:caller.mode=.returning):XD P main (G (wW .deferred [] f t kk) (caller::cs)) w=.go (G caller cs) w #[]:=stepG_leave_deferred (b:=bk .deferred f) (a:=⟨t,[]⟩) rfl rfl k (results_none e _ _ w) (events_results_none e _ _) h
theorem xz(r:kd≠.early)(hS:Sl N L t)(s:ops[x]?=Xn o)(y:Region.wanted o (XH ops (tm N L t))=Xs)(p:o.dst=Xw)(l:o.op=.defer {callee:=.value (.func q),args:=ags,argTypes:=ats})(u:ags.map (⟨t,[]⟩:Yc).eval=vs):XD P main (G (cD kd ds f t (.inRegion ops (x::rest)::kk)) cs) w=.go (G (cD kd (dcall q vs::ds) f t (.inRegion ops rest::kk)) cs) w #[]:=by subst u;refine(stepG_defer (b:=bk kd f) (a:=⟨t,ds⟩) s (aU hS y) r l).trans ?_;rw[p];rfl
theorem nS(m:Mark)(k:∀g,m≠.extern g)(X:Xt P q fn)(h:Extern.find fn=Xn (λ_=>do mark m;pure Extern.Race.none_)):XD P main (G (wW kd (dcall q #[]::ds) f t kk) cs) w=.go (G (wW kd ds f t kk) cs) w #[mk m]:=by have:=stepG_unwind_entry (main:=main) (b:=bk kd f) (a:=⟨t,dcall q #[]::ds⟩) (todo:=kk) (cs:=cs) (w:=w) rfl X.f X.n X.b X.x h (v:=Extern.Race.none_) (w':=w) (evs:=#[⟨.mark m,Xj,Xs⟩]) Θ Θ (by simp_all);exact this
theorem pU(p:kd≠.early)(m:Mark)(r:∀g,m≠.extern g)(hS:Sl N L t)(s:ops[x]?=Xn o)(y:Region.wanted o (XH ops (tm N L t))=Xs)(l:o.dst=Xn d)(u:bh o=Xn q)(X:Xt P q fn)(n:Extern.find fn=Xn (λ_=>do mark m;pure Extern.Race.none_)):XD P main (G (cD kd ds f t (.inRegion ops (x::rest)::kk)) cs) w=.go (G (cD kd ds f (t.setIfInBounds d (.tuple #[])) (.inRegion ops rest::kk)) cs) w #[mk m]:=(stepG_mark0 (b:=bk kd f) (a:=⟨t,ds⟩) m r s (aU hS y) p (bL u rfl) X.f X.n X.b X.x n).trans (by rw[mF l];try rfl)
theorem mb(s:kd≠.early)(h:X7->Mark)(u:∀ad g,h ad≠.extern g)(hS:Sl N L t)(y:ops[x]?=Xn o)(A:Region.wanted o (XH ops (tm N L t))=Xs)(p:o.dst=Xn d)(z:bh o=Xn q)(n:dy o=ags)(X:Xt P q fn)(r:Extern.find fn=Xn (Extern.Race.marked h))(B:(ags.map (⟨t,ds⟩:Yc).eval)[0]?=Xn (.pointer (Xn ad))):XD P main (G (cD kd ds f t (.inRegion ops (x::rest)::kk)) cs) w=.go (G (cD kd ds f (t.setIfInBounds d (.tuple #[])) (.inRegion ops rest::kk)) cs) w #[mk (h ad)]:=(stepG_markAt (b:=bk kd f) (a:=⟨t,ds⟩) h u y (aU hS A) s (bL z n) X.f X.n X.b X.x r B).trans (by rw[mF p];try rfl)
theorem Hj(p:kd≠.early)(u:Xv)(hS:Sl N L t)(r:ops[x]?=Xn o)(y:Region.wanted o (XH ops (tm N L t))=Xs)(l:o.dst=Xn d)(s:bh o=Xn q)(X:Xt P q fn)(n:Extern.find fn=Xn (λ_=>pure u)):XD P main (G (cD kd ds f t (.inRegion ops (x::rest)::kk)) cs) w=.go (G (cD kd ds f (t.setIfInBounds d u) (.inRegion ops rest::kk)) cs) w #[]:=(stepG_entry_pure (b:=bk kd f) (a:=⟨t,ds⟩) u r (aU hS y) p (bL s rfl) X.f X.n X.b X.x n).trans (by rw[mF l])
theorem Lq(p:kd≠.early)(hS:Sl N L t)(r:ops[x]?=Xn o)(y:Region.wanted o (XH ops (tm N L t))=Xs)(l:o.dst=Xn d)(s:(XC (⟨t,ds⟩:Yc).eval o).run P w=.ok (.value u) w)(n:(XC (⟨t,ds⟩:Yc).eval o).events P w #[]=#[]):XD P main (G (cD kd ds f t (.inRegion ops (x::rest)::kk)) cs) w=.go (G (cD kd ds f (t.setIfInBounds d u) (.inRegion ops rest::kk)) cs) w #[]:=by refine(stepG_value (b:=bk kd f) (a:=⟨t,ds⟩) r (aU hS y) p s).trans ?_;unfold listed;rw[n,kL,mF l]
theorem tF{e:XG}{v:Xv}(k:P.underlying s=Xn (.pointer e))(a:P.underlying d'=Xn .unsafePointer)(l:(P.info? e).map (λi=>decide (i.size=0))=Xn Xj)(A:kd≠.early)(hS:Sl N L t)(B:ops[x]?=Xn o)(E:Region.wanted o (XH ops (tm N L t))=Xs)(z:o.dst=Xn d)(D:o.op=.convert s d' y)(F:(⟨t,ds⟩:Yc).eval y=.pointer (Xn ad))(h:w.cell? ad=Xn v):XD P main (G (cD kd ds f t (.inRegion ops (x::rest)::kk)) cs) w=.go (G (cD kd ds f (t.setIfInBounds d (.pointer (Xn ad))) (.inRegion ops rest::kk)) cs) w #[]:=by have u:=run_convert_to_unsafe k a l h;have r:=λn=>events_convert_to_unsafe k a l h n;refine Lq A hS B E z ?_ ?_;{unfold XC;simp_all};unfold XC;simp_all
theorem Ih(A:kd≠.early){v:Int}(hS:Sl N L t)(B:ops[x]?=Xn o)(E:Region.wanted o (XH ops (tm N L t))=Xs)(r:o.dst=Xn d)(D:bh o=Xn q)(l:dy o=#[y,z])(X:Xt P q fn)(s:Extern.find fn=Xn (Extern.Atomic.update (Op.intArith .add) .u64 Xs))(F:(⟨t,ds⟩:Yc).eval y=.pointer (Xn ad))(H:(⟨t,ds⟩:Yc).eval z=.int .u64 n)(p:w.cell? ad=Xn (.int .u64 v))(u:w.frozen? ad=Xj):XD P main (G (cD kd ds f t (.inRegion ops (x::rest)::kk)) cs) w=.go (G (cD kd ds f (t.setIfInBounds d (.int .u64 (XE.u64.wrap (v+n)))) (.inRegion ops rest::kk)) cs) (w.setCell ad (.int .u64 (XE.u64.wrap (v+n)))) #[rd ad,wr ad]:=(stepG_add_atomic (b:=bk kd f) (a:=⟨t,ds⟩) B (aU hS E) A (bL D l) X.f X.n X.b X.x .u64 s F H p u).trans (by rw[mF r];try rfl)
theorem we(s:kd≠.early){v:Int}(hS:Sl N L t)(u:ops[x]?=Xn o)(A:Region.wanted o (XH ops (tm N L t))=Xs)(p:o.dst=Xn d)(z:bh o=Xn q)(l:dy o=#[y])(X:Xt P q fn)(r:Extern.find fn=Xn (Extern.Atomic.loadT (.int .u64)))(B:(⟨t,ds⟩:Yc).eval y=.pointer (Xn ad))(n:w.cell? ad=Xn (.int .u64 v)):XD P main (G (cD kd ds f t (.inRegion ops (x::rest)::kk)) cs) w=.go (G (cD kd ds f (t.setIfInBounds d (.int .u64 v)) (.inRegion ops rest::kk)) cs) w #[rd ad]:=(stepG_load_atomic (b:=bk kd f) (a:=⟨t,ds⟩) u (aU hS A) s (bL z l) X.f X.n X.b X.x .u64 r B n).trans (by rw[mF p];try rfl)
theorem IM(B:kd≠.early)(hS:Sl N L t)(D:ops[x]?=Xn o)(F:Region.wanted o (XH ops (tm N L t))=Xs)(r:o.dst=Xn d)(E:bh o=Xn q)(l:dy o=#[y,z])(X:Xt P q fn)(s:Extern.find fn=Xn Extern.Atomic.storeT)(H:(⟨t,ds⟩:Yc).eval y=.pointer (Xn ad))(I:(⟨t,ds⟩:Yc).eval z=.int .u64 n)(p:w.cell? ad=Xn u)(A:w.frozen? ad=Xj):XD P main (G (cD kd ds f t (.inRegion ops (x::rest)::kk)) cs) w=.go (G (cD kd ds f (t.setIfInBounds d (.tuple #[])) (.inRegion ops rest::kk)) cs) (w.setCell ad (.int .u64 n)) #[wr ad]:=(stepG_store_atomic (b:=bk kd f) (a:=⟨t,ds⟩) D (aU hS F) B (bL E l) X.f X.n X.b X.x s H I p A).trans (by rw[mF r];try rfl)
theorem BG(B:kd≠.early){u:XS}{v:Int}(hS:Sl N L t)(D:ops[x]?=Xn o)(H:Region.wanted o (XH ops (tm N L t))=Xs)(r:o.dst=Xn d)(E:bh o=Xn q)(l:dy o=#[y,z,u])(X:Xt P q fn)(s:Extern.find fn=Xn (Extern.Atomic.casT (.int .u64)))(I:(⟨t,ds⟩:Yc).eval y=.pointer (Xn ad))(J:(⟨t,ds⟩:Yc).eval z=.int .u64 v)(F:(⟨t,ds⟩:Yc).eval u=.int .u64 n)(p:w.cell? ad=Xn (.int .u64 v))(A:w.frozen? ad=Xj):XD P main (G (cD kd ds f t (.inRegion ops (x::rest)::kk)) cs) w=.go (G (cD kd ds f (t.setIfInBounds d (.bool Xs)) (.inRegion ops rest::kk)) cs) (w.setCell ad (.int .u64 n)) #[rd ad,wr ad]:=(stepG_cas_hit (b:=bk kd f) (a:=⟨t,ds⟩) D (aU hS H) B (bL E l) X.f X.n X.b X.x .u64 s I J F p A).trans (by rw[mF r];try rfl)
theorem yp(D:kd≠.early){u:XS}{v:Int}(hS:Sl N L t)(E:ops[x]?=Xn o)(I:Region.wanted o (XH ops (tm N L t))=Xs)(s:o.dst=Xn d)(F:bh o=Xn q)(p:dy o=#[y,z,u])(X:Xt P q fn)(A:Extern.find fn=Xn (Extern.Atomic.casT (.int .u64)))(J:(⟨t,ds⟩:Yc).eval y=.pointer (Xn ad))(K:(⟨t,ds⟩:Yc).eval z=.int .u64 old)(H:(⟨t,ds⟩:Yc).eval u=.int .u64 n)(r:w.cell? ad=Xn (.int .u64 v))(B:w.frozen? ad=Xj)(k:¬v=old):XD P main (G (cD kd ds f t (.inRegion ops (x::rest)::kk)) cs) w=.go (G (cD kd ds f (t.setIfInBounds d (.bool Xj)) (.inRegion ops rest::kk)) cs) w #[rd ad]:=(stepG_cas_miss (b:=bk kd f) (a:=⟨t,ds⟩) E (aU hS I) D (bL F p) X.f X.n X.b X.x .u64 A J K H r B k).trans (by rw[mF s];try rfl)
theorem QA(z:kd≠.early)(hS:Sl N L t)(A:ops[x]?=Xn o)(D:Region.wanted o (XH ops (tm N L t))=Xs)(s:o.dst=Xn d)(B:bh o=Xn q)(p:dy o=ags)(X:Xt P q fn)(u:Extern.find fn=Xn Extern.Sync.semacquire)(E:(ags.map (⟨t,ds⟩:Yc).eval)[0]?=Xn (.pointer (Xn ad)))(r:w.cell? ad=Xn (.int .u32 n))(k:n≠0)(y:w.frozen? ad=Xj):XD P main (G (cD kd ds f t (.inRegion ops (x::rest)::kk)) cs) w=.go (G (cD kd ds f (t.setIfInBounds d (.tuple #[])) (.inRegion ops rest::kk)) cs) (w.setCell ad (.int .u32 (n-1))) (semEvents ad):=(stepG_semacquire (b:=bk kd f) (a:=⟨t,ds⟩) A (aU hS D) z (bL B p) X.f X.n X.b X.x u E r k y).trans (by rw[mF s])
theorem Bb(hS:Sl N L t)(s:ops[x]?=Xn o)(y:Region.wanted o (XH ops (tm N L t))=Xs)(u:bh o=Xn q)(n:dy o=ags)(X:Xt P q fn)(r:Extern.find fn=Xn Extern.Sync.semacquire)(z:(ags.map (⟨t,ds⟩:Yc).eval)[0]?=Xn (.pointer (Xn ad)))(p:w.cell? ad=Xn (.int .u32 0)):XD P main (G (cD kd ds f t (.inRegion ops (x::rest)::kk)) cs) w=.go {G (cD kd ds f t (.inRegion ops (x::rest)::kk)) cs with status:=.blocked} w #[]:=stepG_semacquire_wait (b:=bk kd f) (a:=⟨t,ds⟩) s (aU hS y) (bL u n) X.f X.n X.b X.x r z p
theorem Ql(y:kd≠.early)(hS:Sl N L t)(z:ops[x]?=Xn o)(B:Region.wanted o (XH ops (tm N L t))=Xs)(r:o.dst=Xn d)(A:bh o=Xn q)(l:dy o=ags)(X:Xt P q fn)(s:Extern.find fn=Xn Extern.Sync.semrelease)(D:(ags.map (⟨t,ds⟩:Yc).eval)[0]?=Xn (.pointer (Xn ad)))(p:w.cell? ad=Xn (.int .u32 n))(u:w.frozen? ad=Xj):XD P main (G (cD kd ds f t (.inRegion ops (x::rest)::kk)) cs) w=.go (G (cD kd ds f (t.setIfInBounds d (.tuple #[])) (.inRegion ops rest::kk)) cs) (w.setCell ad (.int .u32 (XE.u32.wrap (n+1)))) (semEvents ad):=(stepG_semrelease (b:=bk kd f) (a:=⟨t,ds⟩) z (aU hS B) y (bL A l) X.f X.n X.b X.x s D p u).trans (by rw[mF r])
end
end
section
variable{v w1:Xz}
abbrev hl(C:Cx)(iQ:Int)(st aw:Bool)(it:Nat)(z:Int):List (Nat×Xv):=[(0,ϱ C.mu C.mo),(2,Iv iQ),(3,.bool st),(4,.bool aw),(5,Iv it),(6,.int .i32 z)]
def i7(C:Cx)(K:Xz->Prop)(b₁:XF)(a₁:Yc)(ops₁:Array Yf)(i₁:Nat)(rest₁:List Nat)(k₁:List X6)(cs₁:List XF)(o:Wd)(aw st:Bool)(it:Nat)(g:XB)(w:Xz):Prop:=
 K w/\∃(iQ:Int)(t:Array Xv),Sl 139 (hl C iQ st aw it (o.enc:Nat)) t/\g=G (fr 166 t (cA aj 504)) (b₁.at a₁ (.inRegion ops₁ (i₁::rest₁)::k₁)::cs₁)
section
variable{b₁:XF}{a₁:Yc}{ops₁:Array Yf}{i₁:Nat}{rest₁:List Nat}{k₁:List X6}{cs₁:List XF}{K:Xz->Prop}
set_option maxRecDepth 100000 in theorem PO(hC:C.Ok)(hP:C.P=Pz)(hK:Kd C i own K)(c:K w)(hS:Sl 139 [(0,ϱ C.mu C.mo)] t):cF C i own (uH C i own (i7 C K b₁ a₁ ops₁ i₁ rest₁ k₁ cs₁) Xj Xj 0) 21 (G (fr 166 t [.code aj]) (b₁.at a₁ (.inRegion ops₁ (i₁::rest₁)::k₁)::cs₁)) w:=by show cF C i own _ _ (G (fr 166 _ (cA aj 1)) _) w;refine dJ 21 (rA aj 62 [3,4]) [(0,ϱ C.mu C.mo),(2,Iv 0),(3,.bool Xj),(4,.bool Xj),(5,Iv 0),(12,ϱ C.mu C.mo)] hS λt w1 hS r=>aC (n:=0) λw1 e=>?_;replace c:=hK.env (hK.env c r) e;refine⟨rfl,λf q hw _=>⟨_,by rw[hP];exact nh hS (o:=opn (aQ (sb aj 62)) 3) (d:=13) Ψ Ψ Ψ (y:=.tmp 12) Ψ (hS.get (by rfl)) (aB.cell hC hw) KL,5,?_⟩⟩;replace hS:Sl 139 [(13,.int .i32 (f.enc:Nat)),(0,ϱ C.mu C.mo),(2,Iv 0),(3,.bool Xj),(4,.bool Xj),(5,Iv 0),(12,ϱ C.mu C.mo)] _:=hS.put (d:=13) (v:=.int .i32 (f.enc:Nat)) Δ Θ;refine dJ 5 (cA aj 504) [(0,ϱ C.mu C.mo),(2,Iv 0),(3,.bool Xj),(4,.bool Xj),(5,Iv 0),(6,.int .i32 (f.enc:Nat))] hS λt w1 hS r=>aC (n:=0) λw1 e=>?_;exact⟨hK.env (hK.env c r) e,_,t,hS,rfl⟩
end
end
end Go.Lw
