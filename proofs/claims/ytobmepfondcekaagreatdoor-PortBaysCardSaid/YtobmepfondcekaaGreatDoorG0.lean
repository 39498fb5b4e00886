/- A part. -/
import Derived.KernelRfl
import GoSem.Core.Value
import Derived.Conc.Own4
import Derived.Conc.SmallLaws
import Derived.Conc.Listed
import Derived.Calls
import Derived.Conc.Own
import Derived.Conc.Events
import Derived.Laws.Entries
import Derived.Conc.LockTrace
import Derived.Conc.MuSpec
import Derived.Conc.Beside
import Derived.Conc.MuWords
import Derived.Conc.ClockLaws
import Derived.Test.YtobmepfondcekaaGreatDoorProg
import Derived.Conc.DeferLaws
import Derived.Conc.QuitsD
import Derived.Conc.WgArith
set_option linter.all false
open Go.Proofs.Tryz renaming prog->Pz
open Go renaming Act->YX,Addr->YT,Builtin->YM,CallKind->Za,Code->YZ,Deferred->YO,Event->YV,Frame->Yy,FuncId->YD,Goroutine->Ys,IntKind->Yx,Item->YS,MapEntry->Y2,Obj->YQ,Oper->Y3,Operand->YI,Program->YC,Question->Y6,Result->YW,Sem->YN,TypeId->Yz,Value->Yl,World->Yn,execOp->Yt,stepG->Yu,undef->YE,yielded->YA
open Bool renaming false->Yd,true->Yk
open Option renaming none->Yq,some->Yg
open Go.Proofs.Tryz
abbrev Vu:=@Nat.le_refl
abbrev Vv:=@Nat.lt_of_lt_of_le
abbrev Vw:=@Array.getElem?_eq_some_iff
abbrev Vx:=@List.getElem?_eq_getElem
abbrev Vy:=@Bool.and_eq_true
abbrev Vz:=@List.mem_cons_self
abbrev VA:=@List.mem_of_getElem?
abbrev VB:=@Option.map_eq_some_iff
abbrev VC:=@Nat.zero_add
abbrev VD:=@Array.getElem?_eq_getElem
abbrev VE:=@List.mem_map
abbrev VF:=@List.getElem?_map
abbrev VG:=@Nat.le_trans
abbrev VH:=@List.mem_cons
abbrev VI:=@List.getElem?_eq_some_iff
abbrev VJ:=@List.mem_append
abbrev VK:=@List.mem_cons_of_mem
abbrev VL:=@Iff.rfl
abbrev VM:=@Option.some.injEq
abbrev VN:=@Nat.lt_irrefl
abbrev VO:=@Prod.mk.injEq
abbrev VP:=@Option.bind_eq_some_iff
abbrev VQ:=@Array.getD_eq_getD_getElem?
abbrev VR:=@Nat.zero_le
abbrev VS:=@List.all_eq_true
abbrev VU:=@Option.map_some
abbrev VV:=@Array.getElem?_setIfInBounds_ne
abbrev VW:=@List.mem_singleton
abbrev VX:=@List.mem_iff_getElem?
abbrev VY:=@Array.getElem?_push
abbrev VZ:=@Bool.eq_false_iff
abbrev V0:=@Nat.le_of_lt
abbrev V1:=@List.map_cons
abbrev V2:=@Nat.lt_or_ge
abbrev V3:=@Prod.mk.inj
abbrev V4:=@Bool.false_eq_true
abbrev V5:=@Array.mem_append
abbrev V6:=@List.length_append
abbrev V7:=@Nat.eq_zero_or_pos
abbrev V8:=@List.length_eq_zero_iff
abbrev V9:=@List.mem_append_left
abbrev Wa:=@List.mem_append_right
abbrev Wb:=@Nat.le_of_ble_eq_true
abbrev We:=@Nat.add_zero
abbrev Wf:=@Option.some.inj
abbrev Wg:=@Array.mem_of_getElem?
abbrev Wh:=@Option.getD_some
abbrev Wi:=@Classical.byContradiction
abbrev Wj:=@Nat.le_of_eq
abbrev Wk:=@List.mem_filter
abbrev Wl:=@List.take_of_length_le
abbrev Wm:=@List.getElem_mem
abbrev Wn:=@List.any_eq_true
abbrev Wo:=@List.map_append
abbrev Wp:=@List.map_nil
abbrev Wq:=@List.take_add_one
abbrev Wr:=@List.nodup_cons
abbrev Ws:=@Array.getElem?_modify
abbrev Wt:=@Bool.or_eq_true
abbrev Wu:=@Nat.not_lt_zero
abbrev Wv:=@List.length_cons
abbrev Ww:=@List.append_nil
abbrev Wx:=@Nat.le_add_right
abbrev Wy:=@List.foldl_cons
abbrev Wz:=@Bool.eq_iff_iff
abbrev WA:=@List.getElem?_range
abbrev WB:=@List.all_cons
abbrev WC:=@Bool.false_and
abbrev WE:=@Nat.le_succ
abbrev WG:=@List.append_assoc
abbrev WH:=@List.take_length
abbrev WI:=@Array.getElem?_setIfInBounds
abbrev WJ:=@Option.isSome_iff_exists
abbrev WK:=@Nat.lt_or_eq_of_le
abbrev WL:=@Nat.pos_of_ne_zero
abbrev WM:=@Array.getElem?_map
abbrev WN:=@List.not_mem_nil
abbrev WO:=@List.map_toArray
abbrev WQ:=@Bool.true_and
abbrev WR:=@List.mem_range
abbrev WS:=@Nat.ne_of_lt
abbrev WT:=@List.contains_iff_mem
abbrev WU:=@Array.getElem?_replicate
abbrev WV:=@List.getElem?_append_left
abbrev WW:=@List.foldl_append
abbrev WX:=@List.perm_middle
abbrev WY:=@List.count_cons_of_ne
abbrev WZ:=@List.drop_eq_getElem_cons
abbrev W1:=@Bool.or_true
abbrev W3:=@Nat.add_assoc
abbrev W4:=@Array.length_toList
abbrev W6:=@Nat.mul_le_mul_right
abbrev W7:=@List.range_succ
abbrev W8:=@Int.le_refl
abbrev W9:=@Option.bind_some
abbrev Xa:=@Nat.mod_lt
abbrev Xb:=@Bool.or_false
abbrev Xc:=@List.map_congr_left
abbrev Xd:=@List.nodup_append
abbrev Xe:=@Array.mem_iff_getElem
abbrev Xf:=@List.nodup_nil
abbrev Xg:=@Int.toNat_natCast
abbrev Xh:=@List.getElem_toArray
abbrev Xi:=@List.getElem_cons_succ
abbrev Xj:=@List.getElem_cons_zero
abbrev Xk:=@List.setIfInBounds_toArray
abbrev Xl:=@List.set_cons_zero
abbrev Xm:=@List.set_cons_succ
abbrev Xn:=@List.flatMap_cons
abbrev Xo:=@Nat.lt_of_le_of_lt
abbrev Xp:=@Bool.true_or
abbrev Xq:=@Nat.add_mul
abbrev Xr:=@Nat.mul_one
abbrev Xs:=@List.filter_cons
abbrev Xu:=@List.mem_flatMap
abbrev Xv:=@List.ext_getElem?
abbrev Xw:=@Array.mem_push
abbrev Xx:=@Array.all_eq_true_iff_forall_mem
abbrev Xy:=@Nat.pow_le_pow_right
abbrev Xz:=@Nat.mul_comm
abbrev XA:=@List.map_eq_nil_iff
abbrev XB:=@Bool.toNat_le
abbrev XC:=@Array.ext_getElem?
abbrev XD:=@List.getElem?_append_right
abbrev XE:=@List.extract_eq_take_drop
abbrev XF:=@List.take_succ_eq_append_getElem
abbrev XG:=@Int.ofNat.inj
abbrev XH:=@Int.add_zero
abbrev XI:=@List.nil_append
abbrev XJ:=@List.length_filter_le
abbrev XK:=@List.mem_map_of_mem
abbrev XL:=@Nat.succ_pos
abbrev XM:=@Bool.not_false
abbrev XN:=@Array.getElem?_eq_none
abbrev XO:=@List.getElem?_toArray
abbrev XP:=@Bool.false_or
abbrev XQ:=@Prod.ext
abbrev XR:=@List.cons.injEq
abbrev XS:=@Nat.le_of_lt_succ
abbrev XT:=@Nat.testBit_two_pow_mul_add
abbrev XU:=@Int.fdiv_eq_ediv_of_nonneg
abbrev XV:=@Nat.le_of_not_lt
abbrev XW:=@List.getElem?_cons_succ
abbrev XX:=@List.length_pos_iff
abbrev XY:=@List.all_eq_false
abbrev XZ:=@List.mapIdx_cons
abbrev X0:=@List.count_append
abbrev X3:=@Array.toList_append
abbrev X4:=@Array.toList_setIfInBounds
abbrev X5:=@List.count_pos_iff
abbrev X6:=@Array.size_setIfInBounds
abbrev X8:=@Nat.lt_of_succ_lt
abbrev X9:=@Bool.and_false
abbrev Ya:=@List.foldlM_cons
abbrev Yb:=@Array.getElem?_of_mem
abbrev Yc:=@List.eq_nil_of_length_eq_zero
abbrev Ye:=@Nat.and_two_pow_sub_one_eq_mod
abbrev Yf:=@Nat.two_pow_add_eq_or_of_lt
abbrev Yh:=@Array.getElem?_append_left
abbrev Yi:=@List.mem_of_mem_drop
abbrev Yj:=@List.take_append_drop
abbrev Ym:=@Array.getElem?_setIfInBounds_self_of_lt
abbrev Yo:=@List.eq_nil_or_concat
abbrev Yp:=@List.count_cons_self
abbrev Yr:=@Array.toList_extract
abbrev Yv:=@List.take_subset_take_left
abbrev Yw:=@List.getD_eq_getElem?_getD
abbrev YB:=@List.flatMap_eq_nil_iff
abbrev YG:=@List.drop_of_length_le
abbrev YJ:=@List.getD_cons_zero
abbrev YK:=@List.getD_cons_succ
abbrev YL:=@List.perm_append_singleton
abbrev YP:=@Classical.choose_spec
abbrev YR:=@Int.eq_ofNat_of_zero_le
abbrev Y0:=@Array.getElem_setIfInBounds
abbrev Y1:=@Array.getElem?_push_lt
abbrev Y4:=@Array.getElem!_eq_getD
abbrev Y7:=@Array.mapM_eq_foldlM
abbrev Y8:=@Array.foldlM_toList
namespace Go
abbrev Iv(n:Int):Yl:=.int .i64 n
variable{p:Prop}
theorem Ψ(h:p:=by kernel_rfl):p:=h
theorem Δ(h:p:=by decide):p:=h
theorem Ω(h:p:=by omega):p:=h
theorem Θ(h:p:=by simp):p:=h
theorem Ξ(h:p:=by rw[hP];kernel_rfl):p:=h
theorem Λ(h:p:=by rw[hP];exact .all):p:=h
theorem Υ(h:p:=by intro p hp;simp only[VH,WN,or_false]at hp;(repeat'(refine Or.elim hp ?_ ?_<;>intro hp));(all_goals subst hp);all_goals first|(left;simp;done)|(refine .inr ⟨0,?_,hdep 0 ?_⟩;rotate_left;kernel_rfl;simp;done)|(refine .inr ⟨1,?_,hdep 1 ?_⟩;rotate_left;kernel_rfl;simp;done)|(refine .inr ⟨2,?_,hdep 2 ?_⟩;rotate_left;kernel_rfl;simp;done)|(refine .inr ⟨3,?_,hdep 3 ?_⟩;rotate_left;kernel_rfl;simp;done)|(refine .inr ⟨4,?_,hdep 4 ?_⟩;rotate_left;kernel_rfl;simp;done)|(refine .inr ⟨5,?_,hdep 5 ?_⟩;rotate_left;kernel_rfl;simp;done)|(refine .inr ⟨6,?_,hdep 6 ?_⟩;rotate_left;kernel_rfl;simp;done)|(refine .inr ⟨7,?_,hdep 7 ?_⟩;rotate_left;kernel_rfl;simp;done)|(refine .inr ⟨8,?_,hdep 8 ?_⟩;rotate_left;kernel_rfl;simp;done)|(refine .inr ⟨9,?_,hdep 9 ?_⟩;rotate_left;kernel_rfl;simp;done)|(refine .inr ⟨10,?_,hdep 10 ?_⟩;rotate_left;kernel_rfl;simp;done)|(refine .inr ⟨11,?_,hdep 11 ?_⟩;rotate_left;kernel_rfl;simp;done)|(refine .inr ⟨12,?_,hdep 12 ?_⟩;rotate_left;kernel_rfl;simp;done)|(refine .inr ⟨13,?_,hdep 13 ?_⟩;rotate_left;kernel_rfl;simp;done)|(refine .inr ⟨14,?_,hdep 14 ?_⟩;rotate_left;kernel_rfl;simp;done)|(refine .inr ⟨15,?_,hdep 15 ?_⟩;rotate_left;kernel_rfl;simp;done)|(refine .inr ⟨16,?_,hdep 16 ?_⟩;rotate_left;kernel_rfl;simp;done)|(refine .inr ⟨17,?_,hdep 17 ?_⟩;rotate_left;kernel_rfl;simp;done)|(refine .inr ⟨18,?_,hdep 18 ?_⟩;rotate_left;kernel_rfl;simp;done)|(refine .inr ⟨19,?_,hdep 19 ?_⟩;rotate_left;kernel_rfl;simp;done)|(refine .inr ⟨20,?_,hdep 20 ?_⟩;rotate_left;kernel_rfl;simp;done)|(refine .inr ⟨21,?_,hdep 21 ?_⟩;rotate_left;kernel_rfl;simp;done)|(refine .inr ⟨22,?_,hdep 22 ?_⟩;rotate_left;kernel_rfl;simp;done)|(refine .inr ⟨23,?_,hdep 23 ?_⟩;rotate_left;kernel_rfl;simp;done)|(refine .inr ⟨24,?_,hdep 24 ?_⟩;rotate_left;kernel_rfl;simp;done)|(refine .inr ⟨25,?_,hdep 25 ?_⟩;rotate_left;kernel_rfl;simp;done)):p:=h
abbrev ϖ(b:Nat):Yl:=.pointer (Yg ⟨b,0,Yq⟩)
abbrev ϱ(b o:Nat):Yl:=.pointer (Yg ⟨b,o,Yq⟩)
end Go
namespace Go.Pw
open Go.Conc
variable{P:YC}{α:Type}{F F' F1:Yy}{o:YQ}{main rd:Bool}{cs:List Yy}{w:Yn}{ops:Array Y3}{i d m N b:Nat}{k:List YS}{H L L':List (Nat×Yl)}{R:Yn->Yn->Prop}{D:Yn->Yn->Array YV->Prop}{Stop:Ys->Yn->Prop}{J:Ys->Prop}{v:Yl}{t:Array Yl}{f:YD}
def dC(P:YC){α:Type}:YN α->Option α
 |.pure a=>Yg a
 |.program k=>dC P (k P)
 |_=>Yq
theorem ey{x:YN α}{a:α}(h:dC P x=Yg a)(w:Yn):x.run P w=.ok a w/\x.events P w #[]=#[]:=by induction x with|pure b=>simp only[dC,VM]at h;subst h;exact⟨rfl,rfl⟩|program k c=>exact c P h|_=>simp[dC]at h
def Bw(P:YC)(F:Yy)(o:Y3):Option Yy:=
 match o.op with
 |.defer _=>Yq
 |_=>match dC P (Yt F.eval o)with
   |some (.value v)=>Yg (F.finish v)
   |some .skip=>Yg (F.finish YE)
   |_=>Yq
def lH(P:YC)(F:Yy):Option Yy:=
 match F.todo with
 |.code .skip::k=>Yg {F with todo:=k}
 |.code (.label _)::k=>Yg {F with todo:=k}
 |.inBlock _::k=>Yg {F with todo:=k}
 |.inScope _::k=>Yg {F with todo:=k}
 |.code (.seq a b)::k=>Yg {F with todo:=.code a::.code b::k}
 |.code (.cond c x y)::k=>match F.eval c with
   |.bool b=>Yg {F with todo:=.code (if b then x else y)::k}
   |_=>Yq
 |.code (.block id c)::k=>Yg {F with todo:=.code c::.inBlock id::k}
 |.code (.loop c)::k=>Yg {F with todo:=.code c::.inLoop c::k}
 |.inLoop c::k=>Yg {F with todo:=.code c::.inLoop c::k}
 |.code (.scope c)::k=>Yg {F with todo:=.code c::.inScope c::k}
 |.code (.exit id)::k=>(exitTo id k).map λk=>{F with todo:=k}
 |.code (.region _ ops Yd)::k=>Yg {F with todo:=.inRegion ops (List.range ops.size)::k}
 |.inRegion _ []::k=>Yg {F with todo:=k}
 |.inRegion ops (i::_)::_=>
   match((ops[i]?).map (Region.wanted · (YA ops F.tmps))).getD Yd with
   |true=>(ops[i]?).bind (Bw P F)
   |false=>Yg (F.finish YE)
 |_=>Yq
def hint(H:List (Nat×Yl))(F F1:Yy):Yy×List (Yl×Yl):=
 match F.todo with
 |.inRegion ops (i::_)::_=>
   match(ops[i]?).bind (·.dst)with
   |some d=>match H.lookup d with
     |some v=>({F1 with tmps:=F.tmps.setIfInBounds d v},[(F1.tmps.getD d YE,v)])
     |none=>(F1,[])
   |none=>(F1,[])
 |_=>(F1,[])
def bj(P:YC)(H:List (Nat×Yl)):Nat->Yy->Option (Yy×List (Yl×Yl))
 |0,F=>Yg (F,[])
 |n+1,F=>(lH P F).bind λF1=>(bj P H n (hint H F F1).1).map λx=>(x.1,(hint H F F1).2++x.2)
theorem jZ(P:YC)(f:YD):seen P f #[]=#[]:=by rw[seen_def];simp
theorem Bs{o:Y3}(C:F.mode=.run)(B:F.kind≠.early)(H:∃ops i rest k,F.todo=.inRegion ops (i::rest)::k/\ops[i]?=Yg o/\Region.wanted o (YA ops F.tmps)=Yk)(h:Bw P F o=Yg F'):Yu P main (G F cs) w=.go (G F' cs) w #[]:=by obtain⟨ops,i,rest,k,z,A,t⟩:=H;obtain⟨fn,tmps,todo,defers,mode,kind,q⟩:=F;subst z C;(have m:=by simpa using B);(have D:∀c,o.op≠.defer c:=λc e=>by unfold Bw at h;rw[e]at h;cases h);(have y:∀n,dC P (Yt (Yy.eval {fn:=fn,tmps:=tmps,todo:=.inRegion ops (i::rest)::k,defers:=defers,mode:=.run,kind:=kind,roundOf:=q}) o)=Yg n->(∃v,n=.value v/\F'=Yy.finish {fn:=fn,tmps:=tmps,todo:=.inRegion ops (i::rest)::k,defers:=defers,mode:=.run,kind:=kind,roundOf:=q} v)\/(n=.skip/\F'=Yy.finish {fn:=fn,tmps:=tmps,todo:=.inRegion ops (i::rest)::k,defers:=defers,mode:=.run,kind:=kind,roundOf:=q} YE):=by intro n E;unfold Bw at h;split at h;{cases h};rw[E]at h;cases n<;>simp at h<;>simp[h]);cases u:dC P (Yt (Yy.eval {fn:=fn,tmps:=tmps,todo:=.inRegion ops (i::rest)::k,defers:=defers,mode:=.run,kind:=kind,roundOf:=q}) o)with|none=>unfold Bw at h;split at h;{cases h};rw[u]at h;cases h|some n=>obtain⟨p,r⟩:=ey u w;(have x:Yu P main (G {fn:=fn,tmps:=tmps,todo:=.inRegion ops (i::rest)::k,defers:=defers,mode:=.run,kind:=kind,roundOf:=q} cs) w=Yu.apply P Yk {fn:=fn,tmps:=tmps,todo:=.inRegion ops (i::rest)::k,defers:=defers,mode:=.run,kind:=kind,roundOf:=q} cs Yq (Yt (Yy.eval {fn:=fn,tmps:=tmps,todo:=.inRegion ops (i::rest)::k,defers:=defers,mode:=.run,kind:=kind,roundOf:=q}) o) w:=by cases q with|none=>simp only[G,Yu,Yu.exec,Yu.oper,Yy.oper?,A,t,VU,Wh,if_true]|some l=>simp only[G,Yu,Yu.exec,Yu.oper,Yy.oper?,A,t,VU,Wh,if_true];split;{rename_i e;exact absurd e (D _)};rfl);rw[x];rcases y n u with⟨v,rfl,rfl⟩|⟨rfl,rfl⟩;{simp[Yu.apply,p,r,m,GStep.after,jZ,G]};simp[Yu.apply,p,r,m,GStep.after,jZ,G]
theorem iD(m:F.mode=.run)(a:F.kind≠.early)(h:lH P F=Yg F'):(∀main cs w,Yu P main (G F cs) w=.go (G F' cs) w #[])/\F'.mode=.run/\F'.kind≠.early:=by obtain⟨t,q,r,f,p,n,v⟩:=F;subst m;unfold lH at h;simp only at h;split at h;(all_goals first|(cases h;exact⟨λmain cs w=>by simp[G,Yu,Yu.exec],rfl,a⟩)|skip);{split at h;{rename_i b s;cases h;exact⟨λmain cs w=>by simp[G,Yu,Yu.exec,s],rfl,a⟩};cases h};{rename_i id k;cases j:exitTo id k with|none=>rw[j]at h;cases h|some u=>rw[j]at h;cases h;exact⟨λmain cs w=>by simp[G,Yu,Yu.exec,j],rfl,a⟩};{rename_i d i e k;split at h;{rename_i g;cases l:d[i]? with|none=>rw[l]at h;cases h|some o=>rw[l]at h g;simp only[W9]at h;refine⟨λmain cs w=>Bs rfl a ⟨d,i,e,k,rfl,l,by simpa using g⟩ h,?_⟩;unfold Bw at h;split at h;{cases h};split at h<;>cases h<;>exact⟨rfl,a⟩};rename_i g;cases h;refine⟨λmain cs w=>?_,rfl,a⟩;simp only[G,Yu,Yu.exec,g,V4,if_false]};cases h
theorem Je{rest:List Nat}{d:Tmp}(e:F.todo=.inRegion ops (i::rest)::k)(l:(ops[i]?).bind (·.dst)=Yg d)(h:lH P F=Yg F1):∃v,F1={F with tmps:=F.tmps.setIfInBounds d v,todo:=.inRegion ops rest::k}:=by(have c:∀v,F.finish v={F with tmps:=F.tmps.setIfInBounds d v,todo:=.inRegion ops rest::k}:=λv=>by obtain⟨m,tmps,todo,b,j,g,n⟩:=F;subst e;simp[Yy.finish,l]);unfold lH at h;rw[e]at h;simp only at h;split at h;{cases f:ops[i]? with|none=>rw[f]at h;cases h|some o=>rw[f]at h;simp only[W9]at h;unfold Bw at h;split at h;{cases h};split at h<;>cases h;{exact⟨_,c _⟩};exact⟨_,c _⟩};cases h;exact⟨_,c _⟩
theorem w7(h:lH P F=Yg F1)(a:∀p∈(hint H F F1).2,p.1=p.2):(hint H F F1).1=F1:=by unfold hint at a⊢;split;{rename_i e i j k g;rw[g]at a;simp only at a;cases f:(e[i]?).bind (·.dst)with|none=>rfl|some d=>rw[f]at a;simp only at a⊢;cases l:H.lookup d with|none=>rfl|some v=>rw[l]at a;simp only[VW,forall_eq]at a⊢;obtain⟨u,rfl⟩:=Je g f h;rcases V2 d F.tmps.size with c|b;{(have:(F.tmps.setIfInBounds d u).getD d YE=u:=by simp[c]);rw[this]at a;rw[a]};simp[Array.setIfInBounds,Nat.not_lt.2 b]};rfl
theorem sB(j:∀a b c,R a b->R b c->R a c)(i:∀w,D w w #[]):∀(n:Nat){F F':Yy}{obs:List (Yl×Yl)}{w:Yn},bj P H n F=Yg (F',obs)->(∀p∈obs,p.1=p.2)->F.mode=.run->F.kind≠.early->Goes P main R D Stop m (G F' cs) w->Goes P main R D Stop (m+n) (G F cs) w|0,F,F',obs,w,h,_,_,_,g=>by cases h;exact g|n+1,F,F',obs,w,h,k,t,s,g=>by simp only[bj]at h;cases d:lH P F with|none=>rw[d]at h;cases h|some l=>rw[d]at h;simp only[W9]at h;cases f:bj P H n (hint H F l).1 with|none=>rw[f]at h;cases h|some x=>rw[f]at h;simp only[VU,VM,VO]at h;obtain⟨rfl,rfl⟩:=h;rw[w7 d λp d=>k p (VJ.2 (.inl d))]at f;obtain⟨o,q,r⟩:=iD t s d;have:=sB j i n (F':=x.1) (obs:=x.2) f (λp d=>k p (VJ.2 (.inr d))) q r g;refine .inr ⟨rfl,λv u=>?_⟩;rw[o];exact⟨i v,this.rely j u⟩
theorem om(f:∀F b,(∀w,Yu P main (G F cs) w=.go (G b cs) w #[])->J (G b cs)->J (G F cs)):∀(n:Nat){F F':Yy}{obs:List (Yl×Yl)},bj P H n F=Yg (F',obs)->(∀p∈obs,p.1=p.2)->F.mode=.run->F.kind≠.early->J (G F' cs)->J (G F cs)|0,F,F',obs,h,_,_,_,e=>by cases h;exact e|n+1,F,F',obs,h,g,m,l,e=>by simp only[bj]at h;cases a:lH P F with|none=>rw[a]at h;cases h|some b=>rw[a]at h;simp only[W9]at h;cases d:bj P H n (hint H F b).1 with|none=>rw[d]at h;cases h|some x=>rw[d]at h;simp only[VU,VM,VO]at h;obtain⟨rfl,rfl⟩:=h;rw[w7 a λp a=>g p (VJ.2 (.inl a))]at d;obtain⟨i,j,k⟩:=iD m l a;exact f F b (λw=>i main cs w) (om f n (F':=x.1) (obs:=x.2) d (λp a=>g p (VJ.2 (.inr a))) j k e)
def tm(N:Nat)(L:List (Nat×Yl))(t:Array Yl):Array Yl:=((List.range N).map λi=>match L.lookup i with|some v=>v|none=>t.getD i YE).toArray
structure Sl(N:Nat)(L:List (Nat×Yl))(t:Array Yl):Prop where
 size:t.size=N
 at_:∀p∈L,t.getD p.1 YE=p.2
theorem lg(h:L.lookup i=Yg v):(i,v)∈L:=by induction L with|nil=>cases h|cons p l c=>simp only[List.lookup]at h;split at h;{rename_i e;cases h;(have:=by simpa using e);subst this;exact Vz ..};exact VK _ (c h)
theorem Sl.tm(h:Sl N L t):t=tm N L t:=by apply XC;intro i;(have e:(Pw.tm N L t)[i]?=((List.range N).map λi=>match L.lookup i with|some v=>v|none=>t.getD i YE)[i]?:=by unfold Pw.tm;simp);rw[e,VF];rcases V2 i N with a|a;{rw[WA a];(have b:i<t.size:=by rw[h.size];exact a);simp only[VU,VD b,VM];cases d:L.lookup i with|none=>simp[VD b]|some v=>have:=h.at_ _ (lg d);simp only[VQ,VD b]at this;exact this};rw[List.getElem?_eq_none (by simpa using a),XN (by rw[h.size];exact a)];rfl
theorem Sl.all(h:(t.size,L.map λp=>t.getD p.1 YE)=(N,L.map (·.2)):=by kernel_rfl):Sl N L t:=by obtain⟨a,b⟩:=V3 h;refine⟨a,λp d=>?_⟩;obtain⟨i,c⟩:=VX.1 d;have:=congrArg (·[i]?) b;simpa[VF,c]using this
theorem Sl.UO(h:t.size=N):Sl N [] t:=⟨h,λp a=>by cases a⟩
theorem Sl.cons{N:Nat}{L:List (Nat×Yl)}{t:Array Yl}{i:Nat}{v:Yl}(h:t.getD i YE=v)(b:Sl N L t):Sl N ((i,v)::L) t:=⟨b.size,λp a=>by rcases VH.1 a with rfl|a;{exact h};exact b.at_ p a⟩
section
abbrev fr(f:YD)(t:Array Yl)(k:List YS):Yy:={fn:=f,tmps:=t,todo:=k,defers:=[],mode:=.run,kind:=.normal,roundOf:=Yq}
def sub:List Nat->YZ->YZ
 |[],c=>c
 |i::p,c=>match c,i with
   |.seq a _,0=>sub p a
   |.seq _ b,_=>sub p b
   |.cond _ a _,0=>sub p a
   |.cond _ _ b,_=>sub p b
   |.block _ a,_=>sub p a
   |.loop a,_=>sub p a
   |.scope a,_=>sub p a
   |.rangeFunc _ _ a _,0=>sub p a
   |.rangeFunc _ _ _ b,_=>sub p b
   |c,_=>c
def aZ:YZ->Array Y3
 |.region _ ops _=>ops
 |_=>#[]
def opn(ops:Array Y3)(i:Nat):Y3:=(ops[i]?).getD default
def UY:Nat->Nat->List Nat->List Nat
 |0,_,a=>a
 |f+1,n,a=>match Nat.ble n 1 with|true=>a|false=>UY f (n/2) (n%2::a)
def dg(n:Nat):List Nat:=UY 60 n []
abbrev sb(c:YZ)(n:Nat):YZ:=sub (dg n) c
def tT:List Nat->YZ->List YS->List YS
 |[],_,k=>k
 |i::p,c,k=>match c,i with
   |.seq a b,0=>tT p a (.code b::k)
   |.seq _ b,_=>tT p b k
   |.cond _ a _,0=>tT p a k
   |.cond _ _ b,_=>tT p b k
   |.block id a,_=>tT p a (.inBlock id::k)
   |.loop a,_=>tT p a (.inLoop a::k)
   |.scope a,_=>tT p a (.inScope a::k)
   |_,_=>k
abbrev rA(c:YZ)(n:Nat)(l:List Nat):List YS:=.inRegion (aZ (sb c n)) l::tT (dg n) c []
abbrev cA(c:YZ)(n:Nat):List YS:=.code (sb c n)::tT (dg n) c []
abbrev xA(x:YZ)(c:YZ)(n:Nat):List YS:=.code x::tT (dg n) c []
abbrev dA(c:YZ)(n:Nat)(r:Nat):List YS:=.code (.region r (aZ (sb c n)) Yk)::tT (dg n) c []
theorem Sl.get(h:Sl N L t)(a:L.lookup i=Yg v):t.getD i YE=v:=h.at_ _ (lg a)
theorem Sl.gN(h:Sl N L t)(i:Nat)(hl:L.lookup i=Yg v):t.getD i YE=v:=h.get hl
theorem Sl.put(h:Sl N L t)(c:d<N)(e:∀p∈L',p=(d,v)\/(p∈L/\p.1≠d)):Sl N L' (t.setIfInBounds d v):=by refine⟨by simp[h.size],λp f=>?_⟩;rcases e p f with rfl|⟨a,b⟩;{simp[VQ,h.size,c]};rw[<-h.at_ p a];simp only[VQ];rw[VV (Ne.symm b)]
theorem Sl.sub(h:Sl N L t)(b:∀p∈L',p∈L):Sl N L' t:=⟨h.size,λp a=>h.at_ p (b p a)⟩
theorem aS{o:Y3}(h:Sl N L t)(b:Region.wanted o (YA ops (tm N L t))=Yk):Region.wanted o (YA ops t)=Yk:=by rw[h.tm];exact b
theorem Sl.pt(h:Sl N L t)(b:d<N:=by decide)(c:L.all (λp=>!(p.1==d))=Yk:=by rfl):Sl N ((d,v)::L) (t.setIfInBounds d v):=h.put b λp a=>by rcases VH.1 a with rfl|a;{exact .inl rfl};exact .inr ⟨a,by simpa using VS.1 c p a⟩
theorem sJ:∀p∈([]:List (Yl×Yl)),p.1=p.2:=λp a=>by cases a
theorem JZ{a b:Yl}{l:List (Yl×Yl)}(h:a=b)(d:∀p∈l,p.1=p.2):∀p∈(a,b)::l,p.1=p.2:=λp c=>by rcases VH.1 c with rfl|c;{exact h};exact d p c
theorem int_eq{k:Yx}{x y:Int}(h:x=y):Yl.int k x=Yl.int k y:=by rw[h]
structure Ob where
 c:Yl
 b:Yl
 h:c=b
def oi(k:Yx)(c b:Int)(h:c=b):Ob:=⟨.int k c,.int k b,int_eq h⟩
def o2(c b:Int)(h:c=b):Ob:=oi .u32 c b h
def o3(c b:Int)(h:c=b):Ob:=oi .i32 c b h
def o6(c b:Int)(h:c=b):Ob:=oi .i64 c b h
def o8(c b:Int)(h:c=b):Ob:=oi .u64 c b h
def ob(c b:Bool)(h:c=b):Ob:=⟨.bool c,.bool b,congrArg Yl.bool h⟩
def oh(O:List (Nat×Ob)):List (Nat×Yl):=O.map λp=>(p.1,p.2.b)
def oo(O:List (Nat×Ob)):List (Yl×Yl):=O.map λp=>(p.2.c,p.2.b)
theorem sS(O:List (Nat×Ob)):∀p∈oo O,p.1=p.2:=λp a=>by obtain⟨q,_,rfl⟩:=VE.1 a;exact q.2.h
def iF(P:YC)(H:List (Nat×Yl))(n:Nat)(F:Yy):Array Yl:=match bj P H n F with|some x=>x.1.tmps|none=>#[]
section
variable{k':List YS}{n:Nat}{obs:List (Yl×Yl)}
theorem Iy(l:∀a b c,R a b->R b c->R a c)(i:∀w,D w w #[])(n:Nat)(o:Sl N L t)(g:bj P H n (fr f (tm N L t) k)=Yg (fr f (iF P H n (fr f (tm N L t) k)) k',obs))(q:∀p∈obs,p.1=p.2)(h:Sl N L' (iF P H n (fr f (tm N L t) k)))(j:∀d,Sl N L' d->Goes P main R D Stop m (G (fr f d k') cs) w):Goes P main R D Stop (m+n) (G (fr f t k) cs) w:=by(have e:fr f t k=fr f (tm N L t) k:=by rw[<-o.tm]);rw[e];exact sB l i n g q rfl Θ (j _ h)
theorem Lx(h:∀F a,(∀w,Yu P main (G F cs) w=.go (G a cs) w #[])->J (G a cs)->J (G F cs))(n:Nat)(i:Sl N L t)(c:bj P H n (fr f (tm N L t) k)=Yg (fr f (iF P H n (fr f (tm N L t) k)) k',obs))(j:∀p∈obs,p.1=p.2)(d:Sl N L' (iF P H n (fr f (tm N L t) k)))(g:∀b,Sl N L' b->J (G (fr f b k') cs)):J (G (fr f t k) cs):=by(have e:fr f t k=fr f (tm N L t) k:=by rw[<-i.tm]);rw[e];exact om (main:=main) h n c j rfl Θ (g _ d)
end
end
def xW:Yl->Bool
 |.agg _|.tuple _=>Yd
 |_=>Yk
def SK{α:Type}(b:Nat)(r:Option (α×YQ×List Nat)):Option (α×YQ×List Nat):=r.map λr=>(r.1,r.2.1,b::r.2.2)
def jH(P:YC)(rd:Bool){α:Type}:YN α->YQ->Option (α×YQ×List Nat)
 |.pure a,o=>Yg (a,o,[])
 |.program k,o=>jH P rd (k P) o
 |.load .plain ⟨b,i,Yq⟩ k,.cells c e fr=>(c[i]?).bind λv=>SK b (jH P rd (k v) (.cells c e fr))
 |.store .plain ⟨b,i,Yq⟩ v k,.cells c e (0,0)=>match !rd&&xW v&&decide (i<c.size)with
   |true=>SK b (jH P rd k (.cells (c.setIfInBounds i v) e))
   |false=>Yq
 |.getObj r k,.map es n=>SK r (jH P rd (k (.map es n)) (.map es n))
 |.setObj r (.map es' n') k,.map _ _=>match rd with
   |false=>SK r (jH P rd k (.map es' n'))
   |true=>Yq
 |_,_=>Yq
def IZ(P:YC){α:Type}:YN α->Option (YQ×(Nat->YN α))
 |.program k=>IZ P (k P)
 |.new o k=>Yg (o,k)
 |_=>Yq
def iv(w:Yn)(b:Nat)(o:YQ):Yn:={w with heap:=w.heap.setIfInBounds b o}
theorem pK{o':YQ}(h:w.heap[b]?=Yg o):(iv w b o').heap[b]?=Yg o':=by obtain⟨a,_⟩:=Vw.1 h;simp[iv,a]
theorem oU{c:Nat}(h:c≠b):(iv w b o).heap[c]?=w.heap[c]?:=by simp[iv,VV (Ne.symm h)]
theorem vi(w:Yn)(b:Nat)(o o':YQ):iv (iv w b o) b o'=iv w b o':=by simp[iv]
theorem nu(h:w.heap[b]?=Yg o):iv w b o=w:=by obtain⟨c,a⟩:=Vw.1 h;(have:w.heap.setIfInBounds b o=w.heap:=Array.ext (by simp) λk d _=>by rw[Y0];split;{rename_i e;subst e;exact a.symm};rfl);unfold iv;rw[this]
theorem AO{c:Array Yl}{e:Yz}(h:w.heap[b]?=Yg (.cells c e)):w.setCell ⟨b,i,Yq⟩ v=iv w b (.cells (c.setIfInBounds i v) e):=by obtain⟨f,d⟩:=Vw.1 h;(have:w.heap.modify b (λ|.cells c a frozen=>.cells (c.setIfInBounds i v) a frozen|o=>o)=w.heap.setIfInBounds b (.cells (c.setIfInBounds i v) e):=by apply Array.ext (by simp);intro k g _;rw[Array.getElem_modify,Y0];split;{rename_i e;subst e;rw[d]};rfl);unfold Yn.setCell iv;rw[<-this];rfl
def xB(b:Nat)(e:YV):Prop:=(match e.loc with|.cell a=>a.block=b|.obj j=>j=b|_=>False)/\e.sync=Yd
theorem JW{f:Array YV->Array YV}{e:YV}(i:xB b e)(h:∀es,∃a,f es=es++a/\∀x∈a,xB b x)(es:Array YV):∃a,f (es.push e)=es++a/\∀x∈a,xB b x:=by obtain⟨a,d,g⟩:=h (es.push e);refine⟨#[e]++a,by simp[d],λx c=>?_⟩;rcases V5.1 c with c|c;{(obtain rfl:=by simpa using c);exact i};exact g x c
theorem kN{r:Option (α×YQ×List Nat)}{a:α}{q:List Nat}(h:SK b r=Yg (a,o,q)):∃c,r=Yg (a,o,c)/\q=b::c:=by obtain⟨⟨f,g,c⟩,d,e⟩:=VB.1 h;cases e;exact⟨c,d,rfl⟩
theorem sx{x:YN α}:∀{o o':YQ}{q:List Nat}{a:α}{w:Yn},jH P rd x o=Yg (a,o',q)->(∀r∈q,r=b)->w.heap[b]?=Yg o->x.run P w=.ok a (iv w b o')/\∀es,∃u,x.events P w es=es++u/\∀e∈u,xB b e:=by induction x with|pure a=>intro o o' q a w h g d;cases h;exact⟨by rw[nu d];rfl,λes=>⟨#[],by simp,by simp⟩⟩|program k n=>exactλh g d=>n P h g d|load m A k n=>intro o o' q a w h g d;obtain⟨j,i,C⟩:=A;cases m<;>cases C<;>cases o<;>simp only[jH,reduceCtorEq]at h;obtain⟨v,z,h⟩:=VP.1 h;obtain⟨B,s,rfl⟩:=kN h;obtain rfl:j=b:=g _ (Vz ..);obtain⟨l,p⟩:=n v s (λr t=>g r (VK _ t)) d;(have y:w.cell? ⟨j,i,Yq⟩=Yg v:=by simp[Yn.cell?,d,z]);refine⟨by simpa[YN.run,y]using l,λes=>?_⟩;rw[show(YN.load Mode.plain ⟨j,i,Yq⟩ k).events P w es=(k v).events P w (es.push ⟨.cell ⟨j,i,Yq⟩,Yd,Yd⟩)by simp[YN.events,YN.runT,y,-YN.runT_eq];rfl];exact JW (f:=(k v).events P w) ⟨rfl,rfl⟩ p es|store m A v k n=>intro o o' q a w h g d;obtain⟨j,i,C⟩:=A;(cases m<;>cases C<;>cases o<;>try(exfalso;revert h;simp[jH];done));rename_i c e fr;obtain⟨F,H⟩:=fr;(cases F<;>cases H<;>try(exfalso;revert h;simp[jH];done));simp only[jH]at h;split at h;{rename_i D;rw[Vy,Vy,decide_eq_true_eq]at D;obtain⟨⟨_,z⟩,I⟩:=D;obtain⟨B,s,rfl⟩:=kN h;obtain rfl:j=b:=g _ (Vz ..);obtain⟨l,p⟩:=n s (λr t=>g r (VK _ t)) (pK d);rw[vi,<-AO d]at l;rw[<-AO d]at p;(have y:w.cell? ⟨j,i,Yq⟩=Yg c[i]:=by simp[Yn.cell?,d,I]);(have E:w.frozen? ⟨j,i,Yq⟩=Yd:=by simp[Yn.frozen?,d]);refine⟨by cases v<;>simp[xW]at z<;>simpa[YN.run,y,E]using l,λes=>?_⟩;rw[show(YN.store Mode.plain ⟨j,i,Yq⟩ v k).events P w es=k.events P (w.setCell ⟨j,i,Yq⟩ v) (es.push ⟨.cell ⟨j,i,Yq⟩,Yk,Yd⟩)by cases v<;>simp[xW]at z<;>(simp[YN.events,YN.runT,y,E,-YN.runT_eq];rfl)];exact JW (f:=k.events P _) ⟨rfl,rfl⟩ p es};cases h|getObj r k n=>intro o o' q a w h g d;cases o<;>simp only[jH,reduceCtorEq]at h;obtain⟨B,s,rfl⟩:=kN h;obtain rfl:r=b:=g _ (Vz ..);obtain⟨l,p⟩:=n _ s (λr t=>g r (VK _ t)) d;refine⟨by simpa[YN.run,d]using l,λes=>?_⟩;rw[show(YN.getObj r k).events P w es=(k _).events P w (es.push ⟨.obj r,Yd,Yd⟩)by simp[YN.events,YN.runT,d,YQ.isChan,-YN.runT_eq];rfl];exact JW (f:=(k _).events P w) ⟨rfl,rfl⟩ p es|setObj r ob k n=>intro o o' q a w h g d;cases rd<;>cases o<;>cases ob<;>simp only[jH,reduceCtorEq]at h;obtain⟨B,s,rfl⟩:=kN h;obtain rfl:r=b:=g _ (Vz ..);obtain⟨l,p⟩:=n s (λr t=>g r (VK _ t)) (pK d);rw[vi]at l;refine⟨by simp only[YN.run,d];exact l,λes=>?_⟩;rw[show(YN.setObj r _ k).events P w es=k.events P (iv w r _) (es.push ⟨.obj r,Yk,Yd⟩)by simp[YN.events,YN.runT,d,YQ.isChan,-YN.runT_eq];rfl];exact JW (f:=k.events P _) ⟨rfl,rfl⟩ p es|_=>intro o o' q a w h;simp[jH]at h
theorem ME{x:YN α}:∀{o o':YQ}{q:List Nat}{a:α},jH P Yk x o=Yg (a,o',q)->o'=o:=by induction x with|pure a=>intro o o' q a h;cases h;rfl|program k b=>exactλh=>b P h|load m d k b=>intro o o' q a h;obtain⟨j,i,g⟩:=d;cases m<;>cases g<;>cases o<;>simp only[jH,reduceCtorEq]at h;obtain⟨v,s,h⟩:=VP.1 h;obtain⟨p,f,rfl⟩:=kN h;exact b v f|getObj r k b=>intro o o' q a h;cases o<;>simp only[jH,reduceCtorEq]at h;obtain⟨p,f,rfl⟩:=kN h;exact b _ f|store m d v k b=>intro o o' q a h;obtain⟨j,i,g⟩:=d;(cases m<;>cases g<;>cases o<;>try(exfalso;revert h;simp[jH];done));rename_i c e fr;obtain⟨l,n⟩:=fr;cases l<;>cases n<;>exfalso<;>revert h<;>simp[jH]|setObj r ob k b=>intro o o' q a h;cases o<;>cases ob<;>simp[jH]at h|_=>intro o o' q a h;simp[jH]at h
theorem Ks{x:YN α}{k:Nat->YN α}{a:α}(h:IZ P x=Yg (o,k))(d:dC P (k w.heap.size)=Yg a):x.run P w=.ok a (w.alloc o)/\x.events P w #[]=#[]:=by induction x with|program f e=>exact e P h|new g f=>cases h;obtain⟨b,c⟩:=ey d (w.alloc o);exact⟨b,c⟩|_=>simp[IZ]at h
def Ut:Op->Bool
 |.defer _=>Yk
 |_=>Yd
def Av(F:Yy):Option Y3:=match F.todo with
 |.inRegion ops (i::_)::_=>match((ops[i]?).map (Region.wanted · (YA ops F.tmps))).getD Yd with
   |true=>match ops[i]? with
     |some o=>match Ut o.op with|true=>Yq|false=>Yg o
     |none=>Yq
   |false=>Yq
 |_=>Yq
def valOf:Next->Option Yl
 |.value v=>Yg v
 |.skip=>Yg YE
 |_=>Yq
def TB(P:YC)(rd:Bool)(k:Nat)(F:Yy)(H:List (Nat×YQ)):Option (Yy×List (Nat×YQ)×List (Nat×Nat)):=
 match Av F,H[k]? with
 |some o,Yg (b,ob)=>match jH P rd (Yt F.eval o) ob with
   |some (n,ob',q)=>(valOf n).map λv=>(F.finish v,H.set k (b,ob'),q.map λr=>(r,b))
   |none=>Yq
 |_,_=>Yq
def Qp(P:YC)(c:Nat)(F:Yy):Option (Yy×YQ):=
 match Av F with
 |some o=>match IZ P (Yt F.eval o)with
   |some (ob,k)=>((dC P (k c)).bind valOf).map λv=>(F.finish v,ob)
   |none=>Yq
 |none=>Yq
abbrev MR:=Yy×List (Nat×YQ)×List (Nat×Nat)×List (Yl×Yl)
def iW(P:YC)(rd:Bool)(O:List (Nat×Yl)):Nat->List Nat->List Nat->Yy->List (Nat×YQ)->Option MR
 |0,_,_,F,H=>Yg (F,H,[],[])
 |n+1,hs,bs,F,H=>match lH P F with
   |some F1=>(iW P rd O n hs bs (hint O F F1).1 H).map λr=>(r.1,r.2.1,r.2.2.1,(hint O F F1).2++r.2.2.2)
   |none=>match hs with
     |[]=>Yg (F,H,[],[])
     |0::hs=>match bs with
       |[]=>Yq
       |c::bs=>match Qp P c F with
         |some (F1,ob)=>iW P rd O n hs bs F1 ((c,ob)::H)
         |none=>Yq
     |(k+1)::hs=>match TB P rd k F H with
       |some (F1,H1,q)=>(iW P rd O n hs bs F1 H1).map λs=>(s.1,s.2.1,q++s.2.2.1,s.2.2.2)
       |none=>Yq
theorem se{o:Y3}(h:Av F=Yg o):∃ops i rest k,F.todo=.inRegion ops (i::rest)::k/\ops[i]?=Yg o/\Region.wanted o (YA ops F.tmps)=Yk/\∀c,o.op≠.defer c:=by unfold Av at h;split at h;{rename_i ops i rest k f;split at h;{rename_i g;split at h;{rename_i j d;split at h;{cases h};rename_i b;cases h;refine⟨ops,i,rest,k,f,d,by simpa[d]using g,λc e=>?_⟩;rw[e]at b;cases b};cases h};cases h};cases h
theorem CY{o:Y3}{w':Yn}{n:Next}(y:F.mode=.run)(r:F.kind≠.early)(h:Av F=Yg o)(A:(Yt F.eval o).run P w=.ok n w')(z:valOf n=Yg v):Yu P main (G F cs) w=.go (G (F.finish v) cs) w' (seen P F.fn ((Yt F.eval o).events P w #[]))/\(F.finish v).mode=.run/\(F.finish v).kind≠.early:=by obtain⟨p,i,g,k,u,x,q,C⟩:=se h;obtain⟨fn,tmps,todo,defers,mode,kind,t⟩:=F;subst u y;(have m:=by simpa using r);refine⟨?_,rfl,r⟩;generalize D:Yy.eval _=B at A⊢;(have s:Yu P main (G {fn:=fn,tmps:=tmps,todo:=.inRegion p (i::g)::k,defers:=defers,mode:=.run,kind:=kind,roundOf:=t} cs) w=Yu.apply P Yk {fn:=fn,tmps:=tmps,todo:=.inRegion p (i::g)::k,defers:=defers,mode:=.run,kind:=kind,roundOf:=t} cs Yq (Yt B o) w:=by rw[<-D];cases t with|none=>simp only[G,Yu,Yu.exec,Yu.oper,Yy.oper?,x,q,VU,Wh,if_true]|some l=>simp only[G,Yu,Yu.exec,Yu.oper,Yy.oper?,x,q,VU,Wh,if_true];split;{rename_i e;exact absurd e (C _)};rfl);rw[s];cases n<;>simp[valOf]at z<;>subst z<;>simp[Yu.apply,A,m,GStep.after,G]
theorem MD{es:Array YV}(h:∀e∈es,xB b e):∀e∈seen P f es,xB b e:=λe a=>by rw[seen_def]at a;rcases seen_fold_sub _ _ _ _ e a with x|x;{simp at x};exact h e (by simpa using x)
theorem Og{k:Nat}{H H1:List (Nat×YQ)}{q:List (Nat×Nat)}(x:F.mode=.run)(u:F.kind≠.early)(h:TB P rd k F H=Yg (F1,H1,q))(z:∀p∈q,p.1=p.2):∃b o o',H[k]?=Yg (b,o)/\H1=H.set k (b,o')/\(rd=Yk->o'=o)/\(∀main cs w,w.heap[b]?=Yg o->∃es,Yu P main (G F cs) w=.go (G F1 cs) (iv w b o') es/\∀e∈es,xB b e)/\F1.mode=.run/\F1.kind≠.early:=by unfold TB at h;split at h;{rename_i C b ob y hH;split at h;{rename_i n d D g;obtain⟨v,B,e⟩:=VB.1 h;cases e;have a:=λr A=>z (r,b) (VE.2 ⟨r,A,rfl⟩);have c:∀main cs w,w.heap[b]?=Yg ob->Yu P main (G F cs) w=.go (G (F.finish v) cs) (iv w b d) (seen P F.fn ((Yt F.eval C).events P w #[]))/\(F.finish v).mode=.run/\(F.finish v).kind≠.early:=λmain cs w f=>CY x u y (sx g a f).1 B;refine⟨b,ob,d,hH,rfl,λe=>by subst e;exact ME g,λmain cs w f=>⟨_,(c main cs w f).1,MD λe i=>?_⟩,(c Yk [] {(default:Yn)with heap:=(Array.replicate (b+1) ob)} (by simp)).2⟩;obtain⟨l,m,s⟩:=(sx g a f).2 #[];rw[m]at i;exact s e (by simpa using i)};cases h};cases h
theorem Iz(s:F.mode=.run)(q:F.kind≠.early)(h:∀c,∃r,Qp P c F=Yg r):∃o,∃e:Nat->Yy,(∀c,Qp P c F=Yg (e c,o))/\(∀main cs w,Yu P main (G F cs) w=.go (G (e w.heap.size) cs) (w.alloc o) #[])/\∀c,(e c).mode=.run/\(e c).kind≠.early:=by unfold Qp at h⊢;cases g:Av F with|none=>obtain⟨r,b⟩:=h 0;rw[g]at b;cases b|some D=>simp only[g]at h⊢;cases l:IZ P (Yt F.eval D)with|none=>obtain⟨r,b⟩:=h 0;rw[l]at b;cases b|some x=>obtain⟨ob,p⟩:=x;simp only[l]at h⊢;(have j:∀c,∃n v,dC P (p c)=Yg n/\valOf n=Yg v:=λc=>by obtain⟨r,b⟩:=h c;obtain⟨v,j,_⟩:=VB.1 b;obtain⟨n,a,d⟩:=VP.1 j;exact⟨n,v,a,d⟩);(have m:∀main cs(w:Yn),Yu P main (G F cs) w=.go (G (F.finish (((dC P (p w.heap.size)).bind valOf).getD YE)) cs) (w.alloc ob) #[]:=λmain cs w=>by obtain⟨n,v,a,d⟩:=j w.heap.size;obtain⟨B,C⟩:=Ks l a;rw[(CY s q g B d).1,C,jZ,a];simp[d]);refine⟨ob,λc=>F.finish (((dC P (p c)).bind valOf).getD YE),λc=>?_,m,λc=>?_⟩;{obtain⟨n,v,a,d⟩:=j c;simp[a,d]};obtain⟨E,i,y,k,a,_⟩:=se g;obtain⟨H,z,A,f,u,t,I⟩:=F;subst a;exact⟨s,q⟩
structure Carry(P:YC)(rd:Bool)(main:Bool)(cs:List Yy)(J:(Nat->Prop)->Ys->Yn->Prop)(Kn:(Nat->Prop)->Yn->List (Nat×YQ)->Prop)(al:Prop):Prop where
 ctl:∀own v F F1,(∀w,Yu P main (G F cs) w=.go (G F1 cs) w #[])->J own (G F1 cs) v->J own (G F cs) v
 mem:∀own v H k b o o' F F1,Kn own v H->H[k]?=Yg (b,o)->(rd=Yk->o'=o)->(∀w:Yn,w.heap[b]?=Yg o->∃es,Yu P main (G F cs) w=.go (G F1 cs) (iv w b o') es/\∀e∈es,xB b e)->(∀v',Kn own v' (H.set k (b,o'))->J own (G F1 cs) v')->J own (G F cs) v
 new:al->∀own v H o F(F1:Nat->Yy),Kn own v H->(∀w:Yn,Yu P main (G F cs) w=.go (G (F1 w.heap.size) cs) (w.alloc o) #[])->(∀own' c v',Kn own' v' ((c,o)::H)->J own' (G (F1 c) cs) v')->J own (G F cs) v
theorem Carry.run{P:YC}{J:(Nat->Prop)->Ys->Yn->Prop}{Kn:(Nat->Prop)->Yn->List (Nat×YQ)->Prop}{al:Prop}(C:Carry P rd main cs J Kn al)(O:List (Nat×Yl)):∀(n:Nat)(g:List Nat)(k:Nat)(_:k≠0->al)(own:Nat->Prop)(v:Yn)(F:Yy)(H:List (Nat×YQ)),F.mode=.run->F.kind≠.early->Kn own v H->(∀bs:List Nat,bs.length=k->∃r,iW P rd O n g bs F H=Yg r/\(∀p∈r.2.2.1,p.1=p.2)/\(∀p∈r.2.2.2,p.1=p.2)/\∀d t,Kn d t r.2.1->J d (G r.1 cs) t)->J own (G F cs) v|0,g,k,z,own,v,F,H,K,I,m,E=>by obtain⟨r,h,_,_,y⟩:=E (List.replicate k 0) (by simp);cases h;exact y own v m|n+1,g,k,z,own,v,F,H,K,I,m,E=>by cases a:lH P F with|some f=>obtain⟨h,u,l⟩:=iD K I a;(have R:(hint O F f).1=f:=by obtain⟨r,e,_,B,_⟩:=E (List.replicate k 0) (by simp);simp only[iW,a]at e;obtain⟨s,_,rfl⟩:=VB.1 e;exact w7 a λp a=>B p (VJ.2 (.inl a)));refine C.ctl own v F f (λw=>h main cs w) (Carry.run C O n g k z own v f H u l m λbs A=>?_);obtain⟨r,e,D,B,N⟩:=E bs A;simp only[iW,a,R]at e;obtain⟨s,M,rfl⟩:=VB.1 e;exact⟨s,M,D,λp a=>B p (VJ.2 (.inr a)),N⟩|none=>cases g with|nil=>obtain⟨r,e,_,_,y⟩:=E (List.replicate k 0) (by simp);simp only[iW,a,VM]at e;subst e;exact y own v m|cons j g=>cases j with|zero=>(cases k with|zero=>obtain⟨r,e,_⟩:=E [] rfl;simp[iW,a]at e|succ k=>(obtain⟨o,f,h,u,l⟩:=Iz (P:=P) K I λc=>by obtain⟨r,e,_⟩:=E (c::List.replicate k 0) (by simp);simp only[iW,a]at e;cases S:Qp P c F with|none=>rw[S]at e;cases e|some r=>exact⟨r,rfl⟩);refine C.new (z (by simp)) own v H o F f m (λw=>u main cs w) λd c t i=>Carry.run C O n g k (λ_=>z (by simp)) d t (f c) _ (l c).1 (l c).2 i λbs A=>?_;obtain⟨r,e,T⟩:=E (c::bs) (by simp[A]);simp only[iW,a,h c]at e;exact⟨r,e,T⟩)|succ j=>cases L:TB P rd j F H with|none=>obtain⟨r,e,_⟩:=E (List.replicate k 0) (by simp);simp[iW,a,L]at e|some x=>obtain⟨f,W,q⟩:=x;obtain⟨b,o,V,h,rfl,u,l,y,Q⟩:=Og K I L (by obtain⟨r,e,D,_⟩:=E (List.replicate k 0) (by simp);simp only[iW,a,L]at e;obtain⟨s,_,rfl⟩:=VB.1 e;exactλp a=>D p (VJ.2 (.inl a)));refine C.mem own v H j b o V F f m h u (λw U=>l main cs w U) λt i=>Carry.run C O n g k z own t f _ y Q i λbs A=>?_;obtain⟨r,e,D,B,N⟩:=E bs A;simp only[iW,a,L]at e;obtain⟨s,M,rfl⟩:=VB.1 e;exact⟨s,M,λp a=>D p (VJ.2 (.inr a)),B,N⟩
end Go.Pw
namespace Go.ab
section
variable{a a' b':YT}{v w:Yn}{v' x x' y y' z:Yl}{i b k n:Nat}{e:RuntimeError}{o o':YQ}{P:YC}{α β γ δ ε ζ:Type}{h:Halt}{t:Yz}{op:BinOp}{o1:YI}{lo lo' hi hi' mx':Option Yl}{f:YD}{gl:Nat->Bool}{ev ev':YI->Yl}{ops:Array Y3}{rest:List Nat}{t':Array Yl}
section
abbrev bK:=Nat->Option Nat
def bK.le(r r':bK):Prop:=∀b c,r b=Yg c->r' b=Yg c
theorem bK.le_refl(r:bK):r.le r:=λ_ _ h=>h
theorem bK.le_trans{r r' r'':bK}(h:r.le r')(a:r'.le r''):r.le r'':=λb c e=>a b c (h b c e)
structure eh where
 fns:YD->Bool
 seen:Nat->Prop
 NQ:Nat->Nat
 aI:Nat
 low:Nat->Nat:=λ_=>0
def w9:Yz:=1000000007
structure Fits(P:YC)(c:eh):Prop where
 aI:c.aI=P.globals.size
 bad:P.info? w9=Yq
 low:∀g,g<c.aI->c.low g=0
def dh(c:eh)(r:bK)(a a':YT):Prop:=r a.block=Yg a'.block/\a'.off=a.off/\a'.spot=a.spot/\c.low a.block<=a.off
def Ip(c:eh):Fn->Bool
 |.func f=>c.fns f
 |_=>Yd
inductive ai(c:eh)(r:bK):Yl->Yl->Prop
 |bool(b:Bool):ai c r (.bool b) (.bool b)
 |int(k:Yx)(n:Int):ai c r (.int k n) (.int k n)
 |string(s:ByteArray):ai c r (.string s) (.string s)
 |fT:ai c r (.pointer Yq) (.pointer Yq)
 |ptr{a a':YT}:dh c r a a'->ai c r (.pointer (Yg a)) (.pointer (Yg a'))
 |gX(n m:Nat):ai c r (.slice Yq n m) (.slice Yq n m)
 |slice{a a':YT}(n m:Nat):dh c r a a'->ai c r (.slice (Yg a) n m) (.slice (Yg a') n m)
 |cU(a a':YT):ai c r (.slice (Yg a) 0 0) (.slice (Yg a') 0 0)
 |j9:ai c r (.map Yq) (.map Yq)
 |map{a a':Nat}:r a=Yg a'->ai c r (.map (Yg a)) (.map (Yg a'))
 |func{fn:Fn}{x x' y y':Array Yl}:Ip c fn=Yk->x.size=x'.size->(∀(i:Nat)(v v':Yl),x[i]?=Yg v->x'[i]?=Yg v'->ai c r v v')->
  y.size=y'.size->(∀(i:Nat)(v v':Yl),y[i]?=Yg v->y'[i]?=Yg v'->ai c r v v')->ai c r (.func fn x y) (.func fn x' y')
 |nilFunc:ai c r .nilFunc .nilFunc
 |nilIface:ai c r .nilIface .nilIface
 |iface(t:Yz){v v':Yl}:ai c r v v'->ai c r (.iface t v) (.iface t v')
 |agg{x x':Array Yl}:x.size=x'.size->(∀(i:Nat)(v v':Yl),x[i]?=Yg v->x'[i]?=Yg v'->ai c r v v')->ai c r (.agg x) (.agg x')
 |tuple{x x':Array Yl}:x.size=x'.size->(∀(i:Nat)(v v':Yl),x[i]?=Yg v->x'[i]?=Yg v'->ai c r v v')->ai c r (.tuple x) (.tuple x')
structure ak(c:eh)(r:bK)(x x':Array Yl):Prop where
 size:x.size=x'.size
 el:∀(i:Nat)(v v':Yl),x[i]?=Yg v->x'[i]?=Yg v'->ai c r v v'
theorem dh.mono{c:eh}{r r':bK}(h:r.le r')(x:dh c r a a'):dh c r' a a':=⟨h _ _ x.1,x.2⟩
theorem ai.mono{c:eh}{r r':bK}(h:r.le r'){v:Yl}(x:ai c r v v'):ai c r' v v':=by induction x with|bool b=>exact .bool b|int k n=>exact .int k n|string s=>exact .string s|fT=>exact .fT|ptr a=>exact .ptr (a.mono h)|gX n m=>exact .gX n m|slice n m a=>exact .slice n m (a.mono h)|cU a e=>exact .cU a e|j9=>exact .j9|map a=>exact .map (h _ _ a)|func i j _ l _ f g=>exact .func i j f l g|nilFunc=>exact .nilFunc|nilIface=>exact .nilIface|iface t _ d=>exact .iface t d|agg s _ d=>exact .agg s d|tuple s _ d=>exact .tuple s d
theorem ak.mono{c:eh}{r r':bK}(h:r.le r'){x x':Array Yl}(k:ak c r x x'):ak c r' x x':=⟨k.size,λi v d a b=>(k.el i v d a b).mono h⟩
theorem ai.uD{c:eh}{r:bK}{x x':Array Yl}(h:ak c r x x'):ai c r (.agg x) (.agg x'):=.agg h.size h.el
theorem ai.km{c:eh}{r:bK}{x x':Array Yl}(h:ak c r x x'):ai c r (.tuple x) (.tuple x'):=.tuple h.size h.el
section rows
variable{c:eh}{r:bK}
theorem ak.get{x x':Array Yl}(h:ak c r x x'){v:Yl}(b:x[i]?=Yg v):∃d,x'[i]?=Yg d/\ai c r v d:=by have e:=(Vw.1 b).1;have a:=h.size▸e;exact⟨x'[i],VD a,h.el i v _ b (VD a)⟩
theorem ak.none{x x':Array Yl}(h:ak c r x x')(a:x[i]?=Option.none):x'[i]?=Option.none:=by rw[Array.getElem?_eq_none_iff]at a⊢;rw[<-h.size];exact a
theorem ak.getD{x x':Array Yl}(h:ak c r x x')(i:Nat){d d':Yl}(b:ai c r d d'):ai c r (x.getD i d) (x'.getD i d'):=by rw[VQ,VQ];cases a:x[i]? with|none=>rw[h.none a];exact b|some v=>obtain⟨f,e,k⟩:=h.get a;simp_all
theorem ak.empty:ak c r #[] #[]:=⟨rfl,λi v a h=>by simp at h⟩
theorem ak.push{x x':Array Yl}(h:ak c r x x'){v:Yl}(k:ai c r v v'):ak c r (x.push v) (x'.push v'):=by refine⟨by simp[h.size],λi u d a b=>?_⟩;rw[VY]at a b;rw[<-h.size]at b;split at a;{simp_all};rw[if_neg ‹_›]at b;exact h.el i u d a b
theorem ak.append{x x' y y':Array Yl}(h:ak c r x x')(k:ak c r y y'):ak c r (x++y) (x'++y'):=by refine⟨by simp[h.size,k.size],λi u d a b=>?_⟩;rw[Array.getElem?_append]at a b;rw[<-h.size]at b;split at a;{rw[if_pos ‹_›]at b;exact h.el i u d a b};rw[if_neg ‹_›]at b;exact k.el _ u d a b
theorem ak.set{x x':Array Yl}(h:ak c r x x')(i:Nat){v:Yl}(k:ai c r v v'):ak c r (x.setIfInBounds i v) (x'.setIfInBounds i v'):=by refine⟨by simp[h.size],λj u d a b=>?_⟩;rw[WI]at a b;split at a;{simp_all};rw[if_neg ‹_›]at b;exact h.el j u d a b
theorem ak.extract{x x':Array Yl}(h:ak c r x x')(i j:Nat):ak c r (x.extract i j) (x'.extract i j):=by refine⟨by simp[h.size],λk u d a b=>?_⟩;rw[Array.getElem?_extract]at a b;rw[<-h.size]at b;split at a;{rw[if_pos ‹_›]at b;exact h.el _ u d a b};cases a
theorem ak.single{v:Yl}(k:ai c r v v'):ak c r #[v] #[v']:=by refine⟨rfl,λi u d a b=>?_⟩;grind
theorem ak.cells{v:Yl}(k:ai c r v v'):ak c r v.cells v'.cells:=by cases k with|agg s e=>exact⟨s,e⟩|bool b=>exact .single (.bool b)|int k n=>exact .single (.int k n)|string s=>exact .single (.string s)|fT=>exact .single .fT|ptr a=>exact .single (.ptr a)|gX n m=>exact .single (.gX n m)|cU a g=>exact .single (.cU a g)|slice n m a=>exact .single (.slice n m a)|j9=>exact .single .j9|map a=>exact .single (.map a)|func a b d e f=>exact .single (.func a b d e f)|nilFunc=>exact .single .nilFunc|nilIface=>exact .single .nilIface|iface t a=>exact .single (.iface t a)|tuple a b=>exact .single (.tuple a b)
theorem ak.map{α:Type}(l:Array α)(f f':α->Yl)(h:∀x∈l,ai c r (f x) (f' x)):ak c r (l.map f) (l.map f'):=by refine⟨by simp,λi u d a b=>?_⟩;grind
theorem gq:ai c r YE YE:=.tuple rfl λi v a h=>by simp at h
theorem ak.replicate(n:Nat){v:Yl}(k:ai c r v v'):ak c r (Array.replicate n v) (Array.replicate n v'):=by refine⟨by simp,λi u d a b=>?_⟩;grind
end rows
structure Ji(c:eh)(r:bK)(e e':Y2):Prop where
 key:ai c r e.key e'.key
 val:ai c r e.val e'.val
 born:e'.born=e.born
inductive mj(c:eh)(r:bK):YQ->YQ->Prop
 |cells{x x':Array Yl}(t:Yz)(fr:Nat×Nat):ak c r x x'->mj c r (.cells x t fr) (.cells x' t fr)
 |map{x x':Array Y2}(k:Nat):x.size=x'.size->(∀(i:Nat)(e e':Y2),x[i]?=Yg e->x'[i]?=Yg e'->Ji c r e e')->mj c r (.map x k) (.map x' k)
 |iter(s:ByteArray)(p:Nat):mj c r (.stringIter s p) (.stringIter s p)
 |number{a a':YT}(l:Bool):dh c r a a'->mj c r (.number a l) (.number a' l)
inductive sK(c:eh)(r:bK)(b:Nat):Option YQ->Option YQ->Prop
 |seen{x x':Array Yl}(t t':Yz)(fr:Nat×Nat):c.seen b->x.size<=c.NQ b->x.size<=x'.size->(c.low b=0->t=t')/\(c.low b≠0->t=w9/\c.aI<=b)->(∀(i:Nat)(v v':Yl),c.low b<=i->x[i]?=Yg v->x'[i]?=Yg v'->ai c r v v')->sK c r b (Yg (.cells x t (0,x.size))) (Yg (.cells x' t' fr))
 |own{o o':YQ}:¬c.seen b->mj c r o o'->sK c r b (Yg o) (Yg o')
theorem Ji.mono{c:eh}{r r':bK}(h:r.le r'){e e':Y2}(k:Ji c r e e'):Ji c r' e e':=⟨k.key.mono h,k.val.mono h,k.born⟩
theorem mj.mono{c:eh}{r r':bK}(h:r.le r')(k:mj c r o o'):mj c r' o o':=by cases k with|cells t g k=>exact .cells t g (k.mono h)|map k s e=>exact .map k s λi d f a b=>(e i d f a b).mono h|iter s p=>exact .iter s p|number l a=>exact .number l (a.mono h)
theorem sK.mono{c:eh}{r r':bK}(h:r.le r'){o o':Option YQ}(k:sK c r b o o'):sK c r' b o o':=by cases k with|seen t g f s l z y e=>exact .seen t g f s l z y λi v j a b d=>(e i v j a b d).mono h|own n k=>exact .own n (k.mono h)
structure eb(c:eh)(r:bK)(w v:Yn):Prop where
 qy:∀b k:Nat,r b=Yg k->b<w.heap.size
 BR:∀b k:Nat,r b=Yg k->k<v.heap.size
 inj:∀b b' k:Nat,r b=Yg k->r b'=Yg k->b=b'\/(c.seen b/\c.seen b')
 rQ:∀b:Nat,¬c.seen b->c.low b=0
 hid:∀b:Nat,b<c.aI->r b=Yq->w.heap[b]?=Yg (.cells #[] 0)
 blk:∀b k:Nat,r b=Yg k->sK c r b w.heap[b]? v.heap[k]?
 tape:v.tape=w.tape
 drawn:v.drawn=w.drawn
 old:∀b:Nat,c.seen b->b<w.heap.size
 aI:∀b k:Nat,r b=Yg k->b<c.aI->b=k
 jO:c.aI<=w.heap.size/\c.aI<=v.heap.size
structure Ext(c:eh)(r:bK)(w v:Yn)(r':bK)(w' v':Yn):Prop where
 rel:eb c r' w' v'
 le:r.le r'
 grow:w.heap.size<=w'.heap.size
 size:v'.heap.size+w.heap.size=v.heap.size+w'.heap.size
 zy:∀b:Nat,b<w.heap.size->r' b=r b
 new:∀b:Nat,w.heap.size<=b->b<w'.heap.size->r' b=Yg (v.heap.size+(b-w.heap.size))
 keep:∀k:Nat,k<v.heap.size->(∀b:Nat,r b=Yg k->c.seen b)->v'.heap[k]?=v.heap[k]?
 os:v'.os=v.os
 out:v'.output=v.output
 tape:v'.tape=v.tape
theorem Ext.refl{c:eh}{r:bK}(h:eb c r w v):Ext c r w v r w v:=⟨h,bK.le_refl r,Vu _,by omega,λ_ _=>rfl,λb _ _=>by omega,λ_ _ _=>rfl,rfl,rfl,rfl⟩
theorem Ext.trans{c:eh}{r r1 r2:bK}{w1 v1 w2 v2:Yn}(h:Ext c r w v r1 w1 v1)(k:Ext c r1 w1 v1 r2 w2 v2):Ext c r w v r2 w2 v2:=by have n:=h.size;have o:=k.size;have g:=h.grow;have m:=k.grow;refine⟨k.rel,bK.le_trans h.le k.le,VG g m,by omega,λb a=>(k.zy b (Vv a g)).trans (h.zy b a),λb a f=>?_,λj l i=>?_,k.os.trans h.os,k.out.trans h.out,k.tape.trans h.tape⟩;{rcases V2 b w1.heap.size with e|d;{exact k.le _ _ (h.new b a e)};rw[k.new b d f];grind};rw[k.keep j Ω (λb a=>?_),h.keep j l i];refine i b ?_;rcases V2 b w.heap.size with e|d;{rw[<-h.zy b e];exact a};have:=h.rel.qy b j a;rw[h.new b d this]at a;grind
def tR(c:eh)(r:bK)(e:YV):Prop:=
 (∃b:Nat,(match e.loc with|.cell a=>r b=Yg a.block/\(c.seen b->a.off<c.NQ b/\a.spot=Yq)|.obj k=>r b=Yg k/\¬c.seen b|_=>False)/\(e.write=Yk->¬c.seen b)/\e.sync=Yd)\/e.loc=.mark .noRoom\/∃f,e.loc=.mark (.extern f)
theorem tR.mono{c:eh}{r r':bK}(h:r.le r'){e:YV}(x:tR c r e):tR c r' e:=by rcases x with⟨b,a,d⟩|x;{refine .inl ⟨b,?_,d⟩;revert a;cases e.loc<;>simp only[imp_self]<;>exactλx=>⟨h _ _ x.1,x.2⟩};exact .inr x
end
section
variable{c:eh}{r:bK}
def A1:Halt->Bool
 |.unsupported (.initOrder _)=>Yd
 |.panic _|.stuck _|.unsupported _=>Yk
 |_=>Yd
def Out(P:YC)(c:eh)(r:bK)(w v:Yn)(s:YN β)(Q:bK->α->β->Prop):YW α->Prop
 |.ok a w'=>∃b v' r',s.run P v=.ok b v'/\Ext c r w v r' w' v'/\Q r' a b/\∀e∈s.events P v #[],tR c r' e
 |.halt h _=>A1 h=Yk
def ab(P:YC)(c:eh)(r:bK)(x:YN α)(y:YN β)(Q:bK->α->β->Prop):Prop:=∀w v,eb c r w v->Out P c r w v y Q (x.run P w)
theorem ab.mono{x:YN α}{y:YN β}{Q Q':bK->α->β->Prop}(h:ab P c r x y Q)(k:∀d a b,r.le d->Q d a b->Q' d a b):ab P c r x y Q':=by intro w v l;have:=h w v l;cases f:x.run P w with|halt _ _=>rw[f]at this;exact this|ok a n=>rw[f]at this;obtain⟨b,m,d,g,e,i,j⟩:=this;exact⟨b,m,d,g,e,k _ _ _ e.le i,j⟩
theorem ab.bind{x:YN α}{y:YN β}{f:α->YN γ}{g:β->YN δ}{Q:bK->α->β->Prop}{Q':bK->γ->δ->Prop}(h:ab P c r x y Q)(k:∀l a b,r.le l->Q l a b->ab P c l (f a) (g b) Q'):ab P c r (x>>=f) (y>>=g) Q':=by intro w v t;have i:=h w v t;rw[YN.run_bind];cases p:x.run P w with|halt _ _=>rw[p]at i;exact i|ok a m=>rw[p]at i;obtain⟨b,F,D,s,n,B,A⟩:=i;have j:=k D a b n.le B m F n.rel;show Out P c r w v (y>>=g) Q' ((f a).run P m);cases o:(f a).run P m with|halt _ _=>rw[o]at j;exact j|ok z J=>rw[o]at j;obtain⟨u,G,E,H,q,C,I⟩:=j;refine⟨u,G,E,?_,n.trans q,C,λe d=>?_⟩;{simp_all};rw[YN.events_bind,s,YW.evThen_ok,YN.events_acc]at d;rcases V5.1 d with d|d;{exact(A e d).mono q.le};simp_all
theorem ab.pure{a:α}{b:β}{Q:bK->α->β->Prop}(h:Q r a b):ab P c r (Pure.pure a) (Pure.pure b) Q:=λ_ v f=>⟨b,v,r,rfl,.refl f,h,λe d=>by simp at d⟩
theorem ab.halt{y:YN β}{Q:bK->α->β->Prop}(a:A1 h=Yk:=by rfl):ab P c r (YN.halt h) y Q:=λ_ _ _=>a
theorem ab.stuck{s:String}{y:YN β}{Q:bK->α->β->Prop}:ab P c r (Go.stuck s:YN α) y Q:=λ_ _ _=>rfl
theorem ab.unsupported{u:Unsupported}{y:YN β}{Q:bK->α->β->Prop}(a:A1 (.unsupported u)=Yk:=by rfl):ab P c r (Go.unsupported u:YN α) y Q:=λ_ _ _=>a
theorem ab.never{x:YN α}{y:YN β}{Q:bK->α->β->Prop}(h:∀w,∃k w',x.run P w=.halt k w'/\A1 k=Yk):ab P c r x y Q:=by intro w v _;obtain⟨k,w',e,a⟩:=h w;rw[e];exact a
theorem ab.ite{b:Prop}[Decidable b]{x x':YN α}{y y':YN β}{Q:bK->α->β->Prop}(h:b->ab P c r x y Q)(a:¬b->ab P c r x' y' Q):ab P c r (if b then x else x') (if b then y else y') Q:=by by_cases e:b;{rw[if_pos e,if_pos e];exact h e};rw[if_neg e,if_neg e];exact a e
def bT(P:YC)(q:α->Prop):YN α->Prop
 |.pure a=>q a
 |.choose _ k=>∀n,bT P q (k n)
 |.program k=>bT P q (k P)
 |.mark m k=>m=.noRoom/\bT P q k
 |.halt h=>A1 h=Yk
 |_=>False
abbrev lh(P:YC):YN α->Prop:=bT P λ_=>True
theorem bT.bind{q:α->Prop}{q':β->Prop}{x:YN α}{f:α->YN β}(h:bT P q x)(k:∀a,q a->bT P q' (f a)):bT P q' (x>>=f):=by induction x with|pure a=>exact k a h|choose _ g b=>exactλn=>b n (h n)|program g b=>exact b P h|mark m g b=>exact⟨h.1,b h.2⟩|halt z=>exact h|load _ _ _ _=>exact h.elim|store _ _ _ _ _=>exact h.elim|new _ _ _=>exact h.elim|shape _ _ _=>exact h.elim|freeze _ _ _ _=>exact h.elim|frozen _ _ _=>exact h.elim|getObj _ _ _=>exact h.elim|setObj _ _ _ _=>exact h.elim|sys _ _ _=>exact h.elim
theorem lh.bind{q':β->Prop}{x:YN α}{f:α->YN β}(h:lh P x)(k:∀a,bT P q' (f a)):bT P q' (x>>=f):=bT.bind h λa _=>k a
def S0(P:YC)(q:α->Prop)(x:YN α)(w v:Yn):Prop:=
 (∃a d,q a/\x.run P w=.ok a {w with drawn:=d}/\x.run P v=.ok a {v with drawn:=d}/\∀e∈x.events P v #[],e.loc=.mark .noRoom)\/∃h w',x.run P w=.halt h w'/\A1 h=Yk
theorem bT.run{q₀:α->Prop}{x:YN α}(h:bT P q₀ x):∀(w v:Yn),v.tape=w.tape->v.drawn=w.drawn->S0 P q₀ x w v:=by induction x with|pure a=>exactλw v _ f=>.inl ⟨a,w.drawn,h,rfl,by rw[<-f];rfl,λe l=>by simp at l⟩|choose q g j=>intro w v i f;have t:∀u:Yn,(YN.choose q g).run P u=if q.forced then(g 0).run P u else(g (q.cut (u.tape u.drawn q))).run P {u with drawn:=u.drawn+1}:=λ_=>rfl;(have y:∀u:Yn,(YN.choose q g).events P u #[]=if q.forced then(g 0).events P u #[]else(g (q.cut (u.tape u.drawn q))).events P {u with drawn:=u.drawn+1} #[]:=λu=>by simp only[YN.events,YN.runT];grind);unfold S0;simp only[t,y];by_cases s:q.forced=Yk;{simp only[s];exact j 0 (h 0) w v i f};obtain⟨B,F,E,C,D⟩:=v;rcases j (q.cut (w.tape w.drawn q)) (h _) {w with drawn:=w.drawn+1} ⟨B,w.tape,w.drawn+1,C,D⟩ rfl rfl with⟨a,d,n,o,p,A⟩|x;{simp_all};simp_all|program g j=>exactλw v i f=>j P h w v i f|mark m g j=>intro w v i f;rcases j h.2 w v i f with⟨a,d,n,o,p,A⟩|x;{refine .inl ⟨a,d,n,o,p,λe l=>?_⟩;have k:e∈g.events P v (#[].push ⟨.mark m,Yd,Yk⟩):=l;rw[YN.events_acc]at k;rcases V5.1 k with x|x;{simp at x;rw[x,h.1]};simp_all};exact .inr x|halt z=>exactλw _ _ _=>.inr ⟨z,w,rfl,h⟩|load _ _ _ _=>exact h.elim|store _ _ _ _ _=>exact h.elim|new _ _ _=>exact h.elim|shape _ _ _=>exact h.elim|freeze _ _ _ _=>exact h.elim|frozen _ _ _=>exact h.elim|getObj _ _ _=>exact h.elim|setObj _ _ _ _=>exact h.elim|sys _ _ _=>exact h.elim
theorem eb.Cc(h:eb c r w v)(d:Nat):eb c r {w with drawn:=d} {v with drawn:=d}:=⟨h.qy,h.BR,h.inj,h.rQ,h.hid,h.blk,h.tape,rfl,h.old,h.aI,h.jO⟩
theorem ab.eP{q:α->Prop}{x:YN α}(h:bT P q x):ab P c r x x λ_ a b=>b=a/\q a:=by intro w v f;rcases h.run w v f.tape f.drawn with⟨a,d,g,i,j,l⟩|⟨k,s,e,p⟩;{rw[i];refine⟨a,_,r,j,?_,⟨rfl,g⟩,λe o=>.inr (.inl (l e o))⟩;exact⟨f.Cc d,bK.le_refl r,Vu _,rfl,λ_ _=>rfl,λb m n=>absurd n (Nat.not_lt.2 m),λ_ _ _=>rfl,rfl,rfl,rfl⟩};rw[e];exact p
theorem ab.cF{x:YN α}(h:lh P x):ab P c r x x λ_ a b=>b=a:=(ab.eP h).mono λ_ _ _ _ h=>h.1
theorem vn(a:α):lh P (Pure.pure a):=trivial
theorem kW:lh P program:=trivial
theorem iu(q:Y6):lh P (choose q):=λ_=>trivial
theorem dm(t:Yz):lh P (typeInfo t):=by refine lh.bind kW λp=>?_;split<;>first|trivial|exact rfl
theorem aC(t:Yz):lh P (underlying t):=by refine lh.bind kW λp=>?_;split<;>first|trivial|exact rfl
theorem bh(t:Yz):lh P (sizeOf t):=(dm t).bind λ_=>trivial
theorem ov(t:Yz):lh P (isAgg t):=(aC t).bind λd=>by split<;>first|trivial|exact rfl
theorem pO(n:Nat):lh P (askRoom n):=by unfold askRoom;split;{exact⟨rfl,trivial⟩};trivial
end
section
variable{c:eh}{r:bK}
theorem eb.at(h:eb c r w v)(b:dh c r a a'):sK c r a.block w.heap[a.block]? v.heap[a'.block]?:=h.blk _ _ b.1
theorem eb.cell(h:eb c r w v)(g:dh c r a a')(b:w.cell? a=Yg x):∃y,v.cell? a'=Yg y/\ai c r x y:=by have d:=h.at g;obtain⟨_,m,o,i⟩:=g;unfold Yn.cell? at b⊢;generalize q:w.heap[a.block]?=C at d b;generalize p:v.heap[a'.block]?=B at d;cases d with|@seen z D t A j s l u _ e=>grind|own n k=>cases k with|cells t j k=>simp only[o,m]at b⊢;split at b;{cases b};rename_i f;rw[if_neg f];exact k.get b|map _ _ _=>cases b|iter _ _=>cases b|number _ _=>cases b
theorem eb.Va(h:eb c r w v)(g:dh c r a a')(_:w.cell? a=Yq)(d:Bool):∃k,w.farLoad P a d=.error k/\A1 k=Yk:=by have f:=h.at g;unfold Yn.farLoad;generalize b:w.heap[a.block]?=p at f;generalize i:v.heap[a'.block]?=o at f;cases f with|seen t m j s l _ _ e=>exact⟨_,rfl,by simp only[Yn.noCell,b];rfl⟩|own n k=>cases k<;>exact⟨_,rfl,by simp only[Yn.noCell,b];rfl⟩
theorem eb.within(h:eb c r w v)(f:dh c r a a')(b:w.cell? a=Yg x):c.seen a.block->a'.off<c.NQ a.block/\a'.spot=Yq:=by intro u;have d:=h.at f;obtain⟨_,q,i,-⟩:=f;unfold Yn.cell? at b;generalize m:w.heap[a.block]?=A at d b;generalize j:v.heap[a'.block]?=z at d;cases d with|seen t y o s l _ _ e=>simp only at b;split at b;{cases b};have p:=(Vw.1 b).1;exact⟨by omega,by simp_all⟩|own n k=>simp_all
theorem ab.load(d:dh c r a a'):ab P c r (load a) (load a') (ai c):=by intro w v f;unfold Go.load;cases b:w.cell? a with|none=>obtain⟨k,e,j⟩:=f.Va (P:=P) d b (Mode.plain==Mode.atomic);(have:(YN.load .plain a YN.pure).run P w=.halt k w:=by simp only[YN.run,b,e]);rw[this];exact j|some x=>obtain⟨y,i,k⟩:=f.cell d b;(have:(YN.load .plain a YN.pure).run P w=.ok x w:=by simp only[YN.run,b]);rw[this];refine⟨y,v,r,by simp only[YN.run,i],.refl f,k,λe g=>?_⟩;(have h:(YN.load .plain a' YN.pure).events P v #[]=#[⟨.cell a',Yd,Yd⟩]:=by simp only[YN.events,YN.runT,i];rfl);rw[h]at g;simp at g;subst g;exact .inl ⟨a.block,⟨d.1,f.within d b⟩,by simp,rfl⟩
theorem eb.xv(h:eb c r w v)(j:dh c r a a')(b:w.cell? a=Yg x)(g:w.frozen? a=Yd):∃(z i:Array Yl)(t:Yz)(d:Nat×Nat),¬c.seen a.block/\w.heap[a.block]?=Yg (.cells z t d)/\v.heap[a'.block]?=Yg (.cells i t d)/\ak c r z i/\a.spot.isSome=Yd:=by have f:=h.at j;unfold Yn.cell? at b;unfold Yn.frozen? at g;generalize o:w.heap[a.block]?=u at f b g;generalize m:v.heap[a'.block]?=q at f;cases f with|seen t p d s l _ _ e=>simp_all|own n k=>cases k with|cells t d k=>grind|map _ _ _=>cases b|iter _ _=>cases b|number _ _=>cases b
theorem heap_setCell(w:Yn)(a:YT)(x:Yl):(w.setCell a x).heap.size=w.heap.size:=by simp[Yn.setCell]
theorem lS(w:Yn)(a:YT)(x:Yl)(h:b≠a.block):(w.setCell a x).heap[b]?=w.heap[b]?:=by simp[Yn.setCell,Ws,Ne.symm h]
theorem lO(w:Yn)(x:Yl){z:Array Yl}{fr:Nat×Nat}(h:w.heap[a.block]?=Yg (.cells z t fr))(b:a.spot.isSome=Yd):(w.setCell a x).heap[a.block]?=Yg (.cells (z.setIfInBounds a.off x) t fr):=by simp[Yn.setCell,Ws,h,b]
theorem Ext.Sb{w' v':Yn}(h:eb c r w v)(p:r b=Yg k)(q:¬c.seen b)(D:w'.heap[b]?=Yg o)(C:v'.heap[k]?=Yg o')(A:mj c r o o')(f:w'.heap.size=w.heap.size)(i:v'.heap.size=v.heap.size)(m:∀j,j≠b->w'.heap[j]?=w.heap[j]?)(s:∀j,j≠k->v'.heap[j]?=v.heap[j]?)(n:v'.tape=v.tape)(t:w'.tape=w.tape)(u:v'.drawn=w'.drawn)(y:v'.os=v.os)(z:v'.output=v.output):Ext c r w v r w' v':=by refine⟨⟨λj l a=>f▸h.qy j l a,λj l a=>i▸h.BR j l a,h.inj,h.rQ,λj a B=>by rw[m j (λe=>by simp_all)];exact h.hid j a B,λj l a=>?_,by rw[n,t,h.tape],u,λj a=>by rw[f];exact h.old j a,h.aI,by rw[f,i];exact h.jO⟩,bK.le_refl r,by omega,by omega,λ_ _=>rfl,λj _ _=>by omega,λl F E=>?_,y,z,n⟩;{by_cases d:j=b;{subst d;rw[p]at a;cases a;rw[D,C];exact .own q A};have g:l≠k:=λe=>d ((h.inj _ _ _ (e▸a) p).resolve_right λx=>q x.2);rw[m j d,s l g];exact h.blk j l a};grind
theorem ai.one(h:ai c r x y):y.oneCell'=x.oneCell':=by cases h<;>rfl
theorem ab.store(b:dh c r a a')(q:ai c r x y):ab P c r (store a x) (store a' y) λ_ _ _=>True:=by intro w v f;unfold Go.store;by_cases B:x.oneCell'=Yk;{(have C:y.oneCell'=Yk:=by rw[q.one,B]);(have e:∀(u:Yn)(p:YT)(z:Yl),z.oneCell'=Yk->(YN.store .plain p z (.pure ())).run P u=match u.cell? p with|some _=>if u.frozen? p then .halt (.unsupported (.unsafePointer "a write to bytes that a string shares")) u else .ok () (u.setCell p z)|none=>match u.farStore P p z Yd with|.ok (U,_)=>.ok () U|.error h=>.halt h u:=by intro u p z H;cases z<;>first|(simp[Yl.oneCell']at H;done)|(rfl));rw[e w a x B];cases L:w.cell? a with|none=>have D:=f.at b;(have:∃k,w.farStore P a x Yd=.error k/\A1 k=Yk:=by unfold Yn.farStore;generalize o:w.heap[a.block]?=Y at D;generalize S:v.heap[a'.block]?=X at D;cases D with|seen t W K s l _ _ e=>exact⟨_,rfl,by simp only[Yn.noCell,o];rfl⟩|own n k=>cases k<;>exact⟨_,rfl,by simp only[Yn.noCell,o];rfl⟩);obtain⟨k,N,Q⟩:=this;simp only[N];exact Q|some Z=>simp only;cases A:w.frozen? a with|true=>rfl|false=>obtain⟨z,z',t,K,d,I,J,H,i⟩:=f.xv b L A;obtain⟨y0,T,_⟩:=f.cell b L;(have m:a'.spot.isSome=Yd:=by rw[b.2.2.1];exact i);(have O:v.frozen? a'=Yd:=by unfold Yn.frozen? at A⊢;rw[I]at A;rw[J];simp only[b.2.1];exact A);have g:=H.set a.off q;refine⟨(),v.setCell a' y,r,?_,?_,trivial,λV E=>?_⟩;{simp_all};{refine Ext.Sb f b.1 d (lO w x I i) (lO v y J m) ?_ (heap_setCell _ _ _) (heap_setCell _ _ _) (λj G=>lS w a x G) (λj G=>lS v a' y G) rfl rfl f.drawn rfl rfl;rw[b.2.1];exact .cells t K g};(have F:(YN.store .plain a' y (.pure ())).events P v #[]=#[⟨.cell a',Yk,Yd⟩]:=by have:=events_store P v #[] a' y .plain C;unfold Go.store at this;simp_all);rw[F]at E;simp at E;subst E;exact .inl ⟨a.block,⟨b.1,λR=>absurd R d⟩,λ_=>d,rfl⟩};refine ab.never (P:=P) (c:=c) (r:=r) (λu=>?_) w v f;cases x<;>first|(simp[Yl.oneCell']at B;done)|exact⟨_,_,rfl,rfl⟩
def bK.add(r:bK)(b k:Nat):bK:=λj=>if j=b then Yg k else r j
theorem Ext.alloc(h:eb c r w v)(n:mj c r o o'):Ext c r w v (r.add w.heap.size v.heap.size) {w with heap:=w.heap.push o} {v with heap:=v.heap.push o'}:=by have p:=λx=>VN _ (h.old _ x);(have f:r.le (r.add w.heap.size v.heap.size):=by intro b k a;have:=h.qy b k a;unfold bK.add;grind);refine⟨⟨λb k a=>?_,λb k a=>?_,λb q k a d=>?_,h.rQ,λb i a=>?_,λb k a=>?_,h.tape,h.drawn,λb a=>by have:=h.old b a;simp;omega,λb k a i=>?_,by have:=h.jO;simp;omega⟩,f,by simp,by simp;omega,λb a=>by unfold bK.add;grind,λb a d=>?_,λk s _=>?_,rfl,rfl,rfl⟩;{unfold bK.add at a;simp;split at a;{omega};have:=h.qy b k a;omega};{unfold bK.add at a;simp;split at a;{simp_all};have:=h.BR b k a;omega};{unfold bK.add at a d;split at a<;>split at d;{omega};{cases a;have:=h.BR _ _ d;omega};{cases d;have:=h.BR _ _ a;omega};exact h.inj _ _ _ a d};{have m:=Vv i h.jO.1;unfold bK.add at a;rw[if_neg Ω]at a;rw[VY,if_neg Ω];exact h.hid b i a};{unfold bK.add at a;split at a;{rename_i e;subst e;cases a;simp only[Array.getElem?_push_size];exact .own p (n.mono f)};have j:=h.qy b k a;have l:=h.BR b k a;rw[Y1 j,Y1 l,<-VD j,<-VD l];exact(h.blk b k a).mono f};{unfold bK.add at a;have:=h.jO;split at a;{omega};exact h.aI b k a i};{unfold bK.add;grind};grind
theorem bK.Ic(r:bK)(b k:Nat):r.add b k b=Yg k:=by unfold bK.add;simp
theorem ab.newObj(f:mj c r o o'):ab P c r (newObj o) (newObj o') λg b d=>g b=Yg d/\c.low b=0:=by intro w v a;refine⟨v.heap.size,_,_,rfl,Ext.alloc a f,⟨bK.Ic _ _ _,a.rQ _ λx=>VN _ (a.old _ x)⟩,λe h=>?_⟩;simp_all
theorem ab.newRow{x x':Array Yl}(h:ak c r x x'):ab P c r (newRow t x) (newRow t x') (dh c):=by refine ab.bind (ab.newObj (.cells t (0,0) h)) λe b d _ a=>ab.pure ⟨a.1,rfl,rfl,Wj a.2⟩
theorem ab.newVar(h:ai c r x x'):ab P c r (newVar t x) (newVar t x') (dh c):=ab.newRow (ak.cells h)
theorem dh.add{a a':YT}(h:dh c r a a')(n:Nat):dh c r (a.add n) (a'.add n):=by unfold YT.add;split;{exact h};exact⟨h.1,by simp[h.2.1],rfl,VG h.2.2.2 (Wx _ _)⟩
theorem ab.loadCellsFrom(n:Nat):∀{r:bK}{a a':YT}(i:Nat){acc acc':Array Yl},dh c r a a'->ak c r acc acc'->ab P c r (loadCellsFrom a i n acc) (loadCellsFrom a' i n acc') (ak c):=by induction n with|zero=>intro r a a' i acc acc' e b;exact ab.pure b|succ n g=>intro r a a' i acc acc' e b;exact ab.bind (ab.load (e.add i)) λh x j d f=>g (i+1) (e.mono d) ((b.mono d).push f)
theorem ab.loadCells(b:dh c r a a')(n:Nat):ab P c r (loadCells a n) (loadCells a' n) (ak c):=ab.loadCellsFrom n 0 b .empty
theorem ab.Jz(i:Fits P c){g:Nat}(b:g<c.aI)(o:Nat):ab P c r (Go.load ⟨g,o,Yq⟩) (Go.load ⟨g,o,Yq⟩) (ai c):=by intro w v f;cases d:r g with|some k=>obtain rfl:=f.aI g k d b;exact ab.load ⟨d,rfl,rfl,VG (Wj (i.low g b)) (VR _)⟩ w v f|none=>have h:=f.hid g b d;(have e:(Go.load ⟨g,o,Yq⟩).run P w=.halt (.stuck "load: no such cell") w:=by simp[YN.run,Yn.cell?,Yn.farLoad,Yn.noCell,h]);rw[e];exact rfl
theorem ab.tL(f:Fits P c){g:Nat}(h:g<c.aI)(n:Nat):∀{r:bK}(i:Nat){acc acc':Array Yl},ak c r acc acc'->ab P c r (Go.loadCellsFrom ⟨g,0,Yq⟩ i n acc) (Go.loadCellsFrom ⟨g,0,Yq⟩ i n acc') (ak c):=by induction n with|zero=>intro r i acc acc' a;exact ab.pure a|succ n k=>intro r i acc acc' a;(have e:(⟨g,0,Yq⟩:YT).add i=⟨g,0+i,Yq⟩:=by unfold YT.add;simp_all);unfold Go.loadCellsFrom;rw[e];exact ab.bind (ab.Jz f h _) λl x m b j=>k (i+1) ((a.mono b).push j)
theorem ab.GL(a:Fits P c){g:Nat}(d:g<c.aI)(t:Yz):ab P c r (Go.loadVar t ⟨g,0,Yq⟩) (Go.loadVar t ⟨g,0,Yq⟩) (ai c):=by refine ab.bind (ab.cF (ov t)) λp b f k h=>?_;subst h;cases f with|false=>exact ab.Jz a d 0|true=>refine ab.bind (ab.cF (bh t)) λq n o l i=>?_;subst i;exact ab.bind (ab.tL a d _ 0 .empty) λs x u m j=>ab.pure (.uD j)
theorem ab.storeCells:∀{r:bK}{a a':YT}{l l':List Yl}(i:Nat),dh c r a a'->ak c r l.toArray l'.toArray->ab P c r (storeCells a l i) (storeCells a' l' i) λ_ _ _=>True|r,a,a',[],[],i,b,h=>ab.pure trivial|r,a,a',[],_::_,i,b,h=>by have:=h.size;grind|r,a,a',_::_,[],i,b,h=>by have:=h.size;grind|r,a,a',x::l,g::l',i,b,h=>by refine ab.bind (ab.store (b.add i) (h.el 0 x g Θ Θ)) λm _ _ d _=>?_;refine ab.storeCells (i+1) (b.mono d) ((⟨?_,λj u f k e=>?_⟩:ak c r l.toArray l'.toArray).mono d);{have:=h.size;simp_all};exact h.el (j+1) u f (by simp_all) (by simp_all)
theorem ab.loadVar(t:Yz)(d:dh c r a a'):ab P c r (loadVar t a) (loadVar t a') (ai c):=by refine ab.bind (ab.cF (ov t)) λm g e b h=>?_;subst h;cases e with|false=>exact ab.load (d.mono b)|true=>refine ab.bind (ab.cF (bh t)) λo n l f i=>?_;subst i;exact ab.bind (ab.loadCells ((d.mono b).mono f) _) λp x q k j=>ab.pure (.uD j)
theorem ab.storeVar(t:Yz)(j:dh c r a a')(h:ai c r x x'):ab P c r (storeVar t a x) (storeVar t a' x') λ_ _ _=>True:=by refine ab.bind (ab.cF (bh t)) λg n d f k=>?_;subst k;have l:=(ak.cells h).size;have b:ab P c g (Go.storeCells a x.cells.toList) (Go.storeCells a' x'.cells.toList) λ_ _ _=>True:=ab.storeCells 0 (j.mono f) (by simpa using(ak.cells h).mono f);rw[<-l];by_cases e:x.cells.size≠d;{rw[if_pos e,if_pos e];exactλ_ _ _=>rfl};rw[if_neg e,if_neg e];exact b
theorem ab.getObj{b':Nat}(D:r b=Yg b'){k:YQ->YN α}{k':YQ->YN β}{Q:bK->α->β->Prop}(G:∀o o',¬c.seen b->mj c r o o'->(∀x t f,o≠.cells x t f)->ab P c r (k o) (k' o') Q):ab P c r (getObj b>>=k) (getObj b'>>=k') Q:=by intro w v E;have F:=E.blk b b' D;rw[YN.run_bind];(have C:∀(u:Yn)(j:Nat),(Go.getObj j).run P u=match u.heap[j]? with|some (.cells ..)=>.halt (.stuck "getObj: a row of cells") u|some o=>.ok o u|none=>.halt (.stuck "getObj: no such block") u:=by intro u j;unfold Go.getObj;simp only[YN.run];rfl);rw[C];generalize O:w.heap[b]?=U at F;generalize g:v.heap[b']?=T at F;cases F with|seen _ _ _ _ _ _ _ _=>exact rfl|own n N=>rename_i o o';cases N with|cells t S _=>exact rfl|map R L M=>have:=G _ _ n (.map R L M) (λ_ _ _ h=>by cases h) w v E;revert this;show Out P c r w v _ Q ((k _).run P w)->Out P c r w v _ Q ((k _).run P w);(cases(k _).run P w with|halt _ _=>exactλh=>h|ok a J=>rintro⟨q,B,A,H,i,z,I⟩;refine⟨q,B,A,by simp_all,i,z,λe d=>?_⟩;rw[YN.events_bind,C,g]at d;(have y:(Go.getObj b').events P v #[]=#[⟨.obj b',Yd,Yd⟩]:=by simp[Go.getObj,YN.events,YN.runT,g,YQ.isChan,-YN.runT_eq]);simp only[YW.evThen_ok]at d;rw[YN.events_acc,y]at d;rcases V5.1 d with d|d;{simp at d;subst d;exact .inl ⟨b,⟨i.le _ _ D,n⟩,by simp,rfl⟩};simp_all)|iter s p=>have:=G _ _ n (.iter s p) (λ_ _ _ h=>by cases h) w v E;revert this;show Out P c r w v _ Q ((k _).run P w)->Out P c r w v _ Q ((k _).run P w);(cases(k _).run P w with|halt _ _=>exactλh=>h|ok a J=>rintro⟨q,B,A,H,i,z,I⟩;refine⟨q,B,A,by simp_all,i,z,λe d=>?_⟩;rw[YN.events_bind,C,g]at d;(have y:(Go.getObj b').events P v #[]=#[⟨.obj b',Yd,Yd⟩]:=by simp[Go.getObj,YN.events,YN.runT,g,YQ.isChan,-YN.runT_eq]);simp only[YW.evThen_ok]at d;rw[YN.events_acc,y]at d;rcases V5.1 d with d|d;{simp at d;subst d;exact .inl ⟨b,⟨i.le _ _ D,n⟩,by simp,rfl⟩};simp_all)|number l K=>have:=G _ _ n (.number l K) (λ_ _ _ h=>by cases h) w v E;revert this;show Out P c r w v _ Q ((k _).run P w)->Out P c r w v _ Q ((k _).run P w);cases(k _).run P w with|halt _ _=>exactλh=>h|ok a J=>rintro⟨q,B,A,H,i,z,I⟩;refine⟨q,B,A,by simp_all,i,z,λe d=>?_⟩;rw[YN.events_bind,C,g]at d;(have y:(Go.getObj b').events P v #[]=#[⟨.obj b',Yd,Yd⟩]:=by simp[Go.getObj,YN.events,YN.runT,g,YQ.isChan,-YN.runT_eq]);simp only[YW.evThen_ok]at d;rw[YN.events_acc,y]at d;rcases V5.1 d with d|d;{simp at d;subst d;exact .inl ⟨b,⟨i.le _ _ D,n⟩,by simp,rfl⟩};simp_all
theorem ab.setObj{b':Nat}(i:r b=Yg b')(z:¬c.seen b)(A:mj c r o o')(I:o.isChan=Yd):ab P c r (setObj b o) (setObj b' o') λ_ _ _=>True:=by intro w v k;have m:=k.blk b b' i;(have C:∀(u:Yn)(j:Nat)(o:YQ),(Go.setObj j o).run P u=match u.heap[j]? with|some (.cells ..)=>.halt (.stuck "setObj: a row of cells") u|some _=>.ok () {u with heap:=u.heap.setIfInBounds j o}|none=>.halt (.stuck "setObj: no such block") u:=by intro u j o;rfl);rw[C];have n:=k.qy b b' i;have y:=k.BR b b' i;(have E:o'.isChan=Yd:=by cases A<;>rfl);generalize H:w.heap[b]?=K at m;generalize g:v.heap[b']?=J at m;(have d:∀q,v.heap[b']?=Yg q->(∀x t f,q≠.cells x t f)->q.isChan=Yd->Out P c r w v (Go.setObj b' o') (λ_ _ _=>True) (.ok () {w with heap:=w.heap.setIfInBounds b o}):=by intro q F G B;refine⟨(),{v with heap:=v.heap.setIfInBounds b' o'},r,?_,?_,trivial,λe p=>?_⟩;{simp_all};{exact Ext.Sb k i z (by simp[n]) (by simp[y]) A Θ Θ (λj s=>VV (Ne.symm s)) (λj s=>VV (Ne.symm s)) rfl rfl k.drawn rfl rfl};(have D:(Go.setObj b' o').events P v #[]=#[⟨.obj b',Yk,Yd⟩]:=by unfold Go.setObj;simp only[YN.events,YN.runT,F];simp_all);rw[D]at p;simp at p;subst p;exact .inl ⟨b,⟨i,z⟩,λ_=>z,rfl⟩);cases m with|seen _ _ _ x _ _ _ _=>rfl|own _ h=>cases h with|cells _ _ _=>exact rfl|map _ _ _=>exact d _ g (λ_ _ _ h=>by cases h) rfl|iter _ _=>exact d _ g (λ_ _ _ h=>by cases h) rfl|number _ _=>exact d _ g (λ_ _ _ h=>by cases h) rfl
end
section
variable{c:eh}{r:bK}
def Flat(v:Yl):Prop:=∀(c:eh)(r:bK),ai c r v v
theorem Flat.int(k:Yx)(n:Int):Flat (.int k n):=λ_ _=>.int k n
theorem Flat.bool(b:Bool):Flat (.bool b):=λ_ _=>.bool b
theorem Flat.string(s:ByteArray):Flat (.string s):=λ_ _=>.string s
def jh:Nat->Yl->Bool
 |0,_=>Yd
 |_+1,.bool _|_+1,.int _ _|_+1,.string _|_+1,.pointer Yq|_+1,.slice Yq _ _|_+1,.map Yq|_+1,.nilFunc|_+1,.nilIface=>Yk
 |n+1,.agg x|n+1,.tuple x=>x.all (jh n)
 |_,_=>Yd
theorem ib:∀{n:Nat}{v:Yl},jh n v=Yk->Flat v|0,_,h=>by simp[jh]at h|n+1,v,h=>by intro c r;cases v with|bool b=>exact .bool b|int k n=>exact .int k n|float _ _=>simp[jh]at h|complex _ _ _=>simp[jh]at h|string s=>exact .string s|pointer a=>(cases a with|none=>exact .fT|some _=>simp[jh]at h)|slice a n m=>(cases a with|none=>exact .gX n m|some _=>simp[jh]at h)|map a=>(cases a with|none=>exact .j9|some _=>simp[jh]at h)|chan _=>simp[jh]at h|func _ _ _=>simp[jh]at h|nilFunc=>exact .nilFunc|iface _ _=>simp[jh]at h|nilIface=>exact .nilIface|agg x=>simp only[jh,Array.all_eq_true]at h;refine .agg rfl λi v f a b=>?_;rw[a]at b;cases b;obtain⟨e,rfl⟩:=Vw.1 a;exact ib (h i e) c r|tuple x=>simp only[jh,Array.all_eq_true]at h;refine .tuple rfl λi v f a b=>?_;rw[a]at b;cases b;obtain⟨e,rfl⟩:=Vw.1 a;exact ib (h i e) c r
theorem ab.flat{x:YN Yl}(h:bT P Flat x):ab P c r x x (ai c):=(ab.eP h).mono λd a b _⟨e,h⟩=>by subst e;exact h c d
theorem bQ:bT P (λp=>p=P) program:=rfl
theorem jB(t:Yz):bT P (λi=>P.info? t=Yg i) (typeInfo t):=by refine bT.bind bQ λp a=>?_;subst a;cases h:p.info? t with|none=>exact rfl|some i=>exact rfl
theorem tv(t:Yz)(a:∀z,(P.info? t).bind (·.zero)=Yg z->Flat z):bT P Flat (zeroValue t):=by refine bT.bind (jB t) λi b=>?_;cases h:i.zero with|none=>exact rfl|some v=>exact a v (by grind)
theorem nT(a:BinOp)(k:Yx)(x y:Int):bT P Flat (Op.intArith a k x y):=by unfold Op.intArith;split<;>first|exact .int _ _|exact rfl
theorem yx(a:BinOp)(k:Yx)(x y:Int):bT P Flat (Op.intDiv a k x y):=by unfold Op.intDiv;split;{rfl};split<;>first|exact .int _ _|exact rfl
theorem pW(a:BinOp)(k:Yx)(x y:Int):bT P Flat (Op.intBits a k x y):=by unfold Op.intBits;split<;>first|exact .int _ _|exact rfl
theorem yr(a:BinOp)(x y:Int):bT P Flat (Op.intCmp a x y):=by unfold Op.intCmp;split<;>first|exact .bool _|exact rfl
theorem uH(a:BinOp)(k b:Yx)(x y:Int):bT P Flat (Op.shift a k x b y):=by unfold Op.shift;split;{rfl};split<;>first|exact .int _ _|exact rfl
theorem j8(a:BinOp)(x y:ByteArray):bT P Flat (Op.stringOp a x y):=by unfold Op.stringOp;split<;>first|exact .bool _|exact rfl|(split<;>first|exact .string _|exact rfl)
theorem j0{q:α->Prop}(s:String):bT P q (Go.stuck s):=rfl
theorem pS{q:α->Prop}{b:Prop}[Decidable b]{x y:YN α}(a:bT P q x)(d:bT P q y):bT P q (if b then x else y):=by grind
theorem mB(d:BinOp)(t:Yz)(k j:Yx)(a b:Int):bT P Flat (binOp d t (.int k a) (.int j b)):=by cases d<;>first|exact uH .shl k j a b|exact uH .shr k j a b|exact pS (j0 _) (nT _ _ _ _)|exact pS (j0 _) (yx _ _ _ _)|exact pS (j0 _) (pW _ _ _ _)|exact pS (j0 _) (yr _ _ _)
theorem jT(d:BinOp)(t:Yz)(a b:ByteArray):bT P Flat (binOp d t (.string a) (.string b)):=by(have:binOp d t (.string a) (.string b)=Op.stringOp d a b:=by cases d<;>rfl);rw[this];exact j8 _ _ _
theorem ab.asBool(h:ai c r x x'):ab P c r (asBool x) (asBool x') λ_ a b=>b=a:=by cases h<;>first|exact ab.pure rfl|exact ab.stuck
theorem ab.asIntOf(h:ai c r x x'):ab P c r (asIntOf x) (asIntOf x') λ_ a b=>b=a:=by cases h<;>first|exact ab.pure rfl|exact ab.stuck|exact ab.unsupported
theorem ab.asInt(h:ai c r x x'):ab P c r (asInt x) (asInt x') λ_ a b=>b=a:=ab.bind (ab.asIntOf h) λ_ a b _ e=>ab.pure (by rw[e])
theorem ab.asAgg(h:ai c r x x'):ab P c r (asAgg x) (asAgg x') (ak c):=by cases h with|agg a b=>exact ab.pure ⟨a,b⟩|_=>exact ab.stuck
def fY(P:YC)(x:YN α):Prop:=∀w h w',x.run P w=.halt h w'->A1 h=Yk
def ki(P:YC)(x:YN α):Prop:=∀w,∃k w',x.run P w=.halt k w'/\A1 k=Yk
theorem bT.yS{q:α->Prop}{x:YN α}(h:bT P q x):fY P x:=by intro w k j e;rcases h.run w w rfl rfl with⟨a,d,_,b,_⟩|⟨i,f,b,g⟩;{simp_all};simp_all
theorem fY.bind{x:YN α}{f:α->YN β}(d:fY P x)(h:∀a,fY P (f a)):fY P (x>>=f):=by intro w k j e;rw[YN.run_bind]at e;cases b:x.run P w with|halt i g=>rw[b]at e;cases e;exact d _ _ _ b|ok a g=>rw[b]at e;exact h a _ _ _ e
theorem dz{x:YN α}{f:α->YN β}(e:fY P x)(h:∀a,ki P (f a)):ki P (x>>=f):=by intro w;rw[YN.run_bind];cases d:x.run P w with|halt k b=>exact⟨k,b,rfl,e _ _ _ d⟩|ok a b=>exact h a b
theorem gf{x:YN α}{f:α->YN β}(h:ki P x):ki P (x>>=f):=by intro w;obtain⟨k,b,e,a⟩:=h w;simp_all
theorem eK(a:A1 h=Yk:=by rfl):ki P (YN.halt h:YN α):=λw=>⟨h,w,rfl,a⟩
theorem qZ(o:YQ):fY P (newObj o):=λ_ _ _ e=>by cases e
theorem dn(a:α):fY P (Pure.pure a:YN α):=λ_ _ _ e=>by cases e
theorem A9(b:Nat):fY P (shape b):=λ_ _ _ e=>by cases e
theorem AQ(a:YT):fY P (frozen a):=λ_ _ _ e=>by cases e
theorem rG(t:Yz):lh P (elemOf t):=(aC t).bind λd=>by cases d<;>first|trivial|exact rfl
theorem dB(e:RuntimeError):ki P (runtimePanic e:YN α):=by refine dz kW.yS λp=>?_;cases e with|typeAssertion i q a m=>exact dz (rG _).yS λz=>dz ((qZ _).bind λ_=>dn _) λ_=>eK|panicNil=>exact dz (rG _).yS λz=>dz ((qZ _).bind λ_=>dn _) λ_=>eK|_=>exact eK
theorem ab.runtimePanic{y:YN β}{Q:bK->α->β->Prop}:ab P c r (Go.runtimePanic e:YN α) y Q:=ab.never (dB e)
theorem pB(k:Yx)(x y:Int)(a:BoundsCode):ki P (boundsPanic k x y a:YN α):=by unfold boundsPanic;split;{exact dz ((iu _).bind λ_=>vn _).yS λ_=>dB _};exact dz (vn _).yS λ_=>dB _
theorem ab.boundsPanic{k:Yx}{n m:Int}{code:BoundsCode}{y:YN β}{Q:bK->α->β->Prop}:ab P c r (Go.boundsPanic k n m code:YN α) y Q:=ab.never (pB k n m code)
theorem ab.sureAddr(h:ai c r x x'):ab P c r (Instr.sureAddr x) (Instr.sureAddr x') (dh c):=by cases h with|ptr h=>exact ab.pure h|_=>exact ab.stuck
theorem ab.asAddr(h:ai c r x x'):ab P c r (asAddr x) (asAddr x') (dh c):=by cases h with|ptr h=>exact ab.pure h|fT=>exact ab.runtimePanic (e:=.nilDeref)|_=>exact ab.stuck
theorem ab.part(t:Yz)(off:Nat){x x':Array Yl}(h:ak c r x x'):ab P c r (part t x off) (part t x' off) (ai c):=by refine ab.bind (ab.cF (ov t)) λm g f a j=>?_;subst j;cases f with|true=>exact ab.bind (ab.cF (bh t)) λp n o i l=>by subst l;exact ab.pure (.uD (((h.mono a).mono i).extract _ _))|false=>cases e:x[off]? with|none=>exact ab.stuck|some v=>obtain⟨q,d,k⟩:=(h.mono a).get e;rw[d];exact ab.pure k
theorem EZ(t:Yz)(d:∀z,(P.info? t).bind (·.zero)=Yg z->Flat z):ab P c r (Instr.alloc t Yk (.tuple #[])) (Instr.alloc t Yk (.tuple #[])) (ai c):=by refine ab.bind (ab.flat (tv t d)) λg z j f d=>?_;exact ab.bind (ab.newVar d) λi a e _ h=>ab.pure (.ptr h)
theorem M8(t:Yz)(h:ai c r x x'):ab P c r (Instr.box t x) (Instr.box t x') (ai c):=ab.bind (ab.newVar h) λe a d _ h=>ab.pure (.ptr h)
theorem yj(d:Nat->Option (Nat×Nat)):∀(l q:List (Nat×Yl)){z z':Array Yl},ak c r z z'->l.map (·.1)=q.map (·.1)->ak c r (l.map (·.2)).toArray (q.map (·.2)).toArray->
 match Instr.fill d z l with|some y=>∃I,Instr.fill d z' q=Yg I/\ak c r y I|none=>True
 |[],[],z,z',h,_,_=>⟨z',rfl,h⟩
 |[],_::_,_,_,_,e,_=>by simp at e
 |_::_,[],_,_,_,e,_=>by simp at e
 |(i,v)::l,(O,t)::q,z,z',h,e,w=>by
   simp only[V1,XR]at e
   obtain⟨rfl,e⟩:=e
   have F:ai c r v t:=w.el 0 v t Θ Θ
   have A:ak c r (l.map (·.2)).toArray (q.map (·.2)).toArray:=⟨by have:=w.size;simp_all,λj u E a b=>w.el (j+1) u E (by grind) (by grind)⟩
   have M:=(ak.cells F).size
   have C:=h.size
   unfold Instr.fill
   cases d i with
   |none=>trivial
   |some p=>
     obtain⟨k,H⟩:=p
     simp only[<-M,<-C]
     split
     · rename_i y G
       split at G
       ·cases G
       · rename_i L
         rw[if_neg L]
         have D:∀(s f:List (Yl×Nat))(z z':Array Yl),ak c r z z'->s.map (·.2)=f.map (·.2)->ak c r (s.map (·.1)).toArray (f.map (·.1)).toArray->
          ak c r (s.foldl (λm(x:Yl×Nat)=>m.setIfInBounds (k+x.2) x.1) z) (f.foldl (λm(x:Yl×Nat)=>m.setIfInBounds (k+x.2) x.1) z'):=by
          intro s
          induction s with
          |nil=>simp_all
          |cons p s N=>intro f z z' C e B;cases f with
            |nil=>simp at e
            |cons Q f=>
              simp only[V1,XR]at e
              rw[Wy,Wy,<-e.1]
              exact N f _ _ (C.set _ (B.el 0 _ _ Θ Θ)) e.2 ⟨by have:=B.size;simp_all,λj u E a b=>B.el (j+1) u E (by grind) (by grind)⟩
         have n:ak c r (v.cells.zipIdx.foldl (λm(x:Yl×Nat)=>m.setIfInBounds (k+x.2) x.1) z) (t.cells.zipIdx.foldl (λm(x:Yl×Nat)=>m.setIfInBounds (k+x.2) x.1) z'):=by
          rw[<-Array.foldl_toList,<-Array.foldl_toList]
          refine D _ _ _ _ h ?_ ?_
          ·simp_all
          · have J:(v.cells.zipIdx.toList.map (·.1)).toArray=v.cells:=by simp
            have K:(t.cells.zipIdx.toList.map (·.1)).toArray=t.cells:=by simp
            rw[J,K];exact ak.cells F
         have:=yj d l q n e A
         simp_all
     ·trivial
end
section
variable{c:eh}{r:bK}
inductive tU(c:eh)(b:Nat):Option (Yz×Nat)->Option (Yz×Nat)->Prop
 |none:tU c b Yq Yq
 |some(t:Yz){n m:Nat}:n<=m->c.low b=0->tU c b (Yg (t,n)) (Yg (t,m))
 |bad(t':Yz){n m:Nat}:c.low b≠0->c.aI<=b->tU c b (Yg (w9,n)) (Yg (t',m))
theorem tU.isSome{s s':Option (Yz×Nat)}(h:tU c b s s'):s.isSome=s'.isSome:=by cases h<;>rfl
theorem qS{p:YC}{d:Nat}{e:Yz}{m off:Nat}{bs:Int}{o:Nat}(h:n<=m)(a:cellAtBytes p d e n off bs=Yg o):cellAtBytes p d e m off bs=Yg o:=by unfold cellAtBytes at a⊢;simp only[]at a⊢;split at a;{cases a};rename_i f;rw[if_neg f];simp only[Option.bind_eq_bind]at a⊢;cases i:byteOfCell p d e (off%p.cellsOf e)with|none=>simp_all|some b=>rw[i]at a;simp only[W9]at a⊢;split at a;{cases a};rename_i g;rw[if_neg ?_];{exact a};simp only[Wt,decide_eq_true_eq,Int.ofNat_eq_natCast]at g⊢;have:n*p.bytesOf e<=m*p.bytesOf e:=W6 _ h;omega
theorem eb.shape(h:eb c r w v)(g:r b=Yg k):tU c b (w.shape? b) (v.shape? k):=by have d:=h.blk b k g;unfold Yn.shape?;generalize w.heap[b]?=p at d;generalize v.heap[k]?=o at d;cases d with|@seen x q t m f s l z y e=>by_cases a:c.low b=0;{obtain rfl:=y.1 a;exact .some t z a};obtain⟨rfl,i⟩:=y.2 a;exact .bad m a i|own n j=>cases j with|cells t f k=>exact .some t (by simp[k.size]) (h.rQ b n)|_=>exact .none
theorem ab.shape(d:r b=Yg k):ab P c r (shape b) (shape k) λ_ x y=>tU c b x y:=by intro w v a;exact⟨v.shape? k,v,r,rfl,.refl a,a.shape d,λe f=>by simp_all⟩
theorem ab.viewAt(f:r b=Yg k):ab P c r (viewAt b) (viewAt k) λ_ x y=>x=Yq/\y=Yq:=by refine ab.bind (ab.shape f) λg s d h l=>?_;have a:=l.isSome;by_cases e:d.isSome=Yk;{rw[a,if_pos e,if_pos e];exact ab.pure ⟨rfl,rfl⟩};rw[a,if_neg e,if_neg e];refine ab.getObj (h _ _ f) λo n _ j i=>?_;cases j with|cells t m _=>exact absurd rfl (i _ _ _)|_=>exact ab.pure ⟨rfl,rfl⟩
theorem ab.noView(d:dh c r a a'):ab P c r (noView a) (noView a') λ_ _ _=>True:=by refine ab.bind (ab.viewAt d.1) λf s g e b=>?_;rw[b.1,b.2];exact ab.pure trivial
def P2(c:eh)(r:bK):Option (YT×Bool)->Option (YT×Bool)->Prop
 |none,Yq=>True
 |some (a,l),Yg (a',l')=>dh c r a a'/\l'=l
 |_,_=>False
theorem ab.numberAt(f:r b=Yg k):ab P c r (numberAt b) (numberAt k) (P2 c):=by refine ab.bind (ab.shape f) λn s g h m=>?_;have d:=m.isSome;rw[d];by_cases e:g.isSome=Yk;{rw[if_pos e,if_pos e];exact ab.pure trivial};rw[if_neg e,if_neg e];refine ab.getObj (h _ _ f) λo q _ j i=>?_;cases j with|cells t p _=>exact absurd rfl (i _ _ _)|number l a=>exact ab.pure ⟨a,rfl⟩|_=>exact ab.pure trivial
theorem ab.behindNumber(d:dh c r a a'):ab P c r (behindNumber a) (behindNumber a') λf x y=>dh c f x.1 y.1/\y.2=x.2:=by refine ab.bind (ab.numberAt d.1) λi s g e b=>ab.pure ?_;match s,g,b with|none,Yq,_=>exact⟨d.mono e,rfl⟩|some (x,l),Yg (j,h),b=>exact b
theorem ab.asNumber(b:dh c r a a')(l:Bool):ab P c r (asNumber a l) (asNumber a' l) (ai c):=ab.bind (ab.newObj (.number l b)) λ_ _ _ _ h=>ab.pure (.ptr ⟨h.1,rfl,rfl,Wj h.2⟩)
theorem ab.byteOf(b:dh c r a a')(g:c.low a.block=0\/a.block<c.aI):ab P c r (byteOf a) (byteOf a') λ_ x y=>y=x:=by have e:=b.2.2.1;unfold Go.byteOf;rw[e];cases a.spot with|some s=>exact ab.pure rfl|none=>refine ab.bind (ab.eP bQ) λn p m d i=>?_;obtain⟨rfl,rfl⟩:=i;refine ab.bind (ab.noView (b.mono d)) λo _ _ f _=>?_;refine ab.bind (ab.shape ((b.mono d).mono f).1) λq s t l e=>?_;rw[b.2.1];cases e with|none=>exact ab.stuck|bad x k d=>exact absurd g Ω|some x h=>refine ab.cF ?_;simp only[];split;{trivial};split<;>first|trivial|exact rfl
theorem ab.unsafeAdd(z:Fits P c)(h:ai c r x x')(k:ai c r y y'):ab P c r (YM.unsafeAdd_ #[] t #[x,y]) (YM.unsafeAdd_ #[] t #[x',y']) (ai c):=by(have f:∀{a j:Option YT},ai c r (.pointer a) (.pointer j)->ab P c r (YM.unsafeAdd_ #[] t #[.pointer a,y]) (YM.unsafeAdd_ #[] t #[.pointer j,y']) (ai c):=by intro a j h;refine ab.bind (ab.asInt k) λF n E v A=>?_;subst A;have h:=h.mono v;simp only[];split;{cases h with|fT=>exact ab.unsupported|ptr b=>refine ab.bind (ab.viewAt b.1) λB s D l g=>?_;rw[g.1,g.2];exact ab.pure (.ptr (b.mono l))};split;{exact ab.unsupported};cases h with|fT=>exact ab.unsupported|ptr b=>refine ab.bind (ab.shape b.1) λB s D l g=>?_;cases g with|none=>exact ab.unsupported|bad x u v=>refine ab.bind (ab.eP bQ) λC p i w o=>?_;obtain⟨rfl,rfl⟩:=o;(have:i.cellsOf w9=0:=by unfold YC.cellsOf;rw[z.bad];rfl);(have:∀n d q,cellAtBytes i i.depth w9 n d q=Yq:=λn d q=>by unfold cellAtBytes;simp[this]);simp only[this];exact ab.unsupported|some x m u=>refine ab.bind (ab.eP bQ) λC p i w o=>?_;obtain⟨rfl,rfl⟩:=o;rw[b.2.1];split;{rename_i d e;rw[qS (Nat.div_le_div_right m) e];exact ab.pure (.ptr ⟨((b.mono l).mono w).1,rfl,b.2.2.1,VG (Wj u) (VR _)⟩)};exact ab.unsupported);cases h with|fT=>exact f .fT|ptr b=>exact f (.ptr b)|_=>exact ab.stuck
theorem ab.movedNumber(g:Fits P c)(h:ai c r x x')(k:ai c r y y'):ab P c r (movedNumber t x y) (movedNumber t x' y') (ai c):=by refine ab.bind (ab.cF (aC t)) λH d E p w=>?_;subst w;have h:=h.mono p;have k:=k.mono p;refine ab.ite (λ_ _ _ _=>rfl) λ_=>?_;cases h with|ptr u=>refine ab.bind (ab.behindNumber u) λI a i q A=>?_;obtain⟨j,o⟩:=A;obtain⟨a,l⟩:=a;subst o;refine ab.bind (ab.unsafeAdd g (.ptr j) (k.mono q)) λJ z K F B=>?_;(cases B with|ptr v=>exact ab.asNumber v _|fT=>exact ab.pure .fT|bool b=>exact ab.pure (.bool b)|int k n=>exact ab.pure (.int k n)|string s=>exact ab.pure (.string s)|gX n m=>exact ab.pure (.gX n m)|slice n m a=>exact ab.pure (.slice n m a)|cU a i=>exact ab.pure (.cU a i)|j9=>exact ab.pure .j9|map a=>exact ab.pure (.map a)|func a b d e f=>exact ab.pure (.func a b d e f)|nilFunc=>exact ab.pure .nilFunc|nilIface=>exact ab.pure .nilIface|iface t a=>exact ab.pure (.iface t a)|agg a b=>exact ab.pure (.agg a b)|tuple a b=>exact ab.pure (.tuple a b))|fT=>exact ab.unsafeAdd g .fT k|bool b=>exact ab.unsafeAdd g (.bool b) k|int C n=>exact ab.unsafeAdd g (.int C n) k|string s=>exact ab.unsafeAdd g (.string s) k|gX n m=>exact ab.unsafeAdd g (.gX n m) k|slice n m a=>exact ab.unsafeAdd g (.slice n m a) k|cU a i=>exact ab.unsafeAdd g (.cU a i) k|j9=>exact ab.unsafeAdd g .j9 k|map a=>exact ab.unsafeAdd g (.map a) k|func a b d e f=>exact ab.unsafeAdd g (.func a b d e f) k|nilFunc=>exact ab.unsafeAdd g .nilFunc k|nilIface=>exact ab.unsafeAdd g .nilIface k|iface t a=>exact ab.unsafeAdd g (.iface t a) k|agg a b=>exact ab.unsafeAdd g (.agg a b) k|tuple a b=>exact ab.unsafeAdd g (.tuple a b) k
theorem ab.movedPointer(g:Fits P c)(h:ai c r x x')(k:ai c r y y'):ab P c r (movedPointer t x y) (movedPointer t x' y') (ai c):=by unfold Go.movedPointer;cases h with|ptr j=>refine ab.bind (ab.numberAt j.1) λv s q i o=>?_;(match s,q,o with|none,Yq,_=>exact ab.unsafeAdd (t:=t) g (.ptr (j.mono i)) (k.mono i)|some _,Yg _,_=>exactλ_ _ _=>rfl)|fT=>exact ab.unsafeAdd g .fT k|bool b=>exact ab.unsafeAdd g (.bool b) k|int p n=>exact ab.unsafeAdd g (.int p n) k|string s=>exact ab.unsafeAdd g (.string s) k|gX n m=>exact ab.unsafeAdd g (.gX n m) k|slice n m a=>exact ab.unsafeAdd g (.slice n m a) k|cU a l=>exact ab.unsafeAdd g (.cU a l) k|j9=>exact ab.unsafeAdd g .j9 k|map a=>exact ab.unsafeAdd g (.map a) k|func a b d e f=>exact ab.unsafeAdd g (.func a b d e f) k|nilFunc=>exact ab.unsafeAdd g .nilFunc k|nilIface=>exact ab.unsafeAdd g .nilIface k|iface t a=>exact ab.unsafeAdd g (.iface t a) k|agg a b=>exact ab.unsafeAdd g (.agg a b) k|tuple a b=>exact ab.unsafeAdd g (.tuple a b) k
theorem ab.known{x:YN α}{y:YN β}{Q:bK->α->β->Prop}(h:(∀(i k:Nat),r i=Yg k->i<c.aI->i=k)->(∀(i j k:Nat),r i=Yg k->r j=Yg k->i=j\/(c.seen i/\c.seen j))->ab P c r x y Q):ab P c r x y Q:=λw v a=>h a.aI a.inj w v a
theorem vm{b:YT}(d:dh c r a a')(f:dh c r b b')(e:a.block=b.block):a'.block=b'.block:=by have h:=f.1;rw[<-e,d.1]at h;simp_all
theorem wh(d:∀(i k:Nat),r i=Yg k->i<c.aI->i=k)(b:dh c r a a')(h:a.block<c.aI):a'.block<c.aI:=by have:=d _ _ b.1 h;omega
theorem ab.twoPlaces{b:YT}(k:Fits P c)(f:dh c r a a')(j:dh c r b b'):ab P c r (Op.twoPlaces a b) (Op.twoPlaces a' b') λ_ x y=>y=x:=by refine ab.known λu A=>?_;refine ab.bind (ab.eP bQ) λB p h i t=>?_;obtain⟨rfl,rfl⟩:=t;by_cases d:a.block=b.block;(case neg=>have m:=bne_iff_ne.2 d;rw[m];exactλ_ _ _=>rfl);(have n:(a'.block !=b'.block)=(a.block !=b.block):=by simp[d,vm f j d]);by_cases e:a.block<c.aI;(case neg=>(have q:decide (a.block>=h.globals.size)=Yk:=by rw[decide_eq_true_eq,<-k.aI];omega);rw[q,W1];exactλ_ _ _=>rfl);(have o:decide (a'.block>=h.globals.size)=decide (a.block>=h.globals.size):=by rw[decide_eq_decide,<-k.aI];have:=wh u f e;omega);rw[n,o];refine ab.ite (λ_ _ _ _=>rfl) λ_=>?_;exact ab.bind (ab.byteOf (f.mono i) (.inr e)) λC x E s v=>ab.bind (ab.byteOf ((j.mono i).mono s) (.inr (d▸e))) λD y F z w=>ab.pure (by rw[v,w])
theorem ab.addrMod(h:Fits P c){k:Yx}{n:Int}(f:dh c r a a'):ab P c r (Op.addrMod k a n) (Op.addrMod k a' n) (ai c):=by refine ab.bind (ab.shape f.1) λt s y d m=>?_;cases m with|none=>exact ab.unsupported|bad x b d=>refine ab.never (gf λw=>?_);(have e:∃s,(typeInfo w9).run P w=.halt (.stuck s) w:=by unfold typeInfo;rw[YN.run_bind];simp only[program,YN.run,YW.andThen,h.bad];simp);obtain⟨s,e⟩:=e;exact⟨_,w,e,rfl⟩|some x l b=>refine ab.bind (ab.cF (dm _)) λu i q g j=>?_;subst j;refine ab.ite (λ_ _ _ _=>rfl) λ_=>?_;exact ab.bind (ab.byteOf ((f.mono d).mono g) (.inl b)) λv z A p o=>by subst o;exact ab.pure (.int _ _)
theorem ab.addrCmp{b:YT}(f:Fits P c)(d:dh c r a a')(e:dh c r b b'):ab P c r (Op.addrCmp op a b) (Op.addrCmp op a' b') (ai c):=by refine ab.bind (ab.twoPlaces f d e) λj s h i g=>?_;subst g;cases op<;>first|exact ab.pure (.bool _)|exact ab.unsupported
theorem ab.addrSub{k:Yx}{b:YT}(f:Fits P c)(d:dh c r a a')(e:dh c r b b'):ab P c r (Op.addrSub k a b) (Op.addrSub k a' b') (ai c):=by refine ab.bind (ab.twoPlaces f d e) λi s j h g=>?_;subst g;exact ab.pure (.int _ _)
def NF(P:YC)(t:Yz):Bool:=match(P.info? t).map (λi:TypeInfo=>i.desc)with|some (.named "sync.copyChecker" _)=>Yd|_=>Yk
def e9(P:YC)(t:Yz):Bool:=match P.underlying t with|some (.int _)=>NF P t|some .string|some .bool=>Yk|_=>Yd
theorem yt{q:α->Prop}{x:YN α}{f:α->YN β}(g:bT P q x)(h:∀a,q a->ki P (f a)):ki P (x>>=f):=by intro w;rw[YN.run_bind];rcases g.run w w rfl rfl with⟨a,d,e,b,_⟩|⟨k,j,b,i⟩;{rw[b];exact h a e _};simp_all
theorem ab.equal(H:Fits P c)(j:e9 P t=Yk)(h:ai c r x x')(k:ai c r y y'):ab P c r (Op.equal t x y) (Op.equal t x' y') λ_ a b=>b=a:=by show ab P c r (Op.equalIn (9999+1) t x y) (Op.equalIn (9999+1) t x' y') _;generalize(9999:Nat)=d;unfold Op.equalIn;refine ab.bind (ab.eP (x:=underlying t) (q:=λd=>P.underlying t=Yg d) ?_) λr1 z J s m=>?_;{refine bT.bind bQ λp v=>?_;subst v;cases h:p.underlying t with|none=>exact rfl|some i=>exact rfl};obtain⟨rfl,m⟩:=m;have h:=h.mono s;have k:=k.mono s;unfold e9 at j;rw[m]at j;cases J with|bool=>(cases h<;>cases k<;>first|exact ab.stuck|exact ab.pure rfl)|string=>(cases h<;>cases k<;>first|exact ab.stuck|exact ab.pure rfl)|int q=>(cases h with|int S w=>(cases k with|int I o=>exact ab.ite (λ_=>ab.pure rfl) λ_=>ab.stuck|ptr G=>(match w with|.ofNat 0=>exact ab.pure rfl|.ofNat (_+1)=>exact ab.unsupported|.negSucc _=>exact ab.unsupported)|_=>first|exact ab.stuck|exact ab.unsupported)|ptr N=>(cases k with|int I o=>(match o with|.ofNat 0=>exact ab.pure rfl|.ofNat (_+1)=>exact ab.unsupported|.negSucc _=>exact ab.unsupported)|ptr G=>refine ab.bind (ab.behindNumber N) λr2 x x' C g=>ab.bind (ab.behindNumber (G.mono C)) λr3 y y' D l=>?_;refine ab.known λR n=>?_;have g:=g.1.mono D;have l:=l.1;refine ab.bind (ab.eP bQ) λr4 p B E v=>?_;obtain⟨rfl,rfl⟩:=v;by_cases f:x.1.block=y.1.block;(case neg=>have w:(x.1.block==y.1.block)=Yd:=beq_eq_false_iff_ne.2 f;(have o:(x.1==y.1)=Yd:=by grind);simp only[w,o,WC,V4,if_false];refine ab.never (dz (dm t).yS λi=>?_);split<;>exact eK);have O:=vm g l f;(have K:(x'.1.block==y'.1.block)=(x.1.block==y.1.block):=by simp_all);by_cases e:x.1.block<c.aI;(case neg=>(have T:decide (x.1.block<B.globals.size)=Yd:=by rw[decide_eq_false_iff_not,<-H.aI];exact e);simp only[T,X9,V4,if_false];refine ab.never (yt (jB t) λi n=>?_);unfold NF at j;rw[n]at j;split;{simp_all};exact eK);(have L:decide (x'.1.block<B.globals.size)=decide (x.1.block<B.globals.size):=by rw[decide_eq_decide,<-H.aI];exact⟨λ_=>e,λ_=>wh R g e⟩);(have M:(x'.1==y'.1)=(x.1==y.1):=by obtain⟨⟨xb,xo,xs⟩,_⟩:=x;obtain⟨⟨V,W,X⟩,_⟩:=x';obtain⟨⟨yb,yo,ys⟩,_⟩:=y;obtain⟨⟨Y,Z,ys'⟩,_⟩:=y';obtain⟨s,C,D,-⟩:=g;obtain⟨S,I,k3,-⟩:=l;grind);simp only[K,L,M];refine ab.ite (λe=>?_) λ_=>?_;{(have e:x.1.block<c.aI:=by assumption);exact ab.bind (ab.byteOf (g.mono E) (.inr e)) λU u u' F Q=>ab.bind (ab.byteOf ((l.mono E).mono F) (.inr (f▸e))) λr6 z J h6 m=>ab.pure (by rw[Q,m])};refine ab.bind (ab.cF (dm t)) λU i i' F n=>?_;subst n;refine(ab.cF ?_);(split<;>first|exact rfl|(split<;>first|trivial|exact rfl))|_=>exact ab.unsupported)|fT=>cases k<;>exact ab.unsupported|_=>cases k<;>first|exact ab.stuck|exact ab.unsupported)|_=>simp at j
theorem ab.eqGuard{o2:YI}(b:∀z,x≠.agg z)(a:x≠.nilIface)(h:ai c r x x'):ab P c r (eqGuard op t o1 o2 x y) (eqGuard op t o1 o2 x' y') λ_ _ _=>True:=by refine ab.ite (λ_=>ab.pure trivial) λ_=>?_;cases h<;>first|exact absurd rfl a|exact absurd rfl (b _)|exact ab.pure trivial
theorem jN{d:TypeDesc}(h:P.underlying t=Yg d)(w:Yn):(underlying t).run P w=.ok d w:=by unfold underlying;simp_all
theorem zf(a:e9 P t=Yk)(e:(∃z,x=.agg z)\/x=.nilIface):ki P (Op.equal t x y):=by intro w;show∃k f,(Op.equalIn (9999+1) t x y).run P w=.halt k f/\_;unfold Op.equalIn;unfold e9 at a;cases b:P.underlying t with|none=>simp_all|some z=>rw[b]at a;rw[YN.run_bind,jN b];rcases e with⟨q,rfl⟩|rfl<;>cases z<;>first|(simp at a;done)|exact⟨_,_,rfl,rfl⟩|(cases y<;>exact⟨_,_,rfl,rfl⟩)
end
def A3:Yl->Bool
 |.int ..|.string ..|.pointer ..|.float ..|.complex ..=>Yd
 |_=>Yk
set_option maxHeartbeats 4000000 in theorem zX(a:BinOp)(t:Yz)(x y:Yl)(b:¬(a=.eql\/a=.neq))(c:A3 x=Yk):∃h:Halt,binOp a t x y=.halt h/\A1 h=Yk:=by(cases a<;>first|exact absurd (.inl rfl) b|exact absurd (.inr rfl) b|skip);all_goals(cases x<;>first|(simp[A3]at c;done)|skip);all_goals(cases y<;>exact⟨_,rfl,rfl⟩)
section
variable{c:eh}{r:bK}
theorem pn(a:e9 P t=Yk)(n:Nat):P.eqGuardType (n+1) t=Yd:=by unfold e9 at a;unfold YC.eqGuardType;grind
theorem xF{o2:YI}(l:e9 P t=Yk)(m:(∃z,x=.agg z)\/x=.nilIface):fY P (eqGuard op t o1 o2 x y):=by
 have a:∀n:Nat,fY P (Op.eqGuardIn (n+1) t .nilIface .nilIface):=λn=>by
  unfold Op.eqGuardIn
  exact fY.bind (aC t).yS λd=>by cases d<;>exact dn _
 have g:fY P (match x,y with
  |.nilIface,.nilIface=>(do
    if(o1 matches .const _)||(o2 matches .const _)then return
    if<-Op.eqGuardIn Op.maxDepth t x y then unsupported (.noEntry "binop/eql: two nil values of an interface type with methods, neither of them the literal nil"):YN Unit)
  |.agg _,.agg _=>(do
    if !(<-program).eqGuardType (<-program).depth t then return
    if<-Op.eqGuardIn Op.maxDepth t x y then unsupported (.noEntry "binop/eql: two nil values of an interface type with methods, in a part of a struct or an array"):YN Unit)
  |_,_=>pure ()):=by
  rcases m with⟨z,rfl⟩|rfl
  ·cases y with
    |agg u=>
      refine bT.yS (q:=λ_=>True) (bT.bind bQ λp k=>bT.bind bQ λj f=>?_)
      subst k f
      rw[show j.eqGuardType j.depth t=Yd from pn l _]
      exact trivial
    |_=>exact dn _
  ·cases y with
    |nilIface=>
      by_cases i:((match o1 with|.const _=>Yk|_=>Yd)||(match o2 with|.const _=>Yk|_=>Yd))=Yk
      ·simp only[i,if_true];exact dn _
      · simp only[i,if_false,V4]
        exact fY.bind (a 9999) λb=>by
         cases b
         ·exact dn _
         ·exactλw h o e=>by cases e;rfl
    |_=>exact dn _
 cases op<;>first|exact g|exact dn _
set_option maxHeartbeats 1000000 in theorem ED{o2:YI}(hc:Fits P c)(ht:(op=.eql\/op=.neq)->e9 P t=Yk)(h:ai c r x x')(k:ai c r y y'):ab P c r (do eqGuard op t o1 o2 x y;binOp op t x y) (do eqGuard op t o1 o2 x' y';binOp op t x' y') (ai c):=by by_cases he:op=.eql\/op=.neq;{have ht:=ht he;by_cases hx:(∃z,x=.agg z)\/x=.nilIface;{refine ab.never (dz (xF ht hx) λ_=>?_);have:∀f:Bool->YN Yl,ki P (Op.equal t x y>>=f):=λf=>gf (zf (P:=P) (y:=y) ht hx);rcases hx with⟨z,rfl⟩|rfl<;>rcases he with rfl|rfl<;>(cases y<;>exact this _)};(have heq:∀{r:bK},ai c r x x'->ai c r y y'->ab P c r (binOp op t x y) (binOp op t x' y') (ai c):=by intro r h k;have key:=ab.equal hc ht h k;cases h with|int k1 n1=>(cases k with|int k2 n2=>exact ab.flat (mB _ _ _ _ _ _)|_=>rcases he with rfl|rfl<;>exact ab.bind key λ_ _ _ _ e=>by subst e;exact ab.pure (.bool _))|string s1=>(cases k with|string s2=>exact ab.flat (jT _ _ _ _)|_=>rcases he with rfl|rfl<;>exact ab.bind key λ_ _ _ _ e=>by subst e;exact ab.pure (.bool _))|_=>rcases he with rfl|rfl<;>exact ab.bind key λ_ _ _ _ e=>by subst e;exact ab.pure (.bool _));exact ab.bind (ab.eqGuard (λz e=>hx (.inl ⟨z,e⟩)) (λe=>hx (.inr e)) h) λr1 _ _ h1 _=>heq (h.mono h1) (k.mono h1)};(have e0:∀x y:Yl,(do eqGuard op t o1 o2 x y;binOp op t x y)=binOp op t x y:=by intro x y;cases op<;>first|rfl|exact absurd (.inl rfl) he|exact absurd (.inr rfl) he);rw[e0,e0];clear e0;by_cases hx:A3 x=Yk;{obtain⟨h',e,hh⟩:=zX op t x y he hx;rw[e];exact ab.halt hh};cases h with|int k1 n1=>(cases k with|int k2 n2=>exact ab.flat (mB _ _ _ _ _ _)|ptr hb=>(cases op<;>first|exact ab.unsupported|exact absurd (.inl rfl) he|exact absurd (.inr rfl) he|exact ab.movedNumber hc (.ptr hb) (.int _ _)|exact ab.bind (ab.behindNumber hb) λr1 z z' h1 hz=>ab.addrMod hc hz.1)|fT=>(cases op<;>first|exact ab.unsupported|exact absurd (.inl rfl) he|exact absurd (.inr rfl) he|exact ab.movedNumber hc .fT (.int _ _))|_=>cases op<;>first|exact ab.stuck|exact absurd (.inl rfl) he|exact absurd (.inr rfl) he)|string s1=>(cases k with|string s2=>exact ab.flat (jT _ _ _ _)|_=>cases op<;>first|exact ab.stuck|exact ab.unsupported|exact absurd (.inl rfl) he|exact absurd (.inr rfl) he)|ptr ha=>(cases k with|int k2 n2=>(cases op<;>first|exact ab.unsupported|exact absurd (.inl rfl) he|exact absurd (.inr rfl) he|exact ab.movedNumber hc (.ptr ha) (.int _ _)|exact ab.bind (ab.behindNumber ha) λr1 z z' h1 hz=>ab.addrMod hc hz.1|(refine ab.bind (ab.cF (aC t)) λr1 d d' h1 hd=>?_;subst hd;exact ab.ite (λ_=>ab.movedPointer hc (.ptr (ha.mono h1)) (.int _ _)) λ_=>ab.movedNumber hc (.ptr (ha.mono h1)) (.int _ _)))|ptr hb=>(cases op<;>first|exact ab.unsupported|exact absurd (.inl rfl) he|exact absurd (.inr rfl) he|exact ab.bind (ab.behindNumber ha) λr1 z z' h1 hz=>ab.bind (ab.behindNumber (hb.mono h1)) λr2 u u' h2 hu=>ab.addrSub hc (hz.1.mono h2) hu.1|exact ab.bind (ab.behindNumber ha) λr1 z z' h1 hz=>ab.bind (ab.behindNumber (hb.mono h1)) λr2 u u' h2 hu=>ab.addrCmp hc (hz.1.mono h2) hu.1)|_=>cases op<;>first|exact ab.stuck|exact ab.unsupported|exact absurd (.inl rfl) he|exact absurd (.inr rfl) he)|fT=>(cases k with|int k2 n2=>(cases op<;>first|exact ab.unsupported|exact absurd (.inl rfl) he|exact absurd (.inr rfl) he|exact ab.movedNumber hc .fT (.int _ _)|(refine ab.bind (ab.cF (aC t)) λr1 d d' h1 hd=>?_;subst hd;exact ab.ite (λ_=>ab.movedPointer hc .fT (.int _ _)) λ_=>ab.movedNumber hc .fT (.int _ _)))|_=>cases op<;>first|exact ab.stuck|exact ab.unsupported|exact absurd (.inl rfl) he|exact absurd (.inr rfl) he)|_=>exact absurd rfl hx
end
section
variable{c:eh}{r:bK}
theorem aW(t:Yz):bT P (λd=>P.underlying t=Yg d) (underlying t):=by refine bT.bind bQ λp a=>?_;subst a;cases h:p.underlying t with|none=>exact rfl|some i=>exact rfl
theorem wQ(t:Yz):bT P (λn=>P.cellsOf t=n) (sizeOf t):=by refine bT.bind (jB t) λi a=>?_;show P.cellsOf t=i.size;unfold YC.cellsOf;grind
theorem B4(t:Yz)(h:ai c r x x'):ab P c r (Instr.loadAt t x) (Instr.loadAt t x') (ai c):=ab.bind (ab.sureAddr h) λ_ _ _ _ b=>ab.loadVar t b
theorem Ac(t:Yz)(h:ai c r x x')(k:ai c r y y'):ab P c r (Instr.storeAt t x y) (Instr.storeAt t x' y') λ_ _ _=>True:=ab.bind (ab.sureAddr h) λ_ _ _ b d=>ab.storeVar t d (k.mono b)
theorem Ei{op:UnOp}(h:ai c r x x'):ab P c r (Op.unary op x) (Op.unary op x') (ai c):=by cases h with|bool b=>(cases op<;>first|exact ab.pure (.bool _)|exact ab.stuck)|int k n=>(cases op with|neg=>exact ab.flat (nT .sub k 0 n)|xor=>exact ab.flat (pW .xor k (if k.signed then-1 else k.max) n)|_=>exact ab.stuck)|ptr a=>(cases op<;>first|exact ab.unsupported|exact ab.stuck)|_=>cases op<;>exact ab.stuck
theorem AG(n:Nat)(h:ai c r x x'):ab P c r (Instr.extract x n) (Instr.extract x' n) (ai c):=by cases h with|tuple s e=>rename_i z f;unfold Instr.extract;(cases b:z[n]? with|none=>simp only[b];exact ab.stuck|some v=>obtain⟨g,d,k⟩:=(ak.mk s e).get b;simp only[b,d];exact ab.pure k)|_=>exact ab.stuck
theorem za(s:Yz)(n:Nat)(u:∀fs f,P.underlying s=Yg (.struct fs)->fs[n]?=Yg f->P.cellsOf f.type≠0)(h:ai c r x x'):ab P c r (Instr.fieldAt s x n) (Instr.fieldAt s x' n) (ai c):=by refine ab.bind (ab.eP (aW s)) λz d k l e=>?_;obtain⟨rfl,e⟩:=e;cases k with|struct fs=>simp only[];(cases t:fs[n]? with|none=>exact ab.stuck|some f=>refine ab.bind (ab.sureAddr (h.mono l)) λv a j w p=>?_;(have i:ab P c v (fieldPlace a f) (fieldPlace j f) (dh c):=by refine ab.bind (ab.eP (wQ f.type)) λA m y o g=>?_;obtain⟨rfl,g⟩:=g;have:=u fs f e t;rw[g]at this;rw[if_neg this,if_neg this];exact ab.pure ((p.mono o).add _));exact ab.bind i λ_ _ _ _ q=>ab.pure (.ptr q))|_=>exact ab.stuck
theorem EB(t:Yz)(n:Nat)(h:ai c r x x'):ab P c r (Instr.field t x n) (Instr.field t x' n) (ai c):=by refine ab.bind (ab.cF (aC t)) λl d b g j=>?_;subst j;cases b with|struct e=>simp only[];(cases k:e[n]? with|none=>exact ab.stuck|some f=>exact ab.bind (ab.asAgg (h.mono g)) λ_ _ _ _ i=>ab.part _ _ i)|_=>exact ab.stuck
theorem EW(t:Yz)(h:ai c r x x')(k:ai c r y y'):ab P c r (Instr.index t x y) (Instr.index t x' y') (ai c):=by refine ab.bind (ab.asIntOf k) λB z v j q=>?_;subst q;obtain⟨w,i⟩:=v;refine ab.bind (ab.cF (aC t)) λC d g l o=>?_;subst o;have h:=(h.mono j).mono l;cases h with|agg s e=>(cases g with|array u f=>refine ab.ite (λ_=>?_) λ_=>ab.boundsPanic;exact ab.bind (ab.cF (bh f)) λD m A n p=>by subst p;exact ab.part _ _ ((ak.mk s e).mono n)|_=>exact ab.stuck)|string s=>(cases g with|string=>simp only[];(cases(if 0<=i then s[i.toNat]? else Yq)with|none=>exact ab.boundsPanic|some b=>exact ab.pure (.int _ _))|_=>exact ab.stuck)|_=>cases g<;>exact ab.stuck
theorem zp(t:Yz)(h:ai c r x x')(k:ai c r y y'):ab P c r (Instr.indexAt t x y) (Instr.indexAt t x' y') (ai c):=by unfold Instr.indexAt;refine ab.bind (ab.asIntOf k) λY z V N T=>?_;subst T;obtain⟨X,i⟩:=V;refine ab.bind (ab.cF (aC t)) λZ d M O R=>?_;subst R;have h:=(h.mono N).mono O;let F(U:bK)(a b:Option YT×Nat×Yz):Prop:=ai c U (.pointer a.1) (.pointer b.1)/\b.2=a.2;cases M with|array B f=>refine ab.bind (ab.sureAddr h) λr3 a I W v=>ab.bind (Q:=F) (ab.pure ⟨.ptr v,rfl⟩) λC a b s q=>?_;obtain⟨w,B,f⟩:=a;obtain⟨o,l⟩:=b;obtain⟨g,e⟩:=q;simp only at e g;subst e;refine ab.bind (ab.cF (x:=underlying t) (aC t)) λC u H s A=>?_;subst A;have g:=g.mono s;(cases g with|fT=>exact ab.boundsPanic|ptr v=>refine ab.ite (λ_=>?_) λ_=>?_;{exact ab.bind (ab.cF (bh f)) λL m J D E=>by subst E;exact ab.pure (.ptr ((v.mono D).add _))};exact ab.ite (λ_ _ _ _=>rfl) λ_=>ab.boundsPanic)|slice f=>(cases h with|gX n m=>refine ab.bind (Q:=F) (ab.pure ⟨.fT,rfl⟩) λC a b s q=>?_;obtain⟨w,B,f⟩:=a;obtain⟨o,l⟩:=b;obtain⟨g,e⟩:=q;simp only at e g;subst e;refine ab.bind (ab.cF (x:=underlying t) (aC t)) λC u H s A=>?_;subst A;have g:=g.mono s;(cases g with|fT=>exact ab.boundsPanic|ptr v=>refine ab.ite (λ_=>?_) λ_=>?_;{exact ab.bind (ab.cF (bh f)) λL m J D E=>by subst E;exact ab.pure (.ptr ((v.mono D).add _))};exact ab.ite (λ_ _ _ _=>rfl) λ_=>ab.boundsPanic)|slice n m v=>refine ab.bind (Q:=F) (ab.pure ⟨.ptr v,rfl⟩) λC a b s q=>?_;obtain⟨w,B,f⟩:=a;obtain⟨o,l⟩:=b;obtain⟨g,e⟩:=q;simp only at e g;subst e;refine ab.bind (ab.cF (x:=underlying t) (aC t)) λC u H s A=>?_;subst A;have g:=g.mono s;(cases g with|fT=>exact ab.boundsPanic|ptr v=>refine ab.ite (λ_=>?_) λ_=>?_;{exact ab.bind (ab.cF (bh f)) λL m J D E=>by subst E;exact ab.pure (.ptr ((v.mono D).add _))};exact ab.ite (λ_ _ _ _=>rfl) λ_=>ab.boundsPanic)|cU a I=>refine ab.bind (Q:=λ_ p K=>p=(Yg a,0,f)/\K=(Yg I,0,f)) (ab.pure ⟨rfl,rfl⟩) λC p K s S=>?_;obtain⟨rfl,rfl⟩:=S;refine ab.bind (ab.cF (x:=underlying t) (aC t)) λC u H s A=>?_;subst A;refine ab.ite (λG=>?_) λ_=>ab.ite (λ_ _ _ _=>rfl) λ_=>ab.boundsPanic;simp at G;omega|_=>exactλ_ _ _=>rfl)|_=>cases h<;>exactλ_ _ _=>rfl
theorem xh{fn:Fn}(b:Ip c fn=Yk){x x' y y':Array Yl}(h:ak c r x x')(k:ak c r y y'):ab P c r (Instr.makeFunc fn x y) (Instr.makeFunc fn x' y') (ai c):=ab.pure (.func b h.size h.el k.size k.el)
theorem ab.sliceBound(y:Nat)(e:BoundsCode)(h:ai c r x x'):ab P c r (Instr.sliceBound x y e) (Instr.sliceBound x' y e) λ_ a b=>b=a/\a<=y:=by refine ab.bind (ab.asIntOf h) λj z k g f=>?_;subst f;exact ab.ite (λi=>ab.pure ⟨rfl,by omega⟩) λ_=>ab.boundsPanic
def jX(c:eh)(r:bK):Option Yl->Option Yl->Prop
 |none,Yq=>True
 |some x,Yg y=>ai c r x y
 |_,_=>False
theorem jX.mono{r r':bK}(h:r.le r'):∀{x y:Option Yl},jX c r x y->jX c r' x y|none,Yq,_=>trivial|some _,Yg _,k=>ai.mono h k
theorem ab.sliceBounds(f:Bool)(k j:Nat){mx:Option Yl}(i:jX c r lo lo')(m:jX c r hi hi')(s:jX c r mx mx'):ab P c r (Instr.sliceBounds f k j lo hi mx) (Instr.sliceBounds f k j lo' hi' mx') λ_ a b=>b=a/\(k=0->j=0->a=(0,0,0)):=by match mx,mx',s with|none,Yq,_=>refine ab.bind (Q:=λ_ a b=>b=a/\a<=_) (ab.pure ⟨rfl,Vu _⟩) λy z h l e=>?_;obtain⟨rfl,x⟩:=e;(match hi,hi',m with|none,Yq,_=>refine ab.bind (Q:=λ_ a b=>b=a/\a<=_) (ab.pure ⟨rfl,Vu _⟩) λv z h o e=>?_;obtain⟨rfl,u⟩:=e;(match lo,lo',i with|none,Yq,_=>refine ab.bind (Q:=λ_ a b=>b=a/\a<=_) (ab.pure ⟨rfl,Vu _⟩) λq z h p e=>?_;obtain⟨rfl,n⟩:=e;exact ab.pure ⟨rfl,λa b=>by simp_all⟩|some a,Yg t,i=>refine ab.bind (ab.sliceBound _ _ (ai.mono o (ai.mono l i))) λq z h p e=>?_;obtain⟨rfl,n⟩:=e;exact ab.pure ⟨rfl,λa b=>by simp_all⟩)|some b,Yg w,m=>refine ab.bind (ab.sliceBound _ _ (ai.mono l m)) λv z h o e=>?_;obtain⟨rfl,u⟩:=e;match lo,lo',i with|none,Yq,_=>refine ab.bind (Q:=λ_ a b=>b=a/\a<=_) (ab.pure ⟨rfl,Vu _⟩) λq z h p e=>?_;obtain⟨rfl,n⟩:=e;exact ab.pure ⟨rfl,λa b=>by simp_all⟩|some a,Yg t,i=>refine ab.bind (ab.sliceBound _ _ (ai.mono o (ai.mono l i))) λq z h p e=>?_;obtain⟨rfl,n⟩:=e;exact ab.pure ⟨rfl,λa b=>by simp_all⟩)|some d,Yg A,s=>refine ab.bind (ab.sliceBound _ _ s) λy z h l e=>?_;obtain⟨rfl,x⟩:=e;match hi,hi',m with|none,Yq,_=>exactλ_ _ _=>rfl|some b,Yg w,m=>refine ab.bind (ab.sliceBound _ _ (ai.mono l m)) λv z h o e=>?_;obtain⟨rfl,u⟩:=e;match lo,lo',i with|none,Yq,_=>refine ab.bind (Q:=λ_ a b=>b=a/\a<=_) (ab.pure ⟨rfl,Vu _⟩) λq z h p e=>?_;obtain⟨rfl,n⟩:=e;exact ab.pure ⟨rfl,λa b=>by simp_all⟩|some a,Yg t,i=>refine ab.bind (ab.sliceBound _ _ (ai.mono o (ai.mono l i))) λq z h p e=>?_;obtain⟨rfl,n⟩:=e;exact ab.pure ⟨rfl,λa b=>by simp_all⟩
theorem ET(t:Yz){mx:Option Yl}(h:ai c r x x')(k:jX c r lo lo')(o:jX c r hi hi')(p:jX c r mx mx'):ab P c r (Instr.slice t x lo hi mx) (Instr.slice t x' lo' hi' mx') (ai c):=by unfold Instr.slice;refine ab.bind (ab.cF (aC t)) λK d y v A=>?_;subst A;have h:=h.mono v;have k:=k.mono v;have o:=o.mono v;have p:=p.mono v;(have J:mx'.isSome=mx.isSome:=by match mx,mx',p with|none,Yq,_=>rfl|some _,Yg _,_=>rfl);cases y with|string=>(cases h with|string s=>simp only[J];refine ab.ite (λ_ _ _ _=>rfl) λ_=>?_;exact ab.bind (ab.sliceBounds _ _ _ k o (show jX c K Yq Yq from trivial)) λ_ _ _ _ e=>by obtain⟨rfl,_⟩:=e;exact ab.pure (.string _)|_=>exact ab.stuck)|slice b=>(cases h with|gX n m=>refine ab.bind (ab.sliceBounds _ _ _ k o p) λC z u j e=>?_;obtain⟨rfl,_⟩:=e;refine ab.bind (ab.cF (bh b)) λD q B i e=>?_;subst e;refine ab.pure ?_;split<;>exact .gX _ _|slice n m g=>refine ab.bind (ab.sliceBounds _ _ _ k o p) λC z u j e=>?_;obtain⟨rfl,_⟩:=e;refine ab.bind (ab.cF (bh b)) λD q B i e=>?_;subst e;refine ab.pure ?_;have g:=(g.mono j).mono i;split;{exact .slice _ _ g};exact .slice _ _ (g.add _)|cU a G=>refine ab.bind (ab.sliceBounds _ _ _ k o p) λC z u j e=>?_;obtain⟨rfl,e⟩:=e;obtain rfl:=e rfl rfl;refine ab.bind (ab.cF (bh b)) λD q B i e=>?_;subst e;refine ab.pure ?_;split<;>exact .cU _ _|_=>exact ab.stuck)|pointer w=>refine ab.bind (ab.asAddr h) λC a G j g=>?_;refine ab.bind (ab.cF (aC w)) λD d y i A=>?_;subst A;(cases y with|array n b=>refine ab.bind (ab.sliceBounds _ _ _ ((k.mono j).mono i) ((o.mono j).mono i) ((p.mono j).mono i)) λL z u H e=>?_;obtain⟨rfl,_⟩:=e;refine ab.bind (ab.cF (bh b)) λM q B I e=>?_;obtain⟨rfl,_⟩:=e;refine ab.pure ?_;have g:=((g.mono i).mono H).mono I;split;{exact .slice _ _ g};exact .slice _ _ (g.add _)|_=>exact ab.stuck)|_=>cases h<;>exact ab.stuck
theorem zK(t:Yz){mx:Option Yl}(h:ai c r x x')(m:jX c r lo lo')(o:jX c r hi hi')(p:jX c r mx mx'):ab P c r (Instr.sliceAt t x lo hi mx) (Instr.sliceAt t x' lo' hi' mx') (ai c):=by refine ab.bind (ab.cF (aC t)) λE d s f w=>?_;subst w;have k:=ET (P:=P) t (h.mono f) (m.mono f) (o.mono f) (p.mono f);cases s with|array n g=>refine ab.bind (ab.sureAddr (h.mono f)) λF a A j i=>?_;refine ab.bind (ab.sliceBounds _ _ _ ((m.mono f).mono j) ((o.mono f).mono j) ((p.mono f).mono j)) λG z y u e=>?_;obtain⟨rfl,_⟩:=e;refine ab.bind (ab.cF (bh g)) λH q D v e=>?_;subst e;refine ab.pure ?_;have i:=(i.mono u).mono v;split;{exact .slice _ _ i};exact .slice _ _ (i.add _)|_=>exact k
end
section
variable{c:eh}{r:bK}
def jo(P:YC)(t:Yz):Bool:=match(P.info? t).bind (·.zero)with|some z=>jh 100 z|none=>Yk
theorem vO(h:jo P t=Yk):∀z,(P.info? t).bind (·.zero)=Yg z->Flat z:=λz a=>by unfold jo at h;rw[a]at h;exact ib h
theorem Flat.vs(h:Flat z)(c:eh)(r:bK):ak c r z.cells z.cells:=ak.cells (h c r)
theorem ab.zero(h:jo P t=Yk):ab P c r (zeroValue t) (zeroValue t) λ_ a b=>b=a/\Flat a:=ab.eP (tv t (vO h))
theorem BG(h:jo P t=Yk):ab P c r (Instr.alloc t Yk (.tuple #[])) (Instr.alloc t Yk (.tuple #[])) (ai c):=EZ t (vO h)
structure Cv(c:eh)(r:bK)(x x':Array (Nat×Yl)):Prop where
 idx:x.toList.map (·.1)=x'.toList.map (·.1)
 val:ak c r (x.toList.map (·.2)).toArray (x'.toList.map (·.2)).toArray
theorem Cv.mono{r r':bK}(h:r.le r'){x x':Array (Nat×Yl)}(k:Cv c r x x'):Cv c r' x x':=⟨k.idx,k.val.mono h⟩
theorem lx(a:Nat->Option (Nat×Nat)){x x':Array (Nat×Yl)}(h:Cv c r x x'){z z':Array Yl}(e:ak c r z z'):Instr.fill a z x.toList=Option.none\/∃y d,Instr.fill a z x.toList=Yg y/\Instr.fill a z' x'.toList=Yg d/\ak c r y d:=by have:=yj a x.toList x'.toList e h.idx h.val;grind
theorem E1(l:List ε)(f:ε->YN ζ)(h:∀x∈l,lh P (f x)):lh P (l.mapM f):=by induction l with|nil=>trivial|cons x l b=>rw[List.mapM_cons];exact(h x Θ).bind λ_=>(b λy a=>h y (by simp[a])).bind λ_=>trivial
theorem A0(l:Array ε)(f:ε->YN ζ)(h:∀x∈l,lh P (f x)):lh P (l.mapM f):=by rw[Array.mapM_eq_mapM_toList];exact lh.bind (E1 _ _ λx a=>h x (by simp_all)) λ_=>trivial
theorem Ew(B:jo P t=Yk){x x':Array (Nat×Yl)}(h:Cv c r x x'):ab P c r (Instr.build t x) (Instr.build t x') (ai c):=by unfold Instr.build;refine ab.bind (ab.zero B) λD z F q g=>?_;obtain⟨rfl,g⟩:=g;refine ab.bind (ab.cF (aC t)) λE d v s A=>?_;subst A;cases v with|struct w=>refine ab.bind (ab.cF (A0 w _ λf _=>(bh f.type).bind λ_=>trivial)) λp u j m o=>?_;subst o;rcases lx (j[·]?) (((h.mono q).mono s).mono m) (g.vs c p)with e|⟨y,C,e,l,k⟩;{simp only[e];exact ab.stuck};simp only[e,l];exact ab.pure (.uD k)|array n b=>refine ab.bind (ab.cF (bh b)) λp u j m o=>?_;subst o;rcases lx (λi=>Yg (i*j,j)) (((h.mono q).mono s).mono m) (g.vs c p)with e|⟨y,C,e,l,k⟩;{simp only[e];exact ab.stuck};simp only[e,l];exact ab.pure (.uD k)|_=>exact ab.stuck
theorem ak.range{x x':Array Yl}(h:ak c r x x')(n:Nat):ak c r ((Array.range n).map (x[·%x.size]!)) ((Array.range n).map (x'[·%x'.size]!)):=by refine ak.map _ _ _ λi _=>?_;rw[<-h.size];rw[Y4,Y4];exact h.getD _ (by exact .bool Yd)
theorem tl(E:∀e,P.underlying t=Yg (.slice e)->jo P e=Yk){x x':Array (Nat×Yl)}(h:Cv c r x x'):ab P c r (Instr.buildSlice t n x) (Instr.buildSlice t n x') (ai c):=by unfold Instr.buildSlice;refine ab.bind (ab.eP (aW t)) λH d B u s=>?_;obtain⟨rfl,s⟩:=s;cases B with|slice l=>refine ab.bind (ab.cF (bh l)) λI m j v D=>?_;subst D;refine ab.ite (λ_ _ _ _=>rfl) λ_=>?_;refine ab.ite (λ_=>?_) λ_=>?_;{refine ab.bind (Q:=λ_ a b=>b=a/\∀r,ak c r a a) (ab.pure ⟨rfl,λ_=>.empty⟩) λw z A p g=>?_;obtain⟨rfl,g⟩:=g;rcases lx (λi=>Yg (i*j,j)) (((h.mono u).mono v).mono p) (ak.range (g w) (n*j))with e|⟨y,G,e,o,k⟩;{simp only[e];exact ab.stuck};simp only[e,o];exact ab.bind (ab.newRow k) λ_ _ _ _ q=>ab.pure (.slice _ _ q)};refine ab.bind (ab.zero (E _ s)) λw z A p g=>?_;obtain⟨rfl,g⟩:=g;refine ab.bind (Q:=λ_ a b=>b=a/\∀r,ak c r a a) (ab.pure ⟨rfl,λr=>g.vs c r⟩) λF z A C g=>?_;obtain⟨rfl,g⟩:=g;rcases lx (λi=>Yg (i*j,j)) (((h.mono u).mono v).mono (bK.le_trans p C)) (ak.range (g F) (n*j))with e|⟨y,G,e,o,k⟩;{simp only[e];exact ab.stuck};simp only[e,o];exact ab.bind (ab.newRow k) λ_ _ _ _ q=>ab.pure (.slice _ _ q)|_=>exact ab.stuck
theorem zH:ab P c r (Instr.makeMap t Yq) (Instr.makeMap t Yq) (ai c):=ab.bind (ab.newObj (.map 0 rfl λi e b h=>by simp at h)) λ_ _ _ _ h=>ab.pure (.map h.1)
theorem ab.mY{f:α->YN β}{y:YN γ}{Q:bK->β->γ->Prop}:ab P c r (Go.runtimePanic e>>=f) y Q:=ab.never (gf (dB e))
theorem uY(C:∀e,P.underlying t=Yg (.slice e)->jo P e=Yk)(h:ai c r x x')(k:ai c r y y'):ab P c r (Instr.makeSlice t x y) (Instr.makeSlice t x' y') (ai c):=by unfold Instr.makeSlice;refine ab.bind (ab.eP (aW t)) λN d s o m=>?_;obtain⟨rfl,m⟩:=m;cases s with|slice j=>refine ab.bind (ab.asInt (h.mono o)) λO a E u l=>?_;subst l;refine ab.bind (ab.asInt ((k.mono o).mono u)) λR b F G w=>?_;subst w;refine ab.bind (ab.cF (dm j)) λS i L H A=>?_;subst A;simp only[];refine ab.ite (λ_=>?_) λ_=>?_;{refine ab.ite (λ_=>ab.mY) λ_=>?_;refine ab.ite (λ_=>ab.mY) λ_=>?_;exact ab.bind (ab.cF (iu _)) λ_ _ _ _ _=>ab.mY};refine ab.bind (ab.cF (pO _)) λT _ _ I _=>?_;refine ab.bind (ab.cF (bh j)) λU n M J B=>?_;subst B;refine ab.ite (λ_=>?_) λ_=>?_;{refine ab.bind (Q:=λ_ a b=>b=a/\∀r,ak c r a a) (ab.pure ⟨rfl,λ_=>.empty⟩) λp z q v g=>?_;obtain⟨rfl,g⟩:=g;exact ab.bind (ab.newRow (ak.range (g p) _)) λ_ _ _ _ l=>ab.pure (.slice _ _ l)};refine ab.bind (ab.zero (C _ m)) λp z q v g=>?_;obtain⟨rfl,g⟩:=g;refine ab.bind (Q:=λ_ a b=>b=a/\∀r,ak c r a a) (ab.pure ⟨rfl,λr=>g.vs c r⟩) λD z q K g=>?_;obtain⟨rfl,g⟩:=g;exact ab.bind (ab.newRow (ak.range (g D) _)) λ_ _ _ _ l=>ab.pure (.slice _ _ l)|_=>exact ab.stuck
end
section
variable{c:eh}{r:bK}
theorem My(ats:Array Yz)(t:Yz){x x':Array Yl}(h:ak c r x x'):ab P c r (YM.len_ ats t x) (YM.len_ ats t x') (ai c):=by unfold YM.len_;cases ats[0]? with|none=>exact ab.stuck|some s=>cases w:x[0]? with|none=>exact ab.stuck|some v=>obtain⟨D,e,k⟩:=h.get w;simp only[e];refine ab.bind (ab.cF (aC s)) λB d g i j=>?_;subst j;have k:=k.mono i;cases g with|string=>(cases k<;>first|exact ab.pure (.int _ _)|exact ab.stuck)|array n e=>exact ab.pure (.int _ _)|pointer f=>refine ab.bind (ab.cF (aC f)) λC u y z q=>?_;subst q;(cases y<;>first|exact ab.pure (.int _ _)|exact ab.stuck)|slice e=>(cases k<;>first|exact ab.pure (.int _ _)|exact ab.stuck)|map a b=>(cases k with|j9=>exact ab.pure (.int _ _)|map p=>refine ab.getObj p λo A _ m l=>?_;(cases m with|map k s _=>simp only[s];exact ab.pure (.int _ _)|cells _ _ _=>exact absurd rfl (l _ _ _)|_=>exact ab.stuck)|_=>exact ab.stuck)|chan a b=>cases k<;>exact ab.stuck|_=>exact ab.stuck
theorem ab.max2(h:ai c r x x')(k:ai c r y y'):ab P c r (YM.max2 x y) (YM.max2 x' y') (ai c):=by cases h with|int a b=>(cases k<;>first|exact ab.pure (.int _ _)|exact ab.stuck|exact ab.unsupported)|string a=>(cases k with|string b=>refine ab.bind (ab.flat (j8 .geq a b)) λi u l f d=>?_;exact ab.bind (ab.asBool d) λj z m g e=>by subst e;exact ab.pure (.string _)|ptr _=>exact ab.unsupported|_=>exact ab.stuck)|ptr _=>exact ab.unsupported|_=>cases k<;>first|exact ab.stuck|exact ab.unsupported
theorem ab.min2(h:ai c r x x')(k:ai c r y y'):ab P c r (YM.min2 x y) (YM.min2 x' y') (ai c):=by cases h with|int a b=>(cases k<;>first|exact ab.pure (.int _ _)|exact ab.stuck|exact ab.unsupported)|string a=>(cases k with|string b=>refine ab.bind (ab.flat (j8 .leq a b)) λi u l f d=>?_;exact ab.bind (ab.asBool d) λj z m g e=>by subst e;exact ab.pure (.string _)|ptr _=>exact ab.unsupported|_=>exact ab.stuck)|ptr _=>exact ab.unsupported|_=>cases k<;>first|exact ab.stuck|exact ab.unsupported
theorem ab.foldlM{f:Yl->Yl->YN Yl}(g:∀{r:bK}{x x' y y':Yl},ai c r x x'->ai c r y y'->ab P c r (f x y) (f x' y') (ai c)):∀(l e:List Yl){r:bK}{x x':Yl},ai c r x x'->ak c r l.toArray e.toArray->ab P c r (l.foldlM f x) (e.foldlM f x') (ai c)|[],[],r,x,x',h,_=>ab.pure h|[],_::_,r,x,x',h,d=>by have:=d.size;grind|_::_,[],r,x,x',h,d=>by have:=d.size;grind|y::l,y'::e,r,x,x',h,d=>by rw[Ya,Ya];refine ab.bind (g h (d.el 0 y y' Θ Θ)) λn z o i k=>?_;exact ab.foldlM g l e k ((⟨by have:=d.size;simp_all,λj u m a b=>d.el (j+1) u m (by grind) (by grind)⟩:ak c r l.toArray e.toArray).mono i)
theorem J8(ats:Array Yz)(t:Yz){x x':Array Yl}(h:ak c r x x'):ab P c r (YM.max_ ats t x) (YM.max_ ats t x') (ai c):=by obtain⟨l⟩:=x;obtain⟨d⟩:=x';unfold YM.max_;match l,d,h with|[],[],_=>exact ab.stuck|[],_::_,h=>have:=h.size;grind|_::_,[],h=>have:=h.size;grind|y::l,f::d,h=>exact ab.foldlM ab.max2 l d (h.el 0 y f Θ Θ) ⟨by have:=h.size;simp_all,λj u e a b=>h.el (j+1) u e (by grind) (by grind)⟩
theorem MB(ats:Array Yz)(t:Yz){x x':Array Yl}(h:ak c r x x'):ab P c r (YM.min_ ats t x) (YM.min_ ats t x') (ai c):=by obtain⟨l⟩:=x;obtain⟨d⟩:=x';unfold YM.min_;match l,d,h with|[],[],_=>exact ab.stuck|[],_::_,h=>have:=h.size;grind|_::_,[],h=>have:=h.size;grind|y::l,f::d,h=>exact ab.foldlM ab.min2 l d (h.el 0 y f Θ Θ) ⟨by have:=h.size;simp_all,λj u e a b=>h.el (j+1) u e (by grind) (by grind)⟩
theorem ab.lenOf(h:ai c r x x'):ab P c r (YM.lenOf x) (YM.lenOf x') λ_ a b=>b=a/\∀q,x=.slice (Yg q) 0 0->a=0:=by cases h<;>first|exact ab.pure ⟨rfl,λq e=>by cases e;rfl⟩|exact ab.pure ⟨rfl,λq e=>by cases e⟩|exact ab.stuck
theorem ab.vy(size:Nat)(h:ai c r x x'):ab P c r (YM.firstCells size 0 x) (YM.firstCells size 0 x') λ_ a b=>a=#[]/\b=#[]:=by unfold YM.firstCells;rw[Nat.zero_mul];cases h<;>first|exact ab.pure ⟨rfl,rfl⟩|exact ab.stuck|(refine ab.pure ⟨?_,?_⟩<;>simp)
theorem ab.firstCells(size n:Nat)(h:ai c r x x')(j:∀q,x=.slice (Yg q) 0 0->n=0):ab P c r (YM.firstCells size n x) (YM.firstCells size n x') (ak c):=by cases h with|gX _ _=>exact ab.pure .empty|cU a d=>obtain rfl:=j a rfl;exact(ab.vy size (.cU a d)).mono λ_ x y _⟨e,f⟩=>by rw[e,f];exact .empty|slice _ _ g=>exact ab.loadCells g _|string s=>refine ab.pure ?_;refine⟨rfl,λi v k a b=>?_⟩;rw[a]at b;cases b;rw[WM]at a;obtain⟨z,_,rfl⟩:=VB.1 a;exact .int _ _|_=>exact ab.stuck
theorem ak.zeroCells(h:Flat z)(n:Nat):ak c r (YM.zeroCells z.cells n) (YM.zeroCells z.cells n):=by unfold YM.zeroCells;exact ak.range (h.vs c r) _
end
section
variable{c:eh}{r:bK}
theorem ab.Jv{x:YN α}{f:α->YN β}{y:YN γ}{Q:bK->β->γ->Prop}(h:ki P x):ab P c r (x>>=f) y Q:=ab.never (gf h)
theorem lK(a:YT)(n:Nat):fY P (YM.holdsCells a n):=(A9 _).bind λs=>by cases s<;>exact dn _
theorem uX(size sl n:Nat)(base:Option YT)(x:Yl):fY P (YM.mayShare size sl n base x):=by(have d:∀b:Bool,fY P (if(!b)=Yk then Pure.pure Yk else match x with|.slice (Yg b) _ _=>(do Pure.pure (!(<-YM.holdsCells b (n*size))||base.any (·.block==b.block)))|_=>Pure.pure Yd):=λb=>by split;{exact dn _};split;{exact(lK _ _).bind λ_=>dn _};exact dn _);unfold YM.mayShare;cases base with|none=>grind|some a=>exact fY.bind (lK _ _) λu=>fY.bind (AQ _) λv=>fY.bind (dn _) λb=>d b
theorem B9{ats:Array Yz}(ht:∀s e,ats[0]?=Yg s->P.underlying s=Yg (.slice e)->jo P e=Yk)(hn:∀s k,ats[1]?=Yg s->P.underlying s≠Yg (.int k)){x x':Array Yl}(h:ak c r x x'):ab P c r (YM.append_ ats t x) (YM.append_ ats t x') (ai c):=by unfold YM.append_;cases hs:ats[0]? with|none=>exact ab.stuck|some s=>cases hx:x[0]? with|none=>exact ab.stuck|some v=>obtain⟨v',X,kv⟩:=h.get hx;simp only[X];cases hy:x[1]? with|none=>exact ab.stuck|some u=>obtain⟨u',W,A⟩:=h.get hy;simp only[W];refine ab.bind (ab.eP (aW s)) λR d M l H=>?_;obtain⟨rfl,H⟩:=H;cases M with|slice f=>have hz:=ht s f hs H;have O:=kv.mono l;have kx:=O;cases O;(case gX|slice|cU=>refine ab.bind (ab.cF (bh f)) λr2 T K B e=>?_;subst e;cases Z:ats[1]?;(case' some xt=>refine ab.bind (ab.eP (aW xt)) λr0 d M Y w=>?_;obtain⟨rfl,w⟩:=w;replace B:=bK.le_trans B Y);all_goals refine ab.bind (Q:=λ_ a b=>b=a/\a=Yd) (ab.pure ⟨rfl,by first|rfl|grind⟩) λr3 zs zs' N e=>?_;obtain⟨rfl,rfl⟩:=e;refine ab.bind (ab.lenOf ((A.mono l).mono (bK.le_trans B N))) λr4 n n' h4 e=>?_;obtain⟨rfl,E⟩:=e;have j:R.le r4:=bK.le_trans (bK.le_trans B N) h4;refine ab.ite (λI=>?_) λ_=>?_;{first|exact ab.bind (ab.firstCells _ _ ((A.mono l).mono j) E) λJ z V m g=>ab.pure (.gX _ _)|exact ab.bind (ab.firstCells _ _ ((A.mono l).mono j) E) λJ z V m g=>ab.bind (ab.storeCells 0 ((dh.mono (bK.le_trans j m) (by assumption)).add _) (by omega)) λS _ _ C _=>ab.pure (.slice _ _ (dh.mono (bK.le_trans j (bK.le_trans m C)) (by assumption)))|(obtain rfl:n'=0:=by omega);refine ab.bind (ab.vy _ ((A.mono l).mono j)) λJ z V m g=>?_;obtain⟨rfl,rfl⟩:=g;exact ab.bind (Q:=λ_ _ _=>True) (ab.pure trivial) λS _ _ C _=>ab.pure (.cU _ _)};·refine ab.bind (ab.cF (dm f)) λJ i i' m e=>?_;subst e;refine ab.ite (λ_=>ab.mY) λ_=>?_;refine ab.bind (ab.cF (dm f)) λS i2 i2' C e=>?_;subst e;refine ab.ite (λ_=>ab.Jv (by simp only[V4,if_false];exact dz (uX _ _ _ _ _) λ_=>by split<;>first|exact eK|exact dz (λ_ _ _ e=>by cases e) λ_=>eK)) λ_=>?_;refine ab.bind (ab.cF (iu _)) λr7 nc nc' h7 e=>?_;subst e;refine ab.bind (ab.cF (dm f)) λr8 i3 i3' h8 e=>?_;subst e;refine ab.bind (ab.cF (pO _)) λr9 _ _ h9 _=>?_;have y:R.le r9:=bK.le_trans j (bK.le_trans m (bK.le_trans C (bK.le_trans h7 (bK.le_trans h8 h9))));refine ab.bind (ab.firstCells _ _ (kx.mono y) (λq e=>by first|rfl|(cases e;done)|grind)) λr10 o o' F ho=>?_;refine ab.bind (ab.firstCells _ _ ((A.mono l).mono (bK.le_trans y F)) E) λr11 q q' G hq=>?_;refine ab.bind (ab.zero hz) λr12 zz zz' p g=>?_;obtain⟨rfl,g⟩:=g;exact ab.bind (ab.newRow ((((ho.mono G).mono p).append (hq.mono p)).append (ak.zeroCells g _))) λ_ _ _ _ ha=>ab.pure (.slice _ _ ha));all_goals exact ab.stuck|_=>exact ab.stuck
theorem ab.checkKey(b g:Bool)(f:e9 P t=Yk)(n:Nat):ab P c r (Instr.checkKey b (n+1) t x) (Instr.checkKey g (n+1) t x') λ_ _ _=>True:=by refine ab.bind (ab.eP (aW t)) λj d h i e=>?_;obtain⟨rfl,e⟩:=e;unfold e9 at f;rw[e]at f;cases h with|int k=>exact ab.pure trivial|string=>exact ab.pure trivial|bool=>exact ab.pure trivial|_=>simp at f
theorem zn(d:TypeDesc)(h:ai c r x x')(k:ai c r y y'):Instr.sameNow d x' y'=Instr.sameNow d x y:=by cases h<;>cases k<;>first|rfl|(cases d<;>rfl)
def lM(c:eh)(r:bK)(x x':Array Y2):Prop:=x.size=x'.size/\∀(i:Nat)(e e':Y2),x[i]?=Yg e->x'[i]?=Yg e'->Ji c r e e'
theorem lM.mono{r r':bK}(h:r.le r'){x x':Array Y2}(k:lM c r x x'):lM c r' x x':=⟨k.1,λi e d a b=>(k.2 i e d a b).mono h⟩
def J'(c:eh)(r:bK):Option (Nat×Yl)->Option (Nat×Yl)->Prop
 |none,Yq=>True
 |some (i,v),Yg (i',v')=>i'=i/\ai c r v v'
 |_,_=>False
theorem ri(d:TypeDesc)(h:ai c r x x'):∀(l m:List Y2)(i:Nat),lM c r l.toArray m.toArray->
 match Instr.findNow d x l i with|some z=>∃p,Instr.findNow d x' m i=Yg p/\J' c r z p|none=>Instr.findNow d x' m i=Yq
 |[],[],i,_=>⟨Yq,rfl,trivial⟩
 |[],_::_,_,k=>by have:=k.1;grind
 |_::_,[],_,k=>by have:=k.1;grind
 |e::l,q::m,i,k=>by
   have o:=k.2 0 e q Θ Θ
   have n:lM c r l.toArray m.toArray:=⟨by have:=k.1;simp_all,λj u s a b=>k.2 (j+1) u s (by grind) (by grind)⟩
   unfold Instr.findNow
   rw[zn d h o.key]
   cases Instr.sameNow d x e.key with
   |none=>rfl
   |some b=>
     cases b with
     |true=>exact⟨_,rfl,rfl,o.val⟩
     |false=>exact ri d h l m (i+1) n
theorem ab.findAsking(n:Fits P c)(p:e9 P t=Yk):∀(l g:List Y2)(i:Nat){r:bK}{x x':Yl},ai c r x x'->lM c r l.toArray g.toArray->ab P c r (Instr.findAsking t x l i) (Instr.findAsking t x' g i) (J' c)|[],[],i,r,x,x',h,_=>ab.pure trivial|[],_::_,_,r,x,x',h,f=>by have:=f.1;grind|_::_,[],_,r,x,x',h,f=>by have:=f.1;grind|e::l,q::g,i,r,x,x',h,f=>by have o:=f.2 0 e q Θ Θ;have m:lM c r l.toArray g.toArray:=⟨by have:=f.1;simp_all,λj u v a b=>f.2 (j+1) u v (by grind) (by grind)⟩;refine ab.bind (ab.equal n p h o.key) λy b w k s=>?_;subst s;exact ab.ite (λ_=>ab.pure ⟨rfl,o.val.mono k⟩) λ_=>ab.findAsking n p l g (i+1) (h.mono k) (m.mono k)
theorem ab.findKey(j:Fits P c)(n:e9 P t=Yk){l l':List Y2}(h:ai c r x x')(g:lM c r l.toArray l'.toArray):ab P c r (Instr.findKey t x l) (Instr.findKey t x' l') (J' c):=by refine ab.bind (ab.cF (aC t)) λo d f b m=>?_;subst m;have:=ri f (h.mono b) l l' 0 (g.mono b);cases e:Instr.findNow f x l 0 with|none=>rw[e]at this;simp only[this];exact ab.findAsking j n l l' 0 (h.mono b) (g.mono b)|some z=>rw[e]at this;obtain⟨p,i,k⟩:=this;simp only[i];exact ab.pure k
theorem Bp{ok:Bool}(O:Fits P c)(Z:∀k e,P.underlying t=Yg (.map k e)->e9 P k=Yk/\jo P e=Yk)(h:ai c r x x')(k:ai c r y y'):ab P c r (Instr.lookup t x y ok) (Instr.lookup t x' y' ok) (ai c):=by refine ab.bind (ab.eP (aW t)) λr1 d S F I=>?_;obtain⟨rfl,I⟩:=I;cases S with|map J q=>obtain⟨C,R⟩:=Z J q I;let B(A:bK)(a b:Yl×Bool):Prop:=ai c A a.1 b.1/\b.2=a.2;(cases h.mono F with|j9=>refine ab.bind (Q:=λA a b=>lM c A a b) (ab.pure ⟨rfl,λi e e' a=>by simp at a⟩) λr2 T E G m=>?_;refine ab.bind (ab.checkKey _ _ C 9999) λr3 _ _ w _=>?_;refine ab.bind (ab.findKey O C (k.mono (bK.le_trans F (bK.le_trans G w))) (by simpa using m.mono w)) λr4 z N U p=>?_;(match z,N,p with|none,Yq,_=>refine ab.bind (ab.zero R) λK u u' V n=>?_;obtain⟨rfl,n⟩:=n;refine ab.bind (Q:=B) (ab.pure ⟨n c K,rfl⟩) λL a b H g=>?_;obtain⟨v,o⟩:=a;obtain⟨j,f⟩:=g;subst f;refine ab.pure ?_;split;{exact .km (ak.push (ak.single j) (.bool _))};{exact j}|some (_,_),Yg (_,_),p=>refine ab.bind (Q:=B) (ab.pure ⟨p.2,rfl⟩) λL a b H g=>?_;obtain⟨v,o⟩:=a;obtain⟨j,f⟩:=g;subst f;refine ab.pure ?_;split;{exact .km (ak.push (ak.single j) (.bool _))};·exact j)|map Y=>refine ab.getObj Y λo D _ X W=>?_;(cases X with|map kk s e=>refine ab.bind (Q:=λA a b=>lM c A a b) (ab.pure ⟨s,e⟩) λr2 T E G m=>?_;refine ab.bind (ab.checkKey _ _ C 9999) λr3 _ _ w _=>?_;refine ab.bind (ab.findKey O C (k.mono (bK.le_trans F (bK.le_trans G w))) (by simpa using m.mono w)) λr4 z N U p=>?_;(match z,N,p with|none,Yq,_=>refine ab.bind (ab.zero R) λK u u' V n=>?_;obtain⟨rfl,n⟩:=n;refine ab.bind (Q:=B) (ab.pure ⟨n c K,rfl⟩) λL a b H g=>?_;obtain⟨v,o⟩:=a;obtain⟨j,f⟩:=g;subst f;refine ab.pure ?_;split;{exact .km (ak.push (ak.single j) (.bool _))};{exact j}|some (_,_),Yg (_,_),p=>refine ab.bind (Q:=B) (ab.pure ⟨p.2,rfl⟩) λL a b H g=>?_;obtain⟨v,o⟩:=a;obtain⟨j,f⟩:=g;subst f;refine ab.pure ?_;split;{exact .km (ak.push (ak.single j) (.bool _))};·exact j)|cells _ _ _=>exact absurd rfl (W _ _ _)|_=>exactλ_ _ _=>rfl)|_=>exactλ_ _ _=>rfl)|_=>exact ab.stuck
end
section
variable{c:eh}{r:bK}
def Nb:Yl->Bool
 |.string _|.bool _=>Yk
 |_=>Yd
def Br(P:YC)(t:Yz):Bool:=match P.underlying t with|some .string|some .bool=>Yk|_=>Yd
theorem Cg(h:Br P t=Yk):e9 P t=Yk:=by unfold Br at h;unfold e9;grind
theorem xa(n:Nat)(h:ai c r x x')(k:ai c r y y')(b:Nb y=Yk):Instr.sameBits n x' y'=Instr.sameBits n x y:=by cases k<;>simp[Nb]at b<;>cases h<;>cases n<;>rfl
theorem ab.Jk(b:Br P t=Yk)(i:Nb x=Yd)(l h:List Y2)(k:lM c r l.toArray h.toArray):ab P c r (Instr.findKey t x l) (Instr.findKey t x' h) λ_ u n=>u=Yq/\n=Yq:=by unfold Br at b;cases g:P.underlying t with|none=>rw[g]at b;simp at b|some d=>rw[g]at b;unfold Instr.findKey;refine ab.bind (ab.eP (aW t)) λq o j p f=>?_;obtain⟨rfl,f⟩:=f;rw[g]at f;cases f;cases l with|nil=>(have:h=[]:=by have:=k.1;grind);subst this;exact ab.pure ⟨rfl,rfl⟩|cons e l=>(have m:Instr.findNow d x (e::l) 0=Yq:=by(have:Instr.sameNow d x e.key=Yq:=by cases d<;>simp at b<;>cases x<;>simp[Nb]at i<;>rfl);simp[Instr.findNow,this]);simp only[m];refine ab.never ?_;unfold Instr.findAsking;refine gf ?_;show ki P (Op.equalIn (9999+1) t x e.key);unfold Op.equalIn;intro w;rw[YN.run_bind,jN g w];cases d<;>simp at b<;>cases x<;>simp[Nb]at i<;>exact⟨_,_,rfl,rfl⟩
theorem uQ(hc:Fits P c)(ht:∀k e,P.underlying t=Yg (.map k e)->Br P k=Yk){z':Yl}(h:ai c r x x')(k:ai c r y y')(l:ai c r z z'):ab P c r (Instr.mapUpdate t x y z) (Instr.mapUpdate t x' y' z') λ_ _ _=>True:=by unfold Instr.mapUpdate;refine ab.bind (ab.eP (aW t)) λr1 d d' R S=>?_;obtain⟨rfl,S⟩:=S;cases d' with|map A E=>have G:=ht A E S;have hk:=Cg G;(cases h.mono R with|j9=>exact ab.runtimePanic|map I=>refine ab.getObj I λo o' ns ho X=>?_;(cases ho with|map kk s e=>rename_i F m;have g:lM c r1 F m:=⟨s,e⟩;refine ab.bind (ab.checkKey _ _ hk 9999) λr2 _ _ C _=>?_;have B:=(k.mono R).mono C;(have w:ab P c r2 (Instr.findKey A y F.toList) (Instr.findKey A y' m.toList) λZ u M=>J' c Z u M/\(Nb y=Yd->u=Yq):=by by_cases hy:Nb y=Yd;{refine(ab.Jk G hy _ _ (by simpa using g.mono C)).mono λZ u M _ h=>?_;obtain⟨rfl,rfl⟩:=h;exact⟨trivial,λ_=>rfl⟩};exact(ab.findKey hc hk B (by simpa using g.mono C)).mono λZ u M _ h=>⟨h,λe=>absurd e hy⟩);refine ab.bind w λr3 u M N J=>?_;obtain⟨J,K⟩:=J;have B:=B.mono N;have lr:=((l.mono R).mono C).mono N;have g:=(g.mono C).mono N;have I:=N _ _ (C _ _ I);(match u,M,J,K with|none,Yq,_,_=>refine ab.setObj I ns (.map (kk+1) (by grind) λi e O a b=>?_) rfl;rw[VY]at a b;rw[<-g.1]at b;split at a;{cases a;rw[if_pos ‹_›]at b;cases b;exact⟨B,lr,rfl⟩};{rw[if_neg ‹_›]at b;exact g.2 i e O a b}|some (i,_),Yg (v,_),J,K=>(have Y:Nb y=Yk:=by simp_all);obtain⟨W,_⟩:=J;subst W;(have p:ai c r3 (((F[v]?).map (·.key)).getD y) (((m[v]?).map (·.key)).getD y'):=by cases V:F[v]? with|none=>simp_all|some Q=>(have H:v<m.size:=by grind);have:=g.2 v Q m[v] V (VD H);rw[VD H];exact this.key);(have L:ab P c r3 (Instr.keyThatStays (((F[v]?).map (·.key)).getD y) y) (Instr.keyThatStays (((m[v]?).map (·.key)).getD y') y') (ai c):=by unfold Instr.keyThatStays;rw[xa 10000 p B Y];refine ab.ite (λ_=>ab.pure B) λ_=>?_;refine ab.bind (ab.cF (iu _)) λr4 n n' D X=>?_;subst X;refine ab.pure ?_;split;{exact B.mono D};exact p.mono D);refine ab.bind L λr4 q q' D hq=>?_;refine ab.setObj (D _ _ I) ns (.map kk (by grind) λj e O a b=>?_) rfl;rw[Ws]at a b;split at a;{rw[if_pos ‹_›]at b;obtain⟨Q,T,rfl⟩:=VB.1 a;obtain⟨e1,U,rfl⟩:=VB.1 b;exact⟨hq,lr.mono D,((g.2 j Q e1 T U).born)⟩};·rw[if_neg ‹_›]at b;exact(g.2 j e O a b).mono D)|cells _ _ _=>exact absurd rfl (X _ _ _)|_=>exactλ_ _ _=>rfl)|_=>exact ab.stuck)|_=>exact ab.stuck
theorem D3(k:P.underlying t=Yg .string)(h:ai c r x x'):ab P c r (Instr.range t x) (Instr.range t x') (ai c):=by unfold Instr.range;refine ab.bind (ab.eP (aW t)) λv d n i f=>?_;obtain⟨rfl,f⟩:=f;rw[k]at f;cases f;cases h.mono i with|string s=>exact ab.bind (Q:=λl a b=>mj c l a b) (ab.pure (.iter s 0)) λw o u p j=>ab.bind (ab.newObj j) λy b m q g=>ab.pure (.ptr ⟨g.1,rfl,rfl,Wj g.2⟩)|_=>exactλ_ _ _=>rfl
theorem Ht(h:ai c r x x'):ab P c r (Instr.next x Yk t) (Instr.next x' Yk t) (ai c):=by unfold Instr.next;cases h with|ptr m=>rename_i a l;obtain⟨b,v,k⟩:=a;obtain⟨w,e,i⟩:=l;obtain⟨g,f,j,-⟩:=m;simp only at g f j;subst f j;(cases e with|succ n=>exact ab.stuck|zero=>refine ab.getObj g λo z u f q=>?_;cases f with|iter s p=>refine ab.ite (λ_=>?_) λ_=>ab.pure (.km (ak.single (.bool _)));refine ab.bind (ab.setObj g u (.iter s _) rfl) λA _ _ y _=>ab.pure (.km ?_);exact((ak.single (.bool _)).push (.int _ _)).push (.int _ _)|cells _ _ _=>exact absurd rfl (q _ _ _)|_=>exact ab.stuck)|_=>exact ab.stuck
theorem pG:∀(l l':List Yl){r:bK},l.length=l'.length->(∀(i:Nat)(v v':Yl),l[i]?=Yg v->l'[i]?=Yg v'->ai c r v v')->∀s:ByteArray,ab P c r (forIn l s λc r=>(match c with|.int .u8 n=>Pure.pure (ForInStep.yield (r.push (UInt8.ofNat n.toNat)))|_=>(λ_:PUnit=>ForInStep.yield r)<$>stuck "bytesToString: byte expected" :YN (ForInStep ByteArray))) (forIn l' s λc r=>(match c with|.int .u8 n=>Pure.pure (ForInStep.yield (r.push (UInt8.ofNat n.toNat)))|_=>(λ_:PUnit=>ForInStep.yield r)<$>stuck "bytesToString: byte expected" :YN (ForInStep ByteArray))) λ_ x y=>x=y|[],[],_,_,_,s=>by rw[List.forIn_nil];exact ab.pure rfl|[],_::_,_,h,_,_=>by cases h|_::_,[],_,h,_,_=>by cases h|v::l,v'::l',r,h,hv,s=>by rw[List.forIn_cons,List.forIn_cons];have h0:ai c r v v':=hv 0 v v' rfl rfl;have hl:∀(i:Nat)(u u':Yl),l[i]?=Yg u->l'[i]?=Yg u'->ai c r u u':=λi u u' a b=>hv (i+1) u u' a b;refine ab.bind (Q:=λ_(x y:ForInStep ByteArray)=>x=y/\∃z,x=.yield z) ?_ λr1 x y hle e=>?_;{cases h0 with|int k n=>(cases k<;>first|exact ab.pure ⟨rfl,_,rfl⟩|exactλ_ _ _=>rfl)|_=>exactλ_ _ _=>rfl};obtain⟨rfl,z,rfl⟩:=e;exact pG l l' (by simpa using h) (λi u u' a b=>(hl i u u' a b).mono hle) z
theorem pR(h:ai c r x x'):ab P c r (Conv.bytesToString x) (Conv.bytesToString x') (ai c):=by(have key:∀{a a':YT}{n:Nat}{r:bK},ab P c r (Go.loadCells a n) (Go.loadCells a' n) (ak c)->ab P c r (Conv.bytesToString (.slice (Yg a) n 0)) (Conv.bytesToString (.slice (Yg a') n 0)) (ai c):=λ{a a' n r}h=>by unfold Conv.bytesToString;refine ab.bind h λr1 y y' hle hy=>?_;(refine ab.bind (Q:=λ_ x y=>x=y) ?_ λr2 z z' _ e=>by subst e;exact ab.pure (.string _));have:=pG (P:=P) (c:=c) y.toList y'.toList (r:=r1) (by simpa using hy.size) (λi u u' a b=>hy.el i u u' (by simpa using a) (by simpa using b)) ByteArray.empty;simp only[Array.forIn_toList]at this;exact this);cases h with|gX n m=>exact ab.pure (.string _)|slice n m h=>exact key (ab.loadCells h n)|cU a a'=>exact key (n:=0) (ab.pure .empty)|_=>exact ab.stuck
def I3(P:YC)(s d:Yz):Bool:=match P.underlying s,P.underlying d with|some (.int _),Yg (.int _)|some (.int _),Yg .string|some .string,Yg .string=>Yk|some (.slice e),Yg .string=>(match P.underlying e with|some (.int .u8)=>Yk|_=>Yd)|_,_=>Yd
theorem Ek{e0:Yz}(h:P.underlying e0=Yg (.int .u8))(k:ai c r x x'):ab P c r (do match<-underlying e0 with|.int .u8=>Conv.bytesToString x|.int .i32=>Conv.runesToString x|_=>stuck "Convert: a slice of what to string?") (do match<-underlying e0 with|.int .u8=>Conv.bytesToString x'|.int .i32=>Conv.runesToString x'|_=>stuck "Convert: a slice of what to string?") (ai c):=by refine ab.bind (ab.eP (aW e0)) λo a i j e=>?_;obtain⟨rfl,e⟩:=e;rw[h]at e;cases e;exact pR (k.mono j)
theorem yg{s d:Yz}(h:I3 P s d=Yk)(k:ai c r x x'):ab P c r (convert s d x) (convert s d x') (ai c):=by unfold Go.convert;refine ab.bind (ab.eP (aW s)) λo a i j e=>?_;obtain⟨rfl,e⟩:=e;refine ab.bind (ab.eP (aW d)) λp b g l f=>?_;obtain⟨rfl,f⟩:=f;have k:=(k.mono j).mono l;unfold I3 at h;rw[e,f]at h;cases i with|int q=>(cases g with|int n=>(cases k<;>first|exact ab.pure (.int _ _)|exact ab.unsupported)|string=>(cases k<;>first|exact ab.pure (.string _)|exact ab.unsupported)|_=>simp at h)|string=>(cases g with|string=>(cases k<;>first|exact ab.pure (.string _)|exact ab.unsupported)|_=>simp at h)|slice e0=>(cases g with|string=>(have hb:P.underlying e0=Yg (.int .u8):=by simp only at h;split at h;{assumption};cases h);have gen:=λ{y y'}(k:ai c p y y')=>Ek (P:=P) hb k;(cases k with|int k n=>exact ab.pure (.string _)|string s=>exact ab.pure (.string _)|bool b=>exact gen (.bool b)|fT=>exact gen .fT|ptr h=>exact gen (.ptr h)|gX n m=>exact gen (.gX n m)|slice n m h=>exact gen (.slice n m h)|cU a a'=>exact gen (.cU a a')|j9=>exact gen .j9|map h=>exact gen (.map h)|func h1 h2 h3 h4 h5=>exact gen (.func h1 h2 h3 h4 h5)|nilFunc=>exact gen .nilFunc|nilIface=>exact gen .nilIface|iface t h=>exact gen (.iface t h)|agg h1 h2=>exact gen (.agg h1 h2)|tuple h1 h2=>exact gen (.tuple h1 h2))|_=>simp at h)|_=>simp at h
end
section
variable{c:eh}{r:bK}
def cg(c:eh)(gl:Nat->Bool):YI->Bool
 |.tmp _=>Yk
 |.const v=>jh 100 v
 |.global g=>gl g
 |.func f=>c.fns f
def zN(P:YC)(t:Yz):Bool:=match P.underlying t with|some (.slice e)=>jo P e|_=>Yk
def OX(P:YC)(t:Yz):Bool:=match P.underlying t with|some (.map k e)=>e9 P k&&jo P e|_=>Yk
def OQ(P:YC)(t:Yz):Bool:=match P.underlying t with|some (.map k _)=>Br P k|_=>Yk
def BK(P:YC)(s:Yz)(n:Nat):Bool:=match P.underlying s with|some (.struct fs)=>(match fs[n]? with|some f=>P.cellsOf f.type !=0|none=>Yk)|_=>Yk
def Da(P:YC)(t:Option Yz):Bool:=match t with|some s=>(match P.underlying s with|some (.int _)=>Yd|_=>Yk)|none=>Yk
def O7(P:YC)(t:Option Yz):Bool:=match t with|some s=>zN P s|none=>Yk
def isEq:BinOp->Bool
 |.eql|.neq=>Yk
 |_=>Yd
def FL(P:YC)(t:Yz):Bool:=match P.underlying t with|some .string=>Yk|_=>Yd
def A6(P:YC)(c:eh)(gl:Nat->Bool)(k:Call):Bool:=
 k.args.all (cg c gl)&&match k.callee with
 |.value f=>cg c gl f
 |.builtin .len|.builtin .max|.builtin .min=>Yk
 |.builtin .append=>O7 P k.argTypes[0]?&&Da P k.argTypes[1]?
 |_=>Yd
def G3(P:YC):YI->Bool
 |.global g=>decide (g<P.globals.size)
 |_=>Yd
def Bj(P:YC)(c:eh)(gl:Nat->Bool)(o:Y3):Bool:=
 match o.op with
 |.load _ x=>cg c gl x||G3 P x
 |.move x|.assign x|.box _ x|.nilCheck x|.unOp _ _ x|.field _ x _|.extract x _=>cg c gl x
 |.pick a b d=>cg c gl a&&cg c gl b&&cg c gl d
 |.alloc e=>jo P e
 |.build t ps=>jo P t&&ps.all λp=>cg c gl p.2
 |.buildSlice t _ ps=>zN P t&&ps.all λp=>cg c gl p.2
 |.store _ a x|.indexAddr _ a x|.index _ a x=>cg c gl a&&cg c gl x
 |.binOp op t x y _=>cg c gl x&&cg c gl y&&(!isEq op||e9 P t)
 |.convert s d x=>I3 P s d&&cg c gl x
 |.makeFunc fn first captured=>Ip c fn&&first.all (cg c gl)&&captured.all (cg c gl)
 |.makeMap _ Yq=>Yk
 |.makeSlice t l k=>zN P t&&cg c gl l&&cg c gl k
 |.slice _ x lo hi mx=>cg c gl x&&lo.all (cg c gl)&&hi.all (cg c gl)&&mx.all (cg c gl)
 |.fieldAddr s x n=>BK P s n&&cg c gl x
 |.lookup t x i _=>OX P t&&cg c gl x&&cg c gl i
 |.mapUpdate t m k v=>OQ P t&&cg c gl m&&cg c gl k&&cg c gl v
 |.range t x=>FL P t&&cg c gl x
 |.next it Yk=>cg c gl it
 |.call k=>A6 P c gl k
 |_=>Yd
inductive xO(c:eh)(r:bK):Next->Next->Prop
 |value{v v':Yl}:ai c r v v'->xO c r (.value v) (.value v')
 |skip:xO c r .skip .skip
 |enter{f:YD}{x x':Array Yl}:c.fns f=Yk->ak c r x x'->xO c r (.enter f x) (.enter f x')
def Dp(P:YC)(c:eh):Prop:=
 ∀(f:YD)(fn:Func),c.fns f=Yk->P.funcs[f]?=Yg fn->(fn.name== "runtime.NumGoroutine")=Yd/\(fn.body=Yq->Extern.findNext fn=Yq/\∃e,Extern.find fn=Yg e/\
   ∀(r:bK)(x x':Array Yl),ak c r x x'->ab P c r (e x) (e x') (ai c))
theorem ab.value{x:YN Yl}{y:YN Yl}(h:ab P c r x y (ai c)):ab P c r (do Pure.pure (Next.value (<-x))) (do Pure.pure (Next.value (<-y))) (xO c):=ab.bind h λ_ _ _ _ k=>ab.pure (.value k)
theorem ab.unit{x:YN Unit}{y:YN Unit}(h:ab P c r x y λ_ _ _=>True):ab P c r (do x;Pure.pure Next.skip) (do y;Pure.pure Next.skip) (xO c):=ab.bind h λ_ _ _ _ _=>ab.pure .skip
theorem ab.Ct(f:YD):ab P c r (mark (.extern f)) (mark (.extern f)) λ_ _ _=>True:=by intro w v b;refine⟨(),v,r,rfl,.refl b,trivial,λe a=>?_⟩;simp at a;subst a;exact .inr (.inr ⟨f,rfl⟩)
theorem xD(l:Dp P c)(i:c.fns f=Yk){x x':Array Yl}(h:ak c r x x'):ab P c r (callFunc f x) (callFunc f x') (xO c):=by refine ab.bind (ab.eP bQ) λw p u g m=>?_;obtain⟨rfl,rfl⟩:=m;cases a:u.funcs[f]? with|none=>exact ab.stuck|some d=>obtain⟨s,t⟩:=l f d i a;simp only[a,s,V4];cases k:d.body with|some b=>exact ab.pure (.enter i (h.mono g))|none=>obtain⟨n,e,o,q⟩:=t k;simp only[n,o];exact ab.bind (ab.Ct f) λv _ _ j _=>ab.value (q v x x' ((h.mono g).mono j))
theorem xc(a:∀x,cg c gl x=Yk->ai c r (ev x) (ev' x)){l:Array YI}(h:l.all (cg c gl)=Yk):ak c r (l.map ev) (l.map ev'):=ak.map l ev ev' λx b=>a x (by rw[Xx]at h;grind)
theorem wu(a:∀x,cg c gl x=Yk->ai c r (ev x) (ev' x)){l:Array (Nat×YI)}(h:(l.all λp=>cg c gl p.2)=Yk):Cv c r (l.map λ(i,x)=>(i,ev x)) (l.map λ(i,x)=>(i,ev' x)):=by refine⟨?_,?_⟩;{simp};(have e:∀g:YI->Yl,((l.map λp=>(p.1,g p.2)).toList.map (·.2)).toArray=l.map λp=>g p.2:=by grind);rw[e ev,e ev'];refine ak.map l _ _ λp b=>a p.2 ?_;rw[Xx]at h;grind
theorem xl(a:∀x,cg c gl x=Yk->ai c r (ev x) (ev' x)):∀{x:Option YI},x.all (cg c gl)=Yk->jX c r (x.map ev) (x.map ev')|none,_=>trivial|some x,h=>a x (by grind)
theorem wI(o:Y3)(y:YI)(ev ev':YI->Yl)(l:o.op=.nilCheck y)(e:ev y=x)(i:ev' y=x')(h:ai c r x x'):ab P c r (Yt ev o) (Yt ev' o) (xO c):=by unfold Yt;rw[l];simp only[e,i];cases h with|fT=>exact ab.runtimePanic|nilIface=>exact ab.runtimePanic|nilFunc=>exact ab.runtimePanic|bool b=>exact ab.pure (.value (.bool b))|int k n=>exact ab.pure (.value (.int k n))|string s=>exact ab.pure (.value (.string s))|ptr a=>exact ab.pure (.value (.ptr a))|gX n m=>exact ab.pure (.value (.gX n m))|slice n m a=>exact ab.pure (.value (.slice n m a))|cU a f=>exact ab.pure (.value (.cU a f))|j9=>exact ab.pure (.value .j9)|map a=>exact ab.pure (.value (.map a))|@func j z B u A d p q v w=>(cases j with|func g=>exact ab.pure (.value (.func d p q v w))|_=>simp[Ip]at d)|iface t a=>exact ab.pure (.value (.iface t a))|agg a b=>exact ab.pure (.value (.agg a b))|tuple a b=>exact ab.pure (.value (.tuple a b))
theorem mh(h:zN P t=Yk):∀e,P.underlying t=Yg (.slice e)->jo P e=Yk:=λe a=>by unfold zN at h;simp_all
theorem I6(h:OQ P t=Yk):∀k e,P.underlying t=Yg (.map k e)->Br P k=Yk:=λk e a=>by unfold OQ at h;simp_all
theorem H9(h:OX P t=Yk):∀k e,P.underlying t=Yg (.map k e)->e9 P k=Yk/\jo P e=Yk:=λk e a=>by unfold OX at h;simp_all
theorem uP(h:BK P t n=Yk):∀fs f,P.underlying t=Yg (.struct fs)->fs[n]?=Yg f->P.cellsOf f.type≠0:=λfs f a b=>by unfold BK at h;simp_all
theorem GF(N:Fits P c)(K:Dp P c){k:Call}(t:Yz)(i:A6 P c gl k=Yk)(B:∀x,cg c gl x=Yk->ai c r (ev x) (ev' x)):ab P c r (do let d<-resolve ev k t;invoke d.target d.args) (do let d<-resolve ev' k t;invoke d.target d.args) (xO c):=by unfold A6 at i;simp only[Vy]at i;obtain⟨I,i⟩:=i;have h:=xc B I;obtain⟨l,m,A⟩:=k;unfold resolve;cases l with|invoke x n=>simp at i|value f=>have E:=B f i;simp only[];generalize ev f=q at E;generalize ev' f=O at E;(cases E with|@func J z R u M a b d e g=>(cases J with|func j=>refine ab.bind (Q:=λG x y=>x.target=.fn (.func j) u/\y.target=.fn (.func j) M/\ak c G x.args y.args) (ab.pure ⟨rfl,rfl,(ak.mk b d).append h⟩) λL x y H p=>?_;obtain⟨C,D,v⟩:=p;rw[C,D];exact xD K (by assumption) (v.append ((ak.mk e g).mono H))|_=>simp[Ip]at a)|nilFunc=>exact ab.never (λw=>dB RuntimeError.nilDeref w)|_=>exactλ_ _ _=>rfl)|builtin b=>refine ab.bind (Q:=λG x y=>x.target=.builtin b A t (m.map λ|.const _=>Yk|_=>Yd)/\y.target=.builtin b A t (m.map λ|.const _=>Yk|_=>Yd)/\ak c G x.args y.args) (ab.pure ⟨rfl,rfl,h⟩) λL x y H p=>?_;obtain⟨C,D,v⟩:=p;rw[C,D];cases b with|len=>exact ab.value (My _ _ v)|max=>exact ab.value (J8 _ _ v)|min=>exact ab.value (MB _ _ v)|append=>simp only[Vy]at i;refine ab.value (B9 (λs e F o=>?_) (λs k F o=>?_) v);{have:=i.1;rw[F]at this;exact mh this e o};have:=i.2;rw[F]at this;simp[Da,o]at this|_=>simp at i
theorem Am(w:Fits P c)(H:Dp P c){o:Y3}(j:Bj P c gl o=Yk)(f:∀x,cg c gl x=Yk->ai c r (ev x) (ev' x))(z:∀g,ev (.global g)=ϖ g/\ev' (.global g)=ϖ g):ab P c r (Yt ev o) (Yt ev' o) (xO c):=by unfold Bj at j;obtain⟨E,D,O,K,A,guard⟩:=o;cases D with|move x=>exact ab.pure (.value (f x j))|assign x=>exact ab.pure (.value (f x j))|pick a b d=>simp only[Vy]at j;refine ab.bind (ab.asBool (f a j.1.1)) λM u V C I=>?_;subst I;refine ab.pure (.value ?_);split;{exact(f b j.1.2).mono C};exact(f d j.2).mono C|alloc e=>exact ab.value (BG j)|box e x=>exact ab.value (M8 e (f x j))|build t L=>simp only[Vy]at j;exact ab.value (Ew j.1 (wu f j.2))|buildSlice t n L=>simp only[Vy]at j;exact ab.value (tl (mh j.1) (wu f j.2))|load t a=>rcases Wt ..▸j with j|j;{exact ab.value (B4 t (f a j))};(cases a with|global g=>refine ab.value ?_;rw[(z g).1,(z g).2];exact ab.bind (Q:=λ_ a b=>a=⟨g,0,Yq⟩/\b=⟨g,0,Yq⟩) (ab.pure ⟨rfl,rfl⟩) λM a b C⟨F,G⟩=>by subst F G;exact ab.GL w (by rw[w.aI];simpa[G3]using j) t|_=>simp[G3]at j)|store t a x=>simp only[Vy]at j;exact ab.unit (Ac t (f a j.1) (f x j.2))|nilCheck x=>exact wI _ x ev ev' rfl rfl rfl (f x j)|binOp D t x y u=>simp only[Vy,Wt,Bool.not_eq_true']at j;exact ab.value (ED w (λe=>by rcases j.2 with h|h;{rcases e with rfl|rfl<;>simp[isEq]at h};exact h) (f x j.1.1) (f y j.1.2))|unOp D t x=>exact ab.value (Ei (f x j))|convert s d x=>simp only[Vy]at j;exact ab.value (yg j.1 (f x j.2))|makeFunc R B q=>simp only[Vy]at j;exact ab.value (xh j.1.1 (xc f j.1.2) (xc f j.2))|makeMap t N=>(cases N with|none=>exact ab.value zH|some _=>simp at j)|makeSlice t l k=>simp only[Vy]at j;exact ab.value (uY (mh j.1.1) (f l j.1.2) (f k j.2))|slice t x T S U=>simp only[Vy]at j;exact ab.value (zK t (f x j.1.1.1) (xl f j.1.1.2) (xl f j.1.2) (xl f j.2))|fieldAddr s x n=>simp only[Vy]at j;exact ab.value (za s n (uP j.1) (f x j.2))|field t x n=>exact ab.value (EB t n (f x j))|indexAddr t x i=>simp only[Vy]at j;exact ab.value (zp t (f x j.1) (f i j.2))|index t x i=>simp only[Vy]at j;exact ab.value (EW t (f x j.1) (f i j.2))|lookup t x i b=>simp only[Vy]at j;exact ab.value (Bp w (H9 j.1.1) (f x j.1.2) (f i j.2))|mapUpdate t m k v=>simp only[Vy]at j;exact ab.unit (uQ w (I6 j.1.1.1) (f m j.1.1.2) (f k j.1.2) (f v j.2))|range t x=>simp only[Vy]at j;refine ab.value (D3 ?_ (f x j.2));have:=j.1;unfold FL at this;grind|next J b=>(cases b with|true=>exact ab.value (Ht (f J j))|false=>simp at j)|extract x n=>exact ab.value (AG n (f x j))|call k=>exact GF w H O j f|_=>simp at j
end
section
variable{c:eh}{r:bK}
def codeOk(P:YC)(c:eh)(gl:Nat->Bool):YZ->Bool
 |.skip|.exit _|.label _|.ret|.refuse _=>Yk
 |.region _ ops _=>ops.all (Bj P c gl)
 |.seq a b=>codeOk P c gl a&&codeOk P c gl b
 |.cond x a b=>cg c gl x&&codeOk P c gl a&&codeOk P c gl b
 |.block _ a|.loop a|.scope a=>codeOk P c gl a
 |_=>Yd
def opAt(P:YC)(c:eh)(gl:Nat->Bool)(ops:Array Y3)(i:Nat):Bool:=match ops[i]? with|some o=>Bj P c gl o|none=>Yk
theorem H3{c:eh}(h:ops.all (Bj P c gl)=Yk)(l:List Nat):l.all (opAt P c gl ops)=Yk:=by rw[VS];intro i _;unfold opAt;grind
theorem wq{c:eh}{o:Y3}(h:(i::rest).all (opAt P c gl ops)=Yk)(a:ops[i]?=Yg o):Bj P c gl o=Yk:=by simp only[WB,Vy]at h;have:=h.1;unfold opAt at this;simp_all
theorem vh{c:eh}(h:(i::rest).all (opAt P c gl ops)=Yk):rest.all (opAt P c gl ops)=Yk:=by simp_all
def bF(P:YC)(c:eh)(gl:Nat->Bool):YS->Bool
 |.code a|.inLoop a|.inScope a=>codeOk P c gl a
 |.inBlock _=>Yk
 |.inRegion ops l=>l.all (opAt P c gl ops)
 |_=>Yd
def eu(f:YD)(t:Array Yl)(k:List YS)(m:FrameMode):Yy:={fn:=f,tmps:=t,todo:=k,defers:=[],mode:=m,kind:=.normal,roundOf:=Yq}
def md(ret:Bool):FrameMode:=if ret then .returning else .run
structure fK where
 f:YD
 t:Array Yl
 k:List YS
 ret:Bool
 st:List (YD×Array Yl×List YS)
def up(x:YD×Array Yl×List YS):Yy:=eu x.1 x.2.1 x.2.2 .run
def fK.g(s:fK)(base:List Yy):Ys:=Go.Conc.G (eu s.f s.t s.k (md s.ret)) (s.st.map up++base)
structure FF(P:YC)(c:eh)(gl:Nat->Bool)(s:fK):Prop where
 fn:True
 items:s.k.all (bF P c gl)=Yk
 below:∀x∈s.st,True/\x.2.2.all (bF P c gl)=Yk/\∃ops i rest k,x.2.2=.inRegion ops (i::rest)::k
inductive kC(c:eh)(r:bK):List (YD×Array Yl×List YS)->List (YD×Array Yl×List YS)->Prop
 |nil:kC c r [] []
 |cons{f:YD}{t t':Array Yl}{k:List YS}{l l':List (YD×Array Yl×List YS)}:ak c r t t'->kC c r l l'->kC c r ((f,t,k)::l) ((f,t',k)::l')
structure vd(c:eh)(r:bK)(s s':fK):Prop where
 f:s'.f=s.f
 t:ak c r s.t s'.t
 k:s'.k=s.k
 ret:s'.ret=s.ret
 st:kC c r s.st s'.st
theorem kC.mono{r r':bK}(h:r.le r'){l l':List (YD×Array Yl×List YS)}(k:kC c r l l'):kC c r' l l':=by induction k with|nil=>exact .nil|cons a _ b=>exact .cons (a.mono h) b
structure Listed(P:YC)(c:eh)(gl:Nat->Bool):Prop where
 aI:Fits P c
 rQ:∀g,gl g=Yk->c.low g=0
 ext:Dp P c
 body:∀(f:YD)(fn:Func),c.fns f=Yk->P.funcs[f]?=Yg fn->∃b,(fn.body=Yq\/(fn.body=Yg b/\codeOk P c gl b=Yk))
def ft:Yy:={fn:=0,tmps:=#[],todo:=[],defers:=[{target:=.builtin .make #[] 0 #[],args:=#[]}],mode:=.run,kind:=.normal}
def Sn(s:GStep):Prop:=(∃o w,s.bare=.ended o w)\/∃(f:YD)(t:Array Yl)(k:List YS)(ch:List PanicEntry)(st:List (YD×Array Yl×List YS))(w:Yn)(es:Array YV),
 s=.go (Go.Conc.G (eu f t k (.panicking ch)) (st.map up++[ft])) w es/\(∀d w r sv,k.head?≠Yg (.call d w r sv))/\∀x∈st,∃ops i rest k',x.2.2=.inRegion ops (i::rest)::k'
theorem tD{t:Array Yl}(e:ak c r t t')(d:∀g,gl g=Yk->r g=Yg g)(b:∀g,gl g=Yk->c.low g=0){k:List YS}{m:FrameMode}(x:YI)(h:cg c gl x=Yk):ai c r ((eu f t k m).eval x) ((eu f t' k m).eval x):=by cases x with|tmp i=>exact e.getD i gq|const v=>exact ib h c r|global g=>exact .ptr ⟨d g h,rfl,rfl,Wj (b g h)⟩|func j=>exact .func (by assumption) rfl (λi v l a=>by simp at a) rfl (λi v l a=>by simp at a)
theorem q7{t:Array Yl}(a:ak c r t t')(ops:Array Y3)(j:Nat):YA ops t' j=YA ops t j:=by unfold YA;cases(ops[j]?).bind (·.dst)with|none=>rfl|some d=>simp only[W9];cases b:t[d]? with|none=>rw[a.none b]|some v=>obtain⟨f,e,k⟩:=a.get b;rw[e];cases k<;>rfl
theorem O9{t:Array Yl}{k:List YS}(v:Yl):(eu f t (.inRegion ops (i::rest)::k) .run).finish v=eu f (match(ops[i]?).bind (·.dst)with|some d=>t.setIfInBounds d v|none=>t) (.inRegion ops rest::k) .run:=rfl
theorem pq{t:Array Yl}(a:ak c r t t')(d:Option Tmp){v:Yl}(b:ai c r v v'):ak c r (match d with|some d=>t.setIfInBounds d v|none=>t) (match d with|some d=>t'.setIfInBounds d v'|none=>t'):=by cases d with|none=>exact a|some d=>exact a.set d b
end
end
section
open Go.Conc
variable{P:YC}{c:eh}{r r':bK}{gl:Nat->Bool}{w v v' w2 w' v1:Yn}{main u:Bool}{bs cs:List Yy}{f j f0:YD}{t t' args t0 x':Array Yl}{k k0:List YS}{st st':List (YD×Array Yl×List YS)}{id i b n g:Nat}{x a:YZ}{ops:Array Y3}{rest:List Nat}{o:Y3}{h:Halt}{fn:Func}{α:Type}{s s' s1:fK}{p:fK×Yn}{es:Array YV}{fr' caller:Yy}{Good:Yl->Yn->Prop}{own RO:Nat->Prop}{CU:Nat->Nat->Prop}{Stop:(Nat->Prop)->Ys->Yn->Prop}{R:Ending->Yn->Prop}{fns:YD->Bool}
section
def Vs(P:YC)(c:eh)(r:bK)(main:Bool)(base:List Yy)(w v:Yn)(s':fK)(s1:fK)(w1:Yn):Prop:=
 ∃s1' v1 r1 es,Yu P main (s'.g base) v=.go (s1'.g base) v1 es/\Ext c r w v r1 w1 v1/\vd c r1 s1 s1'/\∀e∈es,tR c r1 e
def Stp(P:YC)(c:eh)(gl:Nat->Bool)(r:bK)(main:Bool)(base:List Yy)(w v:Yn)(s s':fK):Prop:=
 (∃s1 w1 es1,Yu P Yk (s.g [ft]) w=.go (s1.g [ft]) w1 es1/\FF P c gl s1/\Vs P c r main base w v s' s1 w1)\/Sn (Yu P Yk (s.g [ft]) w)
theorem fK.vU(f:YD)(t:Array Yl)(k:List YS)(a:List (YD×Array Yl×List YS))(bs:List Yy):(fK.mk f t k Yd a).g bs=G (eu f t k .run) (a.map up++bs):=rfl
theorem Stp.ctl{k1:List YS}{ret1:Bool}(l:eb c r w v)(j:ak c r t t')(a:kC c r st st')(b:FF P c gl ⟨f,t,k,Yd,st⟩)(i:k1.all (bF P c gl)=Yk)(h:∀(main:Bool)(cs:List Yy)(w:Yn),Yu P main (G (eu f t k .run) cs) w=.go (G (eu f t k1 (md ret1)) cs) w #[])(d:∀(main:Bool)(cs:List Yy)(w:Yn),Yu P main (G (eu f t' k .run) cs) w=.go (G (eu f t' k1 (md ret1)) cs) w #[]):Stp P c gl r main bs w v ⟨f,t,k,Yd,st⟩ ⟨f,t',k,Yd,st'⟩:=.inl ⟨⟨f,t,k1,ret1,st⟩,w,#[],h _ _ _,⟨b.fn,i,b.below⟩,⟨f,t',k1,ret1,st'⟩,v,r,#[],d _ _ _,.refl l,⟨rfl,j,rfl,rfl,a⟩,λe g=>by simp at g⟩
theorem ow{q:YS->Bool}:∀{k k':List YS},exitTo id k=Yg k'->k.all q=Yk->k'.all q=Yk|[],_,h,_=>by simp[exitTo]at h|x::k,k',h,b=>by simp only[WB,Vy]at b;unfold exitTo at h;split at h;{rename_i d f e;cases e;split at h;{simp_all};exact ow h b.2};{rename_i e;cases e;exact ow h b.2};simp_all
theorem ug:Yu P main (G (eu f t (.code .ret::k) .run) cs) w=.go (G (eu f t (.code .ret::k) .returning) cs) w #[]:=by rfl
theorem mI:Yu P main (G (eu f t (.inScope x::k) .run) cs) w=.go (G (eu f t k .run) cs) w #[]:=by rfl
theorem oF:Yu P main (G (eu f t (.code (.scope x)::k) .run) cs) w=.go (G (eu f t (.code x::.inScope x::k) .run) cs) w #[]:=by rfl
theorem lL(h:exitTo id k=Yq):Yu P main (G (eu f t (.code (.exit id)::k) .run) cs) w=.ended (.stuck "exit, goto: no such block or label" ((eu f t (.code (.exit id)::k) .run).pos P)) w #[]:=by simp only[G,Yu,Yu.exec,eu,h,Option.elim,V4,if_false]
theorem mA:Yu P main (G (eu f t (.code (.region id ops Yk)::k) .run) cs) w=match(choose (.order f id)).run P w with|.ok b w=>.go (G (eu f t (.inRegion ops (Region.schedule (P.follows .mixedOrders) ops b)::k) .run) cs) w #[]|.halt _ w=>.ended (.stuck "order" ((eu f t (.code (.region id ops Yk)::k) .run).pos P)) w:=by rfl
theorem stepG_unwanted(h:((ops[i]?).map (Region.wanted · (YA ops t))).getD Yd=Yd):Yu P main (G (eu f t (.inRegion ops (i::rest)::k) .run) cs) w=.go (G ((eu f t (.inRegion ops (i::rest)::k) .run).finish YE) cs) w #[]:=by simp only[G,Yu,Yu.exec,eu,h,V4,if_false]
section op
variable{w1:Yn}
abbrev rT(f:YD)(t:Array Yl)(ops:Array Y3)(i:Nat)(rest:List Nat)(k:List YS):Yy:=eu f t (.inRegion ops (i::rest)::k) .run
theorem k9{v:Yl}(d:ops[i]?=Yg o)(e:Region.wanted o (YA ops t)=Yk)(b:(Yt (rT f t ops i rest k).eval o).run P w=.ok (.value v) w1):Yu P main (G (rT f t ops i rest k) cs) w=.go (G ((rT f t ops i rest k).finish v) cs) w1 (seen P f ((Yt (rT f t ops i rest k).eval o).events P w #[])):=by simp only[eu]at b;simp[G,Yu,Yu.exec,Yu.oper,Yu.apply,Yy.oper?,eu,d,e,b,GStep.after]
theorem mF(d:ops[i]?=Yg o)(e:Region.wanted o (YA ops t)=Yk)(b:(Yt (rT f t ops i rest k).eval o).run P w=.ok .skip w1):Yu P main (G (rT f t ops i rest k) cs) w=.go (G ((rT f t ops i rest k).finish YE) cs) w1 (seen P f ((Yt (rT f t ops i rest k).eval o).events P w #[])):=by simp only[eu]at b;simp[G,Yu,Yu.exec,Yu.oper,Yu.apply,Yy.oper?,eu,d,e,b,GStep.after]
theorem lq(d:ops[i]?=Yg o)(e:Region.wanted o (YA ops t)=Yk)(b:(Yt (rT f t ops i rest k).eval o).run P w=.ok (.enter j args) w1):Yu P main (G (rT f t ops i rest k) cs) w=.go (G (Yy.enter P j args .normal) (rT f t ops i rest k::cs)) w1 (seen P f ((Yt (rT f t ops i rest k).eval o).events P w #[])):=by simp only[eu]at b;simp[G,Yu,Yu.exec,Yu.oper,Yu.apply,Yy.oper?,eu,d,e,b,GStep.after]
theorem pU{v:Yl}(e:ops[i]?=Yg o)(g:Region.wanted o (YA ops t)=Yk)(d:(Yt (rT f t ops i rest k).eval o).run P w=.halt (.panic v) w1):Yu P main (G (rT f t ops i rest k) cs) w=.go (G (eu f t (.inRegion ops (i::rest)::k) (.panicking [{v,recovered:=Yd}])) cs) w1 (seen P f ((Yt (rT f t ops i rest k).eval o).events P w #[])):=by simp only[eu]at d;simp[G,Yu,Yu.exec,Yu.oper,Yu.apply,Yy.oper?,eu,e,g,d,GStep.after,Yy.raise]
theorem rF(e:ops[i]?=Yg o)(j:Region.wanted o (YA ops t)=Yk)(b:(Yt (rT f t ops i rest k).eval o).run P w=.halt h w1)(d:A1 h=Yk)(l:∀v,h≠.panic v):∃x w2,(Yu P main (G (rT f t ops i rest k) cs) w).bare=.ended x w2:=by simp only[eu]at b;cases h with|panic v=>simp_all|stuck s=>simp[G,Yu,Yu.exec,Yu.oper,Yu.apply,Yy.oper?,eu,e,j,b]|unsupported u=>(cases u with|initOrder g=>simp[A1]at d|_=>simp[G,Yu,Yu.exec,Yu.oper,Yu.apply,Yy.oper?,eu,e,j,b])|_=>simp[A1]at d
end op
theorem FF.zg(b:FF P c gl ⟨f,t,.inRegion ops (i::rest)::k,Yd,st⟩):(i::rest).all (opAt P c gl ops)=Yk/\k.all (bF P c gl)=Yk:=by have:=b.items;simp only[WB,Vy]at this;exact this
theorem gT(args:Array Yl)(a:P.funcs[f]?=Yg fn):Yy.enter P f args .normal=eu f (args++Array.replicate (fn.ntmps-args.size) YE) [.code (fn.body.getD (.refuse "unsupported: a function without a Go body is entered"))] .run:=by simp[Yy.enter,eu,a]
theorem sZ(args:Array Yl)(a:P.funcs[f]?=Yq):Yy.enter P f args .normal=eu f (args++Array.replicate (0-args.size) YE) [.code (.refuse "unsupported: a function without a Go body is entered")] .run:=by simp[Yy.enter,eu,a]
theorem zE(g:Listed P c gl)(f:c.fns j=Yk)(x d:Array Yl):∃n b,(Yy.enter P j x .normal=eu j (x++Array.replicate (n-x.size) YE) [.code b] .run/\Yy.enter P j d .normal=eu j (d++Array.replicate (n-d.size) YE) [.code b] .run)/\codeOk P c gl b=Yk:=by cases a:P.funcs[j]? with|none=>exact⟨0,_,⟨sZ x a,sZ d a⟩,rfl⟩|some e=>refine⟨e.ntmps,_,⟨gT x a,gT d a⟩,?_⟩;obtain⟨b,h|⟨h,i⟩⟩:=g.body j e f a;{rw[h];rfl};simp_all
theorem Mt(I:Listed P c gl)(V:∀g,gl g=Yk->r g=Yg g)(Y:eb c r w v)(E:ak c r t t')(D:kC c r st st')(A:FF P c gl ⟨f,t,.inRegion ops (i::rest)::k,Yd,st⟩)(z:ops[i]?=Yg o)(a:Region.wanted o (YA ops t)=Yk):Stp P c gl r main bs w v ⟨f,t,.inRegion ops (i::rest)::k,Yd,st⟩ ⟨f,t',.inRegion ops (i::rest)::k,Yd,st'⟩:=by obtain⟨p,R⟩:=A.zg;have M:=wq p z;have m:=Am I.aI I.ext M (ev:=(rT f t ops i rest k).eval) (λx q=>tD E V I.rQ x q) (λ_=>⟨rfl,rfl⟩) w v Y;(have l:Region.wanted o (YA ops t')=Yk:=by rw[funext λj=>q7 E ops j];exact a);unfold Stp;rw[fK.vU];cases q:(Yt (rT f t ops i rest k).eval o).run P w with|halt h H=>rw[q]at m;refine .inr ?_;by_cases S:∃u,h=.panic u;{obtain⟨u,rfl⟩:=S;rw[pU z a q];refine .inr ⟨f,t,_,_,st,H,_,rfl,λd w r sv=>by simp,λx q=>(A.below x q).2.2⟩};obtain⟨x,w2,e⟩:=rF z a q m (λu e=>S ⟨u,e⟩);exact .inl ⟨x,w2,e⟩|ok n H=>rw[q]at m;obtain⟨n',O,J,L,B,q1,Z⟩:=m;have C:∀e∈seen P f ((Yt (rT f t' ops i rest k).eval o).events P v #[]),tR c J e:=λe U=>Z e (mem_seen U);refine .inl ?_;cases q1 with|@value u u' X=>refine⟨⟨f,_,.inRegion ops rest::k,Yd,st⟩,H,seen P f ((Yt (rT f t ops i rest k).eval o).events P w #[]),(k9 z a q).trans ?_,⟨A.fn,?_,A.below⟩,⟨f,_,.inRegion ops rest::k,Yd,st'⟩,O,J,_,(k9 z l L).trans ?_,B,⟨rfl,pq (E.mono B.le) ((ops[i]?).bind (·.dst)) X,rfl,rfl,D.mono B.le⟩,C⟩;{rfl};{simp only[WB,bF,R,vh p,Bool.and_self]};rfl|skip=>refine⟨⟨f,_,.inRegion ops rest::k,Yd,st⟩,H,seen P f ((Yt (rT f t ops i rest k).eval o).events P w #[]),(mF z a q).trans ?_,⟨A.fn,?_,A.below⟩,⟨f,_,.inRegion ops rest::k,Yd,st'⟩,O,J,_,(mF z l L).trans ?_,B,⟨rfl,pq (E.mono B.le) ((ops[i]?).bind (·.dst)) gq,rfl,rfl,D.mono B.le⟩,C⟩;{rfl};{simp only[WB,bF,R,vh p,Bool.and_self]};rfl|@enter j x K W F=>obtain⟨n,b,Q,T⟩:=zE I W x K;refine⟨⟨j,x++Array.replicate (n-x.size) YE,[.code b],Yd,(f,t,.inRegion ops (i::rest)::k)::st⟩,H,seen P f ((Yt (rT f t ops i rest k).eval o).events P w #[]),(lq z a q).trans ?_,⟨trivial,?_,?_⟩,⟨j,K++Array.replicate (n-K.size) YE,[.code b],Yd,(f,t',.inRegion ops (i::rest)::k)::st'⟩,O,J,_,(lq z l L).trans ?_,B,⟨rfl,?_,rfl,rfl,.cons (E.mono B.le) (D.mono B.le)⟩,C⟩;{rw[Q.1];rfl};{simp[bF,T]};{intro y N;rcases VH.1 N with rfl|N;{exact⟨A.fn,A.items,ops,i,rest,k,rfl⟩};exact A.below y N};{rw[Q.2];rfl};rw[F.size.symm];exact F.append (.replicate _ gq)
end
section
theorem ab.ym{f f':α->YN Yl}:∀(l:List α){r:bK}{x x':Array Yl},ak c r x x'->(∀a b,r.le b->ab P c b (f a) (f' a) (ai c))->ab P c r (l.foldlM (λbs a=>Functor.map bs.push (f a)) x) (l.foldlM (λbs a=>bs.push<$>f' a) x') (ak c)|[],_,_,_,h,_=>ab.pure h|a::l,r,x,x',h,e=>by simp only[Ya];refine ab.bind (Q:=ak c) ?_ λb y n d j=>ab.ym l j λa k g=>e a k (bK.le_trans d g);simp only[<-bind_pure_comp];exact ab.bind (e a r (bK.le_refl r)) λb v m d i=>ab.pure ((h.mono d).push i)
theorem ab.mapM{f f':α->YN Yl}(l:Array α)(h:∀a b,r.le b->ab P c b (f a) (f' a) (ai c)):ab P c r (l.mapM f) (l.mapM f') (ak c):=by rw[Y7,Y7,<-Y8,<-Y8];exact ab.ym l.toList .empty h
theorem jJ(fn:Func)(h:ak c r t t'):ab P c r (results fn t) (results fn t') (ai c):=by refine ab.bind (ab.mapM _ λa g d=>?_) λg x m d b=>ab.pure ?_;{cases a with|tmp i=>exact ab.pure ((h.mono d).getD i gq)|cell i j=>exact ab.bind (ab.asAddr ((h.mono d).getD i gq)) λl a k _ f=>ab.loadVar j f};by_cases e:x.size=1;{rw[dif_pos e,dif_pos (b.size▸e)];exact b.el 0 _ _ (VD _) (VD _)};rw[dif_neg e,dif_neg (b.size▸e)];exact .tuple b.size b.el
section ret
variable{x:Yy}{w1:Yn}
theorem fe(a:P.funcs[f]?=Yq):Yu P main (G (eu f t k .returning) (x::cs)) w=.go (G (x.finish (t.getD 0 YE)) cs) w #[]:=by simp[G,Yu,unwind,doReturn,eu,a]
theorem bE{v:Yl}(a:P.funcs[f]?=Yg fn)(b:(results fn t).run P w=.ok v w1):Yu P main (G (eu f t k .returning) (x::cs)) w=.go (G (x.finish v) cs) w1 (seen P f ((results fn t).events P w #[])):=by simp[G,Yu,unwind,doReturn,eu,a,b,GStep.after]
theorem gA(a:P.funcs[f]?=Yg fn)(b:(results fn t).run P w=.halt h w1):∃o w2,(Yu P main (G (eu f t k .returning) (x::cs)) w).bare=.ended o w2:=by cases h<;>simp[G,Yu,unwind,eu,a,b]
end ret
theorem zT{t0':Array Yl}(A:eb c r w v)(z:ak c r t t')(l:ak c r t0 t0')(j:kC c r st st')(y:FF P c gl ⟨f,t,k,Yk,(f0,t0,.inRegion ops (i::rest)::k0)::st⟩):Stp P c gl r main bs w v ⟨f,t,k,Yk,(f0,t0,.inRegion ops (i::rest)::k0)::st⟩ ⟨f,t',k,Yk,(f0,t0',.inRegion ops (i::rest)::k0)::st'⟩:=by obtain⟨s,C,-⟩:=y.below _ (Vz ..);have a:=λx m=>y.below x (VK _ m);(have g:(YS.inRegion ops rest::k0).all (bF P c gl)=Yk:=by simp only[WB,bF]at C⊢;simp_all);cases d:P.funcs[f]? with|none=>refine .inl ⟨⟨f0,_,.inRegion ops rest::k0,Yd,st⟩,w,#[],(fe d).trans ?_,⟨s,g,a⟩,⟨f0,_,.inRegion ops rest::k0,Yd,st'⟩,v,r,#[],(fe d).trans ?_,.refl A,⟨rfl,pq l ((ops[i]?).bind (·.dst)) (z.getD 0 gq),rfl,rfl,j⟩,λe p=>by simp at p⟩;{rfl};rfl|some n=>have b:=jJ n z (P:=P) w v A;cases m:(results n t).run P w with|halt h B=>exact .inr (.inl (gA d m))|ok u B=>rw[m]at b;obtain⟨J,I,H,D,q,F,E⟩:=b;refine .inl ⟨⟨f0,_,.inRegion ops rest::k0,Yd,st⟩,B,seen P f ((results n t).events P w #[]),(bE d m).trans ?_,⟨s,g,a⟩,⟨f0,_,.inRegion ops rest::k0,Yd,st'⟩,I,H,seen P f ((results n t').events P v #[]),(bE d D).trans ?_,q,⟨rfl,pq (l.mono q.le) ((ops[i]?).bind (·.dst)) F,rfl,rfl,j.mono q.le⟩,λe p=>E e (mem_seen p)⟩;{rfl};rfl
theorem mi{x:YI}{b:YZ}(h:(eu f t (.code (.cond x a b)::k) .run).eval x=.bool u):Yu P main (G (eu f t (.code (.cond x a b)::k) .run) cs) w=.go (G (eu f t (.code (if u then a else b)::k) .run) cs) w #[]:=by simp only[eu]at h;simp[G,Yu,Yu.exec,eu,h]
theorem mr{x:YI}{b:YZ}(h:∀u,(eu f t (.code (.cond x a b)::k) .run).eval x≠.bool u):∃o w2,(Yu P main (G (eu f t (.code (.cond x a b)::k) .run) cs) w).bare=.ended o w2:=by simp only[eu]at h;simp only[G,Yu,Yu.exec,eu];simp
theorem Sj{x x':Yl}(h:x=.bool u)(k:ai c r x x'):x'=.bool u:=by subst h;cases k;rfl
theorem yA(V:Listed P c gl)(U:∀g,gl g=Yk->r g=Yg g)(z:eb c r w v)(hr:vd c r s s')(p:FF P c gl s)(hne:s.ret=Yk->s.st≠[]):Stp P c gl r main bs w v s s':=by obtain⟨f,t,k,R,Y⟩:=s;obtain⟨f',M,k',K,L⟩:=s';obtain⟨N,y,Z,e3,d⟩:=hr;simp only at N y Z e3 d;subst f' k' K;cases R with|true=>(cases d with|nil=>simp_all|@cons f0 t0 t0' k0 l l' h0 O=>obtain⟨-,-,n,i,B,k1,e⟩:=p.below _ (Vz ..);simp only at e;subst e;exact zT z y h0 O p)|false=>cases k with|nil=>exact Stp.ctl (ret1:=Yk) (k1:=[]) z y d p rfl (λ_ _ _=>by rfl) (λ_ _ _=>by rfl)|cons x k=>have q:=p.items;simp only[WB,Vy]at q;obtain⟨q,A⟩:=q;cases x with|code a=>(cases a with|skip=>exact Stp.ctl (ret1:=Yd) (k1:=k) z y d p A (λ_ _ _=>by rfl) (λ_ _ _=>by rfl)|label l=>exact Stp.ctl (ret1:=Yd) (k1:=k) z y d p A (λ_ _ _=>by rfl) (λ_ _ _=>by rfl)|ret=>exact Stp.ctl (ret1:=Yk) z y d p p.items (λ_ _ _=>ug) (λ_ _ _=>ug)|seq a b=>exact Stp.ctl (ret1:=Yd) (k1:=.code a::.code b::k) z y d p (by simp only[bF,codeOk,Vy]at q;simp[bF,codeOk,A,q]) (λ_ _ _=>by rfl) (λ_ _ _=>by rfl)|block id a=>exact Stp.ctl (ret1:=Yd) (k1:=.code a::.inBlock id::k) z y d p (by simp only[bF,codeOk,Vy]at q;simp[bF,codeOk,A,q]) (λ_ _ _=>by rfl) (λ_ _ _=>by rfl)|loop a=>exact Stp.ctl (ret1:=Yd) (k1:=.code a::.inLoop a::k) z y d p (by simp only[bF,codeOk,Vy]at q;simp[bF,codeOk,A,q]) (λ_ _ _=>by rfl) (λ_ _ _=>by rfl)|scope a=>exact Stp.ctl (ret1:=Yd) (k1:=.code a::.inScope a::k) z y d p (by simp only[bF,codeOk,Vy]at q;simp[bF,codeOk,A,q]) (λ_ _ _=>oF) (λ_ _ _=>oF)|refuse why=>exact .inr (.inl ⟨_,w,by rfl⟩)|exit id=>(cases D:exitTo id k with|none=>exact .inr (.inl ⟨_,w,by rw[fK.vU,lL D];rfl⟩)|some k1=>exact Stp.ctl (ret1:=Yd) z y d p (ow D A) (λ_ _ _=>by simp[G,Yu,Yu.exec,eu,md,D]) (λ_ _ _=>by simp[G,Yu,Yu.exec,eu,md,D]))|cond x a b=>simp only[bF,codeOk,Vy]at q;have hv:=tD y U V.rQ (f:=f) (k:=.code (.cond x a b)::k) (m:=.run) x q.1.1;(cases J:(eu f t (.code (.cond x a b)::k) .run).eval x with|bool u=>have:=Sj J hv;exact Stp.ctl (ret1:=Yd) (k1:=.code (if u then a else b)::k) z y d p (by cases u<;>simp[bF,q,A]) (λ_ _ _=>mi J) (λ_ _ _=>mi this)|_=>exact .inr (.inl (mr λu e=>by simp_all)))|region id n F=>(have I:n.all (Bj P c gl)=Yk:=by assumption);(have H:∀l,(YS.inRegion n l::k).all (bF P c gl)=Yk:=λl=>by simp only[WB,Vy];exact⟨H3 I l,A⟩);(cases F with|false=>exact Stp.ctl (ret1:=Yd) (k1:=.inRegion n (List.range n.size)::k) z y d p (H _) (λ_ _ _=>by rfl) (λ_ _ _=>by rfl)|true=>have X:=ab.cF (r:=r) (c:=c) (P:=P) (iu (.order f id)) w v z;unfold Stp;rw[fK.vU,mA];cases hc:(choose (.order f id)).run P w with|halt h S=>exact .inr (.inl ⟨_,S,rfl⟩)|ok u S=>rw[hc]at X;obtain⟨u',v1,r1,N,T,q1,-⟩:=X;subst q1;refine .inl ⟨⟨f,t,_,Yd,Y⟩,S,#[],rfl,⟨p.fn,H _,p.below⟩,⟨f,M,_,Yd,L⟩,v1,r1,#[],?_,T,⟨rfl,y.mono T.le,rfl,rfl,d.mono T.le⟩,λe D=>by simp at D⟩;rw[fK.vU,mA,N];rfl)|rangeFunc _ _ _ _=>simp[bF,codeOk]at q|goto l=>simp[bF,codeOk]at q)|inBlock id=>exact Stp.ctl (ret1:=Yd) (k1:=k) z y d p A (λ_ _ _=>by rfl) (λ_ _ _=>by rfl)|inLoop a=>exact Stp.ctl (ret1:=Yd) (k1:=.code a::.inLoop a::k) z y d p (by simp only[bF]at q;simp[bF,A,q]) (λ_ _ _=>by rfl) (λ_ _ _=>by rfl)|inScope a=>exact Stp.ctl (ret1:=Yd) (k1:=k) z y d p A (λ_ _ _=>mI) (λ_ _ _=>mI)|inRegion n l=>(cases l with|nil=>exact Stp.ctl (ret1:=Yd) (k1:=k) z y d p A (λ_ _ _=>by rfl) (λ_ _ _=>by rfl)|cons i B=>cases E:((n[i]?).map (Region.wanted · (YA n t))).getD Yd with|true=>(cases W:n[i]? with|none=>simp_all|some o=>rw[W]at E;exact Mt V U z y d p W (by simp_all))|false=>(have Q:((n[i]?).map (Region.wanted · (YA n M))).getD Yd=Yd:=by rw[show YA n M=YA n t from funext λj=>q7 y n j];exact E);refine .inl ⟨⟨f,_,.inRegion n B::k,Yd,Y⟩,w,#[],(stepG_unwanted E).trans ?_,⟨p.fn,?_,p.below⟩,⟨f,_,.inRegion n B::k,Yd,L⟩,v,r,#[],(stepG_unwanted Q).trans ?_,.refl z,⟨rfl,pq y ((n[i]?).bind (·.dst)) gq,rfl,rfl,d⟩,λe D=>by simp at D⟩;{rfl};{have:=p.items;simp only[WB,bF,Vy]at this⊢;simp_all};rfl)|inRangeFunc _=>simp[bF]at q|endRangeFunc _=>simp[bF]at q|beginRound=>simp[bF]at q|call _ _ _ _=>simp[bF]at q|extern _ _=>simp[bF]at q
end
def re(w:Yn)(T:Nat->Y6->Nat)(D:Nat):Yn:={w with tape:=T,drawn:=D}
@[simp]theorem UM(w:Yn)(T b:Nat->Y6->Nat)(D a:Nat):re (re w T D) b a=re w b a:=rfl
@[simp]theorem xG(w:Yn)(T:Nat->Y6->Nat)(D:Nat):(re w T D).heap=w.heap:=rfl
@[simp]theorem CK(w:Yn)(T:Nat->Y6->Nat)(D:Nat)(a:YT):(re w T D).cell? a=w.cell? a:=rfl
theorem B3(w:Yn)(T:Nat->Y6->Nat)(D:Nat)(p:YC)(a:YT)(b:Bool):(re w T D).farLoad p a b=w.farLoad p a b:=rfl
theorem xq(w:Yn)(T:Nat->Y6->Nat)(D:Nat)(p:YC)(a:YT)(u:Yz)(k:YT)(v:Yl)(b:Bool):(re w T D).viewStore p a u k v b=(w.viewStore p a u k v b).map λx=>(re x.1 T D,x.2):=by unfold Yn.viewStore;have e:(re w T D).seen p a u k b=w.seen p a u k b:=rfl;rw[e];generalize w.seen p a u k b=j;by_cases i:(!tight p p.depth u)=Yk;{simp only[i];rfl};simp only[i,V4];cases j with|error s=>rfl|ok x=>obtain⟨c,e,l,g,f,d⟩:=x;cases n:v.bytes? with|none=>rfl|some bytes=>simp only[bind,Except.bind,pure];by_cases h:Yg bytes.length=Option.map (λx=>x.length) f.bytes?;{simp only[ne_eq,h,eq_false];generalize(List.foldlM (m:=Except String) _ c d)=z;cases z<;>rfl};simp only[ne_eq,h,eq_true];rfl
theorem qX(w:Yn)(T:Nat->Y6->Nat)(D:Nat)(p:YC)(a:YT)(v:Yl)(b:Bool):(re w T D).farStore p a v b=(w.farStore p a v b).map λx=>(re x.1 T D,x.2):=by unfold Yn.farStore;rw[xG];cases w.heap[a.block]? with|none=>rfl|some o=>(cases o<;>try rfl);simp only[xq];generalize w.viewStore _ _ _ _ _ _=z;cases z<;>rfl
theorem E3(w:Yn)(T:Nat->Y6->Nat)(D:Nat)(a:YT)(n:Nat):(re w T D).freeze a n=re (w.freeze a n) T D:=by unfold Yn.freeze;split<;>rfl
def yB:Yl->Bool
 |.agg _|.tuple _=>Yk
 |_=>Yd
theorem Ue(v:Yl):yB v=Yk\/yB v=Yd:=by simp
theorem uO(m:Mode)(a:YT)(g:YN α){v:Yl}(h:yB v=Yk)(w:Yn):∃z,(YN.store m a v g).run P w=.halt z w:=by cases v<;>simp[yB]at h<;>exact⟨_,rfl⟩
theorem ua(m:Mode)(a:YT)(g:YN α){v:Yl}(h:yB v=Yd)(w:Yn):(YN.store m a v g).run P w=match w.cell? a with|some _=>if w.frozen? a then .halt (.unsupported (.unsafePointer "a write to bytes that a string shares")) w else g.run P (w.setCell a v)|none=>match w.farStore P a v (m==.atomic)with|.ok x=>g.run P x.1|.error h=>.halt h w:=by cases v<;>simp[yB]at h<;>(simp only[YN.run];split;{rename_i b;rw[b]};·split<;>simp_all)
theorem oM(m:Mode)(a:YT)(g:YN α){v:Yl}(h:yB v=Yd)(w:Yn):(YN.store m a v g).events P w #[]=match w.cell? a with|some _=>if w.frozen? a then#[]else g.events P (w.setCell a v) (#[].push ⟨.cell a,Yk,m==.atomic⟩)|none=>match w.farStore P a v (m==.atomic)with|.ok x=>g.events P x.1 (#[]++x.2.toArray.map (⟨.cell ·,Yk,m==.atomic⟩))|.error _=>#[]:=by cases v<;>simp[yB]at h<;>(simp only[YN.events,YN.runT];split<;>(try split)<;>simp_all)
theorem Ex(w:Yn)(T:Nat->Y6->Nat)(D:Nat)(a:YT):(re w T D).frozen? a=w.frozen? a:=rfl
theorem uW{w1:Yn}{p:YC}{a:YT}{v:Yl}{b:Bool}{l:List YT}(h:w.farStore p a v b=.ok (w1,l)):w1.drawn=w.drawn/\w1.tape=w.tape:=by have c:w.farStore p a v b=(w.farStore p a v b).map λx=>(re x.1 w.tape w.drawn,x.2):=qX w w.tape w.drawn p a v b;rw[h]at c;injection c with c;have:=(V3 c).1;exact⟨(congrArg Yn.drawn this).trans rfl,(congrArg Yn.tape this).trans rfl⟩
theorem yC(x:YN α):∀{w w1:Yn}{a:α},x.run P w=.ok a w1->(∀e∈x.events P w #[],e.loc≠.output)->w.drawn<=w1.drawn/\w1.tape=w.tape/\∀(T:Nat->Y6->Nat)(D:Nat),(∀j q,w.drawn+j<w1.drawn->T (D+j) q=w.tape (w.drawn+j) q)->x.run P (re w T D)=.ok a (re w1 T (D+(w1.drawn-w.drawn))):=by induction x with|pure a=>simp|halt z=>simp|program g d=>intro w w1 b h c;exact d P h c|mark m g d=>intro w w1 b h c;refine d h λe i=>c e ?_;show e∈g.events P w _;rw[YN.events_acc];simp_all|sys s g _=>intro w w1 b h c;refine absurd rfl (c ⟨.output,Yk,Yd⟩ ?_);show _∈(g _).events P _ _;rw[YN.events_acc];simp|choose q g d=>intro w w1 b h c;have B:∀u:Yn,(YN.choose q g).run P u=if q.forced then(g 0).run P u else(g (q.cut (u.tape u.drawn q))).run P {u with drawn:=u.drawn+1}:=λ_=>rfl;(have I:(YN.choose q g).events P w #[]=if q.forced then(g 0).events P w #[]else(g (q.cut (w.tape w.drawn q))).events P {w with drawn:=w.drawn+1} #[]:=by simp only[YN.events,YN.runT];grind);rw[B]at h;rw[I]at c;simp only[B];by_cases F:q.forced=Yk;{grind};rw[if_neg F]at h c;simp only[F,V4,if_false];obtain⟨J,H,K⟩:=d _ h c;simp only at J H;refine⟨by omega,H,λT D t=>?_⟩;(have:=K T (D+1) λj q M=>by have:=t (j+1) q (by grind);grind);have C:=t 0 q Ω;simp only[We]at C;show(g (q.cut (T D q))).run P (re w T (D+1))=_;rw[C];refine Eq.trans this ?_;grind|load m a g d=>intro w w1 b h c;simp only[YN.run,CK,B3]at h⊢;(cases r:w.cell? a with|some v=>rw[r]at h;refine d v h λe i=>c e ?_;simp only[YN.events,YN.runT,r];show e∈(g v).events P w _;rw[YN.events_acc];simp_all|none=>rw[r]at h;cases l:w.farLoad P a (m==.atomic)with|error z=>simp_all|ok x=>rw[l]at h;refine d x.1 h λe i=>c e ?_;simp only[YN.events,YN.runT,r,l];show e∈(g x.1).events P w _;rw[YN.events_acc];simp_all)|store m a v g d=>intro w w1 b h c;rcases Ue v with y|y;{obtain⟨z,N⟩:=uO (P:=P) m a g y w;simp_all};simp only[ua m a g y,CK,qX,Ex]at h⊢;rw[oM m a g y]at c;(cases r:w.cell? a with|some u=>rw[r]at h c;simp only at h c⊢;split at h;{cases h};rename_i l;rw[if_neg l]at c;have:=d (w:=w.setCell a v) h λe i=>c e (by rw[YN.events_acc];simp_all);refine⟨this.1,this.2.1,λT D t=>?_⟩;exact(if_neg l).trans (this.2.2 T D t)|none=>rw[r]at h c;simp only at h c⊢;cases l:w.farStore P a v (m==.atomic)with|error z=>simp_all|ok x=>rw[l]at h c;simp only[Except.map]at h c⊢;have A:=uW l;have:=d (w:=x.1) h λe i=>c e (by rw[YN.events_acc];simp_all);simp_all)|new o g d=>intro w w1 b h c;exact d _ h c|shape k g d=>intro w w1 b h c;exact d _ h c|freeze a n g d=>intro w w1 b h c;(have A:(w.freeze a n).drawn=w.drawn/\(w.freeze a n).tape=w.tape:=by unfold Yn.freeze;grind);have:=d (w:=w.freeze a n) h c;rw[A.1,A.2]at this;simp only[YN.run,E3];exact this|frozen a g d=>intro w w1 b h c;exact d _ h c|getObj k g d=>intro w w1 b h c;(cases f:w.heap[k]? with|none=>simp only[YN.run,f]at h;cases h|some o=>cases o<;>first|(simp only[YN.run,f]at h;cases h;done)|(simp only[YN.run,f,xG]at h⊢;refine d _ h λe i=>c e ?_;simp only[YN.events,YN.runT,f];show e∈(g _).events P w _;rw[YN.events_acc];exact V5.2 (.inr i)))|setObj k o g d=>intro w w1 b h c;cases f:w.heap[k]? with|none=>simp only[YN.run,f]at h;cases h|some L=>cases L<;>first|(simp only[YN.run,f]at h;cases h;done)|(simp only[YN.run,f,xG]at h⊢;refine d (w:={w with heap:=w.heap.setIfInBounds k o}) h λe i=>c e ?_;simp only[YN.events,YN.runT,f];show e∈g.events P _ _;rw[YN.events_acc];exact V5.2 (.inr i))
def nM(r:bK):bK:=λb=>if(r b).isSome then Yg b else Yq
theorem qN{k:Nat}(h:r b=Yg k):nM r b=Yg b:=by simp[nM,h]
theorem nf{k:Nat}(h:nM r b=Yg k):k=b/\∃j,r b=Yg j:=by unfold nM at h;split at h;{rename_i e;cases h;exact⟨rfl,WJ.1 e⟩};cases h
theorem dh.self{a a':YT}(h:dh c r a a'):dh c (nM r) a a:=⟨qN h.1,rfl,rfl,h.2.2.2⟩
theorem mz{x:Array Yl}(b:x.size=x'.size)(h:∀(i:Nat)(v a:Yl),x[i]?=Yg v->x'[i]?=Yg a->ai c (nM r) v v):∀(i:Nat)(v a:Yl),x[i]?=Yg v->x[i]?=Yg a->ai c (nM r) v a:=by grind
theorem ai.self{v v':Yl}(h:ai c r v v'):ai c (nM r) v v:=by induction h with|bool b=>exact .bool b|int k n=>exact .int k n|string s=>exact .string s|fT=>exact .fT|ptr a=>exact .ptr a.self|gX n m=>exact .gX n m|slice n m a=>exact .slice n m a.self|cU a l=>exact .cU a a|j9=>exact .j9|map a=>exact .map (qN a)|func g i _ j _ e f=>exact .func g rfl (mz i e) rfl (mz j f)|nilFunc=>exact .nilFunc|nilIface=>exact .nilIface|iface t _ d=>exact .iface t d|agg s _ d=>exact .agg rfl (mz s d)|tuple s _ d=>exact .tuple rfl (mz s d)
theorem ak.self{x:Array Yl}(h:ak c r x x'):ak c (nM r) x x:=⟨rfl,mz h.size λi v d a b=>(h.el i v d a b).self⟩
theorem mj.self{o o':YQ}(h:mj c r o o'):mj c (nM r) o o:=by cases h with|cells t f k=>exact .cells t f k.self|@map x j k s e=>refine .map k rfl λi d m a b=>?_;rw[a]at b;cases b;have g:=s▸(Vw.1 a).1;have:=e i d _ a (VD g);exact⟨this.key.self,this.val.self,rfl⟩|iter s p=>exact .iter s p|number l a=>exact .number l a.self
theorem sK.self{o o':Option YQ}(h:sK c r b o o'):sK c (nM r) b o o:=by cases h with|@seen x g t m j s l z y e=>refine .seen t t _ s l (Vu _) ⟨λ_=>rfl,y.2⟩ λi u p a b d=>?_;rw[b]at d;cases d;have f:=Vv (Vw.1 b).1 z;exact(e i u _ a b (VD f)).self|own n k=>exact .own n k.self
theorem eb.self(h:eb c r w v):eb c (nM r) w w:=by refine⟨λb k e=>?_,λb k e=>?_,λb g k e d=>?_,h.rQ,λb f e=>h.hid b f (by unfold nM at e;simp_all),λb k e=>?_,rfl,rfl,h.old,λb k e _=>(nf e).1.symm,h.jO.1,h.jO.1⟩;{obtain⟨rfl,j,a⟩:=nf e;exact h.qy _ _ a};{obtain⟨rfl,j,a⟩:=nf e;exact h.qy _ _ a};{exact .inl ((nf e).1.symm.trans (nf d).1)};obtain⟨rfl,j,a⟩:=nf e;exact(h.blk _ _ a).self
theorem kC.self{l l':List (YD×Array Yl×List YS)}(h:kC c r l l'):kC c (nM r) l l:=by induction h with|nil=>exact .nil|cons a _ b=>exact .cons a.self b
theorem vd.self(h:vd c r s s'):vd c (nM r) s s:=⟨rfl,h.t.self,rfl,rfl,h.st.self⟩
theorem eb.re(h:eb c r w w)(T:Nat->Y6->Nat)(D:Nat):eb c r (re w T D) (re w T D):=⟨h.qy,h.BR,h.inj,h.rQ,h.hid,h.blk,rfl,rfl,h.old,h.aI,h.jO⟩
theorem tR.Aw{e:YV}(h:tR c r e):e.loc≠.output:=by rcases h with⟨b,a,-⟩|h|⟨f,h⟩;{grind};{simp_all};simp_all
structure Fit(P:YC)(c:eh)(gl:Nat->Bool)(s:fK)(w:Yn):Prop where
 ok:FF P c gl s
 rel:∃r,eb c r w w/\vd c r s s/\∀g,gl g=Yk->r g=Yg g
theorem Fit.re(h:Fit P c gl s w)(T:Nat->Y6->Nat)(D:Nat):Fit P c gl s (re w T D):=by obtain⟨e,r,a,b,d⟩:=h;exact⟨e,r,a.re T D,b,d⟩
theorem Fit.Qx(d:FF P c gl s)(h:eb c r w v)(a:vd c r s s')(b:∀g,gl g=Yk->r g=Yg g):Fit P c gl s w:=⟨d,nM r,h.self,a.self,λg e=>qN (b g e)⟩
def dZ(P:YC)(s:fK)(w:Yn)(s1:fK)(w1:Yn):Prop:=∃es,Yu P Yk (s.g [ft]) w=.go (s1.g [ft]) w1 es
theorem P0(h:st.map up=st'.map up):st=st':=by induction st generalizing st' with|nil=>simp_all|cons x l a=>cases st' with|nil=>simp at h|cons y b=>simp only[V1,XR]at h;have:=h.1;simp only[up,eu]at this;grind
theorem Ny(h:s.g [ft]=s'.g [ft]):s=s':=by obtain⟨f,t,k,b,o⟩:=s;obtain⟨l,p,n,a,j⟩:=s';simp only[fK.g,G,eu,Ys.mk.injEq,Yy.mk.injEq]at h;obtain⟨⟨d,e,g,-,m,-⟩,i,-⟩:=h;have:=P0 (List.append_cancel_right i);subst d e g this;(have:b=a:=by cases b<;>cases a<;>simp_all[md]);rw[this]
theorem Fit.step(p:Listed P c gl){s:fK}{w:Yn}(h:Fit P c gl s w)(f:s.ret=Yk->s.st≠[]):(∃a b,dZ P s w a b/\Fit P c gl a b)\/Sn (Yu P Yk (s.g [ft]) w):=by obtain⟨u,r,n,o,k⟩:=h;rcases yA p k n o u f with⟨a,b,d,i,t,y,C,v,A,j,x,q,-⟩|B;{refine .inl ⟨a,b,⟨d,i⟩,?_⟩;rw[i]at j;injection j with l m z;have:=Ny l;subst this m;exact⟨t,v,x.rel,q,λg e=>x.le _ _ (k g e)⟩};simp_all
theorem dZ.TH{s2:fK}{w1:Yn}(h:dZ P s w s1 w1)(a:dZ P s w s2 w2):s2=s1/\w2=w1:=by obtain⟨_,h⟩:=h;obtain⟨_,a⟩:=a;rw[h]at a;injection a with b d;exact⟨(Ny b).symm,d.symm⟩
def bN(P:YC)(s:fK)(w:Yn)(s1:fK)(w1:Yn):Prop:=
 w.drawn<=w1.drawn/\w1.tape=w.tape/\∀(T:Nat->Y6->Nat)(D:Nat),(∀j q,w.drawn+j<w1.drawn->T (D+j) q=w.tape (w.drawn+j) q)->dZ P s (re w T D) s1 (re w1 T (D+(w1.drawn-w.drawn)))
theorem bN.ctl{s2:fK}{w1:Yn}(a:dZ P s w s1 w1)(h:∀w,Yu P Yk (s.g [ft]) w=.go (s2.g [ft]) w #[]):bN P s w s1 w1:=by obtain⟨rfl,rfl⟩:=a.TH ⟨#[],h w⟩;exact⟨Vu _,rfl,λT D _=>⟨#[],by simp_all⟩⟩
theorem dZ.jc{w1:Yn}(a:dZ P s w s1 w1)(h:∃o w2,(Yu P Yk (s.g [ft]) w).bare=.ended o w2):False:=by obtain⟨b,e⟩:=a;simp_all
theorem dZ.vK{w1:Yn}{ch:List PanicEntry}(d:dZ P s w s1 w1)(h:Yu P Yk (s.g [ft]) w=.go (G (eu f t k (.panicking ch)) cs) w2 es):False:=by obtain⟨a,e⟩:=d;rw[e]at h;injection h with h;simp only[fK.g,G,eu,Ys.mk.injEq,Yy.mk.injEq]at h;have:=h.1.2.2.2.2.1;cases b:s1.ret<;>simp[md,b]at this
theorem bN.FG{β:Type}{w1:Yn}{x:YN β}{b:β}{s2:fK}(k:dZ P s w s1 w1)(a:x.run P w=.ok b w2)(j:∀e∈x.events P w #[],e.loc≠.output)(h:∀w w2,x.run P w=.ok b w2->dZ P s w s2 w2):bN P s w s1 w1:=by obtain⟨rfl,rfl⟩:=k.TH (h w w2 a);obtain⟨d,f,g⟩:=yC x a j;exact⟨d,f,λT D i=>h _ _ (g T D i)⟩
theorem Mq(v:Listed P c gl){w1:Yn}(D:Fit P c gl ⟨f,t,.inRegion ops (i::rest)::k,Yd,st⟩ w)(q:dZ P ⟨f,t,.inRegion ops (i::rest)::k,Yd,st⟩ w s1 w1)(l:ops[i]?=Yg o)(a:Region.wanted o (YA ops t)=Yk):bN P ⟨f,t,.inRegion ops (i::rest)::k,Yd,st⟩ w s1 w1:=by obtain⟨L,r,J,H,E⟩:=D;have I:=H.t;obtain⟨p,R⟩:=L.zg;have z:=wq p l;have d:=Am v.aI v.ext z (ev:=(rT f t ops i rest k).eval) (λx g=>tD I E v.rQ x g) (λ_=>⟨rfl,rfl⟩) w w J;cases g:(Yt (rT f t ops i rest k).eval o).run P w with|halt h y=>rw[g]at d;by_cases B:∃u,h=.panic u;{obtain⟨u,rfl⟩:=B;exact(q.vK (pU l a g)).elim};exact(q.jc (rF l a g d (λu e=>B ⟨u,e⟩))).elim|ok n y=>rw[g]at d;obtain⟨T,W,U,O,X,M,A⟩:=d;cases M with|@value u V S=>exact bN.FG (s2:=⟨f,_,.inRegion ops rest::k,Yd,st⟩) q g (λe m=>(A e m).Aw) λw y e=>⟨_,(k9 l a e).trans (by rfl)⟩|skip=>exact bN.FG (s2:=⟨f,_,.inRegion ops rest::k,Yd,st⟩) q g (λe m=>(A e m).Aw) λw y e=>⟨_,(mF l a e).trans (by rfl)⟩|@enter j x N F K=>obtain⟨n,b,C,Q⟩:=zE v F x N;exact bN.FG (s2:=⟨j,x++Array.replicate (n-x.size) YE,[.code b],Yd,(f,t,.inRegion ops (i::rest)::k)::st⟩) q g (λe m=>(A e m).Aw) λw y e=>⟨_,(lq l a e).trans (by rw[C.1];rfl)⟩
theorem Gi{w1:Yn}(o:Fit P c gl ⟨f,t,k,Yk,(f0,t0,.inRegion ops (i::rest)::k0)::st⟩ w)(l:dZ P ⟨f,t,k,Yk,(f0,t0,.inRegion ops (i::rest)::k0)::st⟩ w s1 w1):bN P ⟨f,t,k,Yk,(f0,t0,.inRegion ops (i::rest)::k0)::st⟩ w s1 w1:=by obtain⟨A,r,s,p,z⟩:=o;have q:=p.t;cases b:P.funcs[f]? with|none=>refine bN.ctl (s2:=⟨f0,(match(ops[i]?).bind (·.dst)with|some d=>t0.setIfInBounds d (t.getD 0 YE)|none=>t0),.inRegion ops rest::k0,Yd,st⟩) l λw=>?_;refine(fe b).trans ?_;rfl|some j=>have a:=jJ j q (P:=P) w w s;cases m:(results j t).run P w with|halt h w1=>exact(l.jc (gA b m)).elim|ok u x=>rw[m]at a;obtain⟨D,E,C,y,F,B,v⟩:=a;refine bN.FG (s2:=⟨f0,(match(ops[i]?).bind (·.dst)with|some d=>t0.setIfInBounds d u|none=>t0),.inRegion ops rest::k0,Yd,st⟩) l m (λe n=>(v e n).Aw) λw x e=>⟨seen P f ((results j t).events P w #[]),?_⟩;refine(bE b e).trans ?_;rfl
theorem dZ.tape(F:Listed P c gl){w1:Yn}(y:Fit P c gl s w)(H:s.ret=Yk->s.st≠[])(h:dZ P s w s1 w1):bN P s w s1 w1:=by obtain⟨f,t,k,A,j⟩:=s;cases A with|true=>(cases j with|nil=>simp_all|cons x l=>obtain⟨K,N,M⟩:=x;obtain⟨-,-,g,i,p,D,e⟩:=y.ok.below _ (Vz ..);subst e;exact Gi y h)|false=>cases k with|nil=>exact bN.ctl (s2:=⟨f,t,[],Yk,j⟩) h (λ_=>by rfl)|cons x k=>have m:=y.ok.items;cases x with|code a=>(cases a with|skip=>exact bN.ctl (s2:=⟨f,t,k,Yd,j⟩) h (λ_=>by rfl)|label l=>exact bN.ctl (s2:=⟨f,t,k,Yd,j⟩) h (λ_=>by rfl)|ret=>exact bN.ctl (s2:=⟨f,t,.code .ret::k,Yk,j⟩) h (λ_=>by rfl)|seq a b=>exact bN.ctl (s2:=⟨f,t,.code a::.code b::k,Yd,j⟩) h (λ_=>by rfl)|block id a=>exact bN.ctl (s2:=⟨f,t,.code a::.inBlock id::k,Yd,j⟩) h (λ_=>by rfl)|loop a=>exact bN.ctl (s2:=⟨f,t,.code a::.inLoop a::k,Yd,j⟩) h (λ_=>by rfl)|scope a=>exact bN.ctl (s2:=⟨f,t,.code a::.inScope a::k,Yd,j⟩) h (λ_=>by rfl)|refuse J=>exact(h.jc ⟨_,w,by rfl⟩).elim|exit id=>(cases z:exitTo id k with|none=>exact(h.jc ⟨_,w,by rw[fK.vU,lL z];rfl⟩).elim|some D=>exact bN.ctl (s2:=⟨f,t,D,Yd,j⟩) h (λ_=>by simp[fK.g,G,Yu,Yu.exec,eu,md,z]))|cond x a b=>(cases I:(eu f t (.code (.cond x a b)::k) .run).eval x with|bool u=>exact bN.ctl (s2:=⟨f,t,.code (if u then a else b)::k,Yd,j⟩) h λ_=>mi I|_=>exact(h.jc (mr λu e=>by simp_all)).elim)|region id g q=>(cases q with|false=>exact bN.ctl (s2:=⟨f,t,.inRegion g (List.range g.size)::k,Yd,j⟩) h (λ_=>by rfl)|true=>have E:∀w:Yn,∃u B,(choose (.order f id)).run P w=.ok u B:=λw=>⟨_,_,rfl⟩;obtain⟨u,B,e⟩:=E w;refine bN.FG (s2:=⟨f,t,.inRegion g (Region.schedule (P.follows .mixedOrders) g u)::k,Yd,j⟩) h e (λe z=>by simp_all) λw B e=>⟨#[],?_⟩;rw[fK.vU,mA,e];rfl)|rangeFunc _ _ _ _=>simp[bF,codeOk]at m|goto l=>simp[bF,codeOk]at m)|inBlock id=>exact bN.ctl (s2:=⟨f,t,k,Yd,j⟩) h (λ_=>by rfl)|inLoop a=>exact bN.ctl (s2:=⟨f,t,.code a::.inLoop a::k,Yd,j⟩) h (λ_=>by rfl)|inScope a=>exact bN.ctl (s2:=⟨f,t,k,Yd,j⟩) h (λ_=>by rfl)|inRegion g l=>(cases l with|nil=>exact bN.ctl (s2:=⟨f,t,k,Yd,j⟩) h (λ_=>by rfl)|cons i p=>cases v:((g[i]?).map (Region.wanted · (YA g t))).getD Yd with|true=>(cases C:g[i]? with|none=>simp_all|some o=>exact Mq F y h C (by simp_all))|false=>refine bN.ctl (s2:=⟨f,(match(g[i]?).bind (·.dst)with|some d=>t.setIfInBounds d YE|none=>t),.inRegion g p::k,Yd,j⟩) h λw=>(stepG_unwanted v).trans ?_;rfl)|inRangeFunc _=>simp[bF]at m|endRangeFunc _=>simp[bF]at m|beginRound=>simp[bF]at m|call _ _ _ _=>simp[bF]at m|extern _ _=>simp[bF]at m
def Fq(fr:Yy)(cs:List Yy):Prop:=
 (∃(f:YD)(t:Array Yl)(k:List YS)(ch:List PanicEntry)(st:List (YD×Array Yl×List YS)),fr=eu f t k (.panicking ch)/\cs=st.map up++[ft]/\(∀d w r sv,k.head?≠Yg (.call d w r sv))/\∀x∈st,∃ops i rest k',x.2.2=.inRegion ops (i::rest)::k')\/
 (((∃ch,fr={ft with mode:=.panicking ch})\/fr=ft\/fr={ft with mode:=.returning})/\cs=[])
theorem Fq.not{fr:Yy}(h:Fq fr [ft])(a:fr.mode=.returning):False:=by rcases h with⟨f,t,k,b,d,rfl,-⟩|⟨-,h⟩;{simp[eu]at a};cases h
theorem EL{fr:Yy}(h:Fq fr cs)(w:Yn):(∃n m w',step P (lone fr cs w)=.next (lone n m w')/\Fq n m)\/∃o w',step P (lone fr cs w)=.ended o w':=by rcases h with⟨f,t,k,j,A,rfl,rfl,B,q⟩|⟨h,rfl⟩;{(have u:(eu f t k (.panicking j)).catches P=Yd:=by unfold Yy.catches;simp only[eu];grind);(have p:∀(x:Yy)(l:List Yy),Yu P Yk {frame:=eu f t k (.panicking j),callers:=x::l,status:=.running,dying:=Yq} w=.go {frame:=x.raise j,callers:=l,status:=.running,dying:=Yq} w #[]:=by intro x l;unfold Yy.catches eu at u;simp[Yu,unwind,eu,Yy.catches];simp_all);cases A with|nil=>exact .inl ⟨_,_,w,step_lone_go (by rw[show List.map up []++[ft]=[ft]from rfl,p];rfl),.inr ⟨.inl ⟨j,rfl⟩,rfl⟩⟩|cons x l=>obtain⟨z,i,s,C,e⟩:=q x (Vz ..);refine .inl ⟨_,_,w,step_lone_go (by rw[show List.map up (x::l)++[ft]=up x::(List.map up l++[ft])from rfl,p];rfl),.inl ⟨x.1,x.2.1,x.2.2,j,l,rfl,rfl,λd w r D=>by grind,λy v=>q y (VK _ v)⟩⟩};refine ?_;rcases h with⟨j,rfl⟩|rfl|rfl;{exact .inr ⟨_,w,step_lone_ended (by rfl)⟩};{exact .inl ⟨_,_,w,step_lone_go (by rfl),.inr ⟨.inr (.inr rfl),rfl⟩⟩};exact .inr ⟨_,w,step_lone_ended (by rfl)⟩
section
theorem runN_add:∀{k:Nat}{m m':Machine},runN P i m=.next m'->runN P (i+k) m=runN P k m':=by induction i with|zero=>intro k m m' h;cases h;simp|succ i a=>intro k m m' h;rw[show i+1+k=(i+k)+1 by omega];simp only[runN]at h⊢;grind
theorem Ir{m m':Machine}(h:step P m=.next m'):runN P 1 m=.next m':=by simp[runN,h]
theorem ox:∀(n:Nat){fr:Yy}{cs:List Yy}{w:Yn},Fq fr cs->∀{fr':Yy}{w':Yn},runN P n (lone fr cs w)=.next (lone fr' [ft] w')->fr'.mode=.returning->False:=by intro n;induction n with|zero=>intro fr cs w h fr' w' e a;simp only[runN,lone,Stepped.next.injEq,Machine.mk.injEq]at e;have:=e.2.1;obtain⟨rfl,rfl⟩:=this;exact h.not a|succ n j=>intro fr cs w h fr' w' e a;simp only[runN]at e;rcases EL (P:=P) h w with⟨f,b,g,d,i⟩|⟨o,g,d⟩;{grind};simp_all
def Cj(s:fK)(w:Yn):Machine:=lone (eu s.f s.t s.k (md s.ret)) (s.st.map up++[ft]) w
theorem kQ{w1:Yn}{fr:Yy}(h:Yu P Yk (s.g [ft]) w=.go (G fr cs) w1 es):step P (Cj s w)=.next (lone fr cs w1):=step_lone_go (by have:Yu P Yk {frame:=eu s.f s.t s.k (md s.ret),callers:=s.st.map up++[ft],status:=.running,dying:=Yq} w=.go (G fr cs) w1 es:=h;rw[this];rfl)
theorem dZ.TZ{w1:Yn}(h:dZ P s w s1 w1):step P (Cj s w)=.next (Cj s1 w1):=by obtain⟨a,e⟩:=h;exact kQ e
theorem D4(h:Sn (Yu P Yk (s.g [ft]) w))(e:runN P (n+1) (Cj s w)=.next (lone fr' [ft] w'))(i:fr'.mode=.returning):False:=by simp only[runN]at e;rcases h with⟨o,a,h⟩|⟨f,t,k,b,j,a,l,h,d,g⟩;{rw[show step P (Cj s w)=.ended o a from step_lone_ended h]at e;cases e};rw[kQ h]at e;exact ox n (.inl ⟨f,t,k,b,j,rfl,rfl,d,g⟩) e i
theorem Sn.not{w1:Yn}(a:dZ P s w s1 w1)(h:Sn (Yu P Yk (s.g [ft]) w)):False:=by rcases h with h|⟨f,t,k,b,e,w1,d,h,-⟩;{exact a.jc h};exact a.vK h
def OH(s:fK):Prop:=s.ret=Yk/\s.st=[]
theorem EU(p:OH s)(e:runN P (n+1) (Cj s w)=.next (lone fr' [ft] w'))(j:fr'.mode=.returning):False:=by obtain⟨f,t,k,q,z⟩:=s;obtain⟨d,g⟩:=p;subst d g;have i:Fq ft []:=.inr ⟨.inr (.inl rfl),rfl⟩;have a:∀v,ft.finish v=ft:=λv=>rfl;simp only[runN]at e;cases b:P.funcs[f]? with|none=>rw[kQ ((fe b).trans (by rw[a]))]at e;exact ox n i e j|some m=>cases l:(results m t).run P w with|halt h r=>obtain⟨o,y,h⟩:=gA b l;rw[show step P (Cj ⟨f,t,k,Yk,[]⟩ w)=.ended o y from step_lone_ended h]at e;cases e|ok u r=>rw[kQ ((bE b l).trans (by rw[a]))]at e;exact ox n i e j
inductive Lone(P:YC)(Good:Yl->Yn->Prop):fK->Yn->Prop
 |done{s:fK}{w:Yn}{fn:Func}{v:Yl}:OH s->P.funcs[s.f]?=Yg fn->(∀T D,(results fn s.t).run P (re w T D)=.ok v (re w T D)/\Good v (re w T D))->Lone P Good s w
 |step{s:fK}{w:Yn}:¬OH s->(∀T D,∃s1 w1,dZ P s (re w T D) s1 w1)->(∀T D s1 w1,dZ P s (re w T D) s1 w1->Lone P Good s1 w1)->Lone P Good s w
section bar
variable(P)(Good:Yl->Yn->Prop)
noncomputable def vu(p:fK×Yn):(Nat->Y6->Nat)×Nat:=open Classical in
 if h:∃a:(Nat->Y6->Nat)×Nat,∀s1 w1,dZ P p.1 (re p.2 a.1 a.2) s1 w1->¬Lone P Good s1 w1 then Classical.choose h else(λ_ _=>0,0)
def Live(p:fK×Yn):Prop:=¬OH p.1/\∃q:fK×Yn,dZ P p.1 (re p.2 (vu P Good p).1 (vu P Good p).2) q.1 q.2
noncomputable def GV(p:fK×Yn):fK×Yn:=open Classical in if h:Live P Good p then Classical.choose h.2 else p
noncomputable def ia(p:fK×Yn):Nat->fK×Yn
 |0=>p
 |i+1=>GV P Good (ia p i)
noncomputable def pos(p:fK×Yn):Nat->Nat
 |0=>0
 |i+1=>open Classical in if Live P Good (ia P Good p i)then pos p i+((ia P Good p (i+1)).2.drawn-(vu P Good (ia P Good p i)).2)else pos p i
def Q4(p:fK×Yn)(i n:Nat):Prop:=pos P Good p i<=n/\(n<pos P Good p (i+1)\/¬Live P Good (ia P Good p i))
noncomputable def ye(p:fK×Yn)(n:Nat)(q:Y6):Nat:=open Classical in
 if h:∃i,Q4 P Good p i n then(vu P Good (ia P Good p (Classical.choose h))).1 ((vu P Good (ia P Good p (Classical.choose h))).2+(n-pos P Good p (Classical.choose h))) q else 0
end bar
section bar
theorem GG(k:¬Lone P Good s w)(l:¬OH s):∀d e,dZ P s (re w (vu P Good (s,w)).1 (vu P Good (s,w)).2) d e->¬Lone P Good d e:=by(have h:∃a:(Nat->Y6->Nat)×Nat,∀d e,dZ P s (re w a.1 a.2) d e->¬Lone P Good d e:=by refine Wi λj=>k ?_;refine .step l (λT D=>?_) (λT D d e g=>?_);{refine Wi λf=>j ⟨(T,D),λd e g=>absurd ⟨d,e,g⟩ f⟩};refine Wi λf=>j ⟨(T,D),λm n i=>?_⟩;obtain⟨rfl,rfl⟩:=g.TH i;exact f);unfold vu;grind
theorem zC(h:Live P Good p):dZ P p.1 (re p.2 (vu P Good p).1 (vu P Good p).2) (GV P Good p).1 (GV P Good p).2:=by unfold GV;grind
theorem As(h:¬Live P Good p):GV P Good p=p:=by unfold GV;simp_all
theorem sU(h:Live P Good (ia P Good p i)):pos P Good p (i+1)=pos P Good p i+((ia P Good p (i+1)).2.drawn-(vu P Good (ia P Good p i)).2):=by exact@if_pos _ (Classical.propDecidable _) h _ _ _
theorem yJ(h:¬Live P Good (ia P Good p i)):pos P Good p (i+1)=pos P Good p i:=by exact@if_neg _ (Classical.propDecidable _) h _ _ _
theorem IW{j:Nat}(h:i<=j):pos P Good p i<=pos P Good p j:=by induction h with|refl=>omega|@step m _ b=>by_cases a:Live P Good (ia P Good p m);{rw[sU a];omega};rw[yJ a];omega
theorem EA{j:Nat}(h:i<=j)(d:¬Live P Good (ia P Good p i)):ia P Good p j=ia P Good p i/\pos P Good p j=pos P Good p i:=by induction h with|refl=>simp|@step m _ b=>(have a:¬Live P Good (ia P Good p m):=by simp_all);exact⟨(As a).trans b.1,(yJ a).trans b.2⟩
theorem IV(h:Q4 P Good p i n)(q:Y6):ye P Good p n q=(vu P Good (ia P Good p i)).1 ((vu P Good (ia P Good p i)).2+(n-pos P Good p i)) q:=by(have g:∀{i j:Nat},i<=j->Q4 P Good p i n->Q4 P Good p j n->ia P Good p j=ia P Good p i/\pos P Good p j=pos P Good p i:=by intro i j a e f;by_cases d:Live P Good (ia P Good p i);{rcases Nat.eq_or_lt_of_le a with rfl|b;{simp};have:=IW (P:=P) (Good:=Good) (p:=p) (show i+1<=j from b);rcases e.2 with h|h;{have:=f.1;omega};simp_all};exact EA a d);have k:∃i,Q4 P Good p i n:=⟨i,h⟩;unfold ye;grind
variable(hl:Listed P c gl)
include hl
theorem wW(j:Fit P c gl p.1 p.2)(k:¬Lone P Good p.1 p.2):∀i,Fit P c gl (ia P Good p i).1 (ia P Good p i).2/\¬Lone P Good (ia P Good p i).1 (ia P Good p i).2:=by intro i;induction i with|zero=>exact⟨j,k⟩|succ i b=>show Fit P c gl (GV P Good (ia P Good p i)).1 (GV P Good (ia P Good p i)).2/\¬Lone P Good (GV P Good (ia P Good p i)).1 (GV P Good (ia P Good p i)).2;by_cases h:Live P Good (ia P Good p i);{have a:=zC h;refine⟨?_,GG b.2 h.1 _ _ a⟩;rcases(b.1.re _ _).step hl (λe d=>h.1 ⟨e,d⟩)with⟨o,q,f,n⟩|g;{obtain⟨l,m⟩:=f.TH a;simp_all};exact(g.not a).elim};rw[As h];exact b
theorem Gb(g:Fit P c gl p.1 p.2)(k:¬Lone P Good p.1 p.2)(h:Live P Good (ia P Good p i)):dZ P (ia P Good p i).1 (re (ia P Good p i).2 (ye P Good p) (pos P Good p i)) (ia P Good p (i+1)).1 (re (ia P Good p (i+1)).2 (ye P Good p) (pos P Good p (i+1))):=by have l:=zC h;obtain⟨m,n,d⟩:=l.tape hl ((wW hl g k i).1.re _ _) (λe b=>h.1 ⟨e,b⟩);have a:(ia P Good p (i+1))=GV P Good (ia P Good p i):=rfl;(have:=d (ye P Good p) (pos P Good p i) λj q o=>by have f:Q4 P Good p i (pos P Good p i+j):=⟨Wx ..,.inl (by rw[sU h,a];have:(re (ia P Good p i).2 (vu P Good (ia P Good p i)).1 (vu P Good (ia P Good p i)).2).drawn=(vu P Good (ia P Good p i)).2:=rfl;omega)⟩;rw[IV f];show _=(vu P Good (ia P Good p i)).1 ((vu P Good (ia P Good p i)).2+j) q;simp);rw[sU h,a];exact this
theorem CM(a:Fit P c gl p.1 p.2)(b:¬Lone P Good p.1 p.2):∀i,(∀l,l<i->Live P Good (ia P Good p l))->runN P i (Cj p.1 (re p.2 (ye P Good p) 0))=.next (Cj (ia P Good p i).1 (re (ia P Good p i).2 (ye P Good p) (pos P Good p i))):=by intro i;induction i with|zero=>intro _;rfl|succ i d=>intro h;rw[runN_add (d λl hl=>h l Ω)];exact Ir (Gb hl a b (h i Ω)).TZ
theorem xC(o:∀v w T D,Good v w->Good v (re w T D))(W:Fit P c gl s w)(H:∀T,∃n K w' v,runN P n (Cj s (re w T 0))=.next (lone K [ft] w')/\K.leaving P w' (.returned v)/\Good v w'):Lone P Good s w:=by refine Wi λhn=>?_;have f:Fit P c gl (s,w).1 (s,w).2:=W;have g:¬Lone P Good (s,w).1 (s,w).2:=hn;obtain⟨n,K,w',v,E,⟨C,hd,hk,J,R,h⟩,X⟩:=H (ye P Good (s,w));by_cases z:∀l,l<n->Live P Good (ia P Good (s,w) l);{have:=CM hl f g n z;rw[show Cj (s,w).1 (re (s,w).2 (ye P Good (s,w)) 0)=Cj s (re w (ye P Good (s,w)) 0)from rfl,E]at this;obtain⟨a,b⟩:=wW hl f g n;generalize ia P Good (s,w) n=q at this a b;simp only[Cj,lone,Stepped.next.injEq,Machine.mk.injEq,Array.mk.injEq,XR,Ys.mk.injEq,and_true]at this;obtain⟨rfl,rfl,A⟩:=this;(have B:OH q.1:=by refine⟨?_,?_⟩;{cases E:q.1.ret with|true=>rfl|false=>rw[E]at C;cases C};cases hq:q.1.st with|nil=>rfl|cons x l=>rw[hq]at A;have:=congrArg List.length A;grind);refine b (.done (v:=v) B R λT D=>?_);(have O:∀e∈(results J q.1.t).events P (re q.2 (ye P Good (s,w)) (pos P Good (s,w) n)) #[],e.loc≠.output:=by obtain⟨ok,r,L,y,-⟩:=a.re (ye P Good (s,w)) (pos P Good (s,w) n);have:=jJ J y.t (P:=P) _ _ L;rw[show(results J q.1.t).run P (re q.2 (ye P Good (s,w)) (pos P Good (s,w) n))=_ from h]at this;obtain⟨_,_,r1,_,_,_,l1⟩:=this;exactλe V=>(l1 e V).Aw);obtain⟨-,-,M⟩:=yC _ h O;have N:=M T D λj q Z=>absurd Z Ω;rw[Nat.sub_self]at N;exact⟨N,o v (re q.2 (ye P Good (s,w)) (pos P Good (s,w) n)) T D X⟩};(have:∃i,i<n/\¬Live P Good (ia P Good (s,w) i)/\∀l,l<i->Live P Good (ia P Good (s,w) l):=by(have Q:∃i,i<n/\¬Live P Good (ia P Good (s,w) i):=by simp_all);obtain⟨i,hi⟩:=Q;induction i using Nat.strongRecOn with|_ i ih=>grind);obtain⟨i,Y,d,u⟩:=this;have L:=CM hl f g i u;obtain⟨k,rfl⟩:∃k,n=i+(k+1):=⟨n-i-1,by omega⟩;have y:=runN_add (k:=k+1) L;rw[show Cj (s,w).1 (re (s,w).2 (ye P Good (s,w)) 0)=Cj s (re w (ye P Good (s,w)) 0)from rfl,E]at y;obtain⟨a,b⟩:=wW hl f g i;by_cases F:OH (ia P Good (s,w) i).1;{exact EU F y.symm C};rcases(a.re (ye P Good (s,w)) (pos P Good (s,w) i)).step hl (λe I=>F ⟨e,I⟩)with⟨s1,w1,M,N⟩|U;{obtain⟨-,-,S⟩:=M.tape hl (a.re _ _) (λe I=>F ⟨e,I⟩);(have:=S (vu P Good (ia P Good (s,w) i)).1 (vu P Good (ia P Good (s,w) i)).2 λj q _=>by show _=ye P Good (s,w) (pos P Good (s,w) i+j) q;rw[IV (i:=i) ⟨Wx ..,.inr d⟩,Nat.add_sub_cancel_left]);exact d ⟨F,(s1,_),this⟩};exact D4 U y.symm C
end bar
end
structure Env(own RO:Nat->Prop)(CU:Nat->Nat->Prop)(v v1:Yn):Prop where
 keep:∀k,own k\/RO k->v1.heap[k]?=v.heap[k]?
 cut:∀k n,CU k n->∀(x:Array Yl)(t:Yz)(fr:Nat×Nat),v.heap[k]?=Yg (.cells x t fr)->∃x' fr',v1.heap[k]?=Yg (.cells x' t fr')/\x'.size=x.size/\∀o,o<n->x'[o]?=x[o]?
 grow:v.heap.size<=v1.heap.size
def UH(own RO:Nat->Prop)(CU:Nat->Nat->Prop)(e:YV):Prop:=
 (∃k,(match e.loc with|.cell a=>a.block=k|.obj j=>j=k|_=>False)/\(own k\/(RO k/\e.write=Yd))/\e.sync=Yd)\/(∃k n o,CU k n/\o<n/\e=⟨.cell ⟨k,o,Yq⟩,Yd,Yd⟩)\/e.loc=.mark .noRoom\/∃f,e.loc=.mark (.extern f)
def more(own:Nat->Prop)(v v':Yn):Nat->Prop:=λk=>own k\/(v.heap.size<=k/\k<v'.heap.size)
structure ln(own RO:Nat->Prop)(CU:Nat->Nat->Prop)(v v':Yn)(es:Array YV):Prop where
 keep:∀k,k<v.heap.size->¬own k->v'.heap[k]?=v.heap[k]?
 grow:v.heap.size<=v'.heap.size
 os:v'.os=v.os
 out:v'.output=v.output
 tape:v'.tape=v.tape
 evs:∀e∈es,UH (more own v v') RO CU e
inductive Loc(P:YC)(main:Bool)(RO:Nat->Prop)(CU:Nat->Nat->Prop)(Stop:(Nat->Prop)->Ys->Yn->Prop):(Nat->Prop)->Ys->Yn->Prop
 |stop{own:Nat->Prop}{g:Ys}{v:Yn}:Stop own g v->Loc P main RO CU Stop own g v
 |step{own:Nat->Prop}{g:Ys}{v:Yn}:g.status=.running->(∀v1,Env own RO CU v v1->∃g' v' es,Yu P main g v1=.go g' v' es/\ln own RO CU v1 v' es)->
  (∀v1 g' v' es,Env own RO CU v v1->Yu P main g v1=.go g' v' es->Loc P main RO CU Stop (more own v1 v') g' v')->Loc P main RO CU Stop own g v
structure Reach(c:eh)(r:bK)(own RO:Nat->Prop)(CU:Nat->Nat->Prop)(v:Yn):Prop where
 BR:∀b k,r b=Yg k->own k\/(c.seen b/\(RO k\/CU k (c.NQ b)))
 old:∀k,own k\/RO k->k<v.heap.size
theorem eb.env(h:eb c r w v)(z:Reach c r own RO CU v)(f:Env own RO CU v v1):eb c r (Go.ab.re w v1.tape v1.drawn) v1:=⟨h.qy,λb k e=>Vv (h.BR b k e) f.grow,h.inj,h.rQ,h.hid,λb k e=>by have:=h.blk b k e;rcases z.BR b k e with g|⟨C,g|g⟩;{rw[f.keep k (.inl g)];exact this};{rw[f.keep k (.inr g)];exact this};show sK c r b w.heap[b]? v1.heap[k]?;revert this;generalize w.heap[b]?=J;generalize j:v.heap[k]?=I;intro this;cases this with|@seen x A t m q s l D y e=>obtain⟨K,p,o,F,E⟩:=f.cut k _ g A m q j;rw[o];refine .seen t m p s l Ω y λi u H a b d=>?_;grind|own n _=>simp_all,rfl,rfl,h.old,h.aI,h.jO.1,VG h.jO.2 f.grow⟩
theorem Reach.env(a:Reach c r own RO CU v)(b:Env own RO CU v v1):Reach c r own RO CU v1:=⟨a.BR,λk h=>Vv (a.old k h) b.grow⟩
theorem Ext.mine(h:Ext c r w v r' w' v')(m:Reach c r own RO CU v)(u:∀e∈es,tR c r' e):ln own RO CU v v' es/\Reach c r' (more own v v') RO CU v':=by have q:=h.size;have D:=h.grow;(have f:∀b k,r' b=Yg k->more own v v' k\/(c.seen b/\(RO k\/CU k (c.NQ b))):=λb k e=>by rcases V2 b w.heap.size with g|g;{rw[h.zy b g]at e;rcases m.BR b k e with x|x;{exact .inl (.inl x)};simp_all};have n:=h.rel.qy b k e;have o:=h.rel.BR b k e;rw[h.new b g n]at e;cases e;exact .inl (.inr ⟨by omega,o⟩));refine⟨⟨λk d E=>h.keep k d λb g=>?_,by omega,h.os,h.out,h.tape,λe y=>?_⟩,f,λk d=>?_⟩;{rcases m.BR b k g with x|x;{simp_all};grind};{rcases u e y with⟨b,g,F,l⟩|x;{(have:∃k,(match e.loc with|.cell a=>a.block=k/\(c.seen b->a.off<c.NQ b/\a.spot=Yq)|.obj j=>j=k/\¬c.seen b|_=>False)/\r' b=Yg k:=by grind);obtain⟨k,n,o⟩:=this;(have i:(match e.loc with|.cell a=>a.block=k|.obj j=>j=k|_=>False):=by grind);rcases f b k o with x|⟨q,x|x⟩;{exact .inl ⟨k,i,.inl x,l⟩};{refine .inl ⟨k,i,.inr ⟨x,?_⟩,l⟩;simp_all};refine .inr (.inl ?_);obtain⟨p,I,H⟩:=e;cases p with|cell a=>obtain⟨rfl,t⟩:=n;obtain⟨B,C⟩:=t q;obtain⟨z,A,s⟩:=a;grind|obj j=>simp_all|_=>grind};exact .inr (.inr x)};rcases d with(d|d)|d;{have:=m.old k (.inl d);omega};{exact d.2};have:=m.old k (.inr d);omega
structure Left(c:eh)(r:bK)(own RO:Nat->Prop)(v:Yn)(own1:Nat->Prop)(v1:Yn):Prop where
 keep:∀k,own k\/RO k->(∀b,r b=Yg k->c.seen b)->v1.heap[k]?=v.heap[k]?
 mine:∀k,own1 k->own k\/v.heap.size<=k
 more:∀k,own k->own1 k
 grow:v.heap.size<=v1.heap.size
theorem Left.refl(c:eh)(r:bK)(own RO:Nat->Prop)(v:Yn):Left c r own RO v own v:=⟨λ_ _ _=>rfl,λ_ h=>.inl h,λ_ h=>h,Vu _⟩
theorem Left.after{own1:Nat->Prop}{v2:Yn}(n:Reach c r own RO CU v)(m:Env own RO CU v v1)(f:Ext c r w v1 r' w' v')(h:Left c r' (Go.ab.more own v1 v') RO v' own1 v2):Left c r own RO v own1 v2:=by have q:=f.size;have p:=f.grow;have j:=m.grow;(have l:∀b k,k<v1.heap.size->r' b=Yg k->r b=Yg k:=λb k a e=>by rcases V2 b w.heap.size with d|d;{rw[<-f.zy b d];exact e};have i:=f.rel.qy b k e;rw[f.new b d i]at e;grind);refine⟨λk a d=>?_,λk a=>?_,λk a=>h.more k (.inl a),by have:=h.grow;omega⟩;{have g:k<v1.heap.size:=Vv (n.old k a) j;rw[h.keep k (a.imp .inl id) λb e=>d b (l b k g e),f.keep k g d,m.keep k a]};rcases h.mine k a with(i|i)|i;{grind};{omega};omega
theorem Lone.loc(hl:Listed P c gl)(h:Lone P Good s w):∀{r:bK}{own:Nat->Prop}{v:Yn}{s':fK},FF P c gl s->(∃T D,eb c r (re w T D) v)->vd c r s s'->(∀g,gl g=Yk->r g=Yg g)->Reach c r own RO CU v->(∀a x u p n v1,r.le a->Good u n->eb c a n v1->ai c a u p->Reach c a x RO CU v1->Left c r own RO v x v1->Loc P main RO CU Stop x (G (caller.finish p) cs) v1)->Loc P main RO CU Stop own (s'.g (caller::cs)) v:=by induction h with|@done s w U u ht H hd=>intro r own v s' hs⟨T,D,Z⟩Y W b K;obtain⟨f,t,k,ret,st⟩:=s;obtain⟨f',t',k',M,st'⟩:=s';obtain⟨e1,J,e2,e3,I⟩:=Y;simp only at e1 J e2 e3 I H;obtain⟨h1,h2⟩:=ht;simp only at h1 h2;subst f' k' M h1 h2;cases I;(have q:∀v1,Env own RO CU v v1->∃p j a,Yu P main ((fK.mk f t' k Yk []).g (caller::cs)) v1=.go (G (caller.finish p) cs) j (seen P f ((results U t').events P v1 #[]))/\Ext c r (re w v1.tape v1.drawn) v1 a (re w v1.tape v1.drawn) j/\ai c a u p/\(∀e∈seen P f ((results U t').events P v1 #[]),tR c a e):=by intro v1 d;have E:eb c r (re w v1.tape v1.drawn) v1:=Z.env b d;have A:=jJ U J (P:=P) _ _ E;rw[(hd v1.tape v1.drawn).1]at A;obtain⟨p,j,a,o,l,y,i⟩:=A;exact⟨p,j,a,bE H o,l,y,λe C=>i e (mem_seen C)⟩);refine .step rfl (λv1 d=>?_) (λv1 g' v' B d C=>?_);{obtain⟨p,j,a,o,l,y,i⟩:=q v1 d;exact⟨_,_,_,o,(l.mine (b.env d) i).1⟩};obtain⟨p,j,a,o,l,y,i⟩:=q v1 d;rw[o]at C;injection C with O Q R;subst O Q R;exact K a _ u p _ j l.le (hd v1.tape v1.drawn).2 l.rel y (l.mine (b.env d) i).2 (Left.after b d l (Left.refl ..))|@step s w X V hall ih=>intro r own v s' hs⟨T,D,Z⟩Y W b K;(have q:∀v1,Env own RO CU v v1->∃z n m j a B,dZ P s (re w v1.tape v1.drawn) z n/\FF P c gl z/\Yu P main (s'.g (caller::cs)) v1=.go (m.g (caller::cs)) j B/\Ext c r (re w v1.tape v1.drawn) v1 a n j/\vd c a z m/\(∀e∈B,tR c a e):=by intro v1 d;have E:eb c r (re w v1.tape v1.drawn) v1:=Z.env b d;rcases yA (main:=main) (bs:=caller::cs) hl W E Y hs (λe e'=>X ⟨e,e'⟩)with⟨z,n,S,o,l,m,j,a,B,y,i,N,F⟩|hb;{exact⟨z,n,m,j,a,B,⟨S,o⟩,l,y,i,N,F⟩};obtain⟨z,n,o⟩:=V v1.tape v1.drawn;exact(hb.not o).elim);refine .step rfl (λv1 d=>?_) (λv1 g' v' B d C=>?_);{obtain⟨z,n,m,j,a,B,o,l,y,i,N,F⟩:=q v1 d;exact⟨_,_,_,y,(i.mine (b.env d) F).1⟩};obtain⟨z,n,m,j,a,es',o,l,y,i,N,F⟩:=q v1 d;rw[y]at C;injection C with O Q R;subst O Q R;refine ih v1.tape v1.drawn z n o l ⟨n.tape,n.drawn,i.rel⟩ N (λg e=>i.le _ _ (W g e)) (i.mine (b.env d) F).2 λr2 L u p w2 v3 c1 c2 c3 c4 c5 c6=>?_;exact K r2 L u p w2 v3 (bK.le_trans i.le c1) c2 c3 c4 c5 (Left.after b d i c6)
def entry(f:YD)(fn:Func)(b:YZ)(args:Array Yl):fK:=⟨f,args++Array.replicate (fn.ntmps-args.size) YE,[.code b],Yd,[]⟩
theorem uT(p:Listed P c gl){b:YZ}(a:∀v w T D,Good v w->Good v (re w T D))(d:Fit P c gl (entry f fn b args) w)(m:P.funcs[f]?=Yg fn)(l:fn.body=Yg b)(H:∀T,Calls P f args (re w T 0) R)(k:∀e w',R e w'->∃v,e=.returned v/\Good v w'):Lone P Good (entry f fn b args) w:=by refine xC p a d λT=>?_;obtain⟨e,w',g,h,i,s,j⟩:=H T [ft];obtain⟨v,rfl,o⟩:=k e w' h;obtain⟨n,q⟩:=i;refine⟨n,g,w',v,?_,j,o⟩;rw[<-q];congr 1;rw[gT args m,l];rfl
theorem Loc.call(q:Listed P c gl){b:YZ}{args':Array Yl}(j:∀v w T D,Good v w->Good v (re w T D))(E:∀e w',R e w'->∃v,e=.returned v/\Good v w')(o:P.funcs[f]?=Yg fn)(p:c.fns f=Yk)(n:fn.body=Yg b)(t:∀g,gl g=Yk->r g=Yg g)(a:ak c r args args')(i:eb c r w v)(s:Reach c r own RO CU v)(H:∀T,Calls P f args (re w T 0) R)(K:∀m d u A B v1,r.le m->Good u B->eb c m B v1->ai c m u A->Reach c m d RO CU v1->Left c r own RO v d v1->Loc P main RO CU Stop d (G (caller.finish A) cs) v1):Loc P main RO CU Stop own (G (Yy.enter P f args' .normal) (caller::cs)) v:=by(have z:FF P c gl (entry f fn b args):=by refine⟨trivial,?_,λx F=>by simp[entry]at F⟩;obtain⟨I,h|⟨h,C⟩⟩:=q.body f fn p o;{simp_all};rw[n]at h;cases h;simp[entry,bF,C]);have y:vd c r (entry f fn b args) (entry f fn b args'):=⟨rfl,by show ak c r (args++_) (args'++_);rw[a.size];exact a.append (.replicate _ gq),rfl,rfl,.nil⟩;have l:=Fit.Qx z i y t;have k:=uT q j l o n H E;have:=k.loc q (main:=main) (RO:=RO) (CU:=CU) (Stop:=Stop) (caller:=caller) (cs:=cs) z ⟨w.tape,w.drawn,i⟩ y t s K;rw[gT args' o,n];exact this
structure gM where
 k:Nat
 low:Nat
 t:Yz
 x:Array Yl
def gM.obj(s:gM):YQ:=.cells s.x (if s.low=0 then s.t else w9) (0,s.x.size)
def gu(g:Nat)(ws:List gM)(v:Yn):Yn:={v with heap:=Array.replicate g (.cells #[] 0)++(ws.map gM.obj).toArray}
def jz(P:YC)(fns:YD->Bool)(ws:List gM):eh:=
 {fns:=fns,seen:=λb=>P.globals.size<=b/\b<P.globals.size+ws.length,NQ:=λb=>if b<P.globals.size then 0 else((ws[b-P.globals.size]?).map λs=>s.x.size).getD 0,aI:=P.globals.size,
   low:=λb=>if b<P.globals.size then 0 else((ws[b-P.globals.size]?).map λs=>s.low).getD 0}
def kR(g:Nat)(ws:List gM):bK:=λb=>if b<g then Yq else(ws[b-g]?).map λs=>s.k
theorem fB{ws:List gM}{k:Nat}(h:kR g ws b=Yg k):∃(i:Nat)(s:gM),b=g+i/\ws[i]?=Yg s/\s.k=k/\i<ws.length:=by unfold kR at h;grind
theorem KU{ws:List gM}{s:gM}(h:ws[i]?=Yg s):kR g ws (g+i)=Yg s.k:=by unfold kR;simp_all
theorem kT(g:Nat)(ws:List gM)(v:Yn):(gu g ws v).heap.size=g+ws.length:=by simp[gu]
theorem wy{ws:List gM}{s:gM}(h:ws[i]?=Yg s):(gu g ws v).heap[g+i]?=Yg s.obj:=by show(Array.replicate g _++_)[g+i]?=_;grind
theorem A8{ws:List gM}(h:b<g):(gu g ws v).heap[b]?=Yg (.cells #[] 0):=by show(Array.replicate g _++_)[b]?=_;grind
theorem gS{ws:List gM}{o:Nat}{s:gM}{u:Yl}(h:ws[i]?=Yg s)(a:s.x[o]?=Yg u):(gu g ws v).cell? ⟨g+i,o,Yq⟩=Yg u:=by simp[Yn.cell?,wy h,gM.obj,a]
structure uS(P:YC)(fns:YD->Bool)(ws:List gM)(v:Yn):Prop where
 jO:P.globals.size<=v.heap.size
 bad:P.info? w9=Yq
 at_:∀(i:Nat)(s:gM),ws[i]?=Yg s->∃(x':Array Yl)(t':Yz)(fr:Nat×Nat),v.heap[s.k]?=Yg (.cells x' t' fr)/\s.x.size<=x'.size/\(s.low=0->s.t=t')/\
  ∀(j:Nat)(u u':Yl),s.low<=j->s.x[j]?=Yg u->x'[j]?=Yg u'->ai (jz P fns ws) (kR P.globals.size ws) u u'
theorem uS.rel{ws:List gM}(h:uS P fns ws v):eb (jz P fns ws) (kR P.globals.size ws) (gu P.globals.size ws v) v:=by refine⟨λb k e=>?_,λb k e=>?_,λb D k e w=>?_,λb g=>?_,λb g _=>A8 g,λb k e=>?_,rfl,rfl,λb g=>?_,λb k e q=>?_,?_⟩;{obtain⟨i,s,rfl,f,y,m⟩:=fB e;rw[kT];omega};{obtain⟨i,s,rfl,f,rfl,m⟩:=fB e;obtain⟨C,t,o,p,-⟩:=h.at_ i s f;grind};{obtain⟨i,s,rfl,f,y,m⟩:=fB e;obtain⟨I,J,rfl,x,z,A⟩:=fB w;exact .inr ⟨⟨Wx _ _,by omega⟩,⟨Wx _ _,by omega⟩⟩};{show(if b<P.globals.size then 0 else _)=0;split;{rfl};rename_i H;(have:ws[b-P.globals.size]?=Yq:=by rw[List.getElem?_eq_none_iff];have:¬(P.globals.size<=b/\b<P.globals.size+ws.length):=g;omega);simp_all};{obtain⟨i,s,rfl,f,rfl,m⟩:=fB e;obtain⟨C,t,o,p,B,E,F⟩:=h.at_ i s f;rw[wy f,p];(have l:(jz P fns ws).low (P.globals.size+i)=s.low:=by show(if _<_ then 0 else _)=_;grind);refine .seen _ t o ⟨Wx _ _,by omega⟩ ?_ B ⟨λn=>?_,λn=>?_⟩ λj u K a b d=>?_;{show _<=(if _<_ then 0 else _);grind};{simp_all};{rw[l]at n;rw[if_neg n];exact⟨rfl,Wx _ _⟩};grind};{rw[kT];exact g.2};{obtain⟨i,s,rfl,f,rfl,m⟩:=fB e;have q:P.globals.size+i<P.globals.size:=q;omega};exact⟨by rw[kT];show P.globals.size<=_;omega,h.jO⟩
theorem yv{ws:List gM}{off:Nat}{s:gM}(h:ws[i]?=Yg s)(a:s.low<=off):dh (jz P fns ws) (kR P.globals.size ws) ⟨P.globals.size+i,off,Yq⟩ ⟨s.k,off,Yq⟩:=by refine⟨KU h,rfl,rfl,?_⟩;(have b:¬(P.globals.size+i<P.globals.size):=by omega);show(if P.globals.size+i<P.globals.size then 0 else((ws[P.globals.size+i-P.globals.size]?).map λs=>s.low).getD 0)<=off;grind
section
section bar
variable(P)(Good:fK->Yn->Prop)
end bar
section bar
variable{Good:fK->Yn->Prop}
variable(hl:Listed P c gl)(hGood:∀s w T D,Good s w->Good s (re w T D))
include hl hGood
end bar
end
end
end Go.ab
namespace Go.Mx
variable{i N:Nat}
structure Wd where
 L:Bool
 W:Bool
 S:Bool
 n:Nat
 deriving DecidableEq
def Wd.enc(w:Wd):Nat:=w.L.toNat+2*w.W.toNat+4*w.S.toNat+8*w.n
def Wd.zero:Wd:=⟨Yd,Yd,Yd,0⟩
theorem Wd.wL{w v:Wd}(h:w.enc=v.enc):w=v:=by obtain⟨a,b,c,n⟩:=w;obtain⟨d,e,f,g⟩:=v;cases a<;>cases b<;>cases c<;>cases d<;>cases e<;>cases f<;>simp[Wd.enc]at h⊢<;>omega
inductive Th
 |out|c0
 |ld(aw st:Bool)
 |cs(old:Wd)
 |ca(old:Wd)(aw st:Bool)
 |sq|t2
 |a1(old:Wd)(st:Bool)
 |hold|u0
 |uc(old:Wd)
 |ux|us
def nw(o:Wd)(aw st:Bool):Wd:=⟨!o.S||o.L,!aw&&o.W,o.S||(st&&o.L),if o.L||o.S then o.n+1 else o.n⟩
inductive Mv:Th->Wd->Nat->Th->Wd->Nat->Prop
 |start{w:Wd}{m:Nat}:Mv .out w m .c0 w m
 |P'{m:Nat}:Mv .c0 ⟨Yd,Yd,Yd,0⟩ m .hold ⟨Yk,Yd,Yd,0⟩ m
 |Kj{w:Wd}{m:Nat}:w≠⟨Yd,Yd,Yd,0⟩->Mv .c0 w m (.ld Yd Yd) w m
 |TC{w:Wd}{m:Nat}{aw st:Bool}:Mv (.ld aw st) w m (.ld aw st) w m
 |UT{w:Wd}{m:Nat}{st:Bool}:w.L=Yk->w.S=Yd->w.W=Yd->w.n≠0->Mv (.ld Yd st) w m (.cs w) w m
 |Rd{w:Wd}{m:Nat}{aw st:Bool}:Mv (.ld aw st) w m (.ca w aw st) w m
 |Pv{w:Wd}{m:Nat}:Mv (.cs w) w m (.ld Yk Yd) {w with W:=Yk} m
 |MC{o w:Wd}{m:Nat}:w≠o->Mv (.cs o) w m (.ld Yd Yd) w m
 |Kh{w:Wd}{m:Nat}{aw st:Bool}:w.L=Yd->w.S=Yd->Mv (.ca w aw st) w m .hold (nw w aw st) m
 |LO{w:Wd}{m:Nat}{aw st:Bool}:(w.L||w.S)=Yk->Mv (.ca w aw st) w m .sq (nw w aw st) m
 |Kx{o w:Wd}{m:Nat}{aw st:Bool}:Mv (.ca o aw st) w m (.ld aw st) w m
 |Rs{o w:Wd}{m:Nat}{st:Bool}:o.L=Yk->o.S=Yd->o.W=Yd->o.n≠0->Mv (.ca o Yd st) w m (.cs o) w m
 |LP{o w:Wd}{m:Nat}{aw st:Bool}:w≠o->Mv (.ca o aw st) w m (.ld aw st) w m
 |take{w:Wd}{m:Nat}:Mv .sq w (m+1) .t2 w m
 |SB{w:Wd}{m:Nat}{st:Bool}:w.S=Yk->Mv .t2 w m (.a1 w st) w m
 |Td{w:Wd}{m:Nat}{st:Bool}:w.S=Yd->Mv .t2 w m (.ca w Yk st) w m
 |Tz{w:Wd}{m:Nat}{st:Bool}:w.S=Yd->Mv .t2 w m (.ld Yk st) w m
 |add{w o:Wd}{m:Nat}{st:Bool}:Mv (.a1 o st) w m .hold ⟨Yk,w.W,st&&o.n !=1,w.n-1⟩ m
 |want{w:Wd}{m:Nat}:Mv .hold w m .u0 w m
 |SE{w:Wd}{m:Nat}:w.S=Yk->Mv .u0 w m .us {w with L:=Yd} m
 |OC{w:Wd}{m:Nat}:w.S=Yd->w.n=0\/w.W=Yk->Mv .u0 w m .out {w with L:=Yd} m
 |Tn{w:Wd}{m:Nat}:w.S=Yd->w.n≠0->w.W=Yd->Mv .u0 w m (.uc {w with L:=Yd}) {w with L:=Yd} m
 |Oc{w:Wd}{m:Nat}:Mv (.uc w) w m .us {w with W:=Yk,n:=w.n-1} m
 |KJ{o w:Wd}{m:Nat}:w≠o->Mv (.uc o) w m .ux w m
 |Qi{w:Wd}{m:Nat}:w.n=0\/w.L=Yk\/w.W=Yk\/w.S=Yk->Mv .ux w m .out w m
 |Se{w:Wd}{m:Nat}:w.n≠0->w.L=Yd->w.W=Yd->w.S=Yd->Mv .ux w m (.uc w) w m
 |BE{w:Wd}{m:Nat}:Mv .us w m .out w (m+1)
def qt:Th->Bool|.hold|.u0=>Yk|_=>Yd
def BS:Th->Bool|.us|.t2|.a1 _ _=>Yk|.ld aw _=>aw|.ca _ aw _=>aw|_=>Yd
def pQ:Th->Bool|.sq=>Yk|_=>Yd
def JP:Th->Bool|.us=>Yk|_=>Yd
def DI:Th->Bool|.t2|.a1 _ _=>Yk|_=>Yd
def JM:Th->Bool|.ld aw _=>aw|.ca _ aw _=>aw|_=>Yd
def Q8:Th->Bool|.uc _|.ux=>Yk|_=>Yd
def cnt(p:Th->Bool)(f:Nat->Th):Nat->Nat
 |0=>0
 |N+1=>cnt p f N+(p (f N)).toNat
def upd(f:Nat->Th)(i:Nat)(x:Th):Nat->Th:=λj=>if j=i then x else f j
theorem mQ{p:Th->Bool}{f g:Nat->Th}:∀{N:Nat},(∀j,j<N->p (f j)=p (g j))->cnt p f N=cnt p g N|0,_=>rfl|N+1,h=>by simp only[cnt];rw[mQ λj b=>h j Ω,h N Ω]
theorem kX(p:Th->Bool)(f:Nat->Th)(x:Th):∀{N:Nat},i<N->cnt p (upd f i x) N+(p (f i)).toNat=cnt p f N+(p x).toNat|N+1,h=>by simp only[cnt];rcases WK (XS h)with b|rfl;{have:=kX p f x b;(have e:upd f i x N=f N:=by simp[upd];omega);grind};(have:cnt p (upd f i x) i=cnt p f i:=mQ λj c=>by simp[upd];grind);rw[this];simp[upd];omega
theorem pC{p:Th->Bool}{f:Nat->Th}:∀{N i:Nat},i<N->p (f i)=Yk->1<=cnt p f N|N+1,i,h,c=>by simp only[cnt];rcases WK (XS h)with b|rfl;{have:=pC b c;omega};simp_all
theorem pw{p:Th->Bool}{f:Nat->Th}:∀{N i j:Nat},i<j->j<N->p (f i)=Yk->p (f j)=Yk->2<=cnt p f N|N+1,i,j,b,h,c,e=>by simp only[cnt];rcases WK (XS h)with d|rfl;{have:=pw b d c e;omega};have:=pC b c;simp_all
def fM(w:Wd):Th->Prop
 |.ld aw st=>st=Yk->aw=Yk
 |.ca o aw st=>(st=Yk->aw=Yk)/\(aw=Yk->o.W=Yk)
 |.cs o=>o.L=Yk/\o.S=Yd/\o.W=Yd/\o.n≠0
 |.a1 o _=>w.S=Yk/\w.L=Yd/\1<=o.n/\o.n<=w.n
 |.uc o=>o.L=Yd/\o.W=Yd/\o.S=Yd/\o.n≠0
 |_=>True
structure Inv(f:Nat->Th)(N:Nat)(w:Wd)(m:Nat):Prop where
 i1:cnt qt f N=w.L.toNat
 i2:cnt BS f N+m=(w.W||(w.S&&!w.L)).toNat
 i3:¬(w.W=Yk/\w.S=Yk)
 i4:if w.W then cnt pQ f N=w.n+m+cnt JP f N else if w.S&&!w.L then cnt pQ f N+cnt DI f N=w.n else cnt pQ f N=w.n
 i5:w.L=Yd->w.W=Yd->w.S=Yd->w.n≠0->1<=cnt Q8 f N
 i6:w.S=Yk->w.n≠0
 i8:w.W=Yd->cnt JM f N=0
 loc:∀i,i<N->fM w (f i)
section
theorem vz(f:Nat->Th)(N:Nat):cnt BS f N=cnt JP f N+cnt DI f N+cnt JM f N:=by induction N with|zero=>rfl|succ N c=>simp only[cnt];(have:∀t:Th,(BS t).toNat=(JP t).toNat+(DI t).toNat+(JM t).toNat:=by intro t;cases t with|ld a b=>cases a<;>rfl|ca o a b=>cases a<;>rfl|_=>rfl);grind
section
variable{f:Nat->Th}{w w':Wd}{m m':Nat}{x:Th}
theorem wP(a:i<N)(c:fM w' x)(h:∀j,j<N->j≠i->fM w' (f j)):∀j,j<N->fM w' (upd f i x j):=by intro j b;unfold upd;grind
theorem Iu{t:Th}(h:fM w t)(j:w.S=Yk->w.L=Yd->w'.S=Yk/\w'.L=Yd/\w.n<=w'.n):fM w' t:=by cases t with|a1 o l=>obtain⟨d,e,g,k⟩:=h;obtain⟨a,b,c⟩:=j d e;exact⟨a,b,g,by omega⟩|_=>exact h
set_option maxHeartbeats 4000000 in theorem Inv.step(h:Inv f N w m)(c:i<N)(u:Mv (f i) w m x w' m'):Inv (upd f i x) N w' m':=by have g:=kX qt f x c;have k:=kX JP f x c;have l:=kX DI f x c;have q:=kX JM f x c;have r:=kX pQ f x c;have s:=kX Q8 f x c;have s1:=vz f N;have s2:=vz (upd f i x) N;have v:=h.loc i c;have d:∀p:Th->Bool,p (f i)=Yk->1<=cnt p f N:=λp Z=>pC c Z;obtain⟨J,K,M,O,P,Q,R,e⟩:=h;have a:fM w' x->(w.S=Yk->w.L=Yd->w'.S=Yk/\w'.L=Yd/\w.n<=w'.n)->∀j,j<N->fM w' (upd f i x j):=λE F=>wP c E λj t _=>Iu (e j t) F;have H:fM w' x->(∀j,j<N->j≠i->fM w' (f j))->∀j,j<N->fM w' (upd f i x j):=wP c;(have b:fM w' x->(2<=cnt DI f N->False)->DI (f i)=Yk->∀j,j<N->fM w' (upd f i x j):=λE F T=>wP c E λj t I=>by have:=e j t;cases V:f j with|a1 o Y=>refine(F ?_).elim;(have U:DI (f j)=Yk:=by rw[V];rfl);rcases Nat.lt_or_gt_of_ne I with G|G;{exact pw G c U T};exact pw G t T U|_=>rw[V]at this;exact this);have z:=d qt;have A:=d JP;have B:=d DI;have C:=d JM;clear d;generalize hy:f i=y at u g k l q r s v z A B C b;clear hy;obtain⟨L,W,S,n⟩:=w;cases y with|ld D Y=>cases D<;>cases L<;>cases W<;>cases S<;>cases u<;>(try dsimp only[Bool.or_true,Bool.or_false,Bool.true_or,Bool.false_or]at*)<;>(try contradiction)<;>(try simp only[V4,or_false,false_or]at*)<;>(simp[qt,JP,DI,JM,pQ,Q8,nw,fM]at J K M O P Q R g k l q r s v z A B C<;>(refine⟨?_,?_,?_,?_,?_,?_,?_,?_⟩<;>first|(simp[nw]<;>omega)|omega|(refine a ?_ ?_<;>simp[fM,nw]<;>omega)|(refine a ⟨‹_›,‹_›,‹_›,‹_›⟩ ?_;simp;done)|(refine a ⟨‹_›,‹_›,‹_›,‹_›⟩ ?_;simp;omega)|(refine b ?_ (λX=>?_) rfl<;>(try simp[fM,nw])<;>omega)))|ca o D Y=>cases D<;>cases L<;>cases W<;>cases S<;>cases u<;>(try dsimp only[Bool.or_true,Bool.or_false,Bool.true_or,Bool.false_or]at*)<;>(try contradiction)<;>(try simp only[V4,or_false,false_or]at*)<;>(simp[qt,JP,DI,JM,pQ,Q8,nw,fM]at J K M O P Q R g k l q r s v z A B C<;>(refine⟨?_,?_,?_,?_,?_,?_,?_,?_⟩<;>first|(simp[nw]<;>omega)|omega|(refine a ?_ ?_<;>simp[fM,nw]<;>omega)|(refine a ⟨‹_›,‹_›,‹_›,‹_›⟩ ?_;simp;done)|(refine a ⟨‹_›,‹_›,‹_›,‹_›⟩ ?_;simp;omega)|(refine b ?_ (λX=>?_) rfl<;>(try simp[fM,nw])<;>omega)))|_=>cases L<;>cases W<;>cases S<;>cases u<;>(try dsimp only[Bool.or_true,Bool.or_false,Bool.true_or,Bool.false_or]at*)<;>(try contradiction)<;>(try simp only[V4,or_false,false_or]at*)<;>(simp[qt,JP,DI,JM,pQ,Q8,nw,fM]at J K M O P Q R g k l q r s v z A B C<;>(refine⟨?_,?_,?_,?_,?_,?_,?_,?_⟩<;>first|(simp[nw]<;>omega)|omega|(refine a ?_ ?_<;>simp[fM,nw]<;>omega)|(refine b ?_ (λX=>?_) rfl<;>(try simp[fM,nw])<;>omega)))
end
end
theorem oJ{p:Th->Bool}{f:Nat->Th}:∀{N:Nat},(∀i,i<N->p (f i)=Yd)->cnt p f N=0|0,_=>rfl|N+1,h=>by simp only[cnt];rw[oJ λi b=>h i Ω,h N Ω];rfl
theorem Inv.KO{f:Nat->Th}{w:Wd}(h:Inv f N w 0)(b:∀i,i<N->f i=.out\/f i=.sq):∀i,i<N->f i=.out:=by(have z:∀p:Th->Bool,p .out=Yd->p .sq=Yd->cnt p f N=0:=λp l m=>oJ λi a=>by grind);obtain⟨c,d,q,g,j,r,s,k⟩:=h;rw[z qt rfl rfl]at c;rw[z BS rfl rfl]at d;rw[z JP rfl rfl,z DI rfl rfl]at g;rw[z Q8 rfl rfl]at j;obtain⟨L,W,S,n⟩:=w;(have o:cnt pQ f N=0:=by grind);intro i a;rcases b i a with e|e;{exact e};have:=pC (p:=pQ) (f:=f) a (by rw[e];rfl);omega
def wt:Th->Nat
 |.uc _|.ux=>5
 |.us=>4
 |.t2|.a1 _ _=>2
 |.ld aw _|.ca _ aw _=>if aw then 1 else 2
 |.cs _=>2
 |.c0=>2
 |_=>0
end Go.Mx
namespace Go.Rk
variable{α:Type}
inductive Rk(α:Type)where
 |z
 |s(f:α->Rk α)
def Lt{α:Type}(a b:Rk α):Prop:=∃f x,b=.s f/\a=f x
theorem Lt.Vo:WellFounded (Lt (α:=α)):=by refine⟨λa=>?_⟩;induction a with|z=>exact⟨_,λb⟨f,x,h,_⟩=>by cases h⟩|s g c=>refine⟨_,λb⟨f,x,h,e⟩=>?_⟩;cases h;rw[e];exact c x
abbrev Ep{α:Type}:Rk α->Rk α->Prop:=Relation.TransGen Lt
theorem Lt.wf:WellFounded (Ep (α:=α)):=Lt.Vo.transGen
theorem rI(f:α->Rk α)(x:α):Ep (f x) (.s f):=.single ⟨f,x,rfl,rfl⟩
theorem TK(f:α->Rk α)(x:α):Ep (f x) (.s λ_=>.s f):=.tail (.single ⟨f,x,rfl,rfl⟩) ⟨_,x,rfl,rfl⟩
def Q9{α:Type}(N:Nat)(V' V:Nat->Rk α):Prop:=∃i,i<N/\Ep (V' i) (V i)/\∀j,j≠i->V' j=V j
theorem Q9.wf{α:Type}:∀N:Nat,WellFounded (Q9 (α:=α) N)|0=>⟨λV=>⟨_,λc⟨i,h,_⟩=>absurd h (Wu i)⟩⟩|N+1=>by have j:=Q9.wf (α:=α) N;(have f:∀d:Rk α,∀V:Nat->Rk α,V N=d->Acc (Q9 (N+1)) V:=by intro d;induction Lt.wf.apply d with|intro d _ l=>intro V;induction j.apply V with|intro V _ e=>intro g;refine⟨_,λc⟨i,k,b,a⟩=>?_⟩;rcases WK (XS k)with h|rfl;{exact e c ⟨i,h,b,a⟩ ((a N Ω).trans g)};exact l (c i) (g▸b) c rfl);exact⟨λV=>f _ V rfl⟩
end Go.Rk
namespace Go.Cr
open Go.Conc Go.Mx Go.Rk
section
open Go.ConcR(KK WgAt stA smA rd wr mk)
open Go.ConcM(OsLater)
variable{g g':Ys}{own' O:Nat->Prop}{es:Array YV}{v':Yn}
section
structure Cx where
 P:YC
 RO:Nat->Prop
 mu:Nat
 mo:Nat
 pre:Array Yl
 tP:Yz
 mm:Nat
 Cy:Array Y2->Prop
 wg:Nat
 tW:Yz
 out:Nat
 tO:Yz
 no:Nat
 oc:Nat->Nat->Prop
 res:Nat->Yl
 base:Nat
 n:Nat
 End:Ys->Yn->Prop
 w0:Yn
 solo:Prop
 halt:(Nat->Prop)->Ys->Yn->Prop
 tY:Int->Int->YQ
variable(C:Cx)
def Cx.muA:YT:=⟨C.mu,C.mo,Yq⟩
def Cx.msA:YT:=⟨C.mu,C.mo+1,Yq⟩
def az(v:Yn)(s q:Int):Prop:=v.heap[C.mu]?=Yg (.cells (C.pre++#[.int .i32 s,.int .u32 q]) C.tP)
def cI(v:Yn)(w:Wd)(q:Nat):Prop:=az C v w.enc q
def SJ(v:Yn)(es:Array Y2):Prop:=∃ck,v.heap[C.mm]?=Yg (.map es ck)
def ax(v:Yn):Prop:=∃es,SJ C v es/\C.Cy es
def C1(v:Yn):Prop:=∃cs:Array Yl,v.heap[C.out]?=Yg (.cells cs C.tO)/\cs.size=C.no
structure c8(v:Yn):Prop where
 port:∃s q,az C v s q
 gr:∃st sm,v.heap[C.wg]?=Yg (C.tY st sm)
 u6:C1 C v
structure W0(w:Yn):Prop where
 os:OsLater C.w0.os w.os
 out:w.output=C.w0.output
 tape:w.tape=C.w0.tape
structure Cx.Ok:Prop where
 pre:C.pre.size=C.mo
 lT:C.mu≠C.mm
 fX:C.mu≠C.wg
 fN:C.mu≠C.out
 nO:C.mm≠C.wg
 mg:C.mm≠C.out
 iH:C.wg≠C.out
 ro:∀k,C.RO k->k≠C.mu/\k≠C.mm/\k≠C.wg/\k≠C.out
 oc:∀i j o,C.oc i o->C.oc j o->i=j
 Ve:∀o,¬C.oc 0 o
structure Env(i:Nat)(own:Nat->Prop)(v v1:Yn):Prop where
 keep:∀k,own k\/C.RO k->v1.heap[k]?=v.heap[k]?
 grow:v.heap.size<=v1.heap.size
 aI:c8 C v->c8 C v1
 B1:∀o,C.oc i o->v1.cell? ⟨C.out,o,Yq⟩=v.cell? ⟨C.out,o,Yq⟩
def Cx.CU(k n:Nat):Prop:=k=C.mu/\n<=C.mo
def Cx.wk(i:Nat):Prop:=i≠0\/C.solo
def rV(own:Nat->Prop)(e:YV):Prop:=ab.UH own C.RO (λ_ _=>False) e\/∃o,o<C.mo/\e=⟨.cell ⟨C.mu,o,Yq⟩,Yd,Yd⟩
structure ln(own:Nat->Prop)(v v':Yn)(es:Array YV):Prop where
 keep:∀k,k<v.heap.size->¬own k->v'.heap[k]?=v.heap[k]?
 grow:v.heap.size<=v'.heap.size
 os:v'.os=v.os
 out:v'.output=v.output
 tape:v'.tape=v.tape
 evs:∀e∈es,rV C (ab.more own v v') e
structure TD(i:Nat)(v v':Yn)(es:Array YV):Prop where
 keep:∀k,k≠C.out->v'.heap[k]?=v.heap[k]?
 size:v'.heap.size=v.heap.size
 os:v'.os=v.os
 out:v'.output=v.output
 tape:v'.tape=v.tape
 blk:C1 C v->C1 C v'
 cells:∀o,¬C.oc i o->v'.cell? ⟨C.out,o,Yq⟩=v.cell? ⟨C.out,o,Yq⟩
 evs:∀e∈es,∃o,C.oc i o/\e=⟨.cell ⟨C.out,o,Yq⟩,Yk,Yd⟩
def Fin(i:Nat)(v:Yn):Prop:=∀o,C.oc i o->v.cell? ⟨C.out,o,Yq⟩=Yg (C.res o)
structure DL(w w':Yn)(es:Array YV):Prop where
 heap:w'.heap=w.heap
 tape:w'.tape=w.tape
 out:w'.output=w.output
 os:OsLater w.os w'.os
 evs:es=#[]
structure Md where
 hold:Bool
 deaf:Bool
 tok:Bool
 said:Bool
def Md.free:Md:=⟨Yd,Yd,Yd,Yd⟩
def Md.bG:Md:=⟨Yd,Yk,Yd,Yd⟩
def Md.mM:Md:=⟨Yk,Yk,Yd,Yd⟩
def Md.BM:Md:=⟨Yk,Yd,Yd,Yd⟩
def Md.own:Md:=⟨Yk,Yd,Yk,Yd⟩
def Md.zk:Md:=⟨Yd,Yd,Yd,Yk⟩
def Md.vD:Md:=⟨Yd,Yk,Yd,Yk⟩
def fc(m:Md)(own:Nat->Prop):Nat->Prop:=λk=>own k\/(m.tok=Yk/\k=C.mm)
inductive iJ(i:Nat):Md->Mark->Md->Prop
 |Q6:iJ i .free .disable .bG
 |Kq:iJ i .BM .disable .mM
 |LM:iJ i .zk .disable .vD
 |en:iJ i .bG .enable .free
 |Tk:iJ i .mM .enable .BM
 |acq:iJ i .BM (.acquire C.muA) .own
 |Eb:iJ i .own (.releaseMerge C.muA) .BM
 |Ef:i≠0->iJ i .free (.releaseMerge (stA C.wg)) .zk
 |sr{m:Md}:i=0->m.tok=Yd->iJ i m (.read (smA C.wg)) m
section stops
variable(i:Nat)(own:Nat->Prop)
abbrev cJ(S:Ys->Yn->Prop)(n:Nat)(g:Ys)(w:Yn):Prop:=Goes C.P (i==0) (Env C i own) DL S n g w
section lock
variable(H:Wd->Bool->Bool->Nat->Ys->Yn->Prop)(Q:Ys->Yn->Prop)
def vf(aw st:Bool)(it:Nat)(g:Ys)(w:Yn):Prop:=
 g.status=.running/\∀wd q,cI C w wd q->(aw=Yk->wd.W=Yk)->∃g',Yu C.P (i==0) g w=.go g' w #[]/\∃n,cJ C i own (H wd aw st it) n g' w
def Pj(o:Wd)(it:Nat)(g:Ys)(w:Yn):Prop:=
 g.status=.running/\∀wd q,cI C w wd q->
   (wd=o->∃g',Yu C.P (i==0) g w=.go g' (w.setCell C.muA (.int .i32 ({wd with W:=Yk}:Wd).enc)) #[rd C.muA,wr C.muA]/\∃n,cJ C i own (vf C i own H Yk Yd (it+1)) n g' (w.setCell C.muA (.int .i32 ({wd with W:=Yk}:Wd).enc)))/\
   (wd≠o->∃g',Yu C.P (i==0) g w=.go g' w #[rd C.muA]/\∃n,cJ C i own (vf C i own H Yd Yd (it+1)) n g' w)
def AtA1(o:Wd)(st:Bool)(g:Ys)(w:Yn):Prop:=
 g.status=.running/\∀wd q,cI C w wd q->wd.n<100000000->wd.L=Yd->wd.S=Yk->wd.n≠0->
   ∃g',Yu C.P (i==0) g w=.go g' (w.setCell C.muA (.int .i32 (⟨Yk,wd.W,st&&o.n !=1,wd.n-1⟩:Wd).enc)) #[rd C.muA,wr C.muA]/\Q g' (w.setCell C.muA (.int .i32 (⟨Yk,wd.W,st&&o.n !=1,wd.n-1⟩:Wd).enc))
def MA(g:Ys)(w:Yn):Prop:=
 g.status=.running/\∃st,∀wd q,cI C w wd q->wd.n<100000000->(wd.S=Yk->wd.L=Yd/\wd.W=Yd/\wd.n≠0)->(wd.S=Yd->wd.W=Yk)->∃g',Yu C.P (i==0) g w=.go g' w #[]/\
   (wd.S=Yk->∃n,cJ C i own (AtA1 C i Q wd st) n g' w)/\(wd.S=Yd->∃n,cJ C i own (H wd Yk st 0) n g' w)
def EI(g:Ys)(w:Yn):Prop:=
 g.status=.running/\g.offers=Yq/\(∀wd,cI C w wd 0->Yu C.P (i==0) g w=.go {g with status:=.blocked} w #[])/\
   ∀wd q,cI C w wd (q+1)->∃g',Yu C.P (i==0) g w=.go g' (w.setCell C.msA (.int .u32 (q:Nat))) (semEvents C.msA)/\∃n,cJ C i own (MA C i own H Q) n g' (w.setCell C.msA (.int .u32 (q:Nat)))
def P9(o:Wd)(aw st:Bool)(it:Nat)(g:Ys)(w:Yn):Prop:=
 g.status=.running/\∀wd q,cI C w wd q->
   (wd=o->∃g',Yu C.P (i==0) g w=.go g' (w.setCell C.muA (.int .i32 (nw o aw st).enc)) #[rd C.muA,wr C.muA]/\
    (o.L=Yd->o.S=Yd->Q g' (w.setCell C.muA (.int .i32 (nw o aw st).enc)))/\((o.L||o.S)=Yk->∃n,cJ C i own (EI C i own H Q) n g' (w.setCell C.muA (.int .i32 (nw o aw st).enc))))/\
   (wd≠o->∃g',Yu C.P (i==0) g w=.go g' w #[rd C.muA]/\∃n,cJ C i own (vf C i own H aw st it) n g' w)
def gy(o:Wd)(aw st:Bool)(it:Nat)(g:Ys)(w:Yn):Prop:=
 (it<4/\vf C i own H aw st (it+1) g w)\/(it<4/\o.L=Yk/\o.S=Yd/\o.W=Yd/\o.n≠0/\aw=Yd/\Pj C i own H o it g w)\/P9 C i own H Q o aw st it g w
def iU:Prop:=∀o aw st it g w,it<=4->(aw=Yk->o.W=Yk)->(st=Yk->aw=Yk)->o.n<100000000->H o aw st it g w->∃n,cJ C i own (gy C i own H Q o aw st it) n g w
end lock
section unlock
variable(HU:Wd->Ys->Yn->Prop)(Q:Ys->Yn->Prop)
def Ba(g:Ys)(w:Yn):Prop:=
 g.status=.running/\mayWake C.P g=Yk/\∀wd q,q<100000000->cI C w wd q->∃g',Yu C.P (i==0) g w=.go g' (w.setCell C.msA (.int .u32 (q+1:Nat))) (semEvents C.msA)/\∃n,cJ C i own Q n g' (w.setCell C.msA (.int .u32 (q+1:Nat)))
def JV(g:Ys)(w:Yn):Prop:=
 g.status=.running/\∀wd q,cI C w wd q->wd.n<100000000->∃g',Yu C.P (i==0) g w=.go g' w #[]/\
   (wd.n=0\/wd.L=Yk\/wd.W=Yk\/wd.S=Yk->∃n,cJ C i own Q n g' w)/\(wd.n≠0->wd.L=Yd->wd.W=Yd->wd.S=Yd->∃n,cJ C i own (HU wd) n g' w)
def E'(o:Wd)(g:Ys)(w:Yn):Prop:=
 g.status=.running/\∀wd q,cI C w wd q->
   (wd=o->∃g',Yu C.P (i==0) g w=.go g' (w.setCell C.muA (.int .i32 ({wd with W:=Yk,n:=wd.n-1}:Wd).enc)) #[rd C.muA,wr C.muA]/\∃n,cJ C i own (Ba C i own Q) n g' (w.setCell C.muA (.int .i32 ({wd with W:=Yk,n:=wd.n-1}:Wd).enc)))/\
   (wd≠o->∃g',Yu C.P (i==0) g w=.go g' w #[rd C.muA]/\∃n,cJ C i own (JV C i own HU Q) n g' w)
def AZ:Prop:=∀o g w,o.L=Yd->o.W=Yd->o.S=Yd->o.n≠0->o.n<100000000->HU o g w->∃n,cJ C i own (E' C i own HU Q o) n g w
def Qz(g:Ys)(w:Yn):Prop:=
 g.status=.running/\∀wd q,cI C w wd q->wd.L=Yk->wd.n<100000000->
   ∃g',Yu C.P (i==0) g w=.go g' (w.setCell C.muA (.int .i32 ({wd with L:=Yd}:Wd).enc)) #[rd C.muA,wr C.muA]/\
     (wd.S=Yk->∃n,cJ C i own (Ba C i own Q) n g' (w.setCell C.muA (.int .i32 ({wd with L:=Yd}:Wd).enc)))/\
     (wd.S=Yd->(wd.n=0\/wd.W=Yk)->∃n,cJ C i own Q n g' (w.setCell C.muA (.int .i32 ({wd with L:=Yd}:Wd).enc)))/\
     (wd.S=Yd->wd.n≠0->wd.W=Yd->∃n,cJ C i own (E' C i own HU Q {wd with L:=Yd}) n g' (w.setCell C.muA (.int .i32 ({wd with L:=Yd}:Wd).enc)))
end unlock
def O5(H:Wd->Bool->Bool->Nat->Ys->Yn->Prop)(Q:Ys->Yn->Prop)(g:Ys)(w:Yn):Prop:=
 g.status=.running/\∀wd q,cI C w wd q->
   (wd=⟨Yd,Yd,Yd,0⟩->∃g',Yu C.P (i==0) g w=.go g' (w.setCell C.muA (.int .i32 1)) #[rd C.muA,wr C.muA]/\Q g' (w.setCell C.muA (.int .i32 1)))/\
   (wd≠⟨Yd,Yd,Yd,0⟩->∃g',Yu C.P (i==0) g w=.go g' w #[rd C.muA]/\∃n,cJ C i own (vf C i own H Yd Yd 0) n g' w)
def AtD4(g:Ys)(w:Yn):Prop:=
 g.status=.running/\mayWake C.P g=Yk/\(WgAt C.tW C.wg w 0 0->∃g',Yu C.P (i==0) g w=.go g' (w.setCell (smA C.wg) (.int .u32 1)) (semEvents (smA C.wg))/\∃q,QuitsD C.P q 1 g')
def AtD3(g:Ys)(w:Yn):Prop:=
 g.status=.running/\(WgAt C.tW C.wg w 1 0->∃g',Yu C.P (i==0) g w=.go g' (w.setCell (stA C.wg) (.int .u64 0)) #[wr (stA C.wg)]/\∃n,cJ C i own (AtD4 C i) n g' (w.setCell (stA C.wg) (.int .u64 0)))
def AtD2(g:Ys)(w:Yn):Prop:=
 g.status=.running/\(WgAt C.tW C.wg w 1 0->∃g',Yu C.P (i==0) g w=.go g' w #[rd (stA C.wg)]/\∃n,cJ C i own (AtD3 C i own) n g' w)
def AtD1(g:Ys)(w:Yn):Prop:=
 g.status=.running/\∀v wt:Nat,wt<=1->v<100000000->WgAt C.tW C.wg w ((v+1)*KK+wt) 0->
   ∃g',Yu C.P (i==0) g w=.go g' (w.setCell (stA C.wg) (.int .u64 (v*KK+wt))) #[rd (stA C.wg),wr (stA C.wg)]/\
     ((v=0/\wt=1)->∃n,cJ C i own (AtD2 C i own) n g' (w.setCell (stA C.wg) (.int .u64 (v*KK+wt))))/\(¬(v=0/\wt=1)->∃q,QuitsD C.P q 1 g')
section wait
variable(A:Ys->Yn->Prop)
def AtAcq(g:Ys)(w:Yn):Prop:=
 g.status=.running/\∃g',Yu C.P (i==0) g w=.go g' w #[mk (.acquire (stA C.wg))]/\(c8 C w->(∀j,Fin C j w)->cI C w ⟨Yd,Yd,Yd,0⟩ 0->W0 C w->C.End g' w)
def AtKe(g:Ys)(w:Yn):Prop:=
 g.status=.running/\∃g',Yu C.P (i==0) g w=.go g' w #[mk .enable]/\∃n,cJ C i own (AtAcq C i) n g' w
def AtW4(g:Ys)(w:Yn):Prop:=
 g.status=.running/\(WgAt C.tW C.wg w 0 0->∃g',Yu C.P (i==0) g w=.go g' w #[rd (stA C.wg)]/\∃n,cJ C i own (AtKe C i own) n g' w)
def AtW3(g:Ys)(w:Yn):Prop:=
 g.status=.running/\g.offers=Yq/\((∃st,WgAt C.tW C.wg w st 0)->Yu C.P (i==0) g w=.go {g with status:=.blocked} w #[])/\
   (WgAt C.tW C.wg w 0 1->∃g',Yu C.P (i==0) g w=.go g' (w.setCell (smA C.wg) (.int .u32 0)) (semEvents (smA C.wg))/\∃n,cJ C i own (AtW4 C i own) n g' (w.setCell (smA C.wg) (.int .u32 0)))
def Re(g:Ys)(w:Yn):Prop:=
 g.status=.running/\∃g',Yu C.P (i==0) g w=.go g' w #[mk (.write (smA C.wg))]/\∃n,cJ C i own (AtW3 C i own) n g' w
def AtW2(vs:Nat)(g:Ys)(w:Yn):Prop:=
 g.status=.running/\∀v:Nat,v<100000000->WgAt C.tW C.wg w (v*KK) 0->
   (v=vs->∃g',Yu C.P (i==0) g w=.go g' (w.setCell (stA C.wg) (.int .u64 (v*KK+1))) #[rd (stA C.wg),wr (stA C.wg)]/\∃n,cJ C i own (Re C i own) n g' (w.setCell (stA C.wg) (.int .u64 (v*KK+1))))/\
   (v≠vs->∃g',Yu C.P (i==0) g w=.go g' w #[rd (stA C.wg)]/\∃n,cJ C i own A n g' w)
def AtW1(g:Ys)(w:Yn):Prop:=
 g.status=.running/\∀v:Nat,v<100000000->WgAt C.tW C.wg w (v*KK) 0->∃g',Yu C.P (i==0) g w=.go g' w #[rd (stA C.wg)]/\
   (v=0->∃n,cJ C i own (AtKe C i own) n g' w)/\(v≠0->∃n,cJ C i own (AtW2 C i own A v) n g' w)
def yn:Prop:=∀g w,A g w->∃n,cJ C i own (AtW1 C i own A) n g w
end wait
def UR(c:Nat->Ys->Yn->Prop)(g:Ys)(w:Yn):Prop:=
 g.status=.running/\∀v:Nat,v<100000000->WgAt C.tW C.wg w (v*KK) 0->
   ∃g',Yu C.P (i==0) g w=.go g' (w.setCell (stA C.wg) (.int .u64 ((v+1)*KK))) #[rd (stA C.wg),wr (stA C.wg)]/\c v g' (w.setCell (stA C.wg) (.int .u64 ((v+1)*KK)))
end stops
abbrev Ix:=Ys×Yn×Yn
inductive fC:Nat->Nat->Md->Rk Ix->(Nat->Prop)->Ys->Yn->Prop
 |step{i j:Nat}{m:Md}{f:Ix->Rk Ix}{own:Nat->Prop}{g:Ys}{v:Yn}:g.status=.running->m.said=Yd->
  (∀v1,Env C i (fc C m own) v v1->∃g' v' es,Yu C.P (i==0) g v1=.go g' v' es/\ln C (fc C m own) v1 v' es)->
  (∀v1 g' v' es,Env C i (fc C m own) v v1->Yu C.P (i==0) g v1=.go g' v' es->fC i j m (f (g',v1,v')) (ab.more own v1 v') g' v')->fC i j m (.s f) own g v
 |idle{i j:Nat}{m:Md}{f:Ix->Rk Ix}{own:Nat->Prop}{g:Ys}{v:Yn}:g.status=.running->
  (∀v1,Env C i (fc C m own) v v1->∃g' v',Yu C.P (i==0) g v1=.go g' v' #[]/\DL v1 v' #[])->
  (∀v1 g' v' es,Env C i (fc C m own) v v1->Yu C.P (i==0) g v1=.go g' v' es->fC i j m (f (g',v1,v')) own g' v')->fC i j m (.s f) own g v
 |mark{i j:Nat}{m m':Md}{k:Mark}{f:Ix->Rk Ix}{own:Nat->Prop}{g:Ys}{v:Yn}:g.status=.running->iJ C i m k m'->
  (∀v1,Env C i (fc C m own) v v1->∃g',Yu C.P (i==0) g v1=.go g' v1 #[mk k])->(k=.releaseMerge C.muA->m=.own/\ax C v)->(k=.releaseMerge (stA C.wg)->Fin C i v)->
  (∀v1 g' v' es,Env C i (fc C m own) v v1->(k=.acquire C.muA->ax C v1)->Yu C.P (i==0) g v1=.go g' v' es->fC i j m' (f (g',v1,v1)) own g' v1)->fC i j m (.s f) own g v
 |lock{i j:Nat}{f:Ix->Rk Ix}{own:Nat->Prop}{g:Ys}{v:Yn}(H:Wd->Bool->Bool->Nat->Ys->Yn->Prop)(Q:Ys->Yn->Prop):g.status=.running->C.wk i->
  (∀g v1 v2,Q g v1->Env C i own v1 v2->Q g v2)->iU C i own H Q->(∀v1,Env C i own v v1->O5 C i own H Q g v1)->
  (∀g' v1,Env C i own v v1->Q g' v1->fC i j .mM (f (g',v1,v1)) own g' v1)->fC i j .bG (.s λ_=>.s f) own g v
 |unlock{i j:Nat}{f:Ix->Rk Ix}{own:Nat->Prop}{g:Ys}{v:Yn}(HU:Wd->Ys->Yn->Prop)(Q:Ys->Yn->Prop):g.status=.running->C.wk i->
  (∀g v1 v2,Q g v1->Env C i own v1 v2->Q g v2)->AZ C i own HU Q->(∀v1,Env C i own v v1->Qz C i own HU Q g v1)->
  (∀g' v1,Env C i own v v1->Q g' v1->fC i j .bG (f (g',v1,v1)) own g' v1)->fC i j .mM (.s λ_=>.s f) own g v
 |put{i j:Nat}{f:Ix->Rk Ix}{own:Nat->Prop}{g:Ys}{v:Yn}:g.status=.running->i≠0->
  (∀v1,Env C i own v v1->c8 C v1->∃g' v' es,Yu C.P (i==0) g v1=.go g' v' es/\TD C i v1 v' es)->
  (∀v1 g' v' es,Env C i own v v1->c8 C v1->Yu C.P (i==0) g v1=.go g' v' es->fC i j .free (f (g',v1,v')) own g' v')->fC i j .free (.s f) own g v
 |done{i j:Nat}{own:Nat->Prop}{g:Ys}{v:Yn}:i≠0->(∀v1,Env C i own v v1->AtD1 C i own g v1)->fC i j .vD (.s λ_=>.z) own g v
 |add{i x:Nat}{f:Ix->Rk Ix}{own:Nat->Prop}{g:Ys}{v:Yn}(c:Nat->Ys->Yn->Prop):i=0->(∀v1,Env C i own v v1->UR C i c g v1)->
  (∀v1 y g',Env C i own v v1->c y g' v1->fC i (2*x+1) .bG (f (g',v1,v1)) own g' v1)->fC i (2*x) .bG (.s f) own g v
 |spawn{i x:Nat}{f ρ:Ix->Rk Ix}{own ownc:Nat->Prop}{g:Ys}{v:Yn}:i=0->g.status=.running->x<C.n->(∀k,ownc k->own k)->
  (∀v1,Env C i own v v1->∃g' child,Yu C.P (i==0) g v1=.spawn g' child v1 #[]/\child.status=.running)->
  (∀v1 g' child v' es,Env C i own v v1->Yu C.P (i==0) g v1=.spawn g' child v' es->fC (C.base+x) 0 .free (ρ (child,v1,v1)) ownc child v1)->
  (∀v1 g' child v' es,Env C i own v v1->Yu C.P (i==0) g v1=.spawn g' child v' es->fC i (2*x+2) .free (f (g',v1,v1)) (λk=>own k/\¬ownc k) g' v1)->
  fC i (2*x+1) .free (.s f) own g v
 |wait{i:Nat}{own:Nat->Prop}{g:Ys}{v:Yn}(A:Ys->Yn->Prop):i=0->yn C i own A->(∃n,cJ C i own A n g v)->fC i (2*C.n) .bG .z own g v
 |stop{i j:Nat}{own:Nat->Prop}{g:Ys}{v:Yn}:C.solo->g.status=.running->(∀v1,Env C i own v v1->C.halt own g v1)->fC i j .free .z own g v
end
section
variable{C:Cx}{i j:Nat}{m:Md}{own:Nat->Prop}{v v1 v2:Yn}
theorem Env.refl:Env C i own v v:=⟨λ_ _=>rfl,Vu _,id,λ_ _=>rfl⟩
theorem Env.trans(h:Env C i own v v1)(k:Env C i own v1 v2):Env C i own v v2:=⟨λx b=>(k.keep x b).trans (h.keep x b),VG h.grow k.grow,λx=>k.aI (h.aI x),λo a=>(k.B1 o a).trans (h.B1 o a)⟩
theorem Env.sub(h:Env C i own v v1)(b:∀k,own' k->own k):Env C i own' v v1:=⟨λk a=>h.keep k (a.imp (b k) id),h.grow,h.aI,h.B1⟩
theorem Env.fH(h:Env C i (fc C m own) v v1):Env C i own v v1:=h.sub λ_ a=>.inl a
theorem Env.Mk(h:Env C i own v v1)(b:m.tok=Yd):Env C i (fc C m own) v v1:=h.sub λ_ a=>a.resolve_right (by simp[b])
theorem Env.Vm(l:C.pre.size=C.mo)(a:c8 C v)(h:Env C i O v v1):ab.Env O C.RO C.CU v v1:=⟨h.keep,λk n e x t f p=>by obtain⟨rfl,o⟩:=e;obtain⟨s,q,c⟩:=a.port;obtain⟨u,r,d⟩:=(h.aI a).port;unfold az at c d;grind,h.grow⟩
theorem bJ(a b c:Yn)(h:Env C i own a b)(k:Env C i own b c):Env C i own a c:=h.trans k
theorem ax.env(h:ax C v)(e:Env C i own v v1)(f:own C.mm):ax C v1:=by obtain⟨b,⟨a,d⟩,c⟩:=h;exact⟨b,⟨a,(e.keep _ (.inl f)).trans d⟩,c⟩
theorem Fin.env(h:Fin C i v)(b:Env C i own v v1):Fin C i v1:=λo a=>(b.B1 o a).trans (h o a)
theorem fC.env{ρ:Rk Ix}(h:fC C i j m ρ own g v)(b:Env C i (fc C m own) v v1):fC C i j m ρ own g v1:=by cases h with|step d f k p=>exact .step d f (λx a=>k x (b.trans a)) λx l q o a=>p x l q o (b.trans a)|idle d f k=>exact .idle d (λx a=>f x (b.trans a)) λx l q o a=>k x l q o (b.trans a)|mark d f k p s t=>exact .mark d f (λx a=>k x (b.trans a)) (λe=>⟨(p e).1,(p e).2.env b (by rw[(p e).1];exact .inr ⟨rfl,rfl⟩)⟩) (λe=>(s e).env b) λx l q o a=>t x l q o (b.trans a)|lock H Q d r f k p s=>exact .lock H Q d r f k (λx a=>p x (b.fH.trans a)) λl x a=>s l x (b.fH.trans a)|unlock H Q d r f k p s=>exact .unlock H Q d r f k (λx a=>p x (b.fH.trans a)) λl x a=>s l x (b.fH.trans a)|put d r f k=>exact .put d r (λx a=>f x (b.fH.trans a)) λx l q o a=>k x l q o (b.fH.trans a)|done r d=>exact .done r λx a=>d x (b.fH.trans a)|add c d f k=>exact .add c d (λx a=>f x (b.fH.trans a)) λx y l a=>k x y l (b.fH.trans a)|spawn d f k p s t u=>exact .spawn d f k p (λx a=>s x (b.fH.trans a)) (λx l c q o a=>t x l c q o (b.fH.trans a)) λx l c q o a=>u x l c q o (b.fH.trans a)|wait A d f k=>exact .wait A d f (k.imp λn w=>w.rely bJ b.fH)|stop d f k=>exact .stop d f λx a=>k x (b.fH.trans a)
theorem fC.running{ρ:Rk Ix}(h:fC C i j m ρ own g v):g.status=.running\/∃n A,cJ C i own A n g v/\yn C i own A:=by cases h with|wait A b a d=>grind|done _ h=>exact .inl (h v .refl).1|add c b a=>exact .inl (a v .refl).1|_=>simp_all
def ae(C:Cx)(i j:Nat)(m:Md)(own:Nat->Prop)(g:Ys)(v:Yn):Prop:=∃ρ,fC C i j m ρ own g v
open Classical in
noncomputable def yN(p:Ix->Rk Ix->Prop)(x:Ix):Rk Ix:=if h:∃ρ,p x ρ then Classical.choose h else .z
theorem fA{p:Ix->Rk Ix->Prop}{x:Ix}(h:∃ρ,p x ρ):p x (yN p x):=by unfold yN;grind
theorem ae.env(h:ae C i j m own g v)(a:Env C i (fc C m own) v v1):ae C i j m own g v1:=h.imp λ_ k=>k.env a
theorem xP{w w':Yn}{es':Array YV}(h:GStep.go g w es=.go g' w' es'):g=g'/\w=w'/\es=es':=by simp_all
theorem ae.step(q:g.status=.running)(o:m.said=Yd)(h:∀v1,Env C i (fc C m own) v v1->∃g' d es,Yu C.P (i==0) g v1=.go g' d es/\ln C (fc C m own) v1 d es/\ae C i j m (ab.more own v1 d) g' d):ae C i j m own g v:=by refine⟨.s (yN λx f=>fC C i j m f (ab.more own x.2.1 x.2.2) x.1 x.2.2),.step q o (λx k=>?_) λx g' d es k e=>?_⟩;{grind};obtain⟨n,v2,l,a,_,c⟩:=h x k;rw[a]at e;obtain⟨rfl,rfl,rfl⟩:=xP e;exact fA (p:=λx f=>fC C i j m f (ab.more own x.2.1 x.2.2) x.1 x.2.2) c
theorem ae.idle(l:g.status=.running)(h:∀v1,Env C i (fc C m own) v v1->∃g' b,Yu C.P (i==0) g v1=.go g' b #[]/\DL v1 b #[]/\ae C i j m own g' b):ae C i j m own g v:=by refine⟨.s (yN λx d=>fC C i j m d own x.1 x.2.2),.idle l (λx f=>?_) λx g' b n f e=>?_⟩;{grind};obtain⟨k,v2,a,_,c⟩:=h x f;rw[a]at e;obtain⟨rfl,rfl,rfl⟩:=xP e;exact fA (p:=λx d=>fC C i j m d own x.1 x.2.2) c
theorem cM(w:Yn):DL w w #[]:=⟨rfl,rfl,rfl,.refl _,rfl⟩
theorem ae.ctl(a:g.status=.running)(h:∀w,Yu C.P (i==0) g w=.go g' w #[])(k:ae C i j m own g' v):ae C i j m own g v:=.idle a λx b=>⟨g',x,h x,cM x,k.env b⟩
theorem ae.mark{m':Md}{k:Mark}(r:g.status=.running)(q:iJ C i m k m')(l:k=.releaseMerge C.muA->m=.own/\ax C v)(n:k=.releaseMerge (stA C.wg)->Fin C i v)(h:∀v1,Env C i (fc C m own) v v1->∃g',Yu C.P (i==0) g v1=.go g' v1 #[mk k]/\((k=.acquire C.muA->ax C v1)->ae C i j m' own g' v1)):ae C i j m own g v:=by refine⟨.s (yN λx b=>fC C i j m' b own x.1 x.2.1),.mark r q (λx d=>?_) l n λx g' u t d o e=>?_⟩;{grind};obtain⟨f,a,c⟩:=h x d;rw[a]at e;obtain⟨rfl,rfl,rfl⟩:=xP e;exact fA (p:=λx b=>fC C i j m' b own x.1 x.2.1) (c o)
theorem ae.lock(d:C.wk i)(H:Wd->Bool->Bool->Nat->Ys->Yn->Prop)(Q:Ys->Yn->Prop)(l:g.status=.running)(c:∀g v1 v2,Q g v1->Env C i own v1 v2->Q g v2)(b:iU C i own H Q)(h:∀v1,Env C i own v v1->O5 C i own H Q g v1)(k:∀g' v1,Env C i own v v1->Q g' v1->ae C i j .mM own g' v1):ae C i j .bG own g v:=⟨_,.lock H Q l d c b h λg' x n e=>fA (p:=λx a=>fC C i j .mM a own x.1 x.2.1) (k g' x n e)⟩
theorem ae.unlock(e:C.wk i)(a:Wd->Ys->Yn->Prop)(Q:Ys->Yn->Prop)(n:g.status=.running)(d:∀g v1 v2,Q g v1->Env C i own v1 v2->Q g v2)(c:AZ C i own a Q)(h:∀v1,Env C i own v v1->Qz C i own a Q g v1)(k:∀g' v1,Env C i own v v1->Q g' v1->ae C i j .bG own g' v1):ae C i j .mM own g v:=⟨_,.unlock a Q n e d c h λg' x o l=>fA (p:=λx b=>fC C i j .bG b own x.1 x.2.1) (k g' x o l)⟩
theorem ae.put(o:i≠0)(q:g.status=.running)(h:∀v1,Env C i own v v1->c8 C v1->∃g' b es,Yu C.P (i==0) g v1=.go g' b es/\TD C i v1 b es/\ae C i j .free own g' b):ae C i j .free own g v:=by refine⟨.s (yN λx d=>fC C i j .free d own x.1 x.2.2),.put q o (λx k f=>?_) λx g' b es k f e=>?_⟩;{grind};obtain⟨n,v2,l,a,_,c⟩:=h x k f;rw[a]at e;obtain⟨rfl,rfl,rfl⟩:=xP e;exact fA (p:=λx d=>fC C i j .free d own x.1 x.2.2) c
theorem ae.done(a:i≠0)(h:∀v1,Env C i own v v1->AtD1 C i own g v1):ae C i j .vD own g v:=⟨_,.done a h⟩
theorem ae.add{x:Nat}(c:Nat->Ys->Yn->Prop)(b:i=0)(h:∀v1,Env C i own v v1->UR C i c g v1)(k:∀v1 y g',Env C i own v v1->c y g' v1->ae C i (2*x+1) .bG own g' v1):ae C i (2*x) .bG own g v:=⟨_,.add c b h λv1 y g' e d=>fA (p:=λz a=>fC C i (2*x+1) .bG a own z.1 z.2.1) (k v1 y g' e d)⟩
theorem ae.spawn{x:Nat}{ownc:Nat->Prop}(A:i=0)(E:g.status=.running)(B:x<C.n)(D:∀k,ownc k->own k)(h:∀v1,Env C i own v v1->∃g' b,Yu C.P (i==0) g v1=.spawn g' b v1 #[]/\b.status=.running/\ae C (C.base+x) 0 .free ownc b v1/\ae C i (2*x+2) .free (λk=>own k/\¬ownc k) g' v1):ae C i (2*x+1) .free own g v:=by refine⟨_,.spawn (f:=yN λz l=>fC C i (2*x+2) .free l (λk=>own k/\¬ownc k) z.1 z.2.1) (ρ:=yN λz l=>fC C (C.base+x) 0 .free l ownc z.1 z.2.1) A E B D (λv1 n=>?_) (λv1 g' c F y n e=>?_) λv1 g' c F y n e=>?_⟩;{grind};{obtain⟨w,t,a,_,d,u⟩:=h v1 n;rw[a]at e;injection e with o q r s;subst o q r s;exact fA (p:=λz l=>fC C (C.base+x) 0 .free l ownc z.1 z.2.1) d};obtain⟨w,t,a,_,d,u⟩:=h v1 n;rw[a]at e;injection e with o q r s;subst o q r s;exact fA (p:=λz l=>fC C i (2*x+2) .free l (λk=>own k/\¬ownc k) z.1 z.2.1) u
theorem ae.stop(b:C.solo)(a:g.status=.running)(h:∀v1,Env C i own v v1->C.halt own g v1):ae C i j .free own g v:=⟨_,.stop b a h⟩
theorem ae.wait(A:Ys->Yn->Prop)(a:i=0)(b:yn C i own A)(h:∃n,cJ C i own A n g v):ae C i (2*C.n) .bG own g v:=⟨_,.wait A a b h⟩
theorem ln.N2(h:ab.ln own C.RO C.CU v v' es):ln C own v v' es:=⟨h.keep,h.grow,h.os,h.out,h.tape,λe b=>by rcases h.evs e b with x|⟨k,n,o,⟨rfl,d⟩,c,rfl⟩|x;{exact .inl (.inl x)};{exact .inr ⟨o,by omega,rfl⟩};exact .inl (.inr (.inr x))⟩
theorem ln.sub(h:ln C own v v' es)(b:∀k,own k->own' k):ln C own' v v' es:=⟨λk l n=>h.keep k l λx=>n (b k x),h.grow,h.os,h.out,h.tape,λe f=>by rcases h.evs e f with x|x;{refine .inl ?_;rcases x with⟨k,c,a,d⟩|x;{refine .inl ⟨k,c,?_,d⟩;rcases a with(a|a)|a;{exact .inl (.inl (b k a))};{exact .inl (.inr a)};simp_all};exact .inr x};exact .inr x⟩
theorem vL:ab.more (fc C m own) v v'=fc C m (ab.more own v v'):=by funext k;simp only[ab.more,fc];grind
def mJ(C:Cx)(own:Nat->Prop):Prop:=∀b,own b->b≠C.mu/\b≠C.mm/\b≠C.wg/\b≠C.out
theorem c8.mine(l:c8 C v)(h:ln C O v v' es)(e:¬O C.mu)(f:¬O C.wg)(k:¬O C.out):c8 C v':=by obtain⟨⟨s,q,b⟩,⟨x,y,c⟩,⟨d,a,n⟩⟩:=l;exact⟨⟨s,q,(h.keep _ (Vw.1 b).1 e).trans b⟩,⟨x,y,(h.keep _ (Vw.1 c).1 f).trans c⟩,⟨d,(h.keep _ (Vw.1 a).1 k).trans a,n⟩⟩
theorem mJ.more(h:mJ C own)(d:c8 C v)(l:C.mm<v.heap.size):mJ C (ab.more own v v'):=λb a=>by rcases a with a|a;{exact h b a};obtain⟨⟨s,q,e⟩,⟨x,y,p⟩,⟨k,o,n⟩⟩:=d;have f:=(Vw.1 e).1;grind
theorem mJ.not(b:C.Ok)(h:mJ C own):¬fc C m own C.mu/\¬fc C m own C.wg/\¬fc C m own C.out:=by refine⟨?_,?_,?_⟩<;>rintro(a|⟨_,a⟩);{exact(h _ a).1 rfl};{exact b.lT a};{exact(h _ a).2.2.1 rfl};{exact b.nO a.symm};{exact(h _ a).2.2.2 rfl};exact b.mg a.symm
theorem c8.step(a:C.Ok)(b:mJ C own){v':Yn}{es:Array YV}(c:c8 C v)(h:ln C (fc C m own) v v' es):c8 C v':=c.mine h (b.not a).1 (b.not a).2.1 (b.not a).2.2
theorem ae.loc(t:C.Ok)(A:m.said=Yd){Stop:(Nat->Prop)->Ys->Yn->Prop}(h:ab.Loc C.P (i==0) C.RO C.CU Stop O g v):∀own,O=fc C m own->mJ C own->C.mm<v.heap.size->c8 C v->(∀own g v,mJ C own->C.mm<v.heap.size->c8 C v->Stop (fc C m own) g v->ae C i j m own g v)->ae C i j m own g v:=by induction h with|stop h=>exactλown e n p l k=>k _ _ _ n p l (e▸h)|step z y _ B=>intro own e n p l k;subst e;refine .step z A λx q=>?_;have f:=q.Vm t.pre l;obtain⟨s,u,r,a,b⟩:=y x f;have o:=ln.N2 b;have c:=q.aI l;have d:=Vv p q.grow;exact⟨s,u,r,a,o,B x s u r f a _ vL (n.more c d) (Vv d o.grow) (c.step t n o) k⟩
end
end
section
open Go.ConcR(KK WgAt wgBlock stA smA rd wr mk)
open Go.ConcM(OsLater)
variable{es:Array YV}{s q:Int}{ty:Yz}{g:Nat}
section
variable{C:Cx}{i i':Nat}{own own':Nat->Prop}{w w' w1:Yn}
structure lU(C:Cx)(i:Nat)(own:Nat->Prop)(w w':Yn):Prop where
 keep:∀k,k<w.heap.size->¬own k->k≠C.mu->k≠C.wg->k≠C.out->w'.heap[k]?=w.heap[k]?
 grow:w.heap.size<=w'.heap.size
 aI:c8 C w->c8 C w'
 B1:∀o,¬C.oc i o->w'.cell? ⟨C.out,o,Yq⟩=w.cell? ⟨C.out,o,Yq⟩
 os:OsLater w.os w'.os
 out:w'.output=w.output
 tape:w'.tape=w.tape
theorem lU.env(f:C.Ok)(h:lU C i own w w')(l:i'≠i)(j:∀k,own' k->¬own k)(n:∀k,own' k->k<w.heap.size/\k≠C.mu/\k≠C.wg/\k≠C.out)(g:∀k,C.RO k->k<w.heap.size/\¬own k):Env C i' own' w w':=⟨λk e=>by rcases e with e|e;{obtain⟨a,b,c,d⟩:=n k e;exact h.keep k a (j k e) b c d};obtain⟨a,_,b,c⟩:=f.ro k e;exact h.keep k (g k e).1 (g k e).2 a b c,h.grow,h.aI,λo m=>h.B1 o λx=>l (f.oc _ _ _ m x)⟩
theorem cell_of_block{a:YT}(h:w'.heap[a.block]?=w.heap[a.block]?):w'.cell? a=w.cell? a:=by simp[Yn.cell?,h]
theorem iZ(h:c8 C w):C.mu<w.heap.size/\C.wg<w.heap.size/\C.out<w.heap.size:=by obtain⟨⟨s,q,c⟩,⟨a,b,d⟩,⟨f,e,_⟩⟩:=h;exact⟨(Vw.1 c).1,(Vw.1 d).1,(Vw.1 e).1⟩
theorem c8.gp(h:c8 C w)(f:w'.heap[C.mu]?=w.heap[C.mu]?)(g:w'.heap[C.wg]?=w.heap[C.wg]?)(j:w'.heap[C.out]?=w.heap[C.out]?):c8 C w':=by obtain⟨⟨s,q,a⟩,⟨x,y,b⟩,⟨e,c,d⟩⟩:=h;exact⟨⟨s,q,f.trans a⟩,⟨x,y,g.trans b⟩,⟨e,j.trans c,d⟩⟩
theorem lU.DR(d:c8 C w)(h:ln C own w w' es)(f:¬own C.mu)(g:¬own C.wg)(e:¬own C.out):lU C i own w w':=by obtain⟨a,b,c⟩:=iZ d;exact⟨λk j l _ _ _=>h.keep k j l,h.grow,λd=>d.gp (h.keep _ a f) (h.keep _ b g) (h.keep _ c e),λo _=>cell_of_block (h.keep _ c e),by rw[h.os];exact .refl _,h.out,h.tape⟩
theorem lU.CN(h:DL w w' es):lU C i own w w':=⟨λk _ _ _ _ _=>by rw[h.heap],by rw[h.heap];omega,λa=>a.gp (by rw[h.heap]) (by rw[h.heap]) (by rw[h.heap]),λo _=>cell_of_block (by rw[h.heap]),h.os,h.out,h.tape⟩
theorem lU.refl:lU C i own w w:=.CN (cM w)
theorem lU.PG(c:C.Ok)(h:TD C i w w' es):lU C i own w w':=⟨λk _ _ _ _ d=>h.keep k d,by rw[h.size];omega,λb=>⟨by obtain⟨s,q,a⟩:=b.port;exact⟨s,q,(h.keep _ c.fN).trans a⟩,by obtain⟨s,q,a⟩:=b.gr;exact⟨s,q,(h.keep _ c.iH).trans a⟩,h.blk b.u6⟩,h.cells,by rw[h.os];exact .refl _,h.out,h.tape⟩
theorem ah(w:Yn)(a:YT)(v:Yl){k:Nat}(h:k≠a.block):(w.setCell a v).heap[k]?=w.heap[k]?:=by simp only[Yn.setCell];grind
theorem gI(w:Yn)(a:YT)(v:Yl){cs:Array Yl}{t:Yz}{fr:Nat×Nat}(b:a.spot=Yq)(h:w.heap[a.block]?=Yg (.cells cs t fr)):(w.setCell a v).heap[a.block]?=Yg (.cells (cs.setIfInBounds a.off v) t fr):=by simp only[Yn.setCell];grind
theorem cK(w:Yn)(a:YT)(v:Yl):(w.setCell a v).heap.size=w.heap.size:=by simp
theorem az.setSt(a:C.Ok)(h:az C w s q)(s':Int):az C (w.setCell C.muA (.int .i32 s')) s' q:=by unfold az at h⊢;rw[show C.mu=C.muA.block from rfl,gI w C.muA _ rfl h];congr 2;show(C.pre++#[Yl.int .i32 s,Yl.int .u32 q]).setIfInBounds C.mo (Yl.int .i32 s')=C.pre++#[Yl.int .i32 s',Yl.int .u32 q];rw[<-a.pre];simp
theorem az.setSm(b:C.Ok)(h:az C w s q)(a:Int):az C (w.setCell C.msA (.int .u32 a)) s a:=by unfold az at h⊢;rw[show C.mu=C.msA.block from rfl,gI w C.msA _ rfl h];congr 2;show(C.pre++#[Yl.int .i32 s,Yl.int .u32 q]).setIfInBounds (C.mo+1) (Yl.int .u32 a)=C.pre++#[Yl.int .i32 s,Yl.int .u32 a];rw[<-b.pre];simp
theorem lU.set(a:YT)(v:Yl)(c:a.block=C.mu\/a.block=C.wg)(b:C.Ok)(d:c8 C w->c8 C (w.setCell a v)):lU C i own w (w.setCell a v):=⟨λk _ _ e f _=>ah w a v (by omega),by simp,d,λo _=>cell_of_block (ah w a v (by rcases c with h|h<;>rw[h];{exact b.fN.symm};exact b.iH.symm)),.refl _,rfl,rfl⟩
theorem lU.st(c:C.Ok)(s':Int):lU C i own w (w.setCell C.muA (.int .i32 s')):=.set _ _ (.inl rfl) c λd=>⟨by obtain⟨s,q,a⟩:=d.port;exact⟨s',q,a.setSt c s'⟩,by obtain⟨s,q,a⟩:=d.gr;exact⟨s,q,(ah w C.muA _ c.fX.symm).trans a⟩,by obtain⟨e,a,b⟩:=d.u6;exact⟨e,(ah w C.muA _ c.fN.symm).trans a,b⟩⟩
theorem lU.sm(c:C.Ok)(s':Int):lU C i own w (w.setCell C.msA (.int .u32 s')):=.set _ _ (.inl rfl) c λd=>⟨by obtain⟨s,q,a⟩:=d.port;exact⟨s,s',a.setSm c s'⟩,by obtain⟨s,q,a⟩:=d.gr;exact⟨s,q,(ah w C.msA _ c.fX.symm).trans a⟩,by obtain⟨e,a,b⟩:=d.u6;exact⟨e,(ah w C.msA _ c.fN.symm).trans a,b⟩⟩
theorem kF{st sm:Int}(h:WgAt ty g w st sm)(v:Int):WgAt ty g (w.setCell (stA g) (.int .u64 v)) v sm:=by unfold WgAt wgBlock at h⊢;exact(gI w (stA g) _ rfl h).trans rfl
theorem p8{st sm:Int}(h:WgAt ty g w st sm)(v:Int):WgAt ty g (w.setCell (smA g) (.int .u32 v)) st v:=by unfold WgAt wgBlock at h⊢;exact(gI w (smA g) _ rfl h).trans rfl
theorem PL{st sm st' sm':Int}(h:WgAt ty g w st sm)(k:WgAt ty g w st' sm'):st=st'/\sm=sm':=by unfold WgAt wgBlock at h k;simp_all
theorem lU.iE(c:C.Ok)(f:C.tY=wgBlock C.tW)(s':Int):lU C i own w (w.setCell (stA C.wg) (.int .u64 s')):=.set _ _ (.inr rfl) c λd=>⟨by obtain⟨s,q,a⟩:=d.port;exact⟨s,q,(ah w (stA C.wg) _ c.fX).trans a⟩,by obtain⟨s,q,a⟩:=d.gr;rw[f]at a⊢;exact⟨s',q,kF a s'⟩,by obtain⟨e,a,b⟩:=d.u6;exact⟨e,(ah w (stA C.wg) _ c.iH.symm).trans a,b⟩⟩
theorem lU.UX(c:C.Ok)(f:C.tY=wgBlock C.tW)(s':Int):lU C i own w (w.setCell (smA C.wg) (.int .u32 s')):=.set _ _ (.inr rfl) c λd=>⟨by obtain⟨s,q,a⟩:=d.port;exact⟨s,q,(ah w (smA C.wg) _ c.fX).trans a⟩,by obtain⟨s,q,a⟩:=d.gr;rw[f]at a⊢;exact⟨s,s',p8 a s'⟩,by obtain⟨e,a,b⟩:=d.u6;exact⟨e,(ah w (smA C.wg) _ c.iH.symm).trans a,b⟩⟩
theorem Env.G2(f:C.Ok)(h:lU C i (λ_=>False) w w')(l:∀k,own k->k<w.heap.size/\k≠C.mu/\k≠C.wg/\k≠C.out)(j:∀k,C.RO k->k<w.heap.size)(g:∀o,C.oc i o->w'.cell? ⟨C.out,o,Yq⟩=w.cell? ⟨C.out,o,Yq⟩):Env C i own w w':=⟨λk e=>by rcases e with e|e;{obtain⟨a,b,c,d⟩:=l k e;exact h.keep k a id b c d};obtain⟨a,_,b,c⟩:=f.ro k e;exact h.keep k (j k e) id a b c,h.grow,h.aI,g⟩
end
end
end Go.Cr
namespace Go.Lw
open Go.Proofs Go.Conc Go.Mx Go.Rk Go.Cr Go.RowKit Go.Conc.Lib Go.ConcR.Gen
section
open Go.ConcR(KK WgAt stA smA rd wr mk DC0)
open Go.ConcM(goes_pad goes_le OsLater)
variable{C:Cx}{i j:Nat}{m:Md}{own:Nat->Prop}{g:Ys}{v w:Yn}{S:Ys->Yn->Prop}{K:Yn->Prop}{s q:Int}
section
instance:Go.ConcR.Payload:=⟨3⟩
variable{w1:Yn}
theorem PC{w':Yn}{es:Array YV}(h:DC0 w w' es):DL w w' es:=by obtain⟨rfl,rfl⟩:=h;exact cM _
theorem yp{K K':Ys->Yn->Array YV->Prop}{s:GStep}(h:∀g w es,K g w es->K' g w es)(k:s.goes K):s.goes K':=by cases s<;>first|exact h _ _ _ k|exact k
theorem NW{k:Nat}:∀{n:Nat}{g:Ys}{v:Yn},Goes C.P (i==0) (Env C i own) DC0 (cJ C i own S k) n g v->cJ C i own S (k+n) g v|0,_,_,h=>h _ .refl|n+1,g,v,h=>by rcases h with h|⟨c,h⟩;{exact goes_pad (h _ .refl) _};refine .inr ⟨c,λx d=>yp (λg w e b=>?_) (h x d)⟩;exact⟨PC b.1,NW b.2⟩
def Kn(C:Cx)(i:Nat)(own:Nat->Prop)(v w:Yn):Prop:=Env C i own v w/\c8 C w
theorem RN:(f113.name== "runtime.NumGoroutine")=Yd:=Ψ
theorem Tc:(f144.name== "runtime.NumGoroutine")=Yd:=Ψ
theorem SR:(f145.name== "runtime.NumGoroutine")=Yd:=Ψ
theorem Sw:(f166.name== "runtime.NumGoroutine")=Yd:=Ψ
theorem Tt:(f168.name== "runtime.NumGoroutine")=Yd:=Ψ
theorem ON:(f127.name== "runtime.NumGoroutine")=Yd:=Ψ
theorem Ow:f127.body.isNone=Yk:=Ψ
theorem QI:Extern.findNext f127=Yq:=Ψ
theorem PU:Extern.find f127=Yg (λ_=>do mark .disable;pure Extern.Race.none_):=Ψ
theorem O8:(f128.name== "runtime.NumGoroutine")=Yd:=Ψ
theorem OA:f128.body.isNone=Yk:=Ψ
theorem PX:Extern.findNext f128=Yq:=Ψ
theorem OO:Extern.find f128=Yg (λ_=>do mark .enable;pure Extern.Race.none_):=Ψ
theorem OW:(f139.name== "runtime.NumGoroutine")=Yd:=Ψ
theorem PN:f139.body.isNone=Yk:=Ψ
theorem OK:Extern.findNext f139=Yq:=Ψ
theorem N6:Extern.find f139=Yg (Extern.Race.marked .acquire):=Ψ
theorem N9:(f126.name== "runtime.NumGoroutine")=Yd:=Ψ
theorem OS:f126.body.isNone=Yk:=Ψ
theorem Qr:Extern.findNext f126=Yq:=Ψ
theorem OG:Extern.find f126=Yg (Extern.Race.marked .releaseMerge):=Ψ
theorem Ib:(f165.name== "runtime.NumGoroutine")=Yd:=Ψ
theorem Gy:f165.body.isNone=Yk:=Ψ
theorem FV:Extern.findNext f165=Yq:=Ψ
theorem ID:Extern.find f165=Yg (Extern.Atomic.casT (.int .i32)):=Ψ
theorem PM:(f167.name== "runtime.NumGoroutine")=Yd:=Ψ
theorem PK:f167.body.isNone=Yk:=Ψ
theorem OL:Extern.findNext f167=Yq:=Ψ
theorem Qb:Extern.find f167=Yg (Extern.Atomic.update (Op.intArith .add) .i32 Yk):=Ψ
theorem FN:(f182.name== "runtime.NumGoroutine")=Yd:=Ψ
theorem Ge:f182.body.isNone=Yk:=Ψ
theorem Gm:Extern.findNext f182=Yq:=Ψ
theorem Hi:Extern.find f182=Yg (Extern.Sync.canSpin):=Ψ
theorem QD:(f183.name== "runtime.NumGoroutine")=Yd:=Ψ
theorem O6:f183.body.isNone=Yk:=Ψ
theorem N5:Extern.findNext f183=Yq:=Ψ
theorem N3:Extern.find f183=Yg (λ_=>pure (.tuple #[])):=Ψ
theorem OU:(f185.name== "runtime.NumGoroutine")=Yd:=Ψ
theorem Od:f185.body.isNone=Yk:=Ψ
theorem QO:Extern.findNext f185=Yq:=Ψ
theorem Ot:Extern.find f185=Yg (Extern.OsHooks.nano):=Ψ
theorem Ps:f185.norace=Yk:=Ψ
theorem Jn:(f186.name== "runtime.NumGoroutine")=Yd:=Ψ
theorem F8:f186.body.isNone=Yk:=Ψ
theorem Gd:Extern.findNext f186=Yq:=Ψ
theorem JB:Extern.find f186=Yg (Extern.Sync.semacquire):=Ψ
theorem PW:(f188.name== "runtime.NumGoroutine")=Yd:=Ψ
theorem QU:f188.body.isNone=Yk:=Ψ
theorem P5:Extern.findNext f188=Yq:=Ψ
theorem OB:Extern.find f188=Yg (Extern.Sync.semrelease):=Ψ
theorem Ub:(Pz.funcs[(base 145).fn]?).any (·.norace)=Yk:=Ψ
theorem LQ:(Pz.funcs[(base 166).fn]?).any (·.norace)=Yk:=Ψ
theorem TX:(Pz.funcs[(base 168).fn]?).any (·.norace)=Yk:=Ψ
section
variable{main:Bool}{b:Yy}{a:YX}{kk:List YS}{cs:List Yy}{ops:Array Y3}{rest:List Nat}{o:Y3}
theorem Ak{x:YI}(p:ops[i]?=Yg o)(s:Region.wanted o (YA ops a.tmps)=Yk)(n:b.kind≠.early)(e:o.op=.load 21 x){ad:YT}{v:Int}(k:a.eval x=.pointer (Yg ad))(h:w.cell? ad=Yg (.int .i32 v))(q:(Pz.funcs[b.fn]?).any (·.norace)=Yk):Yu Pz main (G (b.at a (.inRegion ops (i::rest)::kk)) cs) w=.go (G (b.at (a.put o.dst (.int .i32 v)) (.inRegion ops rest::kk)) cs) w #[]:=by(have r:(Yt a.eval o).run Pz w=.ok (.value (.int .i32 v)) w:=by unfold Yt;simp only[e,k];simp[go_sem,h]);(have l:(Yt a.eval o).events Pz w #[]=#[⟨.cell ad,Yd,Yd⟩]:=by unfold Yt;simp only[e,k];simp[go_sem,h]);rw[stepG_value p s n r];unfold listed;rw[l,seen_def,q];rfl
end
noncomputable def lp:YZ:=f112.body.getD .skip
noncomputable def ng:YZ:=f113.body.getD .skip
noncomputable def cC:YZ:=f144.body.getD .skip
noncomputable def aj:YZ:=f166.body.getD .skip
end
section
variable{w1:Yn}
theorem az.cell(a:C.Ok)(h:az C w s q):w.cell? ⟨C.mu,C.mo,Yq⟩=Yg (.int .i32 s):=by have b:=a.pre;unfold az at h;simp[Yn.cell?,h,<-b]
theorem az.Ds(a:C.Ok)(h:az C w s q):w.cell? ⟨C.mu,C.mo+1,Yq⟩=Yg (.int .u32 q):=by have b:=a.pre;unfold az at h;simp[Yn.cell?,h,<-b]
theorem az.thaw(h:az C w s q)(o:Nat):w.frozen? ⟨C.mu,o,Yq⟩=Yd:=by unfold az at h;simp[Yn.frozen?,h]
structure Kd(C:Cx)(i:Nat)(own:Nat->Prop)(K:Yn->Prop):Prop where
 env:∀{v v1},K v->Env C i own v v1->K v1
 st:∀{v}(x:Int),K v->K (v.setCell C.muA (.int .i32 x))
 sm:∀{v}(x:Int),K v->K (v.setCell C.msA (.int .u32 x))
 aI:∀{v},K v->c8 C v
theorem Kd.mu(b:Kd C i own K)(a:C.Ok)(h:K w):∃v:Yl,w.cell? ⟨C.mu,C.mo,Yq⟩=Yg v:=by obtain⟨⟨s,q,c⟩,_⟩:=b.aI h;exact⟨_,az.cell a c⟩
theorem Kd.held(a:Kd C i own K)(h:K w/\ax C w)(r:Env C i (fc C .own own) w w1):K w1/\ax C w1:=⟨a.env h.1 r.fH,h.2.env r (.inr ⟨rfl,rfl⟩)⟩
theorem Ay{wd:Wd}(h:((wd.enc:Nat):Int)=0):wd=⟨Yd,Yd,Yd,0⟩:=by obtain⟨L,W,s,n⟩:=wd;(have h:(⟨L,W,s,n⟩:Wd).enc=0:=by omega);cases L<;>cases W<;>cases s<;>simp[Wd.enc]at h⊢<;>omega
theorem Ti:Pz.underlying 217=Yg (.pointer 157):=Ψ
theorem z157:(Pz.info? 157).map (λi=>decide (i.size=0))=Yg Yd:=Ψ
end
end
section
open Go.Pw
open Go.ConcR(KK WgAt stA smA rd wr mk DC0)
open Go.ConcM(goes_pad goes_le OsLater)
variable{C:Cx}{i j N mm x d a dd:Nat}{m:Md}{own:Nat->Prop}{g:Ys}{v n old:Int}{w:Yn}{S:Ys->Yn->Prop}{H L L':List (Nat×Yl)}{t vs:Array Yl}{f q:YD}{k k' kk:List YS}{obs:List (Yl×Yl)}{cs:List Yy}{y z:YI}{o:Y3}{ags:Array YI}{main:Bool}{ops:Array Y3}{rest:List Nat}{ats:Array Yz}{fn:Func}{ad:YT}{u:Yl}{P:YC}{s d':Yz}{caller:Yy}{c:YZ}{kd:Za}{J:Ys->Prop}
section
variable{v w1:Yn}
section
theorem aB{n:Nat}(h:∀w1,Env C i own w w1->S g w1):cJ C i own S n g w:=Goes.stop h
theorem DO(n:Nat)(e:Sl N L t)(b:bj C.P H n (fr f (tm N L t) k)=Yg (fr f (iF C.P H n (fr f (tm N L t) k)) k',obs))(l:∀p∈obs,p.1=p.2)(c:Sl N L' (iF C.P H n (fr f (tm N L t) k)))(d:∀a w1,Sl N L' a->Env C i own w w1->cJ C i own S mm (G (fr f a k') cs) w1):cJ C i own S (mm+n) (G (fr f t k) cs) w:=by refine NW ?_;have:=Iy (m:=0) (main:=i==0) (D:=DC0) bJ (λw=>⟨rfl,rfl⟩) n e b l c (λa h w1 o=>d a w1 h o);simp_all
theorem Kl(n:Nat)(h:Sl N L t)(b:bj C.P H n (fr f (tm N L t) k)=Yg (fr f (iF C.P H n (fr f (tm N L t) k)) k',obs))(l:∀p∈obs,p.1=p.2)(c:Sl N L' (iF C.P H n (fr f (tm N L t) k)))(d:∀a,Sl N L' a->ae C i j m own (G (fr f a k') cs) v):ae C i j m own (G (fr f t k) cs) v:=Lx (J:=λg=>ae C i j m own g v) (λF q o e=>.ctl rfl o e) n h b l c d
theorem b9(n:Nat)(O:List (Nat×Ob))(k':List YS)(L':List (Nat×Yl))(hS:Sl N L t)(hG:∀t' w1,Sl N L' t'->Env C i own w w1->cJ C i own S mm (G (fr f t' k') cs) w1)(hP:C.P=Pz:=by exact hP)(h1:bj Pz (oh O) n (fr f (tm N L t) k)=Yg (fr f (iF Pz (oh O) n (fr f (tm N L t) k)) k',oo O):=by kernel_rfl)(h2:Sl N L' (iF Pz (oh O) n (fr f (tm N L t) k)):=by exact .all):cJ C i own S (mm+n) (G (fr f t k) cs) w:=DO n hS (by rw[hP];exact h1) (sS O) (by simp_all) hG
theorem dU(n:Nat)(k':List YS)(L':List (Nat×Yl))(hS:Sl N L t)(hG:∀t' w1,Sl N L' t'->Env C i own w w1->cJ C i own S mm (G (fr f t' k') cs) w1)(hP:C.P=Pz:=by exact hP)(h1:bj Pz (oh []) n (fr f (tm N L t) k)=Yg (fr f (iF Pz (oh []) n (fr f (tm N L t) k)) k',oo []):=by kernel_rfl)(h2:Sl N L' (iF Pz (oh []) n (fr f (tm N L t) k)):=by exact .all):cJ C i own S (mm+n) (G (fr f t k) cs) w:=b9 n [] k' L' hS hG hP h1 h2
theorem x8(n:Nat)(O:List (Nat×Ob))(k':List YS)(L':List (Nat×Yl))(hS:Sl N L t)(hG:∀t',Sl N L' t'->ae C i j m own (G (fr f t' k') cs) v)(hP:C.P=Pz:=by exact hP)(h1:bj Pz (oh O) n (fr f (tm N L t) k)=Yg (fr f (iF Pz (oh O) n (fr f (tm N L t) k)) k',oo O):=by kernel_rfl)(h2:Sl N L' (iF Pz (oh O) n (fr f (tm N L t) k)):=by exact .all):ae C i j m own (G (fr f t k) cs) v:=Kl n hS (by rw[hP];exact h1) (sS O) (by simp_all) hG
theorem cW(n:Nat)(k':List YS)(L':List (Nat×Yl))(hS:Sl N L t)(hG:∀t',Sl N L' t'->ae C i j m own (G (fr f t' k') cs) v)(hP:C.P=Pz:=by exact hP)(h1:bj Pz (oh []) n (fr f (tm N L t) k)=Yg (fr f (iF Pz (oh []) n (fr f (tm N L t) k)) k',oo []):=by kernel_rfl)(h2:Sl N L' (iF Pz (oh []) n (fr f (tm N L t) k)):=by exact .all):ae C i j m own (G (fr f t k) cs) v:=x8 n [] k' L' hS hG hP h1 h2
end
theorem ew{n:Nat}(d:g.status=.running)(h:∀x,Env C i own w x->∃g' w',Yu C.P (i==0) g x=.go g' w' #[]/\DL x w' #[]/\cJ C i own S n g' w'):cJ C i own S (n+1) g w:=.inr ⟨d,λx e=>by obtain⟨g',w',a,b,c⟩:=h x e;simp_all⟩
theorem pg(x:Yn):DL x x.later #[]:=⟨rfl,rfl,rfl,⟨x.tick,rfl⟩,rfl⟩
theorem kr(x:Yn):DL x x.asked #[]:=⟨rfl,rfl,rfl,.refl _,rfl⟩
theorem qU{x y:Yn}{es:Array YV}(h:DL x y es):Env C i own x y:=⟨λk _=>by rw[h.heap],by rw[h.heap];omega,λf=>by obtain⟨⟨s,q,a⟩,⟨n,l,b⟩,⟨e,c,d⟩⟩:=f;exact⟨⟨s,q,by unfold az at a⊢;rw[h.heap];exact a⟩,⟨n,l,by rw[h.heap];exact b⟩,⟨e,by rw[h.heap];exact c,d⟩⟩,λo _=>by simp[Yn.cell?,h.heap]⟩
def ba(o:Y3):Option YD:=match o.op with
 |.call c=>(match c.callee with|.value (.func q)=>Yg q|_=>Yq)
 |_=>Yq
def dw(o:Y3):Array YI:=match o.op with|.call c=>c.args|_=>#[]
def zh(o:Y3):Array Yz:=match o.op with|.call c=>c.argTypes|_=>#[]
theorem bI(h:ba o=Yg q)(b:dw o=ags):o.op=.call {callee:=.value (.func q),args:=ags,argTypes:=zh o}:=by subst b;unfold ba at h;unfold dw zh;cases d:o.op with|call c=>obtain⟨e,k,f⟩:=c;grind|_=>simp_all
section
theorem eC{v:Yl}(a:o.dst=Yg d):G ((base f).at ((⟨t,[]⟩:YX).put o.dst v) k) cs=G (fr f (t.setIfInBounds d v) k) cs:=by rw[a];rfl
theorem nC{v:Int}(hS:Sl N L t)(p:ops[x]?=Yg o)(s:Region.wanted o (YA ops (tm N L t))=Yk)(k:o.dst=Yg d)(h:o.op=.load 21 y)(u:(⟨t,[]⟩:YX).eval y=.pointer (Yg ad))(n:w.cell? ad=Yg (.int .i32 v))(r:(Pz.funcs[f]?).any (·.norace)=Yk):Yu Pz main (G (fr f t (.inRegion ops (x::rest)::kk)) cs) w=.go (G (fr f (t.setIfInBounds d (.int .i32 v)) (.inRegion ops rest::kk)) cs) w #[]:=(Ak (b:=base f) (a:=⟨t,[]⟩) p (aS hS s) (by k_ne) h u n r).trans (by first|(rw[eC k])|(rfl))
theorem k8{u:YI}{v:Int}(hS:Sl N L t)(s:ops[x]?=Yg o)(D:Region.wanted o (YA ops (tm N L t))=Yk)(h:o.dst=Yg d)(A:ba o=Yg 165)(l:dw o=#[y,z,u])(E:(⟨t,[]⟩:YX).eval y=.pointer (Yg ad))(F:(⟨t,[]⟩:YX).eval z=.int .i32 v)(B:(⟨t,[]⟩:YX).eval u=.int .i32 n)(p:w.cell? ad=Yg (.int .i32 v))(r:w.frozen? ad=Yd):Yu Pz main (G (fr f t (.inRegion ops (x::rest)::kk)) cs) w=.go (G (fr f (t.setIfInBounds d (.bool Yk)) (.inRegion ops rest::kk)) cs) (w.setCell ad (.int .i32 n)) #[rd ad,wr ad]:=(stepG_cas_hit (b:=base f) (a:=⟨t,[]⟩) s (aS hS D) (by k_ne) (bI A l) func165 Ib Gy FV .i32 ID E F B p r).trans (by first|(done)|(rw[eC h];rfl))
theorem jK{u:YI}{v:Int}(hS:Sl N L t)(A:ops[x]?=Yg o)(E:Region.wanted o (YA ops (tm N L t))=Yk)(k:o.dst=Yg d)(B:ba o=Yg 165)(p:dw o=#[y,z,u])(F:(⟨t,[]⟩:YX).eval y=.pointer (Yg ad))(H:(⟨t,[]⟩:YX).eval z=.int .i32 old)(D:(⟨t,[]⟩:YX).eval u=.int .i32 n)(r:w.cell? ad=Yg (.int .i32 v))(s:w.frozen? ad=Yd)(h:¬v=old):Yu Pz main (G (fr f t (.inRegion ops (x::rest)::kk)) cs) w=.go (G (fr f (t.setIfInBounds d (.bool Yd)) (.inRegion ops rest::kk)) cs) w #[rd ad]:=(stepG_cas_miss (b:=base f) (a:=⟨t,[]⟩) A (aS hS E) (by k_ne) (bI B p) func165 Ib Gy FV .i32 ID F H D r s h).trans (by first|(done)|(rw[eC k];rfl))
theorem x6{v:Int}(hS:Sl N L t)(s:ops[x]?=Yg o)(A:Region.wanted o (YA ops (tm N L t))=Yk)(h:o.dst=Yg d)(u:ba o=Yg 167)(l:dw o=#[y,z])(B:(⟨t,[]⟩:YX).eval y=.pointer (Yg ad))(D:(⟨t,[]⟩:YX).eval z=.int .i32 n)(p:w.cell? ad=Yg (.int .i32 v))(r:w.frozen? ad=Yd):Yu Pz main (G (fr f t (.inRegion ops (x::rest)::kk)) cs) w=.go (G (fr f (t.setIfInBounds d (.int .i32 (Yx.i32.wrap (v+n)))) (.inRegion ops rest::kk)) cs) (w.setCell ad (.int .i32 (Yx.i32.wrap (v+n)))) #[rd ad,wr ad]:=(stepG_add_atomic (b:=base f) (a:=⟨t,[]⟩) s (aS hS A) (by k_ne) (bI u l) func167 PM PK OL .i32 Qb B D p r).trans (by first|(done)|(rw[eC h];rfl))
theorem QQ(hS:Sl N L t)(u:ops[x]?=Yg o)(z:Region.wanted o (YA ops (tm N L t))=Yk)(k:o.dst=Yg d)(y:ba o=Yg 186)(p:dw o=ags)(A:(ags.map (⟨t,[]⟩:YX).eval)[0]?=Yg (.pointer (Yg ad)))(r:w.cell? ad=Yg (.int .u32 n))(h:n≠0)(s:w.frozen? ad=Yd):Yu Pz main (G (fr f t (.inRegion ops (x::rest)::kk)) cs) w=.go (G (fr f (t.setIfInBounds d (.tuple #[])) (.inRegion ops rest::kk)) cs) (w.setCell ad (.int .u32 (n-1))) (semEvents ad):=(stepG_semacquire (b:=base f) (a:=⟨t,[]⟩) u (aS hS z) (by k_ne) (bI y p) func186 Jn F8 Gd JB A r h s).trans (by first|(rw[eC k])|(rfl))
theorem yl(hS:Sl N L t)(p:ops[x]?=Yg o)(s:Region.wanted o (YA ops (tm N L t))=Yk)(r:ba o=Yg 186)(l:dw o=ags)(u:(ags.map (⟨t,[]⟩:YX).eval)[0]?=Yg (.pointer (Yg ad)))(n:w.cell? ad=Yg (.int .u32 0)):Yu Pz main (G (fr f t (.inRegion ops (x::rest)::kk)) cs) w=.go {G (fr f t (.inRegion ops (x::rest)::kk)) cs with status:=.blocked} w #[]:=stepG_semacquire_wait (b:=base f) (a:=⟨t,[]⟩) p (aS hS s) (bI r l) func186 Jn F8 Gd JB u n
theorem IE(hS:Sl N L t)(s:ops[x]?=Yg o)(y:Region.wanted o (YA ops (tm N L t))=Yk)(h:o.dst=Yg d)(u:ba o=Yg 188)(l:dw o=ags)(z:(ags.map (⟨t,[]⟩:YX).eval)[0]?=Yg (.pointer (Yg ad)))(p:w.cell? ad=Yg (.int .u32 n))(r:w.frozen? ad=Yd):Yu Pz main (G (fr f t (.inRegion ops (x::rest)::kk)) cs) w=.go (G (fr f (t.setIfInBounds d (.tuple #[])) (.inRegion ops rest::kk)) cs) (w.setCell ad (.int .u32 (Yx.u32.wrap (n+1)))) (semEvents ad):=(stepG_semrelease (b:=base f) (a:=⟨t,[]⟩) s (aS hS y) (by k_ne) (bI u l) func188 PW QU P5 OB z p r).trans (by first|(rw[eC h])|(rfl))
theorem CF(hS:Sl N L t)(l:ops[x]?=Yg o)(p:Region.wanted o (YA ops (tm N L t))=Yk)(h:o.dst=Yg d)(n:ba o=Yg 185):Yu Pz main (G (fr f t (.inRegion ops (x::rest)::kk)) cs) w=.go (G (fr f (t.setIfInBounds d (Iv ((w.os.mono+w.tick:Nat):Int))) (.inRegion ops rest::kk)) cs) w.later #[]:=(stepG_nanotime (b:=base f) (a:=⟨t,[]⟩) l (aS hS p) (by k_ne) (bI n rfl) func185 OU Od QO Ot Ps).trans (by first|(rw[eC h])|(rfl))
theorem n0{k:Yx}(hS:Sl N L t)(s:ops[x]?=Yg o)(y:Region.wanted o (YA ops (tm N L t))=Yk)(h:o.dst=Yg d)(u:ba o=Yg 182)(r:dw o=ags)(z:ags.map (⟨t,[]⟩:YX).eval=#[.int k n])(l:4<=n):Yu Pz main (G (fr f t (.inRegion ops (x::rest)::kk)) cs) w=.go (G (fr f (t.setIfInBounds d (.bool Yd)) (.inRegion ops rest::kk)) cs) w #[]:=(stepG_canSpin_no (b:=base f) (a:=⟨t,[]⟩) s (aS hS y) (by k_ne) (bI u r) func182 FN Ge Gm Hi z l).trans (by first|(rw[eC h])|(rfl))
theorem wV{k:Yx}(hS:Sl N L t)(s:ops[x]?=Yg o)(y:Region.wanted o (YA ops (tm N L t))=Yk)(h:o.dst=Yg d)(u:ba o=Yg 182)(r:dw o=ags)(z:ags.map (⟨t,[]⟩:YX).eval=#[.int k n])(l:n<4):Yu Pz main (G (fr f t (.inRegion ops (x::rest)::kk)) cs) w=.go (G (fr f (t.setIfInBounds d (.bool w.spins)) (.inRegion ops rest::kk)) cs) w.asked #[]:=(stepG_canSpin_ask (b:=base f) (a:=⟨t,[]⟩) s (aS hS y) (by k_ne) (bI u r) func182 FN Ge Gm Hi z l).trans (by first|(rw[eC h])|(rfl))
theorem Eh(hS:Sl N L t)(l:ops[x]?=Yg o)(p:Region.wanted o (YA ops (tm N L t))=Yk)(h:o.dst=Yg d)(n:ba o=Yg 183):Yu Pz main (G (fr f t (.inRegion ops (x::rest)::kk)) cs) w=.go (G (fr f (t.setIfInBounds d (.tuple #[])) (.inRegion ops rest::kk)) cs) w #[]:=(stepG_entry_pure (b:=base f) (a:=⟨t,[]⟩) (.tuple #[]) l (aS hS p) (by k_ne) (bI n rfl) func183 QD O6 N5 N3).trans (by first|(rw[eC h])|(rfl))
end
end
section
variable{v w1:Yn}
section
theorem uI(hS:Sl N L t)(l:ops[x]?=Yg o)(p:Region.wanted o (YA ops (tm N L t))=Yk)(h:o.dst=Yg d)(n:ba o=Yg 127):Yu Pz main (G (fr f t (.inRegion ops (x::rest)::kk)) cs) w=.go (G (fr f (t.setIfInBounds d (.tuple #[])) (.inRegion ops rest::kk)) cs) w #[mk .disable]:=(stepG_mark0 (b:=base f) (a:=⟨t,[]⟩) .disable Θ l (aS hS p) (by k_ne) (bI n rfl) func127 ON Ow QI PU).trans (by first|(rw[eC h];done)|(rw[eC h];rfl))
theorem qC(hS:Sl N L t)(l:ops[x]?=Yg o)(p:Region.wanted o (YA ops (tm N L t))=Yk)(h:o.dst=Yg d)(n:ba o=Yg 128):Yu Pz main (G (fr f t (.inRegion ops (x::rest)::kk)) cs) w=.go (G (fr f (t.setIfInBounds d (.tuple #[])) (.inRegion ops rest::kk)) cs) w #[mk .enable]:=(stepG_mark0 (b:=base f) (a:=⟨t,[]⟩) .enable Θ l (aS hS p) (by k_ne) (bI n rfl) func128 O8 OA PX OO).trans (by first|(rw[eC h];done)|(rw[eC h];rfl))
theorem tr(hS:Sl N L t)(n:ops[x]?=Yg o)(r:Region.wanted o (YA ops (tm N L t))=Yk)(h:o.dst=Yg d)(p:ba o=Yg 139)(l:dw o=ags)(s:(ags.map (⟨t,[]⟩:YX).eval)[0]?=Yg (.pointer (Yg ad))):Yu Pz main (G (fr f t (.inRegion ops (x::rest)::kk)) cs) w=.go (G (fr f (t.setIfInBounds d (.tuple #[])) (.inRegion ops rest::kk)) cs) w #[mk (.acquire ad)]:=(stepG_markAt (b:=base f) (a:=⟨t,[]⟩) .acquire Θ n (aS hS r) (by k_ne) (bI p l) func139 OW PN OK N6 s).trans (by first|(rw[eC h];done)|(rw[eC h];rfl))
theorem rX(hS:Sl N L t)(n:ops[x]?=Yg o)(r:Region.wanted o (YA ops (tm N L t))=Yk)(h:o.dst=Yg d)(p:ba o=Yg 126)(l:dw o=ags)(s:(ags.map (⟨t,[]⟩:YX).eval)[0]?=Yg (.pointer (Yg ad))):Yu Pz main (G (fr f t (.inRegion ops (x::rest)::kk)) cs) w=.go (G (fr f (t.setIfInBounds d (.tuple #[])) (.inRegion ops rest::kk)) cs) w #[mk (.releaseMerge ad)]:=(stepG_markAt (b:=base f) (a:=⟨t,[]⟩) .releaseMerge Θ n (aS hS r) (by k_ne) (bI p l) func126 N9 OS Qr OG s).trans (by first|(rw[eC h];done)|(rw[eC h];rfl))
theorem JG(hS:Sl N L t)(n:ops[x]?=Yg o)(r:Region.wanted o (YA ops (tm N L t))=Yk)(h:o.dst=Yg d)(p:(Yt (⟨t,[]⟩:YX).eval o).run P w=.ok (.value u) w)(l:(Yt (⟨t,[]⟩:YX).eval o).events P w #[]=#[]):Yu P main (G (fr f t (.inRegion ops (x::rest)::kk)) cs) w=.go (G (fr f (t.setIfInBounds d u) (.inRegion ops rest::kk)) cs) w #[]:=by refine(stepG_value (b:=base f) (a:=⟨t,[]⟩) (k:=kk) (cs:=cs) n (aS hS r) (by k_ne) p).trans ?_;unfold listed;rw[l,jZ,eC h]
theorem xN{s d':Yz}{v:Yl}(hS:Sl N L t)(p:ops[x]?=Yg o)(u:Region.wanted o (YA ops (tm N L t))=Yk)(n:o.dst=Yg d)(r:o.op=.convert 217 185 y)(z:(⟨t,[]⟩:YX).eval y=.pointer (Yg ad))(c:w.cell? ad=Yg v):Yu Pz main (G (fr f t (.inRegion ops (x::rest)::kk)) cs) w=.go (G (fr f (t.setIfInBounds d (.pointer (Yg ad))) (.inRegion ops rest::kk)) cs) w #[]:=by have l:=run_convert_to_unsafe (P:=Pz) Ti underlying185 z157 c;have k:=λe=>events_convert_to_unsafe (P:=Pz) Ti underlying185 z157 c e;refine JG hS p u n ?_ ?_;{unfold Yt;simp_all};unfold Yt;simp_all
theorem O':Yu P main (G (fr f t []) cs) w=.go (G (ab.eu f t [] .returning) cs) w #[]:=by rfl
theorem PO:Yu P main (G (fr f t (.code .ret::kk)) cs) w=.go (G (ab.eu f t (.code .ret::kk) .returning) cs) w #[]:=by rfl
theorem xw(h:P.funcs[f]?=Yg fn)(b:fn.results=#[]):Yu P main (G (ab.eu f t kk .returning) (caller::cs)) w=.go (G (caller.finish (.tuple #[])) cs) w #[]:=by
 have c:(results fn t).run P w=.ok (.tuple #[]) w:=by simp[results,b]
 have e:(results fn t).events P w #[]=#[]:=by simp[results,b]
 rw[ab.bE h c,e,jZ]
end
section
theorem p7(a:C.P.funcs[f]?=Yg fn)(b:fn.results=#[])(h:ae C i j m own (G (caller.finish (.tuple #[])) cs) v):ae C i j m own (G (fr f t []) (caller::cs)) v:=.ctl rfl (λ_=>O') (.ctl rfl (λ_=>xw a b) h)
theorem sF(a:C.P.funcs[f]?=Yg fn)(b:fn.results=#[])(h:ae C i j m own (G (caller.finish (.tuple #[])) cs) v):ae C i j m own (G (fr f t (.code .ret::kk)) (caller::cs)) v:=.ctl rfl (λ_=>PO) (.ctl rfl (λ_=>xw a b) h)
theorem cL{n:Nat}{g':Ys}(a:g.status=.running)(h:∀w,Yu C.P (i==0) g w=.go g' w #[])(k:cJ C i own S n g' w):cJ C i own S (n+1) g w:=ew a λx b=>⟨g',x,h x,cM x,k.rely bJ b⟩
end
theorem UQ{L S:Bool}(h:(L||S)=Yk):(((L.toNat+4*S.toNat:Nat):Int)==0)=Yd:=by grind
end
section
variable{v w1:Yn}
abbrev qL(kd:Za)(f:YD)(t:Array Yl)(k:List YS):Yy:={fn:=f,tmps:=t,todo:=k,defers:=[],mode:=.run,kind:=kd,roundOf:=Yq}
abbrev Ra(kd:Za)(f:YD)(t:Array Yl)(k:List YS):Yy:={fn:=f,tmps:=t,todo:=k,defers:=[],mode:=.returning,kind:=kd,roundOf:=Yq}
def bk(kd:Za)(f:YD):Yy:={base f with kind:=kd}
section
theorem y4(A:kd≠.early)(hS:Sl N L t)(B:ops[x]?=Yg o)(F:Region.wanted o (YA ops (tm N L t))=Yk)(D:ba o=Yg q)(y:dw o=ags)(E:ags.map (⟨t,[]⟩:YX).eval=vs)(r:P.funcs[q]?=Yg fn)(s:(fn.name== "runtime.NumGoroutine")=Yd)(z:fn.body=Yg c):Yu P main (G (qL kd f t (.inRegion ops (x::rest)::kk)) cs) w=.go (G (fr q (vs++Array.replicate (fn.ntmps-vs.size) YE) [.code c]) (qL kd f t (.inRegion ops (x::rest)::kk)::cs)) w #[]:=by subst E;have n:=bI D y;(have l:fn.body.isNone=Yd:=by grind);have h:=stepG_enter (P:=P) (main:=main) (b:=bk kd f) (a:=⟨t,[]⟩) (k:=kk) (rest:=rest) (cs:=cs) (w:=w) B (aS hS F) A (run_call_body n r s l);rw[enter_at _ r z]at h;(have e:listed P (bk kd f).fn ⟨t,[]⟩ o w=#[]:=by unfold listed;rw[events_call_body n r s l];rfl);rw[e]at h;exact h
theorem Dr(hS:Sl N L t)(n:ops[x]?=Yg o)(s:Region.wanted o (YA ops (tm N L t))=Yk)(p:ba o=Yg q)(e:dw o=ags)(r:ags.map (⟨t,[]⟩:YX).eval=vs)(k:P.funcs[q]?=Yg fn)(l:(fn.name== "runtime.NumGoroutine")=Yd)(h:fn.body=Yg c):Yu P main (G (fr f t (.inRegion ops (x::rest)::kk)) cs) w=.go (G (fr q (vs++Array.replicate (fn.ntmps-vs.size) YE) [.code c]) (fr f t (.inRegion ops (x::rest)::kk)::cs)) w #[]:=y4 (kd:=.normal) Θ hS n s p e r k l h
theorem CH(h:t.getD a YE=u):(#[.tmp a]:Array YI).map (⟨t,[]⟩:YX).eval=#[u]:=by subst h;simp[YX.eval]
theorem TE{b:Nat}{u':Yl}(h:t.getD a YE=u)(e:t.getD b YE=u'):(#[.tmp a,.tmp b]:Array YI).map (⟨t,[]⟩:YX).eval=#[u,u']:=by subst h e;simp[YX.eval]
theorem On{c:Yl}(h:t.getD a YE=u):(#[.tmp a,.const c]:Array YI).map (⟨t,[]⟩:YX).eval=#[u,c]:=by subst h;simp[YX.eval]
theorem KX(b:ops[x]?=Yg o)(a:o.dst=Yg d)(u:Yl):(qL kd f t (.inRegion ops (x::rest)::kk)).finish u=qL kd f (t.setIfInBounds d u) (.inRegion ops rest::kk):=by simp[Yy.finish,b,a]
theorem Jb(y:kd≠.early)(s:∀F a,(∀w,Yu P main (G F cs) w=.go (G a cs) w #[])->J (G a cs)->J (G F cs))(n:Nat)(u:Sl N L t)(h:bj P H n (qL kd f (tm N L t) k)=Yg (qL kd f (match bj P H n (qL kd f (tm N L t) k)with|some x=>x.1.tmps|none=>#[]) k',obs))(z:∀p∈obs,p.1=p.2)(l:Sl N L' (match bj P H n (qL kd f (tm N L t) k)with|some x=>x.1.tmps|none=>#[]))(r:∀b,Sl N L' b->J (G (qL kd f b k') cs)):J (G (qL kd f t k) cs):=by(have e:qL kd f t k=qL kd f (tm N L t) k:=by rw[<-u.tm]);rw[e];exact om (main:=main) s n h z rfl y (r _ l)
theorem pE(s:kd≠.early)(n:Nat)(r:Sl N L t)(b:bj C.P H n (qL kd f (tm N L t) k)=Yg (qL kd f (match bj C.P H n (qL kd f (tm N L t) k)with|some x=>x.1.tmps|none=>#[]) k',obs))(u:∀p∈obs,p.1=p.2)(e:Sl N L' (match bj C.P H n (qL kd f (tm N L t) k)with|some x=>x.1.tmps|none=>#[]))(h:∀a,Sl N L' a->ae C i j m own (G (qL kd f a k') cs) v):ae C i j m own (G (qL kd f t k) cs) v:=Jb (main:=i==0) (J:=λg=>ae C i j m own g v) s (λF z y l=>.ctl rfl y l) n r b u e h
theorem yO(n:Nat)(h:Sl N L t)(a:bj C.P H n (fr f (tm N L t) k)=Yg (fr f (iF C.P H n (fr f (tm N L t) k)) k',obs))(l:∀p∈obs,p.1=p.2)(b:∀w1,Env C i own w w1->cJ C i own S mm (G (fr f (iF C.P H n (fr f (tm N L t) k)) k') cs) w1):cJ C i own S (mm+n) (G (fr f t k) cs) w:=by(have e:fr f t k=fr f (tm N L t) k:=by rw[<-h.tm]);rw[e];exact sB bJ cM n a l rfl Θ (b w .refl)
theorem vp(n:kd≠.early)(hS:Sl N L t)(r:ops[x]?=Yg o)(y:Region.wanted o (YA ops (tm N L t))=Yk)(s:ba o=Yg q)(e:dw o=ags)(u:ags.map (⟨t,[]⟩:YX).eval=vs)(l:C.P.funcs[q]?=Yg fn)(p:(fn.name== "runtime.NumGoroutine")=Yd)(k:fn.body=Yg c)(h:ae C i j m own (G (fr q (vs++Array.replicate (fn.ntmps-vs.size) YE) [.code c]) (qL kd f t (.inRegion ops (x::rest)::kk)::cs)) v):ae C i j m own (G (qL kd f t (.inRegion ops (x::rest)::kk)) cs) v:=.ctl rfl (λ_=>y4 n hS r y s e u l p k) h
theorem J7:Yu P main (G (qL kd f t []) cs) w=.go (G (Ra kd f t []) cs) w #[]:=by rfl
theorem Ai(h:ae C i j m own (G (Ra kd f t []) cs) v):ae C i j m own (G (qL kd f t []) cs) v:=.ctl rfl (λ_=>J7) h
theorem zt(a:C.P.funcs[f]?=Yg fn)(b:fn.results=#[])(h:ae C i j m own (G (caller.finish (.tuple #[])) cs) v):ae C i j m own (G (Ra .normal f t kk) (caller::cs)) v:=.ctl rfl (λ_=>xw a b) h
theorem El(l:C.P.funcs[f]?=Yg fn)(e:fn.results=#[])(k:caller.mode=.returning)(h:ae C i j m own (G caller cs) v):ae C i j m own (G (Ra .deferred f t kk) (caller::cs)) v:=.ctl rfl (λw=>stepG_leave_deferred (b:=bk .deferred f) (a:=⟨t,[]⟩) (todo:=kk) rfl rfl l (results_none e _ _ w) (events_results_none e _ _) k) h
end
end
section
variable{v w1:Yn}
abbrev cG(kd:Za)(ds:List YO)(f:YD)(t:Array Yl)(k:List YS):Yy:={fn:=f,tmps:=t,todo:=k,defers:=ds,mode:=.run,kind:=kd,roundOf:=Yq}
abbrev xf(kd:Za)(ds:List YO)(f:YD)(t:Array Yl)(k:List YS):Yy:={fn:=f,tmps:=t,todo:=k,defers:=ds,mode:=.returning,kind:=kd,roundOf:=Yq}
structure Xt(P:YC)(q:YD)(fn:Func):Prop where
 f:P.funcs[q]?=Yg fn
 n:(fn.name== "runtime.NumGoroutine")=Yd
 b:fn.body.isNone=Yk
 x:Extern.findNext fn=Yq
section
variable{ds:List YO}
def kj(P:YC)(H:List (Nat×Yl))(n:Nat)(F:Yy):Array Yl:=match bj P H n F with|some x=>x.1.tmps|none=>#[]
theorem zA(y:kd≠.early)(s:∀F a,(∀w,Yu P main (G F cs) w=.go (G a cs) w #[])->J (G a cs)->J (G F cs))(n:Nat)(u:Sl N L t)(h:bj P H n (cG kd ds f (tm N L t) k)=Yg (cG kd ds f (kj P H n (cG kd ds f (tm N L t) k)) k',obs))(z:∀p∈obs,p.1=p.2)(l:Sl N L' (kj P H n (cG kd ds f (tm N L t) k)))(r:∀b,Sl N L' b->J (G (cG kd ds f b k') cs)):J (G (cG kd ds f t k) cs):=by(have e:cG kd ds f t k=cG kd ds f (tm N L t) k:=by rw[<-u.tm]);rw[e];exact om s n h z rfl y (r _ l)
theorem GP(s:kd≠.early)(n:Nat)(r:Sl N L t)(b:bj C.P H n (cG kd ds f (tm N L t) k)=Yg (cG kd ds f (kj C.P H n (cG kd ds f (tm N L t) k)) k',obs))(u:∀p∈obs,p.1=p.2)(e:Sl N L' (kj C.P H n (cG kd ds f (tm N L t) k)))(h:∀a,Sl N L' a->ae C i j m own (G (cG kd ds f a k') cs) v):ae C i j m own (G (cG kd ds f t k) cs) v:=zA (J:=λg=>ae C i j m own g v) s (λF z y l=>.ctl rfl y l) n r b u e h
theorem Fb(u:kd≠.early)(n:Nat)(s:Sl N L t)(e:bj P H n (cG kd ds f (tm N L t) k)=Yg (cG kd ds f (kj P H n (cG kd ds f (tm N L t) k)) k',obs))(y:∀p∈obs,p.1=p.2)(h:Sl N L' (kj P H n (cG kd ds f (tm N L t) k)))(l:∀b,Sl N L' b->∃a,QuitsD P a dd (G (cG kd ds f b k') cs)):∃a,QuitsD P a dd (G (cG kd ds f t k) cs):=zA (J:=λg=>∃a,QuitsD P a dd g) u (λF A z⟨a,r⟩=>⟨a+1,.ctl rfl (λw=>z w) r⟩) n s e y h l
theorem zD(s:kd≠.early)(n:Nat)(r:Sl N L t)(b:bj C.P H n (cG kd ds f (tm N L t) k)=Yg (cG kd ds f (kj C.P H n (cG kd ds f (tm N L t) k)) k',obs))(u:∀p∈obs,p.1=p.2)(h:Sl N L' (kj C.P H n (cG kd ds f (tm N L t) k)))(l:∀a w1,Sl N L' a->Env C i own w w1->cJ C i own S mm (G (cG kd ds f a k') cs) w1):cJ C i own S (mm+n) (G (cG kd ds f t k) cs) w:=by(have e:cG kd ds f t k=cG kd ds f (tm N L t) k:=by rw[<-r.tm]);rw[e];exact sB bJ cM n b u rfl s (l _ w h .refl)
theorem xK(n:Nat)(O:List (Nat×Ob))(k':List YS)(L':List (Nat×Yl))(hS:Sl N L t)(hG:∀t',Sl N L' t'->ae C i j m own (G (cG kd ds f t' k') cs) v)(hP:C.P=Pz:=by exact hP)(hk:kd≠.early:=by simp)(h1:bj Pz (oh O) n (cG kd ds f (tm N L t) k)=Yg (cG kd ds f (kj Pz (oh O) n (cG kd ds f (tm N L t) k)) k',oo O):=by kernel_rfl)(h2:Sl N L' (kj Pz (oh O) n (cG kd ds f (tm N L t) k)):=by exact .all):ae C i j m own (G (cG kd ds f t k) cs) v:=GP hk n hS (by rw[hP];exact h1) (sS O) (by simp_all) hG
theorem eM(n:Nat)(k':List YS)(L':List (Nat×Yl))(hS:Sl N L t)(hG:∀t',Sl N L' t'->ae C i j m own (G (cG kd ds f t' k') cs) v)(hP:C.P=Pz:=by exact hP)(hk:kd≠.early:=by simp)(h1:bj Pz (oh []) n (cG kd ds f (tm N L t) k)=Yg (cG kd ds f (kj Pz (oh []) n (cG kd ds f (tm N L t) k)) k',oo []):=by kernel_rfl)(h2:Sl N L' (kj Pz (oh []) n (cG kd ds f (tm N L t) k)):=by exact .all):ae C i j m own (G (cG kd ds f t k) cs) v:=xK n [] k' L' hS hG hP hk h1 h2
theorem sg(n:Nat)(O:List (Nat×Ob))(k':List YS)(L':List (Nat×Yl))(hS:Sl N L t)(hG:∀t',Sl N L' t'->∃qn,QuitsD C.P qn dd (G (cG kd ds f t' k') cs))(hP:C.P=Pz:=by exact hP)(hk:kd≠.early:=by simp)(h1:bj Pz (oh O) n (cG kd ds f (tm N L t) k)=Yg (cG kd ds f (kj Pz (oh O) n (cG kd ds f (tm N L t) k)) k',oo O):=by kernel_rfl)(h2:Sl N L' (kj Pz (oh O) n (cG kd ds f (tm N L t) k)):=by exact .all):∃qn,QuitsD C.P qn dd (G (cG kd ds f t k) cs):=Fb hk n hS (by rw[hP];exact h1) (sS O) (by simp_all) hG
theorem sL(n:Nat)(k':List YS)(L':List (Nat×Yl))(hS:Sl N L t)(hG:∀t',Sl N L' t'->∃qn,QuitsD C.P qn dd (G (cG kd ds f t' k') cs))(hP:C.P=Pz:=by exact hP)(hk:kd≠.early:=by simp)(h1:bj Pz (oh []) n (cG kd ds f (tm N L t) k)=Yg (cG kd ds f (kj Pz (oh []) n (cG kd ds f (tm N L t) k)) k',oo []):=by kernel_rfl)(h2:Sl N L' (kj Pz (oh []) n (cG kd ds f (tm N L t) k)):=by exact .all):∃qn,QuitsD C.P qn dd (G (cG kd ds f t k) cs):=sg n [] k' L' hS hG hP hk h1 h2
theorem wK(n:Nat)(O:List (Nat×Ob))(k':List YS)(L':List (Nat×Yl))(hS:Sl N L t)(hG:∀t' w1,Sl N L' t'->Env C i own w w1->cJ C i own S mm (G (cG kd ds f t' k') cs) w1)(hP:C.P=Pz:=by exact hP)(hk:kd≠.early:=by simp)(h1:bj Pz (oh O) n (cG kd ds f (tm N L t) k)=Yg (cG kd ds f (kj Pz (oh O) n (cG kd ds f (tm N L t) k)) k',oo O):=by kernel_rfl)(h2:Sl N L' (kj Pz (oh O) n (cG kd ds f (tm N L t) k)):=by exact .all):cJ C i own S (mm+n) (G (cG kd ds f t k) cs) w:=zD hk n hS (by rw[hP];exact h1) (sS O) (by simp_all) hG
theorem cx(n:Nat)(k':List YS)(L':List (Nat×Yl))(hS:Sl N L t)(hG:∀t' w1,Sl N L' t'->Env C i own w w1->cJ C i own S mm (G (cG kd ds f t' k') cs) w1)(hP:C.P=Pz:=by exact hP)(hk:kd≠.early:=by simp)(h1:bj Pz (oh []) n (cG kd ds f (tm N L t) k)=Yg (cG kd ds f (kj Pz (oh []) n (cG kd ds f (tm N L t) k)) k',oo []):=by kernel_rfl)(h2:Sl N L' (kj Pz (oh []) n (cG kd ds f (tm N L t) k)):=by exact .all):cJ C i own S (mm+n) (G (cG kd ds f t k) cs) w:=wK n [] k' L' hS hG hP hk h1 h2
theorem lZ{v:Yl}(a:o.dst=Yg d):G ((bk kd f).at (YX.put ⟨t,ds⟩ o.dst v) k) cs=G (cG kd ds f (t.setIfInBounds d v) k) cs:=by rw[a];rfl
theorem mK(A:kd≠.early)(hS:Sl N L t)(B:ops[x]?=Yg o)(F:Region.wanted o (YA ops (tm N L t))=Yk)(D:ba o=Yg q)(y:dw o=ags)(E:ags.map (⟨t,[]⟩:YX).eval=vs)(r:P.funcs[q]?=Yg fn)(s:(fn.name== "runtime.NumGoroutine")=Yd)(z:fn.body=Yg c):Yu P main (G (cG kd ds f t (.inRegion ops (x::rest)::kk)) cs) w=.go (G (fr q (vs++Array.replicate (fn.ntmps-vs.size) YE) [.code c]) (cG kd ds f t (.inRegion ops (x::rest)::kk)::cs)) w #[]:=by subst E;have n:=bI D y;(have l:fn.body.isNone=Yd:=by grind);have h:=stepG_enter (main:=main) (b:=bk kd f) (a:=⟨t,ds⟩) (k:=kk) (rest:=rest) (cs:=cs) (w:=w) B (aS hS F) A (run_call_body n r s l);rw[enter_at _ r z]at h;(have e:listed P (bk kd f).fn ⟨t,ds⟩ o w=#[]:=by unfold listed;rw[events_call_body n r s l];rfl);rw[e]at h;exact h
theorem iR(b:ops[x]?=Yg o)(a:o.dst=Yg d)(u:Yl):(cG kd ds f t (.inRegion ops (x::rest)::kk)).finish u=cG kd ds f (t.setIfInBounds d u) (.inRegion ops rest::kk):=by simp[Yy.finish,b,a]
theorem GD:Yu P main (G (cG kd ds f t []) cs) w=.go (G (xf kd ds f t []) cs) w #[]:=by rfl
theorem ky:Yu P main (G (cG kd ds f t (.code .ret::kk)) cs) w=.go (G (xf kd ds f t (.code .ret::kk)) cs) w #[]:=by rfl
theorem nB(h:P.funcs[f]?=Yg fn)(e:fn.results=#[]):Yu P main (G (xf .normal [] f t kk) (caller::cs)) w=.go (G (caller.finish (.tuple #[])) cs) w #[]:=stepG_leave (b:=base f) (a:=⟨t,[]⟩) rfl rfl h (results_none e _ _ w) (events_results_none e _ _)
theorem iQ{s:Tmp}(h:P.funcs[f]?=Yg fn)(e:fn.results=#[.tmp s])(k:t.getD s YE=u):Yu P main (G (xf .normal [] f t kk) (caller::cs)) w=.go (G (caller.finish u) cs) w #[]:=by subst k;exact stepG_leave (b:=base f) (a:=⟨t,[]⟩) rfl rfl h (results_tmp e _ _ w) (events_results_tmp e _ _)
theorem Ml(k:P.funcs[f]?=Yg fn)(e:fn.results=#[])(h:caller.mode=.returning):Yu P main (G (xf .deferred [] f t kk) (caller::cs)) w=.go (G caller cs) w #[]:=stepG_leave_deferred (b:=bk .deferred f) (a:=⟨t,[]⟩) rfl rfl k (results_none e _ _ w) (events_results_none e _ _) h
theorem wR(r:kd≠.early)(hS:Sl N L t)(s:ops[x]?=Yg o)(y:Region.wanted o (YA ops (tm N L t))=Yk)(p:o.dst=Yq)(l:o.op=.defer {callee:=.value (.func q),args:=ags,argTypes:=ats})(u:ags.map (⟨t,[]⟩:YX).eval=vs):Yu P main (G (cG kd ds f t (.inRegion ops (x::rest)::kk)) cs) w=.go (G (cG kd (dcall q vs::ds) f t (.inRegion ops rest::kk)) cs) w #[]:=by subst u;refine(stepG_defer (b:=bk kd f) (a:=⟨t,ds⟩) s (aS hS y) r l).trans ?_;rw[p];rfl
theorem nR(m:Mark)(k:∀g,m≠.extern g)(X:Xt P q fn)(h:Extern.find fn=Yg (λ_=>do mark m;pure Extern.Race.none_)):Yu P main (G (xf kd (dcall q #[]::ds) f t kk) cs) w=.go (G (xf kd ds f t kk) cs) w #[mk m]:=by have:=stepG_unwind_entry (main:=main) (b:=bk kd f) (a:=⟨t,dcall q #[]::ds⟩) (todo:=kk) (cs:=cs) (w:=w) rfl X.f X.n X.b X.x h (v:=Extern.Race.none_) (w':=w) (evs:=#[⟨.mark m,Yd,Yk⟩]) Θ Θ (by simp_all);exact this
theorem pN(p:kd≠.early)(m:Mark)(r:∀g,m≠.extern g)(hS:Sl N L t)(s:ops[x]?=Yg o)(y:Region.wanted o (YA ops (tm N L t))=Yk)(l:o.dst=Yg d)(u:ba o=Yg q)(X:Xt P q fn)(n:Extern.find fn=Yg (λ_=>do mark m;pure Extern.Race.none_)):Yu P main (G (cG kd ds f t (.inRegion ops (x::rest)::kk)) cs) w=.go (G (cG kd ds f (t.setIfInBounds d (.tuple #[])) (.inRegion ops rest::kk)) cs) w #[mk m]:=(stepG_mark0 (b:=bk kd f) (a:=⟨t,ds⟩) m r s (aS hS y) p (bI u rfl) X.f X.n X.b X.x n).trans (by rw[lZ l];try rfl)
theorem mN(s:kd≠.early)(h:YT->Mark)(u:∀ad g,h ad≠.extern g)(hS:Sl N L t)(y:ops[x]?=Yg o)(A:Region.wanted o (YA ops (tm N L t))=Yk)(p:o.dst=Yg d)(z:ba o=Yg q)(n:dw o=ags)(X:Xt P q fn)(r:Extern.find fn=Yg (Extern.Race.marked h))(B:(ags.map (⟨t,ds⟩:YX).eval)[0]?=Yg (.pointer (Yg ad))):Yu P main (G (cG kd ds f t (.inRegion ops (x::rest)::kk)) cs) w=.go (G (cG kd ds f (t.setIfInBounds d (.tuple #[])) (.inRegion ops rest::kk)) cs) w #[mk (h ad)]:=(stepG_markAt (b:=bk kd f) (a:=⟨t,ds⟩) h u y (aS hS A) s (bI z n) X.f X.n X.b X.x r B).trans (by rw[lZ p];try rfl)
theorem IP(p:kd≠.early)(u:Yl)(hS:Sl N L t)(r:ops[x]?=Yg o)(y:Region.wanted o (YA ops (tm N L t))=Yk)(l:o.dst=Yg d)(s:ba o=Yg q)(X:Xt P q fn)(n:Extern.find fn=Yg (λ_=>pure u)):Yu P main (G (cG kd ds f t (.inRegion ops (x::rest)::kk)) cs) w=.go (G (cG kd ds f (t.setIfInBounds d u) (.inRegion ops rest::kk)) cs) w #[]:=(stepG_entry_pure (b:=bk kd f) (a:=⟨t,ds⟩) u r (aS hS y) p (bI s rfl) X.f X.n X.b X.x n).trans (by rw[lZ l])
theorem J4(p:kd≠.early)(hS:Sl N L t)(r:ops[x]?=Yg o)(y:Region.wanted o (YA ops (tm N L t))=Yk)(l:o.dst=Yg d)(s:(Yt (⟨t,ds⟩:YX).eval o).run P w=.ok (.value u) w)(n:(Yt (⟨t,ds⟩:YX).eval o).events P w #[]=#[]):Yu P main (G (cG kd ds f t (.inRegion ops (x::rest)::kk)) cs) w=.go (G (cG kd ds f (t.setIfInBounds d u) (.inRegion ops rest::kk)) cs) w #[]:=by refine(stepG_value (b:=bk kd f) (a:=⟨t,ds⟩) r (aS hS y) p s).trans ?_;unfold listed;rw[n,jZ,lZ l]
theorem tz{e:Yz}{v:Yl}(k:P.underlying s=Yg (.pointer e))(a:P.underlying d'=Yg .unsafePointer)(l:(P.info? e).map (λi=>decide (i.size=0))=Yg Yd)(A:kd≠.early)(hS:Sl N L t)(B:ops[x]?=Yg o)(E:Region.wanted o (YA ops (tm N L t))=Yk)(z:o.dst=Yg d)(D:o.op=.convert s d' y)(F:(⟨t,ds⟩:YX).eval y=.pointer (Yg ad))(h:w.cell? ad=Yg v):Yu P main (G (cG kd ds f t (.inRegion ops (x::rest)::kk)) cs) w=.go (G (cG kd ds f (t.setIfInBounds d (.pointer (Yg ad))) (.inRegion ops rest::kk)) cs) w #[]:=by have u:=run_convert_to_unsafe k a l h;have r:=λn=>events_convert_to_unsafe k a l h n;refine J4 A hS B E z ?_ ?_;{unfold Yt;simp_all};unfold Yt;simp_all
theorem Ho(A:kd≠.early){v:Int}(hS:Sl N L t)(B:ops[x]?=Yg o)(E:Region.wanted o (YA ops (tm N L t))=Yk)(r:o.dst=Yg d)(D:ba o=Yg q)(l:dw o=#[y,z])(X:Xt P q fn)(s:Extern.find fn=Yg (Extern.Atomic.update (Op.intArith .add) .u64 Yk))(F:(⟨t,ds⟩:YX).eval y=.pointer (Yg ad))(H:(⟨t,ds⟩:YX).eval z=.int .u64 n)(p:w.cell? ad=Yg (.int .u64 v))(u:w.frozen? ad=Yd):Yu P main (G (cG kd ds f t (.inRegion ops (x::rest)::kk)) cs) w=.go (G (cG kd ds f (t.setIfInBounds d (.int .u64 (Yx.u64.wrap (v+n)))) (.inRegion ops rest::kk)) cs) (w.setCell ad (.int .u64 (Yx.u64.wrap (v+n)))) #[rd ad,wr ad]:=(stepG_add_atomic (b:=bk kd f) (a:=⟨t,ds⟩) B (aS hS E) A (bI D l) X.f X.n X.b X.x .u64 s F H p u).trans (by rw[lZ r];try rfl)
theorem wZ(s:kd≠.early){v:Int}(hS:Sl N L t)(u:ops[x]?=Yg o)(A:Region.wanted o (YA ops (tm N L t))=Yk)(p:o.dst=Yg d)(z:ba o=Yg q)(l:dw o=#[y])(X:Xt P q fn)(r:Extern.find fn=Yg (Extern.Atomic.loadT (.int .u64)))(B:(⟨t,ds⟩:YX).eval y=.pointer (Yg ad))(n:w.cell? ad=Yg (.int .u64 v)):Yu P main (G (cG kd ds f t (.inRegion ops (x::rest)::kk)) cs) w=.go (G (cG kd ds f (t.setIfInBounds d (.int .u64 v)) (.inRegion ops rest::kk)) cs) w #[rd ad]:=(stepG_load_atomic (b:=bk kd f) (a:=⟨t,ds⟩) u (aS hS A) s (bI z l) X.f X.n X.b X.x .u64 r B n).trans (by rw[lZ p];try rfl)
theorem IJ(B:kd≠.early)(hS:Sl N L t)(D:ops[x]?=Yg o)(F:Region.wanted o (YA ops (tm N L t))=Yk)(r:o.dst=Yg d)(E:ba o=Yg q)(l:dw o=#[y,z])(X:Xt P q fn)(s:Extern.find fn=Yg Extern.Atomic.storeT)(H:(⟨t,ds⟩:YX).eval y=.pointer (Yg ad))(I:(⟨t,ds⟩:YX).eval z=.int .u64 n)(p:w.cell? ad=Yg u)(A:w.frozen? ad=Yd):Yu P main (G (cG kd ds f t (.inRegion ops (x::rest)::kk)) cs) w=.go (G (cG kd ds f (t.setIfInBounds d (.tuple #[])) (.inRegion ops rest::kk)) cs) (w.setCell ad (.int .u64 n)) #[wr ad]:=(stepG_store_atomic (b:=bk kd f) (a:=⟨t,ds⟩) D (aS hS F) B (bI E l) X.f X.n X.b X.x s H I p A).trans (by rw[lZ r];try rfl)
theorem Cl(B:kd≠.early){u:YI}{v:Int}(hS:Sl N L t)(D:ops[x]?=Yg o)(H:Region.wanted o (YA ops (tm N L t))=Yk)(r:o.dst=Yg d)(E:ba o=Yg q)(l:dw o=#[y,z,u])(X:Xt P q fn)(s:Extern.find fn=Yg (Extern.Atomic.casT (.int .u64)))(I:(⟨t,ds⟩:YX).eval y=.pointer (Yg ad))(J:(⟨t,ds⟩:YX).eval z=.int .u64 v)(F:(⟨t,ds⟩:YX).eval u=.int .u64 n)(p:w.cell? ad=Yg (.int .u64 v))(A:w.frozen? ad=Yd):Yu P main (G (cG kd ds f t (.inRegion ops (x::rest)::kk)) cs) w=.go (G (cG kd ds f (t.setIfInBounds d (.bool Yk)) (.inRegion ops rest::kk)) cs) (w.setCell ad (.int .u64 n)) #[rd ad,wr ad]:=(stepG_cas_hit (b:=bk kd f) (a:=⟨t,ds⟩) D (aS hS H) B (bI E l) X.f X.n X.b X.x .u64 s I J F p A).trans (by rw[lZ r];try rfl)
theorem zm(D:kd≠.early){u:YI}{v:Int}(hS:Sl N L t)(E:ops[x]?=Yg o)(I:Region.wanted o (YA ops (tm N L t))=Yk)(s:o.dst=Yg d)(F:ba o=Yg q)(p:dw o=#[y,z,u])(X:Xt P q fn)(A:Extern.find fn=Yg (Extern.Atomic.casT (.int .u64)))(J:(⟨t,ds⟩:YX).eval y=.pointer (Yg ad))(K:(⟨t,ds⟩:YX).eval z=.int .u64 old)(H:(⟨t,ds⟩:YX).eval u=.int .u64 n)(r:w.cell? ad=Yg (.int .u64 v))(B:w.frozen? ad=Yd)(k:¬v=old):Yu P main (G (cG kd ds f t (.inRegion ops (x::rest)::kk)) cs) w=.go (G (cG kd ds f (t.setIfInBounds d (.bool Yd)) (.inRegion ops rest::kk)) cs) w #[rd ad]:=(stepG_cas_miss (b:=bk kd f) (a:=⟨t,ds⟩) E (aS hS I) D (bI F p) X.f X.n X.b X.x .u64 A J K H r B k).trans (by rw[lZ s];try rfl)
theorem Ry(z:kd≠.early)(hS:Sl N L t)(A:ops[x]?=Yg o)(D:Region.wanted o (YA ops (tm N L t))=Yk)(s:o.dst=Yg d)(B:ba o=Yg q)(p:dw o=ags)(X:Xt P q fn)(u:Extern.find fn=Yg Extern.Sync.semacquire)(E:(ags.map (⟨t,ds⟩:YX).eval)[0]?=Yg (.pointer (Yg ad)))(r:w.cell? ad=Yg (.int .u32 n))(k:n≠0)(y:w.frozen? ad=Yd):Yu P main (G (cG kd ds f t (.inRegion ops (x::rest)::kk)) cs) w=.go (G (cG kd ds f (t.setIfInBounds d (.tuple #[])) (.inRegion ops rest::kk)) cs) (w.setCell ad (.int .u32 (n-1))) (semEvents ad):=(stepG_semacquire (b:=bk kd f) (a:=⟨t,ds⟩) A (aS hS D) z (bI B p) X.f X.n X.b X.x u E r k y).trans (by rw[lZ s])
theorem By(hS:Sl N L t)(s:ops[x]?=Yg o)(y:Region.wanted o (YA ops (tm N L t))=Yk)(u:ba o=Yg q)(n:dw o=ags)(X:Xt P q fn)(r:Extern.find fn=Yg Extern.Sync.semacquire)(z:(ags.map (⟨t,ds⟩:YX).eval)[0]?=Yg (.pointer (Yg ad)))(p:w.cell? ad=Yg (.int .u32 0)):Yu P main (G (cG kd ds f t (.inRegion ops (x::rest)::kk)) cs) w=.go {G (cG kd ds f t (.inRegion ops (x::rest)::kk)) cs with status:=.blocked} w #[]:=stepG_semacquire_wait (b:=bk kd f) (a:=⟨t,ds⟩) s (aS hS y) (bI u n) X.f X.n X.b X.x r z p
theorem SW(y:kd≠.early)(hS:Sl N L t)(z:ops[x]?=Yg o)(B:Region.wanted o (YA ops (tm N L t))=Yk)(r:o.dst=Yg d)(A:ba o=Yg q)(l:dw o=ags)(X:Xt P q fn)(s:Extern.find fn=Yg Extern.Sync.semrelease)(D:(ags.map (⟨t,ds⟩:YX).eval)[0]?=Yg (.pointer (Yg ad)))(p:w.cell? ad=Yg (.int .u32 n))(u:w.frozen? ad=Yd):Yu P main (G (cG kd ds f t (.inRegion ops (x::rest)::kk)) cs) w=.go (G (cG kd ds f (t.setIfInBounds d (.tuple #[])) (.inRegion ops rest::kk)) cs) (w.setCell ad (.int .u32 (Yx.u32.wrap (n+1)))) (semEvents ad):=(stepG_semrelease (b:=bk kd f) (a:=⟨t,ds⟩) z (aS hS B) y (bI A l) X.f X.n X.b X.x s D p u).trans (by rw[lZ r])
end
end
section
variable{v w1:Yn}
abbrev hl(C:Cx)(iE:Int)(st aw:Bool)(it:Nat)(z:Int):List (Nat×Yl):=[(0,ϱ C.mu C.mo),(2,Iv iE),(3,.bool st),(4,.bool aw),(5,Iv it),(6,.int .i32 z)]
def iK(C:Cx)(K:Yn->Prop)(b₁:Yy)(a₁:YX)(ops₁:Array Y3)(i₁:Nat)(rest₁:List Nat)(k₁:List YS)(cs₁:List Yy)(o:Wd)(aw st:Bool)(it:Nat)(g:Ys)(w:Yn):Prop:=
 K w/\∃(iE:Int)(t:Array Yl),Sl 139 (hl C iE st aw it (o.enc:Nat)) t/\g=G (fr 166 t (cA aj 504)) (b₁.at a₁ (.inRegion ops₁ (i₁::rest₁)::k₁)::cs₁)
section
variable{b₁:Yy}{a₁:YX}{ops₁:Array Y3}{i₁:Nat}{rest₁:List Nat}{k₁:List YS}{cs₁:List Yy}{K:Yn->Prop}
set_option maxRecDepth 100000 in theorem P3(hC:C.Ok)(hP:C.P=Pz)(hK:Kd C i own K)(c:K w)(hS:Sl 139 [(0,ϱ C.mu C.mo)] t):cJ C i own (vf C i own (iK C K b₁ a₁ ops₁ i₁ rest₁ k₁ cs₁) Yd Yd 0) 21 (G (fr 166 t [.code aj]) (b₁.at a₁ (.inRegion ops₁ (i₁::rest₁)::k₁)::cs₁)) w:=by show cJ C i own _ _ (G (fr 166 _ (cA aj 1)) _) w;refine dU 21 (rA aj 62 [3,4]) [(0,ϱ C.mu C.mo),(2,Iv 0),(3,.bool Yd),(4,.bool Yd),(5,Iv 0),(12,ϱ C.mu C.mo)] hS λt w1 hS r=>aB (n:=0) λw1 e=>?_;replace c:=hK.env (hK.env c r) e;refine⟨rfl,λf q hw _=>⟨_,by rw[hP];exact nC hS (o:=opn (aZ (sb aj 62)) 3) (d:=13) Ψ Ψ Ψ (y:=.tmp 12) Ψ (hS.get (by rfl)) (az.cell hC hw) LQ,5,?_⟩⟩;replace hS:Sl 139 [(13,.int .i32 (f.enc:Nat)),(0,ϱ C.mu C.mo),(2,Iv 0),(3,.bool Yd),(4,.bool Yd),(5,Iv 0),(12,ϱ C.mu C.mo)] _:=hS.put (d:=13) (v:=.int .i32 (f.enc:Nat)) Δ Θ;refine dU 5 (cA aj 504) [(0,ϱ C.mu C.mo),(2,Iv 0),(3,.bool Yd),(4,.bool Yd),(5,Iv 0),(6,.int .i32 (f.enc:Nat))] hS λt w1 hS r=>aB (n:=0) λw1 e=>?_;exact⟨hK.env (hK.env c r) e,_,t,hS,rfl⟩
end
end
end
end Go.Lw
