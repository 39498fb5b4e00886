/- A part. -/
import Derived.KernelRfl
import GoSem.Core.Value
import Derived.Conc.Own4
import Derived.Conc.SmallLaws
import Derived.Conc.Listed
import Derived.Calls
import Derived.Conc.Own
import Derived.Conc.Events
import Derived.Laws.Entries
import Derived.Conc.LockTrace
import Derived.Conc.MuSpec
import Derived.Conc.Beside
import Derived.Conc.MuWords
import Derived.Conc.ClockLaws
import Derived.Test.YtobmepfondcekaaGreatDoorProg
import Derived.Conc.DeferLaws
import Derived.Conc.QuitsD
import Derived.Conc.WgArith
set_option linter.all false
open Go.Proofs.Tryz renaming prog->Pz
open Go renaming Act->ZH,Addr->ZA,Builtin->Zn,CallKind->ZU,Code->ZL,Deferred->Zv,Event->ZG,Frame->Y8,FuncId->Zi,Goroutine->Y2,IntKind->Y7,Item->ZE,MapEntry->ZO,Obj->Zy,Oper->ZK,Operand->Zm,Program->Zf,Question->ZS,Result->ZF,Sem->Zs,TypeId->Zd,Value->YY,World->YZ,execOp->Y3,stepG->Y4,undef->Zh,yielded->Ze
open Bool renaming false->YT,true->YX
open Option renaming none->Y1,some->YU
open Go.Proofs.Tryz
abbrev V8:=@Nat.le_refl
abbrev V9:=@Nat.lt_of_lt_of_le
abbrev Wa:=@Array.getElem?_eq_some_iff
abbrev Wb:=@List.getElem?_eq_getElem
abbrev We:=@List.mem_of_getElem?
abbrev Wf:=@List.mem_cons_self
abbrev Wg:=@Bool.and_eq_true
abbrev Wh:=@Option.map_eq_some_iff
abbrev Wi:=@Nat.zero_add
abbrev Wj:=@List.mem_map
abbrev Wk:=@Nat.le_trans
abbrev Wl:=@List.mem_cons
abbrev Wm:=@Array.getElem?_eq_getElem
abbrev Wn:=@List.getElem?_eq_some_iff
abbrev Wo:=@List.mem_cons_of_mem
abbrev Wp:=@List.getElem?_map
abbrev Wq:=@List.mem_append
abbrev Wr:=@Option.some.injEq
abbrev Wt:=@Prod.mk.injEq
abbrev Wu:=@List.mem_singleton
abbrev Wv:=@Iff.rfl
abbrev Ww:=@List.mem_append_right
abbrev Wx:=@Option.bind_eq_some_iff
abbrev Wy:=@Nat.lt_irrefl
abbrev Wz:=@Option.map_some
abbrev WA:=@Array.getD_eq_getD_getElem?
abbrev WB:=@Nat.le_of_lt
abbrev WC:=@List.all_eq_true
abbrev WE:=@Nat.zero_le
abbrev WG:=@Bool.eq_false_iff
abbrev WH:=@List.mem_append_left
abbrev WI:=@Array.getElem?_setIfInBounds_ne
abbrev WJ:=@Prod.mk.inj
abbrev WK:=@List.mem_iff_getElem?
abbrev WL:=@Array.getElem?_push
abbrev WM:=@List.length_append
abbrev WN:=@List.map_cons
abbrev WO:=@Nat.add_zero
abbrev WQ:=@Bool.false_eq_true
abbrev WR:=@Array.mem_append
abbrev WS:=@List.length_eq_zero_iff
abbrev WT:=@List.take_add_one
abbrev WU:=@Nat.le_of_ble_eq_true
abbrev WV:=@Nat.lt_or_ge
abbrev WW:=@Option.getD_some
abbrev WX:=@Nat.le_of_eq
abbrev WY:=@Bool.or_eq_true
abbrev WZ:=@Option.some.inj
abbrev W1:=@Array.mem_of_getElem?
abbrev W3:=@Nat.eq_zero_or_pos
abbrev W4:=@List.take_length
abbrev W6:=@List.map_append
abbrev W7:=@List.mem_filter
abbrev W8:=@List.append_assoc
abbrev W9:=@List.append_nil
abbrev Xa:=@Classical.byContradiction
abbrev Xb:=@List.take_of_length_le
abbrev Xc:=@List.nodup_cons
abbrev Xd:=@List.map_nil
abbrev Xe:=@List.foldl_cons
abbrev Xf:=@List.any_eq_true
abbrev Xg:=@List.getElem?_append_left
abbrev Xh:=@Array.getElem?_modify
abbrev Xi:=@Nat.le_add_right
abbrev Xj:=@List.all_cons
abbrev Xk:=@Nat.not_lt_zero
abbrev Xl:=@List.getElem_mem
abbrev Xm:=@List.filter_cons
abbrev Xn:=@Bool.false_and
abbrev Xo:=@List.foldl_append
abbrev Xp:=@Nat.le_succ
abbrev Xq:=@List.length_cons
abbrev Xr:=@List.perm_middle
abbrev Xs:=@Nat.pow_le_pow_right
abbrev Xu:=@List.not_mem_nil
abbrev Xv:=@Array.getElem?_setIfInBounds
abbrev Xw:=@Array.getElem?_map
abbrev Xx:=@Option.isSome_iff_exists
abbrev Xy:=@Nat.lt_or_eq_of_le
abbrev Xz:=@List.drop_eq_getElem_cons
abbrev XA:=@Bool.eq_iff_iff
abbrev XB:=@Nat.pos_of_ne_zero
abbrev XC:=@List.range_succ
abbrev XD:=@List.map_toArray
abbrev XE:=@Option.bind_some
abbrev XF:=@List.getElem?_range
abbrev XG:=@Nat.mul_le_mul_right
abbrev XH:=@Bool.or_true
abbrev XI:=@Nat.ne_of_lt
abbrev XJ:=@List.contains_iff_mem
abbrev XK:=@List.getElem?_append_right
abbrev XL:=@List.count_cons_of_ne
abbrev XM:=@Nat.add_assoc
abbrev XN:=@Int.add_zero
abbrev XO:=@Array.length_toList
abbrev XP:=@Array.getElem?_replicate
abbrev XQ:=@Int.toNat_natCast
abbrev XR:=@Bool.or_false
abbrev XS:=@Bool.true_or
abbrev XT:=@List.getElem_toArray
abbrev XU:=@List.getElem_cons_succ
abbrev XV:=@List.getElem_cons_zero
abbrev XW:=@List.setIfInBounds_toArray
abbrev XX:=@List.set_cons_zero
abbrev XY:=@List.set_cons_succ
abbrev XZ:=@Bool.true_and
abbrev X0:=@List.getElem?_cons_succ
abbrev X3:=@Nat.mod_lt
abbrev X4:=@Nat.lt_of_le_of_lt
abbrev X5:=@List.nodup_nil
abbrev X6:=@Nat.add_mul
abbrev X8:=@List.nodup_append
abbrev X9:=@List.map_congr_left
abbrev Ya:=@Int.le_refl
abbrev Yb:=@List.mem_flatMap
abbrev Yc:=@Array.mem_iff_getElem
abbrev Yd:=@Array.ext_getElem?
abbrev Ye:=@Array.getElem?_eq_none
abbrev Yf:=@List.cons.injEq
abbrev Yg:=@Array.all_eq_true_iff_forall_mem
abbrev Yh:=@Nat.le_of_lt_succ
abbrev Yi:=@Bool.false_or
abbrev Yj:=@Int.ofNat.inj
abbrev Yk:=@List.extract_eq_take_drop
abbrev Yl:=@List.flatMap_cons
abbrev Ym:=@List.nil_append
abbrev Yn:=@List.length_filter_le
abbrev Yo:=@List.ext_getElem?
abbrev Yp:=@Array.mem_push
abbrev Yq:=@List.mem_map_of_mem
abbrev Yr:=@Nat.succ_pos
abbrev Ys:=@Nat.mul_one
abbrev Yt:=@Nat.mul_comm
abbrev Yu:=@Bool.toNat_le
abbrev Yv:=@List.getElem?_toArray
abbrev Yw:=@Prod.ext
abbrev Yx:=@List.pairwise_cons
abbrev Yy:=@List.foldlM_cons
abbrev Yz:=@List.take_succ_eq_append_getElem
abbrev YA:=@List.mapIdx_cons
abbrev YB:=@List.count_append
abbrev YC:=@Array.toList_inj
abbrev YD:=@Array.toList_append
abbrev YE:=@Array.toList_setIfInBounds
abbrev YF:=@List.length_drop
abbrev YG:=@Nat.le_of_not_lt
abbrev YH:=@List.count_pos_iff
abbrev YI:=@List.length_take
abbrev YJ:=@Nat.testBit_two_pow_mul_add
abbrev YK:=@Nat.testBit_lt_two_pow
abbrev YL:=@Int.fdiv_eq_ediv_of_nonneg
abbrev YM:=@Bool.not_false
abbrev YN:=@Array.size_setIfInBounds
abbrev YO:=@Nat.lt_of_succ_lt
abbrev YP:=@List.length_pos_iff
abbrev YQ:=@Nat.pow_succ
abbrev YR:=@List.filter_append
abbrev YS:=@List.filter_congr
abbrev YV:=@Array.getElem_setIfInBounds
abbrev YW:=@Array.getElem?_push_lt
abbrev Y0:=@Array.getElem!_eq_getD
abbrev Y5:=@Array.mapM_eq_foldlM
abbrev Y6:=@Array.foldlM_toList
abbrev Y9:=@List.take_subset_take_left
abbrev Za:=@List.getD_eq_getElem?_getD
abbrev Zb:=@Array.toList_extract
abbrev Zc:=@List.set_eq_take_append_cons_drop
abbrev Zg:=@List.flatMap_eq_nil_iff
abbrev Zk:=@Array.getElem?_append_left
abbrev Zo:=@List.drop_of_length_le
abbrev Zp:=@List.take_append_drop
abbrev Zq:=@List.count_cons_self
abbrev Zr:=@List.mem_of_mem_drop
abbrev Zt:=@Array.getElem?_of_mem
abbrev Zu:=@List.eq_nil_of_length_eq_zero
abbrev Zw:=@Nat.and_two_pow_sub_one_eq_mod
abbrev Zx:=@Nat.two_pow_add_eq_or_of_lt
abbrev Zz:=@List.map_eq_nil_iff
abbrev ZB:=@List.getD_cons_zero
abbrev ZC:=@List.getD_cons_succ
abbrev ZD:=@List.perm_append_singleton
abbrev ZM:=@Int.eq_ofNat_of_zero_le
abbrev ZN:=@List.Pairwise.filter
abbrev ZQ:=@Array.getElem?_setIfInBounds_self_of_lt
abbrev ZR:=@List.eq_nil_or_concat
namespace Go
abbrev Iv(n:Int):YY:=.int .i64 n
variable{p:Prop}
theorem Ψ(h:p:=by kernel_rfl):p:=h
theorem Δ(h:p:=by decide):p:=h
theorem Ω(h:p:=by omega):p:=h
theorem Θ(h:p:=by simp):p:=h
theorem Ξ(h:p:=by rw[hP];kernel_rfl):p:=h
theorem Λ(h:p:=by rw[hP];exact .all):p:=h
theorem Υ(h:p:=by intro p hp;simp only[Wl,Xu,or_false]at hp;(repeat'(refine Or.elim hp ?_ ?_<;>intro hp));(all_goals subst hp);all_goals first|(left;simp;done)|(refine .inr ⟨0,?_,hdep 0 ?_⟩;rotate_left;kernel_rfl;simp;done)|(refine .inr ⟨1,?_,hdep 1 ?_⟩;rotate_left;kernel_rfl;simp;done)|(refine .inr ⟨2,?_,hdep 2 ?_⟩;rotate_left;kernel_rfl;simp;done)|(refine .inr ⟨3,?_,hdep 3 ?_⟩;rotate_left;kernel_rfl;simp;done)|(refine .inr ⟨4,?_,hdep 4 ?_⟩;rotate_left;kernel_rfl;simp;done)|(refine .inr ⟨5,?_,hdep 5 ?_⟩;rotate_left;kernel_rfl;simp;done)|(refine .inr ⟨6,?_,hdep 6 ?_⟩;rotate_left;kernel_rfl;simp;done)|(refine .inr ⟨7,?_,hdep 7 ?_⟩;rotate_left;kernel_rfl;simp;done)|(refine .inr ⟨8,?_,hdep 8 ?_⟩;rotate_left;kernel_rfl;simp;done)|(refine .inr ⟨9,?_,hdep 9 ?_⟩;rotate_left;kernel_rfl;simp;done)|(refine .inr ⟨10,?_,hdep 10 ?_⟩;rotate_left;kernel_rfl;simp;done)|(refine .inr ⟨11,?_,hdep 11 ?_⟩;rotate_left;kernel_rfl;simp;done)|(refine .inr ⟨12,?_,hdep 12 ?_⟩;rotate_left;kernel_rfl;simp;done)|(refine .inr ⟨13,?_,hdep 13 ?_⟩;rotate_left;kernel_rfl;simp;done)|(refine .inr ⟨14,?_,hdep 14 ?_⟩;rotate_left;kernel_rfl;simp;done)|(refine .inr ⟨15,?_,hdep 15 ?_⟩;rotate_left;kernel_rfl;simp;done)|(refine .inr ⟨16,?_,hdep 16 ?_⟩;rotate_left;kernel_rfl;simp;done)|(refine .inr ⟨17,?_,hdep 17 ?_⟩;rotate_left;kernel_rfl;simp;done)|(refine .inr ⟨18,?_,hdep 18 ?_⟩;rotate_left;kernel_rfl;simp;done)|(refine .inr ⟨19,?_,hdep 19 ?_⟩;rotate_left;kernel_rfl;simp;done)|(refine .inr ⟨20,?_,hdep 20 ?_⟩;rotate_left;kernel_rfl;simp;done)|(refine .inr ⟨21,?_,hdep 21 ?_⟩;rotate_left;kernel_rfl;simp;done)|(refine .inr ⟨22,?_,hdep 22 ?_⟩;rotate_left;kernel_rfl;simp;done)|(refine .inr ⟨23,?_,hdep 23 ?_⟩;rotate_left;kernel_rfl;simp;done)|(refine .inr ⟨24,?_,hdep 24 ?_⟩;rotate_left;kernel_rfl;simp;done)|(refine .inr ⟨25,?_,hdep 25 ?_⟩;rotate_left;kernel_rfl;simp;done)):p:=h
abbrev ϖ(b:Nat):YY:=.pointer (YU ⟨b,0,Y1⟩)
abbrev ϱ(b o:Nat):YY:=.pointer (YU ⟨b,o,Y1⟩)
end Go
namespace Go.Pw
open Go.Conc
variable{P:Zf}{α:Type}{F F' F1:Y8}{o:Zy}{main rd:Bool}{cs:List Y8}{w:YZ}{ops:Array ZK}{i d m N b:Nat}{k:List ZE}{H L L':List (Nat×YY)}{R:YZ->YZ->Prop}{D:YZ->YZ->Array ZG->Prop}{Stop:Y2->YZ->Prop}{J:Y2->Prop}{v:YY}{t:Array YY}{f:Zi}
def dJ(P:Zf){α:Type}:Zs α->Option α
 |.pure a=>YU a
 |.program k=>dJ P (k P)
 |_=>Y1
theorem eO{x:Zs α}{a:α}(h:dJ P x=YU a)(w:YZ):x.run P w=.ok a w/\x.events P w #[]=#[]:=by induction x with|pure b=>simp only[dJ,Wr]at h;subst h;exact⟨rfl,rfl⟩|program k c=>exact c P h|_=>simp[dJ]at h
def Cs(P:Zf)(F:Y8)(o:ZK):Option Y8:=
 match o.op with
 |.defer _=>Y1
 |_=>match dJ P (Y3 F.eval o)with
   |some (.value v)=>YU (F.finish v)
   |some .skip=>YU (F.finish Zh)
   |_=>Y1
def mb(P:Zf)(F:Y8):Option Y8:=
 match F.todo with
 |.code .skip::k=>YU {F with todo:=k}
 |.code (.label _)::k=>YU {F with todo:=k}
 |.inBlock _::k=>YU {F with todo:=k}
 |.inScope _::k=>YU {F with todo:=k}
 |.code (.seq a b)::k=>YU {F with todo:=.code a::.code b::k}
 |.code (.cond c x y)::k=>match F.eval c with
   |.bool b=>YU {F with todo:=.code (if b then x else y)::k}
   |_=>Y1
 |.code (.block id c)::k=>YU {F with todo:=.code c::.inBlock id::k}
 |.code (.loop c)::k=>YU {F with todo:=.code c::.inLoop c::k}
 |.inLoop c::k=>YU {F with todo:=.code c::.inLoop c::k}
 |.code (.scope c)::k=>YU {F with todo:=.code c::.inScope c::k}
 |.code (.exit id)::k=>(exitTo id k).map λk=>{F with todo:=k}
 |.code (.region _ ops YT)::k=>YU {F with todo:=.inRegion ops (List.range ops.size)::k}
 |.inRegion _ []::k=>YU {F with todo:=k}
 |.inRegion ops (i::_)::_=>
   match((ops[i]?).map (Region.wanted · (Ze ops F.tmps))).getD YT with
   |true=>(ops[i]?).bind (Cs P F)
   |false=>YU (F.finish Zh)
 |_=>Y1
def hint(H:List (Nat×YY))(F F1:Y8):Y8×List (YY×YY):=
 match F.todo with
 |.inRegion ops (i::_)::_=>
   match(ops[i]?).bind (·.dst)with
   |some d=>match H.lookup d with
     |some v=>({F1 with tmps:=F.tmps.setIfInBounds d v},[(F1.tmps.getD d Zh,v)])
     |none=>(F1,[])
   |none=>(F1,[])
 |_=>(F1,[])
def bA(P:Zf)(H:List (Nat×YY)):Nat->Y8->Option (Y8×List (YY×YY))
 |0,F=>YU (F,[])
 |n+1,F=>(mb P F).bind λF1=>(bA P H n (hint H F F1).1).map λx=>(x.1,(hint H F F1).2++x.2)
theorem ki(P:Zf)(f:Zi):seen P f #[]=#[]:=by rw[seen_def];simp
theorem CW{o:ZK}(C:F.mode=.run)(B:F.kind≠.early)(H:∃ops i rest k,F.todo=.inRegion ops (i::rest)::k/\ops[i]?=YU o/\Region.wanted o (Ze ops F.tmps)=YX)(h:Cs P F o=YU F'):Y4 P main (G F cs) w=.go (G F' cs) w #[]:=by obtain⟨ops,i,rest,k,z,A,t⟩:=H;obtain⟨fn,tmps,todo,defers,mode,kind,q⟩:=F;subst z C;(have m:=by simpa using B);(have D:∀c,o.op≠.defer c:=λc e=>by unfold Cs at h;rw[e]at h;cases h);(have y:∀n,dJ P (Y3 (Y8.eval {fn:=fn,tmps:=tmps,todo:=.inRegion ops (i::rest)::k,defers:=defers,mode:=.run,kind:=kind,roundOf:=q}) o)=YU n->(∃v,n=.value v/\F'=Y8.finish {fn:=fn,tmps:=tmps,todo:=.inRegion ops (i::rest)::k,defers:=defers,mode:=.run,kind:=kind,roundOf:=q} v)\/(n=.skip/\F'=Y8.finish {fn:=fn,tmps:=tmps,todo:=.inRegion ops (i::rest)::k,defers:=defers,mode:=.run,kind:=kind,roundOf:=q} Zh):=by intro n E;unfold Cs at h;split at h;{cases h};rw[E]at h;cases n<;>simp at h<;>simp[h]);cases u:dJ P (Y3 (Y8.eval {fn:=fn,tmps:=tmps,todo:=.inRegion ops (i::rest)::k,defers:=defers,mode:=.run,kind:=kind,roundOf:=q}) o)with|none=>unfold Cs at h;split at h;{cases h};rw[u]at h;cases h|some n=>obtain⟨p,r⟩:=eO u w;(have x:Y4 P main (G {fn:=fn,tmps:=tmps,todo:=.inRegion ops (i::rest)::k,defers:=defers,mode:=.run,kind:=kind,roundOf:=q} cs) w=Y4.apply P YX {fn:=fn,tmps:=tmps,todo:=.inRegion ops (i::rest)::k,defers:=defers,mode:=.run,kind:=kind,roundOf:=q} cs Y1 (Y3 (Y8.eval {fn:=fn,tmps:=tmps,todo:=.inRegion ops (i::rest)::k,defers:=defers,mode:=.run,kind:=kind,roundOf:=q}) o) w:=by cases q with|none=>simp only[G,Y4,Y4.exec,Y4.oper,Y8.oper?,A,t,Wz,WW,if_true]|some l=>simp only[G,Y4,Y4.exec,Y4.oper,Y8.oper?,A,t,Wz,WW,if_true];split;{rename_i e;exact absurd e (D _)};rfl);rw[x];rcases y n u with⟨v,rfl,rfl⟩|⟨rfl,rfl⟩;{simp[Y4.apply,p,r,m,GStep.after,ki,G]};simp[Y4.apply,p,r,m,GStep.after,ki,G]
theorem iH(m:F.mode=.run)(a:F.kind≠.early)(h:mb P F=YU F'):(∀main cs w,Y4 P main (G F cs) w=.go (G F' cs) w #[])/\F'.mode=.run/\F'.kind≠.early:=by obtain⟨t,q,r,f,p,n,v⟩:=F;subst m;unfold mb at h;simp only at h;split at h;(all_goals first|(cases h;exact⟨λmain cs w=>by simp[G,Y4,Y4.exec],rfl,a⟩)|skip);{split at h;{rename_i b s;cases h;exact⟨λmain cs w=>by simp[G,Y4,Y4.exec,s],rfl,a⟩};cases h};{rename_i id k;cases j:exitTo id k with|none=>rw[j]at h;cases h|some u=>rw[j]at h;cases h;exact⟨λmain cs w=>by simp[G,Y4,Y4.exec,j],rfl,a⟩};{rename_i d i e k;split at h;{rename_i g;cases l:d[i]? with|none=>rw[l]at h;cases h|some o=>rw[l]at h g;simp only[XE]at h;refine⟨λmain cs w=>CW rfl a ⟨d,i,e,k,rfl,l,by simpa using g⟩ h,?_⟩;unfold Cs at h;split at h;{cases h};split at h<;>cases h<;>exact⟨rfl,a⟩};rename_i g;cases h;refine⟨λmain cs w=>?_,rfl,a⟩;simp only[G,Y4,Y4.exec,g,WQ,if_false]};cases h
theorem GF{rest:List Nat}{d:Tmp}(e:F.todo=.inRegion ops (i::rest)::k)(l:(ops[i]?).bind (·.dst)=YU d)(h:mb P F=YU F1):∃v,F1={F with tmps:=F.tmps.setIfInBounds d v,todo:=.inRegion ops rest::k}:=by(have c:∀v,F.finish v={F with tmps:=F.tmps.setIfInBounds d v,todo:=.inRegion ops rest::k}:=λv=>by obtain⟨m,tmps,todo,b,j,g,n⟩:=F;subst e;simp[Y8.finish,l]);unfold mb at h;rw[e]at h;simp only at h;split at h;{cases f:ops[i]? with|none=>rw[f]at h;cases h|some o=>rw[f]at h;simp only[XE]at h;unfold Cs at h;split at h;{cases h};split at h<;>cases h;{exact⟨_,c _⟩};exact⟨_,c _⟩};cases h;exact⟨_,c _⟩
theorem xS(h:mb P F=YU F1)(a:∀p∈(hint H F F1).2,p.1=p.2):(hint H F F1).1=F1:=by unfold hint at a⊢;split;{rename_i e i j k g;rw[g]at a;simp only at a;cases f:(e[i]?).bind (·.dst)with|none=>rfl|some d=>rw[f]at a;simp only at a⊢;cases l:H.lookup d with|none=>rfl|some v=>rw[l]at a;simp only[Wu,forall_eq]at a⊢;obtain⟨u,rfl⟩:=GF g f h;rcases WV d F.tmps.size with c|b;{(have:(F.tmps.setIfInBounds d u).getD d Zh=u:=by simp[c]);rw[this]at a;rw[a]};simp[Array.setIfInBounds,Nat.not_lt.2 b]};rfl
theorem tn(j:∀a b c,R a b->R b c->R a c)(i:∀w,D w w #[]):∀(n:Nat){F F':Y8}{obs:List (YY×YY)}{w:YZ},bA P H n F=YU (F',obs)->(∀p∈obs,p.1=p.2)->F.mode=.run->F.kind≠.early->Goes P main R D Stop m (G F' cs) w->Goes P main R D Stop (m+n) (G F cs) w|0,F,F',obs,w,h,_,_,_,g=>by cases h;exact g|n+1,F,F',obs,w,h,k,t,s,g=>by simp only[bA]at h;cases d:mb P F with|none=>rw[d]at h;cases h|some l=>rw[d]at h;simp only[XE]at h;cases f:bA P H n (hint H F l).1 with|none=>rw[f]at h;cases h|some x=>rw[f]at h;simp only[Wz,Wr,Wt]at h;obtain⟨rfl,rfl⟩:=h;rw[xS d λp d=>k p (Wq.2 (.inl d))]at f;obtain⟨o,q,r⟩:=iH t s d;have:=tn j i n (F':=x.1) (obs:=x.2) f (λp d=>k p (Wq.2 (.inr d))) q r g;refine .inr ⟨rfl,λv u=>?_⟩;rw[o];exact⟨i v,this.rely j u⟩
theorem ph(f:∀F b,(∀w,Y4 P main (G F cs) w=.go (G b cs) w #[])->J (G b cs)->J (G F cs)):∀(n:Nat){F F':Y8}{obs:List (YY×YY)},bA P H n F=YU (F',obs)->(∀p∈obs,p.1=p.2)->F.mode=.run->F.kind≠.early->J (G F' cs)->J (G F cs)|0,F,F',obs,h,_,_,_,e=>by cases h;exact e|n+1,F,F',obs,h,g,m,l,e=>by simp only[bA]at h;cases a:mb P F with|none=>rw[a]at h;cases h|some b=>rw[a]at h;simp only[XE]at h;cases d:bA P H n (hint H F b).1 with|none=>rw[d]at h;cases h|some x=>rw[d]at h;simp only[Wz,Wr,Wt]at h;obtain⟨rfl,rfl⟩:=h;rw[xS a λp a=>g p (Wq.2 (.inl a))]at d;obtain⟨i,j,k⟩:=iH m l a;exact f F b (λw=>i main cs w) (ph f n (F':=x.1) (obs:=x.2) d (λp a=>g p (Wq.2 (.inr a))) j k e)
def tm(N:Nat)(L:List (Nat×YY))(t:Array YY):Array YY:=((List.range N).map λi=>match L.lookup i with|some v=>v|none=>t.getD i Zh).toArray
structure Sl(N:Nat)(L:List (Nat×YY))(t:Array YY):Prop where
 size:t.size=N
 at_:∀p∈L,t.getD p.1 Zh=p.2
theorem lL(h:L.lookup i=YU v):(i,v)∈L:=by induction L with|nil=>cases h|cons p l c=>simp only[List.lookup]at h;split at h;{rename_i e;cases h;(have:=by simpa using e);subst this;exact Wf ..};exact Wo _ (c h)
theorem Sl.tm(h:Sl N L t):t=tm N L t:=by apply Yd;intro i;(have e:(Pw.tm N L t)[i]?=((List.range N).map λi=>match L.lookup i with|some v=>v|none=>t.getD i Zh)[i]?:=by unfold Pw.tm;simp);rw[e,Wp];rcases WV i N with a|a;{rw[XF a];(have b:i<t.size:=by rw[h.size];exact a);simp only[Wz,Wm b,Wr];cases d:L.lookup i with|none=>simp[Wm b]|some v=>have:=h.at_ _ (lL d);simp only[WA,Wm b]at this;exact this};rw[List.getElem?_eq_none (by simpa using a),Ye (by rw[h.size];exact a)];rfl
theorem Sl.all(h:(t.size,L.map λp=>t.getD p.1 Zh)=(N,L.map (·.2)):=by kernel_rfl):Sl N L t:=by obtain⟨a,b⟩:=WJ h;refine⟨a,λp d=>?_⟩;obtain⟨i,c⟩:=WK.1 d;have:=congrArg (·[i]?) b;simpa[Wp,c]using this
theorem Sl.Vn(h:t.size=N):Sl N [] t:=⟨h,λp a=>by cases a⟩
theorem Sl.cons{N:Nat}{L:List (Nat×YY)}{t:Array YY}{i:Nat}{v:YY}(h:t.getD i Zh=v)(b:Sl N L t):Sl N ((i,v)::L) t:=⟨b.size,λp a=>by rcases Wl.1 a with rfl|a;{exact h};exact b.at_ p a⟩
section
abbrev fr(f:Zi)(t:Array YY)(k:List ZE):Y8:={fn:=f,tmps:=t,todo:=k,defers:=[],mode:=.run,kind:=.normal,roundOf:=Y1}
def sub:List Nat->ZL->ZL
 |[],c=>c
 |i::p,c=>match c,i with
   |.seq a _,0=>sub p a
   |.seq _ b,_=>sub p b
   |.cond _ a _,0=>sub p a
   |.cond _ _ b,_=>sub p b
   |.block _ a,_=>sub p a
   |.loop a,_=>sub p a
   |.scope a,_=>sub p a
   |.rangeFunc _ _ a _,0=>sub p a
   |.rangeFunc _ _ _ b,_=>sub p b
   |c,_=>c
def aQ:ZL->Array ZK
 |.region _ ops _=>ops
 |_=>#[]
def opn(ops:Array ZK)(i:Nat):ZK:=(ops[i]?).getD default
def Vt:Nat->Nat->List Nat->List Nat
 |0,_,a=>a
 |f+1,n,a=>match Nat.ble n 1 with|true=>a|false=>Vt f (n/2) (n%2::a)
def dg(n:Nat):List Nat:=Vt 60 n []
abbrev sb(c:ZL)(n:Nat):ZL:=sub (dg n) c
def tT:List Nat->ZL->List ZE->List ZE
 |[],_,k=>k
 |i::p,c,k=>match c,i with
   |.seq a b,0=>tT p a (.code b::k)
   |.seq _ b,_=>tT p b k
   |.cond _ a _,0=>tT p a k
   |.cond _ _ b,_=>tT p b k
   |.block id a,_=>tT p a (.inBlock id::k)
   |.loop a,_=>tT p a (.inLoop a::k)
   |.scope a,_=>tT p a (.inScope a::k)
   |_,_=>k
abbrev rA(c:ZL)(n:Nat)(l:List Nat):List ZE:=.inRegion (aQ (sb c n)) l::tT (dg n) c []
abbrev cA(c:ZL)(n:Nat):List ZE:=.code (sb c n)::tT (dg n) c []
abbrev xA(x:ZL)(c:ZL)(n:Nat):List ZE:=.code x::tT (dg n) c []
abbrev dA(c:ZL)(n:Nat)(r:Nat):List ZE:=.code (.region r (aQ (sb c n)) YX)::tT (dg n) c []
theorem Sl.get(h:Sl N L t)(a:L.lookup i=YU v):t.getD i Zh=v:=h.at_ _ (lL a)
theorem Sl.gN(h:Sl N L t)(i:Nat)(hl:L.lookup i=YU v):t.getD i Zh=v:=h.get hl
theorem Sl.put(h:Sl N L t)(c:d<N)(e:∀p∈L',p=(d,v)\/(p∈L/\p.1≠d)):Sl N L' (t.setIfInBounds d v):=by refine⟨by simp[h.size],λp f=>?_⟩;rcases e p f with rfl|⟨a,b⟩;{simp[WA,h.size,c]};rw[<-h.at_ p a];simp only[WA];rw[WI (Ne.symm b)]
theorem Sl.sub(h:Sl N L t)(b:∀p∈L',p∈L):Sl N L' t:=⟨h.size,λp a=>h.at_ p (b p a)⟩
theorem aS{o:ZK}(h:Sl N L t)(b:Region.wanted o (Ze ops (tm N L t))=YX):Region.wanted o (Ze ops t)=YX:=by rw[h.tm];exact b
theorem Sl.pt(h:Sl N L t)(b:d<N:=by decide)(c:L.all (λp=>!(p.1==d))=YX:=by rfl):Sl N ((d,v)::L) (t.setIfInBounds d v):=h.put b λp a=>by rcases Wl.1 a with rfl|a;{exact .inl rfl};exact .inr ⟨a,by simpa using WC.1 c p a⟩
theorem uF:∀p∈([]:List (YY×YY)),p.1=p.2:=λp a=>by cases a
theorem J7{a b:YY}{l:List (YY×YY)}(h:a=b)(d:∀p∈l,p.1=p.2):∀p∈(a,b)::l,p.1=p.2:=λp c=>by rcases Wl.1 c with rfl|c;{exact h};exact d p c
theorem int_eq{k:Y7}{x y:Int}(h:x=y):YY.int k x=YY.int k y:=by rw[h]
structure Ob where
 c:YY
 b:YY
 h:c=b
def oi(k:Y7)(c b:Int)(h:c=b):Ob:=⟨.int k c,.int k b,int_eq h⟩
def o2(c b:Int)(h:c=b):Ob:=oi .u32 c b h
def o3(c b:Int)(h:c=b):Ob:=oi .i32 c b h
def o6(c b:Int)(h:c=b):Ob:=oi .i64 c b h
def o8(c b:Int)(h:c=b):Ob:=oi .u64 c b h
def ob(c b:Bool)(h:c=b):Ob:=⟨.bool c,.bool b,congrArg YY.bool h⟩
def oh(O:List (Nat×Ob)):List (Nat×YY):=O.map λp=>(p.1,p.2.b)
def oo(O:List (Nat×Ob)):List (YY×YY):=O.map λp=>(p.2.c,p.2.b)
theorem uX(O:List (Nat×Ob)):∀p∈oo O,p.1=p.2:=λp a=>by obtain⟨q,_,rfl⟩:=Wj.1 a;exact q.2.h
def i7(P:Zf)(H:List (Nat×YY))(n:Nat)(F:Y8):Array YY:=match bA P H n F with|some x=>x.1.tmps|none=>#[]
section
variable{k':List ZE}{n:Nat}{obs:List (YY×YY)}
theorem It(l:∀a b c,R a b->R b c->R a c)(i:∀w,D w w #[])(n:Nat)(o:Sl N L t)(g:bA P H n (fr f (tm N L t) k)=YU (fr f (i7 P H n (fr f (tm N L t) k)) k',obs))(q:∀p∈obs,p.1=p.2)(h:Sl N L' (i7 P H n (fr f (tm N L t) k)))(j:∀d,Sl N L' d->Goes P main R D Stop m (G (fr f d k') cs) w):Goes P main R D Stop (m+n) (G (fr f t k) cs) w:=by(have e:fr f t k=fr f (tm N L t) k:=by rw[<-o.tm]);rw[e];exact tn l i n g q rfl Θ (j _ h)
theorem ME(h:∀F a,(∀w,Y4 P main (G F cs) w=.go (G a cs) w #[])->J (G a cs)->J (G F cs))(n:Nat)(i:Sl N L t)(c:bA P H n (fr f (tm N L t) k)=YU (fr f (i7 P H n (fr f (tm N L t) k)) k',obs))(j:∀p∈obs,p.1=p.2)(d:Sl N L' (i7 P H n (fr f (tm N L t) k)))(g:∀b,Sl N L' b->J (G (fr f b k') cs)):J (G (fr f t k) cs):=by(have e:fr f t k=fr f (tm N L t) k:=by rw[<-i.tm]);rw[e];exact ph (main:=main) h n c j rfl Θ (g _ d)
end
end
def ya:YY->Bool
 |.agg _|.tuple _=>YT
 |_=>YX
def Tl{α:Type}(b:Nat)(r:Option (α×Zy×List Nat)):Option (α×Zy×List Nat):=r.map λr=>(r.1,r.2.1,b::r.2.2)
def j1(P:Zf)(rd:Bool){α:Type}:Zs α->Zy->Option (α×Zy×List Nat)
 |.pure a,o=>YU (a,o,[])
 |.program k,o=>j1 P rd (k P) o
 |.load .plain ⟨b,i,Y1⟩ k,.cells c e fr=>(c[i]?).bind λv=>Tl b (j1 P rd (k v) (.cells c e fr))
 |.store .plain ⟨b,i,Y1⟩ v k,.cells c e (0,0)=>match !rd&&ya v&&decide (i<c.size)with
   |true=>Tl b (j1 P rd k (.cells (c.setIfInBounds i v) e))
   |false=>Y1
 |.getObj r k,.map es n=>Tl r (j1 P rd (k (.map es n)) (.map es n))
 |.setObj r (.map es' n') k,.map _ _=>match rd with
   |false=>Tl r (j1 P rd k (.map es' n'))
   |true=>Y1
 |_,_=>Y1
def Jt(P:Zf){α:Type}:Zs α->Option (Zy×(Nat->Zs α))
 |.program k=>Jt P (k P)
 |.new o k=>YU (o,k)
 |_=>Y1
def iU(w:YZ)(b:Nat)(o:Zy):YZ:={w with heap:=w.heap.setIfInBounds b o}
theorem pS{o':Zy}(h:w.heap[b]?=YU o):(iU w b o').heap[b]?=YU o':=by obtain⟨a,_⟩:=Wa.1 h;simp[iU,a]
theorem qB{c:Nat}(h:c≠b):(iU w b o).heap[c]?=w.heap[c]?:=by simp[iU,WI (Ne.symm h)]
theorem wY(w:YZ)(b:Nat)(o o':Zy):iU (iU w b o) b o'=iU w b o':=by simp[iU]
theorem nH(h:w.heap[b]?=YU o):iU w b o=w:=by obtain⟨c,a⟩:=Wa.1 h;(have:w.heap.setIfInBounds b o=w.heap:=Array.ext (by simp) λk d _=>by rw[YV];split;{rename_i e;subst e;exact a.symm};rfl);unfold iU;rw[this]
theorem zu{c:Array YY}{e:Zd}(h:w.heap[b]?=YU (.cells c e)):w.setCell ⟨b,i,Y1⟩ v=iU w b (.cells (c.setIfInBounds i v) e):=by obtain⟨f,d⟩:=Wa.1 h;(have:w.heap.modify b (λ|.cells c a frozen=>.cells (c.setIfInBounds i v) a frozen|o=>o)=w.heap.setIfInBounds b (.cells (c.setIfInBounds i v) e):=by apply Array.ext (by simp);intro k g _;rw[Array.getElem_modify,YV];split;{rename_i e;subst e;rw[d]};rfl);unfold YZ.setCell iU;rw[<-this];rfl
def xu(b:Nat)(e:ZG):Prop:=(match e.loc with|.cell a=>a.block=b|.obj j=>j=b|_=>False)/\e.sync=YT
theorem LW{f:Array ZG->Array ZG}{e:ZG}(i:xu b e)(h:∀es,∃a,f es=es++a/\∀x∈a,xu b x)(es:Array ZG):∃a,f (es.push e)=es++a/\∀x∈a,xu b x:=by obtain⟨a,d,g⟩:=h (es.push e);refine⟨#[e]++a,by simp[d],λx c=>?_⟩;rcases WR.1 c with c|c;{(obtain rfl:=by simpa using c);exact i};exact g x c
theorem kR{r:Option (α×Zy×List Nat)}{a:α}{q:List Nat}(h:Tl b r=YU (a,o,q)):∃c,r=YU (a,o,c)/\q=b::c:=by obtain⟨⟨f,g,c⟩,d,e⟩:=Wh.1 h;cases e;exact⟨c,d,rfl⟩
theorem sT{x:Zs α}:∀{o o':Zy}{q:List Nat}{a:α}{w:YZ},j1 P rd x o=YU (a,o',q)->(∀r∈q,r=b)->w.heap[b]?=YU o->x.run P w=.ok a (iU w b o')/\∀es,∃u,x.events P w es=es++u/\∀e∈u,xu b e:=by induction x with|pure a=>intro o o' q a w h g d;cases h;exact⟨by rw[nH d];rfl,λes=>⟨#[],by simp,by simp⟩⟩|program k n=>exactλh g d=>n P h g d|load m A k n=>intro o o' q a w h g d;obtain⟨j,i,C⟩:=A;cases m<;>cases C<;>cases o<;>simp only[j1,reduceCtorEq]at h;obtain⟨v,z,h⟩:=Wx.1 h;obtain⟨B,s,rfl⟩:=kR h;obtain rfl:j=b:=g _ (Wf ..);obtain⟨l,p⟩:=n v s (λr t=>g r (Wo _ t)) d;(have y:w.cell? ⟨j,i,Y1⟩=YU v:=by simp[YZ.cell?,d,z]);refine⟨by simpa[Zs.run,y]using l,λes=>?_⟩;rw[show(Zs.load Mode.plain ⟨j,i,Y1⟩ k).events P w es=(k v).events P w (es.push ⟨.cell ⟨j,i,Y1⟩,YT,YT⟩)by simp[Zs.events,Zs.runT,y,-Zs.runT_eq];rfl];exact LW (f:=(k v).events P w) ⟨rfl,rfl⟩ p es|store m A v k n=>intro o o' q a w h g d;obtain⟨j,i,C⟩:=A;(cases m<;>cases C<;>cases o<;>try(exfalso;revert h;simp[j1];done));rename_i c e fr;obtain⟨F,H⟩:=fr;(cases F<;>cases H<;>try(exfalso;revert h;simp[j1];done));simp only[j1]at h;split at h;{rename_i D;rw[Wg,Wg,decide_eq_true_eq]at D;obtain⟨⟨_,z⟩,I⟩:=D;obtain⟨B,s,rfl⟩:=kR h;obtain rfl:j=b:=g _ (Wf ..);obtain⟨l,p⟩:=n s (λr t=>g r (Wo _ t)) (pS d);rw[wY,<-zu d]at l;rw[<-zu d]at p;(have y:w.cell? ⟨j,i,Y1⟩=YU c[i]:=by simp[YZ.cell?,d,I]);(have E:w.frozen? ⟨j,i,Y1⟩=YT:=by simp[YZ.frozen?,d]);refine⟨by cases v<;>simp[ya]at z<;>simpa[Zs.run,y,E]using l,λes=>?_⟩;rw[show(Zs.store Mode.plain ⟨j,i,Y1⟩ v k).events P w es=k.events P (w.setCell ⟨j,i,Y1⟩ v) (es.push ⟨.cell ⟨j,i,Y1⟩,YX,YT⟩)by cases v<;>simp[ya]at z<;>(simp[Zs.events,Zs.runT,y,E,-Zs.runT_eq];rfl)];exact LW (f:=k.events P _) ⟨rfl,rfl⟩ p es};cases h|getObj r k n=>intro o o' q a w h g d;cases o<;>simp only[j1,reduceCtorEq]at h;obtain⟨B,s,rfl⟩:=kR h;obtain rfl:r=b:=g _ (Wf ..);obtain⟨l,p⟩:=n _ s (λr t=>g r (Wo _ t)) d;refine⟨by simpa[Zs.run,d]using l,λes=>?_⟩;rw[show(Zs.getObj r k).events P w es=(k _).events P w (es.push ⟨.obj r,YT,YT⟩)by simp[Zs.events,Zs.runT,d,Zy.isChan,-Zs.runT_eq];rfl];exact LW (f:=(k _).events P w) ⟨rfl,rfl⟩ p es|setObj r ob k n=>intro o o' q a w h g d;cases rd<;>cases o<;>cases ob<;>simp only[j1,reduceCtorEq]at h;obtain⟨B,s,rfl⟩:=kR h;obtain rfl:r=b:=g _ (Wf ..);obtain⟨l,p⟩:=n s (λr t=>g r (Wo _ t)) (pS d);rw[wY]at l;refine⟨by simp only[Zs.run,d];exact l,λes=>?_⟩;rw[show(Zs.setObj r _ k).events P w es=k.events P (iU w r _) (es.push ⟨.obj r,YX,YT⟩)by simp[Zs.events,Zs.runT,d,Zy.isChan,-Zs.runT_eq];rfl];exact LW (f:=k.events P _) ⟨rfl,rfl⟩ p es|_=>intro o o' q a w h;simp[j1]at h
theorem MJ{x:Zs α}:∀{o o':Zy}{q:List Nat}{a:α},j1 P YX x o=YU (a,o',q)->o'=o:=by induction x with|pure a=>intro o o' q a h;cases h;rfl|program k b=>exactλh=>b P h|load m d k b=>intro o o' q a h;obtain⟨j,i,g⟩:=d;cases m<;>cases g<;>cases o<;>simp only[j1,reduceCtorEq]at h;obtain⟨v,s,h⟩:=Wx.1 h;obtain⟨p,f,rfl⟩:=kR h;exact b v f|getObj r k b=>intro o o' q a h;cases o<;>simp only[j1,reduceCtorEq]at h;obtain⟨p,f,rfl⟩:=kR h;exact b _ f|store m d v k b=>intro o o' q a h;obtain⟨j,i,g⟩:=d;(cases m<;>cases g<;>cases o<;>try(exfalso;revert h;simp[j1];done));rename_i c e fr;obtain⟨l,n⟩:=fr;cases l<;>cases n<;>exfalso<;>revert h<;>simp[j1]|setObj r ob k b=>intro o o' q a h;cases o<;>cases ob<;>simp[j1]at h|_=>intro o o' q a h;simp[j1]at h
theorem MP{x:Zs α}{k:Nat->Zs α}{a:α}(h:Jt P x=YU (o,k))(d:dJ P (k w.heap.size)=YU a):x.run P w=.ok a (w.alloc o)/\x.events P w #[]=#[]:=by induction x with|program f e=>exact e P h|new g f=>cases h;obtain⟨b,c⟩:=eO d (w.alloc o);exact⟨b,c⟩|_=>simp[Jt]at h
def UJ:Op->Bool
 |.defer _=>YX
 |_=>YT
def Ad(F:Y8):Option ZK:=match F.todo with
 |.inRegion ops (i::_)::_=>match((ops[i]?).map (Region.wanted · (Ze ops F.tmps))).getD YT with
   |true=>match ops[i]? with
     |some o=>match UJ o.op with|true=>Y1|false=>YU o
     |none=>Y1
   |false=>Y1
 |_=>Y1
def valOf:Next->Option YY
 |.value v=>YU v
 |.skip=>YU Zh
 |_=>Y1
def T9(P:Zf)(rd:Bool)(k:Nat)(F:Y8)(H:List (Nat×Zy)):Option (Y8×List (Nat×Zy)×List (Nat×Nat)):=
 match Ad F,H[k]? with
 |some o,YU (b,ob)=>match j1 P rd (Y3 F.eval o) ob with
   |some (n,ob',q)=>(valOf n).map λv=>(F.finish v,H.set k (b,ob'),q.map λr=>(r,b))
   |none=>Y1
 |_,_=>Y1
def Pv(P:Zf)(c:Nat)(F:Y8):Option (Y8×Zy):=
 match Ad F with
 |some o=>match Jt P (Y3 F.eval o)with
   |some (ob,k)=>((dJ P (k c)).bind valOf).map λv=>(F.finish v,ob)
   |none=>Y1
 |none=>Y1
abbrev MR:=Y8×List (Nat×Zy)×List (Nat×Nat)×List (YY×YY)
def jk(P:Zf)(rd:Bool)(O:List (Nat×YY)):Nat->List Nat->List Nat->Y8->List (Nat×Zy)->Option MR
 |0,_,_,F,H=>YU (F,H,[],[])
 |n+1,hs,bs,F,H=>match mb P F with
   |some F1=>(jk P rd O n hs bs (hint O F F1).1 H).map λr=>(r.1,r.2.1,r.2.2.1,(hint O F F1).2++r.2.2.2)
   |none=>match hs with
     |[]=>YU (F,H,[],[])
     |0::hs=>match bs with
       |[]=>Y1
       |c::bs=>match Pv P c F with
         |some (F1,ob)=>jk P rd O n hs bs F1 ((c,ob)::H)
         |none=>Y1
     |(k+1)::hs=>match T9 P rd k F H with
       |some (F1,H1,q)=>(jk P rd O n hs bs F1 H1).map λs=>(s.1,s.2.1,q++s.2.2.1,s.2.2.2)
       |none=>Y1
theorem ta{o:ZK}(h:Ad F=YU o):∃ops i rest k,F.todo=.inRegion ops (i::rest)::k/\ops[i]?=YU o/\Region.wanted o (Ze ops F.tmps)=YX/\∀c,o.op≠.defer c:=by unfold Ad at h;split at h;{rename_i ops i rest k f;split at h;{rename_i g;split at h;{rename_i j d;split at h;{cases h};rename_i b;cases h;refine⟨ops,i,rest,k,f,d,by simpa[d]using g,λc e=>?_⟩;rw[e]at b;cases b};cases h};cases h};cases h
theorem Db{o:ZK}{w':YZ}{n:Next}(y:F.mode=.run)(r:F.kind≠.early)(h:Ad F=YU o)(A:(Y3 F.eval o).run P w=.ok n w')(z:valOf n=YU v):Y4 P main (G F cs) w=.go (G (F.finish v) cs) w' (seen P F.fn ((Y3 F.eval o).events P w #[]))/\(F.finish v).mode=.run/\(F.finish v).kind≠.early:=by obtain⟨p,i,g,k,u,x,q,C⟩:=ta h;obtain⟨fn,tmps,todo,defers,mode,kind,t⟩:=F;subst u y;(have m:=by simpa using r);refine⟨?_,rfl,r⟩;generalize D:Y8.eval _=B at A⊢;(have s:Y4 P main (G {fn:=fn,tmps:=tmps,todo:=.inRegion p (i::g)::k,defers:=defers,mode:=.run,kind:=kind,roundOf:=t} cs) w=Y4.apply P YX {fn:=fn,tmps:=tmps,todo:=.inRegion p (i::g)::k,defers:=defers,mode:=.run,kind:=kind,roundOf:=t} cs Y1 (Y3 B o) w:=by rw[<-D];cases t with|none=>simp only[G,Y4,Y4.exec,Y4.oper,Y8.oper?,x,q,Wz,WW,if_true]|some l=>simp only[G,Y4,Y4.exec,Y4.oper,Y8.oper?,x,q,Wz,WW,if_true];split;{rename_i e;exact absurd e (C _)};rfl);rw[s];cases n<;>simp[valOf]at z<;>subst z<;>simp[Y4.apply,A,m,GStep.after,G]
theorem Mp{es:Array ZG}(h:∀e∈es,xu b e):∀e∈seen P f es,xu b e:=λe a=>by rw[seen_def]at a;rcases seen_fold_sub _ _ _ _ e a with x|x;{simp at x};exact h e (by simpa using x)
theorem Pf{k:Nat}{H H1:List (Nat×Zy)}{q:List (Nat×Nat)}(x:F.mode=.run)(u:F.kind≠.early)(h:T9 P rd k F H=YU (F1,H1,q))(z:∀p∈q,p.1=p.2):∃b o o',H[k]?=YU (b,o)/\H1=H.set k (b,o')/\(rd=YX->o'=o)/\(∀main cs w,w.heap[b]?=YU o->∃es,Y4 P main (G F cs) w=.go (G F1 cs) (iU w b o') es/\∀e∈es,xu b e)/\F1.mode=.run/\F1.kind≠.early:=by unfold T9 at h;split at h;{rename_i C b ob y hH;split at h;{rename_i n d D g;obtain⟨v,B,e⟩:=Wh.1 h;cases e;have a:=λr A=>z (r,b) (Wj.2 ⟨r,A,rfl⟩);have c:∀main cs w,w.heap[b]?=YU ob->Y4 P main (G F cs) w=.go (G (F.finish v) cs) (iU w b d) (seen P F.fn ((Y3 F.eval C).events P w #[]))/\(F.finish v).mode=.run/\(F.finish v).kind≠.early:=λmain cs w f=>Db x u y (sT g a f).1 B;refine⟨b,ob,d,hH,rfl,λe=>by subst e;exact MJ g,λmain cs w f=>⟨_,(c main cs w f).1,Mp λe i=>?_⟩,(c YX [] {(default:YZ)with heap:=(Array.replicate (b+1) ob)} (by simp)).2⟩;obtain⟨l,m,s⟩:=(sT g a f).2 #[];rw[m]at i;exact s e (by simpa using i)};cases h};cases h
theorem Ju(s:F.mode=.run)(q:F.kind≠.early)(h:∀c,∃r,Pv P c F=YU r):∃o,∃e:Nat->Y8,(∀c,Pv P c F=YU (e c,o))/\(∀main cs w,Y4 P main (G F cs) w=.go (G (e w.heap.size) cs) (w.alloc o) #[])/\∀c,(e c).mode=.run/\(e c).kind≠.early:=by unfold Pv at h⊢;cases g:Ad F with|none=>obtain⟨r,b⟩:=h 0;rw[g]at b;cases b|some D=>simp only[g]at h⊢;cases l:Jt P (Y3 F.eval D)with|none=>obtain⟨r,b⟩:=h 0;rw[l]at b;cases b|some x=>obtain⟨ob,p⟩:=x;simp only[l]at h⊢;(have j:∀c,∃n v,dJ P (p c)=YU n/\valOf n=YU v:=λc=>by obtain⟨r,b⟩:=h c;obtain⟨v,j,_⟩:=Wh.1 b;obtain⟨n,a,d⟩:=Wx.1 j;exact⟨n,v,a,d⟩);(have m:∀main cs(w:YZ),Y4 P main (G F cs) w=.go (G (F.finish (((dJ P (p w.heap.size)).bind valOf).getD Zh)) cs) (w.alloc ob) #[]:=λmain cs w=>by obtain⟨n,v,a,d⟩:=j w.heap.size;obtain⟨B,C⟩:=MP l a;rw[(Db s q g B d).1,C,ki,a];simp[d]);refine⟨ob,λc=>F.finish (((dJ P (p c)).bind valOf).getD Zh),λc=>?_,m,λc=>?_⟩;{obtain⟨n,v,a,d⟩:=j c;simp[a,d]};obtain⟨E,i,y,k,a,_⟩:=ta g;obtain⟨H,z,A,f,u,t,I⟩:=F;subst a;exact⟨s,q⟩
structure Carry(P:Zf)(rd:Bool)(main:Bool)(cs:List Y8)(J:(Nat->Prop)->Y2->YZ->Prop)(Kn:(Nat->Prop)->YZ->List (Nat×Zy)->Prop)(al:Prop):Prop where
 ctl:∀own v F F1,(∀w,Y4 P main (G F cs) w=.go (G F1 cs) w #[])->J own (G F1 cs) v->J own (G F cs) v
 mem:∀own v H k b o o' F F1,Kn own v H->H[k]?=YU (b,o)->(rd=YX->o'=o)->(∀w:YZ,w.heap[b]?=YU o->∃es,Y4 P main (G F cs) w=.go (G F1 cs) (iU w b o') es/\∀e∈es,xu b e)->(∀v',Kn own v' (H.set k (b,o'))->J own (G F1 cs) v')->J own (G F cs) v
 new:al->∀own v H o F(F1:Nat->Y8),Kn own v H->(∀w:YZ,Y4 P main (G F cs) w=.go (G (F1 w.heap.size) cs) (w.alloc o) #[])->(∀own' c v',Kn own' v' ((c,o)::H)->J own' (G (F1 c) cs) v')->J own (G F cs) v
theorem Carry.run{P:Zf}{J:(Nat->Prop)->Y2->YZ->Prop}{Kn:(Nat->Prop)->YZ->List (Nat×Zy)->Prop}{al:Prop}(C:Carry P rd main cs J Kn al)(O:List (Nat×YY)):∀(n:Nat)(g:List Nat)(k:Nat)(_:k≠0->al)(own:Nat->Prop)(v:YZ)(F:Y8)(H:List (Nat×Zy)),F.mode=.run->F.kind≠.early->Kn own v H->(∀bs:List Nat,bs.length=k->∃r,jk P rd O n g bs F H=YU r/\(∀p∈r.2.2.1,p.1=p.2)/\(∀p∈r.2.2.2,p.1=p.2)/\∀d t,Kn d t r.2.1->J d (G r.1 cs) t)->J own (G F cs) v|0,g,k,z,own,v,F,H,K,I,m,E=>by obtain⟨r,h,_,_,y⟩:=E (List.replicate k 0) (by simp);cases h;exact y own v m|n+1,g,k,z,own,v,F,H,K,I,m,E=>by cases a:mb P F with|some f=>obtain⟨h,u,l⟩:=iH K I a;(have R:(hint O F f).1=f:=by obtain⟨r,e,_,B,_⟩:=E (List.replicate k 0) (by simp);simp only[jk,a]at e;obtain⟨s,_,rfl⟩:=Wh.1 e;exact xS a λp a=>B p (Wq.2 (.inl a)));refine C.ctl own v F f (λw=>h main cs w) (Carry.run C O n g k z own v f H u l m λbs A=>?_);obtain⟨r,e,D,B,N⟩:=E bs A;simp only[jk,a,R]at e;obtain⟨s,M,rfl⟩:=Wh.1 e;exact⟨s,M,D,λp a=>B p (Wq.2 (.inr a)),N⟩|none=>cases g with|nil=>obtain⟨r,e,_,_,y⟩:=E (List.replicate k 0) (by simp);simp only[jk,a,Wr]at e;subst e;exact y own v m|cons j g=>cases j with|zero=>(cases k with|zero=>obtain⟨r,e,_⟩:=E [] rfl;simp[jk,a]at e|succ k=>(obtain⟨o,f,h,u,l⟩:=Ju (P:=P) K I λc=>by obtain⟨r,e,_⟩:=E (c::List.replicate k 0) (by simp);simp only[jk,a]at e;cases S:Pv P c F with|none=>rw[S]at e;cases e|some r=>exact⟨r,rfl⟩);refine C.new (z (by simp)) own v H o F f m (λw=>u main cs w) λd c t i=>Carry.run C O n g k (λ_=>z (by simp)) d t (f c) _ (l c).1 (l c).2 i λbs A=>?_;obtain⟨r,e,T⟩:=E (c::bs) (by simp[A]);simp only[jk,a,h c]at e;exact⟨r,e,T⟩)|succ j=>cases L:T9 P rd j F H with|none=>obtain⟨r,e,_⟩:=E (List.replicate k 0) (by simp);simp[jk,a,L]at e|some x=>obtain⟨f,W,q⟩:=x;obtain⟨b,o,V,h,rfl,u,l,y,Q⟩:=Pf K I L (by obtain⟨r,e,D,_⟩:=E (List.replicate k 0) (by simp);simp only[jk,a,L]at e;obtain⟨s,_,rfl⟩:=Wh.1 e;exactλp a=>D p (Wq.2 (.inl a)));refine C.mem own v H j b o V F f m h u (λw U=>l main cs w U) λt i=>Carry.run C O n g k z own t f _ y Q i λbs A=>?_;obtain⟨r,e,D,B,N⟩:=E bs A;simp only[jk,a,L]at e;obtain⟨s,M,rfl⟩:=Wh.1 e;exact⟨s,M,λp a=>D p (Wq.2 (.inr a)),B,N⟩
end Go.Pw
namespace Go.ae
variable{a a' b':ZA}{v w:YZ}{v' x x' y y' z:YY}{i b k n:Nat}{e:RuntimeError}{o o':Zy}{P:Zf}{α β γ δ ε ζ:Type}{h:Halt}{t:Zd}{op:BinOp}{o1:Zm}{lo lo' hi hi' mx':Option YY}{f:Zi}{gl:Nat->Bool}{ev ev':Zm->YY}{ops:Array ZK}{rest:List Nat}{t':Array YY}
section
abbrev bH:=Nat->Option Nat
def bH.le(r r':bH):Prop:=∀b c,r b=YU c->r' b=YU c
theorem bH.le_refl(r:bH):r.le r:=λ_ _ h=>h
theorem bH.le_trans{r r' r'':bH}(h:r.le r')(a:r'.le r''):r.le r'':=λb c e=>a b c (h b c e)
structure eG where
 fns:Zi->Bool
 seen:Nat->Prop
 N0:Nat->Nat
 aI:Nat
 low:Nat->Nat:=λ_=>0
def yu:Zd:=1000000007
structure Fits(P:Zf)(c:eG):Prop where
 aI:c.aI=P.globals.size
 bad:P.info? yu=Y1
 low:∀g,g<c.aI->c.low g=0
def di(c:eG)(r:bH)(a a':ZA):Prop:=r a.block=YU a'.block/\a'.off=a.off/\a'.spot=a.spot/\c.low a.block<=a.off
def IK(c:eG):Fn->Bool
 |.func f=>c.fns f
 |_=>YT
inductive aj(c:eG)(r:bH):YY->YY->Prop
 |bool(b:Bool):aj c r (.bool b) (.bool b)
 |int(k:Y7)(n:Int):aj c r (.int k n) (.int k n)
 |string(s:ByteArray):aj c r (.string s) (.string s)
 |gj:aj c r (.pointer Y1) (.pointer Y1)
 |ptr{a a':ZA}:di c r a a'->aj c r (.pointer (YU a)) (.pointer (YU a'))
 |iu(n m:Nat):aj c r (.slice Y1 n m) (.slice Y1 n m)
 |slice{a a':ZA}(n m:Nat):di c r a a'->aj c r (.slice (YU a) n m) (.slice (YU a') n m)
 |cW(a a':ZA):aj c r (.slice (YU a) 0 0) (.slice (YU a') 0 0)
 |kQ:aj c r (.map Y1) (.map Y1)
 |map{a a':Nat}:r a=YU a'->aj c r (.map (YU a)) (.map (YU a'))
 |func{fn:Fn}{x x' y y':Array YY}:IK c fn=YX->x.size=x'.size->(∀(i:Nat)(v v':YY),x[i]?=YU v->x'[i]?=YU v'->aj c r v v')->
  y.size=y'.size->(∀(i:Nat)(v v':YY),y[i]?=YU v->y'[i]?=YU v'->aj c r v v')->aj c r (.func fn x y) (.func fn x' y')
 |nilFunc:aj c r .nilFunc .nilFunc
 |nilIface:aj c r .nilIface .nilIface
 |iface(t:Zd){v v':YY}:aj c r v v'->aj c r (.iface t v) (.iface t v')
 |agg{x x':Array YY}:x.size=x'.size->(∀(i:Nat)(v v':YY),x[i]?=YU v->x'[i]?=YU v'->aj c r v v')->aj c r (.agg x) (.agg x')
 |tuple{x x':Array YY}:x.size=x'.size->(∀(i:Nat)(v v':YY),x[i]?=YU v->x'[i]?=YU v'->aj c r v v')->aj c r (.tuple x) (.tuple x')
structure au(c:eG)(r:bH)(x x':Array YY):Prop where
 size:x.size=x'.size
 el:∀(i:Nat)(v v':YY),x[i]?=YU v->x'[i]?=YU v'->aj c r v v'
theorem di.mono{c:eG}{r r':bH}(h:r.le r')(x:di c r a a'):di c r' a a':=⟨h _ _ x.1,x.2⟩
theorem aj.mono{c:eG}{r r':bH}(h:r.le r'){v:YY}(x:aj c r v v'):aj c r' v v':=by induction x with|bool b=>exact .bool b|int k n=>exact .int k n|string s=>exact .string s|gj=>exact .gj|ptr a=>exact .ptr (a.mono h)|iu n m=>exact .iu n m|slice n m a=>exact .slice n m (a.mono h)|cW a e=>exact .cW a e|kQ=>exact .kQ|map a=>exact .map (h _ _ a)|func i j _ l _ f g=>exact .func i j f l g|nilFunc=>exact .nilFunc|nilIface=>exact .nilIface|iface t _ d=>exact .iface t d|agg s _ d=>exact .agg s d|tuple s _ d=>exact .tuple s d
theorem au.mono{c:eG}{r r':bH}(h:r.le r'){x x':Array YY}(k:au c r x x'):au c r' x x':=⟨k.size,λi v d a b=>(k.el i v d a b).mono h⟩
theorem aj.uM{c:eG}{r:bH}{x x':Array YY}(h:au c r x x'):aj c r (.agg x) (.agg x'):=.agg h.size h.el
theorem aj.k7{c:eG}{r:bH}{x x':Array YY}(h:au c r x x'):aj c r (.tuple x) (.tuple x'):=.tuple h.size h.el
section rows
variable{c:eG}{r:bH}
theorem au.get{x x':Array YY}(h:au c r x x'){v:YY}(b:x[i]?=YU v):∃d,x'[i]?=YU d/\aj c r v d:=by have e:=(Wa.1 b).1;have a:=h.size▸e;exact⟨x'[i],Wm a,h.el i v _ b (Wm a)⟩
theorem au.none{x x':Array YY}(h:au c r x x')(a:x[i]?=Option.none):x'[i]?=Option.none:=by rw[Array.getElem?_eq_none_iff]at a⊢;rw[<-h.size];exact a
theorem au.getD{x x':Array YY}(h:au c r x x')(i:Nat){d d':YY}(b:aj c r d d'):aj c r (x.getD i d) (x'.getD i d'):=by rw[WA,WA];cases a:x[i]? with|none=>rw[h.none a];exact b|some v=>obtain⟨f,e,k⟩:=h.get a;simp_all
theorem au.empty:au c r #[] #[]:=⟨rfl,λi v a h=>by simp at h⟩
theorem au.push{x x':Array YY}(h:au c r x x'){v:YY}(k:aj c r v v'):au c r (x.push v) (x'.push v'):=by refine⟨by simp[h.size],λi u d a b=>?_⟩;rw[WL]at a b;rw[<-h.size]at b;split at a;{simp_all};rw[if_neg ‹_›]at b;exact h.el i u d a b
theorem au.append{x x' y y':Array YY}(h:au c r x x')(k:au c r y y'):au c r (x++y) (x'++y'):=by refine⟨by simp[h.size,k.size],λi u d a b=>?_⟩;rw[Array.getElem?_append]at a b;rw[<-h.size]at b;split at a;{rw[if_pos ‹_›]at b;exact h.el i u d a b};rw[if_neg ‹_›]at b;exact k.el _ u d a b
theorem au.set{x x':Array YY}(h:au c r x x')(i:Nat){v:YY}(k:aj c r v v'):au c r (x.setIfInBounds i v) (x'.setIfInBounds i v'):=by refine⟨by simp[h.size],λj u d a b=>?_⟩;rw[Xv]at a b;split at a;{simp_all};rw[if_neg ‹_›]at b;exact h.el j u d a b
theorem au.extract{x x':Array YY}(h:au c r x x')(i j:Nat):au c r (x.extract i j) (x'.extract i j):=by refine⟨by simp[h.size],λk u d a b=>?_⟩;rw[Array.getElem?_extract]at a b;rw[<-h.size]at b;split at a;{rw[if_pos ‹_›]at b;exact h.el _ u d a b};cases a
theorem au.single{v:YY}(k:aj c r v v'):au c r #[v] #[v']:=by refine⟨rfl,λi u d a b=>?_⟩;grind
theorem au.cells{v:YY}(k:aj c r v v'):au c r v.cells v'.cells:=by cases k with|agg s e=>exact⟨s,e⟩|bool b=>exact .single (.bool b)|int k n=>exact .single (.int k n)|string s=>exact .single (.string s)|gj=>exact .single .gj|ptr a=>exact .single (.ptr a)|iu n m=>exact .single (.iu n m)|cW a g=>exact .single (.cW a g)|slice n m a=>exact .single (.slice n m a)|kQ=>exact .single .kQ|map a=>exact .single (.map a)|func a b d e f=>exact .single (.func a b d e f)|nilFunc=>exact .single .nilFunc|nilIface=>exact .single .nilIface|iface t a=>exact .single (.iface t a)|tuple a b=>exact .single (.tuple a b)
theorem au.map{α:Type}(l:Array α)(f f':α->YY)(h:∀x∈l,aj c r (f x) (f' x)):au c r (l.map f) (l.map f'):=by refine⟨by simp,λi u d a b=>?_⟩;grind
theorem gJ:aj c r Zh Zh:=.tuple rfl λi v a h=>by simp at h
theorem au.replicate(n:Nat){v:YY}(k:aj c r v v'):au c r (Array.replicate n v) (Array.replicate n v'):=by refine⟨by simp,λi u d a b=>?_⟩;grind
end rows
structure Iy(c:eG)(r:bH)(e e':ZO):Prop where
 key:aj c r e.key e'.key
 val:aj c r e.val e'.val
 born:e'.born=e.born
inductive nA(c:eG)(r:bH):Zy->Zy->Prop
 |cells{x x':Array YY}(t:Zd)(fr:Nat×Nat):au c r x x'->nA c r (.cells x t fr) (.cells x' t fr)
 |map{x x':Array ZO}(k:Nat):x.size=x'.size->(∀(i:Nat)(e e':ZO),x[i]?=YU e->x'[i]?=YU e'->Iy c r e e')->nA c r (.map x k) (.map x' k)
 |iter(s:ByteArray)(p:Nat):nA c r (.stringIter s p) (.stringIter s p)
 |number{a a':ZA}(l:Bool):di c r a a'->nA c r (.number a l) (.number a' l)
inductive uW(c:eG)(r:bH)(b:Nat):Option Zy->Option Zy->Prop
 |seen{x x':Array YY}(t t':Zd)(fr:Nat×Nat):c.seen b->x.size<=c.N0 b->x.size<=x'.size->(c.low b=0->t=t')/\(c.low b≠0->t=yu/\c.aI<=b)->(∀(i:Nat)(v v':YY),c.low b<=i->x[i]?=YU v->x'[i]?=YU v'->aj c r v v')->uW c r b (YU (.cells x t (0,x.size))) (YU (.cells x' t' fr))
 |own{o o':Zy}:¬c.seen b->nA c r o o'->uW c r b (YU o) (YU o')
theorem Iy.mono{c:eG}{r r':bH}(h:r.le r'){e e':ZO}(k:Iy c r e e'):Iy c r' e e':=⟨k.key.mono h,k.val.mono h,k.born⟩
theorem nA.mono{c:eG}{r r':bH}(h:r.le r')(k:nA c r o o'):nA c r' o o':=by cases k with|cells t g k=>exact .cells t g (k.mono h)|map k s e=>exact .map k s λi d f a b=>(e i d f a b).mono h|iter s p=>exact .iter s p|number l a=>exact .number l (a.mono h)
theorem uW.mono{c:eG}{r r':bH}(h:r.le r'){o o':Option Zy}(k:uW c r b o o'):uW c r' b o o':=by cases k with|seen t g f s l z y e=>exact .seen t g f s l z y λi v j a b d=>(e i v j a b d).mono h|own n k=>exact .own n (k.mono h)
structure ep(c:eG)(r:bH)(w v:YZ):Prop where
 qN:∀b k:Nat,r b=YU k->b<w.heap.size
 CM:∀b k:Nat,r b=YU k->k<v.heap.size
 inj:∀b b' k:Nat,r b=YU k->r b'=YU k->b=b'\/(c.seen b/\c.seen b')
 sn:∀b:Nat,¬c.seen b->c.low b=0
 hid:∀b:Nat,b<c.aI->r b=Y1->w.heap[b]?=YU (.cells #[] 0)
 blk:∀b k:Nat,r b=YU k->uW c r b w.heap[b]? v.heap[k]?
 tape:v.tape=w.tape
 drawn:v.drawn=w.drawn
 old:∀b:Nat,c.seen b->b<w.heap.size
 aI:∀b k:Nat,r b=YU k->b<c.aI->b=k
 jE:c.aI<=w.heap.size/\c.aI<=v.heap.size
structure Ext(c:eG)(r:bH)(w v:YZ)(r':bH)(w' v':YZ):Prop where
 rel:ep c r' w' v'
 le:r.le r'
 grow:w.heap.size<=w'.heap.size
 size:v'.heap.size+w.heap.size=v.heap.size+w'.heap.size
 zP:∀b:Nat,b<w.heap.size->r' b=r b
 new:∀b:Nat,w.heap.size<=b->b<w'.heap.size->r' b=YU (v.heap.size+(b-w.heap.size))
 keep:∀k:Nat,k<v.heap.size->(∀b:Nat,r b=YU k->c.seen b)->v'.heap[k]?=v.heap[k]?
 os:v'.os=v.os
 out:v'.output=v.output
 tape:v'.tape=v.tape
theorem Ext.refl{c:eG}{r:bH}(h:ep c r w v):Ext c r w v r w v:=⟨h,bH.le_refl r,V8 _,by omega,λ_ _=>rfl,λb _ _=>by omega,λ_ _ _=>rfl,rfl,rfl,rfl⟩
theorem Ext.trans{c:eG}{r r1 r2:bH}{w1 v1 w2 v2:YZ}(h:Ext c r w v r1 w1 v1)(k:Ext c r1 w1 v1 r2 w2 v2):Ext c r w v r2 w2 v2:=by have n:=h.size;have o:=k.size;have g:=h.grow;have m:=k.grow;refine⟨k.rel,bH.le_trans h.le k.le,Wk g m,by omega,λb a=>(k.zP b (V9 a g)).trans (h.zP b a),λb a f=>?_,λj l i=>?_,k.os.trans h.os,k.out.trans h.out,k.tape.trans h.tape⟩;{rcases WV b w1.heap.size with e|d;{exact k.le _ _ (h.new b a e)};rw[k.new b d f];grind};rw[k.keep j Ω (λb a=>?_),h.keep j l i];refine i b ?_;rcases WV b w.heap.size with e|d;{rw[<-h.zP b e];exact a};have:=h.rel.qN b j a;rw[h.new b d this]at a;grind
def vm(c:eG)(r:bH)(e:ZG):Prop:=
 (∃b:Nat,(match e.loc with|.cell a=>r b=YU a.block/\(c.seen b->a.off<c.N0 b/\a.spot=Y1)|.obj k=>r b=YU k/\¬c.seen b|_=>False)/\(e.write=YX->¬c.seen b)/\e.sync=YT)\/e.loc=.mark .noRoom\/∃f,e.loc=.mark (.extern f)
theorem vm.mono{c:eG}{r r':bH}(h:r.le r'){e:ZG}(x:vm c r e):vm c r' e:=by rcases x with⟨b,a,d⟩|x;{refine .inl ⟨b,?_,d⟩;revert a;cases e.loc<;>simp only[imp_self]<;>exactλx=>⟨h _ _ x.1,x.2⟩};exact .inr x
end
section
variable{c:eG}{r:bH}
def Ce:Halt->Bool
 |.unsupported (.initOrder _)=>YT
 |.panic _|.stuck _|.unsupported _=>YX
 |_=>YT
def Out(P:Zf)(c:eG)(r:bH)(w v:YZ)(s:Zs β)(Q:bH->α->β->Prop):ZF α->Prop
 |.ok a w'=>∃b v' r',s.run P v=.ok b v'/\Ext c r w v r' w' v'/\Q r' a b/\∀e∈s.events P v #[],vm c r' e
 |.halt h _=>Ce h=YX
def ae(P:Zf)(c:eG)(r:bH)(x:Zs α)(y:Zs β)(Q:bH->α->β->Prop):Prop:=∀w v,ep c r w v->Out P c r w v y Q (x.run P w)
theorem ae.mono{x:Zs α}{y:Zs β}{Q Q':bH->α->β->Prop}(h:ae P c r x y Q)(k:∀d a b,r.le d->Q d a b->Q' d a b):ae P c r x y Q':=by intro w v l;have:=h w v l;cases f:x.run P w with|halt _ _=>rw[f]at this;exact this|ok a n=>rw[f]at this;obtain⟨b,m,d,g,e,i,j⟩:=this;exact⟨b,m,d,g,e,k _ _ _ e.le i,j⟩
theorem ae.bind{x:Zs α}{y:Zs β}{f:α->Zs γ}{g:β->Zs δ}{Q:bH->α->β->Prop}{Q':bH->γ->δ->Prop}(h:ae P c r x y Q)(k:∀l a b,r.le l->Q l a b->ae P c l (f a) (g b) Q'):ae P c r (x>>=f) (y>>=g) Q':=by intro w v t;have i:=h w v t;rw[Zs.run_bind];cases p:x.run P w with|halt _ _=>rw[p]at i;exact i|ok a m=>rw[p]at i;obtain⟨b,F,D,s,n,B,A⟩:=i;have j:=k D a b n.le B m F n.rel;show Out P c r w v (y>>=g) Q' ((f a).run P m);cases o:(f a).run P m with|halt _ _=>rw[o]at j;exact j|ok z J=>rw[o]at j;obtain⟨u,G,E,H,q,C,I⟩:=j;refine⟨u,G,E,?_,n.trans q,C,λe d=>?_⟩;{simp_all};rw[Zs.events_bind,s,ZF.evThen_ok,Zs.events_acc]at d;rcases WR.1 d with d|d;{exact(A e d).mono q.le};simp_all
theorem ae.pure{a:α}{b:β}{Q:bH->α->β->Prop}(h:Q r a b):ae P c r (Pure.pure a) (Pure.pure b) Q:=λ_ v f=>⟨b,v,r,rfl,.refl f,h,λe d=>by simp at d⟩
theorem ae.halt{y:Zs β}{Q:bH->α->β->Prop}(a:Ce h=YX:=by rfl):ae P c r (Zs.halt h) y Q:=λ_ _ _=>a
theorem ae.stuck{s:String}{y:Zs β}{Q:bH->α->β->Prop}:ae P c r (Go.stuck s:Zs α) y Q:=λ_ _ _=>rfl
theorem ae.unsupported{u:Unsupported}{y:Zs β}{Q:bH->α->β->Prop}(a:Ce (.unsupported u)=YX:=by rfl):ae P c r (Go.unsupported u:Zs α) y Q:=λ_ _ _=>a
theorem ae.never{x:Zs α}{y:Zs β}{Q:bH->α->β->Prop}(h:∀w,∃k w',x.run P w=.halt k w'/\Ce k=YX):ae P c r x y Q:=by intro w v _;obtain⟨k,w',e,a⟩:=h w;rw[e];exact a
theorem ae.ite{b:Prop}[Decidable b]{x x':Zs α}{y y':Zs β}{Q:bH->α->β->Prop}(h:b->ae P c r x y Q)(a:¬b->ae P c r x' y' Q):ae P c r (if b then x else x') (if b then y else y') Q:=by by_cases e:b;{rw[if_pos e,if_pos e];exact h e};rw[if_neg e,if_neg e];exact a e
def bS(P:Zf)(q:α->Prop):Zs α->Prop
 |.pure a=>q a
 |.choose _ k=>∀n,bS P q (k n)
 |.program k=>bS P q (k P)
 |.mark m k=>m=.noRoom/\bS P q k
 |.halt h=>Ce h=YX
 |_=>False
abbrev lA(P:Zf):Zs α->Prop:=bS P λ_=>True
theorem bS.bind{q:α->Prop}{q':β->Prop}{x:Zs α}{f:α->Zs β}(h:bS P q x)(k:∀a,q a->bS P q' (f a)):bS P q' (x>>=f):=by induction x with|pure a=>exact k a h|choose _ g b=>exactλn=>b n (h n)|program g b=>exact b P h|mark m g b=>exact⟨h.1,b h.2⟩|halt z=>exact h|load _ _ _ _=>exact h.elim|store _ _ _ _ _=>exact h.elim|new _ _ _=>exact h.elim|shape _ _ _=>exact h.elim|freeze _ _ _ _=>exact h.elim|frozen _ _ _=>exact h.elim|getObj _ _ _=>exact h.elim|setObj _ _ _ _=>exact h.elim|sys _ _ _=>exact h.elim
theorem lA.bind{q':β->Prop}{x:Zs α}{f:α->Zs β}(h:lA P x)(k:∀a,bS P q' (f a)):bS P q' (x>>=f):=bS.bind h λa _=>k a
def RN(P:Zf)(q:α->Prop)(x:Zs α)(w v:YZ):Prop:=
 (∃a d,q a/\x.run P w=.ok a {w with drawn:=d}/\x.run P v=.ok a {v with drawn:=d}/\∀e∈x.events P v #[],e.loc=.mark .noRoom)\/∃h w',x.run P w=.halt h w'/\Ce h=YX
theorem bS.run{q₀:α->Prop}{x:Zs α}(h:bS P q₀ x):∀(w v:YZ),v.tape=w.tape->v.drawn=w.drawn->RN P q₀ x w v:=by induction x with|pure a=>exactλw v _ f=>.inl ⟨a,w.drawn,h,rfl,by rw[<-f];rfl,λe l=>by simp at l⟩|choose q g j=>intro w v i f;have t:∀u:YZ,(Zs.choose q g).run P u=if q.forced then(g 0).run P u else(g (q.cut (u.tape u.drawn q))).run P {u with drawn:=u.drawn+1}:=λ_=>rfl;(have y:∀u:YZ,(Zs.choose q g).events P u #[]=if q.forced then(g 0).events P u #[]else(g (q.cut (u.tape u.drawn q))).events P {u with drawn:=u.drawn+1} #[]:=λu=>by simp only[Zs.events,Zs.runT];grind);unfold RN;simp only[t,y];by_cases s:q.forced=YX;{simp only[s];exact j 0 (h 0) w v i f};obtain⟨B,F,E,C,D⟩:=v;rcases j (q.cut (w.tape w.drawn q)) (h _) {w with drawn:=w.drawn+1} ⟨B,w.tape,w.drawn+1,C,D⟩ rfl rfl with⟨a,d,n,o,p,A⟩|x;{simp_all};simp_all|program g j=>exactλw v i f=>j P h w v i f|mark m g j=>intro w v i f;rcases j h.2 w v i f with⟨a,d,n,o,p,A⟩|x;{refine .inl ⟨a,d,n,o,p,λe l=>?_⟩;have k:e∈g.events P v (#[].push ⟨.mark m,YT,YX⟩):=l;rw[Zs.events_acc]at k;rcases WR.1 k with x|x;{simp at x;rw[x,h.1]};simp_all};exact .inr x|halt z=>exactλw _ _ _=>.inr ⟨z,w,rfl,h⟩|load _ _ _ _=>exact h.elim|store _ _ _ _ _=>exact h.elim|new _ _ _=>exact h.elim|shape _ _ _=>exact h.elim|freeze _ _ _ _=>exact h.elim|frozen _ _ _=>exact h.elim|getObj _ _ _=>exact h.elim|setObj _ _ _ _=>exact h.elim|sys _ _ _=>exact h.elim
theorem ep.C8(h:ep c r w v)(d:Nat):ep c r {w with drawn:=d} {v with drawn:=d}:=⟨h.qN,h.CM,h.inj,h.sn,h.hid,h.blk,h.tape,rfl,h.old,h.aI,h.jE⟩
theorem ae.fe{q:α->Prop}{x:Zs α}(h:bS P q x):ae P c r x x λ_ a b=>b=a/\q a:=by intro w v f;rcases h.run w v f.tape f.drawn with⟨a,d,g,i,j,l⟩|⟨k,s,e,p⟩;{rw[i];refine⟨a,_,r,j,?_,⟨rfl,g⟩,λe o=>.inr (.inl (l e o))⟩;exact⟨f.C8 d,bH.le_refl r,V8 _,rfl,λ_ _=>rfl,λb m n=>absurd n (Nat.not_lt.2 m),λ_ _ _=>rfl,rfl,rfl,rfl⟩};rw[e];exact p
theorem ae.cI{x:Zs α}(h:lA P x):ae P c r x x λ_ a b=>b=a:=(ae.fe h).mono λ_ _ _ _ h=>h.1
theorem xa(a:α):lA P (Pure.pure a):=trivial
theorem lE:lA P program:=trivial
theorem iG(q:ZS):lA P (choose q):=λ_=>trivial
theorem dq(t:Zd):lA P (typeInfo t):=by refine lA.bind lE λp=>?_;split<;>first|trivial|exact rfl
theorem aD(t:Zd):lA P (underlying t):=by refine lA.bind lE λp=>?_;split<;>first|trivial|exact rfl
theorem br(t:Zd):lA P (sizeOf t):=(dq t).bind λ_=>trivial
theorem oE(t:Zd):lA P (isAgg t):=(aD t).bind λd=>by split<;>first|trivial|exact rfl
theorem p7(n:Nat):lA P (askRoom n):=by unfold askRoom;split;{exact⟨rfl,trivial⟩};trivial
end
section
variable{c:eG}{r:bH}
theorem ep.at(h:ep c r w v)(b:di c r a a'):uW c r a.block w.heap[a.block]? v.heap[a'.block]?:=h.blk _ _ b.1
theorem ep.cell(h:ep c r w v)(g:di c r a a')(b:w.cell? a=YU x):∃y,v.cell? a'=YU y/\aj c r x y:=by have d:=h.at g;obtain⟨_,m,o,i⟩:=g;unfold YZ.cell? at b⊢;generalize q:w.heap[a.block]?=C at d b;generalize p:v.heap[a'.block]?=B at d;cases d with|@seen z D t A j s l u _ e=>grind|own n k=>cases k with|cells t j k=>simp only[o,m]at b⊢;split at b;{cases b};rename_i f;rw[if_neg f];exact k.get b|map _ _ _=>cases b|iter _ _=>cases b|number _ _=>cases b
theorem ep.V6(h:ep c r w v)(g:di c r a a')(_:w.cell? a=Y1)(d:Bool):∃k,w.farLoad P a d=.error k/\Ce k=YX:=by have f:=h.at g;unfold YZ.farLoad;generalize b:w.heap[a.block]?=p at f;generalize i:v.heap[a'.block]?=o at f;cases f with|seen t m j s l _ _ e=>exact⟨_,rfl,by simp only[YZ.noCell,b];rfl⟩|own n k=>cases k<;>exact⟨_,rfl,by simp only[YZ.noCell,b];rfl⟩
theorem ep.within(h:ep c r w v)(f:di c r a a')(b:w.cell? a=YU x):c.seen a.block->a'.off<c.N0 a.block/\a'.spot=Y1:=by intro u;have d:=h.at f;obtain⟨_,q,i,-⟩:=f;unfold YZ.cell? at b;generalize m:w.heap[a.block]?=A at d b;generalize j:v.heap[a'.block]?=z at d;cases d with|seen t y o s l _ _ e=>simp only at b;split at b;{cases b};have p:=(Wa.1 b).1;exact⟨by omega,by simp_all⟩|own n k=>simp_all
theorem ae.load(d:di c r a a'):ae P c r (load a) (load a') (aj c):=by intro w v f;unfold Go.load;cases b:w.cell? a with|none=>obtain⟨k,e,j⟩:=f.V6 (P:=P) d b (Mode.plain==Mode.atomic);(have:(Zs.load .plain a Zs.pure).run P w=.halt k w:=by simp only[Zs.run,b,e]);rw[this];exact j|some x=>obtain⟨y,i,k⟩:=f.cell d b;(have:(Zs.load .plain a Zs.pure).run P w=.ok x w:=by simp only[Zs.run,b]);rw[this];refine⟨y,v,r,by simp only[Zs.run,i],.refl f,k,λe g=>?_⟩;(have h:(Zs.load .plain a' Zs.pure).events P v #[]=#[⟨.cell a',YT,YT⟩]:=by simp only[Zs.events,Zs.runT,i];rfl);rw[h]at g;simp at g;subst g;exact .inl ⟨a.block,⟨d.1,f.within d b⟩,by simp,rfl⟩
theorem ep.yn(h:ep c r w v)(j:di c r a a')(b:w.cell? a=YU x)(g:w.frozen? a=YT):∃(z i:Array YY)(t:Zd)(d:Nat×Nat),¬c.seen a.block/\w.heap[a.block]?=YU (.cells z t d)/\v.heap[a'.block]?=YU (.cells i t d)/\au c r z i/\a.spot.isSome=YT:=by have f:=h.at j;unfold YZ.cell? at b;unfold YZ.frozen? at g;generalize o:w.heap[a.block]?=u at f b g;generalize m:v.heap[a'.block]?=q at f;cases f with|seen t p d s l _ _ e=>simp_all|own n k=>cases k with|cells t d k=>grind|map _ _ _=>cases b|iter _ _=>cases b|number _ _=>cases b
theorem heap_setCell(w:YZ)(a:ZA)(x:YY):(w.setCell a x).heap.size=w.heap.size:=by simp[YZ.setCell]
theorem lZ(w:YZ)(a:ZA)(x:YY)(h:b≠a.block):(w.setCell a x).heap[b]?=w.heap[b]?:=by simp[YZ.setCell,Xh,Ne.symm h]
theorem mh(w:YZ)(x:YY){z:Array YY}{fr:Nat×Nat}(h:w.heap[a.block]?=YU (.cells z t fr))(b:a.spot.isSome=YT):(w.setCell a x).heap[a.block]?=YU (.cells (z.setIfInBounds a.off x) t fr):=by simp[YZ.setCell,Xh,h,b]
theorem Ext.RD{w' v':YZ}(h:ep c r w v)(p:r b=YU k)(q:¬c.seen b)(D:w'.heap[b]?=YU o)(C:v'.heap[k]?=YU o')(A:nA c r o o')(f:w'.heap.size=w.heap.size)(i:v'.heap.size=v.heap.size)(m:∀j,j≠b->w'.heap[j]?=w.heap[j]?)(s:∀j,j≠k->v'.heap[j]?=v.heap[j]?)(n:v'.tape=v.tape)(t:w'.tape=w.tape)(u:v'.drawn=w'.drawn)(y:v'.os=v.os)(z:v'.output=v.output):Ext c r w v r w' v':=by refine⟨⟨λj l a=>f▸h.qN j l a,λj l a=>i▸h.CM j l a,h.inj,h.sn,λj a B=>by rw[m j (λe=>by simp_all)];exact h.hid j a B,λj l a=>?_,by rw[n,t,h.tape],u,λj a=>by rw[f];exact h.old j a,h.aI,by rw[f,i];exact h.jE⟩,bH.le_refl r,by omega,by omega,λ_ _=>rfl,λj _ _=>by omega,λl F E=>?_,y,z,n⟩;{by_cases d:j=b;{subst d;rw[p]at a;cases a;rw[D,C];exact .own q A};have g:l≠k:=λe=>d ((h.inj _ _ _ (e▸a) p).resolve_right λx=>q x.2);rw[m j d,s l g];exact h.blk j l a};grind
theorem aj.one(h:aj c r x y):y.oneCell'=x.oneCell':=by cases h<;>rfl
theorem ae.store(b:di c r a a')(q:aj c r x y):ae P c r (store a x) (store a' y) λ_ _ _=>True:=by intro w v f;unfold Go.store;by_cases B:x.oneCell'=YX;{(have C:y.oneCell'=YX:=by rw[q.one,B]);(have e:∀(u:YZ)(p:ZA)(z:YY),z.oneCell'=YX->(Zs.store .plain p z (.pure ())).run P u=match u.cell? p with|some _=>if u.frozen? p then .halt (.unsupported (.unsafePointer "a write to bytes that a string shares")) u else .ok () (u.setCell p z)|none=>match u.farStore P p z YT with|.ok (U,_)=>.ok () U|.error h=>.halt h u:=by intro u p z H;cases z<;>first|(simp[YY.oneCell']at H;done)|(rfl));rw[e w a x B];cases L:w.cell? a with|none=>have D:=f.at b;(have:∃k,w.farStore P a x YT=.error k/\Ce k=YX:=by unfold YZ.farStore;generalize o:w.heap[a.block]?=Y at D;generalize S:v.heap[a'.block]?=X at D;cases D with|seen t W K s l _ _ e=>exact⟨_,rfl,by simp only[YZ.noCell,o];rfl⟩|own n k=>cases k<;>exact⟨_,rfl,by simp only[YZ.noCell,o];rfl⟩);obtain⟨k,N,Q⟩:=this;simp only[N];exact Q|some Z=>simp only;cases A:w.frozen? a with|true=>rfl|false=>obtain⟨z,z',t,K,d,I,J,H,i⟩:=f.yn b L A;obtain⟨y0,T,_⟩:=f.cell b L;(have m:a'.spot.isSome=YT:=by rw[b.2.2.1];exact i);(have O:v.frozen? a'=YT:=by unfold YZ.frozen? at A⊢;rw[I]at A;rw[J];simp only[b.2.1];exact A);have g:=H.set a.off q;refine⟨(),v.setCell a' y,r,?_,?_,trivial,λV E=>?_⟩;{simp_all};{refine Ext.RD f b.1 d (mh w x I i) (mh v y J m) ?_ (heap_setCell _ _ _) (heap_setCell _ _ _) (λj G=>lZ w a x G) (λj G=>lZ v a' y G) rfl rfl f.drawn rfl rfl;rw[b.2.1];exact .cells t K g};(have F:(Zs.store .plain a' y (.pure ())).events P v #[]=#[⟨.cell a',YX,YT⟩]:=by have:=events_store P v #[] a' y .plain C;unfold Go.store at this;simp_all);rw[F]at E;simp at E;subst E;exact .inl ⟨a.block,⟨b.1,λR=>absurd R d⟩,λ_=>d,rfl⟩};refine ae.never (P:=P) (c:=c) (r:=r) (λu=>?_) w v f;cases x<;>first|(simp[YY.oneCell']at B;done)|exact⟨_,_,rfl,rfl⟩
def bH.add(r:bH)(b k:Nat):bH:=λj=>if j=b then YU k else r j
theorem Ext.alloc(h:ep c r w v)(n:nA c r o o'):Ext c r w v (r.add w.heap.size v.heap.size) {w with heap:=w.heap.push o} {v with heap:=v.heap.push o'}:=by have p:=λx=>Wy _ (h.old _ x);(have f:r.le (r.add w.heap.size v.heap.size):=by intro b k a;have:=h.qN b k a;unfold bH.add;grind);refine⟨⟨λb k a=>?_,λb k a=>?_,λb q k a d=>?_,h.sn,λb i a=>?_,λb k a=>?_,h.tape,h.drawn,λb a=>by have:=h.old b a;simp;omega,λb k a i=>?_,by have:=h.jE;simp;omega⟩,f,by simp,by simp;omega,λb a=>by unfold bH.add;grind,λb a d=>?_,λk s _=>?_,rfl,rfl,rfl⟩;{unfold bH.add at a;simp;split at a;{omega};have:=h.qN b k a;omega};{unfold bH.add at a;simp;split at a;{simp_all};have:=h.CM b k a;omega};{unfold bH.add at a d;split at a<;>split at d;{omega};{cases a;have:=h.CM _ _ d;omega};{cases d;have:=h.CM _ _ a;omega};exact h.inj _ _ _ a d};{have m:=V9 i h.jE.1;unfold bH.add at a;rw[if_neg Ω]at a;rw[WL,if_neg Ω];exact h.hid b i a};{unfold bH.add at a;split at a;{rename_i e;subst e;cases a;simp only[Array.getElem?_push_size];exact .own p (n.mono f)};have j:=h.qN b k a;have l:=h.CM b k a;rw[YW j,YW l,<-Wm j,<-Wm l];exact(h.blk b k a).mono f};{unfold bH.add at a;have:=h.jE;split at a;{omega};exact h.aI b k a i};{unfold bH.add;grind};grind
theorem bH.Gg(r:bH)(b k:Nat):r.add b k b=YU k:=by unfold bH.add;simp
theorem ae.newObj(f:nA c r o o'):ae P c r (newObj o) (newObj o') λg b d=>g b=YU d/\c.low b=0:=by intro w v a;refine⟨v.heap.size,_,_,rfl,Ext.alloc a f,⟨bH.Gg _ _ _,a.sn _ λx=>Wy _ (a.old _ x)⟩,λe h=>?_⟩;simp_all
theorem ae.newRow{x x':Array YY}(h:au c r x x'):ae P c r (newRow t x) (newRow t x') (di c):=by refine ae.bind (ae.newObj (.cells t (0,0) h)) λe b d _ a=>ae.pure ⟨a.1,rfl,rfl,WX a.2⟩
theorem ae.newVar(h:aj c r x x'):ae P c r (newVar t x) (newVar t x') (di c):=ae.newRow (au.cells h)
theorem di.add{a a':ZA}(h:di c r a a')(n:Nat):di c r (a.add n) (a'.add n):=by unfold ZA.add;split;{exact h};exact⟨h.1,by simp[h.2.1],rfl,Wk h.2.2.2 (Xi _ _)⟩
theorem ae.loadCellsFrom(n:Nat):∀{r:bH}{a a':ZA}(i:Nat){acc acc':Array YY},di c r a a'->au c r acc acc'->ae P c r (loadCellsFrom a i n acc) (loadCellsFrom a' i n acc') (au c):=by induction n with|zero=>intro r a a' i acc acc' e b;exact ae.pure b|succ n g=>intro r a a' i acc acc' e b;exact ae.bind (ae.load (e.add i)) λh x j d f=>g (i+1) (e.mono d) ((b.mono d).push f)
theorem ae.loadCells(b:di c r a a')(n:Nat):ae P c r (loadCells a n) (loadCells a' n) (au c):=ae.loadCellsFrom n 0 b .empty
theorem ae.Hj(i:Fits P c){g:Nat}(b:g<c.aI)(o:Nat):ae P c r (Go.load ⟨g,o,Y1⟩) (Go.load ⟨g,o,Y1⟩) (aj c):=by intro w v f;cases d:r g with|some k=>obtain rfl:=f.aI g k d b;exact ae.load ⟨d,rfl,rfl,Wk (WX (i.low g b)) (WE _)⟩ w v f|none=>have h:=f.hid g b d;(have e:(Go.load ⟨g,o,Y1⟩).run P w=.halt (.stuck "load: no such cell") w:=by simp[Zs.run,YZ.cell?,YZ.farLoad,YZ.noCell,h]);rw[e];exact rfl
theorem ae.tE(f:Fits P c){g:Nat}(h:g<c.aI)(n:Nat):∀{r:bH}(i:Nat){acc acc':Array YY},au c r acc acc'->ae P c r (Go.loadCellsFrom ⟨g,0,Y1⟩ i n acc) (Go.loadCellsFrom ⟨g,0,Y1⟩ i n acc') (au c):=by induction n with|zero=>intro r i acc acc' a;exact ae.pure a|succ n k=>intro r i acc acc' a;(have e:(⟨g,0,Y1⟩:ZA).add i=⟨g,0+i,Y1⟩:=by unfold ZA.add;simp_all);unfold Go.loadCellsFrom;rw[e];exact ae.bind (ae.Hj f h _) λl x m b j=>k (i+1) ((a.mono b).push j)
theorem ae.Jz(a:Fits P c){g:Nat}(d:g<c.aI)(t:Zd):ae P c r (Go.loadVar t ⟨g,0,Y1⟩) (Go.loadVar t ⟨g,0,Y1⟩) (aj c):=by refine ae.bind (ae.cI (oE t)) λp b f k h=>?_;subst h;cases f with|false=>exact ae.Hj a d 0|true=>refine ae.bind (ae.cI (br t)) λq n o l i=>?_;subst i;exact ae.bind (ae.tE a d _ 0 .empty) λs x u m j=>ae.pure (.uM j)
theorem ae.storeCells:∀{r:bH}{a a':ZA}{l l':List YY}(i:Nat),di c r a a'->au c r l.toArray l'.toArray->ae P c r (storeCells a l i) (storeCells a' l' i) λ_ _ _=>True|r,a,a',[],[],i,b,h=>ae.pure trivial|r,a,a',[],_::_,i,b,h=>by have:=h.size;grind|r,a,a',_::_,[],i,b,h=>by have:=h.size;grind|r,a,a',x::l,g::l',i,b,h=>by refine ae.bind (ae.store (b.add i) (h.el 0 x g Θ Θ)) λm _ _ d _=>?_;refine ae.storeCells (i+1) (b.mono d) ((⟨?_,λj u f k e=>?_⟩:au c r l.toArray l'.toArray).mono d);{have:=h.size;simp_all};exact h.el (j+1) u f (by simp_all) (by simp_all)
theorem ae.loadVar(t:Zd)(d:di c r a a'):ae P c r (loadVar t a) (loadVar t a') (aj c):=by refine ae.bind (ae.cI (oE t)) λm g e b h=>?_;subst h;cases e with|false=>exact ae.load (d.mono b)|true=>refine ae.bind (ae.cI (br t)) λo n l f i=>?_;subst i;exact ae.bind (ae.loadCells ((d.mono b).mono f) _) λp x q k j=>ae.pure (.uM j)
theorem ae.storeVar(t:Zd)(j:di c r a a')(h:aj c r x x'):ae P c r (storeVar t a x) (storeVar t a' x') λ_ _ _=>True:=by refine ae.bind (ae.cI (br t)) λg n d f k=>?_;subst k;have l:=(au.cells h).size;have b:ae P c g (Go.storeCells a x.cells.toList) (Go.storeCells a' x'.cells.toList) λ_ _ _=>True:=ae.storeCells 0 (j.mono f) (by simpa using(au.cells h).mono f);rw[<-l];by_cases e:x.cells.size≠d;{rw[if_pos e,if_pos e];exactλ_ _ _=>rfl};rw[if_neg e,if_neg e];exact b
theorem ae.getObj{b':Nat}(D:r b=YU b'){k:Zy->Zs α}{k':Zy->Zs β}{Q:bH->α->β->Prop}(G:∀o o',¬c.seen b->nA c r o o'->(∀x t f,o≠.cells x t f)->ae P c r (k o) (k' o') Q):ae P c r (getObj b>>=k) (getObj b'>>=k') Q:=by intro w v E;have F:=E.blk b b' D;rw[Zs.run_bind];(have C:∀(u:YZ)(j:Nat),(Go.getObj j).run P u=match u.heap[j]? with|some (.cells ..)=>.halt (.stuck "getObj: a row of cells") u|some o=>.ok o u|none=>.halt (.stuck "getObj: no such block") u:=by intro u j;unfold Go.getObj;simp only[Zs.run];rfl);rw[C];generalize O:w.heap[b]?=U at F;generalize g:v.heap[b']?=T at F;cases F with|seen _ _ _ _ _ _ _ _=>exact rfl|own n N=>rename_i o o';cases N with|cells t S _=>exact rfl|map R L M=>have:=G _ _ n (.map R L M) (λ_ _ _ h=>by cases h) w v E;revert this;show Out P c r w v _ Q ((k _).run P w)->Out P c r w v _ Q ((k _).run P w);(cases(k _).run P w with|halt _ _=>exactλh=>h|ok a J=>rintro⟨q,B,A,H,i,z,I⟩;refine⟨q,B,A,by simp_all,i,z,λe d=>?_⟩;rw[Zs.events_bind,C,g]at d;(have y:(Go.getObj b').events P v #[]=#[⟨.obj b',YT,YT⟩]:=by simp[Go.getObj,Zs.events,Zs.runT,g,Zy.isChan,-Zs.runT_eq]);simp only[ZF.evThen_ok]at d;rw[Zs.events_acc,y]at d;rcases WR.1 d with d|d;{simp at d;subst d;exact .inl ⟨b,⟨i.le _ _ D,n⟩,by simp,rfl⟩};simp_all)|iter s p=>have:=G _ _ n (.iter s p) (λ_ _ _ h=>by cases h) w v E;revert this;show Out P c r w v _ Q ((k _).run P w)->Out P c r w v _ Q ((k _).run P w);(cases(k _).run P w with|halt _ _=>exactλh=>h|ok a J=>rintro⟨q,B,A,H,i,z,I⟩;refine⟨q,B,A,by simp_all,i,z,λe d=>?_⟩;rw[Zs.events_bind,C,g]at d;(have y:(Go.getObj b').events P v #[]=#[⟨.obj b',YT,YT⟩]:=by simp[Go.getObj,Zs.events,Zs.runT,g,Zy.isChan,-Zs.runT_eq]);simp only[ZF.evThen_ok]at d;rw[Zs.events_acc,y]at d;rcases WR.1 d with d|d;{simp at d;subst d;exact .inl ⟨b,⟨i.le _ _ D,n⟩,by simp,rfl⟩};simp_all)|number l K=>have:=G _ _ n (.number l K) (λ_ _ _ h=>by cases h) w v E;revert this;show Out P c r w v _ Q ((k _).run P w)->Out P c r w v _ Q ((k _).run P w);cases(k _).run P w with|halt _ _=>exactλh=>h|ok a J=>rintro⟨q,B,A,H,i,z,I⟩;refine⟨q,B,A,by simp_all,i,z,λe d=>?_⟩;rw[Zs.events_bind,C,g]at d;(have y:(Go.getObj b').events P v #[]=#[⟨.obj b',YT,YT⟩]:=by simp[Go.getObj,Zs.events,Zs.runT,g,Zy.isChan,-Zs.runT_eq]);simp only[ZF.evThen_ok]at d;rw[Zs.events_acc,y]at d;rcases WR.1 d with d|d;{simp at d;subst d;exact .inl ⟨b,⟨i.le _ _ D,n⟩,by simp,rfl⟩};simp_all
theorem ae.setObj{b':Nat}(i:r b=YU b')(z:¬c.seen b)(A:nA c r o o')(I:o.isChan=YT):ae P c r (setObj b o) (setObj b' o') λ_ _ _=>True:=by intro w v k;have m:=k.blk b b' i;(have C:∀(u:YZ)(j:Nat)(o:Zy),(Go.setObj j o).run P u=match u.heap[j]? with|some (.cells ..)=>.halt (.stuck "setObj: a row of cells") u|some _=>.ok () {u with heap:=u.heap.setIfInBounds j o}|none=>.halt (.stuck "setObj: no such block") u:=by intro u j o;rfl);rw[C];have n:=k.qN b b' i;have y:=k.CM b b' i;(have E:o'.isChan=YT:=by cases A<;>rfl);generalize H:w.heap[b]?=K at m;generalize g:v.heap[b']?=J at m;(have d:∀q,v.heap[b']?=YU q->(∀x t f,q≠.cells x t f)->q.isChan=YT->Out P c r w v (Go.setObj b' o') (λ_ _ _=>True) (.ok () {w with heap:=w.heap.setIfInBounds b o}):=by intro q F G B;refine⟨(),{v with heap:=v.heap.setIfInBounds b' o'},r,?_,?_,trivial,λe p=>?_⟩;{simp_all};{exact Ext.RD k i z (by simp[n]) (by simp[y]) A Θ Θ (λj s=>WI (Ne.symm s)) (λj s=>WI (Ne.symm s)) rfl rfl k.drawn rfl rfl};(have D:(Go.setObj b' o').events P v #[]=#[⟨.obj b',YX,YT⟩]:=by unfold Go.setObj;simp only[Zs.events,Zs.runT,F];simp_all);rw[D]at p;simp at p;subst p;exact .inl ⟨b,⟨i,z⟩,λ_=>z,rfl⟩);cases m with|seen _ _ _ x _ _ _ _=>rfl|own _ h=>cases h with|cells _ _ _=>exact rfl|map _ _ _=>exact d _ g (λ_ _ _ h=>by cases h) rfl|iter _ _=>exact d _ g (λ_ _ _ h=>by cases h) rfl|number _ _=>exact d _ g (λ_ _ _ h=>by cases h) rfl
end
section
variable{c:eG}{r:bH}
def Flat(v:YY):Prop:=∀(c:eG)(r:bH),aj c r v v
theorem Flat.int(k:Y7)(n:Int):Flat (.int k n):=λ_ _=>.int k n
theorem Flat.bool(b:Bool):Flat (.bool b):=λ_ _=>.bool b
theorem Flat.string(s:ByteArray):Flat (.string s):=λ_ _=>.string s
def jU:Nat->YY->Bool
 |0,_=>YT
 |_+1,.bool _|_+1,.int _ _|_+1,.string _|_+1,.pointer Y1|_+1,.slice Y1 _ _|_+1,.map Y1|_+1,.nilFunc|_+1,.nilIface=>YX
 |n+1,.agg x|n+1,.tuple x=>x.all (jU n)
 |_,_=>YT
theorem iD:∀{n:Nat}{v:YY},jU n v=YX->Flat v|0,_,h=>by simp[jU]at h|n+1,v,h=>by intro c r;cases v with|bool b=>exact .bool b|int k n=>exact .int k n|float _ _=>simp[jU]at h|complex _ _ _=>simp[jU]at h|string s=>exact .string s|pointer a=>(cases a with|none=>exact .gj|some _=>simp[jU]at h)|slice a n m=>(cases a with|none=>exact .iu n m|some _=>simp[jU]at h)|map a=>(cases a with|none=>exact .kQ|some _=>simp[jU]at h)|chan _=>simp[jU]at h|func _ _ _=>simp[jU]at h|nilFunc=>exact .nilFunc|iface _ _=>simp[jU]at h|nilIface=>exact .nilIface|agg x=>simp only[jU,Array.all_eq_true]at h;refine .agg rfl λi v f a b=>?_;rw[a]at b;cases b;obtain⟨e,rfl⟩:=Wa.1 a;exact iD (h i e) c r|tuple x=>simp only[jU,Array.all_eq_true]at h;refine .tuple rfl λi v f a b=>?_;rw[a]at b;cases b;obtain⟨e,rfl⟩:=Wa.1 a;exact iD (h i e) c r
theorem ae.flat{x:Zs YY}(h:bS P Flat x):ae P c r x x (aj c):=(ae.fe h).mono λd a b _⟨e,h⟩=>by subst e;exact h c d
theorem bM:bS P (λp=>p=P) program:=rfl
theorem jJ(t:Zd):bS P (λi=>P.info? t=YU i) (typeInfo t):=by refine bS.bind bM λp a=>?_;subst a;cases h:p.info? t with|none=>exact rfl|some i=>exact rfl
theorem uJ(t:Zd)(a:∀z,(P.info? t).bind (·.zero)=YU z->Flat z):bS P Flat (zeroValue t):=by refine bS.bind (jJ t) λi b=>?_;cases h:i.zero with|none=>exact rfl|some v=>exact a v (by grind)
theorem ox(a:BinOp)(k:Y7)(x y:Int):bS P Flat (Op.intArith a k x y):=by unfold Op.intArith;split<;>first|exact .int _ _|exact rfl
theorem yW(a:BinOp)(k:Y7)(x y:Int):bS P Flat (Op.intDiv a k x y):=by unfold Op.intDiv;split;{rfl};split<;>first|exact .int _ _|exact rfl
theorem pP(a:BinOp)(k:Y7)(x y:Int):bS P Flat (Op.intBits a k x y):=by unfold Op.intBits;split<;>first|exact .int _ _|exact rfl
theorem Bo(a:BinOp)(x y:Int):bS P Flat (Op.intCmp a x y):=by unfold Op.intCmp;split<;>first|exact .bool _|exact rfl
theorem tY(a:BinOp)(k b:Y7)(x y:Int):bS P Flat (Op.shift a k x b y):=by unfold Op.shift;split;{rfl};split<;>first|exact .int _ _|exact rfl
theorem kI(a:BinOp)(x y:ByteArray):bS P Flat (Op.stringOp a x y):=by unfold Op.stringOp;split<;>first|exact .bool _|exact rfl|(split<;>first|exact .string _|exact rfl)
theorem j7{q:α->Prop}(s:String):bS P q (Go.stuck s):=rfl
theorem pz{q:α->Prop}{b:Prop}[Decidable b]{x y:Zs α}(a:bS P q x)(d:bS P q y):bS P q (if b then x else y):=by grind
theorem nf(d:BinOp)(t:Zd)(k j:Y7)(a b:Int):bS P Flat (binOp d t (.int k a) (.int j b)):=by cases d<;>first|exact tY .shl k j a b|exact tY .shr k j a b|exact pz (j7 _) (ox _ _ _ _)|exact pz (j7 _) (yW _ _ _ _)|exact pz (j7 _) (pP _ _ _ _)|exact pz (j7 _) (Bo _ _ _)
theorem kl(d:BinOp)(t:Zd)(a b:ByteArray):bS P Flat (binOp d t (.string a) (.string b)):=by(have:binOp d t (.string a) (.string b)=Op.stringOp d a b:=by cases d<;>rfl);rw[this];exact kI _ _ _
theorem ae.asBool(h:aj c r x x'):ae P c r (asBool x) (asBool x') λ_ a b=>b=a:=by cases h<;>first|exact ae.pure rfl|exact ae.stuck
theorem ae.asIntOf(h:aj c r x x'):ae P c r (asIntOf x) (asIntOf x') λ_ a b=>b=a:=by cases h<;>first|exact ae.pure rfl|exact ae.stuck|exact ae.unsupported
theorem ae.asInt(h:aj c r x x'):ae P c r (asInt x) (asInt x') λ_ a b=>b=a:=ae.bind (ae.asIntOf h) λ_ a b _ e=>ae.pure (by rw[e])
theorem ae.asAgg(h:aj c r x x'):ae P c r (asAgg x) (asAgg x') (au c):=by cases h with|agg a b=>exact ae.pure ⟨a,b⟩|_=>exact ae.stuck
def gw(P:Zf)(x:Zs α):Prop:=∀w h w',x.run P w=.halt h w'->Ce h=YX
def kK(P:Zf)(x:Zs α):Prop:=∀w,∃k w',x.run P w=.halt k w'/\Ce k=YX
theorem bS.zK{q:α->Prop}{x:Zs α}(h:bS P q x):gw P x:=by intro w k j e;rcases h.run w w rfl rfl with⟨a,d,_,b,_⟩|⟨i,f,b,g⟩;{simp_all};simp_all
theorem gw.bind{x:Zs α}{f:α->Zs β}(d:gw P x)(h:∀a,gw P (f a)):gw P (x>>=f):=by intro w k j e;rw[Zs.run_bind]at e;cases b:x.run P w with|halt i g=>rw[b]at e;cases e;exact d _ _ _ b|ok a g=>rw[b]at e;exact h a _ _ _ e
theorem dC{x:Zs α}{f:α->Zs β}(e:gw P x)(h:∀a,kK P (f a)):kK P (x>>=f):=by intro w;rw[Zs.run_bind];cases d:x.run P w with|halt k b=>exact⟨k,b,rfl,e _ _ _ d⟩|ok a b=>exact h a b
theorem gG{x:Zs α}{f:α->Zs β}(h:kK P x):kK P (x>>=f):=by intro w;obtain⟨k,b,e,a⟩:=h w;simp_all
theorem eL(a:Ce h=YX:=by rfl):kK P (Zs.halt h:Zs α):=λw=>⟨h,w,rfl,a⟩
theorem rP(o:Zy):gw P (newObj o):=λ_ _ _ e=>by cases e
theorem dr(a:α):gw P (Pure.pure a:Zs α):=λ_ _ _ e=>by cases e
theorem CI(b:Nat):gw P (shape b):=λ_ _ _ e=>by cases e
theorem A8(a:ZA):gw P (frozen a):=λ_ _ _ e=>by cases e
theorem rV(t:Zd):lA P (elemOf t):=(aD t).bind λd=>by cases d<;>first|trivial|exact rfl
theorem dw(e:RuntimeError):kK P (runtimePanic e:Zs α):=by refine dC lE.zK λp=>?_;cases e with|typeAssertion i q a m=>exact dC (rV _).zK λz=>dC ((rP _).bind λ_=>dr _) λ_=>eL|panicNil=>exact dC (rV _).zK λz=>dC ((rP _).bind λ_=>dr _) λ_=>eL|_=>exact eL
theorem ae.runtimePanic{y:Zs β}{Q:bH->α->β->Prop}:ae P c r (Go.runtimePanic e:Zs α) y Q:=ae.never (dw e)
theorem pH(k:Y7)(x y:Int)(a:BoundsCode):kK P (boundsPanic k x y a:Zs α):=by unfold boundsPanic;split;{exact dC ((iG _).bind λ_=>xa _).zK λ_=>dw _};exact dC (xa _).zK λ_=>dw _
theorem ae.boundsPanic{k:Y7}{n m:Int}{code:BoundsCode}{y:Zs β}{Q:bH->α->β->Prop}:ae P c r (Go.boundsPanic k n m code:Zs α) y Q:=ae.never (pH k n m code)
theorem ae.sureAddr(h:aj c r x x'):ae P c r (Instr.sureAddr x) (Instr.sureAddr x') (di c):=by cases h with|ptr h=>exact ae.pure h|_=>exact ae.stuck
theorem ae.asAddr(h:aj c r x x'):ae P c r (asAddr x) (asAddr x') (di c):=by cases h with|ptr h=>exact ae.pure h|gj=>exact ae.runtimePanic (e:=.nilDeref)|_=>exact ae.stuck
theorem ae.part(t:Zd)(off:Nat){x x':Array YY}(h:au c r x x'):ae P c r (part t x off) (part t x' off) (aj c):=by refine ae.bind (ae.cI (oE t)) λm g f a j=>?_;subst j;cases f with|true=>exact ae.bind (ae.cI (br t)) λp n o i l=>by subst l;exact ae.pure (.uM (((h.mono a).mono i).extract _ _))|false=>cases e:x[off]? with|none=>exact ae.stuck|some v=>obtain⟨q,d,k⟩:=(h.mono a).get e;rw[d];exact ae.pure k
theorem EJ(t:Zd)(d:∀z,(P.info? t).bind (·.zero)=YU z->Flat z):ae P c r (Instr.alloc t YX (.tuple #[])) (Instr.alloc t YX (.tuple #[])) (aj c):=by refine ae.bind (ae.flat (uJ t d)) λg z j f d=>?_;exact ae.bind (ae.newVar d) λi a e _ h=>ae.pure (.ptr h)
theorem MZ(t:Zd)(h:aj c r x x'):ae P c r (Instr.box t x) (Instr.box t x') (aj c):=ae.bind (ae.newVar h) λe a d _ h=>ae.pure (.ptr h)
theorem At(d:Nat->Option (Nat×Nat)):∀(l q:List (Nat×YY)){z z':Array YY},au c r z z'->l.map (·.1)=q.map (·.1)->au c r (l.map (·.2)).toArray (q.map (·.2)).toArray->
 match Instr.fill d z l with|some y=>∃I,Instr.fill d z' q=YU I/\au c r y I|none=>True
 |[],[],z,z',h,_,_=>⟨z',rfl,h⟩
 |[],_::_,_,_,_,e,_=>by simp at e
 |_::_,[],_,_,_,e,_=>by simp at e
 |(i,v)::l,(O,t)::q,z,z',h,e,w=>by
   simp only[WN,Yf]at e
   obtain⟨rfl,e⟩:=e
   have F:aj c r v t:=w.el 0 v t Θ Θ
   have A:au c r (l.map (·.2)).toArray (q.map (·.2)).toArray:=⟨by have:=w.size;simp_all,λj u E a b=>w.el (j+1) u E (by grind) (by grind)⟩
   have M:=(au.cells F).size
   have C:=h.size
   unfold Instr.fill
   cases d i with
   |none=>trivial
   |some p=>
     obtain⟨k,H⟩:=p
     simp only[<-M,<-C]
     split
     · rename_i y G
       split at G
       ·cases G
       · rename_i L
         rw[if_neg L]
         have D:∀(s f:List (YY×Nat))(z z':Array YY),au c r z z'->s.map (·.2)=f.map (·.2)->au c r (s.map (·.1)).toArray (f.map (·.1)).toArray->
          au c r (s.foldl (λm(x:YY×Nat)=>m.setIfInBounds (k+x.2) x.1) z) (f.foldl (λm(x:YY×Nat)=>m.setIfInBounds (k+x.2) x.1) z'):=by
          intro s
          induction s with
          |nil=>simp_all
          |cons p s N=>intro f z z' C e B;cases f with
            |nil=>simp at e
            |cons Q f=>
              simp only[WN,Yf]at e
              rw[Xe,Xe,<-e.1]
              exact N f _ _ (C.set _ (B.el 0 _ _ Θ Θ)) e.2 ⟨by have:=B.size;simp_all,λj u E a b=>B.el (j+1) u E (by grind) (by grind)⟩
         have n:au c r (v.cells.zipIdx.foldl (λm(x:YY×Nat)=>m.setIfInBounds (k+x.2) x.1) z) (t.cells.zipIdx.foldl (λm(x:YY×Nat)=>m.setIfInBounds (k+x.2) x.1) z'):=by
          rw[<-Array.foldl_toList,<-Array.foldl_toList]
          refine D _ _ _ _ h ?_ ?_
          ·simp_all
          · have J:(v.cells.zipIdx.toList.map (·.1)).toArray=v.cells:=by simp
            have K:(t.cells.zipIdx.toList.map (·.1)).toArray=t.cells:=by simp
            rw[J,K];exact au.cells F
         have:=At d l q n e A
         simp_all
     ·trivial
end
section
variable{c:eG}{r:bH}
inductive vl(c:eG)(b:Nat):Option (Zd×Nat)->Option (Zd×Nat)->Prop
 |none:vl c b Y1 Y1
 |some(t:Zd){n m:Nat}:n<=m->c.low b=0->vl c b (YU (t,n)) (YU (t,m))
 |bad(t':Zd){n m:Nat}:c.low b≠0->c.aI<=b->vl c b (YU (yu,n)) (YU (t',m))
theorem vl.isSome{s s':Option (Zd×Nat)}(h:vl c b s s'):s.isSome=s'.isSome:=by cases h<;>rfl
theorem ru{p:Zf}{d:Nat}{e:Zd}{m off:Nat}{bs:Int}{o:Nat}(h:n<=m)(a:cellAtBytes p d e n off bs=YU o):cellAtBytes p d e m off bs=YU o:=by unfold cellAtBytes at a⊢;simp only[]at a⊢;split at a;{cases a};rename_i f;rw[if_neg f];simp only[Option.bind_eq_bind]at a⊢;cases i:byteOfCell p d e (off%p.cellsOf e)with|none=>simp_all|some b=>rw[i]at a;simp only[XE]at a⊢;split at a;{cases a};rename_i g;rw[if_neg ?_];{exact a};simp only[WY,decide_eq_true_eq,Int.ofNat_eq_natCast]at g⊢;have:n*p.bytesOf e<=m*p.bytesOf e:=XG _ h;omega
theorem ep.shape(h:ep c r w v)(g:r b=YU k):vl c b (w.shape? b) (v.shape? k):=by have d:=h.blk b k g;unfold YZ.shape?;generalize w.heap[b]?=p at d;generalize v.heap[k]?=o at d;cases d with|@seen x q t m f s l z y e=>by_cases a:c.low b=0;{obtain rfl:=y.1 a;exact .some t z a};obtain⟨rfl,i⟩:=y.2 a;exact .bad m a i|own n j=>cases j with|cells t f k=>exact .some t (by simp[k.size]) (h.sn b n)|_=>exact .none
theorem ae.shape(d:r b=YU k):ae P c r (shape b) (shape k) λ_ x y=>vl c b x y:=by intro w v a;exact⟨v.shape? k,v,r,rfl,.refl a,a.shape d,λe f=>by simp_all⟩
theorem ae.viewAt(f:r b=YU k):ae P c r (viewAt b) (viewAt k) λ_ x y=>x=Y1/\y=Y1:=by refine ae.bind (ae.shape f) λg s d h l=>?_;have a:=l.isSome;by_cases e:d.isSome=YX;{rw[a,if_pos e,if_pos e];exact ae.pure ⟨rfl,rfl⟩};rw[a,if_neg e,if_neg e];refine ae.getObj (h _ _ f) λo n _ j i=>?_;cases j with|cells t m _=>exact absurd rfl (i _ _ _)|_=>exact ae.pure ⟨rfl,rfl⟩
theorem ae.noView(d:di c r a a'):ae P c r (noView a) (noView a') λ_ _ _=>True:=by refine ae.bind (ae.viewAt d.1) λf s g e b=>?_;rw[b.1,b.2];exact ae.pure trivial
def Pg(c:eG)(r:bH):Option (ZA×Bool)->Option (ZA×Bool)->Prop
 |none,Y1=>True
 |some (a,l),YU (a',l')=>di c r a a'/\l'=l
 |_,_=>False
theorem ae.numberAt(f:r b=YU k):ae P c r (numberAt b) (numberAt k) (Pg c):=by refine ae.bind (ae.shape f) λn s g h m=>?_;have d:=m.isSome;rw[d];by_cases e:g.isSome=YX;{rw[if_pos e,if_pos e];exact ae.pure trivial};rw[if_neg e,if_neg e];refine ae.getObj (h _ _ f) λo q _ j i=>?_;cases j with|cells t p _=>exact absurd rfl (i _ _ _)|number l a=>exact ae.pure ⟨a,rfl⟩|_=>exact ae.pure trivial
theorem ae.behindNumber(d:di c r a a'):ae P c r (behindNumber a) (behindNumber a') λf x y=>di c f x.1 y.1/\y.2=x.2:=by refine ae.bind (ae.numberAt d.1) λi s g e b=>ae.pure ?_;match s,g,b with|none,Y1,_=>exact⟨d.mono e,rfl⟩|some (x,l),YU (j,h),b=>exact b
theorem ae.asNumber(b:di c r a a')(l:Bool):ae P c r (asNumber a l) (asNumber a' l) (aj c):=ae.bind (ae.newObj (.number l b)) λ_ _ _ _ h=>ae.pure (.ptr ⟨h.1,rfl,rfl,WX h.2⟩)
theorem ae.byteOf(b:di c r a a')(g:c.low a.block=0\/a.block<c.aI):ae P c r (byteOf a) (byteOf a') λ_ x y=>y=x:=by have e:=b.2.2.1;unfold Go.byteOf;rw[e];cases a.spot with|some s=>exact ae.pure rfl|none=>refine ae.bind (ae.fe bM) λn p m d i=>?_;obtain⟨rfl,rfl⟩:=i;refine ae.bind (ae.noView (b.mono d)) λo _ _ f _=>?_;refine ae.bind (ae.shape ((b.mono d).mono f).1) λq s t l e=>?_;rw[b.2.1];cases e with|none=>exact ae.stuck|bad x k d=>exact absurd g Ω|some x h=>refine ae.cI ?_;simp only[];split;{trivial};split<;>first|trivial|exact rfl
theorem ae.unsafeAdd(z:Fits P c)(h:aj c r x x')(k:aj c r y y'):ae P c r (Zn.unsafeAdd_ #[] t #[x,y]) (Zn.unsafeAdd_ #[] t #[x',y']) (aj c):=by(have f:∀{a j:Option ZA},aj c r (.pointer a) (.pointer j)->ae P c r (Zn.unsafeAdd_ #[] t #[.pointer a,y]) (Zn.unsafeAdd_ #[] t #[.pointer j,y']) (aj c):=by intro a j h;refine ae.bind (ae.asInt k) λF n E v A=>?_;subst A;have h:=h.mono v;simp only[];split;{cases h with|gj=>exact ae.unsupported|ptr b=>refine ae.bind (ae.viewAt b.1) λB s D l g=>?_;rw[g.1,g.2];exact ae.pure (.ptr (b.mono l))};split;{exact ae.unsupported};cases h with|gj=>exact ae.unsupported|ptr b=>refine ae.bind (ae.shape b.1) λB s D l g=>?_;cases g with|none=>exact ae.unsupported|bad x u v=>refine ae.bind (ae.fe bM) λC p i w o=>?_;obtain⟨rfl,rfl⟩:=o;(have:i.cellsOf yu=0:=by unfold Zf.cellsOf;rw[z.bad];rfl);(have:∀n d q,cellAtBytes i i.depth yu n d q=Y1:=λn d q=>by unfold cellAtBytes;simp[this]);simp only[this];exact ae.unsupported|some x m u=>refine ae.bind (ae.fe bM) λC p i w o=>?_;obtain⟨rfl,rfl⟩:=o;rw[b.2.1];split;{rename_i d e;rw[ru (Nat.div_le_div_right m) e];exact ae.pure (.ptr ⟨((b.mono l).mono w).1,rfl,b.2.2.1,Wk (WX u) (WE _)⟩)};exact ae.unsupported);cases h with|gj=>exact f .gj|ptr b=>exact f (.ptr b)|_=>exact ae.stuck
theorem ae.movedNumber(g:Fits P c)(h:aj c r x x')(k:aj c r y y'):ae P c r (movedNumber t x y) (movedNumber t x' y') (aj c):=by refine ae.bind (ae.cI (aD t)) λH d E p w=>?_;subst w;have h:=h.mono p;have k:=k.mono p;refine ae.ite (λ_ _ _ _=>rfl) λ_=>?_;cases h with|ptr u=>refine ae.bind (ae.behindNumber u) λI a i q A=>?_;obtain⟨j,o⟩:=A;obtain⟨a,l⟩:=a;subst o;refine ae.bind (ae.unsafeAdd g (.ptr j) (k.mono q)) λJ z K F B=>?_;(cases B with|ptr v=>exact ae.asNumber v _|gj=>exact ae.pure .gj|bool b=>exact ae.pure (.bool b)|int k n=>exact ae.pure (.int k n)|string s=>exact ae.pure (.string s)|iu n m=>exact ae.pure (.iu n m)|slice n m a=>exact ae.pure (.slice n m a)|cW a i=>exact ae.pure (.cW a i)|kQ=>exact ae.pure .kQ|map a=>exact ae.pure (.map a)|func a b d e f=>exact ae.pure (.func a b d e f)|nilFunc=>exact ae.pure .nilFunc|nilIface=>exact ae.pure .nilIface|iface t a=>exact ae.pure (.iface t a)|agg a b=>exact ae.pure (.agg a b)|tuple a b=>exact ae.pure (.tuple a b))|gj=>exact ae.unsafeAdd g .gj k|bool b=>exact ae.unsafeAdd g (.bool b) k|int C n=>exact ae.unsafeAdd g (.int C n) k|string s=>exact ae.unsafeAdd g (.string s) k|iu n m=>exact ae.unsafeAdd g (.iu n m) k|slice n m a=>exact ae.unsafeAdd g (.slice n m a) k|cW a i=>exact ae.unsafeAdd g (.cW a i) k|kQ=>exact ae.unsafeAdd g .kQ k|map a=>exact ae.unsafeAdd g (.map a) k|func a b d e f=>exact ae.unsafeAdd g (.func a b d e f) k|nilFunc=>exact ae.unsafeAdd g .nilFunc k|nilIface=>exact ae.unsafeAdd g .nilIface k|iface t a=>exact ae.unsafeAdd g (.iface t a) k|agg a b=>exact ae.unsafeAdd g (.agg a b) k|tuple a b=>exact ae.unsafeAdd g (.tuple a b) k
theorem ae.movedPointer(g:Fits P c)(h:aj c r x x')(k:aj c r y y'):ae P c r (movedPointer t x y) (movedPointer t x' y') (aj c):=by unfold Go.movedPointer;cases h with|ptr j=>refine ae.bind (ae.numberAt j.1) λv s q i o=>?_;(match s,q,o with|none,Y1,_=>exact ae.unsafeAdd (t:=t) g (.ptr (j.mono i)) (k.mono i)|some _,YU _,_=>exactλ_ _ _=>rfl)|gj=>exact ae.unsafeAdd g .gj k|bool b=>exact ae.unsafeAdd g (.bool b) k|int p n=>exact ae.unsafeAdd g (.int p n) k|string s=>exact ae.unsafeAdd g (.string s) k|iu n m=>exact ae.unsafeAdd g (.iu n m) k|slice n m a=>exact ae.unsafeAdd g (.slice n m a) k|cW a l=>exact ae.unsafeAdd g (.cW a l) k|kQ=>exact ae.unsafeAdd g .kQ k|map a=>exact ae.unsafeAdd g (.map a) k|func a b d e f=>exact ae.unsafeAdd g (.func a b d e f) k|nilFunc=>exact ae.unsafeAdd g .nilFunc k|nilIface=>exact ae.unsafeAdd g .nilIface k|iface t a=>exact ae.unsafeAdd g (.iface t a) k|agg a b=>exact ae.unsafeAdd g (.agg a b) k|tuple a b=>exact ae.unsafeAdd g (.tuple a b) k
theorem ae.known{x:Zs α}{y:Zs β}{Q:bH->α->β->Prop}(h:(∀(i k:Nat),r i=YU k->i<c.aI->i=k)->(∀(i j k:Nat),r i=YU k->r j=YU k->i=j\/(c.seen i/\c.seen j))->ae P c r x y Q):ae P c r x y Q:=λw v a=>h a.aI a.inj w v a
theorem wu{b:ZA}(d:di c r a a')(f:di c r b b')(e:a.block=b.block):a'.block=b'.block:=by have h:=f.1;rw[<-e,d.1]at h;simp_all
theorem wj(d:∀(i k:Nat),r i=YU k->i<c.aI->i=k)(b:di c r a a')(h:a.block<c.aI):a'.block<c.aI:=by have:=d _ _ b.1 h;omega
theorem ae.twoPlaces{b:ZA}(k:Fits P c)(f:di c r a a')(j:di c r b b'):ae P c r (Op.twoPlaces a b) (Op.twoPlaces a' b') λ_ x y=>y=x:=by refine ae.known λu A=>?_;refine ae.bind (ae.fe bM) λB p h i t=>?_;obtain⟨rfl,rfl⟩:=t;by_cases d:a.block=b.block;(case neg=>have m:=bne_iff_ne.2 d;rw[m];exactλ_ _ _=>rfl);(have n:(a'.block !=b'.block)=(a.block !=b.block):=by simp[d,wu f j d]);by_cases e:a.block<c.aI;(case neg=>(have q:decide (a.block>=h.globals.size)=YX:=by rw[decide_eq_true_eq,<-k.aI];omega);rw[q,XH];exactλ_ _ _=>rfl);(have o:decide (a'.block>=h.globals.size)=decide (a.block>=h.globals.size):=by rw[decide_eq_decide,<-k.aI];have:=wj u f e;omega);rw[n,o];refine ae.ite (λ_ _ _ _=>rfl) λ_=>?_;exact ae.bind (ae.byteOf (f.mono i) (.inr e)) λC x E s v=>ae.bind (ae.byteOf ((j.mono i).mono s) (.inr (d▸e))) λD y F z w=>ae.pure (by rw[v,w])
theorem ae.addrMod(h:Fits P c){k:Y7}{n:Int}(f:di c r a a'):ae P c r (Op.addrMod k a n) (Op.addrMod k a' n) (aj c):=by refine ae.bind (ae.shape f.1) λt s y d m=>?_;cases m with|none=>exact ae.unsupported|bad x b d=>refine ae.never (gG λw=>?_);(have e:∃s,(typeInfo yu).run P w=.halt (.stuck s) w:=by unfold typeInfo;rw[Zs.run_bind];simp only[program,Zs.run,ZF.andThen,h.bad];simp);obtain⟨s,e⟩:=e;exact⟨_,w,e,rfl⟩|some x l b=>refine ae.bind (ae.cI (dq _)) λu i q g j=>?_;subst j;refine ae.ite (λ_ _ _ _=>rfl) λ_=>?_;exact ae.bind (ae.byteOf ((f.mono d).mono g) (.inl b)) λv z A p o=>by subst o;exact ae.pure (.int _ _)
theorem ae.addrCmp{b:ZA}(f:Fits P c)(d:di c r a a')(e:di c r b b'):ae P c r (Op.addrCmp op a b) (Op.addrCmp op a' b') (aj c):=by refine ae.bind (ae.twoPlaces f d e) λj s h i g=>?_;subst g;cases op<;>first|exact ae.pure (.bool _)|exact ae.unsupported
theorem ae.addrSub{k:Y7}{b:ZA}(f:Fits P c)(d:di c r a a')(e:di c r b b'):ae P c r (Op.addrSub k a b) (Op.addrSub k a' b') (aj c):=by refine ae.bind (ae.twoPlaces f d e) λi s j h g=>?_;subst g;exact ae.pure (.int _ _)
def N7(P:Zf)(t:Zd):Bool:=match(P.info? t).map (λi:TypeInfo=>i.desc)with|some (.named "sync.copyChecker" _)=>YT|_=>YX
def fC(P:Zf)(t:Zd):Bool:=match P.underlying t with|some (.int _)=>N7 P t|some .string|some .bool=>YX|_=>YT
theorem zJ{q:α->Prop}{x:Zs α}{f:α->Zs β}(g:bS P q x)(h:∀a,q a->kK P (f a)):kK P (x>>=f):=by intro w;rw[Zs.run_bind];rcases g.run w w rfl rfl with⟨a,d,e,b,_⟩|⟨k,j,b,i⟩;{rw[b];exact h a e _};simp_all
theorem ae.equal(H:Fits P c)(j:fC P t=YX)(h:aj c r x x')(k:aj c r y y'):ae P c r (Op.equal t x y) (Op.equal t x' y') λ_ a b=>b=a:=by show ae P c r (Op.equalIn (9999+1) t x y) (Op.equalIn (9999+1) t x' y') _;generalize(9999:Nat)=d;unfold Op.equalIn;refine ae.bind (ae.fe (x:=underlying t) (q:=λd=>P.underlying t=YU d) ?_) λr1 z J s m=>?_;{refine bS.bind bM λp v=>?_;subst v;cases h:p.underlying t with|none=>exact rfl|some i=>exact rfl};obtain⟨rfl,m⟩:=m;have h:=h.mono s;have k:=k.mono s;unfold fC at j;rw[m]at j;cases J with|bool=>(cases h<;>cases k<;>first|exact ae.stuck|exact ae.pure rfl)|string=>(cases h<;>cases k<;>first|exact ae.stuck|exact ae.pure rfl)|int q=>(cases h with|int S w=>(cases k with|int I o=>exact ae.ite (λ_=>ae.pure rfl) λ_=>ae.stuck|ptr G=>(match w with|.ofNat 0=>exact ae.pure rfl|.ofNat (_+1)=>exact ae.unsupported|.negSucc _=>exact ae.unsupported)|_=>first|exact ae.stuck|exact ae.unsupported)|ptr N=>(cases k with|int I o=>(match o with|.ofNat 0=>exact ae.pure rfl|.ofNat (_+1)=>exact ae.unsupported|.negSucc _=>exact ae.unsupported)|ptr G=>refine ae.bind (ae.behindNumber N) λr2 x x' C g=>ae.bind (ae.behindNumber (G.mono C)) λr3 y y' D l=>?_;refine ae.known λR n=>?_;have g:=g.1.mono D;have l:=l.1;refine ae.bind (ae.fe bM) λr4 p B E v=>?_;obtain⟨rfl,rfl⟩:=v;by_cases f:x.1.block=y.1.block;(case neg=>have w:(x.1.block==y.1.block)=YT:=beq_eq_false_iff_ne.2 f;(have o:(x.1==y.1)=YT:=by grind);simp only[w,o,Xn,WQ,if_false];refine ae.never (dC (dq t).zK λi=>?_);split<;>exact eL);have O:=wu g l f;(have K:(x'.1.block==y'.1.block)=(x.1.block==y.1.block):=by simp_all);by_cases e:x.1.block<c.aI;(case neg=>(have T:decide (x.1.block<B.globals.size)=YT:=by rw[decide_eq_false_iff_not,<-H.aI];exact e);simp only[T,Bool.and_false,WQ,if_false];refine ae.never (zJ (jJ t) λi n=>?_);unfold N7 at j;rw[n]at j;split;{simp_all};exact eL);(have L:decide (x'.1.block<B.globals.size)=decide (x.1.block<B.globals.size):=by rw[decide_eq_decide,<-H.aI];exact⟨λ_=>e,λ_=>wj R g e⟩);(have M:(x'.1==y'.1)=(x.1==y.1):=by obtain⟨⟨xb,xo,xs⟩,_⟩:=x;obtain⟨⟨V,W,X⟩,_⟩:=x';obtain⟨⟨yb,yo,ys⟩,_⟩:=y;obtain⟨⟨Y,Z,ys'⟩,_⟩:=y';obtain⟨s,C,D,-⟩:=g;obtain⟨S,I,k3,-⟩:=l;grind);simp only[K,L,M];refine ae.ite (λe=>?_) λ_=>?_;{(have e:x.1.block<c.aI:=by assumption);exact ae.bind (ae.byteOf (g.mono E) (.inr e)) λU u u' F Q=>ae.bind (ae.byteOf ((l.mono E).mono F) (.inr (f▸e))) λr6 z J h6 m=>ae.pure (by rw[Q,m])};refine ae.bind (ae.cI (dq t)) λU i i' F n=>?_;subst n;refine(ae.cI ?_);(split<;>first|exact rfl|(split<;>first|trivial|exact rfl))|_=>exact ae.unsupported)|gj=>cases k<;>exact ae.unsupported|_=>cases k<;>first|exact ae.stuck|exact ae.unsupported)|_=>simp at j
theorem ae.eqGuard{o2:Zm}(b:∀z,x≠.agg z)(a:x≠.nilIface)(h:aj c r x x'):ae P c r (eqGuard op t o1 o2 x y) (eqGuard op t o1 o2 x' y') λ_ _ _=>True:=by refine ae.ite (λ_=>ae.pure trivial) λ_=>?_;cases h<;>first|exact absurd rfl a|exact absurd rfl (b _)|exact ae.pure trivial
theorem j9{d:TypeDesc}(h:P.underlying t=YU d)(w:YZ):(underlying t).run P w=.ok d w:=by unfold underlying;simp_all
theorem Be(a:fC P t=YX)(e:(∃z,x=.agg z)\/x=.nilIface):kK P (Op.equal t x y):=by intro w;show∃k f,(Op.equalIn (9999+1) t x y).run P w=.halt k f/\_;unfold Op.equalIn;unfold fC at a;cases b:P.underlying t with|none=>simp_all|some z=>rw[b]at a;rw[Zs.run_bind,j9 b];rcases e with⟨q,rfl⟩|rfl<;>cases z<;>first|(simp at a;done)|exact⟨_,_,rfl,rfl⟩|(cases y<;>exact⟨_,_,rfl,rfl⟩)
end
def BL:YY->Bool
 |.int ..|.string ..|.pointer ..|.float ..|.complex ..=>YT
 |_=>YX
set_option maxHeartbeats 4000000 in theorem zg(a:BinOp)(t:Zd)(x y:YY)(b:¬(a=.eql\/a=.neq))(c:BL x=YX):∃h:Halt,binOp a t x y=.halt h/\Ce h=YX:=by(cases a<;>first|exact absurd (.inl rfl) b|exact absurd (.inr rfl) b|skip);all_goals(cases x<;>first|(simp[BL]at c;done)|skip);all_goals(cases y<;>exact⟨_,rfl,rfl⟩)
section
variable{c:eG}{r:bH}
theorem pA(a:fC P t=YX)(n:Nat):P.eqGuardType (n+1) t=YT:=by unfold fC at a;unfold Zf.eqGuardType;grind
theorem yl{o2:Zm}(l:fC P t=YX)(m:(∃z,x=.agg z)\/x=.nilIface):gw P (eqGuard op t o1 o2 x y):=by
 have a:∀n:Nat,gw P (Op.eqGuardIn (n+1) t .nilIface .nilIface):=λn=>by
  unfold Op.eqGuardIn
  exact gw.bind (aD t).zK λd=>by cases d<;>exact dr _
 have g:gw P (match x,y with
  |.nilIface,.nilIface=>(do
    if(o1 matches .const _)||(o2 matches .const _)then return
    if<-Op.eqGuardIn Op.maxDepth t x y then unsupported (.noEntry "binop/eql: two nil values of an interface type with methods, neither of them the literal nil"):Zs Unit)
  |.agg _,.agg _=>(do
    if !(<-program).eqGuardType (<-program).depth t then return
    if<-Op.eqGuardIn Op.maxDepth t x y then unsupported (.noEntry "binop/eql: two nil values of an interface type with methods, in a part of a struct or an array"):Zs Unit)
  |_,_=>pure ()):=by
  rcases m with⟨z,rfl⟩|rfl
  ·cases y with
    |agg u=>
      refine bS.zK (q:=λ_=>True) (bS.bind bM λp k=>bS.bind bM λj f=>?_)
      subst k f
      rw[show j.eqGuardType j.depth t=YT from pA l _]
      exact trivial
    |_=>exact dr _
  ·cases y with
    |nilIface=>
      by_cases i:((match o1 with|.const _=>YX|_=>YT)||(match o2 with|.const _=>YX|_=>YT))=YX
      ·simp only[i,if_true];exact dr _
      · simp only[i,if_false,WQ]
        exact gw.bind (a 9999) λb=>by
         cases b
         ·exact dr _
         ·exactλw h o e=>by cases e;rfl
    |_=>exact dr _
 cases op<;>first|exact g|exact dr _
set_option maxHeartbeats 1000000 in theorem Fp{o2:Zm}(hc:Fits P c)(ht:(op=.eql\/op=.neq)->fC P t=YX)(h:aj c r x x')(k:aj c r y y'):ae P c r (do eqGuard op t o1 o2 x y;binOp op t x y) (do eqGuard op t o1 o2 x' y';binOp op t x' y') (aj c):=by by_cases he:op=.eql\/op=.neq;{have ht:=ht he;by_cases hx:(∃z,x=.agg z)\/x=.nilIface;{refine ae.never (dC (yl ht hx) λ_=>?_);have:∀f:Bool->Zs YY,kK P (Op.equal t x y>>=f):=λf=>gG (Be (P:=P) (y:=y) ht hx);rcases hx with⟨z,rfl⟩|rfl<;>rcases he with rfl|rfl<;>(cases y<;>exact this _)};(have heq:∀{r:bH},aj c r x x'->aj c r y y'->ae P c r (binOp op t x y) (binOp op t x' y') (aj c):=by intro r h k;have key:=ae.equal hc ht h k;cases h with|int k1 n1=>(cases k with|int k2 n2=>exact ae.flat (nf _ _ _ _ _ _)|_=>rcases he with rfl|rfl<;>exact ae.bind key λ_ _ _ _ e=>by subst e;exact ae.pure (.bool _))|string s1=>(cases k with|string s2=>exact ae.flat (kl _ _ _ _)|_=>rcases he with rfl|rfl<;>exact ae.bind key λ_ _ _ _ e=>by subst e;exact ae.pure (.bool _))|_=>rcases he with rfl|rfl<;>exact ae.bind key λ_ _ _ _ e=>by subst e;exact ae.pure (.bool _));exact ae.bind (ae.eqGuard (λz e=>hx (.inl ⟨z,e⟩)) (λe=>hx (.inr e)) h) λr1 _ _ h1 _=>heq (h.mono h1) (k.mono h1)};(have e0:∀x y:YY,(do eqGuard op t o1 o2 x y;binOp op t x y)=binOp op t x y:=by intro x y;cases op<;>first|rfl|exact absurd (.inl rfl) he|exact absurd (.inr rfl) he);rw[e0,e0];clear e0;by_cases hx:BL x=YX;{obtain⟨h',e,hh⟩:=zg op t x y he hx;rw[e];exact ae.halt hh};cases h with|int k1 n1=>(cases k with|int k2 n2=>exact ae.flat (nf _ _ _ _ _ _)|ptr hb=>(cases op<;>first|exact ae.unsupported|exact absurd (.inl rfl) he|exact absurd (.inr rfl) he|exact ae.movedNumber hc (.ptr hb) (.int _ _)|exact ae.bind (ae.behindNumber hb) λr1 z z' h1 hz=>ae.addrMod hc hz.1)|gj=>(cases op<;>first|exact ae.unsupported|exact absurd (.inl rfl) he|exact absurd (.inr rfl) he|exact ae.movedNumber hc .gj (.int _ _))|_=>cases op<;>first|exact ae.stuck|exact absurd (.inl rfl) he|exact absurd (.inr rfl) he)|string s1=>(cases k with|string s2=>exact ae.flat (kl _ _ _ _)|_=>cases op<;>first|exact ae.stuck|exact ae.unsupported|exact absurd (.inl rfl) he|exact absurd (.inr rfl) he)|ptr ha=>(cases k with|int k2 n2=>(cases op<;>first|exact ae.unsupported|exact absurd (.inl rfl) he|exact absurd (.inr rfl) he|exact ae.movedNumber hc (.ptr ha) (.int _ _)|exact ae.bind (ae.behindNumber ha) λr1 z z' h1 hz=>ae.addrMod hc hz.1|(refine ae.bind (ae.cI (aD t)) λr1 d d' h1 hd=>?_;subst hd;exact ae.ite (λ_=>ae.movedPointer hc (.ptr (ha.mono h1)) (.int _ _)) λ_=>ae.movedNumber hc (.ptr (ha.mono h1)) (.int _ _)))|ptr hb=>(cases op<;>first|exact ae.unsupported|exact absurd (.inl rfl) he|exact absurd (.inr rfl) he|exact ae.bind (ae.behindNumber ha) λr1 z z' h1 hz=>ae.bind (ae.behindNumber (hb.mono h1)) λr2 u u' h2 hu=>ae.addrSub hc (hz.1.mono h2) hu.1|exact ae.bind (ae.behindNumber ha) λr1 z z' h1 hz=>ae.bind (ae.behindNumber (hb.mono h1)) λr2 u u' h2 hu=>ae.addrCmp hc (hz.1.mono h2) hu.1)|_=>cases op<;>first|exact ae.stuck|exact ae.unsupported|exact absurd (.inl rfl) he|exact absurd (.inr rfl) he)|gj=>(cases k with|int k2 n2=>(cases op<;>first|exact ae.unsupported|exact absurd (.inl rfl) he|exact absurd (.inr rfl) he|exact ae.movedNumber hc .gj (.int _ _)|(refine ae.bind (ae.cI (aD t)) λr1 d d' h1 hd=>?_;subst hd;exact ae.ite (λ_=>ae.movedPointer hc .gj (.int _ _)) λ_=>ae.movedNumber hc .gj (.int _ _)))|_=>cases op<;>first|exact ae.stuck|exact ae.unsupported|exact absurd (.inl rfl) he|exact absurd (.inr rfl) he)|_=>exact absurd rfl hx
end
section
variable{c:eG}{r:bH}
theorem aX(t:Zd):bS P (λd=>P.underlying t=YU d) (underlying t):=by refine bS.bind bM λp a=>?_;subst a;cases h:p.underlying t with|none=>exact rfl|some i=>exact rfl
theorem xp(t:Zd):bS P (λn=>P.cellsOf t=n) (sizeOf t):=by refine bS.bind (jJ t) λi a=>?_;show P.cellsOf t=i.size;unfold Zf.cellsOf;grind
theorem B3(t:Zd)(h:aj c r x x'):ae P c r (Instr.loadAt t x) (Instr.loadAt t x') (aj c):=ae.bind (ae.sureAddr h) λ_ _ _ _ b=>ae.loadVar t b
theorem za(t:Zd)(h:aj c r x x')(k:aj c r y y'):ae P c r (Instr.storeAt t x y) (Instr.storeAt t x' y') λ_ _ _=>True:=ae.bind (ae.sureAddr h) λ_ _ _ b d=>ae.storeVar t d (k.mono b)
theorem EY{op:UnOp}(h:aj c r x x'):ae P c r (Op.unary op x) (Op.unary op x') (aj c):=by cases h with|bool b=>(cases op<;>first|exact ae.pure (.bool _)|exact ae.stuck)|int k n=>(cases op with|neg=>exact ae.flat (ox .sub k 0 n)|xor=>exact ae.flat (pP .xor k (if k.signed then-1 else k.max) n)|_=>exact ae.stuck)|ptr a=>(cases op<;>first|exact ae.unsupported|exact ae.stuck)|_=>cases op<;>exact ae.stuck
theorem AM(n:Nat)(h:aj c r x x'):ae P c r (Instr.extract x n) (Instr.extract x' n) (aj c):=by cases h with|tuple s e=>rename_i z f;unfold Instr.extract;(cases b:z[n]? with|none=>simp only[b];exact ae.stuck|some v=>obtain⟨g,d,k⟩:=(au.mk s e).get b;simp only[b,d];exact ae.pure k)|_=>exact ae.stuck
theorem zd(s:Zd)(n:Nat)(u:∀fs f,P.underlying s=YU (.struct fs)->fs[n]?=YU f->P.cellsOf f.type≠0)(h:aj c r x x'):ae P c r (Instr.fieldAt s x n) (Instr.fieldAt s x' n) (aj c):=by refine ae.bind (ae.fe (aX s)) λz d k l e=>?_;obtain⟨rfl,e⟩:=e;cases k with|struct fs=>simp only[];(cases t:fs[n]? with|none=>exact ae.stuck|some f=>refine ae.bind (ae.sureAddr (h.mono l)) λv a j w p=>?_;(have i:ae P c v (fieldPlace a f) (fieldPlace j f) (di c):=by refine ae.bind (ae.fe (xp f.type)) λA m y o g=>?_;obtain⟨rfl,g⟩:=g;have:=u fs f e t;rw[g]at this;rw[if_neg this,if_neg this];exact ae.pure ((p.mono o).add _));exact ae.bind i λ_ _ _ _ q=>ae.pure (.ptr q))|_=>exact ae.stuck
theorem Ft(t:Zd)(n:Nat)(h:aj c r x x'):ae P c r (Instr.field t x n) (Instr.field t x' n) (aj c):=by refine ae.bind (ae.cI (aD t)) λl d b g j=>?_;subst j;cases b with|struct e=>simp only[];(cases k:e[n]? with|none=>exact ae.stuck|some f=>exact ae.bind (ae.asAgg (h.mono g)) λ_ _ _ _ i=>ae.part _ _ i)|_=>exact ae.stuck
theorem Fz(t:Zd)(h:aj c r x x')(k:aj c r y y'):ae P c r (Instr.index t x y) (Instr.index t x' y') (aj c):=by refine ae.bind (ae.asIntOf k) λB z v j q=>?_;subst q;obtain⟨w,i⟩:=v;refine ae.bind (ae.cI (aD t)) λC d g l o=>?_;subst o;have h:=(h.mono j).mono l;cases h with|agg s e=>(cases g with|array u f=>refine ae.ite (λ_=>?_) λ_=>ae.boundsPanic;exact ae.bind (ae.cI (br f)) λD m A n p=>by subst p;exact ae.part _ _ ((au.mk s e).mono n)|_=>exact ae.stuck)|string s=>(cases g with|string=>simp only[];(cases(if 0<=i then s[i.toNat]? else Y1)with|none=>exact ae.boundsPanic|some b=>exact ae.pure (.int _ _))|_=>exact ae.stuck)|_=>cases g<;>exact ae.stuck
theorem zl(t:Zd)(h:aj c r x x')(k:aj c r y y'):ae P c r (Instr.indexAt t x y) (Instr.indexAt t x' y') (aj c):=by unfold Instr.indexAt;refine ae.bind (ae.asIntOf k) λY z V N T=>?_;subst T;obtain⟨X,i⟩:=V;refine ae.bind (ae.cI (aD t)) λZ d M O R=>?_;subst R;have h:=(h.mono N).mono O;let F(U:bH)(a b:Option ZA×Nat×Zd):Prop:=aj c U (.pointer a.1) (.pointer b.1)/\b.2=a.2;cases M with|array B f=>refine ae.bind (ae.sureAddr h) λr3 a I W v=>ae.bind (Q:=F) (ae.pure ⟨.ptr v,rfl⟩) λC a b s q=>?_;obtain⟨w,B,f⟩:=a;obtain⟨o,l⟩:=b;obtain⟨g,e⟩:=q;simp only at e g;subst e;refine ae.bind (ae.cI (x:=underlying t) (aD t)) λC u H s A=>?_;subst A;have g:=g.mono s;(cases g with|gj=>exact ae.boundsPanic|ptr v=>refine ae.ite (λ_=>?_) λ_=>?_;{exact ae.bind (ae.cI (br f)) λL m J D E=>by subst E;exact ae.pure (.ptr ((v.mono D).add _))};exact ae.ite (λ_ _ _ _=>rfl) λ_=>ae.boundsPanic)|slice f=>(cases h with|iu n m=>refine ae.bind (Q:=F) (ae.pure ⟨.gj,rfl⟩) λC a b s q=>?_;obtain⟨w,B,f⟩:=a;obtain⟨o,l⟩:=b;obtain⟨g,e⟩:=q;simp only at e g;subst e;refine ae.bind (ae.cI (x:=underlying t) (aD t)) λC u H s A=>?_;subst A;have g:=g.mono s;(cases g with|gj=>exact ae.boundsPanic|ptr v=>refine ae.ite (λ_=>?_) λ_=>?_;{exact ae.bind (ae.cI (br f)) λL m J D E=>by subst E;exact ae.pure (.ptr ((v.mono D).add _))};exact ae.ite (λ_ _ _ _=>rfl) λ_=>ae.boundsPanic)|slice n m v=>refine ae.bind (Q:=F) (ae.pure ⟨.ptr v,rfl⟩) λC a b s q=>?_;obtain⟨w,B,f⟩:=a;obtain⟨o,l⟩:=b;obtain⟨g,e⟩:=q;simp only at e g;subst e;refine ae.bind (ae.cI (x:=underlying t) (aD t)) λC u H s A=>?_;subst A;have g:=g.mono s;(cases g with|gj=>exact ae.boundsPanic|ptr v=>refine ae.ite (λ_=>?_) λ_=>?_;{exact ae.bind (ae.cI (br f)) λL m J D E=>by subst E;exact ae.pure (.ptr ((v.mono D).add _))};exact ae.ite (λ_ _ _ _=>rfl) λ_=>ae.boundsPanic)|cW a I=>refine ae.bind (Q:=λ_ p K=>p=(YU a,0,f)/\K=(YU I,0,f)) (ae.pure ⟨rfl,rfl⟩) λC p K s S=>?_;obtain⟨rfl,rfl⟩:=S;refine ae.bind (ae.cI (x:=underlying t) (aD t)) λC u H s A=>?_;subst A;refine ae.ite (λG=>?_) λ_=>ae.ite (λ_ _ _ _=>rfl) λ_=>ae.boundsPanic;simp at G;omega|_=>exactλ_ _ _=>rfl)|_=>cases h<;>exactλ_ _ _=>rfl
theorem ye{fn:Fn}(b:IK c fn=YX){x x' y y':Array YY}(h:au c r x x')(k:au c r y y'):ae P c r (Instr.makeFunc fn x y) (Instr.makeFunc fn x' y') (aj c):=ae.pure (.func b h.size h.el k.size k.el)
theorem ae.sliceBound(y:Nat)(e:BoundsCode)(h:aj c r x x'):ae P c r (Instr.sliceBound x y e) (Instr.sliceBound x' y e) λ_ a b=>b=a/\a<=y:=by refine ae.bind (ae.asIntOf h) λj z k g f=>?_;subst f;exact ae.ite (λi=>ae.pure ⟨rfl,by omega⟩) λ_=>ae.boundsPanic
def kh(c:eG)(r:bH):Option YY->Option YY->Prop
 |none,Y1=>True
 |some x,YU y=>aj c r x y
 |_,_=>False
theorem kh.mono{r r':bH}(h:r.le r'):∀{x y:Option YY},kh c r x y->kh c r' x y|none,Y1,_=>trivial|some _,YU _,k=>aj.mono h k
theorem ae.sliceBounds(f:Bool)(k j:Nat){mx:Option YY}(i:kh c r lo lo')(m:kh c r hi hi')(s:kh c r mx mx'):ae P c r (Instr.sliceBounds f k j lo hi mx) (Instr.sliceBounds f k j lo' hi' mx') λ_ a b=>b=a/\(k=0->j=0->a=(0,0,0)):=by match mx,mx',s with|none,Y1,_=>refine ae.bind (Q:=λ_ a b=>b=a/\a<=_) (ae.pure ⟨rfl,V8 _⟩) λy z h l e=>?_;obtain⟨rfl,x⟩:=e;(match hi,hi',m with|none,Y1,_=>refine ae.bind (Q:=λ_ a b=>b=a/\a<=_) (ae.pure ⟨rfl,V8 _⟩) λv z h o e=>?_;obtain⟨rfl,u⟩:=e;(match lo,lo',i with|none,Y1,_=>refine ae.bind (Q:=λ_ a b=>b=a/\a<=_) (ae.pure ⟨rfl,V8 _⟩) λq z h p e=>?_;obtain⟨rfl,n⟩:=e;exact ae.pure ⟨rfl,λa b=>by simp_all⟩|some a,YU t,i=>refine ae.bind (ae.sliceBound _ _ (aj.mono o (aj.mono l i))) λq z h p e=>?_;obtain⟨rfl,n⟩:=e;exact ae.pure ⟨rfl,λa b=>by simp_all⟩)|some b,YU w,m=>refine ae.bind (ae.sliceBound _ _ (aj.mono l m)) λv z h o e=>?_;obtain⟨rfl,u⟩:=e;match lo,lo',i with|none,Y1,_=>refine ae.bind (Q:=λ_ a b=>b=a/\a<=_) (ae.pure ⟨rfl,V8 _⟩) λq z h p e=>?_;obtain⟨rfl,n⟩:=e;exact ae.pure ⟨rfl,λa b=>by simp_all⟩|some a,YU t,i=>refine ae.bind (ae.sliceBound _ _ (aj.mono o (aj.mono l i))) λq z h p e=>?_;obtain⟨rfl,n⟩:=e;exact ae.pure ⟨rfl,λa b=>by simp_all⟩)|some d,YU A,s=>refine ae.bind (ae.sliceBound _ _ s) λy z h l e=>?_;obtain⟨rfl,x⟩:=e;match hi,hi',m with|none,Y1,_=>exactλ_ _ _=>rfl|some b,YU w,m=>refine ae.bind (ae.sliceBound _ _ (aj.mono l m)) λv z h o e=>?_;obtain⟨rfl,u⟩:=e;match lo,lo',i with|none,Y1,_=>refine ae.bind (Q:=λ_ a b=>b=a/\a<=_) (ae.pure ⟨rfl,V8 _⟩) λq z h p e=>?_;obtain⟨rfl,n⟩:=e;exact ae.pure ⟨rfl,λa b=>by simp_all⟩|some a,YU t,i=>refine ae.bind (ae.sliceBound _ _ (aj.mono o (aj.mono l i))) λq z h p e=>?_;obtain⟨rfl,n⟩:=e;exact ae.pure ⟨rfl,λa b=>by simp_all⟩
theorem EI(t:Zd){mx:Option YY}(h:aj c r x x')(k:kh c r lo lo')(o:kh c r hi hi')(p:kh c r mx mx'):ae P c r (Instr.slice t x lo hi mx) (Instr.slice t x' lo' hi' mx') (aj c):=by unfold Instr.slice;refine ae.bind (ae.cI (aD t)) λK d y v A=>?_;subst A;have h:=h.mono v;have k:=k.mono v;have o:=o.mono v;have p:=p.mono v;(have J:mx'.isSome=mx.isSome:=by match mx,mx',p with|none,Y1,_=>rfl|some _,YU _,_=>rfl);cases y with|string=>(cases h with|string s=>simp only[J];refine ae.ite (λ_ _ _ _=>rfl) λ_=>?_;exact ae.bind (ae.sliceBounds _ _ _ k o (show kh c K Y1 Y1 from trivial)) λ_ _ _ _ e=>by obtain⟨rfl,_⟩:=e;exact ae.pure (.string _)|_=>exact ae.stuck)|slice b=>(cases h with|iu n m=>refine ae.bind (ae.sliceBounds _ _ _ k o p) λC z u j e=>?_;obtain⟨rfl,_⟩:=e;refine ae.bind (ae.cI (br b)) λD q B i e=>?_;subst e;refine ae.pure ?_;split<;>exact .iu _ _|slice n m g=>refine ae.bind (ae.sliceBounds _ _ _ k o p) λC z u j e=>?_;obtain⟨rfl,_⟩:=e;refine ae.bind (ae.cI (br b)) λD q B i e=>?_;subst e;refine ae.pure ?_;have g:=(g.mono j).mono i;split;{exact .slice _ _ g};exact .slice _ _ (g.add _)|cW a G=>refine ae.bind (ae.sliceBounds _ _ _ k o p) λC z u j e=>?_;obtain⟨rfl,e⟩:=e;obtain rfl:=e rfl rfl;refine ae.bind (ae.cI (br b)) λD q B i e=>?_;subst e;refine ae.pure ?_;split<;>exact .cW _ _|_=>exact ae.stuck)|pointer w=>refine ae.bind (ae.asAddr h) λC a G j g=>?_;refine ae.bind (ae.cI (aD w)) λD d y i A=>?_;subst A;(cases y with|array n b=>refine ae.bind (ae.sliceBounds _ _ _ ((k.mono j).mono i) ((o.mono j).mono i) ((p.mono j).mono i)) λL z u H e=>?_;obtain⟨rfl,_⟩:=e;refine ae.bind (ae.cI (br b)) λM q B I e=>?_;obtain⟨rfl,_⟩:=e;refine ae.pure ?_;have g:=((g.mono i).mono H).mono I;split;{exact .slice _ _ g};exact .slice _ _ (g.add _)|_=>exact ae.stuck)|_=>cases h<;>exact ae.stuck
theorem AB(t:Zd){mx:Option YY}(h:aj c r x x')(m:kh c r lo lo')(o:kh c r hi hi')(p:kh c r mx mx'):ae P c r (Instr.sliceAt t x lo hi mx) (Instr.sliceAt t x' lo' hi' mx') (aj c):=by refine ae.bind (ae.cI (aD t)) λE d s f w=>?_;subst w;have k:=EI (P:=P) t (h.mono f) (m.mono f) (o.mono f) (p.mono f);cases s with|array n g=>refine ae.bind (ae.sureAddr (h.mono f)) λF a A j i=>?_;refine ae.bind (ae.sliceBounds _ _ _ ((m.mono f).mono j) ((o.mono f).mono j) ((p.mono f).mono j)) λG z y u e=>?_;obtain⟨rfl,_⟩:=e;refine ae.bind (ae.cI (br g)) λH q D v e=>?_;subst e;refine ae.pure ?_;have i:=(i.mono u).mono v;split;{exact .slice _ _ i};exact .slice _ _ (i.add _)|_=>exact k
end
section
variable{c:eG}{r:bH}
def jQ(P:Zf)(t:Zd):Bool:=match(P.info? t).bind (·.zero)with|some z=>jU 100 z|none=>YX
theorem wi(h:jQ P t=YX):∀z,(P.info? t).bind (·.zero)=YU z->Flat z:=λz a=>by unfold jQ at h;rw[a]at h;exact iD h
theorem Flat.vs(h:Flat z)(c:eG)(r:bH):au c r z.cells z.cells:=au.cells (h c r)
theorem ae.zero(h:jQ P t=YX):ae P c r (zeroValue t) (zeroValue t) λ_ a b=>b=a/\Flat a:=ae.fe (uJ t (wi h))
theorem BJ(h:jQ P t=YX):ae P c r (Instr.alloc t YX (.tuple #[])) (Instr.alloc t YX (.tuple #[])) (aj c):=EJ t (wi h)
structure CS(c:eG)(r:bH)(x x':Array (Nat×YY)):Prop where
 idx:x.toList.map (·.1)=x'.toList.map (·.1)
 val:au c r (x.toList.map (·.2)).toArray (x'.toList.map (·.2)).toArray
theorem CS.mono{r r':bH}(h:r.le r'){x x':Array (Nat×YY)}(k:CS c r x x'):CS c r' x x':=⟨k.idx,k.val.mono h⟩
theorem lR(a:Nat->Option (Nat×Nat)){x x':Array (Nat×YY)}(h:CS c r x x'){z z':Array YY}(e:au c r z z'):Instr.fill a z x.toList=Option.none\/∃y d,Instr.fill a z x.toList=YU y/\Instr.fill a z' x'.toList=YU d/\au c r y d:=by have:=At a x.toList x'.toList e h.idx h.val;grind
theorem E2(l:List ε)(f:ε->Zs ζ)(h:∀x∈l,lA P (f x)):lA P (l.mapM f):=by induction l with|nil=>trivial|cons x l b=>rw[List.mapM_cons];exact(h x Θ).bind λ_=>(b λy a=>h y (by simp[a])).bind λ_=>trivial
theorem BF(l:Array ε)(f:ε->Zs ζ)(h:∀x∈l,lA P (f x)):lA P (l.mapM f):=by rw[Array.mapM_eq_mapM_toList];exact lA.bind (E2 _ _ λx a=>h x (by simp_all)) λ_=>trivial
theorem Fu(B:jQ P t=YX){x x':Array (Nat×YY)}(h:CS c r x x'):ae P c r (Instr.build t x) (Instr.build t x') (aj c):=by unfold Instr.build;refine ae.bind (ae.zero B) λD z F q g=>?_;obtain⟨rfl,g⟩:=g;refine ae.bind (ae.cI (aD t)) λE d v s A=>?_;subst A;cases v with|struct w=>refine ae.bind (ae.cI (BF w _ λf _=>(br f.type).bind λ_=>trivial)) λp u j m o=>?_;subst o;rcases lR (j[·]?) (((h.mono q).mono s).mono m) (g.vs c p)with e|⟨y,C,e,l,k⟩;{simp only[e];exact ae.stuck};simp only[e,l];exact ae.pure (.uM k)|array n b=>refine ae.bind (ae.cI (br b)) λp u j m o=>?_;subst o;rcases lR (λi=>YU (i*j,j)) (((h.mono q).mono s).mono m) (g.vs c p)with e|⟨y,C,e,l,k⟩;{simp only[e];exact ae.stuck};simp only[e,l];exact ae.pure (.uM k)|_=>exact ae.stuck
theorem au.range{x x':Array YY}(h:au c r x x')(n:Nat):au c r ((Array.range n).map (x[·%x.size]!)) ((Array.range n).map (x'[·%x'.size]!)):=by refine au.map _ _ _ λi _=>?_;rw[<-h.size];rw[Y0,Y0];exact h.getD _ (by exact .bool YT)
theorem uD(E:∀e,P.underlying t=YU (.slice e)->jQ P e=YX){x x':Array (Nat×YY)}(h:CS c r x x'):ae P c r (Instr.buildSlice t n x) (Instr.buildSlice t n x') (aj c):=by unfold Instr.buildSlice;refine ae.bind (ae.fe (aX t)) λH d B u s=>?_;obtain⟨rfl,s⟩:=s;cases B with|slice l=>refine ae.bind (ae.cI (br l)) λI m j v D=>?_;subst D;refine ae.ite (λ_ _ _ _=>rfl) λ_=>?_;refine ae.ite (λ_=>?_) λ_=>?_;{refine ae.bind (Q:=λ_ a b=>b=a/\∀r,au c r a a) (ae.pure ⟨rfl,λ_=>.empty⟩) λw z A p g=>?_;obtain⟨rfl,g⟩:=g;rcases lR (λi=>YU (i*j,j)) (((h.mono u).mono v).mono p) (au.range (g w) (n*j))with e|⟨y,G,e,o,k⟩;{simp only[e];exact ae.stuck};simp only[e,o];exact ae.bind (ae.newRow k) λ_ _ _ _ q=>ae.pure (.slice _ _ q)};refine ae.bind (ae.zero (E _ s)) λw z A p g=>?_;obtain⟨rfl,g⟩:=g;refine ae.bind (Q:=λ_ a b=>b=a/\∀r,au c r a a) (ae.pure ⟨rfl,λr=>g.vs c r⟩) λF z A C g=>?_;obtain⟨rfl,g⟩:=g;rcases lR (λi=>YU (i*j,j)) (((h.mono u).mono v).mono (bH.le_trans p C)) (au.range (g F) (n*j))with e|⟨y,G,e,o,k⟩;{simp only[e];exact ae.stuck};simp only[e,o];exact ae.bind (ae.newRow k) λ_ _ _ _ q=>ae.pure (.slice _ _ q)|_=>exact ae.stuck
theorem zT:ae P c r (Instr.makeMap t Y1) (Instr.makeMap t Y1) (aj c):=ae.bind (ae.newObj (.map 0 rfl λi e b h=>by simp at h)) λ_ _ _ _ h=>ae.pure (.map h.1)
theorem ae.nC{f:α->Zs β}{y:Zs γ}{Q:bH->β->γ->Prop}:ae P c r (Go.runtimePanic e>>=f) y Q:=ae.never (gG (dw e))
theorem vE(C:∀e,P.underlying t=YU (.slice e)->jQ P e=YX)(h:aj c r x x')(k:aj c r y y'):ae P c r (Instr.makeSlice t x y) (Instr.makeSlice t x' y') (aj c):=by unfold Instr.makeSlice;refine ae.bind (ae.fe (aX t)) λN d s o m=>?_;obtain⟨rfl,m⟩:=m;cases s with|slice j=>refine ae.bind (ae.asInt (h.mono o)) λO a E u l=>?_;subst l;refine ae.bind (ae.asInt ((k.mono o).mono u)) λR b F G w=>?_;subst w;refine ae.bind (ae.cI (dq j)) λS i L H A=>?_;subst A;simp only[];refine ae.ite (λ_=>?_) λ_=>?_;{refine ae.ite (λ_=>ae.nC) λ_=>?_;refine ae.ite (λ_=>ae.nC) λ_=>?_;exact ae.bind (ae.cI (iG _)) λ_ _ _ _ _=>ae.nC};refine ae.bind (ae.cI (p7 _)) λT _ _ I _=>?_;refine ae.bind (ae.cI (br j)) λU n M J B=>?_;subst B;refine ae.ite (λ_=>?_) λ_=>?_;{refine ae.bind (Q:=λ_ a b=>b=a/\∀r,au c r a a) (ae.pure ⟨rfl,λ_=>.empty⟩) λp z q v g=>?_;obtain⟨rfl,g⟩:=g;exact ae.bind (ae.newRow (au.range (g p) _)) λ_ _ _ _ l=>ae.pure (.slice _ _ l)};refine ae.bind (ae.zero (C _ m)) λp z q v g=>?_;obtain⟨rfl,g⟩:=g;refine ae.bind (Q:=λ_ a b=>b=a/\∀r,au c r a a) (ae.pure ⟨rfl,λr=>g.vs c r⟩) λD z q K g=>?_;obtain⟨rfl,g⟩:=g;exact ae.bind (ae.newRow (au.range (g D) _)) λ_ _ _ _ l=>ae.pure (.slice _ _ l)|_=>exact ae.stuck
end
section
variable{c:eG}{r:bH}
theorem MG(ats:Array Zd)(t:Zd){x x':Array YY}(h:au c r x x'):ae P c r (Zn.len_ ats t x) (Zn.len_ ats t x') (aj c):=by unfold Zn.len_;cases ats[0]? with|none=>exact ae.stuck|some s=>cases w:x[0]? with|none=>exact ae.stuck|some v=>obtain⟨D,e,k⟩:=h.get w;simp only[e];refine ae.bind (ae.cI (aD s)) λB d g i j=>?_;subst j;have k:=k.mono i;cases g with|string=>(cases k<;>first|exact ae.pure (.int _ _)|exact ae.stuck)|array n e=>exact ae.pure (.int _ _)|pointer f=>refine ae.bind (ae.cI (aD f)) λC u y z q=>?_;subst q;(cases y<;>first|exact ae.pure (.int _ _)|exact ae.stuck)|slice e=>(cases k<;>first|exact ae.pure (.int _ _)|exact ae.stuck)|map a b=>(cases k with|kQ=>exact ae.pure (.int _ _)|map p=>refine ae.getObj p λo A _ m l=>?_;(cases m with|map k s _=>simp only[s];exact ae.pure (.int _ _)|cells _ _ _=>exact absurd rfl (l _ _ _)|_=>exact ae.stuck)|_=>exact ae.stuck)|chan a b=>cases k<;>exact ae.stuck|_=>exact ae.stuck
theorem ae.max2(h:aj c r x x')(k:aj c r y y'):ae P c r (Zn.max2 x y) (Zn.max2 x' y') (aj c):=by cases h with|int a b=>(cases k<;>first|exact ae.pure (.int _ _)|exact ae.stuck|exact ae.unsupported)|string a=>(cases k with|string b=>refine ae.bind (ae.flat (kI .geq a b)) λi u l f d=>?_;exact ae.bind (ae.asBool d) λj z m g e=>by subst e;exact ae.pure (.string _)|ptr _=>exact ae.unsupported|_=>exact ae.stuck)|ptr _=>exact ae.unsupported|_=>cases k<;>first|exact ae.stuck|exact ae.unsupported
theorem ae.min2(h:aj c r x x')(k:aj c r y y'):ae P c r (Zn.min2 x y) (Zn.min2 x' y') (aj c):=by cases h with|int a b=>(cases k<;>first|exact ae.pure (.int _ _)|exact ae.stuck|exact ae.unsupported)|string a=>(cases k with|string b=>refine ae.bind (ae.flat (kI .leq a b)) λi u l f d=>?_;exact ae.bind (ae.asBool d) λj z m g e=>by subst e;exact ae.pure (.string _)|ptr _=>exact ae.unsupported|_=>exact ae.stuck)|ptr _=>exact ae.unsupported|_=>cases k<;>first|exact ae.stuck|exact ae.unsupported
theorem ae.foldlM{f:YY->YY->Zs YY}(g:∀{r:bH}{x x' y y':YY},aj c r x x'->aj c r y y'->ae P c r (f x y) (f x' y') (aj c)):∀(l e:List YY){r:bH}{x x':YY},aj c r x x'->au c r l.toArray e.toArray->ae P c r (l.foldlM f x) (e.foldlM f x') (aj c)|[],[],r,x,x',h,_=>ae.pure h|[],_::_,r,x,x',h,d=>by have:=d.size;grind|_::_,[],r,x,x',h,d=>by have:=d.size;grind|y::l,y'::e,r,x,x',h,d=>by rw[Yy,Yy];refine ae.bind (g h (d.el 0 y y' Θ Θ)) λn z o i k=>?_;exact ae.foldlM g l e k ((⟨by have:=d.size;simp_all,λj u m a b=>d.el (j+1) u m (by grind) (by grind)⟩:au c r l.toArray e.toArray).mono i)
theorem M1(ats:Array Zd)(t:Zd){x x':Array YY}(h:au c r x x'):ae P c r (Zn.max_ ats t x) (Zn.max_ ats t x') (aj c):=by obtain⟨l⟩:=x;obtain⟨d⟩:=x';unfold Zn.max_;match l,d,h with|[],[],_=>exact ae.stuck|[],_::_,h=>have:=h.size;grind|_::_,[],h=>have:=h.size;grind|y::l,f::d,h=>exact ae.foldlM ae.max2 l d (h.el 0 y f Θ Θ) ⟨by have:=h.size;simp_all,λj u e a b=>h.el (j+1) u e (by grind) (by grind)⟩
theorem L6(ats:Array Zd)(t:Zd){x x':Array YY}(h:au c r x x'):ae P c r (Zn.min_ ats t x) (Zn.min_ ats t x') (aj c):=by obtain⟨l⟩:=x;obtain⟨d⟩:=x';unfold Zn.min_;match l,d,h with|[],[],_=>exact ae.stuck|[],_::_,h=>have:=h.size;grind|_::_,[],h=>have:=h.size;grind|y::l,f::d,h=>exact ae.foldlM ae.min2 l d (h.el 0 y f Θ Θ) ⟨by have:=h.size;simp_all,λj u e a b=>h.el (j+1) u e (by grind) (by grind)⟩
theorem ae.lenOf(h:aj c r x x'):ae P c r (Zn.lenOf x) (Zn.lenOf x') λ_ a b=>b=a/\∀q,x=.slice (YU q) 0 0->a=0:=by cases h<;>first|exact ae.pure ⟨rfl,λq e=>by cases e;rfl⟩|exact ae.pure ⟨rfl,λq e=>by cases e⟩|exact ae.stuck
theorem ae.vU(size:Nat)(h:aj c r x x'):ae P c r (Zn.firstCells size 0 x) (Zn.firstCells size 0 x') λ_ a b=>a=#[]/\b=#[]:=by unfold Zn.firstCells;rw[Nat.zero_mul];cases h<;>first|exact ae.pure ⟨rfl,rfl⟩|exact ae.stuck|(refine ae.pure ⟨?_,?_⟩<;>simp)
theorem ae.firstCells(size n:Nat)(h:aj c r x x')(j:∀q,x=.slice (YU q) 0 0->n=0):ae P c r (Zn.firstCells size n x) (Zn.firstCells size n x') (au c):=by cases h with|iu _ _=>exact ae.pure .empty|cW a d=>obtain rfl:=j a rfl;exact(ae.vU size (.cW a d)).mono λ_ x y _⟨e,f⟩=>by rw[e,f];exact .empty|slice _ _ g=>exact ae.loadCells g _|string s=>refine ae.pure ?_;refine⟨rfl,λi v k a b=>?_⟩;rw[a]at b;cases b;rw[Xw]at a;obtain⟨z,_,rfl⟩:=Wh.1 a;exact .int _ _|_=>exact ae.stuck
theorem au.zeroCells(h:Flat z)(n:Nat):au c r (Zn.zeroCells z.cells n) (Zn.zeroCells z.cells n):=by unfold Zn.zeroCells;exact au.range (h.vs c r) _
end
section
variable{c:eG}{r:bH}
theorem ae.GP{x:Zs α}{f:α->Zs β}{y:Zs γ}{Q:bH->β->γ->Prop}(h:kK P x):ae P c r (x>>=f) y Q:=ae.never (gG h)
theorem lY(a:ZA)(n:Nat):gw P (Zn.holdsCells a n):=(CI _).bind λs=>by cases s<;>exact dr _
theorem vN(size sl n:Nat)(base:Option ZA)(x:YY):gw P (Zn.mayShare size sl n base x):=by(have d:∀b:Bool,gw P (if(!b)=YX then Pure.pure YX else match x with|.slice (YU b) _ _=>(do Pure.pure (!(<-Zn.holdsCells b (n*size))||base.any (·.block==b.block)))|_=>Pure.pure YT):=λb=>by split;{exact dr _};split;{exact(lY _ _).bind λ_=>dr _};exact dr _);unfold Zn.mayShare;cases base with|none=>grind|some a=>exact gw.bind (lY _ _) λu=>gw.bind (A8 _) λv=>gw.bind (dr _) λb=>d b
theorem CK{ats:Array Zd}(ht:∀s e,ats[0]?=YU s->P.underlying s=YU (.slice e)->jQ P e=YX)(hn:∀s k,ats[1]?=YU s->P.underlying s≠YU (.int k)){x x':Array YY}(h:au c r x x'):ae P c r (Zn.append_ ats t x) (Zn.append_ ats t x') (aj c):=by unfold Zn.append_;cases hs:ats[0]? with|none=>exact ae.stuck|some s=>cases hx:x[0]? with|none=>exact ae.stuck|some v=>obtain⟨v',X,kv⟩:=h.get hx;simp only[X];cases hy:x[1]? with|none=>exact ae.stuck|some u=>obtain⟨u',W,A⟩:=h.get hy;simp only[W];refine ae.bind (ae.fe (aX s)) λR d M l H=>?_;obtain⟨rfl,H⟩:=H;cases M with|slice f=>have hz:=ht s f hs H;have O:=kv.mono l;have kx:=O;cases O;(case iu|slice|cW=>refine ae.bind (ae.cI (br f)) λr2 T K B e=>?_;subst e;cases Z:ats[1]?;(case' some xt=>refine ae.bind (ae.fe (aX xt)) λr0 d M Y w=>?_;obtain⟨rfl,w⟩:=w;replace B:=bH.le_trans B Y);all_goals refine ae.bind (Q:=λ_ a b=>b=a/\a=YT) (ae.pure ⟨rfl,by first|rfl|grind⟩) λr3 zs zs' N e=>?_;obtain⟨rfl,rfl⟩:=e;refine ae.bind (ae.lenOf ((A.mono l).mono (bH.le_trans B N))) λr4 n n' h4 e=>?_;obtain⟨rfl,E⟩:=e;have j:R.le r4:=bH.le_trans (bH.le_trans B N) h4;refine ae.ite (λI=>?_) λ_=>?_;{first|exact ae.bind (ae.firstCells _ _ ((A.mono l).mono j) E) λJ z V m g=>ae.pure (.iu _ _)|exact ae.bind (ae.firstCells _ _ ((A.mono l).mono j) E) λJ z V m g=>ae.bind (ae.storeCells 0 ((di.mono (bH.le_trans j m) (by assumption)).add _) (by omega)) λS _ _ C _=>ae.pure (.slice _ _ (di.mono (bH.le_trans j (bH.le_trans m C)) (by assumption)))|(obtain rfl:n'=0:=by omega);refine ae.bind (ae.vU _ ((A.mono l).mono j)) λJ z V m g=>?_;obtain⟨rfl,rfl⟩:=g;exact ae.bind (Q:=λ_ _ _=>True) (ae.pure trivial) λS _ _ C _=>ae.pure (.cW _ _)};·refine ae.bind (ae.cI (dq f)) λJ i i' m e=>?_;subst e;refine ae.ite (λ_=>ae.nC) λ_=>?_;refine ae.bind (ae.cI (dq f)) λS i2 i2' C e=>?_;subst e;refine ae.ite (λ_=>ae.GP (by simp only[WQ,if_false];exact dC (vN _ _ _ _ _) λ_=>by split<;>first|exact eL|exact dC (λ_ _ _ e=>by cases e) λ_=>eL)) λ_=>?_;refine ae.bind (ae.cI (iG _)) λr7 nc nc' h7 e=>?_;subst e;refine ae.bind (ae.cI (dq f)) λr8 i3 i3' h8 e=>?_;subst e;refine ae.bind (ae.cI (p7 _)) λr9 _ _ h9 _=>?_;have y:R.le r9:=bH.le_trans j (bH.le_trans m (bH.le_trans C (bH.le_trans h7 (bH.le_trans h8 h9))));refine ae.bind (ae.firstCells _ _ (kx.mono y) (λq e=>by first|rfl|(cases e;done)|grind)) λr10 o o' F ho=>?_;refine ae.bind (ae.firstCells _ _ ((A.mono l).mono (bH.le_trans y F)) E) λr11 q q' G hq=>?_;refine ae.bind (ae.zero hz) λr12 zz zz' p g=>?_;obtain⟨rfl,g⟩:=g;exact ae.bind (ae.newRow ((((ho.mono G).mono p).append (hq.mono p)).append (au.zeroCells g _))) λ_ _ _ _ ha=>ae.pure (.slice _ _ ha));all_goals exact ae.stuck|_=>exact ae.stuck
theorem ae.checkKey(b g:Bool)(f:fC P t=YX)(n:Nat):ae P c r (Instr.checkKey b (n+1) t x) (Instr.checkKey g (n+1) t x') λ_ _ _=>True:=by refine ae.bind (ae.fe (aX t)) λj d h i e=>?_;obtain⟨rfl,e⟩:=e;unfold fC at f;rw[e]at f;cases h with|int k=>exact ae.pure trivial|string=>exact ae.pure trivial|bool=>exact ae.pure trivial|_=>simp at f
theorem AN(d:TypeDesc)(h:aj c r x x')(k:aj c r y y'):Instr.sameNow d x' y'=Instr.sameNow d x y:=by cases h<;>cases k<;>first|rfl|(cases d<;>rfl)
def mg(c:eG)(r:bH)(x x':Array ZO):Prop:=x.size=x'.size/\∀(i:Nat)(e e':ZO),x[i]?=YU e->x'[i]?=YU e'->Iy c r e e'
theorem mg.mono{r r':bH}(h:r.le r'){x x':Array ZO}(k:mg c r x x'):mg c r' x x':=⟨k.1,λi e d a b=>(k.2 i e d a b).mono h⟩
def MO(c:eG)(r:bH):Option (Nat×YY)->Option (Nat×YY)->Prop
 |none,Y1=>True
 |some (i,v),YU (i',v')=>i'=i/\aj c r v v'
 |_,_=>False
theorem rG(d:TypeDesc)(h:aj c r x x'):∀(l m:List ZO)(i:Nat),mg c r l.toArray m.toArray->
 match Instr.findNow d x l i with|some z=>∃p,Instr.findNow d x' m i=YU p/\MO c r z p|none=>Instr.findNow d x' m i=Y1
 |[],[],i,_=>⟨Y1,rfl,trivial⟩
 |[],_::_,_,k=>by have:=k.1;grind
 |_::_,[],_,k=>by have:=k.1;grind
 |e::l,q::m,i,k=>by
   have o:=k.2 0 e q Θ Θ
   have n:mg c r l.toArray m.toArray:=⟨by have:=k.1;simp_all,λj u s a b=>k.2 (j+1) u s (by grind) (by grind)⟩
   unfold Instr.findNow
   rw[AN d h o.key]
   cases Instr.sameNow d x e.key with
   |none=>rfl
   |some b=>
     cases b with
     |true=>exact⟨_,rfl,rfl,o.val⟩
     |false=>exact rG d h l m (i+1) n
theorem ae.findAsking(n:Fits P c)(p:fC P t=YX):∀(l g:List ZO)(i:Nat){r:bH}{x x':YY},aj c r x x'->mg c r l.toArray g.toArray->ae P c r (Instr.findAsking t x l i) (Instr.findAsking t x' g i) (MO c)|[],[],i,r,x,x',h,_=>ae.pure trivial|[],_::_,_,r,x,x',h,f=>by have:=f.1;grind|_::_,[],_,r,x,x',h,f=>by have:=f.1;grind|e::l,q::g,i,r,x,x',h,f=>by have o:=f.2 0 e q Θ Θ;have m:mg c r l.toArray g.toArray:=⟨by have:=f.1;simp_all,λj u v a b=>f.2 (j+1) u v (by grind) (by grind)⟩;refine ae.bind (ae.equal n p h o.key) λy b w k s=>?_;subst s;exact ae.ite (λ_=>ae.pure ⟨rfl,o.val.mono k⟩) λ_=>ae.findAsking n p l g (i+1) (h.mono k) (m.mono k)
theorem ae.findKey(j:Fits P c)(n:fC P t=YX){l l':List ZO}(h:aj c r x x')(g:mg c r l.toArray l'.toArray):ae P c r (Instr.findKey t x l) (Instr.findKey t x' l') (MO c):=by refine ae.bind (ae.cI (aD t)) λo d f b m=>?_;subst m;have:=rG f (h.mono b) l l' 0 (g.mono b);cases e:Instr.findNow f x l 0 with|none=>rw[e]at this;simp only[this];exact ae.findAsking j n l l' 0 (h.mono b) (g.mono b)|some z=>rw[e]at this;obtain⟨p,i,k⟩:=this;simp only[i];exact ae.pure k
theorem CP{ok:Bool}(O:Fits P c)(Z:∀k e,P.underlying t=YU (.map k e)->fC P k=YX/\jQ P e=YX)(h:aj c r x x')(k:aj c r y y'):ae P c r (Instr.lookup t x y ok) (Instr.lookup t x' y' ok) (aj c):=by refine ae.bind (ae.fe (aX t)) λr1 d S F I=>?_;obtain⟨rfl,I⟩:=I;cases S with|map J q=>obtain⟨C,R⟩:=Z J q I;let B(A:bH)(a b:YY×Bool):Prop:=aj c A a.1 b.1/\b.2=a.2;(cases h.mono F with|kQ=>refine ae.bind (Q:=λA a b=>mg c A a b) (ae.pure ⟨rfl,λi e e' a=>by simp at a⟩) λr2 T E G m=>?_;refine ae.bind (ae.checkKey _ _ C 9999) λr3 _ _ w _=>?_;refine ae.bind (ae.findKey O C (k.mono (bH.le_trans F (bH.le_trans G w))) (by simpa using m.mono w)) λr4 z N U p=>?_;(match z,N,p with|none,Y1,_=>refine ae.bind (ae.zero R) λK u u' V n=>?_;obtain⟨rfl,n⟩:=n;refine ae.bind (Q:=B) (ae.pure ⟨n c K,rfl⟩) λL a b H g=>?_;obtain⟨v,o⟩:=a;obtain⟨j,f⟩:=g;subst f;refine ae.pure ?_;split;{exact .k7 (au.push (au.single j) (.bool _))};{exact j}|some (_,_),YU (_,_),p=>refine ae.bind (Q:=B) (ae.pure ⟨p.2,rfl⟩) λL a b H g=>?_;obtain⟨v,o⟩:=a;obtain⟨j,f⟩:=g;subst f;refine ae.pure ?_;split;{exact .k7 (au.push (au.single j) (.bool _))};·exact j)|map Y=>refine ae.getObj Y λo D _ X W=>?_;(cases X with|map kk s e=>refine ae.bind (Q:=λA a b=>mg c A a b) (ae.pure ⟨s,e⟩) λr2 T E G m=>?_;refine ae.bind (ae.checkKey _ _ C 9999) λr3 _ _ w _=>?_;refine ae.bind (ae.findKey O C (k.mono (bH.le_trans F (bH.le_trans G w))) (by simpa using m.mono w)) λr4 z N U p=>?_;(match z,N,p with|none,Y1,_=>refine ae.bind (ae.zero R) λK u u' V n=>?_;obtain⟨rfl,n⟩:=n;refine ae.bind (Q:=B) (ae.pure ⟨n c K,rfl⟩) λL a b H g=>?_;obtain⟨v,o⟩:=a;obtain⟨j,f⟩:=g;subst f;refine ae.pure ?_;split;{exact .k7 (au.push (au.single j) (.bool _))};{exact j}|some (_,_),YU (_,_),p=>refine ae.bind (Q:=B) (ae.pure ⟨p.2,rfl⟩) λL a b H g=>?_;obtain⟨v,o⟩:=a;obtain⟨j,f⟩:=g;subst f;refine ae.pure ?_;split;{exact .k7 (au.push (au.single j) (.bool _))};·exact j)|cells _ _ _=>exact absurd rfl (W _ _ _)|_=>exactλ_ _ _=>rfl)|_=>exactλ_ _ _=>rfl)|_=>exact ae.stuck
end
section
variable{c:eG}{r:bH}
def Od:YY->Bool
 |.string _|.bool _=>YX
 |_=>YT
def Cn(P:Zf)(t:Zd):Bool:=match P.underlying t with|some .string|some .bool=>YX|_=>YT
theorem Cy(h:Cn P t=YX):fC P t=YX:=by unfold Cn at h;unfold fC;grind
theorem yg(n:Nat)(h:aj c r x x')(k:aj c r y y')(b:Od y=YX):Instr.sameBits n x' y'=Instr.sameBits n x y:=by cases k<;>simp[Od]at b<;>cases h<;>cases n<;>rfl
theorem ae.Jk(b:Cn P t=YX)(i:Od x=YT)(l h:List ZO)(k:mg c r l.toArray h.toArray):ae P c r (Instr.findKey t x l) (Instr.findKey t x' h) λ_ u n=>u=Y1/\n=Y1:=by unfold Cn at b;cases g:P.underlying t with|none=>rw[g]at b;simp at b|some d=>rw[g]at b;unfold Instr.findKey;refine ae.bind (ae.fe (aX t)) λq o j p f=>?_;obtain⟨rfl,f⟩:=f;rw[g]at f;cases f;cases l with|nil=>(have:h=[]:=by have:=k.1;grind);subst this;exact ae.pure ⟨rfl,rfl⟩|cons e l=>(have m:Instr.findNow d x (e::l) 0=Y1:=by(have:Instr.sameNow d x e.key=Y1:=by cases d<;>simp at b<;>cases x<;>simp[Od]at i<;>rfl);simp[Instr.findNow,this]);simp only[m];refine ae.never ?_;unfold Instr.findAsking;refine gG ?_;show kK P (Op.equalIn (9999+1) t x e.key);unfold Op.equalIn;intro w;rw[Zs.run_bind,j9 g w];cases d<;>simp at b<;>cases x<;>simp[Od]at i<;>exact⟨_,_,rfl,rfl⟩
theorem vJ(hc:Fits P c)(ht:∀k e,P.underlying t=YU (.map k e)->Cn P k=YX){z':YY}(h:aj c r x x')(k:aj c r y y')(l:aj c r z z'):ae P c r (Instr.mapUpdate t x y z) (Instr.mapUpdate t x' y' z') λ_ _ _=>True:=by unfold Instr.mapUpdate;refine ae.bind (ae.fe (aX t)) λr1 d d' R S=>?_;obtain⟨rfl,S⟩:=S;cases d' with|map A E=>have G:=ht A E S;have hk:=Cy G;(cases h.mono R with|kQ=>exact ae.runtimePanic|map I=>refine ae.getObj I λo o' ns ho X=>?_;(cases ho with|map kk s e=>rename_i F m;have g:mg c r1 F m:=⟨s,e⟩;refine ae.bind (ae.checkKey _ _ hk 9999) λr2 _ _ C _=>?_;have B:=(k.mono R).mono C;(have w:ae P c r2 (Instr.findKey A y F.toList) (Instr.findKey A y' m.toList) λZ u M=>MO c Z u M/\(Od y=YT->u=Y1):=by by_cases hy:Od y=YT;{refine(ae.Jk G hy _ _ (by simpa using g.mono C)).mono λZ u M _ h=>?_;obtain⟨rfl,rfl⟩:=h;exact⟨trivial,λ_=>rfl⟩};exact(ae.findKey hc hk B (by simpa using g.mono C)).mono λZ u M _ h=>⟨h,λe=>absurd e hy⟩);refine ae.bind w λr3 u M N J=>?_;obtain⟨J,K⟩:=J;have B:=B.mono N;have lr:=((l.mono R).mono C).mono N;have g:=(g.mono C).mono N;have I:=N _ _ (C _ _ I);(match u,M,J,K with|none,Y1,_,_=>refine ae.setObj I ns (.map (kk+1) (by grind) λi e O a b=>?_) rfl;rw[WL]at a b;rw[<-g.1]at b;split at a;{cases a;rw[if_pos ‹_›]at b;cases b;exact⟨B,lr,rfl⟩};{rw[if_neg ‹_›]at b;exact g.2 i e O a b}|some (i,_),YU (v,_),J,K=>(have Y:Od y=YX:=by simp_all);obtain⟨W,_⟩:=J;subst W;(have p:aj c r3 (((F[v]?).map (·.key)).getD y) (((m[v]?).map (·.key)).getD y'):=by cases V:F[v]? with|none=>simp_all|some Q=>(have H:v<m.size:=by grind);have:=g.2 v Q m[v] V (Wm H);rw[Wm H];exact this.key);(have L:ae P c r3 (Instr.keyThatStays (((F[v]?).map (·.key)).getD y) y) (Instr.keyThatStays (((m[v]?).map (·.key)).getD y') y') (aj c):=by unfold Instr.keyThatStays;rw[yg 10000 p B Y];refine ae.ite (λ_=>ae.pure B) λ_=>?_;refine ae.bind (ae.cI (iG _)) λr4 n n' D X=>?_;subst X;refine ae.pure ?_;split;{exact B.mono D};exact p.mono D);refine ae.bind L λr4 q q' D hq=>?_;refine ae.setObj (D _ _ I) ns (.map kk (by grind) λj e O a b=>?_) rfl;rw[Xh]at a b;split at a;{rw[if_pos ‹_›]at b;obtain⟨Q,T,rfl⟩:=Wh.1 a;obtain⟨e1,U,rfl⟩:=Wh.1 b;exact⟨hq,lr.mono D,((g.2 j Q e1 T U).born)⟩};·rw[if_neg ‹_›]at b;exact(g.2 j e O a b).mono D)|cells _ _ _=>exact absurd rfl (X _ _ _)|_=>exactλ_ _ _=>rfl)|_=>exact ae.stuck)|_=>exact ae.stuck
theorem Fj(k:P.underlying t=YU .string)(h:aj c r x x'):ae P c r (Instr.range t x) (Instr.range t x') (aj c):=by unfold Instr.range;refine ae.bind (ae.fe (aX t)) λv d n i f=>?_;obtain⟨rfl,f⟩:=f;rw[k]at f;cases f;cases h.mono i with|string s=>exact ae.bind (Q:=λl a b=>nA c l a b) (ae.pure (.iter s 0)) λw o u p j=>ae.bind (ae.newObj j) λy b m q g=>ae.pure (.ptr ⟨g.1,rfl,rfl,WX g.2⟩)|_=>exactλ_ _ _=>rfl
theorem JK(h:aj c r x x'):ae P c r (Instr.next x YX t) (Instr.next x' YX t) (aj c):=by unfold Instr.next;cases h with|ptr m=>rename_i a l;obtain⟨b,v,k⟩:=a;obtain⟨w,e,i⟩:=l;obtain⟨g,f,j,-⟩:=m;simp only at g f j;subst f j;(cases e with|succ n=>exact ae.stuck|zero=>refine ae.getObj g λo z u f q=>?_;cases f with|iter s p=>refine ae.ite (λ_=>?_) λ_=>ae.pure (.k7 (au.single (.bool _)));refine ae.bind (ae.setObj g u (.iter s _) rfl) λA _ _ y _=>ae.pure (.k7 ?_);exact((au.single (.bool _)).push (.int _ _)).push (.int _ _)|cells _ _ _=>exact absurd rfl (q _ _ _)|_=>exact ae.stuck)|_=>exact ae.stuck
theorem pD:∀(l l':List YY){r:bH},l.length=l'.length->(∀(i:Nat)(v v':YY),l[i]?=YU v->l'[i]?=YU v'->aj c r v v')->∀s:ByteArray,ae P c r (forIn l s λc r=>(match c with|.int .u8 n=>Pure.pure (ForInStep.yield (r.push (UInt8.ofNat n.toNat)))|_=>(λ_:PUnit=>ForInStep.yield r)<$>stuck "bytesToString: byte expected" :Zs (ForInStep ByteArray))) (forIn l' s λc r=>(match c with|.int .u8 n=>Pure.pure (ForInStep.yield (r.push (UInt8.ofNat n.toNat)))|_=>(λ_:PUnit=>ForInStep.yield r)<$>stuck "bytesToString: byte expected" :Zs (ForInStep ByteArray))) λ_ x y=>x=y|[],[],_,_,_,s=>by rw[List.forIn_nil];exact ae.pure rfl|[],_::_,_,h,_,_=>by cases h|_::_,[],_,h,_,_=>by cases h|v::l,v'::l',r,h,hv,s=>by rw[List.forIn_cons,List.forIn_cons];have h0:aj c r v v':=hv 0 v v' rfl rfl;have hl:∀(i:Nat)(u u':YY),l[i]?=YU u->l'[i]?=YU u'->aj c r u u':=λi u u' a b=>hv (i+1) u u' a b;refine ae.bind (Q:=λ_(x y:ForInStep ByteArray)=>x=y/\∃z,x=.yield z) ?_ λr1 x y hle e=>?_;{cases h0 with|int k n=>(cases k<;>first|exact ae.pure ⟨rfl,_,rfl⟩|exactλ_ _ _=>rfl)|_=>exactλ_ _ _=>rfl};obtain⟨rfl,z,rfl⟩:=e;exact pD l l' (by simpa using h) (λi u u' a b=>(hl i u u' a b).mono hle) z
theorem qp(h:aj c r x x'):ae P c r (Conv.bytesToString x) (Conv.bytesToString x') (aj c):=by(have key:∀{a a':ZA}{n:Nat}{r:bH},ae P c r (Go.loadCells a n) (Go.loadCells a' n) (au c)->ae P c r (Conv.bytesToString (.slice (YU a) n 0)) (Conv.bytesToString (.slice (YU a') n 0)) (aj c):=λ{a a' n r}h=>by unfold Conv.bytesToString;refine ae.bind h λr1 y y' hle hy=>?_;(refine ae.bind (Q:=λ_ x y=>x=y) ?_ λr2 z z' _ e=>by subst e;exact ae.pure (.string _));have:=pD (P:=P) (c:=c) y.toList y'.toList (r:=r1) (by simpa using hy.size) (λi u u' a b=>hy.el i u u' (by simpa using a) (by simpa using b)) ByteArray.empty;simp only[Array.forIn_toList]at this;exact this);cases h with|iu n m=>exact ae.pure (.string _)|slice n m h=>exact key (ae.loadCells h n)|cW a a'=>exact key (n:=0) (ae.pure .empty)|_=>exact ae.stuck
def Ie(P:Zf)(s d:Zd):Bool:=match P.underlying s,P.underlying d with|some (.int _),YU (.int _)|some (.int _),YU .string|some .string,YU .string=>YX|some (.slice e),YU .string=>(match P.underlying e with|some (.int .u8)=>YX|_=>YT)|_,_=>YT
theorem FK{e0:Zd}(h:P.underlying e0=YU (.int .u8))(k:aj c r x x'):ae P c r (do match<-underlying e0 with|.int .u8=>Conv.bytesToString x|.int .i32=>Conv.runesToString x|_=>stuck "Convert: a slice of what to string?") (do match<-underlying e0 with|.int .u8=>Conv.bytesToString x'|.int .i32=>Conv.runesToString x'|_=>stuck "Convert: a slice of what to string?") (aj c):=by refine ae.bind (ae.fe (aX e0)) λo a i j e=>?_;obtain⟨rfl,e⟩:=e;rw[h]at e;cases e;exact qp (k.mono j)
theorem zi{s d:Zd}(h:Ie P s d=YX)(k:aj c r x x'):ae P c r (convert s d x) (convert s d x') (aj c):=by unfold Go.convert;refine ae.bind (ae.fe (aX s)) λo a i j e=>?_;obtain⟨rfl,e⟩:=e;refine ae.bind (ae.fe (aX d)) λp b g l f=>?_;obtain⟨rfl,f⟩:=f;have k:=(k.mono j).mono l;unfold Ie at h;rw[e,f]at h;cases i with|int q=>(cases g with|int n=>(cases k<;>first|exact ae.pure (.int _ _)|exact ae.unsupported)|string=>(cases k<;>first|exact ae.pure (.string _)|exact ae.unsupported)|_=>simp at h)|string=>(cases g with|string=>(cases k<;>first|exact ae.pure (.string _)|exact ae.unsupported)|_=>simp at h)|slice e0=>(cases g with|string=>(have hb:P.underlying e0=YU (.int .u8):=by simp only at h;split at h;{assumption};cases h);have gen:=λ{y y'}(k:aj c p y y')=>FK (P:=P) hb k;(cases k with|int k n=>exact ae.pure (.string _)|string s=>exact ae.pure (.string _)|bool b=>exact gen (.bool b)|gj=>exact gen .gj|ptr h=>exact gen (.ptr h)|iu n m=>exact gen (.iu n m)|slice n m h=>exact gen (.slice n m h)|cW a a'=>exact gen (.cW a a')|kQ=>exact gen .kQ|map h=>exact gen (.map h)|func h1 h2 h3 h4 h5=>exact gen (.func h1 h2 h3 h4 h5)|nilFunc=>exact gen .nilFunc|nilIface=>exact gen .nilIface|iface t h=>exact gen (.iface t h)|agg h1 h2=>exact gen (.agg h1 h2)|tuple h1 h2=>exact gen (.tuple h1 h2))|_=>simp at h)|_=>simp at h
end
section
variable{c:eG}{r:bH}
def bY(c:eG)(gl:Nat->Bool):Zm->Bool
 |.tmp _=>YX
 |.const v=>jU 100 v
 |.global g=>gl g
 |.func f=>c.fns f
def zB(P:Zf)(t:Zd):Bool:=match P.underlying t with|some (.slice e)=>jQ P e|_=>YX
def OB(P:Zf)(t:Zd):Bool:=match P.underlying t with|some (.map k e)=>fC P k&&jQ P e|_=>YX
def O9(P:Zf)(t:Zd):Bool:=match P.underlying t with|some (.map k _)=>Cn P k|_=>YX
def Cp(P:Zf)(s:Zd)(n:Nat):Bool:=match P.underlying s with|some (.struct fs)=>(match fs[n]? with|some f=>P.cellsOf f.type !=0|none=>YX)|_=>YX
def Ea(P:Zf)(t:Option Zd):Bool:=match t with|some s=>(match P.underlying s with|some (.int _)=>YT|_=>YX)|none=>YX
def OZ(P:Zf)(t:Option Zd):Bool:=match t with|some s=>zB P s|none=>YX
def isEq:BinOp->Bool
 |.eql|.neq=>YX
 |_=>YT
def IB(P:Zf)(t:Zd):Bool:=match P.underlying t with|some .string=>YX|_=>YT
def B9(P:Zf)(c:eG)(gl:Nat->Bool)(k:Call):Bool:=
 k.args.all (bY c gl)&&match k.callee with
 |.value f=>bY c gl f
 |.builtin .len|.builtin .max|.builtin .min=>YX
 |.builtin .append=>OZ P k.argTypes[0]?&&Ea P k.argTypes[1]?
 |_=>YT
def JI(P:Zf):Zm->Bool
 |.global g=>decide (g<P.globals.size)
 |_=>YT
def CL(P:Zf)(c:eG)(gl:Nat->Bool)(o:ZK):Bool:=
 match o.op with
 |.load _ x=>bY c gl x||JI P x
 |.move x|.assign x|.box _ x|.nilCheck x|.unOp _ _ x|.field _ x _|.extract x _=>bY c gl x
 |.pick a b d=>bY c gl a&&bY c gl b&&bY c gl d
 |.alloc e=>jQ P e
 |.build t ps=>jQ P t&&ps.all λp=>bY c gl p.2
 |.buildSlice t _ ps=>zB P t&&ps.all λp=>bY c gl p.2
 |.store _ a x|.indexAddr _ a x|.index _ a x=>bY c gl a&&bY c gl x
 |.binOp op t x y _=>bY c gl x&&bY c gl y&&(!isEq op||fC P t)
 |.convert s d x=>Ie P s d&&bY c gl x
 |.makeFunc fn first captured=>IK c fn&&first.all (bY c gl)&&captured.all (bY c gl)
 |.makeMap _ Y1=>YX
 |.makeSlice t l k=>zB P t&&bY c gl l&&bY c gl k
 |.slice _ x lo hi mx=>bY c gl x&&lo.all (bY c gl)&&hi.all (bY c gl)&&mx.all (bY c gl)
 |.fieldAddr s x n=>Cp P s n&&bY c gl x
 |.lookup t x i _=>OB P t&&bY c gl x&&bY c gl i
 |.mapUpdate t m k v=>O9 P t&&bY c gl m&&bY c gl k&&bY c gl v
 |.range t x=>IB P t&&bY c gl x
 |.next it YX=>bY c gl it
 |.call k=>B9 P c gl k
 |_=>YT
inductive x7(c:eG)(r:bH):Next->Next->Prop
 |value{v v':YY}:aj c r v v'->x7 c r (.value v) (.value v')
 |skip:x7 c r .skip .skip
 |enter{f:Zi}{x x':Array YY}:c.fns f=YX->au c r x x'->x7 c r (.enter f x) (.enter f x')
def DY(P:Zf)(c:eG):Prop:=
 ∀(f:Zi)(fn:Func),c.fns f=YX->P.funcs[f]?=YU fn->(fn.name== "runtime.NumGoroutine")=YT/\(fn.body=Y1->Extern.findNext fn=Y1/\∃e,Extern.find fn=YU e/\
   ∀(r:bH)(x x':Array YY),au c r x x'->ae P c r (e x) (e x') (aj c))
theorem ae.value{x:Zs YY}{y:Zs YY}(h:ae P c r x y (aj c)):ae P c r (do Pure.pure (Next.value (<-x))) (do Pure.pure (Next.value (<-y))) (x7 c):=ae.bind h λ_ _ _ _ k=>ae.pure (.value k)
theorem ae.unit{x:Zs Unit}{y:Zs Unit}(h:ae P c r x y λ_ _ _=>True):ae P c r (do x;Pure.pure Next.skip) (do y;Pure.pure Next.skip) (x7 c):=ae.bind h λ_ _ _ _ _=>ae.pure .skip
theorem ae.CO(f:Zi):ae P c r (mark (.extern f)) (mark (.extern f)) λ_ _ _=>True:=by intro w v b;refine⟨(),v,r,rfl,.refl b,trivial,λe a=>?_⟩;simp at a;subst a;exact .inr (.inr ⟨f,rfl⟩)
theorem yC(l:DY P c)(i:c.fns f=YX){x x':Array YY}(h:au c r x x'):ae P c r (callFunc f x) (callFunc f x') (x7 c):=by refine ae.bind (ae.fe bM) λw p u g m=>?_;obtain⟨rfl,rfl⟩:=m;cases a:u.funcs[f]? with|none=>exact ae.stuck|some d=>obtain⟨s,t⟩:=l f d i a;simp only[a,s,WQ];cases k:d.body with|some b=>exact ae.pure (.enter i (h.mono g))|none=>obtain⟨n,e,o,q⟩:=t k;simp only[n,o];exact ae.bind (ae.CO f) λv _ _ j _=>ae.value (q v x x' ((h.mono g).mono j))
theorem yh(a:∀x,bY c gl x=YX->aj c r (ev x) (ev' x)){l:Array Zm}(h:l.all (bY c gl)=YX):au c r (l.map ev) (l.map ev'):=au.map l ev ev' λx b=>a x (by rw[Yg]at h;grind)
theorem wV(a:∀x,bY c gl x=YX->aj c r (ev x) (ev' x)){l:Array (Nat×Zm)}(h:(l.all λp=>bY c gl p.2)=YX):CS c r (l.map λ(i,x)=>(i,ev x)) (l.map λ(i,x)=>(i,ev' x)):=by refine⟨?_,?_⟩;{simp};(have e:∀g:Zm->YY,((l.map λp=>(p.1,g p.2)).toList.map (·.2)).toArray=l.map λp=>g p.2:=by grind);rw[e ev,e ev'];refine au.map l _ _ λp b=>a p.2 ?_;rw[Yg]at h;grind
theorem xP(a:∀x,bY c gl x=YX->aj c r (ev x) (ev' x)):∀{x:Option Zm},x.all (bY c gl)=YX->kh c r (x.map ev) (x.map ev')|none,_=>trivial|some x,h=>a x (by grind)
theorem x5(o:ZK)(y:Zm)(ev ev':Zm->YY)(l:o.op=.nilCheck y)(e:ev y=x)(i:ev' y=x')(h:aj c r x x'):ae P c r (Y3 ev o) (Y3 ev' o) (x7 c):=by unfold Y3;rw[l];simp only[e,i];cases h with|gj=>exact ae.runtimePanic|nilIface=>exact ae.runtimePanic|nilFunc=>exact ae.runtimePanic|bool b=>exact ae.pure (.value (.bool b))|int k n=>exact ae.pure (.value (.int k n))|string s=>exact ae.pure (.value (.string s))|ptr a=>exact ae.pure (.value (.ptr a))|iu n m=>exact ae.pure (.value (.iu n m))|slice n m a=>exact ae.pure (.value (.slice n m a))|cW a f=>exact ae.pure (.value (.cW a f))|kQ=>exact ae.pure (.value .kQ)|map a=>exact ae.pure (.value (.map a))|@func j z B u A d p q v w=>(cases j with|func g=>exact ae.pure (.value (.func d p q v w))|_=>simp[IK]at d)|iface t a=>exact ae.pure (.value (.iface t a))|agg a b=>exact ae.pure (.value (.agg a b))|tuple a b=>exact ae.pure (.value (.tuple a b))
theorem mK(h:zB P t=YX):∀e,P.underlying t=YU (.slice e)->jQ P e=YX:=λe a=>by unfold zB at h;simp_all
theorem Jj(h:O9 P t=YX):∀k e,P.underlying t=YU (.map k e)->Cn P k=YX:=λk e a=>by unfold O9 at h;simp_all
theorem IF(h:OB P t=YX):∀k e,P.underlying t=YU (.map k e)->fC P k=YX/\jQ P e=YX:=λk e a=>by unfold OB at h;simp_all
theorem vz(h:Cp P t n=YX):∀fs f,P.underlying t=YU (.struct fs)->fs[n]?=YU f->P.cellsOf f.type≠0:=λfs f a b=>by unfold Cp at h;simp_all
theorem Jm(N:Fits P c)(K:DY P c){k:Call}(t:Zd)(i:B9 P c gl k=YX)(B:∀x,bY c gl x=YX->aj c r (ev x) (ev' x)):ae P c r (do let d<-resolve ev k t;invoke d.target d.args) (do let d<-resolve ev' k t;invoke d.target d.args) (x7 c):=by unfold B9 at i;simp only[Wg]at i;obtain⟨I,i⟩:=i;have h:=yh B I;obtain⟨l,m,A⟩:=k;unfold resolve;cases l with|invoke x n=>simp at i|value f=>have E:=B f i;simp only[];generalize ev f=q at E;generalize ev' f=O at E;(cases E with|@func J z R u M a b d e g=>(cases J with|func j=>refine ae.bind (Q:=λG x y=>x.target=.fn (.func j) u/\y.target=.fn (.func j) M/\au c G x.args y.args) (ae.pure ⟨rfl,rfl,(au.mk b d).append h⟩) λL x y H p=>?_;obtain⟨C,D,v⟩:=p;rw[C,D];exact yC K (by assumption) (v.append ((au.mk e g).mono H))|_=>simp[IK]at a)|nilFunc=>exact ae.never (λw=>dw RuntimeError.nilDeref w)|_=>exactλ_ _ _=>rfl)|builtin b=>refine ae.bind (Q:=λG x y=>x.target=.builtin b A t (m.map λ|.const _=>YX|_=>YT)/\y.target=.builtin b A t (m.map λ|.const _=>YX|_=>YT)/\au c G x.args y.args) (ae.pure ⟨rfl,rfl,h⟩) λL x y H p=>?_;obtain⟨C,D,v⟩:=p;rw[C,D];cases b with|len=>exact ae.value (MG _ _ v)|max=>exact ae.value (M1 _ _ v)|min=>exact ae.value (L6 _ _ v)|append=>simp only[Wg]at i;refine ae.value (CK (λs e F o=>?_) (λs k F o=>?_) v);{have:=i.1;rw[F]at this;exact mK this e o};have:=i.2;rw[F]at this;simp[Ea,o]at this|_=>simp at i
theorem Bx(w:Fits P c)(H:DY P c){o:ZK}(j:CL P c gl o=YX)(f:∀x,bY c gl x=YX->aj c r (ev x) (ev' x))(z:∀g,ev (.global g)=ϖ g/\ev' (.global g)=ϖ g):ae P c r (Y3 ev o) (Y3 ev' o) (x7 c):=by unfold CL at j;obtain⟨E,D,O,K,A,guard⟩:=o;cases D with|move x=>exact ae.pure (.value (f x j))|assign x=>exact ae.pure (.value (f x j))|pick a b d=>simp only[Wg]at j;refine ae.bind (ae.asBool (f a j.1.1)) λM u V C I=>?_;subst I;refine ae.pure (.value ?_);split;{exact(f b j.1.2).mono C};exact(f d j.2).mono C|alloc e=>exact ae.value (BJ j)|box e x=>exact ae.value (MZ e (f x j))|build t L=>simp only[Wg]at j;exact ae.value (Fu j.1 (wV f j.2))|buildSlice t n L=>simp only[Wg]at j;exact ae.value (uD (mK j.1) (wV f j.2))|load t a=>rcases WY ..▸j with j|j;{exact ae.value (B3 t (f a j))};(cases a with|global g=>refine ae.value ?_;rw[(z g).1,(z g).2];exact ae.bind (Q:=λ_ a b=>a=⟨g,0,Y1⟩/\b=⟨g,0,Y1⟩) (ae.pure ⟨rfl,rfl⟩) λM a b C⟨F,G⟩=>by subst F G;exact ae.Jz w (by rw[w.aI];simpa[JI]using j) t|_=>simp[JI]at j)|store t a x=>simp only[Wg]at j;exact ae.unit (za t (f a j.1) (f x j.2))|nilCheck x=>exact x5 _ x ev ev' rfl rfl rfl (f x j)|binOp D t x y u=>simp only[Wg,WY,Bool.not_eq_true']at j;exact ae.value (Fp w (λe=>by rcases j.2 with h|h;{rcases e with rfl|rfl<;>simp[isEq]at h};exact h) (f x j.1.1) (f y j.1.2))|unOp D t x=>exact ae.value (EY (f x j))|convert s d x=>simp only[Wg]at j;exact ae.value (zi j.1 (f x j.2))|makeFunc R B q=>simp only[Wg]at j;exact ae.value (ye j.1.1 (yh f j.1.2) (yh f j.2))|makeMap t N=>(cases N with|none=>exact ae.value zT|some _=>simp at j)|makeSlice t l k=>simp only[Wg]at j;exact ae.value (vE (mK j.1.1) (f l j.1.2) (f k j.2))|slice t x T S U=>simp only[Wg]at j;exact ae.value (AB t (f x j.1.1.1) (xP f j.1.1.2) (xP f j.1.2) (xP f j.2))|fieldAddr s x n=>simp only[Wg]at j;exact ae.value (zd s n (vz j.1) (f x j.2))|field t x n=>exact ae.value (Ft t n (f x j))|indexAddr t x i=>simp only[Wg]at j;exact ae.value (zl t (f x j.1) (f i j.2))|index t x i=>simp only[Wg]at j;exact ae.value (Fz t (f x j.1) (f i j.2))|lookup t x i b=>simp only[Wg]at j;exact ae.value (CP w (IF j.1.1) (f x j.1.2) (f i j.2))|mapUpdate t m k v=>simp only[Wg]at j;exact ae.unit (vJ w (Jj j.1.1.1) (f m j.1.1.2) (f k j.1.2) (f v j.2))|range t x=>simp only[Wg]at j;refine ae.value (Fj ?_ (f x j.2));have:=j.1;unfold IB at this;grind|next J b=>(cases b with|true=>exact ae.value (JK (f J j))|false=>simp at j)|extract x n=>exact ae.value (AM n (f x j))|call k=>exact Jm w H O j f|_=>simp at j
end
section
variable{c:eG}{r:bH}
def codeOk(P:Zf)(c:eG)(gl:Nat->Bool):ZL->Bool
 |.skip|.exit _|.label _|.ret|.refuse _=>YX
 |.region _ ops _=>ops.all (CL P c gl)
 |.seq a b=>codeOk P c gl a&&codeOk P c gl b
 |.cond x a b=>bY c gl x&&codeOk P c gl a&&codeOk P c gl b
 |.block _ a|.loop a|.scope a=>codeOk P c gl a
 |_=>YT
def opAt(P:Zf)(c:eG)(gl:Nat->Bool)(ops:Array ZK)(i:Nat):Bool:=match ops[i]? with|some o=>CL P c gl o|none=>YX
theorem JG{c:eG}(h:ops.all (CL P c gl)=YX)(l:List Nat):l.all (opAt P c gl ops)=YX:=by rw[WC];intro i _;unfold opAt;grind
theorem vT{c:eG}{o:ZK}(h:(i::rest).all (opAt P c gl ops)=YX)(a:ops[i]?=YU o):CL P c gl o=YX:=by simp only[Xj,Wg]at h;have:=h.1;unfold opAt at this;simp_all
theorem wN{c:eG}(h:(i::rest).all (opAt P c gl ops)=YX):rest.all (opAt P c gl ops)=YX:=by simp_all
def bE(P:Zf)(c:eG)(gl:Nat->Bool):ZE->Bool
 |.code a|.inLoop a|.inScope a=>codeOk P c gl a
 |.inBlock _=>YX
 |.inRegion ops l=>l.all (opAt P c gl ops)
 |_=>YT
def eH(f:Zi)(t:Array YY)(k:List ZE)(m:FrameMode):Y8:={fn:=f,tmps:=t,todo:=k,defers:=[],mode:=m,kind:=.normal,roundOf:=Y1}
def md(ret:Bool):FrameMode:=if ret then .returning else .run
structure fZ where
 f:Zi
 t:Array YY
 k:List ZE
 ret:Bool
 st:List (Zi×Array YY×List ZE)
def up(x:Zi×Array YY×List ZE):Y8:=eH x.1 x.2.1 x.2.2 .run
def fZ.g(s:fZ)(base:List Y8):Y2:=Go.Conc.G (eH s.f s.t s.k (md s.ret)) (s.st.map up++base)
structure F7(P:Zf)(c:eG)(gl:Nat->Bool)(s:fZ):Prop where
 fn:True
 items:s.k.all (bE P c gl)=YX
 below:∀x∈s.st,True/\x.2.2.all (bE P c gl)=YX/\∃ops i rest k,x.2.2=.inRegion ops (i::rest)::k
inductive kO(c:eG)(r:bH):List (Zi×Array YY×List ZE)->List (Zi×Array YY×List ZE)->Prop
 |nil:kO c r [] []
 |cons{f:Zi}{t t':Array YY}{k:List ZE}{l l':List (Zi×Array YY×List ZE)}:au c r t t'->kO c r l l'->kO c r ((f,t,k)::l) ((f,t',k)::l')
structure vI(c:eG)(r:bH)(s s':fZ):Prop where
 f:s'.f=s.f
 t:au c r s.t s'.t
 k:s'.k=s.k
 ret:s'.ret=s.ret
 st:kO c r s.st s'.st
theorem kO.mono{r r':bH}(h:r.le r'){l l':List (Zi×Array YY×List ZE)}(k:kO c r l l'):kO c r' l l':=by induction k with|nil=>exact .nil|cons a _ b=>exact .cons (a.mono h) b
structure Listed(P:Zf)(c:eG)(gl:Nat->Bool):Prop where
 aI:Fits P c
 sn:∀g,gl g=YX->c.low g=0
 ext:DY P c
 body:∀(f:Zi)(fn:Func),c.fns f=YX->P.funcs[f]?=YU fn->∃b,(fn.body=Y1\/(fn.body=YU b/\codeOk P c gl b=YX))
def fO:Y8:={fn:=0,tmps:=#[],todo:=[],defers:=[{target:=.builtin .make #[] 0 #[],args:=#[]}],mode:=.run,kind:=.normal}
def SW(s:GStep):Prop:=(∃o w,s.bare=.ended o w)\/∃(f:Zi)(t:Array YY)(k:List ZE)(ch:List PanicEntry)(st:List (Zi×Array YY×List ZE))(w:YZ)(es:Array ZG),
 s=.go (Go.Conc.G (eH f t k (.panicking ch)) (st.map up++[fO])) w es/\(∀d w r sv,k.head?≠YU (.call d w r sv))/\∀x∈st,∃ops i rest k',x.2.2=.inRegion ops (i::rest)::k'
theorem tJ{t:Array YY}(e:au c r t t')(d:∀g,gl g=YX->r g=YU g)(b:∀g,gl g=YX->c.low g=0){k:List ZE}{m:FrameMode}(x:Zm)(h:bY c gl x=YX):aj c r ((eH f t k m).eval x) ((eH f t' k m).eval x):=by cases x with|tmp i=>exact e.getD i gJ|const v=>exact iD h c r|global g=>exact .ptr ⟨d g h,rfl,rfl,WX (b g h)⟩|func j=>exact .func (by assumption) rfl (λi v l a=>by simp at a) rfl (λi v l a=>by simp at a)
theorem rF{t:Array YY}(a:au c r t t')(ops:Array ZK)(j:Nat):Ze ops t' j=Ze ops t j:=by unfold Ze;cases(ops[j]?).bind (·.dst)with|none=>rfl|some d=>simp only[XE];cases b:t[d]? with|none=>rw[a.none b]|some v=>obtain⟨f,e,k⟩:=a.get b;rw[e];cases k<;>rfl
theorem Qz{t:Array YY}{k:List ZE}(v:YY):(eH f t (.inRegion ops (i::rest)::k) .run).finish v=eH f (match(ops[i]?).bind (·.dst)with|some d=>t.setIfInBounds d v|none=>t) (.inRegion ops rest::k) .run:=rfl
theorem qz{t:Array YY}(a:au c r t t')(d:Option Tmp){v:YY}(b:aj c r v v'):au c r (match d with|some d=>t.setIfInBounds d v|none=>t) (match d with|some d=>t'.setIfInBounds d v'|none=>t'):=by cases d with|none=>exact a|some d=>exact a.set d b
end
end Go.ae
namespace Go.ae
open Go.Conc
variable{P:Zf}{c:eG}{r r':bH}{gl:Nat->Bool}{w v v' w2 w' v1:YZ}{main u:Bool}{bs cs:List Y8}{f j f0:Zi}{t t' args t0 x':Array YY}{k k0:List ZE}{st st':List (Zi×Array YY×List ZE)}{id i b n g:Nat}{x a:ZL}{ops:Array ZK}{rest:List Nat}{o:ZK}{h:Halt}{fn:Func}{α:Type}{s s' s1:fZ}{p:fZ×YZ}{es:Array ZG}{fr' caller:Y8}{Good:YY->YZ->Prop}{own RO:Nat->Prop}{CU:Nat->Nat->Prop}{Stop:(Nat->Prop)->Y2->YZ->Prop}{R:Ending->YZ->Prop}{fns:Zi->Bool}
section
def VW(P:Zf)(c:eG)(r:bH)(main:Bool)(base:List Y8)(w v:YZ)(s':fZ)(s1:fZ)(w1:YZ):Prop:=
 ∃s1' v1 r1 es,Y4 P main (s'.g base) v=.go (s1'.g base) v1 es/\Ext c r w v r1 w1 v1/\vI c r1 s1 s1'/\∀e∈es,vm c r1 e
def Stp(P:Zf)(c:eG)(gl:Nat->Bool)(r:bH)(main:Bool)(base:List Y8)(w v:YZ)(s s':fZ):Prop:=
 (∃s1 w1 es1,Y4 P YX (s.g [fO]) w=.go (s1.g [fO]) w1 es1/\F7 P c gl s1/\VW P c r main base w v s' s1 w1)\/SW (Y4 P YX (s.g [fO]) w)
theorem fZ.w7(f:Zi)(t:Array YY)(k:List ZE)(a:List (Zi×Array YY×List ZE))(bs:List Y8):(fZ.mk f t k YT a).g bs=G (eH f t k .run) (a.map up++bs):=rfl
theorem Stp.ctl{k1:List ZE}{ret1:Bool}(l:ep c r w v)(j:au c r t t')(a:kO c r st st')(b:F7 P c gl ⟨f,t,k,YT,st⟩)(i:k1.all (bE P c gl)=YX)(h:∀(main:Bool)(cs:List Y8)(w:YZ),Y4 P main (G (eH f t k .run) cs) w=.go (G (eH f t k1 (md ret1)) cs) w #[])(d:∀(main:Bool)(cs:List Y8)(w:YZ),Y4 P main (G (eH f t' k .run) cs) w=.go (G (eH f t' k1 (md ret1)) cs) w #[]):Stp P c gl r main bs w v ⟨f,t,k,YT,st⟩ ⟨f,t',k,YT,st'⟩:=.inl ⟨⟨f,t,k1,ret1,st⟩,w,#[],h _ _ _,⟨b.fn,i,b.below⟩,⟨f,t',k1,ret1,st'⟩,v,r,#[],d _ _ _,.refl l,⟨rfl,j,rfl,rfl,a⟩,λe g=>by simp at g⟩
theorem oI{q:ZE->Bool}:∀{k k':List ZE},exitTo id k=YU k'->k.all q=YX->k'.all q=YX|[],_,h,_=>by simp[exitTo]at h|x::k,k',h,b=>by simp only[Xj,Wg]at b;unfold exitTo at h;split at h;{rename_i d f e;cases e;split at h;{simp_all};exact oI h b.2};{rename_i e;cases e;exact oI h b.2};simp_all
theorem vq:Y4 P main (G (eH f t (.code .ret::k) .run) cs) w=.go (G (eH f t (.code .ret::k) .returning) cs) w #[]:=by rfl
theorem nj:Y4 P main (G (eH f t (.inScope x::k) .run) cs) w=.go (G (eH f t k .run) cs) w #[]:=by rfl
theorem qj:Y4 P main (G (eH f t (.code (.scope x)::k) .run) cs) w=.go (G (eH f t (.code x::.inScope x::k) .run) cs) w #[]:=by rfl
theorem ml(h:exitTo id k=Y1):Y4 P main (G (eH f t (.code (.exit id)::k) .run) cs) w=.ended (.stuck "exit, goto: no such block or label" ((eH f t (.code (.exit id)::k) .run).pos P)) w #[]:=by simp only[G,Y4,Y4.exec,eH,h,Option.elim,WQ,if_false]
theorem mL:Y4 P main (G (eH f t (.code (.region id ops YX)::k) .run) cs) w=match(choose (.order f id)).run P w with|.ok b w=>.go (G (eH f t (.inRegion ops (Region.schedule (P.follows .mixedOrders) ops b)::k) .run) cs) w #[]|.halt _ w=>.ended (.stuck "order" ((eH f t (.code (.region id ops YX)::k) .run).pos P)) w:=by rfl
theorem stepG_unwanted(h:((ops[i]?).map (Region.wanted · (Ze ops t))).getD YT=YT):Y4 P main (G (eH f t (.inRegion ops (i::rest)::k) .run) cs) w=.go (G ((eH f t (.inRegion ops (i::rest)::k) .run).finish Zh) cs) w #[]:=by simp only[G,Y4,Y4.exec,eH,h,WQ,if_false]
section op
variable{w1:YZ}
abbrev sL(f:Zi)(t:Array YY)(ops:Array ZK)(i:Nat)(rest:List Nat)(k:List ZE):Y8:=eH f t (.inRegion ops (i::rest)::k) .run
theorem lC{v:YY}(d:ops[i]?=YU o)(e:Region.wanted o (Ze ops t)=YX)(b:(Y3 (sL f t ops i rest k).eval o).run P w=.ok (.value v) w1):Y4 P main (G (sL f t ops i rest k) cs) w=.go (G ((sL f t ops i rest k).finish v) cs) w1 (seen P f ((Y3 (sL f t ops i rest k).eval o).events P w #[])):=by simp only[eH]at b;simp[G,Y4,Y4.exec,Y4.oper,Y4.apply,Y8.oper?,eH,d,e,b,GStep.after]
theorem ni(d:ops[i]?=YU o)(e:Region.wanted o (Ze ops t)=YX)(b:(Y3 (sL f t ops i rest k).eval o).run P w=.ok .skip w1):Y4 P main (G (sL f t ops i rest k) cs) w=.go (G ((sL f t ops i rest k).finish Zh) cs) w1 (seen P f ((Y3 (sL f t ops i rest k).eval o).events P w #[])):=by simp only[eH]at b;simp[G,Y4,Y4.exec,Y4.oper,Y4.apply,Y8.oper?,eH,d,e,b,GStep.after]
theorem lP(d:ops[i]?=YU o)(e:Region.wanted o (Ze ops t)=YX)(b:(Y3 (sL f t ops i rest k).eval o).run P w=.ok (.enter j args) w1):Y4 P main (G (sL f t ops i rest k) cs) w=.go (G (Y8.enter P j args .normal) (sL f t ops i rest k::cs)) w1 (seen P f ((Y3 (sL f t ops i rest k).eval o).events P w #[])):=by simp only[eH]at b;simp[G,Y4,Y4.exec,Y4.oper,Y4.apply,Y8.oper?,eH,d,e,b,GStep.after]
theorem qg{v:YY}(e:ops[i]?=YU o)(g:Region.wanted o (Ze ops t)=YX)(d:(Y3 (sL f t ops i rest k).eval o).run P w=.halt (.panic v) w1):Y4 P main (G (sL f t ops i rest k) cs) w=.go (G (eH f t (.inRegion ops (i::rest)::k) (.panicking [{v,recovered:=YT}])) cs) w1 (seen P f ((Y3 (sL f t ops i rest k).eval o).events P w #[])):=by simp only[eH]at d;simp[G,Y4,Y4.exec,Y4.oper,Y4.apply,Y8.oper?,eH,e,g,d,GStep.after,Y8.raise]
theorem rS(e:ops[i]?=YU o)(j:Region.wanted o (Ze ops t)=YX)(b:(Y3 (sL f t ops i rest k).eval o).run P w=.halt h w1)(d:Ce h=YX)(l:∀v,h≠.panic v):∃x w2,(Y4 P main (G (sL f t ops i rest k) cs) w).bare=.ended x w2:=by simp only[eH]at b;cases h with|panic v=>simp_all|stuck s=>simp[G,Y4,Y4.exec,Y4.oper,Y4.apply,Y8.oper?,eH,e,j,b]|unsupported u=>(cases u with|initOrder g=>simp[Ce]at d|_=>simp[G,Y4,Y4.exec,Y4.oper,Y4.apply,Y8.oper?,eH,e,j,b])|_=>simp[Ce]at d
end op
theorem F7.zS(b:F7 P c gl ⟨f,t,.inRegion ops (i::rest)::k,YT,st⟩):(i::rest).all (opAt P c gl ops)=YX/\k.all (bE P c gl)=YX:=by have:=b.items;simp only[Xj,Wg]at this;exact this
theorem iw(args:Array YY)(a:P.funcs[f]?=YU fn):Y8.enter P f args .normal=eH f (args++Array.replicate (fn.ntmps-args.size) Zh) [.code (fn.body.getD (.refuse "unsupported: a function without a Go body is entered"))] .run:=by simp[Y8.enter,eH,a]
theorem tS(args:Array YY)(a:P.funcs[f]?=Y1):Y8.enter P f args .normal=eH f (args++Array.replicate (0-args.size) Zh) [.code (.refuse "unsupported: a function without a Go body is entered")] .run:=by simp[Y8.enter,eH,a]
theorem Ai(g:Listed P c gl)(f:c.fns j=YX)(x d:Array YY):∃n b,(Y8.enter P j x .normal=eH j (x++Array.replicate (n-x.size) Zh) [.code b] .run/\Y8.enter P j d .normal=eH j (d++Array.replicate (n-d.size) Zh) [.code b] .run)/\codeOk P c gl b=YX:=by cases a:P.funcs[j]? with|none=>exact⟨0,_,⟨tS x a,tS d a⟩,rfl⟩|some e=>refine⟨e.ntmps,_,⟨iw x a,iw d a⟩,?_⟩;obtain⟨b,h|⟨h,i⟩⟩:=g.body j e f a;{rw[h];rfl};simp_all
theorem Mh(I:Listed P c gl)(V:∀g,gl g=YX->r g=YU g)(Y:ep c r w v)(E:au c r t t')(D:kO c r st st')(A:F7 P c gl ⟨f,t,.inRegion ops (i::rest)::k,YT,st⟩)(z:ops[i]?=YU o)(a:Region.wanted o (Ze ops t)=YX):Stp P c gl r main bs w v ⟨f,t,.inRegion ops (i::rest)::k,YT,st⟩ ⟨f,t',.inRegion ops (i::rest)::k,YT,st'⟩:=by obtain⟨p,R⟩:=A.zS;have M:=vT p z;have m:=Bx I.aI I.ext M (ev:=(sL f t ops i rest k).eval) (λx q=>tJ E V I.sn x q) (λ_=>⟨rfl,rfl⟩) w v Y;(have l:Region.wanted o (Ze ops t')=YX:=by rw[funext λj=>rF E ops j];exact a);unfold Stp;rw[fZ.w7];cases q:(Y3 (sL f t ops i rest k).eval o).run P w with|halt h H=>rw[q]at m;refine .inr ?_;by_cases S:∃u,h=.panic u;{obtain⟨u,rfl⟩:=S;rw[qg z a q];refine .inr ⟨f,t,_,_,st,H,_,rfl,λd w r sv=>by simp,λx q=>(A.below x q).2.2⟩};obtain⟨x,w2,e⟩:=rS z a q m (λu e=>S ⟨u,e⟩);exact .inl ⟨x,w2,e⟩|ok n H=>rw[q]at m;obtain⟨n',O,J,L,B,q1,Z⟩:=m;have C:∀e∈seen P f ((Y3 (sL f t' ops i rest k).eval o).events P v #[]),vm c J e:=λe U=>Z e (mem_seen U);refine .inl ?_;cases q1 with|@value u u' X=>refine⟨⟨f,_,.inRegion ops rest::k,YT,st⟩,H,seen P f ((Y3 (sL f t ops i rest k).eval o).events P w #[]),(lC z a q).trans ?_,⟨A.fn,?_,A.below⟩,⟨f,_,.inRegion ops rest::k,YT,st'⟩,O,J,_,(lC z l L).trans ?_,B,⟨rfl,qz (E.mono B.le) ((ops[i]?).bind (·.dst)) X,rfl,rfl,D.mono B.le⟩,C⟩;{rfl};{simp only[Xj,bE,R,wN p,Bool.and_self]};rfl|skip=>refine⟨⟨f,_,.inRegion ops rest::k,YT,st⟩,H,seen P f ((Y3 (sL f t ops i rest k).eval o).events P w #[]),(ni z a q).trans ?_,⟨A.fn,?_,A.below⟩,⟨f,_,.inRegion ops rest::k,YT,st'⟩,O,J,_,(ni z l L).trans ?_,B,⟨rfl,qz (E.mono B.le) ((ops[i]?).bind (·.dst)) gJ,rfl,rfl,D.mono B.le⟩,C⟩;{rfl};{simp only[Xj,bE,R,wN p,Bool.and_self]};rfl|@enter j x K W F=>obtain⟨n,b,Q,T⟩:=Ai I W x K;refine⟨⟨j,x++Array.replicate (n-x.size) Zh,[.code b],YT,(f,t,.inRegion ops (i::rest)::k)::st⟩,H,seen P f ((Y3 (sL f t ops i rest k).eval o).events P w #[]),(lP z a q).trans ?_,⟨trivial,?_,?_⟩,⟨j,K++Array.replicate (n-K.size) Zh,[.code b],YT,(f,t',.inRegion ops (i::rest)::k)::st'⟩,O,J,_,(lP z l L).trans ?_,B,⟨rfl,?_,rfl,rfl,.cons (E.mono B.le) (D.mono B.le)⟩,C⟩;{rw[Q.1];rfl};{simp[bE,T]};{intro y N;rcases Wl.1 N with rfl|N;{exact⟨A.fn,A.items,ops,i,rest,k,rfl⟩};exact A.below y N};{rw[Q.2];rfl};rw[F.size.symm];exact F.append (.replicate _ gJ)
end
section
theorem ae.yS{f f':α->Zs YY}:∀(l:List α){r:bH}{x x':Array YY},au c r x x'->(∀a b,r.le b->ae P c b (f a) (f' a) (aj c))->ae P c r (l.foldlM (λbs a=>Functor.map bs.push (f a)) x) (l.foldlM (λbs a=>bs.push<$>f' a) x') (au c)|[],_,_,_,h,_=>ae.pure h|a::l,r,x,x',h,e=>by simp only[Yy];refine ae.bind (Q:=au c) ?_ λb y n d j=>ae.yS l j λa k g=>e a k (bH.le_trans d g);simp only[<-bind_pure_comp];exact ae.bind (e a r (bH.le_refl r)) λb v m d i=>ae.pure ((h.mono d).push i)
theorem ae.mapM{f f':α->Zs YY}(l:Array α)(h:∀a b,r.le b->ae P c b (f a) (f' a) (aj c)):ae P c r (l.mapM f) (l.mapM f') (au c):=by rw[Y5,Y5,<-Y6,<-Y6];exact ae.yS l.toList .empty h
theorem ky(fn:Func)(h:au c r t t'):ae P c r (results fn t) (results fn t') (aj c):=by refine ae.bind (ae.mapM _ λa g d=>?_) λg x m d b=>ae.pure ?_;{cases a with|tmp i=>exact ae.pure ((h.mono d).getD i gJ)|cell i j=>exact ae.bind (ae.asAddr ((h.mono d).getD i gJ)) λl a k _ f=>ae.loadVar j f};by_cases e:x.size=1;{rw[dif_pos e,dif_pos (b.size▸e)];exact b.el 0 _ _ (Wm _) (Wm _)};rw[dif_neg e,dif_neg (b.size▸e)];exact .tuple b.size b.el
section ret
variable{x:Y8}{w1:YZ}
theorem fH(a:P.funcs[f]?=Y1):Y4 P main (G (eH f t k .returning) (x::cs)) w=.go (G (x.finish (t.getD 0 Zh)) cs) w #[]:=by simp[G,Y4,unwind,doReturn,eH,a]
theorem bD{v:YY}(a:P.funcs[f]?=YU fn)(b:(results fn t).run P w=.ok v w1):Y4 P main (G (eH f t k .returning) (x::cs)) w=.go (G (x.finish v) cs) w1 (seen P f ((results fn t).events P w #[])):=by simp[G,Y4,unwind,doReturn,eH,a,b,GStep.after]
theorem gU(a:P.funcs[f]?=YU fn)(b:(results fn t).run P w=.halt h w1):∃o w2,(Y4 P main (G (eH f t k .returning) (x::cs)) w).bare=.ended o w2:=by cases h<;>simp[G,Y4,unwind,eH,a,b]
end ret
theorem zn{t0':Array YY}(A:ep c r w v)(z:au c r t t')(l:au c r t0 t0')(j:kO c r st st')(y:F7 P c gl ⟨f,t,k,YX,(f0,t0,.inRegion ops (i::rest)::k0)::st⟩):Stp P c gl r main bs w v ⟨f,t,k,YX,(f0,t0,.inRegion ops (i::rest)::k0)::st⟩ ⟨f,t',k,YX,(f0,t0',.inRegion ops (i::rest)::k0)::st'⟩:=by obtain⟨s,C,-⟩:=y.below _ (Wf ..);have a:=λx m=>y.below x (Wo _ m);(have g:(ZE.inRegion ops rest::k0).all (bE P c gl)=YX:=by simp only[Xj,bE]at C⊢;simp_all);cases d:P.funcs[f]? with|none=>refine .inl ⟨⟨f0,_,.inRegion ops rest::k0,YT,st⟩,w,#[],(fH d).trans ?_,⟨s,g,a⟩,⟨f0,_,.inRegion ops rest::k0,YT,st'⟩,v,r,#[],(fH d).trans ?_,.refl A,⟨rfl,qz l ((ops[i]?).bind (·.dst)) (z.getD 0 gJ),rfl,rfl,j⟩,λe p=>by simp at p⟩;{rfl};rfl|some n=>have b:=ky n z (P:=P) w v A;cases m:(results n t).run P w with|halt h B=>exact .inr (.inl (gU d m))|ok u B=>rw[m]at b;obtain⟨J,I,H,D,q,F,E⟩:=b;refine .inl ⟨⟨f0,_,.inRegion ops rest::k0,YT,st⟩,B,seen P f ((results n t).events P w #[]),(bD d m).trans ?_,⟨s,g,a⟩,⟨f0,_,.inRegion ops rest::k0,YT,st'⟩,I,H,seen P f ((results n t').events P v #[]),(bD d D).trans ?_,q,⟨rfl,qz (l.mono q.le) ((ops[i]?).bind (·.dst)) F,rfl,rfl,j.mono q.le⟩,λe p=>E e (mem_seen p)⟩;{rfl};rfl
theorem nu{x:Zm}{b:ZL}(h:(eH f t (.code (.cond x a b)::k) .run).eval x=.bool u):Y4 P main (G (eH f t (.code (.cond x a b)::k) .run) cs) w=.go (G (eH f t (.code (if u then a else b)::k) .run) cs) w #[]:=by simp only[eH]at h;simp[G,Y4,Y4.exec,eH,h]
theorem mT{x:Zm}{b:ZL}(h:∀u,(eH f t (.code (.cond x a b)::k) .run).eval x≠.bool u):∃o w2,(Y4 P main (G (eH f t (.code (.cond x a b)::k) .run) cs) w).bare=.ended o w2:=by simp only[eH]at h;simp only[G,Y4,Y4.exec,eH];simp
theorem Sg{x x':YY}(h:x=.bool u)(k:aj c r x x'):x'=.bool u:=by subst h;cases k;rfl
theorem AE(V:Listed P c gl)(U:∀g,gl g=YX->r g=YU g)(z:ep c r w v)(hr:vI c r s s')(p:F7 P c gl s)(hne:s.ret=YX->s.st≠[]):Stp P c gl r main bs w v s s':=by obtain⟨f,t,k,R,Y⟩:=s;obtain⟨f',M,k',K,L⟩:=s';obtain⟨N,y,Z,e3,d⟩:=hr;simp only at N y Z e3 d;subst f' k' K;cases R with|true=>(cases d with|nil=>simp_all|@cons f0 t0 t0' k0 l l' h0 O=>obtain⟨-,-,n,i,B,k1,e⟩:=p.below _ (Wf ..);simp only at e;subst e;exact zn z y h0 O p)|false=>cases k with|nil=>exact Stp.ctl (ret1:=YX) (k1:=[]) z y d p rfl (λ_ _ _=>by rfl) (λ_ _ _=>by rfl)|cons x k=>have q:=p.items;simp only[Xj,Wg]at q;obtain⟨q,A⟩:=q;cases x with|code a=>(cases a with|skip=>exact Stp.ctl (ret1:=YT) (k1:=k) z y d p A (λ_ _ _=>by rfl) (λ_ _ _=>by rfl)|label l=>exact Stp.ctl (ret1:=YT) (k1:=k) z y d p A (λ_ _ _=>by rfl) (λ_ _ _=>by rfl)|ret=>exact Stp.ctl (ret1:=YX) z y d p p.items (λ_ _ _=>vq) (λ_ _ _=>vq)|seq a b=>exact Stp.ctl (ret1:=YT) (k1:=.code a::.code b::k) z y d p (by simp only[bE,codeOk,Wg]at q;simp[bE,codeOk,A,q]) (λ_ _ _=>by rfl) (λ_ _ _=>by rfl)|block id a=>exact Stp.ctl (ret1:=YT) (k1:=.code a::.inBlock id::k) z y d p (by simp only[bE,codeOk,Wg]at q;simp[bE,codeOk,A,q]) (λ_ _ _=>by rfl) (λ_ _ _=>by rfl)|loop a=>exact Stp.ctl (ret1:=YT) (k1:=.code a::.inLoop a::k) z y d p (by simp only[bE,codeOk,Wg]at q;simp[bE,codeOk,A,q]) (λ_ _ _=>by rfl) (λ_ _ _=>by rfl)|scope a=>exact Stp.ctl (ret1:=YT) (k1:=.code a::.inScope a::k) z y d p (by simp only[bE,codeOk,Wg]at q;simp[bE,codeOk,A,q]) (λ_ _ _=>qj) (λ_ _ _=>qj)|refuse why=>exact .inr (.inl ⟨_,w,by rfl⟩)|exit id=>(cases D:exitTo id k with|none=>exact .inr (.inl ⟨_,w,by rw[fZ.w7,ml D];rfl⟩)|some k1=>exact Stp.ctl (ret1:=YT) z y d p (oI D A) (λ_ _ _=>by simp[G,Y4,Y4.exec,eH,md,D]) (λ_ _ _=>by simp[G,Y4,Y4.exec,eH,md,D]))|cond x a b=>simp only[bE,codeOk,Wg]at q;have hv:=tJ y U V.sn (f:=f) (k:=.code (.cond x a b)::k) (m:=.run) x q.1.1;(cases J:(eH f t (.code (.cond x a b)::k) .run).eval x with|bool u=>have:=Sg J hv;exact Stp.ctl (ret1:=YT) (k1:=.code (if u then a else b)::k) z y d p (by cases u<;>simp[bE,q,A]) (λ_ _ _=>nu J) (λ_ _ _=>nu this)|_=>exact .inr (.inl (mT λu e=>by simp_all)))|region id n F=>(have I:n.all (CL P c gl)=YX:=by assumption);(have H:∀l,(ZE.inRegion n l::k).all (bE P c gl)=YX:=λl=>by simp only[Xj,Wg];exact⟨JG I l,A⟩);(cases F with|false=>exact Stp.ctl (ret1:=YT) (k1:=.inRegion n (List.range n.size)::k) z y d p (H _) (λ_ _ _=>by rfl) (λ_ _ _=>by rfl)|true=>have X:=ae.cI (r:=r) (c:=c) (P:=P) (iG (.order f id)) w v z;unfold Stp;rw[fZ.w7,mL];cases hc:(choose (.order f id)).run P w with|halt h S=>exact .inr (.inl ⟨_,S,rfl⟩)|ok u S=>rw[hc]at X;obtain⟨u',v1,r1,N,T,q1,-⟩:=X;subst q1;refine .inl ⟨⟨f,t,_,YT,Y⟩,S,#[],rfl,⟨p.fn,H _,p.below⟩,⟨f,M,_,YT,L⟩,v1,r1,#[],?_,T,⟨rfl,y.mono T.le,rfl,rfl,d.mono T.le⟩,λe D=>by simp at D⟩;rw[fZ.w7,mL,N];rfl)|rangeFunc _ _ _ _=>simp[bE,codeOk]at q|goto l=>simp[bE,codeOk]at q)|inBlock id=>exact Stp.ctl (ret1:=YT) (k1:=k) z y d p A (λ_ _ _=>by rfl) (λ_ _ _=>by rfl)|inLoop a=>exact Stp.ctl (ret1:=YT) (k1:=.code a::.inLoop a::k) z y d p (by simp only[bE]at q;simp[bE,A,q]) (λ_ _ _=>by rfl) (λ_ _ _=>by rfl)|inScope a=>exact Stp.ctl (ret1:=YT) (k1:=k) z y d p A (λ_ _ _=>nj) (λ_ _ _=>nj)|inRegion n l=>(cases l with|nil=>exact Stp.ctl (ret1:=YT) (k1:=k) z y d p A (λ_ _ _=>by rfl) (λ_ _ _=>by rfl)|cons i B=>cases E:((n[i]?).map (Region.wanted · (Ze n t))).getD YT with|true=>(cases W:n[i]? with|none=>simp_all|some o=>rw[W]at E;exact Mh V U z y d p W (by simp_all))|false=>(have Q:((n[i]?).map (Region.wanted · (Ze n M))).getD YT=YT:=by rw[show Ze n M=Ze n t from funext λj=>rF y n j];exact E);refine .inl ⟨⟨f,_,.inRegion n B::k,YT,Y⟩,w,#[],(stepG_unwanted E).trans ?_,⟨p.fn,?_,p.below⟩,⟨f,_,.inRegion n B::k,YT,L⟩,v,r,#[],(stepG_unwanted Q).trans ?_,.refl z,⟨rfl,qz y ((n[i]?).bind (·.dst)) gJ,rfl,rfl,d⟩,λe D=>by simp at D⟩;{rfl};{have:=p.items;simp only[Xj,bE,Wg]at this⊢;simp_all};rfl)|inRangeFunc _=>simp[bE]at q|endRangeFunc _=>simp[bE]at q|beginRound=>simp[bE]at q|call _ _ _ _=>simp[bE]at q|extern _ _=>simp[bE]at q
end
def re(w:YZ)(T:Nat->ZS->Nat)(D:Nat):YZ:={w with tape:=T,drawn:=D}
@[simp]theorem Vi(w:YZ)(T b:Nat->ZS->Nat)(D a:Nat):re (re w T D) b a=re w b a:=rfl
@[simp]theorem xU(w:YZ)(T:Nat->ZS->Nat)(D:Nat):(re w T D).heap=w.heap:=rfl
@[simp]theorem C'(w:YZ)(T:Nat->ZS->Nat)(D:Nat)(a:ZA):(re w T D).cell? a=w.cell? a:=rfl
theorem CV(w:YZ)(T:Nat->ZS->Nat)(D:Nat)(p:Zf)(a:ZA)(b:Bool):(re w T D).farLoad p a b=w.farLoad p a b:=rfl
theorem xg(w:YZ)(T:Nat->ZS->Nat)(D:Nat)(p:Zf)(a:ZA)(u:Zd)(k:ZA)(v:YY)(b:Bool):(re w T D).viewStore p a u k v b=(w.viewStore p a u k v b).map λx=>(re x.1 T D,x.2):=by unfold YZ.viewStore;have e:(re w T D).seen p a u k b=w.seen p a u k b:=rfl;rw[e];generalize w.seen p a u k b=j;by_cases i:(!tight p p.depth u)=YX;{simp only[i];rfl};simp only[i,WQ];cases j with|error s=>rfl|ok x=>obtain⟨c,e,l,g,f,d⟩:=x;cases n:v.bytes? with|none=>rfl|some bytes=>simp only[bind,Except.bind,pure];by_cases h:YU bytes.length=Option.map (λx=>x.length) f.bytes?;{simp only[ne_eq,h,eq_false];generalize(List.foldlM (m:=Except String) _ c d)=z;cases z<;>rfl};simp only[ne_eq,h,eq_true];rfl
theorem rH(w:YZ)(T:Nat->ZS->Nat)(D:Nat)(p:Zf)(a:ZA)(v:YY)(b:Bool):(re w T D).farStore p a v b=(w.farStore p a v b).map λx=>(re x.1 T D,x.2):=by unfold YZ.farStore;rw[xU];cases w.heap[a.block]? with|none=>rfl|some o=>(cases o<;>try rfl);simp only[xg];generalize w.viewStore _ _ _ _ _ _=z;cases z<;>rfl
theorem EC(w:YZ)(T:Nat->ZS->Nat)(D:Nat)(a:ZA)(n:Nat):(re w T D).freeze a n=re (w.freeze a n) T D:=by unfold YZ.freeze;split<;>rfl
def AX:YY->Bool
 |.agg _|.tuple _=>YX
 |_=>YT
theorem UM(v:YY):AX v=YX\/AX v=YT:=by simp
theorem vO(m:Mode)(a:ZA)(g:Zs α){v:YY}(h:AX v=YX)(w:YZ):∃z,(Zs.store m a v g).run P w=.halt z w:=by cases v<;>simp[AX]at h<;>exact⟨_,rfl⟩
theorem u6(m:Mode)(a:ZA)(g:Zs α){v:YY}(h:AX v=YT)(w:YZ):(Zs.store m a v g).run P w=match w.cell? a with|some _=>if w.frozen? a then .halt (.unsupported (.unsafePointer "a write to bytes that a string shares")) w else g.run P (w.setCell a v)|none=>match w.farStore P a v (m==.atomic)with|.ok x=>g.run P x.1|.error h=>.halt h w:=by cases v<;>simp[AX]at h<;>(simp only[Zs.run];split;{rename_i b;rw[b]};·split<;>simp_all)
theorem qs(m:Mode)(a:ZA)(g:Zs α){v:YY}(h:AX v=YT)(w:YZ):(Zs.store m a v g).events P w #[]=match w.cell? a with|some _=>if w.frozen? a then#[]else g.events P (w.setCell a v) (#[].push ⟨.cell a,YX,m==.atomic⟩)|none=>match w.farStore P a v (m==.atomic)with|.ok x=>g.events P x.1 (#[]++x.2.toArray.map (⟨.cell ·,YX,m==.atomic⟩))|.error _=>#[]:=by cases v<;>simp[AX]at h<;>(simp only[Zs.events,Zs.runT];split<;>(try split)<;>simp_all)
theorem EK(w:YZ)(T:Nat->ZS->Nat)(D:Nat)(a:ZA):(re w T D).frozen? a=w.frozen? a:=rfl
theorem vD{w1:YZ}{p:Zf}{a:ZA}{v:YY}{b:Bool}{l:List ZA}(h:w.farStore p a v b=.ok (w1,l)):w1.drawn=w.drawn/\w1.tape=w.tape:=by have c:w.farStore p a v b=(w.farStore p a v b).map λx=>(re x.1 w.tape w.drawn,x.2):=rH w w.tape w.drawn p a v b;rw[h]at c;injection c with c;have:=(WJ c).1;exact⟨(congrArg YZ.drawn this).trans rfl,(congrArg YZ.tape this).trans rfl⟩
theorem Ax(x:Zs α):∀{w w1:YZ}{a:α},x.run P w=.ok a w1->(∀e∈x.events P w #[],e.loc≠.output)->w.drawn<=w1.drawn/\w1.tape=w.tape/\∀(T:Nat->ZS->Nat)(D:Nat),(∀j q,w.drawn+j<w1.drawn->T (D+j) q=w.tape (w.drawn+j) q)->x.run P (re w T D)=.ok a (re w1 T (D+(w1.drawn-w.drawn))):=by induction x with|pure a=>simp|halt z=>simp|program g d=>intro w w1 b h c;exact d P h c|mark m g d=>intro w w1 b h c;refine d h λe i=>c e ?_;show e∈g.events P w _;rw[Zs.events_acc];simp_all|sys s g _=>intro w w1 b h c;refine absurd rfl (c ⟨.output,YX,YT⟩ ?_);show _∈(g _).events P _ _;rw[Zs.events_acc];simp|choose q g d=>intro w w1 b h c;have B:∀u:YZ,(Zs.choose q g).run P u=if q.forced then(g 0).run P u else(g (q.cut (u.tape u.drawn q))).run P {u with drawn:=u.drawn+1}:=λ_=>rfl;(have I:(Zs.choose q g).events P w #[]=if q.forced then(g 0).events P w #[]else(g (q.cut (w.tape w.drawn q))).events P {w with drawn:=w.drawn+1} #[]:=by simp only[Zs.events,Zs.runT];grind);rw[B]at h;rw[I]at c;simp only[B];by_cases F:q.forced=YX;{grind};rw[if_neg F]at h c;simp only[F,WQ,if_false];obtain⟨J,H,K⟩:=d _ h c;simp only at J H;refine⟨by omega,H,λT D t=>?_⟩;(have:=K T (D+1) λj q M=>by have:=t (j+1) q (by grind);grind);have C:=t 0 q Ω;simp only[WO]at C;show(g (q.cut (T D q))).run P (re w T (D+1))=_;rw[C];refine Eq.trans this ?_;grind|load m a g d=>intro w w1 b h c;simp only[Zs.run,C',CV]at h⊢;(cases r:w.cell? a with|some v=>rw[r]at h;refine d v h λe i=>c e ?_;simp only[Zs.events,Zs.runT,r];show e∈(g v).events P w _;rw[Zs.events_acc];simp_all|none=>rw[r]at h;cases l:w.farLoad P a (m==.atomic)with|error z=>simp_all|ok x=>rw[l]at h;refine d x.1 h λe i=>c e ?_;simp only[Zs.events,Zs.runT,r,l];show e∈(g x.1).events P w _;rw[Zs.events_acc];simp_all)|store m a v g d=>intro w w1 b h c;rcases UM v with y|y;{obtain⟨z,N⟩:=vO (P:=P) m a g y w;simp_all};simp only[u6 m a g y,C',rH,EK]at h⊢;rw[qs m a g y]at c;(cases r:w.cell? a with|some u=>rw[r]at h c;simp only at h c⊢;split at h;{cases h};rename_i l;rw[if_neg l]at c;have:=d (w:=w.setCell a v) h λe i=>c e (by rw[Zs.events_acc];simp_all);refine⟨this.1,this.2.1,λT D t=>?_⟩;exact(if_neg l).trans (this.2.2 T D t)|none=>rw[r]at h c;simp only at h c⊢;cases l:w.farStore P a v (m==.atomic)with|error z=>simp_all|ok x=>rw[l]at h c;simp only[Except.map]at h c⊢;have A:=vD l;have:=d (w:=x.1) h λe i=>c e (by rw[Zs.events_acc];simp_all);simp_all)|new o g d=>intro w w1 b h c;exact d _ h c|shape k g d=>intro w w1 b h c;exact d _ h c|freeze a n g d=>intro w w1 b h c;(have A:(w.freeze a n).drawn=w.drawn/\(w.freeze a n).tape=w.tape:=by unfold YZ.freeze;grind);have:=d (w:=w.freeze a n) h c;rw[A.1,A.2]at this;simp only[Zs.run,EC];exact this|frozen a g d=>intro w w1 b h c;exact d _ h c|getObj k g d=>intro w w1 b h c;(cases f:w.heap[k]? with|none=>simp only[Zs.run,f]at h;cases h|some o=>cases o<;>first|(simp only[Zs.run,f]at h;cases h;done)|(simp only[Zs.run,f,xU]at h⊢;refine d _ h λe i=>c e ?_;simp only[Zs.events,Zs.runT,f];show e∈(g _).events P w _;rw[Zs.events_acc];exact WR.2 (.inr i)))|setObj k o g d=>intro w w1 b h c;cases f:w.heap[k]? with|none=>simp only[Zs.run,f]at h;cases h|some L=>cases L<;>first|(simp only[Zs.run,f]at h;cases h;done)|(simp only[Zs.run,f,xU]at h⊢;refine d (w:={w with heap:=w.heap.setIfInBounds k o}) h λe i=>c e ?_;simp only[Zs.events,Zs.runT,f];show e∈g.events P _ _;rw[Zs.events_acc];exact WR.2 (.inr i))
def nZ(r:bH):bH:=λb=>if(r b).isSome then YU b else Y1
theorem qW{k:Nat}(h:r b=YU k):nZ r b=YU b:=by simp[nZ,h]
theorem nB{k:Nat}(h:nZ r b=YU k):k=b/\∃j,r b=YU j:=by unfold nZ at h;split at h;{rename_i e;cases h;exact⟨rfl,Xx.1 e⟩};cases h
theorem di.self{a a':ZA}(h:di c r a a'):di c (nZ r) a a:=⟨qW h.1,rfl,rfl,h.2.2.2⟩
theorem mI{x:Array YY}(b:x.size=x'.size)(h:∀(i:Nat)(v a:YY),x[i]?=YU v->x'[i]?=YU a->aj c (nZ r) v v):∀(i:Nat)(v a:YY),x[i]?=YU v->x[i]?=YU a->aj c (nZ r) v a:=by grind
theorem aj.self{v v':YY}(h:aj c r v v'):aj c (nZ r) v v:=by induction h with|bool b=>exact .bool b|int k n=>exact .int k n|string s=>exact .string s|gj=>exact .gj|ptr a=>exact .ptr a.self|iu n m=>exact .iu n m|slice n m a=>exact .slice n m a.self|cW a l=>exact .cW a a|kQ=>exact .kQ|map a=>exact .map (qW a)|func g i _ j _ e f=>exact .func g rfl (mI i e) rfl (mI j f)|nilFunc=>exact .nilFunc|nilIface=>exact .nilIface|iface t _ d=>exact .iface t d|agg s _ d=>exact .agg rfl (mI s d)|tuple s _ d=>exact .tuple rfl (mI s d)
theorem au.self{x:Array YY}(h:au c r x x'):au c (nZ r) x x:=⟨rfl,mI h.size λi v d a b=>(h.el i v d a b).self⟩
theorem nA.self{o o':Zy}(h:nA c r o o'):nA c (nZ r) o o:=by cases h with|cells t f k=>exact .cells t f k.self|@map x j k s e=>refine .map k rfl λi d m a b=>?_;rw[a]at b;cases b;have g:=s▸(Wa.1 a).1;have:=e i d _ a (Wm g);exact⟨this.key.self,this.val.self,rfl⟩|iter s p=>exact .iter s p|number l a=>exact .number l a.self
theorem uW.self{o o':Option Zy}(h:uW c r b o o'):uW c (nZ r) b o o:=by cases h with|@seen x g t m j s l z y e=>refine .seen t t _ s l (V8 _) ⟨λ_=>rfl,y.2⟩ λi u p a b d=>?_;rw[b]at d;cases d;have f:=V9 (Wa.1 b).1 z;exact(e i u _ a b (Wm f)).self|own n k=>exact .own n k.self
theorem ep.self(h:ep c r w v):ep c (nZ r) w w:=by refine⟨λb k e=>?_,λb k e=>?_,λb g k e d=>?_,h.sn,λb f e=>h.hid b f (by unfold nZ at e;simp_all),λb k e=>?_,rfl,rfl,h.old,λb k e _=>(nB e).1.symm,h.jE.1,h.jE.1⟩;{obtain⟨rfl,j,a⟩:=nB e;exact h.qN _ _ a};{obtain⟨rfl,j,a⟩:=nB e;exact h.qN _ _ a};{exact .inl ((nB e).1.symm.trans (nB d).1)};obtain⟨rfl,j,a⟩:=nB e;exact(h.blk _ _ a).self
theorem kO.self{l l':List (Zi×Array YY×List ZE)}(h:kO c r l l'):kO c (nZ r) l l:=by induction h with|nil=>exact .nil|cons a _ b=>exact .cons a.self b
theorem vI.self(h:vI c r s s'):vI c (nZ r) s s:=⟨rfl,h.t.self,rfl,rfl,h.st.self⟩
theorem ep.re(h:ep c r w w)(T:Nat->ZS->Nat)(D:Nat):ep c r (re w T D) (re w T D):=⟨h.qN,h.CM,h.inj,h.sn,h.hid,h.blk,rfl,rfl,h.old,h.aI,h.jE⟩
theorem vm.zL{e:ZG}(h:vm c r e):e.loc≠.output:=by rcases h with⟨b,a,-⟩|h|⟨f,h⟩;{grind};{simp_all};simp_all
structure Fit(P:Zf)(c:eG)(gl:Nat->Bool)(s:fZ)(w:YZ):Prop where
 ok:F7 P c gl s
 rel:∃r,ep c r w w/\vI c r s s/\∀g,gl g=YX->r g=YU g
theorem Fit.re(h:Fit P c gl s w)(T:Nat->ZS->Nat)(D:Nat):Fit P c gl s (re w T D):=by obtain⟨e,r,a,b,d⟩:=h;exact⟨e,r,a.re T D,b,d⟩
theorem Fit.Qr(d:F7 P c gl s)(h:ep c r w v)(a:vI c r s s')(b:∀g,gl g=YX->r g=YU g):Fit P c gl s w:=⟨d,nZ r,h.self,a.self,λg e=>qW (b g e)⟩
def ek(P:Zf)(s:fZ)(w:YZ)(s1:fZ)(w1:YZ):Prop:=∃es,Y4 P YX (s.g [fO]) w=.go (s1.g [fO]) w1 es
theorem PM(h:st.map up=st'.map up):st=st':=by induction st generalizing st' with|nil=>simp_all|cons x l a=>cases st' with|nil=>simp at h|cons y b=>simp only[WN,Yf]at h;have:=h.1;simp only[up,eH]at this;grind
theorem Og(h:s.g [fO]=s'.g [fO]):s=s':=by obtain⟨f,t,k,b,o⟩:=s;obtain⟨l,p,n,a,j⟩:=s';simp only[fZ.g,G,eH,Y2.mk.injEq,Y8.mk.injEq]at h;obtain⟨⟨d,e,g,-,m,-⟩,i,-⟩:=h;have:=PM (List.append_cancel_right i);subst d e g this;(have:b=a:=by cases b<;>cases a<;>simp_all[md]);rw[this]
theorem Fit.step(p:Listed P c gl){s:fZ}{w:YZ}(h:Fit P c gl s w)(f:s.ret=YX->s.st≠[]):(∃a b,ek P s w a b/\Fit P c gl a b)\/SW (Y4 P YX (s.g [fO]) w):=by obtain⟨u,r,n,o,k⟩:=h;rcases AE p k n o u f with⟨a,b,d,i,t,y,C,v,A,j,x,q,-⟩|B;{refine .inl ⟨a,b,⟨d,i⟩,?_⟩;rw[i]at j;injection j with l m z;have:=Og l;subst this m;exact⟨t,v,x.rel,q,λg e=>x.le _ _ (k g e)⟩};simp_all
theorem ek.Ui{s2:fZ}{w1:YZ}(h:ek P s w s1 w1)(a:ek P s w s2 w2):s2=s1/\w2=w1:=by obtain⟨_,h⟩:=h;obtain⟨_,a⟩:=a;rw[h]at a;injection a with b d;exact⟨(Og b).symm,d.symm⟩
def bL(P:Zf)(s:fZ)(w:YZ)(s1:fZ)(w1:YZ):Prop:=
 w.drawn<=w1.drawn/\w1.tape=w.tape/\∀(T:Nat->ZS->Nat)(D:Nat),(∀j q,w.drawn+j<w1.drawn->T (D+j) q=w.tape (w.drawn+j) q)->ek P s (re w T D) s1 (re w1 T (D+(w1.drawn-w.drawn)))
theorem bL.ctl{s2:fZ}{w1:YZ}(a:ek P s w s1 w1)(h:∀w,Y4 P YX (s.g [fO]) w=.go (s2.g [fO]) w #[]):bL P s w s1 w1:=by obtain⟨rfl,rfl⟩:=a.Ui ⟨#[],h w⟩;exact⟨V8 _,rfl,λT D _=>⟨#[],by simp_all⟩⟩
theorem ek.jB{w1:YZ}(a:ek P s w s1 w1)(h:∃o w2,(Y4 P YX (s.g [fO]) w).bare=.ended o w2):False:=by obtain⟨b,e⟩:=a;simp_all
theorem ek.xc{w1:YZ}{ch:List PanicEntry}(d:ek P s w s1 w1)(h:Y4 P YX (s.g [fO]) w=.go (G (eH f t k (.panicking ch)) cs) w2 es):False:=by obtain⟨a,e⟩:=d;rw[e]at h;injection h with h;simp only[fZ.g,G,eH,Y2.mk.injEq,Y8.mk.injEq]at h;have:=h.1.2.2.2.2.1;cases b:s1.ret<;>simp[md,b]at this
theorem bL.F8{β:Type}{w1:YZ}{x:Zs β}{b:β}{s2:fZ}(k:ek P s w s1 w1)(a:x.run P w=.ok b w2)(j:∀e∈x.events P w #[],e.loc≠.output)(h:∀w w2,x.run P w=.ok b w2->ek P s w s2 w2):bL P s w s1 w1:=by obtain⟨rfl,rfl⟩:=k.Ui (h w w2 a);obtain⟨d,f,g⟩:=Ax x a j;exact⟨d,f,λT D i=>h _ _ (g T D i)⟩
theorem Lm(v:Listed P c gl){w1:YZ}(D:Fit P c gl ⟨f,t,.inRegion ops (i::rest)::k,YT,st⟩ w)(q:ek P ⟨f,t,.inRegion ops (i::rest)::k,YT,st⟩ w s1 w1)(l:ops[i]?=YU o)(a:Region.wanted o (Ze ops t)=YX):bL P ⟨f,t,.inRegion ops (i::rest)::k,YT,st⟩ w s1 w1:=by obtain⟨L,r,J,H,E⟩:=D;have I:=H.t;obtain⟨p,R⟩:=L.zS;have z:=vT p l;have d:=Bx v.aI v.ext z (ev:=(sL f t ops i rest k).eval) (λx g=>tJ I E v.sn x g) (λ_=>⟨rfl,rfl⟩) w w J;cases g:(Y3 (sL f t ops i rest k).eval o).run P w with|halt h y=>rw[g]at d;by_cases B:∃u,h=.panic u;{obtain⟨u,rfl⟩:=B;exact(q.xc (qg l a g)).elim};exact(q.jB (rS l a g d (λu e=>B ⟨u,e⟩))).elim|ok n y=>rw[g]at d;obtain⟨T,W,U,O,X,M,A⟩:=d;cases M with|@value u V S=>exact bL.F8 (s2:=⟨f,_,.inRegion ops rest::k,YT,st⟩) q g (λe m=>(A e m).zL) λw y e=>⟨_,(lC l a e).trans (by rfl)⟩|skip=>exact bL.F8 (s2:=⟨f,_,.inRegion ops rest::k,YT,st⟩) q g (λe m=>(A e m).zL) λw y e=>⟨_,(ni l a e).trans (by rfl)⟩|@enter j x N F K=>obtain⟨n,b,C,Q⟩:=Ai v F x N;exact bL.F8 (s2:=⟨j,x++Array.replicate (n-x.size) Zh,[.code b],YT,(f,t,.inRegion ops (i::rest)::k)::st⟩) q g (λe m=>(A e m).zL) λw y e=>⟨_,(lP l a e).trans (by rw[C.1];rfl)⟩
theorem Jq{w1:YZ}(o:Fit P c gl ⟨f,t,k,YX,(f0,t0,.inRegion ops (i::rest)::k0)::st⟩ w)(l:ek P ⟨f,t,k,YX,(f0,t0,.inRegion ops (i::rest)::k0)::st⟩ w s1 w1):bL P ⟨f,t,k,YX,(f0,t0,.inRegion ops (i::rest)::k0)::st⟩ w s1 w1:=by obtain⟨A,r,s,p,z⟩:=o;have q:=p.t;cases b:P.funcs[f]? with|none=>refine bL.ctl (s2:=⟨f0,(match(ops[i]?).bind (·.dst)with|some d=>t0.setIfInBounds d (t.getD 0 Zh)|none=>t0),.inRegion ops rest::k0,YT,st⟩) l λw=>?_;refine(fH b).trans ?_;rfl|some j=>have a:=ky j q (P:=P) w w s;cases m:(results j t).run P w with|halt h w1=>exact(l.jB (gU b m)).elim|ok u x=>rw[m]at a;obtain⟨D,E,C,y,F,B,v⟩:=a;refine bL.F8 (s2:=⟨f0,(match(ops[i]?).bind (·.dst)with|some d=>t0.setIfInBounds d u|none=>t0),.inRegion ops rest::k0,YT,st⟩) l m (λe n=>(v e n).zL) λw x e=>⟨seen P f ((results j t).events P w #[]),?_⟩;refine(bD b e).trans ?_;rfl
theorem ek.tape(F:Listed P c gl){w1:YZ}(y:Fit P c gl s w)(H:s.ret=YX->s.st≠[])(h:ek P s w s1 w1):bL P s w s1 w1:=by obtain⟨f,t,k,A,j⟩:=s;cases A with|true=>(cases j with|nil=>simp_all|cons x l=>obtain⟨K,N,M⟩:=x;obtain⟨-,-,g,i,p,D,e⟩:=y.ok.below _ (Wf ..);subst e;exact Jq y h)|false=>cases k with|nil=>exact bL.ctl (s2:=⟨f,t,[],YX,j⟩) h (λ_=>by rfl)|cons x k=>have m:=y.ok.items;cases x with|code a=>(cases a with|skip=>exact bL.ctl (s2:=⟨f,t,k,YT,j⟩) h (λ_=>by rfl)|label l=>exact bL.ctl (s2:=⟨f,t,k,YT,j⟩) h (λ_=>by rfl)|ret=>exact bL.ctl (s2:=⟨f,t,.code .ret::k,YX,j⟩) h (λ_=>by rfl)|seq a b=>exact bL.ctl (s2:=⟨f,t,.code a::.code b::k,YT,j⟩) h (λ_=>by rfl)|block id a=>exact bL.ctl (s2:=⟨f,t,.code a::.inBlock id::k,YT,j⟩) h (λ_=>by rfl)|loop a=>exact bL.ctl (s2:=⟨f,t,.code a::.inLoop a::k,YT,j⟩) h (λ_=>by rfl)|scope a=>exact bL.ctl (s2:=⟨f,t,.code a::.inScope a::k,YT,j⟩) h (λ_=>by rfl)|refuse J=>exact(h.jB ⟨_,w,by rfl⟩).elim|exit id=>(cases z:exitTo id k with|none=>exact(h.jB ⟨_,w,by rw[fZ.w7,ml z];rfl⟩).elim|some D=>exact bL.ctl (s2:=⟨f,t,D,YT,j⟩) h (λ_=>by simp[fZ.g,G,Y4,Y4.exec,eH,md,z]))|cond x a b=>(cases I:(eH f t (.code (.cond x a b)::k) .run).eval x with|bool u=>exact bL.ctl (s2:=⟨f,t,.code (if u then a else b)::k,YT,j⟩) h λ_=>nu I|_=>exact(h.jB (mT λu e=>by simp_all)).elim)|region id g q=>(cases q with|false=>exact bL.ctl (s2:=⟨f,t,.inRegion g (List.range g.size)::k,YT,j⟩) h (λ_=>by rfl)|true=>have E:∀w:YZ,∃u B,(choose (.order f id)).run P w=.ok u B:=λw=>⟨_,_,rfl⟩;obtain⟨u,B,e⟩:=E w;refine bL.F8 (s2:=⟨f,t,.inRegion g (Region.schedule (P.follows .mixedOrders) g u)::k,YT,j⟩) h e (λe z=>by simp_all) λw B e=>⟨#[],?_⟩;rw[fZ.w7,mL,e];rfl)|rangeFunc _ _ _ _=>simp[bE,codeOk]at m|goto l=>simp[bE,codeOk]at m)|inBlock id=>exact bL.ctl (s2:=⟨f,t,k,YT,j⟩) h (λ_=>by rfl)|inLoop a=>exact bL.ctl (s2:=⟨f,t,.code a::.inLoop a::k,YT,j⟩) h (λ_=>by rfl)|inScope a=>exact bL.ctl (s2:=⟨f,t,k,YT,j⟩) h (λ_=>by rfl)|inRegion g l=>(cases l with|nil=>exact bL.ctl (s2:=⟨f,t,k,YT,j⟩) h (λ_=>by rfl)|cons i p=>cases v:((g[i]?).map (Region.wanted · (Ze g t))).getD YT with|true=>(cases C:g[i]? with|none=>simp_all|some o=>exact Lm F y h C (by simp_all))|false=>refine bL.ctl (s2:=⟨f,(match(g[i]?).bind (·.dst)with|some d=>t.setIfInBounds d Zh|none=>t),.inRegion g p::k,YT,j⟩) h λw=>(stepG_unwanted v).trans ?_;rfl)|inRangeFunc _=>simp[bE]at m|endRangeFunc _=>simp[bE]at m|beginRound=>simp[bE]at m|call _ _ _ _=>simp[bE]at m|extern _ _=>simp[bE]at m
def FX(fr:Y8)(cs:List Y8):Prop:=
 (∃(f:Zi)(t:Array YY)(k:List ZE)(ch:List PanicEntry)(st:List (Zi×Array YY×List ZE)),fr=eH f t k (.panicking ch)/\cs=st.map up++[fO]/\(∀d w r sv,k.head?≠YU (.call d w r sv))/\∀x∈st,∃ops i rest k',x.2.2=.inRegion ops (i::rest)::k')\/
 (((∃ch,fr={fO with mode:=.panicking ch})\/fr=fO\/fr={fO with mode:=.returning})/\cs=[])
theorem FX.not{fr:Y8}(h:FX fr [fO])(a:fr.mode=.returning):False:=by rcases h with⟨f,t,k,b,d,rfl,-⟩|⟨-,h⟩;{simp[eH]at a};cases h
theorem Fv{fr:Y8}(h:FX fr cs)(w:YZ):(∃n m w',step P (lone fr cs w)=.next (lone n m w')/\FX n m)\/∃o w',step P (lone fr cs w)=.ended o w':=by rcases h with⟨f,t,k,j,A,rfl,rfl,B,q⟩|⟨h,rfl⟩;{(have u:(eH f t k (.panicking j)).catches P=YT:=by unfold Y8.catches;simp only[eH];grind);(have p:∀(x:Y8)(l:List Y8),Y4 P YX {frame:=eH f t k (.panicking j),callers:=x::l,status:=.running,dying:=Y1} w=.go {frame:=x.raise j,callers:=l,status:=.running,dying:=Y1} w #[]:=by intro x l;unfold Y8.catches eH at u;simp[Y4,unwind,eH,Y8.catches];simp_all);cases A with|nil=>exact .inl ⟨_,_,w,step_lone_go (by rw[show List.map up []++[fO]=[fO]from rfl,p];rfl),.inr ⟨.inl ⟨j,rfl⟩,rfl⟩⟩|cons x l=>obtain⟨z,i,s,C,e⟩:=q x (Wf ..);refine .inl ⟨_,_,w,step_lone_go (by rw[show List.map up (x::l)++[fO]=up x::(List.map up l++[fO])from rfl,p];rfl),.inl ⟨x.1,x.2.1,x.2.2,j,l,rfl,rfl,λd w r D=>by grind,λy v=>q y (Wo _ v)⟩⟩};refine ?_;rcases h with⟨j,rfl⟩|rfl|rfl;{exact .inr ⟨_,w,step_lone_ended (by rfl)⟩};{exact .inl ⟨_,_,w,step_lone_go (by rfl),.inr ⟨.inr (.inr rfl),rfl⟩⟩};exact .inr ⟨_,w,step_lone_ended (by rfl)⟩
section
theorem runN_add:∀{k:Nat}{m m':Machine},runN P i m=.next m'->runN P (i+k) m=runN P k m':=by induction i with|zero=>intro k m m' h;cases h;simp|succ i a=>intro k m m' h;rw[show i+1+k=(i+k)+1 by omega];simp only[runN]at h⊢;grind
theorem Ip{m m':Machine}(h:step P m=.next m'):runN P 1 m=.next m':=by simp[runN,h]
theorem oN:∀(n:Nat){fr:Y8}{cs:List Y8}{w:YZ},FX fr cs->∀{fr':Y8}{w':YZ},runN P n (lone fr cs w)=.next (lone fr' [fO] w')->fr'.mode=.returning->False:=by intro n;induction n with|zero=>intro fr cs w h fr' w' e a;simp only[runN,lone,Stepped.next.injEq,Machine.mk.injEq]at e;have:=e.2.1;obtain⟨rfl,rfl⟩:=this;exact h.not a|succ n j=>intro fr cs w h fr' w' e a;simp only[runN]at e;rcases Fv (P:=P) h w with⟨f,b,g,d,i⟩|⟨o,g,d⟩;{grind};simp_all
def BD(s:fZ)(w:YZ):Machine:=lone (eH s.f s.t s.k (md s.ret)) (s.st.map up++[fO]) w
theorem lz{w1:YZ}{fr:Y8}(h:Y4 P YX (s.g [fO]) w=.go (G fr cs) w1 es):step P (BD s w)=.next (lone fr cs w1):=step_lone_go (by have:Y4 P YX {frame:=eH s.f s.t s.k (md s.ret),callers:=s.st.map up++[fO],status:=.running,dying:=Y1} w=.go (G fr cs) w1 es:=h;rw[this];rfl)
theorem ek.UK{w1:YZ}(h:ek P s w s1 w1):step P (BD s w)=.next (BD s1 w1):=by obtain⟨a,e⟩:=h;exact lz e
theorem EM(h:SW (Y4 P YX (s.g [fO]) w))(e:runN P (n+1) (BD s w)=.next (lone fr' [fO] w'))(i:fr'.mode=.returning):False:=by simp only[runN]at e;rcases h with⟨o,a,h⟩|⟨f,t,k,b,j,a,l,h,d,g⟩;{rw[show step P (BD s w)=.ended o a from step_lone_ended h]at e;cases e};rw[lz h]at e;exact oN n (.inl ⟨f,t,k,b,j,rfl,rfl,d,g⟩) e i
theorem SW.not{w1:YZ}(a:ek P s w s1 w1)(h:SW (Y4 P YX (s.g [fO]) w)):False:=by rcases h with h|⟨f,t,k,b,e,w1,d,h,-⟩;{exact a.jB h};exact a.xc h
def QZ(s:fZ):Prop:=s.ret=YX/\s.st=[]
theorem ED(p:QZ s)(e:runN P (n+1) (BD s w)=.next (lone fr' [fO] w'))(j:fr'.mode=.returning):False:=by obtain⟨f,t,k,q,z⟩:=s;obtain⟨d,g⟩:=p;subst d g;have i:FX fO []:=.inr ⟨.inr (.inl rfl),rfl⟩;have a:∀v,fO.finish v=fO:=λv=>rfl;simp only[runN]at e;cases b:P.funcs[f]? with|none=>rw[lz ((fH b).trans (by rw[a]))]at e;exact oN n i e j|some m=>cases l:(results m t).run P w with|halt h r=>obtain⟨o,y,h⟩:=gU b l;rw[show step P (BD ⟨f,t,k,YX,[]⟩ w)=.ended o y from step_lone_ended h]at e;cases e|ok u r=>rw[lz ((bD b l).trans (by rw[a]))]at e;exact oN n i e j
inductive Lone(P:Zf)(Good:YY->YZ->Prop):fZ->YZ->Prop
 |done{s:fZ}{w:YZ}{fn:Func}{v:YY}:QZ s->P.funcs[s.f]?=YU fn->(∀T D,(results fn s.t).run P (re w T D)=.ok v (re w T D)/\Good v (re w T D))->Lone P Good s w
 |step{s:fZ}{w:YZ}:¬QZ s->(∀T D,∃s1 w1,ek P s (re w T D) s1 w1)->(∀T D s1 w1,ek P s (re w T D) s1 w1->Lone P Good s1 w1)->Lone P Good s w
section bar
variable(P)(Good:YY->YZ->Prop)
noncomputable def wR(p:fZ×YZ):(Nat->ZS->Nat)×Nat:=open Classical in
 if h:∃a:(Nat->ZS->Nat)×Nat,∀s1 w1,ek P p.1 (re p.2 a.1 a.2) s1 w1->¬Lone P Good s1 w1 then Classical.choose h else(λ_ _=>0,0)
def Live(p:fZ×YZ):Prop:=¬QZ p.1/\∃q:fZ×YZ,ek P p.1 (re p.2 (wR P Good p).1 (wR P Good p).2) q.1 q.2
noncomputable def GD(p:fZ×YZ):fZ×YZ:=open Classical in if h:Live P Good p then Classical.choose h.2 else p
noncomputable def iC(p:fZ×YZ):Nat->fZ×YZ
 |0=>p
 |i+1=>GD P Good (iC p i)
noncomputable def pos(p:fZ×YZ):Nat->Nat
 |0=>0
 |i+1=>open Classical in if Live P Good (iC P Good p i)then pos p i+((iC P Good p (i+1)).2.drawn-(wR P Good (iC P Good p i)).2)else pos p i
def Rm(p:fZ×YZ)(i n:Nat):Prop:=pos P Good p i<=n/\(n<pos P Good p (i+1)\/¬Live P Good (iC P Good p i))
noncomputable def yO(p:fZ×YZ)(n:Nat)(q:ZS):Nat:=open Classical in
 if h:∃i,Rm P Good p i n then(wR P Good (iC P Good p (Classical.choose h))).1 ((wR P Good (iC P Good p (Classical.choose h))).2+(n-pos P Good p (Classical.choose h))) q else 0
end bar
section bar
theorem I7(k:¬Lone P Good s w)(l:¬QZ s):∀d e,ek P s (re w (wR P Good (s,w)).1 (wR P Good (s,w)).2) d e->¬Lone P Good d e:=by(have h:∃a:(Nat->ZS->Nat)×Nat,∀d e,ek P s (re w a.1 a.2) d e->¬Lone P Good d e:=by refine Xa λj=>k ?_;refine .step l (λT D=>?_) (λT D d e g=>?_);{refine Xa λf=>j ⟨(T,D),λd e g=>absurd ⟨d,e,g⟩ f⟩};refine Xa λf=>j ⟨(T,D),λm n i=>?_⟩;obtain⟨rfl,rfl⟩:=g.Ui i;exact f);unfold wR;grind
theorem y5(h:Live P Good p):ek P p.1 (re p.2 (wR P Good p).1 (wR P Good p).2) (GD P Good p).1 (GD P Good p).2:=by unfold GD;grind
theorem A7(h:¬Live P Good p):GD P Good p=p:=by unfold GD;simp_all
theorem tD(h:Live P Good (iC P Good p i)):pos P Good p (i+1)=pos P Good p i+((iC P Good p (i+1)).2.drawn-(wR P Good (iC P Good p i)).2):=by exact@if_pos _ (Classical.propDecidable _) h _ _ _
theorem Bl(h:¬Live P Good (iC P Good p i)):pos P Good p (i+1)=pos P Good p i:=by exact@if_neg _ (Classical.propDecidable _) h _ _ _
theorem IT{j:Nat}(h:i<=j):pos P Good p i<=pos P Good p j:=by induction h with|refl=>omega|@step m _ b=>by_cases a:Live P Good (iC P Good p m);{rw[tD a];omega};rw[Bl a];omega
theorem EA{j:Nat}(h:i<=j)(d:¬Live P Good (iC P Good p i)):iC P Good p j=iC P Good p i/\pos P Good p j=pos P Good p i:=by induction h with|refl=>simp|@step m _ b=>(have a:¬Live P Good (iC P Good p m):=by simp_all);exact⟨(A7 a).trans b.1,(Bl a).trans b.2⟩
theorem JO(h:Rm P Good p i n)(q:ZS):yO P Good p n q=(wR P Good (iC P Good p i)).1 ((wR P Good (iC P Good p i)).2+(n-pos P Good p i)) q:=by(have g:∀{i j:Nat},i<=j->Rm P Good p i n->Rm P Good p j n->iC P Good p j=iC P Good p i/\pos P Good p j=pos P Good p i:=by intro i j a e f;by_cases d:Live P Good (iC P Good p i);{rcases Nat.eq_or_lt_of_le a with rfl|b;{simp};have:=IT (P:=P) (Good:=Good) (p:=p) (show i+1<=j from b);rcases e.2 with h|h;{have:=f.1;omega};simp_all};exact EA a d);have k:∃i,Rm P Good p i n:=⟨i,h⟩;unfold yO;grind
variable(hl:Listed P c gl)
include hl
theorem yx(j:Fit P c gl p.1 p.2)(k:¬Lone P Good p.1 p.2):∀i,Fit P c gl (iC P Good p i).1 (iC P Good p i).2/\¬Lone P Good (iC P Good p i).1 (iC P Good p i).2:=by intro i;induction i with|zero=>exact⟨j,k⟩|succ i b=>show Fit P c gl (GD P Good (iC P Good p i)).1 (GD P Good (iC P Good p i)).2/\¬Lone P Good (GD P Good (iC P Good p i)).1 (GD P Good (iC P Good p i)).2;by_cases h:Live P Good (iC P Good p i);{have a:=y5 h;refine⟨?_,I7 b.2 h.1 _ _ a⟩;rcases(b.1.re _ _).step hl (λe d=>h.1 ⟨e,d⟩)with⟨o,q,f,n⟩|g;{obtain⟨l,m⟩:=f.Ui a;simp_all};exact(g.not a).elim};rw[A7 h];exact b
theorem GO(g:Fit P c gl p.1 p.2)(k:¬Lone P Good p.1 p.2)(h:Live P Good (iC P Good p i)):ek P (iC P Good p i).1 (re (iC P Good p i).2 (yO P Good p) (pos P Good p i)) (iC P Good p (i+1)).1 (re (iC P Good p (i+1)).2 (yO P Good p) (pos P Good p (i+1))):=by have l:=y5 h;obtain⟨m,n,d⟩:=l.tape hl ((yx hl g k i).1.re _ _) (λe b=>h.1 ⟨e,b⟩);have a:(iC P Good p (i+1))=GD P Good (iC P Good p i):=rfl;(have:=d (yO P Good p) (pos P Good p i) λj q o=>by have f:Rm P Good p i (pos P Good p i+j):=⟨Xi ..,.inl (by rw[tD h,a];have:(re (iC P Good p i).2 (wR P Good (iC P Good p i)).1 (wR P Good (iC P Good p i)).2).drawn=(wR P Good (iC P Good p i)).2:=rfl;omega)⟩;rw[JO f];show _=(wR P Good (iC P Good p i)).1 ((wR P Good (iC P Good p i)).2+j) q;simp);rw[tD h,a];exact this
theorem D4(a:Fit P c gl p.1 p.2)(b:¬Lone P Good p.1 p.2):∀i,(∀l,l<i->Live P Good (iC P Good p l))->runN P i (BD p.1 (re p.2 (yO P Good p) 0))=.next (BD (iC P Good p i).1 (re (iC P Good p i).2 (yO P Good p) (pos P Good p i))):=by intro i;induction i with|zero=>intro _;rfl|succ i d=>intro h;rw[runN_add (d λl hl=>h l Ω)];exact Ip (GO hl a b (h i Ω)).UK
theorem yr(o:∀v w T D,Good v w->Good v (re w T D))(W:Fit P c gl s w)(H:∀T,∃n K w' v,runN P n (BD s (re w T 0))=.next (lone K [fO] w')/\K.leaving P w' (.returned v)/\Good v w'):Lone P Good s w:=by refine Xa λhn=>?_;have f:Fit P c gl (s,w).1 (s,w).2:=W;have g:¬Lone P Good (s,w).1 (s,w).2:=hn;obtain⟨n,K,w',v,E,⟨C,hd,hk,J,R,h⟩,X⟩:=H (yO P Good (s,w));by_cases z:∀l,l<n->Live P Good (iC P Good (s,w) l);{have:=D4 hl f g n z;rw[show BD (s,w).1 (re (s,w).2 (yO P Good (s,w)) 0)=BD s (re w (yO P Good (s,w)) 0)from rfl,E]at this;obtain⟨a,b⟩:=yx hl f g n;generalize iC P Good (s,w) n=q at this a b;simp only[BD,lone,Stepped.next.injEq,Machine.mk.injEq,Array.mk.injEq,Yf,Y2.mk.injEq,and_true]at this;obtain⟨rfl,rfl,A⟩:=this;(have B:QZ q.1:=by refine⟨?_,?_⟩;{cases E:q.1.ret with|true=>rfl|false=>rw[E]at C;cases C};cases hq:q.1.st with|nil=>rfl|cons x l=>rw[hq]at A;have:=congrArg List.length A;grind);refine b (.done (v:=v) B R λT D=>?_);(have O:∀e∈(results J q.1.t).events P (re q.2 (yO P Good (s,w)) (pos P Good (s,w) n)) #[],e.loc≠.output:=by obtain⟨ok,r,L,y,-⟩:=a.re (yO P Good (s,w)) (pos P Good (s,w) n);have:=ky J y.t (P:=P) _ _ L;rw[show(results J q.1.t).run P (re q.2 (yO P Good (s,w)) (pos P Good (s,w) n))=_ from h]at this;obtain⟨_,_,r1,_,_,_,l1⟩:=this;exactλe V=>(l1 e V).zL);obtain⟨-,-,M⟩:=Ax _ h O;have N:=M T D λj q Z=>absurd Z Ω;rw[Nat.sub_self]at N;exact⟨N,o v (re q.2 (yO P Good (s,w)) (pos P Good (s,w) n)) T D X⟩};(have:∃i,i<n/\¬Live P Good (iC P Good (s,w) i)/\∀l,l<i->Live P Good (iC P Good (s,w) l):=by(have Q:∃i,i<n/\¬Live P Good (iC P Good (s,w) i):=by simp_all);obtain⟨i,hi⟩:=Q;induction i using Nat.strongRecOn with|_ i ih=>grind);obtain⟨i,Y,d,u⟩:=this;have L:=D4 hl f g i u;obtain⟨k,rfl⟩:∃k,n=i+(k+1):=⟨n-i-1,by omega⟩;have y:=runN_add (k:=k+1) L;rw[show BD (s,w).1 (re (s,w).2 (yO P Good (s,w)) 0)=BD s (re w (yO P Good (s,w)) 0)from rfl,E]at y;obtain⟨a,b⟩:=yx hl f g i;by_cases F:QZ (iC P Good (s,w) i).1;{exact ED F y.symm C};rcases(a.re (yO P Good (s,w)) (pos P Good (s,w) i)).step hl (λe I=>F ⟨e,I⟩)with⟨s1,w1,M,N⟩|U;{obtain⟨-,-,S⟩:=M.tape hl (a.re _ _) (λe I=>F ⟨e,I⟩);(have:=S (wR P Good (iC P Good (s,w) i)).1 (wR P Good (iC P Good (s,w) i)).2 λj q _=>by show _=yO P Good (s,w) (pos P Good (s,w) i+j) q;rw[JO (i:=i) ⟨Xi ..,.inr d⟩,Nat.add_sub_cancel_left]);exact d ⟨F,(s1,_),this⟩};exact EM U y.symm C
end bar
end
structure Env(own RO:Nat->Prop)(CU:Nat->Nat->Prop)(v v1:YZ):Prop where
 keep:∀k,own k\/RO k->v1.heap[k]?=v.heap[k]?
 cut:∀k n,CU k n->∀(x:Array YY)(t:Zd)(fr:Nat×Nat),v.heap[k]?=YU (.cells x t fr)->∃x' fr',v1.heap[k]?=YU (.cells x' t fr')/\x'.size=x.size/\∀o,o<n->x'[o]?=x[o]?
 grow:v.heap.size<=v1.heap.size
def Vr(own RO:Nat->Prop)(CU:Nat->Nat->Prop)(e:ZG):Prop:=
 (∃k,(match e.loc with|.cell a=>a.block=k|.obj j=>j=k|_=>False)/\(own k\/(RO k/\e.write=YT))/\e.sync=YT)\/(∃k n o,CU k n/\o<n/\e=⟨.cell ⟨k,o,Y1⟩,YT,YT⟩)\/e.loc=.mark .noRoom\/∃f,e.loc=.mark (.extern f)
def more(own:Nat->Prop)(v v':YZ):Nat->Prop:=λk=>own k\/(v.heap.size<=k/\k<v'.heap.size)
structure lX(own RO:Nat->Prop)(CU:Nat->Nat->Prop)(v v':YZ)(es:Array ZG):Prop where
 keep:∀k,k<v.heap.size->¬own k->v'.heap[k]?=v.heap[k]?
 grow:v.heap.size<=v'.heap.size
 os:v'.os=v.os
 out:v'.output=v.output
 tape:v'.tape=v.tape
 evs:∀e∈es,Vr (more own v v') RO CU e
inductive Loc(P:Zf)(main:Bool)(RO:Nat->Prop)(CU:Nat->Nat->Prop)(Stop:(Nat->Prop)->Y2->YZ->Prop):(Nat->Prop)->Y2->YZ->Prop
 |stop{own:Nat->Prop}{g:Y2}{v:YZ}:Stop own g v->Loc P main RO CU Stop own g v
 |step{own:Nat->Prop}{g:Y2}{v:YZ}:g.status=.running->(∀v1,Env own RO CU v v1->∃g' v' es,Y4 P main g v1=.go g' v' es/\lX own RO CU v1 v' es)->
  (∀v1 g' v' es,Env own RO CU v v1->Y4 P main g v1=.go g' v' es->Loc P main RO CU Stop (more own v1 v') g' v')->Loc P main RO CU Stop own g v
structure Reach(c:eG)(r:bH)(own RO:Nat->Prop)(CU:Nat->Nat->Prop)(v:YZ):Prop where
 CM:∀b k,r b=YU k->own k\/(c.seen b/\(RO k\/CU k (c.N0 b)))
 old:∀k,own k\/RO k->k<v.heap.size
theorem ep.env(h:ep c r w v)(z:Reach c r own RO CU v)(f:Env own RO CU v v1):ep c r (Go.ae.re w v1.tape v1.drawn) v1:=⟨h.qN,λb k e=>V9 (h.CM b k e) f.grow,h.inj,h.sn,h.hid,λb k e=>by have:=h.blk b k e;rcases z.CM b k e with g|⟨C,g|g⟩;{rw[f.keep k (.inl g)];exact this};{rw[f.keep k (.inr g)];exact this};show uW c r b w.heap[b]? v1.heap[k]?;revert this;generalize w.heap[b]?=J;generalize j:v.heap[k]?=I;intro this;cases this with|@seen x A t m q s l D y e=>obtain⟨K,p,o,F,E⟩:=f.cut k _ g A m q j;rw[o];refine .seen t m p s l Ω y λi u H a b d=>?_;grind|own n _=>simp_all,rfl,rfl,h.old,h.aI,h.jE.1,Wk h.jE.2 f.grow⟩
theorem Reach.env(a:Reach c r own RO CU v)(b:Env own RO CU v v1):Reach c r own RO CU v1:=⟨a.CM,λk h=>V9 (a.old k h) b.grow⟩
theorem Ext.mine(h:Ext c r w v r' w' v')(m:Reach c r own RO CU v)(u:∀e∈es,vm c r' e):lX own RO CU v v' es/\Reach c r' (more own v v') RO CU v':=by have q:=h.size;have D:=h.grow;(have f:∀b k,r' b=YU k->more own v v' k\/(c.seen b/\(RO k\/CU k (c.N0 b))):=λb k e=>by rcases WV b w.heap.size with g|g;{rw[h.zP b g]at e;rcases m.CM b k e with x|x;{exact .inl (.inl x)};simp_all};have n:=h.rel.qN b k e;have o:=h.rel.CM b k e;rw[h.new b g n]at e;cases e;exact .inl (.inr ⟨by omega,o⟩));refine⟨⟨λk d E=>h.keep k d λb g=>?_,by omega,h.os,h.out,h.tape,λe y=>?_⟩,f,λk d=>?_⟩;{rcases m.CM b k g with x|x;{simp_all};grind};{rcases u e y with⟨b,g,F,l⟩|x;{(have:∃k,(match e.loc with|.cell a=>a.block=k/\(c.seen b->a.off<c.N0 b/\a.spot=Y1)|.obj j=>j=k/\¬c.seen b|_=>False)/\r' b=YU k:=by grind);obtain⟨k,n,o⟩:=this;(have i:(match e.loc with|.cell a=>a.block=k|.obj j=>j=k|_=>False):=by grind);rcases f b k o with x|⟨q,x|x⟩;{exact .inl ⟨k,i,.inl x,l⟩};{refine .inl ⟨k,i,.inr ⟨x,?_⟩,l⟩;simp_all};refine .inr (.inl ?_);obtain⟨p,I,H⟩:=e;cases p with|cell a=>obtain⟨rfl,t⟩:=n;obtain⟨B,C⟩:=t q;obtain⟨z,A,s⟩:=a;grind|obj j=>simp_all|_=>grind};exact .inr (.inr x)};rcases d with(d|d)|d;{have:=m.old k (.inl d);omega};{exact d.2};have:=m.old k (.inr d);omega
structure Left(c:eG)(r:bH)(own RO:Nat->Prop)(v:YZ)(own1:Nat->Prop)(v1:YZ):Prop where
 keep:∀k,own k\/RO k->(∀b,r b=YU k->c.seen b)->v1.heap[k]?=v.heap[k]?
 mine:∀k,own1 k->own k\/v.heap.size<=k
 more:∀k,own k->own1 k
 grow:v.heap.size<=v1.heap.size
theorem Left.refl(c:eG)(r:bH)(own RO:Nat->Prop)(v:YZ):Left c r own RO v own v:=⟨λ_ _ _=>rfl,λ_ h=>.inl h,λ_ h=>h,V8 _⟩
theorem Left.after{own1:Nat->Prop}{v2:YZ}(n:Reach c r own RO CU v)(m:Env own RO CU v v1)(f:Ext c r w v1 r' w' v')(h:Left c r' (Go.ae.more own v1 v') RO v' own1 v2):Left c r own RO v own1 v2:=by have q:=f.size;have p:=f.grow;have j:=m.grow;(have l:∀b k,k<v1.heap.size->r' b=YU k->r b=YU k:=λb k a e=>by rcases WV b w.heap.size with d|d;{rw[<-f.zP b d];exact e};have i:=f.rel.qN b k e;rw[f.new b d i]at e;grind);refine⟨λk a d=>?_,λk a=>?_,λk a=>h.more k (.inl a),by have:=h.grow;omega⟩;{have g:k<v1.heap.size:=V9 (n.old k a) j;rw[h.keep k (a.imp .inl id) λb e=>d b (l b k g e),f.keep k g d,m.keep k a]};rcases h.mine k a with(i|i)|i;{grind};{omega};omega
theorem Lone.loc(hl:Listed P c gl)(h:Lone P Good s w):∀{r:bH}{own:Nat->Prop}{v:YZ}{s':fZ},F7 P c gl s->(∃T D,ep c r (re w T D) v)->vI c r s s'->(∀g,gl g=YX->r g=YU g)->Reach c r own RO CU v->(∀a x u p n v1,r.le a->Good u n->ep c a n v1->aj c a u p->Reach c a x RO CU v1->Left c r own RO v x v1->Loc P main RO CU Stop x (G (caller.finish p) cs) v1)->Loc P main RO CU Stop own (s'.g (caller::cs)) v:=by induction h with|@done s w U u ht H hd=>intro r own v s' hs⟨T,D,Z⟩Y W b K;obtain⟨f,t,k,ret,st⟩:=s;obtain⟨f',t',k',M,st'⟩:=s';obtain⟨e1,J,e2,e3,I⟩:=Y;simp only at e1 J e2 e3 I H;obtain⟨h1,h2⟩:=ht;simp only at h1 h2;subst f' k' M h1 h2;cases I;(have q:∀v1,Env own RO CU v v1->∃p j a,Y4 P main ((fZ.mk f t' k YX []).g (caller::cs)) v1=.go (G (caller.finish p) cs) j (seen P f ((results U t').events P v1 #[]))/\Ext c r (re w v1.tape v1.drawn) v1 a (re w v1.tape v1.drawn) j/\aj c a u p/\(∀e∈seen P f ((results U t').events P v1 #[]),vm c a e):=by intro v1 d;have E:ep c r (re w v1.tape v1.drawn) v1:=Z.env b d;have A:=ky U J (P:=P) _ _ E;rw[(hd v1.tape v1.drawn).1]at A;obtain⟨p,j,a,o,l,y,i⟩:=A;exact⟨p,j,a,bD H o,l,y,λe C=>i e (mem_seen C)⟩);refine .step rfl (λv1 d=>?_) (λv1 g' v' B d C=>?_);{obtain⟨p,j,a,o,l,y,i⟩:=q v1 d;exact⟨_,_,_,o,(l.mine (b.env d) i).1⟩};obtain⟨p,j,a,o,l,y,i⟩:=q v1 d;rw[o]at C;injection C with O Q R;subst O Q R;exact K a _ u p _ j l.le (hd v1.tape v1.drawn).2 l.rel y (l.mine (b.env d) i).2 (Left.after b d l (Left.refl ..))|@step s w X V hall ih=>intro r own v s' hs⟨T,D,Z⟩Y W b K;(have q:∀v1,Env own RO CU v v1->∃z n m j a B,ek P s (re w v1.tape v1.drawn) z n/\F7 P c gl z/\Y4 P main (s'.g (caller::cs)) v1=.go (m.g (caller::cs)) j B/\Ext c r (re w v1.tape v1.drawn) v1 a n j/\vI c a z m/\(∀e∈B,vm c a e):=by intro v1 d;have E:ep c r (re w v1.tape v1.drawn) v1:=Z.env b d;rcases AE (main:=main) (bs:=caller::cs) hl W E Y hs (λe e'=>X ⟨e,e'⟩)with⟨z,n,S,o,l,m,j,a,B,y,i,N,F⟩|hb;{exact⟨z,n,m,j,a,B,⟨S,o⟩,l,y,i,N,F⟩};obtain⟨z,n,o⟩:=V v1.tape v1.drawn;exact(hb.not o).elim);refine .step rfl (λv1 d=>?_) (λv1 g' v' B d C=>?_);{obtain⟨z,n,m,j,a,B,o,l,y,i,N,F⟩:=q v1 d;exact⟨_,_,_,y,(i.mine (b.env d) F).1⟩};obtain⟨z,n,m,j,a,es',o,l,y,i,N,F⟩:=q v1 d;rw[y]at C;injection C with O Q R;subst O Q R;refine ih v1.tape v1.drawn z n o l ⟨n.tape,n.drawn,i.rel⟩ N (λg e=>i.le _ _ (W g e)) (i.mine (b.env d) F).2 λr2 L u p w2 v3 c1 c2 c3 c4 c5 c6=>?_;exact K r2 L u p w2 v3 (bH.le_trans i.le c1) c2 c3 c4 c5 (Left.after b d i c6)
def entry(f:Zi)(fn:Func)(b:ZL)(args:Array YY):fZ:=⟨f,args++Array.replicate (fn.ntmps-args.size) Zh,[.code b],YT,[]⟩
theorem vK(p:Listed P c gl){b:ZL}(a:∀v w T D,Good v w->Good v (re w T D))(d:Fit P c gl (entry f fn b args) w)(m:P.funcs[f]?=YU fn)(l:fn.body=YU b)(H:∀T,Calls P f args (re w T 0) R)(k:∀e w',R e w'->∃v,e=.returned v/\Good v w'):Lone P Good (entry f fn b args) w:=by refine yr p a d λT=>?_;obtain⟨e,w',g,h,i,s,j⟩:=H T [fO];obtain⟨v,rfl,o⟩:=k e w' h;obtain⟨n,q⟩:=i;refine⟨n,g,w',v,?_,j,o⟩;rw[<-q];congr 1;rw[iw args m,l];rfl
theorem Loc.call(q:Listed P c gl){b:ZL}{args':Array YY}(j:∀v w T D,Good v w->Good v (re w T D))(E:∀e w',R e w'->∃v,e=.returned v/\Good v w')(o:P.funcs[f]?=YU fn)(p:c.fns f=YX)(n:fn.body=YU b)(t:∀g,gl g=YX->r g=YU g)(a:au c r args args')(i:ep c r w v)(s:Reach c r own RO CU v)(H:∀T,Calls P f args (re w T 0) R)(K:∀m d u A B v1,r.le m->Good u B->ep c m B v1->aj c m u A->Reach c m d RO CU v1->Left c r own RO v d v1->Loc P main RO CU Stop d (G (caller.finish A) cs) v1):Loc P main RO CU Stop own (G (Y8.enter P f args' .normal) (caller::cs)) v:=by(have z:F7 P c gl (entry f fn b args):=by refine⟨trivial,?_,λx F=>by simp[entry]at F⟩;obtain⟨I,h|⟨h,C⟩⟩:=q.body f fn p o;{simp_all};rw[n]at h;cases h;simp[entry,bE,C]);have y:vI c r (entry f fn b args) (entry f fn b args'):=⟨rfl,by show au c r (args++_) (args'++_);rw[a.size];exact a.append (.replicate _ gJ),rfl,rfl,.nil⟩;have l:=Fit.Qr z i y t;have k:=vK q j l o n H E;have:=k.loc q (main:=main) (RO:=RO) (CU:=CU) (Stop:=Stop) (caller:=caller) (cs:=cs) z ⟨w.tape,w.drawn,i⟩ y t s K;rw[iw args' o,n];exact this
structure ic where
 k:Nat
 low:Nat
 t:Zd
 x:Array YY
def ic.obj(s:ic):Zy:=.cells s.x (if s.low=0 then s.t else yu) (0,s.x.size)
def gH(g:Nat)(ws:List ic)(v:YZ):YZ:={v with heap:=Array.replicate g (.cells #[] 0)++(ws.map ic.obj).toArray}
def jO(P:Zf)(fns:Zi->Bool)(ws:List ic):eG:=
 {fns:=fns,seen:=λb=>P.globals.size<=b/\b<P.globals.size+ws.length,N0:=λb=>if b<P.globals.size then 0 else((ws[b-P.globals.size]?).map λs=>s.x.size).getD 0,aI:=P.globals.size,
   low:=λb=>if b<P.globals.size then 0 else((ws[b-P.globals.size]?).map λs=>s.low).getD 0}
def lT(g:Nat)(ws:List ic):bH:=λb=>if b<g then Y1 else(ws[b-g]?).map λs=>s.k
theorem fQ{ws:List ic}{k:Nat}(h:lT g ws b=YU k):∃(i:Nat)(s:ic),b=g+i/\ws[i]?=YU s/\s.k=k/\i<ws.length:=by unfold lT at h;grind
theorem Lf{ws:List ic}{s:ic}(h:ws[i]?=YU s):lT g ws (g+i)=YU s.k:=by unfold lT;simp_all
theorem lJ(g:Nat)(ws:List ic)(v:YZ):(gH g ws v).heap.size=g+ws.length:=by simp[gH]
theorem wF{ws:List ic}{s:ic}(h:ws[i]?=YU s):(gH g ws v).heap[g+i]?=YU s.obj:=by show(Array.replicate g _++_)[g+i]?=_;grind
theorem Cl{ws:List ic}(h:b<g):(gH g ws v).heap[b]?=YU (.cells #[] 0):=by show(Array.replicate g _++_)[b]?=_;grind
theorem iv{ws:List ic}{o:Nat}{s:ic}{u:YY}(h:ws[i]?=YU s)(a:s.x[o]?=YU u):(gH g ws v).cell? ⟨g+i,o,Y1⟩=YU u:=by simp[YZ.cell?,wF h,ic.obj,a]
structure vC(P:Zf)(fns:Zi->Bool)(ws:List ic)(v:YZ):Prop where
 jE:P.globals.size<=v.heap.size
 bad:P.info? yu=Y1
 at_:∀(i:Nat)(s:ic),ws[i]?=YU s->∃(x':Array YY)(t':Zd)(fr:Nat×Nat),v.heap[s.k]?=YU (.cells x' t' fr)/\s.x.size<=x'.size/\(s.low=0->s.t=t')/\
  ∀(j:Nat)(u u':YY),s.low<=j->s.x[j]?=YU u->x'[j]?=YU u'->aj (jO P fns ws) (lT P.globals.size ws) u u'
theorem vC.rel{ws:List ic}(h:vC P fns ws v):ep (jO P fns ws) (lT P.globals.size ws) (gH P.globals.size ws v) v:=by refine⟨λb k e=>?_,λb k e=>?_,λb D k e w=>?_,λb g=>?_,λb g _=>Cl g,λb k e=>?_,rfl,rfl,λb g=>?_,λb k e q=>?_,?_⟩;{obtain⟨i,s,rfl,f,y,m⟩:=fQ e;rw[lJ];omega};{obtain⟨i,s,rfl,f,rfl,m⟩:=fQ e;obtain⟨C,t,o,p,-⟩:=h.at_ i s f;grind};{obtain⟨i,s,rfl,f,y,m⟩:=fQ e;obtain⟨I,J,rfl,x,z,A⟩:=fQ w;exact .inr ⟨⟨Xi _ _,by omega⟩,⟨Xi _ _,by omega⟩⟩};{show(if b<P.globals.size then 0 else _)=0;split;{rfl};rename_i H;(have:ws[b-P.globals.size]?=Y1:=by rw[List.getElem?_eq_none_iff];have:¬(P.globals.size<=b/\b<P.globals.size+ws.length):=g;omega);simp_all};{obtain⟨i,s,rfl,f,rfl,m⟩:=fQ e;obtain⟨C,t,o,p,B,E,F⟩:=h.at_ i s f;rw[wF f,p];(have l:(jO P fns ws).low (P.globals.size+i)=s.low:=by show(if _<_ then 0 else _)=_;grind);refine .seen _ t o ⟨Xi _ _,by omega⟩ ?_ B ⟨λn=>?_,λn=>?_⟩ λj u K a b d=>?_;{show _<=(if _<_ then 0 else _);grind};{simp_all};{rw[l]at n;rw[if_neg n];exact⟨rfl,Xi _ _⟩};grind};{rw[lJ];exact g.2};{obtain⟨i,s,rfl,f,rfl,m⟩:=fQ e;have q:P.globals.size+i<P.globals.size:=q;omega};exact⟨by rw[lJ];show P.globals.size<=_;omega,h.jE⟩
theorem Az{ws:List ic}{off:Nat}{s:ic}(h:ws[i]?=YU s)(a:s.low<=off):di (jO P fns ws) (lT P.globals.size ws) ⟨P.globals.size+i,off,Y1⟩ ⟨s.k,off,Y1⟩:=by refine⟨Lf h,rfl,rfl,?_⟩;(have b:¬(P.globals.size+i<P.globals.size):=by omega);show(if P.globals.size+i<P.globals.size then 0 else((ws[P.globals.size+i-P.globals.size]?).map λs=>s.low).getD 0)<=off;grind
section
section bar
variable(P)(Good:fZ->YZ->Prop)
end bar
section bar
variable{Good:fZ->YZ->Prop}
variable(hl:Listed P c gl)(hGood:∀s w T D,Good s w->Good s (re w T D))
include hl hGood
end bar
end
end Go.ae
namespace Go.Mx
variable{i N:Nat}
structure Wd where
 L:Bool
 W:Bool
 S:Bool
 n:Nat
 deriving DecidableEq
def Wd.enc(w:Wd):Nat:=w.L.toNat+2*w.W.toNat+4*w.S.toNat+8*w.n
def Wd.zero:Wd:=⟨YT,YT,YT,0⟩
theorem Wd.xN{w v:Wd}(h:w.enc=v.enc):w=v:=by obtain⟨a,b,c,n⟩:=w;obtain⟨d,e,f,g⟩:=v;cases a<;>cases b<;>cases c<;>cases d<;>cases e<;>cases f<;>simp[Wd.enc]at h⊢<;>omega
inductive Th
 |out|c0
 |ld(aw st:Bool)
 |cs(old:Wd)
 |ca(old:Wd)(aw st:Bool)
 |sq|t2
 |a1(old:Wd)(st:Bool)
 |hold|u0
 |uc(old:Wd)
 |ux|us
def nw(o:Wd)(aw st:Bool):Wd:=⟨!o.S||o.L,!aw&&o.W,o.S||(st&&o.L),if o.L||o.S then o.n+1 else o.n⟩
inductive Mv:Th->Wd->Nat->Th->Wd->Nat->Prop
 |start{w:Wd}{m:Nat}:Mv .out w m .c0 w m
 |Qo{m:Nat}:Mv .c0 ⟨YT,YT,YT,0⟩ m .hold ⟨YX,YT,YT,0⟩ m
 |Ld{w:Wd}{m:Nat}:w≠⟨YT,YT,YT,0⟩->Mv .c0 w m (.ld YT YT) w m
 |Ug{w:Wd}{m:Nat}{aw st:Bool}:Mv (.ld aw st) w m (.ld aw st) w m
 |Vq{w:Wd}{m:Nat}{st:Bool}:w.L=YX->w.S=YT->w.W=YT->w.n≠0->Mv (.ld YT st) w m (.cs w) w m
 |R6{w:Wd}{m:Nat}{aw st:Bool}:Mv (.ld aw st) w m (.ca w aw st) w m
 |PE{w:Wd}{m:Nat}:Mv (.cs w) w m (.ld YX YT) {w with W:=YX} m
 |Kh{o w:Wd}{m:Nat}:w≠o->Mv (.cs o) w m (.ld YT YT) w m
 |Kj{w:Wd}{m:Nat}{aw st:Bool}:w.L=YT->w.S=YT->Mv (.ca w aw st) w m .hold (nw w aw st) m
 |K8{w:Wd}{m:Nat}{aw st:Bool}:(w.L||w.S)=YX->Mv (.ca w aw st) w m .sq (nw w aw st) m
 |M5{o w:Wd}{m:Nat}{aw st:Bool}:Mv (.ca o aw st) w m (.ld aw st) w m
 |TY{o w:Wd}{m:Nat}{st:Bool}:o.L=YX->o.S=YT->o.W=YT->o.n≠0->Mv (.ca o YT st) w m (.cs o) w m
 |KM{o w:Wd}{m:Nat}{aw st:Bool}:w≠o->Mv (.ca o aw st) w m (.ld aw st) w m
 |take{w:Wd}{m:Nat}:Mv .sq w (m+1) .t2 w m
 |Sd{w:Wd}{m:Nat}{st:Bool}:w.S=YX->Mv .t2 w m (.a1 w st) w m
 |Sn{w:Wd}{m:Nat}{st:Bool}:w.S=YT->Mv .t2 w m (.ca w YX st) w m
 |Ud{w:Wd}{m:Nat}{st:Bool}:w.S=YT->Mv .t2 w m (.ld YX st) w m
 |add{w o:Wd}{m:Nat}{st:Bool}:Mv (.a1 o st) w m .hold ⟨YX,w.W,st&&o.n !=1,w.n-1⟩ m
 |want{w:Wd}{m:Nat}:Mv .hold w m .u0 w m
 |T0{w:Wd}{m:Nat}:w.S=YX->Mv .u0 w m .us {w with L:=YT} m
 |OE{w:Wd}{m:Nat}:w.S=YT->w.n=0\/w.W=YX->Mv .u0 w m .out {w with L:=YT} m
 |SN{w:Wd}{m:Nat}:w.S=YT->w.n≠0->w.W=YT->Mv .u0 w m (.uc {w with L:=YT}) {w with L:=YT} m
 |Qe{w:Wd}{m:Nat}:Mv (.uc w) w m .us {w with W:=YX,n:=w.n-1} m
 |MM{o w:Wd}{m:Nat}:w≠o->Mv (.uc o) w m .ux w m
 |Q8{w:Wd}{m:Nat}:w.n=0\/w.L=YX\/w.W=YX\/w.S=YX->Mv .ux w m .out w m
 |SE{w:Wd}{m:Nat}:w.n≠0->w.L=YT->w.W=YT->w.S=YT->Mv .ux w m (.uc w) w m
 |C3{w:Wd}{m:Nat}:Mv .us w m .out w (m+1)
def qX:Th->Bool|.hold|.u0=>YX|_=>YT
def BQ:Th->Bool|.us|.t2|.a1 _ _=>YX|.ld aw _=>aw|.ca _ aw _=>aw|_=>YT
def pQ:Th->Bool|.sq=>YX|_=>YT
def J0:Th->Bool|.us=>YX|_=>YT
def Eh:Th->Bool|.t2|.a1 _ _=>YX|_=>YT
def JZ:Th->Bool|.ld aw _=>aw|.ca _ aw _=>aw|_=>YT
def Ru:Th->Bool|.uc _|.ux=>YX|_=>YT
def cnt(p:Th->Bool)(f:Nat->Th):Nat->Nat
 |0=>0
 |N+1=>cnt p f N+(p (f N)).toNat
def upd(f:Nat->Th)(i:Nat)(x:Th):Nat->Th:=λj=>if j=i then x else f j
theorem qE{p:Th->Bool}{f g:Nat->Th}:∀{N:Nat},(∀j,j<N->p (f j)=p (g j))->cnt p f N=cnt p g N|0,_=>rfl|N+1,h=>by simp only[cnt];rw[qE λj b=>h j Ω,h N Ω]
theorem lW(p:Th->Bool)(f:Nat->Th)(x:Th):∀{N:Nat},i<N->cnt p (upd f i x) N+(p (f i)).toNat=cnt p f N+(p x).toNat|N+1,h=>by simp only[cnt];rcases Xy (Yh h)with b|rfl;{have:=lW p f x b;(have e:upd f i x N=f N:=by simp[upd];omega);grind};(have:cnt p (upd f i x) i=cnt p f i:=qE λj c=>by simp[upd];grind);rw[this];simp[upd];omega
theorem pw{p:Th->Bool}{f:Nat->Th}:∀{N i:Nat},i<N->p (f i)=YX->1<=cnt p f N|N+1,i,h,c=>by simp only[cnt];rcases Xy (Yh h)with b|rfl;{have:=pw b c;omega};simp_all
theorem pF{p:Th->Bool}{f:Nat->Th}:∀{N i j:Nat},i<j->j<N->p (f i)=YX->p (f j)=YX->2<=cnt p f N|N+1,i,j,b,h,c,e=>by simp only[cnt];rcases Xy (Yh h)with d|rfl;{have:=pF b d c e;omega};have:=pw b c;simp_all
def fY(w:Wd):Th->Prop
 |.ld aw st=>st=YX->aw=YX
 |.ca o aw st=>(st=YX->aw=YX)/\(aw=YX->o.W=YX)
 |.cs o=>o.L=YX/\o.S=YT/\o.W=YT/\o.n≠0
 |.a1 o _=>w.S=YX/\w.L=YT/\1<=o.n/\o.n<=w.n
 |.uc o=>o.L=YT/\o.W=YT/\o.S=YT/\o.n≠0
 |_=>True
structure Inv(f:Nat->Th)(N:Nat)(w:Wd)(m:Nat):Prop where
 i1:cnt qX f N=w.L.toNat
 i2:cnt BQ f N+m=(w.W||(w.S&&!w.L)).toNat
 i3:¬(w.W=YX/\w.S=YX)
 i4:if w.W then cnt pQ f N=w.n+m+cnt J0 f N else if w.S&&!w.L then cnt pQ f N+cnt Eh f N=w.n else cnt pQ f N=w.n
 i5:w.L=YT->w.W=YT->w.S=YT->w.n≠0->1<=cnt Ru f N
 i6:w.S=YX->w.n≠0
 i8:w.W=YT->cnt JZ f N=0
 loc:∀i,i<N->fY w (f i)
section
theorem wm(f:Nat->Th)(N:Nat):cnt BQ f N=cnt J0 f N+cnt Eh f N+cnt JZ f N:=by induction N with|zero=>rfl|succ N c=>simp only[cnt];(have:∀t:Th,(BQ t).toNat=(J0 t).toNat+(Eh t).toNat+(JZ t).toNat:=by intro t;cases t with|ld a b=>cases a<;>rfl|ca o a b=>cases a<;>rfl|_=>rfl);grind
section
variable{f:Nat->Th}{w w':Wd}{m m':Nat}{x:Th}
theorem xF(a:i<N)(c:fY w' x)(h:∀j,j<N->j≠i->fY w' (f j)):∀j,j<N->fY w' (upd f i x j):=by intro j b;unfold upd;grind
theorem GJ{t:Th}(h:fY w t)(j:w.S=YX->w.L=YT->w'.S=YX/\w'.L=YT/\w.n<=w'.n):fY w' t:=by cases t with|a1 o l=>obtain⟨d,e,g,k⟩:=h;obtain⟨a,b,c⟩:=j d e;exact⟨a,b,g,by omega⟩|_=>exact h
set_option maxHeartbeats 4000000 in theorem Inv.step(h:Inv f N w m)(c:i<N)(u:Mv (f i) w m x w' m'):Inv (upd f i x) N w' m':=by have g:=lW qX f x c;have k:=lW J0 f x c;have l:=lW Eh f x c;have q:=lW JZ f x c;have r:=lW pQ f x c;have s:=lW Ru f x c;have s1:=wm f N;have s2:=wm (upd f i x) N;have v:=h.loc i c;have d:∀p:Th->Bool,p (f i)=YX->1<=cnt p f N:=λp Z=>pw c Z;obtain⟨J,K,M,O,P,Q,R,e⟩:=h;have a:fY w' x->(w.S=YX->w.L=YT->w'.S=YX/\w'.L=YT/\w.n<=w'.n)->∀j,j<N->fY w' (upd f i x j):=λE F=>xF c E λj t _=>GJ (e j t) F;have H:fY w' x->(∀j,j<N->j≠i->fY w' (f j))->∀j,j<N->fY w' (upd f i x j):=xF c;(have b:fY w' x->(2<=cnt Eh f N->False)->Eh (f i)=YX->∀j,j<N->fY w' (upd f i x j):=λE F T=>xF c E λj t I=>by have:=e j t;cases V:f j with|a1 o Y=>refine(F ?_).elim;(have U:Eh (f j)=YX:=by rw[V];rfl);rcases Nat.lt_or_gt_of_ne I with G|G;{exact pF G c U T};exact pF G t T U|_=>rw[V]at this;exact this);have z:=d qX;have A:=d J0;have B:=d Eh;have C:=d JZ;clear d;generalize hy:f i=y at u g k l q r s v z A B C b;clear hy;obtain⟨L,W,S,n⟩:=w;cases y with|ld D Y=>cases D<;>cases L<;>cases W<;>cases S<;>cases u<;>(try dsimp only[Bool.or_true,Bool.or_false,Bool.true_or,Bool.false_or]at*)<;>(try contradiction)<;>(try simp only[WQ,or_false,false_or]at*)<;>(simp[qX,J0,Eh,JZ,pQ,Ru,nw,fY]at J K M O P Q R g k l q r s v z A B C<;>(refine⟨?_,?_,?_,?_,?_,?_,?_,?_⟩<;>first|(simp[nw]<;>omega)|omega|(refine a ?_ ?_<;>simp[fY,nw]<;>omega)|(refine a ⟨‹_›,‹_›,‹_›,‹_›⟩ ?_;simp;done)|(refine a ⟨‹_›,‹_›,‹_›,‹_›⟩ ?_;simp;omega)|(refine b ?_ (λX=>?_) rfl<;>(try simp[fY,nw])<;>omega)))|ca o D Y=>cases D<;>cases L<;>cases W<;>cases S<;>cases u<;>(try dsimp only[Bool.or_true,Bool.or_false,Bool.true_or,Bool.false_or]at*)<;>(try contradiction)<;>(try simp only[WQ,or_false,false_or]at*)<;>(simp[qX,J0,Eh,JZ,pQ,Ru,nw,fY]at J K M O P Q R g k l q r s v z A B C<;>(refine⟨?_,?_,?_,?_,?_,?_,?_,?_⟩<;>first|(simp[nw]<;>omega)|omega|(refine a ?_ ?_<;>simp[fY,nw]<;>omega)|(refine a ⟨‹_›,‹_›,‹_›,‹_›⟩ ?_;simp;done)|(refine a ⟨‹_›,‹_›,‹_›,‹_›⟩ ?_;simp;omega)|(refine b ?_ (λX=>?_) rfl<;>(try simp[fY,nw])<;>omega)))|_=>cases L<;>cases W<;>cases S<;>cases u<;>(try dsimp only[Bool.or_true,Bool.or_false,Bool.true_or,Bool.false_or]at*)<;>(try contradiction)<;>(try simp only[WQ,or_false,false_or]at*)<;>(simp[qX,J0,Eh,JZ,pQ,Ru,nw,fY]at J K M O P Q R g k l q r s v z A B C<;>(refine⟨?_,?_,?_,?_,?_,?_,?_,?_⟩<;>first|(simp[nw]<;>omega)|omega|(refine a ?_ ?_<;>simp[fY,nw]<;>omega)|(refine b ?_ (λX=>?_) rfl<;>(try simp[fY,nw])<;>omega)))
end
end
theorem pC{p:Th->Bool}{f:Nat->Th}:∀{N:Nat},(∀i,i<N->p (f i)=YT)->cnt p f N=0|0,_=>rfl|N+1,h=>by simp only[cnt];rw[pC λi b=>h i Ω,h N Ω];rfl
theorem Inv.KE{f:Nat->Th}{w:Wd}(h:Inv f N w 0)(b:∀i,i<N->f i=.out\/f i=.sq):∀i,i<N->f i=.out:=by(have z:∀p:Th->Bool,p .out=YT->p .sq=YT->cnt p f N=0:=λp l m=>pC λi a=>by grind);obtain⟨c,d,q,g,j,r,s,k⟩:=h;rw[z qX rfl rfl]at c;rw[z BQ rfl rfl]at d;rw[z J0 rfl rfl,z Eh rfl rfl]at g;rw[z Ru rfl rfl]at j;obtain⟨L,W,S,n⟩:=w;(have o:cnt pQ f N=0:=by grind);intro i a;rcases b i a with e|e;{exact e};have:=pw (p:=pQ) (f:=f) a (by rw[e];rfl);omega
def wt:Th->Nat
 |.uc _|.ux=>5
 |.us=>4
 |.t2|.a1 _ _=>2
 |.ld aw _|.ca _ aw _=>if aw then 1 else 2
 |.cs _=>2
 |.c0=>2
 |_=>0
end Go.Mx
namespace Go.Rk
variable{α:Type}
inductive Rk(α:Type)where
 |z
 |s(f:α->Rk α)
def Lt{α:Type}(a b:Rk α):Prop:=∃f x,b=.s f/\a=f x
theorem Lt.VN:WellFounded (Lt (α:=α)):=by refine⟨λa=>?_⟩;induction a with|z=>exact⟨_,λb⟨f,x,h,_⟩=>by cases h⟩|s g c=>refine⟨_,λb⟨f,x,h,e⟩=>?_⟩;cases h;rw[e];exact c x
abbrev FJ{α:Type}:Rk α->Rk α->Prop:=Relation.TransGen Lt
theorem Lt.wf:WellFounded (FJ (α:=α)):=Lt.VN.transGen
theorem sy(f:α->Rk α)(x:α):FJ (f x) (.s f):=.single ⟨f,x,rfl,rfl⟩
theorem Vg(f:α->Rk α)(x:α):FJ (f x) (.s λ_=>.s f):=.tail (.single ⟨f,x,rfl,rfl⟩) ⟨_,x,rfl,rfl⟩
def Ri{α:Type}(N:Nat)(V' V:Nat->Rk α):Prop:=∃i,i<N/\FJ (V' i) (V i)/\∀j,j≠i->V' j=V j
theorem Ri.wf{α:Type}:∀N:Nat,WellFounded (Ri (α:=α) N)|0=>⟨λV=>⟨_,λc⟨i,h,_⟩=>absurd h (Xk i)⟩⟩|N+1=>by have j:=Ri.wf (α:=α) N;(have f:∀d:Rk α,∀V:Nat->Rk α,V N=d->Acc (Ri (N+1)) V:=by intro d;induction Lt.wf.apply d with|intro d _ l=>intro V;induction j.apply V with|intro V _ e=>intro g;refine⟨_,λc⟨i,k,b,a⟩=>?_⟩;rcases Xy (Yh k)with h|rfl;{exact e c ⟨i,h,b,a⟩ ((a N Ω).trans g)};exact l (c i) (g▸b) c rfl);exact⟨λV=>f _ V rfl⟩
end Go.Rk
namespace Go.Cr
open Go.Conc Go.Mx Go.Rk
open Go.ConcR(KK WgAt stA smA rd wr mk)
open Go.ConcM(OsLater)
variable{g g':Y2}{own' O:Nat->Prop}{es:Array ZG}{v':YZ}
section
structure Cx where
 P:Zf
 RO:Nat->Prop
 mu:Nat
 mo:Nat
 pre:Array YY
 tP:Zd
 mm:Nat
 BG:Array ZO->Prop
 wg:Nat
 tW:Zd
 out:Nat
 tO:Zd
 no:Nat
 oc:Nat->Nat->Prop
 res:Nat->YY
 base:Nat
 n:Nat
 End:Y2->YZ->Prop
 w0:YZ
 solo:Prop
 halt:(Nat->Prop)->Y2->YZ->Prop
 vk:Int->Int->Zy
variable(C:Cx)
def Cx.muA:ZA:=⟨C.mu,C.mo,Y1⟩
def Cx.msA:ZA:=⟨C.mu,C.mo+1,Y1⟩
def aB(v:YZ)(s q:Int):Prop:=v.heap[C.mu]?=YU (.cells (C.pre++#[.int .i32 s,.int .u32 q]) C.tP)
def cM(v:YZ)(w:Wd)(q:Nat):Prop:=aB C v w.enc q
def T3(v:YZ)(es:Array ZO):Prop:=∃ck,v.heap[C.mm]?=YU (.map es ck)
def ax(v:YZ):Prop:=∃es,T3 C v es/\C.BG es
def Ee(v:YZ):Prop:=∃cs:Array YY,v.heap[C.out]?=YU (.cells cs C.tO)/\cs.size=C.no
structure da(v:YZ):Prop where
 port:∃s q,aB C v s q
 gK:∃st sm,v.heap[C.wg]?=YU (C.vk st sm)
 vM:Ee C v
structure W0(w:YZ):Prop where
 os:OsLater C.w0.os w.os
 out:w.output=C.w0.output
 tape:w.tape=C.w0.tape
structure Cx.Ok:Prop where
 pre:C.pre.size=C.mo
 mj:C.mu≠C.mm
 gm:C.mu≠C.wg
 gf:C.mu≠C.out
 ov:C.mm≠C.wg
 nt:C.mm≠C.out
 jd:C.wg≠C.out
 ro:∀k,C.RO k->k≠C.mu/\k≠C.mm/\k≠C.wg/\k≠C.out
 oc:∀i j o,C.oc i o->C.oc j o->i=j
 VZ:∀o,¬C.oc 0 o
structure Env(i:Nat)(own:Nat->Prop)(v v1:YZ):Prop where
 keep:∀k,own k\/C.RO k->v1.heap[k]?=v.heap[k]?
 grow:v.heap.size<=v1.heap.size
 aI:da C v->da C v1
 BN:∀o,C.oc i o->v1.cell? ⟨C.out,o,Y1⟩=v.cell? ⟨C.out,o,Y1⟩
def Cx.CU(k n:Nat):Prop:=k=C.mu/\n<=C.mo
def Cx.wk(i:Nat):Prop:=i≠0\/C.solo
def sG(own:Nat->Prop)(e:ZG):Prop:=ae.Vr own C.RO (λ_ _=>False) e\/∃o,o<C.mo/\e=⟨.cell ⟨C.mu,o,Y1⟩,YT,YT⟩
structure lX(own:Nat->Prop)(v v':YZ)(es:Array ZG):Prop where
 keep:∀k,k<v.heap.size->¬own k->v'.heap[k]?=v.heap[k]?
 grow:v.heap.size<=v'.heap.size
 os:v'.os=v.os
 out:v'.output=v.output
 tape:v'.tape=v.tape
 evs:∀e∈es,sG C (ae.more own v v') e
structure Ub(i:Nat)(v v':YZ)(es:Array ZG):Prop where
 keep:∀k,k≠C.out->v'.heap[k]?=v.heap[k]?
 size:v'.heap.size=v.heap.size
 os:v'.os=v.os
 out:v'.output=v.output
 tape:v'.tape=v.tape
 blk:Ee C v->Ee C v'
 cells:∀o,¬C.oc i o->v'.cell? ⟨C.out,o,Y1⟩=v.cell? ⟨C.out,o,Y1⟩
 evs:∀e∈es,∃o,C.oc i o/\e=⟨.cell ⟨C.out,o,Y1⟩,YX,YT⟩
def Fin(i:Nat)(v:YZ):Prop:=∀o,C.oc i o->v.cell? ⟨C.out,o,Y1⟩=YU (C.res o)
structure DL(w w':YZ)(es:Array ZG):Prop where
 heap:w'.heap=w.heap
 tape:w'.tape=w.tape
 out:w'.output=w.output
 os:OsLater w.os w'.os
 evs:es=#[]
structure Md where
 hold:Bool
 deaf:Bool
 tok:Bool
 said:Bool
def Md.free:Md:=⟨YT,YT,YT,YT⟩
def Md.bC:Md:=⟨YT,YX,YT,YT⟩
def Md.mC:Md:=⟨YX,YX,YT,YT⟩
def Md.CC:Md:=⟨YX,YT,YT,YT⟩
def Md.own:Md:=⟨YX,YT,YX,YT⟩
def Md.Aw:Md:=⟨YT,YT,YT,YX⟩
def Md.wZ:Md:=⟨YT,YX,YT,YX⟩
def fy(m:Md)(own:Nat->Prop):Nat->Prop:=λk=>own k\/(m.tok=YX/\k=C.mm)
inductive je(i:Nat):Md->Mark->Md->Prop
 |Rr:je i .free .disable .bC
 |J':je i .CC .disable .mC
 |Lv:je i .Aw .disable .wZ
 |en:je i .bC .enable .free
 |TL:je i .mC .enable .CC
 |acq:je i .CC (.acquire C.muA) .own
 |EH:je i .own (.releaseMerge C.muA) .CC
 |Fb:i≠0->je i .free (.releaseMerge (stA C.wg)) .Aw
 |sr{m:Md}:i=0->m.tok=YT->je i m (.read (smA C.wg)) m
section stops
variable(i:Nat)(own:Nat->Prop)
abbrev cL(S:Y2->YZ->Prop)(n:Nat)(g:Y2)(w:YZ):Prop:=Goes C.P (i==0) (Env C i own) DL S n g w
section lock
variable(H:Wd->Bool->Bool->Nat->Y2->YZ->Prop)(Q:Y2->YZ->Prop)
def vP(aw st:Bool)(it:Nat)(g:Y2)(w:YZ):Prop:=
 g.status=.running/\∀wd q,cM C w wd q->(aw=YX->wd.W=YX)->∃g',Y4 C.P (i==0) g w=.go g' w #[]/\∃n,cL C i own (H wd aw st it) n g' w
def QQ(o:Wd)(it:Nat)(g:Y2)(w:YZ):Prop:=
 g.status=.running/\∀wd q,cM C w wd q->
   (wd=o->∃g',Y4 C.P (i==0) g w=.go g' (w.setCell C.muA (.int .i32 ({wd with W:=YX}:Wd).enc)) #[rd C.muA,wr C.muA]/\∃n,cL C i own (vP C i own H YX YT (it+1)) n g' (w.setCell C.muA (.int .i32 ({wd with W:=YX}:Wd).enc)))/\
   (wd≠o->∃g',Y4 C.P (i==0) g w=.go g' w #[rd C.muA]/\∃n,cL C i own (vP C i own H YT YT (it+1)) n g' w)
def AtA1(o:Wd)(st:Bool)(g:Y2)(w:YZ):Prop:=
 g.status=.running/\∀wd q,cM C w wd q->wd.n<100000000->wd.L=YT->wd.S=YX->wd.n≠0->
   ∃g',Y4 C.P (i==0) g w=.go g' (w.setCell C.muA (.int .i32 (⟨YX,wd.W,st&&o.n !=1,wd.n-1⟩:Wd).enc)) #[rd C.muA,wr C.muA]/\Q g' (w.setCell C.muA (.int .i32 (⟨YX,wd.W,st&&o.n !=1,wd.n-1⟩:Wd).enc))
def M9(g:Y2)(w:YZ):Prop:=
 g.status=.running/\∃st,∀wd q,cM C w wd q->wd.n<100000000->(wd.S=YX->wd.L=YT/\wd.W=YT/\wd.n≠0)->(wd.S=YT->wd.W=YX)->∃g',Y4 C.P (i==0) g w=.go g' w #[]/\
   (wd.S=YX->∃n,cL C i own (AtA1 C i Q wd st) n g' w)/\(wd.S=YT->∃n,cL C i own (H wd YX st 0) n g' w)
def FZ(g:Y2)(w:YZ):Prop:=
 g.status=.running/\g.offers=Y1/\(∀wd,cM C w wd 0->Y4 C.P (i==0) g w=.go {g with status:=.blocked} w #[])/\
   ∀wd q,cM C w wd (q+1)->∃g',Y4 C.P (i==0) g w=.go g' (w.setCell C.msA (.int .u32 (q:Nat))) (semEvents C.msA)/\∃n,cL C i own (M9 C i own H Q) n g' (w.setCell C.msA (.int .u32 (q:Nat)))
def OQ(o:Wd)(aw st:Bool)(it:Nat)(g:Y2)(w:YZ):Prop:=
 g.status=.running/\∀wd q,cM C w wd q->
   (wd=o->∃g',Y4 C.P (i==0) g w=.go g' (w.setCell C.muA (.int .i32 (nw o aw st).enc)) #[rd C.muA,wr C.muA]/\
    (o.L=YT->o.S=YT->Q g' (w.setCell C.muA (.int .i32 (nw o aw st).enc)))/\((o.L||o.S)=YX->∃n,cL C i own (FZ C i own H Q) n g' (w.setCell C.muA (.int .i32 (nw o aw st).enc))))/\
   (wd≠o->∃g',Y4 C.P (i==0) g w=.go g' w #[rd C.muA]/\∃n,cL C i own (vP C i own H aw st it) n g' w)
def gY(o:Wd)(aw st:Bool)(it:Nat)(g:Y2)(w:YZ):Prop:=
 (it<4/\vP C i own H aw st (it+1) g w)\/(it<4/\o.L=YX/\o.S=YT/\o.W=YT/\o.n≠0/\aw=YT/\QQ C i own H o it g w)\/OQ C i own H Q o aw st it g w
def jw:Prop:=∀o aw st it g w,it<=4->(aw=YX->o.W=YX)->(st=YX->aw=YX)->o.n<100000000->H o aw st it g w->∃n,cL C i own (gY C i own H Q o aw st it) n g w
end lock
section unlock
variable(HU:Wd->Y2->YZ->Prop)(Q:Y2->YZ->Prop)
def Cu(g:Y2)(w:YZ):Prop:=
 g.status=.running/\mayWake C.P g=YX/\∀wd q,q<100000000->cM C w wd q->∃g',Y4 C.P (i==0) g w=.go g' (w.setCell C.msA (.int .u32 (q+1:Nat))) (semEvents C.msA)/\∃n,cL C i own Q n g' (w.setCell C.msA (.int .u32 (q+1:Nat)))
def Ln(g:Y2)(w:YZ):Prop:=
 g.status=.running/\∀wd q,cM C w wd q->wd.n<100000000->∃g',Y4 C.P (i==0) g w=.go g' w #[]/\
   (wd.n=0\/wd.L=YX\/wd.W=YX\/wd.S=YX->∃n,cL C i own Q n g' w)/\(wd.n≠0->wd.L=YT->wd.W=YT->wd.S=YT->∃n,cL C i own (HU wd) n g' w)
def Eo(o:Wd)(g:Y2)(w:YZ):Prop:=
 g.status=.running/\∀wd q,cM C w wd q->
   (wd=o->∃g',Y4 C.P (i==0) g w=.go g' (w.setCell C.muA (.int .i32 ({wd with W:=YX,n:=wd.n-1}:Wd).enc)) #[rd C.muA,wr C.muA]/\∃n,cL C i own (Cu C i own Q) n g' (w.setCell C.muA (.int .i32 ({wd with W:=YX,n:=wd.n-1}:Wd).enc)))/\
   (wd≠o->∃g',Y4 C.P (i==0) g w=.go g' w #[rd C.muA]/\∃n,cL C i own (Ln C i own HU Q) n g' w)
def B4:Prop:=∀o g w,o.L=YT->o.W=YT->o.S=YT->o.n≠0->o.n<100000000->HU o g w->∃n,cL C i own (Eo C i own HU Q o) n g w
def OU(g:Y2)(w:YZ):Prop:=
 g.status=.running/\∀wd q,cM C w wd q->wd.L=YX->wd.n<100000000->
   ∃g',Y4 C.P (i==0) g w=.go g' (w.setCell C.muA (.int .i32 ({wd with L:=YT}:Wd).enc)) #[rd C.muA,wr C.muA]/\
     (wd.S=YX->∃n,cL C i own (Cu C i own Q) n g' (w.setCell C.muA (.int .i32 ({wd with L:=YT}:Wd).enc)))/\
     (wd.S=YT->(wd.n=0\/wd.W=YX)->∃n,cL C i own Q n g' (w.setCell C.muA (.int .i32 ({wd with L:=YT}:Wd).enc)))/\
     (wd.S=YT->wd.n≠0->wd.W=YT->∃n,cL C i own (Eo C i own HU Q {wd with L:=YT}) n g' (w.setCell C.muA (.int .i32 ({wd with L:=YT}:Wd).enc)))
end unlock
def On(H:Wd->Bool->Bool->Nat->Y2->YZ->Prop)(Q:Y2->YZ->Prop)(g:Y2)(w:YZ):Prop:=
 g.status=.running/\∀wd q,cM C w wd q->
   (wd=⟨YT,YT,YT,0⟩->∃g',Y4 C.P (i==0) g w=.go g' (w.setCell C.muA (.int .i32 1)) #[rd C.muA,wr C.muA]/\Q g' (w.setCell C.muA (.int .i32 1)))/\
   (wd≠⟨YT,YT,YT,0⟩->∃g',Y4 C.P (i==0) g w=.go g' w #[rd C.muA]/\∃n,cL C i own (vP C i own H YT YT 0) n g' w)
def AtD4(g:Y2)(w:YZ):Prop:=
 g.status=.running/\mayWake C.P g=YX/\(WgAt C.tW C.wg w 0 0->∃g',Y4 C.P (i==0) g w=.go g' (w.setCell (smA C.wg) (.int .u32 1)) (semEvents (smA C.wg))/\∃q,QuitsD C.P q 1 g')
def AtD3(g:Y2)(w:YZ):Prop:=
 g.status=.running/\(WgAt C.tW C.wg w 1 0->∃g',Y4 C.P (i==0) g w=.go g' (w.setCell (stA C.wg) (.int .u64 0)) #[wr (stA C.wg)]/\∃n,cL C i own (AtD4 C i) n g' (w.setCell (stA C.wg) (.int .u64 0)))
def AtD2(g:Y2)(w:YZ):Prop:=
 g.status=.running/\(WgAt C.tW C.wg w 1 0->∃g',Y4 C.P (i==0) g w=.go g' w #[rd (stA C.wg)]/\∃n,cL C i own (AtD3 C i own) n g' w)
def AtD1(g:Y2)(w:YZ):Prop:=
 g.status=.running/\∀v wt:Nat,wt<=1->v<100000000->WgAt C.tW C.wg w ((v+1)*KK+wt) 0->
   ∃g',Y4 C.P (i==0) g w=.go g' (w.setCell (stA C.wg) (.int .u64 (v*KK+wt))) #[rd (stA C.wg),wr (stA C.wg)]/\
     ((v=0/\wt=1)->∃n,cL C i own (AtD2 C i own) n g' (w.setCell (stA C.wg) (.int .u64 (v*KK+wt))))/\(¬(v=0/\wt=1)->∃q,QuitsD C.P q 1 g')
section wait
variable(A:Y2->YZ->Prop)
def AtAcq(g:Y2)(w:YZ):Prop:=
 g.status=.running/\∃g',Y4 C.P (i==0) g w=.go g' w #[mk (.acquire (stA C.wg))]/\(da C w->(∀j,Fin C j w)->cM C w ⟨YT,YT,YT,0⟩ 0->W0 C w->C.End g' w)
def AtKe(g:Y2)(w:YZ):Prop:=
 g.status=.running/\∃g',Y4 C.P (i==0) g w=.go g' w #[mk .enable]/\∃n,cL C i own (AtAcq C i) n g' w
def AtW4(g:Y2)(w:YZ):Prop:=
 g.status=.running/\(WgAt C.tW C.wg w 0 0->∃g',Y4 C.P (i==0) g w=.go g' w #[rd (stA C.wg)]/\∃n,cL C i own (AtKe C i own) n g' w)
def AtW3(g:Y2)(w:YZ):Prop:=
 g.status=.running/\g.offers=Y1/\((∃st,WgAt C.tW C.wg w st 0)->Y4 C.P (i==0) g w=.go {g with status:=.blocked} w #[])/\
   (WgAt C.tW C.wg w 0 1->∃g',Y4 C.P (i==0) g w=.go g' (w.setCell (smA C.wg) (.int .u32 0)) (semEvents (smA C.wg))/\∃n,cL C i own (AtW4 C i own) n g' (w.setCell (smA C.wg) (.int .u32 0)))
def Te(g:Y2)(w:YZ):Prop:=
 g.status=.running/\∃g',Y4 C.P (i==0) g w=.go g' w #[mk (.write (smA C.wg))]/\∃n,cL C i own (AtW3 C i own) n g' w
def AtW2(vs:Nat)(g:Y2)(w:YZ):Prop:=
 g.status=.running/\∀v:Nat,v<100000000->WgAt C.tW C.wg w (v*KK) 0->
   (v=vs->∃g',Y4 C.P (i==0) g w=.go g' (w.setCell (stA C.wg) (.int .u64 (v*KK+1))) #[rd (stA C.wg),wr (stA C.wg)]/\∃n,cL C i own (Te C i own) n g' (w.setCell (stA C.wg) (.int .u64 (v*KK+1))))/\
   (v≠vs->∃g',Y4 C.P (i==0) g w=.go g' w #[rd (stA C.wg)]/\∃n,cL C i own A n g' w)
def AtW1(g:Y2)(w:YZ):Prop:=
 g.status=.running/\∀v:Nat,v<100000000->WgAt C.tW C.wg w (v*KK) 0->∃g',Y4 C.P (i==0) g w=.go g' w #[rd (stA C.wg)]/\
   (v=0->∃n,cL C i own (AtKe C i own) n g' w)/\(v≠0->∃n,cL C i own (AtW2 C i own A v) n g' w)
def AO:Prop:=∀g w,A g w->∃n,cL C i own (AtW1 C i own A) n g w
end wait
def Vu(c:Nat->Y2->YZ->Prop)(g:Y2)(w:YZ):Prop:=
 g.status=.running/\∀v:Nat,v<100000000->WgAt C.tW C.wg w (v*KK) 0->
   ∃g',Y4 C.P (i==0) g w=.go g' (w.setCell (stA C.wg) (.int .u64 ((v+1)*KK))) #[rd (stA C.wg),wr (stA C.wg)]/\c v g' (w.setCell (stA C.wg) (.int .u64 ((v+1)*KK)))
end stops
abbrev Ix:=Y2×YZ×YZ
inductive fU:Nat->Nat->Md->Rk Ix->(Nat->Prop)->Y2->YZ->Prop
 |step{i j:Nat}{m:Md}{f:Ix->Rk Ix}{own:Nat->Prop}{g:Y2}{v:YZ}:g.status=.running->m.said=YT->
  (∀v1,Env C i (fy C m own) v v1->∃g' v' es,Y4 C.P (i==0) g v1=.go g' v' es/\lX C (fy C m own) v1 v' es)->
  (∀v1 g' v' es,Env C i (fy C m own) v v1->Y4 C.P (i==0) g v1=.go g' v' es->fU i j m (f (g',v1,v')) (ae.more own v1 v') g' v')->fU i j m (.s f) own g v
 |idle{i j:Nat}{m:Md}{f:Ix->Rk Ix}{own:Nat->Prop}{g:Y2}{v:YZ}:g.status=.running->
  (∀v1,Env C i (fy C m own) v v1->∃g' v',Y4 C.P (i==0) g v1=.go g' v' #[]/\DL v1 v' #[])->
  (∀v1 g' v' es,Env C i (fy C m own) v v1->Y4 C.P (i==0) g v1=.go g' v' es->fU i j m (f (g',v1,v')) own g' v')->fU i j m (.s f) own g v
 |mark{i j:Nat}{m m':Md}{k:Mark}{f:Ix->Rk Ix}{own:Nat->Prop}{g:Y2}{v:YZ}:g.status=.running->je C i m k m'->
  (∀v1,Env C i (fy C m own) v v1->∃g',Y4 C.P (i==0) g v1=.go g' v1 #[mk k])->(k=.releaseMerge C.muA->m=.own/\ax C v)->(k=.releaseMerge (stA C.wg)->Fin C i v)->
  (∀v1 g' v' es,Env C i (fy C m own) v v1->(k=.acquire C.muA->ax C v1)->Y4 C.P (i==0) g v1=.go g' v' es->fU i j m' (f (g',v1,v1)) own g' v1)->fU i j m (.s f) own g v
 |lock{i j:Nat}{f:Ix->Rk Ix}{own:Nat->Prop}{g:Y2}{v:YZ}(H:Wd->Bool->Bool->Nat->Y2->YZ->Prop)(Q:Y2->YZ->Prop):g.status=.running->C.wk i->
  (∀g v1 v2,Q g v1->Env C i own v1 v2->Q g v2)->jw C i own H Q->(∀v1,Env C i own v v1->On C i own H Q g v1)->
  (∀g' v1,Env C i own v v1->Q g' v1->fU i j .mC (f (g',v1,v1)) own g' v1)->fU i j .bC (.s λ_=>.s f) own g v
 |unlock{i j:Nat}{f:Ix->Rk Ix}{own:Nat->Prop}{g:Y2}{v:YZ}(HU:Wd->Y2->YZ->Prop)(Q:Y2->YZ->Prop):g.status=.running->C.wk i->
  (∀g v1 v2,Q g v1->Env C i own v1 v2->Q g v2)->B4 C i own HU Q->(∀v1,Env C i own v v1->OU C i own HU Q g v1)->
  (∀g' v1,Env C i own v v1->Q g' v1->fU i j .bC (f (g',v1,v1)) own g' v1)->fU i j .mC (.s λ_=>.s f) own g v
 |put{i j:Nat}{f:Ix->Rk Ix}{own:Nat->Prop}{g:Y2}{v:YZ}:g.status=.running->i≠0->
  (∀v1,Env C i own v v1->da C v1->∃g' v' es,Y4 C.P (i==0) g v1=.go g' v' es/\Ub C i v1 v' es)->
  (∀v1 g' v' es,Env C i own v v1->da C v1->Y4 C.P (i==0) g v1=.go g' v' es->fU i j .free (f (g',v1,v')) own g' v')->fU i j .free (.s f) own g v
 |done{i j:Nat}{own:Nat->Prop}{g:Y2}{v:YZ}:i≠0->(∀v1,Env C i own v v1->AtD1 C i own g v1)->fU i j .wZ (.s λ_=>.z) own g v
 |add{i x:Nat}{f:Ix->Rk Ix}{own:Nat->Prop}{g:Y2}{v:YZ}(c:Nat->Y2->YZ->Prop):i=0->(∀v1,Env C i own v v1->Vu C i c g v1)->
  (∀v1 y g',Env C i own v v1->c y g' v1->fU i (2*x+1) .bC (f (g',v1,v1)) own g' v1)->fU i (2*x) .bC (.s f) own g v
 |spawn{i x:Nat}{f ρ:Ix->Rk Ix}{own ownc:Nat->Prop}{g:Y2}{v:YZ}:i=0->g.status=.running->x<C.n->(∀k,ownc k->own k)->
  (∀v1,Env C i own v v1->∃g' child,Y4 C.P (i==0) g v1=.spawn g' child v1 #[]/\child.status=.running)->
  (∀v1 g' child v' es,Env C i own v v1->Y4 C.P (i==0) g v1=.spawn g' child v' es->fU (C.base+x) 0 .free (ρ (child,v1,v1)) ownc child v1)->
  (∀v1 g' child v' es,Env C i own v v1->Y4 C.P (i==0) g v1=.spawn g' child v' es->fU i (2*x+2) .free (f (g',v1,v1)) (λk=>own k/\¬ownc k) g' v1)->
  fU i (2*x+1) .free (.s f) own g v
 |wait{i:Nat}{own:Nat->Prop}{g:Y2}{v:YZ}(A:Y2->YZ->Prop):i=0->AO C i own A->(∃n,cL C i own A n g v)->fU i (2*C.n) .bC .z own g v
 |stop{i j:Nat}{own:Nat->Prop}{g:Y2}{v:YZ}:C.solo->g.status=.running->(∀v1,Env C i own v v1->C.halt own g v1)->fU i j .free .z own g v
end
section
variable{C:Cx}{i j:Nat}{m:Md}{own:Nat->Prop}{v v1 v2:YZ}
theorem Env.refl:Env C i own v v:=⟨λ_ _=>rfl,V8 _,id,λ_ _=>rfl⟩
theorem Env.trans(h:Env C i own v v1)(k:Env C i own v1 v2):Env C i own v v2:=⟨λx b=>(k.keep x b).trans (h.keep x b),Wk h.grow k.grow,λx=>k.aI (h.aI x),λo a=>(k.BN o a).trans (h.BN o a)⟩
theorem Env.sub(h:Env C i own v v1)(b:∀k,own' k->own k):Env C i own' v v1:=⟨λk a=>h.keep k (a.imp (b k) id),h.grow,h.aI,h.BN⟩
theorem Env.fX(h:Env C i (fy C m own) v v1):Env C i own v v1:=h.sub λ_ a=>.inl a
theorem Env.M'(h:Env C i own v v1)(b:m.tok=YT):Env C i (fy C m own) v v1:=h.sub λ_ a=>a.resolve_right (by simp[b])
theorem Env.V4(l:C.pre.size=C.mo)(a:da C v)(h:Env C i O v v1):ae.Env O C.RO C.CU v v1:=⟨h.keep,λk n e x t f p=>by obtain⟨rfl,o⟩:=e;obtain⟨s,q,c⟩:=a.port;obtain⟨u,r,d⟩:=(h.aI a).port;unfold aB at c d;grind,h.grow⟩
theorem bG(a b c:YZ)(h:Env C i own a b)(k:Env C i own b c):Env C i own a c:=h.trans k
theorem ax.env(h:ax C v)(e:Env C i own v v1)(f:own C.mm):ax C v1:=by obtain⟨b,⟨a,d⟩,c⟩:=h;exact⟨b,⟨a,(e.keep _ (.inl f)).trans d⟩,c⟩
theorem Fin.env(h:Fin C i v)(b:Env C i own v v1):Fin C i v1:=λo a=>(b.BN o a).trans (h o a)
theorem fU.env{ρ:Rk Ix}(h:fU C i j m ρ own g v)(b:Env C i (fy C m own) v v1):fU C i j m ρ own g v1:=by cases h with|step d f k p=>exact .step d f (λx a=>k x (b.trans a)) λx l q o a=>p x l q o (b.trans a)|idle d f k=>exact .idle d (λx a=>f x (b.trans a)) λx l q o a=>k x l q o (b.trans a)|mark d f k p s t=>exact .mark d f (λx a=>k x (b.trans a)) (λe=>⟨(p e).1,(p e).2.env b (by rw[(p e).1];exact .inr ⟨rfl,rfl⟩)⟩) (λe=>(s e).env b) λx l q o a=>t x l q o (b.trans a)|lock H Q d r f k p s=>exact .lock H Q d r f k (λx a=>p x (b.fX.trans a)) λl x a=>s l x (b.fX.trans a)|unlock H Q d r f k p s=>exact .unlock H Q d r f k (λx a=>p x (b.fX.trans a)) λl x a=>s l x (b.fX.trans a)|put d r f k=>exact .put d r (λx a=>f x (b.fX.trans a)) λx l q o a=>k x l q o (b.fX.trans a)|done r d=>exact .done r λx a=>d x (b.fX.trans a)|add c d f k=>exact .add c d (λx a=>f x (b.fX.trans a)) λx y l a=>k x y l (b.fX.trans a)|spawn d f k p s t u=>exact .spawn d f k p (λx a=>s x (b.fX.trans a)) (λx l c q o a=>t x l c q o (b.fX.trans a)) λx l c q o a=>u x l c q o (b.fX.trans a)|wait A d f k=>exact .wait A d f (k.imp λn w=>w.rely bG b.fX)|stop d f k=>exact .stop d f λx a=>k x (b.fX.trans a)
theorem fU.running{ρ:Rk Ix}(h:fU C i j m ρ own g v):g.status=.running\/∃n A,cL C i own A n g v/\AO C i own A:=by cases h with|wait A b a d=>grind|done _ h=>exact .inl (h v .refl).1|add c b a=>exact .inl (a v .refl).1|_=>simp_all
def af(C:Cx)(i j:Nat)(m:Md)(own:Nat->Prop)(g:Y2)(v:YZ):Prop:=∃ρ,fU C i j m ρ own g v
open Classical in
noncomputable def Bb(p:Ix->Rk Ix->Prop)(x:Ix):Rk Ix:=if h:∃ρ,p x ρ then Classical.choose h else .z
theorem fT{p:Ix->Rk Ix->Prop}{x:Ix}(h:∃ρ,p x ρ):p x (Bb p x):=by unfold Bb;grind
theorem af.env(h:af C i j m own g v)(a:Env C i (fy C m own) v v1):af C i j m own g v1:=h.imp λ_ k=>k.env a
theorem xm{w w':YZ}{es':Array ZG}(h:GStep.go g w es=.go g' w' es'):g=g'/\w=w'/\es=es':=by simp_all
theorem af.step(q:g.status=.running)(o:m.said=YT)(h:∀v1,Env C i (fy C m own) v v1->∃g' d es,Y4 C.P (i==0) g v1=.go g' d es/\lX C (fy C m own) v1 d es/\af C i j m (ae.more own v1 d) g' d):af C i j m own g v:=by refine⟨.s (Bb λx f=>fU C i j m f (ae.more own x.2.1 x.2.2) x.1 x.2.2),.step q o (λx k=>?_) λx g' d es k e=>?_⟩;{grind};obtain⟨n,v2,l,a,_,c⟩:=h x k;rw[a]at e;obtain⟨rfl,rfl,rfl⟩:=xm e;exact fT (p:=λx f=>fU C i j m f (ae.more own x.2.1 x.2.2) x.1 x.2.2) c
theorem af.idle(l:g.status=.running)(h:∀v1,Env C i (fy C m own) v v1->∃g' b,Y4 C.P (i==0) g v1=.go g' b #[]/\DL v1 b #[]/\af C i j m own g' b):af C i j m own g v:=by refine⟨.s (Bb λx d=>fU C i j m d own x.1 x.2.2),.idle l (λx f=>?_) λx g' b n f e=>?_⟩;{grind};obtain⟨k,v2,a,_,c⟩:=h x f;rw[a]at e;obtain⟨rfl,rfl,rfl⟩:=xm e;exact fT (p:=λx d=>fU C i j m d own x.1 x.2.2) c
theorem cO(w:YZ):DL w w #[]:=⟨rfl,rfl,rfl,.refl _,rfl⟩
theorem af.ctl(a:g.status=.running)(h:∀w,Y4 C.P (i==0) g w=.go g' w #[])(k:af C i j m own g' v):af C i j m own g v:=.idle a λx b=>⟨g',x,h x,cO x,k.env b⟩
theorem af.mark{m':Md}{k:Mark}(r:g.status=.running)(q:je C i m k m')(l:k=.releaseMerge C.muA->m=.own/\ax C v)(n:k=.releaseMerge (stA C.wg)->Fin C i v)(h:∀v1,Env C i (fy C m own) v v1->∃g',Y4 C.P (i==0) g v1=.go g' v1 #[mk k]/\((k=.acquire C.muA->ax C v1)->af C i j m' own g' v1)):af C i j m own g v:=by refine⟨.s (Bb λx b=>fU C i j m' b own x.1 x.2.1),.mark r q (λx d=>?_) l n λx g' u t d o e=>?_⟩;{grind};obtain⟨f,a,c⟩:=h x d;rw[a]at e;obtain⟨rfl,rfl,rfl⟩:=xm e;exact fT (p:=λx b=>fU C i j m' b own x.1 x.2.1) (c o)
theorem af.lock(d:C.wk i)(H:Wd->Bool->Bool->Nat->Y2->YZ->Prop)(Q:Y2->YZ->Prop)(l:g.status=.running)(c:∀g v1 v2,Q g v1->Env C i own v1 v2->Q g v2)(b:jw C i own H Q)(h:∀v1,Env C i own v v1->On C i own H Q g v1)(k:∀g' v1,Env C i own v v1->Q g' v1->af C i j .mC own g' v1):af C i j .bC own g v:=⟨_,.lock H Q l d c b h λg' x n e=>fT (p:=λx a=>fU C i j .mC a own x.1 x.2.1) (k g' x n e)⟩
theorem af.unlock(e:C.wk i)(a:Wd->Y2->YZ->Prop)(Q:Y2->YZ->Prop)(n:g.status=.running)(d:∀g v1 v2,Q g v1->Env C i own v1 v2->Q g v2)(c:B4 C i own a Q)(h:∀v1,Env C i own v v1->OU C i own a Q g v1)(k:∀g' v1,Env C i own v v1->Q g' v1->af C i j .bC own g' v1):af C i j .mC own g v:=⟨_,.unlock a Q n e d c h λg' x o l=>fT (p:=λx b=>fU C i j .bC b own x.1 x.2.1) (k g' x o l)⟩
theorem af.put(o:i≠0)(q:g.status=.running)(h:∀v1,Env C i own v v1->da C v1->∃g' b es,Y4 C.P (i==0) g v1=.go g' b es/\Ub C i v1 b es/\af C i j .free own g' b):af C i j .free own g v:=by refine⟨.s (Bb λx d=>fU C i j .free d own x.1 x.2.2),.put q o (λx k f=>?_) λx g' b es k f e=>?_⟩;{grind};obtain⟨n,v2,l,a,_,c⟩:=h x k f;rw[a]at e;obtain⟨rfl,rfl,rfl⟩:=xm e;exact fT (p:=λx d=>fU C i j .free d own x.1 x.2.2) c
theorem af.done(a:i≠0)(h:∀v1,Env C i own v v1->AtD1 C i own g v1):af C i j .wZ own g v:=⟨_,.done a h⟩
theorem af.add{x:Nat}(c:Nat->Y2->YZ->Prop)(b:i=0)(h:∀v1,Env C i own v v1->Vu C i c g v1)(k:∀v1 y g',Env C i own v v1->c y g' v1->af C i (2*x+1) .bC own g' v1):af C i (2*x) .bC own g v:=⟨_,.add c b h λv1 y g' e d=>fT (p:=λz a=>fU C i (2*x+1) .bC a own z.1 z.2.1) (k v1 y g' e d)⟩
theorem af.spawn{x:Nat}{ownc:Nat->Prop}(A:i=0)(E:g.status=.running)(B:x<C.n)(D:∀k,ownc k->own k)(h:∀v1,Env C i own v v1->∃g' b,Y4 C.P (i==0) g v1=.spawn g' b v1 #[]/\b.status=.running/\af C (C.base+x) 0 .free ownc b v1/\af C i (2*x+2) .free (λk=>own k/\¬ownc k) g' v1):af C i (2*x+1) .free own g v:=by refine⟨_,.spawn (f:=Bb λz l=>fU C i (2*x+2) .free l (λk=>own k/\¬ownc k) z.1 z.2.1) (ρ:=Bb λz l=>fU C (C.base+x) 0 .free l ownc z.1 z.2.1) A E B D (λv1 n=>?_) (λv1 g' c F y n e=>?_) λv1 g' c F y n e=>?_⟩;{grind};{obtain⟨w,t,a,_,d,u⟩:=h v1 n;rw[a]at e;injection e with o q r s;subst o q r s;exact fT (p:=λz l=>fU C (C.base+x) 0 .free l ownc z.1 z.2.1) d};obtain⟨w,t,a,_,d,u⟩:=h v1 n;rw[a]at e;injection e with o q r s;subst o q r s;exact fT (p:=λz l=>fU C i (2*x+2) .free l (λk=>own k/\¬ownc k) z.1 z.2.1) u
theorem af.stop(b:C.solo)(a:g.status=.running)(h:∀v1,Env C i own v v1->C.halt own g v1):af C i j .free own g v:=⟨_,.stop b a h⟩
theorem af.wait(A:Y2->YZ->Prop)(a:i=0)(b:AO C i own A)(h:∃n,cL C i own A n g v):af C i (2*C.n) .bC own g v:=⟨_,.wait A a b h⟩
theorem lX.PK(h:ae.lX own C.RO C.CU v v' es):lX C own v v' es:=⟨h.keep,h.grow,h.os,h.out,h.tape,λe b=>by rcases h.evs e b with x|⟨k,n,o,⟨rfl,d⟩,c,rfl⟩|x;{exact .inl (.inl x)};{exact .inr ⟨o,by omega,rfl⟩};exact .inl (.inr (.inr x))⟩
theorem lX.sub(h:lX C own v v' es)(b:∀k,own k->own' k):lX C own' v v' es:=⟨λk l n=>h.keep k l λx=>n (b k x),h.grow,h.os,h.out,h.tape,λe f=>by rcases h.evs e f with x|x;{refine .inl ?_;rcases x with⟨k,c,a,d⟩|x;{refine .inl ⟨k,c,?_,d⟩;rcases a with(a|a)|a;{exact .inl (.inl (b k a))};{exact .inl (.inr a)};simp_all};exact .inr x};exact .inr x⟩
theorem w8:ae.more (fy C m own) v v'=fy C m (ae.more own v v'):=by funext k;simp only[ae.more,fy];grind
def nk(C:Cx)(own:Nat->Prop):Prop:=∀b,own b->b≠C.mu/\b≠C.mm/\b≠C.wg/\b≠C.out
theorem da.mine(l:da C v)(h:lX C O v v' es)(e:¬O C.mu)(f:¬O C.wg)(k:¬O C.out):da C v':=by obtain⟨⟨s,q,b⟩,⟨x,y,c⟩,⟨d,a,n⟩⟩:=l;exact⟨⟨s,q,(h.keep _ (Wa.1 b).1 e).trans b⟩,⟨x,y,(h.keep _ (Wa.1 c).1 f).trans c⟩,⟨d,(h.keep _ (Wa.1 a).1 k).trans a,n⟩⟩
theorem nk.more(h:nk C own)(d:da C v)(l:C.mm<v.heap.size):nk C (ae.more own v v'):=λb a=>by rcases a with a|a;{exact h b a};obtain⟨⟨s,q,e⟩,⟨x,y,p⟩,⟨k,o,n⟩⟩:=d;have f:=(Wa.1 e).1;grind
theorem nk.not(b:C.Ok)(h:nk C own):¬fy C m own C.mu/\¬fy C m own C.wg/\¬fy C m own C.out:=by refine⟨?_,?_,?_⟩<;>rintro(a|⟨_,a⟩);{exact(h _ a).1 rfl};{exact b.mj a};{exact(h _ a).2.2.1 rfl};{exact b.ov a.symm};{exact(h _ a).2.2.2 rfl};exact b.nt a.symm
theorem da.step(a:C.Ok)(b:nk C own){v':YZ}{es:Array ZG}(c:da C v)(h:lX C (fy C m own) v v' es):da C v':=c.mine h (b.not a).1 (b.not a).2.1 (b.not a).2.2
theorem af.loc(t:C.Ok)(A:m.said=YT){Stop:(Nat->Prop)->Y2->YZ->Prop}(h:ae.Loc C.P (i==0) C.RO C.CU Stop O g v):∀own,O=fy C m own->nk C own->C.mm<v.heap.size->da C v->(∀own g v,nk C own->C.mm<v.heap.size->da C v->Stop (fy C m own) g v->af C i j m own g v)->af C i j m own g v:=by induction h with|stop h=>exactλown e n p l k=>k _ _ _ n p l (e▸h)|step z y _ B=>intro own e n p l k;subst e;refine .step z A λx q=>?_;have f:=q.V4 t.pre l;obtain⟨s,u,r,a,b⟩:=y x f;have o:=lX.PK b;have c:=q.aI l;have d:=V9 p q.grow;exact⟨s,u,r,a,o,B x s u r f a _ w8 (n.more c d) (V9 d o.grow) (c.step t n o) k⟩
end
end Go.Cr
namespace Go.Cr
open Go.Conc Go.Mx Go.Rk
open Go.ConcR(KK WgAt wgBlock stA smA rd wr mk)
open Go.ConcM(OsLater)
variable{es:Array ZG}{s q:Int}{ty:Zd}{g:Nat}
section
variable{C:Cx}{i i':Nat}{own own':Nat->Prop}{w w' w1:YZ}
structure mq(C:Cx)(i:Nat)(own:Nat->Prop)(w w':YZ):Prop where
 keep:∀k,k<w.heap.size->¬own k->k≠C.mu->k≠C.wg->k≠C.out->w'.heap[k]?=w.heap[k]?
 grow:w.heap.size<=w'.heap.size
 aI:da C w->da C w'
 BN:∀o,¬C.oc i o->w'.cell? ⟨C.out,o,Y1⟩=w.cell? ⟨C.out,o,Y1⟩
 os:OsLater w.os w'.os
 out:w'.output=w.output
 tape:w'.tape=w.tape
theorem mq.env(f:C.Ok)(h:mq C i own w w')(l:i'≠i)(j:∀k,own' k->¬own k)(n:∀k,own' k->k<w.heap.size/\k≠C.mu/\k≠C.wg/\k≠C.out)(g:∀k,C.RO k->k<w.heap.size/\¬own k):Env C i' own' w w':=⟨λk e=>by rcases e with e|e;{obtain⟨a,b,c,d⟩:=n k e;exact h.keep k a (j k e) b c d};obtain⟨a,_,b,c⟩:=f.ro k e;exact h.keep k (g k e).1 (g k e).2 a b c,h.grow,h.aI,λo m=>h.BN o λx=>l (f.oc _ _ _ m x)⟩
theorem cell_of_block{a:ZA}(h:w'.heap[a.block]?=w.heap[a.block]?):w'.cell? a=w.cell? a:=by simp[YZ.cell?,h]
theorem jr(h:da C w):C.mu<w.heap.size/\C.wg<w.heap.size/\C.out<w.heap.size:=by obtain⟨⟨s,q,c⟩,⟨a,b,d⟩,⟨f,e,_⟩⟩:=h;exact⟨(Wa.1 c).1,(Wa.1 d).1,(Wa.1 e).1⟩
theorem da.gI(h:da C w)(f:w'.heap[C.mu]?=w.heap[C.mu]?)(g:w'.heap[C.wg]?=w.heap[C.wg]?)(j:w'.heap[C.out]?=w.heap[C.out]?):da C w':=by obtain⟨⟨s,q,a⟩,⟨x,y,b⟩,⟨e,c,d⟩⟩:=h;exact⟨⟨s,q,f.trans a⟩,⟨x,y,g.trans b⟩,⟨e,j.trans c,d⟩⟩
theorem mq.Ef(d:da C w)(h:lX C own w w' es)(f:¬own C.mu)(g:¬own C.wg)(e:¬own C.out):mq C i own w w':=by obtain⟨a,b,c⟩:=jr d;exact⟨λk j l _ _ _=>h.keep k j l,h.grow,λd=>d.gI (h.keep _ a f) (h.keep _ b g) (h.keep _ c e),λo _=>cell_of_block (h.keep _ c e),by rw[h.os];exact .refl _,h.out,h.tape⟩
theorem mq.Dh(h:DL w w' es):mq C i own w w':=⟨λk _ _ _ _ _=>by rw[h.heap],by rw[h.heap];omega,λa=>a.gI (by rw[h.heap]) (by rw[h.heap]) (by rw[h.heap]),λo _=>cell_of_block (by rw[h.heap]),h.os,h.out,h.tape⟩
theorem mq.refl:mq C i own w w:=.Dh (cO w)
theorem mq.Py(c:C.Ok)(h:Ub C i w w' es):mq C i own w w':=⟨λk _ _ _ _ d=>h.keep k d,by rw[h.size];omega,λb=>⟨by obtain⟨s,q,a⟩:=b.port;exact⟨s,q,(h.keep _ c.gf).trans a⟩,by obtain⟨s,q,a⟩:=b.gK;exact⟨s,q,(h.keep _ c.jd).trans a⟩,h.blk b.vM⟩,h.cells,by rw[h.os];exact .refl _,h.out,h.tape⟩
theorem ah(w:YZ)(a:ZA)(v:YY){k:Nat}(h:k≠a.block):(w.setCell a v).heap[k]?=w.heap[k]?:=by simp only[YZ.setCell];grind
theorem gP(w:YZ)(a:ZA)(v:YY){cs:Array YY}{t:Zd}{fr:Nat×Nat}(b:a.spot=Y1)(h:w.heap[a.block]?=YU (.cells cs t fr)):(w.setCell a v).heap[a.block]?=YU (.cells (cs.setIfInBounds a.off v) t fr):=by simp only[YZ.setCell];grind
theorem cN(w:YZ)(a:ZA)(v:YY):(w.setCell a v).heap.size=w.heap.size:=by simp
theorem aB.setSt(a:C.Ok)(h:aB C w s q)(s':Int):aB C (w.setCell C.muA (.int .i32 s')) s' q:=by unfold aB at h⊢;rw[show C.mu=C.muA.block from rfl,gP w C.muA _ rfl h];congr 2;show(C.pre++#[YY.int .i32 s,YY.int .u32 q]).setIfInBounds C.mo (YY.int .i32 s')=C.pre++#[YY.int .i32 s',YY.int .u32 q];rw[<-a.pre];simp
theorem aB.setSm(b:C.Ok)(h:aB C w s q)(a:Int):aB C (w.setCell C.msA (.int .u32 a)) s a:=by unfold aB at h⊢;rw[show C.mu=C.msA.block from rfl,gP w C.msA _ rfl h];congr 2;show(C.pre++#[YY.int .i32 s,YY.int .u32 q]).setIfInBounds (C.mo+1) (YY.int .u32 a)=C.pre++#[YY.int .i32 s,YY.int .u32 a];rw[<-b.pre];simp
theorem mq.set(a:ZA)(v:YY)(c:a.block=C.mu\/a.block=C.wg)(b:C.Ok)(d:da C w->da C (w.setCell a v)):mq C i own w (w.setCell a v):=⟨λk _ _ e f _=>ah w a v (by omega),by simp,d,λo _=>cell_of_block (ah w a v (by rcases c with h|h<;>rw[h];{exact b.gf.symm};exact b.jd.symm)),.refl _,rfl,rfl⟩
theorem mq.st(c:C.Ok)(s':Int):mq C i own w (w.setCell C.muA (.int .i32 s')):=.set _ _ (.inl rfl) c λd=>⟨by obtain⟨s,q,a⟩:=d.port;exact⟨s',q,a.setSt c s'⟩,by obtain⟨s,q,a⟩:=d.gK;exact⟨s,q,(ah w C.muA _ c.gm.symm).trans a⟩,by obtain⟨e,a,b⟩:=d.vM;exact⟨e,(ah w C.muA _ c.gf.symm).trans a,b⟩⟩
theorem mq.sm(c:C.Ok)(s':Int):mq C i own w (w.setCell C.msA (.int .u32 s')):=.set _ _ (.inl rfl) c λd=>⟨by obtain⟨s,q,a⟩:=d.port;exact⟨s,s',a.setSm c s'⟩,by obtain⟨s,q,a⟩:=d.gK;exact⟨s,q,(ah w C.msA _ c.gm.symm).trans a⟩,by obtain⟨e,a,b⟩:=d.vM;exact⟨e,(ah w C.msA _ c.gf.symm).trans a,b⟩⟩
theorem kY{st sm:Int}(h:WgAt ty g w st sm)(v:Int):WgAt ty g (w.setCell (stA g) (.int .u64 v)) v sm:=by unfold WgAt wgBlock at h⊢;exact(gP w (stA g) _ rfl h).trans rfl
theorem qf{st sm:Int}(h:WgAt ty g w st sm)(v:Int):WgAt ty g (w.setCell (smA g) (.int .u32 v)) st v:=by unfold WgAt wgBlock at h⊢;exact(gP w (smA g) _ rfl h).trans rfl
theorem Ps{st sm st' sm':Int}(h:WgAt ty g w st sm)(k:WgAt ty g w st' sm'):st=st'/\sm=sm':=by unfold WgAt wgBlock at h k;simp_all
theorem mq.jb(c:C.Ok)(f:C.vk=wgBlock C.tW)(s':Int):mq C i own w (w.setCell (stA C.wg) (.int .u64 s')):=.set _ _ (.inr rfl) c λd=>⟨by obtain⟨s,q,a⟩:=d.port;exact⟨s,q,(ah w (stA C.wg) _ c.gm).trans a⟩,by obtain⟨s,q,a⟩:=d.gK;rw[f]at a⊢;exact⟨s',q,kY a s'⟩,by obtain⟨e,a,b⟩:=d.vM;exact⟨e,(ah w (stA C.wg) _ c.jd.symm).trans a,b⟩⟩
theorem mq.VA(c:C.Ok)(f:C.vk=wgBlock C.tW)(s':Int):mq C i own w (w.setCell (smA C.wg) (.int .u32 s')):=.set _ _ (.inr rfl) c λd=>⟨by obtain⟨s,q,a⟩:=d.port;exact⟨s,q,(ah w (smA C.wg) _ c.gm).trans a⟩,by obtain⟨s,q,a⟩:=d.gK;rw[f]at a⊢;exact⟨s,s',qf a s'⟩,by obtain⟨e,a,b⟩:=d.vM;exact⟨e,(ah w (smA C.wg) _ c.jd.symm).trans a,b⟩⟩
theorem Env.Iq(f:C.Ok)(h:mq C i (λ_=>False) w w')(l:∀k,own k->k<w.heap.size/\k≠C.mu/\k≠C.wg/\k≠C.out)(j:∀k,C.RO k->k<w.heap.size)(g:∀o,C.oc i o->w'.cell? ⟨C.out,o,Y1⟩=w.cell? ⟨C.out,o,Y1⟩):Env C i own w w':=⟨λk e=>by rcases e with e|e;{obtain⟨a,b,c,d⟩:=l k e;exact h.keep k a id b c d};obtain⟨a,_,b,c⟩:=f.ro k e;exact h.keep k (j k e) id a b c,h.grow,h.aI,g⟩
end
end Go.Cr
namespace Go.Lw
open Go.Proofs Go.Conc Go.Mx Go.Rk Go.Cr Go.RowKit Go.Conc.Lib Go.ConcR.Gen
open Go.ConcR(KK WgAt stA smA rd wr mk DC0)
open Go.ConcM(goes_pad goes_le OsLater)
variable{C:Cx}{i j:Nat}{m:Md}{own:Nat->Prop}{g:Y2}{v w:YZ}{S:Y2->YZ->Prop}{K:YZ->Prop}{s q:Int}
section
instance:Go.ConcR.Payload:=⟨3⟩
variable{w1:YZ}
theorem OF{w':YZ}{es:Array ZG}(h:DC0 w w' es):DL w w' es:=by obtain⟨rfl,rfl⟩:=h;exact cO _
theorem zq{K K':Y2->YZ->Array ZG->Prop}{s:GStep}(h:∀g w es,K g w es->K' g w es)(k:s.goes K):s.goes K':=by cases s<;>first|exact h _ _ _ k|exact k
theorem NO{k:Nat}:∀{n:Nat}{g:Y2}{v:YZ},Goes C.P (i==0) (Env C i own) DC0 (cL C i own S k) n g v->cL C i own S (k+n) g v|0,_,_,h=>h _ .refl|n+1,g,v,h=>by rcases h with h|⟨c,h⟩;{exact goes_pad (h _ .refl) _};refine .inr ⟨c,λx d=>zq (λg w e b=>?_) (h x d)⟩;exact⟨OF b.1,NO b.2⟩
def Kn(C:Cx)(i:Nat)(own:Nat->Prop)(v w:YZ):Prop:=Env C i own v w/\da C w
theorem SX:(f113.name== "runtime.NumGoroutine")=YT:=Ψ
theorem Ti:(f144.name== "runtime.NumGoroutine")=YT:=Ψ
theorem SJ:(f145.name== "runtime.NumGoroutine")=YT:=Ψ
theorem Tk:(f166.name== "runtime.NumGoroutine")=YT:=Ψ
theorem Tf:(f168.name== "runtime.NumGoroutine")=YT:=Ψ
theorem PH:(f127.name== "runtime.NumGoroutine")=YT:=Ψ
theorem QN:f127.body.isNone=YX:=Ψ
theorem O6:Extern.findNext f127=Y1:=Ψ
theorem Rd:Extern.find f127=YU (λ_=>do mark .disable;pure Extern.Race.none_):=Ψ
theorem OR:(f128.name== "runtime.NumGoroutine")=YT:=Ψ
theorem Qh:f128.body.isNone=YX:=Ψ
theorem Qv:Extern.findNext f128=Y1:=Ψ
theorem Q3:Extern.find f128=YU (λ_=>do mark .enable;pure Extern.Race.none_):=Ψ
theorem QJ:(f139.name== "runtime.NumGoroutine")=YT:=Ψ
theorem Qg:f139.body.isNone=YX:=Ψ
theorem OH:Extern.findNext f139=Y1:=Ψ
theorem Oi:Extern.find f139=YU (Extern.Race.marked .acquire):=Ψ
theorem QM:(f126.name== "runtime.NumGoroutine")=YT:=Ψ
theorem P6:f126.body.isNone=YX:=Ψ
theorem Ov:Extern.findNext f126=Y1:=Ψ
theorem OI:Extern.find f126=YU (Extern.Race.marked .releaseMerge):=Ψ
theorem JW:(f165.name== "runtime.NumGoroutine")=YT:=Ψ
theorem GG:f165.body.isNone=YX:=Ψ
theorem Ha:Extern.findNext f165=Y1:=Ψ
theorem H5:Extern.find f165=YU (Extern.Atomic.casT (.int .i32)):=Ψ
theorem O1:(f167.name== "runtime.NumGoroutine")=YT:=Ψ
theorem QU:f167.body.isNone=YX:=Ψ
theorem PQ:Extern.findNext f167=Y1:=Ψ
theorem Ot:Extern.find f167=YU (Extern.Atomic.update (Op.intArith .add) .i32 YX):=Ψ
theorem Jv:(f182.name== "runtime.NumGoroutine")=YT:=Ψ
theorem H0:f182.body.isNone=YX:=Ψ
theorem GA:Extern.findNext f182=Y1:=Ψ
theorem IG:Extern.find f182=YU (Extern.Sync.canSpin):=Ψ
theorem Q2:(f183.name== "runtime.NumGoroutine")=YT:=Ψ
theorem Qj:f183.body.isNone=YX:=Ψ
theorem QW:Extern.findNext f183=Y1:=Ψ
theorem OA:Extern.find f183=YU (λ_=>pure (.tuple #[])):=Ψ
theorem OT:(f185.name== "runtime.NumGoroutine")=YT:=Ψ
theorem Rc:f185.body.isNone=YX:=Ψ
theorem QX:Extern.findNext f185=Y1:=Ψ
theorem Re:Extern.find f185=YU (Extern.OsHooks.nano):=Ψ
theorem Oq:f185.norace=YX:=Ψ
theorem IC:(f186.name== "runtime.NumGoroutine")=YT:=Ψ
theorem Js:f186.body.isNone=YX:=Ψ
theorem Hb:Extern.findNext f186=Y1:=Ψ
theorem IH:Extern.find f186=YU (Extern.Sync.semacquire):=Ψ
theorem Pm:(f188.name== "runtime.NumGoroutine")=YT:=Ψ
theorem Om:f188.body.isNone=YX:=Ψ
theorem PR:Extern.findNext f188=Y1:=Ψ
theorem Q4:Extern.find f188=YU (Extern.Sync.semrelease):=Ψ
theorem U6:(Pz.funcs[(base 145).fn]?).any (·.norace)=YX:=Ψ
theorem Kx:(Pz.funcs[(base 166).fn]?).any (·.norace)=YX:=Ψ
theorem Vb:(Pz.funcs[(base 168).fn]?).any (·.norace)=YX:=Ψ
section
variable{main:Bool}{b:Y8}{a:ZH}{kk:List ZE}{cs:List Y8}{ops:Array ZK}{rest:List Nat}{o:ZK}
theorem zf{x:Zm}(p:ops[i]?=YU o)(s:Region.wanted o (Ze ops a.tmps)=YX)(n:b.kind≠.early)(e:o.op=.load 21 x){ad:ZA}{v:Int}(k:a.eval x=.pointer (YU ad))(h:w.cell? ad=YU (.int .i32 v))(q:(Pz.funcs[b.fn]?).any (·.norace)=YX):Y4 Pz main (G (b.at a (.inRegion ops (i::rest)::kk)) cs) w=.go (G (b.at (a.put o.dst (.int .i32 v)) (.inRegion ops rest::kk)) cs) w #[]:=by(have r:(Y3 a.eval o).run Pz w=.ok (.value (.int .i32 v)) w:=by unfold Y3;simp only[e,k];simp[go_sem,h]);(have l:(Y3 a.eval o).events Pz w #[]=#[⟨.cell ad,YT,YT⟩]:=by unfold Y3;simp only[e,k];simp[go_sem,h]);rw[stepG_value p s n r];unfold listed;rw[l,seen_def,q];rfl
end
noncomputable def lV:ZL:=f112.body.getD .skip
noncomputable def nW:ZL:=f113.body.getD .skip
noncomputable def cD:ZL:=f144.body.getD .skip
noncomputable def ak:ZL:=f166.body.getD .skip
end
section
variable{w1:YZ}
theorem aB.cell(a:C.Ok)(h:aB C w s q):w.cell? ⟨C.mu,C.mo,Y1⟩=YU (.int .i32 s):=by have b:=a.pre;unfold aB at h;simp[YZ.cell?,h,<-b]
theorem aB.Df(a:C.Ok)(h:aB C w s q):w.cell? ⟨C.mu,C.mo+1,Y1⟩=YU (.int .u32 q):=by have b:=a.pre;unfold aB at h;simp[YZ.cell?,h,<-b]
theorem aB.thaw(h:aB C w s q)(o:Nat):w.frozen? ⟨C.mu,o,Y1⟩=YT:=by unfold aB at h;simp[YZ.frozen?,h]
structure Kd(C:Cx)(i:Nat)(own:Nat->Prop)(K:YZ->Prop):Prop where
 env:∀{v v1},K v->Env C i own v v1->K v1
 st:∀{v}(x:Int),K v->K (v.setCell C.muA (.int .i32 x))
 sm:∀{v}(x:Int),K v->K (v.setCell C.msA (.int .u32 x))
 aI:∀{v},K v->da C v
theorem Kd.mu(b:Kd C i own K)(a:C.Ok)(h:K w):∃v:YY,w.cell? ⟨C.mu,C.mo,Y1⟩=YU v:=by obtain⟨⟨s,q,c⟩,_⟩:=b.aI h;exact⟨_,aB.cell a c⟩
theorem Kd.held(a:Kd C i own K)(h:K w/\ax C w)(r:Env C i (fy C .own own) w w1):K w1/\ax C w1:=⟨a.env h.1 r.fX,h.2.env r (.inr ⟨rfl,rfl⟩)⟩
theorem Ah{wd:Wd}(h:((wd.enc:Nat):Int)=0):wd=⟨YT,YT,YT,0⟩:=by obtain⟨L,W,s,n⟩:=wd;(have h:(⟨L,W,s,n⟩:Wd).enc=0:=by omega);cases L<;>cases W<;>cases s<;>simp[Wd.enc]at h⊢<;>omega
theorem RB:Pz.underlying 217=YU (.pointer 157):=Ψ
theorem z157:(Pz.info? 157).map (λi=>decide (i.size=0))=YU YT:=Ψ
end
end Go.Lw
namespace Go.Lw
open Go.Proofs Go.Conc Go.Mx Go.Rk Go.Cr Go.RowKit Go.Conc.Lib Go.ConcR.Gen Go.Pw
open Go.ConcR(KK WgAt stA smA rd wr mk DC0)
open Go.ConcM(goes_pad goes_le OsLater)
variable{C:Cx}{i j N mm x d a dd:Nat}{m:Md}{own:Nat->Prop}{g:Y2}{v n old:Int}{w:YZ}{S:Y2->YZ->Prop}{H L L':List (Nat×YY)}{t vs:Array YY}{f q:Zi}{k k' kk:List ZE}{obs:List (YY×YY)}{cs:List Y8}{y z:Zm}{o:ZK}{ags:Array Zm}{main:Bool}{ops:Array ZK}{rest:List Nat}{ats:Array Zd}{fn:Func}{ad:ZA}{u:YY}{P:Zf}{s d':Zd}{caller:Y8}{c:ZL}{kd:ZU}{J:Y2->Prop}
section
variable{v w1:YZ}
section
theorem aC{n:Nat}(h:∀w1,Env C i own w w1->S g w1):cL C i own S n g w:=Goes.stop h
theorem DU(n:Nat)(e:Sl N L t)(b:bA C.P H n (fr f (tm N L t) k)=YU (fr f (i7 C.P H n (fr f (tm N L t) k)) k',obs))(l:∀p∈obs,p.1=p.2)(c:Sl N L' (i7 C.P H n (fr f (tm N L t) k)))(d:∀a w1,Sl N L' a->Env C i own w w1->cL C i own S mm (G (fr f a k') cs) w1):cL C i own S (mm+n) (G (fr f t k) cs) w:=by refine NO ?_;have:=It (m:=0) (main:=i==0) (D:=DC0) bG (λw=>⟨rfl,rfl⟩) n e b l c (λa h w1 o=>d a w1 h o);simp_all
theorem Mj(n:Nat)(h:Sl N L t)(b:bA C.P H n (fr f (tm N L t) k)=YU (fr f (i7 C.P H n (fr f (tm N L t) k)) k',obs))(l:∀p∈obs,p.1=p.2)(c:Sl N L' (i7 C.P H n (fr f (tm N L t) k)))(d:∀a,Sl N L' a->af C i j m own (G (fr f a k') cs) v):af C i j m own (G (fr f t k) cs) v:=ME (J:=λg=>af C i j m own g v) (λF q o e=>.ctl rfl o e) n h b l c d
theorem bX(n:Nat)(O:List (Nat×Ob))(k':List ZE)(L':List (Nat×YY))(hS:Sl N L t)(hG:∀t' w1,Sl N L' t'->Env C i own w w1->cL C i own S mm (G (fr f t' k') cs) w1)(hP:C.P=Pz:=by exact hP)(h1:bA Pz (oh O) n (fr f (tm N L t) k)=YU (fr f (i7 Pz (oh O) n (fr f (tm N L t) k)) k',oo O):=by kernel_rfl)(h2:Sl N L' (i7 Pz (oh O) n (fr f (tm N L t) k)):=by exact .all):cL C i own S (mm+n) (G (fr f t k) cs) w:=DU n hS (by rw[hP];exact h1) (uX O) (by simp_all) hG
theorem dZ(n:Nat)(k':List ZE)(L':List (Nat×YY))(hS:Sl N L t)(hG:∀t' w1,Sl N L' t'->Env C i own w w1->cL C i own S mm (G (fr f t' k') cs) w1)(hP:C.P=Pz:=by exact hP)(h1:bA Pz (oh []) n (fr f (tm N L t) k)=YU (fr f (i7 Pz (oh []) n (fr f (tm N L t) k)) k',oo []):=by kernel_rfl)(h2:Sl N L' (i7 Pz (oh []) n (fr f (tm N L t) k)):=by exact .all):cL C i own S (mm+n) (G (fr f t k) cs) w:=bX n [] k' L' hS hG hP h1 h2
theorem xy(n:Nat)(O:List (Nat×Ob))(k':List ZE)(L':List (Nat×YY))(hS:Sl N L t)(hG:∀t',Sl N L' t'->af C i j m own (G (fr f t' k') cs) v)(hP:C.P=Pz:=by exact hP)(h1:bA Pz (oh O) n (fr f (tm N L t) k)=YU (fr f (i7 Pz (oh O) n (fr f (tm N L t) k)) k',oo O):=by kernel_rfl)(h2:Sl N L' (i7 Pz (oh O) n (fr f (tm N L t) k)):=by exact .all):af C i j m own (G (fr f t k) cs) v:=Mj n hS (by rw[hP];exact h1) (uX O) (by simp_all) hG
theorem cZ(n:Nat)(k':List ZE)(L':List (Nat×YY))(hS:Sl N L t)(hG:∀t',Sl N L' t'->af C i j m own (G (fr f t' k') cs) v)(hP:C.P=Pz:=by exact hP)(h1:bA Pz (oh []) n (fr f (tm N L t) k)=YU (fr f (i7 Pz (oh []) n (fr f (tm N L t) k)) k',oo []):=by kernel_rfl)(h2:Sl N L' (i7 Pz (oh []) n (fr f (tm N L t) k)):=by exact .all):af C i j m own (G (fr f t k) cs) v:=xy n [] k' L' hS hG hP h1 h2
end
theorem e9{n:Nat}(d:g.status=.running)(h:∀x,Env C i own w x->∃g' w',Y4 C.P (i==0) g x=.go g' w' #[]/\DL x w' #[]/\cL C i own S n g' w'):cL C i own S (n+1) g w:=.inr ⟨d,λx e=>by obtain⟨g',w',a,b,c⟩:=h x e;simp_all⟩
theorem p6(x:YZ):DL x x.later #[]:=⟨rfl,rfl,rfl,⟨x.tick,rfl⟩,rfl⟩
theorem k9(x:YZ):DL x x.asked #[]:=⟨rfl,rfl,rfl,.refl _,rfl⟩
theorem rq{x y:YZ}{es:Array ZG}(h:DL x y es):Env C i own x y:=⟨λk _=>by rw[h.heap],by rw[h.heap];omega,λf=>by obtain⟨⟨s,q,a⟩,⟨n,l,b⟩,⟨e,c,d⟩⟩:=f;exact⟨⟨s,q,by unfold aB at a⊢;rw[h.heap];exact a⟩,⟨n,l,by rw[h.heap];exact b⟩,⟨e,by rw[h.heap];exact c,d⟩⟩,λo _=>by simp[YZ.cell?,h.heap]⟩
def ba(o:ZK):Option Zi:=match o.op with
 |.call c=>(match c.callee with|.value (.func q)=>YU q|_=>Y1)
 |_=>Y1
def dD(o:ZK):Array Zm:=match o.op with|.call c=>c.args|_=>#[]
def vQ(o:ZK):Array Zd:=match o.op with|.call c=>c.argTypes|_=>#[]
theorem bF(h:ba o=YU q)(b:dD o=ags):o.op=.call {callee:=.value (.func q),args:=ags,argTypes:=vQ o}:=by subst b;unfold ba at h;unfold dD vQ;cases d:o.op with|call c=>obtain⟨e,k,f⟩:=c;grind|_=>simp_all
section
theorem eW{v:YY}(a:o.dst=YU d):G ((base f).at ((⟨t,[]⟩:ZH).put o.dst v) k) cs=G (fr f (t.setIfInBounds d v) k) cs:=by rw[a];rfl
theorem nU{v:Int}(hS:Sl N L t)(p:ops[x]?=YU o)(s:Region.wanted o (Ze ops (tm N L t))=YX)(k:o.dst=YU d)(h:o.op=.load 21 y)(u:(⟨t,[]⟩:ZH).eval y=.pointer (YU ad))(n:w.cell? ad=YU (.int .i32 v))(r:(Pz.funcs[f]?).any (·.norace)=YX):Y4 Pz main (G (fr f t (.inRegion ops (x::rest)::kk)) cs) w=.go (G (fr f (t.setIfInBounds d (.int .i32 v)) (.inRegion ops rest::kk)) cs) w #[]:=(zf (b:=base f) (a:=⟨t,[]⟩) p (aS hS s) (by k_ne) h u n r).trans (by first|(rw[eW k])|(rfl))
theorem lx{u:Zm}{v:Int}(hS:Sl N L t)(s:ops[x]?=YU o)(D:Region.wanted o (Ze ops (tm N L t))=YX)(h:o.dst=YU d)(A:ba o=YU 165)(l:dD o=#[y,z,u])(E:(⟨t,[]⟩:ZH).eval y=.pointer (YU ad))(F:(⟨t,[]⟩:ZH).eval z=.int .i32 v)(B:(⟨t,[]⟩:ZH).eval u=.int .i32 n)(p:w.cell? ad=YU (.int .i32 v))(r:w.frozen? ad=YT):Y4 Pz main (G (fr f t (.inRegion ops (x::rest)::kk)) cs) w=.go (G (fr f (t.setIfInBounds d (.bool YX)) (.inRegion ops rest::kk)) cs) (w.setCell ad (.int .i32 n)) #[rd ad,wr ad]:=(stepG_cas_hit (b:=base f) (a:=⟨t,[]⟩) s (aS hS D) (by k_ne) (bF A l) func165 JW GG Ha .i32 H5 E F B p r).trans (by first|(done)|(rw[eW h];rfl))
theorem j3{u:Zm}{v:Int}(hS:Sl N L t)(A:ops[x]?=YU o)(E:Region.wanted o (Ze ops (tm N L t))=YX)(k:o.dst=YU d)(B:ba o=YU 165)(p:dD o=#[y,z,u])(F:(⟨t,[]⟩:ZH).eval y=.pointer (YU ad))(H:(⟨t,[]⟩:ZH).eval z=.int .i32 old)(D:(⟨t,[]⟩:ZH).eval u=.int .i32 n)(r:w.cell? ad=YU (.int .i32 v))(s:w.frozen? ad=YT)(h:¬v=old):Y4 Pz main (G (fr f t (.inRegion ops (x::rest)::kk)) cs) w=.go (G (fr f (t.setIfInBounds d (.bool YT)) (.inRegion ops rest::kk)) cs) w #[rd ad]:=(stepG_cas_miss (b:=base f) (a:=⟨t,[]⟩) A (aS hS E) (by k_ne) (bF B p) func165 JW GG Ha .i32 H5 F H D r s h).trans (by first|(done)|(rw[eW k];rfl))
theorem ym{v:Int}(hS:Sl N L t)(s:ops[x]?=YU o)(A:Region.wanted o (Ze ops (tm N L t))=YX)(h:o.dst=YU d)(u:ba o=YU 167)(l:dD o=#[y,z])(B:(⟨t,[]⟩:ZH).eval y=.pointer (YU ad))(D:(⟨t,[]⟩:ZH).eval z=.int .i32 n)(p:w.cell? ad=YU (.int .i32 v))(r:w.frozen? ad=YT):Y4 Pz main (G (fr f t (.inRegion ops (x::rest)::kk)) cs) w=.go (G (fr f (t.setIfInBounds d (.int .i32 (Y7.i32.wrap (v+n)))) (.inRegion ops rest::kk)) cs) (w.setCell ad (.int .i32 (Y7.i32.wrap (v+n)))) #[rd ad,wr ad]:=(stepG_add_atomic (b:=base f) (a:=⟨t,[]⟩) s (aS hS A) (by k_ne) (bF u l) func167 O1 QU PQ .i32 Ot B D p r).trans (by first|(done)|(rw[eW h];rfl))
theorem PV(hS:Sl N L t)(u:ops[x]?=YU o)(z:Region.wanted o (Ze ops (tm N L t))=YX)(k:o.dst=YU d)(y:ba o=YU 186)(p:dD o=ags)(A:(ags.map (⟨t,[]⟩:ZH).eval)[0]?=YU (.pointer (YU ad)))(r:w.cell? ad=YU (.int .u32 n))(h:n≠0)(s:w.frozen? ad=YT):Y4 Pz main (G (fr f t (.inRegion ops (x::rest)::kk)) cs) w=.go (G (fr f (t.setIfInBounds d (.tuple #[])) (.inRegion ops rest::kk)) cs) (w.setCell ad (.int .u32 (n-1))) (semEvents ad):=(stepG_semacquire (b:=base f) (a:=⟨t,[]⟩) u (aS hS z) (by k_ne) (bF y p) func186 IC Js Hb IH A r h s).trans (by first|(rw[eW k])|(rfl))
theorem zH(hS:Sl N L t)(p:ops[x]?=YU o)(s:Region.wanted o (Ze ops (tm N L t))=YX)(r:ba o=YU 186)(l:dD o=ags)(u:(ags.map (⟨t,[]⟩:ZH).eval)[0]?=YU (.pointer (YU ad)))(n:w.cell? ad=YU (.int .u32 0)):Y4 Pz main (G (fr f t (.inRegion ops (x::rest)::kk)) cs) w=.go {G (fr f t (.inRegion ops (x::rest)::kk)) cs with status:=.blocked} w #[]:=stepG_semacquire_wait (b:=base f) (a:=⟨t,[]⟩) p (aS hS s) (bF r l) func186 IC Js Hb IH u n
theorem G6(hS:Sl N L t)(s:ops[x]?=YU o)(y:Region.wanted o (Ze ops (tm N L t))=YX)(h:o.dst=YU d)(u:ba o=YU 188)(l:dD o=ags)(z:(ags.map (⟨t,[]⟩:ZH).eval)[0]?=YU (.pointer (YU ad)))(p:w.cell? ad=YU (.int .u32 n))(r:w.frozen? ad=YT):Y4 Pz main (G (fr f t (.inRegion ops (x::rest)::kk)) cs) w=.go (G (fr f (t.setIfInBounds d (.tuple #[])) (.inRegion ops rest::kk)) cs) (w.setCell ad (.int .u32 (Y7.u32.wrap (n+1)))) (semEvents ad):=(stepG_semrelease (b:=base f) (a:=⟨t,[]⟩) s (aS hS y) (by k_ne) (bF u l) func188 Pm Om PR Q4 z p r).trans (by first|(rw[eW h])|(rfl))
theorem D3(hS:Sl N L t)(l:ops[x]?=YU o)(p:Region.wanted o (Ze ops (tm N L t))=YX)(h:o.dst=YU d)(n:ba o=YU 185):Y4 Pz main (G (fr f t (.inRegion ops (x::rest)::kk)) cs) w=.go (G (fr f (t.setIfInBounds d (Iv ((w.os.mono+w.tick:Nat):Int))) (.inRegion ops rest::kk)) cs) w.later #[]:=(stepG_nanotime (b:=base f) (a:=⟨t,[]⟩) l (aS hS p) (by k_ne) (bF n rfl) func185 OT Rc QX Re Oq).trans (by first|(rw[eW h])|(rfl))
theorem oK{k:Y7}(hS:Sl N L t)(s:ops[x]?=YU o)(y:Region.wanted o (Ze ops (tm N L t))=YX)(h:o.dst=YU d)(u:ba o=YU 182)(r:dD o=ags)(z:ags.map (⟨t,[]⟩:ZH).eval=#[.int k n])(l:4<=n):Y4 Pz main (G (fr f t (.inRegion ops (x::rest)::kk)) cs) w=.go (G (fr f (t.setIfInBounds d (.bool YT)) (.inRegion ops rest::kk)) cs) w #[]:=(stepG_canSpin_no (b:=base f) (a:=⟨t,[]⟩) s (aS hS y) (by k_ne) (bF u r) func182 Jv H0 GA IG z l).trans (by first|(rw[eW h])|(rfl))
theorem x8{k:Y7}(hS:Sl N L t)(s:ops[x]?=YU o)(y:Region.wanted o (Ze ops (tm N L t))=YX)(h:o.dst=YU d)(u:ba o=YU 182)(r:dD o=ags)(z:ags.map (⟨t,[]⟩:ZH).eval=#[.int k n])(l:n<4):Y4 Pz main (G (fr f t (.inRegion ops (x::rest)::kk)) cs) w=.go (G (fr f (t.setIfInBounds d (.bool w.spins)) (.inRegion ops rest::kk)) cs) w.asked #[]:=(stepG_canSpin_ask (b:=base f) (a:=⟨t,[]⟩) s (aS hS y) (by k_ne) (bF u r) func182 Jv H0 GA IG z l).trans (by first|(rw[eW h])|(rfl))
theorem Fl(hS:Sl N L t)(l:ops[x]?=YU o)(p:Region.wanted o (Ze ops (tm N L t))=YX)(h:o.dst=YU d)(n:ba o=YU 183):Y4 Pz main (G (fr f t (.inRegion ops (x::rest)::kk)) cs) w=.go (G (fr f (t.setIfInBounds d (.tuple #[])) (.inRegion ops rest::kk)) cs) w #[]:=(stepG_entry_pure (b:=base f) (a:=⟨t,[]⟩) (.tuple #[]) l (aS hS p) (by k_ne) (bF n rfl) func183 Q2 Qj QW OA).trans (by first|(rw[eW h])|(rfl))
end
end
section
variable{v w1:YZ}
section
theorem uG(hS:Sl N L t)(l:ops[x]?=YU o)(p:Region.wanted o (Ze ops (tm N L t))=YX)(h:o.dst=YU d)(n:ba o=YU 127):Y4 Pz main (G (fr f t (.inRegion ops (x::rest)::kk)) cs) w=.go (G (fr f (t.setIfInBounds d (.tuple #[])) (.inRegion ops rest::kk)) cs) w #[mk .disable]:=(stepG_mark0 (b:=base f) (a:=⟨t,[]⟩) .disable Θ l (aS hS p) (by k_ne) (bF n rfl) func127 PH QN O6 Rd).trans (by first|(rw[eW h];done)|(rw[eW h];rfl))
theorem rD(hS:Sl N L t)(l:ops[x]?=YU o)(p:Region.wanted o (Ze ops (tm N L t))=YX)(h:o.dst=YU d)(n:ba o=YU 128):Y4 Pz main (G (fr f t (.inRegion ops (x::rest)::kk)) cs) w=.go (G (fr f (t.setIfInBounds d (.tuple #[])) (.inRegion ops rest::kk)) cs) w #[mk .enable]:=(stepG_mark0 (b:=base f) (a:=⟨t,[]⟩) .enable Θ l (aS hS p) (by k_ne) (bF n rfl) func128 OR Qh Qv Q3).trans (by first|(rw[eW h];done)|(rw[eW h];rfl))
theorem uv(hS:Sl N L t)(n:ops[x]?=YU o)(r:Region.wanted o (Ze ops (tm N L t))=YX)(h:o.dst=YU d)(p:ba o=YU 139)(l:dD o=ags)(s:(ags.map (⟨t,[]⟩:ZH).eval)[0]?=YU (.pointer (YU ad))):Y4 Pz main (G (fr f t (.inRegion ops (x::rest)::kk)) cs) w=.go (G (fr f (t.setIfInBounds d (.tuple #[])) (.inRegion ops rest::kk)) cs) w #[mk (.acquire ad)]:=(stepG_markAt (b:=base f) (a:=⟨t,[]⟩) .acquire Θ n (aS hS r) (by k_ne) (bF p l) func139 QJ Qg OH Oi s).trans (by first|(rw[eW h];done)|(rw[eW h];rfl))
theorem sI(hS:Sl N L t)(n:ops[x]?=YU o)(r:Region.wanted o (Ze ops (tm N L t))=YX)(h:o.dst=YU d)(p:ba o=YU 126)(l:dD o=ags)(s:(ags.map (⟨t,[]⟩:ZH).eval)[0]?=YU (.pointer (YU ad))):Y4 Pz main (G (fr f t (.inRegion ops (x::rest)::kk)) cs) w=.go (G (fr f (t.setIfInBounds d (.tuple #[])) (.inRegion ops rest::kk)) cs) w #[mk (.releaseMerge ad)]:=(stepG_markAt (b:=base f) (a:=⟨t,[]⟩) .releaseMerge Θ n (aS hS r) (by k_ne) (bF p l) func126 QM P6 Ov OI s).trans (by first|(rw[eW h];done)|(rw[eW h];rfl))
theorem He(hS:Sl N L t)(n:ops[x]?=YU o)(r:Region.wanted o (Ze ops (tm N L t))=YX)(h:o.dst=YU d)(p:(Y3 (⟨t,[]⟩:ZH).eval o).run P w=.ok (.value u) w)(l:(Y3 (⟨t,[]⟩:ZH).eval o).events P w #[]=#[]):Y4 P main (G (fr f t (.inRegion ops (x::rest)::kk)) cs) w=.go (G (fr f (t.setIfInBounds d u) (.inRegion ops rest::kk)) cs) w #[]:=by refine(stepG_value (b:=base f) (a:=⟨t,[]⟩) (k:=kk) (cs:=cs) n (aS hS r) (by k_ne) p).trans ?_;unfold listed;rw[l,ki,eW h]
theorem xR{s d':Zd}{v:YY}(hS:Sl N L t)(p:ops[x]?=YU o)(u:Region.wanted o (Ze ops (tm N L t))=YX)(n:o.dst=YU d)(r:o.op=.convert 217 185 y)(z:(⟨t,[]⟩:ZH).eval y=.pointer (YU ad))(c:w.cell? ad=YU v):Y4 Pz main (G (fr f t (.inRegion ops (x::rest)::kk)) cs) w=.go (G (fr f (t.setIfInBounds d (.pointer (YU ad))) (.inRegion ops rest::kk)) cs) w #[]:=by have l:=run_convert_to_unsafe (P:=Pz) RB underlying185 z157 c;have k:=λe=>events_convert_to_unsafe (P:=Pz) RB underlying185 z157 c e;refine He hS p u n ?_ ?_;{unfold Y3;simp_all};unfold Y3;simp_all
theorem P2:Y4 P main (G (fr f t []) cs) w=.go (G (ae.eH f t [] .returning) cs) w #[]:=by rfl
theorem Qt:Y4 P main (G (fr f t (.code .ret::kk)) cs) w=.go (G (ae.eH f t (.code .ret::kk) .returning) cs) w #[]:=by rfl
theorem x9(h:P.funcs[f]?=YU fn)(b:fn.results=#[]):Y4 P main (G (ae.eH f t kk .returning) (caller::cs)) w=.go (G (caller.finish (.tuple #[])) cs) w #[]:=by
 have c:(results fn t).run P w=.ok (.tuple #[]) w:=by simp[results,b]
 have e:(results fn t).events P w #[]=#[]:=by simp[results,b]
 rw[ae.bD h c,e,ki]
end
section
theorem jq(a:C.P.funcs[f]?=YU fn)(b:fn.results=#[])(h:af C i j m own (G (caller.finish (.tuple #[])) cs) v):af C i j m own (G (fr f t []) (caller::cs)) v:=.ctl rfl (λ_=>P2) (.ctl rfl (λ_=>x9 a b) h)
theorem td(a:C.P.funcs[f]?=YU fn)(b:fn.results=#[])(h:af C i j m own (G (caller.finish (.tuple #[])) cs) v):af C i j m own (G (fr f t (.code .ret::kk)) (caller::cs)) v:=.ctl rfl (λ_=>Qt) (.ctl rfl (λ_=>x9 a b) h)
theorem cQ{n:Nat}{g':Y2}(a:g.status=.running)(h:∀w,Y4 C.P (i==0) g w=.go g' w #[])(k:cL C i own S n g' w):cL C i own S (n+1) g w:=e9 a λx b=>⟨g',x,h x,cO x,k.rely bG b⟩
end
theorem Vo{L S:Bool}(h:(L||S)=YX):(((L.toNat+4*S.toNat:Nat):Int)==0)=YT:=by grind
end
section
variable{v w1:YZ}
abbrev rv(kd:ZU)(f:Zi)(t:Array YY)(k:List ZE):Y8:={fn:=f,tmps:=t,todo:=k,defers:=[],mode:=.run,kind:=kd,roundOf:=Y1}
abbrev Rh(kd:ZU)(f:Zi)(t:Array YY)(k:List ZE):Y8:={fn:=f,tmps:=t,todo:=k,defers:=[],mode:=.returning,kind:=kd,roundOf:=Y1}
def bk(kd:ZU)(f:Zi):Y8:={base f with kind:=kd}
section
theorem yV(A:kd≠.early)(hS:Sl N L t)(B:ops[x]?=YU o)(F:Region.wanted o (Ze ops (tm N L t))=YX)(D:ba o=YU q)(y:dD o=ags)(E:ags.map (⟨t,[]⟩:ZH).eval=vs)(r:P.funcs[q]?=YU fn)(s:(fn.name== "runtime.NumGoroutine")=YT)(z:fn.body=YU c):Y4 P main (G (rv kd f t (.inRegion ops (x::rest)::kk)) cs) w=.go (G (fr q (vs++Array.replicate (fn.ntmps-vs.size) Zh) [.code c]) (rv kd f t (.inRegion ops (x::rest)::kk)::cs)) w #[]:=by subst E;have n:=bF D y;(have l:fn.body.isNone=YT:=by grind);have h:=stepG_enter (P:=P) (main:=main) (b:=bk kd f) (a:=⟨t,[]⟩) (k:=kk) (rest:=rest) (cs:=cs) (w:=w) B (aS hS F) A (run_call_body n r s l);rw[enter_at _ r z]at h;(have e:listed P (bk kd f).fn ⟨t,[]⟩ o w=#[]:=by unfold listed;rw[events_call_body n r s l];rfl);rw[e]at h;exact h
theorem Ej(hS:Sl N L t)(n:ops[x]?=YU o)(s:Region.wanted o (Ze ops (tm N L t))=YX)(p:ba o=YU q)(e:dD o=ags)(r:ags.map (⟨t,[]⟩:ZH).eval=vs)(k:P.funcs[q]?=YU fn)(l:(fn.name== "runtime.NumGoroutine")=YT)(h:fn.body=YU c):Y4 P main (G (fr f t (.inRegion ops (x::rest)::kk)) cs) w=.go (G (fr q (vs++Array.replicate (fn.ntmps-vs.size) Zh) [.code c]) (fr f t (.inRegion ops (x::rest)::kk)::cs)) w #[]:=yV (kd:=.normal) Θ hS n s p e r k l h
theorem xj(h:t.getD a Zh=u):(#[.tmp a]:Array Zm).map (⟨t,[]⟩:ZH).eval=#[u]:=by subst h;simp[ZH.eval]
theorem Ga{b:Nat}{u':YY}(h:t.getD a Zh=u)(e:t.getD b Zh=u'):(#[.tmp a,.tmp b]:Array Zm).map (⟨t,[]⟩:ZH).eval=#[u,u']:=by subst h e;simp[ZH.eval]
theorem OV{c:YY}(h:t.getD a Zh=u):(#[.tmp a,.const c]:Array Zm).map (⟨t,[]⟩:ZH).eval=#[u,c]:=by subst h;simp[ZH.eval]
theorem KT(b:ops[x]?=YU o)(a:o.dst=YU d)(u:YY):(rv kd f t (.inRegion ops (x::rest)::kk)).finish u=rv kd f (t.setIfInBounds d u) (.inRegion ops rest::kk):=by simp[Y8.finish,b,a]
theorem G8(y:kd≠.early)(s:∀F a,(∀w,Y4 P main (G F cs) w=.go (G a cs) w #[])->J (G a cs)->J (G F cs))(n:Nat)(u:Sl N L t)(h:bA P H n (rv kd f (tm N L t) k)=YU (rv kd f (match bA P H n (rv kd f (tm N L t) k)with|some x=>x.1.tmps|none=>#[]) k',obs))(z:∀p∈obs,p.1=p.2)(l:Sl N L' (match bA P H n (rv kd f (tm N L t) k)with|some x=>x.1.tmps|none=>#[]))(r:∀b,Sl N L' b->J (G (rv kd f b k') cs)):J (G (rv kd f t k) cs):=by(have e:rv kd f t k=rv kd f (tm N L t) k:=by rw[<-u.tm]);rw[e];exact ph (main:=main) s n h z rfl y (r _ l)
theorem qw(s:kd≠.early)(n:Nat)(r:Sl N L t)(b:bA C.P H n (rv kd f (tm N L t) k)=YU (rv kd f (match bA C.P H n (rv kd f (tm N L t) k)with|some x=>x.1.tmps|none=>#[]) k',obs))(u:∀p∈obs,p.1=p.2)(e:Sl N L' (match bA C.P H n (rv kd f (tm N L t) k)with|some x=>x.1.tmps|none=>#[]))(h:∀a,Sl N L' a->af C i j m own (G (rv kd f a k') cs) v):af C i j m own (G (rv kd f t k) cs) v:=G8 (main:=i==0) (J:=λg=>af C i j m own g v) s (λF z y l=>.ctl rfl y l) n r b u e h
theorem A9(n:Nat)(h:Sl N L t)(a:bA C.P H n (fr f (tm N L t) k)=YU (fr f (i7 C.P H n (fr f (tm N L t) k)) k',obs))(l:∀p∈obs,p.1=p.2)(b:∀w1,Env C i own w w1->cL C i own S mm (G (fr f (i7 C.P H n (fr f (tm N L t) k)) k') cs) w1):cL C i own S (mm+n) (G (fr f t k) cs) w:=by(have e:fr f t k=fr f (tm N L t) k:=by rw[<-h.tm]);rw[e];exact tn bG cO n a l rfl Θ (b w .refl)
theorem wh(n:kd≠.early)(hS:Sl N L t)(r:ops[x]?=YU o)(y:Region.wanted o (Ze ops (tm N L t))=YX)(s:ba o=YU q)(e:dD o=ags)(u:ags.map (⟨t,[]⟩:ZH).eval=vs)(l:C.P.funcs[q]?=YU fn)(p:(fn.name== "runtime.NumGoroutine")=YT)(k:fn.body=YU c)(h:af C i j m own (G (fr q (vs++Array.replicate (fn.ntmps-vs.size) Zh) [.code c]) (rv kd f t (.inRegion ops (x::rest)::kk)::cs)) v):af C i j m own (G (rv kd f t (.inRegion ops (x::rest)::kk)) cs) v:=.ctl rfl (λ_=>yV n hS r y s e u l p k) h
theorem MF:Y4 P main (G (rv kd f t []) cs) w=.go (G (Rh kd f t []) cs) w #[]:=by rfl
theorem Al(h:af C i j m own (G (Rh kd f t []) cs) v):af C i j m own (G (rv kd f t []) cs) v:=.ctl rfl (λ_=>MF) h
theorem zQ(a:C.P.funcs[f]?=YU fn)(b:fn.results=#[])(h:af C i j m own (G (caller.finish (.tuple #[])) cs) v):af C i j m own (G (Rh .normal f t kk) (caller::cs)) v:=.ctl rfl (λ_=>x9 a b) h
theorem Fa(l:C.P.funcs[f]?=YU fn)(e:fn.results=#[])(k:caller.mode=.returning)(h:af C i j m own (G caller cs) v):af C i j m own (G (Rh .deferred f t kk) (caller::cs)) v:=.ctl rfl (λw=>stepG_leave_deferred (b:=bk .deferred f) (a:=⟨t,[]⟩) (todo:=kk) rfl rfl l (results_none e _ _ w) (events_results_none e _ _) k) h
end
end
section
variable{v w1:YZ}
abbrev cF(kd:ZU)(ds:List Zv)(f:Zi)(t:Array YY)(k:List ZE):Y8:={fn:=f,tmps:=t,todo:=k,defers:=ds,mode:=.run,kind:=kd,roundOf:=Y1}
abbrev yA(kd:ZU)(ds:List Zv)(f:Zi)(t:Array YY)(k:List ZE):Y8:={fn:=f,tmps:=t,todo:=k,defers:=ds,mode:=.returning,kind:=kd,roundOf:=Y1}
structure Xt(P:Zf)(q:Zi)(fn:Func):Prop where
 f:P.funcs[q]?=YU fn
 n:(fn.name== "runtime.NumGoroutine")=YT
 b:fn.body.isNone=YX
 x:Extern.findNext fn=Y1
section
variable{ds:List Zv}
def kW(P:Zf)(H:List (Nat×YY))(n:Nat)(F:Y8):Array YY:=match bA P H n F with|some x=>x.1.tmps|none=>#[]
theorem zF(y:kd≠.early)(s:∀F a,(∀w,Y4 P main (G F cs) w=.go (G a cs) w #[])->J (G a cs)->J (G F cs))(n:Nat)(u:Sl N L t)(h:bA P H n (cF kd ds f (tm N L t) k)=YU (cF kd ds f (kW P H n (cF kd ds f (tm N L t) k)) k',obs))(z:∀p∈obs,p.1=p.2)(l:Sl N L' (kW P H n (cF kd ds f (tm N L t) k)))(r:∀b,Sl N L' b->J (G (cF kd ds f b k') cs)):J (G (cF kd ds f t k) cs):=by(have e:cF kd ds f t k=cF kd ds f (tm N L t) k:=by rw[<-u.tm]);rw[e];exact ph s n h z rfl y (r _ l)
theorem GH(s:kd≠.early)(n:Nat)(r:Sl N L t)(b:bA C.P H n (cF kd ds f (tm N L t) k)=YU (cF kd ds f (kW C.P H n (cF kd ds f (tm N L t) k)) k',obs))(u:∀p∈obs,p.1=p.2)(e:Sl N L' (kW C.P H n (cF kd ds f (tm N L t) k)))(h:∀a,Sl N L' a->af C i j m own (G (cF kd ds f a k') cs) v):af C i j m own (G (cF kd ds f t k) cs) v:=zF (J:=λg=>af C i j m own g v) s (λF z y l=>.ctl rfl y l) n r b u e h
theorem FC(u:kd≠.early)(n:Nat)(s:Sl N L t)(e:bA P H n (cF kd ds f (tm N L t) k)=YU (cF kd ds f (kW P H n (cF kd ds f (tm N L t) k)) k',obs))(y:∀p∈obs,p.1=p.2)(h:Sl N L' (kW P H n (cF kd ds f (tm N L t) k)))(l:∀b,Sl N L' b->∃a,QuitsD P a dd (G (cF kd ds f b k') cs)):∃a,QuitsD P a dd (G (cF kd ds f t k) cs):=zF (J:=λg=>∃a,QuitsD P a dd g) u (λF A z⟨a,r⟩=>⟨a+1,.ctl rfl (λw=>z w) r⟩) n s e y h l
theorem y7(s:kd≠.early)(n:Nat)(r:Sl N L t)(b:bA C.P H n (cF kd ds f (tm N L t) k)=YU (cF kd ds f (kW C.P H n (cF kd ds f (tm N L t) k)) k',obs))(u:∀p∈obs,p.1=p.2)(h:Sl N L' (kW C.P H n (cF kd ds f (tm N L t) k)))(l:∀a w1,Sl N L' a->Env C i own w w1->cL C i own S mm (G (cF kd ds f a k') cs) w1):cL C i own S (mm+n) (G (cF kd ds f t k) cs) w:=by(have e:cF kd ds f t k=cF kd ds f (tm N L t) k:=by rw[<-r.tm]);rw[e];exact tn bG cO n b u rfl s (l _ w h .refl)
theorem yf(n:Nat)(O:List (Nat×Ob))(k':List ZE)(L':List (Nat×YY))(hS:Sl N L t)(hG:∀t',Sl N L' t'->af C i j m own (G (cF kd ds f t' k') cs) v)(hP:C.P=Pz:=by exact hP)(hk:kd≠.early:=by simp)(h1:bA Pz (oh O) n (cF kd ds f (tm N L t) k)=YU (cF kd ds f (kW Pz (oh O) n (cF kd ds f (tm N L t) k)) k',oo O):=by kernel_rfl)(h2:Sl N L' (kW Pz (oh O) n (cF kd ds f (tm N L t) k)):=by exact .all):af C i j m own (G (cF kd ds f t k) cs) v:=GH hk n hS (by rw[hP];exact h1) (uX O) (by simp_all) hG
theorem eU(n:Nat)(k':List ZE)(L':List (Nat×YY))(hS:Sl N L t)(hG:∀t',Sl N L' t'->af C i j m own (G (cF kd ds f t' k') cs) v)(hP:C.P=Pz:=by exact hP)(hk:kd≠.early:=by simp)(h1:bA Pz (oh []) n (cF kd ds f (tm N L t) k)=YU (cF kd ds f (kW Pz (oh []) n (cF kd ds f (tm N L t) k)) k',oo []):=by kernel_rfl)(h2:Sl N L' (kW Pz (oh []) n (cF kd ds f (tm N L t) k)):=by exact .all):af C i j m own (G (cF kd ds f t k) cs) v:=yf n [] k' L' hS hG hP hk h1 h2
theorem tc(n:Nat)(O:List (Nat×Ob))(k':List ZE)(L':List (Nat×YY))(hS:Sl N L t)(hG:∀t',Sl N L' t'->∃qn,QuitsD C.P qn dd (G (cF kd ds f t' k') cs))(hP:C.P=Pz:=by exact hP)(hk:kd≠.early:=by simp)(h1:bA Pz (oh O) n (cF kd ds f (tm N L t) k)=YU (cF kd ds f (kW Pz (oh O) n (cF kd ds f (tm N L t) k)) k',oo O):=by kernel_rfl)(h2:Sl N L' (kW Pz (oh O) n (cF kd ds f (tm N L t) k)):=by exact .all):∃qn,QuitsD C.P qn dd (G (cF kd ds f t k) cs):=FC hk n hS (by rw[hP];exact h1) (uX O) (by simp_all) hG
theorem vd(n:Nat)(k':List ZE)(L':List (Nat×YY))(hS:Sl N L t)(hG:∀t',Sl N L' t'->∃qn,QuitsD C.P qn dd (G (cF kd ds f t' k') cs))(hP:C.P=Pz:=by exact hP)(hk:kd≠.early:=by simp)(h1:bA Pz (oh []) n (cF kd ds f (tm N L t) k)=YU (cF kd ds f (kW Pz (oh []) n (cF kd ds f (tm N L t) k)) k',oo []):=by kernel_rfl)(h2:Sl N L' (kW Pz (oh []) n (cF kd ds f (tm N L t) k)):=by exact .all):∃qn,QuitsD C.P qn dd (G (cF kd ds f t k) cs):=tc n [] k' L' hS hG hP hk h1 h2
theorem xn(n:Nat)(O:List (Nat×Ob))(k':List ZE)(L':List (Nat×YY))(hS:Sl N L t)(hG:∀t' w1,Sl N L' t'->Env C i own w w1->cL C i own S mm (G (cF kd ds f t' k') cs) w1)(hP:C.P=Pz:=by exact hP)(hk:kd≠.early:=by simp)(h1:bA Pz (oh O) n (cF kd ds f (tm N L t) k)=YU (cF kd ds f (kW Pz (oh O) n (cF kd ds f (tm N L t) k)) k',oo O):=by kernel_rfl)(h2:Sl N L' (kW Pz (oh O) n (cF kd ds f (tm N L t) k)):=by exact .all):cL C i own S (mm+n) (G (cF kd ds f t k) cs) w:=y7 hk n hS (by rw[hP];exact h1) (uX O) (by simp_all) hG
theorem cj(n:Nat)(k':List ZE)(L':List (Nat×YY))(hS:Sl N L t)(hG:∀t' w1,Sl N L' t'->Env C i own w w1->cL C i own S mm (G (cF kd ds f t' k') cs) w1)(hP:C.P=Pz:=by exact hP)(hk:kd≠.early:=by simp)(h1:bA Pz (oh []) n (cF kd ds f (tm N L t) k)=YU (cF kd ds f (kW Pz (oh []) n (cF kd ds f (tm N L t) k)) k',oo []):=by kernel_rfl)(h2:Sl N L' (kW Pz (oh []) n (cF kd ds f (tm N L t) k)):=by exact .all):cL C i own S (mm+n) (G (cF kd ds f t k) cs) w:=xn n [] k' L' hS hG hP hk h1 h2
theorem mM{v:YY}(a:o.dst=YU d):G ((bk kd f).at (ZH.put ⟨t,ds⟩ o.dst v) k) cs=G (cF kd ds f (t.setIfInBounds d v) k) cs:=by rw[a];rfl
theorem mY(A:kd≠.early)(hS:Sl N L t)(B:ops[x]?=YU o)(F:Region.wanted o (Ze ops (tm N L t))=YX)(D:ba o=YU q)(y:dD o=ags)(E:ags.map (⟨t,[]⟩:ZH).eval=vs)(r:P.funcs[q]?=YU fn)(s:(fn.name== "runtime.NumGoroutine")=YT)(z:fn.body=YU c):Y4 P main (G (cF kd ds f t (.inRegion ops (x::rest)::kk)) cs) w=.go (G (fr q (vs++Array.replicate (fn.ntmps-vs.size) Zh) [.code c]) (cF kd ds f t (.inRegion ops (x::rest)::kk)::cs)) w #[]:=by subst E;have n:=bF D y;(have l:fn.body.isNone=YT:=by grind);have h:=stepG_enter (main:=main) (b:=bk kd f) (a:=⟨t,ds⟩) (k:=kk) (rest:=rest) (cs:=cs) (w:=w) B (aS hS F) A (run_call_body n r s l);rw[enter_at _ r z]at h;(have e:listed P (bk kd f).fn ⟨t,ds⟩ o w=#[]:=by unfold listed;rw[events_call_body n r s l];rfl);rw[e]at h;exact h
theorem jl(b:ops[x]?=YU o)(a:o.dst=YU d)(u:YY):(cF kd ds f t (.inRegion ops (x::rest)::kk)).finish u=cF kd ds f (t.setIfInBounds d u) (.inRegion ops rest::kk):=by simp[Y8.finish,b,a]
theorem GK:Y4 P main (G (cF kd ds f t []) cs) w=.go (G (yA kd ds f t []) cs) w #[]:=by rfl
theorem kT:Y4 P main (G (cF kd ds f t (.code .ret::kk)) cs) w=.go (G (yA kd ds f t (.code .ret::kk)) cs) w #[]:=by rfl
theorem nY(h:P.funcs[f]?=YU fn)(e:fn.results=#[]):Y4 P main (G (yA .normal [] f t kk) (caller::cs)) w=.go (G (caller.finish (.tuple #[])) cs) w #[]:=stepG_leave (b:=base f) (a:=⟨t,[]⟩) rfl rfl h (results_none e _ _ w) (events_results_none e _ _)
theorem jx{s:Tmp}(h:P.funcs[f]?=YU fn)(e:fn.results=#[.tmp s])(k:t.getD s Zh=u):Y4 P main (G (yA .normal [] f t kk) (caller::cs)) w=.go (G (caller.finish u) cs) w #[]:=by subst k;exact stepG_leave (b:=base f) (a:=⟨t,[]⟩) rfl rfl h (results_tmp e _ _ w) (events_results_tmp e _ _)
theorem Kr(k:P.funcs[f]?=YU fn)(e:fn.results=#[])(h:caller.mode=.returning):Y4 P main (G (yA .deferred [] f t kk) (caller::cs)) w=.go (G caller cs) w #[]:=stepG_leave_deferred (b:=bk .deferred f) (a:=⟨t,[]⟩) rfl rfl k (results_none e _ _ w) (events_results_none e _ _) h
theorem yv(r:kd≠.early)(hS:Sl N L t)(s:ops[x]?=YU o)(y:Region.wanted o (Ze ops (tm N L t))=YX)(p:o.dst=Y1)(l:o.op=.defer {callee:=.value (.func q),args:=ags,argTypes:=ats})(u:ags.map (⟨t,[]⟩:ZH).eval=vs):Y4 P main (G (cF kd ds f t (.inRegion ops (x::rest)::kk)) cs) w=.go (G (cF kd (dcall q vs::ds) f t (.inRegion ops rest::kk)) cs) w #[]:=by subst u;refine(stepG_defer (b:=bk kd f) (a:=⟨t,ds⟩) s (aS hS y) r l).trans ?_;rw[p];rfl
theorem oD(m:Mark)(k:∀g,m≠.extern g)(X:Xt P q fn)(h:Extern.find fn=YU (λ_=>do mark m;pure Extern.Race.none_)):Y4 P main (G (yA kd (dcall q #[]::ds) f t kk) cs) w=.go (G (yA kd ds f t kk) cs) w #[mk m]:=by have:=stepG_unwind_entry (main:=main) (b:=bk kd f) (a:=⟨t,dcall q #[]::ds⟩) (todo:=kk) (cs:=cs) (w:=w) rfl X.f X.n X.b X.x h (v:=Extern.Race.none_) (w':=w) (evs:=#[⟨.mark m,YT,YX⟩]) Θ Θ (by simp_all);exact this
theorem pW(p:kd≠.early)(m:Mark)(r:∀g,m≠.extern g)(hS:Sl N L t)(s:ops[x]?=YU o)(y:Region.wanted o (Ze ops (tm N L t))=YX)(l:o.dst=YU d)(u:ba o=YU q)(X:Xt P q fn)(n:Extern.find fn=YU (λ_=>do mark m;pure Extern.Race.none_)):Y4 P main (G (cF kd ds f t (.inRegion ops (x::rest)::kk)) cs) w=.go (G (cF kd ds f (t.setIfInBounds d (.tuple #[])) (.inRegion ops rest::kk)) cs) w #[mk m]:=(stepG_mark0 (b:=bk kd f) (a:=⟨t,ds⟩) m r s (aS hS y) p (bF u rfl) X.f X.n X.b X.x n).trans (by rw[mM l];try rfl)
theorem mS(s:kd≠.early)(h:ZA->Mark)(u:∀ad g,h ad≠.extern g)(hS:Sl N L t)(y:ops[x]?=YU o)(A:Region.wanted o (Ze ops (tm N L t))=YX)(p:o.dst=YU d)(z:ba o=YU q)(n:dD o=ags)(X:Xt P q fn)(r:Extern.find fn=YU (Extern.Race.marked h))(B:(ags.map (⟨t,ds⟩:ZH).eval)[0]?=YU (.pointer (YU ad))):Y4 P main (G (cF kd ds f t (.inRegion ops (x::rest)::kk)) cs) w=.go (G (cF kd ds f (t.setIfInBounds d (.tuple #[])) (.inRegion ops rest::kk)) cs) w #[mk (h ad)]:=(stepG_markAt (b:=bk kd f) (a:=⟨t,ds⟩) h u y (aS hS A) s (bF z n) X.f X.n X.b X.x r B).trans (by rw[mM p];try rfl)
theorem Hd(p:kd≠.early)(u:YY)(hS:Sl N L t)(r:ops[x]?=YU o)(y:Region.wanted o (Ze ops (tm N L t))=YX)(l:o.dst=YU d)(s:ba o=YU q)(X:Xt P q fn)(n:Extern.find fn=YU (λ_=>pure u)):Y4 P main (G (cF kd ds f t (.inRegion ops (x::rest)::kk)) cs) w=.go (G (cF kd ds f (t.setIfInBounds d u) (.inRegion ops rest::kk)) cs) w #[]:=(stepG_entry_pure (b:=bk kd f) (a:=⟨t,ds⟩) u r (aS hS y) p (bF s rfl) X.f X.n X.b X.x n).trans (by rw[mM l])
theorem KZ(p:kd≠.early)(hS:Sl N L t)(r:ops[x]?=YU o)(y:Region.wanted o (Ze ops (tm N L t))=YX)(l:o.dst=YU d)(s:(Y3 (⟨t,ds⟩:ZH).eval o).run P w=.ok (.value u) w)(n:(Y3 (⟨t,ds⟩:ZH).eval o).events P w #[]=#[]):Y4 P main (G (cF kd ds f t (.inRegion ops (x::rest)::kk)) cs) w=.go (G (cF kd ds f (t.setIfInBounds d u) (.inRegion ops rest::kk)) cs) w #[]:=by refine(stepG_value (b:=bk kd f) (a:=⟨t,ds⟩) r (aS hS y) p s).trans ?_;unfold listed;rw[n,ki,mM l]
theorem uI{e:Zd}{v:YY}(k:P.underlying s=YU (.pointer e))(a:P.underlying d'=YU .unsafePointer)(l:(P.info? e).map (λi=>decide (i.size=0))=YU YT)(A:kd≠.early)(hS:Sl N L t)(B:ops[x]?=YU o)(E:Region.wanted o (Ze ops (tm N L t))=YX)(z:o.dst=YU d)(D:o.op=.convert s d' y)(F:(⟨t,ds⟩:ZH).eval y=.pointer (YU ad))(h:w.cell? ad=YU v):Y4 P main (G (cF kd ds f t (.inRegion ops (x::rest)::kk)) cs) w=.go (G (cF kd ds f (t.setIfInBounds d (.pointer (YU ad))) (.inRegion ops rest::kk)) cs) w #[]:=by have u:=run_convert_to_unsafe k a l h;have r:=λn=>events_convert_to_unsafe k a l h n;refine KZ A hS B E z ?_ ?_;{unfold Y3;simp_all};unfold Y3;simp_all
theorem GI(A:kd≠.early){v:Int}(hS:Sl N L t)(B:ops[x]?=YU o)(E:Region.wanted o (Ze ops (tm N L t))=YX)(r:o.dst=YU d)(D:ba o=YU q)(l:dD o=#[y,z])(X:Xt P q fn)(s:Extern.find fn=YU (Extern.Atomic.update (Op.intArith .add) .u64 YX))(F:(⟨t,ds⟩:ZH).eval y=.pointer (YU ad))(H:(⟨t,ds⟩:ZH).eval z=.int .u64 n)(p:w.cell? ad=YU (.int .u64 v))(u:w.frozen? ad=YT):Y4 P main (G (cF kd ds f t (.inRegion ops (x::rest)::kk)) cs) w=.go (G (cF kd ds f (t.setIfInBounds d (.int .u64 (Y7.u64.wrap (v+n)))) (.inRegion ops rest::kk)) cs) (w.setCell ad (.int .u64 (Y7.u64.wrap (v+n)))) #[rd ad,wr ad]:=(stepG_add_atomic (b:=bk kd f) (a:=⟨t,ds⟩) B (aS hS E) A (bF D l) X.f X.n X.b X.x .u64 s F H p u).trans (by rw[mM r];try rfl)
theorem x4(s:kd≠.early){v:Int}(hS:Sl N L t)(u:ops[x]?=YU o)(A:Region.wanted o (Ze ops (tm N L t))=YX)(p:o.dst=YU d)(z:ba o=YU q)(l:dD o=#[y])(X:Xt P q fn)(r:Extern.find fn=YU (Extern.Atomic.loadT (.int .u64)))(B:(⟨t,ds⟩:ZH).eval y=.pointer (YU ad))(n:w.cell? ad=YU (.int .u64 v)):Y4 P main (G (cF kd ds f t (.inRegion ops (x::rest)::kk)) cs) w=.go (G (cF kd ds f (t.setIfInBounds d (.int .u64 v)) (.inRegion ops rest::kk)) cs) w #[rd ad]:=(stepG_load_atomic (b:=bk kd f) (a:=⟨t,ds⟩) u (aS hS A) s (bF z l) X.f X.n X.b X.x .u64 r B n).trans (by rw[mM p];try rfl)
theorem Hl(B:kd≠.early)(hS:Sl N L t)(D:ops[x]?=YU o)(F:Region.wanted o (Ze ops (tm N L t))=YX)(r:o.dst=YU d)(E:ba o=YU q)(l:dD o=#[y,z])(X:Xt P q fn)(s:Extern.find fn=YU Extern.Atomic.storeT)(H:(⟨t,ds⟩:ZH).eval y=.pointer (YU ad))(I:(⟨t,ds⟩:ZH).eval z=.int .u64 n)(p:w.cell? ad=YU u)(A:w.frozen? ad=YT):Y4 P main (G (cF kd ds f t (.inRegion ops (x::rest)::kk)) cs) w=.go (G (cF kd ds f (t.setIfInBounds d (.tuple #[])) (.inRegion ops rest::kk)) cs) (w.setCell ad (.int .u64 n)) #[wr ad]:=(stepG_store_atomic (b:=bk kd f) (a:=⟨t,ds⟩) D (aS hS F) B (bF E l) X.f X.n X.b X.x s H I p A).trans (by rw[mM r];try rfl)
theorem B0(B:kd≠.early){u:Zm}{v:Int}(hS:Sl N L t)(D:ops[x]?=YU o)(H:Region.wanted o (Ze ops (tm N L t))=YX)(r:o.dst=YU d)(E:ba o=YU q)(l:dD o=#[y,z,u])(X:Xt P q fn)(s:Extern.find fn=YU (Extern.Atomic.casT (.int .u64)))(I:(⟨t,ds⟩:ZH).eval y=.pointer (YU ad))(J:(⟨t,ds⟩:ZH).eval z=.int .u64 v)(F:(⟨t,ds⟩:ZH).eval u=.int .u64 n)(p:w.cell? ad=YU (.int .u64 v))(A:w.frozen? ad=YT):Y4 P main (G (cF kd ds f t (.inRegion ops (x::rest)::kk)) cs) w=.go (G (cF kd ds f (t.setIfInBounds d (.bool YX)) (.inRegion ops rest::kk)) cs) (w.setCell ad (.int .u64 n)) #[rd ad,wr ad]:=(stepG_cas_hit (b:=bk kd f) (a:=⟨t,ds⟩) D (aS hS H) B (bF E l) X.f X.n X.b X.x .u64 s I J F p A).trans (by rw[mM r];try rfl)
theorem Ao(D:kd≠.early){u:Zm}{v:Int}(hS:Sl N L t)(E:ops[x]?=YU o)(I:Region.wanted o (Ze ops (tm N L t))=YX)(s:o.dst=YU d)(F:ba o=YU q)(p:dD o=#[y,z,u])(X:Xt P q fn)(A:Extern.find fn=YU (Extern.Atomic.casT (.int .u64)))(J:(⟨t,ds⟩:ZH).eval y=.pointer (YU ad))(K:(⟨t,ds⟩:ZH).eval z=.int .u64 old)(H:(⟨t,ds⟩:ZH).eval u=.int .u64 n)(r:w.cell? ad=YU (.int .u64 v))(B:w.frozen? ad=YT)(k:¬v=old):Y4 P main (G (cF kd ds f t (.inRegion ops (x::rest)::kk)) cs) w=.go (G (cF kd ds f (t.setIfInBounds d (.bool YT)) (.inRegion ops rest::kk)) cs) w #[rd ad]:=(stepG_cas_miss (b:=bk kd f) (a:=⟨t,ds⟩) E (aS hS I) D (bF F p) X.f X.n X.b X.x .u64 A J K H r B k).trans (by rw[mM s];try rfl)
theorem TS(z:kd≠.early)(hS:Sl N L t)(A:ops[x]?=YU o)(D:Region.wanted o (Ze ops (tm N L t))=YX)(s:o.dst=YU d)(B:ba o=YU q)(p:dD o=ags)(X:Xt P q fn)(u:Extern.find fn=YU Extern.Sync.semacquire)(E:(ags.map (⟨t,ds⟩:ZH).eval)[0]?=YU (.pointer (YU ad)))(r:w.cell? ad=YU (.int .u32 n))(k:n≠0)(y:w.frozen? ad=YT):Y4 P main (G (cF kd ds f t (.inRegion ops (x::rest)::kk)) cs) w=.go (G (cF kd ds f (t.setIfInBounds d (.tuple #[])) (.inRegion ops rest::kk)) cs) (w.setCell ad (.int .u32 (n-1))) (semEvents ad):=(stepG_semacquire (b:=bk kd f) (a:=⟨t,ds⟩) A (aS hS D) z (bF B p) X.f X.n X.b X.x u E r k y).trans (by rw[mM s])
theorem BR(hS:Sl N L t)(s:ops[x]?=YU o)(y:Region.wanted o (Ze ops (tm N L t))=YX)(u:ba o=YU q)(n:dD o=ags)(X:Xt P q fn)(r:Extern.find fn=YU Extern.Sync.semacquire)(z:(ags.map (⟨t,ds⟩:ZH).eval)[0]?=YU (.pointer (YU ad)))(p:w.cell? ad=YU (.int .u32 0)):Y4 P main (G (cF kd ds f t (.inRegion ops (x::rest)::kk)) cs) w=.go {G (cF kd ds f t (.inRegion ops (x::rest)::kk)) cs with status:=.blocked} w #[]:=stepG_semacquire_wait (b:=bk kd f) (a:=⟨t,ds⟩) s (aS hS y) (bF u n) X.f X.n X.b X.x r z p
theorem TW(y:kd≠.early)(hS:Sl N L t)(z:ops[x]?=YU o)(B:Region.wanted o (Ze ops (tm N L t))=YX)(r:o.dst=YU d)(A:ba o=YU q)(l:dD o=ags)(X:Xt P q fn)(s:Extern.find fn=YU Extern.Sync.semrelease)(D:(ags.map (⟨t,ds⟩:ZH).eval)[0]?=YU (.pointer (YU ad)))(p:w.cell? ad=YU (.int .u32 n))(u:w.frozen? ad=YT):Y4 P main (G (cF kd ds f t (.inRegion ops (x::rest)::kk)) cs) w=.go (G (cF kd ds f (t.setIfInBounds d (.tuple #[])) (.inRegion ops rest::kk)) cs) (w.setCell ad (.int .u32 (Y7.u32.wrap (n+1)))) (semEvents ad):=(stepG_semrelease (b:=bk kd f) (a:=⟨t,ds⟩) z (aS hS B) y (bF A l) X.f X.n X.b X.x s D p u).trans (by rw[mM r])
end
end
section
variable{v w1:YZ}
abbrev hl(C:Cx)(jb:Int)(st aw:Bool)(it:Nat)(z:Int):List (Nat×YY):=[(0,ϱ C.mu C.mo),(2,Iv jb),(3,.bool st),(4,.bool aw),(5,Iv it),(6,.int .i32 z)]
def jh(C:Cx)(K:YZ->Prop)(b₁:Y8)(a₁:ZH)(ops₁:Array ZK)(i₁:Nat)(rest₁:List Nat)(k₁:List ZE)(cs₁:List Y8)(o:Wd)(aw st:Bool)(it:Nat)(g:Y2)(w:YZ):Prop:=
 K w/\∃(jb:Int)(t:Array YY),Sl 139 (hl C jb st aw it (o.enc:Nat)) t/\g=G (fr 166 t (cA ak 504)) (b₁.at a₁ (.inRegion ops₁ (i₁::rest₁)::k₁)::cs₁)
section
variable{b₁:Y8}{a₁:ZH}{ops₁:Array ZK}{i₁:Nat}{rest₁:List Nat}{k₁:List ZE}{cs₁:List Y8}{K:YZ->Prop}
set_option maxRecDepth 100000 in theorem P5(hC:C.Ok)(hP:C.P=Pz)(hK:Kd C i own K)(c:K w)(hS:Sl 139 [(0,ϱ C.mu C.mo)] t):cL C i own (vP C i own (jh C K b₁ a₁ ops₁ i₁ rest₁ k₁ cs₁) YT YT 0) 21 (G (fr 166 t [.code ak]) (b₁.at a₁ (.inRegion ops₁ (i₁::rest₁)::k₁)::cs₁)) w:=by show cL C i own _ _ (G (fr 166 _ (cA ak 1)) _) w;refine dZ 21 (rA ak 62 [3,4]) [(0,ϱ C.mu C.mo),(2,Iv 0),(3,.bool YT),(4,.bool YT),(5,Iv 0),(12,ϱ C.mu C.mo)] hS λt w1 hS r=>aC (n:=0) λw1 e=>?_;replace c:=hK.env (hK.env c r) e;refine⟨rfl,λf q hw _=>⟨_,by rw[hP];exact nU hS (o:=opn (aQ (sb ak 62)) 3) (d:=13) Ψ Ψ Ψ (y:=.tmp 12) Ψ (hS.get (by rfl)) (aB.cell hC hw) Kx,5,?_⟩⟩;replace hS:Sl 139 [(13,.int .i32 (f.enc:Nat)),(0,ϱ C.mu C.mo),(2,Iv 0),(3,.bool YT),(4,.bool YT),(5,Iv 0),(12,ϱ C.mu C.mo)] _:=hS.put (d:=13) (v:=.int .i32 (f.enc:Nat)) Δ Θ;refine dZ 5 (cA ak 504) [(0,ϱ C.mu C.mo),(2,Iv 0),(3,.bool YT),(4,.bool YT),(5,Iv 0),(6,.int .i32 (f.enc:Nat))] hS λt w1 hS r=>aC (n:=0) λw1 e=>?_;exact⟨hK.env (hK.env c r) e,_,t,hS,rfl⟩
end
end
end Go.Lw
