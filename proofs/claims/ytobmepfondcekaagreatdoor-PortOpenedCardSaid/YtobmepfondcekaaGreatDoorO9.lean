/- A part of the proof of PortOpened. Conditions: none. -/
import Derived.Test.YtobmepfondcekaaGreatDoorO8
import Derived.Conc.FxWorld
set_option linter.all false
open Go.Proofs.Tryz renaming prog->Pz
open Go renaming Addr->Wq,CallKind->WH,Deferred->Wo,Event->Wv,Frame->VU,FuncId->V8,Goroutine->VK,Item->Wg,MemAct->We,MemOp->Wx,Obj->Ws,Trace->WG,Value->VI,World->VH,deafBehind->V9,stepG->VO,undef->VP
open Bool renaming false->Vo,true->VG
open Option renaming none->VJ,some->VF
open Go.Proofs.Tryz
namespace Go.Me
open Go.Proofs Go.Conc Go.Mx Go.Rk Go.Cr Go.Pw Go.Lw
variable{kd:WH}{ds:List Wo}{ro:Option Nat}{f q:V8}{N n i j x M:Nat}{L L' base:List (Nat×VI)}{t args:Array VI}{k k' kk:List Wg}{u:VI}{F:VU}{rd:Bool}{O:List (Nat×Ob)}{H H':List (Nat×Ws)}{C:Cx}{m:Md}{own:Nat->Prop}{v:VH}{FR:VH->Prop}{cs:List VU}{ix rest:List Nat}{fn:Func}{c:Code}{ops:Array Oper}{VT:List (Nat×Nat×VI)}{listed:Array Bool}
section
section
noncomputable def Ib(f:V8):Func:=(Pz.funcs[f]?).getD default
def SF(L':List (Nat×VI))(r:MR):=(({r.1 with tmps:=#[]}:VU),r.1.tmps.size,L'.map λp=>r.1.tmps.getD p.1 VP,r.2.1,r.2.2.1.map Prod.fst,r.2.2.2)
def ON(x:Option MR):List Nat:=match x with|some r=>r.2.2.1.map Prod.snd|none=>[]
abbrev ez(rd:Bool)(O:List (Nat×Ob))(n:Nat)(hs bs:List Nat)(F F':VU)(N:Nat)(L':List (Nat×VI))(H H':List (Nat×Ws)):Prop:=
 (ik Pz rd (oh O) n hs bs F H).map (SF L')=VF (F',N,L'.map Prod.snd,H',ON (ik Pz rd (oh O) n hs bs F H),oo O)
theorem ez.end{hs bs:List Nat}(h:ez rd O n hs bs F (fk kd ds ro f #[] k') N L' H H'):∃r,ik Pz rd (oh O) n hs bs F H=VF r/\(∀p∈r.2.2.1,p.1=p.2)/\(∀p∈r.2.2.2,p.1=p.2)/\∃s,r.1=fk kd ds ro f s k'/\Sl N L' s/\r.2.1=H':=by obtain⟨r,q,l⟩:=Ts.1 h;rw[q]at l;simp only[SF,ON,Tw]at l;obtain⟨a,b,c,d,e,g⟩:=l;have hS:Sl N L' r.1.tmps:=⟨b,λp j=>by obtain⟨i,m⟩:=Tz.1 j;have:=congrArg (·[i]?) c;simpa[Ty,m]using this⟩;refine⟨r,q,λp j=>?_,λp j=>tp O p (g▸j),r.1.tmps,?_,hS,d⟩;{obtain⟨i,m⟩:=Tz.1 j;have:=congrArg (·[i]?) e;simpa[Ty,m]using this};revert a;obtain⟨⟨w,x,y,z,A,B,C⟩,_⟩:=r;intro a;cases a;rfl
end
variable{ownA:Nat->Prop}
structure Hq(C:Cx)(FR:VH->Prop)(m:Md)(ownA own:Nat->Prop)(v:VH)(H:List (Nat×Ws)):Prop where
 hp:Hp C FR own v H
 sub:∀k,ownA k->own k
 dC:m.tok=VG->ao C v
theorem uS(A:aZ C FR)(K:m.said=Vo):Carry C.P rd (i==0) cs (λown g v=>af C i j m own g v) (Hq C FR m ownA) True where
 ctl own v F J u h:=.ctl rfl u h
 mem own v H k b o L F J hK B _ u h:=by
  refine .step rfl K λa z=>?_
  have d:=hK.hp.ef A z
  obtain⟨q,t⟩:=d.get B
  obtain⟨s,N,O⟩:=u a t
  have r:(iw a b L).heap.size=a.heap.size:=by simp[iw]
  have p:ab.more own a (iw a b L)=own:=by
   funext k
   simp only[ab.more,eq_iff_iff,r]
   exact⟨λh=>h.elim id (λh=>absurd h.2 Ω),.inl⟩
  refine⟨_,_,s,N,⟨λc _ f=>pC λe=>f (.inl (e▸q)),by omega,rfl,rfl,rfl,λe I=>?_⟩,?_⟩
  · obtain⟨x,y⟩:=O e I
    exact .inl (.inl ⟨b,x,.inl (.inl (.inl q)),y⟩)
  · rw[p]
    refine h _ ⟨d.put A B r (pD t) λc f=>pC f,hK.sub,λw=>?_⟩
    obtain⟨s,⟨E,f⟩,n⟩:=(hK.dC w).env z (.inr ⟨w,rfl⟩)
    exact⟨s,⟨E,(pC λe=>(hK.hp.ok b q).2.1 e.symm).trans f⟩,n⟩
 new _ own v H o F J hK u h:=by
  refine .step rfl K λa z=>?_
  have d:=hK.hp.ef A z
  have r:(a.alloc o).heap.size=a.heap.size+1:=VH.size_alloc a o
  refine⟨_,_,#[],u a,⟨λc f _=>?_,by omega,rfl,rfl,rfl,λe I=>by simp at I⟩,h _ _ _ ⟨d.alloc A o,λk B=>.inl (hK.sub k B),λw=>?_⟩⟩
  · show(a.heap.push o)[c]?=_
    rw[TP,if_neg (Uu f)]
  · obtain⟨s,⟨E,f⟩,n⟩:=(hK.dC w).env z (.inr ⟨w,rfl⟩)
    refine⟨s,⟨E,?_⟩,n⟩
    show(a.heap.push o)[C.mm]?=_
    rw[TP,if_neg (Uu d.mm)]
    exact f
section
variable[Late kd]
def OZ:Nat->(Ws->Ws)->List (Nat×Ws)->List (Nat×Ws)
 |_,_,[]=>[]
 |0,o,p::l=>(p.1,o p.2)::l
 |k+1,o,p::l=>p::OZ k o l
def ce(i:Nat)(v:VI):Ws->Ws
 |.cells c e fr=>.cells (c.setIfInBounds i v) e fr
 |o=>o
def ca(o _:Ws):Ws:=o
def fV:List (Nat×(Ws->Ws))->List (Nat×Ws)->List (Nat×Ws)
 |[],H=>H
 |(k,o)::st,H=>fV st (OZ k o H)
def sD:List Nat->List Ws->List (Nat×Ws)->List (Nat×Ws)
 |b::bs,o::os,H=>sD bs os ((b,o)::H)
 |_,_,H=>H
abbrev RG(C:Cx)(FR:VH->Prop)(i j:Nat)(m:Md)(kd:WH)(ds:List Wo)(ro:Option Nat)(f:V8)(N:Nat)(cs:List VU)(ownA:Nat->Prop)(L':List (Nat×VI))(k':List Wg)(H':List (Nat×Ws)):Prop:=
 ∀t own v,Sl N L' t->(∀k,ownA k->own k)->Hp C FR own v H'->af C i j m own (G (fk kd ds ro f t k') cs) v
theorem Jj{r:Nat}{L':List Nat->List (Nat×VI)}{H':List Nat->List (Nat×Ws)}(hS:Sl N L t)(hK:Hq C FR m ownA own v H)(hP:C.P=Pz)(y:aZ C FR)(D:m.said=Vo)(e:∀bs:List Nat,bs.length=r->ez Vo O n ix bs (fk kd ds ro f (tm N L t) k) (fk kd ds ro f #[] k') N (L' bs) H (H' bs))(h:∀bs:List Nat,bs.length=r->∀t own v,Sl N (L' bs) t->Hq C FR m ownA own v (H' bs)->af C i j m own (G (fk kd ds ro f t k') cs) v):af C i j m own (G (fk kd ds ro f t k) cs) v:=by have g:=uS (rd:=Vo) (i:=i) (j:=j) (ownA:=ownA) (cs:=cs) y D;rw[hP]at g;rw[hS.tm];refine g.run (oh O) n ix r (λ_=>trivial) own v _ H rfl Late.ne hK λbs d=>?_;obtain⟨x,l,o,p,E,q,s,w⟩:=(e bs d).end;exact⟨x,l,o,p,λa F b=>by rw[q];exact h bs d E a F s (w▸b)⟩
theorem rX(p:aZ C FR)(r:m.said=Vo):Carry C.P rd (i==0) cs (λown g v=>af C i j m own g v) (λa v H=>a=own/\Hq C FR m own a v H) False where
 ctl _ _ _ _ d h:=.ctl rfl d h
 mem a v H k b o y F l hK q s d h:=(uS p r).mem a v H k b o y F l hK.2 q s d λz c=>h z ⟨hK.1,c⟩
 new h:=h.elim
theorem P7(hS:Sl N L t)(hH:Hp C FR own v H)(hM:m.tok=VG->ao C v)(hP:C.P=Pz)(w:aZ C FR)(E:m.said=Vo)(e:ez Vo O n ix [] (fk kd ds ro f (tm N L t) k) (fk kd ds ro f #[] k') N L' H H')(h:∀t v,Sl N L' t->Hp C FR own v H'->(m.tok=VG->ao C v)->af C i j m own (G (fk kd ds ro f t k') cs) v):af C i j m own (G (fk kd ds ro f t k) cs) v:=by have c:=rX (rd:=Vo) (i:=i) (j:=j) (own:=own) (cs:=cs) w E;rw[hP]at c;rw[hS.tm];refine c.run (oh O) n ix 0 (λh=>absurd rfl h) own v _ H rfl Late.ne ⟨rfl,hH,λ_ h=>h,hM⟩ λJ D=>?_;obtain rfl:=T0.1 D;obtain⟨x,l,o,p,F,q,r,s⟩:=e.end;exact⟨x,l,o,p,λg I a=>by obtain⟨rfl,d⟩:=a;rw[q];exact h F I r (s▸d.hp) d.dC⟩
theorem r0(ix:List Nat)(st:List (Nat×(Ws->Ws)))(k':List Wg)(L':List (Nat×VI))(h:∀t v,Sl N L' t->Hp C FR own v (fV st H)->af C i j m own (G (fk kd ds ro f t k') cs) v)(n:Nat:=300)(O:List (Nat×Ob):=[])(hS:Sl N L t:=by exact hS)(hH:Hp C FR own v H:=by exact hH)(hP:C.P=Pz:=by exact hW.P)(hF:aZ C FR:=by exact hW.steady)(hm:m.said=Vo:=by rfl)(hM:m.tok=VG->ao C v:=by intro e;cases e)(e:ez Vo O n ix [] (fk kd ds ro f (tm N L t) k) (fk kd ds ro f #[] k') N L' H (fV st H):=by delta ez;kernel_rfl):af C i j m own (G (fk kd ds ro f t k) cs) v:=P7 hS hH hM hP hF hm e λt v hS hH _=>h t v hS hH
theorem q0(ix:List Nat)(st:List (Nat×(Ws->Ws)))(k':List Wg)(L':List (Nat×VI))(h:∀t v,Sl N L' t->Hp C FR own v (fV st H)->ao C v->af C i j .own own (G (fk kd ds ro f t k') cs) v)(n:Nat:=300)(O:List (Nat×Ob):=[])(hS:Sl N L t:=by exact hS)(hH:Hp C FR own v H:=by exact hH)(hP:C.P=Pz:=by exact hW.P)(hF:aZ C FR:=by exact hW.steady)(hM:ao C v:=by exact hM)(e:ez Vo O n ix [] (fk kd ds ro f (tm N L t) k) (fk kd ds ro f #[] k') N L' H (fV st H):=by delta ez;kernel_rfl):af C i j .own own (G (fk kd ds ro f t k) cs) v:=P7 (m:=.own) hS hH (λ_=>hM) hP hF rfl e λt v hS hH hM=>h t v hS hH (hM rfl)
theorem r1(ix:List Nat)(os:Nat->List Ws)(st:List (Nat×(Ws->Ws)))(k':List Wg)(L':Nat->List (Nat×VI))(h:∀b,RG C FR i j m kd ds ro f N cs ownA (L' b) k' (fV st (sD [b] (os b) H)))(n:Nat:=300)(O:List (Nat×Ob):=[])(hS:Sl N L t:=by exact hS)(hH:Hp C FR own v H:=by exact hH)(hsub:∀k,ownA k->own k:=by first|exact hsub|exactλ_ h=>h)(hP:C.P=Pz:=by exact hW.P)(hF:aZ C FR:=by exact hW.steady)(hm:m.said=Vo:=by rfl)(hM:m.tok=VG->ao C v:=by intro e;cases e)(e:∀b,ez Vo O n ix [b] (fk kd ds ro f (tm N L t) k) (fk kd ds ro f #[] k') N (L' b) H (fV st (sD [b] (os b) H)):=by intro b;delta ez;kernel_rfl):af C i j m own (G (fk kd ds ro f t k) cs) v:=Jj (r:=1) (L':=λbs=>(L' (bs.getD 0 0))) (H':=λbs=>fV st (sD bs (os (bs.getD 0 0)) H)) hS ⟨hH,hsub,hM⟩ hP hF hm (λbs hb=>by match bs,hb with|[b],_=>exact e b) λbs hb=>by match bs,hb with|[b],_=>exactλt own v hS hK=>h b t own v hS hK.sub hK.hp
theorem r2(ix:List Nat)(os:Nat->Nat->List Ws)(st:List (Nat×(Ws->Ws)))(k':List Wg)(L':Nat->Nat->List (Nat×VI))(h:∀b c,RG C FR i j m kd ds ro f N cs ownA (L' b c) k' (fV st (sD [b,c] (os b c) H)))(n:Nat:=300)(O:List (Nat×Ob):=[])(hS:Sl N L t:=by exact hS)(hH:Hp C FR own v H:=by exact hH)(hsub:∀k,ownA k->own k:=by first|exact hsub|exactλ_ h=>h)(hP:C.P=Pz:=by exact hW.P)(hF:aZ C FR:=by exact hW.steady)(hm:m.said=Vo:=by rfl)(hM:m.tok=VG->ao C v:=by intro e;cases e)(e:∀b c,ez Vo O n ix [b,c] (fk kd ds ro f (tm N L t) k) (fk kd ds ro f #[] k') N (L' b c) H (fV st (sD [b,c] (os b c) H)):=by intro b c;delta ez;kernel_rfl):af C i j m own (G (fk kd ds ro f t k) cs) v:=Jj (r:=2) (L':=λbs=>(L' (bs.getD 0 0) (bs.getD 1 0))) (H':=λbs=>fV st (sD bs (os (bs.getD 0 0) (bs.getD 1 0)) H)) hS ⟨hH,hsub,hM⟩ hP hF hm (λbs hb=>by match bs,hb with|[b,c],_=>exact e b c) λbs hb=>by match bs,hb with|[b,c],_=>exactλt own v hS hK=>h b c t own v hS hK.sub hK.hp
theorem r5(ix:List Nat)(os:Nat->Nat->Nat->Nat->Nat->List Ws)(st:List (Nat×(Ws->Ws)))(k':List Wg)(L':Nat->Nat->Nat->Nat->Nat->List (Nat×VI))(h:∀b c d g l,RG C FR i j m kd ds ro f N cs ownA (L' b c d g l) k' (fV st (sD [b,c,d,g,l] (os b c d g l) H)))(n:Nat:=300)(O:List (Nat×Ob):=[])(hS:Sl N L t:=by exact hS)(hH:Hp C FR own v H:=by exact hH)(hsub:∀k,ownA k->own k:=by first|exact hsub|exactλ_ h=>h)(hP:C.P=Pz:=by exact hW.P)(hF:aZ C FR:=by exact hW.steady)(hm:m.said=Vo:=by rfl)(hM:m.tok=VG->ao C v:=by intro e;cases e)(e:∀b c d g l,ez Vo O n ix [b,c,d,g,l] (fk kd ds ro f (tm N L t) k) (fk kd ds ro f #[] k') N (L' b c d g l) H (fV st (sD [b,c,d,g,l] (os b c d g l) H)):=by intro b c d g l;delta ez;kernel_rfl):af C i j m own (G (fk kd ds ro f t k) cs) v:=Jj (r:=5) (L':=λbs=>(L' (bs.getD 0 0) (bs.getD 1 0) (bs.getD 2 0) (bs.getD 3 0) (bs.getD 4 0))) (H':=λbs=>fV st (sD bs (os (bs.getD 0 0) (bs.getD 1 0) (bs.getD 2 0) (bs.getD 3 0) (bs.getD 4 0)) H)) hS ⟨hH,hsub,hM⟩ hP hF hm (λbs hb=>by match bs,hb with|[b,c,d,g,l],_=>exact e b c d g l) λbs hb=>by match bs,hb with|[b,c,d,g,l],_=>exactλt own v hS hK=>h b c d g l t own v hS hK.sub hK.hp
def zD(F:VU):Option (V8×Array VI):=(zU F).bind λo=>(aY o).map λq=>(q,(dO o).map F.eval)
theorem u7{P:Program}{main:Bool}{w:VH}(h:zD F=VF (q,args))(z:F.mode=.run)(s:F.kind≠.early)(R:P.funcs[q]?=VF fn)(S:(fn.name== "runtime.NumGoroutine")=Vo)(O:fn.body=VF c):VO P main (G F cs) w=.go (G (fr q (args++Array.replicate (fn.ntmps-args.size) VP) [.code c]) (F::cs)) w #[]:=by obtain⟨o,E,I⟩:=TO.1 h;obtain⟨T,J,K⟩:=Ts.1 I;cases K;obtain⟨l,x,e,A,n,M,p,_⟩:=vZ E;obtain⟨g,a,D,b,B,d,ro⟩:=F;subst n z;have r:Sl a.size [] a:=.MZ rfl;haveI:Late d:=⟨s⟩;have:=vo (main:=main) (rest:=e) (kd:=d) (ds:=b) (ro:=ro) (f:=g) (kk:=A) (cs:=cs) (w:=w) r M (by rw[<-r.tm];exact p) J rfl rfl R S O;exact this
theorem rc(d:Nat){m':Md}{R:(Nat->Prop)->VH->Prop}(hc:(∀own' v',(∀k,own k->own' k)->R own' v'->af C i j m' own' (G ((fk kd ds ro f t (.inRegion ops (x::rest)::kk)).finish u) cs) v')->af C i j m own (G (fr q (args++Array.replicate (fn.ntmps-args.size) VP) [.code c]) (fk kd ds ro f t (.inRegion ops (x::rest)::kk)::cs)) v)(h:∀own v,Sl N ((d,u)::L) (t.setIfInBounds d u)->(∀k,ownA k->own k)->R own v->af C i j m' own (G (fk kd ds ro f (t.setIfInBounds d u) (.inRegion ops rest::kk)) cs) v)(hS:Sl N L t:=by exact hS)(hsub:∀k,ownA k->own k:=by first|exact hsub|exactλ_ h=>h)(hP:C.P=Pz:=by exact hW.P)(e:(zD (fk kd ds ro f (tm N L t) (.inRegion ops (x::rest)::kk)),(ops[x]?).bind (·.dst),decide (d<N),L.all λp=>!(p.1==d))=(VF (q,args),VF d,VG,VG):=by kernel_rfl)(e2:(Pz.funcs[q]?,fn.name== "runtime.NumGoroutine",fn.body)=(VF fn,Vo,VF c):=by kernel_rfl):af C i j m own (G (fk kd ds ro f t (.inRegion ops (x::rest)::kk)) cs) v:=by obtain⟨e1,e⟩:=TR e;obtain⟨hd,e⟩:=TR e;obtain⟨hd1,hd2⟩:=TR e;obtain⟨hf,e2⟩:=TR e2;obtain⟨hn,hb⟩:=TR e2;rw[<-hS.tm]at e1;refine .ctl rfl (λw=>u7 e1 rfl Late.ne (by rw[hP];exact hf) hn hb) (hc λown' v' hs hR=>?_);(have:(fk kd ds ro f t (.inRegion ops (x::rest)::kk)).finish u=fk kd ds ro f (t.setIfInBounds d u) (.inRegion ops rest::kk):=by simp[VU.finish,hd]);rw[this];exact h own' v' (hS.pt (of_decide_eq_true hd1) hd2) (λk hk=>hs k (hsub k hk)) hR
theorem LB(hi:C.wk i)(hH:Hp C FR own v H)(hW:∃Fd,Wc C FR Fd:=by exact⟨_,hW⟩)(K:∀own' v',(∀k,own k->own' k)->(Hp C FR own' v' H/\ao C v')->af C i j .own own' (G (F.finish (.tuple #[])) cs) v'):af C i j .free own (G (fr 112 (#[ϱ C.mu 3]++Array.replicate (f112.ntmps-(#[ϱ C.mu 3]:Array VI).size) VP) [.code Lw.lu]) (F::cs)) v:=by obtain⟨Fd,hW⟩:=hW;refine K7 (K:=λw=>Hp C FR own w H) hW.ok hW.P hi (Hp.kd hW.ok hW.steady) (λv1 hH hM=>K own v1 (λ_ h=>h) ⟨hH,hM⟩) ?_ hH;have:=hW.mo;exact .cons (by rw[this];kernel_rfl) .all
theorem IW(hi:C.wk i)(hH:Hp C FR own v H)(hM:ao C v)(hW:∃Fd,Wc C FR Fd:=by exact⟨_,hW⟩)(K:∀own' v',(∀k,own k->own' k)->Hp C FR own' v' H->af C i j .free own' (G (F.finish (.tuple #[])) cs) v'):af C i j .own own (G (fr 113 (#[ϱ C.mu 3]++Array.replicate (f113.ntmps-(#[ϱ C.mu 3]:Array VI).size) VP) [.code Lw.mB]) (F::cs)) v:=by obtain⟨Fd,hW⟩:=hW;refine CV (K:=λw=>Hp C FR own w H) hW.ok hW.P hi (Hp.kd hW.ok hW.steady) (λv1 hH=>K own v1 (λ_ h=>h) hH) ?_ hH hM;have:=hW.mo;exact .cons (by rw[this];kernel_rfl) .all
end
section
variable{T:Array VI}{K:List Wg}{caller:VU}
def uE:List Wg->Bool
 |[]=>VG
 |.code .ret::_=>VG
 |_=>Vo
theorem oQ(h:af C i j m own (G (zB ds VJ f T K) cs) v)(e:uE K=VG:=by rfl):af C i j m own (G (fx ds VJ f T K) cs) v:=by refine .ctl rfl (λw=>?_) h;unfold uE at e;split at e;{simp[G,VO,VO.exec]};{simp[G,VO,VO.exec]};cases e
noncomputable def leaves(o:Ws)(f:V8)(T:Array VI):Option (VI×Ws×List Nat):=(Pz.funcs[f]?).bind λfn=>jK Pz VG (results fn T) o
theorem vE(k:Nat)(u:VI){b:Nat}{o:Ws}(h:∀v,Hp C FR own v H->af C i j m own (G (caller.finish u) cs) v)(hP:C.P=Pz:=by exact hW.P)(hF:aZ C FR:=by exact hW.steady)(hm:m.said=Vo:=by rfl)(hH:Hp C FR own v H:=by exact hH)(hk:H[k]?=VF (b,o):=by rfl)(hS:Sl N L T:=by exact hS)(e:leaves o f (tm N L T)=VF (u,o,((leaves o f (tm N L T)).map λr=>r.2.2.map λ_=>b).getD []):=by kernel_rfl):af C i j m own (G (zB [] VJ f T K) (caller::cs)) v:=by rw[<-hS.tm]at e;(have hall:∀q,leaves o f T=VF (u,o,q)->q=q.map (λ_=>b):=λq hq=>by rw[hq]at e;simpa using e);generalize hq:((leaves o f T).map λr=>r.2.2.map λ_=>b).getD []=q at e;have h1:=hall q e;obtain⟨fn,hf,e⟩:=TO.1 e;(have hb:∀r∈q,r=b:=λr hr=>by rw[h1]at hr;obtain⟨_,_,rfl⟩:=To.1 hr;rfl);refine .step rfl hm λv1 hv=>?_;have hH1:=hH.ef hF hv;obtain⟨hob,hb1⟩:=hH1.get hk;obtain⟨h2,h3⟩:=rG e hb hb1;rw[mH hb1]at h2;rw[hP];refine⟨_,v1,_,ab.aO hf h2,⟨λ_ _ _=>rfl,Ti _,rfl,rfl,rfl,λx hx=>?_⟩,?_⟩;{obtain⟨es',h4,h5⟩:=h3 #[];obtain⟨x1,x2⟩:=h5 x (by have:=cg hx;rw[h4]at this;simpa using this);exact .inl (.inl ⟨b,x1,.inl (.inl (.inl hob)),x2⟩)};rw[gU];exact h v1 hH1
theorem Hp.drop(h:Hp C FR own v H)(n:Nat):Hp C FR own v (H.drop n):=h.sub (λp a=>V4 a) (h.nd.sublist ((List.drop_sublist n H).map _))
theorem cD.of(N:Nat)(L:List (Nat×VI))(h:∀(own:Nat->Prop)(v:VH)(H:List (Nat×Ws))(caller:VU)(cs:List VU)(t:Array VI),Sl N L t->(∀k,own k->own k)->Hp C FR own v H->(∀a b,(∀k,own k->a k)->Hp C FR a b H->af C i j .free a (G (caller.finish u) cs) b)->af C i j .free own (G (fx [] VJ q t [.code (fn.body.getD .skip)]) (caller::cs)) v)(e:Sl N L (args++Array.replicate (fn.ntmps-args.size) VP):=by exact .all):cD C FR i j q fn args u:=λown v H caller cs c d=>h own v H caller cs _ e (λ_ h=>h) c d
end
end
section
section
def Q6(M:Nat)(base:List (Nat×VI))(VT:List (Nat×Nat×VI)):Bool:=
 VT.all λq=>decide (q.2.1<M)&&(base.all λp=>p.1 !=q.2.1)&&((VT.filter λr=>r.1==q.1).length==1)&&((VT.filter λr=>r.2.1==q.2.1).length==1)
theorem GW{α:Type}{l:List α}{p:α->Bool}(h:(l.filter p).length=1){a b:α}(f:a∈l)(g:b∈l)(i:p a=VG)(j:p b=VG):a=b:=by have d:=T9.2 ⟨f,i⟩;have e:=T9.2 ⟨g,j⟩;match hl:l.filter p,h with|[c],_=>rw[hl]at d e;rw[Us.1 d,Us.1 e]
theorem DF.did(k:Q6 M base VT=VG)(h:DF M base VT listed t){d:Nat}(b:(x,d,u)∈VT):DF M base VT (listed.setIfInBounds x VG) (t.setIfInBounds d u):=by have c:=TF.1 k _ b;simp only[Tl,decide_eq_true_eq,beq_iff_eq]at c;obtain⟨⟨⟨f,g⟩,i⟩,j⟩:=c;refine h.put (λq a e=>?_) f g (TF.2 λq a=>?_);{have:=GW i a b (by simpa using e) Θ;rw[this]};by_cases e:q.2.1=d;{have:=GW j a b (by simpa using e) Θ;simp[this]};simp[e]
def dl(ops:Array Oper)(base:List (Nat×VI))(VT:List (Nat×Nat×VI))(x:Nat):List (Nat×VI):=base++(VT.filter λq=>waits ops x q.1).map Prod.snd
theorem DF.dl(h:DF M base VT listed t)(a:∀k,waits ops x k=VG->listed.getD k Vo=VG):Sl M (dl ops base VT x) t:=h.sl λp b=>by rcases TB.1 b with b|b;{exact .inl b};obtain⟨q,e,rfl⟩:=To.1 b;obtain⟨c,d⟩:=T9.1 e;exact .inr ⟨q.1,c,a _ d⟩
end
abbrev w8:=List (Nat×Nat×Nat×VI)
def w8.vt(T:w8):List (Nat×Nat×VI):=T.map λe=>(e.1,e.2.2.1,e.2.2.2)
section
variable{ix:List (Nat×Nat)}
noncomputable def yf(f:V8)(M:Nat)(L:List (Nat×VI))(ops:Array Oper)(H:List (Nat×Ws))(ix:List (Nat×Nat)):w8:=
 (List.range ops.size).foldl (λT i=>
  T++[(i,(ix.lookup i).getD 0,((ops[i]?).bind (·.dst)).getD 0,match ik Pz VG [] 1 [(ix.lookup i).getD 0] [] (fx [] VJ f (tm M (T.map (λe=>e.2.2)++L) (Array.replicate M VP)) [.inRegion ops [i]]) H with
    |some r=>r.1.tmps.getD (((ops[i]?).bind (·.dst)).getD 0) VP
    |none=>VP)]) []
noncomputable def JS(kd:WH)(ds:List Wo)(ro:Option Nat)(f:V8)(M:Nat)(L:List (Nat×VI))(ops:Array Oper)(H:List (Nat×Ws))(T:w8)(t:Array VI)(rest:List Nat)(kk:List Wg):List (Option (VU×List (Nat×Ws)×List Nat)×List Nat):=
 T.map λe=>(ik Pz VG [] 1 [e.2.1] [] (fk kd ds ro f (tm M (dl ops L T.vt e.1) t) (.inRegion ops (e.1::rest)::kk)) H).elim (VJ,[]) λr=>(VF (r.1,r.2.1,r.2.2.1.map Prod.fst),r.2.2.2.map λ_=>0)
noncomputable def Jr(kd:WH)(ds:List Wo)(ro:Option Nat)(f:V8)(M:Nat)(L:List (Nat×VI))(ops:Array Oper)(H:List (Nat×Ws))(T:w8)(t:Array VI)(rest:List Nat)(kk:List Wg):List (Option (VU×List (Nat×Ws)×List Nat)×List Nat):=
 T.map λe=>(VF (fk kd ds ro f ((tm M (dl ops L T.vt e.1) t).setIfInBounds e.2.2.1 e.2.2.2) (.inRegion ops rest::kk),H,ON (ik Pz VG [] 1 [e.2.1] [] (fk kd ds ro f (tm M (dl ops L T.vt e.1) t) (.inRegion ops (e.1::rest)::kk)) H)),[])
theorem Hj{T:w8}(h:JS kd ds ro f M L ops H T t rest kk=Jr kd ds ro f M L ops H T t rest kk){e:Nat×Nat×Nat×VI}(m:e∈T):∃r,ik Pz VG [] 1 [e.2.1] [] (fk kd ds ro f (tm M (dl ops L T.vt e.1) t) (.inRegion ops (e.1::rest)::kk)) H=VF r/\(∀p∈r.2.2.1,p.1=p.2)/\(∀p∈r.2.2.2,p.1=p.2)/\r.1=fk kd ds ro f ((tm M (dl ops L T.vt e.1) t).setIfInBounds e.2.2.1 e.2.2.2) (.inRegion ops rest::kk)/\r.2.1=H:=by obtain⟨i,n⟩:=Tz.1 m;have:=congrArg (·[i]?) h;simp only[JS,Jr,Ty,n,Tv]at this;cases l:ik Pz VG [] 1 [e.2.1] [] (fk kd ds ro f (tm M (dl ops L T.vt e.1) t) (.inRegion ops (e.1::rest)::kk)) H with|none=>rw[l]at this;simp at this|some r=>rw[l]at this;simp only[Option.elim,ON,Tw,Tu]at this;obtain⟨⟨a,b,c⟩,d⟩:=this;refine⟨r,rfl,λp k=>?_,λp k=>?_,a,b⟩;{obtain⟨j,o⟩:=Tz.1 k;have:=congrArg (·[j]?) c;simpa[Ty,o]using this};rw[Vq]at d;rw[d]at k;cases k
def OO(M:Nat)(L:List (Nat×VI))(ops:Array Oper)(T:w8)(L':List (Nat×VI)):Bool×List Nat×List (Option VI):=
 (vK ops&&Q6 M L T.vt,T.map Prod.fst,L'.map λp=>(T.map (λe=>e.2.2)++L).lookup p.1)
theorem Hy{T:w8}(h:OO M L ops T L'=(VG,List.range ops.size,L'.map λp=>VF p.2))(c:DF M L T.vt listed t)(b:∀i,i<ops.size->listed.getD i Vo=VG):Sl M L' t:=by simp only[OO,Tw]at h;obtain⟨-,k,l⟩:=h;refine⟨c.size,λp o=>?_⟩;obtain⟨i,n⟩:=Tz.1 o;have d:=congrArg (·[i]?) l;simp only[Ty,n,Tv,Tu]at d;have a:=eI d;rcases TB.1 a with a|a;{obtain⟨e,j,m⟩:=To.1 a;have g:=c.done (e.1,e.2.2.1,e.2.2.2) (To.2 ⟨e,j,rfl⟩) (b _ (by have:e.1∈T.map Prod.fst:=To.2 ⟨e,j,rfl⟩;rw[k]at this;simpa using this));rw[m]at g;exact g};exact c.base _ a
end
section
variable[Late kd]
theorem rD{id:Nat}(ix:List (Nat×Nat))(L':List (Nat×VI))(h:∀t v,Sl M L' t->Hp C FR own v H->(m.tok=VG->ao C v)->af C i j m own (G (fk kd ds ro f t (.inRegion ops []::kk)) cs) v)(hS:Sl M L t:=by exact hS)(hH:Hp C FR own v H:=by exact hH)(hP:C.P=Pz:=by exact hW.P)(hF:aZ C FR:=by exact hW.steady)(hm:m.said=Vo:=by rfl)(hM:m.tok=VG->ao C v:=by first|exactλ_=>hM|(intro e;cases e))(e1:OO M L ops (yf f M L ops H ix) L'=(VG,List.range ops.size,L'.map λp=>VF p.2):=by kernel_rfl)(e2:∀t rest kk,JS kd ds ro f M L ops H (yf f M L ops H ix) t rest kk=Jr kd ds ro f M L ops H (yf f M L ops H ix) t rest kk:=by intro t rest kk;kernel_rfl):af C i j m own (G (fk kd ds ro f t (.code (.region id ops VG)::kk)) cs) v:=by have e0:=e1;simp only[OO,Tw,Tl]at e0;obtain⟨⟨hac,hT⟩,hr,-⟩:=e0;generalize yf f M L ops H ix=T at*;refine ew Ξ hac (λl z=>z.own=own/\DF M L T.vt l z.t/\Hp C FR own z.v H/\(m.tok=VG->ao C z.v)) ?_ ?_ (λv1 hv=>⟨rfl,⟨hS.size,hS.at_,λq hq hl=>?_⟩,hH.ef hF hv,λht=>(hM ht).env hv (.inr ⟨ht,rfl⟩)⟩);{rintro listed⟨ow,t1,v1⟩i' rest hz hi hl hdep hcl⟨e0,hD,hH,hM⟩hk;obtain rfl:ow=own:=e0;(obtain⟨e,he,rfl⟩:∃e∈T,e.1=i':=by(have:i'∈T.map Prod.fst:=by rw[hr];simpa using hi);obtain⟨e,he,h⟩:=To.1 this;exact⟨e,he,h⟩);replace hD:DF M L T.vt listed t1:=hD;have hS1:=hD.dl hdep;obtain⟨r,h1,h2,h3,h4,h5⟩:=Hj (e2 t1 rest kk) he;simp only;rw[hS1.tm];have hc:=rX (rd:=VG) (C:=C) (FR:=FR) (i:=i) (j:=j) (own:=ow) (cs:=cs) hF hm;rw[hP]at hc;refine hc.run [] 1 [e.2.1] 0 (λh=>absurd rfl h) _ v1 _ H rfl Late.ne ⟨rfl,hH,λ_ h=>h,hM⟩ λbs hb=>?_;obtain rfl:=T0.1 hb;refine⟨r,h1,h2,h3,λown' v' hK'=>?_⟩;obtain⟨rfl,hq⟩:=hK';rw[h4,<-hS1.tm];exact hk ⟨_,t1.setIfInBounds e.2.2.1 e.2.2.2,v'⟩ ⟨rfl,hD.did hT (To.2 ⟨e,he,rfl⟩),h5▸hq.hp,hq.dC⟩};{rintro listed⟨ow,t1,v1⟩hall⟨e0,hD,hH,hM⟩;obtain rfl:ow=own:=e0;exact h _ _ (Hy e1 hD hall) hH hM};simp only[Tp,TE]at hl;split at hl<;>simp at hl
end
end
end Go.Me
namespace Go.Cr
open Go.Conc Go.Mx Go.Rk Go.ConcM
open Go.ConcR(KK WgAt wgBlock stA smA rd wr mk deafBehind_cons deafBehind_one)
open Go.ConcN(RelBy PermW Apart Deaf_absent)
variable{b:Nat}{u:WG}{m:Mark}
section
def cH(b:Nat):Loc->Prop
 |.cell a=>a.block=b
 |.obj r=>r=b
 |_=>False
theorem fj{b':Nat}{l:Loc}(h:cH b l)(k:cH b' l):b=b':=by cases l<;>simp[cH]at h k<;>omega
section
variable(C:Cx)(Shun:Loc->Prop)(A:Nat->Nat->Prop)
def Sh:Loc->Prop:=λl=>Shun l\/∃a,l=.cell a/\(a.block=C.wg\/(a.block=C.mu/\C.mo<=a.off))
def Pr:Loc->Prop:=cH C.mm
def tB(k:Nat)(l:Loc):Prop:=C.base<=k/\((∃b,A k b/\cH b l)\/∃a,l=.cell a/\a.block=C.out/\C.oc k a.off)
def Ps(k:Nat)(l:Loc):Prop:=C.base<=k/\((∃b,C.RO b/\cH b l)\/∃a,l=.cell a/\a.block=C.mu/\a.off<C.mo)
structure Eb(B:Nat):Prop where
 yL:∀k k' b,A k b->A k' b->k=k'
 lt:∀k b,A k b->b<B
 sh:∀k b,A k b->b≠C.mu/\b≠C.mm/\b≠C.wg/\b≠C.out/\¬C.RO b/\∀l,Shun l->¬cH b l
structure qV(B:Nat):Prop where
 lt:∀l b,Shun l->cH b l->b<B
 sh:∀l b,Shun l->cH b l->¬C.RO b/\b≠C.mu/\b≠C.mm/\b≠C.out
 cell:∀l,Shun l->∃b,cH b l
end
variable{C:Cx}{Shun:Loc->Prop}{A A':Nat->Nat->Prop}{B B':Nat}
theorem apart(i:C.Ok)(j:Eb C Shun A B)(o:qV C Shun B'):ApartL (Sh C Shun) (Pr C) (tB C A) (Ps C):=by refine⟨⟨λk q l h g=>?_,λk q l h g=>?_,λk l h g=>?_,λk l h g=>?_⟩,λl h g=>?_,λk l h g=>?_,λk l h g=>?_⟩;{obtain⟨_,⟨b,d,f⟩|⟨a,rfl,d,f⟩⟩:=h<;>obtain⟨_,⟨p,c,m⟩|⟨n,e,c,m⟩⟩:=g;{obtain rfl:=fj f m;exact j.yL _ _ _ d c};{subst e;exact absurd (f.symm.trans c) (j.sh _ _ d).2.2.2.1};{exact absurd (m.symm.trans d) (j.sh _ _ c).2.2.2.1};cases e;exact i.oc _ _ _ f m};{obtain⟨_,⟨b,d,f⟩|⟨a,rfl,d,f⟩⟩:=h<;>obtain⟨_,⟨p,c,m⟩|⟨n,e,c,m⟩⟩:=g;{obtain rfl:=fj f m;exact(j.sh _ _ d).2.2.2.2.1 c};{subst e;exact(j.sh _ _ d).1 (f.symm.trans c)};{(have:=by simpa[cH,d]using m.symm);exact(i.ro _ c).2.2.2 this};cases e;exact i.fU (c.symm.trans d)};{obtain⟨_,⟨b,d,f⟩|⟨a,rfl,d,f⟩⟩:=h<;>rcases g with c|⟨n,e,c⟩;{exact(j.sh _ _ d).2.2.2.2.2 _ c f};{subst e;rcases c with c|c;{exact(j.sh _ _ d).2.2.1 (f.symm.trans c)};exact(j.sh _ _ d).1 (f.symm.trans c.1)};{exact(o.sh (.cell a) a.block c rfl).2.2.2 d};cases e;rcases c with c|c;{exact i.iK (c.symm.trans d)};exact i.fU (c.1.symm.trans d)};{obtain⟨_,⟨b,d,f⟩|⟨a,rfl,d,f⟩⟩:=h<;>rcases g with c|⟨n,e,c⟩;{exact(o.sh _ _ c f).1 d};{subst e;rcases c with c|c;{exact(i.ro _ d).2.2.1 (f.symm.trans c)};exact(i.ro _ d).1 (f.symm.trans c.1)};{exact(o.sh (.cell a) a.block c rfl).2.1 d};cases e;rcases c with c|c;{exact i.ga (d.symm.trans c)};omega};{rcases g with c|⟨n,e,c⟩;{exact(o.sh _ _ c h).2.2.1 rfl};subst e;rcases c with c|c;{exact i.nn (h.symm.trans c)};exact i.lK (c.1.symm.trans h)};{obtain⟨_,⟨b,d,f⟩|⟨a,rfl,d,f⟩⟩:=h;{exact(j.sh _ _ d).2.1 (fj f g)};exact i.mg (Eq.symm (d.symm.trans g))};obtain⟨_,⟨b,d,f⟩|⟨a,rfl,d,f⟩⟩:=h;{exact(i.ro _ d).2.1 (fj f g)};exact i.lK (d.symm.trans g)
structure TI(C:Cx)(Shun:Loc->Prop)(A:Nat->Nat->Prop)(o:Option Nat)(df:Nat->Nat)(rl:Nat->Prop)(sz B:Nat)(t:WG):Prop where
 lt:LT (Sh C Shun) (Pr C) (tB C A) (Ps C) C.muA t (sz-1) o
 over:∀i g,t.g? i=VF g->g≠0->g<C.base->t.counts i->∃j,t.g? j=VF 0/\HappensBefore t i j
 known:∀i a g,touchAt t i=VF a->t.g? i=VF g->g<C.base->a.loc.isMemory=VG->Knows t 0 i\/(Sh C Shun a.loc/\a.kind=.atomic)
 atom:∀i a,touchAt t i=VF a->a.kind=.atomic->∀g,t.g? i=VF g->C.base<=g->Sh C Shun a.loc
 rel:∀k,rl k->∃r,RelBy (stA C.wg) t k r
 norel:NoRelease (stA C.wg) t
 seen:∀op∈t,op.act.low B
 deaf:∀k,Deaf t k=df k
 ki:∀k,sz<=k->df k=0
def L2(C:Cx)(Shun:Loc->Prop)(A:Nat->Nat->Prop)(o:Option Nat)(k B:Nat)(e:Wv):Prop:=
 (∀x,(We.ofEvent e).touch?=VF x->(Sh C Shun x.loc/\x.kind=.atomic)\/(x.kind=.plain/\(tB C A k x.loc\/(Ps C k x.loc/\x.write=Vo)\/(Pr C x.loc/\o=VF k))))/\
 e.loc≠.mark (.release C.muA)/\e.loc≠.mark (.release (stA C.wg))/\(We.ofEvent e).low B
theorem e8{e:Wv}{a:Wq}(h:We.ofEvent e=.mark (.release a)):e.loc=.mark (.release a):=by obtain⟨b,w,s⟩:=e;cases b with|mark m=>simp[We.ofEvent]at h;rw[h]|obj c=>cases w<;>cases s<;>simp[We.ofEvent]at h|_=>simp[We.ofEvent]at h
variable{o:Option Nat}{df:Nat->Nat}{rl:Nat->Prop}{sz:Nat}{t:WG}{k:Nat}{fn:V8}{pos:String}{es:Array Wv}
theorem pO(h:∀i g,t.g? i=VF g->g≠0->g<C.base->t.counts i->∃j,t.g? j=VF 0/\HappensBefore t i j)(y:∀b∈u,b.g=0\/C.base<=b.g\/b.act.touch?=VJ):∀i g,(t++u).g? i=VF g->g≠0->g<C.base->(t++u).counts i->∃j,(t++u).g? j=VF 0/\HappensBefore (t++u) i j:=by intro i g f e d s;obtain⟨x,q,_⟩:=s;obtain⟨b,a,w⟩:=touch_of q;rcases getElem?_append_cases a with⟨l,n⟩|⟨_,p⟩;{obtain⟨j,m,r⟩:=h i g (by simpa[WG.g?,getElem?_append_old l]using f) e d ((counts_old l).1 ⟨x,q,‹_›⟩);(have c:j<t.size:=by unfold WG.g? at m;grind);exact⟨j,by simpa[WG.g?,getElem?_append_old c]using m,hb_app u r⟩};(have v:=by simpa[WG.g?,a]using f);grind
theorem mF(h:∀i a g,touchAt t i=VF a->t.g? i=VF g->g<C.base->a.loc.isMemory=VG->Knows t 0 i\/(Sh C Shun a.loc/\a.kind=.atomic))(s:∀j∈u,j.g=0\/C.base<=j.g\/j.act.touch?=VJ):∀i a g,touchAt (t++u) i=VF a->(t++u).g? i=VF g->g<C.base->a.loc.isMemory=VG->Knows (t++u) 0 i\/(Sh C Shun a.loc/\a.kind=.atomic):=by intro i a g n m b q;obtain⟨x,c,e⟩:=touch_of n;rcases getElem?_append_cases c with⟨p,d⟩|⟨_,f⟩;{exact(h i a g (by rw[touchAt_of d];exact e) (by simpa[WG.g?,getElem?_append_old p]using m) b q).imp (·.app u) id};(have r:=by simpa[WG.g?,c]using m);rcases s x f with l|l|l;{have:=knows_own c;simp_all};{omega};simp_all
theorem oT(h:∀i a,touchAt t i=VF a->a.kind=.atomic->∀g,t.g? i=VF g->C.base<=g->Sh C Shun a.loc)(r:∀f∈u,C.base<=f.g->∀a,f.act.touch?=VF a->a.kind=.atomic->Sh C Shun a.loc):∀i a,touchAt (t++u) i=VF a->a.kind=.atomic->∀g,(t++u).g? i=VF g->C.base<=g->Sh C Shun a.loc:=by intro i a j n g d l;obtain⟨x,e,c⟩:=touch_of j;(have p:=by simpa[WG.g?,e]using d);rcases getElem?_append_cases e with⟨m,b⟩|⟨_,q⟩;{exact h i a (by rw[touchAt_of b];exact c) n g (by simpa[WG.g?,getElem?_append_old m]using d) l};grind
theorem rH(h:∀a∈t,a.act.low B)(c:B<=B')(d:∀a∈u,a.act.low B'):∀a∈t++u,a.act.low B':=λa b=>(TS.1 b).elim (λx=>We.low_mono c (h a x)) (d a)
theorem TI.zy(w:C.Ok)(v:Eb C Shun A B)(hS:qV C Shun B)(h:TI C Shun A o df rl sz B t)(L:C.base<=k)(K:1<=C.base)(F:k<sz)(d:∀e∈es,L2 C Shun A o k B e)(E:rl k->∀j e,es[j]?=VF e->(We.ofEvent e).touch?=VJ\/((∃s wr,e=⟨.cell s,wr,VG⟩)/\0<V9 (df k) (es.extract 0 j))):TI C Shun A o (λx=>if x=k then V9 (df k) es else df x) rl sz B (t++Wx.ofEvents k fn pos es):=by(have q:∀c∈Wx.ofEvents k fn pos es,c.g=k:=λc b=>by obtain⟨e,_,rfl⟩:=Go.Conc.mem_ofEvents b;rfl);have i:∀c∈Wx.ofEvents k fn pos es,c.g=0\/C.base<=c.g\/c.act.touch?=VJ:=λc b=>.inr (.inl (by simp_all));refine⟨h.lt.appW (k:=k) (apart w v hS) Ω Ω λc b=>?_,pO h.over i,mF h.known i,oT h.atom λc b _ a z D=>?_,λx l=>?_,h.norel.app λc b e=>?_,rH h.seen (Ti _) λc b=>?_,λx=>?_,λx l=>?_⟩;{obtain⟨e,n,rfl⟩:=Go.Conc.mem_ofEvents b;obtain⟨H,u,I,J⟩:=d e n;refine⟨rfl,λg=>u (e8 g),λx l=>?_⟩;grind};{obtain⟨e,n,rfl⟩:=Go.Conc.mem_ofEvents b;rcases(d e n).1 a z with⟨x,_⟩|⟨x,_⟩;{exact x};simp_all};{by_cases e:x=k;{subst e;obtain⟨r,p⟩:=h.rel x l;exact⟨r,p.appOwn fn pos es (by rw[h.deaf x];grind)⟩};obtain⟨r,p⟩:=h.rel x l;exact⟨r,p.appOther q (Ne.symm e)⟩};{obtain⟨g,f,rfl⟩:=Go.Conc.mem_ofEvents b;exact(d g f).2.2.1 (e8 e)};{obtain⟨g,f,rfl⟩:=Go.Conc.mem_ofEvents b;exact(d g f).2.2.2};{by_cases e:x=k;{subst e;rw[if_pos rfl,Deaf_own,h.deaf]};rw[if_neg e,Deaf_other t (Ne.symm e) _ q,h.deaf]};rw[if_neg Ω];exact h.ki x l
theorem sf(f:(We.ofEvent (mk m)).touch?=VJ)(b:m≠.release C.muA)(c:m≠.release (stA C.wg))(d:(We.ofEvent (mk m)).low B):∀e∈#[mk m],L2 C Shun A o k B e:=by intro e a;simp at a;subst a;exact⟨λx g=>(by simp_all),by simpa[mk]using b,by simpa[mk]using c,d⟩
theorem mD(d:Nat)(b:m≠Mark.disable)(c:m≠Mark.enable):V9 d #[mk m]=d:=deafBehind_still (λe a=>by simp at a;subst a;simp[mk,b,c]) d
theorem TI.acquire(i:C.Ok)(f:Eb C Shun A B)(hS:qV C Shun B)(h:TI C Shun A VJ df rl sz B t)(r:C.base<=k)(q:1<=C.base)(d:k<sz)(hd:df k=0)(s:¬rl k)(p:C.mu<B):TI C Shun A (VF k) df rl sz B (t++Wx.ofEvents k fn pos #[Go.ConcR.mk (Mark.acquire C.muA)]):=by have a:=h.zy (fn:=fn) (pos:=pos) i f hS r q d (sf (m:=Mark.acquire C.muA) rfl Θ Θ p) λx=>absurd x s;(have n:Wx.ofEvents k fn pos #[Go.ConcR.mk (Mark.acquire C.muA)]=#[{g:=k,fn,pos,act:=.mark (Mark.acquire C.muA)}]:=by rw[ofEvents_eq];simp[Go.ConcR.mk,We.ofEvent]);(have c:(λx=>if x=k then V9 (df k) #[Go.ConcR.mk (Mark.acquire C.muA)]else df x)=df:=by funext x;split;{rename_i e;subst e;rfl};rfl);rw[c]at a;refine⟨?_,a.over,a.known,a.atom,a.rel,a.norel,a.seen,a.deaf,a.ki⟩;rw[n];exact h.lt.acquire (apart i f hS) (by grind) rfl (by rw[h.deaf,hd])
theorem TI.release(i:C.Ok)(f:Eb C Shun A B)(hS:qV C Shun B)(h:TI C Shun A (VF k) df rl sz B t)(r:C.base<=k)(q:1<=C.base)(d:k<sz)(hd:df k=0)(s:¬rl k)(p:C.mu<B):TI C Shun A VJ df rl sz B (t++Wx.ofEvents k fn pos #[Go.ConcR.mk (Mark.releaseMerge C.muA)]):=by have a:=h.zy (fn:=fn) (pos:=pos) i f hS r q d (sf (m:=Mark.releaseMerge C.muA) rfl Θ Θ p) λx=>absurd x s;(have n:Wx.ofEvents k fn pos #[Go.ConcR.mk (Mark.releaseMerge C.muA)]=#[{g:=k,fn,pos,act:=.mark (Mark.releaseMerge C.muA)}]:=by rw[ofEvents_eq];simp[Go.ConcR.mk,We.ofEvent]);(have c:(λx=>if x=k then V9 (df k) #[Go.ConcR.mk (Mark.releaseMerge C.muA)]else df x)=df:=by funext x;split;{rename_i e;subst e;rfl};rfl);rw[c]at a;refine⟨?_,a.over,a.known,a.atom,a.rel,a.norel,a.seen,a.deaf,a.ki⟩;rw[n];exact h.lt.release (apart i f hS) rfl rfl (by rw[h.deaf,hd])
theorem TI.said(j:C.Ok)(g:Eb C Shun A B)(hS:qV C Shun B)(h:TI C Shun A o df rl sz B t)(p:C.base<=k)(n:1<=C.base)(c:k<sz)(hd:df k=0)(q:¬rl k)(i:C.wg<B):TI C Shun A o df (λx=>rl x\/x=k) sz B (t++Wx.ofEvents k fn pos #[Go.ConcR.mk (Mark.releaseMerge (stA C.wg))]):=by have a:=h.zy (fn:=fn) (pos:=pos) j g hS p n c (sf (m:=Mark.releaseMerge (stA C.wg)) rfl Θ Θ i) λx=>absurd x q;(have b:(λx=>if x=k then V9 (df k) #[Go.ConcR.mk (Mark.releaseMerge (stA C.wg))]else df x)=df:=by funext x;split;{rename_i e;subst e;rfl};rfl);rw[b]at a;refine⟨a.lt,a.over,a.known,a.atom,λx d=>?_,a.norel,a.seen,a.deaf,a.ki⟩;rcases d with d|rfl;{exact a.rel x d};exact⟨_,RelBy.new (by rw[h.deaf,hd]) fn pos⟩
theorem DD{act:We}{a:Touch}(g:act.low B)(c:act.touch?=VF a)(h:B<=b)(f:cH b a.loc):False:=by cases act with|access e=>simp only[We.touch?,Tu]at c;subst c;obtain⟨d,wr,i⟩:=e;cases d<;>simp[We.low,Loc.low,cH]at g f<;>omega|mark m=>cases m<;>simp[We.touch?]at c<;>subst c<;>simp[We.low,cH]at g f<;>omega|_=>simp[We.touch?]at c
theorem TI.Al(h:TI C Shun A o df rl sz B t)(D:B<=B')(p:∀k b,A' k b->A k b\/B<=b)(q:∀k b,A k b->A' k b):TI C Shun A' o df rl sz B' t:=by(have j:∀l b,B<=b->cH b l->∀i a,touchAt t i=VF a->a.loc≠l:=by intro l b u v i a s e;obtain⟨x,E,z⟩:=touch_of s;exact DD (h.seen x (T1 E)) z u (e▸v));(have r:∀k l,tB C A' k l->tB C A k l\/∃b,B<=b/\cH b l:=by rintro k l⟨d,⟨b,c,f⟩|c⟩;{rcases p k b c with x|x;{exact .inl ⟨d,.inl ⟨b,x,f⟩⟩};grind};exact .inl ⟨d,.inr c⟩);(have g:∀k l,tB C A k l->tB C A' k l:=by rintro k l⟨d,⟨b,c,f⟩|c⟩;{exact⟨d,.inl ⟨b,q k b c,f⟩⟩};exact⟨d,.inr c⟩);have H:=h.lt;refine⟨⟨H.quiet,λk m n l v=>?_,H.rd,λl d c f=>H.free l d c λk m n=>⟨λx=>(f k m n).1 (g k l x),(f k m n).2⟩,λl d c f=>H.mine l d c λk m n x=>f k m n (g k l x),H.tok,H.norel,H.nr,H.gs⟩,h.over,h.known,h.atom,h.rel,h.norel,λF y=>We.low_mono D (h.seen F y),h.deaf,h.ki⟩;rcases r k l v with x|⟨b,u,w⟩;{exact H.own k m n l x};exactλi a s e=>absurd e (j l b u w i a s)
theorem TI.low(h:TI C Shun A o df rl sz B t)(a:B<=B'):TI C Shun A o df rl sz B' t:=h.Al a (λ_ _ x=>.inl x) λ_ _ x=>x
def Ev0(C:Cx)(Shun:Loc->Prop)(A:Nat->Nat->Prop)(B:Nat)(e:Wv):Prop:=
 (∀x,(We.ofEvent e).touch?=VF x->(Sh C Shun x.loc/\x.kind≠.plain)\/(¬Sh C Shun x.loc/\¬Pr C x.loc/\(∀k,¬tB C A k x.loc)/\(x.write=VG->∀k,¬Ps C k x.loc)))/\
 e.loc≠.mark (.release C.muA)/\e.loc≠.mark (.release (stA C.wg))/\(We.ofEvent e).low B
theorem TI.step0(v:1<=C.base)(s:C.Ok)(q:Eb C Shun A B)(hS:qV C Shun B)(h:TI C Shun A o df rl sz B t)(D:¬rl 0)(E:0<sz)(f:∀e∈es,Ev0 C Shun A B e):TI C Shun A o (λx=>if x=0 then V9 (df 0) es else df x) rl sz B (t++Wx.ofEvents 0 fn pos es):=by(have m:∀c∈Wx.ofEvents 0 fn pos es,c.g=0:=λc b=>by obtain⟨e,_,rfl⟩:=Go.Conc.mem_ofEvents b;rfl);have i:∀c∈Wx.ofEvents 0 fn pos es,c.g=0\/C.base<=c.g\/c.act.touch?=VJ:=λc b=>.inl (m c b);refine⟨h.lt.app0 (apart s q hS) λc b=>?_,pO h.over i,mF h.known i,oT h.atom λc b w a J z=>?_,λx j=>?_,h.norel.app λc b e=>?_,rH h.seen (Ti _) λc b=>?_,λx=>?_,λx j=>?_⟩;{obtain⟨e,y,rfl⟩:=Go.Conc.mem_ofEvents b;obtain⟨F,p,H,I⟩:=f e y;refine⟨rfl,λg=>p (e8 g),λx j=>?_⟩;grind};{simp_all};{obtain⟨r,n⟩:=h.rel x j;exact⟨r,n.appOther m (λe=>D (e▸j))⟩};{obtain⟨g,d,rfl⟩:=Go.Conc.mem_ofEvents b;exact(f g d).2.2.1 (e8 e)};{obtain⟨g,d,rfl⟩:=Go.Conc.mem_ofEvents b;exact(f g d).2.2.2};{by_cases e:x=0;{subst e;rw[if_pos rfl,Deaf_own,h.deaf]};rw[if_neg e,Deaf_other t (Ne.symm e) _ m,h.deaf]};rw[if_neg Ω];exact h.ki x j
end
end Go.Cr
namespace Go.Cr
open Go.Conc Go.Mx Go.Rk Go.ConcM
open Go.ConcR(KK WgAt wgBlock stA smA rd wr mk deafBehind_cons deafBehind_one)
variable{e:Wv}{loc:Loc}{w:Bool}{b:Nat}{a:Wq}
section
variable{C:Cx}{Shun:Loc->Prop}{A:Nat->Nat->Prop}{B B':Nat}{o:Option Nat}{k:Nat}{own:Nat->Prop}{es:Array Wv}
theorem mT(h:qS C own e):(∃b,cH b e.loc/\(own b\/(C.RO b/\e.write=Vo))/\e.sync=Vo)\/((We.ofEvent e).touch?=VJ/\(∃m,e.loc=.mark m/\(m=.noRoom\/∃f,m=.extern f))/\(We.ofEvent e).low 0)\/(∃off,off<C.mo/\e=⟨.cell ⟨C.mu,off,VJ⟩,Vo,Vo⟩):=by obtain⟨d,w,s⟩:=e;rcases h with(⟨b,g,a,c⟩|⟨_,_,_,i,_⟩|h|⟨f,h⟩)|h;{refine .inl ⟨b,?_,a,c⟩;assumption};{grind};{subst h;exact .inr (.inl ⟨rfl,⟨_,rfl,.inl rfl⟩,trivial⟩)};{subst h;exact .inr (.inl ⟨rfl,⟨_,rfl,.inr ⟨f,rfl⟩⟩,trivial⟩)};simp_all
theorem fA(h:cH b loc){x:Touch}(c:(We.ofEvent ⟨loc,w,Vo⟩).touch?=VF x):x=⟨loc,w,.plain⟩:=by cases loc with|cell a=>simp[We.ofEvent,We.touch?]at c;grind|obj r=>simp[We.ofEvent,We.touch?]at c;grind|_=>simp[cH]at h
theorem rn{s:Bool}(h:cH b loc)(c:b<B):(We.ofEvent ⟨loc,w,s⟩).low B:=by cases loc with|cell a=>simp[cH]at h;simp[We.ofEvent,We.low,Loc.low];omega|obj r=>simp[cH]at h;cases w<;>cases s<;>simp[We.ofEvent,We.low,Loc.low]<;>omega|_=>simp[cH]at h
theorem It(l:C.base<=k)(h:qS C own e)(j:∀b,own b->A k b\/(b=C.mm/\o=VF k))(n:∀b,own b\/C.RO b->b<B)(q:C.mu<B):L2 C Shun A o k B e:=by rcases mT h with⟨b,a,c,d⟩|⟨a,⟨m,c,d⟩,i⟩|⟨p,a,rfl⟩;{obtain⟨r,w,s⟩:=e;subst d;refine⟨λx g=>.inr ?_,λe=>by subst e;assumption,λe=>by subst e;assumption,rn a (n b (c.imp id (·.1)))⟩;rw[fA a g];refine⟨rfl,?_⟩;rcases c with c|⟨c,d⟩;{rcases j b c with i|⟨rfl,i⟩;{exact .inl ⟨l,.inl ⟨b,i,a⟩⟩};exact .inr (.inr ⟨a,i⟩)};exact .inr (.inl ⟨⟨l,.inl ⟨b,c,a⟩⟩,d⟩)};{refine⟨λx g=>(by rw[a]at g;cases g),?_,?_,We.low_mono (TH _) i⟩<;>rw[c]<;>rcases d with rfl|⟨f,rfl⟩<;>simp};refine⟨λx g=>.inr ?_,by simp,by simp,by assumption⟩;rw[fA (loc:=.cell ⟨C.mu,p,VJ⟩) rfl g];exact⟨rfl,.inr (.inl ⟨⟨l,.inr ⟨_,rfl,rfl,a⟩⟩,rfl⟩)⟩
theorem sV(h:∀e∈es,qS C own e)(d:Nat):V9 d es=d:=deafBehind_still (λe c=>by rcases mT (h e c)with⟨b,a,_⟩|⟨_,⟨m,g,i⟩,_⟩|⟨f,_,rfl⟩;{constructor<;>intro x<;>rw[x]at a<;>simp[cH]at a};{grind};simp) d
theorem KW(t:C.Ok)(K:qV C Shun B')(J:Eb C Shun A B)(h:qS C own e)(L:∀b,own b->b≠C.mu/\b≠C.mm/\b≠C.wg/\b≠C.out/\¬C.RO b/\(∀l,Shun l->¬cH b l)/\∀k,¬A k b)(z:∀b,own b\/C.RO b->b<B)(Q:C.mu<B):Ev0 C Shun A B e:=by rcases mT h with⟨b,c,g,r⟩|⟨c,⟨m,g,r⟩,N⟩|⟨H,c,rfl⟩;{obtain⟨S,w,s⟩:=e;subst r;refine⟨λx n=>.inr ?_,λe=>by subst e;assumption,λe=>by subst e;assumption,rn c (z b (g.imp id (·.1)))⟩;rw[fA c n];(have F:b≠C.mu/\b≠C.mm/\b≠C.wg/\b≠C.out/\(∀l,Shun l->¬cH b l)/\∀k,¬A k b:=by rcases g with g|⟨g,_⟩;{simp_all};obtain⟨u,v,I,y⟩:=t.ro b g;exact⟨u,v,I,y,λl P O=>(K.sh l b P O).1 g,λk p=>(J.sh k b p).2.2.2.2.1 g⟩);obtain⟨u,v,I,y,T,M⟩:=F;refine⟨λd=>?_,λD=>v (fj c D),λk p=>?_,λE k R=>?_⟩;{rcases d with d|⟨a,rfl,d⟩;{simp_all};have:a.block=b:=c;omega};{obtain⟨_,⟨q,i,j⟩|⟨a,rfl,i,j⟩⟩:=p;{exact M k (fj c j▸i)};exact y (Eq.trans (Eq.symm c) i)};obtain⟨_,⟨q,i,j⟩|⟨a,rfl,i,j⟩⟩:=R;{obtain rfl:=fj c j;simp_all};exact u (Eq.trans (Eq.symm c) i)};{refine⟨λx n=>(by rw[c]at n;cases n),?_,?_,We.low_mono (TH _) N⟩<;>rw[g]<;>rcases r with rfl|⟨f,rfl⟩<;>simp};refine⟨λx n=>.inr ?_,by simp,by simp,by assumption⟩;rw[fA (loc:=.cell ⟨C.mu,H,VJ⟩) rfl n];refine⟨λd=>?_,λD=>t.lK D,λk p=>?_,λE=>by simp at E⟩;{rcases d with d|⟨a,e,d⟩;{exact(K.sh _ C.mu d rfl).2.1 rfl};cases e;rcases d with d|d;{exact t.ga d};grind};obtain⟨_,⟨q,i,j⟩|⟨a,e,i,j⟩⟩:=p;{have:=j;exact(J.sh k q i).1 this.symm};cases e;exact t.fU i
def SA(C:Cx)(a:Wq):Prop:=a=C.muA\/a=C.msA\/a=stA C.wg\/a=smA C.wg
theorem SA.sh(h:SA C a):Sh C Shun (.cell a)/\(a.block=C.mu\/a.block=C.wg):=by rcases h with rfl|rfl|rfl|rfl;{exact⟨.inr ⟨_,rfl,.inr ⟨rfl,Ti _⟩⟩,.inl rfl⟩};{exact⟨.inr ⟨_,rfl,.inr ⟨rfl,Ub _⟩⟩,.inl rfl⟩};{exact⟨.inr ⟨_,rfl,.inl rfl⟩,.inr rfl⟩};exact⟨.inr ⟨_,rfl,.inl rfl⟩,.inr rfl⟩
theorem ly(h:SA C a)(w:Bool)(f:C.mu<B)(g:C.wg<B):L2 C Shun A o k B ⟨.cell a,w,VG⟩:=by obtain⟨c,d⟩:=h.sh (Shun:=Shun);refine⟨λx b=>.inl ?_,by simp,by simp,?_⟩;{simp[We.ofEvent,We.touch?]at b;grind};simp only[We.ofEvent,We.low,Loc.low];omega
theorem k6(h:SA C a)(w:Bool)(f:C.mu<B)(g:C.wg<B):Ev0 C Shun A B ⟨.cell a,w,VG⟩:=by obtain⟨c,d⟩:=h.sh (Shun:=Shun);refine⟨λx b=>.inl ?_,by simp,by simp,?_⟩;{simp[We.ofEvent,We.touch?]at b;grind};simp only[We.ofEvent,We.low,Loc.low];omega
theorem yk(h:e.mute=VG):L2 C Shun A o k B e:=by refine⟨λx a=>(by rw[touch_mute h]at a;cases a),?_,?_,low_mute h B⟩<;>intro x<;>obtain⟨l,w,s⟩:=e<;>simp only at x<;>subst x<;>simp[Wv.mute]at h
theorem pw(h:e.mute=VG):Ev0 C Shun A B e:=by refine⟨λx a=>(by rw[touch_mute h]at a;cases a),?_,?_,low_mute h B⟩<;>intro x<;>obtain⟨l,w,s⟩:=e<;>simp only at x<;>subst x<;>simp[Wv.mute]at h
theorem Iy(a:C.base<=k){off:Nat}(h:C.oc k off)(d:C.out<B):L2 C Shun A o k B ⟨.cell ⟨C.out,off,VJ⟩,VG,Vo⟩:=by refine⟨λx c=>.inr ?_,by simp,by simp,by assumption⟩;rw[fA (loc:=.cell ⟨C.out,off,VJ⟩) rfl c];exact⟨rfl,.inl ⟨a,.inr ⟨_,rfl,rfl,h⟩⟩⟩
inductive cm(C:Cx):Array Wv->Prop
 |nil:cm C #[]
 |rd{a:Wq}:SA C a->cm C #[rd a]
 |wr{a:Wq}:SA C a->cm C #[wr a]
 |rw{a:Wq}:SA C a->cm C #[rd a,wr a]
 |D6{a:Wq}:SA C a->cm C (semEvents a)
theorem cm.RA(h:cm C es)(b:C.mu<B)(c:C.wg<B):∀e∈es,L2 C Shun A o k B e:=by intro e a;cases h with|nil=>simp at a|rd h=>simp at a;subst a;exact ly h _ b c|wr h=>simp at a;subst a;exact ly h _ b c|rw h=>simp at a;rcases a with rfl|rfl<;>exact ly h _ b c|D6 h=>simp[semEvents]at a;rcases a with rfl|rfl|rfl|rfl<;>first|exact ly h _ b c|exact yk rfl
theorem cm.Py(h:cm C es)(b:C.mu<B)(c:C.wg<B):∀e∈es,Ev0 C Shun A B e:=by intro e a;cases h with|nil=>simp at a|rd h=>simp at a;subst a;exact k6 h _ b c|wr h=>simp at a;subst a;exact k6 h _ b c|rw h=>simp at a;rcases a with rfl|rfl<;>exact k6 h _ b c|D6 h=>simp[semEvents]at a;rcases a with rfl|rfl|rfl|rfl<;>first|exact k6 h _ b c|exact pw rfl
theorem cm.deaf(h:cm C es)(d:Nat):V9 d es=d:=by cases h<;>simp[V9,Go.ConcR.rd,Go.ConcR.wr,semEvents]
theorem cm.still(h:cm C es){d:Nat}(hd:0<d):∀j e,es[j]?=VF e->(We.ofEvent e).touch?=VJ\/((∃b wr,e=⟨.cell b,wr,VG⟩)/\0<V9 d (es.extract 0 j)):=by intro j e a;cases h with|nil=>simp at a|rd h=>(match j,a with|0,a=>simp at a;subst a;exact .inr ⟨⟨_,_,rfl⟩,by assumption⟩|j+1,a=>simp at a)|wr h=>(match j,a with|0,a=>simp at a;subst a;exact .inr ⟨⟨_,_,rfl⟩,by assumption⟩|j+1,a=>simp at a)|rw h=>(match j,a with|0,a=>simp at a;subst a;exact .inr ⟨⟨_,_,rfl⟩,by assumption⟩|1,a=>simp at a;subst a;exact .inr ⟨⟨_,_,rfl⟩,by assumption⟩|j+2,a=>simp at a)|D6 h=>match j,a with|0,a=>simp[semEvents]at a;subst a;exact .inl rfl|1,a=>simp[semEvents]at a;subst a;exact .inr ⟨⟨_,_,rfl⟩,by simp[V9,semEvents]⟩|2,a=>simp[semEvents]at a;subst a;exact .inr ⟨⟨_,_,rfl⟩,by simp[V9,semEvents]⟩|3,a=>simp[semEvents]at a;subst a;exact .inl rfl|j+4,a=>simp[semEvents]at a
end
end Go.Cr
namespace Go.Cr
open Go.Conc Go.Mx Go.Rk
open Go.ConcR(KK WgAt wgBlock stA smA rd wr mk)
open Go.ConcM(OsLater)
variable{S Q:VK->VH->Prop}{H:Wd->Bool->Bool->Nat->VK->VH->Prop}{it:Nat}
section
inductive Pl
 |cI(m:Md)
 |eW(θ:Th)(it:Nat)
 |ve(o:Wd)(aw st:Bool)(it:Nat)
 |hd(o:Wd)(aw st:Bool)(it:Nat)
 |w9(o:Wd)
 |uw(θ:Th)
 |d2|d3|d4|quit
def Pl.th:Pl->Th
 |.cI m=>if m.hold then .hold else .out
 |.eW θ _=>θ
 |.ve o aw st _=>.ca o aw st
 |.hd o aw st _=>.ca o aw st
 |.w9 o=>.uc o
 |.uw θ=>θ
 |_=>.out
def Pl.tok:Pl->Bool
 |.cI m=>m.tok
 |_=>Vo
def Pl.said:Pl->Bool
 |.cI m=>m.said
 |.d2|.d3|.d4|.quit=>VG
 |_=>Vo
def Pl.e9:Pl->Bool
 |.d2|.d3|.d4|.quit=>Vo
 |_=>VG
def kK:Pl->Bool
 |.d4=>VG
 |_=>Vo
def Pl.last:Pl->Bool
 |.d2|.d3|.d4=>VG
 |_=>Vo
variable(C:Cx)(i:Nat)(own:Nat->Prop)
def Qa(H:Wd->Bool->Bool->Nat->VK->VH->Prop)(Q:VK->VH->Prop):Th->Nat->VK->VH->Prop
 |.ld aw st,it=>tG C i own H aw st it
 |.sq,_=>C2 C i own H Q
 |.t2,_=>Js C i own H Q
 |.a1 o st,_=>AtA1 C i Q o st
 |_,_=>λ_ _=>False
def Sr(HU:Wd->VK->VH->Prop)(Q:VK->VH->Prop):Th->VK->VH->Prop
 |.uc o=>Df C i own HU Q o
 |.ux=>JV C i own HU Q
 |.us=>zC C i own Q
 |.out=>Q
 |_=>λ_ _=>False
inductive WSit:Pl->Rk Ix->Nat->(Nat->Prop)->Nat->VK->VH->Prop
 |cI{m:Md}{ρ:Rk Ix}{own:Nat->Prop}{g:VK}{w:VH}:fN C i 0 m ρ own g w->WSit (.cI m) ρ 0 own m.deaf.toNat g w
 |eW{own:Nat->Prop}{g:VK}{w:VH}{θ:Th}{it n:Nat}{f:Ix->Rk Ix}(H:Wd->Bool->Bool->Nat->VK->VH->Prop)(Q:VK->VH->Prop):
  (∀g v1 v2,Q g v1->Env C i own v1 v2->Q g v2)->iV C i own H Q->cN C i own (Qa C i own H Q θ it) n g w->(∀g' v1,Env C i own w v1->Q g' v1->fN C i 0 .lZ (f (g',v1,v1)) own g' v1)->it<=4->WSit (.eW θ it) (.s f) n own 1 g w
 |blk{own:Nat->Prop}{g:VK}{w:VH}{it:Nat}{f:Ix->Rk Ix}(H:Wd->Bool->Bool->Nat->VK->VH->Prop)(Q:VK->VH->Prop):
  (∀g v1 v2,Q g v1->Env C i own v1 v2->Q g v2)->iV C i own H Q->(∀v1,Env C i own w v1->C2 C i own H Q g v1)->(∀g' v1,Env C i own w v1->Q g' v1->fN C i 0 .lZ (f (g',v1,v1)) own g' v1)->it<=4->
  WSit (.eW .sq it) (.s f) 0 own 1 {g with status:=.blocked} w
 |ve{own:Nat->Prop}{g:VK}{w:VH}{o:Wd}{aw st:Bool}{it n:Nat}{f:Ix->Rk Ix}(H:Wd->Bool->Bool->Nat->VK->VH->Prop)(Q:VK->VH->Prop):
  (∀g v1 v2,Q g v1->Env C i own v1 v2->Q g v2)->iV C i own H Q->cN C i own (H o aw st it) n g w->(∀g' v1,Env C i own w v1->Q g' v1->fN C i 0 .lZ (f (g',v1,v1)) own g' v1)->it<=4->o.n<100000000->((aw=VG->o.W=VG)/\(st=VG->aw=VG))->WSit (.ve o aw st it) (.s f) n own 1 g w
 |hd{own:Nat->Prop}{g:VK}{w:VH}{o:Wd}{aw st:Bool}{it n:Nat}{f:Ix->Rk Ix}(H:Wd->Bool->Bool->Nat->VK->VH->Prop)(Q:VK->VH->Prop):
  (∀g v1 v2,Q g v1->Env C i own v1 v2->Q g v2)->iV C i own H Q->cN C i own (gI C i own H Q o aw st it) n g w->(∀g' v1,Env C i own w v1->Q g' v1->fN C i 0 .lZ (f (g',v1,v1)) own g' v1)->it<=4->WSit (.hd o aw st it) (.s f) n own 1 g w
 |w9{own:Nat->Prop}{g:VK}{w:VH}{o:Wd}{n:Nat}{f:Ix->Rk Ix}(HU:Wd->VK->VH->Prop)(Q:VK->VH->Prop):
  (∀g v1 v2,Q g v1->Env C i own v1 v2->Q g v2)->Ad C i own HU Q->cN C i own (HU o) n g w->(∀g' v1,Env C i own w v1->Q g' v1->fN C i 0 .bD (f (g',v1,v1)) own g' v1)->(o.L=Vo/\o.W=Vo/\o.S=Vo/\o.n≠0/\o.n<100000000)->WSit (.w9 o) (.s f) n own 1 g w
 |uw{own:Nat->Prop}{g:VK}{w:VH}{θ:Th}{n:Nat}{f:Ix->Rk Ix}(HU:Wd->VK->VH->Prop)(Q:VK->VH->Prop):
  (∀g v1 v2,Q g v1->Env C i own v1 v2->Q g v2)->Ad C i own HU Q->cN C i own (Sr C i own HU Q θ) n g w->(∀g' v1,Env C i own w v1->Q g' v1->fN C i 0 .bD (f (g',v1,v1)) own g' v1)->WSit (.uw θ) (.s f) n own 1 g w
 |d2{own:Nat->Prop}{g:VK}{w:VH}{n:Nat}:cN C i own (AtD2 C i own) n g w->WSit .d2 .z n own 1 g w
 |d3{own:Nat->Prop}{g:VK}{w:VH}{n:Nat}:cN C i own (AtD3 C i own) n g w->WSit .d3 .z n own 1 g w
 |d4{own:Nat->Prop}{g:VK}{w:VH}{n:Nat}:cN C i own (AtD4 C i) n g w->WSit .d4 .z n own 1 g w
 |quit{own:Nat->Prop}{g:VK}{w:VH}{n d:Nat}:QuitsD C.P n d g->WSit .quit .z n own d g w
inductive og
 |cI(m:Md)(j:Nat)
 |wA|w1|w2(vs:Nat)|wr|w3|w4|ke|aq
inductive fR:og->Rk Ix->Nat->(Nat->Prop)->VK->VH->Prop
 |cI{m:Md}{j:Nat}{f:Ix->Rk Ix}{own:Nat->Prop}{g:VK}{w:VH}:fN C 0 j m (.s f) own g w->fR (.cI m j) (.s f) 0 own g w
 |wA{own:Nat->Prop}{g:VK}{w:VH}{n:Nat}(A:VK->VH->Prop):zf C 0 own A->cN C 0 own A n g w->fR .wA .z n own g w
 |w1{own:Nat->Prop}{g:VK}{w:VH}{n:Nat}(A:VK->VH->Prop):zf C 0 own A->cN C 0 own (AtW1 C 0 own A) n g w->fR .w1 .z n own g w
 |w2{own:Nat->Prop}{g:VK}{w:VH}{n vs:Nat}(A:VK->VH->Prop):vs≠0->zf C 0 own A->cN C 0 own (AtW2 C 0 own A vs) n g w->fR (.w2 vs) .z n own g w
 |wr{own:Nat->Prop}{g:VK}{w:VH}{n:Nat}:cN C 0 own (O0 C 0 own) n g w->fR .wr .z n own g w
 |w3{own:Nat->Prop}{g:VK}{w:VH}{n:Nat}:cN C 0 own (AtW3 C 0 own) n g w->fR .w3 .z n own g w
 |blk{own:Nat->Prop}{g:VK}{w:VH}:(∀v1,Env C 0 own w v1->AtW3 C 0 own g v1)->fR .w3 .z 0 own {g with status:=.blocked} w
 |w4{own:Nat->Prop}{g:VK}{w:VH}{n:Nat}:cN C 0 own (AtW4 C 0 own) n g w->fR .w4 .z n own g w
 |ke{own:Nat->Prop}{g:VK}{w:VH}{n:Nat}:cN C 0 own (AtKe C 0 own) n g w->fR .ke .z n own g w
 |aq{own:Nat->Prop}{g:VK}{w:VH}{n:Nat}:cN C 0 own (AtAcq C 0) n g w->fR .aq .z n own g w
def og.deaf:og->Nat
 |.cI m _=>m.deaf.toNat
 |.aq=>0
 |_=>1
def og.started(n:Nat):og->Nat
 |.cI _ j=>j/2
 |_=>n
def og.pend:og->Nat
 |.cI _ j=>j%2
 |_=>0
variable{C i own}{pl:Pl}{ρ:Rk Ix}{n d:Nat}{g:VK}{w w1:VH}
def q8(C:Cx)(pl:Pl)(own:Nat->Prop):Nat->Prop:=λk=>own k\/(pl.tok=VG/\k=C.mm)
theorem Env.Rr(h:Env C i (q8 C pl own) w w1):Env C i own w w1:=h.sub λ_ a=>.inl a
theorem WSit.env(h:WSit C i pl ρ n own d g w)(o:Env C i (q8 C pl own) w w1):WSit C i pl ρ n own d g w1:=by have j:=o.Rr;cases h with|cI h=>exact .cI (h.env o)|eW H Q a b c e f=>exact .eW H Q a b (c.rely bF j) (λm x k=>e m x (j.trans k)) f|blk H Q a b c e f=>exact .blk H Q a b (λx k=>c x (j.trans k)) (λm x k=>e m x (j.trans k)) f|ve H Q a b c e f l p=>exact .ve H Q a b (c.rely bF j) (λm x k=>e m x (j.trans k)) f l p|hd H Q a b c e f=>exact .hd H Q a b (c.rely bF j) (λm x k=>e m x (j.trans k)) f|w9 H Q a b c e f=>exact .w9 H Q a b (c.rely bF j) (λm x k=>e m x (j.trans k)) f|uw H Q a b c e=>exact .uw H Q a b (c.rely bF j) (λm x k=>e m x (j.trans k))|d2 a=>exact .d2 (a.rely bF j)|d3 a=>exact .d3 (a.rely bF j)|d4 a=>exact .d4 (a.rely bF j)|quit a=>exact .quit a
theorem fR.env{pl:og}(h:fR C pl ρ n own g w)(c:Env C 0 own w w1)(e:∀m j,pl=.cI m j->m.tok=Vo):fR C pl ρ n own g w1:=by cases h with|cI h=>exact .cI (h.env (c.JA (e _ _ rfl)))|wA A a b=>exact .wA A a (b.rely bF c)|w1 A a b=>exact .w1 A a (b.rely bF c)|w2 A z a b=>exact .w2 A z a (b.rely bF c)|wr a=>exact .wr (a.rely bF c)|w3 a=>exact .w3 (a.rely bF c)|blk a=>exact .blk λx f=>a x (c.trans f)|w4 a=>exact .w4 (a.rely bF c)|ke a=>exact .ke (a.rely bF c)|aq a=>exact .aq (a.rely bF c)
theorem ah(a:∀g w,S g w->g.status=.running)(h:cN C i own S n g w):g.status=.running:=Goes.running (λg w x=>a g w x) w Env.refl h
theorem fO{θ:Th}(h:Qa C i own H Q θ it g w):g.status=.running:=by cases θ<;>first|exact h.1|exact h.elim
theorem dY{o:Wd}{aw st:Bool}(h:gI C i own H Q o aw st it g w):g.status=.running:=by rcases h with h|h|h;{exact h.2.1};{exact h.2.2.2.2.2.2.1};exact h.1
theorem au(h:cN C i own S n g w):(∀w1,Env C i own w w1->S g w1)\/∃a,n=a+1/\g.status=.running/\∀w1,Env C i own w w1->(VO C.P (i==0) g w1).goes λg' w' es=>DL w1 w' es/\cN C i own S a g' w':=by cases n with|zero=>exact .inl h|succ a=>rcases h with h|⟨b,c⟩;{grind};simp_all
end
end Go.Cr
namespace Go.Cr
open Go.Conc Go.Mx Go.Rk
open Go.ConcR(KK WgAt wgBlock stA smA rd wr mk)
open Go.ConcM(OsLater)
open Go.ConcN(sumTo)
variable{j b j':Nat}{pl:og}{P:Program}{a a':VK}{w2:VH}
section
structure WD where
 pl:Pl
 rk:Rk Ix
 fu:Nat
 own:Nat->Prop
structure Cf where
 gs:Array VK
 w:VH
 t:WG
 D:Nat->WD
 mp:og
 nE:Rk Ix
 ra:Nat
 ek:Nat->Prop
 q:Nat->Nat
 df:Nat->Nat
 wd:Wd
 ms:Nat
 o:Option Nat
variable(C:Cx)(Shun:Loc->Prop)(S:Cf)
def Cf.jn:Nat:=S.mp.started C.n
def Cf.vc:Nat:=sumTo (S.jn C) λj=>(S.D j).pl.e9.toNat
def Cf.dx:Prop:=∀j,j<S.jn C->(S.D j).pl.last=Vo
def Cf.AA(k b:Nat):Prop:=∃j,j<S.jn C/\k=C.base+j/\(S.D j).own b
def Cf.rl(k:Nat):Prop:=∃j,j<S.jn C/\k=C.base+j/\(S.D j).pl.said=VG
def Cf.eX(mp:og)(w:VH):Prop:=match mp with
 |.wr|.w3=>(1<=S.vc C/\S.dx C/\WgAt C.tW C.wg w (S.vc C*KK+1) 0)\/
  (S.vc C=0/\(∃L,L<S.jn C/\(S.D L).pl.last=VG/\(∀j,j<S.jn C->j≠L->(S.D j).pl.last=Vo)/\WgAt C.tW C.wg w (if kK (S.D L).pl=VG then 0 else 1) 0))\/
  (S.vc C=0/\S.dx C/\WgAt C.tW C.wg w 0 1)
 |.w4|.ke|.aq=>S.vc C=0/\S.dx C/\WgAt C.tW C.wg w 0 0
 |m=>WgAt C.tW C.wg w ((S.vc C+m.pend:Nat)*KK) 0/\S.dx C
def Cf.gv:Prop:=S.eX C S.mp S.w
structure Ok:Prop where
 size:S.gs.size=C.base+S.jn C
 cX:S.jn C<=C.n
 main:∃g,S.gs[0]?=VF g/\fR C S.mp S.nE S.ra S.ek g S.w
 IX:S.df 0=S.mp.deaf
 mode:∀m j,S.mp=.cI m j->m.tok=Vo/\m.hold=Vo/\m.said=Vo
 old:∀i,0<i->i<C.base->∃g,S.gs[i]?=VF g/\QuitsD C.P (S.q i) (S.df i) g
 wk:∀j,j<S.jn C->∃g,S.gs[C.base+j]?=VF g/\WSit C (C.base+j) (S.D j).pl (S.D j).rk (S.D j).fu (S.D j).own (S.df (C.base+j)) g S.w
 ye:∀j,S.jn C<=j->(S.D j).pl=.cI .free/\(S.D j).fu=0
 aJ:dm C S.w
 w0:W0 C S.w
 word:cO C S.w S.wd S.ms
 inv:Inv (λj=>(S.D j).pl.th) C.n S.wd S.ms
 gv:S.gv C
 dC:S.o=VJ->ao C S.w
 fin:∀j,j<S.jn C->(S.D j).pl.said=VG->Fin C (C.base+j) S.w
 AJ:∀j g,j<S.jn C->S.gs[C.base+j]?=VF g->g.status=.blocked->S.ms=0
 GX:∀g,S.gs[0]?=VF g->g.status=.blocked->∃st,WgAt C.tW C.wg S.w st 0
 tok:∀j,j<S.jn C->((S.D j).pl.tok=VG↔S.o=VF (C.base+j))
 hold:∀j,j<S.jn C->(S.D j).pl.tok=VG->(S.D j).pl.th=.hold
 yS:∀k,S.o=VF k->∃j,j<S.jn C/\k=C.base+j
 ti:TI C Shun (S.AA C) S.o S.df (S.rl C) S.gs.size S.w.heap.size S.t
 nB:Eb C Shun (S.AA C) S.w.heap.size
 mV:qV C Shun S.w.heap.size
 mo:∀b,S.ek b->b<S.w.heap.size/\b≠C.mu/\b≠C.mm/\b≠C.wg/\b≠C.out/\¬C.RO b/\(∀l,Shun l->¬cH b l)/\∀k,¬S.AA C k b
 ro:∀b,C.RO b->b<S.w.heap.size
 mm:C.mm<S.w.heap.size
structure Fx:Prop where
 ok:C.Ok
 base:1<=C.base
 n:C.n<1000000
 alone:¬C.solo
 sw:C.sw=Go.ConcR.wgBlock C.tW
 Tb:∀k o,C.oc k o->∃j,j<C.n/\k=C.base+j
variable{C Shun S}
theorem Ok.iA(h:Ok C Shun S):C.mu<S.w.heap.size:=(ja h.aJ).1
theorem Ok.iy(h:Ok C Shun S):C.wg<S.w.heap.size:=(ja h.aJ).2.1
theorem Ok.ta(h:Ok C Shun S):C.out<S.w.heap.size:=(ja h.aJ).2.2
theorem Ok.iG(h:Ok C Shun S){b:Nat}(k:j<S.jn C)(i:(S.D j).own b):b<S.w.heap.size/\b≠C.mu/\b≠C.mm/\b≠C.wg/\b≠C.out/\¬C.RO b:=by have a:S.AA C (C.base+j) b:=⟨j,k,rfl,i⟩;obtain⟨c,d,e,f,g,_⟩:=h.nB.sh _ _ a;exact⟨h.nB.lt _ _ a,c,d,e,f,g⟩
theorem Ok.Oy(h:Ok C Shun S){b:Nat}(e:j<S.jn C)(c:j'<S.jn C)(f:j'≠j)(d:(S.D j').own b):¬(S.D j).own b:=λa=>by have:=h.nB.yL (C.base+j) (C.base+j') b ⟨j,e,rfl,a⟩ ⟨j',c,rfl,d⟩;omega
theorem Ok.IE(h:Ok C Shun S)(c:j<S.jn C)(a:j'<S.jn C)(d:(S.D j).pl.tok=VG)(b:(S.D j').pl.tok=VG):j=j':=by have:=(h.tok j c).1 d;rw[(h.tok j' a).1 b]at this;simp_all
variable{i n d:Nat}{pl:Pl}{ρ:Rk Ix}{own:Nat->Prop}{g g' b:VK}{w w':VH}
theorem nH(c:g.status=.running\/g.status=.finished):woken P a a' w g=g:=by unfold woken;split;{exact again_running _ c};rfl
theorem WSit.status(h:WSit C i pl ρ n own d g w):g.status=.running\/g.status=.finished\/(g.status=.blocked/\pl.th=.sq):=by cases h with|cI h=>rcases h.running with x|⟨n,A,x,y⟩;{grind};refine .inl ?_;rcases au x with j|⟨_,_,o,_⟩;{obtain⟨m,k⟩:=y _ _ (j _ .refl);exact ah (λ_ _ z=>z.1) k};exact o|eW H Q a b c e f=>exact .inl (ah (λ_ _ z=>fO z) c)|blk H Q a b c e f=>exact .inr (.inr ⟨rfl,rfl⟩)|ve H Q a b c e f l q=>rcases au c with j|⟨_,_,o,_⟩;{obtain⟨m,k⟩:=b _ _ _ _ _ _ f q.1 q.2 l (j _ .refl);exact .inl (ah (λ_ _ z=>dY z) k)};simp_all|hd H Q a b c e f=>exact .inl (ah (λ_ _ z=>dY z) c)|w9 r Q a b c e f=>rcases au c with j|⟨_,_,o,_⟩;{obtain⟨m,k⟩:=b _ _ _ f.1 f.2.1 f.2.2.1 f.2.2.2.1 f.2.2.2.2 (j _ .refl);exact .inl (ah (λ_ _ z=>z.1) k)};simp_all|@uw own g w t n f r Q a b c e=>(have s:∀g' p,Env C i own w p->Q g' p->g'.status=.running:=λg' p x y=>by rcases(e g' p x y).running with z|⟨n,A,z,y⟩;{exact z};rcases au z with j|⟨_,_,o,_⟩;{obtain⟨m,k⟩:=y _ _ (j _ .refl);exact ah (λ_ _ z=>z.1) k};exact o);rcases au c with j|⟨_,_,o,_⟩;{have:=j _ .refl;cases t<;>first|exact .inl this.1|exact this.elim|exact .inl (s _ _ .refl this)};simp_all|d2 h=>exact .inl (ah (λ_ _ z=>z.1) h)|d3 h=>exact .inl (ah (λ_ _ z=>z.1) h)|d4 h=>exact .inl (ah (λ_ _ z=>z.1) h)|quit h=>exact h.status.imp id .inl
theorem WSit.woken(h:WSit C i pl ρ n own d g w):WSit C i pl ρ n own d (Go.Conc.woken P a a' w2 g) w:=by rcases h.status with j|j|⟨j,_⟩;{rw[nH (.inl j)];exact h};{rw[nH (.inr j)];exact h};cases h with|@blk own g w B f H Q q r k s t=>have u:=k w .refl;unfold Go.Conc.woken;split;{rw[Go.ConcX.again_blocked u.1 u.2.1];exact .eW H Q q r k s t};exact .blk H Q q r k s t|cI h=>rcases(WSit.cI h).status with x|x|x;{simp_all};{simp_all};simp only[Pl.th]at x;grind|eW H Q a b c e f=>rw[ah (λ_ _ z=>fO z) c]at j;cases j|ve H Q a b c e f l y=>rcases(WSit.ve H Q a b c e f l y).status with x|x|⟨_,x⟩;{simp_all};{simp_all};cases x|hd H Q a b c e f=>rw[ah (λ_ _ z=>dY z) c]at j;cases j|w9 H Q a b c e f=>rcases(WSit.w9 H Q a b c e f).status with x|x|⟨_,x⟩;{simp_all};{simp_all};cases x|uw v Q a b c e=>rcases(WSit.uw v Q a b c e).status with x|x|x;{simp_all};{simp_all};obtain⟨_,x⟩:=x;subst x;rcases au c with o|⟨_,_,A,_⟩;{exact(o _ .refl).elim};simp_all|d2 h=>rw[ah (λ_ _ z=>z.1) h]at j;cases j|d3 h=>rw[ah (λ_ _ z=>z.1) h]at j;cases j|d4 h=>rw[ah (λ_ _ z=>z.1) h]at j;cases j|quit h=>rcases h.status with x|x<;>rw[x]at j<;>cases j
theorem fR.status{pl:og}(h:fR C pl ρ n own g w):g.status=.running\/(g.status=.blocked/\pl=.w3):=by cases h with|cI h=>rcases h.running with x|⟨n,A,z,y⟩;{grind};rcases au z with e|⟨_,_,f,_⟩;{obtain⟨m,c⟩:=y _ _ (e _ .refl);exact .inl (ah (λ_ _ z=>z.1) c)};simp_all|wA A a b=>rcases au b with e|⟨_,_,f,_⟩;{obtain⟨m,c⟩:=a _ _ (e _ .refl);exact .inl (ah (λ_ _ z=>z.1) c)};simp_all|w1 A a b=>exact .inl (ah (λ_ _ z=>z.1) b)|w2 A _ a b=>exact .inl (ah (λ_ _ z=>z.1) b)|wr b=>exact .inl (ah (λ_ _ z=>z.1) b)|w3 b=>exact .inl (ah (λ_ _ z=>z.1) b)|blk b=>simp|w4 b=>exact .inl (ah (λ_ _ z=>z.1) b)|ke b=>exact .inl (ah (λ_ _ z=>z.1) b)|aq b=>exact .inl (ah (λ_ _ z=>z.1) b)
theorem fR.woken{pl:og}(h:fR C pl ρ n own g w):fR C pl ρ n own (Go.Conc.woken P a a' w2 g) w:=by rcases h.status with c|⟨c,rfl⟩;{rw[nH (.inl c)];exact h};cases h with|blk e=>have j:=e w .refl;unfold Go.Conc.woken;split;{rw[Go.ConcX.again_blocked j.1 j.2.1];exact .w3 e};exact .blk e|w3 b=>rw[ah (λ_ _ z=>z.1) b]at c;cases c
end
end Go.Cr
