/- A part of the proof that PortReached holds for every input. Conditions: none. -/
import Derived.Test.YtobmepfondcekaaGreatDoorZ9
import Derived.Conc.FxWorld
set_option linter.all false
open Go renaming Event->Vv,Goroutine->UP,MemAct->Ve,MemOp->Vy,Trace->VE,World->UL,deafBehind->Vb,stepG->UY
open Bool renaming false->Ul,true->UJ
open Option renaming none->UM,some->UG
namespace Go.Cr
open Go.Conc Go.Mx Go.Rk Go.ConcM
open Go.ConcR(KK WgAt wgBlock stA smA rd wr mk deafBehind_cons deafBehind_one)
variable{e:Vv}{loc:Loc}{w:Bool}{b:Nat}{a:Addr}
section
variable{C:Cx}{Shun:Loc->Prop}{A:Nat->Nat->Prop}{B B':Nat}{o:Option Nat}{k:Nat}{own:Nat->Prop}{es:Array Vv}
theorem nC(h:qL C own e):(∃b,dn b e.loc/\(own b\/(C.RO b/\e.write=Ul))/\e.sync=Ul)\/((Ve.ofEvent e).touch?=UM/\(∃m,e.loc=.mark m/\(m=.noRoom\/∃f,m=.extern f))/\(Ve.ofEvent e).low 0)\/(∃off,off<C.mo/\e=⟨.cell ⟨C.mu,off,UM⟩,Ul,Ul⟩):=by obtain⟨d,w,s⟩:=e;rcases h with(⟨b,g,a,c⟩|⟨_,_,_,i,_⟩|h|⟨f,h⟩)|h;{refine .inl ⟨b,?_,a,c⟩;assumption};{grind};{subst h;exact .inr (.inl ⟨rfl,⟨_,rfl,.inl rfl⟩,trivial⟩)};{subst h;exact .inr (.inl ⟨rfl,⟨_,rfl,.inr ⟨f,rfl⟩⟩,trivial⟩)};simp_all
theorem fM(h:dn b loc){x:Touch}(c:(Ve.ofEvent ⟨loc,w,Ul⟩).touch?=UG x):x=⟨loc,w,.plain⟩:=by cases loc with|cell a=>simp[Ve.ofEvent,Ve.touch?]at c;grind|obj r=>simp[Ve.ofEvent,Ve.touch?]at c;grind|_=>simp[dn]at h
theorem rE{s:Bool}(h:dn b loc)(c:b<B):(Ve.ofEvent ⟨loc,w,s⟩).low B:=by cases loc with|cell a=>simp[dn]at h;simp[Ve.ofEvent,Ve.low,Loc.low];omega|obj r=>simp[dn]at h;cases w<;>cases s<;>simp[Ve.ofEvent,Ve.low,Loc.low]<;>omega|_=>simp[dn]at h
theorem Ji(l:C.base<=k)(h:qL C own e)(j:∀b,own b->A k b\/(b=C.mm/\o=UG k))(n:∀b,own b\/C.RO b->b<B)(q:C.mu<B):KQ C Shun A o k B e:=by rcases nC h with⟨b,a,c,d⟩|⟨a,⟨m,c,d⟩,i⟩|⟨p,a,rfl⟩;{obtain⟨r,w,s⟩:=e;subst d;refine⟨λx g=>.inr ?_,λe=>by subst e;assumption,λe=>by subst e;assumption,rE a (n b (c.imp id (·.1)))⟩;rw[fM a g];refine⟨rfl,?_⟩;rcases c with c|⟨c,d⟩;{rcases j b c with i|⟨rfl,i⟩;{exact .inl ⟨l,.inl ⟨b,i,a⟩⟩};exact .inr (.inr ⟨a,i⟩)};exact .inr (.inl ⟨⟨l,.inl ⟨b,c,a⟩⟩,d⟩)};{refine⟨λx g=>(by rw[a]at g;cases g),?_,?_,Ve.low_mono (SK _) i⟩<;>rw[c]<;>rcases d with rfl|⟨f,rfl⟩<;>simp};refine⟨λx g=>.inr ?_,by simp,by simp,by assumption⟩;rw[fM (loc:=.cell ⟨C.mu,p,UM⟩) rfl g];exact⟨rfl,.inr (.inl ⟨⟨l,.inr ⟨_,rfl,rfl,a⟩⟩,rfl⟩)⟩
theorem tZ(h:∀e∈es,qL C own e)(d:Nat):Vb d es=d:=deafBehind_still (λe c=>by rcases nC (h e c)with⟨b,a,_⟩|⟨_,⟨m,g,i⟩,_⟩|⟨f,_,rfl⟩;{constructor<;>intro x<;>rw[x]at a<;>simp[dn]at a};{grind};simp) d
theorem Jw(t:C.Ok)(K:qj C Shun B')(J:CF C Shun A B)(h:qL C own e)(L:∀b,own b->b≠C.mu/\b≠C.mm/\b≠C.wg/\b≠C.out/\¬C.RO b/\(∀l,Shun l->¬dn b l)/\∀k,¬A k b)(z:∀b,own b\/C.RO b->b<B)(Q:C.mu<B):Ev0 C Shun A B e:=by rcases nC h with⟨b,c,g,r⟩|⟨c,⟨m,g,r⟩,N⟩|⟨H,c,rfl⟩;{obtain⟨S,w,s⟩:=e;subst r;refine⟨λx n=>.inr ?_,λe=>by subst e;assumption,λe=>by subst e;assumption,rE c (z b (g.imp id (·.1)))⟩;rw[fM c n];(have F:b≠C.mu/\b≠C.mm/\b≠C.wg/\b≠C.out/\(∀l,Shun l->¬dn b l)/\∀k,¬A k b:=by rcases g with g|⟨g,_⟩;{simp_all};obtain⟨u,v,I,y⟩:=t.ro b g;exact⟨u,v,I,y,λl P O=>(K.sh l b P O).1 g,λk p=>(J.sh k b p).2.2.2.2.1 g⟩);obtain⟨u,v,I,y,T,M⟩:=F;refine⟨λd=>?_,λD=>v (fX c D),λk p=>?_,λE k R=>?_⟩;{rcases d with d|⟨a,rfl,d⟩;{simp_all};have:a.block=b:=c;omega};{obtain⟨_,⟨q,i,j⟩|⟨a,rfl,i,j⟩⟩:=p;{exact M k (fX c j▸i)};exact y (Eq.trans (Eq.symm c) i)};obtain⟨_,⟨q,i,j⟩|⟨a,rfl,i,j⟩⟩:=R;{obtain rfl:=fX c j;simp_all};exact u (Eq.trans (Eq.symm c) i)};{refine⟨λx n=>(by rw[c]at n;cases n),?_,?_,Ve.low_mono (SK _) N⟩<;>rw[g]<;>rcases r with rfl|⟨f,rfl⟩<;>simp};refine⟨λx n=>.inr ?_,by simp,by simp,by assumption⟩;rw[fM (loc:=.cell ⟨C.mu,H,UM⟩) rfl n];refine⟨λd=>?_,λD=>t.lT D,λk p=>?_,λE=>by simp at E⟩;{rcases d with d|⟨a,e,d⟩;{exact(K.sh _ C.mu d rfl).2.1 rfl};cases e;rcases d with d|d;{exact t.gi d};grind};obtain⟨_,⟨q,i,j⟩|⟨a,e,i,j⟩⟩:=p;{have:=j;exact(J.sh k q i).1 this.symm};cases e;exact t.gd i
def SA(C:Cx)(a:Addr):Prop:=a=C.muA\/a=C.msA\/a=stA C.wg\/a=smA C.wg
theorem SA.sh(h:SA C a):Sh C Shun (.cell a)/\(a.block=C.mu\/a.block=C.wg):=by rcases h with rfl|rfl|rfl|rfl;{exact⟨.inr ⟨_,rfl,.inr ⟨rfl,Sm _⟩⟩,.inl rfl⟩};{exact⟨.inr ⟨_,rfl,.inr ⟨rfl,Tl _⟩⟩,.inl rfl⟩};{exact⟨.inr ⟨_,rfl,.inl rfl⟩,.inr rfl⟩};exact⟨.inr ⟨_,rfl,.inl rfl⟩,.inr rfl⟩
theorem lI(h:SA C a)(w:Bool)(f:C.mu<B)(g:C.wg<B):KQ C Shun A o k B ⟨.cell a,w,UJ⟩:=by obtain⟨c,d⟩:=h.sh (Shun:=Shun);refine⟨λx b=>.inl ?_,by simp,by simp,?_⟩;{simp[Ve.ofEvent,Ve.touch?]at b;grind};simp only[Ve.ofEvent,Ve.low,Loc.low];omega
theorem lJ(h:SA C a)(w:Bool)(f:C.mu<B)(g:C.wg<B):Ev0 C Shun A B ⟨.cell a,w,UJ⟩:=by obtain⟨c,d⟩:=h.sh (Shun:=Shun);refine⟨λx b=>.inl ?_,by simp,by simp,?_⟩;{simp[Ve.ofEvent,Ve.touch?]at b;grind};simp only[Ve.ofEvent,Ve.low,Loc.low];omega
theorem yX(h:e.mute=UJ):KQ C Shun A o k B e:=by refine⟨λx a=>(by rw[touch_mute h]at a;cases a),?_,?_,low_mute h B⟩<;>intro x<;>obtain⟨l,w,s⟩:=e<;>simp only at x<;>subst x<;>simp[Vv.mute]at h
theorem pC(h:e.mute=UJ):Ev0 C Shun A B e:=by refine⟨λx a=>(by rw[touch_mute h]at a;cases a),?_,?_,low_mute h B⟩<;>intro x<;>obtain⟨l,w,s⟩:=e<;>simp only at x<;>subst x<;>simp[Vv.mute]at h
theorem JI(a:C.base<=k){off:Nat}(h:C.oc k off)(d:C.out<B):KQ C Shun A o k B ⟨.cell ⟨C.out,off,UM⟩,UJ,Ul⟩:=by refine⟨λx c=>.inr ?_,by simp,by simp,by assumption⟩;rw[fM (loc:=.cell ⟨C.out,off,UM⟩) rfl c];exact⟨rfl,.inl ⟨a,.inr ⟨_,rfl,rfl,h⟩⟩⟩
inductive cv(C:Cx):Array Vv->Prop
 |nil:cv C #[]
 |rd{a:Addr}:SA C a->cv C #[rd a]
 |wr{a:Addr}:SA C a->cv C #[wr a]
 |rw{a:Addr}:SA C a->cv C #[rd a,wr a]
 |D9{a:Addr}:SA C a->cv C (semEvents a)
theorem cv.Qu(h:cv C es)(b:C.mu<B)(c:C.wg<B):∀e∈es,KQ C Shun A o k B e:=by intro e a;cases h with|nil=>simp at a|rd h=>simp at a;subst a;exact lI h _ b c|wr h=>simp at a;subst a;exact lI h _ b c|rw h=>simp at a;rcases a with rfl|rfl<;>exact lI h _ b c|D9 h=>simp[semEvents]at a;rcases a with rfl|rfl|rfl|rfl<;>first|exact lI h _ b c|exact yX rfl
theorem cv.OW(h:cv C es)(b:C.mu<B)(c:C.wg<B):∀e∈es,Ev0 C Shun A B e:=by intro e a;cases h with|nil=>simp at a|rd h=>simp at a;subst a;exact lJ h _ b c|wr h=>simp at a;subst a;exact lJ h _ b c|rw h=>simp at a;rcases a with rfl|rfl<;>exact lJ h _ b c|D9 h=>simp[semEvents]at a;rcases a with rfl|rfl|rfl|rfl<;>first|exact lJ h _ b c|exact pC rfl
theorem cv.deaf(h:cv C es)(d:Nat):Vb d es=d:=by cases h<;>simp[Vb,Go.ConcR.rd,Go.ConcR.wr,semEvents]
theorem cv.still(h:cv C es){d:Nat}(hd:0<d):∀j e,es[j]?=UG e->(Ve.ofEvent e).touch?=UM\/((∃b wr,e=⟨.cell b,wr,UJ⟩)/\0<Vb d (es.extract 0 j)):=by intro j e a;cases h with|nil=>simp at a|rd h=>(match j,a with|0,a=>simp at a;subst a;exact .inr ⟨⟨_,_,rfl⟩,by assumption⟩|j+1,a=>simp at a)|wr h=>(match j,a with|0,a=>simp at a;subst a;exact .inr ⟨⟨_,_,rfl⟩,by assumption⟩|j+1,a=>simp at a)|rw h=>(match j,a with|0,a=>simp at a;subst a;exact .inr ⟨⟨_,_,rfl⟩,by assumption⟩|1,a=>simp at a;subst a;exact .inr ⟨⟨_,_,rfl⟩,by assumption⟩|j+2,a=>simp at a)|D9 h=>match j,a with|0,a=>simp[semEvents]at a;subst a;exact .inl rfl|1,a=>simp[semEvents]at a;subst a;exact .inr ⟨⟨_,_,rfl⟩,by simp[Vb,semEvents]⟩|2,a=>simp[semEvents]at a;subst a;exact .inr ⟨⟨_,_,rfl⟩,by simp[Vb,semEvents]⟩|3,a=>simp[semEvents]at a;subst a;exact .inl rfl|j+4,a=>simp[semEvents]at a
end
end Go.Cr
namespace Go.Cr
open Go.Conc Go.Mx Go.Rk
open Go.ConcR(KK WgAt wgBlock stA smA rd wr mk)
open Go.ConcM(OsLater)
variable{S Q:UP->UL->Prop}{H:Wd->Bool->Bool->Nat->UP->UL->Prop}{it:Nat}
section
inductive Pl
 |cH(m:Md)
 |fg(θ:Th)(it:Nat)
 |pf(o:Wd)(aw st:Bool)(it:Nat)
 |hd(o:Wd)(aw st:Bool)(it:Nat)
 |xr(o:Wd)
 |uw(θ:Th)
 |d2|d3|d4|quit
def Pl.th:Pl->Th
 |.cH m=>if m.hold then .hold else .out
 |.fg θ _=>θ
 |.pf o aw st _=>.ca o aw st
 |.hd o aw st _=>.ca o aw st
 |.xr o=>.uc o
 |.uw θ=>θ
 |_=>.out
def Pl.tok:Pl->Bool
 |.cH m=>m.tok
 |_=>Ul
def Pl.said:Pl->Bool
 |.cH m=>m.said
 |.d2|.d3|.d4|.quit=>UJ
 |_=>Ul
def Pl.eP:Pl->Bool
 |.d2|.d3|.d4|.quit=>Ul
 |_=>UJ
def jc:Pl->Bool
 |.d4=>UJ
 |_=>Ul
def Pl.last:Pl->Bool
 |.d2|.d3|.d4=>UJ
 |_=>Ul
variable(C:Cx)(i:Nat)(own:Nat->Prop)
def Pf(H:Wd->Bool->Bool->Nat->UP->UL->Prop)(Q:UP->UL->Prop):Th->Nat->UP->UL->Prop
 |.ld aw st,it=>ub C i own H aw st it
 |.sq,_=>Dl C i own H Q
 |.t2,_=>Jn C i own H Q
 |.a1 o st,_=>AtA1 C i Q o st
 |_,_=>λ_ _=>False
def Ro(HU:Wd->UP->UL->Prop)(Q:UP->UL->Prop):Th->UP->UL->Prop
 |.uc o=>C0 C i own HU Q o
 |.ux=>KC C i own HU Q
 |.us=>Br C i own Q
 |.out=>Q
 |_=>λ_ _=>False
inductive WSit:Pl->Rk Ix->Nat->(Nat->Prop)->Nat->UP->UL->Prop
 |cH{m:Md}{ρ:Rk Ix}{own:Nat->Prop}{g:UP}{w:UL}:fK C i 0 m ρ own g w->WSit (.cH m) ρ 0 own m.deaf.toNat g w
 |fg{own:Nat->Prop}{g:UP}{w:UL}{θ:Th}{it n:Nat}{f:Ix->Rk Ix}(H:Wd->Bool->Bool->Nat->UP->UL->Prop)(Q:UP->UL->Prop):
  (∀g v1 v2,Q g v1->Env C i own v1 v2->Q g v2)->jd C i own H Q->cG C i own (Pf C i own H Q θ it) n g w->(∀g' v1,Env C i own w v1->Q g' v1->fK C i 0 .mb (f (g',v1,v1)) own g' v1)->it<=4->WSit (.fg θ it) (.s f) n own 1 g w
 |blk{own:Nat->Prop}{g:UP}{w:UL}{it:Nat}{f:Ix->Rk Ix}(H:Wd->Bool->Bool->Nat->UP->UL->Prop)(Q:UP->UL->Prop):
  (∀g v1 v2,Q g v1->Env C i own v1 v2->Q g v2)->jd C i own H Q->(∀v1,Env C i own w v1->Dl C i own H Q g v1)->(∀g' v1,Env C i own w v1->Q g' v1->fK C i 0 .mb (f (g',v1,v1)) own g' v1)->it<=4->
  WSit (.fg .sq it) (.s f) 0 own 1 {g with status:=.blocked} w
 |pf{own:Nat->Prop}{g:UP}{w:UL}{o:Wd}{aw st:Bool}{it n:Nat}{f:Ix->Rk Ix}(H:Wd->Bool->Bool->Nat->UP->UL->Prop)(Q:UP->UL->Prop):
  (∀g v1 v2,Q g v1->Env C i own v1 v2->Q g v2)->jd C i own H Q->cG C i own (H o aw st it) n g w->(∀g' v1,Env C i own w v1->Q g' v1->fK C i 0 .mb (f (g',v1,v1)) own g' v1)->it<=4->o.n<100000000->((aw=UJ->o.W=UJ)/\(st=UJ->aw=UJ))->WSit (.pf o aw st it) (.s f) n own 1 g w
 |hd{own:Nat->Prop}{g:UP}{w:UL}{o:Wd}{aw st:Bool}{it n:Nat}{f:Ix->Rk Ix}(H:Wd->Bool->Bool->Nat->UP->UL->Prop)(Q:UP->UL->Prop):
  (∀g v1 v2,Q g v1->Env C i own v1 v2->Q g v2)->jd C i own H Q->cG C i own (gS C i own H Q o aw st it) n g w->(∀g' v1,Env C i own w v1->Q g' v1->fK C i 0 .mb (f (g',v1,v1)) own g' v1)->it<=4->WSit (.hd o aw st it) (.s f) n own 1 g w
 |xr{own:Nat->Prop}{g:UP}{w:UL}{o:Wd}{n:Nat}{f:Ix->Rk Ix}(HU:Wd->UP->UL->Prop)(Q:UP->UL->Prop):
  (∀g v1 v2,Q g v1->Env C i own v1 v2->Q g v2)->A8 C i own HU Q->cG C i own (HU o) n g w->(∀g' v1,Env C i own w v1->Q g' v1->fK C i 0 .bE (f (g',v1,v1)) own g' v1)->(o.L=Ul/\o.W=Ul/\o.S=Ul/\o.n≠0/\o.n<100000000)->WSit (.xr o) (.s f) n own 1 g w
 |uw{own:Nat->Prop}{g:UP}{w:UL}{θ:Th}{n:Nat}{f:Ix->Rk Ix}(HU:Wd->UP->UL->Prop)(Q:UP->UL->Prop):
  (∀g v1 v2,Q g v1->Env C i own v1 v2->Q g v2)->A8 C i own HU Q->cG C i own (Ro C i own HU Q θ) n g w->(∀g' v1,Env C i own w v1->Q g' v1->fK C i 0 .bE (f (g',v1,v1)) own g' v1)->WSit (.uw θ) (.s f) n own 1 g w
 |d2{own:Nat->Prop}{g:UP}{w:UL}{n:Nat}:cG C i own (AtD2 C i own) n g w->WSit .d2 .z n own 1 g w
 |d3{own:Nat->Prop}{g:UP}{w:UL}{n:Nat}:cG C i own (AtD3 C i own) n g w->WSit .d3 .z n own 1 g w
 |d4{own:Nat->Prop}{g:UP}{w:UL}{n:Nat}:cG C i own (AtD4 C i) n g w->WSit .d4 .z n own 1 g w
 |quit{own:Nat->Prop}{g:UP}{w:UL}{n d:Nat}:QuitsD C.P n d g->WSit .quit .z n own d g w
inductive oE
 |cH(m:Md)(j:Nat)
 |wA|w1|w2(vs:Nat)|wr|w3|w4|ke|aq
inductive gf:oE->Rk Ix->Nat->(Nat->Prop)->UP->UL->Prop
 |cH{m:Md}{j:Nat}{f:Ix->Rk Ix}{own:Nat->Prop}{g:UP}{w:UL}:fK C 0 j m (.s f) own g w->gf (.cH m j) (.s f) 0 own g w
 |wA{own:Nat->Prop}{g:UP}{w:UL}{n:Nat}(A:UP->UL->Prop):yB C 0 own A->cG C 0 own A n g w->gf .wA .z n own g w
 |w1{own:Nat->Prop}{g:UP}{w:UL}{n:Nat}(A:UP->UL->Prop):yB C 0 own A->cG C 0 own (AtW1 C 0 own A) n g w->gf .w1 .z n own g w
 |w2{own:Nat->Prop}{g:UP}{w:UL}{n vs:Nat}(A:UP->UL->Prop):vs≠0->yB C 0 own A->cG C 0 own (AtW2 C 0 own A vs) n g w->gf (.w2 vs) .z n own g w
 |wr{own:Nat->Prop}{g:UP}{w:UL}{n:Nat}:cG C 0 own (P5 C 0 own) n g w->gf .wr .z n own g w
 |w3{own:Nat->Prop}{g:UP}{w:UL}{n:Nat}:cG C 0 own (AtW3 C 0 own) n g w->gf .w3 .z n own g w
 |blk{own:Nat->Prop}{g:UP}{w:UL}:(∀v1,Env C 0 own w v1->AtW3 C 0 own g v1)->gf .w3 .z 0 own {g with status:=.blocked} w
 |w4{own:Nat->Prop}{g:UP}{w:UL}{n:Nat}:cG C 0 own (AtW4 C 0 own) n g w->gf .w4 .z n own g w
 |ke{own:Nat->Prop}{g:UP}{w:UL}{n:Nat}:cG C 0 own (AtKe C 0 own) n g w->gf .ke .z n own g w
 |aq{own:Nat->Prop}{g:UP}{w:UL}{n:Nat}:cG C 0 own (AtAcq C 0) n g w->gf .aq .z n own g w
def oE.deaf:oE->Nat
 |.cH m _=>m.deaf.toNat
 |.aq=>0
 |_=>1
def oE.started(n:Nat):oE->Nat
 |.cH _ j=>j/2
 |_=>n
def oE.pend:oE->Nat
 |.cH _ j=>j%2
 |_=>0
variable{C i own}{pl:Pl}{ρ:Rk Ix}{n d:Nat}{g:UP}{w w1:UL}
def qD(C:Cx)(pl:Pl)(own:Nat->Prop):Nat->Prop:=λk=>own k\/(pl.tok=UJ/\k=C.mm)
theorem Env.QR(h:Env C i (qD C pl own) w w1):Env C i own w w1:=h.sub λ_ a=>.inl a
theorem WSit.env(h:WSit C i pl ρ n own d g w)(o:Env C i (qD C pl own) w w1):WSit C i pl ρ n own d g w1:=by have j:=o.QR;cases h with|cH h=>exact .cH (h.env o)|fg H Q a b c e f=>exact .fg H Q a b (c.rely bG j) (λm x k=>e m x (j.trans k)) f|blk H Q a b c e f=>exact .blk H Q a b (λx k=>c x (j.trans k)) (λm x k=>e m x (j.trans k)) f|pf H Q a b c e f l p=>exact .pf H Q a b (c.rely bG j) (λm x k=>e m x (j.trans k)) f l p|hd H Q a b c e f=>exact .hd H Q a b (c.rely bG j) (λm x k=>e m x (j.trans k)) f|xr H Q a b c e f=>exact .xr H Q a b (c.rely bG j) (λm x k=>e m x (j.trans k)) f|uw H Q a b c e=>exact .uw H Q a b (c.rely bG j) (λm x k=>e m x (j.trans k))|d2 a=>exact .d2 (a.rely bG j)|d3 a=>exact .d3 (a.rely bG j)|d4 a=>exact .d4 (a.rely bG j)|quit a=>exact .quit a
theorem gf.env{pl:oE}(h:gf C pl ρ n own g w)(c:Env C 0 own w w1)(e:∀m j,pl=.cH m j->m.tok=Ul):gf C pl ρ n own g w1:=by cases h with|cH h=>exact .cH (h.env (c.Kz (e _ _ rfl)))|wA A a b=>exact .wA A a (b.rely bG c)|w1 A a b=>exact .w1 A a (b.rely bG c)|w2 A z a b=>exact .w2 A z a (b.rely bG c)|wr a=>exact .wr (a.rely bG c)|w3 a=>exact .w3 (a.rely bG c)|blk a=>exact .blk λx f=>a x (c.trans f)|w4 a=>exact .w4 (a.rely bG c)|ke a=>exact .ke (a.rely bG c)|aq a=>exact .aq (a.rely bG c)
theorem ai(a:∀g w,S g w->g.status=.running)(h:cG C i own S n g w):g.status=.running:=Goes.running (λg w x=>a g w x) w Env.refl h
theorem fZ{θ:Th}(h:Pf C i own H Q θ it g w):g.status=.running:=by cases θ<;>first|exact h.1|exact h.elim
theorem dZ{o:Wd}{aw st:Bool}(h:gS C i own H Q o aw st it g w):g.status=.running:=by rcases h with h|h|h;{exact h.2.1};{exact h.2.2.2.2.2.2.1};exact h.1
theorem az(h:cG C i own S n g w):(∀w1,Env C i own w w1->S g w1)\/∃a,n=a+1/\g.status=.running/\∀w1,Env C i own w w1->(UY C.P (i==0) g w1).goes λg' w' es=>DL w1 w' es/\cG C i own S a g' w':=by cases n with|zero=>exact .inl h|succ a=>rcases h with h|⟨b,c⟩;{grind};simp_all
end
end Go.Cr
namespace Go.Cr
open Go.Conc Go.Mx Go.Rk
open Go.ConcR(KK WgAt wgBlock stA smA rd wr mk)
open Go.ConcM(OsLater)
open Go.ConcN(sumTo)
variable{j b j':Nat}{pl:oE}{P:Program}{a a':UP}{w2:UL}
section
structure WD where
 pl:Pl
 rk:Rk Ix
 fu:Nat
 own:Nat->Prop
structure Cf where
 gs:Array UP
 w:UL
 t:VE
 D:Nat->WD
 mp:oE
 oy:Rk Ix
 rj:Nat
 eE:Nat->Prop
 q:Nat->Nat
 df:Nat->Nat
 wd:Wd
 ms:Nat
 o:Option Nat
variable(C:Cx)(Shun:Loc->Prop)(S:Cf)
def Cf.jn:Nat:=S.mp.started C.n
def Cf.vc:Nat:=sumTo (S.jn C) λj=>(S.D j).pl.eP.toNat
def Cf.cD:Prop:=∀j,j<S.jn C->(S.D j).pl.last=Ul
def Cf.AA(k b:Nat):Prop:=∃j,j<S.jn C/\k=C.base+j/\(S.D j).own b
def Cf.rl(k:Nat):Prop:=∃j,j<S.jn C/\k=C.base+j/\(S.D j).pl.said=UJ
def Cf.ff(mp:oE)(w:UL):Prop:=match mp with
 |.wr|.w3=>(1<=S.vc C/\S.cD C/\WgAt C.tW C.wg w (S.vc C*KK+1) 0)\/
  (S.vc C=0/\(∃L,L<S.jn C/\(S.D L).pl.last=UJ/\(∀j,j<S.jn C->j≠L->(S.D j).pl.last=Ul)/\WgAt C.tW C.wg w (if jc (S.D L).pl=UJ then 0 else 1) 0))\/
  (S.vc C=0/\S.cD C/\WgAt C.tW C.wg w 0 1)
 |.w4|.ke|.aq=>S.vc C=0/\S.cD C/\WgAt C.tW C.wg w 0 0
 |m=>WgAt C.tW C.wg w ((S.vc C+m.pend:Nat)*KK) 0/\S.cD C
def Cf.gL:Prop:=S.ff C S.mp S.w
structure Ok:Prop where
 size:S.gs.size=C.base+S.jn C
 cR:S.jn C<=C.n
 main:∃g,S.gs[0]?=UG g/\gf C S.mp S.oy S.rj S.eE g S.w
 J6:S.df 0=S.mp.deaf
 mode:∀m j,S.mp=.cH m j->m.tok=Ul/\m.hold=Ul/\m.said=Ul
 old:∀i,0<i->i<C.base->∃g,S.gs[i]?=UG g/\QuitsD C.P (S.q i) (S.df i) g
 wk:∀j,j<S.jn C->∃g,S.gs[C.base+j]?=UG g/\WSit C (C.base+j) (S.D j).pl (S.D j).rk (S.D j).fu (S.D j).own (S.df (C.base+j)) g S.w
 yZ:∀j,S.jn C<=j->(S.D j).pl=.cH .free/\(S.D j).fu=0
 aJ:da C S.w
 w0:W0 C S.w
 word:bW C S.w S.wd S.ms
 inv:Inv (λj=>(S.D j).pl.th) C.n S.wd S.ms
 gL:S.gL C
 dI:S.o=UM->au C S.w
 fin:∀j,j<S.jn C->(S.D j).pl.said=UJ->Fin C (C.base+j) S.w
 AW:∀j g,j<S.jn C->S.gs[C.base+j]?=UG g->g.status=.blocked->S.ms=0
 Hc:∀g,S.gs[0]?=UG g->g.status=.blocked->∃st,WgAt C.tW C.wg S.w st 0
 tok:∀j,j<S.jn C->((S.D j).pl.tok=UJ↔S.o=UG (C.base+j))
 hold:∀j,j<S.jn C->(S.D j).pl.tok=UJ->(S.D j).pl.th=.hold
 y6:∀k,S.o=UG k->∃j,j<S.jn C/\k=C.base+j
 ti:TI C Shun (S.AA C) S.o S.df (S.rl C) S.gs.size S.w.heap.size S.t
 nJ:CF C Shun (S.AA C) S.w.heap.size
 nH:qj C Shun S.w.heap.size
 mo:∀b,S.eE b->b<S.w.heap.size/\b≠C.mu/\b≠C.mm/\b≠C.wg/\b≠C.out/\¬C.RO b/\(∀l,Shun l->¬dn b l)/\∀k,¬S.AA C k b
 ro:∀b,C.RO b->b<S.w.heap.size
 mm:C.mm<S.w.heap.size
structure Fx:Prop where
 ok:C.Ok
 base:1<=C.base
 n:C.n<1000000
 alone:¬C.solo
 tA:C.tA=Go.ConcR.wgBlock C.tW
 R6:∀k o,C.oc k o->∃j,j<C.n/\k=C.base+j
variable{C Shun S}
theorem Ok.iF(h:Ok C Shun S):C.mu<S.w.heap.size:=(jf h.aJ).1
theorem Ok.iz(h:Ok C Shun S):C.wg<S.w.heap.size:=(jf h.aJ).2.1
theorem Ok.tf(h:Ok C Shun S):C.out<S.w.heap.size:=(jf h.aJ).2.2
theorem Ok.iO(h:Ok C Shun S){b:Nat}(k:j<S.jn C)(i:(S.D j).own b):b<S.w.heap.size/\b≠C.mu/\b≠C.mm/\b≠C.wg/\b≠C.out/\¬C.RO b:=by have a:S.AA C (C.base+j) b:=⟨j,k,rfl,i⟩;obtain⟨c,d,e,f,g,_⟩:=h.nJ.sh _ _ a;exact⟨h.nJ.lt _ _ a,c,d,e,f,g⟩
theorem Ok.LI(h:Ok C Shun S){b:Nat}(e:j<S.jn C)(c:j'<S.jn C)(f:j'≠j)(d:(S.D j').own b):¬(S.D j).own b:=λa=>by have:=h.nJ.zv (C.base+j) (C.base+j') b ⟨j,e,rfl,a⟩ ⟨j',c,rfl,d⟩;omega
theorem Ok.IB(h:Ok C Shun S)(c:j<S.jn C)(a:j'<S.jn C)(d:(S.D j).pl.tok=UJ)(b:(S.D j').pl.tok=UJ):j=j':=by have:=(h.tok j c).1 d;rw[(h.tok j' a).1 b]at this;simp_all
variable{i n d:Nat}{pl:Pl}{ρ:Rk Ix}{own:Nat->Prop}{g g' b:UP}{w w':UL}
theorem oA(c:g.status=.running\/g.status=.finished):woken P a a' w g=g:=by unfold woken;split;{exact again_running _ c};rfl
theorem WSit.status(h:WSit C i pl ρ n own d g w):g.status=.running\/g.status=.finished\/(g.status=.blocked/\pl.th=.sq):=by cases h with|cH h=>rcases h.running with x|⟨n,A,x,y⟩;{grind};refine .inl ?_;rcases az x with j|⟨_,_,o,_⟩;{obtain⟨m,k⟩:=y _ _ (j _ .refl);exact ai (λ_ _ z=>z.1) k};exact o|fg H Q a b c e f=>exact .inl (ai (λ_ _ z=>fZ z) c)|blk H Q a b c e f=>exact .inr (.inr ⟨rfl,rfl⟩)|pf H Q a b c e f l q=>rcases az c with j|⟨_,_,o,_⟩;{obtain⟨m,k⟩:=b _ _ _ _ _ _ f q.1 q.2 l (j _ .refl);exact .inl (ai (λ_ _ z=>dZ z) k)};simp_all|hd H Q a b c e f=>exact .inl (ai (λ_ _ z=>dZ z) c)|xr r Q a b c e f=>rcases az c with j|⟨_,_,o,_⟩;{obtain⟨m,k⟩:=b _ _ _ f.1 f.2.1 f.2.2.1 f.2.2.2.1 f.2.2.2.2 (j _ .refl);exact .inl (ai (λ_ _ z=>z.1) k)};simp_all|@uw own g w t n f r Q a b c e=>(have s:∀g' p,Env C i own w p->Q g' p->g'.status=.running:=λg' p x y=>by rcases(e g' p x y).running with z|⟨n,A,z,y⟩;{exact z};rcases az z with j|⟨_,_,o,_⟩;{obtain⟨m,k⟩:=y _ _ (j _ .refl);exact ai (λ_ _ z=>z.1) k};exact o);rcases az c with j|⟨_,_,o,_⟩;{have:=j _ .refl;cases t<;>first|exact .inl this.1|exact this.elim|exact .inl (s _ _ .refl this)};simp_all|d2 h=>exact .inl (ai (λ_ _ z=>z.1) h)|d3 h=>exact .inl (ai (λ_ _ z=>z.1) h)|d4 h=>exact .inl (ai (λ_ _ z=>z.1) h)|quit h=>exact h.status.imp id .inl
theorem WSit.woken(h:WSit C i pl ρ n own d g w):WSit C i pl ρ n own d (Go.Conc.woken P a a' w2 g) w:=by rcases h.status with j|j|⟨j,_⟩;{rw[oA (.inl j)];exact h};{rw[oA (.inr j)];exact h};cases h with|@blk own g w B f H Q q r k s t=>have u:=k w .refl;unfold Go.Conc.woken;split;{rw[Go.ConcX.again_blocked u.1 u.2.1];exact .fg H Q q r k s t};exact .blk H Q q r k s t|cH h=>rcases(WSit.cH h).status with x|x|x;{simp_all};{simp_all};simp only[Pl.th]at x;grind|fg H Q a b c e f=>rw[ai (λ_ _ z=>fZ z) c]at j;cases j|pf H Q a b c e f l y=>rcases(WSit.pf H Q a b c e f l y).status with x|x|⟨_,x⟩;{simp_all};{simp_all};cases x|hd H Q a b c e f=>rw[ai (λ_ _ z=>dZ z) c]at j;cases j|xr H Q a b c e f=>rcases(WSit.xr H Q a b c e f).status with x|x|⟨_,x⟩;{simp_all};{simp_all};cases x|uw v Q a b c e=>rcases(WSit.uw v Q a b c e).status with x|x|x;{simp_all};{simp_all};obtain⟨_,x⟩:=x;subst x;rcases az c with o|⟨_,_,A,_⟩;{exact(o _ .refl).elim};simp_all|d2 h=>rw[ai (λ_ _ z=>z.1) h]at j;cases j|d3 h=>rw[ai (λ_ _ z=>z.1) h]at j;cases j|d4 h=>rw[ai (λ_ _ z=>z.1) h]at j;cases j|quit h=>rcases h.status with x|x<;>rw[x]at j<;>cases j
theorem gf.status{pl:oE}(h:gf C pl ρ n own g w):g.status=.running\/(g.status=.blocked/\pl=.w3):=by cases h with|cH h=>rcases h.running with x|⟨n,A,z,y⟩;{grind};rcases az z with e|⟨_,_,f,_⟩;{obtain⟨m,c⟩:=y _ _ (e _ .refl);exact .inl (ai (λ_ _ z=>z.1) c)};simp_all|wA A a b=>rcases az b with e|⟨_,_,f,_⟩;{obtain⟨m,c⟩:=a _ _ (e _ .refl);exact .inl (ai (λ_ _ z=>z.1) c)};simp_all|w1 A a b=>exact .inl (ai (λ_ _ z=>z.1) b)|w2 A _ a b=>exact .inl (ai (λ_ _ z=>z.1) b)|wr b=>exact .inl (ai (λ_ _ z=>z.1) b)|w3 b=>exact .inl (ai (λ_ _ z=>z.1) b)|blk b=>simp|w4 b=>exact .inl (ai (λ_ _ z=>z.1) b)|ke b=>exact .inl (ai (λ_ _ z=>z.1) b)|aq b=>exact .inl (ai (λ_ _ z=>z.1) b)
theorem gf.woken{pl:oE}(h:gf C pl ρ n own g w):gf C pl ρ n own (Go.Conc.woken P a a' w2 g) w:=by rcases h.status with c|⟨c,rfl⟩;{rw[oA (.inl c)];exact h};cases h with|blk e=>have j:=e w .refl;unfold Go.Conc.woken;split;{rw[Go.ConcX.again_blocked j.1 j.2.1];exact .w3 e};exact .blk e|w3 b=>rw[ai (λ_ _ z=>z.1) b]at c;cases c
end
end Go.Cr
namespace Go.Cr
open Go.Conc Go.Mx Go.Rk
open Go.ConcR(KK WgAt wgBlock stA smA rd wr mk)
open Go.ConcM(OsLater)
open Go.ConcN(sumTo sumTo_upd sumTo_congr)
variable{α:Type}{i a j n:Nat}{gs:Array UP}{w' w:UL}{ρ:Rk Ix}{own:Nat->Prop}{g g':UP}
section
def aI{α:Type}(f:Nat->α)(i:Nat)(x:α):Nat->α:=λk=>if k=i then x else f k
@[simp]theorem fY(f:Nat->α)(i:Nat)(x:α):aI f i x i=x:=by simp[aI]
theorem aH(f:Nat->α){k:Nat}(x:α)(h:k≠i):aI f i x k=f k:=by simp[aI,h]
variable{C:Cx}{Shun:Loc->Prop}{S:Cf}
def Cf.stepW(C:Cx)(S:Cf)(j:Nat)(g g':UP)(w':UL)(u:VE)(x:WD)(d':Nat)(wd':Wd)(ms':Nat)(o':Option Nat):Cf:=
 {S with gs:=(S.gs.map (woken C.P g g' w')).setIfInBounds (C.base+j) g',w:=w',t:=S.t++u,D:=aI S.D j x,df:=aI S.df (C.base+j) d',wd:=wd',ms:=ms',o:=o'}
theorem fp(f:UP->UP){b:Nat}(x:UP)(h:a≠b):((gs.map f).setIfInBounds a x)[b]?=(gs[b]?).map f:=by simp_all
theorem ep(f:UP->UP)(x:UP)(h:a<gs.size):((gs.map f).setIfInBounds a x)[a]?=UG x:=by simp_all
theorem Ok.GF(F:Fx C)(h:Ok C Shun S){j':Nat}(m:j<S.jn C)(i:j'<S.jn C)(l:j'≠j)(o:ma C (C.base+j) (qD C (S.D j).pl (S.D j).own) S.w w'):Env C (C.base+j') (qD C (S.D j').pl (S.D j').own) S.w w':=by refine o.env F.ok Ω (λk g f=>?_) (λk g=>?_) λk g=>⟨h.ro k g,λf=>?_⟩;{rcases g with g|⟨p,rfl⟩;{rcases f with f|⟨_,rfl⟩;{exact h.LI m i l g f};exact(h.iO i g).2.2.1 rfl};rcases f with f|⟨n,_⟩;{exact(h.iO m f).2.2.1 rfl};exact l (h.IB i m p n)};{rcases g with g|⟨_,rfl⟩;{obtain⟨a,b,c,d,e,_⟩:=h.iO i g;omega};exact⟨h.mm,F.ok.lT.symm,F.ok.nO,F.ok.mG⟩};rcases f with f|⟨_,rfl⟩;{exact(h.iO m f).2.2.2.2.2 g};exact(F.ok.ro _ g).2.1 rfl
theorem Ok.GA(F:Fx C)(h:Ok C Shun S)(g:j<S.jn C)(l:ma C (C.base+j) (qD C (S.D j).pl (S.D j).own) S.w w'):Env C 0 S.eE S.w w':=by have n:=F.base;refine l.env F.ok Ω (λk f e=>?_) (λk f=>?_) λk f=>⟨h.ro k f,λe=>?_⟩;{obtain⟨_,_,m,_,_,_,_,i⟩:=h.mo k f;rcases e with e|⟨_,rfl⟩;{exact i (C.base+j) ⟨j,g,rfl,e⟩};omega};{obtain⟨a,b,_,c,d,_⟩:=h.mo k f;omega};rcases e with e|⟨_,rfl⟩;{exact(h.iO g e).2.2.2.2.2 f};exact(F.ok.ro _ f).2.1 rfl
theorem WSit.offers{d:Nat}{pl:Pl}(h:WSit C i pl ρ n own d g w)(j:g.status=.blocked):g.offers=UM:=by cases h with|blk H Q q r o s t=>exact(o w .refl).2.1|cH a=>rcases(WSit.cH a).status with x|x|⟨_,x⟩;{simp_all};{simp_all};simp only[Pl.th]at x;grind|fg H Q a b c e f=>rw[ai (λ_ _ z=>fZ z) c]at j;cases j|pf H Q a b c e f l p=>rcases(WSit.pf H Q a b c e f l p).status with x|x|⟨_,x⟩;{simp_all};{simp_all};cases x|hd H Q a b c e f=>rw[ai (λ_ _ z=>dZ z) c]at j;cases j|xr H Q a b c e f=>rcases(WSit.xr H Q a b c e f).status with x|x|⟨_,x⟩;{simp_all};{simp_all};cases x|uw m Q a b c e=>rcases(WSit.uw m Q a b c e).status with x|x|⟨_,x⟩;{simp_all};{simp_all};subst x;rcases az c with k|⟨_,_,u,_⟩;{exact(k _ .refl).elim};simp_all|d2 h=>rw[ai (λ_ _ z=>z.1) h]at j;cases j|d3 h=>rw[ai (λ_ _ z=>z.1) h]at j;cases j|d4 h=>rw[ai (λ_ _ z=>z.1) h]at j;cases j|quit h=>rcases h.status with x|x<;>rw[x]at j<;>cases j
theorem gf.offers{pl:oE}(h:gf C pl ρ n own g w)(a:g.status=.blocked):g.offers=UM:=by rcases h.status with x|⟨_,rfl⟩;{simp_all};cases h with|blk c=>exact(c w .refl).2.1|w3 b=>rw[ai (λ_ _ z=>z.1) b]at a;cases a
theorem gq{P:Program}{b:UP}(d:b.status=.blocked->b.offers=UM)(c:(woken P g g' w' b).status=.blocked):b.status=.blocked/\¬(mayWake P g=UJ/\g'.status=.running):=by unfold woken at c;split at c;{revert c;cases a:b.status with|blocked=>simp only[UP.again,a,d a];simp|waiting=>simp[UP.again,a]|_=>simp[UP.again,a]};grind
theorem W0.step{i:Nat}{own:Nat->Prop}{w w':UL}(h:W0 C w)(a:ma C i own w w'):W0 C w':=⟨h.os.trans a.os,a.out.trans h.out,a.tape.trans h.tape⟩
theorem Ok.stepW(F:Fx C)(h:Ok C Shun S)(R:j<S.jn C){u:VE}{x:WD}{d':Nat}{wd':Wd}{ms':Nat}{o':Option Nat}(hg:S.gs[C.base+j]?=UG g)(o:ma C (C.base+j) (qD C (S.D j).pl (S.D j).own) S.w w')(I:∀b,x.own b↔(S.D j).own b\/(S.w.heap.size<=b/\b<w'.heap.size))(J:WSit C (C.base+j) x.pl x.rk x.fu x.own d' g' w')(V:TI C Shun ((S.stepW C j g g' w' u x d' wd' ms' o').AA C) o' (aI S.df (C.base+j) d') ((S.stepW C j g g' w' u x d' wd' ms' o').rl C) S.gs.size w'.heap.size (S.t++u))(W:bW C w' wd' ms')(E:Inv (λk=>(aI S.D j x k).pl.th) C.n wd' ms')(D:(S.stepW C j g g' w' u x d' wd' ms' o').gL C)(y:o'=UM->au C w')(B:x.pl.said=UJ->Fin C (C.base+j) w')(Q:x.pl.tok=UJ->x.pl.th=.hold)(K:x.pl.tok=UJ↔o'=UG (C.base+j))(r:∀k,k≠C.base+j->(o'=UG k↔S.o=UG k))(T:S.ms<ms'->mayWake C.P g=UJ/\g'.status=.running)(A:g'.status=.blocked->ms'=0)(L:∀X,WgAt C.tW C.wg S.w X 0->(∃Y,WgAt C.tW C.wg w' Y 0)\/(mayWake C.P g=UJ/\g'.status=.running)):Ok C Shun (S.stepW C j g g' w' u x d' wd' ms' o'):=by have hb:=F.base;(have H:C.base+j<S.gs.size:=by grind);have n:=o.grow;have jn':(S.stepW C j g g' w' u x d' wd' ms' o').jn C=S.jn C:=rfl;(have t:∀k b,(S.stepW C j g g' w' u x d' wd' ms' o').AA C k b->S.AA C k b\/(k=C.base+j/\S.w.heap.size<=b/\b<w'.heap.size):=by rintro k b⟨c,f,rfl,p⟩;by_cases e:c=j;{subst e;(have p:x.own b:=by simpa[Cf.stepW]using p);rcases(I b).1 p with s|s;{exact .inl ⟨c,f,rfl,s⟩};omega};(have p:(S.D c).own b:=by simpa[Cf.stepW,aH _ _ e]using p);exact .inl ⟨c,f,rfl,p⟩);refine⟨by simp[Cf.stepW,h.size];rfl,h.cR,?_,?_,h.mode,λi f d=>?_,λc f=>?_,λc f=>?_,o.aJ h.aJ,h.w0.step o,W,E,D,y,λc f d=>?_,λc b f d p=>?_,λb d p=>?_,λc f=>?_,λc f d=>?_,λk hk=>?_,?_,?_,?_,λb O=>?_,λb P=>Sn (h.ro b P) n,Sn h.mm n⟩;{obtain⟨a,v,U⟩:=h.main;refine⟨woken C.P g g' w' a,?_,(U.env (h.GA F R o) λm k e=>(h.mode m k e).1).woken⟩;show((S.gs.map _).setIfInBounds (C.base+j) g')[0]?=_;grind};{show aI S.df (C.base+j) d' 0=_;rw[aH _ _ Ω];exact h.J6};{obtain⟨a,v,hq⟩:=h.old i f d;refine⟨woken C.P g g' w' a,?_,?_⟩;{show((S.gs.map _).setIfInBounds (C.base+j) g')[i]?=_;grind};show QuitsD C.P (S.q i) (aI S.df (C.base+j) d' i) _;rw[aH _ _ Ω,woken_quitsD hq];exact hq};{by_cases e:c=j;{subst e;refine⟨g',ep _ _ H,?_⟩;show WSit C _ (aI S.D c x c).pl _ _ _ (aI S.df _ d' _) g' w';simp only[Cf.stepW,fY];exact J};obtain⟨a,v,U⟩:=h.wk c f;refine⟨woken C.P g g' w' a,?_,?_⟩;{show((S.gs.map _).setIfInBounds (C.base+j) g')[C.base+c]?=_;grind};show WSit C _ (aI S.D j x c).pl (aI S.D j x c).rk (aI S.D j x c).fu (aI S.D j x c).own (aI S.df (C.base+j) d' (C.base+c)) _ w';rw[aH _ _ e,aH _ _ Ω];exact(U.env (h.GF F R f e o)).woken};{(have e:c≠j:=by omega);show(aI S.D j x c).pl=_/\(aI S.D j x c).fu=0;rw[aH _ _ e];exact h.yZ c f};{by_cases e:c=j;{subst e;exact B (by simpa[Cf.stepW]using d)};(have d:(S.D c).pl.said=UJ:=by simpa[Cf.stepW,aH _ _ e]using d);exact(h.fin c f d).env (h.GF F R f e o)};{by_cases e:c=j;{subst e;have d:((S.gs.map _).setIfInBounds (C.base+c) g')[C.base+c]?=UG b:=d;rw[ep _ _ H]at d;cases d;exact A p};have d:((S.gs.map _).setIfInBounds (C.base+j) g')[C.base+c]?=UG b:=d;rw[fp _ _ Ω]at d;obtain⟨a,v,rfl⟩:=St.1 d;obtain⟨a',q,z⟩:=h.wk c f;rw[v]at q;cases q;obtain⟨s,w⟩:=gq (λx=>z.offers x) p;have M:=h.AW c a f v s;have:¬S.ms<ms':=λx=>w (T x);show ms'=0;omega};{have d:((S.gs.map _).setIfInBounds (C.base+j) g')[0]?=UG b:=d;rw[fp _ _ Ω]at d;obtain⟨a,v,rfl⟩:=St.1 d;obtain⟨a',q,z⟩:=h.main;rw[v]at q;cases q;obtain⟨s,w⟩:=gq (λx=>z.offers x) p;obtain⟨X,M⟩:=h.Hc a v s;exact(L X M).resolve_right w};{by_cases e:c=j;{subst e;show(aI S.D c x c).pl.tok=UJ↔_;rw[fY];exact K};show(aI S.D j x c).pl.tok=UJ↔o'=UG (C.base+c);rw[aH _ _ e,r _ Ω];exact h.tok c f};{by_cases e:c=j;{subst e;have d:(aI S.D c x c).pl.tok=UJ:=d;show(aI S.D c x c).pl.th=.hold;simp_all};have d:(aI S.D j x c).pl.tok=UJ:=d;show(aI S.D j x c).pl.th=.hold;rw[aH _ _ e]at d⊢;exact h.hold c f d};{by_cases e:k=C.base+j;{simp_all};exact h.y6 k ((r k e).1 hk)};{(have:(S.stepW C j g g' w' u x d' wd' ms' o').gs.size=S.gs.size:=by simp[Cf.stepW]);rw[this];exact V};{refine⟨λk k' b f d=>?_,λk b f=>?_,λk b f=>?_⟩;{rcases t k b f with p|⟨p,s,_⟩<;>rcases t k' b d with w|⟨w,M,_⟩;{exact h.nJ.zv _ _ _ p w};{have:=h.nJ.lt _ _ p;omega};{have:=h.nJ.lt _ _ w;omega};omega};{rcases t k b f with p|⟨_,_,s⟩;{exact Sn (h.nJ.lt _ _ p) n};exact s};rcases t k b f with p|⟨_,s,_⟩;{exact h.nJ.sh _ _ p};have Z:=h.iF;have a2:=h.iz;have a3:=h.tf;have a4:=h.mm;exact⟨by omega,by omega,by omega,by omega,λhr=>by have:=h.ro b hr;omega,λl hl N=>by have:=h.nH.lt l b hl N;omega⟩};{exact⟨λl b f d=>Sn (h.nH.lt l b f d) n,h.nH.sh,h.nH.cell⟩};obtain⟨Z,a2,a3,a4,a5,a6,a7,a8⟩:=h.mo b O;refine⟨Sn Z n,a2,a3,a4,a5,a6,a7,λk hk=>?_⟩;grind
end
end Go.Cr
namespace Go.Cr
open Go.Conc Go.Mx Go.Rk
open Go.ConcN(sumTo sumTo_upd sumTo_congr)
variable{n j:Nat}
section
def pY(wd:Wd):Pl->Nat
 |.fg (.ld _ _) it=>10*(4-it)+5
 |.pf o _ _ it=>if o=wd then 10*(4-it)+4 else 10*(4-it)+8
 |.hd o _ _ it=>if o=wd then 10*(4-it)+3 else 10*(4-it)+7
 |.fg .t2 _=>46
 |.fg (.a1 _ _) _=>1
 |.xr o=>if o=wd then 2 else 7
 |.uw (.uc o)=>if o=wd then 1 else 6
 |.uw .ux=>5
 |.d2=>3
 |.d3=>2
 |.d4=>1
 |_=>0
def mpr(vc:Nat):oE->Nat
 |.wA=>20
 |.w1=>19
 |.w2 vs=>if vs=vc then 10 else 21
 |.wr=>9
 |.w3=>8
 |.w4=>7
 |.ke=>6
 |.aq=>5
 |.cH _ _=>0
def uu:Pl->Bool
 |.fg .sq _=>UJ
 |_=>Ul
def isW3:oE->Bool
 |.w3=>UJ
 |_=>Ul
def run?(g:Option UP):Bool:=g.any λg=>g.status==.running
abbrev Mu:=Rk Ix×((Nat->Rk Ix)×(Nat×(Nat×(Nat×Nat))))
abbrev BB:WellFoundedRelation Nat:=Nat.lt_wfRel
abbrev Lh(n:Nat):WellFoundedRelation Mu:=Prod.lex ⟨_,Lt.wf⟩ (Prod.lex ⟨_,N0.wf n⟩ (Prod.lex BB (Prod.lex BB (Prod.lex BB BB))))
def iX(n:Nat):Mu->Mu->Prop:=(Lh n).rel
theorem iX.wf(n:Nat):WellFounded (iX n):=(Lh n).wf
section
variable{a a':Rk Ix}{V V':Nat->Rk Ix}{m m' p p' f f' s s':Nat}
theorem iX.main(h:DJ a' a):iX n (a',V',m',p',f',s') (a,V,m,p,f,s):=Prod.Lex.left _ _ h
theorem iX.PH(h:N0 n V' V):iX n (a,V',m',p',f',s') (a,V,m,p,f,s):=Prod.Lex.right _ (Prod.Lex.left _ _ h)
theorem iX.mu(h:m'<m):iX n (a,V,m',p',f',s') (a,V,m,p,f,s):=Prod.Lex.right _ (Prod.Lex.right _ (Prod.Lex.left _ _ h))
theorem iX.pr(b:m'<=m)(h:p'<p):iX n (a,V,m',p',f',s') (a,V,m,p,f,s):=by rcases TL b with c|rfl;{exact .mu c};exact Prod.Lex.right _ (Prod.Lex.right _ (Prod.Lex.right _ (Prod.Lex.left _ _ h)))
theorem iX.fu(h:f'<f):iX n (a,V,m,p,f',s') (a,V,m,p,f,s):=Prod.Lex.right _ (Prod.Lex.right _ (Prod.Lex.right _ (Prod.Lex.right _ (Prod.Lex.left _ _ h))))
theorem iX.sq(h:s'<s):iX n (a,V,m,p,f,s') (a,V,m,p,f,s):=Prod.Lex.right _ (Prod.Lex.right _ (Prod.Lex.right _ (Prod.Lex.right _ (Prod.Lex.right _ h))))
end
variable(C:Cx)(S:Cf)
def Cf.QP:Nat:=sumTo C.n (λj=>(uu (S.D j).pl&&run? S.gs[C.base+j]?).toNat)+(isW3 S.mp&&run? S.gs[0]?).toNat
def Cf.mu:Mu:=
 (S.oy,λj=>(S.D j).rk,sumTo C.n (λj=>wt (S.D j).pl.th)+3*S.ms,mpr (S.vc C) S.mp+sumTo C.n (λj=>pY S.wd (S.D j).pl),
  S.rj+sumTo C.n (λj=>(S.D j).fu)+sumTo C.base S.q,S.QP C)
variable{C S}{g g':UP}{w':UL}{u:VE}{x:WD}{d':Nat}{wd':Wd}{ms':Nat}{o':Option Nat}
theorem nu(D:Nat->WD)(x:WD)(a:WD->Nat)(h:j<n):sumTo n (λk=>a (aI D j x k))+a (D j)=sumTo n (λk=>a (D k))+a x:=sumTo_upd D x a h
theorem kP(h:(S.D j).pl.eP=x.pl.eP):(S.stepW C j g g' w' u x d' wd' ms' o').vc C=S.vc C:=by unfold Cf.vc;show sumTo (S.jn C) (λk=>(aI S.D j x k).pl.eP.toNat)=_;refine sumTo_congr λk _=>?_;by_cases e:k=j;{simp_all};rw[aH _ _ e]
theorem dJ(a:j<C.n)(h:DJ x.rk (S.D j).rk):iX C.n ((S.stepW C j g g' w' u x d' wd' ms' o').mu C) (S.mu C):=by refine iX.PH ⟨j,a,?_,λk b=>?_⟩;{show DJ (aI S.D j x j).rk _;simp_all};show(aI S.D j x k).rk=_;rw[aH _ _ b]
theorem rN(h:x.rk=(S.D j).rk):(λk=>(aI S.D j x k).rk)=λk=>(S.D k).rk:=by funext k;by_cases e:k=j;{simp_all};rw[aH _ _ e]
theorem mS(a:j<C.n)(h:x.rk=(S.D j).rk)(b:wt x.pl.th+3*ms'<wt (S.D j).pl.th+3*S.ms):iX C.n ((S.stepW C j g g' w' u x d' wd' ms' o').mu C) (S.mu C):=by have:=nu S.D x (λd=>wt d.pl.th) a;unfold Cf.mu;show iX C.n (S.oy,(λk=>(aI S.D j x k).rk),_) _;rw[rN h];refine iX.mu ?_;show sumTo C.n (λk=>wt (aI S.D j x k).pl.th)+3*ms'<_;omega
theorem gu(a:j<C.n)(h:x.rk=(S.D j).rk)(f:wt x.pl.th<=wt (S.D j).pl.th)(b:(S.D j).pl.eP=x.pl.eP)(i:pY S.wd x.pl<pY S.wd (S.D j).pl):iX C.n ((S.stepW C j g g' w' u x d' S.wd S.ms o').mu C) (S.mu C):=by have c:=nu S.D x (λd=>wt d.pl.th) a;have e:=nu S.D x (λd=>pY S.wd d.pl) a;unfold Cf.mu;show iX C.n (S.oy,(λk=>(aI S.D j x k).rk),_) _;rw[rN h];refine iX.pr ?_ ?_;{show sumTo C.n (λk=>wt (aI S.D j x k).pl.th)+3*S.ms<=_;omega};rw[kP b];show mpr (S.vc C) S.mp+sumTo C.n (λk=>pY S.wd (aI S.D j x k).pl)<_;omega
theorem rF(h:x.pl=(S.D j).pl)(a:Pl->Nat):sumTo C.n (λk=>a (aI S.D j x k).pl)=sumTo C.n (λk=>a (S.D k).pl):=sumTo_congr λk _=>by by_cases e:k=j;{simp_all};rw[aH _ _ e]
theorem rQ(b:j<C.n)(h:x.rk=(S.D j).rk)(a:x.pl=(S.D j).pl)(e:x.fu<(S.D j).fu):iX C.n ((S.stepW C j g g' w' u x d' S.wd S.ms o').mu C) (S.mu C):=by have c:=nu S.D x (λd=>d.fu) b;unfold Cf.mu;show iX C.n (S.oy,(λk=>(aI S.D j x k).rk),sumTo C.n (λk=>wt (aI S.D j x k).pl.th)+3*S.ms,mpr ((S.stepW C j g g' w' u x d' S.wd S.ms o').vc C) S.mp+sumTo C.n (λk=>pY S.wd (aI S.D j x k).pl),_) _;rw[rN h,kP (by rw[a]),rF a (pY S.wd),rF a (λp=>wt p.th)];refine iX.fu ?_;show S.rj+sumTo C.n (λk=>(aI S.D j x k).fu)+sumTo C.base S.q<_;omega
theorem Jv(A:1<=C.base)(o:j<C.n)(h:x.rk=(S.D j).rk)(i:x.pl=(S.D j).pl)(B:x.fu=(S.D j).fu)(v:uu x.pl=UJ)(n:S.gs[C.base+j]?=UG g)(t:g.status=.running)(c:g'.status=.blocked):iX C.n ((S.stepW C j g g' w' u x d' S.wd S.ms o').mu C) (S.mu C):=by have y:=nu S.D x (λd=>d.fu) o;have l:C.base+j<S.gs.size:=(So.1 n).1;(have w:woken C.P g g' w'=id:=by funext b;unfold woken;simp[c]);unfold Cf.mu;show iX C.n (S.oy,(λk=>(aI S.D j x k).rk),sumTo C.n (λk=>wt (aI S.D j x k).pl.th)+3*S.ms,mpr ((S.stepW C j g g' w' u x d' S.wd S.ms o').vc C) S.mp+sumTo C.n (λk=>pY S.wd (aI S.D j x k).pl),S.rj+sumTo C.n (λk=>(aI S.D j x k).fu)+sumTo C.base S.q,_) _;rw[rN h,kP (by rw[i]),rF i (pY S.wd),rF i (λp=>wt p.th),show sumTo C.n (λk=>(aI S.D j x k).fu)=sumTo C.n (λk=>(S.D k).fu)by omega];refine iX.sq ?_;unfold Cf.QP;have a:((S.gs.map (woken C.P g g' w')).setIfInBounds (C.base+j) g')[C.base+j]?=UG g':=ep _ _ l;(have f:∀k,k≠C.base+j->((S.gs.map (woken C.P g g' w')).setIfInBounds (C.base+j) g')[k]?=S.gs[k]?:=λk E=>by grind);have q:=sumTo_upd (λk=>(uu (S.D k).pl&&run? S.gs[C.base+k]?).toNat) 0 id o;(have r:sumTo C.n (λk=>(uu ((S.stepW C j g g' w' u x d' S.wd S.ms o').D k).pl&&run? (S.stepW C j g g' w' u x d' S.wd S.ms o').gs[C.base+k]?).toNat)=sumTo C.n (λk=>id (Go.ConcN.upd (λk=>(uu (S.D k).pl&&run? S.gs[C.base+k]?).toNat) j 0 k)):=by refine sumTo_congr λk _=>?_;show(uu (aI S.D j x k).pl&&run? ((S.gs.map (woken C.P g g' w')).setIfInBounds (C.base+j) g')[C.base+k]?).toNat=_;by_cases e:k=j;{subst e;rw[a];simp[run?,c,Go.ConcN.upd]};rw[aH _ _ e,f _ Ω];simp[Go.ConcN.upd,e]);(have s:(isW3 (S.stepW C j g g' w' u x d' S.wd S.ms o').mp&&run? (S.stepW C j g g' w' u x d' S.wd S.ms o').gs[0]?).toNat=(isW3 S.mp&&run? S.gs[0]?).toNat:=by show(isW3 S.mp&&run? ((S.gs.map (woken C.P g g' w')).setIfInBounds (C.base+j) g')[0]?).toNat=_;grind);(have z:(uu (S.D j).pl&&run? S.gs[C.base+j]?).toNat=1:=by rw[<-i,v,n];simp[run?,t]);rw[r,s];simp only[id]at q⊢;omega
end
end Go.Cr
namespace Go.Cr
open Go.Conc Go.Mx Go.Rk
open Go.ConcR(KK WgAt wgBlock stA smA rd wr mk)
open Go.ConcM(OsLater)
open Go.ConcN(sumTo sumTo_congr)
variable{C:Cx}{Shun:Loc->Prop}{S:Cf}{j ms':Nat}{g g':UP}{w':UL}{es:Array Vv}{x:WD}{wd':Wd}{o':Option Nat}{fn:FuncId}{m m':Md}{ρ':Rk Ix}{k:Mark}{Q:UP->UL->Prop}{f:Ix->Rk Ix}
section
variable{d':Nat}{u:VE}
theorem yd(h:S.gL C)(m:w'.heap[C.wg]?=S.w.heap[C.wg]?)(f:(S.D j).pl.eP=x.pl.eP)(q:(S.D j).pl.last=x.pl.last)(p:jc (S.D j).pl=jc x.pl):(S.stepW C j g g' w' u x d' wd' ms' o').gL C:=by have s:(S.stepW C j g g' w' u x d' wd' ms' o').vc C=S.vc C:=kP f;(have a:∀k,((S.stepW C j g g' w' u x d' wd' ms' o').D k).pl.last=(S.D k).pl.last:=λk=>by show(aI S.D j x k).pl.last=_;by_cases e:k=j;{simp_all};rw[aH _ _ e]);(have d:∀k,jc ((S.stepW C j g g' w' u x d' wd' ms' o').D k).pl=jc (S.D k).pl:=λk=>by show jc (aI S.D j x k).pl=_;by_cases e:k=j;{simp_all};rw[aH _ _ e]);(have r:(S.stepW C j g g' w' u x d' wd' ms' o').cD C↔S.cD C:=by exact forall_congr' λk=>by rw[a];rfl);(have n:∀c b,WgAt C.tW C.wg w' c b↔WgAt C.tW C.wg S.w c b:=λc b=>by unfold WgAt;rw[m]);unfold Cf.gL Cf.ff at h⊢;have l:(S.stepW C j g g' w' u x d' wd' ms' o').mp=S.mp:=rfl;have o:(S.stepW C j g g' w' u x d' wd' ms' o').w=w':=rfl;have i:(S.stepW C j g g' w' u x d' wd' ms' o').jn C=S.jn C:=rfl;simp_all
theorem Ok.D6(F:Fx C)(h:Ok C Shun S)(I:j<S.jn C)(hg:S.gs[C.base+j]?=UG g){pos:String}(r:ma C (C.base+j) (qD C (S.D j).pl (S.D j).own) S.w w')(E:w'.heap[C.wg]?=S.w.heap[C.wg]?)(Q:S.o=UM->w'.heap[C.mm]?=S.w.heap[C.mm]?)(z:x.pl.said=UJ->w'.heap[C.out]?=S.w.heap[C.out]?)(o:∀b,x.own b↔(S.D j).own b\/(S.w.heap.size<=b/\b<w'.heap.size))(B:WSit C (C.base+j) x.pl x.rk x.fu x.own (Vb (S.df (C.base+j)) es) g' w')(O:∀K,(∀k b,S.AA C k b->K k b)->(∀b,S.w.heap.size<=b->b<w'.heap.size->K (C.base+j) b)->∀e∈es,KQ C Shun K S.o (C.base+j) w'.heap.size e)(U:x.pl.said=UJ->∀a e,es[a]?=UG e->(Ve.ofEvent e).touch?=UM\/((∃ad wr,e=⟨.cell ad,wr,UJ⟩)/\0<Vb (S.df (C.base+j)) (es.extract 0 a)))(Z:bW C w' wd' ms')(y:Inv (λk=>(aI S.D j x k).pl.th) C.n wd' ms')(N:(S.D j).pl.eP=x.pl.eP)(P:(S.D j).pl.last=x.pl.last)(q:jc (S.D j).pl=jc x.pl)(hs:(S.D j).pl.said=x.pl.said)(ht:(S.D j).pl.tok=x.pl.tok)(hh:x.pl.tok=UJ->x.pl.th=.hold)(R:S.ms<ms'->mayWake C.P g=UJ/\g'.status=.running)(w:g'.status=.blocked->ms'=0):Ok C Shun (S.stepW C j g g' w' (Vy.ofEvents (C.base+j) fn pos es) x (Vb (S.df (C.base+j)) es) wd' ms' S.o):=by have hb:=F.base;have d:=r.grow;(have c:∀k b,(S.stepW C j g g' w' (Vy.ofEvents (C.base+j) fn pos es) x (Vb (S.df (C.base+j)) es) wd' ms' S.o).AA C k b->S.AA C k b\/S.w.heap.size<=b:=by rintro k b⟨i,m,rfl,f⟩;by_cases e:i=j;{subst e;(have f:x.own b:=by simpa[Cf.stepW]using f);rcases(o b).1 f with q|q;{exact .inl ⟨i,m,rfl,q⟩};omega};(have f:(S.D i).own b:=by simpa[Cf.stepW,aH _ _ e]using f);exact .inl ⟨i,m,rfl,f⟩);(have n:∀k b,S.AA C k b->(S.stepW C j g g' w' (Vy.ofEvents (C.base+j) fn pos es) x (Vb (S.df (C.base+j)) es) wd' ms' S.o).AA C k b:=by rintro k b⟨i,m,rfl,f⟩;refine⟨i,m,rfl,?_⟩;show(aI S.D j x i).own b;by_cases e:i=j;{simp_all};rw[aH _ _ e];exact f);(have p:∀b,S.w.heap.size<=b->b<w'.heap.size->(S.stepW C j g g' w' (Vy.ofEvents (C.base+j) fn pos es) x (Vb (S.df (C.base+j)) es) wd' ms' S.o).AA C (C.base+j) b:=λb m v=>by refine⟨j,I,rfl,?_⟩;show(aI S.D j x j).own b;simp_all);(have A:(S.stepW C j g g' w' (Vy.ofEvents (C.base+j) fn pos es) x (Vb (S.df (C.base+j)) es) wd' ms' S.o).rl C=S.rl C:=by funext k;refine propext (exists_congr λi=>and_congr Sy (and_congr Sy ?_));show(aI S.D j x i).pl.said=UJ↔_;by_cases e:i=j;{simp_all};rw[aH _ _ e]);have Y:=h.ti.A9 d c n;(have t:CF C Shun ((S.stepW C j g g' w' (Vy.ofEvents (C.base+j) fn pos es) x (Vb (S.df (C.base+j)) es) wd' ms' S.o).AA C) w'.heap.size:=by refine⟨λk k' b m v=>?_,λk b m=>?_,λk b m=>?_⟩;{(have own2:∀{k:Nat},(S.stepW C j g g' w' (Vy.ofEvents (C.base+j) fn pos es) x (Vb (S.df (C.base+j)) es) wd' ms' S.o).AA C k b->S.w.heap.size<=b->k=C.base+j:=by rintro k⟨i,m,rfl,f⟩hb;by_cases e:i=j;{rw[e]};(have f:(S.D i).own b:=by simpa[Cf.stepW,aH _ _ e]using f);have:=(h.iO m f).1;omega);rcases c k b m with f|f<;>rcases c k' b v with h5|h5;{exact h.nJ.zv _ _ _ f h5};{simp_all};{simp_all};grind};{obtain⟨i,L,rfl,s⟩:=m;by_cases e:i=j;{subst e;(have s:x.own b:=by simpa[Cf.stepW]using s);rcases(o b).1 s with q|q;{exact Sn (h.iO L q).1 d};omega};(have s:(S.D i).own b:=by simpa[Cf.stepW,aH _ _ e]using s);exact Sn (h.iO L s).1 d};rcases c k b m with f|q;{exact h.nJ.sh _ _ f};have L:=h.iF;have a2:=h.iz;have s:=h.tf;have a4:=h.mm;exact⟨by omega,by omega,by omega,by omega,λT=>by have:=h.ro b T;omega,λl P M=>by have:=h.nH.lt l b P M;omega⟩);have H:qj C Shun w'.heap.size:=⟨λl b m v=>Sn (h.nH.lt l b m v) d,h.nH.sh,h.nH.cell⟩;have X:C.base+j<S.gs.size:=(So.1 hg).1;have D:=Y.zO (fn:=fn) (pos:=pos) F.ok t H (k:=C.base+j) Ω hb X (O _ n p) λT=>U (by obtain⟨i,m,v,f⟩:=T;simp_all);refine h.stepW F I hg r o B ?_ Z y (yd h.gL E N P q) (λJ=>?_) (λV=>?_) hh ?_ (λk _=>Sy) R w λst W=>.inl ⟨st,by unfold WgAt;rw[E];exact W⟩;{rw[A];exact D};{obtain⟨e,⟨ck,N⟩,hM⟩:=h.dI J;exact⟨e,⟨ck,(Q J).trans N⟩,hM⟩};{intro off J;have:=h.fin j I (by simp_all) off J;rw[<-this];exact cell_of_block (z V)};rw[<-ht];exact h.tok j I
theorem eH(h:Ok C Shun S)(a:x.pl.th=(S.D j).pl.th):Inv (λk=>(aI S.D j x k).pl.th) C.n S.wd S.ms:=by(have:(λk=>(aI S.D j x k).pl.th)=λk=>(S.D k).pl.th:=by funext k;by_cases e:k=j;{simp_all};rw[aH _ _ e]);rw[this];exact h.inv
theorem MU(h:Ok C Shun S)(b:j<C.n)(c:Mv (S.D j).pl.th S.wd S.ms x.pl.th wd' ms'):Inv (λk=>(aI S.D j x k).pl.th) C.n wd' ms':=by have:=h.inv.step b c;(have e:(λk=>(aI S.D j x k).pl.th)=Mx.upd (λk=>(S.D k).pl.th) j x.pl.th:=by funext k;unfold Mx.upd;by_cases e:k=j;{simp_all};rw[aH _ _ e,if_neg e]);simp_all
theorem rS(h:Ok C Shun S)(d:j<C.n){y:Th}(f:Mv (S.D j).pl.th S.wd S.ms y S.wd S.ms)(i:Mv y S.wd S.ms x.pl.th wd' ms'):Inv (λk=>(aI S.D j x k).pl.th) C.n wd' ms':=by have a:=h.inv.step d f;have b:=a.step d (by rw[show Mx.upd (λk=>(S.D k).pl.th) j y j=y by simp[Mx.upd]];exact i);(have e:(λk=>(aI S.D j x k).pl.th)=Mx.upd (Mx.upd (λk=>(S.D k).pl.th) j y) j x.pl.th:=by funext k;unfold Mx.upd;by_cases e:k=j;{simp_all};rw[aH _ _ e,if_neg e,if_neg e]);simp_all
theorem Ok.still(F:Fx C)(h:Ok C Shun S)(D:j<S.jn C)(A:S.gs[C.base+j]?=UG g){pos:String}(c:w'.heap=S.w.heap)(q:OsLater S.w.os w'.os)(n:w'.output=S.w.output)(f:w'.tape=S.w.tape)(d:(∀e∈es,e.mute=UJ)\/cv C es)(r:x.own=(S.D j).own)(p:WSit C (C.base+j) x.pl x.rk x.fu x.own (Vb (S.df (C.base+j)) es) g' w')(s:x.pl.said=UJ->(∀e∈es,e.mute=UJ)\/0<S.df (C.base+j))(m:Inv (λk=>(aI S.D j x k).pl.th) C.n S.wd S.ms)(w:(S.D j).pl.eP=x.pl.eP)(E:(S.D j).pl.last=x.pl.last)(t:jc (S.D j).pl=jc x.pl)(I:(S.D j).pl.said=x.pl.said)(J:(S.D j).pl.tok=x.pl.tok)(B:x.pl.tok=UJ->x.pl.th=.hold)(l:g'.status=.blocked->S.ms=0):Ok C Shun (S.stepW C j g g' w' (Vy.ofEvents (C.base+j) fn pos es) x (Vb (S.df (C.base+j)) es) S.wd S.ms S.o):=by refine h.D6 F D A ⟨λk _ _ _ _ _=>by rw[c],by simp_all,λv=>v.gM (by rw[c]) (by rw[c]) (by rw[c]),λo _=>cell_of_block (by rw[c]),q,n,f⟩ (by rw[c]) (λ_=>by rw[c]) (λ_=>by rw[c]) (λb=>by grind) p (λL _ _ e i=>?_) (λK a e i=>?_) (by unfold bW ax;rw[c];exact h.word) m w E t I J B (λy=>absurd y (Sz _)) l;{rcases d with d|d;{exact yX (d e i)};rw[c];exact d.Qu h.iF h.iz e i};rcases s K with H|z;{exact .inl (touch_mute (H e (S6 i)))};rcases d with d|d;{exact .inl (touch_mute (d e (S6 i)))};exact d.still z a e i
end
def br(C:Cx)(Shun:Loc->Prop)(S:Cf)(j:Nat)(g:UP):Prop:=
 ∃g' w' es x d' wd' ms' o',UY C.P Ul g S.w=.go g' w' es/\∀fn pos,Ok C Shun (S.stepW C j g g' w' (Vy.ofEvents (C.base+j) fn pos es) x d' wd' ms' o')/\
   iX C.n ((S.stepW C j g g' w' (Vy.ofEvents (C.base+j) fn pos es) x d' wd' ms' o').mu C) (S.mu C)
theorem zI(F:Fx C)(j:Nat):(C.base+j==0)=Ul:=by have:=F.base;simp;omega
theorem Ok.Lx(h:Ok C Shun S)(d:j<S.jn C)(e:(S.D j).pl.said=Ul):¬S.rl C (C.base+j):=by rintro⟨f,a,b,c⟩;simp_all
theorem Fu(F:Fx C)(h:Ok C Shun S)(i:j<S.jn C)(A:S.gs[C.base+j]?=UG g)(f:(S.D j).pl=.cH m)(r:UY C.P Ul g S.w=.go g' w' es)(n:m.said=Ul)(hM:lB C (fJ C m (S.D j).own) S.w w' es)(w:S.df (C.base+j)=m.deaf.toNat)(E:fK C (C.base+j) 0 m ρ' (ae.more (S.D j).own S.w w') g' w')(u:DJ ρ' (S.D j).rk)(D:g'.status≠.blocked):br C Shun S j g:=by have q:=Sn i h.cR;(have c:∀b,fJ C m (S.D j).own b->b≠C.mu/\b≠C.wg/\b≠C.out/\b<S.w.heap.size:=by rintro b(a|⟨_,rfl⟩);{obtain⟨J,K,_,L,M,_⟩:=h.iO i a;omega};exact⟨F.ok.lT.symm,F.ok.nO,F.ok.mG,h.mm⟩);(have B:∀b,qD C (S.D j).pl (S.D j).own b↔fJ C m (S.D j).own b:=λb=>by rw[f];rfl);(have k:Vb (S.df (C.base+j)) es=m.deaf.toNat:=by rw[tZ hM.evs,w]);refine⟨g',w',es,⟨.cH m,ρ',0,ae.more (S.D j).own S.w w'⟩,Vb (S.df (C.base+j)) es,S.wd,S.ms,S.o,r,λN H=>⟨?_,dJ q u⟩⟩;(have l:ma C (C.base+j) (qD C (S.D j).pl (S.D j).own) S.w w':=by(have:qD C (S.D j).pl (S.D j).own=fJ C m (S.D j).own:=by grind);rw[this];exact .BR h.aJ hM (λa=>(c _ a).1 rfl) (λa=>(c _ a).2.1 rfl) (λa=>(c _ a).2.2.1 rfl));refine h.D6 F i A l (hM.keep _ h.iz λa=>(c _ a).2.1 rfl) (λO=>hM.keep _ h.mm λa=>?_) (λt=>by rw[show m.said=UJ from t]at n;cases n) (λb=>Sy) (by rw[k];exact .cH E) (λI p v e z=>?_) (λt=>by rw[show m.said=UJ from t]at n;cases n) (by unfold bW ax;rw[hM.keep _ h.iF λa=>(c _ a).1 rfl];exact h.word) (eH h (by rw[f])) (by rw[f]) (by rw[f]) (by rw[f]) (by rw[f]) (by rw[f]) (λy=>by have:=h.hold j i (by simp_all);simp_all) (λy=>absurd y (Sz _)) (λy=>absurd y D);{rcases a with a|⟨s,_⟩;{exact(h.iO i a).2.2.1 rfl};have:=(h.tok j i).1 (by rw[f];exact s);simp_all};refine Ji Ω (hM.evs e z) (λb a=>?_) (λb a=>?_) (Sn h.iF hM.grow);{rcases a with(a|⟨s,rfl⟩)|a;{exact .inl (p _ _ ⟨j,i,rfl,a⟩)};{exact .inr ⟨rfl,(h.tok j i).1 (by rw[f];exact s)⟩};simp_all};rcases a with(a|a)|a;{exact Sn (c b a).2.2.2 hM.grow};{exact a.2};exact Sn (h.ro b a) hM.grow
theorem wO(F:Fx C)(h:Ok C Shun S)(u:j<S.jn C)(s:S.gs[C.base+j]?=UG g)(l:(S.D j).pl=.cH m){pos:String}(w:fK C (C.base+j) 0 m' ρ' (S.D j).own g' S.w)(q:S.df (C.base+j)=m'.deaf.toNat)(t:m'.hold=m.hold)(z:TI C Shun (S.AA C) o' S.df ((S.stepW C j g g' S.w (Vy.ofEvents (C.base+j) fn pos #[mk k]) ⟨.cH m',ρ',0,(S.D j).own⟩ (S.df (C.base+j)) S.wd S.ms o').rl C) S.gs.size S.w.heap.size (S.t++Vy.ofEvents (C.base+j) fn pos #[mk k]))(c:o'=UM->au C S.w)(f:m'.said=UJ->Fin C (C.base+j) S.w)(a:m'.tok=UJ->m'.hold=UJ)(i:m'.tok=UJ↔o'=UG (C.base+j))(d:∀k,k≠C.base+j->(o'=UG k↔S.o=UG k))(v:g'.status≠.blocked):Ok C Shun (S.stepW C j g g' S.w (Vy.ofEvents (C.base+j) fn pos #[mk k]) ⟨.cH m',ρ',0,(S.D j).own⟩ (S.df (C.base+j)) S.wd S.ms o'):=by(have r:aI S.df (C.base+j) (S.df (C.base+j))=S.df:=by funext k;by_cases e:k=C.base+j;{simp_all};rw[aH _ _ e]);(have p:(S.stepW C j g g' S.w (Vy.ofEvents (C.base+j) fn pos #[mk k]) ⟨.cH m',ρ',0,(S.D j).own⟩ (S.df (C.base+j)) S.wd S.ms o').AA C=S.AA C:=by funext k b;refine propext (exists_congr λo=>and_congr Sy (and_congr Sy ?_));show(aI S.D j _ o).own b↔_;by_cases e:o=j;{simp_all};rw[aH _ _ e]);refine h.stepW F u s .refl (λb=>⟨.inl,λy=>y.resolve_right Ω⟩) (by rw[q];exact .cH w) (by simp_all) h.word (eH h (by rw[l];simp[Pl.th,t])) (yd h.gL rfl (by rw[l];rfl) (by rw[l];rfl) (by rw[l];rfl)) c f (λy=>by simp[Pl.th,a y]) i d (λy=>absurd y (Sz _)) (λy=>absurd y v) λA n=>.inl ⟨A,n⟩
theorem Cn(b:(S.D j).pl=.cH m){pos:String}(c:m'.said=m.said):(S.stepW C j g g' S.w (Vy.ofEvents (C.base+j) fn pos #[mk k]) ⟨.cH m',ρ',0,(S.D j).own⟩ (S.df (C.base+j)) S.wd S.ms o').rl C=S.rl C:=by funext k;refine propext (exists_congr λa=>and_congr Sy (and_congr Sy ?_));show(aI S.D j _ a).pl.said=UJ↔_;by_cases e:a=j;{subst e;rw[fY,b];show m'.said=UJ↔m.said=UJ;rw[c]};rw[aH _ _ e]
theorem DD(F:Fx C)(h:Ok C Shun S)(q:j<S.jn C)(H:S.gs[C.base+j]?=UG g)(b:(S.D j).pl=.cH m)(N:iS C (C.base+j) m k m')(r:UY C.P Ul g S.w=.go g' S.w #[mk k])(v:S.df (C.base+j)=m.deaf.toNat)(Z:k=.releaseMerge C.muA->m=.own/\au C S.w)(h5:k=.releaseMerge (stA C.wg)->Fin C (C.base+j) S.w)(f:(k=.acquire C.muA->au C S.w)->fK C (C.base+j) 0 m' ρ' (S.D j).own g' S.w)(s:DJ ρ' (S.D j).rk)(M:∀ρ m own,fK C (C.base+j) 0 m ρ own g' S.w->g'.status≠.blocked):br C Shun S j g:=by have i:j<C.n:=Sn q h.cR;have A:C.base+j<S.gs.size:=(So.1 H).1;(have a:∀{m':Md},(∀e∈#[mk k],Vv.mute e=UJ)->m'.hold=m.hold->m'.said=m.said->m'.tok=m.tok->Vb m.deaf.toNat #[mk k]=m'.deaf.toNat->fK C (C.base+j) 0 m' ρ' (S.D j).own g' S.w->br C Shun S j g:=by intro m' l R X T Y f;refine⟨g',S.w,#[mk k],⟨.cH m',ρ',0,(S.D j).own⟩,Vb (S.df (C.base+j)) #[mk k],S.wd,S.ms,S.o,r,λD p=>⟨?_,dJ i s⟩⟩;exact h.still F q H rfl (.refl _) rfl rfl (.inl l) rfl (by rw[v,Y];exact .cH f) (λ_=>.inl l) (eH h (by rw[b];simp[Pl.th,R])) (by rw[b];rfl) (by rw[b];rfl) (by rw[b];rfl) (by rw[b];exact X.symm) (by rw[b];exact T.symm) (λy=>by have:=h.hold j q (by rw[b];show m.tok=UJ;rw[<-T];exact y);rw[b]at this;simpa[Pl.th,R]using this) (λy=>absurd y (M _ _ _ f)));(have o:∀e∈#[mk Mark.disable],Vv.mute e=UJ:=λe E=>by simp at E;subst E;rfl);(have t:∀e∈#[mk Mark.enable],Vv.mute e=UJ:=λe E=>by simp at E;subst E;rfl);have l:=h.iF;have Q:=h.iz;have z:(S.D j).pl.said=Ul->¬S.rl C (C.base+j):=h.Lx q;cases N with|N4=>exact a (m':=.bE) o rfl rfl rfl rfl (f λe=>by cases e)|Jx=>exact a (m':=.mb) o rfl rfl rfl rfl (f λe=>by cases e)|Jz=>exact a (m':=.uS) o rfl rfl rfl rfl (f λe=>by cases e)|en=>exact a (m':=.free) t rfl rfl rfl rfl (f λe=>by cases e)|P1=>exact a (m':=.AB) t rfl rfl rfl rfl (f λe=>by cases e)|acq=>(have J:S.o=UM:=by cases L:S.o with|none=>rfl|some k=>exfalso;obtain⟨d,w,rfl⟩:=h.y6 k L;have P:=(h.tok d w).2 L;(have O:d≠j:=by rintro rfl;rw[b]at P;cases P);(have V:qC (S.D d).pl.th=UJ:=by rw[h.hold d w P];rfl);(have W:qC (S.D j).pl.th=UJ:=by rw[b];rfl);have i1:=h.inv.i1;have I:d<C.n:=Sn w h.cR;(have:2<=cnt qC (λk=>(S.D k).pl.th) C.n:=by rcases Nat.lt_or_gt_of_ne O with u|u;{exact pz u i V W};exact pz u I W V);rw[i1]at this;have:=Ua S.wd.L;omega);have K:=h.dI J;refine⟨g',S.w,_,⟨.cH .own,ρ',0,(S.D j).own⟩,S.df (C.base+j),S.wd,S.ms,UG (C.base+j),r,λD p=>⟨?_,dJ i s⟩⟩;have c:=h.ti;rw[J]at c;refine wO F h q H b (f λ_=>K) v rfl ?_ (λe=>by cases e) (λe=>by cases e) (λ_=>rfl) ⟨λ_=>rfl,λ_=>rfl⟩ (λk U=>?_) (M _ _ _ (f λ_=>K));{rw[Cn (m':=.own) b rfl];exact c.acquire F.ok h.nJ h.nH Ω F.base A v (z (by rw[b];rfl)) l};grind|C3=>obtain⟨_,K⟩:=Z rfl;have L:S.o=UG (C.base+j):=(h.tok j q).1 (by rw[b];rfl);refine⟨g',S.w,_,⟨.cH .AB,ρ',0,(S.D j).own⟩,S.df (C.base+j),S.wd,S.ms,UM,r,λD p=>⟨?_,dJ i s⟩⟩;have c:=h.ti;rw[L]at c;(have n:=f λe=>by cases e);refine wO F h q H b n v rfl ?_ (λ_=>K) (λe=>by cases e) (λe=>by cases e) ⟨λe=>(by cases e),λe=>(by cases e)⟩ (λk U=>?_) (M _ _ _ n);{rw[Cn (m':=.AB) b rfl];exact c.release F.ok h.nJ h.nH Ω F.base A v (z (by rw[b];rfl)) l};grind|Dn hi=>have hF:=h5 rfl;refine⟨g',S.w,_,⟨.cH .zh,ρ',0,(S.D j).own⟩,S.df (C.base+j),S.wd,S.ms,S.o,r,λD p=>⟨?_,dJ i s⟩⟩;(have n:=f λe=>by cases e);refine wO F h q H b n v rfl ?_ h.dI (λ_=>hF) (λe=>by cases e) ?_ (λk U=>Sy) (M _ _ _ n);{have c:=h.ti.said (fn:=D) (pos:=p) F.ok h.nJ h.nH (k:=C.base+j) Ω F.base A v (z (by rw[b];rfl)) Q;(have:(S.stepW C j g g' S.w (Vy.ofEvents (C.base+j) D p #[mk (.releaseMerge (stA C.wg))]) ⟨.cH .zh,ρ',0,(S.D j).own⟩ (S.df (C.base+j)) S.wd S.ms S.o).rl C=λk=>S.rl C k\/k=C.base+j:=by funext k;refine propext ⟨?_,?_⟩;{rintro⟨d,u,rfl,B⟩;by_cases e:d=j;{omega};have B:(aI S.D j _ d).pl.said=UJ:=B;rw[aH _ _ e]at B;exact .inl ⟨d,u,rfl,B⟩};rintro(⟨d,u,rfl,B⟩|rfl);{refine⟨d,u,rfl,?_⟩;show(aI S.D j _ d).pl.said=UJ;by_cases e:d=j;{subst e;rw[fY];rfl};rw[aH _ _ e];exact B};refine⟨j,q,rfl,?_⟩;show(aI S.D j _ j).pl.said=UJ;rw[fY];rfl);simp_all};exact⟨λe=>(by cases e),λe=>(by have:=(h.tok j q).2 e;rw[b]at this;cases this)⟩|sr hi=>have:=F.base;omega
section
inductive iC(C:Cx)(S:Cf):UL->Wd->Nat->Prop
 |same:iC C S S.w S.wd S.ms
 |st(wd':Wd):iC C S (S.w.setCell C.muA (.int .i32 wd'.enc)) wd' S.ms
 |sm(ms':Nat):iC C S (S.w.setCell C.msA (.int .u32 ms')) S.wd ms'
theorem iC.facts(F:Fx C)(h:Ok C Shun S)(a:iC C S w' wd' ms'){i:Nat}{own:Nat->Prop}:ma C i own S.w w'/\w'.heap[C.wg]?=S.w.heap[C.wg]?/\w'.heap[C.mm]?=S.w.heap[C.mm]?/\w'.heap[C.out]?=S.w.heap[C.out]?/\w'.heap.size=S.w.heap.size/\bW C w' wd' ms':=by cases a with|same=>exact⟨.refl,rfl,rfl,rfl,rfl,h.word⟩|st=>exact⟨.st F.ok _,ah _ C.muA _ F.ok.gi.symm,ah _ C.muA _ F.ok.lT.symm,ah _ C.muA _ F.ok.gd.symm,cN ..,h.word.setSt F.ok _⟩|sm=>exact⟨.sm F.ok _,ah _ C.msA _ F.ok.gi.symm,ah _ C.msA _ F.ok.lT.symm,ah _ C.msA _ F.ok.gd.symm,cN ..,h.word.setSm F.ok _⟩
theorem iC.env(F:Fx C)(h:Ok C Shun S)(c:j<S.jn C)(e:iC C S w' wd' ms'):Env C (C.base+j) (S.D j).own S.w w':=by obtain⟨a,_,_,b,_,_⟩:=e.facts F h;exact .FU F.ok a (λk d=>by obtain⟨f,l,_,m,n,_⟩:=h.iO c d;omega) h.ro λo _=>cell_of_block b
theorem Ok.Ra(F:Fx C)(h:Ok C Shun S)(w:j<S.jn C)(v:S.gs[C.base+j]?=UG g){pos:String}(A:iC C S w' wd' ms')(c:cv C es)(l:x.own=(S.D j).own)(m:WSit C (C.base+j) x.pl x.rk x.fu x.own (S.df (C.base+j)) g' w')(d:Inv (λk=>(aI S.D j x k).pl.th) C.n wd' ms')(D:(S.D j).pl.eP=UJ/\x.pl.eP=UJ)(H:(S.D j).pl.said=Ul/\x.pl.said=Ul)(I:(S.D j).pl.tok=Ul/\x.pl.tok=Ul)(f:S.ms<ms'->mayWake C.P g=UJ/\g'.status=.running)(a:g'.status=.blocked->ms'=0):Ok C Shun (S.stepW C j g g' w' (Vy.ofEvents (C.base+j) fn pos es) x (S.df (C.base+j)) wd' ms' S.o):=by obtain⟨n,o,q,r,s,t⟩:=A.facts F h;(have J:∀p:Pl,p.eP=UJ->p.last=Ul/\jc p=Ul:=λp z=>by cases p<;>first|exact⟨rfl,rfl⟩|cases z);have E:=c.deaf (S.df (C.base+j));have:=h.D6 (es:=es) F w v (fn:=fn) (pos:=pos) n o (λ_=>q) (λ_=>r) (λb=>by grind) (by simp_all) (λB _ _ e u=>by rw[s];exact c.Qu h.iF h.iz e u) (λy=>by simp_all) t d (by simp_all) (by simp_all) (by simp_all) (by simp_all) (by simp_all) (λy=>by simp_all) f a;simp_all
theorem AT(p:Th->Bool)(f:Nat->Th):∀N,cnt p f N<=N|0=>Sm _|N+1=>by simp only[cnt];have:=AT p f N;have:=Ua (p (f N));omega
theorem Ok.yH(F:Fx C)(h:Ok C Shun S):S.wd.n<100000000/\S.ms<=1:=by have d:=h.inv.i4;have c:=h.inv.i2;have:=F.n;have a:=AT pQ (λk=>(S.D k).pl.th) C.n;have b:=AT Ch (λk=>(S.D k).pl.th) C.n;grind
theorem Ok.th(h:Ok C Shun S)(a:j<S.jn C){p:Th->Bool}(b:p (S.D j).pl.th=UJ):1<=cnt p (λk=>(S.D k).pl.th) C.n:=pD (Sn a h.cR) b
theorem Ok.held(h:Ok C Shun S)(a:j<S.jn C)(b:qC (S.D j).pl.th=UJ):S.wd.L=UJ:=by have:=h.th a b;rw[h.inv.i1]at this;grind
theorem Ok.token(h:Ok C Shun S)(a:j<S.jn C)(b:AN (S.D j).pl.th=UJ):S.wd.W=UJ\/(S.wd.S=UJ/\S.wd.L=Ul):=by have:=h.th a b;have c:=h.inv.i2;grind
theorem Ok.KV(h:Ok C Shun S)(b:j<S.jn C)(c:Hx (S.D j).pl.th=UJ):S.wd.W=UJ:=by cases a:S.wd.W with|true=>rfl|false=>have:=h.th b c;have:=h.inv.i8 a;omega
theorem BW:cv C #[rd C.muA]:=.rd (.inl rfl)
theorem tr:cv C #[rd C.muA,wr C.muA]:=.rw (.inl rfl)
theorem GJ:cv C (semEvents C.msA):=.D9 (.inr (.inl rfl))
section
variable(F:Fx C)(h:Ok C Shun S)(hj:j<S.jn C)(hg:S.gs[C.base+j]?=UG g)
include F h hj hg
theorem pB{pl:Pl}(a:(S.D j).pl=pl)(l:pl.eP=UJ)(m:pl.said=Ul)(n:pl.tok=Ul){n':Nat}(d:UY C.P Ul g S.w=.go g' w' es)(b:DL S.w w' es)(c:WSit C (C.base+j) pl (S.D j).rk n' (S.D j).own (S.df (C.base+j)) g' w')(e:n'<(S.D j).fu)(f:g'.status≠.blocked):br C Shun S j g:=by obtain rfl:=b.evs;refine⟨g',w',#[],⟨pl,(S.D j).rk,n',(S.D j).own⟩,S.df (C.base+j),S.wd,S.ms,S.o,d,λk i=>⟨?_,rQ (Sn hj h.cR) rfl a.symm e⟩⟩;exact h.still F hj hg b.heap b.os b.out b.tape (.inr .nil) rfl c (λy=>by simp) (eH h (by rw[a])) (by rw[a]) (by rw[a]) (by rw[a]) (by rw[a]) (by rw[a]) (λy=>by simp_all) (λy=>absurd y f)
theorem cu(x:WD)(m:iC C S w' wd' ms')(d:cv C es)(l:UY C.P Ul g S.w=.go g' w' es)(i:x.own=(S.D j).own)(c:WSit C (C.base+j) x.pl x.rk x.fu x.own (S.df (C.base+j)) g' w')(b:Inv (λk=>(aI S.D j x k).pl.th) C.n wd' ms')(n:(S.D j).pl.eP=UJ/\x.pl.eP=UJ)(o:(S.D j).pl.said=Ul/\x.pl.said=Ul)(p:(S.D j).pl.tok=Ul/\x.pl.tok=Ul)(f:S.ms<ms'->mayWake C.P g=UJ/\g'.status=.running)(a:g'.status=.blocked->ms'=0)(e:∀u,iX C.n ((S.stepW C j g g' w' u x (S.df (C.base+j)) wd' ms' S.o).mu C) (S.mu C)):br C Shun S j g:=⟨g',w',es,x,_,wd',ms',S.o,l,λ_ _=>⟨h.Ra F hj hg m d i c b n o p f a,e _⟩⟩
theorem IV{H:Wd->Bool->Bool->Nat->UP->UL->Prop}(e:(S.D j).pl=.cH .bE)(v:S.df (C.base+j)=1)(o:(S.D j).rk=.s λ_=>.s f)(q:∀g v1 v2,Q g v1->Env C (C.base+j) (S.D j).own v1 v2->Q g v2)(A:jd C (C.base+j) (S.D j).own H Q)(i:Nt C (C.base+j) (S.D j).own H Q g S.w)(r:∀g' v1,Env C (C.base+j) (S.D j).own S.w v1->Q g' v1->fK C (C.base+j) 0 .mb (f (g',v1,v1)) (S.D j).own g' v1)(p:∀g' v1 ρ m own,fK C (C.base+j) 0 m ρ own g' v1->g'.status≠.blocked):br C Shun S j g:=by have b:=Sn hj h.cR;obtain⟨_,i⟩:=i;obtain⟨d,a⟩:=i _ _ h.word;rw[zI F]at d a;by_cases c:S.wd=⟨Ul,Ul,Ul,0⟩;{obtain⟨g',k,D⟩:=d c;have t:iC C S (S.w.setCell C.muA (.int .i32 1)) ⟨UJ,Ul,Ul,0⟩ S.ms:=.st ⟨UJ,Ul,Ul,0⟩;have w:=r g' _ (t.env F h hj) D;exact cu F h hj hg ⟨.cH .mb,_,0,(S.D j).own⟩ t tr k rfl (by rw[v];exact .cH w) (rS h b (by rw[e];exact .start) (by rw[c];exact .LY)) (by rw[e];exact⟨rfl,rfl⟩) (by rw[e];exact⟨rfl,rfl⟩) (by rw[e];exact⟨rfl,rfl⟩) (λy=>absurd y (Sz _)) (λy=>absurd y (p _ _ _ _ _ w)) λu=>dJ b (by rw[o];exact Qw f _)};obtain⟨g',k,n,l⟩:=a c;(have B:g'.status≠.blocked:=by rw[ai (λ_ _ z=>z.1) l];simp);exact cu F h hj hg ⟨.fg (.ld Ul Ul) 0,.s f,n,(S.D j).own⟩ .same BW k rfl (by rw[v];exact .fg H Q q A l r Ω) (rS h b (by rw[e];exact .start) (.IK c)) (by rw[e];exact⟨rfl,rfl⟩) (by rw[e];exact⟨rfl,rfl⟩) (by rw[e];exact⟨rfl,rfl⟩) (λy=>absurd y (Sz _)) (λy=>absurd y B) λu=>dJ b (by rw[o];exact .single ⟨_,(g',S.w,S.w),rfl,rfl⟩)
theorem Ka{HU:Wd->UP->UL->Prop}(o:(S.D j).pl=.cH .mb)(R:S.df (C.base+j)=1)(z:(S.D j).rk=.s λ_=>.s f)(v:∀g v1 v2,Q g v1->Env C (C.base+j) (S.D j).own v1 v2->Q g v2)(hH:A8 C (C.base+j) (S.D j).own HU Q)(c:Ns C (C.base+j) (S.D j).own HU Q g S.w)(N:∀g' v1,Env C (C.base+j) (S.D j).own S.w v1->Q g' v1->fK C (C.base+j) 0 .bE (f (g',v1,v1)) (S.D j).own g' v1)(E:∀g' v1 ρ m own,fK C (C.base+j) 0 m ρ own g' v1->g'.status≠.blocked):br C Shun S j g:=by have i:=Sn hj h.cR;obtain⟨_,c⟩:=c;have M:=h.held hj (by rw[o];rfl);obtain⟨g',q,H,I,J⟩:=c _ _ h.word M (h.yH F).1;rw[zI F]at q;have hW:iC C S (S.w.setCell C.muA (.int .i32 ({S.wd with L:=Ul}:Wd).enc)) {S.wd with L:=Ul} S.ms:=.st _;have t:=λg' v1 P=>N g' v1 ((hW.env F h hj).trans P);(have b:∀{θ:Th}{n:Nat},cG C (C.base+j) (S.D j).own (Ro C (C.base+j) (S.D j).own HU Q θ) n g' (S.w.setCell C.muA (.int .i32 ({S.wd with L:=Ul}:Wd).enc))->Mv .u0 S.wd S.ms θ {S.wd with L:=Ul} S.ms->br C Shun S j g:=by intro θ n a O;have p:=WSit.uw HU Q v hH a t;(have D:g'.status≠.blocked:=by intro D;rcases p.status with x|x|⟨_,x⟩;{simp_all};{simp_all};simp only[Pl.th]at x;subst x;rcases az a with A|⟨_,_,T,_⟩;{exact(A _ .refl).elim};simp_all);exact cu F h hj hg ⟨.uw θ,.s f,n,(S.D j).own⟩ hW tr q rfl (by simp_all) (rS h i (y:=.u0) (by rw[o];exact .want) O) (by rw[o];exact⟨rfl,rfl⟩) (by rw[o];exact⟨rfl,rfl⟩) (by rw[o];exact⟨rfl,rfl⟩) (λy=>absurd y (Sz _)) (λy=>absurd y D) λu=>dJ i (by rw[z];exact .single ⟨_,(g',S.w,S.w),rfl,rfl⟩));cases hS:S.wd.S with|true=>obtain⟨n,a⟩:=H hS;exact b (θ:=.us) a (.Pm hS)|false=>by_cases w:S.wd.n=0\/S.wd.W=UJ;{obtain⟨n,a⟩:=I hS w;exact b (θ:=.out) a (.NF hS w)};have k:S.wd.n≠0:=λe=>w (.inl e);(have l:S.wd.W=Ul:=by simp_all);obtain⟨n,a⟩:=J hS k l;exact b (θ:=.uc _) a (.On hS k l)
end
end
end Go.Cr
