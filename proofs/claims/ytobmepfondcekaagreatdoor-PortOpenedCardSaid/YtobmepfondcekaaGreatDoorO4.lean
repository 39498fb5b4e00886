/- A part of the proof of PortOpened. Conditions: none. -/
import Derived.Test.YtobmepfondcekaaGreatDoorO3
import Derived.Laws.Entries
import Derived.Conc.LockTrace
import Derived.Conc.MuSpec
import Derived.Conc.Beside
import Derived.Conc.MuWords
import Derived.Conc.ClockLaws
import Derived.Test.YtobmepfondcekaaGreatDoorProg
set_option linter.all false
open Go renaming Addr->Wq,Event->Wv,Frame->VU,FuncId->V8,Goroutine->VK,Item->Wg,TypeId->VX,Value->VI,World->VH,execOp->VR,stepG->VO
open Bool renaming false->Vo,true->VG
open Option renaming none->VJ,some->VF
open Go.Proofs.Tryz
namespace Go.ab
open Go.Conc
variable{P:Program}{c:dz}{gl:Nat->Bool}{d:dj}{main:Bool}{r:bA}{s s':cy}{cs:List VU}{ops:Array Oper}{i:Nat}{w v:VH}{Q:Array VI->VH->Prop}{RO own:Nat->Prop}{CU:Nat->Nat->Prop}{Stop:(Nat->Prop)->VK->VH->Prop}{tl:Array VI}{cd:Code}
theorem cy.kU(h:s.g cs=s'.g cs):s=s':=by obtain⟨f,t,k,b,p⟩:=s;obtain⟨m,q,o,a,l⟩:=s';simp only[cy.g,G,b9,VK.mk.injEq,VU.mk.injEq]at h;obtain⟨⟨e,g,i,-,n,-⟩,j,-⟩:=h;have:=FI (Wj j);subst e g i this;(have:b=a:=by cases b<;>cases a<;>simp_all[md]);rw[this]
theorem Gl.op{rest:List Nat}{kr k':List Wg}(h:Gl d (.inRegion ops (i::rest)::kr) k'):∃a f,k'=.inRegion ops (i::a)::f/\Gl d (.inRegion ops rest::kr) (.inRegion ops a::f)/\rV d.live ops i=VG:=by rcases h.cons (by simp[R0])with⟨l,g,j,k,b,e⟩|⟨m,o,n,g,j,k,b,e⟩;{subst j k;simp only[cT,TM,Tl]at b;exact⟨rest,_,rfl,.mk' [.inRegion ops rest] g e (by simp only[TM,Vj,cT,b.2,UF]),b.1⟩};cases j;subst k b;simp only[TM,Tl]at e;exact⟨rest++n,_,rfl,.reg g e.2,e.1⟩
theorem F5(a:rV d.live ops i=VG):(match(ops[i]?).bind (·.dst)with|some j=>d.live j|none=>VG)=VG:=by cases b:ops[i]? with|none=>rfl|some o=>have:=(kq a b).1;simp only[nW]at this;grind
inductive DG(d:dj)(cs:List VU):cy->VK->Prop
 |here{t:Array VI}{k k':List Wg}:Gl d k k'->DG d cs ⟨d.f,t,k,Vo,[]⟩ (G (d.bot t k') cs)
 |below{f:V8}{t t0:Array VI}{k k0 k0':List Wg}{ret:Bool}{pre st:List (V8×Array VI×List Wg)}:st=pre++[(d.f,t0,k0)]->Gl d k0 k0'->DG d cs ⟨f,t,k,ret,st⟩ (G (b9 f t k (md ret)) (pre.map up++d.bot t0 k0'::cs))
theorem DG.running{g:VK}(h:DG d cs s g):g.status=.running:=by cases h<;>rfl
theorem DG.step{cs cs0:List VU}{s s1:cy}{g:VK}{v v':VH}{es:Array Wv}(h:DG d cs s g)(p:VO P main (s.g cs0) v=.go (s1.g cs0) v' es)(E:wD P c gl s)(he:d.kind≠.early)(H:s.ret=Vo->AD P s.f s.t s.k v)(R:s.st=[]->¬d.end s.k):∃g1,VO P main g v=.go g1 v' es/\DG d cs s1 g1:=by(have w:∀ch,(s1.g cs0).frame.mode≠.panicking ch:=λch e=>by simp only[cy.g,G,b9]at e;cases hr:s1.ret<;>rw[hr]at e<;>simp[md]at e);cases h with|@here t k k' D=>rcases JC.step (d:=d) (b:=VG) (k:=k) (F:=d.bot t k') p E.items (.bot D) he (λ_=>R rfl) (H rfl) w with⟨O,m,F1,B,U,C⟩|⟨j,O,m,B,C⟩|⟨e,_⟩;{obtain rfl:s1=⟨d.f,O,m,Vo,[]⟩:=cy.kU (cs:=cs0) B;cases U with|bot S=>exact⟨_,C cs,.here S⟩};{obtain rfl:s1=⟨j,O,m,Vo,[(d.f,t,k)]⟩:=cy.kU (cs:=cs0) B;exact⟨_,C cs,.below (pre:=[]) rfl D⟩};cases e|@below f t A k N k0' Y n st W D=>subst W;cases Y with|false=>rcases JC.step (d:=d) (b:=Vo) (F:=b9 f t k .run) p E.items .up he (λe=>by cases e) (H rfl) w with⟨O,m,F1,B,U,C⟩|⟨j,O,m,B,C⟩|⟨_,m,B,C⟩;{obtain rfl:s1=⟨f,O,m,Vo,n++[(d.f,A,N)]⟩:=cy.kU (cs:=cs0) B;cases U with|up=>exact⟨_,C _,.below rfl D⟩};{obtain rfl:s1=⟨j,O,m,Vo,(f,t,k)::(n++[(d.f,A,N)])⟩:=cy.kU (cs:=cs0) (B.trans rfl);exact⟨_,C _,.below (pre:=(f,t,k)::n) rfl D⟩};obtain rfl:s1=⟨f,t,m,VG,n++[(d.f,A,N)]⟩:=cy.kU (cs:=cs0) B;exact⟨_,C _,.below rfl D⟩|true=>cases n with|nil=>obtain⟨-,-,l,i,a,m,e⟩:=E.below (d.f,A,N) Θ;simp only at e;subst e;obtain⟨X,kk',rfl,S,h2⟩:=D.op;have hl:=F5 h2;have L:up (d.f,A,.inRegion l (i::a)::m)=mW d.f A l i a m:=rfl;rw[cy.iR]at p;simp only[UT,TT,Ua,Vi,L]at p;(cases q:P.funcs[f]? with|none=>rw[bI q,cL]at p;injection p with I J K;subst J K;obtain rfl:s1=⟨d.f,_,.inRegion l a::m,Vo,[]⟩:=cy.kU (cs:=cs0) I.symm;exact⟨_,(bI q).trans (congrArg (λF=>GStep.go (G F cs) _ _) (jE hl _)),.here S⟩|some V=>cases M:(results V t).run P v with|halt z w1=>obtain⟨o,Z,e⟩:=da (main:=main) (k:=k) (x:=mW d.f A l i a m) (cs:=cs0) q M;simp_all|ok u Z=>rw[aO q M,cL]at p;injection p with I J K;subst J K;obtain rfl:s1=⟨d.f,_,.inRegion l a::m,Vo,[]⟩:=cy.kU (cs:=cs0) I.symm;exact⟨_,(aO q M).trans (congrArg (λF=>GStep.go (G F cs) _ _) (jE hl _)),.here S⟩)|cons y n=>obtain⟨Q,T,ky⟩:=y;obtain⟨-,-,l,i,a,m,e⟩:=E.below (Q,T,ky) Θ;simp only at e;subst e;have L:up (Q,T,.inRegion l (i::a)::m)=mW Q T l i a m:=rfl;rw[cy.iR]at p;simp only[Vi,TT,L]at p;cases q:P.funcs[f]? with|none=>rw[bI q,cL]at p;injection p with I J K;subst J K;obtain rfl:s1=⟨Q,_,.inRegion l a::m,Vo,n++[(d.f,A,N)]⟩:=cy.kU (cs:=cs0) I.symm;exact⟨_,(bI q).trans (by rfl),.below rfl D⟩|some V=>cases M:(results V t).run P v with|halt z w1=>obtain⟨o,Z,e⟩:=da (main:=main) (k:=k) (x:=mW Q T l i a m) (cs:=(n++[(d.f,A,N)]).map up++cs0) q M;simp_all|ok u Z=>rw[aO q M,cL]at p;injection p with I J K;subst J K;obtain rfl:s1=⟨Q,_,.inRegion l a::m,Vo,n++[(d.f,A,N)]⟩:=cy.kU (cs:=cs0) I.symm;exact⟨_,(aO q M).trans (by rfl),.below rfl D⟩
theorem Jf(D:Listed P c gl){s1:cy}{w1:VH}(T:∀g,gl g=VG->r g=VF g)(W:cC c r w v)(U:nL c r s s')(V:wD P c gl s)(A:bV P s w s1 w1)(m:s.ret=Vo):AD P s'.f s'.t s'.k v:=by obtain⟨f,t,k,ret,st⟩:=s;obtain⟨S,M,X,L,st'⟩:=s';obtain⟨O,H,Q,R,B⟩:=U;simp only at O H Q R B m;subst S X m;intro a i l I o J E p;subst J;(have h:Region.wanted o (yielded a t)=VG:=by rw[<-funext λj=>mb H a j];exact p);obtain⟨y,-⟩:=V.tw;have F:=mQ y E;have b:=sN D.aJ D.ext F (ev:=(mW f t a i l I).eval) (λx q=>ot H T D.qk x q) (λ_=>⟨rfl,rfl⟩) w v W;cases q:(VR (mW f t a i l I).eval o).run P w with|halt z w2=>rw[q]at b;by_cases K:∃u,z=.panic u;{obtain⟨u,rfl⟩:=K;exact(A.qu (lh E h q)).elim};exact(A.gx (mj E h q b (λu e=>K ⟨u,e⟩))).elim|ok n w2=>rw[q]at b;obtain⟨Y,v1,r1,N,-,Z,-⟩:=b;exact⟨Y,v1,N,by cases Z<;>trivial⟩
def LO(d:dj)(Q:Array VI->VH->Prop)(s:cy)(w:VH):Prop:=s.st=[]/\s.ret=Vo/\s.f=d.f/\s.k=[R0]/\Q s.t w
theorem iQ.loc(hl:Listed P c gl)(he:d.kind≠.early)(h:iQ P (LO d Q) s w):∀{r:bA}{own:Nat->Prop}{v:VH}{s':cy}{g:VK},wD P c gl s->(∃T D,cC c r (re w T D) v)->nL c r s s'->(∀g,gl g=VG->r g=VF g)->Reach c r own RO CU v->DG d cs s' g->(∀q p t F k' i v1,r.le q->Q t i->Gl d [R0] k'->cC c q i v1->aj c q t F->Reach c q p RO CU v1->Left c r own RO v p v1->Loc P main RO CU Stop p (G (d.bot F k') cs) v1)->Loc P main RO CU Stop own g v:=by induction h with|@done s w hd=>intro r own v s' g I⟨T,D,hw⟩m S b n K;obtain⟨C,g2,g3,g4,g5⟩:=hd T D;obtain⟨f,t,k,ret,st⟩:=s;obtain⟨f',F,k',u,st'⟩:=s';obtain⟨e1,W,e2,e3,a⟩:=m;simp only at e1 W e2 e3 a C g2 g3 g4 g5;subst f' k' u C g2 g3 g4;cases a;(cases n with|here j=>exact K r own _ _ _ _ v (bA.le_refl r) g5 j hw W b (Left.refl ..)|below e j=>simp at e)|@step s w hng U hex hall ih=>intro r own v s' g I⟨T,D,hw⟩m S b n K;have stuck:∀(f:V8)(t:Array VI)(w:VH)(A:cy)(i:VH),¬bV P ⟨f,t,[R0],Vo,[]⟩ w A i:=λf t w A i h=>h.gx ⟨_,w,by rfl⟩;(have o:s.st=[]->s.ret=Vo:=λh=>by cases m:s.ret with|false=>rfl|true=>exact absurd ⟨m,h⟩ U);by_cases J:s.st=[]/\d.l2.isSome=VG/\∃B,s.k=[.inRegion B [],R0];{obtain⟨N,h2,B,h3⟩:=J;have h0:=o N;obtain⟨f,t,k,ret,st⟩:=s;obtain⟨f',F,k',u,st'⟩:=s';obtain⟨e1,W,e2,e3,a⟩:=m;simp only at e1 W e2 e3 a N h3 h0;subst f' k' u N h3 h0;cases a;have hls:bV P ⟨f,t,[.inRegion B [],R0],Vo,[]⟩ (re w T D) ⟨f,t,[R0],Vo,[]⟩ (re w T D):=⟨#[],by rfl⟩;cases n with|@here _ _ k2 j=>(have:Gl d [R0] k2:=by generalize hk:[Wg.inRegion B [],R0]=kk at j;cases j with|app hn _=>simp_all|reg hn _=>simp only[Un,Wg.inRegion.injEq,and_true]at hk;obtain⟨rfl,rfl⟩:=hk;exact .fin hn|fin _=>simp at hk);exact ih T D _ _ hls (s':=⟨d.f,F,[R0],Vo,[]⟩) ⟨I.fn,rfl,I.below⟩ ⟨T,D,by simp_all⟩ ⟨rfl,W,rfl,rfl,.nil⟩ S b (.here this) K|below e j=>simp at e};(have R:s.st=[]->¬d.end s.k:=by intro N h2;rcases h2 with h2|⟨h2,h3⟩;{have h0:=o N;obtain⟨f,t,k,ret,st⟩:=s;simp_all};simp_all);(have Y:∀v1,Env own RO CU v v1->∃A i z v2 q M C,bV P s (re w v1.tape v1.drawn) A i/\wD P c gl A/\VO P main g v1=.go C v2 M/\DG d cs z C/\Ext c r (re w v1.tape v1.drawn) v1 q i v2/\nL c q A z/\(∀e∈M,qZ c q e):=by intro v1 E;have X:cC c r (re w v1.tape v1.drawn) v1:=hw.env b E;obtain⟨A,i,L⟩:=hex v1.tape v1.drawn;rcases tf (main:=main) (bs:=[]) hl S X m I (λe e'=>U ⟨e,e'⟩)with⟨s2,w2,es1,b1,b2,z,v2,q,M,b3,b4,b5,b6⟩|hb;{obtain⟨rfl,rfl⟩:=bV.Nl L ⟨es1,b1⟩;have hs':wD P c gl s':=⟨trivial,by rw[m.k];exact I.items,by have:=I.below;have a:=m.st;revert this;generalize s.st=l at a;generalize s'.st=l' at a;induction a with|nil=>simp|@cons f t F k l l' _ _ ih=>intro h x hx;rcases Tq.1 hx with rfl|hx;{simp_all};exact ih (λy hy=>h y (TV _ hy)) x hx⟩;obtain⟨C,c1,c2⟩:=n.step b3 hs' he (λV=>Jf hl S X m I L (by rw[<-m.ret];exact V)) (λh=>by rw[m.k];refine R ?_;have a:=m.st;rw[h]at a;generalize s.st=l at a;cases a;rfl);grind};exact(hb.not L).elim);refine .step n.running (λv1 E=>?_) (λv1 g' v' M E O=>?_);{obtain⟨A,i,z,v2,q,M,C,L,a2,a3,a4,H,a6,a7⟩:=Y v1 E;exact⟨_,_,_,a3,(H.mine (b.env E) a7).1⟩};obtain⟨A,i,z,v2,q,es',C,L,a2,a3,a4,H,a6,a7⟩:=Y v1 E;rw[a3]at O;injection O with b1 b2 b3;subst b1 b2 b3;refine ih v1.tape v1.drawn A i L a2 ⟨i.tape,i.drawn,H.rel⟩ a6 (λg e=>H.le _ _ (S g e)) (H.mine (b.env E) a7).2 a4 λr2 Z t F k' w2 v3 c1 c2 c3 c4 c5 c6 c7=>?_;exact K r2 Z t F k' w2 v3 (bA.le_trans H.le c1) c2 c3 c4 c5 c6 (Left.after b E H c7)
def lv(live:Nat->Bool)(t:Array VI):Array VI:=t.mapIdx λi v=>if live i then v else undef
theorem QM:d.ov (lv d.live d.t0)=d.t0:=by apply Ul;intro i;simp only[dj.ov,lv,UO,Tp];grind
structure Place(P:Program)(c:dz)(gl:Nat->Bool)(r:bA)(w:VH)(own RO:Nat->Prop)(CU:Nat->Nat->Prop)(v:VH):Prop where
 iX:Listed P c gl
 So:∀g,gl g=VG->r g=VF g
 rel:cC c r w v
 reach:Reach c r own RO CU v
theorem Loc.piece(e:Place P c gl r w own RO CU v)(C:d.kind≠.early){k0 k0':List Wg}(E:k0.all (aU P c gl)=VG)(l:Gl d k0 k0')(F:aj c r tl (lv d.live d.t0))(B:∀t w T D,Q t w->Q t (re w T D))(H:∀T,∃n f w',runN P n (kP ⟨d.f,tl,k0,Vo,[]⟩ (re w T 0))=.next (kP ⟨d.f,f,[R0],Vo,[]⟩ w')/\Q f w')(K:∀k a t f k' y v1,r.le k->Q t y->Gl d [R0] k'->cC c k y v1->aj c k t f->Reach c k a RO CU v1->Left c r own RO v a v1->Loc P main RO CU Stop a (G (d.bot f k') cs) v1):Loc P main RO CU Stop own (G {fn:=d.f,tmps:=d.t0,todo:=k0',defers:=d.defers,mode:=.run,kind:=d.kind,roundOf:=d.roundOf} cs) v:=by have o:wD P c gl ⟨d.f,tl,k0,Vo,[]⟩:=⟨trivial,E,λx I=>by simp at I⟩;have m:nL c r ⟨d.f,tl,k0,Vo,[]⟩ ⟨d.f,lv d.live d.t0,k0,Vo,[]⟩:=⟨rfl,F,rfl,rfl,.nil⟩;have g:=Fit.A2 o e.rel m e.So;(have b:iQ P (LO d Q) ⟨d.f,tl,k0,Vo,[]⟩ w:=by refine tM e.iX (λs w T D h=>⟨h.1,h.2.1,h.2.2.1,h.2.2.2.1,B _ _ T D h.2.2.2.2⟩) g λT=>?_;obtain⟨n,f,w',z,A⟩:=H T;exact⟨n,_,w',z,rfl,rfl,rfl,rfl,A⟩);have:=b.loc e.iX (main:=main) (RO:=RO) (CU:=CU) (Stop:=Stop) (cs:=cs) C o ⟨w.tape,w.drawn,e.rel⟩ m e.So e.reach (.here l) K;rw[dj.bot,QM]at this;exact this
theorem CY{f:V8}{t:Array VI}(h:cd.wp P (λe a w=>e=.normal/\a.defers=[]/\Q a.tmps w) ⟨t,[]⟩ w):∃n b w',runN P n (kP ⟨f,t,[.code cd,R0],Vo,[]⟩ w)=.next (kP ⟨f,b,[R0],Vo,[]⟩ w')/\Q b w':=by obtain⟨e,j,w',⟨rfl,g,i⟩,n,k⟩:=h (base f) [R0] [ei];obtain⟨b,l⟩:=j;simp only at g i;subst g;exact⟨n,b,w',k,i⟩
theorem Loc.code(N:Place P c gl r w own RO CU v){tail:List Wg}(g:Nat->Bool){F:VU}(o:F.todo=.code cd::tail)(s:F.mode=.run)(p:F.kind≠.early)(q:codeOk P c gl cd=VG)(m:fS g cd=VG)(u:aj c r tl (lv g F.tmps))(M:∀t w T D,Q t w->Q t (re w T D))(H:∀T,cd.wp P (λe a w=>e=.normal/\a.defers=[]/\Q a.tmps w) ⟨tl,[]⟩ (re w T 0))(K:∀j b t k l v1,r.le j->Q t l->cC c j l v1->aj c j t k->Reach c j b RO CU v1->Left c r own RO v b v1->Loc P main RO CU Stop b (G {F with tmps:=k.mapIdx λi x=>if g i then x else F.tmps.getD i undef,todo:=tail} cs) v1):Loc P main RO CU Stop own (G F cs) v:=by obtain⟨f,U,W,L,md,R,S⟩:=F;simp only at o s p u H K;subst o s;refine Loc.piece (d:=⟨f,L,R,S,VJ,tail,g,U⟩) N p (k0:=[.code cd,R0]) (by simp[aU,q,R0,codeOk]) (.app (init:=[.code cd]) rfl (by simp[cT,m])) u M (λT=>CY (H T)) λj b t k O l v1 A B n C E I J=>?_;(have:O=tail:=by generalize q:[R0]=V at n;cases n with|@app y _ _=>simp_all|reg h _=>cases h|fin h=>cases h);subst this;exact K j b t k l v1 A B C E I J
end Go.ab
namespace Go.Mx
variable{i N:Nat}
structure Wd where
 L:Bool
 W:Bool
 S:Bool
 n:Nat
 deriving DecidableEq
def Wd.enc(w:Wd):Nat:=w.L.toNat+2*w.W.toNat+4*w.S.toNat+8*w.n
def Wd.zero:Wd:=⟨Vo,Vo,Vo,0⟩
theorem Wd.v7{w v:Wd}(h:w.enc=v.enc):w=v:=by obtain⟨a,b,c,n⟩:=w;obtain⟨d,e,f,g⟩:=v;cases a<;>cases b<;>cases c<;>cases d<;>cases e<;>cases f<;>simp[Wd.enc]at h⊢<;>omega
inductive Th
 |out|c0
 |ld(aw st:Bool)
 |cs(old:Wd)
 |ca(old:Wd)(aw st:Bool)
 |sq|t2
 |a1(old:Wd)(st:Bool)
 |hold|u0
 |uc(old:Wd)
 |ux|us
def nw(o:Wd)(aw st:Bool):Wd:=⟨!o.S||o.L,!aw&&o.W,o.S||(st&&o.L),if o.L||o.S then o.n+1 else o.n⟩
inductive Mv:Th->Wd->Nat->Th->Wd->Nat->Prop
 |start{w:Wd}{m:Nat}:Mv .out w m .c0 w m
 |NP{m:Nat}:Mv .c0 ⟨Vo,Vo,Vo,0⟩ m .hold ⟨VG,Vo,Vo,0⟩ m
 |K1{w:Wd}{m:Nat}:w≠⟨Vo,Vo,Vo,0⟩->Mv .c0 w m (.ld Vo Vo) w m
 |Q7{w:Wd}{m:Nat}{aw st:Bool}:Mv (.ld aw st) w m (.ld aw st) w m
 |Sm{w:Wd}{m:Nat}{st:Bool}:w.L=VG->w.S=Vo->w.W=Vo->w.n≠0->Mv (.ld Vo st) w m (.cs w) w m
 |Qo{w:Wd}{m:Nat}{aw st:Bool}:Mv (.ld aw st) w m (.ca w aw st) w m
 |NM{w:Wd}{m:Nat}:Mv (.cs w) w m (.ld VG Vo) {w with W:=VG} m
 |K5{o w:Wd}{m:Nat}:w≠o->Mv (.cs o) w m (.ld Vo Vo) w m
 |Ir{w:Wd}{m:Nat}{aw st:Bool}:w.L=Vo->w.S=Vo->Mv (.ca w aw st) w m .hold (nw w aw st) m
 |Iq{w:Wd}{m:Nat}{aw st:Bool}:(w.L||w.S)=VG->Mv (.ca w aw st) w m .sq (nw w aw st) m
 |IA{o w:Wd}{m:Nat}{aw st:Bool}:Mv (.ca o aw st) w m (.ld aw st) w m
 |Qc{o w:Wd}{m:Nat}{st:Bool}:o.L=VG->o.S=Vo->o.W=Vo->o.n≠0->Mv (.ca o Vo st) w m (.cs o) w m
 |I4{o w:Wd}{m:Nat}{aw st:Bool}:w≠o->Mv (.ca o aw st) w m (.ld aw st) w m
 |take{w:Wd}{m:Nat}:Mv .sq w (m+1) .t2 w m
 |Pe{w:Wd}{m:Nat}{st:Bool}:w.S=VG->Mv .t2 w m (.a1 w st) w m
 |O6{w:Wd}{m:Nat}{st:Bool}:w.S=Vo->Mv .t2 w m (.ca w VG st) w m
 |Q3{w:Wd}{m:Nat}{st:Bool}:w.S=Vo->Mv .t2 w m (.ld VG st) w m
 |add{w o:Wd}{m:Nat}{st:Bool}:Mv (.a1 o st) w m .hold ⟨VG,w.W,st&&o.n !=1,w.n-1⟩ m
 |want{w:Wd}{m:Nat}:Mv .hold w m .u0 w m
 |Pg{w:Wd}{m:Nat}:w.S=VG->Mv .u0 w m .us {w with L:=Vo} m
 |Og{w:Wd}{m:Nat}:w.S=Vo->w.n=0\/w.W=VG->Mv .u0 w m .out {w with L:=Vo} m
 |QB{w:Wd}{m:Nat}:w.S=Vo->w.n≠0->w.W=Vo->Mv .u0 w m (.uc {w with L:=Vo}) {w with L:=Vo} m
 |Mh{w:Wd}{m:Nat}:Mv (.uc w) w m .us {w with W:=VG,n:=w.n-1} m
 |Jy{o w:Wd}{m:Nat}:w≠o->Mv (.uc o) w m .ux w m
 |Mg{w:Wd}{m:Nat}:w.n=0\/w.L=VG\/w.W=VG\/w.S=VG->Mv .ux w m .out w m
 |PE{w:Wd}{m:Nat}:w.n≠0->w.L=Vo->w.W=Vo->w.S=Vo->Mv .ux w m (.uc w) w m
 |Al{w:Wd}{m:Nat}:Mv .us w m .out w (m+1)
def qq:Th->Bool|.hold|.u0=>VG|_=>Vo
def zP:Th->Bool|.us|.t2|.a1 _ _=>VG|.ld aw _=>aw|.ca _ aw _=>aw|_=>Vo
def pQ:Th->Bool|.sq=>VG|_=>Vo
def Ie:Th->Bool|.us=>VG|_=>Vo
def Cj:Th->Bool|.t2|.a1 _ _=>VG|_=>Vo
def Ig:Th->Bool|.ld aw _=>aw|.ca _ aw _=>aw|_=>Vo
def OV:Th->Bool|.uc _|.ux=>VG|_=>Vo
def cnt(p:Th->Bool)(f:Nat->Th):Nat->Nat
 |0=>0
 |N+1=>cnt p f N+(p (f N)).toNat
def upd(f:Nat->Th)(i:Nat)(x:Th):Nat->Th:=λj=>if j=i then x else f j
theorem xf{p:Th->Bool}{f g:Nat->Th}:∀{N:Nat},(∀j,j<N->p (f j)=p (g j))->cnt p f N=cnt p g N|0,_=>rfl|N+1,h=>by simp only[cnt];rw[xf λj b=>h j Ω,h N Ω]
theorem kX(p:Th->Bool)(f:Nat->Th)(x:Th):∀{N:Nat},i<N->cnt p (upd f i x) N+(p (f i)).toNat=cnt p f N+(p x).toNat|N+1,h=>by simp only[cnt];rcases UX (Vk h)with b|rfl;{have:=kX p f x b;(have e:upd f i x N=f N:=by simp[upd];omega);grind};(have:cnt p (upd f i x) i=cnt p f i:=xf λj c=>by simp[upd];grind);rw[this];simp[upd];omega
theorem pA{p:Th->Bool}{f:Nat->Th}:∀{N i:Nat},i<N->p (f i)=VG->1<=cnt p f N|N+1,i,h,c=>by simp only[cnt];rcases UX (Vk h)with b|rfl;{have:=pA b c;omega};simp_all
theorem oz{p:Th->Bool}{f:Nat->Th}:∀{N i j:Nat},i<j->j<N->p (f i)=VG->p (f j)=VG->2<=cnt p f N|N+1,i,j,b,h,c,e=>by simp only[cnt];rcases UX (Vk h)with d|rfl;{have:=oz b d c e;omega};have:=pA b c;simp_all
def fP(w:Wd):Th->Prop
 |.ld aw st=>st=VG->aw=VG
 |.ca o aw st=>(st=VG->aw=VG)/\(aw=VG->o.W=VG)
 |.cs o=>o.L=VG/\o.S=Vo/\o.W=Vo/\o.n≠0
 |.a1 o _=>w.S=VG/\w.L=Vo/\1<=o.n/\o.n<=w.n
 |.uc o=>o.L=Vo/\o.W=Vo/\o.S=Vo/\o.n≠0
 |_=>True
structure Inv(f:Nat->Th)(N:Nat)(w:Wd)(m:Nat):Prop where
 i1:cnt qq f N=w.L.toNat
 i2:cnt zP f N+m=(w.W||(w.S&&!w.L)).toNat
 i3:¬(w.W=VG/\w.S=VG)
 i4:if w.W then cnt pQ f N=w.n+m+cnt Ie f N else if w.S&&!w.L then cnt pQ f N+cnt Cj f N=w.n else cnt pQ f N=w.n
 i5:w.L=Vo->w.W=Vo->w.S=Vo->w.n≠0->1<=cnt OV f N
 i6:w.S=VG->w.n≠0
 i8:w.W=Vo->cnt Ig f N=0
 loc:∀i,i<N->fP w (f i)
section
theorem uR(f:Nat->Th)(N:Nat):cnt zP f N=cnt Ie f N+cnt Cj f N+cnt Ig f N:=by induction N with|zero=>rfl|succ N c=>simp only[cnt];(have:∀t:Th,(zP t).toNat=(Ie t).toNat+(Cj t).toNat+(Ig t).toNat:=by intro t;cases t with|ld a b=>cases a<;>rfl|ca o a b=>cases a<;>rfl|_=>rfl);grind
section
variable{f:Nat->Th}{w w':Wd}{m m':Nat}{x:Th}
theorem wZ(a:i<N)(c:fP w' x)(h:∀j,j<N->j≠i->fP w' (f j)):∀j,j<N->fP w' (upd f i x j):=by intro j b;unfold upd;grind
theorem G'{t:Th}(h:fP w t)(j:w.S=VG->w.L=Vo->w'.S=VG/\w'.L=Vo/\w.n<=w'.n):fP w' t:=by cases t with|a1 o l=>obtain⟨d,e,g,k⟩:=h;obtain⟨a,b,c⟩:=j d e;exact⟨a,b,g,by omega⟩|_=>exact h
set_option maxHeartbeats 4000000 in theorem Inv.step(h:Inv f N w m)(c:i<N)(u:Mv (f i) w m x w' m'):Inv (upd f i x) N w' m':=by have g:=kX qq f x c;have k:=kX Ie f x c;have l:=kX Cj f x c;have q:=kX Ig f x c;have r:=kX pQ f x c;have s:=kX OV f x c;have s1:=uR f N;have s2:=uR (upd f i x) N;have v:=h.loc i c;have d:∀p:Th->Bool,p (f i)=VG->1<=cnt p f N:=λp Z=>pA c Z;obtain⟨J,K,M,O,P,Q,R,e⟩:=h;have a:fP w' x->(w.S=VG->w.L=Vo->w'.S=VG/\w'.L=Vo/\w.n<=w'.n)->∀j,j<N->fP w' (upd f i x j):=λE F=>wZ c E λj t _=>G' (e j t) F;have H:fP w' x->(∀j,j<N->j≠i->fP w' (f j))->∀j,j<N->fP w' (upd f i x j):=wZ c;(have b:fP w' x->(2<=cnt Cj f N->False)->Cj (f i)=VG->∀j,j<N->fP w' (upd f i x j):=λE F T=>wZ c E λj t I=>by have:=e j t;cases V:f j with|a1 o Y=>refine(F ?_).elim;(have U:Cj (f j)=VG:=by rw[V];rfl);rcases Nat.lt_or_gt_of_ne I with G|G;{exact oz G c U T};exact oz G t T U|_=>rw[V]at this;exact this);have z:=d qq;have A:=d Ie;have B:=d Cj;have C:=d Ig;clear d;generalize hy:f i=y at u g k l q r s v z A B C b;clear hy;obtain⟨L,W,S,n⟩:=w;cases y with|ld D Y=>cases D<;>cases L<;>cases W<;>cases S<;>cases u<;>(try dsimp only[Bool.or_true,Bool.or_false,Bool.true_or,Bool.false_or]at*)<;>(try contradiction)<;>(try simp only[TG,or_false,false_or]at*)<;>(simp[qq,Ie,Cj,Ig,pQ,OV,nw,fP]at J K M O P Q R g k l q r s v z A B C<;>(refine⟨?_,?_,?_,?_,?_,?_,?_,?_⟩<;>first|(simp[nw]<;>omega)|omega|(refine a ?_ ?_<;>simp[fP,nw]<;>omega)|(refine a ⟨‹_›,‹_›,‹_›,‹_›⟩ ?_;simp;done)|(refine a ⟨‹_›,‹_›,‹_›,‹_›⟩ ?_;simp;omega)|(refine b ?_ (λX=>?_) rfl<;>(try simp[fP,nw])<;>omega)))|ca o D Y=>cases D<;>cases L<;>cases W<;>cases S<;>cases u<;>(try dsimp only[Bool.or_true,Bool.or_false,Bool.true_or,Bool.false_or]at*)<;>(try contradiction)<;>(try simp only[TG,or_false,false_or]at*)<;>(simp[qq,Ie,Cj,Ig,pQ,OV,nw,fP]at J K M O P Q R g k l q r s v z A B C<;>(refine⟨?_,?_,?_,?_,?_,?_,?_,?_⟩<;>first|(simp[nw]<;>omega)|omega|(refine a ?_ ?_<;>simp[fP,nw]<;>omega)|(refine a ⟨‹_›,‹_›,‹_›,‹_›⟩ ?_;simp;done)|(refine a ⟨‹_›,‹_›,‹_›,‹_›⟩ ?_;simp;omega)|(refine b ?_ (λX=>?_) rfl<;>(try simp[fP,nw])<;>omega)))|_=>cases L<;>cases W<;>cases S<;>cases u<;>(try dsimp only[Bool.or_true,Bool.or_false,Bool.true_or,Bool.false_or]at*)<;>(try contradiction)<;>(try simp only[TG,or_false,false_or]at*)<;>(simp[qq,Ie,Cj,Ig,pQ,OV,nw,fP]at J K M O P Q R g k l q r s v z A B C<;>(refine⟨?_,?_,?_,?_,?_,?_,?_,?_⟩<;>first|(simp[nw]<;>omega)|omega|(refine a ?_ ?_<;>simp[fP,nw]<;>omega)|(refine b ?_ (λX=>?_) rfl<;>(try simp[fP,nw])<;>omega)))
end
end
theorem oV{p:Th->Bool}{f:Nat->Th}:∀{N:Nat},(∀i,i<N->p (f i)=Vo)->cnt p f N=0|0,_=>rfl|N+1,h=>by simp only[cnt];rw[oV λi b=>h i Ω,h N Ω];rfl
theorem Inv.KL{f:Nat->Th}{w:Wd}(h:Inv f N w 0)(b:∀i,i<N->f i=.out\/f i=.sq):∀i,i<N->f i=.out:=by(have z:∀p:Th->Bool,p .out=Vo->p .sq=Vo->cnt p f N=0:=λp l m=>oV λi a=>by grind);obtain⟨c,d,q,g,j,r,s,k⟩:=h;rw[z qq rfl rfl]at c;rw[z zP rfl rfl]at d;rw[z Ie rfl rfl,z Cj rfl rfl]at g;rw[z OV rfl rfl]at j;obtain⟨L,W,S,n⟩:=w;(have o:cnt pQ f N=0:=by grind);intro i a;rcases b i a with e|e;{exact e};have:=pA (p:=pQ) (f:=f) a (by rw[e];rfl);omega
def wt:Th->Nat
 |.uc _|.ux=>5
 |.us=>4
 |.t2|.a1 _ _=>2
 |.ld aw _|.ca _ aw _=>if aw then 1 else 2
 |.cs _=>2
 |.c0=>2
 |_=>0
end Go.Mx
namespace Go.Rk
variable{α:Type}
inductive Rk(α:Type)where
 |z
 |s(f:α->Rk α)
def Lt{α:Type}(a b:Rk α):Prop:=∃f x,b=.s f/\a=f x
theorem Lt.SU:WellFounded (Lt (α:=α)):=by refine⟨λa=>?_⟩;induction a with|z=>exact⟨_,λb⟨f,x,h,_⟩=>by cases h⟩|s g c=>refine⟨_,λb⟨f,x,h,e⟩=>?_⟩;cases h;rw[e];exact c x
abbrev Dh{α:Type}:Rk α->Rk α->Prop:=Relation.TransGen Lt
theorem Lt.wf:WellFounded (Dh (α:=α)):=Lt.SU.transGen
theorem q6(f:α->Rk α)(x:α):Dh (f x) (.s f):=.single ⟨f,x,rfl,rfl⟩
theorem Sc(f:α->Rk α)(x:α):Dh (f x) (.s λ_=>.s f):=.tail (.single ⟨f,x,rfl,rfl⟩) ⟨_,x,rfl,rfl⟩
def OT{α:Type}(N:Nat)(V' V:Nat->Rk α):Prop:=∃i,i<N/\Dh (V' i) (V i)/\∀j,j≠i->V' j=V j
theorem OT.wf{α:Type}:∀N:Nat,WellFounded (OT (α:=α) N)|0=>⟨λV=>⟨_,λc⟨i,h,_⟩=>absurd h (Uj i)⟩⟩|N+1=>by have j:=OT.wf (α:=α) N;(have f:∀d:Rk α,∀V:Nat->Rk α,V N=d->Acc (OT (N+1)) V:=by intro d;induction Lt.wf.apply d with|intro d _ l=>intro V;induction j.apply V with|intro V _ e=>intro g;refine⟨_,λc⟨i,k,b,a⟩=>?_⟩;rcases UX (Vk k)with h|rfl;{exact e c ⟨i,h,b,a⟩ ((a N Ω).trans g)};exact l (c i) (g▸b) c rfl);exact⟨λV=>f _ V rfl⟩
end Go.Rk
namespace Go.Cr
open Go.Conc Go.Mx Go.Rk
open Go.ConcR(KK WgAt stA smA rd wr mk)
open Go.ConcM(OsLater)
variable{g g':VK}{own' O:Nat->Prop}{es:Array Wv}{v':VH}
section
structure Cx where
 P:Program
 RO:Nat->Prop
 mu:Nat
 mo:Nat
 pre:Array VI
 tP:VX
 mm:Nat
 AT:Array MapEntry->Prop
 wg:Nat
 tW:VX
 out:Nat
 tO:VX
 no:Nat
 oc:Nat->Nat->Prop
 res:Nat->VI
 base:Nat
 n:Nat
 End:VK->VH->Prop
 w0:VH
 solo:Prop
 halt:(Nat->Prop)->VK->VH->Prop
 sw:Int->Int->Obj
variable(C:Cx)
def Cx.muA:Wq:=⟨C.mu,C.mo,VJ⟩
def Cx.msA:Wq:=⟨C.mu,C.mo+1,VJ⟩
def av(v:VH)(s q:Int):Prop:=v.heap[C.mu]?=VF (.cells (C.pre++#[.int .i32 s,.int .u32 q]) C.tP)
def cO(v:VH)(w:Wd)(q:Nat):Prop:=av C v w.enc q
def PK(v:VH)(es:Array MapEntry):Prop:=∃ck,v.heap[C.mm]?=VF (.map es ck)
def ao(v:VH):Prop:=∃es,PK C v es/\C.AT es
def Ck(v:VH):Prop:=∃cs:Array VI,v.heap[C.out]?=VF (.cells cs C.tO)/\cs.size=C.no
structure dm(v:VH):Prop where
 port:∃s q,av C v s q
 gv:∃st sm,v.heap[C.wg]?=VF (C.sw st sm)
 ua:Ck C v
structure W0(w:VH):Prop where
 os:OsLater C.w0.os w.os
 out:w.output=C.w0.output
 tape:w.tape=C.w0.tape
structure Cx.Ok:Prop where
 pre:C.pre.size=C.mo
 lK:C.mu≠C.mm
 ga:C.mu≠C.wg
 fU:C.mu≠C.out
 nn:C.mm≠C.wg
 mg:C.mm≠C.out
 iK:C.wg≠C.out
 ro:∀k,C.RO k->k≠C.mu/\k≠C.mm/\k≠C.wg/\k≠C.out
 oc:∀i j o,C.oc i o->C.oc j o->i=j
 SX:∀o,¬C.oc 0 o
structure Env(i:Nat)(own:Nat->Prop)(v v1:VH):Prop where
 keep:∀k,own k\/C.RO k->v1.heap[k]?=v.heap[k]?
 grow:v.heap.size<=v1.heap.size
 aJ:dm C v->dm C v1
 A3:∀o,C.oc i o->v1.cell? ⟨C.out,o,VJ⟩=v.cell? ⟨C.out,o,VJ⟩
def Cx.CU(k n:Nat):Prop:=k=C.mu/\n<=C.mo
def Cx.wk(i:Nat):Prop:=i≠0\/C.solo
def qS(own:Nat->Prop)(e:Wv):Prop:=ab.SI own C.RO (λ_ _=>False) e\/∃o,o<C.mo/\e=⟨.cell ⟨C.mu,o,VJ⟩,Vo,Vo⟩
structure lz(own:Nat->Prop)(v v':VH)(es:Array Wv):Prop where
 keep:∀k,k<v.heap.size->¬own k->v'.heap[k]?=v.heap[k]?
 grow:v.heap.size<=v'.heap.size
 os:v'.os=v.os
 out:v'.output=v.output
 tape:v'.tape=v.tape
 evs:∀e∈es,qS C (ab.more own v v') e
structure Q4(i:Nat)(v v':VH)(es:Array Wv):Prop where
 keep:∀k,k≠C.out->v'.heap[k]?=v.heap[k]?
 size:v'.heap.size=v.heap.size
 os:v'.os=v.os
 out:v'.output=v.output
 tape:v'.tape=v.tape
 blk:Ck C v->Ck C v'
 cells:∀o,¬C.oc i o->v'.cell? ⟨C.out,o,VJ⟩=v.cell? ⟨C.out,o,VJ⟩
 evs:∀e∈es,∃o,C.oc i o/\e=⟨.cell ⟨C.out,o,VJ⟩,VG,Vo⟩
def Fin(i:Nat)(v:VH):Prop:=∀o,C.oc i o->v.cell? ⟨C.out,o,VJ⟩=VF (C.res o)
structure DL(w w':VH)(es:Array Wv):Prop where
 heap:w'.heap=w.heap
 tape:w'.tape=w.tape
 out:w'.output=w.output
 os:OsLater w.os w'.os
 evs:es=#[]
structure Md where
 hold:Bool
 deaf:Bool
 tok:Bool
 said:Bool
def Md.free:Md:=⟨Vo,Vo,Vo,Vo⟩
def Md.bD:Md:=⟨Vo,VG,Vo,Vo⟩
def Md.lZ:Md:=⟨VG,VG,Vo,Vo⟩
def Md.Ap:Md:=⟨VG,Vo,Vo,Vo⟩
def Md.own:Md:=⟨VG,Vo,VG,Vo⟩
def Md.xe:Md:=⟨Vo,Vo,Vo,VG⟩
def Md.uj:Md:=⟨Vo,VG,Vo,VG⟩
def fq(m:Md)(own:Nat->Prop):Nat->Prop:=λk=>own k\/(m.tok=VG/\k=C.mm)
inductive iJ(i:Nat):Md->Mark->Md->Prop
 |OL:iJ i .free .disable .bD
 |KU:iJ i .Ap .disable .lZ
 |IM:iJ i .xe .disable .uj
 |en:iJ i .bD .enable .free
 |Qy:iJ i .lZ .enable .Ap
 |acq:iJ i .Ap (.acquire C.muA) .own
 |Dz:iJ i .own (.releaseMerge C.muA) .Ap
 |C1:i≠0->iJ i .free (.releaseMerge (stA C.wg)) .xe
 |sr{m:Md}:i=0->m.tok=Vo->iJ i m (.read (smA C.wg)) m
section stops
variable(i:Nat)(own:Nat->Prop)
abbrev cN(S:VK->VH->Prop)(n:Nat)(g:VK)(w:VH):Prop:=Goes C.P (i==0) (Env C i own) DL S n g w
section lock
variable(H:Wd->Bool->Bool->Nat->VK->VH->Prop)(Q:VK->VH->Prop)
def tG(aw st:Bool)(it:Nat)(g:VK)(w:VH):Prop:=
 g.status=.running/\∀wd q,cO C w wd q->(aw=VG->wd.W=VG)->∃g',VO C.P (i==0) g w=.go g' w #[]/\∃n,cN C i own (H wd aw st it) n g' w
def Nn(o:Wd)(it:Nat)(g:VK)(w:VH):Prop:=
 g.status=.running/\∀wd q,cO C w wd q->
   (wd=o->∃g',VO C.P (i==0) g w=.go g' (w.setCell C.muA (.int .i32 ({wd with W:=VG}:Wd).enc)) #[rd C.muA,wr C.muA]/\∃n,cN C i own (tG C i own H VG Vo (it+1)) n g' (w.setCell C.muA (.int .i32 ({wd with W:=VG}:Wd).enc)))/\
   (wd≠o->∃g',VO C.P (i==0) g w=.go g' w #[rd C.muA]/\∃n,cN C i own (tG C i own H Vo Vo (it+1)) n g' w)
def AtA1(o:Wd)(st:Bool)(g:VK)(w:VH):Prop:=
 g.status=.running/\∀wd q,cO C w wd q->wd.n<100000000->wd.L=Vo->wd.S=VG->wd.n≠0->
   ∃g',VO C.P (i==0) g w=.go g' (w.setCell C.muA (.int .i32 (⟨VG,wd.W,st&&o.n !=1,wd.n-1⟩:Wd).enc)) #[rd C.muA,wr C.muA]/\Q g' (w.setCell C.muA (.int .i32 (⟨VG,wd.W,st&&o.n !=1,wd.n-1⟩:Wd).enc))
def Js(g:VK)(w:VH):Prop:=
 g.status=.running/\∃st,∀wd q,cO C w wd q->wd.n<100000000->(wd.S=VG->wd.L=Vo/\wd.W=Vo/\wd.n≠0)->(wd.S=Vo->wd.W=VG)->∃g',VO C.P (i==0) g w=.go g' w #[]/\
   (wd.S=VG->∃n,cN C i own (AtA1 C i Q wd st) n g' w)/\(wd.S=Vo->∃n,cN C i own (H wd VG st 0) n g' w)
def C2(g:VK)(w:VH):Prop:=
 g.status=.running/\g.offers=VJ/\(∀wd,cO C w wd 0->VO C.P (i==0) g w=.go {g with status:=.blocked} w #[])/\
   ∀wd q,cO C w wd (q+1)->∃g',VO C.P (i==0) g w=.go g' (w.setCell C.msA (.int .u32 (q:Nat))) (semEvents C.msA)/\∃n,cN C i own (Js C i own H Q) n g' (w.setCell C.msA (.int .u32 (q:Nat)))
def MV(o:Wd)(aw st:Bool)(it:Nat)(g:VK)(w:VH):Prop:=
 g.status=.running/\∀wd q,cO C w wd q->
   (wd=o->∃g',VO C.P (i==0) g w=.go g' (w.setCell C.muA (.int .i32 (nw o aw st).enc)) #[rd C.muA,wr C.muA]/\
    (o.L=Vo->o.S=Vo->Q g' (w.setCell C.muA (.int .i32 (nw o aw st).enc)))/\((o.L||o.S)=VG->∃n,cN C i own (C2 C i own H Q) n g' (w.setCell C.muA (.int .i32 (nw o aw st).enc))))/\
   (wd≠o->∃g',VO C.P (i==0) g w=.go g' w #[rd C.muA]/\∃n,cN C i own (tG C i own H aw st it) n g' w)
def gI(o:Wd)(aw st:Bool)(it:Nat)(g:VK)(w:VH):Prop:=
 (it<4/\tG C i own H aw st (it+1) g w)\/(it<4/\o.L=VG/\o.S=Vo/\o.W=Vo/\o.n≠0/\aw=Vo/\Nn C i own H o it g w)\/MV C i own H Q o aw st it g w
def iV:Prop:=∀o aw st it g w,it<=4->(aw=VG->o.W=VG)->(st=VG->aw=VG)->o.n<100000000->H o aw st it g w->∃n,cN C i own (gI C i own H Q o aw st it) n g w
end lock
section unlock
variable(HU:Wd->VK->VH->Prop)(Q:VK->VH->Prop)
def zC(g:VK)(w:VH):Prop:=
 g.status=.running/\mayWake C.P g=VG/\∀wd q,q<100000000->cO C w wd q->∃g',VO C.P (i==0) g w=.go g' (w.setCell C.msA (.int .u32 (q+1:Nat))) (semEvents C.msA)/\∃n,cN C i own Q n g' (w.setCell C.msA (.int .u32 (q+1:Nat)))
def JV(g:VK)(w:VH):Prop:=
 g.status=.running/\∀wd q,cO C w wd q->wd.n<100000000->∃g',VO C.P (i==0) g w=.go g' w #[]/\
   (wd.n=0\/wd.L=VG\/wd.W=VG\/wd.S=VG->∃n,cN C i own Q n g' w)/\(wd.n≠0->wd.L=Vo->wd.W=Vo->wd.S=Vo->∃n,cN C i own (HU wd) n g' w)
def Df(o:Wd)(g:VK)(w:VH):Prop:=
 g.status=.running/\∀wd q,cO C w wd q->
   (wd=o->∃g',VO C.P (i==0) g w=.go g' (w.setCell C.muA (.int .i32 ({wd with W:=VG,n:=wd.n-1}:Wd).enc)) #[rd C.muA,wr C.muA]/\∃n,cN C i own (zC C i own Q) n g' (w.setCell C.muA (.int .i32 ({wd with W:=VG,n:=wd.n-1}:Wd).enc)))/\
   (wd≠o->∃g',VO C.P (i==0) g w=.go g' w #[rd C.muA]/\∃n,cN C i own (JV C i own HU Q) n g' w)
def Ad:Prop:=∀o g w,o.L=Vo->o.W=Vo->o.S=Vo->o.n≠0->o.n<100000000->HU o g w->∃n,cN C i own (Df C i own HU Q o) n g w
def M7(g:VK)(w:VH):Prop:=
 g.status=.running/\∀wd q,cO C w wd q->wd.L=VG->wd.n<100000000->
   ∃g',VO C.P (i==0) g w=.go g' (w.setCell C.muA (.int .i32 ({wd with L:=Vo}:Wd).enc)) #[rd C.muA,wr C.muA]/\
     (wd.S=VG->∃n,cN C i own (zC C i own Q) n g' (w.setCell C.muA (.int .i32 ({wd with L:=Vo}:Wd).enc)))/\
     (wd.S=Vo->(wd.n=0\/wd.W=VG)->∃n,cN C i own Q n g' (w.setCell C.muA (.int .i32 ({wd with L:=Vo}:Wd).enc)))/\
     (wd.S=Vo->wd.n≠0->wd.W=Vo->∃n,cN C i own (Df C i own HU Q {wd with L:=Vo}) n g' (w.setCell C.muA (.int .i32 ({wd with L:=Vo}:Wd).enc)))
end unlock
def MS(H:Wd->Bool->Bool->Nat->VK->VH->Prop)(Q:VK->VH->Prop)(g:VK)(w:VH):Prop:=
 g.status=.running/\∀wd q,cO C w wd q->
   (wd=⟨Vo,Vo,Vo,0⟩->∃g',VO C.P (i==0) g w=.go g' (w.setCell C.muA (.int .i32 1)) #[rd C.muA,wr C.muA]/\Q g' (w.setCell C.muA (.int .i32 1)))/\
   (wd≠⟨Vo,Vo,Vo,0⟩->∃g',VO C.P (i==0) g w=.go g' w #[rd C.muA]/\∃n,cN C i own (tG C i own H Vo Vo 0) n g' w)
def AtD4(g:VK)(w:VH):Prop:=
 g.status=.running/\mayWake C.P g=VG/\(WgAt C.tW C.wg w 0 0->∃g',VO C.P (i==0) g w=.go g' (w.setCell (smA C.wg) (.int .u32 1)) (semEvents (smA C.wg))/\∃q,QuitsD C.P q 1 g')
def AtD3(g:VK)(w:VH):Prop:=
 g.status=.running/\(WgAt C.tW C.wg w 1 0->∃g',VO C.P (i==0) g w=.go g' (w.setCell (stA C.wg) (.int .u64 0)) #[wr (stA C.wg)]/\∃n,cN C i own (AtD4 C i) n g' (w.setCell (stA C.wg) (.int .u64 0)))
def AtD2(g:VK)(w:VH):Prop:=
 g.status=.running/\(WgAt C.tW C.wg w 1 0->∃g',VO C.P (i==0) g w=.go g' w #[rd (stA C.wg)]/\∃n,cN C i own (AtD3 C i own) n g' w)
def AtD1(g:VK)(w:VH):Prop:=
 g.status=.running/\∀v wt:Nat,wt<=1->v<100000000->WgAt C.tW C.wg w ((v+1)*KK+wt) 0->
   ∃g',VO C.P (i==0) g w=.go g' (w.setCell (stA C.wg) (.int .u64 (v*KK+wt))) #[rd (stA C.wg),wr (stA C.wg)]/\
     ((v=0/\wt=1)->∃n,cN C i own (AtD2 C i own) n g' (w.setCell (stA C.wg) (.int .u64 (v*KK+wt))))/\(¬(v=0/\wt=1)->∃q,QuitsD C.P q 1 g')
section wait
variable(A:VK->VH->Prop)
def AtAcq(g:VK)(w:VH):Prop:=
 g.status=.running/\∃g',VO C.P (i==0) g w=.go g' w #[mk (.acquire (stA C.wg))]/\(dm C w->(∀j,Fin C j w)->cO C w ⟨Vo,Vo,Vo,0⟩ 0->W0 C w->C.End g' w)
def AtKe(g:VK)(w:VH):Prop:=
 g.status=.running/\∃g',VO C.P (i==0) g w=.go g' w #[mk .enable]/\∃n,cN C i own (AtAcq C i) n g' w
def AtW4(g:VK)(w:VH):Prop:=
 g.status=.running/\(WgAt C.tW C.wg w 0 0->∃g',VO C.P (i==0) g w=.go g' w #[rd (stA C.wg)]/\∃n,cN C i own (AtKe C i own) n g' w)
def AtW3(g:VK)(w:VH):Prop:=
 g.status=.running/\g.offers=VJ/\((∃st,WgAt C.tW C.wg w st 0)->VO C.P (i==0) g w=.go {g with status:=.blocked} w #[])/\
   (WgAt C.tW C.wg w 0 1->∃g',VO C.P (i==0) g w=.go g' (w.setCell (smA C.wg) (.int .u32 0)) (semEvents (smA C.wg))/\∃n,cN C i own (AtW4 C i own) n g' (w.setCell (smA C.wg) (.int .u32 0)))
def O0(g:VK)(w:VH):Prop:=
 g.status=.running/\∃g',VO C.P (i==0) g w=.go g' w #[mk (.write (smA C.wg))]/\∃n,cN C i own (AtW3 C i own) n g' w
def AtW2(vs:Nat)(g:VK)(w:VH):Prop:=
 g.status=.running/\∀v:Nat,v<100000000->WgAt C.tW C.wg w (v*KK) 0->
   (v=vs->∃g',VO C.P (i==0) g w=.go g' (w.setCell (stA C.wg) (.int .u64 (v*KK+1))) #[rd (stA C.wg),wr (stA C.wg)]/\∃n,cN C i own (O0 C i own) n g' (w.setCell (stA C.wg) (.int .u64 (v*KK+1))))/\
   (v≠vs->∃g',VO C.P (i==0) g w=.go g' w #[rd (stA C.wg)]/\∃n,cN C i own A n g' w)
def AtW1(g:VK)(w:VH):Prop:=
 g.status=.running/\∀v:Nat,v<100000000->WgAt C.tW C.wg w (v*KK) 0->∃g',VO C.P (i==0) g w=.go g' w #[rd (stA C.wg)]/\
   (v=0->∃n,cN C i own (AtKe C i own) n g' w)/\(v≠0->∃n,cN C i own (AtW2 C i own A v) n g' w)
def zf:Prop:=∀g w,A g w->∃n,cN C i own (AtW1 C i own A) n g w
end wait
def SC(c:Nat->VK->VH->Prop)(g:VK)(w:VH):Prop:=
 g.status=.running/\∀v:Nat,v<100000000->WgAt C.tW C.wg w (v*KK) 0->
   ∃g',VO C.P (i==0) g w=.go g' (w.setCell (stA C.wg) (.int .u64 ((v+1)*KK))) #[rd (stA C.wg),wr (stA C.wg)]/\c v g' (w.setCell (stA C.wg) (.int .u64 ((v+1)*KK)))
end stops
abbrev Ix:=VK×VH×VH
inductive fN:Nat->Nat->Md->Rk Ix->(Nat->Prop)->VK->VH->Prop
 |step{i j:Nat}{m:Md}{f:Ix->Rk Ix}{own:Nat->Prop}{g:VK}{v:VH}:g.status=.running->m.said=Vo->
  (∀v1,Env C i (fq C m own) v v1->∃g' v' es,VO C.P (i==0) g v1=.go g' v' es/\lz C (fq C m own) v1 v' es)->
  (∀v1 g' v' es,Env C i (fq C m own) v v1->VO C.P (i==0) g v1=.go g' v' es->fN i j m (f (g',v1,v')) (ab.more own v1 v') g' v')->fN i j m (.s f) own g v
 |idle{i j:Nat}{m:Md}{f:Ix->Rk Ix}{own:Nat->Prop}{g:VK}{v:VH}:g.status=.running->
  (∀v1,Env C i (fq C m own) v v1->∃g' v',VO C.P (i==0) g v1=.go g' v' #[]/\DL v1 v' #[])->
  (∀v1 g' v' es,Env C i (fq C m own) v v1->VO C.P (i==0) g v1=.go g' v' es->fN i j m (f (g',v1,v')) own g' v')->fN i j m (.s f) own g v
 |mark{i j:Nat}{m m':Md}{k:Mark}{f:Ix->Rk Ix}{own:Nat->Prop}{g:VK}{v:VH}:g.status=.running->iJ C i m k m'->
  (∀v1,Env C i (fq C m own) v v1->∃g',VO C.P (i==0) g v1=.go g' v1 #[mk k])->(k=.releaseMerge C.muA->m=.own/\ao C v)->(k=.releaseMerge (stA C.wg)->Fin C i v)->
  (∀v1 g' v' es,Env C i (fq C m own) v v1->(k=.acquire C.muA->ao C v1)->VO C.P (i==0) g v1=.go g' v' es->fN i j m' (f (g',v1,v1)) own g' v1)->fN i j m (.s f) own g v
 |lock{i j:Nat}{f:Ix->Rk Ix}{own:Nat->Prop}{g:VK}{v:VH}(H:Wd->Bool->Bool->Nat->VK->VH->Prop)(Q:VK->VH->Prop):g.status=.running->C.wk i->
  (∀g v1 v2,Q g v1->Env C i own v1 v2->Q g v2)->iV C i own H Q->(∀v1,Env C i own v v1->MS C i own H Q g v1)->
  (∀g' v1,Env C i own v v1->Q g' v1->fN i j .lZ (f (g',v1,v1)) own g' v1)->fN i j .bD (.s λ_=>.s f) own g v
 |unlock{i j:Nat}{f:Ix->Rk Ix}{own:Nat->Prop}{g:VK}{v:VH}(HU:Wd->VK->VH->Prop)(Q:VK->VH->Prop):g.status=.running->C.wk i->
  (∀g v1 v2,Q g v1->Env C i own v1 v2->Q g v2)->Ad C i own HU Q->(∀v1,Env C i own v v1->M7 C i own HU Q g v1)->
  (∀g' v1,Env C i own v v1->Q g' v1->fN i j .bD (f (g',v1,v1)) own g' v1)->fN i j .lZ (.s λ_=>.s f) own g v
 |put{i j:Nat}{f:Ix->Rk Ix}{own:Nat->Prop}{g:VK}{v:VH}:g.status=.running->i≠0->
  (∀v1,Env C i own v v1->dm C v1->∃g' v' es,VO C.P (i==0) g v1=.go g' v' es/\Q4 C i v1 v' es)->
  (∀v1 g' v' es,Env C i own v v1->dm C v1->VO C.P (i==0) g v1=.go g' v' es->fN i j .free (f (g',v1,v')) own g' v')->fN i j .free (.s f) own g v
 |done{i j:Nat}{own:Nat->Prop}{g:VK}{v:VH}:i≠0->(∀v1,Env C i own v v1->AtD1 C i own g v1)->fN i j .uj (.s λ_=>.z) own g v
 |add{i x:Nat}{f:Ix->Rk Ix}{own:Nat->Prop}{g:VK}{v:VH}(c:Nat->VK->VH->Prop):i=0->(∀v1,Env C i own v v1->SC C i c g v1)->
  (∀v1 y g',Env C i own v v1->c y g' v1->fN i (2*x+1) .bD (f (g',v1,v1)) own g' v1)->fN i (2*x) .bD (.s f) own g v
 |spawn{i x:Nat}{f ρ:Ix->Rk Ix}{own ownc:Nat->Prop}{g:VK}{v:VH}:i=0->g.status=.running->x<C.n->(∀k,ownc k->own k)->
  (∀v1,Env C i own v v1->∃g' child,VO C.P (i==0) g v1=.spawn g' child v1 #[]/\child.status=.running)->
  (∀v1 g' child v' es,Env C i own v v1->VO C.P (i==0) g v1=.spawn g' child v' es->fN (C.base+x) 0 .free (ρ (child,v1,v1)) ownc child v1)->
  (∀v1 g' child v' es,Env C i own v v1->VO C.P (i==0) g v1=.spawn g' child v' es->fN i (2*x+2) .free (f (g',v1,v1)) (λk=>own k/\¬ownc k) g' v1)->
  fN i (2*x+1) .free (.s f) own g v
 |wait{i:Nat}{own:Nat->Prop}{g:VK}{v:VH}(A:VK->VH->Prop):i=0->zf C i own A->(∃n,cN C i own A n g v)->fN i (2*C.n) .bD .z own g v
 |stop{i j:Nat}{own:Nat->Prop}{g:VK}{v:VH}:C.solo->g.status=.running->(∀v1,Env C i own v v1->C.halt own g v1)->fN i j .free .z own g v
end
section
variable{C:Cx}{i j:Nat}{m:Md}{own:Nat->Prop}{v v1 v2:VH}
theorem Env.refl:Env C i own v v:=⟨λ_ _=>rfl,Ti _,id,λ_ _=>rfl⟩
theorem Env.trans(h:Env C i own v v1)(k:Env C i own v1 v2):Env C i own v v2:=⟨λx b=>(k.keep x b).trans (h.keep x b),TK h.grow k.grow,λx=>k.aJ (h.aJ x),λo a=>(k.A3 o a).trans (h.A3 o a)⟩
theorem Env.sub(h:Env C i own v v1)(b:∀k,own' k->own k):Env C i own' v v1:=⟨λk a=>h.keep k (a.imp (b k) id),h.grow,h.aJ,h.A3⟩
theorem Env.fE(h:Env C i (fq C m own) v v1):Env C i own v v1:=h.sub λ_ a=>.inl a
theorem Env.JA(h:Env C i own v v1)(b:m.tok=Vo):Env C i (fq C m own) v v1:=h.sub λ_ a=>a.resolve_right (by simp[b])
theorem Env.Td(l:C.pre.size=C.mo)(a:dm C v)(h:Env C i O v v1):ab.Env O C.RO C.CU v v1:=⟨h.keep,λk n e x t f p=>by obtain⟨rfl,o⟩:=e;obtain⟨s,q,c⟩:=a.port;obtain⟨u,r,d⟩:=(h.aJ a).port;unfold av at c d;grind,h.grow⟩
theorem bF(a b c:VH)(h:Env C i own a b)(k:Env C i own b c):Env C i own a c:=h.trans k
theorem ao.env(h:ao C v)(e:Env C i own v v1)(f:own C.mm):ao C v1:=by obtain⟨b,⟨a,d⟩,c⟩:=h;exact⟨b,⟨a,(e.keep _ (.inl f)).trans d⟩,c⟩
theorem Fin.env(h:Fin C i v)(b:Env C i own v v1):Fin C i v1:=λo a=>(b.A3 o a).trans (h o a)
theorem fN.env{ρ:Rk Ix}(h:fN C i j m ρ own g v)(b:Env C i (fq C m own) v v1):fN C i j m ρ own g v1:=by cases h with|step d f k p=>exact .step d f (λx a=>k x (b.trans a)) λx l q o a=>p x l q o (b.trans a)|idle d f k=>exact .idle d (λx a=>f x (b.trans a)) λx l q o a=>k x l q o (b.trans a)|mark d f k p s t=>exact .mark d f (λx a=>k x (b.trans a)) (λe=>⟨(p e).1,(p e).2.env b (by rw[(p e).1];exact .inr ⟨rfl,rfl⟩)⟩) (λe=>(s e).env b) λx l q o a=>t x l q o (b.trans a)|lock H Q d r f k p s=>exact .lock H Q d r f k (λx a=>p x (b.fE.trans a)) λl x a=>s l x (b.fE.trans a)|unlock H Q d r f k p s=>exact .unlock H Q d r f k (λx a=>p x (b.fE.trans a)) λl x a=>s l x (b.fE.trans a)|put d r f k=>exact .put d r (λx a=>f x (b.fE.trans a)) λx l q o a=>k x l q o (b.fE.trans a)|done r d=>exact .done r λx a=>d x (b.fE.trans a)|add c d f k=>exact .add c d (λx a=>f x (b.fE.trans a)) λx y l a=>k x y l (b.fE.trans a)|spawn d f k p s t u=>exact .spawn d f k p (λx a=>s x (b.fE.trans a)) (λx l c q o a=>t x l c q o (b.fE.trans a)) λx l c q o a=>u x l c q o (b.fE.trans a)|wait A d f k=>exact .wait A d f (k.imp λn w=>w.rely bF b.fE)|stop d f k=>exact .stop d f λx a=>k x (b.fE.trans a)
theorem fN.running{ρ:Rk Ix}(h:fN C i j m ρ own g v):g.status=.running\/∃n A,cN C i own A n g v/\zf C i own A:=by cases h with|wait A b a d=>grind|done _ h=>exact .inl (h v .refl).1|add c b a=>exact .inl (a v .refl).1|_=>simp_all
def af(C:Cx)(i j:Nat)(m:Md)(own:Nat->Prop)(g:VK)(v:VH):Prop:=∃ρ,fN C i j m ρ own g v
open Classical in
noncomputable def xr(p:Ix->Rk Ix->Prop)(x:Ix):Rk Ix:=if h:∃ρ,p x ρ then Classical.choose h else .z
theorem fM{p:Ix->Rk Ix->Prop}{x:Ix}(h:∃ρ,p x ρ):p x (xr p x):=by unfold xr;grind
theorem af.env(h:af C i j m own g v)(a:Env C i (fq C m own) v v1):af C i j m own g v1:=h.imp λ_ k=>k.env a
theorem vS{w w':VH}{es':Array Wv}(h:GStep.go g w es=.go g' w' es'):g=g'/\w=w'/\es=es':=by simp_all
theorem af.step(q:g.status=.running)(o:m.said=Vo)(h:∀v1,Env C i (fq C m own) v v1->∃g' d es,VO C.P (i==0) g v1=.go g' d es/\lz C (fq C m own) v1 d es/\af C i j m (ab.more own v1 d) g' d):af C i j m own g v:=by refine⟨.s (xr λx f=>fN C i j m f (ab.more own x.2.1 x.2.2) x.1 x.2.2),.step q o (λx k=>?_) λx g' d es k e=>?_⟩;{grind};obtain⟨n,v2,l,a,_,c⟩:=h x k;rw[a]at e;obtain⟨rfl,rfl,rfl⟩:=vS e;exact fM (p:=λx f=>fN C i j m f (ab.more own x.2.1 x.2.2) x.1 x.2.2) c
theorem af.idle(l:g.status=.running)(h:∀v1,Env C i (fq C m own) v v1->∃g' b,VO C.P (i==0) g v1=.go g' b #[]/\DL v1 b #[]/\af C i j m own g' b):af C i j m own g v:=by refine⟨.s (xr λx d=>fN C i j m d own x.1 x.2.2),.idle l (λx f=>?_) λx g' b n f e=>?_⟩;{grind};obtain⟨k,v2,a,_,c⟩:=h x f;rw[a]at e;obtain⟨rfl,rfl,rfl⟩:=vS e;exact fM (p:=λx d=>fN C i j m d own x.1 x.2.2) c
theorem cS(w:VH):DL w w #[]:=⟨rfl,rfl,rfl,.refl _,rfl⟩
theorem af.ctl(a:g.status=.running)(h:∀w,VO C.P (i==0) g w=.go g' w #[])(k:af C i j m own g' v):af C i j m own g v:=.idle a λx b=>⟨g',x,h x,cS x,k.env b⟩
theorem af.mark{m':Md}{k:Mark}(r:g.status=.running)(q:iJ C i m k m')(l:k=.releaseMerge C.muA->m=.own/\ao C v)(n:k=.releaseMerge (stA C.wg)->Fin C i v)(h:∀v1,Env C i (fq C m own) v v1->∃g',VO C.P (i==0) g v1=.go g' v1 #[mk k]/\((k=.acquire C.muA->ao C v1)->af C i j m' own g' v1)):af C i j m own g v:=by refine⟨.s (xr λx b=>fN C i j m' b own x.1 x.2.1),.mark r q (λx d=>?_) l n λx g' u t d o e=>?_⟩;{grind};obtain⟨f,a,c⟩:=h x d;rw[a]at e;obtain⟨rfl,rfl,rfl⟩:=vS e;exact fM (p:=λx b=>fN C i j m' b own x.1 x.2.1) (c o)
theorem af.lock(d:C.wk i)(H:Wd->Bool->Bool->Nat->VK->VH->Prop)(Q:VK->VH->Prop)(l:g.status=.running)(c:∀g v1 v2,Q g v1->Env C i own v1 v2->Q g v2)(b:iV C i own H Q)(h:∀v1,Env C i own v v1->MS C i own H Q g v1)(k:∀g' v1,Env C i own v v1->Q g' v1->af C i j .lZ own g' v1):af C i j .bD own g v:=⟨_,.lock H Q l d c b h λg' x n e=>fM (p:=λx a=>fN C i j .lZ a own x.1 x.2.1) (k g' x n e)⟩
theorem af.unlock(e:C.wk i)(a:Wd->VK->VH->Prop)(Q:VK->VH->Prop)(n:g.status=.running)(d:∀g v1 v2,Q g v1->Env C i own v1 v2->Q g v2)(c:Ad C i own a Q)(h:∀v1,Env C i own v v1->M7 C i own a Q g v1)(k:∀g' v1,Env C i own v v1->Q g' v1->af C i j .bD own g' v1):af C i j .lZ own g v:=⟨_,.unlock a Q n e d c h λg' x o l=>fM (p:=λx b=>fN C i j .bD b own x.1 x.2.1) (k g' x o l)⟩
theorem af.put(o:i≠0)(q:g.status=.running)(h:∀v1,Env C i own v v1->dm C v1->∃g' b es,VO C.P (i==0) g v1=.go g' b es/\Q4 C i v1 b es/\af C i j .free own g' b):af C i j .free own g v:=by refine⟨.s (xr λx d=>fN C i j .free d own x.1 x.2.2),.put q o (λx k f=>?_) λx g' b es k f e=>?_⟩;{grind};obtain⟨n,v2,l,a,_,c⟩:=h x k f;rw[a]at e;obtain⟨rfl,rfl,rfl⟩:=vS e;exact fM (p:=λx d=>fN C i j .free d own x.1 x.2.2) c
theorem af.done(a:i≠0)(h:∀v1,Env C i own v v1->AtD1 C i own g v1):af C i j .uj own g v:=⟨_,.done a h⟩
theorem af.add{x:Nat}(c:Nat->VK->VH->Prop)(b:i=0)(h:∀v1,Env C i own v v1->SC C i c g v1)(k:∀v1 y g',Env C i own v v1->c y g' v1->af C i (2*x+1) .bD own g' v1):af C i (2*x) .bD own g v:=⟨_,.add c b h λv1 y g' e d=>fM (p:=λz a=>fN C i (2*x+1) .bD a own z.1 z.2.1) (k v1 y g' e d)⟩
theorem af.spawn{x:Nat}{ownc:Nat->Prop}(A:i=0)(E:g.status=.running)(B:x<C.n)(D:∀k,ownc k->own k)(h:∀v1,Env C i own v v1->∃g' b,VO C.P (i==0) g v1=.spawn g' b v1 #[]/\b.status=.running/\af C (C.base+x) 0 .free ownc b v1/\af C i (2*x+2) .free (λk=>own k/\¬ownc k) g' v1):af C i (2*x+1) .free own g v:=by refine⟨_,.spawn (f:=xr λz l=>fN C i (2*x+2) .free l (λk=>own k/\¬ownc k) z.1 z.2.1) (ρ:=xr λz l=>fN C (C.base+x) 0 .free l ownc z.1 z.2.1) A E B D (λv1 n=>?_) (λv1 g' c F y n e=>?_) λv1 g' c F y n e=>?_⟩;{grind};{obtain⟨w,t,a,_,d,u⟩:=h v1 n;rw[a]at e;injection e with o q r s;subst o q r s;exact fM (p:=λz l=>fN C (C.base+x) 0 .free l ownc z.1 z.2.1) d};obtain⟨w,t,a,_,d,u⟩:=h v1 n;rw[a]at e;injection e with o q r s;subst o q r s;exact fM (p:=λz l=>fN C i (2*x+2) .free l (λk=>own k/\¬ownc k) z.1 z.2.1) u
theorem af.stop(b:C.solo)(a:g.status=.running)(h:∀v1,Env C i own v v1->C.halt own g v1):af C i j .free own g v:=⟨_,.stop b a h⟩
theorem af.wait(A:VK->VH->Prop)(a:i=0)(b:zf C i own A)(h:∃n,cN C i own A n g v):af C i (2*C.n) .bD own g v:=⟨_,.wait A a b h⟩
theorem lz.M4(h:ab.lz own C.RO C.CU v v' es):lz C own v v' es:=⟨h.keep,h.grow,h.os,h.out,h.tape,λe b=>by rcases h.evs e b with x|⟨k,n,o,⟨rfl,d⟩,c,rfl⟩|x;{exact .inl (.inl x)};{exact .inr ⟨o,by omega,rfl⟩};exact .inl (.inr (.inr x))⟩
theorem lz.sub(h:lz C own v v' es)(b:∀k,own k->own' k):lz C own' v v' es:=⟨λk l n=>h.keep k l λx=>n (b k x),h.grow,h.os,h.out,h.tape,λe f=>by rcases h.evs e f with x|x;{refine .inl ?_;rcases x with⟨k,c,a,d⟩|x;{refine .inl ⟨k,c,?_,d⟩;rcases a with(a|a)|a;{exact .inl (.inl (b k a))};{exact .inl (.inr a)};simp_all};exact .inr x};exact .inr x⟩
theorem uk:ab.more (fq C m own) v v'=fq C m (ab.more own v v'):=by funext k;simp only[ab.more,fq];grind
def lV(C:Cx)(own:Nat->Prop):Prop:=∀b,own b->b≠C.mu/\b≠C.mm/\b≠C.wg/\b≠C.out
theorem dm.mine(l:dm C v)(h:lz C O v v' es)(e:¬O C.mu)(f:¬O C.wg)(k:¬O C.out):dm C v':=by obtain⟨⟨s,q,b⟩,⟨x,y,c⟩,⟨d,a,n⟩⟩:=l;exact⟨⟨s,q,(h.keep _ (Tk.1 b).1 e).trans b⟩,⟨x,y,(h.keep _ (Tk.1 c).1 f).trans c⟩,⟨d,(h.keep _ (Tk.1 a).1 k).trans a,n⟩⟩
theorem lV.more(h:lV C own)(d:dm C v)(l:C.mm<v.heap.size):lV C (ab.more own v v'):=λb a=>by rcases a with a|a;{exact h b a};obtain⟨⟨s,q,e⟩,⟨x,y,p⟩,⟨k,o,n⟩⟩:=d;have f:=(Tk.1 e).1;grind
theorem lV.not(b:C.Ok)(h:lV C own):¬fq C m own C.mu/\¬fq C m own C.wg/\¬fq C m own C.out:=by refine⟨?_,?_,?_⟩<;>rintro(a|⟨_,a⟩);{exact(h _ a).1 rfl};{exact b.lK a};{exact(h _ a).2.2.1 rfl};{exact b.nn a.symm};{exact(h _ a).2.2.2 rfl};exact b.mg a.symm
theorem dm.step(a:C.Ok)(b:lV C own){v':VH}{es:Array Wv}(c:dm C v)(h:lz C (fq C m own) v v' es):dm C v':=c.mine h (b.not a).1 (b.not a).2.1 (b.not a).2.2
theorem af.loc(t:C.Ok)(A:m.said=Vo){Stop:(Nat->Prop)->VK->VH->Prop}(h:ab.Loc C.P (i==0) C.RO C.CU Stop O g v):∀own,O=fq C m own->lV C own->C.mm<v.heap.size->dm C v->(∀own g v,lV C own->C.mm<v.heap.size->dm C v->Stop (fq C m own) g v->af C i j m own g v)->af C i j m own g v:=by induction h with|stop h=>exactλown e n p l k=>k _ _ _ n p l (e▸h)|step z y _ B=>intro own e n p l k;subst e;refine .step z A λx q=>?_;have f:=q.Td t.pre l;obtain⟨s,u,r,a,b⟩:=y x f;have o:=lz.M4 b;have c:=q.aJ l;have d:=Tj p q.grow;exact⟨s,u,r,a,o,B x s u r f a _ uk (n.more c d) (Tj d o.grow) (c.step t n o) k⟩
end
end Go.Cr
namespace Go.Cr
open Go.Conc Go.Mx Go.Rk
open Go.ConcR(KK WgAt wgBlock stA smA rd wr mk)
open Go.ConcM(OsLater)
variable{es:Array Wv}{s q:Int}{ty:VX}{g:Nat}
section
variable{C:Cx}{i i':Nat}{own own':Nat->Prop}{w w' w1:VH}
structure lL(C:Cx)(i:Nat)(own:Nat->Prop)(w w':VH):Prop where
 keep:∀k,k<w.heap.size->¬own k->k≠C.mu->k≠C.wg->k≠C.out->w'.heap[k]?=w.heap[k]?
 grow:w.heap.size<=w'.heap.size
 aJ:dm C w->dm C w'
 A3:∀o,¬C.oc i o->w'.cell? ⟨C.out,o,VJ⟩=w.cell? ⟨C.out,o,VJ⟩
 os:OsLater w.os w'.os
 out:w'.output=w.output
 tape:w'.tape=w.tape
theorem lL.env(f:C.Ok)(h:lL C i own w w')(l:i'≠i)(j:∀k,own' k->¬own k)(n:∀k,own' k->k<w.heap.size/\k≠C.mu/\k≠C.wg/\k≠C.out)(g:∀k,C.RO k->k<w.heap.size/\¬own k):Env C i' own' w w':=⟨λk e=>by rcases e with e|e;{obtain⟨a,b,c,d⟩:=n k e;exact h.keep k a (j k e) b c d};obtain⟨a,_,b,c⟩:=f.ro k e;exact h.keep k (g k e).1 (g k e).2 a b c,h.grow,h.aJ,λo m=>h.A3 o λx=>l (f.oc _ _ _ m x)⟩
theorem cell_of_block{a:Wq}(h:w'.heap[a.block]?=w.heap[a.block]?):w'.cell? a=w.cell? a:=by simp[VH.cell?,h]
theorem ja(h:dm C w):C.mu<w.heap.size/\C.wg<w.heap.size/\C.out<w.heap.size:=by obtain⟨⟨s,q,c⟩,⟨a,b,d⟩,⟨f,e,_⟩⟩:=h;exact⟨(Tk.1 c).1,(Tk.1 d).1,(Tk.1 e).1⟩
theorem dm.gA(h:dm C w)(f:w'.heap[C.mu]?=w.heap[C.mu]?)(g:w'.heap[C.wg]?=w.heap[C.wg]?)(j:w'.heap[C.out]?=w.heap[C.out]?):dm C w':=by obtain⟨⟨s,q,a⟩,⟨x,y,b⟩,⟨e,c,d⟩⟩:=h;exact⟨⟨s,q,f.trans a⟩,⟨x,y,g.trans b⟩,⟨e,j.trans c,d⟩⟩
theorem lL.Ca(d:dm C w)(h:lz C own w w' es)(f:¬own C.mu)(g:¬own C.wg)(e:¬own C.out):lL C i own w w':=by obtain⟨a,b,c⟩:=ja d;exact⟨λk j l _ _ _=>h.keep k j l,h.grow,λd=>d.gA (h.keep _ a f) (h.keep _ b g) (h.keep _ c e),λo _=>cell_of_block (h.keep _ c e),by rw[h.os];exact .refl _,h.out,h.tape⟩
theorem lL.BZ(h:DL w w' es):lL C i own w w':=⟨λk _ _ _ _ _=>by rw[h.heap],by rw[h.heap];omega,λa=>a.gA (by rw[h.heap]) (by rw[h.heap]) (by rw[h.heap]),λo _=>cell_of_block (by rw[h.heap]),h.os,h.out,h.tape⟩
theorem lL.refl:lL C i own w w:=.BZ (cS w)
theorem lL.MC(c:C.Ok)(h:Q4 C i w w' es):lL C i own w w':=⟨λk _ _ _ _ d=>h.keep k d,by rw[h.size];omega,λb=>⟨by obtain⟨s,q,a⟩:=b.port;exact⟨s,q,(h.keep _ c.fU).trans a⟩,by obtain⟨s,q,a⟩:=b.gv;exact⟨s,q,(h.keep _ c.iK).trans a⟩,h.blk b.ua⟩,h.cells,by rw[h.os];exact .refl _,h.out,h.tape⟩
theorem ag(w:VH)(a:Wq)(v:VI){k:Nat}(h:k≠a.block):(w.setCell a v).heap[k]?=w.heap[k]?:=by simp only[VH.setCell];grind
theorem gJ(w:VH)(a:Wq)(v:VI){cs:Array VI}{t:VX}{fr:Nat×Nat}(b:a.spot=VJ)(h:w.heap[a.block]?=VF (.cells cs t fr)):(w.setCell a v).heap[a.block]?=VF (.cells (cs.setIfInBounds a.off v) t fr):=by simp only[VH.setCell];grind
theorem cR(w:VH)(a:Wq)(v:VI):(w.setCell a v).heap.size=w.heap.size:=by simp
theorem av.setSt(a:C.Ok)(h:av C w s q)(s':Int):av C (w.setCell C.muA (.int .i32 s')) s' q:=by unfold av at h⊢;rw[show C.mu=C.muA.block from rfl,gJ w C.muA _ rfl h];congr 2;show(C.pre++#[VI.int .i32 s,VI.int .u32 q]).setIfInBounds C.mo (VI.int .i32 s')=C.pre++#[VI.int .i32 s',VI.int .u32 q];rw[<-a.pre];simp
theorem av.setSm(b:C.Ok)(h:av C w s q)(a:Int):av C (w.setCell C.msA (.int .u32 a)) s a:=by unfold av at h⊢;rw[show C.mu=C.msA.block from rfl,gJ w C.msA _ rfl h];congr 2;show(C.pre++#[VI.int .i32 s,VI.int .u32 q]).setIfInBounds (C.mo+1) (VI.int .u32 a)=C.pre++#[VI.int .i32 s,VI.int .u32 a];rw[<-b.pre];simp
theorem lL.set(a:Wq)(v:VI)(c:a.block=C.mu\/a.block=C.wg)(b:C.Ok)(d:dm C w->dm C (w.setCell a v)):lL C i own w (w.setCell a v):=⟨λk _ _ e f _=>ag w a v (by omega),by simp,d,λo _=>cell_of_block (ag w a v (by rcases c with h|h<;>rw[h];{exact b.fU.symm};exact b.iK.symm)),.refl _,rfl,rfl⟩
theorem lL.st(c:C.Ok)(s':Int):lL C i own w (w.setCell C.muA (.int .i32 s')):=.set _ _ (.inl rfl) c λd=>⟨by obtain⟨s,q,a⟩:=d.port;exact⟨s',q,a.setSt c s'⟩,by obtain⟨s,q,a⟩:=d.gv;exact⟨s,q,(ag w C.muA _ c.ga.symm).trans a⟩,by obtain⟨e,a,b⟩:=d.ua;exact⟨e,(ag w C.muA _ c.fU.symm).trans a,b⟩⟩
theorem lL.sm(c:C.Ok)(s':Int):lL C i own w (w.setCell C.msA (.int .u32 s')):=.set _ _ (.inl rfl) c λd=>⟨by obtain⟨s,q,a⟩:=d.port;exact⟨s,s',a.setSm c s'⟩,by obtain⟨s,q,a⟩:=d.gv;exact⟨s,q,(ag w C.msA _ c.ga.symm).trans a⟩,by obtain⟨e,a,b⟩:=d.ua;exact⟨e,(ag w C.msA _ c.fU.symm).trans a,b⟩⟩
theorem kG{st sm:Int}(h:WgAt ty g w st sm)(v:Int):WgAt ty g (w.setCell (stA g) (.int .u64 v)) v sm:=by unfold WgAt wgBlock at h⊢;exact(gJ w (stA g) _ rfl h).trans rfl
theorem ou{st sm:Int}(h:WgAt ty g w st sm)(v:Int):WgAt ty g (w.setCell (smA g) (.int .u32 v)) st v:=by unfold WgAt wgBlock at h⊢;exact(gJ w (smA g) _ rfl h).trans rfl
theorem Np{st sm st' sm':Int}(h:WgAt ty g w st sm)(k:WgAt ty g w st' sm'):st=st'/\sm=sm':=by unfold WgAt wgBlock at h k;simp_all
theorem lL.iL(c:C.Ok)(f:C.sw=wgBlock C.tW)(s':Int):lL C i own w (w.setCell (stA C.wg) (.int .u64 s')):=.set _ _ (.inr rfl) c λd=>⟨by obtain⟨s,q,a⟩:=d.port;exact⟨s,q,(ag w (stA C.wg) _ c.ga).trans a⟩,by obtain⟨s,q,a⟩:=d.gv;rw[f]at a⊢;exact⟨s',q,kG a s'⟩,by obtain⟨e,a,b⟩:=d.ua;exact⟨e,(ag w (stA C.wg) _ c.iK.symm).trans a,b⟩⟩
theorem lL.SH(c:C.Ok)(f:C.sw=wgBlock C.tW)(s':Int):lL C i own w (w.setCell (smA C.wg) (.int .u32 s')):=.set _ _ (.inr rfl) c λd=>⟨by obtain⟨s,q,a⟩:=d.port;exact⟨s,q,(ag w (smA C.wg) _ c.ga).trans a⟩,by obtain⟨s,q,a⟩:=d.gv;rw[f]at a⊢;exact⟨s,s',ou a s'⟩,by obtain⟨e,a,b⟩:=d.ua;exact⟨e,(ag w (smA C.wg) _ c.iK.symm).trans a,b⟩⟩
theorem Env.Hv(f:C.Ok)(h:lL C i (λ_=>False) w w')(l:∀k,own k->k<w.heap.size/\k≠C.mu/\k≠C.wg/\k≠C.out)(j:∀k,C.RO k->k<w.heap.size)(g:∀o,C.oc i o->w'.cell? ⟨C.out,o,VJ⟩=w.cell? ⟨C.out,o,VJ⟩):Env C i own w w':=⟨λk e=>by rcases e with e|e;{obtain⟨a,b,c,d⟩:=l k e;exact h.keep k a id b c d};obtain⟨a,_,b,c⟩:=f.ro k e;exact h.keep k (j k e) id a b c,h.grow,h.aJ,g⟩
end
end Go.Cr
namespace Go.Lw
open Go.Proofs Go.Conc Go.Mx Go.Rk Go.Cr Go.RowKit Go.Conc.Lib Go.ConcR.Gen
open Go.ConcR(KK WgAt stA smA rd wr mk DC0)
open Go.ConcM(goes_pad goes_le OsLater)
variable{i:Nat}{w:VH}
section
instance:Go.ConcR.Payload:=⟨3⟩
variable{C:Cx}{j:Nat}{m:Md}{own:Nat->Prop}{g:VK}{v w1:VH}{S:VK->VH->Prop}
theorem Nz{w':VH}{es:Array Wv}(h:DC0 w w' es):DL w w' es:=by obtain⟨rfl,rfl⟩:=h;exact cS _
theorem yD{K K':VK->VH->Array Wv->Prop}{s:GStep}(h:∀g w es,K g w es->K' g w es)(k:s.goes K):s.goes K':=by cases s<;>first|exact h _ _ _ k|exact k
theorem L3{k:Nat}:∀{n:Nat}{g:VK}{v:VH},Goes C.P (i==0) (Env C i own) DC0 (cN C i own S k) n g v->cN C i own S (k+n) g v|0,_,_,h=>h _ .refl|n+1,g,v,h=>by rcases h with h|⟨c,h⟩;{exact goes_pad (h _ .refl) _};refine .inr ⟨c,λx d=>yD (λg w e b=>?_) (h x d)⟩;exact⟨Nz b.1,L3 b.2⟩
def Kn(C:Cx)(i:Nat)(own:Nat->Prop)(v w:VH):Prop:=Env C i own v w/\dm C w
theorem O9:(f113.name== "runtime.NumGoroutine")=Vo:=Ψ
theorem Qe:(f144.name== "runtime.NumGoroutine")=Vo:=Ψ
theorem QZ:(f145.name== "runtime.NumGoroutine")=Vo:=Ψ
theorem QU:(f166.name== "runtime.NumGoroutine")=Vo:=Ψ
theorem O4:(f168.name== "runtime.NumGoroutine")=Vo:=Ψ
theorem Nd:(f127.name== "runtime.NumGoroutine")=Vo:=Ψ
theorem Nh:f127.body.isNone=VG:=Ψ
theorem M5:Extern.findNext f127=VJ:=Ψ
theorem Nv:Extern.find f127=VF (λ_=>do mark .disable;pure Extern.Race.none_):=Ψ
theorem MM:(f128.name== "runtime.NumGoroutine")=Vo:=Ψ
theorem MW:f128.body.isNone=VG:=Ψ
theorem Ov:Extern.findNext f128=VJ:=Ψ
theorem N2:Extern.find f128=VF (λ_=>do mark .enable;pure Extern.Race.none_):=Ψ
theorem Nb:(f139.name== "runtime.NumGoroutine")=Vo:=Ψ
theorem N6:f139.body.isNone=VG:=Ψ
theorem Mc:Extern.findNext f139=VJ:=Ψ
theorem NY:Extern.find f139=VF (Extern.Race.marked .acquire):=Ψ
theorem Ol:(f126.name== "runtime.NumGoroutine")=Vo:=Ψ
theorem Nx:f126.body.isNone=VG:=Ψ
theorem Oj:Extern.findNext f126=VJ:=Ψ
theorem MO:Extern.find f126=VF (Extern.Race.marked .releaseMerge):=Ψ
theorem Hc:(f165.name== "runtime.NumGoroutine")=Vo:=Ψ
theorem Hu:f165.body.isNone=VG:=Ψ
theorem FM:Extern.findNext f165=VJ:=Ψ
theorem Hm:Extern.find f165=VF (Extern.Atomic.casT (.int .i32)):=Ψ
theorem Ow:(f167.name== "runtime.NumGoroutine")=Vo:=Ψ
theorem Mj:f167.body.isNone=VG:=Ψ
theorem MU:Extern.findNext f167=VJ:=Ψ
theorem Oq:Extern.find f167=VF (Extern.Atomic.update (Op.intArith .add) .i32 VG):=Ψ
theorem Ge:(f182.name== "runtime.NumGoroutine")=Vo:=Ψ
theorem Ep:f182.body.isNone=VG:=Ψ
theorem FL:Extern.findNext f182=VJ:=Ψ
theorem Hl:Extern.find f182=VF (Extern.Sync.canSpin):=Ψ
theorem N5:(f183.name== "runtime.NumGoroutine")=Vo:=Ψ
theorem MD:f183.body.isNone=VG:=Ψ
theorem OK:Extern.findNext f183=VJ:=Ψ
theorem Mf:Extern.find f183=VF (λ_=>pure (.tuple #[])):=Ψ
theorem Oc:(f185.name== "runtime.NumGoroutine")=Vo:=Ψ
theorem NQ:f185.body.isNone=VG:=Ψ
theorem Nj:Extern.findNext f185=VJ:=Ψ
theorem Mt:Extern.find f185=VF (Extern.OsHooks.nano):=Ψ
theorem MX:f185.norace=VG:=Ψ
theorem Gd:(f186.name== "runtime.NumGoroutine")=Vo:=Ψ
theorem FB:f186.body.isNone=VG:=Ψ
theorem Ee:Extern.findNext f186=VJ:=Ψ
theorem HI:Extern.find f186=VF (Extern.Sync.semacquire):=Ψ
theorem N8:(f188.name== "runtime.NumGoroutine")=Vo:=Ψ
theorem N3:f188.body.isNone=VG:=Ψ
theorem OC:Extern.findNext f188=VJ:=Ψ
theorem Ng:Extern.find f188=VF (Extern.Sync.semrelease):=Ψ
theorem Ro:(prog.funcs[(base 145).fn]?).any (·.norace)=VG:=Ψ
theorem JO:(prog.funcs[(base 166).fn]?).any (·.norace)=VG:=Ψ
theorem Ry:(prog.funcs[(base 168).fn]?).any (·.norace)=VG:=Ψ
section
variable{main:Bool}{b:VU}{a:Act}{kk:List Wg}{cs:List VU}{ops:Array Oper}{rest:List Nat}{o:Oper}
theorem y4{x:Operand}(p:ops[i]?=VF o)(s:Region.wanted o (yielded ops a.tmps)=VG)(n:b.kind≠.early)(e:o.op=.load 21 x){ad:Wq}{v:Int}(k:a.eval x=.pointer (VF ad))(h:w.cell? ad=VF (.int .i32 v))(q:(prog.funcs[b.fn]?).any (·.norace)=VG):VO prog main (G (b.at a (.inRegion ops (i::rest)::kk)) cs) w=.go (G (b.at (a.put o.dst (.int .i32 v)) (.inRegion ops rest::kk)) cs) w #[]:=by(have r:(VR a.eval o).run prog w=.ok (.value (.int .i32 v)) w:=by unfold VR;simp only[e,k];simp[go_sem,h]);(have l:(VR a.eval o).events prog w #[]=#[⟨.cell ad,Vo,Vo⟩]:=by unfold VR;simp only[e,k];simp[go_sem,h]);rw[stepG_value p s n r];unfold listed;rw[l,seen_def,q];rfl
end
noncomputable def lu:Code:=f112.body.getD .skip
noncomputable def mB:Code:=f113.body.getD .skip
noncomputable def cG:Code:=f144.body.getD .skip
noncomputable def ak:Code:=f166.body.getD .skip
end
end Go.Lw
