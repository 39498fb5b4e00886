/- A part of the proof that PortOnly holds for every input. Conditions: none. -/
import Derived.Test.YtobmepfondcekaaGreatDoorZ1
import Derived.Laws.Entries
import Derived.Conc.LockTrace
import Derived.Conc.MuSpec
import Derived.Conc.Beside
import Derived.Conc.MuWords
import Derived.Conc.ClockLaws
import Derived.Test.YtobmepfondcekaaGreatDoorProg
set_option linter.all false
open Go.Proofs.Tryz renaming prog->Pz
open Go renaming Act->Vw,Addr->Vs,Code->VD,Event->Vv,Frame->U0,FuncId->Va,Goroutine->UP,IntKind->U1,Item->Vj,Oper->VB,Operand->Vh,Program->U9,Question->VC,TypeId->U8,Value->UO,World->UL,execOp->UZ,stepG->UY,undef->UT,yielded->U7
open Bool renaming false->Ul,true->UJ
open Option renaming none->UM,some->UG
open Go.Proofs.Tryz
namespace Go.ae
open Go.Conc
variable{P:U9}{c:dG}{r:bC}{gl live:Nat->Bool}{f:Va}{fn:Func}{b cd:VD}{args t tl:Array UO}{w v w':UL}{R:Ending->UL->Prop}{Good:UO->UL->Prop}{main:Bool}{RO own:Nat->Prop}{CU:Nat->Nat->Prop}{Stop:(Nat->Prop)->UP->UL->Prop}{cs:List U0}{g i n j:Nat}{k k' kr tail k1 kk:List Vj}{o:VB}{u:UO}{fns:Va->Bool}{s' s:cg}{ops:Array VB}{F:U0}{rest' rest:List Nat}{Q:Array UO->UL->Prop}
def entry(f:Va)(fn:Func)(b:VD)(args:Array UO):cg:=⟨f,args++Array.replicate (fn.ntmps-args.size) UT,[.code b],Ul,[]⟩
theorem uf(p:Listed P c gl)(a:∀v w T D,Good v w->Good v (re w T D))(d:Fit P c gl (entry f fn b args) w)(m:P.funcs[f]?=UG fn)(l:fn.body=UG b)(H:∀T,Calls P f args (re w T 0) R)(k:∀e w',R e w'->∃v,e=.returned v/\Good v w'):Lone P Good (entry f fn b args) w:=by refine pP p a d λT=>?_;obtain⟨e,w',g,h,i,s,j⟩:=H T [dj];obtain⟨v,rfl,o⟩:=k e w' h;obtain⟨n,q⟩:=i;refine⟨n,g,w',v,?_,j,o⟩;rw[<-q];congr 1;rw[gI args m,l];rfl
theorem Loc.call(q:Listed P c gl){caller:U0}{args':Array UO}(j:∀v w T D,Good v w->Good v (re w T D))(E:∀e w',R e w'->∃v,e=.returned v/\Good v w')(o:P.funcs[f]?=UG fn)(p:c.fns f=UJ)(n:fn.body=UG b)(t:∀g,gl g=UJ->r g=UG g)(a:ak c r args args')(i:cm c r w v)(s:Reach c r own RO CU v)(H:∀T,Calls P f args (re w T 0) R)(K:∀m d u A B v1,r.le m->Good u B->cm c m B v1->aj c m u A->Reach c m d RO CU v1->Left c r own RO v d v1->Loc P main RO CU Stop d (G (caller.finish A) cs) v1):Loc P main RO CU Stop own (G (U0.enter P f args' .normal) (caller::cs)) v:=by(have z:wY P c gl (entry f fn b args):=by refine⟨trivial,?_,λx F=>by simp[entry]at F⟩;obtain⟨I,h|⟨h,C⟩⟩:=q.body f fn p o;{simp_all};rw[n]at h;cases h;simp[entry,aT,C]);have y:l9 c r (entry f fn b args) (entry f fn b args'):=⟨rfl,by show ak c r (args++_) (args'++_);rw[a.size];exact a.append (.replicate _ fW),rfl,rfl,.nil⟩;have l:=Fit.AM z i y t;have k:=uf q j l o n H E;have:=k.loc q (main:=main) (RO:=RO) (CU:=CU) (Stop:=Stop) (caller:=caller) (cs:=cs) z ⟨w.tape,w.drawn,i⟩ y t s K;rw[gI args' o,n];exact this
structure fQ where
 k:Nat
 low:Nat
 t:U8
 x:Array UO
def fQ.obj(s:fQ):Obj:=.cells s.x (if s.low=0 then s.t else vY) (0,s.x.size)
def cL(g:Nat)(ws:List fQ)(v:UL):UL:={v with heap:=Array.replicate g (.cells #[] 0)++(ws.map fQ.obj).toArray}
def dw(P:U9)(fns:Va->Bool)(ws:List fQ):dG:=
 {fns:=fns,seen:=λb=>P.globals.size<=b/\b<P.globals.size+ws.length,zR:=λb=>if b<P.globals.size then 0 else((ws[b-P.globals.size]?).map λs=>s.x.size).getD 0,aJ:=P.globals.size,
   low:=λb=>if b<P.globals.size then 0 else((ws[b-P.globals.size]?).map λs=>s.low).getD 0}
def aeK(g:Nat)(ws:List fQ):bC:=λb=>if b<g then UM else(ws[b-g]?).map λs=>s.k
theorem eM{ws:List fQ}{b k:Nat}(h:aeK g ws b=UG k):∃(i:Nat)(s:fQ),b=g+i/\ws[i]?=UG s/\s.k=k/\i<ws.length:=by unfold aeK at h;grind
theorem JV{ws:List fQ}{s:fQ}(h:ws[i]?=UG s):aeK g ws (g+i)=UG s.k:=by unfold aeK;simp_all
theorem jN(g:Nat)(ws:List fQ)(v:UL):(cL g ws v).heap.size=g+ws.length:=by simp[cL]
theorem vb{ws:List fQ}{s:fQ}(h:ws[i]?=UG s):(cL g ws v).heap[g+i]?=UG s.obj:=by show(Array.replicate g _++_)[g+i]?=_;grind
theorem At{ws:List fQ}{b:Nat}(h:b<g):(cL g ws v).heap[b]?=UG (.cells #[] 0):=by show(Array.replicate g _++_)[b]?=_;grind
theorem bI{ws:List fQ}{o:Nat}{s:fQ}(h:ws[i]?=UG s)(a:s.x[o]?=UG u):(cL g ws v).cell? ⟨g+i,o,UM⟩=UG u:=by simp[UL.cell?,vb h,fQ.obj,a]
structure oj(P:U9)(fns:Va->Bool)(ws:List fQ)(v:UL):Prop where
 iT:P.globals.size<=v.heap.size
 bad:P.info? vY=UM
 at_:∀(i:Nat)(s:fQ),ws[i]?=UG s->∃(x':Array UO)(t':U8)(fr:Nat×Nat),v.heap[s.k]?=UG (.cells x' t' fr)/\s.x.size<=x'.size/\(s.low=0->s.t=t')/\
  ∀(j:Nat)(u u':UO),s.low<=j->s.x[j]?=UG u->x'[j]?=UG u'->aj (dw P fns ws) (aeK P.globals.size ws) u u'
theorem oj.rel{ws:List fQ}(h:oj P fns ws v):cm (dw P fns ws) (aeK P.globals.size ws) (cL P.globals.size ws v) v:=by refine⟨λb k e=>?_,λb k e=>?_,λb D k e w=>?_,λb g=>?_,λb g _=>At g,λb k e=>?_,rfl,rfl,λb g=>?_,λb k e q=>?_,?_⟩;{obtain⟨i,s,rfl,f,y,m⟩:=eM e;rw[jN];omega};{obtain⟨i,s,rfl,f,rfl,m⟩:=eM e;obtain⟨C,t,o,p,-⟩:=h.at_ i s f;grind};{obtain⟨i,s,rfl,f,y,m⟩:=eM e;obtain⟨I,J,rfl,x,z,A⟩:=eM w;exact .inr ⟨⟨SY _ _,by omega⟩,⟨SY _ _,by omega⟩⟩};{show(if b<P.globals.size then 0 else _)=0;split;{rfl};rename_i H;(have:ws[b-P.globals.size]?=UM:=by rw[List.getElem?_eq_none_iff];have:¬(P.globals.size<=b/\b<P.globals.size+ws.length):=g;omega);simp_all};{obtain⟨i,s,rfl,f,rfl,m⟩:=eM e;obtain⟨C,t,o,p,B,E,F⟩:=h.at_ i s f;rw[vb f,p];(have l:(dw P fns ws).low (P.globals.size+i)=s.low:=by show(if _<_ then 0 else _)=_;grind);refine .seen _ t o ⟨SY _ _,by omega⟩ ?_ B ⟨λn=>?_,λn=>?_⟩ λj u K a b d=>?_;{show _<=(if _<_ then 0 else _);grind};{simp_all};{rw[l]at n;rw[if_neg n];exact⟨rfl,SY _ _⟩};grind};{rw[jN];exact g.2};{obtain⟨i,s,rfl,f,rfl,m⟩:=eM e;have q:P.globals.size+i<P.globals.size:=q;omega};exact⟨by rw[jN];show P.globals.size<=_;omega,h.iT⟩
theorem gD{ws:List fQ}{off:Nat}{s:fQ}(h:ws[i]?=UG s)(a:s.low<=off):dx (dw P fns ws) (aeK P.globals.size ws) ⟨P.globals.size+i,off,UM⟩ ⟨s.k,off,UM⟩:=by refine⟨JV h,rfl,rfl,?_⟩;(have b:¬(P.globals.size+i<P.globals.size):=by omega);show(if P.globals.size+i<P.globals.size then 0 else((ws[P.globals.size+i-P.globals.size]?).map λs=>s.low).getD 0)<=off;grind
section
theorem CH{fr:U0}(h:wX fr cs)(e:lone fr cs w=ko s' w'):False:=by obtain⟨-,rfl,rfl⟩:=e;rcases h with⟨f,t,k,b,d,h,-⟩|⟨-,h⟩;{simp only[cj,U0.mk.injEq]at h;have:=h.2.2.2.2.1;cases a:s'.ret<;>rw[a]at this<;>simp[md]at this};simp at h
theorem mO:∀(n:Nat){fr:U0}{cs:List U0}{w:UL},wX fr cs->∀{s':cg}{w':UL},runN P n (lone fr cs w)=.next (ko s' w')->False:=by intro n;induction n with|zero=>intro fr cs w h s' w' e;simp only[runN,Stepped.next.injEq]at e;exact CH h e|succ n i=>intro fr cs w h s' w' e;simp only[runN]at e;rcases vk (P:=P) h w with⟨d,a,f,b,g⟩|⟨o,f,b⟩;{simp_all};simp_all
theorem Be(h:NX (UY P UJ (s.g [dj]) w))(e:runN P (n+1) (ko s w)=.next (ko s' w')):False:=by simp only[runN]at e;rcases h with⟨o,a,h⟩|⟨f,t,k,b,i,a,j,h,d,g⟩;{rw[show step P (ko s w)=.ended o a from step_lone_ended h]at e;cases e};rw[gy h]at e;exact mO n (.inl ⟨f,t,k,b,i,rfl,rfl,d,g⟩) e
theorem Ac(m:Ea s)(e:runN P (n+1) (ko s w)=.next (ko s' w')):False:=by obtain⟨f,t,k,p,y⟩:=s;obtain⟨d,g⟩:=m;subst d g;have i:wX dj []:=.inr ⟨.inr (.inl rfl),rfl⟩;have a:∀v,dj.finish v=dj:=λv=>rfl;simp only[runN]at e;cases b:P.funcs[f]? with|none=>rw[gy ((bM b).trans (by rw[a]))]at e;exact mO n i e|some l=>cases j:(results l t).run P w with|halt h q=>obtain⟨o,r,h⟩:=c8 b j;rw[show step P (ko ⟨f,t,k,UJ,[]⟩ w)=.ended o r from step_lone_ended h]at e;cases e|ok u q=>rw[gy ((aO b j).trans (by rw[a]))]at e;exact mO n i e
theorem Ib(h:ko s w=ko s' w'):s=s'/\w=w':=by simp only[ko,lone,Machine.mk.injEq,T5,Ta,UP.mk.injEq]at h;obtain⟨a,b,d⟩:=h;refine⟨E1 ?_,a⟩;simp only[cg.g,G,b,d]
inductive iG(P:U9)(Good:cg->UL->Prop):cg->UL->Prop
 |done{s:cg}{w:UL}:(∀T D,Good s (re w T D))->iG P Good s w
 |step{s:cg}{w:UL}:¬Good s w->¬Ea s->(∀T D,∃s1 w1,bX P s (re w T D) s1 w1)->(∀T D s1 w1,bX P s (re w T D) s1 w1->iG P Good s1 w1)->iG P Good s w
section bar
variable(P)(Good:cg->UL->Prop)
noncomputable def kS(p:cg×UL):(Nat->VC->Nat)×Nat:=open Classical in
 if h:∃a:(Nat->VC->Nat)×Nat,∀s1 w1,bX P p.1 (re p.2 a.1 a.2) s1 w1->¬iG P Good s1 w1 then Classical.choose h else(λ_ _=>0,0)
def ic(p:cg×UL):Prop:=¬Ea p.1/\∃q:cg×UL,bX P p.1 (re p.2 (kS P Good p).1 (kS P Good p).2) q.1 q.2
noncomputable def tI(p:cg×UL):cg×UL:=open Classical in if h:ic P Good p then Classical.choose h.2 else p
noncomputable def cQ(p:cg×UL):Nat->cg×UL
 |0=>p
 |i+1=>tI P Good (cQ p i)
noncomputable def jI(p:cg×UL):Nat->Nat
 |0=>0
 |i+1=>open Classical in if ic P Good (cQ P Good p i)then jI p i+((cQ P Good p (i+1)).2.drawn-(kS P Good (cQ P Good p i)).2)else jI p i
def Dy(p:cg×UL)(i n:Nat):Prop:=jI P Good p i<=n/\(n<jI P Good p (i+1)\/¬ic P Good (cQ P Good p i))
noncomputable def pg(p:cg×UL)(n:Nat)(q:VC):Nat:=open Classical in
 if h:∃i,Dy P Good p i n then(kS P Good (cQ P Good p (Classical.choose h))).1 ((kS P Good (cQ P Good p (Classical.choose h))).2+(n-jI P Good p (Classical.choose h))) q else 0
end bar
section bar
variable{Good:cg->UL->Prop}{p:cg×UL}
theorem Cp(f:∀s w T D,Good s w->Good s (re w T D))(l:¬iG P Good s w)(n:¬Ea s):∀d e,bX P s (re w (kS P Good (s,w)).1 (kS P Good (s,w)).2) d e->¬iG P Good d e:=by(have h:∃a:(Nat->VC->Nat)×Nat,∀d e,bX P s (re w a.1 a.2) d e->¬iG P Good d e:=by refine Td λk=>l ?_;refine .step (λm=>l (.done λT D=>f _ _ T D m)) n (λT D=>?_) (λT D d e i=>?_);{refine Td λg=>k ⟨(T,D),λd e i=>absurd ⟨d,e,i⟩ g⟩};refine Td λg=>k ⟨(T,D),λo q j=>?_⟩;obtain⟨rfl,rfl⟩:=i.Nk j;exact g);unfold kS;grind
theorem uP(h:ic P Good p):bX P p.1 (re p.2 (kS P Good p).1 (kS P Good p).2) (tI P Good p).1 (tI P Good p).2:=by unfold tI;grind
theorem uL(h:¬ic P Good p):tI P Good p=p:=by unfold tI;simp_all
theorem qF(h:ic P Good (cQ P Good p i)):jI P Good p (i+1)=jI P Good p i+((cQ P Good p (i+1)).2.drawn-(kS P Good (cQ P Good p i)).2):=by exact@if_pos _ (Classical.propDecidable _) h _ _ _
theorem vh(h:¬ic P Good (cQ P Good p i)):jI P Good p (i+1)=jI P Good p i:=by exact@if_neg _ (Classical.propDecidable _) h _ _ _
theorem DQ(h:i<=j):jI P Good p i<=jI P Good p j:=by induction h with|refl=>omega|@step m _ b=>by_cases a:ic P Good (cQ P Good p m);{rw[qF a];omega};rw[vh a];omega
theorem Bi(h:i<=j)(d:¬ic P Good (cQ P Good p i)):cQ P Good p j=cQ P Good p i/\jI P Good p j=jI P Good p i:=by induction h with|refl=>simp|@step m _ b=>(have a:¬ic P Good (cQ P Good p m):=by simp_all);exact⟨(uL a).trans b.1,(vh a).trans b.2⟩
theorem B3(h:Dy P Good p i n)(q:VC):pg P Good p n q=(kS P Good (cQ P Good p i)).1 ((kS P Good (cQ P Good p i)).2+(n-jI P Good p i)) q:=by(have g:∀{i j:Nat},i<=j->Dy P Good p i n->Dy P Good p j n->cQ P Good p j=cQ P Good p i/\jI P Good p j=jI P Good p i:=by intro i j a e f;by_cases d:ic P Good (cQ P Good p i);{rcases Nat.eq_or_lt_of_le a with rfl|b;{simp};have:=DQ (P:=P) (Good:=Good) (p:=p) (show i+1<=j from b);rcases e.2 with h|h;{have:=f.1;omega};simp_all};exact Bi a d);have k:∃i,Dy P Good p i n:=⟨i,h⟩;unfold pg;grind
variable(hl:Listed P c gl)(hGood:∀s w T D,Good s w->Good s (re w T D))
include hl hGood
theorem sd(j:Fit P c gl p.1 p.2)(k:¬iG P Good p.1 p.2):∀i,Fit P c gl (cQ P Good p i).1 (cQ P Good p i).2/\¬iG P Good (cQ P Good p i).1 (cQ P Good p i).2:=by intro i;induction i with|zero=>exact⟨j,k⟩|succ i b=>show Fit P c gl (tI P Good (cQ P Good p i)).1 (tI P Good (cQ P Good p i)).2/\¬iG P Good (tI P Good (cQ P Good p i)).1 (tI P Good (cQ P Good p i)).2;by_cases h:ic P Good (cQ P Good p i);{have a:=uP h;refine⟨?_,Cp hGood b.2 h.1 _ _ a⟩;rcases(b.1.re _ _).step hl (λe d=>h.1 ⟨e,d⟩)with⟨o,q,f,n⟩|g;{obtain⟨l,m⟩:=f.Nk a;simp_all};exact(g.not a).elim};rw[uL h];exact b
theorem DO(g:Fit P c gl p.1 p.2)(k:¬iG P Good p.1 p.2)(h:ic P Good (cQ P Good p i)):bX P (cQ P Good p i).1 (re (cQ P Good p i).2 (pg P Good p) (jI P Good p i)) (cQ P Good p (i+1)).1 (re (cQ P Good p (i+1)).2 (pg P Good p) (jI P Good p (i+1))):=by have l:=uP h;obtain⟨m,n,d⟩:=l.tape hl ((sd hl hGood g k i).1.re _ _) (λe b=>h.1 ⟨e,b⟩);have a:(cQ P Good p (i+1))=tI P Good (cQ P Good p i):=rfl;(have:=d (pg P Good p) (jI P Good p i) λj q o=>by have f:Dy P Good p i (jI P Good p i+j):=⟨SY ..,.inl (by rw[qF h,a];have:(re (cQ P Good p i).2 (kS P Good (cQ P Good p i)).1 (kS P Good (cQ P Good p i)).2).drawn=(kS P Good (cQ P Good p i)).2:=rfl;omega)⟩;rw[B3 f];show _=(kS P Good (cQ P Good p i)).1 ((kS P Good (cQ P Good p i)).2+j) q;simp);rw[qF h,a];exact this
theorem yE(a:Fit P c gl p.1 p.2)(b:¬iG P Good p.1 p.2):∀i,(∀l,l<i->ic P Good (cQ P Good p l))->runN P i (ko p.1 (re p.2 (pg P Good p) 0))=.next (ko (cQ P Good p i).1 (re (cQ P Good p i).2 (pg P Good p) (jI P Good p i))):=by intro i;induction i with|zero=>intro _;rfl|succ i d=>intro h;rw[runN_add (d λl hl=>h l Ω)];exact xT (DO hl hGood a b (h i Ω)).PQ
theorem um(E:Fit P c gl s w)(H:∀T,∃n s' w',runN P n (ko s (re w T 0))=.next (ko s' w')/\Good s' w'):iG P Good s w:=by refine Td λJ=>?_;have d:Fit P c gl (s,w).1 (s,w).2:=E;have f:=J;obtain⟨n,s',w',x,F⟩:=H (pg P Good (s,w));by_cases o:∀l,l<n->ic P Good (cQ P Good (s,w) l);{have:=yE hl hGood d f n o;rw[show ko (s,w).1 (re (s,w).2 (pg P Good (s,w)) 0)=ko s (re w (pg P Good (s,w)) 0)from rfl,x]at this;obtain⟨b,g⟩:=sd hl hGood d f n;obtain⟨y,L⟩:=Ib (Stepped.next.inj this);refine g (.done λT D=>?_);have:=hGood _ _ T D F;simp_all};(have:∃i,i<n/\¬ic P Good (cQ P Good (s,w) i)/\∀l,l<i->ic P Good (cQ P Good (s,w) l):=by(have v:∃i,i<n/\¬ic P Good (cQ P Good (s,w) i):=by simp_all);obtain⟨i,N⟩:=v;induction i using Nat.strongRecOn with|_ i O=>grind);obtain⟨i,I,a,m⟩:=this;have z:=yE hl hGood d f i m;obtain⟨k,rfl⟩:∃k,n=i+(k+1):=⟨n-i-1,by omega⟩;have u:=runN_add (k:=k+1) z;rw[show ko (s,w).1 (re (s,w).2 (pg P Good (s,w)) 0)=ko s (re w (pg P Good (s,w)) 0)from rfl,x]at u;obtain⟨b,g⟩:=sd hl hGood d f i;by_cases r:Ea (cQ P Good (s,w) i).1;{exact Ac r u.symm};rcases(b.re (pg P Good (s,w)) (jI P Good (s,w) i)).step hl (λe t=>r ⟨e,t⟩)with⟨K,Q,A,M⟩|C;{obtain⟨-,-,B⟩:=A.tape hl (b.re _ _) (λe t=>r ⟨e,t⟩);(have:=B (kS P Good (cQ P Good (s,w) i)).1 (kS P Good (cQ P Good (s,w) i)).2 λj q _=>by show _=pg P Good (s,w) (jI P Good (s,w) i+j) q;rw[B3 ⟨SY ..,.inr a⟩,Uz]);exact a ⟨r,(K,_),this⟩};exact Be C u.symm
end bar
end
def R0:Vj:=.code (.refuse "")
def Es(live:Nat->Bool):Vh->Bool
 |.tmp i=>live i
 |_=>UJ
def oa(live:Nat->Bool)(o:VB):Bool:=o.op.operands.all (Es live)&&(match o.dst with|some d=>live d|none=>UJ)
def nk(live:Nat->Bool)(ops:Array VB)(o:VB):Bool:=match o.guard with|none=>UJ|some (j,_)=>(match(ops[j]?).bind (·.dst)with|some d=>live d|none=>UJ)
def rv(live:Nat->Bool)(ops:Array VB)(i:Nat):Bool:=match ops[i]? with|some o=>oa live o&&nk live ops o|none=>UJ
theorem yF(h:ops.all (λo=>oa live o&&nk live ops o)=UJ)(l:List Nat):l.all (rv live ops)=UJ:=by rw[S7];intro i _;unfold rv;grind
def gh(live:Nat->Bool):VD->Bool
 |.region _ ops _=>ops.all (λo=>oa live o&&nk live ops o)
 |.seq a b=>gh live a&&gh live b
 |.cond x a b=>Es live x&&gh live a&&gh live b
 |.block _ a|.loop a|.scope a=>gh live a
 |.ret=>Ul
 |_=>UJ
def cS(live:Nat->Bool):Vj->Bool
 |.code a|.inLoop a|.inScope a=>gh live a
 |.inRegion ops l=>l.all (rv live ops)
 |_=>UJ
structure de where
 f:Va
 defers:List Deferred
 kind:CallKind
 roundOf:Option Nat
 l2:Option (Array VB×List Nat)
 tail:List Vj
 live:Nat->Bool
 t0:Array UO
def de.ov(d:de)(t:Array UO):Array UO:=t.mapIdx λi v=>if d.live i then v else d.t0.getD i UT
def de.bot(d:de)(t:Array UO)(k':List Vj):U0:={fn:=d.f,tmps:=d.ov t,todo:=k',defers:=d.defers,mode:=.run,kind:=d.kind,roundOf:=d.roundOf}
inductive Gl(d:de):List Vj->List Vj->Prop
 |app{init:List Vj}:d.l2=UM->init.all (cS d.live)=UJ->Gl d (init++[R0]) (init++d.tail)
 |reg{ops:Array VB}{l1 l2:List Nat}:d.l2=UG (ops,l2)->l1.all (rv d.live ops)=UJ->Gl d [.inRegion ops l1,R0] (.inRegion ops (l1++l2)::d.tail)
 |fin{ops:Array VB}{l2:List Nat}:d.l2=UG (ops,l2)->Gl d [R0] (.inRegion ops l2::d.tail)
def de.end(d:de)(k:List Vj):Prop:=k=[R0]\/(d.l2.isSome=UJ/\∃ops,k=[.inRegion ops [],R0])
inductive IY(d:de):Bool->Va×Array UO×List Vj->U0->Prop
 |up{f:Va}{t:Array UO}{k:List Vj}:IY d Ul (f,t,k) (cj f t k .run)
 |bot{t:Array UO}{k k':List Vj}:Gl d k k'->IY d UJ (d.f,t,k) (d.bot t k')
theorem Kq{d:de}(h:d.live i=UJ):(d.ov t).getD i UT=t.getD i UT:=by simp only[de.ov,Sr,T4];simp_all
theorem Mi{d:de}(h:d.live i=UJ):(d.ov t)[i]?=t[i]?:=by simp only[de.ov,T4];simp_all
theorem MH{d:de}(h:d.live i=UJ)(v:UO):(d.ov t).setIfInBounds i v=d.ov (t.setIfInBounds i v):=by apply Tj;intro j;simp only[de.ov,Ti,T4,T3];grind
theorem Ca{d:de}{m:FrameMode}(x:Vh)(h:Es d.live x=UJ):(d.bot t k').eval x=(cj f t k m).eval x:=by cases x with|tmp i=>exact Kq h|_=>rfl
theorem execOp_congr{ev ev':Vh->UO}(f:∀cs b,o.op≠.select cs b)(h:∀x∈o.op.operands,ev x=ev' x):UZ ev o=UZ ev' o:=by have m:∀(l:Array Vh),(∀x∈l,ev x=ev' x)->l.map ev=l.map ev':=λl d=>Vn d;(have s:∀(x:Option Vh),(∀y∈x,ev y=ev' y)->x.map ev=x.map ev':=λx d=>by cases x with|none=>rfl|some y=>simp_all);(have u:∀(j:Array (Nat×Vh)),(∀p∈j,ev p.2=ev' p.2)->(j.map λ(i,x)=>(i,ev x))=(j.map λ(i,x)=>(i,ev' x)):=λj d=>Vn λp g=>by grind);(have v:∀(k:Call)(t:U8),(∀x∈k.operands,ev x=ev' x)->resolve ev k t=resolve ev' k t:=λk t d=>by obtain⟨a,e,q⟩:=k;have r:e.map ev=e.map ev':=m _ λx n=>d x (by cases a<;>simp[Call.operands,n]);unfold resolve;cases a<;>simp only[r];{rw[d _ (by simp[Call.operands])]};rw[d _ (by simp[Call.operands])]);unfold UZ;revert h f;(cases o.op<;>intro f h<;>simp only[Op.operands]at h<;>first|rfl|(simp only[List.mem_toArray,Sv,SV,or_false,forall_eq,forall_eq_or_imp]at h;simp only[h];done)|(simp only[];rw[u _ (λp g=>h _ (by simp only[List.mem_toArray,Sw];exact⟨p,by simpa using g,rfl⟩))];done)|(simp only[];rw[m _ (λx d=>h x (SO.2 (.inl d))),m _ (λx d=>h x (SO.2 (.inr d)))];done)|(simp only[];rw[s _ (λx d=>h x (by simpa using d))];done)|(simp only[];rw[v _ _ h];done)|(exact absurd rfl (f _ _))|skip);simp_all
section
variable{d:de}{b:Bool}{cs0:List U0}{v':UL}{g1:UP}{es:Array Vv}{x:Vj}
theorem Gl.cons(h:Gl d (x::kr) k')(j:x≠R0):(∃init,d.l2=UM/\kr=init++[R0]/\k'=x::(init++d.tail)/\cS d.live x=UJ/\init.all (cS d.live)=UJ)\/(∃ops i l,d.l2=UG (ops,l)/\x=.inRegion ops i/\kr=[R0]/\k'=.inRegion ops (i++l)::d.tail/\i.all (rv d.live ops)=UJ):=by generalize a:x::kr=k at h;cases h with|@app init g e=>(cases init with|nil=>simp at a;exact absurd a.1 j|cons y init=>obtain⟨rfl,rfl⟩:=a;simp only[SE,Qaa]at e;exact .inl ⟨init,g,rfl,rfl,e.1,e.2⟩)|reg g e=>simp only[Ta]at a;exact .inr ⟨_,_,_,g,a.1,a.2,rfl,e⟩|fin g=>simp only[Ta]at a;exact absurd a.1 j
theorem Gl.xL(h:Gl d (x::kr) k')(e:x≠R0)(a:∀ops l,x≠.inRegion ops l):∃init,d.l2=UM/\kr=init++[R0]/\k'=x::(init++d.tail)/\cS d.live x=UJ/\init.all (cS d.live)=UJ:=by rcases h.cons e with h|⟨ops,g,_,_,h,_⟩;{exact h};exact absurd h (a _ _)
theorem Gl.mk'{init:List Vj}(pre:List Vj)(a:d.l2=UM)(e:init.all (cS d.live)=UJ)(g:pre.all (cS d.live)=UJ):Gl d (pre++(init++[R0])) (pre++(init++d.tail)):=by rw[<-TM,<-TM];exact .app a (by simp[g,e])
theorem mq{id:Nat}{tail:List Vj}{p:Vj->Bool}:∀{init k1:List Vj},init.all p=UJ->exitTo id (init++[R0])=UG k1->∃g,k1=g++[R0]/\g.all p=UJ/\exitTo id (init++tail)=UG (g++tail)|[],_,_,h=>by simp[exitTo,R0]at h|x::l,k1,j,h=>by simp only[SE,Qaa]at j;rw[Tp]at h;unfold exitTo at h;split at h;{rename_i s u e;cases e;split at h;{rename_i i;cases h;exact⟨l,rfl,j.2,by simp[exitTo,i]⟩};rename_i i;obtain⟨r,m,n,o⟩:=mq (tail:=tail) j.2 h;exact⟨r,m,n,by simp[exitTo,i,o]⟩};{rename_i y u q e;cases e;obtain⟨r,m,n,o⟩:=mq (tail:=tail) j.2 h;refine⟨r,m,n,?_⟩;rw[Tp];unfold exitTo;split;{rename_i e;cases e;exact absurd rfl (q _)};{rename_i e;cases e;exact o};rename_i e;cases e};rename_i e;cases e
def After(P:U9)(main:Bool)(d:de)(b:Bool)(f:Va)(t:Array UO)(k:List Vj)(F:U0)(cs0:List U0)(v v':UL)(g1:UP)(es:Array Vv):Prop:=
 (∃t1 k1 F1,g1=G (cj f t1 k1 .run) cs0/\IY d b (f,t1,k1) F1/\∀cs,UY P main (G F cs) v=.go (G F1 cs) v' es)\/
 (∃j t1 k1,g1=G (cj j t1 k1 .run) (cj f t k .run::cs0)/\∀cs,UY P main (G F cs) v=.go (G (cj j t1 k1 .run) (F::cs)) v' es)\/
 (b=Ul/\∃k1,g1=G (cj f t k1 .returning) cs0/\∀cs,UY P main (G F cs) v=.go (G (cj f t k1 .returning) cs) v' es)
theorem After.ctl(e:UY P main (G (cj f t k .run) cs0) v=.go g1 v' es)(o:IY d b (f,t,k) F)(L:∀cs,UY P main (G (cj f t k .run) cs) v=.go (G (cj f t k1 .run) cs) v #[])(g:b=UJ->∀k',Gl d k k'->∃a,Gl d k1 a/\∀cs,UY P main (G (d.bot t k') cs) v=.go (G (d.bot t a) cs) v #[]):After P main d b f t k F cs0 v v' g1 es:=by rw[L]at e;injection e with i j l;subst i j l;cases o with|up=>exact .inl ⟨t,k1,_,rfl,.up,L⟩|bot h=>obtain⟨a,m,n⟩:=g rfl _ h;exact .inl ⟨t,k1,_,rfl,.bot m,n⟩
theorem After.ret(a:UY P main (G (cj f t k .run) cs0) v=.go g1 v' es)(j:IY d b (f,t,k) F)(L:∀cs,UY P main (G (cj f t k .run) cs) v=.go (G (cj f t k1 .returning) cs) v #[])(l:∀k',¬Gl d k k'):After P main d b f t k F cs0 v v' g1 es:=by rw[L]at a;injection a with e g i;subst e g i;cases j with|up=>exact .inr (.inr ⟨rfl,k1,rfl,L⟩)|bot h=>exact absurd h (l _)
theorem jO(a:(match(ops[i]?).bind (·.dst)with|some j=>d.live j|none=>UJ)=UJ)(u:UO):(d.bot t (.inRegion ops (i::rest')::kk)).finish u=d.bot (match(ops[i]?).bind (·.dst)with|some j=>t.setIfInBounds j u|none=>t) (.inRegion ops rest'::kk):=by simp only[de.bot,U0.finish];cases e:(ops[i]?).bind (·.dst)with|none=>rfl|some j=>rw[e]at a;simp only at a⊢;rw[MH a]
section op
variable{w1:UL}
abbrev fB(d:de)(t:Array UO)(ops:Array VB)(i:Nat)(rest:List Nat)(kk:List Vj):U0:=d.bot t (.inRegion ops (i::rest)::kk)
theorem vK(q:d.kind≠.early)(p:∀c,o.op≠.defer c)(m:ops[i]?=UG o)(n:Region.wanted o (U7 ops (d.ov t))=UJ)(j:(UZ (fB d t ops i rest kk).eval o).run P w=.ok (.value u) w1):UY P main (G (fB d t ops i rest kk) cs) w=.go (G ((fB d t ops i rest kk).finish u) cs) w1 (seen P d.f ((UZ (fB d t ops i rest kk).eval o).events P w #[])):=by simp only[de.bot]at j;(have a:=by simpa using q);cases g:d.roundOf with|none=>simp[G,UY,UY.exec,UY.oper,UY.apply,U0.oper?,de.bot,m,n,g,a];rw[<-g,j];simp[GStep.after]|some l=>simp only[G,UY,UY.exec,UY.oper,U0.oper?,de.bot,m,n,SC,SI,if_true];split;{rename_i e;exact absurd e (p _)};simp[UY.apply,j,GStep.after,a]
theorem zn(q:d.kind≠.early)(p:∀c,o.op≠.defer c)(m:ops[i]?=UG o)(n:Region.wanted o (U7 ops (d.ov t))=UJ)(j:(UZ (fB d t ops i rest kk).eval o).run P w=.ok .skip w1):UY P main (G (fB d t ops i rest kk) cs) w=.go (G ((fB d t ops i rest kk).finish UT) cs) w1 (seen P d.f ((UZ (fB d t ops i rest kk).eval o).events P w #[])):=by simp only[de.bot]at j;(have a:=by simpa using q);cases g:d.roundOf with|none=>simp[G,UY,UY.exec,UY.oper,UY.apply,U0.oper?,de.bot,m,n,g,a];rw[<-g,j];simp[GStep.after]|some l=>simp only[G,UY,UY.exec,UY.oper,U0.oper?,de.bot,m,n,SC,SI,if_true];split;{rename_i e;exact absurd e (p _)};simp[UY.apply,j,GStep.after,a]
theorem vL{j:Va}(r:d.kind≠.early)(q:∀c,o.op≠.defer c)(n:ops[i]?=UG o)(p:Region.wanted o (U7 ops (d.ov t))=UJ)(m:(UZ (fB d t ops i rest kk).eval o).run P w=.ok (.enter j args) w1):UY P main (G (fB d t ops i rest kk) cs) w=.go (G (U0.enter P j args .normal) (fB d t ops i rest kk::cs)) w1 (seen P d.f ((UZ (fB d t ops i rest kk).eval o).events P w #[])):=by simp only[de.bot]at m;(have a:=by simpa using r);cases g:d.roundOf with|none=>simp[G,UY,UY.exec,UY.oper,UY.apply,U0.oper?,de.bot,n,p,g,a];rw[<-g,m];simp[GStep.after]|some l=>simp only[G,UY,UY.exec,UY.oper,U0.oper?,de.bot,n,p,SC,SI,if_true];split;{rename_i e;exact absurd e (q _)};simp[UY.apply,m,GStep.after,a]
theorem rz(h:((ops[i]?).map (Region.wanted · (U7 ops (d.ov t)))).getD Ul=Ul):UY P main (G (fB d t ops i rest kk) cs) w=.go (G ((fB d t ops i rest kk).finish UT) cs) w #[]:=by simp only[G,UY,UY.exec,de.bot,h,SB,if_false]
end op
theorem vp(h:nk d.live ops o=UJ):Region.wanted o (U7 ops (d.ov t))=Region.wanted o (U7 ops t):=by unfold Region.wanted;unfold nk at h;cases g:o.guard with|none=>rfl|some p=>obtain⟨j,b⟩:=p;rw[g]at h;simp only at h⊢;unfold U7;cases e:(ops[j]?).bind (·.dst)with|none=>rfl|some i=>rw[e]at h;simp only[Te];rw[Mi h]
theorem kR(h:rv live ops i=UJ)(a:ops[i]?=UG o):oa live o=UJ/\nk live ops o=UJ:=by unfold rv at h;rw[a]at h;simpa using h
theorem EG(h:pJ P c gl o=UJ):(∀cs b,o.op≠.select cs b)/\∀k,o.op≠.defer k:=by constructor;{intro a b e;rw[pJ,e]at h;simp at h};intro a e;rw[pJ,e]at h;simp at h
theorem FH(j:Va)(x:Array UO):∃e k1,U0.enter P j x .normal=cj j e k1 .run:=by cases a:P.funcs[j]? with|none=>exact⟨_,_,nU x a⟩|some g=>exact⟨_,_,gI x a⟩
def RY:Next->Prop
 |.value _|.skip|.enter _ _=>True
 |_=>False
def AX(P:U9)(f:Va)(t:Array UO)(k:List Vj)(v:UL):Prop:=
 ∀ops i rest kk o,k=.inRegion ops (i::rest)::kk->ops[i]?=UG o->Region.wanted o (U7 ops t)=UJ->∃n w1,(UZ (l7 f t ops i rest kk).eval o).run P v=.ok n w1/\RY n
theorem IY.step(D:UY P main (G (cj f t k .run) cs0) v=.go g1 v' es)(Z:k.all (aT P c gl)=UJ)(R:IY d b (f,t,k) F)(he:d.kind≠.early)(hend:b=UJ->¬d.end k)(hrun:AX P f t k v)(hp:∀ch,g1.frame.mode≠.panicking ch):After P main d b f t k F cs0 v v' g1 es:=by cases k with|nil=>refine After.ret (k1:=[]) D R (λp=>by simp[G,UY,UY.exec,cj]) λk' h=>?_;generalize Z:([]:List Vj)=k at h;(cases h with|app _ _=>simp at Z|reg _ _=>simp at Z|fin _=>simp at Z)|cons x kr=>simp only[SE,Qaa]at Z;obtain⟨V,hkr⟩:=Z;(have q:∀(Q:List Vj),x≠R0->(∀g l,x≠.inRegion g l)->(cS d.live x=UJ->Q.all (cS d.live)=UJ)->(∀(kr:List Vj)p,UY P main (G (cj f t (x::kr) .run) p) v=.go (G (cj f t (Q++kr) .run) p) v #[])->(∀(kr:List Vj)p,UY P main (G (d.bot t (x::kr)) p) v=.go (G (d.bot t (Q++kr)) p) v #[])->After P main d b f t (x::kr) F cs0 v v' g1 es:=by intro Q U O h3 h4 h5;refine After.ctl (k1:=Q++kr) D R (h4 kr) λ_ k' h=>?_;obtain⟨z,A,B,C,I,N⟩:=h.xL U O;subst B C;exact⟨_,.mk' Q A N (h3 I),h5 _⟩);cases x with|code a=>(cases a with|skip=>exact q [] (by simp[R0]) Θ (λ_=>rfl) (λkr p=>by simp[G,UY,UY.exec,cj]) (λkr p=>by simp[G,UY,UY.exec,de.bot])|label l=>exact q [] (by simp[R0]) Θ (λ_=>rfl) (λkr p=>by simp[G,UY,UY.exec,cj]) (λkr p=>by simp[G,UY,UY.exec,de.bot])|ret=>refine After.ret D R (λp=>oC) λk' h=>?_;obtain⟨z,_,_,_,h4,_⟩:=h.xL (by simp[R0]) Θ;simp[cS,gh]at h4|seq a b=>exact q [.code a,.code b] (by simp[R0]) Θ (λh=>by simpa[cS,gh]using h) (λkr p=>by simp[G,UY,UY.exec,cj]) (λkr p=>by simp[G,UY,UY.exec,de.bot])|block id a=>exact q [.code a,.inBlock id] (by simp[R0]) Θ (λh=>by simpa[cS,gh]using h) (λkr p=>by simp[G,UY,UY.exec,cj]) (λkr p=>by simp[G,UY,UY.exec,de.bot])|loop a=>exact q [.code a,.inLoop a] (by simp[R0]) Θ (λh=>by simpa[cS,gh]using h) (λkr p=>by simp[G,UY,UY.exec,cj]) (λkr p=>by simp[G,UY,UY.exec,de.bot])|scope a=>exact q [.code a,.inScope a] (by simp[R0]) Θ (λh=>by simpa[cS,gh]using h) (λkr p=>lP) (λkr p=>by simp[G,UY,UY.exec,de.bot])|refuse why=>have:∃o w,UY P main (G (cj f t (.code (.refuse why)::kr) .run) cs0) v=.ended o w #[]:=⟨_,v,by simp[G,UY,UY.exec,cj];rfl⟩;obtain⟨o,w,e⟩:=this;rw[e]at D;cases D|exit id=>(cases X:exitTo id kr with|none=>rw[iM X]at D;cases D|some k1=>refine After.ctl (k1:=k1) D R (λp=>by simp[G,UY,UY.exec,cj,X]) λ_ k' h=>?_;obtain⟨z,A,B,C,I,N⟩:=h.xL (by simp[R0]) Θ;subst B C;obtain⟨i1,f1,f2,f3⟩:=mq (tail:=d.tail) N X;subst f1;exact⟨_,.app A f2,λp=>by simp[G,UY,UY.exec,de.bot,f3]⟩)|cond y a Y=>(cases hv:(cj f t (.code (.cond y a Y)::kr) .run).eval y with|bool u=>refine After.ctl (k1:=.code (if u then a else Y)::kr) D R (λp=>jW hv) λ_ k' h=>?_;obtain⟨z,A,B,C,I,N⟩:=h.xL (by simp[R0]) Θ;subst B C;simp only[cS,gh,Qaa]at I;refine⟨_,.mk' [.code (if u then a else Y)] A N (by cases u<;>simp[cS,I]),λp=>?_⟩;have:=Ca (d:=d) (t:=t) (k:=.code (.cond y a Y)::(z++[R0])) (k':=.code (.cond y a Y)::(z++d.tail)) (f:=f) (m:=.run) y I.1.1;rw[hv]at this;simp only[de.bot]at this;simp[G,UY,UY.exec,de.bot,this]|_=>obtain⟨o,w2,e⟩:=jL (P:=P) (main:=main) (cs:=cs0) (w:=v) (f:=f) (t:=t) (x:=y) (a:=a) (b:=Y) (k:=kr) (λu e=>by rw[hv]at e;cases e);rw[D]at e;cases e)|region id g draw=>(cases draw with|false=>exact q [.inRegion g (List.range g.size)] (by simp[R0]) Θ (λh=>by simp only[cS,gh]at h;simp only[SE,T6,cS,yF h,Tx]) (λkr p=>by simp[G,UY,UY.exec,cj]) (λkr p=>by simp[G,UY,UY.exec,de.bot])|true=>have L:=λp=>j0 (P:=P) (main:=main) (f:=f) (t:=t) (id:=id) (ops:=g) (k:=kr) (cs:=p) (w:=v);rw[L]at D;cases hc:(choose (.order f id)).run P v with|halt h w1=>rw[hc]at D;cases D|ok u w1=>rw[hc]at D;simp only at D;injection D with A B C;subst A B C;cases R with|up=>exact .inl ⟨t,_,_,rfl,.up,λp=>by rw[L,hc]⟩|bot h=>obtain⟨z,A,B,C,I,N⟩:=h.xL (by simp[R0]) Θ;subst B C;refine .inl ⟨t,_,_,rfl,.bot (.mk' [.inRegion g (Region.schedule (P.follows .mixedOrders) g u)] A N (by simp only[cS,gh]at I;simp only[SE,T6,cS,yF I,Tx])),λp=>?_⟩;simp only[G,UY,UY.exec,de.bot,Bool.not_true,SB,if_false,hc];rfl)|rangeFunc _ _ _ _=>simp[aT,codeOk]at V|goto l=>simp[aT,codeOk]at V)|inBlock id=>exact q [] (by simp[R0]) Θ (λ_=>rfl) (λkr p=>by simp[G,UY,UY.exec,cj]) (λkr p=>by simp[G,UY,UY.exec,de.bot])|inLoop a=>exact q [.code a,.inLoop a] (by simp[R0]) Θ (λh=>by simpa[cS]using h) (λkr p=>by simp[G,UY,UY.exec,cj]) (λkr p=>by simp[G,UY,UY.exec,de.bot])|inScope a=>exact q [] (by simp[R0]) Θ (λ_=>rfl) (λkr p=>jx) (λkr p=>by simp[G,UY,UY.exec,de.bot])|inRegion g l=>(cases l with|nil=>refine After.ctl (k1:=kr) D R (λp=>by simp[G,UY,UY.exec,cj]) λhb k' h=>?_;rcases h.cons (by simp[R0])with⟨z,A,B,C,I,N⟩|⟨ops',l1,l2,A,B,C,I,N⟩;{subst B C;exact⟨_,.app A N,λp=>by simp[G,UY,UY.exec,de.bot]⟩};exact absurd (by unfold de.end;rw[A];cases B;exact .inr ⟨rfl,_,by rw[C]⟩) (hend hb)|cons i s=>have hops:(i::s).all (opAt P c gl g)=UJ:=V;(have hB:∀k',b=UJ->Gl d (.inRegion g (i::s)::kr) k'->∃r E,k'=.inRegion g (i::r)::E/\Gl d (.inRegion g s::kr) (.inRegion g r::E)/\rv d.live g i=UJ:=by intro k' _ h;rcases h.cons (by simp[R0])with⟨z,A,B,C,I,N⟩|⟨ops',l1,l2,A,B,C,I,N⟩;{subst B C;simp only[cS,SE,Qaa]at I;exact⟨s,_,rfl,.mk' [.inRegion g s] A N (by simp only[SE,T6,cS,I.2,Tx]),I.1⟩};cases B;subst C I;simp only[SE,Qaa]at N;exact⟨s++l2,_,rfl,.reg A N.2,N.1⟩);cases M:((g[i]?).map (Region.wanted · (U7 g t))).getD Ul with|false=>have L:=λp=>stepG_unwanted (P:=P) (main:=main) (f:=f) (cs:=p) (k:=kr) (rest:=s) (w:=v) M;rw[L]at D;injection D with A B C;subst A B C;(cases R with|up=>exact .inl ⟨_,_,_,by rw[cK],.up,λp=>by rw[L,cK]⟩|bot h=>obtain⟨r,E,rfl,U,O⟩:=hB _ rfl h;refine .inl ⟨_,_,_,by rw[cK],.bot U,λp=>?_⟩;(have hl:(match(g[i]?).bind (·.dst)with|some j=>d.live j|none=>UJ)=UJ:=by cases K:g[i]? with|none=>rfl|some o=>have:=(kR O K).1;simp only[oa,Qaa]at this;cases hd:o.dst<;>simp only[Te,hd];rw[hd]at this;exact this.2);exact(rz (by cases K:g[i]? with|none=>rfl|some o=>rw[K]at M;simp only[SC,SI]at M⊢;rw[vp (kR O K).2];exact M)).trans (congrArg (λF=>GStep.go (G F p) v #[]) (jO hl UT)))|true=>cases K:g[i]? with|none=>rw[K]at M;simp at M|some o=>rw[K]at M;(have H:Region.wanted o (U7 g t)=UJ:=by simpa using M);obtain⟨n,w1,hr,hshp⟩:=hrun g i s kr o rfl K H;have hok:pJ P c gl o=UJ:=nx hops K;obtain⟨hsel,S⟩:=EG hok;(have W:∀r E,b=UJ->rv d.live g i=UJ->UZ (fB d t g i r E).eval o=UZ (l7 f t g i s kr).eval o/\Region.wanted o (U7 g (d.ov t))=UJ/\(match(g[i]?).bind (·.dst)with|some j=>d.live j|none=>UJ)=UJ:=by intro r E _ O;have hl:=(kR O K).1;simp only[oa,Qaa]at hl;refine⟨execOp_congr hsel λx hxx=>Ca x ?_,by rw[vp (kR O K).2];exact H,?_⟩;{have:=hl.1;rw[TZ]at this;exact this x hxx};rw[K];cases hd:o.dst<;>simp only[Te,hd];rw[hd]at hl;exact hl.2);cases n with|value u=>have L:=λp=>jk (P:=P) (main:=main) (cs:=p) K H hr;rw[L]at D;injection D with A B C;subst A B C;(cases R with|up=>exact .inl ⟨_,_,_,by rw[cK],.up,λp=>by rw[L,cK]⟩|bot h=>obtain⟨r,E,rfl,U,O⟩:=hB _ rfl h;obtain⟨T,a2,a3⟩:=W r E rfl O;refine .inl ⟨_,_,_,by rw[cK],.bot U,λp=>?_⟩;exact((vK he S K a2 (by rw[T];exact hr)).trans (by rw[T])).trans (congrArg (λF=>GStep.go (G F p) _ _) (jO a3 u)))|skip=>have L:=λp=>j4 (P:=P) (main:=main) (cs:=p) K H hr;rw[L]at D;injection D with A B C;subst A B C;(cases R with|up=>exact .inl ⟨_,_,_,by rw[cK],.up,λp=>by rw[L,cK]⟩|bot h=>obtain⟨r,E,rfl,U,O⟩:=hB _ rfl h;obtain⟨T,a2,a3⟩:=W r E rfl O;refine .inl ⟨_,_,_,by rw[cK],.bot U,λp=>?_⟩;exact((zn he S K a2 (by rw[T];exact hr)).trans (by rw[T])).trans (congrArg (λF=>GStep.go (G F p) _ _) (jO a3 UT)))|enter j args=>have L:=λp=>i7 (P:=P) (main:=main) (cs:=p) K H hr;obtain⟨t1,k1,I⟩:=FH (P:=P) j args;rw[L]at D;injection D with A B C;subst A B C;(cases R with|up=>exact .inr (.inl ⟨j,t1,k1,by rw[I],λp=>by rw[L,I]⟩)|bot h=>obtain⟨r,E,rfl,U,O⟩:=hB _ rfl h;obtain⟨T,a2,a3⟩:=W r E rfl O;refine .inr (.inl ⟨j,t1,k1,by rw[I],λp=>?_⟩);rw[vL he S K a2 (by rw[T];exact hr),T,I])|_=>exact hshp.elim)|inRangeFunc _=>simp[aT]at V|endRangeFunc _=>simp[aT]at V|beginRound=>simp[aT]at V|call _ _ _ _=>simp[aT]at V|extern _ _=>simp[aT]at V
end
section
variable{d:de}
theorem cg.lz(h:s.g cs=s'.g cs):s=s':=by obtain⟨f,t,k,b,p⟩:=s;obtain⟨m,q,o,a,l⟩:=s';simp only[cg.g,G,cj,UP.mk.injEq,U0.mk.injEq]at h;obtain⟨⟨e,g,i,-,n,-⟩,j,-⟩:=h;have:=Gg (Vr j);subst e g i this;(have:b=a:=by cases b<;>cases a<;>simp_all[md]);rw[this]
theorem Gl.op(h:Gl d (.inRegion ops (i::rest)::kr) k'):∃a f,k'=.inRegion ops (i::a)::f/\Gl d (.inRegion ops rest::kr) (.inRegion ops a::f)/\rv d.live ops i=UJ:=by rcases h.cons (by simp[R0])with⟨l,g,j,k,b,e⟩|⟨m,o,n,g,j,k,b,e⟩;{subst j k;simp only[cS,SE,Qaa]at b;exact⟨rest,_,rfl,.mk' [.inRegion ops rest] g e (by simp only[SE,T6,cS,b.2,Tx]),b.1⟩};cases j;subst k b;simp only[SE,Qaa]at e;exact⟨rest++n,_,rfl,.reg g e.2,e.1⟩
theorem Ga(a:rv d.live ops i=UJ):(match(ops[i]?).bind (·.dst)with|some j=>d.live j|none=>UJ)=UJ:=by cases b:ops[i]? with|none=>rfl|some o=>have:=(kR a b).1;simp only[oa]at this;grind
inductive DG(d:de)(cs:List U0):cg->UP->Prop
 |here{t:Array UO}{k k':List Vj}:Gl d k k'->DG d cs ⟨d.f,t,k,Ul,[]⟩ (G (d.bot t k') cs)
 |below{f:Va}{t t0:Array UO}{k k0 k0':List Vj}{ret:Bool}{pre st:List (Va×Array UO×List Vj)}:st=pre++[(d.f,t0,k0)]->Gl d k0 k0'->DG d cs ⟨f,t,k,ret,st⟩ (G (cj f t k (md ret)) (pre.map up++d.bot t0 k0'::cs))
theorem DG.running{g:UP}(h:DG d cs s g):g.status=.running:=by cases h<;>rfl
theorem DG.step{cs cs0:List U0}{s s1:cg}{g:UP}{v v':UL}{es:Array Vv}(h:DG d cs s g)(p:UY P main (s.g cs0) v=.go (s1.g cs0) v' es)(E:wY P c gl s)(he:d.kind≠.early)(H:s.ret=Ul->AX P s.f s.t s.k v)(R:s.st=[]->¬d.end s.k):∃g1,UY P main g v=.go g1 v' es/\DG d cs s1 g1:=by(have w:∀ch,(s1.g cs0).frame.mode≠.panicking ch:=λch e=>by simp only[cg.g,G,cj]at e;cases hr:s1.ret<;>rw[hr]at e<;>simp[md]at e);cases h with|@here t k k' D=>rcases IY.step (d:=d) (b:=UJ) (k:=k) (F:=d.bot t k') p E.items (.bot D) he (λ_=>R rfl) (H rfl) w with⟨O,m,F1,B,U,C⟩|⟨j,O,m,B,C⟩|⟨e,_⟩;{obtain rfl:s1=⟨d.f,O,m,Ul,[]⟩:=cg.lz (cs:=cs0) B;cases U with|bot S=>exact⟨_,C cs,.here S⟩};{obtain rfl:s1=⟨j,O,m,Ul,[(d.f,t,k)]⟩:=cg.lz (cs:=cs0) B;exact⟨_,C cs,.below (pre:=[]) rfl D⟩};cases e|@below f t A k N k0' Y n st W D=>subst W;cases Y with|false=>rcases IY.step (d:=d) (b:=Ul) (F:=cj f t k .run) p E.items .up he (λe=>by cases e) (H rfl) w with⟨O,m,F1,B,U,C⟩|⟨j,O,m,B,C⟩|⟨_,m,B,C⟩;{obtain rfl:s1=⟨f,O,m,Ul,n++[(d.f,A,N)]⟩:=cg.lz (cs:=cs0) B;cases U with|up=>exact⟨_,C _,.below rfl D⟩};{obtain rfl:s1=⟨j,O,m,Ul,(f,t,k)::(n++[(d.f,A,N)])⟩:=cg.lz (cs:=cs0) (B.trans rfl);exact⟨_,C _,.below (pre:=(f,t,k)::n) rfl D⟩};obtain rfl:s1=⟨f,t,m,UJ,n++[(d.f,A,N)]⟩:=cg.lz (cs:=cs0) B;exact⟨_,C _,.below rfl D⟩|true=>cases n with|nil=>obtain⟨-,-,l,i,a,m,e⟩:=E.below (d.f,A,N) Θ;simp only at e;subst e;obtain⟨X,kk',rfl,S,h2⟩:=D.op;have hl:=Ga h2;have L:up (d.f,A,.inRegion l (i::a)::m)=l7 d.f A l i a m:=rfl;rw[cg.gQ]at p;simp only[T2,SH,Tf,Tp,L]at p;(cases q:P.funcs[f]? with|none=>rw[bM q,cK]at p;injection p with I J K;subst J K;obtain rfl:s1=⟨d.f,_,.inRegion l a::m,Ul,[]⟩:=cg.lz (cs:=cs0) I.symm;exact⟨_,(bM q).trans (congrArg (λF=>GStep.go (G F cs) _ _) (jO hl _)),.here S⟩|some V=>cases M:(results V t).run P v with|halt z w1=>obtain⟨o,Z,e⟩:=c8 (main:=main) (k:=k) (x:=l7 d.f A l i a m) (cs:=cs0) q M;simp_all|ok u Z=>rw[aO q M,cK]at p;injection p with I J K;subst J K;obtain rfl:s1=⟨d.f,_,.inRegion l a::m,Ul,[]⟩:=cg.lz (cs:=cs0) I.symm;exact⟨_,(aO q M).trans (congrArg (λF=>GStep.go (G F cs) _ _) (jO hl _)),.here S⟩)|cons y n=>obtain⟨Q,T,ky⟩:=y;obtain⟨-,-,l,i,a,m,e⟩:=E.below (Q,T,ky) Θ;simp only at e;subst e;have L:up (Q,T,.inRegion l (i::a)::m)=l7 Q T l i a m:=rfl;rw[cg.gQ]at p;simp only[Tp,SH,L]at p;cases q:P.funcs[f]? with|none=>rw[bM q,cK]at p;injection p with I J K;subst J K;obtain rfl:s1=⟨Q,_,.inRegion l a::m,Ul,n++[(d.f,A,N)]⟩:=cg.lz (cs:=cs0) I.symm;exact⟨_,(bM q).trans (by rfl),.below rfl D⟩|some V=>cases M:(results V t).run P v with|halt z w1=>obtain⟨o,Z,e⟩:=c8 (main:=main) (k:=k) (x:=l7 Q T l i a m) (cs:=(n++[(d.f,A,N)]).map up++cs0) q M;simp_all|ok u Z=>rw[aO q M,cK]at p;injection p with I J K;subst J K;obtain rfl:s1=⟨Q,_,.inRegion l a::m,Ul,n++[(d.f,A,N)]⟩:=cg.lz (cs:=cs0) I.symm;exact⟨_,(aO q M).trans (by rfl),.below rfl D⟩
theorem H9(D:Listed P c gl){s1:cg}{w1:UL}(T:∀g,gl g=UJ->r g=UG g)(W:cm c r w v)(U:l9 c r s s')(V:wY P c gl s)(A:bX P s w s1 w1)(m:s.ret=Ul):AX P s'.f s'.t s'.k v:=by obtain⟨f,t,k,ret,st⟩:=s;obtain⟨S,M,X,L,st'⟩:=s';obtain⟨O,H,Q,R,B⟩:=U;simp only at O H Q R B m;subst S X m;intro a i l I o J E p;subst J;(have h:Region.wanted o (U7 a t)=UJ:=by rw[<-funext λj=>mD H a j];exact p);obtain⟨y,-⟩:=V.tg;have F:=nx y E;have b:=rY D.aJ D.ext F (ev:=(l7 f t a i l I).eval) (λx q=>pT H T D.qa x q) (λ_=>⟨rfl,rfl⟩) w v W;cases q:(UZ (l7 f t a i l I).eval o).run P w with|halt z w2=>rw[q]at b;by_cases K:∃u,z=.panic u;{obtain⟨u,rfl⟩:=K;exact(A.qi (lQ E h q)).elim};exact(A.gG (mJ E h q b (λu e=>K ⟨u,e⟩))).elim|ok n w2=>rw[q]at b;obtain⟨Y,v1,r1,N,-,Z,-⟩:=b;exact⟨Y,v1,N,by cases Z<;>trivial⟩
def Lb(d:de)(Q:Array UO->UL->Prop)(s:cg)(w:UL):Prop:=s.st=[]/\s.ret=Ul/\s.f=d.f/\s.k=[R0]/\Q s.t w
theorem iG.loc(hl:Listed P c gl)(he:d.kind≠.early)(h:iG P (Lb d Q) s w):∀{r:bC}{own:Nat->Prop}{v:UL}{s':cg}{g:UP},wY P c gl s->(∃T D,cm c r (re w T D) v)->l9 c r s s'->(∀g,gl g=UJ->r g=UG g)->Reach c r own RO CU v->DG d cs s' g->(∀q p t F k' i v1,r.le q->Q t i->Gl d [R0] k'->cm c q i v1->ak c q t F->Reach c q p RO CU v1->Left c r own RO v p v1->Loc P main RO CU Stop p (G (d.bot F k') cs) v1)->Loc P main RO CU Stop own g v:=by induction h with|@done s w hd=>intro r own v s' g I⟨T,D,hw⟩m S b n K;obtain⟨C,g2,g3,g4,g5⟩:=hd T D;obtain⟨f,t,k,ret,st⟩:=s;obtain⟨f',F,k',u,st'⟩:=s';obtain⟨e1,W,e2,e3,a⟩:=m;simp only at e1 W e2 e3 a C g2 g3 g4 g5;subst f' k' u C g2 g3 g4;cases a;(cases n with|here j=>exact K r own _ _ _ _ v (bC.le_refl r) g5 j hw W b (Left.refl ..)|below e j=>simp at e)|@step s w hng U hex hall ih=>intro r own v s' g I⟨T,D,hw⟩m S b n K;have stuck:∀(f:Va)(t:Array UO)(w:UL)(A:cg)(i:UL),¬bX P ⟨f,t,[R0],Ul,[]⟩ w A i:=λf t w A i h=>h.gG ⟨_,w,by rfl⟩;(have o:s.st=[]->s.ret=Ul:=λh=>by cases m:s.ret with|false=>rfl|true=>exact absurd ⟨m,h⟩ U);by_cases J:s.st=[]/\d.l2.isSome=UJ/\∃B,s.k=[.inRegion B [],R0];{obtain⟨N,h2,B,h3⟩:=J;have h0:=o N;obtain⟨f,t,k,ret,st⟩:=s;obtain⟨f',F,k',u,st'⟩:=s';obtain⟨e1,W,e2,e3,a⟩:=m;simp only at e1 W e2 e3 a N h3 h0;subst f' k' u N h3 h0;cases a;have hls:bX P ⟨f,t,[.inRegion B [],R0],Ul,[]⟩ (re w T D) ⟨f,t,[R0],Ul,[]⟩ (re w T D):=⟨#[],by rfl⟩;cases n with|@here _ _ k2 j=>(have:Gl d [R0] k2:=by generalize hk:[Vj.inRegion B [],R0]=kk at j;cases j with|app hn _=>simp_all|reg hn _=>simp only[Ta,Vj.inRegion.injEq,and_true]at hk;obtain⟨rfl,rfl⟩:=hk;exact .fin hn|fin _=>simp at hk);exact ih T D _ _ hls (s':=⟨d.f,F,[R0],Ul,[]⟩) ⟨I.fn,rfl,I.below⟩ ⟨T,D,by simp_all⟩ ⟨rfl,W,rfl,rfl,.nil⟩ S b (.here this) K|below e j=>simp at e};(have R:s.st=[]->¬d.end s.k:=by intro N h2;rcases h2 with h2|⟨h2,h3⟩;{have h0:=o N;obtain⟨f,t,k,ret,st⟩:=s;simp_all};simp_all);(have Y:∀v1,Env own RO CU v v1->∃A i z v2 q M C,bX P s (re w v1.tape v1.drawn) A i/\wY P c gl A/\UY P main g v1=.go C v2 M/\DG d cs z C/\Ext c r (re w v1.tape v1.drawn) v1 q i v2/\l9 c q A z/\(∀e∈M,rm c q e):=by intro v1 E;have X:cm c r (re w v1.tape v1.drawn) v1:=hw.env b E;obtain⟨A,i,L⟩:=hex v1.tape v1.drawn;rcases tD (main:=main) (bs:=[]) hl S X m I (λe e'=>U ⟨e,e'⟩)with⟨s2,w2,es1,b1,b2,z,v2,q,M,b3,b4,b5,b6⟩|hb;{obtain⟨rfl,rfl⟩:=bX.Nk L ⟨es1,b1⟩;have hs':wY P c gl s':=⟨trivial,by rw[m.k];exact I.items,by have:=I.below;have a:=m.st;revert this;generalize s.st=l at a;generalize s'.st=l' at a;induction a with|nil=>simp|@cons f t F k l l' _ _ ih=>intro h x hx;rcases Sv.1 hx with rfl|hx;{simp_all};exact ih (λy hy=>h y (SW _ hy)) x hx⟩;obtain⟨C,c1,c2⟩:=n.step b3 hs' he (λV=>H9 hl S X m I L (by rw[<-m.ret];exact V)) (λh=>by rw[m.k];refine R ?_;have a:=m.st;rw[h]at a;generalize s.st=l at a;cases a;rfl);grind};exact(hb.not L).elim);refine .step n.running (λv1 E=>?_) (λv1 g' v' M E O=>?_);{obtain⟨A,i,z,v2,q,M,C,L,a2,a3,a4,H,a6,a7⟩:=Y v1 E;exact⟨_,_,_,a3,(H.mine (b.env E) a7).1⟩};obtain⟨A,i,z,v2,q,es',C,L,a2,a3,a4,H,a6,a7⟩:=Y v1 E;rw[a3]at O;injection O with b1 b2 b3;subst b1 b2 b3;refine ih v1.tape v1.drawn A i L a2 ⟨i.tape,i.drawn,H.rel⟩ a6 (λg e=>H.le _ _ (S g e)) (H.mine (b.env E) a7).2 a4 λr2 Z t F k' w2 v3 c1 c2 c3 c4 c5 c6 c7=>?_;exact K r2 Z t F k' w2 v3 (bC.le_trans H.le c1) c2 c3 c4 c5 c6 (Left.after b E H c7)
end
section
variable{d:de}
def lv(live:Nat->Bool)(t:Array UO):Array UO:=t.mapIdx λi v=>if live i then v else UT
theorem OB:d.ov (lv d.live d.t0)=d.t0:=by apply Tj;intro i;simp only[de.ov,lv,T4,Sr];grind
structure Place(P:U9)(c:dG)(gl:Nat->Bool)(r:bC)(w:UL)(own RO:Nat->Prop)(CU:Nat->Nat->Prop)(v:UL):Prop where
 bH:Listed P c gl
 Rn:∀g,gl g=UJ->r g=UG g
 rel:cm c r w v
 reach:Reach c r own RO CU v
theorem Loc.piece(e:Place P c gl r w own RO CU v)(C:d.kind≠.early){k0 k0':List Vj}(E:k0.all (aT P c gl)=UJ)(l:Gl d k0 k0')(F:ak c r tl (lv d.live d.t0))(B:∀t w T D,Q t w->Q t (re w T D))(H:∀T,∃n f w',runN P n (ko ⟨d.f,tl,k0,Ul,[]⟩ (re w T 0))=.next (ko ⟨d.f,f,[R0],Ul,[]⟩ w')/\Q f w')(K:∀k a t f k' y v1,r.le k->Q t y->Gl d [R0] k'->cm c k y v1->ak c k t f->Reach c k a RO CU v1->Left c r own RO v a v1->Loc P main RO CU Stop a (G (d.bot f k') cs) v1):Loc P main RO CU Stop own (G {fn:=d.f,tmps:=d.t0,todo:=k0',defers:=d.defers,mode:=.run,kind:=d.kind,roundOf:=d.roundOf} cs) v:=by have o:wY P c gl ⟨d.f,tl,k0,Ul,[]⟩:=⟨trivial,E,λx I=>by simp at I⟩;have m:l9 c r ⟨d.f,tl,k0,Ul,[]⟩ ⟨d.f,lv d.live d.t0,k0,Ul,[]⟩:=⟨rfl,F,rfl,rfl,.nil⟩;have g:=Fit.AM o e.rel m e.Rn;(have b:iG P (Lb d Q) ⟨d.f,tl,k0,Ul,[]⟩ w:=by refine um e.bH (λs w T D h=>⟨h.1,h.2.1,h.2.2.1,h.2.2.2.1,B _ _ T D h.2.2.2.2⟩) g λT=>?_;obtain⟨n,f,w',z,A⟩:=H T;exact⟨n,_,w',z,rfl,rfl,rfl,rfl,A⟩);have:=b.loc e.bH (main:=main) (RO:=RO) (CU:=CU) (Stop:=Stop) (cs:=cs) C o ⟨w.tape,w.drawn,e.rel⟩ m e.Rn e.reach (.here l) K;rw[de.bot,OB]at this;exact this
theorem CW(h:cd.wp P (λe a w=>e=.normal/\a.defers=[]/\Q a.tmps w) ⟨t,[]⟩ w):∃n b w',runN P n (ko ⟨f,t,[.code cd,R0],Ul,[]⟩ w)=.next (ko ⟨f,b,[R0],Ul,[]⟩ w')/\Q b w':=by obtain⟨e,j,w',⟨rfl,g,i⟩,n,k⟩:=h (base f) [R0] [dj];obtain⟨b,l⟩:=j;simp only at g i;subst g;exact⟨n,b,w',k,i⟩
theorem Loc.code(N:Place P c gl r w own RO CU v)(g:Nat->Bool)(o:F.todo=.code cd::tail)(s:F.mode=.run)(p:F.kind≠.early)(q:codeOk P c gl cd=UJ)(m:gh g cd=UJ)(u:ak c r tl (lv g F.tmps))(M:∀t w T D,Q t w->Q t (re w T D))(H:∀T,cd.wp P (λe a w=>e=.normal/\a.defers=[]/\Q a.tmps w) ⟨tl,[]⟩ (re w T 0))(K:∀j b t k l v1,r.le j->Q t l->cm c j l v1->ak c j t k->Reach c j b RO CU v1->Left c r own RO v b v1->Loc P main RO CU Stop b (G {F with tmps:=k.mapIdx λi x=>if g i then x else F.tmps.getD i UT,todo:=tail} cs) v1):Loc P main RO CU Stop own (G F cs) v:=by obtain⟨f,U,W,L,md,R,S⟩:=F;simp only at o s p u H K;subst o s;refine Loc.piece (d:=⟨f,L,R,S,UM,tail,g,U⟩) N p (k0:=[.code cd,R0]) (by simp[aT,q,R0,codeOk]) (.app (init:=[.code cd]) rfl (by simp[cS,m])) u M (λT=>CW (H T)) λj b t k O l v1 A B n C E I J=>?_;(have:O=tail:=by generalize q:[R0]=V at n;cases n with|@app y _ _=>simp_all|reg h _=>cases h|fin h=>cases h);subst this;exact K j b t k l v1 A B C E I J
end
end Go.ae
namespace Go.Mx
variable{i N:Nat}
structure Wd where
 L:Bool
 W:Bool
 S:Bool
 n:Nat
 deriving DecidableEq
def Wd.enc(w:Wd):Nat:=w.L.toNat+2*w.W.toNat+4*w.S.toNat+8*w.n
def Wd.zero:Wd:=⟨Ul,Ul,Ul,0⟩
theorem Wd.rJ{w v:Wd}(h:w.enc=v.enc):w=v:=by obtain⟨a,b,c,n⟩:=w;obtain⟨d,e,f,g⟩:=v;cases a<;>cases b<;>cases c<;>cases d<;>cases e<;>cases f<;>simp[Wd.enc]at h⊢<;>omega
inductive Th
 |out|c0
 |ld(aw st:Bool)
 |cs(old:Wd)
 |ca(old:Wd)(aw st:Bool)
 |sq|t2
 |a1(old:Wd)(st:Bool)
 |hold|u0
 |uc(old:Wd)
 |ux|us
def nw(o:Wd)(aw st:Bool):Wd:=⟨!o.S||o.L,!aw&&o.W,o.S||(st&&o.L),if o.L||o.S then o.n+1 else o.n⟩
inductive Mv:Th->Wd->Nat->Th->Wd->Nat->Prop
 |start{w:Wd}{m:Nat}:Mv .out w m .c0 w m
 |LY{m:Nat}:Mv .c0 ⟨Ul,Ul,Ul,0⟩ m .hold ⟨UJ,Ul,Ul,0⟩ m
 |IK{w:Wd}{m:Nat}:w≠⟨Ul,Ul,Ul,0⟩->Mv .c0 w m (.ld Ul Ul) w m
 |Qi{w:Wd}{m:Nat}{aw st:Bool}:Mv (.ld aw st) w m (.ld aw st) w m
 |Rw{w:Wd}{m:Nat}{st:Bool}:w.L=UJ->w.S=Ul->w.W=Ul->w.n≠0->Mv (.ld Ul st) w m (.cs w) w m
 |OH{w:Wd}{m:Nat}{aw st:Bool}:Mv (.ld aw st) w m (.ca w aw st) w m
 |L1{w:Wd}{m:Nat}:Mv (.cs w) w m (.ld UJ Ul) {w with W:=UJ} m
 |Ih{o w:Wd}{m:Nat}:w≠o->Mv (.cs o) w m (.ld Ul Ul) w m
 |H4{w:Wd}{m:Nat}{aw st:Bool}:w.L=Ul->w.S=Ul->Mv (.ca w aw st) w m .hold (nw w aw st) m
 |J'{w:Wd}{m:Nat}{aw st:Bool}:(w.L||w.S)=UJ->Mv (.ca w aw st) w m .sq (nw w aw st) m
 |I1{o w:Wd}{m:Nat}{aw st:Bool}:Mv (.ca o aw st) w m (.ld aw st) w m
 |Od{o w:Wd}{m:Nat}{st:Bool}:o.L=UJ->o.S=Ul->o.W=Ul->o.n≠0->Mv (.ca o Ul st) w m (.cs o) w m
 |IP{o w:Wd}{m:Nat}{aw st:Bool}:w≠o->Mv (.ca o aw st) w m (.ld aw st) w m
 |take{w:Wd}{m:Nat}:Mv .sq w (m+1) .t2 w m
 |O6{w:Wd}{m:Nat}{st:Bool}:w.S=UJ->Mv .t2 w m (.a1 w st) w m
 |Ol{w:Wd}{m:Nat}{st:Bool}:w.S=Ul->Mv .t2 w m (.ca w UJ st) w m
 |Qh{w:Wd}{m:Nat}{st:Bool}:w.S=Ul->Mv .t2 w m (.ld UJ st) w m
 |add{w o:Wd}{m:Nat}{st:Bool}:Mv (.a1 o st) w m .hold ⟨UJ,w.W,st&&o.n !=1,w.n-1⟩ m
 |want{w:Wd}{m:Nat}:Mv .hold w m .u0 w m
 |Pm{w:Wd}{m:Nat}:w.S=UJ->Mv .u0 w m .us {w with L:=Ul} m
 |NF{w:Wd}{m:Nat}:w.S=Ul->w.n=0\/w.W=UJ->Mv .u0 w m .out {w with L:=Ul} m
 |On{w:Wd}{m:Nat}:w.S=Ul->w.n≠0->w.W=Ul->Mv .u0 w m (.uc {w with L:=Ul}) {w with L:=Ul} m
 |Nz{w:Wd}{m:Nat}:Mv (.uc w) w m .us {w with W:=UJ,n:=w.n-1} m
 |Jr{o w:Wd}{m:Nat}:w≠o->Mv (.uc o) w m .ux w m
 |MV{w:Wd}{m:Nat}:w.n=0\/w.L=UJ\/w.W=UJ\/w.S=UJ->Mv .ux w m .out w m
 |O5{w:Wd}{m:Nat}:w.n≠0->w.L=Ul->w.W=Ul->w.S=Ul->Mv .ux w m (.uc w) w m
 |A9{w:Wd}{m:Nat}:Mv .us w m .out w (m+1)
def qC:Th->Bool|.hold|.u0=>UJ|_=>Ul
def AN:Th->Bool|.us|.t2|.a1 _ _=>UJ|.ld aw _=>aw|.ca _ aw _=>aw|_=>Ul
def pQ:Th->Bool|.sq=>UJ|_=>Ul
def Hy:Th->Bool|.us=>UJ|_=>Ul
def Ch:Th->Bool|.t2|.a1 _ _=>UJ|_=>Ul
def Hx:Th->Bool|.ld aw _=>aw|.ca _ aw _=>aw|_=>Ul
def N5:Th->Bool|.uc _|.ux=>UJ|_=>Ul
def cnt(p:Th->Bool)(f:Nat->Th):Nat->Nat
 |0=>0
 |N+1=>cnt p f N+(p (f N)).toNat
def upd(f:Nat->Th)(i:Nat)(x:Th):Nat->Th:=λj=>if j=i then x else f j
theorem xF{p:Th->Bool}{f g:Nat->Th}:∀{N:Nat},(∀j,j<N->p (f j)=p (g j))->cnt p f N=cnt p g N|0,_=>rfl|N+1,h=>by simp only[cnt];rw[xF λj b=>h j Ω,h N Ω]
theorem lE(p:Th->Bool)(f:Nat->Th)(x:Th):∀{N:Nat},i<N->cnt p (upd f i x) N+(p (f i)).toNat=cnt p f N+(p x).toNat|N+1,h=>by simp only[cnt];rcases TL (Uf h)with b|rfl;{have:=lE p f x b;(have e:upd f i x N=f N:=by simp[upd];omega);grind};(have:cnt p (upd f i x) i=cnt p f i:=xF λj c=>by simp[upd];grind);rw[this];simp[upd];omega
theorem pD{p:Th->Bool}{f:Nat->Th}:∀{N i:Nat},i<N->p (f i)=UJ->1<=cnt p f N|N+1,i,h,c=>by simp only[cnt];rcases TL (Uf h)with b|rfl;{have:=pD b c;omega};simp_all
theorem pz{p:Th->Bool}{f:Nat->Th}:∀{N i j:Nat},i<j->j<N->p (f i)=UJ->p (f j)=UJ->2<=cnt p f N|N+1,i,j,b,h,c,e=>by simp only[cnt];rcases TL (Uf h)with d|rfl;{have:=pz b d c e;omega};have:=pD b c;simp_all
def gb(w:Wd):Th->Prop
 |.ld aw st=>st=UJ->aw=UJ
 |.ca o aw st=>(st=UJ->aw=UJ)/\(aw=UJ->o.W=UJ)
 |.cs o=>o.L=UJ/\o.S=Ul/\o.W=Ul/\o.n≠0
 |.a1 o _=>w.S=UJ/\w.L=Ul/\1<=o.n/\o.n<=w.n
 |.uc o=>o.L=Ul/\o.W=Ul/\o.S=Ul/\o.n≠0
 |_=>True
structure Inv(f:Nat->Th)(N:Nat)(w:Wd)(m:Nat):Prop where
 i1:cnt qC f N=w.L.toNat
 i2:cnt AN f N+m=(w.W||(w.S&&!w.L)).toNat
 i3:¬(w.W=UJ/\w.S=UJ)
 i4:if w.W then cnt pQ f N=w.n+m+cnt Hy f N else if w.S&&!w.L then cnt pQ f N+cnt Ch f N=w.n else cnt pQ f N=w.n
 i5:w.L=Ul->w.W=Ul->w.S=Ul->w.n≠0->1<=cnt N5 f N
 i6:w.S=UJ->w.n≠0
 i8:w.W=Ul->cnt Hx f N=0
 loc:∀i,i<N->gb w (f i)
section
theorem vl(f:Nat->Th)(N:Nat):cnt AN f N=cnt Hy f N+cnt Ch f N+cnt Hx f N:=by induction N with|zero=>rfl|succ N c=>simp only[cnt];(have:∀t:Th,(AN t).toNat=(Hy t).toNat+(Ch t).toNat+(Hx t).toNat:=by intro t;cases t with|ld a b=>cases a<;>rfl|ca o a b=>cases a<;>rfl|_=>rfl);grind
section
variable{f:Nat->Th}{w w':Wd}{m m':Nat}{x:Th}
theorem vG(a:i<N)(c:gb w' x)(h:∀j,j<N->j≠i->gb w' (f j)):∀j,j<N->gb w' (upd f i x j):=by intro j b;unfold upd;grind
theorem Fb{t:Th}(h:gb w t)(j:w.S=UJ->w.L=Ul->w'.S=UJ/\w'.L=Ul/\w.n<=w'.n):gb w' t:=by cases t with|a1 o l=>obtain⟨d,e,g,k⟩:=h;obtain⟨a,b,c⟩:=j d e;exact⟨a,b,g,by omega⟩|_=>exact h
set_option maxHeartbeats 4000000 in theorem Inv.step(h:Inv f N w m)(c:i<N)(u:Mv (f i) w m x w' m'):Inv (upd f i x) N w' m':=by have g:=lE qC f x c;have k:=lE Hy f x c;have l:=lE Ch f x c;have q:=lE Hx f x c;have r:=lE pQ f x c;have s:=lE N5 f x c;have s1:=vl f N;have s2:=vl (upd f i x) N;have v:=h.loc i c;have d:∀p:Th->Bool,p (f i)=UJ->1<=cnt p f N:=λp Z=>pD c Z;obtain⟨J,K,M,O,P,Q,R,e⟩:=h;have a:gb w' x->(w.S=UJ->w.L=Ul->w'.S=UJ/\w'.L=Ul/\w.n<=w'.n)->∀j,j<N->gb w' (upd f i x j):=λE F=>vG c E λj t _=>Fb (e j t) F;have H:gb w' x->(∀j,j<N->j≠i->gb w' (f j))->∀j,j<N->gb w' (upd f i x j):=vG c;(have b:gb w' x->(2<=cnt Ch f N->False)->Ch (f i)=UJ->∀j,j<N->gb w' (upd f i x j):=λE F T=>vG c E λj t I=>by have:=e j t;cases V:f j with|a1 o Y=>refine(F ?_).elim;(have U:Ch (f j)=UJ:=by rw[V];rfl);rcases Nat.lt_or_gt_of_ne I with G|G;{exact pz G c U T};exact pz G t T U|_=>rw[V]at this;exact this);have z:=d qC;have A:=d Hy;have B:=d Ch;have C:=d Hx;clear d;generalize hy:f i=y at u g k l q r s v z A B C b;clear hy;obtain⟨L,W,S,n⟩:=w;cases y with|ld D Y=>cases D<;>cases L<;>cases W<;>cases S<;>cases u<;>(try dsimp only[Bool.or_true,Bool.or_false,Bool.true_or,Bool.false_or]at*)<;>(try contradiction)<;>(try simp only[SB,or_false,false_or]at*)<;>(simp[qC,Hy,Ch,Hx,pQ,N5,nw,gb]at J K M O P Q R g k l q r s v z A B C<;>(refine⟨?_,?_,?_,?_,?_,?_,?_,?_⟩<;>first|(simp[nw]<;>omega)|omega|(refine a ?_ ?_<;>simp[gb,nw]<;>omega)|(refine a ⟨‹_›,‹_›,‹_›,‹_›⟩ ?_;simp;done)|(refine a ⟨‹_›,‹_›,‹_›,‹_›⟩ ?_;simp;omega)|(refine b ?_ (λX=>?_) rfl<;>(try simp[gb,nw])<;>omega)))|ca o D Y=>cases D<;>cases L<;>cases W<;>cases S<;>cases u<;>(try dsimp only[Bool.or_true,Bool.or_false,Bool.true_or,Bool.false_or]at*)<;>(try contradiction)<;>(try simp only[SB,or_false,false_or]at*)<;>(simp[qC,Hy,Ch,Hx,pQ,N5,nw,gb]at J K M O P Q R g k l q r s v z A B C<;>(refine⟨?_,?_,?_,?_,?_,?_,?_,?_⟩<;>first|(simp[nw]<;>omega)|omega|(refine a ?_ ?_<;>simp[gb,nw]<;>omega)|(refine a ⟨‹_›,‹_›,‹_›,‹_›⟩ ?_;simp;done)|(refine a ⟨‹_›,‹_›,‹_›,‹_›⟩ ?_;simp;omega)|(refine b ?_ (λX=>?_) rfl<;>(try simp[gb,nw])<;>omega)))|_=>cases L<;>cases W<;>cases S<;>cases u<;>(try dsimp only[Bool.or_true,Bool.or_false,Bool.true_or,Bool.false_or]at*)<;>(try contradiction)<;>(try simp only[SB,or_false,false_or]at*)<;>(simp[qC,Hy,Ch,Hx,pQ,N5,nw,gb]at J K M O P Q R g k l q r s v z A B C<;>(refine⟨?_,?_,?_,?_,?_,?_,?_,?_⟩<;>first|(simp[nw]<;>omega)|omega|(refine a ?_ ?_<;>simp[gb,nw]<;>omega)|(refine b ?_ (λX=>?_) rfl<;>(try simp[gb,nw])<;>omega)))
end
end
theorem pL{p:Th->Bool}{f:Nat->Th}:∀{N:Nat},(∀i,i<N->p (f i)=Ul)->cnt p f N=0|0,_=>rfl|N+1,h=>by simp only[cnt];rw[pL λi b=>h i Ω,h N Ω];rfl
theorem Inv.IU{f:Nat->Th}{w:Wd}(h:Inv f N w 0)(b:∀i,i<N->f i=.out\/f i=.sq):∀i,i<N->f i=.out:=by(have z:∀p:Th->Bool,p .out=Ul->p .sq=Ul->cnt p f N=0:=λp l m=>pL λi a=>by grind);obtain⟨c,d,q,g,j,r,s,k⟩:=h;rw[z qC rfl rfl]at c;rw[z AN rfl rfl]at d;rw[z Hy rfl rfl,z Ch rfl rfl]at g;rw[z N5 rfl rfl]at j;obtain⟨L,W,S,n⟩:=w;(have o:cnt pQ f N=0:=by grind);intro i a;rcases b i a with e|e;{exact e};have:=pD (p:=pQ) (f:=f) a (by rw[e];rfl);omega
def wt:Th->Nat
 |.uc _|.ux=>5
 |.us=>4
 |.t2|.a1 _ _=>2
 |.ld aw _|.ca _ aw _=>if aw then 1 else 2
 |.cs _=>2
 |.c0=>2
 |_=>0
end Go.Mx
namespace Go.Rk
variable{α:Type}
inductive Rk(α:Type)where
 |z
 |s(f:α->Rk α)
def Lt{α:Type}(a b:Rk α):Prop:=∃f x,b=.s f/\a=f x
theorem Lt.RS:WellFounded (Lt (α:=α)):=by refine⟨λa=>?_⟩;induction a with|z=>exact⟨_,λb⟨f,x,h,_⟩=>by cases h⟩|s g c=>refine⟨_,λb⟨f,x,h,e⟩=>?_⟩;cases h;rw[e];exact c x
abbrev DJ{α:Type}:Rk α->Rk α->Prop:=Relation.TransGen Lt
theorem Lt.wf:WellFounded (DJ (α:=α)):=Lt.RS.transGen
theorem rq(f:α->Rk α)(x:α):DJ (f x) (.s f):=.single ⟨f,x,rfl,rfl⟩
theorem Qw(f:α->Rk α)(x:α):DJ (f x) (.s λ_=>.s f):=.tail (.single ⟨f,x,rfl,rfl⟩) ⟨_,x,rfl,rfl⟩
def N0{α:Type}(N:Nat)(V' V:Nat->Rk α):Prop:=∃i,i<N/\DJ (V' i) (V i)/\∀j,j≠i->V' j=V j
theorem N0.wf{α:Type}:∀N:Nat,WellFounded (N0 (α:=α) N)|0=>⟨λV=>⟨_,λc⟨i,h,_⟩=>absurd h (Tm i)⟩⟩|N+1=>by have j:=N0.wf (α:=α) N;(have f:∀d:Rk α,∀V:Nat->Rk α,V N=d->Acc (N0 (N+1)) V:=by intro d;induction Lt.wf.apply d with|intro d _ l=>intro V;induction j.apply V with|intro V _ e=>intro g;refine⟨_,λc⟨i,k,b,a⟩=>?_⟩;rcases TL (Uf k)with h|rfl;{exact e c ⟨i,h,b,a⟩ ((a N Ω).trans g)};exact l (c i) (g▸b) c rfl);exact⟨λV=>f _ V rfl⟩
end Go.Rk
namespace Go.Cr
open Go.Conc Go.Mx Go.Rk
open Go.ConcR(KK WgAt stA smA rd wr mk)
open Go.ConcM(OsLater)
variable{g g':UP}{own' O:Nat->Prop}{es:Array Vv}{v':UL}
section
structure Cx where
 P:U9
 RO:Nat->Prop
 mu:Nat
 mo:Nat
 pre:Array UO
 tP:U8
 mm:Nat
 Am:Array MapEntry->Prop
 wg:Nat
 tW:U8
 out:Nat
 tO:U8
 no:Nat
 oc:Nat->Nat->Prop
 res:Nat->UO
 base:Nat
 n:Nat
 End:UP->UL->Prop
 w0:UL
 solo:Prop
 halt:(Nat->Prop)->UP->UL->Prop
 tA:Int->Int->Obj
variable(C:Cx)
def Cx.muA:Vs:=⟨C.mu,C.mo,UM⟩
def Cx.msA:Vs:=⟨C.mu,C.mo+1,UM⟩
def ax(v:UL)(s q:Int):Prop:=v.heap[C.mu]?=UG (.cells (C.pre++#[.int .i32 s,.int .u32 q]) C.tP)
def bW(v:UL)(w:Wd)(q:Nat):Prop:=ax C v w.enc q
def Po(v:UL)(es:Array MapEntry):Prop:=∃ck,v.heap[C.mm]?=UG (.map es ck)
def au(v:UL):Prop:=∃es,Po C v es/\C.Am es
def zc(v:UL):Prop:=∃cs:Array UO,v.heap[C.out]?=UG (.cells cs C.tO)/\cs.size=C.no
structure da(v:UL):Prop where
 port:∃s q,ax C v s q
 gL:∃st sm,v.heap[C.wg]?=UG (C.tA st sm)
 uq:zc C v
structure W0(w:UL):Prop where
 os:OsLater C.w0.os w.os
 out:w.output=C.w0.output
 tape:w.tape=C.w0.tape
structure Cx.Ok:Prop where
 pre:C.pre.size=C.mo
 lT:C.mu≠C.mm
 gi:C.mu≠C.wg
 gd:C.mu≠C.out
 nO:C.mm≠C.wg
 mG:C.mm≠C.out
 iN:C.wg≠C.out
 ro:∀k,C.RO k->k≠C.mu/\k≠C.mm/\k≠C.wg/\k≠C.out
 oc:∀i j o,C.oc i o->C.oc j o->i=j
 RL:∀o,¬C.oc 0 o
structure Env(i:Nat)(own:Nat->Prop)(v v1:UL):Prop where
 keep:∀k,own k\/C.RO k->v1.heap[k]?=v.heap[k]?
 grow:v.heap.size<=v1.heap.size
 aJ:da C v->da C v1
 AI:∀o,C.oc i o->v1.cell? ⟨C.out,o,UM⟩=v.cell? ⟨C.out,o,UM⟩
def Cx.CU(k n:Nat):Prop:=k=C.mu/\n<=C.mo
def Cx.wk(i:Nat):Prop:=i≠0\/C.solo
def qL(own:Nat->Prop)(e:Vv):Prop:=ae.Rz own C.RO (λ_ _=>False) e\/∃o,o<C.mo/\e=⟨.cell ⟨C.mu,o,UM⟩,Ul,Ul⟩
structure lB(own:Nat->Prop)(v v':UL)(es:Array Vv):Prop where
 keep:∀k,k<v.heap.size->¬own k->v'.heap[k]?=v.heap[k]?
 grow:v.heap.size<=v'.heap.size
 os:v'.os=v.os
 out:v'.output=v.output
 tape:v'.tape=v.tape
 evs:∀e∈es,qL C (ae.more own v v') e
structure Qp(i:Nat)(v v':UL)(es:Array Vv):Prop where
 keep:∀k,k≠C.out->v'.heap[k]?=v.heap[k]?
 size:v'.heap.size=v.heap.size
 os:v'.os=v.os
 out:v'.output=v.output
 tape:v'.tape=v.tape
 blk:zc C v->zc C v'
 cells:∀o,¬C.oc i o->v'.cell? ⟨C.out,o,UM⟩=v.cell? ⟨C.out,o,UM⟩
 evs:∀e∈es,∃o,C.oc i o/\e=⟨.cell ⟨C.out,o,UM⟩,UJ,Ul⟩
def Fin(i:Nat)(v:UL):Prop:=∀o,C.oc i o->v.cell? ⟨C.out,o,UM⟩=UG (C.res o)
structure DL(w w':UL)(es:Array Vv):Prop where
 heap:w'.heap=w.heap
 tape:w'.tape=w.tape
 out:w'.output=w.output
 os:OsLater w.os w'.os
 evs:es=#[]
structure Md where
 hold:Bool
 deaf:Bool
 tok:Bool
 said:Bool
def Md.free:Md:=⟨Ul,Ul,Ul,Ul⟩
def Md.bE:Md:=⟨Ul,UJ,Ul,Ul⟩
def Md.mb:Md:=⟨UJ,UJ,Ul,Ul⟩
def Md.AB:Md:=⟨UJ,Ul,Ul,Ul⟩
def Md.own:Md:=⟨UJ,Ul,UJ,Ul⟩
def Md.zh:Md:=⟨Ul,Ul,Ul,UJ⟩
def Md.uS:Md:=⟨Ul,UJ,Ul,UJ⟩
def fJ(m:Md)(own:Nat->Prop):Nat->Prop:=λk=>own k\/(m.tok=UJ/\k=C.mm)
inductive iS(i:Nat):Md->Mark->Md->Prop
 |N4:iS i .free .disable .bE
 |Jx:iS i .AB .disable .mb
 |Jz:iS i .zh .disable .uS
 |en:iS i .bE .enable .free
 |P1:iS i .mb .enable .AB
 |acq:iS i .AB (.acquire C.muA) .own
 |C3:iS i .own (.releaseMerge C.muA) .AB
 |Dn:i≠0->iS i .free (.releaseMerge (stA C.wg)) .zh
 |sr{m:Md}:i=0->m.tok=Ul->iS i m (.read (smA C.wg)) m
section stops
variable(i:Nat)(own:Nat->Prop)
abbrev cG(S:UP->UL->Prop)(n:Nat)(g:UP)(w:UL):Prop:=Goes C.P (i==0) (Env C i own) DL S n g w
section lock
variable(H:Wd->Bool->Bool->Nat->UP->UL->Prop)(Q:UP->UL->Prop)
def ub(aw st:Bool)(it:Nat)(g:UP)(w:UL):Prop:=
 g.status=.running/\∀wd q,bW C w wd q->(aw=UJ->wd.W=UJ)->∃g',UY C.P (i==0) g w=.go g' w #[]/\∃n,cG C i own (H wd aw st it) n g' w
def NQ(o:Wd)(it:Nat)(g:UP)(w:UL):Prop:=
 g.status=.running/\∀wd q,bW C w wd q->
   (wd=o->∃g',UY C.P (i==0) g w=.go g' (w.setCell C.muA (.int .i32 ({wd with W:=UJ}:Wd).enc)) #[rd C.muA,wr C.muA]/\∃n,cG C i own (ub C i own H UJ Ul (it+1)) n g' (w.setCell C.muA (.int .i32 ({wd with W:=UJ}:Wd).enc)))/\
   (wd≠o->∃g',UY C.P (i==0) g w=.go g' w #[rd C.muA]/\∃n,cG C i own (ub C i own H Ul Ul (it+1)) n g' w)
def AtA1(o:Wd)(st:Bool)(g:UP)(w:UL):Prop:=
 g.status=.running/\∀wd q,bW C w wd q->wd.n<100000000->wd.L=Ul->wd.S=UJ->wd.n≠0->
   ∃g',UY C.P (i==0) g w=.go g' (w.setCell C.muA (.int .i32 (⟨UJ,wd.W,st&&o.n !=1,wd.n-1⟩:Wd).enc)) #[rd C.muA,wr C.muA]/\Q g' (w.setCell C.muA (.int .i32 (⟨UJ,wd.W,st&&o.n !=1,wd.n-1⟩:Wd).enc))
def Jn(g:UP)(w:UL):Prop:=
 g.status=.running/\∃st,∀wd q,bW C w wd q->wd.n<100000000->(wd.S=UJ->wd.L=Ul/\wd.W=Ul/\wd.n≠0)->(wd.S=Ul->wd.W=UJ)->∃g',UY C.P (i==0) g w=.go g' w #[]/\
   (wd.S=UJ->∃n,cG C i own (AtA1 C i Q wd st) n g' w)/\(wd.S=Ul->∃n,cG C i own (H wd UJ st 0) n g' w)
def Dl(g:UP)(w:UL):Prop:=
 g.status=.running/\g.offers=UM/\(∀wd,bW C w wd 0->UY C.P (i==0) g w=.go {g with status:=.blocked} w #[])/\
   ∀wd q,bW C w wd (q+1)->∃g',UY C.P (i==0) g w=.go g' (w.setCell C.msA (.int .u32 (q:Nat))) (semEvents C.msA)/\∃n,cG C i own (Jn C i own H Q) n g' (w.setCell C.msA (.int .u32 (q:Nat)))
def NR(o:Wd)(aw st:Bool)(it:Nat)(g:UP)(w:UL):Prop:=
 g.status=.running/\∀wd q,bW C w wd q->
   (wd=o->∃g',UY C.P (i==0) g w=.go g' (w.setCell C.muA (.int .i32 (nw o aw st).enc)) #[rd C.muA,wr C.muA]/\
    (o.L=Ul->o.S=Ul->Q g' (w.setCell C.muA (.int .i32 (nw o aw st).enc)))/\((o.L||o.S)=UJ->∃n,cG C i own (Dl C i own H Q) n g' (w.setCell C.muA (.int .i32 (nw o aw st).enc))))/\
   (wd≠o->∃g',UY C.P (i==0) g w=.go g' w #[rd C.muA]/\∃n,cG C i own (ub C i own H aw st it) n g' w)
def gS(o:Wd)(aw st:Bool)(it:Nat)(g:UP)(w:UL):Prop:=
 (it<4/\ub C i own H aw st (it+1) g w)\/(it<4/\o.L=UJ/\o.S=Ul/\o.W=Ul/\o.n≠0/\aw=Ul/\NQ C i own H o it g w)\/NR C i own H Q o aw st it g w
def jd:Prop:=∀o aw st it g w,it<=4->(aw=UJ->o.W=UJ)->(st=UJ->aw=UJ)->o.n<100000000->H o aw st it g w->∃n,cG C i own (gS C i own H Q o aw st it) n g w
end lock
section unlock
variable(HU:Wd->UP->UL->Prop)(Q:UP->UL->Prop)
def Br(g:UP)(w:UL):Prop:=
 g.status=.running/\mayWake C.P g=UJ/\∀wd q,q<100000000->bW C w wd q->∃g',UY C.P (i==0) g w=.go g' (w.setCell C.msA (.int .u32 (q+1:Nat))) (semEvents C.msA)/\∃n,cG C i own Q n g' (w.setCell C.msA (.int .u32 (q+1:Nat)))
def KC(g:UP)(w:UL):Prop:=
 g.status=.running/\∀wd q,bW C w wd q->wd.n<100000000->∃g',UY C.P (i==0) g w=.go g' w #[]/\
   (wd.n=0\/wd.L=UJ\/wd.W=UJ\/wd.S=UJ->∃n,cG C i own Q n g' w)/\(wd.n≠0->wd.L=Ul->wd.W=Ul->wd.S=Ul->∃n,cG C i own (HU wd) n g' w)
def C0(o:Wd)(g:UP)(w:UL):Prop:=
 g.status=.running/\∀wd q,bW C w wd q->
   (wd=o->∃g',UY C.P (i==0) g w=.go g' (w.setCell C.muA (.int .i32 ({wd with W:=UJ,n:=wd.n-1}:Wd).enc)) #[rd C.muA,wr C.muA]/\∃n,cG C i own (Br C i own Q) n g' (w.setCell C.muA (.int .i32 ({wd with W:=UJ,n:=wd.n-1}:Wd).enc)))/\
   (wd≠o->∃g',UY C.P (i==0) g w=.go g' w #[rd C.muA]/\∃n,cG C i own (KC C i own HU Q) n g' w)
def A8:Prop:=∀o g w,o.L=Ul->o.W=Ul->o.S=Ul->o.n≠0->o.n<100000000->HU o g w->∃n,cG C i own (C0 C i own HU Q o) n g w
def Ns(g:UP)(w:UL):Prop:=
 g.status=.running/\∀wd q,bW C w wd q->wd.L=UJ->wd.n<100000000->
   ∃g',UY C.P (i==0) g w=.go g' (w.setCell C.muA (.int .i32 ({wd with L:=Ul}:Wd).enc)) #[rd C.muA,wr C.muA]/\
     (wd.S=UJ->∃n,cG C i own (Br C i own Q) n g' (w.setCell C.muA (.int .i32 ({wd with L:=Ul}:Wd).enc)))/\
     (wd.S=Ul->(wd.n=0\/wd.W=UJ)->∃n,cG C i own Q n g' (w.setCell C.muA (.int .i32 ({wd with L:=Ul}:Wd).enc)))/\
     (wd.S=Ul->wd.n≠0->wd.W=Ul->∃n,cG C i own (C0 C i own HU Q {wd with L:=Ul}) n g' (w.setCell C.muA (.int .i32 ({wd with L:=Ul}:Wd).enc)))
end unlock
def Nt(H:Wd->Bool->Bool->Nat->UP->UL->Prop)(Q:UP->UL->Prop)(g:UP)(w:UL):Prop:=
 g.status=.running/\∀wd q,bW C w wd q->
   (wd=⟨Ul,Ul,Ul,0⟩->∃g',UY C.P (i==0) g w=.go g' (w.setCell C.muA (.int .i32 1)) #[rd C.muA,wr C.muA]/\Q g' (w.setCell C.muA (.int .i32 1)))/\
   (wd≠⟨Ul,Ul,Ul,0⟩->∃g',UY C.P (i==0) g w=.go g' w #[rd C.muA]/\∃n,cG C i own (ub C i own H Ul Ul 0) n g' w)
def AtD4(g:UP)(w:UL):Prop:=
 g.status=.running/\mayWake C.P g=UJ/\(WgAt C.tW C.wg w 0 0->∃g',UY C.P (i==0) g w=.go g' (w.setCell (smA C.wg) (.int .u32 1)) (semEvents (smA C.wg))/\∃q,QuitsD C.P q 1 g')
def AtD3(g:UP)(w:UL):Prop:=
 g.status=.running/\(WgAt C.tW C.wg w 1 0->∃g',UY C.P (i==0) g w=.go g' (w.setCell (stA C.wg) (.int .u64 0)) #[wr (stA C.wg)]/\∃n,cG C i own (AtD4 C i) n g' (w.setCell (stA C.wg) (.int .u64 0)))
def AtD2(g:UP)(w:UL):Prop:=
 g.status=.running/\(WgAt C.tW C.wg w 1 0->∃g',UY C.P (i==0) g w=.go g' w #[rd (stA C.wg)]/\∃n,cG C i own (AtD3 C i own) n g' w)
def AtD1(g:UP)(w:UL):Prop:=
 g.status=.running/\∀v wt:Nat,wt<=1->v<100000000->WgAt C.tW C.wg w ((v+1)*KK+wt) 0->
   ∃g',UY C.P (i==0) g w=.go g' (w.setCell (stA C.wg) (.int .u64 (v*KK+wt))) #[rd (stA C.wg),wr (stA C.wg)]/\
     ((v=0/\wt=1)->∃n,cG C i own (AtD2 C i own) n g' (w.setCell (stA C.wg) (.int .u64 (v*KK+wt))))/\(¬(v=0/\wt=1)->∃q,QuitsD C.P q 1 g')
section wait
variable(A:UP->UL->Prop)
def AtAcq(g:UP)(w:UL):Prop:=
 g.status=.running/\∃g',UY C.P (i==0) g w=.go g' w #[mk (.acquire (stA C.wg))]/\(da C w->(∀j,Fin C j w)->bW C w ⟨Ul,Ul,Ul,0⟩ 0->W0 C w->C.End g' w)
def AtKe(g:UP)(w:UL):Prop:=
 g.status=.running/\∃g',UY C.P (i==0) g w=.go g' w #[mk .enable]/\∃n,cG C i own (AtAcq C i) n g' w
def AtW4(g:UP)(w:UL):Prop:=
 g.status=.running/\(WgAt C.tW C.wg w 0 0->∃g',UY C.P (i==0) g w=.go g' w #[rd (stA C.wg)]/\∃n,cG C i own (AtKe C i own) n g' w)
def AtW3(g:UP)(w:UL):Prop:=
 g.status=.running/\g.offers=UM/\((∃st,WgAt C.tW C.wg w st 0)->UY C.P (i==0) g w=.go {g with status:=.blocked} w #[])/\
   (WgAt C.tW C.wg w 0 1->∃g',UY C.P (i==0) g w=.go g' (w.setCell (smA C.wg) (.int .u32 0)) (semEvents (smA C.wg))/\∃n,cG C i own (AtW4 C i own) n g' (w.setCell (smA C.wg) (.int .u32 0)))
def P5(g:UP)(w:UL):Prop:=
 g.status=.running/\∃g',UY C.P (i==0) g w=.go g' w #[mk (.write (smA C.wg))]/\∃n,cG C i own (AtW3 C i own) n g' w
def AtW2(vs:Nat)(g:UP)(w:UL):Prop:=
 g.status=.running/\∀v:Nat,v<100000000->WgAt C.tW C.wg w (v*KK) 0->
   (v=vs->∃g',UY C.P (i==0) g w=.go g' (w.setCell (stA C.wg) (.int .u64 (v*KK+1))) #[rd (stA C.wg),wr (stA C.wg)]/\∃n,cG C i own (P5 C i own) n g' (w.setCell (stA C.wg) (.int .u64 (v*KK+1))))/\
   (v≠vs->∃g',UY C.P (i==0) g w=.go g' w #[rd (stA C.wg)]/\∃n,cG C i own A n g' w)
def AtW1(g:UP)(w:UL):Prop:=
 g.status=.running/\∀v:Nat,v<100000000->WgAt C.tW C.wg w (v*KK) 0->∃g',UY C.P (i==0) g w=.go g' w #[rd (stA C.wg)]/\
   (v=0->∃n,cG C i own (AtKe C i own) n g' w)/\(v≠0->∃n,cG C i own (AtW2 C i own A v) n g' w)
def yB:Prop:=∀g w,A g w->∃n,cG C i own (AtW1 C i own A) n g w
end wait
def Rt(c:Nat->UP->UL->Prop)(g:UP)(w:UL):Prop:=
 g.status=.running/\∀v:Nat,v<100000000->WgAt C.tW C.wg w (v*KK) 0->
   ∃g',UY C.P (i==0) g w=.go g' (w.setCell (stA C.wg) (.int .u64 ((v+1)*KK))) #[rd (stA C.wg),wr (stA C.wg)]/\c v g' (w.setCell (stA C.wg) (.int .u64 ((v+1)*KK)))
end stops
abbrev Ix:=UP×UL×UL
inductive fK:Nat->Nat->Md->Rk Ix->(Nat->Prop)->UP->UL->Prop
 |step{i j:Nat}{m:Md}{f:Ix->Rk Ix}{own:Nat->Prop}{g:UP}{v:UL}:g.status=.running->m.said=Ul->
  (∀v1,Env C i (fJ C m own) v v1->∃g' v' es,UY C.P (i==0) g v1=.go g' v' es/\lB C (fJ C m own) v1 v' es)->
  (∀v1 g' v' es,Env C i (fJ C m own) v v1->UY C.P (i==0) g v1=.go g' v' es->fK i j m (f (g',v1,v')) (ae.more own v1 v') g' v')->fK i j m (.s f) own g v
 |idle{i j:Nat}{m:Md}{f:Ix->Rk Ix}{own:Nat->Prop}{g:UP}{v:UL}:g.status=.running->
  (∀v1,Env C i (fJ C m own) v v1->∃g' v',UY C.P (i==0) g v1=.go g' v' #[]/\DL v1 v' #[])->
  (∀v1 g' v' es,Env C i (fJ C m own) v v1->UY C.P (i==0) g v1=.go g' v' es->fK i j m (f (g',v1,v')) own g' v')->fK i j m (.s f) own g v
 |mark{i j:Nat}{m m':Md}{k:Mark}{f:Ix->Rk Ix}{own:Nat->Prop}{g:UP}{v:UL}:g.status=.running->iS C i m k m'->
  (∀v1,Env C i (fJ C m own) v v1->∃g',UY C.P (i==0) g v1=.go g' v1 #[mk k])->(k=.releaseMerge C.muA->m=.own/\au C v)->(k=.releaseMerge (stA C.wg)->Fin C i v)->
  (∀v1 g' v' es,Env C i (fJ C m own) v v1->(k=.acquire C.muA->au C v1)->UY C.P (i==0) g v1=.go g' v' es->fK i j m' (f (g',v1,v1)) own g' v1)->fK i j m (.s f) own g v
 |lock{i j:Nat}{f:Ix->Rk Ix}{own:Nat->Prop}{g:UP}{v:UL}(H:Wd->Bool->Bool->Nat->UP->UL->Prop)(Q:UP->UL->Prop):g.status=.running->C.wk i->
  (∀g v1 v2,Q g v1->Env C i own v1 v2->Q g v2)->jd C i own H Q->(∀v1,Env C i own v v1->Nt C i own H Q g v1)->
  (∀g' v1,Env C i own v v1->Q g' v1->fK i j .mb (f (g',v1,v1)) own g' v1)->fK i j .bE (.s λ_=>.s f) own g v
 |unlock{i j:Nat}{f:Ix->Rk Ix}{own:Nat->Prop}{g:UP}{v:UL}(HU:Wd->UP->UL->Prop)(Q:UP->UL->Prop):g.status=.running->C.wk i->
  (∀g v1 v2,Q g v1->Env C i own v1 v2->Q g v2)->A8 C i own HU Q->(∀v1,Env C i own v v1->Ns C i own HU Q g v1)->
  (∀g' v1,Env C i own v v1->Q g' v1->fK i j .bE (f (g',v1,v1)) own g' v1)->fK i j .mb (.s λ_=>.s f) own g v
 |put{i j:Nat}{f:Ix->Rk Ix}{own:Nat->Prop}{g:UP}{v:UL}:g.status=.running->i≠0->
  (∀v1,Env C i own v v1->da C v1->∃g' v' es,UY C.P (i==0) g v1=.go g' v' es/\Qp C i v1 v' es)->
  (∀v1 g' v' es,Env C i own v v1->da C v1->UY C.P (i==0) g v1=.go g' v' es->fK i j .free (f (g',v1,v')) own g' v')->fK i j .free (.s f) own g v
 |done{i j:Nat}{own:Nat->Prop}{g:UP}{v:UL}:i≠0->(∀v1,Env C i own v v1->AtD1 C i own g v1)->fK i j .uS (.s λ_=>.z) own g v
 |add{i x:Nat}{f:Ix->Rk Ix}{own:Nat->Prop}{g:UP}{v:UL}(c:Nat->UP->UL->Prop):i=0->(∀v1,Env C i own v v1->Rt C i c g v1)->
  (∀v1 y g',Env C i own v v1->c y g' v1->fK i (2*x+1) .bE (f (g',v1,v1)) own g' v1)->fK i (2*x) .bE (.s f) own g v
 |spawn{i x:Nat}{f ρ:Ix->Rk Ix}{own ownc:Nat->Prop}{g:UP}{v:UL}:i=0->g.status=.running->x<C.n->(∀k,ownc k->own k)->
  (∀v1,Env C i own v v1->∃g' child,UY C.P (i==0) g v1=.spawn g' child v1 #[]/\child.status=.running)->
  (∀v1 g' child v' es,Env C i own v v1->UY C.P (i==0) g v1=.spawn g' child v' es->fK (C.base+x) 0 .free (ρ (child,v1,v1)) ownc child v1)->
  (∀v1 g' child v' es,Env C i own v v1->UY C.P (i==0) g v1=.spawn g' child v' es->fK i (2*x+2) .free (f (g',v1,v1)) (λk=>own k/\¬ownc k) g' v1)->
  fK i (2*x+1) .free (.s f) own g v
 |wait{i:Nat}{own:Nat->Prop}{g:UP}{v:UL}(A:UP->UL->Prop):i=0->yB C i own A->(∃n,cG C i own A n g v)->fK i (2*C.n) .bE .z own g v
 |stop{i j:Nat}{own:Nat->Prop}{g:UP}{v:UL}:C.solo->g.status=.running->(∀v1,Env C i own v v1->C.halt own g v1)->fK i j .free .z own g v
end
section
variable{C:Cx}{i j:Nat}{m:Md}{own:Nat->Prop}{v v1 v2:UL}
theorem Env.refl:Env C i own v v:=⟨λ_ _=>rfl,Sm _,id,λ_ _=>rfl⟩
theorem Env.trans(h:Env C i own v v1)(k:Env C i own v1 v2):Env C i own v v2:=⟨λx b=>(k.keep x b).trans (h.keep x b),Sx h.grow k.grow,λx=>k.aJ (h.aJ x),λo a=>(k.AI o a).trans (h.AI o a)⟩
theorem Env.sub(h:Env C i own v v1)(b:∀k,own' k->own k):Env C i own' v v1:=⟨λk a=>h.keep k (a.imp (b k) id),h.grow,h.aJ,h.AI⟩
theorem Env.fI(h:Env C i (fJ C m own) v v1):Env C i own v v1:=h.sub λ_ a=>.inl a
theorem Env.Kz(h:Env C i own v v1)(b:m.tok=Ul):Env C i (fJ C m own) v v1:=h.sub λ_ a=>a.resolve_right (by simp[b])
theorem Env.RX(l:C.pre.size=C.mo)(a:da C v)(h:Env C i O v v1):ae.Env O C.RO C.CU v v1:=⟨h.keep,λk n e x t f p=>by obtain⟨rfl,o⟩:=e;obtain⟨s,q,c⟩:=a.port;obtain⟨u,r,d⟩:=(h.aJ a).port;unfold ax at c d;grind,h.grow⟩
theorem bG(a b c:UL)(h:Env C i own a b)(k:Env C i own b c):Env C i own a c:=h.trans k
theorem au.env(h:au C v)(e:Env C i own v v1)(f:own C.mm):au C v1:=by obtain⟨b,⟨a,d⟩,c⟩:=h;exact⟨b,⟨a,(e.keep _ (.inl f)).trans d⟩,c⟩
theorem Fin.env(h:Fin C i v)(b:Env C i own v v1):Fin C i v1:=λo a=>(b.AI o a).trans (h o a)
theorem fK.env{ρ:Rk Ix}(h:fK C i j m ρ own g v)(b:Env C i (fJ C m own) v v1):fK C i j m ρ own g v1:=by cases h with|step d f k p=>exact .step d f (λx a=>k x (b.trans a)) λx l q o a=>p x l q o (b.trans a)|idle d f k=>exact .idle d (λx a=>f x (b.trans a)) λx l q o a=>k x l q o (b.trans a)|mark d f k p s t=>exact .mark d f (λx a=>k x (b.trans a)) (λe=>⟨(p e).1,(p e).2.env b (by rw[(p e).1];exact .inr ⟨rfl,rfl⟩)⟩) (λe=>(s e).env b) λx l q o a=>t x l q o (b.trans a)|lock H Q d r f k p s=>exact .lock H Q d r f k (λx a=>p x (b.fI.trans a)) λl x a=>s l x (b.fI.trans a)|unlock H Q d r f k p s=>exact .unlock H Q d r f k (λx a=>p x (b.fI.trans a)) λl x a=>s l x (b.fI.trans a)|put d r f k=>exact .put d r (λx a=>f x (b.fI.trans a)) λx l q o a=>k x l q o (b.fI.trans a)|done r d=>exact .done r λx a=>d x (b.fI.trans a)|add c d f k=>exact .add c d (λx a=>f x (b.fI.trans a)) λx y l a=>k x y l (b.fI.trans a)|spawn d f k p s t u=>exact .spawn d f k p (λx a=>s x (b.fI.trans a)) (λx l c q o a=>t x l c q o (b.fI.trans a)) λx l c q o a=>u x l c q o (b.fI.trans a)|wait A d f k=>exact .wait A d f (k.imp λn w=>w.rely bG b.fI)|stop d f k=>exact .stop d f λx a=>k x (b.fI.trans a)
theorem fK.running{ρ:Rk Ix}(h:fK C i j m ρ own g v):g.status=.running\/∃n A,cG C i own A n g v/\yB C i own A:=by cases h with|wait A b a d=>grind|done _ h=>exact .inl (h v .refl).1|add c b a=>exact .inl (a v .refl).1|_=>simp_all
def ag(C:Cx)(i j:Nat)(m:Md)(own:Nat->Prop)(g:UP)(v:UL):Prop:=∃ρ,fK C i j m ρ own g v
open Classical in
noncomputable def ss(p:Ix->Rk Ix->Prop)(x:Ix):Rk Ix:=if h:∃ρ,p x ρ then Classical.choose h else .z
theorem fR{p:Ix->Rk Ix->Prop}{x:Ix}(h:∃ρ,p x ρ):p x (ss p x):=by unfold ss;grind
theorem ag.env(h:ag C i j m own g v)(a:Env C i (fJ C m own) v v1):ag C i j m own g v1:=h.imp λ_ k=>k.env a
theorem vO{w w':UL}{es':Array Vv}(h:GStep.go g w es=.go g' w' es'):g=g'/\w=w'/\es=es':=by simp_all
theorem ag.step(q:g.status=.running)(o:m.said=Ul)(h:∀v1,Env C i (fJ C m own) v v1->∃g' d es,UY C.P (i==0) g v1=.go g' d es/\lB C (fJ C m own) v1 d es/\ag C i j m (ae.more own v1 d) g' d):ag C i j m own g v:=by refine⟨.s (ss λx f=>fK C i j m f (ae.more own x.2.1 x.2.2) x.1 x.2.2),.step q o (λx k=>?_) λx g' d es k e=>?_⟩;{grind};obtain⟨n,v2,l,a,_,c⟩:=h x k;rw[a]at e;obtain⟨rfl,rfl,rfl⟩:=vO e;exact fR (p:=λx f=>fK C i j m f (ae.more own x.2.1 x.2.2) x.1 x.2.2) c
theorem ag.idle(l:g.status=.running)(h:∀v1,Env C i (fJ C m own) v v1->∃g' b,UY C.P (i==0) g v1=.go g' b #[]/\DL v1 b #[]/\ag C i j m own g' b):ag C i j m own g v:=by refine⟨.s (ss λx d=>fK C i j m d own x.1 x.2.2),.idle l (λx f=>?_) λx g' b n f e=>?_⟩;{grind};obtain⟨k,v2,a,_,c⟩:=h x f;rw[a]at e;obtain⟨rfl,rfl,rfl⟩:=vO e;exact fR (p:=λx d=>fK C i j m d own x.1 x.2.2) c
theorem cO(w:UL):DL w w #[]:=⟨rfl,rfl,rfl,.refl _,rfl⟩
theorem ag.ctl(a:g.status=.running)(h:∀w,UY C.P (i==0) g w=.go g' w #[])(k:ag C i j m own g' v):ag C i j m own g v:=.idle a λx b=>⟨g',x,h x,cO x,k.env b⟩
theorem ag.mark{m':Md}{k:Mark}(r:g.status=.running)(q:iS C i m k m')(l:k=.releaseMerge C.muA->m=.own/\au C v)(n:k=.releaseMerge (stA C.wg)->Fin C i v)(h:∀v1,Env C i (fJ C m own) v v1->∃g',UY C.P (i==0) g v1=.go g' v1 #[mk k]/\((k=.acquire C.muA->au C v1)->ag C i j m' own g' v1)):ag C i j m own g v:=by refine⟨.s (ss λx b=>fK C i j m' b own x.1 x.2.1),.mark r q (λx d=>?_) l n λx g' u t d o e=>?_⟩;{grind};obtain⟨f,a,c⟩:=h x d;rw[a]at e;obtain⟨rfl,rfl,rfl⟩:=vO e;exact fR (p:=λx b=>fK C i j m' b own x.1 x.2.1) (c o)
theorem ag.lock(d:C.wk i)(H:Wd->Bool->Bool->Nat->UP->UL->Prop)(Q:UP->UL->Prop)(l:g.status=.running)(c:∀g v1 v2,Q g v1->Env C i own v1 v2->Q g v2)(b:jd C i own H Q)(h:∀v1,Env C i own v v1->Nt C i own H Q g v1)(k:∀g' v1,Env C i own v v1->Q g' v1->ag C i j .mb own g' v1):ag C i j .bE own g v:=⟨_,.lock H Q l d c b h λg' x n e=>fR (p:=λx a=>fK C i j .mb a own x.1 x.2.1) (k g' x n e)⟩
theorem ag.unlock(e:C.wk i)(a:Wd->UP->UL->Prop)(Q:UP->UL->Prop)(n:g.status=.running)(d:∀g v1 v2,Q g v1->Env C i own v1 v2->Q g v2)(c:A8 C i own a Q)(h:∀v1,Env C i own v v1->Ns C i own a Q g v1)(k:∀g' v1,Env C i own v v1->Q g' v1->ag C i j .bE own g' v1):ag C i j .mb own g v:=⟨_,.unlock a Q n e d c h λg' x o l=>fR (p:=λx b=>fK C i j .bE b own x.1 x.2.1) (k g' x o l)⟩
theorem ag.put(o:i≠0)(q:g.status=.running)(h:∀v1,Env C i own v v1->da C v1->∃g' b es,UY C.P (i==0) g v1=.go g' b es/\Qp C i v1 b es/\ag C i j .free own g' b):ag C i j .free own g v:=by refine⟨.s (ss λx d=>fK C i j .free d own x.1 x.2.2),.put q o (λx k f=>?_) λx g' b es k f e=>?_⟩;{grind};obtain⟨n,v2,l,a,_,c⟩:=h x k f;rw[a]at e;obtain⟨rfl,rfl,rfl⟩:=vO e;exact fR (p:=λx d=>fK C i j .free d own x.1 x.2.2) c
theorem ag.done(a:i≠0)(h:∀v1,Env C i own v v1->AtD1 C i own g v1):ag C i j .uS own g v:=⟨_,.done a h⟩
theorem ag.add{x:Nat}(c:Nat->UP->UL->Prop)(b:i=0)(h:∀v1,Env C i own v v1->Rt C i c g v1)(k:∀v1 y g',Env C i own v v1->c y g' v1->ag C i (2*x+1) .bE own g' v1):ag C i (2*x) .bE own g v:=⟨_,.add c b h λv1 y g' e d=>fR (p:=λz a=>fK C i (2*x+1) .bE a own z.1 z.2.1) (k v1 y g' e d)⟩
theorem ag.spawn{x:Nat}{ownc:Nat->Prop}(A:i=0)(E:g.status=.running)(B:x<C.n)(D:∀k,ownc k->own k)(h:∀v1,Env C i own v v1->∃g' b,UY C.P (i==0) g v1=.spawn g' b v1 #[]/\b.status=.running/\ag C (C.base+x) 0 .free ownc b v1/\ag C i (2*x+2) .free (λk=>own k/\¬ownc k) g' v1):ag C i (2*x+1) .free own g v:=by refine⟨_,.spawn (f:=ss λz l=>fK C i (2*x+2) .free l (λk=>own k/\¬ownc k) z.1 z.2.1) (ρ:=ss λz l=>fK C (C.base+x) 0 .free l ownc z.1 z.2.1) A E B D (λv1 n=>?_) (λv1 g' c F y n e=>?_) λv1 g' c F y n e=>?_⟩;{grind};{obtain⟨w,t,a,_,d,u⟩:=h v1 n;rw[a]at e;injection e with o q r s;subst o q r s;exact fR (p:=λz l=>fK C (C.base+x) 0 .free l ownc z.1 z.2.1) d};obtain⟨w,t,a,_,d,u⟩:=h v1 n;rw[a]at e;injection e with o q r s;subst o q r s;exact fR (p:=λz l=>fK C i (2*x+2) .free l (λk=>own k/\¬ownc k) z.1 z.2.1) u
theorem ag.stop(b:C.solo)(a:g.status=.running)(h:∀v1,Env C i own v v1->C.halt own g v1):ag C i j .free own g v:=⟨_,.stop b a h⟩
theorem ag.wait(A:UP->UL->Prop)(a:i=0)(b:yB C i own A)(h:∃n,cG C i own A n g v):ag C i (2*C.n) .bE own g v:=⟨_,.wait A a b h⟩
theorem lB.NC(h:ae.lB own C.RO C.CU v v' es):lB C own v v' es:=⟨h.keep,h.grow,h.os,h.out,h.tape,λe b=>by rcases h.evs e b with x|⟨k,n,o,⟨rfl,d⟩,c,rfl⟩|x;{exact .inl (.inl x)};{exact .inr ⟨o,by omega,rfl⟩};exact .inl (.inr (.inr x))⟩
theorem lB.sub(h:lB C own v v' es)(b:∀k,own k->own' k):lB C own' v v' es:=⟨λk l n=>h.keep k l λx=>n (b k x),h.grow,h.os,h.out,h.tape,λe f=>by rcases h.evs e f with x|x;{refine .inl ?_;rcases x with⟨k,c,a,d⟩|x;{refine .inl ⟨k,c,?_,d⟩;rcases a with(a|a)|a;{exact .inl (.inl (b k a))};{exact .inl (.inr a)};simp_all};exact .inr x};exact .inr x⟩
theorem vd:ae.more (fJ C m own) v v'=fJ C m (ae.more own v v'):=by funext k;simp only[ae.more,fJ];grind
def mE(C:Cx)(own:Nat->Prop):Prop:=∀b,own b->b≠C.mu/\b≠C.mm/\b≠C.wg/\b≠C.out
theorem da.mine(l:da C v)(h:lB C O v v' es)(e:¬O C.mu)(f:¬O C.wg)(k:¬O C.out):da C v':=by obtain⟨⟨s,q,b⟩,⟨x,y,c⟩,⟨d,a,n⟩⟩:=l;exact⟨⟨s,q,(h.keep _ (So.1 b).1 e).trans b⟩,⟨x,y,(h.keep _ (So.1 c).1 f).trans c⟩,⟨d,(h.keep _ (So.1 a).1 k).trans a,n⟩⟩
theorem mE.more(h:mE C own)(d:da C v)(l:C.mm<v.heap.size):mE C (ae.more own v v'):=λb a=>by rcases a with a|a;{exact h b a};obtain⟨⟨s,q,e⟩,⟨x,y,p⟩,⟨k,o,n⟩⟩:=d;have f:=(So.1 e).1;grind
theorem mE.not(b:C.Ok)(h:mE C own):¬fJ C m own C.mu/\¬fJ C m own C.wg/\¬fJ C m own C.out:=by refine⟨?_,?_,?_⟩<;>rintro(a|⟨_,a⟩);{exact(h _ a).1 rfl};{exact b.lT a};{exact(h _ a).2.2.1 rfl};{exact b.nO a.symm};{exact(h _ a).2.2.2 rfl};exact b.mG a.symm
theorem da.step(a:C.Ok)(b:mE C own){v':UL}{es:Array Vv}(c:da C v)(h:lB C (fJ C m own) v v' es):da C v':=c.mine h (b.not a).1 (b.not a).2.1 (b.not a).2.2
theorem ag.loc(t:C.Ok)(A:m.said=Ul){Stop:(Nat->Prop)->UP->UL->Prop}(h:ae.Loc C.P (i==0) C.RO C.CU Stop O g v):∀own,O=fJ C m own->mE C own->C.mm<v.heap.size->da C v->(∀own g v,mE C own->C.mm<v.heap.size->da C v->Stop (fJ C m own) g v->ag C i j m own g v)->ag C i j m own g v:=by induction h with|stop h=>exactλown e n p l k=>k _ _ _ n p l (e▸h)|step z y _ B=>intro own e n p l k;subst e;refine .step z A λx q=>?_;have f:=q.RX t.pre l;obtain⟨s,u,r,a,b⟩:=y x f;have o:=lB.NC b;have c:=q.aJ l;have d:=Sn p q.grow;exact⟨s,u,r,a,o,B x s u r f a _ vd (n.more c d) (Sn d o.grow) (c.step t n o) k⟩
end
end Go.Cr
namespace Go.Cr
open Go.Conc Go.Mx Go.Rk
open Go.ConcR(KK WgAt wgBlock stA smA rd wr mk)
open Go.ConcM(OsLater)
variable{es:Array Vv}{s q:Int}{ty:U8}{g:Nat}
section
variable{C:Cx}{i i':Nat}{own own':Nat->Prop}{w w' w1:UL}
structure ma(C:Cx)(i:Nat)(own:Nat->Prop)(w w':UL):Prop where
 keep:∀k,k<w.heap.size->¬own k->k≠C.mu->k≠C.wg->k≠C.out->w'.heap[k]?=w.heap[k]?
 grow:w.heap.size<=w'.heap.size
 aJ:da C w->da C w'
 AI:∀o,¬C.oc i o->w'.cell? ⟨C.out,o,UM⟩=w.cell? ⟨C.out,o,UM⟩
 os:OsLater w.os w'.os
 out:w'.output=w.output
 tape:w'.tape=w.tape
theorem ma.env(f:C.Ok)(h:ma C i own w w')(l:i'≠i)(j:∀k,own' k->¬own k)(n:∀k,own' k->k<w.heap.size/\k≠C.mu/\k≠C.wg/\k≠C.out)(g:∀k,C.RO k->k<w.heap.size/\¬own k):Env C i' own' w w':=⟨λk e=>by rcases e with e|e;{obtain⟨a,b,c,d⟩:=n k e;exact h.keep k a (j k e) b c d};obtain⟨a,_,b,c⟩:=f.ro k e;exact h.keep k (g k e).1 (g k e).2 a b c,h.grow,h.aJ,λo m=>h.AI o λx=>l (f.oc _ _ _ m x)⟩
theorem cell_of_block{a:Vs}(h:w'.heap[a.block]?=w.heap[a.block]?):w'.cell? a=w.cell? a:=by simp[UL.cell?,h]
theorem jf(h:da C w):C.mu<w.heap.size/\C.wg<w.heap.size/\C.out<w.heap.size:=by obtain⟨⟨s,q,c⟩,⟨a,b,d⟩,⟨f,e,_⟩⟩:=h;exact⟨(So.1 c).1,(So.1 d).1,(So.1 e).1⟩
theorem da.gM(h:da C w)(f:w'.heap[C.mu]?=w.heap[C.mu]?)(g:w'.heap[C.wg]?=w.heap[C.wg]?)(j:w'.heap[C.out]?=w.heap[C.out]?):da C w':=by obtain⟨⟨s,q,a⟩,⟨x,y,b⟩,⟨e,c,d⟩⟩:=h;exact⟨⟨s,q,f.trans a⟩,⟨x,y,g.trans b⟩,⟨e,j.trans c,d⟩⟩
theorem ma.BR(d:da C w)(h:lB C own w w' es)(f:¬own C.mu)(g:¬own C.wg)(e:¬own C.out):ma C i own w w':=by obtain⟨a,b,c⟩:=jf d;exact⟨λk j l _ _ _=>h.keep k j l,h.grow,λd=>d.gM (h.keep _ a f) (h.keep _ b g) (h.keep _ c e),λo _=>cell_of_block (h.keep _ c e),by rw[h.os];exact .refl _,h.out,h.tape⟩
theorem ma.B8(h:DL w w' es):ma C i own w w':=⟨λk _ _ _ _ _=>by rw[h.heap],by rw[h.heap];omega,λa=>a.gM (by rw[h.heap]) (by rw[h.heap]) (by rw[h.heap]),λo _=>cell_of_block (by rw[h.heap]),h.os,h.out,h.tape⟩
theorem ma.refl:ma C i own w w:=.B8 (cO w)
theorem ma.NM(c:C.Ok)(h:Qp C i w w' es):ma C i own w w':=⟨λk _ _ _ _ d=>h.keep k d,by rw[h.size];omega,λb=>⟨by obtain⟨s,q,a⟩:=b.port;exact⟨s,q,(h.keep _ c.gd).trans a⟩,by obtain⟨s,q,a⟩:=b.gL;exact⟨s,q,(h.keep _ c.iN).trans a⟩,h.blk b.uq⟩,h.cells,by rw[h.os];exact .refl _,h.out,h.tape⟩
theorem ah(w:UL)(a:Vs)(v:UO){k:Nat}(h:k≠a.block):(w.setCell a v).heap[k]?=w.heap[k]?:=by simp only[UL.setCell];grind
theorem gR(w:UL)(a:Vs)(v:UO){cs:Array UO}{t:U8}{fr:Nat×Nat}(b:a.spot=UM)(h:w.heap[a.block]?=UG (.cells cs t fr)):(w.setCell a v).heap[a.block]?=UG (.cells (cs.setIfInBounds a.off v) t fr):=by simp only[UL.setCell];grind
theorem cN(w:UL)(a:Vs)(v:UO):(w.setCell a v).heap.size=w.heap.size:=by simp
theorem ax.setSt(a:C.Ok)(h:ax C w s q)(s':Int):ax C (w.setCell C.muA (.int .i32 s')) s' q:=by unfold ax at h⊢;rw[show C.mu=C.muA.block from rfl,gR w C.muA _ rfl h];congr 2;show(C.pre++#[UO.int .i32 s,UO.int .u32 q]).setIfInBounds C.mo (UO.int .i32 s')=C.pre++#[UO.int .i32 s',UO.int .u32 q];rw[<-a.pre];simp
theorem ax.setSm(b:C.Ok)(h:ax C w s q)(a:Int):ax C (w.setCell C.msA (.int .u32 a)) s a:=by unfold ax at h⊢;rw[show C.mu=C.msA.block from rfl,gR w C.msA _ rfl h];congr 2;show(C.pre++#[UO.int .i32 s,UO.int .u32 q]).setIfInBounds (C.mo+1) (UO.int .u32 a)=C.pre++#[UO.int .i32 s,UO.int .u32 a];rw[<-b.pre];simp
theorem ma.set(a:Vs)(v:UO)(c:a.block=C.mu\/a.block=C.wg)(b:C.Ok)(d:da C w->da C (w.setCell a v)):ma C i own w (w.setCell a v):=⟨λk _ _ e f _=>ah w a v (by omega),by simp,d,λo _=>cell_of_block (ah w a v (by rcases c with h|h<;>rw[h];{exact b.gd.symm};exact b.iN.symm)),.refl _,rfl,rfl⟩
theorem ma.st(c:C.Ok)(s':Int):ma C i own w (w.setCell C.muA (.int .i32 s')):=.set _ _ (.inl rfl) c λd=>⟨by obtain⟨s,q,a⟩:=d.port;exact⟨s',q,a.setSt c s'⟩,by obtain⟨s,q,a⟩:=d.gL;exact⟨s,q,(ah w C.muA _ c.gi.symm).trans a⟩,by obtain⟨e,a,b⟩:=d.uq;exact⟨e,(ah w C.muA _ c.gd.symm).trans a,b⟩⟩
theorem ma.sm(c:C.Ok)(s':Int):ma C i own w (w.setCell C.msA (.int .u32 s')):=.set _ _ (.inl rfl) c λd=>⟨by obtain⟨s,q,a⟩:=d.port;exact⟨s,s',a.setSm c s'⟩,by obtain⟨s,q,a⟩:=d.gL;exact⟨s,q,(ah w C.msA _ c.gi.symm).trans a⟩,by obtain⟨e,a,b⟩:=d.uq;exact⟨e,(ah w C.msA _ c.gd.symm).trans a,b⟩⟩
theorem kT{st sm:Int}(h:WgAt ty g w st sm)(v:Int):WgAt ty g (w.setCell (stA g) (.int .u64 v)) v sm:=by unfold WgAt wgBlock at h⊢;exact(gR w (stA g) _ rfl h).trans rfl
theorem oM{st sm:Int}(h:WgAt ty g w st sm)(v:Int):WgAt ty g (w.setCell (smA g) (.int .u32 v)) st v:=by unfold WgAt wgBlock at h⊢;exact(gR w (smA g) _ rfl h).trans rfl
theorem LM{st sm st' sm':Int}(h:WgAt ty g w st sm)(k:WgAt ty g w st' sm'):st=st'/\sm=sm':=by unfold WgAt wgBlock at h k;simp_all
theorem ma.dW(c:C.Ok)(f:C.tA=wgBlock C.tW)(s':Int):ma C i own w (w.setCell (stA C.wg) (.int .u64 s')):=.set _ _ (.inr rfl) c λd=>⟨by obtain⟨s,q,a⟩:=d.port;exact⟨s,q,(ah w (stA C.wg) _ c.gi).trans a⟩,by obtain⟨s,q,a⟩:=d.gL;rw[f]at a⊢;exact⟨s',q,kT a s'⟩,by obtain⟨e,a,b⟩:=d.uq;exact⟨e,(ah w (stA C.wg) _ c.iN.symm).trans a,b⟩⟩
theorem ma.RD(c:C.Ok)(f:C.tA=wgBlock C.tW)(s':Int):ma C i own w (w.setCell (smA C.wg) (.int .u32 s')):=.set _ _ (.inr rfl) c λd=>⟨by obtain⟨s,q,a⟩:=d.port;exact⟨s,q,(ah w (smA C.wg) _ c.gi).trans a⟩,by obtain⟨s,q,a⟩:=d.gL;rw[f]at a⊢;exact⟨s,s',oM a s'⟩,by obtain⟨e,a,b⟩:=d.uq;exact⟨e,(ah w (smA C.wg) _ c.iN.symm).trans a,b⟩⟩
theorem Env.FU(f:C.Ok)(h:ma C i (λ_=>False) w w')(l:∀k,own k->k<w.heap.size/\k≠C.mu/\k≠C.wg/\k≠C.out)(j:∀k,C.RO k->k<w.heap.size)(g:∀o,C.oc i o->w'.cell? ⟨C.out,o,UM⟩=w.cell? ⟨C.out,o,UM⟩):Env C i own w w':=⟨λk e=>by rcases e with e|e;{obtain⟨a,b,c,d⟩:=l k e;exact h.keep k a id b c d};obtain⟨a,_,b,c⟩:=f.ro k e;exact h.keep k (j k e) id a b c,h.grow,h.aJ,g⟩
end
end Go.Cr
namespace Go.Lw
open Go.Proofs Go.Conc Go.Mx Go.Rk Go.Cr Go.RowKit Go.Conc.Lib Go.ConcR.Gen
open Go.ConcR(KK WgAt stA smA rd wr mk DC0)
open Go.ConcM(goes_pad goes_le OsLater)
variable{C:Cx}{i j:Nat}{m:Md}{own:Nat->Prop}{g:UP}{v w:UL}{S:UP->UL->Prop}{K:UL->Prop}{s q:Int}
section
instance:Go.ConcR.Payload:=⟨3⟩
variable{w1:UL}
theorem MZ{w':UL}{es:Array Vv}(h:DC0 w w' es):DL w w' es:=by obtain⟨rfl,rfl⟩:=h;exact cO _
theorem zw{K K':UP->UL->Array Vv->Prop}{s:GStep}(h:∀g w es,K g w es->K' g w es)(k:s.goes K):s.goes K':=by cases s<;>first|exact h _ _ _ k|exact k
theorem Lm{k:Nat}:∀{n:Nat}{g:UP}{v:UL},Goes C.P (i==0) (Env C i own) DC0 (cG C i own S k) n g v->cG C i own S (k+n) g v|0,_,_,h=>h _ .refl|n+1,g,v,h=>by rcases h with h|⟨c,h⟩;{exact goes_pad (h _ .refl) _};refine .inr ⟨c,λx d=>zw (λg w e b=>?_) (h x d)⟩;exact⟨MZ b.1,Lm b.2⟩
def Kn(C:Cx)(i:Nat)(own:Nat->Prop)(v w:UL):Prop:=Env C i own v w/\da C w
theorem OT:(f113.name== "runtime.NumGoroutine")=Ul:=Ψ
theorem OP:(f144.name== "runtime.NumGoroutine")=Ul:=Ψ
theorem OU:(f145.name== "runtime.NumGoroutine")=Ul:=Ψ
theorem PR:(f166.name== "runtime.NumGoroutine")=Ul:=Ψ
theorem O2:(f168.name== "runtime.NumGoroutine")=Ul:=Ψ
theorem Ma:(f127.name== "runtime.NumGoroutine")=Ul:=Ψ
theorem Ms:f127.body.isNone=UJ:=Ψ
theorem Ny:Extern.findNext f127=UM:=Ψ
theorem MJ:Extern.find f127=UG (λ_=>do mark .disable;pure Extern.Race.none_):=Ψ
theorem LF:(f128.name== "runtime.NumGoroutine")=Ul:=Ψ
theorem NH:f128.body.isNone=UJ:=Ψ
theorem LC:Extern.findNext f128=UM:=Ψ
theorem Ni:Extern.find f128=UG (λ_=>do mark .enable;pure Extern.Race.none_):=Ψ
theorem MQ:(f139.name== "runtime.NumGoroutine")=Ul:=Ψ
theorem Mo:f139.body.isNone=UJ:=Ψ
theorem M1:Extern.findNext f139=UM:=Ψ
theorem LN:Extern.find f139=UG (Extern.Race.marked .acquire):=Ψ
theorem NN:(f126.name== "runtime.NumGoroutine")=Ul:=Ψ
theorem MO:f126.body.isNone=UJ:=Ψ
theorem M':Extern.findNext f126=UM:=Ψ
theorem NB:Extern.find f126=UG (Extern.Race.marked .releaseMerge):=Ψ
theorem Hl:(f165.name== "runtime.NumGoroutine")=Ul:=Ψ
theorem Hv:f165.body.isNone=UJ:=Ψ
theorem GQ:Extern.findNext f165=UM:=Ψ
theorem FB:Extern.find f165=UG (Extern.Atomic.casT (.int .i32)):=Ψ
theorem MD:(f167.name== "runtime.NumGoroutine")=Ul:=Ψ
theorem Nu:f167.body.isNone=UJ:=Ψ
theorem LG:Extern.findNext f167=UM:=Ψ
theorem Mw:Extern.find f167=UG (Extern.Atomic.update (Op.intArith .add) .i32 UJ):=Ψ
theorem Ed:(f182.name== "runtime.NumGoroutine")=Ul:=Ψ
theorem EL:f182.body.isNone=UJ:=Ψ
theorem FP:Extern.findNext f182=UM:=Ψ
theorem FL:Extern.find f182=UG (Extern.Sync.canSpin):=Ψ
theorem Mf:(f183.name== "runtime.NumGoroutine")=Ul:=Ψ
theorem LR:f183.body.isNone=UJ:=Ψ
theorem MM:Extern.findNext f183=UM:=Ψ
theorem NG:Extern.find f183=UG (λ_=>pure (.tuple #[])):=Ψ
theorem Mr:(f185.name== "runtime.NumGoroutine")=Ul:=Ψ
theorem L9:f185.body.isNone=UJ:=Ψ
theorem MW:Extern.findNext f185=UM:=Ψ
theorem LX:Extern.find f185=UG (Extern.OsHooks.nano):=Ψ
theorem NA:f185.norace=UJ:=Ψ
theorem Ef:(f186.name== "runtime.NumGoroutine")=Ul:=Ψ
theorem E':f186.body.isNone=UJ:=Ψ
theorem GW:Extern.findNext f186=UM:=Ψ
theorem Gi:Extern.find f186=UG (Extern.Sync.semacquire):=Ψ
theorem Ng:(f188.name== "runtime.NumGoroutine")=Ul:=Ψ
theorem MN:f188.body.isNone=UJ:=Ψ
theorem M8:Extern.findNext f188=UM:=Ψ
theorem LA:Extern.find f188=UG (Extern.Sync.semrelease):=Ψ
theorem Rl:(Pz.funcs[(base 145).fn]?).any (·.norace)=UJ:=Ψ
theorem Ky:(Pz.funcs[(base 166).fn]?).any (·.norace)=UJ:=Ψ
theorem Rb:(Pz.funcs[(base 168).fn]?).any (·.norace)=UJ:=Ψ
section
variable{main:Bool}{b:U0}{a:Vw}{kk:List Vj}{cs:List U0}{ops:Array VB}{rest:List Nat}{o:VB}
theorem yi{x:Vh}(p:ops[i]?=UG o)(s:Region.wanted o (U7 ops a.tmps)=UJ)(n:b.kind≠.early)(e:o.op=.load 21 x){ad:Vs}{v:Int}(k:a.eval x=.pointer (UG ad))(h:w.cell? ad=UG (.int .i32 v))(q:(Pz.funcs[b.fn]?).any (·.norace)=UJ):UY Pz main (G (b.at a (.inRegion ops (i::rest)::kk)) cs) w=.go (G (b.at (a.put o.dst (.int .i32 v)) (.inRegion ops rest::kk)) cs) w #[]:=by(have r:(UZ a.eval o).run Pz w=.ok (.value (.int .i32 v)) w:=by unfold UZ;simp only[e,k];simp[go_sem,h]);(have l:(UZ a.eval o).events Pz w #[]=#[⟨.cell ad,Ul,Ul⟩]:=by unfold UZ;simp only[e,k];simp[go_sem,h]);rw[stepG_value p s n r];unfold listed;rw[l,seen_def,q];rfl
end
noncomputable def lH:VD:=f112.body.getD .skip
noncomputable def j6:VD:=f113.body.getD .skip
noncomputable def cF:VD:=f144.body.getD .skip
noncomputable def ar:VD:=f166.body.getD .skip
end
section
variable{w1:UL}
theorem ax.cell(a:C.Ok)(h:ax C w s q):w.cell? ⟨C.mu,C.mo,UM⟩=UG (.int .i32 s):=by have b:=a.pre;unfold ax at h;simp[UL.cell?,h,<-b]
theorem ax.Bw(a:C.Ok)(h:ax C w s q):w.cell? ⟨C.mu,C.mo+1,UM⟩=UG (.int .u32 q):=by have b:=a.pre;unfold ax at h;simp[UL.cell?,h,<-b]
theorem ax.thaw(h:ax C w s q)(o:Nat):w.frozen? ⟨C.mu,o,UM⟩=Ul:=by unfold ax at h;simp[UL.frozen?,h]
structure Kd(C:Cx)(i:Nat)(own:Nat->Prop)(K:UL->Prop):Prop where
 env:∀{v v1},K v->Env C i own v v1->K v1
 st:∀{v}(x:Int),K v->K (v.setCell C.muA (.int .i32 x))
 sm:∀{v}(x:Int),K v->K (v.setCell C.msA (.int .u32 x))
 aJ:∀{v},K v->da C v
theorem Kd.mu(b:Kd C i own K)(a:C.Ok)(h:K w):∃v:UO,w.cell? ⟨C.mu,C.mo,UM⟩=UG v:=by obtain⟨⟨s,q,c⟩,_⟩:=b.aJ h;exact⟨_,ax.cell a c⟩
theorem Kd.held(a:Kd C i own K)(h:K w/\au C w)(r:Env C i (fJ C .own own) w w1):K w1/\au C w1:=⟨a.env h.1 r.fI,h.2.env r (.inr ⟨rfl,rfl⟩)⟩
theorem yc{wd:Wd}(h:((wd.enc:Nat):Int)=0):wd=⟨Ul,Ul,Ul,0⟩:=by obtain⟨L,W,s,n⟩:=wd;(have h:(⟨L,W,s,n⟩:Wd).enc=0:=by omega);cases L<;>cases W<;>cases s<;>simp[Wd.enc]at h⊢<;>omega
theorem Ow:Pz.underlying 217=UG (.pointer 157):=Ψ
theorem z157:(Pz.info? 157).map (λi=>decide (i.size=0))=UG Ul:=Ψ
end
end Go.Lw
namespace Go.Lw
open Go.Proofs Go.Conc Go.Mx Go.Rk Go.Cr Go.RowKit Go.Conc.Lib Go.ConcR.Gen Go.Pw
open Go.ConcR(KK WgAt stA smA rd wr mk DC0)
open Go.ConcM(goes_pad goes_le OsLater)
variable{v n:Int}{w:UL}{N mm:Nat}{L:List (Nat×UO)}{t:Array UO}{f q:Va}{k:List Vj}{cs:List U0}{y z u:Vh}{o:VB}{ags:Array Vh}{ad:Vs}
section
variable{C:Cx}{i j:Nat}{m:Md}{own:Nat->Prop}{g:UP}{v w1:UL}{S:UP->UL->Prop}
section
variable{H:List (Nat×UO)}{L':List (Nat×UO)}{k':List Vj}{obs:List (UO×UO)}
theorem aB{n:Nat}(h:∀w1,Env C i own w w1->S g w1):cG C i own S n g w:=Goes.stop h
theorem Bv(n:Nat)(e:Sl N L t)(b:bA C.P H n (fr f (tm N L t) k)=UG (fr f (iR C.P H n (fr f (tm N L t) k)) k',obs))(l:∀p∈obs,p.1=p.2)(c:Sl N L' (iR C.P H n (fr f (tm N L t) k)))(d:∀a w1,Sl N L' a->Env C i own w w1->cG C i own S mm (G (fr f a k') cs) w1):cG C i own S (mm+n) (G (fr f t k) cs) w:=by refine Lm ?_;have:=Gs (m:=0) (main:=i==0) (D:=DC0) bG (λw=>⟨rfl,rfl⟩) n e b l c (λa h w1 o=>d a w1 h o);simp_all
theorem JM(n:Nat)(h:Sl N L t)(b:bA C.P H n (fr f (tm N L t) k)=UG (fr f (iR C.P H n (fr f (tm N L t) k)) k',obs))(l:∀p∈obs,p.1=p.2)(c:Sl N L' (iR C.P H n (fr f (tm N L t) k)))(d:∀a,Sl N L' a->ag C i j m own (G (fr f a k') cs) v):ag C i j m own (G (fr f t k) cs) v:=Jc (J:=λg=>ag C i j m own g v) (λF q o e=>.ctl rfl o e) n h b l c d
theorem bY(n:Nat)(O:List (Nat×Ob))(k':List Vj)(L':List (Nat×UO))(hS:Sl N L t)(hG:∀t' w1,Sl N L' t'->Env C i own w w1->cG C i own S mm (G (fr f t' k') cs) w1)(hP:C.P=Pz:=by exact hP)(h1:bA Pz (oh O) n (fr f (tm N L t) k)=UG (fr f (iR Pz (oh O) n (fr f (tm N L t) k)) k',oo O):=by kernel_rfl)(h2:Sl N L' (iR Pz (oh O) n (fr f (tm N L t) k)):=by exact .all):cG C i own S (mm+n) (G (fr f t k) cs) w:=Bv n hS (by rw[hP];exact h1) (tM O) (by simp_all) hG
theorem ej(n:Nat)(k':List Vj)(L':List (Nat×UO))(hS:Sl N L t)(hG:∀t' w1,Sl N L' t'->Env C i own w w1->cG C i own S mm (G (fr f t' k') cs) w1)(hP:C.P=Pz:=by exact hP)(h1:bA Pz (oh []) n (fr f (tm N L t) k)=UG (fr f (iR Pz (oh []) n (fr f (tm N L t) k)) k',oo []):=by kernel_rfl)(h2:Sl N L' (iR Pz (oh []) n (fr f (tm N L t) k)):=by exact .all):cG C i own S (mm+n) (G (fr f t k) cs) w:=bY n [] k' L' hS hG hP h1 h2
theorem xc(n:Nat)(O:List (Nat×Ob))(k':List Vj)(L':List (Nat×UO))(hS:Sl N L t)(hG:∀t',Sl N L' t'->ag C i j m own (G (fr f t' k') cs) v)(hP:C.P=Pz:=by exact hP)(h1:bA Pz (oh O) n (fr f (tm N L t) k)=UG (fr f (iR Pz (oh O) n (fr f (tm N L t) k)) k',oo O):=by kernel_rfl)(h2:Sl N L' (iR Pz (oh O) n (fr f (tm N L t) k)):=by exact .all):ag C i j m own (G (fr f t k) cs) v:=JM n hS (by rw[hP];exact h1) (tM O) (by simp_all) hG
theorem cX(n:Nat)(k':List Vj)(L':List (Nat×UO))(hS:Sl N L t)(hG:∀t',Sl N L' t'->ag C i j m own (G (fr f t' k') cs) v)(hP:C.P=Pz:=by exact hP)(h1:bA Pz (oh []) n (fr f (tm N L t) k)=UG (fr f (iR Pz (oh []) n (fr f (tm N L t) k)) k',oo []):=by kernel_rfl)(h2:Sl N L' (iR Pz (oh []) n (fr f (tm N L t) k)):=by exact .all):ag C i j m own (G (fr f t k) cs) v:=xc n [] k' L' hS hG hP h1 h2
end
theorem eY{n:Nat}(d:g.status=.running)(h:∀x,Env C i own w x->∃g' w',UY C.P (i==0) g x=.go g' w' #[]/\DL x w' #[]/\cG C i own S n g' w'):cG C i own S (n+1) g w:=.inr ⟨d,λx e=>by obtain⟨g',w',a,b,c⟩:=h x e;simp_all⟩
theorem o9(x:UL):DL x x.later #[]:=⟨rfl,rfl,rfl,⟨x.tick,rfl⟩,rfl⟩
theorem kW(x:UL):DL x x.asked #[]:=⟨rfl,rfl,rfl,.refl _,rfl⟩
theorem qp{x y:UL}{es:Array Vv}(h:DL x y es):Env C i own x y:=⟨λk _=>by rw[h.heap],by rw[h.heap];omega,λf=>by obtain⟨⟨s,q,a⟩,⟨n,l,b⟩,⟨e,c,d⟩⟩:=f;exact⟨⟨s,q,by unfold ax at a⊢;rw[h.heap];exact a⟩,⟨n,l,by rw[h.heap];exact b⟩,⟨e,by rw[h.heap];exact c,d⟩⟩,λo _=>by simp[UL.cell?,h.heap]⟩
def aZ(o:VB):Option Va:=match o.op with
 |.call c=>(match c.callee with|.value (.func q)=>UG q|_=>UM)
 |_=>UM
def dC(o:VB):Array Vh:=match o.op with|.call c=>c.args|_=>#[]
def uF(o:VB):Array U8:=match o.op with|.call c=>c.argTypes|_=>#[]
theorem bF(h:aZ o=UG q)(b:dC o=ags):o.op=.call {callee:=.value (.func q),args:=ags,argTypes:=uF o}:=by subst b;unfold aZ at h;unfold dC uF;cases d:o.op with|call c=>obtain⟨e,k,f⟩:=c;grind|_=>simp_all
section
variable{main:Bool}{kk:List Vj}{ops:Array VB}{x:Nat}{rest:List Nat}{d:Nat}{ats:Array U8}{fn:Func}
theorem cx{v:UO}(a:o.dst=UG d):G ((base f).at ((⟨t,[]⟩:Vw).put o.dst v) k) cs=G (fr f (t.setIfInBounds d v) k) cs:=by rw[a];rfl
theorem nh{v:Int}(hS:Sl N L t)(p:ops[x]?=UG o)(s:Region.wanted o (U7 ops (tm N L t))=UJ)(k:o.dst=UG d)(h:o.op=.load 21 y)(u:(⟨t,[]⟩:Vw).eval y=.pointer (UG ad))(n:w.cell? ad=UG (.int .i32 v))(r:(Pz.funcs[f]?).any (·.norace)=UJ):UY Pz main (G (fr f t (.inRegion ops (x::rest)::kk)) cs) w=.go (G (fr f (t.setIfInBounds d (.int .i32 v)) (.inRegion ops rest::kk)) cs) w #[]:=(yi (b:=base f) (a:=⟨t,[]⟩) p (aW hS s) (by k_ne) h u n r).trans (by first|(rw[cx k])|(rfl))
theorem ly{v:Int}(hS:Sl N L t)(s:ops[x]?=UG o)(D:Region.wanted o (U7 ops (tm N L t))=UJ)(h:o.dst=UG d)(A:aZ o=UG 165)(l:dC o=#[y,z,u])(E:(⟨t,[]⟩:Vw).eval y=.pointer (UG ad))(F:(⟨t,[]⟩:Vw).eval z=.int .i32 v)(B:(⟨t,[]⟩:Vw).eval u=.int .i32 n)(p:w.cell? ad=UG (.int .i32 v))(r:w.frozen? ad=Ul):UY Pz main (G (fr f t (.inRegion ops (x::rest)::kk)) cs) w=.go (G (fr f (t.setIfInBounds d (.bool UJ)) (.inRegion ops rest::kk)) cs) (w.setCell ad (.int .i32 n)) #[rd ad,wr ad]:=(stepG_cas_hit (b:=base f) (a:=⟨t,[]⟩) s (aW hS D) (by k_ne) (bF A l) func165 Hl Hv GQ .i32 FB E F B p r).trans (by first|(done)|(rw[cx h];rfl))
theorem jT{v old:Int}(hS:Sl N L t)(A:ops[x]?=UG o)(E:Region.wanted o (U7 ops (tm N L t))=UJ)(k:o.dst=UG d)(B:aZ o=UG 165)(p:dC o=#[y,z,u])(F:(⟨t,[]⟩:Vw).eval y=.pointer (UG ad))(H:(⟨t,[]⟩:Vw).eval z=.int .i32 old)(D:(⟨t,[]⟩:Vw).eval u=.int .i32 n)(r:w.cell? ad=UG (.int .i32 v))(s:w.frozen? ad=Ul)(h:¬v=old):UY Pz main (G (fr f t (.inRegion ops (x::rest)::kk)) cs) w=.go (G (fr f (t.setIfInBounds d (.bool Ul)) (.inRegion ops rest::kk)) cs) w #[rd ad]:=(stepG_cas_miss (b:=base f) (a:=⟨t,[]⟩) A (aW hS E) (by k_ne) (bF B p) func165 Hl Hv GQ .i32 FB F H D r s h).trans (by first|(done)|(rw[cx k];rfl))
theorem xf{v:Int}(hS:Sl N L t)(s:ops[x]?=UG o)(A:Region.wanted o (U7 ops (tm N L t))=UJ)(h:o.dst=UG d)(u:aZ o=UG 167)(l:dC o=#[y,z])(B:(⟨t,[]⟩:Vw).eval y=.pointer (UG ad))(D:(⟨t,[]⟩:Vw).eval z=.int .i32 n)(p:w.cell? ad=UG (.int .i32 v))(r:w.frozen? ad=Ul):UY Pz main (G (fr f t (.inRegion ops (x::rest)::kk)) cs) w=.go (G (fr f (t.setIfInBounds d (.int .i32 (U1.i32.wrap (v+n)))) (.inRegion ops rest::kk)) cs) (w.setCell ad (.int .i32 (U1.i32.wrap (v+n)))) #[rd ad,wr ad]:=(stepG_add_atomic (b:=base f) (a:=⟨t,[]⟩) s (aW hS A) (by k_ne) (bF u l) func167 MD Nu LG .i32 Mw B D p r).trans (by first|(done)|(rw[cx h];rfl))
theorem Nq(hS:Sl N L t)(u:ops[x]?=UG o)(z:Region.wanted o (U7 ops (tm N L t))=UJ)(k:o.dst=UG d)(y:aZ o=UG 186)(p:dC o=ags)(A:(ags.map (⟨t,[]⟩:Vw).eval)[0]?=UG (.pointer (UG ad)))(r:w.cell? ad=UG (.int .u32 n))(h:n≠0)(s:w.frozen? ad=Ul):UY Pz main (G (fr f t (.inRegion ops (x::rest)::kk)) cs) w=.go (G (fr f (t.setIfInBounds d (.tuple #[])) (.inRegion ops rest::kk)) cs) (w.setCell ad (.int .u32 (n-1))) (semEvents ad):=(stepG_semacquire (b:=base f) (a:=⟨t,[]⟩) u (aW hS z) (by k_ne) (bF y p) func186 Ef E' GW Gi A r h s).trans (by first|(rw[cx k])|(rfl))
theorem zr(hS:Sl N L t)(p:ops[x]?=UG o)(s:Region.wanted o (U7 ops (tm N L t))=UJ)(r:aZ o=UG 186)(l:dC o=ags)(u:(ags.map (⟨t,[]⟩:Vw).eval)[0]?=UG (.pointer (UG ad)))(n:w.cell? ad=UG (.int .u32 0)):UY Pz main (G (fr f t (.inRegion ops (x::rest)::kk)) cs) w=.go {G (fr f t (.inRegion ops (x::rest)::kk)) cs with status:=.blocked} w #[]:=stepG_semacquire_wait (b:=base f) (a:=⟨t,[]⟩) p (aW hS s) (bF r l) func186 Ef E' GW Gi u n
theorem EC(hS:Sl N L t)(s:ops[x]?=UG o)(y:Region.wanted o (U7 ops (tm N L t))=UJ)(h:o.dst=UG d)(u:aZ o=UG 188)(l:dC o=ags)(z:(ags.map (⟨t,[]⟩:Vw).eval)[0]?=UG (.pointer (UG ad)))(p:w.cell? ad=UG (.int .u32 n))(r:w.frozen? ad=Ul):UY Pz main (G (fr f t (.inRegion ops (x::rest)::kk)) cs) w=.go (G (fr f (t.setIfInBounds d (.tuple #[])) (.inRegion ops rest::kk)) cs) (w.setCell ad (.int .u32 (U1.u32.wrap (n+1)))) (semEvents ad):=(stepG_semrelease (b:=base f) (a:=⟨t,[]⟩) s (aW hS y) (by k_ne) (bF u l) func188 Ng MN M8 LA z p r).trans (by first|(rw[cx h])|(rfl))
theorem BA(hS:Sl N L t)(l:ops[x]?=UG o)(p:Region.wanted o (U7 ops (tm N L t))=UJ)(h:o.dst=UG d)(n:aZ o=UG 185):UY Pz main (G (fr f t (.inRegion ops (x::rest)::kk)) cs) w=.go (G (fr f (t.setIfInBounds d (Iv ((w.os.mono+w.tick:Nat):Int))) (.inRegion ops rest::kk)) cs) w.later #[]:=(stepG_nanotime (b:=base f) (a:=⟨t,[]⟩) l (aW hS p) (by k_ne) (bF n rfl) func185 Mr L9 MW LX NA).trans (by first|(rw[cx h])|(rfl))
theorem n5{k:U1}(hS:Sl N L t)(s:ops[x]?=UG o)(y:Region.wanted o (U7 ops (tm N L t))=UJ)(h:o.dst=UG d)(u:aZ o=UG 182)(r:dC o=ags)(z:ags.map (⟨t,[]⟩:Vw).eval=#[.int k n])(l:4<=n):UY Pz main (G (fr f t (.inRegion ops (x::rest)::kk)) cs) w=.go (G (fr f (t.setIfInBounds d (.bool Ul)) (.inRegion ops rest::kk)) cs) w #[]:=(stepG_canSpin_no (b:=base f) (a:=⟨t,[]⟩) s (aW hS y) (by k_ne) (bF u r) func182 Ed EL FP FL z l).trans (by first|(rw[cx h])|(rfl))
theorem vR{k:U1}(hS:Sl N L t)(s:ops[x]?=UG o)(y:Region.wanted o (U7 ops (tm N L t))=UJ)(h:o.dst=UG d)(u:aZ o=UG 182)(r:dC o=ags)(z:ags.map (⟨t,[]⟩:Vw).eval=#[.int k n])(l:n<4):UY Pz main (G (fr f t (.inRegion ops (x::rest)::kk)) cs) w=.go (G (fr f (t.setIfInBounds d (.bool w.spins)) (.inRegion ops rest::kk)) cs) w.asked #[]:=(stepG_canSpin_ask (b:=base f) (a:=⟨t,[]⟩) s (aW hS y) (by k_ne) (bF u r) func182 Ed EL FP FL z l).trans (by first|(rw[cx h])|(rfl))
theorem Dw(hS:Sl N L t)(l:ops[x]?=UG o)(p:Region.wanted o (U7 ops (tm N L t))=UJ)(h:o.dst=UG d)(n:aZ o=UG 183):UY Pz main (G (fr f t (.inRegion ops (x::rest)::kk)) cs) w=.go (G (fr f (t.setIfInBounds d (.tuple #[])) (.inRegion ops rest::kk)) cs) w #[]:=(stepG_entry_pure (b:=base f) (a:=⟨t,[]⟩) (.tuple #[]) l (aW hS p) (by k_ne) (bF n rfl) func183 Mf LR MM NG).trans (by first|(rw[cx h])|(rfl))
end
end
end Go.Lw
