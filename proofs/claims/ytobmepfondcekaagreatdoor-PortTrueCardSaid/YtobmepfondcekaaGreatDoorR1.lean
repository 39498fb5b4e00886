/- A part of the proof of PortTrue. Conditions: none. -/
import Derived.Test.YtobmepfondcekaaGreatDoorR0
import Derived.Laws.Entries
import Derived.Conc.LockTrace
import Derived.Conc.MuSpec
import Derived.Conc.Beside
import Derived.Conc.MuWords
import Derived.Conc.ClockLaws
import Derived.Test.YtobmepfondcekaaGreatDoorProg
import Derived.Conc.DeferLaws
import Derived.Conc.QuitsD
import Derived.Conc.WgArith
import Derived.RangeFuncRecord
import Derived.MapKept
import Derived.Orders
import Derived.Conc.CompanyDraw
import Derived.Laws.BitsLemmas
set_option linter.all false
open Go.Proofs.Tryz renaming prog->Pz
open Go renaming Act->Yh,Addr->Yc,CallKind->Yn,Code->Yl,Deferred->X5,Event->Ye,Frame->XF,FuncId->XO,Goroutine->Xz,IntKind->XH,Item->X3,MapEntry->Yj,Obj->Yf,Oper->Yk,Operand->XR,Program->XN,Question->Yi,Result->Ya,Sem->X0,TypeId->XI,Value->Xu,World->Xr,execOp->XE,stepG->XA,undef->XD,yielded->XM
open Bool renaming false->WN,true->Xq
open Option renaming none->Xv,some->Xp
open Go.Proofs.Tryz
namespace Go.ab
open Go.Conc
variable{P:XN}{c:dx}{r r':bB}{gl live:Nat->Bool}{main:Bool}{RO own:Nat->Prop}{CU:Nat->Nat->Prop}{g i n j:Nat}{v v1 v2 w w' v':Xr}{es:Array Ye}{Good:Xu->Xr->Prop}{Stop:(Nat->Prop)->Xz->Xr->Prop}{caller F:XF}{cs:List XF}{s s':cy}{f:XO}{fn:Func}{b cd:Yl}{args t tl:Array Xu}{R:Ending->Xr->Prop}{k k' kr tail k1 kk:List X3}{o:Yk}{u:Xu}{fns:XO->Bool}{ops:Array Yk}{rest' rest:List Nat}{Q:Array Xu->Xr->Prop}
structure Env(own RO:Nat->Prop)(CU:Nat->Nat->Prop)(v v1:Xr):Prop where
 keep:∀k,own k\/RO k->v1.heap[k]?=v.heap[k]?
 cut:∀k n,CU k n->∀(x:Array Xu)(t:XI)(fr:Nat×Nat),v.heap[k]?=Xp (.cells x t fr)->∃x' fr',v1.heap[k]?=Xp (.cells x' t fr')/\x'.size=x.size/\∀o,o<n->x'[o]?=x[o]?
 grow:v.heap.size<=v1.heap.size
def TU(own RO:Nat->Prop)(CU:Nat->Nat->Prop)(e:Ye):Prop:=
 (∃k,(match e.loc with|.cell a=>a.block=k|.obj j=>j=k|_=>False)/\(own k\/(RO k/\e.write=WN))/\e.sync=WN)\/(∃k n o,CU k n/\o<n/\e=⟨.cell ⟨k,o,Xv⟩,WN,WN⟩)\/e.loc=.mark .noRoom\/∃f,e.loc=.mark (.extern f)
def more(own:Nat->Prop)(v v':Xr):Nat->Prop:=λk=>own k\/(v.heap.size<=k/\k<v'.heap.size)
structure lj(own RO:Nat->Prop)(CU:Nat->Nat->Prop)(v v':Xr)(es:Array Ye):Prop where
 keep:∀k,k<v.heap.size->¬own k->v'.heap[k]?=v.heap[k]?
 grow:v.heap.size<=v'.heap.size
 os:v'.os=v.os
 out:v'.output=v.output
 tape:v'.tape=v.tape
 evs:∀e∈es,TU (more own v v') RO CU e
inductive Loc(P:XN)(main:Bool)(RO:Nat->Prop)(CU:Nat->Nat->Prop)(Stop:(Nat->Prop)->Xz->Xr->Prop):(Nat->Prop)->Xz->Xr->Prop
 |stop{own:Nat->Prop}{g:Xz}{v:Xr}:Stop own g v->Loc P main RO CU Stop own g v
 |step{own:Nat->Prop}{g:Xz}{v:Xr}:g.status=.running->(∀v1,Env own RO CU v v1->∃g' v' es,XA P main g v1=.go g' v' es/\lj own RO CU v1 v' es)->
  (∀v1 g' v' es,Env own RO CU v v1->XA P main g v1=.go g' v' es->Loc P main RO CU Stop (more own v1 v') g' v')->Loc P main RO CU Stop own g v
theorem Loc.bind{S S':(Nat->Prop)->Xz->Xr->Prop}{g:Xz}(h:Loc P main RO CU S own g v)(k:∀own g v,S own g v->Loc P main RO CU S' own g v):Loc P main RO CU S' own g v:=by induction h with|stop h=>exact k _ _ _ h|step a h _ b=>exact .step a h b
theorem Env.refl(own RO:Nat->Prop)(CU:Nat->Nat->Prop)(v:Xr):Env own RO CU v v:=⟨λ_ _=>rfl,λ_ _ _ x _ a h=>⟨x,a,h,rfl,λ_ _=>rfl⟩,UB _⟩
theorem Env.trans(h:Env own RO CU v v1)(k:Env own RO CU v1 v2):Env own RO CU v v2:=⟨λi b=>(k.keep i b).trans (h.keep i b),λi n a x t f g=>by obtain⟨j,e,d,q,o⟩:=h.cut i n a x t f g;obtain⟨u,m,l,s,p⟩:=k.cut i n a j t e d;simp_all,UO h.grow k.grow⟩
structure Reach(c:dx)(r:bB)(own RO:Nat->Prop)(CU:Nat->Nat->Prop)(v:Xr):Prop where
 ze:∀b k,r b=Xp k->own k\/(c.seen b/\(RO k\/CU k (c.EZ b)))
 old:∀k,own k\/RO k->k<v.heap.size
theorem cC.env(h:cC c r w v)(z:Reach c r own RO CU v)(f:Env own RO CU v v1):cC c r (Go.ab.re w v1.tape v1.drawn) v1:=⟨h.qD,λb k e=>UC (h.ze b k e) f.grow,h.inj,h.qh,h.hid,λb k e=>by have:=h.blk b k e;rcases z.ze b k e with g|⟨C,g|g⟩;{rw[f.keep k (.inl g)];exact this};{rw[f.keep k (.inr g)];exact this};show qd c r b w.heap[b]? v1.heap[k]?;revert this;generalize w.heap[b]?=J;generalize j:v.heap[k]?=I;intro this;cases this with|@seen x A t m q s l D y e=>obtain⟨K,p,o,F,E⟩:=f.cut k _ g A m q j;rw[o];refine .seen t m p s l Ω y λi u H a b d=>?_;grind|own n _=>simp_all,rfl,rfl,h.old,h.aL,h.iy.1,UO h.iy.2 f.grow⟩
theorem Reach.env(a:Reach c r own RO CU v)(b:Env own RO CU v v1):Reach c r own RO CU v1:=⟨a.ze,λk h=>UC (a.old k h) b.grow⟩
theorem Ext.mine(h:Ext c r w v r' w' v')(m:Reach c r own RO CU v)(u:∀e∈es,rq c r' e):lj own RO CU v v' es/\Reach c r' (more own v v') RO CU v':=by have q:=h.size;have D:=h.grow;(have f:∀b k,r' b=Xp k->more own v v' k\/(c.seen b/\(RO k\/CU k (c.EZ b))):=λb k e=>by rcases Vi b w.heap.size with g|g;{rw[h.yj b g]at e;rcases m.ze b k e with x|x;{exact .inl (.inl x)};simp_all};have n:=h.rel.qD b k e;have o:=h.rel.ze b k e;rw[h.new b g n]at e;cases e;exact .inl (.inr ⟨by omega,o⟩));refine⟨⟨λk d E=>h.keep k d λb g=>?_,by omega,h.os,h.out,h.tape,λe y=>?_⟩,f,λk d=>?_⟩;{rcases m.ze b k g with x|x;{simp_all};grind};{rcases u e y with⟨b,g,F,l⟩|x;{(have:∃k,(match e.loc with|.cell a=>a.block=k/\(c.seen b->a.off<c.EZ b/\a.spot=Xv)|.obj j=>j=k/\¬c.seen b|_=>False)/\r' b=Xp k:=by grind);obtain⟨k,n,o⟩:=this;(have i:(match e.loc with|.cell a=>a.block=k|.obj j=>j=k|_=>False):=by grind);rcases f b k o with x|⟨q,x|x⟩;{exact .inl ⟨k,i,.inl x,l⟩};{refine .inl ⟨k,i,.inr ⟨x,?_⟩,l⟩;simp_all};refine .inr (.inl ?_);obtain⟨p,I,H⟩:=e;cases p with|cell a=>obtain⟨rfl,t⟩:=n;obtain⟨B,C⟩:=t q;obtain⟨z,A,s⟩:=a;grind|obj j=>simp_all|_=>grind};exact .inr (.inr x)};rcases d with(d|d)|d;{have:=m.old k (.inl d);omega};{exact d.2};have:=m.old k (.inr d);omega
structure Left(c:dx)(r:bB)(own RO:Nat->Prop)(v:Xr)(own1:Nat->Prop)(v1:Xr):Prop where
 keep:∀k,own k\/RO k->(∀b,r b=Xp k->c.seen b)->v1.heap[k]?=v.heap[k]?
 mine:∀k,own1 k->own k\/v.heap.size<=k
 more:∀k,own k->own1 k
 grow:v.heap.size<=v1.heap.size
theorem Left.refl(c:dx)(r:bB)(own RO:Nat->Prop)(v:Xr):Left c r own RO v own v:=⟨λ_ _ _=>rfl,λ_ h=>.inl h,λ_ h=>h,UB _⟩
theorem Left.after{own1:Nat->Prop}(n:Reach c r own RO CU v)(m:Env own RO CU v v1)(f:Ext c r w v1 r' w' v')(h:Left c r' (Go.ab.more own v1 v') RO v' own1 v2):Left c r own RO v own1 v2:=by have q:=f.size;have p:=f.grow;have j:=m.grow;(have l:∀b k,k<v1.heap.size->r' b=Xp k->r b=Xp k:=λb k a e=>by rcases Vi b w.heap.size with d|d;{rw[<-f.yj b d];exact e};have i:=f.rel.qD b k e;rw[f.new b d i]at e;grind);refine⟨λk a d=>?_,λk a=>?_,λk a=>h.more k (.inl a),by have:=h.grow;omega⟩;{have g:k<v1.heap.size:=UC (n.old k a) j;rw[h.keep k (a.imp .inl id) λb e=>d b (l b k g e),f.keep k g d,m.keep k a]};rcases h.mine k a with(i|i)|i;{grind};{omega};omega
theorem Lone.loc(hl:Listed P c gl)(h:Lone P Good s w):∀{r:bB}{own:Nat->Prop}{v:Xr}{s':cy},wu P c gl s->(∃T D,cC c r (re w T D) v)->nY c r s s'->(∀g,gl g=Xq->r g=Xp g)->Reach c r own RO CU v->(∀a x u p n v1,r.le a->Good u n->cC c a n v1->ai c a u p->Reach c a x RO CU v1->Left c r own RO v x v1->Loc P main RO CU Stop x (G (caller.finish p) cs) v1)->Loc P main RO CU Stop own (s'.g (caller::cs)) v:=by induction h with|@done s w U u ht H hd=>intro r own v s' hs⟨T,D,Z⟩Y W b K;obtain⟨f,t,k,ret,st⟩:=s;obtain⟨f',t',k',M,st'⟩:=s';obtain⟨e1,J,e2,e3,I⟩:=Y;simp only at e1 J e2 e3 I H;obtain⟨h1,h2⟩:=ht;simp only at h1 h2;subst f' k' M h1 h2;cases I;(have q:∀v1,Env own RO CU v v1->∃p j a,XA P main ((cy.mk f t' k Xq []).g (caller::cs)) v1=.go (G (caller.finish p) cs) j (seen P f ((results U t').events P v1 #[]))/\Ext c r (re w v1.tape v1.drawn) v1 a (re w v1.tape v1.drawn) j/\ai c a u p/\(∀e∈seen P f ((results U t').events P v1 #[]),rq c a e):=by intro v1 d;have E:cC c r (re w v1.tape v1.drawn) v1:=Z.env b d;have A:=j2 U J (P:=P) _ _ E;rw[(hd v1.tape v1.drawn).1]at A;obtain⟨p,j,a,o,l,y,i⟩:=A;exact⟨p,j,a,aR H o,l,y,λe C=>i e (mem_seen C)⟩);refine .step rfl (λv1 d=>?_) (λv1 g' v' B d C=>?_);{obtain⟨p,j,a,o,l,y,i⟩:=q v1 d;exact⟨_,_,_,o,(l.mine (b.env d) i).1⟩};obtain⟨p,j,a,o,l,y,i⟩:=q v1 d;rw[o]at C;injection C with O Q R;subst O Q R;exact K a _ u p _ j l.le (hd v1.tape v1.drawn).2 l.rel y (l.mine (b.env d) i).2 (Left.after b d l (Left.refl ..))|@step s w X V hall ih=>intro r own v s' hs⟨T,D,Z⟩Y W b K;(have q:∀v1,Env own RO CU v v1->∃z n m j a B,bV P s (re w v1.tape v1.drawn) z n/\wu P c gl z/\XA P main (s'.g (caller::cs)) v1=.go (m.g (caller::cs)) j B/\Ext c r (re w v1.tape v1.drawn) v1 a n j/\nY c a z m/\(∀e∈B,rq c a e):=by intro v1 d;have E:cC c r (re w v1.tape v1.drawn) v1:=Z.env b d;rcases sw (main:=main) (bs:=caller::cs) hl W E Y hs (λe e'=>X ⟨e,e'⟩)with⟨z,n,S,o,l,m,j,a,B,y,i,N,F⟩|hb;{exact⟨z,n,m,j,a,B,⟨S,o⟩,l,y,i,N,F⟩};obtain⟨z,n,o⟩:=V v1.tape v1.drawn;exact(hb.not o).elim);refine .step rfl (λv1 d=>?_) (λv1 g' v' B d C=>?_);{obtain⟨z,n,m,j,a,B,o,l,y,i,N,F⟩:=q v1 d;exact⟨_,_,_,y,(i.mine (b.env d) F).1⟩};obtain⟨z,n,m,j,a,es',o,l,y,i,N,F⟩:=q v1 d;rw[y]at C;injection C with O Q R;subst O Q R;refine ih v1.tape v1.drawn z n o l ⟨n.tape,n.drawn,i.rel⟩ N (λg e=>i.le _ _ (W g e)) (i.mine (b.env d) F).2 λr2 L u p w2 v3 c1 c2 c3 c4 c5 c6=>?_;exact K r2 L u p w2 v3 (bB.le_trans i.le c1) c2 c3 c4 c5 (Left.after b d i c6)
def entry(f:XO)(fn:Func)(b:Yl)(args:Array Xu):cy:=⟨f,args++Array.replicate (fn.ntmps-args.size) XD,[.code b],WN,[]⟩
theorem uj(p:Listed P c gl)(a:∀v w T D,Good v w->Good v (re w T D))(d:Fit P c gl (entry f fn b args) w)(m:P.funcs[f]?=Xp fn)(l:fn.body=Xp b)(H:∀T,Calls P f args (re w T 0) R)(k:∀e w',R e w'->∃v,e=.returned v/\Good v w'):Lone P Good (entry f fn b args) w:=by refine oU p a d λT=>?_;obtain⟨e,w',g,h,i,s,j⟩:=H T [ej];obtain⟨v,rfl,o⟩:=k e w' h;obtain⟨n,q⟩:=i;refine⟨n,g,w',v,?_,j,o⟩;rw[<-q];congr 1;rw[gB args m,l];rfl
theorem Loc.call(q:Listed P c gl){args':Array Xu}(j:∀v w T D,Good v w->Good v (re w T D))(E:∀e w',R e w'->∃v,e=.returned v/\Good v w')(o:P.funcs[f]?=Xp fn)(p:c.fns f=Xq)(n:fn.body=Xp b)(t:∀g,gl g=Xq->r g=Xp g)(a:aj c r args args')(i:cC c r w v)(s:Reach c r own RO CU v)(H:∀T,Calls P f args (re w T 0) R)(K:∀m d u A B v1,r.le m->Good u B->cC c m B v1->ai c m u A->Reach c m d RO CU v1->Left c r own RO v d v1->Loc P main RO CU Stop d (G (caller.finish A) cs) v1):Loc P main RO CU Stop own (G (XF.enter P f args' .normal) (caller::cs)) v:=by(have z:wu P c gl (entry f fn b args):=by refine⟨trivial,?_,λx F=>by simp[entry]at F⟩;obtain⟨I,h|⟨h,C⟩⟩:=q.body f fn p o;{simp_all};rw[n]at h;cases h;simp[entry,aW,C]);have y:nY c r (entry f fn b args) (entry f fn b args'):=⟨rfl,by show aj c r (args++_) (args'++_);rw[a.size];exact a.append (.replicate _ fJ),rfl,rfl,.nil⟩;have l:=Fit.AW z i y t;have k:=uj q j l o n H E;have:=k.loc q (main:=main) (RO:=RO) (CU:=CU) (Stop:=Stop) (caller:=caller) (cs:=cs) z ⟨w.tape,w.drawn,i⟩ y t s K;rw[gB args' o,n];exact this
structure fE where
 k:Nat
 low:Nat
 t:XI
 x:Array Xu
def fE.obj(s:fE):Yf:=.cells s.x (if s.low=0 then s.t else wT) (0,s.x.size)
def da(g:Nat)(ws:List fE)(v:Xr):Xr:={v with heap:=Array.replicate g (.cells #[] 0)++(ws.map fE.obj).toArray}
def dr(P:XN)(fns:XO->Bool)(ws:List fE):dx:=
 {fns:=fns,seen:=λb=>P.globals.size<=b/\b<P.globals.size+ws.length,EZ:=λb=>if b<P.globals.size then 0 else((ws[b-P.globals.size]?).map λs=>s.x.size).getD 0,aL:=P.globals.size,
   low:=λb=>if b<P.globals.size then 0 else((ws[b-P.globals.size]?).map λs=>s.low).getD 0}
def gv(g:Nat)(ws:List fE):bB:=λb=>if b<g then Xv else(ws[b-g]?).map λs=>s.k
theorem eF{ws:List fE}{b k:Nat}(h:gv g ws b=Xp k):∃(i:Nat)(s:fE),b=g+i/\ws[i]?=Xp s/\s.k=k/\i<ws.length:=by unfold gv at h;grind
theorem KV{ws:List fE}{s:fE}(h:ws[i]?=Xp s):gv g ws (g+i)=Xp s.k:=by unfold gv;simp_all
theorem jP(g:Nat)(ws:List fE)(v:Xr):(da g ws v).heap.size=g+ws.length:=by simp[da]
theorem uX{ws:List fE}{s:fE}(h:ws[i]?=Xp s):(da g ws v).heap[g+i]?=Xp s.obj:=by show(Array.replicate g _++_)[g+i]?=_;grind
theorem BB{ws:List fE}{b:Nat}(h:b<g):(da g ws v).heap[b]?=Xp (.cells #[] 0):=by show(Array.replicate g _++_)[b]?=_;grind
theorem bP{ws:List fE}{o:Nat}{s:fE}(h:ws[i]?=Xp s)(a:s.x[o]?=Xp u):(da g ws v).cell? ⟨g+i,o,Xv⟩=Xp u:=by simp[Xr.cell?,uX h,fE.obj,a]
structure oy(P:XN)(fns:XO->Bool)(ws:List fE)(v:Xr):Prop where
 iy:P.globals.size<=v.heap.size
 bad:P.info? wT=Xv
 at_:∀(i:Nat)(s:fE),ws[i]?=Xp s->∃(x':Array Xu)(t':XI)(fr:Nat×Nat),v.heap[s.k]?=Xp (.cells x' t' fr)/\s.x.size<=x'.size/\(s.low=0->s.t=t')/\
  ∀(j:Nat)(u u':Xu),s.low<=j->s.x[j]?=Xp u->x'[j]?=Xp u'->ai (dr P fns ws) (gv P.globals.size ws) u u'
theorem oy.rel{ws:List fE}(h:oy P fns ws v):cC (dr P fns ws) (gv P.globals.size ws) (da P.globals.size ws v) v:=by refine⟨λb k e=>?_,λb k e=>?_,λb D k e w=>?_,λb g=>?_,λb g _=>BB g,λb k e=>?_,rfl,rfl,λb g=>?_,λb k e q=>?_,?_⟩;{obtain⟨i,s,rfl,f,y,m⟩:=eF e;rw[jP];omega};{obtain⟨i,s,rfl,f,rfl,m⟩:=eF e;obtain⟨C,t,o,p,-⟩:=h.at_ i s f;grind};{obtain⟨i,s,rfl,f,y,m⟩:=eF e;obtain⟨I,J,rfl,x,z,A⟩:=eF w;exact .inr ⟨⟨Vj _ _,by omega⟩,⟨Vj _ _,by omega⟩⟩};{show(if b<P.globals.size then 0 else _)=0;split;{rfl};rename_i H;(have:ws[b-P.globals.size]?=Xv:=by rw[List.getElem?_eq_none_iff];have:¬(P.globals.size<=b/\b<P.globals.size+ws.length):=g;omega);simp_all};{obtain⟨i,s,rfl,f,rfl,m⟩:=eF e;obtain⟨C,t,o,p,B,E,F⟩:=h.at_ i s f;rw[uX f,p];(have l:(dr P fns ws).low (P.globals.size+i)=s.low:=by show(if _<_ then 0 else _)=_;grind);refine .seen _ t o ⟨Vj _ _,by omega⟩ ?_ B ⟨λn=>?_,λn=>?_⟩ λj u K a b d=>?_;{show _<=(if _<_ then 0 else _);grind};{simp_all};{rw[l]at n;rw[if_neg n];exact⟨rfl,Vj _ _⟩};grind};{rw[jP];exact g.2};{obtain⟨i,s,rfl,f,rfl,m⟩:=eF e;have q:P.globals.size+i<P.globals.size:=q;omega};exact⟨by rw[jP];show P.globals.size<=_;omega,h.iy⟩
theorem gX{ws:List fE}{off:Nat}{s:fE}(h:ws[i]?=Xp s)(a:s.low<=off):dw (dr P fns ws) (gv P.globals.size ws) ⟨P.globals.size+i,off,Xv⟩ ⟨s.k,off,Xv⟩:=by refine⟨KV h,rfl,rfl,?_⟩;(have b:¬(P.globals.size+i<P.globals.size):=by omega);show(if P.globals.size+i<P.globals.size then 0 else((ws[P.globals.size+i-P.globals.size]?).map λs=>s.low).getD 0)<=off;grind
section
theorem De{fr:XF}(h:xD fr cs)(e:lone fr cs w=k7 s' w'):False:=by obtain⟨-,rfl,rfl⟩:=e;rcases h with⟨f,t,k,b,d,h,-⟩|⟨-,h⟩;{simp only[b8,XF.mk.injEq]at h;have:=h.2.2.2.2.1;cases a:s'.ret<;>rw[a]at this<;>simp[md]at this};simp at h
theorem mJ:∀(n:Nat){fr:XF}{cs:List XF}{w:Xr},xD fr cs->∀{s':cy}{w':Xr},runN P n (lone fr cs w)=.next (k7 s' w')->False:=by intro n;induction n with|zero=>intro fr cs w h s' w' e;simp only[runN,Stepped.next.injEq]at e;exact De h e|succ n i=>intro fr cs w h s' w' e;simp only[runN]at e;rcases vg (P:=P) h w with⟨d,a,f,b,g⟩|⟨o,f,b⟩;{simp_all};simp_all
theorem Bs(h:PV (XA P Xq (s.g [ej]) w))(e:runN P (n+1) (k7 s w)=.next (k7 s' w')):False:=by simp only[runN]at e;rcases h with⟨o,a,h⟩|⟨f,t,k,b,i,a,j,h,d,g⟩;{rw[show step P (k7 s w)=.ended o a from step_lone_ended h]at e;cases e};rw[gk h]at e;exact mJ n (.inl ⟨f,t,k,b,i,rfl,rfl,d,g⟩) e
theorem Bu(m:EV s)(e:runN P (n+1) (k7 s w)=.next (k7 s' w')):False:=by obtain⟨f,t,k,p,y⟩:=s;obtain⟨d,g⟩:=m;subst d g;have i:xD ej []:=.inr ⟨.inr (.inl rfl),rfl⟩;have a:∀v,ej.finish v=ej:=λv=>rfl;simp only[runN]at e;cases b:P.funcs[f]? with|none=>rw[gk ((bJ b).trans (by rw[a]))]at e;exact mJ n i e|some l=>cases j:(results l t).run P w with|halt h q=>obtain⟨o,r,h⟩:=cX b j;rw[show step P (k7 ⟨f,t,k,Xq,[]⟩ w)=.ended o r from step_lone_ended h]at e;cases e|ok u q=>rw[gk ((aR b j).trans (by rw[a]))]at e;exact mJ n i e
theorem Jt(h:k7 s w=k7 s' w'):s=s'/\w=w':=by simp only[k7,lone,Machine.mk.injEq,Array.mk.injEq,VH,Xz.mk.injEq]at h;obtain⟨a,b,d⟩:=h;refine⟨I0 ?_,a⟩;simp only[cy.g,G,b,d]
inductive iX(P:XN)(Good:cy->Xr->Prop):cy->Xr->Prop
 |done{s:cy}{w:Xr}:(∀T D,Good s (re w T D))->iX P Good s w
 |step{s:cy}{w:Xr}:¬Good s w->¬EV s->(∀T D,∃s1 w1,bV P s (re w T D) s1 w1)->(∀T D s1 w1,bV P s (re w T D) s1 w1->iX P Good s1 w1)->iX P Good s w
section bar
variable(P)(Good:cy->Xr->Prop)
noncomputable def k6(p:cy×Xr):(Nat->Yi->Nat)×Nat:=open Classical in
 if h:∃a:(Nat->Yi->Nat)×Nat,∀s1 w1,bV P p.1 (re p.2 a.1 a.2) s1 w1->¬iX P Good s1 w1 then Classical.choose h else(λ_ _=>0,0)
def gY(p:cy×Xr):Prop:=¬EV p.1/\∃q:cy×Xr,bV P p.1 (re p.2 (k6 P Good p).1 (k6 P Good p).2) q.1 q.2
noncomputable def sT(p:cy×Xr):cy×Xr:=open Classical in if h:gY P Good p then Classical.choose h.2 else p
noncomputable def cV(p:cy×Xr):Nat->cy×Xr
 |0=>p
 |i+1=>sT P Good (cV p i)
noncomputable def jy(p:cy×Xr):Nat->Nat
 |0=>0
 |i+1=>open Classical in if gY P Good (cV P Good p i)then jy p i+((cV P Good p (i+1)).2.drawn-(k6 P Good (cV P Good p i)).2)else jy p i
def DN(p:cy×Xr)(i n:Nat):Prop:=jy P Good p i<=n/\(n<jy P Good p (i+1)\/¬gY P Good (cV P Good p i))
noncomputable def p5(p:cy×Xr)(n:Nat)(q:Yi):Nat:=open Classical in
 if h:∃i,DN P Good p i n then(k6 P Good (cV P Good p (Classical.choose h))).1 ((k6 P Good (cV P Good p (Classical.choose h))).2+(n-jy P Good p (Classical.choose h))) q else 0
end bar
section bar
variable{Good:cy->Xr->Prop}{p:cy×Xr}
theorem Ep(f:∀s w T D,Good s w->Good s (re w T D))(l:¬iX P Good s w)(n:¬EV s):∀d e,bV P s (re w (k6 P Good (s,w)).1 (k6 P Good (s,w)).2) d e->¬iX P Good d e:=by(have h:∃a:(Nat->Yi->Nat)×Nat,∀d e,bV P s (re w a.1 a.2) d e->¬iX P Good d e:=by refine Vq λk=>l ?_;refine .step (λm=>l (.done λT D=>f _ _ T D m)) n (λT D=>?_) (λT D d e i=>?_);{refine Vq λg=>k ⟨(T,D),λd e i=>absurd ⟨d,e,i⟩ g⟩};refine Vq λg=>k ⟨(T,D),λo q j=>?_⟩;obtain⟨rfl,rfl⟩:=i.O4 j;exact g);unfold k6;grind
theorem uP(h:gY P Good p):bV P p.1 (re p.2 (k6 P Good p).1 (k6 P Good p).2) (sT P Good p).1 (sT P Good p).2:=by unfold sT;grind
theorem uV(h:¬gY P Good p):sT P Good p=p:=by unfold sT;simp_all
theorem qk(h:gY P Good (cV P Good p i)):jy P Good p (i+1)=jy P Good p i+((cV P Good p (i+1)).2.drawn-(k6 P Good (cV P Good p i)).2):=by exact@if_pos _ (Classical.propDecidable _) h _ _ _
theorem uW(h:¬gY P Good (cV P Good p i)):jy P Good p (i+1)=jy P Good p i:=by exact@if_neg _ (Classical.propDecidable _) h _ _ _
theorem ET(h:i<=j):jy P Good p i<=jy P Good p j:=by induction h with|refl=>omega|@step m _ b=>by_cases a:gY P Good (cV P Good p m);{rw[qk a];omega};rw[uW a];omega
theorem AN(h:i<=j)(d:¬gY P Good (cV P Good p i)):cV P Good p j=cV P Good p i/\jy P Good p j=jy P Good p i:=by induction h with|refl=>simp|@step m _ b=>(have a:¬gY P Good (cV P Good p m):=by simp_all);exact⟨(uV a).trans b.1,(uW a).trans b.2⟩
theorem CC(h:DN P Good p i n)(q:Yi):p5 P Good p n q=(k6 P Good (cV P Good p i)).1 ((k6 P Good (cV P Good p i)).2+(n-jy P Good p i)) q:=by(have g:∀{i j:Nat},i<=j->DN P Good p i n->DN P Good p j n->cV P Good p j=cV P Good p i/\jy P Good p j=jy P Good p i:=by intro i j a e f;by_cases d:gY P Good (cV P Good p i);{rcases Nat.eq_or_lt_of_le a with rfl|b;{simp};have:=ET (P:=P) (Good:=Good) (p:=p) (show i+1<=j from b);rcases e.2 with h|h;{have:=f.1;omega};simp_all};exact AN a d);have k:∃i,DN P Good p i n:=⟨i,h⟩;unfold p5;grind
variable(hl:Listed P c gl)(hGood:∀s w T D,Good s w->Good s (re w T D))
include hl hGood
theorem ua(j:Fit P c gl p.1 p.2)(k:¬iX P Good p.1 p.2):∀i,Fit P c gl (cV P Good p i).1 (cV P Good p i).2/\¬iX P Good (cV P Good p i).1 (cV P Good p i).2:=by intro i;induction i with|zero=>exact⟨j,k⟩|succ i b=>show Fit P c gl (sT P Good (cV P Good p i)).1 (sT P Good (cV P Good p i)).2/\¬iX P Good (sT P Good (cV P Good p i)).1 (sT P Good (cV P Good p i)).2;by_cases h:gY P Good (cV P Good p i);{have a:=uP h;refine⟨?_,Ep hGood b.2 h.1 _ _ a⟩;rcases(b.1.re _ _).step hl (λe d=>h.1 ⟨e,d⟩)with⟨o,q,f,n⟩|g;{obtain⟨l,m⟩:=f.O4 a;simp_all};exact(g.not a).elim};rw[uV h];exact b
theorem Dc(g:Fit P c gl p.1 p.2)(k:¬iX P Good p.1 p.2)(h:gY P Good (cV P Good p i)):bV P (cV P Good p i).1 (re (cV P Good p i).2 (p5 P Good p) (jy P Good p i)) (cV P Good p (i+1)).1 (re (cV P Good p (i+1)).2 (p5 P Good p) (jy P Good p (i+1))):=by have l:=uP h;obtain⟨m,n,d⟩:=l.tape hl ((ua hl hGood g k i).1.re _ _) (λe b=>h.1 ⟨e,b⟩);have a:(cV P Good p (i+1))=sT P Good (cV P Good p i):=rfl;(have:=d (p5 P Good p) (jy P Good p i) λj q o=>by have f:DN P Good p i (jy P Good p i+j):=⟨Vj ..,.inl (by rw[qk h,a];have:(re (cV P Good p i).2 (k6 P Good (cV P Good p i)).1 (k6 P Good (cV P Good p i)).2).drawn=(k6 P Good (cV P Good p i)).2:=rfl;omega)⟩;rw[CC f];show _=(k6 P Good (cV P Good p i)).1 ((k6 P Good (cV P Good p i)).2+j) q;simp);rw[qk h,a];exact this
theorem zr(a:Fit P c gl p.1 p.2)(b:¬iX P Good p.1 p.2):∀i,(∀l,l<i->gY P Good (cV P Good p l))->runN P i (k7 p.1 (re p.2 (p5 P Good p) 0))=.next (k7 (cV P Good p i).1 (re (cV P Good p i).2 (p5 P Good p) (jy P Good p i))):=by intro i;induction i with|zero=>intro _;rfl|succ i d=>intro h;rw[runN_add (d λl hl=>h l Ω)];exact zd (Dc hl hGood a b (h i Ω)).Re
theorem ui(E:Fit P c gl s w)(H:∀T,∃n s' w',runN P n (k7 s (re w T 0))=.next (k7 s' w')/\Good s' w'):iX P Good s w:=by refine Vq λJ=>?_;have d:Fit P c gl (s,w).1 (s,w).2:=E;have f:=J;obtain⟨n,s',w',x,F⟩:=H (p5 P Good (s,w));by_cases o:∀l,l<n->gY P Good (cV P Good (s,w) l);{have:=zr hl hGood d f n o;rw[show k7 (s,w).1 (re (s,w).2 (p5 P Good (s,w)) 0)=k7 s (re w (p5 P Good (s,w)) 0)from rfl,x]at this;obtain⟨b,g⟩:=ua hl hGood d f n;obtain⟨y,L⟩:=Jt (Stepped.next.inj this);refine g (.done λT D=>?_);have:=hGood _ _ T D F;simp_all};(have:∃i,i<n/\¬gY P Good (cV P Good (s,w) i)/\∀l,l<i->gY P Good (cV P Good (s,w) l):=by(have v:∃i,i<n/\¬gY P Good (cV P Good (s,w) i):=by simp_all);obtain⟨i,N⟩:=v;induction i using Nat.strongRecOn with|_ i O=>grind);obtain⟨i,I,a,m⟩:=this;have z:=zr hl hGood d f i m;obtain⟨k,rfl⟩:∃k,n=i+(k+1):=⟨n-i-1,by omega⟩;have u:=runN_add (k:=k+1) z;rw[show k7 (s,w).1 (re (s,w).2 (p5 P Good (s,w)) 0)=k7 s (re w (p5 P Good (s,w)) 0)from rfl,x]at u;obtain⟨b,g⟩:=ua hl hGood d f i;by_cases r:EV (cV P Good (s,w) i).1;{exact Bu r u.symm};rcases(b.re (p5 P Good (s,w)) (jy P Good (s,w) i)).step hl (λe t=>r ⟨e,t⟩)with⟨K,Q,A,M⟩|C;{obtain⟨-,-,B⟩:=A.tape hl (b.re _ _) (λe t=>r ⟨e,t⟩);(have:=B (k6 P Good (cV P Good (s,w) i)).1 (k6 P Good (cV P Good (s,w) i)).2 λj q _=>by show _=p5 P Good (s,w) (jy P Good (s,w) i+j) q;rw[CC ⟨Vj ..,.inr a⟩,WX]);exact a ⟨r,(K,_),this⟩};exact Bs C u.symm
end bar
end
def R0:X3:=.code (.refuse "")
def E5(live:Nat->Bool):XR->Bool
 |.tmp i=>live i
 |_=>Xq
def om(live:Nat->Bool)(o:Yk):Bool:=o.op.operands.all (E5 live)&&(match o.dst with|some d=>live d|none=>Xq)
def mZ(live:Nat->Bool)(ops:Array Yk)(o:Yk):Bool:=match o.guard with|none=>Xq|some (j,_)=>(match(ops[j]?).bind (·.dst)with|some d=>live d|none=>Xq)
def sc(live:Nat->Bool)(ops:Array Yk)(i:Nat):Bool:=match ops[i]? with|some o=>om live o&&mZ live ops o|none=>Xq
theorem yS(h:ops.all (λo=>om live o&&mZ live ops o)=Xq)(l:List Nat):l.all (sc live ops)=Xq:=by rw[U8];intro i _;unfold sc;grind
def fV(live:Nat->Bool):Yl->Bool
 |.region _ ops _=>ops.all (λo=>om live o&&mZ live ops o)
 |.seq a b=>fV live a&&fV live b
 |.cond x a b=>E5 live x&&fV live a&&fV live b
 |.block _ a|.loop a|.scope a=>fV live a
 |.ret=>WN
 |_=>Xq
def cT(live:Nat->Bool):X3->Bool
 |.code a|.inLoop a|.inScope a=>fV live a
 |.inRegion ops l=>l.all (sc live ops)
 |_=>Xq
structure de where
 f:XO
 defers:List X5
 kind:Yn
 roundOf:Option Nat
 l2:Option (Array Yk×List Nat)
 tail:List X3
 live:Nat->Bool
 t0:Array Xu
def de.ov(d:de)(t:Array Xu):Array Xu:=t.mapIdx λi v=>if d.live i then v else d.t0.getD i XD
def de.bot(d:de)(t:Array Xu)(k':List X3):XF:={fn:=d.f,tmps:=d.ov t,todo:=k',defers:=d.defers,mode:=.run,kind:=d.kind,roundOf:=d.roundOf}
inductive Gl(d:de):List X3->List X3->Prop
 |app{init:List X3}:d.l2=Xv->init.all (cT d.live)=Xq->Gl d (init++[R0]) (init++d.tail)
 |reg{ops:Array Yk}{l1 l2:List Nat}:d.l2=Xp (ops,l2)->l1.all (sc d.live ops)=Xq->Gl d [.inRegion ops l1,R0] (.inRegion ops (l1++l2)::d.tail)
 |fin{ops:Array Yk}{l2:List Nat}:d.l2=Xp (ops,l2)->Gl d [R0] (.inRegion ops l2::d.tail)
def de.end(d:de)(k:List X3):Prop:=k=[R0]\/(d.l2.isSome=Xq/\∃ops,k=[.inRegion ops [],R0])
inductive JH(d:de):Bool->XO×Array Xu×List X3->XF->Prop
 |up{f:XO}{t:Array Xu}{k:List X3}:JH d WN (f,t,k) (b8 f t k .run)
 |bot{t:Array Xu}{k k':List X3}:Gl d k k'->JH d Xq (d.f,t,k) (d.bot t k')
theorem Jw{d:de}(h:d.live i=Xq):(d.ov t).getD i XD=t.getD i XD:=by simp only[de.ov,UH,V5];simp_all
theorem PI{d:de}(h:d.live i=Xq):(d.ov t)[i]?=t[i]?:=by simp only[de.ov,V5];simp_all
theorem OI{d:de}(h:d.live i=Xq)(v:Xu):(d.ov t).setIfInBounds i v=d.ov (t.setIfInBounds i v):=by apply Vx;intro j;simp only[de.ov,VM,V5,Wz];grind
theorem CY{d:de}{m:FrameMode}(x:XR)(h:E5 d.live x=Xq):(d.bot t k').eval x=(b8 f t k m).eval x:=by cases x with|tmp i=>exact Jw h|_=>rfl
theorem execOp_congr{ev ev':XR->Xu}(f:∀cs b,o.op≠.select cs b)(h:∀x∈o.op.operands,ev x=ev' x):XE ev o=XE ev' o:=by have m:∀(l:Array XR),(∀x∈l,ev x=ev' x)->l.map ev=l.map ev':=λl d=>X4 d;(have s:∀(x:Option XR),(∀y∈x,ev y=ev' y)->x.map ev=x.map ev':=λx d=>by cases x with|none=>rfl|some y=>simp_all);(have u:∀(j:Array (Nat×XR)),(∀p∈j,ev p.2=ev' p.2)->(j.map λ(i,x)=>(i,ev x))=(j.map λ(i,x)=>(i,ev' x)):=λj d=>X4 λp g=>by grind);(have v:∀(k:Call)(t:XI),(∀x∈k.operands,ev x=ev' x)->resolve ev k t=resolve ev' k t:=λk t d=>by obtain⟨a,e,q⟩:=k;have r:e.map ev=e.map ev':=m _ λx n=>d x (by cases a<;>simp[Call.operands,n]);unfold resolve;cases a<;>simp only[r];{rw[d _ (by simp[Call.operands])]};rw[d _ (by simp[Call.operands])]);unfold XE;revert h f;(cases o.op<;>intro f h<;>simp only[Op.operands]at h<;>first|rfl|(simp only[List.mem_toArray,UI,Vg,or_false,forall_eq,forall_eq_or_imp]at h;simp only[h];done)|(simp only[];rw[u _ (λp g=>h _ (by simp only[List.mem_toArray,UK];exact⟨p,by simpa using g,rfl⟩))];done)|(simp only[];rw[m _ (λx d=>h x (Va.2 (.inl d))),m _ (λx d=>h x (Va.2 (.inr d)))];done)|(simp only[];rw[s _ (λx d=>h x (by simpa using d))];done)|(simp only[];rw[v _ _ h];done)|(exact absurd rfl (f _ _))|skip);simp_all
section
variable{d:de}{b:Bool}{cs0:List XF}{g1:Xz}{x:X3}
theorem Gl.cons(h:Gl d (x::kr) k')(j:x≠R0):(∃init,d.l2=Xv/\kr=init++[R0]/\k'=x::(init++d.tail)/\cT d.live x=Xq/\init.all (cT d.live)=Xq)\/(∃ops i l,d.l2=Xp (ops,l)/\x=.inRegion ops i/\kr=[R0]/\k'=.inRegion ops (i++l)::d.tail/\i.all (sc d.live ops)=Xq):=by generalize a:x::kr=k at h;cases h with|@app init g e=>(cases init with|nil=>simp at a;exact absurd a.1 j|cons y init=>obtain⟨rfl,rfl⟩:=a;simp only[U6,UE]at e;exact .inl ⟨init,g,rfl,rfl,e.1,e.2⟩)|reg g e=>simp only[VH]at a;exact .inr ⟨_,_,_,g,a.1,a.2,rfl,e⟩|fin g=>simp only[VH]at a;exact absurd a.1 j
theorem Gl.zQ(h:Gl d (x::kr) k')(e:x≠R0)(a:∀ops l,x≠.inRegion ops l):∃init,d.l2=Xv/\kr=init++[R0]/\k'=x::(init++d.tail)/\cT d.live x=Xq/\init.all (cT d.live)=Xq:=by rcases h.cons e with h|⟨ops,g,_,_,h,_⟩;{exact h};exact absurd h (a _ _)
theorem Gl.mk'{init:List X3}(pre:List X3)(a:d.l2=Xv)(e:init.all (cT d.live)=Xq)(g:pre.all (cT d.live)=Xq):Gl d (pre++(init++[R0])) (pre++(init++d.tail)):=by rw[<-VQ,<-VQ];exact .app a (by simp[g,e])
theorem l4{id:Nat}{tail:List X3}{p:X3->Bool}:∀{init k1:List X3},init.all p=Xq->exitTo id (init++[R0])=Xp k1->∃g,k1=g++[R0]/\g.all p=Xq/\exitTo id (init++tail)=Xp (g++tail)|[],_,_,h=>by simp[exitTo,R0]at h|x::l,k1,j,h=>by simp only[U6,UE]at j;rw[Wt]at h;unfold exitTo at h;split at h;{rename_i s u e;cases e;split at h;{rename_i i;cases h;exact⟨l,rfl,j.2,by simp[exitTo,i]⟩};rename_i i;obtain⟨r,m,n,o⟩:=l4 (tail:=tail) j.2 h;exact⟨r,m,n,by simp[exitTo,i,o]⟩};{rename_i y u q e;cases e;obtain⟨r,m,n,o⟩:=l4 (tail:=tail) j.2 h;refine⟨r,m,n,?_⟩;rw[Wt];unfold exitTo;split;{rename_i e;cases e;exact absurd rfl (q _)};{rename_i e;cases e;exact o};rename_i e;cases e};rename_i e;cases e
def After(P:XN)(main:Bool)(d:de)(b:Bool)(f:XO)(t:Array Xu)(k:List X3)(F:XF)(cs0:List XF)(v v':Xr)(g1:Xz)(es:Array Ye):Prop:=
 (∃t1 k1 F1,g1=G (b8 f t1 k1 .run) cs0/\JH d b (f,t1,k1) F1/\∀cs,XA P main (G F cs) v=.go (G F1 cs) v' es)\/
 (∃j t1 k1,g1=G (b8 j t1 k1 .run) (b8 f t k .run::cs0)/\∀cs,XA P main (G F cs) v=.go (G (b8 j t1 k1 .run) (F::cs)) v' es)\/
 (b=WN/\∃k1,g1=G (b8 f t k1 .returning) cs0/\∀cs,XA P main (G F cs) v=.go (G (b8 f t k1 .returning) cs) v' es)
theorem After.ctl(e:XA P main (G (b8 f t k .run) cs0) v=.go g1 v' es)(o:JH d b (f,t,k) F)(L:∀cs,XA P main (G (b8 f t k .run) cs) v=.go (G (b8 f t k1 .run) cs) v #[])(g:b=Xq->∀k',Gl d k k'->∃a,Gl d k1 a/\∀cs,XA P main (G (d.bot t k') cs) v=.go (G (d.bot t a) cs) v #[]):After P main d b f t k F cs0 v v' g1 es:=by rw[L]at e;injection e with i j l;subst i j l;cases o with|up=>exact .inl ⟨t,k1,_,rfl,.up,L⟩|bot h=>obtain⟨a,m,n⟩:=g rfl _ h;exact .inl ⟨t,k1,_,rfl,.bot m,n⟩
theorem After.ret(a:XA P main (G (b8 f t k .run) cs0) v=.go g1 v' es)(j:JH d b (f,t,k) F)(L:∀cs,XA P main (G (b8 f t k .run) cs) v=.go (G (b8 f t k1 .returning) cs) v #[])(l:∀k',¬Gl d k k'):After P main d b f t k F cs0 v v' g1 es:=by rw[L]at a;injection a with e g i;subst e g i;cases j with|up=>exact .inr (.inr ⟨rfl,k1,rfl,L⟩)|bot h=>exact absurd h (l _)
theorem jB(a:(match(ops[i]?).bind (·.dst)with|some j=>d.live j|none=>Xq)=Xq)(u:Xu):(d.bot t (.inRegion ops (i::rest')::kk)).finish u=d.bot (match(ops[i]?).bind (·.dst)with|some j=>t.setIfInBounds j u|none=>t) (.inRegion ops rest'::kk):=by simp only[de.bot,XF.finish];cases e:(ops[i]?).bind (·.dst)with|none=>rfl|some j=>rw[e]at a;simp only at a⊢;rw[OI a]
section op
variable{w1:Xr}
abbrev fB(d:de)(t:Array Xu)(ops:Array Yk)(i:Nat)(rest:List Nat)(kk:List X3):XF:=d.bot t (.inRegion ops (i::rest)::kk)
theorem wV(q:d.kind≠.early)(p:∀c,o.op≠.defer c)(m:ops[i]?=Xp o)(n:Region.wanted o (XM ops (d.ov t))=Xq)(j:(XE (fB d t ops i rest kk).eval o).run P w=.ok (.value u) w1):XA P main (G (fB d t ops i rest kk) cs) w=.go (G ((fB d t ops i rest kk).finish u) cs) w1 (seen P d.f ((XE (fB d t ops i rest kk).eval o).events P w #[])):=by simp only[de.bot]at j;(have a:=by simpa using q);cases g:d.roundOf with|none=>simp[G,XA,XA.exec,XA.oper,XA.apply,XF.oper?,de.bot,m,n,g,a];rw[<-g,j];simp[GStep.after]|some l=>simp only[G,XA,XA.exec,XA.oper,XF.oper?,de.bot,m,n,UN,U9,if_true];split;{rename_i e;exact absurd e (p _)};simp[XA.apply,j,GStep.after,a]
theorem zT(q:d.kind≠.early)(p:∀c,o.op≠.defer c)(m:ops[i]?=Xp o)(n:Region.wanted o (XM ops (d.ov t))=Xq)(j:(XE (fB d t ops i rest kk).eval o).run P w=.ok .skip w1):XA P main (G (fB d t ops i rest kk) cs) w=.go (G ((fB d t ops i rest kk).finish XD) cs) w1 (seen P d.f ((XE (fB d t ops i rest kk).eval o).events P w #[])):=by simp only[de.bot]at j;(have a:=by simpa using q);cases g:d.roundOf with|none=>simp[G,XA,XA.exec,XA.oper,XA.apply,XF.oper?,de.bot,m,n,g,a];rw[<-g,j];simp[GStep.after]|some l=>simp only[G,XA,XA.exec,XA.oper,XF.oper?,de.bot,m,n,UN,U9,if_true];split;{rename_i e;exact absurd e (p _)};simp[XA.apply,j,GStep.after,a]
theorem xp{j:XO}(r:d.kind≠.early)(q:∀c,o.op≠.defer c)(n:ops[i]?=Xp o)(p:Region.wanted o (XM ops (d.ov t))=Xq)(m:(XE (fB d t ops i rest kk).eval o).run P w=.ok (.enter j args) w1):XA P main (G (fB d t ops i rest kk) cs) w=.go (G (XF.enter P j args .normal) (fB d t ops i rest kk::cs)) w1 (seen P d.f ((XE (fB d t ops i rest kk).eval o).events P w #[])):=by simp only[de.bot]at m;(have a:=by simpa using r);cases g:d.roundOf with|none=>simp[G,XA,XA.exec,XA.oper,XA.apply,XF.oper?,de.bot,n,p,g,a];rw[<-g,m];simp[GStep.after]|some l=>simp only[G,XA,XA.exec,XA.oper,XF.oper?,de.bot,n,p,UN,U9,if_true];split;{rename_i e;exact absurd e (q _)};simp[XA.apply,m,GStep.after,a]
theorem q9(h:((ops[i]?).map (Region.wanted · (XM ops (d.ov t)))).getD WN=WN):XA P main (G (fB d t ops i rest kk) cs) w=.go (G ((fB d t ops i rest kk).finish XD) cs) w #[]:=by simp only[G,XA,XA.exec,de.bot,h,U0,if_false]
end op
theorem vj(h:mZ d.live ops o=Xq):Region.wanted o (XM ops (d.ov t))=Region.wanted o (XM ops t):=by unfold Region.wanted;unfold mZ at h;cases g:o.guard with|none=>rfl|some p=>obtain⟨j,b⟩:=p;rw[g]at h;simp only at h⊢;unfold XM;cases e:(ops[j]?).bind (·.dst)with|none=>rfl|some i=>rw[e]at h;simp only[VD];rw[PI h]
theorem kK(h:sc live ops i=Xq)(a:ops[i]?=Xp o):om live o=Xq/\mZ live ops o=Xq:=by unfold sc at h;rw[a]at h;simpa using h
theorem HV(h:sG P c gl o=Xq):(∀cs b,o.op≠.select cs b)/\∀k,o.op≠.defer k:=by constructor;{intro a b e;rw[sG,e]at h;simp at h};intro a e;rw[sG,e]at h;simp at h
theorem Ih(j:XO)(x:Array Xu):∃e k1,XF.enter P j x .normal=b8 j e k1 .run:=by cases a:P.funcs[j]? with|none=>exact⟨_,_,n5 x a⟩|some g=>exact⟨_,_,gB x a⟩
def Uo:Next->Prop
 |.value _|.skip|.enter _ _=>True
 |_=>False
def AD(P:XN)(f:XO)(t:Array Xu)(k:List X3)(v:Xr):Prop:=
 ∀ops i rest kk o,k=.inRegion ops (i::rest)::kk->ops[i]?=Xp o->Region.wanted o (XM ops t)=Xq->∃n w1,(XE (nF f t ops i rest kk).eval o).run P v=.ok n w1/\Uo n
theorem JH.step(D:XA P main (G (b8 f t k .run) cs0) v=.go g1 v' es)(Z:k.all (aW P c gl)=Xq)(R:JH d b (f,t,k) F)(he:d.kind≠.early)(hend:b=Xq->¬d.end k)(hrun:AD P f t k v)(hp:∀ch,g1.frame.mode≠.panicking ch):After P main d b f t k F cs0 v v' g1 es:=by cases k with|nil=>refine After.ret (k1:=[]) D R (λp=>by simp[G,XA,XA.exec,b8]) λk' h=>?_;generalize Z:([]:List X3)=k at h;(cases h with|app _ _=>simp at Z|reg _ _=>simp at Z|fin _=>simp at Z)|cons x kr=>simp only[U6,UE]at Z;obtain⟨V,hkr⟩:=Z;(have q:∀(Q:List X3),x≠R0->(∀g l,x≠.inRegion g l)->(cT d.live x=Xq->Q.all (cT d.live)=Xq)->(∀(kr:List X3)p,XA P main (G (b8 f t (x::kr) .run) p) v=.go (G (b8 f t (Q++kr) .run) p) v #[])->(∀(kr:List X3)p,XA P main (G (d.bot t (x::kr)) p) v=.go (G (d.bot t (Q++kr)) p) v #[])->After P main d b f t (x::kr) F cs0 v v' g1 es:=by intro Q U O h3 h4 h5;refine After.ctl (k1:=Q++kr) D R (h4 kr) λ_ k' h=>?_;obtain⟨z,A,B,C,I,N⟩:=h.zQ U O;subst B C;exact⟨_,.mk' Q A N (h3 I),h5 _⟩);cases x with|code a=>(cases a with|skip=>exact q [] (by simp[R0]) Θ (λ_=>rfl) (λkr p=>by simp[G,XA,XA.exec,b8]) (λkr p=>by simp[G,XA,XA.exec,de.bot])|label l=>exact q [] (by simp[R0]) Θ (λ_=>rfl) (λkr p=>by simp[G,XA,XA.exec,b8]) (λkr p=>by simp[G,XA,XA.exec,de.bot])|ret=>refine After.ret D R (λp=>ot) λk' h=>?_;obtain⟨z,_,_,_,h4,_⟩:=h.zQ (by simp[R0]) Θ;simp[cT,fV]at h4|seq a b=>exact q [.code a,.code b] (by simp[R0]) Θ (λh=>by simpa[cT,fV]using h) (λkr p=>by simp[G,XA,XA.exec,b8]) (λkr p=>by simp[G,XA,XA.exec,de.bot])|block id a=>exact q [.code a,.inBlock id] (by simp[R0]) Θ (λh=>by simpa[cT,fV]using h) (λkr p=>by simp[G,XA,XA.exec,b8]) (λkr p=>by simp[G,XA,XA.exec,de.bot])|loop a=>exact q [.code a,.inLoop a] (by simp[R0]) Θ (λh=>by simpa[cT,fV]using h) (λkr p=>by simp[G,XA,XA.exec,b8]) (λkr p=>by simp[G,XA,XA.exec,de.bot])|scope a=>exact q [.code a,.inScope a] (by simp[R0]) Θ (λh=>by simpa[cT,fV]using h) (λkr p=>lu) (λkr p=>by simp[G,XA,XA.exec,de.bot])|refuse why=>have:∃o w,XA P main (G (b8 f t (.code (.refuse why)::kr) .run) cs0) v=.ended o w #[]:=⟨_,v,by simp[G,XA,XA.exec,b8];rfl⟩;obtain⟨o,w,e⟩:=this;rw[e]at D;cases D|exit id=>(cases X:exitTo id kr with|none=>rw[iQ X]at D;cases D|some k1=>refine After.ctl (k1:=k1) D R (λp=>by simp[G,XA,XA.exec,b8,X]) λ_ k' h=>?_;obtain⟨z,A,B,C,I,N⟩:=h.zQ (by simp[R0]) Θ;subst B C;obtain⟨i1,f1,f2,f3⟩:=l4 (tail:=d.tail) N X;subst f1;exact⟨_,.app A f2,λp=>by simp[G,XA,XA.exec,de.bot,f3]⟩)|cond y a Y=>(cases hv:(b8 f t (.code (.cond y a Y)::kr) .run).eval y with|bool u=>refine After.ctl (k1:=.code (if u then a else Y)::kr) D R (λp=>jX hv) λ_ k' h=>?_;obtain⟨z,A,B,C,I,N⟩:=h.zQ (by simp[R0]) Θ;subst B C;simp only[cT,fV,UE]at I;refine⟨_,.mk' [.code (if u then a else Y)] A N (by cases u<;>simp[cT,I]),λp=>?_⟩;have:=CY (d:=d) (t:=t) (k:=.code (.cond y a Y)::(z++[R0])) (k':=.code (.cond y a Y)::(z++d.tail)) (f:=f) (m:=.run) y I.1.1;rw[hv]at this;simp only[de.bot]at this;simp[G,XA,XA.exec,de.bot,this]|_=>obtain⟨o,w2,e⟩:=jO (P:=P) (main:=main) (cs:=cs0) (w:=v) (f:=f) (t:=t) (x:=y) (a:=a) (b:=Y) (k:=kr) (λu e=>by rw[hv]at e;cases e);rw[D]at e;cases e)|region id g draw=>(cases draw with|false=>exact q [.inRegion g (List.range g.size)] (by simp[R0]) Θ (λh=>by simp only[cT,fV]at h;simp only[U6,WI,cT,yS h,VY]) (λkr p=>by simp[G,XA,XA.exec,b8]) (λkr p=>by simp[G,XA,XA.exec,de.bot])|true=>have L:=λp=>kl (P:=P) (main:=main) (f:=f) (t:=t) (id:=id) (ops:=g) (k:=kr) (cs:=p) (w:=v);rw[L]at D;cases hc:(choose (.order f id)).run P v with|halt h w1=>rw[hc]at D;cases D|ok u w1=>rw[hc]at D;simp only at D;injection D with A B C;subst A B C;cases R with|up=>exact .inl ⟨t,_,_,rfl,.up,λp=>by rw[L,hc]⟩|bot h=>obtain⟨z,A,B,C,I,N⟩:=h.zQ (by simp[R0]) Θ;subst B C;refine .inl ⟨t,_,_,rfl,.bot (.mk' [.inRegion g (Region.schedule (P.follows .mixedOrders) g u)] A N (by simp only[cT,fV]at I;simp only[U6,WI,cT,yS I,VY])),λp=>?_⟩;simp only[G,XA,XA.exec,de.bot,Bool.not_true,U0,if_false,hc];rfl)|rangeFunc _ _ _ _=>simp[aW,codeOk]at V|goto l=>simp[aW,codeOk]at V)|inBlock id=>exact q [] (by simp[R0]) Θ (λ_=>rfl) (λkr p=>by simp[G,XA,XA.exec,b8]) (λkr p=>by simp[G,XA,XA.exec,de.bot])|inLoop a=>exact q [.code a,.inLoop a] (by simp[R0]) Θ (λh=>by simpa[cT]using h) (λkr p=>by simp[G,XA,XA.exec,b8]) (λkr p=>by simp[G,XA,XA.exec,de.bot])|inScope a=>exact q [] (by simp[R0]) Θ (λ_=>rfl) (λkr p=>jE) (λkr p=>by simp[G,XA,XA.exec,de.bot])|inRegion g l=>(cases l with|nil=>refine After.ctl (k1:=kr) D R (λp=>by simp[G,XA,XA.exec,b8]) λhb k' h=>?_;rcases h.cons (by simp[R0])with⟨z,A,B,C,I,N⟩|⟨ops',l1,l2,A,B,C,I,N⟩;{subst B C;exact⟨_,.app A N,λp=>by simp[G,XA,XA.exec,de.bot]⟩};exact absurd (by unfold de.end;rw[A];cases B;exact .inr ⟨rfl,_,by rw[C]⟩) (hend hb)|cons i s=>have hops:(i::s).all (opAt P c gl g)=Xq:=V;(have hB:∀k',b=Xq->Gl d (.inRegion g (i::s)::kr) k'->∃r E,k'=.inRegion g (i::r)::E/\Gl d (.inRegion g s::kr) (.inRegion g r::E)/\sc d.live g i=Xq:=by intro k' _ h;rcases h.cons (by simp[R0])with⟨z,A,B,C,I,N⟩|⟨ops',l1,l2,A,B,C,I,N⟩;{subst B C;simp only[cT,U6,UE]at I;exact⟨s,_,rfl,.mk' [.inRegion g s] A N (by simp only[U6,WI,cT,I.2,VY]),I.1⟩};cases B;subst C I;simp only[U6,UE]at N;exact⟨s++l2,_,rfl,.reg A N.2,N.1⟩);cases M:((g[i]?).map (Region.wanted · (XM g t))).getD WN with|false=>have L:=λp=>stepG_unwanted (P:=P) (main:=main) (f:=f) (cs:=p) (k:=kr) (rest:=s) (w:=v) M;rw[L]at D;injection D with A B C;subst A B C;(cases R with|up=>exact .inl ⟨_,_,_,by rw[cK],.up,λp=>by rw[L,cK]⟩|bot h=>obtain⟨r,E,rfl,U,O⟩:=hB _ rfl h;refine .inl ⟨_,_,_,by rw[cK],.bot U,λp=>?_⟩;(have hl:(match(g[i]?).bind (·.dst)with|some j=>d.live j|none=>Xq)=Xq:=by cases K:g[i]? with|none=>rfl|some o=>have:=(kK O K).1;simp only[om,UE]at this;cases hd:o.dst<;>simp only[VD,hd];rw[hd]at this;exact this.2);exact(q9 (by cases K:g[i]? with|none=>rfl|some o=>rw[K]at M;simp only[UN,U9]at M⊢;rw[vj (kK O K).2];exact M)).trans (congrArg (λF=>GStep.go (G F p) v #[]) (jB hl XD)))|true=>cases K:g[i]? with|none=>rw[K]at M;simp at M|some o=>rw[K]at M;(have H:Region.wanted o (XM g t)=Xq:=by simpa using M);obtain⟨n,w1,hr,hshp⟩:=hrun g i s kr o rfl K H;have hok:sG P c gl o=Xq:=mR hops K;obtain⟨hsel,S⟩:=HV hok;(have W:∀r E,b=Xq->sc d.live g i=Xq->XE (fB d t g i r E).eval o=XE (nF f t g i s kr).eval o/\Region.wanted o (XM g (d.ov t))=Xq/\(match(g[i]?).bind (·.dst)with|some j=>d.live j|none=>Xq)=Xq:=by intro r E _ O;have hl:=(kK O K).1;simp only[om,UE]at hl;refine⟨execOp_congr hsel λx hxx=>CY x ?_,by rw[vj (kK O K).2];exact H,?_⟩;{have:=hl.1;rw[V4]at this;exact this x hxx};rw[K];cases hd:o.dst<;>simp only[VD,hd];rw[hd]at hl;exact hl.2);cases n with|value u=>have L:=λp=>jh (P:=P) (main:=main) (cs:=p) K H hr;rw[L]at D;injection D with A B C;subst A B C;(cases R with|up=>exact .inl ⟨_,_,_,by rw[cK],.up,λp=>by rw[L,cK]⟩|bot h=>obtain⟨r,E,rfl,U,O⟩:=hB _ rfl h;obtain⟨T,a2,a3⟩:=W r E rfl O;refine .inl ⟨_,_,_,by rw[cK],.bot U,λp=>?_⟩;exact((wV he S K a2 (by rw[T];exact hr)).trans (by rw[T])).trans (congrArg (λF=>GStep.go (G F p) _ _) (jB a3 u)))|skip=>have L:=λp=>jU (P:=P) (main:=main) (cs:=p) K H hr;rw[L]at D;injection D with A B C;subst A B C;(cases R with|up=>exact .inl ⟨_,_,_,by rw[cK],.up,λp=>by rw[L,cK]⟩|bot h=>obtain⟨r,E,rfl,U,O⟩:=hB _ rfl h;obtain⟨T,a2,a3⟩:=W r E rfl O;refine .inl ⟨_,_,_,by rw[cK],.bot U,λp=>?_⟩;exact((zT he S K a2 (by rw[T];exact hr)).trans (by rw[T])).trans (congrArg (λF=>GStep.go (G F p) _ _) (jB a3 XD)))|enter j args=>have L:=λp=>jd (P:=P) (main:=main) (cs:=p) K H hr;obtain⟨t1,k1,I⟩:=Ih (P:=P) j args;rw[L]at D;injection D with A B C;subst A B C;(cases R with|up=>exact .inr (.inl ⟨j,t1,k1,by rw[I],λp=>by rw[L,I]⟩)|bot h=>obtain⟨r,E,rfl,U,O⟩:=hB _ rfl h;obtain⟨T,a2,a3⟩:=W r E rfl O;refine .inr (.inl ⟨j,t1,k1,by rw[I],λp=>?_⟩);rw[xp he S K a2 (by rw[T];exact hr),T,I])|_=>exact hshp.elim)|inRangeFunc _=>simp[aW]at V|endRangeFunc _=>simp[aW]at V|beginRound=>simp[aW]at V|call _ _ _ _=>simp[aW]at V|extern _ _=>simp[aW]at V
end
section
variable{d:de}
theorem cy.lz(h:s.g cs=s'.g cs):s=s':=by obtain⟨f,t,k,b,p⟩:=s;obtain⟨m,q,o,a,l⟩:=s';simp only[cy.g,G,b8,Xz.mk.injEq,XF.mk.injEq]at h;obtain⟨⟨e,g,i,-,n,-⟩,j,-⟩:=h;have:=F7 (XL j);subst e g i this;(have:b=a:=by cases b<;>cases a<;>simp_all[md]);rw[this]
theorem Gl.op(h:Gl d (.inRegion ops (i::rest)::kr) k'):∃a f,k'=.inRegion ops (i::a)::f/\Gl d (.inRegion ops rest::kr) (.inRegion ops a::f)/\sc d.live ops i=Xq:=by rcases h.cons (by simp[R0])with⟨l,g,j,k,b,e⟩|⟨m,o,n,g,j,k,b,e⟩;{subst j k;simp only[cT,U6,UE]at b;exact⟨rest,_,rfl,.mk' [.inRegion ops rest] g e (by simp only[U6,WI,cT,b.2,VY]),b.1⟩};cases j;subst k b;simp only[U6,UE]at e;exact⟨rest++n,_,rfl,.reg g e.2,e.1⟩
theorem IM(a:sc d.live ops i=Xq):(match(ops[i]?).bind (·.dst)with|some j=>d.live j|none=>Xq)=Xq:=by cases b:ops[i]? with|none=>rfl|some o=>have:=(kK a b).1;simp only[om]at this;grind
inductive DG(d:de)(cs:List XF):cy->Xz->Prop
 |here{t:Array Xu}{k k':List X3}:Gl d k k'->DG d cs ⟨d.f,t,k,WN,[]⟩ (G (d.bot t k') cs)
 |below{f:XO}{t t0:Array Xu}{k k0 k0':List X3}{ret:Bool}{pre st:List (XO×Array Xu×List X3)}:st=pre++[(d.f,t0,k0)]->Gl d k0 k0'->DG d cs ⟨f,t,k,ret,st⟩ (G (b8 f t k (md ret)) (pre.map up++d.bot t0 k0'::cs))
theorem DG.running{g:Xz}(h:DG d cs s g):g.status=.running:=by cases h<;>rfl
theorem DG.step{cs cs0:List XF}{s s1:cy}{g:Xz}{v v':Xr}{es:Array Ye}(h:DG d cs s g)(p:XA P main (s.g cs0) v=.go (s1.g cs0) v' es)(E:wu P c gl s)(he:d.kind≠.early)(H:s.ret=WN->AD P s.f s.t s.k v)(R:s.st=[]->¬d.end s.k):∃g1,XA P main g v=.go g1 v' es/\DG d cs s1 g1:=by(have w:∀ch,(s1.g cs0).frame.mode≠.panicking ch:=λch e=>by simp only[cy.g,G,b8]at e;cases hr:s1.ret<;>rw[hr]at e<;>simp[md]at e);cases h with|@here t k k' D=>rcases JH.step (d:=d) (b:=Xq) (k:=k) (F:=d.bot t k') p E.items (.bot D) he (λ_=>R rfl) (H rfl) w with⟨O,m,F1,B,U,C⟩|⟨j,O,m,B,C⟩|⟨e,_⟩;{obtain rfl:s1=⟨d.f,O,m,WN,[]⟩:=cy.lz (cs:=cs0) B;cases U with|bot S=>exact⟨_,C cs,.here S⟩};{obtain rfl:s1=⟨j,O,m,WN,[(d.f,t,k)]⟩:=cy.lz (cs:=cs0) B;exact⟨_,C cs,.below (pre:=[]) rfl D⟩};cases e|@below f t A k N k0' Y n st W D=>subst W;cases Y with|false=>rcases JH.step (d:=d) (b:=WN) (F:=b8 f t k .run) p E.items .up he (λe=>by cases e) (H rfl) w with⟨O,m,F1,B,U,C⟩|⟨j,O,m,B,C⟩|⟨_,m,B,C⟩;{obtain rfl:s1=⟨f,O,m,WN,n++[(d.f,A,N)]⟩:=cy.lz (cs:=cs0) B;cases U with|up=>exact⟨_,C _,.below rfl D⟩};{obtain rfl:s1=⟨j,O,m,WN,(f,t,k)::(n++[(d.f,A,N)])⟩:=cy.lz (cs:=cs0) (B.trans rfl);exact⟨_,C _,.below (pre:=(f,t,k)::n) rfl D⟩};obtain rfl:s1=⟨f,t,m,Xq,n++[(d.f,A,N)]⟩:=cy.lz (cs:=cs0) B;exact⟨_,C _,.below rfl D⟩|true=>cases n with|nil=>obtain⟨-,-,l,i,a,m,e⟩:=E.below (d.f,A,N) Θ;simp only at e;subst e;obtain⟨X,kk',rfl,S,h2⟩:=D.op;have hl:=IM h2;have L:up (d.f,A,.inRegion l (i::a)::m)=nF d.f A l i a m:=rfl;rw[cy.iV]at p;simp only[Wq,Ve,Vv,Wt,L]at p;(cases q:P.funcs[f]? with|none=>rw[bJ q,cK]at p;injection p with I J K;subst J K;obtain rfl:s1=⟨d.f,_,.inRegion l a::m,WN,[]⟩:=cy.lz (cs:=cs0) I.symm;exact⟨_,(bJ q).trans (congrArg (λF=>GStep.go (G F cs) _ _) (jB hl _)),.here S⟩|some V=>cases M:(results V t).run P v with|halt z w1=>obtain⟨o,Z,e⟩:=cX (main:=main) (k:=k) (x:=nF d.f A l i a m) (cs:=cs0) q M;simp_all|ok u Z=>rw[aR q M,cK]at p;injection p with I J K;subst J K;obtain rfl:s1=⟨d.f,_,.inRegion l a::m,WN,[]⟩:=cy.lz (cs:=cs0) I.symm;exact⟨_,(aR q M).trans (congrArg (λF=>GStep.go (G F cs) _ _) (jB hl _)),.here S⟩)|cons y n=>obtain⟨Q,T,ky⟩:=y;obtain⟨-,-,l,i,a,m,e⟩:=E.below (Q,T,ky) Θ;simp only at e;subst e;have L:up (Q,T,.inRegion l (i::a)::m)=nF Q T l i a m:=rfl;rw[cy.iV]at p;simp only[Wt,Ve,L]at p;cases q:P.funcs[f]? with|none=>rw[bJ q,cK]at p;injection p with I J K;subst J K;obtain rfl:s1=⟨Q,_,.inRegion l a::m,WN,n++[(d.f,A,N)]⟩:=cy.lz (cs:=cs0) I.symm;exact⟨_,(bJ q).trans (by rfl),.below rfl D⟩|some V=>cases M:(results V t).run P v with|halt z w1=>obtain⟨o,Z,e⟩:=cX (main:=main) (k:=k) (x:=nF Q T l i a m) (cs:=(n++[(d.f,A,N)]).map up++cs0) q M;simp_all|ok u Z=>rw[aR q M,cK]at p;injection p with I J K;subst J K;obtain rfl:s1=⟨Q,_,.inRegion l a::m,WN,n++[(d.f,A,N)]⟩:=cy.lz (cs:=cs0) I.symm;exact⟨_,(aR q M).trans (by rfl),.below rfl D⟩
theorem Jx(D:Listed P c gl){s1:cy}{w1:Xr}(T:∀g,gl g=Xq->r g=Xp g)(W:cC c r w v)(U:nY c r s s')(V:wu P c gl s)(A:bV P s w s1 w1)(m:s.ret=WN):AD P s'.f s'.t s'.k v:=by obtain⟨f,t,k,ret,st⟩:=s;obtain⟨S,M,X,L,st'⟩:=s';obtain⟨O,H,Q,R,B⟩:=U;simp only at O H Q R B m;subst S X m;intro a i l I o J E p;subst J;(have h:Region.wanted o (XM a t)=Xq:=by rw[<-funext λj=>mq H a j];exact p);obtain⟨y,-⟩:=V.tt;have F:=mR y E;have b:=tH D.aL D.ext F (ev:=(nF f t a i l I).eval) (λx q=>oM H T D.qh x q) (λ_=>⟨rfl,rfl⟩) w v W;cases q:(XE (nF f t a i l I).eval o).run P w with|halt z w2=>rw[q]at b;by_cases K:∃u,z=.panic u;{obtain⟨u,rfl⟩:=K;exact(A.qv (k9 E h q)).elim};exact(A.gH (l8 E h q b (λu e=>K ⟨u,e⟩))).elim|ok n w2=>rw[q]at b;obtain⟨Y,v1,r1,N,-,Z,-⟩:=b;exact⟨Y,v1,N,by cases Z<;>trivial⟩
def M8(d:de)(Q:Array Xu->Xr->Prop)(s:cy)(w:Xr):Prop:=s.st=[]/\s.ret=WN/\s.f=d.f/\s.k=[R0]/\Q s.t w
theorem iX.loc(hl:Listed P c gl)(he:d.kind≠.early)(h:iX P (M8 d Q) s w):∀{r:bB}{own:Nat->Prop}{v:Xr}{s':cy}{g:Xz},wu P c gl s->(∃T D,cC c r (re w T D) v)->nY c r s s'->(∀g,gl g=Xq->r g=Xp g)->Reach c r own RO CU v->DG d cs s' g->(∀q p t F k' i v1,r.le q->Q t i->Gl d [R0] k'->cC c q i v1->aj c q t F->Reach c q p RO CU v1->Left c r own RO v p v1->Loc P main RO CU Stop p (G (d.bot F k') cs) v1)->Loc P main RO CU Stop own g v:=by induction h with|@done s w hd=>intro r own v s' g I⟨T,D,hw⟩m S b n K;obtain⟨C,g2,g3,g4,g5⟩:=hd T D;obtain⟨f,t,k,ret,st⟩:=s;obtain⟨f',F,k',u,st'⟩:=s';obtain⟨e1,W,e2,e3,a⟩:=m;simp only at e1 W e2 e3 a C g2 g3 g4 g5;subst f' k' u C g2 g3 g4;cases a;(cases n with|here j=>exact K r own _ _ _ _ v (bB.le_refl r) g5 j hw W b (Left.refl ..)|below e j=>simp at e)|@step s w hng U hex hall ih=>intro r own v s' g I⟨T,D,hw⟩m S b n K;have stuck:∀(f:XO)(t:Array Xu)(w:Xr)(A:cy)(i:Xr),¬bV P ⟨f,t,[R0],WN,[]⟩ w A i:=λf t w A i h=>h.gH ⟨_,w,by rfl⟩;(have o:s.st=[]->s.ret=WN:=λh=>by cases m:s.ret with|false=>rfl|true=>exact absurd ⟨m,h⟩ U);by_cases J:s.st=[]/\d.l2.isSome=Xq/\∃B,s.k=[.inRegion B [],R0];{obtain⟨N,h2,B,h3⟩:=J;have h0:=o N;obtain⟨f,t,k,ret,st⟩:=s;obtain⟨f',F,k',u,st'⟩:=s';obtain⟨e1,W,e2,e3,a⟩:=m;simp only at e1 W e2 e3 a N h3 h0;subst f' k' u N h3 h0;cases a;have hls:bV P ⟨f,t,[.inRegion B [],R0],WN,[]⟩ (re w T D) ⟨f,t,[R0],WN,[]⟩ (re w T D):=⟨#[],by rfl⟩;cases n with|@here _ _ k2 j=>(have:Gl d [R0] k2:=by generalize hk:[X3.inRegion B [],R0]=kk at j;cases j with|app hn _=>simp_all|reg hn _=>simp only[VH,X3.inRegion.injEq,and_true]at hk;obtain⟨rfl,rfl⟩:=hk;exact .fin hn|fin _=>simp at hk);exact ih T D _ _ hls (s':=⟨d.f,F,[R0],WN,[]⟩) ⟨I.fn,rfl,I.below⟩ ⟨T,D,by simp_all⟩ ⟨rfl,W,rfl,rfl,.nil⟩ S b (.here this) K|below e j=>simp at e};(have R:s.st=[]->¬d.end s.k:=by intro N h2;rcases h2 with h2|⟨h2,h3⟩;{have h0:=o N;obtain⟨f,t,k,ret,st⟩:=s;simp_all};simp_all);(have Y:∀v1,Env own RO CU v v1->∃A i z v2 q M C,bV P s (re w v1.tape v1.drawn) A i/\wu P c gl A/\XA P main g v1=.go C v2 M/\DG d cs z C/\Ext c r (re w v1.tape v1.drawn) v1 q i v2/\nY c q A z/\(∀e∈M,rq c q e):=by intro v1 E;have X:cC c r (re w v1.tape v1.drawn) v1:=hw.env b E;obtain⟨A,i,L⟩:=hex v1.tape v1.drawn;rcases sw (main:=main) (bs:=[]) hl S X m I (λe e'=>U ⟨e,e'⟩)with⟨s2,w2,es1,b1,b2,z,v2,q,M,b3,b4,b5,b6⟩|hb;{obtain⟨rfl,rfl⟩:=bV.O4 L ⟨es1,b1⟩;have hs':wu P c gl s':=⟨trivial,by rw[m.k];exact I.items,by have:=I.below;have a:=m.st;revert this;generalize s.st=l at a;generalize s'.st=l' at a;induction a with|nil=>simp|@cons f t F k l l' _ _ ih=>intro h x hx;rcases UI.1 hx with rfl|hx;{simp_all};exact ih (λy hy=>h y (U1 _ hy)) x hx⟩;obtain⟨C,c1,c2⟩:=n.step b3 hs' he (λV=>Jx hl S X m I L (by rw[<-m.ret];exact V)) (λh=>by rw[m.k];refine R ?_;have a:=m.st;rw[h]at a;generalize s.st=l at a;cases a;rfl);grind};exact(hb.not L).elim);refine .step n.running (λv1 E=>?_) (λv1 g' v' M E O=>?_);{obtain⟨A,i,z,v2,q,M,C,L,a2,a3,a4,H,a6,a7⟩:=Y v1 E;exact⟨_,_,_,a3,(H.mine (b.env E) a7).1⟩};obtain⟨A,i,z,v2,q,es',C,L,a2,a3,a4,H,a6,a7⟩:=Y v1 E;rw[a3]at O;injection O with b1 b2 b3;subst b1 b2 b3;refine ih v1.tape v1.drawn A i L a2 ⟨i.tape,i.drawn,H.rel⟩ a6 (λg e=>H.le _ _ (S g e)) (H.mine (b.env E) a7).2 a4 λr2 Z t F k' w2 v3 c1 c2 c3 c4 c5 c6 c7=>?_;exact K r2 Z t F k' w2 v3 (bB.le_trans H.le c1) c2 c3 c4 c5 c6 (Left.after b E H c7)
end
section
variable{d:de}
def lv(live:Nat->Bool)(t:Array Xu):Array Xu:=t.mapIdx λi v=>if live i then v else XD
theorem RF:d.ov (lv d.live d.t0)=d.t0:=by apply Vx;intro i;simp only[de.ov,lv,V5,UH];grind
structure Place(P:XN)(c:dx)(gl:Nat->Bool)(r:bB)(w:Xr)(own RO:Nat->Prop)(CU:Nat->Nat->Prop)(v:Xr):Prop where
 jk:Listed P c gl
 TQ:∀g,gl g=Xq->r g=Xp g
 rel:cC c r w v
 reach:Reach c r own RO CU v
theorem Loc.piece(e:Place P c gl r w own RO CU v)(C:d.kind≠.early){k0 k0':List X3}(E:k0.all (aW P c gl)=Xq)(l:Gl d k0 k0')(F:aj c r tl (lv d.live d.t0))(B:∀t w T D,Q t w->Q t (re w T D))(H:∀T,∃n f w',runN P n (k7 ⟨d.f,tl,k0,WN,[]⟩ (re w T 0))=.next (k7 ⟨d.f,f,[R0],WN,[]⟩ w')/\Q f w')(K:∀k a t f k' y v1,r.le k->Q t y->Gl d [R0] k'->cC c k y v1->aj c k t f->Reach c k a RO CU v1->Left c r own RO v a v1->Loc P main RO CU Stop a (G (d.bot f k') cs) v1):Loc P main RO CU Stop own (G {fn:=d.f,tmps:=d.t0,todo:=k0',defers:=d.defers,mode:=.run,kind:=d.kind,roundOf:=d.roundOf} cs) v:=by have o:wu P c gl ⟨d.f,tl,k0,WN,[]⟩:=⟨trivial,E,λx I=>by simp at I⟩;have m:nY c r ⟨d.f,tl,k0,WN,[]⟩ ⟨d.f,lv d.live d.t0,k0,WN,[]⟩:=⟨rfl,F,rfl,rfl,.nil⟩;have g:=Fit.AW o e.rel m e.TQ;(have b:iX P (M8 d Q) ⟨d.f,tl,k0,WN,[]⟩ w:=by refine ui e.jk (λs w T D h=>⟨h.1,h.2.1,h.2.2.1,h.2.2.2.1,B _ _ T D h.2.2.2.2⟩) g λT=>?_;obtain⟨n,f,w',z,A⟩:=H T;exact⟨n,_,w',z,rfl,rfl,rfl,rfl,A⟩);have:=b.loc e.jk (main:=main) (RO:=RO) (CU:=CU) (Stop:=Stop) (cs:=cs) C o ⟨w.tape,w.drawn,e.rel⟩ m e.TQ e.reach (.here l) K;rw[de.bot,RF]at this;exact this
theorem Eu(h:cd.wp P (λe a w=>e=.normal/\a.defers=[]/\Q a.tmps w) ⟨t,[]⟩ w):∃n b w',runN P n (k7 ⟨f,t,[.code cd,R0],WN,[]⟩ w)=.next (k7 ⟨f,b,[R0],WN,[]⟩ w')/\Q b w':=by obtain⟨e,j,w',⟨rfl,g,i⟩,n,k⟩:=h (base f) [R0] [ej];obtain⟨b,l⟩:=j;simp only at g i;subst g;exact⟨n,b,w',k,i⟩
theorem Loc.code(N:Place P c gl r w own RO CU v)(g:Nat->Bool)(o:F.todo=.code cd::tail)(s:F.mode=.run)(p:F.kind≠.early)(q:codeOk P c gl cd=Xq)(m:fV g cd=Xq)(u:aj c r tl (lv g F.tmps))(M:∀t w T D,Q t w->Q t (re w T D))(H:∀T,cd.wp P (λe a w=>e=.normal/\a.defers=[]/\Q a.tmps w) ⟨tl,[]⟩ (re w T 0))(K:∀j b t k l v1,r.le j->Q t l->cC c j l v1->aj c j t k->Reach c j b RO CU v1->Left c r own RO v b v1->Loc P main RO CU Stop b (G {F with tmps:=k.mapIdx λi x=>if g i then x else F.tmps.getD i XD,todo:=tail} cs) v1):Loc P main RO CU Stop own (G F cs) v:=by obtain⟨f,U,W,L,md,R,S⟩:=F;simp only at o s p u H K;subst o s;refine Loc.piece (d:=⟨f,L,R,S,Xv,tail,g,U⟩) N p (k0:=[.code cd,R0]) (by simp[aW,q,R0,codeOk]) (.app (init:=[.code cd]) rfl (by simp[cT,m])) u M (λT=>Eu (H T)) λj b t k O l v1 A B n C E I J=>?_;(have:O=tail:=by generalize q:[R0]=V at n;cases n with|@app y _ _=>simp_all|reg h _=>cases h|fin h=>cases h);subst this;exact K j b t k l v1 A B C E I J
end
end Go.ab
namespace Go.Mx
variable{i N:Nat}
structure Wd where
 L:Bool
 W:Bool
 S:Bool
 n:Nat
 deriving DecidableEq
def Wd.enc(w:Wd):Nat:=w.L.toNat+2*w.W.toNat+4*w.S.toNat+8*w.n
def Wd.zero:Wd:=⟨WN,WN,WN,0⟩
theorem Wd.xl{w v:Wd}(h:w.enc=v.enc):w=v:=by obtain⟨a,b,c,n⟩:=w;obtain⟨d,e,f,g⟩:=v;cases a<;>cases b<;>cases c<;>cases d<;>cases e<;>cases f<;>simp[Wd.enc]at h⊢<;>omega
inductive Th
 |out|c0
 |ld(aw st:Bool)
 |cs(old:Wd)
 |ca(old:Wd)(aw st:Bool)
 |sq|t2
 |a1(old:Wd)(st:Bool)
 |hold|u0
 |uc(old:Wd)
 |ux|us
def nw(o:Wd)(aw st:Bool):Wd:=⟨!o.S||o.L,!aw&&o.W,o.S||(st&&o.L),if o.L||o.S then o.n+1 else o.n⟩
inductive Mv:Th->Wd->Nat->Th->Wd->Nat->Prop
 |start{w:Wd}{m:Nat}:Mv .out w m .c0 w m
 |NJ{m:Nat}:Mv .c0 ⟨WN,WN,WN,0⟩ m .hold ⟨Xq,WN,WN,0⟩ m
 |LO{w:Wd}{m:Nat}:w≠⟨WN,WN,WN,0⟩->Mv .c0 w m (.ld WN WN) w m
 |Sv{w:Wd}{m:Nat}{aw st:Bool}:Mv (.ld aw st) w m (.ld aw st) w m
 |TW{w:Wd}{m:Nat}{st:Bool}:w.L=Xq->w.S=WN->w.W=WN->w.n≠0->Mv (.ld WN st) w m (.cs w) w m
 |Q8{w:Wd}{m:Nat}{aw st:Bool}:Mv (.ld aw st) w m (.ca w aw st) w m
 |N8{w:Wd}{m:Nat}:Mv (.cs w) w m (.ld Xq WN) {w with W:=Xq} m
 |Mj{o w:Wd}{m:Nat}:w≠o->Mv (.cs o) w m (.ld WN WN) w m
 |Ko{w:Wd}{m:Nat}{aw st:Bool}:w.L=WN->w.S=WN->Mv (.ca w aw st) w m .hold (nw w aw st) m
 |LF{w:Wd}{m:Nat}{aw st:Bool}:(w.L||w.S)=Xq->Mv (.ca w aw st) w m .sq (nw w aw st) m
 |Ku{o w:Wd}{m:Nat}{aw st:Bool}:Mv (.ca o aw st) w m (.ld aw st) w m
 |Qt{o w:Wd}{m:Nat}{st:Bool}:o.L=Xq->o.S=WN->o.W=WN->o.n≠0->Mv (.ca o WN st) w m (.cs o) w m
 |Jn{o w:Wd}{m:Nat}{aw st:Bool}:w≠o->Mv (.ca o aw st) w m (.ld aw st) w m
 |take{w:Wd}{m:Nat}:Mv .sq w (m+1) .t2 w m
 |Q2{w:Wd}{m:Nat}{st:Bool}:w.S=Xq->Mv .t2 w m (.a1 w st) w m
 |P2{w:Wd}{m:Nat}{st:Bool}:w.S=WN->Mv .t2 w m (.ca w Xq st) w m
 |Su{w:Wd}{m:Nat}{st:Bool}:w.S=WN->Mv .t2 w m (.ld Xq st) w m
 |add{w o:Wd}{m:Nat}{st:Bool}:Mv (.a1 o st) w m .hold ⟨Xq,w.W,st&&o.n !=1,w.n-1⟩ m
 |want{w:Wd}{m:Nat}:Mv .hold w m .u0 w m
 |Rz{w:Wd}{m:Nat}:w.S=Xq->Mv .u0 w m .us {w with L:=WN} m
 |Pa{w:Wd}{m:Nat}:w.S=WN->w.n=0\/w.W=Xq->Mv .u0 w m .out {w with L:=WN} m
 |Sf{w:Wd}{m:Nat}:w.S=WN->w.n≠0->w.W=WN->Mv .u0 w m (.uc {w with L:=WN}) {w with L:=WN} m
 |NO{w:Wd}{m:Nat}:Mv (.uc w) w m .us {w with W:=Xq,n:=w.n-1} m
 |J0{o w:Wd}{m:Nat}:w≠o->Mv (.uc o) w m .ux w m
 |PL{w:Wd}{m:Nat}:w.n=0\/w.L=Xq\/w.W=Xq\/w.S=Xq->Mv .ux w m .out w m
 |Qp{w:Wd}{m:Nat}:w.n≠0->w.L=WN->w.W=WN->w.S=WN->Mv .ux w m (.uc w) w m
 |AX{w:Wd}{m:Nat}:Mv .us w m .out w (m+1)
def qo:Th->Bool|.hold|.u0=>Xq|_=>WN
def At:Th->Bool|.us|.t2|.a1 _ _=>Xq|.ld aw _=>aw|.ca _ aw _=>aw|_=>WN
def pQ:Th->Bool|.sq=>Xq|_=>WN
def Jh:Th->Bool|.us=>Xq|_=>WN
def Da:Th->Bool|.t2|.a1 _ _=>Xq|_=>WN
def Jk:Th->Bool|.ld aw _=>aw|.ca _ aw _=>aw|_=>WN
def PN:Th->Bool|.uc _|.ux=>Xq|_=>WN
def cnt(p:Th->Bool)(f:Nat->Th):Nat->Nat
 |0=>0
 |N+1=>cnt p f N+(p (f N)).toNat
def upd(f:Nat->Th)(i:Nat)(x:Th):Nat->Th:=λj=>if j=i then x else f j
theorem zm{p:Th->Bool}{f g:Nat->Th}:∀{N:Nat},(∀j,j<N->p (f j)=p (g j))->cnt p f N=cnt p g N|0,_=>rfl|N+1,h=>by simp only[cnt];rw[zm λj b=>h j Ω,h N Ω]
theorem ly(p:Th->Bool)(f:Nat->Th)(x:Th):∀{N:Nat},i<N->cnt p (upd f i x) N+(p (f i)).toNat=cnt p f N+(p x).toNat|N+1,h=>by simp only[cnt];rcases Ws (WJ h)with b|rfl;{have:=ly p f x b;(have e:upd f i x N=f N:=by simp[upd];omega);grind};(have:cnt p (upd f i x) i=cnt p f i:=zm λj c=>by simp[upd];grind);rw[this];simp[upd];omega
theorem pZ{p:Th->Bool}{f:Nat->Th}:∀{N i:Nat},i<N->p (f i)=Xq->1<=cnt p f N|N+1,i,h,c=>by simp only[cnt];rcases Ws (WJ h)with b|rfl;{have:=pZ b c;omega};simp_all
theorem pT{p:Th->Bool}{f:Nat->Th}:∀{N i j:Nat},i<j->j<N->p (f i)=Xq->p (f j)=Xq->2<=cnt p f N|N+1,i,j,b,h,c,e=>by simp only[cnt];rcases Ws (WJ h)with d|rfl;{have:=pT b d c e;omega};have:=pZ b c;simp_all
def fP(w:Wd):Th->Prop
 |.ld aw st=>st=Xq->aw=Xq
 |.ca o aw st=>(st=Xq->aw=Xq)/\(aw=Xq->o.W=Xq)
 |.cs o=>o.L=Xq/\o.S=WN/\o.W=WN/\o.n≠0
 |.a1 o _=>w.S=Xq/\w.L=WN/\1<=o.n/\o.n<=w.n
 |.uc o=>o.L=WN/\o.W=WN/\o.S=WN/\o.n≠0
 |_=>True
structure Inv(f:Nat->Th)(N:Nat)(w:Wd)(m:Nat):Prop where
 i1:cnt qo f N=w.L.toNat
 i2:cnt At f N+m=(w.W||(w.S&&!w.L)).toNat
 i3:¬(w.W=Xq/\w.S=Xq)
 i4:if w.W then cnt pQ f N=w.n+m+cnt Jh f N else if w.S&&!w.L then cnt pQ f N+cnt Da f N=w.n else cnt pQ f N=w.n
 i5:w.L=WN->w.W=WN->w.S=WN->w.n≠0->1<=cnt PN f N
 i6:w.S=Xq->w.n≠0
 i8:w.W=WN->cnt Jk f N=0
 loc:∀i,i<N->fP w (f i)
section
theorem vz(f:Nat->Th)(N:Nat):cnt At f N=cnt Jh f N+cnt Da f N+cnt Jk f N:=by induction N with|zero=>rfl|succ N c=>simp only[cnt];(have:∀t:Th,(At t).toNat=(Jh t).toNat+(Da t).toNat+(Jk t).toNat:=by intro t;cases t with|ld a b=>cases a<;>rfl|ca o a b=>cases a<;>rfl|_=>rfl);grind
section
variable{f:Nat->Th}{w w':Wd}{m m':Nat}{x:Th}
theorem wQ(a:i<N)(c:fP w' x)(h:∀j,j<N->j≠i->fP w' (f j)):∀j,j<N->fP w' (upd f i x j):=by intro j b;unfold upd;grind
theorem GQ{t:Th}(h:fP w t)(j:w.S=Xq->w.L=WN->w'.S=Xq/\w'.L=WN/\w.n<=w'.n):fP w' t:=by cases t with|a1 o l=>obtain⟨d,e,g,k⟩:=h;obtain⟨a,b,c⟩:=j d e;exact⟨a,b,g,by omega⟩|_=>exact h
set_option maxHeartbeats 4000000 in theorem Inv.step(h:Inv f N w m)(c:i<N)(u:Mv (f i) w m x w' m'):Inv (upd f i x) N w' m':=by have g:=ly qo f x c;have k:=ly Jh f x c;have l:=ly Da f x c;have q:=ly Jk f x c;have r:=ly pQ f x c;have s:=ly PN f x c;have s1:=vz f N;have s2:=vz (upd f i x) N;have v:=h.loc i c;have d:∀p:Th->Bool,p (f i)=Xq->1<=cnt p f N:=λp Z=>pZ c Z;obtain⟨J,K,M,O,P,Q,R,e⟩:=h;have a:fP w' x->(w.S=Xq->w.L=WN->w'.S=Xq/\w'.L=WN/\w.n<=w'.n)->∀j,j<N->fP w' (upd f i x j):=λE F=>wQ c E λj t _=>GQ (e j t) F;have H:fP w' x->(∀j,j<N->j≠i->fP w' (f j))->∀j,j<N->fP w' (upd f i x j):=wQ c;(have b:fP w' x->(2<=cnt Da f N->False)->Da (f i)=Xq->∀j,j<N->fP w' (upd f i x j):=λE F T=>wQ c E λj t I=>by have:=e j t;cases V:f j with|a1 o Y=>refine(F ?_).elim;(have U:Da (f j)=Xq:=by rw[V];rfl);rcases Nat.lt_or_gt_of_ne I with G|G;{exact pT G c U T};exact pT G t T U|_=>rw[V]at this;exact this);have z:=d qo;have A:=d Jh;have B:=d Da;have C:=d Jk;clear d;generalize hy:f i=y at u g k l q r s v z A B C b;clear hy;obtain⟨L,W,S,n⟩:=w;cases y with|ld D Y=>cases D<;>cases L<;>cases W<;>cases S<;>cases u<;>(try dsimp only[Bool.or_true,Bool.or_false,Bool.true_or,Bool.false_or]at*)<;>(try contradiction)<;>(try simp only[U0,or_false,false_or]at*)<;>(simp[qo,Jh,Da,Jk,pQ,PN,nw,fP]at J K M O P Q R g k l q r s v z A B C<;>(refine⟨?_,?_,?_,?_,?_,?_,?_,?_⟩<;>first|(simp[nw]<;>omega)|omega|(refine a ?_ ?_<;>simp[fP,nw]<;>omega)|(refine a ⟨‹_›,‹_›,‹_›,‹_›⟩ ?_;simp;done)|(refine a ⟨‹_›,‹_›,‹_›,‹_›⟩ ?_;simp;omega)|(refine b ?_ (λX=>?_) rfl<;>(try simp[fP,nw])<;>omega)))|ca o D Y=>cases D<;>cases L<;>cases W<;>cases S<;>cases u<;>(try dsimp only[Bool.or_true,Bool.or_false,Bool.true_or,Bool.false_or]at*)<;>(try contradiction)<;>(try simp only[U0,or_false,false_or]at*)<;>(simp[qo,Jh,Da,Jk,pQ,PN,nw,fP]at J K M O P Q R g k l q r s v z A B C<;>(refine⟨?_,?_,?_,?_,?_,?_,?_,?_⟩<;>first|(simp[nw]<;>omega)|omega|(refine a ?_ ?_<;>simp[fP,nw]<;>omega)|(refine a ⟨‹_›,‹_›,‹_›,‹_›⟩ ?_;simp;done)|(refine a ⟨‹_›,‹_›,‹_›,‹_›⟩ ?_;simp;omega)|(refine b ?_ (λX=>?_) rfl<;>(try simp[fP,nw])<;>omega)))|_=>cases L<;>cases W<;>cases S<;>cases u<;>(try dsimp only[Bool.or_true,Bool.or_false,Bool.true_or,Bool.false_or]at*)<;>(try contradiction)<;>(try simp only[U0,or_false,false_or]at*)<;>(simp[qo,Jh,Da,Jk,pQ,PN,nw,fP]at J K M O P Q R g k l q r s v z A B C<;>(refine⟨?_,?_,?_,?_,?_,?_,?_,?_⟩<;>first|(simp[nw]<;>omega)|omega|(refine a ?_ ?_<;>simp[fP,nw]<;>omega)|(refine b ?_ (λX=>?_) rfl<;>(try simp[fP,nw])<;>omega)))
end
end
theorem pE{p:Th->Bool}{f:Nat->Th}:∀{N:Nat},(∀i,i<N->p (f i)=WN)->cnt p f N=0|0,_=>rfl|N+1,h=>by simp only[cnt];rw[pE λi b=>h i Ω,h N Ω];rfl
theorem Inv.KC{f:Nat->Th}{w:Wd}(h:Inv f N w 0)(b:∀i,i<N->f i=.out\/f i=.sq):∀i,i<N->f i=.out:=by(have z:∀p:Th->Bool,p .out=WN->p .sq=WN->cnt p f N=0:=λp l m=>pE λi a=>by grind);obtain⟨c,d,q,g,j,r,s,k⟩:=h;rw[z qo rfl rfl]at c;rw[z At rfl rfl]at d;rw[z Jh rfl rfl,z Da rfl rfl]at g;rw[z PN rfl rfl]at j;obtain⟨L,W,S,n⟩:=w;(have o:cnt pQ f N=0:=by grind);intro i a;rcases b i a with e|e;{exact e};have:=pZ (p:=pQ) (f:=f) a (by rw[e];rfl);omega
def wt:Th->Nat
 |.uc _|.ux=>5
 |.us=>4
 |.t2|.a1 _ _=>2
 |.ld aw _|.ca _ aw _=>if aw then 1 else 2
 |.cs _=>2
 |.c0=>2
 |_=>0
end Go.Mx
namespace Go.Rk
variable{α:Type}
inductive Rk(α:Type)where
 |z
 |s(f:α->Rk α)
def Lt{α:Type}(a b:Rk α):Prop:=∃f x,b=.s f/\a=f x
theorem Lt.Uy:WellFounded (Lt (α:=α)):=by refine⟨λa=>?_⟩;induction a with|z=>exact⟨_,λb⟨f,x,h,_⟩=>by cases h⟩|s g c=>refine⟨_,λb⟨f,x,h,e⟩=>?_⟩;cases h;rw[e];exact c x
abbrev Ez{α:Type}:Rk α->Rk α->Prop:=Relation.TransGen Lt
theorem Lt.wf:WellFounded (Ez (α:=α)):=Lt.Uy.transGen
theorem rf(f:α->Rk α)(x:α):Ez (f x) (.s f):=.single ⟨f,x,rfl,rfl⟩
theorem TH(f:α->Rk α)(x:α):Ez (f x) (.s λ_=>.s f):=.tail (.single ⟨f,x,rfl,rfl⟩) ⟨_,x,rfl,rfl⟩
def PY{α:Type}(N:Nat)(V' V:Nat->Rk α):Prop:=∃i,i<N/\Ez (V' i) (V i)/\∀j,j≠i->V' j=V j
theorem PY.wf{α:Type}:∀N:Nat,WellFounded (PY (α:=α) N)|0=>⟨λV=>⟨_,λc⟨i,h,_⟩=>absurd h (VC i)⟩⟩|N+1=>by have j:=PY.wf (α:=α) N;(have f:∀d:Rk α,∀V:Nat->Rk α,V N=d->Acc (PY (N+1)) V:=by intro d;induction Lt.wf.apply d with|intro d _ l=>intro V;induction j.apply V with|intro V _ e=>intro g;refine⟨_,λc⟨i,k,b,a⟩=>?_⟩;rcases Ws (WJ k)with h|rfl;{exact e c ⟨i,h,b,a⟩ ((a N Ω).trans g)};exact l (c i) (g▸b) c rfl);exact⟨λV=>f _ V rfl⟩
end Go.Rk
namespace Go.Cr
open Go.Conc Go.Mx Go.Rk
open Go.ConcR(KK WgAt stA smA rd wr mk)
open Go.ConcM(OsLater)
variable{g g':Xz}{O:Nat->Prop}{es:Array Ye}{v':Xr}
section
structure Cx where
 P:XN
 RO:Nat->Prop
 mu:Nat
 mo:Nat
 pre:Array Xu
 tP:XI
 mm:Nat
 AU:Array Yj->Prop
 wg:Nat
 tW:XI
 out:Nat
 tO:XI
 no:Nat
 oc:Nat->Nat->Prop
 res:Nat->Xu
 base:Nat
 n:Nat
 End:Xz->Xr->Prop
 w0:Xr
 solo:Prop
 halt:(Nat->Prop)->Xz->Xr->Prop
 tD:Int->Int->Yf
variable(C:Cx)
def Cx.muA:Yc:=⟨C.mu,C.mo,Xv⟩
def Cx.msA:Yc:=⟨C.mu,C.mo+1,Xv⟩
def av(v:Xr)(s q:Int):Prop:=v.heap[C.mu]?=Xp (.cells (C.pre++#[.int .i32 s,.int .u32 q]) C.tP)
def cN(v:Xr)(w:Wd)(q:Nat):Prop:=av C v w.enc q
def Q4(v:Xr)(es:Array Yj):Prop:=∃ck,v.heap[C.mm]?=Xp (.map es ck)
def ar(v:Xr):Prop:=∃es,Q4 C v es/\C.AU es
def Cy(v:Xr):Prop:=∃cs:Array Xu,v.heap[C.out]?=Xp (.cells cs C.tO)/\cs.size=C.no
structure dj(v:Xr):Prop where
 port:∃s q,av C v s q
 gx:∃st sm,v.heap[C.wg]?=Xp (C.tD st sm)
 uE:Cy C v
structure W0(w:Xr):Prop where
 os:OsLater C.w0.os w.os
 out:w.output=C.w0.output
 tape:w.tape=C.w0.tape
structure Cx.Ok:Prop where
 pre:C.pre.size=C.mo
 lL:C.mu≠C.mm
 gd:C.mu≠C.wg
 fT:C.mu≠C.out
 nH:C.mm≠C.wg
 my:C.mm≠C.out
 iN:C.wg≠C.out
 ro:∀k,C.RO k->k≠C.mu/\k≠C.mm/\k≠C.wg/\k≠C.out
 oc:∀i j o,C.oc i o->C.oc j o->i=j
 Ue:∀o,¬C.oc 0 o
structure Env(i:Nat)(own:Nat->Prop)(v v1:Xr):Prop where
 keep:∀k,own k\/C.RO k->v1.heap[k]?=v.heap[k]?
 grow:v.heap.size<=v1.heap.size
 aL:dj C v->dj C v1
 Bg:∀o,C.oc i o->v1.cell? ⟨C.out,o,Xv⟩=v.cell? ⟨C.out,o,Xv⟩
def Cx.CU(k n:Nat):Prop:=k=C.mu/\n<=C.mo
def Cx.wk(i:Nat):Prop:=i≠0\/C.solo
def qL(own:Nat->Prop)(e:Ye):Prop:=ab.TU own C.RO (λ_ _=>False) e\/∃o,o<C.mo/\e=⟨.cell ⟨C.mu,o,Xv⟩,WN,WN⟩
structure lj(own:Nat->Prop)(v v':Xr)(es:Array Ye):Prop where
 keep:∀k,k<v.heap.size->¬own k->v'.heap[k]?=v.heap[k]?
 grow:v.heap.size<=v'.heap.size
 os:v'.os=v.os
 out:v'.output=v.output
 tape:v'.tape=v.tape
 evs:∀e∈es,qL C (ab.more own v v') e
structure Ss(i:Nat)(v v':Xr)(es:Array Ye):Prop where
 keep:∀k,k≠C.out->v'.heap[k]?=v.heap[k]?
 size:v'.heap.size=v.heap.size
 os:v'.os=v.os
 out:v'.output=v.output
 tape:v'.tape=v.tape
 blk:Cy C v->Cy C v'
 cells:∀o,¬C.oc i o->v'.cell? ⟨C.out,o,Xv⟩=v.cell? ⟨C.out,o,Xv⟩
 evs:∀e∈es,∃o,C.oc i o/\e=⟨.cell ⟨C.out,o,Xv⟩,Xq,WN⟩
def Fin(i:Nat)(v:Xr):Prop:=∀o,C.oc i o->v.cell? ⟨C.out,o,Xv⟩=Xp (C.res o)
structure DL(w w':Xr)(es:Array Ye):Prop where
 heap:w'.heap=w.heap
 tape:w'.tape=w.tape
 out:w'.output=w.output
 os:OsLater w.os w'.os
 evs:es=#[]
structure Md where
 hold:Bool
 deaf:Bool
 tok:Bool
 said:Bool
def Md.free:Md:=⟨WN,WN,WN,WN⟩
def Md.bC:Md:=⟨WN,Xq,WN,WN⟩
def Md.mK:Md:=⟨Xq,Xq,WN,WN⟩
def Md.AT:Md:=⟨Xq,WN,WN,WN⟩
def Md.own:Md:=⟨Xq,WN,Xq,WN⟩
def Md.xO:Md:=⟨WN,WN,WN,Xq⟩
def Md.uQ:Md:=⟨WN,Xq,WN,Xq⟩
def fp(m:Md)(own:Nat->Prop):Nat->Prop:=λk=>own k\/(m.tok=Xq/\k=C.mm)
inductive iR(i:Nat):Md->Mark->Md->Prop
 |PZ:iR i .free .disable .bC
 |LX:iR i .AT .disable .mK
 |JK:iR i .xO .disable .uQ
 |en:iR i .bC .enable .free
 |Qa:iR i .mK .enable .AT
 |acq:iR i .AT (.acquire C.muA) .own
 |EN:iR i .own (.releaseMerge C.muA) .AT
 |DC:i≠0->iR i .free (.releaseMerge (stA C.wg)) .xO
 |sr{m:Md}:i=0->m.tok=WN->iR i m (.read (smA C.wg)) m
section stops
variable(i:Nat)(own:Nat->Prop)
abbrev cM(S:Xz->Xr->Prop)(n:Nat)(g:Xz)(w:Xr):Prop:=Goes C.P (i==0) (Env C i own) DL S n g w
section lock
variable(H:Wd->Bool->Bool->Nat->Xz->Xr->Prop)(Q:Xz->Xr->Prop)
def uK(aw st:Bool)(it:Nat)(g:Xz)(w:Xr):Prop:=
 g.status=.running/\∀wd q,cN C w wd q->(aw=Xq->wd.W=Xq)->∃g',XA C.P (i==0) g w=.go g' w #[]/\∃n,cM C i own (H wd aw st it) n g' w
def NB(o:Wd)(it:Nat)(g:Xz)(w:Xr):Prop:=
 g.status=.running/\∀wd q,cN C w wd q->
   (wd=o->∃g',XA C.P (i==0) g w=.go g' (w.setCell C.muA (.int .i32 ({wd with W:=Xq}:Wd).enc)) #[rd C.muA,wr C.muA]/\∃n,cM C i own (uK C i own H Xq WN (it+1)) n g' (w.setCell C.muA (.int .i32 ({wd with W:=Xq}:Wd).enc)))/\
   (wd≠o->∃g',XA C.P (i==0) g w=.go g' w #[rd C.muA]/\∃n,cM C i own (uK C i own H WN WN (it+1)) n g' w)
def AtA1(o:Wd)(st:Bool)(g:Xz)(w:Xr):Prop:=
 g.status=.running/\∀wd q,cN C w wd q->wd.n<100000000->wd.L=WN->wd.S=Xq->wd.n≠0->
   ∃g',XA C.P (i==0) g w=.go g' (w.setCell C.muA (.int .i32 (⟨Xq,wd.W,st&&o.n !=1,wd.n-1⟩:Wd).enc)) #[rd C.muA,wr C.muA]/\Q g' (w.setCell C.muA (.int .i32 (⟨Xq,wd.W,st&&o.n !=1,wd.n-1⟩:Wd).enc))
def K7(g:Xz)(w:Xr):Prop:=
 g.status=.running/\∃st,∀wd q,cN C w wd q->wd.n<100000000->(wd.S=Xq->wd.L=WN/\wd.W=WN/\wd.n≠0)->(wd.S=WN->wd.W=Xq)->∃g',XA C.P (i==0) g w=.go g' w #[]/\
   (wd.S=Xq->∃n,cM C i own (AtA1 C i Q wd st) n g' w)/\(wd.S=WN->∃n,cM C i own (H wd Xq st 0) n g' w)
def DI(g:Xz)(w:Xr):Prop:=
 g.status=.running/\g.offers=Xv/\(∀wd,cN C w wd 0->XA C.P (i==0) g w=.go {g with status:=.blocked} w #[])/\
   ∀wd q,cN C w wd (q+1)->∃g',XA C.P (i==0) g w=.go g' (w.setCell C.msA (.int .u32 (q:Nat))) (semEvents C.msA)/\∃n,cM C i own (K7 C i own H Q) n g' (w.setCell C.msA (.int .u32 (q:Nat)))
def OF(o:Wd)(aw st:Bool)(it:Nat)(g:Xz)(w:Xr):Prop:=
 g.status=.running/\∀wd q,cN C w wd q->
   (wd=o->∃g',XA C.P (i==0) g w=.go g' (w.setCell C.muA (.int .i32 (nw o aw st).enc)) #[rd C.muA,wr C.muA]/\
    (o.L=WN->o.S=WN->Q g' (w.setCell C.muA (.int .i32 (nw o aw st).enc)))/\((o.L||o.S)=Xq->∃n,cM C i own (DI C i own H Q) n g' (w.setCell C.muA (.int .i32 (nw o aw st).enc))))/\
   (wd≠o->∃g',XA C.P (i==0) g w=.go g' w #[rd C.muA]/\∃n,cM C i own (uK C i own H aw st it) n g' w)
def gL(o:Wd)(aw st:Bool)(it:Nat)(g:Xz)(w:Xr):Prop:=
 (it<4/\uK C i own H aw st (it+1) g w)\/(it<4/\o.L=Xq/\o.S=WN/\o.W=WN/\o.n≠0/\aw=WN/\NB C i own H o it g w)\/OF C i own H Q o aw st it g w
def ji:Prop:=∀o aw st it g w,it<=4->(aw=Xq->o.W=Xq)->(st=Xq->aw=Xq)->o.n<100000000->H o aw st it g w->∃n,cM C i own (gL C i own H Q o aw st it) n g w
end lock
section unlock
variable(HU:Wd->Xz->Xr->Prop)(Q:Xz->Xr->Prop)
def A5(g:Xz)(w:Xr):Prop:=
 g.status=.running/\mayWake C.P g=Xq/\∀wd q,q<100000000->cN C w wd q->∃g',XA C.P (i==0) g w=.go g' (w.setCell C.msA (.int .u32 (q+1:Nat))) (semEvents C.msA)/\∃n,cM C i own Q n g' (w.setCell C.msA (.int .u32 (q+1:Nat)))
def Lu(g:Xz)(w:Xr):Prop:=
 g.status=.running/\∀wd q,cN C w wd q->wd.n<100000000->∃g',XA C.P (i==0) g w=.go g' w #[]/\
   (wd.n=0\/wd.L=Xq\/wd.W=Xq\/wd.S=Xq->∃n,cM C i own Q n g' w)/\(wd.n≠0->wd.L=WN->wd.W=WN->wd.S=WN->∃n,cM C i own (HU wd) n g' w)
def Ed(o:Wd)(g:Xz)(w:Xr):Prop:=
 g.status=.running/\∀wd q,cN C w wd q->
   (wd=o->∃g',XA C.P (i==0) g w=.go g' (w.setCell C.muA (.int .i32 ({wd with W:=Xq,n:=wd.n-1}:Wd).enc)) #[rd C.muA,wr C.muA]/\∃n,cM C i own (A5 C i own Q) n g' (w.setCell C.muA (.int .i32 ({wd with W:=Xq,n:=wd.n-1}:Wd).enc)))/\
   (wd≠o->∃g',XA C.P (i==0) g w=.go g' w #[rd C.muA]/\∃n,cM C i own (Lu C i own HU Q) n g' w)
def AG:Prop:=∀o g w,o.L=WN->o.W=WN->o.S=WN->o.n≠0->o.n<100000000->HU o g w->∃n,cM C i own (Ed C i own HU Q o) n g w
def OQ(g:Xz)(w:Xr):Prop:=
 g.status=.running/\∀wd q,cN C w wd q->wd.L=Xq->wd.n<100000000->
   ∃g',XA C.P (i==0) g w=.go g' (w.setCell C.muA (.int .i32 ({wd with L:=WN}:Wd).enc)) #[rd C.muA,wr C.muA]/\
     (wd.S=Xq->∃n,cM C i own (A5 C i own Q) n g' (w.setCell C.muA (.int .i32 ({wd with L:=WN}:Wd).enc)))/\
     (wd.S=WN->(wd.n=0\/wd.W=Xq)->∃n,cM C i own Q n g' (w.setCell C.muA (.int .i32 ({wd with L:=WN}:Wd).enc)))/\
     (wd.S=WN->wd.n≠0->wd.W=WN->∃n,cM C i own (Ed C i own HU Q {wd with L:=WN}) n g' (w.setCell C.muA (.int .i32 ({wd with L:=WN}:Wd).enc)))
end unlock
def Oh(H:Wd->Bool->Bool->Nat->Xz->Xr->Prop)(Q:Xz->Xr->Prop)(g:Xz)(w:Xr):Prop:=
 g.status=.running/\∀wd q,cN C w wd q->
   (wd=⟨WN,WN,WN,0⟩->∃g',XA C.P (i==0) g w=.go g' (w.setCell C.muA (.int .i32 1)) #[rd C.muA,wr C.muA]/\Q g' (w.setCell C.muA (.int .i32 1)))/\
   (wd≠⟨WN,WN,WN,0⟩->∃g',XA C.P (i==0) g w=.go g' w #[rd C.muA]/\∃n,cM C i own (uK C i own H WN WN 0) n g' w)
def AtD4(g:Xz)(w:Xr):Prop:=
 g.status=.running/\mayWake C.P g=Xq/\(WgAt C.tW C.wg w 0 0->∃g',XA C.P (i==0) g w=.go g' (w.setCell (smA C.wg) (.int .u32 1)) (semEvents (smA C.wg))/\∃q,QuitsD C.P q 1 g')
def AtD3(g:Xz)(w:Xr):Prop:=
 g.status=.running/\(WgAt C.tW C.wg w 1 0->∃g',XA C.P (i==0) g w=.go g' (w.setCell (stA C.wg) (.int .u64 0)) #[wr (stA C.wg)]/\∃n,cM C i own (AtD4 C i) n g' (w.setCell (stA C.wg) (.int .u64 0)))
def AtD2(g:Xz)(w:Xr):Prop:=
 g.status=.running/\(WgAt C.tW C.wg w 1 0->∃g',XA C.P (i==0) g w=.go g' w #[rd (stA C.wg)]/\∃n,cM C i own (AtD3 C i own) n g' w)
def AtD1(g:Xz)(w:Xr):Prop:=
 g.status=.running/\∀v wt:Nat,wt<=1->v<100000000->WgAt C.tW C.wg w ((v+1)*KK+wt) 0->
   ∃g',XA C.P (i==0) g w=.go g' (w.setCell (stA C.wg) (.int .u64 (v*KK+wt))) #[rd (stA C.wg),wr (stA C.wg)]/\
     ((v=0/\wt=1)->∃n,cM C i own (AtD2 C i own) n g' (w.setCell (stA C.wg) (.int .u64 (v*KK+wt))))/\(¬(v=0/\wt=1)->∃q,QuitsD C.P q 1 g')
section wait
variable(A:Xz->Xr->Prop)
def AtAcq(g:Xz)(w:Xr):Prop:=
 g.status=.running/\∃g',XA C.P (i==0) g w=.go g' w #[mk (.acquire (stA C.wg))]/\(dj C w->(∀j,Fin C j w)->cN C w ⟨WN,WN,WN,0⟩ 0->W0 C w->C.End g' w)
def AtKe(g:Xz)(w:Xr):Prop:=
 g.status=.running/\∃g',XA C.P (i==0) g w=.go g' w #[mk .enable]/\∃n,cM C i own (AtAcq C i) n g' w
def AtW4(g:Xz)(w:Xr):Prop:=
 g.status=.running/\(WgAt C.tW C.wg w 0 0->∃g',XA C.P (i==0) g w=.go g' w #[rd (stA C.wg)]/\∃n,cM C i own (AtKe C i own) n g' w)
def AtW3(g:Xz)(w:Xr):Prop:=
 g.status=.running/\g.offers=Xv/\((∃st,WgAt C.tW C.wg w st 0)->XA C.P (i==0) g w=.go {g with status:=.blocked} w #[])/\
   (WgAt C.tW C.wg w 0 1->∃g',XA C.P (i==0) g w=.go g' (w.setCell (smA C.wg) (.int .u32 0)) (semEvents (smA C.wg))/\∃n,cM C i own (AtW4 C i own) n g' (w.setCell (smA C.wg) (.int .u32 0)))
def P6(g:Xz)(w:Xr):Prop:=
 g.status=.running/\∃g',XA C.P (i==0) g w=.go g' w #[mk (.write (smA C.wg))]/\∃n,cM C i own (AtW3 C i own) n g' w
def AtW2(vs:Nat)(g:Xz)(w:Xr):Prop:=
 g.status=.running/\∀v:Nat,v<100000000->WgAt C.tW C.wg w (v*KK) 0->
   (v=vs->∃g',XA C.P (i==0) g w=.go g' (w.setCell (stA C.wg) (.int .u64 (v*KK+1))) #[rd (stA C.wg),wr (stA C.wg)]/\∃n,cM C i own (P6 C i own) n g' (w.setCell (stA C.wg) (.int .u64 (v*KK+1))))/\
   (v≠vs->∃g',XA C.P (i==0) g w=.go g' w #[rd (stA C.wg)]/\∃n,cM C i own A n g' w)
def AtW1(g:Xz)(w:Xr):Prop:=
 g.status=.running/\∀v:Nat,v<100000000->WgAt C.tW C.wg w (v*KK) 0->∃g',XA C.P (i==0) g w=.go g' w #[rd (stA C.wg)]/\
   (v=0->∃n,cM C i own (AtKe C i own) n g' w)/\(v≠0->∃n,cM C i own (AtW2 C i own A v) n g' w)
def zj:Prop:=∀g w,A g w->∃n,cM C i own (AtW1 C i own A) n g w
end wait
def TZ(c:Nat->Xz->Xr->Prop)(g:Xz)(w:Xr):Prop:=
 g.status=.running/\∀v:Nat,v<100000000->WgAt C.tW C.wg w (v*KK) 0->
   ∃g',XA C.P (i==0) g w=.go g' (w.setCell (stA C.wg) (.int .u64 ((v+1)*KK))) #[rd (stA C.wg),wr (stA C.wg)]/\c v g' (w.setCell (stA C.wg) (.int .u64 ((v+1)*KK)))
end stops
abbrev Ix:=Xz×Xr×Xr
inductive fO:Nat->Nat->Md->Rk Ix->(Nat->Prop)->Xz->Xr->Prop
 |step{i j:Nat}{m:Md}{f:Ix->Rk Ix}{own:Nat->Prop}{g:Xz}{v:Xr}:g.status=.running->m.said=WN->
  (∀v1,Env C i (fp C m own) v v1->∃g' v' es,XA C.P (i==0) g v1=.go g' v' es/\lj C (fp C m own) v1 v' es)->
  (∀v1 g' v' es,Env C i (fp C m own) v v1->XA C.P (i==0) g v1=.go g' v' es->fO i j m (f (g',v1,v')) (ab.more own v1 v') g' v')->fO i j m (.s f) own g v
 |idle{i j:Nat}{m:Md}{f:Ix->Rk Ix}{own:Nat->Prop}{g:Xz}{v:Xr}:g.status=.running->
  (∀v1,Env C i (fp C m own) v v1->∃g' v',XA C.P (i==0) g v1=.go g' v' #[]/\DL v1 v' #[])->
  (∀v1 g' v' es,Env C i (fp C m own) v v1->XA C.P (i==0) g v1=.go g' v' es->fO i j m (f (g',v1,v')) own g' v')->fO i j m (.s f) own g v
 |mark{i j:Nat}{m m':Md}{k:Mark}{f:Ix->Rk Ix}{own:Nat->Prop}{g:Xz}{v:Xr}:g.status=.running->iR C i m k m'->
  (∀v1,Env C i (fp C m own) v v1->∃g',XA C.P (i==0) g v1=.go g' v1 #[mk k])->(k=.releaseMerge C.muA->m=.own/\ar C v)->(k=.releaseMerge (stA C.wg)->Fin C i v)->
  (∀v1 g' v' es,Env C i (fp C m own) v v1->(k=.acquire C.muA->ar C v1)->XA C.P (i==0) g v1=.go g' v' es->fO i j m' (f (g',v1,v1)) own g' v1)->fO i j m (.s f) own g v
 |lock{i j:Nat}{f:Ix->Rk Ix}{own:Nat->Prop}{g:Xz}{v:Xr}(H:Wd->Bool->Bool->Nat->Xz->Xr->Prop)(Q:Xz->Xr->Prop):g.status=.running->C.wk i->
  (∀g v1 v2,Q g v1->Env C i own v1 v2->Q g v2)->ji C i own H Q->(∀v1,Env C i own v v1->Oh C i own H Q g v1)->
  (∀g' v1,Env C i own v v1->Q g' v1->fO i j .mK (f (g',v1,v1)) own g' v1)->fO i j .bC (.s λ_=>.s f) own g v
 |unlock{i j:Nat}{f:Ix->Rk Ix}{own:Nat->Prop}{g:Xz}{v:Xr}(HU:Wd->Xz->Xr->Prop)(Q:Xz->Xr->Prop):g.status=.running->C.wk i->
  (∀g v1 v2,Q g v1->Env C i own v1 v2->Q g v2)->AG C i own HU Q->(∀v1,Env C i own v v1->OQ C i own HU Q g v1)->
  (∀g' v1,Env C i own v v1->Q g' v1->fO i j .bC (f (g',v1,v1)) own g' v1)->fO i j .mK (.s λ_=>.s f) own g v
 |put{i j:Nat}{f:Ix->Rk Ix}{own:Nat->Prop}{g:Xz}{v:Xr}:g.status=.running->i≠0->
  (∀v1,Env C i own v v1->dj C v1->∃g' v' es,XA C.P (i==0) g v1=.go g' v' es/\Ss C i v1 v' es)->
  (∀v1 g' v' es,Env C i own v v1->dj C v1->XA C.P (i==0) g v1=.go g' v' es->fO i j .free (f (g',v1,v')) own g' v')->fO i j .free (.s f) own g v
 |done{i j:Nat}{own:Nat->Prop}{g:Xz}{v:Xr}:i≠0->(∀v1,Env C i own v v1->AtD1 C i own g v1)->fO i j .uQ (.s λ_=>.z) own g v
 |add{i x:Nat}{f:Ix->Rk Ix}{own:Nat->Prop}{g:Xz}{v:Xr}(c:Nat->Xz->Xr->Prop):i=0->(∀v1,Env C i own v v1->TZ C i c g v1)->
  (∀v1 y g',Env C i own v v1->c y g' v1->fO i (2*x+1) .bC (f (g',v1,v1)) own g' v1)->fO i (2*x) .bC (.s f) own g v
 |spawn{i x:Nat}{f ρ:Ix->Rk Ix}{own ownc:Nat->Prop}{g:Xz}{v:Xr}:i=0->g.status=.running->x<C.n->(∀k,ownc k->own k)->
  (∀v1,Env C i own v v1->∃g' child,XA C.P (i==0) g v1=.spawn g' child v1 #[]/\child.status=.running)->
  (∀v1 g' child v' es,Env C i own v v1->XA C.P (i==0) g v1=.spawn g' child v' es->fO (C.base+x) 0 .free (ρ (child,v1,v1)) ownc child v1)->
  (∀v1 g' child v' es,Env C i own v v1->XA C.P (i==0) g v1=.spawn g' child v' es->fO i (2*x+2) .free (f (g',v1,v1)) (λk=>own k/\¬ownc k) g' v1)->
  fO i (2*x+1) .free (.s f) own g v
 |wait{i:Nat}{own:Nat->Prop}{g:Xz}{v:Xr}(A:Xz->Xr->Prop):i=0->zj C i own A->(∃n,cM C i own A n g v)->fO i (2*C.n) .bC .z own g v
 |stop{i j:Nat}{own:Nat->Prop}{g:Xz}{v:Xr}:C.solo->g.status=.running->(∀v1,Env C i own v v1->C.halt own g v1)->fO i j .free .z own g v
end
section
variable{C:Cx}{i j:Nat}{m:Md}{own:Nat->Prop}{v v1 v2:Xr}
theorem Env.refl:Env C i own v v:=⟨λ_ _=>rfl,UB _,id,λ_ _=>rfl⟩
theorem Env.trans(h:Env C i own v v1)(k:Env C i own v1 v2):Env C i own v v2:=⟨λx b=>(k.keep x b).trans (h.keep x b),UO h.grow k.grow,λx=>k.aL (h.aL x),λo a=>(k.Bg o a).trans (h.Bg o a)⟩
theorem Env.sub{own':Nat->Prop}(h:Env C i own v v1)(b:∀k,own' k->own k):Env C i own' v v1:=⟨λk a=>h.keep k (a.imp (b k) id),h.grow,h.aL,h.Bg⟩
theorem Env.fG(h:Env C i (fp C m own) v v1):Env C i own v v1:=h.sub λ_ a=>.inl a
theorem Env.Ly(h:Env C i own v v1)(b:m.tok=WN):Env C i (fp C m own) v v1:=h.sub λ_ a=>a.resolve_right (by simp[b])
theorem Env.UA(l:C.pre.size=C.mo)(a:dj C v)(h:Env C i O v v1):ab.Env O C.RO C.CU v v1:=⟨h.keep,λk n e x t f p=>by obtain⟨rfl,o⟩:=e;obtain⟨s,q,c⟩:=a.port;obtain⟨u,r,d⟩:=(h.aL a).port;unfold av at c d;grind,h.grow⟩
theorem bE(a b c:Xr)(h:Env C i own a b)(k:Env C i own b c):Env C i own a c:=h.trans k
theorem ar.env(h:ar C v)(e:Env C i own v v1)(f:own C.mm):ar C v1:=by obtain⟨b,⟨a,d⟩,c⟩:=h;exact⟨b,⟨a,(e.keep _ (.inl f)).trans d⟩,c⟩
theorem Fin.env(h:Fin C i v)(b:Env C i own v v1):Fin C i v1:=λo a=>(b.Bg o a).trans (h o a)
theorem fO.env{ρ:Rk Ix}(h:fO C i j m ρ own g v)(b:Env C i (fp C m own) v v1):fO C i j m ρ own g v1:=by cases h with|step d f k p=>exact .step d f (λx a=>k x (b.trans a)) λx l q o a=>p x l q o (b.trans a)|idle d f k=>exact .idle d (λx a=>f x (b.trans a)) λx l q o a=>k x l q o (b.trans a)|mark d f k p s t=>exact .mark d f (λx a=>k x (b.trans a)) (λe=>⟨(p e).1,(p e).2.env b (by rw[(p e).1];exact .inr ⟨rfl,rfl⟩)⟩) (λe=>(s e).env b) λx l q o a=>t x l q o (b.trans a)|lock H Q d r f k p s=>exact .lock H Q d r f k (λx a=>p x (b.fG.trans a)) λl x a=>s l x (b.fG.trans a)|unlock H Q d r f k p s=>exact .unlock H Q d r f k (λx a=>p x (b.fG.trans a)) λl x a=>s l x (b.fG.trans a)|put d r f k=>exact .put d r (λx a=>f x (b.fG.trans a)) λx l q o a=>k x l q o (b.fG.trans a)|done r d=>exact .done r λx a=>d x (b.fG.trans a)|add c d f k=>exact .add c d (λx a=>f x (b.fG.trans a)) λx y l a=>k x y l (b.fG.trans a)|spawn d f k p s t u=>exact .spawn d f k p (λx a=>s x (b.fG.trans a)) (λx l c q o a=>t x l c q o (b.fG.trans a)) λx l c q o a=>u x l c q o (b.fG.trans a)|wait A d f k=>exact .wait A d f (k.imp λn w=>w.rely bE b.fG)|stop d f k=>exact .stop d f λx a=>k x (b.fG.trans a)
theorem fO.running{ρ:Rk Ix}(h:fO C i j m ρ own g v):g.status=.running\/∃n A,cM C i own A n g v/\zj C i own A:=by cases h with|wait A b a d=>grind|done _ h=>exact .inl (h v .refl).1|add c b a=>exact .inl (a v .refl).1|_=>simp_all
def af(C:Cx)(i j:Nat)(m:Md)(own:Nat->Prop)(g:Xz)(v:Xr):Prop:=∃ρ,fO C i j m ρ own g v
open Classical in
noncomputable def zR(p:Ix->Rk Ix->Prop)(x:Ix):Rk Ix:=if h:∃ρ,p x ρ then Classical.choose h else .z
theorem fL{p:Ix->Rk Ix->Prop}{x:Ix}(h:∃ρ,p x ρ):p x (zR p x):=by unfold zR;grind
theorem af.env(h:af C i j m own g v)(a:Env C i (fp C m own) v v1):af C i j m own g v1:=h.imp λ_ k=>k.env a
theorem wx{w w':Xr}{es':Array Ye}(h:GStep.go g w es=.go g' w' es'):g=g'/\w=w'/\es=es':=by simp_all
theorem af.step(q:g.status=.running)(o:m.said=WN)(h:∀v1,Env C i (fp C m own) v v1->∃g' d es,XA C.P (i==0) g v1=.go g' d es/\lj C (fp C m own) v1 d es/\af C i j m (ab.more own v1 d) g' d):af C i j m own g v:=by refine⟨.s (zR λx f=>fO C i j m f (ab.more own x.2.1 x.2.2) x.1 x.2.2),.step q o (λx k=>?_) λx g' d es k e=>?_⟩;{grind};obtain⟨n,v2,l,a,_,c⟩:=h x k;rw[a]at e;obtain⟨rfl,rfl,rfl⟩:=wx e;exact fL (p:=λx f=>fO C i j m f (ab.more own x.2.1 x.2.2) x.1 x.2.2) c
theorem af.idle(l:g.status=.running)(h:∀v1,Env C i (fp C m own) v v1->∃g' b,XA C.P (i==0) g v1=.go g' b #[]/\DL v1 b #[]/\af C i j m own g' b):af C i j m own g v:=by refine⟨.s (zR λx d=>fO C i j m d own x.1 x.2.2),.idle l (λx f=>?_) λx g' b n f e=>?_⟩;{grind};obtain⟨k,v2,a,_,c⟩:=h x f;rw[a]at e;obtain⟨rfl,rfl,rfl⟩:=wx e;exact fL (p:=λx d=>fO C i j m d own x.1 x.2.2) c
theorem cO(w:Xr):DL w w #[]:=⟨rfl,rfl,rfl,.refl _,rfl⟩
theorem af.ctl(a:g.status=.running)(h:∀w,XA C.P (i==0) g w=.go g' w #[])(k:af C i j m own g' v):af C i j m own g v:=.idle a λx b=>⟨g',x,h x,cO x,k.env b⟩
theorem af.mark{m':Md}{k:Mark}(r:g.status=.running)(q:iR C i m k m')(l:k=.releaseMerge C.muA->m=.own/\ar C v)(n:k=.releaseMerge (stA C.wg)->Fin C i v)(h:∀v1,Env C i (fp C m own) v v1->∃g',XA C.P (i==0) g v1=.go g' v1 #[mk k]/\((k=.acquire C.muA->ar C v1)->af C i j m' own g' v1)):af C i j m own g v:=by refine⟨.s (zR λx b=>fO C i j m' b own x.1 x.2.1),.mark r q (λx d=>?_) l n λx g' u t d o e=>?_⟩;{grind};obtain⟨f,a,c⟩:=h x d;rw[a]at e;obtain⟨rfl,rfl,rfl⟩:=wx e;exact fL (p:=λx b=>fO C i j m' b own x.1 x.2.1) (c o)
theorem af.lock(d:C.wk i)(H:Wd->Bool->Bool->Nat->Xz->Xr->Prop)(Q:Xz->Xr->Prop)(l:g.status=.running)(c:∀g v1 v2,Q g v1->Env C i own v1 v2->Q g v2)(b:ji C i own H Q)(h:∀v1,Env C i own v v1->Oh C i own H Q g v1)(k:∀g' v1,Env C i own v v1->Q g' v1->af C i j .mK own g' v1):af C i j .bC own g v:=⟨_,.lock H Q l d c b h λg' x n e=>fL (p:=λx a=>fO C i j .mK a own x.1 x.2.1) (k g' x n e)⟩
theorem af.unlock(e:C.wk i)(a:Wd->Xz->Xr->Prop)(Q:Xz->Xr->Prop)(n:g.status=.running)(d:∀g v1 v2,Q g v1->Env C i own v1 v2->Q g v2)(c:AG C i own a Q)(h:∀v1,Env C i own v v1->OQ C i own a Q g v1)(k:∀g' v1,Env C i own v v1->Q g' v1->af C i j .bC own g' v1):af C i j .mK own g v:=⟨_,.unlock a Q n e d c h λg' x o l=>fL (p:=λx b=>fO C i j .bC b own x.1 x.2.1) (k g' x o l)⟩
theorem af.put(o:i≠0)(q:g.status=.running)(h:∀v1,Env C i own v v1->dj C v1->∃g' b es,XA C.P (i==0) g v1=.go g' b es/\Ss C i v1 b es/\af C i j .free own g' b):af C i j .free own g v:=by refine⟨.s (zR λx d=>fO C i j .free d own x.1 x.2.2),.put q o (λx k f=>?_) λx g' b es k f e=>?_⟩;{grind};obtain⟨n,v2,l,a,_,c⟩:=h x k f;rw[a]at e;obtain⟨rfl,rfl,rfl⟩:=wx e;exact fL (p:=λx d=>fO C i j .free d own x.1 x.2.2) c
theorem af.done(a:i≠0)(h:∀v1,Env C i own v v1->AtD1 C i own g v1):af C i j .uQ own g v:=⟨_,.done a h⟩
theorem af.add{x:Nat}(c:Nat->Xz->Xr->Prop)(b:i=0)(h:∀v1,Env C i own v v1->TZ C i c g v1)(k:∀v1 y g',Env C i own v v1->c y g' v1->af C i (2*x+1) .bC own g' v1):af C i (2*x) .bC own g v:=⟨_,.add c b h λv1 y g' e d=>fL (p:=λz a=>fO C i (2*x+1) .bC a own z.1 z.2.1) (k v1 y g' e d)⟩
theorem af.spawn{x:Nat}{ownc:Nat->Prop}(A:i=0)(E:g.status=.running)(B:x<C.n)(D:∀k,ownc k->own k)(h:∀v1,Env C i own v v1->∃g' b,XA C.P (i==0) g v1=.spawn g' b v1 #[]/\b.status=.running/\af C (C.base+x) 0 .free ownc b v1/\af C i (2*x+2) .free (λk=>own k/\¬ownc k) g' v1):af C i (2*x+1) .free own g v:=by refine⟨_,.spawn (f:=zR λz l=>fO C i (2*x+2) .free l (λk=>own k/\¬ownc k) z.1 z.2.1) (ρ:=zR λz l=>fO C (C.base+x) 0 .free l ownc z.1 z.2.1) A E B D (λv1 n=>?_) (λv1 g' c F y n e=>?_) λv1 g' c F y n e=>?_⟩;{grind};{obtain⟨w,t,a,_,d,u⟩:=h v1 n;rw[a]at e;injection e with o q r s;subst o q r s;exact fL (p:=λz l=>fO C (C.base+x) 0 .free l ownc z.1 z.2.1) d};obtain⟨w,t,a,_,d,u⟩:=h v1 n;rw[a]at e;injection e with o q r s;subst o q r s;exact fL (p:=λz l=>fO C i (2*x+2) .free l (λk=>own k/\¬ownc k) z.1 z.2.1) u
theorem af.stop(b:C.solo)(a:g.status=.running)(h:∀v1,Env C i own v v1->C.halt own g v1):af C i j .free own g v:=⟨_,.stop b a h⟩
theorem af.wait(A:Xz->Xr->Prop)(a:i=0)(b:zj C i own A)(h:∃n,cM C i own A n g v):af C i (2*C.n) .bC own g v:=⟨_,.wait A a b h⟩
theorem lj.Ny(h:ab.lj own C.RO C.CU v v' es):lj C own v v' es:=⟨h.keep,h.grow,h.os,h.out,h.tape,λe b=>by rcases h.evs e b with x|⟨k,n,o,⟨rfl,d⟩,c,rfl⟩|x;{exact .inl (.inl x)};{exact .inr ⟨o,by omega,rfl⟩};exact .inl (.inr (.inr x))⟩
theorem lj.sub{v':Xr}{es:Array Ye}{own':Nat->Prop}(h:lj C own v v' es)(b:∀k,own k->own' k):lj C own' v v' es:=⟨λk l n=>h.keep k l λx=>n (b k x),h.grow,h.os,h.out,h.tape,λe f=>by rcases h.evs e f with x|x;{refine .inl ?_;rcases x with⟨k,c,a,d⟩|x;{refine .inl ⟨k,c,?_,d⟩;rcases a with(a|a)|a;{exact .inl (.inl (b k a))};{exact .inl (.inr a)};simp_all};exact .inr x};exact .inr x⟩
theorem u7:ab.more (fp C m own) v v'=fp C m (ab.more own v v'):=by funext k;simp only[ab.more,fp];grind
def ml(C:Cx)(own:Nat->Prop):Prop:=∀b,own b->b≠C.mu/\b≠C.mm/\b≠C.wg/\b≠C.out
theorem dj.mine(l:dj C v)(h:lj C O v v' es)(e:¬O C.mu)(f:¬O C.wg)(k:¬O C.out):dj C v':=by obtain⟨⟨s,q,b⟩,⟨x,y,c⟩,⟨d,a,n⟩⟩:=l;exact⟨⟨s,q,(h.keep _ (UD.1 b).1 e).trans b⟩,⟨x,y,(h.keep _ (UD.1 c).1 f).trans c⟩,⟨d,(h.keep _ (UD.1 a).1 k).trans a,n⟩⟩
theorem ml.more(h:ml C own)(d:dj C v)(l:C.mm<v.heap.size):ml C (ab.more own v v'):=λb a=>by rcases a with a|a;{exact h b a};obtain⟨⟨s,q,e⟩,⟨x,y,p⟩,⟨k,o,n⟩⟩:=d;have f:=(UD.1 e).1;grind
theorem ml.not(b:C.Ok)(h:ml C own):¬fp C m own C.mu/\¬fp C m own C.wg/\¬fp C m own C.out:=by refine⟨?_,?_,?_⟩<;>rintro(a|⟨_,a⟩);{exact(h _ a).1 rfl};{exact b.lL a};{exact(h _ a).2.2.1 rfl};{exact b.nH a.symm};{exact(h _ a).2.2.2 rfl};exact b.my a.symm
theorem dj.step(a:C.Ok)(b:ml C own){v':Xr}{es:Array Ye}(c:dj C v)(h:lj C (fp C m own) v v' es):dj C v':=c.mine h (b.not a).1 (b.not a).2.1 (b.not a).2.2
theorem af.loc(t:C.Ok)(A:m.said=WN){Stop:(Nat->Prop)->Xz->Xr->Prop}(h:ab.Loc C.P (i==0) C.RO C.CU Stop O g v):∀own,O=fp C m own->ml C own->C.mm<v.heap.size->dj C v->(∀own g v,ml C own->C.mm<v.heap.size->dj C v->Stop (fp C m own) g v->af C i j m own g v)->af C i j m own g v:=by induction h with|stop h=>exactλown e n p l k=>k _ _ _ n p l (e▸h)|step z y _ B=>intro own e n p l k;subst e;refine .step z A λx q=>?_;have f:=q.UA t.pre l;obtain⟨s,u,r,a,b⟩:=y x f;have o:=lj.Ny b;have c:=q.aL l;have d:=UC p q.grow;exact⟨s,u,r,a,o,B x s u r f a _ u7 (n.more c d) (UC d o.grow) (c.step t n o) k⟩
end
end Go.Cr
namespace Go.Cr
open Go.Conc Go.Mx Go.Rk
open Go.ConcR(KK WgAt wgBlock stA smA rd wr mk)
open Go.ConcM(OsLater)
variable{es:Array Ye}{s q:Int}{ty:XI}{g:Nat}
section
variable{C:Cx}{i i':Nat}{own own':Nat->Prop}{w w' w1:Xr}
structure lU(C:Cx)(i:Nat)(own:Nat->Prop)(w w':Xr):Prop where
 keep:∀k,k<w.heap.size->¬own k->k≠C.mu->k≠C.wg->k≠C.out->w'.heap[k]?=w.heap[k]?
 grow:w.heap.size<=w'.heap.size
 aL:dj C w->dj C w'
 Bg:∀o,¬C.oc i o->w'.cell? ⟨C.out,o,Xv⟩=w.cell? ⟨C.out,o,Xv⟩
 os:OsLater w.os w'.os
 out:w'.output=w.output
 tape:w'.tape=w.tape
theorem lU.env(f:C.Ok)(h:lU C i own w w')(l:i'≠i)(j:∀k,own' k->¬own k)(n:∀k,own' k->k<w.heap.size/\k≠C.mu/\k≠C.wg/\k≠C.out)(g:∀k,C.RO k->k<w.heap.size/\¬own k):Env C i' own' w w':=⟨λk e=>by rcases e with e|e;{obtain⟨a,b,c,d⟩:=n k e;exact h.keep k a (j k e) b c d};obtain⟨a,_,b,c⟩:=f.ro k e;exact h.keep k (g k e).1 (g k e).2 a b c,h.grow,h.aL,λo m=>h.Bg o λx=>l (f.oc _ _ _ m x)⟩
theorem cell_of_block{a:Yc}(h:w'.heap[a.block]?=w.heap[a.block]?):w'.cell? a=w.cell? a:=by simp[Xr.cell?,h]
theorem jf(h:dj C w):C.mu<w.heap.size/\C.wg<w.heap.size/\C.out<w.heap.size:=by obtain⟨⟨s,q,c⟩,⟨a,b,d⟩,⟨f,e,_⟩⟩:=h;exact⟨(UD.1 c).1,(UD.1 d).1,(UD.1 e).1⟩
theorem dj.gD(h:dj C w)(f:w'.heap[C.mu]?=w.heap[C.mu]?)(g:w'.heap[C.wg]?=w.heap[C.wg]?)(j:w'.heap[C.out]?=w.heap[C.out]?):dj C w':=by obtain⟨⟨s,q,a⟩,⟨x,y,b⟩,⟨e,c,d⟩⟩:=h;exact⟨⟨s,q,f.trans a⟩,⟨x,y,g.trans b⟩,⟨e,j.trans c,d⟩⟩
theorem lU.C8(d:dj C w)(h:lj C own w w' es)(f:¬own C.mu)(g:¬own C.wg)(e:¬own C.out):lU C i own w w':=by obtain⟨a,b,c⟩:=jf d;exact⟨λk j l _ _ _=>h.keep k j l,h.grow,λd=>d.gD (h.keep _ a f) (h.keep _ b g) (h.keep _ c e),λo _=>cell_of_block (h.keep _ c e),by rw[h.os];exact .refl _,h.out,h.tape⟩
theorem lU.Cv(h:DL w w' es):lU C i own w w':=⟨λk _ _ _ _ _=>by rw[h.heap],by rw[h.heap];omega,λa=>a.gD (by rw[h.heap]) (by rw[h.heap]) (by rw[h.heap]),λo _=>cell_of_block (by rw[h.heap]),h.os,h.out,h.tape⟩
theorem lU.refl:lU C i own w w:=.Cv (cO w)
theorem lU.NY(c:C.Ok)(h:Ss C i w w' es):lU C i own w w':=⟨λk _ _ _ _ d=>h.keep k d,by rw[h.size];omega,λb=>⟨by obtain⟨s,q,a⟩:=b.port;exact⟨s,q,(h.keep _ c.fT).trans a⟩,by obtain⟨s,q,a⟩:=b.gx;exact⟨s,q,(h.keep _ c.iN).trans a⟩,h.blk b.uE⟩,h.cells,by rw[h.os];exact .refl _,h.out,h.tape⟩
theorem ag(w:Xr)(a:Yc)(v:Xu){k:Nat}(h:k≠a.block):(w.setCell a v).heap[k]?=w.heap[k]?:=by simp only[Xr.setCell];grind
theorem gO(w:Xr)(a:Yc)(v:Xu){cs:Array Xu}{t:XI}{fr:Nat×Nat}(b:a.spot=Xv)(h:w.heap[a.block]?=Xp (.cells cs t fr)):(w.setCell a v).heap[a.block]?=Xp (.cells (cs.setIfInBounds a.off v) t fr):=by simp only[Xr.setCell];grind
theorem cR(w:Xr)(a:Yc)(v:Xu):(w.setCell a v).heap.size=w.heap.size:=by simp
theorem av.setSt(a:C.Ok)(h:av C w s q)(s':Int):av C (w.setCell C.muA (.int .i32 s')) s' q:=by unfold av at h⊢;rw[show C.mu=C.muA.block from rfl,gO w C.muA _ rfl h];congr 2;show(C.pre++#[Xu.int .i32 s,Xu.int .u32 q]).setIfInBounds C.mo (Xu.int .i32 s')=C.pre++#[Xu.int .i32 s',Xu.int .u32 q];rw[<-a.pre];simp
theorem av.setSm(b:C.Ok)(h:av C w s q)(a:Int):av C (w.setCell C.msA (.int .u32 a)) s a:=by unfold av at h⊢;rw[show C.mu=C.msA.block from rfl,gO w C.msA _ rfl h];congr 2;show(C.pre++#[Xu.int .i32 s,Xu.int .u32 q]).setIfInBounds (C.mo+1) (Xu.int .u32 a)=C.pre++#[Xu.int .i32 s,Xu.int .u32 a];rw[<-b.pre];simp
theorem lU.set(a:Yc)(v:Xu)(c:a.block=C.mu\/a.block=C.wg)(b:C.Ok)(d:dj C w->dj C (w.setCell a v)):lU C i own w (w.setCell a v):=⟨λk _ _ e f _=>ag w a v (by omega),by simp,d,λo _=>cell_of_block (ag w a v (by rcases c with h|h<;>rw[h];{exact b.fT.symm};exact b.iN.symm)),.refl _,rfl,rfl⟩
theorem lU.st(c:C.Ok)(s':Int):lU C i own w (w.setCell C.muA (.int .i32 s')):=.set _ _ (.inl rfl) c λd=>⟨by obtain⟨s,q,a⟩:=d.port;exact⟨s',q,a.setSt c s'⟩,by obtain⟨s,q,a⟩:=d.gx;exact⟨s,q,(ag w C.muA _ c.gd.symm).trans a⟩,by obtain⟨e,a,b⟩:=d.uE;exact⟨e,(ag w C.muA _ c.fT.symm).trans a,b⟩⟩
theorem lU.sm(c:C.Ok)(s':Int):lU C i own w (w.setCell C.msA (.int .u32 s')):=.set _ _ (.inl rfl) c λd=>⟨by obtain⟨s,q,a⟩:=d.port;exact⟨s,s',a.setSm c s'⟩,by obtain⟨s,q,a⟩:=d.gx;exact⟨s,q,(ag w C.msA _ c.gd.symm).trans a⟩,by obtain⟨e,a,b⟩:=d.uE;exact⟨e,(ag w C.msA _ c.fT.symm).trans a,b⟩⟩
theorem kU{st sm:Int}(h:WgAt ty g w st sm)(v:Int):WgAt ty g (w.setCell (stA g) (.int .u64 v)) v sm:=by unfold WgAt wgBlock at h⊢;exact(gO w (stA g) _ rfl h).trans rfl
theorem oO{st sm:Int}(h:WgAt ty g w st sm)(v:Int):WgAt ty g (w.setCell (smA g) (.int .u32 v)) st v:=by unfold WgAt wgBlock at h⊢;exact(gO w (smA g) _ rfl h).trans rfl
theorem On{st sm st' sm':Int}(h:WgAt ty g w st sm)(k:WgAt ty g w st' sm'):st=st'/\sm=sm':=by unfold WgAt wgBlock at h k;simp_all
theorem lU.iL(c:C.Ok)(f:C.tD=wgBlock C.tW)(s':Int):lU C i own w (w.setCell (stA C.wg) (.int .u64 s')):=.set _ _ (.inr rfl) c λd=>⟨by obtain⟨s,q,a⟩:=d.port;exact⟨s,q,(ag w (stA C.wg) _ c.gd).trans a⟩,by obtain⟨s,q,a⟩:=d.gx;rw[f]at a⊢;exact⟨s',q,kU a s'⟩,by obtain⟨e,a,b⟩:=d.uE;exact⟨e,(ag w (stA C.wg) _ c.iN.symm).trans a,b⟩⟩
theorem lU.TM(c:C.Ok)(f:C.tD=wgBlock C.tW)(s':Int):lU C i own w (w.setCell (smA C.wg) (.int .u32 s')):=.set _ _ (.inr rfl) c λd=>⟨by obtain⟨s,q,a⟩:=d.port;exact⟨s,q,(ag w (smA C.wg) _ c.gd).trans a⟩,by obtain⟨s,q,a⟩:=d.gx;rw[f]at a⊢;exact⟨s,s',oO a s'⟩,by obtain⟨e,a,b⟩:=d.uE;exact⟨e,(ag w (smA C.wg) _ c.iN.symm).trans a,b⟩⟩
theorem Env.Fi(f:C.Ok)(h:lU C i (λ_=>False) w w')(l:∀k,own k->k<w.heap.size/\k≠C.mu/\k≠C.wg/\k≠C.out)(j:∀k,C.RO k->k<w.heap.size)(g:∀o,C.oc i o->w'.cell? ⟨C.out,o,Xv⟩=w.cell? ⟨C.out,o,Xv⟩):Env C i own w w':=⟨λk e=>by rcases e with e|e;{obtain⟨a,b,c,d⟩:=l k e;exact h.keep k a id b c d};obtain⟨a,_,b,c⟩:=f.ro k e;exact h.keep k (j k e) id a b c,h.grow,h.aL,g⟩
end
end Go.Cr
namespace Go.Lw
open Go.Proofs Go.Conc Go.Mx Go.Rk Go.Cr Go.RowKit Go.Conc.Lib Go.ConcR.Gen
open Go.ConcR(KK WgAt stA smA rd wr mk DC0)
open Go.ConcM(goes_pad goes_le OsLater)
variable{C:Cx}{i j:Nat}{m:Md}{own:Nat->Prop}{g:Xz}{v w:Xr}{S:Xz->Xr->Prop}{K:Xr->Prop}{s q:Int}
section
instance:Go.ConcR.Payload:=⟨3⟩
variable{w1:Xr}
theorem PE{w':Xr}{es:Array Ye}(h:DC0 w w' es):DL w w' es:=by obtain⟨rfl,rfl⟩:=h;exact cO _
theorem yw{K K':Xz->Xr->Array Ye->Prop}{s:GStep}(h:∀g w es,K g w es->K' g w es)(k:s.goes K):s.goes K':=by cases s<;>first|exact h _ _ _ k|exact k
theorem Nb{k:Nat}:∀{n:Nat}{g:Xz}{v:Xr},Goes C.P (i==0) (Env C i own) DC0 (cM C i own S k) n g v->cM C i own S (k+n) g v|0,_,_,h=>h _ .refl|n+1,g,v,h=>by rcases h with h|⟨c,h⟩;{exact goes_pad (h _ .refl) _};refine .inr ⟨c,λx d=>yw (λg w e b=>?_) (h x d)⟩;exact⟨PE b.1,Nb b.2⟩
def Kn(C:Cx)(i:Nat)(own:Nat->Prop)(v w:Xr):Prop:=Env C i own v w/\dj C w
theorem QX:(f113.name== "runtime.NumGoroutine")=WN:=Ψ
theorem QK:(f144.name== "runtime.NumGoroutine")=WN:=Ψ
theorem Ro:(f145.name== "runtime.NumGoroutine")=WN:=Ψ
theorem Rd:(f166.name== "runtime.NumGoroutine")=WN:=Ψ
theorem QF:(f168.name== "runtime.NumGoroutine")=WN:=Ψ
theorem Ps:(f127.name== "runtime.NumGoroutine")=WN:=Ψ
theorem Ns:f127.body.isNone=Xq:=Ψ
theorem Np:Extern.findNext f127=Xv:=Ψ
theorem NU:Extern.find f127=Xp (λ_=>do mark .disable;pure Extern.Race.none_):=Ψ
theorem OR:(f128.name== "runtime.NumGoroutine")=WN:=Ψ
theorem O3:f128.body.isNone=Xq:=Ψ
theorem OV:Extern.findNext f128=Xv:=Ψ
theorem Pk:Extern.find f128=Xp (λ_=>do mark .enable;pure Extern.Race.none_):=Ψ
theorem NC:(f139.name== "runtime.NumGoroutine")=WN:=Ψ
theorem Nf:f139.body.isNone=Xq:=Ψ
theorem Ph:Extern.findNext f139=Xv:=Ψ
theorem NT:Extern.find f139=Xp (Extern.Race.marked .acquire):=Ψ
theorem OS:(f126.name== "runtime.NumGoroutine")=WN:=Ψ
theorem NH:f126.body.isNone=Xq:=Ψ
theorem Ov:Extern.findNext f126=Xv:=Ψ
theorem Nd:Extern.find f126=Xp (Extern.Race.marked .releaseMerge):=Ψ
theorem H9:(f165.name== "runtime.NumGoroutine")=WN:=Ψ
theorem Gc:f165.body.isNone=Xq:=Ψ
theorem Gb:Extern.findNext f165=Xv:=Ψ
theorem F5:Extern.find f165=Xp (Extern.Atomic.casT (.int .i32)):=Ψ
theorem OT:(f167.name== "runtime.NumGoroutine")=WN:=Ψ
theorem Pq:f167.body.isNone=Xq:=Ψ
theorem OM:Extern.findNext f167=Xv:=Ψ
theorem Og:Extern.find f167=Xp (Extern.Atomic.update (Op.intArith .add) .i32 Xq):=Ψ
theorem IV:(f182.name== "runtime.NumGoroutine")=WN:=Ψ
theorem IS:f182.body.isNone=Xq:=Ψ
theorem E9:Extern.findNext f182=Xv:=Ψ
theorem FL:Extern.find f182=Xp (Extern.Sync.canSpin):=Ψ
theorem OJ:(f183.name== "runtime.NumGoroutine")=WN:=Ψ
theorem NA:f183.body.isNone=Xq:=Ψ
theorem NW:Extern.findNext f183=Xv:=Ψ
theorem Py:Extern.find f183=Xp (λ_=>pure (.tuple #[])):=Ψ
theorem PD:(f185.name== "runtime.NumGoroutine")=WN:=Ψ
theorem Ol:f185.body.isNone=Xq:=Ψ
theorem Nv:Extern.findNext f185=Xv:=Ψ
theorem OY:Extern.find f185=Xp (Extern.OsHooks.nano):=Ψ
theorem PC:f185.norace=Xq:=Ψ
theorem FU:(f186.name== "runtime.NumGoroutine")=WN:=Ψ
theorem Hb:f186.body.isNone=Xq:=Ψ
theorem G4:Extern.findNext f186=Xv:=Ψ
theorem Gr:Extern.find f186=Xp (Extern.Sync.semacquire):=Ψ
theorem N0:(f188.name== "runtime.NumGoroutine")=WN:=Ψ
theorem OG:f188.body.isNone=Xq:=Ψ
theorem N9:Extern.findNext f188=Xv:=Ψ
theorem O6:Extern.find f188=Xp (Extern.Sync.semrelease):=Ψ
theorem Tu:(Pz.funcs[(base 145).fn]?).any (·.norace)=Xq:=Ψ
theorem J7:(Pz.funcs[(base 166).fn]?).any (·.norace)=Xq:=Ψ
theorem Tj:(Pz.funcs[(base 168).fn]?).any (·.norace)=Xq:=Ψ
section
variable{main:Bool}{b:XF}{a:Yh}{kk:List X3}{cs:List XF}{ops:Array Yk}{rest:List Nat}{o:Yk}
theorem yA{x:XR}(p:ops[i]?=Xp o)(s:Region.wanted o (XM ops a.tmps)=Xq)(n:b.kind≠.early)(e:o.op=.load 21 x){ad:Yc}{v:Int}(k:a.eval x=.pointer (Xp ad))(h:w.cell? ad=Xp (.int .i32 v))(q:(Pz.funcs[b.fn]?).any (·.norace)=Xq):XA Pz main (G (b.at a (.inRegion ops (i::rest)::kk)) cs) w=.go (G (b.at (a.put o.dst (.int .i32 v)) (.inRegion ops rest::kk)) cs) w #[]:=by(have r:(XE a.eval o).run Pz w=.ok (.value (.int .i32 v)) w:=by unfold XE;simp only[e,k];simp[go_sem,h]);(have l:(XE a.eval o).events Pz w #[]=#[⟨.cell ad,WN,WN⟩]:=by unfold XE;simp only[e,k];simp[go_sem,h]);rw[stepG_value p s n r];unfold listed;rw[l,seen_def,q];rfl
end
noncomputable def lG:Yl:=f112.body.getD .skip
noncomputable def mP:Yl:=f113.body.getD .skip
noncomputable def cF:Yl:=f144.body.getD .skip
noncomputable def ak:Yl:=f166.body.getD .skip
end
section
variable{w1:Xr}
theorem av.cell(a:C.Ok)(h:av C w s q):w.cell? ⟨C.mu,C.mo,Xv⟩=Xp (.int .i32 s):=by have b:=a.pre;unfold av at h;simp[Xr.cell?,h,<-b]
theorem av.Cb(a:C.Ok)(h:av C w s q):w.cell? ⟨C.mu,C.mo+1,Xv⟩=Xp (.int .u32 q):=by have b:=a.pre;unfold av at h;simp[Xr.cell?,h,<-b]
theorem av.thaw(h:av C w s q)(o:Nat):w.frozen? ⟨C.mu,o,Xv⟩=WN:=by unfold av at h;simp[Xr.frozen?,h]
structure Kd(C:Cx)(i:Nat)(own:Nat->Prop)(K:Xr->Prop):Prop where
 env:∀{v v1},K v->Env C i own v v1->K v1
 st:∀{v}(x:Int),K v->K (v.setCell C.muA (.int .i32 x))
 sm:∀{v}(x:Int),K v->K (v.setCell C.msA (.int .u32 x))
 aL:∀{v},K v->dj C v
theorem Kd.mu(b:Kd C i own K)(a:C.Ok)(h:K w):∃v:Xu,w.cell? ⟨C.mu,C.mo,Xv⟩=Xp v:=by obtain⟨⟨s,q,c⟩,_⟩:=b.aL h;exact⟨_,av.cell a c⟩
theorem Kd.held(a:Kd C i own K)(h:K w/\ar C w)(r:Env C i (fp C .own own) w w1):K w1/\ar C w1:=⟨a.env h.1 r.fG,h.2.env r (.inr ⟨rfl,rfl⟩)⟩
theorem zL{wd:Wd}(h:((wd.enc:Nat):Int)=0):wd=⟨WN,WN,WN,0⟩:=by obtain⟨L,W,s,n⟩:=wd;(have h:(⟨L,W,s,n⟩:Wd).enc=0:=by omega);cases L<;>cases W<;>cases s<;>simp[Wd.enc]at h⊢<;>omega
theorem QP:Pz.underlying 217=Xp (.pointer 157):=Ψ
theorem z157:(Pz.info? 157).map (λi=>decide (i.size=0))=Xp WN:=Ψ
end
end Go.Lw
namespace Go.Lw
open Go.Proofs Go.Conc Go.Mx Go.Rk Go.Cr Go.RowKit Go.Conc.Lib Go.ConcR.Gen Go.Pw
open Go.ConcR(KK WgAt stA smA rd wr mk DC0)
open Go.ConcM(goes_pad goes_le OsLater)
variable{C:Cx}{i j N mm x d a dd:Nat}{m:Md}{own:Nat->Prop}{g:Xz}{v n old:Int}{w:Xr}{S:Xz->Xr->Prop}{H L L':List (Nat×Xu)}{t vs:Array Xu}{f q:XO}{k k' kk:List X3}{obs:List (Xu×Xu)}{cs:List XF}{y z:XR}{o:Yk}{ags:Array XR}{main:Bool}{ops:Array Yk}{rest:List Nat}{ats:Array XI}{fn:Func}{ad:Yc}{u:Xu}{P:XN}{s d':XI}{caller:XF}{c:Yl}{kd:Yn}{J:Xz->Prop}
section
variable{v w1:Xr}
section
theorem ay{n:Nat}(h:∀w1,Env C i own w w1->S g w1):cM C i own S n g w:=Goes.stop h
theorem C9(n:Nat)(e:Sl N L t)(b:br C.P H n (fr f (tm N L t) k)=Xp (fr f (iS C.P H n (fr f (tm N L t) k)) k',obs))(l:∀p∈obs,p.1=p.2)(c:Sl N L' (iS C.P H n (fr f (tm N L t) k)))(d:∀a w1,Sl N L' a->Env C i own w w1->cM C i own S mm (G (fr f a k') cs) w1):cM C i own S (mm+n) (G (fr f t k) cs) w:=by refine Nb ?_;have:=Hk (m:=0) (main:=i==0) (D:=DC0) bE (λw=>⟨rfl,rfl⟩) n e b l c (λa h w1 o=>d a w1 h o);simp_all
theorem KN(n:Nat)(h:Sl N L t)(b:br C.P H n (fr f (tm N L t) k)=Xp (fr f (iS C.P H n (fr f (tm N L t) k)) k',obs))(l:∀p∈obs,p.1=p.2)(c:Sl N L' (iS C.P H n (fr f (tm N L t) k)))(d:∀a,Sl N L' a->af C i j m own (G (fr f a k') cs) v):af C i j m own (G (fr f t k) cs) v:=Ml (J:=λg=>af C i j m own g v) (λF q o e=>.ctl rfl o e) n h b l c d
theorem bY(n:Nat)(O:List (Nat×Ob))(k':List X3)(L':List (Nat×Xu))(hS:Sl N L t)(hG:∀t' w1,Sl N L' t'->Env C i own w w1->cM C i own S mm (G (fr f t' k') cs) w1)(hP:C.P=Pz:=by exact hP)(h1:br Pz (oh O) n (fr f (tm N L t) k)=Xp (fr f (iS Pz (oh O) n (fr f (tm N L t) k)) k',oo O):=by kernel_rfl)(h2:Sl N L' (iS Pz (oh O) n (fr f (tm N L t) k)):=by exact .all):cM C i own S (mm+n) (G (fr f t k) cs) w:=C9 n hS (by rw[hP];exact h1) (tf O) (by simp_all) hG
theorem ei(n:Nat)(k':List X3)(L':List (Nat×Xu))(hS:Sl N L t)(hG:∀t' w1,Sl N L' t'->Env C i own w w1->cM C i own S mm (G (fr f t' k') cs) w1)(hP:C.P=Pz:=by exact hP)(h1:br Pz (oh []) n (fr f (tm N L t) k)=Xp (fr f (iS Pz (oh []) n (fr f (tm N L t) k)) k',oo []):=by kernel_rfl)(h2:Sl N L' (iS Pz (oh []) n (fr f (tm N L t) k)):=by exact .all):cM C i own S (mm+n) (G (fr f t k) cs) w:=bY n [] k' L' hS hG hP h1 h2
theorem xe(n:Nat)(O:List (Nat×Ob))(k':List X3)(L':List (Nat×Xu))(hS:Sl N L t)(hG:∀t',Sl N L' t'->af C i j m own (G (fr f t' k') cs) v)(hP:C.P=Pz:=by exact hP)(h1:br Pz (oh O) n (fr f (tm N L t) k)=Xp (fr f (iS Pz (oh O) n (fr f (tm N L t) k)) k',oo O):=by kernel_rfl)(h2:Sl N L' (iS Pz (oh O) n (fr f (tm N L t) k)):=by exact .all):af C i j m own (G (fr f t k) cs) v:=KN n hS (by rw[hP];exact h1) (tf O) (by simp_all) hG
theorem c9(n:Nat)(k':List X3)(L':List (Nat×Xu))(hS:Sl N L t)(hG:∀t',Sl N L' t'->af C i j m own (G (fr f t' k') cs) v)(hP:C.P=Pz:=by exact hP)(h1:br Pz (oh []) n (fr f (tm N L t) k)=Xp (fr f (iS Pz (oh []) n (fr f (tm N L t) k)) k',oo []):=by kernel_rfl)(h2:Sl N L' (iS Pz (oh []) n (fr f (tm N L t) k)):=by exact .all):af C i j m own (G (fr f t k) cs) v:=xe n [] k' L' hS hG hP h1 h2
end
theorem eN{n:Nat}(d:g.status=.running)(h:∀x,Env C i own w x->∃g' w',XA C.P (i==0) g x=.go g' w' #[]/\DL x w' #[]/\cM C i own S n g' w'):cM C i own S (n+1) g w:=.inr ⟨d,λx e=>by obtain⟨g',w',a,b,c⟩:=h x e;simp_all⟩
theorem pq(x:Xr):DL x x.later #[]:=⟨rfl,rfl,rfl,⟨x.tick,rfl⟩,rfl⟩
theorem kM(x:Xr):DL x x.asked #[]:=⟨rfl,rfl,rfl,.refl _,rfl⟩
theorem qf{x y:Xr}{es:Array Ye}(h:DL x y es):Env C i own x y:=⟨λk _=>by rw[h.heap],by rw[h.heap];omega,λf=>by obtain⟨⟨s,q,a⟩,⟨n,l,b⟩,⟨e,c,d⟩⟩:=f;exact⟨⟨s,q,by unfold av at a⊢;rw[h.heap];exact a⟩,⟨n,l,by rw[h.heap];exact b⟩,⟨e,by rw[h.heap];exact c,d⟩⟩,λo _=>by simp[Xr.cell?,h.heap]⟩
def ba(o:Yk):Option XO:=match o.op with
 |.call c=>(match c.callee with|.value (.func q)=>Xp q|_=>Xv)
 |_=>Xv
def dH(o:Yk):Array XR:=match o.op with|.call c=>c.args|_=>#[]
def uD(o:Yk):Array XI:=match o.op with|.call c=>c.argTypes|_=>#[]
theorem bD(h:ba o=Xp q)(b:dH o=ags):o.op=.call {callee:=.value (.func q),args:=ags,argTypes:=uD o}:=by subst b;unfold ba at h;unfold dH uD;cases d:o.op with|call c=>obtain⟨e,k,f⟩:=c;grind|_=>simp_all
section
theorem eT{v:Xu}(a:o.dst=Xp d):G ((base f).at ((⟨t,[]⟩:Yh).put o.dst v) k) cs=G (fr f (t.setIfInBounds d v) k) cs:=by rw[a];rfl
theorem mT{v:Int}(hS:Sl N L t)(p:ops[x]?=Xp o)(s:Region.wanted o (XM ops (tm N L t))=Xq)(k:o.dst=Xp d)(h:o.op=.load 21 y)(u:(⟨t,[]⟩:Yh).eval y=.pointer (Xp ad))(n:w.cell? ad=Xp (.int .i32 v))(r:(Pz.funcs[f]?).any (·.norace)=Xq):XA Pz main (G (fr f t (.inRegion ops (x::rest)::kk)) cs) w=.go (G (fr f (t.setIfInBounds d (.int .i32 v)) (.inRegion ops rest::kk)) cs) w #[]:=(yA (b:=base f) (a:=⟨t,[]⟩) p (aU hS s) (by k_ne) h u n r).trans (by first|(rw[eT k])|(rfl))
theorem lF{u:XR}{v:Int}(hS:Sl N L t)(s:ops[x]?=Xp o)(D:Region.wanted o (XM ops (tm N L t))=Xq)(h:o.dst=Xp d)(A:ba o=Xp 165)(l:dH o=#[y,z,u])(E:(⟨t,[]⟩:Yh).eval y=.pointer (Xp ad))(F:(⟨t,[]⟩:Yh).eval z=.int .i32 v)(B:(⟨t,[]⟩:Yh).eval u=.int .i32 n)(p:w.cell? ad=Xp (.int .i32 v))(r:w.frozen? ad=WN):XA Pz main (G (fr f t (.inRegion ops (x::rest)::kk)) cs) w=.go (G (fr f (t.setIfInBounds d (.bool Xq)) (.inRegion ops rest::kk)) cs) (w.setCell ad (.int .i32 n)) #[rd ad,wr ad]:=(stepG_cas_hit (b:=base f) (a:=⟨t,[]⟩) s (aU hS D) (by k_ne) (bD A l) func165 H9 Gc Gb .i32 F5 E F B p r).trans (by first|(done)|(rw[eT h];rfl))
theorem ko{u:XR}{v:Int}(hS:Sl N L t)(A:ops[x]?=Xp o)(E:Region.wanted o (XM ops (tm N L t))=Xq)(k:o.dst=Xp d)(B:ba o=Xp 165)(p:dH o=#[y,z,u])(F:(⟨t,[]⟩:Yh).eval y=.pointer (Xp ad))(H:(⟨t,[]⟩:Yh).eval z=.int .i32 old)(D:(⟨t,[]⟩:Yh).eval u=.int .i32 n)(r:w.cell? ad=Xp (.int .i32 v))(s:w.frozen? ad=WN)(h:¬v=old):XA Pz main (G (fr f t (.inRegion ops (x::rest)::kk)) cs) w=.go (G (fr f (t.setIfInBounds d (.bool WN)) (.inRegion ops rest::kk)) cs) w #[rd ad]:=(stepG_cas_miss (b:=base f) (a:=⟨t,[]⟩) A (aU hS E) (by k_ne) (bD B p) func165 H9 Gc Gb .i32 F5 F H D r s h).trans (by first|(done)|(rw[eT k];rfl))
theorem xh{v:Int}(hS:Sl N L t)(s:ops[x]?=Xp o)(A:Region.wanted o (XM ops (tm N L t))=Xq)(h:o.dst=Xp d)(u:ba o=Xp 167)(l:dH o=#[y,z])(B:(⟨t,[]⟩:Yh).eval y=.pointer (Xp ad))(D:(⟨t,[]⟩:Yh).eval z=.int .i32 n)(p:w.cell? ad=Xp (.int .i32 v))(r:w.frozen? ad=WN):XA Pz main (G (fr f t (.inRegion ops (x::rest)::kk)) cs) w=.go (G (fr f (t.setIfInBounds d (.int .i32 (XH.i32.wrap (v+n)))) (.inRegion ops rest::kk)) cs) (w.setCell ad (.int .i32 (XH.i32.wrap (v+n)))) #[rd ad,wr ad]:=(stepG_add_atomic (b:=base f) (a:=⟨t,[]⟩) s (aU hS A) (by k_ne) (bD u l) func167 OT Pq OM .i32 Og B D p r).trans (by first|(done)|(rw[eT h];rfl))
theorem Pp(hS:Sl N L t)(u:ops[x]?=Xp o)(z:Region.wanted o (XM ops (tm N L t))=Xq)(k:o.dst=Xp d)(y:ba o=Xp 186)(p:dH o=ags)(A:(ags.map (⟨t,[]⟩:Yh).eval)[0]?=Xp (.pointer (Xp ad)))(r:w.cell? ad=Xp (.int .u32 n))(h:n≠0)(s:w.frozen? ad=WN):XA Pz main (G (fr f t (.inRegion ops (x::rest)::kk)) cs) w=.go (G (fr f (t.setIfInBounds d (.tuple #[])) (.inRegion ops rest::kk)) cs) (w.setCell ad (.int .u32 (n-1))) (semEvents ad):=(stepG_semacquire (b:=base f) (a:=⟨t,[]⟩) u (aU hS z) (by k_ne) (bD y p) func186 FU Hb G4 Gr A r h s).trans (by first|(rw[eT k])|(rfl))
theorem yc(hS:Sl N L t)(p:ops[x]?=Xp o)(s:Region.wanted o (XM ops (tm N L t))=Xq)(r:ba o=Xp 186)(l:dH o=ags)(u:(ags.map (⟨t,[]⟩:Yh).eval)[0]?=Xp (.pointer (Xp ad)))(n:w.cell? ad=Xp (.int .u32 0)):XA Pz main (G (fr f t (.inRegion ops (x::rest)::kk)) cs) w=.go {G (fr f t (.inRegion ops (x::rest)::kk)) cs with status:=.blocked} w #[]:=stepG_semacquire_wait (b:=base f) (a:=⟨t,[]⟩) p (aU hS s) (bD r l) func186 FU Hb G4 Gr u n
theorem GR(hS:Sl N L t)(s:ops[x]?=Xp o)(y:Region.wanted o (XM ops (tm N L t))=Xq)(h:o.dst=Xp d)(u:ba o=Xp 188)(l:dH o=ags)(z:(ags.map (⟨t,[]⟩:Yh).eval)[0]?=Xp (.pointer (Xp ad)))(p:w.cell? ad=Xp (.int .u32 n))(r:w.frozen? ad=WN):XA Pz main (G (fr f t (.inRegion ops (x::rest)::kk)) cs) w=.go (G (fr f (t.setIfInBounds d (.tuple #[])) (.inRegion ops rest::kk)) cs) (w.setCell ad (.int .u32 (XH.u32.wrap (n+1)))) (semEvents ad):=(stepG_semrelease (b:=base f) (a:=⟨t,[]⟩) s (aU hS y) (by k_ne) (bD u l) func188 N0 OG N9 O6 z p r).trans (by first|(rw[eT h])|(rfl))
theorem BN(hS:Sl N L t)(l:ops[x]?=Xp o)(p:Region.wanted o (XM ops (tm N L t))=Xq)(h:o.dst=Xp d)(n:ba o=Xp 185):XA Pz main (G (fr f t (.inRegion ops (x::rest)::kk)) cs) w=.go (G (fr f (t.setIfInBounds d (Iv ((w.os.mono+w.tick:Nat):Int))) (.inRegion ops rest::kk)) cs) w.later #[]:=(stepG_nanotime (b:=base f) (a:=⟨t,[]⟩) l (aU hS p) (by k_ne) (bD n rfl) func185 PD Ol Nv OY PC).trans (by first|(rw[eT h])|(rfl))
theorem n3{k:XH}(hS:Sl N L t)(s:ops[x]?=Xp o)(y:Region.wanted o (XM ops (tm N L t))=Xq)(h:o.dst=Xp d)(u:ba o=Xp 182)(r:dH o=ags)(z:ags.map (⟨t,[]⟩:Yh).eval=#[.int k n])(l:4<=n):XA Pz main (G (fr f t (.inRegion ops (x::rest)::kk)) cs) w=.go (G (fr f (t.setIfInBounds d (.bool WN)) (.inRegion ops rest::kk)) cs) w #[]:=(stepG_canSpin_no (b:=base f) (a:=⟨t,[]⟩) s (aU hS y) (by k_ne) (bD u r) func182 IV IS E9 FL z l).trans (by first|(rw[eT h])|(rfl))
theorem xc{k:XH}(hS:Sl N L t)(s:ops[x]?=Xp o)(y:Region.wanted o (XM ops (tm N L t))=Xq)(h:o.dst=Xp d)(u:ba o=Xp 182)(r:dH o=ags)(z:ags.map (⟨t,[]⟩:Yh).eval=#[.int k n])(l:n<4):XA Pz main (G (fr f t (.inRegion ops (x::rest)::kk)) cs) w=.go (G (fr f (t.setIfInBounds d (.bool w.spins)) (.inRegion ops rest::kk)) cs) w.asked #[]:=(stepG_canSpin_ask (b:=base f) (a:=⟨t,[]⟩) s (aU hS y) (by k_ne) (bD u r) func182 IV IS E9 FL z l).trans (by first|(rw[eT h])|(rfl))
theorem DK(hS:Sl N L t)(l:ops[x]?=Xp o)(p:Region.wanted o (XM ops (tm N L t))=Xq)(h:o.dst=Xp d)(n:ba o=Xp 183):XA Pz main (G (fr f t (.inRegion ops (x::rest)::kk)) cs) w=.go (G (fr f (t.setIfInBounds d (.tuple #[])) (.inRegion ops rest::kk)) cs) w #[]:=(stepG_entry_pure (b:=base f) (a:=⟨t,[]⟩) (.tuple #[]) l (aU hS p) (by k_ne) (bD n rfl) func183 OJ NA NW Py).trans (by first|(rw[eT h])|(rfl))
end
end
section
variable{v w1:Xr}
section
theorem tR(hS:Sl N L t)(l:ops[x]?=Xp o)(p:Region.wanted o (XM ops (tm N L t))=Xq)(h:o.dst=Xp d)(n:ba o=Xp 127):XA Pz main (G (fr f t (.inRegion ops (x::rest)::kk)) cs) w=.go (G (fr f (t.setIfInBounds d (.tuple #[])) (.inRegion ops rest::kk)) cs) w #[mk .disable]:=(stepG_mark0 (b:=base f) (a:=⟨t,[]⟩) .disable Θ l (aU hS p) (by k_ne) (bD n rfl) func127 Ps Ns Np NU).trans (by first|(rw[eT h];done)|(rw[eT h];rfl))
theorem qe(hS:Sl N L t)(l:ops[x]?=Xp o)(p:Region.wanted o (XM ops (tm N L t))=Xq)(h:o.dst=Xp d)(n:ba o=Xp 128):XA Pz main (G (fr f t (.inRegion ops (x::rest)::kk)) cs) w=.go (G (fr f (t.setIfInBounds d (.tuple #[])) (.inRegion ops rest::kk)) cs) w #[mk .enable]:=(stepG_mark0 (b:=base f) (a:=⟨t,[]⟩) .enable Θ l (aU hS p) (by k_ne) (bD n rfl) func128 OR O3 OV Pk).trans (by first|(rw[eT h];done)|(rw[eT h];rfl))
theorem tF(hS:Sl N L t)(n:ops[x]?=Xp o)(r:Region.wanted o (XM ops (tm N L t))=Xq)(h:o.dst=Xp d)(p:ba o=Xp 139)(l:dH o=ags)(s:(ags.map (⟨t,[]⟩:Yh).eval)[0]?=Xp (.pointer (Xp ad))):XA Pz main (G (fr f t (.inRegion ops (x::rest)::kk)) cs) w=.go (G (fr f (t.setIfInBounds d (.tuple #[])) (.inRegion ops rest::kk)) cs) w #[mk (.acquire ad)]:=(stepG_markAt (b:=base f) (a:=⟨t,[]⟩) .acquire Θ n (aU hS r) (by k_ne) (bD p l) func139 NC Nf Ph NT s).trans (by first|(rw[eT h];done)|(rw[eT h];rfl))
theorem rn(hS:Sl N L t)(n:ops[x]?=Xp o)(r:Region.wanted o (XM ops (tm N L t))=Xq)(h:o.dst=Xp d)(p:ba o=Xp 126)(l:dH o=ags)(s:(ags.map (⟨t,[]⟩:Yh).eval)[0]?=Xp (.pointer (Xp ad))):XA Pz main (G (fr f t (.inRegion ops (x::rest)::kk)) cs) w=.go (G (fr f (t.setIfInBounds d (.tuple #[])) (.inRegion ops rest::kk)) cs) w #[mk (.releaseMerge ad)]:=(stepG_markAt (b:=base f) (a:=⟨t,[]⟩) .releaseMerge Θ n (aU hS r) (by k_ne) (bD p l) func126 OS NH Ov Nd s).trans (by first|(rw[eT h];done)|(rw[eT h];rfl))
theorem FG(hS:Sl N L t)(n:ops[x]?=Xp o)(r:Region.wanted o (XM ops (tm N L t))=Xq)(h:o.dst=Xp d)(p:(XE (⟨t,[]⟩:Yh).eval o).run P w=.ok (.value u) w)(l:(XE (⟨t,[]⟩:Yh).eval o).events P w #[]=#[]):XA P main (G (fr f t (.inRegion ops (x::rest)::kk)) cs) w=.go (G (fr f (t.setIfInBounds d u) (.inRegion ops rest::kk)) cs) w #[]:=by refine(stepG_value (b:=base f) (a:=⟨t,[]⟩) (k:=kk) (cs:=cs) n (aU hS r) (by k_ne) p).trans ?_;unfold listed;rw[l,kJ,eT h]
theorem xg{s d':XI}{v:Xu}(hS:Sl N L t)(p:ops[x]?=Xp o)(u:Region.wanted o (XM ops (tm N L t))=Xq)(n:o.dst=Xp d)(r:o.op=.convert 217 185 y)(z:(⟨t,[]⟩:Yh).eval y=.pointer (Xp ad))(c:w.cell? ad=Xp v):XA Pz main (G (fr f t (.inRegion ops (x::rest)::kk)) cs) w=.go (G (fr f (t.setIfInBounds d (.pointer (Xp ad))) (.inRegion ops rest::kk)) cs) w #[]:=by have l:=run_convert_to_unsafe (P:=Pz) QP underlying185 z157 c;have k:=λe=>events_convert_to_unsafe (P:=Pz) QP underlying185 z157 c e;refine FG hS p u n ?_ ?_;{unfold XE;simp_all};unfold XE;simp_all
theorem ND:XA P main (G (fr f t []) cs) w=.go (G (ab.b8 f t [] .returning) cs) w #[]:=by rfl
theorem ON:XA P main (G (fr f t (.code .ret::kk)) cs) w=.go (G (ab.b8 f t (.code .ret::kk) .returning) cs) w #[]:=by rfl
theorem xG(h:P.funcs[f]?=Xp fn)(b:fn.results=#[]):XA P main (G (ab.b8 f t kk .returning) (caller::cs)) w=.go (G (caller.finish (.tuple #[])) cs) w #[]:=by
 have c:(results fn t).run P w=.ok (.tuple #[]) w:=by simp[results,b]
 have e:(results fn t).events P w #[]=#[]:=by simp[results,b]
 rw[ab.aR h c,e,kJ]
end
section
theorem jb(a:C.P.funcs[f]?=Xp fn)(b:fn.results=#[])(h:af C i j m own (G (caller.finish (.tuple #[])) cs) v):af C i j m own (G (fr f t []) (caller::cs)) v:=.ctl rfl (λ_=>ND) (.ctl rfl (λ_=>xG a b) h)
theorem rN(a:C.P.funcs[f]?=Xp fn)(b:fn.results=#[])(h:af C i j m own (G (caller.finish (.tuple #[])) cs) v):af C i j m own (G (fr f t (.code .ret::kk)) (caller::cs)) v:=.ctl rfl (λ_=>ON) (.ctl rfl (λ_=>xG a b) h)
theorem cQ{n:Nat}{g':Xz}(a:g.status=.running)(h:∀w,XA C.P (i==0) g w=.go g' w #[])(k:cM C i own S n g' w):cM C i own S (n+1) g w:=eN a λx b=>⟨g',x,h x,cO x,k.rely bE b⟩
end
theorem TP{L S:Bool}(h:(L||S)=Xq):(((L.toNat+4*S.toNat:Nat):Int)==0)=WN:=by grind
end
section
variable{v w1:Xr}
abbrev qz(kd:Yn)(f:XO)(t:Array Xu)(k:List X3):XF:={fn:=f,tmps:=t,todo:=k,defers:=[],mode:=.run,kind:=kd,roundOf:=Xv}
abbrev PR(kd:Yn)(f:XO)(t:Array Xu)(k:List X3):XF:={fn:=f,tmps:=t,todo:=k,defers:=[],mode:=.returning,kind:=kd,roundOf:=Xv}
def bk(kd:Yn)(f:XO):XF:={base f with kind:=kd}
section
theorem zf(A:kd≠.early)(hS:Sl N L t)(B:ops[x]?=Xp o)(F:Region.wanted o (XM ops (tm N L t))=Xq)(D:ba o=Xp q)(y:dH o=ags)(E:ags.map (⟨t,[]⟩:Yh).eval=vs)(r:P.funcs[q]?=Xp fn)(s:(fn.name== "runtime.NumGoroutine")=WN)(z:fn.body=Xp c):XA P main (G (qz kd f t (.inRegion ops (x::rest)::kk)) cs) w=.go (G (fr q (vs++Array.replicate (fn.ntmps-vs.size) XD) [.code c]) (qz kd f t (.inRegion ops (x::rest)::kk)::cs)) w #[]:=by subst E;have n:=bD D y;(have l:fn.body.isNone=WN:=by grind);have h:=stepG_enter (P:=P) (main:=main) (b:=bk kd f) (a:=⟨t,[]⟩) (k:=kk) (rest:=rest) (cs:=cs) (w:=w) B (aU hS F) A (run_call_body n r s l);rw[enter_at _ r z]at h;(have e:listed P (bk kd f).fn ⟨t,[]⟩ o w=#[]:=by unfold listed;rw[events_call_body n r s l];rfl);rw[e]at h;exact h
theorem Ch(hS:Sl N L t)(n:ops[x]?=Xp o)(s:Region.wanted o (XM ops (tm N L t))=Xq)(p:ba o=Xp q)(e:dH o=ags)(r:ags.map (⟨t,[]⟩:Yh).eval=vs)(k:P.funcs[q]?=Xp fn)(l:(fn.name== "runtime.NumGoroutine")=WN)(h:fn.body=Xp c):XA P main (G (fr f t (.inRegion ops (x::rest)::kk)) cs) w=.go (G (fr q (vs++Array.replicate (fn.ntmps-vs.size) XD) [.code c]) (fr f t (.inRegion ops (x::rest)::kk)::cs)) w #[]:=zf (kd:=.normal) Θ hS n s p e r k l h
theorem wh(h:t.getD a XD=u):(#[.tmp a]:Array XR).map (⟨t,[]⟩:Yh).eval=#[u]:=by subst h;simp[Yh.eval]
theorem D6{b:Nat}{u':Xu}(h:t.getD a XD=u)(e:t.getD b XD=u'):(#[.tmp a,.tmp b]:Array XR).map (⟨t,[]⟩:Yh).eval=#[u,u']:=by subst h e;simp[Yh.eval]
theorem Po{c:Xu}(h:t.getD a XD=u):(#[.tmp a,.const c]:Array XR).map (⟨t,[]⟩:Yh).eval=#[u,c]:=by subst h;simp[Yh.eval]
theorem L8(b:ops[x]?=Xp o)(a:o.dst=Xp d)(u:Xu):(qz kd f t (.inRegion ops (x::rest)::kk)).finish u=qz kd f (t.setIfInBounds d u) (.inRegion ops rest::kk):=by simp[XF.finish,b,a]
theorem Fc(y:kd≠.early)(s:∀F a,(∀w,XA P main (G F cs) w=.go (G a cs) w #[])->J (G a cs)->J (G F cs))(n:Nat)(u:Sl N L t)(h:br P H n (qz kd f (tm N L t) k)=Xp (qz kd f (match br P H n (qz kd f (tm N L t) k)with|some x=>x.1.tmps|none=>#[]) k',obs))(z:∀p∈obs,p.1=p.2)(l:Sl N L' (match br P H n (qz kd f (tm N L t) k)with|some x=>x.1.tmps|none=>#[]))(r:∀b,Sl N L' b->J (G (qz kd f b k') cs)):J (G (qz kd f t k) cs):=by(have e:qz kd f t k=qz kd f (tm N L t) k:=by rw[<-u.tm]);rw[e];exact nR (main:=main) s n h z rfl y (r _ l)
theorem py(s:kd≠.early)(n:Nat)(r:Sl N L t)(b:br C.P H n (qz kd f (tm N L t) k)=Xp (qz kd f (match br C.P H n (qz kd f (tm N L t) k)with|some x=>x.1.tmps|none=>#[]) k',obs))(u:∀p∈obs,p.1=p.2)(e:Sl N L' (match br C.P H n (qz kd f (tm N L t) k)with|some x=>x.1.tmps|none=>#[]))(h:∀a,Sl N L' a->af C i j m own (G (qz kd f a k') cs) v):af C i j m own (G (qz kd f t k) cs) v:=Fc (main:=i==0) (J:=λg=>af C i j m own g v) s (λF z y l=>.ctl rfl y l) n r b u e h
theorem zV(n:Nat)(h:Sl N L t)(a:br C.P H n (fr f (tm N L t) k)=Xp (fr f (iS C.P H n (fr f (tm N L t) k)) k',obs))(l:∀p∈obs,p.1=p.2)(b:∀w1,Env C i own w w1->cM C i own S mm (G (fr f (iS C.P H n (fr f (tm N L t) k)) k') cs) w1):cM C i own S (mm+n) (G (fr f t k) cs) w:=by(have e:fr f t k=fr f (tm N L t) k:=by rw[<-h.tm]);rw[e];exact rK bE cO n a l rfl Θ (b w .refl)
theorem uT(n:kd≠.early)(hS:Sl N L t)(r:ops[x]?=Xp o)(y:Region.wanted o (XM ops (tm N L t))=Xq)(s:ba o=Xp q)(e:dH o=ags)(u:ags.map (⟨t,[]⟩:Yh).eval=vs)(l:C.P.funcs[q]?=Xp fn)(p:(fn.name== "runtime.NumGoroutine")=WN)(k:fn.body=Xp c)(h:af C i j m own (G (fr q (vs++Array.replicate (fn.ntmps-vs.size) XD) [.code c]) (qz kd f t (.inRegion ops (x::rest)::kk)::cs)) v):af C i j m own (G (qz kd f t (.inRegion ops (x::rest)::kk)) cs) v:=.ctl rfl (λ_=>zf n hS r y s e u l p k) h
theorem Ju:XA P main (G (qz kd f t []) cs) w=.go (G (PR kd f t []) cs) w #[]:=by rfl
theorem zD(h:af C i j m own (G (PR kd f t []) cs) v):af C i j m own (G (qz kd f t []) cs) v:=.ctl rfl (λ_=>Ju) h
theorem yC(a:C.P.funcs[f]?=Xp fn)(b:fn.results=#[])(h:af C i j m own (G (caller.finish (.tuple #[])) cs) v):af C i j m own (G (PR .normal f t kk) (caller::cs)) v:=.ctl rfl (λ_=>xG a b) h
theorem Dm(l:C.P.funcs[f]?=Xp fn)(e:fn.results=#[])(k:caller.mode=.returning)(h:af C i j m own (G caller cs) v):af C i j m own (G (PR .deferred f t kk) (caller::cs)) v:=.ctl rfl (λw=>stepG_leave_deferred (b:=bk .deferred f) (a:=⟨t,[]⟩) (todo:=kk) rfl rfl l (results_none e _ _ w) (events_results_none e _ _) k) h
end
end
section
variable{v w1:Xr}
abbrev cJ(kd:Yn)(ds:List X5)(f:XO)(t:Array Xu)(k:List X3):XF:={fn:=f,tmps:=t,todo:=k,defers:=ds,mode:=.run,kind:=kd,roundOf:=Xv}
abbrev wv(kd:Yn)(ds:List X5)(f:XO)(t:Array Xu)(k:List X3):XF:={fn:=f,tmps:=t,todo:=k,defers:=ds,mode:=.returning,kind:=kd,roundOf:=Xv}
structure Xt(P:XN)(q:XO)(fn:Func):Prop where
 f:P.funcs[q]?=Xp fn
 n:(fn.name== "runtime.NumGoroutine")=WN
 b:fn.body.isNone=Xq
 x:Extern.findNext fn=Xv
section
variable{ds:List X5}
def kV(P:XN)(H:List (Nat×Xu))(n:Nat)(F:XF):Array Xu:=match br P H n F with|some x=>x.1.tmps|none=>#[]
theorem Ad(y:kd≠.early)(s:∀F a,(∀w,XA P main (G F cs) w=.go (G a cs) w #[])->J (G a cs)->J (G F cs))(n:Nat)(u:Sl N L t)(h:br P H n (cJ kd ds f (tm N L t) k)=Xp (cJ kd ds f (kV P H n (cJ kd ds f (tm N L t) k)) k',obs))(z:∀p∈obs,p.1=p.2)(l:Sl N L' (kV P H n (cJ kd ds f (tm N L t) k)))(r:∀b,Sl N L' b->J (G (cJ kd ds f b k') cs)):J (G (cJ kd ds f t k) cs):=by(have e:cJ kd ds f t k=cJ kd ds f (tm N L t) k:=by rw[<-u.tm]);rw[e];exact nR s n h z rfl y (r _ l)
theorem Jd(s:kd≠.early)(n:Nat)(r:Sl N L t)(b:br C.P H n (cJ kd ds f (tm N L t) k)=Xp (cJ kd ds f (kV C.P H n (cJ kd ds f (tm N L t) k)) k',obs))(u:∀p∈obs,p.1=p.2)(e:Sl N L' (kV C.P H n (cJ kd ds f (tm N L t) k)))(h:∀a,Sl N L' a->af C i j m own (G (cJ kd ds f a k') cs) v):af C i j m own (G (cJ kd ds f t k) cs) v:=Ad (J:=λg=>af C i j m own g v) s (λF z y l=>.ctl rfl y l) n r b u e h
theorem ED(u:kd≠.early)(n:Nat)(s:Sl N L t)(e:br P H n (cJ kd ds f (tm N L t) k)=Xp (cJ kd ds f (kV P H n (cJ kd ds f (tm N L t) k)) k',obs))(y:∀p∈obs,p.1=p.2)(h:Sl N L' (kV P H n (cJ kd ds f (tm N L t) k)))(l:∀b,Sl N L' b->∃a,QuitsD P a dd (G (cJ kd ds f b k') cs)):∃a,QuitsD P a dd (G (cJ kd ds f t k) cs):=Ad (J:=λg=>∃a,QuitsD P a dd g) u (λF A z⟨a,r⟩=>⟨a+1,.ctl rfl (λw=>z w) r⟩) n s e y h l
theorem zJ(s:kd≠.early)(n:Nat)(r:Sl N L t)(b:br C.P H n (cJ kd ds f (tm N L t) k)=Xp (cJ kd ds f (kV C.P H n (cJ kd ds f (tm N L t) k)) k',obs))(u:∀p∈obs,p.1=p.2)(h:Sl N L' (kV C.P H n (cJ kd ds f (tm N L t) k)))(l:∀a w1,Sl N L' a->Env C i own w w1->cM C i own S mm (G (cJ kd ds f a k') cs) w1):cM C i own S (mm+n) (G (cJ kd ds f t k) cs) w:=by(have e:cJ kd ds f t k=cJ kd ds f (tm N L t) k:=by rw[<-r.tm]);rw[e];exact rK bE cO n b u rfl s (l _ w h .refl)
theorem w8(n:Nat)(O:List (Nat×Ob))(k':List X3)(L':List (Nat×Xu))(hS:Sl N L t)(hG:∀t',Sl N L' t'->af C i j m own (G (cJ kd ds f t' k') cs) v)(hP:C.P=Pz:=by exact hP)(hk:kd≠.early:=by simp)(h1:br Pz (oh O) n (cJ kd ds f (tm N L t) k)=Xp (cJ kd ds f (kV Pz (oh O) n (cJ kd ds f (tm N L t) k)) k',oo O):=by kernel_rfl)(h2:Sl N L' (kV Pz (oh O) n (cJ kd ds f (tm N L t) k)):=by exact .all):af C i j m own (G (cJ kd ds f t k) cs) v:=Jd hk n hS (by rw[hP];exact h1) (tf O) (by simp_all) hG
theorem eU(n:Nat)(k':List X3)(L':List (Nat×Xu))(hS:Sl N L t)(hG:∀t',Sl N L' t'->af C i j m own (G (cJ kd ds f t' k') cs) v)(hP:C.P=Pz:=by exact hP)(hk:kd≠.early:=by simp)(h1:br Pz (oh []) n (cJ kd ds f (tm N L t) k)=Xp (cJ kd ds f (kV Pz (oh []) n (cJ kd ds f (tm N L t) k)) k',oo []):=by kernel_rfl)(h2:Sl N L' (kV Pz (oh []) n (cJ kd ds f (tm N L t) k)):=by exact .all):af C i j m own (G (cJ kd ds f t k) cs) v:=w8 n [] k' L' hS hG hP hk h1 h2
theorem rF(n:Nat)(O:List (Nat×Ob))(k':List X3)(L':List (Nat×Xu))(hS:Sl N L t)(hG:∀t',Sl N L' t'->∃qn,QuitsD C.P qn dd (G (cJ kd ds f t' k') cs))(hP:C.P=Pz:=by exact hP)(hk:kd≠.early:=by simp)(h1:br Pz (oh O) n (cJ kd ds f (tm N L t) k)=Xp (cJ kd ds f (kV Pz (oh O) n (cJ kd ds f (tm N L t) k)) k',oo O):=by kernel_rfl)(h2:Sl N L' (kV Pz (oh O) n (cJ kd ds f (tm N L t) k)):=by exact .all):∃qn,QuitsD C.P qn dd (G (cJ kd ds f t k) cs):=ED hk n hS (by rw[hP];exact h1) (tf O) (by simp_all) hG
theorem sM(n:Nat)(k':List X3)(L':List (Nat×Xu))(hS:Sl N L t)(hG:∀t',Sl N L' t'->∃qn,QuitsD C.P qn dd (G (cJ kd ds f t' k') cs))(hP:C.P=Pz:=by exact hP)(hk:kd≠.early:=by simp)(h1:br Pz (oh []) n (cJ kd ds f (tm N L t) k)=Xp (cJ kd ds f (kV Pz (oh []) n (cJ kd ds f (tm N L t) k)) k',oo []):=by kernel_rfl)(h2:Sl N L' (kV Pz (oh []) n (cJ kd ds f (tm N L t) k)):=by exact .all):∃qn,QuitsD C.P qn dd (G (cJ kd ds f t k) cs):=rF n [] k' L' hS hG hP hk h1 h2
theorem vW(n:Nat)(O:List (Nat×Ob))(k':List X3)(L':List (Nat×Xu))(hS:Sl N L t)(hG:∀t' w1,Sl N L' t'->Env C i own w w1->cM C i own S mm (G (cJ kd ds f t' k') cs) w1)(hP:C.P=Pz:=by exact hP)(hk:kd≠.early:=by simp)(h1:br Pz (oh O) n (cJ kd ds f (tm N L t) k)=Xp (cJ kd ds f (kV Pz (oh O) n (cJ kd ds f (tm N L t) k)) k',oo O):=by kernel_rfl)(h2:Sl N L' (kV Pz (oh O) n (cJ kd ds f (tm N L t) k)):=by exact .all):cM C i own S (mm+n) (G (cJ kd ds f t k) cs) w:=zJ hk n hS (by rw[hP];exact h1) (tf O) (by simp_all) hG
theorem cl(n:Nat)(k':List X3)(L':List (Nat×Xu))(hS:Sl N L t)(hG:∀t' w1,Sl N L' t'->Env C i own w w1->cM C i own S mm (G (cJ kd ds f t' k') cs) w1)(hP:C.P=Pz:=by exact hP)(hk:kd≠.early:=by simp)(h1:br Pz (oh []) n (cJ kd ds f (tm N L t) k)=Xp (cJ kd ds f (kV Pz (oh []) n (cJ kd ds f (tm N L t) k)) k',oo []):=by kernel_rfl)(h2:Sl N L' (kV Pz (oh []) n (cJ kd ds f (tm N L t) k)):=by exact .all):cM C i own S (mm+n) (G (cJ kd ds f t k) cs) w:=vW n [] k' L' hS hG hP hk h1 h2
theorem mh{v:Xu}(a:o.dst=Xp d):G ((bk kd f).at (Yh.put ⟨t,ds⟩ o.dst v) k) cs=G (cJ kd ds f (t.setIfInBounds d v) k) cs:=by rw[a];rfl
theorem mI(A:kd≠.early)(hS:Sl N L t)(B:ops[x]?=Xp o)(F:Region.wanted o (XM ops (tm N L t))=Xq)(D:ba o=Xp q)(y:dH o=ags)(E:ags.map (⟨t,[]⟩:Yh).eval=vs)(r:P.funcs[q]?=Xp fn)(s:(fn.name== "runtime.NumGoroutine")=WN)(z:fn.body=Xp c):XA P main (G (cJ kd ds f t (.inRegion ops (x::rest)::kk)) cs) w=.go (G (fr q (vs++Array.replicate (fn.ntmps-vs.size) XD) [.code c]) (cJ kd ds f t (.inRegion ops (x::rest)::kk)::cs)) w #[]:=by subst E;have n:=bD D y;(have l:fn.body.isNone=WN:=by grind);have h:=stepG_enter (main:=main) (b:=bk kd f) (a:=⟨t,ds⟩) (k:=kk) (rest:=rest) (cs:=cs) (w:=w) B (aU hS F) A (run_call_body n r s l);rw[enter_at _ r z]at h;(have e:listed P (bk kd f).fn ⟨t,ds⟩ o w=#[]:=by unfold listed;rw[events_call_body n r s l];rfl);rw[e]at h;exact h
theorem i7(b:ops[x]?=Xp o)(a:o.dst=Xp d)(u:Xu):(cJ kd ds f t (.inRegion ops (x::rest)::kk)).finish u=cJ kd ds f (t.setIfInBounds d u) (.inRegion ops rest::kk):=by simp[XF.finish,b,a]
theorem FK:XA P main (G (cJ kd ds f t []) cs) w=.go (G (wv kd ds f t []) cs) w #[]:=by rfl
theorem iV:XA P main (G (cJ kd ds f t (.code .ret::kk)) cs) w=.go (G (wv kd ds f t (.code .ret::kk)) cs) w #[]:=by rfl
theorem mO(h:P.funcs[f]?=Xp fn)(e:fn.results=#[]):XA P main (G (wv .normal [] f t kk) (caller::cs)) w=.go (G (caller.finish (.tuple #[])) cs) w #[]:=stepG_leave (b:=base f) (a:=⟨t,[]⟩) rfl rfl h (results_none e _ _ w) (events_results_none e _ _)
theorem ja{s:Tmp}(h:P.funcs[f]?=Xp fn)(e:fn.results=#[.tmp s])(k:t.getD s XD=u):XA P main (G (wv .normal [] f t kk) (caller::cs)) w=.go (G (caller.finish u) cs) w #[]:=by subst k;exact stepG_leave (b:=base f) (a:=⟨t,[]⟩) rfl rfl h (results_tmp e _ _ w) (events_results_tmp e _ _)
theorem J9(k:P.funcs[f]?=Xp fn)(e:fn.results=#[])(h:caller.mode=.returning):XA P main (G (wv .deferred [] f t kk) (caller::cs)) w=.go (G caller cs) w #[]:=stepG_leave_deferred (b:=bk .deferred f) (a:=⟨t,[]⟩) rfl rfl k (results_none e _ _ w) (events_results_none e _ _) h
theorem wy(r:kd≠.early)(hS:Sl N L t)(s:ops[x]?=Xp o)(y:Region.wanted o (XM ops (tm N L t))=Xq)(p:o.dst=Xv)(l:o.op=.defer {callee:=.value (.func q),args:=ags,argTypes:=ats})(u:ags.map (⟨t,[]⟩:Yh).eval=vs):XA P main (G (cJ kd ds f t (.inRegion ops (x::rest)::kk)) cs) w=.go (G (cJ kd (dcall q vs::ds) f t (.inRegion ops rest::kk)) cs) w #[]:=by subst u;refine(stepG_defer (b:=bk kd f) (a:=⟨t,ds⟩) s (aU hS y) r l).trans ?_;rw[p];rfl
theorem nI(m:Mark)(k:∀g,m≠.extern g)(X:Xt P q fn)(h:Extern.find fn=Xp (λ_=>do mark m;pure Extern.Race.none_)):XA P main (G (wv kd (dcall q #[]::ds) f t kk) cs) w=.go (G (wv kd ds f t kk) cs) w #[mk m]:=by have:=stepG_unwind_entry (main:=main) (b:=bk kd f) (a:=⟨t,dcall q #[]::ds⟩) (todo:=kk) (cs:=cs) (w:=w) rfl X.f X.n X.b X.x h (v:=Extern.Race.none_) (w':=w) (evs:=#[⟨.mark m,WN,Xq⟩]) Θ Θ (by simp_all);exact this
theorem pH(p:kd≠.early)(m:Mark)(r:∀g,m≠.extern g)(hS:Sl N L t)(s:ops[x]?=Xp o)(y:Region.wanted o (XM ops (tm N L t))=Xq)(l:o.dst=Xp d)(u:ba o=Xp q)(X:Xt P q fn)(n:Extern.find fn=Xp (λ_=>do mark m;pure Extern.Race.none_)):XA P main (G (cJ kd ds f t (.inRegion ops (x::rest)::kk)) cs) w=.go (G (cJ kd ds f (t.setIfInBounds d (.tuple #[])) (.inRegion ops rest::kk)) cs) w #[mk m]:=(stepG_mark0 (b:=bk kd f) (a:=⟨t,ds⟩) m r s (aU hS y) p (bD u rfl) X.f X.n X.b X.x n).trans (by rw[mh l];try rfl)
theorem l9(s:kd≠.early)(h:Yc->Mark)(u:∀ad g,h ad≠.extern g)(hS:Sl N L t)(y:ops[x]?=Xp o)(A:Region.wanted o (XM ops (tm N L t))=Xq)(p:o.dst=Xp d)(z:ba o=Xp q)(n:dH o=ags)(X:Xt P q fn)(r:Extern.find fn=Xp (Extern.Race.marked h))(B:(ags.map (⟨t,ds⟩:Yh).eval)[0]?=Xp (.pointer (Xp ad))):XA P main (G (cJ kd ds f t (.inRegion ops (x::rest)::kk)) cs) w=.go (G (cJ kd ds f (t.setIfInBounds d (.tuple #[])) (.inRegion ops rest::kk)) cs) w #[mk (h ad)]:=(stepG_markAt (b:=bk kd f) (a:=⟨t,ds⟩) h u y (aU hS A) s (bD z n) X.f X.n X.b X.x r B).trans (by rw[mh p];try rfl)
theorem Gi(p:kd≠.early)(u:Xu)(hS:Sl N L t)(r:ops[x]?=Xp o)(y:Region.wanted o (XM ops (tm N L t))=Xq)(l:o.dst=Xp d)(s:ba o=Xp q)(X:Xt P q fn)(n:Extern.find fn=Xp (λ_=>pure u)):XA P main (G (cJ kd ds f t (.inRegion ops (x::rest)::kk)) cs) w=.go (G (cJ kd ds f (t.setIfInBounds d u) (.inRegion ops rest::kk)) cs) w #[]:=(stepG_entry_pure (b:=bk kd f) (a:=⟨t,ds⟩) u r (aU hS y) p (bD s rfl) X.f X.n X.b X.x n).trans (by rw[mh l])
theorem Ma(p:kd≠.early)(hS:Sl N L t)(r:ops[x]?=Xp o)(y:Region.wanted o (XM ops (tm N L t))=Xq)(l:o.dst=Xp d)(s:(XE (⟨t,ds⟩:Yh).eval o).run P w=.ok (.value u) w)(n:(XE (⟨t,ds⟩:Yh).eval o).events P w #[]=#[]):XA P main (G (cJ kd ds f t (.inRegion ops (x::rest)::kk)) cs) w=.go (G (cJ kd ds f (t.setIfInBounds d u) (.inRegion ops rest::kk)) cs) w #[]:=by refine(stepG_value (b:=bk kd f) (a:=⟨t,ds⟩) r (aU hS y) p s).trans ?_;unfold listed;rw[n,kJ,mh l]
theorem tY{e:XI}{v:Xu}(k:P.underlying s=Xp (.pointer e))(a:P.underlying d'=Xp .unsafePointer)(l:(P.info? e).map (λi=>decide (i.size=0))=Xp WN)(A:kd≠.early)(hS:Sl N L t)(B:ops[x]?=Xp o)(E:Region.wanted o (XM ops (tm N L t))=Xq)(z:o.dst=Xp d)(D:o.op=.convert s d' y)(F:(⟨t,ds⟩:Yh).eval y=.pointer (Xp ad))(h:w.cell? ad=Xp v):XA P main (G (cJ kd ds f t (.inRegion ops (x::rest)::kk)) cs) w=.go (G (cJ kd ds f (t.setIfInBounds d (.pointer (Xp ad))) (.inRegion ops rest::kk)) cs) w #[]:=by have u:=run_convert_to_unsafe k a l h;have r:=λn=>events_convert_to_unsafe k a l h n;refine Ma A hS B E z ?_ ?_;{unfold XE;simp_all};unfold XE;simp_all
theorem Gv(A:kd≠.early){v:Int}(hS:Sl N L t)(B:ops[x]?=Xp o)(E:Region.wanted o (XM ops (tm N L t))=Xq)(r:o.dst=Xp d)(D:ba o=Xp q)(l:dH o=#[y,z])(X:Xt P q fn)(s:Extern.find fn=Xp (Extern.Atomic.update (Op.intArith .add) .u64 Xq))(F:(⟨t,ds⟩:Yh).eval y=.pointer (Xp ad))(H:(⟨t,ds⟩:Yh).eval z=.int .u64 n)(p:w.cell? ad=Xp (.int .u64 v))(u:w.frozen? ad=WN):XA P main (G (cJ kd ds f t (.inRegion ops (x::rest)::kk)) cs) w=.go (G (cJ kd ds f (t.setIfInBounds d (.int .u64 (XH.u64.wrap (v+n)))) (.inRegion ops rest::kk)) cs) (w.setCell ad (.int .u64 (XH.u64.wrap (v+n)))) #[rd ad,wr ad]:=(stepG_add_atomic (b:=bk kd f) (a:=⟨t,ds⟩) B (aU hS E) A (bD D l) X.f X.n X.b X.x .u64 s F H p u).trans (by rw[mh r];try rfl)
theorem vP(s:kd≠.early){v:Int}(hS:Sl N L t)(u:ops[x]?=Xp o)(A:Region.wanted o (XM ops (tm N L t))=Xq)(p:o.dst=Xp d)(z:ba o=Xp q)(l:dH o=#[y])(X:Xt P q fn)(r:Extern.find fn=Xp (Extern.Atomic.loadT (.int .u64)))(B:(⟨t,ds⟩:Yh).eval y=.pointer (Xp ad))(n:w.cell? ad=Xp (.int .u64 v)):XA P main (G (cJ kd ds f t (.inRegion ops (x::rest)::kk)) cs) w=.go (G (cJ kd ds f (t.setIfInBounds d (.int .u64 v)) (.inRegion ops rest::kk)) cs) w #[rd ad]:=(stepG_load_atomic (b:=bk kd f) (a:=⟨t,ds⟩) u (aU hS A) s (bD z l) X.f X.n X.b X.x .u64 r B n).trans (by rw[mh p];try rfl)
theorem Gx(B:kd≠.early)(hS:Sl N L t)(D:ops[x]?=Xp o)(F:Region.wanted o (XM ops (tm N L t))=Xq)(r:o.dst=Xp d)(E:ba o=Xp q)(l:dH o=#[y,z])(X:Xt P q fn)(s:Extern.find fn=Xp Extern.Atomic.storeT)(H:(⟨t,ds⟩:Yh).eval y=.pointer (Xp ad))(I:(⟨t,ds⟩:Yh).eval z=.int .u64 n)(p:w.cell? ad=Xp u)(A:w.frozen? ad=WN):XA P main (G (cJ kd ds f t (.inRegion ops (x::rest)::kk)) cs) w=.go (G (cJ kd ds f (t.setIfInBounds d (.tuple #[])) (.inRegion ops rest::kk)) cs) (w.setCell ad (.int .u64 n)) #[wr ad]:=(stepG_store_atomic (b:=bk kd f) (a:=⟨t,ds⟩) D (aU hS F) B (bD E l) X.f X.n X.b X.x s H I p A).trans (by rw[mh r];try rfl)
theorem Be(B:kd≠.early){u:XR}{v:Int}(hS:Sl N L t)(D:ops[x]?=Xp o)(H:Region.wanted o (XM ops (tm N L t))=Xq)(r:o.dst=Xp d)(E:ba o=Xp q)(l:dH o=#[y,z,u])(X:Xt P q fn)(s:Extern.find fn=Xp (Extern.Atomic.casT (.int .u64)))(I:(⟨t,ds⟩:Yh).eval y=.pointer (Xp ad))(J:(⟨t,ds⟩:Yh).eval z=.int .u64 v)(F:(⟨t,ds⟩:Yh).eval u=.int .u64 n)(p:w.cell? ad=Xp (.int .u64 v))(A:w.frozen? ad=WN):XA P main (G (cJ kd ds f t (.inRegion ops (x::rest)::kk)) cs) w=.go (G (cJ kd ds f (t.setIfInBounds d (.bool Xq)) (.inRegion ops rest::kk)) cs) (w.setCell ad (.int .u64 n)) #[rd ad,wr ad]:=(stepG_cas_hit (b:=bk kd f) (a:=⟨t,ds⟩) D (aU hS H) B (bD E l) X.f X.n X.b X.x .u64 s I J F p A).trans (by rw[mh r];try rfl)
theorem yH(D:kd≠.early){u:XR}{v:Int}(hS:Sl N L t)(E:ops[x]?=Xp o)(I:Region.wanted o (XM ops (tm N L t))=Xq)(s:o.dst=Xp d)(F:ba o=Xp q)(p:dH o=#[y,z,u])(X:Xt P q fn)(A:Extern.find fn=Xp (Extern.Atomic.casT (.int .u64)))(J:(⟨t,ds⟩:Yh).eval y=.pointer (Xp ad))(K:(⟨t,ds⟩:Yh).eval z=.int .u64 old)(H:(⟨t,ds⟩:Yh).eval u=.int .u64 n)(r:w.cell? ad=Xp (.int .u64 v))(B:w.frozen? ad=WN)(k:¬v=old):XA P main (G (cJ kd ds f t (.inRegion ops (x::rest)::kk)) cs) w=.go (G (cJ kd ds f (t.setIfInBounds d (.bool WN)) (.inRegion ops rest::kk)) cs) w #[rd ad]:=(stepG_cas_miss (b:=bk kd f) (a:=⟨t,ds⟩) E (aU hS I) D (bD F p) X.f X.n X.b X.x .u64 A J K H r B k).trans (by rw[mh s];try rfl)
theorem RU(z:kd≠.early)(hS:Sl N L t)(A:ops[x]?=Xp o)(D:Region.wanted o (XM ops (tm N L t))=Xq)(s:o.dst=Xp d)(B:ba o=Xp q)(p:dH o=ags)(X:Xt P q fn)(u:Extern.find fn=Xp Extern.Sync.semacquire)(E:(ags.map (⟨t,ds⟩:Yh).eval)[0]?=Xp (.pointer (Xp ad)))(r:w.cell? ad=Xp (.int .u32 n))(k:n≠0)(y:w.frozen? ad=WN):XA P main (G (cJ kd ds f t (.inRegion ops (x::rest)::kk)) cs) w=.go (G (cJ kd ds f (t.setIfInBounds d (.tuple #[])) (.inRegion ops rest::kk)) cs) (w.setCell ad (.int .u32 (n-1))) (semEvents ad):=(stepG_semacquire (b:=bk kd f) (a:=⟨t,ds⟩) A (aU hS D) z (bD B p) X.f X.n X.b X.x u E r k y).trans (by rw[mh s])
theorem Bw(hS:Sl N L t)(s:ops[x]?=Xp o)(y:Region.wanted o (XM ops (tm N L t))=Xq)(u:ba o=Xp q)(n:dH o=ags)(X:Xt P q fn)(r:Extern.find fn=Xp Extern.Sync.semacquire)(z:(ags.map (⟨t,ds⟩:Yh).eval)[0]?=Xp (.pointer (Xp ad)))(p:w.cell? ad=Xp (.int .u32 0)):XA P main (G (cJ kd ds f t (.inRegion ops (x::rest)::kk)) cs) w=.go {G (cJ kd ds f t (.inRegion ops (x::rest)::kk)) cs with status:=.blocked} w #[]:=stepG_semacquire_wait (b:=bk kd f) (a:=⟨t,ds⟩) s (aU hS y) (bD u n) X.f X.n X.b X.x r z p
theorem Qm(y:kd≠.early)(hS:Sl N L t)(z:ops[x]?=Xp o)(B:Region.wanted o (XM ops (tm N L t))=Xq)(r:o.dst=Xp d)(A:ba o=Xp q)(l:dH o=ags)(X:Xt P q fn)(s:Extern.find fn=Xp Extern.Sync.semrelease)(D:(ags.map (⟨t,ds⟩:Yh).eval)[0]?=Xp (.pointer (Xp ad)))(p:w.cell? ad=Xp (.int .u32 n))(u:w.frozen? ad=WN):XA P main (G (cJ kd ds f t (.inRegion ops (x::rest)::kk)) cs) w=.go (G (cJ kd ds f (t.setIfInBounds d (.tuple #[])) (.inRegion ops rest::kk)) cs) (w.setCell ad (.int .u32 (XH.u32.wrap (n+1)))) (semEvents ad):=(stepG_semrelease (b:=bk kd f) (a:=⟨t,ds⟩) z (aU hS B) y (bD A l) X.f X.n X.b X.x s D p u).trans (by rw[mh r])
end
end
section
variable{v w1:Xr}
abbrev hl(C:Cx)(iL:Int)(st aw:Bool)(it:Nat)(z:Int):List (Nat×Xu):=[(0,ϱ C.mu C.mo),(2,Iv iL),(3,.bool st),(4,.bool aw),(5,Iv it),(6,.int .i32 z)]
def iY(C:Cx)(K:Xr->Prop)(b₁:XF)(a₁:Yh)(ops₁:Array Yk)(i₁:Nat)(rest₁:List Nat)(k₁:List X3)(cs₁:List XF)(o:Wd)(aw st:Bool)(it:Nat)(g:Xz)(w:Xr):Prop:=
 K w/\∃(iL:Int)(t:Array Xu),Sl 139 (hl C iL st aw it (o.enc:Nat)) t/\g=G (fr 166 t (cA ak 504)) (b₁.at a₁ (.inRegion ops₁ (i₁::rest₁)::k₁)::cs₁)
section
variable{b₁:XF}{a₁:Yh}{ops₁:Array Yk}{i₁:Nat}{rest₁:List Nat}{k₁:List X3}{cs₁:List XF}{K:Xr->Prop}
set_option maxRecDepth 100000 in theorem Nw(hC:C.Ok)(hP:C.P=Pz)(hK:Kd C i own K)(c:K w)(hS:Sl 139 [(0,ϱ C.mu C.mo)] t):cM C i own (uK C i own (iY C K b₁ a₁ ops₁ i₁ rest₁ k₁ cs₁) WN WN 0) 21 (G (fr 166 t [.code ak]) (b₁.at a₁ (.inRegion ops₁ (i₁::rest₁)::k₁)::cs₁)) w:=by show cM C i own _ _ (G (fr 166 _ (cA ak 1)) _) w;refine ei 21 (rA ak 62 [3,4]) [(0,ϱ C.mu C.mo),(2,Iv 0),(3,.bool WN),(4,.bool WN),(5,Iv 0),(12,ϱ C.mu C.mo)] hS λt w1 hS r=>ay (n:=0) λw1 e=>?_;replace c:=hK.env (hK.env c r) e;refine⟨rfl,λf q hw _=>⟨_,by rw[hP];exact mT hS (o:=opn (aV (sb ak 62)) 3) (d:=13) Ψ Ψ Ψ (y:=.tmp 12) Ψ (hS.get (by rfl)) (av.cell hC hw) J7,5,?_⟩⟩;replace hS:Sl 139 [(13,.int .i32 (f.enc:Nat)),(0,ϱ C.mu C.mo),(2,Iv 0),(3,.bool WN),(4,.bool WN),(5,Iv 0),(12,ϱ C.mu C.mo)] _:=hS.put (d:=13) (v:=.int .i32 (f.enc:Nat)) Δ Θ;refine ei 5 (cA ak 504) [(0,ϱ C.mu C.mo),(2,Iv 0),(3,.bool WN),(4,.bool WN),(5,Iv 0),(6,.int .i32 (f.enc:Nat))] hS λt w1 hS r=>ay (n:=0) λw1 e=>?_;exact⟨hK.env (hK.env c r) e,_,t,hS,rfl⟩
end
end
end Go.Lw
namespace Go.Me
open Go.Proofs Go.Conc Go.Mx Go.Rk Go.Cr Go.Pw Go.Lw
open Go.ConcR(KK WgAt stA smA rd wr mk)
variable{C:Cx}{i j k b x d N off n r ck:Nat}{m:Md}{own own':Nat->Prop}{g:Xz}{v v1 v' w w' w2:Xr}{L L':List (Nat×Yf)}{FR:Xr->Prop}{o:Yk}{o' o1:Yf}{P:XN}{main:Bool}{f q:XO}{t vs:Array Xu}{kk:List X3}{cs:List XF}{ops:Array Yk}{rest:List Nat}{Lt' base:List (Nat×Xu)}{ags:Array XR}{fn:Func}{c:Yl}{ds:List X5}{ro:Option Nat}{u a1 a2 x1 x2 x3:Xu}{es:Array Yj}{e ty:XI}{ev:XR->Xu}{y z:XR}{l listed:Array Bool}{es2:Array Ye}{a:Int}{A:Type}{VT:List (Nat×Nat×Xu)}
section
abbrev fx(ds:List X5)(ro:Option Nat)(f:XO)(t:Array Xu)(k:List X3):XF:={fn:=f,tmps:=t,todo:=k,defers:=ds,mode:=.run,kind:=.normal,roundOf:=ro}
abbrev Af(ds:List X5)(ro:Option Nat)(f:XO)(t:Array Xu)(k:List X3):XF:={fn:=f,tmps:=t,todo:=k,defers:=ds,mode:=.returning,kind:=.normal,roundOf:=ro}
class Late(kd:Yn):Prop where ne:kd≠.early
instance:Late .normal:=⟨by simp⟩
instance:Late .deferred:=⟨by simp⟩
theorem Late.beq(kd:Yn)[Late kd]:(kd==Yn.early)=WN:=by simpa using Late.ne
abbrev fk(kd:Yn)(ds:List X5)(ro:Option Nat)(f:XO)(t:Array Xu)(k:List X3):XF:={fn:=f,tmps:=t,todo:=k,defers:=ds,mode:=.run,kind:=kd,roundOf:=ro}
abbrev RP(kd:Yn)(ds:List X5)(ro:Option Nat)(f:XO)(t:Array Xu)(k:List X3):XF:={fn:=f,tmps:=t,todo:=k,defers:=ds,mode:=.returning,kind:=kd,roundOf:=ro}
structure Hp(C:Cx)(FR:Xr->Prop)(own:Nat->Prop)(v:Xr)(L:List (Nat×Yf)):Prop where
 ok:ml C own
 ro:∀k,own k->¬C.RO k
 lt:∀k,own k\/C.RO k->k<v.heap.size
 mm:C.mm<v.heap.size
 aL:dj C v
 fr:FR v
 nd:(L.map Prod.fst).Nodup
 at_:∀p∈L,own p.1/\v.heap[p.1]?=Xp p.2
def bb(C:Cx)(FR:Xr->Prop):Prop:=∀v v1:Xr,(∀k,C.RO k->v1.heap[k]?=v.heap[k]?)->FR v->FR v1
theorem Hp.env(c:bb C FR)(h:Hp C FR own v L)(e:Env C i own v v1):Hp C FR own v1 L:=⟨h.ok,h.ro,λk a=>UC (h.lt k a) e.grow,UC h.mm e.grow,e.aL h.aL,c _ _ (λk a=>e.keep k (.inr a)) h.fr,h.nd,λp b=>⟨(h.at_ p b).1,(e.keep _ (.inl (h.at_ p b).1)).trans (h.at_ p b).2⟩⟩
theorem Hp.ee(a:bb C FR)(h:Hp C FR own v L)(e:Env C i (fp C m own) v v1):Hp C FR own v1 L:=h.env a e.fG
theorem Hp.sub(h:Hp C FR own v L)(c:∀p∈L',p∈L)(a:(L'.map Prod.fst).Nodup):Hp C FR own v L':=⟨h.ok,h.ro,h.lt,h.mm,h.aL,h.fr,a,λp b=>h.at_ p (c p b)⟩
theorem Hp.tail{p:Nat×Yf}(h:Hp C FR own v (p::L)):Hp C FR own v L:=h.sub (λq a=>U1 _ a) (VE.1 (by simpa using h.nd)).2
theorem Hp.get(h:Hp C FR own v L){o:Yf}(a:L[k]?=Xp (b,o)):own b/\v.heap[b]?=Xp o:=h.at_ _ (UG a)
theorem gZ:ab.more own v v=own:=by funext k;simp only[ab.more];grind
theorem Hp.alloc(h:Hp C FR own v L)(B:bb C FR)(o:Yf):Hp C FR (ab.more own v (v.alloc o)) (v.alloc o) ((v.heap.size,o)::L):=by have d:=Xr.size_alloc v o;(have a:∀k,k<v.heap.size->(v.alloc o).heap[k]?=v.heap[k]?:=λk b=>by show(v.heap.push o)[k]?=_;grind);obtain⟨⟨s,q,c⟩,⟨x,y,n⟩,⟨A,f,E⟩⟩:=h.aL;have t:=(UD.1 c).1;have u:=(UD.1 n).1;have z:=(UD.1 f).1;refine⟨h.ok.more h.aL h.mm,λk b l=>?_,λk b=>?_,by have:=h.mm;omega,⟨⟨s,q,(a _ t).trans c⟩,⟨x,y,(a _ u).trans n⟩,⟨A,(a _ z).trans f,E⟩⟩,B _ _ (λk b=>a k (h.lt k (.inr b))) h.fr,?_,λp c=>?_⟩;{rcases b with b|b;{exact h.ro k b l};have:=h.lt k (.inr l);omega};{rcases b with(b|b)|b;{have:=h.lt k (.inl b);omega};{omega};have:=h.lt k (.inr b);omega};{simp only[Ve,VE];refine⟨λD=>?_,h.nd⟩;obtain⟨p,c,e⟩:=UK.1 D;have:=h.lt _ (.inl (h.at_ p c).1);omega};rcases UI.1 c with rfl|c;{exact⟨.inr ⟨UB _,by omega⟩,Xr.alloc_heap_new v o⟩};exact⟨.inl (h.at_ p c).1,(a _ (h.lt _ (.inl (h.at_ p c).1))).trans (h.at_ p c).2⟩
theorem mem_set{o:Yf}(a:(L.map Prod.fst).Nodup)(c:L[k]?=Xp (b,o)):∀p∈L.set k (b,o'),p=(b,o')\/(p∈L/\p.1≠b):=by induction L generalizing k with|nil=>simp|cons q l e=>cases k with|zero=>grind|succ k=>grind
theorem zx{o:Yf}(a:L[k]?=Xp (b,o)):(L.set k (b,o')).map Prod.fst=L.map Prod.fst:=by apply Wu;grind
theorem Hp.put(h:Hp C FR own v L)(z:bb C FR){o:Yf}(d:L[k]?=Xp (b,o))(r:v'.heap.size=v.heap.size)(I:v'.heap[b]?=Xp o')(a:∀c,c≠b->v'.heap[c]?=v.heap[c]?):Hp C FR own v' (L.set k (b,o')):=by have f:=(h.get d).1;obtain⟨E,J,F,H⟩:=h.ok b f;obtain⟨⟨s,q,l⟩,⟨x,y,D⟩,⟨t,B,A⟩⟩:=h.aL;refine⟨h.ok,h.ro,λk d=>r▸h.lt k d,r▸h.mm,⟨⟨s,q,(a _ (Ne.symm E)).trans l⟩,⟨x,y,(a _ (Ne.symm F)).trans D⟩,⟨t,(a _ (Ne.symm H)).trans B,A⟩⟩,z _ _ (λk d=>a k λe=>h.ro b f (e▸d)) h.fr,by rw[zx d];exact h.nd,λp l=>?_⟩;rcases mem_set h.nd d p l with rfl|⟨n,u⟩;{simp_all};exact⟨(h.at_ p n).1,(a _ u).trans (h.at_ p n).2⟩
theorem Hp.kd(l:C.Ok)(r:bb C FR):Kd C i own (λw=>Hp C FR own w L):=by(have n:∀{v:Xr}{a:Yc}(u:Xu),a.block=C.mu->(∀s q,av C v s q->∃E D,av C (v.setCell a u) E D)->Hp C FR own v L->Hp C FR own (v.setCell a u) L:=by intro v a u F f h;have b:∀c,c≠C.mu->(v.setCell a u).heap[c]?=v.heap[c]?:=λc H=>ag v a u (by omega);obtain⟨⟨s,q,d⟩,⟨x,y,B⟩,⟨t,A,z⟩⟩:=h.aL;exact⟨h.ok,h.ro,λk o=>by simpa using h.lt k o,by simpa using h.mm,⟨f s q d,⟨x,y,(b _ l.gd.symm).trans B⟩,⟨t,(b _ l.fT.symm).trans A,z⟩⟩,r _ _ (λk o=>b k (l.ro k o).1) h.fr,h.nd,λp d=>⟨(h.at_ p d).1,(b _ (h.ok _ (h.at_ p d).1).1).trans (h.at_ p d).2⟩⟩);exact⟨λh e=>h.env r e,λx h=>n _ rfl (λs q d=>⟨x,q,av.setSt l d x⟩) h,λx h=>n _ rfl (λs q d=>⟨s,x,av.setSm l d x⟩) h,λh=>h.aL⟩
section
variable{Lt:List (Nat×Xu)}{kd:Yn}[Late kd]
def nB(t:Array Xu)(d:Option Nat)(u:Xu):Array Xu:=match d with|some d=>t.setIfInBounds d u|none=>t
theorem fC(z:∀k,o.op≠.defer k)(hS:Sl N Lt t)(e:ops[x]?=Xp o)(p:Region.wanted o (XM ops (tm N Lt t))=Xq)(A:(XE (⟨t,[]⟩:Yh).eval o).run P w=.ok (.value u) w'):XA P main (G (fk kd ds ro f t (.inRegion ops (x::rest)::kk)) cs) w=.go (G (fk kd ds ro f (nB t o.dst u) (.inRegion ops rest::kk)) cs) w' (seen P f ((XE (⟨t,[]⟩:Yh).eval o).events P w #[])):=by(have s:(XF.eval (fk kd ds ro f t (.inRegion ops (x::rest)::kk)))=(⟨t,[]⟩:Yh).eval:=funext λy=>by rfl);(have a:(fk kd ds ro f t (.inRegion ops (x::rest)::kk)).finish u=fk kd ds ro f (nB t o.dst u) (.inRegion ops rest::kk):=by unfold nB;cases r:o.dst<;>simp[XF.finish,e,r]);(have h:XA P main (G (fk kd ds ro f t (.inRegion ops (x::rest)::kk)) cs) w=XA.apply P Xq (fk kd ds ro f t (.inRegion ops (x::rest)::kk)) cs Xv (XE (⟨t,[]⟩:Yh).eval o) w:=by rw[<-s];cases ro with|none=>simp only[G,XA,XA.exec,XA.oper,XF.oper?,e,aU hS p,UN,U9,if_true]|some l=>simp only[G,XA,XA.exec,XA.oper,XF.oper?,e,aU hS p,UN,U9];simp_all);rw[h,<-a];simp[XA.apply,A,GStep.after,G,Late.beq]
theorem rR(z:∀k,o.op≠.defer k)(hS:Sl N Lt t)(e:ops[x]?=Xp o)(p:Region.wanted o (XM ops (tm N Lt t))=Xq)(A:(XE (⟨t,[]⟩:Yh).eval o).run P w=.ok .skip w'):XA P main (G (fk kd ds ro f t (.inRegion ops (x::rest)::kk)) cs) w=.go (G (fk kd ds ro f (nB t o.dst XD) (.inRegion ops rest::kk)) cs) w' (seen P f ((XE (⟨t,[]⟩:Yh).eval o).events P w #[])):=by(have s:(XF.eval (fk kd ds ro f t (.inRegion ops (x::rest)::kk)))=(⟨t,[]⟩:Yh).eval:=funext λy=>by rfl);(have a:(fk kd ds ro f t (.inRegion ops (x::rest)::kk)).finish XD=fk kd ds ro f (nB t o.dst XD) (.inRegion ops rest::kk):=by unfold nB;cases r:o.dst<;>simp[XF.finish,e,r]);(have h:XA P main (G (fk kd ds ro f t (.inRegion ops (x::rest)::kk)) cs) w=XA.apply P Xq (fk kd ds ro f t (.inRegion ops (x::rest)::kk)) cs Xv (XE (⟨t,[]⟩:Yh).eval o) w:=by rw[<-s];cases ro with|none=>simp only[G,XA,XA.exec,XA.oper,XF.oper?,e,aU hS p,UN,U9,if_true]|some l=>simp only[G,XA,XA.exec,XA.oper,XF.oper?,e,aU hS p,UN,U9];simp_all);rw[h,<-a];simp[XA.apply,A,GStep.after,G,Late.beq]
theorem cu{es:Array Ye}{e:Ye}(h:e∈seen P f es):e∈es:=by rw[seen_def]at h;rcases seen_fold_sub _ _ _ _ e h with h|h;{simp at h};simp_all
theorem aI(r:bb C FR)(F:m.said=WN)(hH:Hp C FR own v L)(hS:Sl N Lt t)(H:ops[x]?=Xp (opn ops x))(I:Region.wanted (opn ops x) (XM ops (tm N Lt t))=Xq)(B:(opn ops x).dst=Xp d)(b:∀k,(opn ops x).op≠.defer k)(E:∀v1,Hp C FR own v1 L->(XE (⟨t,[]⟩:Yh).eval (opn ops x)).run C.P v1=.ok (.value u) v1/\∀e∈(XE (⟨t,[]⟩:Yh).eval (opn ops x)).events C.P v1 #[],qL C own e)(h:af C i j m own (G (fk kd ds ro f (t.setIfInBounds d u) (.inRegion ops rest::kk)) cs) v):af C i j m own (G (fk kd ds ro f t (.inRegion ops (x::rest)::kk)) cs) v:=by refine .step rfl F λv1 l=>?_;obtain⟨n,p⟩:=E v1 (hH.ee r l);refine⟨_,v1,_,fC b hS H I n,⟨λ_ _ _=>rfl,UB _,rfl,rfl,rfl,λe D=>?_⟩,?_⟩;{rw[gZ];have:=p e (cu D);rcases this with x|x;{refine .inl ?_;rcases x with⟨k,y,z,w⟩|x;{exact .inl ⟨k,y,z.imp .inl id,w⟩};exact .inr x};exact .inr x};rw[gZ];rw[B];exact h.env l
theorem gI{o2:Yf}(H:bb C FR)(hm:m.said=WN)(hH:Hp C FR own v L)(J:L[k]?=Xp (b,o1))(hS:Sl N Lt t)(ho:ops[x]?=Xp (opn ops x))(hw:Region.wanted (opn ops x) (XM ops (tm N Lt t))=Xq)(Y:(opn ops x).dst=Xv)(E:∀k,(opn ops x).op≠.defer k)(hl:∀v1,v1.heap[b]?=Xp o1->∃v2:Xr,(XE (⟨t,[]⟩:Yh).eval (opn ops x)).run C.P v1=.ok .skip v2/\v2.heap.size=v1.heap.size/\v2.heap[b]?=Xp o2/\(∀c,c≠b->v2.heap[c]?=v1.heap[c]?)/\v2.os=v1.os/\v2.output=v1.output/\v2.tape=v1.tape/\∀e∈(XE (⟨t,[]⟩:Yh).eval (opn ops x)).events C.P v1 #[],(match e.loc with|.cell a=>a.block=b|.obj j=>j=b|_=>False)/\e.sync=WN)(h:∀v2,(m.tok=Xq->ar C v->ar C v2)->Hp C FR own v2 (L.set k (b,o2))->af C i j m own (G (fk kd ds ro f t (.inRegion ops rest::kk)) cs) v2):af C i j m own (G (fk kd ds ro f t (.inRegion ops (x::rest)::kk)) cs) v:=by refine .step rfl hm λv1 K=>?_;have r:=hH.ee H K;obtain⟨p,B⟩:=r.get J;obtain⟨v2,T,F,X,n,O,Q,R,U⟩:=hl v1 B;(have l:ab.more own v1 v2=own:=by funext k;simp only[ab.more];grind);refine⟨_,v2,_,rR E hS ho hw T,⟨λc _ D=>n c λe=>D (.inl (e▸p)),by omega,O,Q,R,λe Z=>?_⟩,?_⟩;{obtain⟨x,y⟩:=U e (cu Z);exact .inl (.inl ⟨b,x,.inl (.inl (.inl p)),y⟩)};rw[l];rw[Y];refine h v2 (λht hM=>?_) (r.put H J F X n);obtain⟨S,⟨M,D⟩,A⟩:=hM.env K (.inr ⟨ht,rfl⟩);exact⟨S,⟨M,(n _ (λe=>(hH.ok b p).2.1 e.symm)).trans D⟩,A⟩
theorem js(r:bb C FR)(M:m.said=WN)(hH:Hp C FR own v L)(hS:Sl N Lt t)(O:ops[x]?=Xp (opn ops x))(S:Region.wanted (opn ops x) (XM ops (tm N Lt t))=Xq)(H:(opn ops x).dst=Xp d)(p:∀k,(opn ops x).op≠.defer k)(K:∀v1:Xr,(XE (⟨t,[]⟩:Yh).eval (opn ops x)).run C.P v1=.ok (.value (ϖ v1.heap.size)) (v1.alloc o1)/\(XE (⟨t,[]⟩:Yh).eval (opn ops x)).events C.P v1 #[]=#[])(h:∀own' b v2,(∀k,own k->own' k)->(m.tok=Xq->ar C v->ar C v2)->Hp C FR own' v2 ((b,o1)::L)->af C i j m own' (G (fk kd ds ro f (t.setIfInBounds d (ϖ b)) (.inRegion ops rest::kk)) cs) v2):af C i j m own (G (fk kd ds ro f t (.inRegion ops (x::rest)::kk)) cs) v:=by refine .step rfl M λv1 s=>?_;have l:=hH.ee r s;obtain⟨A,T⟩:=K v1;have Q:=Xr.size_alloc v1 o1;refine⟨_,v1.alloc o1,_,fC p hS O S A,⟨λc F _=>?_,by omega,rfl,rfl,rfl,λe I=>?_⟩,?_⟩;{show(v1.heap.push o1)[c]?=_;grind};{have:=cu I;simp_all};rw[H];refine h _ _ _ (λk J=>.inl J) (λR hM=>?_) (l.alloc r o1);obtain⟨z,⟨y,F⟩,n⟩:=hM.env s (.inr ⟨R,rfl⟩);refine⟨z,⟨y,?_⟩,n⟩;show(v1.heap.push o1)[C.mm]?=_;grind
end
end
section
theorem jr{ad:Yc}(b:o.op=.load ty y)(e:ev y=.pointer (Xp ad))(c:∀w,(isAgg ty).run P w=.ok WN w)(d:w.cell? ad=Xp u):(XE ev o).run P w=.ok (.value u) w/\(XE ev o).events P w #[]=#[⟨.cell ad,WN,WN⟩]:=by all_goals unfold XE;simp only[b,e];simp[go_sem,c,d]
theorem vq{fr:Nat×Nat}(c:o.op=.load ty y)(h:ev y=ϖ b)(d:∀w,(isAgg ty).run P w=.ok Xq w)(g:∀w,(Go.sizeOf ty).run P w=.ok 2 w)(f:w.heap[b]?=Xp (.cells #[a1,a2] e fr)):(XE ev o).run P w=.ok (.value (.agg #[a1,a2])) w/\(XE ev o).events P w #[]=#[⟨.cell ⟨b,0,Xv⟩,WN,WN⟩,⟨.cell ⟨b,1,Xv⟩,WN,WN⟩]:=by all_goals unfold XE;simp only[c,h];simp[go_sem,d,g,f,Xr.cell?]
theorem Dd{a3:Xu}{fr:Nat×Nat}(c:o.op=.load ty y)(h:ev y=ϖ b)(d:∀w,(isAgg ty).run P w=.ok Xq w)(g:∀w,(Go.sizeOf ty).run P w=.ok 3 w)(f:w.heap[b]?=Xp (.cells #[a1,a2,a3] e fr)):(XE ev o).run P w=.ok (.value (.agg #[a1,a2,a3])) w/\(XE ev o).events P w #[]=#[⟨.cell ⟨b,0,Xv⟩,WN,WN⟩,⟨.cell ⟨b,1,Xv⟩,WN,WN⟩,⟨.cell ⟨b,2,Xv⟩,WN,WN⟩]:=by all_goals unfold XE;simp only[c,h];simp[go_sem,d,g,f,Xr.cell?]
theorem hZ{z:Xu}(b:o.op=.alloc ty)(c:∀w,(zeroValue ty).run P w=.ok z w):(XE ev o).run P w=.ok (.value (ϖ w.heap.size)) (w.alloc (.cells z.cells ty))/\(XE ev o).events P w #[]=#[]:=by all_goals unfold XE;simp only[b];simp[go_sem,c]
theorem Kk{z:Xu}(b:o.op=.box ty y)(c:ev y=z):(XE ev o).run P w=.ok (.value (ϖ w.heap.size)) (w.alloc (.cells z.cells ty))/\(XE ev o).events P w #[]=#[]:=by all_goals unfold XE;simp only[b,c];simp[go_sem]
def One(u:Xu):Prop:=(∃k n,u=.int k n)\/(∃b,u=.bool b)\/(∃s,u=.string s)\/∃a,u=.pointer a
theorem ig{c:Array Xu}(f:w.heap[b]?=Xp (.cells c e))(h:off<c.size)(g:u.oneCell'=Xq)(m:Mode):(store ⟨b,off,Xv⟩ u m).run P w=.ok () (w.setCell ⟨b,off,Xv⟩ u)/\∀es,(store ⟨b,off,Xv⟩ u m).events P w es=es.push ⟨.cell ⟨b,off,Xv⟩,Xq,m==.atomic⟩:=by(have a:w.cell? ⟨b,off,Xv⟩=Xp c[off]:=by simp[Xr.cell?,f,h]);(have d:w.frozen? ⟨b,off,Xv⟩=WN:=by simp[Xr.frozen?,f]);constructor;{rw[run_store _ _ _ _ _ g,a];simp[d]};intro es;rw[events_store P w es ⟨b,off,Xv⟩ u m g,a];simp[d]
theorem dK{c:Array Xu}(a:w.heap[b]?=Xp (.cells c e)):(w.setCell ⟨b,off,Xv⟩ u).heap[b]?=Xp (.cells (c.setIfInBounds off u) e):=gO w ⟨b,off,Xv⟩ u rfl a
theorem dq(b off i:Nat):(⟨b,off,Xv⟩:Yc).add i=⟨b,off+i,Xv⟩:=by unfold Yc.add;simp
theorem One.cells(h:One u):u.cells=#[u]/\u.oneCell'=Xq:=by rcases h with⟨k,n,rfl⟩|⟨x,rfl⟩|⟨s,rfl⟩|⟨a,rfl⟩<;>exact⟨rfl,rfl⟩
theorem fN{n:XI}{l:List Xu}(d:∀w,(Go.sizeOf ty).run P w=.ok n w)(e:u.cells.toList=l)(i:l.length=n)(g:(storeCells ⟨b,off,Xv⟩ l).run P w=.ok () w2)(h:(storeCells ⟨b,off,Xv⟩ l).events P w #[]=es2)(c:∀es,(Go.sizeOf ty).events P w es=es):(storeVar ty ⟨b,off,Xv⟩ u).run P w=.ok () w2/\(storeVar ty ⟨b,off,Xv⟩ u).events P w #[]=es2:=by(have a:¬u.cells.size≠n:=by grind);constructor;{simp only[storeVar,X0.run_bind,d,Ya.andThen,a,if_false,e,g]};simp only[storeVar,X0.events_bind,d,Ya.evThen,c,a,if_false,e,h]
theorem gG(c:o.op=.store ty y z)(e:ev y=ϱ b off)(f:ev z=u)(h:(storeVar ty ⟨b,off,Xv⟩ u).run P w=.ok () w2/\(storeVar ty ⟨b,off,Xv⟩ u).events P w #[]=es2):(XE ev o).run P w=.ok .skip w2/\(XE ev o).events P w #[]=es2:=by obtain⟨d,g⟩:=h;constructor;{unfold XE;simp only[c,e,f,Instr.storeAt,Instr.sureAddr,X0.run_bind,X0.run_pure,Ya.andThen,d]};unfold XE;simp only[c,e,f,Instr.storeAt,Instr.sureAddr,X0.run_bind,X0.run_pure,Ya.andThen,d,X0.events_bind,X0.events_pure,Ya.evThen,g]
theorem AB{c:Array Xu}(a:o.op=.store ty y z)(n:ev y=ϱ b off)(p:ev z=u)(f:One u)(k:∀w,(Go.sizeOf ty).run P w=.ok 1 w)(d:∀w es,(Go.sizeOf ty).events P w es=es)(j:w.heap[b]?=Xp (.cells c e))(m:off<c.size):(XE ev o).run P w=.ok .skip (w.setCell ⟨b,off,Xv⟩ u)/\(XE ev o).events P w #[]=#[⟨.cell ⟨b,off,Xv⟩,Xq,WN⟩]:=by obtain⟨h,i⟩:=ig j m f.cells.2 .plain;refine gG a n p (fN k (by rw[f.cells.1]) rfl ?_ ?_ (d w));{assumption};simp only[storeCells,dq,Vh,X0.events_bind,h,i,Ya.evThen];rfl
theorem ft{y1 y2 y3:Int}{k:XH}(a:o.op=.store ty y z)(s:ev y=ϖ b)(t:ev z=.agg #[.int k y1,.int k y2,.int k y3])(r:∀w,(Go.sizeOf ty).run P w=.ok 3 w)(c:∀w es,(Go.sizeOf ty).events P w es=es)(i:w.heap[b]?=Xp (.cells #[x1,x2,x3] e)):(XE ev o).run P w=.ok .skip (((w.setCell ⟨b,0,Xv⟩ (.int k y1)).setCell ⟨b,1,Xv⟩ (.int k y2)).setCell ⟨b,2,Xv⟩ (.int k y3))/\(XE ev o).events P w #[]=#[⟨.cell ⟨b,0,Xv⟩,Xq,WN⟩,⟨.cell ⟨b,1,Xv⟩,Xq,WN⟩,⟨.cell ⟨b,2,Xv⟩,Xq,WN⟩]:=by have d:=dK (off:=0) (u:=.int k y1) i;have m:=dK (off:=1) (u:=.int k y2) d;obtain⟨f,n⟩:=ig (P:=P) (off:=0) (u:=.int k y1) i Θ rfl .plain;obtain⟨g,p⟩:=ig (P:=P) (off:=1) (u:=.int k y2) d Θ rfl .plain;obtain⟨h,q⟩:=ig (P:=P) (off:=2) (u:=.int k y3) m Θ rfl .plain;refine gG a s t (fN r (l:=[.int k y1,.int k y2,.int k y3]) rfl rfl ?_ ?_ (c w));{simp only[storeCells,dq,X0.run_bind,f,g,h,Ya.andThen,X0.run_pure]};simp only[storeCells,dq,X0.events_bind,f,n,g,p,h,q,Ya.evThen];rfl
theorem mS{y1 y2 y3:Xu}(a:w.heap[b]?=Xp (.cells #[x1,x2,x3] e)):(((w.setCell ⟨b,0,Xv⟩ y1).setCell ⟨b,1,Xv⟩ y2).setCell ⟨b,2,Xv⟩ y3).heap[b]?=Xp (.cells #[y1,y2,y3] e):=by rw[dK (dK (dK a))];rfl
end
section
def sk(a:Int)(s:ByteArray):Xu:=.agg #[Iv a,.string s]
abbrev Fd:=Int×Int×Int
def fv(x:Fd):Xu:=.agg #[Iv x.1,Iv x.2.1,Iv x.2.2]
theorem eq_int(d:Nat)(a b:Int):(Op.equalIn (d+1) 3 (Iv a) (Iv b)).run Pz w=.ok (a==b) w:=by unfold Op.equalIn;simp
theorem Is(d:Nat)(s r:ByteArray):(Op.equalIn (d+1) 9 (.string s) (.string r)).run Pz w=.ok (s==r) w:=by unfold Op.equalIn;simp
theorem Pn(d:Nat)(a b:Int)(s r:ByteArray):(Op.equalIn (d+1+1) 112 (sk a s) (sk b r)).run Pz w=.ok (a==b&&s==r) w:=by unfold Op.equalIn sk;simp[go_sem,eq_int,Is];grind
theorem qY(a b:Int)(s r:ByteArray):(Op.equal 112 (sk a s) (sk b r)).run Pz w=.ok (a==b&&s==r) w:=Pn 9998 a b s r
theorem Nr(d:Nat)(a b:Int)(es:Array Ye):(Op.equalIn (d+1) 3 (Iv a) (Iv b)).events Pz w es=es:=by unfold Op.equalIn;simp
theorem Nz(d:Nat)(s r:ByteArray)(es:Array Ye):(Op.equalIn (d+1) 9 (.string s) (.string r)).events Pz w es=es:=by unfold Op.equalIn;simp
theorem O'(d:Nat)(a b:Int)(s r:ByteArray)(es:Array Ye):(Op.equalIn (d+1+1) 112 (sk a s) (sk b r)).events Pz w es=es:=by unfold Op.equalIn sk;simp[eq_int,Is,Nr,Nz,part]
theorem BR(a b:Int)(s r:ByteArray)(es:Array Ye):(Op.equal 112 (sk a s) (sk b r)).events Pz w es=es:=O' 9998 a b s r es
theorem Nk(f:Bool)(d:Nat)(a:Int)(s:ByteArray):(Instr.checkKey f (d+1+1) 112 (sk a s)).run Pz w=.ok () w/\∀es,(Instr.checkKey f (d+1+1) 112 (sk a s)).events Pz w es=es:=by unfold sk;constructor;{simp[Instr.checkKey,go_sem,runUnderlying3,sizeOf3,sizeOf9,part]};intro es;simp[Instr.checkKey,go_sem,runUnderlying3,runUnderlying9,sizeOf3,sizeOf9,part]
theorem iZ(d:Bool)(a:Int)(s:ByteArray):(Instr.checkKey d 10000 112 (sk a s)).run Pz w=.ok () w/\∀es,(Instr.checkKey d 10000 112 (sk a s)).events Pz w es=es:=Nk d 9998 a s
def jx(F:Int->ByteArray->Fd)(es:Array Yj):Prop:=∀e∈es,∃a s,e.key=sk a s/\e.val=fv (F a s)
theorem Cq{F:Int->ByteArray->Fd}(a:Int)(s:ByteArray):∀(l:List Yj)(i:Nat),(∀e∈l,∃a s,e.key=sk a s/\e.val=fv (F a s))->∃r,(Instr.findAsking 112 (sk a s) l i).run Pz w=.ok r w/\(∀es,(Instr.findAsking 112 (sk a s) l i).events Pz w es=es)/\(r=Xv\/∃j e,r=Xp (j,fv (F a s))/\i<=j/\l[j-i]?=Xp e/\e.key=sk a s)|[],i,_=>⟨Xv,by rfl,by simp[Instr.findAsking],.inl rfl⟩|e::l,i,h=>by obtain⟨b,r,m,x⟩:=h e (UM ..);obtain⟨q,A,B,p⟩:=Cq a s l (i+1) (λe y=>h e (U1 _ y));by_cases d:(a==b&&s==r)=Xq;{rw[UE]at d;obtain⟨t,n⟩:=d;(obtain rfl:a=b:=by simp_all);obtain rfl:=(MapKept.bytes_beq s r).1 n;have d:(s==s)=Xq:=n;refine⟨Xp (i,e.val),?_,λes=>?_,.inr ⟨i,e,by rw[x],UB _,by simp,m⟩⟩;{simp[Instr.findAsking,X0.run_bind,m,qY,Ya.andThen,d]};simp[Instr.findAsking,X0.events_bind,m,qY,BR,Ya.evThen,d]};(have d:(a==b&&s==r)=WN:=by simp_all);refine⟨q,?_,λes=>?_,?_⟩;{simp only[Instr.findAsking,X0.run_bind,m,qY,Ya.andThen,d];simp_all};{simp only[Instr.findAsking,X0.events_bind,m,qY,BR,Ya.evThen,d];simp_all};rcases p with p|⟨j,v,t,n,C,z⟩;{grind};refine .inr ⟨j,v,t,by omega,?_,z⟩;grind
theorem td{F:Int->ByteArray->Fd}(a:Int)(s:ByteArray){l:List Yj}(h:∀e∈l,∃a s,e.key=sk a s/\e.val=fv (F a s)):∃r,(Instr.findKey 112 (sk a s) l).run Pz w=.ok r w/\(∀es,(Instr.findKey 112 (sk a s) l).events Pz w es=es)/\(r=Xv\/∃j e,r=Xp (j,fv (F a s))/\l[j]?=Xp e/\e.key=sk a s):=by obtain⟨r,g,n,i⟩:=Cq a s l 0 h;cases l with|nil=>refine⟨Xv,?_,λes=>?_,.inl rfl⟩;{simp[Instr.findKey,Instr.findNow]};simp[Instr.findKey,Instr.findNow]|cons e l=>(have f:∀d,Instr.findNow (.struct d) (sk a s) (e::l) 0=Xv:=λd=>by rfl);refine⟨r,?_,λes=>?_,i.imp id λ⟨j,e,k,p,q,m⟩=>⟨j,e,k,by omega,m⟩⟩;{simp only[Instr.findKey,X0.run_bind,runUnderlying112,Ya.andThen,f];exact g};simp only[Instr.findKey,f];simp_all
theorem bQ(h:w.heap[r]?=Xp (.map es ck)):(getObj r).run Pz w=.ok (.map es ck) w/\∀ev,(getObj r).events Pz w ev=ev.push ⟨.obj r,WN,WN⟩:=⟨by simp[getObj,X0.run,h],λev=>by simp[getObj,X0.events,X0.runT,h,Yf.isChan,-X0.runT_eq]⟩
theorem map_set(h:w.heap[r]?=Xp (.map es ck))(b:Array Yj)(a:Nat):(setObj r (.map b a)).run Pz w=.ok () {w with heap:=w.heap.setIfInBounds r (.map b a)}/\∀ev,(setObj r (.map b a)).events Pz w ev=ev.push ⟨.obj r,Xq,WN⟩:=⟨by simp[setObj,X0.run,h],λev=>by simp[setObj,X0.events,X0.runT,h,Yf.isChan]⟩
theorem Av{F:Int->ByteArray->Fd}{s:ByteArray}(f:o.op=.lookup 152 y z Xq)(k:ev y=.map (Xp r))(m:ev z=sk a s)(g:w.heap[r]?=Xp (.map es ck))(hM:jx F es):∃p x,(XE ev o).run Pz w=.ok (.value (.tuple #[fv x,.bool p])) w/\(XE ev o).events Pz w #[]=#[⟨.obj r,WN,WN⟩]/\(p=Xq->x=F a s):=by obtain⟨q,i,n,t⟩:=td (w:=w) (F:=F) a s (l:=es.toList) (λe A=>hM e (by simp_all));rcases t with rfl|⟨j,e,rfl,-,-⟩;{refine⟨WN,(0,0,0),?_,?_,λh=>by cases h⟩;{unfold XE;simp only[f,k,m];simp[go_sem,Instr.lookup,(bQ g).1,iZ,i,zeroValue108,fv]};unfold XE;simp only[f,k,m];simp[go_sem,Instr.lookup,(bQ g).1,(bQ g).2,iZ,i,n,zeroValue108,fv]};refine⟨Xq,F a s,?_,?_,λ_=>rfl⟩;{unfold XE;simp only[f,k,m];simp[go_sem,Instr.lookup,(bQ g).1,iZ,i,zeroValue108,fv]};unfold XE;simp only[f,k,m];simp[go_sem,Instr.lookup,(bQ g).1,(bQ g).2,iZ,i,n,zeroValue108,fv]
theorem rX(a:Int)(s:ByteArray):Instr.sameBits 10000 (sk a s) (sk a s)=Xq:=by(have h:∀n,Instr.sameBits (n+1) (sk a s) (sk a s)=Xq:=λn=>by have:=(MapKept.bytes_beq s s).2 rfl;simp[sk,Instr.sameBits,this]);grind
theorem uH{F:Int->ByteArray->Fd}{s:ByteArray}{x:XR}(g:o.op=.mapUpdate 152 y z x)(t:ev y=.map (Xp r))(v:ev z=sk a s)(p:ev x=fv (F a s))(f:w.heap[r]?=Xp (.map es ck))(hM:jx F es):∃k A,(XE ev o).run Pz w=.ok .skip {w with heap:=w.heap.setIfInBounds r (.map k A)}/\(XE ev o).events Pz w #[]=#[⟨.obj r,WN,WN⟩,⟨.obj r,Xq,WN⟩]/\jx F k:=by obtain⟨q,m,E,I⟩:=td (w:=w) (F:=F) a s (l:=es.toList) (λe i=>hM e (by simp_all));rcases I with rfl|⟨j,e,rfl,K,i⟩;{refine⟨es.push {key:=sk a s,val:=fv (F a s),born:=ck},ck+1,?_,?_,λe i=>?_⟩;{unfold XE;simp only[g,t,v,p];simp[go_sem,Instr.mapUpdate,runUnderlying152,(bQ f).1,iZ,m,(map_set f _ _).1]};{unfold XE;simp only[g,t,v,p];simp[go_sem,Instr.mapUpdate,runUnderlying152,(bQ f).1,(bQ f).2,iZ,m,E,(map_set f _ _).1,(map_set f _ _).2]};rcases Wx.1 i with i|rfl;{exact hM e i};grind};(have J:es[j]?=Xp e:=by simp_all);(have h:((Option.map (λx:Yj=>x.key) es[j]?).getD (sk a s))=sk a s:=by simp_all);refine⟨es.modify j λe=>{key:=sk a s,val:=fv (F a s),born:=e.born},ck,?_,?_,λe i=>?_⟩;{unfold XE;simp only[g,t,v,p];simp[go_sem,Instr.mapUpdate,runUnderlying152,(bQ f).1,iZ,m,h,Instr.keyThatStays,rX,(map_set f _ _).1]};{unfold XE;simp only[g,t,v,p];simp[go_sem,Instr.mapUpdate,runUnderlying152,(bQ f).1,(bQ f).2,iZ,m,E,h,Instr.keyThatStays,rX,(map_set f _ _).1,(map_set f _ _).2]};obtain⟨n,C⟩:=XV i;rw[Vs]at C;split at C;{grind};exact hM e (Vm C)
end
section
def Bz(ops:Array Yk):Bool:=(List.range ops.size).all λi=>match ops[i]? with|some o=>o.after.all λe=>!Region.binds .any e||decide (e.on<i)|none=>Xq
def NG(n:Nat)(listed:Array Bool):Nat:=((List.range n).filter λi=>!listed.getD i Xq).length
theorem filter_lt{l:List Nat}{p q:Nat->Bool}(h:∀x∈l,p x=Xq->q x=Xq){a:Nat}(b:a∈l)(e:p a=WN)(f:q a=Xq):(l.filter p).length<(l.filter q).length:=by induction l with|nil=>cases b|cons x l c=>(have d:(l.filter p).length<=(l.filter q).length:=by induction l with|nil=>simp|cons y l c=>grind);grind
theorem oY{d:Bool}:(l.setIfInBounds i Xq).getD j d=if i=j/\j<l.size then Xq else l.getD j d:=by simp only[UH];grind
theorem Km(d:l.size=n)(c:i<n)(h:l.getD i Xq=WN):NG n (l.setIfInBounds i Xq)<NG n l:=by refine filter_lt (a:=i) (λx _ b=>?_) (by simp_all) ?_ (by simp[h]);{rw[oY]at b;simp_all};simp
theorem Jq(m:Bz ops=Xq)(I:Array Bool->A->Prop)(R:List Nat->A->Prop)(B:∀listed a i rest o,listed.size=ops.size->ops[i]?=Xp o->listed.getD i Xq=WN->(∀e∈o.after,Region.binds .any e=Xq->listed.getD e.on WN=Xq)->I listed a->(∀h,I (listed.setIfInBounds i Xq) h->R rest h)->R (i::rest) a)(q:∀listed a,(∀i,i<ops.size->listed.getD i Xq=Xq)->I listed a->R [] a):∀fuel t listed a,listed.size=ops.size->NG ops.size listed<=fuel->I listed a->R (Region.linearise.go .any ops fuel t listed []) a:=by intro fuel;induction fuel with|zero=>intro t listed a n u j;refine q listed a (λi d=>?_) j;have:(List.range ops.size).filter (λi=>!listed.getD i Xq)=[]:=X6 (by unfold NG at u;omega);simp_all|succ fuel C=>intro t listed a n u j;simp only[Region.linearise.go];change R (match(Region.ready .any ops listed)[t%(Region.ready .any ops listed).length]? with|some i=>Region.linearise.go .any ops fuel (t/(Region.ready .any ops listed).length) (listed.setIfInBounds i Xq) [i]|none=>[].reverse) a;cases d:(Region.ready .any ops listed)[t%(Region.ready .any ops listed).length]? with|none=>(have s:Region.ready .any ops listed=[]:=by cases z:Region.ready .any ops listed with|nil=>rfl|cons x v=>rw[z]at d;have g:t%(x::v).length<(x::v).length:=Vw _ Θ;grind);refine q listed a (λi d=>?_) j;(induction i using Nat.strongRecOn with|_ i D=>refine Vq λp=>?_;(have p:listed.getD i Xq=WN:=by simp_all);(have r:i∈Region.ready .any ops listed:=by rw[mem_ready];refine⟨p,ops[i],UL d,λe y E=>?_⟩;have f:=U8.1 m i (by simp_all);rw[UL d]at f;have k:=V4.1 f e y;grind);simp_all)|some i=>simp only[];rw[linearise_go_acc,List.reverse_singleton,List.singleton_append];obtain⟨f,o,k,w⟩:=mem_ready.1 (UG d);have g:i<ops.size:=(UD.1 k).1;refine B listed a i _ o n k f w j λh l=>C _ _ h (by simp_all) ?_ l;have:=Km n g f;omega
def waits(ops:Array Yk)(n k:Nat):Bool:=match ops[n]? with|some o=>o.after.any (λe=>Region.binds .any e&&e.on==k)|none=>WN
theorem DU:waits ops n k=Xq↔∃o,ops[n]?=Xp o/\∃e∈o.after,Region.binds .any e=Xq/\e.on=k:=by unfold waits;cases ops[n]? with|none=>simp|some o=>show(o.after.any _=Xq)↔_;rw[<-Array.any_toList,UQ];simp
def Closed(ops:Array Yk)(listed:Array Bool):Prop:=∀n k,waits ops n k=Xq->listed.getD n WN=Xq->listed.getD k WN=Xq
theorem nX(h:(l.setIfInBounds i Xq).getD n WN=Xq):n=i\/l.getD n WN=Xq:=by rw[oY]at h;grind
theorem vr(h:l.getD n WN=Xq):(l.setIfInBounds i Xq).getD n WN=Xq:=by rw[oY];simp_all
theorem e8(h:i<l.size):(l.setIfInBounds i Xq).getD i WN=Xq:=by simp_all
theorem xW(j:Bz ops=Xq)(I:Array Bool->A->Prop)(R:List Nat->A->Prop)(C:∀listed a i rest,listed.size=ops.size->i<ops.size->listed.getD i WN=WN->(∀k,waits ops i k=Xq->listed.getD k WN=Xq)->Closed ops listed->I listed a->(∀f,I (listed.setIfInBounds i Xq) f->R rest f)->R (i::rest) a)(w:∀listed a,(∀i,i<ops.size->listed.getD i WN=Xq)->I listed a->R [] a){fuel t:Nat}{a:A}(p:listed.size=ops.size)(s:NG ops.size listed<=fuel)(u:Closed ops listed)(v:I listed a):R (Region.linearise.go .any ops fuel t listed []) a:=by refine Jq j (λl a=>l.size=ops.size/\Closed ops l/\I l a) R (λlisted a i rest o D z y hdep c x=>?_) (λlisted a y c=>w listed a (λi r=>?_) c.2.2) fuel t listed a p s ⟨p,u,v⟩;{have r:=(UD.1 z).1;(have b:∀k,waits ops i k=Xq->listed.getD k WN=Xq:=λk g=>by obtain⟨H,B,e,F,E,rfl⟩:=DU.1 g;simp_all);refine C listed a i rest D r ?_ b c.2.1 c.2.2 λf h=>x f ⟨by simp_all,λn k g m=>?_,h⟩;{simp_all};rcases nX m with rfl|m;{exact vr (b k g)};exact vr (c.2.1 n k g m)};simp_all
section
variable{Lt:List (Nat×Xu)}
structure EX where
 own:Nat->Prop
 t:Array Xu
 v:Xr
abbrev EX.s(z:EX)(d:Nat)(u:Xu):EX:=⟨z.own,z.t.setIfInBounds d u,z.v⟩
theorem Na(x:Xr)(n:Nat):DL x {x with drawn:=n} #[]:=⟨rfl,rfl,rfl,.refl _,rfl⟩
theorem ez{kd:Yn}{id:Nat}(z:C.P.follows .mixedOrders=Xq)(r:Bz ops=Xq)(I:Array Bool->EX->Prop)(D:∀listed a e rest,listed.size=ops.size->e<ops.size->listed.getD e WN=WN->(∀k,waits ops e k=Xq->listed.getD k WN=Xq)->Closed ops listed->I listed a->(∀h,I (listed.setIfInBounds e Xq) h->af C i j m h.own (G (fk kd ds ro f h.t (.inRegion ops rest::kk)) cs) h.v)->af C i j m a.own (G (fk kd ds ro f a.t (.inRegion ops (e::rest)::kk)) cs) a.v)(y:∀listed a,(∀i,i<ops.size->listed.getD i WN=Xq)->I listed a->af C i j m a.own (G (fk kd ds ro f a.t (.inRegion ops []::kk)) cs) a.v)(s:∀v1,Env C i (fp C m own) v v1->I (Array.replicate ops.size WN) ⟨own,t,v1⟩):af C i j m own (G (fk kd ds ro f t (.code (.region id ops Xq)::kk)) cs) v:=by refine .idle rfl λv1 E=>⟨G (fk kd ds ro f t (.inRegion ops (Region.schedule (C.P.follows .mixedOrders) ops (v1.tape v1.drawn (.order f id)))::kk)) cs,{v1 with drawn:=v1.drawn+1},?_,Na _ _,?_⟩;{rfl};simp only[z,if_true];refine xW r I (λl a=>af C i j m a.own (G (fk kd ds ro f a.t (.inRegion ops l::kk)) cs) a.v) D y Θ ?_ (λn k _ B=>?_) (s _ ?_);{unfold NG;grind};{simp only[UH]at B;grind};refine E.trans ?_;exact qf (Na v1 _)
structure DF(N:Nat)(base:List (Nat×Xu))(VT:List (Nat×Nat×Xu))(listed:Array Bool)(t:Array Xu):Prop where
 size:t.size=N
 base:∀p∈base,t.getD p.1 XD=p.2
 done:∀q∈VT,listed.getD q.1 WN=Xq->t.getD q.2.1 XD=q.2.2
theorem DF.sl(h:DF N base VT listed t){l:List (Nat×Xu)}(e:∀p∈l,p∈base\/∃n,(n,p)∈VT/\listed.getD n WN=Xq):Sl N l t:=⟨h.size,λp k=>(e p k).elim (h.base p) λ⟨n,a,b⟩=>h.done _ a b⟩
theorem DF.put(h:DF N base VT listed t)(D:∀q∈VT,q.1=n->q.2=(d,u))(A:d<N)(z:base.all (λp=>p.1 !=d)=Xq)(E:VT.all (λq=>q.1==n||q.2.1 !=d)=Xq):DF N base VT (listed.setIfInBounds n Xq) (t.setIfInBounds d u):=by(have e:∀k,k≠d->(t.setIfInBounds d u).getD k XD=t.getD k XD:=λk F=>by simp only[UH];grind);refine⟨by simp[h.size],λp y=>?_,λq l B=>?_⟩;{have:=U8.1 z p y;rw[e _ (by simp_all)];exact h.base p y};by_cases r:q.1=n;{obtain⟨a,b,c⟩:=q;have:=D _ l r;cases this;simp[h.size,A]};have:=U8.1 E q l;(have s:q.2.1≠d:=by simp_all);rw[e _ s];exact h.done q l ((nX B).resolve_left r)
theorem DF.skip(h:DF N base VT listed t)(e:VT.all (λq=>q.1 !=n)=Xq):DF N base VT (listed.setIfInBounds n Xq) t:=by refine⟨h.size,h.base,λq a b=>?_⟩;have:=U8.1 e q a;exact h.done q a ((nX b).resolve_left (by simp_all))
theorem DF.re{VT':List (Nat×Nat×Xu)}(h:DF N base VT listed t)(b:∀q∈VT',listed.getD q.1 WN=Xq->q∈VT):DF N base VT' listed t:=⟨h.size,h.base,λq e a=>h.done q (b q e a) a⟩
end
end
section
section
variable{Lt:List (Nat×Xu)}{kd:Yn}[Late kd]
def uG(P:XN)(H:List (Nat×Xu))(n:Nat)(F:XF):Array Xu:=match br P H n F with|some x=>x.1.tmps|none=>#[]
theorem tL{H:List (Nat×Xu)}{k k':List X3}{obs:List (Xu×Xu)}(n:Nat)(s:Sl N Lt t)(b:br C.P H n (fk kd ds ro f (tm N Lt t) k)=Xp (fk kd ds ro f (uG C.P H n (fk kd ds ro f (tm N Lt t) k)) k',obs))(y:∀p∈obs,p.1=p.2)(h:Sl N Lt' (uG C.P H n (fk kd ds ro f (tm N Lt t) k)))(l:∀a,Sl N Lt' a->af C i j m own (G (fk kd ds ro f a k') cs) v):af C i j m own (G (fk kd ds ro f t k) cs) v:=by(have e:fk kd ds ro f t k=fk kd ds ro f (tm N Lt t) k:=by rw[<-s.tm]);rw[e];exact nR (J:=λg=>af C i j m own g v) (λF A z r=>.ctl rfl z r) n b y rfl Late.ne (l _ h)
def MY:Op->Bool
 |.defer _=>Xq
 |_=>WN
theorem aS{k:List X3}(n:Nat)(k':List X3)(Lt':List (Nat×Xu))(hP:C.P=Pz)(hS:Sl N Lt t)(l:∀h,Sl N Lt' h->af C i j m own (G (fk kd ds ro f h k') cs) v)(b:br Pz [] n (fk kd ds ro f (tm N Lt t) k)=Xp (fk kd ds ro f (uG Pz [] n (fk kd ds ro f (tm N Lt t) k)) k',[]):=by kernel_rfl)(e:Sl N Lt' (uG Pz [] n (fk kd ds ro f (tm N Lt t) k)):=by exact .all):af C i j m own (G (fk kd ds ro f t k) cs) v:=by rw[<-hP]at b e;exact tL n hS b rh e l
theorem gn{k:List X3}(n:Nat)(O:List (Nat×Ob))(k':List X3)(Lt':List (Nat×Xu))(hS:Sl N Lt t)(hG:∀t',Sl N Lt' t'->af C i j m own (G (fk kd ds ro f t' k') cs) v)(hP:C.P=Pz:=by exact hP)(h1:br Pz (oh O) n (fk kd ds ro f (tm N Lt t) k)=Xp (fk kd ds ro f (uG Pz (oh O) n (fk kd ds ro f (tm N Lt t) k)) k',oo O):=by kernel_rfl)(h2:Sl N Lt' (uG Pz (oh O) n (fk kd ds ro f (tm N Lt t) k)):=by exact .all):af C i j m own (G (fk kd ds ro f t k) cs) v:=by rw[<-hP]at h1 h2;exact tL n hS h1 (tf O) h2 hG
theorem hU(d:Nat)(u:Xu)(s:bb C FR)(hH:Hp C FR own v L)(hS:Sl N Lt t)(A:∀v1,Hp C FR own v1 L->(XE (⟨t,[]⟩:Yh).eval (opn ops x)).run C.P v1=.ok (.value u) v1/\∀e∈(XE (⟨t,[]⟩:Yh).eval (opn ops x)).events C.P v1 #[],qL C own e)(h:Sl N ((d,u)::Lt) (t.setIfInBounds d u)->af C i j m own (G (fk kd ds ro f (t.setIfInBounds d u) (.inRegion ops rest::kk)) cs) v)(B:m.said=WN:=by rfl)(D:ops[x]?=Xp (opn ops x):=by kernel_rfl)(E:Region.wanted (opn ops x) (XM ops (tm N Lt t))=Xq:=by kernel_rfl)(z:(opn ops x).dst=Xp d:=by kernel_rfl)(a:MY (opn ops x).op=WN:=by kernel_rfl)(n:d<N:=by decide)(r:Lt.all (λp=>!(p.1==d))=Xq:=by rfl):af C i j m own (G (fk kd ds ro f t (.inRegion ops (x::rest)::kk)) cs) v:=aI s B hH hS D E z (λk e=>by rw[e]at a;cases a) A (h (hS.pt n r))
theorem aB{F1:XF}(n:Sl N Lt t)(h:mA C.P (fk kd ds ro f (tm N Lt t) (.inRegion ops (x::rest)::kk))=Xp F1)(k:F1=fk kd ds ro f ((tm N Lt t).setIfInBounds d u) (.inRegion ops rest::kk))(a:af C i j m own (G (fk kd ds ro f (t.setIfInBounds d u) (.inRegion ops rest::kk)) cs) v):af C i j m own (G (fk kd ds ro f t (.inRegion ops (x::rest)::kk)) cs) v:=by(have e:fk kd ds ro f t (.inRegion ops (x::rest)::kk)=fk kd ds ro f (tm N Lt t) (.inRegion ops (x::rest)::kk):=by rw[<-n.tm]);(have b:fk kd ds ro f (t.setIfInBounds d u) (.inRegion ops rest::kk)=fk kd ds ro f ((tm N Lt t).setIfInBounds d u) (.inRegion ops rest::kk):=by grind);rw[b,<-k]at a;rw[e];obtain⟨l,p,r⟩:=ki rfl Late.ne h;exact .ctl rfl (λw=>l _ _ w) a
theorem zO(r:∀k,o.op≠.defer k)(hS:Sl N Lt t)(h:ops[x]?=Xp o)(n:Region.wanted o (XM ops (tm N Lt t))=Xq)(s:(XE (⟨t,[]⟩:Yh).eval o).run P w=.ok (.enter q vs) w'):XA P main (G (fk kd ds ro f t (.inRegion ops (x::rest)::kk)) cs) w=.go (G (XF.enter P q vs .normal) (fk kd ds ro f t (.inRegion ops (x::rest)::kk)::cs)) w' (seen P f ((XE (⟨t,[]⟩:Yh).eval o).events P w #[])):=by(have p:(XF.eval (fk kd ds ro f t (.inRegion ops (x::rest)::kk)))=(⟨t,[]⟩:Yh).eval:=funext λy=>by rfl);(have b:XA P main (G (fk kd ds ro f t (.inRegion ops (x::rest)::kk)) cs) w=XA.apply P Xq (fk kd ds ro f t (.inRegion ops (x::rest)::kk)) cs Xv (XE (⟨t,[]⟩:Yh).eval o) w:=by rw[<-p];cases ro with|none=>simp only[G,XA,XA.exec,XA.oper,XF.oper?,h,aU hS n,UN,U9,if_true]|some l=>simp only[G,XA,XA.exec,XA.oper,XF.oper?,h,aU hS n,UN,U9];simp_all);rw[b];simp[XA.apply,s,GStep.after,G,Late.beq]
theorem xn(hS:Sl N Lt t)(y:ops[x]?=Xp o)(B:Region.wanted o (XM ops (tm N Lt t))=Xq)(z:ba o=Xp q)(r:dH o=ags)(A:ags.map (⟨t,[]⟩:Yh).eval=vs)(l:P.funcs[q]?=Xp fn)(n:(fn.name== "runtime.NumGoroutine")=WN)(s:fn.body=Xp c):XA P main (G (fk kd ds ro f t (.inRegion ops (x::rest)::kk)) cs) w=.go (G (fr q (vs++Array.replicate (fn.ntmps-vs.size) XD) [.code c]) (fk kd ds ro f t (.inRegion ops (x::rest)::kk)::cs)) w #[]:=by subst A;have b:=bD z r;(have a:fn.body.isNone=WN:=by grind);have h:=zO (main:=main) (kd:=kd) (ds:=ds) (ro:=ro) (f:=f) (kk:=kk) (rest:=rest) (cs:=cs) (λk=>by simp_all) hS y B (run_call_body (w:=w) b l n a);rw[enter_at _ l s,events_call_body b l n a,seen_none]at h;exact h
theorem cv(hS:Sl N Lt t)(p:ops[x]?=Xp (opn ops x))(y:Region.wanted (opn ops x) (XM ops (tm N Lt t))=Xq)(r:ba (opn ops x)=Xp q)(e:dH (opn ops x)=ags)(s:ags.map (⟨t,[]⟩:Yh).eval=vs)(l:C.P.funcs[q]?=Xp fn)(n:(fn.name== "runtime.NumGoroutine")=WN)(k:fn.body=Xp c)(h:af C i j m own (G (fr q (vs++Array.replicate (fn.ntmps-vs.size) XD) [.code c]) (fk kd ds ro f t (.inRegion ops (x::rest)::kk)::cs)) v):af C i j m own (G (fk kd ds ro f t (.inRegion ops (x::rest)::kk)) cs) v:=.ctl rfl (λ_=>xn hS p y r e s l n k) h
omit[Late kd]in theorem bL(b:ops[x]?=Xp o)(u:Xu):(fk kd ds ro f t (.inRegion ops (x::rest)::kk)).finish u=fk kd ds ro f (nB t o.dst u) (.inRegion ops rest::kk):=by unfold nB;cases a:o.dst<;>simp[XF.finish,b,a]
omit[Late kd]in theorem H7(h:af C i j m own (G (RP kd ds Xv f t (.code .ret::kk)) cs) v):af C i j m own (G (fk kd ds Xv f t (.code .ret::kk)) cs) v:=.ctl rfl (λ_=>by rfl) h
omit[Late kd]in theorem sx{args:Array Xu}(k:C.P.funcs[q]?=Xp fn)(l:(fn.name== "runtime.NumGoroutine")=WN)(e:fn.body=Xp c)(h:af C i j m own (G (qz .deferred q (args++Array.replicate (fn.ntmps-args.size) XD) [.code c]) (RP kd ds Xv f t kk::cs)) v):af C i j m own (G (RP kd (dcall q args::ds) Xv f t kk) cs) v:=.ctl rfl (λw=>stepG_unwind_enter (b:=bk kd f) (a:=⟨t,dcall q args::ds⟩) rfl k l e) h
theorem vI{ats:Array XI}(hS:Sl N Lt t)(n:ops[x]?=Xp o)(r:Region.wanted o (XM ops (tm N Lt t))=Xq)(l:o.dst=Xv)(e:o.op=.defer {callee:=.value (.func q),args:=ags,argTypes:=ats})(p:ags.map (⟨t,[]⟩:Yh).eval=vs)(h:af C i j m own (G (fk kd (dcall q vs::ds) Xv f t (.inRegion ops rest::kk)) cs) v):af C i j m own (G (fk kd ds Xv f t (.inRegion ops (x::rest)::kk)) cs) v:=.ctl rfl (λw=>wy Late.ne hS n r l e p) h
theorem Je{F:Int->ByteArray->Fd}{s:ByteArray}(hP:C.P=Pz)(B:C.AU=jx F)(R:bb C FR)(hH:Hp C FR own v L)(hM:ar C v)(hS:Sl N Lt t)(Y:ops[x]?=Xp o)(Z:Region.wanted o (XM ops (tm N Lt t))=Xq)(W:o.dst=Xp d)(D:o.op=.lookup 152 y z Xq)(hx:(⟨t,[]⟩:Yh).eval y=.map (Xp C.mm))(hz:(⟨t,[]⟩:Yh).eval z=sk a s)(h:∀n x v1,(n=Xq->x=F a s)->Hp C FR own v1 L->ar C v1->af C i j .own own (G (fk kd ds ro f (t.setIfInBounds d (.tuple #[fv x,.bool n])) (.inRegion ops rest::kk)) cs) v1):af C i j .own own (G (fk kd ds ro f t (.inRegion ops (x::rest)::kk)) cs) v:=by refine .step rfl rfl λv1 K=>?_;have p:=hH.ee R K;have A:=hM.env K (.inr ⟨rfl,rfl⟩);obtain⟨O,⟨M,J⟩,b⟩:=A;rw[B]at b;obtain⟨n,r,H,I,Q⟩:=Av D hx hz J b;rw[<-hP]at H I;refine⟨_,v1,_,fC (λk=>by simp_all) hS Y Z H,⟨λ_ _ _=>rfl,UB _,rfl,rfl,rfl,λe X=>?_⟩,?_⟩;{have:=cu X;(obtain rfl:e=⟨.obj C.mm,WN,WN⟩:=by simp_all);exact .inl (.inl ⟨C.mm,rfl,.inl (.inl (.inr ⟨rfl,rfl⟩)),rfl⟩)};rw[gZ];rw[W];exact h n r v1 Q p ⟨O,⟨M,J⟩,by simp_all⟩
theorem Dk{F:Int->ByteArray->Fd}{s:ByteArray}{r:XR}(O:C.Ok)(hP:C.P=Pz)(T:C.AU=jx F)(hF:bb C FR)(hH:Hp C FR own v L)(hM:ar C v)(hS:Sl N Lt t)(ho:ops[x]?=Xp o)(hw:Region.wanted o (XM ops (tm N Lt t))=Xq)(hd:o.dst=Xv)(Y:o.op=.mapUpdate 152 y z r)(hx:(⟨t,[]⟩:Yh).eval y=.map (Xp C.mm))(hz:(⟨t,[]⟩:Yh).eval z=sk a s)(hu:(⟨t,[]⟩:Yh).eval r=fv (F a s))(h:∀v1,Hp C FR own v1 L->ar C v1->af C i j .own own (G (fk kd ds ro f t (.inRegion ops rest::kk)) cs) v1):af C i j .own own (G (fk kd ds ro f t (.inRegion ops (x::rest)::kk)) cs) v:=by refine .step rfl rfl λv1 hv=>?_;have b:=hH.ee hF hv;have S:=hM.env hv (.inr ⟨rfl,rfl⟩);obtain⟨es,⟨ck,hc⟩,I⟩:=S;rw[T]at I;obtain⟨A,n,h1,h2,h3⟩:=uH Y hx hz hu hc I;rw[<-hP]at h1 h2;(have K:({v1 with heap:=v1.heap.setIfInBounds C.mm (.map A n)}).heap.size=v1.heap.size:=by simp);(have B:∀c,c≠C.mm->({v1 with heap:=v1.heap.setIfInBounds C.mm (.map A n)}).heap[c]?=v1.heap[c]?:=λc H=>by grind);(have V:({v1 with heap:=v1.heap.setIfInBounds C.mm (.map A n)}).heap[C.mm]?=Xp (.map A n):=by grind);have E:({v1 with heap:=v1.heap.setIfInBounds C.mm (.map A n)}).os=v1.os/\({v1 with heap:=v1.heap.setIfInBounds C.mm (.map A n)}).output=v1.output/\({v1 with heap:=v1.heap.setIfInBounds C.mm (.map A n)}).tape=v1.tape:=⟨rfl,rfl,rfl⟩;generalize({v1 with heap:=v1.heap.setIfInBounds C.mm (.map A n)})=v2 at*;refine⟨_,v2,_,rR (λk=>by simp_all) hS ho hw h1,⟨λc _ H=>B c λe=>H (.inr ⟨rfl,e⟩),by omega,E.1,E.2.1,E.2.2,λe he=>?_⟩,?_⟩;{have:=cu he;rw[h2]at this;rcases(by simpa using this)with rfl|rfl<;>exact .inl (.inl ⟨C.mm,rfl,.inl (.inl (.inr ⟨rfl,rfl⟩)),rfl⟩)};(have D:ab.more own v1 v2=own:=by funext k;simp only[ab.more];grind);rw[D];rw[hd];obtain⟨⟨s',q',J⟩,⟨x',y',Z⟩,⟨R,X,W⟩⟩:=b.aL;exact h v2 ⟨b.ok,b.ro,λk U=>K▸b.lt k U,K▸b.mm,⟨⟨s',q',(B _ O.lL).trans J⟩,⟨x',y',(B _ O.nH.symm).trans Z⟩,⟨R,(B _ O.my.symm).trans X,W⟩⟩,hF _ _ (λk U=>B k (O.ro k U).2.1) b.fr,b.nd,λp J=>⟨(b.at_ p J).1,(B _ (b.ok _ (b.at_ p J).1).2.1).trans (b.at_ p J).2⟩⟩ ⟨A,⟨n,V⟩,by simp_all⟩
end
end
end Go.Me
namespace Go.Lw
open Go.Mx
section
theorem Ks(n c k:Nat)(b:c<8)(a:k=7&&&k):(8*n+c)&&&k=c&&&k:=by rw[a,<-Nat.and_assoc,<-Nat.and_assoc,show(7:Nat)=2^3-1 from rfl,X8,X8];simp
theorem PK(n c k:Nat)(e:c<8)(f:k<8):(8*n+c)|||k=8*n+(c|||k):=by have a:=X9 (i:=3) (b:=c) (by omega) n;have d:=X9 (i:=3) (b:=c|||k) (Nat.or_lt_two_pow (by omega) (by omega)) n;grind
section
variable{L W S:Bool}{n:Nat}(hn:n<200000000)
def lX(L W S:Bool):Nat:=L.toNat+2*W.toNat+4*S.toNat
theorem gi:lX L W S<8:=by cases L<;>cases W<;>cases S<;>decide
theorem bG:(⟨L,W,S,n⟩:Wd).enc=8*n+lX L W S:=by simp[Wd.enc,lX];omega
include hn
theorem AP:(⟨L,W,S,n⟩:Wd).enc<2^31:=by rw[bG];have:=gi (L:=L) (W:=W) (S:=S);omega
theorem mL(k:Nat)(a:k=7&&&k)(b:k<8):bits .and .i32 ((⟨L,W,S,n⟩:Wd).enc:Int) (k:Int)=((lX L W S&&&k:Nat):Int):=by rw[(bits_nat .i32 31 Δ wraps_i32 _ k (AP hn) Ω).1,bG,Ks _ _ _ gi a]
theorem Aj(k:Nat)(a:k<8):bits .or .i32 ((⟨L,W,S,n⟩:Wd).enc:Int) (k:Int)=((8*n+(lX L W S|||k):Nat):Int):=by rw[(bits_nat .i32 31 Δ wraps_i32 _ k (AP hn) Ω).2,bG,PK _ _ _ gi a]
theorem lf:bits .and .i32 ((⟨L,W,S,n⟩:Wd).enc:Int) 1=(L.toNat:Int):=by have:=mL (L:=L) (W:=W) (S:=S) hn 1 Δ Δ;cases L<;>cases W<;>cases S<;>exact this
theorem gM:bits .and .i32 ((⟨L,W,S,n⟩:Wd).enc:Int) 2=((2*W.toNat:Nat):Int):=by have:=mL (L:=L) (W:=W) (S:=S) hn 2 Δ Δ;cases L<;>cases W<;>cases S<;>exact this
theorem xy:bits .and .i32 ((⟨L,W,S,n⟩:Wd).enc:Int) 3=((L.toNat+2*W.toNat:Nat):Int):=by have:=mL (L:=L) (W:=W) (S:=S) hn 3 Δ Δ;cases L<;>cases W<;>cases S<;>exact this
theorem dm:bits .and .i32 ((⟨L,W,S,n⟩:Wd).enc:Int) 4=((4*S.toNat:Nat):Int):=by have:=mL (L:=L) (W:=W) (S:=S) hn 4 Δ Δ;cases L<;>cases W<;>cases S<;>exact this
theorem bN:bits .and .i32 ((⟨L,W,S,n⟩:Wd).enc:Int) 5=((L.toNat+4*S.toNat:Nat):Int):=by have:=mL (L:=L) (W:=W) (S:=S) hn 5 Δ Δ;cases L<;>cases W<;>cases S<;>exact this
theorem BW:bits .and .i32 ((⟨L,W,S,n⟩:Wd).enc:Int) 7=((L.toNat+2*W.toNat+4*S.toNat:Nat):Int):=by have:=mL (L:=L) (W:=W) (S:=S) hn 7 Δ Δ;cases L<;>cases W<;>cases S<;>exact this
theorem qp:bits .or .i32 ((⟨L,W,S,n⟩:Wd).enc:Int) 1=((⟨Xq,W,S,n⟩:Wd).enc:Int):=by have:=Aj (L:=L) (W:=W) (S:=S) hn 1 Δ;rw[bG (L:=Xq)];cases L<;>cases W<;>cases S<;>exact this
theorem Iz:bits .or .i32 ((⟨L,W,S,n⟩:Wd).enc:Int) 2=((⟨L,Xq,S,n⟩:Wd).enc:Int):=by have:=Aj (L:=L) (W:=W) (S:=S) hn 2 Δ;rw[bG (W:=Xq)];cases L<;>cases W<;>cases S<;>exact this
theorem GU:bits .or .i32 ((⟨L,W,S,n⟩:Wd).enc:Int) 4=((⟨L,W,Xq,n⟩:Wd).enc:Int):=by have:=Aj (L:=L) (W:=W) (S:=S) hn 4 Δ;rw[bG (S:=Xq)];cases L<;>cases W<;>cases S<;>exact this
theorem j5:bits .andNot .i32 ((⟨L,W,S,n⟩:Wd).enc:Int) 2=((⟨L,WN,S,n⟩:Wd).enc:Int):=by have b:=AP (L:=L) (W:=W) (S:=S) hn;generalize g:(⟨L,W,S,n⟩:Wd).enc=x at b;(have e:bits .andNot .i32 (x:Int) 2=((x&&&(2^32-1-2):Nat):Int):=by have f:XH.i32.wrap ((x&&&(2^32-1-2):Nat):Int)=((x&&&(2^32-1-2):Nat):Int):=wraps_i32 _ (Int.natCast_nonneg _) (by have:x&&&(2^32-1-2)<=x:=Nat.and_le_left;omega);rw[<-f];unfold bits;grind);rw[e];refine congrArg _ ?_;subst g;apply Nat.eq_of_testBit_eq;intro t;(have d:(2^32-1-2:Nat)=2^3*(2^29-1)+5:=by decide);rw[Nat.testBit_and,d,bG,bG,show 8*n=2^3*n by rfl,Xl _ (by simpa using gi),Xl _ Δ,Xl _ (by simpa using gi)];by_cases a:t<3;{rw[if_pos a,if_pos a,if_pos a];(have:t=0\/t=1\/t=2:=by omega);rcases this with rfl|rfl|rfl<;>cases L<;>cases W<;>cases S<;>decide};rw[if_neg a,if_neg a,if_neg a,Nat.testBit_two_pow_sub_one];by_cases c:t-3<29;{simp[c]};rw[Nat.testBit_lt_two_pow (UC (show n<2^29 by omega) (WU Δ Ω))];rfl
omit hn in theorem NI:((⟨L,W,S,n⟩:Wd).enc:Int)/8=(n:Int):=by rw[bG];have:=gi (L:=L) (W:=W) (S:=S);omega
theorem jl:XH.i32.wrap (((⟨L,W,S,n⟩:Wd).enc:Int)+8)=((⟨L,W,S,n+1⟩:Wd).enc:Int):=by rw[wraps_i32 _ Ω (by rw[bG];have:=gi (L:=L) (W:=W) (S:=S);omega),bG,bG];omega
theorem Lh(h:n≠0):XH.i32.wrap (((⟨L,W,S,n⟩:Wd).enc:Int)-8)=((⟨L,W,S,n-1⟩:Wd).enc:Int):=by have:=gi (L:=L) (W:=W) (S:=S);rw[wraps_i32 _ (by rw[bG];omega) (by rw[bG];omega),bG,bG];omega
end
end
end Go.Lw
