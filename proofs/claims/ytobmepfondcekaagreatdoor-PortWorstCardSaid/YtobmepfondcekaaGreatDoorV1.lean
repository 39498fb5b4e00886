/- A part of the proof that PortWorst holds for every input. Conditions: none. -/
import Derived.Test.YtobmepfondcekaaGreatDoorV0
import Derived.Laws.Entries
import Derived.Conc.LockTrace
import Derived.Conc.MuSpec
import Derived.Conc.Beside
set_option linter.all false
open Go renaming Addr->V0,Code->We,Event->V4,Frame->Vx,FuncId->VE,Goroutine->Vp,Item->VR,Oper->Wb,Operand->VK,Program->VD,Question->V9,Sem->VL,TypeId->Vz,Value->Vm,World->Vl,execOp->Vv,stepG->Vu,undef->Vr,yielded->VC
open Bool renaming false->UW,true->Vk
open Option renaming none->Vo,some->Vg
namespace Go.ab
variable{P:VD}{c:dw}{r:bu}{f:VE}{gl:Nat->Bool}{ev ev':VK->Vm}{t:Vz}{k:List VR}{o:Wb}{ops:Array Wb}{i:Nat}{rest:List Nat}{t':Array Vm}
section
variable{α β γ δ:Type}
def bX(c:dw)(gl:Nat->Bool):VK->Bool
 |.tmp _=>Vk
 |.const v=>jG 100 v
 |.global g=>gl g
 |.func f=>c.fns f
def zn(P:VD)(t:Vz):Bool:=match P.underlying t with|some (.slice e)=>js P e|_=>Vk
def M5(P:VD)(t:Vz):Bool:=match P.underlying t with|some (.map k e)=>fa P k&&js P e|_=>Vk
def NZ(P:VD)(t:Vz):Bool:=match P.underlying t with|some (.map k _)=>Ay P k|_=>Vk
def zD(P:VD)(s:Vz)(n:Nat):Bool:=match P.underlying s with|some (.struct fs)=>(match fs[n]? with|some f=>P.cellsOf f.type !=0|none=>Vk)|_=>Vk
def BM(P:VD)(t:Option Vz):Bool:=match t with|some s=>(match P.underlying s with|some (.int _)=>UW|_=>Vk)|none=>Vk
def LV(P:VD)(t:Option Vz):Bool:=match t with|some s=>zn P s|none=>Vk
def isEq:BinOp->Bool
 |.eql|.neq=>Vk
 |_=>UW
def GZ(P:VD)(t:Vz):Bool:=match P.underlying t with|some .string=>Vk|_=>UW
def Aw(P:VD)(c:dw)(gl:Nat->Bool)(k:Call):Bool:=
 k.args.all (bX c gl)&&match k.callee with
 |.value f=>bX c gl f
 |.builtin .len|.builtin .max|.builtin .min=>Vk
 |.builtin .append=>LV P k.argTypes[0]?&&BM P k.argTypes[1]?
 |_=>UW
def Hf(P:VD):VK->Bool
 |.global g=>decide (g<P.globals.size)
 |_=>UW
def sF(P:VD)(c:dw)(gl:Nat->Bool)(o:Wb):Bool:=
 match o.op with
 |.load _ x=>bX c gl x||Hf P x
 |.move x|.assign x|.box _ x|.nilCheck x|.unOp _ _ x|.field _ x _|.extract x _=>bX c gl x
 |.pick a b d=>bX c gl a&&bX c gl b&&bX c gl d
 |.alloc e=>js P e
 |.build t ps=>js P t&&ps.all λp=>bX c gl p.2
 |.buildSlice t _ ps=>zn P t&&ps.all λp=>bX c gl p.2
 |.store _ a x|.indexAddr _ a x|.index _ a x=>bX c gl a&&bX c gl x
 |.binOp op t x y _=>bX c gl x&&bX c gl y&&(!isEq op||fa P t)
 |.convert s d x=>GY P s d&&bX c gl x
 |.makeFunc fn first captured=>Gx c fn&&first.all (bX c gl)&&captured.all (bX c gl)
 |.makeMap _ Vo=>Vk
 |.makeSlice t l k=>zn P t&&bX c gl l&&bX c gl k
 |.slice _ x lo hi mx=>bX c gl x&&lo.all (bX c gl)&&hi.all (bX c gl)&&mx.all (bX c gl)
 |.fieldAddr s x n=>zD P s n&&bX c gl x
 |.lookup t x i _=>M5 P t&&bX c gl x&&bX c gl i
 |.mapUpdate t m k v=>NZ P t&&bX c gl m&&bX c gl k&&bX c gl v
 |.range t x=>GZ P t&&bX c gl x
 |.next it Vk=>bX c gl it
 |.call k=>Aw P c gl k
 |_=>UW
inductive vS(c:dw)(r:bu):Next->Next->Prop
 |value{v v':Vm}:ai c r v v'->vS c r (.value v) (.value v')
 |skip:vS c r .skip .skip
 |enter{f:VE}{x x':Array Vm}:c.fns f=Vk->aj c r x x'->vS c r (.enter f x) (.enter f x')
def BR(P:VD)(c:dw):Prop:=
 ∀(f:VE)(fn:Func),c.fns f=Vk->P.funcs[f]?=Vg fn->(fn.name== "runtime.NumGoroutine")=UW/\(fn.body=Vo->Extern.findNext fn=Vo/\∃e,Extern.find fn=Vg e/\
   ∀(r:bu)(x x':Array Vm),aj c r x x'->ab P c r (e x) (e x') (ai c))
theorem ab.value{x:VL Vm}{y:VL Vm}(h:ab P c r x y (ai c)):ab P c r (do Pure.pure (Next.value (<-x))) (do Pure.pure (Next.value (<-y))) (vS c):=ab.bind h λ_ _ _ _ k=>ab.pure (.value k)
theorem ab.unit{x:VL Unit}{y:VL Unit}(h:ab P c r x y λ_ _ _=>True):ab P c r (do x;Pure.pure Next.skip) (do y;Pure.pure Next.skip) (vS c):=ab.bind h λ_ _ _ _ _=>ab.pure .skip
theorem ab.zr(f:VE):ab P c r (mark (.extern f)) (mark (.extern f)) λ_ _ _=>True:=by intro w v b;refine⟨(),v,r,rfl,.refl b,trivial,λe a=>?_⟩;simp at a;subst a;exact .inr (.inr ⟨f,rfl⟩)
theorem vI(l:BR P c)(i:c.fns f=Vk){x x':Array Vm}(h:aj c r x x'):ab P c r (callFunc f x) (callFunc f x') (vS c):=by refine ab.bind (ab.eW bL) λw p u g m=>?_;obtain⟨rfl,rfl⟩:=m;cases a:u.funcs[f]? with|none=>exact ab.stuck|some d=>obtain⟨s,t⟩:=l f d i a;simp only[a,s,Te];cases k:d.body with|some b=>exact ab.pure (.enter i (h.mono g))|none=>obtain⟨n,e,o,q⟩:=t k;simp only[n,o];exact ab.bind (ab.zr f) λv _ _ j _=>ab.value (q v x x' ((h.mono g).mono j))
theorem wJ(a:∀x,bX c gl x=Vk->ai c r (ev x) (ev' x)){l:Array VK}(h:l.all (bX c gl)=Vk):aj c r (l.map ev) (l.map ev'):=aj.map l ev ev' λx b=>a x (by rw[Uc]at h;grind)
theorem tX(a:∀x,bX c gl x=Vk->ai c r (ev x) (ev' x)){l:Array (Nat×VK)}(h:(l.all λp=>bX c gl p.2)=Vk):zA c r (l.map λ(i,x)=>(i,ev x)) (l.map λ(i,x)=>(i,ev' x)):=by refine⟨?_,?_⟩;{simp};(have e:∀g:VK->Vm,((l.map λp=>(p.1,g p.2)).toList.map (·.2)).toArray=l.map λp=>g p.2:=by grind);rw[e ev,e ev'];refine aj.map l _ _ λp b=>a p.2 ?_;rw[Uc]at h;grind
theorem vv(a:∀x,bX c gl x=Vk->ai c r (ev x) (ev' x)):∀{x:Option VK},x.all (bX c gl)=Vk->j1 c r (x.map ev) (x.map ev')|none,_=>trivial|some x,h=>a x (by grind)
theorem va{x x':Vm}(o:Wb)(y:VK)(ev ev':VK->Vm)(l:o.op=.nilCheck y)(e:ev y=x)(i:ev' y=x')(h:ai c r x x'):ab P c r (Vv ev o) (Vv ev' o) (vS c):=by unfold Vv;rw[l];simp only[e,i];cases h with|ga=>exact ab.runtimePanic|nilIface=>exact ab.runtimePanic|nilFunc=>exact ab.runtimePanic|bool b=>exact ab.pure (.value (.bool b))|int k n=>exact ab.pure (.value (.int k n))|string s=>exact ab.pure (.value (.string s))|ptr a=>exact ab.pure (.value (.ptr a))|fO n m=>exact ab.pure (.value (.fO n m))|slice n m a=>exact ab.pure (.value (.slice n m a))|cx a f=>exact ab.pure (.value (.cx a f))|kC=>exact ab.pure (.value .kC)|map a=>exact ab.pure (.value (.map a))|@func j z B u A d p q v w=>(cases j with|func g=>exact ab.pure (.value (.func d p q v w))|_=>simp[Gx]at d)|iface t a=>exact ab.pure (.value (.iface t a))|agg a b=>exact ab.pure (.value (.agg a b))|tuple a b=>exact ab.pure (.value (.tuple a b))
theorem lM(h:zn P t=Vk):∀e,P.underlying t=Vg (.slice e)->js P e=Vk:=λe a=>by unfold zn at h;simp_all
theorem GJ(h:NZ P t=Vk):∀k e,P.underlying t=Vg (.map k e)->Ay P k=Vk:=λk e a=>by unfold NZ at h;simp_all
theorem EZ(h:M5 P t=Vk):∀k e,P.underlying t=Vg (.map k e)->fa P k=Vk/\js P e=Vk:=λk e a=>by unfold M5 at h;simp_all
theorem tc{n:Nat}(h:zD P t n=Vk):∀fs f,P.underlying t=Vg (.struct fs)->fs[n]?=Vg f->P.cellsOf f.type≠0:=λfs f a b=>by unfold zD at h;simp_all
theorem Gi(N:Fits P c)(K:BR P c){k:Call}(t:Vz)(i:Aw P c gl k=Vk)(B:∀x,bX c gl x=Vk->ai c r (ev x) (ev' x)):ab P c r (do let d<-resolve ev k t;invoke d.target d.args) (do let d<-resolve ev' k t;invoke d.target d.args) (vS c):=by unfold Aw at i;simp only[SV]at i;obtain⟨I,i⟩:=i;have h:=wJ B I;obtain⟨l,m,A⟩:=k;unfold resolve;cases l with|invoke x n=>simp at i|value f=>have E:=B f i;simp only[];generalize ev f=q at E;generalize ev' f=O at E;(cases E with|@func J z R u M a b d e g=>(cases J with|func j=>refine ab.bind (Q:=λG x y=>x.target=.fn (.func j) u/\y.target=.fn (.func j) M/\aj c G x.args y.args) (ab.pure ⟨rfl,rfl,(aj.mk b d).append h⟩) λL x y H p=>?_;obtain⟨C,D,v⟩:=p;rw[C,D];exact vI K (by assumption) (v.append ((aj.mk e g).mono H))|_=>simp[Gx]at a)|nilFunc=>exact ab.never (λw=>dH RuntimeError.nilDeref w)|_=>exactλ_ _ _=>rfl)|builtin b=>refine ab.bind (Q:=λG x y=>x.target=.builtin b A t (m.map λ|.const _=>Vk|_=>UW)/\y.target=.builtin b A t (m.map λ|.const _=>Vk|_=>UW)/\aj c G x.args y.args) (ab.pure ⟨rfl,rfl,h⟩) λL x y H p=>?_;obtain⟨C,D,v⟩:=p;rw[C,D];cases b with|len=>exact ab.value (I0 _ _ v)|max=>exact ab.value (JU _ _ v)|min=>exact ab.value (Kv _ _ v)|append=>simp only[SV]at i;refine ab.value (Ai (λs e F o=>?_) (λs k F o=>?_) v);{have:=i.1;rw[F]at this;exact lM this e o};have:=i.2;rw[F]at this;simp[BM,o]at this|_=>simp at i
theorem sQ(w:Fits P c)(H:BR P c)(j:sF P c gl o=Vk)(f:∀x,bX c gl x=Vk->ai c r (ev x) (ev' x))(z:∀g,ev (.global g)=ϖ g/\ev' (.global g)=ϖ g):ab P c r (Vv ev o) (Vv ev' o) (vS c):=by unfold sF at j;obtain⟨E,D,O,K,A,guard⟩:=o;cases D with|move x=>exact ab.pure (.value (f x j))|assign x=>exact ab.pure (.value (f x j))|pick a b d=>simp only[SV]at j;refine ab.bind (ab.asBool (f a j.1.1)) λM u V C I=>?_;subst I;refine ab.pure (.value ?_);split;{exact(f b j.1.2).mono C};exact(f d j.2).mono C|alloc e=>exact ab.value (AW j)|box e x=>exact ab.value (IT e (f x j))|build t L=>simp only[SV]at j;exact ab.value (Dc j.1 (tX f j.2))|buildSlice t n L=>simp only[SV]at j;exact ab.value (rB (lM j.1) (tX f j.2))|load t a=>rcases TQ ..▸j with j|j;{exact ab.value (Av t (f a j))};(cases a with|global g=>refine ab.value ?_;rw[(z g).1,(z g).2];exact ab.bind (Q:=λ_ a b=>a=⟨g,0,Vo⟩/\b=⟨g,0,Vo⟩) (ab.pure ⟨rfl,rfl⟩) λM a b C⟨F,G⟩=>by subst F G;exact ab.EX w (by rw[w.aJ];simpa[Hf]using j) t|_=>simp[Hf]at j)|store t a x=>simp only[SV]at j;exact ab.unit (xp t (f a j.1) (f x j.2))|nilCheck x=>exact va _ x ev ev' rfl rfl rfl (f x j)|binOp D t x y u=>simp only[SV,TQ,Bool.not_eq_true']at j;exact ab.value (DK w (λe=>by rcases j.2 with h|h;{rcases e with rfl|rfl<;>simp[isEq]at h};exact h) (f x j.1.1) (f y j.1.2))|unOp D t x=>exact ab.value (De (f x j))|convert s d x=>simp only[SV]at j;exact ab.value (y5 j.1 (f x j.2))|makeFunc R B q=>simp only[SV]at j;exact ab.value (vj j.1.1 (wJ f j.1.2) (wJ f j.2))|makeMap t N=>(cases N with|none=>exact ab.value w9|some _=>simp at j)|makeSlice t l k=>simp only[SV]at j;exact ab.value (tK (lM j.1.1) (f l j.1.2) (f k j.2))|slice t x T S U=>simp only[SV]at j;exact ab.value (yV t (f x j.1.1.1) (vv f j.1.1.2) (vv f j.1.2) (vv f j.2))|fieldAddr s x n=>simp only[SV]at j;exact ab.value (xC s n (tc j.1) (f x j.2))|field t x n=>exact ab.value (CO t n (f x j))|indexAddr t x i=>simp only[SV]at j;exact ab.value (xO t (f x j.1) (f i j.2))|index t x i=>simp only[SV]at j;exact ab.value (Cs t (f x j.1) (f i j.2))|lookup t x i b=>simp only[SV]at j;exact ab.value (zO w (EZ j.1.1) (f x j.1.2) (f i j.2))|mapUpdate t m k v=>simp only[SV]at j;exact ab.unit (tz w (GJ j.1.1.1) (f m j.1.1.2) (f k j.1.2) (f v j.2))|range t x=>simp only[SV]at j;refine ab.value (DQ ?_ (f x j.2));have:=j.1;unfold GZ at this;grind|next J b=>(cases b with|true=>exact ab.value (GB (f J j))|false=>simp at j)|extract x n=>exact ab.value (xU n (f x j))|call k=>exact Gi w H O j f|_=>simp at j
end
def codeOk(P:VD)(c:dw)(gl:Nat->Bool):We->Bool
 |.skip|.exit _|.label _|.ret|.refuse _=>Vk
 |.region _ ops _=>ops.all (sF P c gl)
 |.seq a b=>codeOk P c gl a&&codeOk P c gl b
 |.cond x a b=>bX c gl x&&codeOk P c gl a&&codeOk P c gl b
 |.block _ a|.loop a|.scope a=>codeOk P c gl a
 |_=>UW
def opAt(P:VD)(c:dw)(gl:Nat->Bool)(ops:Array Wb)(i:Nat):Bool:=match ops[i]? with|some o=>sF P c gl o|none=>Vk
theorem FK(h:ops.all (sF P c gl)=Vk)(l:List Nat):l.all (opAt P c gl ops)=Vk:=by rw[Tl];intro i _;unfold opAt;grind
theorem mT(h:(i::rest).all (opAt P c gl ops)=Vk)(a:ops[i]?=Vg o):sF P c gl o=Vk:=by simp only[Tj,SV]at h;have:=h.1;unfold opAt at this;simp_all
theorem tV(h:(i::rest).all (opAt P c gl ops)=Vk):rest.all (opAt P c gl ops)=Vk:=by simp_all
def aU(P:VD)(c:dw)(gl:Nat->Bool):VR->Bool
 |.code a|.inLoop a|.inScope a=>codeOk P c gl a
 |.inBlock _=>Vk
 |.inRegion ops l=>l.all (opAt P c gl ops)
 |_=>UW
def bY(f:VE)(t:Array Vm)(k:List VR)(m:FrameMode):Vx:={fn:=f,tmps:=t,todo:=k,defers:=[],mode:=m,kind:=.normal,roundOf:=Vo}
def md(ret:Bool):FrameMode:=if ret then .returning else .run
structure cv where
 f:VE
 t:Array Vm
 k:List VR
 ret:Bool
 st:List (VE×Array Vm×List VR)
def up(x:VE×Array Vm×List VR):Vx:=bY x.1 x.2.1 x.2.2 .run
def cv.g(s:cv)(base:List Vx):Vp:=Go.Conc.G (bY s.f s.t s.k (md s.ret)) (s.st.map up++base)
structure wE(P:VD)(c:dw)(gl:Nat->Bool)(s:cv):Prop where
 fn:True
 items:s.k.all (aU P c gl)=Vk
 below:∀x∈s.st,True/\x.2.2.all (aU P c gl)=Vk/\∃ops i rest k,x.2.2=.inRegion ops (i::rest)::k
inductive kp(c:dw)(r:bu):List (VE×Array Vm×List VR)->List (VE×Array Vm×List VR)->Prop
 |nil:kp c r [] []
 |cons{f:VE}{t t':Array Vm}{k:List VR}{l l':List (VE×Array Vm×List VR)}:aj c r t t'->kp c r l l'->kp c r ((f,t,k)::l) ((f,t',k)::l')
structure nC(c:dw)(r:bu)(s s':cv):Prop where
 f:s'.f=s.f
 t:aj c r s.t s'.t
 k:s'.k=s.k
 ret:s'.ret=s.ret
 st:kp c r s.st s'.st
theorem kp.mono{r':bu}(h:r.le r'){l l':List (VE×Array Vm×List VR)}(k:kp c r l l'):kp c r' l l':=by induction k with|nil=>exact .nil|cons a _ b=>exact .cons (a.mono h) b
structure Listed(P:VD)(c:dw)(gl:Nat->Bool):Prop where
 aJ:Fits P c
 p5:∀g,gl g=Vk->c.low g=0
 ext:BR P c
 body:∀(f:VE)(fn:Func),c.fns f=Vk->P.funcs[f]?=Vg fn->∃b,(fn.body=Vo\/(fn.body=Vg b/\codeOk P c gl b=Vk))
def ed:Vx:={fn:=0,tmps:=#[],todo:=[],defers:=[{target:=.builtin .make #[] 0 #[],args:=#[]}],mode:=.run,kind:=.normal}
def Oy(s:GStep):Prop:=(∃o w,s.bare=.ended o w)\/∃(f:VE)(t:Array Vm)(k:List VR)(ch:List PanicEntry)(st:List (VE×Array Vm×List VR))(w:Vl)(es:Array V4),
 s=.go (Go.Conc.G (bY f t k (.panicking ch)) (st.map up++[ed])) w es/\(∀d w r sv,k.head?≠Vg (.call d w r sv))/\∀x∈st,∃ops i rest k',x.2.2=.inRegion ops (i::rest)::k'
theorem pk{t:Array Vm}(e:aj c r t t')(d:∀g,gl g=Vk->r g=Vg g)(b:∀g,gl g=Vk->c.low g=0){m:FrameMode}(x:VK)(h:bX c gl x=Vk):ai c r ((bY f t k m).eval x) ((bY f t' k m).eval x):=by cases x with|tmp i=>exact e.getD i fE|const v=>exact il h c r|global g=>exact .ptr ⟨d g h,rfl,rfl,TH (b g h)⟩|func j=>exact .func (by assumption) rfl (λi v l a=>by simp at a) rfl (λi v l a=>by simp at a)
theorem lR{t:Array Vm}(a:aj c r t t')(ops:Array Wb)(j:Nat):VC ops t' j=VC ops t j:=by unfold VC;cases(ops[j]?).bind (·.dst)with|none=>rfl|some d=>simp only[TG];cases b:t[d]? with|none=>rw[a.none b]|some v=>obtain⟨f,e,k⟩:=a.get b;rw[e];cases k<;>rfl
theorem cE{t:Array Vm}(v:Vm):(bY f t (.inRegion ops (i::rest)::k) .run).finish v=bY f (match(ops[i]?).bind (·.dst)with|some d=>t.setIfInBounds d v|none=>t) (.inRegion ops rest::k) .run:=rfl
theorem oB{t:Array Vm}(a:aj c r t t')(d:Option Tmp){v v':Vm}(b:ai c r v v'):aj c r (match d with|some d=>t.setIfInBounds d v|none=>t) (match d with|some d=>t'.setIfInBounds d v'|none=>t'):=by cases d with|none=>exact a|some d=>exact a.set d b
end Go.ab
namespace Go.ab
open Go.Conc
variable{P:VD}{c:dw}{r r':bu}{gl live:Nat->Bool}{w v v' w2 w' v1 v2:Vl}{main u:Bool}{bs cs:List Vx}{f f0:VE}{t t' args t0 x' tl:Array Vm}{k k1 k0 k' kr tail kk:List VR}{st st':List (VE×Array Vm×List VR)}{id i j b n g:Nat}{x a cd:We}{ops:Array Wb}{rest rest':List Nat}{o:Wb}{h:Halt}{fn:Func}{α:Type}{s s' s1 s2:cv}{p:cv×Vl}{es:Array V4}{fr' caller F:Vx}{Good:Vm->Vl->Prop}{RO own:Nat->Prop}{CU:Nat->Nat->Prop}{Stop:(Nat->Prop)->Vp->Vl->Prop}{R:Ending->Vl->Prop}{fns:VE->Bool}{Q:Array Vm->Vl->Prop}
section
def Sv(P:VD)(c:dw)(r:bu)(main:Bool)(base:List Vx)(w v:Vl)(s':cv)(s1:cv)(w1:Vl):Prop:=
 ∃s1' v1 r1 es,Vu P main (s'.g base) v=.go (s1'.g base) v1 es/\Ext c r w v r1 w1 v1/\nC c r1 s1 s1'/\∀e∈es,qJ c r1 e
def Stp(P:VD)(c:dw)(gl:Nat->Bool)(r:bu)(main:Bool)(base:List Vx)(w v:Vl)(s s':cv):Prop:=
 (∃s1 w1 es1,Vu P Vk (s.g [ed]) w=.go (s1.g [ed]) w1 es1/\wE P c gl s1/\Sv P c r main base w v s' s1 w1)\/Oy (Vu P Vk (s.g [ed]) w)
theorem cv.tY(f:VE)(t:Array Vm)(k:List VR)(a:List (VE×Array Vm×List VR))(bs:List Vx):(cv.mk f t k UW a).g bs=G (bY f t k .run) (a.map up++bs):=rfl
theorem cv.iT(f:VE)(t:Array Vm)(k:List VR)(a:List (VE×Array Vm×List VR))(bs:List Vx):(cv.mk f t k Vk a).g bs=G (bY f t k .returning) (a.map up++bs):=rfl
theorem Stp.ctl{ret1:Bool}(l:cw c r w v)(j:aj c r t t')(a:kp c r st st')(b:wE P c gl ⟨f,t,k,UW,st⟩)(i:k1.all (aU P c gl)=Vk)(h:∀(main:Bool)(cs:List Vx)(w:Vl),Vu P main (G (bY f t k .run) cs) w=.go (G (bY f t k1 (md ret1)) cs) w #[])(d:∀(main:Bool)(cs:List Vx)(w:Vl),Vu P main (G (bY f t' k .run) cs) w=.go (G (bY f t' k1 (md ret1)) cs) w #[]):Stp P c gl r main bs w v ⟨f,t,k,UW,st⟩ ⟨f,t',k,UW,st'⟩:=.inl ⟨⟨f,t,k1,ret1,st⟩,w,#[],h _ _ _,⟨b.fn,i,b.below⟩,⟨f,t',k1,ret1,st'⟩,v,r,#[],d _ _ _,.refl l,⟨rfl,j,rfl,rfl,a⟩,λe g=>by simp at g⟩
theorem nO{q:VR->Bool}:∀{k k':List VR},exitTo id k=Vg k'->k.all q=Vk->k'.all q=Vk|[],_,h,_=>by simp[exitTo]at h|x::k,k',h,b=>by simp only[Tj,SV]at b;unfold exitTo at h;split at h;{rename_i d f e;cases e;split at h;{simp_all};exact nO h b.2};{rename_i e;cases e;exact nO h b.2};simp_all
theorem nZ:Vu P main (G (bY f t (.code .ret::k) .run) cs) w=.go (G (bY f t (.code .ret::k) .returning) cs) w #[]:=by rfl
theorem jy:Vu P main (G (bY f t (.inScope x::k) .run) cs) w=.go (G (bY f t k .run) cs) w #[]:=by rfl
theorem lj:Vu P main (G (bY f t (.code (.scope x)::k) .run) cs) w=.go (G (bY f t (.code x::.inScope x::k) .run) cs) w #[]:=by rfl
theorem iI(h:exitTo id k=Vo):Vu P main (G (bY f t (.code (.exit id)::k) .run) cs) w=.ended (.stuck "exit, goto: no such block or label" ((bY f t (.code (.exit id)::k) .run).pos P)) w #[]:=by simp only[G,Vu,Vu.exec,bY,h,Option.elim,Te,if_false]
theorem jZ:Vu P main (G (bY f t (.code (.region id ops Vk)::k) .run) cs) w=match(choose (.order f id)).run P w with|.ok b w=>.go (G (bY f t (.inRegion ops (Region.schedule (P.follows .mixedOrders) ops b)::k) .run) cs) w #[]|.halt _ w=>.ended (.stuck "order" ((bY f t (.code (.region id ops Vk)::k) .run).pos P)) w:=by rfl
theorem stepG_unwanted(h:((ops[i]?).map (Region.wanted · (VC ops t))).getD UW=UW):Vu P main (G (bY f t (.inRegion ops (i::rest)::k) .run) cs) w=.go (G ((bY f t (.inRegion ops (i::rest)::k) .run).finish Vr) cs) w #[]:=by simp only[G,Vu,Vu.exec,bY,h,Te,if_false]
section op
variable{w1:Vl}
abbrev mX(f:VE)(t:Array Vm)(ops:Array Wb)(i:Nat)(rest:List Nat)(k:List VR):Vx:=bY f t (.inRegion ops (i::rest)::k) .run
theorem iZ{v:Vm}(d:ops[i]?=Vg o)(e:Region.wanted o (VC ops t)=Vk)(b:(Vv (mX f t ops i rest k).eval o).run P w=.ok (.value v) w1):Vu P main (G (mX f t ops i rest k) cs) w=.go (G ((mX f t ops i rest k).finish v) cs) w1 (seen P f ((Vv (mX f t ops i rest k).eval o).events P w #[])):=by simp only[bY]at b;simp[G,Vu,Vu.exec,Vu.oper,Vu.apply,Vx.oper?,bY,d,e,b,GStep.after]
theorem jL(d:ops[i]?=Vg o)(e:Region.wanted o (VC ops t)=Vk)(b:(Vv (mX f t ops i rest k).eval o).run P w=.ok .skip w1):Vu P main (G (mX f t ops i rest k) cs) w=.go (G ((mX f t ops i rest k).finish Vr) cs) w1 (seen P f ((Vv (mX f t ops i rest k).eval o).events P w #[])):=by simp only[bY]at b;simp[G,Vu,Vu.exec,Vu.oper,Vu.apply,Vx.oper?,bY,d,e,b,GStep.after]
theorem iY{j:VE}(d:ops[i]?=Vg o)(e:Region.wanted o (VC ops t)=Vk)(b:(Vv (mX f t ops i rest k).eval o).run P w=.ok (.enter j args) w1):Vu P main (G (mX f t ops i rest k) cs) w=.go (G (Vx.enter P j args .normal) (mX f t ops i rest k::cs)) w1 (seen P f ((Vv (mX f t ops i rest k).eval o).events P w #[])):=by simp only[bY]at b;simp[G,Vu,Vu.exec,Vu.oper,Vu.apply,Vx.oper?,bY,d,e,b,GStep.after]
theorem lk{v:Vm}(e:ops[i]?=Vg o)(g:Region.wanted o (VC ops t)=Vk)(d:(Vv (mX f t ops i rest k).eval o).run P w=.halt (.panic v) w1):Vu P main (G (mX f t ops i rest k) cs) w=.go (G (bY f t (.inRegion ops (i::rest)::k) (.panicking [{v,recovered:=UW}])) cs) w1 (seen P f ((Vv (mX f t ops i rest k).eval o).events P w #[])):=by simp only[bY]at d;simp[G,Vu,Vu.exec,Vu.oper,Vu.apply,Vx.oper?,bY,e,g,d,GStep.after,Vx.raise]
theorem l8(e:ops[i]?=Vg o)(j:Region.wanted o (VC ops t)=Vk)(b:(Vv (mX f t ops i rest k).eval o).run P w=.halt h w1)(d:AB h=Vk)(l:∀v,h≠.panic v):∃x w2,(Vu P main (G (mX f t ops i rest k) cs) w).bare=.ended x w2:=by simp only[bY]at b;cases h with|panic v=>simp_all|stuck s=>simp[G,Vu,Vu.exec,Vu.oper,Vu.apply,Vx.oper?,bY,e,j,b]|unsupported u=>(cases u with|initOrder g=>simp[AB]at d|_=>simp[G,Vu,Vu.exec,Vu.oper,Vu.apply,Vx.oper?,bY,e,j,b])|_=>simp[AB]at d
end op
theorem wE.ry(b:wE P c gl ⟨f,t,.inRegion ops (i::rest)::k,UW,st⟩):(i::rest).all (opAt P c gl ops)=Vk/\k.all (aU P c gl)=Vk:=by have:=b.items;simp only[Tj,SV]at this;exact this
theorem gv(args:Array Vm)(a:P.funcs[f]?=Vg fn):Vx.enter P f args .normal=bY f (args++Array.replicate (fn.ntmps-args.size) Vr) [.code (fn.body.getD (.refuse "unsupported: a function without a Go body is entered"))] .run:=by simp[Vx.enter,bY,a]
theorem nP(args:Array Vm)(a:P.funcs[f]?=Vo):Vx.enter P f args .normal=bY f (args++Array.replicate (0-args.size) Vr) [.code (.refuse "unsupported: a function without a Go body is entered")] .run:=by simp[Vx.enter,bY,a]
theorem zf(g:Listed P c gl){j:VE}(f:c.fns j=Vk)(x d:Array Vm):∃n b,(Vx.enter P j x .normal=bY j (x++Array.replicate (n-x.size) Vr) [.code b] .run/\Vx.enter P j d .normal=bY j (d++Array.replicate (n-d.size) Vr) [.code b] .run)/\codeOk P c gl b=Vk:=by cases a:P.funcs[j]? with|none=>exact⟨0,_,⟨nP x a,nP d a⟩,rfl⟩|some e=>refine⟨e.ntmps,_,⟨gv x a,gv d a⟩,?_⟩;obtain⟨b,h|⟨h,i⟩⟩:=g.body j e f a;{rw[h];rfl};simp_all
theorem Kp(I:Listed P c gl)(V:∀g,gl g=Vk->r g=Vg g)(Y:cw c r w v)(E:aj c r t t')(D:kp c r st st')(A:wE P c gl ⟨f,t,.inRegion ops (i::rest)::k,UW,st⟩)(z:ops[i]?=Vg o)(a:Region.wanted o (VC ops t)=Vk):Stp P c gl r main bs w v ⟨f,t,.inRegion ops (i::rest)::k,UW,st⟩ ⟨f,t',.inRegion ops (i::rest)::k,UW,st'⟩:=by obtain⟨p,R⟩:=A.ry;have M:=mT p z;have m:=sQ I.aJ I.ext M (ev:=(mX f t ops i rest k).eval) (λx q=>pk E V I.p5 x q) (λ_=>⟨rfl,rfl⟩) w v Y;(have l:Region.wanted o (VC ops t')=Vk:=by rw[funext λj=>lR E ops j];exact a);unfold Stp;rw[cv.tY];cases q:(Vv (mX f t ops i rest k).eval o).run P w with|halt h H=>rw[q]at m;refine .inr ?_;by_cases S:∃u,h=.panic u;{obtain⟨u,rfl⟩:=S;rw[lk z a q];refine .inr ⟨f,t,_,_,st,H,_,rfl,λd w r sv=>by simp,λx q=>(A.below x q).2.2⟩};obtain⟨x,w2,e⟩:=l8 z a q m (λu e=>S ⟨u,e⟩);exact .inl ⟨x,w2,e⟩|ok n H=>rw[q]at m;obtain⟨n',O,J,L,B,q1,Z⟩:=m;have C:∀e∈seen P f ((Vv (mX f t' ops i rest k).eval o).events P v #[]),qJ c J e:=λe U=>Z e (mem_seen U);refine .inl ?_;cases q1 with|@value u u' X=>refine⟨⟨f,_,.inRegion ops rest::k,UW,st⟩,H,seen P f ((Vv (mX f t ops i rest k).eval o).events P w #[]),(iZ z a q).trans ?_,⟨A.fn,?_,A.below⟩,⟨f,_,.inRegion ops rest::k,UW,st'⟩,O,J,_,(iZ z l L).trans ?_,B,⟨rfl,oB (E.mono B.le) ((ops[i]?).bind (·.dst)) X,rfl,rfl,D.mono B.le⟩,C⟩;{rfl};{simp only[Tj,aU,R,tV p,TZ]};rfl|skip=>refine⟨⟨f,_,.inRegion ops rest::k,UW,st⟩,H,seen P f ((Vv (mX f t ops i rest k).eval o).events P w #[]),(jL z a q).trans ?_,⟨A.fn,?_,A.below⟩,⟨f,_,.inRegion ops rest::k,UW,st'⟩,O,J,_,(jL z l L).trans ?_,B,⟨rfl,oB (E.mono B.le) ((ops[i]?).bind (·.dst)) fE,rfl,rfl,D.mono B.le⟩,C⟩;{rfl};{simp only[Tj,aU,R,tV p,TZ]};rfl|@enter j x K W F=>obtain⟨n,b,Q,T⟩:=zf I W x K;refine⟨⟨j,x++Array.replicate (n-x.size) Vr,[.code b],UW,(f,t,.inRegion ops (i::rest)::k)::st⟩,H,seen P f ((Vv (mX f t ops i rest k).eval o).events P w #[]),(iY z a q).trans ?_,⟨trivial,?_,?_⟩,⟨j,K++Array.replicate (n-K.size) Vr,[.code b],UW,(f,t',.inRegion ops (i::rest)::k)::st'⟩,O,J,_,(iY z l L).trans ?_,B,⟨rfl,?_,rfl,rfl,.cons (E.mono B.le) (D.mono B.le)⟩,C⟩;{rw[Q.1];rfl};{simp[aU,T]};{intro y N;rcases S0.1 N with rfl|N;{exact⟨A.fn,A.items,ops,i,rest,k,rfl⟩};exact A.below y N};{rw[Q.2];rfl};rw[F.size.symm];exact F.append (.replicate _ fE)
end
section
theorem ab.yJ{f f':α->VL Vm}:∀(l:List α){r:bu}{x x':Array Vm},aj c r x x'->(∀a b,r.le b->ab P c b (f a) (f' a) (ai c))->ab P c r (l.foldlM (λbs a=>Functor.map bs.push (f a)) x) (l.foldlM (λbs a=>bs.push<$>f' a) x') (aj c)|[],_,_,_,h,_=>ab.pure h|a::l,r,x,x',h,e=>by simp only[UR];refine ab.bind (Q:=aj c) ?_ λb y n d j=>ab.yJ l j λa k g=>e a k (bu.le_trans d g);simp only[<-bind_pure_comp];exact ab.bind (e a r (bu.le_refl r)) λb v m d i=>ab.pure ((h.mono d).push i)
theorem ab.mapM{f f':α->VL Vm}(l:Array α)(h:∀a b,r.le b->ab P c b (f a) (f' a) (ai c)):ab P c r (l.mapM f) (l.mapM f') (aj c):=by rw[Vh,Vh,<-Vi,<-Vi];exact ab.yJ l.toList .empty h
theorem jT(fn:Func)(h:aj c r t t'):ab P c r (results fn t) (results fn t') (ai c):=by refine ab.bind (ab.mapM _ λa g d=>?_) λg x m d b=>ab.pure ?_;{cases a with|tmp i=>exact ab.pure ((h.mono d).getD i fE)|cell i j=>exact ab.bind (ab.asAddr ((h.mono d).getD i fE)) λl a k _ f=>ab.loadVar j f};by_cases e:x.size=1;{rw[dif_pos e,dif_pos (b.size▸e)];exact b.el 0 _ _ (S1 _) (S1 _)};rw[dif_neg e,dif_neg (b.size▸e)];exact .tuple b.size b.el
section ret
variable{x:Vx}{w1:Vl}
theorem bI(a:P.funcs[f]?=Vo):Vu P main (G (bY f t k .returning) (x::cs)) w=.go (G (x.finish (t.getD 0 Vr)) cs) w #[]:=by simp[G,Vu,unwind,doReturn,bY,a]
theorem aP{v:Vm}(a:P.funcs[f]?=Vg fn)(b:(results fn t).run P w=.ok v w1):Vu P main (G (bY f t k .returning) (x::cs)) w=.go (G (x.finish v) cs) w1 (seen P f ((results fn t).events P w #[])):=by simp[G,Vu,unwind,doReturn,bY,a,b,GStep.after]
theorem cZ(a:P.funcs[f]?=Vg fn)(b:(results fn t).run P w=.halt h w1):∃o w2,(Vu P main (G (bY f t k .returning) (x::cs)) w).bare=.ended o w2:=by cases h<;>simp[G,Vu,unwind,bY,a,b]
end ret
theorem ze{t0':Array Vm}(A:cw c r w v)(z:aj c r t t')(l:aj c r t0 t0')(j:kp c r st st')(y:wE P c gl ⟨f,t,k,Vk,(f0,t0,.inRegion ops (i::rest)::k0)::st⟩):Stp P c gl r main bs w v ⟨f,t,k,Vk,(f0,t0,.inRegion ops (i::rest)::k0)::st⟩ ⟨f,t',k,Vk,(f0,t0',.inRegion ops (i::rest)::k0)::st'⟩:=by obtain⟨s,C,-⟩:=y.below _ (Tf ..);have a:=λx m=>y.below x (Tg _ m);(have g:(VR.inRegion ops rest::k0).all (aU P c gl)=Vk:=by simp only[Tj,aU]at C⊢;simp_all);cases d:P.funcs[f]? with|none=>refine .inl ⟨⟨f0,_,.inRegion ops rest::k0,UW,st⟩,w,#[],(bI d).trans ?_,⟨s,g,a⟩,⟨f0,_,.inRegion ops rest::k0,UW,st'⟩,v,r,#[],(bI d).trans ?_,.refl A,⟨rfl,oB l ((ops[i]?).bind (·.dst)) (z.getD 0 fE),rfl,rfl,j⟩,λe p=>by simp at p⟩;{rfl};rfl|some n=>have b:=jT n z (P:=P) w v A;cases m:(results n t).run P w with|halt h B=>exact .inr (.inl (cZ d m))|ok u B=>rw[m]at b;obtain⟨J,I,H,D,q,F,E⟩:=b;refine .inl ⟨⟨f0,_,.inRegion ops rest::k0,UW,st⟩,B,seen P f ((results n t).events P w #[]),(aP d m).trans ?_,⟨s,g,a⟩,⟨f0,_,.inRegion ops rest::k0,UW,st'⟩,I,H,seen P f ((results n t').events P v #[]),(aP d D).trans ?_,q,⟨rfl,oB (l.mono q.le) ((ops[i]?).bind (·.dst)) F,rfl,rfl,j.mono q.le⟩,λe p=>E e (mem_seen p)⟩;{rfl};rfl
theorem jQ{x:VK}{b:We}(h:(bY f t (.code (.cond x a b)::k) .run).eval x=.bool u):Vu P main (G (bY f t (.code (.cond x a b)::k) .run) cs) w=.go (G (bY f t (.code (if u then a else b)::k) .run) cs) w #[]:=by simp only[bY]at h;simp[G,Vu,Vu.exec,bY,h]
theorem jv{x:VK}{b:We}(h:∀u,(bY f t (.code (.cond x a b)::k) .run).eval x≠.bool u):∃o w2,(Vu P main (G (bY f t (.code (.cond x a b)::k) .run) cs) w).bare=.ended o w2:=by simp only[bY]at h;simp only[G,Vu,Vu.exec,bY];simp
theorem Pm{x x':Vm}(h:x=.bool u)(k:ai c r x x'):x'=.bool u:=by subst h;cases k;rfl
theorem sj(V:Listed P c gl)(U:∀g,gl g=Vk->r g=Vg g)(z:cw c r w v)(hr:nC c r s s')(p:wE P c gl s)(hne:s.ret=Vk->s.st≠[]):Stp P c gl r main bs w v s s':=by obtain⟨f,t,k,R,Y⟩:=s;obtain⟨f',M,k',K,L⟩:=s';obtain⟨N,y,Z,e3,d⟩:=hr;simp only at N y Z e3 d;subst f' k' K;cases R with|true=>(cases d with|nil=>simp_all|@cons f0 t0 t0' k0 l l' h0 O=>obtain⟨-,-,n,i,B,k1,e⟩:=p.below _ (Tf ..);simp only at e;subst e;exact ze z y h0 O p)|false=>cases k with|nil=>exact Stp.ctl (ret1:=Vk) (k1:=[]) z y d p rfl (λ_ _ _=>by rfl) (λ_ _ _=>by rfl)|cons x k=>have q:=p.items;simp only[Tj,SV]at q;obtain⟨q,A⟩:=q;cases x with|code a=>(cases a with|skip=>exact Stp.ctl (ret1:=UW) (k1:=k) z y d p A (λ_ _ _=>by rfl) (λ_ _ _=>by rfl)|label l=>exact Stp.ctl (ret1:=UW) (k1:=k) z y d p A (λ_ _ _=>by rfl) (λ_ _ _=>by rfl)|ret=>exact Stp.ctl (ret1:=Vk) z y d p p.items (λ_ _ _=>nZ) (λ_ _ _=>nZ)|seq a b=>exact Stp.ctl (ret1:=UW) (k1:=.code a::.code b::k) z y d p (by simp only[aU,codeOk,SV]at q;simp[aU,codeOk,A,q]) (λ_ _ _=>by rfl) (λ_ _ _=>by rfl)|block id a=>exact Stp.ctl (ret1:=UW) (k1:=.code a::.inBlock id::k) z y d p (by simp only[aU,codeOk,SV]at q;simp[aU,codeOk,A,q]) (λ_ _ _=>by rfl) (λ_ _ _=>by rfl)|loop a=>exact Stp.ctl (ret1:=UW) (k1:=.code a::.inLoop a::k) z y d p (by simp only[aU,codeOk,SV]at q;simp[aU,codeOk,A,q]) (λ_ _ _=>by rfl) (λ_ _ _=>by rfl)|scope a=>exact Stp.ctl (ret1:=UW) (k1:=.code a::.inScope a::k) z y d p (by simp only[aU,codeOk,SV]at q;simp[aU,codeOk,A,q]) (λ_ _ _=>lj) (λ_ _ _=>lj)|refuse why=>exact .inr (.inl ⟨_,w,by rfl⟩)|exit id=>(cases D:exitTo id k with|none=>exact .inr (.inl ⟨_,w,by rw[cv.tY,iI D];rfl⟩)|some k1=>exact Stp.ctl (ret1:=UW) z y d p (nO D A) (λ_ _ _=>by simp[G,Vu,Vu.exec,bY,md,D]) (λ_ _ _=>by simp[G,Vu,Vu.exec,bY,md,D]))|cond x a b=>simp only[aU,codeOk,SV]at q;have hv:=pk y U V.p5 (f:=f) (k:=.code (.cond x a b)::k) (m:=.run) x q.1.1;(cases J:(bY f t (.code (.cond x a b)::k) .run).eval x with|bool u=>have:=Pm J hv;exact Stp.ctl (ret1:=UW) (k1:=.code (if u then a else b)::k) z y d p (by cases u<;>simp[aU,q,A]) (λ_ _ _=>jQ J) (λ_ _ _=>jQ this)|_=>exact .inr (.inl (jv λu e=>by simp_all)))|region id n F=>(have I:n.all (sF P c gl)=Vk:=by assumption);(have H:∀l,(VR.inRegion n l::k).all (aU P c gl)=Vk:=λl=>by simp only[Tj,SV];exact⟨FK I l,A⟩);(cases F with|false=>exact Stp.ctl (ret1:=UW) (k1:=.inRegion n (List.range n.size)::k) z y d p (H _) (λ_ _ _=>by rfl) (λ_ _ _=>by rfl)|true=>have X:=ab.cF (r:=r) (c:=c) (P:=P) (iz (.order f id)) w v z;unfold Stp;rw[cv.tY,jZ];cases hc:(choose (.order f id)).run P w with|halt h S=>exact .inr (.inl ⟨_,S,rfl⟩)|ok u S=>rw[hc]at X;obtain⟨u',v1,r1,N,T,q1,-⟩:=X;subst q1;refine .inl ⟨⟨f,t,_,UW,Y⟩,S,#[],rfl,⟨p.fn,H _,p.below⟩,⟨f,M,_,UW,L⟩,v1,r1,#[],?_,T,⟨rfl,y.mono T.le,rfl,rfl,d.mono T.le⟩,λe D=>by simp at D⟩;rw[cv.tY,jZ,N];rfl)|rangeFunc _ _ _ _=>simp[aU,codeOk]at q|goto l=>simp[aU,codeOk]at q)|inBlock id=>exact Stp.ctl (ret1:=UW) (k1:=k) z y d p A (λ_ _ _=>by rfl) (λ_ _ _=>by rfl)|inLoop a=>exact Stp.ctl (ret1:=UW) (k1:=.code a::.inLoop a::k) z y d p (by simp only[aU]at q;simp[aU,A,q]) (λ_ _ _=>by rfl) (λ_ _ _=>by rfl)|inScope a=>exact Stp.ctl (ret1:=UW) (k1:=k) z y d p A (λ_ _ _=>jy) (λ_ _ _=>jy)|inRegion n l=>(cases l with|nil=>exact Stp.ctl (ret1:=UW) (k1:=k) z y d p A (λ_ _ _=>by rfl) (λ_ _ _=>by rfl)|cons i B=>cases E:((n[i]?).map (Region.wanted · (VC n t))).getD UW with|true=>(cases W:n[i]? with|none=>simp_all|some o=>rw[W]at E;exact Kp V U z y d p W (by simp_all))|false=>(have Q:((n[i]?).map (Region.wanted · (VC n M))).getD UW=UW:=by rw[show VC n M=VC n t from funext λj=>lR y n j];exact E);refine .inl ⟨⟨f,_,.inRegion n B::k,UW,Y⟩,w,#[],(stepG_unwanted E).trans ?_,⟨p.fn,?_,p.below⟩,⟨f,_,.inRegion n B::k,UW,L⟩,v,r,#[],(stepG_unwanted Q).trans ?_,.refl z,⟨rfl,oB y ((n[i]?).bind (·.dst)) fE,rfl,rfl,d⟩,λe D=>by simp at D⟩;{rfl};{have:=p.items;simp only[Tj,aU,SV]at this⊢;simp_all};rfl)|inRangeFunc _=>simp[aU]at q|endRangeFunc _=>simp[aU]at q|beginRound=>simp[aU]at q|call _ _ _ _=>simp[aU]at q|extern _ _=>simp[aU]at q
end
def re(w:Vl)(T:Nat->V9->Nat)(D:Nat):Vl:={w with tape:=T,drawn:=D}
@[simp]theorem Sc(w:Vl)(T b:Nat->V9->Nat)(D a:Nat):re (re w T D) b a=re w b a:=rfl
@[simp]theorem ve(w:Vl)(T:Nat->V9->Nat)(D:Nat):(re w T D).heap=w.heap:=rfl
@[simp]theorem A8(w:Vl)(T:Nat->V9->Nat)(D:Nat)(a:V0):(re w T D).cell? a=w.cell? a:=rfl
theorem AR(w:Vl)(T:Nat->V9->Nat)(D:Nat)(p:VD)(a:V0)(b:Bool):(re w T D).farLoad p a b=w.farLoad p a b:=rfl
theorem vZ(w:Vl)(T:Nat->V9->Nat)(D:Nat)(p:VD)(a:V0)(u:Vz)(k:V0)(v:Vm)(b:Bool):(re w T D).viewStore p a u k v b=(w.viewStore p a u k v b).map λx=>(re x.1 T D,x.2):=by unfold Vl.viewStore;have e:(re w T D).seen p a u k b=w.seen p a u k b:=rfl;rw[e];generalize w.seen p a u k b=j;by_cases i:(!tight p p.depth u)=Vk;{simp only[i];rfl};simp only[i,Te];cases j with|error s=>rfl|ok x=>obtain⟨c,e,l,g,f,d⟩:=x;cases n:v.bytes? with|none=>rfl|some bytes=>simp only[bind,Except.bind,pure];by_cases h:Vg bytes.length=Option.map (λx=>x.length) f.bytes?;{simp only[ne_eq,h,eq_false];generalize(List.foldlM (m:=Except String) _ c d)=z;cases z<;>rfl};simp only[ne_eq,h,eq_true];rfl
theorem qu(w:Vl)(T:Nat->V9->Nat)(D:Nat)(p:VD)(a:V0)(v:Vm)(b:Bool):(re w T D).farStore p a v b=(w.farStore p a v b).map λx=>(re x.1 T D,x.2):=by unfold Vl.farStore;rw[ve];cases w.heap[a.block]? with|none=>rfl|some o=>(cases o<;>try rfl);simp only[vZ];generalize w.viewStore _ _ _ _ _ _=z;cases z<;>rfl
theorem Dj(w:Vl)(T:Nat->V9->Nat)(D:Nat)(a:V0)(n:Nat):(re w T D).freeze a n=re (w.freeze a n) T D:=by unfold Vl.freeze;split<;>rfl
def yz:Vm->Bool
 |.agg _|.tuple _=>Vk
 |_=>UW
theorem Q5(v:Vm):yz v=Vk\/yz v=UW:=by simp
theorem tF(m:Mode)(a:V0)(g:VL α){v:Vm}(h:yz v=Vk)(w:Vl):∃z,(VL.store m a v g).run P w=.halt z w:=by cases v<;>simp[yz]at h<;>exact⟨_,rfl⟩
theorem so(m:Mode)(a:V0)(g:VL α){v:Vm}(h:yz v=UW)(w:Vl):(VL.store m a v g).run P w=match w.cell? a with|some _=>if w.frozen? a then .halt (.unsupported (.unsafePointer "a write to bytes that a string shares")) w else g.run P (w.setCell a v)|none=>match w.farStore P a v (m==.atomic)with|.ok x=>g.run P x.1|.error h=>.halt h w:=by cases v<;>simp[yz]at h<;>(simp only[VL.run];split;{rename_i b;rw[b]};·split<;>simp_all)
theorem oP(m:Mode)(a:V0)(g:VL α){v:Vm}(h:yz v=UW)(w:Vl):(VL.store m a v g).events P w #[]=match w.cell? a with|some _=>if w.frozen? a then#[]else g.events P (w.setCell a v) (#[].push ⟨.cell a,Vk,m==.atomic⟩)|none=>match w.farStore P a v (m==.atomic)with|.ok x=>g.events P x.1 (#[]++x.2.toArray.map (⟨.cell ·,Vk,m==.atomic⟩))|.error _=>#[]:=by cases v<;>simp[yz]at h<;>(simp only[VL.events,VL.runT];split<;>(try split)<;>simp_all)
theorem CF(w:Vl)(T:Nat->V9->Nat)(D:Nat)(a:V0):(re w T D).frozen? a=w.frozen? a:=rfl
theorem tp{w1:Vl}{p:VD}{a:V0}{v:Vm}{b:Bool}{l:List V0}(h:w.farStore p a v b=.ok (w1,l)):w1.drawn=w.drawn/\w1.tape=w.tape:=by have c:w.farStore p a v b=(w.farStore p a v b).map λx=>(re x.1 w.tape w.drawn,x.2):=qu w w.tape w.drawn p a v b;rw[h]at c;injection c with c;have:=(Tt c).1;exact⟨(congrArg Vl.drawn this).trans rfl,(congrArg Vl.tape this).trans rfl⟩
theorem wY(x:VL α):∀{w w1:Vl}{a:α},x.run P w=.ok a w1->(∀e∈x.events P w #[],e.loc≠.output)->w.drawn<=w1.drawn/\w1.tape=w.tape/\∀(T:Nat->V9->Nat)(D:Nat),(∀j q,w.drawn+j<w1.drawn->T (D+j) q=w.tape (w.drawn+j) q)->x.run P (re w T D)=.ok a (re w1 T (D+(w1.drawn-w.drawn))):=by induction x with|pure a=>simp|halt z=>simp|program g d=>intro w w1 b h c;exact d P h c|mark m g d=>intro w w1 b h c;refine d h λe i=>c e ?_;show e∈g.events P w _;rw[VL.events_acc];simp_all|sys s g _=>intro w w1 b h c;refine absurd rfl (c ⟨.output,Vk,UW⟩ ?_);show _∈(g _).events P _ _;rw[VL.events_acc];simp|choose q g d=>intro w w1 b h c;have B:∀u:Vl,(VL.choose q g).run P u=if q.forced then(g 0).run P u else(g (q.cut (u.tape u.drawn q))).run P {u with drawn:=u.drawn+1}:=λ_=>rfl;(have I:(VL.choose q g).events P w #[]=if q.forced then(g 0).events P w #[]else(g (q.cut (w.tape w.drawn q))).events P {w with drawn:=w.drawn+1} #[]:=by simp only[VL.events,VL.runT];grind);rw[B]at h;rw[I]at c;simp only[B];by_cases F:q.forced=Vk;{grind};rw[if_neg F]at h c;simp only[F,Te,if_false];obtain⟨J,H,K⟩:=d _ h c;simp only at J H;refine⟨by omega,H,λT D t=>?_⟩;(have:=K T (D+1) λj q M=>by have:=t (j+1) q (by grind);grind);have C:=t 0 q Ω;simp only[Tw]at C;show(g (q.cut (T D q))).run P (re w T (D+1))=_;rw[C];refine Eq.trans this ?_;grind|load m a g d=>intro w w1 b h c;simp only[VL.run,A8,AR]at h⊢;(cases r:w.cell? a with|some v=>rw[r]at h;refine d v h λe i=>c e ?_;simp only[VL.events,VL.runT,r];show e∈(g v).events P w _;rw[VL.events_acc];simp_all|none=>rw[r]at h;cases l:w.farLoad P a (m==.atomic)with|error z=>simp_all|ok x=>rw[l]at h;refine d x.1 h λe i=>c e ?_;simp only[VL.events,VL.runT,r,l];show e∈(g x.1).events P w _;rw[VL.events_acc];simp_all)|store m a v g d=>intro w w1 b h c;rcases Q5 v with y|y;{obtain⟨z,N⟩:=tF (P:=P) m a g y w;simp_all};simp only[so m a g y,A8,qu,CF]at h⊢;rw[oP m a g y]at c;(cases r:w.cell? a with|some u=>rw[r]at h c;simp only at h c⊢;split at h;{cases h};rename_i l;rw[if_neg l]at c;have:=d (w:=w.setCell a v) h λe i=>c e (by rw[VL.events_acc];simp_all);refine⟨this.1,this.2.1,λT D t=>?_⟩;exact(if_neg l).trans (this.2.2 T D t)|none=>rw[r]at h c;simp only at h c⊢;cases l:w.farStore P a v (m==.atomic)with|error z=>simp_all|ok x=>rw[l]at h c;simp only[Except.map]at h c⊢;have A:=tp l;have:=d (w:=x.1) h λe i=>c e (by rw[VL.events_acc];simp_all);simp_all)|new o g d=>intro w w1 b h c;exact d _ h c|shape k g d=>intro w w1 b h c;exact d _ h c|freeze a n g d=>intro w w1 b h c;(have A:(w.freeze a n).drawn=w.drawn/\(w.freeze a n).tape=w.tape:=by unfold Vl.freeze;grind);have:=d (w:=w.freeze a n) h c;rw[A.1,A.2]at this;simp only[VL.run,Dj];exact this|frozen a g d=>intro w w1 b h c;exact d _ h c|getObj k g d=>intro w w1 b h c;(cases f:w.heap[k]? with|none=>simp only[VL.run,f]at h;cases h|some o=>cases o<;>first|(simp only[VL.run,f]at h;cases h;done)|(simp only[VL.run,f,ve]at h⊢;refine d _ h λe i=>c e ?_;simp only[VL.events,VL.runT,f];show e∈(g _).events P w _;rw[VL.events_acc];exact To.2 (.inr i)))|setObj k o g d=>intro w w1 b h c;cases f:w.heap[k]? with|none=>simp only[VL.run,f]at h;cases h|some L=>cases L<;>first|(simp only[VL.run,f]at h;cases h;done)|(simp only[VL.run,f,ve]at h⊢;refine d (w:={w with heap:=w.heap.setIfInBounds k o}) h λe i=>c e ?_;simp only[VL.events,VL.runT,f];show e∈g.events P _ _;rw[VL.events_acc];exact To.2 (.inr i))
def mZ(r:bu):bu:=λb=>if(r b).isSome then Vg b else Vo
theorem pI{k:Nat}(h:r b=Vg k):mZ r b=Vg b:=by simp[mZ,h]
theorem mL{k:Nat}(h:mZ r b=Vg k):k=b/\∃j,r b=Vg j:=by unfold mZ at h;split at h;{rename_i e;cases h;exact⟨rfl,US.1 e⟩};cases h
theorem dr.self{a a':V0}(h:dr c r a a'):dr c (mZ r) a a:=⟨pI h.1,rfl,rfl,h.2.2.2⟩
theorem ma{x:Array Vm}(b:x.size=x'.size)(h:∀(i:Nat)(v a:Vm),x[i]?=Vg v->x'[i]?=Vg a->ai c (mZ r) v v):∀(i:Nat)(v a:Vm),x[i]?=Vg v->x[i]?=Vg a->ai c (mZ r) v a:=by grind
theorem ai.self{v v':Vm}(h:ai c r v v'):ai c (mZ r) v v:=by induction h with|bool b=>exact .bool b|int k n=>exact .int k n|string s=>exact .string s|ga=>exact .ga|ptr a=>exact .ptr a.self|fO n m=>exact .fO n m|slice n m a=>exact .slice n m a.self|cx a l=>exact .cx a a|kC=>exact .kC|map a=>exact .map (pI a)|func g i _ j _ e f=>exact .func g rfl (ma i e) rfl (ma j f)|nilFunc=>exact .nilFunc|nilIface=>exact .nilIface|iface t _ d=>exact .iface t d|agg s _ d=>exact .agg rfl (ma s d)|tuple s _ d=>exact .tuple rfl (ma s d)
theorem aj.self{x:Array Vm}(h:aj c r x x'):aj c (mZ r) x x:=⟨rfl,ma h.size λi v d a b=>(h.el i v d a b).self⟩
theorem lY.self{o o':Obj}(h:lY c r o o'):lY c (mZ r) o o:=by cases h with|cells t f k=>exact .cells t f k.self|@map x j k s e=>refine .map k rfl λi d m a b=>?_;rw[a]at b;cases b;have g:=s▸(SS.1 a).1;have:=e i d _ a (S1 g);exact⟨this.key.self,this.val.self,rfl⟩|iter s p=>exact .iter s p|number l a=>exact .number l a.self
theorem p7.self{o o':Option Obj}(h:p7 c r b o o'):p7 c (mZ r) b o o:=by cases h with|@seen x g t m j s l z y e=>refine .seen t t _ s l (SR _) ⟨λ_=>rfl,y.2⟩ λi u p a b d=>?_;rw[b]at d;cases d;have f:=SU (SS.1 b).1 z;exact(e i u _ a b (S1 f)).self|own n k=>exact .own n k.self
theorem cw.self(h:cw c r w v):cw c (mZ r) w w:=by refine⟨λb k e=>?_,λb k e=>?_,λb g k e d=>?_,h.p5,λb f e=>h.hid b f (by unfold mZ at e;simp_all),λb k e=>?_,rfl,rfl,h.old,λb k e _=>(mL e).1.symm,h.gY.1,h.gY.1⟩;{obtain⟨rfl,j,a⟩:=mL e;exact h.pW _ _ a};{obtain⟨rfl,j,a⟩:=mL e;exact h.pW _ _ a};{exact .inl ((mL e).1.symm.trans (mL d).1)};obtain⟨rfl,j,a⟩:=mL e;exact(h.blk _ _ a).self
theorem kp.self{l l':List (VE×Array Vm×List VR)}(h:kp c r l l'):kp c (mZ r) l l:=by induction h with|nil=>exact .nil|cons a _ b=>exact .cons a.self b
theorem nC.self(h:nC c r s s'):nC c (mZ r) s s:=⟨rfl,h.t.self,rfl,rfl,h.st.self⟩
theorem cw.re(h:cw c r w w)(T:Nat->V9->Nat)(D:Nat):cw c r (re w T D) (re w T D):=⟨h.pW,h.ym,h.inj,h.p5,h.hid,h.blk,rfl,rfl,h.old,h.aJ,h.gY⟩
theorem qJ.zc{e:V4}(h:qJ c r e):e.loc≠.output:=by rcases h with⟨b,a,-⟩|h|⟨f,h⟩;{grind};{simp_all};simp_all
structure Fit(P:VD)(c:dw)(gl:Nat->Bool)(s:cv)(w:Vl):Prop where
 ok:wE P c gl s
 rel:∃r,cw c r w w/\nC c r s s/\∀g,gl g=Vk->r g=Vg g
theorem Fit.re(h:Fit P c gl s w)(T:Nat->V9->Nat)(D:Nat):Fit P c gl s (re w T D):=by obtain⟨e,r,a,b,d⟩:=h;exact⟨e,r,a.re T D,b,d⟩
theorem Fit.AZ(d:wE P c gl s)(h:cw c r w v)(a:nC c r s s')(b:∀g,gl g=Vk->r g=Vg g):Fit P c gl s w:=⟨d,mZ r,h.self,a.self,λg e=>pI (b g e)⟩
def bS(P:VD)(s:cv)(w:Vl)(s1:cv)(w1:Vl):Prop:=∃es,Vu P Vk (s.g [ed]) w=.go (s1.g [ed]) w1 es
theorem Gk(h:st.map up=st'.map up):st=st':=by induction st generalizing st' with|nil=>simp_all|cons x l a=>cases st' with|nil=>simp at h|cons y b=>simp only[Tp,TR]at h;have:=h.1;simp only[up,bY]at this;grind
theorem E7(h:s.g [ed]=s'.g [ed]):s=s':=by obtain⟨f,t,k,b,o⟩:=s;obtain⟨l,p,n,a,j⟩:=s';simp only[cv.g,G,bY,Vp.mk.injEq,Vx.mk.injEq]at h;obtain⟨⟨d,e,g,-,m,-⟩,i,-⟩:=h;have:=Gk (Vj i);subst d e g this;(have:b=a:=by cases b<;>cases a<;>simp_all[md]);rw[this]
theorem Fit.step(p:Listed P c gl){s:cv}{w:Vl}(h:Fit P c gl s w)(f:s.ret=Vk->s.st≠[]):(∃a b,bS P s w a b/\Fit P c gl a b)\/Oy (Vu P Vk (s.g [ed]) w):=by obtain⟨u,r,n,o,k⟩:=h;rcases sj p k n o u f with⟨a,b,d,i,t,y,C,v,A,j,x,q,-⟩|B;{refine .inl ⟨a,b,⟨d,i⟩,?_⟩;rw[i]at j;injection j with l m z;have:=E7 l;subst this m;exact⟨t,v,x.rel,q,λg e=>x.le _ _ (k g e)⟩};simp_all
theorem bS.NK{w1:Vl}(h:bS P s w s1 w1)(a:bS P s w s2 w2):s2=s1/\w2=w1:=by obtain⟨_,h⟩:=h;obtain⟨_,a⟩:=a;rw[h]at a;injection a with b d;exact⟨(E7 b).symm,d.symm⟩
def bJ(P:VD)(s:cv)(w:Vl)(s1:cv)(w1:Vl):Prop:=
 w.drawn<=w1.drawn/\w1.tape=w.tape/\∀(T:Nat->V9->Nat)(D:Nat),(∀j q,w.drawn+j<w1.drawn->T (D+j) q=w.tape (w.drawn+j) q)->bS P s (re w T D) s1 (re w1 T (D+(w1.drawn-w.drawn)))
theorem bJ.ctl{w1:Vl}(a:bS P s w s1 w1)(h:∀w,Vu P Vk (s.g [ed]) w=.go (s2.g [ed]) w #[]):bJ P s w s1 w1:=by obtain⟨rfl,rfl⟩:=a.NK ⟨#[],h w⟩;exact⟨SR _,rfl,λT D _=>⟨#[],by simp_all⟩⟩
theorem bS.gA{w1:Vl}(a:bS P s w s1 w1)(h:∃o w2,(Vu P Vk (s.g [ed]) w).bare=.ended o w2):False:=by obtain⟨b,e⟩:=a;simp_all
theorem bS.qa{w1:Vl}{ch:List PanicEntry}(d:bS P s w s1 w1)(h:Vu P Vk (s.g [ed]) w=.go (G (bY f t k (.panicking ch)) cs) w2 es):False:=by obtain⟨a,e⟩:=d;rw[e]at h;injection h with h;simp only[cv.g,G,bY,Vp.mk.injEq,Vx.mk.injEq]at h;have:=h.1.2.2.2.2.1;cases b:s1.ret<;>simp[md,b]at this
theorem bJ.DV{β:Type}{w1:Vl}{x:VL β}{b:β}(k:bS P s w s1 w1)(a:x.run P w=.ok b w2)(j:∀e∈x.events P w #[],e.loc≠.output)(h:∀w w2,x.run P w=.ok b w2->bS P s w s2 w2):bJ P s w s1 w1:=by obtain⟨rfl,rfl⟩:=k.NK (h w w2 a);obtain⟨d,f,g⟩:=wY x a j;exact⟨d,f,λT D i=>h _ _ (g T D i)⟩
theorem Kz(v:Listed P c gl){w1:Vl}(D:Fit P c gl ⟨f,t,.inRegion ops (i::rest)::k,UW,st⟩ w)(q:bS P ⟨f,t,.inRegion ops (i::rest)::k,UW,st⟩ w s1 w1)(l:ops[i]?=Vg o)(a:Region.wanted o (VC ops t)=Vk):bJ P ⟨f,t,.inRegion ops (i::rest)::k,UW,st⟩ w s1 w1:=by obtain⟨L,r,J,H,E⟩:=D;have I:=H.t;obtain⟨p,R⟩:=L.ry;have z:=mT p l;have d:=sQ v.aJ v.ext z (ev:=(mX f t ops i rest k).eval) (λx g=>pk I E v.p5 x g) (λ_=>⟨rfl,rfl⟩) w w J;cases g:(Vv (mX f t ops i rest k).eval o).run P w with|halt h y=>rw[g]at d;by_cases B:∃u,h=.panic u;{obtain⟨u,rfl⟩:=B;exact(q.qa (lk l a g)).elim};exact(q.gA (l8 l a g d (λu e=>B ⟨u,e⟩))).elim|ok n y=>rw[g]at d;obtain⟨T,W,U,O,X,M,A⟩:=d;cases M with|@value u V S=>exact bJ.DV (s2:=⟨f,_,.inRegion ops rest::k,UW,st⟩) q g (λe m=>(A e m).zc) λw y e=>⟨_,(iZ l a e).trans (by rfl)⟩|skip=>exact bJ.DV (s2:=⟨f,_,.inRegion ops rest::k,UW,st⟩) q g (λe m=>(A e m).zc) λw y e=>⟨_,(jL l a e).trans (by rfl)⟩|@enter j x N F K=>obtain⟨n,b,C,Q⟩:=zf v F x N;exact bJ.DV (s2:=⟨j,x++Array.replicate (n-x.size) Vr,[.code b],UW,(f,t,.inRegion ops (i::rest)::k)::st⟩) q g (λe m=>(A e m).zc) λw y e=>⟨_,(iY l a e).trans (by rw[C.1];rfl)⟩
theorem Fw{w1:Vl}(o:Fit P c gl ⟨f,t,k,Vk,(f0,t0,.inRegion ops (i::rest)::k0)::st⟩ w)(l:bS P ⟨f,t,k,Vk,(f0,t0,.inRegion ops (i::rest)::k0)::st⟩ w s1 w1):bJ P ⟨f,t,k,Vk,(f0,t0,.inRegion ops (i::rest)::k0)::st⟩ w s1 w1:=by obtain⟨A,r,s,p,z⟩:=o;have q:=p.t;cases b:P.funcs[f]? with|none=>refine bJ.ctl (s2:=⟨f0,(match(ops[i]?).bind (·.dst)with|some d=>t0.setIfInBounds d (t.getD 0 Vr)|none=>t0),.inRegion ops rest::k0,UW,st⟩) l λw=>?_;refine(bI b).trans ?_;rfl|some j=>have a:=jT j q (P:=P) w w s;cases m:(results j t).run P w with|halt h w1=>exact(l.gA (cZ b m)).elim|ok u x=>rw[m]at a;obtain⟨D,E,C,y,F,B,v⟩:=a;refine bJ.DV (s2:=⟨f0,(match(ops[i]?).bind (·.dst)with|some d=>t0.setIfInBounds d u|none=>t0),.inRegion ops rest::k0,UW,st⟩) l m (λe n=>(v e n).zc) λw x e=>⟨seen P f ((results j t).events P w #[]),?_⟩;refine(aP b e).trans ?_;rfl
theorem bS.tape(F:Listed P c gl){w1:Vl}(y:Fit P c gl s w)(H:s.ret=Vk->s.st≠[])(h:bS P s w s1 w1):bJ P s w s1 w1:=by obtain⟨f,t,k,A,j⟩:=s;cases A with|true=>(cases j with|nil=>simp_all|cons x l=>obtain⟨K,N,M⟩:=x;obtain⟨-,-,g,i,p,D,e⟩:=y.ok.below _ (Tf ..);subst e;exact Fw y h)|false=>cases k with|nil=>exact bJ.ctl (s2:=⟨f,t,[],Vk,j⟩) h (λ_=>by rfl)|cons x k=>have m:=y.ok.items;cases x with|code a=>(cases a with|skip=>exact bJ.ctl (s2:=⟨f,t,k,UW,j⟩) h (λ_=>by rfl)|label l=>exact bJ.ctl (s2:=⟨f,t,k,UW,j⟩) h (λ_=>by rfl)|ret=>exact bJ.ctl (s2:=⟨f,t,.code .ret::k,Vk,j⟩) h (λ_=>by rfl)|seq a b=>exact bJ.ctl (s2:=⟨f,t,.code a::.code b::k,UW,j⟩) h (λ_=>by rfl)|block id a=>exact bJ.ctl (s2:=⟨f,t,.code a::.inBlock id::k,UW,j⟩) h (λ_=>by rfl)|loop a=>exact bJ.ctl (s2:=⟨f,t,.code a::.inLoop a::k,UW,j⟩) h (λ_=>by rfl)|scope a=>exact bJ.ctl (s2:=⟨f,t,.code a::.inScope a::k,UW,j⟩) h (λ_=>by rfl)|refuse J=>exact(h.gA ⟨_,w,by rfl⟩).elim|exit id=>(cases z:exitTo id k with|none=>exact(h.gA ⟨_,w,by rw[cv.tY,iI z];rfl⟩).elim|some D=>exact bJ.ctl (s2:=⟨f,t,D,UW,j⟩) h (λ_=>by simp[cv.g,G,Vu,Vu.exec,bY,md,z]))|cond x a b=>(cases I:(bY f t (.code (.cond x a b)::k) .run).eval x with|bool u=>exact bJ.ctl (s2:=⟨f,t,.code (if u then a else b)::k,UW,j⟩) h λ_=>jQ I|_=>exact(h.gA (jv λu e=>by simp_all)).elim)|region id g q=>(cases q with|false=>exact bJ.ctl (s2:=⟨f,t,.inRegion g (List.range g.size)::k,UW,j⟩) h (λ_=>by rfl)|true=>have E:∀w:Vl,∃u B,(choose (.order f id)).run P w=.ok u B:=λw=>⟨_,_,rfl⟩;obtain⟨u,B,e⟩:=E w;refine bJ.DV (s2:=⟨f,t,.inRegion g (Region.schedule (P.follows .mixedOrders) g u)::k,UW,j⟩) h e (λe z=>by simp_all) λw B e=>⟨#[],?_⟩;rw[cv.tY,jZ,e];rfl)|rangeFunc _ _ _ _=>simp[aU,codeOk]at m|goto l=>simp[aU,codeOk]at m)|inBlock id=>exact bJ.ctl (s2:=⟨f,t,k,UW,j⟩) h (λ_=>by rfl)|inLoop a=>exact bJ.ctl (s2:=⟨f,t,.code a::.inLoop a::k,UW,j⟩) h (λ_=>by rfl)|inScope a=>exact bJ.ctl (s2:=⟨f,t,k,UW,j⟩) h (λ_=>by rfl)|inRegion g l=>(cases l with|nil=>exact bJ.ctl (s2:=⟨f,t,k,UW,j⟩) h (λ_=>by rfl)|cons i p=>cases v:((g[i]?).map (Region.wanted · (VC g t))).getD UW with|true=>(cases C:g[i]? with|none=>simp_all|some o=>exact Kz F y h C (by simp_all))|false=>refine bJ.ctl (s2:=⟨f,(match(g[i]?).bind (·.dst)with|some d=>t.setIfInBounds d Vr|none=>t),.inRegion g p::k,UW,j⟩) h λw=>(stepG_unwanted v).trans ?_;rfl)|inRangeFunc _=>simp[aU]at m|endRangeFunc _=>simp[aU]at m|beginRound=>simp[aU]at m|call _ _ _ _=>simp[aU]at m|extern _ _=>simp[aU]at m
def wG(fr:Vx)(cs:List Vx):Prop:=
 (∃(f:VE)(t:Array Vm)(k:List VR)(ch:List PanicEntry)(st:List (VE×Array Vm×List VR)),fr=bY f t k (.panicking ch)/\cs=st.map up++[ed]/\(∀d w r sv,k.head?≠Vg (.call d w r sv))/\∀x∈st,∃ops i rest k',x.2.2=.inRegion ops (i::rest)::k')\/
 (((∃ch,fr={ed with mode:=.panicking ch})\/fr=ed\/fr={ed with mode:=.returning})/\cs=[])
theorem wG.not{fr:Vx}(h:wG fr [ed])(a:fr.mode=.returning):False:=by rcases h with⟨f,t,k,b,d,rfl,-⟩|⟨-,h⟩;{simp[bY]at a};cases h
theorem uq{fr:Vx}(h:wG fr cs)(w:Vl):(∃n m w',step P (lone fr cs w)=.next (lone n m w')/\wG n m)\/∃o w',step P (lone fr cs w)=.ended o w':=by rcases h with⟨f,t,k,j,A,rfl,rfl,B,q⟩|⟨h,rfl⟩;{(have u:(bY f t k (.panicking j)).catches P=UW:=by unfold Vx.catches;simp only[bY];grind);(have p:∀(x:Vx)(l:List Vx),Vu P Vk {frame:=bY f t k (.panicking j),callers:=x::l,status:=.running,dying:=Vo} w=.go {frame:=x.raise j,callers:=l,status:=.running,dying:=Vo} w #[]:=by intro x l;unfold Vx.catches bY at u;simp[Vu,unwind,bY,Vx.catches];simp_all);cases A with|nil=>exact .inl ⟨_,_,w,step_lone_go (by rw[show List.map up []++[ed]=[ed]from rfl,p];rfl),.inr ⟨.inl ⟨j,rfl⟩,rfl⟩⟩|cons x l=>obtain⟨z,i,s,C,e⟩:=q x (Tf ..);refine .inl ⟨_,_,w,step_lone_go (by rw[show List.map up (x::l)++[ed]=up x::(List.map up l++[ed])from rfl,p];rfl),.inl ⟨x.1,x.2.1,x.2.2,j,l,rfl,rfl,λd w r D=>by grind,λy v=>q y (Tg _ v)⟩⟩};refine ?_;rcases h with⟨j,rfl⟩|rfl|rfl;{exact .inr ⟨_,w,step_lone_ended (by rfl)⟩};{exact .inl ⟨_,_,w,step_lone_go (by rfl),.inr ⟨.inr (.inr rfl),rfl⟩⟩};exact .inr ⟨_,w,step_lone_ended (by rfl)⟩
section
theorem runN_add:∀{k:Nat}{m m':Machine},runN P i m=.next m'->runN P (i+k) m=runN P k m':=by induction i with|zero=>intro k m m' h;cases h;simp|succ i a=>intro k m m' h;rw[show i+1+k=(i+k)+1 by omega];simp only[runN]at h⊢;grind
theorem yq{m m':Machine}(h:step P m=.next m'):runN P 1 m=.next m':=by simp[runN,h]
theorem nH:∀(n:Nat){fr:Vx}{cs:List Vx}{w:Vl},wG fr cs->∀{fr':Vx}{w':Vl},runN P n (lone fr cs w)=.next (lone fr' [ed] w')->fr'.mode=.returning->False:=by intro n;induction n with|zero=>intro fr cs w h fr' w' e a;simp only[runN,lone,Stepped.next.injEq,Machine.mk.injEq]at e;have:=e.2.1;obtain⟨rfl,rfl⟩:=this;exact h.not a|succ n j=>intro fr cs w h fr' w' e a;simp only[runN]at e;rcases uq (P:=P) h w with⟨f,b,g,d,i⟩|⟨o,g,d⟩;{grind};simp_all
def kT(s:cv)(w:Vl):Machine:=lone (bY s.f s.t s.k (md s.ret)) (s.st.map up++[ed]) w
theorem gp{w1:Vl}{fr:Vx}(h:Vu P Vk (s.g [ed]) w=.go (G fr cs) w1 es):step P (kT s w)=.next (lone fr cs w1):=step_lone_go (by have:Vu P Vk {frame:=bY s.f s.t s.k (md s.ret),callers:=s.st.map up++[ed],status:=.running,dying:=Vo} w=.go (G fr cs) w1 es:=h;rw[this];rfl)
theorem bS.PN{w1:Vl}(h:bS P s w s1 w1):step P (kT s w)=.next (kT s1 w1):=by obtain⟨a,e⟩:=h;exact gp e
theorem Cn(h:Oy (Vu P Vk (s.g [ed]) w))(e:runN P (n+1) (kT s w)=.next (lone fr' [ed] w'))(i:fr'.mode=.returning):False:=by simp only[runN]at e;rcases h with⟨o,a,h⟩|⟨f,t,k,b,j,a,l,h,d,g⟩;{rw[show step P (kT s w)=.ended o a from step_lone_ended h]at e;cases e};rw[gp h]at e;exact nH n (.inl ⟨f,t,k,b,j,rfl,rfl,d,g⟩) e i
theorem Oy.not{w1:Vl}(a:bS P s w s1 w1)(h:Oy (Vu P Vk (s.g [ed]) w)):False:=by rcases h with h|⟨f,t,k,b,e,w1,d,h,-⟩;{exact a.gA h};exact a.qa h
def DU(s:cv):Prop:=s.ret=Vk/\s.st=[]
theorem Cz(p:DU s)(e:runN P (n+1) (kT s w)=.next (lone fr' [ed] w'))(j:fr'.mode=.returning):False:=by obtain⟨f,t,k,q,z⟩:=s;obtain⟨d,g⟩:=p;subst d g;have i:wG ed []:=.inr ⟨.inr (.inl rfl),rfl⟩;have a:∀v,ed.finish v=ed:=λv=>rfl;simp only[runN]at e;cases b:P.funcs[f]? with|none=>rw[gp ((bI b).trans (by rw[a]))]at e;exact nH n i e j|some m=>cases l:(results m t).run P w with|halt h r=>obtain⟨o,y,h⟩:=cZ b l;rw[show step P (kT ⟨f,t,k,Vk,[]⟩ w)=.ended o y from step_lone_ended h]at e;cases e|ok u r=>rw[gp ((aP b l).trans (by rw[a]))]at e;exact nH n i e j
inductive Lone(P:VD)(Good:Vm->Vl->Prop):cv->Vl->Prop
 |done{s:cv}{w:Vl}{fn:Func}{v:Vm}:DU s->P.funcs[s.f]?=Vg fn->(∀T D,(results fn s.t).run P (re w T D)=.ok v (re w T D)/\Good v (re w T D))->Lone P Good s w
 |step{s:cv}{w:Vl}:¬DU s->(∀T D,∃s1 w1,bS P s (re w T D) s1 w1)->(∀T D s1 w1,bS P s (re w T D) s1 w1->Lone P Good s1 w1)->Lone P Good s w
section bar
variable(P)(Good:Vm->Vl->Prop)
noncomputable def uM(p:cv×Vl):(Nat->V9->Nat)×Nat:=open Classical in
 if h:∃a:(Nat->V9->Nat)×Nat,∀s1 w1,bS P p.1 (re p.2 a.1 a.2) s1 w1->¬Lone P Good s1 w1 then Classical.choose h else(λ_ _=>0,0)
def Live(p:cv×Vl):Prop:=¬DU p.1/\∃q:cv×Vl,bS P p.1 (re p.2 (uM P Good p).1 (uM P Good p).2) q.1 q.2
noncomputable def D3(p:cv×Vl):cv×Vl:=open Classical in if h:Live P Good p then Classical.choose h.2 else p
noncomputable def ig(p:cv×Vl):Nat->cv×Vl
 |0=>p
 |i+1=>D3 P Good (ig p i)
noncomputable def pos(p:cv×Vl):Nat->Nat
 |0=>0
 |i+1=>open Classical in if Live P Good (ig P Good p i)then pos p i+((ig P Good p (i+1)).2.drawn-(uM P Good (ig P Good p i)).2)else pos p i
def OE(p:cv×Vl)(i n:Nat):Prop:=pos P Good p i<=n/\(n<pos P Good p (i+1)\/¬Live P Good (ig P Good p i))
noncomputable def wS(p:cv×Vl)(n:Nat)(q:V9):Nat:=open Classical in
 if h:∃i,OE P Good p i n then(uM P Good (ig P Good p (Classical.choose h))).1 ((uM P Good (ig P Good p (Classical.choose h))).2+(n-pos P Good p (Classical.choose h))) q else 0
end bar
section bar
theorem Fp(k:¬Lone P Good s w)(l:¬DU s):∀d e,bS P s (re w (uM P Good (s,w)).1 (uM P Good (s,w)).2) d e->¬Lone P Good d e:=by(have h:∃a:(Nat->V9->Nat)×Nat,∀d e,bS P s (re w a.1 a.2) d e->¬Lone P Good d e:=by refine TE λj=>k ?_;refine .step l (λT D=>?_) (λT D d e g=>?_);{refine TE λf=>j ⟨(T,D),λd e g=>absurd ⟨d,e,g⟩ f⟩};refine TE λf=>j ⟨(T,D),λm n i=>?_⟩;obtain⟨rfl,rfl⟩:=g.NK i;exact f);unfold uM;grind
theorem yt(h:Live P Good p):bS P p.1 (re p.2 (uM P Good p).1 (uM P Good p).2) (D3 P Good p).1 (D3 P Good p).2:=by unfold D3;grind
theorem xM(h:¬Live P Good p):D3 P Good p=p:=by unfold D3;simp_all
theorem sW(h:Live P Good (ig P Good p i)):pos P Good p (i+1)=pos P Good p i+((ig P Good p (i+1)).2.drawn-(uM P Good (ig P Good p i)).2):=by exact@if_pos _ (Classical.propDecidable _) h _ _ _
theorem yM(h:¬Live P Good (ig P Good p i)):pos P Good p (i+1)=pos P Good p i:=by exact@if_neg _ (Classical.propDecidable _) h _ _ _
theorem EW(h:i<=j):pos P Good p i<=pos P Good p j:=by induction h with|refl=>omega|@step m _ b=>by_cases a:Live P Good (ig P Good p m);{rw[sW a];omega};rw[yM a];omega
theorem CI(h:i<=j)(d:¬Live P Good (ig P Good p i)):ig P Good p j=ig P Good p i/\pos P Good p j=pos P Good p i:=by induction h with|refl=>simp|@step m _ b=>(have a:¬Live P Good (ig P Good p m):=by simp_all);exact⟨(xM a).trans b.1,(yM a).trans b.2⟩
theorem Ha(h:OE P Good p i n)(q:V9):wS P Good p n q=(uM P Good (ig P Good p i)).1 ((uM P Good (ig P Good p i)).2+(n-pos P Good p i)) q:=by(have g:∀{i j:Nat},i<=j->OE P Good p i n->OE P Good p j n->ig P Good p j=ig P Good p i/\pos P Good p j=pos P Good p i:=by intro i j a e f;by_cases d:Live P Good (ig P Good p i);{rcases Nat.eq_or_lt_of_le a with rfl|b;{simp};have:=EW (P:=P) (Good:=Good) (p:=p) (show i+1<=j from b);rcases e.2 with h|h;{have:=f.1;omega};simp_all};exact CI a d);have k:∃i,OE P Good p i n:=⟨i,h⟩;unfold wS;grind
variable(hl:Listed P c gl)
include hl
theorem vE(j:Fit P c gl p.1 p.2)(k:¬Lone P Good p.1 p.2):∀i,Fit P c gl (ig P Good p i).1 (ig P Good p i).2/\¬Lone P Good (ig P Good p i).1 (ig P Good p i).2:=by intro i;induction i with|zero=>exact⟨j,k⟩|succ i b=>show Fit P c gl (D3 P Good (ig P Good p i)).1 (D3 P Good (ig P Good p i)).2/\¬Lone P Good (D3 P Good (ig P Good p i)).1 (D3 P Good (ig P Good p i)).2;by_cases h:Live P Good (ig P Good p i);{have a:=yt h;refine⟨?_,Fp b.2 h.1 _ _ a⟩;rcases(b.1.re _ _).step hl (λe d=>h.1 ⟨e,d⟩)with⟨o,q,f,n⟩|g;{obtain⟨l,m⟩:=f.NK a;simp_all};exact(g.not a).elim};rw[xM h];exact b
theorem Ec(g:Fit P c gl p.1 p.2)(k:¬Lone P Good p.1 p.2)(h:Live P Good (ig P Good p i)):bS P (ig P Good p i).1 (re (ig P Good p i).2 (wS P Good p) (pos P Good p i)) (ig P Good p (i+1)).1 (re (ig P Good p (i+1)).2 (wS P Good p) (pos P Good p (i+1))):=by have l:=yt h;obtain⟨m,n,d⟩:=l.tape hl ((vE hl g k i).1.re _ _) (λe b=>h.1 ⟨e,b⟩);have a:(ig P Good p (i+1))=D3 P Good (ig P Good p i):=rfl;(have:=d (wS P Good p) (pos P Good p i) λj q o=>by have f:OE P Good p i (pos P Good p i+j):=⟨Tx ..,.inl (by rw[sW h,a];have:(re (ig P Good p i).2 (uM P Good (ig P Good p i)).1 (uM P Good (ig P Good p i)).2).drawn=(uM P Good (ig P Good p i)).2:=rfl;omega)⟩;rw[Ha f];show _=(uM P Good (ig P Good p i)).1 ((uM P Good (ig P Good p i)).2+j) q;simp);rw[sW h,a];exact this
theorem Bc(a:Fit P c gl p.1 p.2)(b:¬Lone P Good p.1 p.2):∀i,(∀l,l<i->Live P Good (ig P Good p l))->runN P i (kT p.1 (re p.2 (wS P Good p) 0))=.next (kT (ig P Good p i).1 (re (ig P Good p i).2 (wS P Good p) (pos P Good p i))):=by intro i;induction i with|zero=>intro _;rfl|succ i d=>intro h;rw[runN_add (d λl hl=>h l Ω)];exact yq (Ec hl a b (h i Ω)).PN
theorem pB(o:∀v w T D,Good v w->Good v (re w T D))(W:Fit P c gl s w)(H:∀T,∃n K w' v,runN P n (kT s (re w T 0))=.next (lone K [ed] w')/\K.leaving P w' (.returned v)/\Good v w'):Lone P Good s w:=by refine TE λhn=>?_;have f:Fit P c gl (s,w).1 (s,w).2:=W;have g:¬Lone P Good (s,w).1 (s,w).2:=hn;obtain⟨n,K,w',v,E,⟨C,hd,hk,J,R,h⟩,X⟩:=H (wS P Good (s,w));by_cases z:∀l,l<n->Live P Good (ig P Good (s,w) l);{have:=Bc hl f g n z;rw[show kT (s,w).1 (re (s,w).2 (wS P Good (s,w)) 0)=kT s (re w (wS P Good (s,w)) 0)from rfl,E]at this;obtain⟨a,b⟩:=vE hl f g n;generalize ig P Good (s,w) n=q at this a b;simp only[kT,lone,Stepped.next.injEq,Machine.mk.injEq,Array.mk.injEq,TR,Vp.mk.injEq,and_true]at this;obtain⟨rfl,rfl,A⟩:=this;(have B:DU q.1:=by refine⟨?_,?_⟩;{cases E:q.1.ret with|true=>rfl|false=>rw[E]at C;cases C};cases hq:q.1.st with|nil=>rfl|cons x l=>rw[hq]at A;have:=congrArg List.length A;grind);refine b (.done (v:=v) B R λT D=>?_);(have O:∀e∈(results J q.1.t).events P (re q.2 (wS P Good (s,w)) (pos P Good (s,w) n)) #[],e.loc≠.output:=by obtain⟨ok,r,L,y,-⟩:=a.re (wS P Good (s,w)) (pos P Good (s,w) n);have:=jT J y.t (P:=P) _ _ L;rw[show(results J q.1.t).run P (re q.2 (wS P Good (s,w)) (pos P Good (s,w) n))=_ from h]at this;obtain⟨_,_,r1,_,_,_,l1⟩:=this;exactλe V=>(l1 e V).zc);obtain⟨-,-,M⟩:=wY _ h O;have N:=M T D λj q Z=>absurd Z Ω;rw[Nat.sub_self]at N;exact⟨N,o v (re q.2 (wS P Good (s,w)) (pos P Good (s,w) n)) T D X⟩};(have:∃i,i<n/\¬Live P Good (ig P Good (s,w) i)/\∀l,l<i->Live P Good (ig P Good (s,w) l):=by(have Q:∃i,i<n/\¬Live P Good (ig P Good (s,w) i):=by simp_all);obtain⟨i,hi⟩:=Q;induction i using Nat.strongRecOn with|_ i ih=>grind);obtain⟨i,Y,d,u⟩:=this;have L:=Bc hl f g i u;obtain⟨k,rfl⟩:∃k,n=i+(k+1):=⟨n-i-1,by omega⟩;have y:=runN_add (k:=k+1) L;rw[show kT (s,w).1 (re (s,w).2 (wS P Good (s,w)) 0)=kT s (re w (wS P Good (s,w)) 0)from rfl,E]at y;obtain⟨a,b⟩:=vE hl f g i;by_cases F:DU (ig P Good (s,w) i).1;{exact Cz F y.symm C};rcases(a.re (wS P Good (s,w)) (pos P Good (s,w) i)).step hl (λe I=>F ⟨e,I⟩)with⟨s1,w1,M,N⟩|U;{obtain⟨-,-,S⟩:=M.tape hl (a.re _ _) (λe I=>F ⟨e,I⟩);(have:=S (uM P Good (ig P Good (s,w) i)).1 (uM P Good (ig P Good (s,w) i)).2 λj q _=>by show _=wS P Good (s,w) (pos P Good (s,w) i+j) q;rw[Ha (i:=i) ⟨Tx ..,.inr d⟩,UT]);exact d ⟨F,(s1,_),this⟩};exact Cn U y.symm C
end bar
end
structure Env(own RO:Nat->Prop)(CU:Nat->Nat->Prop)(v v1:Vl):Prop where
 keep:∀k,own k\/RO k->v1.heap[k]?=v.heap[k]?
 cut:∀k n,CU k n->∀(x:Array Vm)(t:Vz)(fr:Nat×Nat),v.heap[k]?=Vg (.cells x t fr)->∃x' fr',v1.heap[k]?=Vg (.cells x' t fr')/\x'.size=x.size/\∀o,o<n->x'[o]?=x[o]?
 grow:v.heap.size<=v1.heap.size
def R1(own RO:Nat->Prop)(CU:Nat->Nat->Prop)(e:V4):Prop:=
 (∃k,(match e.loc with|.cell a=>a.block=k|.obj j=>j=k|_=>False)/\(own k\/(RO k/\e.write=UW))/\e.sync=UW)\/(∃k n o,CU k n/\o<n/\e=⟨.cell ⟨k,o,Vo⟩,UW,UW⟩)\/e.loc=.mark .noRoom\/∃f,e.loc=.mark (.extern f)
def more(own:Nat->Prop)(v v':Vl):Nat->Prop:=λk=>own k\/(v.heap.size<=k/\k<v'.heap.size)
structure k9(own RO:Nat->Prop)(CU:Nat->Nat->Prop)(v v':Vl)(es:Array V4):Prop where
 keep:∀k,k<v.heap.size->¬own k->v'.heap[k]?=v.heap[k]?
 grow:v.heap.size<=v'.heap.size
 os:v'.os=v.os
 out:v'.output=v.output
 tape:v'.tape=v.tape
 evs:∀e∈es,R1 (more own v v') RO CU e
inductive Loc(P:VD)(main:Bool)(RO:Nat->Prop)(CU:Nat->Nat->Prop)(Stop:(Nat->Prop)->Vp->Vl->Prop):(Nat->Prop)->Vp->Vl->Prop
 |stop{own:Nat->Prop}{g:Vp}{v:Vl}:Stop own g v->Loc P main RO CU Stop own g v
 |step{own:Nat->Prop}{g:Vp}{v:Vl}:g.status=.running->(∀v1,Env own RO CU v v1->∃g' v' es,Vu P main g v1=.go g' v' es/\k9 own RO CU v1 v' es)->
  (∀v1 g' v' es,Env own RO CU v v1->Vu P main g v1=.go g' v' es->Loc P main RO CU Stop (more own v1 v') g' v')->Loc P main RO CU Stop own g v
theorem Loc.bind{S S':(Nat->Prop)->Vp->Vl->Prop}{g:Vp}(h:Loc P main RO CU S own g v)(k:∀own g v,S own g v->Loc P main RO CU S' own g v):Loc P main RO CU S' own g v:=by induction h with|stop h=>exact k _ _ _ h|step a h _ b=>exact .step a h b
theorem Env.refl(own RO:Nat->Prop)(CU:Nat->Nat->Prop)(v:Vl):Env own RO CU v v:=⟨λ_ _=>rfl,λ_ _ _ x _ a h=>⟨x,a,h,rfl,λ_ _=>rfl⟩,SR _⟩
theorem Env.trans(h:Env own RO CU v v1)(k:Env own RO CU v1 v2):Env own RO CU v v2:=⟨λi b=>(k.keep i b).trans (h.keep i b),λi n a x t f g=>by obtain⟨j,e,d,q,o⟩:=h.cut i n a x t f g;obtain⟨u,m,l,s,p⟩:=k.cut i n a j t e d;simp_all,S4 h.grow k.grow⟩
structure Reach(c:dw)(r:bu)(own RO:Nat->Prop)(CU:Nat->Nat->Prop)(v:Vl):Prop where
 ym:∀b k,r b=Vg k->own k\/(c.seen b/\(RO k\/CU k (c.DY b)))
 old:∀k,own k\/RO k->k<v.heap.size
theorem cw.env(h:cw c r w v)(z:Reach c r own RO CU v)(f:Env own RO CU v v1):cw c r (Go.ab.re w v1.tape v1.drawn) v1:=⟨h.pW,λb k e=>SU (h.ym b k e) f.grow,h.inj,h.p5,h.hid,λb k e=>by have:=h.blk b k e;rcases z.ym b k e with g|⟨C,g|g⟩;{rw[f.keep k (.inl g)];exact this};{rw[f.keep k (.inr g)];exact this};show p7 c r b w.heap[b]? v1.heap[k]?;revert this;generalize w.heap[b]?=J;generalize j:v.heap[k]?=I;intro this;cases this with|@seen x A t m q s l D y e=>obtain⟨K,p,o,F,E⟩:=f.cut k _ g A m q j;rw[o];refine .seen t m p s l Ω y λi u H a b d=>?_;grind|own n _=>simp_all,rfl,rfl,h.old,h.aJ,h.gY.1,S4 h.gY.2 f.grow⟩
theorem Reach.env(a:Reach c r own RO CU v)(b:Env own RO CU v v1):Reach c r own RO CU v1:=⟨a.ym,λk h=>SU (a.old k h) b.grow⟩
theorem Ext.mine(h:Ext c r w v r' w' v')(m:Reach c r own RO CU v)(u:∀e∈es,qJ c r' e):k9 own RO CU v v' es/\Reach c r' (more own v v') RO CU v':=by have q:=h.size;have D:=h.grow;(have f:∀b k,r' b=Vg k->more own v v' k\/(c.seen b/\(RO k\/CU k (c.DY b))):=λb k e=>by rcases Ty b w.heap.size with g|g;{rw[h.zo b g]at e;rcases m.ym b k e with x|x;{exact .inl (.inl x)};simp_all};have n:=h.rel.pW b k e;have o:=h.rel.ym b k e;rw[h.new b g n]at e;cases e;exact .inl (.inr ⟨by omega,o⟩));refine⟨⟨λk d E=>h.keep k d λb g=>?_,by omega,h.os,h.out,h.tape,λe y=>?_⟩,f,λk d=>?_⟩;{rcases m.ym b k g with x|x;{simp_all};grind};{rcases u e y with⟨b,g,F,l⟩|x;{(have:∃k,(match e.loc with|.cell a=>a.block=k/\(c.seen b->a.off<c.DY b/\a.spot=Vo)|.obj j=>j=k/\¬c.seen b|_=>False)/\r' b=Vg k:=by grind);obtain⟨k,n,o⟩:=this;(have i:(match e.loc with|.cell a=>a.block=k|.obj j=>j=k|_=>False):=by grind);rcases f b k o with x|⟨q,x|x⟩;{exact .inl ⟨k,i,.inl x,l⟩};{refine .inl ⟨k,i,.inr ⟨x,?_⟩,l⟩;simp_all};refine .inr (.inl ?_);obtain⟨p,I,H⟩:=e;cases p with|cell a=>obtain⟨rfl,t⟩:=n;obtain⟨B,C⟩:=t q;obtain⟨z,A,s⟩:=a;grind|obj j=>simp_all|_=>grind};exact .inr (.inr x)};rcases d with(d|d)|d;{have:=m.old k (.inl d);omega};{exact d.2};have:=m.old k (.inr d);omega
structure Left(c:dw)(r:bu)(own RO:Nat->Prop)(v:Vl)(own1:Nat->Prop)(v1:Vl):Prop where
 keep:∀k,own k\/RO k->(∀b,r b=Vg k->c.seen b)->v1.heap[k]?=v.heap[k]?
 mine:∀k,own1 k->own k\/v.heap.size<=k
 more:∀k,own k->own1 k
 grow:v.heap.size<=v1.heap.size
theorem Left.refl(c:dw)(r:bu)(own RO:Nat->Prop)(v:Vl):Left c r own RO v own v:=⟨λ_ _ _=>rfl,λ_ h=>.inl h,λ_ h=>h,SR _⟩
theorem Left.after{own1:Nat->Prop}(n:Reach c r own RO CU v)(m:Env own RO CU v v1)(f:Ext c r w v1 r' w' v')(h:Left c r' (Go.ab.more own v1 v') RO v' own1 v2):Left c r own RO v own1 v2:=by have q:=f.size;have p:=f.grow;have j:=m.grow;(have l:∀b k,k<v1.heap.size->r' b=Vg k->r b=Vg k:=λb k a e=>by rcases Ty b w.heap.size with d|d;{rw[<-f.zo b d];exact e};have i:=f.rel.pW b k e;rw[f.new b d i]at e;grind);refine⟨λk a d=>?_,λk a=>?_,λk a=>h.more k (.inl a),by have:=h.grow;omega⟩;{have g:k<v1.heap.size:=SU (n.old k a) j;rw[h.keep k (a.imp .inl id) λb e=>d b (l b k g e),f.keep k g d,m.keep k a]};rcases h.mine k a with(i|i)|i;{grind};{omega};omega
theorem Lone.loc(hl:Listed P c gl)(h:Lone P Good s w):∀{r:bu}{own:Nat->Prop}{v:Vl}{s':cv},wE P c gl s->(∃T D,cw c r (re w T D) v)->nC c r s s'->(∀g,gl g=Vk->r g=Vg g)->Reach c r own RO CU v->(∀a x u p n v1,r.le a->Good u n->cw c a n v1->ai c a u p->Reach c a x RO CU v1->Left c r own RO v x v1->Loc P main RO CU Stop x (G (caller.finish p) cs) v1)->Loc P main RO CU Stop own (s'.g (caller::cs)) v:=by induction h with|@done s w U u ht H hd=>intro r own v s' hs⟨T,D,Z⟩Y W b K;obtain⟨f,t,k,ret,st⟩:=s;obtain⟨f',t',k',M,st'⟩:=s';obtain⟨e1,J,e2,e3,I⟩:=Y;simp only at e1 J e2 e3 I H;obtain⟨h1,h2⟩:=ht;simp only at h1 h2;subst f' k' M h1 h2;cases I;(have q:∀v1,Env own RO CU v v1->∃p j a,Vu P main ((cv.mk f t' k Vk []).g (caller::cs)) v1=.go (G (caller.finish p) cs) j (seen P f ((results U t').events P v1 #[]))/\Ext c r (re w v1.tape v1.drawn) v1 a (re w v1.tape v1.drawn) j/\ai c a u p/\(∀e∈seen P f ((results U t').events P v1 #[]),qJ c a e):=by intro v1 d;have E:cw c r (re w v1.tape v1.drawn) v1:=Z.env b d;have A:=jT U J (P:=P) _ _ E;rw[(hd v1.tape v1.drawn).1]at A;obtain⟨p,j,a,o,l,y,i⟩:=A;exact⟨p,j,a,aP H o,l,y,λe C=>i e (mem_seen C)⟩);refine .step rfl (λv1 d=>?_) (λv1 g' v' B d C=>?_);{obtain⟨p,j,a,o,l,y,i⟩:=q v1 d;exact⟨_,_,_,o,(l.mine (b.env d) i).1⟩};obtain⟨p,j,a,o,l,y,i⟩:=q v1 d;rw[o]at C;injection C with O Q R;subst O Q R;exact K a _ u p _ j l.le (hd v1.tape v1.drawn).2 l.rel y (l.mine (b.env d) i).2 (Left.after b d l (Left.refl ..))|@step s w X V hall ih=>intro r own v s' hs⟨T,D,Z⟩Y W b K;(have q:∀v1,Env own RO CU v v1->∃z n m j a B,bS P s (re w v1.tape v1.drawn) z n/\wE P c gl z/\Vu P main (s'.g (caller::cs)) v1=.go (m.g (caller::cs)) j B/\Ext c r (re w v1.tape v1.drawn) v1 a n j/\nC c a z m/\(∀e∈B,qJ c a e):=by intro v1 d;have E:cw c r (re w v1.tape v1.drawn) v1:=Z.env b d;rcases sj (main:=main) (bs:=caller::cs) hl W E Y hs (λe e'=>X ⟨e,e'⟩)with⟨z,n,S,o,l,m,j,a,B,y,i,N,F⟩|hb;{exact⟨z,n,m,j,a,B,⟨S,o⟩,l,y,i,N,F⟩};obtain⟨z,n,o⟩:=V v1.tape v1.drawn;exact(hb.not o).elim);refine .step rfl (λv1 d=>?_) (λv1 g' v' B d C=>?_);{obtain⟨z,n,m,j,a,B,o,l,y,i,N,F⟩:=q v1 d;exact⟨_,_,_,y,(i.mine (b.env d) F).1⟩};obtain⟨z,n,m,j,a,es',o,l,y,i,N,F⟩:=q v1 d;rw[y]at C;injection C with O Q R;subst O Q R;refine ih v1.tape v1.drawn z n o l ⟨n.tape,n.drawn,i.rel⟩ N (λg e=>i.le _ _ (W g e)) (i.mine (b.env d) F).2 λr2 L u p w2 v3 c1 c2 c3 c4 c5 c6=>?_;exact K r2 L u p w2 v3 (bu.le_trans i.le c1) c2 c3 c4 c5 (Left.after b d i c6)
def entry(f:VE)(fn:Func)(b:We)(args:Array Vm):cv:=⟨f,args++Array.replicate (fn.ntmps-args.size) Vr,[.code b],UW,[]⟩
theorem tv(p:Listed P c gl){b:We}(a:∀v w T D,Good v w->Good v (re w T D))(d:Fit P c gl (entry f fn b args) w)(m:P.funcs[f]?=Vg fn)(l:fn.body=Vg b)(H:∀T,Calls P f args (re w T 0) R)(k:∀e w',R e w'->∃v,e=.returned v/\Good v w'):Lone P Good (entry f fn b args) w:=by refine pB p a d λT=>?_;obtain⟨e,w',g,h,i,s,j⟩:=H T [ed];obtain⟨v,rfl,o⟩:=k e w' h;obtain⟨n,q⟩:=i;refine⟨n,g,w',v,?_,j,o⟩;rw[<-q];congr 1;rw[gv args m,l];rfl
theorem Loc.call(q:Listed P c gl){b:We}{args':Array Vm}(j:∀v w T D,Good v w->Good v (re w T D))(E:∀e w',R e w'->∃v,e=.returned v/\Good v w')(o:P.funcs[f]?=Vg fn)(p:c.fns f=Vk)(n:fn.body=Vg b)(t:∀g,gl g=Vk->r g=Vg g)(a:aj c r args args')(i:cw c r w v)(s:Reach c r own RO CU v)(H:∀T,Calls P f args (re w T 0) R)(K:∀m d u A B v1,r.le m->Good u B->cw c m B v1->ai c m u A->Reach c m d RO CU v1->Left c r own RO v d v1->Loc P main RO CU Stop d (G (caller.finish A) cs) v1):Loc P main RO CU Stop own (G (Vx.enter P f args' .normal) (caller::cs)) v:=by(have z:wE P c gl (entry f fn b args):=by refine⟨trivial,?_,λx F=>by simp[entry]at F⟩;obtain⟨I,h|⟨h,C⟩⟩:=q.body f fn p o;{simp_all};rw[n]at h;cases h;simp[entry,aU,C]);have y:nC c r (entry f fn b args) (entry f fn b args'):=⟨rfl,by show aj c r (args++_) (args'++_);rw[a.size];exact a.append (.replicate _ fE),rfl,rfl,.nil⟩;have l:=Fit.AZ z i y t;have k:=tv q j l o n H E;have:=k.loc q (main:=main) (RO:=RO) (CU:=CU) (Stop:=Stop) (caller:=caller) (cs:=cs) z ⟨w.tape,w.drawn,i⟩ y t s K;rw[gv args' o,n];exact this
structure fG where
 k:Nat
 low:Nat
 t:Vz
 x:Array Vm
def fG.obj(s:fG):Obj:=.cells s.x (if s.low=0 then s.t else vM) (0,s.x.size)
def cJ(g:Nat)(ws:List fG)(v:Vl):Vl:={v with heap:=Array.replicate g (.cells #[] 0)++(ws.map fG.obj).toArray}
def du(P:VD)(fns:VE->Bool)(ws:List fG):dw:=
 {fns:=fns,seen:=λb=>P.globals.size<=b/\b<P.globals.size+ws.length,DY:=λb=>if b<P.globals.size then 0 else((ws[b-P.globals.size]?).map λs=>s.x.size).getD 0,aJ:=P.globals.size,
   low:=λb=>if b<P.globals.size then 0 else((ws[b-P.globals.size]?).map λs=>s.low).getD 0}
def gC(g:Nat)(ws:List fG):bu:=λb=>if b<g then Vo else(ws[b-g]?).map λs=>s.k
theorem ey{ws:List fG}{k:Nat}(h:gC g ws b=Vg k):∃(i:Nat)(s:fG),b=g+i/\ws[i]?=Vg s/\s.k=k/\i<ws.length:=by unfold gC at h;grind
theorem IY{ws:List fG}{s:fG}(h:ws[i]?=Vg s):gC g ws (g+i)=Vg s.k:=by unfold gC;simp_all
theorem jC(g:Nat)(ws:List fG)(v:Vl):(cJ g ws v).heap.size=g+ws.length:=by simp[cJ]
theorem uG{ws:List fG}{s:fG}(h:ws[i]?=Vg s):(cJ g ws v).heap[g+i]?=Vg s.obj:=by show(Array.replicate g _++_)[g+i]?=_;grind
theorem AV{ws:List fG}(h:b<g):(cJ g ws v).heap[b]?=Vg (.cells #[] 0):=by show(Array.replicate g _++_)[b]?=_;grind
theorem bE{ws:List fG}{o:Nat}{s:fG}{u:Vm}(h:ws[i]?=Vg s)(a:s.x[o]?=Vg u):(cJ g ws v).cell? ⟨g+i,o,Vo⟩=Vg u:=by simp[Vl.cell?,uG h,fG.obj,a]
structure nT(P:VD)(fns:VE->Bool)(ws:List fG)(v:Vl):Prop where
 gY:P.globals.size<=v.heap.size
 bad:P.info? vM=Vo
 at_:∀(i:Nat)(s:fG),ws[i]?=Vg s->∃(x':Array Vm)(t':Vz)(fr:Nat×Nat),v.heap[s.k]?=Vg (.cells x' t' fr)/\s.x.size<=x'.size/\(s.low=0->s.t=t')/\
  ∀(j:Nat)(u u':Vm),s.low<=j->s.x[j]?=Vg u->x'[j]?=Vg u'->ai (du P fns ws) (gC P.globals.size ws) u u'
theorem nT.rel{ws:List fG}(h:nT P fns ws v):cw (du P fns ws) (gC P.globals.size ws) (cJ P.globals.size ws v) v:=by refine⟨λb k e=>?_,λb k e=>?_,λb D k e w=>?_,λb g=>?_,λb g _=>AV g,λb k e=>?_,rfl,rfl,λb g=>?_,λb k e q=>?_,?_⟩;{obtain⟨i,s,rfl,f,y,m⟩:=ey e;rw[jC];omega};{obtain⟨i,s,rfl,f,rfl,m⟩:=ey e;obtain⟨C,t,o,p,-⟩:=h.at_ i s f;grind};{obtain⟨i,s,rfl,f,y,m⟩:=ey e;obtain⟨I,J,rfl,x,z,A⟩:=ey w;exact .inr ⟨⟨Tx _ _,by omega⟩,⟨Tx _ _,by omega⟩⟩};{show(if b<P.globals.size then 0 else _)=0;split;{rfl};rename_i H;(have:ws[b-P.globals.size]?=Vo:=by rw[List.getElem?_eq_none_iff];have:¬(P.globals.size<=b/\b<P.globals.size+ws.length):=g;omega);simp_all};{obtain⟨i,s,rfl,f,rfl,m⟩:=ey e;obtain⟨C,t,o,p,B,E,F⟩:=h.at_ i s f;rw[uG f,p];(have l:(du P fns ws).low (P.globals.size+i)=s.low:=by show(if _<_ then 0 else _)=_;grind);refine .seen _ t o ⟨Tx _ _,by omega⟩ ?_ B ⟨λn=>?_,λn=>?_⟩ λj u K a b d=>?_;{show _<=(if _<_ then 0 else _);grind};{simp_all};{rw[l]at n;rw[if_neg n];exact⟨rfl,Tx _ _⟩};grind};{rw[jC];exact g.2};{obtain⟨i,s,rfl,f,rfl,m⟩:=ey e;have q:P.globals.size+i<P.globals.size:=q;omega};exact⟨by rw[jC];show P.globals.size<=_;omega,h.gY⟩
theorem gB{ws:List fG}{off:Nat}{s:fG}(h:ws[i]?=Vg s)(a:s.low<=off):dr (du P fns ws) (gC P.globals.size ws) ⟨P.globals.size+i,off,Vo⟩ ⟨s.k,off,Vo⟩:=by refine⟨IY h,rfl,rfl,?_⟩;(have b:¬(P.globals.size+i<P.globals.size):=by omega);show(if P.globals.size+i<P.globals.size then 0 else((ws[P.globals.size+i-P.globals.size]?).map λs=>s.low).getD 0)<=off;grind
section
theorem Cj{fr:Vx}(h:wG fr cs)(e:lone fr cs w=kT s' w'):False:=by obtain⟨-,rfl,rfl⟩:=e;rcases h with⟨f,t,k,b,d,h,-⟩|⟨-,h⟩;{simp only[bY,Vx.mk.injEq]at h;have:=h.2.2.2.2.1;cases a:s'.ret<;>rw[a]at this<;>simp[md]at this};simp at h
theorem lQ:∀(n:Nat){fr:Vx}{cs:List Vx}{w:Vl},wG fr cs->∀{s':cv}{w':Vl},runN P n (lone fr cs w)=.next (kT s' w')->False:=by intro n;induction n with|zero=>intro fr cs w h s' w' e;simp only[runN,Stepped.next.injEq]at e;exact Cj h e|succ n i=>intro fr cs w h s' w' e;simp only[runN]at e;rcases uq (P:=P) h w with⟨d,a,f,b,g⟩|⟨o,f,b⟩;{simp_all};simp_all
theorem zE(h:Oy (Vu P Vk (s.g [ed]) w))(e:runN P (n+1) (kT s w)=.next (kT s' w')):False:=by simp only[runN]at e;rcases h with⟨o,a,h⟩|⟨f,t,k,b,i,a,j,h,d,g⟩;{rw[show step P (kT s w)=.ended o a from step_lone_ended h]at e;cases e};rw[gp h]at e;exact lQ n (.inl ⟨f,t,k,b,i,rfl,rfl,d,g⟩) e
theorem zY(m:DU s)(e:runN P (n+1) (kT s w)=.next (kT s' w')):False:=by obtain⟨f,t,k,p,y⟩:=s;obtain⟨d,g⟩:=m;subst d g;have i:wG ed []:=.inr ⟨.inr (.inl rfl),rfl⟩;have a:∀v,ed.finish v=ed:=λv=>rfl;simp only[runN]at e;cases b:P.funcs[f]? with|none=>rw[gp ((bI b).trans (by rw[a]))]at e;exact lQ n i e|some l=>cases j:(results l t).run P w with|halt h q=>obtain⟨o,r,h⟩:=cZ b j;rw[show step P (kT ⟨f,t,k,Vk,[]⟩ w)=.ended o r from step_lone_ended h]at e;cases e|ok u q=>rw[gp ((aP b j).trans (by rw[a]))]at e;exact lQ n i e
theorem Ku(h:kT s w=kT s' w'):s=s'/\w=w':=by simp only[kT,lone,Machine.mk.injEq,Array.mk.injEq,TR,Vp.mk.injEq]at h;obtain⟨a,b,d⟩:=h;refine⟨E7 ?_,a⟩;simp only[cv.g,G,b,d]
inductive iS(P:VD)(Good:cv->Vl->Prop):cv->Vl->Prop
 |done{s:cv}{w:Vl}:(∀T D,Good s (re w T D))->iS P Good s w
 |step{s:cv}{w:Vl}:¬Good s w->¬DU s->(∀T D,∃s1 w1,bS P s (re w T D) s1 w1)->(∀T D s1 w1,bS P s (re w T D) s1 w1->iS P Good s1 w1)->iS P Good s w
section bar
variable(P)(Good:cv->Vl->Prop)
noncomputable def kA(p:cv×Vl):(Nat->V9->Nat)×Nat:=open Classical in
 if h:∃a:(Nat->V9->Nat)×Nat,∀s1 w1,bS P p.1 (re p.2 a.1 a.2) s1 w1->¬iS P Good s1 w1 then Classical.choose h else(λ_ _=>0,0)
def gW(p:cv×Vl):Prop:=¬DU p.1/\∃q:cv×Vl,bS P p.1 (re p.2 (kA P Good p).1 (kA P Good p).2) q.1 q.2
noncomputable def rO(p:cv×Vl):cv×Vl:=open Classical in if h:gW P Good p then Classical.choose h.2 else p
noncomputable def cR(p:cv×Vl):Nat->cv×Vl
 |0=>p
 |i+1=>rO P Good (cR p i)
noncomputable def ju(p:cv×Vl):Nat->Nat
 |0=>0
 |i+1=>open Classical in if gW P Good (cR P Good p i)then ju p i+((cR P Good p (i+1)).2.drawn-(kA P Good (cR P Good p i)).2)else ju p i
def Cy(p:cv×Vl)(i n:Nat):Prop:=ju P Good p i<=n/\(n<ju P Good p (i+1)\/¬gW P Good (cR P Good p i))
noncomputable def oI(p:cv×Vl)(n:Nat)(q:V9):Nat:=open Classical in
 if h:∃i,Cy P Good p i n then(kA P Good (cR P Good p (Classical.choose h))).1 ((kA P Good (cR P Good p (Classical.choose h))).2+(n-ju P Good p (Classical.choose h))) q else 0
end bar
section bar
variable{Good:cv->Vl->Prop}
theorem CX(f:∀s w T D,Good s w->Good s (re w T D))(l:¬iS P Good s w)(n:¬DU s):∀d e,bS P s (re w (kA P Good (s,w)).1 (kA P Good (s,w)).2) d e->¬iS P Good d e:=by(have h:∃a:(Nat->V9->Nat)×Nat,∀d e,bS P s (re w a.1 a.2) d e->¬iS P Good d e:=by refine TE λk=>l ?_;refine .step (λm=>l (.done λT D=>f _ _ T D m)) n (λT D=>?_) (λT D d e i=>?_);{refine TE λg=>k ⟨(T,D),λd e i=>absurd ⟨d,e,i⟩ g⟩};refine TE λg=>k ⟨(T,D),λo q j=>?_⟩;obtain⟨rfl,rfl⟩:=i.NK j;exact g);unfold kA;grind
theorem uC(h:gW P Good p):bS P p.1 (re p.2 (kA P Good p).1 (kA P Good p).2) (rO P Good p).1 (rO P Good p).2:=by unfold rO;grind
theorem uQ(h:¬gW P Good p):rO P Good p=p:=by unfold rO;simp_all
theorem pZ(h:gW P Good (cR P Good p i)):ju P Good p (i+1)=ju P Good p i+((cR P Good p (i+1)).2.drawn-(kA P Good (cR P Good p i)).2):=by exact@if_pos _ (Classical.propDecidable _) h _ _ _
theorem uE(h:¬gW P Good (cR P Good p i)):ju P Good p (i+1)=ju P Good p i:=by exact@if_neg _ (Classical.propDecidable _) h _ _ _
theorem CW(h:i<=j):ju P Good p i<=ju P Good p j:=by induction h with|refl=>omega|@step m _ b=>by_cases a:gW P Good (cR P Good p m);{rw[pZ a];omega};rw[uE a];omega
theorem Aj(h:i<=j)(d:¬gW P Good (cR P Good p i)):cR P Good p j=cR P Good p i/\ju P Good p j=ju P Good p i:=by induction h with|refl=>simp|@step m _ b=>(have a:¬gW P Good (cR P Good p m):=by simp_all);exact⟨(uQ a).trans b.1,(uE a).trans b.2⟩
theorem A4(h:Cy P Good p i n)(q:V9):oI P Good p n q=(kA P Good (cR P Good p i)).1 ((kA P Good (cR P Good p i)).2+(n-ju P Good p i)) q:=by(have g:∀{i j:Nat},i<=j->Cy P Good p i n->Cy P Good p j n->cR P Good p j=cR P Good p i/\ju P Good p j=ju P Good p i:=by intro i j a e f;by_cases d:gW P Good (cR P Good p i);{rcases Nat.eq_or_lt_of_le a with rfl|b;{simp};have:=CW (P:=P) (Good:=Good) (p:=p) (show i+1<=j from b);rcases e.2 with h|h;{have:=f.1;omega};simp_all};exact Aj a d);have k:∃i,Cy P Good p i n:=⟨i,h⟩;unfold oI;grind
variable(hl:Listed P c gl)(hGood:∀s w T D,Good s w->Good s (re w T D))
include hl hGood
theorem sS(j:Fit P c gl p.1 p.2)(k:¬iS P Good p.1 p.2):∀i,Fit P c gl (cR P Good p i).1 (cR P Good p i).2/\¬iS P Good (cR P Good p i).1 (cR P Good p i).2:=by intro i;induction i with|zero=>exact⟨j,k⟩|succ i b=>show Fit P c gl (rO P Good (cR P Good p i)).1 (rO P Good (cR P Good p i)).2/\¬iS P Good (rO P Good (cR P Good p i)).1 (rO P Good (cR P Good p i)).2;by_cases h:gW P Good (cR P Good p i);{have a:=uC h;refine⟨?_,CX hGood b.2 h.1 _ _ a⟩;rcases(b.1.re _ _).step hl (λe d=>h.1 ⟨e,d⟩)with⟨o,q,f,n⟩|g;{obtain⟨l,m⟩:=f.NK a;simp_all};exact(g.not a).elim};rw[uQ h];exact b
theorem C9(g:Fit P c gl p.1 p.2)(k:¬iS P Good p.1 p.2)(h:gW P Good (cR P Good p i)):bS P (cR P Good p i).1 (re (cR P Good p i).2 (oI P Good p) (ju P Good p i)) (cR P Good p (i+1)).1 (re (cR P Good p (i+1)).2 (oI P Good p) (ju P Good p (i+1))):=by have l:=uC h;obtain⟨m,n,d⟩:=l.tape hl ((sS hl hGood g k i).1.re _ _) (λe b=>h.1 ⟨e,b⟩);have a:(cR P Good p (i+1))=rO P Good (cR P Good p i):=rfl;(have:=d (oI P Good p) (ju P Good p i) λj q o=>by have f:Cy P Good p i (ju P Good p i+j):=⟨Tx ..,.inl (by rw[pZ h,a];have:(re (cR P Good p i).2 (kA P Good (cR P Good p i)).1 (kA P Good (cR P Good p i)).2).drawn=(kA P Good (cR P Good p i)).2:=rfl;omega)⟩;rw[A4 f];show _=(kA P Good (cR P Good p i)).1 ((kA P Good (cR P Good p i)).2+j) q;simp);rw[pZ h,a];exact this
theorem y7(a:Fit P c gl p.1 p.2)(b:¬iS P Good p.1 p.2):∀i,(∀l,l<i->gW P Good (cR P Good p l))->runN P i (kT p.1 (re p.2 (oI P Good p) 0))=.next (kT (cR P Good p i).1 (re (cR P Good p i).2 (oI P Good p) (ju P Good p i))):=by intro i;induction i with|zero=>intro _;rfl|succ i d=>intro h;rw[runN_add (d λl hl=>h l Ω)];exact yq (C9 hl hGood a b (h i Ω)).PN
theorem tu(E:Fit P c gl s w)(H:∀T,∃n s' w',runN P n (kT s (re w T 0))=.next (kT s' w')/\Good s' w'):iS P Good s w:=by refine TE λJ=>?_;have d:Fit P c gl (s,w).1 (s,w).2:=E;have f:=J;obtain⟨n,s',w',x,F⟩:=H (oI P Good (s,w));by_cases o:∀l,l<n->gW P Good (cR P Good (s,w) l);{have:=y7 hl hGood d f n o;rw[show kT (s,w).1 (re (s,w).2 (oI P Good (s,w)) 0)=kT s (re w (oI P Good (s,w)) 0)from rfl,x]at this;obtain⟨b,g⟩:=sS hl hGood d f n;obtain⟨y,L⟩:=Ku (Stepped.next.inj this);refine g (.done λT D=>?_);have:=hGood _ _ T D F;simp_all};(have:∃i,i<n/\¬gW P Good (cR P Good (s,w) i)/\∀l,l<i->gW P Good (cR P Good (s,w) l):=by(have v:∃i,i<n/\¬gW P Good (cR P Good (s,w) i):=by simp_all);obtain⟨i,N⟩:=v;induction i using Nat.strongRecOn with|_ i O=>grind);obtain⟨i,I,a,m⟩:=this;have z:=y7 hl hGood d f i m;obtain⟨k,rfl⟩:∃k,n=i+(k+1):=⟨n-i-1,by omega⟩;have u:=runN_add (k:=k+1) z;rw[show kT (s,w).1 (re (s,w).2 (oI P Good (s,w)) 0)=kT s (re w (oI P Good (s,w)) 0)from rfl,x]at u;obtain⟨b,g⟩:=sS hl hGood d f i;by_cases r:DU (cR P Good (s,w) i).1;{exact zY r u.symm};rcases(b.re (oI P Good (s,w)) (ju P Good (s,w) i)).step hl (λe t=>r ⟨e,t⟩)with⟨K,Q,A,M⟩|C;{obtain⟨-,-,B⟩:=A.tape hl (b.re _ _) (λe t=>r ⟨e,t⟩);(have:=B (kA P Good (cR P Good (s,w) i)).1 (kA P Good (cR P Good (s,w) i)).2 λj q _=>by show _=oI P Good (s,w) (ju P Good (s,w) i+j) q;rw[A4 ⟨Tx ..,.inr a⟩,UT]);exact a ⟨r,(K,_),this⟩};exact zE C u.symm
end bar
end
def R0:VR:=.code (.refuse "")
def Et(live:Nat->Bool):VK->Bool
 |.tmp i=>live i
 |_=>Vk
def nN(live:Nat->Bool)(o:Wb):Bool:=o.op.operands.all (Et live)&&(match o.dst with|some d=>live d|none=>Vk)
def mF(live:Nat->Bool)(ops:Array Wb)(o:Wb):Bool:=match o.guard with|none=>Vk|some (j,_)=>(match(ops[j]?).bind (·.dst)with|some d=>live d|none=>Vk)
def rL(live:Nat->Bool)(ops:Array Wb)(i:Nat):Bool:=match ops[i]? with|some o=>nN live o&&mF live ops o|none=>Vk
theorem zg(h:ops.all (λo=>nN live o&&mF live ops o)=Vk)(l:List Nat):l.all (rL live ops)=Vk:=by rw[Tl];intro i _;unfold rL;grind
def fQ(live:Nat->Bool):We->Bool
 |.region _ ops _=>ops.all (λo=>nN live o&&mF live ops o)
 |.seq a b=>fQ live a&&fQ live b
 |.cond x a b=>Et live x&&fQ live a&&fQ live b
 |.block _ a|.loop a|.scope a=>fQ live a
 |.ret=>UW
 |_=>Vk
def cU(live:Nat->Bool):VR->Bool
 |.code a|.inLoop a|.inScope a=>fQ live a
 |.inRegion ops l=>l.all (rL live ops)
 |_=>Vk
structure c9 where
 f:VE
 defers:List Deferred
 kind:CallKind
 roundOf:Option Nat
 l2:Option (Array Wb×List Nat)
 tail:List VR
 live:Nat->Bool
 t0:Array Vm
def c9.ov(d:c9)(t:Array Vm):Array Vm:=t.mapIdx λi v=>if d.live i then v else d.t0.getD i Vr
def c9.bot(d:c9)(t:Array Vm)(k':List VR):Vx:={fn:=d.f,tmps:=d.ov t,todo:=k',defers:=d.defers,mode:=.run,kind:=d.kind,roundOf:=d.roundOf}
inductive Gl(d:c9):List VR->List VR->Prop
 |app{init:List VR}:d.l2=Vo->init.all (cU d.live)=Vk->Gl d (init++[R0]) (init++d.tail)
 |reg{ops:Array Wb}{l1 l2:List Nat}:d.l2=Vg (ops,l2)->l1.all (rL d.live ops)=Vk->Gl d [.inRegion ops l1,R0] (.inRegion ops (l1++l2)::d.tail)
 |fin{ops:Array Wb}{l2:List Nat}:d.l2=Vg (ops,l2)->Gl d [R0] (.inRegion ops l2::d.tail)
def c9.end(d:c9)(k:List VR):Prop:=k=[R0]\/(d.l2.isSome=Vk/\∃ops,k=[.inRegion ops [],R0])
inductive Jr(d:c9):Bool->VE×Array Vm×List VR->Vx->Prop
 |up{f:VE}{t:Array Vm}{k:List VR}:Jr d UW (f,t,k) (bY f t k .run)
 |bot{t:Array Vm}{k k':List VR}:Gl d k k'->Jr d Vk (d.f,t,k) (d.bot t k')
theorem Jy{d:c9}(h:d.live i=Vk):(d.ov t).getD i Vr=t.getD i Vr:=by simp only[c9.ov,SY,Ud];simp_all
theorem NJ{d:c9}(h:d.live i=Vk):(d.ov t)[i]?=t[i]?:=by simp only[c9.ov,Ud];simp_all
theorem NR{d:c9}(h:d.live i=Vk)(v:Vm):(d.ov t).setIfInBounds i v=d.ov (t.setIfInBounds i v):=by apply TS;intro j;simp only[c9.ov,T0,Ud,Ue];grind
theorem BY{d:c9}{m:FrameMode}(x:VK)(h:Et d.live x=Vk):(d.bot t k').eval x=(bY f t k m).eval x:=by cases x with|tmp i=>exact Jy h|_=>rfl
theorem execOp_congr{ev ev':VK->Vm}(f:∀cs b,o.op≠.select cs b)(h:∀x∈o.op.operands,ev x=ev' x):Vv ev o=Vv ev' o:=by have m:∀(l:Array VK),(∀x∈l,ev x=ev' x)->l.map ev=l.map ev':=λl d=>Vn d;(have s:∀(x:Option VK),(∀y∈x,ev y=ev' y)->x.map ev=x.map ev':=λx d=>by cases x with|none=>rfl|some y=>simp_all);(have u:∀(j:Array (Nat×VK)),(∀p∈j,ev p.2=ev' p.2)->(j.map λ(i,x)=>(i,ev x))=(j.map λ(i,x)=>(i,ev' x)):=λj d=>Vn λp g=>by grind);(have v:∀(k:Call)(t:Vz),(∀x∈k.operands,ev x=ev' x)->resolve ev k t=resolve ev' k t:=λk t d=>by obtain⟨a,e,q⟩:=k;have r:e.map ev=e.map ev':=m _ λx n=>d x (by cases a<;>simp[Call.operands,n]);unfold resolve;cases a<;>simp only[r];{rw[d _ (by simp[Call.operands])]};rw[d _ (by simp[Call.operands])]);unfold Vv;revert h f;(cases o.op<;>intro f h<;>simp only[Op.operands]at h<;>first|rfl|(simp only[List.mem_toArray,S0,Tu,or_false,forall_eq,forall_eq_or_imp]at h;simp only[h];done)|(simp only[];rw[u _ (λp g=>h _ (by simp only[List.mem_toArray,S2];exact⟨p,by simpa using g,rfl⟩))];done)|(simp only[];rw[m _ (λx d=>h x (To.2 (.inl d))),m _ (λx d=>h x (To.2 (.inr d)))];done)|(simp only[];rw[s _ (λx d=>h x (by simpa using d))];done)|(simp only[];rw[v _ _ h];done)|(exact absurd rfl (f _ _))|skip);simp_all
section
variable{d:c9}{b:Bool}{cs0:List Vx}{g1:Vp}{x:VR}
theorem Gl.cons(h:Gl d (x::kr) k')(j:x≠R0):(∃init,d.l2=Vo/\kr=init++[R0]/\k'=x::(init++d.tail)/\cU d.live x=Vk/\init.all (cU d.live)=Vk)\/(∃ops i l,d.l2=Vg (ops,l)/\x=.inRegion ops i/\kr=[R0]/\k'=.inRegion ops (i++l)::d.tail/\i.all (rL d.live ops)=Vk):=by generalize a:x::kr=k at h;cases h with|@app init g e=>(cases init with|nil=>simp at a;exact absurd a.1 j|cons y init=>obtain⟨rfl,rfl⟩:=a;simp only[Tj,SV]at e;exact .inl ⟨init,g,rfl,rfl,e.1,e.2⟩)|reg g e=>simp only[TR]at a;exact .inr ⟨_,_,_,g,a.1,a.2,rfl,e⟩|fin g=>simp only[TR]at a;exact absurd a.1 j
theorem Gl.yE(h:Gl d (x::kr) k')(e:x≠R0)(a:∀ops l,x≠.inRegion ops l):∃init,d.l2=Vo/\kr=init++[R0]/\k'=x::(init++d.tail)/\cU d.live x=Vk/\init.all (cU d.live)=Vk:=by rcases h.cons e with h|⟨ops,g,_,_,h,_⟩;{exact h};exact absurd h (a _ _)
theorem Gl.mk'{init:List VR}(pre:List VR)(a:d.l2=Vo)(e:init.all (cU d.live)=Vk)(g:pre.all (cU d.live)=Vk):Gl d (pre++(init++[R0])) (pre++(init++d.tail)):=by rw[<-Uf,<-Uf];exact .app a (by simp[g,e])
theorem lT{tail:List VR}{p:VR->Bool}:∀{init k1:List VR},init.all p=Vk->exitTo id (init++[R0])=Vg k1->∃g,k1=g++[R0]/\g.all p=Vk/\exitTo id (init++tail)=Vg (g++tail)|[],_,_,h=>by simp[exitTo,R0]at h|x::l,k1,j,h=>by simp only[Tj,SV]at j;rw[Uv]at h;unfold exitTo at h;split at h;{rename_i s u e;cases e;split at h;{rename_i i;cases h;exact⟨l,rfl,j.2,by simp[exitTo,i]⟩};rename_i i;obtain⟨r,m,n,o⟩:=lT (tail:=tail) j.2 h;exact⟨r,m,n,by simp[exitTo,i,o]⟩};{rename_i y u q e;cases e;obtain⟨r,m,n,o⟩:=lT (tail:=tail) j.2 h;refine⟨r,m,n,?_⟩;rw[Uv];unfold exitTo;split;{rename_i e;cases e;exact absurd rfl (q _)};{rename_i e;cases e;exact o};rename_i e;cases e};rename_i e;cases e
def After(P:VD)(main:Bool)(d:c9)(b:Bool)(f:VE)(t:Array Vm)(k:List VR)(F:Vx)(cs0:List Vx)(v v':Vl)(g1:Vp)(es:Array V4):Prop:=
 (∃t1 k1 F1,g1=G (bY f t1 k1 .run) cs0/\Jr d b (f,t1,k1) F1/\∀cs,Vu P main (G F cs) v=.go (G F1 cs) v' es)\/
 (∃j t1 k1,g1=G (bY j t1 k1 .run) (bY f t k .run::cs0)/\∀cs,Vu P main (G F cs) v=.go (G (bY j t1 k1 .run) (F::cs)) v' es)\/
 (b=UW/\∃k1,g1=G (bY f t k1 .returning) cs0/\∀cs,Vu P main (G F cs) v=.go (G (bY f t k1 .returning) cs) v' es)
theorem After.ctl(e:Vu P main (G (bY f t k .run) cs0) v=.go g1 v' es)(o:Jr d b (f,t,k) F)(L:∀cs,Vu P main (G (bY f t k .run) cs) v=.go (G (bY f t k1 .run) cs) v #[])(g:b=Vk->∀k',Gl d k k'->∃a,Gl d k1 a/\∀cs,Vu P main (G (d.bot t k') cs) v=.go (G (d.bot t a) cs) v #[]):After P main d b f t k F cs0 v v' g1 es:=by rw[L]at e;injection e with i j l;subst i j l;cases o with|up=>exact .inl ⟨t,k1,_,rfl,.up,L⟩|bot h=>obtain⟨a,m,n⟩:=g rfl _ h;exact .inl ⟨t,k1,_,rfl,.bot m,n⟩
theorem After.ret(a:Vu P main (G (bY f t k .run) cs0) v=.go g1 v' es)(j:Jr d b (f,t,k) F)(L:∀cs,Vu P main (G (bY f t k .run) cs) v=.go (G (bY f t k1 .returning) cs) v #[])(l:∀k',¬Gl d k k'):After P main d b f t k F cs0 v v' g1 es:=by rw[L]at a;injection a with e g i;subst e g i;cases j with|up=>exact .inr (.inr ⟨rfl,k1,rfl,L⟩)|bot h=>exact absurd h (l _)
theorem jB(a:(match(ops[i]?).bind (·.dst)with|some j=>d.live j|none=>Vk)=Vk)(u:Vm):(d.bot t (.inRegion ops (i::rest')::kk)).finish u=d.bot (match(ops[i]?).bind (·.dst)with|some j=>t.setIfInBounds j u|none=>t) (.inRegion ops rest'::kk):=by simp only[c9.bot,Vx.finish];cases e:(ops[i]?).bind (·.dst)with|none=>rfl|some j=>rw[e]at a;simp only at a⊢;rw[NR a]
section op
variable{w1:Vl}
abbrev fB(d:c9)(t:Array Vm)(ops:Array Wb)(i:Nat)(rest:List Nat)(kk:List VR):Vx:=d.bot t (.inRegion ops (i::rest)::kk)
theorem we{u:Vm}(q:d.kind≠.early)(p:∀c,o.op≠.defer c)(m:ops[i]?=Vg o)(n:Region.wanted o (VC ops (d.ov t))=Vk)(j:(Vv (fB d t ops i rest kk).eval o).run P w=.ok (.value u) w1):Vu P main (G (fB d t ops i rest kk) cs) w=.go (G ((fB d t ops i rest kk).finish u) cs) w1 (seen P d.f ((Vv (fB d t ops i rest kk).eval o).events P w #[])):=by simp only[c9.bot]at j;(have a:=by simpa using q);cases g:d.roundOf with|none=>simp[G,Vu,Vu.exec,Vu.oper,Vu.apply,Vx.oper?,c9.bot,m,n,g,a];rw[<-g,j];simp[GStep.after]|some l=>simp only[G,Vu,Vu.exec,Vu.oper,Vx.oper?,c9.bot,m,n,S3,Tq,if_true];split;{rename_i e;exact absurd e (p _)};simp[Vu.apply,j,GStep.after,a]
theorem za(q:d.kind≠.early)(p:∀c,o.op≠.defer c)(m:ops[i]?=Vg o)(n:Region.wanted o (VC ops (d.ov t))=Vk)(j:(Vv (fB d t ops i rest kk).eval o).run P w=.ok .skip w1):Vu P main (G (fB d t ops i rest kk) cs) w=.go (G ((fB d t ops i rest kk).finish Vr) cs) w1 (seen P d.f ((Vv (fB d t ops i rest kk).eval o).events P w #[])):=by simp only[c9.bot]at j;(have a:=by simpa using q);cases g:d.roundOf with|none=>simp[G,Vu,Vu.exec,Vu.oper,Vu.apply,Vx.oper?,c9.bot,m,n,g,a];rw[<-g,j];simp[GStep.after]|some l=>simp only[G,Vu,Vu.exec,Vu.oper,Vx.oper?,c9.bot,m,n,S3,Tq,if_true];split;{rename_i e;exact absurd e (p _)};simp[Vu.apply,j,GStep.after,a]
theorem vg{j:VE}(r:d.kind≠.early)(q:∀c,o.op≠.defer c)(n:ops[i]?=Vg o)(p:Region.wanted o (VC ops (d.ov t))=Vk)(m:(Vv (fB d t ops i rest kk).eval o).run P w=.ok (.enter j args) w1):Vu P main (G (fB d t ops i rest kk) cs) w=.go (G (Vx.enter P j args .normal) (fB d t ops i rest kk::cs)) w1 (seen P d.f ((Vv (fB d t ops i rest kk).eval o).events P w #[])):=by simp only[c9.bot]at m;(have a:=by simpa using r);cases g:d.roundOf with|none=>simp[G,Vu,Vu.exec,Vu.oper,Vu.apply,Vx.oper?,c9.bot,n,p,g,a];rw[<-g,m];simp[GStep.after]|some l=>simp only[G,Vu,Vu.exec,Vu.oper,Vx.oper?,c9.bot,n,p,S3,Tq,if_true];split;{rename_i e;exact absurd e (q _)};simp[Vu.apply,m,GStep.after,a]
theorem qN(h:((ops[i]?).map (Region.wanted · (VC ops (d.ov t)))).getD UW=UW):Vu P main (G (fB d t ops i rest kk) cs) w=.go (G ((fB d t ops i rest kk).finish Vr) cs) w #[]:=by simp only[G,Vu,Vu.exec,c9.bot,h,Te,if_false]
end op
theorem ua(h:mF d.live ops o=Vk):Region.wanted o (VC ops (d.ov t))=Region.wanted o (VC ops t):=by unfold Region.wanted;unfold mF at h;cases g:o.guard with|none=>rfl|some p=>obtain⟨j,b⟩:=p;rw[g]at h;simp only at h⊢;unfold VC;cases e:(ops[j]?).bind (·.dst)with|none=>rfl|some i=>rw[e]at h;simp only[TG];rw[NJ h]
theorem kP(h:rL live ops i=Vk)(a:ops[i]?=Vg o):nN live o=Vk/\mF live ops o=Vk:=by unfold rL at h;rw[a]at h;simpa using h
theorem GK(h:sF P c gl o=Vk):(∀cs b,o.op≠.select cs b)/\∀k,o.op≠.defer k:=by constructor;{intro a b e;rw[sF,e]at h;simp at h};intro a e;rw[sF,e]at h;simp at h
theorem G'(j:VE)(x:Array Vm):∃e k1,Vx.enter P j x .normal=bY j e k1 .run:=by cases a:P.funcs[j]? with|none=>exact⟨_,_,nP x a⟩|some g=>exact⟨_,_,gv x a⟩
def SQ:Next->Prop
 |.value _|.skip|.enter _ _=>True
 |_=>False
def A1(P:VD)(f:VE)(t:Array Vm)(k:List VR)(v:Vl):Prop:=
 ∀ops i rest kk o,k=.inRegion ops (i::rest)::kk->ops[i]?=Vg o->Region.wanted o (VC ops t)=Vk->∃n w1,(Vv (mX f t ops i rest kk).eval o).run P v=.ok n w1/\SQ n
theorem Jr.step(D:Vu P main (G (bY f t k .run) cs0) v=.go g1 v' es)(Z:k.all (aU P c gl)=Vk)(R:Jr d b (f,t,k) F)(he:d.kind≠.early)(hend:b=Vk->¬d.end k)(hrun:A1 P f t k v)(hp:∀ch,g1.frame.mode≠.panicking ch):After P main d b f t k F cs0 v v' g1 es:=by cases k with|nil=>refine After.ret (k1:=[]) D R (λp=>by simp[G,Vu,Vu.exec,bY]) λk' h=>?_;generalize Z:([]:List VR)=k at h;(cases h with|app _ _=>simp at Z|reg _ _=>simp at Z|fin _=>simp at Z)|cons x kr=>simp only[Tj,SV]at Z;obtain⟨V,hkr⟩:=Z;(have q:∀(Q:List VR),x≠R0->(∀g l,x≠.inRegion g l)->(cU d.live x=Vk->Q.all (cU d.live)=Vk)->(∀(kr:List VR)p,Vu P main (G (bY f t (x::kr) .run) p) v=.go (G (bY f t (Q++kr) .run) p) v #[])->(∀(kr:List VR)p,Vu P main (G (d.bot t (x::kr)) p) v=.go (G (d.bot t (Q++kr)) p) v #[])->After P main d b f t (x::kr) F cs0 v v' g1 es:=by intro Q U O h3 h4 h5;refine After.ctl (k1:=Q++kr) D R (h4 kr) λ_ k' h=>?_;obtain⟨z,A,B,C,I,N⟩:=h.yE U O;subst B C;exact⟨_,.mk' Q A N (h3 I),h5 _⟩);cases x with|code a=>(cases a with|skip=>exact q [] (by simp[R0]) Θ (λ_=>rfl) (λkr p=>by simp[G,Vu,Vu.exec,bY]) (λkr p=>by simp[G,Vu,Vu.exec,c9.bot])|label l=>exact q [] (by simp[R0]) Θ (λ_=>rfl) (λkr p=>by simp[G,Vu,Vu.exec,bY]) (λkr p=>by simp[G,Vu,Vu.exec,c9.bot])|ret=>refine After.ret D R (λp=>nZ) λk' h=>?_;obtain⟨z,_,_,_,h4,_⟩:=h.yE (by simp[R0]) Θ;simp[cU,fQ]at h4|seq a b=>exact q [.code a,.code b] (by simp[R0]) Θ (λh=>by simpa[cU,fQ]using h) (λkr p=>by simp[G,Vu,Vu.exec,bY]) (λkr p=>by simp[G,Vu,Vu.exec,c9.bot])|block id a=>exact q [.code a,.inBlock id] (by simp[R0]) Θ (λh=>by simpa[cU,fQ]using h) (λkr p=>by simp[G,Vu,Vu.exec,bY]) (λkr p=>by simp[G,Vu,Vu.exec,c9.bot])|loop a=>exact q [.code a,.inLoop a] (by simp[R0]) Θ (λh=>by simpa[cU,fQ]using h) (λkr p=>by simp[G,Vu,Vu.exec,bY]) (λkr p=>by simp[G,Vu,Vu.exec,c9.bot])|scope a=>exact q [.code a,.inScope a] (by simp[R0]) Θ (λh=>by simpa[cU,fQ]using h) (λkr p=>lj) (λkr p=>by simp[G,Vu,Vu.exec,c9.bot])|refuse why=>have:∃o w,Vu P main (G (bY f t (.code (.refuse why)::kr) .run) cs0) v=.ended o w #[]:=⟨_,v,by simp[G,Vu,Vu.exec,bY];rfl⟩;obtain⟨o,w,e⟩:=this;rw[e]at D;cases D|exit id=>(cases X:exitTo id kr with|none=>rw[iI X]at D;cases D|some k1=>refine After.ctl (k1:=k1) D R (λp=>by simp[G,Vu,Vu.exec,bY,X]) λ_ k' h=>?_;obtain⟨z,A,B,C,I,N⟩:=h.yE (by simp[R0]) Θ;subst B C;obtain⟨i1,f1,f2,f3⟩:=lT (tail:=d.tail) N X;subst f1;exact⟨_,.app A f2,λp=>by simp[G,Vu,Vu.exec,c9.bot,f3]⟩)|cond y a Y=>(cases hv:(bY f t (.code (.cond y a Y)::kr) .run).eval y with|bool u=>refine After.ctl (k1:=.code (if u then a else Y)::kr) D R (λp=>jQ hv) λ_ k' h=>?_;obtain⟨z,A,B,C,I,N⟩:=h.yE (by simp[R0]) Θ;subst B C;simp only[cU,fQ,SV]at I;refine⟨_,.mk' [.code (if u then a else Y)] A N (by cases u<;>simp[cU,I]),λp=>?_⟩;have:=BY (d:=d) (t:=t) (k:=.code (.cond y a Y)::(z++[R0])) (k':=.code (.cond y a Y)::(z++d.tail)) (f:=f) (m:=.run) y I.1.1;rw[hv]at this;simp only[c9.bot]at this;simp[G,Vu,Vu.exec,c9.bot,this]|_=>obtain⟨o,w2,e⟩:=jv (P:=P) (main:=main) (cs:=cs0) (w:=v) (f:=f) (t:=t) (x:=y) (a:=a) (b:=Y) (k:=kr) (λu e=>by rw[hv]at e;cases e);rw[D]at e;cases e)|region id g draw=>(cases draw with|false=>exact q [.inRegion g (List.range g.size)] (by simp[R0]) Θ (λh=>by simp only[cU,fQ]at h;simp only[Tj,Uw,cU,zg h,TZ]) (λkr p=>by simp[G,Vu,Vu.exec,bY]) (λkr p=>by simp[G,Vu,Vu.exec,c9.bot])|true=>have L:=λp=>jZ (P:=P) (main:=main) (f:=f) (t:=t) (id:=id) (ops:=g) (k:=kr) (cs:=p) (w:=v);rw[L]at D;cases hc:(choose (.order f id)).run P v with|halt h w1=>rw[hc]at D;cases D|ok u w1=>rw[hc]at D;simp only at D;injection D with A B C;subst A B C;cases R with|up=>exact .inl ⟨t,_,_,rfl,.up,λp=>by rw[L,hc]⟩|bot h=>obtain⟨z,A,B,C,I,N⟩:=h.yE (by simp[R0]) Θ;subst B C;refine .inl ⟨t,_,_,rfl,.bot (.mk' [.inRegion g (Region.schedule (P.follows .mixedOrders) g u)] A N (by simp only[cU,fQ]at I;simp only[Tj,Uw,cU,zg I,TZ])),λp=>?_⟩;simp only[G,Vu,Vu.exec,c9.bot,Bool.not_true,Te,if_false,hc];rfl)|rangeFunc _ _ _ _=>simp[aU,codeOk]at V|goto l=>simp[aU,codeOk]at V)|inBlock id=>exact q [] (by simp[R0]) Θ (λ_=>rfl) (λkr p=>by simp[G,Vu,Vu.exec,bY]) (λkr p=>by simp[G,Vu,Vu.exec,c9.bot])|inLoop a=>exact q [.code a,.inLoop a] (by simp[R0]) Θ (λh=>by simpa[cU]using h) (λkr p=>by simp[G,Vu,Vu.exec,bY]) (λkr p=>by simp[G,Vu,Vu.exec,c9.bot])|inScope a=>exact q [] (by simp[R0]) Θ (λ_=>rfl) (λkr p=>jy) (λkr p=>by simp[G,Vu,Vu.exec,c9.bot])|inRegion g l=>(cases l with|nil=>refine After.ctl (k1:=kr) D R (λp=>by simp[G,Vu,Vu.exec,bY]) λhb k' h=>?_;rcases h.cons (by simp[R0])with⟨z,A,B,C,I,N⟩|⟨ops',l1,l2,A,B,C,I,N⟩;{subst B C;exact⟨_,.app A N,λp=>by simp[G,Vu,Vu.exec,c9.bot]⟩};exact absurd (by unfold c9.end;rw[A];cases B;exact .inr ⟨rfl,_,by rw[C]⟩) (hend hb)|cons i s=>have hops:(i::s).all (opAt P c gl g)=Vk:=V;(have hB:∀k',b=Vk->Gl d (.inRegion g (i::s)::kr) k'->∃r E,k'=.inRegion g (i::r)::E/\Gl d (.inRegion g s::kr) (.inRegion g r::E)/\rL d.live g i=Vk:=by intro k' _ h;rcases h.cons (by simp[R0])with⟨z,A,B,C,I,N⟩|⟨ops',l1,l2,A,B,C,I,N⟩;{subst B C;simp only[cU,Tj,SV]at I;exact⟨s,_,rfl,.mk' [.inRegion g s] A N (by simp only[Tj,Uw,cU,I.2,TZ]),I.1⟩};cases B;subst C I;simp only[Tj,SV]at N;exact⟨s++l2,_,rfl,.reg A N.2,N.1⟩);cases M:((g[i]?).map (Region.wanted · (VC g t))).getD UW with|false=>have L:=λp=>stepG_unwanted (P:=P) (main:=main) (f:=f) (cs:=p) (k:=kr) (rest:=s) (w:=v) M;rw[L]at D;injection D with A B C;subst A B C;(cases R with|up=>exact .inl ⟨_,_,_,by rw[cE],.up,λp=>by rw[L,cE]⟩|bot h=>obtain⟨r,E,rfl,U,O⟩:=hB _ rfl h;refine .inl ⟨_,_,_,by rw[cE],.bot U,λp=>?_⟩;(have hl:(match(g[i]?).bind (·.dst)with|some j=>d.live j|none=>Vk)=Vk:=by cases K:g[i]? with|none=>rfl|some o=>have:=(kP O K).1;simp only[nN,SV]at this;cases hd:o.dst<;>simp only[TG,hd];rw[hd]at this;exact this.2);exact(qN (by cases K:g[i]? with|none=>rfl|some o=>rw[K]at M;simp only[S3,Tq]at M⊢;rw[ua (kP O K).2];exact M)).trans (congrArg (λF=>GStep.go (G F p) v #[]) (jB hl Vr)))|true=>cases K:g[i]? with|none=>rw[K]at M;simp at M|some o=>rw[K]at M;(have H:Region.wanted o (VC g t)=Vk:=by simpa using M);obtain⟨n,w1,hr,hshp⟩:=hrun g i s kr o rfl K H;have hok:sF P c gl o=Vk:=mT hops K;obtain⟨hsel,S⟩:=GK hok;(have W:∀r E,b=Vk->rL d.live g i=Vk->Vv (fB d t g i r E).eval o=Vv (mX f t g i s kr).eval o/\Region.wanted o (VC g (d.ov t))=Vk/\(match(g[i]?).bind (·.dst)with|some j=>d.live j|none=>Vk)=Vk:=by intro r E _ O;have hl:=(kP O K).1;simp only[nN,SV]at hl;refine⟨execOp_congr hsel λx hxx=>BY x ?_,by rw[ua (kP O K).2];exact H,?_⟩;{have:=hl.1;rw[Uc]at this;exact this x hxx};rw[K];cases hd:o.dst<;>simp only[TG,hd];rw[hd]at hl;exact hl.2);cases n with|value u=>have L:=λp=>iZ (P:=P) (main:=main) (cs:=p) K H hr;rw[L]at D;injection D with A B C;subst A B C;(cases R with|up=>exact .inl ⟨_,_,_,by rw[cE],.up,λp=>by rw[L,cE]⟩|bot h=>obtain⟨r,E,rfl,U,O⟩:=hB _ rfl h;obtain⟨T,a2,a3⟩:=W r E rfl O;refine .inl ⟨_,_,_,by rw[cE],.bot U,λp=>?_⟩;exact((we he S K a2 (by rw[T];exact hr)).trans (by rw[T])).trans (congrArg (λF=>GStep.go (G F p) _ _) (jB a3 u)))|skip=>have L:=λp=>jL (P:=P) (main:=main) (cs:=p) K H hr;rw[L]at D;injection D with A B C;subst A B C;(cases R with|up=>exact .inl ⟨_,_,_,by rw[cE],.up,λp=>by rw[L,cE]⟩|bot h=>obtain⟨r,E,rfl,U,O⟩:=hB _ rfl h;obtain⟨T,a2,a3⟩:=W r E rfl O;refine .inl ⟨_,_,_,by rw[cE],.bot U,λp=>?_⟩;exact((za he S K a2 (by rw[T];exact hr)).trans (by rw[T])).trans (congrArg (λF=>GStep.go (G F p) _ _) (jB a3 Vr)))|enter j args=>have L:=λp=>iY (P:=P) (main:=main) (cs:=p) K H hr;obtain⟨t1,k1,I⟩:=G' (P:=P) j args;rw[L]at D;injection D with A B C;subst A B C;(cases R with|up=>exact .inr (.inl ⟨j,t1,k1,by rw[I],λp=>by rw[L,I]⟩)|bot h=>obtain⟨r,E,rfl,U,O⟩:=hB _ rfl h;obtain⟨T,a2,a3⟩:=W r E rfl O;refine .inr (.inl ⟨j,t1,k1,by rw[I],λp=>?_⟩);rw[vg he S K a2 (by rw[T];exact hr),T,I])|_=>exact hshp.elim)|inRangeFunc _=>simp[aU]at V|endRangeFunc _=>simp[aU]at V|beginRound=>simp[aU]at V|call _ _ _ _=>simp[aU]at V|extern _ _=>simp[aU]at V
end
section
variable{d:c9}
theorem cv.lC(h:s.g cs=s'.g cs):s=s':=by obtain⟨f,t,k,b,p⟩:=s;obtain⟨m,q,o,a,l⟩:=s';simp only[cv.g,G,bY,Vp.mk.injEq,Vx.mk.injEq]at h;obtain⟨⟨e,g,i,-,n,-⟩,j,-⟩:=h;have:=Gk (Vj j);subst e g i this;(have:b=a:=by cases b<;>cases a<;>simp_all[md]);rw[this]
theorem Gl.op(h:Gl d (.inRegion ops (i::rest)::kr) k'):∃a f,k'=.inRegion ops (i::a)::f/\Gl d (.inRegion ops rest::kr) (.inRegion ops a::f)/\rL d.live ops i=Vk:=by rcases h.cons (by simp[R0])with⟨l,g,j,k,b,e⟩|⟨m,o,n,g,j,k,b,e⟩;{subst j k;simp only[cU,Tj,SV]at b;exact⟨rest,_,rfl,.mk' [.inRegion ops rest] g e (by simp only[Tj,Uw,cU,b.2,TZ]),b.1⟩};cases j;subst k b;simp only[Tj,SV]at e;exact⟨rest++n,_,rfl,.reg g e.2,e.1⟩
theorem Ez(a:rL d.live ops i=Vk):(match(ops[i]?).bind (·.dst)with|some j=>d.live j|none=>Vk)=Vk:=by cases b:ops[i]? with|none=>rfl|some o=>have:=(kP a b).1;simp only[nN]at this;grind
inductive DG(d:c9)(cs:List Vx):cv->Vp->Prop
 |here{t:Array Vm}{k k':List VR}:Gl d k k'->DG d cs ⟨d.f,t,k,UW,[]⟩ (G (d.bot t k') cs)
 |below{f:VE}{t t0:Array Vm}{k k0 k0':List VR}{ret:Bool}{pre st:List (VE×Array Vm×List VR)}:st=pre++[(d.f,t0,k0)]->Gl d k0 k0'->DG d cs ⟨f,t,k,ret,st⟩ (G (bY f t k (md ret)) (pre.map up++d.bot t0 k0'::cs))
theorem DG.running{g:Vp}(h:DG d cs s g):g.status=.running:=by cases h<;>rfl
theorem DG.step{cs cs0:List Vx}{s s1:cv}{g:Vp}{v v':Vl}{es:Array V4}(h:DG d cs s g)(p:Vu P main (s.g cs0) v=.go (s1.g cs0) v' es)(E:wE P c gl s)(he:d.kind≠.early)(H:s.ret=UW->A1 P s.f s.t s.k v)(R:s.st=[]->¬d.end s.k):∃g1,Vu P main g v=.go g1 v' es/\DG d cs s1 g1:=by(have w:∀ch,(s1.g cs0).frame.mode≠.panicking ch:=λch e=>by simp only[cv.g,G,bY]at e;cases hr:s1.ret<;>rw[hr]at e<;>simp[md]at e);cases h with|@here t k k' D=>rcases Jr.step (d:=d) (b:=Vk) (k:=k) (F:=d.bot t k') p E.items (.bot D) he (λ_=>R rfl) (H rfl) w with⟨O,m,F1,B,U,C⟩|⟨j,O,m,B,C⟩|⟨e,_⟩;{obtain rfl:s1=⟨d.f,O,m,UW,[]⟩:=cv.lC (cs:=cs0) B;cases U with|bot S=>exact⟨_,C cs,.here S⟩};{obtain rfl:s1=⟨j,O,m,UW,[(d.f,t,k)]⟩:=cv.lC (cs:=cs0) B;exact⟨_,C cs,.below (pre:=[]) rfl D⟩};cases e|@below f t A k N k0' Y n st W D=>subst W;cases Y with|false=>rcases Jr.step (d:=d) (b:=UW) (F:=bY f t k .run) p E.items .up he (λe=>by cases e) (H rfl) w with⟨O,m,F1,B,U,C⟩|⟨j,O,m,B,C⟩|⟨_,m,B,C⟩;{obtain rfl:s1=⟨f,O,m,UW,n++[(d.f,A,N)]⟩:=cv.lC (cs:=cs0) B;cases U with|up=>exact⟨_,C _,.below rfl D⟩};{obtain rfl:s1=⟨j,O,m,UW,(f,t,k)::(n++[(d.f,A,N)])⟩:=cv.lC (cs:=cs0) (B.trans rfl);exact⟨_,C _,.below (pre:=(f,t,k)::n) rfl D⟩};obtain rfl:s1=⟨f,t,m,Vk,n++[(d.f,A,N)]⟩:=cv.lC (cs:=cs0) B;exact⟨_,C _,.below rfl D⟩|true=>cases n with|nil=>obtain⟨-,-,l,i,a,m,e⟩:=E.below (d.f,A,N) Θ;simp only at e;subst e;obtain⟨X,kk',rfl,S,h2⟩:=D.op;have hl:=Ez h2;have L:up (d.f,A,.inRegion l (i::a)::m)=mX d.f A l i a m:=rfl;rw[cv.iT]at p;simp only[Ug,Tp,TJ,Uv,L]at p;(cases q:P.funcs[f]? with|none=>rw[bI q,cE]at p;injection p with I J K;subst J K;obtain rfl:s1=⟨d.f,_,.inRegion l a::m,UW,[]⟩:=cv.lC (cs:=cs0) I.symm;exact⟨_,(bI q).trans (congrArg (λF=>GStep.go (G F cs) _ _) (jB hl _)),.here S⟩|some V=>cases M:(results V t).run P v with|halt z w1=>obtain⟨o,Z,e⟩:=cZ (main:=main) (k:=k) (x:=mX d.f A l i a m) (cs:=cs0) q M;simp_all|ok u Z=>rw[aP q M,cE]at p;injection p with I J K;subst J K;obtain rfl:s1=⟨d.f,_,.inRegion l a::m,UW,[]⟩:=cv.lC (cs:=cs0) I.symm;exact⟨_,(aP q M).trans (congrArg (λF=>GStep.go (G F cs) _ _) (jB hl _)),.here S⟩)|cons y n=>obtain⟨Q,T,ky⟩:=y;obtain⟨-,-,l,i,a,m,e⟩:=E.below (Q,T,ky) Θ;simp only at e;subst e;have L:up (Q,T,.inRegion l (i::a)::m)=mX Q T l i a m:=rfl;rw[cv.iT]at p;simp only[Uv,Tp,L]at p;cases q:P.funcs[f]? with|none=>rw[bI q,cE]at p;injection p with I J K;subst J K;obtain rfl:s1=⟨Q,_,.inRegion l a::m,UW,n++[(d.f,A,N)]⟩:=cv.lC (cs:=cs0) I.symm;exact⟨_,(bI q).trans (by rfl),.below rfl D⟩|some V=>cases M:(results V t).run P v with|halt z w1=>obtain⟨o,Z,e⟩:=cZ (main:=main) (k:=k) (x:=mX Q T l i a m) (cs:=(n++[(d.f,A,N)]).map up++cs0) q M;simp_all|ok u Z=>rw[aP q M,cE]at p;injection p with I J K;subst J K;obtain rfl:s1=⟨Q,_,.inRegion l a::m,UW,n++[(d.f,A,N)]⟩:=cv.lC (cs:=cs0) I.symm;exact⟨_,(aP q M).trans (by rfl),.below rfl D⟩
theorem KT(D:Listed P c gl){w1:Vl}(T:∀g,gl g=Vk->r g=Vg g)(W:cw c r w v)(U:nC c r s s')(V:wE P c gl s)(A:bS P s w s1 w1)(m:s.ret=UW):A1 P s'.f s'.t s'.k v:=by obtain⟨f,t,k,ret,st⟩:=s;obtain⟨S,M,X,L,st'⟩:=s';obtain⟨O,H,Q,R,B⟩:=U;simp only at O H Q R B m;subst S X m;intro a i l I o J E p;subst J;(have h:Region.wanted o (VC a t)=Vk:=by rw[<-funext λj=>lR H a j];exact p);obtain⟨y,-⟩:=V.ry;have F:=mT y E;have b:=sQ D.aJ D.ext F (ev:=(mX f t a i l I).eval) (λx q=>pk H T D.p5 x q) (λ_=>⟨rfl,rfl⟩) w v W;cases q:(Vv (mX f t a i l I).eval o).run P w with|halt z w2=>rw[q]at b;by_cases K:∃u,z=.panic u;{obtain⟨u,rfl⟩:=K;exact(A.qa (lk E h q)).elim};exact(A.gA (l8 E h q b (λu e=>K ⟨u,e⟩))).elim|ok n w2=>rw[q]at b;obtain⟨Y,v1,r1,N,-,Z,-⟩:=b;exact⟨Y,v1,N,by cases Z<;>trivial⟩
def K8(d:c9)(Q:Array Vm->Vl->Prop)(s:cv)(w:Vl):Prop:=s.st=[]/\s.ret=UW/\s.f=d.f/\s.k=[R0]/\Q s.t w
theorem iS.loc(hl:Listed P c gl)(he:d.kind≠.early)(h:iS P (K8 d Q) s w):∀{r:bu}{own:Nat->Prop}{v:Vl}{s':cv}{g:Vp},wE P c gl s->(∃T D,cw c r (re w T D) v)->nC c r s s'->(∀g,gl g=Vk->r g=Vg g)->Reach c r own RO CU v->DG d cs s' g->(∀q p t F k' i v1,r.le q->Q t i->Gl d [R0] k'->cw c q i v1->aj c q t F->Reach c q p RO CU v1->Left c r own RO v p v1->Loc P main RO CU Stop p (G (d.bot F k') cs) v1)->Loc P main RO CU Stop own g v:=by induction h with|@done s w hd=>intro r own v s' g I⟨T,D,hw⟩m S b n K;obtain⟨C,g2,g3,g4,g5⟩:=hd T D;obtain⟨f,t,k,ret,st⟩:=s;obtain⟨f',F,k',u,st'⟩:=s';obtain⟨e1,W,e2,e3,a⟩:=m;simp only at e1 W e2 e3 a C g2 g3 g4 g5;subst f' k' u C g2 g3 g4;cases a;(cases n with|here j=>exact K r own _ _ _ _ v (bu.le_refl r) g5 j hw W b (Left.refl ..)|below e j=>simp at e)|@step s w hng U hex hall ih=>intro r own v s' g I⟨T,D,hw⟩m S b n K;have stuck:∀(f:VE)(t:Array Vm)(w:Vl)(A:cv)(i:Vl),¬bS P ⟨f,t,[R0],UW,[]⟩ w A i:=λf t w A i h=>h.gA ⟨_,w,by rfl⟩;(have o:s.st=[]->s.ret=UW:=λh=>by cases m:s.ret with|false=>rfl|true=>exact absurd ⟨m,h⟩ U);by_cases J:s.st=[]/\d.l2.isSome=Vk/\∃B,s.k=[.inRegion B [],R0];{obtain⟨N,h2,B,h3⟩:=J;have h0:=o N;obtain⟨f,t,k,ret,st⟩:=s;obtain⟨f',F,k',u,st'⟩:=s';obtain⟨e1,W,e2,e3,a⟩:=m;simp only at e1 W e2 e3 a N h3 h0;subst f' k' u N h3 h0;cases a;have hls:bS P ⟨f,t,[.inRegion B [],R0],UW,[]⟩ (re w T D) ⟨f,t,[R0],UW,[]⟩ (re w T D):=⟨#[],by rfl⟩;cases n with|@here _ _ k2 j=>(have:Gl d [R0] k2:=by generalize hk:[VR.inRegion B [],R0]=kk at j;cases j with|app hn _=>simp_all|reg hn _=>simp only[TR,VR.inRegion.injEq,and_true]at hk;obtain⟨rfl,rfl⟩:=hk;exact .fin hn|fin _=>simp at hk);exact ih T D _ _ hls (s':=⟨d.f,F,[R0],UW,[]⟩) ⟨I.fn,rfl,I.below⟩ ⟨T,D,by simp_all⟩ ⟨rfl,W,rfl,rfl,.nil⟩ S b (.here this) K|below e j=>simp at e};(have R:s.st=[]->¬d.end s.k:=by intro N h2;rcases h2 with h2|⟨h2,h3⟩;{have h0:=o N;obtain⟨f,t,k,ret,st⟩:=s;simp_all};simp_all);(have Y:∀v1,Env own RO CU v v1->∃A i z v2 q M C,bS P s (re w v1.tape v1.drawn) A i/\wE P c gl A/\Vu P main g v1=.go C v2 M/\DG d cs z C/\Ext c r (re w v1.tape v1.drawn) v1 q i v2/\nC c q A z/\(∀e∈M,qJ c q e):=by intro v1 E;have X:cw c r (re w v1.tape v1.drawn) v1:=hw.env b E;obtain⟨A,i,L⟩:=hex v1.tape v1.drawn;rcases sj (main:=main) (bs:=[]) hl S X m I (λe e'=>U ⟨e,e'⟩)with⟨s2,w2,es1,b1,b2,z,v2,q,M,b3,b4,b5,b6⟩|hb;{obtain⟨rfl,rfl⟩:=bS.NK L ⟨es1,b1⟩;have hs':wE P c gl s':=⟨trivial,by rw[m.k];exact I.items,by have:=I.below;have a:=m.st;revert this;generalize s.st=l at a;generalize s'.st=l' at a;induction a with|nil=>simp|@cons f t F k l l' _ _ ih=>intro h x hx;rcases S0.1 hx with rfl|hx;{simp_all};exact ih (λy hy=>h y (Tg _ hy)) x hx⟩;obtain⟨C,c1,c2⟩:=n.step b3 hs' he (λV=>KT hl S X m I L (by rw[<-m.ret];exact V)) (λh=>by rw[m.k];refine R ?_;have a:=m.st;rw[h]at a;generalize s.st=l at a;cases a;rfl);grind};exact(hb.not L).elim);refine .step n.running (λv1 E=>?_) (λv1 g' v' M E O=>?_);{obtain⟨A,i,z,v2,q,M,C,L,a2,a3,a4,H,a6,a7⟩:=Y v1 E;exact⟨_,_,_,a3,(H.mine (b.env E) a7).1⟩};obtain⟨A,i,z,v2,q,es',C,L,a2,a3,a4,H,a6,a7⟩:=Y v1 E;rw[a3]at O;injection O with b1 b2 b3;subst b1 b2 b3;refine ih v1.tape v1.drawn A i L a2 ⟨i.tape,i.drawn,H.rel⟩ a6 (λg e=>H.le _ _ (S g e)) (H.mine (b.env E) a7).2 a4 λr2 Z t F k' w2 v3 c1 c2 c3 c4 c5 c6 c7=>?_;exact K r2 Z t F k' w2 v3 (bu.le_trans H.le c1) c2 c3 c4 c5 c6 (Left.after b E H c7)
end
section
variable{d:c9}
def lv(live:Nat->Bool)(t:Array Vm):Array Vm:=t.mapIdx λi v=>if live i then v else Vr
theorem OY:d.ov (lv d.live d.t0)=d.t0:=by apply TS;intro i;simp only[c9.ov,lv,Ud,SY];grind
structure Place(P:VD)(c:dw)(gl:Nat->Bool)(r:bu)(w:Vl)(own RO:Nat->Prop)(CU:Nat->Nat->Prop)(v:Vl):Prop where
 jc:Listed P c gl
 R2:∀g,gl g=Vk->r g=Vg g
 rel:cw c r w v
 reach:Reach c r own RO CU v
theorem Loc.piece(e:Place P c gl r w own RO CU v)(C:d.kind≠.early){k0':List VR}(E:k0.all (aU P c gl)=Vk)(l:Gl d k0 k0')(F:aj c r tl (lv d.live d.t0))(B:∀t w T D,Q t w->Q t (re w T D))(H:∀T,∃n f w',runN P n (kT ⟨d.f,tl,k0,UW,[]⟩ (re w T 0))=.next (kT ⟨d.f,f,[R0],UW,[]⟩ w')/\Q f w')(K:∀k a t f k' y v1,r.le k->Q t y->Gl d [R0] k'->cw c k y v1->aj c k t f->Reach c k a RO CU v1->Left c r own RO v a v1->Loc P main RO CU Stop a (G (d.bot f k') cs) v1):Loc P main RO CU Stop own (G {fn:=d.f,tmps:=d.t0,todo:=k0',defers:=d.defers,mode:=.run,kind:=d.kind,roundOf:=d.roundOf} cs) v:=by have o:wE P c gl ⟨d.f,tl,k0,UW,[]⟩:=⟨trivial,E,λx I=>by simp at I⟩;have m:nC c r ⟨d.f,tl,k0,UW,[]⟩ ⟨d.f,lv d.live d.t0,k0,UW,[]⟩:=⟨rfl,F,rfl,rfl,.nil⟩;have g:=Fit.AZ o e.rel m e.R2;(have b:iS P (K8 d Q) ⟨d.f,tl,k0,UW,[]⟩ w:=by refine tu e.jc (λs w T D h=>⟨h.1,h.2.1,h.2.2.1,h.2.2.2.1,B _ _ T D h.2.2.2.2⟩) g λT=>?_;obtain⟨n,f,w',z,A⟩:=H T;exact⟨n,_,w',z,rfl,rfl,rfl,rfl,A⟩);have:=b.loc e.jc (main:=main) (RO:=RO) (CU:=CU) (Stop:=Stop) (cs:=cs) C o ⟨w.tape,w.drawn,e.rel⟩ m e.R2 e.reach (.here l) K;rw[c9.bot,OY]at this;exact this
theorem Dd(h:cd.wp P (λe a w=>e=.normal/\a.defers=[]/\Q a.tmps w) ⟨t,[]⟩ w):∃n b w',runN P n (kT ⟨f,t,[.code cd,R0],UW,[]⟩ w)=.next (kT ⟨f,b,[R0],UW,[]⟩ w')/\Q b w':=by obtain⟨e,j,w',⟨rfl,g,i⟩,n,k⟩:=h (base f) [R0] [ed];obtain⟨b,l⟩:=j;simp only at g i;subst g;exact⟨n,b,w',k,i⟩
theorem Loc.code(N:Place P c gl r w own RO CU v)(g:Nat->Bool)(o:F.todo=.code cd::tail)(s:F.mode=.run)(p:F.kind≠.early)(q:codeOk P c gl cd=Vk)(m:fQ g cd=Vk)(u:aj c r tl (lv g F.tmps))(M:∀t w T D,Q t w->Q t (re w T D))(H:∀T,cd.wp P (λe a w=>e=.normal/\a.defers=[]/\Q a.tmps w) ⟨tl,[]⟩ (re w T 0))(K:∀j b t k l v1,r.le j->Q t l->cw c j l v1->aj c j t k->Reach c j b RO CU v1->Left c r own RO v b v1->Loc P main RO CU Stop b (G {F with tmps:=k.mapIdx λi x=>if g i then x else F.tmps.getD i Vr,todo:=tail} cs) v1):Loc P main RO CU Stop own (G F cs) v:=by obtain⟨f,U,W,L,md,R,S⟩:=F;simp only at o s p u H K;subst o s;refine Loc.piece (d:=⟨f,L,R,S,Vo,tail,g,U⟩) N p (k0:=[.code cd,R0]) (by simp[aU,q,R0,codeOk]) (.app (init:=[.code cd]) rfl (by simp[cU,m])) u M (λT=>Dd (H T)) λj b t k O l v1 A B n C E I J=>?_;(have:O=tail:=by generalize q:[R0]=V at n;cases n with|@app y _ _=>simp_all|reg h _=>cases h|fin h=>cases h);subst this;exact K j b t k l v1 A B C E I J
end
end Go.ab
namespace Go.Mx
variable{i N:Nat}
structure Wd where
 L:Bool
 W:Bool
 S:Bool
 n:Nat
 deriving DecidableEq
def Wd.enc(w:Wd):Nat:=w.L.toNat+2*w.W.toNat+4*w.S.toNat+8*w.n
def Wd.zero:Wd:=⟨UW,UW,UW,0⟩
theorem Wd.wy{w v:Wd}(h:w.enc=v.enc):w=v:=by obtain⟨a,b,c,n⟩:=w;obtain⟨d,e,f,g⟩:=v;cases a<;>cases b<;>cases c<;>cases d<;>cases e<;>cases f<;>simp[Wd.enc]at h⊢<;>omega
inductive Th
 |out|c0
 |ld(aw st:Bool)
 |cs(old:Wd)
 |ca(old:Wd)(aw st:Bool)
 |sq|t2
 |a1(old:Wd)(st:Bool)
 |hold|u0
 |uc(old:Wd)
 |ux|us
def nw(o:Wd)(aw st:Bool):Wd:=⟨!o.S||o.L,!aw&&o.W,o.S||(st&&o.L),if o.L||o.S then o.n+1 else o.n⟩
inductive Mv:Th->Wd->Nat->Th->Wd->Nat->Prop
 |start{w:Wd}{m:Nat}:Mv .out w m .c0 w m
 |ME{m:Nat}:Mv .c0 ⟨UW,UW,UW,0⟩ m .hold ⟨Vk,UW,UW,0⟩ m
 |JG{w:Wd}{m:Nat}:w≠⟨UW,UW,UW,0⟩->Mv .c0 w m (.ld UW UW) w m
 |QQ{w:Wd}{m:Nat}{aw st:Bool}:Mv (.ld aw st) w m (.ld aw st) w m
 |Sk{w:Wd}{m:Nat}{st:Bool}:w.L=Vk->w.S=UW->w.W=UW->w.n≠0->Mv (.ld UW st) w m (.cs w) w m
 |Qr{w:Wd}{m:Nat}{aw st:Bool}:Mv (.ld aw st) w m (.ca w aw st) w m
 |N9{w:Wd}{m:Nat}:Mv (.cs w) w m (.ld Vk UW) {w with W:=Vk} m
 |JI{o w:Wd}{m:Nat}:w≠o->Mv (.cs o) w m (.ld UW UW) w m
 |I3{w:Wd}{m:Nat}{aw st:Bool}:w.L=UW->w.S=UW->Mv (.ca w aw st) w m .hold (nw w aw st) m
 |KG{w:Wd}{m:Nat}{aw st:Bool}:(w.L||w.S)=Vk->Mv (.ca w aw st) w m .sq (nw w aw st) m
 |Iz{o w:Wd}{m:Nat}{aw st:Bool}:Mv (.ca o aw st) w m (.ld aw st) w m
 |PM{o w:Wd}{m:Nat}{st:Bool}:o.L=Vk->o.S=UW->o.W=UW->o.n≠0->Mv (.ca o UW st) w m (.cs o) w m
 |JJ{o w:Wd}{m:Nat}{aw st:Bool}:w≠o->Mv (.ca o aw st) w m (.ld aw st) w m
 |take{w:Wd}{m:Nat}:Mv .sq w (m+1) .t2 w m
 |ON{w:Wd}{m:Nat}{st:Bool}:w.S=Vk->Mv .t2 w m (.a1 w st) w m
 |OO{w:Wd}{m:Nat}{st:Bool}:w.S=UW->Mv .t2 w m (.ca w Vk st) w m
 |QO{w:Wd}{m:Nat}{st:Bool}:w.S=UW->Mv .t2 w m (.ld Vk st) w m
 |add{w o:Wd}{m:Nat}{st:Bool}:Mv (.a1 o st) w m .hold ⟨Vk,w.W,st&&o.n !=1,w.n-1⟩ m
 |want{w:Wd}{m:Nat}:Mv .hold w m .u0 w m
 |QC{w:Wd}{m:Nat}:w.S=Vk->Mv .u0 w m .us {w with L:=UW} m
 |Nt{w:Wd}{m:Nat}:w.S=UW->w.n=0\/w.W=Vk->Mv .u0 w m .out {w with L:=UW} m
 |Qu{w:Wd}{m:Nat}:w.S=UW->w.n≠0->w.W=UW->Mv .u0 w m (.uc {w with L:=UW}) {w with L:=UW} m
 |NA{w:Wd}{m:Nat}:Mv (.uc w) w m .us {w with W:=Vk,n:=w.n-1} m
 |Jq{o w:Wd}{m:Nat}:w≠o->Mv (.uc o) w m .ux w m
 |NY{w:Wd}{m:Nat}:w.n=0\/w.L=Vk\/w.W=Vk\/w.S=Vk->Mv .ux w m .out w m
 |Ql{w:Wd}{m:Nat}:w.n≠0->w.L=UW->w.W=UW->w.S=UW->Mv .ux w m (.uc w) w m
 |Ae{w:Wd}{m:Nat}:Mv .us w m .out w (m+1)
def p8:Th->Bool|.hold|.u0=>Vk|_=>UW
def Az:Th->Bool|.us|.t2|.a1 _ _=>Vk|.ld aw _=>aw|.ca _ aw _=>aw|_=>UW
def pQ:Th->Bool|.sq=>Vk|_=>UW
def Hr:Th->Bool|.us=>Vk|_=>UW
def BO:Th->Bool|.t2|.a1 _ _=>Vk|_=>UW
def Hu:Th->Bool|.ld aw _=>aw|.ca _ aw _=>aw|_=>UW
def OJ:Th->Bool|.uc _|.ux=>Vk|_=>UW
def cnt(p:Th->Bool)(f:Nat->Th):Nat->Nat
 |0=>0
 |N+1=>cnt p f N+(p (f N)).toNat
def upd(f:Nat->Th)(i:Nat)(x:Th):Nat->Th:=λj=>if j=i then x else f j
theorem y4{p:Th->Bool}{f g:Nat->Th}:∀{N:Nat},(∀j,j<N->p (f j)=p (g j))->cnt p f N=cnt p g N|0,_=>rfl|N+1,h=>by simp only[cnt];rw[y4 λj b=>h j Ω,h N Ω]
theorem kV(p:Th->Bool)(f:Nat->Th)(x:Th):∀{N:Nat},i<N->cnt p (upd f i x) N+(p (f i)).toNat=cnt p f N+(p x).toNat|N+1,h=>by simp only[cnt];rcases Uh (Ux h)with b|rfl;{have:=kV p f x b;(have e:upd f i x N=f N:=by simp[upd];omega);grind};(have:cnt p (upd f i x) i=cnt p f i:=y4 λj c=>by simp[upd];grind);rw[this];simp[upd];omega
theorem oN{p:Th->Bool}{f:Nat->Th}:∀{N i:Nat},i<N->p (f i)=Vk->1<=cnt p f N|N+1,i,h,c=>by simp only[cnt];rcases Uh (Ux h)with b|rfl;{have:=oN b c;omega};simp_all
theorem n9{p:Th->Bool}{f:Nat->Th}:∀{N i j:Nat},i<j->j<N->p (f i)=Vk->p (f j)=Vk->2<=cnt p f N|N+1,i,j,b,h,c,e=>by simp only[cnt];rcases Uh (Ux h)with d|rfl;{have:=n9 b d c e;omega};have:=oN b c;simp_all
def fN(w:Wd):Th->Prop
 |.ld aw st=>st=Vk->aw=Vk
 |.ca o aw st=>(st=Vk->aw=Vk)/\(aw=Vk->o.W=Vk)
 |.cs o=>o.L=Vk/\o.S=UW/\o.W=UW/\o.n≠0
 |.a1 o _=>w.S=Vk/\w.L=UW/\1<=o.n/\o.n<=w.n
 |.uc o=>o.L=UW/\o.W=UW/\o.S=UW/\o.n≠0
 |_=>True
structure Inv(f:Nat->Th)(N:Nat)(w:Wd)(m:Nat):Prop where
 i1:cnt p8 f N=w.L.toNat
 i2:cnt Az f N+m=(w.W||(w.S&&!w.L)).toNat
 i3:¬(w.W=Vk/\w.S=Vk)
 i4:if w.W then cnt pQ f N=w.n+m+cnt Hr f N else if w.S&&!w.L then cnt pQ f N+cnt BO f N=w.n else cnt pQ f N=w.n
 i5:w.L=UW->w.W=UW->w.S=UW->w.n≠0->1<=cnt OJ f N
 i6:w.S=Vk->w.n≠0
 i8:w.W=UW->cnt Hu f N=0
 loc:∀i,i<N->fN w (f i)
section
theorem uL(f:Nat->Th)(N:Nat):cnt Az f N=cnt Hr f N+cnt BO f N+cnt Hu f N:=by induction N with|zero=>rfl|succ N c=>simp only[cnt];(have:∀t:Th,(Az t).toNat=(Hr t).toNat+(BO t).toNat+(Hu t).toNat:=by intro t;cases t with|ld a b=>cases a<;>rfl|ca o a b=>cases a<;>rfl|_=>rfl);grind
section
variable{f:Nat->Th}{w w':Wd}{m m':Nat}{x:Th}
theorem v7(a:i<N)(c:fN w' x)(h:∀j,j<N->j≠i->fN w' (f j)):∀j,j<N->fN w' (upd f i x j):=by intro j b;unfold upd;grind
theorem Ho{t:Th}(h:fN w t)(j:w.S=Vk->w.L=UW->w'.S=Vk/\w'.L=UW/\w.n<=w'.n):fN w' t:=by cases t with|a1 o l=>obtain⟨d,e,g,k⟩:=h;obtain⟨a,b,c⟩:=j d e;exact⟨a,b,g,by omega⟩|_=>exact h
set_option maxHeartbeats 4000000 in theorem Inv.step(h:Inv f N w m)(c:i<N)(u:Mv (f i) w m x w' m'):Inv (upd f i x) N w' m':=by have g:=kV p8 f x c;have k:=kV Hr f x c;have l:=kV BO f x c;have q:=kV Hu f x c;have r:=kV pQ f x c;have s:=kV OJ f x c;have s1:=uL f N;have s2:=uL (upd f i x) N;have v:=h.loc i c;have d:∀p:Th->Bool,p (f i)=Vk->1<=cnt p f N:=λp Z=>oN c Z;obtain⟨J,K,M,O,P,Q,R,e⟩:=h;have a:fN w' x->(w.S=Vk->w.L=UW->w'.S=Vk/\w'.L=UW/\w.n<=w'.n)->∀j,j<N->fN w' (upd f i x j):=λE F=>v7 c E λj t _=>Ho (e j t) F;have H:fN w' x->(∀j,j<N->j≠i->fN w' (f j))->∀j,j<N->fN w' (upd f i x j):=v7 c;(have b:fN w' x->(2<=cnt BO f N->False)->BO (f i)=Vk->∀j,j<N->fN w' (upd f i x j):=λE F T=>v7 c E λj t I=>by have:=e j t;cases V:f j with|a1 o Y=>refine(F ?_).elim;(have U:BO (f j)=Vk:=by rw[V];rfl);rcases Nat.lt_or_gt_of_ne I with G|G;{exact n9 G c U T};exact n9 G t T U|_=>rw[V]at this;exact this);have z:=d p8;have A:=d Hr;have B:=d BO;have C:=d Hu;clear d;generalize hy:f i=y at u g k l q r s v z A B C b;clear hy;obtain⟨L,W,S,n⟩:=w;cases y with|ld D Y=>cases D<;>cases L<;>cases W<;>cases S<;>cases u<;>(try dsimp only[Bool.or_true,Bool.or_false,Bool.true_or,Bool.false_or]at*)<;>(try contradiction)<;>(try simp only[Te,or_false,false_or]at*)<;>(simp[p8,Hr,BO,Hu,pQ,OJ,nw,fN]at J K M O P Q R g k l q r s v z A B C<;>(refine⟨?_,?_,?_,?_,?_,?_,?_,?_⟩<;>first|(simp[nw]<;>omega)|omega|(refine a ?_ ?_<;>simp[fN,nw]<;>omega)|(refine a ⟨‹_›,‹_›,‹_›,‹_›⟩ ?_;simp;done)|(refine a ⟨‹_›,‹_›,‹_›,‹_›⟩ ?_;simp;omega)|(refine b ?_ (λX=>?_) rfl<;>(try simp[fN,nw])<;>omega)))|ca o D Y=>cases D<;>cases L<;>cases W<;>cases S<;>cases u<;>(try dsimp only[Bool.or_true,Bool.or_false,Bool.true_or,Bool.false_or]at*)<;>(try contradiction)<;>(try simp only[Te,or_false,false_or]at*)<;>(simp[p8,Hr,BO,Hu,pQ,OJ,nw,fN]at J K M O P Q R g k l q r s v z A B C<;>(refine⟨?_,?_,?_,?_,?_,?_,?_,?_⟩<;>first|(simp[nw]<;>omega)|omega|(refine a ?_ ?_<;>simp[fN,nw]<;>omega)|(refine a ⟨‹_›,‹_›,‹_›,‹_›⟩ ?_;simp;done)|(refine a ⟨‹_›,‹_›,‹_›,‹_›⟩ ?_;simp;omega)|(refine b ?_ (λX=>?_) rfl<;>(try simp[fN,nw])<;>omega)))|_=>cases L<;>cases W<;>cases S<;>cases u<;>(try dsimp only[Bool.or_true,Bool.or_false,Bool.true_or,Bool.false_or]at*)<;>(try contradiction)<;>(try simp only[Te,or_false,false_or]at*)<;>(simp[p8,Hr,BO,Hu,pQ,OJ,nw,fN]at J K M O P Q R g k l q r s v z A B C<;>(refine⟨?_,?_,?_,?_,?_,?_,?_,?_⟩<;>first|(simp[nw]<;>omega)|omega|(refine a ?_ ?_<;>simp[fN,nw]<;>omega)|(refine b ?_ (λX=>?_) rfl<;>(try simp[fN,nw])<;>omega)))
end
end
theorem pf{p:Th->Bool}{f:Nat->Th}:∀{N:Nat},(∀i,i<N->p (f i)=UW)->cnt p f N=0|0,_=>rfl|N+1,h=>by simp only[cnt];rw[pf λi b=>h i Ω,h N Ω];rfl
theorem Inv.Jp{f:Nat->Th}{w:Wd}(h:Inv f N w 0)(b:∀i,i<N->f i=.out\/f i=.sq):∀i,i<N->f i=.out:=by(have z:∀p:Th->Bool,p .out=UW->p .sq=UW->cnt p f N=0:=λp l m=>pf λi a=>by grind);obtain⟨c,d,q,g,j,r,s,k⟩:=h;rw[z p8 rfl rfl]at c;rw[z Az rfl rfl]at d;rw[z Hr rfl rfl,z BO rfl rfl]at g;rw[z OJ rfl rfl]at j;obtain⟨L,W,S,n⟩:=w;(have o:cnt pQ f N=0:=by grind);intro i a;rcases b i a with e|e;{exact e};have:=oN (p:=pQ) (f:=f) a (by rw[e];rfl);omega
def wt:Th->Nat
 |.uc _|.ux=>5
 |.us=>4
 |.t2|.a1 _ _=>2
 |.ld aw _|.ca _ aw _=>if aw then 1 else 2
 |.cs _=>2
 |.c0=>2
 |_=>0
end Go.Mx
namespace Go.Rk
variable{α:Type}
inductive Rk(α:Type)where
 |z
 |s(f:α->Rk α)
def Lt{α:Type}(a b:Rk α):Prop:=∃f x,b=.s f/\a=f x
theorem Lt.St:WellFounded (Lt (α:=α)):=by refine⟨λa=>?_⟩;induction a with|z=>exact⟨_,λb⟨f,x,h,_⟩=>by cases h⟩|s g c=>refine⟨_,λb⟨f,x,h,e⟩=>?_⟩;cases h;rw[e];exact c x
abbrev C1{α:Type}:Rk α->Rk α->Prop:=Relation.TransGen Lt
theorem Lt.wf:WellFounded (C1 (α:=α)):=Lt.St.transGen
theorem qE(f:α->Rk α)(x:α):C1 (f x) (.s f):=.single ⟨f,x,rfl,rfl⟩
theorem Ru(f:α->Rk α)(x:α):C1 (f x) (.s λ_=>.s f):=.tail (.single ⟨f,x,rfl,rfl⟩) ⟨_,x,rfl,rfl⟩
def OD{α:Type}(N:Nat)(V' V:Nat->Rk α):Prop:=∃i,i<N/\C1 (V' i) (V i)/\∀j,j≠i->V' j=V j
theorem OD.wf{α:Type}:∀N:Nat,WellFounded (OD (α:=α) N)|0=>⟨λV=>⟨_,λc⟨i,h,_⟩=>absurd h (TK i)⟩⟩|N+1=>by have j:=OD.wf (α:=α) N;(have f:∀d:Rk α,∀V:Nat->Rk α,V N=d->Acc (OD (N+1)) V:=by intro d;induction Lt.wf.apply d with|intro d _ l=>intro V;induction j.apply V with|intro V _ e=>intro g;refine⟨_,λc⟨i,k,b,a⟩=>?_⟩;rcases Uh (Ux k)with h|rfl;{exact e c ⟨i,h,b,a⟩ ((a N Ω).trans g)};exact l (c i) (g▸b) c rfl);exact⟨λV=>f _ V rfl⟩
end Go.Rk
namespace Go.Cr
open Go.Conc Go.Mx Go.Rk
open Go.ConcR(KK WgAt stA smA rd wr mk)
open Go.ConcM(OsLater)
section
structure Cx where
 P:VD
 RO:Nat->Prop
 mu:Nat
 mo:Nat
 pre:Array Vm
 tP:Vz
 mm:Nat
 Ap:Array MapEntry->Prop
 wg:Nat
 tW:Vz
 out:Nat
 tO:Vz
 no:Nat
 oc:Nat->Nat->Prop
 res:Nat->Vm
 base:Nat
 n:Nat
 End:Vp->Vl->Prop
 w0:Vl
 solo:Prop
 halt:(Nat->Prop)->Vp->Vl->Prop
 rN:Int->Int->Obj
variable(C:Cx)
def Cx.muA:V0:=⟨C.mu,C.mo,Vo⟩
def Cx.msA:V0:=⟨C.mu,C.mo+1,Vo⟩
def ay(v:Vl)(s q:Int):Prop:=v.heap[C.mu]?=Vg (.cells (C.pre++#[.int .i32 s,.int .u32 q]) C.tP)
def cI(v:Vl)(w:Wd)(q:Nat):Prop:=ay C v w.enc q
def PX(v:Vl)(es:Array MapEntry):Prop:=∃ck,v.heap[C.mm]?=Vg (.map es ck)
def ar(v:Vl):Prop:=∃es,PX C v es/\C.Ap es
def BG(v:Vl):Prop:=∃cs:Array Vm,v.heap[C.out]?=Vg (.cells cs C.tO)/\cs.size=C.no
structure dh(v:Vl):Prop where
 port:∃s q,ay C v s q
 gq:∃st sm,v.heap[C.wg]?=Vg (C.rN st sm)
 tI:BG C v
structure W0(w:Vl):Prop where
 os:OsLater C.w0.os w.os
 out:w.output=C.w0.output
 tape:w.tape=C.w0.tape
structure Cx.Ok:Prop where
 pre:C.pre.size=C.mo
 lH:C.mu≠C.mm
 fS:C.mu≠C.wg
 fP:C.mu≠C.out
 nj:C.mm≠C.wg
 mh:C.mm≠C.out
 iF:C.wg≠C.out
 ro:∀k,C.RO k->k≠C.mu/\k≠C.mm/\k≠C.wg/\k≠C.out
 oc:∀i j o,C.oc i o->C.oc j o->i=j
 So:∀o,¬C.oc 0 o
structure Env(i:Nat)(own:Nat->Prop)(v v1:Vl):Prop where
 keep:∀k,own k\/C.RO k->v1.heap[k]?=v.heap[k]?
 grow:v.heap.size<=v1.heap.size
 aJ:dh C v->dh C v1
 AH:∀o,C.oc i o->v1.cell? ⟨C.out,o,Vo⟩=v.cell? ⟨C.out,o,Vo⟩
def Cx.CU(k n:Nat):Prop:=k=C.mu/\n<=C.mo
def Cx.wk(i:Nat):Prop:=i≠0\/C.solo
def ql(own:Nat->Prop)(e:V4):Prop:=ab.R1 own C.RO (λ_ _=>False) e\/∃o,o<C.mo/\e=⟨.cell ⟨C.mu,o,Vo⟩,UW,UW⟩
structure k9(own:Nat->Prop)(v v':Vl)(es:Array V4):Prop where
 keep:∀k,k<v.heap.size->¬own k->v'.heap[k]?=v.heap[k]?
 grow:v.heap.size<=v'.heap.size
 os:v'.os=v.os
 out:v'.output=v.output
 tape:v'.tape=v.tape
 evs:∀e∈es,ql C (ab.more own v v') e
structure QJ(i:Nat)(v v':Vl)(es:Array V4):Prop where
 keep:∀k,k≠C.out->v'.heap[k]?=v.heap[k]?
 size:v'.heap.size=v.heap.size
 os:v'.os=v.os
 out:v'.output=v.output
 tape:v'.tape=v.tape
 blk:BG C v->BG C v'
 cells:∀o,¬C.oc i o->v'.cell? ⟨C.out,o,Vo⟩=v.cell? ⟨C.out,o,Vo⟩
 evs:∀e∈es,∃o,C.oc i o/\e=⟨.cell ⟨C.out,o,Vo⟩,Vk,UW⟩
def Fin(i:Nat)(v:Vl):Prop:=∀o,C.oc i o->v.cell? ⟨C.out,o,Vo⟩=Vg (C.res o)
structure DL(w w':Vl)(es:Array V4):Prop where
 heap:w'.heap=w.heap
 tape:w'.tape=w.tape
 out:w'.output=w.output
 os:OsLater w.os w'.os
 evs:es=#[]
structure Md where
 hold:Bool
 deaf:Bool
 tok:Bool
 said:Bool
def Md.free:Md:=⟨UW,UW,UW,UW⟩
def Md.bB:Md:=⟨UW,Vk,UW,UW⟩
def Md.l5:Md:=⟨Vk,Vk,UW,UW⟩
def Md.Ah:Md:=⟨Vk,UW,UW,UW⟩
def Md.own:Md:=⟨Vk,UW,Vk,UW⟩
def Md.xB:Md:=⟨UW,UW,UW,Vk⟩
def Md.uo:Md:=⟨UW,Vk,UW,Vk⟩
def fh(m:Md)(own:Nat->Prop):Nat->Prop:=λk=>own k\/(m.tok=Vk/\k=C.mm)
inductive iN(i:Nat):Md->Mark->Md->Prop
 |OK:iN i .free .disable .bB
 |Ke:iN i .Ah .disable .l5
 |Hw:iN i .xB .disable .uo
 |en:iN i .bB .enable .free
 |Qe:iN i .l5 .enable .Ah
 |acq:iN i .Ah (.acquire C.muA) .own
 |Du:iN i .own (.releaseMerge C.muA) .Ah
 |Cu:i≠0->iN i .free (.releaseMerge (stA C.wg)) .xB
 |sr{m:Md}:i=0->m.tok=UW->iN i m (.read (smA C.wg)) m
section stops
variable(i:Nat)(own:Nat->Prop)
abbrev cK(S:Vp->Vl->Prop)(n:Nat)(g:Vp)(w:Vl):Prop:=Goes C.P (i==0) (Env C i own) DL S n g w
section lock
variable(H:Wd->Bool->Bool->Nat->Vp->Vl->Prop)(Q:Vp->Vl->Prop)
def tw(aw st:Bool)(it:Nat)(g:Vp)(w:Vl):Prop:=
 g.status=.running/\∀wd q,cI C w wd q->(aw=Vk->wd.W=Vk)->∃g',Vu C.P (i==0) g w=.go g' w #[]/\∃n,cK C i own (H wd aw st it) n g' w
def Of(o:Wd)(it:Nat)(g:Vp)(w:Vl):Prop:=
 g.status=.running/\∀wd q,cI C w wd q->
   (wd=o->∃g',Vu C.P (i==0) g w=.go g' (w.setCell C.muA (.int .i32 ({wd with W:=Vk}:Wd).enc)) #[rd C.muA,wr C.muA]/\∃n,cK C i own (tw C i own H Vk UW (it+1)) n g' (w.setCell C.muA (.int .i32 ({wd with W:=Vk}:Wd).enc)))/\
   (wd≠o->∃g',Vu C.P (i==0) g w=.go g' w #[rd C.muA]/\∃n,cK C i own (tw C i own H UW UW (it+1)) n g' w)
def AtA1(o:Wd)(st:Bool)(g:Vp)(w:Vl):Prop:=
 g.status=.running/\∀wd q,cI C w wd q->wd.n<100000000->wd.L=UW->wd.S=Vk->wd.n≠0->
   ∃g',Vu C.P (i==0) g w=.go g' (w.setCell C.muA (.int .i32 (⟨Vk,wd.W,st&&o.n !=1,wd.n-1⟩:Wd).enc)) #[rd C.muA,wr C.muA]/\Q g' (w.setCell C.muA (.int .i32 (⟨Vk,wd.W,st&&o.n !=1,wd.n-1⟩:Wd).enc))
def Jb(g:Vp)(w:Vl):Prop:=
 g.status=.running/\∃st,∀wd q,cI C w wd q->wd.n<100000000->(wd.S=Vk->wd.L=UW/\wd.W=UW/\wd.n≠0)->(wd.S=UW->wd.W=Vk)->∃g',Vu C.P (i==0) g w=.go g' w #[]/\
   (wd.S=Vk->∃n,cK C i own (AtA1 C i Q wd st) n g' w)/\(wd.S=UW->∃n,cK C i own (H wd Vk st 0) n g' w)
def DC(g:Vp)(w:Vl):Prop:=
 g.status=.running/\g.offers=Vo/\(∀wd,cI C w wd 0->Vu C.P (i==0) g w=.go {g with status:=.blocked} w #[])/\
   ∀wd q,cI C w wd (q+1)->∃g',Vu C.P (i==0) g w=.go g' (w.setCell C.msA (.int .u32 (q:Nat))) (semEvents C.msA)/\∃n,cK C i own (Jb C i own H Q) n g' (w.setCell C.msA (.int .u32 (q:Nat)))
def L8(o:Wd)(aw st:Bool)(it:Nat)(g:Vp)(w:Vl):Prop:=
 g.status=.running/\∀wd q,cI C w wd q->
   (wd=o->∃g',Vu C.P (i==0) g w=.go g' (w.setCell C.muA (.int .i32 (nw o aw st).enc)) #[rd C.muA,wr C.muA]/\
    (o.L=UW->o.S=UW->Q g' (w.setCell C.muA (.int .i32 (nw o aw st).enc)))/\((o.L||o.S)=Vk->∃n,cK C i own (DC C i own H Q) n g' (w.setCell C.muA (.int .i32 (nw o aw st).enc))))/\
   (wd≠o->∃g',Vu C.P (i==0) g w=.go g' w #[rd C.muA]/\∃n,cK C i own (tw C i own H aw st it) n g' w)
def gL(o:Wd)(aw st:Bool)(it:Nat)(g:Vp)(w:Vl):Prop:=
 (it<4/\tw C i own H aw st (it+1) g w)\/(it<4/\o.L=Vk/\o.S=UW/\o.W=UW/\o.n≠0/\aw=UW/\Of C i own H o it g w)\/L8 C i own H Q o aw st it g w
def je:Prop:=∀o aw st it g w,it<=4->(aw=Vk->o.W=Vk)->(st=Vk->aw=Vk)->o.n<100000000->H o aw st it g w->∃n,cK C i own (gL C i own H Q o aw st it) n g w
end lock
section unlock
variable(HU:Wd->Vp->Vl->Prop)(Q:Vp->Vl->Prop)
def zK(g:Vp)(w:Vl):Prop:=
 g.status=.running/\mayWake C.P g=Vk/\∀wd q,q<100000000->cI C w wd q->∃g',Vu C.P (i==0) g w=.go g' (w.setCell C.msA (.int .u32 (q+1:Nat))) (semEvents C.msA)/\∃n,cK C i own Q n g' (w.setCell C.msA (.int .u32 (q+1:Nat)))
def Ic(g:Vp)(w:Vl):Prop:=
 g.status=.running/\∀wd q,cI C w wd q->wd.n<100000000->∃g',Vu C.P (i==0) g w=.go g' w #[]/\
   (wd.n=0\/wd.L=Vk\/wd.W=Vk\/wd.S=Vk->∃n,cK C i own Q n g' w)/\(wd.n≠0->wd.L=UW->wd.W=UW->wd.S=UW->∃n,cK C i own (HU wd) n g' w)
def Dy(o:Wd)(g:Vp)(w:Vl):Prop:=
 g.status=.running/\∀wd q,cI C w wd q->
   (wd=o->∃g',Vu C.P (i==0) g w=.go g' (w.setCell C.muA (.int .i32 ({wd with W:=Vk,n:=wd.n-1}:Wd).enc)) #[rd C.muA,wr C.muA]/\∃n,cK C i own (zK C i own Q) n g' (w.setCell C.muA (.int .i32 ({wd with W:=Vk,n:=wd.n-1}:Wd).enc)))/\
   (wd≠o->∃g',Vu C.P (i==0) g w=.go g' w #[rd C.muA]/\∃n,cK C i own (Ic C i own HU Q) n g' w)
def A2:Prop:=∀o g w,o.L=UW->o.W=UW->o.S=UW->o.n≠0->o.n<100000000->HU o g w->∃n,cK C i own (Dy C i own HU Q o) n g w
def Mb(g:Vp)(w:Vl):Prop:=
 g.status=.running/\∀wd q,cI C w wd q->wd.L=Vk->wd.n<100000000->
   ∃g',Vu C.P (i==0) g w=.go g' (w.setCell C.muA (.int .i32 ({wd with L:=UW}:Wd).enc)) #[rd C.muA,wr C.muA]/\
     (wd.S=Vk->∃n,cK C i own (zK C i own Q) n g' (w.setCell C.muA (.int .i32 ({wd with L:=UW}:Wd).enc)))/\
     (wd.S=UW->(wd.n=0\/wd.W=Vk)->∃n,cK C i own Q n g' (w.setCell C.muA (.int .i32 ({wd with L:=UW}:Wd).enc)))/\
     (wd.S=UW->wd.n≠0->wd.W=UW->∃n,cK C i own (Dy C i own HU Q {wd with L:=UW}) n g' (w.setCell C.muA (.int .i32 ({wd with L:=UW}:Wd).enc)))
end unlock
def MS(H:Wd->Bool->Bool->Nat->Vp->Vl->Prop)(Q:Vp->Vl->Prop)(g:Vp)(w:Vl):Prop:=
 g.status=.running/\∀wd q,cI C w wd q->
   (wd=⟨UW,UW,UW,0⟩->∃g',Vu C.P (i==0) g w=.go g' (w.setCell C.muA (.int .i32 1)) #[rd C.muA,wr C.muA]/\Q g' (w.setCell C.muA (.int .i32 1)))/\
   (wd≠⟨UW,UW,UW,0⟩->∃g',Vu C.P (i==0) g w=.go g' w #[rd C.muA]/\∃n,cK C i own (tw C i own H UW UW 0) n g' w)
def AtD4(g:Vp)(w:Vl):Prop:=
 g.status=.running/\mayWake C.P g=Vk/\(WgAt C.tW C.wg w 0 0->∃g',Vu C.P (i==0) g w=.go g' (w.setCell (smA C.wg) (.int .u32 1)) (semEvents (smA C.wg))/\∃q,QuitsD C.P q 1 g')
def AtD3(g:Vp)(w:Vl):Prop:=
 g.status=.running/\(WgAt C.tW C.wg w 1 0->∃g',Vu C.P (i==0) g w=.go g' (w.setCell (stA C.wg) (.int .u64 0)) #[wr (stA C.wg)]/\∃n,cK C i own (AtD4 C i) n g' (w.setCell (stA C.wg) (.int .u64 0)))
def AtD2(g:Vp)(w:Vl):Prop:=
 g.status=.running/\(WgAt C.tW C.wg w 1 0->∃g',Vu C.P (i==0) g w=.go g' w #[rd (stA C.wg)]/\∃n,cK C i own (AtD3 C i own) n g' w)
def AtD1(g:Vp)(w:Vl):Prop:=
 g.status=.running/\∀v wt:Nat,wt<=1->v<100000000->WgAt C.tW C.wg w ((v+1)*KK+wt) 0->
   ∃g',Vu C.P (i==0) g w=.go g' (w.setCell (stA C.wg) (.int .u64 (v*KK+wt))) #[rd (stA C.wg),wr (stA C.wg)]/\
     ((v=0/\wt=1)->∃n,cK C i own (AtD2 C i own) n g' (w.setCell (stA C.wg) (.int .u64 (v*KK+wt))))/\(¬(v=0/\wt=1)->∃q,QuitsD C.P q 1 g')
section wait
variable(A:Vp->Vl->Prop)
def AtAcq(g:Vp)(w:Vl):Prop:=
 g.status=.running/\∃g',Vu C.P (i==0) g w=.go g' w #[mk (.acquire (stA C.wg))]/\(dh C w->(∀j,Fin C j w)->cI C w ⟨UW,UW,UW,0⟩ 0->W0 C w->C.End g' w)
def AtKe(g:Vp)(w:Vl):Prop:=
 g.status=.running/\∃g',Vu C.P (i==0) g w=.go g' w #[mk .enable]/\∃n,cK C i own (AtAcq C i) n g' w
def AtW4(g:Vp)(w:Vl):Prop:=
 g.status=.running/\(WgAt C.tW C.wg w 0 0->∃g',Vu C.P (i==0) g w=.go g' w #[rd (stA C.wg)]/\∃n,cK C i own (AtKe C i own) n g' w)
def AtW3(g:Vp)(w:Vl):Prop:=
 g.status=.running/\g.offers=Vo/\((∃st,WgAt C.tW C.wg w st 0)->Vu C.P (i==0) g w=.go {g with status:=.blocked} w #[])/\
   (WgAt C.tW C.wg w 0 1->∃g',Vu C.P (i==0) g w=.go g' (w.setCell (smA C.wg) (.int .u32 0)) (semEvents (smA C.wg))/\∃n,cK C i own (AtW4 C i own) n g' (w.setCell (smA C.wg) (.int .u32 0)))
def Qp(g:Vp)(w:Vl):Prop:=
 g.status=.running/\∃g',Vu C.P (i==0) g w=.go g' w #[mk (.write (smA C.wg))]/\∃n,cK C i own (AtW3 C i own) n g' w
def AtW2(vs:Nat)(g:Vp)(w:Vl):Prop:=
 g.status=.running/\∀v:Nat,v<100000000->WgAt C.tW C.wg w (v*KK) 0->
   (v=vs->∃g',Vu C.P (i==0) g w=.go g' (w.setCell (stA C.wg) (.int .u64 (v*KK+1))) #[rd (stA C.wg),wr (stA C.wg)]/\∃n,cK C i own (Qp C i own) n g' (w.setCell (stA C.wg) (.int .u64 (v*KK+1))))/\
   (v≠vs->∃g',Vu C.P (i==0) g w=.go g' w #[rd (stA C.wg)]/\∃n,cK C i own A n g' w)
def AtW1(g:Vp)(w:Vl):Prop:=
 g.status=.running/\∀v:Nat,v<100000000->WgAt C.tW C.wg w (v*KK) 0->∃g',Vu C.P (i==0) g w=.go g' w #[rd (stA C.wg)]/\
   (v=0->∃n,cK C i own (AtKe C i own) n g' w)/\(v≠0->∃n,cK C i own (AtW2 C i own A v) n g' w)
def xE:Prop:=∀g w,A g w->∃n,cK C i own (AtW1 C i own A) n g w
end wait
def R9(c:Nat->Vp->Vl->Prop)(g:Vp)(w:Vl):Prop:=
 g.status=.running/\∀v:Nat,v<100000000->WgAt C.tW C.wg w (v*KK) 0->
   ∃g',Vu C.P (i==0) g w=.go g' (w.setCell (stA C.wg) (.int .u64 ((v+1)*KK))) #[rd (stA C.wg),wr (stA C.wg)]/\c v g' (w.setCell (stA C.wg) (.int .u64 ((v+1)*KK)))
end stops
abbrev Ix:=Vp×Vl×Vl
inductive fJ:Nat->Nat->Md->Rk Ix->(Nat->Prop)->Vp->Vl->Prop
 |step{i j:Nat}{m:Md}{f:Ix->Rk Ix}{own:Nat->Prop}{g:Vp}{v:Vl}:g.status=.running->m.said=UW->
  (∀v1,Env C i (fh C m own) v v1->∃g' v' es,Vu C.P (i==0) g v1=.go g' v' es/\k9 C (fh C m own) v1 v' es)->
  (∀v1 g' v' es,Env C i (fh C m own) v v1->Vu C.P (i==0) g v1=.go g' v' es->fJ i j m (f (g',v1,v')) (ab.more own v1 v') g' v')->fJ i j m (.s f) own g v
 |idle{i j:Nat}{m:Md}{f:Ix->Rk Ix}{own:Nat->Prop}{g:Vp}{v:Vl}:g.status=.running->
  (∀v1,Env C i (fh C m own) v v1->∃g' v',Vu C.P (i==0) g v1=.go g' v' #[]/\DL v1 v' #[])->
  (∀v1 g' v' es,Env C i (fh C m own) v v1->Vu C.P (i==0) g v1=.go g' v' es->fJ i j m (f (g',v1,v')) own g' v')->fJ i j m (.s f) own g v
 |mark{i j:Nat}{m m':Md}{k:Mark}{f:Ix->Rk Ix}{own:Nat->Prop}{g:Vp}{v:Vl}:g.status=.running->iN C i m k m'->
  (∀v1,Env C i (fh C m own) v v1->∃g',Vu C.P (i==0) g v1=.go g' v1 #[mk k])->(k=.releaseMerge C.muA->m=.own/\ar C v)->(k=.releaseMerge (stA C.wg)->Fin C i v)->
  (∀v1 g' v' es,Env C i (fh C m own) v v1->(k=.acquire C.muA->ar C v1)->Vu C.P (i==0) g v1=.go g' v' es->fJ i j m' (f (g',v1,v1)) own g' v1)->fJ i j m (.s f) own g v
 |lock{i j:Nat}{f:Ix->Rk Ix}{own:Nat->Prop}{g:Vp}{v:Vl}(H:Wd->Bool->Bool->Nat->Vp->Vl->Prop)(Q:Vp->Vl->Prop):g.status=.running->C.wk i->
  (∀g v1 v2,Q g v1->Env C i own v1 v2->Q g v2)->je C i own H Q->(∀v1,Env C i own v v1->MS C i own H Q g v1)->
  (∀g' v1,Env C i own v v1->Q g' v1->fJ i j .l5 (f (g',v1,v1)) own g' v1)->fJ i j .bB (.s λ_=>.s f) own g v
 |unlock{i j:Nat}{f:Ix->Rk Ix}{own:Nat->Prop}{g:Vp}{v:Vl}(HU:Wd->Vp->Vl->Prop)(Q:Vp->Vl->Prop):g.status=.running->C.wk i->
  (∀g v1 v2,Q g v1->Env C i own v1 v2->Q g v2)->A2 C i own HU Q->(∀v1,Env C i own v v1->Mb C i own HU Q g v1)->
  (∀g' v1,Env C i own v v1->Q g' v1->fJ i j .bB (f (g',v1,v1)) own g' v1)->fJ i j .l5 (.s λ_=>.s f) own g v
 |put{i j:Nat}{f:Ix->Rk Ix}{own:Nat->Prop}{g:Vp}{v:Vl}:g.status=.running->i≠0->
  (∀v1,Env C i own v v1->dh C v1->∃g' v' es,Vu C.P (i==0) g v1=.go g' v' es/\QJ C i v1 v' es)->
  (∀v1 g' v' es,Env C i own v v1->dh C v1->Vu C.P (i==0) g v1=.go g' v' es->fJ i j .free (f (g',v1,v')) own g' v')->fJ i j .free (.s f) own g v
 |done{i j:Nat}{own:Nat->Prop}{g:Vp}{v:Vl}:i≠0->(∀v1,Env C i own v v1->AtD1 C i own g v1)->fJ i j .uo (.s λ_=>.z) own g v
 |add{i x:Nat}{f:Ix->Rk Ix}{own:Nat->Prop}{g:Vp}{v:Vl}(c:Nat->Vp->Vl->Prop):i=0->(∀v1,Env C i own v v1->R9 C i c g v1)->
  (∀v1 y g',Env C i own v v1->c y g' v1->fJ i (2*x+1) .bB (f (g',v1,v1)) own g' v1)->fJ i (2*x) .bB (.s f) own g v
 |spawn{i x:Nat}{f ρ:Ix->Rk Ix}{own ownc:Nat->Prop}{g:Vp}{v:Vl}:i=0->g.status=.running->x<C.n->(∀k,ownc k->own k)->
  (∀v1,Env C i own v v1->∃g' child,Vu C.P (i==0) g v1=.spawn g' child v1 #[]/\child.status=.running)->
  (∀v1 g' child v' es,Env C i own v v1->Vu C.P (i==0) g v1=.spawn g' child v' es->fJ (C.base+x) 0 .free (ρ (child,v1,v1)) ownc child v1)->
  (∀v1 g' child v' es,Env C i own v v1->Vu C.P (i==0) g v1=.spawn g' child v' es->fJ i (2*x+2) .free (f (g',v1,v1)) (λk=>own k/\¬ownc k) g' v1)->
  fJ i (2*x+1) .free (.s f) own g v
 |wait{i:Nat}{own:Nat->Prop}{g:Vp}{v:Vl}(A:Vp->Vl->Prop):i=0->xE C i own A->(∃n,cK C i own A n g v)->fJ i (2*C.n) .bB .z own g v
 |stop{i j:Nat}{own:Nat->Prop}{g:Vp}{v:Vl}:C.solo->g.status=.running->(∀v1,Env C i own v v1->C.halt own g v1)->fJ i j .free .z own g v
end
end Go.Cr
