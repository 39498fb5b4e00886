/- A part of the proof that PortSettled holds for every input. Conditions: none. -/
import Derived.Test.YtobmepfondcekaaGreatDoorZ0
import Derived.Laws.Entries
import Derived.Conc.LockTrace
import Derived.Conc.MuSpec
import Derived.Conc.Beside
set_option linter.all false
open Go renaming Addr->Vs,Code->VD,Event->Vv,Frame->U0,FuncId->Va,Goroutine->UP,Item->Vj,Oper->VB,Operand->Vh,Program->U9,Question->VC,Sem->Vg,TypeId->U8,Value->UO,World->UL,execOp->UZ,stepG->UY,undef->UT,yielded->U7
open Bool renaming false->Ul,true->UJ
open Option renaming none->UM,some->UG
namespace Go.ae
variable{P:U9}{c:dG}{r:bC}{f:Va}{gl:Nat->Bool}{ev ev':Vh->UO}{t:U8}{k:List Vj}{o:VB}{ops:Array VB}{i:Nat}{rest:List Nat}{t':Array UO}
section
variable{α β γ δ:Type}
def b9(c:dG)(gl:Nat->Bool):Vh->Bool
 |.tmp _=>UJ
 |.const v=>jz 100 v
 |.global g=>gl g
 |.func f=>c.fns f
def xz(P:U9)(t:U8):Bool:=match P.underlying t with|some (.slice e)=>jM P e|_=>UJ
def M0(P:U9)(t:U8):Bool:=match P.underlying t with|some (.map k e)=>fy P k&&jM P e|_=>UJ
def MA(P:U9)(t:U8):Bool:=match P.underlying t with|some (.map k _)=>Ay P k|_=>UJ
def Bc(P:U9)(s:U8)(n:Nat):Bool:=match P.underlying s with|some (.struct fs)=>(match fs[n]? with|some f=>P.cellsOf f.type !=0|none=>UJ)|_=>UJ
def By(P:U9)(t:Option U8):Bool:=match t with|some s=>(match P.underlying s with|some (.int _)=>Ul|_=>UJ)|none=>UJ
def NP(P:U9)(t:Option U8):Bool:=match t with|some s=>xz P s|none=>UJ
def isEq:BinOp->Bool
 |.eql|.neq=>UJ
 |_=>Ul
def Hh(P:U9)(t:U8):Bool:=match P.underlying t with|some .string=>UJ|_=>Ul
def A5(P:U9)(c:dG)(gl:Nat->Bool)(k:Call):Bool:=
 k.args.all (b9 c gl)&&match k.callee with
 |.value f=>b9 c gl f
 |.builtin .len|.builtin .max|.builtin .min=>UJ
 |.builtin .append=>NP P k.argTypes[0]?&&By P k.argTypes[1]?
 |_=>Ul
def GC(P:U9):Vh->Bool
 |.global g=>decide (g<P.globals.size)
 |_=>Ul
def pJ(P:U9)(c:dG)(gl:Nat->Bool)(o:VB):Bool:=
 match o.op with
 |.load _ x=>b9 c gl x||GC P x
 |.move x|.assign x|.box _ x|.nilCheck x|.unOp _ _ x|.field _ x _|.extract x _=>b9 c gl x
 |.pick a b d=>b9 c gl a&&b9 c gl b&&b9 c gl d
 |.alloc e=>jM P e
 |.build t ps=>jM P t&&ps.all λp=>b9 c gl p.2
 |.buildSlice t _ ps=>xz P t&&ps.all λp=>b9 c gl p.2
 |.store _ a x|.indexAddr _ a x|.index _ a x=>b9 c gl a&&b9 c gl x
 |.binOp op t x y _=>b9 c gl x&&b9 c gl y&&(!isEq op||fy P t)
 |.convert s d x=>Fv P s d&&b9 c gl x
 |.makeFunc fn first captured=>Fi c fn&&first.all (b9 c gl)&&captured.all (b9 c gl)
 |.makeMap _ UM=>UJ
 |.makeSlice t l k=>xz P t&&b9 c gl l&&b9 c gl k
 |.slice _ x lo hi mx=>b9 c gl x&&lo.all (b9 c gl)&&hi.all (b9 c gl)&&mx.all (b9 c gl)
 |.fieldAddr s x n=>Bc P s n&&b9 c gl x
 |.lookup t x i _=>M0 P t&&b9 c gl x&&b9 c gl i
 |.mapUpdate t m k v=>MA P t&&b9 c gl m&&b9 c gl k&&b9 c gl v
 |.range t x=>Hh P t&&b9 c gl x
 |.next it UJ=>b9 c gl it
 |.call k=>A5 P c gl k
 |_=>Ul
inductive wT(c:dG)(r:bC):Next->Next->Prop
 |value{v v':UO}:aj c r v v'->wT c r (.value v) (.value v')
 |skip:wT c r .skip .skip
 |enter{f:Va}{x x':Array UO}:c.fns f=UJ->ak c r x x'->wT c r (.enter f x) (.enter f x')
def B6(P:U9)(c:dG):Prop:=
 ∀(f:Va)(fn:Func),c.fns f=UJ->P.funcs[f]?=UG fn->(fn.name== "runtime.NumGoroutine")=Ul/\(fn.body=UM->Extern.findNext fn=UM/\∃e,Extern.find fn=UG e/\
   ∀(r:bC)(x x':Array UO),ak c r x x'->ae P c r (e x) (e x') (aj c))
theorem ae.value{x:Vg UO}{y:Vg UO}(h:ae P c r x y (aj c)):ae P c r (do Pure.pure (Next.value (<-x))) (do Pure.pure (Next.value (<-y))) (wT c):=ae.bind h λ_ _ _ _ k=>ae.pure (.value k)
theorem ae.unit{x:Vg Unit}{y:Vg Unit}(h:ae P c r x y λ_ _ _=>True):ae P c r (do x;Pure.pure Next.skip) (do y;Pure.pure Next.skip) (wT c):=ae.bind h λ_ _ _ _ _=>ae.pure .skip
theorem ae.A4(f:Va):ae P c r (mark (.extern f)) (mark (.extern f)) λ_ _ _=>True:=by intro w v b;refine⟨(),v,r,rfl,.refl b,trivial,λe a=>?_⟩;simp at a;subst a;exact .inr (.inr ⟨f,rfl⟩)
theorem vW(l:B6 P c)(i:c.fns f=UJ){x x':Array UO}(h:ak c r x x'):ae P c r (callFunc f x) (callFunc f x') (wT c):=by refine ae.bind (ae.fA bP) λw p u g m=>?_;obtain⟨rfl,rfl⟩:=m;cases a:u.funcs[f]? with|none=>exact ae.stuck|some d=>obtain⟨s,t⟩:=l f d i a;simp only[a,s,SB];cases k:d.body with|some b=>exact ae.pure (.enter i (h.mono g))|none=>obtain⟨n,e,o,q⟩:=t k;simp only[n,o];exact ae.bind (ae.A4 f) λv _ _ j _=>ae.value (q v x x' ((h.mono g).mono j))
theorem wS(a:∀x,b9 c gl x=UJ->aj c r (ev x) (ev' x)){l:Array Vh}(h:l.all (b9 c gl)=UJ):ak c r (l.map ev) (l.map ev'):=ak.map l ev ev' λx b=>a x (by rw[TZ]at h;grind)
theorem vF(a:∀x,b9 c gl x=UJ->aj c r (ev x) (ev' x)){l:Array (Nat×Vh)}(h:(l.all λp=>b9 c gl p.2)=UJ):As c r (l.map λ(i,x)=>(i,ev x)) (l.map λ(i,x)=>(i,ev' x)):=by refine⟨?_,?_⟩;{simp};(have e:∀g:Vh->UO,((l.map λp=>(p.1,g p.2)).toList.map (·.2)).toArray=l.map λp=>g p.2:=by grind);rw[e ev,e ev'];refine ak.map l _ _ λp b=>a p.2 ?_;rw[TZ]at h;grind
theorem wV(a:∀x,b9 c gl x=UJ->aj c r (ev x) (ev' x)):∀{x:Option Vh},x.all (b9 c gl)=UJ->j8 c r (x.map ev) (x.map ev')|none,_=>trivial|some x,h=>a x (by grind)
theorem wj{x x':UO}(o:VB)(y:Vh)(ev ev':Vh->UO)(l:o.op=.nilCheck y)(e:ev y=x)(i:ev' y=x')(h:aj c r x x'):ae P c r (UZ ev o) (UZ ev' o) (wT c):=by unfold UZ;rw[l];simp only[e,i];cases h with|gO=>exact ae.runtimePanic|nilIface=>exact ae.runtimePanic|nilFunc=>exact ae.runtimePanic|bool b=>exact ae.pure (.value (.bool b))|int k n=>exact ae.pure (.value (.int k n))|string s=>exact ae.pure (.value (.string s))|ptr a=>exact ae.pure (.value (.ptr a))|gP n m=>exact ae.pure (.value (.gP n m))|slice n m a=>exact ae.pure (.value (.slice n m a))|dh a f=>exact ae.pure (.value (.dh a f))|l8=>exact ae.pure (.value .l8)|map a=>exact ae.pure (.value (.map a))|@func j z B u A d p q v w=>(cases j with|func g=>exact ae.pure (.value (.func d p q v w))|_=>simp[Fi]at d)|iface t a=>exact ae.pure (.value (.iface t a))|agg a b=>exact ae.pure (.value (.agg a b))|tuple a b=>exact ae.pure (.value (.tuple a b))
theorem mP(h:xz P t=UJ):∀e,P.underlying t=UG (.slice e)->jM P e=UJ:=λe a=>by unfold xz at h;simp_all
theorem EF(h:MA P t=UJ):∀k e,P.underlying t=UG (.map k e)->Ay P k=UJ:=λk e a=>by unfold MA at h;simp_all
theorem Fl(h:M0 P t=UJ):∀k e,P.underlying t=UG (.map k e)->fy P k=UJ/\jM P e=UJ:=λk e a=>by unfold M0 at h;simp_all
theorem uG{n:Nat}(h:Bc P t n=UJ):∀fs f,P.underlying t=UG (.struct fs)->fs[n]?=UG f->P.cellsOf f.type≠0:=λfs f a b=>by unfold Bc at h;simp_all
theorem Hw(N:Fits P c)(K:B6 P c){k:Call}(t:U8)(i:A5 P c gl k=UJ)(B:∀x,b9 c gl x=UJ->aj c r (ev x) (ev' x)):ae P c r (do let d<-resolve ev k t;invoke d.target d.args) (do let d<-resolve ev' k t;invoke d.target d.args) (wT c):=by unfold A5 at i;simp only[Qaa]at i;obtain⟨I,i⟩:=i;have h:=wS B I;obtain⟨l,m,A⟩:=k;unfold resolve;cases l with|invoke x n=>simp at i|value f=>have E:=B f i;simp only[];generalize ev f=q at E;generalize ev' f=O at E;(cases E with|@func J z R u M a b d e g=>(cases J with|func j=>refine ae.bind (Q:=λG x y=>x.target=.fn (.func j) u/\y.target=.fn (.func j) M/\ak c G x.args y.args) (ae.pure ⟨rfl,rfl,(ak.mk b d).append h⟩) λL x y H p=>?_;obtain⟨C,D,v⟩:=p;rw[C,D];exact vW K (by assumption) (v.append ((ak.mk e g).mono H))|_=>simp[Fi]at a)|nilFunc=>exact ae.never (λw=>acz RuntimeError.nilDeref w)|_=>exactλ_ _ _=>rfl)|builtin b=>refine ae.bind (Q:=λG x y=>x.target=.builtin b A t (m.map λ|.const _=>UJ|_=>Ul)/\y.target=.builtin b A t (m.map λ|.const _=>UJ|_=>Ul)/\ak c G x.args y.args) (ae.pure ⟨rfl,rfl,h⟩) λL x y H p=>?_;obtain⟨C,D,v⟩:=p;rw[C,D];cases b with|len=>exact ae.value (Kv _ _ v)|max=>exact ae.value (IE _ _ v)|min=>exact ae.value (I9 _ _ v)|append=>simp only[Qaa]at i;refine ae.value (AK (λs e F o=>?_) (λs k F o=>?_) v);{have:=i.1;rw[F]at this;exact mP this e o};have:=i.2;rw[F]at this;simp[By,o]at this|_=>simp at i
theorem rY(w:Fits P c)(H:B6 P c)(j:pJ P c gl o=UJ)(f:∀x,b9 c gl x=UJ->aj c r (ev x) (ev' x))(z:∀g,ev (.global g)=ϖ g/\ev' (.global g)=ϖ g):ae P c r (UZ ev o) (UZ ev' o) (wT c):=by unfold pJ at j;obtain⟨E,D,O,K,A,guard⟩:=o;cases D with|move x=>exact ae.pure (.value (f x j))|assign x=>exact ae.pure (.value (f x j))|pick a b d=>simp only[Qaa]at j;refine ae.bind (ae.asBool (f a j.1.1)) λM u V C I=>?_;subst I;refine ae.pure (.value ?_);split;{exact(f b j.1.2).mono C};exact(f d j.2).mono C|alloc e=>exact ae.value (Ag j)|box e x=>exact ae.value (J3 e (f x j))|build t L=>simp only[Qaa]at j;exact ae.value (CP j.1 (vF f j.2))|buildSlice t n L=>simp only[Qaa]at j;exact ae.value (sM (mP j.1) (vF f j.2))|load t a=>rcases Tz ..▸j with j|j;{exact ae.value (AR t (f a j))};(cases a with|global g=>refine ae.value ?_;rw[(z g).1,(z g).2];exact ae.bind (Q:=λ_ a b=>a=⟨g,0,UM⟩/\b=⟨g,0,UM⟩) (ae.pure ⟨rfl,rfl⟩) λM a b C⟨F,G⟩=>by subst F G;exact ae.Hf w (by rw[w.aJ];simpa[GC]using j) t|_=>simp[GC]at j)|store t a x=>simp only[Qaa]at j;exact ae.unit (xN t (f a j.1) (f x j.2))|nilCheck x=>exact wj _ x ev ev' rfl rfl rfl (f x j)|binOp D t x y u=>simp only[Qaa,Tz,Bool.not_eq_true']at j;exact ae.value (CK w (λe=>by rcases j.2 with h|h;{rcases e with rfl|rfl<;>simp[isEq]at h};exact h) (f x j.1.1) (f y j.1.2))|unOp D t x=>exact ae.value (CJ (f x j))|convert s d x=>simp only[Qaa]at j;exact ae.value (xC j.1 (f x j.2))|makeFunc R B q=>simp only[Qaa]at j;exact ae.value (wF j.1.1 (wS f j.1.2) (wS f j.2))|makeMap t N=>(cases N with|none=>exact ae.value y7|some _=>simp at j)|makeSlice t l k=>simp only[Qaa]at j;exact ae.value (uy (mP j.1.1) (f l j.1.2) (f k j.2))|slice t x T S U=>simp only[Qaa]at j;exact ae.value (yx t (f x j.1.1.1) (wV f j.1.1.2) (wV f j.1.2) (wV f j.2))|fieldAddr s x n=>simp only[Qaa]at j;exact ae.value (yK s n (uG j.1) (f x j.2))|field t x n=>exact ae.value (DC t n (f x j))|indexAddr t x i=>simp only[Qaa]at j;exact ae.value (xy t (f x j.1) (f i j.2))|index t x i=>simp only[Qaa]at j;exact ae.value (DK t (f x j.1) (f i j.2))|lookup t x i b=>simp only[Qaa]at j;exact ae.value (A7 w (Fl j.1.1) (f x j.1.2) (f i j.2))|mapUpdate t m k v=>simp only[Qaa]at j;exact ae.unit (ui w (EF j.1.1.1) (f m j.1.1.2) (f k j.1.2) (f v j.2))|range t x=>simp only[Qaa]at j;refine ae.value (Cq ?_ (f x j.2));have:=j.1;unfold Hh at this;grind|next J b=>(cases b with|true=>exact ae.value (E2 (f J j))|false=>simp at j)|extract x n=>exact ae.value (zD n (f x j))|call k=>exact Hw w H O j f|_=>simp at j
end
def codeOk(P:U9)(c:dG)(gl:Nat->Bool):VD->Bool
 |.skip|.exit _|.label _|.ret|.refuse _=>UJ
 |.region _ ops _=>ops.all (pJ P c gl)
 |.seq a b=>codeOk P c gl a&&codeOk P c gl b
 |.cond x a b=>b9 c gl x&&codeOk P c gl a&&codeOk P c gl b
 |.block _ a|.loop a|.scope a=>codeOk P c gl a
 |_=>Ul
def opAt(P:U9)(c:dG)(gl:Nat->Bool)(ops:Array VB)(i:Nat):Bool:=match ops[i]? with|some o=>pJ P c gl o|none=>UJ
theorem G4(h:ops.all (pJ P c gl)=UJ)(l:List Nat):l.all (opAt P c gl ops)=UJ:=by rw[S7];intro i _;unfold opAt;grind
theorem nx(h:(i::rest).all (opAt P c gl ops)=UJ)(a:ops[i]?=UG o):pJ P c gl o=UJ:=by simp only[SE,Qaa]at h;have:=h.1;unfold opAt at this;simp_all
theorem ve(h:(i::rest).all (opAt P c gl ops)=UJ):rest.all (opAt P c gl ops)=UJ:=by simp_all
def aT(P:U9)(c:dG)(gl:Nat->Bool):Vj->Bool
 |.code a|.inLoop a|.inScope a=>codeOk P c gl a
 |.inBlock _=>UJ
 |.inRegion ops l=>l.all (opAt P c gl ops)
 |_=>Ul
def cj(f:Va)(t:Array UO)(k:List Vj)(m:FrameMode):U0:={fn:=f,tmps:=t,todo:=k,defers:=[],mode:=m,kind:=.normal,roundOf:=UM}
def md(ret:Bool):FrameMode:=if ret then .returning else .run
structure cg where
 f:Va
 t:Array UO
 k:List Vj
 ret:Bool
 st:List (Va×Array UO×List Vj)
def up(x:Va×Array UO×List Vj):U0:=cj x.1 x.2.1 x.2.2 .run
def cg.g(s:cg)(base:List U0):UP:=Go.Conc.G (cj s.f s.t s.k (md s.ret)) (s.st.map up++base)
structure wY(P:U9)(c:dG)(gl:Nat->Bool)(s:cg):Prop where
 fn:True
 items:s.k.all (aT P c gl)=UJ
 below:∀x∈s.st,True/\x.2.2.all (aT P c gl)=UJ/\∃ops i rest k,x.2.2=.inRegion ops (i::rest)::k
inductive kL(c:dG)(r:bC):List (Va×Array UO×List Vj)->List (Va×Array UO×List Vj)->Prop
 |nil:kL c r [] []
 |cons{f:Va}{t t':Array UO}{k:List Vj}{l l':List (Va×Array UO×List Vj)}:ak c r t t'->kL c r l l'->kL c r ((f,t,k)::l) ((f,t',k)::l')
structure l9(c:dG)(r:bC)(s s':cg):Prop where
 f:s'.f=s.f
 t:ak c r s.t s'.t
 k:s'.k=s.k
 ret:s'.ret=s.ret
 st:kL c r s.st s'.st
theorem kL.mono{r':bC}(h:r.le r'){l l':List (Va×Array UO×List Vj)}(k:kL c r l l'):kL c r' l l':=by induction k with|nil=>exact .nil|cons a _ b=>exact .cons (a.mono h) b
structure Listed(P:U9)(c:dG)(gl:Nat->Bool):Prop where
 aJ:Fits P c
 qa:∀g,gl g=UJ->c.low g=0
 ext:B6 P c
 body:∀(f:Va)(fn:Func),c.fns f=UJ->P.funcs[f]?=UG fn->∃b,(fn.body=UM\/(fn.body=UG b/\codeOk P c gl b=UJ))
def dj:U0:={fn:=0,tmps:=#[],todo:=[],defers:=[{target:=.builtin .make #[] 0 #[],args:=#[]}],mode:=.run,kind:=.normal}
def NX(s:GStep):Prop:=(∃o w,s.bare=.ended o w)\/∃(f:Va)(t:Array UO)(k:List Vj)(ch:List PanicEntry)(st:List (Va×Array UO×List Vj))(w:UL)(es:Array Vv),
 s=.go (Go.Conc.G (cj f t k (.panicking ch)) (st.map up++[dj])) w es/\(∀d w r sv,k.head?≠UG (.call d w r sv))/\∀x∈st,∃ops i rest k',x.2.2=.inRegion ops (i::rest)::k'
theorem pT{t:Array UO}(e:ak c r t t')(d:∀g,gl g=UJ->r g=UG g)(b:∀g,gl g=UJ->c.low g=0){m:FrameMode}(x:Vh)(h:b9 c gl x=UJ):aj c r ((cj f t k m).eval x) ((cj f t' k m).eval x):=by cases x with|tmp i=>exact e.getD i fW|const v=>exact ir h c r|global g=>exact .ptr ⟨d g h,rfl,rfl,Tk (b g h)⟩|func j=>exact .func (by assumption) rfl (λi v l a=>by simp at a) rfl (λi v l a=>by simp at a)
theorem mD{t:Array UO}(a:ak c r t t')(ops:Array VB)(j:Nat):U7 ops t' j=U7 ops t j:=by unfold U7;cases(ops[j]?).bind (·.dst)with|none=>rfl|some d=>simp only[Te];cases b:t[d]? with|none=>rw[a.none b]|some v=>obtain⟨f,e,k⟩:=a.get b;rw[e];cases k<;>rfl
theorem cK{t:Array UO}(v:UO):(cj f t (.inRegion ops (i::rest)::k) .run).finish v=cj f (match(ops[i]?).bind (·.dst)with|some d=>t.setIfInBounds d v|none=>t) (.inRegion ops rest::k) .run:=rfl
theorem o7{t:Array UO}(a:ak c r t t')(d:Option Tmp){v v':UO}(b:aj c r v v'):ak c r (match d with|some d=>t.setIfInBounds d v|none=>t) (match d with|some d=>t'.setIfInBounds d v'|none=>t'):=by cases d with|none=>exact a|some d=>exact a.set d b
end Go.ae
namespace Go.ae
open Go.Conc
variable{P:U9}{c:dG}{r r':bC}{gl live:Nat->Bool}{w v v' w2 w' v1:UL}{main u:Bool}{bs cs:List U0}{f f0:Va}{t t' args t0 x' tl:Array UO}{k k1 k0 k' kr tail kk:List Vj}{st st':List (Va×Array UO×List Vj)}{id i j b n g:Nat}{x a cd:VD}{ops:Array VB}{rest rest':List Nat}{o:VB}{h:Halt}{fn:Func}{α:Type}{s s' s1 s2:cg}{p:cg×UL}{es:Array Vv}{fr' caller F:U0}{Good:UO->UL->Prop}{RO own:Nat->Prop}{CU:Nat->Nat->Prop}{Stop:(Nat->Prop)->UP->UL->Prop}{R:Ending->UL->Prop}{fns:Va->Bool}{Q:Array UO->UL->Prop}
section
def R3(P:U9)(c:dG)(r:bC)(main:Bool)(base:List U0)(w v:UL)(s':cg)(s1:cg)(w1:UL):Prop:=
 ∃s1' v1 r1 es,UY P main (s'.g base) v=.go (s1'.g base) v1 es/\Ext c r w v r1 w1 v1/\l9 c r1 s1 s1'/\∀e∈es,rm c r1 e
def Stp(P:U9)(c:dG)(gl:Nat->Bool)(r:bC)(main:Bool)(base:List U0)(w v:UL)(s s':cg):Prop:=
 (∃s1 w1 es1,UY P UJ (s.g [dj]) w=.go (s1.g [dj]) w1 es1/\wY P c gl s1/\R3 P c r main base w v s' s1 w1)\/NX (UY P UJ (s.g [dj]) w)
theorem cg.uW(f:Va)(t:Array UO)(k:List Vj)(a:List (Va×Array UO×List Vj))(bs:List U0):(cg.mk f t k Ul a).g bs=G (cj f t k .run) (a.map up++bs):=rfl
theorem cg.gQ(f:Va)(t:Array UO)(k:List Vj)(a:List (Va×Array UO×List Vj))(bs:List U0):(cg.mk f t k UJ a).g bs=G (cj f t k .returning) (a.map up++bs):=rfl
theorem Stp.ctl{ret1:Bool}(l:cm c r w v)(j:ak c r t t')(a:kL c r st st')(b:wY P c gl ⟨f,t,k,Ul,st⟩)(i:k1.all (aT P c gl)=UJ)(h:∀(main:Bool)(cs:List U0)(w:UL),UY P main (G (cj f t k .run) cs) w=.go (G (cj f t k1 (md ret1)) cs) w #[])(d:∀(main:Bool)(cs:List U0)(w:UL),UY P main (G (cj f t' k .run) cs) w=.go (G (cj f t' k1 (md ret1)) cs) w #[]):Stp P c gl r main bs w v ⟨f,t,k,Ul,st⟩ ⟨f,t',k,Ul,st'⟩:=.inl ⟨⟨f,t,k1,ret1,st⟩,w,#[],h _ _ _,⟨b.fn,i,b.below⟩,⟨f,t',k1,ret1,st'⟩,v,r,#[],d _ _ _,.refl l,⟨rfl,j,rfl,rfl,a⟩,λe g=>by simp at g⟩
theorem od{q:Vj->Bool}:∀{k k':List Vj},exitTo id k=UG k'->k.all q=UJ->k'.all q=UJ|[],_,h,_=>by simp[exitTo]at h|x::k,k',h,b=>by simp only[SE,Qaa]at b;unfold exitTo at h;split at h;{rename_i d f e;cases e;split at h;{simp_all};exact od h b.2};{rename_i e;cases e;exact od h b.2};simp_all
theorem oC:UY P main (G (cj f t (.code .ret::k) .run) cs) w=.go (G (cj f t (.code .ret::k) .returning) cs) w #[]:=by rfl
theorem jx:UY P main (G (cj f t (.inScope x::k) .run) cs) w=.go (G (cj f t k .run) cs) w #[]:=by rfl
theorem lP:UY P main (G (cj f t (.code (.scope x)::k) .run) cs) w=.go (G (cj f t (.code x::.inScope x::k) .run) cs) w #[]:=by rfl
theorem iM(h:exitTo id k=UM):UY P main (G (cj f t (.code (.exit id)::k) .run) cs) w=.ended (.stuck "exit, goto: no such block or label" ((cj f t (.code (.exit id)::k) .run).pos P)) w #[]:=by simp only[G,UY,UY.exec,cj,h,Option.elim,SB,if_false]
theorem j0:UY P main (G (cj f t (.code (.region id ops UJ)::k) .run) cs) w=match(choose (.order f id)).run P w with|.ok b w=>.go (G (cj f t (.inRegion ops (Region.schedule (P.follows .mixedOrders) ops b)::k) .run) cs) w #[]|.halt _ w=>.ended (.stuck "order" ((cj f t (.code (.region id ops UJ)::k) .run).pos P)) w:=by rfl
theorem stepG_unwanted(h:((ops[i]?).map (Region.wanted · (U7 ops t))).getD Ul=Ul):UY P main (G (cj f t (.inRegion ops (i::rest)::k) .run) cs) w=.go (G ((cj f t (.inRegion ops (i::rest)::k) .run).finish UT) cs) w #[]:=by simp only[G,UY,UY.exec,cj,h,SB,if_false]
section op
variable{w1:UL}
abbrev l7(f:Va)(t:Array UO)(ops:Array VB)(i:Nat)(rest:List Nat)(k:List Vj):U0:=cj f t (.inRegion ops (i::rest)::k) .run
theorem jk{v:UO}(d:ops[i]?=UG o)(e:Region.wanted o (U7 ops t)=UJ)(b:(UZ (l7 f t ops i rest k).eval o).run P w=.ok (.value v) w1):UY P main (G (l7 f t ops i rest k) cs) w=.go (G ((l7 f t ops i rest k).finish v) cs) w1 (seen P f ((UZ (l7 f t ops i rest k).eval o).events P w #[])):=by simp only[cj]at b;simp[G,UY,UY.exec,UY.oper,UY.apply,U0.oper?,cj,d,e,b,GStep.after]
theorem j4(d:ops[i]?=UG o)(e:Region.wanted o (U7 ops t)=UJ)(b:(UZ (l7 f t ops i rest k).eval o).run P w=.ok .skip w1):UY P main (G (l7 f t ops i rest k) cs) w=.go (G ((l7 f t ops i rest k).finish UT) cs) w1 (seen P f ((UZ (l7 f t ops i rest k).eval o).events P w #[])):=by simp only[cj]at b;simp[G,UY,UY.exec,UY.oper,UY.apply,U0.oper?,cj,d,e,b,GStep.after]
theorem i7{j:Va}(d:ops[i]?=UG o)(e:Region.wanted o (U7 ops t)=UJ)(b:(UZ (l7 f t ops i rest k).eval o).run P w=.ok (.enter j args) w1):UY P main (G (l7 f t ops i rest k) cs) w=.go (G (U0.enter P j args .normal) (l7 f t ops i rest k::cs)) w1 (seen P f ((UZ (l7 f t ops i rest k).eval o).events P w #[])):=by simp only[cj]at b;simp[G,UY,UY.exec,UY.oper,UY.apply,U0.oper?,cj,d,e,b,GStep.after]
theorem lQ{v:UO}(e:ops[i]?=UG o)(g:Region.wanted o (U7 ops t)=UJ)(d:(UZ (l7 f t ops i rest k).eval o).run P w=.halt (.panic v) w1):UY P main (G (l7 f t ops i rest k) cs) w=.go (G (cj f t (.inRegion ops (i::rest)::k) (.panicking [{v,recovered:=Ul}])) cs) w1 (seen P f ((UZ (l7 f t ops i rest k).eval o).events P w #[])):=by simp only[cj]at d;simp[G,UY,UY.exec,UY.oper,UY.apply,U0.oper?,cj,e,g,d,GStep.after,U0.raise]
theorem mJ(e:ops[i]?=UG o)(j:Region.wanted o (U7 ops t)=UJ)(b:(UZ (l7 f t ops i rest k).eval o).run P w=.halt h w1)(d:Av h=UJ)(l:∀v,h≠.panic v):∃x w2,(UY P main (G (l7 f t ops i rest k) cs) w).bare=.ended x w2:=by simp only[cj]at b;cases h with|panic v=>simp_all|stuck s=>simp[G,UY,UY.exec,UY.oper,UY.apply,U0.oper?,cj,e,j,b]|unsupported u=>(cases u with|initOrder g=>simp[Av]at d|_=>simp[G,UY,UY.exec,UY.oper,UY.apply,U0.oper?,cj,e,j,b])|_=>simp[Av]at d
end op
theorem wY.tg(b:wY P c gl ⟨f,t,.inRegion ops (i::rest)::k,Ul,st⟩):(i::rest).all (opAt P c gl ops)=UJ/\k.all (aT P c gl)=UJ:=by have:=b.items;simp only[SE,Qaa]at this;exact this
theorem gI(args:Array UO)(a:P.funcs[f]?=UG fn):U0.enter P f args .normal=cj f (args++Array.replicate (fn.ntmps-args.size) UT) [.code (fn.body.getD (.refuse "unsupported: a function without a Go body is entered"))] .run:=by simp[U0.enter,cj,a]
theorem nU(args:Array UO)(a:P.funcs[f]?=UM):U0.enter P f args .normal=cj f (args++Array.replicate (0-args.size) UT) [.code (.refuse "unsupported: a function without a Go body is entered")] .run:=by simp[U0.enter,cj,a]
theorem yM(g:Listed P c gl){j:Va}(f:c.fns j=UJ)(x d:Array UO):∃n b,(U0.enter P j x .normal=cj j (x++Array.replicate (n-x.size) UT) [.code b] .run/\U0.enter P j d .normal=cj j (d++Array.replicate (n-d.size) UT) [.code b] .run)/\codeOk P c gl b=UJ:=by cases a:P.funcs[j]? with|none=>exact⟨0,_,⟨nU x a,nU d a⟩,rfl⟩|some e=>refine⟨e.ntmps,_,⟨gI x a,gI d a⟩,?_⟩;obtain⟨b,h|⟨h,i⟩⟩:=g.body j e f a;{rw[h];rfl};simp_all
theorem JN(I:Listed P c gl)(V:∀g,gl g=UJ->r g=UG g)(Y:cm c r w v)(E:ak c r t t')(D:kL c r st st')(A:wY P c gl ⟨f,t,.inRegion ops (i::rest)::k,Ul,st⟩)(z:ops[i]?=UG o)(a:Region.wanted o (U7 ops t)=UJ):Stp P c gl r main bs w v ⟨f,t,.inRegion ops (i::rest)::k,Ul,st⟩ ⟨f,t',.inRegion ops (i::rest)::k,Ul,st'⟩:=by obtain⟨p,R⟩:=A.tg;have M:=nx p z;have m:=rY I.aJ I.ext M (ev:=(l7 f t ops i rest k).eval) (λx q=>pT E V I.qa x q) (λ_=>⟨rfl,rfl⟩) w v Y;(have l:Region.wanted o (U7 ops t')=UJ:=by rw[funext λj=>mD E ops j];exact a);unfold Stp;rw[cg.uW];cases q:(UZ (l7 f t ops i rest k).eval o).run P w with|halt h H=>rw[q]at m;refine .inr ?_;by_cases S:∃u,h=.panic u;{obtain⟨u,rfl⟩:=S;rw[lQ z a q];refine .inr ⟨f,t,_,_,st,H,_,rfl,λd w r sv=>by simp,λx q=>(A.below x q).2.2⟩};obtain⟨x,w2,e⟩:=mJ z a q m (λu e=>S ⟨u,e⟩);exact .inl ⟨x,w2,e⟩|ok n H=>rw[q]at m;obtain⟨n',O,J,L,B,q1,Z⟩:=m;have C:∀e∈seen P f ((UZ (l7 f t' ops i rest k).eval o).events P v #[]),rm c J e:=λe U=>Z e (mem_seen U);refine .inl ?_;cases q1 with|@value u u' X=>refine⟨⟨f,_,.inRegion ops rest::k,Ul,st⟩,H,seen P f ((UZ (l7 f t ops i rest k).eval o).events P w #[]),(jk z a q).trans ?_,⟨A.fn,?_,A.below⟩,⟨f,_,.inRegion ops rest::k,Ul,st'⟩,O,J,_,(jk z l L).trans ?_,B,⟨rfl,o7 (E.mono B.le) ((ops[i]?).bind (·.dst)) X,rfl,rfl,D.mono B.le⟩,C⟩;{rfl};{simp only[SE,aT,R,ve p,Tx]};rfl|skip=>refine⟨⟨f,_,.inRegion ops rest::k,Ul,st⟩,H,seen P f ((UZ (l7 f t ops i rest k).eval o).events P w #[]),(j4 z a q).trans ?_,⟨A.fn,?_,A.below⟩,⟨f,_,.inRegion ops rest::k,Ul,st'⟩,O,J,_,(j4 z l L).trans ?_,B,⟨rfl,o7 (E.mono B.le) ((ops[i]?).bind (·.dst)) fW,rfl,rfl,D.mono B.le⟩,C⟩;{rfl};{simp only[SE,aT,R,ve p,Tx]};rfl|@enter j x K W F=>obtain⟨n,b,Q,T⟩:=yM I W x K;refine⟨⟨j,x++Array.replicate (n-x.size) UT,[.code b],Ul,(f,t,.inRegion ops (i::rest)::k)::st⟩,H,seen P f ((UZ (l7 f t ops i rest k).eval o).events P w #[]),(i7 z a q).trans ?_,⟨trivial,?_,?_⟩,⟨j,K++Array.replicate (n-K.size) UT,[.code b],Ul,(f,t',.inRegion ops (i::rest)::k)::st'⟩,O,J,_,(i7 z l L).trans ?_,B,⟨rfl,?_,rfl,rfl,.cons (E.mono B.le) (D.mono B.le)⟩,C⟩;{rw[Q.1];rfl};{simp[aT,T]};{intro y N;rcases Sv.1 N with rfl|N;{exact⟨A.fn,A.items,ops,i,rest,k,rfl⟩};exact A.below y N};{rw[Q.2];rfl};rw[F.size.symm];exact F.append (.replicate _ fW)
end
section
theorem ae.yt{f f':α->Vg UO}:∀(l:List α){r:bC}{x x':Array UO},ak c r x x'->(∀a b,r.le b->ae P c b (f a) (f' a) (aj c))->ae P c r (l.foldlM (λbs a=>Functor.map bs.push (f a)) x) (l.foldlM (λbs a=>bs.push<$>f' a) x') (ak c)|[],_,_,_,h,_=>ae.pure h|a::l,r,x,x',h,e=>by simp only[Ux];refine ae.bind (Q:=ak c) ?_ λb y n d j=>ae.yt l j λa k g=>e a k (bC.le_trans d g);simp only[<-bind_pure_comp];exact ae.bind (e a r (bC.le_refl r)) λb v m d i=>ae.pure ((h.mono d).push i)
theorem ae.mapM{f f':α->Vg UO}(l:Array α)(h:∀a b,r.le b->ae P c b (f a) (f' a) (aj c)):ae P c r (l.mapM f) (l.mapM f') (ak c):=by rw[Vp,Vp,<-Vq,<-Vq];exact ae.yt l.toList .empty h
theorem ki(fn:Func)(h:ak c r t t'):ae P c r (results fn t) (results fn t') (aj c):=by refine ae.bind (ae.mapM _ λa g d=>?_) λg x m d b=>ae.pure ?_;{cases a with|tmp i=>exact ae.pure ((h.mono d).getD i fW)|cell i j=>exact ae.bind (ae.asAddr ((h.mono d).getD i fW)) λl a k _ f=>ae.loadVar j f};by_cases e:x.size=1;{rw[dif_pos e,dif_pos (b.size▸e)];exact b.el 0 _ _ (Su _) (Su _)};rw[dif_neg e,dif_neg (b.size▸e)];exact .tuple b.size b.el
section ret
variable{x:U0}{w1:UL}
theorem bM(a:P.funcs[f]?=UM):UY P main (G (cj f t k .returning) (x::cs)) w=.go (G (x.finish (t.getD 0 UT)) cs) w #[]:=by simp[G,UY,unwind,doReturn,cj,a]
theorem aO{v:UO}(a:P.funcs[f]?=UG fn)(b:(results fn t).run P w=.ok v w1):UY P main (G (cj f t k .returning) (x::cs)) w=.go (G (x.finish v) cs) w1 (seen P f ((results fn t).events P w #[])):=by simp[G,UY,unwind,doReturn,cj,a,b,GStep.after]
theorem c8(a:P.funcs[f]?=UG fn)(b:(results fn t).run P w=.halt h w1):∃o w2,(UY P main (G (cj f t k .returning) (x::cs)) w).bare=.ended o w2:=by cases h<;>simp[G,UY,unwind,cj,a,b]
end ret
theorem yL{t0':Array UO}(A:cm c r w v)(z:ak c r t t')(l:ak c r t0 t0')(j:kL c r st st')(y:wY P c gl ⟨f,t,k,UJ,(f0,t0,.inRegion ops (i::rest)::k0)::st⟩):Stp P c gl r main bs w v ⟨f,t,k,UJ,(f0,t0,.inRegion ops (i::rest)::k0)::st⟩ ⟨f,t',k,UJ,(f0,t0',.inRegion ops (i::rest)::k0)::st'⟩:=by obtain⟨s,C,-⟩:=y.below _ (S0 ..);have a:=λx m=>y.below x (SW _ m);(have g:(Vj.inRegion ops rest::k0).all (aT P c gl)=UJ:=by simp only[SE,aT]at C⊢;simp_all);cases d:P.funcs[f]? with|none=>refine .inl ⟨⟨f0,_,.inRegion ops rest::k0,Ul,st⟩,w,#[],(bM d).trans ?_,⟨s,g,a⟩,⟨f0,_,.inRegion ops rest::k0,Ul,st'⟩,v,r,#[],(bM d).trans ?_,.refl A,⟨rfl,o7 l ((ops[i]?).bind (·.dst)) (z.getD 0 fW),rfl,rfl,j⟩,λe p=>by simp at p⟩;{rfl};rfl|some n=>have b:=ki n z (P:=P) w v A;cases m:(results n t).run P w with|halt h B=>exact .inr (.inl (c8 d m))|ok u B=>rw[m]at b;obtain⟨J,I,H,D,q,F,E⟩:=b;refine .inl ⟨⟨f0,_,.inRegion ops rest::k0,Ul,st⟩,B,seen P f ((results n t).events P w #[]),(aO d m).trans ?_,⟨s,g,a⟩,⟨f0,_,.inRegion ops rest::k0,Ul,st'⟩,I,H,seen P f ((results n t').events P v #[]),(aO d D).trans ?_,q,⟨rfl,o7 (l.mono q.le) ((ops[i]?).bind (·.dst)) F,rfl,rfl,j.mono q.le⟩,λe p=>E e (mem_seen p)⟩;{rfl};rfl
theorem jW{x:Vh}{b:VD}(h:(cj f t (.code (.cond x a b)::k) .run).eval x=.bool u):UY P main (G (cj f t (.code (.cond x a b)::k) .run) cs) w=.go (G (cj f t (.code (if u then a else b)::k) .run) cs) w #[]:=by simp only[cj]at h;simp[G,UY,UY.exec,cj,h]
theorem jL{x:Vh}{b:VD}(h:∀u,(cj f t (.code (.cond x a b)::k) .run).eval x≠.bool u):∃o w2,(UY P main (G (cj f t (.code (.cond x a b)::k) .run) cs) w).bare=.ended o w2:=by simp only[cj]at h;simp only[G,UY,UY.exec,cj];simp
theorem PN{x x':UO}(h:x=.bool u)(k:aj c r x x'):x'=.bool u:=by subst h;cases k;rfl
theorem tD(V:Listed P c gl)(U:∀g,gl g=UJ->r g=UG g)(z:cm c r w v)(hr:l9 c r s s')(p:wY P c gl s)(hne:s.ret=UJ->s.st≠[]):Stp P c gl r main bs w v s s':=by obtain⟨f,t,k,R,Y⟩:=s;obtain⟨f',M,k',K,L⟩:=s';obtain⟨N,y,Z,e3,d⟩:=hr;simp only at N y Z e3 d;subst f' k' K;cases R with|true=>(cases d with|nil=>simp_all|@cons f0 t0 t0' k0 l l' h0 O=>obtain⟨-,-,n,i,B,k1,e⟩:=p.below _ (S0 ..);simp only at e;subst e;exact yL z y h0 O p)|false=>cases k with|nil=>exact Stp.ctl (ret1:=UJ) (k1:=[]) z y d p rfl (λ_ _ _=>by rfl) (λ_ _ _=>by rfl)|cons x k=>have q:=p.items;simp only[SE,Qaa]at q;obtain⟨q,A⟩:=q;cases x with|code a=>(cases a with|skip=>exact Stp.ctl (ret1:=Ul) (k1:=k) z y d p A (λ_ _ _=>by rfl) (λ_ _ _=>by rfl)|label l=>exact Stp.ctl (ret1:=Ul) (k1:=k) z y d p A (λ_ _ _=>by rfl) (λ_ _ _=>by rfl)|ret=>exact Stp.ctl (ret1:=UJ) z y d p p.items (λ_ _ _=>oC) (λ_ _ _=>oC)|seq a b=>exact Stp.ctl (ret1:=Ul) (k1:=.code a::.code b::k) z y d p (by simp only[aT,codeOk,Qaa]at q;simp[aT,codeOk,A,q]) (λ_ _ _=>by rfl) (λ_ _ _=>by rfl)|block id a=>exact Stp.ctl (ret1:=Ul) (k1:=.code a::.inBlock id::k) z y d p (by simp only[aT,codeOk,Qaa]at q;simp[aT,codeOk,A,q]) (λ_ _ _=>by rfl) (λ_ _ _=>by rfl)|loop a=>exact Stp.ctl (ret1:=Ul) (k1:=.code a::.inLoop a::k) z y d p (by simp only[aT,codeOk,Qaa]at q;simp[aT,codeOk,A,q]) (λ_ _ _=>by rfl) (λ_ _ _=>by rfl)|scope a=>exact Stp.ctl (ret1:=Ul) (k1:=.code a::.inScope a::k) z y d p (by simp only[aT,codeOk,Qaa]at q;simp[aT,codeOk,A,q]) (λ_ _ _=>lP) (λ_ _ _=>lP)|refuse why=>exact .inr (.inl ⟨_,w,by rfl⟩)|exit id=>(cases D:exitTo id k with|none=>exact .inr (.inl ⟨_,w,by rw[cg.uW,iM D];rfl⟩)|some k1=>exact Stp.ctl (ret1:=Ul) z y d p (od D A) (λ_ _ _=>by simp[G,UY,UY.exec,cj,md,D]) (λ_ _ _=>by simp[G,UY,UY.exec,cj,md,D]))|cond x a b=>simp only[aT,codeOk,Qaa]at q;have hv:=pT y U V.qa (f:=f) (k:=.code (.cond x a b)::k) (m:=.run) x q.1.1;(cases J:(cj f t (.code (.cond x a b)::k) .run).eval x with|bool u=>have:=PN J hv;exact Stp.ctl (ret1:=Ul) (k1:=.code (if u then a else b)::k) z y d p (by cases u<;>simp[aT,q,A]) (λ_ _ _=>jW J) (λ_ _ _=>jW this)|_=>exact .inr (.inl (jL λu e=>by simp_all)))|region id n F=>(have I:n.all (pJ P c gl)=UJ:=by assumption);(have H:∀l,(Vj.inRegion n l::k).all (aT P c gl)=UJ:=λl=>by simp only[SE,Qaa];exact⟨G4 I l,A⟩);(cases F with|false=>exact Stp.ctl (ret1:=Ul) (k1:=.inRegion n (List.range n.size)::k) z y d p (H _) (λ_ _ _=>by rfl) (λ_ _ _=>by rfl)|true=>have X:=ae.cJ (r:=r) (c:=c) (P:=P) (iD (.order f id)) w v z;unfold Stp;rw[cg.uW,j0];cases hc:(choose (.order f id)).run P w with|halt h S=>exact .inr (.inl ⟨_,S,rfl⟩)|ok u S=>rw[hc]at X;obtain⟨u',v1,r1,N,T,q1,-⟩:=X;subst q1;refine .inl ⟨⟨f,t,_,Ul,Y⟩,S,#[],rfl,⟨p.fn,H _,p.below⟩,⟨f,M,_,Ul,L⟩,v1,r1,#[],?_,T,⟨rfl,y.mono T.le,rfl,rfl,d.mono T.le⟩,λe D=>by simp at D⟩;rw[cg.uW,j0,N];rfl)|rangeFunc _ _ _ _=>simp[aT,codeOk]at q|goto l=>simp[aT,codeOk]at q)|inBlock id=>exact Stp.ctl (ret1:=Ul) (k1:=k) z y d p A (λ_ _ _=>by rfl) (λ_ _ _=>by rfl)|inLoop a=>exact Stp.ctl (ret1:=Ul) (k1:=.code a::.inLoop a::k) z y d p (by simp only[aT]at q;simp[aT,A,q]) (λ_ _ _=>by rfl) (λ_ _ _=>by rfl)|inScope a=>exact Stp.ctl (ret1:=Ul) (k1:=k) z y d p A (λ_ _ _=>jx) (λ_ _ _=>jx)|inRegion n l=>(cases l with|nil=>exact Stp.ctl (ret1:=Ul) (k1:=k) z y d p A (λ_ _ _=>by rfl) (λ_ _ _=>by rfl)|cons i B=>cases E:((n[i]?).map (Region.wanted · (U7 n t))).getD Ul with|true=>(cases W:n[i]? with|none=>simp_all|some o=>rw[W]at E;exact JN V U z y d p W (by simp_all))|false=>(have Q:((n[i]?).map (Region.wanted · (U7 n M))).getD Ul=Ul:=by rw[show U7 n M=U7 n t from funext λj=>mD y n j];exact E);refine .inl ⟨⟨f,_,.inRegion n B::k,Ul,Y⟩,w,#[],(stepG_unwanted E).trans ?_,⟨p.fn,?_,p.below⟩,⟨f,_,.inRegion n B::k,Ul,L⟩,v,r,#[],(stepG_unwanted Q).trans ?_,.refl z,⟨rfl,o7 y ((n[i]?).bind (·.dst)) fW,rfl,rfl,d⟩,λe D=>by simp at D⟩;{rfl};{have:=p.items;simp only[SE,aT,Qaa]at this⊢;simp_all};rfl)|inRangeFunc _=>simp[aT]at q|endRangeFunc _=>simp[aT]at q|beginRound=>simp[aT]at q|call _ _ _ _=>simp[aT]at q|extern _ _=>simp[aT]at q
end
def re(w:UL)(T:Nat->VC->Nat)(D:Nat):UL:={w with tape:=T,drawn:=D}
@[simp]theorem Ru(w:UL)(T b:Nat->VC->Nat)(D a:Nat):re (re w T D) b a=re w b a:=rfl
@[simp]theorem vQ(w:UL)(T:Nat->VC->Nat)(D:Nat):(re w T D).heap=w.heap:=rfl
@[simp]theorem BM(w:UL)(T:Nat->VC->Nat)(D:Nat)(a:Vs):(re w T D).cell? a=w.cell? a:=rfl
theorem Aw(w:UL)(T:Nat->VC->Nat)(D:Nat)(p:U9)(a:Vs)(b:Bool):(re w T D).farLoad p a b=w.farLoad p a b:=rfl
theorem wG(w:UL)(T:Nat->VC->Nat)(D:Nat)(p:U9)(a:Vs)(u:U8)(k:Vs)(v:UO)(b:Bool):(re w T D).viewStore p a u k v b=(w.viewStore p a u k v b).map λx=>(re x.1 T D,x.2):=by unfold UL.viewStore;have e:(re w T D).seen p a u k b=w.seen p a u k b:=rfl;rw[e];generalize w.seen p a u k b=j;by_cases i:(!tight p p.depth u)=UJ;{simp only[i];rfl};simp only[i,SB];cases j with|error s=>rfl|ok x=>obtain⟨c,e,l,g,f,d⟩:=x;cases n:v.bytes? with|none=>rfl|some bytes=>simp only[bind,Except.bind,pure];by_cases h:UG bytes.length=Option.map (λx=>x.length) f.bytes?;{simp only[ne_eq,h,eq_false];generalize(List.foldlM (m:=Except String) _ c d)=z;cases z<;>rfl};simp only[ne_eq,h,eq_true];rfl
theorem qW(w:UL)(T:Nat->VC->Nat)(D:Nat)(p:U9)(a:Vs)(v:UO)(b:Bool):(re w T D).farStore p a v b=(w.farStore p a v b).map λx=>(re x.1 T D,x.2):=by unfold UL.farStore;rw[vQ];cases w.heap[a.block]? with|none=>rfl|some o=>(cases o<;>try rfl);simp only[wG];generalize w.viewStore _ _ _ _ _ _=z;cases z<;>rfl
theorem Ct(w:UL)(T:Nat->VC->Nat)(D:Nat)(a:Vs)(n:Nat):(re w T D).freeze a n=re (w.freeze a n) T D:=by unfold UL.freeze;split<;>rfl
def ye:UO->Bool
 |.agg _|.tuple _=>UJ
 |_=>Ul
theorem Ri(v:UO):ye v=UJ\/ye v=Ul:=by simp
theorem uA(m:Mode)(a:Vs)(g:Vg α){v:UO}(h:ye v=UJ)(w:UL):∃z,(Vg.store m a v g).run P w=.halt z w:=by cases v<;>simp[ye]at h<;>exact⟨_,rfl⟩
theorem sW(m:Mode)(a:Vs)(g:Vg α){v:UO}(h:ye v=Ul)(w:UL):(Vg.store m a v g).run P w=match w.cell? a with|some _=>if w.frozen? a then .halt (.unsupported (.unsafePointer "a write to bytes that a string shares")) w else g.run P (w.setCell a v)|none=>match w.farStore P a v (m==.atomic)with|.ok x=>g.run P x.1|.error h=>.halt h w:=by cases v<;>simp[ye]at h<;>(simp only[Vg.run];split;{rename_i b;rw[b]};·split<;>simp_all)
theorem oW(m:Mode)(a:Vs)(g:Vg α){v:UO}(h:ye v=Ul)(w:UL):(Vg.store m a v g).events P w #[]=match w.cell? a with|some _=>if w.frozen? a then#[]else g.events P (w.setCell a v) (#[].push ⟨.cell a,UJ,m==.atomic⟩)|none=>match w.farStore P a v (m==.atomic)with|.ok x=>g.events P x.1 (#[]++x.2.toArray.map (⟨.cell ·,UJ,m==.atomic⟩))|.error _=>#[]:=by cases v<;>simp[ye]at h<;>(simp only[Vg.events,Vg.runT];split<;>(try split)<;>simp_all)
theorem CQ(w:UL)(T:Nat->VC->Nat)(D:Nat)(a:Vs):(re w T D).frozen? a=w.frozen? a:=rfl
theorem ua{w1:UL}{p:U9}{a:Vs}{v:UO}{b:Bool}{l:List Vs}(h:w.farStore p a v b=.ok (w1,l)):w1.drawn=w.drawn/\w1.tape=w.tape:=by have c:w.farStore p a v b=(w.farStore p a v b).map λx=>(re x.1 w.tape w.drawn,x.2):=qW w w.tape w.drawn p a v b;rw[h]at c;injection c with c;have:=(S4 c).1;exact⟨(congrArg UL.drawn this).trans rfl,(congrArg UL.tape this).trans rfl⟩
theorem yn(x:Vg α):∀{w w1:UL}{a:α},x.run P w=.ok a w1->(∀e∈x.events P w #[],e.loc≠.output)->w.drawn<=w1.drawn/\w1.tape=w.tape/\∀(T:Nat->VC->Nat)(D:Nat),(∀j q,w.drawn+j<w1.drawn->T (D+j) q=w.tape (w.drawn+j) q)->x.run P (re w T D)=.ok a (re w1 T (D+(w1.drawn-w.drawn))):=by induction x with|pure a=>simp|halt z=>simp|program g d=>intro w w1 b h c;exact d P h c|mark m g d=>intro w w1 b h c;refine d h λe i=>c e ?_;show e∈g.events P w _;rw[Vg.events_acc];simp_all|sys s g _=>intro w w1 b h c;refine absurd rfl (c ⟨.output,UJ,Ul⟩ ?_);show _∈(g _).events P _ _;rw[Vg.events_acc];simp|choose q g d=>intro w w1 b h c;have B:∀u:UL,(Vg.choose q g).run P u=if q.forced then(g 0).run P u else(g (q.cut (u.tape u.drawn q))).run P {u with drawn:=u.drawn+1}:=λ_=>rfl;(have I:(Vg.choose q g).events P w #[]=if q.forced then(g 0).events P w #[]else(g (q.cut (w.tape w.drawn q))).events P {w with drawn:=w.drawn+1} #[]:=by simp only[Vg.events,Vg.runT];grind);rw[B]at h;rw[I]at c;simp only[B];by_cases F:q.forced=UJ;{grind};rw[if_neg F]at h c;simp only[F,SB,if_false];obtain⟨J,H,K⟩:=d _ h c;simp only at J H;refine⟨by omega,H,λT D t=>?_⟩;(have:=K T (D+1) λj q M=>by have:=t (j+1) q (by grind);grind);have C:=t 0 q Ω;simp only[SQ]at C;show(g (q.cut (T D q))).run P (re w T (D+1))=_;rw[C];refine Eq.trans this ?_;grind|load m a g d=>intro w w1 b h c;simp only[Vg.run,BM,Aw]at h⊢;(cases r:w.cell? a with|some v=>rw[r]at h;refine d v h λe i=>c e ?_;simp only[Vg.events,Vg.runT,r];show e∈(g v).events P w _;rw[Vg.events_acc];simp_all|none=>rw[r]at h;cases l:w.farLoad P a (m==.atomic)with|error z=>simp_all|ok x=>rw[l]at h;refine d x.1 h λe i=>c e ?_;simp only[Vg.events,Vg.runT,r,l];show e∈(g x.1).events P w _;rw[Vg.events_acc];simp_all)|store m a v g d=>intro w w1 b h c;rcases Ri v with y|y;{obtain⟨z,N⟩:=uA (P:=P) m a g y w;simp_all};simp only[sW m a g y,BM,qW,CQ]at h⊢;rw[oW m a g y]at c;(cases r:w.cell? a with|some u=>rw[r]at h c;simp only at h c⊢;split at h;{cases h};rename_i l;rw[if_neg l]at c;have:=d (w:=w.setCell a v) h λe i=>c e (by rw[Vg.events_acc];simp_all);refine⟨this.1,this.2.1,λT D t=>?_⟩;exact(if_neg l).trans (this.2.2 T D t)|none=>rw[r]at h c;simp only at h c⊢;cases l:w.farStore P a v (m==.atomic)with|error z=>simp_all|ok x=>rw[l]at h c;simp only[Except.map]at h c⊢;have A:=ua l;have:=d (w:=x.1) h λe i=>c e (by rw[Vg.events_acc];simp_all);simp_all)|new o g d=>intro w w1 b h c;exact d _ h c|shape k g d=>intro w w1 b h c;exact d _ h c|freeze a n g d=>intro w w1 b h c;(have A:(w.freeze a n).drawn=w.drawn/\(w.freeze a n).tape=w.tape:=by unfold UL.freeze;grind);have:=d (w:=w.freeze a n) h c;rw[A.1,A.2]at this;simp only[Vg.run,Ct];exact this|frozen a g d=>intro w w1 b h c;exact d _ h c|getObj k g d=>intro w w1 b h c;(cases f:w.heap[k]? with|none=>simp only[Vg.run,f]at h;cases h|some o=>cases o<;>first|(simp only[Vg.run,f]at h;cases h;done)|(simp only[Vg.run,f,vQ]at h⊢;refine d _ h λe i=>c e ?_;simp only[Vg.events,Vg.runT,f];show e∈(g _).events P w _;rw[Vg.events_acc];exact SO.2 (.inr i)))|setObj k o g d=>intro w w1 b h c;cases f:w.heap[k]? with|none=>simp only[Vg.run,f]at h;cases h|some L=>cases L<;>first|(simp only[Vg.run,f]at h;cases h;done)|(simp only[Vg.run,f,vQ]at h⊢;refine d (w:={w with heap:=w.heap.setIfInBounds k o}) h λe i=>c e ?_;simp only[Vg.events,Vg.runT,f];show e∈g.events P _ _;rw[Vg.events_acc];exact SO.2 (.inr i))
def nE(r:bC):bC:=λb=>if(r b).isSome then UG b else UM
theorem p6{k:Nat}(h:r b=UG k):nE r b=UG b:=by simp[nE,h]
theorem nt{k:Nat}(h:nE r b=UG k):k=b/\∃j,r b=UG j:=by unfold nE at h;split at h;{rename_i e;cases h;exact⟨rfl,Option.isSome_iff_exists.1 e⟩};cases h
theorem dx.self{a a':Vs}(h:dx c r a a'):dx c (nE r) a a:=⟨p6 h.1,rfl,rfl,h.2.2.2⟩
theorem mA{x:Array UO}(b:x.size=x'.size)(h:∀(i:Nat)(v a:UO),x[i]?=UG v->x'[i]?=UG a->aj c (nE r) v v):∀(i:Nat)(v a:UO),x[i]?=UG v->x[i]?=UG a->aj c (nE r) v a:=by grind
theorem aj.self{v v':UO}(h:aj c r v v'):aj c (nE r) v v:=by induction h with|bool b=>exact .bool b|int k n=>exact .int k n|string s=>exact .string s|gO=>exact .gO|ptr a=>exact .ptr a.self|gP n m=>exact .gP n m|slice n m a=>exact .slice n m a.self|dh a l=>exact .dh a a|l8=>exact .l8|map a=>exact .map (p6 a)|func g i _ j _ e f=>exact .func g rfl (mA i e) rfl (mA j f)|nilFunc=>exact .nilFunc|nilIface=>exact .nilIface|iface t _ d=>exact .iface t d|agg s _ d=>exact .agg rfl (mA s d)|tuple s _ d=>exact .tuple rfl (mA s d)
theorem ak.self{x:Array UO}(h:ak c r x x'):ak c (nE r) x x:=⟨rfl,mA h.size λi v d a b=>(h.el i v d a b).self⟩
theorem mK.self{o o':Obj}(h:mK c r o o'):mK c (nE r) o o:=by cases h with|cells t f k=>exact .cells t f k.self|@map x j k s e=>refine .map k rfl λi d m a b=>?_;rw[a]at b;cases b;have g:=s▸(So.1 a).1;have:=e i d _ a (Su g);exact⟨this.key.self,this.val.self,rfl⟩|iter s p=>exact .iter s p|number l a=>exact .number l a.self
theorem ql.self{o o':Option Obj}(h:ql c r b o o'):ql c (nE r) b o o:=by cases h with|@seen x g t m j s l z y e=>refine .seen t t _ s l (Sm _) ⟨λ_=>rfl,y.2⟩ λi u p a b d=>?_;rw[b]at d;cases d;have f:=Sn (So.1 b).1 z;exact(e i u _ a b (Su f)).self|own n k=>exact .own n k.self
theorem cm.self(h:cm c r w v):cm c (nE r) w w:=by refine⟨λb k e=>?_,λb k e=>?_,λb g k e d=>?_,h.qa,λb f e=>h.hid b f (by unfold nE at e;simp_all),λb k e=>?_,rfl,rfl,h.old,λb k e _=>(nt e).1.symm,h.iT.1,h.iT.1⟩;{obtain⟨rfl,j,a⟩:=nt e;exact h.qg _ _ a};{obtain⟨rfl,j,a⟩:=nt e;exact h.qg _ _ a};{exact .inl ((nt e).1.symm.trans (nt d).1)};obtain⟨rfl,j,a⟩:=nt e;exact(h.blk _ _ a).self
theorem kL.self{l l':List (Va×Array UO×List Vj)}(h:kL c r l l'):kL c (nE r) l l:=by induction h with|nil=>exact .nil|cons a _ b=>exact .cons a.self b
theorem l9.self(h:l9 c r s s'):l9 c (nE r) s s:=⟨rfl,h.t.self,rfl,rfl,h.st.self⟩
theorem cm.re(h:cm c r w w)(T:Nat->VC->Nat)(D:Nat):cm c r (re w T D) (re w T D):=⟨h.qg,h.xV,h.inj,h.qa,h.hid,h.blk,rfl,rfl,h.old,h.aJ,h.iT⟩
theorem rm.zb{e:Vv}(h:rm c r e):e.loc≠.output:=by rcases h with⟨b,a,-⟩|h|⟨f,h⟩;{grind};{simp_all};simp_all
structure Fit(P:U9)(c:dG)(gl:Nat->Bool)(s:cg)(w:UL):Prop where
 ok:wY P c gl s
 rel:∃r,cm c r w w/\l9 c r s s/\∀g,gl g=UJ->r g=UG g
theorem Fit.re(h:Fit P c gl s w)(T:Nat->VC->Nat)(D:Nat):Fit P c gl s (re w T D):=by obtain⟨e,r,a,b,d⟩:=h;exact⟨e,r,a.re T D,b,d⟩
theorem Fit.AM(d:wY P c gl s)(h:cm c r w v)(a:l9 c r s s')(b:∀g,gl g=UJ->r g=UG g):Fit P c gl s w:=⟨d,nE r,h.self,a.self,λg e=>p6 (b g e)⟩
def bX(P:U9)(s:cg)(w:UL)(s1:cg)(w1:UL):Prop:=∃es,UY P UJ (s.g [dj]) w=.go (s1.g [dj]) w1 es
theorem Gg(h:st.map up=st'.map up):st=st':=by induction st generalizing st' with|nil=>simp_all|cons x l a=>cases st' with|nil=>simp at h|cons y b=>simp only[SH,Ta]at h;have:=h.1;simp only[up,cj]at this;grind
theorem E1(h:s.g [dj]=s'.g [dj]):s=s':=by obtain⟨f,t,k,b,o⟩:=s;obtain⟨l,p,n,a,j⟩:=s';simp only[cg.g,G,cj,UP.mk.injEq,U0.mk.injEq]at h;obtain⟨⟨d,e,g,-,m,-⟩,i,-⟩:=h;have:=Gg (Vr i);subst d e g this;(have:b=a:=by cases b<;>cases a<;>simp_all[md]);rw[this]
theorem Fit.step(p:Listed P c gl){s:cg}{w:UL}(h:Fit P c gl s w)(f:s.ret=UJ->s.st≠[]):(∃a b,bX P s w a b/\Fit P c gl a b)\/NX (UY P UJ (s.g [dj]) w):=by obtain⟨u,r,n,o,k⟩:=h;rcases tD p k n o u f with⟨a,b,d,i,t,y,C,v,A,j,x,q,-⟩|B;{refine .inl ⟨a,b,⟨d,i⟩,?_⟩;rw[i]at j;injection j with l m z;have:=E1 l;subst this m;exact⟨t,v,x.rel,q,λg e=>x.le _ _ (k g e)⟩};simp_all
theorem bX.Nk{w1:UL}(h:bX P s w s1 w1)(a:bX P s w s2 w2):s2=s1/\w2=w1:=by obtain⟨_,h⟩:=h;obtain⟨_,a⟩:=a;rw[h]at a;injection a with b d;exact⟨(E1 b).symm,d.symm⟩
def bL(P:U9)(s:cg)(w:UL)(s1:cg)(w1:UL):Prop:=
 w.drawn<=w1.drawn/\w1.tape=w.tape/\∀(T:Nat->VC->Nat)(D:Nat),(∀j q,w.drawn+j<w1.drawn->T (D+j) q=w.tape (w.drawn+j) q)->bX P s (re w T D) s1 (re w1 T (D+(w1.drawn-w.drawn)))
theorem bL.ctl{w1:UL}(a:bX P s w s1 w1)(h:∀w,UY P UJ (s.g [dj]) w=.go (s2.g [dj]) w #[]):bL P s w s1 w1:=by obtain⟨rfl,rfl⟩:=a.Nk ⟨#[],h w⟩;exact⟨Sm _,rfl,λT D _=>⟨#[],by simp_all⟩⟩
theorem bX.gG{w1:UL}(a:bX P s w s1 w1)(h:∃o w2,(UY P UJ (s.g [dj]) w).bare=.ended o w2):False:=by obtain⟨b,e⟩:=a;simp_all
theorem bX.qi{w1:UL}{ch:List PanicEntry}(d:bX P s w s1 w1)(h:UY P UJ (s.g [dj]) w=.go (G (cj f t k (.panicking ch)) cs) w2 es):False:=by obtain⟨a,e⟩:=d;rw[e]at h;injection h with h;simp only[cg.g,G,cj,UP.mk.injEq,U0.mk.injEq]at h;have:=h.1.2.2.2.2.1;cases b:s1.ret<;>simp[md,b]at this
theorem bL.D9{β:Type}{w1:UL}{x:Vg β}{b:β}(k:bX P s w s1 w1)(a:x.run P w=.ok b w2)(j:∀e∈x.events P w #[],e.loc≠.output)(h:∀w w2,x.run P w=.ok b w2->bX P s w s2 w2):bL P s w s1 w1:=by obtain⟨rfl,rfl⟩:=k.Nk (h w w2 a);obtain⟨d,f,g⟩:=yn x a j;exact⟨d,f,λT D i=>h _ _ (g T D i)⟩
theorem J2(v:Listed P c gl){w1:UL}(D:Fit P c gl ⟨f,t,.inRegion ops (i::rest)::k,Ul,st⟩ w)(q:bX P ⟨f,t,.inRegion ops (i::rest)::k,Ul,st⟩ w s1 w1)(l:ops[i]?=UG o)(a:Region.wanted o (U7 ops t)=UJ):bL P ⟨f,t,.inRegion ops (i::rest)::k,Ul,st⟩ w s1 w1:=by obtain⟨L,r,J,H,E⟩:=D;have I:=H.t;obtain⟨p,R⟩:=L.tg;have z:=nx p l;have d:=rY v.aJ v.ext z (ev:=(l7 f t ops i rest k).eval) (λx g=>pT I E v.qa x g) (λ_=>⟨rfl,rfl⟩) w w J;cases g:(UZ (l7 f t ops i rest k).eval o).run P w with|halt h y=>rw[g]at d;by_cases B:∃u,h=.panic u;{obtain⟨u,rfl⟩:=B;exact(q.qi (lQ l a g)).elim};exact(q.gG (mJ l a g d (λu e=>B ⟨u,e⟩))).elim|ok n y=>rw[g]at d;obtain⟨T,W,U,O,X,M,A⟩:=d;cases M with|@value u V S=>exact bL.D9 (s2:=⟨f,_,.inRegion ops rest::k,Ul,st⟩) q g (λe m=>(A e m).zb) λw y e=>⟨_,(jk l a e).trans (by rfl)⟩|skip=>exact bL.D9 (s2:=⟨f,_,.inRegion ops rest::k,Ul,st⟩) q g (λe m=>(A e m).zb) λw y e=>⟨_,(j4 l a e).trans (by rfl)⟩|@enter j x N F K=>obtain⟨n,b,C,Q⟩:=yM v F x N;exact bL.D9 (s2:=⟨j,x++Array.replicate (n-x.size) UT,[.code b],Ul,(f,t,.inRegion ops (i::rest)::k)::st⟩) q g (λe m=>(A e m).zb) λw y e=>⟨_,(i7 l a e).trans (by rw[C.1];rfl)⟩
theorem EO{w1:UL}(o:Fit P c gl ⟨f,t,k,UJ,(f0,t0,.inRegion ops (i::rest)::k0)::st⟩ w)(l:bX P ⟨f,t,k,UJ,(f0,t0,.inRegion ops (i::rest)::k0)::st⟩ w s1 w1):bL P ⟨f,t,k,UJ,(f0,t0,.inRegion ops (i::rest)::k0)::st⟩ w s1 w1:=by obtain⟨A,r,s,p,z⟩:=o;have q:=p.t;cases b:P.funcs[f]? with|none=>refine bL.ctl (s2:=⟨f0,(match(ops[i]?).bind (·.dst)with|some d=>t0.setIfInBounds d (t.getD 0 UT)|none=>t0),.inRegion ops rest::k0,Ul,st⟩) l λw=>?_;refine(bM b).trans ?_;rfl|some j=>have a:=ki j q (P:=P) w w s;cases m:(results j t).run P w with|halt h w1=>exact(l.gG (c8 b m)).elim|ok u x=>rw[m]at a;obtain⟨D,E,C,y,F,B,v⟩:=a;refine bL.D9 (s2:=⟨f0,(match(ops[i]?).bind (·.dst)with|some d=>t0.setIfInBounds d u|none=>t0),.inRegion ops rest::k0,Ul,st⟩) l m (λe n=>(v e n).zb) λw x e=>⟨seen P f ((results j t).events P w #[]),?_⟩;refine(aO b e).trans ?_;rfl
theorem bX.tape(F:Listed P c gl){w1:UL}(y:Fit P c gl s w)(H:s.ret=UJ->s.st≠[])(h:bX P s w s1 w1):bL P s w s1 w1:=by obtain⟨f,t,k,A,j⟩:=s;cases A with|true=>(cases j with|nil=>simp_all|cons x l=>obtain⟨K,N,M⟩:=x;obtain⟨-,-,g,i,p,D,e⟩:=y.ok.below _ (S0 ..);subst e;exact EO y h)|false=>cases k with|nil=>exact bL.ctl (s2:=⟨f,t,[],UJ,j⟩) h (λ_=>by rfl)|cons x k=>have m:=y.ok.items;cases x with|code a=>(cases a with|skip=>exact bL.ctl (s2:=⟨f,t,k,Ul,j⟩) h (λ_=>by rfl)|label l=>exact bL.ctl (s2:=⟨f,t,k,Ul,j⟩) h (λ_=>by rfl)|ret=>exact bL.ctl (s2:=⟨f,t,.code .ret::k,UJ,j⟩) h (λ_=>by rfl)|seq a b=>exact bL.ctl (s2:=⟨f,t,.code a::.code b::k,Ul,j⟩) h (λ_=>by rfl)|block id a=>exact bL.ctl (s2:=⟨f,t,.code a::.inBlock id::k,Ul,j⟩) h (λ_=>by rfl)|loop a=>exact bL.ctl (s2:=⟨f,t,.code a::.inLoop a::k,Ul,j⟩) h (λ_=>by rfl)|scope a=>exact bL.ctl (s2:=⟨f,t,.code a::.inScope a::k,Ul,j⟩) h (λ_=>by rfl)|refuse J=>exact(h.gG ⟨_,w,by rfl⟩).elim|exit id=>(cases z:exitTo id k with|none=>exact(h.gG ⟨_,w,by rw[cg.uW,iM z];rfl⟩).elim|some D=>exact bL.ctl (s2:=⟨f,t,D,Ul,j⟩) h (λ_=>by simp[cg.g,G,UY,UY.exec,cj,md,z]))|cond x a b=>(cases I:(cj f t (.code (.cond x a b)::k) .run).eval x with|bool u=>exact bL.ctl (s2:=⟨f,t,.code (if u then a else b)::k,Ul,j⟩) h λ_=>jW I|_=>exact(h.gG (jL λu e=>by simp_all)).elim)|region id g q=>(cases q with|false=>exact bL.ctl (s2:=⟨f,t,.inRegion g (List.range g.size)::k,Ul,j⟩) h (λ_=>by rfl)|true=>have E:∀w:UL,∃u B,(choose (.order f id)).run P w=.ok u B:=λw=>⟨_,_,rfl⟩;obtain⟨u,B,e⟩:=E w;refine bL.D9 (s2:=⟨f,t,.inRegion g (Region.schedule (P.follows .mixedOrders) g u)::k,Ul,j⟩) h e (λe z=>by simp_all) λw B e=>⟨#[],?_⟩;rw[cg.uW,j0,e];rfl)|rangeFunc _ _ _ _=>simp[aT,codeOk]at m|goto l=>simp[aT,codeOk]at m)|inBlock id=>exact bL.ctl (s2:=⟨f,t,k,Ul,j⟩) h (λ_=>by rfl)|inLoop a=>exact bL.ctl (s2:=⟨f,t,.code a::.inLoop a::k,Ul,j⟩) h (λ_=>by rfl)|inScope a=>exact bL.ctl (s2:=⟨f,t,k,Ul,j⟩) h (λ_=>by rfl)|inRegion g l=>(cases l with|nil=>exact bL.ctl (s2:=⟨f,t,k,Ul,j⟩) h (λ_=>by rfl)|cons i p=>cases v:((g[i]?).map (Region.wanted · (U7 g t))).getD Ul with|true=>(cases C:g[i]? with|none=>simp_all|some o=>exact J2 F y h C (by simp_all))|false=>refine bL.ctl (s2:=⟨f,(match(g[i]?).bind (·.dst)with|some d=>t.setIfInBounds d UT|none=>t),.inRegion g p::k,Ul,j⟩) h λw=>(stepG_unwanted v).trans ?_;rfl)|inRangeFunc _=>simp[aT]at m|endRangeFunc _=>simp[aT]at m|beginRound=>simp[aT]at m|call _ _ _ _=>simp[aT]at m|extern _ _=>simp[aT]at m
def wX(fr:U0)(cs:List U0):Prop:=
 (∃(f:Va)(t:Array UO)(k:List Vj)(ch:List PanicEntry)(st:List (Va×Array UO×List Vj)),fr=cj f t k (.panicking ch)/\cs=st.map up++[dj]/\(∀d w r sv,k.head?≠UG (.call d w r sv))/\∀x∈st,∃ops i rest k',x.2.2=.inRegion ops (i::rest)::k')\/
 (((∃ch,fr={dj with mode:=.panicking ch})\/fr=dj\/fr={dj with mode:=.returning})/\cs=[])
theorem wX.not{fr:U0}(h:wX fr [dj])(a:fr.mode=.returning):False:=by rcases h with⟨f,t,k,b,d,rfl,-⟩|⟨-,h⟩;{simp[cj]at a};cases h
theorem vk{fr:U0}(h:wX fr cs)(w:UL):(∃n m w',step P (lone fr cs w)=.next (lone n m w')/\wX n m)\/∃o w',step P (lone fr cs w)=.ended o w':=by rcases h with⟨f,t,k,j,A,rfl,rfl,B,q⟩|⟨h,rfl⟩;{(have u:(cj f t k (.panicking j)).catches P=Ul:=by unfold U0.catches;simp only[cj];grind);(have p:∀(x:U0)(l:List U0),UY P UJ {frame:=cj f t k (.panicking j),callers:=x::l,status:=.running,dying:=UM} w=.go {frame:=x.raise j,callers:=l,status:=.running,dying:=UM} w #[]:=by intro x l;unfold U0.catches cj at u;simp[UY,unwind,cj,U0.catches];simp_all);cases A with|nil=>exact .inl ⟨_,_,w,step_lone_go (by rw[show List.map up []++[dj]=[dj]from rfl,p];rfl),.inr ⟨.inl ⟨j,rfl⟩,rfl⟩⟩|cons x l=>obtain⟨z,i,s,C,e⟩:=q x (S0 ..);refine .inl ⟨_,_,w,step_lone_go (by rw[show List.map up (x::l)++[dj]=up x::(List.map up l++[dj])from rfl,p];rfl),.inl ⟨x.1,x.2.1,x.2.2,j,l,rfl,rfl,λd w r D=>by grind,λy v=>q y (SW _ v)⟩⟩};refine ?_;rcases h with⟨j,rfl⟩|rfl|rfl;{exact .inr ⟨_,w,step_lone_ended (by rfl)⟩};{exact .inl ⟨_,_,w,step_lone_go (by rfl),.inr ⟨.inr (.inr rfl),rfl⟩⟩};exact .inr ⟨_,w,step_lone_ended (by rfl)⟩
section
theorem runN_add:∀{k:Nat}{m m':Machine},runN P i m=.next m'->runN P (i+k) m=runN P k m':=by induction i with|zero=>intro k m m' h;cases h;simp|succ i a=>intro k m m' h;rw[show i+1+k=(i+k)+1 by omega];simp only[runN]at h⊢;grind
theorem xT{m m':Machine}(h:step P m=.next m'):runN P 1 m=.next m':=by simp[runN,h]
theorem nY:∀(n:Nat){fr:U0}{cs:List U0}{w:UL},wX fr cs->∀{fr':U0}{w':UL},runN P n (lone fr cs w)=.next (lone fr' [dj] w')->fr'.mode=.returning->False:=by intro n;induction n with|zero=>intro fr cs w h fr' w' e a;simp only[runN,lone,Stepped.next.injEq,Machine.mk.injEq]at e;have:=e.2.1;obtain⟨rfl,rfl⟩:=this;exact h.not a|succ n j=>intro fr cs w h fr' w' e a;simp only[runN]at e;rcases vk (P:=P) h w with⟨f,b,g,d,i⟩|⟨o,g,d⟩;{grind};simp_all
def ko(s:cg)(w:UL):Machine:=lone (cj s.f s.t s.k (md s.ret)) (s.st.map up++[dj]) w
theorem gy{w1:UL}{fr:U0}(h:UY P UJ (s.g [dj]) w=.go (G fr cs) w1 es):step P (ko s w)=.next (lone fr cs w1):=step_lone_go (by have:UY P UJ {frame:=cj s.f s.t s.k (md s.ret),callers:=s.st.map up++[dj],status:=.running,dying:=UM} w=.go (G fr cs) w1 es:=h;rw[this];rfl)
theorem bX.PQ{w1:UL}(h:bX P s w s1 w1):step P (ko s w)=.next (ko s1 w1):=by obtain⟨a,e⟩:=h;exact gy e
theorem Du(h:NX (UY P UJ (s.g [dj]) w))(e:runN P (n+1) (ko s w)=.next (lone fr' [dj] w'))(i:fr'.mode=.returning):False:=by simp only[runN]at e;rcases h with⟨o,a,h⟩|⟨f,t,k,b,j,a,l,h,d,g⟩;{rw[show step P (ko s w)=.ended o a from step_lone_ended h]at e;cases e};rw[gy h]at e;exact nY n (.inl ⟨f,t,k,b,j,rfl,rfl,d,g⟩) e i
theorem NX.not{w1:UL}(a:bX P s w s1 w1)(h:NX (UY P UJ (s.g [dj]) w)):False:=by rcases h with h|⟨f,t,k,b,e,w1,d,h,-⟩;{exact a.gG h};exact a.qi h
def Ea(s:cg):Prop:=s.ret=UJ/\s.st=[]
theorem Cy(p:Ea s)(e:runN P (n+1) (ko s w)=.next (lone fr' [dj] w'))(j:fr'.mode=.returning):False:=by obtain⟨f,t,k,q,z⟩:=s;obtain⟨d,g⟩:=p;subst d g;have i:wX dj []:=.inr ⟨.inr (.inl rfl),rfl⟩;have a:∀v,dj.finish v=dj:=λv=>rfl;simp only[runN]at e;cases b:P.funcs[f]? with|none=>rw[gy ((bM b).trans (by rw[a]))]at e;exact nY n i e j|some m=>cases l:(results m t).run P w with|halt h r=>obtain⟨o,y,h⟩:=c8 b l;rw[show step P (ko ⟨f,t,k,UJ,[]⟩ w)=.ended o y from step_lone_ended h]at e;cases e|ok u r=>rw[gy ((aO b l).trans (by rw[a]))]at e;exact nY n i e j
inductive Lone(P:U9)(Good:UO->UL->Prop):cg->UL->Prop
 |done{s:cg}{w:UL}{fn:Func}{v:UO}:Ea s->P.funcs[s.f]?=UG fn->(∀T D,(results fn s.t).run P (re w T D)=.ok v (re w T D)/\Good v (re w T D))->Lone P Good s w
 |step{s:cg}{w:UL}:¬Ea s->(∀T D,∃s1 w1,bX P s (re w T D) s1 w1)->(∀T D s1 w1,bX P s (re w T D) s1 w1->Lone P Good s1 w1)->Lone P Good s w
section bar
variable(P)(Good:UO->UL->Prop)
noncomputable def qX(p:cg×UL):(Nat->VC->Nat)×Nat:=open Classical in
 if h:∃a:(Nat->VC->Nat)×Nat,∀s1 w1,bX P p.1 (re p.2 a.1 a.2) s1 w1->¬Lone P Good s1 w1 then Classical.choose h else(λ_ _=>0,0)
def Live(p:cg×UL):Prop:=¬Ea p.1/\∃q:cg×UL,bX P p.1 (re p.2 (qX P Good p).1 (qX P Good p).2) q.1 q.2
noncomputable def FQ(p:cg×UL):cg×UL:=open Classical in if h:Live P Good p then Classical.choose h.2 else p
noncomputable def iu(p:cg×UL):Nat->cg×UL
 |0=>p
 |i+1=>FQ P Good (iu p i)
noncomputable def pos(p:cg×UL):Nat->Nat
 |0=>0
 |i+1=>open Classical in if Live P Good (iu P Good p i)then pos p i+((iu P Good p (i+1)).2.drawn-(qX P Good (iu P Good p i)).2)else pos p i
def NV(p:cg×UL)(i n:Nat):Prop:=pos P Good p i<=n/\(n<pos P Good p (i+1)\/¬Live P Good (iu P Good p i))
noncomputable def xw(p:cg×UL)(n:Nat)(q:VC):Nat:=open Classical in
 if h:∃i,NV P Good p i n then(qX P Good (iu P Good p (Classical.choose h))).1 ((qX P Good (iu P Good p (Classical.choose h))).2+(n-pos P Good p (Classical.choose h))) q else 0
end bar
section bar
theorem Fa(k:¬Lone P Good s w)(l:¬Ea s):∀d e,bX P s (re w (qX P Good (s,w)).1 (qX P Good (s,w)).2) d e->¬Lone P Good d e:=by(have h:∃a:(Nat->VC->Nat)×Nat,∀d e,bX P s (re w a.1 a.2) d e->¬Lone P Good d e:=by refine Td λj=>k ?_;refine .step l (λT D=>?_) (λT D d e g=>?_);{refine Td λf=>j ⟨(T,D),λd e g=>absurd ⟨d,e,g⟩ f⟩};refine Td λf=>j ⟨(T,D),λm n i=>?_⟩;obtain⟨rfl,rfl⟩:=g.Nk i;exact f);unfold qX;grind
theorem zL(h:Live P Good p):bX P p.1 (re p.2 (qX P Good p).1 (qX P Good p).2) (FQ P Good p).1 (FQ P Good p).2:=by unfold FQ;grind
theorem zN(h:¬Live P Good p):FQ P Good p=p:=by unfold FQ;simp_all
theorem sX(h:Live P Good (iu P Good p i)):pos P Good p (i+1)=pos P Good p i+((iu P Good p (i+1)).2.drawn-(qX P Good (iu P Good p i)).2):=by exact@if_pos _ (Classical.propDecidable _) h _ _ _
theorem zq(h:¬Live P Good (iu P Good p i)):pos P Good p (i+1)=pos P Good p i:=by exact@if_neg _ (Classical.propDecidable _) h _ _ _
theorem Gm(h:i<=j):pos P Good p i<=pos P Good p j:=by induction h with|refl=>omega|@step m _ b=>by_cases a:Live P Good (iu P Good p m);{rw[sX a];omega};rw[zq a];omega
theorem Dx(h:i<=j)(d:¬Live P Good (iu P Good p i)):iu P Good p j=iu P Good p i/\pos P Good p j=pos P Good p i:=by induction h with|refl=>simp|@step m _ b=>(have a:¬Live P Good (iu P Good p m):=by simp_all);exact⟨(zN a).trans b.1,(zq a).trans b.2⟩
theorem EB(h:NV P Good p i n)(q:VC):xw P Good p n q=(qX P Good (iu P Good p i)).1 ((qX P Good (iu P Good p i)).2+(n-pos P Good p i)) q:=by(have g:∀{i j:Nat},i<=j->NV P Good p i n->NV P Good p j n->iu P Good p j=iu P Good p i/\pos P Good p j=pos P Good p i:=by intro i j a e f;by_cases d:Live P Good (iu P Good p i);{rcases Nat.eq_or_lt_of_le a with rfl|b;{simp};have:=Gm (P:=P) (Good:=Good) (p:=p) (show i+1<=j from b);rcases e.2 with h|h;{have:=f.1;omega};simp_all};exact Dx a d);have k:∃i,NV P Good p i n:=⟨i,h⟩;unfold xw;grind
variable(hl:Listed P c gl)
include hl
theorem wR(j:Fit P c gl p.1 p.2)(k:¬Lone P Good p.1 p.2):∀i,Fit P c gl (iu P Good p i).1 (iu P Good p i).2/\¬Lone P Good (iu P Good p i).1 (iu P Good p i).2:=by intro i;induction i with|zero=>exact⟨j,k⟩|succ i b=>show Fit P c gl (FQ P Good (iu P Good p i)).1 (FQ P Good (iu P Good p i)).2/\¬Lone P Good (FQ P Good (iu P Good p i)).1 (FQ P Good (iu P Good p i)).2;by_cases h:Live P Good (iu P Good p i);{have a:=zL h;refine⟨?_,Fa b.2 h.1 _ _ a⟩;rcases(b.1.re _ _).step hl (λe d=>h.1 ⟨e,d⟩)with⟨o,q,f,n⟩|g;{obtain⟨l,m⟩:=f.Nk a;simp_all};exact(g.not a).elim};rw[zN h];exact b
theorem Gh(g:Fit P c gl p.1 p.2)(k:¬Lone P Good p.1 p.2)(h:Live P Good (iu P Good p i)):bX P (iu P Good p i).1 (re (iu P Good p i).2 (xw P Good p) (pos P Good p i)) (iu P Good p (i+1)).1 (re (iu P Good p (i+1)).2 (xw P Good p) (pos P Good p (i+1))):=by have l:=zL h;obtain⟨m,n,d⟩:=l.tape hl ((wR hl g k i).1.re _ _) (λe b=>h.1 ⟨e,b⟩);have a:(iu P Good p (i+1))=FQ P Good (iu P Good p i):=rfl;(have:=d (xw P Good p) (pos P Good p i) λj q o=>by have f:NV P Good p i (pos P Good p i+j):=⟨SY ..,.inl (by rw[sX h,a];have:(re (iu P Good p i).2 (qX P Good (iu P Good p i)).1 (qX P Good (iu P Good p i)).2).drawn=(qX P Good (iu P Good p i)).2:=rfl;omega)⟩;rw[EB f];show _=(qX P Good (iu P Good p i)).1 ((qX P Good (iu P Good p i)).2+j) q;simp);rw[sX h,a];exact this
theorem BX(a:Fit P c gl p.1 p.2)(b:¬Lone P Good p.1 p.2):∀i,(∀l,l<i->Live P Good (iu P Good p l))->runN P i (ko p.1 (re p.2 (xw P Good p) 0))=.next (ko (iu P Good p i).1 (re (iu P Good p i).2 (xw P Good p) (pos P Good p i))):=by intro i;induction i with|zero=>intro _;rfl|succ i d=>intro h;rw[runN_add (d λl hl=>h l Ω)];exact xT (Gh hl a b (h i Ω)).PQ
theorem pP(o:∀v w T D,Good v w->Good v (re w T D))(W:Fit P c gl s w)(H:∀T,∃n K w' v,runN P n (ko s (re w T 0))=.next (lone K [dj] w')/\K.leaving P w' (.returned v)/\Good v w'):Lone P Good s w:=by refine Td λhn=>?_;have f:Fit P c gl (s,w).1 (s,w).2:=W;have g:¬Lone P Good (s,w).1 (s,w).2:=hn;obtain⟨n,K,w',v,E,⟨C,hd,hk,J,R,h⟩,X⟩:=H (xw P Good (s,w));by_cases z:∀l,l<n->Live P Good (iu P Good (s,w) l);{have:=BX hl f g n z;rw[show ko (s,w).1 (re (s,w).2 (xw P Good (s,w)) 0)=ko s (re w (xw P Good (s,w)) 0)from rfl,E]at this;obtain⟨a,b⟩:=wR hl f g n;generalize iu P Good (s,w) n=q at this a b;simp only[ko,lone,Stepped.next.injEq,Machine.mk.injEq,T5,Ta,UP.mk.injEq,and_true]at this;obtain⟨rfl,rfl,A⟩:=this;(have B:Ea q.1:=by refine⟨?_,?_⟩;{cases E:q.1.ret with|true=>rfl|false=>rw[E]at C;cases C};cases hq:q.1.st with|nil=>rfl|cons x l=>rw[hq]at A;have:=congrArg List.length A;grind);refine b (.done (v:=v) B R λT D=>?_);(have O:∀e∈(results J q.1.t).events P (re q.2 (xw P Good (s,w)) (pos P Good (s,w) n)) #[],e.loc≠.output:=by obtain⟨ok,r,L,y,-⟩:=a.re (xw P Good (s,w)) (pos P Good (s,w) n);have:=ki J y.t (P:=P) _ _ L;rw[show(results J q.1.t).run P (re q.2 (xw P Good (s,w)) (pos P Good (s,w) n))=_ from h]at this;obtain⟨_,_,r1,_,_,_,l1⟩:=this;exactλe V=>(l1 e V).zb);obtain⟨-,-,M⟩:=yn _ h O;have N:=M T D λj q Z=>absurd Z Ω;rw[Nat.sub_self]at N;exact⟨N,o v (re q.2 (xw P Good (s,w)) (pos P Good (s,w) n)) T D X⟩};(have:∃i,i<n/\¬Live P Good (iu P Good (s,w) i)/\∀l,l<i->Live P Good (iu P Good (s,w) l):=by(have Q:∃i,i<n/\¬Live P Good (iu P Good (s,w) i):=by simp_all);obtain⟨i,hi⟩:=Q;induction i using Nat.strongRecOn with|_ i ih=>grind);obtain⟨i,Y,d,u⟩:=this;have L:=BX hl f g i u;obtain⟨k,rfl⟩:∃k,n=i+(k+1):=⟨n-i-1,by omega⟩;have y:=runN_add (k:=k+1) L;rw[show ko (s,w).1 (re (s,w).2 (xw P Good (s,w)) 0)=ko s (re w (xw P Good (s,w)) 0)from rfl,E]at y;obtain⟨a,b⟩:=wR hl f g i;by_cases F:Ea (iu P Good (s,w) i).1;{exact Cy F y.symm C};rcases(a.re (xw P Good (s,w)) (pos P Good (s,w) i)).step hl (λe I=>F ⟨e,I⟩)with⟨s1,w1,M,N⟩|U;{obtain⟨-,-,S⟩:=M.tape hl (a.re _ _) (λe I=>F ⟨e,I⟩);(have:=S (qX P Good (iu P Good (s,w) i)).1 (qX P Good (iu P Good (s,w) i)).2 λj q _=>by show _=xw P Good (s,w) (pos P Good (s,w) i+j) q;rw[EB (i:=i) ⟨SY ..,.inr d⟩,Uz]);exact d ⟨F,(s1,_),this⟩};exact Du U y.symm C
end bar
end
structure Env(own RO:Nat->Prop)(CU:Nat->Nat->Prop)(v v1:UL):Prop where
 keep:∀k,own k\/RO k->v1.heap[k]?=v.heap[k]?
 cut:∀k n,CU k n->∀(x:Array UO)(t:U8)(fr:Nat×Nat),v.heap[k]?=UG (.cells x t fr)->∃x' fr',v1.heap[k]?=UG (.cells x' t fr')/\x'.size=x.size/\∀o,o<n->x'[o]?=x[o]?
 grow:v.heap.size<=v1.heap.size
def Rz(own RO:Nat->Prop)(CU:Nat->Nat->Prop)(e:Vv):Prop:=
 (∃k,(match e.loc with|.cell a=>a.block=k|.obj j=>j=k|_=>False)/\(own k\/(RO k/\e.write=Ul))/\e.sync=Ul)\/(∃k n o,CU k n/\o<n/\e=⟨.cell ⟨k,o,UM⟩,Ul,Ul⟩)\/e.loc=.mark .noRoom\/∃f,e.loc=.mark (.extern f)
def more(own:Nat->Prop)(v v':UL):Nat->Prop:=λk=>own k\/(v.heap.size<=k/\k<v'.heap.size)
structure lB(own RO:Nat->Prop)(CU:Nat->Nat->Prop)(v v':UL)(es:Array Vv):Prop where
 keep:∀k,k<v.heap.size->¬own k->v'.heap[k]?=v.heap[k]?
 grow:v.heap.size<=v'.heap.size
 os:v'.os=v.os
 out:v'.output=v.output
 tape:v'.tape=v.tape
 evs:∀e∈es,Rz (more own v v') RO CU e
inductive Loc(P:U9)(main:Bool)(RO:Nat->Prop)(CU:Nat->Nat->Prop)(Stop:(Nat->Prop)->UP->UL->Prop):(Nat->Prop)->UP->UL->Prop
 |stop{own:Nat->Prop}{g:UP}{v:UL}:Stop own g v->Loc P main RO CU Stop own g v
 |step{own:Nat->Prop}{g:UP}{v:UL}:g.status=.running->(∀v1,Env own RO CU v v1->∃g' v' es,UY P main g v1=.go g' v' es/\lB own RO CU v1 v' es)->
  (∀v1 g' v' es,Env own RO CU v v1->UY P main g v1=.go g' v' es->Loc P main RO CU Stop (more own v1 v') g' v')->Loc P main RO CU Stop own g v
theorem Loc.bind{S S':(Nat->Prop)->UP->UL->Prop}{g:UP}(h:Loc P main RO CU S own g v)(k:∀own g v,S own g v->Loc P main RO CU S' own g v):Loc P main RO CU S' own g v:=by induction h with|stop h=>exact k _ _ _ h|step a h _ b=>exact .step a h b
theorem Env.refl(own RO:Nat->Prop)(CU:Nat->Nat->Prop)(v:UL):Env own RO CU v v:=⟨λ_ _=>rfl,λ_ _ _ x _ a h=>⟨x,a,h,rfl,λ_ _=>rfl⟩,Sm _⟩
structure Reach(c:dG)(r:bC)(own RO:Nat->Prop)(CU:Nat->Nat->Prop)(v:UL):Prop where
 xV:∀b k,r b=UG k->own k\/(c.seen b/\(RO k\/CU k (c.zR b)))
 old:∀k,own k\/RO k->k<v.heap.size
theorem cm.env(h:cm c r w v)(z:Reach c r own RO CU v)(f:Env own RO CU v v1):cm c r (Go.ae.re w v1.tape v1.drawn) v1:=⟨h.qg,λb k e=>Sn (h.xV b k e) f.grow,h.inj,h.qa,h.hid,λb k e=>by have:=h.blk b k e;rcases z.xV b k e with g|⟨C,g|g⟩;{rw[f.keep k (.inl g)];exact this};{rw[f.keep k (.inr g)];exact this};show ql c r b w.heap[b]? v1.heap[k]?;revert this;generalize w.heap[b]?=J;generalize j:v.heap[k]?=I;intro this;cases this with|@seen x A t m q s l D y e=>obtain⟨K,p,o,F,E⟩:=f.cut k _ g A m q j;rw[o];refine .seen t m p s l Ω y λi u H a b d=>?_;grind|own n _=>simp_all,rfl,rfl,h.old,h.aJ,h.iT.1,Sx h.iT.2 f.grow⟩
theorem Reach.env(a:Reach c r own RO CU v)(b:Env own RO CU v v1):Reach c r own RO CU v1:=⟨a.xV,λk h=>Sn (a.old k h) b.grow⟩
theorem Ext.mine(h:Ext c r w v r' w' v')(m:Reach c r own RO CU v)(u:∀e∈es,rm c r' e):lB own RO CU v v' es/\Reach c r' (more own v v') RO CU v':=by have q:=h.size;have D:=h.grow;(have f:∀b k,r' b=UG k->more own v v' k\/(c.seen b/\(RO k\/CU k (c.zR b))):=λb k e=>by rcases SZ b w.heap.size with g|g;{rw[h.xU b g]at e;rcases m.xV b k e with x|x;{exact .inl (.inl x)};simp_all};have n:=h.rel.qg b k e;have o:=h.rel.xV b k e;rw[h.new b g n]at e;cases e;exact .inl (.inr ⟨by omega,o⟩));refine⟨⟨λk d E=>h.keep k d λb g=>?_,by omega,h.os,h.out,h.tape,λe y=>?_⟩,f,λk d=>?_⟩;{rcases m.xV b k g with x|x;{simp_all};grind};{rcases u e y with⟨b,g,F,l⟩|x;{(have:∃k,(match e.loc with|.cell a=>a.block=k/\(c.seen b->a.off<c.zR b/\a.spot=UM)|.obj j=>j=k/\¬c.seen b|_=>False)/\r' b=UG k:=by grind);obtain⟨k,n,o⟩:=this;(have i:(match e.loc with|.cell a=>a.block=k|.obj j=>j=k|_=>False):=by grind);rcases f b k o with x|⟨q,x|x⟩;{exact .inl ⟨k,i,.inl x,l⟩};{refine .inl ⟨k,i,.inr ⟨x,?_⟩,l⟩;simp_all};refine .inr (.inl ?_);obtain⟨p,I,H⟩:=e;cases p with|cell a=>obtain⟨rfl,t⟩:=n;obtain⟨B,C⟩:=t q;obtain⟨z,A,s⟩:=a;grind|obj j=>simp_all|_=>grind};exact .inr (.inr x)};rcases d with(d|d)|d;{have:=m.old k (.inl d);omega};{exact d.2};have:=m.old k (.inr d);omega
structure Left(c:dG)(r:bC)(own RO:Nat->Prop)(v:UL)(own1:Nat->Prop)(v1:UL):Prop where
 keep:∀k,own k\/RO k->(∀b,r b=UG k->c.seen b)->v1.heap[k]?=v.heap[k]?
 mine:∀k,own1 k->own k\/v.heap.size<=k
 more:∀k,own k->own1 k
 grow:v.heap.size<=v1.heap.size
theorem Left.refl(c:dG)(r:bC)(own RO:Nat->Prop)(v:UL):Left c r own RO v own v:=⟨λ_ _ _=>rfl,λ_ h=>.inl h,λ_ h=>h,Sm _⟩
theorem Left.after{own1:Nat->Prop}{v2:UL}(n:Reach c r own RO CU v)(m:Env own RO CU v v1)(f:Ext c r w v1 r' w' v')(h:Left c r' (Go.ae.more own v1 v') RO v' own1 v2):Left c r own RO v own1 v2:=by have q:=f.size;have p:=f.grow;have j:=m.grow;(have l:∀b k,k<v1.heap.size->r' b=UG k->r b=UG k:=λb k a e=>by rcases SZ b w.heap.size with d|d;{rw[<-f.xU b d];exact e};have i:=f.rel.qg b k e;rw[f.new b d i]at e;grind);refine⟨λk a d=>?_,λk a=>?_,λk a=>h.more k (.inl a),by have:=h.grow;omega⟩;{have g:k<v1.heap.size:=Sn (n.old k a) j;rw[h.keep k (a.imp .inl id) λb e=>d b (l b k g e),f.keep k g d,m.keep k a]};rcases h.mine k a with(i|i)|i;{grind};{omega};omega
theorem Lone.loc(hl:Listed P c gl)(h:Lone P Good s w):∀{r:bC}{own:Nat->Prop}{v:UL}{s':cg},wY P c gl s->(∃T D,cm c r (re w T D) v)->l9 c r s s'->(∀g,gl g=UJ->r g=UG g)->Reach c r own RO CU v->(∀a x u p n v1,r.le a->Good u n->cm c a n v1->aj c a u p->Reach c a x RO CU v1->Left c r own RO v x v1->Loc P main RO CU Stop x (G (caller.finish p) cs) v1)->Loc P main RO CU Stop own (s'.g (caller::cs)) v:=by induction h with|@done s w U u ht H hd=>intro r own v s' hs⟨T,D,Z⟩Y W b K;obtain⟨f,t,k,ret,st⟩:=s;obtain⟨f',t',k',M,st'⟩:=s';obtain⟨e1,J,e2,e3,I⟩:=Y;simp only at e1 J e2 e3 I H;obtain⟨h1,h2⟩:=ht;simp only at h1 h2;subst f' k' M h1 h2;cases I;(have q:∀v1,Env own RO CU v v1->∃p j a,UY P main ((cg.mk f t' k UJ []).g (caller::cs)) v1=.go (G (caller.finish p) cs) j (seen P f ((results U t').events P v1 #[]))/\Ext c r (re w v1.tape v1.drawn) v1 a (re w v1.tape v1.drawn) j/\aj c a u p/\(∀e∈seen P f ((results U t').events P v1 #[]),rm c a e):=by intro v1 d;have E:cm c r (re w v1.tape v1.drawn) v1:=Z.env b d;have A:=ki U J (P:=P) _ _ E;rw[(hd v1.tape v1.drawn).1]at A;obtain⟨p,j,a,o,l,y,i⟩:=A;exact⟨p,j,a,aO H o,l,y,λe C=>i e (mem_seen C)⟩);refine .step rfl (λv1 d=>?_) (λv1 g' v' B d C=>?_);{obtain⟨p,j,a,o,l,y,i⟩:=q v1 d;exact⟨_,_,_,o,(l.mine (b.env d) i).1⟩};obtain⟨p,j,a,o,l,y,i⟩:=q v1 d;rw[o]at C;injection C with O Q R;subst O Q R;exact K a _ u p _ j l.le (hd v1.tape v1.drawn).2 l.rel y (l.mine (b.env d) i).2 (Left.after b d l (Left.refl ..))|@step s w X V hall ih=>intro r own v s' hs⟨T,D,Z⟩Y W b K;(have q:∀v1,Env own RO CU v v1->∃z n m j a B,bX P s (re w v1.tape v1.drawn) z n/\wY P c gl z/\UY P main (s'.g (caller::cs)) v1=.go (m.g (caller::cs)) j B/\Ext c r (re w v1.tape v1.drawn) v1 a n j/\l9 c a z m/\(∀e∈B,rm c a e):=by intro v1 d;have E:cm c r (re w v1.tape v1.drawn) v1:=Z.env b d;rcases tD (main:=main) (bs:=caller::cs) hl W E Y hs (λe e'=>X ⟨e,e'⟩)with⟨z,n,S,o,l,m,j,a,B,y,i,N,F⟩|hb;{exact⟨z,n,m,j,a,B,⟨S,o⟩,l,y,i,N,F⟩};obtain⟨z,n,o⟩:=V v1.tape v1.drawn;exact(hb.not o).elim);refine .step rfl (λv1 d=>?_) (λv1 g' v' B d C=>?_);{obtain⟨z,n,m,j,a,B,o,l,y,i,N,F⟩:=q v1 d;exact⟨_,_,_,y,(i.mine (b.env d) F).1⟩};obtain⟨z,n,m,j,a,es',o,l,y,i,N,F⟩:=q v1 d;rw[y]at C;injection C with O Q R;subst O Q R;refine ih v1.tape v1.drawn z n o l ⟨n.tape,n.drawn,i.rel⟩ N (λg e=>i.le _ _ (W g e)) (i.mine (b.env d) F).2 λr2 L u p w2 v3 c1 c2 c3 c4 c5 c6=>?_;exact K r2 L u p w2 v3 (bC.le_trans i.le c1) c2 c3 c4 c5 (Left.after b d i c6)
def entry(f:Va)(fn:Func)(b:VD)(args:Array UO):cg:=⟨f,args++Array.replicate (fn.ntmps-args.size) UT,[.code b],Ul,[]⟩
theorem uf(p:Listed P c gl){b:VD}(a:∀v w T D,Good v w->Good v (re w T D))(d:Fit P c gl (entry f fn b args) w)(m:P.funcs[f]?=UG fn)(l:fn.body=UG b)(H:∀T,Calls P f args (re w T 0) R)(k:∀e w',R e w'->∃v,e=.returned v/\Good v w'):Lone P Good (entry f fn b args) w:=by refine pP p a d λT=>?_;obtain⟨e,w',g,h,i,s,j⟩:=H T [dj];obtain⟨v,rfl,o⟩:=k e w' h;obtain⟨n,q⟩:=i;refine⟨n,g,w',v,?_,j,o⟩;rw[<-q];congr 1;rw[gI args m,l];rfl
theorem Loc.call(q:Listed P c gl){b:VD}{args':Array UO}(j:∀v w T D,Good v w->Good v (re w T D))(E:∀e w',R e w'->∃v,e=.returned v/\Good v w')(o:P.funcs[f]?=UG fn)(p:c.fns f=UJ)(n:fn.body=UG b)(t:∀g,gl g=UJ->r g=UG g)(a:ak c r args args')(i:cm c r w v)(s:Reach c r own RO CU v)(H:∀T,Calls P f args (re w T 0) R)(K:∀m d u A B v1,r.le m->Good u B->cm c m B v1->aj c m u A->Reach c m d RO CU v1->Left c r own RO v d v1->Loc P main RO CU Stop d (G (caller.finish A) cs) v1):Loc P main RO CU Stop own (G (U0.enter P f args' .normal) (caller::cs)) v:=by(have z:wY P c gl (entry f fn b args):=by refine⟨trivial,?_,λx F=>by simp[entry]at F⟩;obtain⟨I,h|⟨h,C⟩⟩:=q.body f fn p o;{simp_all};rw[n]at h;cases h;simp[entry,aT,C]);have y:l9 c r (entry f fn b args) (entry f fn b args'):=⟨rfl,by show ak c r (args++_) (args'++_);rw[a.size];exact a.append (.replicate _ fW),rfl,rfl,.nil⟩;have l:=Fit.AM z i y t;have k:=uf q j l o n H E;have:=k.loc q (main:=main) (RO:=RO) (CU:=CU) (Stop:=Stop) (caller:=caller) (cs:=cs) z ⟨w.tape,w.drawn,i⟩ y t s K;rw[gI args' o,n];exact this
structure fQ where
 k:Nat
 low:Nat
 t:U8
 x:Array UO
def fQ.obj(s:fQ):Obj:=.cells s.x (if s.low=0 then s.t else vY) (0,s.x.size)
def cL(g:Nat)(ws:List fQ)(v:UL):UL:={v with heap:=Array.replicate g (.cells #[] 0)++(ws.map fQ.obj).toArray}
def dw(P:U9)(fns:Va->Bool)(ws:List fQ):dG:=
 {fns:=fns,seen:=λb=>P.globals.size<=b/\b<P.globals.size+ws.length,zR:=λb=>if b<P.globals.size then 0 else((ws[b-P.globals.size]?).map λs=>s.x.size).getD 0,aJ:=P.globals.size,
   low:=λb=>if b<P.globals.size then 0 else((ws[b-P.globals.size]?).map λs=>s.low).getD 0}
def aeK(g:Nat)(ws:List fQ):bC:=λb=>if b<g then UM else(ws[b-g]?).map λs=>s.k
theorem eM{ws:List fQ}{k:Nat}(h:aeK g ws b=UG k):∃(i:Nat)(s:fQ),b=g+i/\ws[i]?=UG s/\s.k=k/\i<ws.length:=by unfold aeK at h;grind
theorem JV{ws:List fQ}{s:fQ}(h:ws[i]?=UG s):aeK g ws (g+i)=UG s.k:=by unfold aeK;simp_all
theorem jN(g:Nat)(ws:List fQ)(v:UL):(cL g ws v).heap.size=g+ws.length:=by simp[cL]
theorem vb{ws:List fQ}{s:fQ}(h:ws[i]?=UG s):(cL g ws v).heap[g+i]?=UG s.obj:=by show(Array.replicate g _++_)[g+i]?=_;grind
theorem At{ws:List fQ}(h:b<g):(cL g ws v).heap[b]?=UG (.cells #[] 0):=by show(Array.replicate g _++_)[b]?=_;grind
theorem bI{ws:List fQ}{o:Nat}{s:fQ}{u:UO}(h:ws[i]?=UG s)(a:s.x[o]?=UG u):(cL g ws v).cell? ⟨g+i,o,UM⟩=UG u:=by simp[UL.cell?,vb h,fQ.obj,a]
structure oj(P:U9)(fns:Va->Bool)(ws:List fQ)(v:UL):Prop where
 iT:P.globals.size<=v.heap.size
 bad:P.info? vY=UM
 at_:∀(i:Nat)(s:fQ),ws[i]?=UG s->∃(x':Array UO)(t':U8)(fr:Nat×Nat),v.heap[s.k]?=UG (.cells x' t' fr)/\s.x.size<=x'.size/\(s.low=0->s.t=t')/\
  ∀(j:Nat)(u u':UO),s.low<=j->s.x[j]?=UG u->x'[j]?=UG u'->aj (dw P fns ws) (aeK P.globals.size ws) u u'
theorem oj.rel{ws:List fQ}(h:oj P fns ws v):cm (dw P fns ws) (aeK P.globals.size ws) (cL P.globals.size ws v) v:=by refine⟨λb k e=>?_,λb k e=>?_,λb D k e w=>?_,λb g=>?_,λb g _=>At g,λb k e=>?_,rfl,rfl,λb g=>?_,λb k e q=>?_,?_⟩;{obtain⟨i,s,rfl,f,y,m⟩:=eM e;rw[jN];omega};{obtain⟨i,s,rfl,f,rfl,m⟩:=eM e;obtain⟨C,t,o,p,-⟩:=h.at_ i s f;grind};{obtain⟨i,s,rfl,f,y,m⟩:=eM e;obtain⟨I,J,rfl,x,z,A⟩:=eM w;exact .inr ⟨⟨SY _ _,by omega⟩,⟨SY _ _,by omega⟩⟩};{show(if b<P.globals.size then 0 else _)=0;split;{rfl};rename_i H;(have:ws[b-P.globals.size]?=UM:=by rw[List.getElem?_eq_none_iff];have:¬(P.globals.size<=b/\b<P.globals.size+ws.length):=g;omega);simp_all};{obtain⟨i,s,rfl,f,rfl,m⟩:=eM e;obtain⟨C,t,o,p,B,E,F⟩:=h.at_ i s f;rw[vb f,p];(have l:(dw P fns ws).low (P.globals.size+i)=s.low:=by show(if _<_ then 0 else _)=_;grind);refine .seen _ t o ⟨SY _ _,by omega⟩ ?_ B ⟨λn=>?_,λn=>?_⟩ λj u K a b d=>?_;{show _<=(if _<_ then 0 else _);grind};{simp_all};{rw[l]at n;rw[if_neg n];exact⟨rfl,SY _ _⟩};grind};{rw[jN];exact g.2};{obtain⟨i,s,rfl,f,rfl,m⟩:=eM e;have q:P.globals.size+i<P.globals.size:=q;omega};exact⟨by rw[jN];show P.globals.size<=_;omega,h.iT⟩
theorem gD{ws:List fQ}{off:Nat}{s:fQ}(h:ws[i]?=UG s)(a:s.low<=off):dx (dw P fns ws) (aeK P.globals.size ws) ⟨P.globals.size+i,off,UM⟩ ⟨s.k,off,UM⟩:=by refine⟨JV h,rfl,rfl,?_⟩;(have b:¬(P.globals.size+i<P.globals.size):=by omega);show(if P.globals.size+i<P.globals.size then 0 else((ws[P.globals.size+i-P.globals.size]?).map λs=>s.low).getD 0)<=off;grind
section
theorem CH{fr:U0}(h:wX fr cs)(e:lone fr cs w=ko s' w'):False:=by obtain⟨-,rfl,rfl⟩:=e;rcases h with⟨f,t,k,b,d,h,-⟩|⟨-,h⟩;{simp only[cj,U0.mk.injEq]at h;have:=h.2.2.2.2.1;cases a:s'.ret<;>rw[a]at this<;>simp[md]at this};simp at h
theorem mO:∀(n:Nat){fr:U0}{cs:List U0}{w:UL},wX fr cs->∀{s':cg}{w':UL},runN P n (lone fr cs w)=.next (ko s' w')->False:=by intro n;induction n with|zero=>intro fr cs w h s' w' e;simp only[runN,Stepped.next.injEq]at e;exact CH h e|succ n i=>intro fr cs w h s' w' e;simp only[runN]at e;rcases vk (P:=P) h w with⟨d,a,f,b,g⟩|⟨o,f,b⟩;{simp_all};simp_all
theorem Be(h:NX (UY P UJ (s.g [dj]) w))(e:runN P (n+1) (ko s w)=.next (ko s' w')):False:=by simp only[runN]at e;rcases h with⟨o,a,h⟩|⟨f,t,k,b,i,a,j,h,d,g⟩;{rw[show step P (ko s w)=.ended o a from step_lone_ended h]at e;cases e};rw[gy h]at e;exact mO n (.inl ⟨f,t,k,b,i,rfl,rfl,d,g⟩) e
theorem Ac(m:Ea s)(e:runN P (n+1) (ko s w)=.next (ko s' w')):False:=by obtain⟨f,t,k,p,y⟩:=s;obtain⟨d,g⟩:=m;subst d g;have i:wX dj []:=.inr ⟨.inr (.inl rfl),rfl⟩;have a:∀v,dj.finish v=dj:=λv=>rfl;simp only[runN]at e;cases b:P.funcs[f]? with|none=>rw[gy ((bM b).trans (by rw[a]))]at e;exact mO n i e|some l=>cases j:(results l t).run P w with|halt h q=>obtain⟨o,r,h⟩:=c8 b j;rw[show step P (ko ⟨f,t,k,UJ,[]⟩ w)=.ended o r from step_lone_ended h]at e;cases e|ok u q=>rw[gy ((aO b j).trans (by rw[a]))]at e;exact mO n i e
theorem Ib(h:ko s w=ko s' w'):s=s'/\w=w':=by simp only[ko,lone,Machine.mk.injEq,T5,Ta,UP.mk.injEq]at h;obtain⟨a,b,d⟩:=h;refine⟨E1 ?_,a⟩;simp only[cg.g,G,b,d]
inductive iG(P:U9)(Good:cg->UL->Prop):cg->UL->Prop
 |done{s:cg}{w:UL}:(∀T D,Good s (re w T D))->iG P Good s w
 |step{s:cg}{w:UL}:¬Good s w->¬Ea s->(∀T D,∃s1 w1,bX P s (re w T D) s1 w1)->(∀T D s1 w1,bX P s (re w T D) s1 w1->iG P Good s1 w1)->iG P Good s w
section bar
variable(P)(Good:cg->UL->Prop)
noncomputable def kS(p:cg×UL):(Nat->VC->Nat)×Nat:=open Classical in
 if h:∃a:(Nat->VC->Nat)×Nat,∀s1 w1,bX P p.1 (re p.2 a.1 a.2) s1 w1->¬iG P Good s1 w1 then Classical.choose h else(λ_ _=>0,0)
def ic(p:cg×UL):Prop:=¬Ea p.1/\∃q:cg×UL,bX P p.1 (re p.2 (kS P Good p).1 (kS P Good p).2) q.1 q.2
noncomputable def tI(p:cg×UL):cg×UL:=open Classical in if h:ic P Good p then Classical.choose h.2 else p
noncomputable def cQ(p:cg×UL):Nat->cg×UL
 |0=>p
 |i+1=>tI P Good (cQ p i)
noncomputable def jI(p:cg×UL):Nat->Nat
 |0=>0
 |i+1=>open Classical in if ic P Good (cQ P Good p i)then jI p i+((cQ P Good p (i+1)).2.drawn-(kS P Good (cQ P Good p i)).2)else jI p i
def Dy(p:cg×UL)(i n:Nat):Prop:=jI P Good p i<=n/\(n<jI P Good p (i+1)\/¬ic P Good (cQ P Good p i))
noncomputable def pg(p:cg×UL)(n:Nat)(q:VC):Nat:=open Classical in
 if h:∃i,Dy P Good p i n then(kS P Good (cQ P Good p (Classical.choose h))).1 ((kS P Good (cQ P Good p (Classical.choose h))).2+(n-jI P Good p (Classical.choose h))) q else 0
end bar
section bar
variable{Good:cg->UL->Prop}
theorem Cp(f:∀s w T D,Good s w->Good s (re w T D))(l:¬iG P Good s w)(n:¬Ea s):∀d e,bX P s (re w (kS P Good (s,w)).1 (kS P Good (s,w)).2) d e->¬iG P Good d e:=by(have h:∃a:(Nat->VC->Nat)×Nat,∀d e,bX P s (re w a.1 a.2) d e->¬iG P Good d e:=by refine Td λk=>l ?_;refine .step (λm=>l (.done λT D=>f _ _ T D m)) n (λT D=>?_) (λT D d e i=>?_);{refine Td λg=>k ⟨(T,D),λd e i=>absurd ⟨d,e,i⟩ g⟩};refine Td λg=>k ⟨(T,D),λo q j=>?_⟩;obtain⟨rfl,rfl⟩:=i.Nk j;exact g);unfold kS;grind
theorem uP(h:ic P Good p):bX P p.1 (re p.2 (kS P Good p).1 (kS P Good p).2) (tI P Good p).1 (tI P Good p).2:=by unfold tI;grind
theorem uL(h:¬ic P Good p):tI P Good p=p:=by unfold tI;simp_all
theorem qF(h:ic P Good (cQ P Good p i)):jI P Good p (i+1)=jI P Good p i+((cQ P Good p (i+1)).2.drawn-(kS P Good (cQ P Good p i)).2):=by exact@if_pos _ (Classical.propDecidable _) h _ _ _
theorem vh(h:¬ic P Good (cQ P Good p i)):jI P Good p (i+1)=jI P Good p i:=by exact@if_neg _ (Classical.propDecidable _) h _ _ _
theorem DQ(h:i<=j):jI P Good p i<=jI P Good p j:=by induction h with|refl=>omega|@step m _ b=>by_cases a:ic P Good (cQ P Good p m);{rw[qF a];omega};rw[vh a];omega
theorem Bi(h:i<=j)(d:¬ic P Good (cQ P Good p i)):cQ P Good p j=cQ P Good p i/\jI P Good p j=jI P Good p i:=by induction h with|refl=>simp|@step m _ b=>(have a:¬ic P Good (cQ P Good p m):=by simp_all);exact⟨(uL a).trans b.1,(vh a).trans b.2⟩
theorem B3(h:Dy P Good p i n)(q:VC):pg P Good p n q=(kS P Good (cQ P Good p i)).1 ((kS P Good (cQ P Good p i)).2+(n-jI P Good p i)) q:=by(have g:∀{i j:Nat},i<=j->Dy P Good p i n->Dy P Good p j n->cQ P Good p j=cQ P Good p i/\jI P Good p j=jI P Good p i:=by intro i j a e f;by_cases d:ic P Good (cQ P Good p i);{rcases Nat.eq_or_lt_of_le a with rfl|b;{simp};have:=DQ (P:=P) (Good:=Good) (p:=p) (show i+1<=j from b);rcases e.2 with h|h;{have:=f.1;omega};simp_all};exact Bi a d);have k:∃i,Dy P Good p i n:=⟨i,h⟩;unfold pg;grind
variable(hl:Listed P c gl)(hGood:∀s w T D,Good s w->Good s (re w T D))
include hl hGood
theorem sd(j:Fit P c gl p.1 p.2)(k:¬iG P Good p.1 p.2):∀i,Fit P c gl (cQ P Good p i).1 (cQ P Good p i).2/\¬iG P Good (cQ P Good p i).1 (cQ P Good p i).2:=by intro i;induction i with|zero=>exact⟨j,k⟩|succ i b=>show Fit P c gl (tI P Good (cQ P Good p i)).1 (tI P Good (cQ P Good p i)).2/\¬iG P Good (tI P Good (cQ P Good p i)).1 (tI P Good (cQ P Good p i)).2;by_cases h:ic P Good (cQ P Good p i);{have a:=uP h;refine⟨?_,Cp hGood b.2 h.1 _ _ a⟩;rcases(b.1.re _ _).step hl (λe d=>h.1 ⟨e,d⟩)with⟨o,q,f,n⟩|g;{obtain⟨l,m⟩:=f.Nk a;simp_all};exact(g.not a).elim};rw[uL h];exact b
theorem DO(g:Fit P c gl p.1 p.2)(k:¬iG P Good p.1 p.2)(h:ic P Good (cQ P Good p i)):bX P (cQ P Good p i).1 (re (cQ P Good p i).2 (pg P Good p) (jI P Good p i)) (cQ P Good p (i+1)).1 (re (cQ P Good p (i+1)).2 (pg P Good p) (jI P Good p (i+1))):=by have l:=uP h;obtain⟨m,n,d⟩:=l.tape hl ((sd hl hGood g k i).1.re _ _) (λe b=>h.1 ⟨e,b⟩);have a:(cQ P Good p (i+1))=tI P Good (cQ P Good p i):=rfl;(have:=d (pg P Good p) (jI P Good p i) λj q o=>by have f:Dy P Good p i (jI P Good p i+j):=⟨SY ..,.inl (by rw[qF h,a];have:(re (cQ P Good p i).2 (kS P Good (cQ P Good p i)).1 (kS P Good (cQ P Good p i)).2).drawn=(kS P Good (cQ P Good p i)).2:=rfl;omega)⟩;rw[B3 f];show _=(kS P Good (cQ P Good p i)).1 ((kS P Good (cQ P Good p i)).2+j) q;simp);rw[qF h,a];exact this
theorem yE(a:Fit P c gl p.1 p.2)(b:¬iG P Good p.1 p.2):∀i,(∀l,l<i->ic P Good (cQ P Good p l))->runN P i (ko p.1 (re p.2 (pg P Good p) 0))=.next (ko (cQ P Good p i).1 (re (cQ P Good p i).2 (pg P Good p) (jI P Good p i))):=by intro i;induction i with|zero=>intro _;rfl|succ i d=>intro h;rw[runN_add (d λl hl=>h l Ω)];exact xT (DO hl hGood a b (h i Ω)).PQ
theorem um(E:Fit P c gl s w)(H:∀T,∃n s' w',runN P n (ko s (re w T 0))=.next (ko s' w')/\Good s' w'):iG P Good s w:=by refine Td λJ=>?_;have d:Fit P c gl (s,w).1 (s,w).2:=E;have f:=J;obtain⟨n,s',w',x,F⟩:=H (pg P Good (s,w));by_cases o:∀l,l<n->ic P Good (cQ P Good (s,w) l);{have:=yE hl hGood d f n o;rw[show ko (s,w).1 (re (s,w).2 (pg P Good (s,w)) 0)=ko s (re w (pg P Good (s,w)) 0)from rfl,x]at this;obtain⟨b,g⟩:=sd hl hGood d f n;obtain⟨y,L⟩:=Ib (Stepped.next.inj this);refine g (.done λT D=>?_);have:=hGood _ _ T D F;simp_all};(have:∃i,i<n/\¬ic P Good (cQ P Good (s,w) i)/\∀l,l<i->ic P Good (cQ P Good (s,w) l):=by(have v:∃i,i<n/\¬ic P Good (cQ P Good (s,w) i):=by simp_all);obtain⟨i,N⟩:=v;induction i using Nat.strongRecOn with|_ i O=>grind);obtain⟨i,I,a,m⟩:=this;have z:=yE hl hGood d f i m;obtain⟨k,rfl⟩:∃k,n=i+(k+1):=⟨n-i-1,by omega⟩;have u:=runN_add (k:=k+1) z;rw[show ko (s,w).1 (re (s,w).2 (pg P Good (s,w)) 0)=ko s (re w (pg P Good (s,w)) 0)from rfl,x]at u;obtain⟨b,g⟩:=sd hl hGood d f i;by_cases r:Ea (cQ P Good (s,w) i).1;{exact Ac r u.symm};rcases(b.re (pg P Good (s,w)) (jI P Good (s,w) i)).step hl (λe t=>r ⟨e,t⟩)with⟨K,Q,A,M⟩|C;{obtain⟨-,-,B⟩:=A.tape hl (b.re _ _) (λe t=>r ⟨e,t⟩);(have:=B (kS P Good (cQ P Good (s,w) i)).1 (kS P Good (cQ P Good (s,w) i)).2 λj q _=>by show _=pg P Good (s,w) (jI P Good (s,w) i+j) q;rw[B3 ⟨SY ..,.inr a⟩,Uz]);exact a ⟨r,(K,_),this⟩};exact Be C u.symm
end bar
end
def R0:Vj:=.code (.refuse "")
def Es(live:Nat->Bool):Vh->Bool
 |.tmp i=>live i
 |_=>UJ
def oa(live:Nat->Bool)(o:VB):Bool:=o.op.operands.all (Es live)&&(match o.dst with|some d=>live d|none=>UJ)
def nk(live:Nat->Bool)(ops:Array VB)(o:VB):Bool:=match o.guard with|none=>UJ|some (j,_)=>(match(ops[j]?).bind (·.dst)with|some d=>live d|none=>UJ)
def rv(live:Nat->Bool)(ops:Array VB)(i:Nat):Bool:=match ops[i]? with|some o=>oa live o&&nk live ops o|none=>UJ
theorem yF(h:ops.all (λo=>oa live o&&nk live ops o)=UJ)(l:List Nat):l.all (rv live ops)=UJ:=by rw[S7];intro i _;unfold rv;grind
def gh(live:Nat->Bool):VD->Bool
 |.region _ ops _=>ops.all (λo=>oa live o&&nk live ops o)
 |.seq a b=>gh live a&&gh live b
 |.cond x a b=>Es live x&&gh live a&&gh live b
 |.block _ a|.loop a|.scope a=>gh live a
 |.ret=>Ul
 |_=>UJ
def cS(live:Nat->Bool):Vj->Bool
 |.code a|.inLoop a|.inScope a=>gh live a
 |.inRegion ops l=>l.all (rv live ops)
 |_=>UJ
structure de where
 f:Va
 defers:List Deferred
 kind:CallKind
 roundOf:Option Nat
 l2:Option (Array VB×List Nat)
 tail:List Vj
 live:Nat->Bool
 t0:Array UO
def de.ov(d:de)(t:Array UO):Array UO:=t.mapIdx λi v=>if d.live i then v else d.t0.getD i UT
def de.bot(d:de)(t:Array UO)(k':List Vj):U0:={fn:=d.f,tmps:=d.ov t,todo:=k',defers:=d.defers,mode:=.run,kind:=d.kind,roundOf:=d.roundOf}
inductive Gl(d:de):List Vj->List Vj->Prop
 |app{init:List Vj}:d.l2=UM->init.all (cS d.live)=UJ->Gl d (init++[R0]) (init++d.tail)
 |reg{ops:Array VB}{l1 l2:List Nat}:d.l2=UG (ops,l2)->l1.all (rv d.live ops)=UJ->Gl d [.inRegion ops l1,R0] (.inRegion ops (l1++l2)::d.tail)
 |fin{ops:Array VB}{l2:List Nat}:d.l2=UG (ops,l2)->Gl d [R0] (.inRegion ops l2::d.tail)
def de.end(d:de)(k:List Vj):Prop:=k=[R0]\/(d.l2.isSome=UJ/\∃ops,k=[.inRegion ops [],R0])
inductive IY(d:de):Bool->Va×Array UO×List Vj->U0->Prop
 |up{f:Va}{t:Array UO}{k:List Vj}:IY d Ul (f,t,k) (cj f t k .run)
 |bot{t:Array UO}{k k':List Vj}:Gl d k k'->IY d UJ (d.f,t,k) (d.bot t k')
theorem Kq{d:de}(h:d.live i=UJ):(d.ov t).getD i UT=t.getD i UT:=by simp only[de.ov,Sr,T4];simp_all
theorem Mi{d:de}(h:d.live i=UJ):(d.ov t)[i]?=t[i]?:=by simp only[de.ov,T4];simp_all
theorem MH{d:de}(h:d.live i=UJ)(v:UO):(d.ov t).setIfInBounds i v=d.ov (t.setIfInBounds i v):=by apply Tj;intro j;simp only[de.ov,Ti,T4,T3];grind
theorem Ca{d:de}{m:FrameMode}(x:Vh)(h:Es d.live x=UJ):(d.bot t k').eval x=(cj f t k m).eval x:=by cases x with|tmp i=>exact Kq h|_=>rfl
theorem execOp_congr{ev ev':Vh->UO}(f:∀cs b,o.op≠.select cs b)(h:∀x∈o.op.operands,ev x=ev' x):UZ ev o=UZ ev' o:=by have m:∀(l:Array Vh),(∀x∈l,ev x=ev' x)->l.map ev=l.map ev':=λl d=>Vn d;(have s:∀(x:Option Vh),(∀y∈x,ev y=ev' y)->x.map ev=x.map ev':=λx d=>by cases x with|none=>rfl|some y=>simp_all);(have u:∀(j:Array (Nat×Vh)),(∀p∈j,ev p.2=ev' p.2)->(j.map λ(i,x)=>(i,ev x))=(j.map λ(i,x)=>(i,ev' x)):=λj d=>Vn λp g=>by grind);(have v:∀(k:Call)(t:U8),(∀x∈k.operands,ev x=ev' x)->resolve ev k t=resolve ev' k t:=λk t d=>by obtain⟨a,e,q⟩:=k;have r:e.map ev=e.map ev':=m _ λx n=>d x (by cases a<;>simp[Call.operands,n]);unfold resolve;cases a<;>simp only[r];{rw[d _ (by simp[Call.operands])]};rw[d _ (by simp[Call.operands])]);unfold UZ;revert h f;(cases o.op<;>intro f h<;>simp only[Op.operands]at h<;>first|rfl|(simp only[List.mem_toArray,Sv,SV,or_false,forall_eq,forall_eq_or_imp]at h;simp only[h];done)|(simp only[];rw[u _ (λp g=>h _ (by simp only[List.mem_toArray,Sw];exact⟨p,by simpa using g,rfl⟩))];done)|(simp only[];rw[m _ (λx d=>h x (SO.2 (.inl d))),m _ (λx d=>h x (SO.2 (.inr d)))];done)|(simp only[];rw[s _ (λx d=>h x (by simpa using d))];done)|(simp only[];rw[v _ _ h];done)|(exact absurd rfl (f _ _))|skip);simp_all
section
variable{d:de}{b:Bool}{cs0:List U0}{g1:UP}{x:Vj}
theorem Gl.cons(h:Gl d (x::kr) k')(j:x≠R0):(∃init,d.l2=UM/\kr=init++[R0]/\k'=x::(init++d.tail)/\cS d.live x=UJ/\init.all (cS d.live)=UJ)\/(∃ops i l,d.l2=UG (ops,l)/\x=.inRegion ops i/\kr=[R0]/\k'=.inRegion ops (i++l)::d.tail/\i.all (rv d.live ops)=UJ):=by generalize a:x::kr=k at h;cases h with|@app init g e=>(cases init with|nil=>simp at a;exact absurd a.1 j|cons y init=>obtain⟨rfl,rfl⟩:=a;simp only[SE,Qaa]at e;exact .inl ⟨init,g,rfl,rfl,e.1,e.2⟩)|reg g e=>simp only[Ta]at a;exact .inr ⟨_,_,_,g,a.1,a.2,rfl,e⟩|fin g=>simp only[Ta]at a;exact absurd a.1 j
theorem Gl.xL(h:Gl d (x::kr) k')(e:x≠R0)(a:∀ops l,x≠.inRegion ops l):∃init,d.l2=UM/\kr=init++[R0]/\k'=x::(init++d.tail)/\cS d.live x=UJ/\init.all (cS d.live)=UJ:=by rcases h.cons e with h|⟨ops,g,_,_,h,_⟩;{exact h};exact absurd h (a _ _)
theorem Gl.mk'{init:List Vj}(pre:List Vj)(a:d.l2=UM)(e:init.all (cS d.live)=UJ)(g:pre.all (cS d.live)=UJ):Gl d (pre++(init++[R0])) (pre++(init++d.tail)):=by rw[<-TM,<-TM];exact .app a (by simp[g,e])
theorem mq{tail:List Vj}{p:Vj->Bool}:∀{init k1:List Vj},init.all p=UJ->exitTo id (init++[R0])=UG k1->∃g,k1=g++[R0]/\g.all p=UJ/\exitTo id (init++tail)=UG (g++tail)|[],_,_,h=>by simp[exitTo,R0]at h|x::l,k1,j,h=>by simp only[SE,Qaa]at j;rw[Tp]at h;unfold exitTo at h;split at h;{rename_i s u e;cases e;split at h;{rename_i i;cases h;exact⟨l,rfl,j.2,by simp[exitTo,i]⟩};rename_i i;obtain⟨r,m,n,o⟩:=mq (tail:=tail) j.2 h;exact⟨r,m,n,by simp[exitTo,i,o]⟩};{rename_i y u q e;cases e;obtain⟨r,m,n,o⟩:=mq (tail:=tail) j.2 h;refine⟨r,m,n,?_⟩;rw[Tp];unfold exitTo;split;{rename_i e;cases e;exact absurd rfl (q _)};{rename_i e;cases e;exact o};rename_i e;cases e};rename_i e;cases e
def After(P:U9)(main:Bool)(d:de)(b:Bool)(f:Va)(t:Array UO)(k:List Vj)(F:U0)(cs0:List U0)(v v':UL)(g1:UP)(es:Array Vv):Prop:=
 (∃t1 k1 F1,g1=G (cj f t1 k1 .run) cs0/\IY d b (f,t1,k1) F1/\∀cs,UY P main (G F cs) v=.go (G F1 cs) v' es)\/
 (∃j t1 k1,g1=G (cj j t1 k1 .run) (cj f t k .run::cs0)/\∀cs,UY P main (G F cs) v=.go (G (cj j t1 k1 .run) (F::cs)) v' es)\/
 (b=Ul/\∃k1,g1=G (cj f t k1 .returning) cs0/\∀cs,UY P main (G F cs) v=.go (G (cj f t k1 .returning) cs) v' es)
theorem After.ctl(e:UY P main (G (cj f t k .run) cs0) v=.go g1 v' es)(o:IY d b (f,t,k) F)(L:∀cs,UY P main (G (cj f t k .run) cs) v=.go (G (cj f t k1 .run) cs) v #[])(g:b=UJ->∀k',Gl d k k'->∃a,Gl d k1 a/\∀cs,UY P main (G (d.bot t k') cs) v=.go (G (d.bot t a) cs) v #[]):After P main d b f t k F cs0 v v' g1 es:=by rw[L]at e;injection e with i j l;subst i j l;cases o with|up=>exact .inl ⟨t,k1,_,rfl,.up,L⟩|bot h=>obtain⟨a,m,n⟩:=g rfl _ h;exact .inl ⟨t,k1,_,rfl,.bot m,n⟩
theorem After.ret(a:UY P main (G (cj f t k .run) cs0) v=.go g1 v' es)(j:IY d b (f,t,k) F)(L:∀cs,UY P main (G (cj f t k .run) cs) v=.go (G (cj f t k1 .returning) cs) v #[])(l:∀k',¬Gl d k k'):After P main d b f t k F cs0 v v' g1 es:=by rw[L]at a;injection a with e g i;subst e g i;cases j with|up=>exact .inr (.inr ⟨rfl,k1,rfl,L⟩)|bot h=>exact absurd h (l _)
theorem jO(a:(match(ops[i]?).bind (·.dst)with|some j=>d.live j|none=>UJ)=UJ)(u:UO):(d.bot t (.inRegion ops (i::rest')::kk)).finish u=d.bot (match(ops[i]?).bind (·.dst)with|some j=>t.setIfInBounds j u|none=>t) (.inRegion ops rest'::kk):=by simp only[de.bot,U0.finish];cases e:(ops[i]?).bind (·.dst)with|none=>rfl|some j=>rw[e]at a;simp only at a⊢;rw[MH a]
section op
variable{w1:UL}
abbrev fB(d:de)(t:Array UO)(ops:Array VB)(i:Nat)(rest:List Nat)(kk:List Vj):U0:=d.bot t (.inRegion ops (i::rest)::kk)
theorem vK{u:UO}(q:d.kind≠.early)(p:∀c,o.op≠.defer c)(m:ops[i]?=UG o)(n:Region.wanted o (U7 ops (d.ov t))=UJ)(j:(UZ (fB d t ops i rest kk).eval o).run P w=.ok (.value u) w1):UY P main (G (fB d t ops i rest kk) cs) w=.go (G ((fB d t ops i rest kk).finish u) cs) w1 (seen P d.f ((UZ (fB d t ops i rest kk).eval o).events P w #[])):=by simp only[de.bot]at j;(have a:=by simpa using q);cases g:d.roundOf with|none=>simp[G,UY,UY.exec,UY.oper,UY.apply,U0.oper?,de.bot,m,n,g,a];rw[<-g,j];simp[GStep.after]|some l=>simp only[G,UY,UY.exec,UY.oper,U0.oper?,de.bot,m,n,SC,SI,if_true];split;{rename_i e;exact absurd e (p _)};simp[UY.apply,j,GStep.after,a]
theorem zn(q:d.kind≠.early)(p:∀c,o.op≠.defer c)(m:ops[i]?=UG o)(n:Region.wanted o (U7 ops (d.ov t))=UJ)(j:(UZ (fB d t ops i rest kk).eval o).run P w=.ok .skip w1):UY P main (G (fB d t ops i rest kk) cs) w=.go (G ((fB d t ops i rest kk).finish UT) cs) w1 (seen P d.f ((UZ (fB d t ops i rest kk).eval o).events P w #[])):=by simp only[de.bot]at j;(have a:=by simpa using q);cases g:d.roundOf with|none=>simp[G,UY,UY.exec,UY.oper,UY.apply,U0.oper?,de.bot,m,n,g,a];rw[<-g,j];simp[GStep.after]|some l=>simp only[G,UY,UY.exec,UY.oper,U0.oper?,de.bot,m,n,SC,SI,if_true];split;{rename_i e;exact absurd e (p _)};simp[UY.apply,j,GStep.after,a]
theorem vL{j:Va}(r:d.kind≠.early)(q:∀c,o.op≠.defer c)(n:ops[i]?=UG o)(p:Region.wanted o (U7 ops (d.ov t))=UJ)(m:(UZ (fB d t ops i rest kk).eval o).run P w=.ok (.enter j args) w1):UY P main (G (fB d t ops i rest kk) cs) w=.go (G (U0.enter P j args .normal) (fB d t ops i rest kk::cs)) w1 (seen P d.f ((UZ (fB d t ops i rest kk).eval o).events P w #[])):=by simp only[de.bot]at m;(have a:=by simpa using r);cases g:d.roundOf with|none=>simp[G,UY,UY.exec,UY.oper,UY.apply,U0.oper?,de.bot,n,p,g,a];rw[<-g,m];simp[GStep.after]|some l=>simp only[G,UY,UY.exec,UY.oper,U0.oper?,de.bot,n,p,SC,SI,if_true];split;{rename_i e;exact absurd e (q _)};simp[UY.apply,m,GStep.after,a]
theorem rz(h:((ops[i]?).map (Region.wanted · (U7 ops (d.ov t)))).getD Ul=Ul):UY P main (G (fB d t ops i rest kk) cs) w=.go (G ((fB d t ops i rest kk).finish UT) cs) w #[]:=by simp only[G,UY,UY.exec,de.bot,h,SB,if_false]
end op
theorem vp(h:nk d.live ops o=UJ):Region.wanted o (U7 ops (d.ov t))=Region.wanted o (U7 ops t):=by unfold Region.wanted;unfold nk at h;cases g:o.guard with|none=>rfl|some p=>obtain⟨j,b⟩:=p;rw[g]at h;simp only at h⊢;unfold U7;cases e:(ops[j]?).bind (·.dst)with|none=>rfl|some i=>rw[e]at h;simp only[Te];rw[Mi h]
theorem kR(h:rv live ops i=UJ)(a:ops[i]?=UG o):oa live o=UJ/\nk live ops o=UJ:=by unfold rv at h;rw[a]at h;simpa using h
theorem EG(h:pJ P c gl o=UJ):(∀cs b,o.op≠.select cs b)/\∀k,o.op≠.defer k:=by constructor;{intro a b e;rw[pJ,e]at h;simp at h};intro a e;rw[pJ,e]at h;simp at h
theorem FH(j:Va)(x:Array UO):∃e k1,U0.enter P j x .normal=cj j e k1 .run:=by cases a:P.funcs[j]? with|none=>exact⟨_,_,nU x a⟩|some g=>exact⟨_,_,gI x a⟩
def RY:Next->Prop
 |.value _|.skip|.enter _ _=>True
 |_=>False
def AX(P:U9)(f:Va)(t:Array UO)(k:List Vj)(v:UL):Prop:=
 ∀ops i rest kk o,k=.inRegion ops (i::rest)::kk->ops[i]?=UG o->Region.wanted o (U7 ops t)=UJ->∃n w1,(UZ (l7 f t ops i rest kk).eval o).run P v=.ok n w1/\RY n
theorem IY.step(D:UY P main (G (cj f t k .run) cs0) v=.go g1 v' es)(Z:k.all (aT P c gl)=UJ)(R:IY d b (f,t,k) F)(he:d.kind≠.early)(hend:b=UJ->¬d.end k)(hrun:AX P f t k v)(hp:∀ch,g1.frame.mode≠.panicking ch):After P main d b f t k F cs0 v v' g1 es:=by cases k with|nil=>refine After.ret (k1:=[]) D R (λp=>by simp[G,UY,UY.exec,cj]) λk' h=>?_;generalize Z:([]:List Vj)=k at h;(cases h with|app _ _=>simp at Z|reg _ _=>simp at Z|fin _=>simp at Z)|cons x kr=>simp only[SE,Qaa]at Z;obtain⟨V,hkr⟩:=Z;(have q:∀(Q:List Vj),x≠R0->(∀g l,x≠.inRegion g l)->(cS d.live x=UJ->Q.all (cS d.live)=UJ)->(∀(kr:List Vj)p,UY P main (G (cj f t (x::kr) .run) p) v=.go (G (cj f t (Q++kr) .run) p) v #[])->(∀(kr:List Vj)p,UY P main (G (d.bot t (x::kr)) p) v=.go (G (d.bot t (Q++kr)) p) v #[])->After P main d b f t (x::kr) F cs0 v v' g1 es:=by intro Q U O h3 h4 h5;refine After.ctl (k1:=Q++kr) D R (h4 kr) λ_ k' h=>?_;obtain⟨z,A,B,C,I,N⟩:=h.xL U O;subst B C;exact⟨_,.mk' Q A N (h3 I),h5 _⟩);cases x with|code a=>(cases a with|skip=>exact q [] (by simp[R0]) Θ (λ_=>rfl) (λkr p=>by simp[G,UY,UY.exec,cj]) (λkr p=>by simp[G,UY,UY.exec,de.bot])|label l=>exact q [] (by simp[R0]) Θ (λ_=>rfl) (λkr p=>by simp[G,UY,UY.exec,cj]) (λkr p=>by simp[G,UY,UY.exec,de.bot])|ret=>refine After.ret D R (λp=>oC) λk' h=>?_;obtain⟨z,_,_,_,h4,_⟩:=h.xL (by simp[R0]) Θ;simp[cS,gh]at h4|seq a b=>exact q [.code a,.code b] (by simp[R0]) Θ (λh=>by simpa[cS,gh]using h) (λkr p=>by simp[G,UY,UY.exec,cj]) (λkr p=>by simp[G,UY,UY.exec,de.bot])|block id a=>exact q [.code a,.inBlock id] (by simp[R0]) Θ (λh=>by simpa[cS,gh]using h) (λkr p=>by simp[G,UY,UY.exec,cj]) (λkr p=>by simp[G,UY,UY.exec,de.bot])|loop a=>exact q [.code a,.inLoop a] (by simp[R0]) Θ (λh=>by simpa[cS,gh]using h) (λkr p=>by simp[G,UY,UY.exec,cj]) (λkr p=>by simp[G,UY,UY.exec,de.bot])|scope a=>exact q [.code a,.inScope a] (by simp[R0]) Θ (λh=>by simpa[cS,gh]using h) (λkr p=>lP) (λkr p=>by simp[G,UY,UY.exec,de.bot])|refuse why=>have:∃o w,UY P main (G (cj f t (.code (.refuse why)::kr) .run) cs0) v=.ended o w #[]:=⟨_,v,by simp[G,UY,UY.exec,cj];rfl⟩;obtain⟨o,w,e⟩:=this;rw[e]at D;cases D|exit id=>(cases X:exitTo id kr with|none=>rw[iM X]at D;cases D|some k1=>refine After.ctl (k1:=k1) D R (λp=>by simp[G,UY,UY.exec,cj,X]) λ_ k' h=>?_;obtain⟨z,A,B,C,I,N⟩:=h.xL (by simp[R0]) Θ;subst B C;obtain⟨i1,f1,f2,f3⟩:=mq (tail:=d.tail) N X;subst f1;exact⟨_,.app A f2,λp=>by simp[G,UY,UY.exec,de.bot,f3]⟩)|cond y a Y=>(cases hv:(cj f t (.code (.cond y a Y)::kr) .run).eval y with|bool u=>refine After.ctl (k1:=.code (if u then a else Y)::kr) D R (λp=>jW hv) λ_ k' h=>?_;obtain⟨z,A,B,C,I,N⟩:=h.xL (by simp[R0]) Θ;subst B C;simp only[cS,gh,Qaa]at I;refine⟨_,.mk' [.code (if u then a else Y)] A N (by cases u<;>simp[cS,I]),λp=>?_⟩;have:=Ca (d:=d) (t:=t) (k:=.code (.cond y a Y)::(z++[R0])) (k':=.code (.cond y a Y)::(z++d.tail)) (f:=f) (m:=.run) y I.1.1;rw[hv]at this;simp only[de.bot]at this;simp[G,UY,UY.exec,de.bot,this]|_=>obtain⟨o,w2,e⟩:=jL (P:=P) (main:=main) (cs:=cs0) (w:=v) (f:=f) (t:=t) (x:=y) (a:=a) (b:=Y) (k:=kr) (λu e=>by rw[hv]at e;cases e);rw[D]at e;cases e)|region id g draw=>(cases draw with|false=>exact q [.inRegion g (List.range g.size)] (by simp[R0]) Θ (λh=>by simp only[cS,gh]at h;simp only[SE,T6,cS,yF h,Tx]) (λkr p=>by simp[G,UY,UY.exec,cj]) (λkr p=>by simp[G,UY,UY.exec,de.bot])|true=>have L:=λp=>j0 (P:=P) (main:=main) (f:=f) (t:=t) (id:=id) (ops:=g) (k:=kr) (cs:=p) (w:=v);rw[L]at D;cases hc:(choose (.order f id)).run P v with|halt h w1=>rw[hc]at D;cases D|ok u w1=>rw[hc]at D;simp only at D;injection D with A B C;subst A B C;cases R with|up=>exact .inl ⟨t,_,_,rfl,.up,λp=>by rw[L,hc]⟩|bot h=>obtain⟨z,A,B,C,I,N⟩:=h.xL (by simp[R0]) Θ;subst B C;refine .inl ⟨t,_,_,rfl,.bot (.mk' [.inRegion g (Region.schedule (P.follows .mixedOrders) g u)] A N (by simp only[cS,gh]at I;simp only[SE,T6,cS,yF I,Tx])),λp=>?_⟩;simp only[G,UY,UY.exec,de.bot,Bool.not_true,SB,if_false,hc];rfl)|rangeFunc _ _ _ _=>simp[aT,codeOk]at V|goto l=>simp[aT,codeOk]at V)|inBlock id=>exact q [] (by simp[R0]) Θ (λ_=>rfl) (λkr p=>by simp[G,UY,UY.exec,cj]) (λkr p=>by simp[G,UY,UY.exec,de.bot])|inLoop a=>exact q [.code a,.inLoop a] (by simp[R0]) Θ (λh=>by simpa[cS]using h) (λkr p=>by simp[G,UY,UY.exec,cj]) (λkr p=>by simp[G,UY,UY.exec,de.bot])|inScope a=>exact q [] (by simp[R0]) Θ (λ_=>rfl) (λkr p=>jx) (λkr p=>by simp[G,UY,UY.exec,de.bot])|inRegion g l=>(cases l with|nil=>refine After.ctl (k1:=kr) D R (λp=>by simp[G,UY,UY.exec,cj]) λhb k' h=>?_;rcases h.cons (by simp[R0])with⟨z,A,B,C,I,N⟩|⟨ops',l1,l2,A,B,C,I,N⟩;{subst B C;exact⟨_,.app A N,λp=>by simp[G,UY,UY.exec,de.bot]⟩};exact absurd (by unfold de.end;rw[A];cases B;exact .inr ⟨rfl,_,by rw[C]⟩) (hend hb)|cons i s=>have hops:(i::s).all (opAt P c gl g)=UJ:=V;(have hB:∀k',b=UJ->Gl d (.inRegion g (i::s)::kr) k'->∃r E,k'=.inRegion g (i::r)::E/\Gl d (.inRegion g s::kr) (.inRegion g r::E)/\rv d.live g i=UJ:=by intro k' _ h;rcases h.cons (by simp[R0])with⟨z,A,B,C,I,N⟩|⟨ops',l1,l2,A,B,C,I,N⟩;{subst B C;simp only[cS,SE,Qaa]at I;exact⟨s,_,rfl,.mk' [.inRegion g s] A N (by simp only[SE,T6,cS,I.2,Tx]),I.1⟩};cases B;subst C I;simp only[SE,Qaa]at N;exact⟨s++l2,_,rfl,.reg A N.2,N.1⟩);cases M:((g[i]?).map (Region.wanted · (U7 g t))).getD Ul with|false=>have L:=λp=>stepG_unwanted (P:=P) (main:=main) (f:=f) (cs:=p) (k:=kr) (rest:=s) (w:=v) M;rw[L]at D;injection D with A B C;subst A B C;(cases R with|up=>exact .inl ⟨_,_,_,by rw[cK],.up,λp=>by rw[L,cK]⟩|bot h=>obtain⟨r,E,rfl,U,O⟩:=hB _ rfl h;refine .inl ⟨_,_,_,by rw[cK],.bot U,λp=>?_⟩;(have hl:(match(g[i]?).bind (·.dst)with|some j=>d.live j|none=>UJ)=UJ:=by cases K:g[i]? with|none=>rfl|some o=>have:=(kR O K).1;simp only[oa,Qaa]at this;cases hd:o.dst<;>simp only[Te,hd];rw[hd]at this;exact this.2);exact(rz (by cases K:g[i]? with|none=>rfl|some o=>rw[K]at M;simp only[SC,SI]at M⊢;rw[vp (kR O K).2];exact M)).trans (congrArg (λF=>GStep.go (G F p) v #[]) (jO hl UT)))|true=>cases K:g[i]? with|none=>rw[K]at M;simp at M|some o=>rw[K]at M;(have H:Region.wanted o (U7 g t)=UJ:=by simpa using M);obtain⟨n,w1,hr,hshp⟩:=hrun g i s kr o rfl K H;have hok:pJ P c gl o=UJ:=nx hops K;obtain⟨hsel,S⟩:=EG hok;(have W:∀r E,b=UJ->rv d.live g i=UJ->UZ (fB d t g i r E).eval o=UZ (l7 f t g i s kr).eval o/\Region.wanted o (U7 g (d.ov t))=UJ/\(match(g[i]?).bind (·.dst)with|some j=>d.live j|none=>UJ)=UJ:=by intro r E _ O;have hl:=(kR O K).1;simp only[oa,Qaa]at hl;refine⟨execOp_congr hsel λx hxx=>Ca x ?_,by rw[vp (kR O K).2];exact H,?_⟩;{have:=hl.1;rw[TZ]at this;exact this x hxx};rw[K];cases hd:o.dst<;>simp only[Te,hd];rw[hd]at hl;exact hl.2);cases n with|value u=>have L:=λp=>jk (P:=P) (main:=main) (cs:=p) K H hr;rw[L]at D;injection D with A B C;subst A B C;(cases R with|up=>exact .inl ⟨_,_,_,by rw[cK],.up,λp=>by rw[L,cK]⟩|bot h=>obtain⟨r,E,rfl,U,O⟩:=hB _ rfl h;obtain⟨T,a2,a3⟩:=W r E rfl O;refine .inl ⟨_,_,_,by rw[cK],.bot U,λp=>?_⟩;exact((vK he S K a2 (by rw[T];exact hr)).trans (by rw[T])).trans (congrArg (λF=>GStep.go (G F p) _ _) (jO a3 u)))|skip=>have L:=λp=>j4 (P:=P) (main:=main) (cs:=p) K H hr;rw[L]at D;injection D with A B C;subst A B C;(cases R with|up=>exact .inl ⟨_,_,_,by rw[cK],.up,λp=>by rw[L,cK]⟩|bot h=>obtain⟨r,E,rfl,U,O⟩:=hB _ rfl h;obtain⟨T,a2,a3⟩:=W r E rfl O;refine .inl ⟨_,_,_,by rw[cK],.bot U,λp=>?_⟩;exact((zn he S K a2 (by rw[T];exact hr)).trans (by rw[T])).trans (congrArg (λF=>GStep.go (G F p) _ _) (jO a3 UT)))|enter j args=>have L:=λp=>i7 (P:=P) (main:=main) (cs:=p) K H hr;obtain⟨t1,k1,I⟩:=FH (P:=P) j args;rw[L]at D;injection D with A B C;subst A B C;(cases R with|up=>exact .inr (.inl ⟨j,t1,k1,by rw[I],λp=>by rw[L,I]⟩)|bot h=>obtain⟨r,E,rfl,U,O⟩:=hB _ rfl h;obtain⟨T,a2,a3⟩:=W r E rfl O;refine .inr (.inl ⟨j,t1,k1,by rw[I],λp=>?_⟩);rw[vL he S K a2 (by rw[T];exact hr),T,I])|_=>exact hshp.elim)|inRangeFunc _=>simp[aT]at V|endRangeFunc _=>simp[aT]at V|beginRound=>simp[aT]at V|call _ _ _ _=>simp[aT]at V|extern _ _=>simp[aT]at V
end
section
variable{d:de}
theorem cg.lz(h:s.g cs=s'.g cs):s=s':=by obtain⟨f,t,k,b,p⟩:=s;obtain⟨m,q,o,a,l⟩:=s';simp only[cg.g,G,cj,UP.mk.injEq,U0.mk.injEq]at h;obtain⟨⟨e,g,i,-,n,-⟩,j,-⟩:=h;have:=Gg (Vr j);subst e g i this;(have:b=a:=by cases b<;>cases a<;>simp_all[md]);rw[this]
theorem Gl.op(h:Gl d (.inRegion ops (i::rest)::kr) k'):∃a f,k'=.inRegion ops (i::a)::f/\Gl d (.inRegion ops rest::kr) (.inRegion ops a::f)/\rv d.live ops i=UJ:=by rcases h.cons (by simp[R0])with⟨l,g,j,k,b,e⟩|⟨m,o,n,g,j,k,b,e⟩;{subst j k;simp only[cS,SE,Qaa]at b;exact⟨rest,_,rfl,.mk' [.inRegion ops rest] g e (by simp only[SE,T6,cS,b.2,Tx]),b.1⟩};cases j;subst k b;simp only[SE,Qaa]at e;exact⟨rest++n,_,rfl,.reg g e.2,e.1⟩
theorem Ga(a:rv d.live ops i=UJ):(match(ops[i]?).bind (·.dst)with|some j=>d.live j|none=>UJ)=UJ:=by cases b:ops[i]? with|none=>rfl|some o=>have:=(kR a b).1;simp only[oa]at this;grind
inductive DG(d:de)(cs:List U0):cg->UP->Prop
 |here{t:Array UO}{k k':List Vj}:Gl d k k'->DG d cs ⟨d.f,t,k,Ul,[]⟩ (G (d.bot t k') cs)
 |below{f:Va}{t t0:Array UO}{k k0 k0':List Vj}{ret:Bool}{pre st:List (Va×Array UO×List Vj)}:st=pre++[(d.f,t0,k0)]->Gl d k0 k0'->DG d cs ⟨f,t,k,ret,st⟩ (G (cj f t k (md ret)) (pre.map up++d.bot t0 k0'::cs))
theorem DG.running{g:UP}(h:DG d cs s g):g.status=.running:=by cases h<;>rfl
theorem DG.step{cs cs0:List U0}{s s1:cg}{g:UP}{v v':UL}{es:Array Vv}(h:DG d cs s g)(p:UY P main (s.g cs0) v=.go (s1.g cs0) v' es)(E:wY P c gl s)(he:d.kind≠.early)(H:s.ret=Ul->AX P s.f s.t s.k v)(R:s.st=[]->¬d.end s.k):∃g1,UY P main g v=.go g1 v' es/\DG d cs s1 g1:=by(have w:∀ch,(s1.g cs0).frame.mode≠.panicking ch:=λch e=>by simp only[cg.g,G,cj]at e;cases hr:s1.ret<;>rw[hr]at e<;>simp[md]at e);cases h with|@here t k k' D=>rcases IY.step (d:=d) (b:=UJ) (k:=k) (F:=d.bot t k') p E.items (.bot D) he (λ_=>R rfl) (H rfl) w with⟨O,m,F1,B,U,C⟩|⟨j,O,m,B,C⟩|⟨e,_⟩;{obtain rfl:s1=⟨d.f,O,m,Ul,[]⟩:=cg.lz (cs:=cs0) B;cases U with|bot S=>exact⟨_,C cs,.here S⟩};{obtain rfl:s1=⟨j,O,m,Ul,[(d.f,t,k)]⟩:=cg.lz (cs:=cs0) B;exact⟨_,C cs,.below (pre:=[]) rfl D⟩};cases e|@below f t A k N k0' Y n st W D=>subst W;cases Y with|false=>rcases IY.step (d:=d) (b:=Ul) (F:=cj f t k .run) p E.items .up he (λe=>by cases e) (H rfl) w with⟨O,m,F1,B,U,C⟩|⟨j,O,m,B,C⟩|⟨_,m,B,C⟩;{obtain rfl:s1=⟨f,O,m,Ul,n++[(d.f,A,N)]⟩:=cg.lz (cs:=cs0) B;cases U with|up=>exact⟨_,C _,.below rfl D⟩};{obtain rfl:s1=⟨j,O,m,Ul,(f,t,k)::(n++[(d.f,A,N)])⟩:=cg.lz (cs:=cs0) (B.trans rfl);exact⟨_,C _,.below (pre:=(f,t,k)::n) rfl D⟩};obtain rfl:s1=⟨f,t,m,UJ,n++[(d.f,A,N)]⟩:=cg.lz (cs:=cs0) B;exact⟨_,C _,.below rfl D⟩|true=>cases n with|nil=>obtain⟨-,-,l,i,a,m,e⟩:=E.below (d.f,A,N) Θ;simp only at e;subst e;obtain⟨X,kk',rfl,S,h2⟩:=D.op;have hl:=Ga h2;have L:up (d.f,A,.inRegion l (i::a)::m)=l7 d.f A l i a m:=rfl;rw[cg.gQ]at p;simp only[T2,SH,Tf,Tp,L]at p;(cases q:P.funcs[f]? with|none=>rw[bM q,cK]at p;injection p with I J K;subst J K;obtain rfl:s1=⟨d.f,_,.inRegion l a::m,Ul,[]⟩:=cg.lz (cs:=cs0) I.symm;exact⟨_,(bM q).trans (congrArg (λF=>GStep.go (G F cs) _ _) (jO hl _)),.here S⟩|some V=>cases M:(results V t).run P v with|halt z w1=>obtain⟨o,Z,e⟩:=c8 (main:=main) (k:=k) (x:=l7 d.f A l i a m) (cs:=cs0) q M;simp_all|ok u Z=>rw[aO q M,cK]at p;injection p with I J K;subst J K;obtain rfl:s1=⟨d.f,_,.inRegion l a::m,Ul,[]⟩:=cg.lz (cs:=cs0) I.symm;exact⟨_,(aO q M).trans (congrArg (λF=>GStep.go (G F cs) _ _) (jO hl _)),.here S⟩)|cons y n=>obtain⟨Q,T,ky⟩:=y;obtain⟨-,-,l,i,a,m,e⟩:=E.below (Q,T,ky) Θ;simp only at e;subst e;have L:up (Q,T,.inRegion l (i::a)::m)=l7 Q T l i a m:=rfl;rw[cg.gQ]at p;simp only[Tp,SH,L]at p;cases q:P.funcs[f]? with|none=>rw[bM q,cK]at p;injection p with I J K;subst J K;obtain rfl:s1=⟨Q,_,.inRegion l a::m,Ul,n++[(d.f,A,N)]⟩:=cg.lz (cs:=cs0) I.symm;exact⟨_,(bM q).trans (by rfl),.below rfl D⟩|some V=>cases M:(results V t).run P v with|halt z w1=>obtain⟨o,Z,e⟩:=c8 (main:=main) (k:=k) (x:=l7 Q T l i a m) (cs:=(n++[(d.f,A,N)]).map up++cs0) q M;simp_all|ok u Z=>rw[aO q M,cK]at p;injection p with I J K;subst J K;obtain rfl:s1=⟨Q,_,.inRegion l a::m,Ul,n++[(d.f,A,N)]⟩:=cg.lz (cs:=cs0) I.symm;exact⟨_,(aO q M).trans (by rfl),.below rfl D⟩
theorem H9(D:Listed P c gl){w1:UL}(T:∀g,gl g=UJ->r g=UG g)(W:cm c r w v)(U:l9 c r s s')(V:wY P c gl s)(A:bX P s w s1 w1)(m:s.ret=Ul):AX P s'.f s'.t s'.k v:=by obtain⟨f,t,k,ret,st⟩:=s;obtain⟨S,M,X,L,st'⟩:=s';obtain⟨O,H,Q,R,B⟩:=U;simp only at O H Q R B m;subst S X m;intro a i l I o J E p;subst J;(have h:Region.wanted o (U7 a t)=UJ:=by rw[<-funext λj=>mD H a j];exact p);obtain⟨y,-⟩:=V.tg;have F:=nx y E;have b:=rY D.aJ D.ext F (ev:=(l7 f t a i l I).eval) (λx q=>pT H T D.qa x q) (λ_=>⟨rfl,rfl⟩) w v W;cases q:(UZ (l7 f t a i l I).eval o).run P w with|halt z w2=>rw[q]at b;by_cases K:∃u,z=.panic u;{obtain⟨u,rfl⟩:=K;exact(A.qi (lQ E h q)).elim};exact(A.gG (mJ E h q b (λu e=>K ⟨u,e⟩))).elim|ok n w2=>rw[q]at b;obtain⟨Y,v1,r1,N,-,Z,-⟩:=b;exact⟨Y,v1,N,by cases Z<;>trivial⟩
def Lb(d:de)(Q:Array UO->UL->Prop)(s:cg)(w:UL):Prop:=s.st=[]/\s.ret=Ul/\s.f=d.f/\s.k=[R0]/\Q s.t w
theorem iG.loc(hl:Listed P c gl)(he:d.kind≠.early)(h:iG P (Lb d Q) s w):∀{r:bC}{own:Nat->Prop}{v:UL}{s':cg}{g:UP},wY P c gl s->(∃T D,cm c r (re w T D) v)->l9 c r s s'->(∀g,gl g=UJ->r g=UG g)->Reach c r own RO CU v->DG d cs s' g->(∀q p t F k' i v1,r.le q->Q t i->Gl d [R0] k'->cm c q i v1->ak c q t F->Reach c q p RO CU v1->Left c r own RO v p v1->Loc P main RO CU Stop p (G (d.bot F k') cs) v1)->Loc P main RO CU Stop own g v:=by induction h with|@done s w hd=>intro r own v s' g I⟨T,D,hw⟩m S b n K;obtain⟨C,g2,g3,g4,g5⟩:=hd T D;obtain⟨f,t,k,ret,st⟩:=s;obtain⟨f',F,k',u,st'⟩:=s';obtain⟨e1,W,e2,e3,a⟩:=m;simp only at e1 W e2 e3 a C g2 g3 g4 g5;subst f' k' u C g2 g3 g4;cases a;(cases n with|here j=>exact K r own _ _ _ _ v (bC.le_refl r) g5 j hw W b (Left.refl ..)|below e j=>simp at e)|@step s w hng U hex hall ih=>intro r own v s' g I⟨T,D,hw⟩m S b n K;have stuck:∀(f:Va)(t:Array UO)(w:UL)(A:cg)(i:UL),¬bX P ⟨f,t,[R0],Ul,[]⟩ w A i:=λf t w A i h=>h.gG ⟨_,w,by rfl⟩;(have o:s.st=[]->s.ret=Ul:=λh=>by cases m:s.ret with|false=>rfl|true=>exact absurd ⟨m,h⟩ U);by_cases J:s.st=[]/\d.l2.isSome=UJ/\∃B,s.k=[.inRegion B [],R0];{obtain⟨N,h2,B,h3⟩:=J;have h0:=o N;obtain⟨f,t,k,ret,st⟩:=s;obtain⟨f',F,k',u,st'⟩:=s';obtain⟨e1,W,e2,e3,a⟩:=m;simp only at e1 W e2 e3 a N h3 h0;subst f' k' u N h3 h0;cases a;have hls:bX P ⟨f,t,[.inRegion B [],R0],Ul,[]⟩ (re w T D) ⟨f,t,[R0],Ul,[]⟩ (re w T D):=⟨#[],by rfl⟩;cases n with|@here _ _ k2 j=>(have:Gl d [R0] k2:=by generalize hk:[Vj.inRegion B [],R0]=kk at j;cases j with|app hn _=>simp_all|reg hn _=>simp only[Ta,Vj.inRegion.injEq,and_true]at hk;obtain⟨rfl,rfl⟩:=hk;exact .fin hn|fin _=>simp at hk);exact ih T D _ _ hls (s':=⟨d.f,F,[R0],Ul,[]⟩) ⟨I.fn,rfl,I.below⟩ ⟨T,D,by simp_all⟩ ⟨rfl,W,rfl,rfl,.nil⟩ S b (.here this) K|below e j=>simp at e};(have R:s.st=[]->¬d.end s.k:=by intro N h2;rcases h2 with h2|⟨h2,h3⟩;{have h0:=o N;obtain⟨f,t,k,ret,st⟩:=s;simp_all};simp_all);(have Y:∀v1,Env own RO CU v v1->∃A i z v2 q M C,bX P s (re w v1.tape v1.drawn) A i/\wY P c gl A/\UY P main g v1=.go C v2 M/\DG d cs z C/\Ext c r (re w v1.tape v1.drawn) v1 q i v2/\l9 c q A z/\(∀e∈M,rm c q e):=by intro v1 E;have X:cm c r (re w v1.tape v1.drawn) v1:=hw.env b E;obtain⟨A,i,L⟩:=hex v1.tape v1.drawn;rcases tD (main:=main) (bs:=[]) hl S X m I (λe e'=>U ⟨e,e'⟩)with⟨s2,w2,es1,b1,b2,z,v2,q,M,b3,b4,b5,b6⟩|hb;{obtain⟨rfl,rfl⟩:=bX.Nk L ⟨es1,b1⟩;have hs':wY P c gl s':=⟨trivial,by rw[m.k];exact I.items,by have:=I.below;have a:=m.st;revert this;generalize s.st=l at a;generalize s'.st=l' at a;induction a with|nil=>simp|@cons f t F k l l' _ _ ih=>intro h x hx;rcases Sv.1 hx with rfl|hx;{simp_all};exact ih (λy hy=>h y (SW _ hy)) x hx⟩;obtain⟨C,c1,c2⟩:=n.step b3 hs' he (λV=>H9 hl S X m I L (by rw[<-m.ret];exact V)) (λh=>by rw[m.k];refine R ?_;have a:=m.st;rw[h]at a;generalize s.st=l at a;cases a;rfl);grind};exact(hb.not L).elim);refine .step n.running (λv1 E=>?_) (λv1 g' v' M E O=>?_);{obtain⟨A,i,z,v2,q,M,C,L,a2,a3,a4,H,a6,a7⟩:=Y v1 E;exact⟨_,_,_,a3,(H.mine (b.env E) a7).1⟩};obtain⟨A,i,z,v2,q,es',C,L,a2,a3,a4,H,a6,a7⟩:=Y v1 E;rw[a3]at O;injection O with b1 b2 b3;subst b1 b2 b3;refine ih v1.tape v1.drawn A i L a2 ⟨i.tape,i.drawn,H.rel⟩ a6 (λg e=>H.le _ _ (S g e)) (H.mine (b.env E) a7).2 a4 λr2 Z t F k' w2 v3 c1 c2 c3 c4 c5 c6 c7=>?_;exact K r2 Z t F k' w2 v3 (bC.le_trans H.le c1) c2 c3 c4 c5 c6 (Left.after b E H c7)
end
section
variable{d:de}
def lv(live:Nat->Bool)(t:Array UO):Array UO:=t.mapIdx λi v=>if live i then v else UT
theorem OB:d.ov (lv d.live d.t0)=d.t0:=by apply Tj;intro i;simp only[de.ov,lv,T4,Sr];grind
structure Place(P:U9)(c:dG)(gl:Nat->Bool)(r:bC)(w:UL)(own RO:Nat->Prop)(CU:Nat->Nat->Prop)(v:UL):Prop where
 bH:Listed P c gl
 Rn:∀g,gl g=UJ->r g=UG g
 rel:cm c r w v
 reach:Reach c r own RO CU v
theorem Loc.piece(e:Place P c gl r w own RO CU v)(C:d.kind≠.early){k0':List Vj}(E:k0.all (aT P c gl)=UJ)(l:Gl d k0 k0')(F:ak c r tl (lv d.live d.t0))(B:∀t w T D,Q t w->Q t (re w T D))(H:∀T,∃n f w',runN P n (ko ⟨d.f,tl,k0,Ul,[]⟩ (re w T 0))=.next (ko ⟨d.f,f,[R0],Ul,[]⟩ w')/\Q f w')(K:∀k a t f k' y v1,r.le k->Q t y->Gl d [R0] k'->cm c k y v1->ak c k t f->Reach c k a RO CU v1->Left c r own RO v a v1->Loc P main RO CU Stop a (G (d.bot f k') cs) v1):Loc P main RO CU Stop own (G {fn:=d.f,tmps:=d.t0,todo:=k0',defers:=d.defers,mode:=.run,kind:=d.kind,roundOf:=d.roundOf} cs) v:=by have o:wY P c gl ⟨d.f,tl,k0,Ul,[]⟩:=⟨trivial,E,λx I=>by simp at I⟩;have m:l9 c r ⟨d.f,tl,k0,Ul,[]⟩ ⟨d.f,lv d.live d.t0,k0,Ul,[]⟩:=⟨rfl,F,rfl,rfl,.nil⟩;have g:=Fit.AM o e.rel m e.Rn;(have b:iG P (Lb d Q) ⟨d.f,tl,k0,Ul,[]⟩ w:=by refine um e.bH (λs w T D h=>⟨h.1,h.2.1,h.2.2.1,h.2.2.2.1,B _ _ T D h.2.2.2.2⟩) g λT=>?_;obtain⟨n,f,w',z,A⟩:=H T;exact⟨n,_,w',z,rfl,rfl,rfl,rfl,A⟩);have:=b.loc e.bH (main:=main) (RO:=RO) (CU:=CU) (Stop:=Stop) (cs:=cs) C o ⟨w.tape,w.drawn,e.rel⟩ m e.Rn e.reach (.here l) K;rw[de.bot,OB]at this;exact this
theorem CW(h:cd.wp P (λe a w=>e=.normal/\a.defers=[]/\Q a.tmps w) ⟨t,[]⟩ w):∃n b w',runN P n (ko ⟨f,t,[.code cd,R0],Ul,[]⟩ w)=.next (ko ⟨f,b,[R0],Ul,[]⟩ w')/\Q b w':=by obtain⟨e,j,w',⟨rfl,g,i⟩,n,k⟩:=h (base f) [R0] [dj];obtain⟨b,l⟩:=j;simp only at g i;subst g;exact⟨n,b,w',k,i⟩
theorem Loc.code(N:Place P c gl r w own RO CU v)(g:Nat->Bool)(o:F.todo=.code cd::tail)(s:F.mode=.run)(p:F.kind≠.early)(q:codeOk P c gl cd=UJ)(m:gh g cd=UJ)(u:ak c r tl (lv g F.tmps))(M:∀t w T D,Q t w->Q t (re w T D))(H:∀T,cd.wp P (λe a w=>e=.normal/\a.defers=[]/\Q a.tmps w) ⟨tl,[]⟩ (re w T 0))(K:∀j b t k l v1,r.le j->Q t l->cm c j l v1->ak c j t k->Reach c j b RO CU v1->Left c r own RO v b v1->Loc P main RO CU Stop b (G {F with tmps:=k.mapIdx λi x=>if g i then x else F.tmps.getD i UT,todo:=tail} cs) v1):Loc P main RO CU Stop own (G F cs) v:=by obtain⟨f,U,W,L,md,R,S⟩:=F;simp only at o s p u H K;subst o s;refine Loc.piece (d:=⟨f,L,R,S,UM,tail,g,U⟩) N p (k0:=[.code cd,R0]) (by simp[aT,q,R0,codeOk]) (.app (init:=[.code cd]) rfl (by simp[cS,m])) u M (λT=>CW (H T)) λj b t k O l v1 A B n C E I J=>?_;(have:O=tail:=by generalize q:[R0]=V at n;cases n with|@app y _ _=>simp_all|reg h _=>cases h|fin h=>cases h);subst this;exact K j b t k l v1 A B C E I J
end
end Go.ae
namespace Go.Mx
variable{i N:Nat}
structure Wd where
 L:Bool
 W:Bool
 S:Bool
 n:Nat
 deriving DecidableEq
def Wd.enc(w:Wd):Nat:=w.L.toNat+2*w.W.toNat+4*w.S.toNat+8*w.n
def Wd.zero:Wd:=⟨Ul,Ul,Ul,0⟩
theorem Wd.rJ{w v:Wd}(h:w.enc=v.enc):w=v:=by obtain⟨a,b,c,n⟩:=w;obtain⟨d,e,f,g⟩:=v;cases a<;>cases b<;>cases c<;>cases d<;>cases e<;>cases f<;>simp[Wd.enc]at h⊢<;>omega
inductive Th
 |out|c0
 |ld(aw st:Bool)
 |cs(old:Wd)
 |ca(old:Wd)(aw st:Bool)
 |sq|t2
 |a1(old:Wd)(st:Bool)
 |hold|u0
 |uc(old:Wd)
 |ux|us
def nw(o:Wd)(aw st:Bool):Wd:=⟨!o.S||o.L,!aw&&o.W,o.S||(st&&o.L),if o.L||o.S then o.n+1 else o.n⟩
inductive Mv:Th->Wd->Nat->Th->Wd->Nat->Prop
 |start{w:Wd}{m:Nat}:Mv .out w m .c0 w m
 |LY{m:Nat}:Mv .c0 ⟨Ul,Ul,Ul,0⟩ m .hold ⟨UJ,Ul,Ul,0⟩ m
 |IK{w:Wd}{m:Nat}:w≠⟨Ul,Ul,Ul,0⟩->Mv .c0 w m (.ld Ul Ul) w m
 |Qi{w:Wd}{m:Nat}{aw st:Bool}:Mv (.ld aw st) w m (.ld aw st) w m
 |Rw{w:Wd}{m:Nat}{st:Bool}:w.L=UJ->w.S=Ul->w.W=Ul->w.n≠0->Mv (.ld Ul st) w m (.cs w) w m
 |OH{w:Wd}{m:Nat}{aw st:Bool}:Mv (.ld aw st) w m (.ca w aw st) w m
 |L1{w:Wd}{m:Nat}:Mv (.cs w) w m (.ld UJ Ul) {w with W:=UJ} m
 |Ih{o w:Wd}{m:Nat}:w≠o->Mv (.cs o) w m (.ld Ul Ul) w m
 |H4{w:Wd}{m:Nat}{aw st:Bool}:w.L=Ul->w.S=Ul->Mv (.ca w aw st) w m .hold (nw w aw st) m
 |J'{w:Wd}{m:Nat}{aw st:Bool}:(w.L||w.S)=UJ->Mv (.ca w aw st) w m .sq (nw w aw st) m
 |I1{o w:Wd}{m:Nat}{aw st:Bool}:Mv (.ca o aw st) w m (.ld aw st) w m
 |Od{o w:Wd}{m:Nat}{st:Bool}:o.L=UJ->o.S=Ul->o.W=Ul->o.n≠0->Mv (.ca o Ul st) w m (.cs o) w m
 |IP{o w:Wd}{m:Nat}{aw st:Bool}:w≠o->Mv (.ca o aw st) w m (.ld aw st) w m
 |take{w:Wd}{m:Nat}:Mv .sq w (m+1) .t2 w m
 |O6{w:Wd}{m:Nat}{st:Bool}:w.S=UJ->Mv .t2 w m (.a1 w st) w m
 |Ol{w:Wd}{m:Nat}{st:Bool}:w.S=Ul->Mv .t2 w m (.ca w UJ st) w m
 |Qh{w:Wd}{m:Nat}{st:Bool}:w.S=Ul->Mv .t2 w m (.ld UJ st) w m
 |add{w o:Wd}{m:Nat}{st:Bool}:Mv (.a1 o st) w m .hold ⟨UJ,w.W,st&&o.n !=1,w.n-1⟩ m
 |want{w:Wd}{m:Nat}:Mv .hold w m .u0 w m
 |Pm{w:Wd}{m:Nat}:w.S=UJ->Mv .u0 w m .us {w with L:=Ul} m
 |NF{w:Wd}{m:Nat}:w.S=Ul->w.n=0\/w.W=UJ->Mv .u0 w m .out {w with L:=Ul} m
 |On{w:Wd}{m:Nat}:w.S=Ul->w.n≠0->w.W=Ul->Mv .u0 w m (.uc {w with L:=Ul}) {w with L:=Ul} m
 |Nz{w:Wd}{m:Nat}:Mv (.uc w) w m .us {w with W:=UJ,n:=w.n-1} m
 |Jr{o w:Wd}{m:Nat}:w≠o->Mv (.uc o) w m .ux w m
 |MV{w:Wd}{m:Nat}:w.n=0\/w.L=UJ\/w.W=UJ\/w.S=UJ->Mv .ux w m .out w m
 |O5{w:Wd}{m:Nat}:w.n≠0->w.L=Ul->w.W=Ul->w.S=Ul->Mv .ux w m (.uc w) w m
 |A9{w:Wd}{m:Nat}:Mv .us w m .out w (m+1)
def qC:Th->Bool|.hold|.u0=>UJ|_=>Ul
def AN:Th->Bool|.us|.t2|.a1 _ _=>UJ|.ld aw _=>aw|.ca _ aw _=>aw|_=>Ul
def pQ:Th->Bool|.sq=>UJ|_=>Ul
def Hy:Th->Bool|.us=>UJ|_=>Ul
def Ch:Th->Bool|.t2|.a1 _ _=>UJ|_=>Ul
def Hx:Th->Bool|.ld aw _=>aw|.ca _ aw _=>aw|_=>Ul
def N5:Th->Bool|.uc _|.ux=>UJ|_=>Ul
def cnt(p:Th->Bool)(f:Nat->Th):Nat->Nat
 |0=>0
 |N+1=>cnt p f N+(p (f N)).toNat
def upd(f:Nat->Th)(i:Nat)(x:Th):Nat->Th:=λj=>if j=i then x else f j
theorem xF{p:Th->Bool}{f g:Nat->Th}:∀{N:Nat},(∀j,j<N->p (f j)=p (g j))->cnt p f N=cnt p g N|0,_=>rfl|N+1,h=>by simp only[cnt];rw[xF λj b=>h j Ω,h N Ω]
theorem lE(p:Th->Bool)(f:Nat->Th)(x:Th):∀{N:Nat},i<N->cnt p (upd f i x) N+(p (f i)).toNat=cnt p f N+(p x).toNat|N+1,h=>by simp only[cnt];rcases TL (Uf h)with b|rfl;{have:=lE p f x b;(have e:upd f i x N=f N:=by simp[upd];omega);grind};(have:cnt p (upd f i x) i=cnt p f i:=xF λj c=>by simp[upd];grind);rw[this];simp[upd];omega
theorem pD{p:Th->Bool}{f:Nat->Th}:∀{N i:Nat},i<N->p (f i)=UJ->1<=cnt p f N|N+1,i,h,c=>by simp only[cnt];rcases TL (Uf h)with b|rfl;{have:=pD b c;omega};simp_all
theorem pz{p:Th->Bool}{f:Nat->Th}:∀{N i j:Nat},i<j->j<N->p (f i)=UJ->p (f j)=UJ->2<=cnt p f N|N+1,i,j,b,h,c,e=>by simp only[cnt];rcases TL (Uf h)with d|rfl;{have:=pz b d c e;omega};have:=pD b c;simp_all
def gb(w:Wd):Th->Prop
 |.ld aw st=>st=UJ->aw=UJ
 |.ca o aw st=>(st=UJ->aw=UJ)/\(aw=UJ->o.W=UJ)
 |.cs o=>o.L=UJ/\o.S=Ul/\o.W=Ul/\o.n≠0
 |.a1 o _=>w.S=UJ/\w.L=Ul/\1<=o.n/\o.n<=w.n
 |.uc o=>o.L=Ul/\o.W=Ul/\o.S=Ul/\o.n≠0
 |_=>True
structure Inv(f:Nat->Th)(N:Nat)(w:Wd)(m:Nat):Prop where
 i1:cnt qC f N=w.L.toNat
 i2:cnt AN f N+m=(w.W||(w.S&&!w.L)).toNat
 i3:¬(w.W=UJ/\w.S=UJ)
 i4:if w.W then cnt pQ f N=w.n+m+cnt Hy f N else if w.S&&!w.L then cnt pQ f N+cnt Ch f N=w.n else cnt pQ f N=w.n
 i5:w.L=Ul->w.W=Ul->w.S=Ul->w.n≠0->1<=cnt N5 f N
 i6:w.S=UJ->w.n≠0
 i8:w.W=Ul->cnt Hx f N=0
 loc:∀i,i<N->gb w (f i)
section
theorem vl(f:Nat->Th)(N:Nat):cnt AN f N=cnt Hy f N+cnt Ch f N+cnt Hx f N:=by induction N with|zero=>rfl|succ N c=>simp only[cnt];(have:∀t:Th,(AN t).toNat=(Hy t).toNat+(Ch t).toNat+(Hx t).toNat:=by intro t;cases t with|ld a b=>cases a<;>rfl|ca o a b=>cases a<;>rfl|_=>rfl);grind
section
variable{f:Nat->Th}{w w':Wd}{m m':Nat}{x:Th}
theorem vG(a:i<N)(c:gb w' x)(h:∀j,j<N->j≠i->gb w' (f j)):∀j,j<N->gb w' (upd f i x j):=by intro j b;unfold upd;grind
theorem Fb{t:Th}(h:gb w t)(j:w.S=UJ->w.L=Ul->w'.S=UJ/\w'.L=Ul/\w.n<=w'.n):gb w' t:=by cases t with|a1 o l=>obtain⟨d,e,g,k⟩:=h;obtain⟨a,b,c⟩:=j d e;exact⟨a,b,g,by omega⟩|_=>exact h
set_option maxHeartbeats 4000000 in theorem Inv.step(h:Inv f N w m)(c:i<N)(u:Mv (f i) w m x w' m'):Inv (upd f i x) N w' m':=by have g:=lE qC f x c;have k:=lE Hy f x c;have l:=lE Ch f x c;have q:=lE Hx f x c;have r:=lE pQ f x c;have s:=lE N5 f x c;have s1:=vl f N;have s2:=vl (upd f i x) N;have v:=h.loc i c;have d:∀p:Th->Bool,p (f i)=UJ->1<=cnt p f N:=λp Z=>pD c Z;obtain⟨J,K,M,O,P,Q,R,e⟩:=h;have a:gb w' x->(w.S=UJ->w.L=Ul->w'.S=UJ/\w'.L=Ul/\w.n<=w'.n)->∀j,j<N->gb w' (upd f i x j):=λE F=>vG c E λj t _=>Fb (e j t) F;have H:gb w' x->(∀j,j<N->j≠i->gb w' (f j))->∀j,j<N->gb w' (upd f i x j):=vG c;(have b:gb w' x->(2<=cnt Ch f N->False)->Ch (f i)=UJ->∀j,j<N->gb w' (upd f i x j):=λE F T=>vG c E λj t I=>by have:=e j t;cases V:f j with|a1 o Y=>refine(F ?_).elim;(have U:Ch (f j)=UJ:=by rw[V];rfl);rcases Nat.lt_or_gt_of_ne I with G|G;{exact pz G c U T};exact pz G t T U|_=>rw[V]at this;exact this);have z:=d qC;have A:=d Hy;have B:=d Ch;have C:=d Hx;clear d;generalize hy:f i=y at u g k l q r s v z A B C b;clear hy;obtain⟨L,W,S,n⟩:=w;cases y with|ld D Y=>cases D<;>cases L<;>cases W<;>cases S<;>cases u<;>(try dsimp only[Bool.or_true,Bool.or_false,Bool.true_or,Bool.false_or]at*)<;>(try contradiction)<;>(try simp only[SB,or_false,false_or]at*)<;>(simp[qC,Hy,Ch,Hx,pQ,N5,nw,gb]at J K M O P Q R g k l q r s v z A B C<;>(refine⟨?_,?_,?_,?_,?_,?_,?_,?_⟩<;>first|(simp[nw]<;>omega)|omega|(refine a ?_ ?_<;>simp[gb,nw]<;>omega)|(refine a ⟨‹_›,‹_›,‹_›,‹_›⟩ ?_;simp;done)|(refine a ⟨‹_›,‹_›,‹_›,‹_›⟩ ?_;simp;omega)|(refine b ?_ (λX=>?_) rfl<;>(try simp[gb,nw])<;>omega)))|ca o D Y=>cases D<;>cases L<;>cases W<;>cases S<;>cases u<;>(try dsimp only[Bool.or_true,Bool.or_false,Bool.true_or,Bool.false_or]at*)<;>(try contradiction)<;>(try simp only[SB,or_false,false_or]at*)<;>(simp[qC,Hy,Ch,Hx,pQ,N5,nw,gb]at J K M O P Q R g k l q r s v z A B C<;>(refine⟨?_,?_,?_,?_,?_,?_,?_,?_⟩<;>first|(simp[nw]<;>omega)|omega|(refine a ?_ ?_<;>simp[gb,nw]<;>omega)|(refine a ⟨‹_›,‹_›,‹_›,‹_›⟩ ?_;simp;done)|(refine a ⟨‹_›,‹_›,‹_›,‹_›⟩ ?_;simp;omega)|(refine b ?_ (λX=>?_) rfl<;>(try simp[gb,nw])<;>omega)))|_=>cases L<;>cases W<;>cases S<;>cases u<;>(try dsimp only[Bool.or_true,Bool.or_false,Bool.true_or,Bool.false_or]at*)<;>(try contradiction)<;>(try simp only[SB,or_false,false_or]at*)<;>(simp[qC,Hy,Ch,Hx,pQ,N5,nw,gb]at J K M O P Q R g k l q r s v z A B C<;>(refine⟨?_,?_,?_,?_,?_,?_,?_,?_⟩<;>first|(simp[nw]<;>omega)|omega|(refine a ?_ ?_<;>simp[gb,nw]<;>omega)|(refine b ?_ (λX=>?_) rfl<;>(try simp[gb,nw])<;>omega)))
end
end
theorem pL{p:Th->Bool}{f:Nat->Th}:∀{N:Nat},(∀i,i<N->p (f i)=Ul)->cnt p f N=0|0,_=>rfl|N+1,h=>by simp only[cnt];rw[pL λi b=>h i Ω,h N Ω];rfl
theorem Inv.IU{f:Nat->Th}{w:Wd}(h:Inv f N w 0)(b:∀i,i<N->f i=.out\/f i=.sq):∀i,i<N->f i=.out:=by(have z:∀p:Th->Bool,p .out=Ul->p .sq=Ul->cnt p f N=0:=λp l m=>pL λi a=>by grind);obtain⟨c,d,q,g,j,r,s,k⟩:=h;rw[z qC rfl rfl]at c;rw[z AN rfl rfl]at d;rw[z Hy rfl rfl,z Ch rfl rfl]at g;rw[z N5 rfl rfl]at j;obtain⟨L,W,S,n⟩:=w;(have o:cnt pQ f N=0:=by grind);intro i a;rcases b i a with e|e;{exact e};have:=pD (p:=pQ) (f:=f) a (by rw[e];rfl);omega
def wt:Th->Nat
 |.uc _|.ux=>5
 |.us=>4
 |.t2|.a1 _ _=>2
 |.ld aw _|.ca _ aw _=>if aw then 1 else 2
 |.cs _=>2
 |.c0=>2
 |_=>0
end Go.Mx
namespace Go.Rk
variable{α:Type}
inductive Rk(α:Type)where
 |z
 |s(f:α->Rk α)
def Lt{α:Type}(a b:Rk α):Prop:=∃f x,b=.s f/\a=f x
theorem Lt.RS:WellFounded (Lt (α:=α)):=by refine⟨λa=>?_⟩;induction a with|z=>exact⟨_,λb⟨f,x,h,_⟩=>by cases h⟩|s g c=>refine⟨_,λb⟨f,x,h,e⟩=>?_⟩;cases h;rw[e];exact c x
abbrev DJ{α:Type}:Rk α->Rk α->Prop:=Relation.TransGen Lt
theorem Lt.wf:WellFounded (DJ (α:=α)):=Lt.RS.transGen
theorem rq(f:α->Rk α)(x:α):DJ (f x) (.s f):=.single ⟨f,x,rfl,rfl⟩
theorem Qw(f:α->Rk α)(x:α):DJ (f x) (.s λ_=>.s f):=.tail (.single ⟨f,x,rfl,rfl⟩) ⟨_,x,rfl,rfl⟩
def N0{α:Type}(N:Nat)(V' V:Nat->Rk α):Prop:=∃i,i<N/\DJ (V' i) (V i)/\∀j,j≠i->V' j=V j
theorem N0.wf{α:Type}:∀N:Nat,WellFounded (N0 (α:=α) N)|0=>⟨λV=>⟨_,λc⟨i,h,_⟩=>absurd h (Tm i)⟩⟩|N+1=>by have j:=N0.wf (α:=α) N;(have f:∀d:Rk α,∀V:Nat->Rk α,V N=d->Acc (N0 (N+1)) V:=by intro d;induction Lt.wf.apply d with|intro d _ l=>intro V;induction j.apply V with|intro V _ e=>intro g;refine⟨_,λc⟨i,k,b,a⟩=>?_⟩;rcases TL (Uf k)with h|rfl;{exact e c ⟨i,h,b,a⟩ ((a N Ω).trans g)};exact l (c i) (g▸b) c rfl);exact⟨λV=>f _ V rfl⟩
end Go.Rk
namespace Go.Cr
open Go.Conc Go.Mx Go.Rk
open Go.ConcR(KK WgAt stA smA rd wr mk)
open Go.ConcM(OsLater)
section
structure Cx where
 P:U9
 RO:Nat->Prop
 mu:Nat
 mo:Nat
 pre:Array UO
 tP:U8
 mm:Nat
 Am:Array MapEntry->Prop
 wg:Nat
 tW:U8
 out:Nat
 tO:U8
 no:Nat
 oc:Nat->Nat->Prop
 res:Nat->UO
 base:Nat
 n:Nat
 End:UP->UL->Prop
 w0:UL
 solo:Prop
 halt:(Nat->Prop)->UP->UL->Prop
 tA:Int->Int->Obj
variable(C:Cx)
def Cx.muA:Vs:=⟨C.mu,C.mo,UM⟩
def Cx.msA:Vs:=⟨C.mu,C.mo+1,UM⟩
def ax(v:UL)(s q:Int):Prop:=v.heap[C.mu]?=UG (.cells (C.pre++#[.int .i32 s,.int .u32 q]) C.tP)
def bW(v:UL)(w:Wd)(q:Nat):Prop:=ax C v w.enc q
def Po(v:UL)(es:Array MapEntry):Prop:=∃ck,v.heap[C.mm]?=UG (.map es ck)
def au(v:UL):Prop:=∃es,Po C v es/\C.Am es
def zc(v:UL):Prop:=∃cs:Array UO,v.heap[C.out]?=UG (.cells cs C.tO)/\cs.size=C.no
structure da(v:UL):Prop where
 port:∃s q,ax C v s q
 gL:∃st sm,v.heap[C.wg]?=UG (C.tA st sm)
 uq:zc C v
structure W0(w:UL):Prop where
 os:OsLater C.w0.os w.os
 out:w.output=C.w0.output
 tape:w.tape=C.w0.tape
structure Cx.Ok:Prop where
 pre:C.pre.size=C.mo
 lT:C.mu≠C.mm
 gi:C.mu≠C.wg
 gd:C.mu≠C.out
 nO:C.mm≠C.wg
 mG:C.mm≠C.out
 iN:C.wg≠C.out
 ro:∀k,C.RO k->k≠C.mu/\k≠C.mm/\k≠C.wg/\k≠C.out
 oc:∀i j o,C.oc i o->C.oc j o->i=j
 RL:∀o,¬C.oc 0 o
structure Env(i:Nat)(own:Nat->Prop)(v v1:UL):Prop where
 keep:∀k,own k\/C.RO k->v1.heap[k]?=v.heap[k]?
 grow:v.heap.size<=v1.heap.size
 aJ:da C v->da C v1
 AI:∀o,C.oc i o->v1.cell? ⟨C.out,o,UM⟩=v.cell? ⟨C.out,o,UM⟩
def Cx.CU(k n:Nat):Prop:=k=C.mu/\n<=C.mo
def Cx.wk(i:Nat):Prop:=i≠0\/C.solo
def qL(own:Nat->Prop)(e:Vv):Prop:=ae.Rz own C.RO (λ_ _=>False) e\/∃o,o<C.mo/\e=⟨.cell ⟨C.mu,o,UM⟩,Ul,Ul⟩
structure lB(own:Nat->Prop)(v v':UL)(es:Array Vv):Prop where
 keep:∀k,k<v.heap.size->¬own k->v'.heap[k]?=v.heap[k]?
 grow:v.heap.size<=v'.heap.size
 os:v'.os=v.os
 out:v'.output=v.output
 tape:v'.tape=v.tape
 evs:∀e∈es,qL C (ae.more own v v') e
structure Qp(i:Nat)(v v':UL)(es:Array Vv):Prop where
 keep:∀k,k≠C.out->v'.heap[k]?=v.heap[k]?
 size:v'.heap.size=v.heap.size
 os:v'.os=v.os
 out:v'.output=v.output
 tape:v'.tape=v.tape
 blk:zc C v->zc C v'
 cells:∀o,¬C.oc i o->v'.cell? ⟨C.out,o,UM⟩=v.cell? ⟨C.out,o,UM⟩
 evs:∀e∈es,∃o,C.oc i o/\e=⟨.cell ⟨C.out,o,UM⟩,UJ,Ul⟩
def Fin(i:Nat)(v:UL):Prop:=∀o,C.oc i o->v.cell? ⟨C.out,o,UM⟩=UG (C.res o)
structure DL(w w':UL)(es:Array Vv):Prop where
 heap:w'.heap=w.heap
 tape:w'.tape=w.tape
 out:w'.output=w.output
 os:OsLater w.os w'.os
 evs:es=#[]
structure Md where
 hold:Bool
 deaf:Bool
 tok:Bool
 said:Bool
def Md.free:Md:=⟨Ul,Ul,Ul,Ul⟩
def Md.bE:Md:=⟨Ul,UJ,Ul,Ul⟩
def Md.mb:Md:=⟨UJ,UJ,Ul,Ul⟩
def Md.AB:Md:=⟨UJ,Ul,Ul,Ul⟩
def Md.own:Md:=⟨UJ,Ul,UJ,Ul⟩
def Md.zh:Md:=⟨Ul,Ul,Ul,UJ⟩
def Md.uS:Md:=⟨Ul,UJ,Ul,UJ⟩
def fJ(m:Md)(own:Nat->Prop):Nat->Prop:=λk=>own k\/(m.tok=UJ/\k=C.mm)
inductive iS(i:Nat):Md->Mark->Md->Prop
 |N4:iS i .free .disable .bE
 |Jx:iS i .AB .disable .mb
 |Jz:iS i .zh .disable .uS
 |en:iS i .bE .enable .free
 |P1:iS i .mb .enable .AB
 |acq:iS i .AB (.acquire C.muA) .own
 |C3:iS i .own (.releaseMerge C.muA) .AB
 |Dn:i≠0->iS i .free (.releaseMerge (stA C.wg)) .zh
 |sr{m:Md}:i=0->m.tok=Ul->iS i m (.read (smA C.wg)) m
section stops
variable(i:Nat)(own:Nat->Prop)
abbrev cG(S:UP->UL->Prop)(n:Nat)(g:UP)(w:UL):Prop:=Goes C.P (i==0) (Env C i own) DL S n g w
section lock
variable(H:Wd->Bool->Bool->Nat->UP->UL->Prop)(Q:UP->UL->Prop)
def ub(aw st:Bool)(it:Nat)(g:UP)(w:UL):Prop:=
 g.status=.running/\∀wd q,bW C w wd q->(aw=UJ->wd.W=UJ)->∃g',UY C.P (i==0) g w=.go g' w #[]/\∃n,cG C i own (H wd aw st it) n g' w
def NQ(o:Wd)(it:Nat)(g:UP)(w:UL):Prop:=
 g.status=.running/\∀wd q,bW C w wd q->
   (wd=o->∃g',UY C.P (i==0) g w=.go g' (w.setCell C.muA (.int .i32 ({wd with W:=UJ}:Wd).enc)) #[rd C.muA,wr C.muA]/\∃n,cG C i own (ub C i own H UJ Ul (it+1)) n g' (w.setCell C.muA (.int .i32 ({wd with W:=UJ}:Wd).enc)))/\
   (wd≠o->∃g',UY C.P (i==0) g w=.go g' w #[rd C.muA]/\∃n,cG C i own (ub C i own H Ul Ul (it+1)) n g' w)
def AtA1(o:Wd)(st:Bool)(g:UP)(w:UL):Prop:=
 g.status=.running/\∀wd q,bW C w wd q->wd.n<100000000->wd.L=Ul->wd.S=UJ->wd.n≠0->
   ∃g',UY C.P (i==0) g w=.go g' (w.setCell C.muA (.int .i32 (⟨UJ,wd.W,st&&o.n !=1,wd.n-1⟩:Wd).enc)) #[rd C.muA,wr C.muA]/\Q g' (w.setCell C.muA (.int .i32 (⟨UJ,wd.W,st&&o.n !=1,wd.n-1⟩:Wd).enc))
def Jn(g:UP)(w:UL):Prop:=
 g.status=.running/\∃st,∀wd q,bW C w wd q->wd.n<100000000->(wd.S=UJ->wd.L=Ul/\wd.W=Ul/\wd.n≠0)->(wd.S=Ul->wd.W=UJ)->∃g',UY C.P (i==0) g w=.go g' w #[]/\
   (wd.S=UJ->∃n,cG C i own (AtA1 C i Q wd st) n g' w)/\(wd.S=Ul->∃n,cG C i own (H wd UJ st 0) n g' w)
def Dl(g:UP)(w:UL):Prop:=
 g.status=.running/\g.offers=UM/\(∀wd,bW C w wd 0->UY C.P (i==0) g w=.go {g with status:=.blocked} w #[])/\
   ∀wd q,bW C w wd (q+1)->∃g',UY C.P (i==0) g w=.go g' (w.setCell C.msA (.int .u32 (q:Nat))) (semEvents C.msA)/\∃n,cG C i own (Jn C i own H Q) n g' (w.setCell C.msA (.int .u32 (q:Nat)))
def NR(o:Wd)(aw st:Bool)(it:Nat)(g:UP)(w:UL):Prop:=
 g.status=.running/\∀wd q,bW C w wd q->
   (wd=o->∃g',UY C.P (i==0) g w=.go g' (w.setCell C.muA (.int .i32 (nw o aw st).enc)) #[rd C.muA,wr C.muA]/\
    (o.L=Ul->o.S=Ul->Q g' (w.setCell C.muA (.int .i32 (nw o aw st).enc)))/\((o.L||o.S)=UJ->∃n,cG C i own (Dl C i own H Q) n g' (w.setCell C.muA (.int .i32 (nw o aw st).enc))))/\
   (wd≠o->∃g',UY C.P (i==0) g w=.go g' w #[rd C.muA]/\∃n,cG C i own (ub C i own H aw st it) n g' w)
def gS(o:Wd)(aw st:Bool)(it:Nat)(g:UP)(w:UL):Prop:=
 (it<4/\ub C i own H aw st (it+1) g w)\/(it<4/\o.L=UJ/\o.S=Ul/\o.W=Ul/\o.n≠0/\aw=Ul/\NQ C i own H o it g w)\/NR C i own H Q o aw st it g w
def jd:Prop:=∀o aw st it g w,it<=4->(aw=UJ->o.W=UJ)->(st=UJ->aw=UJ)->o.n<100000000->H o aw st it g w->∃n,cG C i own (gS C i own H Q o aw st it) n g w
end lock
section unlock
variable(HU:Wd->UP->UL->Prop)(Q:UP->UL->Prop)
def Br(g:UP)(w:UL):Prop:=
 g.status=.running/\mayWake C.P g=UJ/\∀wd q,q<100000000->bW C w wd q->∃g',UY C.P (i==0) g w=.go g' (w.setCell C.msA (.int .u32 (q+1:Nat))) (semEvents C.msA)/\∃n,cG C i own Q n g' (w.setCell C.msA (.int .u32 (q+1:Nat)))
def KC(g:UP)(w:UL):Prop:=
 g.status=.running/\∀wd q,bW C w wd q->wd.n<100000000->∃g',UY C.P (i==0) g w=.go g' w #[]/\
   (wd.n=0\/wd.L=UJ\/wd.W=UJ\/wd.S=UJ->∃n,cG C i own Q n g' w)/\(wd.n≠0->wd.L=Ul->wd.W=Ul->wd.S=Ul->∃n,cG C i own (HU wd) n g' w)
def C0(o:Wd)(g:UP)(w:UL):Prop:=
 g.status=.running/\∀wd q,bW C w wd q->
   (wd=o->∃g',UY C.P (i==0) g w=.go g' (w.setCell C.muA (.int .i32 ({wd with W:=UJ,n:=wd.n-1}:Wd).enc)) #[rd C.muA,wr C.muA]/\∃n,cG C i own (Br C i own Q) n g' (w.setCell C.muA (.int .i32 ({wd with W:=UJ,n:=wd.n-1}:Wd).enc)))/\
   (wd≠o->∃g',UY C.P (i==0) g w=.go g' w #[rd C.muA]/\∃n,cG C i own (KC C i own HU Q) n g' w)
def A8:Prop:=∀o g w,o.L=Ul->o.W=Ul->o.S=Ul->o.n≠0->o.n<100000000->HU o g w->∃n,cG C i own (C0 C i own HU Q o) n g w
def Ns(g:UP)(w:UL):Prop:=
 g.status=.running/\∀wd q,bW C w wd q->wd.L=UJ->wd.n<100000000->
   ∃g',UY C.P (i==0) g w=.go g' (w.setCell C.muA (.int .i32 ({wd with L:=Ul}:Wd).enc)) #[rd C.muA,wr C.muA]/\
     (wd.S=UJ->∃n,cG C i own (Br C i own Q) n g' (w.setCell C.muA (.int .i32 ({wd with L:=Ul}:Wd).enc)))/\
     (wd.S=Ul->(wd.n=0\/wd.W=UJ)->∃n,cG C i own Q n g' (w.setCell C.muA (.int .i32 ({wd with L:=Ul}:Wd).enc)))/\
     (wd.S=Ul->wd.n≠0->wd.W=Ul->∃n,cG C i own (C0 C i own HU Q {wd with L:=Ul}) n g' (w.setCell C.muA (.int .i32 ({wd with L:=Ul}:Wd).enc)))
end unlock
def Nt(H:Wd->Bool->Bool->Nat->UP->UL->Prop)(Q:UP->UL->Prop)(g:UP)(w:UL):Prop:=
 g.status=.running/\∀wd q,bW C w wd q->
   (wd=⟨Ul,Ul,Ul,0⟩->∃g',UY C.P (i==0) g w=.go g' (w.setCell C.muA (.int .i32 1)) #[rd C.muA,wr C.muA]/\Q g' (w.setCell C.muA (.int .i32 1)))/\
   (wd≠⟨Ul,Ul,Ul,0⟩->∃g',UY C.P (i==0) g w=.go g' w #[rd C.muA]/\∃n,cG C i own (ub C i own H Ul Ul 0) n g' w)
def AtD4(g:UP)(w:UL):Prop:=
 g.status=.running/\mayWake C.P g=UJ/\(WgAt C.tW C.wg w 0 0->∃g',UY C.P (i==0) g w=.go g' (w.setCell (smA C.wg) (.int .u32 1)) (semEvents (smA C.wg))/\∃q,QuitsD C.P q 1 g')
def AtD3(g:UP)(w:UL):Prop:=
 g.status=.running/\(WgAt C.tW C.wg w 1 0->∃g',UY C.P (i==0) g w=.go g' (w.setCell (stA C.wg) (.int .u64 0)) #[wr (stA C.wg)]/\∃n,cG C i own (AtD4 C i) n g' (w.setCell (stA C.wg) (.int .u64 0)))
def AtD2(g:UP)(w:UL):Prop:=
 g.status=.running/\(WgAt C.tW C.wg w 1 0->∃g',UY C.P (i==0) g w=.go g' w #[rd (stA C.wg)]/\∃n,cG C i own (AtD3 C i own) n g' w)
def AtD1(g:UP)(w:UL):Prop:=
 g.status=.running/\∀v wt:Nat,wt<=1->v<100000000->WgAt C.tW C.wg w ((v+1)*KK+wt) 0->
   ∃g',UY C.P (i==0) g w=.go g' (w.setCell (stA C.wg) (.int .u64 (v*KK+wt))) #[rd (stA C.wg),wr (stA C.wg)]/\
     ((v=0/\wt=1)->∃n,cG C i own (AtD2 C i own) n g' (w.setCell (stA C.wg) (.int .u64 (v*KK+wt))))/\(¬(v=0/\wt=1)->∃q,QuitsD C.P q 1 g')
section wait
variable(A:UP->UL->Prop)
def AtAcq(g:UP)(w:UL):Prop:=
 g.status=.running/\∃g',UY C.P (i==0) g w=.go g' w #[mk (.acquire (stA C.wg))]/\(da C w->(∀j,Fin C j w)->bW C w ⟨Ul,Ul,Ul,0⟩ 0->W0 C w->C.End g' w)
def AtKe(g:UP)(w:UL):Prop:=
 g.status=.running/\∃g',UY C.P (i==0) g w=.go g' w #[mk .enable]/\∃n,cG C i own (AtAcq C i) n g' w
def AtW4(g:UP)(w:UL):Prop:=
 g.status=.running/\(WgAt C.tW C.wg w 0 0->∃g',UY C.P (i==0) g w=.go g' w #[rd (stA C.wg)]/\∃n,cG C i own (AtKe C i own) n g' w)
def AtW3(g:UP)(w:UL):Prop:=
 g.status=.running/\g.offers=UM/\((∃st,WgAt C.tW C.wg w st 0)->UY C.P (i==0) g w=.go {g with status:=.blocked} w #[])/\
   (WgAt C.tW C.wg w 0 1->∃g',UY C.P (i==0) g w=.go g' (w.setCell (smA C.wg) (.int .u32 0)) (semEvents (smA C.wg))/\∃n,cG C i own (AtW4 C i own) n g' (w.setCell (smA C.wg) (.int .u32 0)))
def P5(g:UP)(w:UL):Prop:=
 g.status=.running/\∃g',UY C.P (i==0) g w=.go g' w #[mk (.write (smA C.wg))]/\∃n,cG C i own (AtW3 C i own) n g' w
def AtW2(vs:Nat)(g:UP)(w:UL):Prop:=
 g.status=.running/\∀v:Nat,v<100000000->WgAt C.tW C.wg w (v*KK) 0->
   (v=vs->∃g',UY C.P (i==0) g w=.go g' (w.setCell (stA C.wg) (.int .u64 (v*KK+1))) #[rd (stA C.wg),wr (stA C.wg)]/\∃n,cG C i own (P5 C i own) n g' (w.setCell (stA C.wg) (.int .u64 (v*KK+1))))/\
   (v≠vs->∃g',UY C.P (i==0) g w=.go g' w #[rd (stA C.wg)]/\∃n,cG C i own A n g' w)
def AtW1(g:UP)(w:UL):Prop:=
 g.status=.running/\∀v:Nat,v<100000000->WgAt C.tW C.wg w (v*KK) 0->∃g',UY C.P (i==0) g w=.go g' w #[rd (stA C.wg)]/\
   (v=0->∃n,cG C i own (AtKe C i own) n g' w)/\(v≠0->∃n,cG C i own (AtW2 C i own A v) n g' w)
def yB:Prop:=∀g w,A g w->∃n,cG C i own (AtW1 C i own A) n g w
end wait
def Rt(c:Nat->UP->UL->Prop)(g:UP)(w:UL):Prop:=
 g.status=.running/\∀v:Nat,v<100000000->WgAt C.tW C.wg w (v*KK) 0->
   ∃g',UY C.P (i==0) g w=.go g' (w.setCell (stA C.wg) (.int .u64 ((v+1)*KK))) #[rd (stA C.wg),wr (stA C.wg)]/\c v g' (w.setCell (stA C.wg) (.int .u64 ((v+1)*KK)))
end stops
abbrev Ix:=UP×UL×UL
inductive fK:Nat->Nat->Md->Rk Ix->(Nat->Prop)->UP->UL->Prop
 |step{i j:Nat}{m:Md}{f:Ix->Rk Ix}{own:Nat->Prop}{g:UP}{v:UL}:g.status=.running->m.said=Ul->
  (∀v1,Env C i (fJ C m own) v v1->∃g' v' es,UY C.P (i==0) g v1=.go g' v' es/\lB C (fJ C m own) v1 v' es)->
  (∀v1 g' v' es,Env C i (fJ C m own) v v1->UY C.P (i==0) g v1=.go g' v' es->fK i j m (f (g',v1,v')) (ae.more own v1 v') g' v')->fK i j m (.s f) own g v
 |idle{i j:Nat}{m:Md}{f:Ix->Rk Ix}{own:Nat->Prop}{g:UP}{v:UL}:g.status=.running->
  (∀v1,Env C i (fJ C m own) v v1->∃g' v',UY C.P (i==0) g v1=.go g' v' #[]/\DL v1 v' #[])->
  (∀v1 g' v' es,Env C i (fJ C m own) v v1->UY C.P (i==0) g v1=.go g' v' es->fK i j m (f (g',v1,v')) own g' v')->fK i j m (.s f) own g v
 |mark{i j:Nat}{m m':Md}{k:Mark}{f:Ix->Rk Ix}{own:Nat->Prop}{g:UP}{v:UL}:g.status=.running->iS C i m k m'->
  (∀v1,Env C i (fJ C m own) v v1->∃g',UY C.P (i==0) g v1=.go g' v1 #[mk k])->(k=.releaseMerge C.muA->m=.own/\au C v)->(k=.releaseMerge (stA C.wg)->Fin C i v)->
  (∀v1 g' v' es,Env C i (fJ C m own) v v1->(k=.acquire C.muA->au C v1)->UY C.P (i==0) g v1=.go g' v' es->fK i j m' (f (g',v1,v1)) own g' v1)->fK i j m (.s f) own g v
 |lock{i j:Nat}{f:Ix->Rk Ix}{own:Nat->Prop}{g:UP}{v:UL}(H:Wd->Bool->Bool->Nat->UP->UL->Prop)(Q:UP->UL->Prop):g.status=.running->C.wk i->
  (∀g v1 v2,Q g v1->Env C i own v1 v2->Q g v2)->jd C i own H Q->(∀v1,Env C i own v v1->Nt C i own H Q g v1)->
  (∀g' v1,Env C i own v v1->Q g' v1->fK i j .mb (f (g',v1,v1)) own g' v1)->fK i j .bE (.s λ_=>.s f) own g v
 |unlock{i j:Nat}{f:Ix->Rk Ix}{own:Nat->Prop}{g:UP}{v:UL}(HU:Wd->UP->UL->Prop)(Q:UP->UL->Prop):g.status=.running->C.wk i->
  (∀g v1 v2,Q g v1->Env C i own v1 v2->Q g v2)->A8 C i own HU Q->(∀v1,Env C i own v v1->Ns C i own HU Q g v1)->
  (∀g' v1,Env C i own v v1->Q g' v1->fK i j .bE (f (g',v1,v1)) own g' v1)->fK i j .mb (.s λ_=>.s f) own g v
 |put{i j:Nat}{f:Ix->Rk Ix}{own:Nat->Prop}{g:UP}{v:UL}:g.status=.running->i≠0->
  (∀v1,Env C i own v v1->da C v1->∃g' v' es,UY C.P (i==0) g v1=.go g' v' es/\Qp C i v1 v' es)->
  (∀v1 g' v' es,Env C i own v v1->da C v1->UY C.P (i==0) g v1=.go g' v' es->fK i j .free (f (g',v1,v')) own g' v')->fK i j .free (.s f) own g v
 |done{i j:Nat}{own:Nat->Prop}{g:UP}{v:UL}:i≠0->(∀v1,Env C i own v v1->AtD1 C i own g v1)->fK i j .uS (.s λ_=>.z) own g v
 |add{i x:Nat}{f:Ix->Rk Ix}{own:Nat->Prop}{g:UP}{v:UL}(c:Nat->UP->UL->Prop):i=0->(∀v1,Env C i own v v1->Rt C i c g v1)->
  (∀v1 y g',Env C i own v v1->c y g' v1->fK i (2*x+1) .bE (f (g',v1,v1)) own g' v1)->fK i (2*x) .bE (.s f) own g v
 |spawn{i x:Nat}{f ρ:Ix->Rk Ix}{own ownc:Nat->Prop}{g:UP}{v:UL}:i=0->g.status=.running->x<C.n->(∀k,ownc k->own k)->
  (∀v1,Env C i own v v1->∃g' child,UY C.P (i==0) g v1=.spawn g' child v1 #[]/\child.status=.running)->
  (∀v1 g' child v' es,Env C i own v v1->UY C.P (i==0) g v1=.spawn g' child v' es->fK (C.base+x) 0 .free (ρ (child,v1,v1)) ownc child v1)->
  (∀v1 g' child v' es,Env C i own v v1->UY C.P (i==0) g v1=.spawn g' child v' es->fK i (2*x+2) .free (f (g',v1,v1)) (λk=>own k/\¬ownc k) g' v1)->
  fK i (2*x+1) .free (.s f) own g v
 |wait{i:Nat}{own:Nat->Prop}{g:UP}{v:UL}(A:UP->UL->Prop):i=0->yB C i own A->(∃n,cG C i own A n g v)->fK i (2*C.n) .bE .z own g v
 |stop{i j:Nat}{own:Nat->Prop}{g:UP}{v:UL}:C.solo->g.status=.running->(∀v1,Env C i own v v1->C.halt own g v1)->fK i j .free .z own g v
end
end Go.Cr
