/- A part of the proof that PortReached holds for every input. Conditions: none. -/
import Derived.Test.YtobmepfondcekaaGreatDoorZ4
import Derived.Conc.MuWords
import Derived.Conc.ClockLaws
import Derived.Test.YtobmepfondcekaaGreatDoorProg
import Derived.Conc.DeferLaws
import Derived.Conc.QuitsD
import Derived.Conc.WgArith
import Derived.RangeFuncRecord
set_option linter.all false
open Go.Proofs.Tryz renaming prog->Pz
open Go renaming Act->Vw,CallKind->VA,Deferred->Vo,Event->Vv,Frame->U0,FuncId->Va,Goroutine->UP,IntKind->U1,Item->Vj,Oper->VB,Operand->Vh,Program->U9,TypeId->U8,Value->UO,World->UL,execOp->UZ,stepG->UY,undef->UT,yielded->U7
open Bool renaming false->Ul,true->UJ
open Option renaming none->UM,some->UG
open Go.Proofs.Tryz
namespace Go.Lw
open Go.Proofs Go.Conc Go.Mx Go.Rk Go.Cr Go.RowKit Go.Conc.Lib Go.ConcR.Gen
open Go.ConcR(KK WgAt stA smA rd wr mk DC0)
open Go.ConcM(goes_pad goes_le OsLater)
variable{C:Cx}{i j:Nat}{m:Md}{own:Nat->Prop}{g:UP}{v w:UL}{S:UP->UL->Prop}{K:UL->Prop}{s q:Int}
section
instance:Go.ConcR.Payload:=⟨3⟩
variable{w1:UL}
theorem MZ{w':UL}{es:Array Vv}(h:DC0 w w' es):DL w w' es:=by obtain⟨rfl,rfl⟩:=h;exact cO _
theorem zw{K K':UP->UL->Array Vv->Prop}{s:GStep}(h:∀g w es,K g w es->K' g w es)(k:s.goes K):s.goes K':=by cases s<;>first|exact h _ _ _ k|exact k
theorem Lm{k:Nat}:∀{n:Nat}{g:UP}{v:UL},Goes C.P (i==0) (Env C i own) DC0 (cG C i own S k) n g v->cG C i own S (k+n) g v|0,_,_,h=>h _ .refl|n+1,g,v,h=>by rcases h with h|⟨c,h⟩;{exact goes_pad (h _ .refl) _};refine .inr ⟨c,λx d=>zw (λg w e b=>?_) (h x d)⟩;exact⟨MZ b.1,Lm b.2⟩
def Kn(C:Cx)(i:Nat)(own:Nat->Prop)(v w:UL):Prop:=Env C i own v w/\da C w
theorem Kn.rely(h:Kn C i own v w)(r:Env C i own w w1):Kn C i own v w1:=⟨h.1.trans r,r.aJ h.2⟩
theorem OT:(f113.name== "runtime.NumGoroutine")=Ul:=Ψ
theorem OP:(f144.name== "runtime.NumGoroutine")=Ul:=Ψ
theorem OU:(f145.name== "runtime.NumGoroutine")=Ul:=Ψ
theorem PR:(f166.name== "runtime.NumGoroutine")=Ul:=Ψ
theorem O2:(f168.name== "runtime.NumGoroutine")=Ul:=Ψ
theorem Ma:(f127.name== "runtime.NumGoroutine")=Ul:=Ψ
theorem Ms:f127.body.isNone=UJ:=Ψ
theorem Ny:Extern.findNext f127=UM:=Ψ
theorem MJ:Extern.find f127=UG (λ_=>do mark .disable;pure Extern.Race.none_):=Ψ
theorem LF:(f128.name== "runtime.NumGoroutine")=Ul:=Ψ
theorem NH:f128.body.isNone=UJ:=Ψ
theorem LC:Extern.findNext f128=UM:=Ψ
theorem Ni:Extern.find f128=UG (λ_=>do mark .enable;pure Extern.Race.none_):=Ψ
theorem MQ:(f139.name== "runtime.NumGoroutine")=Ul:=Ψ
theorem Mo:f139.body.isNone=UJ:=Ψ
theorem M1:Extern.findNext f139=UM:=Ψ
theorem LN:Extern.find f139=UG (Extern.Race.marked .acquire):=Ψ
theorem NN:(f126.name== "runtime.NumGoroutine")=Ul:=Ψ
theorem MO:f126.body.isNone=UJ:=Ψ
theorem M':Extern.findNext f126=UM:=Ψ
theorem NB:Extern.find f126=UG (Extern.Race.marked .releaseMerge):=Ψ
theorem Hl:(f165.name== "runtime.NumGoroutine")=Ul:=Ψ
theorem Hv:f165.body.isNone=UJ:=Ψ
theorem GQ:Extern.findNext f165=UM:=Ψ
theorem FB:Extern.find f165=UG (Extern.Atomic.casT (.int .i32)):=Ψ
theorem MD:(f167.name== "runtime.NumGoroutine")=Ul:=Ψ
theorem Nu:f167.body.isNone=UJ:=Ψ
theorem LG:Extern.findNext f167=UM:=Ψ
theorem Mw:Extern.find f167=UG (Extern.Atomic.update (Op.intArith .add) .i32 UJ):=Ψ
theorem Ed:(f182.name== "runtime.NumGoroutine")=Ul:=Ψ
theorem EL:f182.body.isNone=UJ:=Ψ
theorem FP:Extern.findNext f182=UM:=Ψ
theorem FL:Extern.find f182=UG (Extern.Sync.canSpin):=Ψ
theorem Mf:(f183.name== "runtime.NumGoroutine")=Ul:=Ψ
theorem LR:f183.body.isNone=UJ:=Ψ
theorem MM:Extern.findNext f183=UM:=Ψ
theorem NG:Extern.find f183=UG (λ_=>pure (.tuple #[])):=Ψ
theorem Mr:(f185.name== "runtime.NumGoroutine")=Ul:=Ψ
theorem L9:f185.body.isNone=UJ:=Ψ
theorem MW:Extern.findNext f185=UM:=Ψ
theorem LX:Extern.find f185=UG (Extern.OsHooks.nano):=Ψ
theorem NA:f185.norace=UJ:=Ψ
theorem Ef:(f186.name== "runtime.NumGoroutine")=Ul:=Ψ
theorem E':f186.body.isNone=UJ:=Ψ
theorem GW:Extern.findNext f186=UM:=Ψ
theorem Gi:Extern.find f186=UG (Extern.Sync.semacquire):=Ψ
theorem Ng:(f188.name== "runtime.NumGoroutine")=Ul:=Ψ
theorem MN:f188.body.isNone=UJ:=Ψ
theorem M8:Extern.findNext f188=UM:=Ψ
theorem LA:Extern.find f188=UG (Extern.Sync.semrelease):=Ψ
theorem Rl:(Pz.funcs[(base 145).fn]?).any (·.norace)=UJ:=Ψ
theorem Ky:(Pz.funcs[(base 166).fn]?).any (·.norace)=UJ:=Ψ
theorem Rb:(Pz.funcs[(base 168).fn]?).any (·.norace)=UJ:=Ψ
section
variable{main:Bool}{b:U0}{a:Vw}{kk:List Vj}{cs:List U0}{ops:Array VB}{rest:List Nat}{o:VB}
theorem yi{x:Vh}(p:ops[i]?=UG o)(s:Region.wanted o (U7 ops a.tmps)=UJ)(n:b.kind≠.early)(e:o.op=.load 21 x){ad:Addr}{v:Int}(k:a.eval x=.pointer (UG ad))(h:w.cell? ad=UG (.int .i32 v))(q:(Pz.funcs[b.fn]?).any (·.norace)=UJ):UY Pz main (G (b.at a (.inRegion ops (i::rest)::kk)) cs) w=.go (G (b.at (a.put o.dst (.int .i32 v)) (.inRegion ops rest::kk)) cs) w #[]:=by(have r:(UZ a.eval o).run Pz w=.ok (.value (.int .i32 v)) w:=by unfold UZ;simp only[e,k];simp[go_sem,h]);(have l:(UZ a.eval o).events Pz w #[]=#[⟨.cell ad,Ul,Ul⟩]:=by unfold UZ;simp only[e,k];simp[go_sem,h]);rw[stepG_value p s n r];unfold listed;rw[l,seen_def,q];rfl
end
noncomputable def lH:Code:=f112.body.getD .skip
noncomputable def j6:Code:=f113.body.getD .skip
noncomputable def cF:Code:=f144.body.getD .skip
noncomputable def ar:Code:=f166.body.getD .skip
end
section
variable{w1:UL}
theorem ax.cell(a:C.Ok)(h:ax C w s q):w.cell? ⟨C.mu,C.mo,UM⟩=UG (.int .i32 s):=by have b:=a.pre;unfold ax at h;simp[UL.cell?,h,<-b]
theorem ax.Bw(a:C.Ok)(h:ax C w s q):w.cell? ⟨C.mu,C.mo+1,UM⟩=UG (.int .u32 q):=by have b:=a.pre;unfold ax at h;simp[UL.cell?,h,<-b]
theorem ax.thaw(h:ax C w s q)(o:Nat):w.frozen? ⟨C.mu,o,UM⟩=Ul:=by unfold ax at h;simp[UL.frozen?,h]
structure Kd(C:Cx)(i:Nat)(own:Nat->Prop)(K:UL->Prop):Prop where
 env:∀{v v1},K v->Env C i own v v1->K v1
 st:∀{v}(x:Int),K v->K (v.setCell C.muA (.int .i32 x))
 sm:∀{v}(x:Int),K v->K (v.setCell C.msA (.int .u32 x))
 aJ:∀{v},K v->da C v
theorem Kd.mu(b:Kd C i own K)(a:C.Ok)(h:K w):∃v:UO,w.cell? ⟨C.mu,C.mo,UM⟩=UG v:=by obtain⟨⟨s,q,c⟩,_⟩:=b.aJ h;exact⟨_,ax.cell a c⟩
theorem Kd.held(a:Kd C i own K)(h:K w/\au C w)(r:Env C i (fJ C .own own) w w1):K w1/\au C w1:=⟨a.env h.1 r.fI,h.2.env r (.inr ⟨rfl,rfl⟩)⟩
theorem yc{wd:Wd}(h:((wd.enc:Nat):Int)=0):wd=⟨Ul,Ul,Ul,0⟩:=by obtain⟨L,W,s,n⟩:=wd;(have h:(⟨L,W,s,n⟩:Wd).enc=0:=by omega);cases L<;>cases W<;>cases s<;>simp[Wd.enc]at h⊢<;>omega
theorem Ow:Pz.underlying 217=UG (.pointer 157):=Ψ
theorem z157:(Pz.info? 157).map (λi=>decide (i.size=0))=UG Ul:=Ψ
end
end Go.Lw
namespace Go.Lw
open Go.Proofs Go.Conc Go.Mx Go.Rk Go.Cr Go.RowKit Go.Conc.Lib Go.ConcR.Gen Go.Pw
open Go.ConcR(KK WgAt stA smA rd wr mk DC0)
open Go.ConcM(goes_pad goes_le OsLater)
variable{C:Cx}{i j N mm x d a dd:Nat}{m:Md}{own:Nat->Prop}{g:UP}{v n old:Int}{w:UL}{S:UP->UL->Prop}{H L L':List (Nat×UO)}{t vs:Array UO}{f q:Va}{k k' kk:List Vj}{obs:List (UO×UO)}{cs:List U0}{y z:Vh}{o:VB}{ags:Array Vh}{main:Bool}{ops:Array VB}{rest:List Nat}{ats:Array U8}{fn:Func}{ad:Addr}{u:UO}{P:U9}{s d':U8}{caller:U0}{c:Code}{kd:VA}{J:UP->Prop}
section
variable{v w1:UL}
section
theorem aB{n:Nat}(h:∀w1,Env C i own w w1->S g w1):cG C i own S n g w:=Goes.stop h
theorem Bv(n:Nat)(e:Sl N L t)(b:bA C.P H n (fr f (tm N L t) k)=UG (fr f (iR C.P H n (fr f (tm N L t) k)) k',obs))(l:∀p∈obs,p.1=p.2)(c:Sl N L' (iR C.P H n (fr f (tm N L t) k)))(d:∀a w1,Sl N L' a->Env C i own w w1->cG C i own S mm (G (fr f a k') cs) w1):cG C i own S (mm+n) (G (fr f t k) cs) w:=by refine Lm ?_;have:=Gs (m:=0) (main:=i==0) (D:=DC0) bG (λw=>⟨rfl,rfl⟩) n e b l c (λa h w1 o=>d a w1 h o);simp_all
theorem JM(n:Nat)(h:Sl N L t)(b:bA C.P H n (fr f (tm N L t) k)=UG (fr f (iR C.P H n (fr f (tm N L t) k)) k',obs))(l:∀p∈obs,p.1=p.2)(c:Sl N L' (iR C.P H n (fr f (tm N L t) k)))(d:∀a,Sl N L' a->ag C i j m own (G (fr f a k') cs) v):ag C i j m own (G (fr f t k) cs) v:=Jc (J:=λg=>ag C i j m own g v) (λF q o e=>.ctl rfl o e) n h b l c d
theorem bY(n:Nat)(O:List (Nat×Ob))(k':List Vj)(L':List (Nat×UO))(hS:Sl N L t)(hG:∀t' w1,Sl N L' t'->Env C i own w w1->cG C i own S mm (G (fr f t' k') cs) w1)(hP:C.P=Pz:=by exact hP)(h1:bA Pz (oh O) n (fr f (tm N L t) k)=UG (fr f (iR Pz (oh O) n (fr f (tm N L t) k)) k',oo O):=by kernel_rfl)(h2:Sl N L' (iR Pz (oh O) n (fr f (tm N L t) k)):=by exact .all):cG C i own S (mm+n) (G (fr f t k) cs) w:=Bv n hS (by rw[hP];exact h1) (tM O) (by simp_all) hG
theorem ej(n:Nat)(k':List Vj)(L':List (Nat×UO))(hS:Sl N L t)(hG:∀t' w1,Sl N L' t'->Env C i own w w1->cG C i own S mm (G (fr f t' k') cs) w1)(hP:C.P=Pz:=by exact hP)(h1:bA Pz (oh []) n (fr f (tm N L t) k)=UG (fr f (iR Pz (oh []) n (fr f (tm N L t) k)) k',oo []):=by kernel_rfl)(h2:Sl N L' (iR Pz (oh []) n (fr f (tm N L t) k)):=by exact .all):cG C i own S (mm+n) (G (fr f t k) cs) w:=bY n [] k' L' hS hG hP h1 h2
theorem xc(n:Nat)(O:List (Nat×Ob))(k':List Vj)(L':List (Nat×UO))(hS:Sl N L t)(hG:∀t',Sl N L' t'->ag C i j m own (G (fr f t' k') cs) v)(hP:C.P=Pz:=by exact hP)(h1:bA Pz (oh O) n (fr f (tm N L t) k)=UG (fr f (iR Pz (oh O) n (fr f (tm N L t) k)) k',oo O):=by kernel_rfl)(h2:Sl N L' (iR Pz (oh O) n (fr f (tm N L t) k)):=by exact .all):ag C i j m own (G (fr f t k) cs) v:=JM n hS (by rw[hP];exact h1) (tM O) (by simp_all) hG
theorem cX(n:Nat)(k':List Vj)(L':List (Nat×UO))(hS:Sl N L t)(hG:∀t',Sl N L' t'->ag C i j m own (G (fr f t' k') cs) v)(hP:C.P=Pz:=by exact hP)(h1:bA Pz (oh []) n (fr f (tm N L t) k)=UG (fr f (iR Pz (oh []) n (fr f (tm N L t) k)) k',oo []):=by kernel_rfl)(h2:Sl N L' (iR Pz (oh []) n (fr f (tm N L t) k)):=by exact .all):ag C i j m own (G (fr f t k) cs) v:=xc n [] k' L' hS hG hP h1 h2
end
theorem eY{n:Nat}(d:g.status=.running)(h:∀x,Env C i own w x->∃g' w',UY C.P (i==0) g x=.go g' w' #[]/\DL x w' #[]/\cG C i own S n g' w'):cG C i own S (n+1) g w:=.inr ⟨d,λx e=>by obtain⟨g',w',a,b,c⟩:=h x e;simp_all⟩
theorem o9(x:UL):DL x x.later #[]:=⟨rfl,rfl,rfl,⟨x.tick,rfl⟩,rfl⟩
theorem kW(x:UL):DL x x.asked #[]:=⟨rfl,rfl,rfl,.refl _,rfl⟩
theorem qp{x y:UL}{es:Array Vv}(h:DL x y es):Env C i own x y:=⟨λk _=>by rw[h.heap],by rw[h.heap];omega,λf=>by obtain⟨⟨s,q,a⟩,⟨n,l,b⟩,⟨e,c,d⟩⟩:=f;exact⟨⟨s,q,by unfold ax at a⊢;rw[h.heap];exact a⟩,⟨n,l,by rw[h.heap];exact b⟩,⟨e,by rw[h.heap];exact c,d⟩⟩,λo _=>by simp[UL.cell?,h.heap]⟩
def aZ(o:VB):Option Va:=match o.op with
 |.call c=>(match c.callee with|.value (.func q)=>UG q|_=>UM)
 |_=>UM
def dC(o:VB):Array Vh:=match o.op with|.call c=>c.args|_=>#[]
def uF(o:VB):Array U8:=match o.op with|.call c=>c.argTypes|_=>#[]
theorem bF(h:aZ o=UG q)(b:dC o=ags):o.op=.call {callee:=.value (.func q),args:=ags,argTypes:=uF o}:=by subst b;unfold aZ at h;unfold dC uF;cases d:o.op with|call c=>obtain⟨e,k,f⟩:=c;grind|_=>simp_all
section
theorem cx{v:UO}(a:o.dst=UG d):G ((base f).at ((⟨t,[]⟩:Vw).put o.dst v) k) cs=G (fr f (t.setIfInBounds d v) k) cs:=by rw[a];rfl
theorem nh{v:Int}(hS:Sl N L t)(p:ops[x]?=UG o)(s:Region.wanted o (U7 ops (tm N L t))=UJ)(k:o.dst=UG d)(h:o.op=.load 21 y)(u:(⟨t,[]⟩:Vw).eval y=.pointer (UG ad))(n:w.cell? ad=UG (.int .i32 v))(r:(Pz.funcs[f]?).any (·.norace)=UJ):UY Pz main (G (fr f t (.inRegion ops (x::rest)::kk)) cs) w=.go (G (fr f (t.setIfInBounds d (.int .i32 v)) (.inRegion ops rest::kk)) cs) w #[]:=(yi (b:=base f) (a:=⟨t,[]⟩) p (aW hS s) (by k_ne) h u n r).trans (by first|(rw[cx k])|(rfl))
theorem ly{u:Vh}{v:Int}(hS:Sl N L t)(s:ops[x]?=UG o)(D:Region.wanted o (U7 ops (tm N L t))=UJ)(h:o.dst=UG d)(A:aZ o=UG 165)(l:dC o=#[y,z,u])(E:(⟨t,[]⟩:Vw).eval y=.pointer (UG ad))(F:(⟨t,[]⟩:Vw).eval z=.int .i32 v)(B:(⟨t,[]⟩:Vw).eval u=.int .i32 n)(p:w.cell? ad=UG (.int .i32 v))(r:w.frozen? ad=Ul):UY Pz main (G (fr f t (.inRegion ops (x::rest)::kk)) cs) w=.go (G (fr f (t.setIfInBounds d (.bool UJ)) (.inRegion ops rest::kk)) cs) (w.setCell ad (.int .i32 n)) #[rd ad,wr ad]:=(stepG_cas_hit (b:=base f) (a:=⟨t,[]⟩) s (aW hS D) (by k_ne) (bF A l) func165 Hl Hv GQ .i32 FB E F B p r).trans (by first|(done)|(rw[cx h];rfl))
theorem jT{u:Vh}{v:Int}(hS:Sl N L t)(A:ops[x]?=UG o)(E:Region.wanted o (U7 ops (tm N L t))=UJ)(k:o.dst=UG d)(B:aZ o=UG 165)(p:dC o=#[y,z,u])(F:(⟨t,[]⟩:Vw).eval y=.pointer (UG ad))(H:(⟨t,[]⟩:Vw).eval z=.int .i32 old)(D:(⟨t,[]⟩:Vw).eval u=.int .i32 n)(r:w.cell? ad=UG (.int .i32 v))(s:w.frozen? ad=Ul)(h:¬v=old):UY Pz main (G (fr f t (.inRegion ops (x::rest)::kk)) cs) w=.go (G (fr f (t.setIfInBounds d (.bool Ul)) (.inRegion ops rest::kk)) cs) w #[rd ad]:=(stepG_cas_miss (b:=base f) (a:=⟨t,[]⟩) A (aW hS E) (by k_ne) (bF B p) func165 Hl Hv GQ .i32 FB F H D r s h).trans (by first|(done)|(rw[cx k];rfl))
theorem xf{v:Int}(hS:Sl N L t)(s:ops[x]?=UG o)(A:Region.wanted o (U7 ops (tm N L t))=UJ)(h:o.dst=UG d)(u:aZ o=UG 167)(l:dC o=#[y,z])(B:(⟨t,[]⟩:Vw).eval y=.pointer (UG ad))(D:(⟨t,[]⟩:Vw).eval z=.int .i32 n)(p:w.cell? ad=UG (.int .i32 v))(r:w.frozen? ad=Ul):UY Pz main (G (fr f t (.inRegion ops (x::rest)::kk)) cs) w=.go (G (fr f (t.setIfInBounds d (.int .i32 (U1.i32.wrap (v+n)))) (.inRegion ops rest::kk)) cs) (w.setCell ad (.int .i32 (U1.i32.wrap (v+n)))) #[rd ad,wr ad]:=(stepG_add_atomic (b:=base f) (a:=⟨t,[]⟩) s (aW hS A) (by k_ne) (bF u l) func167 MD Nu LG .i32 Mw B D p r).trans (by first|(done)|(rw[cx h];rfl))
theorem Nq(hS:Sl N L t)(u:ops[x]?=UG o)(z:Region.wanted o (U7 ops (tm N L t))=UJ)(k:o.dst=UG d)(y:aZ o=UG 186)(p:dC o=ags)(A:(ags.map (⟨t,[]⟩:Vw).eval)[0]?=UG (.pointer (UG ad)))(r:w.cell? ad=UG (.int .u32 n))(h:n≠0)(s:w.frozen? ad=Ul):UY Pz main (G (fr f t (.inRegion ops (x::rest)::kk)) cs) w=.go (G (fr f (t.setIfInBounds d (.tuple #[])) (.inRegion ops rest::kk)) cs) (w.setCell ad (.int .u32 (n-1))) (semEvents ad):=(stepG_semacquire (b:=base f) (a:=⟨t,[]⟩) u (aW hS z) (by k_ne) (bF y p) func186 Ef E' GW Gi A r h s).trans (by first|(rw[cx k])|(rfl))
theorem zr(hS:Sl N L t)(p:ops[x]?=UG o)(s:Region.wanted o (U7 ops (tm N L t))=UJ)(r:aZ o=UG 186)(l:dC o=ags)(u:(ags.map (⟨t,[]⟩:Vw).eval)[0]?=UG (.pointer (UG ad)))(n:w.cell? ad=UG (.int .u32 0)):UY Pz main (G (fr f t (.inRegion ops (x::rest)::kk)) cs) w=.go {G (fr f t (.inRegion ops (x::rest)::kk)) cs with status:=.blocked} w #[]:=stepG_semacquire_wait (b:=base f) (a:=⟨t,[]⟩) p (aW hS s) (bF r l) func186 Ef E' GW Gi u n
theorem EC(hS:Sl N L t)(s:ops[x]?=UG o)(y:Region.wanted o (U7 ops (tm N L t))=UJ)(h:o.dst=UG d)(u:aZ o=UG 188)(l:dC o=ags)(z:(ags.map (⟨t,[]⟩:Vw).eval)[0]?=UG (.pointer (UG ad)))(p:w.cell? ad=UG (.int .u32 n))(r:w.frozen? ad=Ul):UY Pz main (G (fr f t (.inRegion ops (x::rest)::kk)) cs) w=.go (G (fr f (t.setIfInBounds d (.tuple #[])) (.inRegion ops rest::kk)) cs) (w.setCell ad (.int .u32 (U1.u32.wrap (n+1)))) (semEvents ad):=(stepG_semrelease (b:=base f) (a:=⟨t,[]⟩) s (aW hS y) (by k_ne) (bF u l) func188 Ng MN M8 LA z p r).trans (by first|(rw[cx h])|(rfl))
theorem BA(hS:Sl N L t)(l:ops[x]?=UG o)(p:Region.wanted o (U7 ops (tm N L t))=UJ)(h:o.dst=UG d)(n:aZ o=UG 185):UY Pz main (G (fr f t (.inRegion ops (x::rest)::kk)) cs) w=.go (G (fr f (t.setIfInBounds d (Iv ((w.os.mono+w.tick:Nat):Int))) (.inRegion ops rest::kk)) cs) w.later #[]:=(stepG_nanotime (b:=base f) (a:=⟨t,[]⟩) l (aW hS p) (by k_ne) (bF n rfl) func185 Mr L9 MW LX NA).trans (by first|(rw[cx h])|(rfl))
theorem n5{k:U1}(hS:Sl N L t)(s:ops[x]?=UG o)(y:Region.wanted o (U7 ops (tm N L t))=UJ)(h:o.dst=UG d)(u:aZ o=UG 182)(r:dC o=ags)(z:ags.map (⟨t,[]⟩:Vw).eval=#[.int k n])(l:4<=n):UY Pz main (G (fr f t (.inRegion ops (x::rest)::kk)) cs) w=.go (G (fr f (t.setIfInBounds d (.bool Ul)) (.inRegion ops rest::kk)) cs) w #[]:=(stepG_canSpin_no (b:=base f) (a:=⟨t,[]⟩) s (aW hS y) (by k_ne) (bF u r) func182 Ed EL FP FL z l).trans (by first|(rw[cx h])|(rfl))
theorem vR{k:U1}(hS:Sl N L t)(s:ops[x]?=UG o)(y:Region.wanted o (U7 ops (tm N L t))=UJ)(h:o.dst=UG d)(u:aZ o=UG 182)(r:dC o=ags)(z:ags.map (⟨t,[]⟩:Vw).eval=#[.int k n])(l:n<4):UY Pz main (G (fr f t (.inRegion ops (x::rest)::kk)) cs) w=.go (G (fr f (t.setIfInBounds d (.bool w.spins)) (.inRegion ops rest::kk)) cs) w.asked #[]:=(stepG_canSpin_ask (b:=base f) (a:=⟨t,[]⟩) s (aW hS y) (by k_ne) (bF u r) func182 Ed EL FP FL z l).trans (by first|(rw[cx h])|(rfl))
theorem Dw(hS:Sl N L t)(l:ops[x]?=UG o)(p:Region.wanted o (U7 ops (tm N L t))=UJ)(h:o.dst=UG d)(n:aZ o=UG 183):UY Pz main (G (fr f t (.inRegion ops (x::rest)::kk)) cs) w=.go (G (fr f (t.setIfInBounds d (.tuple #[])) (.inRegion ops rest::kk)) cs) w #[]:=(stepG_entry_pure (b:=base f) (a:=⟨t,[]⟩) (.tuple #[]) l (aW hS p) (by k_ne) (bF n rfl) func183 Mf LR MM NG).trans (by first|(rw[cx h])|(rfl))
end
end
section
variable{v w1:UL}
section
theorem sL(hS:Sl N L t)(l:ops[x]?=UG o)(p:Region.wanted o (U7 ops (tm N L t))=UJ)(h:o.dst=UG d)(n:aZ o=UG 127):UY Pz main (G (fr f t (.inRegion ops (x::rest)::kk)) cs) w=.go (G (fr f (t.setIfInBounds d (.tuple #[])) (.inRegion ops rest::kk)) cs) w #[mk .disable]:=(stepG_mark0 (b:=base f) (a:=⟨t,[]⟩) .disable Θ l (aW hS p) (by k_ne) (bF n rfl) func127 Ma Ms Ny MJ).trans (by first|(rw[cx h];done)|(rw[cx h];rfl))
theorem qB(hS:Sl N L t)(l:ops[x]?=UG o)(p:Region.wanted o (U7 ops (tm N L t))=UJ)(h:o.dst=UG d)(n:aZ o=UG 128):UY Pz main (G (fr f t (.inRegion ops (x::rest)::kk)) cs) w=.go (G (fr f (t.setIfInBounds d (.tuple #[])) (.inRegion ops rest::kk)) cs) w #[mk .enable]:=(stepG_mark0 (b:=base f) (a:=⟨t,[]⟩) .enable Θ l (aW hS p) (by k_ne) (bF n rfl) func128 LF NH LC Ni).trans (by first|(rw[cx h];done)|(rw[cx h];rfl))
theorem tF(hS:Sl N L t)(n:ops[x]?=UG o)(r:Region.wanted o (U7 ops (tm N L t))=UJ)(h:o.dst=UG d)(p:aZ o=UG 139)(l:dC o=ags)(s:(ags.map (⟨t,[]⟩:Vw).eval)[0]?=UG (.pointer (UG ad))):UY Pz main (G (fr f t (.inRegion ops (x::rest)::kk)) cs) w=.go (G (fr f (t.setIfInBounds d (.tuple #[])) (.inRegion ops rest::kk)) cs) w #[mk (.acquire ad)]:=(stepG_markAt (b:=base f) (a:=⟨t,[]⟩) .acquire Θ n (aW hS r) (by k_ne) (bF p l) func139 MQ Mo M1 LN s).trans (by first|(rw[cx h];done)|(rw[cx h];rfl))
theorem rB(hS:Sl N L t)(n:ops[x]?=UG o)(r:Region.wanted o (U7 ops (tm N L t))=UJ)(h:o.dst=UG d)(p:aZ o=UG 126)(l:dC o=ags)(s:(ags.map (⟨t,[]⟩:Vw).eval)[0]?=UG (.pointer (UG ad))):UY Pz main (G (fr f t (.inRegion ops (x::rest)::kk)) cs) w=.go (G (fr f (t.setIfInBounds d (.tuple #[])) (.inRegion ops rest::kk)) cs) w #[mk (.releaseMerge ad)]:=(stepG_markAt (b:=base f) (a:=⟨t,[]⟩) .releaseMerge Θ n (aW hS r) (by k_ne) (bF p l) func126 NN MO M' NB s).trans (by first|(rw[cx h];done)|(rw[cx h];rfl))
theorem Gr(hS:Sl N L t)(n:ops[x]?=UG o)(r:Region.wanted o (U7 ops (tm N L t))=UJ)(h:o.dst=UG d)(p:(UZ (⟨t,[]⟩:Vw).eval o).run P w=.ok (.value u) w)(l:(UZ (⟨t,[]⟩:Vw).eval o).events P w #[]=#[]):UY P main (G (fr f t (.inRegion ops (x::rest)::kk)) cs) w=.go (G (fr f (t.setIfInBounds d u) (.inRegion ops rest::kk)) cs) w #[]:=by refine(stepG_value (b:=base f) (a:=⟨t,[]⟩) (k:=kk) (cs:=cs) n (aW hS r) (by k_ne) p).trans ?_;unfold listed;rw[l,lb,cx h]
theorem wU{s d':U8}{v:UO}(hS:Sl N L t)(p:ops[x]?=UG o)(u:Region.wanted o (U7 ops (tm N L t))=UJ)(n:o.dst=UG d)(r:o.op=.convert 217 185 y)(z:(⟨t,[]⟩:Vw).eval y=.pointer (UG ad))(c:w.cell? ad=UG v):UY Pz main (G (fr f t (.inRegion ops (x::rest)::kk)) cs) w=.go (G (fr f (t.setIfInBounds d (.pointer (UG ad))) (.inRegion ops rest::kk)) cs) w #[]:=by have l:=run_convert_to_unsafe (P:=Pz) Ow underlying185 z157 c;have k:=λe=>events_convert_to_unsafe (P:=Pz) Ow underlying185 z157 c e;refine Gr hS p u n ?_ ?_;{unfold UZ;simp_all};unfold UZ;simp_all
theorem Mh:UY P main (G (fr f t []) cs) w=.go (G (ae.cj f t [] .returning) cs) w #[]:=by rfl
theorem LV:UY P main (G (fr f t (.code .ret::kk)) cs) w=.go (G (ae.cj f t (.code .ret::kk) .returning) cs) w #[]:=by rfl
theorem xd(h:P.funcs[f]?=UG fn)(b:fn.results=#[]):UY P main (G (ae.cj f t kk .returning) (caller::cs)) w=.go (G (caller.finish (.tuple #[])) cs) w #[]:=by
 have c:(results fn t).run P w=.ok (.tuple #[]) w:=by simp[results,b]
 have e:(results fn t).events P w #[]=#[]:=by simp[results,b]
 rw[ae.aO h c,e,lb]
end
section
theorem ja(a:C.P.funcs[f]?=UG fn)(b:fn.results=#[])(h:ag C i j m own (G (caller.finish (.tuple #[])) cs) v):ag C i j m own (G (fr f t []) (caller::cs)) v:=.ctl rfl (λ_=>Mh) (.ctl rfl (λ_=>xd a b) h)
theorem rU(a:C.P.funcs[f]?=UG fn)(b:fn.results=#[])(h:ag C i j m own (G (caller.finish (.tuple #[])) cs) v):ag C i j m own (G (fr f t (.code .ret::kk)) (caller::cs)) v:=.ctl rfl (λ_=>LV) (.ctl rfl (λ_=>xd a b) h)
theorem cM{n:Nat}{g':UP}(a:g.status=.running)(h:∀w,UY C.P (i==0) g w=.go g' w #[])(k:cG C i own S n g' w):cG C i own S (n+1) g w:=eY a λx b=>⟨g',x,h x,cO x,k.rely bG b⟩
end
theorem RH{L S:Bool}(h:(L||S)=UJ):(((L.toNat+4*S.toNat:Nat):Int)==0)=Ul:=by grind
end
section
variable{v w1:UL}
abbrev pX(kd:VA)(f:Va)(t:Array UO)(k:List Vj):U0:={fn:=f,tmps:=t,todo:=k,defers:=[],mode:=.run,kind:=kd,roundOf:=UM}
abbrev NY(kd:VA)(f:Va)(t:Array UO)(k:List Vj):U0:={fn:=f,tmps:=t,todo:=k,defers:=[],mode:=.returning,kind:=kd,roundOf:=UM}
def bk(kd:VA)(f:Va):U0:={base f with kind:=kd}
section
theorem yI(A:kd≠.early)(hS:Sl N L t)(B:ops[x]?=UG o)(F:Region.wanted o (U7 ops (tm N L t))=UJ)(D:aZ o=UG q)(y:dC o=ags)(E:ags.map (⟨t,[]⟩:Vw).eval=vs)(r:P.funcs[q]?=UG fn)(s:(fn.name== "runtime.NumGoroutine")=Ul)(z:fn.body=UG c):UY P main (G (pX kd f t (.inRegion ops (x::rest)::kk)) cs) w=.go (G (fr q (vs++Array.replicate (fn.ntmps-vs.size) UT) [.code c]) (pX kd f t (.inRegion ops (x::rest)::kk)::cs)) w #[]:=by subst E;have n:=bF D y;(have l:fn.body.isNone=Ul:=by grind);have h:=stepG_enter (P:=P) (main:=main) (b:=bk kd f) (a:=⟨t,[]⟩) (k:=kk) (rest:=rest) (cs:=cs) (w:=w) B (aW hS F) A (run_call_body n r s l);rw[enter_at _ r z]at h;(have e:listed P (bk kd f).fn ⟨t,[]⟩ o w=#[]:=by unfold listed;rw[events_call_body n r s l];rfl);rw[e]at h;exact h
theorem Bz(hS:Sl N L t)(n:ops[x]?=UG o)(s:Region.wanted o (U7 ops (tm N L t))=UJ)(p:aZ o=UG q)(e:dC o=ags)(r:ags.map (⟨t,[]⟩:Vw).eval=vs)(k:P.funcs[q]?=UG fn)(l:(fn.name== "runtime.NumGoroutine")=Ul)(h:fn.body=UG c):UY P main (G (fr f t (.inRegion ops (x::rest)::kk)) cs) w=.go (G (fr q (vs++Array.replicate (fn.ntmps-vs.size) UT) [.code c]) (fr f t (.inRegion ops (x::rest)::kk)::cs)) w #[]:=yI (kd:=.normal) Θ hS n s p e r k l h
theorem wy(h:t.getD a UT=u):(#[.tmp a]:Array Vh).map (⟨t,[]⟩:Vw).eval=#[u]:=by subst h;simp[Vw.eval]
theorem Di{b:Nat}{u':UO}(h:t.getD a UT=u)(e:t.getD b UT=u'):(#[.tmp a,.tmp b]:Array Vh).map (⟨t,[]⟩:Vw).eval=#[u,u']:=by subst h e;simp[Vw.eval]
theorem Lv{c:UO}(h:t.getD a UT=u):(#[.tmp a,.const c]:Array Vh).map (⟨t,[]⟩:Vw).eval=#[u,c]:=by subst h;simp[Vw.eval]
theorem wx(b:ops[x]?=UG o)(a:o.dst=UG d)(u:UO):(pX kd f t (.inRegion ops (x::rest)::kk)).finish u=pX kd f (t.setIfInBounds d u) (.inRegion ops rest::kk):=by simp[U0.finish,b,a]
theorem GB(y:kd≠.early)(s:∀F a,(∀w,UY P main (G F cs) w=.go (G a cs) w #[])->J (G a cs)->J (G F cs))(n:Nat)(u:Sl N L t)(h:bA P H n (pX kd f (tm N L t) k)=UG (pX kd f (match bA P H n (pX kd f (tm N L t) k)with|some x=>x.1.tmps|none=>#[]) k',obs))(z:∀p∈obs,p.1=p.2)(l:Sl N L' (match bA P H n (pX kd f (tm N L t) k)with|some x=>x.1.tmps|none=>#[]))(r:∀b,Sl N L' b->J (G (pX kd f b k') cs)):J (G (pX kd f t k) cs):=by(have e:pX kd f t k=pX kd f (tm N L t) k:=by rw[<-u.tm]);rw[e];exact ox (main:=main) s n h z rfl y (r _ l)
theorem pM(s:kd≠.early)(n:Nat)(r:Sl N L t)(b:bA C.P H n (pX kd f (tm N L t) k)=UG (pX kd f (match bA C.P H n (pX kd f (tm N L t) k)with|some x=>x.1.tmps|none=>#[]) k',obs))(u:∀p∈obs,p.1=p.2)(e:Sl N L' (match bA C.P H n (pX kd f (tm N L t) k)with|some x=>x.1.tmps|none=>#[]))(h:∀a,Sl N L' a->ag C i j m own (G (pX kd f a k') cs) v):ag C i j m own (G (pX kd f t k) cs) v:=GB (main:=i==0) (J:=λg=>ag C i j m own g v) s (λF z y l=>.ctl rfl y l) n r b u e h
theorem xH(n:Nat)(h:Sl N L t)(a:bA C.P H n (fr f (tm N L t) k)=UG (fr f (iR C.P H n (fr f (tm N L t) k)) k',obs))(l:∀p∈obs,p.1=p.2)(b:∀w1,Env C i own w w1->cG C i own S mm (G (fr f (iR C.P H n (fr f (tm N L t) k)) k') cs) w1):cG C i own S (mm+n) (G (fr f t k) cs) w:=by(have e:fr f t k=fr f (tm N L t) k:=by rw[<-h.tm]);rw[e];exact rL bG cO n a l rfl Θ (b w .refl)
theorem uY(n:kd≠.early)(hS:Sl N L t)(r:ops[x]?=UG o)(y:Region.wanted o (U7 ops (tm N L t))=UJ)(s:aZ o=UG q)(e:dC o=ags)(u:ags.map (⟨t,[]⟩:Vw).eval=vs)(l:C.P.funcs[q]?=UG fn)(p:(fn.name== "runtime.NumGoroutine")=Ul)(k:fn.body=UG c)(h:ag C i j m own (G (fr q (vs++Array.replicate (fn.ntmps-vs.size) UT) [.code c]) (pX kd f t (.inRegion ops (x::rest)::kk)::cs)) v):ag C i j m own (G (pX kd f t (.inRegion ops (x::rest)::kk)) cs) v:=.ctl rfl (λ_=>yI n hS r y s e u l p k) h
theorem Kf:UY P main (G (pX kd f t []) cs) w=.go (G (NY kd f t []) cs) w #[]:=by rfl
theorem zg(h:ag C i j m own (G (NY kd f t []) cs) v):ag C i j m own (G (pX kd f t []) cs) v:=.ctl rfl (λ_=>Kf) h
theorem zo(a:C.P.funcs[f]?=UG fn)(b:fn.results=#[])(h:ag C i j m own (G (caller.finish (.tuple #[])) cs) v):ag C i j m own (G (NY .normal f t kk) (caller::cs)) v:=.ctl rfl (λ_=>xd a b) h
theorem Cv(l:C.P.funcs[f]?=UG fn)(e:fn.results=#[])(k:caller.mode=.returning)(h:ag C i j m own (G caller cs) v):ag C i j m own (G (NY .deferred f t kk) (caller::cs)) v:=.ctl rfl (λw=>stepG_leave_deferred (b:=bk .deferred f) (a:=⟨t,[]⟩) (todo:=kk) rfl rfl l (results_none e _ _ w) (events_results_none e _ _) k) h
end
end
section
variable{v w1:UL}
abbrev cC(kd:VA)(ds:List Vo)(f:Va)(t:Array UO)(k:List Vj):U0:={fn:=f,tmps:=t,todo:=k,defers:=ds,mode:=.run,kind:=kd,roundOf:=UM}
abbrev wC(kd:VA)(ds:List Vo)(f:Va)(t:Array UO)(k:List Vj):U0:={fn:=f,tmps:=t,todo:=k,defers:=ds,mode:=.returning,kind:=kd,roundOf:=UM}
structure Xt(P:U9)(q:Va)(fn:Func):Prop where
 f:P.funcs[q]?=UG fn
 n:(fn.name== "runtime.NumGoroutine")=Ul
 b:fn.body.isNone=UJ
 x:Extern.findNext fn=UM
section
variable{ds:List Vo}
def kQ(P:U9)(H:List (Nat×UO))(n:Nat)(F:U0):Array UO:=match bA P H n F with|some x=>x.1.tmps|none=>#[]
theorem yQ(y:kd≠.early)(s:∀F a,(∀w,UY P main (G F cs) w=.go (G a cs) w #[])->J (G a cs)->J (G F cs))(n:Nat)(u:Sl N L t)(h:bA P H n (cC kd ds f (tm N L t) k)=UG (cC kd ds f (kQ P H n (cC kd ds f (tm N L t) k)) k',obs))(z:∀p∈obs,p.1=p.2)(l:Sl N L' (kQ P H n (cC kd ds f (tm N L t) k)))(r:∀b,Sl N L' b->J (G (cC kd ds f b k') cs)):J (G (cC kd ds f t k) cs):=by(have e:cC kd ds f t k=cC kd ds f (tm N L t) k:=by rw[<-u.tm]);rw[e];exact ox s n h z rfl y (r _ l)
theorem G7(s:kd≠.early)(n:Nat)(r:Sl N L t)(b:bA C.P H n (cC kd ds f (tm N L t) k)=UG (cC kd ds f (kQ C.P H n (cC kd ds f (tm N L t) k)) k',obs))(u:∀p∈obs,p.1=p.2)(e:Sl N L' (kQ C.P H n (cC kd ds f (tm N L t) k)))(h:∀a,Sl N L' a->ag C i j m own (G (cC kd ds f a k') cs) v):ag C i j m own (G (cC kd ds f t k) cs) v:=yQ (J:=λg=>ag C i j m own g v) s (λF z y l=>.ctl rfl y l) n r b u e h
theorem Dc(u:kd≠.early)(n:Nat)(s:Sl N L t)(e:bA P H n (cC kd ds f (tm N L t) k)=UG (cC kd ds f (kQ P H n (cC kd ds f (tm N L t) k)) k',obs))(y:∀p∈obs,p.1=p.2)(h:Sl N L' (kQ P H n (cC kd ds f (tm N L t) k)))(l:∀b,Sl N L' b->∃a,QuitsD P a dd (G (cC kd ds f b k') cs)):∃a,QuitsD P a dd (G (cC kd ds f t k) cs):=yQ (J:=λg=>∃a,QuitsD P a dd g) u (λF A z⟨a,r⟩=>⟨a+1,.ctl rfl (λw=>z w) r⟩) n s e y h l
theorem yY(s:kd≠.early)(n:Nat)(r:Sl N L t)(b:bA C.P H n (cC kd ds f (tm N L t) k)=UG (cC kd ds f (kQ C.P H n (cC kd ds f (tm N L t) k)) k',obs))(u:∀p∈obs,p.1=p.2)(h:Sl N L' (kQ C.P H n (cC kd ds f (tm N L t) k)))(l:∀a w1,Sl N L' a->Env C i own w w1->cG C i own S mm (G (cC kd ds f a k') cs) w1):cG C i own S (mm+n) (G (cC kd ds f t k) cs) w:=by(have e:cC kd ds f t k=cC kd ds f (tm N L t) k:=by rw[<-r.tm]);rw[e];exact rL bG cO n b u rfl s (l _ w h .refl)
theorem xl(n:Nat)(O:List (Nat×Ob))(k':List Vj)(L':List (Nat×UO))(hS:Sl N L t)(hG:∀t',Sl N L' t'->ag C i j m own (G (cC kd ds f t' k') cs) v)(hP:C.P=Pz:=by exact hP)(hk:kd≠.early:=by simp)(h1:bA Pz (oh O) n (cC kd ds f (tm N L t) k)=UG (cC kd ds f (kQ Pz (oh O) n (cC kd ds f (tm N L t) k)) k',oo O):=by kernel_rfl)(h2:Sl N L' (kQ Pz (oh O) n (cC kd ds f (tm N L t) k)):=by exact .all):ag C i j m own (G (cC kd ds f t k) cs) v:=G7 hk n hS (by rw[hP];exact h1) (tM O) (by simp_all) hG
theorem eV(n:Nat)(k':List Vj)(L':List (Nat×UO))(hS:Sl N L t)(hG:∀t',Sl N L' t'->ag C i j m own (G (cC kd ds f t' k') cs) v)(hP:C.P=Pz:=by exact hP)(hk:kd≠.early:=by simp)(h1:bA Pz (oh []) n (cC kd ds f (tm N L t) k)=UG (cC kd ds f (kQ Pz (oh []) n (cC kd ds f (tm N L t) k)) k',oo []):=by kernel_rfl)(h2:Sl N L' (kQ Pz (oh []) n (cC kd ds f (tm N L t) k)):=by exact .all):ag C i j m own (G (cC kd ds f t k) cs) v:=xl n [] k' L' hS hG hP hk h1 h2
theorem rK(n:Nat)(O:List (Nat×Ob))(k':List Vj)(L':List (Nat×UO))(hS:Sl N L t)(hG:∀t',Sl N L' t'->∃qn,QuitsD C.P qn dd (G (cC kd ds f t' k') cs))(hP:C.P=Pz:=by exact hP)(hk:kd≠.early:=by simp)(h1:bA Pz (oh O) n (cC kd ds f (tm N L t) k)=UG (cC kd ds f (kQ Pz (oh O) n (cC kd ds f (tm N L t) k)) k',oo O):=by kernel_rfl)(h2:Sl N L' (kQ Pz (oh O) n (cC kd ds f (tm N L t) k)):=by exact .all):∃qn,QuitsD C.P qn dd (G (cC kd ds f t k) cs):=Dc hk n hS (by rw[hP];exact h1) (tM O) (by simp_all) hG
theorem tq(n:Nat)(k':List Vj)(L':List (Nat×UO))(hS:Sl N L t)(hG:∀t',Sl N L' t'->∃qn,QuitsD C.P qn dd (G (cC kd ds f t' k') cs))(hP:C.P=Pz:=by exact hP)(hk:kd≠.early:=by simp)(h1:bA Pz (oh []) n (cC kd ds f (tm N L t) k)=UG (cC kd ds f (kQ Pz (oh []) n (cC kd ds f (tm N L t) k)) k',oo []):=by kernel_rfl)(h2:Sl N L' (kQ Pz (oh []) n (cC kd ds f (tm N L t) k)):=by exact .all):∃qn,QuitsD C.P qn dd (G (cC kd ds f t k) cs):=rK n [] k' L' hS hG hP hk h1 h2
theorem xk(n:Nat)(O:List (Nat×Ob))(k':List Vj)(L':List (Nat×UO))(hS:Sl N L t)(hG:∀t' w1,Sl N L' t'->Env C i own w w1->cG C i own S mm (G (cC kd ds f t' k') cs) w1)(hP:C.P=Pz:=by exact hP)(hk:kd≠.early:=by simp)(h1:bA Pz (oh O) n (cC kd ds f (tm N L t) k)=UG (cC kd ds f (kQ Pz (oh O) n (cC kd ds f (tm N L t) k)) k',oo O):=by kernel_rfl)(h2:Sl N L' (kQ Pz (oh O) n (cC kd ds f (tm N L t) k)):=by exact .all):cG C i own S (mm+n) (G (cC kd ds f t k) cs) w:=yY hk n hS (by rw[hP];exact h1) (tM O) (by simp_all) hG
theorem cy(n:Nat)(k':List Vj)(L':List (Nat×UO))(hS:Sl N L t)(hG:∀t' w1,Sl N L' t'->Env C i own w w1->cG C i own S mm (G (cC kd ds f t' k') cs) w1)(hP:C.P=Pz:=by exact hP)(hk:kd≠.early:=by simp)(h1:bA Pz (oh []) n (cC kd ds f (tm N L t) k)=UG (cC kd ds f (kQ Pz (oh []) n (cC kd ds f (tm N L t) k)) k',oo []):=by kernel_rfl)(h2:Sl N L' (kQ Pz (oh []) n (cC kd ds f (tm N L t) k)):=by exact .all):cG C i own S (mm+n) (G (cC kd ds f t k) cs) w:=xk n [] k' L' hS hG hP hk h1 h2
theorem mz{v:UO}(a:o.dst=UG d):G ((bk kd f).at (Vw.put ⟨t,ds⟩ o.dst v) k) cs=G (cC kd ds f (t.setIfInBounds d v) k) cs:=by rw[a];rfl
theorem mF(A:kd≠.early)(hS:Sl N L t)(B:ops[x]?=UG o)(F:Region.wanted o (U7 ops (tm N L t))=UJ)(D:aZ o=UG q)(y:dC o=ags)(E:ags.map (⟨t,[]⟩:Vw).eval=vs)(r:P.funcs[q]?=UG fn)(s:(fn.name== "runtime.NumGoroutine")=Ul)(z:fn.body=UG c):UY P main (G (cC kd ds f t (.inRegion ops (x::rest)::kk)) cs) w=.go (G (fr q (vs++Array.replicate (fn.ntmps-vs.size) UT) [.code c]) (cC kd ds f t (.inRegion ops (x::rest)::kk)::cs)) w #[]:=by subst E;have n:=bF D y;(have l:fn.body.isNone=Ul:=by grind);have h:=stepG_enter (main:=main) (b:=bk kd f) (a:=⟨t,ds⟩) (k:=kk) (rest:=rest) (cs:=cs) (w:=w) B (aW hS F) A (run_call_body n r s l);rw[enter_at _ r z]at h;(have e:listed P (bk kd f).fn ⟨t,ds⟩ o w=#[]:=by unfold listed;rw[events_call_body n r s l];rfl);rw[e]at h;exact h
theorem ia(b:ops[x]?=UG o)(a:o.dst=UG d)(u:UO):(cC kd ds f t (.inRegion ops (x::rest)::kk)).finish u=cC kd ds f (t.setIfInBounds d u) (.inRegion ops rest::kk):=by simp[U0.finish,b,a]
theorem G6:UY P main (G (cC kd ds f t []) cs) w=.go (G (wC kd ds f t []) cs) w #[]:=by rfl
theorem gQ:UY P main (G (cC kd ds f t (.code .ret::kk)) cs) w=.go (G (wC kd ds f t (.code .ret::kk)) cs) w #[]:=by rfl
theorem nf(h:P.funcs[f]?=UG fn)(e:fn.results=#[]):UY P main (G (wC .normal [] f t kk) (caller::cs)) w=.go (G (caller.finish (.tuple #[])) cs) w #[]:=stepG_leave (b:=base f) (a:=⟨t,[]⟩) rfl rfl h (results_none e _ _ w) (events_results_none e _ _)
theorem jl{s:Tmp}(h:P.funcs[f]?=UG fn)(e:fn.results=#[.tmp s])(k:t.getD s UT=u):UY P main (G (wC .normal [] f t kk) (caller::cs)) w=.go (G (caller.finish u) cs) w #[]:=by subst k;exact stepG_leave (b:=base f) (a:=⟨t,[]⟩) rfl rfl h (results_tmp e _ _ w) (events_results_tmp e _ _)
theorem IC(k:P.funcs[f]?=UG fn)(e:fn.results=#[])(h:caller.mode=.returning):UY P main (G (wC .deferred [] f t kk) (caller::cs)) w=.go (G caller cs) w #[]:=stepG_leave_deferred (b:=bk .deferred f) (a:=⟨t,[]⟩) rfl rfl k (results_none e _ _ w) (events_results_none e _ _) h
theorem xa(r:kd≠.early)(hS:Sl N L t)(s:ops[x]?=UG o)(y:Region.wanted o (U7 ops (tm N L t))=UJ)(p:o.dst=UM)(l:o.op=.defer {callee:=.value (.func q),args:=ags,argTypes:=ats})(u:ags.map (⟨t,[]⟩:Vw).eval=vs):UY P main (G (cC kd ds f t (.inRegion ops (x::rest)::kk)) cs) w=.go (G (cC kd (dcall q vs::ds) f t (.inRegion ops rest::kk)) cs) w #[]:=by subst u;refine(stepG_defer (b:=bk kd f) (a:=⟨t,ds⟩) s (aW hS y) r l).trans ?_;rw[p];rfl
theorem nP(m:Mark)(k:∀g,m≠.extern g)(X:Xt P q fn)(h:Extern.find fn=UG (λ_=>do mark m;pure Extern.Race.none_)):UY P main (G (wC kd (dcall q #[]::ds) f t kk) cs) w=.go (G (wC kd ds f t kk) cs) w #[mk m]:=by have:=stepG_unwind_entry (main:=main) (b:=bk kd f) (a:=⟨t,dcall q #[]::ds⟩) (todo:=kk) (cs:=cs) (w:=w) rfl X.f X.n X.b X.x h (v:=Extern.Race.none_) (w':=w) (evs:=#[⟨.mark m,Ul,UJ⟩]) Θ Θ (by simp_all);exact this
theorem oS(p:kd≠.early)(m:Mark)(r:∀g,m≠.extern g)(hS:Sl N L t)(s:ops[x]?=UG o)(y:Region.wanted o (U7 ops (tm N L t))=UJ)(l:o.dst=UG d)(u:aZ o=UG q)(X:Xt P q fn)(n:Extern.find fn=UG (λ_=>do mark m;pure Extern.Race.none_)):UY P main (G (cC kd ds f t (.inRegion ops (x::rest)::kk)) cs) w=.go (G (cC kd ds f (t.setIfInBounds d (.tuple #[])) (.inRegion ops rest::kk)) cs) w #[mk m]:=(stepG_mark0 (b:=bk kd f) (a:=⟨t,ds⟩) m r s (aW hS y) p (bF u rfl) X.f X.n X.b X.x n).trans (by rw[mz l];try rfl)
theorem my(s:kd≠.early)(h:Addr->Mark)(u:∀ad g,h ad≠.extern g)(hS:Sl N L t)(y:ops[x]?=UG o)(A:Region.wanted o (U7 ops (tm N L t))=UJ)(p:o.dst=UG d)(z:aZ o=UG q)(n:dC o=ags)(X:Xt P q fn)(r:Extern.find fn=UG (Extern.Race.marked h))(B:(ags.map (⟨t,ds⟩:Vw).eval)[0]?=UG (.pointer (UG ad))):UY P main (G (cC kd ds f t (.inRegion ops (x::rest)::kk)) cs) w=.go (G (cC kd ds f (t.setIfInBounds d (.tuple #[])) (.inRegion ops rest::kk)) cs) w #[mk (h ad)]:=(stepG_markAt (b:=bk kd f) (a:=⟨t,ds⟩) h u y (aW hS A) s (bF z n) X.f X.n X.b X.x r B).trans (by rw[mz p];try rfl)
theorem Ho(p:kd≠.early)(u:UO)(hS:Sl N L t)(r:ops[x]?=UG o)(y:Region.wanted o (U7 ops (tm N L t))=UJ)(l:o.dst=UG d)(s:aZ o=UG q)(X:Xt P q fn)(n:Extern.find fn=UG (λ_=>pure u)):UY P main (G (cC kd ds f t (.inRegion ops (x::rest)::kk)) cs) w=.go (G (cC kd ds f (t.setIfInBounds d u) (.inRegion ops rest::kk)) cs) w #[]:=(stepG_entry_pure (b:=bk kd f) (a:=⟨t,ds⟩) u r (aW hS y) p (bF s rfl) X.f X.n X.b X.x n).trans (by rw[mz l])
theorem HV(p:kd≠.early)(hS:Sl N L t)(r:ops[x]?=UG o)(y:Region.wanted o (U7 ops (tm N L t))=UJ)(l:o.dst=UG d)(s:(UZ (⟨t,ds⟩:Vw).eval o).run P w=.ok (.value u) w)(n:(UZ (⟨t,ds⟩:Vw).eval o).events P w #[]=#[]):UY P main (G (cC kd ds f t (.inRegion ops (x::rest)::kk)) cs) w=.go (G (cC kd ds f (t.setIfInBounds d u) (.inRegion ops rest::kk)) cs) w #[]:=by refine(stepG_value (b:=bk kd f) (a:=⟨t,ds⟩) r (aW hS y) p s).trans ?_;unfold listed;rw[n,lb,mz l]
theorem sx{e:U8}{v:UO}(k:P.underlying s=UG (.pointer e))(a:P.underlying d'=UG .unsafePointer)(l:(P.info? e).map (λi=>decide (i.size=0))=UG Ul)(A:kd≠.early)(hS:Sl N L t)(B:ops[x]?=UG o)(E:Region.wanted o (U7 ops (tm N L t))=UJ)(z:o.dst=UG d)(D:o.op=.convert s d' y)(F:(⟨t,ds⟩:Vw).eval y=.pointer (UG ad))(h:w.cell? ad=UG v):UY P main (G (cC kd ds f t (.inRegion ops (x::rest)::kk)) cs) w=.go (G (cC kd ds f (t.setIfInBounds d (.pointer (UG ad))) (.inRegion ops rest::kk)) cs) w #[]:=by have u:=run_convert_to_unsafe k a l h;have r:=λn=>events_convert_to_unsafe k a l h n;refine HV A hS B E z ?_ ?_;{unfold UZ;simp_all};unfold UZ;simp_all
theorem Gu(A:kd≠.early){v:Int}(hS:Sl N L t)(B:ops[x]?=UG o)(E:Region.wanted o (U7 ops (tm N L t))=UJ)(r:o.dst=UG d)(D:aZ o=UG q)(l:dC o=#[y,z])(X:Xt P q fn)(s:Extern.find fn=UG (Extern.Atomic.update (Op.intArith .add) .u64 UJ))(F:(⟨t,ds⟩:Vw).eval y=.pointer (UG ad))(H:(⟨t,ds⟩:Vw).eval z=.int .u64 n)(p:w.cell? ad=UG (.int .u64 v))(u:w.frozen? ad=Ul):UY P main (G (cC kd ds f t (.inRegion ops (x::rest)::kk)) cs) w=.go (G (cC kd ds f (t.setIfInBounds d (.int .u64 (U1.u64.wrap (v+n)))) (.inRegion ops rest::kk)) cs) (w.setCell ad (.int .u64 (U1.u64.wrap (v+n)))) #[rd ad,wr ad]:=(stepG_add_atomic (b:=bk kd f) (a:=⟨t,ds⟩) B (aW hS E) A (bF D l) X.f X.n X.b X.x .u64 s F H p u).trans (by rw[mz r];try rfl)
theorem xp(s:kd≠.early){v:Int}(hS:Sl N L t)(u:ops[x]?=UG o)(A:Region.wanted o (U7 ops (tm N L t))=UJ)(p:o.dst=UG d)(z:aZ o=UG q)(l:dC o=#[y])(X:Xt P q fn)(r:Extern.find fn=UG (Extern.Atomic.loadT (.int .u64)))(B:(⟨t,ds⟩:Vw).eval y=.pointer (UG ad))(n:w.cell? ad=UG (.int .u64 v)):UY P main (G (cC kd ds f t (.inRegion ops (x::rest)::kk)) cs) w=.go (G (cC kd ds f (t.setIfInBounds d (.int .u64 v)) (.inRegion ops rest::kk)) cs) w #[rd ad]:=(stepG_load_atomic (b:=bk kd f) (a:=⟨t,ds⟩) u (aW hS A) s (bF z l) X.f X.n X.b X.x .u64 r B n).trans (by rw[mz p];try rfl)
theorem FI(B:kd≠.early)(hS:Sl N L t)(D:ops[x]?=UG o)(F:Region.wanted o (U7 ops (tm N L t))=UJ)(r:o.dst=UG d)(E:aZ o=UG q)(l:dC o=#[y,z])(X:Xt P q fn)(s:Extern.find fn=UG Extern.Atomic.storeT)(H:(⟨t,ds⟩:Vw).eval y=.pointer (UG ad))(I:(⟨t,ds⟩:Vw).eval z=.int .u64 n)(p:w.cell? ad=UG u)(A:w.frozen? ad=Ul):UY P main (G (cC kd ds f t (.inRegion ops (x::rest)::kk)) cs) w=.go (G (cC kd ds f (t.setIfInBounds d (.tuple #[])) (.inRegion ops rest::kk)) cs) (w.setCell ad (.int .u64 n)) #[wr ad]:=(stepG_store_atomic (b:=bk kd f) (a:=⟨t,ds⟩) D (aW hS F) B (bF E l) X.f X.n X.b X.x s H I p A).trans (by rw[mz r];try rfl)
theorem Ao(B:kd≠.early){u:Vh}{v:Int}(hS:Sl N L t)(D:ops[x]?=UG o)(H:Region.wanted o (U7 ops (tm N L t))=UJ)(r:o.dst=UG d)(E:aZ o=UG q)(l:dC o=#[y,z,u])(X:Xt P q fn)(s:Extern.find fn=UG (Extern.Atomic.casT (.int .u64)))(I:(⟨t,ds⟩:Vw).eval y=.pointer (UG ad))(J:(⟨t,ds⟩:Vw).eval z=.int .u64 v)(F:(⟨t,ds⟩:Vw).eval u=.int .u64 n)(p:w.cell? ad=UG (.int .u64 v))(A:w.frozen? ad=Ul):UY P main (G (cC kd ds f t (.inRegion ops (x::rest)::kk)) cs) w=.go (G (cC kd ds f (t.setIfInBounds d (.bool UJ)) (.inRegion ops rest::kk)) cs) (w.setCell ad (.int .u64 n)) #[rd ad,wr ad]:=(stepG_cas_hit (b:=bk kd f) (a:=⟨t,ds⟩) D (aW hS H) B (bF E l) X.f X.n X.b X.x .u64 s I J F p A).trans (by rw[mz r];try rfl)
theorem ym(D:kd≠.early){u:Vh}{v:Int}(hS:Sl N L t)(E:ops[x]?=UG o)(I:Region.wanted o (U7 ops (tm N L t))=UJ)(s:o.dst=UG d)(F:aZ o=UG q)(p:dC o=#[y,z,u])(X:Xt P q fn)(A:Extern.find fn=UG (Extern.Atomic.casT (.int .u64)))(J:(⟨t,ds⟩:Vw).eval y=.pointer (UG ad))(K:(⟨t,ds⟩:Vw).eval z=.int .u64 old)(H:(⟨t,ds⟩:Vw).eval u=.int .u64 n)(r:w.cell? ad=UG (.int .u64 v))(B:w.frozen? ad=Ul)(k:¬v=old):UY P main (G (cC kd ds f t (.inRegion ops (x::rest)::kk)) cs) w=.go (G (cC kd ds f (t.setIfInBounds d (.bool Ul)) (.inRegion ops rest::kk)) cs) w #[rd ad]:=(stepG_cas_miss (b:=bk kd f) (a:=⟨t,ds⟩) E (aW hS I) D (bF F p) X.f X.n X.b X.x .u64 A J K H r B k).trans (by rw[mz s];try rfl)
theorem OK(z:kd≠.early)(hS:Sl N L t)(A:ops[x]?=UG o)(D:Region.wanted o (U7 ops (tm N L t))=UJ)(s:o.dst=UG d)(B:aZ o=UG q)(p:dC o=ags)(X:Xt P q fn)(u:Extern.find fn=UG Extern.Sync.semacquire)(E:(ags.map (⟨t,ds⟩:Vw).eval)[0]?=UG (.pointer (UG ad)))(r:w.cell? ad=UG (.int .u32 n))(k:n≠0)(y:w.frozen? ad=Ul):UY P main (G (cC kd ds f t (.inRegion ops (x::rest)::kk)) cs) w=.go (G (cC kd ds f (t.setIfInBounds d (.tuple #[])) (.inRegion ops rest::kk)) cs) (w.setCell ad (.int .u32 (n-1))) (semEvents ad):=(stepG_semacquire (b:=bk kd f) (a:=⟨t,ds⟩) A (aW hS D) z (bF B p) X.f X.n X.b X.x u E r k y).trans (by rw[mz s])
theorem AU(hS:Sl N L t)(s:ops[x]?=UG o)(y:Region.wanted o (U7 ops (tm N L t))=UJ)(u:aZ o=UG q)(n:dC o=ags)(X:Xt P q fn)(r:Extern.find fn=UG Extern.Sync.semacquire)(z:(ags.map (⟨t,ds⟩:Vw).eval)[0]?=UG (.pointer (UG ad)))(p:w.cell? ad=UG (.int .u32 0)):UY P main (G (cC kd ds f t (.inRegion ops (x::rest)::kk)) cs) w=.go {G (cC kd ds f t (.inRegion ops (x::rest)::kk)) cs with status:=.blocked} w #[]:=stepG_semacquire_wait (b:=bk kd f) (a:=⟨t,ds⟩) s (aW hS y) (bF u n) X.f X.n X.b X.x r z p
theorem PZ(y:kd≠.early)(hS:Sl N L t)(z:ops[x]?=UG o)(B:Region.wanted o (U7 ops (tm N L t))=UJ)(r:o.dst=UG d)(A:aZ o=UG q)(l:dC o=ags)(X:Xt P q fn)(s:Extern.find fn=UG Extern.Sync.semrelease)(D:(ags.map (⟨t,ds⟩:Vw).eval)[0]?=UG (.pointer (UG ad)))(p:w.cell? ad=UG (.int .u32 n))(u:w.frozen? ad=Ul):UY P main (G (cC kd ds f t (.inRegion ops (x::rest)::kk)) cs) w=.go (G (cC kd ds f (t.setIfInBounds d (.tuple #[])) (.inRegion ops rest::kk)) cs) (w.setCell ad (.int .u32 (U1.u32.wrap (n+1)))) (semEvents ad):=(stepG_semrelease (b:=bk kd f) (a:=⟨t,ds⟩) z (aW hS B) y (bF A l) X.f X.n X.b X.x s D p u).trans (by rw[mz r])
end
end
section
variable{v w1:UL}
abbrev hl(C:Cx)(dW:Int)(st aw:Bool)(it:Nat)(z:Int):List (Nat×UO):=[(0,ϱ C.mu C.mo),(2,Iv dW),(3,.bool st),(4,.bool aw),(5,Iv it),(6,.int .i32 z)]
def iV(C:Cx)(K:UL->Prop)(b₁:U0)(a₁:Vw)(ops₁:Array VB)(i₁:Nat)(rest₁:List Nat)(k₁:List Vj)(cs₁:List U0)(o:Wd)(aw st:Bool)(it:Nat)(g:UP)(w:UL):Prop:=
 K w/\∃(dW:Int)(t:Array UO),Sl 139 (hl C dW st aw it (o.enc:Nat)) t/\g=G (fr 166 t (cA ar 504)) (b₁.at a₁ (.inRegion ops₁ (i₁::rest₁)::k₁)::cs₁)
section
variable{b₁:U0}{a₁:Vw}{ops₁:Array VB}{i₁:Nat}{rest₁:List Nat}{k₁:List Vj}{cs₁:List U0}{K:UL->Prop}
set_option maxRecDepth 100000 in theorem MP(hC:C.Ok)(hP:C.P=Pz)(hK:Kd C i own K)(c:K w)(hS:Sl 139 [(0,ϱ C.mu C.mo)] t):cG C i own (ub C i own (iV C K b₁ a₁ ops₁ i₁ rest₁ k₁ cs₁) Ul Ul 0) 21 (G (fr 166 t [.code ar]) (b₁.at a₁ (.inRegion ops₁ (i₁::rest₁)::k₁)::cs₁)) w:=by show cG C i own _ _ (G (fr 166 _ (cA ar 1)) _) w;refine ej 21 (rA ar 62 [3,4]) [(0,ϱ C.mu C.mo),(2,Iv 0),(3,.bool Ul),(4,.bool Ul),(5,Iv 0),(12,ϱ C.mu C.mo)] hS λt w1 hS r=>aB (n:=0) λw1 e=>?_;replace c:=hK.env (hK.env c r) e;refine⟨rfl,λf q hw _=>⟨_,by rw[hP];exact nh hS (o:=opn (aR (sb ar 62)) 3) (d:=13) Ψ Ψ Ψ (y:=.tmp 12) Ψ (hS.get (by rfl)) (ax.cell hC hw) Ky,5,?_⟩⟩;replace hS:Sl 139 [(13,.int .i32 (f.enc:Nat)),(0,ϱ C.mu C.mo),(2,Iv 0),(3,.bool Ul),(4,.bool Ul),(5,Iv 0),(12,ϱ C.mu C.mo)] _:=hS.put (d:=13) (v:=.int .i32 (f.enc:Nat)) Δ Θ;refine ej 5 (cA ar 504) [(0,ϱ C.mu C.mo),(2,Iv 0),(3,.bool Ul),(4,.bool Ul),(5,Iv 0),(6,.int .i32 (f.enc:Nat))] hS λt w1 hS r=>aB (n:=0) λw1 e=>?_;exact⟨hK.env (hK.env c r) e,_,t,hS,rfl⟩
end
end
end Go.Lw
namespace Go.Me
open Go.Proofs Go.Conc Go.Mx Go.Rk Go.Cr Go.Pw Go.Lw
open Go.ConcR(KK WgAt stA smA rd wr mk)
variable{L:List (Nat×Obj)}{k b:Nat}{o o' o1:Obj}
section
abbrev fx(ds:List Vo)(ro:Option Nat)(f:Va)(t:Array UO)(k:List Vj):U0:={fn:=f,tmps:=t,todo:=k,defers:=ds,mode:=.run,kind:=.normal,roundOf:=ro}
abbrev zQ(ds:List Vo)(ro:Option Nat)(f:Va)(t:Array UO)(k:List Vj):U0:={fn:=f,tmps:=t,todo:=k,defers:=ds,mode:=.returning,kind:=.normal,roundOf:=ro}
class Late(kd:VA):Prop where ne:kd≠.early
instance:Late .normal:=⟨by simp⟩
instance:Late .deferred:=⟨by simp⟩
theorem Late.beq(kd:VA)[Late kd]:(kd==VA.early)=Ul:=by simpa using Late.ne
abbrev fk(kd:VA)(ds:List Vo)(ro:Option Nat)(f:Va)(t:Array UO)(k:List Vj):U0:={fn:=f,tmps:=t,todo:=k,defers:=ds,mode:=.run,kind:=kd,roundOf:=ro}
abbrev Oh(kd:VA)(ds:List Vo)(ro:Option Nat)(f:Va)(t:Array UO)(k:List Vj):U0:={fn:=f,tmps:=t,todo:=k,defers:=ds,mode:=.returning,kind:=kd,roundOf:=ro}
variable{C:Cx}{i j:Nat}{m:Md}{own own':Nat->Prop}{g:UP}{v v1 v' w:UL}{L':List (Nat×Obj)}{FR:UL->Prop}
structure Hp(C:Cx)(FR:UL->Prop)(own:Nat->Prop)(v:UL)(L:List (Nat×Obj)):Prop where
 ok:mE C own
 ro:∀k,own k->¬C.RO k
 lt:∀k,own k\/C.RO k->k<v.heap.size
 mm:C.mm<v.heap.size
 aJ:da C v
 fr:FR v
 nd:(L.map Prod.fst).Nodup
 at_:∀p∈L,own p.1/\v.heap[p.1]?=UG p.2
def aX(C:Cx)(FR:UL->Prop):Prop:=∀v v1:UL,(∀k,C.RO k->v1.heap[k]?=v.heap[k]?)->FR v->FR v1
theorem Hp.env(c:aX C FR)(h:Hp C FR own v L)(e:Env C i own v v1):Hp C FR own v1 L:=⟨h.ok,h.ro,λk a=>Sn (h.lt k a) e.grow,Sn h.mm e.grow,e.aJ h.aJ,c _ _ (λk a=>e.keep k (.inr a)) h.fr,h.nd,λp b=>⟨(h.at_ p b).1,(e.keep _ (.inl (h.at_ p b).1)).trans (h.at_ p b).2⟩⟩
theorem Hp.eh(a:aX C FR)(h:Hp C FR own v L)(e:Env C i (fJ C m own) v v1):Hp C FR own v1 L:=h.env a e.fI
theorem Hp.sub(h:Hp C FR own v L)(c:∀p∈L',p∈L)(a:(L'.map Prod.fst).Nodup):Hp C FR own v L':=⟨h.ok,h.ro,h.lt,h.mm,h.aJ,h.fr,a,λp b=>h.at_ p (c p b)⟩
theorem Hp.tail{p:Nat×Obj}(h:Hp C FR own v (p::L)):Hp C FR own v L:=h.sub (λq a=>SW _ a) (Tt.1 (by simpa using h.nd)).2
theorem Hp.get(h:Hp C FR own v L){o:Obj}(a:L[k]?=UG (b,o)):own b/\v.heap[b]?=UG o:=h.at_ _ (Ss a)
theorem ik:ae.more own v v=own:=by funext k;simp only[ae.more];grind
theorem Hp.alloc(h:Hp C FR own v L)(B:aX C FR)(o:Obj):Hp C FR (ae.more own v (v.alloc o)) (v.alloc o) ((v.heap.size,o)::L):=by have d:=UL.size_alloc v o;(have a:∀k,k<v.heap.size->(v.alloc o).heap[k]?=v.heap[k]?:=λk b=>by show(v.heap.push o)[k]?=_;grind);obtain⟨⟨s,q,c⟩,⟨x,y,n⟩,⟨A,f,E⟩⟩:=h.aJ;have t:=(So.1 c).1;have u:=(So.1 n).1;have z:=(So.1 f).1;refine⟨h.ok.more h.aJ h.mm,λk b l=>?_,λk b=>?_,by have:=h.mm;omega,⟨⟨s,q,(a _ t).trans c⟩,⟨x,y,(a _ u).trans n⟩,⟨A,(a _ z).trans f,E⟩⟩,B _ _ (λk b=>a k (h.lt k (.inr b))) h.fr,?_,λp c=>?_⟩;{rcases b with b|b;{exact h.ro k b l};have:=h.lt k (.inr l);omega};{rcases b with(b|b)|b;{have:=h.lt k (.inl b);omega};{omega};have:=h.lt k (.inr b);omega};{simp only[SH,Tt];refine⟨λD=>?_,h.nd⟩;obtain⟨p,c,e⟩:=Sw.1 D;have:=h.lt _ (.inl (h.at_ p c).1);omega};rcases Sv.1 c with rfl|c;{exact⟨.inr ⟨Sm _,by omega⟩,UL.alloc_heap_new v o⟩};exact⟨.inl (h.at_ p c).1,(a _ (h.lt _ (.inl (h.at_ p c).1))).trans (h.at_ p c).2⟩
theorem mem_set{o:Obj}(a:(L.map Prod.fst).Nodup)(c:L[k]?=UG (b,o)):∀p∈L.set k (b,o'),p=(b,o')\/(p∈L/\p.1≠b):=by induction L generalizing k with|nil=>simp|cons q l e=>cases k with|zero=>grind|succ k=>grind
theorem xX{o:Obj}(a:L[k]?=UG (b,o)):(L.set k (b,o')).map Prod.fst=L.map Prod.fst:=by apply TN;grind
theorem Hp.put(h:Hp C FR own v L)(z:aX C FR){o:Obj}(d:L[k]?=UG (b,o))(r:v'.heap.size=v.heap.size)(I:v'.heap[b]?=UG o')(a:∀c,c≠b->v'.heap[c]?=v.heap[c]?):Hp C FR own v' (L.set k (b,o')):=by have f:=(h.get d).1;obtain⟨E,J,F,H⟩:=h.ok b f;obtain⟨⟨s,q,l⟩,⟨x,y,D⟩,⟨t,B,A⟩⟩:=h.aJ;refine⟨h.ok,h.ro,λk d=>r▸h.lt k d,r▸h.mm,⟨⟨s,q,(a _ (Ne.symm E)).trans l⟩,⟨x,y,(a _ (Ne.symm F)).trans D⟩,⟨t,(a _ (Ne.symm H)).trans B,A⟩⟩,z _ _ (λk d=>a k λe=>h.ro b f (e▸d)) h.fr,by rw[xX d];exact h.nd,λp l=>?_⟩;rcases mem_set h.nd d p l with rfl|⟨n,u⟩;{simp_all};exact⟨(h.at_ p n).1,(a _ u).trans (h.at_ p n).2⟩
theorem Hp.kd(l:C.Ok)(r:aX C FR):Kd C i own (λw=>Hp C FR own w L):=by(have n:∀{v:UL}{a:Addr}(u:UO),a.block=C.mu->(∀s q,ax C v s q->∃E D,ax C (v.setCell a u) E D)->Hp C FR own v L->Hp C FR own (v.setCell a u) L:=by intro v a u F f h;have b:∀c,c≠C.mu->(v.setCell a u).heap[c]?=v.heap[c]?:=λc H=>ah v a u (by omega);obtain⟨⟨s,q,d⟩,⟨x,y,B⟩,⟨t,A,z⟩⟩:=h.aJ;exact⟨h.ok,h.ro,λk o=>by simpa using h.lt k o,by simpa using h.mm,⟨f s q d,⟨x,y,(b _ l.gi.symm).trans B⟩,⟨t,(b _ l.gd.symm).trans A,z⟩⟩,r _ _ (λk o=>b k (l.ro k o).1) h.fr,h.nd,λp d=>⟨(h.at_ p d).1,(b _ (h.ok _ (h.at_ p d).1).1).trans (h.at_ p d).2⟩⟩);exact⟨λh e=>h.env r e,λx h=>n _ rfl (λs q d=>⟨x,q,ax.setSt l d x⟩) h,λx h=>n _ rfl (λs q d=>⟨s,x,ax.setSm l d x⟩) h,λh=>h.aJ⟩
section
variable{P:U9}{main:Bool}{f:Va}{t:Array UO}{kk:List Vj}{cs:List U0}{ops:Array VB}{x:Nat}{rest:List Nat}{o:VB}{d:Nat}{N:Nat}{Lt Lt':List (Nat×UO)}{ags:Array Vh}{q:Va}{fn:Func}{c:Code}{ds:List Vo}{ro:Option Nat}{vs:Array UO}{u:UO}{w':UL}{kd:VA}[Late kd]
def kD(t:Array UO)(d:Option Nat)(u:UO):Array UO:=match d with|some d=>t.setIfInBounds d u|none=>t
theorem iI(z:∀k,o.op≠.defer k)(hS:Sl N Lt t)(e:ops[x]?=UG o)(p:Region.wanted o (U7 ops (tm N Lt t))=UJ)(A:(UZ (⟨t,[]⟩:Vw).eval o).run P w=.ok (.value u) w'):UY P main (G (fk kd ds ro f t (.inRegion ops (x::rest)::kk)) cs) w=.go (G (fk kd ds ro f (kD t o.dst u) (.inRegion ops rest::kk)) cs) w' (seen P f ((UZ (⟨t,[]⟩:Vw).eval o).events P w #[])):=by(have s:(U0.eval (fk kd ds ro f t (.inRegion ops (x::rest)::kk)))=(⟨t,[]⟩:Vw).eval:=funext λy=>by rfl);(have a:(fk kd ds ro f t (.inRegion ops (x::rest)::kk)).finish u=fk kd ds ro f (kD t o.dst u) (.inRegion ops rest::kk):=by unfold kD;cases r:o.dst<;>simp[U0.finish,e,r]);(have h:UY P main (G (fk kd ds ro f t (.inRegion ops (x::rest)::kk)) cs) w=UY.apply P UJ (fk kd ds ro f t (.inRegion ops (x::rest)::kk)) cs UM (UZ (⟨t,[]⟩:Vw).eval o) w:=by rw[<-s];cases ro with|none=>simp only[G,UY,UY.exec,UY.oper,U0.oper?,e,aW hS p,SC,SI,if_true]|some l=>simp only[G,UY,UY.exec,UY.oper,U0.oper?,e,aW hS p,SC,SI];simp_all);rw[h,<-a];simp[UY.apply,A,GStep.after,G,Late.beq]
theorem oQ(z:∀k,o.op≠.defer k)(hS:Sl N Lt t)(e:ops[x]?=UG o)(p:Region.wanted o (U7 ops (tm N Lt t))=UJ)(A:(UZ (⟨t,[]⟩:Vw).eval o).run P w=.ok .skip w'):UY P main (G (fk kd ds ro f t (.inRegion ops (x::rest)::kk)) cs) w=.go (G (fk kd ds ro f (kD t o.dst UT) (.inRegion ops rest::kk)) cs) w' (seen P f ((UZ (⟨t,[]⟩:Vw).eval o).events P w #[])):=by(have s:(U0.eval (fk kd ds ro f t (.inRegion ops (x::rest)::kk)))=(⟨t,[]⟩:Vw).eval:=funext λy=>by rfl);(have a:(fk kd ds ro f t (.inRegion ops (x::rest)::kk)).finish UT=fk kd ds ro f (kD t o.dst UT) (.inRegion ops rest::kk):=by unfold kD;cases r:o.dst<;>simp[U0.finish,e,r]);(have h:UY P main (G (fk kd ds ro f t (.inRegion ops (x::rest)::kk)) cs) w=UY.apply P UJ (fk kd ds ro f t (.inRegion ops (x::rest)::kk)) cs UM (UZ (⟨t,[]⟩:Vw).eval o) w:=by rw[<-s];cases ro with|none=>simp only[G,UY,UY.exec,UY.oper,U0.oper?,e,aW hS p,SC,SI,if_true]|some l=>simp only[G,UY,UY.exec,UY.oper,U0.oper?,e,aW hS p,SC,SI];simp_all);rw[h,<-a];simp[UY.apply,A,GStep.after,G,Late.beq]
theorem cT{es:Array Vv}{e:Vv}(h:e∈seen P f es):e∈es:=by rw[seen_def]at h;rcases seen_fold_sub _ _ _ _ e h with h|h;{simp at h};simp_all
theorem aF(r:aX C FR)(F:m.said=Ul)(hH:Hp C FR own v L)(hS:Sl N Lt t)(H:ops[x]?=UG (opn ops x))(I:Region.wanted (opn ops x) (U7 ops (tm N Lt t))=UJ)(B:(opn ops x).dst=UG d)(b:∀k,(opn ops x).op≠.defer k)(E:∀v1,Hp C FR own v1 L->(UZ (⟨t,[]⟩:Vw).eval (opn ops x)).run C.P v1=.ok (.value u) v1/\∀e∈(UZ (⟨t,[]⟩:Vw).eval (opn ops x)).events C.P v1 #[],qL C own e)(h:ag C i j m own (G (fk kd ds ro f (t.setIfInBounds d u) (.inRegion ops rest::kk)) cs) v):ag C i j m own (G (fk kd ds ro f t (.inRegion ops (x::rest)::kk)) cs) v:=by refine .step rfl F λv1 l=>?_;obtain⟨n,p⟩:=E v1 (hH.eh r l);refine⟨_,v1,_,iI b hS H I n,⟨λ_ _ _=>rfl,Sm _,rfl,rfl,rfl,λe D=>?_⟩,?_⟩;{rw[ik];have:=p e (cT D);rcases this with x|x;{refine .inl ?_;rcases x with⟨k,y,z,w⟩|x;{exact .inl ⟨k,y,z.imp .inl id,w⟩};exact .inr x};exact .inr x};rw[ik];rw[B];exact h.env l
theorem gJ{o2:Obj}(H:aX C FR)(hm:m.said=Ul)(hH:Hp C FR own v L)(J:L[k]?=UG (b,o1))(hS:Sl N Lt t)(ho:ops[x]?=UG (opn ops x))(hw:Region.wanted (opn ops x) (U7 ops (tm N Lt t))=UJ)(Y:(opn ops x).dst=UM)(E:∀k,(opn ops x).op≠.defer k)(hl:∀v1,v1.heap[b]?=UG o1->∃v2:UL,(UZ (⟨t,[]⟩:Vw).eval (opn ops x)).run C.P v1=.ok .skip v2/\v2.heap.size=v1.heap.size/\v2.heap[b]?=UG o2/\(∀c,c≠b->v2.heap[c]?=v1.heap[c]?)/\v2.os=v1.os/\v2.output=v1.output/\v2.tape=v1.tape/\∀e∈(UZ (⟨t,[]⟩:Vw).eval (opn ops x)).events C.P v1 #[],(match e.loc with|.cell a=>a.block=b|.obj j=>j=b|_=>False)/\e.sync=Ul)(h:∀v2,(m.tok=UJ->au C v->au C v2)->Hp C FR own v2 (L.set k (b,o2))->ag C i j m own (G (fk kd ds ro f t (.inRegion ops rest::kk)) cs) v2):ag C i j m own (G (fk kd ds ro f t (.inRegion ops (x::rest)::kk)) cs) v:=by refine .step rfl hm λv1 K=>?_;have r:=hH.eh H K;obtain⟨p,B⟩:=r.get J;obtain⟨v2,T,F,X,n,O,Q,R,U⟩:=hl v1 B;(have l:ae.more own v1 v2=own:=by funext k;simp only[ae.more];grind);refine⟨_,v2,_,oQ E hS ho hw T,⟨λc _ D=>n c λe=>D (.inl (e▸p)),by omega,O,Q,R,λe Z=>?_⟩,?_⟩;{obtain⟨x,y⟩:=U e (cT Z);exact .inl (.inl ⟨b,x,.inl (.inl (.inl p)),y⟩)};rw[l];rw[Y];refine h v2 (λht hM=>?_) (r.put H J F X n);obtain⟨S,⟨M,D⟩,A⟩:=hM.env K (.inr ⟨ht,rfl⟩);exact⟨S,⟨M,(n _ (λe=>(hH.ok b p).2.1 e.symm)).trans D⟩,A⟩
theorem jo(r:aX C FR)(M:m.said=Ul)(hH:Hp C FR own v L)(hS:Sl N Lt t)(O:ops[x]?=UG (opn ops x))(S:Region.wanted (opn ops x) (U7 ops (tm N Lt t))=UJ)(H:(opn ops x).dst=UG d)(p:∀k,(opn ops x).op≠.defer k)(K:∀v1:UL,(UZ (⟨t,[]⟩:Vw).eval (opn ops x)).run C.P v1=.ok (.value (ϖ v1.heap.size)) (v1.alloc o1)/\(UZ (⟨t,[]⟩:Vw).eval (opn ops x)).events C.P v1 #[]=#[])(h:∀own' b v2,(∀k,own k->own' k)->(m.tok=UJ->au C v->au C v2)->Hp C FR own' v2 ((b,o1)::L)->ag C i j m own' (G (fk kd ds ro f (t.setIfInBounds d (ϖ b)) (.inRegion ops rest::kk)) cs) v2):ag C i j m own (G (fk kd ds ro f t (.inRegion ops (x::rest)::kk)) cs) v:=by refine .step rfl M λv1 s=>?_;have l:=hH.eh r s;obtain⟨A,T⟩:=K v1;have Q:=UL.size_alloc v1 o1;refine⟨_,v1.alloc o1,_,iI p hS O S A,⟨λc F _=>?_,by omega,rfl,rfl,rfl,λe I=>?_⟩,?_⟩;{show(v1.heap.push o1)[c]?=_;grind};{have:=cT I;simp_all};rw[H];refine h _ _ _ (λk J=>.inl J) (λR hM=>?_) (l.alloc r o1);obtain⟨z,⟨y,F⟩,n⟩:=hM.env s (.inr ⟨R,rfl⟩);refine⟨z,⟨y,?_⟩,n⟩;show(v1.heap.push o1)[C.mm]?=_;grind
end
end
end Go.Me
