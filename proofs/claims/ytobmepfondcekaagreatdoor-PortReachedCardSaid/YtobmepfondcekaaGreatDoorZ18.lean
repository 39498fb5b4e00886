/- A part of the proof that PortReached holds for every input. Conditions: none. -/
import Derived.Test.YtobmepfondcekaaGreatDoorZ17
import Derived.Laws.AppendOwn
import Derived.Laws.OwnMore
set_option linter.all false
open Go.Proofs.Tryz renaming prog->Pz
open Go renaming Addr->Vs,Deferred->Vo,Frame->U0,FuncId->Va,Goroutine->UP,IntKind->U1,Item->Vj,MemAct->Ve,Obj->Vu,Program->U9,TypeId->U8,Value->UO,World->UL,stepG->UY,undef->UT,yielded->U7
open Bool renaming false->Ul,true->UJ
open Option renaming none->UM,some->UG
open Go.Proofs.Tryz
namespace Go.Bh
open Go.Proofs Go.Conc Go.Mx Go.Rk Go.Cr Go.Pw Go.Lw Go.Me
open Go.ConcR(KK WgAt stA smA rd wr mk)
open Go.ConcM(OsLater)
variable{P:U9}{N:Loc->Prop}{f:Va}{t:Array UO}{kk:List Vj}{cs:List U0}{ops:Array Oper}{x d M:Nat}{rest:List Nat}{ds:List Vo}{ro:Option Nat}{ty:U8}
section
variable{Post:UO->UL->Prop}{bad:Loc->Prop}{w:UL}
noncomputable def im:Code:=f72.body.getD .skip
theorem Qz:(f22.name== "runtime.NumGoroutine")=Ul:=Ψ
theorem fq{Lt:List (Nat×UO)}{y:Operand}{b:Nat}{a1 a2:UO}{e:U8}{fr:Nat×Nat}(hS:Sl M Lt t)(v:ops[x]?=UG (opn ops x))(z:Region.wanted (opn ops x) (U7 ops (tm M Lt t))=UJ)(s:(opn ops x).dst=UG d)(i:(opn ops x).op=.load ty y)(A:(⟨t,[]⟩:Act).eval y=ϖ b)(r:∀w,(isAgg ty).run P w=.ok UJ w)(u:∀w,(Go.sizeOf ty).run P w=.ok 2 w)(l:w.heap[b]?=UG (.cells #[a1,a2] e fr))(a:∀o,¬bad (.cell ⟨b,o,UM⟩))(c:∀o,¬N (.cell ⟨b,o,UM⟩))(h:aL P Post bad N (G (fx ds ro f (t.setIfInBounds d (.agg #[a1,a2])) (.inRegion ops rest::kk)) cs) w):aL P Post bad N (G (fx ds ro f t (.inRegion ops (x::rest)::kk)) cs) w:=by have g:=(So.1 l).1;refine fi hS v z s (λk=>by rw[i];simp) (Sm _) (ey.refl _ _) (λd=>?_) h;obtain⟨n,p⟩:=uQ (P:=P) (w:=w.at d) (o:=opn ops x) (ev:=(⟨t,[]⟩:Act).eval) i A r u l;refine⟨n,λe m=>?_⟩;rw[p]at m;rcases(by simpa using m)with rfl|rfl;{exact jB (a 0) (c 0) g};exact jB (a 1) (c 1) g
theorem qZ{N':Loc->Prop}{o:Oper}{Lt:List (Nat×UO)}(m:ey N N' w.heap.size)(hS:Sl M Lt t)(q:ops[x]?=UG o)(r:Region.wanted o (U7 ops (tm M Lt t))=UJ)(p:o.dst=UG d)(a:o.op=.makeMap ty UM)(h:∀l,Grown w l (.map #[] 0)->aL P Post bad N' (G (fx ds ro f (t.setIfInBounds d (.map (UG w.heap.size))) (.inRegion ops rest::kk)) cs) l):aL P Post bad N (G (fx ds ro f t (.inRegion ops (x::rest)::kk)) cs) w:=by refine fi (w':=w.alloc (.map #[] 0)) hS q r p (λk=>by rw[a];simp) Θ m (λd=>?_) (h _ (Grown.alloc _ _));(have i:(execOp (⟨t,[]⟩:Act).eval o).run P (w.at d)=.ok (.value (.map (UG (w.at d).heap.size))) ((w.at d).alloc (.map #[] 0))/\(execOp (⟨t,[]⟩:Act).eval o).events P (w.at d) #[]=#[]:=by constructor;all_goals unfold execOp;simp only[a];simp[go_sem,Instr.makeMap,newObj];rfl);exact⟨i.1,λe j=>by rw[i.2]at j;simp at j⟩
def vD(bad N:Loc->Prop)(w:UL)(f:Va)(fn:Func)(args:Array UO)(u:UO):Prop:=
 ∀(Post:UO->UL->Prop)(caller:U0)(cs:List U0),(∀w',Kept bad N w w'->aL Pz Post bad N (G (caller.finish u) cs) w')->aL Pz Post bad N (G (fr f (args++Array.replicate (fn.ntmps-args.size) UT) [.code (fn.body.getD .skip)]) (caller::cs)) w
structure eN(bad:Loc->Prop)(w:UL)(mu mm:Nat)(NS PS:UO)(w':UL):Prop where
 port:w'.heap[mu]?=UG (.cells #[NS,PS,.map (UG mm),.int .i32 0,.int .u32 0] 161)
 dI:w'.heap[mm]?=UG (.map #[] 0)
 lt:w.heap.size<mm
 box:w'.heap[w.heap.size]?=UG (.cells #[NS,PS] 25)
 iW:mm<mu
 size:w'.heap.size=mu+1
 keep:∀k,gk bad (λ_=>False) w k->w'.heap[k]?=w.heap[k]?
 os:w'.os=w.os
 out:w'.output=w.output
 tape:w'.tape=w.tape
def GG(mu mm:Nat):Loc->Prop:=λl=>dn mm l\/∃a:Vs,l=.cell a/\a.block=mu/\3<=a.off
theorem HY{mu mm:Nat}(h:mm≠mu):Hd (GG mu mm) mu mm:=by refine⟨λa d c=>.inr ⟨a,rfl,d,c⟩,λl hl=>.inl hl,λo g x=>?_,λl b hl f=>?_⟩;{rcases x with x|⟨a,e,d,c⟩;{exact h (Eq.symm x)};cases e;have c:3<=o:=c;omega};rcases hl with x|⟨a,rfl,d,c⟩;{exact .inr (fX f x)};exact .inl (by rw[<-d];exact(show a.block=b from f).symm)
theorem Is{NS PS:UO}{fl:Int}{caller:U0}(B:∀l b,bad l->dn b l->b<w.heap.size)(m:∀p,(∀k,gk bad (λ_=>False) w k->p.heap[k]?=w.heap[k]?)->w.heap.size<=p.heap.size->vD bad (λ_=>False) p 22 f22 #[.agg #[NS,PS]] (Iv fl))(K:∀mu mm w',eN bad w mu mm NS PS w'->aL Pz Post bad (GG mu mm) (G (caller.finish (.tuple #[ϖ mu,Iv fl])) cs) w')(hS:Sl 13 [(0,.agg #[NS,PS])] t):aL Pz Post bad (λ_=>False) (G (fr 72 t [.code im]) (caller::cs)) w:=by change aL Pz Post bad _ (G (fx [] UM 72 t (cA im 1)) (caller::cs)) w;refine eX 2 (rA im 2 [0,1,2]) [(0,.agg #[NS,PS])] hS λt hS=>?_;refine mH (y:=.tmp 0) (z:=.agg #[NS,PS]) hS (d:=1) (ty:=25) Ψ Ψ Ψ Ψ (hS.gN 0 rfl) (λp g=>?_);replace hS:=hS.pt (d:=1) (v:=ϖ w.heap.size);replace g:Grown w p (.cells #[NS,PS] 25):=g;refine eX 5 (rA im 6 [0,1,2]) [(1,ϖ w.heap.size)] hS λt hS=>?_;(have A:∀o,¬bad (.cell ⟨w.heap.size,o,UM⟩):=λo x=>by have:=B _ w.heap.size x rfl;omega);refine fq (ty:=25) (y:=.tmp 1) (a1:=NS) (a2:=PS) hS (d:=5) Ψ Ψ Ψ Ψ (hS.gN 1 rfl) isAgg25 sizeOf25 g.new A (λ_ x=>x) ?_;replace hS:=hS.pt (d:=5) (v:=.agg #[NS,PS]);refine eX 0 (rA im 6 [1,2]) [(1,ϖ w.heap.size),(5,.agg #[NS,PS])] hS λt hS=>?_;refine p9 hS (vs:=#[.agg #[NS,PS]]) Ψ Ψ Ψ (ags:=#[.tmp 5]) Ψ (wy (hS.gN 5 rfl)) func22 Qz (show f22.body=UG (f22.body.getD .skip)by kernel_rfl) ?_;refine m p (λk s=>g.keep k s.1) (by rw[g.size];omega) _ _ _ (λn r=>?_);rw[bO (o:=opn (aR (sb im 6)) 1) Ψ];change aL Pz Post bad _ (G (fx [] UM 72 (Array.setIfInBounds _ 6 (Iv fl)) _) _) n;replace hS:=hS.pt (d:=6) (v:=Iv fl);have E:gk bad (λ_=>False) p w.heap.size:=⟨by rw[g.size];omega,λl hl=>⟨λx=>by have:=B _ _ x hl;omega,λx=>x⟩⟩;have C:n.heap[w.heap.size]?=UG (.cells #[NS,PS] 25):=(r.keep _ E).trans g.new;refine eX 4 (rA im 14 [0,1,2,3,4,5,6,7]) [(1,ϖ w.heap.size),(4,Iv fl)] hS λt hS=>?_;refine fq (ty:=25) (y:=.tmp 1) (a1:=NS) (a2:=PS) hS (d:=7) Ψ Ψ Ψ Ψ (hS.gN 1 rfl) isAgg25 sizeOf25 C A (λ_ x=>x) ?_;replace hS:=hS.pt (d:=7) (v:=.agg #[NS,PS]);refine eX 1 (rA im 14 [2,3,4,5,6,7]) [(4,Iv fl),(8,.agg #[NS,PS])] hS λt hS=>?_;refine qZ (ty:=152) (N':=dn n.heap.size) (λl hl=>.inr (by cases l<;>simp_all[dn])) hS (o:=opn (aR (sb im 14)) 2) (d:=9) Ψ Ψ Ψ Ψ (λq j=>?_);replace hS:=hS.pt (d:=9) (v:=.map (UG n.heap.size));refine eX 1 (rA im 14 [4,5,6,7]) [(4,Iv fl),(10,.agg #[NS,PS,.map (UG n.heap.size),.int .i32 0,.int .u32 0])] hS λt hS=>?_;refine zG (N':=λl=>dn n.heap.size l\/∃a:Vs,l=.cell a/\a.block=q.heap.size/\3<=a.off) (y:=.tmp 10) (z:=.agg #[NS,PS,.map (UG n.heap.size),.int .i32 0,.int .u32 0]) (λl hl=>hl.imp id λ⟨a,e,x,_⟩=>by subst e;exact Tk x.symm) hS (o:=opn (aR (sb im 14)) 4) (d:=11) (ty:=161) Ψ Ψ Ψ Ψ (hS.gN 10 rfl) (λH h=>?_);replace hS:=hS.pt (d:=11) (v:=ϖ q.heap.size);replace h:Grown q H (.cells #[NS,PS,.map (UG n.heap.size),.int .i32 0,.int .u32 0] 161):=h;refine eX 4 (xA .ret im 15) [(2,ϖ q.heap.size),(3,Iv fl)] hS λt hS=>?_;refine lf ?_;have F:f72.results=#[.tmp 2,.tmp 3]:=Ψ;refine jm (fn:=f72) func72 (u:=.tuple #[ϖ q.heap.size,Iv fl]) (λw=>?_) (λw=>by simp[results,F]) ?_;{have I:=hS.get (i:=2) (v:=ϖ q.heap.size) rfl;have J:=hS.get (i:=3) (v:=Iv fl) rfl;rw[results_tmp2 F,I,J]};have M:=g.size;have N:=r.grow;have O:=j.size;have P:=h.size;exact K q.heap.size n.heap.size H ⟨by rw[h.new],by rw[h.keep _ Ω,j.new],by omega,by rw[h.keep _ Ω,j.keep _ Ω,C],by omega,by omega,λk s=>by have D:gk bad (λ_=>False) p k:=⟨by have:=s.1;omega,s.2⟩;have L:=s.1;rw[h.keep k Ω,j.keep k Ω,r.keep k D,g.keep k s.1],by rw[h.os,j.os,r.os,g.os],by rw[h.out,j.out,r.out,g.out],by rw[h.tape,j.tape,r.tape,g.tape]⟩
end
end Go.Bh
namespace Go.Bh
open Go.Proofs Go.Conc Go.Mx Go.Rk Go.Cr Go.Pw Go.Lw Go.Me
variable{x:aQ}{w:UL}{bad:Loc->Prop}
def Qm(x:aQ)(a:Int)(s:ByteArray):Me.Fd:=match x.ps[a.toNat]? with
 |some p=>((gj p s x.ns).1,(gj p s x.ns).2,(gj p s x.ns).2)
 |none=>(0,0,0)
def L4(x:aQ)(c:Nat):Bool:=kA x.ns c.toUInt8
def dm(x:aQ):Int->ByteArray->Me.Fd:=Fs (Qm x) (pZ (L4 x) 26 97 Ul)
def bD(x:aQ)(k:Nat):ByteArray:=((x.ps[k]?).map λp=>p.label).getD ⟨#[]⟩
def zW:Prop:=∀(C:Cx)(FR:UL->Prop)(F:Int->ByteArray->Me.Fd)(i j:Nat),Wc C FR F->Gz<=C.mm->∀(s:ByteArray)(c:Nat),s.size<=6->cnt s≠0->97<=c->c<=122->cE C FR i j 146 f146 #[.string s,.string ⟨#[63]⟩,.string (ch c),Iv 1] (.string (rp s c))
theorem BT{C:Cx}{FR:UL->Prop}{w0:UL}{i j:Nat}(hR:zW)(hW:Wc C FR (dm x))(hi:C.wk i)(h:iK C FR w0 x){k:Nat}{p:aC}(hk:x.ps[k]?=UG p){s:ByteArray}(hs:s.size<=6):cE C FR i j 75 f75 #[ϖ C.mu,sk (k:Nat) s] (fv (dm x (k:Nat) s)):=by obtain⟨m,hm⟩:=h.pre;refine Nv (rd:=Qm x) (inW:=L4 x) (NS:=x.NS) (Vd:=λa s=>a=(k:Nat)/\s.size<=6) hW hi (by grind) (λa s _=>call114 hW h.mm s) (λa s c f h0 h1 h2=>hR C FR _ i j hW h.mm s c f.2 h0 h1 h2) (λa s f _=>?_) (λc _ _ l v b L d cs hH hT=>call117 hW h c l v b L d cs hH hT) (λa s c f _ _ _=>⟨f.1,by rw[JH];exact f.2⟩) (cnt s) _ s rfl ⟨rfl,hs⟩;obtain⟨rfl,f⟩:=f;have:=call116 (i:=i) (j:=j) hW h hk f;(have e:Qm x (k:Nat) s=((gj p s x.ns).1,(gj p s x.ns).2,(gj p s x.ns).2):=by unfold Qm;simp_all);simp_all
structure Holds(w:UL)(bad:Loc->Prop)(mu mm:Nat)(x:aQ):Prop where
 at_:dO w x
 sm:tS x
 ju:∀p∈x.ps,p.label.size<=6
 blk:∀k,x.blk k->jY bad w mu mm k
 mu:Gz<=mu
 mm:Gz<=mm
 iT:Gz<=w.heap.size
 bad:∀l b,bad l->dn b l->Gz<=b
theorem Holds.look{mu mm:Nat}(t:zW)(h:Holds w bad mu mm x):A2 (dm x) (bD x) bad w mu mm x.ps.length x.NS x.PS:=by intro C r q n d f g i u k a;subst n;obtain⟨p,o⟩:∃p,x.ps[k]?=UG p:=⟨_,Sq a⟩;(have c:C.mm=mm:=by have z:=q.known;simp_all);have b:iK C r w x:=⟨h.at_,h.sm,⟨_,d⟩,λk a=>f k (h.blk k a),λv y k a=>g v y k (h.blk k a),h.mu,by rw[c];exact h.mm,λk a=>.inl (f k ⟨Sn a h.iT,λe=>by have:=h.mu;omega,λe=>by have:=h.mm;omega,λl hl m=>by have:=h.bad l k hl m;omega⟩)⟩;have:=BT (i:=i) (j:=0) t q (.inl u) b o (s:=bD x k) (by unfold bD;rw[o];exact h.ju p (Ss o));exact this
section
variable{P:U9}{Post:UO->UL->Prop}{N:Loc->Prop}{g:UP}{w':UL}
theorem Bt.first(g:UP)(w:UL)(N:Loc->Prop):Bt P (λ_=>False) N g w #[g] (λ_=>0) #[]:=by refine⟨rfl,leavers_one P g,past_nil.mono (SK _),λi b x c=>by simp at c,λb h=>by simp at h,λb h=>by simp at h,λl _ i a h=>by simp[touchAt,Trace.act?]at h⟩
theorem JS(h:aL P Post bad N g w):∃M a o w' b,runNT P (M+1) (solo g w) #[]=(.ended o w',b)/\runN P M (solo g w)=.next a/\step P a=.ended o w'/\Conc.Good P Post a o w' b:=h (λ_=>False) #[g] (λ_=>0) #[] UM w.drawn (λ_ h=>h.elim) (Bt.first g (w.at w.drawn) N)
theorem Gp{f:Va}{fn:Func}{t:Array UO}{kk:List Vj}{u:UO}(b:P.funcs[f]?=UG fn)(c:P.inits.idxOf? f=UM)(i:∀w,(results fn t).run P w=.ok u w)(a:∀w,(results fn t).events P w #[]=#[])(h:∀d,Post u (w.at d)):aL P Post bad N (G (zQ [] UM f t kk) []) w:=by refine aL.end rfl λd=>⟨u,#[],?_,λe a=>by simp at a,h d⟩;simp[G,UY,unwind,doReturn,b,i,a,c,GStep.after,lb]
end
end Go.Bh
namespace Go.Me
open Go.Proofs Go.Conc Go.Mx Go.Rk Go.Cr Go.Pw Go.Lw Go.ae
open Go.ConcR(KK WgAt stA smA rd wr mk)
variable{F:Int->ByteArray->Fd}
section
variable{C:Cx}{i j:Nat}{FR:UL->Prop}
theorem call97(hW:Wc C FR F)(m:Gz<=C.mm)(s:ByteArray):cE C FR i j 97 f97 #[.string s,.string ⟨#[63]⟩] (Iv (cnt s:Nat)):=by intro o v L b p hH n;have hP:=hW.P;refine me hW.ok hW.steady (by rw[hP];exact eF []) hH (by rw[hP];exact mV (rR m hH)) Ψ (by rw[hP];exact func97) (show f97.body=UG (f97.body.getD .skip)by kernel_rfl) (dY _ _) (λi s h=>by cases h) ⟨rfl,λi u q d k=>?_⟩ (λT=>?_) n;{rw[d]at k;cases k;rcases(by have:=(So.1 d).1;simp at this;omega:i=0\/i=1)with rfl|rfl<;>cases d<;>exact .string _};rw[hP];exact(Tryz.strings_Count_one s 63 _).mono λe r h=>h.1
theorem call124(hW:Wc C FR F)(n:Gz<=C.mm)(s:ByteArray):cE C FR i j 124 f124 #[.string s,.string ⟨#[63]⟩] (Iv (Lib.indexByte s.data.toList 63)):=by intro p v L b q hH o;have hP:=hW.P;refine me hW.ok hW.steady (by rw[hP];exact eF []) hH (by rw[hP];exact mV (rR n hH)) Ψ (by rw[hP];exact func124) (show f124.body=UG (f124.body.getD .skip)by kernel_rfl) (dY _ _) (λi s h=>by cases h) ⟨rfl,λi u r d k=>?_⟩ (λT=>?_) o;{rw[d]at k;cases k;rcases(by have:=(So.1 d).1;simp at this;omega:i=0\/i=1)with rfl|rfl<;>cases d<;>exact .string _};rw[hP];exact(Tryz.strings_Index_one s 63 _).mono λe t h=>h.1
theorem za:∀l:List UInt8,l.count 63≠0->∃k:Nat,Lib.indexByte l 63=(k:Nat)/\k<l.length/\∀c,nS c l=l.take k++[c]++l.drop (k+1)|[],h=>absurd rfl h|x::l,h=>by by_cases d:x=63;{subst d;exact⟨0,by simp[Lib.indexByte],by simp,λc=>by simp[nS]⟩};rw[TH (by exact d)]at h;obtain⟨k,e,f,g⟩:=za l h;refine⟨k+1,?_,by simpa using f,λc=>?_⟩;{unfold Lib.indexByte;rw[if_neg (by simpa using d),e,if_neg Θ];omega};unfold nS;rw[if_neg d,g c];simp
theorem Lg(n:Nat)(h:n<=1000):U1.i64.wrap (n:Int)=n:=by rw[U1.wrap_i64];omega
theorem IA(s:ByteArray):s.extract 0 s.size=s:=by simp
theorem AD(hW:Wc C FR F)(Z:Gz<=C.mm){s:ByteArray}{c:Nat}(hs:s.size<=6)(Y:cnt s≠0)(hc:97<=c)(R:c<=122):cE C FR i j 146 f146 #[.string s,.string ⟨#[63]⟩,.string (ch c),Iv 1] (.string (rp s c)):=by intro m v L N cs hH hT;have hsub:∀k,m k->m k:=λ_ h=>h;obtain⟨k,I,hkl,J⟩:=za s.data.toList Y;(have hsz:s.data.toList.length=s.size:=by simp);have D:(ch c).size=1:=rfl;(have W:((⟨#[63]⟩:ByteArray)==ch c)=Ul:=by show((#[63]:Array UInt8)==(#[c.toUInt8]))=Ul;simp;exactλh=>tV hc R h.symm);have hP:=hW.P;have hS:Sl 104 [(0,.string s),(1,.string ⟨#[63]⟩),(2,.string (ch c)),(3,Iv 1)] (#[.string s,.string ⟨#[63]⟩,.string (ch c),Iv 1]++Array.replicate (f146.ntmps-(#[.string s,.string ⟨#[63]⟩,.string (ch c),Iv 1]:Array UO).size) UT):=.all;generalize(#[.string s,.string ⟨#[63]⟩,.string (ch c),Iv 1]++Array.replicate (f146.ntmps-(#[.string s,.string ⟨#[63]⟩,.string (ch c),Iv 1]:Array UO).size) UT)=t at hS⊢;show ag C i j .free _ (G (fx [] UM 146 t (cA dy 1)) _) _;refine gx 22 [(18,ob ((⟨#[63]⟩:ByteArray)==ch c) Ul W)] (rA dy 28 [2,3]) [(0,.string s),(1,.string ⟨#[63]⟩),(2,.string (ch c)),(3,Iv 1),(24,.string s),(25,.string ⟨#[63]⟩)] hS (λt hS=>?_);refine cB hS (vs:=#[.string s,.string ⟨#[63]⟩]) Ψ Ψ Ψ (ags:=#[.tmp 24,.tmp 25]) Ψ (Di (hS.gN 24 rfl) (hS.gN 25 rfl)) (by rw[hP];exact func97) Ψ (show f97.body=UG (f97.body.getD .skip)by kernel_rfl) ?_;refine call97 hW Z s m _ L _ _ hH (λf E q hH=>?_);rw[bO (o:=opn (aR (sb dy 28)) 2) Ψ];change ag C i j _ _ (G (fx [] UM 146 (Array.setIfInBounds _ 26 (Iv (cnt s:Nat))) _) _) _;replace hS:=hS.pt (d:=26) (v:=Iv (cnt s:Nat));replace hsub:∀k,m k->f k:=λk I=>q k (hsub k I);clear q;refine r1 (O:=[(28,ob ((cnt s:Int)==0) Ul (by simpa using Y)),(35,ob (decide ((cnt s:Int)<1)) Ul (by simp;omega)),(47,o6 (U1.i64.wrap ((s.size:Int)+0)) (s.size:Nat) (by rw[Int.add_zero];exact Lg _ Ω))]) (n:=36) [0] (λA=>[.cells #[.pointer UM,.slice UM 0 0] 224]) [] (rA dy 62 [10]) (λA=>[(0,.string s),(1,.string ⟨#[63]⟩),(2,.string (ch c)),(3,Iv 1),(10,ϖ A),(47,Iv (s.size:Nat))]) λA t f E hS hsub hH=>?_;refine cB hS (vs:=#[ϖ A,Iv (s.size:Nat)]) Ψ Ψ Ψ (ags:=#[.tmp 10,.tmp 47]) Ψ (Di (hS.gN 10 rfl) (hS.gN 47 rfl)) (by rw[hP];exact func169) Pn Pt ?_;refine Js hW Ω Ω hH (λf r Q E hc0 q hH=>?_);replace hsub:∀k,m k->f k:=λk I=>q k (hsub k I);clear q;rw[bO (o:=opn (aR (sb dy 62)) 10) Ψ];change ag C i j _ _ (G (fx [] UM 146 (Array.setIfInBounds _ 48 (.tuple #[])) _) _) _;replace hS:=hS.pt (d:=48) (v:=.tuple #[]);refine aP 34 (rA dy 260760 [3,4,5,6,7]) [(0,.string s),(1,.string ⟨#[63]⟩),(2,.string (ch c)),(3,Iv 1),(10,ϖ A),(52,Iv 1),(53,Iv 0),(11,Iv 0),(55,Iv 0),(56,.string s),(57,Iv 0)] hP hS λt hS=>?_;refine ij 58 (.string (s.extract 0 s.size)) hW.steady hH hS (λE hH=>by rw[hP];exact Nb (l:=0) (y:=.tmp 56) (z:=.tmp 57) Ψ (hS.gN 56 rfl) (hS.gN 57 rfl) Ω) λhS=>?_;rw[IA s]at hS⊢;refine aP 1 (rA dy 260760 [5,6,7]) [(0,.string s),(1,.string ⟨#[63]⟩),(2,.string (ch c)),(3,Iv 1),(10,ϖ A),(52,Iv 1),(53,Iv 0),(11,Iv 0),(55,Iv 0),(58,.string s),(59,.string ⟨#[63]⟩)] hP hS λt hS=>?_;refine cB hS (vs:=#[.string s,.string ⟨#[63]⟩]) Ψ Ψ Ψ (ags:=#[.tmp 58,.tmp 59]) Ψ (Di (hS.gN 58 rfl) (hS.gN 59 rfl)) (by rw[hP];exact func124) Ψ (show f124.body=UG (f124.body.getD .skip)by kernel_rfl) ?_;refine call124 hW Z s _ _ _ _ _ hH (λf E q hH=>?_);rw[bO (o:=opn (aR (sb dy 260760)) 5) Ψ];change ag C i j _ _ (G (fx [] UM 146 (Array.setIfInBounds _ 60 (Iv (Lib.indexByte s.data.toList 63))) _) _) _;replace hS:=hS.pt (d:=60) (v:=Iv (Lib.indexByte s.data.toList 63));replace hsub:∀k,m k->f k:=λk I=>q k (hsub k I);clear q;rw[I]at hS⊢;refine sY (ds:=[]) (ro:=UM) (H:=[(61,Iv (k:Nat))]) (obs:=[(Iv (U1.i64.wrap ((0:Int)+(k:Nat))),Iv (k:Nat))]) (k':=(rA dy 521522 [3,4])) (Lt':=[(0,.string s),(1,.string ⟨#[63]⟩),(2,.string (ch c)),(3,Iv 1),(10,ϖ A),(52,Iv 1),(53,Iv 0),(11,Iv 0),(12,Iv (k:Nat)),(62,.string s),(63,Iv 0),(64,Iv (k:Nat))]) 8 hS Ξ (Iy (wz k Ω) ry) Λ (λt hS=>?_);refine ij 65 (.string (s.extract 0 k)) hW.steady hH hS (λE hH=>by rw[hP];exact KI (l:=0) (h:=k) (y:=.tmp 62) (z:=.tmp 63) (x:=.tmp 64) Ψ (hS.gN 62 rfl) (hS.gN 63 rfl) (hS.gN 64 rfl) Ω Ω) λhS=>?_;refine aP 0 (rA dy 521522 [4]) [(0,.string s),(1,.string ⟨#[63]⟩),(2,.string (ch c)),(3,Iv 1),(10,ϖ A),(52,Iv 1),(53,Iv 0),(11,Iv 0),(12,Iv (k:Nat)),(65,.string (s.extract 0 k))] hP hS λt hS=>?_;(have S:q8 [] Q:=λk x h=>by simp at h);(have M:(s.extract 0 k).size=k:=by simp[ByteArray.size_extract];omega);(have X:(s.extract (k+1) s.size).size=s.size-(k+1):=by simp[ByteArray.size_extract]);refine cB hS (vs:=#[ϖ A,.string (s.extract 0 k)]) Ψ Ψ Ψ (ags:=#[.tmp 10,.tmp 65]) Ψ (Di (hS.gN 10 rfl) (hS.gN 65 rfl)) (by rw[hP];exact func170) EH GD ?_;refine tj (l:=[]) hW S (by rw[M];simp;omega) hH (λc1 E D T hH=>?_);rw[bO (o:=opn (aR (sb dy 521522)) 4) Ψ];change ag C i j _ _ (G (fx [] UM 146 (Array.setIfInBounds _ 66 (.tuple #[Iv ((s.extract 0 k).size:Nat),.nilIface])) _) _) _;replace hS:=hS.pt (d:=66) (v:=.tuple #[Iv ((s.extract 0 k).size:Nat),.nilIface]);refine aP 4 (rA dy 1043046 [1]) [(0,.string s),(1,.string ⟨#[63]⟩),(2,.string (ch c)),(3,Iv 1),(10,ϖ A),(52,Iv 1),(53,Iv 0),(11,Iv 0),(12,Iv (k:Nat)),(67,.string (ch c))] hP hS λt hS=>?_;refine cB hS (vs:=#[ϖ A,.string (ch c)]) Ψ Ψ Ψ (ags:=#[.tmp 10,.tmp 67]) Ψ (Di (hS.gN 10 rfl) (hS.gN 67 rfl)) (by rw[hP];exact func170) EH GD ?_;refine tj (l:=([]++(s.extract 0 k).data.toList)) hW T (by simp only[T2,Uu,TF,Uc,ByteArray.size_data,M,D];omega) hH (λc2 E hc2 U hH=>?_);rw[bO (o:=opn (aR (sb dy 1043046)) 1) Ψ];change ag C i j _ _ (G (fx [] UM 146 (Array.setIfInBounds _ 68 (.tuple #[Iv ((ch c).size:Nat),.nilIface])) _) _) _;replace hS:=hS.pt (d:=68) (v:=.tuple #[Iv ((ch c).size:Nat),.nilIface]);refine gx 25 [(72,o6 (U1.i64.wrap ((k:Int)+1)) ((k+1:Nat):Int) (by rw[show((k:Nat):Int)+1=((k+1:Nat):Int)by omega];exact Lg _ Ω))] (rA dy 510 [2,3]) [(0,.string s),(1,.string ⟨#[63]⟩),(2,.string (ch c)),(3,Iv 1),(10,ϖ A),(99,.string s),(100,Iv ((k+1:Nat):Int))] hS (λt hS=>?_);refine ij 101 (.string (s.extract (k+1) s.size)) hW.steady hH hS (λE hH=>by rw[hP];exact Nb (l:=k+1) (y:=.tmp 99) (z:=.tmp 100) Ψ (hS.gN 99 rfl) (hS.gN 100 rfl) Ω) λhS=>?_;refine aP 0 (rA dy 510 [3]) [(0,.string s),(1,.string ⟨#[63]⟩),(2,.string (ch c)),(3,Iv 1),(10,ϖ A),(101,.string (s.extract (k+1) s.size))] hP hS λt hS=>?_;refine cB hS (vs:=#[ϖ A,.string (s.extract (k+1) s.size)]) Ψ Ψ Ψ (ags:=#[.tmp 10,.tmp 101]) Ψ (Di (hS.gN 10 rfl) (hS.gN 101 rfl)) (by rw[hP];exact func170) EH GD ?_;refine tj (l:=([]++(s.extract 0 k).data.toList++(ch c).data.toList)) hW U (by simp only[T2,Uu,TF,Uc,ByteArray.size_data,M,D,X];omega) hH (λc3 E hc3 V hH=>?_);rw[bO (o:=opn (aR (sb dy 510)) 3) Ψ];change ag C i j _ _ (G (fx [] UM 146 (Array.setIfInBounds _ 102 (.tuple #[Iv ((s.extract (k+1) s.size).size:Nat),.nilIface])) _) _) _;replace hS:=hS.pt (d:=102) (v:=.tuple #[Iv ((s.extract (k+1) s.size).size:Nat),.nilIface]);refine aP 3 (rA dy 1022 [0,1]) [(10,ϖ A)] hP hS λt hS=>?_;(have K:(⟨([]++(s.extract 0 k).data.toList++(ch c).data.toList++(s.extract (k+1) s.size).data.toList).toArray⟩:ByteArray)=rp s c:=by unfold rp;rw[J];congr 1;simp[ByteArray.data_extract,ch,UK];exact Tn Θ);refine cB hS (vs:=#[ϖ A]) Ψ Ψ Ψ (ags:=#[.tmp 10]) Ψ (wy (hS.gN 10 rfl)) (by rw[hP];exact func172) OO PG ?_;refine LD hW (l:=([]++(s.extract 0 k).data.toList++(ch c).data.toList++(s.extract (k+1) s.size).data.toList)) (by simp[ch]) (by simp only[T2,TF,Uc,ByteArray.size_data,M,D,X];omega) (by simp only[T2,TF,Uc,ByteArray.size_data,M,D,X];omega) V hH (λE hH=>?_);rw[K];rw[bO (o:=opn (aR (sb dy 1022)) 0) Ψ];change ag C i j _ _ (G (fx [] UM 146 (Array.setIfInBounds _ 103 (.string (rp s c))) _) _) _;replace hS:=hS.pt (d:=103) (v:=.string (rp s c));refine aP 2 (cA dy 1023) [(8,.string (rp s c))] hP hS λt hS=>?_;refine oF ?_;have hr:f146.results=#[.tmp 8]:=Ψ;refine nA (fn:=f146) (by rw[hP];exact func146) (u:=.string (rp s c)) (λw=>?_) (λw=>by simp[results,hr]) ?_;{have e2:=hS.get (i:=8) (v:=.string (rp s c)) rfl;rw[results_tmp hr,e2]};exact hT f E hsub hH
theorem _root_.Go.Bh.wv:Go.Bh.zW:=λC FR F i j hW f s c a b d e=>AD hW f a b d e
end
end Go.Me
namespace Go.Bh
open Go.Proofs Go.Conc Go.Mx Go.Rk Go.Cr Go.Pw Go.Lw Go.Me
open Go.ConcM(OsLater)
section
variable{Post:UO->UL->Prop}{bad N:Loc->Prop}{w:UL}
noncomputable def Hz(F:Int->ByteArray->Me.Fd)(bad:Loc->Prop)(w:UL)(mu mm bx:Nat)(NS PS:UO)(tP:U8)(L0:List (Nat×Vu))(halt:(Nat->Prop)->UP->UL->Prop):Cx:=
 {P:=Pz,RO:=λk=>jY bad w mu mm k/\k≠bx/\k≠1/\k∉L0.map Prod.fst,mu:=mu,mo:=3,pre:=#[NS,PS,.map (UG mm)],tP:=tP,mm:=mm,Am:=jD F,wg:=1,tW:=0,out:=bx,tO:=25,no:=2,
   oc:=λ_ _=>False,res:=λ_=>UT,base:=1,n:=0,End:=λ_ _=>False,w0:=w,solo:=True,halt:=halt,tA:=λ_ _=>(w.heap[1]?).getD (.cells #[] 0)}
structure nF(F:Int->ByteArray->Me.Fd)(bad:Loc->Prop)(w:UL)(mu mm bx:Nat)(NS PS:UO)(L0:List (Nat×Vu)):Prop where
 port:w.heap[mu]?=UG (.cells #[NS,PS,.map (UG mm),.int .i32 0,.int .u32 0] 161)
 dI:∃es ck,w.heap[mm]?=UG (.map es ck)/\jD F es
 box:w.heap[bx]?=UG (.cells #[NS,PS] 25)
 zero:1<bx/\bx<mm/\mm<mu/\∀l,dn 1 l->¬bad l
 lt:∀l b,bad l->dn b l->b<w.heap.size
 LP:∀l b,bad l->dn b l->b≠mu/\b≠mm
 nd:(L0.map Prod.fst).Nodup
 own:∀p∈L0,jY bad w mu mm p.1/\p.1≠bx/\p.1≠1/\w.heap[p.1]?=UG p.2
variable{F:Int->ByteArray->Me.Fd}{mu mm bx:Nat}{NS PS:UO}{L0:List (Nat×Vu)}{halt:(Nat->Prop)->UP->UL->Prop}
theorem nF.Qo(h:nF F bad w mu mm bx NS PS L0):(Hz F bad w mu mm bx NS PS 161 L0 halt).Ok:=by obtain⟨g,i,f,_⟩:=h.zero;refine⟨rfl,Nat.ne_of_gt f,by show mu≠1;omega,by show mu≠bx;omega,by show mm≠1;omega,by show mm≠bx;omega,by show(1:Nat)≠bx;omega,λk e=>?_,λ_ _ _ x=>x.elim,λ_ x=>x⟩;obtain⟨⟨_,a,b,_⟩,c,d,_⟩:=e;exact⟨a,b,d,c⟩
theorem nF.aJ(h:nF F bad w mu mm bx NS PS L0):da (Hz F bad w mu mm bx NS PS 161 L0 halt) w:=by obtain⟨b,c,d,_⟩:=h.zero;(have a:1<w.heap.size:=by have:=(So.1 h.port).1;omega);refine⟨⟨0,0,h.port⟩,⟨0,0,?_⟩,⟨_,h.box,rfl⟩⟩;show w.heap[1]?=UG ((w.heap[1]?).getD _);rw[Su a];rfl
theorem nF.Og(h:nF F bad w mu mm bx NS PS L0):mm<w.heap.size:=by obtain⟨c,b,a,_⟩:=h.dI;exact(So.1 a).1
theorem nF.alone(h:nF F bad w mu mm bx NS PS L0):Alone (Hz F bad w mu mm bx NS PS 161 L0 halt) bad (λk=>k∈L0.map Prod.fst) w:=by obtain⟨f,e,r,n⟩:=h.dI;refine⟨h.Qo,rfl,h.aJ,h.port,⟨f,⟨e,r⟩,n⟩,λb q=>?_,λk a=>⟨a.1.1,λl hl x=>a.1.2.2.2 l x hl⟩,λk a=>?_,⟨h.Og,λl hl x=>(h.LP l mm x hl).2 rfl⟩,λo _ x=>(h.LP _ mu x rfl).1 rfl,h.zero.2.2.2,h.lt⟩;{obtain⟨p,d,rfl⟩:=Sw.1 q;obtain⟨⟨_,c,i,_⟩,j,m,_⟩:=h.own p d;exact⟨c,i,m,j⟩};obtain⟨p,d,rfl⟩:=Sw.1 a;obtain⟨⟨g,_,_,c⟩,_⟩:=h.own p d;exact⟨g,λl hl x=>c l x hl⟩
def OF(bad:Loc->Prop)(w:UL)(mu mm bx:Nat)(L0:List (Nat×Vu))(v:UL):Prop:=∀k,jY bad w mu mm k/\k≠bx/\k≠1/\k∉L0.map Prod.fst->v.heap[k]?=w.heap[k]?
theorem nF.wc(h:nF F bad w mu mm bx NS PS L0):Wc (Hz F bad w mu mm bx NS PS 161 L0 halt) (OF bad w mu mm bx L0) F:=⟨h.Qo,rfl,rfl,λ_ _ a b k x=>(a k x).trans (b k x),rfl,rfl⟩
theorem nF.hp(h:nF F bad w mu mm bx NS PS L0):Hp (Hz F bad w mu mm bx NS PS 161 L0 halt) (OF bad w mu mm bx L0) (λk=>k∈L0.map Prod.fst) w L0:=by have b:=h.alone (halt:=halt);refine⟨b.ok,λk a x=>x.2.2.2 a,λk a=>?_,b.mm.1,b.aJ,λk a=>rfl,h.nd,λp c=>⟨Sw.2 ⟨p,c,rfl⟩,(h.own p c).2.2.2⟩⟩;rcases a with a|a;{exact(b.hand k a).1};exact(b.ro k a).1
theorem nF.file{x:aQ}{w0:UL}(h:nF F bad w mu mm bx x.NS x.PS L0)(o:dO w0 x)(d:tS x)(f:∀k,x.blk k->w.heap[k]?=w0.heap[k]?)(a:∀k,x.blk k->jY bad w mu mm k/\k≠bx/\k≠1/\k∉L0.map Prod.fst)(q:Gz<=bx)(g:∀p∈L0,Gz<=p.1)(i:∀l b,bad l->dn b l->Gz<=b):iK (Hz F bad w mu mm bx x.NS x.PS 161 L0 halt) (OF bad w mu mm bx L0) w0 x:=by obtain⟨r,s,t,_⟩:=h.zero;refine⟨o,d,⟨_,rfl⟩,a,λv n k x=>(n k (a k x)).trans (f k x),by show Gz<=mu;omega,by show Gz<=mm;omega,λk f=>?_⟩;by_cases e:k=1;{exact .inr (.inl e)};refine .inl ⟨⟨?_,by omega,by omega,λl hl c=>by have:=i l k hl c;omega⟩,by omega,e,λj=>?_⟩;{have:=h.Og;omega};obtain⟨p,m,rfl⟩:=Sw.1 j;have:=g p m;omega
end
end Go.Bh
namespace Go.Bh
open Go.Proofs Go.Conc Go.Mx Go.Rk Go.Cr Go.Pw Go.Lw Go.Me Go.ae
variable{P:U9}{Post:UO->UL->Prop}{bad N N':Loc->Prop}{w w' w0:UL}{a:Option Vs}{l:List UO}{x:aQ}{mu mm:Nat}{caller:U0}{cs:List U0}{t:Array UO}{fns:Va->Bool}
structure cr(bad:Loc->Prop)(w:UL)(x:aQ):Prop where
 at_:dO w x
 sm:tS x
 ju:∀p∈x.ps,p.label.size<=6
 blk:∀k,x.blk k->gk bad (λ_=>False) w k
 nz:∀k,x.blk k->k≠1
 iT:Gz<w.heap.size
 low:∀l b,bad l->dn b l->Gz<=b/\b<w.heap.size
 cell:∀l,bad l->∃b,dn b l
theorem iZ.keep(h:iZ w a l)(k:∀d,a=UG d->w'.heap[d.block]?=w.heap[d.block]?):iZ w' a l:=by rcases h with h|⟨b,f,c,e,fr,rfl,g,i,j⟩;{exact .inl h};exact .inr ⟨b,f,c,e,fr,rfl,(k _ rfl).trans g,i,j⟩
theorem dO.keep(h:dO w x)(b:∀k,x.blk k->w'.heap[k]?=w.heap[k]?):dO w' x:=⟨iZ.keep h.notes λa e=>b _ (.inl ⟨a,e,rfl⟩),iZ.keep h.j3 λa e=>b _ (.inr (.inl ⟨a,e,rfl⟩)),λn c=>⟨(h.kinds n c).1,iZ.keep (h.kinds n c).2 λa e=>b _ (.inr (.inr ⟨n,c,a,e,rfl⟩))⟩⟩
theorem cr.keep(h:cr bad w x){bad':Loc->Prop}(i:∀k,gk bad (λ_=>False) w k->w'.heap[k]?=w.heap[k]?)(e:w.heap.size<=w'.heap.size)(d:∀l,bad' l->bad l\/∃b,dn b l/\w.heap.size<=b/\b<w'.heap.size):cr bad' w' x:=by refine⟨dO.keep h.at_ λk x=>i k (h.blk k x),h.sm,h.ju,λk x=>⟨Sn (h.blk k x).1 e,λl hl=>⟨λy=>?_,λy=>y⟩⟩,h.nz,Sn h.iT e,λl b y f=>?_,λl y=>?_⟩;{rcases d l y with y|⟨b,a,g,_⟩;{exact((h.blk k x).2 l hl).1 y};have:=fX hl a;have:=(h.blk k x).1;omega};{rcases d l y with y|⟨c,a,g,j⟩;{have:=h.low l b y f;omega};obtain rfl:=fX f a;have:=h.iT;omega};rcases d l y with y|⟨b,a,_⟩;{exact h.cell l y};exact⟨b,a⟩
theorem eN.grow(a:eN bad w0 mu mm x.NS x.PS w):w0.heap.size<=w.heap.size:=by have b:=a.lt;have c:=a.iW;have d:=a.size;omega
theorem eN.file(a:eN bad w0 mu mm x.NS x.PS w)(b:cr bad w0 x):cr bad w x:=b.keep a.keep a.grow λ_ h=>.inl h
theorem eN.Ps(d:eN bad w0 mu mm x.NS x.PS w)(c:cr bad w0 x):GX bad w.heap.size mu mm:=by have e:=d.lt;have f:=d.iW;refine⟨λl b hl a=>?_,c.cell,λl hl a=>?_,λl hl a=>?_⟩;{have:=(c.low l b hl a).2;have:=d.grow;omega};{have:=(c.low l _ hl a).2;omega};have:=(c.low l _ hl a).2;omega
theorem eN.FX(b:eN bad w0 mu mm x.NS x.PS w){k:Nat}(a:gk bad (λ_=>False) w0 k):jY bad w mu mm k:=by have d:=b.lt;have e:=b.iW;have f:=a.1;exact⟨Sn a.1 b.grow,by omega,by omega,λl hl c=>(a.2 l c).1 hl⟩
theorem eN.holds(d:eN bad w0 mu mm x.NS x.PS w)(a:cr bad w0 x):Holds w bad mu mm x:=by have c:=d.file a;have g:=d.lt;have h:=d.iW;have i:=a.iT;exact⟨c.at_,a.sm,a.ju,λk f=>d.FX (a.blk k f),by omega,by omega,SF c.iT,λl b hl e=>(a.low l b hl e).1⟩
theorem AQ(p:aC):∀u∈p.vs,One u:=by intro u a;simp only[aC.vs]at a;simp at a;rcases a with rfl|rfl|rfl|rfl|rfl|rfl;{exact .inr (.inr (.inl ⟨_,rfl⟩))};{exact .inr (.inr (.inl ⟨_,rfl⟩))};all_goals exact .inl ⟨_,_,rfl⟩
theorem gK(h:dO w x)(g:x.ps≠[]):∃(b off:Nat)(c:Array UO)(e:U8)(fr:Nat×Nat),x.pa=UG ⟨b,off,UM⟩/\w.heap[b]?=UG (.cells c e fr)/\∀j,j<x.ps.length->Row c (off+j*6) (((x.ps[j]?).map aC.vs).getD #[]):=by rcases h.j3 with⟨_,h⟩|⟨b,off,c,e,fr,o,q,v,r⟩;{exact absurd (List.flatMap_eq_nil_iff.1 h) (λh=>by cases a:x.ps with|nil=>exact g a|cons p l=>have:=h p (by rw[a];simp);simp[aC.vs]at this)};refine⟨b,off,c,e,fr,o,q,λj t=>?_⟩;obtain⟨p,a⟩:∃p,x.ps[j]?=UG p:=⟨_,Sq t⟩;rw[a];refine⟨rfl,λk i=>?_⟩;have d:=flat_get (m:=6) Δ x.ps (f:=λp=>p.vs.toList) (λp _=>rfl) j k i;rw[a]at d;obtain⟨u,n⟩:∃u,p.vs.toList[k]?=UG u:=⟨_,Sq (show k<p.vs.toList.length from i)⟩;have d:(x.ps.flatMap λp=>p.vs.toList)[j*6+k]?=UG u:=d.trans n;have s:=r _ _ d;rw[To,s];simpa using n.symm
theorem wL(g:cr bad w0 x)(d:eN bad w0 mu mm x.NS x.PS w)(z:x.ps≠[])(N:x.ps.length<=1000)(K:∀i p w',After (dm x) (bD x) bad w mu mm x.ps.length i p w'->cr (pI bad mu p) w' x->aL Pz Post (pI bad mu p) (λ_=>False) (G (caller.finish (.slice (UG ⟨i,0,UM⟩) x.ps.length x.ps.length)) cs) w')(hS:Sl 32 [(0,ϖ mu)] t):aL Pz Post bad (GG mu mm) (G (fr 73 t [.code bZ]) (caller::cs)) w:=by have h:=d.file g;obtain⟨b,A,c,e,fr,C,J,L⟩:=gK h.at_ z;(have r:x.PS=.slice (UG ⟨b,A,UM⟩) x.ps.length x.pc:=by unfold aQ.PS;rw[C]);have m:mm≠mu:=TJ d.iW;have f:=d.port;have D:=(d.holds g).look wv;rw[r]at f D;refine NJ (F:=dm x) (NS:=x.NS) (tP:=161) (ck:=0) (px:=λj=>((x.ps[j]?).map aC.vs).getD #[]) (ju:=bD x) N f d.dI m.symm ⟨d.FX (g.blk b (.inr (.inl ⟨_,C,rfl⟩))),c,e,fr,J,L⟩ (λj s u H=>?_) (λj s=>?_) (d.Ps g) (HY m) D (λi p w' n=>K i p w' n ?_) hS;{rw[Sq s]at H;exact AQ _ u H};{unfold bD;rw[Sq s];rfl};refine⟨dO.keep h.at_ λk v=>n.keep k ((d.holds g).blk k v),g.sm,g.ju,λk v=>?_,g.nz,Sn h.iT n.grow,λl B hl E=>?_,λl hl=>?_⟩;{have q:=(d.holds g).blk k v;have V:=n.new;refine⟨Sn q.1 n.grow,λl hl=>⟨λy=>?_,λy=>y⟩⟩;rcases y with y|⟨a,rfl,y⟩;{exact q.2.2.2 l y hl};have O:a.block=k:=hl;have:=q.1;have:=q.2.1;omega};{have P:=h.iT;have Q:=n.new;have R:=n.grow;have S:=d.size;have T:=d.iW;have U:=d.lt;have I:=g.iT;rcases hl with y|⟨a,rfl,y⟩;{have:=h.low l B y E;omega};obtain rfl:a.block=B:=E;omega};rcases hl with y|⟨a,rfl,_⟩;{exact g.cell l y};exact⟨a.block,rfl⟩
section
variable{v:UL}{bx:Nat}{T:Tape}{tP:U8}{ex:List fQ}
theorem B4:∀(l:List bu)(f:Nat->Option Vs->Option Vs)(seen:List ByteArray),goN seen (l.mapIdx λj n=>{n with ka:=f j n.ka})=goN seen l|[],_,_=>rfl|n::l,f,seen=>by rw[Uq];show(if iP seen n≠0 then iP seen n else goN (seen++[n.name]) (l.mapIdx λj n=>{n with ka:=f (j+1) n.ka}))=_;rw[B4 l (λj=>f (j+1)) (seen++[n.name])];rfl
theorem rZ(l:List bu):kH (dM l)=kH l:=by unfold kH;rw[cI];have:=B4 l (λj a=>la (3+j) a) [];unfold dM;rw[this]
structure gv(x:aQ):Prop where
 n:x.ns.length<=1000
 p:x.ps.length<=1000
 s:∀n∈x.ns,n.name.size<4294967281/\n.word.size<4294967281/\n.ks.length<=1000
 q:∀p∈x.ps,p.name.size<4294967281/\p.label.size<4294967281
theorem lC(q:dO w0 x):fo (re (cL Gz (av w0 mu tP x ex) v) T 0) (.slice (la 2 x.pa) x.ps.length x.pc) x.ps:=by by_cases a:x.ps=[];{rw[a];exact .inl ⟨rfl,la 2 x.pa,x.pc,rfl⟩};have j:0<x.ps.length:=TC λe=>a (S9.1 e);rcases q.j3 with⟨_,h⟩|⟨b,f,c,e,fr,g,_⟩;{have:=congrArg List.length h;rw[kV (m:=6) _ λn _=>gw n]at this;simp at this;omega};refine .inr ⟨Gz+2,f,x.pc,by rw[g];rfl,a,by rw[fV];simp[av];omega,λk n o u p i=>?_⟩;have d:o<6:=(So.1 i).1;have l:=fO (w0:=w0) (mu:=mu) (tP:=tP) (x:=x) (ex:=ex);rw[g]at l;have:=kG (v:=v) (o:=k*6+o) (u:=u) l (by rw[flat_get (m:=6) Δ _ (λn _=>gw n) _ _ d,p];simpa using i);rw[<-To]at this;exact this
theorem tw(d:gv x):∀n∈dM x.ns,n.name.size<4294967281/\n.word.size<4294967281/\n.ks.length<=1000:=by intro n c;obtain⟨k,a⟩:=SX.1 c;rw[er]at a;obtain⟨m,b,rfl⟩:=St.1 a;exact d.s m (Ss b)
structure ga(bad N:Loc->Prop)(w:UL)(bx:Nat)(x:aQ):Prop where
 at_:dO w x
 blk:∀k,x.blk k->gk bad N w k
 bf:gk bad N w bx
 low:Gz<=bx
 box:w.heap[bx]?=UG (.cells #[x.NS,x.PS] 25)
 lt:∀l b,bad l\/N l->dn b l->b<w.heap.size
theorem ga.yf(h:ga bad N w bx x)(a:∀s∈ex,kl (av w bx 25 x ex) fns w s):oj Pz fns (av w bx 25 x ex) w:=sC h.at_ h.low h.box rfl rfl (λ_ _=>rfl) (SF (Nat.lt_of_le_of_lt h.low h.bf.1)) a
theorem jr{d:fQ}(h:∀b,a=UG b->gk bad N w b.block)(c:gk bad N w d.k):gk bad N w (gp w0 d a l).k:=by cases a with|none=>exact c|some b=>exact h b rfl
theorem ga.seen(h:ga bad N w bx x)(c:∀s∈ex,gk bad N w s.k):∀(i:Nat)(s:fQ),(av w bx 25 x ex)[i]?=UG s->gk bad N w s.k:=by intro i s f;have a:=Ss f;unfold av at a;rcases Sv.1 a with rfl|a;{exact h.bf};rcases Sv.1 a with rfl|a;{exact jr (λb e=>h.blk _ (.inl ⟨b,e,rfl⟩)) h.bf};rcases Sv.1 a with rfl|a;{exact jr (λb e=>h.blk _ (.inr (.inl ⟨b,e,rfl⟩))) h.bf};rcases SL.1 a with a|a;{obtain⟨n,d,rfl⟩:=Sw.1 a;exact jr (λb e=>h.blk _ (.inr (.inr ⟨n,d,b,e,rfl⟩))) h.bf};exact c s a
theorem ga.args(h:ga bad N w bx x):aj (dw Pz bS (av w bx 25 x ex)) (gN Gz (av w bx 25 x ex)) (.agg #[.slice (la 1 x.na) x.ns.length x.nc,.slice (la 2 x.pa) x.ps.length x.pc]) (.agg #[x.NS,x.PS]):=by refine .agg rfl λi u d b c=>?_;rcases(by have:=(So.1 b).1;simp at this;omega:i=0\/i=1)with rfl|rfl<;>cases b<;>cases c;{exact gC h.at_.notes lh};exact gC h.at_.j3 fO
theorem EK(h:ga bad N w bx x)(c:gv x):vD bad N w 22 f22 #[.agg #[x.NS,x.PS]] (Iv (eL x.ns x.ps)):=by intro Post d o K;refine kU (P:=Pz) (u:=Iv (eL x.ns x.ps)) (b:=f22.body.getD .skip) (args':=#[.agg #[x.NS,x.PS]]) (fns:=bS) (ws:=av w bx 25 x []) (args:=#[.agg #[.slice (la 1 x.na) x.ns.length x.nc,.slice (la 2 x.pa) x.ps.length x.pc]]) (eF _) (h.yf λs g=>by cases g) (f:=22) (fn:=f22) Ψ func22 (show f22.body=UG (f22.body.getD .skip)by kernel_rfl) (dY _ _) (h.seen λs g=>by cases g) ⟨rfl,λi u p j k=>?_⟩ (λT=>?_) h.lt K;{(obtain rfl:i=0:=by have:=(So.1 j).1;simp at this;omega);cases j;cases k;exact h.args};refine(uz (dM x.ns) x.ps _ _ _ (il h.at_) (lC h.at_) (by rw[cI];exact c.n) c.p (tw c) c.q (nj h.at_ λn m=>(c.s n m).2.2)).mono λe w' l=>?_;rw[l.1];unfold eL;rw[rZ]
theorem pj(h:ga bad (λ_=>False) w bx x)(j:gv x)(K:∀mu mm w',eN bad w mu mm x.NS x.PS w'->aL Pz Post bad (GG mu mm) (G (caller.finish (.tuple #[ϖ mu,Iv (eL x.ns x.ps)])) cs) w')(hS:Sl 13 [(0,.agg #[x.NS,x.PS])] t):aL Pz Post bad (λ_=>False) (G (fr 72 t [.code im]) (caller::cs)) w:=by have f:∀l b,bad l->dn b l->b<w.heap.size:=λl b hl e=>h.lt l b (.inl hl) e;refine Is f (λm g d=>EK (bx:=bx) ⟨dO.keep h.at_ λk a=>g k (h.blk k a),λk a=>⟨Sn (h.blk k a).1 d,(h.blk k a).2⟩,⟨Sn h.bf.1 d,h.bf.2⟩,h.low,(g bx h.bf).trans h.box,λl b hl e=>Sn (h.lt l b hl e) d⟩ j) K hS
end
theorem sS{M:Nat}{L:List (Nat×UO)}(a:List Nat)(h:L.map Prod.fst=a)(b:a.Nodup/\∀i∈a,i<M):Sl M L (fP M L):=by subst h;exact LS b.1 λp c=>b.2 _ (Sw.2 ⟨p,c,rfl⟩)
def Cut(bad N:Loc->Prop)(w:UL)(k n:Nat):Prop:=k<w.heap.size/\∀o,o<n->¬bad (.cell ⟨k,o,UM⟩)/\¬N (.cell ⟨k,o,UM⟩)
def jE(l:List Nat)(i:Nat):Bool:=l.contains i
theorem oH{ws:List fQ}(hl:Listed P (dw P fns ws) λ_=>Ul)(hw:oj P fns ws w){f:Va}{cd:Code}{tail:List Vj}(d:List Nat){ds:List Vo}(r:codeOk P (dw P fns ws) (λ_=>Ul) cd=UJ)(R:gh (jE d) cd=UJ){tl:Array UO}(ht:ak (dw P fns ws) (gN P.globals.size ws) tl (lv (jE d) t))(hsn:∀(i:Nat)(s:fQ),ws[i]?=UG s->gk bad N w s.k\/Cut bad N w s.k s.x.size){Q:Array UO->UL->Prop}(hQ:∀t w T D,Q t w->Q t (re w T D))(H:∀T,cd.wp P (λe a w=>e=.normal/\a.defers=[]/\Q a.tmps w) ⟨tl,[]⟩ (re (cL P.globals.size ws w) T 0))(O:∀l b,bad l\/N l->dn b l->b<w.heap.size)(K:∀r1 c u v w',Q c v->(gN P.globals.size ws).le r1->ak (dw P fns ws) r1 c u->cm (dw P fns ws) r1 v w'->(∀b k,r1 b=UG k->P.globals.size+ws.length<=b->w.heap.size<=k/\gk bad N w' k)->Kept bad N w w'->aL P Post bad N (G (fx ds UM f (u.mapIdx λi x=>if jE d i then x else t.getD i UT) tail) cs) w'):aL P Post bad N (G (fx ds UM f t (.code cd::tail)) cs) w:=by(have j:∀b k,gN P.globals.size ws b=UG k->(dw P fns ws).seen b/\(∃s∈ws,s.k=k)/\(gk bad N w k\/Cut bad N w k ((dw P fns ws).zR b)):=λb k m=>by obtain⟨i,s,rfl,Y,rfl,I⟩:=eM m;refine⟨⟨SY _ _,by omega⟩,⟨s,Ss Y,rfl⟩,?_⟩;(have:(dw P fns ws).zR (P.globals.size+i)=s.x.size:=by show(if P.globals.size+i<P.globals.size then 0 else _)=_;grind);grind);have hp:Go.ae.Place P (dw P fns ws) (λ_=>Ul) (gN P.globals.size ws) (cL P.globals.size ws w) (λ_=>False) (λk=>gk bad N w k) (λk n=>Cut bad N w k n) w:=⟨hl,λg h=>(by cases h),hw.rel,⟨λb k m=>.inr ⟨(j b k m).1,(j b k m).2.2⟩,λk r=>r.elim False.elim λh=>h.1⟩⟩;have C:=Go.ae.Loc.code (main:=UJ) (cs:=cs) (F:=fx ds UM f t (.code cd::tail)) hp (jE d) rfl rfl (by simp[fx]) r R ht hQ H (Stop:=λM g U=>∃r1 c u v,g=G (fx ds UM f (u.mapIdx λi x=>if jE d i then x else t.getD i UT) tail) cs/\Q c v/\(gN P.globals.size ws).le r1/\ak (dw P fns ws) r1 c u/\cm (dw P fns ws) r1 v U/\(∀b k,r1 b=UG k->P.globals.size+ws.length<=b->M k)/\(∀k,M k->w.heap.size<=k/\k<U.heap.size)/\∀k,gk bad N w k->U.heap[k]?=w.heap[k]?) (λr1 W c u v v1 B S q E A p=>.stop ⟨r1,c,u,v,rfl,S,B,E,q,λb k m J=>by rcases A.xV b k m with x|x;{exact x};have:b<P.globals.size+ws.length:=x.1.2;omega,λk r=>⟨(p.mine k r).resolve_left id,A.old k (.inl r)⟩,λk r=>p.keep k (.inr r) λb m=>(j b k m).1⟩);refine aL.loc (Post:=Post) (bad:=bad) (N:=N) C (λb m=>m.elim False.elim λh=>h) (λb n o h ho=>⟨h.1,h.2 o ho⟩) O λV g' w' _ Z I h4=>?_;obtain⟨r1,c,u,v,rfl,S,B,E,q,L,z,h5⟩:=h4;refine K r1 c u v w' S B E q (λb k m J=>?_) ⟨h5,Z,I.1,I.2.1,I.2.2.1,λk r=>I.2.2.2 k r id⟩;have x:=L b k m J;exact⟨(z k x).1,(z k x).2,λl hl=>⟨λy=>by grind,λy=>by grind⟩⟩
theorem kY{live:List Nat}{t':Array UO}{i:Nat}{v:UO}(a:jE live i=UJ)(h:t'[i]?=UG v):(t'.mapIdx λi x=>if jE live i then x else t.getD i UT)[i]?=UG v:=by simp_all
end Go.Bh
namespace Go.Bh
open Go.Proofs Go.Conc Go.Mx Go.Rk Go.Cr Go.Pw Go.Lw Go.Me Go.ae
open Go.ConcM(OsLater)
variable{Post:UO->UL->Prop}{bad N:Loc->Prop}{w w' w0:UL}{x:aQ}{mu mm k n out wg b B:Nat}{o:Vu}{F:Int->ByteArray->Me.Fd}{ju:Nat->ByteArray}{c:dG}{r r1:bC}{e t:U8}{v u':UO}{l:List Int}{f:Nat->UO}{s:fQ}{T:Tape}
section
variable{bad' bad2:Loc->Prop}{w2:UL}
abbrev No:Loc->Prop:=λ_=>False
structure cV(bad:Loc->Prop)(w:UL)(bad':Loc->Prop)(w':UL):Prop where
 keep:∀k,gk bad No w k->w'.heap[k]?=w.heap[k]?
 grow:w.heap.size<=w'.heap.size
 bad:∀l,bad' l->bad l\/∃b,dn b l/\w.heap.size<=b/\b<w'.heap.size
 os:OsLater w.os w'.os
 out:w'.output=w.output
 tape:w'.tape=w.tape
theorem cV.refl(bad:Loc->Prop)(w:UL):cV bad w bad w:=⟨λ_ _=>rfl,Sm _,λ_ h=>.inl h,OsLater.refl _,rfl,rfl⟩
theorem cV.rn(h:cV bad w bad' w')(a:gk bad No w k):gk bad' No w' k:=⟨Sn a.1 h.grow,λl hl=>⟨λy=>by rcases h.bad l y with y|⟨b,c,d,_⟩;{exact(a.2 l hl).1 y};have:=fX hl c;have:=a.1;omega,λy=>y⟩⟩
theorem cV.trans(h:cV bad w bad' w')(a:cV bad' w' bad2 w2):cV bad w bad2 w2:=⟨λk f=>(a.keep k (h.rn f)).trans (h.keep k f),Sx h.grow a.grow,λl hl=>by have g:=h.grow;have i:=a.grow;rcases a.bad l hl with y|⟨b,c,d,e⟩;{rcases h.bad l y with y|⟨b,c,d,e⟩;{exact .inl y};exact .inr ⟨b,c,d,by omega⟩};exact .inr ⟨b,c,by omega,e⟩,h.os.trans a.os,a.out.trans h.out,a.tape.trans h.tape⟩
theorem cV.file(h:cV bad w bad' w')(a:cr bad w x):cr bad' w' x:=a.keep h.keep h.grow h.bad
theorem Kept.ba(h:Kept bad No w w'):cV bad w bad w':=⟨h.keep,h.grow,λ_ h=>.inl h,by rw[h.os];exact OsLater.refl _,h.out,h.tape⟩
theorem Grown.ba(h:Grown w w' o):cV bad w bad w':=⟨λk a=>h.keep k a.1,by rw[h.size];omega,λ_ h=>.inl h,by rw[h.os];exact OsLater.refl _,h.out,h.tape⟩
theorem eN.ba{NS PS:UO}(h:eN bad w mu mm NS PS w'):cV bad w bad w':=⟨h.keep,by have:=h.lt;have:=h.iW;have:=h.size;omega,λ_ h=>.inl h,by rw[h.os];exact OsLater.refl _,h.out,h.tape⟩
theorem nV(b:eN bad w0 mu mm x.NS x.PS w)(c:After F ju bad w mu mm n out wg w'):cV bad w0 (pI bad mu wg) w':=by have e:=b.lt;have f:=b.iW;have g:=b.size;have h:=c.new;refine⟨λk d=>(c.keep k (b.FX d)).trans (b.keep k d),by omega,λl hl=>?_,by rw[<-b.os];exact c.os,c.Rc.trans b.out,c.tape.trans b.tape⟩;rcases hl with y|⟨a,rfl,y⟩;{exact .inl y};refine .inr ⟨a.block,rfl,?_,?_⟩<;>omega
theorem After.rn(b:eN bad w0 mu mm x.NS x.PS w)(f:cr bad w0 x)(c:After F ju bad w mu mm n out wg w'):gk (pI bad mu wg) No w' out:=by have h:=c.new;obtain⟨g,d,_⟩:=c.res;have i:=b.lt;have j:=b.iW;have k:=b.size;refine⟨(So.1 d).1,λl hl=>⟨λy=>?_,λy=>y⟩⟩;rcases y with y|⟨a,rfl,y⟩;{have:=(f.low l out y hl).2;omega};have e:a.block=out:=hl;omega
theorem vy{ws:List fQ}(o:Gz<=w.heap.size)(h:∀s∈ws,∃(a:Array UO)(fr:Nat×Nat),w.heap[s.k]?=UG (.cells a s.t fr)/\s.x.size<=a.size/\∀(j:Nat)(u c:UO),s.x[j]?=UG u->a[j]?=UG c->u=c/\((∃k n,u=.int k n)\/∃b,u=.string b)):oj Pz bS ws w:=by refine⟨o,rM,λi s p=>?_⟩;obtain⟨a,fr,f,g,l⟩:=h s (Ss p);refine⟨a,s.t,fr,f,g,λ_=>rfl,λj u c _ q d=>?_⟩;obtain⟨rfl,m⟩:=l j u c q d;exact ib m
theorem Dm(h:ql c r b (UG o) UM):False:=by cases h
theorem AG{o':Vu}(h:ql c r b (UG o) (UG o'))(i:∃a e g,o=.cells a e g):∃d f fr,o'=.cells d f fr:=by cases h with|seen=>exact⟨_,_,_,rfl⟩|own _ j=>cases j with|cells _=>exact⟨_,_,_,rfl⟩|_=>obtain⟨_,_,_,h⟩:=i;cases h
theorem qV{w1:UL}{m:Nat}{l:List UO}(f:cm c r1 w1 w')(r:w1.ownsRow B e m v n l)(s:aj c r1 v u')(K:∀x∈l,Plain x)(I:c.aJ<=B):∃(o:Option Vs)(i:Nat),u'=.slice o n i/\((True/\l=[])\/∃(k b:Nat),o=UG ⟨k,0,UM⟩/\True/\r1 b=UG k/\B<=b/\(∃u y fr,w'.heap[k]?=UG (.cells u y fr))/\∀(j:Nat)(x:UO),l[j]?=UG x->w'.cell? ⟨k,j,UM⟩=UG x):=by have a:=r.1;rcases r.2 with⟨rfl,rfl⟩|⟨g,i,D,rfl,z,E,_⟩;{cases s;simpa using a};have J:=r.cells rfl;obtain⟨o,rfl,p⟩:=IF f s K (λe=>by have:=a;rw[e,Uy]at this;exact S9.1 this) (.inr ⟨g,0,rfl,Sx I z,λj x t=>by have:=J j x t;rwa[du]at this⟩);refine⟨o,i,rfl,?_⟩;rcases p with p|⟨k,L,rfl,F,_,H⟩;{exact .inl p};cases s with|dh=>exact .inl ⟨trivial,by rw[Uy]at a;exact S9.1 a⟩|@slice _ o _ _ h=>obtain⟨q,A,_⟩:=h;subst A;refine .inr ⟨k,g,rfl,F,q,z,?_,λj x t=>by have:=H j x t;simpa using this⟩;have d:=f.blk g k q;rw[E]at d;cases C:w'.heap[k]? with|none=>rw[C]at d;exact(Dm d).elim|some M=>rw[C]at d;obtain⟨u,y,fr,rfl⟩:=AG d ⟨_,_,_,rfl⟩;exact⟨_,_,_,rfl⟩
theorem Ba{α:Type}{l:List α}{f:α->Int}:∀x∈l.map (λa=>UO.int .i64 (f a)),Plain x:=λx b=>by obtain⟨a,_,rfl⟩:=Sw.1 b;exact dY _ _
def ay(k:Nat)(t:U8)(n:Nat)(f:Nat->UO):fQ:=⟨k,0,t,((List.range n).map f).toArray⟩
theorem bV{o:Nat}(h:o<n):(ay k t n f).x[o]?=UG (f o):=by simp[ay,h]
theorem Ds{c:Array UO}{fr:Nat×Nat}(h:Gz<=w.heap.size)(r:Gz<=k)(i:w.heap[k]?=UG (.cells c t fr))(m:n<=c.size)(l:∀o,o<n->c[o]?=UG (f o))(p:∀o,(∃k n,f o=.int k n)\/∃b,f o=.string b):oj Pz bS [ay k t n f] w:=by refine vy h λs q=>?_;(obtain rfl:=by simpa using q);refine⟨c,fr,i,by simpa[ay]using m,λj u v d a=>?_⟩;(have g:=by have:=(So.1 d).1;simpa[ay]using this);rw[bV g]at d;rw[l j g]at a;cases d;cases a;exact⟨rfl,p j⟩
theorem IX{i:Nat}{s':fQ}(h:[s][i]?=UG s'):i=0/\s=s':=by cases i with|zero=>exact⟨rfl,SR h⟩|succ i=>cases h
theorem qK:(re (cL Gz [s] w) T 0).heap.size=Gz+1:=jN Gz [s] w
theorem mj{o:Nat}(h:o<n):(re (cL Gz [ay k t n f] w) T 0).cell? ⟨Gz,o,UM⟩=UG (f o):=by have:=bI (g:=Gz) (v:=w) (ws:=[ay k t n f]) (i:=0) rfl (bV h);exact this
def eO(bad:Loc->Prop)(w:UL)(v:UO)(l:List Int):Prop:=
 ∃(a:Option Vs)(cap:Nat),v=.slice a l.length cap/\((True/\l=[])\/∃k,a=UG ⟨k,0,UM⟩/\True/\gk bad No w k/\∃c e fr,w.heap[k]?=UG (.cells c e fr)/\∀(j:Nat)(n:Int),l[j]?=UG n->c[j]?=UG (Iv n))
theorem eO.ba(h:eO bad w v l)(f:cV bad w bad' w'):eO bad' w' v l:=by obtain⟨a,b,g,i⟩:=h;refine⟨a,b,g,i.imp id λ⟨k,j,m,d,c,e,fr,n,o⟩=>⟨k,j,m,f.rn d,c,e,fr,(f.keep k d).trans n,o⟩⟩
theorem sR{j:Nat}{u:UO}(h:w.cell? ⟨k,j,UM⟩=UG u):∃c e fr,w.heap[k]?=UG (.cells c e fr)/\c[j]?=UG u:=by unfold UL.cell? at h;cases a:w.heap[k]? with|none=>rw[a]at h;cases h|some o=>rw[a]at h;cases o with|cells c e fr=>exact⟨c,e,fr,rfl,by simpa using h⟩|_=>simp at h
theorem jH{w1:UL}(d:cm c r1 w1 w')(H:w1.ownsRow B e 1 v l.length (l.map λn=>Iv n))(I:aj c r1 v u')(E:Gz<=B)(F:c.aJ=Gz)(u:∀b k,r1 b=UG k->B<=b->gk bad No w' k):eO bad w' u' l:=by obtain⟨y,i,rfl,h⟩:=qV d H I (Ba) (by rw[F];exact E);refine⟨y,i,rfl,?_⟩;rcases h with⟨_,h⟩|⟨k,b,rfl,K,r,s,C,a⟩;{exact .inl ⟨trivial,by simpa using h⟩};cases l with|nil=>obtain⟨o,p,fr,g⟩:=C;exact .inr ⟨k,rfl,trivial,u b k r s,o,p,fr,g,λj m q=>by cases q⟩|cons n l=>obtain⟨o,p,fr,g,_⟩:=sR (a 0 _ rfl);refine .inr ⟨k,rfl,trivial,u b k r s,o,p,fr,g,λj m q=>?_⟩;have:=a j (Iv m) (by rw[SS,q];rfl);obtain⟨z,J,A,t,D⟩:=sR this;rw[g]at t;cases t;exact D
end
section
variable{bx:Nat}
theorem qt:1<Gz:=by simp
structure eJ(bad:Loc->Prop)(w0 w:UL)(mu mm bx:Nat)(x:aQ):Prop where
 port:w.heap[mu]?=UG (.cells #[x.NS,x.PS,.map (UG mm),.int .i32 0,.int .u32 0] 161)
 dI:∃es ck,w.heap[mm]?=UG (.map es ck)/\jD (dm x) es
 box:w.heap[bx]?=UG (.cells #[x.NS,x.PS] 25)
 ord:w0.heap.size<=bx/\bx<mm/\mm<mu
 file:cr bad w0 x
 ba:cV bad w0 bad w
theorem eN.O9(a:eN bad w0 mu mm x.NS x.PS w)(c:cr bad w0 x):eJ bad w0 w mu mm w0.heap.size x:=⟨a.port,⟨#[],0,a.dI,λe b=>by simp at b⟩,a.box,⟨Sm _,a.lt,a.iW⟩,c,a.ba⟩
theorem eJ.lt(h:eJ bad w0 w mu mm bx x):mu<w.heap.size:=(So.1 h.port).1
theorem eJ.rn(h:eJ bad w0 w mu mm bx x)(b:w0.heap.size<=k)(a:k<w.heap.size):gk bad No w k:=⟨a,λl hl=>⟨λy=>by have:=(h.file.low l k y hl).2;omega,λy=>y⟩⟩
theorem eJ.kept(h:eJ bad w0 w mu mm bx x)(a:Kept bad No w w'):eJ bad w0 w' mu mm bx x:=by obtain⟨g,o2,o3⟩:=h.ord;have b:=h.lt;obtain⟨d,c,f,e⟩:=h.dI;exact⟨(a.keep mu (h.rn Ω b)).trans h.port,⟨d,c,(a.keep mm (h.rn Ω Ω)).trans f,e⟩,(a.keep bx (h.rn g Ω)).trans h.box,h.ord,h.file,h.ba.trans a.ba⟩
theorem eJ.grown(h:eJ bad w0 w mu mm bx x)(a:Grown w w' o):eJ bad w0 w' mu mm bx x:=h.kept ⟨λk b=>a.keep k b.1,by rw[a.size];omega,a.os,a.out,a.tape,a.keep⟩
theorem eJ.stored(h:eJ bad w0 w mu mm bx x)(a:oz w w' b o)(i:mu<b):eJ bad w0 w' mu mm bx x:=by obtain⟨j,o2,o3⟩:=h.ord;obtain⟨e,d,g,f⟩:=h.dI;refine⟨(a.keep mu Ω).trans h.port,⟨e,d,(a.keep mm Ω).trans g,f⟩,(a.keep bx Ω).trans h.box,h.ord,h.file,⟨λk c=>(a.keep k ?_).trans (h.ba.keep k c),by rw[a.size];grind,λ_ y=>.inl y,by rw[a.os];exact h.ba.os,a.out.trans h.ba.out,a.tape.trans h.ba.tape⟩⟩;have:=c.1;omega
theorem eJ.solo(h:eJ bad w0 w mu mm bx x):nF (dm x) bad w mu mm bx x.NS x.PS []:=by obtain⟨e,o2,o3⟩:=h.ord;have c:=h.file.iT;have d:=qt;refine⟨h.port,h.dI,h.box,⟨by omega,o2,o3,λl hl y=>by have:=(h.file.low l 1 y hl).1;omega⟩,λl b y hl=>Sn (h.file.low l b y hl).2 h.ba.grow,λl b y hl=>?_,TX,λp a=>by cases a⟩;have:=(h.file.low l b y hl).2;omega
theorem eJ.LJ(h:eJ bad w0 w mu mm bx x)(halt:(Nat->Prop)->UP->UL->Prop):iK (Hz (dm x) bad w mu mm bx x.NS x.PS 161 [] halt) (OF bad w mu mm bx []) w0 x:=by obtain⟨m,o2,o3⟩:=h.ord;have d:=h.lt;refine h.solo.file h.file.at_ h.file.sm (λk a=>h.ba.keep k (h.file.blk k a)) (λk a=>?_) (by have:=h.file.iT;omega) (λp f=>by cases f) (λl b y hl=>(h.file.low l b y hl).1);have g:=(h.file.blk k a).1;have i:=h.file.nz k a;have j:=qt;exact⟨⟨by omega,by omega,by omega,λl hl c=>((h.file.blk k a).2 l c).1 hl⟩,by omega,by omega,λe=>by cases e⟩
theorem Ek(h:eJ bad w0 w mu mm bx x){p:aC}(f:x.ps[k]?=UG p){s:ByteArray}(u:s.size<=6){caller:U0}{cs:List U0}(K:∀w',eJ bad w0 w' mu mm bx x->(∀k,k<w.heap.size->k≠mu->k≠mm->w'.heap[k]?=w.heap[k]?)->w.heap.size<=w'.heap.size->aL Pz Post bad No (G (caller.finish (fv (dm x (k:Nat) s))) cs) w'):aL Pz Post bad N (G (fr 75 (#[ϖ mu,sk (k:Nat) s]++Array.replicate (f75.ntmps-2) UT) [.code (f75.body.getD .skip)]) (caller::cs)) w:=by obtain⟨A,o2,o3⟩:=h.ord;have t:=h.lt;have a:=h.solo;refine aL.solo (C:=Hz (dm x) bad w mu mm bx x.NS x.PS 161 [] λ_ g _=>g=G (caller.finish (fv (dm x (k:Nat) s))) cs) (own:=λk=>k∈([]:List (Nat×Vu)).map Prod.fst) a.alone rfl ?_ ?_;{exact BT wv a.wc (.inr trivial) (h.LJ _) f u _ w [] caller cs (a.hp) λe B _ hH=>ag.stop trivial rfl λD z=>rfl};intro m e q w' hS l;have l:q=_:=l;subst l;have d:∀k,k<w.heap.size->k≠mu->k≠mm->w'.heap[k]?=w.heap[k]?:=λk i j r=>hS.keep k i Θ j r;refine K w' ⟨?_,?_,(d bx Ω Ω Ω).trans h.box,h.ord,h.file,⟨λk f=>?_,Sx h.ba.grow hS.grow,λ_ y=>.inl y,h.ba.os.trans hS.os,hS.out.trans h.ba.out,hS.tape.trans h.ba.tape⟩⟩ d hS.grow;{exact hS.word};{obtain⟨o,⟨n,i⟩,j⟩:=hS.dI rfl;exact⟨o,n,i,j⟩};have:=f.1;have:=h.ba.grow;exact(d k Ω Ω Ω).trans (h.ba.keep k f)
end
end Go.Bh
namespace Go.Bh
open Go.Proofs Go.Conc Go.Mx Go.Rk Go.Cr Go.Pw Go.Lw Go.Me Go.ae
variable{P:U9}{Post:UO->UL->Prop}{bad:Loc->Prop}{w:UL}{f:Va}{t:Array UO}{kk:List Vj}{cs:List U0}{ops:Array Oper}{rest:List Nat}{M:Nat}{ds:List Vo}{ro:Option Nat}
section
variable{N:Loc->Prop}{w':UL}
theorem vZ{xx:Nat}{Lt:List (Nat×UO)}{ty n:U8}{y z:Operand}{b:Nat}{c1 p:Array UO}{e:U8}(l:w.heap[b]?=UG (.cells c1 e))(hS:Sl M Lt t)(O:ops[xx]?=UG (opn ops xx))(S:Region.wanted (opn ops xx) (U7 ops (tm M Lt t))=UJ)(J:(opn ops xx).dst=UM)(d:(opn ops xx).op=.store ty y z)(T:(⟨t,[]⟩:Act).eval y=ϖ b)(U:(⟨t,[]⟩:Act).eval z=.agg p)(Q:p.size=n)(F:∀u∈p,u.oneCell'=UJ)(R:c1.size=n)(L:∀w,(Go.sizeOf ty).run P w=.ok n w)(g:∀w es,(Go.sizeOf ty).events P w es=es)(I:∀k,¬bad (.cell ⟨b,k,UM⟩))(c:∀k,¬N (.cell ⟨b,k,UM⟩))(h:∀m,oz w m b (.cells p e)->aL P Post bad N (G (fx ds ro f t (.inRegion ops rest::kk)) cs) m):aL P Post bad N (G (fx ds ro f t (.inRegion ops (xx::rest)::kk)) cs) w:=by have j:b<w.heap.size:=(So.1 l).1;refine aL.step rfl λE=>?_;obtain⟨q,s,i,v,x,A,B,C,D⟩:=py (P:=P) (o:=opn ops xx) (ev:=(⟨t,[]⟩:Act).eval) (w:=w.at E) d T U Q F R L g l;refine⟨_,q,_,N,oQ (λk=>by simp_all) hS O S s,Tk i.symm,ey.refl _ _,λe K=>?_,?_⟩;{obtain⟨k,rfl⟩:=D e (cT K);exact jB (I k) (c k) (by grind)};unfold kD;rw[J];exact h q ⟨i,v,x,A,B,C⟩
theorem tK{c:dG}{r:bC}{l:Array UO}(h:∀u∈l,(∃k n,u=.int k n)\/(∃s,u=.string s)):ak c r l l:=⟨rfl,λi u d a b=>by rw[a]at b;cases b;exact ib (h u (S6 a))⟩
theorem QY(a:Int){n:Nat}(b:0<=a)(c:a<n)(d:n<=1000):decide (0<=a/\a<=U1.i64.wrap ((n:Int)-1))=UJ:=by rw[U1.wrap_i64];grind
end
section
structure Rv where
 t:Array UO
 bad:Loc->Prop
 w:UL
section
variable{x:Nat}
theorem va{id:Nat}(p:P.follows .mixedOrders=UJ)(g:E7 ops=UJ)(I:Array Bool->Rv->Prop)(q:∀listed a c rest,listed.size=ops.size->c<ops.size->listed.getD c Ul=Ul->(∀k,waits ops c k=UJ->listed.getD k Ul=UJ)->Closed ops listed->I listed a->(∀e,I (listed.setIfInBounds c UJ) e->aL P Post e.bad No (G (fx ds ro f e.t (.inRegion ops rest::kk)) cs) e.w)->aL P Post a.bad No (G (fx ds ro f a.t (.inRegion ops (c::rest)::kk)) cs) a.w)(m:∀listed a,(∀i,i<ops.size->listed.getD i Ul=UJ)->I listed a->aL P Post a.bad No (G (fx ds ro f a.t (.inRegion ops []::kk)) cs) a.w)(j:I (Array.replicate ops.size Ul) ⟨t,bad,w⟩):aL P Post bad No (G (fx ds ro f t (.code (.region id ops UJ)::kk)) cs) w:=by refine aL.step rfl λd=>⟨G (fx ds ro f t (.inRegion ops (Region.schedule (P.follows .mixedOrders) ops (w.tape d (.order f id)))::kk)) cs,w.at (d+1),#[],No,?_,Sm _,ey.refl _ _,λ_ o=>by simp at o,?_⟩;{cases ro<;>simp[G,UY,UY.exec,choose,Sem.run,Question.forced,Question.cut]<;>exact⟨rfl,rfl⟩};refine aL.at ?_ _;simp only[Region.schedule,p,T0,if_true,Region.linearise];refine y8 (A:=Rv) g I (λl a=>aL P Post a.bad No (G (fx ds ro f a.t (.inRegion ops l::kk)) cs) a.w) q m (a:=⟨t,bad,w⟩) Θ ?_ (λn k _ h=>?_) j;{unfold Np;exact Sx (List.length_filter_le _ _) Θ};simp only[Sr,SD]at h;split at h<;>simp at h
end
end
end Go.Bh
namespace Go.Bh
open Go.Proofs Go.Conc Go.Mx Go.Rk Go.Cr Go.Pw Go.Lw Go.Me Go.ae
open Go.ConcM(OsLater)
variable{b M n:Nat}{o:Vu}{cs:List U0}{f q:Va}{L L':List (Nat×UO)}{t:Array UO}{k k':List Vj}{O:List (Nat×Ob)}{ix:List Nat}{F caller:U0}{c:Code}{x:aQ}
section
variable{Post:UO->UL->Prop}{bad0 bad bad' N:Loc->Prop}{w0 w w':UL}{H:List (Nat×Vu)}
structure Mn(bad0:Loc->Prop)(w0:UL)(bad:Loc->Prop)(w:UL)(H:List (Nat×Vu)):Prop where
 ba:cV bad0 w0 bad w
 low:∀l b,bad l->dn b l->b<w.heap.size
 nd:(H.map Prod.fst).Nodup
 at_:∀p∈H,w0.heap.size<=p.1/\(∀l,dn p.1 l->¬bad l)/\w.heap[p.1]?=UG p.2
theorem Mn.lt(h:Mn bad0 w0 bad w H){p:Nat×Vu}(a:p∈H):p.1<w.heap.size:=(So.1 (h.at_ p a).2.2).1
theorem Mn.begin(h:∀l b,bad l->dn b l->b<w.heap.size):Mn bad w bad w []:=⟨cV.refl _ _,h,.nil,λp a=>by cases a⟩
theorem Mn.call(h:Mn bad0 w0 bad w H)(g:cV bad w bad' w'):Mn bad0 w0 bad' w' H:=
 have c:=λp a=>⟨h.lt a,λl hl=>⟨(h.at_ p a).2.1 l hl,λy=>y⟩⟩
 ⟨h.ba.trans g,λl b hl d=>by
   rcases g.bad l hl with y|⟨f,e,i,j⟩
   ·exact Sn (h.low l b y d) g.grow
   ·rwa[fX d e],h.nd,λp a=>⟨(h.at_ p a).1,λl hl=>((g.rn (c p a)).2 l hl).1,(g.keep _ (c p a)).trans (h.at_ p a).2.2⟩⟩
def ta(bad:Loc->Prop)(w:UL)(H:List (Nat×Vu)):Prop:=∀p∈H,gk bad No w p.1/\w.heap[p.1]?=UG p.2
theorem RV(h:gk bad No w b)(g:w.heap[b]?=UG o):ta bad w [(b,o)]:=λp a=>by obtain rfl:=Ty.1 a;exact⟨h,g⟩
theorem Mn.kn(h:Mn bad0 w0 bad w H):ta bad w H:=λp a=>⟨⟨h.lt a,λl hl=>⟨(h.at_ p a).2.1 l hl,λy=>y⟩⟩,(h.at_ p a).2.2⟩
theorem A0{B:Nat}{e:Event}(i:xm b e)(f:∀l,dn b l->¬bad l)(g:b<B):EvB bad No B e:=by obtain⟨d,k,m⟩:=e;obtain⟨c,rfl⟩:=i;cases d with|cell a=>exact⟨evL_cell a k (f _ c) (by rw[c];exact g),λy=>y⟩|obj r=>obtain rfl:=c;refine⟨⟨λx h j=>?_,by simp,by simp,by simpa[Ve.ofEvent,Ve.low,Loc.low]using g⟩,by simp[tu,Ve.ofEvent]⟩;simp only[Ve.ofEvent,Ve.touch?,SJ]at h;subst h;exact absurd j (f _ rfl)|_=>cases c
theorem CG:Carry Pz Ul UJ cs (λ_ g w=>aL Pz Post bad No g w) (λ_ w H=>Mn bad0 w0 bad w H) True where
 ctl _ _ _ _ j h:=aL.ctl rfl j h
 mem _ w H k b o K F z hK r _ j h:=by
  have n:(b,o)∈H:=Ss r
  obtain⟨t,u,v⟩:=hK.at_ _ n
  have s:=hK.lt n
  refine aL.step rfl λd=>?_
  obtain⟨B,C,D⟩:=j (w.at d) v
  refine⟨_,(iH w b K).at d,B,No,C,by simp[iH,UL.at],ey.refl _ _,λe q=>A0 (D e q) u (by simpa[iH,UL.at]using s),aL.at (h _ ⟨⟨λc m=>(oJ λe=>by have:=m.1;simp only at t;omega).trans (hK.ba.keep c m),by simpa[iH]using hK.ba.grow,λl hl=>?_,hK.ba.os,hK.ba.out,hK.ba.tape⟩,λl c hl m=>by simpa[iH]using hK.low l c hl m,by rw[xX r];exact hK.nd,λp f=>?_⟩) d⟩
  ·simpa[iH]using hK.ba.bad l hl
  · rcases mem_set hK.nd r p f with rfl|⟨x,y⟩
    ·exact⟨t,u,ph v⟩
    ·exact⟨(hK.at_ p x).1,(hK.at_ p x).2.1,(oJ y).trans (hK.at_ p x).2.2⟩
 new _ _ w H o F z hK j h:=by
  refine aL.step rfl λd=>⟨_,(w.alloc o).at d,#[],No,j (w.at d),by simp[UL.at],ey.refl _ _,λe q=>by simp at q,aL.at (h (λ_=>True) w.heap.size _ ?_) d⟩
  have g:=Grown.alloc w o
  refine⟨hK.ba.trans g.ba,λl b hl E=>by rw[g.size];exact Nat.lt_succ_of_lt (hK.low l b hl E),?_,λp f=>?_⟩
  · simp only[SH,Tt]
    refine⟨λn=>?_,hK.nd⟩
    obtain⟨p,f,e⟩:=Sw.1 n
    have:=hK.lt f
    omega
  · rcases Sv.1 f with rfl|f
    ·exact⟨hK.ba.grow,λl hl y=>by have:=hK.low l _ y hl;simp at this,g.new⟩
    ·exact⟨(hK.at_ p f).1,(hK.at_ p f).2.1,(g.keep _ (hK.lt f)).trans (hK.at_ p f).2.2⟩
theorem iU(F:U0)(u:UO):(F.finish u).mode=F.mode/\(F.finish u).kind=F.kind:=by unfold U0.finish;split<;>exact⟨rfl,rfl⟩
section
variable{ds:List Vo}{ro:Option Nat}{u:UO}
theorem xP{r:Nat}{L':List Nat->List (Nat×UO)}{H':List Nat->List (Nat×Vu)}(q:F.mode=.run)(p:F.kind≠.early)(hK:Mn bad0 w0 bad w H)(e:∀bs:List Nat,bs.length=r->dq Ul O n ix bs F (fx ds ro f #[] k') M (L' bs) H (H' bs))(h:∀bs:List Nat,bs.length=r->∀t w,Sl M (L' bs) t->Mn bad0 w0 bad w (H' bs)->aL Pz Post bad No (G (fx ds ro f t k') cs) w):aL Pz Post bad No (G F cs) w:=(CG).run (oh O) n ix r (λ_=>trivial) (λ_=>True) w F H q p hK λbs c=>by obtain⟨x,d,g,i,s,j,l,m⟩:=(e bs c).end;exact⟨x,d,g,i,λ_ w b=>by rw[j];exact h bs c s w l (m▸b)⟩
theorem sg:Carry Pz UJ UJ cs (λ_ g w=>aL Pz Post bad No g w) (λ_ w' H'=>w'=w/\H'=H/\ta bad w H) False where
 ctl _ _ _ _ m h:=aL.ctl rfl m h
 mem _ w' H' k b o r F C hK j z m h:=by
  obtain⟨rfl,rfl,hK⟩:=hK
  obtain rfl:=z rfl
  obtain⟨n,p⟩:=hK _ (Ss j)
  refine aL.step rfl λd=>?_
  obtain⟨v,q,x⟩:=m (w'.at d) p
  have e:H'.set k (b,r)=H':=by
   apply TN
   intro i
   rw[List.getElem?_set]
   split
   ·rename_i e;subst e;rw[if_pos (SG.1 j).1,j]
   ·rfl
  rw[ng (show(w'.at d).heap[b]?=UG r from p)]at q
  exact⟨_,w'.at d,v,No,q,Sm _,ey.refl _ _,λe y=>A0 (x e y) (λl hl=>(n.2 l hl).1) n.1,aL.at (h w' ⟨rfl,e,hK⟩) d⟩
 new h:=h.elim
theorem Rm(p:F.mode=.run)(o:F.kind≠.early)(hK:ta bad w H)(e:dq UJ O n ix [] F (fx ds ro f #[] k') M L' H H)(h:∀t,Sl M L' t->aL Pz Post bad No (G (fx ds ro f t k') cs) w):aL Pz Post bad No (G F cs) w:=(sg).run (oh O) n ix 0 (λh=>absurd rfl h) (λ_=>True) w F H p o ⟨rfl,rfl,hK⟩ λr m=>by obtain rfl:=S9.1 m;obtain⟨x,c,d,g,q,i,j,_⟩:=e.end;exact⟨x,c,d,g,λ_ w' b=>by rw[i,b.1];exact h q j⟩
theorem eR(H:List (Nat×Vu))(ix:List Nat)(k':List Vj)(L':List (Nat×UO))(hK:ta bad w H)(h:∀t,Sl M L' t->aL Pz Post bad No (G (fx ds ro f t k') cs) w)(n:Nat:=300)(O:List (Nat×Ob):=[])(hS:Sl M L t:=by exact hS)(e:dq UJ O n ix [] ((fx ds ro f (tm M L t) k).finish u) (fx ds ro f #[] k') M L' H H:=by delta dq;kernel_rfl):aL Pz Post bad No (G ((fx ds ro f t k).finish u) cs) w:=by rw[hS.tm];exact Rm (iU _ _).1 (by rw[(iU _ _).2];simp) hK e h
theorem AY:Carry Pz Ul UJ cs (λ_ g w=>aL Pz Post bad N g w) (λ_ w' H=>w'=w/\H=[]) False where
 ctl _ _ _ _ i h:=aL.ctl rfl i h
 mem _ w H k b o n F m hK c:=by rw[hK.2]at c;cases c
 new h:=h.elim
theorem P8(o:F.mode=.run)(m:F.kind≠.early)(e:dq Ul O n [] [] F (fx ds ro f #[] k') M L' [] [])(h:∀t,Sl M L' t->aL Pz Post bad N (G (fx ds ro f t k') cs) w):aL Pz Post bad N (G F cs) w:=(AY).run (oh O) n [] 0 (λh=>absurd rfl h) (λ_=>True) w F [] o m ⟨rfl,rfl⟩ λq l=>by obtain rfl:=S9.1 l;obtain⟨x,c,d,g,p,i,j,_⟩:=e.end;exact⟨x,c,d,g,λ_ w' b=>by rw[i,b.1];exact h p j⟩
theorem dQ(k':List Vj)(L':List (Nat×UO))(h:∀t,Sl M L' t->aL Pz Post bad N (G (fx ds ro f t k') cs) w)(n:Nat:=300)(O:List (Nat×Ob):=[])(hS:Sl M L t:=by exact hS)(e:dq Ul O n [] [] (fx ds ro f (tm M L t) k) (fx ds ro f #[] k') M L' [] []:=by delta dq;kernel_rfl):aL Pz Post bad N (G (fx ds ro f t k) cs) w:=by rw[hS.tm];exact P8 rfl Θ e h
theorem eQ(k':List Vj)(L':List (Nat×UO))(h:∀t,Sl M L' t->aL Pz Post bad N (G (fx ds ro f t k') cs) w)(n:Nat:=300)(O:List (Nat×Ob):=[])(hS:Sl M L t:=by exact hS)(e:dq Ul O n [] [] ((fx ds ro f (tm M L t) k).finish u) (fx ds ro f #[] k') M L' [] []:=by delta dq;kernel_rfl):aL Pz Post bad N (G ((fx ds ro f t k).finish u) cs) w:=by rw[hS.tm];exact P8 (iU _ _).1 (by rw[(iU _ _).2];simp) e h
theorem d0(ix:List Nat)(st:List (Nat×(Vu->Vu)))(k':List Vj)(L':List (Nat×UO))(h:∀t w,Sl M L' t->Mn bad0 w0 bad w (dL st H)->aL Pz Post bad No (G (fx ds ro f t k') cs) w)(n:Nat:=300)(O:List (Nat×Ob):=[])(hS:Sl M L t:=by exact hS)(hK:Mn bad0 w0 bad w H:=by exact hK)(e:dq Ul O n ix [] (fx ds ro f (tm M L t) k) (fx ds ro f #[] k') M L' H (dL st H):=by delta dq;kernel_rfl):aL Pz Post bad No (G (fx ds ro f t k) cs) w:=by rw[hS.tm];exact xP (r:=0) (L':=λbs=>L') (H':=λbs=>dL st H) rfl Θ hK (λbs hb=>by match bs,hb with|[],_=>exact e) λbs hb=>by match bs,hb with|[],_=>exact h
theorem e0(ix:List Nat)(st:List (Nat×(Vu->Vu)))(k':List Vj)(L':List (Nat×UO))(h:∀t w,Sl M L' t->Mn bad0 w0 bad w (dL st H)->aL Pz Post bad No (G (fx ds ro f t k') cs) w)(n:Nat:=300)(O:List (Nat×Ob):=[])(hS:Sl M L t:=by exact hS)(hK:Mn bad0 w0 bad w H:=by exact hK)(e:dq Ul O n ix [] ((fx ds ro f (tm M L t) k).finish u) (fx ds ro f #[] k') M L' H (dL st H):=by delta dq;kernel_rfl):aL Pz Post bad No (G ((fx ds ro f t k).finish u) cs) w:=by rw[hS.tm];exact xP (r:=0) (L':=λbs=>L') (H':=λbs=>dL st H) (iU _ _).1 (by rw[(iU _ _).2];simp) hK (λbs hb=>by match bs,hb with|[],_=>exact e) λbs hb=>by match bs,hb with|[],_=>exact h
theorem d1(ix:List Nat)(os:Nat->List Vu)(st:List (Nat×(Vu->Vu)))(k':List Vj)(L':Nat->List (Nat×UO))(h:∀b,∀t w,Sl M (L' b) t->Mn bad0 w0 bad w (dL st (mB [b] (os b) H))->aL Pz Post bad No (G (fx ds ro f t k') cs) w)(n:Nat:=300)(O:List (Nat×Ob):=[])(hS:Sl M L t:=by exact hS)(hK:Mn bad0 w0 bad w H:=by exact hK)(e:∀b,dq Ul O n ix [b] (fx ds ro f (tm M L t) k) (fx ds ro f #[] k') M (L' b) H (dL st (mB [b] (os b) H)):=by intro b;delta dq;kernel_rfl):aL Pz Post bad No (G (fx ds ro f t k) cs) w:=by rw[hS.tm];exact xP (r:=1) (L':=λbs=>(L' (bs.getD 0 0))) (H':=λbs=>dL st (mB bs (os (bs.getD 0 0)) H)) rfl Θ hK (λbs hb=>by match bs,hb with|[b],_=>exact e b) λbs hb=>by match bs,hb with|[b],_=>exact h b
theorem e1(ix:List Nat)(os:Nat->List Vu)(st:List (Nat×(Vu->Vu)))(k':List Vj)(L':Nat->List (Nat×UO))(h:∀b,∀t w,Sl M (L' b) t->Mn bad0 w0 bad w (dL st (mB [b] (os b) H))->aL Pz Post bad No (G (fx ds ro f t k') cs) w)(n:Nat:=300)(O:List (Nat×Ob):=[])(hS:Sl M L t:=by exact hS)(hK:Mn bad0 w0 bad w H:=by exact hK)(e:∀b,dq Ul O n ix [b] ((fx ds ro f (tm M L t) k).finish u) (fx ds ro f #[] k') M (L' b) H (dL st (mB [b] (os b) H)):=by intro b;delta dq;kernel_rfl):aL Pz Post bad No (G ((fx ds ro f t k).finish u) cs) w:=by rw[hS.tm];exact xP (r:=1) (L':=λbs=>(L' (bs.getD 0 0))) (H':=λbs=>dL st (mB bs (os (bs.getD 0 0)) H)) (iU _ _).1 (by rw[(iU _ _).2];simp) hK (λbs hb=>by match bs,hb with|[b],_=>exact e b) λbs hb=>by match bs,hb with|[b],_=>exact h b
theorem d2(ix:List Nat)(os:Nat->Nat->List Vu)(st:List (Nat×(Vu->Vu)))(k':List Vj)(L':Nat->Nat->List (Nat×UO))(h:∀b c,∀t w,Sl M (L' b c) t->Mn bad0 w0 bad w (dL st (mB [b,c] (os b c) H))->aL Pz Post bad No (G (fx ds ro f t k') cs) w)(n:Nat:=300)(O:List (Nat×Ob):=[])(hS:Sl M L t:=by exact hS)(hK:Mn bad0 w0 bad w H:=by exact hK)(e:∀b c,dq Ul O n ix [b,c] (fx ds ro f (tm M L t) k) (fx ds ro f #[] k') M (L' b c) H (dL st (mB [b,c] (os b c) H)):=by intro b c;delta dq;kernel_rfl):aL Pz Post bad No (G (fx ds ro f t k) cs) w:=by rw[hS.tm];exact xP (r:=2) (L':=λbs=>(L' (bs.getD 0 0) (bs.getD 1 0))) (H':=λbs=>dL st (mB bs (os (bs.getD 0 0) (bs.getD 1 0)) H)) rfl Θ hK (λbs hb=>by match bs,hb with|[b,c],_=>exact e b c) λbs hb=>by match bs,hb with|[b,c],_=>exact h b c
theorem e2(ix:List Nat)(os:Nat->Nat->List Vu)(st:List (Nat×(Vu->Vu)))(k':List Vj)(L':Nat->Nat->List (Nat×UO))(h:∀b c,∀t w,Sl M (L' b c) t->Mn bad0 w0 bad w (dL st (mB [b,c] (os b c) H))->aL Pz Post bad No (G (fx ds ro f t k') cs) w)(n:Nat:=300)(O:List (Nat×Ob):=[])(hS:Sl M L t:=by exact hS)(hK:Mn bad0 w0 bad w H:=by exact hK)(e:∀b c,dq Ul O n ix [b,c] ((fx ds ro f (tm M L t) k).finish u) (fx ds ro f #[] k') M (L' b c) H (dL st (mB [b,c] (os b c) H)):=by intro b c;delta dq;kernel_rfl):aL Pz Post bad No (G ((fx ds ro f t k).finish u) cs) w:=by rw[hS.tm];exact xP (r:=2) (L':=λbs=>(L' (bs.getD 0 0) (bs.getD 1 0))) (H':=λbs=>dL st (mB bs (os (bs.getD 0 0) (bs.getD 1 0)) H)) (iU _ _).1 (by rw[(iU _ _).2];simp) hK (λbs hb=>by match bs,hb with|[b,c],_=>exact e b c) λbs hb=>by match bs,hb with|[b,c],_=>exact h b c
theorem d3(ix:List Nat)(os:Nat->Nat->Nat->List Vu)(st:List (Nat×(Vu->Vu)))(k':List Vj)(L':Nat->Nat->Nat->List (Nat×UO))(h:∀b c d,∀t w,Sl M (L' b c d) t->Mn bad0 w0 bad w (dL st (mB [b,c,d] (os b c d) H))->aL Pz Post bad No (G (fx ds ro f t k') cs) w)(n:Nat:=300)(O:List (Nat×Ob):=[])(hS:Sl M L t:=by exact hS)(hK:Mn bad0 w0 bad w H:=by exact hK)(e:∀b c d,dq Ul O n ix [b,c,d] (fx ds ro f (tm M L t) k) (fx ds ro f #[] k') M (L' b c d) H (dL st (mB [b,c,d] (os b c d) H)):=by intro b c d;delta dq;kernel_rfl):aL Pz Post bad No (G (fx ds ro f t k) cs) w:=by rw[hS.tm];exact xP (r:=3) (L':=λbs=>(L' (bs.getD 0 0) (bs.getD 1 0) (bs.getD 2 0))) (H':=λbs=>dL st (mB bs (os (bs.getD 0 0) (bs.getD 1 0) (bs.getD 2 0)) H)) rfl Θ hK (λbs hb=>by match bs,hb with|[b,c,d],_=>exact e b c d) λbs hb=>by match bs,hb with|[b,c,d],_=>exact h b c d
theorem e3(ix:List Nat)(os:Nat->Nat->Nat->List Vu)(st:List (Nat×(Vu->Vu)))(k':List Vj)(L':Nat->Nat->Nat->List (Nat×UO))(h:∀b c d,∀t w,Sl M (L' b c d) t->Mn bad0 w0 bad w (dL st (mB [b,c,d] (os b c d) H))->aL Pz Post bad No (G (fx ds ro f t k') cs) w)(n:Nat:=300)(O:List (Nat×Ob):=[])(hS:Sl M L t:=by exact hS)(hK:Mn bad0 w0 bad w H:=by exact hK)(e:∀b c d,dq Ul O n ix [b,c,d] ((fx ds ro f (tm M L t) k).finish u) (fx ds ro f #[] k') M (L' b c d) H (dL st (mB [b,c,d] (os b c d) H)):=by intro b c d;delta dq;kernel_rfl):aL Pz Post bad No (G ((fx ds ro f t k).finish u) cs) w:=by rw[hS.tm];exact xP (r:=3) (L':=λbs=>(L' (bs.getD 0 0) (bs.getD 1 0) (bs.getD 2 0))) (H':=λbs=>dL st (mB bs (os (bs.getD 0 0) (bs.getD 1 0) (bs.getD 2 0)) H)) (iU _ _).1 (by rw[(iU _ _).2];simp) hK (λbs hb=>by match bs,hb with|[b,c,d],_=>exact e b c d) λbs hb=>by match bs,hb with|[b,c,d],_=>exact h b c d
variable{ops:Array Oper}{y:Nat}{rest:List Nat}{kk:List Vj}
noncomputable def QH(ops:Array Oper)(y:Nat)(t:Array UO):Option (Bool×Option Tmp×UO×Option Bool):=(ops[y]?).bind λo=>match o.op with
 |.load ty z=>UG (Region.wanted o (U7 ops t),o.dst,(⟨t,[]⟩:Act).eval z,eG Pz (isAgg ty))
 |_=>UM
theorem R1(d:Nat)(u:UO){ad:Vs}(hc:w.cell? ad=UG u)(hf:gk bad No w ad.block)(h:Sl M ((d,u)::L) (t.setIfInBounds d u)->aL Pz Post bad No (G (fx ds ro f (t.setIfInBounds d u) (.inRegion ops rest::kk)) cs) w)(hS:Sl M L t:=by exact hS)(e:(QH ops y (tm M L t),decide (d<M),L.all λp=>!(p.1==d))=(UG (UJ,UG d,.pointer (UG ad),UG Ul),UJ,UJ):=by kernel_rfl):aL Pz Post bad No (G (fx ds ro f t (.inRegion ops (y::rest)::kk)) cs) w:=by obtain⟨e1,e⟩:=S4 e;obtain⟨e2,e3⟩:=S4 e;rw[<-hS.tm]at e1;obtain⟨o,ho,e1⟩:=SU.1 e1;split at e1;{rename_i ty z hop;simp only[SJ,Tb]at e1;obtain⟨hw,hd,hx,ha⟩:=e1;refine fi hS ho (by rw[<-hS.tm];exact hw) hd (λk=>by rw[hop];simp) (Sm _) (ey.refl _ _) (λd'=>?_) (h (hS.pt (of_decide_eq_true e2) e3));obtain⟨h1,h2⟩:=js (P:=Pz) (w:=w.at d') (u:=u) (o:=o) (ev:=(⟨t,[]⟩:Act).eval) hop hx (λw=>(iq ha w).1) hc;refine⟨h1,λe he=>?_⟩;rw[h2]at he;(obtain rfl:e=_:=by simpa using he);exact jB (hf.2 (.cell ad) rfl).1 (λy=>y) hf.1};cases e1
noncomputable def wM(F:U0):Option (Va×Array UO×Bool×Option Code):=(A3 F).bind λx=>(Pz.funcs[x.1]?).map λfn=>(x.1,x.2++Array.replicate (fn.ntmps-x.2.size) UT,fn.name== "runtime.NumGoroutine",fn.body)
theorem dc{t2:Array UO}(hc:aL Pz Post bad N (G (fr q t2 [.code c]) (fx ds ro f t k::cs)) w)(hS:Sl M L t:=by exact hS)(e:wM (fx ds ro f (tm M L t) k)=UG (q,t2,Ul,UG c):=by kernel_rfl):aL Pz Post bad N (G (fx ds ro f t k) cs) w:=by rw[<-hS.tm]at e;obtain⟨⟨q',args⟩,h1,h2⟩:=SU.1 e;obtain⟨fn,hf,h2⟩:=St.1 h2;simp only[Tb]at h2;obtain⟨rfl,rfl,hn,hb⟩:=h2;exact aL.ctl (g:=G (fx ds ro f t k) cs) rfl (λw=>uM h1 rfl Θ hf hn hb) hc
noncomputable def OI(F:U0):Array UO:=match wM F with|some x=>x.2.1|none=>#[]
theorem dt(hc:aL Pz Post bad N (G (fr q (OI (fx ds ro f (tm M L t) k)) [.code c]) (fx ds ro f t k::cs)) w)(hS:Sl M L t:=by exact hS)(e:wM (fx ds ro f (tm M L t) k)=UG (q,OI (fx ds ro f (tm M L t) k),Ul,UG c):=by kernel_rfl):aL Pz Post bad N (G (fx ds ro f t k) cs) w:=dc hc hS e
theorem AP(u:UO)(h:aL Pz Post bad N (G (caller.finish u) cs) w)(hS:Sl M L t:=by exact hS)(e:vw k=UJ:=by rfl)(e2:((Pz.funcs[f]?).bind λfn=>eG Pz (results fn (tm M L t)))=UG u:=by kernel_rfl):aL Pz Post bad N (G (fx [] UM f t k) (caller::cs)) w:=by rw[<-hS.tm]at e2;obtain⟨fn,hf,e2⟩:=SU.1 e2;refine aL.ctl (g':=G (zQ [] UM f t k) (caller::cs)) rfl (λw=>?_) (jm hf (λw=>(iq e2 w).1) (λw=>(iq e2 w).2) h);unfold vw at e;split at e;{simp[G,UY,UY.exec]};{simp[G,UY,UY.exec]};cases e
end
theorem Lc(j:Nat)(u:UO)(hK:ta bad w H)(h:aL Pz Post bad No (G (caller.finish u) cs) w)(hj:H[j]?=UG (b,o):=by rfl)(hS:Sl M L t:=by exact hS)(e:vw k=UJ:=by rfl)(e2:leaves o f (tm M L t)=UG (u,o,((leaves o f (tm M L t)).map λr=>r.2.2.map λ_=>b).getD []):=by kernel_rfl):aL Pz Post bad No (G (fx [] UM f t k) (caller::cs)) w:=by rw[<-hS.tm]at e2;(have hall:∀q,leaves o f t=UG (u,o,q)->q=q.map (λ_=>b):=λq hq=>by rw[hq]at e2;simpa using e2);generalize hq:((leaves o f t).map λr=>r.2.2.map λ_=>b).getD []=q at e2;have h1:=hall q e2;obtain⟨fn,hf,e2⟩:=SU.1 e2;(have hb:∀r∈q,r=b:=λr hr=>by rw[h1]at hr;obtain⟨_,_,rfl⟩:=Sw.1 hr;rfl);obtain⟨k1,k2⟩:=hK _ (Ss hj);refine aL.ctl (g':=G (zQ [] UM f t k) (caller::cs)) rfl (λw=>?_) (aL.step rfl λd=>?_);{unfold vw at e;split at e;{simp[G,UY,UY.exec]};{simp[G,UY,UY.exec]};cases e};have k3:(w.at d).heap[b]?=UG o:=k2;obtain⟨h2,h3⟩:=rH e2 hb k3;rw[ng k3]at h2;refine⟨_,w.at d,_,No,ae.aO hf h2,Sm _,ey.refl _ _,λy hy=>?_,h.at d⟩;obtain⟨es',h4,h5⟩:=h3 #[];exact A0 (h5 y (by have:=cT hy;rw[h4]at this;simpa using this)) (λl hl=>(k1.2 l hl).1) k1.1
theorem Mn.get(h:Mn bad0 w0 bad w H){k:Nat}(a:H[k]?=UG (b,o)):w0.heap.size<=b/\gk bad No w b/\w.heap[b]?=UG o:=⟨(h.at_ _ (Ss a)).1,h.kn _ (Ss a)⟩
theorem _root_.Go.Bh.cr.lt(h:cr bad w x):∀l b,bad l->dn b l->b<w.heap.size:=λl b hl a=>(h.low l b hl a).2
theorem Mn.boxed{k:Nat}(a:Mn bad0 w0 bad w H)(e:cr bad0 w0 x)(f:H[k]?=UG (b,.cells #[x.NS,x.PS] 25)):ga bad No w b x:=
 have c:=a.ba.file e
 have d:=Ss f
 ⟨c.at_,c.blk,(a.kn _ d).1,Sx (SF e.iT) (a.at_ _ d).1,(a.kn _ d).2,λl b hl=>c.lt l b (hl.resolve_right id)⟩
def cJ:UO->Bool
 |.int ..|.string _=>UJ
 |_=>Ul
theorem Pq(q:Va)(args:Array UO)(u:UO)(d:cr bad w x)(H:∀w,Calls Pz q args w λe _=>e=.returned u)(K:∀w',Kept bad No w w'->aL Pz Post bad No (G (caller.finish u) cs) w')(c:Plain u:=by exact jC _)(f:args.all cJ=UJ:=by kernel_rfl)(e:(bS q,Pz.funcs[q]?,(EA q).body)=(UJ,UG (EA q),UG ((EA q).body.getD .skip)):=by kernel_rfl):aL Pz Post bad No (G (fr q (args++Array.replicate ((EA q).ntmps-args.size) UT) [.code ((EA q).body.getD .skip)]) (caller::cs)) w:=by obtain⟨e1,e⟩:=S4 e;obtain⟨e2,e3⟩:=S4 e;refine kU (eF _) (mV (SF d.iT)) e1 e2 e3 c (λi s h=>by cases h) (tK λu c=>?_) (λT=>H _) (λl b hl=>d.lt l b (hl.resolve_right id)) K;have:=TZ.1 f u c;cases u<;>simp[cJ]at this;{exact .inl ⟨_,_,rfl⟩};exact .inr ⟨_,rfl⟩
end
end Go.Bh
