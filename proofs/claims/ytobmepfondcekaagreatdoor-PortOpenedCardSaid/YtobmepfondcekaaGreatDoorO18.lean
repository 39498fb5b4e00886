/- A part of the proof of PortOpened. Conditions: none. -/
import Derived.Test.YtobmepfondcekaaGreatDoorO17
import Derived.Laws.AppendOwn
import Derived.Laws.OwnMore
set_option linter.all false
open Go.Proofs.Tryz renaming prog->Pz
open Go renaming Addr->Wq,Deferred->Wo,Frame->VU,FuncId->V8,Goroutine->VK,IntKind->VV,Item->Wg,MemAct->We,Obj->Ws,Program->V6,TypeId->VX,Value->VI,World->VH,stepG->VO,undef->VP
open Bool renaming false->Vo,true->VG
open Option renaming none->VJ,some->VF
open Go.Proofs.Tryz
namespace Go.Bh
open Go.Proofs Go.Conc Go.Mx Go.Rk Go.Cr Go.Pw Go.Lw Go.Me
open Go.ConcR(KK WgAt stA smA rd wr mk)
open Go.ConcM(OsLater)
variable{P:V6}{N:Loc->Prop}{f:V8}{t:Array VI}{kk:List Wg}{cs:List VU}{ops:Array Oper}{x d M:Nat}{rest:List Nat}{ds:List Wo}{ro:Option Nat}{ty:VX}
section
variable{Post:VI->VH->Prop}{bad:Loc->Prop}{w:VH}
noncomputable def gZ:Code:=f72.body.getD .skip
theorem R3:(f22.name== "runtime.NumGoroutine")=Vo:=Ψ
theorem gC{Lt:List (Nat×VI)}{y:Operand}{b:Nat}{a1 a2:VI}{e:VX}{fr:Nat×Nat}(hS:Sl M Lt t)(v:ops[x]?=VF (opn ops x))(z:Region.wanted (opn ops x) (yielded ops (tm M Lt t))=VG)(s:(opn ops x).dst=VF d)(i:(opn ops x).op=.load ty y)(A:(⟨t,[]⟩:Act).eval y=ϖ b)(r:∀w,(isAgg ty).run P w=.ok VG w)(u:∀w,(Go.sizeOf ty).run P w=.ok 2 w)(l:w.heap[b]?=VF (.cells #[a1,a2] e fr))(a:∀o,¬bad (.cell ⟨b,o,VJ⟩))(c:∀o,¬N (.cell ⟨b,o,VJ⟩))(h:aD P Post bad N (G (fx ds ro f (t.setIfInBounds d (.agg #[a1,a2])) (.inRegion ops rest::kk)) cs) w):aD P Post bad N (G (fx ds ro f t (.inRegion ops (x::rest)::kk)) cs) w:=by have g:=(Tk.1 l).1;refine ey hS v z s (λk=>by rw[i];simp) (Ti _) (dN.refl _ _) (λd=>?_) h;obtain⟨n,p⟩:=uL (P:=P) (w:=w.at d) (o:=opn ops x) (ev:=(⟨t,[]⟩:Act).eval) i A r u l;refine⟨n,λe m=>?_⟩;rw[p]at m;rcases(by simpa using m)with rfl|rfl;{exact jw (a 0) (c 0) g};exact jw (a 1) (c 1) g
theorem qx{N':Loc->Prop}{o:Oper}{Lt:List (Nat×VI)}(m:dN N N' w.heap.size)(hS:Sl M Lt t)(q:ops[x]?=VF o)(r:Region.wanted o (yielded ops (tm M Lt t))=VG)(p:o.dst=VF d)(a:o.op=.makeMap ty VJ)(h:∀l,Grown w l (.map #[] 0)->aD P Post bad N' (G (fx ds ro f (t.setIfInBounds d (.map (VF w.heap.size))) (.inRegion ops rest::kk)) cs) l):aD P Post bad N (G (fx ds ro f t (.inRegion ops (x::rest)::kk)) cs) w:=by refine ey (w':=w.alloc (.map #[] 0)) hS q r p (λk=>by rw[a];simp) Θ m (λd=>?_) (h _ (Grown.alloc _ _));(have i:(execOp (⟨t,[]⟩:Act).eval o).run P (w.at d)=.ok (.value (.map (VF (w.at d).heap.size))) ((w.at d).alloc (.map #[] 0))/\(execOp (⟨t,[]⟩:Act).eval o).events P (w.at d) #[]=#[]:=by constructor;all_goals unfold execOp;simp only[a];simp[go_sem,Instr.makeMap,newObj];rfl);exact⟨i.1,λe j=>by rw[i.2]at j;simp at j⟩
def oW(bad N:Loc->Prop)(w:VH)(f:V8)(fn:Func)(args:Array VI)(u:VI):Prop:=
 ∀(Post:VI->VH->Prop)(caller:VU)(cs:List VU),(∀w',Kept bad N w w'->aD Pz Post bad N (G (caller.finish u) cs) w')->aD Pz Post bad N (G (fr f (args++Array.replicate (fn.ntmps-args.size) VP) [.code (fn.body.getD .skip)]) (caller::cs)) w
structure eF(bad:Loc->Prop)(w:VH)(mu mm:Nat)(NS PS:VI)(w':VH):Prop where
 port:w'.heap[mu]?=VF (.cells #[NS,PS,.map (VF mm),.int .i32 0,.int .u32 0] 161)
 dC:w'.heap[mm]?=VF (.map #[] 0)
 lt:w.heap.size<mm
 box:w'.heap[w.heap.size]?=VF (.cells #[NS,PS] 25)
 iu:mm<mu
 size:w'.heap.size=mu+1
 keep:∀k,fW bad (λ_=>False) w k->w'.heap[k]?=w.heap[k]?
 os:w'.os=w.os
 out:w'.output=w.output
 tape:w'.tape=w.tape
def Hb(mu mm:Nat):Loc->Prop:=λl=>cH mm l\/∃a:Wq,l=.cell a/\a.block=mu/\3<=a.off
theorem KD{mu mm:Nat}(h:mm≠mu):E2 (Hb mu mm) mu mm:=by refine⟨λa d c=>.inr ⟨a,rfl,d,c⟩,λl hl=>.inl hl,λo g x=>?_,λl b hl f=>?_⟩;{rcases x with x|⟨a,e,d,c⟩;{exact h (Eq.symm x)};cases e;have c:3<=o:=c;omega};rcases hl with x|⟨a,rfl,d,c⟩;{exact .inr (fj f x)};exact .inl (by rw[<-d];exact(show a.block=b from f).symm)
theorem KN{NS PS:VI}{fl:Int}{caller:VU}(B:∀l b,bad l->cH b l->b<w.heap.size)(m:∀p,(∀k,fW bad (λ_=>False) w k->p.heap[k]?=w.heap[k]?)->w.heap.size<=p.heap.size->oW bad (λ_=>False) p 22 f22 #[.agg #[NS,PS]] (Iv fl))(K:∀mu mm w',eF bad w mu mm NS PS w'->aD Pz Post bad (Hb mu mm) (G (caller.finish (.tuple #[ϖ mu,Iv fl])) cs) w')(hS:Sl 13 [(0,.agg #[NS,PS])] t):aD Pz Post bad (λ_=>False) (G (fr 72 t [.code gZ]) (caller::cs)) w:=by change aD Pz Post bad _ (G (fx [] VJ 72 t (cA gZ 1)) (caller::cs)) w;refine eM 2 (rA gZ 2 [0,1,2]) [(0,.agg #[NS,PS])] hS λt hS=>?_;refine nQ (y:=.tmp 0) (z:=.agg #[NS,PS]) hS (d:=1) (ty:=25) Ψ Ψ Ψ Ψ (hS.gN 0 rfl) (λp g=>?_);replace hS:=hS.pt (d:=1) (v:=ϖ w.heap.size);replace g:Grown w p (.cells #[NS,PS] 25):=g;refine eM 5 (rA gZ 6 [0,1,2]) [(1,ϖ w.heap.size)] hS λt hS=>?_;(have A:∀o,¬bad (.cell ⟨w.heap.size,o,VJ⟩):=λo x=>by have:=B _ w.heap.size x rfl;omega);refine gC (ty:=25) (y:=.tmp 1) (a1:=NS) (a2:=PS) hS (d:=5) Ψ Ψ Ψ Ψ (hS.gN 1 rfl) isAgg25 sizeOf25 g.new A (λ_ x=>x) ?_;replace hS:=hS.pt (d:=5) (v:=.agg #[NS,PS]);refine eM 0 (rA gZ 6 [1,2]) [(1,ϖ w.heap.size),(5,.agg #[NS,PS])] hS λt hS=>?_;refine qa hS (vs:=#[.agg #[NS,PS]]) Ψ Ψ Ψ (ags:=#[.tmp 5]) Ψ (wB (hS.gN 5 rfl)) func22 R3 (show f22.body=VF (f22.body.getD .skip)by kernel_rfl) ?_;refine m p (λk s=>g.keep k s.1) (by rw[g.size];omega) _ _ _ (λn r=>?_);rw[bO (o:=opn (aT (sb gZ 6)) 1) Ψ];change aD Pz Post bad _ (G (fx [] VJ 72 (Array.setIfInBounds _ 6 (Iv fl)) _) _) n;replace hS:=hS.pt (d:=6) (v:=Iv fl);have E:fW bad (λ_=>False) p w.heap.size:=⟨by rw[g.size];omega,λl hl=>⟨λx=>by have:=B _ _ x hl;omega,λx=>x⟩⟩;have C:n.heap[w.heap.size]?=VF (.cells #[NS,PS] 25):=(r.keep _ E).trans g.new;refine eM 4 (rA gZ 14 [0,1,2,3,4,5,6,7]) [(1,ϖ w.heap.size),(4,Iv fl)] hS λt hS=>?_;refine gC (ty:=25) (y:=.tmp 1) (a1:=NS) (a2:=PS) hS (d:=7) Ψ Ψ Ψ Ψ (hS.gN 1 rfl) isAgg25 sizeOf25 C A (λ_ x=>x) ?_;replace hS:=hS.pt (d:=7) (v:=.agg #[NS,PS]);refine eM 1 (rA gZ 14 [2,3,4,5,6,7]) [(4,Iv fl),(8,.agg #[NS,PS])] hS λt hS=>?_;refine qx (ty:=152) (N':=cH n.heap.size) (λl hl=>.inr (by cases l<;>simp_all[cH])) hS (o:=opn (aT (sb gZ 14)) 2) (d:=9) Ψ Ψ Ψ Ψ (λq j=>?_);replace hS:=hS.pt (d:=9) (v:=.map (VF n.heap.size));refine eM 1 (rA gZ 14 [4,5,6,7]) [(4,Iv fl),(10,.agg #[NS,PS,.map (VF n.heap.size),.int .i32 0,.int .u32 0])] hS λt hS=>?_;refine xE (N':=λl=>cH n.heap.size l\/∃a:Wq,l=.cell a/\a.block=q.heap.size/\3<=a.off) (y:=.tmp 10) (z:=.agg #[NS,PS,.map (VF n.heap.size),.int .i32 0,.int .u32 0]) (λl hl=>hl.imp id λ⟨a,e,x,_⟩=>by subst e;exact Um x.symm) hS (o:=opn (aT (sb gZ 14)) 4) (d:=11) (ty:=161) Ψ Ψ Ψ Ψ (hS.gN 10 rfl) (λH h=>?_);replace hS:=hS.pt (d:=11) (v:=ϖ q.heap.size);replace h:Grown q H (.cells #[NS,PS,.map (VF n.heap.size),.int .i32 0,.int .u32 0] 161):=h;refine eM 4 (xA .ret gZ 15) [(2,ϖ q.heap.size),(3,Iv fl)] hS λt hS=>?_;refine kB ?_;have F:f72.results=#[.tmp 2,.tmp 3]:=Ψ;refine jf (fn:=f72) func72 (u:=.tuple #[ϖ q.heap.size,Iv fl]) (λw=>?_) (λw=>by simp[results,F]) ?_;{have I:=hS.get (i:=2) (v:=ϖ q.heap.size) rfl;have J:=hS.get (i:=3) (v:=Iv fl) rfl;rw[results_tmp2 F,I,J]};have M:=g.size;have N:=r.grow;have O:=j.size;have P:=h.size;exact K q.heap.size n.heap.size H ⟨by rw[h.new],by rw[h.keep _ Ω,j.new],by omega,by rw[h.keep _ Ω,j.keep _ Ω,C],by omega,by omega,λk s=>by have D:fW bad (λ_=>False) p k:=⟨by have:=s.1;omega,s.2⟩;have L:=s.1;rw[h.keep k Ω,j.keep k Ω,r.keep k D,g.keep k s.1],by rw[h.os,j.os,r.os,g.os],by rw[h.out,j.out,r.out,g.out],by rw[h.tape,j.tape,r.tape,g.tape]⟩
end
end Go.Bh
namespace Go.Bh
open Go.Proofs Go.Conc Go.Mx Go.Rk Go.Cr Go.Pw Go.Lw Go.Me
variable{x:ay}{w:VH}{bad:Loc->Prop}
def Q0(x:ay)(a:Int)(s:ByteArray):Me.Fd:=match x.ps[a.toNat]? with
 |some p=>((gu p s x.ns).1,(gu p s x.ns).2,(gu p s x.ns).2)
 |none=>(0,0,0)
def N7(x:ay)(c:Nat):Bool:=j7 x.ns c.toUInt8
def cF(x:ay):Int->ByteArray->Me.Fd:=Fs (Q0 x) (pP (N7 x) 26 97 Vo)
def bb(x:ay)(k:Nat):ByteArray:=((x.ps[k]?).map λp=>p.label).getD ⟨#[]⟩
def Aj:Prop:=∀(C:Cx)(FR:VH->Prop)(F:Int->ByteArray->Me.Fd)(i j:Nat),Wc C FR F->Gz<=C.mm->∀(s:ByteArray)(c:Nat),s.size<=6->cnt s≠0->97<=c->c<=122->cD C FR i j 146 f146 #[.string s,.string ⟨#[63]⟩,.string (ch c),Iv 1] (.string (rp s c))
theorem B9{C:Cx}{FR:VH->Prop}{w0:VH}{i j:Nat}(hR:Aj)(hW:Wc C FR (cF x))(hi:C.wk i)(h:iE C FR w0 x){k:Nat}{p:ar}(hk:x.ps[k]?=VF p){s:ByteArray}(hs:s.size<=6):cD C FR i j 75 f75 #[ϖ C.mu,sk (k:Nat) s] (fv (cF x (k:Nat) s)):=by obtain⟨m,hm⟩:=h.pre;refine MY (rd:=Q0 x) (inW:=N7 x) (NS:=x.NS) (Vd:=λa s=>a=(k:Nat)/\s.size<=6) hW hi (by grind) (λa s _=>call114 hW h.mm s) (λa s c f h0 h1 h2=>hR C FR _ i j hW h.mm s c f.2 h0 h1 h2) (λa s f _=>?_) (λc _ _ l v b L d cs hH hT=>call117 hW h c l v b L d cs hH hT) (λa s c f _ _ _=>⟨f.1,by rw[Lc];exact f.2⟩) (cnt s) _ s rfl ⟨rfl,hs⟩;obtain⟨rfl,f⟩:=f;have:=call116 (i:=i) (j:=j) hW h hk f;(have e:Q0 x (k:Nat) s=((gu p s x.ns).1,(gu p s x.ns).2,(gu p s x.ns).2):=by unfold Q0;simp_all);simp_all
structure Holds(w:VH)(bad:Loc->Prop)(mu mm:Nat)(x:ay):Prop where
 at_:cw w x
 sm:sC x
 gR:∀p∈x.ps,p.label.size<=6
 blk:∀k,x.blk k->jH bad w mu mm k
 mu:Gz<=mu
 mm:Gz<=mm
 ig:Gz<=w.heap.size
 bad:∀l b,bad l->cH b l->Gz<=b
theorem Holds.look{mu mm:Nat}(t:Aj)(h:Holds w bad mu mm x):Ac (cF x) (bb x) bad w mu mm x.ps.length x.NS x.PS:=by intro C r q n d f g i u k a;subst n;obtain⟨p,o⟩:∃p,x.ps[k]?=VF p:=⟨_,Tm a⟩;(have c:C.mm=mm:=by have z:=q.known;simp_all);have b:iE C r w x:=⟨h.at_,h.sm,⟨_,d⟩,λk a=>f k (h.blk k a),λv y k a=>g v y k (h.blk k a),h.mu,by rw[c];exact h.mm,λk a=>.inl (f k ⟨Tj a h.ig,λe=>by have:=h.mu;omega,λe=>by have:=h.mm;omega,λl hl m=>by have:=h.bad l k hl m;omega⟩)⟩;have:=B9 (i:=i) (j:=0) t q (.inl u) b o (s:=bb x k) (by unfold bb;rw[o];exact h.gR p (Tn o));exact this
section
variable{P:V6}{Post:VI->VH->Prop}{N:Loc->Prop}{g:VK}{w':VH}
theorem Bt.first(g:VK)(w:VH)(N:Loc->Prop):Bt P (λ_=>False) N g w #[g] (λ_=>0) #[]:=by refine⟨rfl,leavers_one P g,past_nil.mono (TH _),λi b x c=>by simp at c,λb h=>by simp at h,λb h=>by simp at h,λl _ i a h=>by simp[touchAt,Trace.act?]at h⟩
theorem Kt(h:aD P Post bad N g w):∃M a o w' b,runNT P (M+1) (solo g w) #[]=(.ended o w',b)/\runN P M (solo g w)=.next a/\step P a=.ended o w'/\Conc.Good P Post a o w' b:=h (λ_=>False) #[g] (λ_=>0) #[] VJ w.drawn (λ_ h=>h.elim) (Bt.first g (w.at w.drawn) N)
theorem Hr{f:V8}{fn:Func}{t:Array VI}{kk:List Wg}{u:VI}(b:P.funcs[f]?=VF fn)(c:P.inits.idxOf? f=VJ)(i:∀w,(results fn t).run P w=.ok u w)(a:∀w,(results fn t).events P w #[]=#[])(h:∀d,Post u (w.at d)):aD P Post bad N (G (zB [] VJ f t kk) []) w:=by refine aD.end rfl λd=>⟨u,#[],?_,λe a=>by simp at a,h d⟩;simp[G,VO,unwind,doReturn,b,i,a,c,GStep.after,km]
end
end Go.Bh
namespace Go.Me
open Go.Proofs Go.Conc Go.Mx Go.Rk Go.Cr Go.Pw Go.Lw Go.ab
open Go.ConcR(KK WgAt stA smA rd wr mk)
variable{F:Int->ByteArray->Fd}
section
variable{C:Cx}{i j:Nat}{FR:VH->Prop}
theorem call97(hW:Wc C FR F)(m:Gz<=C.mm)(s:ByteArray):cD C FR i j 97 f97 #[.string s,.string ⟨#[63]⟩] (Iv (cnt s:Nat)):=by intro o v L b p hH n;have hP:=hW.P;refine l8 hW.ok hW.steady (by rw[hP];exact eh []) hH (by rw[hP];exact lx (rj m hH)) Ψ (by rw[hP];exact func97) (show f97.body=VF (f97.body.getD .skip)by kernel_rfl) (eb _ _) (λi s h=>by cases h) ⟨rfl,λi u q d k=>?_⟩ (λT=>?_) n;{rw[d]at k;cases k;rcases(by have:=(Tk.1 d).1;simp at this;omega:i=0\/i=1)with rfl|rfl<;>cases d<;>exact .string _};rw[hP];exact(Tryz.strings_Count_one s 63 _).mono λe r h=>h.1
theorem call124(hW:Wc C FR F)(n:Gz<=C.mm)(s:ByteArray):cD C FR i j 124 f124 #[.string s,.string ⟨#[63]⟩] (Iv (Lib.indexByte s.data.toList 63)):=by intro p v L b q hH o;have hP:=hW.P;refine l8 hW.ok hW.steady (by rw[hP];exact eh []) hH (by rw[hP];exact lx (rj n hH)) Ψ (by rw[hP];exact func124) (show f124.body=VF (f124.body.getD .skip)by kernel_rfl) (eb _ _) (λi s h=>by cases h) ⟨rfl,λi u r d k=>?_⟩ (λT=>?_) o;{rw[d]at k;cases k;rcases(by have:=(Tk.1 d).1;simp at this;omega:i=0\/i=1)with rfl|rfl<;>cases d<;>exact .string _};rw[hP];exact(Tryz.strings_Index_one s 63 _).mono λe t h=>h.1
theorem xd:∀l:List UInt8,l.count 63≠0->∃k:Nat,Lib.indexByte l 63=(k:Nat)/\k<l.length/\∀c,nA c l=l.take k++[c]++l.drop (k+1)|[],h=>absurd rfl h|x::l,h=>by by_cases d:x=63;{subst d;exact⟨0,by simp[Lib.indexByte],by simp,λc=>by simp[nA]⟩};rw[UC (by exact d)]at h;obtain⟨k,e,f,g⟩:=xd l h;refine⟨k+1,?_,by simpa using f,λc=>?_⟩;{unfold Lib.indexByte;rw[if_neg (by simpa using d),e,if_neg Θ];omega};unfold nA;rw[if_neg d,g c];simp
theorem Lx(n:Nat)(h:n<=1000):VV.i64.wrap (n:Int)=n:=by rw[VV.wrap_i64];omega
theorem J7(s:ByteArray):s.extract 0 s.size=s:=by simp
theorem zL(hW:Wc C FR F)(Z:Gz<=C.mm){s:ByteArray}{c:Nat}(hs:s.size<=6)(Y:cnt s≠0)(hc:97<=c)(R:c<=122):cD C FR i j 146 f146 #[.string s,.string ⟨#[63]⟩,.string (ch c),Iv 1] (.string (rp s c)):=by intro m v L N cs hH hT;have hsub:∀k,m k->m k:=λ_ h=>h;obtain⟨k,I,hkl,J⟩:=xd s.data.toList Y;(have hsz:s.data.toList.length=s.size:=by simp);have D:(ch c).size=1:=rfl;(have W:((⟨#[63]⟩:ByteArray)==ch c)=Vo:=by show((#[63]:Array UInt8)==(#[c.toUInt8]))=Vo;simp;exactλh=>rI hc R h.symm);have hP:=hW.P;have hS:Sl 104 [(0,.string s),(1,.string ⟨#[63]⟩),(2,.string (ch c)),(3,Iv 1)] (#[.string s,.string ⟨#[63]⟩,.string (ch c),Iv 1]++Array.replicate (f146.ntmps-(#[.string s,.string ⟨#[63]⟩,.string (ch c),Iv 1]:Array VI).size) VP):=.all;generalize(#[.string s,.string ⟨#[63]⟩,.string (ch c),Iv 1]++Array.replicate (f146.ntmps-(#[.string s,.string ⟨#[63]⟩,.string (ch c),Iv 1]:Array VI).size) VP)=t at hS⊢;show af C i j .free _ (G (fx [] VJ 146 t (cA dq 1)) _) _;refine gr 22 [(18,ob ((⟨#[63]⟩:ByteArray)==ch c) Vo W)] (rA dq 28 [2,3]) [(0,.string s),(1,.string ⟨#[63]⟩),(2,.string (ch c)),(3,Iv 1),(24,.string s),(25,.string ⟨#[63]⟩)] hS (λt hS=>?_);refine cx hS (vs:=#[.string s,.string ⟨#[63]⟩]) Ψ Ψ Ψ (ags:=#[.tmp 24,.tmp 25]) Ψ (DH (hS.gN 24 rfl) (hS.gN 25 rfl)) (by rw[hP];exact func97) Ψ (show f97.body=VF (f97.body.getD .skip)by kernel_rfl) ?_;refine call97 hW Z s m _ L _ _ hH (λf E q hH=>?_);rw[bO (o:=opn (aT (sb dq 28)) 2) Ψ];change af C i j _ _ (G (fx [] VJ 146 (Array.setIfInBounds _ 26 (Iv (cnt s:Nat))) _) _) _;replace hS:=hS.pt (d:=26) (v:=Iv (cnt s:Nat));replace hsub:∀k,m k->f k:=λk I=>q k (hsub k I);clear q;refine r1 (O:=[(28,ob ((cnt s:Int)==0) Vo (by simpa using Y)),(35,ob (decide ((cnt s:Int)<1)) Vo (by simp;omega)),(47,o6 (VV.i64.wrap ((s.size:Int)+0)) (s.size:Nat) (by rw[US];exact Lx _ Ω))]) (n:=36) [0] (λA=>[.cells #[.pointer VJ,.slice VJ 0 0] 224]) [] (rA dq 62 [10]) (λA=>[(0,.string s),(1,.string ⟨#[63]⟩),(2,.string (ch c)),(3,Iv 1),(10,ϖ A),(47,Iv (s.size:Nat))]) λA t f E hS hsub hH=>?_;refine cx hS (vs:=#[ϖ A,Iv (s.size:Nat)]) Ψ Ψ Ψ (ags:=#[.tmp 10,.tmp 47]) Ψ (DH (hS.gN 10 rfl) (hS.gN 47 rfl)) (by rw[hP];exact func169) QY PI ?_;refine IZ hW Ω Ω hH (λf r Q E hc0 q hH=>?_);replace hsub:∀k,m k->f k:=λk I=>q k (hsub k I);clear q;rw[bO (o:=opn (aT (sb dq 62)) 10) Ψ];change af C i j _ _ (G (fx [] VJ 146 (Array.setIfInBounds _ 48 (.tuple #[])) _) _) _;replace hS:=hS.pt (d:=48) (v:=.tuple #[]);refine aP 34 (rA dq 260760 [3,4,5,6,7]) [(0,.string s),(1,.string ⟨#[63]⟩),(2,.string (ch c)),(3,Iv 1),(10,ϖ A),(52,Iv 1),(53,Iv 0),(11,Iv 0),(55,Iv 0),(56,.string s),(57,Iv 0)] hP hS λt hS=>?_;refine gW 58 (.string (s.extract 0 s.size)) hW.steady hH hS (λE hH=>by rw[hP];exact Nf (l:=0) (y:=.tmp 56) (z:=.tmp 57) Ψ (hS.gN 56 rfl) (hS.gN 57 rfl) Ω) λhS=>?_;rw[J7 s]at hS⊢;refine aP 1 (rA dq 260760 [5,6,7]) [(0,.string s),(1,.string ⟨#[63]⟩),(2,.string (ch c)),(3,Iv 1),(10,ϖ A),(52,Iv 1),(53,Iv 0),(11,Iv 0),(55,Iv 0),(58,.string s),(59,.string ⟨#[63]⟩)] hP hS λt hS=>?_;refine cx hS (vs:=#[.string s,.string ⟨#[63]⟩]) Ψ Ψ Ψ (ags:=#[.tmp 58,.tmp 59]) Ψ (DH (hS.gN 58 rfl) (hS.gN 59 rfl)) (by rw[hP];exact func124) Ψ (show f124.body=VF (f124.body.getD .skip)by kernel_rfl) ?_;refine call124 hW Z s _ _ _ _ _ hH (λf E q hH=>?_);rw[bO (o:=opn (aT (sb dq 260760)) 5) Ψ];change af C i j _ _ (G (fx [] VJ 146 (Array.setIfInBounds _ 60 (Iv (Lib.indexByte s.data.toList 63))) _) _) _;replace hS:=hS.pt (d:=60) (v:=Iv (Lib.indexByte s.data.toList 63));replace hsub:∀k,m k->f k:=λk I=>q k (hsub k I);clear q;rw[I]at hS⊢;refine sQ (ds:=[]) (ro:=VJ) (H:=[(61,Iv (k:Nat))]) (obs:=[(Iv (VV.i64.wrap ((0:Int)+(k:Nat))),Iv (k:Nat))]) (k':=(rA dq 521522 [3,4])) (Lt':=[(0,.string s),(1,.string ⟨#[63]⟩),(2,.string (ch c)),(3,Iv 1),(10,ϖ A),(52,Iv 1),(53,Iv 0),(11,Iv 0),(12,Iv (k:Nat)),(62,.string s),(63,Iv 0),(64,Iv (k:Nat))]) 8 hS Ξ (JP (wz k Ω) q9) Λ (λt hS=>?_);refine gW 65 (.string (s.extract 0 k)) hW.steady hH hS (λE hH=>by rw[hP];exact LC (l:=0) (h:=k) (y:=.tmp 62) (z:=.tmp 63) (x:=.tmp 64) Ψ (hS.gN 62 rfl) (hS.gN 63 rfl) (hS.gN 64 rfl) Ω Ω) λhS=>?_;refine aP 0 (rA dq 521522 [4]) [(0,.string s),(1,.string ⟨#[63]⟩),(2,.string (ch c)),(3,Iv 1),(10,ϖ A),(52,Iv 1),(53,Iv 0),(11,Iv 0),(12,Iv (k:Nat)),(65,.string (s.extract 0 k))] hP hS λt hS=>?_;(have S:qD [] Q:=λk x h=>by simp at h);(have M:(s.extract 0 k).size=k:=by simp[ByteArray.size_extract];omega);(have X:(s.extract (k+1) s.size).size=s.size-(k+1):=by simp[ByteArray.size_extract]);refine cx hS (vs:=#[ϖ A,.string (s.extract 0 k)]) Ψ Ψ Ψ (ags:=#[.tmp 10,.tmp 65]) Ψ (DH (hS.gN 10 rfl) (hS.gN 65 rfl)) (by rw[hP];exact func170) H5 Et ?_;refine se (l:=[]) hW S (by rw[M];simp;omega) hH (λc1 E D T hH=>?_);rw[bO (o:=opn (aT (sb dq 521522)) 4) Ψ];change af C i j _ _ (G (fx [] VJ 146 (Array.setIfInBounds _ 66 (.tuple #[Iv ((s.extract 0 k).size:Nat),.nilIface])) _) _) _;replace hS:=hS.pt (d:=66) (v:=.tuple #[Iv ((s.extract 0 k).size:Nat),.nilIface]);refine aP 4 (rA dq 1043046 [1]) [(0,.string s),(1,.string ⟨#[63]⟩),(2,.string (ch c)),(3,Iv 1),(10,ϖ A),(52,Iv 1),(53,Iv 0),(11,Iv 0),(12,Iv (k:Nat)),(67,.string (ch c))] hP hS λt hS=>?_;refine cx hS (vs:=#[ϖ A,.string (ch c)]) Ψ Ψ Ψ (ags:=#[.tmp 10,.tmp 67]) Ψ (DH (hS.gN 10 rfl) (hS.gN 67 rfl)) (by rw[hP];exact func170) H5 Et ?_;refine se (l:=([]++(s.extract 0 k).data.toList)) hW T (by simp only[UT,Vr,Ug,Vf,ByteArray.size_data,M,D];omega) hH (λc2 E hc2 U hH=>?_);rw[bO (o:=opn (aT (sb dq 1043046)) 1) Ψ];change af C i j _ _ (G (fx [] VJ 146 (Array.setIfInBounds _ 68 (.tuple #[Iv ((ch c).size:Nat),.nilIface])) _) _) _;replace hS:=hS.pt (d:=68) (v:=.tuple #[Iv ((ch c).size:Nat),.nilIface]);refine gr 25 [(72,o6 (VV.i64.wrap ((k:Int)+1)) ((k+1:Nat):Int) (by rw[show((k:Nat):Int)+1=((k+1:Nat):Int)by omega];exact Lx _ Ω))] (rA dq 510 [2,3]) [(0,.string s),(1,.string ⟨#[63]⟩),(2,.string (ch c)),(3,Iv 1),(10,ϖ A),(99,.string s),(100,Iv ((k+1:Nat):Int))] hS (λt hS=>?_);refine gW 101 (.string (s.extract (k+1) s.size)) hW.steady hH hS (λE hH=>by rw[hP];exact Nf (l:=k+1) (y:=.tmp 99) (z:=.tmp 100) Ψ (hS.gN 99 rfl) (hS.gN 100 rfl) Ω) λhS=>?_;refine aP 0 (rA dq 510 [3]) [(0,.string s),(1,.string ⟨#[63]⟩),(2,.string (ch c)),(3,Iv 1),(10,ϖ A),(101,.string (s.extract (k+1) s.size))] hP hS λt hS=>?_;refine cx hS (vs:=#[ϖ A,.string (s.extract (k+1) s.size)]) Ψ Ψ Ψ (ags:=#[.tmp 10,.tmp 101]) Ψ (DH (hS.gN 10 rfl) (hS.gN 101 rfl)) (by rw[hP];exact func170) H5 Et ?_;refine se (l:=([]++(s.extract 0 k).data.toList++(ch c).data.toList)) hW U (by simp only[UT,Vr,Ug,Vf,ByteArray.size_data,M,D,X];omega) hH (λc3 E hc3 V hH=>?_);rw[bO (o:=opn (aT (sb dq 510)) 3) Ψ];change af C i j _ _ (G (fx [] VJ 146 (Array.setIfInBounds _ 102 (.tuple #[Iv ((s.extract (k+1) s.size).size:Nat),.nilIface])) _) _) _;replace hS:=hS.pt (d:=102) (v:=.tuple #[Iv ((s.extract (k+1) s.size).size:Nat),.nilIface]);refine aP 3 (rA dq 1022 [0,1]) [(10,ϖ A)] hP hS λt hS=>?_;(have K:(⟨([]++(s.extract 0 k).data.toList++(ch c).data.toList++(s.extract (k+1) s.size).data.toList).toArray⟩:ByteArray)=rp s c:=by unfold rp;rw[J];congr 1;simp[ByteArray.data_extract,ch,VY];exact Uk Θ);refine cx hS (vs:=#[ϖ A]) Ψ Ψ Ψ (ags:=#[.tmp 10]) Ψ (wB (hS.gN 10 rfl)) (by rw[hP];exact func172) Ql QS ?_;refine MI hW (l:=([]++(s.extract 0 k).data.toList++(ch c).data.toList++(s.extract (k+1) s.size).data.toList)) (by simp[ch]) (by simp only[UT,Ug,Vf,ByteArray.size_data,M,D,X];omega) (by simp only[UT,Ug,Vf,ByteArray.size_data,M,D,X];omega) V hH (λE hH=>?_);rw[K];rw[bO (o:=opn (aT (sb dq 1022)) 0) Ψ];change af C i j _ _ (G (fx [] VJ 146 (Array.setIfInBounds _ 103 (.string (rp s c))) _) _) _;replace hS:=hS.pt (d:=103) (v:=.string (rp s c));refine aP 2 (cA dq 1023) [(8,.string (rp s c))] hP hS λt hS=>?_;refine oQ ?_;have hr:f146.results=#[.tmp 8]:=Ψ;refine mz (fn:=f146) (by rw[hP];exact func146) (u:=.string (rp s c)) (λw=>?_) (λw=>by simp[results,hr]) ?_;{have e2:=hS.get (i:=8) (v:=.string (rp s c)) rfl;rw[results_tmp hr,e2]};exact hT f E hsub hH
theorem _root_.Go.Bh.wG:Go.Bh.Aj:=λC FR F i j hW f s c a b d e=>zL hW f a b d e
end
end Go.Me
namespace Go.Bh
open Go.Proofs Go.Conc Go.Mx Go.Rk Go.Cr Go.Pw Go.Lw Go.Me
open Go.ConcM(OsLater)
section
variable{Post:VI->VH->Prop}{bad N:Loc->Prop}{w:VH}
noncomputable def Ih(F:Int->ByteArray->Me.Fd)(bad:Loc->Prop)(w:VH)(mu mm bx z:Nat)(NS PS:VI)(tP:VX)(L0:List (Nat×Ws))(halt:(Nat->Prop)->VK->VH->Prop):Cx:=
 {P:=Pz,RO:=λk=>jH bad w mu mm k/\k≠bx/\k≠z/\k∉L0.map Prod.fst,mu:=mu,mo:=3,pre:=#[NS,PS,.map (VF mm)],tP:=tP,mm:=mm,AT:=jx F,wg:=z,tW:=0,out:=bx,tO:=25,no:=2,
   oc:=λ_ _=>False,res:=λ_=>VP,base:=1,n:=0,End:=λ_ _=>False,w0:=w,solo:=True,halt:=halt,sw:=λ_ _=>(w.heap[z]?).getD (.cells #[] 0)}
structure mZ(F:Int->ByteArray->Me.Fd)(bad:Loc->Prop)(w:VH)(mu mm bx z:Nat)(NS PS:VI)(L0:List (Nat×Ws)):Prop where
 port:w.heap[mu]?=VF (.cells #[NS,PS,.map (VF mm),.int .i32 0,.int .u32 0] 161)
 dC:∃es ck,w.heap[mm]?=VF (.map es ck)/\jx F es
 box:w.heap[bx]?=VF (.cells #[NS,PS] 25)
 zero:z<bx/\bx<mm/\mm<mu/\∀l,cH z l->¬bad l
 lt:∀l b,bad l->cH b l->b<w.heap.size
 N1:∀l b,bad l->cH b l->b≠mu/\b≠mm
 nd:(L0.map Prod.fst).Nodup
 own:∀p∈L0,jH bad w mu mm p.1/\p.1≠bx/\p.1≠z/\w.heap[p.1]?=VF p.2
variable{F:Int->ByteArray->Me.Fd}{mu mm bx z:Nat}{NS PS:VI}{L0:List (Nat×Ws)}{halt:(Nat->Prop)->VK->VH->Prop}
theorem mZ.Q1(h:mZ F bad w mu mm bx z NS PS L0):(Ih F bad w mu mm bx z NS PS 161 L0 halt).Ok:=by obtain⟨g,i,f,_⟩:=h.zero;refine⟨rfl,Nat.ne_of_gt f,by show mu≠z;omega,by show mu≠bx;omega,by show mm≠z;omega,by show mm≠bx;omega,by show z≠bx;omega,λk e=>?_,λ_ _ _ x=>x.elim,λ_ x=>x⟩;obtain⟨⟨_,a,b,_⟩,c,d,_⟩:=e;exact⟨a,b,d,c⟩
theorem mZ.aJ(h:mZ F bad w mu mm bx z NS PS L0):dm (Ih F bad w mu mm bx z NS PS 161 L0 halt) w:=by obtain⟨b,c,d,_⟩:=h.zero;(have a:z<w.heap.size:=by have:=(Tk.1 h.port).1;omega);refine⟨⟨0,0,h.port⟩,⟨0,0,?_⟩,⟨_,h.box,rfl⟩⟩;show w.heap[z]?=VF ((w.heap[z]?).getD _);rw[Tt a];rfl
theorem mZ.Qx(h:mZ F bad w mu mm bx z NS PS L0):mm<w.heap.size:=by obtain⟨c,b,a,_⟩:=h.dC;exact(Tk.1 a).1
theorem mZ.alone(h:mZ F bad w mu mm bx z NS PS L0):Alone (Ih F bad w mu mm bx z NS PS 161 L0 halt) bad (λk=>k∈L0.map Prod.fst) w:=by obtain⟨f,e,r,n⟩:=h.dC;refine⟨h.Q1,rfl,h.aJ,h.port,⟨f,⟨e,r⟩,n⟩,λb q=>?_,λk a=>⟨a.1.1,λl hl x=>a.1.2.2.2 l x hl⟩,λk a=>?_,⟨h.Qx,λl hl x=>(h.N1 l mm x hl).2 rfl⟩,λo _ x=>(h.N1 _ mu x rfl).1 rfl,h.zero.2.2.2,h.lt⟩;{obtain⟨p,d,rfl⟩:=To.1 q;obtain⟨⟨_,c,i,_⟩,j,m,_⟩:=h.own p d;exact⟨c,i,m,j⟩};obtain⟨p,d,rfl⟩:=To.1 a;obtain⟨⟨g,_,_,c⟩,_⟩:=h.own p d;exact⟨g,λl hl x=>c l x hl⟩
def PF(bad:Loc->Prop)(w:VH)(mu mm bx z:Nat)(L0:List (Nat×Ws))(v:VH):Prop:=∀k,jH bad w mu mm k/\k≠bx/\k≠z/\k∉L0.map Prod.fst->v.heap[k]?=w.heap[k]?
theorem mZ.wc(h:mZ F bad w mu mm bx z NS PS L0):Wc (Ih F bad w mu mm bx z NS PS 161 L0 halt) (PF bad w mu mm bx z L0) F:=⟨h.Q1,rfl,rfl,λ_ _ a b k x=>(a k x).trans (b k x),rfl,rfl⟩
theorem mZ.hp(h:mZ F bad w mu mm bx z NS PS L0):Hp (Ih F bad w mu mm bx z NS PS 161 L0 halt) (PF bad w mu mm bx z L0) (λk=>k∈L0.map Prod.fst) w L0:=by have b:=h.alone (halt:=halt);refine⟨b.ok,λk a x=>x.2.2.2 a,λk a=>?_,b.mm.1,b.aJ,λk a=>rfl,h.nd,λp c=>⟨To.2 ⟨p,c,rfl⟩,(h.own p c).2.2.2⟩⟩;rcases a with a|a;{exact(b.hand k a).1};exact(b.ro k a).1
theorem mZ.file{x:ay}{w0:VH}(h:mZ F bad w mu mm bx z x.NS x.PS L0)(o:cw w0 x)(d:sC x)(f:∀k,x.blk k->w.heap[k]?=w0.heap[k]?)(a:∀k,x.blk k->jH bad w mu mm k/\k≠bx/\k≠z/\k∉L0.map Prod.fst)(q:Gz<=bx)(g:∀p∈L0,Gz<=p.1)(i:∀l b,bad l->cH b l->Gz<=b):iE (Ih F bad w mu mm bx z x.NS x.PS 161 L0 halt) (PF bad w mu mm bx z L0) w0 x:=by obtain⟨r,s,t,_⟩:=h.zero;refine⟨o,d,⟨_,rfl⟩,a,λv n k x=>(n k (a k x)).trans (f k x),by show Gz<=mu;omega,by show Gz<=mm;omega,λk f=>?_⟩;by_cases e:k=z;{exact .inr (.inl e)};refine .inl ⟨⟨?_,by omega,by omega,λl hl c=>by have:=i l k hl c;omega⟩,by omega,e,λj=>?_⟩;{have:=h.Qx;omega};obtain⟨p,m,rfl⟩:=To.1 j;have:=g p m;omega
end
end Go.Bh
namespace Go.Bh
open Go.Proofs Go.Conc Go.Mx Go.Rk Go.Cr Go.Pw Go.Lw Go.Me Go.ab
variable{P:V6}{Post:VI->VH->Prop}{bad N N':Loc->Prop}{w w' w0:VH}{a:Option Wq}{l:List VI}{x:ay}{mu mm:Nat}{caller:VU}{cs:List VU}{t:Array VI}{fns:V8->Bool}
structure bG(bad:Loc->Prop)(w:VH)(x:ay):Prop where
 at_:cw w x
 sm:sC x
 gR:∀p∈x.ps,p.label.size<=6
 blk:∀k,x.blk k->fW bad (λ_=>False) w k
 nz:∃z,z<w.heap.size/\(∀l,cH z l->¬bad l)/\∀k,x.blk k->k≠z
 ig:Gz<w.heap.size
 low:∀l b,bad l->cH b l->Gz<=b/\b<w.heap.size
 cell:∀l,bad l->∃b,cH b l
theorem iv.keep(h:iv w a l)(k:∀d,a=VF d->w'.heap[d.block]?=w.heap[d.block]?):iv w' a l:=by rcases h with h|⟨b,f,c,e,fr,rfl,g,i,j⟩;{exact .inl h};exact .inr ⟨b,f,c,e,fr,rfl,(k _ rfl).trans g,i,j⟩
theorem cw.keep(h:cw w x)(b:∀k,x.blk k->w'.heap[k]?=w.heap[k]?):cw w' x:=⟨iv.keep h.notes λa e=>b _ (.inl ⟨a,e,rfl⟩),iv.keep h.jP λa e=>b _ (.inr (.inl ⟨a,e,rfl⟩)),λn c=>⟨(h.kinds n c).1,iv.keep (h.kinds n c).2 λa e=>b _ (.inr (.inr ⟨n,c,a,e,rfl⟩))⟩⟩
theorem bG.keep(h:bG bad w x){bad':Loc->Prop}(i:∀k,fW bad (λ_=>False) w k->w'.heap[k]?=w.heap[k]?)(e:w.heap.size<=w'.heap.size)(d:∀l,bad' l->bad l\/∃b,cH b l/\w.heap.size<=b/\b<w'.heap.size):bG bad' w' x:=by refine⟨cw.keep h.at_ λk x=>i k (h.blk k x),h.sm,h.gR,λk x=>⟨Tj (h.blk k x).1 e,λl hl=>⟨λy=>?_,λy=>y⟩⟩,?_,Tj h.ig e,λl b y f=>?_,λl y=>?_⟩;{rcases d l y with y|⟨b,a,g,_⟩;{exact((h.blk k x).2 l hl).1 y};have:=fj hl a;have:=(h.blk k x).1;omega};{obtain⟨z,z1,z2,z3⟩:=h.nz;refine⟨z,Tj z1 e,λl hl y=>?_,z3⟩;rcases d l y with y|⟨b,a,g,_⟩;{exact z2 l hl y};have:=fj hl a;omega};{rcases d l y with y|⟨c,a,g,j⟩;{have:=h.low l b y f;omega};obtain rfl:=fj f a;have:=h.ig;omega};rcases d l y with y|⟨b,a,_⟩;{exact h.cell l y};exact⟨b,a⟩
theorem eF.grow(a:eF bad w0 mu mm x.NS x.PS w):w0.heap.size<=w.heap.size:=by have b:=a.lt;have c:=a.iu;have d:=a.size;omega
theorem eF.file(a:eF bad w0 mu mm x.NS x.PS w)(b:bG bad w0 x):bG bad w x:=b.keep a.keep a.grow λ_ h=>.inl h
theorem eF.PT(d:eF bad w0 mu mm x.NS x.PS w)(c:bG bad w0 x):EN bad w.heap.size mu mm:=by have e:=d.lt;have f:=d.iu;refine⟨λl b hl a=>?_,c.cell,λl hl a=>?_,λl hl a=>?_⟩;{have:=(c.low l b hl a).2;have:=d.grow;omega};{have:=(c.low l _ hl a).2;omega};have:=(c.low l _ hl a).2;omega
theorem eF.GM(b:eF bad w0 mu mm x.NS x.PS w){k:Nat}(a:fW bad (λ_=>False) w0 k):jH bad w mu mm k:=by have d:=b.lt;have e:=b.iu;have f:=a.1;exact⟨Tj a.1 b.grow,by omega,by omega,λl hl c=>(a.2 l c).1 hl⟩
theorem eF.holds(d:eF bad w0 mu mm x.NS x.PS w)(a:bG bad w0 x):Holds w bad mu mm x:=by have c:=d.file a;have g:=d.lt;have h:=d.iu;have i:=a.ig;exact⟨c.at_,a.sm,a.gR,λk f=>d.GM (a.blk k f),by omega,by omega,TL c.ig,λl b hl e=>(a.low l b hl e).1⟩
theorem zJ(p:ar):∀u∈p.vs,One u:=by intro u a;simp only[ar.vs]at a;simp at a;rcases a with rfl|rfl|rfl|rfl|rfl|rfl;{exact .inr (.inr (.inl ⟨_,rfl⟩))};{exact .inr (.inr (.inl ⟨_,rfl⟩))};all_goals exact .inl ⟨_,_,rfl⟩
theorem gG(h:cw w x)(g:x.ps≠[]):∃(b off:Nat)(c:Array VI)(e:VX)(fr:Nat×Nat),x.pa=VF ⟨b,off,VJ⟩/\w.heap[b]?=VF (.cells c e fr)/\∀j,j<x.ps.length->Row c (off+j*6) (((x.ps[j]?).map ar.vs).getD #[]):=by rcases h.jP with⟨_,h⟩|⟨b,off,c,e,fr,o,q,v,r⟩;{exact absurd (VZ.1 h) (λh=>by cases a:x.ps with|nil=>exact g a|cons p l=>have:=h p (by rw[a];simp);simp[ar.vs]at this)};refine⟨b,off,c,e,fr,o,q,λj t=>?_⟩;obtain⟨p,a⟩:∃p,x.ps[j]?=VF p:=⟨_,Tm t⟩;rw[a];refine⟨rfl,λk i=>?_⟩;have d:=flat_get (m:=6) Δ x.ps (f:=λp=>p.vs.toList) (λp _=>rfl) j k i;rw[a]at d;obtain⟨u,n⟩:∃u,p.vs.toList[k]?=VF u:=⟨_,Tm (show k<p.vs.toList.length from i)⟩;have d:(x.ps.flatMap λp=>p.vs.toList)[j*6+k]?=VF u:=d.trans n;have s:=r _ _ d;rw[Ud,s];simpa using n.symm
theorem vM(g:bG bad w0 x)(d:eF bad w0 mu mm x.NS x.PS w)(N:x.ps.length<=1000)(K:∀i p w',After (cF x) (bb x) bad w mu mm x.ps.length i p w'->bG (oI bad mu p) w' x->aD Pz Post (oI bad mu p) (λ_=>False) (G (caller.finish (.slice (VF ⟨i,0,VJ⟩) x.ps.length x.ps.length)) cs) w')(hS:Sl 32 [(0,ϖ mu)] t):aD Pz Post bad (Hb mu mm) (G (fr 73 t [.code cu]) (caller::cs)) w:=by have h:=d.file g;(have Z:∃b A,x.ps.length≠0->x.pa=VF ⟨b,A,VJ⟩/\jH bad w mu mm b/\∃c e fr,w.heap[b]?=VF (.cells c e fr)/\∀j,j<x.ps.length->Row c (A+j*6) (((x.ps[j]?).map ar.vs).getD #[]):=by by_cases z:x.ps=[];{exact⟨0,0,λn=>absurd (by rw[z];rfl) n⟩};obtain⟨b,A,c,e,fr,C,J,L⟩:=gG h.at_ z;exact⟨b,A,λ_=>⟨C,d.GM (g.blk b (.inr (.inl ⟨_,C,rfl⟩))),c,e,fr,J,L⟩⟩);obtain⟨b,A,Z⟩:=Z;have m:mm≠mu:=Uu d.iu;have f:=d.port;have D:=(d.holds g).look wG;refine Oo (F:=cF x) (NS:=x.NS) (tP:=161) (ck:=0) (px:=λj=>((x.ps[j]?).map ar.vs).getD #[]) (gR:=bb x) N f d.dC m.symm Z (λj s u H=>?_) (λj s=>?_) (d.PT g) (KD m) D (λi p w' n=>K i p w' n ?_) hS;{rw[Tm s]at H;exact zJ _ u H};{unfold bb;rw[Tm s];rfl};refine⟨cw.keep h.at_ λk v=>n.keep k ((d.holds g).blk k v),g.sm,g.gR,λk v=>?_,?_,Tj h.ig n.grow,λl B hl E=>?_,λl hl=>?_⟩;{have q:=(d.holds g).blk k v;have V:=n.new;refine⟨Tj q.1 n.grow,λl hl=>⟨λy=>?_,λy=>y⟩⟩;rcases y with y|⟨a,rfl,y⟩;{exact q.2.2.2 l y hl};have O:a.block=k:=hl;have:=q.1;have:=q.2.1;omega};{obtain⟨z,z1,z2,z3⟩:=g.nz;have V:=n.new;have S:=d.size;have T:=d.iu;have U:=d.lt;have R:=n.grow;refine⟨z,by omega,λl hl y=>?_,z3⟩;rcases y with y|⟨a,rfl,y⟩;{exact z2 l hl y};have O:a.block=z:=hl;omega};{have P:=h.ig;have Q:=n.new;have R:=n.grow;have S:=d.size;have T:=d.iu;have U:=d.lt;have I:=g.ig;rcases hl with y|⟨a,rfl,y⟩;{have:=h.low l B y E;omega};obtain rfl:a.block=B:=E;omega};rcases hl with y|⟨a,rfl,_⟩;{exact g.cell l y};exact⟨a.block,rfl⟩
section
variable{v:VH}{bx:Nat}{T:Tape}{tP:VX}{ex:List fC}
theorem B4:∀(l:List ba)(f:Nat->Option Wq->Option Wq)(seen:List ByteArray),goN seen (l.mapIdx λj n=>{n with ka:=f j n.ka})=goN seen l|[],_,_=>rfl|n::l,f,seen=>by rw[Vm];show(if gP seen n≠0 then gP seen n else goN (seen++[n.name]) (l.mapIdx λj n=>{n with ka:=f (j+1) n.ka}))=_;rw[B4 l (λj=>f (j+1)) (seen++[n.name])];rfl
theorem rL(l:List ba):iD (ej l)=iD l:=by unfold iD;rw[dL];have:=B4 l (λj a=>la (3+j) a) [];unfold ej;rw[this]
structure eO(x:ay):Prop where
 n:x.ns.length<=1000
 p:x.ps.length<=1000
 s:∀n∈x.ns,n.name.size<4294967281/\n.word.size<4294967281/\n.ks.length<=1000
 q:∀p∈x.ps,p.name.size<4294967281/\p.label.size<4294967281
theorem lC(q:cw w0 x):fa (re (c9 Gz (aB w0 mu tP x ex) v) T 0) (.slice (la 2 x.pa) x.ps.length x.pc) x.ps:=by by_cases a:x.ps=[];{rw[a];exact .inl ⟨rfl,la 2 x.pa,x.pc,rfl⟩};have j:0<x.ps.length:=UA λe=>a (T0.1 e);rcases q.jP with⟨_,h⟩|⟨b,f,c,e,fr,g,_⟩;{have:=congrArg List.length h;rw[kA (m:=6) _ λn _=>gq n]at this;simp at this;omega};refine .inr ⟨Gz+2,f,x.pc,by rw[g];rfl,a,by rw[gB];simp[aB];omega,λk n o u p i=>?_⟩;have d:o<6:=(Tk.1 i).1;have l:=fw (w0:=w0) (mu:=mu) (tP:=tP) (x:=x) (ex:=ex);rw[g]at l;have:=kD (v:=v) (o:=k*6+o) (u:=u) l (by rw[flat_get (m:=6) Δ _ (λn _=>gq n) _ _ d,p];simpa using i);rw[<-Ud]at this;exact this
theorem rW(d:eO x):∀n∈ej x.ns,n.name.size<4294967281/\n.word.size<4294967281/\n.ks.length<=1000:=by intro n c;obtain⟨k,a⟩:=Tz.1 c;rw[eU]at a;obtain⟨m,b,rfl⟩:=Ts.1 a;exact d.s m (Tn b)
structure fX(bad N:Loc->Prop)(w:VH)(bx:Nat)(x:ay):Prop where
 at_:cw w x
 blk:∀k,x.blk k->fW bad N w k
 bf:fW bad N w bx
 low:Gz<=bx
 box:w.heap[bx]?=VF (.cells #[x.NS,x.PS] 25)
 lt:∀l b,bad l\/N l->cH b l->b<w.heap.size
theorem fX.xu(h:fX bad N w bx x)(a:∀s∈ex,lF (aB w bx 25 x ex) fns w s):nF Pz fns (aB w bx 25 x ex) w:=tv h.at_ h.low h.box rfl rfl (λ_ _=>rfl) (TL (Vv h.low h.bf.1)) a
theorem jj{d:fC}(h:∀b,a=VF b->fW bad N w b.block)(c:fW bad N w d.k):fW bad N w (fQ w0 d a l).k:=by cases a with|none=>exact c|some b=>exact h b rfl
theorem fX.seen(h:fX bad N w bx x)(c:∀s∈ex,fW bad N w s.k):∀(i:Nat)(s:fC),(aB w bx 25 x ex)[i]?=VF s->fW bad N w s.k:=by intro i s f;have a:=Tn f;unfold aB at a;rcases Tq.1 a with rfl|a;{exact h.bf};rcases Tq.1 a with rfl|a;{exact jj (λb e=>h.blk _ (.inl ⟨b,e,rfl⟩)) h.bf};rcases Tq.1 a with rfl|a;{exact jj (λb e=>h.blk _ (.inr (.inl ⟨b,e,rfl⟩))) h.bf};rcases TB.1 a with a|a;{obtain⟨n,d,rfl⟩:=To.1 a;exact jj (λb e=>h.blk _ (.inr (.inr ⟨n,d,b,e,rfl⟩))) h.bf};exact c s a
theorem fX.args(h:fX bad N w bx x):ai (dr Pz b8 (aB w bx 25 x ex)) (gk Gz (aB w bx 25 x ex)) (.agg #[.slice (la 1 x.na) x.ns.length x.nc,.slice (la 2 x.pa) x.ps.length x.pc]) (.agg #[x.NS,x.PS]):=by refine .agg rfl λi u d b c=>?_;rcases(by have:=(Tk.1 b).1;simp at this;omega:i=0\/i=1)with rfl|rfl<;>cases b<;>cases c;{exact fD h.at_.notes kz};exact fD h.at_.jP fw
theorem Ox(h:fX bad N w bx x)(c:eO x):oW bad N w 22 f22 #[.agg #[x.NS,x.PS]] (Iv (cW x.ns x.ps)):=by intro Post d o K;refine iz (P:=Pz) (u:=Iv (cW x.ns x.ps)) (b:=f22.body.getD .skip) (args':=#[.agg #[x.NS,x.PS]]) (fns:=b8) (ws:=aB w bx 25 x []) (args:=#[.agg #[.slice (la 1 x.na) x.ns.length x.nc,.slice (la 2 x.pa) x.ps.length x.pc]]) (eh _) (h.xu λs g=>by cases g) (f:=22) (fn:=f22) Ψ func22 (show f22.body=VF (f22.body.getD .skip)by kernel_rfl) (eb _ _) (h.seen λs g=>by cases g) ⟨rfl,λi u p j k=>?_⟩ (λT=>?_) h.lt K;{(obtain rfl:i=0:=by have:=(Tk.1 j).1;simp at this;omega);cases j;cases k;exact h.args};refine(tJ (ej x.ns) x.ps _ _ _ (jJ h.at_) (lC h.at_) (by rw[dL];exact c.n) c.p (rW c) c.q (mA h.at_ λn m=>(c.s n m).2.2)).mono λe w' l=>?_;rw[l.1];unfold cW;rw[rL]
theorem oN(h:fX bad (λ_=>False) w bx x)(j:eO x)(K:∀mu mm w',eF bad w mu mm x.NS x.PS w'->aD Pz Post bad (Hb mu mm) (G (caller.finish (.tuple #[ϖ mu,Iv (cW x.ns x.ps)])) cs) w')(hS:Sl 13 [(0,.agg #[x.NS,x.PS])] t):aD Pz Post bad (λ_=>False) (G (fr 72 t [.code gZ]) (caller::cs)) w:=by have f:∀l b,bad l->cH b l->b<w.heap.size:=λl b hl e=>h.lt l b (.inl hl) e;refine KN f (λm g d=>Ox (bx:=bx) ⟨cw.keep h.at_ λk a=>g k (h.blk k a),λk a=>⟨Tj (h.blk k a).1 d,(h.blk k a).2⟩,⟨Tj h.bf.1 d,h.bf.2⟩,h.low,(g bx h.bf).trans h.box,λl b hl e=>Tj (h.lt l b hl e) d⟩ j) K hS
end
theorem sI{M:Nat}{L:List (Nat×VI)}(a:List Nat)(h:L.map Prod.fst=a)(b:a.Nodup/\∀i∈a,i<M):Sl M L (ff M L):=by subst h;exact MN b.1 λp c=>b.2 _ (To.2 ⟨p,c,rfl⟩)
def Cut(bad N:Loc->Prop)(w:VH)(k n:Nat):Prop:=k<w.heap.size/\∀o,o<n->¬bad (.cell ⟨k,o,VJ⟩)/\¬N (.cell ⟨k,o,VJ⟩)
def jm(l:List Nat)(i:Nat):Bool:=l.contains i
theorem td{ws:List fC}(hl:Listed P (dr P fns ws) λ_=>Vo)(hw:nF P fns ws w){f:V8}{cd:Code}{tail:List Wg}(d:List Nat){ds:List Wo}(r:codeOk P (dr P fns ws) (λ_=>Vo) cd=VG)(R:fS (jm d) cd=VG){tl:Array VI}(ht:aj (dr P fns ws) (gk P.globals.size ws) tl (lv (jm d) t))(hsn:∀(i:Nat)(s:fC),ws[i]?=VF s->fW bad N w s.k\/Cut bad N w s.k s.x.size){Q:Array VI->VH->Prop}(hQ:∀t w T D,Q t w->Q t (re w T D))(H:∀T,cd.wp P (λe a w=>e=.normal/\a.defers=[]/\Q a.tmps w) ⟨tl,[]⟩ (re (c9 P.globals.size ws w) T 0))(O:∀l b,bad l\/N l->cH b l->b<w.heap.size)(K:∀r1 c u v w',Q c v->(gk P.globals.size ws).le r1->aj (dr P fns ws) r1 c u->cC (dr P fns ws) r1 v w'->(∀b k,r1 b=VF k->P.globals.size+ws.length<=b->w.heap.size<=k/\fW bad N w' k)->Kept bad N w w'->aD P Post bad N (G (fx ds VJ f (u.mapIdx λi x=>if jm d i then x else t.getD i VP) tail) cs) w'):aD P Post bad N (G (fx ds VJ f t (.code cd::tail)) cs) w:=by(have j:∀b k,gk P.globals.size ws b=VF k->(dr P fns ws).seen b/\(∃s∈ws,s.k=k)/\(fW bad N w k\/Cut bad N w k ((dr P fns ws).Ed b)):=λb k m=>by obtain⟨i,s,rfl,Y,rfl,I⟩:=eC m;refine⟨⟨TX _ _,by omega⟩,⟨s,Tn Y,rfl⟩,?_⟩;(have:(dr P fns ws).Ed (P.globals.size+i)=s.x.size:=by show(if P.globals.size+i<P.globals.size then 0 else _)=_;grind);grind);have hp:Go.ab.Place P (dr P fns ws) (λ_=>Vo) (gk P.globals.size ws) (c9 P.globals.size ws w) (λ_=>False) (λk=>fW bad N w k) (λk n=>Cut bad N w k n) w:=⟨hl,λg h=>(by cases h),hw.rel,⟨λb k m=>.inr ⟨(j b k m).1,(j b k m).2.2⟩,λk r=>r.elim False.elim λh=>h.1⟩⟩;have C:=Go.ab.Loc.code (main:=VG) (cs:=cs) (F:=fx ds VJ f t (.code cd::tail)) hp (jm d) rfl rfl (by simp[fx]) r R ht hQ H (Stop:=λM g U=>∃r1 c u v,g=G (fx ds VJ f (u.mapIdx λi x=>if jm d i then x else t.getD i VP) tail) cs/\Q c v/\(gk P.globals.size ws).le r1/\aj (dr P fns ws) r1 c u/\cC (dr P fns ws) r1 v U/\(∀b k,r1 b=VF k->P.globals.size+ws.length<=b->M k)/\(∀k,M k->w.heap.size<=k/\k<U.heap.size)/\∀k,fW bad N w k->U.heap[k]?=w.heap[k]?) (λr1 W c u v v1 B S q E A p=>.stop ⟨r1,c,u,v,rfl,S,B,E,q,λb k m J=>by rcases A.zm b k m with x|x;{exact x};have:b<P.globals.size+ws.length:=x.1.2;omega,λk r=>⟨(p.mine k r).resolve_left id,A.old k (.inl r)⟩,λk r=>p.keep k (.inr r) λb m=>(j b k m).1⟩);refine aD.loc (Post:=Post) (bad:=bad) (N:=N) C (λb m=>m.elim False.elim λh=>h) (λb n o h ho=>⟨h.1,h.2 o ho⟩) O λV g' w' _ Z I h4=>?_;obtain⟨r1,c,u,v,rfl,S,B,E,q,L,z,h5⟩:=h4;refine K r1 c u v w' S B E q (λb k m J=>?_) ⟨h5,Z,I.1,I.2.1,I.2.2.1,λk r=>I.2.2.2 k r id⟩;have x:=L b k m J;exact⟨(z k x).1,(z k x).2,λl hl=>⟨λy=>by grind,λy=>by grind⟩⟩
theorem pn{live:List Nat}{t':Array VI}{i:Nat}{v:VI}(a:jm live i=VG)(h:t'[i]?=VF v):(t'.mapIdx λi x=>if jm live i then x else t.getD i VP)[i]?=VF v:=by simp_all
end Go.Bh
namespace Go.Bh
open Go.Proofs Go.Conc Go.Mx Go.Rk Go.Cr Go.Pw Go.Lw Go.Me Go.ab
open Go.ConcM(OsLater)
variable{Post:VI->VH->Prop}{bad N:Loc->Prop}{w w' w0:VH}{x:ay}{mu mm k n out wg b B:Nat}{o:Ws}{F:Int->ByteArray->Me.Fd}{gR:Nat->ByteArray}{c:dz}{r r1:bA}{e t:VX}{v u':VI}{l:List Int}{f:Nat->VI}{s:fC}{T:Tape}
section
variable{bad' bad2:Loc->Prop}{w2:VH}
abbrev No:Loc->Prop:=λ_=>False
structure bN(bad:Loc->Prop)(w:VH)(bad':Loc->Prop)(w':VH):Prop where
 keep:∀k,fW bad No w k->w'.heap[k]?=w.heap[k]?
 grow:w.heap.size<=w'.heap.size
 bad:∀l,bad' l->bad l\/∃b,cH b l/\w.heap.size<=b/\b<w'.heap.size
 os:OsLater w.os w'.os
 out:w'.output=w.output
 tape:w'.tape=w.tape
theorem bN.refl(bad:Loc->Prop)(w:VH):bN bad w bad w:=⟨λ_ _=>rfl,Ti _,λ_ h=>.inl h,OsLater.refl _,rfl,rfl⟩
theorem bN.oj(h:bN bad w bad' w')(a:fW bad No w k):fW bad' No w' k:=⟨Tj a.1 h.grow,λl hl=>⟨λy=>by rcases h.bad l y with y|⟨b,c,d,_⟩;{exact(a.2 l hl).1 y};have:=fj hl c;have:=a.1;omega,λy=>y⟩⟩
theorem bN.trans(h:bN bad w bad' w')(a:bN bad' w' bad2 w2):bN bad w bad2 w2:=⟨λk f=>(a.keep k (h.oj f)).trans (h.keep k f),TK h.grow a.grow,λl hl=>by have g:=h.grow;have i:=a.grow;rcases a.bad l hl with y|⟨b,c,d,e⟩;{rcases h.bad l y with y|⟨b,c,d,e⟩;{exact .inl y};exact .inr ⟨b,c,d,by omega⟩};exact .inr ⟨b,c,by omega,e⟩,h.os.trans a.os,a.out.trans h.out,a.tape.trans h.tape⟩
theorem bN.file(h:bN bad w bad' w')(a:bG bad w x):bG bad' w' x:=a.keep h.keep h.grow h.bad
theorem Kept.aI(h:Kept bad No w w'):bN bad w bad w':=⟨h.keep,h.grow,λ_ h=>.inl h,by rw[h.os];exact OsLater.refl _,h.out,h.tape⟩
theorem Grown.aI(h:Grown w w' o):bN bad w bad w':=⟨λk a=>h.keep k a.1,by rw[h.size];omega,λ_ h=>.inl h,by rw[h.os];exact OsLater.refl _,h.out,h.tape⟩
theorem eF.aI{NS PS:VI}(h:eF bad w mu mm NS PS w'):bN bad w bad w':=⟨h.keep,by have:=h.lt;have:=h.iu;have:=h.size;omega,λ_ h=>.inl h,by rw[h.os];exact OsLater.refl _,h.out,h.tape⟩
theorem nC(b:eF bad w0 mu mm x.NS x.PS w)(c:After F gR bad w mu mm n out wg w'):bN bad w0 (oI bad mu wg) w':=by have e:=b.lt;have f:=b.iu;have g:=b.size;have h:=c.new;refine⟨λk d=>(c.keep k (b.GM d)).trans (b.keep k d),by omega,λl hl=>?_,by rw[<-b.os];exact c.os,c.RD.trans b.out,c.tape.trans b.tape⟩;rcases hl with y|⟨a,rfl,y⟩;{exact .inl y};refine .inr ⟨a.block,rfl,?_,?_⟩<;>omega
theorem After.oj(b:eF bad w0 mu mm x.NS x.PS w)(f:bG bad w0 x)(c:After F gR bad w mu mm n out wg w'):fW (oI bad mu wg) No w' out:=by have h:=c.new;obtain⟨g,d,_⟩:=c.res;have i:=b.lt;have j:=b.iu;have k:=b.size;refine⟨(Tk.1 d).1,λl hl=>⟨λy=>?_,λy=>y⟩⟩;rcases y with y|⟨a,rfl,y⟩;{have:=(f.low l out y hl).2;omega};have e:a.block=out:=hl;omega
theorem uZ{ws:List fC}(o:Gz<=w.heap.size)(h:∀s∈ws,∃(a:Array VI)(fr:Nat×Nat),w.heap[s.k]?=VF (.cells a s.t fr)/\s.x.size<=a.size/\∀(j:Nat)(u c:VI),s.x[j]?=VF u->a[j]?=VF c->u=c/\((∃k n,u=.int k n)\/∃b,u=.string b)):nF Pz b8 ws w:=by refine⟨o,ru,λi s p=>?_⟩;obtain⟨a,fr,f,g,l⟩:=h s (Tn p);refine⟨a,s.t,fr,f,g,λ_=>rfl,λj u c _ q d=>?_⟩;obtain⟨rfl,m⟩:=l j u c q d;exact jI m
theorem CR(h:qh c r b (VF o) VJ):False:=by cases h
theorem A6{o':Ws}(h:qh c r b (VF o) (VF o'))(i:∃a e g,o=.cells a e g):∃d f fr,o'=.cells d f fr:=by cases h with|seen=>exact⟨_,_,_,rfl⟩|own _ j=>cases j with|cells _=>exact⟨_,_,_,rfl⟩|_=>obtain⟨_,_,_,h⟩:=i;cases h
theorem qE{w1:VH}{m:Nat}{l:List VI}(f:cC c r1 w1 w')(r:w1.ownsRow B e m v n l)(s:ai c r1 v u')(K:∀x∈l,Plain x)(I:c.aJ<=B):∃(o:Option Wq)(i:Nat),u'=.slice o n i/\((True/\l=[])\/∃(k b:Nat),o=VF ⟨k,0,VJ⟩/\True/\r1 b=VF k/\B<=b/\(∃u y fr,w'.heap[k]?=VF (.cells u y fr))/\∀(j:Nat)(x:VI),l[j]?=VF x->w'.cell? ⟨k,j,VJ⟩=VF x):=by have a:=r.1;rcases r.2 with⟨rfl,rfl⟩|⟨g,i,D,rfl,z,E,_⟩;{cases s;simpa using a};have J:=r.cells rfl;obtain⟨o,rfl,p⟩:=KV f s K (λe=>by have:=a;rw[e,Vw]at this;exact T0.1 this) (.inr ⟨g,0,rfl,TK I z,λj x t=>by have:=J j x t;rwa[du]at this⟩);refine⟨o,i,rfl,?_⟩;rcases p with p|⟨k,L,rfl,F,_,H⟩;{exact .inl p};cases s with|cB=>exact .inl ⟨trivial,by rw[Vw]at a;exact T0.1 a⟩|@slice _ o _ _ h=>obtain⟨q,A,_⟩:=h;subst A;refine .inr ⟨k,g,rfl,F,q,z,?_,λj x t=>by have:=H j x t;simpa using this⟩;have d:=f.blk g k q;rw[E]at d;cases C:w'.heap[k]? with|none=>rw[C]at d;exact(CR d).elim|some M=>rw[C]at d;obtain⟨u,y,fr,rfl⟩:=A6 d ⟨_,_,_,rfl⟩;exact⟨_,_,_,rfl⟩
theorem As{α:Type}{l:List α}{f:α->Int}:∀x∈l.map (λa=>VI.int .i64 (f a)),Plain x:=λx b=>by obtain⟨a,_,rfl⟩:=To.1 b;exact eb _ _
def aC(k:Nat)(t:VX)(n:Nat)(f:Nat->VI):fC:=⟨k,0,t,((List.range n).map f).toArray⟩
theorem cM{o:Nat}(h:o<n):(aC k t n f).x[o]?=VF (f o):=by simp[aC,h]
theorem CP{c:Array VI}{fr:Nat×Nat}(h:Gz<=w.heap.size)(r:Gz<=k)(i:w.heap[k]?=VF (.cells c t fr))(m:n<=c.size)(l:∀o,o<n->c[o]?=VF (f o))(p:∀o,(∃k n,f o=.int k n)\/∃b,f o=.string b):nF Pz b8 [aC k t n f] w:=by refine uZ h λs q=>?_;(obtain rfl:=by simpa using q);refine⟨c,fr,i,by simpa[aC]using m,λj u v d a=>?_⟩;(have g:=by have:=(Tk.1 d).1;simpa[aC]using this);rw[cM g]at d;rw[l j g]at a;cases d;cases a;exact⟨rfl,p j⟩
theorem IC{i:Nat}{s':fC}(h:[s][i]?=VF s'):i=0/\s=s':=by cases i with|zero=>exact⟨rfl,TZ h⟩|succ i=>cases h
theorem qK:(re (c9 Gz [s] w) T 0).heap.size=Gz+1:=jk Gz [s] w
theorem mi{o:Nat}(h:o<n):(re (c9 Gz [aC k t n f] w) T 0).cell? ⟨Gz,o,VJ⟩=VF (f o):=by have:=bS (g:=Gz) (v:=w) (ws:=[aC k t n f]) (i:=0) rfl (cM h);exact this
def cE(bad:Loc->Prop)(w:VH)(v:VI)(l:List Int):Prop:=
 ∃(a:Option Wq)(cap:Nat),v=.slice a l.length cap/\((True/\l=[])\/∃k,a=VF ⟨k,0,VJ⟩/\True/\fW bad No w k/\∃c e fr,w.heap[k]?=VF (.cells c e fr)/\∀(j:Nat)(n:Int),l[j]?=VF n->c[j]?=VF (Iv n))
theorem cE.aI(h:cE bad w v l)(f:bN bad w bad' w'):cE bad' w' v l:=by obtain⟨a,b,g,i⟩:=h;refine⟨a,b,g,i.imp id λ⟨k,j,m,d,c,e,fr,n,o⟩=>⟨k,j,m,f.oj d,c,e,fr,(f.keep k d).trans n,o⟩⟩
theorem rK{j:Nat}{u:VI}(h:w.cell? ⟨k,j,VJ⟩=VF u):∃c e fr,w.heap[k]?=VF (.cells c e fr)/\c[j]?=VF u:=by unfold VH.cell? at h;cases a:w.heap[k]? with|none=>rw[a]at h;cases h|some o=>rw[a]at h;cases o with|cells c e fr=>exact⟨c,e,fr,rfl,by simpa using h⟩|_=>simp at h
theorem nO{w1:VH}(d:cC c r1 w1 w')(H:w1.ownsRow B e 1 v l.length (l.map λn=>Iv n))(I:ai c r1 v u')(E:Gz<=B)(F:c.aJ=Gz)(u:∀b k,r1 b=VF k->B<=b->fW bad No w' k):cE bad w' u' l:=by obtain⟨y,i,rfl,h⟩:=qE d H I (As) (by rw[F];exact E);refine⟨y,i,rfl,?_⟩;rcases h with⟨_,h⟩|⟨k,b,rfl,K,r,s,C,a⟩;{exact .inl ⟨trivial,by simpa using h⟩};cases l with|nil=>obtain⟨o,p,fr,g⟩:=C;exact .inr ⟨k,rfl,trivial,u b k r s,o,p,fr,g,λj m q=>by cases q⟩|cons n l=>obtain⟨o,p,fr,g,_⟩:=rK (a 0 _ rfl);refine .inr ⟨k,rfl,trivial,u b k r s,o,p,fr,g,λj m q=>?_⟩;have:=a j (Iv m) (by rw[Ty,q];rfl);obtain⟨z,J,A,t,D⟩:=rK this;rw[g]at t;cases t;exact D
end
section
variable{bx:Nat}
theorem nX:1<Gz:=by simp
structure dH(bad:Loc->Prop)(w0 w:VH)(mu mm bx:Nat)(x:ay):Prop where
 port:w.heap[mu]?=VF (.cells #[x.NS,x.PS,.map (VF mm),.int .i32 0,.int .u32 0] 161)
 dC:∃es ck,w.heap[mm]?=VF (.map es ck)/\jx (cF x) es
 box:w.heap[bx]?=VF (.cells #[x.NS,x.PS] 25)
 ord:w0.heap.size<=bx/\bx<mm/\mm<mu
 file:bG bad w0 x
 aI:bN bad w0 bad w
theorem eF.PZ(a:eF bad w0 mu mm x.NS x.PS w)(c:bG bad w0 x):dH bad w0 w mu mm w0.heap.size x:=⟨a.port,⟨#[],0,a.dC,λe b=>by simp at b⟩,a.box,⟨Ti _,a.lt,a.iu⟩,c,a.aI⟩
theorem dH.lt(h:dH bad w0 w mu mm bx x):mu<w.heap.size:=(Tk.1 h.port).1
theorem dH.oj(h:dH bad w0 w mu mm bx x)(b:w0.heap.size<=k)(a:k<w.heap.size):fW bad No w k:=⟨a,λl hl=>⟨λy=>by have:=(h.file.low l k y hl).2;omega,λy=>y⟩⟩
theorem dH.kept(h:dH bad w0 w mu mm bx x)(a:Kept bad No w w'):dH bad w0 w' mu mm bx x:=by obtain⟨g,o2,o3⟩:=h.ord;have b:=h.lt;obtain⟨d,c,f,e⟩:=h.dC;exact⟨(a.keep mu (h.oj Ω b)).trans h.port,⟨d,c,(a.keep mm (h.oj Ω Ω)).trans f,e⟩,(a.keep bx (h.oj g Ω)).trans h.box,h.ord,h.file,h.aI.trans a.aI⟩
theorem dH.grown(h:dH bad w0 w mu mm bx x)(a:Grown w w' o):dH bad w0 w' mu mm bx x:=h.kept ⟨λk b=>a.keep k b.1,by rw[a.size];omega,a.os,a.out,a.tape,a.keep⟩
theorem dH.stored(h:dH bad w0 w mu mm bx x)(a:n0 w w' b o)(i:mu<b):dH bad w0 w' mu mm bx x:=by obtain⟨j,o2,o3⟩:=h.ord;obtain⟨e,d,g,f⟩:=h.dC;refine⟨(a.keep mu Ω).trans h.port,⟨e,d,(a.keep mm Ω).trans g,f⟩,(a.keep bx Ω).trans h.box,h.ord,h.file,⟨λk c=>(a.keep k ?_).trans (h.aI.keep k c),by rw[a.size];grind,λ_ y=>.inl y,by rw[a.os];exact h.aI.os,a.out.trans h.aI.out,a.tape.trans h.aI.tape⟩⟩;have:=c.1;omega
theorem least{p:Nat->Prop}(h:∃n,p n):∃n,p n/\∀m,p m->n<=m:=by obtain⟨n,hn⟩:=h;induction n using Nat.strongRecOn with|_ n ih=>by_cases e:∃m,m<n/\p m;{obtain⟨m,h1,h2⟩:=e;exact ih m h1 h2};exact⟨n,hn,λm hm=>Vx λhl=>e ⟨m,hl,hm⟩⟩
def L6(bad:Loc->Prop)(x:ay)(z:Nat):Prop:=(∀l,cH z l->¬bad l)/\∀k,x.blk k->k≠z
open Classical in
noncomputable def LZ(bad:Loc->Prop)(x:ay):Nat:=if h:∃z,L6 bad x z then(least h).choose else 0
theorem bG.zs(h:bG bad w x):LZ bad x<w.heap.size/\(∀l,cH (LZ bad x) l->¬bad l)/\∀k,x.blk k->k≠LZ bad x:=by obtain⟨z,z1,z2⟩:=h.nz;have e:∃z,L6 bad x z:=⟨z,z2⟩;have:=(least e).choose_spec;unfold LZ;rw[dif_pos e];exact⟨Vv (this.2 z z2) z1,this.1⟩
noncomputable def dH.z(_:dH bad w0 w mu mm bx x):Nat:=LZ bad x
theorem dH.zs(h:dH bad w0 w mu mm bx x):h.z<w0.heap.size/\(∀l,cH h.z l->¬bad l)/\∀k,x.blk k->k≠h.z:=h.file.zs
theorem dH.solo(h:dH bad w0 w mu mm bx x):mZ (cF x) bad w mu mm bx h.z x.NS x.PS []:=by obtain⟨e,o2,o3⟩:=h.ord;have c:=h.file.ig;have d:=nX;obtain⟨z1,z2,z3⟩:=h.zs;refine⟨h.port,h.dC,h.box,⟨by omega,o2,o3,z2⟩,λl b y hl=>Tj (h.file.low l b y hl).2 h.aI.grow,λl b y hl=>?_,UR,λp a=>by cases a⟩;have:=(h.file.low l b y hl).2;omega
theorem dH.M6(h:dH bad w0 w mu mm bx x)(halt:(Nat->Prop)->VK->VH->Prop):iE (Ih (cF x) bad w mu mm bx h.z x.NS x.PS 161 [] halt) (PF bad w mu mm bx h.z []) w0 x:=by obtain⟨m,o2,o3⟩:=h.ord;have d:=h.lt;refine h.solo.file h.file.at_ h.file.sm (λk a=>h.aI.keep k (h.file.blk k a)) (λk a=>?_) (by have:=h.file.ig;omega) (λp f=>by cases f) (λl b y hl=>(h.file.low l b y hl).1);have g:=(h.file.blk k a).1;have i:=h.zs.2.2 k a;have j:=nX;exact⟨⟨by omega,by omega,by omega,λl hl c=>((h.file.blk k a).2 l c).1 hl⟩,by omega,by omega,λe=>by cases e⟩
theorem GY(h:dH bad w0 w mu mm bx x){p:ar}(f:x.ps[k]?=VF p){s:ByteArray}(u:s.size<=6){caller:VU}{cs:List VU}(K:∀w',dH bad w0 w' mu mm bx x->(∀k,k<w.heap.size->k≠mu->k≠mm->w'.heap[k]?=w.heap[k]?)->w.heap.size<=w'.heap.size->aD Pz Post bad No (G (caller.finish (fv (cF x (k:Nat) s))) cs) w'):aD Pz Post bad N (G (fr 75 (#[ϖ mu,sk (k:Nat) s]++Array.replicate (f75.ntmps-2) VP) [.code (f75.body.getD .skip)]) (caller::cs)) w:=by obtain⟨A,o2,o3⟩:=h.ord;have t:=h.lt;have a:=h.solo;refine aD.solo (C:=Ih (cF x) bad w mu mm bx h.z x.NS x.PS 161 [] λ_ g _=>g=G (caller.finish (fv (cF x (k:Nat) s))) cs) (own:=λk=>k∈([]:List (Nat×Ws)).map Prod.fst) a.alone rfl ?_ ?_;{exact B9 wG a.wc (.inr trivial) (h.M6 _) f u _ w [] caller cs (a.hp) λe B _ hH=>af.stop trivial rfl λD z=>rfl};intro m e q w' hS l;have l:q=_:=l;subst l;have d:∀k,k<w.heap.size->k≠mu->k≠mm->w'.heap[k]?=w.heap[k]?:=λk i j r=>hS.keep k i Θ j r;refine K w' ⟨?_,?_,(d bx Ω Ω Ω).trans h.box,h.ord,h.file,⟨λk f=>?_,TK h.aI.grow hS.grow,λ_ y=>.inl y,h.aI.os.trans hS.os,hS.out.trans h.aI.out,hS.tape.trans h.aI.tape⟩⟩ d hS.grow;{exact hS.word};{obtain⟨o,⟨n,i⟩,j⟩:=hS.dC rfl;exact⟨o,n,i,j⟩};have:=f.1;have:=h.aI.grow;exact(d k Ω Ω Ω).trans (h.aI.keep k f)
end
end Go.Bh
namespace Go.Bh
open Go.Proofs Go.Conc Go.Mx Go.Rk Go.Cr Go.Pw Go.Lw Go.Me Go.ab
variable{P:V6}{Post:VI->VH->Prop}{bad:Loc->Prop}{w:VH}
section
variable{N:Loc->Prop}{w':VH}
theorem oR{c:dz}{r:bA}{l:Array VI}(h:∀u∈l,(∃k n,u=.int k n)\/(∃s,u=.string s)):aj c r l l:=⟨rfl,λi u d a b=>by rw[a]at b;cases b;exact jI (h u (T1 a))⟩
theorem RQ(a:Int){n:Nat}(b:0<=a)(c:a<n)(d:n<=1000):decide (0<=a/\a<=VV.i64.wrap ((n:Int)-1))=VG:=by rw[VV.wrap_i64];grind
end
section
structure Q9 where
 t:Array VI
 bad:Loc->Prop
 w:VH
section
variable{f:V8}{t:Array VI}{kk:List Wg}{cs:List VU}{ops:Array Oper}{x M:Nat}{rest:List Nat}{ds:List Wo}{ro:Option Nat}
theorem pW{id:Nat}(p:P.follows .mixedOrders=VG)(g:vK ops=VG)(I:Array Bool->Q9->Prop)(q:∀listed a c rest,listed.size=ops.size->c<ops.size->listed.getD c Vo=Vo->(∀k,waits ops c k=VG->listed.getD k Vo=VG)->Closed ops listed->I listed a->(∀e,I (listed.setIfInBounds c VG) e->aD P Post e.bad No (G (fx ds ro f e.t (.inRegion ops rest::kk)) cs) e.w)->aD P Post a.bad No (G (fx ds ro f a.t (.inRegion ops (c::rest)::kk)) cs) a.w)(m:∀listed a,(∀i,i<ops.size->listed.getD i Vo=VG)->I listed a->aD P Post a.bad No (G (fx ds ro f a.t (.inRegion ops []::kk)) cs) a.w)(j:I (Array.replicate ops.size Vo) ⟨t,bad,w⟩):aD P Post bad No (G (fx ds ro f t (.code (.region id ops VG)::kk)) cs) w:=by refine aD.step rfl λd=>⟨G (fx ds ro f t (.inRegion ops (Region.schedule (P.follows .mixedOrders) ops (w.tape d (.order f id)))::kk)) cs,w.at (d+1),#[],No,?_,Ti _,dN.refl _ _,λ_ o=>by simp at o,?_⟩;{cases ro<;>simp[G,VO,VO.exec,choose,Sem.run,Question.forced,Question.cut]<;>exact⟨rfl,rfl⟩};refine aD.at ?_ _;simp only[Region.schedule,p,Vg,if_true,Region.linearise];refine yx (A:=Q9) g I (λl a=>aD P Post a.bad No (G (fx ds ro f a.t (.inRegion ops l::kk)) cs) a.w) q m (a:=⟨t,bad,w⟩) Θ ?_ (λn k _ h=>?_) j;{unfold Ou;exact TK (List.length_filter_le _ _) Θ};simp only[Tp,TE]at h;split at h<;>simp at h
end
end
end Go.Bh
namespace Go.Bh
open Go.Proofs Go.Conc Go.Mx Go.Rk Go.Cr Go.Pw Go.Lw Go.Me Go.ab
open Go.ConcM(OsLater)
variable{b M n:Nat}{o:Ws}{cs:List VU}{f q:V8}{L L':List (Nat×VI)}{t:Array VI}{k k':List Wg}{O:List (Nat×Ob)}{ix:List Nat}{F caller:VU}{c:Code}{x:ay}
section
variable{Post:VI->VH->Prop}{bad0 bad bad' N:Loc->Prop}{w0 w w':VH}{H:List (Nat×Ws)}
structure Mn(bad0:Loc->Prop)(w0:VH)(bad:Loc->Prop)(w:VH)(H:List (Nat×Ws)):Prop where
 aI:bN bad0 w0 bad w
 low:∀l b,bad l->cH b l->b<w.heap.size
 nd:(H.map Prod.fst).Nodup
 at_:∀p∈H,w0.heap.size<=p.1/\(∀l,cH p.1 l->¬bad l)/\w.heap[p.1]?=VF p.2
theorem Mn.lt(h:Mn bad0 w0 bad w H){p:Nat×Ws}(a:p∈H):p.1<w.heap.size:=(Tk.1 (h.at_ p a).2.2).1
theorem Mn.begin(h:∀l b,bad l->cH b l->b<w.heap.size):Mn bad w bad w []:=⟨bN.refl _ _,h,.nil,λp a=>by cases a⟩
theorem Mn.call(h:Mn bad0 w0 bad w H)(g:bN bad w bad' w'):Mn bad0 w0 bad' w' H:=
 have c:=λp a=>⟨h.lt a,λl hl=>⟨(h.at_ p a).2.1 l hl,λy=>y⟩⟩
 ⟨h.aI.trans g,λl b hl d=>by
   rcases g.bad l hl with y|⟨f,e,i,j⟩
   ·exact Tj (h.low l b y d) g.grow
   ·rwa[fj d e],h.nd,λp a=>⟨(h.at_ p a).1,λl hl=>((g.oj (c p a)).2 l hl).1,(g.keep _ (c p a)).trans (h.at_ p a).2.2⟩⟩
def fi(bad:Loc->Prop)(w:VH)(H:List (Nat×Ws)):Prop:=∀p∈H,fW bad No w p.1/\w.heap[p.1]?=VF p.2
theorem Sx(h:fW bad No w b)(g:w.heap[b]?=VF o):fi bad w [(b,o)]:=λp a=>by obtain rfl:=Us.1 a;exact⟨h,g⟩
theorem Mn.kn(h:Mn bad0 w0 bad w H):fi bad w H:=λp a=>⟨⟨h.lt a,λl hl=>⟨(h.at_ p a).2.1 l hl,λy=>y⟩⟩,(h.at_ p a).2.2⟩
theorem zF{B:Nat}{e:Event}(i:w6 b e)(f:∀l,cH b l->¬bad l)(g:b<B):EvB bad No B e:=by obtain⟨d,k,m⟩:=e;obtain⟨c,rfl⟩:=i;cases d with|cell a=>exact⟨evL_cell a k (f _ c) (by rw[c];exact g),λy=>y⟩|obj r=>obtain rfl:=c;refine⟨⟨λx h j=>?_,by simp,by simp,by simpa[We.ofEvent,We.low,Loc.low]using g⟩,by simp[qU,We.ofEvent]⟩;simp only[We.ofEvent,We.touch?,Tu]at h;subst h;exact absurd j (f _ rfl)|_=>cases c
theorem DC:Carry Pz Vo VG cs (λ_ g w=>aD Pz Post bad No g w) (λ_ w H=>Mn bad0 w0 bad w H) True where
 ctl _ _ _ _ j h:=aD.ctl rfl j h
 mem _ w H k b o K F z hK r _ j h:=by
  have n:(b,o)∈H:=Tn r
  obtain⟨t,u,v⟩:=hK.at_ _ n
  have s:=hK.lt n
  refine aD.step rfl λd=>?_
  obtain⟨B,C,D⟩:=j (w.at d) v
  refine⟨_,(iw w b K).at d,B,No,C,by simp[iw,VH.at],dN.refl _ _,λe q=>zF (D e q) u (by simpa[iw,VH.at]using s),aD.at (h _ ⟨⟨λc m=>(pC λe=>by have:=m.1;simp only at t;omega).trans (hK.aI.keep c m),by simpa[iw]using hK.aI.grow,λl hl=>?_,hK.aI.os,hK.aI.out,hK.aI.tape⟩,λl c hl m=>by simpa[iw]using hK.low l c hl m,by rw[yA r];exact hK.nd,λp f=>?_⟩) d⟩
  ·simpa[iw]using hK.aI.bad l hl
  · rcases mem_set hK.nd r p f with rfl|⟨x,y⟩
    ·exact⟨t,u,pD v⟩
    ·exact⟨(hK.at_ p x).1,(hK.at_ p x).2.1,(pC y).trans (hK.at_ p x).2.2⟩
 new _ _ w H o F z hK j h:=by
  refine aD.step rfl λd=>⟨_,(w.alloc o).at d,#[],No,j (w.at d),by simp[VH.at],dN.refl _ _,λe q=>by simp at q,aD.at (h (λ_=>True) w.heap.size _ ?_) d⟩
  have g:=Grown.alloc w o
  refine⟨hK.aI.trans g.aI,λl b hl E=>by rw[g.size];exact Nat.lt_succ_of_lt (hK.low l b hl E),?_,λp f=>?_⟩
  · simp only[TT,Uo]
    refine⟨λn=>?_,hK.nd⟩
    obtain⟨p,f,e⟩:=To.1 n
    have:=hK.lt f
    omega
  · rcases Tq.1 f with rfl|f
    ·exact⟨hK.aI.grow,λl hl y=>by have:=hK.low l _ y hl;simp at this,g.new⟩
    ·exact⟨(hK.at_ p f).1,(hK.at_ p f).2.1,(g.keep _ (hK.lt f)).trans (hK.at_ p f).2.2⟩
theorem lM(F:VU)(u:VI):(F.finish u).mode=F.mode/\(F.finish u).kind=F.kind:=by unfold VU.finish;split<;>exact⟨rfl,rfl⟩
section
variable{ds:List Wo}{ro:Option Nat}{u:VI}
theorem FP{r:Nat}{L':List Nat->List (Nat×VI)}{H':List Nat->List (Nat×Ws)}(q:F.mode=.run)(p:F.kind≠.early)(hK:Mn bad0 w0 bad w H)(e:∀bs:List Nat,bs.length=r->ez Vo O n ix bs F (fx ds ro f #[] k') M (L' bs) H (H' bs))(h:∀bs:List Nat,bs.length=r->∀t w,Sl M (L' bs) t->Mn bad0 w0 bad w (H' bs)->aD Pz Post bad No (G (fx ds ro f t k') cs) w):aD Pz Post bad No (G F cs) w:=(DC).run (oh O) n ix r (λ_=>trivial) (λ_=>True) w F H q p hK λbs c=>by obtain⟨x,d,g,i,s,j,l,m⟩:=(e bs c).end;exact⟨x,d,g,i,λ_ w b=>by rw[j];exact h bs c s w l (m▸b)⟩
theorem lA:Carry Pz VG VG cs (λ_ g w=>aD Pz Post bad No g w) (λ_ w' H'=>w'=w/\H'=H/\fi bad w H) False where
 ctl _ _ _ _ m h:=aD.ctl rfl m h
 mem _ w' H' k b o r F C hK j z m h:=by
  obtain⟨rfl,rfl,hK⟩:=hK
  obtain rfl:=z rfl
  obtain⟨n,p⟩:=hK _ (Tn j)
  refine aD.step rfl λd=>?_
  obtain⟨v,q,x⟩:=m (w'.at d) p
  have e:H'.set k (b,r)=H':=by
   apply U1
   intro i
   rw[List.getElem?_set]
   split
   ·rename_i e;subst e;rw[if_pos (Tx.1 j).1,j]
   ·rfl
  rw[mH (show(w'.at d).heap[b]?=VF r from p)]at q
  exact⟨_,w'.at d,v,No,q,Ti _,dN.refl _ _,λe y=>zF (x e y) (λl hl=>(n.2 l hl).1) n.1,aD.at (h w' ⟨rfl,e,hK⟩) d⟩
 new h:=h.elim
theorem Qk(p:F.mode=.run)(o:F.kind≠.early)(hK:fi bad w H)(e:ez VG O n ix [] F (fx ds ro f #[] k') M L' H H)(h:∀t,Sl M L' t->aD Pz Post bad No (G (fx ds ro f t k') cs) w):aD Pz Post bad No (G F cs) w:=(lA).run (oh O) n ix 0 (λh=>absurd rfl h) (λ_=>True) w F H p o ⟨rfl,rfl,hK⟩ λr m=>by obtain rfl:=T0.1 m;obtain⟨x,c,d,g,q,i,j,_⟩:=e.end;exact⟨x,c,d,g,λ_ w' b=>by rw[i,b.1];exact h q j⟩
theorem dR(H:List (Nat×Ws))(ix:List Nat)(k':List Wg)(L':List (Nat×VI))(hK:fi bad w H)(h:∀t,Sl M L' t->aD Pz Post bad No (G (fx ds ro f t k') cs) w)(n:Nat:=300)(O:List (Nat×Ob):=[])(hS:Sl M L t:=by exact hS)(e:ez VG O n ix [] (fx ds ro f (tm M L t) k) (fx ds ro f #[] k') M L' H H:=by delta ez;kernel_rfl):aD Pz Post bad No (G (fx ds ro f t k) cs) w:=by rw[hS.tm];exact Qk rfl Θ hK e h
theorem eR(H:List (Nat×Ws))(ix:List Nat)(k':List Wg)(L':List (Nat×VI))(hK:fi bad w H)(h:∀t,Sl M L' t->aD Pz Post bad No (G (fx ds ro f t k') cs) w)(n:Nat:=300)(O:List (Nat×Ob):=[])(hS:Sl M L t:=by exact hS)(e:ez VG O n ix [] ((fx ds ro f (tm M L t) k).finish u) (fx ds ro f #[] k') M L' H H:=by delta ez;kernel_rfl):aD Pz Post bad No (G ((fx ds ro f t k).finish u) cs) w:=by rw[hS.tm];exact Qk (lM _ _).1 (by rw[(lM _ _).2];simp) hK e h
theorem zN:Carry Pz Vo VG cs (λ_ g w=>aD Pz Post bad N g w) (λ_ w' H=>w'=w/\H=[]) False where
 ctl _ _ _ _ i h:=aD.ctl rfl i h
 mem _ w H k b o n F m hK c:=by rw[hK.2]at c;cases c
 new h:=h.elim
theorem Po(o:F.mode=.run)(m:F.kind≠.early)(e:ez Vo O n [] [] F (fx ds ro f #[] k') M L' [] [])(h:∀t,Sl M L' t->aD Pz Post bad N (G (fx ds ro f t k') cs) w):aD Pz Post bad N (G F cs) w:=(zN).run (oh O) n [] 0 (λh=>absurd rfl h) (λ_=>True) w F [] o m ⟨rfl,rfl⟩ λq l=>by obtain rfl:=T0.1 l;obtain⟨x,c,d,g,p,i,j,_⟩:=e.end;exact⟨x,c,d,g,λ_ w' b=>by rw[i,b.1];exact h p j⟩
theorem dQ(k':List Wg)(L':List (Nat×VI))(h:∀t,Sl M L' t->aD Pz Post bad N (G (fx ds ro f t k') cs) w)(n:Nat:=300)(O:List (Nat×Ob):=[])(hS:Sl M L t:=by exact hS)(e:ez Vo O n [] [] (fx ds ro f (tm M L t) k) (fx ds ro f #[] k') M L' [] []:=by delta ez;kernel_rfl):aD Pz Post bad N (G (fx ds ro f t k) cs) w:=by rw[hS.tm];exact Po rfl Θ e h
theorem eQ(k':List Wg)(L':List (Nat×VI))(h:∀t,Sl M L' t->aD Pz Post bad N (G (fx ds ro f t k') cs) w)(n:Nat:=300)(O:List (Nat×Ob):=[])(hS:Sl M L t:=by exact hS)(e:ez Vo O n [] [] ((fx ds ro f (tm M L t) k).finish u) (fx ds ro f #[] k') M L' [] []:=by delta ez;kernel_rfl):aD Pz Post bad N (G ((fx ds ro f t k).finish u) cs) w:=by rw[hS.tm];exact Po (lM _ _).1 (by rw[(lM _ _).2];simp) e h
theorem d0(ix:List Nat)(st:List (Nat×(Ws->Ws)))(k':List Wg)(L':List (Nat×VI))(h:∀t w,Sl M L' t->Mn bad0 w0 bad w (fV st H)->aD Pz Post bad No (G (fx ds ro f t k') cs) w)(n:Nat:=300)(O:List (Nat×Ob):=[])(hS:Sl M L t:=by exact hS)(hK:Mn bad0 w0 bad w H:=by exact hK)(e:ez Vo O n ix [] (fx ds ro f (tm M L t) k) (fx ds ro f #[] k') M L' H (fV st H):=by delta ez;kernel_rfl):aD Pz Post bad No (G (fx ds ro f t k) cs) w:=by rw[hS.tm];exact FP (r:=0) (L':=λbs=>L') (H':=λbs=>fV st H) rfl Θ hK (λbs hb=>by match bs,hb with|[],_=>exact e) λbs hb=>by match bs,hb with|[],_=>exact h
theorem d1(ix:List Nat)(os:Nat->List Ws)(st:List (Nat×(Ws->Ws)))(k':List Wg)(L':Nat->List (Nat×VI))(h:∀b,∀t w,Sl M (L' b) t->Mn bad0 w0 bad w (fV st (sD [b] (os b) H))->aD Pz Post bad No (G (fx ds ro f t k') cs) w)(n:Nat:=300)(O:List (Nat×Ob):=[])(hS:Sl M L t:=by exact hS)(hK:Mn bad0 w0 bad w H:=by exact hK)(e:∀b,ez Vo O n ix [b] (fx ds ro f (tm M L t) k) (fx ds ro f #[] k') M (L' b) H (fV st (sD [b] (os b) H)):=by intro b;delta ez;kernel_rfl):aD Pz Post bad No (G (fx ds ro f t k) cs) w:=by rw[hS.tm];exact FP (r:=1) (L':=λbs=>(L' (bs.getD 0 0))) (H':=λbs=>fV st (sD bs (os (bs.getD 0 0)) H)) rfl Θ hK (λbs hb=>by match bs,hb with|[b],_=>exact e b) λbs hb=>by match bs,hb with|[b],_=>exact h b
theorem e1(ix:List Nat)(os:Nat->List Ws)(st:List (Nat×(Ws->Ws)))(k':List Wg)(L':Nat->List (Nat×VI))(h:∀b,∀t w,Sl M (L' b) t->Mn bad0 w0 bad w (fV st (sD [b] (os b) H))->aD Pz Post bad No (G (fx ds ro f t k') cs) w)(n:Nat:=300)(O:List (Nat×Ob):=[])(hS:Sl M L t:=by exact hS)(hK:Mn bad0 w0 bad w H:=by exact hK)(e:∀b,ez Vo O n ix [b] ((fx ds ro f (tm M L t) k).finish u) (fx ds ro f #[] k') M (L' b) H (fV st (sD [b] (os b) H)):=by intro b;delta ez;kernel_rfl):aD Pz Post bad No (G ((fx ds ro f t k).finish u) cs) w:=by rw[hS.tm];exact FP (r:=1) (L':=λbs=>(L' (bs.getD 0 0))) (H':=λbs=>fV st (sD bs (os (bs.getD 0 0)) H)) (lM _ _).1 (by rw[(lM _ _).2];simp) hK (λbs hb=>by match bs,hb with|[b],_=>exact e b) λbs hb=>by match bs,hb with|[b],_=>exact h b
theorem d3(ix:List Nat)(os:Nat->Nat->Nat->List Ws)(st:List (Nat×(Ws->Ws)))(k':List Wg)(L':Nat->Nat->Nat->List (Nat×VI))(h:∀b c d,∀t w,Sl M (L' b c d) t->Mn bad0 w0 bad w (fV st (sD [b,c,d] (os b c d) H))->aD Pz Post bad No (G (fx ds ro f t k') cs) w)(n:Nat:=300)(O:List (Nat×Ob):=[])(hS:Sl M L t:=by exact hS)(hK:Mn bad0 w0 bad w H:=by exact hK)(e:∀b c d,ez Vo O n ix [b,c,d] (fx ds ro f (tm M L t) k) (fx ds ro f #[] k') M (L' b c d) H (fV st (sD [b,c,d] (os b c d) H)):=by intro b c d;delta ez;kernel_rfl):aD Pz Post bad No (G (fx ds ro f t k) cs) w:=by rw[hS.tm];exact FP (r:=3) (L':=λbs=>(L' (bs.getD 0 0) (bs.getD 1 0) (bs.getD 2 0))) (H':=λbs=>fV st (sD bs (os (bs.getD 0 0) (bs.getD 1 0) (bs.getD 2 0)) H)) rfl Θ hK (λbs hb=>by match bs,hb with|[b,c,d],_=>exact e b c d) λbs hb=>by match bs,hb with|[b,c,d],_=>exact h b c d
theorem e3(ix:List Nat)(os:Nat->Nat->Nat->List Ws)(st:List (Nat×(Ws->Ws)))(k':List Wg)(L':Nat->Nat->Nat->List (Nat×VI))(h:∀b c d,∀t w,Sl M (L' b c d) t->Mn bad0 w0 bad w (fV st (sD [b,c,d] (os b c d) H))->aD Pz Post bad No (G (fx ds ro f t k') cs) w)(n:Nat:=300)(O:List (Nat×Ob):=[])(hS:Sl M L t:=by exact hS)(hK:Mn bad0 w0 bad w H:=by exact hK)(e:∀b c d,ez Vo O n ix [b,c,d] ((fx ds ro f (tm M L t) k).finish u) (fx ds ro f #[] k') M (L' b c d) H (fV st (sD [b,c,d] (os b c d) H)):=by intro b c d;delta ez;kernel_rfl):aD Pz Post bad No (G ((fx ds ro f t k).finish u) cs) w:=by rw[hS.tm];exact FP (r:=3) (L':=λbs=>(L' (bs.getD 0 0) (bs.getD 1 0) (bs.getD 2 0))) (H':=λbs=>fV st (sD bs (os (bs.getD 0 0) (bs.getD 1 0) (bs.getD 2 0)) H)) (lM _ _).1 (by rw[(lM _ _).2];simp) hK (λbs hb=>by match bs,hb with|[b,c,d],_=>exact e b c d) λbs hb=>by match bs,hb with|[b,c,d],_=>exact h b c d
variable{ops:Array Oper}{y:Nat}{rest:List Nat}{kk:List Wg}
noncomputable def R6(ops:Array Oper)(y:Nat)(t:Array VI):Option (Bool×Option Tmp×VI×Option Bool):=(ops[y]?).bind λo=>match o.op with
 |.load ty z=>VF (Region.wanted o (yielded ops t),o.dst,(⟨t,[]⟩:Act).eval z,eE Pz (isAgg ty))
 |_=>VJ
theorem xc(d:Nat)(u:VI){ad:Wq}(hc:w.cell? ad=VF u)(hf:fW bad No w ad.block)(h:Sl M ((d,u)::L) (t.setIfInBounds d u)->aD Pz Post bad No (G (fx ds ro f (t.setIfInBounds d u) (.inRegion ops rest::kk)) cs) w)(hS:Sl M L t:=by exact hS)(e:(R6 ops y (tm M L t),decide (d<M),L.all λp=>!(p.1==d))=(VF (VG,VF d,.pointer (VF ad),VF Vo),VG,VG):=by kernel_rfl):aD Pz Post bad No (G (fx ds ro f t (.inRegion ops (y::rest)::kk)) cs) w:=by obtain⟨e1,e⟩:=TR e;obtain⟨e2,e3⟩:=TR e;rw[<-hS.tm]at e1;obtain⟨o,ho,e1⟩:=TO.1 e1;split at e1;{rename_i ty z hop;simp only[Tu,Tw]at e1;obtain⟨hw,hd,hx,ha⟩:=e1;refine ey hS ho (by rw[<-hS.tm];exact hw) hd (λk=>by rw[hop];simp) (Ti _) (dN.refl _ _) (λd'=>?_) (h (hS.pt (of_decide_eq_true e2) e3));obtain⟨h1,h2⟩:=jg (P:=Pz) (w:=w.at d') (u:=u) (o:=o) (ev:=(⟨t,[]⟩:Act).eval) hop hx (λw=>(gX ha w).1) hc;refine⟨h1,λe he=>?_⟩;rw[h2]at he;(obtain rfl:e=_:=by simpa using he);exact jw (hf.2 (.cell ad) rfl).1 (λy=>y) hf.1};cases e1
noncomputable def vv(F:VU):Option (V8×Array VI×Bool×Option Code):=(zD F).bind λx=>(Pz.funcs[x.1]?).map λfn=>(x.1,x.2++Array.replicate (fn.ntmps-x.2.size) VP,fn.name== "runtime.NumGoroutine",fn.body)
theorem dc{t2:Array VI}(hc:aD Pz Post bad N (G (fr q t2 [.code c]) (fx ds ro f t k::cs)) w)(hS:Sl M L t:=by exact hS)(e:vv (fx ds ro f (tm M L t) k)=VF (q,t2,Vo,VF c):=by kernel_rfl):aD Pz Post bad N (G (fx ds ro f t k) cs) w:=by rw[<-hS.tm]at e;obtain⟨⟨q',args⟩,h1,h2⟩:=TO.1 e;obtain⟨fn,hf,h2⟩:=Ts.1 h2;simp only[Tw]at h2;obtain⟨rfl,rfl,hn,hb⟩:=h2;exact aD.ctl (g:=G (fx ds ro f t k) cs) rfl (λw=>u7 h1 rfl Θ hf hn hb) hc
noncomputable def O2(F:VU):Array VI:=match vv F with|some x=>x.2.1|none=>#[]
theorem dt(hc:aD Pz Post bad N (G (fr q (O2 (fx ds ro f (tm M L t) k)) [.code c]) (fx ds ro f t k::cs)) w)(hS:Sl M L t:=by exact hS)(e:vv (fx ds ro f (tm M L t) k)=VF (q,O2 (fx ds ro f (tm M L t) k),Vo,VF c):=by kernel_rfl):aD Pz Post bad N (G (fx ds ro f t k) cs) w:=dc hc hS e
theorem nJ(u:VI)(h:aD Pz Post bad N (G (caller.finish u) cs) w)(hS:Sl M L t:=by exact hS)(e:uE k=VG:=by rfl)(e2:((Pz.funcs[f]?).bind λfn=>eE Pz (results fn (tm M L t)))=VF u:=by kernel_rfl):aD Pz Post bad N (G (fx [] VJ f t k) (caller::cs)) w:=by rw[<-hS.tm]at e2;obtain⟨fn,hf,e2⟩:=TO.1 e2;refine aD.ctl (g':=G (zB [] VJ f t k) (caller::cs)) rfl (λw=>?_) (jf hf (λw=>(gX e2 w).1) (λw=>(gX e2 w).2) h);unfold uE at e;split at e;{simp[G,VO,VO.exec]};{simp[G,VO,VO.exec]};cases e
end
theorem Lm(j:Nat)(u:VI)(hK:fi bad w H)(h:aD Pz Post bad No (G (caller.finish u) cs) w)(hj:H[j]?=VF (b,o):=by rfl)(hS:Sl M L t:=by exact hS)(e:uE k=VG:=by rfl)(e2:leaves o f (tm M L t)=VF (u,o,((leaves o f (tm M L t)).map λr=>r.2.2.map λ_=>b).getD []):=by kernel_rfl):aD Pz Post bad No (G (fx [] VJ f t k) (caller::cs)) w:=by rw[<-hS.tm]at e2;(have hall:∀q,leaves o f t=VF (u,o,q)->q=q.map (λ_=>b):=λq hq=>by rw[hq]at e2;simpa using e2);generalize hq:((leaves o f t).map λr=>r.2.2.map λ_=>b).getD []=q at e2;have h1:=hall q e2;obtain⟨fn,hf,e2⟩:=TO.1 e2;(have hb:∀r∈q,r=b:=λr hr=>by rw[h1]at hr;obtain⟨_,_,rfl⟩:=To.1 hr;rfl);obtain⟨k1,k2⟩:=hK _ (Tn hj);refine aD.ctl (g':=G (zB [] VJ f t k) (caller::cs)) rfl (λw=>?_) (aD.step rfl λd=>?_);{unfold uE at e;split at e;{simp[G,VO,VO.exec]};{simp[G,VO,VO.exec]};cases e};have k3:(w.at d).heap[b]?=VF o:=k2;obtain⟨h2,h3⟩:=rG e2 hb k3;rw[mH k3]at h2;refine⟨_,w.at d,_,No,ab.aO hf h2,Ti _,dN.refl _ _,λy hy=>?_,h.at d⟩;obtain⟨es',h4,h5⟩:=h3 #[];exact zF (h5 y (by have:=cg hy;rw[h4]at this;simpa using this)) (λl hl=>(k1.2 l hl).1) k1.1
theorem Mn.get(h:Mn bad0 w0 bad w H){k:Nat}(a:H[k]?=VF (b,o)):w0.heap.size<=b/\fW bad No w b/\w.heap[b]?=VF o:=⟨(h.at_ _ (Tn a)).1,h.kn _ (Tn a)⟩
theorem _root_.Go.Bh.bG.lt(h:bG bad w x):∀l b,bad l->cH b l->b<w.heap.size:=λl b hl a=>(h.low l b hl a).2
theorem Mn.boxed{k:Nat}(a:Mn bad0 w0 bad w H)(e:bG bad0 w0 x)(f:H[k]?=VF (b,.cells #[x.NS,x.PS] 25)):fX bad No w b x:=
 have c:=a.aI.file e
 have d:=Tn f
 ⟨c.at_,c.blk,(a.kn _ d).1,TK (TL e.ig) (a.at_ _ d).1,(a.kn _ d).2,λl b hl=>c.lt l b (hl.resolve_right id)⟩
def cK:VI->Bool
 |.int ..|.string _=>VG
 |_=>Vo
theorem Qg(q:V8)(args:Array VI)(u:VI)(d:bG bad w x)(H:∀w,Calls Pz q args w λe _=>e=.returned u)(K:∀w',Kept bad No w w'->aD Pz Post bad No (G (caller.finish u) cs) w')(c:Plain u:=by exact gm _)(f:args.all cK=VG:=by kernel_rfl)(e:(b8 q,Pz.funcs[q]?,(Ib q).body)=(VG,VF (Ib q),VF ((Ib q).body.getD .skip)):=by kernel_rfl):aD Pz Post bad No (G (fr q (args++Array.replicate ((Ib q).ntmps-args.size) VP) [.code ((Ib q).body.getD .skip)]) (caller::cs)) w:=by obtain⟨e1,e⟩:=TR e;obtain⟨e2,e3⟩:=TR e;refine iz (eh _) (lx (TL d.ig)) e1 e2 e3 c (λi s h=>by cases h) (oR λu c=>?_) (λT=>H _) (λl b hl=>d.lt l b (hl.resolve_right id)) K;have:=UU.1 f u c;cases u<;>simp[cK]at this;{exact .inl ⟨_,_,rfl⟩};exact .inr ⟨_,rfl⟩
end
end Go.Bh
