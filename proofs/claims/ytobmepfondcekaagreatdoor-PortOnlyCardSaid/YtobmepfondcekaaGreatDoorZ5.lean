/- A part of the proof that PortOnly holds for every input. Conditions: none. -/
import Derived.Test.YtobmepfondcekaaGreatDoorZ4
import Derived.Conc.FxWorld
set_option linter.all false
open Go.Proofs.Tryz renaming prog->Pz
open Go renaming Addr->Vs,Builtin->Vm,CallKind->VA,Deferred->Vo,Event->Vv,Frame->U0,FuncId->Va,Goroutine->UP,Item->Vj,MemAct->Ve,MemOp->Vy,Obj->Vu,Trace->VE,Value->UO,World->UL,deafBehind->Vb,execOp->UZ,stepG->UY,undef->UT
open Bool renaming false->Ul,true->UJ
open Option renaming none->UM,some->UG
open Go.Proofs.Tryz
namespace Go.Me
open Go.Proofs Go.Conc Go.Mx Go.Rk Go.Cr Go.Pw Go.Lw
open Go.ConcR(KK WgAt stA smA rd wr mk)
variable{C:Cx}{i j b1 b2 b bl bd b5 b4 b3:Nat}{FR:UL->Prop}{F:Int->ByteArray->Fd}{ownA own:Nat->Prop}{a y:Int}{s:ByteArray}{L:List (Nat×Vu)}{t:Array UO}{v:UL}{kk:List Vj}{cs:List U0}{l:List Nat}{x:Fd}{o0 o1 o5:Vu}{ro:Option Nat}{ev:Operand->UO}
noncomputable def dV:Code:=f75.body.getD .skip
abbrev PK(C:Cx)(a:Int)(s:ByteArray)(b:Nat)(x:Fd)(ok:Bool):List (Nat×Nat×UO):=[(0,12,ϖ C.mu),(1,13,ϖ C.mu),(2,14,ϱ C.mu 2),(3,15,.map (UG C.mm)),(4,16,sk a s),(5,17,.tuple #[fv x,.bool ok]),(6,11,.tuple #[fv x,.bool ok]),(7,18,fv x),(8,19,.bool ok),(9,5,ϖ b),(11,6,.bool ok)]
abbrev B2(C:Cx)(b1 b2:Nat):List (Nat×UO):=[(0,ϖ C.mu),(3,ϖ b1),(4,ϖ b2)]
def I2(C:Cx)(FR:UL->Prop)(F:Int->ByteArray->Fd)(ownA:Nat->Prop)(a:Int)(s:ByteArray)(b1 b2:Nat)(L:List (Nat×Vu))(l:Array Bool)(z:Da):Prop:=
 ∃b x ok,(ok=UJ->x=F a s)/\(∀k,ownA k->z.own k)/\DF 49 (B2 C b1 b2) (PK C a s b x ok) l z.t/\au C z.v/\
   Hp C FR z.own z.v (if l.getD 9 Ul=UJ then(b,.cells (if l.getD 10 Ul=UJ then#[Iv x.1,Iv x.2.1,Iv x.2.2]else#[Iv 0,Iv 0,Iv 0]) 108)::L else L)
theorem Q2(hW:Wc C FR F)(hS:Sl 49 (B2 C b1 b2) t)(hH:Hp C FR own v ((b2,.cells #[Iv 0,Iv 0,Iv 0] 108)::(b1,.cells #[Iv a,.string s] 112)::L))(hM:au C v)(hsub:∀k,ownA k->own k)(h:∀own b x A t v,(A=UJ->x=F a s)->(∀k,ownA k->own k)->Sl 49 [(0,ϖ C.mu),(3,ϖ b1),(4,ϖ b2),(5,ϖ b),(6,.bool A)] t->au C v->Hp C FR own v ((b,.cells #[Iv x.1,Iv x.2.1,Iv x.2.2] 108)::(b2,.cells #[Iv 0,Iv 0,Iv 0] 108)::(b1,.cells #[Iv a,.string s] 112)::L)->ag C i j .own own (G (fx [] UM 75 t (.inRegion (aR (sb dV 14)) []::kk)) cs) v):ag C i j .own own (G (fx [] UM 75 t (.code (.region 2 (aR (sb dV 14)) UJ)::kk)) cs) v:=by have hP:=hW.P;refine eI Ξ Ψ (I2 C FR F ownA a s b1 b2 ((b2,.cells #[Iv 0,Iv 0,Iv 0] 108)::(b1,.cells #[Iv a,.string s] 112)::L)) ?_ ?_ ?_;{rintro listed z K rest hz hi' hl hdep I⟨b,x,A,J,hsub,r,hM,hH⟩H;have hn:K<12:=hi';rcases(by omega:K=0\/K=1\/K=2\/K=3\/K=4\/K=5\/K=6\/K=7\/K=8\/K=9\/K=10\/K=11)with rfl|rfl|rfl|rfl|rfl|rfl|rfl|rfl|rfl|rfl|rfl|rfl;{have hS:Sl 49 [(0,ϖ C.mu)] z.t:=r.sl Υ;refine aD (d:=12) (u:=ϖ C.mu) hS Ξ rfl (H (z.s _ _) ⟨b,x,A,J,hsub,r.put Θ Δ rfl rfl,hM,?_⟩);rw[af (n:=0) (k:=9) Δ,af (n:=0) (k:=10) Δ];exact hH};{have hS:Sl 49 [(12,ϖ C.mu)] z.t:=r.sl Υ;refine aD (d:=13) (u:=ϖ C.mu) hS Ξ rfl (H (z.s _ _) ⟨b,x,A,J,hsub,r.put Θ Δ rfl rfl,hM,?_⟩);rw[af (n:=1) (k:=9) Δ,af (n:=1) (k:=10) Δ];exact hH};{have hS:Sl 49 [(13,ϖ C.mu)] z.t:=r.sl Υ;refine aD (d:=14) (u:=ϱ C.mu 2) hS Ξ rfl (H (z.s _ _) ⟨b,x,A,J,hsub,r.put Θ Δ rfl rfl,hM,?_⟩);rw[af (n:=2) (k:=9) Δ,af (n:=2) (k:=10) Δ];exact hH};{have hS:Sl 49 [(14,ϱ C.mu 2)] z.t:=r.sl Υ;refine aF hW.steady rfl hH hS (d:=15) (u:=.map (UG C.mm)) Ψ Ψ Ψ (bj Ψ) (λN hH=>by rw[hP];exact Q3 (off:=2) (ty:=152) (y:=.tmp 14) hW.ok hH hW.known Ψ (hS.gN 14 rfl) isAgg152) (H (z.s _ _) ⟨b,x,A,J,hsub,r.put Θ Δ rfl rfl,hM,?_⟩);rw[af (n:=3) (k:=9) Δ,af (n:=3) (k:=10) Δ];exact hH};{have hS:Sl 49 [(3,ϖ b1)] z.t:=r.sl Υ;refine aF hW.steady rfl hH hS (d:=16) (u:=sk a s) Ψ Ψ Ψ (bj Ψ) (λN hH=>by rw[hP];(have hH2:Hp C FR z.own N ((b2,.cells #[Iv 0,Iv 0,Iv 0] 108)::(b1,.cells #[Iv a,.string s] 112)::L):=by split at hH;{exact hH.tail};exact hH);exact RB (k:=1) (ty:=112) (y:=.tmp 3) hH2 rfl Ψ (hS.gN 3 rfl) isAgg112 sizeOf112) (H (z.s _ _) ⟨b,x,A,J,hsub,r.put Θ Δ rfl rfl,hM,?_⟩);rw[af (n:=4) (k:=9) Δ,af (n:=4) (k:=10) Δ];exact hH};{have hS:Sl 49 [(15,.map (UG C.mm)),(16,sk a s)] z.t:=r.sl Υ;refine Er hP hW.dI hW.steady hH hM hS (o:=opn (aR (sb dV 14)) 5) (d:=17) (a:=a) (s:=s) (y:=.tmp 15) (z:=.tmp 16) Ψ Ψ Ψ Ψ (hS.gN 15 rfl) (hS.gN 16 rfl) (λR Z N hx' hH hM=>?_);(have n6:listed.getD 6 Ul=Ul:=by cases M:listed.getD 6 Ul with|false=>rfl|true=>have:=I 6 5 Ψ M;rw[hl]at this;cases this);(have n7:listed.getD 7 Ul=Ul:=by cases M:listed.getD 7 Ul with|false=>rfl|true=>have:=I 7 6 Ψ M;rw[n6]at this;cases this);(have n8:listed.getD 8 Ul=Ul:=by cases M:listed.getD 8 Ul with|false=>rfl|true=>have:=I 8 6 Ψ M;rw[n6]at this;cases this);(have Q:listed.getD 10 Ul=Ul:=by cases M:listed.getD 10 Ul with|false=>rfl|true=>have:=I 10 7 Ψ M;rw[n7]at this;cases this);(have n11:listed.getD 11 Ul=Ul:=by cases M:listed.getD 11 Ul with|false=>rfl|true=>have:=I 11 8 Ψ M;rw[n8]at this;cases this);have T:DF 49 (B2 C b1 b2) (PK C a s b Z R) listed z.t:=r.re (by intro q P m;simp only[PK,Sv,SV,or_false]at P⊢;rcases P with rfl|rfl|rfl|rfl|rfl|rfl|rfl|rfl|rfl|rfl|rfl;all_goals first|(rw[hl]at m;cases m)|(rw[n6]at m;cases m)|(rw[n7]at m;cases m)|(rw[n8]at m;cases m)|(rw[n11]at m;cases m)|simp);refine H ⟨z.own,z.t.setIfInBounds 17 (.tuple #[fv Z,.bool R]),N⟩ ⟨b,Z,R,hx',hsub,T.put (n:=5) (d:=17) (u:=.tuple #[fv Z,.bool R]) Θ Δ rfl rfl,hM,?_⟩;rw[Q]at hH;rw[af (n:=5) (k:=9) Δ,af (n:=5) (k:=10) Δ];rw[Q];exact hH};{have hS:Sl 49 [(17,.tuple #[fv x,.bool A])] z.t:=r.sl Υ;refine aD (d:=11) (u:=.tuple #[fv x,.bool A]) hS Ξ rfl (H (z.s _ _) ⟨b,x,A,J,hsub,r.put Θ Δ rfl rfl,hM,?_⟩);rw[af (n:=6) (k:=9) Δ,af (n:=6) (k:=10) Δ];exact hH};{have hS:Sl 49 [(11,.tuple #[fv x,.bool A])] z.t:=r.sl Υ;refine aD (d:=18) (u:=fv x) hS Ξ rfl (H (z.s _ _) ⟨b,x,A,J,hsub,r.put Θ Δ rfl rfl,hM,?_⟩);rw[af (n:=7) (k:=9) Δ,af (n:=7) (k:=10) Δ];exact hH};{have hS:Sl 49 [(11,.tuple #[fv x,.bool A])] z.t:=r.sl Υ;refine aD (d:=19) (u:=.bool A) hS Ξ rfl (H (z.s _ _) ⟨b,x,A,J,hsub,r.put Θ Δ rfl rfl,hM,?_⟩);rw[af (n:=8) (k:=9) Δ,af (n:=8) (k:=10) Δ];exact hH};{have hS:Sl 49 [] z.t:=r.sl (λp Y=>by cases Y);(have Q:listed.getD 10 Ul=Ul:=by cases M:listed.getD 10 Ul with|false=>rfl|true=>have:=I 10 9 Ψ M;rw[hl]at this;cases this);rw[if_neg (by rw[hl];decide)]at hH;refine jo hW.steady rfl hH hS (d:=5) (o1:=.cells #[Iv 0,Iv 0,Iv 0] 108) Ψ Ψ Ψ (bj Ψ) (λN=>by rw[hP];exact ig (ty:=108) Ψ zeroValue108) (λW X N hs1 U hH=>?_);have T:DF 49 (B2 C b1 b2) (PK C a s X x A) listed z.t:=r.re (by intro q P m;simp only[PK,Sv,SV,or_false]at P⊢;rcases P with rfl|rfl|rfl|rfl|rfl|rfl|rfl|rfl|rfl|rfl|rfl;all_goals first|(rw[hl]at m;cases m)|simp);refine H ⟨W,z.t.setIfInBounds 5 (ϖ X),N⟩ ⟨X,x,A,J,λk H=>hs1 k (hsub k H),T.put (n:=9) (d:=5) (u:=ϖ X) Θ Δ rfl rfl,U rfl hM,?_⟩;rw[if_pos (fh (by rw[hz];decide)),af (n:=9) (k:=10) Δ,Q];exact hH};{have hS:Sl 49 [(5,ϖ b),(18,fv x)] z.t:=r.sl Υ;rw[if_pos (hdep 9 Ψ),hl]at hH;refine gJ (k:=0) (b:=b) (o2:=.cells #[Iv x.1,Iv x.2.1,Iv x.2.2] 108) hW.steady rfl hH rfl hS Ψ Ψ Ψ (bj Ψ) (λN hb=>⟨_,by rw[hP];exact(fN (ty:=108) (y:=.tmp 5) (z:=.tmp 18) Ψ (hS.gN 5 rfl) (hS.gN 18 rfl) sizeOf108 (λw es=>by simp) hb).1,by simp,mY hb,λc hc=>by rw[ah _ _ _ hc,ah _ _ _ hc,ah _ _ _ hc],rfl,rfl,rfl,λe he=>by rw[hP,(fN (ty:=108) (y:=.tmp 5) (z:=.tmp 18) Ψ (hS.gN 5 rfl) (hS.gN 18 rfl) sizeOf108 (λw es=>by simp) hb).2]at he;rcases(by simpa using he)with rfl|rfl|rfl<;>exact⟨rfl,rfl⟩⟩) (λN U hH=>?_);refine H ⟨z.own,z.t,N⟩ ⟨b,x,A,J,hsub,r.skip (n:=10) rfl,U rfl hM,?_⟩;rw[af (n:=10) (k:=9) Δ,if_pos (hdep 9 Ψ),if_pos (fh (by rw[hz];decide))];exact hH};have hS:Sl 49 [(19,.bool A)] z.t:=r.sl Υ;refine aD (d:=6) (u:=.bool A) hS Ξ rfl (H (z.s _ _) ⟨b,x,A,J,hsub,r.put Θ Δ rfl rfl,hM,?_⟩);rw[af (n:=11) (k:=9) Δ,af (n:=11) (k:=10) Δ];exact hH};{rintro listed z E⟨b,x,A,J,hsub,r,hM,hH⟩;rw[if_pos (E 9 Δ),if_pos (E 10 Δ)]at hH;exact h z.own b x A z.t z.v J hsub (r.sl (by intro p Y;simp only[Sv,SV,or_false]at Y;rcases Y with rfl|rfl|rfl|rfl|rfl;{exact .inl Θ};{exact .inl Θ};{exact .inl Θ};{exact .inr ⟨9,by simp,E 9 Δ⟩};exact .inr ⟨11,by simp,E 11 Δ⟩)) hM hH};intro N hv;refine⟨0,(0,0,0),Ul,(λh=>by cases h),hsub,⟨hS.size,hS.at_,λq _ P=>?_⟩,hM.env hv (.inr ⟨rfl,rfl⟩),?_⟩;{simp only[Sr,SD]at P;split at P<;>simp at P};rw[if_neg (by simp[Sr,SD];split<;>simp)];exact hH.eh hW.steady hv
abbrev QN(C:Cx)(F:Int->ByteArray->Fd)(a:Int)(s:ByteArray):List (Nat×Nat×UO):=[(0,42,ϖ C.mu),(1,43,ϖ C.mu),(2,44,ϱ C.mu 2),(3,45,.map (UG C.mm)),(4,46,sk a s),(5,47,fv (F a s))]
abbrev QX(C:Cx)(b1 b2 b:Nat):List (Nat×UO):=[(0,ϖ C.mu),(3,ϖ b1),(4,ϖ b2),(5,ϖ b)]
abbrev Q1(F:Int->ByteArray->Fd)(a:Int)(s:ByteArray)(b1 b2 b:Nat)(L:List (Nat×Vu)):List (Nat×Vu):=((b,.cells #[Iv (F a s).1,Iv (F a s).2.1,Iv (F a s).2.2] 108)::(b2,.cells #[Iv 0,Iv 0,Iv 0] 108)::(b1,.cells #[Iv a,.string s] 112)::L)
def Sk(C:Cx)(FR:UL->Prop)(F:Int->ByteArray->Fd)(ownA:Nat->Prop)(a:Int)(s:ByteArray)(b1 b2 b:Nat)(L:List (Nat×Vu))(l:Array Bool)(z:Da):Prop:=
 (∀k,ownA k->z.own k)/\DF 49 (QX C b1 b2 b) (QN C F a s) l z.t/\au C z.v/\Hp C FR z.own z.v (Q1 F a s b1 b2 b L)
theorem PI(hW:Wc C FR F)(hS:Sl 49 (QX C b1 b2 b) t)(hH:Hp C FR own v (Q1 F a s b1 b2 b L))(hM:au C v)(hsub:∀k,ownA k->own k)(h:∀own t v,(∀k,ownA k->own k)->Sl 49 (QX C b1 b2 b) t->au C v->Hp C FR own v (Q1 F a s b1 b2 b L)->ag C i j .own own (G (fx [dcall 113 #[(ϱ C.mu 3)]] UM 75 t (.inRegion (aR (sb dV 1022)) []::kk)) cs) v):ag C i j .own own (G (fx [dcall 113 #[(ϱ C.mu 3)]] UM 75 t (.code (.region 11 (aR (sb dV 1022)) UJ)::kk)) cs) v:=by have hP:=hW.P;refine eI Ξ Ψ (Sk C FR F ownA a s b1 b2 b L) ?_ ?_ ?_;{rintro listed z x M Q E hl hdep N⟨hsub,g,hM,hH⟩A;have P:x<7:=E;rcases(by omega:x=0\/x=1\/x=2\/x=3\/x=4\/x=5\/x=6)with rfl|rfl|rfl|rfl|rfl|rfl|rfl;{have hS:Sl 49 [(0,ϖ C.mu)] z.t:=g.sl Υ;exact aD (d:=42) (u:=ϖ C.mu) hS Ξ rfl (A (z.s _ _) ⟨hsub,g.put Θ Δ rfl rfl,hM,hH⟩)};{have hS:Sl 49 [(42,ϖ C.mu)] z.t:=g.sl Υ;exact aD (d:=43) (u:=ϖ C.mu) hS Ξ rfl (A (z.s _ _) ⟨hsub,g.put Θ Δ rfl rfl,hM,hH⟩)};{have hS:Sl 49 [(43,ϖ C.mu)] z.t:=g.sl Υ;exact aD (d:=44) (u:=ϱ C.mu 2) hS Ξ rfl (A (z.s _ _) ⟨hsub,g.put Θ Δ rfl rfl,hM,hH⟩)};{have hS:Sl 49 [(44,ϱ C.mu 2)] z.t:=g.sl Υ;exact aF hW.steady rfl hH hS (d:=45) (u:=.map (UG C.mm)) Ψ Ψ Ψ (bj Ψ) (λB hH=>by rw[hP];exact Q3 (off:=2) (ty:=152) (y:=.tmp 44) hW.ok hH hW.known Ψ (hS.gN 44 rfl) isAgg152) (A (z.s _ _) ⟨hsub,g.put Θ Δ rfl rfl,hM,hH⟩)};{have hS:Sl 49 [(3,ϖ b1)] z.t:=g.sl Υ;exact aF hW.steady rfl hH hS (d:=46) (u:=sk a s) Ψ Ψ Ψ (bj Ψ) (λB hH=>by rw[hP];exact RB (k:=2) (ty:=112) (y:=.tmp 3) hH rfl Ψ (hS.gN 3 rfl) isAgg112 sizeOf112) (A (z.s _ _) ⟨hsub,g.put Θ Δ rfl rfl,hM,hH⟩)};{have hS:Sl 49 [(5,ϖ b)] z.t:=g.sl Υ;exact aF hW.steady rfl hH hS (d:=47) (u:=fv (F a s)) Ψ Ψ Ψ (bj Ψ) (λB hH=>by rw[hP];exact Sj (k:=0) (ty:=108) (y:=.tmp 5) hH rfl Ψ (hS.gN 5 rfl) isAgg108 sizeOf108) (A (z.s _ _) ⟨hsub,g.put Θ Δ rfl rfl,hM,hH⟩)};have hS:Sl 49 [(45,.map (UG C.mm)),(46,sk a s),(47,fv (F a s))] z.t:=g.sl Υ;exact CV hW.ok hP hW.dI hW.steady hH hM hS (o:=opn (aR (sb dV 1022)) 6) (a:=a) (s:=s) (y:=.tmp 45) (z:=.tmp 46) (r:=.tmp 47) Ψ Ψ Ψ Ψ (hS.gN 45 rfl) (hS.gN 46 rfl) (hS.gN 47 rfl) (λB hH hM=>A ⟨z.own,z.t,B⟩ ⟨hsub,g.skip (n:=6) rfl,hM,hH⟩)};{rintro listed z I⟨hsub,g,hM,hH⟩;exact h z.own z.t z.v hsub (g.sl λp O=>.inl O) hM hH};intro B K;refine⟨hsub,⟨hS.size,hS.at_,λq _ H=>?_⟩,hM.env K (.inr ⟨rfl,rfl⟩),hH.eh hW.steady K⟩;simp only[Sr,SD]at H;split at H<;>simp at H
noncomputable def aK:Code:=f115.body.getD .skip
def mn(x y:Int):Int:=if y<x then y else x
def mx(x y:Int):Int:=if x<y then y else x
def comb(A x:Fd):Fd:=(if x.1=A.1 then A.1 else 0,mn A.2.1 x.2.1,mx A.2.2 x.2.2)
def Hr(f:Nat->Fd)(l:List Nat):Option Fd:=l.foldl (λo c=>UG (match o with|none=>f c|some A=>comb A (f c))) UM
def acc(f:Nat->Fd)(l:List Nat):Fd:=(Hr f l).getD (0,0,0)
theorem ad0(f:Nat->Fd)(c:Nat):acc f ([]++[c])=f c:=rfl
theorem C7(f:Nat->Fd)(h:l≠[]):∃A,Hr f l=UG A:=by rcases UN l with rfl|⟨a,c,rfl⟩;{exact absurd rfl h};unfold Hr;rw[List.concat_eq_append,T9];exact⟨_,rfl⟩
theorem zp(f:Nat->Fd)(h:l≠[])(c:Nat):acc f (l++[c])=comb (acc f l) (f c):=by obtain⟨A,a⟩:=C7 f h;(have b:Hr f (l++[c])=UG (comb A (f c)):=by unfold Hr at a⊢;rw[T9,a];rfl);unfold acc;rw[b,a];rfl
abbrev Qt(C:Cx)(a:Int)(s s1 z0:ByteArray)(x:Fd)(b2 b:Nat):List (Nat×Nat×UO):=[(0,12,ϖ C.mu),(1,13,ϖ b2),(2,14,Iv a),(3,15,ϱ b2 1),(4,16,.string s),(5,17,.string z0),(6,18,.string s1),(7,19,sk a s1),(8,20,fv x),(9,8,ϖ b)]
abbrev B5(z0:ByteArray)(b1 b2 b4 b5:Nat):List (Nat×UO):=[(2,ϖ b1),(3,ϖ b2),(5,ϖ b4),(6,ϖ b5),(7,.string z0)]
abbrev HM(C:Cx)(a:Int)(s:ByteArray)(bl bd b5 b4 b3 b2 b1:Nat)(o0 o1 o5 o4 o3:Vu)(L:List (Nat×Vu)):List (Nat×Vu):=((bl,o0)::(bd,o1)::(b5,o5)::(b4,o4)::(b3,o3)::(b2,.cells #[Iv a,.string s] 112)::(b1,.cells #[ϖ C.mu] 100)::L)
def I5(C:Cx)(FR:UL->Prop)(ownA:Nat->Prop)(a:Int)(s s1 z0:ByteArray)(x:Fd)(b1 b2 b4 b5:Nat)(M:List (Nat×Vu))(l:Array Bool)(z:Da):Prop:=
 ∃b,(∀k,ownA k->z.own k)/\DF 42 (B5 z0 b1 b2 b4 b5) (Qt C a s s1 z0 x b2 b) l z.t/\
   Hp C FR z.own z.v (if l.getD 9 Ul=UJ then(b,.cells (if l.getD 10 Ul=UJ then#[Iv x.1,Iv x.2.1,Iv x.2.2]else#[Iv 0,Iv 0,Iv 0]) 108)::M else M)
theorem QK(hW:Wc C FR F){s1 z0:ByteArray}{o4 o3:Vu}(V:cE C FR i j 146 f146 #[.string s,.string ⟨#[63]⟩,.string z0,Iv 1] (.string s1))(U:cE C FR i j 75 f75 #[ϖ C.mu,sk a s1] (fv x))(hS:Sl 42 (B5 z0 b1 b2 b4 b5) t)(hH:Hp C FR own v (HM C a s bl bd b5 b4 b3 b2 b1 o0 o1 o5 o4 o3 L))(hsub:∀k,ownA k->own k)(h:∀own b t v,(∀k,ownA k->own k)->Sl 42 [(2,ϖ b1),(3,ϖ b2),(5,ϖ b4),(6,ϖ b5),(8,ϖ b)] t->Hp C FR own v ((b,.cells #[Iv x.1,Iv x.2.1,Iv x.2.2] 108)::HM C a s bl bd b5 b4 b3 b2 b1 o0 o1 o5 o4 o3 L)->ag C i j .free own (G (fx [] ro 115 t (.inRegion (aR (sb aK 980)) []::kk)) cs) v):ag C i j .free own (G (fx [] ro 115 t (.code (.region 5 (aR (sb aK 980)) UJ)::kk)) cs) v:=by have hP:=hW.P;refine eI Ξ Ψ (I5 C FR ownA a s s1 z0 x b1 b2 b4 b5 (HM C a s bl bd b5 b4 b3 b2 b1 o0 o1 o5 o4 o3 L)) ?_ ?_ ?_;{rintro listed z D rest hz Z hl hdep Y⟨b,hsub,r,hH⟩A;have hn:D<11:=Z;rcases(by omega:D=0\/D=1\/D=2\/D=3\/D=4\/D=5\/D=6\/D=7\/D=8\/D=9\/D=10)with rfl|rfl|rfl|rfl|rfl|rfl|rfl|rfl|rfl|rfl|rfl;{have hS:Sl 42 [(2,ϖ b1)] z.t:=r.sl Υ;refine aF hW.steady rfl hH hS (d:=12) (u:=ϖ C.mu) Ψ Ψ Ψ (bj Ψ) (λB hH=>by rw[hP];(have E:Hp C FR z.own B (HM C a s bl bd b5 b4 b3 b2 b1 o0 o1 o5 o4 o3 L):=by split at hH;{exact hH.tail};exact hH);exact qz (k:=6) (off:=0) (ty:=100) (y:=.tmp 2) E rfl rfl Ψ (hS.gN 2 rfl) isAgg100) (A (z.s _ _) ⟨b,hsub,r.put Θ Δ rfl rfl,?_⟩);rw[af (n:=0) (k:=9) Δ,af (n:=0) (k:=10) Δ];exact hH};{have hS:Sl 42 [(3,ϖ b2)] z.t:=r.sl Υ;refine aD (d:=13) (u:=ϖ b2) hS Ξ rfl (A (z.s _ _) ⟨b,hsub,r.put Θ Δ rfl rfl,?_⟩);rw[af (n:=1) (k:=9) Δ,af (n:=1) (k:=10) Δ];exact hH};{have hS:Sl 42 [(13,ϖ b2)] z.t:=r.sl Υ;refine aF hW.steady rfl hH hS (d:=14) (u:=Iv a) Ψ Ψ Ψ (bj Ψ) (λB hH=>by rw[hP];(have E:Hp C FR z.own B (HM C a s bl bd b5 b4 b3 b2 b1 o0 o1 o5 o4 o3 L):=by split at hH;{exact hH.tail};exact hH);exact qz (k:=5) (off:=0) (ty:=3) (y:=.tmp 13) E rfl rfl Ψ (hS.gN 13 rfl) isAgg3) (A (z.s _ _) ⟨b,hsub,r.put Θ Δ rfl rfl,?_⟩);rw[af (n:=2) (k:=9) Δ,af (n:=2) (k:=10) Δ];exact hH};{have hS:Sl 42 [(3,ϖ b2)] z.t:=r.sl Υ;refine aD (d:=15) (u:=ϱ b2 1) hS Ξ rfl (A (z.s _ _) ⟨b,hsub,r.put Θ Δ rfl rfl,?_⟩);rw[af (n:=3) (k:=9) Δ,af (n:=3) (k:=10) Δ];exact hH};{have hS:Sl 42 [(15,ϱ b2 1)] z.t:=r.sl Υ;refine aF hW.steady rfl hH hS (d:=16) (u:=.string s) Ψ Ψ Ψ (bj Ψ) (λB hH=>by rw[hP];(have E:Hp C FR z.own B (HM C a s bl bd b5 b4 b3 b2 b1 o0 o1 o5 o4 o3 L):=by split at hH;{exact hH.tail};exact hH);exact qz (k:=5) (off:=1) (ty:=9) (y:=.tmp 15) E rfl rfl Ψ (hS.gN 15 rfl) isAgg9) (A (z.s _ _) ⟨b,hsub,r.put Θ Δ rfl rfl,?_⟩);rw[af (n:=4) (k:=9) Δ,af (n:=4) (k:=10) Δ];exact hH};{have hS:Sl 42 [(7,.string z0)] z.t:=r.sl Υ;refine aD (d:=17) (u:=.string z0) hS Ξ rfl (A (z.s _ _) ⟨b,hsub,r.put Θ Δ rfl rfl,?_⟩);rw[af (n:=5) (k:=9) Δ,af (n:=5) (k:=10) Δ];exact hH};{have hS:Sl 42 [(16,.string s),(17,.string z0)] z.t:=r.sl Υ;refine cB hS (vs:=#[.string s,.string ⟨#[63]⟩,.string z0,Iv 1]) Ψ Ψ Ψ (ags:=#[.tmp 16,.const (.string ⟨#[63]⟩),.tmp 17,.const (Iv 1)]) Ψ (by simp[Act.eval,hS.gN 16 rfl,hS.gN 17 rfl]) (by rw[hP];exact func146) Ψ (show f146.body=UG (f146.body.getD .skip)by kernel_rfl) ?_;refine V z.own _ _ _ _ hH (λI B N hH=>?_);rw[bO (o:=opn (aR (sb aK 980)) 6) Ψ];refine A ⟨I,z.t.setIfInBounds 18 (.string s1),B⟩ ⟨b,λk A=>N k (hsub k A),r.put Θ Δ rfl rfl,?_⟩;rw[af (n:=6) (k:=9) Δ,af (n:=6) (k:=10) Δ];exact hH};{have hS:Sl 42 [(14,Iv a),(18,.string s1)] z.t:=r.sl Υ;refine aD (d:=19) (u:=sk a s1) hS Ξ rfl (A (z.s _ _) ⟨b,hsub,r.put Θ Δ rfl rfl,?_⟩);rw[af (n:=7) (k:=9) Δ,af (n:=7) (k:=10) Δ];exact hH};{have hS:Sl 42 [(12,ϖ C.mu),(19,sk a s1)] z.t:=r.sl Υ;refine cB hS (vs:=#[ϖ C.mu,sk a s1]) Ψ Ψ Ψ (ags:=#[.tmp 12,.tmp 19]) Ψ (Di (hS.gN 12 rfl) (hS.gN 19 rfl)) (by rw[hP];exact func75) Ψ (show f75.body=UG (f75.body.getD .skip)by kernel_rfl) ?_;refine U z.own _ _ _ _ hH (λI B N hH=>?_);rw[bO (o:=opn (aR (sb aK 980)) 8) Ψ];refine A ⟨I,z.t.setIfInBounds 20 (fv x),B⟩ ⟨b,λk A=>N k (hsub k A),r.put Θ Δ rfl rfl,?_⟩;rw[af (n:=8) (k:=9) Δ,af (n:=8) (k:=10) Δ];exact hH};{have hS:Sl 42 [] z.t:=r.sl (λp S=>by cases S);(have n10:listed.getD 10 Ul=Ul:=by cases h6:listed.getD 10 Ul with|false=>rfl|true=>have:=Y 10 9 Ψ h6;rw[hl]at this;cases this);rw[if_neg (by rw[hl];decide)]at hH;refine jo hW.steady rfl hH hS (d:=8) (o1:=.cells #[Iv 0,Iv 0,Iv 0] 108) Ψ Ψ Ψ (bj Ψ) (λB=>by rw[hP];exact ig (ty:=108) Ψ zeroValue108) (λQ R B hs1 hm1 hH=>?_);have T:DF 42 (B5 z0 b1 b2 b4 b5) (Qt C a s s1 z0 x b2 R) listed z.t:=r.re (by intro q O P;simp only[Qt,Sv,SV,or_false]at O⊢;rcases O with rfl|rfl|rfl|rfl|rfl|rfl|rfl|rfl|rfl|rfl;all_goals first|(rw[hl]at P;cases P)|simp);refine A ⟨Q,z.t.setIfInBounds 8 (ϖ R),B⟩ ⟨R,λk A=>hs1 k (hsub k A),T.put (n:=9) (d:=8) (u:=ϖ R) Θ Δ rfl rfl,?_⟩;rw[if_pos (fh (by rw[hz];decide)),af (n:=9) (k:=10) Δ,n10];exact hH};have hS:Sl 42 [(8,ϖ b),(20,fv x)] z.t:=r.sl Υ;rw[if_pos (hdep 9 Ψ),hl]at hH;refine gJ (k:=0) (b:=b) (o2:=.cells #[Iv x.1,Iv x.2.1,Iv x.2.2] 108) hW.steady rfl hH rfl hS Ψ Ψ Ψ (bj Ψ) (λB W=>⟨_,by rw[hP];exact(fN (ty:=108) (y:=.tmp 8) (z:=.tmp 20) Ψ (hS.gN 8 rfl) (hS.gN 20 rfl) sizeOf108 (λw es=>by simp) W).1,by simp,mY W,λc X=>by rw[ah _ _ _ X,ah _ _ _ X,ah _ _ _ X],rfl,rfl,rfl,λe he=>by rw[hP,(fN (ty:=108) (y:=.tmp 8) (z:=.tmp 20) Ψ (hS.gN 8 rfl) (hS.gN 20 rfl) sizeOf108 (λw es=>by simp) W).2]at he;rcases(by simpa using he)with rfl|rfl|rfl<;>exact⟨rfl,rfl⟩⟩) (λB hm1 hH=>?_);refine A ⟨z.own,z.t,B⟩ ⟨b,hsub,r.skip (n:=10) rfl,?_⟩;rw[af (n:=10) (k:=9) Δ,if_pos (hdep 9 Ψ),if_pos (fh (by rw[hz];decide))];exact hH};{rintro listed z H⟨b,hsub,r,hH⟩;rw[if_pos (H 9 Δ),if_pos (H 10 Δ)]at hH;exact h z.own b z.t z.v hsub (r.sl (by intro p S;simp only[Sv,SV,or_false]at S;rcases S with rfl|rfl|rfl|rfl|rfl;{exact .inl Θ};{exact .inl Θ};{exact .inl Θ};{exact .inl Θ};exact .inr ⟨9,by simp,H 9 Δ⟩)) hH};intro B hv;refine⟨0,hsub,⟨hS.size,hS.at_,λq _ O=>?_⟩,?_⟩;{simp only[Sr,SD]at O;split at O<;>simp at O};rw[if_neg (by simp[Sr,SD];split<;>simp)];exact hH.eh hW.steady hv
abbrev QQ(y1 y2:Int)(x:Fd)(b4 b:Nat):List (Nat×Nat×UO):=[(0,29,ϱ b4 1),(1,30,Iv y1),(2,31,ϱ b 1),(3,32,Iv x.2.1),(4,33,Iv (mn y1 x.2.1)),(5,34,ϱ b4 2),(6,35,Iv y2),(7,36,ϱ b 2),(8,37,Iv x.2.2),(9,38,Iv (mx y2 x.2.2)),(10,39,ϱ b4 1),(12,40,ϱ b4 2)]
abbrev OC(b4 b:Nat):List (Nat×UO):=[(5,ϖ b4),(8,ϖ b)]
abbrev C4(y0 y1 y2:Int)(x:Fd)(l:Array Bool):Vu:=.cells #[Iv y0,Iv (if l.getD 11 Ul=UJ then mn y1 x.2.1 else y1),Iv (if l.getD 13 Ul=UJ then mx y2 x.2.2 else y2)] 108
def RR(C:Cx)(FR:UL->Prop)(ownA:Nat->Prop)(a:Int)(s:ByteArray)(x:Fd)(y0 y1 y2:Int)(bl bd b5 b4 b3 b2 b1 b:Nat)(o0 o1 o5 o3:Vu)(L:List (Nat×Vu))(l:Array Bool)(z:Da):Prop:=
 (∀k,ownA k->z.own k)/\DF 42 (OC b4 b) (QQ y1 y2 x b4 b) l z.t/\Hp C FR z.own z.v ((b,.cells #[Iv x.1,Iv x.2.1,Iv x.2.2] 108)::HM C a s bl bd b5 b4 b3 b2 b1 o0 o1 o5 (C4 y0 y1 y2 x l) o3 L)
theorem ON{x:Int}(d:ev (.tmp 30)=Iv x)(f:ev (.tmp 32)=Iv y):eG Pz (UZ ev (opn (aR (sb aK 3927)) 4))=UG (.value (Iv (mn x y))):=by have:(opn (aR (sb aK 3927)) 4).op=.call {callee:=.builtin .min,args:=#[.tmp 30,.tmp 32],argTypes:=uF (opn (aR (sb aK 3927)) 4)}:=Ψ;(have e:UZ ev (opn (aR (sb aK 3927)) 4)=(do pure (Next.value (<-Vm.min2 (Iv x) (Iv y)))):=by unfold UZ;rw[this];simp[resolve,invoke,builtin,d,f,Vm.min_]);rw[e];rfl
theorem Qb{x:Int}(d:ev (.tmp 35)=Iv x)(f:ev (.tmp 37)=Iv y):eG Pz (UZ ev (opn (aR (sb aK 3927)) 9))=UG (.value (Iv (mx x y))):=by have:(opn (aR (sb aK 3927)) 9).op=.call {callee:=.builtin .max,args:=#[.tmp 35,.tmp 37],argTypes:=uF (opn (aR (sb aK 3927)) 9)}:=Ψ;(have e:UZ ev (opn (aR (sb aK 3927)) 9)=(do pure (Next.value (<-Vm.max2 (Iv x) (Iv y)))):=by unfold UZ;rw[this];simp[resolve,invoke,builtin,d,f,Vm.max_]);rw[e];rfl
theorem KH(hW:Wc C FR F){y0 y1 y2:Int}{o3:Vu}(hS:Sl 42 (OC b4 b) t)(hH:Hp C FR own v ((b,.cells #[Iv x.1,Iv x.2.1,Iv x.2.2] 108)::HM C a s bl bd b5 b4 b3 b2 b1 o0 o1 o5 (.cells #[Iv y0,Iv y1,Iv y2] 108) o3 L))(hsub:∀k,ownA k->own k)(h:∀own t v,(∀k,ownA k->own k)->Sl 42 [] t->Hp C FR own v ((b,.cells #[Iv x.1,Iv x.2.1,Iv x.2.2] 108)::HM C a s bl bd b5 b4 b3 b2 b1 o0 o1 o5 (.cells #[Iv y0,Iv (mn y1 x.2.1),Iv (mx y2 x.2.2)] 108) o3 L)->ag C i j .free own (G (fx [] ro 115 t (.inRegion (aR (sb aK 3927)) []::kk)) cs) v):ag C i j .free own (G (fx [] ro 115 t (.code (.region 10 (aR (sb aK 3927)) UJ)::kk)) cs) v:=by have hP:=hW.P;refine eI Ξ Ψ (RR C FR ownA a s x y0 y1 y2 bl bd b5 b4 b3 b2 b1 b o0 o1 o5 o3 L) ?_ ?_ ?_;{rintro listed z m P O H hl hdep p⟨hsub,g,hH⟩o;have U:m<14:=H;rcases(by omega:m=0\/m=1\/m=2\/m=3\/m=4\/m=5\/m=6\/m=7\/m=8\/m=9\/m=10\/m=11\/m=12\/m=13)with rfl|rfl|rfl|rfl|rfl|rfl|rfl|rfl|rfl|rfl|rfl|rfl|rfl|rfl;{have hS:Sl 42 [(5,ϖ b4)] z.t:=g.sl Υ;refine aD (d:=29) (u:=ϱ b4 1) hS Ξ rfl (o (z.s _ _) ⟨hsub,g.put Θ Δ rfl rfl,?_⟩);unfold C4;rw[af (n:=0) (k:=11) Δ,af (n:=0) (k:=13) Δ];exact hH};{have hS:Sl 42 [(29,ϱ b4 1)] z.t:=g.sl Υ;(have S:listed.getD 4 Ul=Ul:=by cases E:listed.getD 4 Ul with|false=>rfl|true=>have:=p 4 1 Ψ E;rw[hl]at this;cases this);(have K:listed.getD 11 Ul=Ul:=by cases E:listed.getD 11 Ul with|false=>rfl|true=>have:=p 11 4 Ψ E;rw[S]at this;cases this);refine aF hW.steady rfl hH hS (d:=30) (u:=Iv y1) Ψ Ψ Ψ (bj Ψ) (λD hH=>by rw[hP];exact qz (k:=4) (off:=1) (ty:=3) (y:=.tmp 29) hH rfl (by rw[K];rfl) Ψ (hS.gN 29 rfl) isAgg3) (o (z.s _ _) ⟨hsub,g.put Θ Δ rfl rfl,?_⟩);unfold C4;rw[af (n:=1) (k:=11) Δ,af (n:=1) (k:=13) Δ];exact hH};{have hS:Sl 42 [(8,ϖ b)] z.t:=g.sl Υ;refine aD (d:=31) (u:=ϱ b 1) hS Ξ rfl (o (z.s _ _) ⟨hsub,g.put Θ Δ rfl rfl,?_⟩);unfold C4;rw[af (n:=2) (k:=11) Δ,af (n:=2) (k:=13) Δ];exact hH};{have hS:Sl 42 [(31,ϱ b 1)] z.t:=g.sl Υ;refine aF hW.steady rfl hH hS (d:=32) (u:=Iv x.2.1) Ψ Ψ Ψ (bj Ψ) (λD hH=>by rw[hP];exact qz (k:=0) (off:=1) (ty:=3) (y:=.tmp 31) hH rfl rfl Ψ (hS.gN 31 rfl) isAgg3) (o (z.s _ _) ⟨hsub,g.put Θ Δ rfl rfl,?_⟩);unfold C4;rw[af (n:=3) (k:=11) Δ,af (n:=3) (k:=13) Δ];exact hH};{have hS:Sl 42 [(30,Iv y1),(32,Iv x.2.1)] z.t:=g.sl Υ;refine rG hS (d:=33) (u:=Iv (mn y1 x.2.1)) Ψ Ψ Ψ (bj Ψ) (by rw[hP];exact ON (hS.gN 30 rfl) (hS.gN 32 rfl)) (o (z.s _ _) ⟨hsub,g.put Θ Δ rfl rfl,?_⟩);unfold C4;rw[af (n:=4) (k:=11) Δ,af (n:=4) (k:=13) Δ];exact hH};{have hS:Sl 42 [(5,ϖ b4)] z.t:=g.sl Υ;refine aD (d:=34) (u:=ϱ b4 2) hS Ξ rfl (o (z.s _ _) ⟨hsub,g.put Θ Δ rfl rfl,?_⟩);unfold C4;rw[af (n:=5) (k:=11) Δ,af (n:=5) (k:=13) Δ];exact hH};{have hS:Sl 42 [(34,ϱ b4 2)] z.t:=g.sl Υ;(have T:listed.getD 9 Ul=Ul:=by cases E:listed.getD 9 Ul with|false=>rfl|true=>have:=p 9 6 Ψ E;rw[hl]at this;cases this);(have M:listed.getD 13 Ul=Ul:=by cases E:listed.getD 13 Ul with|false=>rfl|true=>have:=p 13 9 Ψ E;rw[T]at this;cases this);refine aF hW.steady rfl hH hS (d:=35) (u:=Iv y2) Ψ Ψ Ψ (bj Ψ) (λD hH=>by rw[hP];exact qz (k:=4) (off:=2) (ty:=3) (y:=.tmp 34) hH rfl (by rw[M];rfl) Ψ (hS.gN 34 rfl) isAgg3) (o (z.s _ _) ⟨hsub,g.put Θ Δ rfl rfl,?_⟩);unfold C4;rw[af (n:=6) (k:=11) Δ,af (n:=6) (k:=13) Δ];exact hH};{have hS:Sl 42 [(8,ϖ b)] z.t:=g.sl Υ;refine aD (d:=36) (u:=ϱ b 2) hS Ξ rfl (o (z.s _ _) ⟨hsub,g.put Θ Δ rfl rfl,?_⟩);unfold C4;rw[af (n:=7) (k:=11) Δ,af (n:=7) (k:=13) Δ];exact hH};{have hS:Sl 42 [(36,ϱ b 2)] z.t:=g.sl Υ;refine aF hW.steady rfl hH hS (d:=37) (u:=Iv x.2.2) Ψ Ψ Ψ (bj Ψ) (λD hH=>by rw[hP];exact qz (k:=0) (off:=2) (ty:=3) (y:=.tmp 36) hH rfl rfl Ψ (hS.gN 36 rfl) isAgg3) (o (z.s _ _) ⟨hsub,g.put Θ Δ rfl rfl,?_⟩);unfold C4;rw[af (n:=8) (k:=11) Δ,af (n:=8) (k:=13) Δ];exact hH};{have hS:Sl 42 [(35,Iv y2),(37,Iv x.2.2)] z.t:=g.sl Υ;refine rG hS (d:=38) (u:=Iv (mx y2 x.2.2)) Ψ Ψ Ψ (bj Ψ) (by rw[hP];exact Qb (hS.gN 35 rfl) (hS.gN 37 rfl)) (o (z.s _ _) ⟨hsub,g.put Θ Δ rfl rfl,?_⟩);unfold C4;rw[af (n:=9) (k:=11) Δ,af (n:=9) (k:=13) Δ];exact hH};{have hS:Sl 42 [(5,ϖ b4)] z.t:=g.sl Υ;refine aD (d:=39) (u:=ϱ b4 1) hS Ξ rfl (o (z.s _ _) ⟨hsub,g.put Θ Δ rfl rfl,?_⟩);unfold C4;rw[af (n:=10) (k:=11) Δ,af (n:=10) (k:=13) Δ];exact hH};{have hS:Sl 42 [(39,ϱ b4 1),(33,Iv (mn y1 x.2.1))] z.t:=g.sl Υ;refine jF (k:=4) (ty:=3) (y:=.tmp 39) (z:=.tmp 33) (off:=1) hW.steady rfl hH rfl hS Ψ Ψ Ψ Ψ (hS.gN 39 rfl) (hS.gN 33 rfl) (.inl ⟨_,_,rfl⟩) (by rw[hP];exact sizeOf3) (λw Q=>by simp) Θ (λD I hH=>?_);refine o ⟨z.own,z.t,D⟩ ⟨hsub,g.skip (n:=11) rfl,?_⟩;unfold C4;rw[af (n:=11) (k:=13) Δ,if_pos (fh (by rw[O];decide):(listed.setIfInBounds 11 UJ).getD 11 Ul=UJ)];exact hH};{have hS:Sl 42 [(5,ϖ b4)] z.t:=g.sl Υ;refine aD (d:=40) (u:=ϱ b4 2) hS Ξ rfl (o (z.s _ _) ⟨hsub,g.put Θ Δ rfl rfl,?_⟩);unfold C4;rw[af (n:=12) (k:=11) Δ,af (n:=12) (k:=13) Δ];exact hH};have hS:Sl 42 [(40,ϱ b4 2),(38,Iv (mx y2 x.2.2))] z.t:=g.sl Υ;refine jF (k:=4) (ty:=3) (y:=.tmp 40) (z:=.tmp 38) (off:=2) hW.steady rfl hH rfl hS Ψ Ψ Ψ Ψ (hS.gN 40 rfl) (hS.gN 38 rfl) (.inl ⟨_,_,rfl⟩) (by rw[hP];exact sizeOf3) (λw Q=>by simp) Θ (λD I hH=>?_);refine o ⟨z.own,z.t,D⟩ ⟨hsub,g.skip (n:=13) rfl,?_⟩;unfold C4;rw[af (n:=13) (k:=11) Δ,if_pos (fh (by rw[O];decide):(listed.setIfInBounds 13 UJ).getD 13 Ul=UJ)];exact hH};{rintro listed z B⟨hsub,g,hH⟩;unfold C4 at hH;rw[if_pos (B 11 Δ),if_pos (B 13 Δ)]at hH;exact h z.own z.t z.v hsub (.K9 g.size) hH};intro D R;refine⟨hsub,⟨hS.size,hS.at_,λq _ J=>?_⟩,?_⟩;{simp only[Sr,SD]at J;split at J<;>simp at J};unfold C4;rw[if_neg (by simp[Sr,SD];split<;>simp),if_neg (by simp[Sr,SD];split<;>simp)];exact hH.eh hW.steady R
end Go.Me
namespace Go.Me
open Go.Proofs Go.Conc Go.Mx Go.Rk Go.Cr Go.Pw Go.Lw
variable{kd:VA}{ds:List Vo}{ro:Option Nat}{f q:Va}{N n i j x M:Nat}{L L' base:List (Nat×UO)}{t args:Array UO}{k k' kk:List Vj}{u:UO}{F:U0}{rd:Bool}{O:List (Nat×Ob)}{H H':List (Nat×Vu)}{C:Cx}{m:Md}{own:Nat->Prop}{v:UL}{FR:UL->Prop}{cs:List U0}{ix rest:List Nat}{fn:Func}{c:Code}{ops:Array Oper}{VT:List (Nat×Nat×UO)}{listed:Array Bool}
section
section
noncomputable def EA(f:Va):Func:=(Pz.funcs[f]?).getD default
def Rx(L':List (Nat×UO))(r:MR):=(({r.1 with tmps:=#[]}:U0),r.1.tmps.size,L'.map λp=>r.1.tmps.getD p.1 UT,r.2.1,r.2.2.1.map Prod.fst,r.2.2.2)
def Qk(x:Option MR):List Nat:=match x with|some r=>r.2.2.1.map Prod.snd|none=>[]
abbrev dq(rd:Bool)(O:List (Nat×Ob))(n:Nat)(hs bs:List Nat)(F F':U0)(N:Nat)(L':List (Nat×UO))(H H':List (Nat×Vu)):Prop:=
 (kz Pz rd (oh O) n hs bs F H).map (Rx L')=UG (F',N,L'.map Prod.snd,H',Qk (kz Pz rd (oh O) n hs bs F H),oo O)
theorem dq.end{hs bs:List Nat}(h:dq rd O n hs bs F (fk kd ds ro f #[] k') N L' H H'):∃r,kz Pz rd (oh O) n hs bs F H=UG r/\(∀p∈r.2.2.1,p.1=p.2)/\(∀p∈r.2.2.2,p.1=p.2)/\∃s,r.1=fk kd ds ro f s k'/\Sl N L' s/\r.2.1=H':=by obtain⟨r,q,l⟩:=St.1 h;rw[q]at l;simp only[Rx,Qk,Tb]at l;obtain⟨a,b,c,d,e,g⟩:=l;have hS:Sl N L' r.1.tmps:=⟨b,λp j=>by obtain⟨i,m⟩:=SX.1 j;have:=congrArg (·[i]?) c;simpa[SS,m]using this⟩;refine⟨r,q,λp j=>?_,λp j=>tM O p (g▸j),r.1.tmps,?_,hS,d⟩;{obtain⟨i,m⟩:=SX.1 j;have:=congrArg (·[i]?) e;simpa[SS,m]using this};revert a;obtain⟨⟨w,x,y,z,A,B,C⟩,_⟩:=r;intro a;cases a;rfl
end
variable{ownA:Nat->Prop}
structure Hq(C:Cx)(FR:UL->Prop)(m:Md)(ownA own:Nat->Prop)(v:UL)(H:List (Nat×Vu)):Prop where
 hp:Hp C FR own v H
 sub:∀k,ownA k->own k
 dI:m.tok=UJ->au C v
theorem vm(A:aX C FR)(K:m.said=Ul):Carry C.P rd (i==0) cs (λown g v=>ag C i j m own g v) (Hq C FR m ownA) True where
 ctl own v F J u h:=.ctl rfl u h
 mem own v H k b o L F J hK B _ u h:=by
  refine .step rfl K λa z=>?_
  have d:=hK.hp.eh A z
  obtain⟨q,t⟩:=d.get B
  obtain⟨s,N,O⟩:=u a t
  have r:(iH a b L).heap.size=a.heap.size:=by simp[iH]
  have p:ae.more own a (iH a b L)=own:=by
   funext k
   simp only[ae.more,eq_iff_iff,r]
   exact⟨λh=>h.elim id (λh=>absurd h.2 Ω),.inl⟩
  refine⟨_,_,s,N,⟨λc _ f=>oJ λe=>f (.inl (e▸q)),by omega,rfl,rfl,rfl,λe I=>?_⟩,?_⟩
  · obtain⟨x,y⟩:=O e I
    exact .inl (.inl ⟨b,x,.inl (.inl (.inl q)),y⟩)
  · rw[p]
    refine h _ ⟨d.put A B r (ph t) λc f=>oJ f,hK.sub,λw=>?_⟩
    obtain⟨s,⟨E,f⟩,n⟩:=(hK.dI w).env z (.inr ⟨w,rfl⟩)
    exact⟨s,⟨E,(oJ λe=>(hK.hp.ok b q).2.1 e.symm).trans f⟩,n⟩
 new _ own v H o F J hK u h:=by
  refine .step rfl K λa z=>?_
  have d:=hK.hp.eh A z
  have r:(a.alloc o).heap.size=a.heap.size+1:=UL.size_alloc a o
  refine⟨_,_,#[],u a,⟨λc f _=>?_,by omega,rfl,rfl,rfl,λe I=>by simp at I⟩,h _ _ _ ⟨d.alloc A o,λk B=>.inl (hK.sub k B),λw=>?_⟩⟩
  · show(a.heap.push o)[c]?=_
    rw[SP,if_neg (TJ f)]
  · obtain⟨s,⟨E,f⟩,n⟩:=(hK.dI w).env z (.inr ⟨w,rfl⟩)
    refine⟨s,⟨E,?_⟩,n⟩
    show(a.heap.push o)[C.mm]?=_
    rw[SP,if_neg (TJ d.mm)]
    exact f
section
variable[Late kd]
def Ot:Nat->(Vu->Vu)->List (Nat×Vu)->List (Nat×Vu)
 |_,_,[]=>[]
 |0,o,p::l=>(p.1,o p.2)::l
 |k+1,o,p::l=>p::Ot k o l
def ce(i:Nat)(v:UO):Vu->Vu
 |.cells c e fr=>.cells (c.setIfInBounds i v) e fr
 |o=>o
def ca(o _:Vu):Vu:=o
def dL:List (Nat×(Vu->Vu))->List (Nat×Vu)->List (Nat×Vu)
 |[],H=>H
 |(k,o)::st,H=>dL st (Ot k o H)
def mB:List Nat->List Vu->List (Nat×Vu)->List (Nat×Vu)
 |b::bs,o::os,H=>mB bs os ((b,o)::H)
 |_,_,H=>H
abbrev RG(C:Cx)(FR:UL->Prop)(i j:Nat)(m:Md)(kd:VA)(ds:List Vo)(ro:Option Nat)(f:Va)(N:Nat)(cs:List U0)(ownA:Nat->Prop)(L':List (Nat×UO))(k':List Vj)(H':List (Nat×Vu)):Prop:=
 ∀t own v,Sl N L' t->(∀k,ownA k->own k)->Hp C FR own v H'->ag C i j m own (G (fk kd ds ro f t k') cs) v
theorem Gc{r:Nat}{L':List Nat->List (Nat×UO)}{H':List Nat->List (Nat×Vu)}(hS:Sl N L t)(hK:Hq C FR m ownA own v H)(hP:C.P=Pz)(y:aX C FR)(D:m.said=Ul)(e:∀bs:List Nat,bs.length=r->dq Ul O n ix bs (fk kd ds ro f (tm N L t) k) (fk kd ds ro f #[] k') N (L' bs) H (H' bs))(h:∀bs:List Nat,bs.length=r->∀t own v,Sl N (L' bs) t->Hq C FR m ownA own v (H' bs)->ag C i j m own (G (fk kd ds ro f t k') cs) v):ag C i j m own (G (fk kd ds ro f t k) cs) v:=by have g:=vm (rd:=Ul) (i:=i) (j:=j) (ownA:=ownA) (cs:=cs) y D;rw[hP]at g;rw[hS.tm];refine g.run (oh O) n ix r (λ_=>trivial) own v _ H rfl Late.ne hK λbs d=>?_;obtain⟨x,l,o,p,E,q,s,w⟩:=(e bs d).end;exact⟨x,l,o,p,λa F b=>by rw[q];exact h bs d E a F s (w▸b)⟩
theorem sZ(p:aX C FR)(r:m.said=Ul):Carry C.P rd (i==0) cs (λown g v=>ag C i j m own g v) (λa v H=>a=own/\Hq C FR m own a v H) False where
 ctl _ _ _ _ d h:=.ctl rfl d h
 mem a v H k b o y F l hK q s d h:=(vm p r).mem a v H k b o y F l hK.2 q s d λz c=>h z ⟨hK.1,c⟩
 new h:=h.elim
theorem P3(hS:Sl N L t)(hH:Hp C FR own v H)(hM:m.tok=UJ->au C v)(hP:C.P=Pz)(w:aX C FR)(E:m.said=Ul)(e:dq Ul O n ix [] (fk kd ds ro f (tm N L t) k) (fk kd ds ro f #[] k') N L' H H')(h:∀t v,Sl N L' t->Hp C FR own v H'->(m.tok=UJ->au C v)->ag C i j m own (G (fk kd ds ro f t k') cs) v):ag C i j m own (G (fk kd ds ro f t k) cs) v:=by have c:=sZ (rd:=Ul) (i:=i) (j:=j) (own:=own) (cs:=cs) w E;rw[hP]at c;rw[hS.tm];refine c.run (oh O) n ix 0 (λh=>absurd rfl h) own v _ H rfl Late.ne ⟨rfl,hH,λ_ h=>h,hM⟩ λJ D=>?_;obtain rfl:=S9.1 D;obtain⟨x,l,o,p,F,q,r,s⟩:=e.end;exact⟨x,l,o,p,λg I a=>by obtain⟨rfl,d⟩:=a;rw[q];exact h F I r (s▸d.hp) d.dI⟩
theorem r0(ix:List Nat)(st:List (Nat×(Vu->Vu)))(k':List Vj)(L':List (Nat×UO))(h:∀t v,Sl N L' t->Hp C FR own v (dL st H)->ag C i j m own (G (fk kd ds ro f t k') cs) v)(n:Nat:=300)(O:List (Nat×Ob):=[])(hS:Sl N L t:=by exact hS)(hH:Hp C FR own v H:=by exact hH)(hP:C.P=Pz:=by exact hW.P)(hF:aX C FR:=by exact hW.steady)(hm:m.said=Ul:=by rfl)(hM:m.tok=UJ->au C v:=by intro e;cases e)(e:dq Ul O n ix [] (fk kd ds ro f (tm N L t) k) (fk kd ds ro f #[] k') N L' H (dL st H):=by delta dq;kernel_rfl):ag C i j m own (G (fk kd ds ro f t k) cs) v:=P3 hS hH hM hP hF hm e λt v hS hH _=>h t v hS hH
theorem q0(ix:List Nat)(st:List (Nat×(Vu->Vu)))(k':List Vj)(L':List (Nat×UO))(h:∀t v,Sl N L' t->Hp C FR own v (dL st H)->au C v->ag C i j .own own (G (fk kd ds ro f t k') cs) v)(n:Nat:=300)(O:List (Nat×Ob):=[])(hS:Sl N L t:=by exact hS)(hH:Hp C FR own v H:=by exact hH)(hP:C.P=Pz:=by exact hW.P)(hF:aX C FR:=by exact hW.steady)(hM:au C v:=by exact hM)(e:dq Ul O n ix [] (fk kd ds ro f (tm N L t) k) (fk kd ds ro f #[] k') N L' H (dL st H):=by delta dq;kernel_rfl):ag C i j .own own (G (fk kd ds ro f t k) cs) v:=P3 (m:=.own) hS hH (λ_=>hM) hP hF rfl e λt v hS hH hM=>h t v hS hH (hM rfl)
theorem r1(ix:List Nat)(os:Nat->List Vu)(st:List (Nat×(Vu->Vu)))(k':List Vj)(L':Nat->List (Nat×UO))(h:∀b,RG C FR i j m kd ds ro f N cs ownA (L' b) k' (dL st (mB [b] (os b) H)))(n:Nat:=300)(O:List (Nat×Ob):=[])(hS:Sl N L t:=by exact hS)(hH:Hp C FR own v H:=by exact hH)(hsub:∀k,ownA k->own k:=by first|exact hsub|exactλ_ h=>h)(hP:C.P=Pz:=by exact hW.P)(hF:aX C FR:=by exact hW.steady)(hm:m.said=Ul:=by rfl)(hM:m.tok=UJ->au C v:=by intro e;cases e)(e:∀b,dq Ul O n ix [b] (fk kd ds ro f (tm N L t) k) (fk kd ds ro f #[] k') N (L' b) H (dL st (mB [b] (os b) H)):=by intro b;delta dq;kernel_rfl):ag C i j m own (G (fk kd ds ro f t k) cs) v:=Gc (r:=1) (L':=λbs=>(L' (bs.getD 0 0))) (H':=λbs=>dL st (mB bs (os (bs.getD 0 0)) H)) hS ⟨hH,hsub,hM⟩ hP hF hm (λbs hb=>by match bs,hb with|[b],_=>exact e b) λbs hb=>by match bs,hb with|[b],_=>exactλt own v hS hK=>h b t own v hS hK.sub hK.hp
theorem r2(ix:List Nat)(os:Nat->Nat->List Vu)(st:List (Nat×(Vu->Vu)))(k':List Vj)(L':Nat->Nat->List (Nat×UO))(h:∀b c,RG C FR i j m kd ds ro f N cs ownA (L' b c) k' (dL st (mB [b,c] (os b c) H)))(n:Nat:=300)(O:List (Nat×Ob):=[])(hS:Sl N L t:=by exact hS)(hH:Hp C FR own v H:=by exact hH)(hsub:∀k,ownA k->own k:=by first|exact hsub|exactλ_ h=>h)(hP:C.P=Pz:=by exact hW.P)(hF:aX C FR:=by exact hW.steady)(hm:m.said=Ul:=by rfl)(hM:m.tok=UJ->au C v:=by intro e;cases e)(e:∀b c,dq Ul O n ix [b,c] (fk kd ds ro f (tm N L t) k) (fk kd ds ro f #[] k') N (L' b c) H (dL st (mB [b,c] (os b c) H)):=by intro b c;delta dq;kernel_rfl):ag C i j m own (G (fk kd ds ro f t k) cs) v:=Gc (r:=2) (L':=λbs=>(L' (bs.getD 0 0) (bs.getD 1 0))) (H':=λbs=>dL st (mB bs (os (bs.getD 0 0) (bs.getD 1 0)) H)) hS ⟨hH,hsub,hM⟩ hP hF hm (λbs hb=>by match bs,hb with|[b,c],_=>exact e b c) λbs hb=>by match bs,hb with|[b,c],_=>exactλt own v hS hK=>h b c t own v hS hK.sub hK.hp
theorem r5(ix:List Nat)(os:Nat->Nat->Nat->Nat->Nat->List Vu)(st:List (Nat×(Vu->Vu)))(k':List Vj)(L':Nat->Nat->Nat->Nat->Nat->List (Nat×UO))(h:∀b c d g l,RG C FR i j m kd ds ro f N cs ownA (L' b c d g l) k' (dL st (mB [b,c,d,g,l] (os b c d g l) H)))(n:Nat:=300)(O:List (Nat×Ob):=[])(hS:Sl N L t:=by exact hS)(hH:Hp C FR own v H:=by exact hH)(hsub:∀k,ownA k->own k:=by first|exact hsub|exactλ_ h=>h)(hP:C.P=Pz:=by exact hW.P)(hF:aX C FR:=by exact hW.steady)(hm:m.said=Ul:=by rfl)(hM:m.tok=UJ->au C v:=by intro e;cases e)(e:∀b c d g l,dq Ul O n ix [b,c,d,g,l] (fk kd ds ro f (tm N L t) k) (fk kd ds ro f #[] k') N (L' b c d g l) H (dL st (mB [b,c,d,g,l] (os b c d g l) H)):=by intro b c d g l;delta dq;kernel_rfl):ag C i j m own (G (fk kd ds ro f t k) cs) v:=Gc (r:=5) (L':=λbs=>(L' (bs.getD 0 0) (bs.getD 1 0) (bs.getD 2 0) (bs.getD 3 0) (bs.getD 4 0))) (H':=λbs=>dL st (mB bs (os (bs.getD 0 0) (bs.getD 1 0) (bs.getD 2 0) (bs.getD 3 0) (bs.getD 4 0)) H)) hS ⟨hH,hsub,hM⟩ hP hF hm (λbs hb=>by match bs,hb with|[b,c,d,g,l],_=>exact e b c d g l) λbs hb=>by match bs,hb with|[b,c,d,g,l],_=>exactλt own v hS hK=>h b c d g l t own v hS hK.sub hK.hp
def A3(F:U0):Option (Va×Array UO):=(AZ F).bind λo=>(aZ o).map λq=>(q,(dC o).map F.eval)
theorem uM{P:Program}{main:Bool}{w:UL}(h:A3 F=UG (q,args))(z:F.mode=.run)(s:F.kind≠.early)(R:P.funcs[q]?=UG fn)(S:(fn.name== "runtime.NumGoroutine")=Ul)(O:fn.body=UG c):UY P main (G F cs) w=.go (G (fr q (args++Array.replicate (fn.ntmps-args.size) UT) [.code c]) (F::cs)) w #[]:=by obtain⟨o,E,I⟩:=SU.1 h;obtain⟨T,J,K⟩:=St.1 I;cases K;obtain⟨l,x,e,A,n,M,p,_⟩:=vU E;obtain⟨g,a,D,b,B,d,ro⟩:=F;subst n z;have r:Sl a.size [] a:=.K9 rfl;haveI:Late d:=⟨s⟩;have:=vM (main:=main) (rest:=e) (kd:=d) (ds:=b) (ro:=ro) (f:=g) (kk:=A) (cs:=cs) (w:=w) r M (by rw[<-r.tm];exact p) J rfl rfl R S O;exact this
theorem rc(d:Nat){m':Md}{R:(Nat->Prop)->UL->Prop}(hc:(∀own' v',(∀k,own k->own' k)->R own' v'->ag C i j m' own' (G ((fk kd ds ro f t (.inRegion ops (x::rest)::kk)).finish u) cs) v')->ag C i j m own (G (fr q (args++Array.replicate (fn.ntmps-args.size) UT) [.code c]) (fk kd ds ro f t (.inRegion ops (x::rest)::kk)::cs)) v)(h:∀own v,Sl N ((d,u)::L) (t.setIfInBounds d u)->(∀k,ownA k->own k)->R own v->ag C i j m' own (G (fk kd ds ro f (t.setIfInBounds d u) (.inRegion ops rest::kk)) cs) v)(hS:Sl N L t:=by exact hS)(hsub:∀k,ownA k->own k:=by first|exact hsub|exactλ_ h=>h)(hP:C.P=Pz:=by exact hW.P)(e:(A3 (fk kd ds ro f (tm N L t) (.inRegion ops (x::rest)::kk)),(ops[x]?).bind (·.dst),decide (d<N),L.all λp=>!(p.1==d))=(UG (q,args),UG d,UJ,UJ):=by kernel_rfl)(e2:(Pz.funcs[q]?,fn.name== "runtime.NumGoroutine",fn.body)=(UG fn,Ul,UG c):=by kernel_rfl):ag C i j m own (G (fk kd ds ro f t (.inRegion ops (x::rest)::kk)) cs) v:=by obtain⟨e1,e⟩:=S4 e;obtain⟨hd,e⟩:=S4 e;obtain⟨hd1,hd2⟩:=S4 e;obtain⟨hf,e2⟩:=S4 e2;obtain⟨hn,hb⟩:=S4 e2;rw[<-hS.tm]at e1;refine .ctl rfl (λw=>uM e1 rfl Late.ne (by rw[hP];exact hf) hn hb) (hc λown' v' hs hR=>?_);(have:(fk kd ds ro f t (.inRegion ops (x::rest)::kk)).finish u=fk kd ds ro f (t.setIfInBounds d u) (.inRegion ops rest::kk):=by simp[U0.finish,hd]);rw[this];exact h own' v' (hS.pt (of_decide_eq_true hd1) hd2) (λk hk=>hs k (hsub k hk)) hR
theorem KJ(hi:C.wk i)(hH:Hp C FR own v H)(hW:∃Fd,Wc C FR Fd:=by exact⟨_,hW⟩)(K:∀own' v',(∀k,own k->own' k)->(Hp C FR own' v' H/\au C v')->ag C i j .own own' (G (F.finish (.tuple #[])) cs) v'):ag C i j .free own (G (fr 112 (#[ϱ C.mu 3]++Array.replicate (f112.ntmps-(#[ϱ C.mu 3]:Array UO).size) UT) [.code Lw.lH]) (F::cs)) v:=by obtain⟨Fd,hW⟩:=hW;refine Iq (K:=λw=>Hp C FR own w H) hW.ok hW.P hi (Hp.kd hW.ok hW.steady) (λv1 hH hM=>K own v1 (λ_ h=>h) ⟨hH,hM⟩) ?_ hH;have:=hW.mo;exact .cons (by rw[this];kernel_rfl) .all
theorem IM(hi:C.wk i)(hH:Hp C FR own v H)(hM:au C v)(hW:∃Fd,Wc C FR Fd:=by exact⟨_,hW⟩)(K:∀own' v',(∀k,own k->own' k)->Hp C FR own' v' H->ag C i j .free own' (G (F.finish (.tuple #[])) cs) v'):ag C i j .own own (G (fr 113 (#[ϱ C.mu 3]++Array.replicate (f113.ntmps-(#[ϱ C.mu 3]:Array UO).size) UT) [.code Lw.j6]) (F::cs)) v:=by obtain⟨Fd,hW⟩:=hW;refine CL (K:=λw=>Hp C FR own w H) hW.ok hW.P hi (Hp.kd hW.ok hW.steady) (λv1 hH=>K own v1 (λ_ h=>h) hH) ?_ hH hM;have:=hW.mo;exact .cons (by rw[this];kernel_rfl) .all
end
section
variable{T:Array UO}{K:List Vj}{caller:U0}
def vw:List Vj->Bool
 |[]=>UJ
 |.code .ret::_=>UJ
 |_=>Ul
theorem oF(h:ag C i j m own (G (zQ ds UM f T K) cs) v)(e:vw K=UJ:=by rfl):ag C i j m own (G (fx ds UM f T K) cs) v:=by refine .ctl rfl (λw=>?_) h;unfold vw at e;split at e;{simp[G,UY,UY.exec]};{simp[G,UY,UY.exec]};cases e
noncomputable def leaves(o:Vu)(f:Va)(T:Array UO):Option (UO×Vu×List Nat):=(Pz.funcs[f]?).bind λfn=>jR Pz UJ (results fn T) o
theorem wu(k:Nat)(u:UO){b:Nat}{o:Vu}(h:∀v,Hp C FR own v H->ag C i j m own (G (caller.finish u) cs) v)(hP:C.P=Pz:=by exact hW.P)(hF:aX C FR:=by exact hW.steady)(hm:m.said=Ul:=by rfl)(hH:Hp C FR own v H:=by exact hH)(hk:H[k]?=UG (b,o):=by rfl)(hS:Sl N L T:=by exact hS)(e:leaves o f (tm N L T)=UG (u,o,((leaves o f (tm N L T)).map λr=>r.2.2.map λ_=>b).getD []):=by kernel_rfl):ag C i j m own (G (zQ [] UM f T K) (caller::cs)) v:=by rw[<-hS.tm]at e;(have hall:∀q,leaves o f T=UG (u,o,q)->q=q.map (λ_=>b):=λq hq=>by rw[hq]at e;simpa using e);generalize hq:((leaves o f T).map λr=>r.2.2.map λ_=>b).getD []=q at e;have h1:=hall q e;obtain⟨fn,hf,e⟩:=SU.1 e;(have hb:∀r∈q,r=b:=λr hr=>by rw[h1]at hr;obtain⟨_,_,rfl⟩:=Sw.1 hr;rfl);refine .step rfl hm λv1 hv=>?_;have hH1:=hH.eh hF hv;obtain⟨hob,hb1⟩:=hH1.get hk;obtain⟨h2,h3⟩:=rH e hb hb1;rw[ng hb1]at h2;rw[hP];refine⟨_,v1,_,ae.aO hf h2,⟨λ_ _ _=>rfl,Sm _,rfl,rfl,rfl,λx hx=>?_⟩,?_⟩;{obtain⟨es',h4,h5⟩:=h3 #[];obtain⟨x1,x2⟩:=h5 x (by have:=cT hx;rw[h4]at this;simpa using this);exact .inl (.inl ⟨b,x1,.inl (.inl (.inl hob)),x2⟩)};rw[ik];exact h v1 hH1
theorem Hp.drop(h:Hp C FR own v H)(n:Nat):Hp C FR own v (H.drop n):=h.sub (λp a=>U4 a) (h.nd.sublist ((List.drop_sublist n H).map _))
theorem cE.of(N:Nat)(L:List (Nat×UO))(h:∀(own:Nat->Prop)(v:UL)(H:List (Nat×Vu))(caller:U0)(cs:List U0)(t:Array UO),Sl N L t->(∀k,own k->own k)->Hp C FR own v H->(∀a b,(∀k,own k->a k)->Hp C FR a b H->ag C i j .free a (G (caller.finish u) cs) b)->ag C i j .free own (G (fx [] UM q t [.code (fn.body.getD .skip)]) (caller::cs)) v)(e:Sl N L (args++Array.replicate (fn.ntmps-args.size) UT):=by exact .all):cE C FR i j q fn args u:=λown v H caller cs c d=>h own v H caller cs _ e (λ_ h=>h) c d
end
end
section
section
def QD(M:Nat)(base:List (Nat×UO))(VT:List (Nat×Nat×UO)):Bool:=
 VT.all λq=>decide (q.2.1<M)&&(base.all λp=>p.1 !=q.2.1)&&((VT.filter λr=>r.1==q.1).length==1)&&((VT.filter λr=>r.2.1==q.2.1).length==1)
theorem Ep{α:Type}{l:List α}{p:α->Bool}(h:(l.filter p).length=1){a b:α}(f:a∈l)(g:b∈l)(i:p a=UJ)(j:p b=UJ):a=b:=by have d:=UA.2 ⟨f,i⟩;have e:=UA.2 ⟨g,j⟩;match hl:l.filter p,h with|[c],_=>rw[hl]at d e;rw[Ty.1 d,Ty.1 e]
theorem DF.did(k:QD M base VT=UJ)(h:DF M base VT listed t){d:Nat}(b:(x,d,u)∈VT):DF M base VT (listed.setIfInBounds x UJ) (t.setIfInBounds d u):=by have c:=S7.1 k _ b;simp only[Qaa,decide_eq_true_eq,beq_iff_eq]at c;obtain⟨⟨⟨f,g⟩,i⟩,j⟩:=c;refine h.put (λq a e=>?_) f g (S7.2 λq a=>?_);{have:=Ep i a b (by simpa using e) Θ;rw[this]};by_cases e:q.2.1=d;{have:=Ep j a b (by simpa using e) Θ;simp[this]};simp[e]
def dl(ops:Array Oper)(base:List (Nat×UO))(VT:List (Nat×Nat×UO))(x:Nat):List (Nat×UO):=base++(VT.filter λq=>waits ops x q.1).map Prod.snd
theorem DF.dl(h:DF M base VT listed t)(a:∀k,waits ops x k=UJ->listed.getD k Ul=UJ):Sl M (dl ops base VT x) t:=h.sl λp b=>by rcases SL.1 b with b|b;{exact .inl b};obtain⟨q,e,rfl⟩:=Sw.1 b;obtain⟨c,d⟩:=UA.1 e;exact .inr ⟨q.1,c,a _ d⟩
end
abbrev KO:=List (Nat×Nat×Nat×UO)
def KO.vt(T:KO):List (Nat×Nat×UO):=T.map λe=>(e.1,e.2.2.1,e.2.2.2)
section
variable{ix:List (Nat×Nat)}
noncomputable def ze(f:Va)(M:Nat)(L:List (Nat×UO))(ops:Array Oper)(H:List (Nat×Vu))(ix:List (Nat×Nat)):KO:=
 (List.range ops.size).foldl (λT i=>
  T++[(i,(ix.lookup i).getD 0,((ops[i]?).bind (·.dst)).getD 0,match kz Pz UJ [] 1 [(ix.lookup i).getD 0] [] (fx [] UM f (tm M (T.map (λe=>e.2.2)++L) (Array.replicate M UT)) [.inRegion ops [i]]) H with
    |some r=>r.1.tmps.getD (((ops[i]?).bind (·.dst)).getD 0) UT
    |none=>UT)]) []
noncomputable def IQ(kd:VA)(ds:List Vo)(ro:Option Nat)(f:Va)(M:Nat)(L:List (Nat×UO))(ops:Array Oper)(H:List (Nat×Vu))(T:KO)(t:Array UO)(rest:List Nat)(kk:List Vj):List (Option (U0×List (Nat×Vu)×List Nat)×List Nat):=
 T.map λe=>(kz Pz UJ [] 1 [e.2.1] [] (fk kd ds ro f (tm M (dl ops L T.vt e.1) t) (.inRegion ops (e.1::rest)::kk)) H).elim (UM,[]) λr=>(UG (r.1,r.2.1,r.2.2.1.map Prod.fst),r.2.2.2.map λ_=>0)
noncomputable def IH(kd:VA)(ds:List Vo)(ro:Option Nat)(f:Va)(M:Nat)(L:List (Nat×UO))(ops:Array Oper)(H:List (Nat×Vu))(T:KO)(t:Array UO)(rest:List Nat)(kk:List Vj):List (Option (U0×List (Nat×Vu)×List Nat)×List Nat):=
 T.map λe=>(UG (fk kd ds ro f ((tm M (dl ops L T.vt e.1) t).setIfInBounds e.2.2.1 e.2.2.2) (.inRegion ops rest::kk),H,Qk (kz Pz UJ [] 1 [e.2.1] [] (fk kd ds ro f (tm M (dl ops L T.vt e.1) t) (.inRegion ops (e.1::rest)::kk)) H)),[])
theorem Ev{T:KO}(h:IQ kd ds ro f M L ops H T t rest kk=IH kd ds ro f M L ops H T t rest kk){e:Nat×Nat×Nat×UO}(m:e∈T):∃r,kz Pz UJ [] 1 [e.2.1] [] (fk kd ds ro f (tm M (dl ops L T.vt e.1) t) (.inRegion ops (e.1::rest)::kk)) H=UG r/\(∀p∈r.2.2.1,p.1=p.2)/\(∀p∈r.2.2.2,p.1=p.2)/\r.1=fk kd ds ro f ((tm M (dl ops L T.vt e.1) t).setIfInBounds e.2.2.1 e.2.2.2) (.inRegion ops rest::kk)/\r.2.1=H:=by obtain⟨i,n⟩:=SX.1 m;have:=congrArg (·[i]?) h;simp only[IQ,IH,SS,n,SC]at this;cases l:kz Pz UJ [] 1 [e.2.1] [] (fk kd ds ro f (tm M (dl ops L T.vt e.1) t) (.inRegion ops (e.1::rest)::kk)) H with|none=>rw[l]at this;simp at this|some r=>rw[l]at this;simp only[Option.elim,Qk,Tb,SJ]at this;obtain⟨⟨a,b,c⟩,d⟩:=this;refine⟨r,rfl,λp k=>?_,λp k=>?_,a,b⟩;{obtain⟨j,o⟩:=SX.1 k;have:=congrArg (·[j]?) c;simpa[SS,o]using this};rw[List.map_eq_nil_iff]at d;rw[d]at k;cases k
def NW(M:Nat)(L:List (Nat×UO))(ops:Array Oper)(T:KO)(L':List (Nat×UO)):Bool×List Nat×List (Option UO):=
 (E7 ops&&QD M L T.vt,T.map Prod.fst,L'.map λp=>(T.map (λe=>e.2.2)++L).lookup p.1)
theorem Ex{T:KO}(h:NW M L ops T L'=(UJ,List.range ops.size,L'.map λp=>UG p.2))(c:DF M L T.vt listed t)(b:∀i,i<ops.size->listed.getD i Ul=UJ):Sl M L' t:=by simp only[NW,Tb]at h;obtain⟨-,k,l⟩:=h;refine⟨c.size,λp o=>?_⟩;obtain⟨i,n⟩:=SX.1 o;have d:=congrArg (·[i]?) l;simp only[SS,n,SC,SJ]at d;have a:=jK d;rcases SL.1 a with a|a;{obtain⟨e,j,m⟩:=Sw.1 a;have g:=c.done (e.1,e.2.2.1,e.2.2.2) (Sw.2 ⟨e,j,rfl⟩) (b _ (by have:e.1∈T.map Prod.fst:=Sw.2 ⟨e,j,rfl⟩;rw[k]at this;simpa using this));rw[m]at g;exact g};exact c.base _ a
end
section
variable[Late kd]
theorem rD{id:Nat}(ix:List (Nat×Nat))(L':List (Nat×UO))(h:∀t v,Sl M L' t->Hp C FR own v H->(m.tok=UJ->au C v)->ag C i j m own (G (fk kd ds ro f t (.inRegion ops []::kk)) cs) v)(hS:Sl M L t:=by exact hS)(hH:Hp C FR own v H:=by exact hH)(hP:C.P=Pz:=by exact hW.P)(hF:aX C FR:=by exact hW.steady)(hm:m.said=Ul:=by rfl)(hM:m.tok=UJ->au C v:=by first|exactλ_=>hM|(intro e;cases e))(e1:NW M L ops (ze f M L ops H ix) L'=(UJ,List.range ops.size,L'.map λp=>UG p.2):=by kernel_rfl)(e2:∀t rest kk,IQ kd ds ro f M L ops H (ze f M L ops H ix) t rest kk=IH kd ds ro f M L ops H (ze f M L ops H ix) t rest kk:=by intro t rest kk;kernel_rfl):ag C i j m own (G (fk kd ds ro f t (.code (.region id ops UJ)::kk)) cs) v:=by have e0:=e1;simp only[NW,Tb,Qaa]at e0;obtain⟨⟨hac,hT⟩,hr,-⟩:=e0;generalize ze f M L ops H ix=T at*;refine eI Ξ hac (λl z=>z.own=own/\DF M L T.vt l z.t/\Hp C FR own z.v H/\(m.tok=UJ->au C z.v)) ?_ ?_ (λv1 hv=>⟨rfl,⟨hS.size,hS.at_,λq hq hl=>?_⟩,hH.eh hF hv,λht=>(hM ht).env hv (.inr ⟨ht,rfl⟩)⟩);{rintro listed⟨ow,t1,v1⟩i' rest hz hi hl hdep hcl⟨e0,hD,hH,hM⟩hk;obtain rfl:ow=own:=e0;(obtain⟨e,he,rfl⟩:∃e∈T,e.1=i':=by(have:i'∈T.map Prod.fst:=by rw[hr];simpa using hi);obtain⟨e,he,h⟩:=Sw.1 this;exact⟨e,he,h⟩);replace hD:DF M L T.vt listed t1:=hD;have hS1:=hD.dl hdep;obtain⟨r,h1,h2,h3,h4,h5⟩:=Ev (e2 t1 rest kk) he;simp only;rw[hS1.tm];have hc:=sZ (rd:=UJ) (C:=C) (FR:=FR) (i:=i) (j:=j) (own:=ow) (cs:=cs) hF hm;rw[hP]at hc;refine hc.run [] 1 [e.2.1] 0 (λh=>absurd rfl h) _ v1 _ H rfl Late.ne ⟨rfl,hH,λ_ h=>h,hM⟩ λbs hb=>?_;obtain rfl:=S9.1 hb;refine⟨r,h1,h2,h3,λown' v' hK'=>?_⟩;obtain⟨rfl,hq⟩:=hK';rw[h4,<-hS1.tm];exact hk ⟨_,t1.setIfInBounds e.2.2.1 e.2.2.2,v'⟩ ⟨rfl,hD.did hT (Sw.2 ⟨e,he,rfl⟩),h5▸hq.hp,hq.dI⟩};{rintro listed⟨ow,t1,v1⟩hall⟨e0,hD,hH,hM⟩;obtain rfl:ow=own:=e0;exact h _ _ (Ex e1 hD hall) hH hM};simp only[Sr,SD]at hl;split at hl<;>simp at hl
end
end
end Go.Me
namespace Go.Cr
open Go.Conc Go.Mx Go.Rk Go.ConcM
open Go.ConcR(KK WgAt wgBlock stA smA rd wr mk deafBehind_cons deafBehind_one)
open Go.ConcN(RelBy PermW Apart Deaf_absent)
variable{b:Nat}{u:VE}{m:Mark}
section
def dn(b:Nat):Loc->Prop
 |.cell a=>a.block=b
 |.obj r=>r=b
 |_=>False
theorem fX{b':Nat}{l:Loc}(h:dn b l)(k:dn b' l):b=b':=by cases l<;>simp[dn]at h k<;>omega
section
variable(C:Cx)(Shun:Loc->Prop)(A:Nat->Nat->Prop)
def Sh:Loc->Prop:=λl=>Shun l\/∃a,l=.cell a/\(a.block=C.wg\/(a.block=C.mu/\C.mo<=a.off))
def Pr:Loc->Prop:=dn C.mm
def sB(k:Nat)(l:Loc):Prop:=C.base<=k/\((∃b,A k b/\dn b l)\/∃a,l=.cell a/\a.block=C.out/\C.oc k a.off)
def Ox(k:Nat)(l:Loc):Prop:=C.base<=k/\((∃b,C.RO b/\dn b l)\/∃a,l=.cell a/\a.block=C.mu/\a.off<C.mo)
structure CF(B:Nat):Prop where
 zv:∀k k' b,A k b->A k' b->k=k'
 lt:∀k b,A k b->b<B
 sh:∀k b,A k b->b≠C.mu/\b≠C.mm/\b≠C.wg/\b≠C.out/\¬C.RO b/\∀l,Shun l->¬dn b l
structure qj(B:Nat):Prop where
 lt:∀l b,Shun l->dn b l->b<B
 sh:∀l b,Shun l->dn b l->¬C.RO b/\b≠C.mu/\b≠C.mm/\b≠C.out
 cell:∀l,Shun l->∃b,dn b l
end
variable{C:Cx}{Shun:Loc->Prop}{A A':Nat->Nat->Prop}{B B':Nat}
theorem apart(i:C.Ok)(j:CF C Shun A B)(o:qj C Shun B'):ApartL (Sh C Shun) (Pr C) (sB C A) (Ox C):=by refine⟨⟨λk q l h g=>?_,λk q l h g=>?_,λk l h g=>?_,λk l h g=>?_⟩,λl h g=>?_,λk l h g=>?_,λk l h g=>?_⟩;{obtain⟨_,⟨b,d,f⟩|⟨a,rfl,d,f⟩⟩:=h<;>obtain⟨_,⟨p,c,m⟩|⟨n,e,c,m⟩⟩:=g;{obtain rfl:=fX f m;exact j.zv _ _ _ d c};{subst e;exact absurd (f.symm.trans c) (j.sh _ _ d).2.2.2.1};{exact absurd (m.symm.trans d) (j.sh _ _ c).2.2.2.1};cases e;exact i.oc _ _ _ f m};{obtain⟨_,⟨b,d,f⟩|⟨a,rfl,d,f⟩⟩:=h<;>obtain⟨_,⟨p,c,m⟩|⟨n,e,c,m⟩⟩:=g;{obtain rfl:=fX f m;exact(j.sh _ _ d).2.2.2.2.1 c};{subst e;exact(j.sh _ _ d).1 (f.symm.trans c)};{(have:=by simpa[dn,d]using m.symm);exact(i.ro _ c).2.2.2 this};cases e;exact i.gd (c.symm.trans d)};{obtain⟨_,⟨b,d,f⟩|⟨a,rfl,d,f⟩⟩:=h<;>rcases g with c|⟨n,e,c⟩;{exact(j.sh _ _ d).2.2.2.2.2 _ c f};{subst e;rcases c with c|c;{exact(j.sh _ _ d).2.2.1 (f.symm.trans c)};exact(j.sh _ _ d).1 (f.symm.trans c.1)};{exact(o.sh (.cell a) a.block c rfl).2.2.2 d};cases e;rcases c with c|c;{exact i.iN (c.symm.trans d)};exact i.gd (c.1.symm.trans d)};{obtain⟨_,⟨b,d,f⟩|⟨a,rfl,d,f⟩⟩:=h<;>rcases g with c|⟨n,e,c⟩;{exact(o.sh _ _ c f).1 d};{subst e;rcases c with c|c;{exact(i.ro _ d).2.2.1 (f.symm.trans c)};exact(i.ro _ d).1 (f.symm.trans c.1)};{exact(o.sh (.cell a) a.block c rfl).2.1 d};cases e;rcases c with c|c;{exact i.gi (d.symm.trans c)};omega};{rcases g with c|⟨n,e,c⟩;{exact(o.sh _ _ c h).2.2.1 rfl};subst e;rcases c with c|c;{exact i.nO (h.symm.trans c)};exact i.lT (c.1.symm.trans h)};{obtain⟨_,⟨b,d,f⟩|⟨a,rfl,d,f⟩⟩:=h;{exact(j.sh _ _ d).2.1 (fX f g)};exact i.mG (Eq.symm (d.symm.trans g))};obtain⟨_,⟨b,d,f⟩|⟨a,rfl,d,f⟩⟩:=h;{exact(i.ro _ d).2.1 (fX f g)};exact i.lT (d.symm.trans g)
structure TI(C:Cx)(Shun:Loc->Prop)(A:Nat->Nat->Prop)(o:Option Nat)(df:Nat->Nat)(rl:Nat->Prop)(sz B:Nat)(t:VE):Prop where
 lt:LT (Sh C Shun) (Pr C) (sB C A) (Ox C) C.muA t (sz-1) o
 over:∀i g,t.g? i=UG g->g≠0->g<C.base->t.counts i->∃j,t.g? j=UG 0/\HappensBefore t i j
 known:∀i a g,touchAt t i=UG a->t.g? i=UG g->g<C.base->a.loc.isMemory=UJ->Knows t 0 i\/(Sh C Shun a.loc/\a.kind=.atomic)
 atom:∀i a,touchAt t i=UG a->a.kind=.atomic->∀g,t.g? i=UG g->C.base<=g->Sh C Shun a.loc
 rel:∀k,rl k->∃r,RelBy (stA C.wg) t k r
 norel:NoRelease (stA C.wg) t
 seen:∀op∈t,op.act.low B
 deaf:∀k,Deaf t k=df k
 kp:∀k,sz<=k->df k=0
def KQ(C:Cx)(Shun:Loc->Prop)(A:Nat->Nat->Prop)(o:Option Nat)(k B:Nat)(e:Vv):Prop:=
 (∀x,(Ve.ofEvent e).touch?=UG x->(Sh C Shun x.loc/\x.kind=.atomic)\/(x.kind=.plain/\(sB C A k x.loc\/(Ox C k x.loc/\x.write=Ul)\/(Pr C x.loc/\o=UG k))))/\
 e.loc≠.mark (.release C.muA)/\e.loc≠.mark (.release (stA C.wg))/\(Ve.ofEvent e).low B
theorem fe{e:Vv}{a:Vs}(h:Ve.ofEvent e=.mark (.release a)):e.loc=.mark (.release a):=by obtain⟨b,w,s⟩:=e;cases b with|mark m=>simp[Ve.ofEvent]at h;rw[h]|obj c=>cases w<;>cases s<;>simp[Ve.ofEvent]at h|_=>simp[Ve.ofEvent]at h
variable{o:Option Nat}{df:Nat->Nat}{rl:Nat->Prop}{sz:Nat}{t:VE}{k:Nat}{fn:Va}{pos:String}{es:Array Vv}
theorem oL(h:∀i g,t.g? i=UG g->g≠0->g<C.base->t.counts i->∃j,t.g? j=UG 0/\HappensBefore t i j)(y:∀b∈u,b.g=0\/C.base<=b.g\/b.act.touch?=UM):∀i g,(t++u).g? i=UG g->g≠0->g<C.base->(t++u).counts i->∃j,(t++u).g? j=UG 0/\HappensBefore (t++u) i j:=by intro i g f e d s;obtain⟨x,q,_⟩:=s;obtain⟨b,a,w⟩:=touch_of q;rcases getElem?_append_cases a with⟨l,n⟩|⟨_,p⟩;{obtain⟨j,m,r⟩:=h i g (by simpa[VE.g?,getElem?_append_old l]using f) e d ((counts_old l).1 ⟨x,q,‹_›⟩);(have c:j<t.size:=by unfold VE.g? at m;grind);exact⟨j,by simpa[VE.g?,getElem?_append_old c]using m,hb_app u r⟩};(have v:=by simpa[VE.g?,a]using f);grind
theorem mT(h:∀i a g,touchAt t i=UG a->t.g? i=UG g->g<C.base->a.loc.isMemory=UJ->Knows t 0 i\/(Sh C Shun a.loc/\a.kind=.atomic))(s:∀j∈u,j.g=0\/C.base<=j.g\/j.act.touch?=UM):∀i a g,touchAt (t++u) i=UG a->(t++u).g? i=UG g->g<C.base->a.loc.isMemory=UJ->Knows (t++u) 0 i\/(Sh C Shun a.loc/\a.kind=.atomic):=by intro i a g n m b q;obtain⟨x,c,e⟩:=touch_of n;rcases getElem?_append_cases c with⟨p,d⟩|⟨_,f⟩;{exact(h i a g (by rw[touchAt_of d];exact e) (by simpa[VE.g?,getElem?_append_old p]using m) b q).imp (·.app u) id};(have r:=by simpa[VE.g?,c]using m);rcases s x f with l|l|l;{have:=knows_own c;simp_all};{omega};simp_all
theorem oZ(h:∀i a,touchAt t i=UG a->a.kind=.atomic->∀g,t.g? i=UG g->C.base<=g->Sh C Shun a.loc)(r:∀f∈u,C.base<=f.g->∀a,f.act.touch?=UG a->a.kind=.atomic->Sh C Shun a.loc):∀i a,touchAt (t++u) i=UG a->a.kind=.atomic->∀g,(t++u).g? i=UG g->C.base<=g->Sh C Shun a.loc:=by intro i a j n g d l;obtain⟨x,e,c⟩:=touch_of j;(have p:=by simpa[VE.g?,e]using d);rcases getElem?_append_cases e with⟨m,b⟩|⟨_,q⟩;{exact h i a (by rw[touchAt_of b];exact c) n g (by simpa[VE.g?,getElem?_append_old m]using d) l};grind
theorem rT(h:∀a∈t,a.act.low B)(c:B<=B')(d:∀a∈u,a.act.low B'):∀a∈t++u,a.act.low B':=λa b=>(SO.1 b).elim (λx=>Ve.low_mono c (h a x)) (d a)
theorem TI.zO(w:C.Ok)(v:CF C Shun A B)(hS:qj C Shun B)(h:TI C Shun A o df rl sz B t)(L:C.base<=k)(K:1<=C.base)(F:k<sz)(d:∀e∈es,KQ C Shun A o k B e)(E:rl k->∀j e,es[j]?=UG e->(Ve.ofEvent e).touch?=UM\/((∃s wr,e=⟨.cell s,wr,UJ⟩)/\0<Vb (df k) (es.extract 0 j))):TI C Shun A o (λx=>if x=k then Vb (df k) es else df x) rl sz B (t++Vy.ofEvents k fn pos es):=by(have q:∀c∈Vy.ofEvents k fn pos es,c.g=k:=λc b=>by obtain⟨e,_,rfl⟩:=Go.Conc.mem_ofEvents b;rfl);have i:∀c∈Vy.ofEvents k fn pos es,c.g=0\/C.base<=c.g\/c.act.touch?=UM:=λc b=>.inr (.inl (by simp_all));refine⟨h.lt.appW (k:=k) (apart w v hS) Ω Ω λc b=>?_,oL h.over i,mT h.known i,oZ h.atom λc b _ a z D=>?_,λx l=>?_,h.norel.app λc b e=>?_,rT h.seen (Sm _) λc b=>?_,λx=>?_,λx l=>?_⟩;{obtain⟨e,n,rfl⟩:=Go.Conc.mem_ofEvents b;obtain⟨H,u,I,J⟩:=d e n;refine⟨rfl,λg=>u (fe g),λx l=>?_⟩;grind};{obtain⟨e,n,rfl⟩:=Go.Conc.mem_ofEvents b;rcases(d e n).1 a z with⟨x,_⟩|⟨x,_⟩;{exact x};simp_all};{by_cases e:x=k;{subst e;obtain⟨r,p⟩:=h.rel x l;exact⟨r,p.appOwn fn pos es (by rw[h.deaf x];grind)⟩};obtain⟨r,p⟩:=h.rel x l;exact⟨r,p.appOther q (Ne.symm e)⟩};{obtain⟨g,f,rfl⟩:=Go.Conc.mem_ofEvents b;exact(d g f).2.2.1 (fe e)};{obtain⟨g,f,rfl⟩:=Go.Conc.mem_ofEvents b;exact(d g f).2.2.2};{by_cases e:x=k;{subst e;rw[if_pos rfl,Deaf_own,h.deaf]};rw[if_neg e,Deaf_other t (Ne.symm e) _ q,h.deaf]};rw[if_neg Ω];exact h.kp x l
theorem tz(f:(Ve.ofEvent (mk m)).touch?=UM)(b:m≠.release C.muA)(c:m≠.release (stA C.wg))(d:(Ve.ofEvent (mk m)).low B):∀e∈#[mk m],KQ C Shun A o k B e:=by intro e a;simp at a;subst a;exact⟨λx g=>(by simp_all),by simpa[mk]using b,by simpa[mk]using c,d⟩
theorem ni(d:Nat)(b:m≠Mark.disable)(c:m≠Mark.enable):Vb d #[mk m]=d:=deafBehind_still (λe a=>by simp at a;subst a;simp[mk,b,c]) d
theorem TI.acquire(i:C.Ok)(f:CF C Shun A B)(hS:qj C Shun B)(h:TI C Shun A UM df rl sz B t)(r:C.base<=k)(q:1<=C.base)(d:k<sz)(hd:df k=0)(s:¬rl k)(p:C.mu<B):TI C Shun A (UG k) df rl sz B (t++Vy.ofEvents k fn pos #[Go.ConcR.mk (Mark.acquire C.muA)]):=by have a:=h.zO (fn:=fn) (pos:=pos) i f hS r q d (tz (m:=Mark.acquire C.muA) rfl Θ Θ p) λx=>absurd x s;(have n:Vy.ofEvents k fn pos #[Go.ConcR.mk (Mark.acquire C.muA)]=#[{g:=k,fn,pos,act:=.mark (Mark.acquire C.muA)}]:=by rw[ofEvents_eq];simp[Go.ConcR.mk,Ve.ofEvent]);(have c:(λx=>if x=k then Vb (df k) #[Go.ConcR.mk (Mark.acquire C.muA)]else df x)=df:=by funext x;split;{rename_i e;subst e;rfl};rfl);rw[c]at a;refine⟨?_,a.over,a.known,a.atom,a.rel,a.norel,a.seen,a.deaf,a.kp⟩;rw[n];exact h.lt.acquire (apart i f hS) (by grind) rfl (by rw[h.deaf,hd])
theorem TI.release(i:C.Ok)(f:CF C Shun A B)(hS:qj C Shun B)(h:TI C Shun A (UG k) df rl sz B t)(r:C.base<=k)(q:1<=C.base)(d:k<sz)(hd:df k=0)(s:¬rl k)(p:C.mu<B):TI C Shun A UM df rl sz B (t++Vy.ofEvents k fn pos #[Go.ConcR.mk (Mark.releaseMerge C.muA)]):=by have a:=h.zO (fn:=fn) (pos:=pos) i f hS r q d (tz (m:=Mark.releaseMerge C.muA) rfl Θ Θ p) λx=>absurd x s;(have n:Vy.ofEvents k fn pos #[Go.ConcR.mk (Mark.releaseMerge C.muA)]=#[{g:=k,fn,pos,act:=.mark (Mark.releaseMerge C.muA)}]:=by rw[ofEvents_eq];simp[Go.ConcR.mk,Ve.ofEvent]);(have c:(λx=>if x=k then Vb (df k) #[Go.ConcR.mk (Mark.releaseMerge C.muA)]else df x)=df:=by funext x;split;{rename_i e;subst e;rfl};rfl);rw[c]at a;refine⟨?_,a.over,a.known,a.atom,a.rel,a.norel,a.seen,a.deaf,a.kp⟩;rw[n];exact h.lt.release (apart i f hS) rfl rfl (by rw[h.deaf,hd])
theorem TI.said(j:C.Ok)(g:CF C Shun A B)(hS:qj C Shun B)(h:TI C Shun A o df rl sz B t)(p:C.base<=k)(n:1<=C.base)(c:k<sz)(hd:df k=0)(q:¬rl k)(i:C.wg<B):TI C Shun A o df (λx=>rl x\/x=k) sz B (t++Vy.ofEvents k fn pos #[Go.ConcR.mk (Mark.releaseMerge (stA C.wg))]):=by have a:=h.zO (fn:=fn) (pos:=pos) j g hS p n c (tz (m:=Mark.releaseMerge (stA C.wg)) rfl Θ Θ i) λx=>absurd x q;(have b:(λx=>if x=k then Vb (df k) #[Go.ConcR.mk (Mark.releaseMerge (stA C.wg))]else df x)=df:=by funext x;split;{rename_i e;subst e;rfl};rfl);rw[b]at a;refine⟨a.lt,a.over,a.known,a.atom,λx d=>?_,a.norel,a.seen,a.deaf,a.kp⟩;rcases d with d|rfl;{exact a.rel x d};exact⟨_,RelBy.new (by rw[h.deaf,hd]) fn pos⟩
theorem D4{act:Ve}{a:Touch}(g:act.low B)(c:act.touch?=UG a)(h:B<=b)(f:dn b a.loc):False:=by cases act with|access e=>simp only[Ve.touch?,SJ]at c;subst c;obtain⟨d,wr,i⟩:=e;cases d<;>simp[Ve.low,Loc.low,dn]at g f<;>omega|mark m=>cases m<;>simp[Ve.touch?]at c<;>subst c<;>simp[Ve.low,dn]at g f<;>omega|_=>simp[Ve.touch?]at c
theorem TI.A9(h:TI C Shun A o df rl sz B t)(D:B<=B')(p:∀k b,A' k b->A k b\/B<=b)(q:∀k b,A k b->A' k b):TI C Shun A' o df rl sz B' t:=by(have j:∀l b,B<=b->dn b l->∀i a,touchAt t i=UG a->a.loc≠l:=by intro l b u v i a s e;obtain⟨x,E,z⟩:=touch_of s;exact D4 (h.seen x (S6 E)) z u (e▸v));(have r:∀k l,sB C A' k l->sB C A k l\/∃b,B<=b/\dn b l:=by rintro k l⟨d,⟨b,c,f⟩|c⟩;{rcases p k b c with x|x;{exact .inl ⟨d,.inl ⟨b,x,f⟩⟩};grind};exact .inl ⟨d,.inr c⟩);(have g:∀k l,sB C A k l->sB C A' k l:=by rintro k l⟨d,⟨b,c,f⟩|c⟩;{exact⟨d,.inl ⟨b,q k b c,f⟩⟩};exact⟨d,.inr c⟩);have H:=h.lt;refine⟨⟨H.quiet,λk m n l v=>?_,H.rd,λl d c f=>H.free l d c λk m n=>⟨λx=>(f k m n).1 (g k l x),(f k m n).2⟩,λl d c f=>H.mine l d c λk m n x=>f k m n (g k l x),H.tok,H.norel,H.nr,H.gs⟩,h.over,h.known,h.atom,h.rel,h.norel,λF y=>Ve.low_mono D (h.seen F y),h.deaf,h.kp⟩;rcases r k l v with x|⟨b,u,w⟩;{exact H.own k m n l x};exactλi a s e=>absurd e (j l b u w i a s)
theorem TI.low(h:TI C Shun A o df rl sz B t)(a:B<=B'):TI C Shun A o df rl sz B' t:=h.A9 a (λ_ _ x=>.inl x) λ_ _ x=>x
def Ev0(C:Cx)(Shun:Loc->Prop)(A:Nat->Nat->Prop)(B:Nat)(e:Vv):Prop:=
 (∀x,(Ve.ofEvent e).touch?=UG x->(Sh C Shun x.loc/\x.kind≠.plain)\/(¬Sh C Shun x.loc/\¬Pr C x.loc/\(∀k,¬sB C A k x.loc)/\(x.write=UJ->∀k,¬Ox C k x.loc)))/\
 e.loc≠.mark (.release C.muA)/\e.loc≠.mark (.release (stA C.wg))/\(Ve.ofEvent e).low B
theorem TI.step0(v:1<=C.base)(s:C.Ok)(q:CF C Shun A B)(hS:qj C Shun B)(h:TI C Shun A o df rl sz B t)(D:¬rl 0)(E:0<sz)(f:∀e∈es,Ev0 C Shun A B e):TI C Shun A o (λx=>if x=0 then Vb (df 0) es else df x) rl sz B (t++Vy.ofEvents 0 fn pos es):=by(have m:∀c∈Vy.ofEvents 0 fn pos es,c.g=0:=λc b=>by obtain⟨e,_,rfl⟩:=Go.Conc.mem_ofEvents b;rfl);have i:∀c∈Vy.ofEvents 0 fn pos es,c.g=0\/C.base<=c.g\/c.act.touch?=UM:=λc b=>.inl (m c b);refine⟨h.lt.app0 (apart s q hS) λc b=>?_,oL h.over i,mT h.known i,oZ h.atom λc b w a J z=>?_,λx j=>?_,h.norel.app λc b e=>?_,rT h.seen (Sm _) λc b=>?_,λx=>?_,λx j=>?_⟩;{obtain⟨e,y,rfl⟩:=Go.Conc.mem_ofEvents b;obtain⟨F,p,H,I⟩:=f e y;refine⟨rfl,λg=>p (fe g),λx j=>?_⟩;grind};{simp_all};{obtain⟨r,n⟩:=h.rel x j;exact⟨r,n.appOther m (λe=>D (e▸j))⟩};{obtain⟨g,d,rfl⟩:=Go.Conc.mem_ofEvents b;exact(f g d).2.2.1 (fe e)};{obtain⟨g,d,rfl⟩:=Go.Conc.mem_ofEvents b;exact(f g d).2.2.2};{by_cases e:x=0;{subst e;rw[if_pos rfl,Deaf_own,h.deaf]};rw[if_neg e,Deaf_other t (Ne.symm e) _ m,h.deaf]};rw[if_neg Ω];exact h.kp x j
end
end Go.Cr
namespace Go.Cr
open Go.Conc Go.Mx Go.Rk Go.ConcM
open Go.ConcR(KK WgAt wgBlock stA smA rd wr mk deafBehind_cons deafBehind_one)
variable{e:Vv}{loc:Loc}{w:Bool}{b:Nat}{a:Vs}
section
variable{C:Cx}{Shun:Loc->Prop}{A:Nat->Nat->Prop}{B B':Nat}{o:Option Nat}{k:Nat}{own:Nat->Prop}{es:Array Vv}
theorem nC(h:qL C own e):(∃b,dn b e.loc/\(own b\/(C.RO b/\e.write=Ul))/\e.sync=Ul)\/((Ve.ofEvent e).touch?=UM/\(∃m,e.loc=.mark m/\(m=.noRoom\/∃f,m=.extern f))/\(Ve.ofEvent e).low 0)\/(∃off,off<C.mo/\e=⟨.cell ⟨C.mu,off,UM⟩,Ul,Ul⟩):=by obtain⟨d,w,s⟩:=e;rcases h with(⟨b,g,a,c⟩|⟨_,_,_,i,_⟩|h|⟨f,h⟩)|h;{refine .inl ⟨b,?_,a,c⟩;assumption};{grind};{subst h;exact .inr (.inl ⟨rfl,⟨_,rfl,.inl rfl⟩,trivial⟩)};{subst h;exact .inr (.inl ⟨rfl,⟨_,rfl,.inr ⟨f,rfl⟩⟩,trivial⟩)};simp_all
theorem fM(h:dn b loc){x:Touch}(c:(Ve.ofEvent ⟨loc,w,Ul⟩).touch?=UG x):x=⟨loc,w,.plain⟩:=by cases loc with|cell a=>simp[Ve.ofEvent,Ve.touch?]at c;grind|obj r=>simp[Ve.ofEvent,Ve.touch?]at c;grind|_=>simp[dn]at h
theorem rE{s:Bool}(h:dn b loc)(c:b<B):(Ve.ofEvent ⟨loc,w,s⟩).low B:=by cases loc with|cell a=>simp[dn]at h;simp[Ve.ofEvent,Ve.low,Loc.low];omega|obj r=>simp[dn]at h;cases w<;>cases s<;>simp[Ve.ofEvent,Ve.low,Loc.low]<;>omega|_=>simp[dn]at h
theorem Ji(l:C.base<=k)(h:qL C own e)(j:∀b,own b->A k b\/(b=C.mm/\o=UG k))(n:∀b,own b\/C.RO b->b<B)(q:C.mu<B):KQ C Shun A o k B e:=by rcases nC h with⟨b,a,c,d⟩|⟨a,⟨m,c,d⟩,i⟩|⟨p,a,rfl⟩;{obtain⟨r,w,s⟩:=e;subst d;refine⟨λx g=>.inr ?_,λe=>by subst e;assumption,λe=>by subst e;assumption,rE a (n b (c.imp id (·.1)))⟩;rw[fM a g];refine⟨rfl,?_⟩;rcases c with c|⟨c,d⟩;{rcases j b c with i|⟨rfl,i⟩;{exact .inl ⟨l,.inl ⟨b,i,a⟩⟩};exact .inr (.inr ⟨a,i⟩)};exact .inr (.inl ⟨⟨l,.inl ⟨b,c,a⟩⟩,d⟩)};{refine⟨λx g=>(by rw[a]at g;cases g),?_,?_,Ve.low_mono (SK _) i⟩<;>rw[c]<;>rcases d with rfl|⟨f,rfl⟩<;>simp};refine⟨λx g=>.inr ?_,by simp,by simp,by assumption⟩;rw[fM (loc:=.cell ⟨C.mu,p,UM⟩) rfl g];exact⟨rfl,.inr (.inl ⟨⟨l,.inr ⟨_,rfl,rfl,a⟩⟩,rfl⟩)⟩
theorem tZ(h:∀e∈es,qL C own e)(d:Nat):Vb d es=d:=deafBehind_still (λe c=>by rcases nC (h e c)with⟨b,a,_⟩|⟨_,⟨m,g,i⟩,_⟩|⟨f,_,rfl⟩;{constructor<;>intro x<;>rw[x]at a<;>simp[dn]at a};{grind};simp) d
theorem Jw(t:C.Ok)(K:qj C Shun B')(J:CF C Shun A B)(h:qL C own e)(L:∀b,own b->b≠C.mu/\b≠C.mm/\b≠C.wg/\b≠C.out/\¬C.RO b/\(∀l,Shun l->¬dn b l)/\∀k,¬A k b)(z:∀b,own b\/C.RO b->b<B)(Q:C.mu<B):Ev0 C Shun A B e:=by rcases nC h with⟨b,c,g,r⟩|⟨c,⟨m,g,r⟩,N⟩|⟨H,c,rfl⟩;{obtain⟨S,w,s⟩:=e;subst r;refine⟨λx n=>.inr ?_,λe=>by subst e;assumption,λe=>by subst e;assumption,rE c (z b (g.imp id (·.1)))⟩;rw[fM c n];(have F:b≠C.mu/\b≠C.mm/\b≠C.wg/\b≠C.out/\(∀l,Shun l->¬dn b l)/\∀k,¬A k b:=by rcases g with g|⟨g,_⟩;{simp_all};obtain⟨u,v,I,y⟩:=t.ro b g;exact⟨u,v,I,y,λl P O=>(K.sh l b P O).1 g,λk p=>(J.sh k b p).2.2.2.2.1 g⟩);obtain⟨u,v,I,y,T,M⟩:=F;refine⟨λd=>?_,λD=>v (fX c D),λk p=>?_,λE k R=>?_⟩;{rcases d with d|⟨a,rfl,d⟩;{simp_all};have:a.block=b:=c;omega};{obtain⟨_,⟨q,i,j⟩|⟨a,rfl,i,j⟩⟩:=p;{exact M k (fX c j▸i)};exact y (Eq.trans (Eq.symm c) i)};obtain⟨_,⟨q,i,j⟩|⟨a,rfl,i,j⟩⟩:=R;{obtain rfl:=fX c j;simp_all};exact u (Eq.trans (Eq.symm c) i)};{refine⟨λx n=>(by rw[c]at n;cases n),?_,?_,Ve.low_mono (SK _) N⟩<;>rw[g]<;>rcases r with rfl|⟨f,rfl⟩<;>simp};refine⟨λx n=>.inr ?_,by simp,by simp,by assumption⟩;rw[fM (loc:=.cell ⟨C.mu,H,UM⟩) rfl n];refine⟨λd=>?_,λD=>t.lT D,λk p=>?_,λE=>by simp at E⟩;{rcases d with d|⟨a,e,d⟩;{exact(K.sh _ C.mu d rfl).2.1 rfl};cases e;rcases d with d|d;{exact t.gi d};grind};obtain⟨_,⟨q,i,j⟩|⟨a,e,i,j⟩⟩:=p;{have:=j;exact(J.sh k q i).1 this.symm};cases e;exact t.gd i
def SA(C:Cx)(a:Vs):Prop:=a=C.muA\/a=C.msA\/a=stA C.wg\/a=smA C.wg
theorem SA.sh(h:SA C a):Sh C Shun (.cell a)/\(a.block=C.mu\/a.block=C.wg):=by rcases h with rfl|rfl|rfl|rfl;{exact⟨.inr ⟨_,rfl,.inr ⟨rfl,Sm _⟩⟩,.inl rfl⟩};{exact⟨.inr ⟨_,rfl,.inr ⟨rfl,Tl _⟩⟩,.inl rfl⟩};{exact⟨.inr ⟨_,rfl,.inl rfl⟩,.inr rfl⟩};exact⟨.inr ⟨_,rfl,.inl rfl⟩,.inr rfl⟩
theorem lI(h:SA C a)(w:Bool)(f:C.mu<B)(g:C.wg<B):KQ C Shun A o k B ⟨.cell a,w,UJ⟩:=by obtain⟨c,d⟩:=h.sh (Shun:=Shun);refine⟨λx b=>.inl ?_,by simp,by simp,?_⟩;{simp[Ve.ofEvent,Ve.touch?]at b;grind};simp only[Ve.ofEvent,Ve.low,Loc.low];omega
theorem lJ(h:SA C a)(w:Bool)(f:C.mu<B)(g:C.wg<B):Ev0 C Shun A B ⟨.cell a,w,UJ⟩:=by obtain⟨c,d⟩:=h.sh (Shun:=Shun);refine⟨λx b=>.inl ?_,by simp,by simp,?_⟩;{simp[Ve.ofEvent,Ve.touch?]at b;grind};simp only[Ve.ofEvent,Ve.low,Loc.low];omega
theorem yX(h:e.mute=UJ):KQ C Shun A o k B e:=by refine⟨λx a=>(by rw[touch_mute h]at a;cases a),?_,?_,low_mute h B⟩<;>intro x<;>obtain⟨l,w,s⟩:=e<;>simp only at x<;>subst x<;>simp[Vv.mute]at h
theorem pC(h:e.mute=UJ):Ev0 C Shun A B e:=by refine⟨λx a=>(by rw[touch_mute h]at a;cases a),?_,?_,low_mute h B⟩<;>intro x<;>obtain⟨l,w,s⟩:=e<;>simp only at x<;>subst x<;>simp[Vv.mute]at h
theorem JI(a:C.base<=k){off:Nat}(h:C.oc k off)(d:C.out<B):KQ C Shun A o k B ⟨.cell ⟨C.out,off,UM⟩,UJ,Ul⟩:=by refine⟨λx c=>.inr ?_,by simp,by simp,by assumption⟩;rw[fM (loc:=.cell ⟨C.out,off,UM⟩) rfl c];exact⟨rfl,.inl ⟨a,.inr ⟨_,rfl,rfl,h⟩⟩⟩
inductive cv(C:Cx):Array Vv->Prop
 |nil:cv C #[]
 |rd{a:Vs}:SA C a->cv C #[rd a]
 |wr{a:Vs}:SA C a->cv C #[wr a]
 |rw{a:Vs}:SA C a->cv C #[rd a,wr a]
 |D9{a:Vs}:SA C a->cv C (semEvents a)
theorem cv.Qu(h:cv C es)(b:C.mu<B)(c:C.wg<B):∀e∈es,KQ C Shun A o k B e:=by intro e a;cases h with|nil=>simp at a|rd h=>simp at a;subst a;exact lI h _ b c|wr h=>simp at a;subst a;exact lI h _ b c|rw h=>simp at a;rcases a with rfl|rfl<;>exact lI h _ b c|D9 h=>simp[semEvents]at a;rcases a with rfl|rfl|rfl|rfl<;>first|exact lI h _ b c|exact yX rfl
theorem cv.OW(h:cv C es)(b:C.mu<B)(c:C.wg<B):∀e∈es,Ev0 C Shun A B e:=by intro e a;cases h with|nil=>simp at a|rd h=>simp at a;subst a;exact lJ h _ b c|wr h=>simp at a;subst a;exact lJ h _ b c|rw h=>simp at a;rcases a with rfl|rfl<;>exact lJ h _ b c|D9 h=>simp[semEvents]at a;rcases a with rfl|rfl|rfl|rfl<;>first|exact lJ h _ b c|exact pC rfl
theorem cv.deaf(h:cv C es)(d:Nat):Vb d es=d:=by cases h<;>simp[Vb,Go.ConcR.rd,Go.ConcR.wr,semEvents]
theorem cv.still(h:cv C es){d:Nat}(hd:0<d):∀j e,es[j]?=UG e->(Ve.ofEvent e).touch?=UM\/((∃b wr,e=⟨.cell b,wr,UJ⟩)/\0<Vb d (es.extract 0 j)):=by intro j e a;cases h with|nil=>simp at a|rd h=>(match j,a with|0,a=>simp at a;subst a;exact .inr ⟨⟨_,_,rfl⟩,by assumption⟩|j+1,a=>simp at a)|wr h=>(match j,a with|0,a=>simp at a;subst a;exact .inr ⟨⟨_,_,rfl⟩,by assumption⟩|j+1,a=>simp at a)|rw h=>(match j,a with|0,a=>simp at a;subst a;exact .inr ⟨⟨_,_,rfl⟩,by assumption⟩|1,a=>simp at a;subst a;exact .inr ⟨⟨_,_,rfl⟩,by assumption⟩|j+2,a=>simp at a)|D9 h=>match j,a with|0,a=>simp[semEvents]at a;subst a;exact .inl rfl|1,a=>simp[semEvents]at a;subst a;exact .inr ⟨⟨_,_,rfl⟩,by simp[Vb,semEvents]⟩|2,a=>simp[semEvents]at a;subst a;exact .inr ⟨⟨_,_,rfl⟩,by simp[Vb,semEvents]⟩|3,a=>simp[semEvents]at a;subst a;exact .inl rfl|j+4,a=>simp[semEvents]at a
end
end Go.Cr
namespace Go.Cr
open Go.Conc Go.Mx Go.Rk
open Go.ConcR(KK WgAt wgBlock stA smA rd wr mk)
open Go.ConcM(OsLater)
variable{S Q:UP->UL->Prop}{H:Wd->Bool->Bool->Nat->UP->UL->Prop}{it:Nat}
section
inductive Pl
 |cH(m:Md)
 |fg(θ:Th)(it:Nat)
 |pf(o:Wd)(aw st:Bool)(it:Nat)
 |hd(o:Wd)(aw st:Bool)(it:Nat)
 |xr(o:Wd)
 |uw(θ:Th)
 |d2|d3|d4|quit
def Pl.th:Pl->Th
 |.cH m=>if m.hold then .hold else .out
 |.fg θ _=>θ
 |.pf o aw st _=>.ca o aw st
 |.hd o aw st _=>.ca o aw st
 |.xr o=>.uc o
 |.uw θ=>θ
 |_=>.out
def Pl.tok:Pl->Bool
 |.cH m=>m.tok
 |_=>Ul
def Pl.said:Pl->Bool
 |.cH m=>m.said
 |.d2|.d3|.d4|.quit=>UJ
 |_=>Ul
def Pl.eP:Pl->Bool
 |.d2|.d3|.d4|.quit=>Ul
 |_=>UJ
def jc:Pl->Bool
 |.d4=>UJ
 |_=>Ul
def Pl.last:Pl->Bool
 |.d2|.d3|.d4=>UJ
 |_=>Ul
variable(C:Cx)(i:Nat)(own:Nat->Prop)
def Pf(H:Wd->Bool->Bool->Nat->UP->UL->Prop)(Q:UP->UL->Prop):Th->Nat->UP->UL->Prop
 |.ld aw st,it=>ub C i own H aw st it
 |.sq,_=>Dl C i own H Q
 |.t2,_=>Jn C i own H Q
 |.a1 o st,_=>AtA1 C i Q o st
 |_,_=>λ_ _=>False
def Ro(HU:Wd->UP->UL->Prop)(Q:UP->UL->Prop):Th->UP->UL->Prop
 |.uc o=>C0 C i own HU Q o
 |.ux=>KC C i own HU Q
 |.us=>Br C i own Q
 |.out=>Q
 |_=>λ_ _=>False
inductive WSit:Pl->Rk Ix->Nat->(Nat->Prop)->Nat->UP->UL->Prop
 |cH{m:Md}{ρ:Rk Ix}{own:Nat->Prop}{g:UP}{w:UL}:fK C i 0 m ρ own g w->WSit (.cH m) ρ 0 own m.deaf.toNat g w
 |fg{own:Nat->Prop}{g:UP}{w:UL}{θ:Th}{it n:Nat}{f:Ix->Rk Ix}(H:Wd->Bool->Bool->Nat->UP->UL->Prop)(Q:UP->UL->Prop):
  (∀g v1 v2,Q g v1->Env C i own v1 v2->Q g v2)->jd C i own H Q->cG C i own (Pf C i own H Q θ it) n g w->(∀g' v1,Env C i own w v1->Q g' v1->fK C i 0 .mb (f (g',v1,v1)) own g' v1)->it<=4->WSit (.fg θ it) (.s f) n own 1 g w
 |blk{own:Nat->Prop}{g:UP}{w:UL}{it:Nat}{f:Ix->Rk Ix}(H:Wd->Bool->Bool->Nat->UP->UL->Prop)(Q:UP->UL->Prop):
  (∀g v1 v2,Q g v1->Env C i own v1 v2->Q g v2)->jd C i own H Q->(∀v1,Env C i own w v1->Dl C i own H Q g v1)->(∀g' v1,Env C i own w v1->Q g' v1->fK C i 0 .mb (f (g',v1,v1)) own g' v1)->it<=4->
  WSit (.fg .sq it) (.s f) 0 own 1 {g with status:=.blocked} w
 |pf{own:Nat->Prop}{g:UP}{w:UL}{o:Wd}{aw st:Bool}{it n:Nat}{f:Ix->Rk Ix}(H:Wd->Bool->Bool->Nat->UP->UL->Prop)(Q:UP->UL->Prop):
  (∀g v1 v2,Q g v1->Env C i own v1 v2->Q g v2)->jd C i own H Q->cG C i own (H o aw st it) n g w->(∀g' v1,Env C i own w v1->Q g' v1->fK C i 0 .mb (f (g',v1,v1)) own g' v1)->it<=4->o.n<100000000->((aw=UJ->o.W=UJ)/\(st=UJ->aw=UJ))->WSit (.pf o aw st it) (.s f) n own 1 g w
 |hd{own:Nat->Prop}{g:UP}{w:UL}{o:Wd}{aw st:Bool}{it n:Nat}{f:Ix->Rk Ix}(H:Wd->Bool->Bool->Nat->UP->UL->Prop)(Q:UP->UL->Prop):
  (∀g v1 v2,Q g v1->Env C i own v1 v2->Q g v2)->jd C i own H Q->cG C i own (gS C i own H Q o aw st it) n g w->(∀g' v1,Env C i own w v1->Q g' v1->fK C i 0 .mb (f (g',v1,v1)) own g' v1)->it<=4->WSit (.hd o aw st it) (.s f) n own 1 g w
 |xr{own:Nat->Prop}{g:UP}{w:UL}{o:Wd}{n:Nat}{f:Ix->Rk Ix}(HU:Wd->UP->UL->Prop)(Q:UP->UL->Prop):
  (∀g v1 v2,Q g v1->Env C i own v1 v2->Q g v2)->A8 C i own HU Q->cG C i own (HU o) n g w->(∀g' v1,Env C i own w v1->Q g' v1->fK C i 0 .bE (f (g',v1,v1)) own g' v1)->(o.L=Ul/\o.W=Ul/\o.S=Ul/\o.n≠0/\o.n<100000000)->WSit (.xr o) (.s f) n own 1 g w
 |uw{own:Nat->Prop}{g:UP}{w:UL}{θ:Th}{n:Nat}{f:Ix->Rk Ix}(HU:Wd->UP->UL->Prop)(Q:UP->UL->Prop):
  (∀g v1 v2,Q g v1->Env C i own v1 v2->Q g v2)->A8 C i own HU Q->cG C i own (Ro C i own HU Q θ) n g w->(∀g' v1,Env C i own w v1->Q g' v1->fK C i 0 .bE (f (g',v1,v1)) own g' v1)->WSit (.uw θ) (.s f) n own 1 g w
 |d2{own:Nat->Prop}{g:UP}{w:UL}{n:Nat}:cG C i own (AtD2 C i own) n g w->WSit .d2 .z n own 1 g w
 |d3{own:Nat->Prop}{g:UP}{w:UL}{n:Nat}:cG C i own (AtD3 C i own) n g w->WSit .d3 .z n own 1 g w
 |d4{own:Nat->Prop}{g:UP}{w:UL}{n:Nat}:cG C i own (AtD4 C i) n g w->WSit .d4 .z n own 1 g w
 |quit{own:Nat->Prop}{g:UP}{w:UL}{n d:Nat}:QuitsD C.P n d g->WSit .quit .z n own d g w
inductive oE
 |cH(m:Md)(j:Nat)
 |wA|w1|w2(vs:Nat)|wr|w3|w4|ke|aq
inductive gf:oE->Rk Ix->Nat->(Nat->Prop)->UP->UL->Prop
 |cH{m:Md}{j:Nat}{f:Ix->Rk Ix}{own:Nat->Prop}{g:UP}{w:UL}:fK C 0 j m (.s f) own g w->gf (.cH m j) (.s f) 0 own g w
 |wA{own:Nat->Prop}{g:UP}{w:UL}{n:Nat}(A:UP->UL->Prop):yB C 0 own A->cG C 0 own A n g w->gf .wA .z n own g w
 |w1{own:Nat->Prop}{g:UP}{w:UL}{n:Nat}(A:UP->UL->Prop):yB C 0 own A->cG C 0 own (AtW1 C 0 own A) n g w->gf .w1 .z n own g w
 |w2{own:Nat->Prop}{g:UP}{w:UL}{n vs:Nat}(A:UP->UL->Prop):vs≠0->yB C 0 own A->cG C 0 own (AtW2 C 0 own A vs) n g w->gf (.w2 vs) .z n own g w
 |wr{own:Nat->Prop}{g:UP}{w:UL}{n:Nat}:cG C 0 own (P5 C 0 own) n g w->gf .wr .z n own g w
 |w3{own:Nat->Prop}{g:UP}{w:UL}{n:Nat}:cG C 0 own (AtW3 C 0 own) n g w->gf .w3 .z n own g w
 |blk{own:Nat->Prop}{g:UP}{w:UL}:(∀v1,Env C 0 own w v1->AtW3 C 0 own g v1)->gf .w3 .z 0 own {g with status:=.blocked} w
 |w4{own:Nat->Prop}{g:UP}{w:UL}{n:Nat}:cG C 0 own (AtW4 C 0 own) n g w->gf .w4 .z n own g w
 |ke{own:Nat->Prop}{g:UP}{w:UL}{n:Nat}:cG C 0 own (AtKe C 0 own) n g w->gf .ke .z n own g w
 |aq{own:Nat->Prop}{g:UP}{w:UL}{n:Nat}:cG C 0 own (AtAcq C 0) n g w->gf .aq .z n own g w
def oE.deaf:oE->Nat
 |.cH m _=>m.deaf.toNat
 |.aq=>0
 |_=>1
def oE.started(n:Nat):oE->Nat
 |.cH _ j=>j/2
 |_=>n
def oE.pend:oE->Nat
 |.cH _ j=>j%2
 |_=>0
variable{C i own}{pl:Pl}{ρ:Rk Ix}{n d:Nat}{g:UP}{w w1:UL}
def qD(C:Cx)(pl:Pl)(own:Nat->Prop):Nat->Prop:=λk=>own k\/(pl.tok=UJ/\k=C.mm)
theorem Env.QR(h:Env C i (qD C pl own) w w1):Env C i own w w1:=h.sub λ_ a=>.inl a
theorem WSit.env(h:WSit C i pl ρ n own d g w)(o:Env C i (qD C pl own) w w1):WSit C i pl ρ n own d g w1:=by have j:=o.QR;cases h with|cH h=>exact .cH (h.env o)|fg H Q a b c e f=>exact .fg H Q a b (c.rely bG j) (λm x k=>e m x (j.trans k)) f|blk H Q a b c e f=>exact .blk H Q a b (λx k=>c x (j.trans k)) (λm x k=>e m x (j.trans k)) f|pf H Q a b c e f l p=>exact .pf H Q a b (c.rely bG j) (λm x k=>e m x (j.trans k)) f l p|hd H Q a b c e f=>exact .hd H Q a b (c.rely bG j) (λm x k=>e m x (j.trans k)) f|xr H Q a b c e f=>exact .xr H Q a b (c.rely bG j) (λm x k=>e m x (j.trans k)) f|uw H Q a b c e=>exact .uw H Q a b (c.rely bG j) (λm x k=>e m x (j.trans k))|d2 a=>exact .d2 (a.rely bG j)|d3 a=>exact .d3 (a.rely bG j)|d4 a=>exact .d4 (a.rely bG j)|quit a=>exact .quit a
theorem gf.env{pl:oE}(h:gf C pl ρ n own g w)(c:Env C 0 own w w1)(e:∀m j,pl=.cH m j->m.tok=Ul):gf C pl ρ n own g w1:=by cases h with|cH h=>exact .cH (h.env (c.Kz (e _ _ rfl)))|wA A a b=>exact .wA A a (b.rely bG c)|w1 A a b=>exact .w1 A a (b.rely bG c)|w2 A z a b=>exact .w2 A z a (b.rely bG c)|wr a=>exact .wr (a.rely bG c)|w3 a=>exact .w3 (a.rely bG c)|blk a=>exact .blk λx f=>a x (c.trans f)|w4 a=>exact .w4 (a.rely bG c)|ke a=>exact .ke (a.rely bG c)|aq a=>exact .aq (a.rely bG c)
theorem ai(a:∀g w,S g w->g.status=.running)(h:cG C i own S n g w):g.status=.running:=Goes.running (λg w x=>a g w x) w Env.refl h
theorem fZ{θ:Th}(h:Pf C i own H Q θ it g w):g.status=.running:=by cases θ<;>first|exact h.1|exact h.elim
theorem dZ{o:Wd}{aw st:Bool}(h:gS C i own H Q o aw st it g w):g.status=.running:=by rcases h with h|h|h;{exact h.2.1};{exact h.2.2.2.2.2.2.1};exact h.1
theorem az(h:cG C i own S n g w):(∀w1,Env C i own w w1->S g w1)\/∃a,n=a+1/\g.status=.running/\∀w1,Env C i own w w1->(UY C.P (i==0) g w1).goes λg' w' es=>DL w1 w' es/\cG C i own S a g' w':=by cases n with|zero=>exact .inl h|succ a=>rcases h with h|⟨b,c⟩;{grind};simp_all
end
end Go.Cr
namespace Go.Cr
open Go.Conc Go.Mx Go.Rk
open Go.ConcR(KK WgAt wgBlock stA smA rd wr mk)
open Go.ConcM(OsLater)
open Go.ConcN(sumTo)
variable{j b j':Nat}{pl:oE}{P:Program}{a a':UP}{w2:UL}
section
structure WD where
 pl:Pl
 rk:Rk Ix
 fu:Nat
 own:Nat->Prop
structure Cf where
 gs:Array UP
 w:UL
 t:VE
 D:Nat->WD
 mp:oE
 oy:Rk Ix
 rj:Nat
 eE:Nat->Prop
 q:Nat->Nat
 df:Nat->Nat
 wd:Wd
 ms:Nat
 o:Option Nat
variable(C:Cx)(Shun:Loc->Prop)(S:Cf)
def Cf.jn:Nat:=S.mp.started C.n
def Cf.vc:Nat:=sumTo (S.jn C) λj=>(S.D j).pl.eP.toNat
def Cf.cD:Prop:=∀j,j<S.jn C->(S.D j).pl.last=Ul
def Cf.AA(k b:Nat):Prop:=∃j,j<S.jn C/\k=C.base+j/\(S.D j).own b
def Cf.rl(k:Nat):Prop:=∃j,j<S.jn C/\k=C.base+j/\(S.D j).pl.said=UJ
def Cf.ff(mp:oE)(w:UL):Prop:=match mp with
 |.wr|.w3=>(1<=S.vc C/\S.cD C/\WgAt C.tW C.wg w (S.vc C*KK+1) 0)\/
  (S.vc C=0/\(∃L,L<S.jn C/\(S.D L).pl.last=UJ/\(∀j,j<S.jn C->j≠L->(S.D j).pl.last=Ul)/\WgAt C.tW C.wg w (if jc (S.D L).pl=UJ then 0 else 1) 0))\/
  (S.vc C=0/\S.cD C/\WgAt C.tW C.wg w 0 1)
 |.w4|.ke|.aq=>S.vc C=0/\S.cD C/\WgAt C.tW C.wg w 0 0
 |m=>WgAt C.tW C.wg w ((S.vc C+m.pend:Nat)*KK) 0/\S.cD C
def Cf.gL:Prop:=S.ff C S.mp S.w
structure Ok:Prop where
 size:S.gs.size=C.base+S.jn C
 cR:S.jn C<=C.n
 main:∃g,S.gs[0]?=UG g/\gf C S.mp S.oy S.rj S.eE g S.w
 J6:S.df 0=S.mp.deaf
 mode:∀m j,S.mp=.cH m j->m.tok=Ul/\m.hold=Ul/\m.said=Ul
 old:∀i,0<i->i<C.base->∃g,S.gs[i]?=UG g/\QuitsD C.P (S.q i) (S.df i) g
 wk:∀j,j<S.jn C->∃g,S.gs[C.base+j]?=UG g/\WSit C (C.base+j) (S.D j).pl (S.D j).rk (S.D j).fu (S.D j).own (S.df (C.base+j)) g S.w
 yZ:∀j,S.jn C<=j->(S.D j).pl=.cH .free/\(S.D j).fu=0
 aJ:da C S.w
 w0:W0 C S.w
 word:bW C S.w S.wd S.ms
 inv:Inv (λj=>(S.D j).pl.th) C.n S.wd S.ms
 gL:S.gL C
 dI:S.o=UM->au C S.w
 fin:∀j,j<S.jn C->(S.D j).pl.said=UJ->Fin C (C.base+j) S.w
 AW:∀j g,j<S.jn C->S.gs[C.base+j]?=UG g->g.status=.blocked->S.ms=0
 Hc:∀g,S.gs[0]?=UG g->g.status=.blocked->∃st,WgAt C.tW C.wg S.w st 0
 tok:∀j,j<S.jn C->((S.D j).pl.tok=UJ↔S.o=UG (C.base+j))
 hold:∀j,j<S.jn C->(S.D j).pl.tok=UJ->(S.D j).pl.th=.hold
 y6:∀k,S.o=UG k->∃j,j<S.jn C/\k=C.base+j
 ti:TI C Shun (S.AA C) S.o S.df (S.rl C) S.gs.size S.w.heap.size S.t
 nJ:CF C Shun (S.AA C) S.w.heap.size
 nH:qj C Shun S.w.heap.size
 mo:∀b,S.eE b->b<S.w.heap.size/\b≠C.mu/\b≠C.mm/\b≠C.wg/\b≠C.out/\¬C.RO b/\(∀l,Shun l->¬dn b l)/\∀k,¬S.AA C k b
 ro:∀b,C.RO b->b<S.w.heap.size
 mm:C.mm<S.w.heap.size
structure Fx:Prop where
 ok:C.Ok
 base:1<=C.base
 n:C.n<1000000
 alone:¬C.solo
 tA:C.tA=Go.ConcR.wgBlock C.tW
 R6:∀k o,C.oc k o->∃j,j<C.n/\k=C.base+j
variable{C Shun S}
theorem Ok.iF(h:Ok C Shun S):C.mu<S.w.heap.size:=(jf h.aJ).1
theorem Ok.iz(h:Ok C Shun S):C.wg<S.w.heap.size:=(jf h.aJ).2.1
theorem Ok.tf(h:Ok C Shun S):C.out<S.w.heap.size:=(jf h.aJ).2.2
theorem Ok.iO(h:Ok C Shun S){b:Nat}(k:j<S.jn C)(i:(S.D j).own b):b<S.w.heap.size/\b≠C.mu/\b≠C.mm/\b≠C.wg/\b≠C.out/\¬C.RO b:=by have a:S.AA C (C.base+j) b:=⟨j,k,rfl,i⟩;obtain⟨c,d,e,f,g,_⟩:=h.nJ.sh _ _ a;exact⟨h.nJ.lt _ _ a,c,d,e,f,g⟩
theorem Ok.LI(h:Ok C Shun S){b:Nat}(e:j<S.jn C)(c:j'<S.jn C)(f:j'≠j)(d:(S.D j').own b):¬(S.D j).own b:=λa=>by have:=h.nJ.zv (C.base+j) (C.base+j') b ⟨j,e,rfl,a⟩ ⟨j',c,rfl,d⟩;omega
theorem Ok.IB(h:Ok C Shun S)(c:j<S.jn C)(a:j'<S.jn C)(d:(S.D j).pl.tok=UJ)(b:(S.D j').pl.tok=UJ):j=j':=by have:=(h.tok j c).1 d;rw[(h.tok j' a).1 b]at this;simp_all
variable{i n d:Nat}{pl:Pl}{ρ:Rk Ix}{own:Nat->Prop}{g g' b:UP}{w w':UL}
theorem oA(c:g.status=.running\/g.status=.finished):woken P a a' w g=g:=by unfold woken;split;{exact again_running _ c};rfl
theorem WSit.status(h:WSit C i pl ρ n own d g w):g.status=.running\/g.status=.finished\/(g.status=.blocked/\pl.th=.sq):=by cases h with|cH h=>rcases h.running with x|⟨n,A,x,y⟩;{grind};refine .inl ?_;rcases az x with j|⟨_,_,o,_⟩;{obtain⟨m,k⟩:=y _ _ (j _ .refl);exact ai (λ_ _ z=>z.1) k};exact o|fg H Q a b c e f=>exact .inl (ai (λ_ _ z=>fZ z) c)|blk H Q a b c e f=>exact .inr (.inr ⟨rfl,rfl⟩)|pf H Q a b c e f l q=>rcases az c with j|⟨_,_,o,_⟩;{obtain⟨m,k⟩:=b _ _ _ _ _ _ f q.1 q.2 l (j _ .refl);exact .inl (ai (λ_ _ z=>dZ z) k)};simp_all|hd H Q a b c e f=>exact .inl (ai (λ_ _ z=>dZ z) c)|xr r Q a b c e f=>rcases az c with j|⟨_,_,o,_⟩;{obtain⟨m,k⟩:=b _ _ _ f.1 f.2.1 f.2.2.1 f.2.2.2.1 f.2.2.2.2 (j _ .refl);exact .inl (ai (λ_ _ z=>z.1) k)};simp_all|@uw own g w t n f r Q a b c e=>(have s:∀g' p,Env C i own w p->Q g' p->g'.status=.running:=λg' p x y=>by rcases(e g' p x y).running with z|⟨n,A,z,y⟩;{exact z};rcases az z with j|⟨_,_,o,_⟩;{obtain⟨m,k⟩:=y _ _ (j _ .refl);exact ai (λ_ _ z=>z.1) k};exact o);rcases az c with j|⟨_,_,o,_⟩;{have:=j _ .refl;cases t<;>first|exact .inl this.1|exact this.elim|exact .inl (s _ _ .refl this)};simp_all|d2 h=>exact .inl (ai (λ_ _ z=>z.1) h)|d3 h=>exact .inl (ai (λ_ _ z=>z.1) h)|d4 h=>exact .inl (ai (λ_ _ z=>z.1) h)|quit h=>exact h.status.imp id .inl
theorem WSit.woken(h:WSit C i pl ρ n own d g w):WSit C i pl ρ n own d (Go.Conc.woken P a a' w2 g) w:=by rcases h.status with j|j|⟨j,_⟩;{rw[oA (.inl j)];exact h};{rw[oA (.inr j)];exact h};cases h with|@blk own g w B f H Q q r k s t=>have u:=k w .refl;unfold Go.Conc.woken;split;{rw[Go.ConcX.again_blocked u.1 u.2.1];exact .fg H Q q r k s t};exact .blk H Q q r k s t|cH h=>rcases(WSit.cH h).status with x|x|x;{simp_all};{simp_all};simp only[Pl.th]at x;grind|fg H Q a b c e f=>rw[ai (λ_ _ z=>fZ z) c]at j;cases j|pf H Q a b c e f l y=>rcases(WSit.pf H Q a b c e f l y).status with x|x|⟨_,x⟩;{simp_all};{simp_all};cases x|hd H Q a b c e f=>rw[ai (λ_ _ z=>dZ z) c]at j;cases j|xr H Q a b c e f=>rcases(WSit.xr H Q a b c e f).status with x|x|⟨_,x⟩;{simp_all};{simp_all};cases x|uw v Q a b c e=>rcases(WSit.uw v Q a b c e).status with x|x|x;{simp_all};{simp_all};obtain⟨_,x⟩:=x;subst x;rcases az c with o|⟨_,_,A,_⟩;{exact(o _ .refl).elim};simp_all|d2 h=>rw[ai (λ_ _ z=>z.1) h]at j;cases j|d3 h=>rw[ai (λ_ _ z=>z.1) h]at j;cases j|d4 h=>rw[ai (λ_ _ z=>z.1) h]at j;cases j|quit h=>rcases h.status with x|x<;>rw[x]at j<;>cases j
theorem gf.status{pl:oE}(h:gf C pl ρ n own g w):g.status=.running\/(g.status=.blocked/\pl=.w3):=by cases h with|cH h=>rcases h.running with x|⟨n,A,z,y⟩;{grind};rcases az z with e|⟨_,_,f,_⟩;{obtain⟨m,c⟩:=y _ _ (e _ .refl);exact .inl (ai (λ_ _ z=>z.1) c)};simp_all|wA A a b=>rcases az b with e|⟨_,_,f,_⟩;{obtain⟨m,c⟩:=a _ _ (e _ .refl);exact .inl (ai (λ_ _ z=>z.1) c)};simp_all|w1 A a b=>exact .inl (ai (λ_ _ z=>z.1) b)|w2 A _ a b=>exact .inl (ai (λ_ _ z=>z.1) b)|wr b=>exact .inl (ai (λ_ _ z=>z.1) b)|w3 b=>exact .inl (ai (λ_ _ z=>z.1) b)|blk b=>simp|w4 b=>exact .inl (ai (λ_ _ z=>z.1) b)|ke b=>exact .inl (ai (λ_ _ z=>z.1) b)|aq b=>exact .inl (ai (λ_ _ z=>z.1) b)
theorem gf.woken{pl:oE}(h:gf C pl ρ n own g w):gf C pl ρ n own (Go.Conc.woken P a a' w2 g) w:=by rcases h.status with c|⟨c,rfl⟩;{rw[oA (.inl c)];exact h};cases h with|blk e=>have j:=e w .refl;unfold Go.Conc.woken;split;{rw[Go.ConcX.again_blocked j.1 j.2.1];exact .w3 e};exact .blk e|w3 b=>rw[ai (λ_ _ z=>z.1) b]at c;cases c
end
end Go.Cr
namespace Go.Cr
open Go.Conc Go.Mx Go.Rk
open Go.ConcR(KK WgAt wgBlock stA smA rd wr mk)
open Go.ConcM(OsLater)
open Go.ConcN(sumTo sumTo_upd sumTo_congr)
variable{α:Type}{i a j n:Nat}{gs:Array UP}{w' w:UL}{ρ:Rk Ix}{own:Nat->Prop}{g g':UP}
section
def aI{α:Type}(f:Nat->α)(i:Nat)(x:α):Nat->α:=λk=>if k=i then x else f k
@[simp]theorem fY(f:Nat->α)(i:Nat)(x:α):aI f i x i=x:=by simp[aI]
theorem aH(f:Nat->α){k:Nat}(x:α)(h:k≠i):aI f i x k=f k:=by simp[aI,h]
variable{C:Cx}{Shun:Loc->Prop}{S:Cf}
def Cf.stepW(C:Cx)(S:Cf)(j:Nat)(g g':UP)(w':UL)(u:VE)(x:WD)(d':Nat)(wd':Wd)(ms':Nat)(o':Option Nat):Cf:=
 {S with gs:=(S.gs.map (woken C.P g g' w')).setIfInBounds (C.base+j) g',w:=w',t:=S.t++u,D:=aI S.D j x,df:=aI S.df (C.base+j) d',wd:=wd',ms:=ms',o:=o'}
theorem fp(f:UP->UP){b:Nat}(x:UP)(h:a≠b):((gs.map f).setIfInBounds a x)[b]?=(gs[b]?).map f:=by simp_all
theorem ep(f:UP->UP)(x:UP)(h:a<gs.size):((gs.map f).setIfInBounds a x)[a]?=UG x:=by simp_all
theorem Ok.GF(F:Fx C)(h:Ok C Shun S){j':Nat}(m:j<S.jn C)(i:j'<S.jn C)(l:j'≠j)(o:ma C (C.base+j) (qD C (S.D j).pl (S.D j).own) S.w w'):Env C (C.base+j') (qD C (S.D j').pl (S.D j').own) S.w w':=by refine o.env F.ok Ω (λk g f=>?_) (λk g=>?_) λk g=>⟨h.ro k g,λf=>?_⟩;{rcases g with g|⟨p,rfl⟩;{rcases f with f|⟨_,rfl⟩;{exact h.LI m i l g f};exact(h.iO i g).2.2.1 rfl};rcases f with f|⟨n,_⟩;{exact(h.iO m f).2.2.1 rfl};exact l (h.IB i m p n)};{rcases g with g|⟨_,rfl⟩;{obtain⟨a,b,c,d,e,_⟩:=h.iO i g;omega};exact⟨h.mm,F.ok.lT.symm,F.ok.nO,F.ok.mG⟩};rcases f with f|⟨_,rfl⟩;{exact(h.iO m f).2.2.2.2.2 g};exact(F.ok.ro _ g).2.1 rfl
theorem Ok.GA(F:Fx C)(h:Ok C Shun S)(g:j<S.jn C)(l:ma C (C.base+j) (qD C (S.D j).pl (S.D j).own) S.w w'):Env C 0 S.eE S.w w':=by have n:=F.base;refine l.env F.ok Ω (λk f e=>?_) (λk f=>?_) λk f=>⟨h.ro k f,λe=>?_⟩;{obtain⟨_,_,m,_,_,_,_,i⟩:=h.mo k f;rcases e with e|⟨_,rfl⟩;{exact i (C.base+j) ⟨j,g,rfl,e⟩};omega};{obtain⟨a,b,_,c,d,_⟩:=h.mo k f;omega};rcases e with e|⟨_,rfl⟩;{exact(h.iO g e).2.2.2.2.2 f};exact(F.ok.ro _ f).2.1 rfl
theorem WSit.offers{d:Nat}{pl:Pl}(h:WSit C i pl ρ n own d g w)(j:g.status=.blocked):g.offers=UM:=by cases h with|blk H Q q r o s t=>exact(o w .refl).2.1|cH a=>rcases(WSit.cH a).status with x|x|⟨_,x⟩;{simp_all};{simp_all};simp only[Pl.th]at x;grind|fg H Q a b c e f=>rw[ai (λ_ _ z=>fZ z) c]at j;cases j|pf H Q a b c e f l p=>rcases(WSit.pf H Q a b c e f l p).status with x|x|⟨_,x⟩;{simp_all};{simp_all};cases x|hd H Q a b c e f=>rw[ai (λ_ _ z=>dZ z) c]at j;cases j|xr H Q a b c e f=>rcases(WSit.xr H Q a b c e f).status with x|x|⟨_,x⟩;{simp_all};{simp_all};cases x|uw m Q a b c e=>rcases(WSit.uw m Q a b c e).status with x|x|⟨_,x⟩;{simp_all};{simp_all};subst x;rcases az c with k|⟨_,_,u,_⟩;{exact(k _ .refl).elim};simp_all|d2 h=>rw[ai (λ_ _ z=>z.1) h]at j;cases j|d3 h=>rw[ai (λ_ _ z=>z.1) h]at j;cases j|d4 h=>rw[ai (λ_ _ z=>z.1) h]at j;cases j|quit h=>rcases h.status with x|x<;>rw[x]at j<;>cases j
theorem gf.offers{pl:oE}(h:gf C pl ρ n own g w)(a:g.status=.blocked):g.offers=UM:=by rcases h.status with x|⟨_,rfl⟩;{simp_all};cases h with|blk c=>exact(c w .refl).2.1|w3 b=>rw[ai (λ_ _ z=>z.1) b]at a;cases a
theorem gq{P:Program}{b:UP}(d:b.status=.blocked->b.offers=UM)(c:(woken P g g' w' b).status=.blocked):b.status=.blocked/\¬(mayWake P g=UJ/\g'.status=.running):=by unfold woken at c;split at c;{revert c;cases a:b.status with|blocked=>simp only[UP.again,a,d a];simp|waiting=>simp[UP.again,a]|_=>simp[UP.again,a]};grind
theorem W0.step{i:Nat}{own:Nat->Prop}{w w':UL}(h:W0 C w)(a:ma C i own w w'):W0 C w':=⟨h.os.trans a.os,a.out.trans h.out,a.tape.trans h.tape⟩
theorem Ok.stepW(F:Fx C)(h:Ok C Shun S)(R:j<S.jn C){u:VE}{x:WD}{d':Nat}{wd':Wd}{ms':Nat}{o':Option Nat}(hg:S.gs[C.base+j]?=UG g)(o:ma C (C.base+j) (qD C (S.D j).pl (S.D j).own) S.w w')(I:∀b,x.own b↔(S.D j).own b\/(S.w.heap.size<=b/\b<w'.heap.size))(J:WSit C (C.base+j) x.pl x.rk x.fu x.own d' g' w')(V:TI C Shun ((S.stepW C j g g' w' u x d' wd' ms' o').AA C) o' (aI S.df (C.base+j) d') ((S.stepW C j g g' w' u x d' wd' ms' o').rl C) S.gs.size w'.heap.size (S.t++u))(W:bW C w' wd' ms')(E:Inv (λk=>(aI S.D j x k).pl.th) C.n wd' ms')(D:(S.stepW C j g g' w' u x d' wd' ms' o').gL C)(y:o'=UM->au C w')(B:x.pl.said=UJ->Fin C (C.base+j) w')(Q:x.pl.tok=UJ->x.pl.th=.hold)(K:x.pl.tok=UJ↔o'=UG (C.base+j))(r:∀k,k≠C.base+j->(o'=UG k↔S.o=UG k))(T:S.ms<ms'->mayWake C.P g=UJ/\g'.status=.running)(A:g'.status=.blocked->ms'=0)(L:∀X,WgAt C.tW C.wg S.w X 0->(∃Y,WgAt C.tW C.wg w' Y 0)\/(mayWake C.P g=UJ/\g'.status=.running)):Ok C Shun (S.stepW C j g g' w' u x d' wd' ms' o'):=by have hb:=F.base;(have H:C.base+j<S.gs.size:=by grind);have n:=o.grow;have jn':(S.stepW C j g g' w' u x d' wd' ms' o').jn C=S.jn C:=rfl;(have t:∀k b,(S.stepW C j g g' w' u x d' wd' ms' o').AA C k b->S.AA C k b\/(k=C.base+j/\S.w.heap.size<=b/\b<w'.heap.size):=by rintro k b⟨c,f,rfl,p⟩;by_cases e:c=j;{subst e;(have p:x.own b:=by simpa[Cf.stepW]using p);rcases(I b).1 p with s|s;{exact .inl ⟨c,f,rfl,s⟩};omega};(have p:(S.D c).own b:=by simpa[Cf.stepW,aH _ _ e]using p);exact .inl ⟨c,f,rfl,p⟩);refine⟨by simp[Cf.stepW,h.size];rfl,h.cR,?_,?_,h.mode,λi f d=>?_,λc f=>?_,λc f=>?_,o.aJ h.aJ,h.w0.step o,W,E,D,y,λc f d=>?_,λc b f d p=>?_,λb d p=>?_,λc f=>?_,λc f d=>?_,λk hk=>?_,?_,?_,?_,λb O=>?_,λb P=>Sn (h.ro b P) n,Sn h.mm n⟩;{obtain⟨a,v,U⟩:=h.main;refine⟨woken C.P g g' w' a,?_,(U.env (h.GA F R o) λm k e=>(h.mode m k e).1).woken⟩;show((S.gs.map _).setIfInBounds (C.base+j) g')[0]?=_;grind};{show aI S.df (C.base+j) d' 0=_;rw[aH _ _ Ω];exact h.J6};{obtain⟨a,v,hq⟩:=h.old i f d;refine⟨woken C.P g g' w' a,?_,?_⟩;{show((S.gs.map _).setIfInBounds (C.base+j) g')[i]?=_;grind};show QuitsD C.P (S.q i) (aI S.df (C.base+j) d' i) _;rw[aH _ _ Ω,woken_quitsD hq];exact hq};{by_cases e:c=j;{subst e;refine⟨g',ep _ _ H,?_⟩;show WSit C _ (aI S.D c x c).pl _ _ _ (aI S.df _ d' _) g' w';simp only[Cf.stepW,fY];exact J};obtain⟨a,v,U⟩:=h.wk c f;refine⟨woken C.P g g' w' a,?_,?_⟩;{show((S.gs.map _).setIfInBounds (C.base+j) g')[C.base+c]?=_;grind};show WSit C _ (aI S.D j x c).pl (aI S.D j x c).rk (aI S.D j x c).fu (aI S.D j x c).own (aI S.df (C.base+j) d' (C.base+c)) _ w';rw[aH _ _ e,aH _ _ Ω];exact(U.env (h.GF F R f e o)).woken};{(have e:c≠j:=by omega);show(aI S.D j x c).pl=_/\(aI S.D j x c).fu=0;rw[aH _ _ e];exact h.yZ c f};{by_cases e:c=j;{subst e;exact B (by simpa[Cf.stepW]using d)};(have d:(S.D c).pl.said=UJ:=by simpa[Cf.stepW,aH _ _ e]using d);exact(h.fin c f d).env (h.GF F R f e o)};{by_cases e:c=j;{subst e;have d:((S.gs.map _).setIfInBounds (C.base+c) g')[C.base+c]?=UG b:=d;rw[ep _ _ H]at d;cases d;exact A p};have d:((S.gs.map _).setIfInBounds (C.base+j) g')[C.base+c]?=UG b:=d;rw[fp _ _ Ω]at d;obtain⟨a,v,rfl⟩:=St.1 d;obtain⟨a',q,z⟩:=h.wk c f;rw[v]at q;cases q;obtain⟨s,w⟩:=gq (λx=>z.offers x) p;have M:=h.AW c a f v s;have:¬S.ms<ms':=λx=>w (T x);show ms'=0;omega};{have d:((S.gs.map _).setIfInBounds (C.base+j) g')[0]?=UG b:=d;rw[fp _ _ Ω]at d;obtain⟨a,v,rfl⟩:=St.1 d;obtain⟨a',q,z⟩:=h.main;rw[v]at q;cases q;obtain⟨s,w⟩:=gq (λx=>z.offers x) p;obtain⟨X,M⟩:=h.Hc a v s;exact(L X M).resolve_right w};{by_cases e:c=j;{subst e;show(aI S.D c x c).pl.tok=UJ↔_;rw[fY];exact K};show(aI S.D j x c).pl.tok=UJ↔o'=UG (C.base+c);rw[aH _ _ e,r _ Ω];exact h.tok c f};{by_cases e:c=j;{subst e;have d:(aI S.D c x c).pl.tok=UJ:=d;show(aI S.D c x c).pl.th=.hold;simp_all};have d:(aI S.D j x c).pl.tok=UJ:=d;show(aI S.D j x c).pl.th=.hold;rw[aH _ _ e]at d⊢;exact h.hold c f d};{by_cases e:k=C.base+j;{simp_all};exact h.y6 k ((r k e).1 hk)};{(have:(S.stepW C j g g' w' u x d' wd' ms' o').gs.size=S.gs.size:=by simp[Cf.stepW]);rw[this];exact V};{refine⟨λk k' b f d=>?_,λk b f=>?_,λk b f=>?_⟩;{rcases t k b f with p|⟨p,s,_⟩<;>rcases t k' b d with w|⟨w,M,_⟩;{exact h.nJ.zv _ _ _ p w};{have:=h.nJ.lt _ _ p;omega};{have:=h.nJ.lt _ _ w;omega};omega};{rcases t k b f with p|⟨_,_,s⟩;{exact Sn (h.nJ.lt _ _ p) n};exact s};rcases t k b f with p|⟨_,s,_⟩;{exact h.nJ.sh _ _ p};have Z:=h.iF;have a2:=h.iz;have a3:=h.tf;have a4:=h.mm;exact⟨by omega,by omega,by omega,by omega,λhr=>by have:=h.ro b hr;omega,λl hl N=>by have:=h.nH.lt l b hl N;omega⟩};{exact⟨λl b f d=>Sn (h.nH.lt l b f d) n,h.nH.sh,h.nH.cell⟩};obtain⟨Z,a2,a3,a4,a5,a6,a7,a8⟩:=h.mo b O;refine⟨Sn Z n,a2,a3,a4,a5,a6,a7,λk hk=>?_⟩;grind
end
end Go.Cr
namespace Go.Cr
open Go.Conc Go.Mx Go.Rk
open Go.ConcN(sumTo sumTo_upd sumTo_congr)
variable{n j:Nat}
section
def pY(wd:Wd):Pl->Nat
 |.fg (.ld _ _) it=>10*(4-it)+5
 |.pf o _ _ it=>if o=wd then 10*(4-it)+4 else 10*(4-it)+8
 |.hd o _ _ it=>if o=wd then 10*(4-it)+3 else 10*(4-it)+7
 |.fg .t2 _=>46
 |.fg (.a1 _ _) _=>1
 |.xr o=>if o=wd then 2 else 7
 |.uw (.uc o)=>if o=wd then 1 else 6
 |.uw .ux=>5
 |.d2=>3
 |.d3=>2
 |.d4=>1
 |_=>0
def mpr(vc:Nat):oE->Nat
 |.wA=>20
 |.w1=>19
 |.w2 vs=>if vs=vc then 10 else 21
 |.wr=>9
 |.w3=>8
 |.w4=>7
 |.ke=>6
 |.aq=>5
 |.cH _ _=>0
def uu:Pl->Bool
 |.fg .sq _=>UJ
 |_=>Ul
def isW3:oE->Bool
 |.w3=>UJ
 |_=>Ul
def run?(g:Option UP):Bool:=g.any λg=>g.status==.running
abbrev Mu:=Rk Ix×((Nat->Rk Ix)×(Nat×(Nat×(Nat×Nat))))
abbrev BB:WellFoundedRelation Nat:=Nat.lt_wfRel
abbrev Lh(n:Nat):WellFoundedRelation Mu:=Prod.lex ⟨_,Lt.wf⟩ (Prod.lex ⟨_,N0.wf n⟩ (Prod.lex BB (Prod.lex BB (Prod.lex BB BB))))
def iX(n:Nat):Mu->Mu->Prop:=(Lh n).rel
theorem iX.wf(n:Nat):WellFounded (iX n):=(Lh n).wf
section
variable{a a':Rk Ix}{V V':Nat->Rk Ix}{m m' p p' f f' s s':Nat}
theorem iX.main(h:DJ a' a):iX n (a',V',m',p',f',s') (a,V,m,p,f,s):=Prod.Lex.left _ _ h
theorem iX.PH(h:N0 n V' V):iX n (a,V',m',p',f',s') (a,V,m,p,f,s):=Prod.Lex.right _ (Prod.Lex.left _ _ h)
theorem iX.mu(h:m'<m):iX n (a,V,m',p',f',s') (a,V,m,p,f,s):=Prod.Lex.right _ (Prod.Lex.right _ (Prod.Lex.left _ _ h))
theorem iX.pr(b:m'<=m)(h:p'<p):iX n (a,V,m',p',f',s') (a,V,m,p,f,s):=by rcases TL b with c|rfl;{exact .mu c};exact Prod.Lex.right _ (Prod.Lex.right _ (Prod.Lex.right _ (Prod.Lex.left _ _ h)))
theorem iX.fu(h:f'<f):iX n (a,V,m,p,f',s') (a,V,m,p,f,s):=Prod.Lex.right _ (Prod.Lex.right _ (Prod.Lex.right _ (Prod.Lex.right _ (Prod.Lex.left _ _ h))))
theorem iX.sq(h:s'<s):iX n (a,V,m,p,f,s') (a,V,m,p,f,s):=Prod.Lex.right _ (Prod.Lex.right _ (Prod.Lex.right _ (Prod.Lex.right _ (Prod.Lex.right _ h))))
end
variable(C:Cx)(S:Cf)
def Cf.QP:Nat:=sumTo C.n (λj=>(uu (S.D j).pl&&run? S.gs[C.base+j]?).toNat)+(isW3 S.mp&&run? S.gs[0]?).toNat
def Cf.mu:Mu:=
 (S.oy,λj=>(S.D j).rk,sumTo C.n (λj=>wt (S.D j).pl.th)+3*S.ms,mpr (S.vc C) S.mp+sumTo C.n (λj=>pY S.wd (S.D j).pl),
  S.rj+sumTo C.n (λj=>(S.D j).fu)+sumTo C.base S.q,S.QP C)
variable{C S}{g g':UP}{w':UL}{u:VE}{x:WD}{d':Nat}{wd':Wd}{ms':Nat}{o':Option Nat}
theorem nu(D:Nat->WD)(x:WD)(a:WD->Nat)(h:j<n):sumTo n (λk=>a (aI D j x k))+a (D j)=sumTo n (λk=>a (D k))+a x:=sumTo_upd D x a h
theorem kP(h:(S.D j).pl.eP=x.pl.eP):(S.stepW C j g g' w' u x d' wd' ms' o').vc C=S.vc C:=by unfold Cf.vc;show sumTo (S.jn C) (λk=>(aI S.D j x k).pl.eP.toNat)=_;refine sumTo_congr λk _=>?_;by_cases e:k=j;{simp_all};rw[aH _ _ e]
theorem dJ(a:j<C.n)(h:DJ x.rk (S.D j).rk):iX C.n ((S.stepW C j g g' w' u x d' wd' ms' o').mu C) (S.mu C):=by refine iX.PH ⟨j,a,?_,λk b=>?_⟩;{show DJ (aI S.D j x j).rk _;simp_all};show(aI S.D j x k).rk=_;rw[aH _ _ b]
theorem rN(h:x.rk=(S.D j).rk):(λk=>(aI S.D j x k).rk)=λk=>(S.D k).rk:=by funext k;by_cases e:k=j;{simp_all};rw[aH _ _ e]
theorem mS(a:j<C.n)(h:x.rk=(S.D j).rk)(b:wt x.pl.th+3*ms'<wt (S.D j).pl.th+3*S.ms):iX C.n ((S.stepW C j g g' w' u x d' wd' ms' o').mu C) (S.mu C):=by have:=nu S.D x (λd=>wt d.pl.th) a;unfold Cf.mu;show iX C.n (S.oy,(λk=>(aI S.D j x k).rk),_) _;rw[rN h];refine iX.mu ?_;show sumTo C.n (λk=>wt (aI S.D j x k).pl.th)+3*ms'<_;omega
theorem gu(a:j<C.n)(h:x.rk=(S.D j).rk)(f:wt x.pl.th<=wt (S.D j).pl.th)(b:(S.D j).pl.eP=x.pl.eP)(i:pY S.wd x.pl<pY S.wd (S.D j).pl):iX C.n ((S.stepW C j g g' w' u x d' S.wd S.ms o').mu C) (S.mu C):=by have c:=nu S.D x (λd=>wt d.pl.th) a;have e:=nu S.D x (λd=>pY S.wd d.pl) a;unfold Cf.mu;show iX C.n (S.oy,(λk=>(aI S.D j x k).rk),_) _;rw[rN h];refine iX.pr ?_ ?_;{show sumTo C.n (λk=>wt (aI S.D j x k).pl.th)+3*S.ms<=_;omega};rw[kP b];show mpr (S.vc C) S.mp+sumTo C.n (λk=>pY S.wd (aI S.D j x k).pl)<_;omega
theorem rF(h:x.pl=(S.D j).pl)(a:Pl->Nat):sumTo C.n (λk=>a (aI S.D j x k).pl)=sumTo C.n (λk=>a (S.D k).pl):=sumTo_congr λk _=>by by_cases e:k=j;{simp_all};rw[aH _ _ e]
theorem rQ(b:j<C.n)(h:x.rk=(S.D j).rk)(a:x.pl=(S.D j).pl)(e:x.fu<(S.D j).fu):iX C.n ((S.stepW C j g g' w' u x d' S.wd S.ms o').mu C) (S.mu C):=by have c:=nu S.D x (λd=>d.fu) b;unfold Cf.mu;show iX C.n (S.oy,(λk=>(aI S.D j x k).rk),sumTo C.n (λk=>wt (aI S.D j x k).pl.th)+3*S.ms,mpr ((S.stepW C j g g' w' u x d' S.wd S.ms o').vc C) S.mp+sumTo C.n (λk=>pY S.wd (aI S.D j x k).pl),_) _;rw[rN h,kP (by rw[a]),rF a (pY S.wd),rF a (λp=>wt p.th)];refine iX.fu ?_;show S.rj+sumTo C.n (λk=>(aI S.D j x k).fu)+sumTo C.base S.q<_;omega
theorem Jv(A:1<=C.base)(o:j<C.n)(h:x.rk=(S.D j).rk)(i:x.pl=(S.D j).pl)(B:x.fu=(S.D j).fu)(v:uu x.pl=UJ)(n:S.gs[C.base+j]?=UG g)(t:g.status=.running)(c:g'.status=.blocked):iX C.n ((S.stepW C j g g' w' u x d' S.wd S.ms o').mu C) (S.mu C):=by have y:=nu S.D x (λd=>d.fu) o;have l:C.base+j<S.gs.size:=(So.1 n).1;(have w:woken C.P g g' w'=id:=by funext b;unfold woken;simp[c]);unfold Cf.mu;show iX C.n (S.oy,(λk=>(aI S.D j x k).rk),sumTo C.n (λk=>wt (aI S.D j x k).pl.th)+3*S.ms,mpr ((S.stepW C j g g' w' u x d' S.wd S.ms o').vc C) S.mp+sumTo C.n (λk=>pY S.wd (aI S.D j x k).pl),S.rj+sumTo C.n (λk=>(aI S.D j x k).fu)+sumTo C.base S.q,_) _;rw[rN h,kP (by rw[i]),rF i (pY S.wd),rF i (λp=>wt p.th),show sumTo C.n (λk=>(aI S.D j x k).fu)=sumTo C.n (λk=>(S.D k).fu)by omega];refine iX.sq ?_;unfold Cf.QP;have a:((S.gs.map (woken C.P g g' w')).setIfInBounds (C.base+j) g')[C.base+j]?=UG g':=ep _ _ l;(have f:∀k,k≠C.base+j->((S.gs.map (woken C.P g g' w')).setIfInBounds (C.base+j) g')[k]?=S.gs[k]?:=λk E=>by grind);have q:=sumTo_upd (λk=>(uu (S.D k).pl&&run? S.gs[C.base+k]?).toNat) 0 id o;(have r:sumTo C.n (λk=>(uu ((S.stepW C j g g' w' u x d' S.wd S.ms o').D k).pl&&run? (S.stepW C j g g' w' u x d' S.wd S.ms o').gs[C.base+k]?).toNat)=sumTo C.n (λk=>id (Go.ConcN.upd (λk=>(uu (S.D k).pl&&run? S.gs[C.base+k]?).toNat) j 0 k)):=by refine sumTo_congr λk _=>?_;show(uu (aI S.D j x k).pl&&run? ((S.gs.map (woken C.P g g' w')).setIfInBounds (C.base+j) g')[C.base+k]?).toNat=_;by_cases e:k=j;{subst e;rw[a];simp[run?,c,Go.ConcN.upd]};rw[aH _ _ e,f _ Ω];simp[Go.ConcN.upd,e]);(have s:(isW3 (S.stepW C j g g' w' u x d' S.wd S.ms o').mp&&run? (S.stepW C j g g' w' u x d' S.wd S.ms o').gs[0]?).toNat=(isW3 S.mp&&run? S.gs[0]?).toNat:=by show(isW3 S.mp&&run? ((S.gs.map (woken C.P g g' w')).setIfInBounds (C.base+j) g')[0]?).toNat=_;grind);(have z:(uu (S.D j).pl&&run? S.gs[C.base+j]?).toNat=1:=by rw[<-i,v,n];simp[run?,t]);rw[r,s];simp only[id]at q⊢;omega
end
end Go.Cr
