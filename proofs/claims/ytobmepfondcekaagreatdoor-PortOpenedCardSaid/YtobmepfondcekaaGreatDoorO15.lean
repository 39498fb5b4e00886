/- A part of the proof of PortOpened. Conditions: none. -/
import Derived.Test.YtobmepfondcekaaGreatDoorO14
import Derived.Tactics
import Derived.Tactics2
import Derived.WalkKit
import Derived.WalkSpells
import Derived.StillTactics
import Derived.Laws.Pointers
import Derived.Deep.RegionHeld3
import Derived.Deep.QuietTactic
import Derived.BigQuiet
import Derived.Deep.DeepCutAuto
import Derived.Deep.DrawnRows
import Derived.Lib.Hide
import Derived.Below
import Derived.LoopTactic
import Derived.StillTailTactics
import Derived.IntWalk
import Derived.Lib.Strings
import Derived.Laws.Cover1
import Derived.Shelf.Strings.Search3
import Derived.Shelf.Strings.Count
import Derived.Shelf.Slices.Turned
import Derived.Shelf.LaysM
import Derived.Ground.Names2Prog
set_option linter.all false
open Go.Lib renaming hid->hQz
open Go.Proofs.Tryz renaming prog->Pz
open Go renaming Calls->Wy,FuncId->V8,IntKind->VV,MapEntry->WB,Obj->Ws,Operand->Wa,Value->VI,World->VH,execOp->VR
open Bool renaming false->Vo,true->VG
open Option renaming none->VJ,some->VF
open Go.Proofs.Tryz
namespace Go.Me
open Go.Proofs Go.Conc Go.Mx Go.Rk Go.Cr Go.Pw Go.Lw
open Go.ConcR(KK WgAt stA smA rd wr mk)
variable{C:Cx}{i j p c bl bd b7 b6 b5 b4 b3 b2 b1 pm bp bm bw ck:Nat}{FR:VH->Prop}{o:Oper}{ev:Wa->VI}{own ownA:Nat->Prop}{v1 v:VH}{y:Wa}{s:ByteArray}{t:Array VI}{kk:List Item}{cs:List Frame}{L:List (Nat×Ws)}{F:Int->ByteArray->Fd}{A:Int->ByteArray->Int×Int}{a:Int}{P x3:Int×Int}{es:Array WB}{caller:Frame}{NS:VI}{inW:Nat->Bool}
noncomputable def aG:Code:=f77.body.getD .skip
theorem PD{x:Wa}{h:Nat}(c:o.op=.slice 9 y VJ (VF x) VJ)(f:ev y=.string s)(g:ev x=Iv (h:Nat))(d:h<=s.size):(VR ev o).run Pz v1=.ok (.value (.string (s.extract 0 h))) v1/\∀e∈(VR ev o).events Pz v1 #[],qS C own e:=by constructor;{unfold VR;simp[Instr.sliceAt,c,f,g,Instr.slice,Instr.sliceBounds,Instr.sliceBound,asIntOf,d]};unfold VR;simp[Instr.sliceAt,c,f,g,Instr.slice,Instr.sliceBounds,Instr.sliceBound,u9,asIntOf,d]
theorem LX{z:Wa}{r:ByteArray}(d:o.op=.binOp .add 9 y z 9)(g:ev y=.string s)(k:ev z=.string r)(h:s.size+r.size<=1000):(VR ev o).run Pz v1=.ok (.value (.string (s++r))) v1/\∀e∈(VR ev o).events Pz v1 #[],qS C own e:=by(have f:¬(9223372036854775807:Int)<s.size+r.size:=by omega);have b:VV.i64.max=9223372036854775807:=rfl;constructor;{simp[d,g,k,go_sem,Op.stringOp,f,b]};simp[d,g,k,go_sem,Op.stringOp,f,b]
abbrev EP(C:Cx)(pm bp bm bw:Nat)(es:Array WB)(ck:Nat):List (Nat×Ws):=[(pm,.map es ck),(bp,.cells #[ϖ C.mu] 100),(bm,.cells #[.map (VF pm)] 114),(bw,.cells #[.func (.func 77) #[] #[ϖ bp,ϖ bm,ϖ bw]] 115)]
def dV(s:ByteArray)(p c:Nat):ByteArray:=(s.extract 0 p++ch c)++s.extract (p+1) s.size
def w1(x:Int):Int:=VV.i64.wrap (1+x)
def D9(x y:Int):Int:=if x<y then y else x
theorem G4(s:ByteArray)(a b:Nat):(s.extract a b).size=min b s.size-a:=ByteArray.size_extract
theorem LK(c:Nat):(ch c).size=1:=rfl
def gD(R:ByteArray->Int×Int)(s:ByteArray)(p:Nat)(l:List Nat):Int:=l.foldl (λm c=>D9 m (w1 (R (dV s p c)).2)) 0
def sF(b:Int×Int)(p:Nat)(m:Int):Int×Int:=if b.1<0\/m<b.2 then((p:Nat),m)else b
def ng(R:ByteArray->Int×Int)(s:ByteArray)(ls:List Nat):Nat->Nat->Int×Int->Int×Int
 |0,_,b=>b
 |n+1,p,b=>ng R s ls n (p+1) (if s.data.getD p 0=63 then sF b p (gD R s p ls)else b)
def pM(C:Cx)(FR:VH->Prop)(i j:Nat)(A:Int->ByteArray->Int×Int)(pm bp bm bw:Nat)(a:Int)(s:ByteArray):Prop:=
 ∀(own:Nat->Prop)(v:VH)(es:Array WB)(ck:Nat)(L:List (Nat×Ws))(caller:Frame)(cs:List Frame),gK (λa s=>pv (A a s)) es->Hp C FR own v (EP C pm bp bm bw es ck++L)->
   (∀own' v' es' ck',(∀k,own k->own' k)->gK (λa s=>pv (A a s)) es'->Hp C FR own' v' (EP C pm bp bm bw es' ck'++L)->af C i j .free own' (G (caller.finish (pv (A a s))) cs) v')->
   af C i j .free own (G (fr 77 (#[sk a s,ϖ bp,ϖ bm,ϖ bw]++Array.replicate (f77.ntmps-(#[sk a s,ϖ bp,ϖ bm,ϖ bw]:Array VI).size) undef) [.code aG]) (caller::cs)) v
abbrev DS(D:List Nat):List Deferred:=D.map λb=>{target:=.collected b,args:=#[]}
abbrev DB(D:List Nat):List (Nat×Ws):=D.map λb=>(b,.deferred (VF []))
theorem BT{f:V8}{m:Md}{X:List (Nat×Ws)}(d:aZ C FR)(e:m.said=Vo):∀(D:List Nat)(v:VH),Hp C FR own v (X++(DB D++L))->(∀v2,Hp C FR own v2 (X++L)->af C i j m own (G (zB [] VJ f t kk) cs) v2)->af C i j m own (G (zB (DS D) VJ f t kk) cs) v|[],v,hH,h=>h v hH|b::D,v,hH,h=>by have hH:Hp C FR own v ((b,.deferred (VF []))::(X++(DB D++L))):=hH.perm Uy;exact nj (k:=0) d e hH rfl λv2 _ hH=>BT d e D v2 hH.tail h
theorem Li(h:p<=6):VV.i64.wrap ((p:Int)+1)=((p+1:Nat):Int):=by rw[VV.wrap_i64];omega
theorem xV(x y:Int):∀u∈#[VI.int .i64 x,Iv y],One u:=λu a=>by rcases(by simpa using a)with rfl|rfl<;>exact .inl ⟨_,_,rfl⟩
abbrev QE(a:Int)(s:ByteArray)(q:Nat)(P x3:Int×Int)(b5 b4 b3 b2 b1:Nat):List (Nat×Ws):=[(b5,.stringIter s q),(b4,.cells #[Iv P.1,Iv P.2] 117),(b3,.cells #[Iv x3.1,Iv x3.2] 117),(b2,.cells #[Iv 0,Iv 0] 117),(b1,.cells #[Iv a,.string s] 112)]
abbrev RE(a:Int)(s:ByteArray)(q:Nat)(P x3:Int×Int)(p:Nat)(m:Int)(o0 o1:Ws)(bl bd b7 b6 b5 b4 b3 b2 b1:Nat):List (Nat×Ws):=(bl,o0)::(bd,o1)::(b7,.cells #[Iv m] 3)::(b6,.cells #[Iv (p:Nat)] 3)::QE a s q P x3 b5 b4 b3 b2 b1
abbrev Rj(A:Int->ByteArray->Int×Int)(a:Int)(s:ByteArray)(p c:Nat)(m:Int)(bp bm bw b1:Nat):List (Nat×Nat×VI):=[(0,43,Iv m),(1,44,.func (.func 77) #[] #[ϖ bp,ϖ bm,ϖ bw]),(2,45,ϖ b1),(3,46,Iv a),(4,47,ϱ b1 1),(5,48,.string s),(6,49,Iv (p:Nat)),(7,50,.string (s.extract 0 p)),(8,51,.string (ch c)),(9,52,.string (s.extract 0 p++ch c)),(10,53,ϱ b1 1),(11,54,.string s),(12,55,Iv (p:Nat)),(13,56,Iv (VV.i64.wrap ((p:Int)+1))),(14,57,.string (s.extract (p+1) s.size)),(15,58,.string (dV s p c)),(16,59,sk a (dV s p c)),(17,60,pv (A a (dV s p c))),(18,61,Iv (A a (dV s p c)).2),(19,62,Iv (w1 (A a (dV s p c)).2)),(20,63,Iv (D9 m (w1 (A a (dV s p c)).2)))]
abbrev SE(c bw b1 b6 b7:Nat):List (Nat×VI):=[(3,ϖ bw),(4,ϖ b1),(9,ϖ b6),(10,ϖ b7),(11,.string (ch c))]
def SW(C:Cx)(FR:VH->Prop)(ownA:Nat->Prop)(A:Int->ByteArray->Int×Int)(a:Int)(s:ByteArray)(p c q:Nat)(m:Int)(P x3:Int×Int)(o0 o1:Ws)(bl bd b7 b6 b5 b4 b3 b2 b1 pm bp bm bw:Nat)(L:List (Nat×Ws))(l:Array Bool)(z:D7):Prop:=
 ∃es ck,gK (λa s=>pv (A a s)) es/\(∀k,ownA k->z.own k)/\DF 80 (SE c bw b1 b6 b7) (Rj A a s p c m bp bm bw b1) l z.t/\Hp C FR z.own z.v (RE a s q P x3 p (if l.getD 21 Vo=VG then(D9 m (w1 (A a (dV s p c)).2))else m) o0 o1 bl bd b7 b6 b5 b4 b3 b2 b1++(EP C pm bp bm bw es ck++L))
theorem Kk{x y:Int}(d:ev (.tmp 43)=Iv x)(f:ev (.tmp 62)=Iv y):eE Pz (VR ev (opn (aT (sb aG 1025770)) 20))=VF (.value (Iv (D9 x y))):=by have:(opn (aT (sb aG 1025770)) 20).op=.call {callee:=.builtin .max,args:=#[.tmp 43,.tmp 62],argTypes:=tL (opn (aT (sb aG 1025770)) 20)}:=Ψ;(have e:VR ev (opn (aT (sb aG 1025770)) 20)=(do pure (Next.value (<-Builtin.max2 (Iv x) (Iv y)))):=by unfold VR;rw[this];simp[resolve,invoke,builtin,d,f,Builtin.max_]);rw[e];rfl
theorem P4(hW:Wc C FR F){q:Nat}{m:Int}{o0 o1:Ws}{ro:Option Nat}(J:pM C FR i j A pm bp bm bw a (dV s p c))(hp:p<s.size)(h6:s.size<=6)(hM:gK (λa s=>pv (A a s)) es)(hS:Sl 80 (SE c bw b1 b6 b7) t)(hH:Hp C FR own v (RE a s q P x3 p m o0 o1 bl bd b7 b6 b5 b4 b3 b2 b1++(EP C pm bp bm bw es ck++L)))(hsub:∀k,ownA k->own k)(h:∀own t v es ck,(∀k,ownA k->own k)->t.size=80->gK (λa s=>pv (A a s)) es->Hp C FR own v (RE a s q P x3 p (D9 m (w1 (A a (dV s p c)).2)) o0 o1 bl bd b7 b6 b5 b4 b3 b2 b1++(EP C pm bp bm bw es ck++L))->af C i j .free own (G (fx [] ro 77 t (.inRegion (aT (sb aG 1025770)) []::kk)) cs) v):af C i j .free own (G (fx [] ro 77 t (.code (.region 14 (aT (sb aG 1025770)) VG)::kk)) cs) v:=by have hP:=hW.P;refine ew Ξ Ψ (SW C FR ownA A a s p c q m P x3 o0 o1 bl bd b7 b6 b5 b4 b3 b2 b1 pm bp bm bw L) ?_ ?_ ?_;{rintro listed z D rest hz hi' hl hdep M⟨es,ck,hM,hsub,g,hH⟩B;have hn:D<22:=hi';rcases(by omega:D=0\/D=1\/D=2\/D=3\/D=4\/D=5\/D=6\/D=7\/D=8\/D=9\/D=10\/D=11\/D=12\/D=13\/D=14\/D=15\/D=16\/D=17\/D=18\/D=19\/D=20\/D=21)with rfl|rfl|rfl|rfl|rfl|rfl|rfl|rfl|rfl|rfl|rfl|rfl|rfl|rfl|rfl|rfl|rfl|rfl|rfl|rfl|rfl|rfl;{have hS:Sl 80 [(10,ϖ b7)] z.t:=g.sl Υ;(have n20:listed.getD 20 Vo=Vo:=by cases h6:listed.getD 20 Vo with|false=>rfl|true=>have:=M 20 0 Ψ h6;rw[hl]at this;cases this);(have n21:listed.getD 21 Vo=Vo:=by cases h6:listed.getD 21 Vo with|false=>rfl|true=>have:=M 21 20 Ψ h6;rw[n20]at this;cases this);refine aF hW.steady rfl hH hS (d:=43) (u:=Iv m) Ψ Ψ Ψ (bh Ψ) (λE hH=>by rw[hP];exact pV (k:=2) (off:=0) (ty:=3) (y:=.tmp 10) hH rfl (by rw[n21];rfl) Ψ (hS.gN 10 rfl) isAgg3) (B (z.s _ _) ⟨es,ck,hM,hsub,g.put Θ Δ rfl rfl,?_⟩);rw[ae (n:=0) (k:=21) Δ];exact hH};{have hS:Sl 80 [(3,ϖ bw)] z.t:=g.sl Υ;refine aF hW.steady rfl hH hS (d:=44) (u:=.func (.func 77) #[] #[ϖ bp,ϖ bm,ϖ bw]) Ψ Ψ Ψ (bh Ψ) (λE hH=>by rw[hP];exact pV (k:=12) (off:=0) (ty:=115) (y:=.tmp 3) hH rfl rfl Ψ (hS.gN 3 rfl) isAgg115) (B (z.s _ _) ⟨es,ck,hM,hsub,g.put Θ Δ rfl rfl,?_⟩);rw[ae (n:=1) (k:=21) Δ];exact hH};{have hS:Sl 80 [(4,ϖ b1)] z.t:=g.sl Υ;refine az (d:=45) (u:=ϖ b1) hS Ξ rfl (B (z.s _ _) ⟨es,ck,hM,hsub,g.put Θ Δ rfl rfl,?_⟩);rw[ae (n:=2) (k:=21) Δ];exact hH};{have hS:Sl 80 [(45,ϖ b1)] z.t:=g.sl Υ;refine aF hW.steady rfl hH hS (d:=46) (u:=Iv a) Ψ Ψ Ψ (bh Ψ) (λE hH=>by rw[hP];exact pV (k:=8) (off:=0) (ty:=3) (y:=.tmp 45) hH rfl rfl Ψ (hS.gN 45 rfl) isAgg3) (B (z.s _ _) ⟨es,ck,hM,hsub,g.put Θ Δ rfl rfl,?_⟩);rw[ae (n:=3) (k:=21) Δ];exact hH};{have hS:Sl 80 [(4,ϖ b1)] z.t:=g.sl Υ;refine az (d:=47) (u:=ϱ b1 1) hS Ξ rfl (B (z.s _ _) ⟨es,ck,hM,hsub,g.put Θ Δ rfl rfl,?_⟩);rw[ae (n:=4) (k:=21) Δ];exact hH};{have hS:Sl 80 [(47,ϱ b1 1)] z.t:=g.sl Υ;refine aF hW.steady rfl hH hS (d:=48) (u:=.string s) Ψ Ψ Ψ (bh Ψ) (λE hH=>by rw[hP];exact pV (k:=8) (off:=1) (ty:=9) (y:=.tmp 47) hH rfl rfl Ψ (hS.gN 47 rfl) isAgg9) (B (z.s _ _) ⟨es,ck,hM,hsub,g.put Θ Δ rfl rfl,?_⟩);rw[ae (n:=5) (k:=21) Δ];exact hH};{have hS:Sl 80 [(9,ϖ b6)] z.t:=g.sl Υ;refine aF hW.steady rfl hH hS (d:=49) (u:=Iv (p:Nat)) Ψ Ψ Ψ (bh Ψ) (λE hH=>by rw[hP];exact pV (k:=3) (off:=0) (ty:=3) (y:=.tmp 9) hH rfl rfl Ψ (hS.gN 9 rfl) isAgg3) (B (z.s _ _) ⟨es,ck,hM,hsub,g.put Θ Δ rfl rfl,?_⟩);rw[ae (n:=6) (k:=21) Δ];exact hH};{have hS:Sl 80 [(48,.string s),(49,Iv (p:Nat))] z.t:=g.sl Υ;refine aF hW.steady rfl hH hS (d:=50) (u:=.string (s.extract 0 p)) Ψ Ψ Ψ (bh Ψ) (λE hH=>by rw[hP];exact PD (y:=.tmp 48) (x:=.tmp 49) Ψ (hS.gN 48 rfl) (hS.gN 49 rfl) Ω) (B (z.s _ _) ⟨es,ck,hM,hsub,g.put Θ Δ rfl rfl,?_⟩);rw[ae (n:=7) (k:=21) Δ];exact hH};{have hS:Sl 80 [(11,.string (ch c))] z.t:=g.sl Υ;refine az (d:=51) (u:=.string (ch c)) hS Ξ rfl (B (z.s _ _) ⟨es,ck,hM,hsub,g.put Θ Δ rfl rfl,?_⟩);rw[ae (n:=8) (k:=21) Δ];exact hH};{have hS:Sl 80 [(50,.string (s.extract 0 p)),(51,.string (ch c))] z.t:=g.sl Υ;refine aF hW.steady rfl hH hS (d:=52) (u:=.string (s.extract 0 p++ch c)) Ψ Ψ Ψ (bh Ψ) (λE hH=>by rw[hP];exact LX (y:=.tmp 50) (z:=.tmp 51) Ψ (hS.gN 50 rfl) (hS.gN 51 rfl) (by rw[G4,LK];omega)) (B (z.s _ _) ⟨es,ck,hM,hsub,g.put Θ Δ rfl rfl,?_⟩);rw[ae (n:=9) (k:=21) Δ];exact hH};{have hS:Sl 80 [(4,ϖ b1)] z.t:=g.sl Υ;refine az (d:=53) (u:=ϱ b1 1) hS Ξ rfl (B (z.s _ _) ⟨es,ck,hM,hsub,g.put Θ Δ rfl rfl,?_⟩);rw[ae (n:=10) (k:=21) Δ];exact hH};{have hS:Sl 80 [(53,ϱ b1 1)] z.t:=g.sl Υ;refine aF hW.steady rfl hH hS (d:=54) (u:=.string s) Ψ Ψ Ψ (bh Ψ) (λE hH=>by rw[hP];exact pV (k:=8) (off:=1) (ty:=9) (y:=.tmp 53) hH rfl rfl Ψ (hS.gN 53 rfl) isAgg9) (B (z.s _ _) ⟨es,ck,hM,hsub,g.put Θ Δ rfl rfl,?_⟩);rw[ae (n:=11) (k:=21) Δ];exact hH};{have hS:Sl 80 [(9,ϖ b6)] z.t:=g.sl Υ;refine aF hW.steady rfl hH hS (d:=55) (u:=Iv (p:Nat)) Ψ Ψ Ψ (bh Ψ) (λE hH=>by rw[hP];exact pV (k:=3) (off:=0) (ty:=3) (y:=.tmp 9) hH rfl rfl Ψ (hS.gN 9 rfl) isAgg3) (B (z.s _ _) ⟨es,ck,hM,hsub,g.put Θ Δ rfl rfl,?_⟩);rw[ae (n:=12) (k:=21) Δ];exact hH};{have hS:Sl 80 [(55,Iv (p:Nat))] z.t:=g.sl Υ;refine az (d:=56) (u:=Iv (VV.i64.wrap ((p:Int)+1))) hS Ξ rfl (B (z.s _ _) ⟨es,ck,hM,hsub,g.put Θ Δ rfl rfl,?_⟩);rw[ae (n:=13) (k:=21) Δ];exact hH};{have hS:Sl 80 [(54,.string s),(56,Iv (VV.i64.wrap ((p:Int)+1)))] z.t:=g.sl Υ;refine aF hW.steady rfl hH hS (d:=57) (u:=.string (s.extract (p+1) s.size)) Ψ Ψ Ψ (bh Ψ) (λE hH=>by rw[hP];exact Nf (y:=.tmp 54) (z:=.tmp 56) Ψ (hS.gN 54 rfl) ((hS.gN 56 rfl).trans (int_eq (Li Ω))) Ω) (B (z.s _ _) ⟨es,ck,hM,hsub,g.put Θ Δ rfl rfl,?_⟩);rw[ae (n:=14) (k:=21) Δ];exact hH};{have hS:Sl 80 [(52,.string (s.extract 0 p++ch c)),(57,.string (s.extract (p+1) s.size))] z.t:=g.sl Υ;refine aF hW.steady rfl hH hS (d:=58) (u:=.string (dV s p c)) Ψ Ψ Ψ (bh Ψ) (λE hH=>by rw[hP];exact LX (y:=.tmp 52) (z:=.tmp 57) Ψ (hS.gN 52 rfl) (hS.gN 57 rfl) (by rw[ByteArray.size_append,G4,G4,LK];omega)) (B (z.s _ _) ⟨es,ck,hM,hsub,g.put Θ Δ rfl rfl,?_⟩);rw[ae (n:=15) (k:=21) Δ];exact hH};{have hS:Sl 80 [(46,Iv a),(58,.string (dV s p c))] z.t:=g.sl Υ;refine az (d:=59) (u:=sk a (dV s p c)) hS Ξ rfl (B (z.s _ _) ⟨es,ck,hM,hsub,g.put Θ Δ rfl rfl,?_⟩);rw[ae (n:=16) (k:=21) Δ];exact hH};{have hS:Sl 80 [(44,.func (.func 77) #[] #[ϖ bp,ϖ bm,ϖ bw]),(59,sk a (dV s p c))] z.t:=g.sl Υ;refine um hS (o:=opn (aT (sb aG 1025770)) 17) (q:=77) (vs:=#[sk a (dV s p c)]) (fs:=#[ϖ bp,ϖ bm,ϖ bw]) (y:=.tmp 44) (ags:=#[.tmp 59]) (ats:=tL (opn (aT (sb aG 1025770)) 17)) Ψ Ψ Ψ (hS.gN 44 rfl) (wB (hS.gN 59 rfl)) (by rw[hP];exact func77) Ψ (show f77.body=VF aG by kernel_rfl) ?_;rw[show(#[sk a (dV s p c)]++#[ϖ bp,ϖ bm,ϖ bw]:Array VI)=#[sk a (dV s p c),ϖ bp,ϖ bm,ϖ bw]from rfl];refine J z.own _ es ck (RE a s q P x3 p (if listed.getD 21 Vo=VG then(D9 m (w1 (A a (dV s p c)).2))else m) o0 o1 bl bd b7 b6 b5 b4 b3 b2 b1++L) _ _ hM (hH.perm (Wk _ _ _)) (λN E es2 ck2 hs2 hM hH=>?_);replace hH:=hH.perm (Wk _ _ _);rw[bO (o:=opn (aT (sb aG 1025770)) 17) Ψ];refine B ⟨N,z.t.setIfInBounds 60 (pv (A a (dV s p c))),E⟩ ⟨es2,ck2,hM,λk B=>hs2 k (hsub k B),g.put Θ Δ rfl rfl,?_⟩;rw[ae (n:=17) (k:=21) Δ];exact hH};{have hS:Sl 80 [(60,pv (A a (dV s p c)))] z.t:=g.sl Υ;refine az (d:=61) (u:=Iv (A a (dV s p c)).2) hS Ξ rfl (B (z.s _ _) ⟨es,ck,hM,hsub,g.put Θ Δ rfl rfl,?_⟩);rw[ae (n:=18) (k:=21) Δ];exact hH};{have hS:Sl 80 [(61,Iv (A a (dV s p c)).2)] z.t:=g.sl Υ;refine az (d:=62) (u:=Iv (w1 (A a (dV s p c)).2)) hS Ξ rfl (B (z.s _ _) ⟨es,ck,hM,hsub,g.put Θ Δ rfl rfl,?_⟩);rw[ae (n:=19) (k:=21) Δ];exact hH};{have hS:Sl 80 [(43,Iv m),(62,Iv (w1 (A a (dV s p c)).2))] z.t:=g.sl Υ;refine rq hS (d:=63) (u:=Iv (D9 m (w1 (A a (dV s p c)).2))) Ψ Ψ Ψ (bh Ψ) (by rw[hP];exact Kk (hS.gN 43 rfl) (hS.gN 62 rfl)) (B (z.s _ _) ⟨es,ck,hM,hsub,g.put Θ Δ rfl rfl,?_⟩);rw[ae (n:=20) (k:=21) Δ];exact hH};have hS:Sl 80 [(10,ϖ b7),(63,Iv (D9 m (w1 (A a (dV s p c)).2)))] z.t:=g.sl Υ;rw[hl]at hH;refine jG (k:=2) (ty:=3) (y:=.tmp 10) (z:=.tmp 63) (u:=Iv (D9 m (w1 (A a (dV s p c)).2))) (off:=0) hW.steady rfl hH rfl hS Ψ Ψ Ψ Ψ (hS.gN 10 rfl) (hS.gN 63 rfl) (.inl ⟨_,_,rfl⟩) (by rw[hP];exact sizeOf3) (λw es=>by simp) Θ (λE hm1 hH=>?_);refine B ⟨z.own,z.t,E⟩ ⟨es,ck,hM,hsub,g.skip (n:=21) rfl,?_⟩;rw[if_pos (eZ (by rw[hz];decide))];exact hH};{rintro listed z K⟨es,ck,hM,hsub,g,hH⟩;rw[if_pos (K 21 Δ)]at hH;exact h z.own z.t z.v es ck hsub g.size hM hH};intro E hv;refine⟨es,ck,hM,hsub,⟨hS.size,hS.at_,λq _ hq=>?_⟩,?_⟩;{simp only[Tp,TE]at hq;split at hq<;>simp at hq};rw[if_neg (by simp[Tp,TE];split<;>simp)];exact hH.ef hW.steady hv
abbrev Fj(A:Int->ByteArray->Int×Int):Type:={e:Array WB×Nat//gK (λa s=>pv (A a s)) e.1}
theorem FN(hW:Wc C FR F)(w:∀c:Nat,97<=c->c<=122->pM C FR i j A pm bp bm bw a (dV s p c))(T:p<s.size)(Q:s.size<=6){t0:Array VI}(H:Sl 80 [(3,ϖ bw),(4,ϖ b1),(9,ϖ b6),(10,ϖ b7)] t0){e:Fj A}{done:List Nat}(N:97<=c)(O:c<=122)(hH:Hp C FR ownA v ((RE a s (p+1) P x3 p (gD (A a) s p done) (.loop {state:=.ready,pending:=VJ,fn:=77,tmps:=t0,params:=#[42],assign:=sb aG 512884,body:=sb aG 512885,defers:=bd}) (.deferred (VF [])) bl bd b7 b6 b5 b4 b3 b2 b1++EP C pm bp bm bw e.1.1 e.1.2)++L))(S:∀d M(J:Fj A),(∀k,ownA k->d k)->Hp C FR d M ((RE a s (p+1) P x3 p (gD (A a) s p (done++[c])) (.loop {state:=.ready,pending:=VJ,fn:=77,tmps:=t0,params:=#[42],assign:=sb aG 512884,body:=sb aG 512885,defers:=bd}) (.deferred (VF [])) bl bd b7 b6 b5 b4 b3 b2 b1++EP C pm bp bm bw J.1.1 J.1.2)++L)->af C i j .free d (G (caller.finish (.bool VG)) cs) M):af C i j .free ownA (G (fx [] (VF bl) 77 (t0.setIfInBounds 42 (.string (ch c))) [.code (sb aG 512884),.beginRound,.code (sb aG 512885)]) (caller::cs)) v:=by have hS:Sl 80 [(42,.string (ch c)),(3,ϖ bw),(4,ϖ b1),(9,ϖ b6),(10,ϖ b7)] (t0.setIfInBounds 42 (.string (ch c))):=H.put Δ Θ;have hsub:∀k,ownA k->ownA k:=λ_ h=>h;have hP:=hW.P;refine aP 3 [.beginRound,.code (sb aG 512885)] [(3,ϖ bw),(4,ϖ b1),(9,ϖ b6),(10,ϖ b7),(11,.string (ch c))] hP hS λt hS=>?_;refine vj (k:=0) hW.steady rfl hH rfl rfl (λI x hH=>?_);clear x;refine aP 1 [.code (sb aG 1025770),.inBlock 3] [(3,ϖ bw),(4,ϖ b1),(9,ϖ b6),(10,ϖ b7),(11,.string (ch c))] hP hS λt hS=>?_;rw[show sb aG 1025770=.region 14 (aT (sb aG 1025770)) VG by kernel_rfl];refine P4 (q:=p+1) (P:=P) (x3:=x3) (m:=(gD (A a) s p done)) hW (w c N O) T Q e.2 hS hH hsub (λK t I D B hsub U hM hH=>?_);have hS:Sl 80 [] t:=.MZ U;refine aP 2 [] [] hP hS λt hS=>?_;refine jd (k:=0) hW.steady rfl hH rfl (λI x hH=>?_);refine S _ I ⟨(D,B),hM⟩ hsub ?_;rw[show(gD (A a) s p (done++[c]))=D9 (gD (A a) s p done) (w1 (A a (dV s p c)).2)by unfold gD;rw[U4];rfl];exact hH
theorem H3(c:p<s.size):(s.extract p (p+1)).toList=[s.data.getD p 0]:=by have a:p<s.data.size:=c;rw[ByteArray.toList_eq];refine List.ext_getElem (by simp;omega) (λn d b=>?_);(obtain rfl:n=0:=by simp at b;exact b);simp;rw[Tt a,TQ]
theorem Sz:(⟨#[63]⟩:ByteArray).toList=[63]:=ByteArray.toList_mk [63]
theorem E4(a:p<s.size)(h:s.data.getD p 0=63):(!((s.extract p (p+1)).toList==(⟨#[63]⟩:ByteArray).toList))=Vo:=by rw[H3 a,h,Sz];decide
theorem KM(a:p<s.size)(h:¬s.data.getD p 0=63):(!((s.extract p (p+1)).toList==(⟨#[63]⟩:ByteArray).toList))=VG:=by rw[H3 a,Sz];simpa using h
theorem My{X1 X2:List (Nat×Ws)}{p1 p2 p3 p4:Nat×Ws}(h:Hp C FR own v (p1::p2::p3::p4::(X1++(X2++L)))):Hp C FR own v (X1++(X2++(p2::L))):=by have a:=((h.tail.perm ((List.Perm.swap p3 p2 _).trans ((List.Perm.swap p4 p2 _).cons p3))).tail).tail;refine a.perm ?_;rw[<-Up,<-Up];exact List.perm_middle.symm
theorem Jg(hW:Wc C FR F)(hNS:C.pre[0]?=VF NS)(hIn:LD C i j FR NS inW)(Y:s.data.getD p 0=63->∀c:Nat,97<=c->c<=122->pM C FR i j A pm bp bm bw a (dV s p c))(U:p<s.size)(h6:s.size<=6)(Z:(s[p]'U).toNat<128){D:List Nat}(hM:gK (λa s=>pv (A a s)) es)(hS:Sl 80 [(1,ϖ bp),(2,ϖ bm),(3,ϖ bw),(4,ϖ b1),(5,ϖ b2),(8,ϖ b4),(29,ϖ b5)] t)(hH:Hp C FR ownA v (QE a s p P x3 b5 b4 b3 b2 b1++(EP C pm bp bm bw es ck++(DB D++L))))(X:∀B v' t' D' W ck',(∀k,ownA k->B k)->gK (λa s=>pv (A a s)) W->Sl 80 [(1,ϖ bp),(2,ϖ bm),(3,ϖ bw),(4,ϖ b1),(5,ϖ b2),(8,ϖ b4),(29,ϖ b5)] t'->Hp C FR B v' (QE a s (p+1) (if s.data.getD p 0=63 then sF P p (gD (A a) s p (pP inW 26 97 Vo))else P) x3 b5 b4 b3 b2 b1++(EP C pm bp bm bw W ck'++(DB D'++L)))->af C i j .free B (G (fx (DS D') VJ 77 t' (cA aG 500)) (caller::cs)) v'):af C i j .free ownA (G (fx (DS D) VJ 77 t (cA aG 500)) (caller::cs)) v:=by have hP:=hW.P;have hsub:∀k,ownA k->ownA k:=λ_ h=>h;refine aP 2 (rA aG 1000 [0,1]) [(1,ϖ bp),(2,ϖ bm),(3,ϖ bw),(4,ϖ b1),(5,ϖ b2),(8,ϖ b4),(29,ϖ b5)] hP hS λt hS=>?_;refine Fp (d:=30) (k:=0) (y:=.tmp 29) (s:=s) (p:=p) hP hW.steady rfl hH rfl hS (o:=opn (aT (sb aG 1000)) 0) Ψ Ψ Ψ Ψ (hS.gN 29 rfl) U Z (λr hH=>?_);replace hS:=hS.pt (d:=30) (v:=.tuple #[.bool VG,Iv (p:Nat),.int .i32 ((s[p]'U).toNat:Nat)]);refine r1 (O:=[(37,o6 (VV.i64.wrap ((p:Int)+1)) ((p+1:Nat):Int) (Li Ω))]) (n:=20) [0,1,6,1,1] (λJ=>[.cells #[Iv (p:Nat)] 3]) [] (rA aG 32052 [5,6]) (λJ=>[(1,ϖ bp),(2,ϖ bm),(3,ϖ bw),(4,ϖ b1),(5,ϖ b2),(8,ϖ b4),(29,ϖ b5),(9,ϖ J),(34,.string s),(35,Iv (p:Nat)),(37,Iv ((p+1:Nat):Int))]) λJ t H r hS hsub hH=>?_;refine gW 38 (.string (s.extract p (p+1))) hW.steady hH hS (λr hH=>by rw[hP];exact LC (y:=.tmp 34) (z:=.tmp 35) (x:=.tmp 37) Ψ (hS.gN 34 rfl) (hS.gN 35 rfl) (hS.gN 37 rfl) Ω Ω) λhS=>?_;by_cases R:s.data.getD p 0=63;{refine r1 (O:=[(39,ob (!((s.extract p (p+1)).toList==(⟨#[63]⟩:ByteArray).toList)) Vo (E4 U R))]) (n:=16) [0,1,9] (λQ=>[.cells #[Iv 0] 3]) [] (xA (.rangeFunc (.tmp 41) #[42] (sb aG 512884) (sb aG 512885)) aG 256442) (λQ=>[(1,ϖ bp),(2,ϖ bm),(3,ϖ bw),(4,ϖ b1),(5,ϖ b2),(8,ϖ b4),(29,ϖ b5),(9,ϖ J),(10,ϖ Q),(41,.func (.func 78) #[ϖ C.mu] #[])]) λQ t H r hS hsub hH=>?_;refine nx (y:=.tmp 41) (first:=#[ϖ C.mu]) (q:=78) hW.steady rfl hH (hS.gN 41 rfl) (by rw[hP];exact func78) Ψ (show f78.body=VF bX by kernel_rfl) (λH S V r hs1 l hH=>?_);replace hsub:∀k,ownA k->H k:=λk hk=>hs1 k (hsub k hk);clear hs1 l;rw[show(#[ϖ C.mu]++#[VI.func (.yield V) #[] #[]]:Array VI)=#[ϖ C.mu,.func (.yield V) #[] #[]]from rfl];refine tE (E:=λ(e:Fj A)K=>RE a s (p+1) P x3 p (gD (A a) s p K) (.loop {state:=.ready,pending:=VJ,fn:=77,tmps:=t,params:=#[42],assign:=sb aG 512884,body:=sb aG 512885,defers:=S}) (.deferred (VF [])) V S Q J b5 b4 b3 b2 b1++EP C pm bp bm bw e.1.1 e.1.2) (kE:=0) (e:=⟨(es,ck),hM⟩) hW hNS (λ_ _=>rfl) rfl hIn (λe K c h1 h2 own v L' caller cs hH hT=>?_) (L:=DB D++L) hH (λN r e2 hs2 hH=>?_);{have e:((#[42]:Array Tmp).zip #[VI.string (ch c)]).foldl (λ(tmps:Array VI)(x:Tmp×VI)=>match x with|(t,a)=>tmps.setIfInBounds t a) t=t.setIfInBounds 42 (.string (ch c)):=Ψ;show af C i j .free own (G (fx [] (VF V) 77 (((#[42]:Array Tmp).zip #[VI.string (ch c)]).foldl (λ(tmps:Array VI)(x:Tmp×VI)=>match x with|(t,a)=>tmps.setIfInBounds t a) t) [.code (sb aG 512884),.beginRound,.code (sb aG 512885)]) (caller::cs)) v;rw[e];exact FN hW (Y R) U h6 (hS.sub Θ) h1 h2 hH hT};replace hsub:∀k,ownA k->N k:=λk hk=>hs2 k (hsub k hk);clear hs2;obtain⟨⟨es,ck⟩,hM⟩:=e2;show af C i j .free N (G (fx (DS (S::D)) VJ 77 t (.endRangeFunc V::[.inBlock 2,.code (sb aG 64111),.inBlock 1,.inLoop (sb aG 500),.inBlock 0,.code (sb aG 63)])) _) r;refine qN (k:=0) hW.steady rfl hH rfl rfl rfl (λr l hH=>?_);clear l;replace hS:Sl 80 [(1,ϖ bp),(2,ϖ bm),(3,ϖ bw),(4,ϖ b1),(5,ϖ b2),(8,ϖ b4),(29,ϖ b5),(9,ϖ J),(10,ϖ Q)] t:=hS.sub Θ;refine r0 (n:=5) [6] [] (rA aG 128222 [2,3,4,5,6,7,8]) [(65,Iv P.1),(1,ϖ bp),(2,ϖ bm),(3,ϖ bw),(4,ϖ b1),(5,ϖ b2),(8,ϖ b4),(29,ϖ b5),(9,ϖ J),(10,ϖ Q),(64,ϖ b4)] λt r hS hH=>?_;by_cases hc:P.1<0;{refine r0 (O:=[(66,ob (decide (P.1<0)) VG (by simpa using hc))]) (n:=13) [4,3] [] (rA aG 256446 [3]) [(1,ϖ bp),(2,ϖ bm),(3,ϖ bw),(4,ϖ b1),(5,ϖ b2),(8,ϖ b4),(29,ϖ b5),(75,.agg #[Iv (p:Nat),Iv (gD (A a) s p (pP inW 26 97 Vo))])] λt r hS hH=>?_;refine dy (k:=5) (ty:=117) (n:=2) (y:=.tmp 8) (z:=.tmp 75) hW.steady rfl hH rfl hS Ψ Ψ Ψ Ψ (hS.gN 8 rfl) (hS.gN 75 rfl) rfl (xV _ _) rfl (by rw[hP];exact sizeOf117) (λw es=>by simp) (λr l hH=>?_);clear l;refine aP 3 (cA aG 500) [(1,ϖ bp),(2,ϖ bm),(3,ϖ bw),(4,ϖ b1),(5,ϖ b2),(8,ϖ b4),(29,ϖ b5)] hP hS λt hS=>?_;refine X _ _ t (S::D) es ck hsub hM hS ?_;rw[if_pos R];unfold sF;rw[if_pos (.inl hc)];exact My hH};refine r0 (O:=[(66,ob (decide (P.1<0)) Vo (by simpa using hc))]) (n:=5) [3,6] [] (rA aG 128222 [7,8]) [(70,Iv P.2),(1,ϖ bp),(2,ϖ bm),(3,ϖ bw),(4,ϖ b1),(5,ϖ b2),(8,ϖ b4),(29,ϖ b5),(9,ϖ J),(10,ϖ Q),(67,.bool Vo),(68,Iv (gD (A a) s p (pP inW 26 97 Vo))),(69,ϱ b4 1)] λt r hS hH=>?_;by_cases hd:(gD (A a) s p (pP inW 26 97 Vo))<P.2;{refine r0 (O:=[(71,ob (decide ((gD (A a) s p (pP inW 26 97 Vo))<P.2)) VG (by simpa using hd))]) (n:=8) [4,3] [] (rA aG 256446 [3]) [(1,ϖ bp),(2,ϖ bm),(3,ϖ bw),(4,ϖ b1),(5,ϖ b2),(8,ϖ b4),(29,ϖ b5),(75,.agg #[Iv (p:Nat),Iv (gD (A a) s p (pP inW 26 97 Vo))])] λt r hS hH=>?_;refine dy (k:=5) (ty:=117) (n:=2) (y:=.tmp 8) (z:=.tmp 75) hW.steady rfl hH rfl hS Ψ Ψ Ψ Ψ (hS.gN 8 rfl) (hS.gN 75 rfl) rfl (xV _ _) rfl (by rw[hP];exact sizeOf117) (λw es=>by simp) (λr l hH=>?_);clear l;refine aP 3 (cA aG 500) [(1,ϖ bp),(2,ϖ bm),(3,ϖ bw),(4,ϖ b1),(5,ϖ b2),(8,ϖ b4),(29,ϖ b5)] hP hS λt hS=>?_;refine X _ _ t (S::D) es ck hsub hM hS ?_;rw[if_pos R];unfold sF;rw[if_pos (.inr hd)];exact My hH};refine gr 7 [(71,ob (decide ((gD (A a) s p (pP inW 26 97 Vo))<P.2)) Vo (by simpa using hd))] (cA aG 500) [(1,ϖ bp),(2,ϖ bm),(3,ϖ bw),(4,ϖ b1),(5,ϖ b2),(8,ϖ b4),(29,ϖ b5)] hS (λt hS=>?_);refine X _ _ t (S::D) es ck hsub hM hS ?_;rw[if_pos R];unfold sF;rw[if_neg (by rintro(x|x);exact hc x;exact hd x)];exact My hH};refine gr 5 [(39,ob (!((s.extract p (p+1)).toList==(⟨#[63]⟩:ByteArray).toList)) VG (KM U R))] (cA aG 500) [(1,ϖ bp),(2,ϖ bm),(3,ϖ bw),(4,ϖ b1),(5,ϖ b2),(8,ϖ b4),(29,ϖ b5)] hS (λt hS=>?_);rw[if_neg R]at X;exact X _ _ t D es ck hsub hM hS hH.tail
theorem J0(J:Wc C FR F)(E:C.pre[0]?=VF NS)(B:LD C i j FR NS inW)(q:∀p,p<s.size->s.data.getD p 0=63->∀c:Nat,97<=c->c<=122->pM C FR i j A pm bp bm bw a (dV s p c))(K:s.size<=6)(r:∀p(u:p<s.size),(s[p]'u).toNat<128):∀(n p:Nat)(P:Int×Int)(D:List Nat)(es:Array WB)(ck:Nat)(own:Nat->Prop)(v:VH)(t:Array VI),p+n=s.size->(∀k,ownA k->own k)->gK (λa s=>pv (A a s)) es->Sl 80 [(1,ϖ bp),(2,ϖ bm),(3,ϖ bw),(4,ϖ b1),(5,ϖ b2),(8,ϖ b4),(29,ϖ b5)] t->Hp C FR own v (QE a s p P x3 b5 b4 b3 b2 b1++(EP C pm bp bm bw es ck++(DB D++L)))->(∀b z x w g h,(∀k,ownA k->b k)->gK (λa s=>pv (A a s)) g->Sl 80 [(1,ϖ bp),(2,ϖ bm),(3,ϖ bw),(4,ϖ b1),(5,ϖ b2),(8,ϖ b4),(29,ϖ b5)] x->Hp C FR b z (QE a s s.size (ng (A a) s (pP inW 26 97 Vo) n p P) x3 b5 b4 b3 b2 b1++(EP C pm bp bm bw g h++(DB w++L)))->af C i j .free b (G (fx (DS w) VJ 77 x (cA aG 126)) (caller::cs)) z)->af C i j .free own (G (fx (DS D) VJ 77 t (cA aG 500)) (caller::cs)) v:=by have H:=J.P;intro n;induction n with|zero=>intro p P D es ck own v t u f o e m I;simp only[TW]at u;subst u;refine aP 2 (rA aG 1000 [0,1]) [(1,ϖ bp),(2,ϖ bm),(3,ϖ bw),(4,ϖ b1),(5,ϖ b2),(8,ϖ b4),(29,ϖ b5)] H e λt e=>?_;refine xj (d:=30) (k:=0) (y:=.tmp 29) (s:=s) H J.steady rfl m rfl e Ψ Ψ Ψ Ψ (e.gN 29 rfl) Ω ?_;replace e:=e.pt (d:=30) (v:=.tuple #[.bool Vo]);refine aP 6 (cA aG 126) [(1,ϖ bp),(2,ϖ bm),(3,ϖ bw),(4,ϖ b1),(5,ϖ b2),(8,ϖ b4),(29,ϖ b5)] H e λt e=>?_;exact I _ _ t D es ck f o e m|succ n O=>intro p P D es ck own v t u f o e m I;(have l:p<s.size:=by omega);refine Jg J E B (q p l) l K (r p l) o e m (λb z x w g h N o e m=>?_);exact O (p+1) _ w g h b z x Ω (λk M=>N k (f k M)) o e m I
theorem B6(hW:Wc C FR F)(hNS:C.pre[0]?=VF NS)(hIn:LD C i j FR NS inW)(hLk:cD C FR i j 75 f75 #[ϖ C.mu,sk a s] (fv (F a s)))(R:∀p,p<s.size->s.data.getD p 0=63->∀c:Nat,97<=c->c<=122->pM C FR i j A pm bp bm bw a (dV s p c))(h6:s.size<=6)(S:∀p(hp:p<s.size),(s[p]'hp).toNat<128)(Y:(F a s).1≠0->A a s=(-1,0))(Z:(F a s).1=0->A a s=ng (A a) s (pP inW 26 97 Vo) s.size 0 (-1,0)):pM C FR i j A pm bp bm bw a s:=by intro I v E U L T cs hM hH V;have hP:=hW.P;have hS:Sl 80 [(0,sk a s),(1,ϖ bp),(2,ϖ bm),(3,ϖ bw)] (#[sk a s,ϖ bp,ϖ bm,ϖ bw]++Array.replicate (f77.ntmps-(#[sk a s,ϖ bp,ϖ bm,ϖ bw]:Array VI).size) undef):=.all;generalize(#[sk a s,ϖ bp,ϖ bm,ϖ bw]++Array.replicate (f77.ntmps-(#[sk a s,ϖ bp,ϖ bm,ϖ bw]:Array VI).size) undef)=t at hS⊢;show af C i j .free I (G (fx [] VJ 77 t (cA aG 1)) _) v;have hsub:∀k,I k->I k:=λ_ h=>h;refine r2 (n:=10) [0,0,4,2] (λK B=>[.cells #[Iv a,.string s] 112,.cells #[Iv 0,Iv 0] 117]) [] (rA aG 12 [2,3,4]) (λK B=>[(13,sk a s),(12,ϖ C.mu),(1,ϖ bp),(2,ϖ bm),(3,ϖ bw),(4,ϖ K),(5,ϖ B)]) λK B t H m hS hsub hH=>?_;refine rc 14 (hLk _ _ _ _ _ hH) λown2 m hS hsub hH=>?_;by_cases W:(F a s).1=0;{refine r0 (O:=[(16,ob ((F a s).1 !=0) Vo (by simpa using W))]) (n:=10) [5,2] [] (rA aG 28 [2,3,4,5,6,7,8]) [(20,sk a s),(19,.map (VF pm)),(1,ϖ bp),(2,ϖ bm),(3,ϖ bw),(4,ϖ K),(5,ϖ B)] λt m hS hH=>?_;refine Dd (k:=2) (y:=.tmp 19) (z:=.tmp 20) (A:=A) (a:=a) (s:=s) (d:=21) hP hW.steady rfl hH rfl hM hS (o:=opn (aT (sb aG 28)) 2) Ψ Ψ Ψ Ψ (hS.gN 19 rfl) (hS.gN 20 rfl) (λok x m hx hH=>?_);replace hS:=hS.pt (d:=21) (v:=.tuple #[pv x,.bool ok]);refine r1 (n:=4) [0] (λQ=>[.cells #[Iv 0,Iv 0] 117]) [] (rA aG 28 [7,8]) (λQ=>[(6,ϖ Q),(1,ϖ bp),(2,ϖ bm),(3,ϖ bw),(4,ϖ K),(5,ϖ B),(22,pv x),(23,.bool ok)]) λQ t H m hS hsub hH=>?_;refine dy (k:=0) (ty:=117) (n:=2) (y:=.tmp 6) (z:=.tmp 22) hW.steady rfl hH rfl hS Ψ Ψ Ψ Ψ (hS.gN 6 rfl) (hS.gN 22 rfl) rfl (xV _ _) rfl (by rw[hP];exact sizeOf117) (λw E=>by simp) (λm u hH=>?_);clear u;cases ok;{refine r1 (n:=12) [0] (λN=>[.cells #[Iv 0,Iv 0] 117]) [] (rA aG 30 [2]) (λN=>[(8,ϖ N),(1,ϖ bp),(2,ϖ bm),(3,ϖ bw),(4,ϖ K),(5,ϖ B),(26,.agg #[Iv (-1),Iv 0])]) λN t H m hS hsub hH=>?_;refine dy (k:=0) (ty:=117) (n:=2) (y:=.tmp 8) (z:=.tmp 26) hW.steady rfl hH rfl hS Ψ Ψ Ψ Ψ (hS.gN 8 rfl) (hS.gN 26 rfl) rfl (xV _ _) rfl (by rw[hP];exact sizeOf117) (λw E=>by simp) (λm u hH=>?_);clear u;refine r1 (n:=10) [4,0] (λP=>[.stringIter s 0]) [] (cA aG 500) (λP=>[(1,ϖ bp),(2,ϖ bm),(3,ϖ bw),(4,ϖ K),(5,ϖ B),(8,ϖ N),(29,ϖ P)]) λP t H m hS hsub hH=>?_;refine J0 hW hNS hIn R h6 S (ownA:=I) (x3:=x) s.size 0 (-1,0) [] E U H m t Ω hsub hM hS hH (λown3 m t D E U hsub hM hS hH=>?_);rw[<-Z W]at hH;refine r0 (n:=4) [8,5,2] [] (rA aG 126 [3]) [(78,.agg #[Iv (A a s).1,Iv (A a s).2]),(77,sk a s),(76,.map (VF pm)),(1,ϖ bp),(2,ϖ bm),(3,ϖ bw),(4,ϖ K),(5,ϖ B),(8,ϖ N),(29,ϖ P)] λt m hS hH=>?_;refine A8 (k:=5) (y:=.tmp 76) (z:=.tmp 77) (r:=.tmp 78) (A:=A) (a:=a) (s:=s) hP hW.steady rfl hH rfl hM hS Ψ Ψ Ψ Ψ (hS.gN 76 rfl) (hS.gN 77 rfl) (hS.gN 78 rfl) (λm E U hM hH=>?_);refine r0 (n:=4) [2] [] (rA aG 254 [1]) [(79,.agg #[Iv (A a s).1,Iv (A a s).2]),(1,ϖ bp),(2,ϖ bm),(3,ϖ bw),(4,ϖ K),(5,ϖ B),(8,ϖ N),(29,ϖ P)] λt m hS hH=>?_;refine dy (k:=3) (ty:=117) (n:=2) (y:=.tmp 5) (z:=.tmp 79) hW.steady rfl hH rfl hS Ψ Ψ Ψ Ψ (hS.gN 5 rfl) (hS.gN 79 rfl) rfl (xV _ _) rfl (by rw[hP];exact sizeOf117) (λw E=>by simp) (λm u hH=>?_);clear u;refine aP 1 (cA aG 255) [(5,ϖ B)] hP hS λt hS=>?_;refine oQ ?_;refine BT (X:=[(P,.stringIter s s.size),(N,.cells #[Iv (A a s).1,Iv (A a s).2] 117),(Q,.cells #[Iv x.1,Iv x.2] 117),(B,.cells #[Iv (A a s).1,Iv (A a s).2] 117),(K,.cells #[Iv a,.string s] 112),(pm,.map E U),(bp,.cells #[ϖ C.mu] 100),(bm,.cells #[.map (VF pm)] 114),(bw,.cells #[.func (.func 77) #[] #[ϖ bp,ϖ bm,ϖ bw]] 115)]) (L:=L) hW.steady rfl D _ hH (λm hH=>?_);refine nV (k:=3) (s:=5) (ty:=117) hW.steady rfl (fn:=f77) (by rw[hP];exact func77) rfl (hS.gN 5 rfl) (by rw[hP];exact isAgg117) (by rw[hP];exact sizeOf117) (λw E=>by simp) (λw E=>by simp) hH rfl ?_;skip;exact V _ m _ _ hsub hM hH.tail.tail.tail.tail.tail};refine r0 (n:=10) [1] [] (rA aG 236 [1]) [(25,.agg #[Iv x.1,Iv x.2]),(1,ϖ bp),(2,ϖ bm),(3,ϖ bw),(4,ϖ K),(5,ϖ B),(6,ϖ Q)] λt m hS hH=>?_;refine dy (k:=1) (ty:=117) (n:=2) (y:=.tmp 5) (z:=.tmp 25) hW.steady rfl hH rfl hS Ψ Ψ Ψ Ψ (hS.gN 5 rfl) (hS.gN 25 rfl) rfl (xV _ _) rfl (by rw[hP];exact sizeOf117) (λw E=>by simp) (λm u hH=>?_);clear u;refine aP 1 (cA aG 237) [(5,ϖ B)] hP hS λt hS=>?_;refine oQ ?_;refine nV (k:=1) (s:=5) (ty:=117) hW.steady rfl (fn:=f77) (by rw[hP];exact func77) rfl (hS.gN 5 rfl) (by rw[hP];exact isAgg117) (by rw[hP];exact sizeOf117) (λw E=>by simp) (λw E=>by simp) hH rfl ?_;have e:=hx rfl;subst e;exact V _ m _ _ hsub hM hH.tail.tail.tail};refine gr 7 [(16,ob ((F a s).1 !=0) VG (by simpa using W))] (rA aG 52 [1]) [(1,ϖ bp),(2,ϖ bm),(3,ϖ bw),(4,ϖ K),(5,ϖ B),(17,.agg #[Iv (-1),Iv 0])] hS (λt hS=>?_);refine dy (k:=0) (ty:=117) (n:=2) (y:=.tmp 5) (z:=.tmp 17) hW.steady rfl hH rfl hS Ψ Ψ Ψ Ψ (hS.gN 5 rfl) (hS.gN 17 rfl) rfl (xV _ _) rfl (by rw[hP];exact sizeOf117) (λw E=>by simp) (λm u hH=>?_);clear u;refine aP 1 (cA aG 53) [(5,ϖ B)] hP hS λt hS=>?_;refine oQ ?_;refine nV (k:=0) (s:=5) (ty:=117) hW.steady rfl (fn:=f77) (by rw[hP];exact func77) rfl (hS.gN 5 rfl) (by rw[hP];exact isAgg117) (by rw[hP];exact sizeOf117) (λw E=>by simp) (λw E=>by simp) hH rfl ?_;have e:=Y W;rw[e]at V;exact V _ m _ _ hsub hM hH.tail.tail
end Go.Me
namespace Go.ab
open Go.Proofs
variable{x x':Array VI}
section
variable{P:Program}{c:dz}{r:bA}
theorem ab.loadBytes:∀(n:Nat){r:bA}{a a':Addr}(d:ByteArray),dw c r a a'->ab P c r (Extern.Bytes.loadBytes a n d) (Extern.Bytes.loadBytes a' n d) λ_ x y=>y=x:=by intro n;induction n with|zero=>intro r a a' d _;exact ab.pure rfl|succ n h=>intro r a a' d e;refine ab.bind (ab.load e) λi x j f g=>?_;cases g with|int k m=>(cases k with|u8=>exact h _ ((e.mono f).add 1)|_=>exact ab.stuck)|_=>exact ab.stuck
theorem ab.bytesOf{x x':VI}(h:ai c r x x'):ab P c r (Extern.Bytes.bytesOf x) (Extern.Bytes.bytesOf x') λ_ a b=>b=a:=by cases h with|string s=>exact ab.pure rfl|gi n m=>exact ab.pure rfl|slice n m e=>exact ab.loadBytes _ _ e|cB a f=>exact ab.pure rfl|_=>exact ab.stuck
theorem ab.asByte{x x':VI}(h:ai c r x x'):ab P c r (Extern.Bytes.asByte x) (Extern.Bytes.asByte x') λ_ a b=>b=a:=by cases h with|int k m=>(cases k with|u8=>exact ab.pure rfl|_=>exact ab.stuck)|_=>exact ab.stuck
theorem aj.two(h:aj c r x x'):(∃a b d e,x=#[a,b]/\x'=#[d,e]/\ai c r a d/\ai c r b e)\/(x.size≠2/\x'.size≠2):=by by_cases f:x.size=2;{(have g:x'.size=2:=by rw[<-h.size];exact f);obtain⟨l⟩:=x;obtain⟨i⟩:=x';match l,i,f,g with|[a,b],[d,e],_,_=>exact .inl ⟨a,b,d,e,rfl,rfl,h.el 0 a d rfl rfl,h.el 1 b e rfl rfl⟩};exact .inr ⟨f,by rw[<-h.size];exact f⟩
theorem Ds(h:aj c r x x'):ab P c r (Extern.BytealgCount.count x) (Extern.BytealgCount.count x') (ai c):=by rcases h.two with⟨a,b,n,o,rfl,rfl,i,j⟩|⟨f,g⟩;{refine ab.bind (ab.bytesOf i) λq u m k e=>?_;subst e;refine ab.bind (ab.asByte (j.mono k)) λs u m p e=>?_;subst e;exact ab.pure (.int _ _)};(have e:Extern.BytealgCount.count x=stuck "bytealg.Count: two arguments expected" :=by clear h g;obtain⟨l⟩:=x;match l,f with|[],_=>rfl|[_],_=>rfl|[_,_],f=>simp_all|_::_::_::_,_=>rfl);rw[e];exact ab.stuck
theorem tU(h:aj c r x x'):ab P c r (Extern.BytealgIndexByte.indexByte x) (Extern.BytealgIndexByte.indexByte x') (ai c):=by rcases h.two with⟨a,b,m,n,rfl,rfl,i,j⟩|⟨f,g⟩;{refine ab.bind (ab.bytesOf i) λp u s k e=>?_;subst e;refine ab.bind (ab.asByte (j.mono k)) λq w t o e=>?_;subst e;split;{exact ab.pure (.int _ _)};exact ab.pure (.int _ _)};(have e:Extern.BytealgIndexByte.indexByte x=stuck "bytealg.IndexByte: two arguments expected" :=by clear h g;obtain⟨l⟩:=x;match l,f with|[],_=>rfl|[_],_=>rfl|[_,_],f=>simp_all|_::_::_::_,_=>rfl);rw[e];exact ab.stuck
theorem qm(n:String):bR P (λa=>∃g,g<P.globals.size/\a=⟨g,0,VJ⟩) (globalAddr n):=by refine bR.bind bP λp d=>?_;subst d;cases h:p.globals.findIdx? (·.name==n)with|none=>exact rfl|some g=>obtain⟨b,-⟩:=Array.findIdx?_eq_some_iff_getElem.1 h;exact⟨g,b,rfl⟩
theorem ab.maxLen(e:Fits P c):ab P c r Extern.BytealgIndex.maxLen Extern.BytealgIndex.maxLen λ_ a b=>b=a:=by refine ab.bind (ab.eY (qm _)) λm a j k f=>?_;obtain⟨rfl,g,h,rfl⟩:=f;exact ab.bind (ab.EB e (by rw[e.aJ];exact h) 0) λn x o l i=>ab.asInt i
theorem w7(k:Fits P c)(h:aj c r x x'):ab P c r (Extern.BytealgIndex.index x) (Extern.BytealgIndex.index x') (ai c):=by rcases h.two with⟨a,b,o,p,rfl,rfl,i,j⟩|⟨f,g⟩;{refine ab.bind (ab.bytesOf i) λv u A n e=>?_;subst e;refine ab.bind (ab.bytesOf (j.mono n)) λy w B q e=>?_;subst e;refine ab.bind (ab.maxLen k) λz m t s e=>?_;subst e;simp only[];split;{exact ab.never (gn eL)};split;{exact ab.never (gn eL)};split;{exact ab.pure (.int _ _)};exact ab.pure (.int _ _)};(have e:Extern.BytealgIndex.index x=stuck "bytealg.Index: two arguments expected" :=by clear h g;obtain⟨l⟩:=x;match l,f with|[],_=>rfl|[_],_=>rfl|[_,_],f=>simp_all|_::_::_::_,_=>rfl);rw[e];exact ab.stuck
end
def Ly:List V8:=[28,31,35,37,46,48,57,59,74,76,79,93,110,18,20,21,22,23,24,25,26,29,36,38,39,40,41,42,43,44,45,47,49,51,53,54,55,56,60,61,62,63,64,65,66,67,68,69,70,71,72,78,80,81,82,83,84,85,87,88,89,90,91,92,94,95,96,97,98,99,100,101,102,103,104,105,111,114,116,117,118,119,120,121,122,123,124,125,147,148,149,150,151,152,153,154,155,156,157,158,159,173,174,175,176,177,178,179,180,181,192,193,194]
def b8(f:V8):Bool:=Ly.contains f
noncomputable def BX(c:dz)(f:V8):Bool:=match Pz.funcs[f]? with
 |some fn=>!(fn.name== "runtime.NumGoroutine")&&(match fn.body with
   |none=>f==123||f==179||f==193
   |some b=>codeOk Pz c (λ_=>Vo) b)
 |none=>Vo
theorem yB(ws:List fC):Ly.all (BX (dr Pz b8 ws))=VG:=Ψ
theorem NI:Extern.findNext f123=VJ:=Ψ
theorem Oe:Extern.find f123=VF Extern.BytealgCount.count:=Ψ
theorem OE:Extern.findNext f179=VJ:=Ψ
theorem M3:Extern.find f179=VF Extern.BytealgIndex.index:=Ψ
theorem Mw:Extern.findNext f193=VJ:=Ψ
theorem L9:Extern.find f193=VF Extern.BytealgIndexByte.indexByte:=Ψ
theorem ru:Pz.info? vL=VJ:=Ψ
theorem LV(ws:List fC):Fits Pz (dr Pz b8 ws):=⟨rfl,ru,λg b=>if_pos b⟩
theorem eh(ws:List fC):Listed Pz (dr Pz b8 ws) λ_=>Vo:=by have d:=yB ws;rw[TF]at d;have j:∀(f:V8)(e:Func),b8 f=VG->Pz.funcs[f]?=VF e->BX (dr Pz b8 ws) f=VG:=λf e h _=>d f (List.contains_iff_mem.1 h);refine⟨LV ws,(λg h=>by cases h),λf e h c=>?_,λf e h c=>?_⟩;{have:=j f e h c;unfold BX at this;rw[c]at this;simp only[Tl,Bool.not_eq_true']at this;refine⟨this.1,λk=>?_⟩;have i:=this.2;rw[k]at i;simp only[T8,beq_iff_eq]at i;rcases i with(rfl|rfl)|rfl;{rw[func123]at c;cases c;exact⟨NI,_,Oe,λr x l h=>Ds h⟩};{rw[func179]at c;cases c;exact⟨OE,_,M3,λr x l h=>w7 (LV ws) h⟩};rw[func193]at c;cases c;exact⟨Mw,_,L9,λr x l h=>tU h⟩};have:=j f e h c;unfold BX at this;rw[c]at this;simp only[Tl]at this;have i:=this.2;cases k:e.body with|none=>simp|some b=>simp_all
end Go.ab
namespace Go.Proofs
open Go.RowKit
variable{bg C i k b:Nat}{f:Nat->Nat->Nat}{w0 w' w:VH}
section
attribute[local go_sem↓]Go.wp_at_zero Go.wp_at_succ
theorem im(n a b:Int)(w:VH):Wy Pz 81 #[Iv n,Iv a,Iv b] w λe w'=>e=.returned (.bool (decide (a<=n/\n<=b)))/\w'=w:=by by_cases f:a<=n;{by_cases d:n<=b;{go_wp2;go_ret;simp[f,d]};go_wp2;go_ret;simp[d]};go_wp2;go_ret;simp;omega
def Q8(x y z:Int):Int:=min (min x y) z
theorem BS{P:Program}(w:VH)(b:Array TypeId)(t:TypeId)(k k' a:VV)(x y z:Int):(Builtin.min_ b t #[.int k x,.int k' y,.int a z]).run P w=.ok (.int k (Q8 x y z)) w:=by rw[run_min_int3];unfold Q8;grind
attribute[local go_sem↓]BS
def uO(n a b cost:Int)(un same:Bool):Int:=Q8 (if un=VG then n+cost else if same=VG then n else n+1) (a+1) (b+1)
theorem DX(k:Int)(g l c wd:VI)(w:VH):Wy Pz 98 #[g,Iv 0,Iv k,l,c,wd] w λe w'=>e=.returned (Iv k)/\w'=w:=by go_wp2;go_ret;simp
theorem FU(i:Int)(b:1<=i)(g l c wd:VI)(w:VH):Wy Pz 98 #[g,Iv i,Iv 0,l,c,wd] w λe w'=>e=.returned (Iv i)/\w'=w:=by go_wp2;go_ret;simp
theorem H3(s:ByteArray)(k:Nat)(h:k<s.size):(s.extract k (k+1)).toList=[s[k]]:=by rw[Go.Lib.toList_data,ByteArray.data_extract,Array.toList_extract];apply U1;intro i;rw[VY,List.getElem?_take];rcases i with _|i;{simp;exact Tt h};simp
set_option maxHeartbeats 8000000 in theorem FQ(l q p bw:Nat)(s wd:ByteArray)(c o h j i k:Nat)(w:VH)(K:i<wd.size)(r:k<s.size)(t:i<6)(u:k<6)(J:c<=1)(F:o<=12)(G:h<=12)(I:j<=12)(z:w.cell? ⟨l,i*7+k,VJ⟩=VF (Iv o))(A:w.cell? ⟨l,i*7+(k+1),VJ⟩=VF (Iv h))(B:w.cell? ⟨l,(i+1)*7+k,VJ⟩=VF (Iv j))(D:w.cell? ⟨q,0,VJ⟩=VF (.string s))(C:w.cell? ⟨p,0,VJ⟩=VF (Iv c))(E:w.cell? ⟨bw,0,VJ⟩=VF (.string wd))(L:s.size<=100)(v:wd.size<=100):Wy Pz 98 #[ϖ l,Iv ((i:Int)+1),Iv ((k:Int)+1),ϖ q,ϖ p,ϖ bw] w λe w'=>e=.returned (Iv (uO o h j c (s[k]==63) (wd[i]==s[k])))/\∃n,w'=w.drewN n:=by(have Y:((i:Int)+1==0)=Vo:=by rfl);(have Z:((k:Int)+1==0)=Vo:=by rfl);have U:VV.i64.wrap (i:Int)=i:=IntWalk.i64_in _ Ω;have V:VV.i64.wrap (k:Int)=k:=IntWalk.i64_in _ Ω;have W:VV.i64.wrap ((h:Int)+1)=h+1:=IntWalk.i64_in _ Ω;have X:VV.i64.wrap ((j:Int)+1)=j+1:=IntWalk.i64_in _ Ω;(have M:((i:Int)+1).toNat=i+1:=by omega);(have N:((k:Int)+1).toNat=k+1:=by omega);(have O:(i:Int)<7:=by omega);(have P:(k:Int)<7:=by omega);(have Q:(i:Int)+1<7:=by omega);(have R:(k:Int)+1<7:=by omega);(have S:0<=(k:Int)+1:=by omega);(have T:0<=(i:Int)+1:=by omega);by_cases f:s[k]=63;{(have x:((s.extract k (k+1)).toList==[63])=VG:=by rw[H3 s k r,f];rfl);have H:=hQz f;clear f;go_enter func98,ntmps98;go_wp2;go_quiet(fail);go_wp2;go_ret;exact⟨by simp[uO,H.out],_,rfl⟩};(have x:((s.extract k (k+1)).toList==[63])=Vo:=by rw[H3 s k r];simp_all);have H:=hQz f;clear f;by_cases g:wd[i]=s[k];{(have y:((wd[i].toNat:Int)!=(s[k].toNat:Int))=Vo:=by grind);have m:=hQz g;clear g;go_enter func98,ntmps98;go_wp2;go_quiet(fail);go_wp2;go_quiet(fail);go_wp2;go_ret;exact⟨by simp[uO,H.out,m.out],by simp[VH.drewN_drewN];grind⟩};(have y:((wd[i].toNat:Int)!=(s[k].toNat:Int))=VG:=by rw[bne_iff_ne];intro e;exact g (UInt8.toNat_inj.1 Ω));have m:=hQz g;clear g;go_enter func98,ntmps98;go_wp2;go_quiet(fail);go_wp2;go_quiet(fail);go_wp2;go_ret;exact⟨by simp[uO,H.out,m.out],by simp[VH.drewN_drewN];grind⟩
def bt(s:ByteArray)(k:Nat):UInt8:=s.data.getD k 0
theorem LP(s:ByteArray)(k:Nat)(h:k<s.size):s[k]=bt s k:=by unfold bt;rw[Tp,Tt (by simpa using h)];rfl
def xY(n a b cost:Nat)(un same:Bool):Nat:=min (min (if un=VG then n+cost else if same=VG then n else n+1) (a+1)) (b+1)
theorem IF(n a b c:Nat)(e d:Bool):uO n a b c e d=(xY n a b c e d:Nat):=by unfold uO xY Q8;grind
def P5(wd s:ByteArray)(cost i:Nat)(p:Nat->Nat):Nat->Nat
 |0=>i+1
 |k+1=>xY (p k) (p (k+1)) (P5 wd s cost i p k) cost (bt s k==63) (bt wd i==bt s k)
def dp(wd s:ByteArray)(cost:Nat):Nat->Nat->Nat
 |0=>λk=>k
 |i+1=>P5 wd s cost i (dp wd s cost i)
theorem EG(n a b c:Nat)(e d:Bool):xY n a b c e d<=b+1:=Nat.min_le_right _ _
theorem Is(wd s:ByteArray)(a k:Nat):dp wd s a 0 k=k:=rfl
theorem NW(wd s:ByteArray)(a i:Nat):dp wd s a i 0=i:=by cases i<;>rfl
theorem BC(wd s:ByteArray)(a i k:Nat):dp wd s a (i+1) (k+1)=xY (dp wd s a i k) (dp wd s a i (k+1)) (dp wd s a (i+1) k) a (bt s k==63) (bt wd i==bt s k):=rfl
theorem ED(wd s:ByteArray)(a i k:Nat):dp wd s a i k<=i+k:=by induction k with|zero=>rw[NW];omega|succ k b=>cases i with|zero=>rw[Is];omega|succ i=>rw[BC];have:=EG (dp wd s a i k) (dp wd s a i (k+1)) (dp wd s a (i+1) k) a (bt s k==63) (bt wd i==bt s k);omega
structure gM(bg:Nat)(f:Nat->Nat->Nat)(C i k:Nat)(w0 w':VH):Prop where
 known:∀a b,b<C->(a<i\/(a=i/\b<k))->w'.cell? ⟨bg,a*7+b,VJ⟩=VF (Iv (f a b))
 cell:∀o,o<49->∃n:Int,w'.cell? ⟨bg,o,VJ⟩=VF (Iv n)/\w'.frozen? ⟨bg,o,VJ⟩=Vo
 other:∀k,k≠bg->w'.heap[k]?=w0.heap[k]?
 size:w'.heap.size=w0.heap.size
 os:w'.os=w0.os
 tape:w'.tape=w0.tape
 output:w'.output=w0.output
theorem gM.drewN(h:gM bg f C i k w0 w')(n:Nat):gM bg f C i k w0 (w'.drewN n):=⟨λa b x y=>by simpa using h.known a b x y,λo c=>by simpa using h.cell o c,h.other,h.size,h.os,h.tape,h.output⟩
theorem gM.set(h:gM bg f C i k w0 w')(v:i<7)(w:k<7)(t:C<=7):gM bg f C i (k+1) w0 (w'.setCell ⟨bg,i*7+k,VJ⟩ (Iv (f i k))):=by(have c:i*7+k<49:=by omega);obtain⟨n,g,u⟩:=h.cell _ c;refine⟨λa b p l=>?_,λo s=>?_,λj d=>?_,by simpa using h.size,h.os,h.tape,h.output⟩;{by_cases e:a*7+b=i*7+k;{(obtain⟨rfl,rfl⟩:a=i/\b=k:=by omega);apply VH.cell?_setCell_same;exact g};rw[VH.cell?_setCell_other];{exact h.known a b p Ω};simp};{obtain⟨m,q,r⟩:=h.cell o s;by_cases e:o=i*7+k;{subst e;refine⟨((f i k:Nat)),?_,by simp_all⟩;apply VH.cell?_setCell_same;exact g};refine⟨m,?_,by simp_all⟩;rw[VH.cell?_setCell_other];{exact q};simp};rw[<-h.other j d];exact Below.heap_setCell _ _ _ _ d
theorem gM.row(h:gM bg f C i k w0 w')(e:C<=k):gM bg f C (i+1) 0 w0 w':=⟨λa b d c=>h.known a b d Ω,h.cell,h.other,h.size,h.os,h.tape,h.output⟩
theorem cell_of_block{o:Nat}(h:w'.heap[b]?=w.heap[b]?):w'.cell? ⟨b,o,VJ⟩=w.cell? ⟨b,o,VJ⟩:=VH.cell?_of_block h
theorem JH{bl bc bw:Nat}{s wd:ByteArray}{cost:Nat}{wr:VH}(l:cost<=1)(y:s.size<=6)(m:wd.size<=6)(a:gM bg (dp wd s cost) (s.size+1) i k w wr)(g:w.cell? ⟨bl,0,VJ⟩=VF (.string s))(f:w.cell? ⟨bc,0,VJ⟩=VF (Iv cost))(j:w.cell? ⟨bw,0,VJ⟩=VF (.string wd))(p:bl≠bg)(o:bc≠bg)(q:bw≠bg)(v:i<=wd.size)(x:k<=s.size):Wy Pz 98 #[ϖ bg,Iv (i:Nat),Iv (k:Nat),ϖ bl,ϖ bc,ϖ bw] wr λe w'=>e=.returned (Iv (dp wd s cost i k:Nat))/\∃n,w'=wr.drewN n:=by rcases i with _|i;{exact(DX _ _ _ _ _ _).mono λe w'⟨b,c⟩=>⟨b,0,c⟩};rcases k with _|k;{exact(FU _ Ω _ _ _ _ _).mono λe w'⟨b,c⟩=>⟨b,0,c⟩};have r:=a.known i k Ω Ω;have t:=a.known i (k+1) Ω Ω;have u:=a.known (i+1) k Ω Ω;have z:=ED wd s cost i k;have A:=ED wd s cost i (k+1);have B:=ED wd s cost (i+1) k;have:=FQ bg bl bc bw s wd cost _ _ _ i k wr Ω Ω Ω Ω l Ω Ω Ω r t u ((cell_of_block (a.other bl p)).trans g) ((cell_of_block (a.other bc o)).trans f) ((cell_of_block (a.other bw q)).trans j) Ω Ω;refine this.mono λe w' h=>?_;obtain⟨b,c⟩:=h;refine⟨?_,c⟩;rw[b,IF,BC,LP s k Ω,LP wd i Ω]
set_option maxHeartbeats 8000000 in theorem EI(f p o bw:Nat)(s wd:ByteArray)(a:Nat)(w:VH)(E:a<=1)(I:s.size<=6)(u:wd.size<=6)(O:gM f (dp wd s a) (s.size+1) 0 0 w w)(A:w.cell? ⟨p,0,VJ⟩=VF (.string s))(z:w.cell? ⟨o,0,VJ⟩=VF (Iv a))(B:w.cell? ⟨bw,0,VJ⟩=VF (.string wd))(K:p≠f)(J:o≠f)(L:bw≠f):Wy Pz 99 #[ϖ f,Iv ((wd.size:Int)+1),Iv ((s.size:Int)+1),.func (.func 98) #[] #[ϖ p,ϖ o,ϖ bw]] w λe w'=>e=.returned (.tuple #[])/\gM f (dp wd s a) (s.size+1) (wd.size+1) 0 w w':=by go_enter func99,ntmps99;go_wp2;go_loopw[11](λt wr=>∃i:Nat,i<=wd.size+1/\t=Iv i/\gM f (dp wd s a) (s.size+1) i 0 w wr)(λt _=>wd.size+1-(intOf t).toNat);(case atStart=>grind);case round=>obtain⟨i,P,rfl,q⟩:=hrel;by_cases H:i<wd.size+1;{(have N:decide ((i:Int)<(wd.size:Int)+1)=VG:=by simp;omega);go_wp2;go_loopw[15](λt y=>∃k:Nat,k<=s.size+1/\t=Iv k/\gM f (dp wd s a) (s.size+1) i k w y)(λt _=>s.size+1-(intOf t).toNat);(case atStart=>grind);case round=>obtain⟨k,Q,rfl,b⟩:=hrel;clear q;by_cases G:k<s.size+1;{obtain⟨n,r,F⟩:=b.cell (i*7+k) Ω;have C:∀n,Wy Pz 98 #[ϖ f,Iv (i:Nat),Iv (k:Nat),ϖ p,ϖ o,ϖ bw] (wr.drewN n) λe M=>e=.returned (Iv (dp wd s a i k:Nat))/\∃m,M=(wr.drewN n).drewN m:=λn=>JH E I u (b.drewN n) A z B K J L Ω Ω;have D:=hQz C;have j:=hQz b;clear C b A z B;(have R:(i:Int)<7:=by omega);(have S:(k:Int)<7:=by omega);go_wp2;go_region_held3(λ_=>True)(trivial)(first|(go_at_call 98;refine(D.out _).mono ?_;rintro e w'⟨rfl,m,rfl⟩));all_goals go_wp2;go_roundw;(case rel=>exact⟨k+1,by omega,by go_num,(j.out.drewN _).set Ω Ω Ω⟩);case measure=>simp[intOf];omega};have j:=hQz b;clear b;go_wp2;go_roundw;(case rel=>exact⟨i+1,by omega,by go_num,j.out.row Ω⟩);case measure=>simp[intOf];omega};(obtain rfl:i=wd.size+1:=by omega);have j:=hQz q;clear q;go_wp2;go_end0;exact⟨rfl,j.out⟩
end
section
attribute[local go_sem↓]Go.wp_at_zero Go.wp_at_succ
theorem gM.start{W:VH}(h:W.heap[bg]?=VF (.cells (Array.replicate 49 (Iv 0)) 146)):gM bg f C 0 0 W W:=by refine⟨λa b _ c=>by omega,λo d=>⟨0,?_,?_⟩,λ_ _=>rfl,rfl,rfl,rfl,rfl⟩;{simp[VH.cell?,h,d]};simp[VH.frozen?,h]
def uq(w:VH)(wd s:ByteArray)(cost:Nat):VH:=(((w.alloc (.cells #[.string wd] 9)).alloc (.cells #[.string s] 9)).alloc (.cells #[Iv cost] 3)).alloc (.cells (Array.replicate 49 (Iv 0)) 146)
theorem yh(w:VH)(wd s:ByteArray)(a:Nat):(uq w wd s a).heap[w.heap.size]?=VF (.cells #[.string wd] 9)/\(uq w wd s a).heap[w.heap.size+1]?=VF (.cells #[.string s] 9)/\(uq w wd s a).heap[w.heap.size+1+1]?=VF (.cells #[Iv a] 3)/\(uq w wd s a).heap[w.heap.size+1+1+1]?=VF (.cells (Array.replicate 49 (Iv 0)) 146)/\Below w.heap.size w (uq w wd s a):=by have e:(uq w wd s a).heap=(((w.heap.push (.cells #[.string wd] 9)).push (.cells #[.string s] 9)).push (.cells #[Iv a] 3)).push (.cells (Array.replicate 49 (Iv 0)) 146):=rfl;refine⟨?_,?_,?_,?_,⟨rfl,rfl,rfl,by grind,λk b=>?_⟩⟩;{grind};{grind};{grind};{grind};grind
theorem cell1{v:VI}{t:TypeId}(h:w.heap[b]?=VF (.cells #[v] t)):w.cell? ⟨b,0,VJ⟩=VF v:=by simp[VH.cell?,h]
theorem gM.below{B bg C i k:Nat}{f:Nat->Nat->Nat}{a w0 w':VH}(h:gM bg f C i k w0 w')(b:Below B a w0)(d:B<=bg):Below B a w':=⟨h.os.trans b.os,h.tape.trans b.tape,h.output.trans b.output,by have:=b.size;have:=h.size;omega,λk c=>(h.other k Ω).trans (b.block k c)⟩
set_option maxHeartbeats 8000000 in theorem oF(wd s:ByteArray)(a:Nat)(w:VH)(q:a<=1)(r:s.size<=6)(h:wd.size<=6):Wy Pz 62 #[.string wd,.string s,Iv a] w λe w'=>e=.returned (Iv (dp wd s a wd.size s.size:Nat))/\Below w.heap.size w w':=by obtain⟨f,g,i,j,k⟩:=yh w wd s a;have o:=hQz (EI (w.heap.size+1+1+1) (w.heap.size+1) (w.heap.size+1+1) w.heap.size s wd a _ q r h (gM.start j) (cell1 g) (cell1 i) (cell1 f) Ω Ω Ω);have l:=hQz f;have m:=hQz g;have n:=hQz k;clear f g i j k;(have x:(wd.size:Int)<7:=by omega);(have y:(s.size:Int)<7:=by omega);go_enter func62,ntmps62;go_wp2_with(go_at_call 99;refine(o.out).mono ?_;rintro e w'⟨rfl,d⟩);have t:w'.cell? ⟨w.heap.size,0,VJ⟩=VF (.string wd):=(cell_of_block (d.other _ Ω)).trans (cell1 l.out);have u:w'.cell? ⟨w.heap.size+1,0,VJ⟩=VF (.string s):=(cell_of_block (d.other _ Ω)).trans (cell1 m.out);have v:=d.known wd.size s.size Ω Ω;have p:=hQz (d.below n.out Ω);clear d;go_quiet(fail);go_wp2;go_ret;exact⟨rfl,p.out.trans ⟨rfl,rfl,rfl,Ti _,λ_ _=>rfl⟩⟩
end
end Go.Proofs
namespace Go.Proofs
open Go.Shelf
def Tryz.yr:Go.Shelf.Ren:=⟨λ|143=>124|219=>159|217=>178|225=>179|224=>180|267=>181|266=>193|314=>194|n=>n,λ|9=>9|3=>3|4=>4|5=>5|46=>179|146=>241|51=>155|n=>n,λ|1=>0|n=>n⟩
theorem Tryz.Kr:Go.Proofs.Lays.n143 Pz Tryz.yr:={
 mixed:=Ψ
 f143:=func124.trans (congrArg VF Ψ)
 f217:=func178.trans (congrArg VF Ψ)
 f219:=func159.trans (congrArg VF Ψ)
 f224:=func180.trans (congrArg VF Ψ)
 f225:=func179.trans (congrArg VF Ψ)
 f266:=func193.trans (congrArg VF Ψ)
 f267:=func181.trans (congrArg VF Ψ)
 f314:=func194.trans (congrArg VF Ψ)
 t3:=underlying3
 a3:=isAgg3
 z3:=sizeOf3
 v3:=zeroValue3
 t4:=underlying4
 a4:=isAgg4
 z4:=sizeOf4
 v4:=zeroValue4
 t5:=underlying5
 a5:=isAgg5
 z5:=sizeOf5
 v5:=zeroValue5
 t9:=underlying9
 a9:=isAgg9
 z9:=sizeOf9
 v9:=zeroValue9
 t46:=underlying179
 a46:=isAgg179
 z46:=sizeOf179
 v46:=zeroValue179
 t51:=underlying155
 a51:=isAgg155
 z51:=sizeOf155
 v51:=zeroValue155
 t146:=underlying241
 a146:=isAgg241
 z146:=sizeOf241
 v146:=zeroValue241
 g1:=by kernel_rfl}
open Go.RowKit Go.Lib in theorem Tryz.strings_Index_one(s:ByteArray)(c:UInt8)(w:VH):Wy Pz 124 #[.string s,.string ⟨#[c]⟩] w λe w'=>e=.returned (Iv (Lib.indexByte s.data.toList c))/\w'=w:=Any.strings_Index_one Tryz.Kr s c w
open Go.RowKit Go.Lib in
def Tryz.yu:Go.Shelf.Ren:=⟨λ|144=>114|143=>124|219=>159|217=>178|225=>179|224=>180|267=>181|266=>193|314=>194|n=>n,λ|9=>9|4=>4|3=>3|5=>5|46=>179|146=>241|51=>155|n=>n,λ|1=>0|n=>n⟩
theorem Tryz.Kv:Go.Proofs.Lays.n144 Pz Tryz.yu:={
 mixed:=Ψ
 f143:=func124.trans (congrArg VF Ψ)
 f144:=func114.trans (congrArg VF Ψ)
 f217:=func178.trans (congrArg VF Ψ)
 f219:=func159.trans (congrArg VF Ψ)
 f224:=func180.trans (congrArg VF Ψ)
 f225:=func179.trans (congrArg VF Ψ)
 f266:=func193.trans (congrArg VF Ψ)
 f267:=func181.trans (congrArg VF Ψ)
 f314:=func194.trans (congrArg VF Ψ)
 t3:=underlying3
 a3:=isAgg3
 z3:=sizeOf3
 v3:=zeroValue3
 t4:=underlying4
 a4:=isAgg4
 z4:=sizeOf4
 v4:=zeroValue4
 t5:=underlying5
 a5:=isAgg5
 z5:=sizeOf5
 v5:=zeroValue5
 t9:=underlying9
 a9:=isAgg9
 z9:=sizeOf9
 v9:=zeroValue9
 t46:=underlying179
 a46:=isAgg179
 z46:=sizeOf179
 v46:=zeroValue179
 t51:=underlying155
 a51:=isAgg155
 z51:=sizeOf155
 v51:=zeroValue155
 t146:=underlying241
 a146:=isAgg241
 z146:=sizeOf241
 v146:=zeroValue241
 g1:=by kernel_rfl}
open Go.RowKit Go.Lib in theorem Tryz.strings_Contains_one(s:ByteArray)(c:UInt8)(w:VH):Wy Pz 114 #[.string s,.string ⟨#[c]⟩] w λe w'=>e=.returned (.bool (decide (0<=Lib.indexByte s.data.toList c)))/\w'=w:=Any.strings_Contains_one Tryz.Kv s c w
open Go.RowKit Go.Lib in
def Tryz.yw:Go.Shelf.Ren:=⟨λ|138=>97|195=>122|218=>123|143=>124|219=>159|217=>178|225=>179|224=>180|267=>181|266=>193|314=>194|n=>n,λ|9=>9|3=>3|4=>4|5=>5|0=>0|46=>179|146=>241|51=>155|n=>n,λ|1=>0|n=>n⟩
theorem Tryz.JK:Go.Proofs.Lays.n138 Pz Tryz.yw:={
 mixed:=Ψ
 f138:=func97.trans (congrArg VF Ψ)
 f143:=func124.trans (congrArg VF Ψ)
 f195:=func122.trans (congrArg VF Ψ)
 f217:=func178.trans (congrArg VF Ψ)
 f218:=func123.trans (congrArg VF Ψ)
 f219:=func159.trans (congrArg VF Ψ)
 f224:=func180.trans (congrArg VF Ψ)
 f225:=func179.trans (congrArg VF Ψ)
 f266:=func193.trans (congrArg VF Ψ)
 f267:=func181.trans (congrArg VF Ψ)
 f314:=func194.trans (congrArg VF Ψ)
 t0:=underlying0
 a0:=isAgg0
 z0:=sizeOf0
 v0:=zeroValue0
 t3:=underlying3
 a3:=isAgg3
 z3:=sizeOf3
 v3:=zeroValue3
 t4:=underlying4
 a4:=isAgg4
 z4:=sizeOf4
 v4:=zeroValue4
 t5:=underlying5
 a5:=isAgg5
 z5:=sizeOf5
 v5:=zeroValue5
 t9:=underlying9
 a9:=isAgg9
 z9:=sizeOf9
 v9:=zeroValue9
 t46:=underlying179
 a46:=isAgg179
 z46:=sizeOf179
 v46:=zeroValue179
 t51:=underlying155
 a51:=isAgg155
 z51:=sizeOf155
 v51:=zeroValue155
 t146:=underlying241
 a146:=isAgg241
 z146:=sizeOf241
 v146:=zeroValue241
 g1:=by kernel_rfl}
open Go.RowKit Go.Lib in theorem Tryz.strings_Count_one(s:ByteArray)(c:UInt8)(w:VH):Wy Pz 97 #[.string s,.string ⟨#[c]⟩] w λe w'=>e=.returned (Iv (Lib.countByte s.data.toList c))/\w'=w:=Any.strings_Count_one Tryz.JK s c w
open Go.RowKit Go.Lib in
def Tryz.yY:Go.Shelf.Ren:=⟨λ|107=>105|108=>125|n=>n,λ|28=>33|3=>3|4=>4|0=>0|n=>n,λ|n=>n⟩
theorem Tryz.Kl:Go.Proofs.Lays.n107 Pz Tryz.yY:={
 mixed:=Ψ
 f107:=func105.trans (congrArg VF Ψ)
 f108:=func125.trans (congrArg VF Ψ)
 t0:=underlying0
 a0:=isAgg0
 z0:=sizeOf0
 v0:=zeroValue0
 t3:=underlying3
 a3:=isAgg3
 z3:=sizeOf3
 v3:=zeroValue3
 t4:=underlying4
 a4:=isAgg4
 z4:=sizeOf4
 v4:=zeroValue4
 t28:=underlying33
 a28:=isAgg33
 z28:=sizeOf33
 v28:=zeroValue33}
open Go.Lib in theorem Tryz.slices_Contains_int(b off n c:Nat)(f:List Int)(x:Int)(w:VH)(i:n<=f.length)(d:n<=9223372036854775807)(h:∀j,j<f.length->w.cell? ⟨b,off+j,VJ⟩=VF (Iv (f.getD j 0))):Wy Pz 105 #[.slice (VF ⟨b,off,VJ⟩) n c,Iv x] w λe w'=>e=.returned (.bool ((f.take n).contains x))/\w'=w:=Any.slices_Contains_int Tryz.Kl b off n c f x w i d h
end Go.Proofs
