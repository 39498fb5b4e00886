/- A part of the proof that PortOnly holds for every input. Conditions: none. -/
import Derived.Test.YtobmepfondcekaaGreatDoorZ8
import Derived.Tactics
import Derived.Tactics2
import Derived.WalkKit
import Derived.WalkSpells
import Derived.StillTactics
import Derived.Laws.Pointers
import Derived.Deep.RegionHeld3
import Derived.Deep.QuietTactic
import Derived.BigQuiet
import Derived.Deep.DeepCutAuto
import Derived.Deep.DrawnRows
import Derived.Lib.Hide
import Derived.Below
import Derived.LoopTactic
import Derived.StillTailTactics
import Derived.IntWalk
import Derived.Lib.Strings
import Derived.Laws.Cover1
import Derived.Shelf.Strings.Search3
import Derived.Shelf.Strings.Count
import Derived.Shelf.Slices.Turned
import Derived.Shelf.LaysM
import Derived.Ground.Names2Prog
import Derived.Shelf.Small.Bits
import Derived.Laws.RangeAny
import Derived.Carry
import Derived.OwnWalk
set_option linter.all false
open Go.Lib renaming hid->hQz
open Go.Proofs.Tryz renaming prog->Pz
open Go renaming Calls->Vt,FuncId->Va,IntKind->U1,TypeId->U8,Value->UO,World->UL
open Bool renaming false->Ul,true->UJ
open Option renaming none->UM,some->UG
open Go.Proofs.Tryz
namespace Go.Me
open Go.Proofs Go.Conc Go.Mx Go.Rk Go.Cr Go.Pw Go.Lw
open Go.ConcR(KK WgAt stA smA rd wr mk)
section
variable{C:Cx}{i j:Nat}{FR:UL->Prop}
theorem BL{F:Int->ByteArray->Fd}(hW:Wc C FR F){A:Int->ByteArray->Int×Int}{a:Int}{s:ByteArray}{pm bp bm bw:Nat}{NS:UO}{inW:Nat->Bool}(hNS:C.pre[0]?=UG NS)(hIn:Li C i j FR NS inW)(hLk:cE C FR i j 75 f75 #[ϖ C.mu,sk a s] (fv (F a s)))(R:∀p,p<s.size->s.data.getD p 0=63->∀c:Nat,97<=c->c<=122->pO C FR i j A pm bp bm bw a (aeb s p c))(h6:s.size<=6)(S:∀p(hp:p<s.size),(s[p]'hp).toNat<128)(Y:(F a s).1≠0->A a s=(-1,0))(Z:(F a s).1=0->A a s=nR (A a) s (pZ inW 26 97 Ul) s.size 0 (-1,0)):pO C FR i j A pm bp bm bw a s:=by intro I v E U L T cs hM hH V;have hP:=hW.P;have hS:Sl 80 [(0,sk a s),(1,ϖ bp),(2,ϖ bm),(3,ϖ bw)] (#[sk a s,ϖ bp,ϖ bm,ϖ bw]++Array.replicate (f77.ntmps-(#[sk a s,ϖ bp,ϖ bm,ϖ bw]:Array UO).size) undef):=.all;generalize(#[sk a s,ϖ bp,ϖ bm,ϖ bw]++Array.replicate (f77.ntmps-(#[sk a s,ϖ bp,ϖ bm,ϖ bw]:Array UO).size) undef)=t at hS⊢;show ag C i j .free I (G (fx [] UM 77 t (cA aG 1)) _) v;have hsub:∀k,I k->I k:=λ_ h=>h;refine r2 (n:=10) [0,0,4,2] (λK B=>[.cells #[Iv a,.string s] 112,.cells #[Iv 0,Iv 0] 117]) [] (rA aG 12 [2,3,4]) (λK B=>[(13,sk a s),(12,ϖ C.mu),(1,ϖ bp),(2,ϖ bm),(3,ϖ bw),(4,ϖ K),(5,ϖ B)]) λK B t H m hS hsub hH=>?_;refine rc 14 (hLk _ _ _ _ _ hH) λown2 m hS hsub hH=>?_;by_cases W:(F a s).1=0;{refine r0 (O:=[(16,ob ((F a s).1 !=0) Ul (by simpa using W))]) (n:=10) [5,2] [] (rA aG 28 [2,3,4,5,6,7,8]) [(20,sk a s),(19,.map (UG pm)),(1,ϖ bp),(2,ϖ bm),(3,ϖ bw),(4,ϖ K),(5,ϖ B)] λt m hS hH=>?_;refine DW (k:=2) (y:=.tmp 19) (z:=.tmp 20) (A:=A) (a:=a) (s:=s) (d:=21) hP hW.steady rfl hH rfl hM hS (o:=opn (aR (sb aG 28)) 2) Ψ Ψ Ψ Ψ (hS.gN 19 rfl) (hS.gN 20 rfl) (λok x m hx hH=>?_);replace hS:=hS.pt (d:=21) (v:=.tuple #[pv x,.bool ok]);refine r1 (n:=4) [0] (λQ=>[.cells #[Iv 0,Iv 0] 117]) [] (rA aG 28 [7,8]) (λQ=>[(6,ϖ Q),(1,ϖ bp),(2,ϖ bm),(3,ϖ bw),(4,ϖ K),(5,ϖ B),(22,pv x),(23,.bool ok)]) λQ t H m hS hsub hH=>?_;refine dB (k:=0) (ty:=117) (n:=2) (y:=.tmp 6) (z:=.tmp 22) hW.steady rfl hH rfl hS Ψ Ψ Ψ Ψ (hS.gN 6 rfl) (hS.gN 22 rfl) rfl (yq _ _) rfl (by rw[hP];exact sizeOf117) (λw E=>by simp) (λm u hH=>?_);clear u;cases ok;{refine r1 (n:=12) [0] (λN=>[.cells #[Iv 0,Iv 0] 117]) [] (rA aG 30 [2]) (λN=>[(8,ϖ N),(1,ϖ bp),(2,ϖ bm),(3,ϖ bw),(4,ϖ K),(5,ϖ B),(26,.agg #[Iv (-1),Iv 0])]) λN t H m hS hsub hH=>?_;refine dB (k:=0) (ty:=117) (n:=2) (y:=.tmp 8) (z:=.tmp 26) hW.steady rfl hH rfl hS Ψ Ψ Ψ Ψ (hS.gN 8 rfl) (hS.gN 26 rfl) rfl (yq _ _) rfl (by rw[hP];exact sizeOf117) (λw E=>by simp) (λm u hH=>?_);clear u;refine r1 (n:=10) [4,0] (λP=>[.stringIter s 0]) [] (cA aG 500) (λP=>[(1,ϖ bp),(2,ϖ bm),(3,ϖ bw),(4,ϖ K),(5,ϖ B),(8,ϖ N),(29,ϖ P)]) λP t H m hS hsub hH=>?_;refine ab hW hNS hIn R h6 S (ownA:=I) (x3:=x) s.size 0 (-1,0) [] E U H m t Ω hsub hM hS hH (λown3 m t D E U hsub hM hS hH=>?_);rw[<-Z W]at hH;refine r0 (n:=4) [8,5,2] [] (rA aG 126 [3]) [(78,.agg #[Iv (A a s).1,Iv (A a s).2]),(77,sk a s),(76,.map (UG pm)),(1,ϖ bp),(2,ϖ bm),(3,ϖ bw),(4,ϖ K),(5,ϖ B),(8,ϖ N),(29,ϖ P)] λt m hS hH=>?_;refine AV (k:=5) (y:=.tmp 76) (z:=.tmp 77) (r:=.tmp 78) (A:=A) (a:=a) (s:=s) hP hW.steady rfl hH rfl hM hS Ψ Ψ Ψ Ψ (hS.gN 76 rfl) (hS.gN 77 rfl) (hS.gN 78 rfl) (λm E U hM hH=>?_);refine r0 (n:=4) [2] [] (rA aG 254 [1]) [(79,.agg #[Iv (A a s).1,Iv (A a s).2]),(1,ϖ bp),(2,ϖ bm),(3,ϖ bw),(4,ϖ K),(5,ϖ B),(8,ϖ N),(29,ϖ P)] λt m hS hH=>?_;refine dB (k:=3) (ty:=117) (n:=2) (y:=.tmp 5) (z:=.tmp 79) hW.steady rfl hH rfl hS Ψ Ψ Ψ Ψ (hS.gN 5 rfl) (hS.gN 79 rfl) rfl (yq _ _) rfl (by rw[hP];exact sizeOf117) (λw E=>by simp) (λm u hH=>?_);clear u;refine aP 1 (cA aG 255) [(5,ϖ B)] hP hS λt hS=>?_;refine oF ?_;refine Ce (X:=[(P,.stringIter s s.size),(N,.cells #[Iv (A a s).1,Iv (A a s).2] 117),(Q,.cells #[Iv x.1,Iv x.2] 117),(B,.cells #[Iv (A a s).1,Iv (A a s).2] 117),(K,.cells #[Iv a,.string s] 112),(pm,.map E U),(bp,.cells #[ϖ C.mu] 100),(bm,.cells #[.map (UG pm)] 114),(bw,.cells #[.func (.func 77) #[] #[ϖ bp,ϖ bm,ϖ bw]] 115)]) (L:=L) hW.steady rfl D _ hH (λm hH=>?_);refine oD (k:=3) (s:=5) (ty:=117) hW.steady rfl (fn:=f77) (by rw[hP];exact func77) rfl (hS.gN 5 rfl) (by rw[hP];exact isAgg117) (by rw[hP];exact sizeOf117) (λw E=>by simp) (λw E=>by simp) hH rfl ?_;skip;exact V _ m _ _ hsub hM hH.tail.tail.tail.tail.tail};refine r0 (n:=10) [1] [] (rA aG 236 [1]) [(25,.agg #[Iv x.1,Iv x.2]),(1,ϖ bp),(2,ϖ bm),(3,ϖ bw),(4,ϖ K),(5,ϖ B),(6,ϖ Q)] λt m hS hH=>?_;refine dB (k:=1) (ty:=117) (n:=2) (y:=.tmp 5) (z:=.tmp 25) hW.steady rfl hH rfl hS Ψ Ψ Ψ Ψ (hS.gN 5 rfl) (hS.gN 25 rfl) rfl (yq _ _) rfl (by rw[hP];exact sizeOf117) (λw E=>by simp) (λm u hH=>?_);clear u;refine aP 1 (cA aG 237) [(5,ϖ B)] hP hS λt hS=>?_;refine oF ?_;refine oD (k:=1) (s:=5) (ty:=117) hW.steady rfl (fn:=f77) (by rw[hP];exact func77) rfl (hS.gN 5 rfl) (by rw[hP];exact isAgg117) (by rw[hP];exact sizeOf117) (λw E=>by simp) (λw E=>by simp) hH rfl ?_;have e:=hx rfl;subst e;exact V _ m _ _ hsub hM hH.tail.tail.tail};refine gx 7 [(16,ob ((F a s).1 !=0) UJ (by simpa using W))] (rA aG 52 [1]) [(1,ϖ bp),(2,ϖ bm),(3,ϖ bw),(4,ϖ K),(5,ϖ B),(17,.agg #[Iv (-1),Iv 0])] hS (λt hS=>?_);refine dB (k:=0) (ty:=117) (n:=2) (y:=.tmp 5) (z:=.tmp 17) hW.steady rfl hH rfl hS Ψ Ψ Ψ Ψ (hS.gN 5 rfl) (hS.gN 17 rfl) rfl (yq _ _) rfl (by rw[hP];exact sizeOf117) (λw E=>by simp) (λm u hH=>?_);clear u;refine aP 1 (cA aG 53) [(5,ϖ B)] hP hS λt hS=>?_;refine oF ?_;refine oD (k:=0) (s:=5) (ty:=117) hW.steady rfl (fn:=f77) (by rw[hP];exact func77) rfl (hS.gN 5 rfl) (by rw[hP];exact isAgg117) (by rw[hP];exact sizeOf117) (λw E=>by simp) (λw E=>by simp) hH rfl ?_;have e:=Y W;rw[e]at V;exact V _ m _ _ hsub hM hH.tail.tail
end
end Go.Me
namespace Go.ae
open Go.Proofs
variable{x x':Array UO}
section
variable{P:Program}{c:dG}{r:bC}
theorem ae.loadBytes:∀(n:Nat){r:bC}{a a':Addr}(d:ByteArray),dx c r a a'->ae P c r (Extern.Bytes.loadBytes a n d) (Extern.Bytes.loadBytes a' n d) λ_ x y=>y=x:=by intro n;induction n with|zero=>intro r a a' d _;exact ae.pure rfl|succ n h=>intro r a a' d e;refine ae.bind (ae.load e) λi x j f g=>?_;cases g with|int k m=>(cases k with|u8=>exact h _ ((e.mono f).add 1)|_=>exact ae.stuck)|_=>exact ae.stuck
theorem ae.bytesOf{x x':UO}(h:aj c r x x'):ae P c r (Extern.Bytes.bytesOf x) (Extern.Bytes.bytesOf x') λ_ a b=>b=a:=by cases h with|string s=>exact ae.pure rfl|gP n m=>exact ae.pure rfl|slice n m e=>exact ae.loadBytes _ _ e|dh a f=>exact ae.pure rfl|_=>exact ae.stuck
theorem ae.asByte{x x':UO}(h:aj c r x x'):ae P c r (Extern.Bytes.asByte x) (Extern.Bytes.asByte x') λ_ a b=>b=a:=by cases h with|int k m=>(cases k with|u8=>exact ae.pure rfl|_=>exact ae.stuck)|_=>exact ae.stuck
theorem ak.two(h:ak c r x x'):(∃a b d e,x=#[a,b]/\x'=#[d,e]/\aj c r a d/\aj c r b e)\/(x.size≠2/\x'.size≠2):=by by_cases f:x.size=2;{(have g:x'.size=2:=by rw[<-h.size];exact f);obtain⟨l⟩:=x;obtain⟨i⟩:=x';match l,i,f,g with|[a,b],[d,e],_,_=>exact .inl ⟨a,b,d,e,rfl,rfl,h.el 0 a d rfl rfl,h.el 1 b e rfl rfl⟩};exact .inr ⟨f,by rw[<-h.size];exact f⟩
theorem DN(h:ak c r x x'):ae P c r (Extern.BytealgCount.count x) (Extern.BytealgCount.count x') (aj c):=by rcases h.two with⟨a,b,n,o,rfl,rfl,i,j⟩|⟨f,g⟩;{refine ae.bind (ae.bytesOf i) λq u m k e=>?_;subst e;refine ae.bind (ae.asByte (j.mono k)) λs u m p e=>?_;subst e;exact ae.pure (.int _ _)};(have e:Extern.BytealgCount.count x=stuck "bytealg.Count: two arguments expected" :=by clear h g;obtain⟨l⟩:=x;match l,f with|[],_=>rfl|[_],_=>rfl|[_,_],f=>simp_all|_::_::_::_,_=>rfl);rw[e];exact ae.stuck
theorem uB(h:ak c r x x'):ae P c r (Extern.BytealgIndexByte.indexByte x) (Extern.BytealgIndexByte.indexByte x') (aj c):=by rcases h.two with⟨a,b,m,n,rfl,rfl,i,j⟩|⟨f,g⟩;{refine ae.bind (ae.bytesOf i) λp u s k e=>?_;subst e;refine ae.bind (ae.asByte (j.mono k)) λq w t o e=>?_;subst e;split;{exact ae.pure (.int _ _)};exact ae.pure (.int _ _)};(have e:Extern.BytealgIndexByte.indexByte x=stuck "bytealg.IndexByte: two arguments expected" :=by clear h g;obtain⟨l⟩:=x;match l,f with|[],_=>rfl|[_],_=>rfl|[_,_],f=>simp_all|_::_::_::_,_=>rfl);rw[e];exact ae.stuck
theorem qh(n:String):bQ P (λa=>∃g,g<P.globals.size/\a=⟨g,0,UM⟩) (globalAddr n):=by refine bQ.bind bP λp d=>?_;subst d;cases h:p.globals.findIdx? (·.name==n)with|none=>exact rfl|some g=>obtain⟨b,-⟩:=Array.findIdx?_eq_some_iff_getElem.1 h;exact⟨g,b,rfl⟩
theorem ae.maxLen(e:Fits P c):ae P c r Extern.BytealgIndex.maxLen Extern.BytealgIndex.maxLen λ_ a b=>b=a:=by refine ae.bind (ae.fA (qh _)) λm a j k f=>?_;obtain⟨rfl,g,h,rfl⟩:=f;exact ae.bind (ae.EM e (by rw[e.aJ];exact h) 0) λn x o l i=>ae.asInt i
theorem wI(k:Fits P c)(h:ak c r x x'):ae P c r (Extern.BytealgIndex.index x) (Extern.BytealgIndex.index x') (aj c):=by rcases h.two with⟨a,b,o,p,rfl,rfl,i,j⟩|⟨f,g⟩;{refine ae.bind (ae.bytesOf i) λv u A n e=>?_;subst e;refine ae.bind (ae.bytesOf (j.mono n)) λy w B q e=>?_;subst e;refine ae.bind (ae.maxLen k) λz m t s e=>?_;subst e;simp only[];split;{exact ae.never (gB eW)};split;{exact ae.never (gB eW)};split;{exact ae.pure (.int _ _)};exact ae.pure (.int _ _)};(have e:Extern.BytealgIndex.index x=stuck "bytealg.Index: two arguments expected" :=by clear h g;obtain⟨l⟩:=x;match l,f with|[],_=>rfl|[_],_=>rfl|[_,_],f=>simp_all|_::_::_::_,_=>rfl);rw[e];exact ae.stuck
end
def Lo:List Va:=[28,31,35,37,46,48,57,59,74,76,79,93,110,18,20,21,22,23,24,25,26,29,36,38,39,40,41,42,43,44,45,47,49,51,53,54,55,56,60,61,62,63,64,65,66,67,68,69,70,71,72,78,80,81,82,83,84,85,87,88,89,90,91,92,94,95,96,97,98,99,100,101,102,103,104,105,111,114,116,117,118,119,120,121,122,123,124,125,147,148,149,150,151,152,153,154,155,156,157,158,159,173,174,175,176,177,178,179,180,181,192,193,194]
def bS(f:Va):Bool:=Lo.contains f
noncomputable def Ci(c:dG)(f:Va):Bool:=match Pz.funcs[f]? with
 |some fn=>!(fn.name== "runtime.NumGoroutine")&&(match fn.body with
   |none=>f==123||f==179||f==193
   |some b=>codeOk Pz c (λ_=>Ul) b)
 |none=>Ul
theorem y9(ws:List fQ):Lo.all (Ci (dw Pz bS ws))=UJ:=Ψ
theorem My:Extern.findNext f123=UM:=Ψ
theorem Nf:Extern.find f123=UG Extern.BytealgCount.count:=Ψ
theorem Nx:Extern.findNext f179=UM:=Ψ
theorem L6:Extern.find f179=UG Extern.BytealgIndex.index:=Ψ
theorem Nj:Extern.findNext f193=UM:=Ψ
theorem NL:Extern.find f193=UG Extern.BytealgIndexByte.indexByte:=Ψ
theorem rM:Pz.info? vY=UM:=Ψ
theorem Ln(ws:List fQ):Fits Pz (dw Pz bS ws):=⟨rfl,rM,λg b=>if_pos b⟩
theorem eF(ws:List fQ):Listed Pz (dw Pz bS ws) λ_=>Ul:=by have d:=y9 ws;rw[S7]at d;have j:∀(f:Va)(e:Func),bS f=UJ->Pz.funcs[f]?=UG e->Ci (dw Pz bS ws) f=UJ:=λf e h _=>d f (List.contains_iff_mem.1 h);refine⟨Ln ws,(λg h=>by cases h),λf e h c=>?_,λf e h c=>?_⟩;{have:=j f e h c;unfold Ci at this;rw[c]at this;simp only[Qaa,Bool.not_eq_true']at this;refine⟨this.1,λk=>?_⟩;have i:=this.2;rw[k]at i;simp only[Tz,beq_iff_eq]at i;rcases i with(rfl|rfl)|rfl;{rw[func123]at c;cases c;exact⟨My,_,Nf,λr x l h=>DN h⟩};{rw[func179]at c;cases c;exact⟨Nx,_,L6,λr x l h=>wI (Ln ws) h⟩};rw[func193]at c;cases c;exact⟨Nj,_,NL,λr x l h=>uB h⟩};have:=j f e h c;unfold Ci at this;rw[c]at this;simp only[Qaa]at this;have i:=this.2;cases k:e.body with|none=>simp|some b=>simp_all
end Go.ae
namespace Go.Proofs
open Go.RowKit
variable{bg C i k b:Nat}{f:Nat->Nat->Nat}{w0 w' w:UL}
section
attribute[local go_sem↓]Go.wp_at_zero Go.wp_at_succ
theorem iB(n a b:Int)(w:UL):Vt Pz 81 #[Iv n,Iv a,Iv b] w λe w'=>e=.returned (.bool (decide (a<=n/\n<=b)))/\w'=w:=by by_cases f:a<=n;{by_cases d:n<=b;{go_wp2;go_ret;simp[f,d]};go_wp2;go_ret;simp[d]};go_wp2;go_ret;simp;omega
def Om(x y z:Int):Int:=min (min x y) z
theorem BY{P:Program}(w:UL)(b:Array U8)(t:U8)(k k' a:U1)(x y z:Int):(Builtin.min_ b t #[.int k x,.int k' y,.int a z]).run P w=.ok (.int k (Om x y z)) w:=by rw[run_min_int3];unfold Om;grind
attribute[local go_sem↓]BY
def vj(n a b cost:Int)(un same:Bool):Int:=Om (if un=UJ then n+cost else if same=UJ then n else n+1) (a+1) (b+1)
theorem C1(k:Int)(g l c wd:UO)(w:UL):Vt Pz 98 #[g,Iv 0,Iv k,l,c,wd] w λe w'=>e=.returned (Iv k)/\w'=w:=by go_wp2;go_ret;simp
theorem Eh(i:Int)(b:1<=i)(g l c wd:UO)(w:UL):Vt Pz 98 #[g,Iv i,Iv 0,l,c,wd] w λe w'=>e=.returned (Iv i)/\w'=w:=by go_wp2;go_ret;simp
theorem Gw(s:ByteArray)(k:Nat)(h:k<s.size):(s.extract k (k+1)).toList=[s[k]]:=by rw[Go.Lib.toList_data,ByteArray.data_extract,Array.toList_extract];apply TN;intro i;rw[UK,List.getElem?_take];rcases i with _|i;{simp;exact Su h};simp
set_option maxHeartbeats 8000000 in theorem Fj(l q p bw:Nat)(s wd:ByteArray)(c o h j i k:Nat)(w:UL)(K:i<wd.size)(r:k<s.size)(t:i<6)(u:k<6)(J:c<=1)(F:o<=12)(G:h<=12)(I:j<=12)(z:w.cell? ⟨l,i*7+k,UM⟩=UG (Iv o))(A:w.cell? ⟨l,i*7+(k+1),UM⟩=UG (Iv h))(B:w.cell? ⟨l,(i+1)*7+k,UM⟩=UG (Iv j))(D:w.cell? ⟨q,0,UM⟩=UG (.string s))(C:w.cell? ⟨p,0,UM⟩=UG (Iv c))(E:w.cell? ⟨bw,0,UM⟩=UG (.string wd))(L:s.size<=100)(v:wd.size<=100):Vt Pz 98 #[ϖ l,Iv ((i:Int)+1),Iv ((k:Int)+1),ϖ q,ϖ p,ϖ bw] w λe w'=>e=.returned (Iv (vj o h j c (s[k]==63) (wd[i]==s[k])))/\∃n,w'=w.drewN n:=by(have Y:((i:Int)+1==0)=Ul:=by rfl);(have Z:((k:Int)+1==0)=Ul:=by rfl);have U:U1.i64.wrap (i:Int)=i:=IntWalk.i64_in _ Ω;have V:U1.i64.wrap (k:Int)=k:=IntWalk.i64_in _ Ω;have W:U1.i64.wrap ((h:Int)+1)=h+1:=IntWalk.i64_in _ Ω;have X:U1.i64.wrap ((j:Int)+1)=j+1:=IntWalk.i64_in _ Ω;(have M:((i:Int)+1).toNat=i+1:=by omega);(have N:((k:Int)+1).toNat=k+1:=by omega);(have O:(i:Int)<7:=by omega);(have P:(k:Int)<7:=by omega);(have Q:(i:Int)+1<7:=by omega);(have R:(k:Int)+1<7:=by omega);(have S:0<=(k:Int)+1:=by omega);(have T:0<=(i:Int)+1:=by omega);by_cases f:s[k]=63;{(have x:((s.extract k (k+1)).toList==[63])=UJ:=by rw[Gw s k r,f];rfl);have H:=hQz f;clear f;go_enter func98,ntmps98;go_wp2;go_quiet(fail);go_wp2;go_ret;exact⟨by simp[vj,H.out],_,rfl⟩};(have x:((s.extract k (k+1)).toList==[63])=Ul:=by rw[Gw s k r];simp_all);have H:=hQz f;clear f;by_cases g:wd[i]=s[k];{(have y:((wd[i].toNat:Int)!=(s[k].toNat:Int))=Ul:=by grind);have m:=hQz g;clear g;go_enter func98,ntmps98;go_wp2;go_quiet(fail);go_wp2;go_quiet(fail);go_wp2;go_ret;exact⟨by simp[vj,H.out,m.out],by simp[UL.drewN_drewN];grind⟩};(have y:((wd[i].toNat:Int)!=(s[k].toNat:Int))=UJ:=by rw[bne_iff_ne];intro e;exact g (UInt8.toNat_inj.1 Ω));have m:=hQz g;clear g;go_enter func98,ntmps98;go_wp2;go_quiet(fail);go_wp2;go_quiet(fail);go_wp2;go_ret;exact⟨by simp[vj,H.out,m.out],by simp[UL.drewN_drewN];grind⟩
def bt(s:ByteArray)(k:Nat):UInt8:=s.data.getD k 0
theorem BO(s:ByteArray)(k:Nat)(h:k<s.size):s[k]=bt s k:=by unfold bt;rw[Sr,Su (by simpa using h)];rfl
def u7(n a b cost:Nat)(un same:Bool):Nat:=min (min (if un=UJ then n+cost else if same=UJ then n else n+1) (a+1)) (b+1)
theorem Ke(n a b c:Nat)(e d:Bool):vj n a b c e d=(u7 n a b c e d:Nat):=by unfold vj u7 Om;grind
def O4(wd s:ByteArray)(cost i:Nat)(p:Nat->Nat):Nat->Nat
 |0=>i+1
 |k+1=>u7 (p k) (p (k+1)) (O4 wd s cost i p k) cost (bt s k==63) (bt wd i==bt s k)
def dp(wd s:ByteArray)(cost:Nat):Nat->Nat->Nat
 |0=>λk=>k
 |i+1=>O4 wd s cost i (dp wd s cost i)
theorem Gb(n a b c:Nat)(e d:Bool):u7 n a b c e d<=b+1:=Nat.min_le_right _ _
theorem J9(wd s:ByteArray)(a k:Nat):dp wd s a 0 k=k:=rfl
theorem Hb(wd s:ByteArray)(a i:Nat):dp wd s a i 0=i:=by cases i<;>rfl
theorem xh(wd s:ByteArray)(a i k:Nat):dp wd s a (i+1) (k+1)=u7 (dp wd s a i k) (dp wd s a i (k+1)) (dp wd s a (i+1) k) a (bt s k==63) (bt wd i==bt s k):=rfl
theorem uT(wd s:ByteArray)(a i k:Nat):dp wd s a i k<=i+k:=by induction k with|zero=>rw[Hb];omega|succ k b=>cases i with|zero=>rw[J9];omega|succ i=>rw[xh];have:=Gb (dp wd s a i k) (dp wd s a i (k+1)) (dp wd s a (i+1) k) a (bt s k==63) (bt wd i==bt s k);omega
structure gT(bg:Nat)(f:Nat->Nat->Nat)(C i k:Nat)(w0 w':UL):Prop where
 known:∀a b,b<C->(a<i\/(a=i/\b<k))->w'.cell? ⟨bg,a*7+b,UM⟩=UG (Iv (f a b))
 cell:∀o,o<49->∃n:Int,w'.cell? ⟨bg,o,UM⟩=UG (Iv n)/\w'.frozen? ⟨bg,o,UM⟩=Ul
 other:∀k,k≠bg->w'.heap[k]?=w0.heap[k]?
 size:w'.heap.size=w0.heap.size
 os:w'.os=w0.os
 tape:w'.tape=w0.tape
 output:w'.output=w0.output
theorem gT.drewN(h:gT bg f C i k w0 w')(n:Nat):gT bg f C i k w0 (w'.drewN n):=⟨λa b x y=>by simpa using h.known a b x y,λo c=>by simpa using h.cell o c,h.other,h.size,h.os,h.tape,h.output⟩
theorem gT.set(h:gT bg f C i k w0 w')(v:i<7)(w:k<7)(t:C<=7):gT bg f C i (k+1) w0 (w'.setCell ⟨bg,i*7+k,UM⟩ (Iv (f i k))):=by(have c:i*7+k<49:=by omega);obtain⟨n,g,u⟩:=h.cell _ c;refine⟨λa b p l=>?_,λo s=>?_,λj d=>?_,by simpa using h.size,h.os,h.tape,h.output⟩;{by_cases e:a*7+b=i*7+k;{(obtain⟨rfl,rfl⟩:a=i/\b=k:=by omega);apply UL.cell?_setCell_same;exact g};rw[UL.cell?_setCell_other];{exact h.known a b p Ω};simp};{obtain⟨m,q,r⟩:=h.cell o s;by_cases e:o=i*7+k;{subst e;refine⟨((f i k:Nat)),?_,by simp_all⟩;apply UL.cell?_setCell_same;exact g};refine⟨m,?_,by simp_all⟩;rw[UL.cell?_setCell_other];{exact q};simp};rw[<-h.other j d];exact Below.heap_setCell _ _ _ _ d
theorem gT.row(h:gT bg f C i k w0 w')(e:C<=k):gT bg f C (i+1) 0 w0 w':=⟨λa b d c=>h.known a b d Ω,h.cell,h.other,h.size,h.os,h.tape,h.output⟩
theorem cell_of_block{o:Nat}(h:w'.heap[b]?=w.heap[b]?):w'.cell? ⟨b,o,UM⟩=w.cell? ⟨b,o,UM⟩:=UL.cell?_of_block h
theorem Kh{bl bc bw:Nat}{s wd:ByteArray}{cost:Nat}{wr:UL}(l:cost<=1)(y:s.size<=6)(m:wd.size<=6)(a:gT bg (dp wd s cost) (s.size+1) i k w wr)(g:w.cell? ⟨bl,0,UM⟩=UG (.string s))(f:w.cell? ⟨bc,0,UM⟩=UG (Iv cost))(j:w.cell? ⟨bw,0,UM⟩=UG (.string wd))(p:bl≠bg)(o:bc≠bg)(q:bw≠bg)(v:i<=wd.size)(x:k<=s.size):Vt Pz 98 #[ϖ bg,Iv (i:Nat),Iv (k:Nat),ϖ bl,ϖ bc,ϖ bw] wr λe w'=>e=.returned (Iv (dp wd s cost i k:Nat))/\∃n,w'=wr.drewN n:=by rcases i with _|i;{exact(C1 _ _ _ _ _ _).mono λe w'⟨b,c⟩=>⟨b,0,c⟩};rcases k with _|k;{exact(Eh _ Ω _ _ _ _ _).mono λe w'⟨b,c⟩=>⟨b,0,c⟩};have r:=a.known i k Ω Ω;have t:=a.known i (k+1) Ω Ω;have u:=a.known (i+1) k Ω Ω;have z:=uT wd s cost i k;have A:=uT wd s cost i (k+1);have B:=uT wd s cost (i+1) k;have:=Fj bg bl bc bw s wd cost _ _ _ i k wr Ω Ω Ω Ω l Ω Ω Ω r t u ((cell_of_block (a.other bl p)).trans g) ((cell_of_block (a.other bc o)).trans f) ((cell_of_block (a.other bw q)).trans j) Ω Ω;refine this.mono λe w' h=>?_;obtain⟨b,c⟩:=h;refine⟨?_,c⟩;rw[b,Ke,xh,BO s k Ω,BO wd i Ω]
set_option maxHeartbeats 8000000 in theorem GP(f p o bw:Nat)(s wd:ByteArray)(a:Nat)(w:UL)(E:a<=1)(I:s.size<=6)(u:wd.size<=6)(O:gT f (dp wd s a) (s.size+1) 0 0 w w)(A:w.cell? ⟨p,0,UM⟩=UG (.string s))(z:w.cell? ⟨o,0,UM⟩=UG (Iv a))(B:w.cell? ⟨bw,0,UM⟩=UG (.string wd))(K:p≠f)(J:o≠f)(L:bw≠f):Vt Pz 99 #[ϖ f,Iv ((wd.size:Int)+1),Iv ((s.size:Int)+1),.func (.func 98) #[] #[ϖ p,ϖ o,ϖ bw]] w λe w'=>e=.returned (.tuple #[])/\gT f (dp wd s a) (s.size+1) (wd.size+1) 0 w w':=by go_enter func99,ntmps99;go_wp2;go_loopw[11](λt wr=>∃i:Nat,i<=wd.size+1/\t=Iv i/\gT f (dp wd s a) (s.size+1) i 0 w wr)(λt _=>wd.size+1-(intOf t).toNat);(case atStart=>grind);case round=>obtain⟨i,P,rfl,q⟩:=hrel;by_cases H:i<wd.size+1;{(have N:decide ((i:Int)<(wd.size:Int)+1)=UJ:=by simp;omega);go_wp2;go_loopw[15](λt y=>∃k:Nat,k<=s.size+1/\t=Iv k/\gT f (dp wd s a) (s.size+1) i k w y)(λt _=>s.size+1-(intOf t).toNat);(case atStart=>grind);case round=>obtain⟨k,Q,rfl,b⟩:=hrel;clear q;by_cases G:k<s.size+1;{obtain⟨n,r,F⟩:=b.cell (i*7+k) Ω;have C:∀n,Vt Pz 98 #[ϖ f,Iv (i:Nat),Iv (k:Nat),ϖ p,ϖ o,ϖ bw] (wr.drewN n) λe M=>e=.returned (Iv (dp wd s a i k:Nat))/\∃m,M=(wr.drewN n).drewN m:=λn=>Kh E I u (b.drewN n) A z B K J L Ω Ω;have D:=hQz C;have j:=hQz b;clear C b A z B;(have R:(i:Int)<7:=by omega);(have S:(k:Int)<7:=by omega);go_wp2;go_region_held3(λ_=>True)(trivial)(first|(go_at_call 98;refine(D.out _).mono ?_;rintro e w'⟨rfl,m,rfl⟩));all_goals go_wp2;go_roundw;(case rel=>exact⟨k+1,by omega,by go_num,(j.out.drewN _).set Ω Ω Ω⟩);case measure=>simp[intOf];omega};have j:=hQz b;clear b;go_wp2;go_roundw;(case rel=>exact⟨i+1,by omega,by go_num,j.out.row Ω⟩);case measure=>simp[intOf];omega};(obtain rfl:i=wd.size+1:=by omega);have j:=hQz q;clear q;go_wp2;go_end0;exact⟨rfl,j.out⟩
end
section
attribute[local go_sem↓]Go.wp_at_zero Go.wp_at_succ
theorem gT.start{W:UL}(h:W.heap[bg]?=UG (.cells (Array.replicate 49 (Iv 0)) 146)):gT bg f C 0 0 W W:=by refine⟨λa b _ c=>by omega,λo d=>⟨0,?_,?_⟩,λ_ _=>rfl,rfl,rfl,rfl,rfl⟩;{simp[UL.cell?,h,d]};simp[UL.frozen?,h]
def vq(w:UL)(wd s:ByteArray)(cost:Nat):UL:=(((w.alloc (.cells #[.string wd] 9)).alloc (.cells #[.string s] 9)).alloc (.cells #[Iv cost] 3)).alloc (.cells (Array.replicate 49 (Iv 0)) 146)
theorem x8(w:UL)(wd s:ByteArray)(a:Nat):(vq w wd s a).heap[w.heap.size]?=UG (.cells #[.string wd] 9)/\(vq w wd s a).heap[w.heap.size+1]?=UG (.cells #[.string s] 9)/\(vq w wd s a).heap[w.heap.size+1+1]?=UG (.cells #[Iv a] 3)/\(vq w wd s a).heap[w.heap.size+1+1+1]?=UG (.cells (Array.replicate 49 (Iv 0)) 146)/\Below w.heap.size w (vq w wd s a):=by have e:(vq w wd s a).heap=(((w.heap.push (.cells #[.string wd] 9)).push (.cells #[.string s] 9)).push (.cells #[Iv a] 3)).push (.cells (Array.replicate 49 (Iv 0)) 146):=rfl;refine⟨?_,?_,?_,?_,⟨rfl,rfl,rfl,by grind,λk b=>?_⟩⟩;{grind};{grind};{grind};{grind};grind
theorem cell1{v:UO}{t:U8}(h:w.heap[b]?=UG (.cells #[v] t)):w.cell? ⟨b,0,UM⟩=UG v:=by simp[UL.cell?,h]
theorem gT.below{B bg C i k:Nat}{f:Nat->Nat->Nat}{a w0 w':UL}(h:gT bg f C i k w0 w')(b:Below B a w0)(d:B<=bg):Below B a w':=⟨h.os.trans b.os,h.tape.trans b.tape,h.output.trans b.output,by have:=b.size;have:=h.size;omega,λk c=>(h.other k Ω).trans (b.block k c)⟩
set_option maxHeartbeats 8000000 in theorem pw(wd s:ByteArray)(a:Nat)(w:UL)(q:a<=1)(r:s.size<=6)(h:wd.size<=6):Vt Pz 62 #[.string wd,.string s,Iv a] w λe w'=>e=.returned (Iv (dp wd s a wd.size s.size:Nat))/\Below w.heap.size w w':=by obtain⟨f,g,i,j,k⟩:=x8 w wd s a;have o:=hQz (GP (w.heap.size+1+1+1) (w.heap.size+1) (w.heap.size+1+1) w.heap.size s wd a _ q r h (gT.start j) (cell1 g) (cell1 i) (cell1 f) Ω Ω Ω);have l:=hQz f;have m:=hQz g;have n:=hQz k;clear f g i j k;(have x:(wd.size:Int)<7:=by omega);(have y:(s.size:Int)<7:=by omega);go_enter func62,ntmps62;go_wp2_with(go_at_call 99;refine(o.out).mono ?_;rintro e w'⟨rfl,d⟩);have t:w'.cell? ⟨w.heap.size,0,UM⟩=UG (.string wd):=(cell_of_block (d.other _ Ω)).trans (cell1 l.out);have u:w'.cell? ⟨w.heap.size+1,0,UM⟩=UG (.string s):=(cell_of_block (d.other _ Ω)).trans (cell1 m.out);have v:=d.known wd.size s.size Ω Ω;have p:=hQz (d.below n.out Ω);clear d;go_quiet(fail);go_wp2;go_ret;exact⟨rfl,p.out.trans ⟨rfl,rfl,rfl,Sm _,λ_ _=>rfl⟩⟩
end
end Go.Proofs
namespace Go.Proofs
open Go.Shelf
def Tryz.yN:Go.Shelf.Ren:=⟨λ|143=>124|219=>159|217=>178|225=>179|224=>180|267=>181|266=>193|314=>194|n=>n,λ|9=>9|3=>3|4=>4|5=>5|46=>179|146=>241|51=>155|n=>n,λ|1=>0|n=>n⟩
theorem Tryz.IJ:Go.Proofs.Lays.n143 Pz Tryz.yN:={
 mixed:=Ψ
 f143:=func124.trans (congrArg UG Ψ)
 f217:=func178.trans (congrArg UG Ψ)
 f219:=func159.trans (congrArg UG Ψ)
 f224:=func180.trans (congrArg UG Ψ)
 f225:=func179.trans (congrArg UG Ψ)
 f266:=func193.trans (congrArg UG Ψ)
 f267:=func181.trans (congrArg UG Ψ)
 f314:=func194.trans (congrArg UG Ψ)
 t3:=underlying3
 a3:=isAgg3
 z3:=sizeOf3
 v3:=zeroValue3
 t4:=underlying4
 a4:=isAgg4
 z4:=sizeOf4
 v4:=zeroValue4
 t5:=underlying5
 a5:=isAgg5
 z5:=sizeOf5
 v5:=zeroValue5
 t9:=underlying9
 a9:=isAgg9
 z9:=sizeOf9
 v9:=zeroValue9
 t46:=underlying179
 a46:=isAgg179
 z46:=sizeOf179
 v46:=zeroValue179
 t51:=underlying155
 a51:=isAgg155
 z51:=sizeOf155
 v51:=zeroValue155
 t146:=underlying241
 a146:=isAgg241
 z146:=sizeOf241
 v146:=zeroValue241
 g1:=by kernel_rfl}
open Go.RowKit Go.Lib in theorem Tryz.strings_Index_one(s:ByteArray)(c:UInt8)(w:UL):Vt Pz 124 #[.string s,.string ⟨#[c]⟩] w λe w'=>e=.returned (Iv (Lib.indexByte s.data.toList c))/\w'=w:=Any.strings_Index_one Tryz.IJ s c w
open Go.RowKit Go.Lib in
def Tryz.xE:Go.Shelf.Ren:=⟨λ|144=>114|143=>124|219=>159|217=>178|225=>179|224=>180|267=>181|266=>193|314=>194|n=>n,λ|9=>9|4=>4|3=>3|5=>5|46=>179|146=>241|51=>155|n=>n,λ|1=>0|n=>n⟩
theorem Tryz.Kp:Go.Proofs.Lays.n144 Pz Tryz.xE:={
 mixed:=Ψ
 f143:=func124.trans (congrArg UG Ψ)
 f144:=func114.trans (congrArg UG Ψ)
 f217:=func178.trans (congrArg UG Ψ)
 f219:=func159.trans (congrArg UG Ψ)
 f224:=func180.trans (congrArg UG Ψ)
 f225:=func179.trans (congrArg UG Ψ)
 f266:=func193.trans (congrArg UG Ψ)
 f267:=func181.trans (congrArg UG Ψ)
 f314:=func194.trans (congrArg UG Ψ)
 t3:=underlying3
 a3:=isAgg3
 z3:=sizeOf3
 v3:=zeroValue3
 t4:=underlying4
 a4:=isAgg4
 z4:=sizeOf4
 v4:=zeroValue4
 t5:=underlying5
 a5:=isAgg5
 z5:=sizeOf5
 v5:=zeroValue5
 t9:=underlying9
 a9:=isAgg9
 z9:=sizeOf9
 v9:=zeroValue9
 t46:=underlying179
 a46:=isAgg179
 z46:=sizeOf179
 v46:=zeroValue179
 t51:=underlying155
 a51:=isAgg155
 z51:=sizeOf155
 v51:=zeroValue155
 t146:=underlying241
 a146:=isAgg241
 z146:=sizeOf241
 v146:=zeroValue241
 g1:=by kernel_rfl}
open Go.RowKit Go.Lib in theorem Tryz.strings_Contains_one(s:ByteArray)(c:UInt8)(w:UL):Vt Pz 114 #[.string s,.string ⟨#[c]⟩] w λe w'=>e=.returned (.bool (decide (0<=Lib.indexByte s.data.toList c)))/\w'=w:=Any.strings_Contains_one Tryz.Kp s c w
open Go.RowKit Go.Lib in
def Tryz.yu:Go.Shelf.Ren:=⟨λ|138=>97|195=>122|218=>123|143=>124|219=>159|217=>178|225=>179|224=>180|267=>181|266=>193|314=>194|n=>n,λ|9=>9|3=>3|4=>4|5=>5|0=>0|46=>179|146=>241|51=>155|n=>n,λ|1=>0|n=>n⟩
theorem Tryz.Kj:Go.Proofs.Lays.n138 Pz Tryz.yu:={
 mixed:=Ψ
 f138:=func97.trans (congrArg UG Ψ)
 f143:=func124.trans (congrArg UG Ψ)
 f195:=func122.trans (congrArg UG Ψ)
 f217:=func178.trans (congrArg UG Ψ)
 f218:=func123.trans (congrArg UG Ψ)
 f219:=func159.trans (congrArg UG Ψ)
 f224:=func180.trans (congrArg UG Ψ)
 f225:=func179.trans (congrArg UG Ψ)
 f266:=func193.trans (congrArg UG Ψ)
 f267:=func181.trans (congrArg UG Ψ)
 f314:=func194.trans (congrArg UG Ψ)
 t0:=underlying0
 a0:=isAgg0
 z0:=sizeOf0
 v0:=zeroValue0
 t3:=underlying3
 a3:=isAgg3
 z3:=sizeOf3
 v3:=zeroValue3
 t4:=underlying4
 a4:=isAgg4
 z4:=sizeOf4
 v4:=zeroValue4
 t5:=underlying5
 a5:=isAgg5
 z5:=sizeOf5
 v5:=zeroValue5
 t9:=underlying9
 a9:=isAgg9
 z9:=sizeOf9
 v9:=zeroValue9
 t46:=underlying179
 a46:=isAgg179
 z46:=sizeOf179
 v46:=zeroValue179
 t51:=underlying155
 a51:=isAgg155
 z51:=sizeOf155
 v51:=zeroValue155
 t146:=underlying241
 a146:=isAgg241
 z146:=sizeOf241
 v146:=zeroValue241
 g1:=by kernel_rfl}
open Go.RowKit Go.Lib in theorem Tryz.strings_Count_one(s:ByteArray)(c:UInt8)(w:UL):Vt Pz 97 #[.string s,.string ⟨#[c]⟩] w λe w'=>e=.returned (Iv (Lib.countByte s.data.toList c))/\w'=w:=Any.strings_Count_one Tryz.Kj s c w
open Go.RowKit Go.Lib in
def Tryz.xG:Go.Shelf.Ren:=⟨λ|107=>105|108=>125|n=>n,λ|28=>33|3=>3|4=>4|0=>0|n=>n,λ|n=>n⟩
theorem Tryz.JB:Go.Proofs.Lays.n107 Pz Tryz.xG:={
 mixed:=Ψ
 f107:=func105.trans (congrArg UG Ψ)
 f108:=func125.trans (congrArg UG Ψ)
 t0:=underlying0
 a0:=isAgg0
 z0:=sizeOf0
 v0:=zeroValue0
 t3:=underlying3
 a3:=isAgg3
 z3:=sizeOf3
 v3:=zeroValue3
 t4:=underlying4
 a4:=isAgg4
 z4:=sizeOf4
 v4:=zeroValue4
 t28:=underlying33
 a28:=isAgg33
 z28:=sizeOf33
 v28:=zeroValue33}
open Go.Lib in theorem Tryz.slices_Contains_int(b off n c:Nat)(f:List Int)(x:Int)(w:UL)(i:n<=f.length)(d:n<=9223372036854775807)(h:∀j,j<f.length->w.cell? ⟨b,off+j,UM⟩=UG (Iv (f.getD j 0))):Vt Pz 105 #[.slice (UG ⟨b,off,UM⟩) n c,Iv x] w λe w'=>e=.returned (.bool ((f.take n).contains x))/\w'=w:=Any.slices_Contains_int Tryz.JB b off n c f x w i d h
def Tryz.x5:Go.Shelf.Ren:=⟨λ|125=>121|128=>157|129=>158|n=>n,λ|46=>179|3=>3|51=>155|53=>164|4=>4|5=>5|9=>9|n=>n,λ|n=>n⟩
theorem Tryz.KD:Go.Proofs.Lays.n125 Pz Tryz.x5:={
 mixed:=Ψ
 f125:=func121.trans (congrArg UG Ψ)
 f128:=func157.trans (congrArg UG Ψ)
 f129:=func158.trans (congrArg UG Ψ)
 t3:=underlying3
 a3:=isAgg3
 z3:=sizeOf3
 v3:=zeroValue3
 t4:=underlying4
 a4:=isAgg4
 z4:=sizeOf4
 v4:=zeroValue4
 t5:=underlying5
 a5:=isAgg5
 z5:=sizeOf5
 v5:=zeroValue5
 t9:=underlying9
 a9:=isAgg9
 z9:=sizeOf9
 v9:=zeroValue9
 t46:=underlying179
 a46:=isAgg179
 z46:=sizeOf179
 v46:=zeroValue179
 t51:=underlying155
 a51:=isAgg155
 z51:=sizeOf155
 v51:=zeroValue155
 t53:=underlying164
 a53:=isAgg164
 z53:=sizeOf164
 v53:=zeroValue164}
theorem Tryz.bits_Len(x:Int)(w:UL)(d:0<=x)(f:x<=18446744073709551615):Vt Pz 121 #[.int .u64 x] w λe w'=>e=.returned (Iv (Lib.bitLen x.toNat))/\w'=w:=Any.bits_Len Tryz.KD x w d f
end Go.Proofs
namespace Go.Proofs
open Go.RowKit
variable{w W:UL}{b k c:Nat}{v x y z:UO}{t:U8}{s:ByteArray}{q a r n g:Int}{p:UInt8->Bool}{l seen:List ByteArray}{ks:List Int}
section
attribute[local go_sem↓]Go.wp_at_zero Go.wp_at_succ
def fw(w:UL)(sv:UO)(ks:List Int):Prop:=
 (ks=[]/\∃a c,sv=.slice a 0 c)\/∃b off c:Nat,sv=.slice (UG ⟨b,off,UM⟩) ks.length c/\ks≠[]/\ks.length<=9223372036854775807/\b<w.heap.size/\∀j,j<ks.length->w.cell? ⟨b,off+j,UM⟩=UG (Iv (ks.getD j 0))
theorem fw.below{w w':UL}{sv:UO}{ks:List Int}(h:fw w sv ks)(e:Below w.heap.size w w'):fw w' sv ks:=by rcases h with h|⟨b,a,c,f,g,i,d,k⟩;{exact .inl h};exact .inr ⟨b,a,c,f,g,i,Sn d e.size,λj l=>(e.cell (p:=⟨b,a+j,UM⟩) d).trans (k j l)⟩
def iQ(first last day kind:Int)(ks:List Int):Bool:=decide (first<=day/\day<=last)&&(ks.isEmpty||ks.contains kind)
set_option maxHeartbeats 8000000 in theorem vv(A B y C D E F G:UO)(m first d g i:Int)(o:List Int)(w:UL)(z:fw w y o):Vt Pz 69 #[.agg #[A,B,Iv m,Iv first,Iv d,y,C],.agg #[D,E,Iv g,Iv i,F,G]] w λe w'=>e=.returned (.bool (iQ first d g i o))/\Below w.heap.size w w':=by have v:Below w.heap.size w ((w.alloc (.cells #[A,B,Iv m,Iv first,Iv d,y,C] 54)).alloc (.cells #[D,E,Iv g,Iv i,F,G] 48)):=((Below.refl _ _).alloc Θ _).alloc Θ _;by_cases x:first<=g/\g<=d;{(have h:decide (first<=g/\g<=d)=UJ:=by simp_all);have u:=hQz h;have n:=(iB g first d);rw[h]at n;have n:=hQz n;rcases z with⟨rfl,a,c,rfl⟩|⟨b,t,c,rfl,s,r,q,l⟩;{clear x h;go_enter func69,ntmps69;go_wp2_with(go_at_call 81;refine(n.out _).mono ?_;rintro e w'⟨rfl,rfl⟩);go_ret;exact⟨by simp[iQ,u.out],v⟩};(have K:((o.length:Int)==0)=Ul:=by simp_all);have H:=hQz (Tryz.slices_Contains_int b t o.length c o i _ (Sm _) r λj I=>(v.cell (p:=⟨b,t+j,UM⟩) q).trans (l j I));have J:=hQz s;clear x h l s;go_enter func69,ntmps69;go_wp2_with(first|(go_at_call 81;refine(n.out _).mono ?_;rintro e w'⟨rfl,rfl⟩)|(go_at_call 105;refine(H.out).mono ?_;rintro e w'⟨rfl,rfl⟩));go_ret;refine⟨?_,v⟩;(have:o.isEmpty=Ul:=by simp_all);simp[iQ,u.out,this]};(have h:decide (first<=g/\g<=d)=Ul:=by simp_all);have u:=hQz h;have n:=(iB g first d);rw[h]at n;have n:=hQz n;clear x h z;go_enter func69,ntmps69;go_wp2_with(go_at_call 81;refine(n.out _).mono ?_;rintro e w'⟨rfl,rfl⟩);go_ret;exact⟨by simp[iQ,u.out],v⟩
structure bu where
 name:ByteArray
 word:ByteArray
 reach:Int
 first:Int
 last:Int
 ka:Option Addr
 kn:Nat
 kc:Nat
 ks:List Int
 keep:Int
def bu.sv(n:bu):UO:=.slice n.ka n.kn n.kc
def bu.vs(n:bu):Array UO:=#[.string n.name,.string n.word,Iv n.reach,Iv n.first,Iv n.last,.slice n.ka n.kn n.kc,Iv n.keep]
def fE(w:UL)(sv:UO)(ns:List bu):Prop:=
 (ns=[]/\∃a c,sv=.slice a 0 c)\/∃b off c:Nat,sv=.slice (UG ⟨b,off,UM⟩) ns.length c/\ns≠[]/\b<w.heap.size/\∀(j:Nat)(n:bu)(o:Nat)(v:UO),ns[j]?=UG n->n.vs[o]?=UG v->w.cell? ⟨b,off+j*7+o,UM⟩=UG v
theorem fE.below{w w':UL}{sv:UO}{ns:List bu}(h:fE w sv ns)(e:Below w.heap.size w w'):fE w' sv ns:=by rcases h with h|⟨b,a,c,f,g,d,i⟩;{exact .inl h};exact .inr ⟨b,a,c,f,g,Sn d e.size,λj n o v k l=>(e.cell (p:=⟨b,a+j*7+o,UM⟩) d).trans (i j n o v k l)⟩
def hasB(s:ByteArray)(c:UInt8):Bool:=decide (0<=Lib.indexByte s.data.toList c)
set_option maxHeartbeats 8000000 in theorem Aq(n:bu)(b:Nat)(c:UInt8)(w:UL)(r:w.cell? ⟨b,0,UM⟩=UG (.string ⟨#[c]⟩))(q:b<w.heap.size):Vt Pz 118 #[.agg n.vs,ϖ b] w λe w'=>e=.returned (.bool (hasB n.word c))/\Below w.heap.size w w':=by have d:Below w.heap.size w (w.alloc (.cells n.vs 54)):=(Below.refl _ _).alloc Θ _;have g:=(d.cell (p:=⟨b,0,UM⟩) q).trans r;have m:=hQz (Tryz.strings_Contains_one n.word c);obtain⟨k,l,h,f,j,s,u,t,v,i⟩:=n;unfold bu.vs at d g⊢;go_enter func118,ntmps118;go_wp2_with(go_at_call 114;refine(m.out _).mono ?_;rintro e w'⟨rfl,rfl⟩);go_ret;exact⟨by simp[hasB],d⟩
def kA(ns:List bu)(c:UInt8):Bool:=ns.any λn=>hasB n.word c
set_option maxHeartbeats 8000000 in theorem uo(h:List bu)(L:UO)(b:Nat)(c:UInt8)(w:UL)(P:fE w L h)(hn:h.length<=1000)(J:w.cell? ⟨b,0,UM⟩=UG (.string ⟨#[c]⟩))(I:b<w.heap.size):Vt Pz 147 #[L,.func (.func 118) #[] #[ϖ b]] w λe w'=>(∃k:Int,e=.returned (Iv k)/\decide (0<=k)=kA h c)/\Below w.heap.size w w':=by rcases P with⟨rfl,a,O,rfl⟩|⟨F,x,O,rfl,hne,C,j⟩;{go_enter func147,ntmps147;go_wp2;go_loop[8](λt=>t=Iv 0)(λ_=>0);(case atStart=>exact rfl);case round=>subst hrel;go_wp2;go_ret;exact⟨⟨-1,rfl,rfl⟩,Below.refl _ _⟩};have M:=hQz j;have N:=hQz J;clear j J;go_enter func147,ntmps147;go_wp2;go_loopw[8](λt wr=>∃k:Nat,k<=h.length/\t=Iv k/\(∀n∈h.take k,hasB n.word c=Ul)/\Below w.heap.size w wr)(λt _=>h.length-(intOf t).toNat);(case atStart=>exact⟨0,by omega,rfl,by simp,Below.refl _ _⟩);case round=>obtain⟨k,hk,rfl,l,r⟩:=hrel;by_cases G:k<h.length;{obtain⟨n,u⟩:∃n,h[k]?=UG n:=⟨h[k],Sq G⟩;have d:∀(o:Nat)(v:UO),n.vs[o]?=UG v->wr.cell? ⟨F,x+k*7+o,UM⟩=UG v:=λo v ho=>(r.cell (p:=⟨F,x+k*7+o,UM⟩) C).trans (M.out k n o v u ho);have c0:wr.cell? ⟨F,x+k*7,UM⟩=_:=d 0 _ rfl;have c1:=d 1 _ rfl;have c2:=d 2 _ rfl;have c3:=d 3 _ rfl;have c4:=d 4 _ rfl;have c5:=d 5 _ rfl;have c6:=d 6 _ rfl;have B:=Aq n b c wr ((r.cell (p:=⟨b,0,UM⟩) I).trans N.out) (Sn I r.size);unfold bu.vs at B;have B:=hQz B;have z:=hQz r;have q:=hQz l;have H:=hQz u;clear d r l u;by_cases K:hasB n.word c=UJ;{go_wp2_with(go_at_call 118;refine(B.out).mono ?_;rintro e w'⟨rfl,s⟩);go_ret;refine⟨⟨k,rfl,?_⟩,z.out.trans (s.mono z.out.size)⟩;have:kA h c=UJ:=Ts.2 ⟨n,Ss H.out,K⟩;simp[this]};(have K:hasB n.word c=Ul:=by simp_all);go_wp2_with(go_at_call 118;refine(B.out).mono ?_;rintro e w'⟨rfl,s⟩);go_roundw;(case rel=>refine⟨k+1,by omega,by go_num,λm A=>?_,z.out.trans (s.mono z.out.size)⟩;rw[TO,H.out]at A;rcases SL.1 A with A|A;{exact q.out m A};simp_all);case measure=>simp[intOf];omega};(obtain rfl:k=h.length:=by omega);have z:=hQz r;have q:=hQz l;clear r l;go_wp2;go_ret;refine⟨⟨-1,rfl,?_⟩,z.out⟩;(have:kA h c=Ul:=by rw[kA,List.any_eq_false];intro m A;have:=q.out m (by simp_all);simp[this]);simp[this]
set_option maxHeartbeats 8000000 in theorem qx(d:List bu)(f:UO)(b:Nat)(c:UInt8)(w:UL)(g:fE w f d)(m:d.length<=1000)(h:w.cell? ⟨b,0,UM⟩=UG (.string ⟨#[c]⟩))(l:b<w.heap.size):Vt Pz 117 #[f,.func (.func 118) #[] #[ϖ b]] w λe w'=>e=.returned (.bool (kA d c))/\Below w.heap.size w w':=by have i:=hQz (uo d f b c w g m h l);clear g h;go_enter func117,ntmps117;go_wp2_with(go_at_call 147;refine(i.out).mono ?_;rintro e w'⟨⟨k,rfl,o⟩,n⟩);go_ret;simp_all
end
section
attribute[local go_sem↓]Go.wp_at_zero Go.wp_at_succ
structure aC where
 name:ByteArray
 label:ByteArray
 day:Int
 kind:Int
 dH:Int
 dN:Int
def aC.vs(p:aC):Array UO:=#[.string p.name,.string p.label,Iv p.day,Iv p.kind,Iv p.dH,Iv p.dN]
def lM(p:aC)(s:ByteArray)(n:bu):Bool:=iQ n.first n.last p.day p.kind n.ks&&decide (((dp n.word s 1 n.word.size s.size:Nat):Int)<=n.reach)
def rdStep(p:aC)(s:ByteArray)(x:Int×Int)(n:bu):Int×Int:=if lM p s n=UJ then(1,max x.2 n.keep)else x
def gj(p:aC)(s:ByteArray)(ns:List bu):Int×Int:=ns.foldl (rdStep p s) (2,0)
def oP(w:UL)(a:Int)(s:ByteArray):UL:=((w.alloc (.cells #[Iv a,.string s] 112)).alloc (.cells #[Iv 0,Iv 0,Iv 0] 108)).alloc (.cells #[Iv 2,Iv 0,Iv 0] 108)
theorem zd(w:UL)(a:Int)(s:ByteArray):Below w.heap.size w (oP w a s)/\(oP w a s).heap[w.heap.size]?=UG (.cells #[Iv a,.string s] 112)/\(oP w a s).heap[w.heap.size+1]?=UG (.cells #[Iv 0,Iv 0,Iv 0] 108)/\(oP w a s).heap[w.heap.size+1+1]?=UG (.cells #[Iv 2,Iv 0,Iv 0] 108)/\(oP w a s).heap.size=w.heap.size+3:=by have e:(oP w a s).heap=((w.heap.push (.cells #[Iv a,.string s] 112)).push (.cells #[Iv 0,Iv 0,Iv 0] 108)).push (.cells #[Iv 2,Iv 0,Iv 0] 108):=rfl;refine⟨⟨rfl,rfl,rfl,by rw[e];simp;omega,λk b=>?_⟩,?_,?_,?_,by rw[e];simp⟩;{rw[e,SP,if_neg (by simp;omega),SP,if_neg (by simp;omega),SP,if_neg Ω]};{rw[e,SP,if_neg (by simp;omega),SP,if_neg Θ,SP,if_pos rfl]};{rw[e,SP,if_neg Θ,SP,if_pos Θ]};rw[e,SP,if_pos Θ]
theorem Pu{x0 x1 x2 u:UO}(h:w.heap[b]?=UG (.cells #[x0,x1,x2] t)):((w.setCell ⟨b,0,UM⟩ u).setCell ⟨b,2,UM⟩ v).drew.heap[b]?=UG (.cells #[u,x1,v] t):=by show((w.setCell ⟨b,0,UM⟩ u).setCell ⟨b,2,UM⟩ v).heap[b]?=_;simp[UL.setCell,Tc,h]
theorem B9{p:aC}{ns:List bu}{n:bu}(a:ns[k]?=UG n):(ns.take (k+1)).foldl (rdStep p s) (2,0)=rdStep p s ((ns.take k).foldl (rdStep p s) (2,0)) n:=by rw[TO,a,T9];rfl
theorem BV{p:aC}{ns:List bu}{n:bu}(a:ns[k]?=UG n)(h:lM p s n=Ul):(ns.take (k+1)).foldl (rdStep p s) (2,0)=(ns.take k).foldl (rdStep p s) (2,0):=by rw[B9 a,rdStep,if_neg (by simp[h])]
theorem F8{p:aC}{ns:List bu}{n:bu}(a:ns[k]?=UG n)(h:lM p s n=UJ):(ns.take (k+1)).foldl (rdStep p s) (2,0)=(1,max ((ns.take k).foldl (rdStep p s) (2,0)).2 n.keep):=by rw[B9 a,rdStep,if_pos h]
theorem cellAt{o:Nat}{cs:Array UO}(h:w.heap[b]?=UG (.cells cs t))(a:cs[o]?=UG v):w.cell? ⟨b,o,UM⟩=UG v:=by simp[UL.cell?,h,a]
theorem sG{fn:Func}{k:Tmp}{tmps:Array UO}(h:fn.results=#[.cell k 108])(g:tmps[k]?=UG (ϖ b))(e:w.heap[b]?=UG (.cells #[x,y,z] 108)):(results fn tmps).run Pz w=.ok (.agg #[x,y,z]) w:=by have d:=isAgg108 w;have f:=sizeOf108 w;simp[results,h,g,go_sem,d,f,UL.cell?,e]
theorem FW{u0 u1 u2 q:UO}(h:w.heap[b]?=UG (.cells #[u0,u1,u2] t))(a:c≠b):((((w.setCell ⟨c,1,UM⟩ q).setCell ⟨b,0,UM⟩ x).setCell ⟨b,1,UM⟩ y).setCell ⟨b,2,UM⟩ z).heap[b]?=UG (.cells #[x,y,z] t):=by simp[UL.setCell,Tc,h,a]
abbrev G3(n:bu)(p:aC)(s:ByteArray)(a r bp bq oq np cq b:Nat)(W:UL):Prop:=W.cell? ⟨r,0,UM⟩=UG (.string n.name)/\W.cell? ⟨r,1,UM⟩=UG (.string n.word)/\W.cell? ⟨r,2,UM⟩=UG (Iv n.reach)/\W.cell? ⟨r,3,UM⟩=UG (Iv n.first)/\W.cell? ⟨r,4,UM⟩=UG (Iv n.last)/\W.cell? ⟨r,5,UM⟩=UG (.slice n.ka n.kn n.kc)/\W.cell? ⟨r,6,UM⟩=UG (Iv n.keep)/\W.cell? ⟨bp,1,UM⟩=UG (.slice (UG ⟨bq,oq,UM⟩) np cq)/\W.cell? ⟨b,0,UM⟩=UG (Iv (a:Nat))/\W.cell? ⟨b,1,UM⟩=UG (.string s)/\W.cell? ⟨bq,oq+a*6,UM⟩=UG (.string p.name)/\W.cell? ⟨bq,oq+a*6+1,UM⟩=UG (.string p.label)/\W.cell? ⟨bq,oq+a*6+2,UM⟩=UG (Iv p.day)/\W.cell? ⟨bq,oq+a*6+3,UM⟩=UG (Iv p.kind)/\W.cell? ⟨bq,oq+a*6+4,UM⟩=UG (Iv p.dH)/\W.cell? ⟨bq,oq+a*6+5,UM⟩=UG (Iv p.dN)
theorem G3.go{n:bu}{p:aC}{a r bp bq oq np cq m:Nat}{W':UL}(h:G3 n p s a r bp bq oq np cq b W)(g:Below m W W')(c:r<m)(q:bp<m)(d:bq<m)(o:b<m):G3 n p s a r bp bq oq np cq b W':=by obtain⟨t,u,v,w,x,y,z,A,B,C,e,f,i,j,k,l⟩:=h;exact⟨(g.cell c).trans t,(g.cell c).trans u,(g.cell c).trans v,(g.cell c).trans w,(g.cell c).trans x,(g.cell c).trans y,(g.cell c).trans z,(g.cell q).trans A,(g.cell o).trans B,(g.cell o).trans C,(g.cell d).trans e,(g.cell d).trans f,(g.cell d).trans i,(g.cell d).trans j,(g.cell d).trans k,(g.cell d).trans l⟩
section
variable{P:Program}{ops:Array Oper}{Q:Exit->Act->UL->Prop}{md:Region.Mode}{S:UL->Prop}{oi:Oper}{fuel:Nat}{listed:Array Bool}{a:Act}
theorem Fw(i:Nat)(m:∀w,S w->(execOp a.eval oi).run P w=.ok (.value v) w)(h:wpAnyH P md ops Q S fuel (listed.setIfInBounds i UJ) (a.put oi.dst v) w)(n:listed.getD i UJ=Ul:=by exact rfl)(g:ops[i]?=UG oi:=by exact rfl)(k:Region.noSelect ops=UJ:=by kernel_rfl)(f:Region.free md ops listed i=UJ:=by kernel_rfl)(j:(Region.ready md ops listed).contains i=UJ:=by kernel_rfl)(d:∀c a w,Q (.panic c) (a.put oi.dst v) w->Q (.panic c) a w:=by exactλ_ _ _ h=>h)(l:Region.wanted oi (yielded ops a.tmps)=UJ:=by kernel_rfl)(hS:S w:=by assumption):wpAnyH P md ops Q S (fuel+1) listed a w:=wpAnyH_take g k f j d (.inl ⟨l,m⟩) hS h
theorem Lp(i:Nat)(h:wpAnyH P md ops Q S fuel (listed.setIfInBounds i UJ) (a.put oi.dst undef) w)(m:listed.getD i UJ=Ul:=by exact rfl)(g:ops[i]?=UG oi:=by exact rfl)(k:Region.noSelect ops=UJ:=by kernel_rfl)(f:Region.free md ops listed i=UJ:=by kernel_rfl)(j:(Region.ready md ops listed).contains i=UJ:=by kernel_rfl)(d:∀c a w,Q (.panic c) (a.put oi.dst undef) w->Q (.panic c) a w:=by exactλ_ _ _ h=>h)(l:Region.wanted oi (yielded ops a.tmps)=Ul:=by kernel_rfl)(hS:S w:=by assumption):wpAnyH P md ops Q S (fuel+1) listed a w:=wpAnyH_take g k f j d (.inr ⟨l,rfl⟩) hS h
end
set_option maxHeartbeats 8000000 in theorem ER(ns:List bu)(sv:UO)(bp bq oq np cq a:Nat)(p:aC)(s:ByteArray)(w:UL)(hN:fE w sv ns)(hn:ns.length<=1000)(hs:s.size<=6)(hw:∀n∈ns,n.word.size<=6)(hK:∀n∈ns,fw w n.sv n.ks)(hb:bp<w.heap.size)(hbq:bq<w.heap.size)(h0:w.cell? ⟨bp,0,UM⟩=UG sv)(h1:w.cell? ⟨bp,1,UM⟩=UG (.slice (UG ⟨bq,oq,UM⟩) np cq))(ha:a<np)(hp:∀(o:Nat)(v:UO),p.vs[o]?=UG v->w.cell? ⟨bq,oq+a*6+o,UM⟩=UG v):Vt Pz 116 #[ϖ bp,.agg #[Iv (a:Nat),.string s]] w λe w'=>e=.returned (.agg #[Iv (gj p s ns).1,Iv (gj p s ns).2,Iv (gj p s ns).2]):=by obtain⟨f1,f2,f3,f4,f5⟩:=zd w a s;unfold oP at f1 f2 f3 f4 f5;rcases hN with⟨rfl,aa,c',rfl⟩|⟨bn,off,c',rfl,hne,hblk,hcell⟩;{have g0:=(f1.cell (p:=⟨bp,0,UM⟩) hb).trans h0;have F1:=hQz f1;have F2:=hQz f2;have F3:=hQz f3;have F4:=hQz f4;clear hw hK hp f1 f2 f3 f4 h0 h1;go_enter func116,ntmps116;go_wp2;go_loopw[16](λt wr=>t=Iv 0/\Below (w.heap.size+1+1) (oP w a s) wr/\wr.heap[w.heap.size+1+1]?=UG (.cells #[Iv 2,Iv 0,Iv 0] 108))(λ_ _=>0);(case atStart=>exact⟨rfl,Below.refl _ _,F4.out⟩);case round=>obtain⟨rfl,hB,hF⟩:=hrel;change wr.heap[w.heap.size+1+1]?=UG (.cells #[Iv (gj p s []).1,Iv 0,Iv (gj p s []).2] 108)at hF;obtain⟨R,hR⟩:∃R,gj p s []=R:=⟨_,rfl⟩;rw[hR]at hF;have e1:wr.cell? ⟨w.heap.size+1+1,0,UM⟩=UG (Iv R.1):=cellAt hF rfl;have e0:wr.cell? ⟨w.heap.size+1+1,1,UM⟩=UG (Iv 0):=cellAt hF rfl;have e2:wr.cell? ⟨w.heap.size+1+1,2,UM⟩=UG (Iv R.2):=cellAt hF rfl;(have e3:wr.frozen? ⟨w.heap.size+1+1,1,UM⟩=Ul:=by simp[UL.frozen?,hF]);have gF:=(hB.block (w.heap.size+1) Ω).trans F3.out;have z0:wr.cell? ⟨w.heap.size+1,0,UM⟩=UG (Iv 0):=cellAt gF rfl;have z1:wr.cell? ⟨w.heap.size+1,1,UM⟩=UG (Iv 0):=cellAt gF rfl;have z2:wr.cell? ⟨w.heap.size+1,2,UM⟩=UG (Iv 0):=cellAt gF rfl;(have y0:wr.frozen? ⟨w.heap.size+1,0,UM⟩=Ul:=by simp[UL.frozen?,gF]);(have y1:wr.frozen? ⟨w.heap.size+1,1,UM⟩=Ul:=by simp[UL.frozen?,gF]);(have y2:wr.frozen? ⟨w.heap.size+1,2,UM⟩=Ul:=by simp[UL.frozen?,gF]);have HG:=hQz gF;clear hB hF gF F1 F2 F3 F4;go_wp2;refine bodyPost_ret (sG (k:=4) rfl rfl (FW HG.out Ω)) rfl ?_;rw[hR]};have g0:=(f1.cell (p:=⟨bp,0,UM⟩) hb).trans h0;have g1:=(f1.cell (p:=⟨bp,1,UM⟩) hb).trans h1;have HC:=hQz hcell;have HW:=hQz hw;have HK:=hQz hK;have HP:=hQz hp;have F1:=hQz f1;have F2:=hQz f2;have F3:=hQz f3;have F4:=hQz f4;clear hcell hw hK hp f1 f2 f3 f4 h0 h1;go_enter func116,ntmps116;go_wp2;go_loopw[16](λt wr=>∃k:Nat,k<=ns.length/\t=Iv k/\Below (w.heap.size+1+1) (oP w a s) wr/\wr.heap[w.heap.size+1+1]?=UG (.cells #[Iv ((ns.take k).foldl (rdStep p s) (2,0)).1,Iv 0,Iv ((ns.take k).foldl (rdStep p s) (2,0)).2] 108))(λt _=>ns.length-(intOf t).toNat);(case atStart=>exact⟨0,by omega,rfl,Below.refl _ _,F4.out⟩);case round=>obtain⟨k,hk,rfl,hB,hF⟩:=hrel;by_cases hlt:k<ns.length;{obtain⟨n,hn'⟩:∃n,ns[k]?=UG n:=⟨ns[k],Sq hlt⟩;have cellAt':∀(o:Nat)(v:UO),n.vs[o]?=UG v->wr.cell? ⟨bn,off+k*7+o,UM⟩=UG v:=λo v ho=>(hB.cell (p:=⟨bn,off+k*7+o,UM⟩) (by show bn<_;omega)).trans ((F1.out.cell (p:=⟨bn,off+k*7+o,UM⟩) hblk).trans (HC.out k n o v hn' ho));have c0:wr.cell? ⟨bn,off+k*7,UM⟩=UG (.string n.name):=cellAt' 0 _ rfl;have c1:wr.cell? ⟨bn,off+k*7+1,UM⟩=UG (.string n.word):=cellAt' 1 _ rfl;have c2:wr.cell? ⟨bn,off+k*7+2,UM⟩=UG (Iv n.reach):=cellAt' 2 _ rfl;have c3:wr.cell? ⟨bn,off+k*7+3,UM⟩=UG (Iv n.first):=cellAt' 3 _ rfl;have c4:wr.cell? ⟨bn,off+k*7+4,UM⟩=UG (Iv n.last):=cellAt' 4 _ rfl;have c5:wr.cell? ⟨bn,off+k*7+5,UM⟩=UG (.slice n.ka n.kn n.kc):=cellAt' 5 _ rfl;have c6:wr.cell? ⟨bn,off+k*7+6,UM⟩=UG (Iv n.keep):=cellAt' 6 _ rfl;clear cellAt';have HB:=hQz hB;have HF:=hQz hF;have Hn:=hQz hn';clear hB hF hn';(have hnb:(wr.alloc (.cells n.vs 54)).heap[wr.heap.size]?=UG (.cells n.vs 54):=by show(wr.heap.push _)[wr.heap.size]?=_;simp);have hb5:Below wr.heap.size wr (wr.alloc (.cells n.vs 54)):=(Below.refl _ _).alloc Θ _;have hsz:w.heap.size+1+1<wr.heap.size:=(So.1 HF.out).1;have hfar:Below w.heap.size w wr:=F1.out.trans (HB.out.mono Ω);have S5:G3 n p s a wr.heap.size bp bq oq np cq w.heap.size (wr.alloc (.cells n.vs 54)):=⟨cellAt hnb rfl,cellAt hnb rfl,cellAt hnb rfl,cellAt hnb rfl,cellAt hnb rfl,cellAt hnb rfl,cellAt hnb rfl,(hb5.cell (p:=⟨bp,1,UM⟩) (by show bp<_;omega)).trans ((HB.out.cell (p:=⟨bp,1,UM⟩) (by show bp<_;omega)).trans g1),(hb5.cell (p:=⟨w.heap.size,0,UM⟩) (by show w.heap.size<_;omega)).trans ((HB.out.cell (p:=⟨w.heap.size,0,UM⟩) (by show w.heap.size<_;omega)).trans (cellAt F2.out rfl)),(hb5.cell (p:=⟨w.heap.size,1,UM⟩) (by show w.heap.size<_;omega)).trans ((HB.out.cell (p:=⟨w.heap.size,1,UM⟩) (by show w.heap.size<_;omega)).trans (cellAt F2.out rfl)),(hb5.cell (p:=⟨bq,oq+a*6+0,UM⟩) (by show bq<_;omega)).trans ((hfar.cell (p:=⟨bq,oq+a*6+0,UM⟩) hbq).trans (HP.out 0 _ rfl)),(hb5.cell (p:=⟨bq,oq+a*6+1,UM⟩) (by show bq<_;omega)).trans ((hfar.cell (p:=⟨bq,oq+a*6+1,UM⟩) hbq).trans (HP.out 1 _ rfl)),(hb5.cell (p:=⟨bq,oq+a*6+2,UM⟩) (by show bq<_;omega)).trans ((hfar.cell (p:=⟨bq,oq+a*6+2,UM⟩) hbq).trans (HP.out 2 _ rfl)),(hb5.cell (p:=⟨bq,oq+a*6+3,UM⟩) (by show bq<_;omega)).trans ((hfar.cell (p:=⟨bq,oq+a*6+3,UM⟩) hbq).trans (HP.out 3 _ rfl)),(hb5.cell (p:=⟨bq,oq+a*6+4,UM⟩) (by show bq<_;omega)).trans ((hfar.cell (p:=⟨bq,oq+a*6+4,UM⟩) hbq).trans (HP.out 4 _ rfl)),(hb5.cell (p:=⟨bq,oq+a*6+5,UM⟩) (by show bq<_;omega)).trans ((hfar.cell (p:=⟨bq,oq+a*6+5,UM⟩) hbq).trans (HP.out 5 _ rfl))⟩;have hK5:fw (wr.alloc (.cells n.vs 54)) n.sv n.ks:=((HK.out n (Ss Hn.out)).below hfar).below hb5;have hF5:=(hb5.block _ hsz).trans HF.out;have hB5:=HB.out.trans (hb5.mono (SF hsz));(have hsz5:(wr.alloc (.cells n.vs 54)).heap.size=wr.heap.size+1:=by simp);unfold bu.vs at hnb hb5 S5 hK5 hF5 hB5 hsz5;have HS5:=hQz S5;have HK5:=hQz hK5;have HF5:=hQz hF5;have HB5:=hQz hB5;clear S5 hK5 hF5 hB5 hnb hb5 hfar;go_wp2;generalize wr.alloc (.cells #[.string n.name,.string n.word,Iv n.reach,Iv n.first,Iv n.last,.slice n.ka n.kn n.kc,Iv n.keep] 54)=W5 at HS5 HK5 HF5 HB5 hsz5⊢;(have HA:∀W',Below W5.heap.size W5 W'/\G3 n p s a wr.heap.size bp bq oq np cq w.heap.size W'->Vt Pz 69 #[.agg #[.string n.name,.string n.word,Iv n.reach,Iv n.first,Iv n.last,.slice n.ka n.kn n.kc,Iv n.keep],.agg #[.string p.name,.string p.label,Iv p.day,Iv p.kind,Iv p.dH,Iv p.dN]] W' λe w'=>e=.returned (.bool (iQ n.first n.last p.day p.kind n.ks))/\Below W5.heap.size W5 w'/\G3 n p s a wr.heap.size bp bq oq np cq w.heap.size w':=by intro W' h;have hc:=vv (.string n.name) (.string n.word) n.sv (Iv n.keep) (.string p.name) (.string p.label) (Iv p.dH) (Iv p.dN) n.reach n.first n.last p.day p.kind n.ks W' (HK5.out.below h.1);exact hc.mono λe w' h'=>⟨h'.1,h.1.trans (h'.2.mono h.1.size),h.2.go h'.2 (Sn Ω h.1.size) (Sn Ω h.1.size) (Sn Ω h.1.size) (Sn Ω h.1.size)⟩);(have HD:∀W',Below W5.heap.size W5 W'/\G3 n p s a wr.heap.size bp bq oq np cq w.heap.size W'->Vt Pz 62 #[.string n.word,.string s,Iv 1] W' λe w'=>e=.returned (Iv (dp n.word s 1 n.word.size s.size:Nat))/\Below W5.heap.size W5 w'/\G3 n p s a wr.heap.size bp bq oq np cq w.heap.size w':=by intro W' h;have hc:=pw n.word s 1 W' Ω hs (HW.out n (Ss Hn.out));exact hc.mono λe w' h'=>⟨h'.1,h.1.trans (h'.2.mono h.1.size),h.2.go h'.2 (Sn Ω h.1.size) (Sn Ω h.1.size) (Sn Ω h.1.size) (Sn Ω h.1.size)⟩);have HA:=hQz HA;have HD:=hQz HD;obtain⟨s0,s1,s2,s3,s4,s5,s6,s7,s8,s9,s10,s11,s12,s13,s14,s15⟩:=HS5.out;have hBd:Below W5.heap.size W5 W5.drew:=⟨rfl,rfl,rfl,Sm _,λ_ _=>rfl⟩;by_cases hab:iQ n.first n.last p.day p.kind n.ks=UJ;{by_cases hd:((dp n.word s 1 n.word.size s.size:Nat):Int)<=n.reach;{(have hd':decide (((dp n.word s 1 n.word.size s.size:Nat):Int)<=n.reach)=UJ:=by simpa using hd);(have hyes:lM p s n=UJ:=by simp[lM,hab,hd]);go_region_held3(λW'=>Below W5.heap.size W5 W'/\G3 n p s a wr.heap.size bp bq oq np cq w.heap.size W')(first|assumption|((repeat' apply And.intro)<;>first|assumption|(simp[*];done)))(first|(go_at_call 69;refine(HA.out _ (by assumption)).mono ?_;rintro e w'⟨rfl,hS⟩)|(go_at_call 62;refine(HD.out _ (by assumption)).mono ?_;rintro e w'⟨rfl,hS⟩));all_goals have fF:=(hS.1.block _ Ω).trans HF5.out;have e1:=cellAt (o:=0) fF rfl;have e2:=cellAt (o:=2) fF rfl;(have e3:w'.frozen? ⟨w.heap.size+1+1,0,UM⟩=Ul:=by simp[UL.frozen?,fF]);(have e4:w'.frozen? ⟨w.heap.size+1+1,2,UM⟩=Ul:=by simp[UL.frozen?,fF]);have e5:w'.cell? ⟨wr.heap.size,6,UM⟩=UG (Iv n.keep):=hS.2.2.2.2.2.2.2.1;have hBw:=HB5.out.trans (hS.1.mono Ω);clear hS;have HBw:=hQz hBw;have HfF:=hQz fF;clear hBw fF;go_wp2;go_region;all_goals go_wp2;go_roundw;(case rel=>exact⟨k+1,by omega,by go_num,((HBw.out.setCell (Sm _) _).setCell (Sm _) _).drew,by rw[F8 Hn.out hyes];exact Pu HfF.out⟩);case measure=>simp[intOf];omega};(have hd':decide (((dp n.word s 1 n.word.size s.size:Nat):Int)<=n.reach)=Ul:=by simpa using hd);(have hno:lM p s n=Ul:=by simp[lM,hd]);go_region_held3(λW'=>Below W5.heap.size W5 W'/\G3 n p s a wr.heap.size bp bq oq np cq w.heap.size W')(first|assumption|((repeat' apply And.intro)<;>first|assumption|(simp[*];done)))(first|(go_at_call 69;refine(HA.out _ (by assumption)).mono ?_;rintro e w'⟨rfl,hS⟩)|(go_at_call 62;refine(HD.out _ (by assumption)).mono ?_;rintro e w'⟨rfl,hS⟩));all_goals have fF:=(hS.1.block _ Ω).trans HF5.out;have hBw:=HB5.out.trans (hS.1.mono Ω);have HBw:=hQz hBw;have HfF:=hQz fF;clear hS hBw fF;go_wp2;go_roundw;(case rel=>exact⟨k+1,by omega,by go_num,HBw.out,by rw[BV Hn.out hno];exact HfF.out⟩);case measure=>simp[intOf];omega};(have hab:iQ n.first n.last p.day p.kind n.ks=Ul:=by simpa using hab);rw[hab]at HA;(have hno:lM p s n=Ul:=by simp[lM,hab]);refine wp_region_held_drew (S:=λW'=>Below W5.heap.size W5 W'/\G3 n p s a wr.heap.size bp bq oq np cq w.heap.size W') Ψ (by first|assumption|((repeat' apply And.intro)<;>first|assumption|(simp[*];done))) (λhHeld=>?_);(iterate 11(first|refine Fw (v:=?_) 0 ?_ ?_|refine Fw (v:=?_) 1 ?_ ?_|refine Fw (v:=?_) 2 ?_ ?_|refine Fw (v:=?_) 3 ?_ ?_|refine Fw (v:=?_) 4 ?_ ?_|refine Fw (v:=?_) 5 ?_ ?_|refine Fw (v:=?_) 6 ?_ ?_|refine Fw (v:=?_) 7 ?_ ?_|refine Fw (v:=?_) 8 ?_ ?_|refine Fw (v:=?_) 9 ?_ ?_|refine Fw (v:=?_) 10 ?_ ?_);rotate_left;{intro w hSw;(try dsimp only at hSw);go_simp;(try with_reducible rfl)};try simp only[Act.put,TP,TQ,TR,TS,TT,TU]);refine wpAnyH_ready (rs:=[11]) Ψ Θ ?_;refine AllReadyH.cons (o:=_) rfl (λK hK=>?_) AllReadyH.nil;go_simp;go_at_call 69;refine(HA.out _ (by assumption)).mono ?_;rintro e w'⟨rfl,hS⟩;go_simp;refine hK.out _ _ hS (λhHeld2=>?_);clear hHeld;(try simp only[Act.put,TP,TQ,TR,TS,TT,TU]);refine wpAnyH_take (i:=12) (oi:=_) (v:=?_) rfl Ψ Ψ Ψ (λ_ _ _ h=>h) (Or.inl ⟨by kernel_rfl,?_⟩) (by assumption) ?_;rotate_left;{intro w hSw;(try dsimp only at hSw);go_simp;(try with_reducible rfl)};(try simp only[Act.put,TP,TQ,TR,TS,TT,TU]);(iterate 8(first|refine Lp 13 ?_|refine Lp 14 ?_|refine Lp 15 ?_|refine Lp 16 ?_|refine Lp 17 ?_|refine Lp 18 ?_|refine Lp 19 ?_|refine Lp 20 ?_);try simp only[Act.put,TP,TQ,TR,TS,TT,TU]);refine wpAnyH_take (i:=21) (oi:=_) (v:=?_) rfl Ψ Ψ Ψ (λ_ _ _ h=>h) (Or.inl ⟨by kernel_rfl,?_⟩) (by assumption) ?_;rotate_left;{intro w hSw;(try dsimp only at hSw);go_simp;(try with_reducible rfl)};(try simp only[Act.put,TP,TQ,TR,TS,TT,TU]);refine wpAnyH_done Ψ ?_ _;clear hHeld2 hK;all_goals have fF:=(hS.1.block _ Ω).trans HF5.out;have hBw:=HB5.out.trans (hS.1.mono Ω);have HBw:=hQz hBw;have HfF:=hQz fF;clear hS hBw fF;go_wp2;go_roundw;(case rel=>exact⟨k+1,by omega,by go_num,HBw.out,by rw[BV Hn.out hno];exact HfF.out⟩);case measure=>simp[intOf];omega};(obtain rfl:k=ns.length:=by omega);rw[Um]at hF;change wr.heap[w.heap.size+1+1]?=UG (.cells #[Iv (gj p s ns).1,Iv 0,Iv (gj p s ns).2] 108)at hF;obtain⟨R,hR⟩:∃R,gj p s ns=R:=⟨_,rfl⟩;rw[hR]at hF;have e1:wr.cell? ⟨w.heap.size+1+1,0,UM⟩=UG (Iv R.1):=cellAt hF rfl;have e0:wr.cell? ⟨w.heap.size+1+1,1,UM⟩=UG (Iv 0):=cellAt hF rfl;have e2:wr.cell? ⟨w.heap.size+1+1,2,UM⟩=UG (Iv R.2):=cellAt hF rfl;(have e3:wr.frozen? ⟨w.heap.size+1+1,1,UM⟩=Ul:=by simp[UL.frozen?,hF]);have gF:=(hB.block (w.heap.size+1) Ω).trans F3.out;have z0:wr.cell? ⟨w.heap.size+1,0,UM⟩=UG (Iv 0):=cellAt gF rfl;have z1:wr.cell? ⟨w.heap.size+1,1,UM⟩=UG (Iv 0):=cellAt gF rfl;have z2:wr.cell? ⟨w.heap.size+1,2,UM⟩=UG (Iv 0):=cellAt gF rfl;(have y0:wr.frozen? ⟨w.heap.size+1,0,UM⟩=Ul:=by simp[UL.frozen?,gF]);(have y1:wr.frozen? ⟨w.heap.size+1,1,UM⟩=Ul:=by simp[UL.frozen?,gF]);(have y2:wr.frozen? ⟨w.heap.size+1,2,UM⟩=Ul:=by simp[UL.frozen?,gF]);have HG:=hQz gF;clear hB hF gF F1 F2 F3 F4 HC HW HK HP;go_wp2;refine bodyPost_ret (sG (k:=4) rfl rfl (FW HG.out Ω)) rfl ?_;rw[hR]
end
section
attribute[local go_sem↓]Go.wp_at_zero Go.wp_at_succ
def bN(n a b:Int):Bool:=decide (a<=n/\n<=b)
theorem kh(n a b:Int)(w:UL):Vt Pz 81 #[Iv n,Iv a,Iv b] w λe w'=>e=.returned (.bool (bN n a b))/\w'=w:=iB n a b w
def fH(c:UInt8):Bool:=decide (97<=c.toNat/\c.toNat<=122)
def pS(c:UInt8):Bool:=fH c||c==63
def lD(s:ByteArray):Bool:=s.data.toList.all pS
def aU(s:ByteArray)(n:Int):Bool:=lD s&&(decide (1<=s.size/\s.size<=6)&&decide ((Me.cnt s:Int)<=n))
theorem mZ{b:Int}(h:bN n a b=UJ)(w:UL):Vt Pz 81 #[Iv n,Iv a,Iv b] w λe w'=>e=.returned (.bool UJ)/\w=w':=by have:=kh n a b w;grind
theorem lK{b:Int}(h:bN n a b=Ul)(w:UL):Vt Pz 81 #[Iv n,Iv a,Iv b] w λe w'=>e=.returned (.bool Ul)/\w=w':=by have:=kh n a b w;grind
theorem aeI(w:UL)(s:ByteArray)(pos:Nat):Below w.heap.size w (w.iter s pos):=(Below.refl _ _).alloc (Sm _) _
theorem NI(h:k<s.size):s.data.toList[k]?=UG (s[k]'h):=by simp[h];rfl
theorem iA(h:k<s.size)(a:(s.data.toList.take k).all p=UJ)(b:p (s[k]'h)=UJ):(s.data.toList.take (k+1)).all p=UJ:=by rw[Vi (by simpa using h),List.all_append,a,Bool.true_and];show(p (s[k]'h)&&UJ)=UJ;grind
theorem qe(h:k<s.size)(a:p (s[k]'h)=Ul):s.data.toList.all p=Ul:=by rw[List.all_eq_false];exact⟨s[k]'h,SX.2 ⟨k,NI h⟩,by simp[a]⟩
theorem bl(s:ByteArray):s.toList=s.data.toList:=ByteArray.toList_eq s
theorem Nd:(!(Utf8.encode 63).toList==[63])=Ul:=by rw[bl];decide
theorem GV(c:Nat)(d:c≠63):(if c<0x80 then(⟨#[UInt8.ofNat c]⟩:ByteArray)else if c<0x800 then⟨#[UInt8.ofNat (0xC0+c/64),UInt8.ofNat (0x80+c%64)]⟩else if c<0x10000 then⟨#[UInt8.ofNat (0xE0+c/4096),UInt8.ofNat (0x80+c/64%64),UInt8.ofNat (0x80+c%64)]⟩else⟨#[UInt8.ofNat (0xF0+c/262144),UInt8.ofNat (0x80+c/4096%64),UInt8.ofNat (0x80+c/64%64),UInt8.ofNat (0x80+c%64)]⟩).data.toList≠[63]:=by split;{intro h;(have a:UInt8.ofNat c=63:=by grind);have b:=congrArg UInt8.toNat a;rw[UInt8.toNat_ofNat']at b;grind};grind
theorem Bs(r:Nat)(d:r≠63):(!(Utf8.encode (r:Int)).toList==[63])=UJ:=by(have b:(Utf8.encode (r:Int)).data.toList≠[63]:=by intro h;(have e:(r:Int).toNat=r:=by omega);by_cases c:Utf8.valid (r:Int)=UJ;{have:=GV r d;simp only[Utf8.encode,c,if_true,e]at h;grind};simp only[Utf8.encode,c,if_false]at h;exact GV Utf8.runeError Δ h);rw[bl,beq_eq_false_iff_ne.2 b];rfl
set_option maxRecDepth 100000 in set_option maxHeartbeats 8000000 in theorem aak(s:ByteArray)(n:Int)(w:UL)(hs:s.size<1000000000000000):Vt Pz 61 #[.string s,Iv n] w λe w'=>e=.returned (.bool (aU s n))/\Below w.heap.size w w':=by go_enter func61,ntmps61;go_wp2;go_loopw[6](λ_ wr=>∃c:Nat,c<=s.size/\wr=w.iter s c/\Hid ((s.data.toList.take c).all pS=UJ))(λ_ wr=>s.size-wr.iterPos w.heap.size);(case atStart=>exact⟨0,SK _,rfl,by simp[Hid]⟩);case round=>obtain⟨c,hpos,rfl,h⟩:=hrel;by_cases f:c<s.size;{by_cases ha:(s[c]'f).toNat<128;{have hd:=decode_ascii s c f ha;(have hnx:∀ty,(Instr.next (ϖ w.heap.size) UJ ty).run Pz (w.iter s c)=.ok (.tuple #[.bool UJ,Iv c,.int .i32 (s[c]'f).toNat]) (w.iter s (c+1)):=λty=>by rw[run_next_any w s c ty f,hd]);clear hd;by_cases hl:fH (s[c]'f)=UJ;{have hY:=hQz (mZ (n:=((s[c]'f).toNat:Int)) (a:=97) (b:=122) (by unfold fH at hl;unfold bN;grind));have HL:=hQz hl;clear hl;go_wp2_with(go_at_call 81;refine(hY.out _).mono ?_;rintro e w'⟨rfl,rfl⟩);go_roundw;(case rel=>exact⟨c+1,f,rfl,iA f h (by unfold pS;rw[HL.out];rfl)⟩);case measure=>simp;omega};(have hl:fH (s[c]'f)=Ul:=by simp_all);have hY:=hQz (lK (n:=((s[c]'f).toNat:Int)) (a:=97) (b:=122) (by unfold fH at hl;unfold bN;grind));have HL:=hQz hl;clear hl;by_cases h63:(s[c]'f)=63;{(have hL:pS (s[c]'f)=UJ:=by unfold pS;grind);rw[h63]at hnx hY;have i:=hQz hL;clear hL h63;go_wp2_with(go_at_call 81;refine(hY.out _).mono ?_;rintro e w'⟨rfl,rfl⟩);{exact absurd ‹(!(Utf8.encode 63).toList==[63])=UJ› (by rw[Nd];decide)};go_roundw;(case rel=>exact⟨c+1,f,rfl,iA f h i.out⟩);case measure=>simp;omega};have hne:=Bs (s[c]'f).toNat (λe=>h63 (by apply UInt8.toNat_inj.1;exact e));(have hL:pS (s[c]'f)=Ul:=by unfold pS;simp_all);have i:=hQz (qe f hL);have HN:=hQz hne;clear hL h63 hne;go_wp2_with(go_at_call 81;refine(hY.out _).mono ?_;rintro e w'⟨rfl,rfl⟩);{go_ret;exact⟨by unfold aU lD;rw[i.out];rfl,aeI _ _ _⟩};exact absurd HN.out (by simp_all)};have hd:=decode_high s c f Ω;have hle:=decode_le s c;(have hl:fH (s[c]'f)=Ul:=by unfold fH;simp;omega);(have hL:pS (s[c]'f)=Ul:=by unfold pS;rw[hl];simp;intro e;simp_all);have i:=hQz (qe f hL);have hnx:∀ty,(Instr.next (ϖ w.heap.size) UJ ty).run Pz (w.iter s c)=_:=λty=>run_next_any w s c ty f;have hY:=hQz (lK (n:=((Utf8.decode s c).1:Int)) (a:=97) (b:=122) (by unfold bN;simp;omega));have HN:=hQz (Bs (Utf8.decode s c).1 Ω);(have h0:(0:Int)<=((Utf8.decode s c).1:Int):=by omega);clear hl hL hd ha;go_wp2_with(go_at_call 81;refine(hY.out _).mono ?_;rintro e w'⟨rfl,rfl⟩);{go_ret;exact⟨by unfold aU lD;rw[i.out];rfl,aeI _ _ _⟩};exact absurd HN.out (by simp_all)};(obtain rfl:c=s.size:=by omega);have hnx:∀ty,(Instr.next (ϖ w.heap.size) UJ ty).run Pz (w.iter s s.size)=_:=λty=>run_next_end w s s.size ty f;(have HA:Hid (lD s=UJ):=by unfold lD;rw[<-h.out,Tn Θ];rfl);have hC:=hQz (Tryz.strings_Count_one s 63);clear h;by_cases hz:1<=s.size/\s.size<=6;{have hY:=hQz (mZ (n:=(s.size:Int)) (a:=1) (b:=6) (by unfold bN;simp;omega));have HZ:=hQz hz;clear hz;go_wp2_with(first|(go_at_call 81;refine(hY.out _).mono ?_;rintro e w'⟨rfl,rfl⟩)|(go_at_call 97;refine(hC.out _).mono ?_;rintro e w'⟨rfl,rfl⟩));go_ret;exact⟨by simp[aU,HA.out,HZ.out,Me.cnt,Lib.countByte],aeI _ _ _⟩};have hY:=hQz (lK (n:=(s.size:Int)) (a:=1) (b:=6) (by unfold bN;simp;omega));have HZ:=hQz hz;clear hz;go_wp2_with(go_at_call 81;refine(hY.out _).mono ?_;rintro e w'⟨rfl,rfl⟩);go_ret;exact⟨by simp[aU,HA.out,HZ.out],aeI _ _ _⟩
theorem fL(s:ByteArray)(n:Int)(w:UL)(hs:s.size<4294967281):Vt Pz 61 #[.string s,Iv n] w λe w'=>e=.returned (.bool (aU s n))/\Below w.heap.size w w':=aak s n w (by omega)
end
section
attribute[local go_sem↓]Go.wp_at_zero Go.wp_at_succ
def oI(c:UInt8):Bool:=decide (48<=c.toNat/\c.toNat<=57)
def lG(c:UInt8):Bool:=fH c||oI c
def aV(s:ByteArray):Bool:=(decide (1<=s.size/\s.size<=10)&&(match s.data.toList with|c::_=>fH c|[]=>Ul))&&s.data.toList.all lG
set_option maxRecDepth 100000 in set_option maxHeartbeats 8000000 in theorem so(s:ByteArray)(w:UL)(hs:s.size<4294967281):Vt Pz 101 #[.string s] w λe w'=>e=.returned (.bool (aV s))/\Below w.heap.size w w':=by by_cases x:1<=s.size/\s.size<=10;(case neg=>have o:=hQz (lK (n:=(s.size:Int)) (a:=1) (b:=10) (by unfold bN;simp;omega));have B:=hQz x;clear x;go_enter func101,ntmps101;go_wp2_with(go_at_call 81;refine(o.out _).mono ?_;rintro e w'⟨rfl,rfl⟩);go_ret;exact⟨by simp[aV,B.out],Below.refl _ _⟩);case pos=>have o:=hQz (mZ (n:=(s.size:Int)) (a:=1) (b:=10) (by unfold bN;simp;omega));(have u:0<s.size:=by omega);(have z:Hid (s.data.toList=(s[0]'u)::s.data.toList.drop 1):=by have:=TG (l:=s.data.toList) (i:=0) (by simp_all);exact this);(have F:(0:Int)<=((s[0]'u).toNat:Int):=by omega);(have G:((s[0]'u).toNat:Int)<=255:=by have:=(s[0]'u).toNat_lt;omega);by_cases k:fH (s[0]'u)=UJ;(case neg=>(have k:fH (s[0]'u)=Ul:=by simp_all);have j:=hQz (lK (n:=((s[0]'u).toNat:Int)) (a:=97) (b:=122) (by unfold fH at k;unfold bN;grind));(have D:Hid ((match s.data.toList with|c::_=>fH c|[]=>Ul)=Ul):=by show(match s.data.toList with|c::_=>fH c|[]=>Ul)=Ul;rw[z.out];exact k);have B:=hQz x;clear k x;go_enter func101,ntmps101;go_wp2_with(go_at_call 81;(first|(with_reducible refine(o.out _).mono ?_)|(with_reducible refine(j.out _).mono ?_));rintro e w'⟨rfl,rfl⟩);go_ret;exact⟨by simp only[aV,D.out];simp,Below.refl _ _⟩);case pos=>have j:=hQz (mZ (n:=((s[0]'u).toNat:Int)) (a:=97) (b:=122) (by unfold fH at k;unfold bN;grind));(have D:Hid ((match s.data.toList with|c::_=>fH c|[]=>Ul)=UJ):=by show(match s.data.toList with|c::_=>fH c|[]=>Ul)=UJ;rw[z.out];exact k);have B:=hQz x;clear k x;go_enter func101,ntmps101;go_wp2_with(go_at_call 81;(first|(with_reducible refine(o.out _).mono ?_)|(with_reducible refine(j.out _).mono ?_));rintro e w'⟨rfl,rfl⟩);go_loopw[4](λ_ K=>∃pos:Nat,pos<=s.size/\K=w.iter s pos/\Hid ((s.data.toList.take pos).all lG=UJ))(λ_ K=>s.size-K.iterPos w.heap.size);(case atStart=>exact⟨0,SK _,rfl,by simp[Hid]⟩);case round=>clear F G o j;obtain⟨pos,O,rfl,m⟩:=hrel;by_cases h:pos<s.size;{by_cases M:(s[pos]'h).toNat<128;{have C:=decode_ascii s pos h M;(have A:∀r,(Instr.next (ϖ w.heap.size) UJ r).run Pz (w.iter s pos)=.ok (.tuple #[.bool UJ,Iv pos,.int .i32 (s[pos]'h).toNat]) (w.iter s (pos+1)):=λr=>by rw[run_next_any w s pos r h,C]);clear C;(have hu0:(0:Int)<=((s[pos]'h).toNat:Int):=by omega);by_cases k:fH (s[pos]'h)=UJ;{have o:=hQz (mZ (n:=((s[pos]'h).toNat:Int)) (a:=97) (b:=122) (by unfold fH at k;unfold bN;grind));have L:=hQz k;clear k;go_wp2_with(go_at_call 81;(with_reducible refine(o.out _).mono ?_);rintro e w'⟨rfl,rfl⟩);go_roundw;(case rel=>exact⟨pos+1,h,rfl,iA h m (by unfold lG;rw[L.out];rfl)⟩);case measure=>simp;omega};(have k:fH (s[pos]'h)=Ul:=by simp_all);have o:=hQz (lK (n:=((s[pos]'h).toNat:Int)) (a:=97) (b:=122) (by unfold fH at k;unfold bN;grind));have L:=hQz k;clear k;by_cases v:oI (s[pos]'h)=UJ;{have j:=hQz (mZ (n:=((s[pos]'h).toNat:Int)) (a:=48) (b:=57) (by unfold oI at v;unfold bN;grind));have HG:=hQz v;clear v;go_wp2_with(go_at_call 81;(first|(with_reducible refine(o.out _).mono ?_)|(with_reducible refine(j.out _).mono ?_));rintro e w'⟨rfl,rfl⟩);go_roundw;(case rel=>exact⟨pos+1,h,rfl,iA h m (by unfold lG;rw[HG.out];simp)⟩);case measure=>simp;omega};(have v:oI (s[pos]'h)=Ul:=by simp_all);have j:=hQz (lK (n:=((s[pos]'h).toNat:Int)) (a:=48) (b:=57) (by unfold oI at v;unfold bN;grind));have E:=hQz (qe (p:=lG) h (by unfold lG;simp_all));clear v;go_wp2_with(go_at_call 81;(first|(with_reducible refine(o.out _).mono ?_)|(with_reducible refine(j.out _).mono ?_));rintro e w'⟨rfl,rfl⟩);go_ret;exact⟨by simp[aV,E.out],aeI _ _ _⟩};have C:=decode_high s pos h Ω;have hle:=decode_le s pos;(have N:lG (s[pos]'h)=Ul:=by unfold lG fH oI;simp;omega);have E:=hQz (qe (p:=lG) h N);have A:∀r,(Instr.next (ϖ w.heap.size) UJ r).run Pz (w.iter s pos)=_:=λr=>run_next_any w s pos r h;have o:=hQz (lK (n:=((Utf8.decode s pos).1:Int)) (a:=97) (b:=122) (by unfold bN;simp;omega));have j:=hQz (lK (n:=((Utf8.decode s pos).1:Int)) (a:=48) (b:=57) (by unfold bN;simp;omega));(have h0':(0:Int)<=((Utf8.decode s pos).1:Int):=by omega);clear N C M;go_wp2_with(go_at_call 81;(first|(with_reducible refine(o.out _).mono ?_)|(with_reducible refine(j.out _).mono ?_));rintro e w'⟨rfl,rfl⟩);go_ret;exact⟨by simp[aV,E.out],aeI _ _ _⟩};(obtain rfl:pos=s.size:=by omega);have A:∀r,(Instr.next (ϖ w.heap.size) UJ r).run Pz (w.iter s s.size)=_:=λr=>run_next_end w s s.size r h;(have Q:Hid (s.data.toList.all lG=UJ):=by show s.data.toList.all lG=UJ;rw[<-m.out,Tn Θ]);clear m;go_wp2;go_ret;exact⟨by simp only[aV,Q.out,D.out,B.out];simp,aeI _ _ _⟩
end
section
attribute[local go_sem↓]Go.wp_at_zero Go.wp_at_succ
def aeA(l:List ByteArray)(s:ByteArray):Bool:=l.any (s==·)
def pW(l:List ByteArray)(i:Nat):List MapEntry:=l.mapIdx λj s=>{key:=.string s,val:=.bool UJ,born:=i+j}
def fC(w:UL)(b:Nat)(l:List ByteArray):Prop:=w.heap[b]?=UG (.map (pW l 0).toArray l.length)
theorem Au(s:ByteArray)(l:List ByteArray)(i:Nat):pW (s::l) i={key:=.string s,val:=.bool UJ,born:=i}::pW l (i+1):=by simp[pW,Uq];grind
theorem FC(s:ByteArray):∀(l:List ByteArray)(i j:Nat),∃r,Instr.findNow .string (.string s) (pW l i) j=UG r/\(aeA l s=Ul->r=UM)/\(aeA l s=UJ->∃k,r=UG (k,.bool UJ))|[],i,j=>⟨UM,rfl,λ_=>rfl,λh=>by cases h⟩|x::l,i,j=>by rw[Au];by_cases b:(s==x)=UJ;{refine⟨UG (j,.bool UJ),by simp[Instr.findNow,Instr.sameNow,b],λh=>?_,λ_=>⟨j,rfl⟩⟩;simp[aeA,b]at h};(have b:(s==x)=Ul:=by simp_all);obtain⟨r,d,e,f⟩:=FC s l (i+1) (j+1);refine⟨r,by simp only[Instr.findNow,Instr.sameNow,b];exact d,λh=>e ?_,λh=>f ?_⟩;{simpa[aeA,b]using h};simpa[aeA,b]using h
theorem we(w:UL):(underlying 148).run Pz w=.ok (.map 9 4) w:=run_underlying (show Pz.underlying 148=UG (.map 9 4)by kernel_rfl) w
theorem BJ(w:UL):(underlying 9).run Pz w=.ok .string w:=run_underlying (show Pz.underlying 9=UG .string by kernel_rfl) w
theorem Bq(c:Bool)(s:ByteArray)(w:UL):(Instr.checkKey c 10000 9 (.string s)).run Pz w=.ok () w:=by(have:∀n,(Instr.checkKey c (n+1) 9 (.string s)).run Pz w=.ok () w:=λn=>by simp[Instr.checkKey,BJ]);simp_all
theorem sQ(h:fC w b l)(s:ByteArray):(Instr.lookup 148 (.map (UG b)) (.string s) Ul).run Pz w=.ok (.bool (aeA l s)) w:=by obtain⟨r,d,g,i⟩:=FC s l 0 0;have e:=(Me.bT h).1;cases f:aeA l s with|false=>obtain rfl:=g f;simp[Instr.lookup,we,e,Bq,Instr.findKey,BJ,d,zeroValue4]|true=>obtain⟨k,rfl⟩:=i f;simp[Instr.lookup,we,e,Bq,Instr.findKey,BJ,d]
def mR(w:UL)(b:Nat)(l:List ByteArray):UL:={w with heap:=w.heap.setIfInBounds b (.map (pW l 0).toArray l.length)}
theorem sT(h:fC w b l)(m:aeA l s=Ul):(Instr.mapUpdate 148 (.map (UG b)) (.string s) (.bool UJ)).run Pz w=.ok () (mR w b (l++[s]))/\fC (mR w b (l++[s])) b (l++[s]):=by obtain⟨r,g,i,o⟩:=FC s l 0 0;obtain rfl:=i m;have k:=(Me.bT h).1;have c:b<w.heap.size:=(So.1 h).1;(have j:((pW l 0).toArray.push {key:=.string s,val:=.bool UJ,born:=l.length})=(pW (l++[s]) 0).toArray:=by simp[pW,List.mapIdx_append]);constructor;{simp[Instr.mapUpdate,we,k,Bq,Instr.findKey,BJ,g,(Me.map_set h _ _).1,j,mR]};show(w.heap.setIfInBounds b _)[b]?=_;simp[c]
theorem sA{w0:UL}{B:Nat}(h:Below B w0 w)(a:B<=b):Below B w0 (mR w b l):=h.trans ⟨rfl,rfl,rfl,by simp[mR],λk c=>by show(w.heap.setIfInBounds b _)[k]?=_;grind⟩
theorem fC.below{w w':UL}{b B:Nat}{l:List ByteArray}(h:fC w b l)(c:Below B w w')(a:b<B):fC w' b l:=(c.block b a).trans h
end
section
attribute[local go_sem↓]Go.wp_at_zero Go.wp_at_succ
def fo(w:UL)(sv:UO)(ps:List aC):Prop:=
 (ps=[]/\∃a c,sv=.slice a 0 c)\/∃b off c:Nat,sv=.slice (UG ⟨b,off,UM⟩) ps.length c/\ps≠[]/\b<w.heap.size/\∀(j:Nat)(p:aC)(o:Nat)(v:UO),ps[j]?=UG p->p.vs[o]?=UG v->w.cell? ⟨b,off+j*6+o,UM⟩=UG v
def xv(p:aC):Bool:=bN p.day 0 999&&(bN p.kind 0 9&&(bN p.dH 1 24&&bN p.dN 0 999))
def jQ(seen:List ByteArray)(p:aC):Int:=if aV p.name=Ul then 4 else if aeA seen p.name=UJ then 5 else if aU p.label 3=Ul then 3 else if xv p=Ul then 1 else 0
def yp:List ByteArray->List aC->Int
 |_,[]=>0
 |seen,p::l=>if jQ seen p≠0 then jQ seen p else yp (seen++[p.name]) l
def qY(ps:List aC):Int:=if 8<ps.length then 2 else yp [] ps
def eK(ps:List aC)(k:Nat):List ByteArray:=(ps.take k).map (·.name)
theorem lp{ps:List aC}{p:aC}(h:ps[k]?=UG p):eK ps (k+1)=eK ps k++[p.name]:=by unfold eK;rw[TO,h];simp
theorem Ah{ps:List aC}{p:aC}(h:ps[k]?=UG p)(seen:List ByteArray):yp seen (ps.drop k)=if jQ seen p≠0 then jQ seen p else yp (seen++[p.name]) (ps.drop (k+1)):=by obtain⟨a,b⟩:=SG.1 h;rw[TG a,b];rfl
theorem yD{w1:UL}(a:Below W.heap.size W w1):(∀b o,b<W.heap.size->w1.cell? ⟨b,o,UM⟩=W.cell? ⟨b,o,UM⟩)/\(∀b o,b<W.heap.size->w1.frozen? ⟨b,o,UM⟩=W.frozen? ⟨b,o,UM⟩):=⟨λb o h=>a.cell (p:=⟨b,o,UM⟩) h,λb o h=>a.frozen (p:=⟨b,o,UM⟩) h⟩
theorem qM(w:UL)(o:Obj):fC ((w.alloc o).alloc (.map #[] 0)) (w.heap.size+1) []:=by show((w.heap.push o).push _)[w.heap.size+1]?=_;rw[SP,if_pos Θ];rfl
section
variable{p:aC}
theorem Gv(h:(!aV p.name)=UJ):jQ seen p=4:=by(have h:aV p.name=Ul:=by grind);simp[jQ,h]
theorem FA(h:(!aV p.name)=Ul)(a:aeA seen p.name=UJ):jQ seen p=5:=by(have h:aV p.name=UJ:=by grind);simp[jQ,h,a]
theorem E9(h:(!aV p.name)=Ul)(b:aeA seen p.name=Ul)(a:(!aU p.label 3)=UJ):jQ seen p=3:=by
 have h:aV p.name=UJ:=by grind
 have a:aU p.label 3=Ul:=by simp_all
 simp[jQ,h,b,a]
theorem mN(h:(!aV p.name)=Ul)(b:aeA seen p.name=Ul)(a:(!aU p.label 3)=Ul)(c:xv p=Ul):jQ seen p=1:=by
 have h:aV p.name=UJ:=by grind
 have a:aU p.label 3=UJ:=by simp_all
 simp[jQ,h,b,a,c]
theorem FD(h:(!aV p.name)=Ul)(b:aeA seen p.name=Ul)(a:(!aU p.label 3)=Ul)(c:xv p=UJ):jQ seen p=0:=by
 have h:aV p.name=UJ:=by grind
 have a:aU p.label 3=UJ:=by simp_all
 simp[jQ,h,b,a,c]
theorem Ov(h:(!bN p.day 0 999)=UJ):xv p=Ul:=by(have h:bN p.day 0 999=Ul:=by grind);simp[xv,h]
theorem Pj(h:(!bN p.kind 0 9)=UJ):xv p=Ul:=by(have h:bN p.kind 0 9=Ul:=by grind);simp[xv,h]
theorem Py(h:(!bN p.dH 1 24)=UJ):xv p=Ul:=by(have h:bN p.dH 1 24=Ul:=by grind);simp[xv,h]
theorem N7(h:(!bN p.dN 0 999)=UJ):xv p=Ul:=by(have h:bN p.dN 0 999=Ul:=by grind);simp[xv,h]
theorem PO(a:(!bN p.day 0 999)=Ul)(b:(!bN p.kind 0 9)=Ul)(c:(!bN p.dH 1 24)=Ul)(d:(!bN p.dN 0 999)=Ul):xv p=UJ:=by
 have a:bN p.day 0 999=UJ:=by simp_all
 have b:bN p.kind 0 9=UJ:=by simp_all
 have c:bN p.dH 1 24=UJ:=by simp_all
 have d:bN p.dN 0 999=UJ:=by simp_all
 simp[xv,a,b,c,d]
end
theorem aY{b:Int}(h:a=b):Ending.returned (Iv a)=.returned (Iv b):=by rw[h]
theorem fC.alloc(h:fC w b l)(a:b<w.heap.size)(o:Obj):fC (w.alloc o) b l:=by show(w.heap.push o)[b]?=_;rw[SP,if_neg (TJ a)];exact h
set_option maxRecDepth 100000 in set_option maxHeartbeats 8000000 in theorem xI(c:List aC)(sv nv:UO)(w:UL)(hP:fo w sv c)(hn:c.length<=1000)(hs:∀p∈c,p.name.size<4294967281/\p.label.size<4294967281):Vt Pz 65 #[.agg #[nv,sv]] w λe w'=>e=.returned (Iv (qY c))/\Below w.heap.size w w':=by rcases hP with⟨rfl,a,c',rfl⟩|⟨s,g,c',rfl,hne,hblk,m⟩;{have B:∀W:UL,(Instr.makeMap 148 UM).run Pz W=.ok (.map (UG W.heap.size)) (W.alloc (.map #[] 0)):=λW=>rfl;go_enter func65,ntmps65;go_wp2;clear B;go_loopw[16](λt wr=>t=Iv 0/\Below w.heap.size w wr)(λt _=>0);(case atStart=>exact⟨rfl,((Below.refl _ _).alloc (Sm _) _).alloc Θ _⟩);case round=>obtain⟨rfl,u⟩:=hrel;have HB:=hQz u;clear u;go_wp2;go_ret;exact⟨rfl,HB.out⟩};have HC:=hQz m;clear m;by_cases h8:8<c.length;{have n:Hid (qY c=2):=if_pos h8;(have h8':(8:Int)<c.length:=by omega);go_enter func65,ntmps65;go_wp2;go_ret;exact⟨by rw[n.out];rfl,(Below.refl _ _).alloc (Sm _) _⟩};have n:Hid (qY c=yp [] c):=if_neg h8;(have h8':(c.length:Int)<=8:=by omega);have B:∀W:UL,(Instr.makeMap 148 UM).run Pz W=.ok (.map (UG W.heap.size)) (W.alloc (.map #[] 0)):=λW=>rfl;go_enter func65,ntmps65;go_wp2;clear h8' B;go_loopw[16](λt wr=>∃k:Nat,k<=c.length/\t=Iv k/\Below w.heap.size w wr/\fC wr (w.heap.size+1) (eK c k)/\w.heap.size+1<wr.heap.size/\Hid (yp [] c=yp (eK c k) (c.drop k)))(λt _=>c.length-(intOf t).toNat);(case atStart=>exact⟨0,by omega,rfl,((Below.refl _ _).alloc (Sm _) _).alloc Θ _,qM _ _,by simp,rfl⟩);case round=>obtain⟨k,hk,rfl,u,hN,hsz,hg⟩:=hrel;by_cases hlt:k<c.length;{obtain⟨p,hp⟩:∃p,c[k]?=UG p:=⟨c[k],Sq hlt⟩;have b:∀(o:Nat)(v:UO),p.vs[o]?=UG v->wr.cell? ⟨s,g+k*6+o,UM⟩=UG v:=λo v ho=>(u.cell (p:=⟨s,g+k*6+o,UM⟩) hblk).trans (HC.out k p o v hp ho);have c0:wr.cell? ⟨s,g+k*6,UM⟩=UG (.string p.name):=b 0 _ rfl;have c1:wr.cell? ⟨s,g+k*6+1,UM⟩=UG (.string p.label):=b 1 _ rfl;have c2:wr.cell? ⟨s,g+k*6+2,UM⟩=UG (Iv p.day):=b 2 _ rfl;have c3:wr.cell? ⟨s,g+k*6+3,UM⟩=UG (Iv p.kind):=b 3 _ rfl;have c4:wr.cell? ⟨s,g+k*6+4,UM⟩=UG (Iv p.dH):=b 4 _ rfl;have c5:wr.cell? ⟨s,g+k*6+5,UM⟩=UG (Iv p.dN):=b 5 _ rfl;clear b;have HB:=hQz u;have HN:=hQz hN;have Hp:=hQz hp;have Hs:=hQz (hs p (Ss hp));clear u hN hp hs;have x:=λ(W:UL)(h:fC W (w.heap.size+1) (eK c k))(hh:aeA (eK c k) p.name=Ul)=>sT h hh;have HUP:=hQz x;clear x;go_wp2_with(first|(go_at_call 101;refine(so p.name _ Hs.out.1).mono ?_;rintro e w1⟨rfl,q⟩;obtain⟨hc1,hf1⟩:=yD q;have HN1:=hQz ((HN.out.alloc hsz _).below q (by simp;omega));have hl1:=sQ HN1.out p.name;have y:=hQz ((HB.out.alloc Ω _).trans (q.mono (by simp;omega)));have hz1:wr.heap.size<w1.heap.size:=by have:=q.size;simp at this;omega)|(go_at_call 61;refine(fL p.label 3 _ Hs.out.2).mono ?_;rintro e w2⟨rfl,r⟩;obtain⟨hc2,hf2⟩:=yD r;have HN2:=hQz (HN1.out.below r Ω);have i:=hQz (y.out.trans (r.mono Ω));(have hz2:w.heap.size+1<w2.heap.size:=by have:=r.size;omega);obtain⟨hup,hN3⟩:=HUP.out _ HN2.out ‹aeA (eK c k) p.name=Ul›;have HN3:=hQz hN3;clear hN3)|(go_at_call 81;refine(kh _ _ _ _).mono ?_;rintro e w'⟨rfl,rfl⟩));(all_goals try(first|exact absurd (Eq.trans (Eq.symm ‹(!bN p.day 0 999)=UJ›) ‹(!bN p.day 0 999)=Ul›) Δ|exact absurd (Eq.trans (Eq.symm ‹(!bN p.kind 0 9)=UJ›) ‹(!bN p.kind 0 9)=Ul›) Δ|exact absurd (Eq.trans (Eq.symm ‹(!bN p.dH 1 24)=UJ›) ‹(!bN p.dH 1 24)=Ul›) Δ));(all_goals try(go_roundw;(case rel=>exact⟨k+1,by omega,by go_num,sA i.out Ω,by rw[lp Hp.out];exact HN3.out,by simpa[mR]using hz2,by show _=_;rw[hg.out,Ah Hp.out,lp Hp.out,FD ‹_› ‹_› ‹_› (PO ‹_› ‹_› ‹_› ‹_›)];rfl⟩);case measure=>simp[intOf];omega));(all_goals(have z:yp [] c=if jQ (eK c k) p≠0 then jQ (eK c k) p else yp (eK c k++[p.name]) (c.drop (k+1)):=by rw[hg.out,Ah Hp.out]);go_ret);{exact⟨aY (by rw[n.out,z,Gv ‹_›];rfl),y.out⟩};{exact⟨aY (by rw[n.out,z,FA ‹_› ‹_›];rfl),y.out⟩};{exact⟨aY (by rw[n.out,z,E9 ‹_› ‹_› ‹_›];rfl),i.out⟩};{exact⟨aY (by rw[n.out,z,mN ‹_› ‹_› ‹_› (Ov ‹_›)];rfl),i.out⟩};{exact⟨aY (by rw[n.out,z,mN ‹_› ‹_› ‹_› (Pj ‹_›)];rfl),i.out⟩};{exact⟨aY (by rw[n.out,z,mN ‹_› ‹_› ‹_› (Py ‹_›)];rfl),i.out⟩};exact⟨aY (by rw[n.out,z,mN ‹_› ‹_› ‹_› (N7 ‹_›)];rfl),i.out⟩};(obtain rfl:k=c.length:=by omega);have HB:=hQz u;clear u hN hs;go_wp2;go_ret;exact⟨aY (by rw[n.out,hg.out];simp[yp]),HB.out⟩
end
section
attribute[local go_sem↓]Go.wp_at_zero Go.wp_at_succ
theorem fw.view{a:Option Addr}{n:Nat}(h:fw w (.slice a n c) ks):n=ks.length/\(ks≠[]->∃b off:Nat,a=UG ⟨b,off,UM⟩/\b<w.heap.size/\∀j k,ks[j]?=UG k->w.cell? ⟨b,off+j,UM⟩=UG (Iv k)):=by rcases h with⟨rfl,g,d,h⟩|⟨b,off,d,h,f,_,e,i⟩;{simp_all};grind
def qm:Option Int->List Int->Int
 |_,[]=>0
 |q,k::l=>if bN k 0 9=Ul then 1 else if q.any (k<=·)=UJ then 7 else qm (UG k) l
def iJ(ks:List Int)(j:Nat):Option Int:=if j=0 then UM else ks[j-1]?
theorem EX{j:Nat}{k:Int}(h:ks[j]?=UG k):qm (iJ ks j) (ks.drop j)=if bN k 0 9=Ul then 1 else if(iJ ks j).any (k<=·)=UJ then 7 else qm (iJ ks (j+1)) (ks.drop (j+1)):=by obtain⟨a,b⟩:=SG.1 h;rw[TG a,b];(have:iJ ks (j+1)=UG k:=by simp[iJ,h]);rw[this];rfl
def xu(n:bu):Bool:=bN n.reach 0 6&&(bN n.first 0 999&&(bN n.last 0 999&&decide (n.first<=n.last)))
def iP(seen:List ByteArray)(n:bu):Int:=if aV n.name=Ul then 4 else if aeA seen n.name=UJ then 5 else if aU n.word 0=Ul then 3 else if xu n=Ul then 1 else if qm UM n.ks≠0 then qm UM n.ks else if bN n.keep 0 60=Ul then 1 else 0
def goN:List ByteArray->List bu->Int
 |_,[]=>0
 |seen,n::l=>if iP seen n≠0 then iP seen n else goN (seen++[n.name]) l
def kH(ns:List bu):Int:=if 4<ns.length then 2 else goN [] ns
def cZ(ns:List bu)(k:Nat):List ByteArray:=(ns.take k).map (·.name)
theorem lF{ns:List bu}{n:bu}(h:ns[k]?=UG n):cZ ns (k+1)=cZ ns k++[n.name]:=by unfold cZ;rw[TO,h];simp
theorem Eu{ns:List bu}{n:bu}(h:ns[k]?=UG n)(seen:List ByteArray):goN seen (ns.drop k)=if iP seen n≠0 then iP seen n else goN (seen++[n.name]) (ns.drop (k+1)):=by obtain⟨a,b⟩:=SG.1 h;rw[TG a,b];rfl
set_option maxHeartbeats 8000000 in theorem Kr(d:Int)(w:UL):Vt Pz 100 #[Iv d] w λe w'=>e=.returned (.bool (bN d 0 999))/\w=w':=by have b:=hQz (kh d 0 999);go_enter func100,ntmps100;go_wp2_with(refine(b.out _).mono ?_;rintro e w'⟨rfl,rfl⟩);go_ret;simp
section
variable{n:bu}
theorem Ei(h:(!aV n.name)=UJ):iP seen n=4:=by(have h:aV n.name=Ul:=by grind);simp[iP,h]
theorem EN(h:(!aV n.name)=Ul)(a:aeA seen n.name=UJ):iP seen n=5:=by(have h:aV n.name=UJ:=by grind);simp[iP,h,a]
theorem EV(h:(!aV n.name)=Ul)(b:aeA seen n.name=Ul)(a:(!aU n.word 0)=UJ):iP seen n=3:=by
 have h:aV n.name=UJ:=by grind
 have a:aU n.word 0=Ul:=by simp_all
 simp[iP,h,b,a]
theorem qs(h:(!aV n.name)=Ul)(b:aeA seen n.name=Ul)(a:(!aU n.word 0)=Ul)(c:xu n=Ul):iP seen n=1:=by
 have h:aV n.name=UJ:=by grind
 have a:aU n.word 0=UJ:=by simp_all
 simp[iP,h,b,a,c]
theorem wE(h:(!aV n.name)=Ul)(b:aeA seen n.name=Ul)(a:(!aU n.word 0)=Ul)(c:xu n=UJ):iP seen n=if qm UM n.ks≠0 then qm UM n.ks else if bN n.keep 0 60=Ul then 1 else 0:=by
 have h:aV n.name=UJ:=by grind
 have a:aU n.word 0=UJ:=by simp_all
 simp[iP,h,b,a,c]
theorem OA(h:(!bN n.reach 0 6)=UJ):xu n=Ul:=by(have h:bN n.reach 0 6=Ul:=by grind);simp[xu,h]
theorem Oz(h:(!bN n.first 0 999)=UJ):xu n=Ul:=by(have h:bN n.first 0 999=Ul:=by grind);simp[xu,h]
theorem OD(h:(!bN n.last 0 999)=UJ):xu n=Ul:=by(have h:bN n.last 0 999=Ul:=by grind);simp[xu,h]
theorem Pd(a:(!bN n.reach 0 6)=Ul)(b:(!bN n.first 0 999)=Ul)(c:(!bN n.last 0 999)=Ul)(d:n.first<=n.last):xu n=UJ:=by
 have a:bN n.reach 0 6=UJ:=by simp_all
 have b:bN n.first 0 999=UJ:=by simp_all
 have c:bN n.last 0 999=UJ:=by simp_all
 simp[xu,a,b,c,d]
end
theorem C6(w:UL)(b:Nat)(l:List ByteArray)(x o:Nat)(h:x≠b):(mR w b l).cell? ⟨x,o,UM⟩=w.cell? ⟨x,o,UM⟩:=by apply UL.cell?_of_block;show(w.heap.setIfInBounds b _)[x]?=_;grind
theorem Ak{c:Int}(h:g=c)(a:c≠0):(if(if g≠0 then g else q)≠0 then(if g≠0 then g else q)else r)=c:=by omega
theorem ED(h:g=0):(if(if g≠0 then g else q)≠0 then(if g≠0 then g else q)else r)=if q≠0 then q else r:=by simp[h]
set_option maxRecDepth 100000 in set_option maxHeartbeats 16000000 in theorem D3(ns:List bu)(sv pv:UO)(w:UL)(hN:fE w sv ns)(hn:ns.length<=1000)(hs:∀n∈ns,n.name.size<4294967281/\n.word.size<4294967281/\n.ks.length<=1000)(hK:∀n∈ns,fw w n.sv n.ks):Vt Pz 64 #[.agg #[sv,pv]] w λe w'=>e=.returned (Iv (kH ns))/\Below w.heap.size w w':=by rcases hN with⟨rfl,a,c',rfl⟩|⟨bn,off,c',rfl,hne,hblk,hcell⟩;{have hmk:∀W:UL,(Instr.makeMap 148 UM).run Pz W=.ok (.map (UG W.heap.size)) (W.alloc (.map #[] 0)):=λW=>rfl;clear hK hs;go_enter func64,ntmps64;go_wp2;clear hmk;go_loopw[19](λt wr=>t=Iv 0/\Below w.heap.size w wr)(λt _=>0);(case atStart=>exact⟨rfl,((Below.refl _ _).alloc (Sm _) _).alloc Θ _⟩);case round=>obtain⟨rfl,hB⟩:=hrel;have HB:=hQz hB;clear hB;go_wp2;go_ret;exact⟨rfl,HB.out⟩};have HC:=hQz hcell;have HK:=hQz hK;clear hcell hK;by_cases h8:4<ns.length;{have H8:Hid (kH ns=2):=if_pos h8;(have h8':(4:Int)<ns.length:=by omega);go_enter func64,ntmps64;go_wp2;go_ret;exact⟨by rw[H8.out];rfl,(Below.refl _ _).alloc (Sm _) _⟩};have H8:Hid (kH ns=goN [] ns):=if_neg h8;(have h8':(ns.length:Int)<=4:=by omega);have hmk:∀W:UL,(Instr.makeMap 148 UM).run Pz W=.ok (.map (UG W.heap.size)) (W.alloc (.map #[] 0)):=λW=>rfl;go_enter func64,ntmps64;go_wp2;clear h8' hmk;go_loopw[19](λt wr=>∃k:Nat,k<=ns.length/\t=Iv k/\Below w.heap.size w wr/\fC wr (w.heap.size+1) (cZ ns k)/\w.heap.size+1<wr.heap.size/\Hid (goN [] ns=goN (cZ ns k) (ns.drop k)))(λt _=>ns.length-(intOf t).toNat);(case atStart=>exact⟨0,by omega,rfl,((Below.refl _ _).alloc (Sm _) _).alloc Θ _,qM _ _,by simp,rfl⟩);case round=>obtain⟨k,hk,rfl,hB,hN,hsz,hg⟩:=hrel;by_cases hlt:k<ns.length;{obtain⟨n,hp⟩:∃n,ns[k]?=UG n:=⟨ns[k],Sq hlt⟩;have cellAt':∀(o:Nat)(v:UO),n.vs[o]?=UG v->wr.cell? ⟨bn,off+k*7+o,UM⟩=UG v:=λo v ho=>(hB.cell (p:=⟨bn,off+k*7+o,UM⟩) hblk).trans (HC.out k n o v hp ho);have hI:=HK.out n (Ss hp);have hS:=hs n (Ss hp);(have HG0:Hid (goN [] ns=if iP (cZ ns k) n≠0 then iP (cZ ns k) n else goN (cZ ns (k+1)) (ns.drop (k+1))):=by show _=_;rw[hg.out,Eu hp,lF hp]);have HSS:=hQz (lF hp);clear hg hp hs;obtain⟨name,word,reach,first,last,ka,kn,kc,ks,keep⟩:=n;obtain⟨hkn,hkv⟩:=hI.view;dsimp only at hkn hkv hS;subst hkn;have c0:wr.cell? ⟨bn,off+k*7,UM⟩=UG (.string name):=cellAt' 0 _ rfl;have c1:wr.cell? ⟨bn,off+k*7+1,UM⟩=UG (.string word):=cellAt' 1 _ rfl;have c2:wr.cell? ⟨bn,off+k*7+2,UM⟩=UG (Iv reach):=cellAt' 2 _ rfl;have c3:wr.cell? ⟨bn,off+k*7+3,UM⟩=UG (Iv first):=cellAt' 3 _ rfl;have c4:wr.cell? ⟨bn,off+k*7+4,UM⟩=UG (Iv last):=cellAt' 4 _ rfl;have c5:wr.cell? ⟨bn,off+k*7+5,UM⟩=UG (.slice ka ks.length kc):=cellAt' 5 _ rfl;have c6:wr.cell? ⟨bn,off+k*7+6,UM⟩=UG (Iv keep):=cellAt' 6 _ rfl;clear cellAt' hI;have HB:=hQz hB;have HN:=hQz hN;have HKV:=hQz hkv;have HS:=hQz hS;clear hB hN hkv hS;have hup0:=λ(W:UL)(h:fC W (w.heap.size+1) (cZ ns k))(hh:aeA (cZ ns k) name=Ul)=>sT h hh;have HUP:=hQz hup0;have HTC:=hQz (λ(W:UL)(x o:Nat)(h:x≠w.heap.size+1)=>C6 W (w.heap.size+1) (cZ ns k++[name]) x o h);have hcap:ks.length<=1000:=HS.out.2.2;clear hup0;go_wp2_with(first|(go_at_call 101;refine(so name _ HS.out.1).mono ?_;rintro e w1⟨rfl,hB1⟩;obtain⟨hc1,hf1⟩:=yD hB1;have HN1:=hQz ((HN.out.alloc hsz _).below hB1 (by simp;omega));have hl1:=sQ HN1.out name;have HB1:=hQz ((HB.out.alloc Ω _).trans (hB1.mono (by simp;omega)));(have hz1:wr.heap.size<w1.heap.size:=by have:=hB1.size;simp at this;omega);(have b5:w1.cell? ⟨wr.heap.size,5,UM⟩=UG (.slice ka ks.length kc):=by rw[hc1 _ _ Θ];rw[UL.cell?_alloc_new];rfl);have b6:w1.cell? ⟨wr.heap.size,6,UM⟩=UG (Iv keep):=by rw[hc1 _ _ Θ];rw[UL.cell?_alloc_new];rfl)|(go_at_call 61;refine(fL word 0 _ HS.out.2.1).mono ?_;rintro e w2⟨rfl,hB2⟩;obtain⟨hc2,hf2⟩:=yD hB2;have HN2:=hQz (HN1.out.below hB2 Ω);have HB2:=hQz (HB1.out.trans (hB2.mono Ω));(have hz2:wr.heap.size<w2.heap.size:=by have:=hB2.size;omega);obtain⟨hup,hN3⟩:=HUP.out _ HN2.out ‹aeA (cZ ns k) name=Ul›;have HN3:=hQz hN3;have t5:=(HTC.out w2 wr.heap.size 5 Ω).trans ((hc2 _ _ Ω).trans b5);have t6:=(HTC.out w2 wr.heap.size 6 Ω).trans ((hc2 _ _ Ω).trans b6);clear hN3)|(go_at_call 81;refine(kh _ _ _ _).mono ?_;rintro e w'⟨rfl,rfl⟩)|(go_at_call 100;refine(Kr _ _).mono ?_;rintro e w'⟨rfl,rfl⟩));(all_goals try(first|exact absurd (Eq.trans (Eq.symm ‹(!bN reach 0 6)=UJ›) ‹(!bN reach 0 6)=Ul›) Δ|exact absurd (Eq.trans (Eq.symm ‹(!bN first 0 999)=UJ›) ‹(!bN first 0 999)=Ul›) Δ|exact absurd (Eq.trans (Eq.symm ‹(!bN last 0 999)=UJ›) ‹(!bN last 0 999)=Ul›) Δ));{go_ret;exact⟨aY (by rw[H8.out,HG0.out,Ei ‹_›];rfl),HB1.out⟩};{go_ret;exact⟨aY (by rw[H8.out,HG0.out,EN ‹_› ‹_›];rfl),HB1.out⟩};{go_ret;exact⟨aY (by rw[H8.out,HG0.out,EV ‹_› ‹_› ‹_›];rfl),HB2.out⟩};{go_ret;exact⟨aY (by rw[H8.out,HG0.out,qs ‹_› ‹_› ‹_› (OA ‹_›)];rfl),HB2.out⟩};{go_ret;exact⟨aY (by rw[H8.out,HG0.out,qs ‹_› ‹_› ‹_› (Oz ‹_›)];rfl),HB2.out⟩};{go_ret;exact⟨aY (by rw[H8.out,HG0.out,qs ‹_› ‹_› ‹_› (OD ‹_›)];rfl),HB2.out⟩};{go_ret;exact⟨aY (by rw[H8.out,HG0.out,qs ‹_› ‹_› ‹_› (by unfold xu;have:=‹last<first›;simp;omega)];rfl),HB2.out⟩};(have HO:Hid (goN [] ns=if(if qm UM ks≠0 then qm UM ks else if bN keep 0 60=Ul then 1 else 0)≠0 then(if qm UM ks≠0 then qm UM ks else if bN keep 0 60=Ul then 1 else 0)else goN (cZ ns (k+1)) (ns.drop (k+1))):=by show _=_;rw[HG0.out,wE ‹_› ‹_› ‹_› (Pd ‹_› ‹_› ‹_› ‹_›)]);have HB3:=hQz (sA (l:=cZ ns k++[name]) HB2.out (Tl w.heap.size));(have hsz2:w.heap.size+1<(mR w' (w.heap.size+1) (cZ ns k++[name])).heap.size:=by simp[mR];omega);(have HKC:Hid (ks≠[]->∃b off:Nat,ka=UG ⟨b,off,UM⟩/\∀j κ,ks[j]?=UG κ->(mR w' (w.heap.size+1) (cZ ns k++[name])).cell? ⟨b,off+j,UM⟩=UG (Iv κ)):=λh=>by obtain⟨b,o,h1,h2,h3⟩:=HKV.out h;refine⟨b,o,h1,λj κ hj=>?_⟩;rw[HTC.out w' b (o+j) Ω,hc2 _ _ Ω,hc1 _ _ (by simp;omega),UL.cell?_alloc_lt _ _ _ (by show b<wr.heap.size;omega),HB.out.cell (p:=⟨b,o+j,UM⟩) h2];exact h3 j κ hj);generalize mR w' (w.heap.size+1) (cZ ns k++[name])=W2 at t5 t6 HB3 HN3 hsz2 HKC⊢;clear hc1 hf1 HN1 hl1 HB1 hz1 hc2 hf2 HN2 HB2 hz2 hup HTC HUP HS HKV HG0 HB HN c0 c1 c2 c3 c4 c5 c6 hB2 hB1;simp only[‹(!bN reach 0 6)=Ul›,‹(!bN first 0 999)=Ul›,‹(!bN last 0 999)=Ul›,‹(!aV name)=Ul›,‹(!aU word 0)=Ul›,‹aeA (cZ ns k) name=Ul›];go_loopw[68](λt wr'=>∃j:Nat,j<=ks.length/\t=Iv j/\wr'=W2/\Hid (qm UM ks=qm (iJ ks j) (ks.drop j)))(λt _=>ks.length-(intOf t).toNat);(case atStart=>exact⟨0,by omega,rfl,rfl,rfl⟩);case round=>obtain⟨j,hj,rfl,rfl,hgk⟩:=hrel;by_cases hjl:j<ks.length;{obtain⟨κ,hκ⟩:∃κ,ks[j]?=UG κ:=⟨ks[j],Sq hjl⟩;obtain⟨b,o,rfl,hcl⟩:=HKC.out (by rintro rfl;cases hjl);have e0:=hcl j κ hκ;have HGK:Hid (qm UM ks=if bN κ 0 9=Ul then 1 else if(iJ ks j).any (κ<=·)=UJ then 7 else qm (iJ ks (j+1)) (ks.drop (j+1))):=hgk.out.trans (EX hκ);rcases j with _|i;{have HP:Hid (iJ ks 0=UM):=rfl;simp only[SQ]at e0;clear hcl hgk hκ;go_wp2_with(go_at_call 81;refine(kh _ _ _ _).mono ?_;rintro e w'⟨rfl,rfl⟩);{go_ret;(have hb:bN κ 0 9=Ul:=by simpa using‹(!bN κ 0 9)=UJ›);exact⟨aY (by rw[H8.out,HO.out,Ak (HGK.out.trans (if_pos hb)) Δ]),HB3.out⟩};go_roundw;(case rel=>(have hb:bN κ 0 9=UJ:=by simpa using‹(!bN κ 0 9)=Ul›);exact⟨1,by omega,by go_num,by trivial,by show _=_;rw[HGK.out,if_neg (by simp[hb]),if_neg (by simp[HP.out])]⟩);case measure=>simp[intOf];omega};obtain⟨κ',hκ'⟩:∃κ',ks[i]?=UG κ':=⟨ks[i],Sq Ω⟩;have e1:=hcl i κ' hκ';(have HP:Hid (iJ ks (i+1)=UG κ'):=by simp[Hid,iJ,hκ']);clear hcl hgk hκ hκ';go_wp2_with(go_at_call 81;refine(kh _ _ _ _).mono ?_;rintro e w'⟨rfl,rfl⟩);{go_ret;(have hb:bN κ 0 9=Ul:=by simpa using‹(!bN κ 0 9)=UJ›);exact⟨aY (by rw[H8.out,HO.out,Ak (HGK.out.trans (if_pos hb)) Δ]),HB3.out⟩};{go_ret;(have hb:bN κ 0 9=UJ:=by simpa using‹(!bN κ 0 9)=Ul›);exact⟨aY (by rw[H8.out,HO.out,Ak (HGK.out.trans (by rw[if_neg (by simp[hb]),if_pos (by rw[HP.out];simpa using‹κ<=κ'›)])) Δ]),HB3.out⟩};go_roundw;(case rel=>(have hb:bN κ 0 9=UJ:=by simpa using‹(!bN κ 0 9)=Ul›);exact⟨i+1+1,by omega,by go_num,by trivial,by show _=_;rw[HGK.out,if_neg (by simp[hb]),if_neg (by rw[HP.out];have:=‹κ'<κ›;simp;omega)]⟩);case measure=>simp[intOf];omega};(obtain rfl:j=ks.length:=by omega);have HE:Hid (qm UM ks=0):=hgk.out.trans (by simp[qm]);clear hgk HKC;go_wp2_with(go_at_call 81;refine(kh _ _ _ _).mono ?_;rintro e w'⟨rfl,rfl⟩);{go_ret;(have hb:bN keep 0 60=Ul:=by simpa using‹(!bN keep 0 60)=UJ›);exact⟨aY (by rw[H8.out,HO.out,ED HE.out,if_pos hb];rfl),HB3.out⟩};go_roundw;(case rel=>(have hb:bN keep 0 60=UJ:=by simpa using‹(!bN keep 0 60)=Ul›);exact⟨k+1,by omega,by go_num,HB3.out,by rw[HSS.out];exact HN3.out,hsz2,by show _=_;rw[HO.out,ED HE.out,if_neg (by simp[hb])]⟩);case measure=>simp[intOf];omega};(obtain rfl:k=ns.length:=by omega);have HB:=hQz hB;clear hB hN hs;go_wp2;go_ret;exact⟨aY (by rw[H8.out,hg.out];simp[goN]),HB.out⟩
end
section
attribute[local go_sem↓]Go.wp_at_zero Go.wp_at_succ
theorem fo.below{w w':UL}{sv:UO}{ps:List aC}(h:fo w sv ps)(e:Below w.heap.size w w'):fo w' sv ps:=by rcases h with h|⟨b,a,c,f,g,d,i⟩;{exact .inl h};exact .inr ⟨b,a,c,f,g,Sn d e.size,λj n o v k l=>(e.cell (p:=⟨b,a+j*6+o,UM⟩) d).trans (i j n o v k l)⟩
def eL(ns:List bu)(ps:List aC):Int:=if kH ns=0 then qY ps else kH ns
set_option maxHeartbeats 8000000 in theorem uz(d:List bu)(i:List aC)(k l:UO)(w:UL)(y:fE w k d)(hP:fo w l i)(D:d.length<=1000)(E:i.length<=1000)(B:∀n∈d,n.name.size<4294967281/\n.word.size<4294967281/\n.ks.length<=1000)(A:∀p∈i,p.name.size<4294967281/\p.label.size<4294967281)(hK:∀n∈d,fw w n.sv n.ks):Vt Pz 22 #[.agg #[k,l]] w λe w'=>e=.returned (Iv (eL d i))/\Below w.heap.size w w':=by have g:Below w.heap.size w (w.alloc (.cells #[k,l] 25)):=(Below.refl _ _).alloc (Sm _) _;have j:=hQz (D3 d k l (w.alloc (.cells #[k,l] 25)) (y.below g) D B λn h=>(hK n h).below g);have o:=hQz (λ(W:UL)(h:Below w.heap.size w W)=>xI i l k W (hP.below h) E A);have m:=hQz g;clear y hP B A hK g;by_cases s:kH d=0;{have u:Hid (eL d i=qY i):=if_pos s;rw[s]at j;clear s;go_enter func22,ntmps22;go_wp2_with(first|(go_at_call 64;refine j.out.mono ?_;rintro e v⟨rfl,f⟩;have b:=hQz (m.out.trans (f.mono Θ));obtain⟨r,C⟩:=yD f;(have G:v.cell? ⟨w.heap.size,0,UM⟩=UG k:=by rw[r _ _ Θ];rw[UL.cell?_alloc_new];rfl);have H:v.cell? ⟨w.heap.size,1,UM⟩=UG l:=by rw[r _ _ Θ];rw[UL.cell?_alloc_new];rfl)|(go_at_call 65;refine(o.out _ b.out).mono ?_;rintro e F⟨rfl,q⟩;have t:=hQz (b.out.trans (q.mono b.out.size))));go_ret;exact⟨aY u.out.symm,t.out⟩};have u:Hid (eL d i=kH d):=if_neg s;(have I:(kH d==0)=Ul:=by simp_all);go_enter func22,ntmps22;go_wp2_with(first|(go_at_call 64;refine j.out.mono ?_;rintro e v⟨rfl,f⟩;have b:=hQz (m.out.trans (f.mono Θ)))|(go_at_call 65;refine(o.out _ b.out).mono ?_;rintro e F⟨rfl,q⟩));go_ret;exact⟨aY u.out.symm,b.out⟩
def lU(wd s:ByteArray):Bool:=aU wd 0&&aU s 3
theorem oX{x:ByteArray}{k:Int}(h:aU x k=UJ):x.size<=6:=by unfold aU at h;simp_all
set_option maxHeartbeats 8000000 in theorem Jm(wd s:ByteArray)(w:UL)(j:wd.size<1000000000000000)(l:s.size<1000000000000000)(h:lU wd s=Ul):Vt Pz 20 #[.string wd,.string s] w λe w'=>e=.returned (.tuple #[Iv 0,Iv 0,Iv 3])/\Below w.heap.size w w':=by cases g:aU wd 0 with|false=>have c:=hQz (aak wd 0 w j);rw[g]at c;clear h;go_enter func20,ntmps20;go_wp2_with(first|(go_at_call 61;refine c.out.mono ?_;rintro e m⟨rfl,b⟩));go_ret3;simp_all|true=>(have k:aU s 3=Ul:=by simpa[lU,g]using h);have c:=hQz (aak wd 0 w j);have i:=hQz (λW=>aak s 3 W l);rw[g]at c;rw[k]at i;clear h;go_enter func20,ntmps20;go_wp2_with(first|(go_at_call 61;with_reducible refine c.out.mono ?_;rintro e m⟨rfl,b⟩)|(go_at_call 61;with_reducible refine(i.out _).mono ?_;rintro e n⟨rfl,f⟩));go_ret3;exact⟨rfl,b.trans (f.mono b.size)⟩
set_option maxHeartbeats 8000000 in theorem yj(wd s:ByteArray)(w:UL)(p:lU wd s=UJ):Vt Pz 20 #[.string wd,.string s] w λe w'=>e=.returned (.tuple #[Iv (dp wd s 0 wd.size s.size:Nat),Iv (dp wd s 1 wd.size s.size:Nat),Iv 0])/\Below w.heap.size w w':=by(have⟨i,j⟩:aU wd 0=UJ/\aU s 3=UJ:=by simpa[lU]using p);have l:=oX i;have m:=oX j;have n:=hQz (fL wd 0 w Ω);have o:=hQz (λW=>fL s 3 W Ω);rw[i]at n;rw[j]at o;have f:Hid (∀W,Vt Pz 62 #[.string wd,.string s,Iv 0] W λe w'=>e=.returned (Iv (dp wd s 0 wd.size s.size:Nat))/\Below W.heap.size W w'):=λW=>pw wd s 0 W Ω m l;have g:Hid (∀W,Vt Pz 62 #[.string wd,.string s,Iv 1] W λe w'=>e=.returned (Iv (dp wd s 1 wd.size s.size:Nat))/\Below W.heap.size W w'):=λW=>pw wd s 1 W Ω m l;clear p i j l m;go_enter func20,ntmps20;go_wp2_with(first|(go_at_call 61;with_reducible refine n.out.mono ?_;rintro e q⟨rfl,a⟩)|(go_at_call 61;with_reducible refine(o.out _).mono ?_;rintro e r⟨rfl,c⟩)|(go_at_call 62;with_reducible refine(f.out _).mono ?_;rintro e t⟨rfl,d⟩)|(go_at_call 62;with_reducible refine(g.out _).mono ?_;rintro e u⟨rfl,k⟩));go_ret3;exact⟨rfl,((a.trans (c.mono a.size)).trans (d.mono (a.trans (c.mono a.size)).size)).trans (k.mono ((a.trans (c.mono a.size)).trans (d.mono (a.trans (c.mono a.size)).size)).size)⟩
theorem qv(n a b:Int)(w:UL):Vt Pz 53 #[Iv n,Iv a,Iv b] w λe w'=>e=.returned (.bool (decide (a<=n/\n<=b)))/\w'=w:=by by_cases f:a<=n;{by_cases d:n<=b;{go_enter func53,ntmps53;go_wp2;go_ret;simp[f,d]};go_enter func53,ntmps53;go_wp2;go_ret;simp[d]};go_enter func53,ntmps53;go_wp2;go_ret;simp;omega
theorem zY(h:k<s.size):(s.data.toList.take (k+1)).count 63=(s.data.toList.take k).count 63+(if s[k]'h=63 then 1 else 0):=by rw[Vi (by simpa using h),Ur,List.count_singleton];show _+(if((s[k]'h)==63)=UJ then 1 else 0)=_;simp
set_option maxHeartbeats 8000000 in theorem aaM(s:ByteArray)(n:Int)(w:UL)(M:s.size<1000000000000000):Vt Pz 42 #[.string s,Iv n] w λe w'=>e=.returned (.bool (aU s n))/\w'=w:=by go_enter func42,ntmps42;go_wp2;go_loopw[5,6](λc t J=>∃k:Nat,k<=s.size/\t=Iv k/\c=Iv ((s.data.toList.take k).count 63:Nat)/\J=w/\Hid ((s.data.toList.take k).all pS=UJ))(λ_ t _=>s.size-(intOf t).toNat);(case atStart=>exact⟨0,SK _,rfl,by simp,rfl,by simp[Hid]⟩);case round=>obtain⟨k,L,rfl,rfl,rfl,a⟩:=hrel;by_cases b:k<s.size;{have I:(s.data.toList.take k).count 63<=k:=Sx List.count_le_length (by simp;omega);have m:=hQz (zY b);by_cases d:(s[k]'b)=63;{have f:=hQz (iA b a (by unfold pS;rw[d];rfl));(have h:Hid ((s.data.toList.take (k+1)).count 63=(s.data.toList.take k).count 63+1):=by show _=_;rw[m.out,if_pos d]);(have r:(((s[k]'b).toNat:Int)==63)=UJ:=by rw[d];rfl);generalize y:(s.data.toList.take k).count 63=E at*;clear a d m y;go_wp2;go_roundw;(case rel=>exact⟨k+1,b,by go_num,by rw[h.out];go_num,by first|rfl|trivial,f⟩);case measure=>simp[intOf];omega};(have r:(((s[k]'b).toNat:Int)==63)=Ul:=by rw[beq_eq_false_iff_ne];exactλe=>d (by apply UInt8.toNat_inj.1;exact UB e));(have h:Hid ((s.data.toList.take (k+1)).count 63=(s.data.toList.take k).count 63):=by show _=_;rw[m.out,if_neg d];rfl);by_cases i:fH (s[k]'b)=UJ;{have f:=hQz (iA b a (by unfold pS;rw[i];rfl));(have j:97<=(s[k]'b).toNat/\(s[k]'b).toNat<=122:=by simpa[fH]using i);(have C:decide (((s[k]'b).toNat:Int)<97)=Ul:=by simp;omega);(have F:decide ((122:Int)<((s[k]'b).toNat:Int))=Ul:=by simp;omega);generalize y:(s.data.toList.take k).count 63=E at*;clear a d m y i j;go_wp2;go_roundw;(case rel=>exact⟨k+1,b,by go_num,by rw[h.out],by first|rfl|trivial,f⟩);case measure=>simp[intOf];omega};(have i:fH (s[k]'b)=Ul:=by simpa using i);(have x:pS (s[k]'b)=Ul:=by unfold pS;rw[i];simpa using d);have f:=hQz (qe b x);(have j:¬(97<=(s[k]'b).toNat/\(s[k]'b).toNat<=122):=by simpa[fH]using i);by_cases G:(s[k]'b).toNat<97;{(have C:decide (((s[k]'b).toNat:Int)<97)=UJ:=by simp;omega);clear a d m i j x h;go_wp2;go_ret;exact⟨by unfold aU lD;rw[f.out];rfl,rfl⟩};(have C:decide (((s[k]'b).toNat:Int)<97)=Ul:=by simp;omega);(have F:decide ((122:Int)<((s[k]'b).toNat:Int))=UJ:=by simp;omega);clear a d m i j x h;go_wp2;go_ret;exact⟨by unfold aU lD;rw[f.out];rfl,rfl⟩};(obtain rfl:k=s.size:=by omega);(have B:Hid (lD s=UJ):=by unfold lD;rw[<-a.out,Tn Θ];rfl);(have H:(s.data.toList.take s.size).count 63=Me.cnt s:=by rw[Tn Θ];rfl);rw[H]at*;have u:=hQz λw=>qv (s.size:Int) 1 6 w;clear a;by_cases o:(1:Int)<=s.size/\(s.size:Int)<=6;{(have q:decide ((1:Int)<=s.size/\(s.size:Int)<=6)=UJ:=by simpa using o);have v:=hQz o;rw[q]at u;clear o q;go_wp2_with(go_at_call 53;refine(u.out _).mono ?_;rintro e w'⟨rfl,rfl⟩);go_ret;exact⟨by have:=v.out;simp[aU,B.out];omega,rfl⟩};(have q:decide ((1:Int)<=s.size/\(s.size:Int)<=6)=Ul:=by simpa using o);have v:=hQz o;rw[q]at u;clear o q;go_wp2_with(go_at_call 53;refine(u.out _).mono ?_;rintro e w'⟨rfl,rfl⟩);go_ret;exact⟨by have:=v.out;simp[aU,B.out];omega,rfl⟩
theorem fS(s:ByteArray)(n:Int)(w:UL)(M:s.size<4294967281):Vt Pz 42 #[.string s,Iv n] w λe w'=>e=.returned (.bool (aU s n))/\w'=w:=aaM s n w (by omega)
end
end Go.Proofs
