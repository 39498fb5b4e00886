/- A part of the proof that PortReached holds for every input. Conditions: none. -/
import Derived.Test.YtobmepfondcekaaGreatDoorZ15
import Derived.Shelf.Strings.Search3
import Derived.Shelf.Strings.Count
import Derived.Shelf.Slices.Turned
import Derived.Shelf.LaysM
import Derived.Ground.Names2Prog
import Derived.Shelf.Small.Bits
import Derived.Laws.RangeAny
import Derived.Carry
set_option linter.all false
open Go.Lib renaming hid->Hi
open Go.Proofs.Tryz renaming prog->Pz
open Go renaming Calls->Vt,Value->UO,World->UL
open Bool renaming false->Ul,true->UJ
open Option renaming none->UM,some->UG
open Go.Proofs.Tryz
namespace Go.Proofs
open Go.RowKit
section
attribute[local go_sem↓]Go.wp_at_zero Go.wp_at_succ
theorem gT.start{bg C:Nat}{f:Nat->Nat->Nat}{W:UL}(h:W.heap[bg]?=UG (.cells (Array.replicate 49 (Iv 0)) 146)):gT bg f C 0 0 W W:=by refine⟨λa b _ c=>by omega,λo d=>⟨0,?_,?_⟩,λ_ _=>rfl,rfl,rfl,rfl,rfl⟩;{simp[UL.cell?,h,d]};simp[UL.frozen?,h]
def vq(w:UL)(wd s:ByteArray)(cost:Nat):UL:=(((w.alloc (.cells #[.string wd] 9)).alloc (.cells #[.string s] 9)).alloc (.cells #[Iv cost] 3)).alloc (.cells (Array.replicate 49 (Iv 0)) 146)
theorem x8(w:UL)(wd s:ByteArray)(a:Nat):(vq w wd s a).heap[w.heap.size]?=UG (.cells #[.string wd] 9)/\(vq w wd s a).heap[w.heap.size+1]?=UG (.cells #[.string s] 9)/\(vq w wd s a).heap[w.heap.size+1+1]?=UG (.cells #[Iv a] 3)/\(vq w wd s a).heap[w.heap.size+1+1+1]?=UG (.cells (Array.replicate 49 (Iv 0)) 146)/\Below w.heap.size w (vq w wd s a):=by have e:(vq w wd s a).heap=(((w.heap.push (.cells #[.string wd] 9)).push (.cells #[.string s] 9)).push (.cells #[Iv a] 3)).push (.cells (Array.replicate 49 (Iv 0)) 146):=rfl;refine⟨?_,?_,?_,?_,⟨rfl,rfl,rfl,by grind,λk b=>?_⟩⟩;{grind};{grind};{grind};{grind};grind
theorem cell1{w:UL}{b:Nat}{v:UO}{t:TypeId}(h:w.heap[b]?=UG (.cells #[v] t)):w.cell? ⟨b,0,UM⟩=UG v:=by simp[UL.cell?,h]
theorem gT.below{B bg C i k:Nat}{f:Nat->Nat->Nat}{a w0 w':UL}(h:gT bg f C i k w0 w')(b:Below B a w0)(d:B<=bg):Below B a w':=⟨h.os.trans b.os,h.tape.trans b.tape,h.output.trans b.output,by have:=b.size;have:=h.size;omega,λk c=>(h.other k Ω).trans (b.block k c)⟩
set_option maxHeartbeats 8000000 in theorem pw(wd s:ByteArray)(a:Nat)(w:UL)(q:a<=1)(r:s.size<=6)(h:wd.size<=6):Vt Pz 62 #[.string wd,.string s,Iv a] w λe w'=>e=.returned (Iv (dp wd s a wd.size s.size:Nat))/\Below w.heap.size w w':=by obtain⟨f,g,i,j,k⟩:=x8 w wd s a;have o:=Hi (GP (w.heap.size+1+1+1) (w.heap.size+1) (w.heap.size+1+1) w.heap.size s wd a _ q r h (gT.start j) (cell1 g) (cell1 i) (cell1 f) Ω Ω Ω);have l:=Hi f;have m:=Hi g;have n:=Hi k;clear f g i j k;(have x:(wd.size:Int)<7:=by omega);(have y:(s.size:Int)<7:=by omega);go_enter func62,ntmps62;go_wp2_with(go_at_call 99;refine(o.out).mono ?_;rintro e w'⟨rfl,d⟩);have t:w'.cell? ⟨w.heap.size,0,UM⟩=UG (.string wd):=(cell_of_block (d.other _ Ω)).trans (cell1 l.out);have u:w'.cell? ⟨w.heap.size+1,0,UM⟩=UG (.string s):=(cell_of_block (d.other _ Ω)).trans (cell1 m.out);have v:=d.known wd.size s.size Ω Ω;have p:=Hi (d.below n.out Ω);clear d;go_quiet(fail);go_wp2;go_ret;exact⟨rfl,p.out.trans ⟨rfl,rfl,rfl,Sm _,λ_ _=>rfl⟩⟩
end
end Go.Proofs
namespace Go.Proofs
open Go.Shelf
def Tryz.yN:Go.Shelf.Ren:=⟨λ|143=>124|219=>159|217=>178|225=>179|224=>180|267=>181|266=>193|314=>194|n=>n,λ|9=>9|3=>3|4=>4|5=>5|46=>179|146=>241|51=>155|n=>n,λ|1=>0|n=>n⟩
theorem Tryz.IJ:Go.Proofs.Lays.n143 Pz Tryz.yN:={
 mixed:=Ψ
 f143:=func124.trans (congrArg UG Ψ)
 f217:=func178.trans (congrArg UG Ψ)
 f219:=func159.trans (congrArg UG Ψ)
 f224:=func180.trans (congrArg UG Ψ)
 f225:=func179.trans (congrArg UG Ψ)
 f266:=func193.trans (congrArg UG Ψ)
 f267:=func181.trans (congrArg UG Ψ)
 f314:=func194.trans (congrArg UG Ψ)
 t3:=underlying3
 a3:=isAgg3
 z3:=sizeOf3
 v3:=zeroValue3
 t4:=underlying4
 a4:=isAgg4
 z4:=sizeOf4
 v4:=zeroValue4
 t5:=underlying5
 a5:=isAgg5
 z5:=sizeOf5
 v5:=zeroValue5
 t9:=underlying9
 a9:=isAgg9
 z9:=sizeOf9
 v9:=zeroValue9
 t46:=underlying179
 a46:=isAgg179
 z46:=sizeOf179
 v46:=zeroValue179
 t51:=underlying155
 a51:=isAgg155
 z51:=sizeOf155
 v51:=zeroValue155
 t146:=underlying241
 a146:=isAgg241
 z146:=sizeOf241
 v146:=zeroValue241
 g1:=by kernel_rfl}
open Go.RowKit Go.Lib in theorem Tryz.strings_Index_one(s:ByteArray)(c:UInt8)(w:UL):Vt Pz 124 #[.string s,.string ⟨#[c]⟩] w λe w'=>e=.returned (Iv (Lib.indexByte s.data.toList c))/\w'=w:=Any.strings_Index_one Tryz.IJ s c w
open Go.RowKit Go.Lib in
def Tryz.xE:Go.Shelf.Ren:=⟨λ|144=>114|143=>124|219=>159|217=>178|225=>179|224=>180|267=>181|266=>193|314=>194|n=>n,λ|9=>9|4=>4|3=>3|5=>5|46=>179|146=>241|51=>155|n=>n,λ|1=>0|n=>n⟩
theorem Tryz.Kp:Go.Proofs.Lays.n144 Pz Tryz.xE:={
 mixed:=Ψ
 f143:=func124.trans (congrArg UG Ψ)
 f144:=func114.trans (congrArg UG Ψ)
 f217:=func178.trans (congrArg UG Ψ)
 f219:=func159.trans (congrArg UG Ψ)
 f224:=func180.trans (congrArg UG Ψ)
 f225:=func179.trans (congrArg UG Ψ)
 f266:=func193.trans (congrArg UG Ψ)
 f267:=func181.trans (congrArg UG Ψ)
 f314:=func194.trans (congrArg UG Ψ)
 t3:=underlying3
 a3:=isAgg3
 z3:=sizeOf3
 v3:=zeroValue3
 t4:=underlying4
 a4:=isAgg4
 z4:=sizeOf4
 v4:=zeroValue4
 t5:=underlying5
 a5:=isAgg5
 z5:=sizeOf5
 v5:=zeroValue5
 t9:=underlying9
 a9:=isAgg9
 z9:=sizeOf9
 v9:=zeroValue9
 t46:=underlying179
 a46:=isAgg179
 z46:=sizeOf179
 v46:=zeroValue179
 t51:=underlying155
 a51:=isAgg155
 z51:=sizeOf155
 v51:=zeroValue155
 t146:=underlying241
 a146:=isAgg241
 z146:=sizeOf241
 v146:=zeroValue241
 g1:=by kernel_rfl}
open Go.RowKit Go.Lib in theorem Tryz.strings_Contains_one(s:ByteArray)(c:UInt8)(w:UL):Vt Pz 114 #[.string s,.string ⟨#[c]⟩] w λe w'=>e=.returned (.bool (decide (0<=Lib.indexByte s.data.toList c)))/\w'=w:=Any.strings_Contains_one Tryz.Kp s c w
open Go.RowKit Go.Lib in
def Tryz.yu:Go.Shelf.Ren:=⟨λ|138=>97|195=>122|218=>123|143=>124|219=>159|217=>178|225=>179|224=>180|267=>181|266=>193|314=>194|n=>n,λ|9=>9|3=>3|4=>4|5=>5|0=>0|46=>179|146=>241|51=>155|n=>n,λ|1=>0|n=>n⟩
theorem Tryz.Kj:Go.Proofs.Lays.n138 Pz Tryz.yu:={
 mixed:=Ψ
 f138:=func97.trans (congrArg UG Ψ)
 f143:=func124.trans (congrArg UG Ψ)
 f195:=func122.trans (congrArg UG Ψ)
 f217:=func178.trans (congrArg UG Ψ)
 f218:=func123.trans (congrArg UG Ψ)
 f219:=func159.trans (congrArg UG Ψ)
 f224:=func180.trans (congrArg UG Ψ)
 f225:=func179.trans (congrArg UG Ψ)
 f266:=func193.trans (congrArg UG Ψ)
 f267:=func181.trans (congrArg UG Ψ)
 f314:=func194.trans (congrArg UG Ψ)
 t0:=underlying0
 a0:=isAgg0
 z0:=sizeOf0
 v0:=zeroValue0
 t3:=underlying3
 a3:=isAgg3
 z3:=sizeOf3
 v3:=zeroValue3
 t4:=underlying4
 a4:=isAgg4
 z4:=sizeOf4
 v4:=zeroValue4
 t5:=underlying5
 a5:=isAgg5
 z5:=sizeOf5
 v5:=zeroValue5
 t9:=underlying9
 a9:=isAgg9
 z9:=sizeOf9
 v9:=zeroValue9
 t46:=underlying179
 a46:=isAgg179
 z46:=sizeOf179
 v46:=zeroValue179
 t51:=underlying155
 a51:=isAgg155
 z51:=sizeOf155
 v51:=zeroValue155
 t146:=underlying241
 a146:=isAgg241
 z146:=sizeOf241
 v146:=zeroValue241
 g1:=by kernel_rfl}
open Go.RowKit Go.Lib in theorem Tryz.strings_Count_one(s:ByteArray)(c:UInt8)(w:UL):Vt Pz 97 #[.string s,.string ⟨#[c]⟩] w λe w'=>e=.returned (Iv (Lib.countByte s.data.toList c))/\w'=w:=Any.strings_Count_one Tryz.Kj s c w
open Go.RowKit Go.Lib in
def Tryz.xG:Go.Shelf.Ren:=⟨λ|107=>105|108=>125|n=>n,λ|28=>33|3=>3|4=>4|0=>0|n=>n,λ|n=>n⟩
theorem Tryz.JB:Go.Proofs.Lays.n107 Pz Tryz.xG:={
 mixed:=Ψ
 f107:=func105.trans (congrArg UG Ψ)
 f108:=func125.trans (congrArg UG Ψ)
 t0:=underlying0
 a0:=isAgg0
 z0:=sizeOf0
 v0:=zeroValue0
 t3:=underlying3
 a3:=isAgg3
 z3:=sizeOf3
 v3:=zeroValue3
 t4:=underlying4
 a4:=isAgg4
 z4:=sizeOf4
 v4:=zeroValue4
 t28:=underlying33
 a28:=isAgg33
 z28:=sizeOf33
 v28:=zeroValue33}
open Go.Lib in theorem Tryz.slices_Contains_int(b off n c:Nat)(f:List Int)(x:Int)(w:UL)(i:n<=f.length)(d:n<=9223372036854775807)(h:∀j,j<f.length->w.cell? ⟨b,off+j,UM⟩=UG (Iv (f.getD j 0))):Vt Pz 105 #[.slice (UG ⟨b,off,UM⟩) n c,Iv x] w λe w'=>e=.returned (.bool ((f.take n).contains x))/\w'=w:=Any.slices_Contains_int Tryz.JB b off n c f x w i d h
def Tryz.x5:Go.Shelf.Ren:=⟨λ|125=>121|128=>157|129=>158|n=>n,λ|46=>179|3=>3|51=>155|53=>164|4=>4|5=>5|9=>9|n=>n,λ|n=>n⟩
theorem Tryz.KD:Go.Proofs.Lays.n125 Pz Tryz.x5:={
 mixed:=Ψ
 f125:=func121.trans (congrArg UG Ψ)
 f128:=func157.trans (congrArg UG Ψ)
 f129:=func158.trans (congrArg UG Ψ)
 t3:=underlying3
 a3:=isAgg3
 z3:=sizeOf3
 v3:=zeroValue3
 t4:=underlying4
 a4:=isAgg4
 z4:=sizeOf4
 v4:=zeroValue4
 t5:=underlying5
 a5:=isAgg5
 z5:=sizeOf5
 v5:=zeroValue5
 t9:=underlying9
 a9:=isAgg9
 z9:=sizeOf9
 v9:=zeroValue9
 t46:=underlying179
 a46:=isAgg179
 z46:=sizeOf179
 v46:=zeroValue179
 t51:=underlying155
 a51:=isAgg155
 z51:=sizeOf155
 v51:=zeroValue155
 t53:=underlying164
 a53:=isAgg164
 z53:=sizeOf164
 v53:=zeroValue164}
theorem Tryz.bits_Len(x:Int)(w:UL)(d:0<=x)(f:x<=18446744073709551615):Vt Pz 121 #[.int .u64 x] w λe w'=>e=.returned (Iv (Lib.bitLen x.toNat))/\w'=w:=Any.bits_Len Tryz.KD x w d f
end Go.Proofs
namespace Go.Proofs
open Go.RowKit
variable{w W:UL}{b k:Nat}{v x y z:UO}{t:TypeId}{s:ByteArray}{a n:Int}{p:UInt8->Bool}{l:List ByteArray}
section
attribute[local go_sem↓]Go.wp_at_zero Go.wp_at_succ
def fw(w:UL)(sv:UO)(ks:List Int):Prop:=
 (ks=[]/\∃a c,sv=.slice a 0 c)\/∃b off c:Nat,sv=.slice (UG ⟨b,off,UM⟩) ks.length c/\ks≠[]/\ks.length<=9223372036854775807/\b<w.heap.size/\∀j,j<ks.length->w.cell? ⟨b,off+j,UM⟩=UG (Iv (ks.getD j 0))
theorem fw.below{w w':UL}{sv:UO}{ks:List Int}(h:fw w sv ks)(e:Below w.heap.size w w'):fw w' sv ks:=by rcases h with h|⟨b,a,c,f,g,i,d,k⟩;{exact .inl h};exact .inr ⟨b,a,c,f,g,i,Sn d e.size,λj l=>(e.cell (p:=⟨b,a+j,UM⟩) d).trans (k j l)⟩
def iQ(first last day kind:Int)(ks:List Int):Bool:=decide (first<=day/\day<=last)&&(ks.isEmpty||ks.contains kind)
set_option maxHeartbeats 8000000 in theorem vv(A B y C D E F G:UO)(m first d g i:Int)(o:List Int)(w:UL)(z:fw w y o):Vt Pz 69 #[.agg #[A,B,Iv m,Iv first,Iv d,y,C],.agg #[D,E,Iv g,Iv i,F,G]] w λe w'=>e=.returned (.bool (iQ first d g i o))/\Below w.heap.size w w':=by have v:Below w.heap.size w ((w.alloc (.cells #[A,B,Iv m,Iv first,Iv d,y,C] 54)).alloc (.cells #[D,E,Iv g,Iv i,F,G] 48)):=((Below.refl _ _).alloc Θ _).alloc Θ _;by_cases x:first<=g/\g<=d;{(have h:decide (first<=g/\g<=d)=UJ:=by simp_all);have u:=Hi h;have n:=(iB g first d);rw[h]at n;have n:=Hi n;rcases z with⟨rfl,a,c,rfl⟩|⟨b,t,c,rfl,s,r,q,l⟩;{clear x h;go_enter func69,ntmps69;go_wp2_with(go_at_call 81;refine(n.out _).mono ?_;rintro e w'⟨rfl,rfl⟩);go_ret;exact⟨by simp[iQ,u.out],v⟩};(have K:((o.length:Int)==0)=Ul:=by simp_all);have H:=Hi (Tryz.slices_Contains_int b t o.length c o i _ (Sm _) r λj I=>(v.cell (p:=⟨b,t+j,UM⟩) q).trans (l j I));have J:=Hi s;clear x h l s;go_enter func69,ntmps69;go_wp2_with(first|(go_at_call 81;refine(n.out _).mono ?_;rintro e w'⟨rfl,rfl⟩)|(go_at_call 105;refine(H.out).mono ?_;rintro e w'⟨rfl,rfl⟩));go_ret;refine⟨?_,v⟩;(have:o.isEmpty=Ul:=by simp_all);simp[iQ,u.out,this]};(have h:decide (first<=g/\g<=d)=Ul:=by simp_all);have u:=Hi h;have n:=(iB g first d);rw[h]at n;have n:=Hi n;clear x h z;go_enter func69,ntmps69;go_wp2_with(go_at_call 81;refine(n.out _).mono ?_;rintro e w'⟨rfl,rfl⟩);go_ret;exact⟨by simp[iQ,u.out],v⟩
structure bu where
 name:ByteArray
 word:ByteArray
 reach:Int
 first:Int
 last:Int
 ka:Option Addr
 kn:Nat
 kc:Nat
 ks:List Int
 keep:Int
def bu.sv(n:bu):UO:=.slice n.ka n.kn n.kc
def bu.vs(n:bu):Array UO:=#[.string n.name,.string n.word,Iv n.reach,Iv n.first,Iv n.last,.slice n.ka n.kn n.kc,Iv n.keep]
def fE(w:UL)(sv:UO)(ns:List bu):Prop:=
 (ns=[]/\∃a c,sv=.slice a 0 c)\/∃b off c:Nat,sv=.slice (UG ⟨b,off,UM⟩) ns.length c/\ns≠[]/\b<w.heap.size/\∀(j:Nat)(n:bu)(o:Nat)(v:UO),ns[j]?=UG n->n.vs[o]?=UG v->w.cell? ⟨b,off+j*7+o,UM⟩=UG v
theorem fE.below{w w':UL}{sv:UO}{ns:List bu}(h:fE w sv ns)(e:Below w.heap.size w w'):fE w' sv ns:=by rcases h with h|⟨b,a,c,f,g,d,i⟩;{exact .inl h};exact .inr ⟨b,a,c,f,g,Sn d e.size,λj n o v k l=>(e.cell (p:=⟨b,a+j*7+o,UM⟩) d).trans (i j n o v k l)⟩
def hasB(s:ByteArray)(c:UInt8):Bool:=decide (0<=Lib.indexByte s.data.toList c)
set_option maxHeartbeats 8000000 in theorem Aq(n:bu)(b:Nat)(c:UInt8)(w:UL)(r:w.cell? ⟨b,0,UM⟩=UG (.string ⟨#[c]⟩))(q:b<w.heap.size):Vt Pz 118 #[.agg n.vs,ϖ b] w λe w'=>e=.returned (.bool (hasB n.word c))/\Below w.heap.size w w':=by have d:Below w.heap.size w (w.alloc (.cells n.vs 54)):=(Below.refl _ _).alloc Θ _;have g:=(d.cell (p:=⟨b,0,UM⟩) q).trans r;have m:=Hi (Tryz.strings_Contains_one n.word c);obtain⟨k,l,h,f,j,s,u,t,v,i⟩:=n;unfold bu.vs at d g⊢;go_enter func118,ntmps118;go_wp2_with(go_at_call 114;refine(m.out _).mono ?_;rintro e w'⟨rfl,rfl⟩);go_ret;exact⟨by simp[hasB],d⟩
def kA(ns:List bu)(c:UInt8):Bool:=ns.any λn=>hasB n.word c
set_option maxHeartbeats 8000000 in theorem uo(h:List bu)(L:UO)(b:Nat)(c:UInt8)(w:UL)(P:fE w L h)(hn:h.length<=1000)(J:w.cell? ⟨b,0,UM⟩=UG (.string ⟨#[c]⟩))(I:b<w.heap.size):Vt Pz 147 #[L,.func (.func 118) #[] #[ϖ b]] w λe w'=>(∃k:Int,e=.returned (Iv k)/\decide (0<=k)=kA h c)/\Below w.heap.size w w':=by rcases P with⟨rfl,a,O,rfl⟩|⟨F,x,O,rfl,hne,C,j⟩;{go_enter func147,ntmps147;go_wp2;go_loop[8](λt=>t=Iv 0)(λ_=>0);(case atStart=>exact rfl);case round=>subst hrel;go_wp2;go_ret;exact⟨⟨-1,rfl,rfl⟩,Below.refl _ _⟩};have M:=Hi j;have N:=Hi J;clear j J;go_enter func147,ntmps147;go_wp2;go_loopw[8](λt wr=>∃k:Nat,k<=h.length/\t=Iv k/\(∀n∈h.take k,hasB n.word c=Ul)/\Below w.heap.size w wr)(λt _=>h.length-(intOf t).toNat);(case atStart=>exact⟨0,by omega,rfl,by simp,Below.refl _ _⟩);case round=>obtain⟨k,hk,rfl,l,r⟩:=hrel;by_cases G:k<h.length;{obtain⟨n,u⟩:∃n,h[k]?=UG n:=⟨h[k],Sq G⟩;have d:∀(o:Nat)(v:UO),n.vs[o]?=UG v->wr.cell? ⟨F,x+k*7+o,UM⟩=UG v:=λo v ho=>(r.cell (p:=⟨F,x+k*7+o,UM⟩) C).trans (M.out k n o v u ho);have c0:wr.cell? ⟨F,x+k*7,UM⟩=_:=d 0 _ rfl;have c1:=d 1 _ rfl;have c2:=d 2 _ rfl;have c3:=d 3 _ rfl;have c4:=d 4 _ rfl;have c5:=d 5 _ rfl;have c6:=d 6 _ rfl;have B:=Aq n b c wr ((r.cell (p:=⟨b,0,UM⟩) I).trans N.out) (Sn I r.size);unfold bu.vs at B;have B:=Hi B;have z:=Hi r;have q:=Hi l;have H:=Hi u;clear d r l u;by_cases K:hasB n.word c=UJ;{go_wp2_with(go_at_call 118;refine(B.out).mono ?_;rintro e w'⟨rfl,s⟩);go_ret;refine⟨⟨k,rfl,?_⟩,z.out.trans (s.mono z.out.size)⟩;have:kA h c=UJ:=Ts.2 ⟨n,Ss H.out,K⟩;simp[this]};(have K:hasB n.word c=Ul:=by simp_all);go_wp2_with(go_at_call 118;refine(B.out).mono ?_;rintro e w'⟨rfl,s⟩);go_roundw;(case rel=>refine⟨k+1,by omega,by go_num,λm A=>?_,z.out.trans (s.mono z.out.size)⟩;rw[TO,H.out]at A;rcases SL.1 A with A|A;{exact q.out m A};simp_all);case measure=>simp[intOf];omega};(obtain rfl:k=h.length:=by omega);have z:=Hi r;have q:=Hi l;clear r l;go_wp2;go_ret;refine⟨⟨-1,rfl,?_⟩,z.out⟩;(have:kA h c=Ul:=by rw[kA,List.any_eq_false];intro m A;have:=q.out m (by simp_all);simp[this]);simp[this]
set_option maxHeartbeats 8000000 in theorem qx(d:List bu)(f:UO)(b:Nat)(c:UInt8)(w:UL)(g:fE w f d)(m:d.length<=1000)(h:w.cell? ⟨b,0,UM⟩=UG (.string ⟨#[c]⟩))(l:b<w.heap.size):Vt Pz 117 #[f,.func (.func 118) #[] #[ϖ b]] w λe w'=>e=.returned (.bool (kA d c))/\Below w.heap.size w w':=by have i:=Hi (uo d f b c w g m h l);clear g h;go_enter func117,ntmps117;go_wp2_with(go_at_call 147;refine(i.out).mono ?_;rintro e w'⟨⟨k,rfl,o⟩,n⟩);go_ret;simp_all
end
section
attribute[local go_sem↓]Go.wp_at_zero Go.wp_at_succ
structure aC where
 name:ByteArray
 label:ByteArray
 day:Int
 kind:Int
 dH:Int
 dN:Int
def aC.vs(p:aC):Array UO:=#[.string p.name,.string p.label,Iv p.day,Iv p.kind,Iv p.dH,Iv p.dN]
def lM(p:aC)(s:ByteArray)(n:bu):Bool:=iQ n.first n.last p.day p.kind n.ks&&decide (((dp n.word s 1 n.word.size s.size:Nat):Int)<=n.reach)
def rdStep(p:aC)(s:ByteArray)(x:Int×Int)(n:bu):Int×Int:=if lM p s n=UJ then(1,max x.2 n.keep)else x
def gj(p:aC)(s:ByteArray)(ns:List bu):Int×Int:=ns.foldl (rdStep p s) (2,0)
def oP(w:UL)(a:Int)(s:ByteArray):UL:=((w.alloc (.cells #[Iv a,.string s] 112)).alloc (.cells #[Iv 0,Iv 0,Iv 0] 108)).alloc (.cells #[Iv 2,Iv 0,Iv 0] 108)
theorem zd(w:UL)(a:Int)(s:ByteArray):Below w.heap.size w (oP w a s)/\(oP w a s).heap[w.heap.size]?=UG (.cells #[Iv a,.string s] 112)/\(oP w a s).heap[w.heap.size+1]?=UG (.cells #[Iv 0,Iv 0,Iv 0] 108)/\(oP w a s).heap[w.heap.size+1+1]?=UG (.cells #[Iv 2,Iv 0,Iv 0] 108)/\(oP w a s).heap.size=w.heap.size+3:=by have e:(oP w a s).heap=((w.heap.push (.cells #[Iv a,.string s] 112)).push (.cells #[Iv 0,Iv 0,Iv 0] 108)).push (.cells #[Iv 2,Iv 0,Iv 0] 108):=rfl;refine⟨⟨rfl,rfl,rfl,by rw[e];simp;omega,λk b=>?_⟩,?_,?_,?_,by rw[e];simp⟩;{rw[e,SP,if_neg (by simp;omega),SP,if_neg (by simp;omega),SP,if_neg Ω]};{rw[e,SP,if_neg (by simp;omega),SP,if_neg Θ,SP,if_pos rfl]};{rw[e,SP,if_neg Θ,SP,if_pos Θ]};rw[e,SP,if_pos Θ]
theorem Pu{x0 x1 x2 u:UO}(h:w.heap[b]?=UG (.cells #[x0,x1,x2] t)):((w.setCell ⟨b,0,UM⟩ u).setCell ⟨b,2,UM⟩ v).drew.heap[b]?=UG (.cells #[u,x1,v] t):=by show((w.setCell ⟨b,0,UM⟩ u).setCell ⟨b,2,UM⟩ v).heap[b]?=_;simp[UL.setCell,Tc,h]
theorem B9{p:aC}{ns:List bu}{n:bu}(a:ns[k]?=UG n):(ns.take (k+1)).foldl (rdStep p s) (2,0)=rdStep p s ((ns.take k).foldl (rdStep p s) (2,0)) n:=by rw[TO,a,T9];rfl
theorem BV{p:aC}{ns:List bu}{n:bu}(a:ns[k]?=UG n)(h:lM p s n=Ul):(ns.take (k+1)).foldl (rdStep p s) (2,0)=(ns.take k).foldl (rdStep p s) (2,0):=by rw[B9 a,rdStep,if_neg (by simp[h])]
theorem F8{p:aC}{ns:List bu}{n:bu}(a:ns[k]?=UG n)(h:lM p s n=UJ):(ns.take (k+1)).foldl (rdStep p s) (2,0)=(1,max ((ns.take k).foldl (rdStep p s) (2,0)).2 n.keep):=by rw[B9 a,rdStep,if_pos h]
theorem cellAt{o:Nat}{cs:Array UO}(h:w.heap[b]?=UG (.cells cs t))(a:cs[o]?=UG v):w.cell? ⟨b,o,UM⟩=UG v:=by simp[UL.cell?,h,a]
theorem sG{fn:Func}{k:Tmp}{tmps:Array UO}(h:fn.results=#[.cell k 108])(g:tmps[k]?=UG (ϖ b))(e:w.heap[b]?=UG (.cells #[x,y,z] 108)):(results fn tmps).run Pz w=.ok (.agg #[x,y,z]) w:=by have d:=isAgg108 w;have f:=sizeOf108 w;simp[results,h,g,go_sem,d,f,UL.cell?,e]
theorem FW{c:Nat}{u0 u1 u2 q:UO}(h:w.heap[b]?=UG (.cells #[u0,u1,u2] t))(a:c≠b):((((w.setCell ⟨c,1,UM⟩ q).setCell ⟨b,0,UM⟩ x).setCell ⟨b,1,UM⟩ y).setCell ⟨b,2,UM⟩ z).heap[b]?=UG (.cells #[x,y,z] t):=by simp[UL.setCell,Tc,h,a]
abbrev G3(n:bu)(p:aC)(s:ByteArray)(a r bp bq oq np cq b:Nat)(W:UL):Prop:=W.cell? ⟨r,0,UM⟩=UG (.string n.name)/\W.cell? ⟨r,1,UM⟩=UG (.string n.word)/\W.cell? ⟨r,2,UM⟩=UG (Iv n.reach)/\W.cell? ⟨r,3,UM⟩=UG (Iv n.first)/\W.cell? ⟨r,4,UM⟩=UG (Iv n.last)/\W.cell? ⟨r,5,UM⟩=UG (.slice n.ka n.kn n.kc)/\W.cell? ⟨r,6,UM⟩=UG (Iv n.keep)/\W.cell? ⟨bp,1,UM⟩=UG (.slice (UG ⟨bq,oq,UM⟩) np cq)/\W.cell? ⟨b,0,UM⟩=UG (Iv (a:Nat))/\W.cell? ⟨b,1,UM⟩=UG (.string s)/\W.cell? ⟨bq,oq+a*6,UM⟩=UG (.string p.name)/\W.cell? ⟨bq,oq+a*6+1,UM⟩=UG (.string p.label)/\W.cell? ⟨bq,oq+a*6+2,UM⟩=UG (Iv p.day)/\W.cell? ⟨bq,oq+a*6+3,UM⟩=UG (Iv p.kind)/\W.cell? ⟨bq,oq+a*6+4,UM⟩=UG (Iv p.dH)/\W.cell? ⟨bq,oq+a*6+5,UM⟩=UG (Iv p.dN)
theorem G3.go{n:bu}{p:aC}{a r bp bq oq np cq m:Nat}{W':UL}(h:G3 n p s a r bp bq oq np cq b W)(g:Below m W W')(c:r<m)(q:bp<m)(d:bq<m)(o:b<m):G3 n p s a r bp bq oq np cq b W':=by obtain⟨t,u,v,w,x,y,z,A,B,C,e,f,i,j,k,l⟩:=h;exact⟨(g.cell c).trans t,(g.cell c).trans u,(g.cell c).trans v,(g.cell c).trans w,(g.cell c).trans x,(g.cell c).trans y,(g.cell c).trans z,(g.cell q).trans A,(g.cell o).trans B,(g.cell o).trans C,(g.cell d).trans e,(g.cell d).trans f,(g.cell d).trans i,(g.cell d).trans j,(g.cell d).trans k,(g.cell d).trans l⟩
section
variable{P:Program}{ops:Array Oper}{Q:Exit->Act->UL->Prop}{md:Region.Mode}{S:UL->Prop}{oi:Oper}{fuel:Nat}{listed:Array Bool}{a:Act}
theorem Fw(i:Nat)(m:∀w,S w->(execOp a.eval oi).run P w=.ok (.value v) w)(h:wpAnyH P md ops Q S fuel (listed.setIfInBounds i UJ) (a.put oi.dst v) w)(n:listed.getD i UJ=Ul:=by exact rfl)(g:ops[i]?=UG oi:=by exact rfl)(k:Region.noSelect ops=UJ:=by kernel_rfl)(f:Region.free md ops listed i=UJ:=by kernel_rfl)(j:(Region.ready md ops listed).contains i=UJ:=by kernel_rfl)(d:∀c a w,Q (.panic c) (a.put oi.dst v) w->Q (.panic c) a w:=by exactλ_ _ _ h=>h)(l:Region.wanted oi (yielded ops a.tmps)=UJ:=by kernel_rfl)(hS:S w:=by assumption):wpAnyH P md ops Q S (fuel+1) listed a w:=wpAnyH_take g k f j d (.inl ⟨l,m⟩) hS h
theorem Lp(i:Nat)(h:wpAnyH P md ops Q S fuel (listed.setIfInBounds i UJ) (a.put oi.dst undef) w)(m:listed.getD i UJ=Ul:=by exact rfl)(g:ops[i]?=UG oi:=by exact rfl)(k:Region.noSelect ops=UJ:=by kernel_rfl)(f:Region.free md ops listed i=UJ:=by kernel_rfl)(j:(Region.ready md ops listed).contains i=UJ:=by kernel_rfl)(d:∀c a w,Q (.panic c) (a.put oi.dst undef) w->Q (.panic c) a w:=by exactλ_ _ _ h=>h)(l:Region.wanted oi (yielded ops a.tmps)=Ul:=by kernel_rfl)(hS:S w:=by assumption):wpAnyH P md ops Q S (fuel+1) listed a w:=wpAnyH_take g k f j d (.inr ⟨l,rfl⟩) hS h
end
set_option maxHeartbeats 8000000 in theorem ER(ns:List bu)(sv:UO)(bp bq oq np cq a:Nat)(p:aC)(s:ByteArray)(w:UL)(hN:fE w sv ns)(hn:ns.length<=1000)(hs:s.size<=6)(hw:∀n∈ns,n.word.size<=6)(hK:∀n∈ns,fw w n.sv n.ks)(hb:bp<w.heap.size)(hbq:bq<w.heap.size)(h0:w.cell? ⟨bp,0,UM⟩=UG sv)(h1:w.cell? ⟨bp,1,UM⟩=UG (.slice (UG ⟨bq,oq,UM⟩) np cq))(ha:a<np)(hp:∀(o:Nat)(v:UO),p.vs[o]?=UG v->w.cell? ⟨bq,oq+a*6+o,UM⟩=UG v):Vt Pz 116 #[ϖ bp,.agg #[Iv (a:Nat),.string s]] w λe w'=>e=.returned (.agg #[Iv (gj p s ns).1,Iv (gj p s ns).2,Iv (gj p s ns).2]):=by obtain⟨f1,f2,f3,f4,f5⟩:=zd w a s;unfold oP at f1 f2 f3 f4 f5;rcases hN with⟨rfl,aa,c',rfl⟩|⟨bn,off,c',rfl,hne,hblk,hcell⟩;{have g0:=(f1.cell (p:=⟨bp,0,UM⟩) hb).trans h0;have F1:=Hi f1;have F2:=Hi f2;have F3:=Hi f3;have F4:=Hi f4;clear hw hK hp f1 f2 f3 f4 h0 h1;go_enter func116,ntmps116;go_wp2;go_loopw[16](λt wr=>t=Iv 0/\Below (w.heap.size+1+1) (oP w a s) wr/\wr.heap[w.heap.size+1+1]?=UG (.cells #[Iv 2,Iv 0,Iv 0] 108))(λ_ _=>0);(case atStart=>exact⟨rfl,Below.refl _ _,F4.out⟩);case round=>obtain⟨rfl,hB,hF⟩:=hrel;change wr.heap[w.heap.size+1+1]?=UG (.cells #[Iv (gj p s []).1,Iv 0,Iv (gj p s []).2] 108)at hF;obtain⟨R,hR⟩:∃R,gj p s []=R:=⟨_,rfl⟩;rw[hR]at hF;have e1:wr.cell? ⟨w.heap.size+1+1,0,UM⟩=UG (Iv R.1):=cellAt hF rfl;have e0:wr.cell? ⟨w.heap.size+1+1,1,UM⟩=UG (Iv 0):=cellAt hF rfl;have e2:wr.cell? ⟨w.heap.size+1+1,2,UM⟩=UG (Iv R.2):=cellAt hF rfl;(have e3:wr.frozen? ⟨w.heap.size+1+1,1,UM⟩=Ul:=by simp[UL.frozen?,hF]);have gF:=(hB.block (w.heap.size+1) Ω).trans F3.out;have z0:wr.cell? ⟨w.heap.size+1,0,UM⟩=UG (Iv 0):=cellAt gF rfl;have z1:wr.cell? ⟨w.heap.size+1,1,UM⟩=UG (Iv 0):=cellAt gF rfl;have z2:wr.cell? ⟨w.heap.size+1,2,UM⟩=UG (Iv 0):=cellAt gF rfl;(have y0:wr.frozen? ⟨w.heap.size+1,0,UM⟩=Ul:=by simp[UL.frozen?,gF]);(have y1:wr.frozen? ⟨w.heap.size+1,1,UM⟩=Ul:=by simp[UL.frozen?,gF]);(have y2:wr.frozen? ⟨w.heap.size+1,2,UM⟩=Ul:=by simp[UL.frozen?,gF]);have HG:=Hi gF;clear hB hF gF F1 F2 F3 F4;go_wp2;refine bodyPost_ret (sG (k:=4) rfl rfl (FW HG.out Ω)) rfl ?_;rw[hR]};have g0:=(f1.cell (p:=⟨bp,0,UM⟩) hb).trans h0;have g1:=(f1.cell (p:=⟨bp,1,UM⟩) hb).trans h1;have HC:=Hi hcell;have HW:=Hi hw;have HK:=Hi hK;have HP:=Hi hp;have F1:=Hi f1;have F2:=Hi f2;have F3:=Hi f3;have F4:=Hi f4;clear hcell hw hK hp f1 f2 f3 f4 h0 h1;go_enter func116,ntmps116;go_wp2;go_loopw[16](λt wr=>∃k:Nat,k<=ns.length/\t=Iv k/\Below (w.heap.size+1+1) (oP w a s) wr/\wr.heap[w.heap.size+1+1]?=UG (.cells #[Iv ((ns.take k).foldl (rdStep p s) (2,0)).1,Iv 0,Iv ((ns.take k).foldl (rdStep p s) (2,0)).2] 108))(λt _=>ns.length-(intOf t).toNat);(case atStart=>exact⟨0,by omega,rfl,Below.refl _ _,F4.out⟩);case round=>obtain⟨k,hk,rfl,hB,hF⟩:=hrel;by_cases hlt:k<ns.length;{obtain⟨n,hn'⟩:∃n,ns[k]?=UG n:=⟨ns[k],Sq hlt⟩;have cellAt':∀(o:Nat)(v:UO),n.vs[o]?=UG v->wr.cell? ⟨bn,off+k*7+o,UM⟩=UG v:=λo v ho=>(hB.cell (p:=⟨bn,off+k*7+o,UM⟩) (by show bn<_;omega)).trans ((F1.out.cell (p:=⟨bn,off+k*7+o,UM⟩) hblk).trans (HC.out k n o v hn' ho));have c0:wr.cell? ⟨bn,off+k*7,UM⟩=UG (.string n.name):=cellAt' 0 _ rfl;have c1:wr.cell? ⟨bn,off+k*7+1,UM⟩=UG (.string n.word):=cellAt' 1 _ rfl;have c2:wr.cell? ⟨bn,off+k*7+2,UM⟩=UG (Iv n.reach):=cellAt' 2 _ rfl;have c3:wr.cell? ⟨bn,off+k*7+3,UM⟩=UG (Iv n.first):=cellAt' 3 _ rfl;have c4:wr.cell? ⟨bn,off+k*7+4,UM⟩=UG (Iv n.last):=cellAt' 4 _ rfl;have c5:wr.cell? ⟨bn,off+k*7+5,UM⟩=UG (.slice n.ka n.kn n.kc):=cellAt' 5 _ rfl;have c6:wr.cell? ⟨bn,off+k*7+6,UM⟩=UG (Iv n.keep):=cellAt' 6 _ rfl;clear cellAt';have HB:=Hi hB;have HF:=Hi hF;have Hn:=Hi hn';clear hB hF hn';(have hnb:(wr.alloc (.cells n.vs 54)).heap[wr.heap.size]?=UG (.cells n.vs 54):=by show(wr.heap.push _)[wr.heap.size]?=_;simp);have hb5:Below wr.heap.size wr (wr.alloc (.cells n.vs 54)):=(Below.refl _ _).alloc Θ _;have hsz:w.heap.size+1+1<wr.heap.size:=(So.1 HF.out).1;have hfar:Below w.heap.size w wr:=F1.out.trans (HB.out.mono Ω);have S5:G3 n p s a wr.heap.size bp bq oq np cq w.heap.size (wr.alloc (.cells n.vs 54)):=⟨cellAt hnb rfl,cellAt hnb rfl,cellAt hnb rfl,cellAt hnb rfl,cellAt hnb rfl,cellAt hnb rfl,cellAt hnb rfl,(hb5.cell (p:=⟨bp,1,UM⟩) (by show bp<_;omega)).trans ((HB.out.cell (p:=⟨bp,1,UM⟩) (by show bp<_;omega)).trans g1),(hb5.cell (p:=⟨w.heap.size,0,UM⟩) (by show w.heap.size<_;omega)).trans ((HB.out.cell (p:=⟨w.heap.size,0,UM⟩) (by show w.heap.size<_;omega)).trans (cellAt F2.out rfl)),(hb5.cell (p:=⟨w.heap.size,1,UM⟩) (by show w.heap.size<_;omega)).trans ((HB.out.cell (p:=⟨w.heap.size,1,UM⟩) (by show w.heap.size<_;omega)).trans (cellAt F2.out rfl)),(hb5.cell (p:=⟨bq,oq+a*6+0,UM⟩) (by show bq<_;omega)).trans ((hfar.cell (p:=⟨bq,oq+a*6+0,UM⟩) hbq).trans (HP.out 0 _ rfl)),(hb5.cell (p:=⟨bq,oq+a*6+1,UM⟩) (by show bq<_;omega)).trans ((hfar.cell (p:=⟨bq,oq+a*6+1,UM⟩) hbq).trans (HP.out 1 _ rfl)),(hb5.cell (p:=⟨bq,oq+a*6+2,UM⟩) (by show bq<_;omega)).trans ((hfar.cell (p:=⟨bq,oq+a*6+2,UM⟩) hbq).trans (HP.out 2 _ rfl)),(hb5.cell (p:=⟨bq,oq+a*6+3,UM⟩) (by show bq<_;omega)).trans ((hfar.cell (p:=⟨bq,oq+a*6+3,UM⟩) hbq).trans (HP.out 3 _ rfl)),(hb5.cell (p:=⟨bq,oq+a*6+4,UM⟩) (by show bq<_;omega)).trans ((hfar.cell (p:=⟨bq,oq+a*6+4,UM⟩) hbq).trans (HP.out 4 _ rfl)),(hb5.cell (p:=⟨bq,oq+a*6+5,UM⟩) (by show bq<_;omega)).trans ((hfar.cell (p:=⟨bq,oq+a*6+5,UM⟩) hbq).trans (HP.out 5 _ rfl))⟩;have hK5:fw (wr.alloc (.cells n.vs 54)) n.sv n.ks:=((HK.out n (Ss Hn.out)).below hfar).below hb5;have hF5:=(hb5.block _ hsz).trans HF.out;have hB5:=HB.out.trans (hb5.mono (SF hsz));(have hsz5:(wr.alloc (.cells n.vs 54)).heap.size=wr.heap.size+1:=by simp);unfold bu.vs at hnb hb5 S5 hK5 hF5 hB5 hsz5;have HS5:=Hi S5;have HK5:=Hi hK5;have HF5:=Hi hF5;have HB5:=Hi hB5;clear S5 hK5 hF5 hB5 hnb hb5 hfar;go_wp2;generalize wr.alloc (.cells #[.string n.name,.string n.word,Iv n.reach,Iv n.first,Iv n.last,.slice n.ka n.kn n.kc,Iv n.keep] 54)=W5 at HS5 HK5 HF5 HB5 hsz5⊢;(have HA:∀W',Below W5.heap.size W5 W'/\G3 n p s a wr.heap.size bp bq oq np cq w.heap.size W'->Vt Pz 69 #[.agg #[.string n.name,.string n.word,Iv n.reach,Iv n.first,Iv n.last,.slice n.ka n.kn n.kc,Iv n.keep],.agg #[.string p.name,.string p.label,Iv p.day,Iv p.kind,Iv p.dH,Iv p.dN]] W' λe w'=>e=.returned (.bool (iQ n.first n.last p.day p.kind n.ks))/\Below W5.heap.size W5 w'/\G3 n p s a wr.heap.size bp bq oq np cq w.heap.size w':=by intro W' h;have hc:=vv (.string n.name) (.string n.word) n.sv (Iv n.keep) (.string p.name) (.string p.label) (Iv p.dH) (Iv p.dN) n.reach n.first n.last p.day p.kind n.ks W' (HK5.out.below h.1);exact hc.mono λe w' h'=>⟨h'.1,h.1.trans (h'.2.mono h.1.size),h.2.go h'.2 (Sn Ω h.1.size) (Sn Ω h.1.size) (Sn Ω h.1.size) (Sn Ω h.1.size)⟩);(have HD:∀W',Below W5.heap.size W5 W'/\G3 n p s a wr.heap.size bp bq oq np cq w.heap.size W'->Vt Pz 62 #[.string n.word,.string s,Iv 1] W' λe w'=>e=.returned (Iv (dp n.word s 1 n.word.size s.size:Nat))/\Below W5.heap.size W5 w'/\G3 n p s a wr.heap.size bp bq oq np cq w.heap.size w':=by intro W' h;have hc:=pw n.word s 1 W' Ω hs (HW.out n (Ss Hn.out));exact hc.mono λe w' h'=>⟨h'.1,h.1.trans (h'.2.mono h.1.size),h.2.go h'.2 (Sn Ω h.1.size) (Sn Ω h.1.size) (Sn Ω h.1.size) (Sn Ω h.1.size)⟩);have HA:=Hi HA;have HD:=Hi HD;obtain⟨s0,s1,s2,s3,s4,s5,s6,s7,s8,s9,s10,s11,s12,s13,s14,s15⟩:=HS5.out;have hBd:Below W5.heap.size W5 W5.drew:=⟨rfl,rfl,rfl,Sm _,λ_ _=>rfl⟩;by_cases hab:iQ n.first n.last p.day p.kind n.ks=UJ;{by_cases hd:((dp n.word s 1 n.word.size s.size:Nat):Int)<=n.reach;{(have hd':decide (((dp n.word s 1 n.word.size s.size:Nat):Int)<=n.reach)=UJ:=by simpa using hd);(have hyes:lM p s n=UJ:=by simp[lM,hab,hd]);go_region_held3(λW'=>Below W5.heap.size W5 W'/\G3 n p s a wr.heap.size bp bq oq np cq w.heap.size W')(first|assumption|((repeat' apply And.intro)<;>first|assumption|(simp[*];done)))(first|(go_at_call 69;refine(HA.out _ (by assumption)).mono ?_;rintro e w'⟨rfl,hS⟩)|(go_at_call 62;refine(HD.out _ (by assumption)).mono ?_;rintro e w'⟨rfl,hS⟩));all_goals have fF:=(hS.1.block _ Ω).trans HF5.out;have e1:=cellAt (o:=0) fF rfl;have e2:=cellAt (o:=2) fF rfl;(have e3:w'.frozen? ⟨w.heap.size+1+1,0,UM⟩=Ul:=by simp[UL.frozen?,fF]);(have e4:w'.frozen? ⟨w.heap.size+1+1,2,UM⟩=Ul:=by simp[UL.frozen?,fF]);have e5:w'.cell? ⟨wr.heap.size,6,UM⟩=UG (Iv n.keep):=hS.2.2.2.2.2.2.2.1;have hBw:=HB5.out.trans (hS.1.mono Ω);clear hS;have HBw:=Hi hBw;have HfF:=Hi fF;clear hBw fF;go_wp2;go_region;all_goals go_wp2;go_roundw;(case rel=>exact⟨k+1,by omega,by go_num,((HBw.out.setCell (Sm _) _).setCell (Sm _) _).drew,by rw[F8 Hn.out hyes];exact Pu HfF.out⟩);case measure=>simp[intOf];omega};(have hd':decide (((dp n.word s 1 n.word.size s.size:Nat):Int)<=n.reach)=Ul:=by simpa using hd);(have hno:lM p s n=Ul:=by simp[lM,hd]);go_region_held3(λW'=>Below W5.heap.size W5 W'/\G3 n p s a wr.heap.size bp bq oq np cq w.heap.size W')(first|assumption|((repeat' apply And.intro)<;>first|assumption|(simp[*];done)))(first|(go_at_call 69;refine(HA.out _ (by assumption)).mono ?_;rintro e w'⟨rfl,hS⟩)|(go_at_call 62;refine(HD.out _ (by assumption)).mono ?_;rintro e w'⟨rfl,hS⟩));all_goals have fF:=(hS.1.block _ Ω).trans HF5.out;have hBw:=HB5.out.trans (hS.1.mono Ω);have HBw:=Hi hBw;have HfF:=Hi fF;clear hS hBw fF;go_wp2;go_roundw;(case rel=>exact⟨k+1,by omega,by go_num,HBw.out,by rw[BV Hn.out hno];exact HfF.out⟩);case measure=>simp[intOf];omega};(have hab:iQ n.first n.last p.day p.kind n.ks=Ul:=by simpa using hab);rw[hab]at HA;(have hno:lM p s n=Ul:=by simp[lM,hab]);refine wp_region_held_drew (S:=λW'=>Below W5.heap.size W5 W'/\G3 n p s a wr.heap.size bp bq oq np cq w.heap.size W') Ψ (by first|assumption|((repeat' apply And.intro)<;>first|assumption|(simp[*];done))) (λhHeld=>?_);(iterate 11(first|refine Fw (v:=?_) 0 ?_ ?_|refine Fw (v:=?_) 1 ?_ ?_|refine Fw (v:=?_) 2 ?_ ?_|refine Fw (v:=?_) 3 ?_ ?_|refine Fw (v:=?_) 4 ?_ ?_|refine Fw (v:=?_) 5 ?_ ?_|refine Fw (v:=?_) 6 ?_ ?_|refine Fw (v:=?_) 7 ?_ ?_|refine Fw (v:=?_) 8 ?_ ?_|refine Fw (v:=?_) 9 ?_ ?_|refine Fw (v:=?_) 10 ?_ ?_);rotate_left;{intro w hSw;(try dsimp only at hSw);go_simp;(try with_reducible rfl)};try simp only[Act.put,TP,TQ,TR,TS,TT,TU]);refine wpAnyH_ready (rs:=[11]) Ψ Θ ?_;refine AllReadyH.cons (o:=_) rfl (λK hK=>?_) AllReadyH.nil;go_simp;go_at_call 69;refine(HA.out _ (by assumption)).mono ?_;rintro e w'⟨rfl,hS⟩;go_simp;refine hK.out _ _ hS (λhHeld2=>?_);clear hHeld;(try simp only[Act.put,TP,TQ,TR,TS,TT,TU]);refine wpAnyH_take (i:=12) (oi:=_) (v:=?_) rfl Ψ Ψ Ψ (λ_ _ _ h=>h) (Or.inl ⟨by kernel_rfl,?_⟩) (by assumption) ?_;rotate_left;{intro w hSw;(try dsimp only at hSw);go_simp;(try with_reducible rfl)};(try simp only[Act.put,TP,TQ,TR,TS,TT,TU]);(iterate 8(first|refine Lp 13 ?_|refine Lp 14 ?_|refine Lp 15 ?_|refine Lp 16 ?_|refine Lp 17 ?_|refine Lp 18 ?_|refine Lp 19 ?_|refine Lp 20 ?_);try simp only[Act.put,TP,TQ,TR,TS,TT,TU]);refine wpAnyH_take (i:=21) (oi:=_) (v:=?_) rfl Ψ Ψ Ψ (λ_ _ _ h=>h) (Or.inl ⟨by kernel_rfl,?_⟩) (by assumption) ?_;rotate_left;{intro w hSw;(try dsimp only at hSw);go_simp;(try with_reducible rfl)};(try simp only[Act.put,TP,TQ,TR,TS,TT,TU]);refine wpAnyH_done Ψ ?_ _;clear hHeld2 hK;all_goals have fF:=(hS.1.block _ Ω).trans HF5.out;have hBw:=HB5.out.trans (hS.1.mono Ω);have HBw:=Hi hBw;have HfF:=Hi fF;clear hS hBw fF;go_wp2;go_roundw;(case rel=>exact⟨k+1,by omega,by go_num,HBw.out,by rw[BV Hn.out hno];exact HfF.out⟩);case measure=>simp[intOf];omega};(obtain rfl:k=ns.length:=by omega);rw[Um]at hF;change wr.heap[w.heap.size+1+1]?=UG (.cells #[Iv (gj p s ns).1,Iv 0,Iv (gj p s ns).2] 108)at hF;obtain⟨R,hR⟩:∃R,gj p s ns=R:=⟨_,rfl⟩;rw[hR]at hF;have e1:wr.cell? ⟨w.heap.size+1+1,0,UM⟩=UG (Iv R.1):=cellAt hF rfl;have e0:wr.cell? ⟨w.heap.size+1+1,1,UM⟩=UG (Iv 0):=cellAt hF rfl;have e2:wr.cell? ⟨w.heap.size+1+1,2,UM⟩=UG (Iv R.2):=cellAt hF rfl;(have e3:wr.frozen? ⟨w.heap.size+1+1,1,UM⟩=Ul:=by simp[UL.frozen?,hF]);have gF:=(hB.block (w.heap.size+1) Ω).trans F3.out;have z0:wr.cell? ⟨w.heap.size+1,0,UM⟩=UG (Iv 0):=cellAt gF rfl;have z1:wr.cell? ⟨w.heap.size+1,1,UM⟩=UG (Iv 0):=cellAt gF rfl;have z2:wr.cell? ⟨w.heap.size+1,2,UM⟩=UG (Iv 0):=cellAt gF rfl;(have y0:wr.frozen? ⟨w.heap.size+1,0,UM⟩=Ul:=by simp[UL.frozen?,gF]);(have y1:wr.frozen? ⟨w.heap.size+1,1,UM⟩=Ul:=by simp[UL.frozen?,gF]);(have y2:wr.frozen? ⟨w.heap.size+1,2,UM⟩=Ul:=by simp[UL.frozen?,gF]);have HG:=Hi gF;clear hB hF gF F1 F2 F3 F4 HC HW HK HP;go_wp2;refine bodyPost_ret (sG (k:=4) rfl rfl (FW HG.out Ω)) rfl ?_;rw[hR]
end
section
attribute[local go_sem↓]Go.wp_at_zero Go.wp_at_succ
def bN(n a b:Int):Bool:=decide (a<=n/\n<=b)
theorem kh(n a b:Int)(w:UL):Vt Pz 81 #[Iv n,Iv a,Iv b] w λe w'=>e=.returned (.bool (bN n a b))/\w'=w:=iB n a b w
def fH(c:UInt8):Bool:=decide (97<=c.toNat/\c.toNat<=122)
def pS(c:UInt8):Bool:=fH c||c==63
def lD(s:ByteArray):Bool:=s.data.toList.all pS
def aU(s:ByteArray)(n:Int):Bool:=lD s&&(decide (1<=s.size/\s.size<=6)&&decide ((Me.cnt s:Int)<=n))
theorem mZ{b:Int}(h:bN n a b=UJ)(w:UL):Vt Pz 81 #[Iv n,Iv a,Iv b] w λe w'=>e=.returned (.bool UJ)/\w=w':=by have:=kh n a b w;grind
theorem lK{b:Int}(h:bN n a b=Ul)(w:UL):Vt Pz 81 #[Iv n,Iv a,Iv b] w λe w'=>e=.returned (.bool Ul)/\w=w':=by have:=kh n a b w;grind
theorem gz(w:UL)(s:ByteArray)(pos:Nat):Below w.heap.size w (w.iter s pos):=(Below.refl _ _).alloc (Sm _) _
theorem NI(h:k<s.size):s.data.toList[k]?=UG (s[k]'h):=by simp[h];rfl
theorem iA(h:k<s.size)(a:(s.data.toList.take k).all p=UJ)(b:p (s[k]'h)=UJ):(s.data.toList.take (k+1)).all p=UJ:=by rw[Vi (by simpa using h),List.all_append,a,Bool.true_and];show(p (s[k]'h)&&UJ)=UJ;grind
theorem qe(h:k<s.size)(a:p (s[k]'h)=Ul):s.data.toList.all p=Ul:=by rw[List.all_eq_false];exact⟨s[k]'h,SX.2 ⟨k,NI h⟩,by simp[a]⟩
theorem bl(s:ByteArray):s.toList=s.data.toList:=ByteArray.toList_eq s
theorem Nd:(!(Utf8.encode 63).toList==[63])=Ul:=by rw[bl];decide
theorem GV(c:Nat)(d:c≠63):(if c<0x80 then(⟨#[UInt8.ofNat c]⟩:ByteArray)else if c<0x800 then⟨#[UInt8.ofNat (0xC0+c/64),UInt8.ofNat (0x80+c%64)]⟩else if c<0x10000 then⟨#[UInt8.ofNat (0xE0+c/4096),UInt8.ofNat (0x80+c/64%64),UInt8.ofNat (0x80+c%64)]⟩else⟨#[UInt8.ofNat (0xF0+c/262144),UInt8.ofNat (0x80+c/4096%64),UInt8.ofNat (0x80+c/64%64),UInt8.ofNat (0x80+c%64)]⟩).data.toList≠[63]:=by split;{intro h;(have a:UInt8.ofNat c=63:=by grind);have b:=congrArg UInt8.toNat a;rw[UInt8.toNat_ofNat']at b;grind};grind
theorem Bs(r:Nat)(d:r≠63):(!(Utf8.encode (r:Int)).toList==[63])=UJ:=by(have b:(Utf8.encode (r:Int)).data.toList≠[63]:=by intro h;(have e:(r:Int).toNat=r:=by omega);by_cases c:Utf8.valid (r:Int)=UJ;{have:=GV r d;simp only[Utf8.encode,c,if_true,e]at h;grind};simp only[Utf8.encode,c,if_false]at h;exact GV Utf8.runeError Δ h);rw[bl,beq_eq_false_iff_ne.2 b];rfl
set_option maxRecDepth 100000 in set_option maxHeartbeats 8000000 in theorem aak(s:ByteArray)(n:Int)(w:UL)(hs:s.size<1000000000000000):Vt Pz 61 #[.string s,Iv n] w λe w'=>e=.returned (.bool (aU s n))/\Below w.heap.size w w':=by go_enter func61,ntmps61;go_wp2;go_loopw[6](λ_ wr=>∃c:Nat,c<=s.size/\wr=w.iter s c/\Hid ((s.data.toList.take c).all pS=UJ))(λ_ wr=>s.size-wr.iterPos w.heap.size);(case atStart=>exact⟨0,SK _,rfl,by simp[Hid]⟩);case round=>obtain⟨c,hpos,rfl,h⟩:=hrel;by_cases f:c<s.size;{by_cases ha:(s[c]'f).toNat<128;{have hd:=decode_ascii s c f ha;(have hnx:∀ty,(Instr.next (ϖ w.heap.size) UJ ty).run Pz (w.iter s c)=.ok (.tuple #[.bool UJ,Iv c,.int .i32 (s[c]'f).toNat]) (w.iter s (c+1)):=λty=>by rw[run_next_any w s c ty f,hd]);clear hd;by_cases hl:fH (s[c]'f)=UJ;{have hY:=Hi (mZ (n:=((s[c]'f).toNat:Int)) (a:=97) (b:=122) (by unfold fH at hl;unfold bN;grind));have HL:=Hi hl;clear hl;go_wp2_with(go_at_call 81;refine(hY.out _).mono ?_;rintro e w'⟨rfl,rfl⟩);go_roundw;(case rel=>exact⟨c+1,f,rfl,iA f h (by unfold pS;rw[HL.out];rfl)⟩);case measure=>simp;omega};(have hl:fH (s[c]'f)=Ul:=by simp_all);have hY:=Hi (lK (n:=((s[c]'f).toNat:Int)) (a:=97) (b:=122) (by unfold fH at hl;unfold bN;grind));have HL:=Hi hl;clear hl;by_cases h63:(s[c]'f)=63;{(have hL:pS (s[c]'f)=UJ:=by unfold pS;grind);rw[h63]at hnx hY;have i:=Hi hL;clear hL h63;go_wp2_with(go_at_call 81;refine(hY.out _).mono ?_;rintro e w'⟨rfl,rfl⟩);{exact absurd ‹(!(Utf8.encode 63).toList==[63])=UJ› (by rw[Nd];decide)};go_roundw;(case rel=>exact⟨c+1,f,rfl,iA f h i.out⟩);case measure=>simp;omega};have hne:=Bs (s[c]'f).toNat (λe=>h63 (by apply UInt8.toNat_inj.1;exact e));(have hL:pS (s[c]'f)=Ul:=by unfold pS;simp_all);have i:=Hi (qe f hL);have HN:=Hi hne;clear hL h63 hne;go_wp2_with(go_at_call 81;refine(hY.out _).mono ?_;rintro e w'⟨rfl,rfl⟩);{go_ret;exact⟨by unfold aU lD;rw[i.out];rfl,gz _ _ _⟩};exact absurd HN.out (by simp_all)};have hd:=decode_high s c f Ω;have hle:=decode_le s c;(have hl:fH (s[c]'f)=Ul:=by unfold fH;simp;omega);(have hL:pS (s[c]'f)=Ul:=by unfold pS;rw[hl];simp;intro e;simp_all);have i:=Hi (qe f hL);have hnx:∀ty,(Instr.next (ϖ w.heap.size) UJ ty).run Pz (w.iter s c)=_:=λty=>run_next_any w s c ty f;have hY:=Hi (lK (n:=((Utf8.decode s c).1:Int)) (a:=97) (b:=122) (by unfold bN;simp;omega));have HN:=Hi (Bs (Utf8.decode s c).1 Ω);(have h0:(0:Int)<=((Utf8.decode s c).1:Int):=by omega);clear hl hL hd ha;go_wp2_with(go_at_call 81;refine(hY.out _).mono ?_;rintro e w'⟨rfl,rfl⟩);{go_ret;exact⟨by unfold aU lD;rw[i.out];rfl,gz _ _ _⟩};exact absurd HN.out (by simp_all)};(obtain rfl:c=s.size:=by omega);have hnx:∀ty,(Instr.next (ϖ w.heap.size) UJ ty).run Pz (w.iter s s.size)=_:=λty=>run_next_end w s s.size ty f;(have HA:Hid (lD s=UJ):=by unfold lD;rw[<-h.out,Tn Θ];rfl);have hC:=Hi (Tryz.strings_Count_one s 63);clear h;by_cases hz:1<=s.size/\s.size<=6;{have hY:=Hi (mZ (n:=(s.size:Int)) (a:=1) (b:=6) (by unfold bN;simp;omega));have HZ:=Hi hz;clear hz;go_wp2_with(first|(go_at_call 81;refine(hY.out _).mono ?_;rintro e w'⟨rfl,rfl⟩)|(go_at_call 97;refine(hC.out _).mono ?_;rintro e w'⟨rfl,rfl⟩));go_ret;exact⟨by simp[aU,HA.out,HZ.out,Me.cnt,Lib.countByte],gz _ _ _⟩};have hY:=Hi (lK (n:=(s.size:Int)) (a:=1) (b:=6) (by unfold bN;simp;omega));have HZ:=Hi hz;clear hz;go_wp2_with(go_at_call 81;refine(hY.out _).mono ?_;rintro e w'⟨rfl,rfl⟩);go_ret;exact⟨by simp[aU,HA.out,HZ.out],gz _ _ _⟩
theorem fL(s:ByteArray)(n:Int)(w:UL)(hs:s.size<4294967281):Vt Pz 61 #[.string s,Iv n] w λe w'=>e=.returned (.bool (aU s n))/\Below w.heap.size w w':=aak s n w (by omega)
end
section
attribute[local go_sem↓]Go.wp_at_zero Go.wp_at_succ
def oI(c:UInt8):Bool:=decide (48<=c.toNat/\c.toNat<=57)
def lG(c:UInt8):Bool:=fH c||oI c
def aV(s:ByteArray):Bool:=(decide (1<=s.size/\s.size<=10)&&(match s.data.toList with|c::_=>fH c|[]=>Ul))&&s.data.toList.all lG
set_option maxRecDepth 100000 in set_option maxHeartbeats 8000000 in theorem so(s:ByteArray)(w:UL)(hs:s.size<4294967281):Vt Pz 101 #[.string s] w λe w'=>e=.returned (.bool (aV s))/\Below w.heap.size w w':=by by_cases x:1<=s.size/\s.size<=10;(case neg=>have o:=Hi (lK (n:=(s.size:Int)) (a:=1) (b:=10) (by unfold bN;simp;omega));have B:=Hi x;clear x;go_enter func101,ntmps101;go_wp2_with(go_at_call 81;refine(o.out _).mono ?_;rintro e w'⟨rfl,rfl⟩);go_ret;exact⟨by simp[aV,B.out],Below.refl _ _⟩);case pos=>have o:=Hi (mZ (n:=(s.size:Int)) (a:=1) (b:=10) (by unfold bN;simp;omega));(have u:0<s.size:=by omega);(have z:Hid (s.data.toList=(s[0]'u)::s.data.toList.drop 1):=by have:=TG (l:=s.data.toList) (i:=0) (by simp_all);exact this);(have F:(0:Int)<=((s[0]'u).toNat:Int):=by omega);(have G:((s[0]'u).toNat:Int)<=255:=by have:=(s[0]'u).toNat_lt;omega);by_cases k:fH (s[0]'u)=UJ;(case neg=>(have k:fH (s[0]'u)=Ul:=by simp_all);have j:=Hi (lK (n:=((s[0]'u).toNat:Int)) (a:=97) (b:=122) (by unfold fH at k;unfold bN;grind));(have D:Hid ((match s.data.toList with|c::_=>fH c|[]=>Ul)=Ul):=by show(match s.data.toList with|c::_=>fH c|[]=>Ul)=Ul;rw[z.out];exact k);have B:=Hi x;clear k x;go_enter func101,ntmps101;go_wp2_with(go_at_call 81;(first|(with_reducible refine(o.out _).mono ?_)|(with_reducible refine(j.out _).mono ?_));rintro e w'⟨rfl,rfl⟩);go_ret;exact⟨by simp only[aV,D.out];simp,Below.refl _ _⟩);case pos=>have j:=Hi (mZ (n:=((s[0]'u).toNat:Int)) (a:=97) (b:=122) (by unfold fH at k;unfold bN;grind));(have D:Hid ((match s.data.toList with|c::_=>fH c|[]=>Ul)=UJ):=by show(match s.data.toList with|c::_=>fH c|[]=>Ul)=UJ;rw[z.out];exact k);have B:=Hi x;clear k x;go_enter func101,ntmps101;go_wp2_with(go_at_call 81;(first|(with_reducible refine(o.out _).mono ?_)|(with_reducible refine(j.out _).mono ?_));rintro e w'⟨rfl,rfl⟩);go_loopw[4](λ_ K=>∃pos:Nat,pos<=s.size/\K=w.iter s pos/\Hid ((s.data.toList.take pos).all lG=UJ))(λ_ K=>s.size-K.iterPos w.heap.size);(case atStart=>exact⟨0,SK _,rfl,by simp[Hid]⟩);case round=>clear F G o j;obtain⟨pos,O,rfl,m⟩:=hrel;by_cases h:pos<s.size;{by_cases M:(s[pos]'h).toNat<128;{have C:=decode_ascii s pos h M;(have A:∀r,(Instr.next (ϖ w.heap.size) UJ r).run Pz (w.iter s pos)=.ok (.tuple #[.bool UJ,Iv pos,.int .i32 (s[pos]'h).toNat]) (w.iter s (pos+1)):=λr=>by rw[run_next_any w s pos r h,C]);clear C;(have hu0:(0:Int)<=((s[pos]'h).toNat:Int):=by omega);by_cases k:fH (s[pos]'h)=UJ;{have o:=Hi (mZ (n:=((s[pos]'h).toNat:Int)) (a:=97) (b:=122) (by unfold fH at k;unfold bN;grind));have L:=Hi k;clear k;go_wp2_with(go_at_call 81;(with_reducible refine(o.out _).mono ?_);rintro e w'⟨rfl,rfl⟩);go_roundw;(case rel=>exact⟨pos+1,h,rfl,iA h m (by unfold lG;rw[L.out];rfl)⟩);case measure=>simp;omega};(have k:fH (s[pos]'h)=Ul:=by simp_all);have o:=Hi (lK (n:=((s[pos]'h).toNat:Int)) (a:=97) (b:=122) (by unfold fH at k;unfold bN;grind));have L:=Hi k;clear k;by_cases v:oI (s[pos]'h)=UJ;{have j:=Hi (mZ (n:=((s[pos]'h).toNat:Int)) (a:=48) (b:=57) (by unfold oI at v;unfold bN;grind));have HG:=Hi v;clear v;go_wp2_with(go_at_call 81;(first|(with_reducible refine(o.out _).mono ?_)|(with_reducible refine(j.out _).mono ?_));rintro e w'⟨rfl,rfl⟩);go_roundw;(case rel=>exact⟨pos+1,h,rfl,iA h m (by unfold lG;rw[HG.out];simp)⟩);case measure=>simp;omega};(have v:oI (s[pos]'h)=Ul:=by simp_all);have j:=Hi (lK (n:=((s[pos]'h).toNat:Int)) (a:=48) (b:=57) (by unfold oI at v;unfold bN;grind));have E:=Hi (qe (p:=lG) h (by unfold lG;simp_all));clear v;go_wp2_with(go_at_call 81;(first|(with_reducible refine(o.out _).mono ?_)|(with_reducible refine(j.out _).mono ?_));rintro e w'⟨rfl,rfl⟩);go_ret;exact⟨by simp[aV,E.out],gz _ _ _⟩};have C:=decode_high s pos h Ω;have hle:=decode_le s pos;(have N:lG (s[pos]'h)=Ul:=by unfold lG fH oI;simp;omega);have E:=Hi (qe (p:=lG) h N);have A:∀r,(Instr.next (ϖ w.heap.size) UJ r).run Pz (w.iter s pos)=_:=λr=>run_next_any w s pos r h;have o:=Hi (lK (n:=((Utf8.decode s pos).1:Int)) (a:=97) (b:=122) (by unfold bN;simp;omega));have j:=Hi (lK (n:=((Utf8.decode s pos).1:Int)) (a:=48) (b:=57) (by unfold bN;simp;omega));(have h0':(0:Int)<=((Utf8.decode s pos).1:Int):=by omega);clear N C M;go_wp2_with(go_at_call 81;(first|(with_reducible refine(o.out _).mono ?_)|(with_reducible refine(j.out _).mono ?_));rintro e w'⟨rfl,rfl⟩);go_ret;exact⟨by simp[aV,E.out],gz _ _ _⟩};(obtain rfl:pos=s.size:=by omega);have A:∀r,(Instr.next (ϖ w.heap.size) UJ r).run Pz (w.iter s s.size)=_:=λr=>run_next_end w s s.size r h;(have Q:Hid (s.data.toList.all lG=UJ):=by show s.data.toList.all lG=UJ;rw[<-m.out,Tn Θ]);clear m;go_wp2;go_ret;exact⟨by simp only[aV,Q.out,D.out,B.out];simp,gz _ _ _⟩
end
section
attribute[local go_sem↓]Go.wp_at_zero Go.wp_at_succ
def e9(l:List ByteArray)(s:ByteArray):Bool:=l.any (s==·)
def pW(l:List ByteArray)(i:Nat):List MapEntry:=l.mapIdx λj s=>{key:=.string s,val:=.bool UJ,born:=i+j}
def fC(w:UL)(b:Nat)(l:List ByteArray):Prop:=w.heap[b]?=UG (.map (pW l 0).toArray l.length)
theorem Au(s:ByteArray)(l:List ByteArray)(i:Nat):pW (s::l) i={key:=.string s,val:=.bool UJ,born:=i}::pW l (i+1):=by simp[pW,Uq];grind
theorem FC(s:ByteArray):∀(l:List ByteArray)(i j:Nat),∃r,Instr.findNow .string (.string s) (pW l i) j=UG r/\(e9 l s=Ul->r=UM)/\(e9 l s=UJ->∃k,r=UG (k,.bool UJ))|[],i,j=>⟨UM,rfl,λ_=>rfl,λh=>by cases h⟩|x::l,i,j=>by rw[Au];by_cases b:(s==x)=UJ;{refine⟨UG (j,.bool UJ),by simp[Instr.findNow,Instr.sameNow,b],λh=>?_,λ_=>⟨j,rfl⟩⟩;simp[e9,b]at h};(have b:(s==x)=Ul:=by simp_all);obtain⟨r,d,e,f⟩:=FC s l (i+1) (j+1);refine⟨r,by simp only[Instr.findNow,Instr.sameNow,b];exact d,λh=>e ?_,λh=>f ?_⟩;{simpa[e9,b]using h};simpa[e9,b]using h
theorem we(w:UL):(underlying 148).run Pz w=.ok (.map 9 4) w:=run_underlying (show Pz.underlying 148=UG (.map 9 4)by kernel_rfl) w
theorem BJ(w:UL):(underlying 9).run Pz w=.ok .string w:=run_underlying (show Pz.underlying 9=UG .string by kernel_rfl) w
theorem Bq(c:Bool)(s:ByteArray)(w:UL):(Instr.checkKey c 10000 9 (.string s)).run Pz w=.ok () w:=by(have:∀n,(Instr.checkKey c (n+1) 9 (.string s)).run Pz w=.ok () w:=λn=>by simp[Instr.checkKey,BJ]);simp_all
theorem sQ(h:fC w b l)(s:ByteArray):(Instr.lookup 148 (.map (UG b)) (.string s) Ul).run Pz w=.ok (.bool (e9 l s)) w:=by obtain⟨r,d,g,i⟩:=FC s l 0 0;have e:=(Me.bT h).1;cases f:e9 l s with|false=>obtain rfl:=g f;simp[Instr.lookup,we,e,Bq,Instr.findKey,BJ,d,zeroValue4]|true=>obtain⟨k,rfl⟩:=i f;simp[Instr.lookup,we,e,Bq,Instr.findKey,BJ,d]
def mR(w:UL)(b:Nat)(l:List ByteArray):UL:={w with heap:=w.heap.setIfInBounds b (.map (pW l 0).toArray l.length)}
theorem sT(h:fC w b l)(m:e9 l s=Ul):(Instr.mapUpdate 148 (.map (UG b)) (.string s) (.bool UJ)).run Pz w=.ok () (mR w b (l++[s]))/\fC (mR w b (l++[s])) b (l++[s]):=by obtain⟨r,g,i,o⟩:=FC s l 0 0;obtain rfl:=i m;have k:=(Me.bT h).1;have c:b<w.heap.size:=(So.1 h).1;(have j:((pW l 0).toArray.push {key:=.string s,val:=.bool UJ,born:=l.length})=(pW (l++[s]) 0).toArray:=by simp[pW,List.mapIdx_append]);constructor;{simp[Instr.mapUpdate,we,k,Bq,Instr.findKey,BJ,g,(Me.map_set h _ _).1,j,mR]};show(w.heap.setIfInBounds b _)[b]?=_;simp[c]
theorem sA{w0:UL}{B:Nat}(h:Below B w0 w)(a:B<=b):Below B w0 (mR w b l):=h.trans ⟨rfl,rfl,rfl,by simp[mR],λk c=>by show(w.heap.setIfInBounds b _)[k]?=_;grind⟩
theorem fC.below{w w':UL}{b B:Nat}{l:List ByteArray}(h:fC w b l)(c:Below B w w')(a:b<B):fC w' b l:=(c.block b a).trans h
end
section
attribute[local go_sem↓]Go.wp_at_zero Go.wp_at_succ
def fo(w:UL)(sv:UO)(ps:List aC):Prop:=
 (ps=[]/\∃a c,sv=.slice a 0 c)\/∃b off c:Nat,sv=.slice (UG ⟨b,off,UM⟩) ps.length c/\ps≠[]/\b<w.heap.size/\∀(j:Nat)(p:aC)(o:Nat)(v:UO),ps[j]?=UG p->p.vs[o]?=UG v->w.cell? ⟨b,off+j*6+o,UM⟩=UG v
def xv(p:aC):Bool:=bN p.day 0 999&&(bN p.kind 0 9&&(bN p.dH 1 24&&bN p.dN 0 999))
def jQ(seen:List ByteArray)(p:aC):Int:=if aV p.name=Ul then 4 else if e9 seen p.name=UJ then 5 else if aU p.label 3=Ul then 3 else if xv p=Ul then 1 else 0
def yp:List ByteArray->List aC->Int
 |_,[]=>0
 |seen,p::l=>if jQ seen p≠0 then jQ seen p else yp (seen++[p.name]) l
def qY(ps:List aC):Int:=if 8<ps.length then 2 else yp [] ps
def eK(ps:List aC)(k:Nat):List ByteArray:=(ps.take k).map (·.name)
theorem lp{ps:List aC}{p:aC}(h:ps[k]?=UG p):eK ps (k+1)=eK ps k++[p.name]:=by unfold eK;rw[TO,h];simp
theorem Ah{ps:List aC}{p:aC}(h:ps[k]?=UG p)(seen:List ByteArray):yp seen (ps.drop k)=if jQ seen p≠0 then jQ seen p else yp (seen++[p.name]) (ps.drop (k+1)):=by obtain⟨a,b⟩:=SG.1 h;rw[TG a,b];rfl
theorem yD{w1:UL}(a:Below W.heap.size W w1):(∀b o,b<W.heap.size->w1.cell? ⟨b,o,UM⟩=W.cell? ⟨b,o,UM⟩)/\(∀b o,b<W.heap.size->w1.frozen? ⟨b,o,UM⟩=W.frozen? ⟨b,o,UM⟩):=⟨λb o h=>a.cell (p:=⟨b,o,UM⟩) h,λb o h=>a.frozen (p:=⟨b,o,UM⟩) h⟩
theorem qM(w:UL)(o:Obj):fC ((w.alloc o).alloc (.map #[] 0)) (w.heap.size+1) []:=by show((w.heap.push o).push _)[w.heap.size+1]?=_;rw[SP,if_pos Θ];rfl
section
variable{seen:List ByteArray}{p:aC}
theorem Gv(h:(!aV p.name)=UJ):jQ seen p=4:=by(have h:aV p.name=Ul:=by grind);simp[jQ,h]
theorem FA(h:(!aV p.name)=Ul)(a:e9 seen p.name=UJ):jQ seen p=5:=by(have h:aV p.name=UJ:=by grind);simp[jQ,h,a]
theorem E9(h:(!aV p.name)=Ul)(b:e9 seen p.name=Ul)(a:(!aU p.label 3)=UJ):jQ seen p=3:=by
 have h:aV p.name=UJ:=by grind
 have a:aU p.label 3=Ul:=by simp_all
 simp[jQ,h,b,a]
theorem mN(h:(!aV p.name)=Ul)(b:e9 seen p.name=Ul)(a:(!aU p.label 3)=Ul)(c:xv p=Ul):jQ seen p=1:=by
 have h:aV p.name=UJ:=by grind
 have a:aU p.label 3=UJ:=by simp_all
 simp[jQ,h,b,a,c]
theorem FD(h:(!aV p.name)=Ul)(b:e9 seen p.name=Ul)(a:(!aU p.label 3)=Ul)(c:xv p=UJ):jQ seen p=0:=by
 have h:aV p.name=UJ:=by grind
 have a:aU p.label 3=UJ:=by simp_all
 simp[jQ,h,b,a,c]
theorem Ov(h:(!bN p.day 0 999)=UJ):xv p=Ul:=by(have h:bN p.day 0 999=Ul:=by grind);simp[xv,h]
theorem Pj(h:(!bN p.kind 0 9)=UJ):xv p=Ul:=by(have h:bN p.kind 0 9=Ul:=by grind);simp[xv,h]
theorem Py(h:(!bN p.dH 1 24)=UJ):xv p=Ul:=by(have h:bN p.dH 1 24=Ul:=by grind);simp[xv,h]
theorem N7(h:(!bN p.dN 0 999)=UJ):xv p=Ul:=by(have h:bN p.dN 0 999=Ul:=by grind);simp[xv,h]
theorem PO(a:(!bN p.day 0 999)=Ul)(b:(!bN p.kind 0 9)=Ul)(c:(!bN p.dH 1 24)=Ul)(d:(!bN p.dN 0 999)=Ul):xv p=UJ:=by
 have a:bN p.day 0 999=UJ:=by simp_all
 have b:bN p.kind 0 9=UJ:=by simp_all
 have c:bN p.dH 1 24=UJ:=by simp_all
 have d:bN p.dN 0 999=UJ:=by simp_all
 simp[xv,a,b,c,d]
end
theorem aY{b:Int}(h:a=b):Ending.returned (Iv a)=.returned (Iv b):=by rw[h]
theorem fC.alloc(h:fC w b l)(a:b<w.heap.size)(o:Obj):fC (w.alloc o) b l:=by show(w.heap.push o)[b]?=_;rw[SP,if_neg (TJ a)];exact h
set_option maxRecDepth 100000 in set_option maxHeartbeats 8000000 in theorem xI(c:List aC)(sv nv:UO)(w:UL)(hP:fo w sv c)(hn:c.length<=1000)(hs:∀p∈c,p.name.size<4294967281/\p.label.size<4294967281):Vt Pz 65 #[.agg #[nv,sv]] w λe w'=>e=.returned (Iv (qY c))/\Below w.heap.size w w':=by rcases hP with⟨rfl,a,c',rfl⟩|⟨s,g,c',rfl,hne,hblk,m⟩;{have B:∀W:UL,(Instr.makeMap 148 UM).run Pz W=.ok (.map (UG W.heap.size)) (W.alloc (.map #[] 0)):=λW=>rfl;go_enter func65,ntmps65;go_wp2;clear B;go_loopw[16](λt wr=>t=Iv 0/\Below w.heap.size w wr)(λt _=>0);(case atStart=>exact⟨rfl,((Below.refl _ _).alloc (Sm _) _).alloc Θ _⟩);case round=>obtain⟨rfl,u⟩:=hrel;have HB:=Hi u;clear u;go_wp2;go_ret;exact⟨rfl,HB.out⟩};have HC:=Hi m;clear m;by_cases h8:8<c.length;{have n:Hid (qY c=2):=if_pos h8;(have h8':(8:Int)<c.length:=by omega);go_enter func65,ntmps65;go_wp2;go_ret;exact⟨by rw[n.out];rfl,(Below.refl _ _).alloc (Sm _) _⟩};have n:Hid (qY c=yp [] c):=if_neg h8;(have h8':(c.length:Int)<=8:=by omega);have B:∀W:UL,(Instr.makeMap 148 UM).run Pz W=.ok (.map (UG W.heap.size)) (W.alloc (.map #[] 0)):=λW=>rfl;go_enter func65,ntmps65;go_wp2;clear h8' B;go_loopw[16](λt wr=>∃k:Nat,k<=c.length/\t=Iv k/\Below w.heap.size w wr/\fC wr (w.heap.size+1) (eK c k)/\w.heap.size+1<wr.heap.size/\Hid (yp [] c=yp (eK c k) (c.drop k)))(λt _=>c.length-(intOf t).toNat);(case atStart=>exact⟨0,by omega,rfl,((Below.refl _ _).alloc (Sm _) _).alloc Θ _,qM _ _,by simp,rfl⟩);case round=>obtain⟨k,hk,rfl,u,hN,hsz,hg⟩:=hrel;by_cases hlt:k<c.length;{obtain⟨p,hp⟩:∃p,c[k]?=UG p:=⟨c[k],Sq hlt⟩;have b:∀(o:Nat)(v:UO),p.vs[o]?=UG v->wr.cell? ⟨s,g+k*6+o,UM⟩=UG v:=λo v ho=>(u.cell (p:=⟨s,g+k*6+o,UM⟩) hblk).trans (HC.out k p o v hp ho);have c0:wr.cell? ⟨s,g+k*6,UM⟩=UG (.string p.name):=b 0 _ rfl;have c1:wr.cell? ⟨s,g+k*6+1,UM⟩=UG (.string p.label):=b 1 _ rfl;have c2:wr.cell? ⟨s,g+k*6+2,UM⟩=UG (Iv p.day):=b 2 _ rfl;have c3:wr.cell? ⟨s,g+k*6+3,UM⟩=UG (Iv p.kind):=b 3 _ rfl;have c4:wr.cell? ⟨s,g+k*6+4,UM⟩=UG (Iv p.dH):=b 4 _ rfl;have c5:wr.cell? ⟨s,g+k*6+5,UM⟩=UG (Iv p.dN):=b 5 _ rfl;clear b;have HB:=Hi u;have HN:=Hi hN;have Hp:=Hi hp;have Hs:=Hi (hs p (Ss hp));clear u hN hp hs;have x:=λ(W:UL)(h:fC W (w.heap.size+1) (eK c k))(hh:e9 (eK c k) p.name=Ul)=>sT h hh;have HUP:=Hi x;clear x;go_wp2_with(first|(go_at_call 101;refine(so p.name _ Hs.out.1).mono ?_;rintro e w1⟨rfl,q⟩;obtain⟨hc1,hf1⟩:=yD q;have HN1:=Hi ((HN.out.alloc hsz _).below q (by simp;omega));have hl1:=sQ HN1.out p.name;have y:=Hi ((HB.out.alloc Ω _).trans (q.mono (by simp;omega)));have hz1:wr.heap.size<w1.heap.size:=by have:=q.size;simp at this;omega)|(go_at_call 61;refine(fL p.label 3 _ Hs.out.2).mono ?_;rintro e w2⟨rfl,r⟩;obtain⟨hc2,hf2⟩:=yD r;have HN2:=Hi (HN1.out.below r Ω);have i:=Hi (y.out.trans (r.mono Ω));(have hz2:w.heap.size+1<w2.heap.size:=by have:=r.size;omega);obtain⟨hup,hN3⟩:=HUP.out _ HN2.out ‹e9 (eK c k) p.name=Ul›;have HN3:=Hi hN3;clear hN3)|(go_at_call 81;refine(kh _ _ _ _).mono ?_;rintro e w'⟨rfl,rfl⟩));(all_goals try(first|exact absurd (Eq.trans (Eq.symm ‹(!bN p.day 0 999)=UJ›) ‹(!bN p.day 0 999)=Ul›) Δ|exact absurd (Eq.trans (Eq.symm ‹(!bN p.kind 0 9)=UJ›) ‹(!bN p.kind 0 9)=Ul›) Δ|exact absurd (Eq.trans (Eq.symm ‹(!bN p.dH 1 24)=UJ›) ‹(!bN p.dH 1 24)=Ul›) Δ));(all_goals try(go_roundw;(case rel=>exact⟨k+1,by omega,by go_num,sA i.out Ω,by rw[lp Hp.out];exact HN3.out,by simpa[mR]using hz2,by show _=_;rw[hg.out,Ah Hp.out,lp Hp.out,FD ‹_› ‹_› ‹_› (PO ‹_› ‹_› ‹_› ‹_›)];rfl⟩);case measure=>simp[intOf];omega));(all_goals(have z:yp [] c=if jQ (eK c k) p≠0 then jQ (eK c k) p else yp (eK c k++[p.name]) (c.drop (k+1)):=by rw[hg.out,Ah Hp.out]);go_ret);{exact⟨aY (by rw[n.out,z,Gv ‹_›];rfl),y.out⟩};{exact⟨aY (by rw[n.out,z,FA ‹_› ‹_›];rfl),y.out⟩};{exact⟨aY (by rw[n.out,z,E9 ‹_› ‹_› ‹_›];rfl),i.out⟩};{exact⟨aY (by rw[n.out,z,mN ‹_› ‹_› ‹_› (Ov ‹_›)];rfl),i.out⟩};{exact⟨aY (by rw[n.out,z,mN ‹_› ‹_› ‹_› (Pj ‹_›)];rfl),i.out⟩};{exact⟨aY (by rw[n.out,z,mN ‹_› ‹_› ‹_› (Py ‹_›)];rfl),i.out⟩};exact⟨aY (by rw[n.out,z,mN ‹_› ‹_› ‹_› (N7 ‹_›)];rfl),i.out⟩};(obtain rfl:k=c.length:=by omega);have HB:=Hi u;clear u hN hs;go_wp2;go_ret;exact⟨aY (by rw[n.out,hg.out];simp[yp]),HB.out⟩
end
end Go.Proofs
