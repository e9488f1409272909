/- DebtFewests is true for every input: the first settlement with the fewest payments: a part (5 of 10) of the proof of its row. -/
import Derived.Test.YteafnffcpbehhaaGreatFwb
import Derived.Test.YteafnffcpbehhaaGreatFwc
import Derived.Test.YteafnffcpbehhaaGreatFwd
import Derived.Conc.WgGenN3
set_option linter.all false
set_option maxRecDepth 100000
namespace Pal
open Go Go.Conc
def DO(m:M4):Nat:=m.l.toNat+2*m.k.toNat+4*m.s.toNat
def M4.nat(m:M4):Nat:=m.l.toNat+2*m.k.toNat+4*m.s.toNat+8*m.w
theorem Qk(m:M4):DO m<8:=by
 have I:=vr m.l;have K:=vr m.k;have O:=vr m.s;unfold DO;omega
theorem M4.nat_eq(m:M4):m.nat=8*m.w+DO m:=by unfold M4.nat DO;omega
abbrev Eg:=@M4.nat_eq
theorem M4.TK(m:M4):m.nat/8=m.w:=by have:=Qk m;rw[Eg];omega
theorem M4.TB(m:M4):m.nat%8=DO m:=by have:=Qk m;rw[Eg];omega
def C9(m:M4):Prop:=m.w<200000000
theorem C9.lt{m:M4}(h:C9 m):m.nat<2147483648:=by have:=Qk m;unfold C9 at h;rw[Eg];omega
theorem ED.C9{m:M4}(h:ED m):C9 m:=by unfold ED at h;unfold Pal.C9;omega
variable{a b:Nat}
theorem fD(hb:b<8):a&&& b=(a%8)&&& b:=by
 apply wp;intro i;rw[w6,w6];by_cases h:i<3;rw[show(8:Nat)=2^3 from rfl,Nat.testBit_mod_two_pow];simp[h];have:b.testBit i=false:=uY (tW hb (by rw[show(8:Nat)=2^3 from rfl];exact tx AB AB));rw[this];simp
theorem Yf(hb:b<8):a|||b=8*(a/8)+((a%8)|||b):=by
 have I:a=(a/8)<<<3|||(a%8):=by
  rw[← wx AB,Nat.shiftLeft_eq];omega
 have K:(a%8)|||b<2^3:=wb AB AB
 calc a|||b=((a/8)<<<3|||(a%8))|||b:=by rw[← I]
  _=(a/8)<<<3|||((a%8)|||b):=Nat.or_assoc _ _ _
  _=(a/8)<<<3+((a%8)|||b):=(wx K _).symm
  _=8*(a/8)+((a%8)|||b):=by rw[Nat.shiftLeft_eq];omega
theorem GN(h:a<2147483648):IntKind.i32.wrap (a:Int)=a:=by
 simp only[IntKind.wrap,IntKind.bits,IntKind.signed];simp;omega
theorem Pj(h:a<2147483648):(BitVec.ofInt IntKind.i32.bits (a:Int)).toNat=a:=by
 simp[IntKind.bits,wG];omega
theorem M4.Lz(m:M4):m.num=(m.nat:Int):=rfl
abbrev H1:=@M4.Lz
variable {P:Program}{s:St}{ρ:Operand->Value}{d:Option Tmp}{t u ty e:TypeId}{p:String}{af:Ae_}{g:On_}
variable{c:Nat}{m':M4}
section
variable {x y:Operand}{m:M4}
abbrev ZA(n:Nat):Value:=.int .i32 (n:Int)
theorem FR(hm:C9 m)(K:ρ x=.int .i32 m.num)(O:ρ y=.int .i32 (c:Int))(U:c<8):Yl P ⟨d,.binOp .and t x y u,ty,p,af,g⟩ ρ s (ZA (DO m&&& c)):=by
 have h:=Dt (P:=P) (s:=s) (d:=d) (t:=t) (u:=u) (ty:=ty) (p:=p) (af:=af) (g:=g) K O;have I:=hm.lt;rw[H1,vG,Pj I,Pj AB,GN (uB w5 I),fD U,M4.TB] at h;exact h
theorem iu{m:M4}(hm:C9 m)(K:c<8)(O:DO m|||c=DO m')(I:m'.w=m.w):IntKind.i32.wrap ((BitVec.ofInt IntKind.i32.bits m.num|||BitVec.ofInt IntKind.i32.bits (c:Int)).toNat:Int)=m'.num:=by
 have U:=hm.lt;have Y:m.nat|||c=m'.nat:=by rw[Yf K,M4.TK,M4.TB,O,Eg m',I]
 have Z:m'.nat<2147483648:=by
  have:=Qk m';unfold C9 at hm;rw[Eg,I];omega
 rw[H1,BitVec.toNat_or,Pj U,Pj AB,Y,GN Z,H1]
theorem Ru(hm:C9 m)(I:c<8)(K:DO m|||c=DO m')(O:m'.w=m.w)(U:ρ x=.int .i32 m.num)(Y:ρ y=.int .i32 (c:Int)):Yl P ⟨d,.binOp .or t x y u,ty,p,af,g⟩ ρ s (.int .i32 m'.num):=by
 have h:=Yl.or (P:=P) (s:=s) (d:=d) (t:=t) (u:=u) (ty:=ty) (p:=p) (af:=af) (g:=g) U Y;rw[iu hm I K O] at h;exact h
theorem nB(m:M4):DO m|||1=DO {m with l:=true}:=by obtain⟨l,k,s,w⟩:=m;cases l<;>cases k<;>cases s<;>simp[DO]
theorem U1(m:M4):DO m|||2=DO {m with k:=true}:=by obtain⟨l,k,s,w⟩:=m;cases l<;>cases k<;>cases s<;>simp[DO]
theorem nD(m:M4):DO m|||4=DO {m with s:=true}:=by obtain⟨l,k,s,w⟩:=m;cases l<;>cases k<;>cases s<;>simp[DO]
theorem Yl.andNot{kd:IntKind}{a b:Int}(I:ρ x=.int kd a)(K:ρ y=.int kd b):Yl P ⟨d,.binOp .andNot t x y u,ty,p,af,g⟩ ρ s (.int kd (kd.wrap (BitVec.ofInt kd.bits a&&& ~~~ BitVec.ofInt kd.bits b).toNat)):=by
 simp[Yl,execOp,lp,pure,bind,Sem.bind,I,K,eqGuard,Go.binOp,Op.intBits]
theorem nK(i:Nat):(2:Nat).testBit i=decide (i=1):=by
 by_cases h:i<2;exact(by decide:∀j:Fin 2,(2:Nat).testBit j.1=decide (j.1=1)) ⟨i,h⟩;rw[uY (tW (show 2<2^2 by decide) (tx AB AB))];simp;omega
theorem nC(i:Nat):(4294967293:Nat).testBit i=(decide (i<32)&& !decide (i=1)):=by
 by_cases h:i<32;exact(by decide:∀j:Fin 32,(4294967293:Nat).testBit j.1=(decide (j.1<32)&& !decide (j.1=1))) ⟨i,h⟩;rw[uY (tW (show 4294967293<2^32 by decide) (tx AB AB))];simp[h]
theorem TR{m:M4}(hm:C9 m)(I:m.k=true):m.nat&&& 4294967293=({m with k:=false}:M4).nat:=by
 have O:m.nat=({m with k:=false}:M4).nat|||2:=by
  rw[Yf AB,M4.TK,M4.TB,Eg m,U1];obtain⟨l,k,s,w⟩:=m;simp only at I;subst I;rfl
 have U:({m with k:=false}:M4).nat<2147483648:=(show C9 {m with k:=false} from hm).lt;have Y:({m with k:=false}:M4).nat.testBit 1=false:=by
  rw[Nat.testBit_succ,Nat.testBit_zero];have:({m with k:=false}:M4).nat/2%2=0:=by
   have:=vr m.l;simp only[M4.nat,sY];omega
  simp[this]
 rw[O];apply wp;intro i;rw[w6,Nat.testBit_or,nK,nC];by_cases h:i=1;subst h;rw[Y];rfl;by_cases K:i<32;simp[h,K];rw[uY (tW U (by rw[show(2147483648:Nat)=2^31 from rfl];exact tx AB AB))];simp[K]
theorem Yl.TR(hm:C9 m)(I:m.k=true)(K:ρ x=.int .i32 m.num)(O:ρ y=.int .i32 2):Yl P ⟨d,.binOp .andNot t x y u,ty,p,af,g⟩ ρ s (.int .i32 ({m with k:=false}:M4).num):=by
 have h:=Yl.andNot (P:=P) (s:=s) (d:=d) (t:=t) (u:=u) (ty:=ty) (p:=p) (af:=af) (g:=g) K O;have U:({m with k:=false}:M4).nat<2147483648:=(show C9 {m with k:=false} from hm).lt;rw[H1,vG,Pj hm.lt,show(~~~ BitVec.ofInt IntKind.i32.bits 2).toNat=4294967293 from rfl,Pal.TR hm I,GN U] at h;exact h
theorem Kl(hm:C9 m)(I:ρ x=.int .i32 m.num)(K:ρ y=.int .u64 3):Yl P ⟨d,.binOp .shr t x y u,ty,p,af,g⟩ ρ s (ZA m.w):=by
 have h:=E7 (P:=P) (s:=s) (d:=d) (t:=t) (u:=u) (ty:=ty) (p:=p) (af:=af) (g:=g) I K AD;have e:m.num.fdiv (2^(min (3:Int).toNat IntKind.i32.bits))=(m.w:Int):=by
  rw[show(2:Int)^(min (3:Int).toNat IntKind.i32.bits)=8 from rfl,H1,u9 _ AD];have:=M4.TK m;omega
 rw[e] at h;exact h
theorem fT(hm:ED m)(I:ρ x=.int .i32 m.num)(K:ρ y=.int .i32 8):Yl P ⟨d,.binOp .add t x y u,ty,p,af,g⟩ ρ s (.int .i32 ({m with w:=m.w+1}:M4).num):=by
 have h:=Yl.add (P:=P) (s:=s) (d:=d) (t:=t) (u:=u) (ty:=ty) (p:=p) (af:=af) (g:=g) I K;have e:m.num+8=((({m with w:=m.w+1}:M4).nat:Nat):Int):=by simp only[H1,M4.nat];omega
 rw[e,GN (show C9 {m with w:=m.w+1} by unfold ED at hm;unfold C9;simp only;omega).lt] at h;exact h
theorem fK(hm:C9 m)(hw:m.w≠0)(I:ρ x=.int .i32 m.num)(K:ρ y=.int .i32 8):Yl P ⟨d,.binOp .sub t x y u,ty,p,af,g⟩ ρ s (.int .i32 ({m with w:=m.w - 1}:M4).num):=by
 have h:=D3 (P:=P) (s:=s) (d:=d) (t:=t) (u:=u) (ty:=ty) (p:=p) (af:=af) (g:=g) I K;have e:m.num - 8=((({m with w:=m.w - 1}:M4).nat:Nat):Int):=by simp only[H1,M4.nat];omega
 rw[e,GN (show C9 {m with w:=m.w - 1} by unfold C9 at*;simp only;omega).lt] at h;exact h
theorem fE(hm:C9 m)(I:m.l=false)(K:ρ x=.int .i32 m.num)(O:ρ y=.int .i32 1):Yl P ⟨d,.binOp .add t x y u,ty,p,af,g⟩ ρ s (.int .i32 ({m with l:=true}:M4).num):=by
 have h:=Yl.add (P:=P) (s:=s) (d:=d) (t:=t) (u:=u) (ty:=ty) (p:=p) (af:=af) (g:=g) K O;have e:m.num+1=((({m with l:=true}:M4).nat:Nat):Int):=by simp only[H1,M4.nat,I,tc,sY];omega
 rw[e,GN (show C9 {m with l:=true} from hm).lt] at h;exact h
end
theorem ns(m:M4):((DO m&&& 5:Nat):Int)=1↔m.l=true/\m.s=false:=by obtain⟨l,k,s,w⟩:=m;cases l<;>cases k<;>cases s<;>simp[DO]
theorem O4(m:M4):((DO m&&& 5:Nat):Int)=0↔m.l=false/\m.s=false:=by obtain⟨l,k,s,w⟩:=m;cases l<;>cases k<;>cases s<;>simp[DO]
theorem Jb(m:M4):((DO m&&& 4:Nat):Int)=0↔m.s=false:=by obtain⟨l,k,s,w⟩:=m;cases l<;>cases k<;>cases s<;>simp[DO]
theorem Uz(m:M4):((DO m&&& 2:Nat):Int)=0↔m.k=false:=by obtain⟨l,k,s,w⟩:=m;cases l<;>cases k<;>cases s<;>simp[DO]
theorem UI(m:M4):((DO m&&& 1:Nat):Int)=0↔m.l=false:=by obtain⟨l,k,s,w⟩:=m;cases l<;>cases k<;>cases s<;>simp[DO]
theorem RJ(m:M4):((DO m&&& 3:Nat):Int)=0↔m.l=false/\m.k=false:=by obtain⟨l,k,s,w⟩:=m;cases l<;>cases k<;>cases s<;>simp[DO]
theorem YY(m:M4):((DO m&&& 7:Nat):Int)=0↔m.l=false/\m.k=false/\m.s=false:=by obtain⟨l,k,s,w⟩:=m;cases l<;>cases k<;>cases s<;>simp[DO]
end Pal
namespace Go.Proofs
abbrev Tryz.link:Go.Conc.Lib.WgLink:={add:=63,done:=65,wait:=70,relMerge:=94,disable:=95,enable:=96,inBubble:=97,associate:=98,fatal:=99,uOr:=100,uAdd:=101,raceRead:=102,uLoad:=103,uStore:=104,disassociate:=105,semrelease:=106,acquire:=111,isAssociated:=112,uCas:=113,raceWrite:=114,semacquire:=115,orU64:=129,addU64:=130,loadU64:=131,storeU64:=132,casU64:=140,tWgP:=156,tUP:=158,tAssoc:=159,tWg:=122,tAU:=120,tU64:=56,tUint:=110,tU32:=69,tPU32:=163,tPAU:=191,tPU64:=193,tNoCopy:=112,tANoCopy:=117,tAlign64:=118}
theorem Tryz.My:Go.Conc.Lib.WgLib Tryz.prog Tryz.link:=
 ⟨Tryz.func63,Tryz.func65,Tryz.func70,Tryz.func94,Tryz.func95,Tryz.func96,Tryz.func97,Tryz.func98,Tryz.func99,Tryz.func100,Tryz.func101,Tryz.func102,Tryz.func103,Tryz.func104,Tryz.func105,Tryz.func106,Tryz.func111,Tryz.func112,Tryz.func113,Tryz.func114,Tryz.func115,Tryz.func129,Tryz.func130,Tryz.func131,Tryz.func132,Tryz.func140,Tryz.underlying156,Tryz.runUnderlying156,Tryz.sizeOf156,Tryz.isAgg156,Tryz.zeroValue156,Tryz.underlying158,Tryz.runUnderlying158,Tryz.sizeOf158,Tryz.isAgg158,Tryz.zeroValue158,Tryz.underlying159,Tryz.runUnderlying159,Tryz.sizeOf159,Tryz.isAgg159,Tryz.zeroValue159,Tryz.underlying122,Tryz.runUnderlying122,Tryz.sizeOf122,Tryz.isAgg122,Tryz.zeroValue122,Tryz.underlying120,Tryz.runUnderlying120,Tryz.sizeOf120,Tryz.isAgg120,Tryz.zeroValue120,Tryz.underlying56,Tryz.runUnderlying56,Tryz.sizeOf56,Tryz.isAgg56,Tryz.zeroValue56,Tryz.underlying110,Tryz.runUnderlying110,Tryz.sizeOf110,Tryz.isAgg110,Tryz.zeroValue110,Tryz.underlying69,Tryz.runUnderlying69,Tryz.sizeOf69,Tryz.isAgg69,Tryz.zeroValue69,Tryz.underlying163,Tryz.runUnderlying163,Tryz.sizeOf163,Tryz.isAgg163,Tryz.zeroValue163,Tryz.underlying191,Tryz.runUnderlying191,Tryz.sizeOf191,Tryz.isAgg191,Tryz.zeroValue191,Tryz.underlying193,Tryz.runUnderlying193,Tryz.sizeOf193,Tryz.isAgg193,Tryz.zeroValue193,Tryz.underlying0,Tryz.runUnderlying0,Tryz.sizeOf0,Tryz.isAgg0,Tryz.zeroValue0,Tryz.underlying3,Tryz.runUnderlying3,Tryz.sizeOf3,Tryz.isAgg3,Tryz.zeroValue3,Tryz.underlying4,Tryz.runUnderlying4,Tryz.sizeOf4,Tryz.isAgg4,Tryz.zeroValue4,Tryz.underlying9,Tryz.runUnderlying9,Tryz.sizeOf9,Tryz.isAgg9,Tryz.zeroValue9,Tryz.underlying20,Tryz.runUnderlying20,Tryz.sizeOf20,Tryz.isAgg20,Tryz.zeroValue20,Tryz.underlying21,Tryz.runUnderlying21,Tryz.sizeOf21,Tryz.isAgg21,Tryz.zeroValue21,(by decide+kernel),(by decide+kernel)⟩
end Go.Proofs
namespace Pal
open Go Go.Conc Go.Conc.Lib Go.Proofs Go.ConcR.Gen
theorem YX:CH Tryz.prog 95 (λ_=>do mark .disable;pure Extern.Race.none_):=PK Tryz.My
theorem R5:CH Tryz.prog 96 (λ_=>do mark .enable;pure Extern.Race.none_):=KQ Tryz.My
theorem Zc:CH Tryz.prog 111 (Extern.Race.marked .acquire):=SD Tryz.My
theorem nj:CH Tryz.prog 94 (Extern.Race.marked .releaseMerge):=Vj Tryz.My
theorem RF:CH Tryz.prog 136 (Extern.Atomic.casT (.int .i32)):=⟨⟨_,Tryz.func136,by decide+kernel,V,by kernel_rfl,by kernel_rfl⟩⟩
theorem IC:CH Tryz.prog 138 (Extern.Atomic.update (Op.intArith .add) .i32 true):=⟨⟨_,Tryz.func138,by decide+kernel,V,by kernel_rfl,by kernel_rfl⟩⟩
theorem ll:CH Tryz.prog 149 Extern.Sync.canSpin:=⟨⟨_,Tryz.func149,by decide+kernel,V,by kernel_rfl,by kernel_rfl⟩⟩
theorem Ov:CH Tryz.prog 150 (λ_=>pure Extern.Sync.none_):=⟨⟨_,Tryz.func150,by decide+kernel,V,by kernel_rfl,by kernel_rfl⟩⟩
theorem Uc:CH Tryz.prog 152 Extern.OsHooks.nano:=⟨⟨_,Tryz.func152,by decide+kernel,V,by kernel_rfl,by kernel_rfl⟩⟩
theorem X5:CH Tryz.prog 153 Extern.Sync.semacquire:=⟨⟨_,Tryz.func153,by decide+kernel,V,by kernel_rfl,by kernel_rfl⟩⟩
theorem YM:CH Tryz.prog 155 Extern.Sync.semrelease:=⟨⟨_,Tryz.func155,by decide+kernel,V,by kernel_rfl,by kernel_rfl⟩⟩
def mN(sv aw:Bool)(m:M4):M4:=⟨m.l || !m.s,!aw&&m.k,m.s || (sv&&m.l),if m.l=true∨m.s=true then m.w+1 else m.w⟩
variable{F:Fam}{Q:GP}{b:Frame}{i n:Nat}{L:Env}{ds:Ld_}{k:Li_}{cs:Lf_}{s:St}{ops:Ao_}{rest:List Nat}{d:Option Tmp}{x:Operand}{ty:TypeId}{af:Ae_}{g:On_}
abbrev Do:=@Go.Proofs.Tryz.underlying114
theorem JL.uA{J:Judge Tryz.prog}{p:String}(I:F9 b n L ops i=some ⟨d,.fieldAddr 114 x 0,ty,p,af,g⟩)(K:ev L x=some (.pointer (some F.uA)))(h:JL J Q b n (AG L d (.pointer (some F.uA))) ds (Ah ops rest k) cs s):JL J Q b n L ds (Ag ops i rest k) cs s:=As I (λ_ h=>Gm (a:=F.uA) 0 0 Do (Bg Tryz.type21) V V V (h _ _ K)) h
abbrev C2:=@JL.uA
variable{P:Program}
theorem lI{J:Judge P}{c:Code}(h:∀I,I=k->JL J Q b n L ds (.code c::I) cs s):JL J Q b n L ds (.code c::k) cs s:=h _ V
theorem YZ{J:Judge P}(h:∀I,I=k->JL J Q b n L ds I cs s):JL J Q b n L ds k cs s:=h _ V
theorem JN:(Tryz.prog.funcs[137]?).any (·.norace)=true:=by rw[Tryz.func137];rfl
abbrev Fv:=@Go.Proofs.Tryz.func110
theorem mQ:(Tryz.prog.funcs[110]?).any (·.norace)=true:=by rw[Fv];rfl
abbrev EN:=@Go.Proofs.Tryz.func139
theorem lS:(Tryz.prog.funcs[139]?).any (·.norace)=true:=by rw[EN];rfl
theorem UN:(Tryz.prog.funcs[152]?).any (·.norace)=true:=by rw[Tryz.func152];rfl
theorem Tx:(Tryz.prog.info? 114).map (λi=>decide (i.size=0))=some false:=(s7 (Option.map (λi=>decide (i.size=0))) Tryz.type114).trans V
abbrev Ih:=Bool×Bool×Nat×M4×Int
def Y0(a:Ih):Prop:=(a.2.1=true->a.2.2.2.1.k=true)/\a.2.2.1<=4/\ED a.2.2.2.1
def UK(a:Ih):LP:=.DL a.1 a.2.1 a.2.2.1 a.2.2.2.1
variable{aw sv:Bool}{it q:Nat}{old:M4}
theorem ga(h:old.l=false/\old.s=false):(mN sv aw old,q,#[Fam.CR F.uA,Fam.FN F.uA],some LP.len)∈F.Cy (.DL sv aw it old) old q:=by
 obtain⟨l,k,s,w⟩:=old;obtain⟨I,K⟩:=h;simp only at I K;subst I K;simp[Fam.Cy,Fam.GU,mN]
theorem W7(h:¬(old.l=false/\old.s=false))(x:LP)(I:x=.Ku sv∨x=.Dr sv):(mN sv aw old,q,#[Fam.CR F.uA,Fam.FN F.uA],some x)∈F.Cy (.DL sv aw it old) old q:=by
 obtain⟨l,k,s,w⟩:=old;show _∈F.GU _ _ _ _ _ _;unfold Fam.GU;rw[sO];right;rw[d9 rfl,d0 h];cases l<;>cases s<;>simp[mN] at h ⊢<;>rcases I with rfl | rfl<;>simp
variable{m:M4}
theorem eG(h:m≠old):(m,q,#[Fam.CR F.uA],some (LP.Gh sv aw it))∈F.Cy (.DL sv aw it old) m q:=by
 show _∈F.GU _ _ _ _ _ _;unfold Fam.GU;rw[sO];right;rw[d0 h];exact de.2 V
theorem gH(I:old.l=true/\old.s=false)(K:it<4)(O:old.k=false)(U:old.w≠0):(({old with k:=true}:M4),q,#[Fam.CR F.uA,Fam.FN F.uA],some (LP.Gh sv true (it+1)))∈F.Cy (.DL sv false it old) old q:=by
 show _∈F.GU _ _ _ _ _ _;unfold Fam.GU;rw[sO];left;rw[d9 ⟨I.1,I.2,K⟩,d9 ⟨rfl,O,U⟩,d9 rfl];exact de.2 V
theorem fM(I:old.l=true/\old.s=false)(K:it<4)(O:old.k=false)(U:old.w≠0)(hm:m≠old):(m,q,#[Fam.CR F.uA],some (LP.Gh sv false (it+1)))∈F.Cy (.DL sv false it old) m q:=by
 show _∈F.GU _ _ _ _ _ _;unfold Fam.GU;rw[sO];left;rw[d9 ⟨I.1,I.2,K⟩,d9 ⟨rfl,O,U⟩,d0 hm];exact de.2 V
theorem TL(I:old.l=true/\old.s=false)(K:it<4)(O:¬(aw=false/\old.k=false/\old.w≠0)):(m,q,#[],some (LP.DL sv aw (it+1) m))∈F.Cy (.DL sv aw it old) m q:=by
 show _∈F.GU _ _ _ _ _ _;unfold Fam.GU;rw[sO];left;rw[d9 ⟨I.1,I.2,K⟩,d0 O];exact de.2 V
theorem Io(m:M4)(h:m.s=true):m={m with l:=m.l || !m.s}:=by
 obtain⟨l,k,s,w⟩:=m;simp only at h;subst h;simp
variable{ats:Array TypeId}{pp:String}{kk:Nat}
abbrev Fd:=@Go.Proofs.Tryz.underlying158
abbrev Fc:=@Go.Proofs.Tryz.underlying203
set_option maxHeartbeats 4000000 in
theorem bF(U:s.q=false)(cw:ops[i]?=some ⟨d,.call ⟨.value (.func 137),#[x],ats⟩,ty,pp,af,g⟩)(hw:A9 L ops ⟨d,.call ⟨.value (.func 137),#[x],ats⟩,ty,pp,af,g⟩=some true)(cy:((b.kind != .early)&&BC n d)=true)(c0:ev L x=some (.pointer (some F.uA)))
  (h:JL (Bo Tryz.prog false) (Stop Tryz.prog F (.lk kk .GY)) b n (AG L d (.tuple #[])) ds (Ah ops rest k) cs s):
  JL (Bo Tryz.prog false) (Stop Tryz.prog F (.lk kk (.Gh false false 0))) b n L ds (Ag ops i rest k) cs s:=by
 refine Iv (vs:=[.pointer (some F.uA)]) cw hw cy Tryz.func137 AC V (by simp[evs,c0]) (sZ V) λb0 back=>C 20 V (C2 V V (Iw DJ U V V V V V Ir JN V λb1 ed bo=>⟨some (.DL false false 0 b1),de.2 V,C 3 V (lI λc4 c5=>?_)⟩));have aq:∀X:Ph->GP,Ek Tryz.prog F X->(∀p g s,Stop Tryz.prog F p g s->X p g s)->∀L',look L' 0=some (.pointer (some F.uA))->JL (Bo Tryz.prog false) (X (.lk kk .len)) (base 137) Tryz.f137.ntmps L' [] c4 (b0::cs) s:=by
  intro X K al L' c6;rw[c5];exact EU (L':=[(0,.pointer (some F.uA))]) ⟨c6,trivial⟩ (C 3 V (Ns K U V (λ_ _=>V) V V V V AM R5 (C 3 V (S3 K U V (λ_ _=>V) V V V V Fc Fd Tx V (Tv K U V (λ_ _=>V) V V V V AM Zc V V (A1 (DA V V (C0 Tryz.func137 V) (back _ _ _ _ (P3 (λg s=>al _ g s) h)))))))))
 refine Ay (Ki (FC [(0,.pointer (some F.uA)),(2,iV 0),(3,.bool false),(4,.bool false),(5,iV ((0:Nat):Int)),(6,.int .i32 (b1:M4).num)] V (YZ λb2 a1=>Yd (s:=s) (kk:=kk) (ph:=UK) (ok:=Y0) (head:=λ(X:Ph->GP) (a:Ih)=>JL (Bo Tryz.prog false) (X (.lk kk (UK a))) (base 137) Tryz.f137.ntmps ([(0,.pointer (some F.uA)),(2,iV a.2.2.2.2),(3,.bool a.1),(4,.bool a.2.1),(5,iV (a.2.2.1:Int)),(6,.int .i32 (a.2.2.2.1:M4).num)]) [] b2 (b0::cs) s) ?_ (false,false,0,b1,0) ⟨(λe=>by cases e),tz _,bo.2.2.1⟩)));intro Y bv ee hC;have key:∀N (a:Ih),4 - a.2.2.1<N->Y0 a->(λ(X:Ph->GP) (a:Ih)=>JL (Bo Tryz.prog false) (X (.lk kk (UK a))) (base 137) Tryz.f137.ntmps ([(0,.pointer (some F.uA)),(2,iV a.2.2.2.2),(3,.bool a.1),(4,.bool a.2.1),(5,iV (a.2.2.1:Int)),(6,.int .i32 (a.2.2.2.1:M4).num)]) [] b2 (b0::cs) s) Y a:=by
  intro N
  induction N with
  | zero=>intro a b5;omega
  | succ N bw=>
   rintro⟨sv,aw,it,old,wt⟩ c7 bo;simp only at c7;have c8:aw=true->old.k=true:=bo.1;have b3:ED old:=bo.2.2;have av:C9 old:=b3.C9;show JL (Bo Tryz.prog false) (Y (.lk kk (.DL sv aw it old))) (base 137) Tryz.f137.ntmps [(0,.pointer (some F.uA)),(2,iV wt),(3,.bool sv),(4,.bool aw),(5,iV (it:Int)),(6,.int .i32 (old:M4).num)] [] b2 (b0::cs) s;rw[a1];refine C 2 V (Bs (λL s'=>s=s'/\L=[(0,.pointer (some F.uA)),(2,iV wt),(3,.bool sv),(4,.bool aw),(5,iV (it:Int)),(6,.int .i32 (old:M4).num)]) ?_ ?_)
   rotate_left
   .intro hj;refine C 3 V (As V (λ_ h=>FR av (h _ _ V) (h _ _ V) AD) (C 2 V (Ok (i:=17) V (λb6=>?_) (λb6=>?_))))
    .refine As V (λ_ h=>DW (h _ _ V)) (JL.canSpin U V V V V ll V (λHJ=>?_) ?_)
     .refine As V Af (have ay:=(ns old).1 b6;C 5 V ?_);have bx:it<4:=by omega
      refine C 1 V (As V (λ_ h=>CN (h _ _ V)) (C 1 V (Me (i:=23) V (λc1=>?_) (λc1=>?_))))
      .refine As V (λ_ h=>DW (h _ _ V)) (As V (λ_ h=>FR av (h _ _ V) (h _ _ V) AD) (C 3 V (Ok (i:=28) V (λc2=>?_) (λc2=>?_))))
       .refine As V (λ_ h=>DW (h _ _ V)) (As V (λ_ h=>Kl av (h _ _ V) (h _ _ V)) (C 3 V (Ok (i:=33) V (λc3=>?_) (λc3=>?_))))
        .have c9:aw=false:=by simpa using c1
         subst c9;have ca:=(Uz old).1 c2;have cc:old.w≠0:=by omega
         refine C 2 V (C2 V V (C 2 V (As V (λ_ h=>Ru av AD (U1 old) V (h _ _ V) (h _ _ V)) (WJ bv U V V V V V RF V V V (λq az=>⟨some (.Gh sv true (it+1)),gH ay bx ca cc,?_⟩) (λm q hm az=>⟨some (.Gh sv false (it+1)),fM ay bx ca cc hm,?_⟩)))));refine As V Af (C 7 V (Gt V V V Ov V V (C 4 V (As (v:=iV ((it+1:Nat):Int)) V (λ_ h=>El (h _ _ V) (h _ _ V) (by unfold Ax;rw[d9 AB];congr 1)) (C 6 V (C2 V V (Iw bv U V V V V V Ir JN V λa2 ce bb=>⟨some (.DL sv true (it+1) a2),de.2 V,C 3 V (CY ?_)⟩)))))));rw[← a1];exact FC [(0,.pointer (some F.uA)),(2,iV wt),(3,.bool sv),(4,.bool true),(5,iV ((it+1:Nat):Int)),(6,.int .i32 (a2:M4).num)] V (bw (sv,true,it+1,a2,wt) (by show 4 - (it+1)<N;omega) ⟨bb.2.2.2,(by show it+1<=4;omega),bb.2.2.1⟩);refine As V Af (C 5 V (Gt V V V Ov V V (C 4 V (As (v:=iV ((it+1:Nat):Int)) V (λ_ h=>El (h _ _ V) (h _ _ V) (by unfold Ax;rw[d9 AB];congr 1)) (C 6 V (C2 V V (Iw bv U V V V V V Ir JN V λa2 ce bb=>⟨some (.DL sv false (it+1) a2),de.2 V,C 3 V (CY ?_)⟩)))))));rw[← a1];exact FC [(0,.pointer (some F.uA)),(2,iV wt),(3,.bool sv),(4,.bool false),(5,iV ((it+1:Nat):Int)),(6,.int .i32 (a2:M4).num)] V (bw (sv,false,it+1,a2,wt) (by show 4 - (it+1)<N;omega) ⟨bb.2.2.2,(by show it+1<=4;omega),bb.2.2.1⟩)
        .refine JR V V V (C 12 V (Gt V V V Ov V V (C 4 V (As (v:=iV ((it+1:Nat):Int)) V (λ_ h=>El (h _ _ V) (h _ _ V) (by unfold Ax;rw[d9 AB];congr 1)) (C 6 V (C2 V V (Iw bv U V V V V V Ir JN V λm q az=>⟨some (.DL sv aw (it+1) m),TL ay bx (λe=>c3 AB),C 3 V (CY ?_)⟩)))))));rw[← a1];exact FC [(0,.pointer (some F.uA)),(2,iV wt),(3,.bool sv),(4,.bool aw),(5,iV ((it+1:Nat):Int)),(6,.int .i32 (m:M4).num)] V (bw (sv,aw,it+1,m,wt) (by show 4 - (it+1)<N;omega) ⟨az.2.2.2.2.2,(by show it+1<=4;omega),az.2.2.2.2.1⟩)
       .refine JR V V V (C 17 V (Gt V V V Ov V V (C 4 V (As (v:=iV ((it+1:Nat):Int)) V (λ_ h=>El (h _ _ V) (h _ _ V) (by unfold Ax;rw[d9 AB];congr 1)) (C 6 V (C2 V V (Iw bv U V V V V V Ir JN V λm q az=>⟨some (.DL sv aw (it+1) m),TL ay bx (λe=>c2 ((Uz old).2 e.2.1)),C 3 V (CY ?_)⟩)))))));rw[← a1];exact FC [(0,.pointer (some F.uA)),(2,iV wt),(3,.bool sv),(4,.bool aw),(5,iV ((it+1:Nat):Int)),(6,.int .i32 (m:M4).num)] V (bw (sv,aw,it+1,m,wt) (by show 4 - (it+1)<N;omega) ⟨az.2.2.2.2.2,(by show it+1<=4;omega),az.2.2.2.2.1⟩)
      .refine JR V V V (C 22 V (Gt V V V Ov V V (C 4 V (As (v:=iV ((it+1:Nat):Int)) V (λ_ h=>El (h _ _ V) (h _ _ V) (by unfold Ax;rw[d9 AB];congr 1)) (C 6 V (C2 V V (Iw bv U V V V V V Ir JN V λm q az=>⟨some (.DL sv aw (it+1) m),TL ay bx (λe=>by rw[e.1] at c1;cases c1),C 3 V (CY ?_)⟩)))))));rw[← a1];exact FC [(0,.pointer (some F.uA)),(2,iV wt),(3,.bool sv),(4,.bool aw),(5,iV ((it+1:Nat):Int)),(6,.int .i32 (m:M4).num)] V (bw (sv,aw,it+1,m,wt) (by show 4 - (it+1)<N;omega) ⟨az.2.2.2.2.2,(by show it+1<=4;omega),az.2.2.2.2.1⟩)
     .exact As V Af (C 3 V (AF (hj _ _ ⟨V,V⟩) V))
    .exact JR V V V (C 5 V (AF (hj _ _ ⟨V,V⟩) V))
   rintro _ _ ⟨rfl,rfl⟩;refine C 6 V (Bs (λL s'=>s=s'/\L=[(0,.pointer (some F.uA)),(2,iV wt),(3,.bool sv),(4,.bool aw),(5,iV (it:Int)),(6,.int .i32 (old:M4).num),(7,.int .i32 ({old with l:=old.l || !old.s}:M4).num)]) ?_ ?_)
   rotate_left
   .intro hj;refine C 3 V (As V (λ_ h=>FR av (h _ _ V) (h _ _ V) AD) (C 2 V (HC V (λc=>?_) (λc=>?_))));refine CA (C 1 V (As V (λ_ h=>Ru av AD (nB old) V (h _ _ V) (h _ _ V)) (C 2 V (EU ?_ (hj _ _ ⟨V,V⟩)))));exact⟨V,V,V,V,V,V,s7 (λm:M4=>some (Value.int .i32 m.num)) (by rw[(Jb old).1 c];simp),trivial⟩;refine Bl (EU ?_ (hj _ _ ⟨V,V⟩));exact⟨V,V,V,V,V,V,s7 (λm:M4=>some (Value.int .i32 m.num)) ((vY old.s).elim (Io old) (λhh=>absurd ((Jb old).2 hh) c)),trivial⟩
   rintro _ _ ⟨rfl,rfl⟩;have ef:C9 {old with l:=old.l || !old.s}:=av;refine D5 (Bs (λL s'=>s=s'/\L=[(0,.pointer (some F.uA)),(2,iV wt),(3,.bool sv),(4,.bool aw),(5,iV (it:Int)),(6,.int .i32 (old:M4).num),(7,.int .i32 ({old with l:=old.l || !old.s,w:=if old.l=true∨old.s=true then old.w+1 else old.w}:M4).num)]) ?_ ?_)
   rotate_left
   .intro hj;refine C 3 V (As V (λ_ h=>FR av (h _ _ V) (h _ _ V) AD) (C 2 V (HC V (λc=>?_) (λc=>?_))));refine CA (C 1 V (As V (λ_ h=>fT (m:={old with l:=old.l || !old.s}) b3 (h _ _ V) (h _ _ V)) (C 2 V (EU ?_ (hj _ _ ⟨V,V⟩)))));exact⟨V,V,V,V,V,V,s7 (λm:M4=>some (Value.int .i32 m.num)) (by rw[d9 (by have:=λe=>c ((O4 old).2 e);cases eg:old.l<;>cases ej:old.s<;>simp_all)]),trivial⟩;refine Bl (EU ?_ (hj _ _ ⟨V,V⟩));exact⟨V,V,V,V,V,V,s7 (λm:M4=>some (Value.int .i32 m.num)) (by rw[d0 (by have:=(O4 old).1 (uq.1 c);rw[this.1,this.2];simp)]),trivial⟩
   rintro _ _ ⟨rfl,rfl⟩;have ci:C9 ({old with l:=old.l || !old.s,w:=if old.l=true∨old.s=true then old.w+1 else old.w}:M4):=by unfold ED at b3;unfold C9;simp only;split<;>omega
   refine D5 (Bs (λL s'=>s=s'/\L=[(0,.pointer (some F.uA)),(2,iV wt),(3,.bool sv),(4,.bool aw),(5,iV (it:Int)),(6,.int .i32 (old:M4).num),(7,.int .i32 ({old with l:=old.l || !old.s,s:=old.s || (sv&&old.l),w:=if old.l=true∨old.s=true then old.w+1 else old.w}:M4).num)]) ?_ ?_)
   rotate_left
   .intro hj;refine C 4 V (Me (i:=61) V (λc1=>?_) (λc1=>?_));refine As V (λ_ h=>DW (h _ _ V)) (As V (λ_ h=>FR av (h _ _ V) (h _ _ V) AD) (C 3 V (HC V (λc=>?_) (λc=>?_))));refine CA (C 1 V (As V (λ_ h=>Ru ci AD (nD _) V (h _ _ V) (h _ _ V)) (C 2 V (EU ?_ (hj _ _ ⟨V,V⟩)))));exact⟨V,V,V,V,V,V,s7 (λm:M4=>some (Value.int .i32 m.num)) (by rcases vY old.l with hh | hh<;>first | exact absurd ((UI old).2 hh) c | (rw[c1,hh];simp)),trivial⟩;refine Bl (EU ?_ (hj _ _ ⟨V,V⟩));exact⟨V,V,V,V,V,V,s7 (λm:M4=>some (Value.int .i32 m.num)) (by have:=(UI old).1 (uq.1 c);rw[this];simp),trivial⟩;refine JR V V V (C 6 V (EU ?_ (hj _ _ ⟨V,V⟩)));exact⟨V,V,V,V,V,V,s7 (λm:M4=>some (Value.int .i32 m.num)) (by rw[c1];simp),trivial⟩
   rintro _ _ ⟨rfl,rfl⟩;have co:C9 ({old with l:=old.l || !old.s,s:=old.s || (sv&&old.l),w:=if old.l=true∨old.s=true then old.w+1 else old.w}:M4):=ci
   refine D5 (Bs (λL s'=>s=s'/\L=[(0,.pointer (some F.uA)),(2,iV wt),(3,.bool sv),(4,.bool aw),(5,iV (it:Int)),(6,.int .i32 (old:M4).num),(7,.int .i32 (mN sv aw old:M4).num)]) ?_ ?_)
   rotate_left
   .intro hj;refine C 4 V (To V (λc=>?_) (λc=>?_));have cp:old.k=true:=c8 c;refine C 4 V (As V (λ_ h=>FR co (h _ _ V) (h _ _ V) AD) (As V (λ_ h=>Ce (DN (h _ _ V) (h _ _ V)) (by rw[tA (λe=>by have q:=(Uz _).1 e;simp only at q;rw[cp] at q;cases q)])) (C 5 V (As V (λ_ h=>Yl.TR co cp (h _ _ V) (h _ _ V)) (C 2 V (EU ?_ (hj _ _ ⟨V,V⟩)))))));exact⟨V,V,V,V,V,V,s7 (λm:M4=>some (Value.int .i32 m.num)) (by simp[mN,c]),trivial⟩;refine Bl (EU ?_ (hj _ _ ⟨V,V⟩));exact⟨V,V,V,V,V,V,s7 (λm:M4=>some (Value.int .i32 m.num)) (by simp[mN,c]),trivial⟩
   rintro _ _ ⟨rfl,rfl⟩;refine C 4 V (C2 V V (C 2 V (λT dd=>(Bo Tryz.prog false).stop (hC (sv,aw,it,old,wt) _ bo λX ek dj K al bz=>Tq dj U V V V V V RF V V V (λq az=>?_) (λm q hm az=>⟨some (.Gh sv aw it),eG hm,?_⟩) T dd))))
   .by_cases ay:old.l=false/\old.s=false;exact ⟨some .len,ga ay,C 6 V (As V (λ_ h=>FR av (h _ _ V) (h _ _ V) AD) (As V (λ_ h=>Ce (DN (h _ _ V) (h _ _ V)) (by rw[th ((O4 old).2 ay)])) (C 3 V (aq X K al _ V))))⟩
    .by_cases ct:wt=0
     .refine ⟨some ((.Ku sv)),W7 ay _ (.inl V),C 6 V (As V (λ_ h=>FR av (h _ _ V) (h _ _ V) AD) (As V (λ_ h=>Ce (DN (h _ _ V) (h _ _ V)) (by rw[tA (λe=>ay ((O4 old).1 e))])) (C 13 V (As V (λ_ h=>Ce (DN (h _ _ V) (h _ _ V)) (by rw[th ct])) (C 3 V (S6 K U V V V V V Uc UN λm a0 v ac=>⟨some (.Dr sv),de.2 V,C 6 V (As V (λ_ h=>Gm 0 1 Do PG V V V (h _ _ V)) (C 1 V (Wh K U V V V V X5 V V (A1 ?_))))⟩))))))⟩;cases sv
      .rw [d0 AD];refine C 4 V (S6 K U V V V V V Uc UN λea eb v2 ec=>⟨some (.GG (decide (IntKind.i64.wrap (v2 - v)>1000000))),by (cases decide (IntKind.i64.wrap (v2 - v)>1000000)<;>simp[Fam.Cy]),?_⟩);refine C 1 V (As V (λ_ h=>D3 (h _ _ V) (h _ _ V)) (C 4 V ?_));generalize decide (IntKind.i64.wrap (v2 - v)>1000000)=am;refine C 4 V (C2 V V (Iw K U V V V V V Ir JN V ?_));intro m b4 ap;have a3:ED m:=ap.2.2;have ag:C9 m:=a3.C9;by_cases Z:m.s=true
       .refine⟨some (.Ie (!am || m.w==1)),by simp[Fam.Cy,Z],?_⟩;refine C 2 V (let⟨be,bg,bi⟩:=ap.1 Z;C 4 V (As V (λ_ h=>FR ag (h _ _ V) (h _ _ V) AD) (As V (λ_ h=>Ce (I3 (h _ _ V) (h _ _ V)) (by have bn:(((DO m&&& 4:Nat):Int)≠0):=(λe=>by rw[(Jb m).1 e] at Z;cases Z);rw[th bn])) (C 6 V (As V (λ_ h=>FR ag (h _ _ V) (h _ _ V) AD) (As (v:=.bool false) V (λ_ h=>Ce (I3 (h _ _ V) (h _ _ V)) (by rw[(RJ m).2 ⟨be,bg⟩];rfl)) (C 2 V (As V (λ_ h=>Kl ag (h _ _ V) (h _ _ V)) (As V (λ_ h=>Ce (DN (h _ _ V) (h _ _ V)) (by rw[tA (λe=>bi (by omega))])) (C 12 V (As V (λ_ h=>CN (h _ _ V)) (C 1 V (Me (i:=119) V (λd1=>?_) (λd1=>?_))))))))))))))
        .refine JR V V V (C 5 V ?_);have hex:(!am || m.w==1)=true:=by rw[d1];simp
         rw[hex];refine C 2 V (As V (λ_ h=>Ce (D3 (h _ _ V) (h _ _ V)) V) (C 6 V (C2 V V (C 1 V (Iu (dl:= -11) K U V V V V V IC V V λI a0 ac=>⟨⟨true,I.k,false,I.w - 1⟩,some .len,?_,de.2 V,?_⟩)))))
         .obtain⟨a4,a5,a6,w3⟩:=I;obtain⟨g1,g2,O,ai,a7,aj⟩:=ac;simp only at g1 g2 O ai;subst g1 g2 O;have a8:w3<134217728:=aj;have e:(⟨false,false,true,w3⟩:M4).num+(-11)=((8*(w3 - 1)+1:Nat):Int):=by simp only[M4.num,tc,sY];omega
          rw[e,GN AB];simp only[M4.num,tc,sY];omega
         exact C 2 V (aq X K al _ V)
        .refine As V (λ_ h=>DW (h _ _ V)) (As V (λ_ h=>Kl ag (h _ _ V) (h _ _ V)) (C 3 V (HC V (λd2=>?_) (λd2=>?_))))
         .have hex:(!am || m.w==1)=true:=by rw[d1];simp;omega
          rw[hex];refine C 2 V (As V (λ_ h=>Ce (D3 (h _ _ V) (h _ _ V)) V) (C 6 V (C2 V V (C 1 V (Iu (dl:= -11) K U V V V V V IC V V λI a0 ac=>⟨⟨true,I.k,false,I.w - 1⟩,some .len,?_,de.2 V,?_⟩)))))
          .obtain⟨a4,a5,a6,w3⟩:=I;obtain⟨g1,g2,O,ai,a7,aj⟩:=ac;simp only at g1 g2 O ai;subst g1 g2 O;have a8:w3<134217728:=aj;have e:(⟨false,false,true,w3⟩:M4).num+(-11)=((8*(w3 - 1)+1:Nat):Int):=by simp only[M4.num,tc,sY];omega
           rw[e,GN AB];simp only[M4.num,tc,sY];omega
          exact C 2 V (aq X K al _ V)
         .have hex:(!am || m.w==1)=false:=by rw[d1];simp;omega
          rw[hex];refine C 5 V (C2 V V (C 1 V (Iu K U V V V V V IC V V λI a0 ac=>⟨⟨true,I.k,true,I.w - 1⟩,some .len,?_,de.2 V,?_⟩)))
          .obtain⟨a4,a5,a6,w3⟩:=I;obtain⟨g1,g2,O,ai,a7,aj⟩:=ac;simp only at g1 g2 O ai;subst g1 g2 O;have a8:w3<134217728:=aj;have e:(⟨false,false,true,w3⟩:M4).num+(-7)=((8*(w3 - 1)+5:Nat):Int):=by simp only[M4.num,tc,sY];omega
           rw[e,GN AB];simp only[M4.num,tc,sY];omega
          exact C 2 V (aq X K al _ V)
       .refine⟨some (.DL am true 0 m),by simp[Fam.Cy,Z],?_⟩;refine C 2 V ?_;have a9:m.s=false:=by simpa using Z
        refine C 4 V (As V (λ_ h=>FR ag (h _ _ V) (h _ _ V) AD) (As (v:=.bool false) V (λ_ h=>Ce (I3 (h _ _ V) (h _ _ V)) (by rw[(Jb m).2 a9];rfl)) (C 11 V (CY ?_))));rw[← a1];exact FC [(0,.pointer (some F.uA)),(2,iV v),(3,.bool am),(4,.bool true),(5,iV ((0:Nat):Int)),(6,.int .i32 (m:M4).num)] V (bz (am,true,0,m,v) ⟨λ_=>ap.2.1 a9,tz _,a3⟩)
      .rw [d9 rfl];refine C 15 V (C2 V V (Iw K U V V V V V Ir JN V ?_));intro m b4 ap;have a3:ED m:=ap.2.2;have ag:C9 m:=a3.C9;by_cases Z:m.s=true
       .refine⟨some (.Ie (!true || m.w==1)),by simp[Fam.Cy,Z],?_⟩;refine C 2 V (let⟨be,bg,bi⟩:=ap.1 Z;C 4 V (As V (λ_ h=>FR ag (h _ _ V) (h _ _ V) AD) (As V (λ_ h=>Ce (I3 (h _ _ V) (h _ _ V)) (by have bn:(((DO m&&& 4:Nat):Int)≠0):=(λe=>by rw[(Jb m).1 e] at Z;cases Z);rw[th bn])) (C 6 V (As V (λ_ h=>FR ag (h _ _ V) (h _ _ V) AD) (As (v:=.bool false) V (λ_ h=>Ce (I3 (h _ _ V) (h _ _ V)) (by rw[(RJ m).2 ⟨be,bg⟩];rfl)) (C 2 V (As V (λ_ h=>Kl ag (h _ _ V) (h _ _ V)) (As V (λ_ h=>Ce (DN (h _ _ V) (h _ _ V)) (by rw[tA (λe=>bi (by omega))])) (C 12 V (As V (λ_ h=>CN (h _ _ V)) (C 1 V (Me (i:=119) V (λd1=>?_) (λd1=>?_))))))))))))))
        .refine JR V V V (C 5 V ?_);have hex:(!true || m.w==1)=true:=by rw[d1];simp
         rw[hex];refine C 2 V (As V (λ_ h=>Ce (D3 (h _ _ V) (h _ _ V)) V) (C 6 V (C2 V V (C 1 V (Iu (dl:= -11) K U V V V V V IC V V λI a0 ac=>⟨⟨true,I.k,false,I.w - 1⟩,some .len,?_,de.2 V,?_⟩)))))
         .obtain⟨a4,a5,a6,w3⟩:=I;obtain⟨g1,g2,O,ai,a7,aj⟩:=ac;simp only at g1 g2 O ai;subst g1 g2 O;have a8:w3<134217728:=aj;have e:(⟨false,false,true,w3⟩:M4).num+(-11)=((8*(w3 - 1)+1:Nat):Int):=by simp only[M4.num,tc,sY];omega
          rw[e,GN AB];simp only[M4.num,tc,sY];omega
         exact C 2 V (aq X K al _ V)
        .refine As V (λ_ h=>DW (h _ _ V)) (As V (λ_ h=>Kl ag (h _ _ V) (h _ _ V)) (C 3 V (HC V (λd2=>?_) (λd2=>?_))))
         .have hex:(!true || m.w==1)=true:=by rw[d1];simp;omega
          rw[hex];refine C 2 V (As V (λ_ h=>Ce (D3 (h _ _ V) (h _ _ V)) V) (C 6 V (C2 V V (C 1 V (Iu (dl:= -11) K U V V V V V IC V V λI a0 ac=>⟨⟨true,I.k,false,I.w - 1⟩,some .len,?_,de.2 V,?_⟩)))))
          .obtain⟨a4,a5,a6,w3⟩:=I;obtain⟨g1,g2,O,ai,a7,aj⟩:=ac;simp only at g1 g2 O ai;subst g1 g2 O;have a8:w3<134217728:=aj;have e:(⟨false,false,true,w3⟩:M4).num+(-11)=((8*(w3 - 1)+1:Nat):Int):=by simp only[M4.num,tc,sY];omega
           rw[e,GN AB];simp only[M4.num,tc,sY];omega
          exact C 2 V (aq X K al _ V)
         .have hex:(!true || m.w==1)=false:=by rw[d1];simp;omega
          rw[hex];refine C 5 V (C2 V V (C 1 V (Iu K U V V V V V IC V V λI a0 ac=>⟨⟨true,I.k,true,I.w - 1⟩,some .len,?_,de.2 V,?_⟩)))
          .obtain⟨a4,a5,a6,w3⟩:=I;obtain⟨g1,g2,O,ai,a7,aj⟩:=ac;simp only at g1 g2 O ai;subst g1 g2 O;have a8:w3<134217728:=aj;have e:(⟨false,false,true,w3⟩:M4).num+(-7)=((8*(w3 - 1)+5:Nat):Int):=by simp only[M4.num,tc,sY];omega
           rw[e,GN AB];simp only[M4.num,tc,sY];omega
          exact C 2 V (aq X K al _ V)
       .refine⟨some (.DL true true 0 m),by simp[Fam.Cy,Z],?_⟩;refine C 2 V ?_;have a9:m.s=false:=by simpa using Z
        refine C 4 V (As V (λ_ h=>FR ag (h _ _ V) (h _ _ V) AD) (As (v:=.bool false) V (λ_ h=>Ce (I3 (h _ _ V) (h _ _ V)) (by rw[(Jb m).2 a9];rfl)) (C 11 V (CY ?_))));rw[← a1];exact FC [(0,.pointer (some F.uA)),(2,iV v),(3,.bool true),(4,.bool true),(5,iV ((0:Nat):Int)),(6,.int .i32 (m:M4).num)] V (bz (true,true,0,m,v) ⟨λ_=>ap.2.1 a9,tz _,a3⟩)
     .refine ⟨some ((.Dr sv)),W7 ay _ (.inr V),C 6 V (As V (λ_ h=>FR av (h _ _ V) (h _ _ V) AD) (As V (λ_ h=>Ce (DN (h _ _ V) (h _ _ V)) (by rw[tA (λe=>ay ((O4 old).1 e))])) (C 13 V (As V (λ_ h=>Ce (DN (h _ _ V) (h _ _ V)) (by rw[tA ct])) (C 7 V (As V (λ_ h=>Gm 0 1 Do PG V V V (h _ _ V)) (C 1 V (Wh K U V V V V X5 V V (A1 ?_)))))))))⟩;cases sv
      .rw [d0 AD];refine C 4 V (S6 K U V V V V V Uc UN λea eb v2 ec=>⟨some (.GG (decide (IntKind.i64.wrap (v2 - wt)>1000000))),by (cases decide (IntKind.i64.wrap (v2 - wt)>1000000)<;>simp[Fam.Cy]),?_⟩);refine C 1 V (As V (λ_ h=>D3 (h _ _ V) (h _ _ V)) (C 4 V ?_));generalize decide (IntKind.i64.wrap (v2 - wt)>1000000)=am;refine C 4 V (C2 V V (Iw K U V V V V V Ir JN V ?_));intro m b4 ap;have a3:ED m:=ap.2.2;have ag:C9 m:=a3.C9;by_cases Z:m.s=true
       .refine⟨some (.Ie (!am || m.w==1)),by simp[Fam.Cy,Z],?_⟩;refine C 2 V (let⟨be,bg,bi⟩:=ap.1 Z;C 4 V (As V (λ_ h=>FR ag (h _ _ V) (h _ _ V) AD) (As V (λ_ h=>Ce (I3 (h _ _ V) (h _ _ V)) (by have bn:(((DO m&&& 4:Nat):Int)≠0):=(λe=>by rw[(Jb m).1 e] at Z;cases Z);rw[th bn])) (C 6 V (As V (λ_ h=>FR ag (h _ _ V) (h _ _ V) AD) (As (v:=.bool false) V (λ_ h=>Ce (I3 (h _ _ V) (h _ _ V)) (by rw[(RJ m).2 ⟨be,bg⟩];rfl)) (C 2 V (As V (λ_ h=>Kl ag (h _ _ V) (h _ _ V)) (As V (λ_ h=>Ce (DN (h _ _ V) (h _ _ V)) (by rw[tA (λe=>bi (by omega))])) (C 12 V (As V (λ_ h=>CN (h _ _ V)) (C 1 V (Me (i:=119) V (λd1=>?_) (λd1=>?_))))))))))))))
        .refine JR V V V (C 5 V ?_);have hex:(!am || m.w==1)=true:=by rw[d1];simp
         rw[hex];refine C 2 V (As V (λ_ h=>Ce (D3 (h _ _ V) (h _ _ V)) V) (C 6 V (C2 V V (C 1 V (Iu (dl:= -11) K U V V V V V IC V V λI a0 ac=>⟨⟨true,I.k,false,I.w - 1⟩,some .len,?_,de.2 V,?_⟩)))))
         .obtain⟨a4,a5,a6,w3⟩:=I;obtain⟨g1,g2,O,ai,a7,aj⟩:=ac;simp only at g1 g2 O ai;subst g1 g2 O;have a8:w3<134217728:=aj;have e:(⟨false,false,true,w3⟩:M4).num+(-11)=((8*(w3 - 1)+1:Nat):Int):=by simp only[M4.num,tc,sY];omega
          rw[e,GN AB];simp only[M4.num,tc,sY];omega
         exact C 2 V (aq X K al _ V)
        .refine As V (λ_ h=>DW (h _ _ V)) (As V (λ_ h=>Kl ag (h _ _ V) (h _ _ V)) (C 3 V (HC V (λd2=>?_) (λd2=>?_))))
         .have hex:(!am || m.w==1)=true:=by rw[d1];simp;omega
          rw[hex];refine C 2 V (As V (λ_ h=>Ce (D3 (h _ _ V) (h _ _ V)) V) (C 6 V (C2 V V (C 1 V (Iu (dl:= -11) K U V V V V V IC V V λI a0 ac=>⟨⟨true,I.k,false,I.w - 1⟩,some .len,?_,de.2 V,?_⟩)))))
          .obtain⟨a4,a5,a6,w3⟩:=I;obtain⟨g1,g2,O,ai,a7,aj⟩:=ac;simp only at g1 g2 O ai;subst g1 g2 O;have a8:w3<134217728:=aj;have e:(⟨false,false,true,w3⟩:M4).num+(-11)=((8*(w3 - 1)+1:Nat):Int):=by simp only[M4.num,tc,sY];omega
           rw[e,GN AB];simp only[M4.num,tc,sY];omega
          exact C 2 V (aq X K al _ V)
         .have hex:(!am || m.w==1)=false:=by rw[d1];simp;omega
          rw[hex];refine C 5 V (C2 V V (C 1 V (Iu K U V V V V V IC V V λI a0 ac=>⟨⟨true,I.k,true,I.w - 1⟩,some .len,?_,de.2 V,?_⟩)))
          .obtain⟨a4,a5,a6,w3⟩:=I;obtain⟨g1,g2,O,ai,a7,aj⟩:=ac;simp only at g1 g2 O ai;subst g1 g2 O;have a8:w3<134217728:=aj;have e:(⟨false,false,true,w3⟩:M4).num+(-7)=((8*(w3 - 1)+5:Nat):Int):=by simp only[M4.num,tc,sY];omega
           rw[e,GN AB];simp only[M4.num,tc,sY];omega
          exact C 2 V (aq X K al _ V)
       .refine⟨some (.DL am true 0 m),by simp[Fam.Cy,Z],?_⟩;refine C 2 V ?_;have a9:m.s=false:=by simpa using Z
        refine C 4 V (As V (λ_ h=>FR ag (h _ _ V) (h _ _ V) AD) (As (v:=.bool false) V (λ_ h=>Ce (I3 (h _ _ V) (h _ _ V)) (by rw[(Jb m).2 a9];rfl)) (C 11 V (CY ?_))));rw[← a1];exact FC [(0,.pointer (some F.uA)),(2,iV wt),(3,.bool am),(4,.bool true),(5,iV ((0:Nat):Int)),(6,.int .i32 (m:M4).num)] V (bz (am,true,0,m,wt) ⟨λ_=>ap.2.1 a9,tz _,a3⟩)
      .rw [d9 rfl];refine C 15 V (C2 V V (Iw K U V V V V V Ir JN V ?_));intro m b4 ap;have a3:ED m:=ap.2.2;have ag:C9 m:=a3.C9;by_cases Z:m.s=true
       .refine⟨some (.Ie (!true || m.w==1)),by simp[Fam.Cy,Z],?_⟩;refine C 2 V (let⟨be,bg,bi⟩:=ap.1 Z;C 4 V (As V (λ_ h=>FR ag (h _ _ V) (h _ _ V) AD) (As V (λ_ h=>Ce (I3 (h _ _ V) (h _ _ V)) (by have bn:(((DO m&&& 4:Nat):Int)≠0):=(λe=>by rw[(Jb m).1 e] at Z;cases Z);rw[th bn])) (C 6 V (As V (λ_ h=>FR ag (h _ _ V) (h _ _ V) AD) (As (v:=.bool false) V (λ_ h=>Ce (I3 (h _ _ V) (h _ _ V)) (by rw[(RJ m).2 ⟨be,bg⟩];rfl)) (C 2 V (As V (λ_ h=>Kl ag (h _ _ V) (h _ _ V)) (As V (λ_ h=>Ce (DN (h _ _ V) (h _ _ V)) (by rw[tA (λe=>bi (by omega))])) (C 12 V (As V (λ_ h=>CN (h _ _ V)) (C 1 V (Me (i:=119) V (λd1=>?_) (λd1=>?_))))))))))))))
        .refine JR V V V (C 5 V ?_);have hex:(!true || m.w==1)=true:=by rw[d1];simp
         rw[hex];refine C 2 V (As V (λ_ h=>Ce (D3 (h _ _ V) (h _ _ V)) V) (C 6 V (C2 V V (C 1 V (Iu (dl:= -11) K U V V V V V IC V V λI a0 ac=>⟨⟨true,I.k,false,I.w - 1⟩,some .len,?_,de.2 V,?_⟩)))))
         .obtain⟨a4,a5,a6,w3⟩:=I;obtain⟨g1,g2,O,ai,a7,aj⟩:=ac;simp only at g1 g2 O ai;subst g1 g2 O;have a8:w3<134217728:=aj;have e:(⟨false,false,true,w3⟩:M4).num+(-11)=((8*(w3 - 1)+1:Nat):Int):=by simp only[M4.num,tc,sY];omega
          rw[e,GN AB];simp only[M4.num,tc,sY];omega
         exact C 2 V (aq X K al _ V)
        .refine As V (λ_ h=>DW (h _ _ V)) (As V (λ_ h=>Kl ag (h _ _ V) (h _ _ V)) (C 3 V (HC V (λd2=>?_) (λd2=>?_))))
         .have hex:(!true || m.w==1)=true:=by rw[d1];simp;omega
          rw[hex];refine C 2 V (As V (λ_ h=>Ce (D3 (h _ _ V) (h _ _ V)) V) (C 6 V (C2 V V (C 1 V (Iu (dl:= -11) K U V V V V V IC V V λI a0 ac=>⟨⟨true,I.k,false,I.w - 1⟩,some .len,?_,de.2 V,?_⟩)))))
          .obtain⟨a4,a5,a6,w3⟩:=I;obtain⟨g1,g2,O,ai,a7,aj⟩:=ac;simp only at g1 g2 O ai;subst g1 g2 O;have a8:w3<134217728:=aj;have e:(⟨false,false,true,w3⟩:M4).num+(-11)=((8*(w3 - 1)+1:Nat):Int):=by simp only[M4.num,tc,sY];omega
           rw[e,GN AB];simp only[M4.num,tc,sY];omega
          exact C 2 V (aq X K al _ V)
         .have hex:(!true || m.w==1)=false:=by rw[d1];simp;omega
          rw[hex];refine C 5 V (C2 V V (C 1 V (Iu K U V V V V V IC V V λI a0 ac=>⟨⟨true,I.k,true,I.w - 1⟩,some .len,?_,de.2 V,?_⟩)))
          .obtain⟨a4,a5,a6,w3⟩:=I;obtain⟨g1,g2,O,ai,a7,aj⟩:=ac;simp only at g1 g2 O ai;subst g1 g2 O;have a8:w3<134217728:=aj;have e:(⟨false,false,true,w3⟩:M4).num+(-7)=((8*(w3 - 1)+5:Nat):Int):=by simp only[M4.num,tc,sY];omega
           rw[e,GN AB];simp only[M4.num,tc,sY];omega
          exact C 2 V (aq X K al _ V)
       .refine⟨some (.DL true true 0 m),by simp[Fam.Cy,Z],?_⟩;refine C 2 V ?_;have a9:m.s=false:=by simpa using Z
        refine C 4 V (As V (λ_ h=>FR ag (h _ _ V) (h _ _ V) AD) (As (v:=.bool false) V (λ_ h=>Ce (I3 (h _ _ V) (h _ _ V)) (by rw[(Jb m).2 a9];rfl)) (C 11 V (CY ?_))));rw[← a1];exact FC [(0,.pointer (some F.uA)),(2,iV wt),(3,.bool true),(4,.bool true),(5,iV ((0:Nat):Int)),(6,.int .i32 (m:M4).num)] V (bz (true,true,0,m,wt) ⟨λ_=>ap.2.1 a9,tz _,a3⟩)
   .refine A1 (C 4 V (C2 V V (Iw K U V V V V V Ir JN V λa2 ce bb=>⟨some (.DL sv aw it a2),de.2 V,C 3 V (CY ?_)⟩)));rw[← a1];exact FC [(0,.pointer (some F.uA)),(2,iV wt),(3,.bool sv),(4,.bool aw),(5,iV (it:Int)),(6,.int .i32 (a2:M4).num)] V (bz (sv,aw,it,a2,wt) ⟨bb.2.2.2,bo.2.1,bb.2.2.1⟩)
 exact λa b5=>key 5 a AB b5
set_option maxHeartbeats 4000000 in
theorem aE(I:s.q=false)(K:ops[i]?=some ⟨d,.call ⟨.value (.func 109),#[x],ats⟩,ty,pp,af,g⟩)(hw:A9 L ops ⟨d,.call ⟨.value (.func 109),#[x],ats⟩,ty,pp,af,g⟩=some true)(O:((b.kind != .early)&&BC n d)=true)(U:ev L x=some (.pointer (some F.uA)))
  (h:JL (Bo Tryz.prog false) (Stop Tryz.prog F (.lk kk .GY)) b n (AG L d (.tuple #[])) ds (Ah ops rest k) cs s):
  JL (Bo Tryz.prog false) (Stop Tryz.prog F (.lk kk .HG)) b n L ds (Ag ops i rest k) cs s:=by
 refine Iv (vs:=[.pointer (some F.uA)]) K hw O Tryz.func109 AC V (by simp[evs,U]) (sZ V) λZ back=>C 2 V (Ns DJ I V (λ_ _=>V) V V V V AM YX (C 6 V (C2 V V (WJ (old:=M4.zero) (nw:=⟨true,false,false,0⟩) DJ I V V V V V RF V V V (λq Y=>⟨some .len,by simp[Fam.Cy],?_⟩) (λm q hm Y=>⟨some (.Gh false false 0),by simp[Fam.Cy,hm],?_⟩)))));exact A1 (C 5 V (Ns DJ I V (λ_ _=>V) V V V V AM R5 (C 3 V (S3 DJ I V (λ_ _=>V) V V V V Fc Fd Tx V (Tv DJ I V (λ_ _=>V) V V V V AM Zc V V (A1 (CT V V (C0 Tryz.func109 V) (back _ _ _ _ h))))))));exact A1 (C 4 V (bF I V V V V (A1 (DA V V (C0 Tryz.func109 V) (back _ _ _ _ h)))))
set_option maxHeartbeats 4000000 in
theorem bM(I:s.q=false)(K:ops[i]?=some ⟨d,.call ⟨.value (.func 68),#[x],ats⟩,ty,pp,af,g⟩)(hw:A9 L ops ⟨d,.call ⟨.value (.func 68),#[x],ats⟩,ty,pp,af,g⟩=some true)(O:((b.kind != .early)&&BC n d)=true)(U:ev L x=some (.pointer (some F.uA)))
  (h:JL (Bo Tryz.prog false) (Stop Tryz.prog F (.lk kk .GY)) b n (AG L d (.tuple #[])) ds (Ah ops rest k) cs s):
  JL (Bo Tryz.prog false) (Stop Tryz.prog F (.lk kk .HG)) b n L ds (Ag ops i rest k) cs s:=by
 exact Iv (vs:=[.pointer (some F.uA)]) K hw O Tryz.func68 AC V (by simp[evs,U]) (sZ V) λY back=>C 3 V (As V (λ_ h=>Gm 1 0 Tryz.underlying116 (Bg Tryz.type114) V V V (h _ _ V)) (aE I V V V V (A1 (DA V V (C0 Tryz.func68 V) (back _ _ _ _ h)))))
def Kb(m:M4):LP:=if m.l=false/\m.k=false/\m.s=false/\m.w≠0 then .Gf m else .G0
def UQ(m:M4):LP:=if m.s=true then .Gq true else if m.k=false/\m.w≠0 then .Gf {m with l:=false} else .G0
set_option maxHeartbeats 4000000 in
theorem aA{U:Operand}{nw:M4}(O:s.q=false)(a0:ops[i]?=some ⟨d,.call ⟨.value (.func 139),#[x,U],ats⟩,ty,pp,af,g⟩)(hw:A9 L ops ⟨d,.call ⟨.value (.func 139),#[x,U],ats⟩,ty,pp,af,g⟩=some true)(a1:((b.kind != .early)&&BC n d)=true)(a2:ev L x=some (.pointer (some F.uA)))(a3:ev L U=some (.int .i32 nw.num))(ag:nw.l=false)(a4:ED nw)(Z:C9 nw)
  (h:JL (Bo Tryz.prog false) (Stop Tryz.prog F (.lk kk .G0)) b n (AG L d (.tuple #[])) ds (Ah ops rest k) cs s):
  JL (Bo Tryz.prog false) (Stop Tryz.prog F (.lk kk (if nw.s=true then .Gq true else if nw.k=false/\nw.w≠0 then .Gf nw else .G0))) b n L ds (Ag ops i rest k) cs s:=by
 refine Iv (vs:=[.pointer (some F.uA),.int .i32 nw.num]) a0 hw a1 EN AC V (by simp[evs,a2,a3]) (sZ V) λai back=>C 4 V (As V (λ_ h=>fE Z ag (h _ _ V) (h _ _ V)) (As V (λ_ h=>FR (m:={nw with l:=true}) Z (h _ _ V) (h _ _ V) AD) (As V (λ_ h=>Ce (DN (h _ _ V) (h _ _ V)) (by rw[tA (λe=>by have q:=(UI _).1 e;cases q)])) (C 6 V (As V (λ_ h=>FR Z (h _ _ V) (h _ _ V) AD) (C 2 V (HC V (λc=>?_) (λc=>?_))))))))
 .have aj:=(Jb nw).1 c;rw[d0 (by rw[aj];exact uz)];refine C 6 V (Ki (FC [(0,.pointer (some F.uA)),(4,.int .i32 nw.num)] V (YZ λal am=>?_)));have a5:(if nw.k=false/\nw.w≠0 then LP.Gf nw else .G0)=Kb nw:=by unfold Kb;rw[ag,aj];simp
  rw[a5];refine Yd (s:=s) (kk:=kk) (ph:=λm=>LP.Gf m) (head:=λ(X:Ph->GP) (a:M4)=>JL (Bo Tryz.prog false) (X (.lk kk (Kb a))) (base 139) Tryz.f139.ntmps ([(0,.pointer (some F.uA)),(4,.int .i32 (a:M4).num)]) [] al (ai::cs) s) ?_ nw a4;intro Y bn ap hC old aq;have I:C9 old:=aq.C9;show JL (Bo Tryz.prog false) (Y (.lk kk (Kb old))) (base 139) Tryz.f139.ntmps [(0,.pointer (some F.uA)),(4,.int .i32 old.num)] [] al (ai::cs) s;rw[am];refine C 5 V (As V (λ_ h=>Kl I (h _ _ V) (h _ _ V)) (C 2 V (Ok (i:=17) V (λc2=>?_) (λc2=>?_))))
  .have K:Kb old=.G0:=by unfold Kb;rw[d0 (λe=>e.2.2.2 AB)]
   refine C 6 V ?_;rw[K];exact CT V V (C0 EN V) (back _ _ _ _ (P3 (λg s=>ap _ g s) h))
  .refine As V (λ_ h=>DW (h _ _ V)) (As V (λ_ h=>FR I (h _ _ V) (h _ _ V) AD) (C 3 V (HC V (λc3=>?_) (λc3=>?_))))
   .have K:Kb old=.G0:=by unfold Kb;rw[d0 (λe=>c3 ((YY old).2 ⟨e.1,e.2.1,e.2.2.1⟩))]
    rw[K];exact CT V V (C0 EN V) (back _ _ _ _ (P3 (λg s=>ap _ g s) h))
   .have a6:=(YY old).1 (uq.1 c3);obtain⟨l0,bo,bv,w0⟩:=old;obtain⟨z1,av,aw⟩:=a6;simp only at z1 av aw c2;subst z1 av aw;have ay:w0≠0:=by omega
    have K:Kb ⟨false,false,false,w0⟩=.Gf ⟨false,false,false,w0⟩:=by unfold Kb;rw[d9 ⟨rfl,rfl,rfl,ay⟩]
    rw[K];refine C 4 V (As V (λ_ h=>fK I ay (h _ _ V) (h _ _ V)) (As V (λ_ h=>Ru (by unfold C9 at I ⊢;simp only at I ⊢;omega) AD (U1 _) V (h _ _ V) (h _ _ V)) (C 7 V (C2 V V (C 2 V (λT a7=>(Bo Tryz.prog false).stop (hC ⟨false,false,false,w0⟩ _ aq λX bw a8 az a9 bb=>Tq a8 O V V V V V RF V V V (λq be=>⟨some (.Gq false),by simp[Fam.Cy],?_⟩) (λm q hm be=>⟨some .Jf,by simp[Fam.Cy,hm],?_⟩) T a7)))))));exact A1 (C 5 V (As V (λ_ h=>Gm 0 1 Do PG V V V (h _ _ V)) (Wd az O V V V V YM V V (A1 (CT V V (C0 EN V) (back _ _ _ _ (P3 (λg s=>a9 _ g s) h)))))));refine A1 (C 5 V (C2 V V (Iw az O V V V V V Ir lS V λac bx bg=>⟨some (Kb ac),de.2 V,C 3 V (CY ?_)⟩)));rw[← am];exact FC [(0,.pointer (some F.uA)),(4,.int .i32 ac.num)] V (bb ac bg)
 .have bi:nw.s=true:=by rcases vY nw.s with hh | hh;exact hh;exact absurd ((Jb nw).2 hh) c
  rw[d9 bi];exact C 3 V (As V (λ_ h=>Gm 0 1 Do PG V V V (h _ _ V)) (Wd DJ O V V V V YM V V (A1 (DA V V (C0 EN V) (back _ _ _ _ h)))))
set_option maxHeartbeats 4000000 in
theorem ZW(I:s.q=false)(ac:ops[i]?=some ⟨d,.call ⟨.value (.func 110),#[x],ats⟩,ty,pp,af,g⟩)(hw:A9 L ops ⟨d,.call ⟨.value (.func 110),#[x],ats⟩,ty,pp,af,g⟩=some true)(ag:((b.kind != .early)&&BC n d)=true)(ai:ev L x=some (.pointer (some F.uA)))
  (h:JL (Bo Tryz.prog false) (Stop Tryz.prog F .Jk) b n (AG L d (.tuple #[])) ds (Ah ops rest k) cs s):
  JL (Bo Tryz.prog false) (Stop Tryz.prog F (.lk kk .Il)) b n L ds (Ag ops i rest k) cs s:=by
 refine Iv (vs:=[.pointer (some F.uA)]) ac hw ag Fv AC V (by simp[evs,ai]) (sZ V) λav back=>C 6 V (C2 V V (Iw DJ I V V V V V Ir mQ V λaw ay az=>⟨some .MO,de.2 V,C 4 V (S3 DJ I V (λ_ _=>V) V V V V Fc Fd Tx V (Tv DJ I V (λ_ _=>V) V V V V AM nj V V (C 2 V (Ns DJ I V (λ_ _=>V) V V V V AM YX (C 5 V (C2 V V (Iu DJ I V V V V V IC V V λm q U=>⟨{m with l:=false},some (UQ m),?_,de.2 V,?_⟩)))))))⟩))
 .obtain⟨aj,K,O,w3⟩:=m;obtain⟨g1,al⟩:=U;simp only at g1;subst g1;have a0:w3<134217728:=al;have a1:=vr K;have a2:=vr O;have e:(⟨true,K,O,w3⟩:M4).num+(-1)=((2*K.toNat+4*O.toNat+8*w3:Nat):Int):=by simp only[M4.num,tc];omega
  rw[e,GN AB];simp only[M4.num,sY];omega
 .have Y:ED m:=U.2;have am:C9 ({m with l:=false}:M4):=(show ED ({m with l:=false}:M4) from Y).C9;refine C 8 V (HC V (λc=>?_) (λc=>?_));exact CA (C 2 V (aA (nw:={m with l:=false}) I V V V V V V Y am (C 2 V (Ns DJ I V (λ_ _=>V) V V V V AM R5 (A1 (DA V V (C0 Fv V) (back _ _ _ _ h)))))))
  .have ap:({m with l:=false}:M4).num=0:=uq.1 c;have Z:m.k=false/\m.s=false/\m.w=0:=by
    obtain⟨aj,K,O,w3⟩:=m;cases K<;>cases O<;>simp[M4.num] at ap ⊢<;>omega
   have aq:UQ m=.G0:=by unfold UQ;rw[d0 (by rw[Z.2.1];exact uz),d0 (λe=>e.2 Z.2.2)]
   rw[aq];exact C 2 V (Ns DJ I V (λ_ _=>V) V V V V AM R5 (A1 (DA V V (C0 Fv V) (back _ _ _ _ h))))
theorem JO.gJ{M:Env}(I:b.roundOf=none)(K:s.q=false)(h:JO (Bo Tryz.prog false) (Stop Tryz.prog F .Jk) b n M ds cs s):
  JO (Bo Tryz.prog false) (Stop Tryz.prog F (.lk kk .Il)) b n M (dcall 69 #[.pointer (some F.uA)]::ds) cs s:=by
 exact JO.enter I Tryz.func69 AC V (sZ V) λT O todo=>C 3 V (As V (λ_ h=>Gm 1 0 Tryz.underlying116 (Bg Tryz.type114) V V V (h _ _ V)) (ZW K V V V V (A1 (H3 V (Ga V Tryz.func69 V (.inl V) (h T O todo))))))
end Pal
namespace Pal
open Go Go.Conc
open Go.ConcN (upd)
variable {ops:Ao_}{i:Nat}{rest:List Nat}{d:Option Tmp}{f:FuncId}{z:Operand}{ats:Array TypeId}{ty t u tw:TypeId}{pp:String}{af:Ae_}{g:On_}{kk:Nat}
variable{w:World}
section
variable {P:Program}{F:Fam}{n:Nat}{L L':Env}{ds:Ld_}{k:Li_}{cs:Lf_}{s s':St}{b:Frame}
variable {x y:Operand}
theorem Z5{m:Nat}(h:BA P t=some m)(w:World):(Go.sizeOf t).run P w=.ok m w:=by
 unfold BA at h;simp only[Go.sizeOf,typeInfo,bind,Sem.bind,program,Sem.run];cases hi:P.info? t with
 | none=>rw[hi] at h;cases h
 | some j=>rw[hi] at h;simp at h;subst h;rfl
theorem fx{I:Nat->Value}(h:F.FD w I)(K:kk<F.n):w.cell? ⟨F.fd,kk,none⟩=some (I kk)/\w.frozen? ⟨F.fd,kk,none⟩=false:=by
 unfold Fam.FD Fam.Kc at h;constructor;simp[World.cell?,h,K];simp[World.frozen?,h]
theorem an{K:Nat->Value}{v:Value}(h:F.FD w K)(Z:kk<F.n):w.setCell ⟨F.fd,kk,none⟩ v=F.IG w (upd K kk v):=by
 unfold Fam.IG World.setCell;congr 1;apply tY;intro i;unfold Fam.FD Fam.Kc at h;rw[uv];have O:F.fd<w.heap.size:=by
  rcases mt F.fd w.heap.size with I | I;exact I;simp[ta I] at h
 by_cases e:F.fd=i;subst e;rw[sT O,h];simp only[tS,uf,Fam.Kc,tT,Obj.cells.injEq,wQ];apply Array.ext;simp;intro j ac U;by_cases e2:kk=j;subst e2;simp[upd];have Y:¬j=kk:=λe=>e2 e.symm;simp[upd,Y];rw[Array.getElem_setIfInBounds (by simpa using U),d0 e2];simp;rw[sN e,d0 e]
theorem aC{X:Ph->GP}(am:Ek P F X){a:Option Addr}{l c:Nat}(ap:s.q=false)(U:kk<F.n)
  (aq:ops[i]?=some ⟨d,.store t x y,ty,pp,af,g⟩) (Y:b.roundOf=none) (hw:A9 L ops ⟨d,.store t x y,ty,pp,af,g⟩=some true) (O:((b.kind != .early)&&BC n d)=true)
  (av:BA P t=some 1) (aw:(P.funcs[b.fn]?).any (·.norace)=false) (ay:ev L x=some (.pointer (some ⟨F.fd,kk,none⟩))) (az:ev L y=some (.slice a l c)) (hm:F.msg kk (.slice a l c) s.E)
  (h:JL (Bo P false) (X (.lk kk .Il)) b n (AG L d undef) ds (Ah ops rest k) cs s):
  JL (Bo P false) (X (.lk kk .GY)) b n L ds (Ag ops i rest k) cs s:=λT I=>by
 simp only[f6] at O
 refine(Bo P _).stop (am _ _ _ {
  run:=rfl,offers:=rfl,quiet:=AZ,live:=λ_=>ap,act:=(by simp[Fam.act]),Ky:=AM,Gs:=AM,go:=AM,lk:=λk' l e a0=>by cases e;exact absurd rfl a0
  Dr:=AM,store:=λk' e=>?_,fin:=AM})
 cases e
 refine⟨_,hm,G (fr b (DU T d undef) ds (Ah ops rest k)) cs,rfl,λw a1 Z=>?_,h _ (I.put O.2 _)⟩
 let⟨c1,c2⟩:=fx Z U
 have ac:execOp (⟨T,ds⟩:Act).eval ⟨d,.store t x y,ty,pp,af,g⟩=(do Instr.storeAt t (.pointer (some ⟨F.fd,kk,none⟩)) (.slice a l c);pure Next.skip):=by
  rw[Nb];simp only[execOp,I.ev ay,I.ev az]
 have ag:(Value.slice a l c).cells=#[.slice a l c]:=rfl;have ai:(Value.slice a l c).oneCell'=true:=rfl;have aj:(Addr.add ⟨F.fd,kk,none⟩ 0)=⟨F.fd,kk,none⟩:=by rw[EO rfl];rfl
 have al:=Z5 (P:=P) av w;have K:=run_store P w ⟨F.fd,kk,none⟩ (.slice a l c) .plain ai;rw[c1] at K;simp only[c2,s5,tP] at K;rw[Ci Y,Ci Y,stepG_none (a:=⟨T,ds⟩) (w':=F.IG w (upd a1 kk (.slice a l c))) aq (CI I hw) (by simpa using O.1) (by
  rw[ac]
  simp[Instr.storeAt,Instr.sureAddr,storeVar,ag,al,storeCells,aj,K,an Z U,Result.andThen]),Fz]
 have e2:listed P b.fn ⟨T,ds⟩ ⟨d,.store t x y,ty,pp,af,g⟩ w=#[⟨.cell ⟨F.fd,kk,none⟩,true,false⟩]:=by
  unfold listed;rw[ac];have a2:=events_store (P:=P) (w:=w) (es:=#[]) ⟨F.fd,kk,none⟩ (.slice a l c) .plain ai;have a3:(do Instr.storeAt t (.pointer (some ⟨F.fd,kk,none⟩)) (.slice a l c);pure Next.skip:Sem Next).events P w #[]=#[⟨.cell ⟨F.fd,kk,none⟩,true,false⟩]:=by
   simp[Instr.storeAt,Instr.sureAddr,storeVar,ag,al,storeCells,aj,K,c1,c2,a2,Result.evThen]
  rw[a3,seen_def];simp[seenStep,aw]
 rw[e2]
end
end Pal
namespace Pal
open Go Go.Conc Go.Proofs
open Go.Proofs.Tryz
open Go.Conc.Lib Go.ConcR.Gen
theorem mS:(Tryz.prog.funcs[64]?).any (·.norace)=false:=by rw[func64];rfl
def Kv(fu_:Nat)(I:Bf)(p:AK)(j:Nat):Option (List Int):=
 (f120 fu_ I).bind λK=>
 (f119 fu_ ([K]:List (List (AQ))) ((j:Nat):Int) p ([]:List ((Nat×A6)×Bool))).bind λO=>
 some O.1
variable{F:Fam}{Y Z ag ai c2 fu_ j kf:Nat}{a1 ap:Av}{p:AK}{K:Bf}
set_option maxHeartbeats 1000000 in
theorem kY{E:LH}{al:Av}{am op ac oi off:Nat}(aw:At E Z op [.slice ap p.length Y])(ay:Aq AI E ap Y p)(az:At E ac ag [sV a1 K.1 c2,sV al K.2 am])(a0:Aq (rL rI) E a1 c2 K.1)(a2:Aq AI E al am K.2)(hi:At E ai oi [iV ((j:Nat):Int)])(a3:At E kf off [.slice (some ⟨F.fd,0,none⟩) F.n F.n]){r:List Int}(aq:Kv fu_ K p j=some r)(hj:j<F.n)(a4:∀E' a c,Le E E'->Aq rI E' a c r->(r=[]->a=none)->F.msg j (.slice a r.length c) E'):
  Way Tryz.prog false (Stop Tryz.prog F (F.start j)) (born Tryz.prog ⟨.fn (.func 64) [.pointer (some F.sA),AA Z op,AA ac ag,AA ai oi,.pointer (some F.uA),AA kf off].toArray,#[]⟩) ⟨E,λ_=>none,false⟩:=by
 refine dK (vs:=[.pointer (some F.sA),AA Z op,AA ac ag,AA ai oi,.pointer (some F.uA),AA kf off]) func64 AC V AM (sZ V) ?_;obtain⟨H,a5⟩:∃H:LH,H=λ_=>none:=⟨_,V⟩;rw[← a5];have a6:Aw E H []:=trivial;refine(?_:JL (Bo Tryz.prog false) (Stop Tryz.prog F (.lk j .HG)) (baseD 64) Tryz.f64.ntmps (HD 0 [.pointer (some F.sA),AA Z op,AA ac ag,AA ai oi,.pointer (some F.uA),AA kf off]) [] [.code _] [NL Tryz.prog] (Ao E H []));unfold Kv at aq;refine C 2 V (IH (vs:=[.pointer (some F.sA)]) V V V V V ?_);refine C 3 V (CX 0 aw BP V V V ?_);refine E1 V V V a6 λr1 a7=>As (v:=.agg #[sV ap p Y,.map (some r1)]) V (λ_ h=>DZ [(0,1),(1,1)] h (Es type127) DV ⟨V,Bg type64,V,Bg type125,trivial⟩ V V) (JS.box (v:=.agg #[sV ap p Y,.map (some r1)]) V V V a7 V λca a8=>?_);refine C 3 V (Ff 1 a8 V λcc I a9 bb=>?_);refine Eu 5 λht=>Db 0 ht V V (GA 1 ht (az.Aj I) Hy Fx V V V ?_);refine Ec 4 ht 0 (hi.Aj I) A7 V V V V ?_;let⟨av,be,bg⟩:=bs aq;refine EC (i:=2) (jD (a0.Aj I) (a2.Aj I) be) AC V V V (A8 func67 V) V bb ?_;rintro _ ce _ O ⟨bi,bn,rfl,rfl,bo⟩ bv;refine BF (i:=3) V AC (Bi (pp:=(rL (rM rI false rI false))) [sV bi av bn] ([av]:List (List AQ)) bv V V V BW Ll Pz AD V V V ⟨⟨_,_,V,bo⟩,trivial⟩ λci co bw bx=>?_);refine CJ [5,6] (Cl 3 bw bx V λcp U bz b0=>?_);let⟨b1,b2,b3⟩:=bs bg;refine CO 0 (jE bz (a9.Aj (O.Ae U)) (ay.Aj ((I.Ae O).Ae U)) Ck.nil b2) V V (A8 func66 V) b0 V ?_;rintro _ ct _ aj ⟨cw,cy,c0,rfl,rfl,b4,b5,c3⟩ c4;refine C 3 V ?_;have b6:r=b1.1:=(f8 b3).symm;subst b6;refine CA (bM (kk:=j) V V V V V ?_);refine C 3 V (IH (vs:=[.pointer (some F.uA)]) V V V V V ?_);refine C 2 V (CX 0 (a3.Aj (((I.Ae O).Ae U).Ae aj)) EJ V V V ?_);refine CX 0 (hi.Aj (((I.Ae O).Ae U).Ae aj)) A7 V V V (C 1 V ?_);refine As V (λ_ h=>Ce (I5 (xs:=List.replicate F.n ()) (xv:=()) (uw) (by simp[ix,hj]) Ar CU (h _ _ V) (h _ _ V)) (by show AA F.fd (j*1)=_;rw[Nat.mul_one])) (aC (kk:=j) DJ V hj V V V V CU mS V V (a4 _ _ _ (((I.Ae O).Ae U).Ae aj) b4 b5) ?_);exact A1 (H3 V (JO.gJ (kk:=j) V V (JO.mc Tryz.My V V (Ga V func64 V (.inr V) ar))))
variable{c:Nat}
theorem OL.lg{e:TypeId}{E:LH}{r:Nat}{seg:Seg}{xs:Lv_}(h:OL e rV E (Bd r) c seg xs)(U:c=xs.length):seg=[(r,.cells xs.toArray e (0,0))]:=by
 obtain⟨wss,hg,I,Y⟩:=h;rcases hg with⟨ac,_⟩ | ⟨bk,f,ag,e2,Z,ai,K⟩;cases ac
 cases ag;have hw:wss=xs.map λx=>[x]:=by
  apply ud;intro i;rw[tV];cases O:xs[i]? with
  | none=>rw[tK (by rw[I];exact List.getElem?_eq_none_iff.1 O)];rfl
  | some x=>
   have hi:i<wss.length:=by rw[I];exact(d7.1 O).1
   have:=(Y i x wss[i] O (bZ hi)).1;rw[bZ hi,this];rfl
 have aj:wss.flatten=xs:=by
  rw[hw];clear hw K Y I Z ai U
  induction xs with
  | nil=>rfl
  | cons x xs al=>simp[al]
 rw[aj] at K;have ap:rV.n=1:=V;have am:f.toList=xs:=by
  rw[K];rw[uk (by rw[wA,Z,U];exact jK _)]
 rw[e2,← am]
noncomputable def MC:Code:=match(Tryz.f39.body).bind (K3 0) with | some (.loop c)=>c | _=>.skip
noncomputable def Zp:Code:=match(Tryz.f39.body).bind (K3 2) with | some (.loop c)=>c | _=>.skip
variable{n:Nat}{ac:Av}{xs:Nat->List Int}{H:LH}{k:Li_}{cs:Lf_}
set_option maxHeartbeats 1000000 in
theorem gW(al:F.n=n)(bi:0<n)(bn:n<=1000){E:LH}(am:Aq AI E ap ag p)(aq:Aq (rL rI) E a1 c2 K.1)(av:Aq AI E ac ai K.2)(hlen:p.length=n){it:Nat}(aw:At E it 0 [.slice ap p.length ag])(ay:At E Y 0 [sV a1 K.1 c2,sV ac K.2 ai])(az:At E kf 0 [.slice (some ⟨F.fd,0,none⟩) F.n F.n])(a0:∀j,j<n->Kv fu_ K p j=some (xs j))(a2:∀j,j<n->∀E' a c,Aq rI E' a c (xs j)->(xs j=[]->a=none)->F.msg j (.slice a (xs j).length c) E')(hj:j<n){Z:LH}(hle:Le E Z)(a3:Aw Z H [])
  (h:∀O,Le E O->Aw O H []->JL (Bo Tryz.prog true) (Stop Tryz.prog F (F.FY j)) (base 39) Tryz.f39.ntmps [(2,AA Y 0),(3,AA it 0),(6,.pointer (some F.uA)),(7,.pointer (some F.sA)),(8,AA kf 0),(19,iV (p.length:Int)),(20,iV ((j+1:Nat):Int))] [] (.inLoop MC::k) cs (Ao O H [])):
  JL (Bo Tryz.prog true) (Stop Tryz.prog F (.HE j)) (base 39) Tryz.f39.ntmps [(2,AA Y 0),(3,AA it 0),(6,.pointer (some F.uA)),(7,.pointer (some F.sA)),(8,AA kf 0),(19,iV (p.length:Int)),(20,iV ((j:Nat):Int))] [] (.code MC:: .inLoop MC::k) cs (Ao Z H []):=by
 refine C 2 V (As (v:=.bool true) V (λ_ h=>Ce (Ee (h _ _ V) (h _ _ V)) (by rw[th (show((j:Nat):Int)<(p.length:Int) by omega)])) (C 9 V (Cq a3 Ca λrn a4=>?_)));refine BX 0 a4 AE λa5=>?_;refine Ff 0 a5 V λO a6 a7 a8=>I0 (S':=[]) AM a8 λa9=>have I:=hle.trans a6;C 3 V (bE Tryz.My V V V V V V (C 2 V (As (v:=.func (.func 64) #[] ([.pointer (some F.sA),AA it 0,AA Y 0,AA rn 0,.pointer (some F.uA),AA kf 0]:Lv_).toArray) V (λ_ h=>Nf AM (by simp[h (.tmp 7) _ rfl,h (.tmp 3) _ rfl,h (.tmp 2) _ rfl,h (.tmp 9) _ rfl,h (.tmp 6) _ rfl,h (.tmp 8) _ rfl])) (have aj:=kY (F:=F) (j:=j) (aw.Aj I) (am.Aj I) (ay.Aj I) (aq.Aj I) (av.Aj I) a7 (az.Aj I) (a0 j hj) (by rw[al];exact hj) (λE' a c _ bb be=>a2 j hj E' a c bb be);kB (fi:=#[]) V V V V V V V (by first | exact aj | (simp only[List.append_toArray,tB,vR,Array.empty_append];exact aj)) ?_))))
 refine C 3 V ?_;have bg:Ax (((j:Nat):Int)+1)=some (((j+1:Nat)):Int):=by unfold Ax;rw[d9 AB];simp
 exact Br bg V V V (C 2 V (AF (h O I a9) V))
theorem aH(U:F.n=n)(am:0<n)(aq:n<=1000){E:LH}(av:Aq AI E ap ag p)(aw:Aq (rL rI) E a1 c2 K.1)(ay:Aq AI E ac ai K.2)(hlen:p.length=n)(az:At E Y 0 [.slice ap p.length ag])(a0:At E Z 0 [sV a1 K.1 c2,sV ac K.2 ai])(a2:At E kf 0 [.slice (some ⟨F.fd,0,none⟩) F.n F.n])(a3:∀j,j<n->Kv fu_ K p j=some (xs j))(a4:∀j,j<n->∀E' a c,Aq rI E' a c (xs j)->(xs j=[]->a=none)->F.msg j (.slice a (xs j).length c) E')
  (h:∀I,Le E I->Aw I H []->JL (Bo Tryz.prog true) (Stop Tryz.prog F .EL) (base 39) Tryz.f39.ntmps [(2,AA Z 0),(3,AA Y 0),(6,.pointer (some F.uA)),(7,.pointer (some F.sA)),(8,AA kf 0),(19,iV (p.length:Int)),(20,iV (p.length:Int))] [] (.code MC:: .inLoop MC::k) cs (Ao I H [])):
  ∀(m j:Nat),j+m=n->0<m->∀O,Le E O->Aw O H []->JL (Bo Tryz.prog true) (Stop Tryz.prog F (.HE j)) (base 39) Tryz.f39.ntmps [(2,AA Z 0),(3,AA Y 0),(6,.pointer (some F.uA)),(7,.pointer (some F.sA)),(8,AA kf 0),(19,iV (p.length:Int)),(20,iV ((j:Nat):Int))] [] (.code MC:: .inLoop MC::k) cs (Ao O H []):=by
 intro m
 induction m with
 | zero=>intro j _ a5;cases a5
 | succ m a6=>
  intro j a9 _ O hle a7;refine gW U am aq av aw ay hlen az a0 a2 a3 a4 AB hle a7 λI aj al=>CY ?_;by_cases hm:m=0
  .subst hm;have a8:j+1=F.n:=by rw[U];omega
   have e:F.FY j=.EL:=by unfold Fam.FY;rw[d9 a8]
   rw[e];have e2:((j+1:Nat):Int)=(p.length:Int):=by rw[hlen];omega
   rw[e2];exact h I aj al
  .have e:F.FY j=.HE (j+1):=by unfold Fam.FY;rw[d0 (by rw[U];omega)]
   rw[e];exact a6 (j+1) AB AB I aj al
def K8(fu_:Nat)(I:Bf)(p:AK)(j:Nat):List Int:=(Kv fu_ I p j).getD []
def NF(n:Nat)(xs:Nat->List Int):(List Int)×Bool:=match(List.range n).find? (λj=> !(xs j).isEmpty) with | some j=>(xs j,true) | none=>([],false)
def f77(fu_:Nat)(I:Bf)(p:AK):Option ((List Int)×Bool):=if p.length=0 then some ([],true) else if p.length<=1000/\(List.range p.length).all (λj=>(Kv fu_ I p j).isSome)=true then some (NF p.length (K8 fu_ I p)) else none
theorem bH{i:Nat}(hi:i<n)(I:xs i≠ [])(K:∀k,k<i->xs k=[]):NF n xs=(xs i,true):=by
 unfold NF;have:(List.range n).find? (λj=> !(xs j).isEmpty)=some i:=by
  rw[tR];refine⟨by simp[I],by simpa using hi,λj hj=>by simp[K j hj]⟩
 rw[this]
theorem cG(I:∀k,k<n->xs k=[]):NF n xs=([],false):=by
 unfold NF;have:(List.range n).find? (λj=> !(xs j).isEmpty)=none:=by
  rw[u4];intro j hj;simp[I j (s4.1 hj)]
 rw[this]
theorem ij{E:LH}{a:Av}{xs:List Int}(h:Aq rI E a c xs)(I:xs≠ []):a.isNone=false:=by
 rcases h.2 with⟨e,_⟩ | ⟨bk,off,e,_⟩;exact absurd e I;rw[e];rfl
set_option maxHeartbeats 1000000 in
theorem jX{J:Judge Tryz.prog}{Q:Gs_}{U:Frame}{fd:Nat}{f:Nat->Value}(aq:n<=1000){E:LH}(ac:Aw E H [[(fd,.cells (Array.ofFn λi:Fin n=>f i) 28 (0,0))]])(hm:∀k,k<n->∃a c,f k=.slice a (xs k).length c/\Aq rI E a c (xs k)/\(xs k=[]->a=none))
  (ag:∀i a c L',i<n->xs i≠ []->(∀k,k<i->xs k=[])->Aq rI E a c (xs i)->look L' 4=some (.slice a (xs i).length c)->look L' 5=some (.bool true)->∀k',JL J Q (base 39) Tryz.f39.ntmps L' [] (.code .ret::k') (U::cs) (Ao E H [[(fd,.cells (Array.ofFn λi:Fin n=>f i) 28 (0,0))]]))
  (ai:(∀k,k<n->xs k=[])->JL J Q (base 39) Tryz.f39.ntmps [] [] k (U::cs) (Ao E H [[(fd,.cells (Array.ofFn λi:Fin n=>f i) 28 (0,0))]])):
  ∀m i,i+m=n->(∀k,k<i->xs k=[])->JL J Q (base 39) Tryz.f39.ntmps [(27,.slice (Bd fd) n n),(28,iV (n:Int)),(29,iV (i:Int))] [] (.code Zp:: .inLoop Zp:: .inBlock 2::k) (U::cs) (Ao E H [[(fd,.cells (Array.ofFn λi:Fin n=>f i) 28 (0,0))]]):=by
 intro m
 induction m with
 | zero=>
  intro i hi I;exact C 2 V (As V (λ_ h=>Ce (Ee (h _ _ V) (h _ _ V)) (by rw[tA (show ¬((i:Int)<(n:Int)) by omega)])) (C 4 V (FC [] V (ai λk av=>I k AB))))
 | succ m aj=>
  intro i hi I;have K:i<n:=by omega
  let⟨a,c,al,Z,am⟩:=hm i K;refine C 2 V (As V (λ_ h=>Ce (Ee (h _ _ V) (h _ _ V)) (by rw[th (show(i:Int)<(n:Int) by omega)])) ?_);refine C 8 V (As V (λ_ h=>Ce (I5 (xs:=List.replicate n ()) (xv:=()) (uw) (by simp[ix,K]) Ar CU (h _ _ V) (h _ _ V)) (by show AA fd (i*1)=_;rw[Nat.mul_one])) ?_);refine As (v:=.slice a (xs i).length c) V (λ_ h=>Az Fw (h _ _ V) (Cc (j:=0) ac V (by simp[K,al]))) (C 5 V ?_);refine As V (λ_ h=>cD Ak (h _ _ V) (h _ _ V)) (A1 ?_);by_cases O:xs i=[]
  .have Y:(!a.isNone)=false:=by rw[am O];rfl
   rw[Y];refine C 4 V ?_;have ap:Ax (((i:Nat):Int)+1)=some (((i+1:Nat)):Int):=by unfold Ax;rw[d9 AB];simp
   refine Br ap V V V ?_;refine C 2 V ?_;refine CY ?_;refine EU ?_ (aj (i+1) AB (λk aw=>by
    by_cases e:k=i;subst e;exact O
    .exact I k AB))
   exact Ad
  .have Y:(!a.isNone)=true:=by rw[ij Z O];rfl
   rw[Y];exact C 7 V (ag i a c _ K O I Z V V _)
set_option maxHeartbeats 2000000 in
theorem lW{E:LH}{a4:Av}{a5 a6:Nat}(b3:Aq (rL rI) E a1 c2 K.1)(b4:Aq AI E a4 a5 K.2)(b5:Aq AI E ap a6 p){r:(List Int)×Bool}(O:f77 fu_ K p=some r):
  A2 (H7 Tryz.prog) 39 [.agg #[sV a1 K.1 c2,sV a4 K.2 a5],sV ap p a6] E [] (λw E' B'=>∃(a7:Av) (a8:Nat),w=.tuple #[sV a7 r.1 a8,.bool r.2]/\B'=[]/\Aq rI E' a7 a8 r.1):=by
 refine Ub func39 V V λQ er cs H b6 U=>?_;unfold f77 at O;refine C 2 V (Cx b6 λca eu cc ce ci=>?_);refine Cx ci λco ew a9 ai cp=>?_;refine I0 (S':=[]) AM cp λbb=>have be:=cc.Ae a9;C 6 V (CX 0 ai BP V V V (BB BE V V V (C 2 V (HC (p:=(p.length:Int)=0) V (λct=>?_) (λct=>?_)))));rw[d9 AB] at O;have Y:=(f8 O).symm;subst Y;exact C 5 V (AX func39 V V (U _ _ _ _ be V ⟨none,0,V,V,Ba⟩ bb))
 rw[d0 AB] at O;split at O
 rotate_left
 .cases O
 rename_i hb;obtain⟨bg,cw⟩:=hb;have Y:=(f8 O).symm;have ac:∀j,j<p.length->Kv fu_ K p j=some (K8 fu_ K p j):=λj hj=>by
  have aj:=td.1 cw j (s4.2 hj);let⟨x,av⟩:=vP.1 aj;unfold K8;rw[av];rfl
 generalize ex:K8 fu_ K p=xs at ac Y;have bi:0<p.length:=by omega
 refine C 3 V (Cq bb (Es type116) λmu cy=>?_);refine C 3 V (Cq cy (Es type122) λwg c0=>?_);refine A1 (I0 (S':=[[(mu,.cells #[.int .i32 0,.int .u32 0] 116 (0,0))],[(wg,.cells #[.int .u64 0,.int .u32 0] 122 (0,0))]]) (by simp[Value.cells]) c0 λc3=>C 2 V (CX 0 ai BP V V V (BB BE V V V ?_)));have c4:GQ (p.length:Int) (Value.slice none 0 0)=some (List.replicate p.length nS):=by unfold GQ;rw[d9 AB];simp
 refine E2 (pp:=rV) c4 V V V V V Ar CU (B3 D6) AD Kh AD ⟨V,V⟩ c3 λfd ey c5 bn=>?_;have c6:=OL.lg c5 V;subst c6;obtain⟨I,bo⟩:∃I,I=List.replicate p.length (Value.slice none 0 0):=⟨_,V⟩;have bv:(List.replicate p.length (Value.slice none 0 0)).length=p.length:=by simp
 rw[← bo] at bn bv ⊢;rw[bv];refine Cq bn (Es type22) λkf c7=>?_;refine BX 3 c7 Eo λc8=>?_;refine Ff 3 c8 V λZ al bw c9=>I0 (S':=[[(mu,.cells #[.int .i32 0,.int .u32 0] 116 (0,0))],[(wg,.cells #[.int .u64 0,.int .u32 0] 122 (0,0))],[(fd,.cells I.toArray 28 (0,0))]]) AM c9 λag=>have am:=be.Ae al;C 4 V (CX 0 (ai.Aj al) BP V V V (BB BE V V V (C 3 V (Ki (FC [(2,AA ca 0),(3,AA co 0),(6,.pointer (some (⟨mu,0,none⟩:Addr))),(7,.pointer (some (⟨wg,0,none⟩:Addr))),(8,AA kf 0),(19,iV (p.length:Int)),(20,iV ((0:Nat):Int))] V ?_)))));have bx:=Nd.iff.1 ag;intro T dd;let F:Fam:=⟨wg,mu,fd,122,116,28,p.length,λkk v E=>kk<p.length/\∃a c,v=.slice a (xs kk).length c/\Aq rI E a c (xs kk)/\(xs kk=[]->a=none),λg s=>(H7 Tryz.prog).ok Q g s⟩;have aq:=bx.1;simp only[tk,vi,s6,tH,tB,tX,wR,vw,ja,sS,not_or,t6,not_false_eq_true,wQ,wE] at aq;have dj:(Ao Z H [[(mu,.cells #[.int .i32 0,.int .u32 0] 116 (0,0))],[(wg,.cells #[.int .u64 0,.int .u32 0] 122 (0,0))],[(fd,.cells I.toArray 28 (0,0))]]).H fd=some (F.Kc λ_=>nS):=by
  rw[LQ (j:=2) ag rfl];have:(Array.ofFn λ_:Fin p.length=>Value.slice none 0 0)=I.toArray:=by
   rw[bo];apply Array.ext;simp;intro i aj bz;simp
  show some (Obj.cells I.toArray 28 (0,0))=some (Obj.cells (Array.ofFn λ_:Fin p.length=>Value.slice none 0 0) 28 (0,0));rw[this]
 refine gn F (show 1<=p.length by omega) (show p.length<134217728 by omega) ?_ aq.1.1 (λe=>aq.2 e.symm) (λe=>aq.1.2 e.symm) (LQ (j:=1) ag V) (LQ (j:=0) ag V) dj ?_ (λg s h=>h);rintro kk v eA eC ea ⟨aj,a,c,bz,aw,ay⟩;exact⟨aj,a,c,bz,aw.Aj ea,ay⟩
 have eb:=aR ag;show Way Tryz.prog true (Stop Tryz.prog F (.HE 0)) _ (⟨(Ao Z H [[(mu,.cells #[.int .i32 0,.int .u32 0] 116 (0,0))],[(wg,.cells #[.int .u64 0,.int .u32 0] 122 (0,0))],[(fd,.cells I.toArray 28 (0,0))]]).E,Ly (Ao Z H [[(mu,.cells #[.int .i32 0,.int .u32 0] 116 (0,0))],[(wg,.cells #[.int .u64 0,.int .u32 0] 122 (0,0))],[(fd,.cells I.toArray 28 (0,0))]]).H wg mu fd,false⟩:St);rw[show(Ao Z H [[(mu,.cells #[.int .i32 0,.int .u32 0] 116 (0,0))],[(wg,.cells #[.int .u64 0,.int .u32 0] 122 (0,0))],[(fd,.cells I.toArray 28 (0,0))]]).E=Z from rfl,eb];have ec:Aw Z H []:=trivial;have ed:H fd=none:=(bx.2 (fd,.cells I.toArray 28 (0,0)) AM).2;refine aH (F:=F) (n:=p.length) V bi bg (b5.Aj am) (b3.Aj am) (b4.Aj am) V (ai.Aj al) (ce.Aj (a9.Ae al)) bw ac (λj hj E' a c ee ef=>⟨hj,a,c,V,ee,ef⟩) (λeg b0 eN=>?_) p.length 0 AB bi Z AL ec T dd;refine C 2 V ?_;refine As (v:=.bool false) V (λ_ h=>Ce (Ee (h _ _ V) (h _ _ V)) (by rw[tA (show ¬((p.length:Int)<(p.length:Int)) by omega)])) ?_;refine C 6 V ?_;refine JL.wait Tryz.My (show p.length<2147483648 by omega) V V V V V (λg s h=>h) λaz f b1 ej e0 ek=>?_;have a0:Aw az H [[(fd,F.Kc f)]]:=Nd.iff.2 ⟨AM,λq ac=>by
  simp at ac;subst ac;exact⟨ej,ed⟩⟩
 have es:(⟨az,F.LD (Ao eg H []).H f,false⟩:St)=Ao az H [[(fd,F.Kc f)]]:=by
  unfold Ao mk;congr 1
 rw[es];refine have b2:=(am.Ae b0).Ae b1;C 4 V (CX 0 (bw.Aj (b0.Ae b1)) EJ V V V (BB Ar V V V (C 3 V (Ki (FC [(27,.slice (Bd fd) p.length p.length),(28,iV (p.length:Int)),(29,iV ((0:Nat):Int))] V (jX (xs:=xs) bg a0 (λk U=>?_) (λi a c L' hi av a2 el aw ay k'=>?_) (λa2=>?_) p.length 0 AB (λk U=>absurd U (Nat.not_lt_zero _))))))));exact let⟨_,a,c,em,e2,eo⟩:=ek k U;⟨a,c,em,e2,eo⟩;rw[bH hi av a2] at Y;subst Y;exact CT V V (Bm func39 V (vs:=[.slice a (xs i).length c,.bool true]) ⟨aw,ay,trivial⟩) (Vx a0 λa3=>U _ _ _ _ b2 V ⟨a,c,V,V,el⟩ a3);rw[cG a2] at Y;subst Y;exact C 5 V (AX func39 V V (Vx a0 λa3=>U _ _ _ _ b2 V ⟨none,0,V,V,Ba⟩ a3))
end Pal
namespace Pal
open Go Go.Conc Go.Proofs
open Go.Proofs.Tryz
def Rm(fu_:Nat)(Y:Bf×Int)(K:AS)(I:Int):Option (Bn Int ((AK×(List Int)×Int)⊕(Unit))):=if I<(K.length:Int) then((ix K I).bind λO=>(f77 fu_ Y.1 O).bind λU=>if U.2=true then(some (.done (Sum.inl (O,U.1,0)))) else((Ax (I+1)).bind λZ=>some (.more Z))) else(some (.done (Sum.inr ())))
def f27(fu_:Nat)(p0:Bf):Option (AK×(List Int)×Int):=(f70 fu_ p0 ([])).bind λI=>if I.2≠0 then(some ([],[],I.2)) else((f71 fu_ I.1 0).bind λK=>(f76 fu_ K).bind λO=>Option.bind (iter (Rm fu_ I O) fu_ 0) λU=>Sum.elim (λr=>some r) (λY=>some ([],[],11)) U)
variable{a1 ag:Av}{ai c2 fu_:Nat}
theorem Zl{E:LH}{p0:Bf}(b3:Aq (rL rI) E a1 c2 p0.1)(b4:Aq AI E ag ai p0.2){r:AK×(List Int)×Int}(a5:f27 fu_ p0=some r):A2 (H7 Tryz.prog) 14 [.agg #[sV a1 p0.1 c2,sV ag p0.2 ai]] E [] (λw E' B'=>∃(a6:Av) (a7:Nat) (a8:Av) (a9:Nat),w=.tuple #[sV a6 r.1 a7,sV a8 r.2.1 a9,iV r.2.2]/\B'=[]/\Aq AI E' a6 a7 r.1/\Aq rI E' a8 a9 r.2.1):=by
 refine Bq func14 λQ fo cs H b5 ay=>?_;unfold f27 at a5;refine C 2 V (Cx b5 λb6 fs U ca cc=>?_);refine C 6 V (Ch ca C8 B8 V V (Ai a5 λI ce ci=>Cb (NK (b3.Aj U) (b4.Aj U) Ba ce) V V M5 cc ?_));rintro _ fv _ az ⟨aj,al,am,ap,rfl,rfl,bb,be⟩ co;refine C 3 V (Cq co Jv λbg cp=>?_);refine BX 3 cp Fx λct=>?_;refine Ff 3 ct V λfw K bi bn=>C 8 V (AW ci (λcw cy=>?_) (λcw c0=>?_));refine C 7 V ?_;cases cy;exact AX func14 V V (ay ((U.Ae az).Ae K) V ⟨none,0,none,0,V,V,Ba,Ba⟩ bn);refine C 3 V (Ch bi Hy Fx V V (Ai c0 λfN c3 c4=>Cb (Uy (bb.Aj K) (be.Aj K) c3) V V Sq bn ?_));rintro _ gc ge Y ⟨aq,av,_,rfl,rfl,c5⟩ c6;refine Ai c4 λZ c7 c8=>C 5 V (CO 4 (kg c5 c7) V V (A8 func38 V) c6 V ?_);rintro _ c9 dd ac ⟨rfl,dj,a0⟩ ea;refine EU (L':=[(23,.tuple #[]),(0,.agg #[.slice a1 p0.1.length c2,.slice ag p0.2.length ai]),(1,AA b6 0),(2,.slice none 0 0),(3,.slice none 0 0),(4,iV 0),(13,.agg #[.slice a1 p0.1.length c2,.slice ag p0.2.length ai]),(14,.tuple #[.agg #[.slice aj I.1.1.length al,.slice am I.1.2.length ap],iV I.2]),(12,.tuple #[.agg #[.slice aj I.1.1.length al,.slice am I.1.2.length ap],iV I.2]),(15,.agg #[.slice aj I.1.1.length al,.slice am I.1.2.length ap]),(16,iV I.2),(5,AA bg 0),(6,iV I.2),(17,iV I.2),(18,.bool (decide (I.2≠0))),(20,.agg #[.slice aj I.1.1.length al,.slice am I.1.2.length ap]),(21,.slice aq Z.length av),(7,.slice aq Z.length av),(22,.slice aq Z.length av)]) ⟨V,V,V,V,V,V,V,V,V,V,V,V,V,V,V,V,by rw[a0];rfl,by rw[a0];rfl,by rw[a0];rfl,trivial⟩ (C 5 V (BB Al V V V ?_));let⟨bo,eb,bv⟩:=bs c8;refine C 2 V (Bs (λL s=>∃(bw:Unit) (bx:LH),bo=Sum.inr bw/\Jm c9 H bx [] [] L s) ?_ ?_);rintro _ _ ⟨bw,bx,rfl,rfl,rfl,ec,ed⟩;refine have ee:=elim_inr bv;C 6 V ?_;cases ee;exact AX func14 V V (ay (((((U.Ae az).Ae K).Ae Y).Ae ac).Ae ec) V ⟨none,0,none,0,V,V,Ba,Ba⟩ ed);intro ef;refine Ay (Dc eb (λa2=>[dd]) (λa2=>[(5,AA bg 0),(24,sV aq Z av),(25,iV (Z.length:Int)),(26,iV a2)]) AL ea ?_);rintro a2 eg O a3 bz ⟨gg,aw⟩ ej;have b0:=aw;unfold Rm at b0;refine C 5 V (AW b0 (λek el=>?_) (λek em=>?_));refine Ai el λgh eo er=>C 5 V (Ml 0 (dj.Aj O) eo V V V V V V Al By ?_);rintro gt gB f93 _ eu ⟨ew,ex,rfl,b1⟩ ey gE gO g3 g4;refine As V (λ_ h=>Az BP (h _ _ V) (Cc a3 eu (ey 0 _ V))) (C 4 V (Ch (bi.Aj ((Y.Ae ac).Ae O)) Hy Fx V V (Ai er λg5 eA eC=>C 1 V (Cb (lW (bb.Aj (((K.Ae Y).Ae ac).Ae O)) (be.Aj (((K.Ae Y).Ae ac).Ae O)) b1 eA) V V (A8 func39 V) a3 ?_))));rintro _ g6 _ a4 ⟨eN,e0,rfl,rfl,e1⟩ b2;refine C 10 V (Co eC (λe3 e4=>?_) (λe3 e5=>?_));refine C 8 V (BO 0 b2 V λe6=>?_);cases e4;obtain rfl:=bz _ aw;have e7:=elim_inl bv;cases e7;exact AX func14 V V (ay ((((((U.Ae az).Ae K).Ae Y).Ae ac).Ae O).Ae a4) V ⟨ew,ex,eN,e0,V,V,(b1.Aj a4),e1⟩ e6);refine Ai e5 λe8 ff fk=>C 3 V (Br ff V V V (C 2 V ?_));cases fk;exact ej e8 (O.Ae a4) b2 V aw;refine A3 V (BO 0 a3 V λfl=>?_);cases em;have fm:bo=(Sum.inr ()):=(bz _ aw).symm;exact AF (ef _ _ ⟨(),eg,fm,V,V,O,fl⟩) V
variable {J:Judge Tryz.prog}
variable {E:LH}
def Yg(fu_:Nat)(p0:List Int)(I:AK×Int):Option (Bn (AK×Int) (AK)):=(Ax (I.2+2)).bind λK=>if K<(p0.length:Int) then((ix p0 I.2).bind λO=>(Ax (I.2+1)).bind λU=>(ix p0 U).bind λY=>(Ax (I.2+2)).bind λZ=>(ix p0 Z).bind λac=>(CK I.1 ([(O,Y,ac)]:AK)).bind λag=>(Ax (I.2+3)).bind λai=>some (.more (ag,ai))) else(some (.done I.1))
def f67(fu_:Nat)(p0:List Int):Option (AK):=Option.bind (iter (Yg fu_ p0) fu_ ([],0)) λI=>some I
theorem RB{p0:List Int}(aj:Aq rI E a1 c2 p0){r:AK}(ap:f67 fu_ p0=some r):A2 J 25 [sV a1 p0 c2] E [] (λw E' B'=>∃(aq:Av) (av:Nat) (g0:Seg),w= sV aq r av/\B'=g0/\OL 27 AI E' aq av g0 r):=by
 refine Bq func25 λQ ef cs H a6 a7=>?_;unfold f67 at ap;let⟨aw,a8,a9⟩:=bs ap;refine C 13 V (Bs (λL s=>∃(al:LH) (K:Av) (O:Nat) (U:Seg),Jn E H al [U] [(3,sV K aw O)] L s (OL 27 AI al K O U aw)) ?_ ?_);rintro _ _ ⟨al,K,O,U,rfl,rfl,bb,be,bg⟩;refine C 5 V ?_;cases a9;exact AX func25 V V (a7 bb V ⟨K,O,U,V,Ab,bg⟩ be);intro bi;refine Ay (Cm a8 (λL s Y=>∃(Z:LH) (ac:Av) (ag:Nat) (ai:Seg),Jn E H Z [ai] [(0,sV a1 p0 c2),(3,sV ac Y.1 ag),(4,iV Y.2)] L s (OL 27 AI Z ac ag ai Y.1)) ⟨E,none,0,[],V,V,AL,a6,Cv⟩ ?_);rintro _ _ Y ⟨Z,ac,ag,ai,rfl,rfl,I,ay,az⟩ bn ⟨eg,am⟩ bo;have a0:=am;unfold Yg at a0;refine Ai a0 λej bv bw=>C 4 V (Br bv V V V (C 1 V (BB Ak V V V (C 2 V (AW bw (λbx bz=>?_) (λbx b0=>?_))))));refine C 3 V (Eu 17 λht=>?_);refine AY ht V [0,1,2] V (Ai bz λa2 b1 b2=>Dd 3 (aj.Aj I) b1 ht Ak AE ?_);rintro ek el _ rfl b3;refine Ec 4 ht 0 b3 A7 V V V V (AY ht V [5,6] V (Ai b2 λem b4 b5=>Bj 7 ht V V (λ_ h s' hs=>El (h _ _ V) (h _ _ V) b4) (Ai b5 λa3 b6 ca=>Dd 8 (aj.Aj I) b6 ht Ak AE ?_)));rintro eo er _ rfl cc;refine Ec 9 ht 0 cc A7 V V V V (AY ht V [10,11] V (Ai ca λeu ce ci=>Bj 12 ht V V (λ_ h s' hs=>El (h _ _ V) (h _ _ V) ce) (Ai ci λa4 co cp=>Dd 13 (aj.Aj I) co ht Ak AE ?_)));rintro ew ex _ rfl ct;refine Ec 14 ht 0 ct A7 V V V V (Bj 15 ht V V (λ_ h s' hs=>DZ [(0,1),(1,1),(2,1)] h BU An ⟨V,Bg A5,V,Bg A5,V,Bg A5,trivial⟩ V V) (BF (i:=16) V AC (Bi (pp:=AI) [.agg #[iV a2,iV a3,iV a4]] ([(a2,a3,a4)]:AK) ay V V V Am Bc BU AD V V V ⟨⟨_,_,V,V,⟨_,_,V,V,V⟩⟩,trivial⟩ λey eA cw cy=>CJ [17,18] (B2 V cy λc0=>Cl 1 cw c0 V λc3 a5 c4 c5=>Ai cp λc6 c7 c8=>HB 0 c7 V V V V V V V Am Am Bc (B3 DH) BU V AD AD (az.Aj a5) c4 c5 V λc9 dd dj ea eb=>Ai c8 λec ed ee=>C 5 V (Br ed V V V (C 2 V ?_))))));cases ee;exact AF (bo _ _ (c6,ec) ⟨c3,c9,dd,dj,V,V,(I.Ae a5),eb,ea⟩ am) V;refine A3 V ?_;cases b0;obtain rfl:=bn _ am;exact AF (bi _ _ ⟨Z,ac,ag,ai,V,V,I,ay,az⟩) V
def f110(fu_:Nat)(p0:List Int)(p1:List Int):Option (Bf):=(f67 fu_ ([0,1,5,1,2,5,2,3,2,0,3,1,3,1,1]:List Int)).bind λI=>(f67 fu_ p1).bind λK=>(CK I K).bind λO=>some (([p0,[],([3]:List Int),([1]:List Int)]:A6),O)
variable{p1:List Int}
theorem T9{ap:Av}{aq:Nat}{p0:List Int}(a5:Aq rI E a1 c2 p0)(a6:Aq rI E ap aq p1){r:Bf}(av:f110 fu_ p0 p1=some r):A2 J 45 [sV a1 p0 c2,sV ap p1 aq] E [] (λw E' B'=>∃(aw:Av) (ay:Nat) (az:Av) (a0:Nat),w=.agg #[sV aw r.1 ay,sV az r.2 a0]/\B'=[]/\Aq (rL rI) E' aw ay r.1/\Aq AI E' az a0 r.2):=by
 refine Bq func45 λQ ek cs H a7 a8=>?_;unfold f110 at av;refine C 2 V (Cq a7 H4 λI a9=>?_);refine C 4 V (Gz (pp:=rI) [iV 3] [3] V V V Ak AE Ca AD V V V Ad a9 λbb be bg bi=>Gz (pp:=rI) [iV 1] [1] V V V Ak AE Ca AD V V V Ad bi λbn bo bv bw=>B2 (S':=[[],[(I,.cells #[nS,nS] 25 (0,0))],be,bo]) V bw λbx=>Cl 2 bg bx V λel K bz b0=>Cl 3 (bv.Aj K) b0 V λem O b1 b2=>Gz (pp:=(rL rI)) [sV a1 p0 c2,nS,.slice (Bd bb) (([3]:List Int)).length 1,.slice (Bd bn) (([1]:List Int)).length 1] [p0,[],([3]:List Int),([1]:List Int)] V V V Ar CU Kh AD V V V ⟨⟨_,_,V,(a5.Aj (K.Ae O))⟩,⟨_,_,V,Ba⟩,⟨_,_,V,(bz.Aj O)⟩,⟨_,_,V,b1⟩,trivial⟩ b2 λU ac b3 b4=>B2 (S':=[[],[(I,.cells #[nS,nS] 25 (0,0))],[],[],ac]) V b4 λb5=>Gz (pp:=rI) [iV 0,iV 1,iV 5,iV 1,iV 2,iV 5,iV 2,iV 3,iV 2,iV 0,iV 3,iV 1,iV 3,iV 1,iV 1] [0,1,5,1,2,5,2,3,2,0,3,1,3,1,1] V V V Ak AE Ca AD V V V Ad b5 λeo er b6 ca=>Cl 5 b6 ca V λeu ag cc ce=>Ai av λew ci co=>Cb (RB cc ci) V V PC ce ?_);rintro _ ex cp ai ⟨ey,eA,_,rfl,rfl,ct⟩ cw;refine B2 (S':=[[],[(I,.cells #[nS,nS] 25 (0,0))],[],[],ac,[],cp]) V cw λcy=>Ai co λeC c0 c3=>C 1 V (Cb (RB (a6.Aj (((K.Ae O).Ae ag).Ae ai)) c0) V V PC cy ?_);rintro _ eN e0 aj ⟨e1,e3,_,rfl,rfl,c4⟩ c5;refine Cl 7 c4 c5 V λe4 al c6 c7=>Ai c3 λam c8 c9=>HB (pp:=AI) 6 c8 V V V V V V V Am Am Bc (B3 DH) BU V AD AD (ct.Aj (aj.Ae al)) c6 c7 V λY Z dd dj ea=>B2 (S':=[[],[(I,.cells #[nS,nS] 25 (0,0))],[],[],ac,[],dd,[]]) V ea λeb=>As (v:=.agg #[.slice (Bd U) (([p0,[],([3]:List Int),([1]:List Int)]:A6)).length 4,sV Y am Z]) V (λ_ h=>DZ [(0,1),(1,1)] h H4 A0 ⟨V,Bg type22,V,Bg type23,trivial⟩ V V) (BX 1 eb B8 λec=>?_);refine A1 (Cl 4 (b3.Aj (((ag.Ae ai).Ae aj).Ae al)) ec V λe5 a2 ed ee=>Cl 6 (dj.Aj a2) ee V λe6 a3 ef eg=>B2 (S':=[[],[(I,.cells #[.slice (Bd U) (([p0,[],([3]:List Int),([1]:List Int)]:A6)).length 4,sV Y am Z] 25 (0,0))],[],[],[],[],[],[]]) V eg λa4=>?_);cases c9;exact CT V V (Bm func45 V (vs:=[.agg #[.slice (Bd U) (([p0,[],([3]:List Int),([1]:List Int)]:A6)).length 4,sV Y am Z]]) ⟨⟨_,V,DQ C8 B8 (G6 1 a4 V V)⟩,trivial⟩) (FA 1 a4 V λej=>a8 (((((((K.Ae O).Ae ag).Ae ai).Ae aj).Ae al).Ae a2).Ae a3) V ⟨(Bd U),4,Y,Z,V,V,(ed.Aj a3),ef⟩ ej)
def f63(fu_:Nat):Option (Bf):=(f110 fu_ ([1,2,3]:List Int) ([])).bind λI=>some I
theorem RX{r:Bf}(I:f63 fu_=some r):A2 J 19 [] E [] (λw E' B'=>∃(K:Av) (O:Nat) (U:Av) (Y:Nat),w=.agg #[sV K r.1 O,sV U r.2 Y]/\B'=[]/\Aq (rL rI) E' K O r.1/\Aq AI E' U Y r.2):=by
 refine Bq func19 λQ a8 cs H am ap=>?_;unfold f63 at I;refine C 2 V (Cq am H4 λr1 aq=>?_);refine C 3 V (Gz (pp:=rI) [iV 1,iV 2,iV 3] [1,2,3] V V V Ak AE Ca AD V V V Ad aq λa9 bb av aw=>Cl 2 av aw V λbe ay az a0=>Ai I λZ a1 a2=>Cb (T9 az Ba a1) V V Sp a0 ?_);rintro _ bg _ a3 ⟨ac,ag,ai,aj,rfl,rfl,a4,a5⟩ a6;refine BX 1 a6 B8 λal=>?_;refine A1 ?_;obtain rfl:=(oi a2);exact CT V V (Bm func19 V (vs:=[.agg #[sV ac Z.1 ag,sV ai Z.2 aj]]) ⟨⟨_,V,DQ C8 B8 (G6 1 al V V)⟩,trivial⟩) (FA 1 al V λa7=>ap (ay.Ae a3) V ⟨ac,ag,ai,aj,V,V,a4,a5⟩ a7)
def f64(fu_:Nat):Option (Bf):=(f110 fu_ ([]) ([])).bind λI=>some I
theorem mH{r:Bf}(I:f64 fu_=some r):A2 J 22 [] E [] (λw E' B'=>∃(K:Av) (O:Nat) (U:Av) (Y:Nat),w=.agg #[sV K r.1 O,sV U r.2 Y]/\B'=[]/\Aq (rL rI) E' K O r.1/\Aq AI E' U Y r.2):=by
 refine Bq func22 λQ a3 cs H am ap=>?_;unfold f64 at I;refine C 2 V (Cq am H4 λr1 aq=>?_);refine Ai I λZ av aw=>C 3 V (Cb (T9 Ba Ba av) V V Sp aq ?_);rintro _ a4 _ ay ⟨ac,ag,ai,aj,rfl,rfl,az,a0⟩ a1;refine BX 1 a1 B8 λal=>?_;refine A1 ?_;obtain rfl:=(oi aw);exact CT V V (Bm func22 V (vs:=[.agg #[sV ac Z.1 ag,sV ai Z.2 aj]]) ⟨⟨_,V,DQ C8 B8 (G6 1 al V V)⟩,trivial⟩) (FA 1 al V λa2=>ap ay V ⟨ac,ag,ai,aj,V,V,az,a0⟩ a2)
def f65(fu_:Nat):Option (Bf):=(f110 fu_ ([5,1]:List Int) ([])).bind λI=>some I
theorem mj{r:Bf}(I:f65 fu_=some r):A2 J 23 [] E [] (λw E' B'=>∃(K:Av) (O:Nat) (U:Av) (Y:Nat),w=.agg #[sV K r.1 O,sV U r.2 Y]/\B'=[]/\Aq (rL rI) E' K O r.1/\Aq AI E' U Y r.2):=by
 refine Bq func23 λQ a8 cs H am ap=>?_;unfold f65 at I;refine C 2 V (Cq am H4 λr1 aq=>?_);refine C 3 V (Gz (pp:=rI) [iV 5,iV 1] [5,1] V V V Ak AE Ca AD V V V Ad aq λa9 bb av aw=>Cl 2 av aw V λbe ay az a0=>Ai I λZ a1 a2=>Cb (T9 az Ba a1) V V Sp a0 ?_);rintro _ bg _ a3 ⟨ac,ag,ai,aj,rfl,rfl,a4,a5⟩ a6;refine BX 1 a6 B8 λal=>?_;refine A1 ?_;obtain rfl:=(oi a2);exact CT V V (Bm func23 V (vs:=[.agg #[sV ac Z.1 ag,sV ai Z.2 aj]]) ⟨⟨_,V,DQ C8 B8 (G6 1 al V V)⟩,trivial⟩) (FA 1 al V λa7=>ap (ay.Ae a3) V ⟨ac,ag,ai,aj,V,V,a4,a5⟩ a7)
def f66(fu_:Nat):Option (AK):=(f67 fu_ ([0,1,1,0,2,3,0,3,2]:List Int)).bind λI=>some I
theorem l7{r:AK}(I:f66 fu_=some r):A2 J 24 [] E [] (λw E' B'=>∃(K:Av) (O:Nat),w= sV K r O/\B'=[]/\Aq AI E' K O r):=by
 refine Bq func24 λQ a2 cs H U Y=>?_;unfold f66 at I;refine C 6 V (Gz (pp:=rI) [iV 0,iV 1,iV 1,iV 0,iV 2,iV 3,iV 0,iV 3,iV 2] [0,1,1,0,2,3,0,3,2] V V V Ak AE Ca AD V V V Ad U λr1 g2 Z ac=>Cl 1 Z ac V λa3 ag ai aj=>Ai I λa4 al am=>Cb (RB ai al) V V PC aj ?_);rintro _ a5 a6 ap ⟨aq,av,_,rfl,rfl,aw⟩ ay;refine C 2 V (Cl 2 aw ay V λa7 az a0 a1=>?_);cases am;exact AX func24 V V (Y ((ag.Ae ap).Ae az) V ⟨aq,av,V,V,a0⟩ a1)
def Rc(fu_:Nat)(p0:List Int)(p1:List Int)(I:Int):Option (Bn Int ((Bool)⊕(Unit))):=Option.bind (if I<(p0.length:Int) then(some (decide (I<(p1.length:Int)))) else(some false)) λK=>if K=true then((ix p0 I).bind λO=>(ix p1 I).bind λU=>if O≠U then(some (.done (Sum.inl false))) else((Ax (I+1)).bind λY=>some (.more Y))) else(some (.done (Sum.inr ())))
def f29(fu_:Nat)(p0:List Int)(p1:List Int):Option Bool:=Option.bind (iter (Rc fu_ p0 p1) fu_ 0) λI=>Sum.elim (λr=>some r) (λK=>some (decide ((p0.length:Int)=(p1.length:Int)))) I
variable{I:Av}{K:Nat}{r:Bool}
theorem NQ{p0:List Int}(a2:Aq rI E a1 c2 p0)(a3:Aq rI E I K p1)(aj:f29 fu_ p0 p1=some r):A2 J 16 [sV a1 p0 c2,sV I p1 K] E [] (λw E' B'=>w=.bool r/\B'=[]):=by
 refine Bq func16 λQ cw cs H a4 al=>?_;unfold f29 at aj;let⟨am,a5,ap⟩:=bs aj;refine C 9 V (Bs (λL s=>∃(aq:Unit) (av:LH),am=Sum.inr aq/\Jm E H av [] [(0,sV a1 p0 c2),(1,sV I p1 K)] L s) ?_ ?_);rintro _ _ ⟨aq,av,rfl,rfl,rfl,a6,a7⟩;refine have a8:=elim_inr ap;C 3 V (BB Ak V V V (C 1 V (BB Ak V V V (C 3 V ?_))));cases a8;exact AX func16 V V (al a6 V ⟨V,V⟩ a7);intro a9;refine Ay (Dc a5 (λY=>[]) (λY=>[(0,sV a1 p0 c2),(1,sV I p1 K),(5,iV Y)]) AL a4 ?_);rintro Y ac O aw ay ⟨cy,Z⟩ bb;have az:=Z;unfold Rc at az;refine C 5 V (BB Ak V V V ?_);let⟨be,bg,bi⟩:=bs az;refine C 2 V (HA [] (λL s=>∃(ag:LH),Jm ac H ag [] [(0,sV a1 p0 c2),(1,sV I p1 K),(5,iV Y),(15,.bool be)] L s) ?_ ?_);rintro _ _ ⟨ag,rfl,rfl,U,ai⟩;refine A1 (Co bi (λbn bo=>?_) (λbn bv=>?_));refine C 4 V (Eu 8 λht=>?_);refine AY ht V [0,1] V (Ai bo λc0 bw bx=>Dd 2 (a2.Aj (O.Ae U)) bw ht Ak AE ?_);rintro c3 c4 _ rfl bz;refine Ec 3 ht 0 bz A7 V V V V (AY ht V [4,5] V (Ai bx λc5 b0 b1=>Dd 6 (a3.Aj (O.Ae U)) b0 ht Ak AE ?_));rintro c6 c7 _ rfl b2;refine Ec 7 ht 0 b2 A7 V V V V (CJ [8] (C 2 V (AW b1 (λb3 b4=>?_) (λb3 b5=>?_))));refine C 4 V ?_;cases b4;obtain rfl:=ay _ Z;have b6:=elim_inl ap;cases b6;exact AX func16 V V (al (O.Ae U) V ⟨V,V⟩ ai);refine Ai b5 λca cc ce=>C 4 V (Br cc V V V (C 2 V ?_));cases ce;exact bb ca (O.Ae U) ai V Z;refine A3 V ?_;cases bv;have ci:am=(Sum.inr ()):=(ay _ Z).symm;exact AF (a9 _ _ ⟨(),ag,ci,V,V,(O.Ae U),ai⟩) V;intro a0;refine Hb 10 bg (λco cp=>?_) (λco ct=>?_);refine C 2 V (BB Ak V V V (C 2 V ?_));cases cp;exact AF (a0 _ _ ⟨ac,V,V,AL,aw⟩) V;refine C 5 V ?_;cases ct;exact AF (a0 _ _ ⟨ac,V,V,AL,aw⟩) V
def Re(fu_:Nat)(p0:AK)(p1:AK)(I:Int):Option (Bn Int ((Bool)⊕(Unit))):=Option.bind (if I<(p0.length:Int) then(some (decide (I<(p1.length:Int)))) else(some false)) λK=>if K=true then((ix p0 I).bind λO=>(ix p1 I).bind λU=>if O≠U then(some (.done (Sum.inl false))) else((Ax (I+1)).bind λY=>some (.more Y))) else(some (.done (Sum.inr ())))
def f26(fu_:Nat)(p0:AK)(p1:AK):Option Bool:=Option.bind (iter (Re fu_ p0 p1) fu_ 0) λI=>Sum.elim (λr=>some r) (λK=>some (decide ((p0.length:Int)=(p1.length:Int)))) I
theorem O2{p0 p1:AK}(a3:Aq AI E a1 c2 p0)(a4:Aq AI E I K p1)(al:f26 fu_ p0 p1=some r):A2 J 13 [sV a1 p0 c2,sV I p1 K] E [] (λw E' B'=>w=.bool r/\B'=[]):=by
 refine Bq func13 λQ c0 cs H a5 am=>?_;unfold f26 at al;let⟨ap,a6,aq⟩:=bs al;refine C 9 V (Bs (λL s=>∃(av:Unit) (aw:LH),ap=Sum.inr av/\Jm E H aw [] [(0,sV a1 p0 c2),(1,sV I p1 K)] L s) ?_ ?_);rintro _ _ ⟨av,aw,rfl,rfl,rfl,a7,a8⟩;refine have a9:=elim_inr aq;C 3 V (BB Am V V V (C 1 V (BB Am V V V (C 3 V ?_))));cases a9;exact AX func13 V V (am a7 V ⟨V,V⟩ a8);intro bb;refine Ay (Dc a6 (λZ=>[]) (λZ=>[(0,sV a1 p0 c2),(1,sV I p1 K),(5,iV Z)]) AL a5 ?_);rintro Z ai O ay az ⟨c3,ac⟩ be;have a0:=ac;unfold Re at a0;refine C 5 V (BB Am V V V ?_);let⟨bg,bi,bn⟩:=bs a0;refine C 2 V (HA [] (λL s=>∃(U:LH),Jm ai H U [] [(0,sV a1 p0 c2),(1,sV I p1 K),(5,iV Z),(15,.bool bg)] L s) ?_ ?_);rintro _ _ ⟨U,rfl,rfl,Y,aj⟩;refine A1 (Co bn (λbo bv=>?_) (λbo bw=>?_));refine C 4 V (Eu 8 λht=>?_);refine AY ht V [0,1] V (Ai bv λbx bz b0=>Dd 2 (a3.Aj (O.Ae Y)) bz ht Am Bc ?_);rintro c4 c5 _ ⟨_,_,rfl,rfl,⟨_,_,rfl,rfl,rfl⟩⟩ b1;refine GA 3 ht b1 Dl Bc V V V (AY ht V [4,5] V (Ai b0 λag b2 b3=>Dd 6 (a4.Aj (O.Ae Y)) b2 ht Am Bc ?_));rintro c6 c7 _ ⟨_,_,rfl,rfl,⟨_,_,rfl,rfl,rfl⟩⟩ b4;refine GA 7 ht b4 Dl Bc V V V (CJ [8] (As V (λ_ h=>TC (E:=U) (E':=U) (ws':=[iV ag.1,iV ag.2.1,iV ag.2.2]) (a:=bx) (b:=ag) Zk AD AC ⟨_,_,V,V,⟨_,_,V,V,V⟩⟩ ⟨_,_,V,V,⟨_,_,V,V,V⟩⟩ (h _ _ V) (h _ _ V)) (A1 (AW b3 (λb5 b6=>?_) (λb5 ca=>?_)))));refine C 4 V ?_;cases b6;obtain rfl:=az _ ac;have cc:=elim_inl aq;cases cc;exact AX func13 V V (am (O.Ae Y) V ⟨V,V⟩ aj);refine Ai ca λce ci co=>C 4 V (Br ci V V V (C 2 V ?_));cases co;exact be ce (O.Ae Y) aj V ac;refine A3 V ?_;cases bw;have cp:ap=(Sum.inr ()):=(az _ ac).symm;exact AF (bb _ _ ⟨(),U,cp,V,V,(O.Ae Y),aj⟩) V;intro a2;refine Hb 10 bi (λct cw=>?_) (λct cy=>?_);refine C 2 V (BB Am V V V (C 2 V ?_));cases cw;exact AF (a2 _ _ ⟨ai,V,V,AL,ay⟩) V;refine C 5 V ?_;cases cy;exact AF (a2 _ _ ⟨ai,V,V,AL,ay⟩) V
def f18(fu_:Nat):Option Bool:=(f63 fu_).bind λx1=>(f43 fu_ x1).bind λK=>(f63 fu_).bind λac=>(f33 fu_ ac).bind λO=>(f63 fu_).bind λag=>(f22 fu_ ag).bind λU=>(f63 fu_).bind λai=>(f24 fu_ ai).bind λY=>(f64 fu_).bind λaj=>(f39 fu_ aj).bind λZ=>(f65 fu_).bind λal=>(f27 fu_ al).bind λI=>Option.bind (if K.2=0 then(some (decide (O.2=0))) else(some false)) λam=>Option.bind (if am=true then(some (decide (U.2=0))) else(some false)) λap=>Option.bind (if ap=true then(some (decide (Y.2=0))) else(some false)) λaq=>Option.bind (if aq=true then(some (decide (Z.2=0))) else(some false)) λav=>Option.bind (if av=true then(some (decide (I.2.2=0))) else(some false)) λaw=>Option.bind (if aw=true then(some (decide (Y.1=16))) else(some false)) λay=>Option.bind (if ay=true then((f29 fu_ K.1 ([(-6),1,3,2]:List Int)).bind λaz=>some az) else(some false)) λa0=>Option.bind (if a0=true then((f29 fu_ O.1 ([1,2,3]:List Int)).bind λa1=>some a1) else(some false)) λa2=>Option.bind (if a2=true then((f66 fu_).bind λa3=>(f26 fu_ U.1 a3).bind λa4=>some a4) else(some false)) λa5=>Option.bind (if a5=true then((f29 fu_ Z.1 ([0]:List Int)).bind λa6=>some a6) else(some false)) λa7=>Option.bind (if a7=true then((f67 fu_ ([0,2,6,2,3,3,3,1,1]:List Int)).bind λa8=>(f26 fu_ I.1 a8).bind λa9=>some a9) else(some false)) λbb=>Option.bind (if bb=true then((f29 fu_ I.2.1 ([0,1,2]:List Int)).bind λbe=>some be) else(some false)) λbg=>some bg
theorem Y8{E:LH}(bx:f18 fu_=some r):A2 (H7 Tryz.prog) 5 [] E [] (λw E' B'=>w=.bool r/\B'=[]):=by
 refine Bq func5 λQ oq cs H ej ek=>?_;unfold f18 at bx;refine Ai bx λx1 el em=>C 6 V (Cb (RX el) V V Px ej ?_);rintro _ ot _ eo ⟨ou,ov,ow,ox,rfl,rfl,er,eu⟩ ew;refine Ai em λa3 ex ey=>Cb (mD er eu ex) V V (A8 func18 V) ew ?_;rintro _ oy _ eA ⟨a4,a5,rfl,rfl,eC⟩ eN;refine Ai ey λoz e0 e1=>C 8 V (Cb (RX e0) V V Px eN ?_);rintro _ oA _ bz ⟨oB,oD,oE,oF,rfl,rfl,e3,e4⟩ e5;refine B2 V e5 λe6=>Ai e1 λam e7 e8=>Cb (l9 e3 e4 e7) V V (A8 func20 V) e6 ?_;rintro _ oG _ b0 ⟨ap,aq,rfl,rfl,ff⟩ fk;refine Ai e8 λoH fl fm=>C 8 V (Cb (RX fl) V V Px fk ?_);rintro _ oI _ bo ⟨oJ,oK,oL,oM,rfl,rfl,fo,fs⟩ fv;refine Ai fm λac fw fN=>Cb (Zd fo fs fw) V V (A8 func9 V) fv ?_;rintro _ oN _ bv ⟨aj,al,rfl,rfl,gc⟩ ge;refine B2 V ge λgg=>Ai fN λoO gh gt=>C 8 V (Cb (RX gh) V V Px gg ?_);rintro _ oP _ bb ⟨oQ,oR,oS,oT,rfl,rfl,gB,gE⟩ gO;refine Ai gt λav g3 g4=>Cs (Zj gB gE g3) V V (A8 func11 V) gO λoU be g5=>?_;obtain⟨oV,g6,g7⟩:=bs g4;refine C 8 V (Cb (mH g6) V V (A8 func22 V) g5 ?_);rintro _ oW _ bg ⟨oX,oY,oZ,o0,rfl,rfl,g8,ha⟩ hb;refine B2 V hb λhc=>Ai g7 λK he hf=>Cb (lQ g8 ha he) V V (A8 func21 V) hc ?_;rintro _ o3 _ bi ⟨ag,ai,rfl,rfl,hk⟩ hl;refine Ai hf λo4 hm hn=>C 8 V (Cb (mj hm) V V (A8 func23 V) hl ?_);rintro _ o5 _ a7 ⟨o6,o7,o8,o9,rfl,rfl,ho,hp⟩ hq;refine Ai hn λI hr hu=>Cb (Zl ho hp hr) V V (A8 func14 V) hq ?_;rintro _ pa _ a8 ⟨Y,Z,O,U,rfl,rfl,hv,hw⟩ hx;refine B2 V hx λb1=>Ai hu λhy hz hA=>C 13 V (Gn 6 52 [] [(1,sV a4 a3.1 a5),(3,sV ap am.1 aq),(5,sV aj ac.1 al),(6,iV ac.2),(7,iV av.1),(8,iV av.2),(9,sV ag K.1 ai),(10,iV K.2),(11,sV Y I.1 Z),(12,sV O I.2.1 U),(13,iV I.2.2),(50,.bool hy)] (λpb aw b2=>?_) (λb3=>?_));refine Ai hA λhB hC hD=>C 1 V (Gn 10 48 [] [(1,sV a4 a3.1 a5),(3,sV ap am.1 aq),(5,sV aj ac.1 al),(7,iV av.1),(8,iV av.2),(9,sV ag K.1 ai),(10,iV K.2),(11,sV Y I.1 Z),(12,sV O I.2.1 U),(13,iV I.2.2),(54,.bool hB)] (λpc ay b4=>?_) (λb5=>?_));refine Ai hD λhE hF hG=>C 1 V (Gn 14 44 [] [(1,sV a4 a3.1 a5),(3,sV ap am.1 aq),(5,sV aj ac.1 al),(7,iV av.1),(9,sV ag K.1 ai),(10,iV K.2),(11,sV Y I.1 Z),(12,sV O I.2.1 U),(13,iV I.2.2),(58,.bool hE)] (λpd az b6=>?_) (λca=>?_));refine Ai hG λhH hI hJ=>C 1 V (Gn 18 40 [] [(1,sV a4 a3.1 a5),(3,sV ap am.1 aq),(5,sV aj ac.1 al),(7,iV av.1),(9,sV ag K.1 ai),(11,sV Y I.1 Z),(12,sV O I.2.1 U),(13,iV I.2.2),(62,.bool hH)] (λpe a0 cc=>?_) (λce=>?_));refine Ai hJ λhK hL hM=>C 1 V (Gn 22 36 [] [(1,sV a4 a3.1 a5),(3,sV ap am.1 aq),(5,sV aj ac.1 al),(7,iV av.1),(9,sV ag K.1 ai),(11,sV Y I.1 Z),(12,sV O I.2.1 U),(66,.bool hK)] (λpf a1 ci=>?_) (λco=>?_));refine Ai hM λhN hO hP=>C 1 V (Gn 26 32 [] [(1,sV a4 a3.1 a5),(3,sV ap am.1 aq),(5,sV aj ac.1 al),(9,sV ag K.1 ai),(11,sV Y I.1 Z),(12,sV O I.2.1 U),(70,.bool hN)] (λpg a2 cp=>?_) (λct=>?_));refine Ai hP λhQ hR hS=>C 1 V (Gn 31 27 [] [(3,sV ap am.1 aq),(5,sV aj ac.1 al),(9,sV ag K.1 ai),(11,sV Y I.1 Z),(12,sV O I.2.1 U),(75,.bool hQ)] (λpi a6 cw=>?_) (λcy=>?_));obtain⟨hT,hU,hV⟩:=bs hS;refine C 1 V (Gn 36 22 [] [(5,sV aj ac.1 al),(9,sV ag K.1 ai),(11,sV Y I.1 Z),(12,sV O I.2.1 U),(80,.bool hT)] (λpj a9 c0=>?_) (λc2=>?_));refine Ai hV λhW hX hY=>C 1 V (Gn 41 17 [] [(9,sV ag K.1 ai),(11,sV Y I.1 Z),(12,sV O I.2.1 U),(85,.bool hW)] (λpn bn c3=>?_) (λc4=>?_));refine Ai hY λh0 h1 h2=>C 1 V (Gn 46 12 [] [(11,sV Y I.1 Z),(12,sV O I.2.1 U),(90,.bool h0)] (λpo bw c5=>?_) (λc6=>?_));refine Ai h2 λh3 h4 h5=>C 1 V (Gn 52 6 [] [(12,sV O I.2.1 U),(96,.bool h3)] (λpq c7 c8=>?_) (λc9=>?_));refine Ai h5 λh6 h7 h8=>C 1 V (Gn 57 1 [] [(101,.bool h6)] (λpr h9 ia=>?_) (λdd=>?_));refine C 2 V ?_;cases h8;exact AX func5 V V (ek (((((((((((((((((((((((eo.Ae eA).Ae bz).Ae b0).Ae bo).Ae bv).Ae bb).Ae be).Ae bg).Ae bi).Ae a7).Ae a8).Ae aw).Ae ay).Ae az).Ae a0).Ae a1).Ae a2).Ae a6).Ae a9).Ae bn).Ae bw).Ae c7).Ae h9) V ⟨V,V⟩ ia);refine FX 97 h7 (λih ii=>?_) (λih io=>?_);refine C 1 V (Gz (pp:=rI) [iV 0,iV 1,iV 2] [0,1,2] V V V Ak AE Ca AD V V V Ad c8 λpt pu it i0=>Cl 0 it i0 V λpw dj i1 i3=>Ai ii λpx i4 i5=>Cs (NQ (hw.Aj (((((((((((aw.Ae ay).Ae az).Ae a0).Ae a1).Ae a2).Ae a6).Ae a9).Ae bn).Ae bw).Ae c7).Ae dj)) i1 i4) V V M3 i3 λpy i6 i7=>B2 V i7 λi8=>C 1 V ?_);cases i5;exact dd (dj.Ae i6) i8 V;refine C 4 V ?_;cases io;exact dd AL c8 V;refine FX 91 h4 (λi9 jg=>?_) (λi9 ji=>?_);refine C 1 V (Gz (pp:=rI) [iV 0,iV 2,iV 6,iV 2,iV 3,iV 3,iV 3,iV 1,iV 1] [0,2,6,2,3,3,3,1,1] V V V Ak AE Ca AD V V V Ad c5 λpz pA jj jr=>Cl 0 jj jr V λpB ea jt jy=>Ai jg λpC kb kc=>Cb (RB jt kb) V V PC jy ?_);rintro _ pE pF eb ⟨pG,pI,_,rfl,rfl,ke⟩ kf;refine B2 V kf λki=>Cl 1 ke ki V λpJ ec kn ko=>Ai kc λpK kp ks=>Cs (O2 (hv.Aj ((((((((((((aw.Ae ay).Ae az).Ae a0).Ae a1).Ae a2).Ae a6).Ae a9).Ae bn).Ae bw).Ae ea).Ae eb).Ae ec)) kn kp) V V N7 ko λpL kv k0=>C 1 V ?_;cases ks;exact c9 (((ea.Ae eb).Ae ec).Ae kv) k0 V;refine C 5 V ?_;cases ji;exact c9 AL c5 V;refine FX 86 h1 (λk1 k2=>?_) (λk1 k3=>?_);refine C 1 V (Gz (pp:=rI) [iV 0] [0] V V V Ak AE Ca AD V V V Ad c3 λpM pO k4 k5=>Cl 0 k4 k5 V λpP ed k6 k7=>Ai k2 λpR la ld=>Cs (NQ (hk.Aj (((((((((((a7.Ae a8).Ae aw).Ae ay).Ae az).Ae a0).Ae a1).Ae a2).Ae a6).Ae a9).Ae bn).Ae ed)) k6 la) V V M3 k7 λpS li lm=>B2 V lm λlq=>C 1 V ?_);cases ld;exact c6 (ed.Ae li) lq V;refine C 4 V ?_;cases k3;exact c6 AL c3 V;refine FX 81 hX (λls lw=>?_) (λls ly=>?_);refine Ai lw λpU l3 l4=>C 1 V (Cb (l7 l3) V V (A8 func24 V) c0 ?_);rintro _ pW _ ee ⟨pY,p3,rfl,rfl,l5⟩ l6;refine Ai l4 λp4 ma mb=>Cs (O2 (gc.Aj ((((((((((((((bb.Ae be).Ae bg).Ae bi).Ae a7).Ae a8).Ae aw).Ae ay).Ae az).Ae a0).Ae a1).Ae a2).Ae a6).Ae a9).Ae ee)) l5 ma) V V N7 l6 λp5 mp ms=>C 1 V ?_;cases mb;exact c4 (ee.Ae mp) ms V;refine C 4 V ?_;cases ly;exact c4 AL c0 V;refine FX 76 hU (λmv m0=>?_) (λmv m1=>?_);refine C 1 V (Gz (pp:=rI) [iV 1,iV 2,iV 3] [1,2,3] V V V Ak AE Ca AD V V V Ad cw λp6 p7 m2 m3=>Cl 0 m2 m3 V λp8 ef m5 nc=>Ai m0 λp9 nl nr=>Cs (NQ (ff.Aj (((((((((((((((bo.Ae bv).Ae bb).Ae be).Ae bg).Ae bi).Ae a7).Ae a8).Ae aw).Ae ay).Ae az).Ae a0).Ae a1).Ae a2).Ae a6).Ae ef)) m5 nl) V V M3 nc λqa nx ny=>B2 V ny λnE=>C 1 V ?_);cases nr;exact c2 (ef.Ae nx) nE V;refine C 4 V ?_;cases m1;exact c2 AL cw V;refine FX 71 hR (λnH nM=>?_) (λnH nN=>?_);refine C 1 V (Gz (pp:=rI) [iV (-6),iV 1,iV 3,iV 2] [(-6),1,3,2] V V V Ak AE Ca AD V V V Ad cp λqb qc nO nP=>Cl 0 nO nP V λqd eg nQ nR=>Ai nM λqe nT nU=>Cs (NQ (eC.Aj ((((((((((((((((bz.Ae b0).Ae bo).Ae bv).Ae bb).Ae be).Ae bg).Ae bi).Ae a7).Ae a8).Ae aw).Ae ay).Ae az).Ae a0).Ae a1).Ae a2).Ae eg)) nQ nT) V V M3 nR λqf nV nW=>B2 V nW λnX=>C 1 V ?_);cases nU;exact cy (eg.Ae nV) nX V;refine C 4 V ?_;cases nN;exact cy AL cp V;refine FX 67 hO (λnY nZ=>?_) (λnY n0=>?_);refine C 3 V ?_;cases nZ;exact ct AL ci V;refine C 3 V ?_;cases n0;exact ct AL ci V;refine FX 63 hL (λn3 n4=>?_) (λn3 n6=>?_);refine C 3 V ?_;cases n4;exact co AL cc V;refine C 3 V ?_;cases n6;exact co AL cc V;refine FX 59 hI (λn7 n8=>?_) (λn7 n9=>?_);refine C 3 V ?_;cases n8;exact ce AL b6 V;refine C 3 V ?_;cases n9;exact ce AL b6 V;refine FX 55 hF (λoa ob=>?_) (λoa oc=>?_);refine C 3 V ?_;cases ob;exact ca AL b4 V;refine C 3 V ?_;cases oc;exact ca AL b4 V;refine FX 51 hC (λod oe=>?_) (λod og=>?_);refine C 3 V ?_;cases oe;exact b5 AL b2 V;refine C 3 V ?_;cases og;exact b5 AL b2 V;refine Hb 47 hz (λoh om=>?_) (λoh oo=>?_);refine C 3 V ?_;cases om;exact b3 AL b1 V;refine C 3 V ?_;cases oo;exact b3 AL b1 V
variable {E:LH}
def Rq(fu_:Nat)(p0:Bf)(I:Int):Option (Bn Int ((Bool)⊕(Unit))):=if I<(p0.1.length:Int) then((ix p0.1 I).bind λK=>if 20<(K.length:Int) then(some (.done (Sum.inl true))) else((Ax (I+1)).bind λO=>some (.more O))) else(some (.done (Sum.inr ())))
def f17(fu_:Nat)(p0:Bf):Option Bool:=Option.bind (if 20<(p0.1.length:Int) then(some true) else(some (decide (20<(p0.2.length:Int))))) λI=>if I=true then(some true) else(Option.bind (iter (Rq fu_ p0) fu_ 0) λK=>Sum.elim (λr=>some r) (λO=>some false) K)
theorem mJ{al:Av}{am:Nat}{p0:Bf}(a6:Aq (rL rI) E a1 c2 p0.1)(c4:Aq AI E al am p0.2)(ap:f17 fu_ p0=some r):A2 J 4 [.agg #[sV a1 p0.1 c2,sV al p0.2 am]] E [] (λw E' B'=>w=.bool r/\B'=[]):=by
 refine Bq func4 λQ c5 cs H a7 Z=>?_;unfold f17 at ap;refine C 2 V (Cx a7 λaq ac O U av=>?_);refine C 5 V (BS 0 U A0 Eo EJ ?_);refine BB Ar V V V ?_;let⟨a8,a9,bb⟩:=bs ap;refine C 2 V (HA [] (λL s=>∃(ag:LH),Jm ac H ag [] [(1,AA aq 0),(13,.bool a8)] L s) ?_ ?_);rintro _ _ ⟨ag,rfl,rfl,I,aw⟩;refine A1 (Co bb (λbe bg=>?_) (λbe bi=>?_));refine C 4 V ?_;cases bg;exact AX func4 V V (Z (O.Ae I) V ⟨V,V⟩ aw);let⟨ay,bn,az⟩:=bs bi;refine C 6 V (Bs (λL s=>∃(a0:Unit) (a2:LH),ay=Sum.inr a0/\Jm ag H a2 [] [] L s) ?_ ?_);rintro _ _ ⟨a0,a2,rfl,rfl,rfl,bo,bv⟩;refine have bw:=elim_inr az;C 4 V ?_;cases bw;exact AX func4 V V (Z ((O.Ae I).Ae bo) V ⟨V,V⟩ bv);intro bx;refine Ay (Dc bn (λai=>[]) (λai=>[(1,AA aq 0),(3,iV ai)]) AL aw ?_);rintro ai bz K aj a3 ⟨c6,Y⟩ b0;have a4:=Y;unfold Rq at a4;refine C 4 V (BS 0 (U.Aj (I.Ae K)) A0 Eo EJ ?_);refine BB Ar V V V (C 2 V (AW a4 (λb1 b2=>?_) (λb1 b3=>?_)));refine C 5 V (BS 0 (U.Aj (I.Ae K)) A0 Eo EJ ?_);refine Ai b2 λc7 b4 b5=>C 1 V (B7 (a6.Aj ((O.Ae I).Ae K)) b4 Ar CU ?_);rintro c8 c9 _ ⟨dd,dj,rfl,ea⟩ b6;refine CX 0 b6 Fw V V V (BB Ak V V V (C 2 V (AW b5 (λca cc=>?_) (λca ce=>?_))));refine C 4 V ?_;cases cc;obtain rfl:=a3 _ Y;have ci:=elim_inl az;cases ci;exact AX func4 V V (Z ((O.Ae I).Ae K) V ⟨V,V⟩ aj);refine Ai ce λco cp ct=>C 4 V (Br cp V V V (C 2 V ?_));cases ct;exact b0 co K aj V Y;refine A3 V ?_;cases b3;have cw:ay=(Sum.inr ()):=(a3 _ Y).symm;exact AF (bx _ _ ⟨(),bz,cw,V,V,K,aj⟩) V;intro a5;refine Hb 8 a9 (λcy c0=>?_) (λcy c3=>?_);refine C 5 V ?_;cases c0;exact AF (a5 _ _ ⟨ac,V,V,AL,av⟩) V;refine BS 1 U A0 Ej Fe ?_;refine BB Am V V V (C 2 V ?_);cases c3;exact AF (a5 _ _ ⟨ac,V,V,AL,av⟩) V
def f104(fu_:Nat)(p0:List Int):Option ((List Int)):=(CK ([]:List Int) p0).bind λI=>some I
theorem kx{p0:List Int}(U:Aq rI E a1 c2 p0){r:(List Int)}(I:f104 fu_ p0=some r):A2 J 52 [sV a1 p0 c2] E [] (λw E' B'=>∃(K:Av) (O:Nat),w= sV K r O/\B'=[]/\Aq rI E' K O r):=by
 refine Bq func52 λQ az cs H Y Z=>?_;unfold f104 at I;refine C 6 V (Mo (pp:=rI) V V V Ak AE Y λa0 a2 ac ag=>Ai I λa3 ai aj=>C 1 V (HB 1 ai V V V V V V V Ak Ak AE (B3 A5) Ca V AD AD ac U ag V λal am a4 ap aq=>C 2 V (Cl 1 ap aq V λa5 av aw ay=>?_)));cases aj;exact AX func52 V V (Z av V ⟨al,am,V,V,aw⟩ ay)
def Q4(fu_:Nat)(p0:A6)(I:A6×Int):Option (Bn (A6×Int) (A6)):=if I.2<(p0.length:Int) then((ix p0 I.2).bind λK=>(f104 fu_ K).bind λO=>(ix I.1 I.2).bind λY=>(Ax (I.2+1)).bind λU=>some (.more ((I.1.set (Int.toNat I.2) O),U))) else(some (.done I.1))
def f68(fu_:Nat)(p0:A6):Option (A6):=(GQ (p0.length:Int) ([]:List Int)).bind λI=>Option.bind (iter (Q4 fu_ p0) fu_ (I,0)) λK=>some K
theorem Y6{p0:A6}(a8:Aq (rL rI) E a1 c2 p0){r:A6}(av:f68 fu_ p0=some r):A2 J 29 [sV a1 p0 c2] E [] (λw E' B'=>∃(aw:Av) (ay:Nat),w= sV aw r ay/\B'=[]/\Aq (rL rI) E' aw ay r):=by
 refine Bq func29 λQ em cs H a9 bb=>?_;unfold f68 at av;refine C 7 V (BB Ar V V V (Ai av λbe bg bi=>E2 (pp:=(rL rI)) bg V V V V V Ar CU (B3 D6) AD Kh AD ⟨_,_,V,Ba⟩ a9 λbn bo bv bw=>?_));let⟨az,bx,bz⟩:=bs bi;refine C 7 V (Bs (λL s=>∃(ai:LH) (Y:Av) (Z:Nat) (aj:Seg),Jn E H ai [aj] [(3,sV Y az Z)] L s (OL 28 (rL rI) ai Y Z aj az)) ?_ ?_);rintro _ _ ⟨ai,Y,Z,aj,rfl,rfl,b0,b1,b2⟩;refine C 5 V (Cl 0 b2 b1 V λeo b3 b4 b5=>?_);cases bz;exact AX func29 V V (bb (b0.Ae b3) V ⟨Y,Z,V,V,b4⟩ b5);intro b6;refine Ay (Cm bx (λL s I=>∃(ac:LH) (O:Av) (U:Nat) (ag:Seg),Jn E H ac [ag] [(0,sV a1 p0 c2),(3,sV O I.1 U),(4,iV I.2)] L s (OL 28 (rL rI) ac O U ag I.1)) ⟨E,(Bd bn),be.length,bo,V,V,AL,bw,bv⟩ ?_);rintro _ _ I ⟨ac,O,U,ag,rfl,rfl,al,a0,a2⟩ ca ⟨er,am⟩ cc;have a3:=am;unfold Q4 at a3;refine C 5 V (BB Ar V V V (C 2 V (AW a3 (λce ci=>?_) (λce co=>?_))));refine Ai ci λcp ct cw=>C 8 V (B7 (a8.Aj al) ct Ar CU ?_);rintro cy c0 _ ⟨c3,c4,rfl,c5⟩ c6;refine CX 0 c6 Fw V V V (Ai cw λK c7 c8=>Cb (kx c5 c7) V V (A8 func52 V) a0 ?_);rintro _ c9 _ a4 ⟨ap,aq,rfl,rfl,dd⟩ dj;refine Ai c8 λeu ea eb=>Ml 0 (a2.Aj a4) ea V V V V V V Ar CU ?_;rintro a5 a6 f78 _ ec ⟨ew,ex,rfl,ey⟩ eA ed ee eC eN;refine FI 0 V V V dj V V CU (by simp[Value.cells,Dz]) ec (by have:=ed;simp only[Rp.n,rK,rN,rB,rP,rL] at this;show _+1<=_;omega) λef=>?_;have eg:=ee K [sV ap K aq] ⟨_,_,V,dd⟩;have a7:(I.1.set (Int.toNat I.2) K).length=I.1.length:=sW;refine EU (L':=[(0,.slice a1 p0.length c2),(3,.slice O ((I.1.set (Int.toNat I.2) K)).length U),(4,iV I.2),(8,iV I.2),(9,.slice a1 p0.length c2),(10,iV (p0.length:Int)),(11,.bool (decide (I.2<(p0.length:Int)))),(14,.slice O ((I.1.set (Int.toNat I.2) K)).length U),(15,iV I.2),(16,.slice a1 p0.length c2),(17,iV I.2),(18,AA cy c0),(19,.slice c3 cp.length c4),(20,.slice ap K.length aq),(21,AA a5 a6)]) ⟨V,by rw[a7];rfl,V,V,V,V,V,by rw[a7];rfl,V,V,V,V,V,V,V,trivial⟩ (Ai eb λej ek el=>C 4 V (Br ek V V V (C 2 V ?_)));cases el;exact AF (cc _ _ ((I.1.set (Int.toNat I.2) K),ej) ⟨c9,O,U,[(a5,.cells (Be f78 a6 [sV ap K aq]) 28 (0,0))],V,V,(al.Ae a4),ef,eg⟩ am) V;refine A3 V ?_;cases co;obtain rfl:=ca _ am;exact AF (b6 _ _ ⟨ac,O,U,ag,V,V,al,a0,a2⟩) V
def f69(fu_:Nat)(p0:AK):Option (AK):=(CK ([]:AK) p0).bind λI=>some I
theorem lY{p0:AK}(U:Aq AI E a1 c2 p0){r:AK}(I:f69 fu_ p0=some r):A2 J 30 [sV a1 p0 c2] E [] (λw E' B'=>∃(K:Av) (O:Nat),w= sV K r O/\B'=[]/\Aq AI E' K O r):=by
 refine Bq func30 λQ az cs H Y Z=>?_;unfold f69 at I;refine C 6 V (Mo (pp:=AI) V V V Am Bc Y λa0 a2 ac ag=>Ai I λa3 ai aj=>C 1 V (HB 1 ai V V V V V V V Am Am Bc (B3 DH) BU V AD AD ac U ag V λal am a4 ap aq=>C 2 V (Cl 1 ap aq V λa5 av aw ay=>?_)));cases aj;exact AX func30 V V (Z av V ⟨al,am,V,V,aw⟩ ay)
def f21(fu_:Nat)(p0:Bf):Option (Bf):=(f68 fu_ p0.1).bind λI=>(f69 fu_ p0.2).bind λK=>some (I,K)
variable{Z:Av}{ac:Nat}
theorem mr{p0:Bf}(a0:Aq (rL rI) E a1 c2 p0.1)(a2:Aq AI E Z ac p0.2){r:Bf}(ag:f21 fu_ p0=some r):A2 J 8 [.agg #[sV a1 p0.1 c2,sV Z p0.2 ac]] E [] (λw E' B'=>∃(ai:Av) (aj:Nat) (al:Av) (am:Nat),w=.agg #[sV ai r.1 aj,sV al r.2 am]/\B'=[]/\Aq (rL rI) E' ai aj r.1/\Aq AI E' al am r.2):=by
 refine Bq func8 λQ bv cs H a3 a4=>?_;unfold f21 at ag;refine C 2 V (Cx a3 λbw bx I ap a5=>?_);refine Cq a5 H4 λbz a6=>?_;refine C 2 V (Eu 5 λht=>?_);refine Cz 0 ht A0 Eo V V V V (Ec 1 ht 0 ap EJ V V V V (Cz 3 ht A0 Ej V V V V (Ec 4 ht 1 ap Fe V V V V (Ai ag λaq a7 a8=>EC (i:=2) (Y6 (a0.Aj I) a7) AC V V V (A8 func29 V) V a6 ?_))));rintro _ b0 _ av ⟨K,O,rfl,rfl,a9⟩ bb;refine CJ [5,6,7] (Ai a8 λaw be bg=>Cb (lY (a2.Aj (I.Ae av)) be) V V (A8 func30 V) bb ?_);rintro _ b1 _ ay ⟨U,Y,rfl,rfl,bi⟩ bn;refine As (v:=.agg #[sV K aq O,sV U aw Y]) V (λ_ h=>DZ [(0,1),(1,1)] h H4 A0 ⟨V,Bg type22,V,Bg type23,trivial⟩ V V) (BX 2 bn B8 λaz=>?_);refine A1 ?_;cases bg;exact CT V V (Bm func8 V (vs:=[.agg #[sV K aq O,sV U aw Y]]) ⟨⟨_,V,DQ C8 B8 (G6 2 az V V)⟩,trivial⟩) (FA 2 az V λbo=>a4 ((I.Ae av).Ae ay) V ⟨K,O,U,Y,V,V,(a9.Aj ay),bi⟩ bo)
def f20(fu_:Nat)(p0:List Int):Option ((Dh)):=some (p0,0,2685821657736338717)
abbrev CE:=@Go.Proofs.Tryz.underlying58
theorem ml{p0:List Int}(Y:Aq rI E a1 c2 p0){r:(Dh)}(I:f20 fu_ p0=some r):A2 J 7 [sV a1 p0 c2] E [] (λw E' B'=>∃(K:Nat) (O:Av) (U:Nat),w= AA K 0/\B'=[(K,.cells #[sV O r.1 U,iV r.2.1,.int .u64 ((r.2.2:Nat):Int)] 58 (0,0))]/\Aq rI E' O U r.1):=by
 refine Bq func7 λQ aj cs H Z ac=>?_;unfold f20 at I;refine C 7 V (As V (λ_ h=>DZ [(0,1),(1,1),(2,1)] h (Es type58) CE ⟨V,Bg D6,V,Bg A5,V,Bg type56,trivial⟩ V V) (JS.box V V V Z V λag ai=>C 2 V ?_));cases I;exact AX func7 V V (ac AL V ⟨ag,a1,c2,V,Ab,Y⟩ ai)
def f92(fu_:Nat)(p0:Int)(p1:Int)(p2:Int):Option Bool:=Option.bind (if p1<=p0 then(some (decide (p0<=p2))) else(some false)) λx1=>some x1
variable{p2:Int}
theorem RL{p0 p1:Int}(I:f92 fu_ p0 p1 p2=some r):A2 J 58 [iV p0,iV p1,iV p2] E [] (λw E' B'=>w=.bool r/\B'=[]):=by
 refine Bq func58 λQ am cs H K U=>?_;unfold f92 at I;refine Ai I λx1 Y Z=>C 10 V (Gn 8 1 [] [(14,.bool x1)] (λap ac ag=>?_) (λO=>?_));refine C 2 V ?_;cases Z;exact AX func58 V V (U ac V ⟨V,V⟩ ag);refine Hb 10 Y (λai aj=>?_) (λai al=>?_);refine C 4 V ?_;cases aj;exact O AL K V;refine C 4 V ?_;cases al;exact O AL K V
def f88(fu_:Nat)(p0:Int)(p1:Int×Int×Int)(p2:Int):Option Int:=(Ax (p0 - 1)).bind λI=>(f92 fu_ p1.1 0 I).bind λK=>Option.bind (if(!K)=true then(some true) else((Ax (p0 - 1)).bind λO=>(f92 fu_ p1.2.1 0 O).bind λU=>some (!U))) λY=>if Y=true then(some 3) else(if p1.1=p1.2.1 then(some 8) else((f92 fu_ p1.2.2 1 p2).bind λZ=>if(!Z)=true then(some 1) else(some 0)))
theorem lP{p0:Int}{p1:Int×Int×Int}{r:Int}(ac:f88 fu_ p0 p1 p2=some r):A2 J 59 [iV p0,.agg #[iV p1.1,iV p1.2.1,iV p1.2.2],iV p2] E [] (λw E' B'=>w=iV r/\B'=[]):=by
 refine Bq func59 λQ b2 cs H am U=>?_;unfold f88 at ac;refine C 2 V (Cx am λr2 b3 Y O ap=>?_);refine C 6 V (BS 0 O An AE A7 ?_);refine Ai ac λb4 aq av=>C 1 V (B9 aq V V V (Ai av λb5 aw ay=>Cs (RL aw) V V Py ap λb6 I ag=>As V (λ_ h=>CN (h _ _ V)) (Ai ay λaz a0 a1=>C 1 V (Gn 14 1 [] [(2,iV p2),(4,AA r2 0),(21,.bool az)] (λca K Z=>?_) (λai=>?_)))));refine C 2 V (Co a1 (λa2 a3=>?_) (λa2 a4=>?_));refine C 4 V ?_;cases a3;exact AX func59 V V (U ((Y.Ae I).Ae K) V ⟨V,V⟩ Z);refine C 2 V (BS 0 (O.Aj (I.Ae K)) An AE A7 ?_);refine BS 1 (O.Aj (I.Ae K)) An AE A7 ?_;refine C 3 V (AW a4 (λa5 a6=>?_) (λa5 a7=>?_));refine C 4 V ?_;cases a6;exact AX func59 V V (U ((Y.Ae I).Ae K) V ⟨V,V⟩ Z);refine C 2 V (BS 2 (O.Aj (I.Ae K)) An AE A7 ?_);refine Ai a7 λcc a8 a9=>C 1 V (Cs (RL a8) V V Py Z λce aj al=>As V (λ_ h=>CN (h _ _ V)) (C 2 V (Co a9 (λbb be=>?_) (λbb bg=>?_))));refine C 4 V ?_;cases be;exact AX func59 V V (U (((Y.Ae I).Ae K).Ae aj) V ⟨V,V⟩ al);refine C 6 V ?_;cases bg;exact AX func59 V V (U (((Y.Ae I).Ae K).Ae aj) V ⟨V,V⟩ al);refine FX 14 a0 (λbi bn=>?_) (λbi bo=>?_);refine C 7 V ?_;cases bn;exact ai AL ag V;refine BS 1 (O.Aj I) An AE A7 ?_;refine Ai bo λci bv bw=>C 1 V (B9 bv V V V (Ai bw λco bx bz=>Cs (RL bx) V V Py ag λcp b0 b1=>As V (λ_ h=>CN (h _ _ V)) (C 1 V ?_)));cases bz;exact ai b0 b1 V
def NB(fu_:Nat)(p0:Bf)(K:Int)(I:Int):Option (Bn Int ((Int)⊕(Unit))):=(ix p0.1 K).bind λO=>if I<(O.length:Int) then((ix p0.1 K).bind λU=>(ix U I).bind λY=>(f92 fu_ Y 1 9).bind λZ=>if(!Z)=true then(some (.done (Sum.inl 1))) else((Ax (I+1)).bind λac=>some (.more ac))) else(some (.done (Sum.inr ())))
def Nv(fu_:Nat)(p0:Bf)(I:Int):Option (Bn Int ((Int)⊕(Unit))):=if I<(p0.1.length:Int) then((ix p0.1 I).bind λK=>if 3<(K.length:Int) then(some (.done (Sum.inl 6))) else(Option.bind (iter (NB fu_ p0 I) fu_ 0) λO=>Sum.elim (λr=>some (.done (Sum.inl r))) (λY=>(Ax (I+1)).bind λU=>some (.more U)) O)) else(some (.done (Sum.inr ())))
def Q2(fu_:Nat)(p0:Bf)(I:Int):Option (Bn Int ((Int)⊕(Unit))):=if I<(p0.2.length:Int) then((ix p0.2 I).bind λO=>(f88 fu_ (p0.1.length:Int) O 9).bind λK=>if K≠0 then(some (.done (Sum.inl K))) else((Ax (I+1)).bind λU=>some (.more U))) else(some (.done (Sum.inr ())))
def f48(fu_:Nat)(p0:Bf):Option Int:=if(p0.1.length:Int)<2 then(some 7) else(if 5<(p0.1.length:Int) then(some 6) else(Option.bind (iter (Nv fu_ p0) fu_ 0) λI=>Sum.elim (λr=>some r) (λO=>if 8<(p0.2.length:Int) then(some 6) else(Option.bind (iter (Q2 fu_ p0) fu_ 0) λK=>Sum.elim (λr=>some r) (λU=>some 0) K)) I))
theorem UH{a3:Av}{a4:Nat}{p0:Bf}(ap:Aq (rL rI) E a1 c2 p0.1)(ce:Aq AI E a3 a4 p0.2){r:Int}(a5:f48 fu_ p0=some r):A2 J 36 [.agg #[sV a1 p0.1 c2,sV a3 p0.2 a4]] E [] (λw E' B'=>w=iV r/\B'=[]):=by
 refine Bq Fk λQ hx cs H ci O=>?_;unfold f48 at a5;refine C 2 V (Cx ci λag co I U aq=>?_);refine C 4 V (BS 0 U A0 Eo EJ ?_);refine BB Ar V V V (C 8 V (AW a5 (λcp ct=>?_) (λcp cw=>?_)));refine C 4 V ?_;cases ct;exact AX Fk V V (O I V ⟨V,V⟩ aq);refine C 7 V (AW cw (λcy c0=>?_) (λcy c3=>?_));refine C 4 V ?_;cases c0;exact AX Fk V V (O I V ⟨V,V⟩ aq);let⟨a6,c4,av⟩:=bs c3;refine C 6 V (Bs (λL s=>∃(a7:Unit) (aw:LH),a6=Sum.inr a7/\Jm co H aw [] [(1,AA ag 0),(3,iV (p0.1.length:Int))] L s) ?_ ?_);rintro _ _ ⟨a7,aw,rfl,rfl,rfl,Y,a8⟩;refine have c5:=elim_inr av;C 3 V (BS 1 (U.Aj Y) A0 Ej Fe ?_);refine BB Am V V V (C 2 V (AW c5 (λc6 c7=>?_) (λc6 c8=>?_)));refine C 4 V ?_;cases c7;exact AX Fk V V (O (I.Ae Y) V ⟨V,V⟩ a8);let⟨a9,c9,bb⟩:=bs c8;refine C 6 V (Bs (λL s=>∃(be:Unit) (bg:LH),a9=Sum.inr be/\Jm aw H bg [] [] L s) ?_ ?_);rintro _ _ ⟨be,bg,rfl,rfl,rfl,dd,dj⟩;refine have ea:=elim_inr bb;C 4 V ?_;cases ea;exact AX Fk V V (O ((I.Ae Y).Ae dd) V ⟨V,V⟩ dj);intro eb;refine Ay (Dc c9 (λay=>[]) (λay=>[(1,AA ag 0),(3,iV (p0.1.length:Int)),(6,iV ay)]) AL a8 ?_);rintro ay ec ac bi bn ⟨hy,al⟩ ed;have bo:=al;unfold Q2 at bo;refine C 4 V (BS 1 (U.Aj (Y.Ae ac)) A0 Ej Fe ?_);refine BB Am V V V (C 2 V (AW bo (λee ef=>?_) (λee eg=>?_)));refine C 6 V (BS 1 (U.Aj (Y.Ae ac)) A0 Ej Fe ?_);refine Ai ef λhz ej ek=>C 1 V (B7 (ce.Aj ((I.Ae Y).Ae ac)) ej Am Bc ?_);rintro hA hB _ ⟨_,_,rfl,rfl,⟨_,_,rfl,rfl,rfl⟩⟩ el;refine Ch el Dl Bc V V (Ai ek λhC em eo=>Cs (lP em) V V (A8 func59 V) bi λhD bv bw=>C 7 V (AW eo (λer eu=>?_) (λer ew=>?_)));refine C 5 V ?_;cases eu;obtain rfl:=bn _ al;have ex:=elim_inl bb;cases ex;exact AX Fk V V (O (((I.Ae Y).Ae ac).Ae bv) V ⟨V,V⟩ bw);refine Ai ew λey eA eC=>C 4 V (Br eA V V V (C 2 V ?_));cases eC;exact ed ey (ac.Ae bv) bw V al;refine A3 V ?_;cases eg;have eN:a9=(Sum.inr ()):=(bn _ al).symm;exact AF (eb _ _ ⟨(),ec,eN,V,V,ac,bi⟩) V;intro e0;refine Ay (Dc c4 (λai=>[]) (λai=>[(1,AA ag 0),(3,iV (p0.1.length:Int)),(4,iV ai)]) AL aq ?_);rintro ai bx K az a0 ⟨hE,aj⟩ e1;have bz:=aj;unfold Nv at bz;refine C 7 V (AW bz (λe3 e4=>?_) (λe3 e5=>?_));refine C 6 V (BS 0 (U.Aj K) A0 Eo EJ ?_);refine Ai e4 λhF e6 e7=>C 1 V (B7 (ap.Aj (I.Ae K)) e6 Ar CU ?_);rintro hG hH _ ⟨hI,hJ,rfl,hK⟩ e8;refine CX 0 e8 Fw V V V (BB Ak V V V (C 2 V (AW e7 (λff fk=>?_) (λff fl=>?_))));refine C 4 V ?_;cases fk;obtain rfl:=a0 _ aj;have fm:=elim_inl av;cases fm;exact AX Fk V V (O (I.Ae K) V ⟨V,V⟩ az);let⟨b0,fo,b1⟩:=bs fl;refine C 5 V (Bs (λL s=>∃(b2:Unit) (b3:LH),b0=Sum.inr b2/\Jm bx H b3 [] [(1,AA ag 0),(3,iV (p0.1.length:Int)),(4,iV ai)] L s) ?_ ?_);rintro _ _ ⟨b2,b3,rfl,rfl,rfl,fs,fv⟩;refine have fw:=elim_inr b1;Ai fw λfN gc ge=>C 3 V (Br gc V V V (C 2 V ?_));cases ge;exact e1 fN (K.Ae fs) fv V aj;intro gg;refine Ay (Dc fo (λa2=>[]) (λa2=>[(1,AA ag 0),(3,iV (p0.1.length:Int)),(4,iV ai),(5,iV a2)]) AL az ?_);rintro a2 gh Z b4 b5 ⟨hL,am⟩ gt;have b6:=am;unfold NB at b6;refine C 4 V (BS 0 (U.Aj (K.Ae Z)) A0 Eo EJ ?_);refine Ai b6 λhM gB gE=>C 1 V (B7 (ap.Aj ((I.Ae K).Ae Z)) gB Ar CU ?_);rintro hN hO _ ⟨hP,hQ,rfl,hR⟩ gO;refine CX 0 gO Fw V V V (BB Ak V V V (C 2 V (AW gE (λg3 g4=>?_) (λg3 g5=>?_))));refine C 5 V (BS 0 (U.Aj (K.Ae Z)) A0 Eo EJ ?_);refine Ai g4 λhS g6 g7=>C 1 V (B7 (ap.Aj ((I.Ae K).Ae Z)) g6 Ar CU ?_);rintro hT hU _ ⟨hV,hW,rfl,g8⟩ ha;refine CX 0 ha Fw V V V (Ai g7 λhX hb hc=>C 1 V (B7 g8 hb Ak AE ?_));rintro hY h0 _ rfl he;refine CX 0 he A7 V V V (Ai hc λh1 hf hk=>Cs (RL hf) V V Py b4 λh2 ca cc=>As V (λ_ h=>CN (h _ _ V)) (A1 (Co hk (λhl hm=>?_) (λhl hn=>?_))));refine C 4 V ?_;cases hm;obtain rfl:=b5 _ am;have ho:=elim_inl b1;cases ho;obtain rfl:=a0 _ aj;have hp:=elim_inl av;cases hp;exact AX Fk V V (O (((I.Ae K).Ae Z).Ae ca) V ⟨V,V⟩ cc);refine Ai hn λhq hr hu=>C 4 V (Br hr V V V (C 2 V ?_));cases hu;exact gt hq (Z.Ae ca) cc V am;refine A3 V ?_;cases g5;have hv:b0=(Sum.inr ()):=(b5 _ am).symm;exact AF (gg _ _ ⟨(),gh,hv,V,V,Z,b4⟩) V;refine A3 V ?_;cases e5;have hw:a6=(Sum.inr ()):=(a0 _ aj).symm;exact AF (e0 _ _ ⟨(),bx,hw,V,V,K,az⟩) V
def Rs(fu_:Nat)(p0:A6)(p1:A6)(I:Int):Option (Bn Int ((Bool)⊕(Unit))):=Option.bind (if I<(p0.length:Int) then(some (decide (I<(p1.length:Int)))) else(some false)) λK=>if K=true then((ix p0 I).bind λO=>(ix p1 I).bind λU=>(f29 fu_ O U).bind λY=>if(!Y)=true then(some (.done (Sum.inl false))) else((Ax (I+1)).bind λZ=>some (.more Z))) else(some (.done (Sum.inr ())))
def f80(fu_:Nat)(p0:A6)(p1:A6):Option Bool:=Option.bind (iter (Rs fu_ p0 p1) fu_ 0) λI=>Sum.elim (λr=>some r) (λK=>some (decide ((p0.length:Int)=(p1.length:Int)))) I
theorem mw{p0 p1:A6}(a4:Aq (rL rI) E a1 c2 p0)(a5:Aq (rL rI) E I K p1)(ai:f80 fu_ p0 p1=some r):A2 J 42 [sV a1 p0 c2,sV I p1 K] E [] (λw E' B'=>w=.bool r/\B'=[]):=by
 refine Bq func42 λQ c6 cs H a6 aj=>?_;unfold f80 at ai;let⟨al,a7,am⟩:=bs ai;refine C 9 V (Bs (λL s=>∃(ap:Unit) (aq:LH),al=Sum.inr ap/\Jm E H aq [] [(0,sV a1 p0 c2),(1,sV I p1 K)] L s) ?_ ?_);rintro _ _ ⟨ap,aq,rfl,rfl,rfl,a8,a9⟩;refine have bb:=elim_inr am;C 3 V (BB Ar V V V (C 1 V (BB Ar V V V (C 3 V ?_))));cases bb;exact AX func42 V V (aj a8 V ⟨V,V⟩ a9);intro be;refine Ay (Dc a7 (λY=>[]) (λY=>[(0,sV a1 p0 c2),(1,sV I p1 K),(5,iV Y)]) AL a6 ?_);rintro Y ac O av aw ⟨c7,Z⟩ bg;have ay:=Z;unfold Rs at ay;refine C 5 V (BB Ar V V V ?_);let⟨bi,bn,bo⟩:=bs ay;refine C 2 V (HA [] (λL s=>∃(ag:LH),Jm ac H ag [] [(0,sV a1 p0 c2),(1,sV I p1 K),(5,iV Y),(15,.bool bi)] L s) ?_ ?_);rintro _ _ ⟨ag,rfl,rfl,U,az⟩;refine A1 (Co bo (λbv bw=>?_) (λbv bx=>?_));refine C 4 V (Eu 8 λht=>?_);refine AY ht V [0,1] V (Ai bw λc8 bz b0=>Dd 2 (a4.Aj (O.Ae U)) bz ht Ar CU ?_);rintro c9 dd _ ⟨dj,ea,rfl,b1⟩ b2;refine Ec 3 ht 0 b2 Fw V V V V (AY ht V [4,5] V (Ai b0 λeb b3 b4=>Dd 6 (a5.Aj (O.Ae U)) b3 ht Ar CU ?_));rintro ec ed _ ⟨ee,ef,rfl,b5⟩ b6;refine Ec 7 ht 0 b6 Fw V V V V (CJ [8,9] (Ai b4 λeg ca cc=>Cs (NQ b1 b5 ca) V V M3 az λej a0 a2=>As V (λ_ h=>CN (h _ _ V)) (A1 (Co cc (λce ci=>?_) (λce co=>?_)))));refine C 4 V ?_;cases ci;obtain rfl:=aw _ Z;have cp:=elim_inl am;cases cp;exact AX func42 V V (aj ((O.Ae U).Ae a0) V ⟨V,V⟩ a2);refine Ai co λct cw cy=>C 4 V (Br cw V V V (C 2 V ?_));cases cy;exact bg ct ((O.Ae U).Ae a0) a2 V Z;refine A3 V ?_;cases bx;have c0:al=(Sum.inr ()):=(aw _ Z).symm;exact AF (be _ _ ⟨(),ag,c0,V,V,(O.Ae U),az⟩) V;intro a3;refine Hb 10 bn (λc3 c4=>?_) (λc3 c5=>?_);refine C 2 V (BB Ar V V V (C 2 V ?_));cases c4;exact AF (a3 _ _ ⟨ac,V,V,AL,av⟩) V;refine C 5 V ?_;cases c5;exact AF (a3 _ _ ⟨ac,V,V,AL,av⟩) V
def f30(fu_:Nat)(p0:Bf)(p1:Bf):Option Bool:=(f80 fu_ p0.1 p1.1).bind λI=>Option.bind (if I=true then((f26 fu_ p0.2 p1.2).bind λK=>some K) else(some false)) λO=>some O
theorem m4{U:Av}{Y:Nat}{p0 p1:Bf}(av:Aq (rL rI) E a1 c2 p0.1)(aw:Aq AI E U Y p0.2)(ay:Aq (rL rI) E Z ac p1.1)(az:Aq AI E ag ai p1.2)(aj:f30 fu_ p0 p1=some r):A2 J 17 [.agg #[sV a1 p0.1 c2,sV U p0.2 Y],.agg #[sV Z p1.1 ac,sV ag p1.2 ai]] E [] (λw E' B'=>w=.bool r/\B'=[]):=by
 refine Bq func17 λQ b0 cs H a0 a2=>?_;unfold f30 at aj;refine C 2 V (Cx a0 λb1 b2 K al a3=>?_);refine Cx a3 λb3 b4 I am a4=>?_;refine C 4 V (BS 0 (al.Aj I) A0 Eo EJ ?_);refine BS 0 am A0 Eo EJ ?_;refine Ai aj λb5 a5 a6=>Cs (mw (av.Aj (K.Ae I)) (ay.Aj (K.Ae I)) a5) V V (A8 func42 V) a4 λb6 O a7=>B2 V a7 λap=>Ai a6 λa8 a9 bb=>C 1 V (Gn 12 1 [] [(16,.bool a8)] (λca be bg=>?_) (λaq=>?_));refine C 2 V ?_;cases bb;exact AX func17 V V (a2 (((K.Ae I).Ae O).Ae be) V ⟨V,V⟩ bg);refine FX 10 a9 (λbi bn=>?_) (λbi bo=>?_);refine BS 1 (al.Aj (I.Ae O)) A0 Ej Fe ?_;refine BS 1 (am.Aj O) A0 Ej Fe ?_;refine Ai bn λcc bv bw=>Cs (O2 (aw.Aj ((K.Ae I).Ae O)) (az.Aj ((K.Ae I).Ae O)) bv) V V N7 ap λce bx bz=>C 1 V ?_;cases bw;exact aq bx bz V;refine C 6 V ?_;cases bo;exact aq AL ap V
variable {E:LH}
def f83(fu_:Nat)(p0:Dh):Option (Nat×(Dh)):=(Ax (p0.2.1+1)).bind λK=>Option.bind (if K<=(p0.1.length:Int) then((Ax (K - 1)).bind λO=>(ix p0.1 O).bind λU=>some (((((EG K)*11400714819323198485)%2^64) ^^^ (((EG U)*14029467366897019727)%2^64))%2^64)) else(some (((EG K)*11400714819323198485)%2^64))) λI=>some (((((((((((p0.2.2 ^^^ I)%2^64)*18397679294719823053)%2^64) ^^^ (((((p0.2.2 ^^^ I)%2^64)*18397679294719823053)%2^64)>>>33))%2^64)*14181476777654086739)%2^64) ^^^ (((((((((p0.2.2 ^^^ I)%2^64)*18397679294719823053)%2^64) ^^^ (((((p0.2.2 ^^^ I)%2^64)*18397679294719823053)%2^64)>>>33))%2^64)*14181476777654086739)%2^64)>>>29))%2^64)>>>11,(p0.1,K,(((((p0.2.2 ^^^ I)%2^64)*18397679294719823053)%2^64) ^^^ (((((p0.2.2 ^^^ I)%2^64)*18397679294719823053)%2^64)>>>33))%2^64))
variable{bk:Nat}{p0:Dh}
theorem mC(O:Aq rI E a1 c2 p0.1){r:Nat×(Dh)}(U:f83 fu_ p0=some r):A2 J 76 [AA bk 0] E [(bk,.cells #[sV a1 p0.1 c2,iV p0.2.1,.int .u64 ((p0.2.2:Nat):Int)] 58 (0,0))] (λw E' B'=>∃(Y:Av) (Z:Nat),w=.int .u64 ((r.1:Nat):Int)/\B'=[(bk,.cells #[sV Y r.2.1 Z,iV r.2.2.1,.int .u64 ((r.2.2.2:Nat):Int)] 58 (0,0))]/\Aq rI E' Y Z r.2.1):=by
 refine Bq func76 λQ a9 cs H ac am=>?_;unfold f83 at U;refine C 8 V (Cf CE AE V V V (As V (λ_ h=>Az A7 (h _ _ V) (Cc (j:=0) ac V V)) (Ai U λap aq av=>Br aq V V V (C 1 V (Cf CE AE V V V (BX 0 ac AE λI=>?_))))));refine C 5 V (Cf CE AE V V V (As V (λ_ h=>Az A7 (h _ _ V) (Cc (j:=0) I V V)) (As V (λ_ h=>G4 BT EI (h _ _ V)) (As V Af (C 4 V (EW 9 [bk] ⟨⟨0,_,V⟩,trivial⟩ I λht=>AY ht V [0,1] V (Cz 2 ht CE AE V V V V ?_)))))));refine ID 3 ht 1 0 I A7 ?_;refine AY ht V [4,5] V (Cz 6 ht CE CU V V V V (ID 7 ht 0 0 I Fw ?_));refine Bj 8 ht V V (λ_ h s' hs=>Fo V Ak (h _ _ V)) (CJ [9] (Ai av λaw ay az=>C 2 V (FE [bX bk #[sV a1 p0.1 c2,iV ap,.int .u64 ((p0.2.2:Nat):Int)] 58] [(0,AA bk 0),(3,.int .u64 ((aw:Nat):Int))] (λbb ag ai=>?_) (λaj=>?_))));refine C 5 V (Cf CE Lm V V V (As V (λ_ h=>Az Pv (h _ _ V) (Cc (j:=0) ai V V)) (C 1 V (As V Af (As V Af (C 1 V (Cf CE Lm V V V (BX 0 ai Lm λK=>?_))))))));refine C 2 V (EW 11 [bk] ⟨⟨0,_,V⟩,trivial⟩ K λht=>?_);refine AY ht V [0,1,2] V (Cz 3 ht CE Lm V V V V (ID 4 ht 2 0 K Pv ?_));refine AY ht V [5,6] V (Cz 7 ht CE Lm V V V V (ID 8 ht 2 0 K Pv ?_));refine Bj 9 ht V V (λ_ h s' hs=>Mi 33 (h _ _ V) (h _ _ V) AD) (Bj 10 ht V V Af (CJ [11,12,13] (C 1 V (Cf CE Lm V V V (BX 0 K Lm λal=>?_)))));refine C 5 V (Cf CE Lm V V V (As V (λ_ h=>Az Pv (h _ _ V) (Cc (j:=0) al V V)) (As V Af (C 6 V (As V (λ_ h=>Mi 29 (h _ _ V) (h _ _ V) AD) (As V Af (As V (λ_ h=>Mi 11 (h _ _ V) (h _ _ V) AD) (C 2 V ?_))))))));cases az;exact AX func76 V V (am ag V ⟨a1,c2,V,V,(O.Aj ag)⟩ al);refine AW ay (λa0 a2=>?_) (λa0 a3=>?_);refine EW 14 [bk] ⟨⟨0,_,V⟩,trivial⟩ I λht=>AY ht V [0,1,2] V (Cz 3 ht CE CU V V V V ?_);refine ID 4 ht 0 0 I Fw ?_;refine AY ht V [5,6] V (Cz 7 ht CE AE V V V V (ID 8 ht 1 0 I A7 ?_));refine Ai a2 λbe a4 a5=>Bj 9 ht V V (λ_ h s' hs=>Ep (h _ _ V) (h _ _ V) a4) (Ai a5 λbg a6 a7=>Dd 10 O a6 ht Ak AE ?_);rintro bi bn _ rfl a8;refine Fb 11 ht 0 a8 I ⟨⟨0,_,V⟩,trivial⟩ A7 ?_;refine Bj 12 ht V V (λ_ h s' hs=>G4 BT EI (h _ _ V)) (Bj 13 ht V V Af (CJ [14,15] (As V Af (C 2 V ?_))));cases a7;exact aj AL I V;refine Bl ?_;cases a3;exact aj AL I V
def f36(fu_:Nat)(p0:Dh)(p1:Int):Option (Int×(Dh)):=(f83 fu_ p0).bind λI=>if p1<1 then(some (0,I.2)) else((RI I.1 ((EG p1+1)%2^64)).bind λK=>some (LV K,I.2))
theorem NJ(aj:Aq rI E a1 c2 p0.1){r:Int×(Dh)}(I:f36 fu_ p0 p2=some r):A2 J 49 [AA bk 0,iV p2] E [(bk,.cells #[sV a1 p0.1 c2,iV p0.2.1,.int .u64 ((p0.2.2:Nat):Int)] 58 (0,0))] (λw E' B'=>∃(K:Av) (O:Nat),w=iV r.1/\B'=[(bk,.cells #[sV K r.2.1 O,iV r.2.2.1,.int .u64 ((r.2.2.2:Nat):Int)] 58 (0,0))]/\Aq rI E' K O r.2.1):=by
 refine Bq func49 λQ a0 cs H al U=>?_;unfold f36 at I;refine Ai I λa2 am ap=>C 7 V (CO 0 (mC aj am) V V (A8 func76 V) al V ?_);rintro _ a3 _ Y ⟨Z,ac,rfl,rfl,ag⟩ ai;refine C 8 V (AW ap (λaq av=>?_) (λaq aw=>?_));refine C 4 V ?_;cases av;exact AX func49 V V (U Y V ⟨Z,ac,V,V,ag⟩ ai);refine C 5 V (As V (λ_ h=>G4 BT EI (h _ _ V)) (As V (λ_ h=>gj (h _ _ V) (h _ _ V)) (Ai aw λa4 ay az=>As V (λ_ h=>ez (h _ _ V) (h _ _ V) ay) (As V (λ_ h=>YF EI BT (h _ _ V)) (C 2 V ?_)))));cases az;exact AX func49 V V (U Y V ⟨Z,ac,V,V,ag⟩ ai)
def f37(fu_:Nat)(p0:Dh)(p1:Int)(p2:Int):Option (Int×(Dh)):=(Ax (p2 - p1)).bind λK=>(f36 fu_ p0 K).bind λI=>(Ax (p1+I.1)).bind λO=>some (O,I.2)
theorem UA{p1:Int}(U:Aq rI E a1 c2 p0.1){r:Int×(Dh)}(I:f37 fu_ p0 p1 p2=some r):A2 J 48 [AA bk 0,iV p1,iV p2] E [(bk,.cells #[sV a1 p0.1 c2,iV p0.2.1,.int .u64 ((p0.2.2:Nat):Int)] 58 (0,0))] (λw E' B'=>∃(K:Av) (O:Nat),w=iV r.1/\B'=[(bk,.cells #[sV K r.2.1 O,iV r.2.2.1,.int .u64 ((r.2.2.2:Nat):Int)] 58 (0,0))]/\Aq rI E' K O r.2.1):=by
 refine Bq func48 λQ az cs H Y Z=>?_;unfold f37 at I;refine Ai I λa0 ac ag=>C 10 V (B9 ac V V V (Ai ag λa2 ai aj=>CO 0 (NJ U ai) V V M7 Y V ?_));rintro _ a3 _ al ⟨am,ap,rfl,rfl,aq⟩ av;refine Ai aj λa4 aw ay=>Br aw V V V (C 2 V ?_);cases ay;exact AX func48 V V (Z al V ⟨am,ap,V,V,aq⟩ av)
def f32(fu_:Nat)(p0:Dh)(p1:Int):Option (Bool×(Dh)):=(Ax (p1 - 1)).bind λK=>(f36 fu_ p0 K).bind λI=>some (decide (I.1=0),I.2)
theorem Y4(U:Aq rI E a1 c2 p0.1){r:Bool×(Dh)}(I:f32 fu_ p0 p2=some r):A2 J 28 [AA bk 0,iV p2] E [(bk,.cells #[sV a1 p0.1 c2,iV p0.2.1,.int .u64 ((p0.2.2:Nat):Int)] 58 (0,0))] (λw E' B'=>∃(K:Av) (O:Nat),w=.bool r.1/\B'=[(bk,.cells #[sV K r.2.1 O,iV r.2.2.1,.int .u64 ((r.2.2.2:Nat):Int)] 58 (0,0))]/\Aq rI E' K O r.2.1):=by
 refine Bq func28 λQ aw cs H Y Z=>?_;unfold f32 at I;refine Ai I λay ac ag=>C 8 V (B9 ac V V V (Ai ag λaz ai aj=>CO 0 (NJ U ai) V V M7 Y V ?_));rintro _ a0 _ al ⟨am,ap,rfl,rfl,aq⟩ av;refine C 3 V ?_;cases aj;exact AX func28 V V (Z al V ⟨am,ap,V,V,aq⟩ av)
def f81(fu_:Nat)(p0:Dh)(p1:List Int):Option (Int×(Dh)):=(Ax ((p1.length:Int) - 1)).bind λK=>(f36 fu_ p0 K).bind λI=>(ix p1 I.1).bind λO=>some (O,I.2)
theorem Y3(ac:Aq rI E a1 c2 p0.1)(ag:Aq rI E I K p1){r:Int×(Dh)}(O:f81 fu_ p0 p1=some r):A2 J 50 [AA bk 0,sV I p1 K] E [(bk,.cells #[sV a1 p0.1 c2,iV p0.2.1,.int .u64 ((p0.2.2:Nat):Int)] 58 (0,0))] (λw E' B'=>∃(U:Av) (Y:Nat),w=iV r.1/\B'=[(bk,.cells #[sV U r.2.1 Y,iV r.2.2.1,.int .u64 ((r.2.2.2:Nat):Int)] 58 (0,0))]/\Aq rI E' U Y r.2.1):=by
 refine Bq func50 λQ a4 cs H ai aj=>?_;unfold f81 at O;refine C 9 V (BB Ak V V V (Ai O λa5 al am=>B9 al V V V (Ai am λa6 ap aq=>CO 0 (NJ ac ap) V V M7 ai V ?_)));rintro _ a7 _ Z ⟨av,aw,rfl,rfl,ay⟩ az;refine Ai aq λa8 a0 a2=>B7 (ag.Aj Z) a0 Ak AE ?_;rintro a9 bb _ rfl a3;refine CX 0 a3 A7 V V V (C 2 V ?_);cases a2;exact AX func50 V V (aj Z V ⟨av,aw,V,V,ay⟩ az)
def f40(fu_:Nat)(p0:Dh)(p1:Int):Option (Dq×(Dh)):=(Ax (p1 - 1)).bind λY=>(f36 fu_ p0 Y).bind λI=>(f37 fu_ I.2 1 9).bind λK=>(f81 fu_ K.2 ([1,2,2,3,K.1]:List Int)).bind λO=>(Ax (p1 - 1)).bind λZ=>(f37 fu_ O.2 1 Z).bind λU=>(Ax (I.1+U.1)).bind λac=>(RY ac p1).bind λag=>some ((I.1,ag,O.1),U.2)
theorem Ze(ap:Aq rI E a1 c2 p0.1){r:Dq×(Dh)}(K:f40 fu_ p0 p2=some r):A2 J 51 [AA bk 0,iV p2] E [(bk,.cells #[sV a1 p0.1 c2,iV p0.2.1,.int .u64 ((p0.2.2:Nat):Int)] 58 (0,0))] (λw E' B'=>∃(O:Av) (U:Nat),w=.agg #[iV r.1.1,iV r.1.2.1,iV r.1.2.2]/\B'=[(bk,.cells #[sV O r.2.1 U,iV r.2.2.1,.int .u64 ((r.2.2.2:Nat):Int)] 58 (0,0))]/\Aq rI E' O U r.2.1):=by
 refine Bq func51 λQ c3 cs H aq av=>?_;unfold f40 at K;refine C 2 V (Cq aq BU λc4 aw=>?_);refine Ai K λc5 ay az=>C 5 V (B9 ay V V V (Ai az λY a0 a2=>CO 0 (NJ ap a0) V V M7 aw V ?_));rintro _ c6 _ a3 ⟨c7,c8,rfl,rfl,a4⟩ a5;refine Ai a2 λZ a6 a7=>C 2 V (CO 0 (UA a4 a6) V V Sn a5 V ?_);rintro _ c9 _ a8 ⟨dd,dj,rfl,rfl,a9⟩ bb;refine Gz (pp:=rI) [iV 1,iV 2,iV 2,iV 3,iV Z.1] [1,2,2,3,Z.1] V V V Ak AE Ca AD V V V Ad bb λea eb be bg=>Cl 2 be bg V λec ac bi bn=>Ai a7 λag bo bv=>CO 0 (Y3 (a9.Aj ac) bi bo) V V (A8 func50 V) bn V ?_;rintro _ ed _ bw ⟨ee,ef,rfl,rfl,bx⟩ bz;refine As V (λ_ h=>DZ [(0,1),(1,1),(2,1)] h BU An ⟨V,Bg A5,V,Bg A5,V,Bg A5,trivial⟩ V V) (Cq bz BU λai b0=>?_);refine BX 3 b0 Bc λI=>?_;refine C 2 V (EW 8 [ai] ⟨⟨3,_,V⟩,trivial⟩ I λht=>?_);refine Cz 0 ht An AE V V V V (ID 1 ht 0 3 I A7 ?_);refine AY ht V [2,3] V (Ai bv λeg b1 b2=>Bj 4 ht V V (λ_ h s' hs=>Ep (h _ _ V) (h _ _ V) b1) (Db 7 ht V V (Ai b2 λej b3 b4=>Ws (i:=5) 0 (by exact λx b5=>IA.mem (bks:=[ai]) (by exact⟨⟨3,_,rfl⟩,trivial⟩) x (by simpa [AO] using b5)) (UA bx b3) AC V V V Sn V I V ?_)));rintro _ ek _ b6 ⟨ca,cc,rfl,rfl,ce⟩ ci;refine Ai b4 λel co cp=>Bj 6 ht V V (λ_ h s' hs=>El (h _ _ V) (h _ _ V) co) (CJ [8,9,10] (Ai cp λaj ct cw=>As V (λ_ h=>fW (h _ _ V) (h _ _ V) ct) (Cf An AE V V V (BX 3 ci AE λal=>?_))));refine C 3 V (As V (λ_ h=>I1 (vs:=[iV Y.1,iV aj,iV ag.1]) Dl Bc (h _ _ V) (G6 3 al V V)) (BX 1 al Bc λcy=>?_));refine A1 (BO 3 cy V λam=>?_);cases cw;exact CT V V (Bm func51 V (vs:=[.agg #[iV Y.1,iV aj,iV ag.1]]) ⟨⟨_,V,DQ Dl Bc (G6 1 am V V)⟩,trivial⟩) (FA 1 am V λc0=>av ((((a3.Ae a8).Ae ac).Ae bw).Ae b6) V ⟨ca,cc,V,V,ce⟩ c0)
end Pal
namespace Pal
open Go Go.Conc
variable {P:Program}{J:Judge P}{Q:Gs_}{b:Frame}{n:Nat}{ds:Ld_}{ops:Ao_}{cs:Lf_}{fuel:Nat}{D:Nat->Bool}{listed:Array Bool}{L:Env}{s:St}{E' H:LH}{S:List Seg}
variable {d:Option Tmp}{t u ty e:TypeId}{p:String}{af:Ae_}{g:On_}{v:Value}{i:Nat}{kd:IntKind}
section
variable {k:Li_}{m:Nat}{E:LH}
variable {x y:Operand}
theorem Take.X7{f:FuncId}{args:Array Operand}{ats:Array TypeId}{vs:Lv_}{seg:Seg}{R:Value->LH->Seg->Prop}(j:Nat)(K:Aw E H S)(aj:A2 J f vs E seg R)
  (al:ops[i]?=some ⟨d,.call ⟨.value (.func f),args,ats⟩,ty,p,af,g⟩) (hw:A9 L ops ⟨d,.call ⟨.value (.func f),args,ats⟩,ty,p,af,g⟩=some true) (am:BC n d=true) (hb:ET P f=true) (ap:evs L args.toList=some vs) (O:S[j]?=some seg)
  (aq:∀v E' seg',Le E E'->R v E' seg'->Aw E' H (S.set j seg')->AU J Q b n ds ops k cs m En fuel (Bp listed i) (AG L d v) (Ao E' H (S.set j seg'))):
  Take J Q b n ds ops k cs m En fuel listed L (Ao E H S) i:=by
 have U:S.flatten.Perm (seg++(S.set j []).flatten):=(CB (seg':=seg) O).1.trans lF;have Y:Nd E H (seg++(S.set j []).flatten):=Cj K U;have av:Ao E H S=mk E (Bu (S.set j []).flatten H) seg:=by
  rw[show Ao E H S=mk E H S.flatten from rfl,Gk K U];unfold mk;rw[G8]
 have Z:=Id (aj (Bu (S.set j []).flatten H) (Ef Y)) (by rintro v s' ⟨E',B',_,_,_,rfl⟩;rfl);rw[← av] at Z;refine⟨_,al,by simp[EP],am,hw,λρ ac=>?_⟩;have aw:args.map ρ=vs.toArray:=by
  rw[← HP ac ap];apply ut;simp
 have ay:ρ (.func f)=.func (.func f) #[] #[]:=ac _ _ V;simp only[execOp,resolve,bind,Sem.bind,Deferred.ofValue,ay,pure,invoke];have e: #[]++args.map ρ++ #[]=vs.toArray:=by rw[aw];simp
 rw[e];refine KP hb ?_;rw[Nc];refine⟨_,Z,?_⟩;rintro v a8 ⟨⟨E',B',hle,az,a0,rfl⟩,w,a1⟩;have e2:mk E' (Bu (S.set j []).flatten H) B'=mk E' H (B'++(S.set j []).flatten):=by unfold mk;rw[G8]
 have a2:Nd E H (S.set j []).flatten:=by
  have:=Y;rw[Ea] at this ⊢;rw[tE,tU] at this;exact⟨this.1.2.1,λq a3=>this.2 q (tG _ a3)⟩
 have a4:Nd E' H (S.set j []).flatten:=a2.grow λx I=>by
  have a5:=a1.d x I;have a6:Bu B' (Bu (S.set j []).flatten H) x=none:=a5;exact(IW a6).1
 have ag:Nd E' H (B'++(S.set j []).flatten):=EQ a0 a4;have ai:(B'++(S.set j []).flatten).Perm (S.set j B').flatten:=lF.trans (CB O).2.symm;have a7:Aw E' H (S.set j B'):=Cj ag ai;rw[e2,Gk ag ai];exact⟨V,λx o I=>hle _ _ I,aq v E' B' hle az a7⟩
end
open Go.Proofs Go.Proofs.Tryz
variable {J:Judge Tryz.prog}{E:LH}
def Rn(fu_:Nat)(U:Bool×(Dh))(I:(List Int)×Int×Nat×(List Int)×Int):Option (Bn ((List Int)×Int×Nat×(List Int)×Int) ((List Int)×Dh)):=if 0<I.2.2.2.2 then(Option.bind (if U.1=true then((room I.2.2.2.1 1).bind λY=>some (Y,I.1,I.2.1,I.2.2.1)) else((f81 fu_ (I.1,I.2.1,I.2.2.1) ([1,1,2,2,3,5]:List Int)).bind λK=>(room I.2.2.2.1 K.1).bind λZ=>some (Z,K.2.1,K.2.2.1,K.2.2.2))) λO=>(Ax (I.2.2.2.2 - 1)).bind λac=>some (.more (O.2.1,O.2.2.1,O.2.2.2,O.1,ac))) else(some (.done (I.2.2.2.1,I.1,I.2.1,I.2.2.1)))
def Ra(fu_:Nat)(U:Int×(Dh))(Y:Bool×(Dh))(I:A6×(List Int)×Int×Nat×Int):Option (Bn (A6×(List Int)×Int×Nat×Int) ((List Int)×Int×Nat×A6)):=if I.2.2.2.2<U.1 then((f36 fu_ (I.2.1,I.2.2.1,I.2.2.2.1) 3).bind λK=>Option.bind (iter (Rn fu_ Y) fu_ (K.2.1,K.2.2.1,K.2.2.2,[],K.1)) λO=>(room I.1 O.1).bind λZ=>(Ax (I.2.2.2.2+1)).bind λac=>some (.more (Z,O.2.1,O.2.2.1,O.2.2.2,ac))) else(some (.done (I.2.1,I.2.2.1,I.2.2.2.1,I.1)))
def Q0(fu_:Nat)(O:Int×(Dh))(I:AK×(List Int)×Int×Nat×Int):Option (Bn (AK×(List Int)×Int×Nat×Int) ((List Int)×Int×Nat×AK)):=if 0<I.2.2.2.2 then((f40 fu_ (I.2.1,I.2.2.1,I.2.2.2.1) O.1).bind λK=>(CK I.1 ([K.1]:AK)).bind λU=>(Ax (I.2.2.2.2 - 1)).bind λY=>some (.more (U,K.2.1,K.2.2.1,K.2.2.2,Y))) else(some (.done (I.2.1,I.2.2.1,I.2.2.2.1,I.1)))
def f31(fu_:Nat)(p0:Dh)(p1:Int)(p2:Int):Option (Bf×(Dh)):=(f37 fu_ p0 2 p1).bind λY=>(f32 fu_ Y.2 3).bind λI=>Option.bind (iter (Ra fu_ Y I) fu_ ([],I.2.1,I.2.2.1,I.2.2.2,0)) λK=>(f36 fu_ (K.1,K.2.1,K.2.2.1) p2).bind λO=>Option.bind (iter (Q0 fu_ Y) fu_ ([],O.2.1,O.2.2.1,O.2.2.2,O.1)) λU=>some ((K.2.2.2,U.2.2.2),(U.1,U.2.1,U.2.2.1))
variable{bk c2 fu_:Nat}{a1:Av}
theorem lN{p0:Dh}{p1 p2:Int}(g3:Aq rI E a1 c2 p0.1){r:Bf×(Dh)}(ex:f31 fu_ p0 p1 p2=some r):A2 J 26 [AA bk 0,iV p1,iV p2] E [(bk,.cells #[sV a1 p0.1 c2,iV p0.2.1,.int .u64 ((p0.2.2:Nat):Int)] 58 (0,0))] (λw E' B'=>∃(ey:Av) (eA:Nat) (eC:Av) (eN:Nat) (e0:Av) (e1:Nat),w=.agg #[sV ey r.1.1 eA,sV eC r.1.2 eN]/\B'=[(bk,.cells #[sV e0 r.2.1 e1,iV r.2.2.1,.int .u64 ((r.2.2.2:Nat):Int)] 58 (0,0))]/\Aq (rL rI) E' ey eA r.1.1/\Aq AI E' eC eN r.1.2/\Aq rI E' e0 e1 r.2.1):=by
 refine Bq func26 λQ oV cs H g4 g5=>?_;unfold f31 at ex;refine C 2 V (Cq g4 H4 λK g6=>?_);refine C 3 V (Cq g6 H4 λO g7=>?_);refine Ai ex λay g8 ha=>C 5 V (CO 0 (UA g3 g8) V V Sn g7 V ?_);rintro _ oW _ hb ⟨oX,oY,rfl,rfl,hc⟩ he;refine B2 V he λhf=>Ai ha λa9 hk hl=>C 5 V (CO 0 (Y4 hc hk) V V (A8 func28 V) hf V ?_);rintro _ c0 _ hm ⟨hn,ho,rfl,rfl,hp⟩ hq;let⟨Y,hr,hu⟩:=bs hl;refine C 7 V (Bs (λL s=>∃(bb:LH) (c3:Av) (c4:Nat) (ai:Av) (aj:Nat) (a2:Seg),Jn c0 H bb [bX bk #[sV c3 Y.1 c4,iV Y.2.1,.int .u64 ((Y.2.2.1:Nat):Int)] 58,bX K #[nS,nS] 25,bX O #[sV ai Y.2.2.2 aj,nS] 25,a2] [(0,AA bk 0),(2,iV p2),(6,AA K 0),(7,AA O 0),(8,iV ay.1)] L s (Aq rI bb c3 c4 Y.1/\OL 28 (rL rI) bb ai aj a2 Y.2.2.2)) ?_ ?_);rintro _ _ ⟨bb,c3,c4,ai,aj,a2,rfl,rfl,hv,hw,hx,hy⟩;refine Ai hu λoZ hz hA=>C 5 V (CO 0 (NJ hx hz) V V M7 hw V ?_);rintro _ c5 _ e3 ⟨hB,hC,rfl,rfl,hD⟩ hE;let⟨al,hF,hG⟩:=bs hA;refine C 2 V (Bs (λL s=>∃(be:LH) (bg:Av) (bi:Nat) (az:Av) (a0:Nat) (c6:Seg),Jn c5 H be [bX bk #[sV bg al.1 bi,iV al.2.1,.int .u64 ((al.2.2.1:Nat):Int)] 58,bX K #[nS,nS] 25,bX O #[sV ai Y.2.2.2 aj,sV az al.2.2.2 a0] 25,a2,c6] [(6,AA K 0),(7,AA O 0)] L s (Aq rI be bg bi al.1/\OL 27 AI be az a0 c6 al.2.2.2)) ?_ ?_);rintro _ _ ⟨be,bg,bi,az,a0,c6,rfl,rfl,e4,e5,hH,hI⟩;refine C 2 V (As V (λ_ h=>I1 (vs:=[sV ai Y.2.2.2 aj,sV az al.2.2.2 a0]) C8 B8 (h _ _ V) (G6 2 e5 V V)) (BX 1 e5 B8 λhJ=>?_));refine B2 V hJ λhK=>A1 (Cl 3 (hy.Aj (e3.Ae e4)) hK V λo0 c7 hL hM=>Cl 4 (hI.Aj c7) hM V λo3 c8 hN hO=>BO 2 hO V λe6=>?_);cases hG;exact CT V V (Bm func26 V (vs:=[.agg #[sV ai Y.2.2.2 aj,sV az al.2.2.2 a0]]) ⟨⟨_,V,DQ C8 B8 (G6 1 e6 V V)⟩,trivial⟩) (FA 1 e6 V λhP=>g5 ((((((hb.Ae hm).Ae hv).Ae e3).Ae e4).Ae c7).Ae c8) V ⟨ai,aj,az,a0,bg,bi,V,V,(hL.Aj c8),hN,(hH.Aj (c7.Ae c8))⟩ hP);intro hQ;refine Ay (Cm hF (λL s am=>∃(a3:LH) (bn:Av) (bo:Nat) (bv:Seg) (bw:Av) (bx:Nat),Jn c5 H a3 [bX bk #[sV bw am.2.1 bx,iV am.2.2.1,.int .u64 ((am.2.2.2.1:Nat):Int)] 58,bX K #[nS,nS] 25,bX O #[sV ai Y.2.2.2 aj,sV bn am.1 bo] 25,a2,bv] [(0,AA bk 0),(6,AA K 0),(7,AA O 0),(8,iV ay.1),(13,iV am.2.2.2.2)] L s (OL 27 AI a3 bn bo bv am.1/\Aq rI a3 bw bx am.2.1)) ⟨c5,none,0,[],hB,hC,V,V,AL,hE,Cv,hD⟩ ?_);rintro _ _ am ⟨a3,bn,bo,bv,bw,bx,rfl,rfl,bz,b0,b1,c9⟩ hR ⟨o4,a4⟩ dd;have e7:=a4;unfold Q0 at e7;refine C 6 V (AW e7 (λhS hT=>?_) (λhS hU=>?_));refine C 3 V (Eu 6 λht=>?_);refine Cz 0 ht A0 Ej V V V V (AY ht V [2,3] V (Ai hT λI e8 dj=>FB (i:=1) (j:=4) V AC ?_ ?_));refine B6 V V V (λ_ h=>Az Fe (h _ _ V) (Cc (j:=2) b0 V V)) (BF (i:=4) V AC (Take.X7 0 b0 (Ze c9 e8) V V V (A8 func51 V) V V ?_));rintro _ o5 _ ff ⟨hV,hW,rfl,rfl,hX⟩ hY;refine BF (i:=5) V AC (Bi (pp:=AI) [.agg #[iV I.1.1,iV I.1.2.1,iV I.1.2.2]] ([I.1]:AK) hY V V V Am Bc BU AD V V V ⟨⟨_,_,V,V,⟨_,_,V,V,V⟩⟩,trivial⟩ λo6 o7 h0 h1=>CJ [6,7,8] (B2 V h1 λh2=>Cl 5 h0 h2 V λh3 ea h4 h5=>Ai dj λh6 h7 h8=>HB 4 h7 V V V V V V V Am Am Bc (B3 DH) BU V AD AD (b1.Aj (ff.Ae ea)) h4 h5 V λh9 ia ih ii io=>Cf A0 Ej V V V (BX 2 io Ej λit=>?_)));refine B2 V it λi0=>Ai h8 λi1 i3 i4=>C 4 V (B9 i3 V V V (C 2 V ?_));cases i4;exact AF (dd _ _ (h6,I.2.1,I.2.2.1,I.2.2.2,i1) ⟨h3,h9,ia,ih,hV,hW,V,V,((bz.Ae ff).Ae ea),i0,ii,(hX.Aj ea)⟩ a4) V;refine Take.X7 0 b0 (Ze c9 e8) V V V (A8 func51 V) V V ?_;rintro _ o8 _ b2 ⟨fk,fl,rfl,rfl,fm⟩ eb;refine FB (i:=1) (j:=5) V AC ?_ ?_;refine B6 V V V (λ_ h=>Az Fe (h _ _ V) (Cc (j:=2) eb V V)) (BF (i:=5) V AC (Bi (pp:=AI) [.agg #[iV I.1.1,iV I.1.2.1,iV I.1.2.2]] ([I.1]:AK) eb V V V Am Bc BU AD V V V ⟨⟨_,_,V,V,⟨_,_,V,V,V⟩⟩,trivial⟩ λo9 pa i5 i6=>CJ [6,7,8] (B2 V i6 λi7=>Cl 5 i5 i7 V λi8 ec i9 jg=>Ai dj λji jj jr=>HB 4 jj V V V V V V V Am Am Bc (B3 DH) BU V AD AD (b1.Aj (b2.Ae ec)) i9 jg V λjt jy kb kc ke=>Cf A0 Ej V V V (BX 2 ke Ej λkf=>?_))));refine B2 V kf λki=>Ai jr λkn ko kp=>C 4 V (B9 ko V V V (C 2 V ?_));cases kp;exact AF (dd _ _ (ji,I.2.1,I.2.2.1,I.2.2.2,kn) ⟨i8,jt,jy,kb,fk,fl,V,V,((bz.Ae b2).Ae ec),ki,kc,(fm.Aj ec)⟩ a4) V;refine Bi (pp:=AI) [.agg #[iV I.1.1,iV I.1.2.1,iV I.1.2.2]] ([I.1]:AK) eb V V V Am Bc BU AD V V V ⟨⟨_,_,V,V,⟨_,_,V,V,V⟩⟩,trivial⟩ λpb pc ks fo=>BF (i:=1) V AC (B6 V V V (λ_ h=>Az Fe (h _ _ V) (Cc (j:=2) fo V V)) (CJ [6,7,8] (B2 V fo λkv=>Cl 5 ks kv V λk0 ed k1 k2=>Ai dj λk3 k4 k5=>HB 4 k4 V V V V V V V Am Am Bc (B3 DH) BU V AD AD (b1.Aj (b2.Ae ed)) k1 k2 V λk6 k7 la ld li=>Cf A0 Ej V V V (BX 2 li Ej λlm=>?_))));refine B2 V lm λlq=>Ai k5 λls lw ly=>C 4 V (B9 lw V V V (C 2 V ?_));cases ly;exact AF (dd _ _ (k3,I.2.1,I.2.2.1,I.2.2.2,ls) ⟨k0,k6,k7,la,fk,fl,V,V,((bz.Ae b2).Ae ed),lq,ld,(fm.Aj ed)⟩ a4) V;refine A3 V ?_;cases hU;obtain rfl:=hR _ a4;exact AF (hQ _ _ ⟨a3,bw,bx,bn,bo,bv,V,V,bz,b0,c9,b1⟩) V;intro l3;refine Ay (Cm hr (λL s U=>∃(a5:LH) (ap:Av) (aq:Nat) (av:Seg) (b3:Av) (b4:Nat),Jn c0 H a5 [bX bk #[sV b3 U.2.1 b4,iV U.2.2.1,.int .u64 ((U.2.2.2.1:Nat):Int)] 58,bX K #[nS,nS] 25,bX O #[sV ap U.1 aq,nS] 25,av] [(0,AA bk 0),(2,iV p2),(6,AA K 0),(7,AA O 0),(8,iV ay.1),(9,.bool a9.1),(10,iV U.2.2.2.2)] L s (OL 28 (rL rI) a5 ap aq av U.1/\Aq rI a5 b3 b4 U.2.1)) ⟨c0,none,0,[],hn,ho,V,V,AL,hq,Cv,hp⟩ ?_);rintro _ _ U ⟨a5,ap,aq,av,b3,b4,rfl,rfl,fs,fv,fw,fN⟩ l4 ⟨pd,ee⟩ l5;have gc:=ee;unfold Ra at gc;refine C 7 V (AW gc (λl6 ma=>?_) (λl6 mb=>?_));refine Ai ma λpe mp ms=>C 11 V (CO 0 (NJ fN mp) V V M7 fv V ?_);rintro _ ef _ ge ⟨mv,m0,rfl,rfl,m1⟩ m2;let⟨ac,m3,m5⟩:=bs ms;refine C 2 V (Bs (λL s=>∃(b5:LH) (eg:Av) (ej:Nat) (ek:Seg) (b6:Av) (ca:Nat),Jn ef H b5 [bX bk #[sV b6 ac.2.1 ca,iV ac.2.2.1,.int .u64 ((ac.2.2.2:Nat):Int)] 58,bX K #[nS,nS] 25,bX O #[sV ap U.1 aq,nS] 25,av,ek] [(0,AA bk 0),(2,iV p2),(6,AA K 0),(7,AA O 0),(8,iV ay.1),(9,.bool a9.1),(10,iV U.2.2.2.2),(11,sV eg ac.1 ej)] L s (OL 3 rI b5 eg ej ek ac.1/\Aq rI b5 b6 ca ac.2.1)) ?_ ?_);rintro _ _ ⟨b5,eg,ej,ek,b6,ca,rfl,rfl,gg,gh,nc,nl⟩;refine CA (Cf A0 Eo V V V (As V (λ_ h=>Az EJ (h _ _ V) (Cc (j:=2) gh V V)) (C 1 V (Cl 4 nc gh V λnr el nx ny=>B2 V ny λnE=>Ai m5 λnH nM nN=>D9 3 nM V V V V (λ_=>V) V (λ_=>V) V V V Ar Ar Ar CU (B3 D6) Kh V AD AD AD AD (fw.Aj ((ge.Ae gg).Ae el)) ⟨_,_,V,nx⟩ nE V λpf nO nP nQ nR nT=>Cf A0 Eo V V V (BX 2 nT Eo λnU=>?_)))));obtain⟨nV,nW,nX⟩:=bs nN;refine C 4 V (Br nW V V V (C 2 V ?_));cases nX;exact AF (l5 _ _ (nH,ac.2.1,ac.2.2.1,ac.2.2.2,nV) ⟨nr,nO,nP,nQ,b6,ca,V,V,(((fs.Ae ge).Ae gg).Ae el),nU,nR,(nl.Aj el)⟩ ee) V;intro nY;refine Ay (Cm m3 (λL s ag=>∃(aw:LH) (a6:Av) (a7:Nat) (cc:Av) (ce:Nat) (ci:Seg),Jn ef H aw [bX bk #[sV a6 ag.1 a7,iV ag.2.1,.int .u64 ((ag.2.2.1:Nat):Int)] 58,bX K #[nS,nS] 25,bX O #[sV ap U.1 aq,nS] 25,av,ci] [(0,AA bk 0),(2,iV p2),(6,AA K 0),(7,AA O 0),(8,iV ay.1),(9,.bool a9.1),(10,iV U.2.2.2.2),(11,sV cc ag.2.2.2.1 ce),(12,iV ag.2.2.2.2)] L s (Aq rI aw a6 a7 ag.1/\OL 3 rI aw cc ce ci ag.2.2.2.1)) ⟨ef,mv,m0,none,0,[],V,V,AL,m2,m1,Cv⟩ ?_);rintro _ _ ag ⟨aw,a6,a7,cc,ce,ci,rfl,rfl,gt,em,eo,er⟩ nZ ⟨pg,eu⟩ n0;have gB:=eu;unfold Rn at gB;refine C 6 V (AW gB (λn3 n4=>?_) (λn3 n6=>?_));let⟨Z,n7,n8⟩:=bs n4;refine C 7 V (Bs (λL s=>∃(a8:LH) (co:Av) (cp:Nat) (ct:Seg) (cw:Av) (cy:Nat),Jn aw H a8 [bX bk #[sV cw Z.2.1 cy,iV Z.2.2.1,.int .u64 ((Z.2.2.2:Nat):Int)] 58,bX K #[nS,nS] 25,bX O #[sV ap U.1 aq,nS] 25,av,ct] [(0,AA bk 0),(2,iV p2),(6,AA K 0),(7,AA O 0),(8,iV ay.1),(9,.bool a9.1),(10,iV U.2.2.2.2),(11,sV co Z.1 cp),(12,iV ag.2.2.2.2)] L s (OL 3 rI a8 co cp ct Z.1/\Aq rI a8 cw cy Z.2.1)) ?_ ?_);rintro _ _ ⟨a8,co,cp,ct,cw,cy,rfl,rfl,n9,oa,ob,oc⟩;refine Ai n8 λod oe og=>C 3 V (B9 oe V V V (C 2 V ?_));cases og;exact AF (n0 _ _ (Z.2.1,Z.2.2.1,Z.2.2.2,Z.1,od) ⟨a8,cw,cy,co,cp,ct,V,V,(gt.Ae n9),oa,oc,ob⟩ eu) V;intro gE;refine Co n7 (λoh om=>?_) (λoh oo=>?_);refine Ai om λpi oq ot=>C 2 V (D9 4 oq V V V V (λ_=>V) V (λ_=>V) V V V Ak Ak Ak AE (B3 A5) Ca V AD AD AD AD er V em V λpj ou ov ow ox oy=>B2 V oy λoz=>C 2 V ?_);cases ot;exact AF (gE _ _ ⟨aw,ou,ov,ow,a6,a7,V,V,AL,oz,ox,eo⟩) V;refine C 3 V (Gz (pp:=rI) [iV 1,iV 1,iV 2,iV 2,iV 3,iV 5] [1,1,2,2,3,5] V V V Ak AE Ca AD V V V Ad em λpn po oA oB=>B2 V oB λoD=>Cl 5 oA oD V λpq ew oE oF=>Ai oo λpr oG oH=>CO 0 (Y3 (eo.Aj ew) oE oG) V V (A8 func50 V) oF V ?_);rintro _ oI _ gO ⟨oJ,oK,rfl,rfl,oL⟩ oM;refine Ai oH λpt oN oO=>D9 4 oN V V V V (λ_=>V) V (λ_=>V) V V V Ak Ak Ak AE (B3 A5) Ca V AD AD AD AD (er.Aj (ew.Ae gO)) V oM V λpu oP oQ oR oS oT=>B2 V oT λoU=>C 2 V ?_;cases oO;exact AF (gE _ _ ⟨oI,oP,oQ,oR,oJ,oK,V,V,(ew.Ae gO),oU,oS,oL⟩) V;refine A3 V ?_;cases n6;obtain rfl:=nZ _ eu;exact AF (nY _ _ ⟨aw,cc,ce,ci,a6,a7,V,V,gt,em,er,eo⟩) V;refine A3 V ?_;cases mb;obtain rfl:=l4 _ ee;exact AF (l3 _ _ ⟨a5,b3,b4,ap,aq,av,V,V,fs,fv,fN,fw⟩) V
variable {J:Judge Tryz.prog}{E:LH}
def f38(fu_:Nat)(p0:Bf)(p1:Int×Int×Int):Option (Bf):=(CK ([]:AK) p0.2).bind λI=>(CK I ([p1]:AK)).bind λK=>some (p0.1,K)
variable{p0:Bf}{p1:Int×Int×Int}
theorem m9{I:Av}{K:Nat}(ea:Aq (rL rI) E a1 c2 p0.1)(ac:Aq AI E I K p0.2){r:Bf}(bi:f38 fu_ p0 p1=some r):A2 J 27 [.agg #[sV a1 p0.1 c2,sV I p0.2 K],.agg #[iV p1.1,iV p1.2.1,iV p1.2.2]] E [] (λw E' B'=>∃(bn:Av) (bo:Nat) (bv:Av) (bw:Nat),w=.agg #[sV bn r.1 bo,sV bv r.2 bw]/\B'=[]/\Aq (rL rI) E' bn bo r.1/\Aq AI E' bv bw r.2):=by
 refine Bq func27 λQ hR cs H eb ec=>?_;unfold f38 at bi;refine C 2 V (JS.box V V V eb V λO ed=>Cx ed λhS Z U ee ef=>?_);refine Cq ef H4 λY eg=>?_;refine B2 V eg λal=>C 2 V (Eu 6 λht=>?_);refine Cz 1 ht A0 Ej V V V V (GA 4 ht ee Dl Bc V V V ?_);let⟨bx,ag,ej⟩:=bs bi;refine FK 3 (tR_ 6 3) (λL s=>∃(am:LH) (aq:Av) (av:Nat) (bz:Seg) (aw:Seg) (ay:Nat) (az:Seg),Jn Z H am [[],bX O #[sV a1 p0.1 c2,sV I p0.2 K] 25,[],bX Y #[nS,nS] 25,(bz++aw),az] [(2,AA O 0),(4,AA Y 0),(8,sV aq bx av),(10,.slice (Bd ay) (([p1]:AK)).length 1)] L s (OL 27 AI am aq av aw bx/\OL 27 AI am (Bd ay) 1 az ([p1]:AK))) ?_ ?_;rintro _ _ ⟨am,aq,av,bz,aw,ay,az,rfl,rfl,b0,ek,el,em⟩;refine CJ [6,7,8] (Ha 4 V ek λeo=>BO 4 eo V λer=>B2 V er λeu=>Cl 5 em eu V λhT a0 ew ex=>Ai ej λb1 ey eA=>HB 6 ey V V V V V V V Am Am Bc (B3 DH) BU V AD AD (el.Aj a0) ew ex V λa2 a3 hU eC eN=>Cf A0 Ej V V V (BX 1 eN Ej λe0=>?_));refine B2 V e0 λb2=>C 3 V (As V (λ_ h=>I1 (vs:=[sV a1 p0.1 c2,sV a2 b1 a3]) C8 B8 (h _ _ V) (G6 1 b2 V V)) (BX 3 b2 B8 λe1=>?_));refine A1 (Cl 6 eC e1 V λhV b3 e3 e4=>BO 1 e4 V λb4=>?_);cases eA;exact CT V V (Bm func27 V (vs:=[.agg #[sV a1 p0.1 c2,sV a2 b1 a3]]) ⟨⟨_,V,DQ C8 B8 (G6 3 b4 V V)⟩,trivial⟩) (FA 3 b4 V λe5=>ec (((U.Ae b0).Ae a0).Ae b3) V ⟨a1,c2,a2,a3,V,V,(ea.Aj (((U.Ae b0).Ae a0).Ae b3)),e3⟩ e5);intro ai;refine Nj (i:=0) (j:=2) (l:=5) V AC ?_ ?_ ?_;refine EB (pp:=AI) al V V V Am Bc λhW hX a4 ap=>FB (i:=2) (j:=5) V AC ?_ ?_;refine B6 V V V (λ_ h=>Az Fe (h _ _ V) (Cc (j:=1) ap V V)) (FB (i:=3) (j:=5) V AC ?_ ?_);exact C1 4 ap ag V V V V V V V Am Am Bc (B3 DH) BU V AD AD a4 (ac.Aj U) V λe6 e7 b5 b6 e8 ff=>BF (i:=5) V AC (Bi (pp:=AI) [.agg #[iV p1.1,iV p1.2.1,iV p1.2.2]] ([p1]:AK) ff V V V Am Bc BU AD V V V ⟨⟨_,_,V,V,⟨_,_,V,V,V⟩⟩,trivial⟩ λfk ca fl fm=>Lr V (((tM (α:=Seg) (l₁:=[[(O,.cells #[sV a1 p0.1 c2,sV I p0.2 K] 25 (0,0))]]) (a:=[]) (l₂:=[[(Y,.cells #[nS,nS] 25 (0,0))],(b5++b6),ca])).trans ((tu _).cons _)).cons _) fm λfo=>Dg (ai _ _ ⟨Z,e6,e7,b5,b6,fk,ca,V,V,AL,fo,e8,fl⟩) V);exact Bi (pp:=AI) [.agg #[iV p1.1,iV p1.2.1,iV p1.2.2]] ([p1]:AK) ap V V V Am Bc BU AD V V V ⟨⟨_,_,V,V,⟨_,_,V,V,V⟩⟩,trivial⟩ λfs cc fv fw=>BF (i:=3) V AC (C1 4 fw ag V V V V V V V Am Am Bc (B3 DH) BU V AD AD a4 (ac.Aj U) V λfN gc ce ci ge gg=>Lr V (((tM (α:=Seg) (l₁:=[[(O,.cells #[sV a1 p0.1 c2,sV I p0.2 K] 25 (0,0))]]) (a:=[]) (l₂:=[[(Y,.cells #[nS,nS] 25 (0,0))],(ce++ci),cc])).trans ((tu _).cons _)).cons _) gg λgh=>Dg (ai _ _ ⟨Z,fN,gc,ce,ci,fs,cc,V,V,AL,gh,ge,fv⟩) V);exact Bi (pp:=AI) [.agg #[iV p1.1,iV p1.2.1,iV p1.2.2]] ([p1]:AK) ap V V V Am Bc BU AD V V V ⟨⟨_,_,V,V,⟨_,_,V,V,V⟩⟩,trivial⟩ λgt co gB cp=>BF (i:=2) V AC (B6 V V V (λ_ h=>Az Fe (h _ _ V) (Cc (j:=1) cp V V)) (BF (i:=3) V AC (C1 4 cp ag V V V V V V V Am Am Bc (B3 DH) BU V AD AD a4 (ac.Aj U) V λgE gO ct cw g3 g4=>Lr V (((tM (α:=Seg) (l₁:=[[(O,.cells #[sV a1 p0.1 c2,sV I p0.2 K] 25 (0,0))]]) (a:=[]) (l₂:=[[(Y,.cells #[nS,nS] 25 (0,0))],(ct++cw),co])).trans ((tu _).cons _)).cons _) g4 λg5=>Dg (ai _ _ ⟨Z,gE,gO,ct,cw,gt,co,V,V,AL,g5,g3,gB⟩) V)));refine B6 V V V (λ_ h=>Az Fe (h _ _ V) (Cc (j:=1) al V V)) (FB (i:=0) (j:=5) V AC ?_ ?_);refine EB (pp:=AI) al V V V Am Bc λhY h0 cy c0=>FB (i:=3) (j:=5) V AC ?_ ?_;exact C1 4 c0 ag V V V V V V V Am Am Bc (B3 DH) BU V AD AD cy (ac.Aj U) V λg6 g7 c3 c4 g8 ha=>BF (i:=5) V AC (Bi (pp:=AI) [.agg #[iV p1.1,iV p1.2.1,iV p1.2.2]] ([p1]:AK) ha V V V Am Bc BU AD V V V ⟨⟨_,_,V,V,⟨_,_,V,V,V⟩⟩,trivial⟩ λhb c5 hc he=>Lr V (((tM (α:=Seg) (l₁:=[[(O,.cells #[sV a1 p0.1 c2,sV I p0.2 K] 25 (0,0))]]) (a:=[]) (l₂:=[[(Y,.cells #[nS,nS] 25 (0,0))],(c3++c4),c5])).trans ((tu _).cons _)).cons _) he λhf=>Dg (ai _ _ ⟨Z,g6,g7,c3,c4,hb,c5,V,V,AL,hf,g8,hc⟩) V);exact Bi (pp:=AI) [.agg #[iV p1.1,iV p1.2.1,iV p1.2.2]] ([p1]:AK) c0 V V V Am Bc BU AD V V V ⟨⟨_,_,V,V,⟨_,_,V,V,V⟩⟩,trivial⟩ λhk c6 hl hm=>BF (i:=3) V AC (C1 4 hm ag V V V V V V V Am Am Bc (B3 DH) BU V AD AD cy (ac.Aj U) V λhn ho c7 c8 hp hq=>Lr V (((tM (α:=Seg) (l₁:=[[(O,.cells #[sV a1 p0.1 c2,sV I p0.2 K] 25 (0,0))]]) (a:=[]) (l₂:=[[(Y,.cells #[nS,nS] 25 (0,0))],(c7++c8),c6])).trans ((tu _).cons _)).cons _) hq λhr=>Dg (ai _ _ ⟨Z,hn,ho,c7,c8,hk,c6,V,V,AL,hr,hp,hl⟩) V);exact Bi (pp:=AI) [.agg #[iV p1.1,iV p1.2.1,iV p1.2.2]] ([p1]:AK) al V V V Am Bc BU AD V V V ⟨⟨_,_,V,V,⟨_,_,V,V,V⟩⟩,trivial⟩ λhu a5 hv hw=>BF (i:=0) V AC (EB (pp:=AI) hw V V V Am Bc λh1 h2 hx hy=>BF (i:=3) V AC (C1 5 hy ag V V V V V V V Am Am Bc (B3 DH) BU V AD AD hx (ac.Aj U) V λhz hA a6 a7 hB hC=>Lr V (((tM (l₁:=[[(O,.cells #[sV a1 p0.1 c2,sV I p0.2 K] 25 (0,0))]]) (l₂:=[[(Y,.cells #[nS,nS] 25 (0,0))],a5,(a6++a7)])).trans (((((tM (α:=Seg) (l₁:=[a5]) (a:=(a6++a7)) (l₂:=[])).trans ((tu _).cons _)).cons _).cons _).cons _)).cons _) hC λhD=>Dg (ai _ _ ⟨Z,hz,hA,a6,a7,hu,a5,V,V,AL,hD,hB,hv⟩) V));refine Bi (pp:=AI) [.agg #[iV p1.1,iV p1.2.1,iV p1.2.2]] ([p1]:AK) al V V V Am Bc BU AD V V V ⟨⟨_,_,V,V,⟨_,_,V,V,V⟩⟩,trivial⟩ λc9 aj dd a8=>FB (i:=0) (j:=2) V AC ?_ ?_;exact EB (pp:=AI) a8 V V V Am Bc λh3 h4 hE dj=>BF (i:=2) V AC (B6 V V V (λ_ h=>Az Fe (h _ _ V) (Cc (j:=1) dj V V)) (BF (i:=3) V AC (C1 5 dj ag V V V V V V V Am Am Bc (B3 DH) BU V AD AD hE (ac.Aj U) V λhF hG a9 bb hH hI=>Lr V (((tM (l₁:=[[(O,.cells #[sV a1 p0.1 c2,sV I p0.2 K] 25 (0,0))]]) (l₂:=[[(Y,.cells #[nS,nS] 25 (0,0))],aj,(a9++bb)])).trans (((((tM (α:=Seg) (l₁:=[aj]) (a:=(a9++bb)) (l₂:=[])).trans ((tu _).cons _)).cons _).cons _).cons _)).cons _) hI λhJ=>Dg (ai _ _ ⟨Z,hF,hG,a9,bb,c9,aj,V,V,AL,hJ,hH,dd⟩) V)));exact B6 V V V (λ_ h=>Az Fe (h _ _ V) (Cc (j:=1) a8 V V)) (BF (i:=0) V AC (EB (pp:=AI) a8 V V V Am Bc λh5 h6 hK hL=>BF (i:=3) V AC (C1 5 hL ag V V V V V V V Am Am Bc (B3 DH) BU V AD AD hK (ac.Aj U) V λhM hN be bg hO hP=>Lr V (((tM (l₁:=[[(O,.cells #[sV a1 p0.1 c2,sV I p0.2 K] 25 (0,0))]]) (l₂:=[[(Y,.cells #[nS,nS] 25 (0,0))],aj,(be++bg)])).trans (((((tM (α:=Seg) (l₁:=[aj]) (a:=(be++bg)) (l₂:=[])).trans ((tu _).cons _)).cons _).cons _).cons _)).cons _) hP λhQ=>Dg (ai _ _ ⟨Z,hM,hN,be,bg,c9,aj,V,V,AL,hQ,hO,dd⟩) V)))
variable {J:Judge Tryz.prog}{E:LH}
def f19(fu_:Nat)(p0:Bf)(p1:Int×Int×Int)(p2:Dh):Option ((List Bf)×(Dh)):=(f31 fu_ p2 5 6).bind λI=>(f38 fu_ I.1 p1).bind λK=>(f32 fu_ I.2 3).bind λO=>Option.bind (if O.1=true then((f68 fu_ p0.1).bind λU=>some U) else(some K.1)) λY=>some (([p0,I.1,(Y,K.2)]:List Bf),O.2)
abbrev DB:=@Go.Proofs.Tryz.underlying31
theorem nf{am:Av}{it:Nat}{a0:Av}{a2:Nat}{p2:Dh}(a3:Aq (rL rI) E a1 c2 p0.1)(b1:Aq AI E am it p0.2)(b2:Aq rI E a0 a2 p2.1){r:(List Bf)×(Dh)}(a4:f19 fu_ p0 p1 p2=some r):A2 J 6 [.agg #[sV a1 p0.1 c2,sV am p0.2 it],.agg #[iV p1.1,iV p1.2.1,iV p1.2.2],AA bk 0] E [(bk,.cells #[sV a0 p2.1 a2,iV p2.2.1,.int .u64 ((p2.2.2:Nat):Int)] 58 (0,0))] (λw E' B'=>∃(a5:Av) (a6:Nat) (a7:Av) (a8:Nat),w= sV a5 r.1 a6/\B'=[(bk,.cells #[sV a7 r.2.1 a8,iV r.2.2.1,.int .u64 ((r.2.2.2:Nat):Int)] 58 (0,0))]/\Aq (rP (rL (rL rI)) (rL AI)) E' a5 a6 r.1/\Aq rI E' a7 a8 r.2.1):=by
 refine Bq func6 λQ fm cs H b3 b4=>?_;unfold f19 at a4;refine C 2 V (Cx b3 λb5 fo ac a9 b6=>?_);refine Cx b6 λfs fv Y ca cc=>?_;refine Ai a4 λaq ce ci=>C 5 V (CO 0 (lN (b2.Aj (ac.Ae Y)) ce) V V (A8 func26 V) cc V ?_);rintro _ fw _ Z ⟨co,cp,ct,cw,fN,gc,rfl,rfl,bb,be,cy⟩ c0;refine B2 V c0 λc3=>Cq c3 H4 λc4 c5=>?_;refine BX 3 c5 B8 λc6=>?_;refine Ff 3 c6 V λge I bg c7=>C 3 V (Ch bg C8 B8 V V (Ch (ca.Aj (Z.Ae I)) Dl Bc V V (Ai ci λal c8 c9=>Cb (m9 (bb.Aj I) (be.Aj I) c8) V V (A8 func27 V) c7 ?_)));rintro _ gg _ O ⟨dd,dj,av,aw,rfl,rfl,ea,eb⟩ ec;refine B2 V ec λed=>Cq ed H4 λbi ee=>?_;refine BX 5 ee B8 λef=>?_;refine Ai c9 λay eg ej=>C 5 V (CO 0 (Y4 (cy.Aj (I.Ae O)) eg) V V (A8 func28 V) ef V ?_);rintro _ bn _ K ⟨bo,bv,rfl,rfl,ek⟩ el;refine B2 V el λbw=>?_;let⟨ag,em,eo⟩:=bs ej;refine A1 (Bs (λL s=>∃(az:LH) (ai:Av) (aj:Nat),Jn bn H az [bX bk #[sV bo ay.2.1 bv,iV ay.2.2.1,.int .u64 ((ay.2.2.2:Nat):Int)] 58,bX bi #[sV ai ag aj,sV av al.2 aw] 25] [(3,AA b5 0),(7,AA c4 0),(8,AA bi 0)] L s (Aq (rL rI) az ai aj ag)) ?_ ?_);rintro _ _ ⟨az,ai,aj,rfl,rfl,U,bx,er⟩;refine C 2 V (Ch (a9.Aj (((((Y.Ae Z).Ae I).Ae O).Ae K).Ae U)) C8 B8 V V (Ch (bg.Aj ((O.Ae K).Ae U)) C8 B8 V V (As V (λ_ h=>I1 (vs:=[sV ai ag aj,sV av al.2 aw]) C8 B8 (h _ _ V) (G6 1 bx V V)) (Gz (pp:=(rP (rL (rL rI)) (rL AI))) [.agg #[sV a1 p0.1 c2,sV am p0.2 it],.agg #[sV co aq.1.1 cp,sV ct aq.1.2 cw],.agg #[sV ai ag aj,sV av al.2 aw]] [p0,aq.1,(ag,al.2)] V V V DB B8 H4 AD V V V ⟨⟨_,_,V,⟨_,_,V,(a3.Aj ((((((ac.Ae Y).Ae Z).Ae I).Ae O).Ae K).Ae U))⟩,⟨_,_,V,(b1.Aj ((((((ac.Ae Y).Ae Z).Ae I).Ae O).Ae K).Ae U))⟩⟩,⟨_,_,V,⟨_,_,V,(bb.Aj (((I.Ae O).Ae K).Ae U))⟩,⟨_,_,V,(be.Aj (((I.Ae O).Ae K).Ae U))⟩⟩,⟨_,_,V,⟨_,_,V,er⟩,⟨_,_,V,(eb.Aj (K.Ae U))⟩⟩,trivial⟩ bx λeu gh ew ex=>C 2 V (Cl 2 ew ex V λgt bz ey eA=>BO 1 eA V λeC=>?_)))));cases eo;exact AX func6 V V (b4 (((((((ac.Ae Y).Ae Z).Ae I).Ae O).Ae K).Ae U).Ae bz) V ⟨(Bd eu),3,bo,bv,V,V,ey,(ek.Aj (U.Ae bz))⟩ eC);intro b0;refine Co em (λeN e0=>?_) (λeN e1=>?_);refine CA (BS 0 (a9.Aj ((((Y.Ae Z).Ae I).Ae O).Ae K)) A0 Eo EJ ?_);refine Ai e0 λgB e3 e4=>Cb (Y6 (a3.Aj (((((ac.Ae Y).Ae Z).Ae I).Ae O).Ae K)) e3) V V (A8 func29 V) bw ?_;rintro _ e5 _ e6 ⟨e7,e8,rfl,rfl,ff⟩ fk;refine Cf A0 Eo V V V (BX 5 fk Eo λfl=>?_);refine A1 ?_;cases e4;exact AF (b0 _ _ ⟨e5,e7,e8,V,V,e6,fl,ff⟩) V;refine Bl ?_;cases e1;exact AF (b0 _ _ ⟨bn,dd,dj,V,V,AL,bw,(ea.Aj K)⟩) V
end Pal
namespace Pal
def Au{α:Type}(o:Option α)(Q:α->Prop):Prop:=∃a,o=some a/\Q a
variable {α β:Type}{Q R:α->Prop}
theorem Ap{a:α}(h:Q a):Au (some a) Q:=⟨a,V,h⟩
theorem Au.Aj{o:Option α}(h:Au o R)(k:∀a,R a->Q a):Au o Q:=let ⟨a,I,K⟩:=h;⟨a,I,k a K⟩
theorem AJ{o:Option β}{f:β->Option α}{S:β->Prop}(h:Au o S)(k:∀b,S b->Au (f b) Q):Au (o.bind f) Q:=by
 obtain⟨b,rfl,hb⟩:=h;let⟨a,I,K⟩:=k b hb;exact⟨a,I,K⟩
theorem AR{o:Option β}{f:β->Option α}{b:β}(h:o=some b)(k:Au (f b) Q):Au (o.bind f) Q:=by subst h;exact k
theorem Au.nF{f:Int->Option α}{x:Int}(I: -9223372036854775808<=x)(K:x<=9223372036854775807)(k:Au (f x) Q):Au ((Ax x).bind f) Q:=AR (d9 ⟨I,K⟩) k
theorem F6{xs:List β}{i:Int}{m:Nat}{b:β}(h:i=(m:Int))(hb:xs[m]?=some b):ix xs i=some b:=by subst h;simpa [ix] using hb
theorem Bh{f:β->Option α}{xs:List β}{i:Int}{m:Nat}(h:i=(m:Int))(hm:m<xs.length)(k:Au (f xs[m]) Q):Au ((ix xs i).bind f) Q:=AR (F6 h (bZ hm)) k
theorem It{f:List β->Option α}{xs:List β}{x:β}(h:xs.length+1<=2^40)(k:Au (f (xs++ [x])) Q):Au ((room xs x).bind f) Q:=AR (d9 h) k
variable{c:Prop}
theorem Bw [Decidable c] {x y:Option α}(I:c->Au x Q)(K:¬c->Au y Q):Au (if c then x else y) Q:=by
 by_cases h:c;rw[d9 h];exact I h;rw[d0 h];exact K h
theorem BJ [Decidable c] {x y:Option α}(h:c)(k:Au x Q):Au (if c then x else y) Q:=by rw[d9 h];exact k
theorem BM [Decidable c] {x y:Option α}(h:¬c)(k:Au y Q):Au (if c then x else y) Q:=by rw[d0 h];exact k
def Bn.sat{S A:Type}(I:S->Prop)(Q:A->Prop):Bn S A->Prop
 | .more s=>I s
 | .done a=>Q a
variable{S:Type}
theorem Gc{body:S->Option (Bn S α)}(I:Nat->S->Prop)(round:∀m s,I m s->Au (body s) (Bn.sat (λs'=>∃m',m'<m/\I m' s') Q)):
  ∀{m fuel:Nat}{s:S},I m s->m<fuel->Au (iter body fuel s) Q:=by
 intro m
 induction m using Nat.strongRecOn with
 | _ m O=>
  intro fuel s U ag;obtain⟨fuel,rfl⟩:∃k,fuel=k+1:=⟨fuel - 1,AB⟩;let⟨st,Y,K⟩:=round m s U;unfold Pal.iter;rw[Y];cases st with
  | more s'=>
   obtain⟨m',Z,ac⟩:=K;exact O m' Z ac AB
  | done a=>exact⟨a,rfl,K⟩
variable{F:Nat}
theorem Cn{A:Type}{body:S->Option (Bn S A)}{Q:A->Prop}{K:S}(n:Nat)(I:Nat->S->Prop)(Y:I 0 K)(ac:n<F)
  (round:∀i s,i<n->I i s->Au (body s) (Bn.sat (I (i+1)) Q)) (last:∀s,I n s->Au (body s) (λst=>∃a,st=.done a/\Q a)):Au (Pal.iter body F K) Q:=by
 refine Gc (λm s=>∃i,i<=n/\m=n - i/\I i s) ?_ (m:=n - 0) ⟨0,tz _,V,Y⟩ AB;rintro m s ⟨i,hi,rfl,O⟩;rcases mt i n with Z | ag
 .refine(round i s Z O).Aj ?_;intro st U;cases st with
  | more s'=>exact⟨n - (i+1),AB,i+1,AB,rfl,U⟩
  | done a=>exact U
 .obtain rfl:i=n:=by omega
  refine(last s O).Aj ?_;rintro st ⟨a,rfl,h⟩;exact h
theorem CV{α:Type}{o:Option α}{a:α}(h:Au o (λx=>x=a)):o=some a:=by obtain⟨x,I,rfl⟩:=h;exact I
theorem Lx{α:Type}{Q:α->Prop}{f:Int->Option α}{x:Int}(y:Int)(h:x=y)(I: -9223372036854775808<=y)(K:y<=9223372036854775807)(k:Au (f y) Q):Au ((Ax x).bind f) Q:=by subst h;exact Au.nF I K k
theorem Au.E{α:Type}{Q:α->Prop}{f:Int->Option α}{x:Int}(y:Int)(h:x=y)(k:Au (f y) Q)(I: -9223372036854775808<=y:=by omega)(K:y<=9223372036854775807:=by omega):Au ((Ax x).bind f) Q:=Lx y h I K k
abbrev A4:=@Au.E
theorem Au.X{α β:Type}{Q:α->Prop}{f:β->Option α}{xs:List β}(m:Nat)(hm:m<xs.length:=by omega)(k:Au (f xs[m]) Q):Au ((ix xs (m:Int)).bind f) Q:=Bh V hm k
theorem Au.Js{α β:Type}{Q:α->Prop}{f:List β->Option α}{xs ys:List β}(h:xs.length+ys.length<1000)(k:Au (f (xs++ys)) Q):Au ((CK xs ys).bind f) Q:=AR (by unfold CK;rw[d9 AB]) k
abbrev FO:=@Au.Js
abbrev J4:=List Int×Int×Nat
def BG(k:Nat)(b:J4):Prop:=0<=b.2.1/\b.2.1<=(k:Int)
variable{b:J4}
theorem BG.Aj{k k':Nat}(h:BG k b)(I:k<=k'):BG k' b:=⟨h.1,by have:=h.2;omega⟩
theorem lh{k:Nat}(hb:BG k b)(I:k<1000000):Au (f83 F b) (λr=>r.1<2^64/\BG (k+1) r.2):=by
 obtain⟨K,O⟩:=hb;unfold f83;refine A4 (b.2.1+1) V ?_;have key:∀x:Nat,(x%2^64)>>>11<2^64:=λx=>uB (Nat.shiftRight_le _ _) (wn _ (wq 64));refine AJ (S:=λ_=>True) ?_ ?_;refine Bw (λh=>?_) (λh=>?_);exact A4 b.2.1 AB (Bh (m:=b.2.1.toNat) AB AB (Ap trivial));exact Ap trivial;intro x _;exact Ap ⟨key _,by simp only;omega,by simp only;omega⟩
theorem V1{a:Nat}(h:a<2^62):LV a=(a:Int):=by
 unfold LV;exact Lt AB
theorem Nw{k:Nat}{m:Int}(hb:BG k b)(I:k<1000000)(hm:m<1000000):Au (f36 F b m) (λr=>0<=r.1/\(r.1<=m∨r.1=0)/\BG (k+1) r.2):=by
 unfold f36;refine AJ (lh hb I) ?_;rintro⟨x,b'⟩ ⟨U,K⟩;refine Bw (λh=>?_) (λh=>?_);exact Ap ⟨AM,.inr V,K⟩
 .have O:EG m=m.toNat:=by unfold EG;omega
  have e2:(EG m+1)%2^64=m.toNat+1:=by rw[O];omega
  have Y:x%(m.toNat+1)<m.toNat+1:=wn _ AB
  grind [AR,Ap,V1,RI]
theorem Uo{k:Nat}{lo hi:Int}(hb:BG k b)(K:k<1000000)(O:0<=lo)(U:lo<=hi)(Y:hi<1000):Au (f37 F b lo hi) (λr=>lo<=r.1/\r.1<=hi/\BG (k+1) r.2):=by
 unfold f37;refine A4 (hi - lo) V (AJ (Nw hb K AB) ?_);rintro⟨x,b'⟩ ⟨g1,g2,I⟩;simp only at g1 g2 I ⊢;exact A4 (lo+x) V (Ap ⟨by simp only;omega,by simp only;omega,I⟩)
theorem YO{k:Nat}{m:Int}(hb:BG k b)(I:k<1000000)(K:1<=m)(O:m<1000):Au (f32 F b m) (λr=>BG (k+1) r.2):=by
 unfold f32;refine A4 (m - 1) V ?_
 grind [AJ,Ap,Nw]
variable{l:List Int}
theorem Yy{k:Nat}(hb:BG k b)(I:k<1000000)(O:0<l.length)(U:l.length<1000):Au (f81 F b l) (λr=>r.1∈l/\BG (k+1) r.2):=by
 unfold f81;refine A4 ((l.length - 1:Nat):Int) AB (AJ (Nw hb I AB) ?_);rintro⟨x,b'⟩ ⟨g1,g2,K⟩;simp only at g1 g2 K ⊢;have Y:x.toNat<l.length:=by omega
 grind [Bh,Ap]
abbrev DT:=Int×Int×Int
abbrev OW:=A6×List DT
structure NV (n:Nat) (o:OW):Prop where
 l1:o.1.length<=n
 n1:∀x∈o.1,x.length<=n
 l2:o.2.length<=n
variable{n:Nat}{o:OW}
theorem NV.up{m:Nat}(h:NV n o)(hm:n<=m):NV m o:=⟨s3 h.l1 hm,λx I=>s3 (h.n1 x I) hm,s3 h.l2 hm⟩
theorem YG{l:A6}(ac:100<F)(ag:l.length<=40)(O:∀x∈l,x.length<=40):f68 F l=some l:=by
 refine CV ?_;unfold f68;refine AR (b:=List.replicate l.length []) ?_ ?_;unfold GQ;rw[d9 AB];rfl
 refine AJ (S:=λr=>r=l) ?_ (λr U=>Ap U);refine Cn l.length (λi s=>s.2=(i:Int)/\s.1=l.take i++List.replicate (l.length - i) []) ⟨V,AM⟩ AB ?_ ?_
 .rintro i ⟨o,c⟩ hi ⟨I,K⟩;simp only at I K;subst I;subst K;unfold Q4;refine BJ AN (Bh (m:=i) V hi (AR (b:=l[i]) ?_ ?_))
  .unfold f104;have:CK ([]:List Int) l[i]=some l[i]:=by unfold CK;rw[d9 (by have:=O _ (f5 hi);simp;omega)];rfl
   rw[this];rfl
  have Y:(l.take i).length=i:=by rw[t7];omega
  refine Bh (m:=i) V AP (A4 ((i+1:Nat):Int) AM (Ap ⟨V,?_⟩));simp only;rw[show Int.toNat (i:Int)=i by omega,List.set_append,d0 AB,Y,vh];obtain⟨k,Z⟩:∃k,l.length - i=k+1:=⟨l.length - i - 1,AB⟩;rw[Z,uU,uZ,tp,bZ hi,show l.length - (i+1)=k by omega];simp only[um,lZ,tH,tB]
 .rintro⟨o,c⟩ ⟨I,K⟩;simp only at I K;subst I;subst K;unfold Q4;exact BM AM (Ap ⟨_,V,AM⟩)
theorem j9(K:100<F)(I:NV 40 o):f21 F o=some o:=by
 unfold f21;have O:=I.l2;rw[YG K I.l1 I.n1,Option.bind_some];unfold f69;have:CK ([]:List DT) o.2=some o.2:=by unfold CK;rw[d9 AP];rfl
 rw[this];rfl
theorem Yb(I:100<F)(K:l.length<=40):f29 F l l=some true:=by
 refine CV ?_;unfold f29;refine AJ (S:=λq=>q=Sum.inr ()) ?_ (by rintro q rfl;exact Ap AM);refine Cn l.length (λi s=>s=(i:Int)) V AB ?_ ?_;rintro i s hi rfl;unfold Rc;refine AJ (S:=λc=>c=true) (BJ AB (Ap (th AB))) ?_;rintro c rfl;exact BJ V (Bh (m:=i) V hi (Bh (m:=i) V hi (BM AM (A4 ((i+1:Nat):Int) AM (Ap V)))));rintro s rfl;unfold Rc;refine AJ (S:=λc=>c=false) (BM AB (Ap V)) ?_;rintro c rfl;exact BM AM (Ap ⟨_,V,V⟩)
theorem Ui{l:List DT}(I:100<F)(K:l.length<=40):f26 F l l=some true:=by
 refine CV ?_;unfold f26;refine AJ (S:=λq=>q=Sum.inr ()) ?_ (by rintro q rfl;exact Ap AM);refine Cn l.length (λi s=>s=(i:Int)) V AB ?_ ?_;rintro i s hi rfl;unfold Re;refine AJ (S:=λc=>c=true) (BJ AB (Ap (th AB))) ?_;rintro c rfl;exact BJ V (Bh (m:=i) V hi (Bh (m:=i) V hi (BM AM (A4 ((i+1:Nat):Int) AM (Ap V)))));rintro s rfl;unfold Re;refine AJ (S:=λc=>c=false) (BM AB (Ap V)) ?_;rintro c rfl;exact BM AM (Ap ⟨_,V,V⟩)
theorem kD{l:A6}(I:100<F)(O:l.length<=40)(K:∀x∈l,x.length<=40):f80 F l l=some true:=by
 refine CV ?_;unfold f80;refine AJ (S:=λq=>q=Sum.inr ()) ?_ (by rintro q rfl;exact Ap AM);refine Cn l.length (λi s=>s=(i:Int)) V AB ?_ ?_;rintro i s hi rfl;unfold Rs;refine AJ (S:=λc=>c=true) (BJ AB (Ap (th AB))) ?_;rintro c rfl;exact BJ V (Bh (m:=i) V hi (Bh (m:=i) V hi (AR (Yb I (K _ (f5 hi))) (BM AM (A4 ((i+1:Nat):Int) AM (Ap V))))));rintro s rfl;unfold Rs;refine AJ (S:=λc=>c=false) (BM AB (Ap V)) ?_;rintro c rfl;exact BM AM (Ap ⟨_,V,V⟩)
theorem jI(I:100<F)(h:NV 40 o):f30 F o o=some true:=by
 refine CV ?_;unfold f30;refine AR (kD I h.l1 h.n1) (AJ (S:=λc=>c=true) (BJ V (AR (Ui I h.l2) (Ap V))) ?_);rintro c rfl;exact Ap V
theorem jW(Y:100<F):Au (f17 F o) (λr=>r=false->NV 20 o):=by
 unfold f17;refine AJ (S:=λc=>c=false->o.1.length<=20/\o.2.length<=20) ?_ ?_;refine Bw (λh=>Ap AM) (λh=>Ap λO=>?_);have:=vu O;omega
 intro c U;refine Bw (λh=>Ap AM) (λh=>?_);obtain⟨g1,g2⟩:=U (by simpa using h);refine AJ (S:=λq=>q=Sum.inl true∨(q=Sum.inr ()/\∀x∈o.1,x.length<=20)) ?_ ?_
 .refine Cn o.1.length (λi s=>s=(i:Int)/\∀x∈o.1.take i,x.length<=20) ⟨V,AM⟩ AB ?_ ?_
  .rintro i s hi ⟨rfl,K⟩;unfold Rq;refine BJ AB (Bh (m:=i) V hi (Bw (λh=>Ap (.inl V)) (λh=>A4 ((i+1:Nat):Int) AM (Ap ⟨V,λx I=>?_⟩))));rw[tp,bZ hi] at I
   grind
  .rintro s ⟨rfl,K⟩;unfold Rq;refine BM AB (Ap ⟨_,V,.inr ⟨V,λx I=>K x (by rw[tf];exact I)⟩⟩)
 .rintro q (rfl | ⟨rfl,h⟩);exact Ap AM;exact Ap λ_=>⟨g1,h,g2⟩
theorem QZ(F:Nat)(a lo hi:Int):f92 F a lo hi=some (decide (lo<=a/\a<=hi)):=by
 unfold f92;by_cases h:lo<=a;rw[d9 h];simp[h];rw[d0 h];simp[h]
theorem dc{i:Int}(h:ix o.1 i=some l):Q1 F l=NB F o i:=by
 funext j;unfold Q1 NB;rw[h];rfl
theorem fu(F:Nat)(o:OW):Rf F o=Nv F o:=by
 funext i;unfold Rf Nv;split;rcases h:ix o.1 i with _ | l;rfl;simp only[Option.bind_some];rw[dc h];rfl
theorem YQ(F:Nat)(o:OW):f47 F o=f48 F o:=by
 unfold f47 f48;rw[fu];rfl
variable{d:DT}
theorem jm(h:NV n o)(I:n<100):Au (f38 F o d) (λr=>r=(o.1,o.2++ [d])):=by
 unfold f38;exact have K:=h.l2;FO AP (FO AP (Ap V))
def VD(n:Nat)(d:DT):Prop:=0<=d.1/\d.1<(n:Int)/\0<=d.2.1/\d.2.1<(n:Int)/\d.1≠d.2.1/\1<=d.2.2/\d.2.2<=9
def CS(x:List Int):Prop:=x.length<=3/\∀c∈x,1<=c/\c<=9
structure VO (o:OW):Prop where
 n2:2<=o.1.length
 n5:o.1.length<=5
 cs:∀x∈o.1,CS x
 d8:o.2.length<=8
 ds:∀d∈o.2,VD o.1.length d
theorem VO.nv(h:VO o):NV 40 o:=⟨by have:=h.n5;omega,λx I=>by have:=(h.cs x I).1;omega,by have:=h.d8;omega⟩
variable{i:Nat}
theorem KZ{α:Type}{P:α->Prop}{l:List α}(hi:i<l.length)(h:∀x∈l.take i,P x)(k:P l[i]):∀x∈l.take (i+1),P x:=by
 intro x I;rw[tp,bZ hi] at I
 grind
theorem kZ(U:n<1000):Au (f88 F (n:Int) d 9) (λr=>r=0↔VD n d):=by
 unfold f88;refine A4 ((n:Int) - 1) V (AR (QZ _ _ _ _) (AJ (S:=λc=>c=true↔¬((0<=d.1/\d.1<(n:Int))/\0<=d.2.1/\d.2.1<(n:Int))) ?_ ?_))
 .refine Bw (λh=>Ap ?_) (λh=>?_);simp at h;simp;omega
  .refine A4 ((n:Int) - 1) V ?_
   grind [AR,Ap,QZ]
 .intro c I;refine Bw (λh=>Ap ?_) (λh=>?_)
  .grind [VD]
  have Y:¬¬_:=λk=>h (I.2 k);refine Bw (λK=>Ap ?_) (λK=>?_);unfold VD;constructor;intro h;cases h;intro h;omega
  refine AR (QZ _ _ _ _) (Bw (λO=>Ap ?_) (λO=>Ap ?_))
  all_goals grind [VD]
theorem Yh(U:100<F)(h:NV 40 o):Au (f48 F o) (λr=>r=0↔VO o):=by
 unfold f48;refine have Y:=h.l1;have Z:=h.l2;Bw (λg=>Ap (vC AD λv=>by have:=v.n2;omega)) (λg1=>Bw (λg=>Ap (vC AD λv=>by have:=v.n5;omega)) (λg2=>?_));refine AJ (S:=λq=>(∃e,q=Sum.inl e/\e≠0/\¬∀x∈o.1,CS x)∨(q=Sum.inr ()/\∀x∈o.1,CS x)) ?_ ?_
 .refine Cn o.1.length (λi s=>s=(i:Int)/\∀x∈o.1.take i,CS x) ⟨V,AM⟩ AB ?_ ?_
  .rintro i s hi ⟨rfl,I⟩;unfold Nv;refine BJ AB (Bh (m:=i) V hi (have ac:=h.n1 _ (f5 hi);Bw (λg=>Ap (.inl ⟨_,V,AD,λk=>by have:=(k _ (f5 hi)).1;omega⟩)) (λag=>AJ (S:=λq=>(q=Sum.inl 1/\¬CS o.1[i])∨(q=Sum.inr ()/\CS o.1[i])) ?_ ?_)))
   .refine Cn o.1[i].length (λj s=>s=(j:Int)/\∀c∈o.1[i].take j,1<=c/\c<=9) ⟨V,AM⟩ AB ?_ ?_
    .rintro j s hj ⟨rfl,K⟩;unfold NB;refine Bh (m:=i) V hi (BJ AB (Bh (m:=i) V hi (Bh (m:=j) V hj (AR (QZ _ _ _ _) (Bw (λg=>Ap (.inl ⟨V,λk=>?_⟩)) (λg=>?_))))));have:=k.2 _ (f5 hj);simp at g;omega
     refine A4 ((j+1:Nat):Int) AM (Ap ⟨V,KZ hj K ?_⟩);simpa using g
    .rintro s ⟨rfl,K⟩;unfold NB;refine Bh (m:=i) V hi ?_;rw[tf] at K;exact BM AB (Ap ⟨_,V,.inr ⟨V,AB,K⟩⟩)
   .rintro q (⟨rfl,g⟩ | ⟨rfl,g⟩);rw[Sum.elim_inl];exact Ap (.inl ⟨_,V,AD,λk=>g (k _ (f5 hi))⟩);rw[Sum.elim_inr];exact A4 ((i+1:Nat):Int) AM (Ap ⟨V,KZ hi I g⟩)
  .rintro s ⟨rfl,I⟩;unfold Nv;rw[tf] at I;exact BM AB (Ap ⟨_,V,.inr ⟨V,I⟩⟩)
 .rintro q (⟨e,rfl,he,g⟩ | ⟨rfl,K⟩);rw[Sum.elim_inl];exact Ap (vC he λv=>g v.cs);rw[Sum.elim_inr];refine Bw (λg=>Ap (vC AD λv=>by have:=v.d8;omega)) (λg2=>?_);refine AJ (S:=λq=>(∃e,q=Sum.inl e/\e≠0/\¬∀d∈o.2,VD o.1.length d)∨(q=Sum.inr ()/\∀d∈o.2,VD o.1.length d)) ?_ ?_;refine Cn o.2.length (λi s=>s=(i:Int)/\∀d∈o.2.take i,VD o.1.length d) ⟨V,AM⟩ AB ?_ ?_;rintro i s hi ⟨rfl,I⟩;unfold Q2;refine BJ AB (Bh (m:=i) V hi (AJ (kZ AB) ?_));intro x O;exact Bw (λg=>Ap (.inl ⟨_,V,g,λk=>g (O.2 (k _ (f5 hi)))⟩)) (λg=>A4 ((i+1:Nat):Int) AM (Ap ⟨V,KZ hi I (O.1 (uq.1 g))⟩));rintro s ⟨rfl,I⟩;unfold Q2;rw[tf] at I;exact BM AB (Ap ⟨_,V,.inr ⟨V,I⟩⟩);rintro q (⟨e,rfl,he,g⟩ | ⟨rfl,g⟩);rw[Sum.elim_inl];exact Ap (vC he λv=>g v.ds);rw[Sum.elim_inr];exact Ap (xj V ⟨AB,AB,K,AB,g⟩)
theorem j4(I:100<F)(h:NV 40 o):Au (f47 F o) (λr=>r=0↔VO o):=YQ F o▸Yh I h
theorem mK(I:100<F)(h:VO o):f47 F o=some 0:=by
 let⟨r,K,O⟩:=j4 I h.nv;rw[K,O.2 h]
theorem UF(I:100<F)(h:VO o):f70 F o []=some (o,0):=by
 obtain⟨F,rfl⟩:∃k,F=k+1:=⟨F - 1,AB⟩;unfold f70;rw[mK I h]
 rfl
theorem eB(a n:Int):a%n=(a - n)%n:=by
 have h:a=(a - n)+n*1:=by omega
 conv=>lhs;rw[h]
 exact Int.add_mul_emod_self_left _ _ _
theorem j7{k:Nat}(hb:BG k b)(al:k<900000)(am:2<=n)(ap:n<900):Au (f40 F b (n:Int)) (λr=>VD n r.1/\BG (k+4) r.2):=by
 unfold f40;refine A4 ((n:Int) - 1) V (AJ (Nw hb AB AB) ?_);rintro⟨x,aq⟩ ⟨g1,g2,K⟩;simp only at g1 g2 K ⊢;refine AJ (Uo K AB AB AB AB) ?_;rintro⟨x2,av⟩ ⟨a1,ag,O⟩;simp only at a1 ag O ⊢;refine AJ (Yy O AB AM AM) ?_;rintro⟨U,aw⟩ ⟨Y,Z⟩;simp only at Y Z ⊢;refine A4 ((n:Int) - 1) V (AJ (Uo Z AB AB AB AB) ?_);rintro⟨I,ay⟩ ⟨ai,aj,ac⟩;simp only at ai aj ac ⊢;refine A4 (x+I) V (AR (b:=(x+I).tmod n) (by unfold RY;rw[d0 AB]) (Ap ⟨?_,ac⟩));have e:(x+I).tmod n=(x+I)%n:=Int.tmod_eq_emod_of_nonneg AB;have p3:1<=U/\U<=9:=by
  simp only[ja,sS,t6] at Y;omega
 have az:(x+I)%(n:Int)<n:=Int.emod_lt_of_pos _ AB;have a0:0<=(x+I)%(n:Int):=Int.emod_nonneg _ AB;have a2:x≠(x+I)%(n:Int):=by
  rcases Int.lt_or_le (x+I) n with h | h;rw[Int.emod_eq_of_lt AB h];omega;rw[eB,Int.emod_eq_of_lt AB AB];omega
 refine⟨g1,?_,?_,?_,?_,p3.1,p3.2⟩<;>simp only[e]<;>omega
theorem jv{k pm dm:Nat}(aw:100<F)(hb:BG k b)(ay:k<1000)(az:2<=pm)(a0:pm<=5)(hd:dm<=8):Au (f31 F b pm dm) (λr=>VO r.1/\r.1.1.length<=pm/\r.1.2.length<=dm/\BG (k+100) r.2):=by
 unfold f31;refine AJ (Uo hb AB AB AB AB) ?_;rintro⟨n,a1⟩ ⟨n1,n2,g1⟩;simp only at n1 n2 g1 ⊢;obtain⟨n,rfl⟩:∃m:Nat,n=(m:Int):=⟨n.toNat,AB⟩;refine AJ (YO g1 AB AB AB) ?_;rintro⟨a2,a3⟩ g2;simp only at g2 ⊢;refine AJ (S:=λr=>r.2.2.2.length=n/\(∀x∈r.2.2.2,CS x)/\BG (k+30) (r.1,r.2.1,r.2.2.1)) ?_ ?_
 .refine Cn n (λi s=>s.2.2.2.2=(i:Int)/\s.1.length=i/\(∀x∈s.1,CS x)/\BG (k+2+5*i) (s.2.1,s.2.2.1,s.2.2.2.1)) ⟨V,V,AM,g2⟩ AB ?_ ?_
  .rintro i ⟨ps,l,t,Y,c⟩ hi ⟨ac,ag,al,I⟩;simp only at ac ag al I;subst ac;unfold Ra;refine BJ AN (AJ (Nw I AB AB) ?_);rintro⟨c,a4⟩ ⟨c1,c2,ai⟩;simp only at c1 c2 ai ⊢;obtain⟨c,rfl⟩:∃m:Nat,c=(m:Int):=⟨c.toNat,AB⟩;refine AJ (S:=λr=>CS r.1/\BG (k+2+5*i+1+c) r.2) ?_ ?_
   .refine Cn c (λj s=>s.2.2.2.2=((c - j:Nat):Int)/\s.2.2.2.1.length=j/\(∀v∈s.2.2.2.1,1<=v/\v<=9)/\BG (k+2+5*i+1+j) (s.1,s.2.1,s.2.2.1)) ⟨V,V,AM,ai⟩ AB ?_ ?_
    .rintro j ⟨l,t,Y,w,z⟩ hj ⟨K,hw,O,I⟩;simp only at K hw O I;subst K;unfold Rn;refine BJ AN (AJ (S:=λr=>r.1.length=j+1/\(∀v∈r.1,1<=v/\v<=9)/\BG (k+2+5*i+1+(j+1)) r.2) ?_ ?_)
     .refine Bw (λ_=>?_) (λ_=>?_)
      .refine It AN (Ap ⟨by simp[hw],?_,I.Aj AB⟩)
       grind
      all_goals grind [AJ,It,Ap,Yy]
     .rintro⟨w',l',a5,a6⟩ ⟨Z,aj,U⟩;simp only at Z U aj ⊢;exact A4 ((c - (j+1):Nat):Int) AB (Ap ⟨V,Z,aj,U⟩)
    .rintro⟨l,t,Y,w,z⟩ ⟨K,hw,O,I⟩;simp only at K hw O I;subst K;unfold Rn;exact BM AM (Ap ⟨_,V,⟨by simp only;omega,O⟩,I⟩)
   .rintro⟨w,a7⟩ ⟨Z,U⟩;simp only at Z U ⊢;refine It AB (A4 ((i+1:Nat):Int) AM (Ap ⟨V,by simp[ag],λx a8=>?_,U.Aj AB⟩))
    grind
  .rintro⟨ps,l,t,Y,c⟩ ⟨ac,ag,al,I⟩;simp only at ac ag al I;subst ac;unfold Ra;exact BM AM (Ap ⟨_,V,ag,al,I.Aj AB⟩)
 .rintro⟨l,t,Y,ps⟩ ⟨p1,p2,ai⟩;simp only at p1 p2 ai ⊢;refine AJ (Nw ai AB AB) ?_;rintro⟨c,a9⟩ ⟨c1,c2,am⟩;simp only at c1 c2 am ⊢;obtain⟨c,rfl⟩:∃m:Nat,c=(m:Int):=⟨c.toNat,AB⟩;refine AJ (S:=λr=>r.2.2.2.length<=dm/\(∀d∈r.2.2.2,VD n d)/\BG (k+100) (r.1,r.2.1,r.2.2.1)) ?_ ?_
  .refine Cn c (λj s=>s.2.2.2.2=((c - j:Nat):Int)/\s.1.length=j/\(∀d∈s.1,VD n d)/\BG (k+31+4*j) (s.2.1,s.2.2.1,s.2.2.2.1)) ⟨V,V,AM,am.Aj AB⟩ AB ?_ ?_
   .rintro j ⟨ap,l,t,Y,z⟩ hj ⟨K,hw,O,I⟩;simp only at K hw O I;subst K;unfold Q0;refine BJ AN (AJ (j7 I AB AB AB) ?_);rintro⟨d,bb⟩ ⟨av,aq⟩;simp only at av aq ⊢;refine FO AP (A4 ((c - (j+1):Nat):Int) AB (Ap ⟨V,by simp[hw],?_,aq.Aj AB⟩))
    grind
   .rintro⟨ap,l,t,Y,z⟩ ⟨K,hw,O,I⟩;simp only at K hw O I;subst K;unfold Q0;exact BM AM (Ap ⟨_,V,by simp only;omega,O,I.Aj AB⟩)
  .rintro⟨l,t,Y,ap⟩ ⟨Z,aj,U⟩;simp only at Z U aj ⊢;exact Ap ⟨⟨by simp only;omega,by simp only;omega,p2,by simp only;omega,by simp only;rw[p1];exact aj⟩,by simp only;omega,Z,U⟩
abbrev PR:=Int×Int
def gN(l:List Int)(i:Nat):Int:=l.getD i 0
def GW(l:List Int)(i v:Int):List Int:=l.set i.toNat (gN l i.toNat+v)
def BN(B:Int)(l:List Int):Prop:=l.length=5/\∀x∈l,-B<=x/\x<=B
theorem OY(h:i<l.length):gN l i=l[i]:=by unfold gN;rw[sP,bZ h];rfl
variable{B:Int}
theorem BN.bd(h:BN B l)(hi:i<5): -B<=gN l i/\gN l i<=B:=by
 rw[OY (by have:=h.1;omega)];exact h.2 _ (f5 _)
theorem BN.ix(h:BN B l){i:Int}(I:0<=i)(hi:i<5):ix l i=some (gN l i.toNat):=by
 have:=h.1
 grind [OY,F6]
theorem BN.Aj{C:Int}(h:BN B l)(K:B<=C):BN C l:=⟨h.1,λx I=>by have:=h.2 x I;omega⟩
variable{v:Int}
theorem BN.add{V:Int}(h:BN B l){i:Int}(K:0<=i)(hi:i<5)(O: -V<=v)(U:v<=V):BN (B+V) (GW l i v):=by
 refine have hb:=h.bd (i:=i.toNat) AB;⟨by unfold GW;rw[sW];exact h.1,λx I=>?_⟩;rcases ve I with I | rfl;have:=h.2 x I;omega;omega
theorem Ms{i:Int}(h:l.length=5)(I:0<=i)(hi:i<5)(j:Nat):gN (GW l i v) j=gN l j+if(j:Int)=i then v else 0:=by
 grind [GW,gN]
theorem Xm{l':List Int}(h:l.length=5)(O:l'.length=5)(k:∀j,j<5->gN l j=gN l' j):l=l':=by
 refine List.ext_getElem AB λj I K=>?_;rw[← OY I,← OY K];exact k j AB
def GX(l:List Int)(d:DT):List Int:=GW (GW l d.1 d.2.2) d.2.1 (-d.2.2)
def IJ(l:List Int)(d:DT):List Int:=GW (GW l d.2.1 d.2.2) d.1 (-d.2.2)
def BV(o:OW):List Int:=o.2.foldl IJ (List.replicate 5 0)
theorem TX(h:BN B l)(a1:0<=d.1)(I:d.1<5)(K:0<=d.2.1)(O:d.2.1<5)(p1: -B<=d.2.2)(p2:d.2.2<=B)(U:B<=1000000000000):Pa F l d=some (GX l d)/\BN (3*B) (GX l d):=by
 refine have g1:=h.add a1 I p1 p2;have g2:=g1.add K O (show -B<= -d.2.2 by omega) AB;have k1:=h.bd (i:=d.1.toNat) AB;have Y:=g1.bd (i:=d.2.1.toNat) AB;⟨?_,g2.Aj AB⟩;refine CV ?_;unfold Pa;exact AR (h.ix a1 I) (A4 _ V (AR (h.ix a1 I) (AR (g1.ix K O) (A4 _ V (AR (g1.ix K O) (Ap V))))))
theorem NG(Y:100<F)(h:VO o):f84 F o=some (BV o)/\BN 200 (BV o):=by
 have Z:=h.n5;have ac:=h.d8;have:Au (f84 F o) (λr=>r=BV o/\BN 200 r):=by
  unfold f84;refine AJ (S:=λr=>r=BV o/\BN 200 r) ?_ (λr K=>Ap K);refine Cn o.2.length (λi s=>s.2=(i:Int)/\s.1=(o.2.take i).foldl IJ (List.replicate 5 0)/\BN (20*i) s.1) ⟨rfl,rfl,rfl,AM⟩ AB ?_ ?_
  .rintro i ⟨w,c⟩ hi ⟨I,hw,hb⟩;simp only at I hw hb;subst I;let⟨v1,v2,ag,v4,ai,v6,aj⟩:=h.ds _ (f5 hi);have g1:=hb.add (i:=o.2[i].2.1) (v:=o.2[i].2.2) (V:=10) AB AB AB AB;have g2:=g1.add (i:=o.2[i].1) (v:= -o.2[i].2.2) (V:=10) AB AB AB AB;have k1:=hb.bd (i:=o.2[i].2.1.toNat) AB;have al:=g1.bd (i:=o.2[i].1.toNat) AB;unfold Q7;refine BJ AN (Bh (m:=i) rfl hi (AR (hb.ix AB AB) (A4 _ rfl (AR (hb.ix AB AB) (AR (g1.ix AB AB) (A4 _ rfl (AR (g1.ix AB AB) (A4 ((i+1:Nat):Int) AM (Ap ⟨rfl,?_,g2.Aj AB⟩)))))))));simp only;rw[tp,bZ hi,vd,← hw]
   rfl
  .rintro⟨w,c⟩ ⟨I,hw,hb⟩;simp only at I hw hb;subst I;unfold Q7;rw[tf] at hw;exact BM AM (Ap ⟨_,rfl,hw,hb.Aj AB⟩)
 obtain⟨r,O,rfl,U⟩:=this;exact⟨O,U⟩
theorem dL(hi:i<l.length):(l.take (i+1)).sum=(l.take i).sum+l[i]:=by
 rw[tp,bZ hi,List.sum_append];simp only[um,uJ,xh];omega
theorem kC(ac:100<F)(ag:l.length<=20)(hb:∀x∈l,-1000<=x/\x<=1000):f85 F l=some l.sum/\ -20000<=l.sum/\l.sum<=20000:=by
 have:Au (f85 F l) (λr=>r=l.sum/\ -20000<=r/\r<=20000):=by
  unfold f85;refine AJ (S:=λr=>r=l.sum/\ -20000<=r/\r<=20000) ?_ (λr U=>Ap U);refine Cn l.length (λi s=>s.2=(i:Int)/\s.1=(l.take i).sum/\ -(1000*(i:Int))<=s.1/\s.1<=1000*(i:Int)) ⟨V,V,AM,AM⟩ AB ?_ ?_;rintro i ⟨w,c⟩ hi ⟨I,hw,K,O⟩;simp only at I hw K O;subst I;have ai:=hb _ (f5 hi);unfold Rj;refine BJ AN (Bh (m:=i) V hi (A4 _ V (A4 ((i+1:Nat):Int) AM (Ap ⟨V,?_,?_,?_⟩))));simp only;rw[dL hi,hw];simp only;omega;simp only;omega;rintro⟨w,c⟩ ⟨I,hw,K,O⟩;simp only at I hw K O;subst I;unfold Rj;rw[tf] at hw;exact BM AM (Ap ⟨_,V,hw,by simp only;omega,by simp only;omega⟩)
 obtain⟨r,Y,rfl,Z⟩:=this;exact⟨Y,Z⟩
def VP(n:Nat)(x:PR):Prop:=0<=x.1/\x.1<x.2/\x.2<(n:Int)
def JW(b:Nat)(k:Nat):List PR:=(List.range k).map λa:Nat=>((a:Int),(b:Int))
def Et(n:Nat):List PR:=(List.range n).flatMap λb=>JW b b
theorem bB(b k:Nat):JW b (k+1)=JW b k++ [((k:Int),(b:Int))]:=by unfold JW;rw[vO,tE];rfl
theorem Z0(n:Nat):Et (n+1)=Et n++JW n n:=by unfold Et;rw[vO,wB];simp
theorem Ou{x:PR}(h:x∈Et n):VP n x:=by
 unfold Et JW at h;let⟨b,hb,h⟩:=vH.1 h;obtain⟨a,I,rfl⟩:=tn.1 h;have:=s4.1 hb;have:=s4.1 I;exact⟨by simp only;omega,by simp only;omega,by simp only;omega⟩
theorem Wz(b k:Nat):(JW b k).length=k:=by unfold JW;simp
theorem SM(h:n<=5):(Et n).length<=10:=by
 have e:∀n,n<=5->(Et n).length<=n*2:=by
  intro n I
  match n,I with
  | 0,_ | 1,_ | 2,_ | 3,_ | 4,_ | 5,_=>decide
 have:=e n h;omega
theorem iK(Y:100<F)(Z:o.1.length<=5):f133 F o=some (Et o.1.length):=by
 refine CV ?_;unfold f133;refine AJ (S:=λr=>r=Et o.1.length) ?_ (λr U=>Ap U);refine Cn o.1.length (λi s=>s.2=(i:Int)/\s.1=Et i/\s.1.length<=10*i) ⟨V,V,AM⟩ AB ?_ ?_
 .rintro i ⟨w,c⟩ hi ⟨I,hw,O⟩;simp only at I hw O;subst I;unfold Qh;refine BJ AN (AJ (S:=λr=>r=Et i++JW i i) ?_ ?_)
  .refine Cn i (λa s=>s.2=(a:Int)/\s.1=Et i++JW i a) ⟨V,by simp[JW,hw]⟩ AB ?_ ?_
   .rintro a ⟨v,c⟩ ac ⟨I,K⟩;simp only at I K;subst I;unfold P8;refine BJ AN (It ?_ ?_);rw[K,← hw,sR,Wz];omega
    refine A4 ((a+1:Nat):Int) AM (Ap ⟨V,?_⟩);simp only;rw[bB,K,lZ]
   .rintro⟨v,c⟩ ⟨I,K⟩;simp only at I K;subst I;unfold P8;exact BM AM (Ap ⟨_,V,K⟩)
  .rintro r rfl;refine A4 ((i+1:Nat):Int) AM (Ap ⟨V,(Z0 i).symm,?_⟩);simp only;rw[sR,Wz,← hw];omega
 .rintro⟨w,c⟩ ⟨I,hw,O⟩;simp only at I hw O;subst I;unfold Qh;exact BM AM (Ap ⟨_,V,hw⟩)
def Bb(p:Int)(x:PR):Bool:=decide (x.1=p) || decide (x.2=p)
theorem Sy{α:Type}{p:α->Bool}:∀{l:List α}{a:Nat},l.countP p=1->∀K:a<l.length,p l[a]=true->l.findIdx p=a
 | x::xs,0,_,_,I=>by
  have I:p x=true:=I
  rw[wL,I];rfl
 | x::xs,a+1,h,K,I=>by
  have I:p (xs[a]'(by simpa using K))=true:=I
  have U:0<xs.countP p:=uV.2 ⟨_,f5 _,I⟩
  by_cases O:p x=true;rw[List.countP_cons_of_pos O] at h;omega;rw[List.countP_cons_of_neg O] at h;rw[wL,s9.2 O];simp only[cond_false];rw[Sy h (by simpa using K) I]
def GO(n:Nat)(l:List PR):Option Nat:=(List.range n).find? λp=>l.countP (Bb p)==1
def dP(p:Int)(x:PR)(m:Int):DT:=if 0<m then(x.1+x.2 - p,p,m) else(p,x.1+x.2 - p,-m)
def Er(n:Nat):Nat->List PR->List Int->List DT->Option (List DT)
 | 0,_,w,out=>if w=List.replicate 5 0 then some out else none
 | k+1,l,w,out=>(GO n l).bind λp=>
   if gN w p=0 then none else
    Er n k (l.eraseIdx (l.findIdx (Bb p))) (GX w (dP p (l.getD (l.findIdx (Bb p)) (0,0)) (gN w p))) (out++ [dP p (l.getD (l.findIdx (Bb p)) (0,0)) (gN w p)])
def O8:Option (List DT)->Bool×List Int×List DT
 | none=>(true,default)
 | some out=>(false,List.replicate 5 0,out)
theorem cb{l:List PR}{p:Int}(Y:100<F)(Z:l.length<=20):Au (Pal.iter (OI F l p) F (0,0,0)) (λr=>r.2=((l.countP (Bb p):Nat):Int)/\(r.2=1->r.1=(l.findIdx (Bb p):Nat)/\l.findIdx (Bb p)<l.length)):=by
 refine Cn l.length (λi s=>s.2.2=(i:Int)/\s.2.1=(((l.take i).countP (Bb p):Nat):Int)/\(s.2.1≠0->∃a,s.1=((a:Nat):Int)/\∃h:a<l.length,Bb p l[a]=true)) ⟨V,AM,AM⟩ AB ?_ ?_
 .rintro i ⟨a,m,c⟩ hi ⟨I,hm,K⟩;simp only at I hm K;subst I;have hle:(l.take i).countP (Bb p)<=i:=by
   refine s3 xa ?_;rw[t7];omega
  unfold OI;refine BJ AN (Bh (m:=i) V hi (AJ (S:=λc=>c=Bb p l[i]) ?_ ?_));unfold Bb;refine Bw (λh=>Ap (by simp[h])) (λh=>Ap (by simp[h]))
  rintro c rfl;have key:(l.take (i+1)).countP (Bb p)=(l.take i).countP (Bb p)+if Bb p l[i]=true then 1 else 0:=by
   rw[tp,bZ hi,List.countP_append];simp only[um,wi,List.countP_nil,uo]
  refine AJ (S:=λr=>r.2=(((l.take (i+1)).countP (Bb p):Nat):Int)/\(r.2≠0->∃a,r.1=((a:Nat):Int)/\∃h:a<l.length,Bb p l[a]=true)) ?_ ?_;refine Bw (λh=>?_) (λh=>?_);refine Lx (((l.take (i+1)).countP (Bb p):Nat):Int) ?_ AB ?_ (Ap ⟨V,λ_=>⟨i,V,hi,h⟩⟩);rw[key,d9 h,hm];rfl;rw[key,d9 h];omega;exact Ap ⟨by rw[key,d0 h];exact hm,K⟩;rintro⟨ac,m'⟩ ⟨O,U⟩;simp only at O U ⊢;exact A4 ((i+1:Nat):Int) AM (Ap ⟨V,O,U⟩)
 .rintro⟨a,m,c⟩ ⟨I,hm,K⟩;simp only at I hm K;subst I;rw[tf] at hm;unfold OI;refine BM AM (Ap ⟨_,V,hm,λag=>?_⟩)
  grind [Sy,Bb]
theorem SQ{l:List PR}(hi:i<n)(I:l.countP (Bb i)=1)(h:∀p,p<i->l.countP (Bb p)≠1):GO n l=some i:=by
 unfold GO;rw[tR]
 grind
theorem VC{l:List PR}(h:∀p,p<n->l.countP (Bb p)≠1):GO n l=none:=by
 grind [GO]
theorem Ux{p:Nat}{x:PR}{m:Int}(K:n<=5)(I:VP n x)(ht:Bb p x=true)(O: -B<=m)(U:m<=B):0<=(dP p x m).1/\(dP p x m).1<5/\0<=(dP p x m).2.1/\(dP p x m).2.1<5/\0<=(dP p x m).2.2/\(dP p x m).2.2<=B:=by
 obtain⟨v1,v2,Y⟩:=I;unfold Bb at ht;simp at ht;unfold dP;split<;>simp only<;>omega
theorem Nk{α:Type}{l:List α}{d:α}(h:i<l.length):l.getD i d=l[i]:=by rw[sP,bZ h];rfl
theorem XJ{F n:Nat}{q:OW}(Y:100<F)(aq:q.1.length=n)(ai:n<=5):∀(k N:Nat) (l:List PR) (w:List Int) (out:List DT) (B:Int),l.length=k->k<N->k<=10->(∀x∈l,VP n x)->BN B w->0<=B->B*3^k<=1000000000000->out.length+k<=100->Ny N F l w q out=some (O8 (Er n k l w out))
 | 0,N,l,w,out,B,av,aw,_,Z,hw,aj,al,ay=>by
  obtain⟨N,rfl⟩:∃k,N=k+1:=⟨N - 1,AB⟩
  refine CV ?_
  simp only[Ny]
  unfold OR Er
  refine BJ AB ?_
  refine Bw (λh=>Ap ?_) (λh=>Ap ?_);rw[d0 h];rfl;have h:=uq.1 h;rw[d9 h,h];rfl
 | k+1,N,l,w,out,B,av,aw,a8,Z,hw,aj,al,ay=>by
  obtain⟨N,rfl⟩:∃k,N=k+1:=⟨N - 1,AB⟩;refine CV ?_;simp only[Ny];unfold OR;refine BM AB ?_;have az:B*3^(k+1)=(3*B)*3^k:=by rw[xi];rw[vj (3^k) 3,← xe,vj B 3]
  have a0:B<=1000000000000:=by
   have ac:(1:Int)<=3^(k+1):=by
    have:(0:Int)<3^(k+1):=xk AD;omega
   have:=vB ac aj;omega
  refine AJ (S:=λr=>r=Sum.inl (O8 (Er n (k+1) l w out))∨(r=Sum.inr ()/\GO n l=none)) ?_ ?_
  .refine Cn n (λi s=>s=(i:Int)/\∀p,p<i->l.countP (Bb (p:Nat))≠1) ⟨V,AM⟩ AB ?_ ?_
   .rintro i s hi ⟨rfl,K⟩;unfold Qq;refine BJ AB (AJ (S:=λr=>(r=Sum.inr ()/\l.countP (Bb i)≠1)∨r=Sum.inl (O8 (Er n (k+1) l w out))) ?_ ?_)
    .refine AJ (cb Y AB) ?_;rintro⟨a,m⟩ ⟨am,O⟩;simp only at am O ⊢;refine Bw (λh=>Ap (.inl ⟨V,λac=>h (by rw[am,ac];rfl)⟩)) (λh=>?_);have h:=uq.1 h;let⟨O,I⟩:=O h;have a1:l.countP (Bb i)=1:=by omega
     subst O;refine have a2:=SQ hi a1 K;Bh (m:=l.findIdx (Bb i)) V I (Bh (m:=l.findIdx (Bb i)) V I ?_);have ht:Bb i l[l.findIdx (Bb i)]=true:=uQ;have U:=Z _ (f5 I);have a3:=U;obtain⟨x1,x2,a9⟩:=a3;refine have hb:=hw.bd (i:=i) AB;A4 (-(i:Int)) V (AR (hw.ix AB AB) ?_);rw[show Int.toNat (i:Int)=i by omega];refine AR (kC (l:=[_,_,_]) Y AM AP).1 (A4 (-(gN w i)) V ?_);have hg:Er n (k+1) l w out=if gN w i=0 then none else Er n k (l.eraseIdx (l.findIdx (Bb i))) (GX w (dP i l[l.findIdx (Bb i)] (gN w i))) (out++ [dP i l[l.findIdx (Bb i)] (gN w i)]):=by
      simp only[Er,a2,Option.bind_some,Nk I]
     refine Bw (λh=>Ap (.inr ?_)) (λh=>?_);rw[hg,d9 AB];rfl
     have ap:=hg;rw[d0 (show ¬gN w i=0 by omega)] at ap;rw[ap];refine AJ (S:=λr=>r=dP i l[l.findIdx (Bb i)] (gN w i)) ?_ ?_;unfold dP;refine Bw (λh=>?_) (λh=>?_);refine A4 (gN w i) AB (Ap ?_);rw[d9 AB];simp only[uJ,xh];refine wh ?_ V;simp only;omega;refine Ap ?_;rw[d0 AB];simp only[uJ,xh];refine wh V (wh ?_ V);simp only;omega
     rintro d rfl;let⟨a4,e2,a5,a6,bb,a7⟩:=Ux ai U ht hb.1 hb.2;obtain⟨g1,g2⟩:=TX (F:=F) hw a4 e2 a5 a6 AB a7 a0;refine AR g1 (FO AP (AR (b:=l.take (l.findIdx (Bb i))) (by unfold Gr;rw[d9 AB];simp) (A4 ((l.findIdx (Bb i)+1:Nat):Int) AM (AR (b:=l.drop (l.findIdx (Bb i)+1)) ?_ ?_))));unfold Gr;rw[d9 AB,show Int.toNat (l.length:Int)=l.length by omega,tf,show Int.toNat ((l.findIdx (Bb i)+1:Nat):Int)=l.findIdx (Bb i)+1 by omega]
     refine FO AP ?_;have he:l.take (l.findIdx (Bb i))++l.drop (l.findIdx (Bb i)+1)=l.eraseIdx (l.findIdx (Bb i)):=(vn _ _).symm;rw[he];have hle:(l.eraseIdx (l.findIdx (Bb i))).length=k:=by rw[vb I];omega
     refine AR (XJ Y aq ai k N _ _ _ (3*B) hle AB AB (λx U=>Z x (uy U)) g2 AB (by rw[← az];exact al) AP) ?_;rcases Er n k _ _ _ with _ | r;exact BJ V (Ap (.inr V));exact BM (by simp[O8]) (Ap (.inr V))
    .rintro r (⟨rfl,h⟩ | rfl);rw[Sum.elim_inr];refine A4 ((i+1:Nat):Int) AM (Ap ⟨V,λp ag=>?_⟩);rcases vk.1 ag with ag | rfl;exact K p ag;exact h;rw[Sum.elim_inl];exact Ap (.inl V)
   .rintro s ⟨rfl,K⟩;unfold Qq;exact BM AB (Ap ⟨_,V,.inr ⟨V,VC K⟩⟩)
  .rintro r (rfl | ⟨rfl,h⟩);rw[Sum.elim_inl];exact Ap V
   .rw [Sum.elim_inr];refine Ap ?_;simp only[Er,h,Option.bind_none]
    rfl
def BD(d:DT):Prop:= -1000000000000000<=d.1/\d.1<=1000000000000000/\ -1000000000000000<=d.2.1/\d.2.1<=1000000000000000/\ -1000000000000000<=d.2.2/\d.2.2<=1000000000000000
theorem P2{n:Nat}(Y:n<=5):∀(k:Nat) (l:List PR) (w:List Int) (out r:List DT) (B:Int),l.length=k->(∀x∈l,VP n x)->BN B w->0<=B->B*3^k<=1000000000000->(∀d∈out,BD d)->Er n k l w out=some r->(∀d∈r,BD d)/\r.length=out.length+k
 | 0,l,w,out,r,B,ai,K,hw,Z,ac,O,h=>by
  unfold Er at h
  split at h;cases h;exact⟨O,V⟩;cases h
 | k+1,l,w,out,r,B,ai,K,hw,Z,ac,O,h=>by
  have aj:B*3^(k+1)=(3*B)*3^k:=by rw[xi];rw[vj (3^k) 3,← xe,vj B 3]
  have al:B<=1000000000000:=by
   have am:(1:Int)<=3^(k+1):=by
    have:(0:Int)<3^(k+1):=xk AD;omega
   have:=vB am Z;omega
  unfold Er at h;let⟨p,ag,h⟩:=bind_some h;split at h;cases h
  unfold GO at ag;let⟨c1,c2,c3⟩:=tR.1 ag;have az:l.countP (Bb p)=1:=by simpa using c1
  have c2:=s4.1 c2;have U:l.findIdx (Bb p)<l.length:=by
   obtain⟨x,I,ht⟩:=uV.1 (show 0<l.countP (Bb p) by omega);exact un ⟨x,I,ht⟩
  rw[Nk U] at h;have ht:Bb p l[l.findIdx (Bb p)]=true:=uQ;have I:=K _ (f5 U);have hb:=hw.bd (i:=p) AB;let⟨ap,e2,aq,av,a0,aw⟩:=Ux Y I ht hb.1 hb.2;obtain⟨g1,g2⟩:=TX (F:=0) hw ap e2 aq av AB aw al;obtain⟨k1,ay⟩:=P2 Y k _ _ _ r (3*B) (by rw[vb U];omega) (λx I=>K x (uy I)) g2 AB (by rw[← aj];exact ac) (by
   intro d hd
   rcases sO.1 hd with hd | hd;exact O d hd
   .cases de.1 hd
    refine⟨?_,?_,?_,?_,?_,?_⟩<;>omega) h
  refine⟨k1,?_⟩;rw[ay];simp;omega
theorem Vv{α:Type}(l:List α):l=[]∨∃A y,l=A++ [y]:=by
 rcases List.eq_nil_or_concat l with h | ⟨A,y,h⟩;exact .inl h;exact .inr ⟨A,y,by rw[h,List.concat_eq_append]⟩
def NU{α:Type}(less:α->α->Option Bool)(s:Int×List α):Option (Bn (Int×List α) (List α)):=
 Option.bind (
  if 0<s.1 then(
   (ix s.2 (s.1)).bind λx=>
   (Ax (s.1 - 1)).bind λj=>
   (ix s.2 (j)).bind λy=>
   (less x y).bind λc=>
   some c
  ) else(
   some false
  )
 ) λc=>
 if c=true then(
  (Ax (s.1 - 1)).bind λj=>
  (Ax (s.1 - 1)).bind λk=>
  (ix s.2 (k)).bind λy=>
  (ix s.2 (s.1)).bind λx=>
  (ix (s.2.set (Int.toNat s.1) y) (j)).bind λ_=>
  (Ax (s.1 - 1)).bind λm=>
  some (.more (m,((s.2.set (Int.toNat s.1) y).set (Int.toNat j) x)))
 ) else(
  some (.done s.2)
 )
theorem Tw{α:Type}{less:α->α->Option Bool}{lt:α->α->Bool}{P:List α}{x:α}(R:List α)(ap:P.length<F)(aq:P.length<=1024)(aj:∀y∈P,less x y=some (lt x y)):
  Au (Pal.iter (NU less) F ((P.length:Int),P++x::R)) (λr=>∃A B,P=A++B/\r=A++x::(B++R)/\(∀b∈B,lt x b=true)/\(A=[]∨∃I y,A=I++ [y]/\lt x y=false)):=by
 refine Gc (λm s=>∃A B,A.length=m/\s.1=((m:Nat):Int)/\s.2=A++x::(B++R)/\P=A++B/\∀b∈B,lt x b=true) ?_ (m:=P.length) ⟨P,[],V,V,V,AM,AM⟩ AB;rintro m ⟨c,v⟩ ⟨A,B,O,ac,K,U,ag⟩;simp only at ac K;subst ac;have av:A.length+B.length=P.length:=by rw[U,sR]
 have ai:v[m]?=some x:=by rw[K,sQ AB,O,vh];rfl
 unfold NU;refine AJ (S:=λc=>(c=true/\∃I y,A=I++ [y]/\lt x y=true)∨(c=false/\(A=[]∨∃I y,A=I++ [y]/\lt x y=false))) ?_ ?_
 .refine Bw (λh=>?_) (λh=>?_)
  .simp only at h;rcases Vv A with rfl | ⟨I,y,rfl⟩;simp at O;omega
   have al:I.length+1=m:=by simpa using O
   have Z:v[m - 1]?=some y:=by rw[K,lZ,sQ AB,show m - 1 - I.length=0 by omega];rfl
   refine AR (F6 V ai) (A4 ((m - 1:Nat):Int) AN (AR (F6 V Z) (AR (aj y (by rw[U];simp)) (Ap ?_))));cases Y:lt x y with
   | true=>exact .inl ⟨rfl,I,y,rfl,Y⟩
   | false=>exact .inr ⟨rfl,.inr ⟨I,y,rfl,Y⟩⟩
  .refine Ap (.inr ⟨V,.inl ?_⟩);cases A with
   | nil=>rfl
   | cons a A=>simp at O h;omega
 .rintro c (⟨rfl,I,y,rfl,Y⟩ | ⟨rfl,am⟩)
  .have al:I.length+1=m:=by simpa using O
   have Z:v[m - 1]?=some y:=by rw[K,lZ,sQ AB,show m - 1 - I.length=0 by omega];rfl
   have aw:m<v.length:=by rw[K];simp;omega
   refine BJ V (A4 ((m - 1:Nat):Int) AN (A4 ((m - 1:Nat):Int) AN (AR (F6 V Z) (AR (F6 V ai) (Bh (m:=m - 1) V (by simp only[sW];omega) (A4 ((m - 1:Nat):Int) AN (Ap ⟨m - 1,AB,I,y::B,AB,V,?_,by rw[U];simp,λb hb=>?_⟩)))))));simp only;rw[show Int.toNat ((m:Nat):Int)=I.length+1 by omega,show Int.toNat ((m - 1:Nat):Int)=I.length by omega,K];simp;rcases ja.1 hb with rfl | hb;exact Y;exact ag b hb
  .exact BM AM (Ap ⟨A,B,U,K,ag,am⟩)
def Fu(a b:DT):Bool:=decide (a.1<b.1∨(a.1=b.1/\(a.2.1<b.2.1∨(a.2.1=b.2.1/\a.2.2<b.2.2))))
theorem OB{a b:DT}:Fu a b=true↔a.1<b.1∨(a.1=b.1/\(a.2.1<b.2.1∨(a.2.1=b.2.1/\a.2.2<b.2.2))):=by unfold Fu;exact decide_eq_true_iff
theorem K2{a b:DT}:Fu a b=false↔¬(a.1<b.1∨(a.1=b.1/\(a.2.1<b.2.1∨(a.2.1=b.2.1/\a.2.2<b.2.2)))):=by unfold Fu;exact wa
theorem XI{a b:DT}(I:BD a)(hb:BD b):Au (f113 F a b) (λc=>(c<0↔Fu a b=true)/\(c=0↔a=b)):=by
 obtain⟨a1,K,O,U,Y,Z⟩:=I;obtain⟨ac,ag,ai,aj,al,am⟩:=hb;obtain⟨ax,aq,av⟩:=a;obtain⟨aw,ay,az⟩:=b;simp only at a1 K O U Y Z ac ag ai aj al am;unfold f113;simp only[OB,f4];refine Bw (λh=>?_) (λh=>?_);exact A4 _ V (Ap ⟨AB,AB⟩)
 refine Bw (λap=>?_) (λap=>?_);exact A4 _ V (Ap ⟨AB,AB⟩);exact A4 _ V (Ap ⟨AB,AB⟩)
def Hw(x:DT):List DT->List DT
 | []=>[x]
 | y::ys=>if Fu x y=true then x::y::ys else y::Hw x ys
def EK(l:List DT):List DT:=l.foldl (λa x=>Hw x a) []
def Pl(l:List DT):Prop:=l.Pairwise λa b=>Fu b a=false
theorem Tl{x d:DT}:∀{l:List DT},d∈Hw x l↔d=x∨d∈l
 | []=>by simp[Hw]
 | y::ys=>by
  unfold Hw
  split;simp;rw[ja,Tl,ja];constructor;rintro(h | h | h);exact .inr (.inl h);exact .inl h;exact .inr (.inr h);rintro(h | h | h);exact .inr (.inl h);exact .inl h;exact .inr (.inr h)
theorem Wu{x:DT}:∀{l:List DT},(Hw x l).length=l.length+1
 | []=>rfl
 | y::ys=>by
  unfold Hw
  split;rfl;rw[tb,Wu];rfl
theorem XP{x:DT}:∀{l:List DT},Pl l->Pl (Hw x l)
 | [],_=>List.pairwise_singleton _ _
 | y::ys,h=>by
  let⟨O,U⟩:=uL.1 h
  unfold Hw
  split
  .rename_i K
   refine uL.2 ⟨λz I=>?_,h⟩;have K:=OB.1 K;rcases ja.1 I with rfl | I;rw[K2];omega;have:=K2.1 (O z I);rw[K2];omega
  .rename_i K;refine uL.2 ⟨λz I=>?_,XP U⟩;rcases Tl.1 I with rfl | I;exact s9.2 K;exact O z I
theorem TW{x:DT}{B:List DT}(I:∀b∈B,Fu x b=true):∀{A:List DT},(∀a∈A,Fu x a=false)->Hw x (A++B)=A++x::B
 | [],_=>by
  cases B with
  | nil=>rfl
  | cons b bs=>simp only[tB,Hw,I b tI,tS]
 | a::A,K=>by
  have O:=K a tI
  simp only[tH,Hw,O]
  rw[d0 AD,TW I λz U=>K z (kW _ U)]
theorem M9(l:List DT)(x:DT):EK (l++ [x])=Hw x (EK l):=by unfold EK;rw[vd];rfl
theorem Qy:∀{k:Nat},k<=10->(3:Int)^k<=59049
 | 0,_ | 1,_ | 2,_ | 3,_ | 4,_ | 5,_ | 6,_ | 7,_ | 8,_ | 9,_ | 10,_=>by decide
 | _+11,h=>absurd h AB
theorem No{α:Type}{P:List α->Prop}(K:P [])(O:∀l x,P l->P (l++ [x])):∀l,P l:=by
 have:∀n (l:List α),l.length=n->P l:=by
  intro n
  induction n with
  | zero=>intro l I;cases vp.1 I;exact K
  | succ n U=>
   intro l I;rcases Vv l with rfl | ⟨l',x,rfl⟩;cases I;exact O _ _ (U _ (by simpa using I))
 exact λl=>this _ l V
theorem Xf(l:List DT):Pl (EK l):=No (P:=λl=>Pl (EK l)) List.Pairwise.nil (λl x h=>by rw[M9];exact XP h) l
theorem V2(l:List DT):d∈EK l↔d∈l:=No (P:=λl=>d∈EK l↔d∈l) (Iff.rfl) (λl x h=>by rw[M9,Tl,h];simp[or_comm]) l
theorem PX(l:List DT):(EK l).length=l.length:=No (P:=λl=>(EK l).length=l.length) V (λl x h=>by rw[M9,Wu,h];simp) l
theorem cK(F:Nat):Ql F 0=NU λx y=>(f113 F x y).bind λc=>some (decide (c<0)):=by
 grind [Ql,NU]
theorem VG{A B:List DT}{x y:DT}(K:Pl ((A++ [y])++B))(O:Fu x y=false):∀a∈A++ [y],Fu x a=false:=by
 rw[lZ] at K;intro a I;rcases sO.1 I with I | I;have U:=(vF.1 K).2.2 a I y AM;have Y:=K2.1 U;have Z:=K2.1 O;rw[K2];omega;cases de.1 I;exact O
theorem iD{l:List DT}(aj:100<F)(al:l.length<=20)(hb:∀d∈l,BD d):NR F l 0 (l.length:Int)=some (EK l):=by
 refine CV ?_;unfold NR;refine A4 1 V (AJ (S:=λr=>r=EK l) ?_ (λr O=>Ap O));refine Cn (l.length - 1) (λi s=>s.1=((i+1:Nat):Int)/\s.2=EK (l.take (i+1))++l.drop (i+1)) ⟨V,?_⟩ AB ?_ ?_
 .cases l with
  | nil=>rfl
  | cons x xs=>rfl
 .rintro i ⟨c,w⟩ hi ⟨I,hw⟩;simp only at I hw;subst I;have K:i+1<l.length:=by omega
  unfold QS;refine BJ AN ?_;have U:l.drop (i+1)=l[i+1]::l.drop (i+2):=tF K;have am:(EK (l.take (i+1))).length=i+1:=by rw[PX,t7];omega
  have Y:∀d∈EK (l.take (i+1)),BD d:=λd hd=>hb d (List.mem_of_mem_take ((V2 _).1 hd));have Z:BD l[i+1]:=hb _ (f5 K);have ac:EK (l.take (i+2))=Hw l[i+1] (EK (l.take (i+1))):=by
   rw[tp (i:=i+1),bZ K];exact M9 _ _
  have ap:=Xf (l.take (i+1));generalize l[i+1]=x at*;generalize EK (l.take (i+1))=P at*;generalize l.drop (i+2)=R at*;refine AJ (S:=λr=>r=Hw x P++R) ?_ ?_
  .rw [cK,hw,U];have ag:((i+1:Nat):Int)=(P.length:Int):=by omega
   rw[ag];refine(Tw (lt:=Fu) R AB AB λy ai=>?_).Aj ?_
   .let⟨c,aq,av,_⟩:=XI (F:=F) Z (Y y ai)
    grind
   all_goals grind [VG,TW]
  .rintro r rfl;refine A4 ((i+1+1:Nat):Int) AM (Ap ⟨V,?_⟩);simp only;rw[ac]
 .rintro⟨c,w⟩ ⟨I,hw⟩;simp only at I hw;subst I;unfold QS;refine BM AN (Ap ⟨_,V,?_⟩);simp only;rw[hw,uk AB,vA AB,s6]
theorem fR:∀n,n<=12->∃r,f115 F (EG ((n:Nat):Int))=some r
 | 0,_ | 1,_ | 2,_ | 3,_ | 4,_ | 5,_ | 6,_ | 7,_ | 8,_ | 9,_ | 10,_ | 11,_ | 12,_=>⟨_,rfl⟩
 | _+13,h=>absurd h AB
theorem jL{l:List DT}(O:100<F)(I:l.length<=12)(hb:∀d∈l,BD d):f90 F l=some (EK l):=by
 obtain⟨F,rfl⟩:∃k,F=k+1:=⟨F - 1,AB⟩;refine let⟨x,K⟩:=fR (F:=F+1) l.length I;CV ?_;unfold f90;refine AR (b:=l) (by unfold f129 O6 CK;rw[d9 AP];rfl) (AR (b:=EK l) ?_ (Ap V));refine CV ?_;unfold f130;refine AR K (AR (b:=EK l) ?_ (Ap V));refine CV ?_;unfold f169;refine AJ (S:=λr=>r=Sum.inl (EK l)) ?_ (by rintro r rfl;rw[Sum.elim_inl];exact Ap rfl);refine Cn 0 (λ_ _=>True) trivial AB (by intro i s h;omega) ?_;rintro s -;unfold TS;refine A4 (l.length:Int) AB (BJ AB ?_)
 grind [AR,Ap,iD]
def Fi(n:Nat)(w:List Int)(S:List PR):Option (List DT):=(Er n S.length S w []).map EK
theorem iL{S:List PR}(I:100<F)(h:VO o)(K:S.length<=10)(O:∀x∈S,VP o.1.length x):f135 F o S=some (match Fi o.1.length (BV o) S with | none=>([],false) | some r=>(r,true)):=by
 have U:=h.n5;let⟨g1,g2⟩:=NG I h;have Y:(200:Int)*3^S.length<=1000000000000:=by
  have:=Qy K;omega
 have e:=XJ (q:=o) I rfl U S.length F S (BV o) [] 200 rfl AB K O g2 AB Y AP;have e2:f175 F o S=some (match Fi o.1.length (BV o) S with | none=>(true,default) | some r=>(false,r)):=by
  refine CV ?_;unfold f175;refine AR g1 (AR (show UU F S (BV o) o []=_ from e) ?_);unfold Fi;rcases hg:Er o.1.length S.length S (BV o) [] with _ | r;exact BJ V (Ap V);refine BM (by simp[O8]) ?_;obtain⟨k1,Z⟩:=P2 U S.length S (BV o) [] r 200 rfl O g2 AB Y AM hg;exact AR (jL I (by show r.length<=12;rw[Z];simp;omega) k1) (Ap V)
 grind [f135,BV,Fi]
def Dm:Nat->List PR->List (List PR)
 | 0,_=>[[]]
 | _+1,[]=>[]
 | m+1,x::xs=>(Dm m xs).map (x::·)++Dm (m+1) xs
theorem Oi:∀(m:Nat) (l:List PR),(Dm m l).length<=2^l.length
 | 0,l=>by simp only[Dm,ui];exact vZ
 | m+1,[]=>by simp[Dm]
 | m+1,x::xs=>by
  have I:=Oi m xs;have K:=Oi (m+1) xs
  simp only[Dm,sR,t9,tb]
  rw[v3];omega
theorem Lp{x:PR}:∀{m:Nat}{l c:List PR},c∈Dm m l->c.length=m/\(x∈c->x∈l)
 | 0,l,c,h=>by rw[show Dm 0 l=[[]] by cases l<;>rfl] at h;cases de.1 h;exact⟨rfl,λh=>by cases h⟩
 | m+1,[],c,h=>by cases h
 | m+1,y::ys,c,h=>by
  rcases sO.1 h with h | h
  .obtain⟨O,K,rfl⟩:=tn.1 h
   have:=Lp (x:=x) K;exact⟨by rw[tb,this.1],λI=>by
    rcases ja.1 I with rfl | I;exact tI
    .exact kW _ (this.2 I)⟩
  .have:=Lp (x:=x) h;exact⟨this.1,λI=>kW _ (this.2 I)⟩
def DC(n:Nat)(w:List Int)(P:PR->Bool)(m:Nat)(l ys:List PR):List (List DT):=(Dm m (ys.filter P)).filterMap λc=>Fi n w (l++c)
variable{w:List Int}{P:PR->Bool}
theorem WH{m:Nat}{l ys:List PR}:(DC n w P m l ys).length<=2^ys.length:=by
 unfold DC;exact s3 (v5 _ _) (s3 (Oi _ _) (tx AD (xb _ _)))
theorem bl{m:Nat}{l xs:List PR}{x:PR}(h:P x=false):DC n w P m l (x::xs)=DC n w P m l xs:=by unfold DC;rw[wW (by simp[h])]
theorem bD{m:Nat}{l xs:List PR}{x:PR}(h:P x=true):DC n w P (m+1) l (x::xs)=DC n w P m (l++ [x]) xs++DC n w P (m+1) l xs:=by
 unfold DC;rw[wX h,Dm,u7,v7];congr 2;funext c;simp
theorem XQ{F:Nat}{o:OW}{ac m:Nat}{I:List PR}{P:PR->Bool}(ag:100<F)(h:VO o)(hm:m<=5)(ap:I.length<=10)(ai:∀x∈I,VP o.1.length x)(aj:∀x,VP o.1.length x->f136 F ac x.1 x.2=some (!P x)):
  ∀(k N:Nat) (l:List PR) (i:Nat) (b:List (List DT)),l.length+k=m->k<N->i<=I.length->(∀x∈l,VP o.1.length x)->b.length+2^(I.length - i)<=1000000->
   NA N F l (i:Int) (m:Int) o I ac b=some (true,b++DC o.1.length (BV o) P k l (I.drop i))
 | 0,N,l,i,b,aq,av,hi,Z,hb=>by
  obtain⟨N,rfl⟩:∃k,N=k+1:=⟨N - 1,AB⟩
  have a2:1<=2^(I.length - i):=vZ
  refine CV ?_
  simp only[NA]
  unfold OU
  refine BJ AB ?_
  refine AR (iL ag h AB Z) ?_
  refine AJ (S:=λr=>r=(true,b++DC o.1.length (BV o) P 0 l (I.drop i))) ?_ (λr aw=>Ap aw)
  have e:DC o.1.length (BV o) P 0 l (I.drop i)=(Fi o.1.length (BV o) l).toList:=by
   unfold DC;simp only[Dm,List.filterMap_cons,s6,List.filterMap_nil];cases Fi o.1.length (BV o) l<;>rfl
  rw[e];rcases Fi o.1.length (BV o) l with _ | r;exact BJ V (Ap AM);exact BM AM (It AB (Ap V))
 | k+1,N,l,i,b,aq,av,hi,Z,hb=>by
  obtain⟨N,rfl⟩:∃k,N=k+1:=⟨N - 1,AB⟩;refine CV ?_;simp only[NA];unfold OU;refine BM AB (AJ (S:=λr=>r=Sum.inr (b++DC o.1.length (BV o) P (k+1) l (I.drop i))) ?_ (by rintro r rfl;rw[Sum.elim_inr];exact Ap rfl));refine Gc (λz s=>∃j,z=I.length - j/\j<=I.length/\s.2=((j:Nat):Int)/\s.1++DC o.1.length (BV o) P (k+1) l (I.drop j)=b++DC o.1.length (BV o) P (k+1) l (I.drop i)/\s.1.length+2^(I.length - j)<=1000000) ?_ (m:=I.length - i) ⟨i,V,hi,V,V,hb⟩ AB;rintro z ⟨acc,c⟩ ⟨j,rfl,hj,al,he,hlen⟩;simp only at al he hlen;subst al;unfold TU;refine Bw (λay=>?_) (λaz=>?_)
  .simp only at ay;have K:j<I.length:=by omega
   have hd:I.drop j=I[j]::I.drop (j+1):=tF K;have am:=ai _ (f5 K);have a3:2^(I.length - j)=2^(I.length - (j+1))+2^(I.length - (j+1)):=by
    rw[show I.length - j=I.length - (j+1)+1 by omega,v3];omega
   have a4:0<2^(I.length - (j+1)):=wq _;refine AJ (S:=λr=>∃U,r=Sum.inr U/\U++DC o.1.length (BV o) P (k+1) l (I.drop (j+1))=acc++DC o.1.length (BV o) P (k+1) l (I.drop j)/\U.length+2^(I.length - (j+1))<=1000000) ?_ ?_
   .refine Bh (m:=j) V K (Bh (m:=j) V K (AR (aj _ am) ?_));by_cases Y:P I[j]=true
    .refine BM (by simp[Y]) ?_;refine Bh (m:=j) V K ?_;refine A4 ((j+1:Nat):Int) AM ?_;refine FO AP ?_;refine AR (XQ ag h hm ap ai aj k N (l++ [I[j]]) (j+1) acc AP AB AB (λx O=>by
      rcases sO.1 O with O | O;exact Z x O
      .cases de.1 O;exact am) AB) ?_
     refine BM AM (Ap ⟨_,V,?_,?_⟩);rw[hd,bD Y,lZ];have:=WH (n:=o.1.length) (w:=BV o) (P:=P) (m:=k) (l:=l++ [I[j]]) (ys:=I.drop (j+1));rw[wj] at this;rw[sR];omega
    .refine BJ (by simp[Y]) (Ap ⟨_,V,?_,by simp only;omega⟩);rw[hd,bl (s9.2 Y)]
   .rintro r ⟨U,rfl,a0,a1⟩;rw[Sum.elim_inr];exact A4 ((j+1:Nat):Int) AM (Ap ⟨I.length - (j+1),AB,j+1,V,AB,V,a0.trans he,a1⟩)
  .simp only at az;refine Ap ?_;have:I.drop j=[]:=vA AB;rw[this] at he;show Sum.inr _=_;rw[← he];unfold DC;simp[Dm]
def FW(n:Nat)(w:List Int)(P:PR->Bool):List (List DT):=(((List.range n).map λm=>DC n w P m [] (Et n)).find? λl=> !l.isEmpty).getD []
theorem YK{c2:Nat}(K:100<F)(h:VO o)(U:∀x,VP o.1.length x->f136 F c2 x.1 x.2=some (!P x)):f71 F o c2=some (FW o.1.length (BV o) P):=by
 refine have O:=h.n5;have Y:=SM O;CV ?_;unfold f71;have Z:∀m,m<=5->f132 F o ((m:Nat):Int) c2 []=some (DC o.1.length (BV o) P m [] (Et o.1.length)):=by
  intro m hm;refine CV ?_;unfold f132;refine AR (iK K O) ?_;have ac:2^((Et o.1.length).length - 0)<=2^10:=tx AD AB;exact AR (show f134 F [] 0 (m:Int) o (Et o.1.length) c2 []=_ from XQ K h hm Y (λx ag=>Ou ag) U m F [] 0 [] AM AB AB AM (by simp at ac ⊢;omega)) (Ap AM)
 refine Cn o.1.length (λi s=>s=(i:Int)/\∀j,j<i->DC o.1.length (BV o) P j [] (Et o.1.length)=[]) ⟨V,AM⟩ AB ?_ ?_
 .rintro i s hi ⟨rfl,ai⟩;unfold Rz;refine BJ AB (AR (Z i AB) (Bw (λaj=>Ap ?_) (λal=>?_)))
  .show _=_;unfold FW;rw[v9,show(List.range o.1.length).find? _=some i from tR.2 ⟨?_,s4.2 hi,λj hj=>?_⟩]
   all_goals grind [BV,Et,DC]
  .refine A4 ((i+1:Nat):Int) AM (Ap ⟨V,λj hj=>?_⟩)
   grind
 .rintro s ⟨rfl,ai⟩;unfold Rz;refine BM AB (Ap ⟨_,V,?_⟩);unfold FW;rw[v9,show(List.range o.1.length).find? _=none from u4.2 ?_]
  all_goals grind
theorem Ys(O:n<=5)(x:PR)(I:VP n x):f136 F 0 x.1 x.2=some (!(λ_=>true) x):=by
 obtain⟨U,Y,Z⟩:=I;obtain⟨a,K⟩:∃a:Nat,x.1=(a:Int):=⟨x.1.toNat,AB⟩;obtain⟨b,hb⟩:∃b:Nat,x.2=(b:Int):=⟨x.2.toNat,AB⟩;rw[K,hb];have:b<=4:=by omega
 have:a<b:=by omega
 match a,b with
 | 0,1 | 0,2 | 0,3 | 0,4 | 1,2 | 1,3 | 1,4 | 2,3 | 2,4 | 3,4=>rfl
 | 0,0=>omega
 | a+1,0=>omega
 | a+1,1=>omega
 | a+2,2=>omega
 | a+3,3=>omega
 | a+4,4=>omega
 | a,b+5=>omega
abbrev Fs(o:OW):List (List DT):=FW o.1.length (BV o) λ_=>true
theorem Y9(I:100<F)(h:VO o):f71 F o 0=some (Fs o):=YK I h λx K=>Ys h.n5 x K
theorem df{m:Nat}{s:List DT}(K:n<=5)(hm:m<=5)(hw:BN 200 w)(hs:s∈DC n w P m [] (Et n)):s.length=m/\∀d∈s,BD d:=by
 unfold DC at hs;let⟨c,I,hs⟩:=vT.1 hs;rw[tB] at hs;unfold Fi at hs;obtain⟨r,O,rfl⟩:=tr.1 hs;have ac:=(Lp (x:=(0,0)) I).1;have U:∀x∈c,VP n x:=λx Y=>Ou (uu.1 ((Lp I).2 Y)).1;have Z:(200:Int)*3^c.length<=1000000000000:=by
  have:=Qy (k:=c.length) AB;omega
 obtain⟨k1,ag⟩:=P2 K c.length c w [] r 200 rfl U hw AB Z AM O
 grind [V2,PX]
theorem T2:FW n w P=[]∨∃m,m<n/\FW n w P=DC n w P m [] (Et n)/\(∀j,j<m->DC n w P j [] (Et n)=[]):=by
 unfold FW;rw[v9];rcases h:(List.range n).find? ((λl:List (List DT)=> !l.isEmpty)∘λm=>DC n w P m [] (Et n)) with _ | m;exact .inl V
 .let⟨I,K,O⟩:=tR.1 h
  grind
theorem X9(I:n<=5)(hw:BN 200 w):(FW n w P).length<=1024/\∃m,m<=5/\∀s∈FW n w P,s.length=m/\∀d∈s,BD d:=by
 rcases T2 (n:=n) (w:=w) (P:=P) with h | ⟨m,hm,h,_⟩;rw[h];exact⟨AM,0,AB,AM⟩;rw[h];refine⟨?_,m,AB,λs hs=>df I AB hw hs⟩;exact s3 WH (s3 (tx AD (SM I)) AD)
def BL:List DT->List DT->Bool
 | [],[]=>false
 | [],_::_=>true
 | _::_,[]=>false
 | x::xs,y::ys=>if x=y then BL xs ys else Fu x y
theorem Ox{a b:List DT}:∀{i:Nat},i<=a.length->i<=b.length->a.take i=b.take i->BL a b=BL (a.drop i) (b.drop i):=by
 induction a generalizing b with
 | nil=>intro i I _ _;simp at I;subst I;simp
 | cons x xs O=>
  intro i I K h;cases i with
  | zero=>simp
  | succ i=>
   cases b with
   | nil=>simp at K
   | cons y ys=>
    simp only[List.take_succ_cons,vx] at h;simp only[List.drop_succ_cons];rw[BL,d9 h.1];exact O (by simpa using I) (by simpa using K) h.2
theorem Ty{a b:List DT}(ag:100<F)(ai:a.length<=40)(O:∀d∈a,BD d)(U:∀d∈b,BD d):Au (f112 F a b) (λc=>c<0↔BL a b=true):=by
 unfold f112;refine AJ (S:=λr=>(∃c,r=Sum.inl c/\(c<0↔BL a b=true))∨(r=Sum.inr ()/\a.length<=b.length/\a=b.take a.length)) ?_ ?_
 .refine Cn a.length (λi s=>s=(i:Int)/\i<=b.length/\a.take i=b.take i) ⟨V,AM,AM⟩ AB ?_ ?_
  .rintro i s hi ⟨rfl,I,he⟩;unfold QT;have K:a.drop i=a[i]::a.drop (i+1):=tF hi;refine BJ AB (Bh (m:=i) V hi (Bw (λh=>Ap (.inl ⟨1,V,?_⟩)) (λh=>?_)));rw[Ox (i:=i) AB I he,K,vA (by omega:b.length<=i)];simp[BL]
   have hb:i<b.length:=by omega
   have Y:b.drop i=b[i]::b.drop (i+1):=tF hb;refine Bh (m:=i) V hb (AJ (XI (O _ (f5 hi)) (U _ (f5 hb))) ?_);rintro c ⟨c1,c2⟩;refine Bw (λh=>Ap (.inl ⟨c,V,?_⟩)) (λh=>?_);rw[Ox (i:=i) AB I he,K,Y,BL,d0 (λk=>h (c2.2 k))];exact c1;refine have heq:=c2.1 (uq.1 h);A4 ((i+1:Nat):Int) AM (Ap ⟨V,AB,?_⟩);rw[tp,tp,he,bZ hi,bZ hb,heq]
  .rintro s ⟨rfl,I,he⟩;unfold QT;rw[tf] at he;exact BM AB (Ap ⟨_,V,.inr ⟨V,I,he⟩⟩)
 .rintro r (⟨c,rfl,Z⟩ | ⟨rfl,ac,he⟩);rw[Sum.elim_inl];exact Ap Z
  .rw [Sum.elim_inr];have e:BL a b=BL [] (b.drop a.length):=by
    rw[Ox (i:=a.length) (jK _) ac (by rw[tf];exact he),vI]
   refine Bw (λh=>Ap ?_) (λh=>Ap ?_)
   .rw [e];cases hd:b.drop a.length with
    | nil=>have:=s7 List.length hd;simp at this;omega
    | cons=>simp[BL]
   .rw [e,vA AB];simp[BL]
def FM(b:List DT×Bool)(x:List DT):List DT×Bool:=if(!b.2 || BL x b.1)=true then(x,true) else b
def LG(l:List (List DT)):List DT:=(l.foldl FM ([],false)).1
theorem js(am:2000<F)(h:VO o):f22 F o=some (LG (Fs o),0):=by
 obtain⟨ap,Z⟩:=NG (F:=F) AB h;refine let⟨ac,m,hm,ag⟩:=X9 (P:=λ_=>true) h.n5 Z;CV ?_;unfold f22;refine AR (UF AB h) (BM AM (AR (Y9 AB h) (AJ (S:=λr=>r.1=LG (Fs o)) ?_ (λr U=>Ap (by rw[U])))));have ai:(Fs o).length<=1024:=ac;have Y:∀s∈Fs o,s.length=m/\∀d∈s,BD d:=ag;generalize Fs o=L at ai Y ⊢;refine Cn L.length (λi s=>s.2.2=(i:Int)/\(s.1,s.2.1)=(L.take i).foldl FM ([],false)/\∀d∈s.1,BD d) ⟨V,V,AM⟩ AB ?_ ?_
 .rintro i ⟨b,t,c⟩ hi ⟨K,I,O⟩;simp only at K I O;subst K;let⟨aq,aj⟩:=Y _ (f5 hi);have al:(L.take (i+1)).foldl FM ([],false)=FM (b,t) L[i]:=by
   rw[tp,bZ hi,vd,← I];rfl
  unfold Ri;refine BJ AN (Bh (m:=i) V hi (AR (b:=FM (b,t) L[i]) ?_ ?_))
  .refine CV ?_;unfold f72;refine AJ (S:=λc=>c=(!t || BL L[i] b)) ?_ ?_
   .refine Bw (λh=>Ap ?_) (λh=>?_)
    all_goals grind [AJ,Ap,Ty,f73,f74,BL]
   .rintro c rfl;refine AJ (S:=λr=>r=FM (b,t) L[i]) ?_ (λr U=>Ap U);unfold FM;refine Bw (λh=>Ap ?_) (λh=>Ap ?_);rw[d9 h];rw[d0 h]
  .refine A4 ((i+1:Nat):Int) AM (Ap ⟨V,al.symm,?_⟩);simp only;unfold FM;split;exact aj;exact O
 .rintro⟨b,t,c⟩ ⟨K,I,O⟩;simp only at K I O;subst K;rw[tf] at I;unfold Ri;refine BM AM (Ap ⟨_,V,?_⟩);simp only;unfold LG;rw[← I]
theorem kj(I:2000<F)(h:VO o):f24 F o=some (((Fs o).length:Int),0):=by
 refine CV ?_;unfold f24;exact AR (UF AB h) (BM AM (AR (Y9 AB h) (Ap V)))
theorem b8{l:List (List DT)}:LG l=[]∨LG l∈l:=by
 have:∀l:List (List DT),(l.foldl FM ([],false)).1=[]∨(l.foldl FM ([],false)).1∈l:=by
  intro l;refine No (P:=λl=>(l.foldl FM ([],false)).1=[]∨(l.foldl FM ([],false)).1∈l) (.inl V) (λl x h=>?_) l;rw[vd];show(FM _ x).1=[]∨(FM _ x).1∈l++ [x];generalize l.foldl FM ([],false)=b at*;unfold FM;split;exact .inr AM;rcases h with h | h;exact .inl h;exact .inr (tv _ h)
 exact this l
theorem Z6(h:VO o):(LG (Fs o)).length<=5:=by
 obtain⟨O,I⟩:=NG (F:=101) AB h;let⟨U,m,hm,K⟩:=X9 (P:=λ_=>true) h.n5 I;rcases b8 (l:=Fs o) with e | e;rw[e];simp;have:=(K _ e).1;omega
abbrev LL:=List (List DT)
structure SL (L l:LL):Prop where
 p:L.Perm l
 c:∀s∈L,s.length<=40/\∀d∈s,BD d
 n:L.length<=1024
variable{L:LL}
theorem SL.len{l:LL}(h:SL L l):l.length=L.length:=h.p.length_eq.symm
theorem SL.ok{l:LL}(h:SL L l)(hi:i<l.length):l[i].length<=40/\∀d∈l[i],BD d:=h.c _ (h.p.mem_iff.2 (f5 hi))
variable{j:Nat}
theorem SL.sw{l:LL}(h:SL L l)(hi:i<l.length)(hj:j<l.length):SL L ((l.set i l[j]).set j l[i]):=⟨h.p.trans (List.set_set_perm hi hj).symm,h.c,h.n⟩
theorem SL.cmp{l:LL}(O:5000<F)(h:SL L l)(hi:i<l.length)(hj:j<l.length):Au (f74 F l[i] l[j]) (λ_=>True):=by
 let⟨a1,I⟩:=h.ok hi;let⟨_,K⟩:=h.ok hj;unfold f74;exact AJ (Ty AB a1 I K) (λc _=>Ap trivial)
theorem nn(i:Nat):Int.toNat (i:Int)=i:=tt i
theorem quo{x k:Nat}(I:0<k)(K:x<1000000):J2 (x:Int) (k:Int)=some ((x/k:Nat):Int):=by
 unfold J2;rw[d0 AB,show(x:Int).tdiv (k:Int)=((x/k:Nat):Int) from rfl];have:=Nat.div_le_self x k;generalize x/k=y at this ⊢;exact d9 ⟨AB,AB⟩
theorem Tu{k:Nat}{l:LL}(I:5000<F)(h:SL L l)(hi:i<L.length)(hj:j<L.length)(K:k<=100):
  Au (MD F l (i:Int) (j:Int) (k:Int)) (λr=>∃u v w:Nat,r=((u:Int),(v:Int),(w:Int))/\((u=i/\v=j)∨(u=j/\v=i))/\w<=k+1):=by
 have O:=h.len;have U:=h.n;unfold MD;refine Bh (m:=j) V AB (Bh (m:=i) V AB (AJ (h.cmp I AB AB) ?_));intro z _;refine Bw (λ_=>?_) (λ_=>Ap ⟨i,j,k,V,.inl ⟨V,V⟩,AB⟩);exact A4 ((k+1:Nat):Int) AM (Ap ⟨j,i,k+1,V,.inr ⟨V,V⟩,AB⟩)
theorem Xu{q k:Nat}{l:LL}(I:5000<F)(h:SL L l)(hi:i<L.length)(hj:j<L.length)(K:q<L.length)(U:k<=90):
  Au (f180 F l (i:Int) (j:Int) (q:Int) (k:Int)) (λr=>∃u w:Nat,r=((u:Int),(w:Int))/\(u=i∨u=j∨u=q)/\w<=k+3):=by
 unfold f180;refine AJ (Tu I h hi hj AB) ?_;rintro _ ⟨u1,v1,w1,rfl,Y,k1⟩;refine AJ (Tu I h (i:=v1) (j:=q) AB K (k:=w1) AB) ?_;rintro _ ⟨u2,v2,w2,rfl,e2,Z⟩;refine AJ (Tu I h (i:=u1) (j:=u2) AB AB (k:=w2) AB) ?_;rintro _ ⟨ac,O,w3,rfl,ag,ai⟩;exact Ap ⟨O,w3,V,AB,AB⟩
theorem Tr{k:Nat}{l:LL}(I:5000<F)(h:SL L l)(O:1<=i)(hi:i+1<L.length)(K:k<=90):
  Au (f179 F l (i:Int) (k:Int)) (λr=>∃u w:Nat,r=((u:Int),(w:Int))/\(u=i - 1∨u=i∨u=i+1)/\w<=k+3):=by
 have U:=h.n;unfold f179;refine A4 ((i - 1:Nat):Int) AB (A4 ((i+1:Nat):Int) AM (AJ (Xu I h (i:=i - 1) (j:=i) (q:=i+1) AB AB AB K) ?_));rintro _ ⟨u,w,rfl,e,k1⟩;exact Ap ⟨u,w,V,e,k1⟩
theorem iI{a b:Nat}{l:LL}(I:5000<F)(h:SL L l)(hb:b<=L.length)(Y:a+12<b):
  Au (f140 F l (a:Int) (b:Int)) (λr=>∃u:Nat,r.1=(u:Int)/\a<=u/\u<b):=by
 have Z:=h.n;unfold f140;refine A4 ((b - a:Nat):Int) AB (AR (quo (k:=4) AB AB) (A4 (((b - a)/4:Nat):Int) AB (A4 ((a+(b - a)/4:Nat):Int) AB (AR (quo (k:=4) AB AB) (A4 (((b - a)/4*2:Nat):Int) AB (A4 ((a+(b - a)/4*2:Nat):Int) AB (AR (quo (k:=4) AB AB) (A4 (((b - a)/4*3:Nat):Int) AB (A4 ((a+(b - a)/4*3:Nat):Int) AB ?_)))))))));refine AJ (S:=λr=>∃u:Nat,r.1=(u:Int)/\a<=u/\u<b) ?_ ?_;refine BJ AB (AJ (S:=λr=>∃x y z w:Nat,r=((x:Int),(y:Int),(z:Int),(w:Int))/\(a<=x/\x<b)/\(a<=y/\y<b)/\(a<=z/\z<b)/\w<=20) ?_ ?_);refine Bw (λk=>?_) (λk=>Ap ⟨_,_,_,0,V,⟨AB,AB⟩,⟨AB,AB⟩,⟨AB,AB⟩,AB⟩);refine AJ (Tr I h (i:=a+(b - a)/4) (k:=0) AB AB AB) ?_;rintro _ ⟨u1,w1,rfl,ac,k1⟩;refine AJ (Tr I h (i:=a+(b - a)/4*2) (k:=w1) AB AB AB) ?_;rintro _ ⟨u2,w2,rfl,e2,ag⟩;refine AJ (Tr I h (i:=a+(b - a)/4*3) (k:=w2) AB AB AB) ?_;rintro _ ⟨U,w3,rfl,ai,aj⟩;exact Ap ⟨u1,u2,U,w3,V,⟨AB,AB⟩,⟨AB,AB⟩,⟨AB,AB⟩,AB⟩;rintro _ ⟨x,y,z,w,rfl,al,am,ap,hw⟩;refine AJ (Xu I h (i:=x) (j:=y) (q:=z) (k:=w) AB AB AB AB) ?_;rintro _ ⟨u,w',rfl,e,_⟩;exact Ap ⟨u,V,AB,AB⟩;rintro⟨_,w⟩ ⟨u,rfl,K,O⟩;exact Bw (λ_=>Ap ⟨u,V,K,O⟩) (λ_=>Bw (λ_=>Ap ⟨u,V,K,O⟩) (λ_=>Ap ⟨u,V,K,O⟩))
theorem ig:((List.range 1025).all λn=>match f177 0 ((n:Nat):Int) with | some m=>decide (n<m/\(m<=2*n∨n=0)/\m<=4096) | none=>false)=true:=by decide+kernel
theorem kz(F:Nat)(x:Int):f177 F x=f177 0 x:=rfl
theorem fU(I:n<=1024)(K:0<n):∃m:Nat,f177 F (n:Int)=some m/\n<m/\m<=2*n/\m<=4096:=by
 have h:=td.1 ig n (s4.2 AB);rw[kz];split at h;rename_i m e;have:=uc h;exact⟨m,e,this.1,AB,this.2.2⟩;cases h
theorem jO{a:Nat}(h:a<2^62):LV a=(a:Int):=V1 h
theorem iG:((List.range 1025).all λn=>match f115 0 (EG ((n:Nat):Int)) with | some m=>decide (0<=m/\m<=100) | none=>false)=true:=by decide+kernel
theorem kh(F:Nat)(x:Nat):f115 F x=f115 0 x:=rfl
end Pal
