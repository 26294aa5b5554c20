/- Bytes as a number: what field.Get tells is a sum. -/
import Derived.Test.YtmedjaegakinnaaGreatDoorLibR
import Derived.Test.YtmedjaegakinnaaGreatDoorLibB
import Derived.Test.YtmedjaegakinnaaGreatDoorLibI
import Derived.Test.YtmedjaegakinnaaGreatDoorLibT
import Derived.Test.YtmedjaegakinnaaGreatDoorLibC
set_option linter.unusedVariables false
set_option maxRecDepth 100000
set_option linter.unusedSimpArgs false
set_option maxHeartbeats 1000000
namespace Go.Proofs.YtmedjaegakinnaaGreatDoor.code
open Go.Ab
def leS (bs:List Int)(p:Nat):Nat->Int
 | 0=>0
 | i+1=>leS bs p i+bs.getD (p+i) 0 * 2 ^ (8 * i)
theorem QtQ {bs:List Int}(aa:∀k,0<=bs.getD k 0∧bs.getD k 0<256)(p:Nat):∀i,0<=leS bs p i∧leS bs p i<2 ^ (8 * i)
 | 0=>⟨B0 _,(show(0:Int)<2 ^ (8 * 0) by decide)⟩
 | i+1=>by
  obtain⟨ad,ae⟩:=QtQ aa p i;obtain⟨ac,ag⟩:=aa (p+i);have e:(2:Int) ^ (8 * (i+1))=256 * 2 ^ (8 * i):=by rw[show 8 * (i+1)=8 * i+8 by omega,Int.pow_add,Hu];rfl
  have ab:(0:Int)<2 ^ (8 * i):=Int.pow_pos (by decide);unfold leS;rw[e];generalize (2:Int) ^ (8 * i)=q at *;constructor;·have:=Int.mul_nonneg ac (Int.le_of_lt ab);omega
  have:bs.getD (p+i) 0 * q<=255 * q:=Int.mul_le_mul_of_nonneg_right (by omega) (Int.le_of_lt ab);omega
theorem QIF (a b:Int)(k:Nat)(ac:0<=a)(ad:0<=b)(q:a<2 ^ k)(h:a+b * 2 ^ k<2 ^ 64):(BitVec.ofInt 64 a ||| BitVec.ofInt 64 (b * 2 ^ k)).toNat=(a+b * 2 ^ k).toNat:=by
 obtain⟨m,rfl⟩:∃m:Nat,a=m:=⟨a.toNat,by omega⟩;obtain⟨n,rfl⟩:∃n:Nat,b=n:=⟨b.toNat,by omega⟩;have e1:((n:Int) * 2 ^ k)=((n * 2 ^ k:Nat):Int):=by rw[Int.natCast_mul,Int.natCast_pow];rfl
 have e2:(2:Int) ^ k=((2 ^ k:Nat):Int):=by rw[Int.natCast_pow];rfl
 rw[e1]at h ⊢;rw[e2]at q;have aa:m<2 ^ k:=by omega
 have ab:m+n * 2 ^ k<2 ^ 64:=by
  have:((2:Int) ^ 64)=((2 ^ 64:Nat):Int):=by decide
  omega
 rw[BitVec.toNat_or];have t:∀x:Nat,x<2 ^ 64->(BitVec.ofInt 64 (x:Int)).toNat=x:=λx hx=>by
  rw[B7];omega
 rw[t m (by omega),t (n * 2 ^ k) (by omega)];have:=Nat.shiftLeft_add_eq_or_of_lt aa n;rw[Nat.shiftLeft_eq]at this;rw[Nat.or_comm,<- this];omega
theorem Qqs {bs:List Int}(q:∀k,0<=bs.getD k 0∧bs.getD k 0<256)(p:Nat):∀i,i<=8->Qlj bs p i=leS bs p i
 | 0,_=>rfl
 | i+1,hi=>by
  obtain⟨ac,ad⟩:=QtQ q p i;obtain⟨ak,ae⟩:=QtQ q p (i+1);obtain⟨aa,aj⟩:=q (p+i);have am:leS bs p (i+1)<2 ^ 64:=Int.lt_of_lt_of_le ae (by
   have:=NP (show 0<2 by decide) (show 8 * (i+1)<=64 by omega);have e:∀k:Nat,(2:Int) ^ k=((2 ^ k:Nat):Int):=λk=>by rw[Int.natCast_pow];rfl
   rw[e,e];omega)
  have ah:min (8 * i) 64=8 * i:=by omega
  have ai:(0:Int)<2 ^ (8 * i):=Int.pow_pos (by decide);have ag:0<=bs.getD (p+i) 0 * 2 ^ (8 * i):=Int.mul_nonneg aa (Int.le_of_lt ai);have an:leS bs p (i+1)=leS bs p i+bs.getD (p+i) 0 * 2 ^ (8 * i):=rfl;unfold Qlj;rw[Qqs q p i (by omega),ah];have ab:∀x:Int,0<=x->x<2 ^ 64->IntKind.u64.wrap x=x:=λx h h'=>by rw[NC];omega
  rw[ab _ aa (by omega),ab _ ag (by omega)];rw[show(IntKind.u64.bits)=64 from rfl,QIF _ _ _ ac aa ad (by omega),ab _ (by omega) (by omega)];omega
def sgn (x:Int)(n:Nat):Int:=if 2 ^ (8 * n - 1)<=x then x - 2 ^ (8 * n) else x
theorem QBf {x:Int}{n:Nat}(ac:n=1∨n=2∨n=4∨n=8)(q:0<=x)(aa:x<2 ^ (8 * n)):Qaz (IntKind.i64.wrap x) (8 * (n:Nat))=sgn x n:=by
 have key:∀k:Int,(k=1∨k=65536 * 65536∨k=65536 * 65536 * 65536∨k=65536 * 65536 * 65536 * 256)->∀m,m * k=18446744073709551616->0<=x->x<m->(IntKind.i64.wrap (IntKind.u64.wrap (IntKind.u64.wrap (IntKind.i64.wrap x) * k))).fdiv k=if m / 2<=x then x - m else x:=by
  intro k ab m ad q aa;rw[Np _ (by omega),NU,NU,NC,NC];rcases ab with rfl | rfl | rfl | rfl
  all_goals split<;>omega
 unfold Qaz sgn;rcases ac with rfl | rfl | rfl | rfl;·rw[show WD (8 * ((1:Nat):Int))=true by decide,Le (by decide)];exact key (65536 * 65536 * 65536 * 256) (.inr (.inr (.inr rfl))) 256 rfl q aa
 ·rw[show WD (8 * ((2:Nat):Int))=true by decide,Le (by decide)];exact key (65536 * 65536 * 65536) (.inr (.inr (.inl rfl))) 65536 rfl q aa
 ·rw[show WD (8 * ((4:Nat):Int))=true by decide,Le (by decide)];exact key (65536 * 65536) (.inr (.inl rfl)) 4294967296 rfl q aa
 rw[show WD (8 * ((8:Nat):Int))=true by decide,Le (by decide)];exact key 1 (.inl rfl) 18446744073709551616 rfl q aa
def leL:List Int->Int
 | []=>0
 | b::l=>b+256 * leL l
theorem Qzu:∀ (l:List Int) (b:Int),leL (l++[b])=leL l+b * 2 ^ (8 * l.length)
 | [],b=>by show b+256 * 0=0+b * 2 ^ (8 * 0);rw[show(2:Int) ^ (8 * 0)=1 by decide];omega
 | x::l,b=>by
  have e:(2:Int) ^ (8 * (x::l).length)=256 * 2 ^ (8 * l.length):=by rw[Lo,show 8 * (l.length+1)=8 * l.length+8 by omega,Int.pow_add,Hu];rfl
  show x+256 * leL (l++[b])=x+256 * leL l+b * _;rw[Qzu l b,e,Int.mul_add,Int.mul_left_comm b];omega
theorem Qzv (bs:List Int)(p:Nat):∀n,p+n<=bs.length->leS bs p n=leL ((bs.drop p).take n)
 | 0,_=>by rw[Rb];rfl
 | n+1,h=>by
  have aa:(bs.drop p).length=bs.length - p:=NT ..;have q:(bs.drop p)[n]? = some (bs.getD (p+n) 0):=by rw[Nk,LX,La (by omega)];rfl
  have ab:(bs.drop p).take (n+1)=(bs.drop p).take n++[bs.getD (p+n) 0]:=by
   rw[Nv,q];rfl
  rw[ab,Qzu,Sb,aa,show min n (bs.length - p)=n by omega,<- Qzv bs p n (by omega)];rfl
theorem QDq:∀ {l:List Int},(∀z∈l,0<=z∧z<256)->0<=leL l∧leL l<2 ^ (8 * l.length)
 | [],_=>⟨B0 _,(show(0:Int)<2 ^ (8 * 0) by decide)⟩
 | b::l,h=>by
  have e:(2:Int) ^ (8 * (b::l).length)=256 * 2 ^ (8 * l.length):=by rw[Lo,show 8 * (l.length+1)=8 * l.length+8 by omega,Int.pow_add,Hu];rfl
  obtain⟨aa,ab⟩:=QDq λz q=>h z (NA _ q);obtain⟨ac,ad⟩:=h b (Ny ..);rw[e];show 0<=b+256 * leL l∧b+256 * leL l<_;omega
def JY (l:List Int):Int:=if l.length=0 then 0 else sgn (leL l) l.length
theorem QDr {bs:List Int}(ab:∀z∈bs,0<=z∧z<256){p n:Nat}(aa:n=1∨n=2∨n=4∨n=8)(h:p+n<=bs.length):Q3 bs p n true=(JY ((bs.drop p).take n),0):=by
 have q:∀k,0<=bs.getD k 0∧bs.getD k 0<256:=λk=>by
  rw[LX];cases ac:bs[k]? with
  | none=>exact⟨B0 _,(show(0:Int)<256 by decide)⟩
  | some z=>exact ab z (Ln ac)
 have ad:((bs.drop p).take n).length=n:=by rw[Sb,NT];omega
 have ae:GA (n:Int)=true:=by rcases aa with rfl | rfl | rfl | rfl<;>rfl
 obtain⟨s1,s2⟩:=QtQ q p n;unfold Q3 JY;rw[ae,Le (by decide),Le (by simp;omega),Le (by omega),Lc rfl,ad,Le (by omega),LG,LG,Qqs q p n (by omega),QBf aa s1 s2,Qzv bs p n h]
def dig (n:Int):Nat->List Int
 | 0=>[]
 | k+1=>n % 256::dig (n / 256) k
theorem QoK:∀ (k:Nat) (n:Int),(dig n k).length=k
 | 0,_=>rfl
 | k+1,n=>by unfold dig;rw[Lo,QoK k]
theorem QDt:∀ (k:Nat) (n:Int),∀z∈dig n k,0<=z∧z<256
 | 0,_,z,h=>by cases h
 | k+1,n,z,h=>by
  unfold dig at h;rcases LK.1 h with rfl | h;·omega
  exact QDt k _ z h
theorem QtT:∀ (k:Nat) (n c:Int),dig (n+c * 256 ^ k) k=dig n k
 | 0,_,_=>rfl
 | k+1,n,c=>by
  unfold dig;have e:n+c * 256 ^ (k+1)=n+256 * (c * 256 ^ k):=by rw[Int.pow_succ,<- Int.mul_assoc,Hu _ 256]
  rw[e];have q:(n+256 * (c * 256 ^ k)) % 256=n % 256:=by omega
  have aa:(n+256 * (c * 256 ^ k)) / 256=n / 256+c * 256 ^ k:=by omega
  rw[q,aa,QtT k]
theorem Qzw:∀ (k:Nat) (n:Int),∃c,leL (dig n k)=n+c * 256 ^ k
 | 0,n=>⟨-n,by show(0:Int)=n+-n * 256 ^ 0;rw[Int.pow_zero];omega⟩
 | k+1,n=>by
  obtain⟨c,h⟩:=Qzw k (n / 256);refine⟨c,?_⟩;show n % 256+256 * leL (dig (n / 256) k)=_;rw[h,Int.pow_succ,<- Int.mul_assoc,Int.mul_add];have:256 * (c * 256 ^ k)=c * 256 ^ k * 256:=Hu ..;omega
theorem QtU:∀ (l:List Int),(∀z∈l,0<=z∧z<256)->dig (leL l) l.length=l
 | [],_=>rfl
 | z::l,h=>by
  have aa:=h z (Ny ..);show(z+256 * leL l) % 256::dig ((z+256 * leL l) / 256) l.length=_;rw[show(z+256 * leL l) % 256=z by omega,show(z+256 * leL l) / 256=leL l by omega,QtU l λy q=>h y (NA _ q)]
theorem Qzx (n:Int):∀ (k i:Nat),i<k->(dig n k)[i]? = some (n / 256 ^ i % 256)
 | 0,_,h=>absurd h (Nat.not_lt_zero _)
 | k+1,0,_=>by show some (n % 256)=_;rw[Int.pow_zero,Int.ediv_one]
 | k+1,i+1,h=>by
  show(dig (n / 256) k)[i]? = _;rw[Qzx (n / 256) k i (by omega),Int.ediv_ediv_of_nonneg (by decide),Int.pow_succ,Hu 256]
theorem QoL (k:Nat):(2:Int) ^ (8 * k)=256 ^ k:=by
 rw[Int.pow_mul];rfl
theorem QlA {k:Nat}(q:k<=8)(n:Int):YY n k=dig n k:=by
 refine BA λi=>?_
 by_cases hi:i<k
 ·rw[Qzx n k i hi];unfold YY;rw[LD,DB hi];show some (Qqu n i)=_;unfold Qqu;rw[Np _ (Int.pow_nonneg (by decide)),NC,FS,BC (by omega),QoL];rcases(show i=0∨i=1∨i=2∨i=3∨i=4∨i=5∨i=6∨i=7 by omega) with rfl | rfl | rfl | rfl | rfl | rfl | rfl | rfl;·rw[show(256:Int) ^ 0=1 from rfl];congr 1;omega
  ·rw[show(256:Int) ^ 1=256 from rfl];congr 1;omega
  ·rw[show(256:Int) ^ 2=65536 from rfl];congr 1;omega
  ·rw[show(256:Int) ^ 3=16777216 from rfl];congr 1;omega
  ·rw[show(256:Int) ^ 4=4294967296 from rfl];congr 1;omega
  ·rw[show(256:Int) ^ 5=1099511627776 from rfl];congr 1;omega
  ·rw[show(256:Int) ^ 6=281474976710656 from rfl];congr 1;omega
  rw[show(256:Int) ^ 7=72057594037927936 from rfl];congr 1;omega
 rw[N7 (by unfold YY;simp;omega),N7 (by rw[QoK];omega)]
theorem QoM {l:List Int}(h:∀z∈l,0<=z∧z<256)(aa:0<l.length)(q:l.length<=8):YY (JY l) l.length=l:=by
 rw[QlA q];unfold JY sgn;rw[Le (by omega)];split;·rw[QoL,show leL l - 256 ^ l.length=leL l+-1 * 256 ^ l.length by omega,QtT,QtU l h]
 exact QtU l h
theorem QtV {k:Nat}(ab:k=1∨k=2∨k=4∨k=8)(n:Int):-(2 ^ (8 * k - 1))<=JY (YY n k)∧JY (YY n k)<2 ^ (8 * k - 1)∧∃c,JY (YY n k)=n+c * 2 ^ (8 * k):=by
 rw[QlA (by omega)];obtain⟨c,aa⟩:=Qzw k n;obtain⟨ac,q⟩:=QDq (QDt k n);rw[QoK]at q;rw[<- QoL]at aa;unfold JY sgn;rw[QoK,Le (by omega)];generalize leL (dig n k)=x at *;rcases ab with rfl | rfl | rfl | rfl
 ·rw[show(2:Int) ^ (8 * 1)=256 from rfl]at *;rw[show(2:Int) ^ (8 * 1 - 1)=128 from rfl];split;·exact⟨by omega,by omega,c - 1,by omega⟩
  exact⟨by omega,by omega,c,by omega⟩
 ·rw[show(2:Int) ^ (8 * 2)=65536 from rfl]at *;rw[show(2:Int) ^ (8 * 2 - 1)=32768 from rfl];split;·exact⟨by omega,by omega,c - 1,by omega⟩
  exact⟨by omega,by omega,c,by omega⟩
 ·rw[show(2:Int) ^ (8 * 4)=4294967296 from rfl]at *;rw[show(2:Int) ^ (8 * 4 - 1)=2147483648 from rfl];split;·exact⟨by omega,by omega,c - 1,by omega⟩
  exact⟨by omega,by omega,c,by omega⟩
 rw[show(2:Int) ^ (8 * 8)=18446744073709551616 from rfl]at *;rw[show(2:Int) ^ (8 * 8 - 1)=9223372036854775808 from rfl];split;·exact⟨by omega,by omega,c - 1,by omega⟩
 exact⟨by omega,by omega,c,by omega⟩
def Byt (B:List Int):Prop:=∀z∈B,0<=z∧z<256
theorem QF4:((List.range 256).all λy=>Qn (QP (y:Nat)).1 (QP (y:Nat)).2.1 (QP (y:Nat)).2.2==(y:Nat)&&decide (0<=(QP (y:Nat)).1∧(QP (y:Nat)).1<4∧0<=(QP (y:Nat)).2.1∧(QP (y:Nat)).2.1<8∧0<=(QP (y:Nat)).2.2∧(QP (y:Nat)).2.2<8))=true:=by kernel_rfl
theorem QjV {y:Int}(q:0<=y)(aa:y<256):Qn (QP y).1 (QP y).2.1 (QP y).2.2=y∧0<=(QP y).1∧(QP y).1<4∧0<=(QP y).2.1∧(QP y).2.1<8∧0<=(QP y).2.2∧(QP y).2.2<8:=by
 obtain⟨k,rfl⟩:∃k:Nat,y=k:=⟨y.toNat,by omega⟩;have h:=Li.1 QF4 k (LU.2 (by omega));rw[Lm,L0,Lv]at h;exact h
theorem Qe0 {h m l:Int}(a:0<=h∧h<4)(b:0<=m∧m<8)(c:0<=l∧l<8):QP (Qn h m l)=(h,m,l)∧0<=Qn h m l∧Qn h m l<256:=by
 have q:0<=Qn h m l∧Qn h m l<256:=by unfold Qn;omega
 obtain⟨aa,ab⟩:=QjV q.1 q.2;refine⟨?_,q⟩;generalize QP (Qn h m l)=s at *;obtain⟨s1,s2,s3⟩:=s;simp only at aa ab;unfold Qn at aa;have e1:s1=h:=by omega
 have e2:s2=m:=by omega
 have e3:s3=l:=by omega
 rw[e1,e2,e3]
theorem QiU {B:List Int}(hB:Byt B){p:Nat}{y:Int}{R:List Int}(h:B.drop p=y::R):Q3 B p 1 false=(y,0)∧B.drop (p+1)=R∧p+1<=B.length∧0<=y∧y<256:=by
 have q:B[p]? = some y:=by have:=congrArg (λl=>l[0]?) h;simpa[Nk] using this
 have ad:=(Lk.1 q).1;have aa:=hB y (Ln q);refine⟨?_,by have:=congrArg (λl=>l.drop 1) h;simpa[Rc] using this,by omega,aa.1,aa.2⟩;have ab:∀k,0<=B.getD k 0∧B.getD k 0<256:=λk=>by
  rw[LX];cases ac:B[k]? with
  | none=>exact⟨B0 _,(show(0:Int)<256 by decide)⟩
  | some z=>exact hB z (Ln ac)
 have e:B.getD p 0=y:=by rw[LX,q];rfl
 unfold Q3;rw[Le (by decide),Le (by simp;omega),Le (by omega),Le (by decide)];show(IntKind.i64.wrap (Qlj B (p:Int).toNat 1),0)=_;rw[LG,Qqs ab p 1 (by decide)];show(IntKind.i64.wrap (0+B.getD (p+0) 0 * 2 ^ (8 * 0)),0)=_;rw[N9,e,show(2:Int) ^ (8 * 0)=1 from rfl,w64 (by unfold I64;omega)];congr 1;omega
theorem QHd {B:List Int}(hB:Byt B){p k:Nat}(ab:k=1∨k=2∨k=4∨k=8){l R:List Int}(h:B.drop p=l++R)(ac:l.length=k):Q3 B p k true=(JY l,0)∧B.drop (p+k)=R∧p+k<=B.length:=by
 have aa:=congrArg List.length h;rw[NT,Lh]at aa;have q:p+k<=B.length:=by omega
 refine⟨?_,?_,q⟩;·rw[QDr hB ab q,h,NO (by omega),LF (by omega)]
 rw[<- Rc,h,<- ac,List.drop_left]
theorem QHe (d:Int)(q:-2147483648<=d∧d<=2147483647):Qqt d 8=true↔-128<=d∧d<=127:=by
 have e:(2:Int) ^ (min (64 - (8:Int)).toNat 64)=72057594037927936:=by decide
 unfold Qqt Qaz;rw[Le (by decide),e,Np _ (by decide),show WD 8=true by decide,LJ,L0,NU,NC,NC];omega
theorem QoN (d:Int)(k:Nat):(YY d k).length=k:=by unfold YY;simp
theorem Qwg (d:Int)(q:-2147483648<=d∧d<=2147483647):(ZE d 4).1=YY d 4:=by
 have e:(2:Int) ^ (min (64 - (32:Int)).toNat 64)=4294967296:=by decide
 have w:QiR d (8 * 4)=true:=by
  unfold QiR Qaz;rw[show(8 * 4:Int)=32 from rfl,Le (by decide),e,Np _ (by decide),show WD 32=true by decide,LJ,Nw,L0,NU,NC,NC];left;omega
 unfold ZE;rw[Le (by decide),w,Le (by decide)];rfl
theorem QKa (d:Int)(q:-128<=d∧d<=127):(ZE d 1).1=YY d 1:=by
 have w:QiR d (8 * 1)=true:=by
  have:=(QHe d (by omega)).2 q;unfold Qqt at this;rw[Lm]at this;unfold QiR;rw[show(8 * 1:Int)=8 from rfl,this.1,this.2];rfl
 unfold ZE;rw[Le (by decide),w,Le (by decide)];rfl
theorem QHf {l:List Int}(h:Byt l)(hk:l.length=1∨l.length=4):(l.length=1->-128<=JY l∧JY l<=127)∧-2147483648<=JY l∧JY l<=2147483647:=by
 have e:=QoM h (by omega) (by omega);obtain⟨q,aa,_⟩:=@QtV l.length (by omega) (JY l);rw[e]at q aa;rcases hk with hk | hk;·rw[hk,show(2:Int) ^ (8 * 1 - 1)=128 from rfl]at q aa;exact⟨λ_=>by omega,by omega,by omega⟩
 rw[hk,show(2:Int) ^ (8 * 4 - 1)=2147483648 from rfl]at q aa;exact⟨λh=>by omega,by omega,by omega⟩
def D32 (d:Int):Prop:=-2147483648<=d∧d<=2147483647
def Qqy (md:Nat)(d:Int):List Int:=if md=0 then[] else if md=1 then YY d 1 else YY d 4
def Qqz (md:Nat)(b d:Int):Prop:=(md=0∧d=0∧¬b % 8=5)∨(md=1∧-128<=d∧d<=127)∨md=2
inductive Way (mid:Int):Mm->Int->Int->List Int->Prop
 | rip (d sz:Int):Way mid ⟨⟨8,0⟩,⟨0,0⟩,0,d,sz⟩ 0 0 (Qn 0 mid 5::YY d 4)
 | abs (d sz:Int):Way mid ⟨⟨0,0⟩,⟨0,0⟩,0,d,sz⟩ 0 0 (Qn 0 mid 4::Qn 0 4 5::YY d 4)
 | idx (i sc d sz:Int) (hi:0<=i∧i<16∧¬i=4) (hs:sc=2∨sc=4∨sc=8):Way mid ⟨⟨0,0⟩,⟨5,i⟩,sc,d,sz⟩ (i / 8) 0 (Qn 0 mid 4::Qn (ZF sc) (i % 8) 5::YY d 4)
 | both (b i sc d sz:Int) (md:Nat) (hb:0<=b∧b<16) (hi:0<=i∧i<16∧¬i=4) (hs:sc=1∨sc=2∨sc=4∨sc=8) (hm:Qqz md b d):Way mid ⟨⟨5,b⟩,⟨5,i⟩,sc,d,sz⟩ (i / 8) (b / 8) (Qn md mid 4::Qn (ZF sc) (i % 8) (b % 8)::Qqy md d)
 | base1 (b d sz:Int) (md:Nat) (hb:0<=b∧b<16) (h4:¬b % 8=4) (hm:Qqz md b d):Way mid ⟨⟨5,b⟩,⟨0,0⟩,0,d,sz⟩ 0 (b / 8) (Qn md mid (b % 8)::Qqy md d)
 | base2 (b d sz:Int) (md:Nat) (hb:0<=b∧b<16) (hm:Qqz md b d):Way mid ⟨⟨5,b⟩,⟨0,0⟩,0,d,sz⟩ 0 (b / 8) (Qn md mid 4::Qn 0 4 (b % 8)::Qqy md d)
 | base3 (b d sz:Int) (hb:0<=b∧b<16∧¬b=4):Way mid ⟨⟨5,b⟩,⟨0,0⟩,0,d,sz⟩ (b / 8) 0 (Qn 0 mid 4::Qn 0 (b % 8) 5::YY d 4)
theorem mW {n:Int}(h:0<=n∧n<16):Xz ⟨5,n⟩=true:=by
 obtain⟨k,rfl⟩:∃k:Nat,n=k:=⟨n.toNat,by omega⟩;have:∀k:Fin 16,Xz ⟨5,((k:Nat):Int)⟩=true:=by decide
 exact this ⟨k,by omega⟩
section
variable {B:List Int} (hB:Byt B) (hl:B.length<=1000000)
include hB hl
theorem QIP {p:Nat}{h mid l x b:Int}{R:List Int}(q:B.drop p=Qn h mid l::R)(aa:0<=h∧h<4)(ac:0<=mid∧mid<8)(ab:0<=l∧l<8)(hx:x=0∨x=1)(ae:b=0∨b=1):rdF B p x b=JV B ((p+1:Nat):Int) h mid l x b:=by
 obtain⟨g1,g2,g3,g4,ad⟩:=QiU hB q;unfold rdF;rw[Le (by simp;omega),g1];show(if((0:Int)==0)=true then JV B (IntKind.i64.wrap ((p:Int)+1)) (QP (Qn h mid l)).1 (QP (Qn h mid l)).2.1 (QP (Qn h mid l)).2.2 x b else _)=_;rw[Lc (by decide),(Qe0 aa ac ab).1,show IntKind.i64.wrap ((p:Int)+1)=((p+1:Nat):Int) by rw[w64 (by unfold I64;omega)];omega]
theorem Qwh {p:Nat}{md fld h aa q x b:Int}{R:List Int}(ab:B.drop p=Qn h aa q::R)(ae:0<=h∧h<4)(ah:0<=aa∧aa<8)(ag:0<=q∧q<8){m:Mm}(ac:Qd1 (Qn h aa q) md x b=(m,0)):K5 B p md fld x b=WC B ((p+1:Nat):Int) md fld m:=by
 obtain⟨g1,g2,g3,g4,ad⟩:=QiU hB ab;unfold K5;rw[g1];show(if((0:Int)==0)=true then(if((Qd1 (Qn h aa q) md x b).2==0)=true then WC B (IntKind.i64.wrap ((p:Int)+1)) md fld (Qd1 (Qn h aa q) md x b).1 else _) else _)=_;rw[Lc (by decide),ac];show(if((0:Int)==0)=true then WC B (IntKind.i64.wrap ((p:Int)+1)) md fld m else _)=_;rw[Lc (by decide),show IntKind.i64.wrap ((p:Int)+1)=((p+1:Nat):Int) by rw[w64 (by unfold I64;omega)];omega]
omit hB hl in
theorem QtY {b l:Int}(q:b=0∨b=1)(hl:0<=l∧l<8):pl8 b l=8 * b+l:=by
 unfold pl8;rw[w64 (n:=8 * b) (by unfold I64;omega),w64 (by unfold I64;omega)]
omit hB hl in
theorem QF5 {h aa q md x b:Int}{m:Mm}(ac:0<=h∧h<4)(ae:0<=aa∧aa<8)(ad:0<=q∧q<8)(ab:Qp0 h aa x=(m,0)):Qd1 (Qn h aa q) md x b=QrB m q md b:=by
 unfold Qd1;rw[(Qe0 ac ae ad).1];simp only[ab];rfl
end
section
variable {B:List Int} (hB:Byt B) (hl:B.length<=1000000)
include hB hl
omit hB hl in
theorem QHi {p:Nat}(h:(Q3 B p 1 false).2=0):∃y R,B.drop p=y::R:=by
 have q:=(VA h).2;have:p<B.length:=by omega
 exact⟨B[p],B.drop (p+1),Nh this⟩
omit hl in
theorem QDP {p k:Nat}(ac:k=1∨k=2∨k=4∨k=8)(h:(Q3 B p k true).2=0):∃l R,l.length=k∧B.drop p=l++R∧Byt l∧(Q3 B p k true).1=JY l∧l=YY (JY l) k:=by
 have ae:=(VA h).2;have q:((B.drop p).take k).length=k:=by rw[Sb,NT];omega
 have ab:B.drop p=(B.drop p).take k++(B.drop p).drop k:=(NW ..).symm;have aa:Byt ((B.drop p).take k):=λz ad=>hB z (List.mem_of_mem_drop (List.mem_of_mem_take ad));refine⟨_,_,q,ab,aa,by rw[(QHd hB ac ab q).1],?_⟩;have:=QoM aa (by omega) (by omega);rw[q]at this;exact this.symm
theorem Qub {p:Nat}{md fld:Int}{m:Mm}{s:Sn}(aa:WK md m=4)(h:WC B p md fld m=(s,0)):∃d R,D32 d∧B.drop p=YY d 4++R∧Qv {m with d:=d}=0∧s=⟨fld,-1,QH {m with d:=d},((p+4:Nat):Int)⟩:=by
 have q:(Q3 B p 4 true).2=0:=by
  unfold WC at h;rw[aa,Le (by decide)]at h
  by_cases z:((Q3 B p 4 true).2==0)=true;·exact eq_of_beq z
  rw[Le z]at h;have:=congrArg Prod.snd h;exact this
 obtain⟨l,R,k1,k2,k3,k4,k5⟩:=QDP hB (.inr (.inr (.inl rfl))) q;have k6:=(QHf k3 (.inr k1)).2;have k4:(Q3 B p 4 true).1=JY l:=k4;unfold WC at h;rw[aa,Le (by decide),Lc (by rw[q];rfl),k4,show IntKind.i64.wrap ((p:Int)+4)=((p+4:Nat):Int) by rw[w64 (by have:=(VA q).2;unfold I64;omega)];omega]at h;refine⟨JY l,R,k6,by rw[<- k5];exact k2,?_⟩;unfold Qd2 at h
 by_cases c:Qv {m with d:=JY l}=0;·refine⟨c,?_⟩;unfold Zf at h;rw[Lc c]at h;exact(congrArg Prod.fst h).symm
 unfold Zf at h;rw[Le c,Le (by simpa using c)]at h;have:=congrArg Prod.snd h;cases this
theorem Qyl {p md:Nat}{fld b:Int}{m:Mm}{s:Sn}(ae:p<=B.length)(ad:md<3)(ab:m.b.c=5)(aa:m.d=0)(ac:md=0->¬b % 8=5)(h:WC B p md fld m=(s,0)):∃d R,D32 d∧Qqz md b d∧B.drop p=Qqy md d++R∧Qv {m with d:=d}=0∧s=⟨fld,-1,QH {m with d:=d},((p+(Qqy md d).length:Nat):Int)⟩:=by
 rcases(show md=0∨md=1∨md=2 by omega) with rfl | rfl | rfl
 ·have e:WK ((0:Nat):Int) m=0:=by unfold WK;rw[ab];rfl
  have e2:{m with d:=0}=m:=by obtain⟨b,i,sc,d,sz⟩:=m;simp only at aa;subst aa;rfl
  unfold WC at h;rw[e,Lc (by decide)]at h;refine⟨0,B.drop p,by unfold D32;omega,.inl ⟨rfl,rfl,ac rfl⟩,rfl,?_⟩;rw[e2];unfold Qd2 Zf at h
  by_cases c:Qv m=0;·rw[Lc c]at h;exact⟨c,(congrArg Prod.fst h).symm⟩
  rw[Le c,Le (by simpa using c)]at h;have:=congrArg Prod.snd h;cases this
 ·have e:WK ((1:Nat):Int) m=1:=by unfold WK;rfl
  have q:(Q3 B p 1 true).2=0:=by
   unfold WC at h;rw[e,Le (by decide)]at h
   by_cases z:((Q3 B p 1 true).2==0)=true;·exact eq_of_beq z
   rw[Le z]at h;have:=congrArg Prod.snd h;exact this
  obtain⟨l,R,k1,k2,k3,k4,k5⟩:=QDP hB (.inl rfl) q;have k6:=QHf k3 (.inl k1);have k4:(Q3 B p 1 true).1=JY l:=k4;unfold WC at h;rw[e,Le (by decide),Lc (by rw[q];rfl),k4,show IntKind.i64.wrap ((p:Int)+1)=((p+1:Nat):Int) by rw[w64 (by have:=(VA q).2;unfold I64;omega)];omega]at h;refine⟨JY l,R,k6.2,.inr (.inl ⟨rfl,k6.1 k1⟩),by show _=YY _ 1++_;rw[<- k5];exact k2,?_⟩;unfold Qd2 at h
  by_cases c:Qv {m with d:=JY l}=0;·refine⟨c,?_⟩;unfold Zf at h;rw[Lc c]at h;exact(congrArg Prod.fst h).symm
  unfold Zf at h;rw[Le c,Le (by simpa using c)]at h;have:=congrArg Prod.snd h;cases this
 have e:WK ((2:Nat):Int) m=4:=by unfold WK;rfl
 obtain⟨d,R,k1,k2,k3,k4⟩:=Qub hB hl e h;exact⟨d,R,k1,.inr (.inr rfl),k2,k3,k4⟩
omit hB hl in
theorem QBo {h:Int}(q:0<=h∧h<4):∃sc,IntKind.i64.wrap (1 * 2 ^ (min h.toNat 64))=sc∧(sc=1∨sc=2∨sc=4∨sc=8)∧ZF sc=h:=by
 rcases(show h=0∨h=1∨h=2∨h=3 by omega) with rfl | rfl | rfl | rfl;·exact⟨1,by decide,by omega,by decide⟩
 ·exact⟨2,by decide,by omega,by decide⟩
 ·exact⟨4,by decide,by omega,by decide⟩
 exact⟨8,by decide,by omega,by decide⟩
theorem QIY {p:Nat}(aX:p<=B.length){x b:Int}(hx:x=0∨x=1)(an:b=0∨b=1){s:Sn}(h:rdF B p x b=(s,0)):
  (∃low R,(0<=low∧low<8)∧(0<=s.fld∧s.fld<8)∧x=0∧B.drop p=Qn 3 s.fld low::R∧s=⟨s.fld,8 * b+low,Wa,((p+1:Nat):Int)⟩) ∨
  (∃bs R,s.reg=-1∧(0<=s.fld∧s.fld<8)∧D32 s.m.d∧s.m.sz=0∧Way s.fld s.m x b bs∧B.drop p=bs++R∧s.ends=((p+bs.length:Nat):Int)):=by
 have aN:(Q3 B p 1 false).2=0:=by
  unfold rdF at h;rw[Le (by simp;omega)]at h
  by_cases z:((Q3 B p 1 false).2==0)=true;·exact eq_of_beq z
  rw[Le z]at h;exact congrArg Prod.snd h
 obtain⟨y,R,ao⟩:=QHi aN;obtain⟨g1,g2,g3,g4,aM⟩:=QiU hB ao;obtain⟨aH,s1,s2,s3,s4,s5,ax⟩:=QjV g4 aM;generalize QP y=q at *;obtain⟨md,mid,rm⟩:=q;simp only at aH s1 s2 s3 s4 s5 ax;subst aH;rw[QIP hB hl ao ⟨s1,s2⟩ ⟨s3,s4⟩ ⟨s5,ax⟩ hx an]at h;have err:∀ {n:Int},((QK,n):Sn×Int)=(s,0)->n=0:=λe=>congrArg Prod.snd e;unfold JV at h
 by_cases aj:(x==1&&(md==3||!(rm==4)))=true;·rw[Lc aj]at h;exact absurd (err h) (by decide)
 rw[Le aj]at h;have aj:x=1->¬md=3∧rm=4:=λaQ=>by simp[aQ]at aj;exact aj
 by_cases ak:(md==3)=true;·rw[Lc ak]at h;have ak:=eq_of_beq ak;subst ak;left;have aC:=(congrArg Prod.fst h).symm;simp only at aC;rw[QtY an ⟨s5,ax⟩]at aC;subst aC;exact⟨rm,R,⟨s5,ax⟩,⟨s3,s4⟩,by rcases hx with h | h;exact h;exact absurd rfl (aj h).1,ao,rfl⟩
 rw[Le ak]at h;have ak:¬md=3:=by simpa using ak
 obtain⟨ab,rfl⟩:∃n:Nat,md=n:=⟨md.toNat,by omega⟩;have aB:ab<3:=by omega
 right
 by_cases ah:(rm==4)=true
 ·rw[Lc ah]at h;have ah:=eq_of_beq ah;subst ah;have aO:(Q3 B ((p+1:Nat):Int) 1 false).2=0:=by
   unfold K5 at h
   by_cases z:((Q3 B ((p+1:Nat):Int) 1 false).2==0)=true;·exact eq_of_beq z
   rw[Le z]at h;exact err h |>.symm▸rfl
  obtain⟨z,R2,az⟩:=QHi aO;obtain⟨aF,av,aG,aK,aL⟩:=QiU hB az;obtain⟨aI,t1,t2,ap,aq,ar,au⟩:=QjV aK aL;generalize QP z=q at *;obtain⟨hi,ac,aa⟩:=q;simp only at aI t1 t2 ap aq ar au;subst aI;have aw:B.drop p=Qn ab mid 4::Qn hi ac aa::R2:=by rw[ao,<- az,g2]
  have base:∀m:Mm,m.d=0->(∃s1:Int,Qp0 hi ac x=(m,s1)∧s1=0)->K5 B ((p+1:Nat):Int) ab mid x b=(s,0)->(¬ (aa=5∧ab=0)∧WC B ((p+1+1:Nat):Int) ab mid {m with b:=⟨5,8 * b+aa⟩}=(s,0))∨(aa=5∧ab=0∧b=0∧WC B ((p+1+1:Nat):Int) ab mid m=(s,0)):=by
   rintro m aW ⟨_,aD,rfl⟩ h;have e:=QF5 (md:=(ab:Int)) (b:=b) ⟨t1,t2⟩ ⟨ap,aq⟩ ⟨ar,au⟩ aD
   by_cases c:(!(aa==5)||!((ab:Int)==0))=true
   ·left;have e2:QrB m aa ab b=({m with b:=⟨5,8 * b+aa⟩},0):=by unfold QrB;rw[Lc c,QtY an ⟨ar,au⟩]
    rw[Qwh hB hl az ⟨t1,t2⟩ ⟨ap,aq⟩ ⟨ar,au⟩ (e.trans e2)]at h;exact⟨by simp at c;omega,h⟩
   right;have aE:aa=5∧ab=0:=by simp at c;omega
   rcases an with rfl | rfl
   ·have e2:QrB m aa ab 0=(m,0):=by unfold QrB;rw[Le c,Le (by decide)]
    rw[Qwh hB hl az ⟨t1,t2⟩ ⟨ap,aq⟩ ⟨ar,au⟩ (e.trans e2)]at h;exact⟨aE.1,aE.2,rfl,h⟩
   have e2:QrB m aa ab 1=(Wa,4):=by unfold QrB;rw[Le c,Lc (by decide)]
   unfold K5 at h;rw[aF,e.trans e2]at h;exact absurd (show(4:Int)=0 from congrArg Prod.snd h) (by decide)
  by_cases ag:(!(ac==4)||x==1)=true
  ·obtain⟨sc,aS,aT,ay⟩:=QBo ⟨t1,t2⟩;have aD:Qp0 hi ac x=(⟨⟨0,0⟩,⟨5,8 * x+ac⟩,sc,0,0⟩,0):=by unfold Qp0;rw[Lc ag,aS,QtY hx ⟨ap,aq⟩];rfl
   have ag:¬ (ac=4∧x=0):=by simp at ag;omega
   have am:(8 * x+ac) / 8=x∧(8 * x+ac) % 8=ac:=by omega
   have ai:(8 * b+aa) / 8=b∧(8 * b+aa) % 8=aa:=by omega
   rcases base _ rfl ⟨0,aD,rfl⟩ h with⟨aJ,h'⟩ | ⟨rfl,rfl,rfl,h'⟩
   ·obtain⟨d,R3,k1,k2,k3,k4,rfl⟩:=Qyl hB hl (b:=8 * b+aa) aG aB rfl rfl (by omega) h';have ae:QH ⟨⟨5,8 * b+aa⟩,⟨5,8 * x+ac⟩,sc,d,0⟩=⟨⟨5,8 * b+aa⟩,⟨5,8 * x+ac⟩,sc,d,0⟩:=by
     unfold QH;split;·rfl
     rw[Le (by simp[isR]),Le (by simp;omega)]
    have ad:=Way.both (mid:=mid) (8 * b+aa) (8 * x+ac) sc d 0 ab (by omega) (by omega) aT k2;rw[am.1,am.2,ai.1,ai.2,ay]at ad;simp only[ae];refine⟨_,R3,by trivial,⟨s3,s4⟩,k1,by trivial,ad,by rw[aw,<- av,k3];rfl,?_⟩;show((p+1+1+(Qqy ab d).length:Nat):Int)=_;simp only[Lo];omega
   obtain⟨d,R3,k1,k2,k3,rfl⟩:=Qub hB hl (by rfl) h';rcases(show sc=1∨(sc=2∨sc=4∨sc=8) by omega) with rfl | w2'
   ·have ae:QH ⟨⟨0,0⟩,⟨5,8 * x+ac⟩,1,d,0⟩=⟨⟨5,8 * x+ac⟩,⟨0,0⟩,0,d,0⟩:=by unfold QH;simp[isR]
    have ad:=Way.base3 (mid:=mid) (8 * x+ac) d 0 (by omega);rw[am.1,am.2]at ad;have ay:hi=0:=by rw[<- ay];decide
    subst ay;simp only[ae];refine⟨_,R3,by trivial,⟨s3,s4⟩,k1,by trivial,ad,by rw[aw,<- av,k2];rfl,?_⟩;show((p+1+1+4:Nat):Int)=_;simp only[Lo,QoN]
   have ae:QH ⟨⟨0,0⟩,⟨5,8 * x+ac⟩,sc,d,0⟩=⟨⟨0,0⟩,⟨5,8 * x+ac⟩,sc,d,0⟩:=by unfold QH;rw[Lc (by simp;omega)]
   have ad:=Way.idx (mid:=mid) (8 * x+ac) sc d 0 (by omega) w2';rw[am.1,am.2,ay]at ad;simp only[ae];refine⟨_,R3,by trivial,⟨s3,s4⟩,k1,by trivial,ad,by rw[aw,<- av,k2];rfl,?_⟩;show((p+1+1+4:Nat):Int)=_;simp only[Lo,QoN]
  have aA:ac=4∧x=0:=by simp at ag;omega
  obtain⟨rfl,rfl⟩:=aA;have aR:hi=0:=by
   rcases Int.lt_trichotomy hi 0 with aV | e | aU;·omega
   ·exact e
   exfalso;have e:Qp0 hi 4 0=(Wa,4):=by unfold Qp0;rw[Le (by decide),Lc (by simp;omega)]
   unfold K5 Qd1 at h;rw[aF]at h;simp only[(Qe0 ⟨t1,t2⟩ ⟨ap,aq⟩ ⟨ar,au⟩).1,e]at h;exact absurd (show(4:Int)=0 from congrArg Prod.snd h) (by decide)
  subst aR;have ai:(8 * b+aa) / 8=b∧(8 * b+aa) % 8=aa:=by omega
  rcases base Wa rfl ⟨0,rfl,rfl⟩ h with⟨aJ,h'⟩ | ⟨rfl,rfl,rfl,h'⟩;·obtain⟨d,R3,k1,k2,k3,k4,rfl⟩:=Qyl hB hl (b:=8 * b+aa) aG aB rfl rfl (by omega) h';have ae:QH {({Wa with b:=⟨5,8 * b+aa⟩}:Mm) with d:=d}=⟨⟨5,8 * b+aa⟩,⟨0,0⟩,0,d,0⟩:=rfl;have ad:=Way.base2 (mid:=mid) (8 * b+aa) d 0 ab (by omega) k2;rw[ai.1,ai.2]at ad;simp only[ae];refine⟨_,R3,by trivial,⟨s3,s4⟩,k1,by trivial,ad,by rw[aw,<- av,k3];rfl,?_⟩;show((p+1+1+(Qqy ab d).length:Nat):Int)=_;simp only[Lo];omega
  obtain⟨d,R3,k1,k2,k3,rfl⟩:=Qub hB hl (by rfl) h';have ae:QH {Wa with d:=d}=⟨⟨0,0⟩,⟨0,0⟩,0,d,0⟩:=rfl;simp only[ae];refine⟨_,R3,by trivial,⟨s3,s4⟩,k1,by trivial,Way.abs (mid:=mid) d 0,by rw[aw,<- av,k2];rfl,?_⟩;show((p+1+1+4:Nat):Int)=_;simp only[Lo,QoN]
 rw[Le ah]at h;have ah:¬rm=4:=by simpa using ah
 have aP:x=0:=by
  rcases hx with h | h;·exact h
  exact absurd (aj h).2 ah
 subst aP
 by_cases ag:((ab:Int)==0&&rm==5)=true
 ·rw[Lc ag]at h;have aA:ab=0∧rm=5:=by simp at ag;omega
  obtain⟨rfl,rfl⟩:=aA;rcases an with rfl | rfl;·rw[Le (by decide)]at h;obtain⟨d,R3,k1,k2,k3,rfl⟩:=Qub hB hl (by rfl) h;have ae:QH {({Wa with b:=⟨8,0⟩}:Mm) with d:=d}=⟨⟨8,0⟩,⟨0,0⟩,0,d,0⟩:=rfl;simp only[ae];refine⟨_,R3,by trivial,⟨s3,s4⟩,k1,by trivial,Way.rip (mid:=mid) d 0,by rw[ao,<- g2,k2];rfl,?_⟩;show((p+1+4:Nat):Int)=_;simp only[Lo,QoN]
  rw[Lc (by decide)]at h;exact absurd (err h) (by decide)
 rw[Le ag,QtY an ⟨s5,ax⟩]at h;have ag:¬ (ab=0∧rm=5):=by simp at ag;omega
 have ai:(8 * b+rm) / 8=b∧(8 * b+rm) % 8=rm:=by omega
 obtain⟨d,R3,k1,k2,k3,k4,rfl⟩:=Qyl hB hl (b:=8 * b+rm) g3 aB rfl rfl (by omega) h;have ae:QH {({Wa with b:=⟨5,8 * b+rm⟩}:Mm) with d:=d}=⟨⟨5,8 * b+rm⟩,⟨0,0⟩,0,d,0⟩:=rfl;have ad:=Way.base1 (mid:=mid) (8 * b+rm) d 0 ab (by omega) (by omega) k2;rw[ai.1,ai.2]at ad;simp only[ae];refine⟨_,R3,by trivial,⟨s3,s4⟩,k1,by trivial,ad,by rw[ao,<- g2,k3];rfl,?_⟩;show((p+1+(Qqy ab d).length:Nat):Int)=_;simp only[Lo];omega
end
theorem rV5 {n:Int}(h:0<=n∧n<16):Wv ⟨5,n⟩=true:=QtL (mW h)
theorem QrT {n:Int}(h:0<=n∧n<16):WY ⟨5,n⟩=n % 8∧XS ⟨5,n⟩=n / 8:=by
 unfold WY XS;rw[rV5 h];exact⟨rfl,rfl⟩
theorem Qym {r:Rg}(h:Xz r=true):∃n,r=⟨5,n⟩∧0<=n∧n<16:=by
 obtain⟨c,n⟩:=r;have q:=Qyc h;have aa:=QtL h;simp only at q;subst q;unfold Wv Qf6 at aa;simp at aa;exact⟨n,rfl,by omega,by omega⟩
inductive Shp:Mm->Prop
 | rip (d sz:Int):Shp ⟨⟨8,0⟩,⟨0,0⟩,0,d,sz⟩
 | abs (d sz:Int):Shp ⟨⟨0,0⟩,⟨0,0⟩,0,d,sz⟩
 | idx (i sc d sz:Int) (hi:0<=i∧i<16∧¬i=4) (hs:sc=2∨sc=4∨sc=8):Shp ⟨⟨0,0⟩,⟨5,i⟩,sc,d,sz⟩
 | both (b i sc d sz:Int) (hb:0<=b∧b<16) (hi:0<=i∧i<16∧¬i=4) (hs:sc=1∨sc=2∨sc=4∨sc=8):Shp ⟨⟨5,b⟩,⟨5,i⟩,sc,d,sz⟩
 | base (b d sz:Int) (hb:0<=b∧b<16):Shp ⟨⟨5,b⟩,⟨0,0⟩,0,d,sz⟩
theorem QIZ {m:Mm}(h:QDj m):Shp m:=by
 obtain⟨am,an,ab,ad⟩:=QeW h.chk;have aa:=h.idem;obtain⟨bb,ao,sc,d,sz⟩:=m;simp only at ab ad;rcases ad with⟨ae,ac⟩ | ⟨ae,ac,ag,ah,ai⟩
 ·rw[QhL.1 ae];subst ac;rcases ab with h | h | h;·rw[QhL.1 h];exact .abs _ _
  ·rw[QhL.1 h];exact .rip _ _
  obtain⟨b,rfl,q⟩:=Qym h;exact .base _ _ _ q
 obtain⟨i,rfl,hi⟩:=Qym ac;have aj:sc=1∨sc=2∨sc=4∨sc=8:=by unfold WF at ag;simp at ag;omega
 have hi4:i=4->sc=1∧isR bb 5 4=false:=λh=>ai (by subst h;rfl);rcases ab with h | h | h
 ·have q:=QhL.1 h;subst q;have ak:¬sc=1:=by
   rintro rfl;unfold QH at aa;simp[isR]at aa
  exact .idx _ _ _ _ ⟨hi.1,hi.2,λe=>ak (hi4 e).1⟩ (by omega)
 ·rw[h]at ah;cases ah
 obtain⟨b,rfl,q⟩:=Qym h;refine .both _ _ _ _ _ q ⟨hi.1,hi.2,λe=>?_⟩ aj;obtain⟨e1,e2⟩:=hi4 e;subst e e1;unfold QH at aa;simp[isR]at aa e2;omega
theorem Qwq {b d sc sz:Int}{i:Rg}(q:0<=b∧b<16)(aa:D32 d){md:Nat}(ab:md<3):QDw md ⟨⟨5,b⟩,i,sc,d,sz⟩=true↔Qqz md b d:=by
 unfold QDw Qqz;rcases(show md=0∨md=1∨md=2 by omega) with rfl | rfl | rfl;·simp[(QrT q).1]
 ·simp[QHe d aa]
 simp
theorem QzH {b d sc sz:Int}{i:Rg}(aa:D32 d){md:Nat}(ab:Qqz md b d):Qf8 md ⟨⟨5,b⟩,i,sc,d,sz⟩=Qqy md d:=by
 unfold Qf8 Qqy;rcases ab with⟨rfl,_⟩ | ⟨rfl,q⟩ | rfl;·rfl
 ·rw[Le (by decide),Lc rfl,Le (by decide),Lc rfl];exact QKa d q
 rw[Le (by decide),Le (by decide),Le (by decide),Le (by decide)];exact Qwg d aa
theorem QlL {mid rm b d sc sz:Int}{i:Rg}{sib:List Int}(ab:0<=b∧b<16)(ac:D32 d){w:Ld}:w∈Xr mid rm sib ⟨⟨5,b⟩,i,sc,d,sz⟩↔∃md:Nat,Qqz md b d∧w=⟨Qn md mid rm::(sib++Qqy md d),XS i,b / 8⟩:=by
 unfold Xr;rw[NF];constructor
 ·rintro⟨md,q,aa⟩;have q:=LU.1 q;unfold Zh at aa;split at aa;·rename_i ag;have ad:=(Qwq ab ac q).1 ag;rw[Sa.1 aa,QzH ac ad,(QrT ab).2];exact⟨md,ad,by simp⟩
  cases aa
 rintro⟨md,q,rfl⟩;have ae:md<3:=by unfold Qqz at q;omega
 refine⟨md,LU.2 ae,?_⟩;unfold Zh;rw[Lc ((Qwq ab ac ae).2 q),QzH ac q,(QrT ab).2];simp
theorem QDQ {m:Mm}(h:QDj m)(ab:D32 m.d)(mid:Int)(w:Ld):w∈Y3 mid m↔Way mid m w.x w.h w.b:=by
 have am:=QIZ h;cases am with
 | rip d sz=>
  have e:Y3 mid ⟨⟨8,0⟩,⟨0,0⟩,0,d,sz⟩=[⟨Qn 0 mid 5::YY d 4,0,0⟩]:=by unfold Y3;rw[Lc (by simp),<- Qwg d ab];rfl
  rw[e,Sa];constructor;·rintro rfl;exact .rip _ _
  obtain⟨bs,x,h⟩:=w;intro ac;cases ac;rfl
 | abs d sz=>
  have e:Y3 mid ⟨⟨0,0⟩,⟨0,0⟩,0,d,sz⟩=[⟨Qn 0 mid 4::Qn 0 4 5::YY d 4,0,0⟩]:=by
   unfold Y3 GP;rw[Le (by simp),Lc (by simp[isR]),<- Qwg d ab];rfl
  rw[e,Sa];constructor;·rintro rfl;exact .abs _ _
  obtain⟨bs,x,h⟩:=w;intro ac;cases ac;rfl
 | idx i sc d sz hi ak=>
  have ad:0<=i∧i<16:=⟨hi.1,hi.2.1⟩;have e:Y3 mid ⟨⟨0,0⟩,⟨5,i⟩,sc,d,sz⟩=[⟨Qn 0 mid 4::Qn (ZF sc) (i % 8) 5::YY d 4,i / 8,0⟩]:=by
   unfold Y3 GP;rw[Le (by simp),Lc (by simp[isR]),<- Qwg d ab,<- (QrT ad).1,<- (QrT ad).2];rfl
  rw[e,Sa];constructor;·rintro rfl;exact .idx _ _ _ _ hi ak
  obtain⟨bs,x,h⟩:=w;intro ac;cases ac;rfl
 | both b i sc d sz q hi ak=>
  have ad:0<=i∧i<16:=⟨hi.1,hi.2.1⟩;have e:Y3 mid ⟨⟨5,b⟩,⟨5,i⟩,sc,d,sz⟩=Xr mid 4 [Qn (ZF sc) (i % 8) (b % 8)] ⟨⟨5,b⟩,⟨5,i⟩,sc,d,sz⟩:=by
   unfold Y3;rw[Le (by simp),Le (by simp[isR]),Lc (by simp[isR]),<- (QrT ad).1,<- (QrT q).1]
  rw[e,QlL q ab,(QrT ad).2];constructor;·rintro⟨md,aa,rfl⟩;exact .both _ _ _ _ _ _ q hi ak aa
  obtain⟨bs,x,h⟩:=w;intro ac;cases ac with
  | both _ _ _ _ _ md _ _ _ ae=>exact⟨md,ae,rfl⟩
 | base b d sz q=>
  have e:Y3 mid ⟨⟨5,b⟩,⟨0,0⟩,0,d,sz⟩=(if(b % 8==4)=true then[] else Xr mid (b % 8) [] ⟨⟨5,b⟩,⟨0,0⟩,0,d,sz⟩)++(Xr mid 4 [Qn 0 4 (b % 8)] ⟨⟨5,b⟩,⟨0,0⟩,0,d,sz⟩++(if(b==4)=true then[] else[⟨Qn 0 mid 4::Qn 0 (b % 8) 5::YY d 4,b / 8,0⟩])):=by
   unfold Y3 GP;rw[Le (by simp),Le (by simp[isR]),Le (by simp[isR]),(QrT q).1,(QrT q).2,Qwg d ab];rfl
  have ag:XS ⟨0,0⟩=0:=by decide
  rw[e,LI,LI];constructor
  ·rintro(aa | aa | aa)
   ·split at aa;·cases aa
    rename_i ah;obtain⟨md,ai,rfl⟩:=(QlL q ab).1 aa;rw[ag];exact .base1 _ _ _ _ q (by simpa using ah) ai
   ·obtain⟨md,ai,rfl⟩:=(QlL q ab).1 aa;rw[ag];exact .base2 _ _ _ _ q ai
   split at aa;·cases aa
   rename_i ah;rw[Sa.1 aa];exact .base3 _ _ _ ⟨q.1,q.2,by simpa using ah⟩
  obtain⟨bs,x,h⟩:=w;intro ac;cases ac with
  | base1 _ _ _ md _ aj ae=>
   left;rw[Le (by simpa using aj)];exact(QlL q ab).2 ⟨md,ae,by rw[ag];rfl⟩
  | base2 _ _ _ md _ ae=>
   right;left;exact(QlL q ab).2 ⟨md,ae,by rw[ag];rfl⟩
  | base3 _ _ _ aj=>
   right;right;rw[Le (by simpa using aj.2.2)];exact Sa.2 rfl
inductive Qoq (f:Fm):Int->Int->Int->Int->Bool->List Int->Prop
 | no (hv:f.vex=false) (hw:f.w=0):Qoq f 0 0 0 0 false (QaN f.pre++Gb f.map)
 | rex (r x b:Int) (hv:f.vex=false) (hr:r=0∨r=1) (hx:x=0∨x=1) (hb:b=0∨b=1):Qoq f r x b 0 true (QaN f.pre++((64+VP f.w r x b)::Gb f.map))
 | two (y:Vx) (hy:y.Ok) (hv:f.vex=true) (hm:f.map=1∧y.mp=1) (hw:f.w=-1∨f.w=0) (hl:y.l=f.l) (hp:y.pre=f.pre) (hx:y.x=0∧y.b=0):Qoq f y.r 0 0 y.v false [197,vb2 y]
 | long (y:Vx) (hy:y.Ok) (hv:f.vex=true) (hm:y.mp=f.map) (hw:f.w=-1∨y.w=f.w) (hl:y.l=f.l) (hp:y.pre=f.pre):Qoq f y.r y.x y.b y.v false (Jn y)
theorem QDR {p:Int}(h:0<=p∧p<=5):(Q4 p).map (λz=>(z.toNat:Int))=QaN p:=by
 rcases(show p=0∨p=1∨p=2∨p=3∨p=4∨p=5 by omega) with rfl | rfl | rfl | rfl | rfl | rfl<;>decide
theorem QDS (m:Int):(WG m).map (λz=>(z.toNat:Int))=Gb m:=by
 unfold WG Gb;cases m==1
 ·cases m==2;·cases m==3<;>rfl
  rfl
 rfl
section
variable {B:List Int} (hB:Byt B) (hl:B.length<=1000000)
include hB hl
theorem QzI {c:Rr}{p:Nat}{n:Int}{R:List Int}(ab:c.p=p)(q:B.drop p=n::R):Wd B c n=(0,{c with p:=((p+1:Nat):Int)}):=by
 obtain⟨_,g2,g3,g4,ac⟩:=QiU hB q;have aa:B[p]? = some n:=by have:=congrArg (λl=>l[0]?) q;simpa[Nk] using this
 have e:B.getD p 0=n:=by rw[LX,aa];rfl
 have e1:Qb6 B c.p n=(0,((p+1:Nat):Int)):=by
  unfold Qb6;rw[ab,Le (by omega),LG,e,w64 (n:=n) (by unfold I64;omega),Le (by simp),w64 (by unfold I64;omega)];rfl
 unfold Wd;rw[e1]
theorem Quc (l:List UInt8)(c:Rr)(p:Nat)(q:c.p=p)(ai:p<=B.length)(h:(JW B l c).1=0):∃R,B.drop p=l.map (λz=>(z.toNat:Int))++R∧(JW B l c).2={c with p:=((p+l.length:Nat):Int)}:=by
 obtain⟨aa,ah,ab⟩:=QhK hl l c ⟨by omega,by omega⟩ h;have ad:WO B:=λz ag=>by have:=hB z ag;omega
 have ac:=seg ad l p (λj ae=>by have:=ab j ae;rw[q]at this;exact this) (by omega);refine⟨_,ac,?_⟩;rw[aa,q];congr 1
end
theorem QGj {n:Int}(h:0<=n∧n<16):n=VP (YF n.toNat 4 3) (YF n.toNat 4 2) (YF n.toNat 4 1) (YF n.toNat 4 0):=by
 obtain⟨k,rfl⟩:∃k:Nat,n=k:=⟨n.toNat,by omega⟩;have:∀k:Fin 16,((k:Nat):Int)=VP (YF (((k:Nat):Int)).toNat 4 3) (YF (((k:Nat):Int)).toNat 4 2) (YF (((k:Nat):Int)).toNat 4 1) (YF (((k:Nat):Int)).toNat 4 0):=by decide
 exact this ⟨k,by omega⟩
theorem QoR (n i k:Nat):YF n i k=0∨YF n i k=1:=by unfold YF;split<;>simp
section
variable {B:List Int} (hB:Byt B) (hl:B.length<=1000000) {f:Fm} (ho:FOk f)
include hB hl ho
theorem QGk {c:Rr}(ab:c.x.f=f)(aG:c.p=0)(aL:c.rex=false∧c.r=0∧c.xx=0∧c.bb=0∧c.v=0)(an:f.vex=false)(h:(Kt B c).1=0):
  ∃r x b aa ak R,Qoq f r x b 0 aa ak∧B=ak++R∧Xu f r x b=true∧(r=0∨r=1)∧(x=0∨x=1)∧(b=0∨b=1)∧(Kt B c).2={c with p:=(ak.length:Nat),rex:=aa,r:=r,xx:=x,bb:=b,v:=0}:=by
 have aP:=ho.w an;obtain⟨ap,ah,ai,aj,ae⟩:=aL;have aq:=QDR ho.pre;have am:=QDS f.map;have aN:(Q4 f.pre).length=(QaN f.pre).length:=by rw[<- aq,Nn]
 have le:(WG f.map).length=(Gb f.map).length:=by rw[<- am,Nn]
 rw[Qhh,ab]at h ⊢;unfold Qhe at h ⊢;have z:((JW B (Q4 f.pre) c).1==0)=true:=by
  by_cases z:((JW B (Q4 f.pre) c).1==0)=true;·exact z
  rw[Le z]at h;rw[h]at z;exact absurd rfl z
 rw[Lc z]at h ⊢;obtain⟨T,k1,k2⟩:=Quc hB hl (Q4 f.pre) c 0 aG (L7 _) (eq_of_beq z);rw[k2,LP,aN]at h ⊢;rw[Lw,aq]at k1;unfold Qd4 at h ⊢;have y:((X5 B {c with p:=((QaN f.pre).length:Nat)}).1==0)=true:=by
  by_cases y:((X5 B {c with p:=((QaN f.pre).length:Nat)}).1==0)=true;·exact y
  rw[Le y]at h;rw[h]at y;exact absurd rfl y
 rw[Lc y]at h ⊢;have y:=eq_of_beq y;have aM:(QaN f.pre).length<=B.length:=by rw[k1,Lh];omega
 have ag:B.drop (QaN f.pre).length=T:=by rw[k1,List.drop_left]
 unfold X5 at y h ⊢
 by_cases l0:(B.length:Int)<=((QaN f.pre).length:Nat);·rw[Lc (by simpa using l0)]at y;cases y
 rw[Le (by simpa using l0)]at y h ⊢;simp only at y h ⊢;obtain⟨n,S,aI⟩:∃n S,T=n::S:=by
  cases T with
  | nil=>have:=congrArg List.length ag;rw[NT]at this;simp at this;omega
  | cons n S=>exact⟨n,S,rfl⟩
 subst aI;obtain⟨_,g2,g3,g4,aO⟩:=QiU hB ag;have aJ:QQ B ((QaN f.pre).length:Nat)=n:=by
  have aH:B[(QaN f.pre).length]? = some n:=by have:=congrArg (λl=>l[0]?) ag;simpa[Nk] using this
  unfold QQ;rw[LG,LX,aH,NB];exact w64 (by unfold I64;omega)
 rw[aJ]at y h ⊢
 by_cases aa:(decide (64<=n)&&decide (n<=79))=true
 ·rw[Lc aa]at y h ⊢;have aQ:64<=n∧n<=79:=by simpa using aa
  have aK:=QGj (n:=n - 64) ⟨by omega,by omega⟩;have aR:=QoR (n - 64).toNat 4 3;have ar:=QoR (n - 64).toNat 4 2;have au:=QoR (n - 64).toNat 4 1;have av:=QoR (n - 64).toNat 4 0;unfold Qtw Ya at y h ⊢;generalize YF (n - 64).toNat 4 3=bw at *;generalize YF (n - 64).toNat 4 2=br at *;generalize YF (n - 64).toNat 4 1=bx at *;generalize YF (n - 64).toNat 4 0=bbb at *
  by_cases q:(!(bw==c.x.f.w)||!Xu c.x.f br bx bbb)=true;·rw[Lc q]at y;cases y
  rw[Le q]at h ⊢;rw[ab]at q;have ad:bw=f.w∧Xu f br bx bbb=true:=by simpa using q
  simp only[ab]at h ⊢;rw[show IntKind.i64.wrap (((QaN f.pre).length:Nat)+1)=(((QaN f.pre).length+1:Nat):Int) by rw[w64 (by unfold I64;omega)];rfl]at h ⊢;obtain⟨T2,ac,ao⟩:=Quc hB hl (WG f.map) _ ((QaN f.pre).length+1) rfl (by omega) h;rw[g2,am]at ac;refine⟨br,bx,bbb,true,_,T2,.rex br bx bbb an ar au av,?_,ad.2,ar,au,av,?_⟩;·rw[k1,ac,<- ad.1,<- aK,show 64+(n - 64)=n by omega,LQ];rfl
  rw[ao,le];have e2:(QaN f.pre++((64+VP f.w br bx bbb)::Gb f.map)).length=(QaN f.pre).length+1+(Gb f.map).length:=by simp;omega
  rw[e2];obtain⟨aE,ax,az,aB,aA,aF,aw,aD,ay,aC⟩:=c;simp only at ae;subst ae;rfl
 rw[Le aa]at y h ⊢;unfold Ya at y h ⊢
 by_cases q:(!((0:Int)==c.x.f.w)||!Xu c.x.f c.r c.xx c.bb)=true;·rw[Lc q]at y;cases y
 rw[Le q]at h ⊢;rw[ab,ah,ai,aj]at q;have ad:0=f.w∧Xu f 0 0 0=true:=by simpa using q
 simp only[ab]at h ⊢;obtain⟨T2,ac,ao⟩:=Quc hB hl (WG f.map) _ (QaN f.pre).length rfl aM h;rw[ag,am]at ac;refine⟨0,0,0,false,_,T2,.no an ad.1.symm,?_,ad.2,.inl rfl,.inl rfl,.inl rfl,?_⟩;·rw[k1,ac,LQ]
 rw[ao,le,<- Lh];obtain⟨aE,ax,az,aB,aA,aF,aw,aD,ay,aC⟩:=c;simp only at ap ah ai aj ae;subst ap ah ai aj ae;rfl
end
def vxo (d:Vd):Vx:=⟨d.r,d.x,d.b,d.map,d.w,d.v,d.l,d.pre⟩
def QzJ (p:Int):Bool:=p==0||p==1||p==2||p==4
def v2B (n:Nat):Bool:=(vb2 (vxo (vx2 n))==n)&&decide (0<=(vx2 n).r∧(vx2 n).r<2∧0<=(vx2 n).v∧(vx2 n).v<16∧0<=(vx2 n).l∧(vx2 n).l<2)&&QzJ (vx2 n).pre
def QBp (n:Int):Bool:=decide (XF (KN (IntKind.i64.wrap n) 224) 31<1)||decide (3<XF (KN (IntKind.i64.wrap n) 224) 31)
def v3M (n:Nat):Bool:=(XF (IntKind.i64.wrap n) 31==(vx3 n 0).map)&&(QjN (IntKind.i64.wrap n) 7==(vx3 n 0).r)&&(QjN (IntKind.i64.wrap n) 6==(vx3 n 0).x)&&(QjN (IntKind.i64.wrap n) 5==(vx3 n 0).b)&&(QBp n==!decide (1<=(vx3 n 0).map∧(vx3 n 0).map<4))&&(vbm (vxo (vx3 n 0))==n)&&decide (0<=(vx3 n 0).r∧(vx3 n 0).r<2∧0<=(vx3 n 0).x∧(vx3 n 0).x<2∧0<=(vx3 n 0).b∧(vx3 n 0).b<2)
def v3N (n:Nat):Bool:=(vbn (vxo (vx3 0 n))==n)&&decide (0<=(vx3 0 n).w∧(vx3 0 n).w<2∧0<=(vx3 0 n).v∧(vx3 0 n).v<16∧0<=(vx3 0 n).l∧(vx3 0 n).l<2)&&QzJ (vx3 0 n).pre
theorem QKr:((List.range 256).all λn=>v2B n&&v3M n&&v3N n)=true:=by kernel_rfl
theorem QI0 {z:Int}(q:0<=z)(aa:z<256):∃n:Nat,z=n∧v2B n=true∧v3M n=true∧v3N n=true:=by
 obtain⟨k,rfl⟩:∃k:Nat,z=k:=⟨z.toNat,by omega⟩;have h:=Li.1 QKr k (LU.2 (by omega));rw[Lm,Lm]at h;exact⟨k,rfl,h.1.1,h.1.2,h.2⟩
theorem QsI {p:Int}(h:QzJ p=true):p=0∨p=1∨p=2∨p=4:=by unfold QzJ at h;simp at h;omega
theorem QI1 {z:Int}(q:0<=z)(aa:z<256):vb2 (vxo (vx2 z))=z∧(vxo (vx2 z)).Ok∧(vx2 z).x=0∧(vx2 z).b=0∧(vx2 z).map=1∧(vx2 z).w=0:=by
 obtain⟨n,rfl,h,_⟩:=QI0 q aa;unfold v2B at h;rw[Lm,Lm,L0,Lv]at h;obtain⟨⟨a,b⟩,c⟩:=h;exact⟨a,⟨⟨b.1,b.2.1⟩,⟨B0 0,(show(0:Int)<2 by decide)⟩,⟨B0 0,(show(0:Int)<2 by decide)⟩,⟨B0 1,(show(1:Int)<4 by decide)⟩,⟨B0 0,(show(0:Int)<2 by decide)⟩,⟨b.2.2.1,b.2.2.2.1⟩,b.2.2.2.2,QsI c⟩,rfl,rfl,rfl,rfl⟩
theorem QKs {z:Int}(q:0<=z)(aa:z<256)(y:Int):XF (IntKind.i64.wrap z) 31=(vx3 z y).map∧QjN (IntKind.i64.wrap z) 7=(vx3 z y).r∧QjN (IntKind.i64.wrap z) 6=(vx3 z y).x∧QjN (IntKind.i64.wrap z) 5=(vx3 z y).b∧(QBp z=!decide (1<=(vx3 z y).map∧(vx3 z y).map<4))∧vbm (vxo (vx3 z y))=z∧0<=(vx3 z y).r∧(vx3 z y).r<2∧0<=(vx3 z y).x∧(vx3 z y).x<2∧0<=(vx3 z y).b∧(vx3 z y).b<2:=by
 obtain⟨n,rfl,_,h,_⟩:=QI0 q aa;unfold v3M at h;simp only[Lm,L0,Lv]at h;obtain⟨⟨⟨⟨⟨⟨a1,a2⟩,a3⟩,a4⟩,a5⟩,a6⟩,a7⟩:=h;exact⟨a1,a2,a3,a4,a5,a6,a7⟩
theorem QKt {z:Int}(q:0<=z)(aa:z<256)(y:Int):vbn (vxo (vx3 y z))=z∧(0<=(vx3 y z).w∧(vx3 y z).w<2∧0<=(vx3 y z).v∧(vx3 y z).v<16∧0<=(vx3 y z).l∧(vx3 y z).l<2)∧((vx3 y z).pre=0∨(vx3 y z).pre=1∨(vx3 y z).pre=2∨(vx3 y z).pre=4):=by
 obtain⟨n,rfl,_,_,h⟩:=QI0 q aa;unfold v3N at h;simp only[Lm,L0,Lv]at h;obtain⟨⟨a1,a2⟩,a3⟩:=h;exact⟨a1,a2,QsI a3⟩
section
variable {B:List Int} (hB:Byt B) {f:Fm} (ho:FOk f)
include hB ho
omit ho in
theorem QGl {c:Rr}(az:c.x.f=f)(aI:c.rex=false)(ax:f.vex=true)(h:(ZC B c).1=0):
  ∃r x b v aA R,Qoq f r x b v false aA∧B=aA++R∧Xu f r x b=true∧(v≠0->0<=Qh f.slots 3)∧(r=0∨r=1)∧(x=0∨x=1)∧(b=0∨b=1)∧(0<=v∧v<16)∧(ZC B c).2={c with p:=(aA.length:Nat),rex:=false,r:=r,xx:=x,bb:=b,v:=v}:=by
 have aM:∀c':Rr,c'.x.f=f->(K8 B c').1=0->(QT B).2.2=0∧QcS (QT B).1 f=false∧(!((QT B).1.v==0)&&decide (Qh f.slots 3<0))=false∧Xu f (QT B).1.r (QT B).1.x (QT B).1.b=true∧(K8 B c').2=QvK B c':=by
  intro c' aQ h;unfold K8 at h ⊢;rw[aQ]at h ⊢
  by_cases ac:((QT B).2.2==0)=false;·rw[Lc ac]at h;have h:(QT B).2.2=0:=h;rw[h]at ac;cases ac
  rw[Le ac]at h ⊢
  by_cases ad:QcS (QT B).1 f=true;·rw[Lc ad]at h;cases h
  rw[Le ad]at h ⊢
  by_cases ab:((!((QT B).1.v==0)&&decide (Qh f.slots 3<0))||!Xu f (QT B).1.r (QT B).1.x (QT B).1.b)=true;·rw[Lc ab]at h;cases h
  rw[Le ab];have ab:=(BQ).1 (by simpa using ab:((!((QT B).1.v==0)&&decide (Qh f.slots 3<0))||!Xu f (QT B).1.r (QT B).1.x (QT B).1.b)=false);exact⟨by simpa using ac,by simpa using ad,ab.1,by simpa using ab.2,rfl⟩
 have aO:∀d:Vd,QcS d f=false->d.map=f.map∧(f.w=-1∨d.w=f.w)∧d.l=f.l∧d.pre=f.pre:=by
  intro d h;unfold QcS at h;simp only[BQ,BG,Lu,L0]at h;obtain⟨⟨⟨a,b⟩,c⟩,d⟩:=h;exact⟨a,by rcases b with b | b;exact .inl b;exact .inr b,c,d⟩
 have aJ:∀v:Int,(!(v==0)&&decide (Qh f.slots 3<0))=false->v≠0->0<=Qh f.slots 3:=λv h ax=>by
  simp at h;have:=h ax;omega
 have two:∀n:Int,0<=n∧n<2->n=0∨n=1:=λn h=>by omega
 unfold ZC at h ⊢
 by_cases aj:B.length=0;·rw[Lc aj]at h;cases h
 rw[Le aj]at h ⊢
 by_cases ac:((B.getD 0 0==197)&&(c.x.f.map==1)&&!(c.x.f.w==1))=true
 ·rw[Lc ac]at h ⊢;rw[az,Lm,Lm,L0,L0]at ac;obtain⟨⟨am,aR⟩,aW⟩:=ac;obtain⟨ae,ah,ai,ag,aC⟩:=aM c az h;rw[aC];have ao:¬B.length<2:=by
   intro aB;unfold QT at ae;rw[Le aj,Lc (by rw[am];rfl),Lc aB]at ae;cases ae
  have ev:QT B=(vx2 (B.getD 1 0),2,0):=by unfold QT;rw[Le aj,Lc (by rw[am];rfl),Le ao]
  obtain⟨ak,q,R,rfl⟩:∃ak q R,B=ak::q::R:=by
   match B,ao with
   | [],h=>exact absurd (Nat.zero_lt_succ _) h
   | [_],h=>exact absurd (Rq _) h
   | a::b::R,_=>exact⟨a,b,R,rfl⟩
  have am:ak=197:=am;subst am;have aq:=hB q (by simp);obtain⟨k1,k2,k3,k4,k5,k6⟩:=QI1 aq.1 aq.2;unfold QvK;rw[ev]at ah ai ag ⊢;have e1:(197::q::R:List Int).getD 1 0=q:=rfl;rw[e1]at ah ai ag ⊢;simp only at ah ai ag ⊢;obtain⟨aN,aD,v3,aE⟩:=aO _ ah;have an:=Qoq.two (f:=f) (vxo (vx2 q)) k2 ax ⟨aR,k5⟩ (by rw[k6]at aD;omega) v3 aE ⟨k3,k4⟩;rw[k1]at an;rw[k3,k4]at ag ⊢;exact⟨_,0,0,_,_,R,an,rfl,ag,aJ _ ai,two _ k2.r,.inl rfl,.inl rfl,k2.v,by rw[<- aI];rfl⟩
 rw[Le ac]at h ⊢
 by_cases ad:(B.getD 0 0==196)=false;·rw[Lc ad]at h;cases h
 rw[Le ad]at h ⊢;have av:B.getD 0 0=196:=by simpa using ad
 by_cases ab:B.length<2;·rw[Lc ab]at h;cases h
 rw[Le ab]at h ⊢
 by_cases aF:(!(XF (IntKind.i64.wrap (B.getD 1 0)) 31==c.x.f.map)||!Xu c.x.f (ZB B c).r (ZB B c).xx (ZB B c).bb)=true;·rw[Lc aF]at h;cases h
 rw[Le aF]at h ⊢;obtain⟨ae,ah,ai,ag,aC⟩:=aM (ZB B c) az h;rw[aC];have ay:¬ (B.getD 0 0==197)=true:=by rw[av];decide
 have aw:QBp (B.getD 1 0)=false:=by
  cases aG:QBp (B.getD 1 0) with
  | false=>rfl
  | true=>
   exfalso;unfold QBp at aG;unfold QT at ae;rw[Le aj,Le ay,Le ad,Le ab,Lc aG]at ae;cases ae
 have aH:¬ (decide (XF (KN (IntKind.i64.wrap (B.getD 1 0)) 224) 31<1)||decide (3<XF (KN (IntKind.i64.wrap (B.getD 1 0)) 224) 31))=true:=by
  unfold QBp at aw;rw[aw];decide
 have ao:¬B.length<3:=by
  intro aB;unfold QT at ae;rw[Le aj,Le ay,Le ad,Le ab,Le aH,Lc aB]at ae;cases ae
 have ev:QT B=(vx3 (B.getD 1 0) (B.getD 2 0),3,0):=by unfold QT;rw[Le aj,Le ay,Le ad,Le ab,Le aH,Le ao]
 obtain⟨ak,q,aa,R,rfl⟩:∃ak q aa R,B=ak::q::aa::R:=by
  match B,ao with
  | [],h=>exact absurd (Nat.zero_lt_succ _) h
  | [_],h=>exact absurd (Nat.succ_lt_succ (Nat.zero_lt_succ _)) h
  | [_,_],h=>exact absurd (Rq _) h
  | a::b::c::R,_=>exact⟨a,b,c,R,rfl⟩
 have av:ak=196:=av;subst av;have aq:=hB q (by simp);have aK:=hB aa (by simp);obtain⟨aX,aY,aZ,m4,aL,aT,ar⟩:=QKs aq.1 aq.2 aa;obtain⟨aU,au,aV⟩:=QKt aK.1 aK.2 q;have e1:(196::q::aa::R:List Int).getD 1 0=q:=rfl;have e2:(196::q::aa::R:List Int).getD 2 0=aa:=rfl;rw[e1]at aw;rw[aw]at aL;have aS:1<=(vx3 q aa).map∧(vx3 q aa).map<4:=by simpa using aL
 have ap:(vxo (vx3 q aa)).Ok:=⟨⟨ar.1,ar.2.1⟩,⟨ar.2.2.1,ar.2.2.2.1⟩,ar.2.2.2.2,aS,⟨au.1,au.2.1⟩,⟨au.2.2.1,au.2.2.2.1⟩,au.2.2.2.2,aV⟩;unfold QvK ZB;rw[ev]at ah ai ag ⊢;rw[e1,e2]at ah ai ag ⊢;simp only at ah ai ag ⊢;obtain⟨aN,aD,v3,aE⟩:=aO _ ah;have an:=Qoq.long (f:=f) (vxo (vx3 q aa)) ap ax aN aD v3 aE;have aP:Jn (vxo (vx3 q aa))=[196,q,aa]:=by unfold Jn;rw[aT,aU]
 rw[aP]at an;exact⟨_,_,_,_,_,R,an,rfl,ag,aJ _ ai,two _ ap.r,two _ ap.x,two _ ap.b,ap.v,by rw[<- aI];rfl⟩
end
theorem QI2 {w r x b:Int}(ab:w=0∨w=1)(aa:r=0∨r=1)(hx:x=0∨x=1)(q:b=0∨b=1):(0<VP w r x b∨VP w r x b=0)∧(VP w r x b=0->w=0∧r=0∧x=0∧b=0):=by
 unfold VP;omega
theorem QGm {y z:Vx}(q:y.r=z.r)(aa:y.v=z.v)(ab:y.l=z.l)(ac:y.pre=z.pre):vb2 y=vb2 z:=by unfold vb2;rw[q,aa,ab,ac]
theorem QGn {y z:Vx}(q:y.r=z.r)(aa:y.v=z.v)(ab:y.l=z.l)(ac:y.pre=z.pre)(ad:y.x=z.x)(ae:y.b=z.b)(ag:y.mp=z.mp)(ah:y.w=z.w):Jn y=Jn z:=by unfold Jn vbm vbn;rw[q,aa,ab,ac,ad,ae,ag,ah]
section
variable {f:Fm} (ho:FOk f) {l:List Ar} {r x b v:Int} (hr:QbU f l 1=r∧(r=0∨r=1)) (hx:x=0∨x=1)
include ho hr hx
theorem QBq {h:Int}(aa:hB f l h=b∧(b=0∨b=1))(an:f.vex=true->QlG f l 3=v){ak:List Int}{ai:Bool}(ap:Qoq f r x b v ai ak)(am:f.vex=false->(ai=false->QcV l=false)∧(ai=true->QlF l=false)):ak∈GQ f l x h:=by
 unfold GQ;cases ap with
 | no q ar=>
  rw[Le (by rw[q];decide)];refine N4.2 ⟨-1,?_,by unfold QbS;rw[Le (by omega),Na]⟩;rw[hr.1,aa.1,ar];have e:chF (VP 0 0 0 0) l=if QlF l=true then[-1] else[-1,0]:=by
   unfold chF;rw[Le (by rw[(am q).1 rfl];decide)]
  rw[e];split<;>simp
 | rex _ _ _ q=>
  rw[Le (by rw[q];decide)];have ab:=ho.w q;obtain⟨ay,az⟩:=QI2 ab hr.2 hx aa.2;refine N4.2 ⟨VP f.w r x b,?_,by unfold QbS;rw[Lc (by omega),LQ];rfl⟩;rw[hr.1,aa.1];have aj:=(am q).2 rfl;unfold chF
  by_cases ac:(decide (0<VP f.w r x b)||QcV l)=true;·rw[Lc ac,Le (by rw[aj];decide)];exact Sa.2 rfl
  have au:¬0<VP f.w r x b∧QcV l=false:=by simpa using ac
  rw[Le ac,Le (by rw[aj];decide),show VP f.w r x b=0 by omega];simp
 | two y ao q ag ab ae ah aw=>
  rw[Lc q];have e:vb2 y=vb2 (vxF f l 0 h):=QGm (by show y.r=QbU f l 1;exact hr.1.symm) (by show y.v=QlG f l 3;exact(an q).symm) ae ah;unfold QqC;rw[e];refine List.mem_append_left _ ?_;rw[Lc ⟨⟨rfl,by show hB f l h=0;exact aa.1,by rcases ab with h | h;left;rw[h];rfl;right;show QqE f.w=0;rw[h];rfl⟩,ag.1⟩];exact Sa.2 rfl
 | long y ao q ag ab ae ah=>
  rw[Lc q];have ax:=ao.w;have key:∀z:Vx,z={vxF f l y.x h with w:=y.w}->Jn y=Jn z:=λz aq=>by
   subst aq;exact QGn hr.1.symm (an q).symm ae ah rfl aa.1.symm ag rfl
  unfold QqC;refine List.mem_append_right _ ?_
  by_cases ad:f.w=-1
  ·rw[show(f.w==-1)=true by rw[ad];rfl,Lq,Lq];rcases(show y.w=0∨y.w=1 by omega) with h1 | h1;·refine List.mem_append_left _ (Sa.2 (key _ ?_));rw[h1]
   refine List.mem_append_right _ (Sa.2 (key _ ?_));rw[h1]
  rw[show(f.w==-1)=false by simpa using ad,Ls,Ls,Na];have av:y.w=f.w:=by rcases ab with h | h;exact absurd h ad;exact h
  refine Sa.2 (key _ ?_);have:QqE f.w=y.w:=by unfold QqE;split<;>omega
  rw[<- this];rfl
end
structure FmS (f:Fm):Prop where
 len:f.shapes.length=f.slots.length
 le4:f.shapes.length<=4
 goes:∀k,k<f.shapes.length->QaC (f.shapes.getD k 0) (f.slots.getD k 0)=true
 once:∀k,k<f.slots.length->¬f.slots.getD k 0=6->Qh f.slots (f.slots.getD k 0)=k
 code:0<=Qh f.slots 4->f.code % 8=0∧Qh f.slots 1<0∧Qh f.slots 2<0∧f.digit<0
 rd:0<=Qh f.slots 1->f.digit<0
 rm:0<=Qh f.slots 2->0<=Qh f.slots 1∨0<=f.digit
 no:Qh f.slots 2<0->Qh f.slots 1<0∧f.digit<0
 tk:f.map=0->QqK f.code=false
 leg:f.vex=false->Qh f.slots 3<0∧Qh f.slots 7<0
 cd:0<=f.code∧f.code<=255
 dg:-1<=f.digit∧f.digit<=7
theorem QDT (n:Int)(h:0<=n∧n<=255):QBm n=n % 8:=by
 obtain⟨k,rfl⟩:∃k:Nat,n=k:=⟨n.toNat,by omega⟩;have:∀k:Fin 256,QBm ((k:Nat):Int)=((k:Nat):Int) % 8:=by decide
 exact this ⟨k,by omega⟩
theorem Qwr (x:Int):∀ (l:List Int) (k:Nat),x∈l->0<=Ke l x k
 | [],_,h=>by cases h
 | y::l,k,h=>by
  unfold Ke;split;·omega
  rename_i q;rcases LK.1 h with h | h;·exact absurd h q
  exact Qwr x l (k+1) h
theorem fmS {f:Fm}(h:Qhw f=0):FmS f:=by
 obtain⟨ar,aw,ax,ay,ai,au,_⟩:=QmS h;have r:=λi hi=>QlI h i hi;have r1:=r 1 (by decide);have r2:=r 2 (by decide);have r3:=r 3 (by decide);have r4:=r 4 (by decide);have ad:=r 5 (by decide);have ae:=r 6 (by decide);have ag:=r 7 (by decide);have r8:=r 8 (by decide);simp only[QrN,List.getD_cons_succ,List.getD_cons_zero]at r1 r2 r3 r4 ad ae ag r8;have am:=QoQ h;refine⟨am,ar,?_,?_,?_,?_,?_,?_,?_,?_,ai,au⟩;·intro k ac;unfold Qej at r3;simp only[Lm]at r3;have:=Li.1 r3.2 k (LU.2 (by omega));exact this
 ·intro k ac ap;unfold QsE at r2;have q:=Li.1 r2 k (LU.2 ac);unfold QmQ at q;rw[show(f.slots.getD k 0==6)=false from LC.2 ap,Nt,Lr,NY]at q;have aa:Qh (f.slots.take k) (f.slots.getD k 0)<0:=by omega
  have ah:=Qla (f.slots.getD k 0) f.slots 0 k (λj av e=>?_) ac rfl;·rw[LP]at ah;exact ah
  have ao:f.slots.getD k 0∈f.slots.take k:=by
   rw[e];have ak:j<f.slots.length:=by omega
   rw[LX,La ak,NB];exact List.mem_take_iff_getElem.2 ⟨j,by omega,rfl⟩
  have ab:¬ (Qh (f.slots.take k) (f.slots.getD k 0)<0):=by
   intro an;have:=Qwr (f.slots.getD k 0) (f.slots.take k) 0 ao;unfold Qh at an;omega
  exact ab aa
 ·intro ab;rw[Lp ab]at r4;simp at r4;obtain⟨⟨⟨a,b⟩,c⟩,d⟩:=r4;rw[QDT f.code ai]at a;exact⟨a,by omega,by omega,by omega⟩
 ·intro q;rw[Lp q]at ad;simp at ad;omega
 ·intro aa;rw[Lp aa]at ae;simp at ae;omega
 ·intro aa;rw[Lj (by omega)]at ag;simp at ag;omega
 ·intro aj;rw[aj]at r8;simpa using r8
 intro aq;unfold QqL at r1;rw[aq]at r1;simp at r1;omega
theorem Qws:∀k:Fin 256,IntKind.i64.wrap (IntKind.u8.wrap (BitVec.ofInt IntKind.u8.bits ((k:Nat):Int) &&& BitVec.ofInt IntKind.u8.bits 7).toNat)=((k:Nat):Int) % 8:=by decide
theorem QDU:((List.range 256).all λk=>(GM (k:Nat) 6==(QP (k:Nat)).1))=true:=by kernel_rfl
theorem QLe {n:Int}(h:0<=n∧n<256):GM n 6=(QP n).1:=by
 obtain⟨k,rfl⟩:∃k:Nat,n=k:=⟨n.toNat,by omega⟩;exact eq_of_beq (Li.1 QDU k (LU.2 (by omega)))
def sh2 (f:Fm):Int:=f.shapes.getD (Qh f.slots 2).toNat 0
structure Rdg (f:Fm) (r x b v low:Int) (rx:Bool) (sn:Sn) (hd pl:List Int):Prop where
 head:Qoq f r x b v rx hd
 al:Xu f r x b=true
 r01:r=0∨r=1
 x01:x=0∨x=1
 b01:b=0∨b=1
 v3:v≠0->0<=Qh f.slots 3
 v16:0<=v∧v<16
 low:(Qh f.slots 4<0->low=0)∧0<=low∧low<8
 pl:(Qh f.slots 2<0∧pl=[]∧sn=QK)∨(0<=Qh f.slots 2∧(0<=sn.fld∧sn.fld<8)∧(0<=f.digit->sn.fld=f.digit)∧sn.ends=((hd.length+1+pl.length:Nat):Int)∧
  ((∃lo,(0<=lo∧lo<8)∧x=0∧pl=[Qn 3 sn.fld lo]∧sn.reg=8 * b+lo∧sn.m=Wa∧clF (sh2 f)≠0)∨(sn.reg=-1∧D32 sn.m.d∧sn.m.sz=0∧Way sn.fld sn.m x b pl∧0<=szF (sh2 f))))
def cR (f:Fm)(r x b v low:Int)(q:Bool)(aa:Sn)(p:Nat):Rr:=⟨⟨f,.slice none 0 0,.slice none 0 0⟩,.slice none 0 0,p,q,r,x,b,v,low,aa⟩
section
variable {B:List Int} (hB:Byt B) (hl:B.length<=1000000) {f:Fm} (hf:FmS f)
include hB hl hf
theorem QDV {r x b v:Int}{q:Bool}{p:Nat}{low:Int}(h:(Qh f.slots 4<0->low=0)∧0<=low∧low<8){R:List Int}(aa:B.drop p=(f.code+low)::R):opF B (cR f r x b v 0 q QK p)=(0,cR f r x b v low q QK (p+1)):=by
 have ai:=hf.cd;have e:opF B (cR f r x b v 0 q QK p)=if(decide (Qh f.slots 4<0))=true then Wd B (cR f r x b v 0 q QK p) f.code else if(B.length:Int)<=p then(9,cR f r x b v 0 q QK p) else Wd B (cR f r x b v (ZA B p) q QK p) (IntKind.i64.wrap (f.code+ZA B p)):=rfl
 obtain⟨g1,g2,g3,g4,ag⟩:=QiU hB aa;rw[e]
 by_cases ab:Qh f.slots 4<0;·have ac:=h.1 ab;subst ac;rw[Lc (Lp ab),QzI hB hl (p:=p) rfl (by rw[Int.add_zero]at aa;exact aa)];rfl
 have ah:=(hf.code (by omega)).1;have ad:B[p]? = some (f.code+low):=by have:=congrArg (λl=>l[0]?) aa;simpa[Nk] using this
 have ae:ZA B p=low:=by
  unfold ZA;rw[LG,LX,ad,NB];have:=Qws ⟨(f.code+low).toNat,by omega⟩;simp only at this;rw[show(((f.code+low).toNat:Nat):Int)=f.code+low by omega]at this;rw[this];omega
 rw[Le (by simpa using ab),Le (by omega),ae,w64 (by unfold I64;omega),QzI hB hl (p:=p) rfl aa];rfl
theorem QI3 {r x b v:Int}{q:Bool}{p:Nat}(am:p<=B.length)(h:(opF B (cR f r x b v 0 q QK p)).1=0):∃low R,((Qh f.slots 4<0->low=0)∧0<=low∧low<8)∧B.drop p=(f.code+low)::R∧(opF B (cR f r x b v 0 q QK p)).2=cR f r x b v low q QK (p+1):=by
 have ak:=hf.cd;have an:=(Qhk (c:=cR f r x b v 0 q QK p) hl ⟨by show(0:Int)<=(p:Int);omega,by show(p:Int)<=_;omega⟩ h).1;have e:opF B (cR f r x b v 0 q QK p)=if(decide (Qh f.slots 4<0))=true then Wd B (cR f r x b v 0 q QK p) f.code else if(B.length:Int)<=p then(9,cR f r x b v 0 q QK p) else Wd B (cR f r x b v (ZA B p) q QK p) (IntKind.i64.wrap (f.code+ZA B p)):=rfl
 have key:∀ (low n:Int),n=f.code+low->((Qh f.slots 4<0->low=0)∧0<=low∧low<8)->(Wd B (cR f r x b v low q QK p) n).1=0->∃R,B.drop p=(f.code+low)::R:=by
  intro low n ai ah ac;obtain⟨k1,k2,k3⟩:=QaL hl (c:=cR f r x b v low q QK p) ⟨by show(0:Int)<=(p:Int);omega,by show(p:Int)<=_;omega⟩ ac;have k1:(p:Int)<B.length:=k1;have k2:QQ B p=n:=k2;have aa:p<B.length:=by omega
  have ag:=hB B[p] (Nb aa);unfold QQ at k2;rw[LG,LX,La aa,NB,w64 (by unfold I64;omega)]at k2;exact⟨B.drop (p+1),by rw[Nh aa,k2,ai]⟩
 by_cases ad:Qh f.slots 4<0;·rw[e,Lc (Lp ad)]at h;obtain⟨R,ab⟩:=key 0 f.code (by omega) ⟨λ_=>rfl,by omega,by omega⟩ h;exact⟨0,R,⟨λ_=>rfl,by omega,by omega⟩,ab,by rw[QDV hB hl hf ⟨λ_=>rfl,by omega,by omega⟩ ab]⟩
 have aj:=(hf.code (by omega)).1;rw[e,Le (by simpa using ad)]at h
 by_cases ac:(B.length:Int)<=p;·rw[Lc ac]at h;cases h
 rw[Le ac]at h;have aa:p<B.length:=by omega
 have ag:=hB B[p] (Nb aa);have ah:ZA B p=B[p] % 8:=by
  unfold ZA;rw[LG,LX,La aa,NB];have:=Qws ⟨B[p].toNat,by omega⟩;simp only at this;rw[show((B[p].toNat:Nat):Int)=B[p] by omega]at this;exact this
 have ae:(Qh f.slots 4<0->ZA B p=0)∧0<=ZA B p∧ZA B p<8:=⟨λh=>absurd h ad,by omega,by omega⟩;obtain⟨R,ab⟩:=key (ZA B p) _ (w64 (by unfold I64;omega)) ae h;exact⟨ZA B p,R,ae,ab,by rw[QDV hB hl hf ae ab]⟩
omit hB hl hf in
theorem QBr {n s:Int}{md mid lo:Int}(ac:0<=n∧n<256)(ab:QP n=(md,mid,lo)):G3 f n s=true↔(0<=f.digit->mid=f.digit)∧(md=3->clF s≠0)∧(¬md=3->0<=szF s):=by
 have e1:XF (GM n 3) 7=mid:=congrArg (λq=>q.2.1) ab;have e2:GM n 6=md:=(QLe ac).trans (congrArg (λq=>q.1) ab);unfold G3;rw[e1,e2]
 by_cases aa:md=3
 ·rw[show(md==3)=true by rw[aa];rfl,Lq];simp only[Lm,Lr,BG,NY,Lu,L0,LC,Da];constructor;·rintro⟨a,b⟩;exact⟨λh=>by rcases a with a | a;exact absurd h a;exact a,λ_=>b,λh=>absurd aa h⟩
  rintro⟨a,b,_⟩;refine⟨?_,b aa⟩
  by_cases h:0<=f.digit;·exact .inr (a h)
  exact .inl h
 rw[show(md==3)=false from LC.2 aa,Ls];simp only[Lm,Lr,BG,NY,Lu,L0];constructor;·rintro⟨a,b⟩;exact⟨λh=>by rcases a with a | a;exact absurd h a;exact a,λh=>absurd h aa,λ_=>by omega⟩
 rintro⟨a,_,c⟩;refine⟨?_,by have:=c aa;omega⟩
 by_cases h:0<=f.digit;·exact .inr (a h)
 exact .inl h
end
theorem QI4 {mid x b:Int}{m:Mm}{bs:List Int}(h:Way mid m x b bs)(ae:0<=mid∧mid<8):∃md lo T,bs=Qn md mid lo::T∧(0<=md∧md<3)∧0<=lo∧lo<8:=by
 have ab:∀ {md:Nat} {b d:Int},Qqz md b d->md<3:=λh=>by unfold Qqz at h;omega
 cases h with
 | rip d sz=>exact⟨0,5,_,rfl,by omega,by omega,by omega⟩
 | abs d sz=>exact⟨0,4,_,rfl,by omega,by omega,by omega⟩
 | idx i sc d sz hi ac=>exact⟨0,4,_,rfl,by omega,by omega,by omega⟩
 | both b i sc d sz md aa hi ac q=>have:=ab q;exact⟨md,4,_,rfl,by omega,by omega,by omega⟩
 | base1 b d sz md aa ad q=>have:=ab q;exact⟨md,b % 8,_,rfl,by omega,by omega,by omega⟩
 | base2 b d sz md aa q=>have:=ab q;exact⟨md,4,_,rfl,by omega,by omega,by omega⟩
 | base3 b d sz aa=>exact⟨0,4,_,rfl,by omega,by omega,by omega⟩
section
variable {B:List Int} (hB:Byt B) (hl:B.length<=1000000) {f:Fm} (hf:FmS f)
include hB hl hf
theorem QGo (aN:FOk f)(h:(rdM B (cR f 0 0 0 0 0 false QK 0)).1=0):∃r x b v low aa ab q pl R,Rdg f r x b v low aa ab q pl∧B=q++(f.code+low)::(pl++R)∧(rdM B (cR f 0 0 0 0 0 false QK 0)).2=cR f r x b v low aa ab (q.length+1+pl.length):=by
 have key:∃r x b v aa q R,Qoq f r x b v aa q∧B=q++R∧Xu f r x b=true∧(v≠0->0<=Qh f.slots 3)∧(r=0∨r=1)∧(x=0∨x=1)∧(b=0∨b=1)∧(0<=v∧v<16)∧(Wc B (cR f 0 0 0 0 0 false QK 0)).1=0∧(Wc B (cR f 0 0 0 0 0 false QK 0)).2=cR f r x b v 0 aa QK q.length:=by
  have ac:(Wc B (cR f 0 0 0 0 0 false QK 0)).1=0:=by
   unfold rdM rdO rdH at h;cases z:(Wc B (cR f 0 0 0 0 0 false QK 0)).1==0 with
   | true=>exact eq_of_beq z
   | false=>
    rw[z]at h;simp only[Ls]at h;rw[z]at h;simp only[Ls]at h;exact h
  unfold Wc at ac ⊢
  by_cases an:f.vex=true;·have e:(cR f 0 0 0 0 0 false QK 0).x.f.vex=true:=an;rw[e,Lq]at ac ⊢;obtain⟨r,x,b,v,q,R,k1,k2,k3,k4,k5,k6,k7,k8,k9⟩:=QGl hB rfl rfl an ac;exact⟨r,x,b,v,false,q,R,k1,k2,k3,k4,k5,k6,k7,k8,ac,k9⟩
  have az:f.vex=false:=by simpa using an
  have e:(cR f 0 0 0 0 0 false QK 0).x.f.vex=false:=az;rw[e,Ls]at ac ⊢;obtain⟨r,x,b,aa,q,R,k1,k2,k3,k4,k5,k6,k7⟩:=QGk hB hl aN rfl rfl ⟨rfl,rfl,rfl,rfl,rfl⟩ az ac;exact⟨r,x,b,0,aa,q,R,k1,k2,k3,λh=>absurd rfl h,k4,k5,k6,by omega,ac,k7⟩
 obtain⟨r,x,b,v,aa,q,R,k1,k2,k3,k4,k5,k6,k7,k8,k9,k10⟩:=key;have aE:Wc B (cR f 0 0 0 0 0 false QK 0)=(0,cR f r x b v 0 aa QK q.length):=Prod.ext k9 k10;have aO:q.length<=B.length:=by rw[k2,Lh];omega
 have au:rdO B (cR f 0 0 0 0 0 false QK 0)=opF B (cR f r x b v 0 aa QK q.length):=by
  unfold rdO rdH;rw[aE];simp only[LO,Lq]
 have aw:(opF B (cR f r x b v 0 aa QK q.length)).1=0:=by
  unfold rdM at h;rw[au]at h;cases z:(opF B (cR f r x b v 0 aa QK q.length)).1==0 with
  | true=>exact eq_of_beq z
  | false=>rw[z]at h;exact h
 obtain⟨low,R2,ap,aq,aP⟩:=QI3 hB hl hf aO aw;have aF:opF B (cR f r x b v 0 aa QK q.length)=(0,cR f r x b v low aa QK (q.length+1)):=Prod.ext aw aP;unfold rdM at h ⊢;rw[au,aF]at h ⊢;simp only[LO,Lq]at h ⊢;obtain⟨_,d2,g3,_,_⟩:=QiU hB aq;have am:R=(f.code+low)::R2:=by rw[k2,List.drop_left]at aq;exact aq
 have aG:Vj B (cR f r x b v low aa QK (q.length+1))=if decide (Qh f.slots 2<0)=true then(0,cR f r x b v low aa QK (q.length+1))
   else if(B.length:Int)<=((q.length+1:Nat):Int) then(9,cR f r x b v low aa QK (q.length+1))
   else if G3 f (QQ B ((q.length+1:Nat):Int)) (sh2 f)=false then(4,cR f r x b v low aa QK (q.length+1))
   else if((rdF B ((q.length+1:Nat):Int) x b).2==0)=false then((rdF B ((q.length+1:Nat):Int) x b).2,cR f r x b v low aa QK (q.length+1))
   else(0,{cR f r x b v low aa QK (q.length+1) with seen:=(rdF B ((q.length+1:Nat):Int) x b).1,p:=(rdF B ((q.length+1:Nat):Int) x b).1.ends}):=rfl
 rw[aG]at h ⊢
 by_cases ak:Qh f.slots 2<0;·rw[Lc (Lp ak)];exact⟨r,x,b,v,low,aa,QK,q,[],R2,⟨k1,k3,k5,k6,k7,k4,k8,ap,.inl ⟨ak,rfl,rfl⟩⟩,by rw[k2,am];rfl,rfl⟩
 rw[Le (by simpa using ak)]at h ⊢
 by_cases av:(B.length:Int)<=((q.length+1:Nat):Int);·rw[Lc av]at h;cases h
 rw[Le av]at h ⊢
 by_cases ah:G3 f (QQ B ((q.length+1:Nat):Int)) (sh2 f)=false;·rw[Lc ah]at h;cases h
 rw[Le ah]at h ⊢
 by_cases ad:((rdF B ((q.length+1:Nat):Int) x b).2==0)=false;·rw[Lc ad]at h;have h:(rdF B ((q.length+1:Nat):Int) x b).2=0:=h;rw[h]at ad;cases ad
 rw[Le ad]at h ⊢;have ad:(rdF B ((q.length+1:Nat):Int) x b).2=0:=by simpa using ad
 obtain⟨ab,ay⟩:∃ab,rdF B ((q.length+1:Nat):Int) x b=(ab,0):=⟨_,Prod.ext rfl ad⟩;have ax:∀ (md lo:Int) (T:List Int),B.drop (q.length+1)=Qn md ab.fld lo::T->(0<=md∧md<4)->(0<=ab.fld∧ab.fld<8)->(0<=lo∧lo<8)->(0<=f.digit->ab.fld=f.digit)∧(md=3->clF (sh2 f)≠0)∧(¬md=3->0<=szF (sh2 f)):=by
  intro md lo T d3 aL aM aK;obtain⟨_,_,g3,g4,aH⟩:=QiU hB d3;have aJ:QQ B ((q.length+1:Nat):Int)=Qn md ab.fld lo:=by
   have aI:B[q.length+1]? = some (Qn md ab.fld lo):=by have:=congrArg (λl=>l[0]?) d3;simpa[Nk] using this
   unfold QQ;rw[LG,LX,aI,NB];exact w64 (by unfold I64;omega)
  rw[aJ]at ah;exact(QBr ⟨g4,aH⟩ (Qe0 aL aM aK).1).1 (by simpa using ah)
 rw[ay];rcases QIY hB hl (p:=q.length+1) (by omega) k6 k7 ay with⟨lo,R3,ai,ae,ar,aj,ag⟩ | ⟨bs,R3,ai,ae,ar,aj,ag,aC,aD⟩;·obtain⟨ao,aA,aB⟩:=ax 3 lo R3 aj ⟨by decide,by decide⟩ ae ai;have e1:ab.reg=8 * b+lo:=congrArg Sn.reg ag;have e2:ab.m=Wa:=congrArg Sn.m ag;have e3:ab.ends=((q.length+1+1:Nat):Int):=congrArg Sn.ends ag;refine⟨r,x,b,v,low,aa,ab,q,[Qn 3 ab.fld lo],R3,⟨k1,k3,k5,k6,k7,k4,k8,ap,.inr ⟨by omega,ae,ao,e3,.inl ⟨lo,ai,ar,rfl,e1,e2,aA rfl⟩⟩⟩,by rw[k2,am,<- d2,aj];rfl,?_⟩;show({cR f r x b v low aa QK (q.length+1) with seen:=ab,p:=ab.ends}:Rr)=_;rw[e3];rfl
 obtain⟨md,lo,T,aQ,aR,v3,aS⟩:=QI4 ag ae;obtain⟨ao,aA,aB⟩:=ax md lo (T++R3) (by rw[aC,aQ];rfl) ⟨aR.1,by omega⟩ ae ⟨v3,aS⟩;refine⟨r,x,b,v,low,aa,ab,q,bs,R3,⟨k1,k3,k5,k6,k7,k4,k8,ap,.inr ⟨by omega,ae,ao,aD,.inr ⟨ai,ar,aj,ag,aB (by omega)⟩⟩⟩,by rw[k2,am,<- d2,aC],?_⟩;show({cR f r x b v low aa QK (q.length+1) with seen:=ab,p:=ab.ends}:Rr)=_;rw[aD];rfl
end
theorem QHj (f:Fm):tl1 f=0∨tl1 f=1∨tl1 f=2∨tl1 f=4∨tl1 f=8:=by
 unfold tl1;split
 ·unfold tl0
  repeat' split
  all_goals simp
 simp
structure Tlg (f:Fm) (n is4:Int) (tb:List Int):Prop where
 it:∃t1 t2,tb=t1++t2∧Byt t1∧(t1.length:Int)=tl1 f∧n=(if 0<tl1 f then JY t1 else 0)∧(0<=is4∧is4<16)∧((0<=Qh f.slots 7∧t2=[16 * is4])∨(Qh f.slots 7<0∧t2=[]∧is4=0))
theorem QGp:∀k:Fin 256,IntKind.u8.wrap (BitVec.ofInt IntKind.u8.bits ((k:Nat):Int) &&& BitVec.ofInt IntKind.u8.bits 15).toNat=((k:Nat):Int) % 16∧IntKind.i64.wrap ((((k:Nat):Int)).fdiv (2 ^ (min (Int.toNat 4) IntKind.u8.bits)))=((k:Nat):Int) / 16:=by decide
section
variable {B:List Int} (hB:Byt B) (hl:B.length<=1000000) {f:Fm}
include hB hl
theorem QI5 {c:Rr}(ae:c.x.f=f){p:Nat}(aa:c.p=p){z:Int}{R:List Int}(ad:0<=Qh f.slots 7)(ab:B.drop p=z::R)(n:Int):GW B c n=if(z % 16==0)=false then Y0 4 else Qda f.op ((p+1:Nat):Int) (opL c n (z / 16)):=by
 obtain⟨_,_,g3,g4,ag⟩:=QiU hB ab;have ac:B[p]? = some z:=by have:=congrArg (λl=>l[0]?) ab;simpa[Nk] using this
 have e:B.getD p 0=z:=by rw[LX,ac];rfl
 have q:=QGp ⟨z.toNat,by omega⟩;simp only at q;rw[show((z.toNat:Nat):Int)=z by omega]at q;have e1:Qlr B c.p=z % 16:=by unfold Qlr;rw[aa,LG,e];exact q.1
 have e2:hi4 B c.p=z / 16:=by unfold hi4;rw[aa,LG,e];exact q.2
 unfold GW;rw[ae,Lc (Lp ad),Le (by omega),e1,e2,aa,show IntKind.i64.wrap ((p:Int)+1)=((p+1:Nat):Int) by rw[w64 (by unfold I64;omega)];omega]
theorem QDW {c:Rr}(ad:c.x.f=f){p:Nat}(ao:c.p=p)(ar:p<=B.length)(h:(Jk B c).e=0):∃n is4 tb R,Tlg f n is4 tb∧B.drop p=tb++R∧Jk B c=Qda f.op ((p+tb.length:Nat):Int) (opL c n is4):=by
 have ai:∀ (c':Rr) (q:Nat) (m:Int),c'.x.f=f->c'.p=q->q<=B.length->(∀m k,opL c' m k=opL c m k)->(GW B c' m).e=0->∃is4 t2 R,(0<=is4∧is4<16)∧((0<=Qh f.slots 7∧t2=[16 * is4])∨(Qh f.slots 7<0∧t2=[]∧is4=0))∧B.drop q=t2++R∧GW B c' m=Qda f.op ((q+t2.length:Nat):Int) (opL c m is4):=by
  intro c' q m ae ag av an h
  by_cases ab:0<=Qh f.slots 7
  ·have am:q<B.length:=by
    rcases Nq q B.length with h' | h';·exact h'
    exfalso;unfold GW at h;rw[ae,Lc (Lp ab),ag,Lc (by omega)]at h;cases h
   have ah:=Nh am;have ap:=hB B[q] (Nb am);generalize B[q]=z at *;rw[QI5 hB hl ae ag ab ah]at h ⊢
   by_cases ac:(z % 16==0)=false;·rw[Lc ac]at h;cases h
   have au:z % 16=0:=by simpa using ac
   rw[Le ac,an];exact⟨z / 16,[z],_,by omega,.inl ⟨ab,by rw[show 16 * (z / 16)=z by omega]⟩,ah,rfl⟩
  refine⟨0,[],B.drop q,by omega,.inr ⟨by omega,rfl,rfl⟩,rfl,?_⟩;unfold GW;rw[ae,Le (by simpa using ab),ag,an];rfl
 unfold Jk at h ⊢;rw[ad]at h ⊢
 by_cases aa:0<tl1 f
 ·obtain⟨k,ak⟩:∃k:Nat,tl1 f=k:=⟨(tl1 f).toNat,by omega⟩;have aj:k=1∨k=2∨k=4∨k=8:=by have:=QHj f;omega
  rw[Lc (Lp aa),ao]at h ⊢
  by_cases z:((Q3 B p (tl1 f) true).2==0)=false;·rw[Lc z]at h;have h:(Q3 B p (tl1 f) true).2=0:=h;rw[h]at z;cases z
  rw[Le z]at h ⊢;rw[ak]at z h ⊢;obtain⟨t1,R1,k1,k2,k3,k4,k5⟩:=QDP hB aj (by simpa using z:(Q3 B p k true).2=0);obtain⟨g1,g2,g3⟩:=QHd hB aj k2 k1;have aq:IntKind.i64.wrap ((p:Int)+(k:Int))=((p+k:Nat):Int):=by rw[w64 (by unfold I64;omega)];omega
  rw[k4,aq]at h ⊢;obtain⟨is4,t2,R,r1,r2,r3,r4⟩:=ai {c with p:=((p+k:Nat):Int)} (p+k) (JY t1) ad rfl g3 (λ_ _=>rfl) h;refine⟨JY t1,is4,t1++t2,R,⟨t1,t2,rfl,k3,by rw[k1,ak],by rw[Lc aa],r1,r2⟩,?_,?_⟩;·rw[k2,<- g2,r3,LQ]
  rw[r4,Lh,k1,Rh]
 rw[Le (by simpa using aa)]at h ⊢;obtain⟨is4,t2,R,r1,r2,r3,r4⟩:=ai c p 0 ad ao ar (λ_ _=>rfl) h;exact⟨0,is4,t2,R,⟨[],t2,rfl,λz ap=>(by cases ap),by have:=QHj f;simp;omega,by rw[Le aa],r1,r2⟩,r3,r4⟩
theorem QBs (ae:FmS f)(ag:FOk f)(h:(QD B f).e=0):∃r x b v low aa ab q pl n is4 tb R,Rdg f r x b v low aa ab q pl∧Tlg f n is4 tb∧B=q++(f.code+low)::(pl++(tb++R))∧QD B f=Qda f.op ((q.length+1+pl.length+tb.length:Nat):Int) (opL (cR f r x b v low aa ab 0) n is4):=by
 have e2:QD B f=bif (rdM B (cR f 0 0 0 0 0 false QK 0)).1==0 then Jk B (rdM B (cR f 0 0 0 0 0 false QK 0)).2 else Y0 (rdM B (cR f 0 0 0 0 0 false QK 0)).1:=rfl
 rw[e2]at h;have ac:(rdM B (cR f 0 0 0 0 0 false QK 0)).1=0:=by
  cases z:(rdM B (cR f 0 0 0 0 0 false QK 0)).1==0 with
  | true=>exact eq_of_beq z
  | false=>rw[z]at h;exact h
 obtain⟨r,x,b,v,low,aa,ab,q,pl,R1,k1,k2,k3⟩:=QGo hB hl ae ag ac;rw[ac,k3]at h;simp only[LO,Lq]at h;have ad:B.drop (q.length+1+pl.length)=R1:=by
  rw[k2,show q.length+1+pl.length=q.length+(1+pl.length) by omega,<- Rc,List.drop_left,Nat.add_comm 1,List.drop_succ_cons,List.drop_left]
 have ah:q.length+1+pl.length<=B.length:=by rw[k2];simp;omega
 obtain⟨n,is4,tb,R,t1,t2,ai⟩:=QDW hB hl (c:=cR f r x b v low aa ab (q.length+1+pl.length)) rfl rfl ah h;rw[ad]at t2;refine⟨r,x,b,v,low,aa,ab,q,pl,n,is4,tb,R,k1,t1,by rw[k2,t2],?_⟩;rw[e2,ac,k3];simp only[LO,Lq];exact ai
end
