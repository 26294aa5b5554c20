/- Bytes as a number: what field.Get tells is a sum. -/
import Derived.Test.YtfofbicfabokbaaGreatDoorLibR
import Derived.Test.YtfofbicfabokbaaGreatDoorLibI
import Derived.Test.YtfofbicfabokbaaGreatDoorC9Ref
import Derived.KernelRfl
import Derived.Test.YtfofbicfabokbaaGreatDoorLibA
import Derived.Test.YtfofbicfabokbaaGreatDoorAbD
set_option linter.unusedVariables false
set_option maxRecDepth 100000
set_option linter.unusedSimpArgs false
set_option maxHeartbeats 4000000
noncomputable section
namespace Go.Proofs.YtfofbicfabokbaaGreatDoor.code
open Go.Ab
def leS (bs:List Int) (p:Nat):Nat->Int
 | 0=>0
 | i+1=>leS bs p i+bs.getD (p+i) 0 * 2 ^ (8 * i)
theorem Qq5 {bs:List Int} (hb:∀k,0<=bs.getD k 0∧bs.getD k 0<256) (p:Nat):∀i,0<=leS bs p i∧leS bs p i<2 ^ (8 * i)
 | 0=>⟨B0 _,(show(0:Int)<2 ^ (8 * 0) by decide)⟩
 | i+1=>by
  obtain⟨h1,h2⟩:=Qq5 hb p i;obtain⟨h3,h4⟩:=hb (p+i);have e:(2:Int) ^ (8 * (i+1))=256 * 2 ^ (8 * i):=by rw[show 8 * (i+1)=8 * i+8 by omega,Int.pow_add,Hu];rfl
  have hp:(0:Int)<2 ^ (8 * i):=Int.pow_pos (by decide);unfold leS;rw[e];generalize (2:Int) ^ (8 * i)=q at *;constructor
  ·have:=Int.mul_nonneg h3 (Int.le_of_lt hp);omega
  ·have:bs.getD (p+i) 0 * q<=255 * q:=Int.mul_le_mul_of_nonneg_right (by omega) (Int.le_of_lt hp);omega
theorem QBO (a b:Int) (k:Nat) (ha:0<=a) (hb:0<=b) (hak:a<2 ^ k) (h:a+b * 2 ^ k<2 ^ 64):(BitVec.ofInt 64 a ||| BitVec.ofInt 64 (b * 2 ^ k)).toNat=(a+b * 2 ^ k).toNat:=by
 obtain⟨m,rfl⟩:∃m:Nat,a=m:=⟨a.toNat,by omega⟩;obtain⟨n,rfl⟩:∃n:Nat,b=n:=⟨b.toNat,by omega⟩;have e1:((n:Int) * 2 ^ k)=((n * 2 ^ k:Nat):Int):=by rw[Int.natCast_mul,Int.natCast_pow];rfl
 have e2:(2:Int) ^ k=((2 ^ k:Nat):Int):=by rw[Int.natCast_pow];rfl
 rw[e1]at h ⊢;rw[e2]at hak;have hm:m<2 ^ k:=by omega
 have h64:m+n * 2 ^ k<2 ^ 64:=by
  have:((2:Int) ^ 64)=((2 ^ 64:Nat):Int):=by decide
  omega
 rw[BitVec.toNat_or];have t:∀x:Nat,x<2 ^ 64->(BitVec.ofInt 64 (x:Int)).toNat=x:=λx hx=>by
  rw[B7];omega
 rw[t m (by omega),t (n * 2 ^ k) (by omega)];have:=Nat.shiftLeft_add_eq_or_of_lt hm n;rw[Nat.shiftLeft_eq]at this;rw[Nat.or_comm,<- this];omega
theorem Qq6 {bs:List Int} (hb:∀k,0<=bs.getD k 0∧bs.getD k 0<256) (p:Nat):∀i,i<=8->QuZ bs p i=leS bs p i
 | 0,_=>rfl
 | i+1,hi=>by
  obtain⟨h1,h2⟩:=Qq5 hb p i;obtain⟨h5,h6⟩:=Qq5 hb p (i+1);obtain⟨h3,h4⟩:=hb (p+i);have h64:leS bs p (i+1)<2 ^ 64:=Int.lt_of_lt_of_le h6 (by
   have:=NP (show 0<2 by decide) (show 8 * (i+1)<=64 by omega);have e:∀k:Nat,(2:Int) ^ k=((2 ^ k:Nat):Int):=λk=>by rw[Int.natCast_pow];rfl
   rw[e,e];omega)
  have hmn:min (8 * i) 64=8 * i:=by omega
  have hp:(0:Int)<2 ^ (8 * i):=Int.pow_pos (by decide);have hb0:0<=bs.getD (p+i) 0 * 2 ^ (8 * i):=Int.mul_nonneg h3 (Int.le_of_lt hp);have hs:leS bs p (i+1)=leS bs p i+bs.getD (p+i) 0 * 2 ^ (8 * i):=rfl;unfold QuZ;rw[Qq6 hb p i (by omega),hmn];have wu:∀x:Int,0<=x->x<2 ^ 64->IntKind.u64.wrap x=x:=λx h h'=>by rw[NC];omega
  rw[wu _ h3 (by omega),wu _ hb0 (by omega)];rw[show(IntKind.u64.bits)=64 from rfl,QBO _ _ _ h1 h3 h2 (by omega),wu _ (by omega) (by omega)];omega
def sgn (x:Int) (n:Nat):Int:=if 2 ^ (8 * n - 1)<=x then x - 2 ^ (8 * n) else x
theorem QzQ {x:Int} {n:Nat} (hn:n=1∨n=2∨n=4∨n=8) (h0:0<=x) (h1:x<2 ^ (8 * n)):Qnb (IntKind.i64.wrap x) (8 * (n:Nat))=sgn x n:=by
 have key:∀k:Int,(k=1∨k=65536 * 65536∨k=65536 * 65536 * 65536∨k=65536 * 65536 * 65536 * 256)->∀m,m * k=18446744073709551616->0<=x->x<m->(IntKind.i64.wrap (IntKind.u64.wrap (IntKind.u64.wrap (IntKind.i64.wrap x) * k))).fdiv k=if m / 2<=x then x - m else x:=by
  intro k hk m hm h0 h1;rw[Np _ (by omega),NU,NU,NC,NC];rcases hk with rfl | rfl | rfl | rfl
  all_goals split<;>omega
 unfold Qnb sgn;rcases hn with rfl | rfl | rfl | rfl
 ·rw[show QcM (8 * ((1:Nat):Int))=true by decide,Le (by decide)];exact key (65536 * 65536 * 65536 * 256) (.inr (.inr (.inr rfl))) 256 rfl h0 h1
 ·rw[show QcM (8 * ((2:Nat):Int))=true by decide,Le (by decide)];exact key (65536 * 65536 * 65536) (.inr (.inr (.inl rfl))) 65536 rfl h0 h1
 ·rw[show QcM (8 * ((4:Nat):Int))=true by decide,Le (by decide)];exact key (65536 * 65536) (.inr (.inl rfl)) 4294967296 rfl h0 h1
 ·rw[show QcM (8 * ((8:Nat):Int))=true by decide,Le (by decide)];exact key 1 (.inl rfl) 18446744073709551616 rfl h0 h1
def leL:List Int->Int
 | []=>0
 | b::l=>b+256 * leL l
theorem QtI:∀ (l:List Int) (b:Int),leL (l++[b])=leL l+b * 2 ^ (8 * l.length)
 | [],b=>by show b+256 * 0=0+b * 2 ^ (8 * 0);rw[show(2:Int) ^ (8 * 0)=1 by decide];omega
 | x::l,b=>by
  have e:(2:Int) ^ (8 * (x::l).length)=256 * 2 ^ (8 * l.length):=by rw[Lo,show 8 * (l.length+1)=8 * l.length+8 by omega,Int.pow_add,Hu];rfl
  show x+256 * leL (l++[b])=x+256 * leL l+b * _;rw[QtI l b,e,Int.mul_add,Int.mul_left_comm b];omega
theorem QtJ (bs:List Int) (p:Nat):∀n,p+n<=bs.length->leS bs p n=leL ((bs.drop p).take n)
 | 0,_=>by rw[Rb];rfl
 | n+1,h=>by
  have hn:(bs.drop p).length=bs.length - p:=NT ..;have hg:(bs.drop p)[n]? = some (bs.getD (p+n) 0):=by rw[Nk,LX,La (by omega)];rfl
  have ht:(bs.drop p).take (n+1)=(bs.drop p).take n++[bs.getD (p+n) 0]:=by
   rw[Nv,hg];rfl
  rw[ht,QtI,Sb,hn,show min n (bs.length - p)=n by omega,<- QtJ bs p n (by omega)];rfl
theorem Qoe:∀ {l:List Int},(∀z∈l,0<=z∧z<256)->0<=leL l∧leL l<2 ^ (8 * l.length)
 | [],_=>⟨B0 _,(show(0:Int)<2 ^ (8 * 0) by decide)⟩
 | b::l,h=>by
  have e:(2:Int) ^ (8 * (b::l).length)=256 * 2 ^ (8 * l.length):=by rw[Lo,show 8 * (l.length+1)=8 * l.length+8 by omega,Int.pow_add,Hu];rfl
  obtain⟨h1,h2⟩:=Qoe λz hz=>h z (NA _ hz);obtain⟨h3,h4⟩:=h b (Ny ..);rw[e];show 0<=b+256 * leL l∧b+256 * leL l<_;omega
def Qav (l:List Int):Int:=if l.length=0 then 0 else sgn (leL l) l.length
theorem Qvl {bs:List Int} (hb:∀z∈bs,0<=z∧z<256) {p n:Nat} (hn:n=1∨n=2∨n=4∨n=8) (h:p+n<=bs.length):Yz bs p n true=(Qav ((bs.drop p).take n),0):=by
 have hg:∀k,0<=bs.getD k 0∧bs.getD k 0<256:=λk=>by
  rw[LX];cases hk:bs[k]? with
  | none=>exact⟨B0 _,(show(0:Int)<256 by decide)⟩
  | some z=>exact hb z (Ln hk)
 have hl:((bs.drop p).take n).length=n:=by rw[Sb,NT];omega
 have hs:QiO (n:Int)=true:=by rcases hn with rfl | rfl | rfl | rfl<;>rfl
 obtain⟨s1,s2⟩:=Qq5 hg p n;unfold Yz Qav;rw[hs,Le (by decide),Le (by simp;omega),Le (by omega),Lc rfl,hl,Le (by omega),LG,LG,Qq6 hg p n (by omega),QzQ hn s1 s2,QtJ bs p n h]
theorem Qye {l:List Int} (hb:∀z∈l,0<=z∧z<256) {n:Nat} (hl:l.length=n+1):(128<=l.getD n 0)↔(2:Int) ^ (8 * (n+1) - 1)<=leL l:=by
 have hg:l[n]? = some (l.getD n 0):=by rw[LX,La (by omega)];rfl
 have ht:l=l.take n++[l.getD n 0]:=by
  have:l.take (n+1)=l.take n++[l.getD n 0]:=by rw[Nv,hg];rfl
  rw[LF (by omega)]at this;exact this
 have hk:(l.take n).length=n:=by rw[Sb];omega
 obtain⟨h1,h2⟩:=Qoe (l:=l.take n) λz hz=>hb z (List.mem_of_mem_take hz);rw[hk]at h2;obtain⟨h3,h4⟩:=hb _ (Ln hg);have e:leL l=leL (l.take n)+l.getD n 0 * 2 ^ (8 * n):=by
  have:=QtI (l.take n) (l.getD n 0);rw[<- ht,hk]at this;exact this
 have e2:(2:Int) ^ (8 * (n+1) - 1)=128 * 2 ^ (8 * n):=by rw[show 8 * (n+1) - 1=8 * n+7 by omega,Int.pow_add,Hu];rfl
 have hp:(0:Int)<2 ^ (8 * n):=Int.pow_pos (by decide);rw[e,e2];generalize (2:Int) ^ (8 * n)=q at *;generalize l.getD n 0=t at *;constructor
 ·intro h;have:128 * q<=t * q:=Int.mul_le_mul_of_nonneg_right h (Int.le_of_lt hp);omega
 ·intro h
  by_cases h':128<=t
  ·exact h'
  ·have:t * q<=127 * q:=Int.mul_le_mul_of_nonneg_right (by omega) (Int.le_of_lt hp);omega
theorem Gz (r:Rg) (H:Qa):Qh prog X5 [.agg r.cells.toArray] H λu H'=>u=.bool (VE r)∧∃k,H'=H.up k:=by
 refine QiJ λhw=>?_;obtain⟨c,n⟩:=r;simp(disch:=(first | omega | (simp only[hnP];try omega))) only[Rg.cells,QcI,Yk,Yl,Ym,Yn,Yo,Qk,simprocAttr,Jv]
 repeat' (first
   | (refine Qo (λh=>?_) (λh=>?_)<;>(try simp only[Lr,Lu]at h)<;>simp(disch:=(first | omega | (simp only[hnP];try omega))) only[Yk,Yl,Ym,Yn,Yo,Qk,simprocAttr,Jv,h])
   | (refine Qf (λh=>?_) (λh=>?_)<;>(try simp only[Lr,Lu]at h)<;>simp(disch:=(first | omega | (simp only[hnP];try omega))) only[Yk,Yl,Ym,Yn,Yo,Qk,simprocAttr,Jv,h])
   | (with_reducible refine⟨by simp[Qs,plain],by omega,?_⟩)
   | (with_reducible refine⟨by simp[Qs,plain],?_⟩)
   | fail)
 all_goals refine .ext hw ?_ ⟨?_,_,rfl⟩
 all_goals try (repeat' (first | exact Ext.refl _ | refine Ext.push ?_ _ | refine Ext.up ?_ (by simp only[Ql,Q4,Wm];omega) | refine Ext.set ?_ (by omega) _))
 all_goals (simp_all [VE,Qlt];try first | omega | (rw[Ni];simp;omega))
theorem VJ (r:Rg) (H:Qa):Qh prog Yy [.agg r.cells.toArray] H λu H'=>u=.bool (isR r 0 0)∧∃k,H'=H.up k:=by
 refine QjR λhw=>?_;obtain⟨c,n⟩:=r;simp(disch:=(first | omega | (simp only[hnP];try omega))) only[Rg.cells,Qdb,Qk,simprocAttr,Qu,Kh]
 repeat' (first
   | (refine Qo (λh=>?_) (λh=>?_)<;>(try simp only[Lr,Lu]at h)<;>simp(disch:=(first | omega | (simp only[hnP];try omega))) only[Qk,simprocAttr,Qu,Kh,h])
   | (refine Qf (λh=>?_) (λh=>?_)<;>(try simp only[Lr,Lu]at h)<;>simp(disch:=(first | omega | (simp only[hnP];try omega))) only[Qk,simprocAttr,Qu,Kh,h])
   | (with_reducible refine⟨by simp[Qs,plain],by omega,?_⟩)
   | (with_reducible refine⟨by simp[Qs,plain],?_⟩)
   | fail)
 all_goals refine .ext hw ?_ ⟨?_,_,rfl⟩
 all_goals try (repeat' (first | exact Ext.refl _ | refine Ext.push ?_ _ | refine Ext.up ?_ (by simp only[Ql,Q4,Wm];omega) | refine Ext.set ?_ (by omega) _))
 all_goals simp[isR]
theorem Qd4 (r:Rg) (H:Qa):Qh prog ZP [.agg r.cells.toArray] H λu H'=>u=.bool (JT r)∧∃k,H'=H.up k:=by
 refine QjT λhw=>?_;have q1:=Gz r;have hs:JT r=((r.c==5)&&VE r):=rfl;rw[hs];clear hs;generalize VE r=v at *;obtain⟨c,n⟩:=r;simp only[Rg.cells]at q1;simp(disch:=(first | omega | (simp only[hnP];try omega))) only[Rg.cells,Qde,Qk,simprocAttr,YY]
 repeat' (first
   | (refine Qo (λh=>?_) (λh=>?_)<;>(try simp only[Lr,Lu]at h)<;>simp(disch:=(first | omega | (simp only[hnP];try omega))) only[Qk,simprocAttr,YY,h])
   | (refine Qf (λh=>?_) (λh=>?_)<;>(try simp only[Lr,Lu]at h)<;>simp(disch:=(first | omega | (simp only[hnP];try omega))) only[Qk,simprocAttr,YY,h])
   | (refine(q1 _).thenW ?_;rintro _ _ hn hw2 ⟨rfl,k,rfl⟩;(try simp only[Ql,Wm,Q4]at hn);simp(disch:=(first | omega | (simp only[hnP];try omega))) only[Qk,simprocAttr,YY])
   | (with_reducible refine⟨by simp[Qs,plain],by omega,?_⟩)
   | (with_reducible refine⟨by simp[Qs,plain],?_⟩)
   | fail)
 all_goals refine .ext hw ?_ ⟨?_,_,rfl⟩
 all_goals try (repeat' (first | exact Ext.refl _ | refine Ext.push ?_ _ | refine Ext.up ?_ (by simp only[Ql,Q4,Wm];omega) | refine Ext.set ?_ (by omega) _))
 all_goals simp_all
theorem Qq7 (n:Int) (l:List Int) (v:Value) (H:Qa) (hv:ZA H v l.length (ints l)) (hl:l.length<=1000):Qh prog Yb [.int .i64 n,v] H λu H'=>u=.bool (l.contains n)∧H'=H:=by
 refine Qlq λhw=>?_;obtain⟨a,cap,rfl,hb⟩:=hv;simp only[QeL,Qb,simprocAttr];refine QE (λm A' H'=>∃i:Nat,m+i=l.length∧H'=H∧(l.contains n=(l.drop i).contains n)∧A' 0=.int .i64 n∧A' 1=.slice a l.length cap∧A' 5=.int .i64 i) l.length ?_ ?_
 ·refine⟨0,rfl,rfl,rfl,?_,?_,?_⟩
  all_goals simp only[uxA,uxB,Nat.reduceBEq]
  rfl
 ·rintro m A' H1 ⟨i,hm,rfl,hc,r0,r1,r5⟩
  by_cases hi:i<l.length
  ·obtain⟨b,e,ro,rfl,hg⟩:=hb (by omega);have d1:decide ((i:Int)<(l.length:Int))=true:=Lp (by omega);have wi:IntKind.i64.wrap ((i:Int)+1)=((i+1:Nat):Int):=by rw[w64 (by unfold I64;omega)];rfl
   have c2:(0:Int)<=(i:Int)∧(i:Int)<(l.length:Int):=by omega
   have c3:(i:Int).toNat=i:=LG _;have hg2:=XQ hi;have hd:l.drop i=l.getD i 0::l.drop (i+1):=by
    rw[Nh hi,LX,La hi];rfl
   rw[hd,List.contains_cons]at hc;simp only[Gv,Qdd,Qb,simprocAttr,r0,r1,r5,d1,c2,c3,hg,hg2,Nf];refine Qf (λh=>?_) (λh=>?_)
   ·have h2:(n==l.getD i 0)=true:=by rw[Bool.beq_comm];exact h
    rw[h2,N1]at hc;simp only[Qb,simprocAttr,h,QdZ];exact .mk (Lb _) ⟨by rw[hc],rfl⟩
   ·have h2:(n==l.getD i 0)=false:=by rw[Bool.beq_comm];exact h
    rw[h2,Nt]at hc;simp only[Qb,simprocAttr,h,r5,wi];refine⟨m - 1,by omega,i+1,by omega,rfl,hc,?_,?_,?_⟩
    all_goals simp only[Qg,simprocAttr,r0,r1]
  ·have d1:decide ((i:Int)<(l.length:Int))=false:=Lj (by omega);have hn:l.drop i=[]:=NR (by omega);rw[hn]at hc;simp only[Gv,Qb,simprocAttr,r1,r5,d1,QdZ];exact .mk (Lb _) ⟨by rw[hc];rfl,rfl⟩
theorem QHm (n:Int) {b:Nat} {H:Qa} (hg:H.get b=some (.cells [.int .i64 0,.int .i64 1,.int .i64 2,.int .i64 4,.int .i64 8,.int .i64 16,.int .i64 32] 3 false)):Qh prog Yb [.int .i64 n,.slice (some ⟨b,0,none⟩) 7 7] H λu H'=>u=.bool (Gw n)∧H'=H:=by
 refine(Qq7 n [0,1,2,4,8,16,32] _ H ⟨_,_,rfl,λ_=>⟨_,_,_,rfl,hg⟩⟩ (by decide)).mono ?_;rintro _ _ ⟨rfl,rfl⟩;refine⟨?_,rfl⟩;congr 1;unfold Gw;simp only[List.contains_cons,List.contains_nil,NI,FP]
theorem QHn (n:Int) {b:Nat} {H:Qa} (hg:H.get b=some (.cells [.int .i64 1,.int .i64 2,.int .i64 4,.int .i64 8] 3 false)):Qh prog Yb [.int .i64 n,.slice (some ⟨b,0,none⟩) 4 4] H λu H'=>u=.bool (Zr n)∧H'=H:=by
 refine(Qq7 n [1,2,4,8] _ H ⟨_,_,rfl,λ_=>⟨_,_,_,rfl,hg⟩⟩ (by decide)).mono ?_;rintro _ _ ⟨rfl,rfl⟩;refine⟨?_,rfl⟩;congr 1;unfold Zr;simp only[List.contains_cons,List.contains_nil,NI,FP]
theorem Qdh (m:Mm) (H:Qa):Qh prog Zn [.agg m.cells.toArray] H λu H'=>u=.int .i64 (QV m)∧∃k,H'=H.up k:=by
 refine QiK λhw=>?_;have hs:QV m=(if(decide (m.d < -2147483648)||decide (m.d>2147483647))=true then 5
  else if Gw m.sz=false then 2
  else if(!isR m.b 0 0&&!isR m.b 8 0&&!JT m.b)=true then 2
  else if(isR m.i 0 0&&!(m.sc==0))=true then 2
  else if isR m.i 0 0=true then 0
  else if(!JT m.i||!Zr m.sc||isR m.b 8 0)=true then 2
  else if(isR m.i 5 4&&(!(m.sc==1)||isR m.b 5 4))=true then 2
  else 0):=rfl
 rw[hs];clear hs;have n1:=VJ m.b;have n2:=VJ m.i;have w1:=Qd4 m.b;have w2:=Qd4 m.i;have i7:=@QHm m.sz;have i4:=@QHn m.sc;generalize Gw m.sz=zs at *;generalize Zr m.sc=zc at *;generalize JT m.b=wb at *;generalize JT m.i=wi at *;obtain⟨⟨bc,bn⟩,⟨ic,nn⟩,sc,d,sz⟩:=m;simp only[Rg.cells]at n1 n2 w1 w2;simp(disch:=(first | omega | (simp only[hnP];try omega))) only[Mm.cells,QcJ,QO,QP,QQ,QR,QS,QT,Qk,simprocAttr,Qu,Q6]
 repeat' (first
   | (refine Qo (λh=>?_) (λh=>?_)<;>(try simp only[Lr,Lu]at h)<;>simp(disch:=(first | omega | (simp only[hnP];try omega))) only[QO,QP,QQ,QR,QS,QT,Qk,simprocAttr,Qu,Q6,h])
   | (refine Qf (λh=>?_) (λh=>?_)<;>(try simp only[Lr,Lu]at h)<;>simp(disch:=(first | omega | (simp only[hnP];try omega))) only[QO,QP,QQ,QR,QS,QT,Qk,simprocAttr,Qu,Q6,h])
   | (refine(n1 _).thenW ?_;rintro _ _ hn hw2 ⟨rfl,k,rfl⟩;(try simp only[Ql,Wm,Q4]at hn);simp(disch:=(first | omega | (simp only[hnP];try omega))) only[QO,QP,QQ,QR,QS,QT,Qk,simprocAttr,Qu,Q6])
   | (refine(n2 _).thenW ?_;rintro _ _ hn hw2 ⟨rfl,k,rfl⟩;(try simp only[Ql,Wm,Q4]at hn);simp(disch:=(first | omega | (simp only[hnP];try omega))) only[QO,QP,QQ,QR,QS,QT,Qk,simprocAttr,Qu,Q6])
   | (refine(w1 _).thenW ?_;rintro _ _ hn hw2 ⟨rfl,k,rfl⟩;(try simp only[Ql,Wm,Q4]at hn);simp(disch:=(first | omega | (simp only[hnP];try omega))) only[QO,QP,QQ,QR,QS,QT,Qk,simprocAttr,Qu,Q6])
   | (refine(w2 _).thenW ?_;rintro _ _ hn hw2 ⟨rfl,k,rfl⟩;(try simp only[Ql,Wm,Q4]at hn);simp(disch:=(first | omega | (simp only[hnP];try omega))) only[QO,QP,QQ,QR,QS,QT,Qk,simprocAttr,Qu,Q6])
   | (refine(i7 (by simp(disch:=(first | omega | (simp only[hnP];try omega))) only[Qqr,simprocAttr];done)).thenW ?_;rintro _ _ hn hw2 ⟨rfl,rfl⟩;(try simp only[Ql,Wm,Q4]at hn);simp(disch:=(first | omega | (simp only[hnP];try omega))) only[QO,QP,QQ,QR,QS,QT,Qk,simprocAttr,Qu,Q6])
   | (refine(i4 (by simp(disch:=(first | omega | (simp only[hnP];try omega))) only[Qqr,simprocAttr];done)).thenW ?_;rintro _ _ hn hw2 ⟨rfl,rfl⟩;(try simp only[Ql,Wm,Q4]at hn);simp(disch:=(first | omega | (simp only[hnP];try omega))) only[QO,QP,QQ,QR,QS,QT,Qk,simprocAttr,Qu,Q6])
   | (with_reducible refine⟨by simp[Qs,plain],by omega,?_⟩)
   | (with_reducible refine⟨by simp[Qs,plain],?_⟩)
   | fail)
 all_goals refine .ext hw ?_ ⟨?_,_,rfl⟩
 all_goals try (repeat' (first | exact Ext.refl _ | refine Ext.push ?_ _ | refine Ext.up ?_ (by simp only[Ql,Q4,Wm];omega) | refine Ext.set ?_ (by omega) _))
 all_goals clear n1 n2 w1 w2 i7 i4
 all_goals first | (simp_all [isR];done) | (simp_all [isR];(repeat' split)<;>first | rfl | omega | (simp_all;done) | (exfalso;simp_all;omega))
theorem Qo9 (md:Int) (H:Qa):Qh prog Zl [.int .i64 md] H λu H'=>u=.int .i64 (if(md==1)=true then 1 else if(md==2)=true then 4 else 0)∧H'=H:=by
 refine Qi3 λhw=>?_;simp only[QcX,Qb,simprocAttr];cases h1:md==1 with
 | true=>simp only[Qb,simprocAttr,JN];exact .mk (Lb _) ⟨rfl,rfl⟩
 | false=>
  simp only[Qb,simprocAttr];cases h2:md==2 with
  | true=>simp only[Qb,simprocAttr,JN];exact .mk (Lb _) ⟨rfl,rfl⟩
  | false=>simp only[Qb,simprocAttr,JN];exact .mk (Lb _) ⟨rfl,rfl⟩
theorem Qof (n:Int) (H:Qa):Qh prog YL [.int .i64 n] H λu H'=>u=.agg #[.int .i64 5,.int .i64 n]∧∃k,H'=H.up k:=by
 refine Qk4 λhw=>?_;simp only[Qee,Qb,simprocAttr,Qj5];exact .ext hw (((Ext.refl H).push _).set (Lb _) _) ⟨rfl,_,rfl⟩
theorem Qvm {bs:List Int} {p n k:Nat} (h:k<n):((bs.drop p).take n).getD k 0=bs.getD (p+k) 0:=by
 rw[LX,LX,Nl,Lc h,Nk]
theorem Qw5 {H:Qa} {a:Option Addr} {cap:Nat} {bs:List Int} (h:QbC H (.slice a bs.length cap) bs) (hcap:bs.length<=cap∧cap<UNK) {p n:Nat} (hq:p+n<=bs.length):∃a' c',ZJ 1 (.slice a bs.length cap) (some (p:Int)) (some ((p+n:Nat):Int)) none=some (.slice a' n c')∧QbC H (.slice a' n c') ((bs.drop p).take n):=by
 have hl:((bs.drop p).take n).length=n:=by rw[Sb,NT];omega
 obtain⟨a0,c0,e,h1⟩:=h;cases e;cases a with
 | none=>
  have h0:bs.length=0:=by
   rcases B6 bs.length with h | h
   ·exact h
   ·obtain⟨_,_,_,_,_,h,_⟩:=h1 h;cases h
  unfold ZJ;simp only[NB,Br];rw[Lc (by omega)];refine⟨none,cap - p,by rw[show((p+n:Nat):Int).toNat - (p:Int).toNat=n by omega];simp,none,cap - p,by rw[hl],λh=>by rw[hl]at h;omega⟩
 | some ad=>
  unfold ZJ;simp only[NB,Br];rw[Le (by omega),Lc (by omega)];refine⟨_,_,by rw[show((p+n:Nat):Int).toNat - (p:Int).toNat=n by omega],_,_,by rw[hl],λh=>?_⟩;rw[hl]at h;obtain⟨b,o,e,ro,cs,ea,hg,hcs⟩:=h1 (by omega);cases ea;rw[Le (by omega)];refine⟨b,o+p,e,ro,cs,by simp,hg,λj hj=>?_⟩;rw[hl]at hj;rw[Qvm hj,Rh];exact hcs (p+j) (by omega)
theorem QeH {bs:List Int} (hb:∀z∈bs,0<=z∧z<256) (k:Nat):0<=bs.getD k 0∧bs.getD k 0<256:=by
 rw[LX];cases hk:bs[k]? with
 | none=>exact⟨B0 _,(show(0:Int)<256 by decide)⟩
 | some z=>exact hb z (Ln hk)
theorem Qw6 (v:Value) (l:List Int) (H:Qa) (hb:QbC H v l) (hl:l.length=0∨l.length=1∨l.length=4) (hz:∀z∈l,0<=z∧z<256):Qh prog Vf [v] H λu H'=>u=.int .i64 (Qav l)∧H'=H:=by
 refine Qj9 λhw=>?_;obtain⟨a,cap,rfl,hby⟩:=hb;have hlen:l.length<=4:=by omega
 have hbd:∀j,j<=l.length->0<=leL (l.drop j)∧leL (l.drop j)<4294967296:=λj hj=>by
  obtain⟨h1,h2⟩:=Qoe (l:=l.drop j) λz hz'=>hz z (List.mem_of_mem_drop hz');refine⟨h1,Int.lt_of_lt_of_le h2 ?_⟩;have:=NP (show 0<2 by decide) (show 8 * (l.drop j).length<=32 by rw[NT];omega);have e:∀k:Nat,(2:Int) ^ k=((2 ^ k:Nat):Int):=λk=>by rw[Int.natCast_pow];rfl
  rw[e];have:(2 ^ 32:Nat)=4294967296:=by decide
  omega
 have e0:IntKind.i64.wrap ((l.length:Int) - 1)=(l.length:Int) - 1:=w64 (by unfold I64;omega);simp only[Qdr,Qb,simprocAttr,Qp,e0];refine QE (λm A' H'=>∃j:Nat,j<=l.length∧j=m∧H=H'∧A' 0=.slice a l.length cap∧A' 3=.int .i64 (leL (l.drop j))∧A' 4=.int .i64 ((j:Int) - 1)) l.length ?_ ?_
 ·refine⟨l.length,Lb _,rfl,rfl,?_,?_,?_⟩
  all_goals simp only[Qg,simprocAttr]
  rw[BU];rfl
 ·rintro m A' H' ⟨j,hj,rfl,rfl,r0,r3,r4⟩;simp only[Qcm,Qb,simprocAttr,r4,Ft];refine Qf (λh2=>?_) (λh2=>?_)
  ·have h2:1<=j:=by have:=Lg h2;omega
   obtain⟨b,o,e,ro,cs,rfl,hg,hcs⟩:=hby (by omega);have c1:(0:Int)<=(j:Int) - 1∧(j:Int) - 1<l.length:=by omega
   have c3:((j:Int) - 1).toNat=j - 1:=by omega
   have g1:=hcs (j - 1) (by omega);have hy:=QeH hz (j - 1);have hd:l.drop (j - 1)=l.getD (j - 1) 0::l.drop j:=by
    rw[Nh (show j - 1<l.length by omega),show j - 1+1=j by omega];simp[LX,La (show j - 1<l.length by omega)]
   obtain⟨b1,b2⟩:=hbd j hj;obtain⟨b3,b4⟩:=hbd (j - 1) (by omega);have el:leL (l.drop (j - 1))=l.getD (j - 1) 0+256 * leL (l.drop j):=by rw[hd];rfl
   generalize l.getD (j - 1) 0=y at *;have ey:IntKind.i64.wrap y=y:=w64 (by unfold I64;omega);have e1:IntKind.i64.wrap (256 * leL (l.drop j))=256 * leL (l.drop j):=w64 (by unfold I64;omega);have e2:IntKind.i64.wrap (256 * leL (l.drop j)+y)=leL (l.drop (j - 1)):=by rw[el,w64 (by unfold I64;omega)];omega
   have e3:IntKind.i64.wrap ((j:Int) - 1 - 1)=((j - 1:Nat):Int) - 1:=by rw[w64 (by unfold I64;omega)];omega
   simp only[Qcl,Qb,simprocAttr,r0,r3,r4,c1,c3,hg,g1,ey,e1,e2,e3];refine⟨j - 1,by omega,j - 1,by omega,rfl,rfl,?_,?_,?_⟩
   all_goals simp only[Qg,simprocAttr,r0]
  ·have h2:j=0:=by have:=Ll h2;omega
   subst h2;rw[Lw]at r3;simp only[Qck,Qb,simprocAttr,r0,Qp,B4]
   by_cases h0:l.length=0
   ·have e:Qav l=leL l:=by unfold Qav;rw[Lc h0,N2.1 h0];rfl
    have z:decide ((0:Int)<(l.length:Int))=false:=by rw[NY];omega
    simp only[Qb,simprocAttr,z,r3,Kw];exact .mk (Lb _) ⟨by rw[e],rfl⟩
   ·obtain⟨n,hn⟩:∃n,l.length=n+1:=⟨l.length - 1,by omega⟩;have z:decide ((0:Int)<(l.length:Int))=true:=by rw[Lv];omega
    obtain⟨b,o,e,ro,cs,rfl,hg,hcs⟩:=hby (by omega);have e1:IntKind.i64.wrap ((l.length:Int) - 1)=(n:Int):=by rw[e0];omega
    have c1:(0:Int)<=(n:Int)∧(n:Int)<l.length:=by omega
    have c3:(n:Int).toNat=n:=LG n;have g1:=hcs n (by omega);have ht:=Qye hz hn;obtain⟨b1,b2⟩:=hbd 0 (by omega);rw[Lw]at b1 b2;have e8:IntKind.i64.wrap (8 * (l.length:Int))=8 * (l.length:Int):=w64 (by unfold I64;omega);simp only[Qb,simprocAttr,z,r0,r3,Qp,e1,c1,c3,hg,g1,Ft];have es:Qav l=if(2:Int) ^ (8 * (n+1) - 1)<=leL l then leL l - 2 ^ (8 * (n+1)) else leL l:=by
     unfold Qav sgn;rw[Le h0,hn]
    cases hq:decide (128<=l.getD n 0) with
    | false=>
     rw[Le (λh=>Ll hq (ht.2 h))]at es;simp only[Qb,simprocAttr,r3,Kw];exact .mk (Lb _) ⟨by rw[es],rfl⟩
    | true=>
     rw[Lc (ht.1 (Lg hq))]at es;simp only[Qb,simprocAttr,r0,r3,Qp,e8];have ev:IntKind.i64.wrap (leL l - IntKind.i64.wrap (1 * 2 ^ min (8 * (l.length:Int)).toNat IntKind.i64.bits))=Qav l:=by
      rw[es];obtain hn1 | hn4:n=0∨n=3:=by omega
      ·subst hn1;rw[hn,show IntKind.i64.wrap (1 * 2 ^ min (8 * ((0+1:Nat):Int)).toNat IntKind.i64.bits)=256 from rfl,show(2:Int) ^ (8 * (0+1))=256 from rfl,w64 (by unfold I64;omega)]
      ·subst hn4;rw[hn,show IntKind.i64.wrap (1 * 2 ^ min (8 * ((3+1:Nat):Int)).toNat IntKind.i64.bits)=4294967296 from rfl,show(2:Int) ^ (8 * (3+1))=4294967296 from rfl,w64 (by unfold I64;omega)]
     refine⟨by omega,?_⟩;simp only[Kw,Qg,simprocAttr,ev];exact .mk (Lb _) ⟨rfl,rfl⟩
theorem Qw7 {m:Mm} (h:QV m=0) (hs:(m.sc==1)=true):isR m.i 0 0=false:=by
 have hs:=L0.1 hs;cases hi:isR m.i 0 0 with
 | false=>rfl
 | true=>
  exfalso;unfold QV at h;rw[hi,hs]at h
  repeat' (split at h)
  all_goals first | omega | (rename_i h9;simp at h9;done) | simp_all
def QtK (m:Mm):Mm:=if(m.sc==1)=false then m else if isR m.b 0 0=true then⟨m.i,⟨0,0⟩,0,m.d,m.sz⟩ else if(m.i.n==4)=true then⟨m.i,m.b,m.sc,m.d,m.sz⟩ else m
theorem Qw8 (m:Mm):Y5 m=if QV m=0 then(QtK m,0) else(Wh,QV m):=by
 unfold Y5
 by_cases h:QV m=0
 ·rw[Lc h,Lc h];congr 1;unfold Qf2 QtK;cases hs:m.sc==1 with
  | false=>simp
  | true=>rw[Qw7 h hs];simp
 ·rw[Le h,Le h]
theorem Qds (m:Mm) (H:Qa):Qh prog Zm [.agg m.cells.toArray] H λu H'=>u=.tuple #[.agg (Y5 m).1.cells.toArray,.int .i64 (Y5 m).2]∧∃k,H'=H.up k:=by
 refine QiI λhw=>?_;have q:=Qdh m;have n1:=VJ m.b;have hmc:QtK m=if(m.sc==1)=false then m else if isR m.b 0 0=true then⟨m.i,⟨0,0⟩,0,m.d,m.sz⟩ else if(m.i.n==4)=true then⟨m.i,m.b,m.sc,m.d,m.sz⟩ else m:=rfl
 rw[Qw8,hmc];clear hmc;generalize QV m=e at *;obtain⟨⟨bc,bn⟩,⟨ic,nn⟩,sc,d,sz⟩:=m;simp only[Mm.cells]at q;simp only[Rg.cells]at n1;simp(disch:=(first | omega | (simp only[hnP];try omega))) only[Mm.cells,QcH,WF,WG,WH,WI,Qk,simprocAttr,Qu,Xv]
 repeat' (first
   | (refine Qo (λh=>?_) (λh=>?_)<;>(try simp only[Lr,Lu]at h)<;>simp(disch:=(first | omega | (simp only[hnP];try omega))) only[WF,WG,WH,WI,Qk,simprocAttr,Qu,Xv,h])
   | (refine Qf (λh=>?_) (λh=>?_)<;>(try simp only[Lr,Lu]at h)<;>simp(disch:=(first | omega | (simp only[hnP];try omega))) only[WF,WG,WH,WI,Qk,simprocAttr,Qu,Xv,h])
   | (refine(q _).thenW ?_;rintro _ _ hn hw2 ⟨rfl,k,rfl⟩;(try simp only[Ql,Wm,Q4]at hn);simp(disch:=(first | omega | (simp only[hnP];try omega))) only[WF,WG,WH,WI,Qk,simprocAttr,Qu,Xv])
   | (refine(n1 _).thenW ?_;rintro _ _ hn hw2 ⟨rfl,k,rfl⟩;(try simp only[Ql,Wm,Q4]at hn);simp(disch:=(first | omega | (simp only[hnP];try omega))) only[WF,WG,WH,WI,Qk,simprocAttr,Qu,Xv])
   | (with_reducible refine⟨by simp[Qs,plain],by omega,?_⟩)
   | (with_reducible refine⟨by simp[Qs,plain],?_⟩)
   | fail)
 all_goals refine .ext hw ?_ ⟨?_,_,rfl⟩
 all_goals try (repeat' (first | exact Ext.refl _ | refine Ext.push ?_ _ | refine Ext.up ?_ (by simp only[Ql,Q4,Wm];omega) | refine Ext.set ?_ (by omega) _))
 all_goals clear q n1
 all_goals first | (simp_all [isR,Wh,Mm.cells];done) | (simp_all [isR,Wh,Mm.cells];(repeat' split)<;>first | rfl | (simp_all;done) | omega)
theorem GF (a:Ar) (H:Qa):Qh prog X4 [.agg a.cells.toArray] H λu H'=>u=.int .i64 (Yg a)∧∃k,H'=H.up k:=by
 refine QiG λhw=>?_;have q1:=Gz a.r;have q2:=Qdh a.m;have hs:Yg a=(if(a.k==1)=true then(if(!VE a.r||a.r.c==8)=true then 2 else 0)
 else if(a.k==2)=true then QV a.m
 else if(a.k==3)=true then 0
 else if(a.k==4)=true then(if(decide (a.n < -2147483648)||decide (2147483647<a.n))=true then 5 else 0)
 else 2):=rfl
 rw[hs];clear hs;generalize VE a.r=v at *;generalize QV a.m=e at *;obtain⟨k,⟨rc,rn⟩,⟨⟨bc,bn⟩,⟨ic,nn⟩,sc,d,sz⟩,n⟩:=a;simp only[Rg.cells,Mm.cells]at q1 q2;simp(disch:=(first | omega | (simp only[hnP];try omega))) only[Ar.cells,QcG,WA,WB,WC,WD,WE,Qk,simprocAttr,Xu]
 repeat' (first
   | (refine Qo (λh=>?_) (λh=>?_)<;>(try simp only[Lr,Lu]at h)<;>simp(disch:=(first | omega | (simp only[hnP];try omega))) only[WA,WB,WC,WD,WE,Qk,simprocAttr,Xu,h])
   | (refine Qf (λh=>?_) (λh=>?_)<;>(try simp only[Lr,Lu]at h)<;>simp(disch:=(first | omega | (simp only[hnP];try omega))) only[WA,WB,WC,WD,WE,Qk,simprocAttr,Xu,h])
   | (refine(q1 _).thenW ?_;rintro _ _ hn hw2 ⟨rfl,k,rfl⟩;(try simp only[Ql,Wm,Q4]at hn);simp(disch:=(first | omega | (simp only[hnP];try omega))) only[WA,WB,WC,WD,WE,Qk,simprocAttr,Xu])
   | (refine(q2 _).thenW ?_;rintro _ _ hn hw2 ⟨rfl,k,rfl⟩;(try simp only[Ql,Wm,Q4]at hn);simp(disch:=(first | omega | (simp only[hnP];try omega))) only[WA,WB,WC,WD,WE,Qk,simprocAttr,Xu])
   | (with_reducible refine⟨by simp[Qs,plain],by omega,?_⟩)
   | (with_reducible refine⟨by simp[Qs,plain],?_⟩)
   | fail)
 all_goals refine .ext hw ?_ ⟨?_,_,rfl⟩
 all_goals try (repeat' (first | exact Ext.refl _ | refine Ext.push ?_ _ | refine Ext.up ?_ (by simp only[Ql,Q4,Wm];omega) | refine Ext.set ?_ (by omega) _))
 all_goals clear q1 q2
 all_goals simp_all
theorem Qka (a:Ar) (H:Qa):Qh prog Zk [.agg a.cells.toArray] H λu H'=>u=.tuple #[.agg (WP a).1.cells.toArray,.int .i64 (WP a).2]∧∃k,H'=H.up k:=by
 refine QiD λhw=>?_;have q1:=GF a;have q2:=Qds a.m;have hm:=@Qmx a;have hcc:Y5 a.m=if QV a.m=0 then(Qf2 a.m,0) else(Wh,QV a.m):=rfl
 have hce:WP a=if(Yg a==0)=true then(Qf4 a,0) else(Qu7,Yg a):=rfl
 rw[hce];rw[hcc]at q2;clear hce hcc;generalize Yg a=e at *;generalize QV a.m=f at *;have hca:Qf4 a=if(a.k==1)=true then⟨a.k,a.r,Wh,0⟩ else if(a.k==2)=true then⟨a.k,⟨0,0⟩,Qf2 a.m,0⟩ else⟨a.k,⟨0,0⟩,Wh,a.n⟩:=rfl
 rw[hca];clear hca;generalize Qf2 a.m=mc at *;obtain⟨k,⟨rc,rn⟩,⟨⟨bc,bn⟩,⟨ic,nn⟩,sc,d,sz⟩,n⟩:=a;obtain⟨⟨mb,mbn⟩,⟨mi,min⟩,msc,md,msz⟩:=mc;simp only[Ar.cells,Mm.cells]at q1 q2 hm;simp(disch:=(first | omega | (simp only[hnP];try omega))) only[Ar.cells,QcE,Wy,Wz,Qk,simprocAttr,Xs]
 repeat' (first
   | (refine Qo (λh=>?_) (λh=>?_)<;>(try simp only[Lr,Lu]at h)<;>simp(disch:=(first | omega | (simp only[hnP];try omega))) only[Wy,Wz,Qk,simprocAttr,Xs,h])
   | (refine Qf (λh=>?_) (λh=>?_)<;>(try simp only[Lr,Lu]at h)<;>simp(disch:=(first | omega | (simp only[hnP];try omega))) only[Wy,Wz,Qk,simprocAttr,Xs,h])
   | (refine(q1 _).thenW ?_;rintro _ _ hn hw2 ⟨rfl,k,rfl⟩;(try simp only[Ql,Wm,Q4]at hn);simp(disch:=(first | omega | (simp only[hnP];try omega))) only[Wy,Wz,Qk,simprocAttr,Xs])
   | (refine(q2 _).thenW ?_;rintro _ _ hn hw2 ⟨rfl,k,rfl⟩;(try simp only[Ql,Wm,Q4]at hn);simp(disch:=(first | omega | (simp only[hnP];try omega))) only[Wy,Wz,Qk,simprocAttr,Xs])
   | (with_reducible refine⟨by simp[Qs,plain],by omega,?_⟩)
   | (with_reducible refine⟨by simp[Qs,plain],?_⟩)
   | fail)
 all_goals refine .ext hw ?_ ⟨?_,_,rfl⟩
 all_goals try (repeat' (first | exact Ext.refl _ | refine Ext.push ?_ _ | refine Ext.up ?_ (by simp only[Ql,Q4,Wm];omega) | refine Ext.set ?_ (by omega) _))
 all_goals simp_all [Qu7,Wh,Ar.cells,Mm.cells]
theorem Qk6 (r:Rg) (H:Qa):Qh prog Vg [.agg r.cells.toArray] H λu H'=>u=.int .i64 (QhU r)∧∃k,H'=H.up k:=by
 refine QjS λhw=>?_;have q1:=Gz r;have hs:QhU r=if VE r=false then 0 else if r.c=7 then 32 else if r.c=6 then 16 else if r.c=5∨r.c=8 then 8 else if r.c=4 then 4 else if r.c=3 then 2 else 1:=rfl
 rw[hs];clear hs;generalize VE r=v at *;obtain⟨c,n⟩:=r;simp only[Rg.cells]at q1;simp(disch:=(first | omega | (simp only[hnP];try omega))) only[Rg.cells,Qdc,Xw,Xx,Xy,Xz,XA,Qk,simprocAttr,YX]
 repeat' (first
   | (refine Qo (λh=>?_) (λh=>?_)<;>(try simp only[Lr,Lu]at h)<;>simp(disch:=(first | omega | (simp only[hnP];try omega))) only[Xw,Xx,Xy,Xz,XA,Qk,simprocAttr,YX,h])
   | (refine Qf (λh=>?_) (λh=>?_)<;>(try simp only[Lr,Lu]at h)<;>simp(disch:=(first | omega | (simp only[hnP];try omega))) only[Xw,Xx,Xy,Xz,XA,Qk,simprocAttr,YX,h])
   | (refine(q1 _).thenW ?_;rintro _ _ hn hw2 ⟨rfl,k,rfl⟩;(try simp only[Ql,Wm,Q4]at hn);simp(disch:=(first | omega | (simp only[hnP];try omega))) only[Xw,Xx,Xy,Xz,XA,Qk,simprocAttr,YX])
   | (with_reducible refine⟨by simp[Qs,plain],by omega,?_⟩)
   | (with_reducible refine⟨by simp[Qs,plain],?_⟩)
   | fail)
 all_goals refine .ext hw ?_ ⟨?_,_,rfl⟩
 all_goals try (repeat' (first | exact Ext.refl _ | refine Ext.push ?_ _ | refine Ext.up ?_ (by simp only[Ql,Q4,Wm];omega) | refine Ext.set ?_ (by omega) _))
 all_goals clear q1
 all_goals first | (simp_all;done) | (simp_all;omega)
theorem Qk7 (a:Ar) (H:Qa):Qh prog ZO [.agg a.cells.toArray] H λu H'=>u=.int .i64 (QkZ a)∧∃k,H'=H.up k:=by
 refine QjQ λhw=>?_;have q1:=GF a;have q2:=Qk6 a.r;have hs:QkZ a=if(Yg a==0)=true then(if(a.k==1)=true then QhU a.r else if(a.k==2)=true then a.m.sz else 0) else 0:=rfl
 rw[hs];clear hs;generalize Yg a=e at *;generalize QhU a.r=sr at *;obtain⟨k,⟨rc,rn⟩,⟨⟨bc,bn⟩,⟨ic,nn⟩,sc,d,sz⟩,n⟩:=a;simp only[Ar.cells,Rg.cells]at q1 q2;simp(disch:=(first | omega | (simp only[hnP];try omega))) only[Ar.cells,Qda,WR,WS,Qk,simprocAttr,XP]
 repeat' (first
   | (refine Qo (λh=>?_) (λh=>?_)<;>(try simp only[Lr,Lu]at h)<;>simp(disch:=(first | omega | (simp only[hnP];try omega))) only[WR,WS,Qk,simprocAttr,XP,h])
   | (refine Qf (λh=>?_) (λh=>?_)<;>(try simp only[Lr,Lu]at h)<;>simp(disch:=(first | omega | (simp only[hnP];try omega))) only[WR,WS,Qk,simprocAttr,XP,h])
   | (refine(q1 _).thenW ?_;rintro _ _ hn hw2 ⟨rfl,k,rfl⟩;(try simp only[Ql,Wm,Q4]at hn);simp(disch:=(first | omega | (simp only[hnP];try omega))) only[WR,WS,Qk,simprocAttr,XP])
   | (refine(q2 _).thenW ?_;rintro _ _ hn hw2 ⟨rfl,k,rfl⟩;(try simp only[Ql,Wm,Q4]at hn);simp(disch:=(first | omega | (simp only[hnP];try omega))) only[WR,WS,Qk,simprocAttr,XP])
   | (with_reducible refine⟨by simp[Qs,plain],by omega,?_⟩)
   | (with_reducible refine⟨by simp[Qs,plain],?_⟩)
   | fail)
 all_goals refine .ext hw ?_ ⟨?_,_,rfl⟩
 all_goals try (repeat' (first | exact Ext.refl _ | refine Ext.push ?_ _ | refine Ext.up ?_ (by simp only[Ql,Q4,Wm];omega) | refine Ext.set ?_ (by omega) _))
 all_goals clear q1 q2
 all_goals simp_all
def ByC (H:Qa) (v:Value) (bs:List Int):Prop:=QbC H v bs∧∃a cap,v=.slice a bs.length cap∧bs.length<=cap∧cap<UNK
theorem ByC.ext {H H':Qa} {v:Value} {bs:List Int} (hw:H.Wf) (he:Ext H H') (h:ByC H v bs):ByC H' v bs:=⟨h.1.ext hw he,h.2⟩
def Qgc (bs:List Int) (p n:Nat) (fld:Int) (m:Mm):Sn×Int:=
 if bs.length<p+n then(Zg,9) else(⟨fld,-1,(Y5 {m with d:=Qav ((bs.drop p).take n)}).1,((p+n:Nat):Int)⟩,0)
theorem Qi6 (v:Value) (bs:List Int) (p n:Nat) (fld:Int) (m:Mm) (H:Qa) (hb:ByC H v bs) (hl:bs.length<=1000000) (hz:∀z∈bs,0<=z∧z<256) (hn:n=0∨n=1∨n=4) (hp:p<=bs.length):
  Qh prog Xq [v,.int .i64 p,.int .i64 n,.int .i64 fld,.agg m.cells.toArray] H λu H'=>u=.tuple #[.agg (Qgc bs p n fld m).1.cells.toArray,.int .i64 (Qgc bs p n fld m).2]∧∃k,H'=H.up k:=by
 refine Qj4 λhw=>?_;obtain⟨hb1,a,cap,rfl,hc1,hc2⟩:=hb;have em:(Value.agg m.cells.toArray).cells.toList=m.cells:=rfl;obtain⟨R,hR⟩:∃R,R=Qgc bs p n fld m:=⟨_,rfl⟩;rw[<- hR];unfold Qgc at hR;have en:IntKind.i64.wrap ((p:Int)+(n:Int))=((p+n:Nat):Int):=by rw[w64 (by unfold I64;omega)];omega
 simp only[Qdo,Qzq,simprocAttr,em];generalize hH2:Qa.push (Qa.push H _) _=H2;have hx2:Ext H H2:=by rw[<- hH2];exact((Ext.refl H).push _).push _
 have hw2:H2.Wf:=by rw[<- hH2];exact(hw.push _).push _
 have g1:H2.get H.next=some (.cells m.cells Qq false):=by rw[<- hH2,Qi,Le (by rw[Ql];omega),Qi,Lc rfl]
 have g2:H2.get (H.next+1)=some (.cells z10 QM false):=by rw[<- hH2,Qi,Lc (by rw[Ql])]
 have hn2:H2.next=H.next+2:=by rw[<- hH2,Ql,Ql]
 clear hH2;simp only[Qb,simprocAttr,Qp,en,B4];cases h1:decide ((bs.length:Int)<((p+n:Nat):Int)) with
 | true=>
  have h1:=Lg h1;rw[Lc (by omega)]at hR;simp only[Qb,simprocAttr,g2,QcW];have hx3:=hx2.set (show H.next<=H.next+1 by omega) (.cells z10 QM false);exact .ext hw hx3 ⟨by rw[hR];rfl,_,rfl⟩
 | false=>
  have h1:=Ll h1;rw[Le (by omega)]at hR;obtain⟨a',c',hs,hsub⟩:=Qw5 (hb1.ext hw hx2) ⟨hc1,hc2⟩ (show p+n<=bs.length by omega);have hsl:((bs.drop p).take n).length=n:=by rw[Sb,NT];omega
  simp only[Qb8,Qb,simprocAttr,en,hs];refine(Qw6 _ _ H2 hsub (by rw[hsl];omega) (λz hz'=>hz z (List.mem_of_mem_drop (List.mem_of_mem_take hz')))).thenW ?_;rintro _ H2 _ _ ⟨rfl,rfl⟩;generalize Qav ((bs.drop p).take n)=d at *;have md:List.take 5 m.cells++Value.int IntKind.i64 d::List.drop 6 m.cells=({m with d:=d}:Mm).cells:=rfl;have ml:∀m:Mm,m.cells.length=7:=λm=>rfl;have mt:∀m:Mm,List.take 7 m.cells=m.cells:=λm=>rfl;have n01:¬H.next+1=H.next:=by omega
  have n10:¬H.next=H.next+1:=by omega
  simp only[Qb,simprocAttr,g1,md,ml,mt];have hx3:=hx2.set (Lb _) (.cells ({m with d:=d}:Mm).cells Qq false);have hw3:=hw2.set g1 (.cells ({m with d:=d}:Mm).cells Qq false);have g13:(H2.set H.next (.cells ({m with d:=d}:Mm).cells Qq false)).get H.next=some (.cells ({m with d:=d}:Mm).cells Qq false):=by rw[Qm,Lc rfl]
  have g23:(H2.set H.next (.cells ({m with d:=d}:Mm).cells Qq false)).get (H.next+1)=some (.cells z10 QM false):=by rw[Qm,Le n01];exact g2
  generalize Qa.set H2 H.next _=H3 at *;refine(Qds {m with d:=d} H3).thenW ?_;rintro _ _ hn4 hw4 ⟨rfl,k,rfl⟩;generalize (Y5 {m with d:=d}).1=m2 at *;have hx4:∀x y,Ext H (((H3.up k).set H.next x).set (H.next+1) y):=λx y=>((hx3.up hn4).set (Lb _) x).set (by omega) y;obtain⟨⟨b1,b2⟩,⟨i1,i2⟩,s1,d1,z1⟩:=m2;obtain⟨⟨b3,b4⟩,⟨i3,i4⟩,s3,d3,z3⟩:=m;simp only[Mm.cells,Rg.cells]at g13;simp only[Qb,simprocAttr,Mm.cells,Rg.cells,W3,g13,g23,n01,n10,LN,en,z10,QcW];exact .ext hw (hx4 _ _) ⟨by rw[hR];rfl,_,rfl⟩
def ch (y:Int):Bool:=(IntKind.i64.wrap (y.tdiv 64)==(QY y).1)&&((IntKind.i64.wrap (y.tdiv 8)).tmod 8==(QY y).2.1)&&(y.tmod 8==(QY y).2.2)&&decide (0<=(QY y).1)&&decide ((QY y).1<=3)&&decide (0<=(QY y).2.1)&&decide ((QY y).2.1<=7)&&decide (0<=(QY y).2.2)&&decide ((QY y).2.2<=7)
theorem QF0:((List.range 256).all λy=>ch (y:Nat))=true:=by kernel_rfl
theorem Qog {y:Int} (h0:0<=y) (h1:y<256):IntKind.i64.wrap (y.tdiv 64)=(QY y).1∧(IntKind.i64.wrap (y.tdiv 8)).tmod 8=(QY y).2.1∧y.tmod 8=(QY y).2.2∧(0<=(QY y).1∧(QY y).1<=3)∧(0<=(QY y).2.1∧(QY y).2.1<=7)∧0<=(QY y).2.2∧(QY y).2.2<=7:=by
 have h:=Li.1 QF0 y.toNat (LU.2 (by omega));rw[show((y.toNat:Nat):Int)=y by omega]at h;unfold ch at h;simp only[Lm,L0,Lv]at h;obtain⟨⟨⟨⟨⟨⟨⟨⟨a,b⟩,c⟩,d⟩,e⟩,f⟩,g⟩,i⟩,j⟩:=h;exact⟨a,b,c,⟨d,e⟩,⟨f,g⟩,i,j⟩
def QmC (ix hi:Int):Mm:=if(ix==4)=true then Wh else {Wh with i:=⟨5,ix⟩,sc:=IntKind.i64.wrap (1 * 2 ^ min hi.toNat IntKind.i64.bits)}
def wdN (md:Int):Nat:=if(md==1)=true then 1 else if(md==2)=true then 4 else 0
theorem QET (md:Int):(if(md==1)=true then(1:Int) else if(md==2)=true then 4 else 0)=((wdN md:Nat):Int):=by
 unfold wdN
 repeat' split
 all_goals rfl
theorem Qq8 (md:Int):wdN md=0∨wdN md=1∨wdN md=4:=by
 unfold wdN
 repeat' split
 all_goals omega
def Qr5 (bs:List Int) (p:Nat) (md fld x bb:Int):Sn×Int:=
 if p=bs.length then(Zg,9) else
  let y:=bs.getD p 0
  let ix:=(QY y).2.1+8 * x
  let ba:=(QY y).2.2
  if((ix==4)&&!((QY y).1==0)||(md==0)&&(ba==5)&&(bb==1))=true then(Zg,4)
  else if((md==0)&&(ba==5))=true then Qgc bs (p+1) 4 fld (QmC ix (QY y).1)
  else Qgc bs (p+1) (wdN md) fld {QmC ix (QY y).1 with b:=⟨5,ba+8 * bb⟩}
theorem QzR (v:Value) (bs:List Int) (p:Nat) (md fld x bb:Int) (H:Qa) (hb:ByC H v bs) (hl:bs.length<=1000000) (hz:∀z∈bs,0<=z∧z<256) (hp:p<=bs.length) (hx:x=0∨x=1) (hbb:bb=0∨bb=1):
  Qh prog Qaq [v,.int .i64 p,.int .i64 md,.int .i64 fld,.int .i64 x,.int .i64 bb] H λu H'=>u=.tuple #[.agg (Qr5 bs p md fld x bb).1.cells.toArray,.int .i64 (Qr5 bs p md fld x bb).2]∧∃k,H'=H.up k:=by
 refine Qk3 λhw=>?_;have hb0:=hb;obtain⟨hb1,a,cap,rfl,hc1,hc2⟩:=hb;obtain⟨R,hR⟩:∃R,R=Qr5 bs p md fld x bb:=⟨_,rfl⟩;rw[<- hR];unfold Qr5 at hR;simp only at hR;have ten:z10.length=10:=rfl;simp only[Qed,Qzq,simprocAttr];generalize hH1:Qa.push H _=H1;have hx1:Ext H H1:=by rw[<- hH1];exact(Ext.refl H).push _
 have hw1:H1.Wf:=by rw[<- hH1];exact hw.push _
 have g1:H1.get H.next=some (.cells z10 QM false):=by rw[<- hH1,Qi,Lc rfl]
 have hn1:H1.next=H.next+1:=by rw[<- hH1];rfl
 clear hH1;have bad:∀ (A:Env) (H':Qa) (n:Int),Ext H H'->H'.get H.next=some (.cells z10 QM false)->A 12=.pointer (some ⟨H.next,0,none⟩)->A 13=.int .i64 n->R=(Zg,n)->Rt prog WK H (λu H'=>u=.tuple #[.agg R.1.cells.toArray,.int .i64 R.2]∧∃k,H'=H.up k) A H':=λA H' n hx hg r12 r13 hr=>by
  simp only[Qdn,Qb,simprocAttr,r12,r13,hg,ten];exact .ext hw hx ⟨by rw[hr];rfl,_,rfl⟩
 have fin:∀ (A:Env) (H':Qa) (S:Sn),Ext H H'->H'.get H.next=some (.cells S.cells QM false)->A 12=.pointer (some ⟨H.next,0,none⟩)->A 13=.int .i64 R.2->R.1=S->Rt prog WK H (λu H'=>u=.tuple #[.agg R.1.cells.toArray,.int .i64 R.2]∧∃k,H'=H.up k) A H':=λA H' S hx hg r12 r13 hr=>by
  have l10:S.cells.length=10:=rfl;simp only[Qdn,Qb,simprocAttr,r12,r13,hg,l10];exact .ext hw hx ⟨by rw[hr];rfl,_,rfl⟩
 try simp only[Qb,simprocAttr,Qp]
 cases h1:(p:Int)==(bs.length:Int) with
 | true=>
  have h1:p=bs.length:=by have:=eq_of_beq h1;omega
  rw[Lc h1]at hR;simp only[Qb,simprocAttr,g1,ten];refine bad _ _ 9 (hx1.set (Lb _) _) ?_ ?_ ?_ hR
  ·rw[Qm,Lc rfl]
  all_goals simp only[Qg,simprocAttr]
 | false=>
  have h1':¬ (p:Int)=bs.length:=by simpa using h1
  have h1:¬p=bs.length:=by omega
  rw[Le h1]at hR;obtain⟨a',c',e',hby⟩:=hb1;cases e';obtain⟨bb0,o,e,ro,cs,rfl,hgb,hcs⟩:=hby (by omega);have hg':H1.get bb0=some (.cells cs e ro):=(hx1.get bb0 (hw.lt hgb)).trans hgb;have c1:(0:Int)<=p∧(p:Int)<bs.length:=by omega
  have c3:(p:Int).toNat=p:=LG p;have gy:=hcs p (by omega);obtain⟨hy0,hy1⟩:=QeH hz p;obtain⟨s1,s2,s3,s4,s5,s6⟩:=Qog hy0 hy1;generalize bs.getD p 0=y at *;have ey:IntKind.i64.wrap y=y:=w64 (by unfold I64;omega);have e8:∀z:Int,(z=0∨z=1)->IntKind.i64.wrap (8 * z)=8 * z:=λz h=>w64 (by unfold I64;omega);generalize QY y=sp at *;obtain⟨hi,mid,lo⟩:=sp;simp only at s1 s2 s3 s4 s5 s6 hR;have eix:IntKind.i64.wrap (mid+8 * x)=mid+8 * x:=w64 (by unfold I64;omega);have eb:IntKind.i64.wrap (lo+8 * bb)=lo+8 * bb:=w64 (by unfold I64;omega);have ep:IntKind.i64.wrap ((p:Int)+1)=((p+1:Nat):Int):=by rw[w64 (by unfold I64;omega)];omega
  have hb1H:∀H',Ext H H'->ByC H' (.slice (some ⟨bb0,o,none⟩) bs.length cap) bs:=λH' hx=>hb0.ext hw hx
  -- behind the place's index
  have rest:∀ (A:Env) (H3:Qa) (mm:Mm),H3.Wf->Ext H H3->H3.get H.next=some (.cells z10 QM false)->H3.get (H.next+1)=some (.cells mm.cells Qq false)->mm=QmC (mid+8 * x) hi->
    A 0=.slice (some ⟨bb0,o,none⟩) bs.length cap->A 1=.int .i64 p->A 2=.int .i64 md->A 3=.int .i64 fld->A 5=.int .i64 bb->A 12=.pointer (some ⟨H.next,0,none⟩)->A 14=.int .i64 y->A 15=.int .i64 (mid+8 * x)->A 16=.int .i64 lo->A 17=.pointer (some ⟨H.next+1,0,none⟩)->
    Qn prog Kv ⟨Rt prog WK H (λu H'=>u=.tuple #[.agg R.1.cells.toArray,.int .i64 R.2]∧∃k,H'=H.up k),X2⟩ (Rt prog WK H (λu H'=>u=.tuple #[.agg R.1.cells.toArray,.int .i64 R.2]∧∃k,H'=H.up k)) A H3:=by
   intro A H3 mm hw3 hx3 gs gm hmm r0 r1 r2 r3 r5 r12 r14 r15 r16 r17;rw[<- hmm]at hR;have nn:¬H.next+1=H.next:=by omega
   have hm:(Value.agg mm.cells.toArray).cells.toList=mm.cells:=rfl;have ml:mm.cells.length=7:=rfl;have mt:List.take 7 mm.cells=mm.cells:=rfl;have ag:(#[.int .i64 mm.b.c,.int .i64 mm.b.n,.int .i64 mm.i.c,.int .i64 mm.i.n,.int .i64 mm.sc,.int .i64 mm.d,.int .i64 mm.sz]:Array Value)=mm.cells.toArray:=rfl;have q4:=Qi6 _ bs (p+1) 4 fld mm H3 (hb1H H3 hx3) hl hz (.inr (.inr rfl)) (by omega);have tl:∀ (A':Env) (H':Qa),Ext H H'->H'.get H.next=some (.cells z10 QM false)->A' 12=.pointer (some ⟨H.next,0,none⟩)->∀S:Sn×Int,R=S->QoJ prog [Ow 93 (.ext (t 92) 0),Ow 94 (.ext (t 92) 1),Ov (.st 10 (t 12) (t 93)),Om 13 (t 94)] (Qn prog .ret ⟨Rt prog WK H (λu H'=>u=.tuple #[.agg R.1.cells.toArray,.int .i64 R.2]∧∃k,H'=H.up k),X2⟩ (Rt prog WK H (λu H'=>u=.tuple #[.agg R.1.cells.toArray,.int .i64 R.2]∧∃k,H'=H.up k))) A' (some 92) (.tuple #[.agg S.1.cells.toArray,.int .i64 S.2]) H':=by
    intro A' H' hx' gs' a12 S hS;have hc:(Value.agg S.1.cells.toArray).cells.toList=S.1.cells:=rfl;have l10:S.1.cells.length=10:=rfl;have d10:List.drop 10 z10=[]:=rfl;simp only[Qb,simprocAttr,a12,gs',hc,l10,ten];refine⟨rfl,?_⟩;refine fin _ _ S.1 (hx'.set (Lb _) _) ?_ ?_ ?_ (by rw[hS])
    ·rw[Qm,Lc rfl]
    ·simp only[Qg,simprocAttr,a12]
    ·simp only[Qg,simprocAttr,hS]
   have rest1:∀A':Env,A' 0=.slice (some ⟨bb0,o,none⟩) bs.length cap->A' 1=.int .i64 p->A' 2=.int .i64 md->A' 3=.int .i64 fld->A' 5=.int .i64 bb->A' 12=.pointer (some ⟨H.next,0,none⟩)->A' 16=.int .i64 lo->A' 17=.pointer (some ⟨H.next+1,0,none⟩)->R=Qgc bs (p+1) (wdN md) fld {mm with b:=⟨5,lo+8 * bb⟩}->
     Qn prog Kt ⟨Rt prog WK H (λu H'=>u=.tuple #[.agg R.1.cells.toArray,.int .i64 R.2]∧∃k,H'=H.up k),X2⟩ (Rt prog WK H (λu H'=>u=.tuple #[.agg R.1.cells.toArray,.int .i64 R.2]∧∃k,H'=H.up k)) A' H3:=by
    intro A' a0 a1 a2 a3 a5 a12 a16 a17 hr;simp only[Kt,Qb,simprocAttr,a5,a16,e8 bb hbb,eb];refine(Qof (lo+8 * bb) H3).thenW ?_;rintro _ _ hn4 hw4 ⟨rfl,k,rfl⟩;have gm':(H3.up k).get (H.next+1)=some (.cells mm.cells Qq false):=by rw[W3];exact gm
    simp only[Qb,simprocAttr,a0,a1,a2,a3,a17,gm',ep];have hlow:H.next+1<(H3.up k).next:=N5 (hw3.lt gm) hn4;have mb:Value.int .i64 5::Value.int .i64 (lo+8 * bb)::List.drop 2 mm.cells=({mm with b:=⟨5,lo+8 * bb⟩}:Mm).cells:=rfl;have hx5:Ext H ((H3.up k).set (H.next+1) (.cells ({mm with b:=⟨5,lo+8 * bb⟩}:Mm).cells Qq false)):=(hx3.up hn4).set (by omega) _;have hw5:=hw4.set gm' (.cells ({mm with b:=⟨5,lo+8 * bb⟩}:Mm).cells Qq false);have gm5:((H3.up k).set (H.next+1) (.cells ({mm with b:=⟨5,lo+8 * bb⟩}:Mm).cells Qq false)).get (H.next+1)=some (.cells ({mm with b:=⟨5,lo+8 * bb⟩}:Mm).cells Qq false):=by rw[Qm,Lc rfl]
    have gs5:((H3.up k).set (H.next+1) (.cells ({mm with b:=⟨5,lo+8 * bb⟩}:Mm).cells Qq false)).get H.next=some (.cells z10 QM false):=by rw[Qm,Le (by omega),W3];exact gs
    rw[mb];generalize ({mm with b:=⟨5,lo+8 * bb⟩}:Mm)=m5 at *;refine⟨by rw[ml];decide,hlow,?_⟩;generalize Qa.set (Qa.up H3 k) _ _=H5 at *;refine(Qo9 md H5).thenW ?_;rintro _ H5 _ _ ⟨rfl,rfl⟩;have ml5:m5.cells.length=7:=rfl;have mt5:List.take 7 m5.cells=m5.cells:=rfl;rw[QET];simp only[Qb,simprocAttr,a3,a17,gm5,ml5,mt5];refine⟨(Ext.refl _).eqB,by simp[Qs,Ab.plain,Mm.cells,Rg.cells],?_⟩;refine(Qi6 _ bs (p+1) (wdN md) fld m5 H5 (hb1H H5 hx5) hl hz (Qq8 md) (by omega)).thenW ?_;rintro _ _ hn6 hw6 ⟨rfl,k6,rfl⟩;refine tl _ _ (hx5.up hn6) (by rw[W3];exact gs5) ?_ _ hr;simp only[Qg,simprocAttr,a12]
   simp only[Kv,Qb,simprocAttr,r2,r5,r14,r15,r16,s1]
   repeat' (first
    | (refine Qo (λg=>?_) (λg=>?_)<;>(try simp only[Lr,Lu]at g)<;>simp only[Qb,simprocAttr,Ku,r0,r1,r2,r3,r5,r12,r14,r15,r16,r17,s1,ep,gs,gm,hm,ml,mt,ten,g])
    | (refine Qf (λg=>?_) (λg=>?_)<;>(try simp only[Lr,Lu]at g)<;>simp only[Qb,simprocAttr,Ku,r0,r1,r2,r3,r5,r12,r14,r15,r16,r17,s1,ep,gs,gm,hm,ml,mt,ten,g])
    | fail)
   all_goals first
    | (refine bad _ _ 4 (hx3.set (Lb _) (.cells z10 QM false)) ?_ ?_ ?_ ?_<;>first | (rw[Qm,Lc rfl];done) | (simp only[Qg,simprocAttr,r12];done) | (rw[hR];simp[*];done))
    | (refine q4.thenW ?_;rintro _ _ hn6 hw6 ⟨rfl,k6,rfl⟩;refine tl _ _ (hx3.up hn6) (by rw[W3];exact gs) ?_ _ ?_<;>first | (simp only[Qg,simprocAttr,r12];done) | (rw[hR];simp[*];done))
    | (refine rest1 _ ?_ ?_ ?_ ?_ ?_ ?_ ?_ ?_ ?_<;>first | (simp only[Qg,simprocAttr,r0,r1,r2,r3,r5,r12,r16,r17];done) | (rw[hR];simp[*];done))
    | (exfalso;clear bad fin tl rest1 q4 hR;simp_all;done)
  have M0:[Value.int .i64 0,.int .i64 0,.int .i64 0,.int .i64 0,.int .i64 0,.int .i64 0,.int .i64 0]=Wh.cells:=rfl;simp only[QcV,Qb,simprocAttr,c1,c3,hg',gy,ey,s2,s3,e8 x hx,eix,M0];generalize hH2:Qa.push H1 _=H2;have hx2:Ext H H2:=by rw[<- hH2];exact hx1.push _
  have hw2:H2.Wf:=by rw[<- hH2];exact hw1.push _
  have gM:H2.get (H.next+1)=some (.cells Wh.cells Qq false):=by rw[<- hH2,Qi,Lc hn1.symm]
  have gS:H2.get H.next=some (.cells z10 QM false):=by rw[<- hH2,Qi,Le (by omega)];exact g1
  clear hH2;rw[hn1];cases e4:mid+8 * x==4 with
  | true=>
   simp only[Qb,simprocAttr,L8];refine rest _ H2 Wh hw2 hx2 gS gM (by unfold QmC;rw[e4,Lc rfl]) ?_ ?_ ?_ ?_ ?_ ?_ ?_ ?_ ?_ ?_
   all_goals simp only[Qg,simprocAttr]
  | false=>
   simp only[Qb,simprocAttr,LM];refine(Qof (mid+8 * x) H2).thenW ?_;rintro _ _ hn4 hw4 ⟨rfl,k,rfl⟩;have gM':(H2.up k).get (H.next+1)=some (.cells Wh.cells Qq false):=by rw[W3];exact gM
   simp only[Qb,simprocAttr,gM',s1];refine⟨by decide,s4.1,(show 5<=7 by decide),?_⟩;have hes:QmC (mid+8 * x) hi={Wh with i:=⟨5,mid+8 * x⟩,sc:=IntKind.i64.wrap (1 * 2 ^ min hi.toNat IntKind.i64.bits)}:=by unfold QmC;rw[e4,Le (by decide)]
   refine rest _ _ (QmC (mid+8 * x) hi) ((hw4.set gM' _).set (by rw[Qm,Lc rfl]) _) (((hx2.up hn4).set (by omega) _).set (by omega) _) ?_ ?_ rfl ?_ ?_ ?_ ?_ ?_ ?_ ?_ ?_ ?_ ?_
   ·rw[Qm,Le (by omega),Qm,Le (by omega),W3];exact gS
   ·rw[Qm,Lc rfl,hes];rfl
   all_goals simp only[Qg,simprocAttr]
def Qns (bs:List Int) (p:Nat) (x bb:Int):Sn×Int:=
 if p=bs.length then(Zg,9) else
  let s:=QY (bs.getD p 0)
  if(!(s.1==3)&&(s.2.2==4))=true then Qr5 bs (p+1) s.1 s.2.1 x bb
  else if((x==1)||(s.1==0)&&(s.2.2==5)&&(bb==1))=true then(Zg,4)
  else if(s.1==3)=true then(⟨s.2.1,s.2.2+8 * bb,Wh,((p+1:Nat):Int)⟩,0)
  else if((s.1==0)&&(s.2.2==5))=true then Qgc bs (p+1) 4 s.2.1 {Wh with b:=⟨8,0⟩}
  else Qgc bs (p+1) (wdN s.1) s.2.1 {Wh with b:=⟨5,s.2.2+8 * bb⟩}
theorem Qw9 (v:Value) (bs:List Int) (p:Nat) (x bb:Int) (H:Qa) (hb:ByC H v bs) (hl:bs.length<=1000000) (hz:∀z∈bs,0<=z∧z<256) (hp:p<=bs.length) (hx:x=0∨x=1) (hbb:bb=0∨bb=1):
    Qh prog Vd [v,.int .i64 p,.int .i64 x,.int .i64 bb] H λu H'=>u=.tuple #[.agg (Qns bs p x bb).1.cells.toArray,.int .i64 (Qns bs p x bb).2]∧∃k,H'=H.up k:=by
  refine Qj2 λhw=>?_;have hb0:=hb;obtain⟨hb1,a,cap,rfl,hc1,hc2⟩:=hb;obtain⟨R,hR⟩:∃R,R=Qns bs p x bb:=⟨_,rfl⟩;rw[<- hR];unfold Qns at hR;simp only at hR;have ten:z10.length=10:=rfl;have d1:decide ((p:Int)<0)=false:=Lj (by omega);have d2:decide ((bs.length:Int)<(p:Int))=false:=Lj (by omega);have d3:decide (x<0)=false:=Lj (by omega);have d4:decide (1<x)=false:=Lj (by omega);have d5:decide (bb<0)=false:=Lj (by omega);have d6:decide (1<bb)=false:=Lj (by omega);simp only[Qdm,Qzq,simprocAttr];generalize hH1:Qa.push H _=H1;have hx1:Ext H H1:=by rw[<- hH1];exact(Ext.refl H).push _
  have hw1:H1.Wf:=by rw[<- hH1];exact hw.push _
  have g1:H1.get H.next=some (.cells z10 QM false):=by rw[<- hH1,Qi,Lc rfl]
  clear hH1;have fin:∀ (A:Env) (H':Qa) (S:Sn),Ext H H'->H'.get H.next=some (.cells S.cells QM false)->A 8=.pointer (some ⟨H.next,0,none⟩)->A 9=.int .i64 R.2->R.1=S->Rt prog Qeb H (λu H'=>u=.tuple #[.agg R.1.cells.toArray,.int .i64 R.2]∧∃k,H'=H.up k) A H':=λA H' S hx hg r12 r13 hr=>by
    have l10:S.cells.length=10:=rfl;simp only[Qi1,Qb,simprocAttr,r12,r13,hg,l10];exact .ext hw hx ⟨by rw[hr];rfl,_,rfl⟩
  have bad:∀ (A:Env) (H':Qa) (n:Int),Ext H H'->H'.get H.next=some (.cells z10 QM false)->A 8=.pointer (some ⟨H.next,0,none⟩)->A 9=.int .i64 n->R=(Zg,n)->Rt prog Qeb H (λu H'=>u=.tuple #[.agg R.1.cells.toArray,.int .i64 R.2]∧∃k,H'=H.up k) A H':=λA H' n hx hg r12 r13 hr=>fin A H' Zg hx hg r12 (by rw[hr];exact r13) (by rw[hr]);have set10:∀S:Sn,List.take 0 z10++(S.cells++List.drop 10 z10)=S.cells:=λS=>by show[]++(S.cells++[])=S.cells;rw[Na,LH]
  simp only[Qb,simprocAttr,d1,d2,d3,d4,d5,d6,Qp,B4];simp only[Qb7,Qb,simprocAttr,Qp];cases h1:(p:Int)==(bs.length:Int) with
  | true=>
    have h1:p=bs.length:=by have:=eq_of_beq h1;omega
    rw[Lc h1]at hR;simp only[Qb,simprocAttr,g1,ten];refine bad _ _ 9 (hx1.set (Lb _) _) ?_ ?_ ?_ hR
    · rw[Qm,Lc rfl]
    all_goals simp only[Qg,simprocAttr]
  | false=>
    have h1':¬ (p:Int)=bs.length:=by simpa using h1
    have h1:¬p=bs.length:=by omega
    rw[Le h1]at hR;obtain⟨a',c',e',hby⟩:=hb1;cases e';obtain⟨bb0,o,e,ro,cs,rfl,hgb,hcs⟩:=hby (by omega);have hg':H1.get bb0=some (.cells cs e ro):=(hx1.get bb0 (hw.lt hgb)).trans hgb;have c1:(0:Int)<=p∧(p:Int)<bs.length:=by omega
    have c3:(p:Int).toNat=p:=LG p;have gy:=hcs p (by omega);obtain⟨hy0,hy1⟩:=QeH hz p;obtain⟨s1,s2,s3,s4,s5,s6⟩:=Qog hy0 hy1;generalize bs.getD p 0=y at *;have ey:IntKind.i64.wrap y=y:=w64 (by unfold I64;omega);have e8:IntKind.i64.wrap (8 * bb)=8 * bb:=w64 (by unfold I64;omega);generalize QY y=sp at *;obtain⟨md,fld,rm⟩:=sp;simp only at s1 s2 s3 s4 s5 s6 hR;have eb:IntKind.i64.wrap (rm+8 * bb)=rm+8 * bb:=w64 (by unfold I64;omega);have ep:IntKind.i64.wrap ((p:Int)+1)=((p+1:Nat):Int):=by rw[w64 (by unfold I64;omega)];omega
    have hb1H:ByC H1 (.slice (some ⟨bb0,o,none⟩) bs.length cap) bs:=hb0.ext hw hx1;have agM:∀m:Mm,(#[.int .i64 m.b.c,.int .i64 m.b.n,.int .i64 0,.int .i64 0,.int .i64 0,.int .i64 0,.int .i64 0]:Array Value)=(Mm.cells {Wh with b:=m.b}).toArray:=λm=>rfl;have qs:=QzR _ bs (p+1) md fld x bb H1 hb1H hl hz (by omega) hx hbb;have q4:=Qi6 _ bs (p+1) 4 fld {Wh with b:=⟨8,0⟩} H1 hb1H hl hz (.inr (.inr rfl)) (by omega);have hmR:∀S:Sn,(Value.agg S.cells.toArray).cells.toList=S.cells:=λS=>rfl;have l10:∀S:Sn,S.cells.length=10:=λS=>rfl;have one:∀S:Sn,(S.cells.all λx=>x.oneCell')=true:=λS=>rfl;simp only[Qb6,Qb,simprocAttr,c1,c3,hg',gy,ey,s1,s2,s3]
    repeat' (first
      | (refine Qo (λg=>?_) (λg=>?_)<;>(try simp only[Lr,Lu]at g)<;>simp only[Qb,simprocAttr,JH,JI,JJ,JK,JL,ep,e8,eb,g1,ten,g])
      | (refine Qf (λg=>?_) (λg=>?_)<;>(try simp only[Lr,Lu]at g)<;>simp only[Qb,simprocAttr,JH,JI,JJ,JK,JL,ep,e8,eb,g1,ten,g])
      | fail)
    all_goals first
      | (refine qs.thenW ?_;rintro _ _ hn6 hw6 ⟨rfl,k6,rfl⟩;simp only[Qb,simprocAttr,W3,g1,ten,hmR,l10];refine⟨rfl,fin _ _ _ ((hx1.up hn6).set (Lb _) _) (by rw[Qm,Lc rfl]) ?_ ?_ (by rw[hR];simp[*];done)⟩<;>first | (simp only[Qg,simprocAttr];done) | (simp only[Qg,simprocAttr];rw[hR];simp[*];done))
      | (refine q4.thenW ?_;rintro _ _ hn6 hw6 ⟨rfl,k6,rfl⟩;simp only[Qb,simprocAttr,W3,g1,ten,hmR,l10];refine⟨rfl,fin _ _ _ ((hx1.up hn6).set (Lb _) _) (by rw[Qm,Lc rfl]) ?_ ?_ (by rw[hR];simp[*];done)⟩<;>first | (simp only[Qg,simprocAttr];done) | (simp only[Qg,simprocAttr];rw[hR];simp[*];done))
      | (refine bad _ _ 4 (hx1.set (Lb _) (.cells z10 QM false)) ?_ ?_ ?_ ?_<;>first | (rw[Qm,Lc rfl];done) | (simp only[Qg,simprocAttr];done) | (rw[hR];simp[*];done))
      | (exfalso;clear bad fin set10 qs q4 hR hb0 hb1H agM hmR l10 one;simp_all;done)
      | (refine fin _ _ ⟨fld,rm+8 * bb,Wh,((p+1:Nat):Int)⟩ (hx1.set (Lb _) _) (by rw[Qm,Lc rfl];rfl) ?_ ?_ (by rw[hR];simp[*];done)<;>first | (simp only[Qg,simprocAttr];done) | (simp only[Qg,simprocAttr];rw[hR];simp[*];done))
      | (refine(Qo9 md H1).thenW ?_
         rintro _ H1 _ _ ⟨rfl,rfl⟩;rw[QET];simp only[Qb,simprocAttr,e8,eb];refine(Qof (rm+8 * bb) H1).thenW ?_;rintro _ _ hn5 hw5 ⟨rfl,k5,rfl⟩;simp only[Qb,simprocAttr];refine(Qi6 _ bs (p+1) (wdN md) fld {Wh with b:=⟨5,rm+8 * bb⟩} _ (hb1H.ext hw1 ((Ext.refl H1).up hn5)) hl hz (Qq8 md) (by omega)).thenW ?_;rintro _ _ hn6 hw6 ⟨rfl,k6,rfl⟩;simp only[Qb,simprocAttr,W3,g1,ten,hmR,l10];refine⟨rfl,fin _ _ _ (((hx1.up hn5).up hn6).set (Lb _) _) (by rw[Qm,Lc rfl]) ?_ ?_ (by rw[hR];simp[*];done)⟩<;>first | (simp only[Qg,simprocAttr];done) | (simp only[Qg,simprocAttr];rw[hR];simp[*];done))
theorem QF1 {l:List Int} (hb:∀z∈l,0<=z∧z<256) (hl:l.length=0∨l.length=1∨l.length=4):-2147483648<=Qav l∧Qav l<=2147483647:=by
 obtain⟨h1,h2⟩:=Qoe hb;unfold Qav sgn;rcases hl with h | h | h
 ·rw[Lc h];decide
 ·rw[h,Le (by decide)];rw[h]at h2;have e1:(2:Int) ^ (8 * 1)=256:=rfl;have e2:(2:Int) ^ (8 * 1 - 1)=128:=rfl;rw[e1]at h2 ⊢;rw[e2];split<;>omega
 ·rw[h,Le (by decide)];rw[h]at h2;have e1:(2:Int) ^ (8 * 4)=4294967296:=rfl;have e2:(2:Int) ^ (8 * 4 - 1)=2147483648:=rfl;rw[e1]at h2 ⊢;rw[e2];split<;>omega
structure Pl (m:Mm):Prop where
 sz:m.sz=0
 d:m.d=0
 b:m.b=⟨0,0⟩∨m.b=⟨8,0⟩∨(m.b.c=5∧0<=m.b.n∧m.b.n<=15)
 i:(m.i=⟨0,0⟩∧m.sc=0)∨(m.i.c=5∧0<=m.i.n∧m.i.n<=15∧¬m.i.n=4∧Zr m.sc=true∧¬m.b=⟨8,0⟩)
theorem rv5 {n:Int} (h0:0<=n) (h1:n<=15):VE ⟨5,n⟩=true:=by
 obtain⟨k,rfl⟩:∃k:Nat,n=k:=⟨n.toNat,by omega⟩;have:∀k:Fin 16,VE ⟨5,((k:Nat):Int)⟩=true:=by decide
 exact this ⟨k,by omega⟩
theorem QBP {m:Mm} (h:Pl m) {d:Int} (h1:-2147483648<=d) (h2:d<=2147483647):QV {m with d:=d}=0:=by
 obtain⟨⟨bc,bn⟩,⟨ic,nn⟩,sc,d0,sz⟩:=m;obtain⟨rfl,rfl,hb,hi⟩:=h;have hbase:(!isR ⟨bc,bn⟩ 0 0&&!isR ⟨bc,bn⟩ 8 0&&!JT ⟨bc,bn⟩)=false:=by
  rcases hb with h | h | ⟨h,h3,h4⟩
  ·cases h;rfl
  ·cases h;rfl
  ·simp only at h h3 h4;subst h;unfold JT;rw[rv5 h3 h4];simp
 unfold QV;simp only;rw[Le (by simp;omega),Le (by decide),hbase,Le (by decide)];rcases hi with⟨h,h3⟩ | ⟨h,h3,h4,h5,h6,h7⟩
 ·cases h;simp only at h3;subst h3;rfl
 ·simp only at h h3 h4 h5 h6 h7;subst h;have e1:isR ⟨5,nn⟩ 0 0=false:=rfl;have e2:isR ⟨5,nn⟩ 5 4=false:=by unfold isR;simp[h5]
  have e3:isR ⟨bc,bn⟩ 8 0=false:=by
   rcases hb with h | h | ⟨h,_⟩
   ·cases h;rfl
   ·exact absurd h h7
   ·simp only at h;subst h;rfl
  have e4:JT ⟨5,nn⟩=true:=by unfold JT;rw[rv5 h3 h4];rfl
  rw[e1,e2,e3,e4,h6];rfl
theorem Qnt (bs:List Int) (hz:∀z∈bs,0<=z∧z<256) (hl:bs.length<=1000000) (p n:Nat) (md fld:Int) (m:Mm) (h:Pl m) (hn:n=0∨n=1∨n=4) (hw:Ko md m=n) (hp:p<=bs.length):QdH bs p md fld m=Qgc bs p n fld m:=by
 have hsl:p+n<=bs.length->((bs.drop p).take n).length=n:=λh=>by rw[Sb,NT];omega
 have hok:p+n<=bs.length->Y5 {m with d:=Qav ((bs.drop p).take n)}=((Y5 {m with d:=Qav ((bs.drop p).take n)}).1,0):=λhle=>by
  have hb:=QF1 (l:=(bs.drop p).take n) (λz hz'=>hz z (List.mem_of_mem_drop (List.mem_of_mem_take hz'))) (by rw[hsl hle];exact hn);unfold Y5;rw[Lc (QBP h hb.1 hb.2)]
 unfold QdH Qgc;rw[hw]
 by_cases h0:n=0
 ·subst h0;have hm:({m with d:=Qav ((bs.drop p).take 0)}:Mm)=m:=by
   obtain⟨b,i,sc,d,sz⟩:=m;have:=h.d;simp only at this;subst this;rfl
  have hk:=hok (by omega);rw[hm]at hk ⊢;rw[Lc (by decide),Le (by omega)];unfold Qnh;rw[hk,Lc (show((0:Int)==0)=true from rfl)];rfl
 ·rw[Le (by simp;omega)]
  by_cases hc:bs.length<p+n
  ·have hg:Yz bs p n true=(0,9):=by
    have hs:QiO (n:Int)=true:=by rcases hn with rfl | rfl | rfl<;>first | omega | rfl
    unfold Yz;rw[hs,Le (by decide),Le (by simp;omega),Lc (by omega)]
   rw[hg,Lc hc,Le (by decide)]
  ·rw[Qvl hz (by omega) (by omega),Le hc,Lc (by rfl)];unfold Qnh;simp only;rw[hok (by omega),Lc (show((0:Int)==0)=true from rfl),w64 (by unfold I64;omega)];have:((p+n:Nat):Int)=(p:Int)+n:=by omega
   rw[this]
theorem QHo {bs:List Int} (hz:∀z∈bs,0<=z∧z<256) {p:Nat} (hp:p<=bs.length):Yz bs p 1 false=if p=bs.length then(0,9) else(bs.getD p 0,0):=by
 have hb:∀k,0<=bs.getD k 0∧bs.getD k 0<256:=QeH hz;unfold Yz;rw[show QiO 1=true from rfl,Le (by decide),Le (by simp;omega)]
 by_cases h:p=bs.length
 ·rw[Lc h,Lc (by omega)]
 ·rw[Le h,Le (by omega),Le (by decide),LG,show Int.toNat 1=1 from rfl,Qq6 hb p 1 (by decide)];have e:leS bs p 1=bs.getD p 0:=by show 0+bs.getD (p+0) 0 * 2 ^ (8 * 0)=_;rw[show(2:Int) ^ (8 * 0)=1 from rfl];simp
  obtain⟨h1,h2⟩:=hb p;rw[e,w64 (by unfold I64;omega)]
theorem QBQ {a b:Int} (ha:a=0∨a=1) (hb:0<=b∧b<=7):pl8 a b=b+8 * a:=by
 unfold pl8;rw[w64 (n:=8 * a) (by unfold I64;omega),w64 (by unfold I64;omega)];omega
theorem QHp {hi:Int} (h:0<=hi∧hi<=3):Zr (IntKind.i64.wrap (1 * 2 ^ min hi.toNat 64))=true:=by
 have:hi=0∨hi=1∨hi=2∨hi=3:=by omega
 rcases this with rfl | rfl | rfl | rfl<;>rfl
theorem QBR {md:Int} (m:Mm) (h:md=0∨md=1∨md=2) (hb:m.b.c=5):Ko md m=(wdN md:Nat):=by
 unfold Ko wdN;rw[hb];rcases h with rfl | rfl | rfl<;>rfl
theorem QF2 (bs:List Int) (hz:∀z∈bs,0<=z∧z<256) (hl:bs.length<=1000000) (p:Nat) (md fld x bb:Int) (hp:p<=bs.length) (hmd:md=0∨md=1∨md=2) (hx:x=0∨x=1) (hbb:bb=0∨bb=1):QqJ bs p md fld x bb=Qr5 bs p md fld x bb:=by
 unfold QqJ Qr5;rw[QHo hz hp]
 by_cases h0:p=bs.length
 ·rw[Lc h0,Lc h0];rfl
 ·rw[Le h0,Le h0,Lc (show((0:Int)==0)=true from rfl)];simp only;obtain⟨y0,y1⟩:=QeH hz p;obtain⟨_,_,_,s4,s5,s6⟩:=Qog y0 y1;have ep:IntKind.i64.wrap ((p:Int)+1)=((p+1:Nat):Int):=by rw[w64 (by unfold I64;omega)];omega
  rw[ep];unfold QqI;generalize QY (bs.getD p 0)=sp at *;obtain⟨hi,ix,ba⟩:=sp;simp only at s4 s5 s6 ⊢;have e4:(ix+8 * x==4)=!(!(ix==4)||x==1):=by
   rw[Ni];simp only[L0,Lr,BQ,Lu,LC];omega
  -- what the index tells
  have plI:∀b:Rg,(b=⟨0,0⟩∨(b.c=5∧0<=b.n∧b.n<=15))->Pl {QmC (ix+8 * x) hi with b:=b}:=λb hb=>by
   unfold QmC;cases h4:ix+8 * x==4 with
   | true=>
    rw[Lc rfl];exact⟨rfl,rfl,by rcases hb with h | h;exact .inl h;exact .inr (.inr h),.inl ⟨rfl,rfl⟩⟩
   | false=>
    have h4:¬ix+8 * x=4:=by simpa using h4
    rw[Le (by decide)];exact⟨rfl,rfl,by rcases hb with h | h;exact .inl h;exact .inr (.inr h),.inr ⟨rfl,by show 0<=ix+8 * x;omega,by show ix+8 * x<=15;omega,h4,QHp s4,λh=>by rcases hb with rfl | ⟨h1,_⟩;cases h;rw[show b=⟨8,0⟩ from h]at h1;cases h1⟩⟩
  have e1:QwQ hi ix x=if(ix+8 * x==4)&&!(hi==0) then(Wh,4) else(QmC (ix+8 * x) hi,0):=by
   unfold QwQ QmC;rw[e4,QBQ hx s5];cases(!(ix==4)||x==1) with
   | true=>rfl
   | false=>cases hi==0<;>rfl
  rw[e1];cases hbad:(ix+8 * x==4)&&!(hi==0) with
  | true=>rfl
  | false=>
   rw[Le (show ¬false=true by decide),Lc (show((0:Int)==0)=true from rfl),Nt];unfold QDo;rw[QBQ hbb s6];cases h5:ba==5 with
   | false=>
    rw[LM,N1,Lc rfl,Lc (show((0:Int)==0)=true from rfl),NJ,NG,Le (by decide),Le (by decide)];exact Qnt bs hz hl (p+1) (wdN md) md fld _ (plI ⟨5,ba+8 * bb⟩ (.inr ⟨rfl,by show 0<=ba+8 * bb;omega,by show ba+8 * bb<=15;omega⟩)) (Qq8 md) (QBR _ hmd rfl) (by omega)
   | true=>
    cases h6:md==0 with
    | false=>
     rw[LM,Bd,Lc rfl,Lc (show((0:Int)==0)=true from rfl),NG,NG,Le (by decide),Le (by decide)];exact Qnt bs hz hl (p+1) (wdN md) md fld _ (plI ⟨5,ba+8 * bb⟩ (.inr ⟨rfl,by show 0<=ba+8 * bb;omega,by show ba+8 * bb<=15;omega⟩)) (Qq8 md) (QBR _ hmd rfl) (by omega)
    | true=>
     rw[L8,NI,Le (show ¬false=true by decide)];cases h7:bb==1 with
     | true=>rfl
     | false=>
      rw[Le (show ¬false=true by decide),Lc (show((0:Int)==0)=true from rfl),Le (show ¬ (true&&true&&false)=true by decide),Lc (show(true&&true)=true from rfl)];have hmm:({QmC (ix+8 * x) hi with b:=⟨0,0⟩}:Mm)=QmC (ix+8 * x) hi:=by unfold QmC;split<;>rfl
      have hp0:=plI ⟨0,0⟩ (.inl rfl);rw[hmm]at hp0;refine Qnt bs hz hl (p+1) 4 md fld _ hp0 (.inr (.inr rfl)) ?_ (by omega);have hb0:(QmC (ix+8 * x) hi).b.c=0:=by rw[<- hmm]
      unfold Ko;rw[hb0];have h6:md=0:=eq_of_beq h6;subst h6;rfl
theorem Qyf (bs:List Int) (hz:∀z∈bs,0<=z∧z<256) (hl:bs.length<=1000000) (p:Nat) (x bb:Int) (hp:p<=bs.length) (hx:x=0∨x=1) (hbb:bb=0∨bb=1):rdF bs p x bb=Qns bs p x bb:=by
 unfold rdF Qns;rw[Le (by simp;omega),QHo hz hp]
 by_cases h0:p=bs.length
 ·rw[Lc h0,Lc h0];rfl
 ·rw[Le h0,Le h0,Lc (show((0:Int)==0)=true from rfl)];simp only;obtain⟨y0,y1⟩:=QeH hz p;obtain⟨_,_,_,s4,s5,s6⟩:=Qog y0 y1;have ep:IntKind.i64.wrap ((p:Int)+1)=((p+1:Nat):Int):=by rw[w64 (by unfold I64;omega)];omega
  rw[ep];generalize QY (bs.getD p 0)=sp at *;obtain⟨md,fld,rm⟩:=sp;simp only at s4 s5 s6 ⊢;unfold Qn4;rw[QBQ hbb s6];cases h3:md==3 with
  | true=>
   have h30:(md==0)=false:=by rw[eq_of_beq h3];rfl
   rw[h30,L8,NG,N1,Be,NG,NG,NI,Le (show ¬false=true by decide)];cases x==1<;>rfl
  | false=>
   have hmd:md=0∨md=1∨md=2:=by
    have:¬md=3:=by simpa using h3
    omega
   cases h4:rm==4 with
   | true=>
    rw[LM,L8,NI,NJ,Bj,Le (by decide),Le (by decide),Lc rfl,Lc rfl];exact QF2 bs hz hl (p+1) md fld x bb (by omega) hmd hx hbb
   | false=>
    rw[LM,Bd,Be,NJ,Le (show ¬false=true by decide),Le (show ¬false=true by decide),Le (show ¬false=true by decide)];cases hx1:x==1 with
    | true=>rfl
    | false=>
     rw[Le (show ¬false=true by decide),Nt];have plZ:∀b:Rg,(b=⟨8,0⟩∨(b.c=5∧0<=b.n∧b.n<=15))->Pl {Wh with b:=b}:=λb hb=>⟨rfl,rfl,.inr hb,.inl ⟨rfl,rfl⟩⟩;have gen:QdH bs (p+1:Nat) md fld {Wh with b:=⟨5,rm+8 * bb⟩}=Qgc bs (p+1) (wdN md) fld {Wh with b:=⟨5,rm+8 * bb⟩}:=
      Qnt bs hz hl (p+1) (wdN md) md fld _ (plZ ⟨5,rm+8 * bb⟩ (.inr ⟨rfl,by show 0<=rm+8 * bb;omega,by show rm+8 * bb<=15;omega⟩)) (Qq8 md) (QBR _ hmd rfl) (by omega)
     cases h6:md==0 with
     | false=>exact gen
     | true=>
      cases h5:rm==5 with
      | false=>exact gen
      | true=>
       cases h7:bb==1 with
       | true=>rfl
       | false=>
        refine Qnt bs hz hl (p+1) 4 md fld _ (plZ ⟨8,0⟩ (.inl rfl)) (.inr (.inr rfl)) ?_ (by omega);rw[eq_of_beq h6];rfl
theorem ZT (x:Lf) (k:Int) (H:Qa) (hx:x.At H):Qh prog Xm [.agg x.cells.toArray,.int .i64 k] H λu H'=>u=.int .i64 (QC x.f.slots k)∧∃m,H'=H.up m:=by
 refine QjK λhw=>?_;have ec:(Value.agg x.cells.toArray).cells.toList=x.cells:=rfl;simp only[Qc7,ec,Qb,simprocAttr];have hx0:Ext H (H.push (.cells x.cells Qc false)):=(Ext.refl H).push _;have hg0:(H.push (.cells x.cells Qc false)).get H.next=some (.cells x.cells Qc false):=by rw[Qi,Lc rfl]
 have hw0:=hw.push (.cells x.cells Qc false);generalize H.push (.cells x.cells Qc false)=H1 at hx0 hg0 hw0;obtain⟨l1,l2,h1,h2⟩:=hx.ext hw hx0;obtain⟨a2,c2,e2,hs2⟩:=h2;have g2:x.cells[2]? = some (.slice a2 x.f.slots.length c2):=by rw[<- e2];rfl
 refine QE (λm A' H'=>∃i:Nat,i<=x.f.slots.length∧m=x.f.slots.length - i∧H'=H1∧(∀j,j<i->¬k=x.f.slots.getD j 0)∧A' 1=.int .i64 k∧A' 2=.pointer (some ⟨H.next,0,none⟩)∧A' 5=.int .i64 i) x.f.slots.length ?_ ?_
 ·refine⟨0,L7 _,by omega,rfl,λj h=>by omega,?_,?_,?_⟩
  all_goals simp only[Qg,simprocAttr]
  try rfl
 ·rintro m A' H' ⟨i,hi,rfl,rfl,hall,r1,r2,r5⟩;simp only[Qb,simprocAttr,r1,r2,r5,hg0,g2];refine Qf (λh2=>?_) (λh2=>?_)
  ·have h2:i<x.f.slots.length:=by have:=Lg h2;omega
   obtain⟨b1,e1,ro1,rfl,hb1⟩:=hs2 (by omega);have c1:(0:Int)<=i∧(i:Int)<x.f.slots.length:=by omega
   have c3:(i:Int).toNat=i:=by omega
   have ei:IntKind.i64.wrap ((i:Int)+1)=((i+1:Nat):Int):=by rw[w64 (by unfold I64;omega)];omega
   have g1:=XQ (l:=x.f.slots) (i:=i) (by omega);simp only[Qb,simprocAttr,r1,r2,r5,hg0,g2,c1,c3,hb1,g1];refine Qf (λh3=>?_) (λh3=>?_)
   ·have h3:k=x.f.slots.getD i 0:=by
     have:x.f.slots.getD i 0=k:=by simpa using h3
     exact this.symm
    simp only[Qb,simprocAttr,r5,QcA];exact .ext hw hx0 ⟨by rw[QC,QqM k _ 0 i hall h2 h3,LP],_,rfl⟩
   ·have h3:¬k=x.f.slots.getD i 0:=λh=>by
     have:¬x.f.slots.getD i 0=k:=by simpa using h3
     exact this h.symm
    simp only[Qb,simprocAttr,r5,ei];refine⟨x.f.slots.length - (i+1),by omega,i+1,by omega,rfl,rfl,λj hj=>?_,?_,?_,?_⟩
    ·rcases Nq j i with h | h
     ·exact hall j h
     ·rw[show j=i by omega];exact h3
    all_goals simp only[Qg,simprocAttr,r1,r2]
  ·have h2:i=x.f.slots.length:=by have:=Ll h2;omega
   subst h2;simp only[Qb,simprocAttr,QcA];exact .ext hw hx0 ⟨by rw[QC,QqN k _ 0 hall],_,rfl⟩
def inB (v:Value) (id:Nat):Prop:=∃o n c,v=.slice (some ⟨id,o,none⟩) n c
def Gx (size:Nat) (e:TypeId) (H0 H:Qa) (v:Value) (n:Nat) (cs:List Value):Prop:=(v=.slice none 0 0∧n=0∧cs=[])∨∃b cap,v=.slice (some ⟨b,0,none⟩) n cap∧H0.next<=b∧H.get b=some (.cells cs e false)∧cs.length=n * size∧(cap=n∨cap=UNK+size∧0<n)
theorem Gx.ext {size:Nat} {e:TypeId} {H0 H H':Qa} {v:Value} {n:Nat} {cs:List Value} (h:Gx size e H0 H v n cs) (hk:∀id,inB v id->H'.get id=H.get id):Gx size e H0 H' v n cs:=by
 rcases h with h | ⟨b,c,rfl,h2,h3,h4⟩
 ·exact .inl h
 ·exact .inr ⟨b,c,rfl,h2,by rw[hk b ⟨_,_,_,rfl⟩];exact h3,h4⟩
theorem Gx.go {size:Nat} {e:TypeId} {H0 H H':Qa} {v:Value} {n:Nat} {cs:List Value} (h:Gx size e H0 H v n cs) (hw:H.Wf) (hx:Ext H H'):Gx size e H0 H' v n cs:=by
 rcases h with h | ⟨b,c,rfl,h2,h3,h4⟩
 ·exact .inl h
 ·exact .inr ⟨b,c,rfl,h2,by rw[hx.get b (hw.lt h3)];exact h3,h4⟩
theorem Gx.low {size:Nat} {e:TypeId} {H0 H:Qa} {v:Value} {n:Nat} {cs:List Value} (h:Gx size e H0 H v n cs) (hw:H.Wf) {id:Nat} (hi:inB v id):H0.next<=id∧id<H.next:=by
 obtain⟨o,n',c,rfl⟩:=hi;rcases h with⟨h,_,_⟩ | ⟨b,c,h,h2,h3,h4⟩
 ·cases h
 ·cases h;exact⟨h2,hw.lt h3⟩
theorem Gx.sl {size:Nat} {e:TypeId} {H0 H:Qa} {v:Value} {n:Nat} {cs:List Value} (h:Gx size e H0 H v n cs):ZA H v n cs:=by
 rcases h with⟨rfl,rfl,rfl⟩ | ⟨b,c,rfl,h2,h3,h4⟩
 ·exact⟨none,0,rfl,λh=>absurd h (NX 0)⟩
 ·exact⟨_,_,rfl,λ_=>⟨b,e,false,rfl,h3⟩⟩
theorem Gx.slc {size:Nat} {e:TypeId} {H0 H:Qa} {v:Value} {n:Nat} {cs:List Value} (h:Gx size e H0 H v n cs):∃a c,v=.slice a n c:=by
 rcases h with⟨rfl,rfl,rfl⟩ | ⟨b,c,rfl,_⟩
 ·exact⟨_,_,rfl⟩
 ·exact⟨_,_,rfl⟩
theorem Gx.src {size:Nat} {e:TypeId} {H0 H:Qa} {v:Value} {n:Nat} {cs:List Value} (h:Gx size e H0 H v n cs):Qcu size v H=some (n,cs):=by
 rcases h with⟨rfl,rfl,rfl⟩ | ⟨b,c,rfl,h2,h3,h4,_⟩
 ·simp[Qcu]
 ·by_cases hn:n=0
  ·subst hn;have:cs=[]:=N2.1 (by omega);subst this;simp[Qcu]
  ·rw[QdL h3 hn (by omega),Lw,LF (by omega)]
structure GK (v v':Value) (H0 H H':Qa):Prop where
 x:Ext H0 H'
 w:H'.Wf
 keep:∀id,id<H.next->¬inB v id->H'.get id=H.get id
 next:H.next<=H'.next
 new:∀id,inB v' id->inB v id∨H.next<=id
theorem QBT {size:Nat} {e bytes:Nat} {H0 H:Qa} {v x:Value} {n m:Nat} {cs ms:List Value} {k:Value->Qa->Prop} (hs:Gx size e H0 H v n cs) (hx:Ext H0 H) (hw:H.Wf) (hsrc:Qcu size x H=some (m,ms)) (hone:ms.all (·.oneCell')=true) (hml:ms.length=m * size) (hb:(n+m) * bytes<=140737488355328) (hn:n+m<=9223372036854775807)
  (h:∀v' H',Gx size e H0 H' v' (n+m) (cs++ms)->GK v v' H0 H H'->k v' H'):Qiq e size bytes v x H k:=by
 have hnn:=hx.next
 by_cases hm:m=0
 ·subst hm;have hms:ms=[]:=N2.1 (by omega);subst hms;have hr:J6 e size bytes v x H=some (v,H):=by
   unfold J6;rw[hsrc];rcases hs with⟨rfl,rfl,rfl⟩ | ⟨b,c,rfl,h2,h3,h4,h5⟩
   ·rfl
   ·simp only[BI,N3];rw[Lc];rcases h5 with rfl | ⟨rfl,_⟩
    ·first | exact .inl (Lb _) | exact .inl (by omega) | simp
    ·first | exact .inl (by omega) | simp
  unfold Qiq;rw[hr,Qt];rw[N9,Na]at h;exact h v H hs ⟨hx,hw,λ_ _ _=>rfl,Lb _,λid hi=>.inl hi⟩
 ·rcases hs with⟨rfl,rfl,rfl⟩ | ⟨b,c,rfl,h2,h3,h4,h5⟩
  ·refine Qks hsrc hone hm (by rw[LP]at hb;exact hb) (by omega) (h _ _ (.inr ⟨H.next,_,by rw[LP],hnn,by rw[Qi,Lc rfl,LH],by rw[LH,LP];exact hml,.inr ⟨rfl,by omega⟩⟩) ⟨hx.push _,hw.push _,λid hid _=>by rw[Qi,Le (by omega)],by rw[Ql];omega,?_⟩);rintro id ⟨o,n',c,he⟩;cases he;exact .inr (Lb _)
  ·have hbl:=hw.lt h3;rcases Nq c UNK with hc | hc
   ·have hcn:c=n:=by rcases h5 with h | h;exact h;omega
    subst hcn;have e1:(cs.drop 0).take (c * size)++ms=cs++ms:=by rw[Lw,LF (by omega)]
    refine QnU hsrc hone hm h3 (by omega) hb hn hc (by omega) (h _ _ (.inr ⟨H.next,_,rfl,hnn,by rw[Qi,Lc rfl,e1],by rw[Lh,h4,hml,Ry],.inr ⟨rfl,by omega⟩⟩) ⟨hx.push _,hw.push _,λid hid _=>by rw[Qi,Le (by omega)],by rw[Ql];omega,?_⟩);rintro id ⟨o,n',c,he⟩;cases he;exact .inr (Lb _)
   ·refine Qhv rfl hsrc hone hm h3 (by rw[LP];omega) hb hn hc (h _ _ (.inr ⟨H.next,_,rfl,hnn,?_,by rw[Lh,h4,hml,Ry],.inr ⟨rfl,by omega⟩⟩) ⟨?_,?_,?_,by rw[Ql,Qeh];omega,?_⟩)
    ·rw[Qi,Qeh,Lc rfl,Lw]
    ·refine⟨by rw[Ql,Qeh];omega,λid hid=>?_⟩;rw[Qi,Qeh,Le (by omega),J4,Le (by omega)];exact hx.get id hid
    ·exact(hw.kill b).push _
    ·intro id hid hnb;have hne:¬id=b:=λh=>hnb ⟨_,_,_,by rw[h]⟩;rw[Qi,Qeh,Le (by omega),J4,Le hne]
    ·rintro id ⟨o,n',c,he⟩;cases he;exact .inr (Lb _)
theorem Qhc (op:Int) (H:Qa):Qh prog X3 [.int .i64 op] H λu H'=>u=.bool (ZC op)∧H'=H:=by
 refine QiF λhw=>?_;simp only[QcF,Qb,simprocAttr];unfold ZC;cases h1:decide (1<=op)
 all_goals cases h2:decide (op<=322)
 all_goals (simp only[Qb,simprocAttr,h1,h2,QhB,Be,NJ,LJ,NG,Bj];exact .mk (Lb _) ⟨rfl,rfl⟩)
def Qnw (n all:Int) (sg:Bool):Int×Int:=
 if(decide (n < -(all / 2))||decide (all<=n))=true then(0,5)
 else if(sg&&decide (all / 2<=n))=true then(n - all,0)
 else if(!sg&&decide (n<0))=true then(n+all,0)
 else(n,0)
theorem QGc (n:Int) (sg:Bool):Qnw n 256 sg=JS n 8 sg:=by
 have e1:QjX n 8=n % 256:=rfl;have e2:QjY n 8=(n+128) % 256 - 128:=rfl;unfold Qnw JS;rw[e1,e2];have hb:((8:Int)==8||(8:Int)==16||(8:Int)==32||(8:Int)==64)=true:=rfl;rw[hb];simp only[Fe,LN]
 by_cases c1:n < -(256 / 2)∨256<=n
 ·have d1:(decide (n < -(256 / 2))||decide (256<=n))=true:=by simp only[Nw,Lv];exact c1
  have d2:(!(n==n % 256)&&!(n==(n+128) % 256 - 128))=true:=by
   simp only[Lm,Lr,LC,Da];omega
  rw[Lc d1,Lc d2]
 ·have d1:¬ (decide (n < -(256 / 2))||decide (256<=n))=true:=by simp only[Nw,Lv];exact c1
  have d2:¬ (!(n==n % 256)&&!(n==(n+128) % 256 - 128))=true:=by
   simp only[Lm,Lr,LC,Da];omega
  rw[Le d1,Le d2];cases sg
  ·by_cases c2:n<0
   ·simp[c2];omega
   ·simp[c2];omega
  ·by_cases c2:256 / 2<=n
   ·rw[Lc (by simp only[LJ,Lv];exact c2)];simp;omega
   ·rw[Le (by simp only[LJ,Lv];exact c2)];simp;omega
theorem QD0 (n:Int) (sg:Bool):Qnw n 65536 sg=JS n 16 sg:=by
 have e1:QjX n 16=n % 65536:=rfl;have e2:QjY n 16=(n+32768) % 65536 - 32768:=rfl;unfold Qnw JS;rw[e1,e2];have hb:((16:Int)==8||(16:Int)==16||(16:Int)==32||(16:Int)==64)=true:=rfl;rw[hb];simp only[Fe,LN]
 by_cases c1:n < -(65536 / 2)∨65536<=n
 ·have d1:(decide (n < -(65536 / 2))||decide (65536<=n))=true:=by simp only[Nw,Lv];exact c1
  have d2:(!(n==n % 65536)&&!(n==(n+32768) % 65536 - 32768))=true:=by
   simp only[Lm,Lr,LC,Da];omega
  rw[Lc d1,Lc d2]
 ·have d1:¬ (decide (n < -(65536 / 2))||decide (65536<=n))=true:=by simp only[Nw,Lv];exact c1
  have d2:¬ (!(n==n % 65536)&&!(n==(n+32768) % 65536 - 32768))=true:=by
   simp only[Lm,Lr,LC,Da];omega
  rw[Le d1,Le d2];cases sg
  ·by_cases c2:n<0
   ·simp[c2];omega
   ·simp[c2];omega
  ·by_cases c2:65536 / 2<=n
   ·rw[Lc (by simp only[LJ,Lv];exact c2)];simp;omega
   ·rw[Le (by simp only[LJ,Lv];exact c2)];simp;omega
theorem QD1 (n:Int) (sg:Bool):Qnw n 4294967296 sg=JS n 32 sg:=by
 have e1:QjX n 32=n % 4294967296:=rfl;have e2:QjY n 32=(n+2147483648) % 4294967296 - 2147483648:=rfl;unfold Qnw JS;rw[e1,e2];have hb:((32:Int)==8||(32:Int)==16||(32:Int)==32||(32:Int)==64)=true:=rfl;rw[hb];simp only[Fe,LN]
 by_cases c1:n < -(4294967296 / 2)∨4294967296<=n
 ·have d1:(decide (n < -(4294967296 / 2))||decide (4294967296<=n))=true:=by simp only[Nw,Lv];exact c1
  have d2:(!(n==n % 4294967296)&&!(n==(n+2147483648) % 4294967296 - 2147483648))=true:=by
   simp only[Lm,Lr,LC,Da];omega
  rw[Lc d1,Lc d2]
 ·have d1:¬ (decide (n < -(4294967296 / 2))||decide (4294967296<=n))=true:=by simp only[Nw,Lv];exact c1
  have d2:¬ (!(n==n % 4294967296)&&!(n==(n+2147483648) % 4294967296 - 2147483648))=true:=by
   simp only[Lm,Lr,LC,Da];omega
  rw[Le d1,Le d2];cases sg
  ·by_cases c2:n<0
   ·simp[c2];omega
   ·simp[c2];omega
  ·by_cases c2:4294967296 / 2<=n
   ·rw[Lc (by simp only[LJ,Lv];exact c2)];simp;omega
   ·rw[Le (by simp only[LJ,Lv];exact c2)];simp;omega
theorem Qpb (n bits:Int) (sg:Bool) (hn:I64 n) (H:Qa):Qh prog Jo [.int .i64 n,.int .i64 bits,.bool sg] H λu H'=>u=.tuple #[.int .i64 (JS n bits sg).1,.int .i64 (JS n bits sg).2]∧H'=H:=by
 refine QkA λhw=>?_
 by_cases hb:bits=8∨bits=16∨bits=32∨bits=64
 ·have z2:((2:Int)≠0)=True:=by simp
  rcases hb with rfl | rfl | rfl | rfl
  ·have t1:((8:Int)==8)=true:=rfl;have t2:((8:Int)==16)=false:=rfl;have t3:((8:Int)==32)=false:=rfl;have t4:((8:Int)==64)=false:=rfl;have z0:((0:Int)<=8)=True:=eq_true (by decide);have w1:IntKind.i64.wrap (1 * 2 ^ min (Int.toNat 8) IntKind.i64.bits)=256:=by decide
   have w2:IntKind.i64.wrap (-256)=-256:=by decide
   have w3:IntKind.i64.wrap ((-256:Int).tdiv 2)=-(256 / 2):=by decide
   have w4:IntKind.i64.wrap ((256:Int).tdiv 2)=256 / 2:=by decide
   have w5:IntKind.i64.wrap (n+256)=n+256∨¬n<0:=by
    by_cases h:n<0
    ·exact .inl (w64 (by unfold I64 at *;omega))
    ·exact .inr h
   have w6:IntKind.i64.wrap (n - 256)=n - 256∨¬256 / 2<=n:=by
    by_cases h:256 / 2<=n
    ·exact .inl (w64 (by unfold I64 at *;omega))
    ·exact .inr h
   rw[<- QGc];simp(disch:=(first | omega | (simp only[hnP];try omega))) only[Xt,QH,QI,QJ,QK,sxA,sxB,Nat.reduceBEq,Nat.reduceEqDiff,reduceCtorEq,mxD,mxB,Nat.reduceAdd,reduceIte,Nat.reduceLeDiff,splice,t1,t2,t3,t4,z0,z2,w1,Qx]
   rw[Qq3 (ik:=.i64) (n:=256) (by simp only[Qg,simprocAttr])];simp(disch:=(first | omega | (simp only[hnP];try omega))) only[sxA,sxB,Nat.reduceBEq,Nat.reduceEqDiff,reduceCtorEq,mxD,mxB,Nat.reduceAdd,reduceIte,Nat.reduceLeDiff,splice,z2,w2,w3,w4,Qx]
   unfold Qnw
   repeat' (first
    | (refine Qo (λh=>?_) (λh=>?_)<;>(try simp only[Lr,Lu]at h)<;>simp(disch:=(first | omega | (simp only[hnP];try omega))) only[QH,QI,QJ,QK,sxA,sxB,Nat.reduceBEq,Nat.reduceEqDiff,reduceCtorEq,mxD,mxB,Nat.reduceAdd,reduceIte,Nat.reduceLeDiff,splice,z2,w4,Qx,h])
    | (refine Qf (λh=>?_) (λh=>?_)<;>(try simp only[Lr,Lu]at h)<;>simp(disch:=(first | omega | (simp only[hnP];try omega))) only[QH,QI,QJ,QK,sxA,sxB,Nat.reduceBEq,Nat.reduceEqDiff,reduceCtorEq,mxD,mxB,Nat.reduceAdd,reduceIte,Nat.reduceLeDiff,splice,z2,w4,Qx,h])
    | fail)
   all_goals refine .mk (Lb _) ⟨?_,rfl⟩
   all_goals (try simp_all)
   all_goals first
    | (rcases w5 with h9 | h9<;>first | exact h9 | omega)
    | (rcases w6 with h9 | h9<;>first | exact h9 | omega)
  ·have t1:((16:Int)==8)=false:=rfl;have t2:((16:Int)==16)=true:=rfl;have t3:((16:Int)==32)=false:=rfl;have t4:((16:Int)==64)=false:=rfl;have z0:((0:Int)<=16)=True:=eq_true (by decide);have w1:IntKind.i64.wrap (1 * 2 ^ min (Int.toNat 16) IntKind.i64.bits)=65536:=by decide
   have w2:IntKind.i64.wrap (-65536)=-65536:=by decide
   have w3:IntKind.i64.wrap ((-65536:Int).tdiv 2)=-(65536 / 2):=by decide
   have w4:IntKind.i64.wrap ((65536:Int).tdiv 2)=65536 / 2:=by decide
   have w5:IntKind.i64.wrap (n+65536)=n+65536∨¬n<0:=by
    by_cases h:n<0
    ·exact .inl (w64 (by unfold I64 at *;omega))
    ·exact .inr h
   have w6:IntKind.i64.wrap (n - 65536)=n - 65536∨¬65536 / 2<=n:=by
    by_cases h:65536 / 2<=n
    ·exact .inl (w64 (by unfold I64 at *;omega))
    ·exact .inr h
   rw[<- QD0];simp(disch:=(first | omega | (simp only[hnP];try omega))) only[Xt,QH,QI,QJ,QK,sxA,sxB,Nat.reduceBEq,Nat.reduceEqDiff,reduceCtorEq,mxD,mxB,Nat.reduceAdd,reduceIte,Nat.reduceLeDiff,splice,t1,t2,t3,t4,z0,z2,w1,Qx]
   rw[Qq3 (ik:=.i64) (n:=65536) (by simp only[Qg,simprocAttr])];simp(disch:=(first | omega | (simp only[hnP];try omega))) only[sxA,sxB,Nat.reduceBEq,Nat.reduceEqDiff,reduceCtorEq,mxD,mxB,Nat.reduceAdd,reduceIte,Nat.reduceLeDiff,splice,z2,w2,w3,w4,Qx]
   unfold Qnw
   repeat' (first
    | (refine Qo (λh=>?_) (λh=>?_)<;>(try simp only[Lr,Lu]at h)<;>simp(disch:=(first | omega | (simp only[hnP];try omega))) only[QH,QI,QJ,QK,sxA,sxB,Nat.reduceBEq,Nat.reduceEqDiff,reduceCtorEq,mxD,mxB,Nat.reduceAdd,reduceIte,Nat.reduceLeDiff,splice,z2,w4,Qx,h])
    | (refine Qf (λh=>?_) (λh=>?_)<;>(try simp only[Lr,Lu]at h)<;>simp(disch:=(first | omega | (simp only[hnP];try omega))) only[QH,QI,QJ,QK,sxA,sxB,Nat.reduceBEq,Nat.reduceEqDiff,reduceCtorEq,mxD,mxB,Nat.reduceAdd,reduceIte,Nat.reduceLeDiff,splice,z2,w4,Qx,h])
    | fail)
   all_goals refine .mk (Lb _) ⟨?_,rfl⟩
   all_goals (try simp_all)
   all_goals first
    | (rcases w5 with h9 | h9<;>first | exact h9 | omega)
    | (rcases w6 with h9 | h9<;>first | exact h9 | omega)
  ·have t1:((32:Int)==8)=false:=rfl;have t2:((32:Int)==16)=false:=rfl;have t3:((32:Int)==32)=true:=rfl;have t4:((32:Int)==64)=false:=rfl;have z0:((0:Int)<=32)=True:=eq_true (by decide);have w1:IntKind.i64.wrap (1 * 2 ^ min (Int.toNat 32) IntKind.i64.bits)=4294967296:=by decide
   have w2:IntKind.i64.wrap (-4294967296)=-4294967296:=by decide
   have w3:IntKind.i64.wrap ((-4294967296:Int).tdiv 2)=-(4294967296 / 2):=by decide
   have w4:IntKind.i64.wrap ((4294967296:Int).tdiv 2)=4294967296 / 2:=by decide
   have w5:IntKind.i64.wrap (n+4294967296)=n+4294967296∨¬n<0:=by
    by_cases h:n<0
    ·exact .inl (w64 (by unfold I64 at *;omega))
    ·exact .inr h
   have w6:IntKind.i64.wrap (n - 4294967296)=n - 4294967296∨¬4294967296 / 2<=n:=by
    by_cases h:4294967296 / 2<=n
    ·exact .inl (w64 (by unfold I64 at *;omega))
    ·exact .inr h
   rw[<- QD1];simp(disch:=(first | omega | (simp only[hnP];try omega))) only[Xt,QH,QI,QJ,QK,sxA,sxB,Nat.reduceBEq,Nat.reduceEqDiff,reduceCtorEq,mxD,mxB,Nat.reduceAdd,reduceIte,Nat.reduceLeDiff,splice,t1,t2,t3,t4,z0,z2,w1,Qx]
   rw[Qq3 (ik:=.i64) (n:=4294967296) (by simp only[Qg,simprocAttr])];simp(disch:=(first | omega | (simp only[hnP];try omega))) only[sxA,sxB,Nat.reduceBEq,Nat.reduceEqDiff,reduceCtorEq,mxD,mxB,Nat.reduceAdd,reduceIte,Nat.reduceLeDiff,splice,z2,w2,w3,w4,Qx]
   unfold Qnw
   repeat' (first
    | (refine Qo (λh=>?_) (λh=>?_)<;>(try simp only[Lr,Lu]at h)<;>simp(disch:=(first | omega | (simp only[hnP];try omega))) only[QH,QI,QJ,QK,sxA,sxB,Nat.reduceBEq,Nat.reduceEqDiff,reduceCtorEq,mxD,mxB,Nat.reduceAdd,reduceIte,Nat.reduceLeDiff,splice,z2,w4,Qx,h])
    | (refine Qf (λh=>?_) (λh=>?_)<;>(try simp only[Lr,Lu]at h)<;>simp(disch:=(first | omega | (simp only[hnP];try omega))) only[QH,QI,QJ,QK,sxA,sxB,Nat.reduceBEq,Nat.reduceEqDiff,reduceCtorEq,mxD,mxB,Nat.reduceAdd,reduceIte,Nat.reduceLeDiff,splice,z2,w4,Qx,h])
    | fail)
   all_goals refine .mk (Lb _) ⟨?_,rfl⟩
   all_goals (try simp_all)
   all_goals first
    | (rcases w5 with h9 | h9<;>first | exact h9 | omega)
    | (rcases w6 with h9 | h9<;>first | exact h9 | omega)
  ·have t1:((64:Int)==8)=false:=rfl;have t2:((64:Int)==16)=false:=rfl;have t3:((64:Int)==32)=false:=rfl;have t4:((64:Int)==64)=true:=rfl;simp(disch:=(first | omega | (simp only[hnP];try omega))) only[Xt,QH,QI,QJ,QK,Qk,simprocAttr,t1,t2,t3,t4,Qx]
   refine .mk (Lb _) ⟨?_,rfl⟩;have e1:QjX n 64=n:=rfl;have e2:QjY n 64=n:=rfl;simp[JS,e1,e2]
 ·have t1:(bits==8)=false:=by simp;omega
  have t2:(bits==16)=false:=by simp;omega
  have t3:(bits==32)=false:=by simp;omega
  have t4:(bits==64)=false:=by simp;omega
  simp(disch:=(first | omega | (simp only[hnP];try omega))) only[Xt,QH,QI,QJ,QK,Qk,simprocAttr,t1,t2,t3,t4,Qx]
  refine .mk (Lb _) ⟨?_,rfl⟩;simp[JS,t1,t2,t3,t4]
theorem Qly (o:Int) (H:Qa):Qh prog Qar [.int .i64 o] H λu H'=>u=.tuple #[.int .i64 (Qno o).1,.bool (Qno o).2]∧H'=H:=by
 refine QkB λhw=>?_;have q1:=Qhc o;have hs:Qno o=if ZC o=false then(0,false) else if(1<=o∧o<=10)∨o=16 then(0,true) else if o=48 then(64,true) else if o=51 then(16,false) else(8,false):=by
  unfold Qno
  by_cases hv:ZC o=false
  ·rw[Lc hv,Lc hv]
  ·rw[Le hv,Le hv]
   by_cases h:(1<=o∧o<=10)∨o=16
   ·rw[Lc h,Lc (by omega)]
   ·rw[Le h,Le (by omega)]
 rw[hs];clear hs;generalize ZC o=v at *;simp(disch:=(first | omega | (simp only[hnP];try omega))) only[QdY,XN,XO,Qk,simprocAttr,Zo]
 repeat' (first
   | (refine Qo (λh=>?_) (λh=>?_)<;>(try simp only[Lr,Lu]at h)<;>simp(disch:=(first | omega | (simp only[hnP];try omega))) only[XN,XO,Qk,simprocAttr,Zo,h])
   | (refine Qf (λh=>?_) (λh=>?_)<;>(try simp only[Lr,Lu]at h)<;>simp(disch:=(first | omega | (simp only[hnP];try omega))) only[XN,XO,Qk,simprocAttr,Zo,h])
   | (refine(q1 _).thenW ?_;rintro _ _ hn hw2 ⟨rfl,rfl⟩;(try simp only[Ql,Wm,Q4]at hn);simp(disch:=(first | omega | (simp only[hnP];try omega))) only[XN,XO,Qk,simprocAttr,Zo])
   | (with_reducible refine⟨by simp[Qs,plain],by omega,?_⟩)
   | (with_reducible refine⟨by simp[Qs,plain],?_⟩)
   | fail)
 all_goals refine .mk (Lb _) ⟨?_,rfl⟩
 all_goals clear q1
 all_goals (try simp_all)
 all_goals (rw[Le (by omega)];exact⟨rfl,rfl⟩)
theorem Qnx (op:Int) (v:Value) (l:List Ar) (H:Qa) (hv:XJ H v l) (hl:l.length<=1000):Qh prog ZN [.agg #[.int .i64 op,v]] H λu H'=>u=.tuple #[.int .i64 (WZ op l).1,.bool (WZ op l).2]∧∃k,H'=H.up k:=by
 refine QjN λhw=>?_;have q1:=Qhc op;have q2:=Qly op;have hp:0<=(Qno op).1:=by unfold Qno;repeat' (split<;>try decide)
 unfold WZ;generalize ZC op=v1 at *;generalize Qno op=v2 at *;obtain⟨v2a,v2b⟩:=v2;simp only at hp;obtain⟨a0,cap,rfl,h1⟩:=hv;cases l with
 | nil=>
  have el0:(((0:Nat):Int)==0)=true:=rfl;simp(disch:=(first | omega | (simp only[hnP];try omega))) only[Gt,QA,QB,Qk,simprocAttr,el0,QU]
  repeat' (first
    | (refine Qo (λh=>?_) (λh=>?_)<;>(try simp only[Lr,Lu]at h)<;>simp(disch:=(first | omega | (simp only[hnP];try omega))) only[QA,QB,Qk,simprocAttr,el0,QU,h])
    | (refine Qf (λh=>?_) (λh=>?_)<;>(try simp only[Lr,Lu]at h)<;>simp(disch:=(first | omega | (simp only[hnP];try omega))) only[QA,QB,Qk,simprocAttr,el0,QU,h])
    | (refine(q1 _).thenW ?_;rintro _ _ hn hw2 ⟨rfl,rfl⟩;(try simp only[Ql,Wm,Q4]at hn);simp(disch:=(first | omega | (simp only[hnP];try omega))) only[QA,QB,Qk,simprocAttr,el0,QU])
    | (refine(q2 _).thenW ?_;rintro _ _ hn hw2 ⟨rfl,rfl⟩;(try simp only[Ql,Wm,Q4]at hn);simp(disch:=(first | omega | (simp only[hnP];try omega))) only[QA,QB,Qk,simprocAttr,el0,QU])
    | (with_reducible refine⟨by simp[Qs,plain],by omega,?_⟩)
    | (with_reducible refine⟨by simp[Qs,plain],?_⟩)
    | fail)
  all_goals refine .ext hw ?_ ⟨?_,_,rfl⟩
  all_goals try (repeat' (first | exact Ext.refl _ | refine Ext.push ?_ _ | refine Ext.up ?_ (by simp only[Ql,Q4,Wm];omega) | refine Ext.set ?_ (by omega) _))
  all_goals clear q1 q2 hw
  all_goals (try simp_all)
  all_goals first
   | (have hz:v2a=0:=(by omega);simp[hz];done)
   | (have hz:v2a=0:=(by omega);subst hz;simp_all;done)
   | (have hz:¬v2a=0:=(by omega);simp[hz])
 | cons a l=>
  dsimp only;have et0:(0:Int).toNat=0:=rfl;have q3:=Qk7 a;have h8:=Qva a;generalize QkZ a=s at *;obtain⟨b,e,ro,rfl,hgb⟩:=h1 (by simp);have el0:(((l.length+1:Nat):Int)==0)=false:=by simp;omega
  have ec1:((0:Int)<=0∧(0:Int)<((l.length+1:Nat):Int)):=by omega
  have hb:=hw.lt hgb;have e8:IntKind.i64.wrap (8 * s)=8 * s:=w64 (by unfold I64;omega);have hd11:List.take 11 (Qr (a::l))=a.cells:=by
   have:=VY (a::l) 0 a rfl;simpa using this
  have hle:11<=(Qr (a::l)).length:=by rw[W1];simp;omega
  simp(disch:=(first | omega | (simp only[hnP];try omega))) only[Gt,QA,QB,Qk,simprocAttr,el0,ec1,et0,hgb,hd11,hle,e8,QU]
  repeat' (first
    | (refine Qo (λh=>?_) (λh=>?_)<;>(try simp only[Lr,Lu]at h)<;>simp(disch:=(first | omega | (simp only[hnP];try omega))) only[QA,QB,Qk,simprocAttr,el0,ec1,et0,hgb,hd11,hle,e8,QU,h])
    | (refine Qf (λh=>?_) (λh=>?_)<;>(try simp only[Lr,Lu]at h)<;>simp(disch:=(first | omega | (simp only[hnP];try omega))) only[QA,QB,Qk,simprocAttr,el0,ec1,et0,hgb,hd11,hle,e8,QU,h])
    | (refine(q1 _).thenW ?_;rintro _ _ hn hw2 ⟨rfl,rfl⟩;(try simp only[Ql,Wm,Q4]at hn);simp(disch:=(first | omega | (simp only[hnP];try omega))) only[QA,QB,Qk,simprocAttr,el0,ec1,et0,hgb,hd11,hle,e8,QU])
    | (refine(q2 _).thenW ?_;rintro _ _ hn hw2 ⟨rfl,rfl⟩;(try simp only[Ql,Wm,Q4]at hn);simp(disch:=(first | omega | (simp only[hnP];try omega))) only[QA,QB,Qk,simprocAttr,el0,ec1,et0,hgb,hd11,hle,e8,QU])
    | (refine(q3 _).thenW ?_;rintro _ _ hn hw2 ⟨rfl,k,rfl⟩;(try simp only[Ql,Wm,Q4]at hn);simp(disch:=(first | omega | (simp only[hnP];try omega))) only[QA,QB,Qk,simprocAttr,el0,ec1,et0,hgb,hd11,hle,e8,QU])
    | (with_reducible refine⟨by simp[Qs,plain],by omega,?_⟩)
    | (with_reducible refine⟨by simp[Qs,plain],?_⟩)
    | fail)
  all_goals refine .ext hw ?_ ⟨?_,_,rfl⟩
  all_goals try (repeat' (first | exact Ext.refl _ | refine Ext.push ?_ _ | refine Ext.up ?_ (by simp only[Ql,Q4,Wm];omega) | refine Ext.set ?_ (by omega) _))
  all_goals clear q1 q2 hw
  all_goals (try simp_all)
  all_goals first
   | (have hz:v2a=0:=(by omega);simp[hz];done)
   | (have hz:v2a=0:=(by omega);subst hz;simp_all;done)
   | (have hz:¬v2a=0:=(by omega);simp[hz])
theorem QtR (op:Int) (v:Value) (l:List Ar) (kd:Int) (H:Qa) (hv:XJ H v l) (hl:l.length<=1000):Qh prog Yx [.agg #[.int .i64 op,v],.int .i64 kd] H λu H'=>u=.int .i64 (W8 kd l)∧∃k,H'=H.up k:=by
 refine QjP λhw=>?_;obtain⟨a0,cap,rfl,h1⟩:=hv;simp(disch:=(first | omega | (simp only[hnP];try omega))) only[Qc9,Qk,simprocAttr]
 refine QE (λm A' H'=>∃i:Nat,i<=l.length∧m=l.length - i∧Ext H H'∧H.next<H'.next∧H'.get H.next=some (.cells [.int .i64 op,.slice a0 l.length cap] Qd false)∧A' 1=.int .i64 kd∧A' 2=.pointer (some ⟨H.next,0,none⟩)∧A' 5=.int .i64 (W8 kd (l.take i))∧A' 6=.int .i64 i) l.length ?_ ?_
 ·refine⟨0,L7 _,by omega,(Ext.refl H).push _,by rw[Ql];omega,by rw[Qi,Lc rfl],?_,?_,?_,?_⟩
  all_goals simp only[Qg,simprocAttr]
  all_goals rfl
 ·rintro m A' H' ⟨i,hi,rfl,hx,hb0,g0,r1,r2,r5,r6⟩;simp(disch:=(first | omega | (simp only[hnP];try omega))) only[QbR,Qk,simprocAttr,g0,r1,r2,r5,r6]
  refine Qf (λh2=>?_) (λh2=>?_)
  ·have h2:i<l.length:=by have:=Lg h2;omega
   obtain⟨a,ha⟩:∃a,l[i]? = some a:=⟨_,La h2⟩;obtain⟨b,e,ro,rfl,hgb0⟩:=h1 (by omega);have hbl:=hw.lt hgb0;have hgb:H'.get b=some (.cells (Qr l) e ro):=by rw[hx.get b hbl];exact hgb0
   have htk:=VY l i a ha;have hle:i * 11+11<=(Qr l).length:=by rw[W1];omega
   have d1:(0:Int)<=i∧(i:Int)<l.length:=by omega
   have d3:(i:Int).toNat=i:=by omega
   have ei:IntKind.i64.wrap ((i:Int)+1)=((i+1:Nat):Int):=by rw[w64 (by unfold I64;omega)];omega
   have bk:=QiU kd (l.take i);have hlt:(l.take i).length<=1000:=by rw[Sb];omega
   have ek:IntKind.i64.wrap (W8 kd (l.take i)+1)=W8 kd (l.take i)+1:=w64 (by unfold I64;omega);have sk:=QhY kd (l.take i) a;rw[<- Qoa l i a ha]at sk;have hk0:(Qr l)[i * 11]? = some (.int .i64 a.k):=by
    have:=congrArg (·[0]?) htk;simp only[Nl,Nk,Ar.cells]at this;simpa using this
   simp(disch:=(first | omega | (simp only[hnP];try omega))) only[QbQ,Qk,simprocAttr,g0,r1,r2,r5,r6,d1,d3,hgb,hk0,ei]
   refine Qf (λh=>?_) (λh=>?_)
   all_goals simp(disch:=(first | omega | (simp only[hnP];try omega))) only[Qk,simprocAttr,r5,r6,ei,ek]
   all_goals refine⟨l.length - (i+1),by omega,i+1,by omega,rfl,hx,hb0,g0,?_,?_,?_,?_⟩
   all_goals (try simp only[Qg,simprocAttr,r1,r2,r5])
   all_goals (rw[sk,h];simp)
  ·have h2:i=l.length:=by have:=Ll h2;omega
   subst h2;simp(disch:=(first | omega | (simp only[hnP];try omega))) only[Qk,simprocAttr,r5,QiH]
   refine .ext hw hx ⟨by rw[Nr],_,rfl⟩
def Qi8 (ib:Int×Bool):List Ar->Int
 | []=>0
 | a::l=>if(a.k==3)=true then(if((JS a.n ib.1 ib.2).2==0)=true then Qi8 ib l else(JS a.n ib.1 ib.2).2) else Qi8 ib l
def QeI (op:Int) (l:List Ar):Int:=
 if ZC op=false then 6 else if l.length>4 then 3 else if(Qf5 l==0)=false then Qf5 l
 else if(decide (1<W8 2 l)||decide (1<W8 3 l)||decide (1<W8 4 l))=true then 2
 else Qi8 (WZ op l) l
theorem Qok (ib:Int×Bool):∀ (l:List Ar) (n:Int),W8 3 l=0->Qi8 ib l=0∧QhX n l=n
 | [],n,_=>⟨rfl,rfl⟩
 | a::l,n,h=>by
  have hp:=(QiU 3 l).1;unfold W8 at h;cases hk:a.k==3 with
  | true=>rw[hk]at h;simp at h;omega
  | false=>
   rw[hk]at h;unfold Qi8 QhX;rw[hk];simpa using Qok ib l n (by simpa using h)
theorem Qvr (ib:Int×Bool):∀ (l:List Ar) (n:Int),W8 3 l=1->Qi8 ib l=(JS (QhX n l) ib.1 ib.2).2
 | [],n,h=>by simp[W8]at h
 | a::l,n,h=>by
  unfold W8 at h;cases hk:a.k==3 with
  | true=>
   rw[hk]at h;obtain⟨h1,h2⟩:=Qok ib l a.n (by simp at h;omega);unfold Qi8 QhX;rw[hk];simp only[N3,h1,h2];split
   ·rename_i h3;exact(L0.1 h3).symm
   ·rfl
  | false=>
   rw[hk]at h;unfold Qi8 QhX;rw[hk];simpa using Qvr ib l n (by simpa using h)
theorem QsL (op:Int) (l:List Ar):QeI op l=XT op l:=by
 unfold QeI XT;split
 ·rfl
 split
 ·rfl
 split
 ·rfl
 have hp:=QiU 3 l;have hc:(decide (1<W8 2 l)||decide (1<W8 3 l)||decide (1<W8 4 l))=(decide (1<W8 2 l)||decide (1<W8 4 l)||decide (1<W8 3 l)):=by rw[FP,Bool.or_comm (decide (1<W8 3 l)),<- FP]
 rw[hc];split
 ·rfl
 rename_i h;have h3:W8 3 l<=1:=by
  simp only[Nw,Lv,not_or]at h;omega
 by_cases h0:W8 3 l=0
 ·rw[(Qok _ l 0 h0).1,h0];rfl
 ·rw[Le (by simpa using h0),Qvr _ l 0 (by omega)];split
  ·rename_i hb;unfold JS;rw[Lc];have:=L0.1 hb;rw[this];rfl
  ·rfl
theorem QsM (ib:Int×Bool):∀ (l:List Ar) (i:Nat) (a:Ar),l[i]? = some a->Qi8 ib (l.drop i)=if(a.k==3)=true then(if((JS a.n ib.1 ib.2).2==0)=true then Qi8 ib (l.drop (i+1)) else(JS a.n ib.1 ib.2).2) else Qi8 ib (l.drop (i+1))
 | [],i,a,h=>by simp at h
 | b::l,0,a,h=>by simp at h;subst h;rfl
 | b::l,i+1,a,h=>by simpa using QsM ib l i a (by simpa using h)
def rcF (H:Qa) (op:Int) (v:Value) (A:Env) (H':Qa):Prop:=Ext H H'∧H.next<H'.next∧A 1=.pointer (some ⟨H.next,0,none⟩)∧H'.get H.next=some (.cells [.int .i64 op,v] Qd false)
theorem rcF.env {H H':Qa} {op:Int} {v:Value} {A B:Env} (h:rcF H op v A H') (h1:B 1=A 1):rcF H op v B H':=⟨h.1,h.2.1,h1.trans h.2.2.1,h.2.2.2⟩
theorem rcF.up {H H':Qa} {op:Int} {v:Value} {A:Env} (h:rcF H op v A H') {k:Nat} (hk:H'.next<=k):rcF H op v A (H'.up k):=⟨h.1.up hk,by have:=h.2.1;rw[Wm];omega,h.2.2.1,by rw[W3];exact h.2.2.2⟩
structure AtI (H':Qa) (l:List Ar) (i b:Nat) (a:Ar):Prop where
 g:∃e ro,H'.get b=some (.cells (Qr l) e ro)
 d1:(0:Int)<=i∧(i:Int)<l.length
 d3:(i:Int).toNat=i
 tk:List.take 11 (List.drop (i * 11) (Qr l))=a.cells
 le:i * 11+11<=(Qr l).length
 k:(Qr l)[i * 11]? = some (.int .i64 a.k)
 n:(Qr l)[i * 11+10]? = some (.int .i64 a.n)
 ei:IntKind.i64.wrap ((i:Int)+1)=((i+1:Nat):Int)
theorem atI {H H':Qa} {l:List Ar} {i:Nat} {a:Ar} {a0:Option Addr} {cap:Nat} (hv:XJ H (.slice a0 l.length cap) l) (hw:H.Wf) (hx:Ext H H') (hl:l.length<=1000) (ha:l[i]? = some a):∃b,a0=some ⟨b,0,none⟩∧b<H.next∧AtI H' l i b a:=by
 have h2:i<l.length:=(Lk.1 ha).1;obtain⟨a1,cap1,e1,h1⟩:=hv;cases e1;obtain⟨b,e,ro,rfl,hgb0⟩:=h1 (by omega);have hbl:=hw.lt hgb0;have htk:=VY l i a ha;refine⟨b,rfl,hbl,⟨e,ro,by rw[hx.get b hbl];exact hgb0⟩,by omega,by omega,htk,by rw[W1];omega,?_,?_,by rw[w64 (by unfold I64;omega)];omega⟩
 ·have:=congrArg (·[0]?) htk;simp only[Nl,Nk,Ar.cells]at this;simpa using this
 ·have:=congrArg (·[10]?) htk;simp only[Nl,Nk,Ar.cells]at this;simpa using this
section
variable {H:Qa} {op:Int} {a0:Option Addr} {cap:Nat} {l:List Ar}
abbrev KK (H:Qa) (op:Int) (l:List Ar):Value->Qa->Prop:=λu H'=>u=.int .i64 (QeI op l)∧∃k,H'=H.up k
abbrev KR (H:Qa) (op:Int) (l:List Ar):Env->Qa->Prop:=Rt prog QjM H (KK H op l)
theorem QGd (hw:H.Wf) (hv:XJ H (.slice a0 l.length cap) l) (hl:l.length<=1000) (hI:∀a∈l,I64 a.n) (c1:ZC op=true) (c2:l.length<=4) (c3:(Qf5 l==0)=true) (c4:(decide (1<W8 2 l)||decide (1<W8 3 l)||decide (1<W8 4 l))=false) (A:Env) (H1:Qa) (hw1:H1.Wf) (hF:rcF H op (.slice a0 l.length cap) A H1):
  Qn prog Z4 ⟨KR H op l,X2⟩ (KR H op l) A H1:=by
 have hrc:QeI op l=Qi8 (WZ op l) l:=by
  unfold QeI;rw[Le (by simp[c1]),Le (by omega),Le (by simp[c3]),Le (by simp[c4])]
 simp(disch:=(first | omega | (simp only[hnP];try omega))) only[Z4,Qk,simprocAttr]
 refine QE (λm A' H'=>∃i:Nat,i<=l.length∧m=l.length - i∧H'.Wf∧rcF H op (.slice a0 l.length cap) A' H'∧A' 5=.int .i64 i∧Qi8 (WZ op l) l=Qi8 (WZ op l) (l.drop i)) l.length ?_ ?_
 ·refine⟨0,L7 _,by omega,hw1,hF.env ?_,?_,rfl⟩
  all_goals simp only[uxA,uxB,Nat.reduceBEq]
  rfl
 ·rintro m A' H' ⟨i,hi,rfl,hw',⟨hx,hb0,r1,g0⟩,r5,he⟩;simp(disch:=(first | omega | (simp only[hnP];try omega))) only[QaJ,Qk,simprocAttr,g0,r1,r5]
  refine Qf (λh2=>?_) (λh2=>?_)
  ·have h2:i<l.length:=by have:=Lg h2;omega
   obtain⟨a,ha⟩:∃a,l[i]? = some a:=⟨_,La h2⟩;obtain⟨b,rfl,hbl,⟨e,ro,hgb⟩,d1,d3,htk,hle,hk,hn,ei⟩:=atI hv hw hx hl ha;rw[QsM _ l i a ha]at he;have han:=hI a (Ln ha);simp(disch:=(first | omega | (simp only[hnP];try omega))) only[QaI,Qk,simprocAttr,g0,r1,r5,d1,d3,hgb,hk]
   refine Qf (λh=>?_) (λh=>?_)
   ·have h3:(a.k==3)=false:=by simpa using h
    rw[h3]at he;simp(disch:=(first | omega | (simp only[hnP];try omega))) only[Qk,simprocAttr,r5,ei]
    refine⟨l.length - (i+1),by omega,i+1,by omega,rfl,hw',⟨hx,hb0,?_,g0⟩,?_,by simpa using he⟩
    all_goals simp only[Qg,simprocAttr,r1]
   ·have h3:(a.k==3)=true:=by simpa using h
    rw[h3]at he;simp only[N3]at he;simp(disch:=(first | omega | (simp only[hnP];try omega))) only[QaH,Qk,simprocAttr,g0,r1,r5]
    refine(Qnx op _ l H' (hv.ext hw hx) hl).thenW ?_;rintro _ _ hn2 hw2 ⟨rfl,k,rfl⟩;have hbk:H.next<k:=N5 hb0 hn2;simp(disch:=(first | omega | (simp only[hnP];try omega))) only[Qk,simprocAttr,g0,r1,r5,d1,d3,hgb,hn]
    refine(Qpb a.n _ _ han _).thenW ?_;rintro _ _ hn3 hw3 ⟨rfl,rfl⟩;generalize hE:Qi8 (WZ op l) (l.drop (i+1))=er at he;generalize himm:JS a.n (WZ op l).1 (WZ op l).2=im at *;simp(disch:=(first | omega | (simp only[hnP];try omega))) only[Qk,simprocAttr,r5]
    refine Qf (λh4=>?_) (λh4=>?_)
    ·have h4:(im.2==0)=false:=by simpa using h4
     rw[h4]at he;simp(disch:=(first | omega | (simp only[hnP];try omega))) only[Qk,simprocAttr,WQ]
     exact .ext hw (hx.up hn2) ⟨by rw[hrc,he];simp,_,rfl⟩
    ·have h4:(im.2==0)=true:=by simpa using h4
     rw[h4]at he;simp(disch:=(first | omega | (simp only[hnP];try omega))) only[Qk,simprocAttr,r5,ei]
     refine⟨l.length - (i+1),by omega,i+1,by omega,rfl,hw2,⟨hx.up hn2,hbk,?_,g0⟩,?_,by rw[hE];simpa using he⟩
     all_goals simp only[Qg,simprocAttr,r1]
  ·have h2:i=l.length:=by have:=Ll h2;omega
   subst h2;rw[BU]at he;simp(disch:=(first | omega | (simp only[hnP];try omega))) only[Qk,simprocAttr,WQ]
   exact .ext hw hx ⟨by rw[hrc,he];rfl,_,rfl⟩
theorem QD2 (hw:H.Wf) (hv:XJ H (.slice a0 l.length cap) l) (hl:l.length<=1000) (hI:∀a∈l,I64 a.n) (c1:ZC op=true) (c2:l.length<=4) (c3:(Qf5 l==0)=true) (A:Env) (H1:Qa) (hw1:H1.Wf) (hF:rcF H op (.slice a0 l.length cap) A H1):
  Qn prog Z5 ⟨KR H op l,X2⟩ (KR H op l) A H1:=by
 have P4:=λc4=>QGd (op:=op) hw hv hl hI c1 c2 c3 c4;have hrc:(decide (1<W8 2 l)||decide (1<W8 3 l)||decide (1<W8 4 l))=true->QeI op l=2:=λh=>by
  unfold QeI;rw[Le (by simp[c1]),Le (by omega),Le (by simp[c3]),Lc h]
 obtain⟨hx,hb0,r1,g0⟩:=hF;have qm:=λkd H' (hx:Ext H H')=>QtR op _ l kd H' (hv.ext hw hx) hl;simp(disch:=(first | omega | (simp only[hnP];try omega))) only[Z5,Qk,simprocAttr,g0,r1]
 refine(qm 2 H1 hx).thenW ?_;rintro _ _ hn2 hw2 ⟨rfl,k2,rfl⟩;have hx2:=hx.up hn2;have hb2:H.next<k2:=N5 hb0 hn2;simp(disch:=(first | omega | (simp only[hnP];try omega))) only[Qk,simprocAttr,g0,r1]
 have fin:∀A H',Ext H H'->(decide (1<W8 2 l)||decide (1<W8 3 l)||decide (1<W8 4 l))=true->(A 2=.int .i64 2)->KR H op l A H':=λA H' hx h r2=>by
  simp(disch:=(first | omega | (simp only[hnP];try omega))) only[KR,WQ,r2]
  exact .ext hw hx ⟨by rw[hrc h],_,rfl⟩
 cases h:decide (1<W8 2 l) with
 | true=>
  rw[h]at fin;simp(disch:=(first | omega | (simp only[hnP];try omega))) only[Qk,simprocAttr,h]
  refine fin _ _ hx2 (by simp) ?_;simp only[Qg,simprocAttr]
 | false=>
  simp(disch:=(first | omega | (simp only[hnP];try omega))) only[Qk,simprocAttr,h,g0,r1]
  refine(qm 3 _ hx2).thenW ?_;rintro _ _ hn3 hw3 ⟨rfl,k3,rfl⟩;have hx3:=hx2.up hn3;have hb3:H.next<k3:=N5 hb2 hn3;cases h3:decide (1<W8 3 l) with
  | true=>
   rw[h3]at fin;simp(disch:=(first | omega | (simp only[hnP];try omega))) only[Qk,simprocAttr,h3]
   refine fin _ _ hx3 (by simp) ?_;simp only[Qg,simprocAttr]
  | false=>
   simp(disch:=(first | omega | (simp only[hnP];try omega))) only[Qk,simprocAttr,h3,g0,r1]
   refine(qm 4 _ hx3).thenW ?_;rintro _ _ hn4 hw4 ⟨rfl,k4,rfl⟩;have hx4:=hx3.up hn4;have hb4:H.next<k4:=N5 hb3 hn4;cases h4:decide (1<W8 4 l) with
   | true=>
    rw[h4]at fin;simp(disch:=(first | omega | (simp only[hnP];try omega))) only[Qk,simprocAttr,h4]
    refine fin _ _ hx4 (by simp) ?_;simp only[Qg,simprocAttr]
   | false=>
    simp(disch:=(first | omega | (simp only[hnP];try omega))) only[Qk,simprocAttr,h4]
    refine P4 (by rw[h,h3,h4];rfl) _ _ hw4 ⟨hx4,hb4,?_,g0⟩;simp only[Qg,simprocAttr,r1]
end
theorem Qr8 (op:Int) (v:Value) (l:List Ar) (H:Qa) (hv:XJ H v l) (hl:l.length<=1000) (hI:∀a∈l,I64 a.n):Qh prog Gn [.agg #[.int .i64 op,v]] H λu H'=>u=.int .i64 (XT op l)∧∃k,H'=H.up k:=by
 rw[<- QsL];refine QiC λhw=>?_;obtain⟨a0,cap,rfl⟩:=QaS hv;simp(disch:=(first | omega | (simp only[hnP];try omega))) only[QcD,Qk,simprocAttr]
 refine(Qhc op _).thenW ?_;rintro _ H1 hn1 hw1 ⟨rfl,hH1⟩;have hx1:Ext H H1:=by rw[hH1];exact(Ext.refl H).push _
 have g1:H1.get H.next=some (.cells [.int .i64 op,.slice a0 l.length cap] Qd false):=by rw[hH1,Qi,Lc rfl]
 have hb1:H.next<H1.next:=by rw[hH1,Ql];omega
 clear hH1;simp(disch:=(first | omega | (simp only[hnP];try omega))) only[Qk,simprocAttr]
 cases c1:ZC op with
 | false=>
  simp(disch:=(first | omega | (simp only[hnP];try omega))) only[Qk,simprocAttr,WQ]
  exact .ext hw hx1 ⟨by unfold QeI;rw[Lc c1],_,rfl⟩
 | true=>
  simp(disch:=(first | omega | (simp only[hnP];try omega))) only[QaN,Qk,simprocAttr,g1]
  refine Qf (λh=>?_) (λh=>?_)
  ·have c2:4<l.length:=by have:=Lg h;omega
   simp(disch:=(first | omega | (simp only[hnP];try omega))) only[Qk,simprocAttr,WQ]
   exact .ext hw hx1 ⟨by unfold QeI;rw[Le (by simp[c1]),Lc c2],_,rfl⟩
  ·have c2:l.length<=4:=by have:=Ll h;omega
   have hrc:(Qf5 l==0)=false->QeI op l=Qf5 l:=λh=>by
    unfold QeI;rw[Le (by simp[c1]),Le (by omega),Lc (by simpa using h)]
   simp(disch:=(first | omega | (simp only[hnP];try omega))) only[QaM,Qk,simprocAttr]
   refine QE (λm A' H'=>∃i:Nat,i<=l.length∧m=l.length - i∧H'.Wf∧rcF H op (.slice a0 l.length cap) A' H'∧A' 3=.int .i64 i∧Qf5 l=Qf5 (l.drop i)) l.length ?_ ?_
   ·refine⟨0,L7 _,by omega,hw1,⟨hx1,hb1,?_,g1⟩,?_,rfl⟩
    all_goals simp only[uxA,uxB,Nat.reduceBEq]
    rfl
   ·rintro m A' H' ⟨i,hi,rfl,hw',⟨hx,hb0,r1,g0⟩,r3,he⟩;simp(disch:=(first | omega | (simp only[hnP];try omega))) only[QaL,Qk,simprocAttr,g0,r1,r3]
    refine Qf (λh2=>?_) (λh2=>?_)
    ·have h2:i<l.length:=by have:=Lg h2;omega
     obtain⟨a,ha⟩:∃a,l[i]? = some a:=⟨_,La h2⟩;obtain⟨b,rfl,hbl,⟨e,ro,hgb⟩,d1,d3,htk,hle,hk,hn,ei⟩:=atI hv hw hx hl ha;rw[Qn9 l i a ha]at he;simp(disch:=(first | omega | (simp only[hnP];try omega))) only[QaK,Qk,simprocAttr,g0,r1,r3,d1,d3,hgb,htk,hle]
     refine(GF a _).thenW ?_;rintro _ _ hn2 hw2 ⟨rfl,k,rfl⟩;have hbk:H.next<k:=N5 hb0 hn2;simp(disch:=(first | omega | (simp only[hnP];try omega))) only[Qk,simprocAttr,r3]
     refine Qf (λh4=>?_) (λh4=>?_)
     ·have h4:(Yg a==0)=false:=by simpa using h4
      rw[h4]at he;have he:Qf5 l=Yg a:=by simpa using he
      simp(disch:=(first | omega | (simp only[hnP];try omega))) only[Qk,simprocAttr,WQ]
      exact .ext hw (hx.up hn2) ⟨by rw[hrc (by rw[he];exact h4),he],_,rfl⟩
     ·have h4:(Yg a==0)=true:=by simpa using h4
      rw[h4]at he;simp(disch:=(first | omega | (simp only[hnP];try omega))) only[Qk,simprocAttr,r3,ei]
      refine⟨l.length - (i+1),by omega,i+1,by omega,rfl,hw2,⟨hx.up hn2,hbk,?_,g0⟩,?_,by simpa using he⟩
      all_goals simp only[Qg,simprocAttr,r1]
    ·have h2:i=l.length:=by have:=Ll h2;omega
     subst h2;rw[BU]at he;simp(disch:=(first | omega | (simp only[hnP];try omega))) only[Qk,simprocAttr]
     refine QD2 hw hv hl hI c1 c2 (by rw[he];rfl) _ _ hw' ⟨hx,hb0,r1,g0⟩
def Gs (size:Nat) (e:TypeId) (H0 H:Qa) (v:Value) (n:Nat) (cs:List Value):Prop:=(v=.slice none 0 0∧n=0∧cs=[])∨∃b,v=.slice (some ⟨b,0,none⟩) n (UNK+size)∧H0.next<=b∧H.get b=some (.cells cs e false)∧cs.length=n * size
def Ql6 (v:Value) (id:Nat):Prop:=∃o n c,v=.slice (some ⟨id,o,none⟩) n c
theorem Gs.ext {size:Nat} {e:TypeId} {H0 H H':Qa} {v:Value} {n:Nat} {cs:List Value} (h:Gs size e H0 H v n cs) (hk:∀id,Ql6 v id->H'.get id=H.get id):Gs size e H0 H' v n cs:=by
 rcases h with h | ⟨b,rfl,h2,h3,h4⟩
 ·exact .inl h
 ·exact .inr ⟨b,rfl,h2,by rw[hk b ⟨_,_,_,rfl⟩];exact h3,h4⟩
theorem Gs.low {size:Nat} {e:TypeId} {H0 H:Qa} {v:Value} {n:Nat} {cs:List Value} (h:Gs size e H0 H v n cs) (hw:H.Wf) {id:Nat} (hi:Ql6 v id):H0.next<=id∧id<H.next:=by
 obtain⟨o,n',c,rfl⟩:=hi;rcases h with⟨h,_,_⟩ | ⟨b,h,h2,h3,h4⟩
 ·cases h
 ·cases h;exact⟨h2,hw.lt h3⟩
theorem QGe {size:Nat} {e bytes:Nat} {H0 H:Qa} {v x:Value} {n m:Nat} {cs ms:List Value} {k:Value->Qa->Prop} (hs:Gs size e H0 H v n cs) (hx:Ext H0 H) (hw:H.Wf) (hsrc:Qcu size x H=some (m,ms)) (hone:ms.all (·.oneCell')=true) (hm:1<=m) (hml:ms.length=m * size) (hb:(n+m) * bytes<=140737488355328) (hn:n+m<=9223372036854775807)
  (h:∀v' H',Gs size e H0 H' v' (n+m) (cs++ms)->Ext H0 H'->H'.Wf->(∀id,id<H.next->¬Ql6 v id->H'.get id=H.get id)->H'.next=H.next+1->(∀id,Ql6 v' id->id=H.next)->k v' H'):Qiq e size bytes v x H k:=by
 have hnn:=hx.next;rcases hs with⟨rfl,rfl,rfl⟩ | ⟨b,rfl,h2,h3,h4⟩
 ·refine Qks hsrc hone (by omega) (by rw[LP]at hb;exact hb) (by omega) (h _ _ (.inr ⟨H.next,by rw[LP],hnn,by rw[Qi,Lc rfl,LH],by rw[LH,LP];exact hml⟩) (hx.push _) (hw.push _) (λid hid _=>by rw[Qi,Le (by omega)]) (by rw[Ql]) ?_);rintro id ⟨o,n',c,he⟩;cases he;rfl
 ·have hbl:=hw.lt h3;refine Qhv rfl hsrc hone (by omega) h3 (by rw[LP];omega) hb hn (by omega) (h _ _ (.inr ⟨H.next,rfl,hnn,?_,by rw[Lh,h4,hml,Ry]⟩) ?_ ?_ ?_ (by rw[Ql,Qeh]) ?_)
  ·rw[Qi,Qeh,Lc rfl,Lw]
  ·refine⟨by rw[Ql,Qeh];omega,λid hid=>?_⟩;rw[Qi,Qeh,Le (by omega),J4,Le (by omega)];exact hx.get id hid
  ·exact(hw.kill b).push _
  ·intro id hid hnb;have hne:¬id=b:=λh=>hnb ⟨_,_,_,by rw[h]⟩;rw[Qi,Qeh,Le (by omega),J4,Le hne]
  ·rintro id ⟨o,n',c,he⟩;cases he;rfl
theorem QB7 {size m b:Nat} {cap:Nat} {c:List Value} {e:TypeId} {ro:Bool} {H:Qa} (hb:H.get b=some (.cells c e ro)) (hm:m≠0) (hc:c.length=m * size):Qcu size (.slice (some ⟨b,0,none⟩) m cap) H=some (m,c):=by
 rw[QdL hb hm (by omega),Lw,LF (by omega)]
theorem Qxh (op:Int) (v:Value) (l:List Ar) (x y:Int) (H:Qa) (hv:XJ H v l) (hl:l.length<=1000):Qh prog Xj [.agg #[.int .i64 op,v],.int .i64 x,.int .i64 y] H λu H'=>u=.bool (Qd3 x y l)∧∃k,H'=H.up k:=by
 refine Qlp λhw=>?_;obtain⟨a0,cap,rfl⟩:=QaS hv;have hx1:Ext H (H.push (.cells [.int .i64 op,.slice a0 l.length cap] Qd false)):=(Ext.refl H).push _;cases h2:((l.length:Int)==2) with
 | false=>
  have hn:Qd3 x y l=false:=by
   match l,h2 with
   | [],_=>rfl
   | [_],_=>rfl
   | [_,_],h=>exact absurd h (by simp)
   | _::_::_::_,_=>rfl
  rw[hn];simp(disch:=(first | omega | (simp only[hnP];try omega))) only[Qas,Qk,simprocAttr,h2,Vi]
  exact .ext hw hx1 ⟨rfl,_,rfl⟩
 | true=>
  have hl2:l.length=2:=by have:=L0.1 h2;omega
  obtain⟨p,q,rfl⟩:=Qvb hl2;obtain⟨b,rfl,hbl,⟨e,ro,hgb⟩,d1,d3,htk,hle,hk,hn,ei⟩:=atI hv hw hx1 hl (i:=0) (a:=p) rfl;obtain⟨b',hbb,hbl',⟨e',ro',hgb'⟩,d1',d3',htk',hle',hk',hn',ei'⟩:=atI hv hw hx1 hl (i:=1) (a:=q) rfl;cases hbb;have c0:(0:Int)<=0∧(0:Int)<(([p,q]:List Ar).length:Int):=by simp
  have c1:(0:Int)<=1∧(1:Int)<(([p,q]:List Ar).length:Int):=by simp
  have z0:(0:Int).toNat=0:=rfl;have z1:(1:Int).toNat=1:=rfl;simp only[BH,Fx]at hk hk';have hA:Qd3 x y [p,q]=((p.k==x)&&(q.k==y)):=rfl;rw[hA];clear hA;generalize hH1:H.push _=H1 at *;have g0:H1.get H.next=some (.cells [.int .i64 op,.slice (some ⟨b,0,none⟩) ([p,q]:List Ar).length cap] Qd false):=by rw[<- hH1,Qi,Lc rfl]
  generalize ([p,q]:List Ar).length=len at *;simp(disch:=(first | omega | (simp only[hnP];try omega))) only[Qas,Qk,simprocAttr,hH1,h2,g0,c0,c1,z0,z1,hgb,hk]
  cases hp:p.k==x with
  | false=>
   simp(disch:=(first | omega | (simp only[hnP];try omega))) only[Qk,simprocAttr,hp,Vi,NG]
   exact .ext hw hx1 ⟨rfl,_,rfl⟩
  | true=>
   simp(disch:=(first | omega | (simp only[hnP];try omega))) only[Qk,simprocAttr,hp,g0,c0,c1,z0,z1,hgb,hk',Vi,LJ]
   exact .ext hw hx1 ⟨rfl,_,rfl⟩
theorem Qny (op:Int) (v:Value) (p q:Ar) (H:Qa) (hv:XJ H v [p,q]):Qh prog Xn [.agg #[.int .i64 op,v]] H λu H'=>∃v',u=.agg #[.int .i64 op,v']∧XJ H' v' [q,p]∧Ext H H'∧∀id,Ql6 v' id->H.next<=id:=by
 refine QjO λhw=>?_;obtain⟨a0,cap,rfl⟩:=QaS hv;have hx1:Ext H ((H.push (.cells [.int .i64 op,.slice a0 ([p,q]:List Ar).length cap] Qd false)).push (.cells [.int .i64 0,.slice none 0 0] Qd false)):=((Ext.refl H).push _).push _;obtain⟨b,rfl,hbl,⟨e,ro,hgb⟩,d1,d3,htk,hle,hk,hn,ei⟩:=atI hv hw hx1 (by simp) (i:=0) (a:=p) rfl;obtain⟨b',hbb,hbl',⟨e',ro',hgb'⟩,d1',d3',htk',hle',hk',hn',ei'⟩:=atI hv hw hx1 (by simp) (i:=1) (a:=q) rfl;cases hbb;have c0:(0:Int)<=0∧(0:Int)<(([p,q]:List Ar).length:Int):=by simp
 have c1:(0:Int)<=1∧(1:Int)<(([p,q]:List Ar).length:Int):=by simp
 have z0:(0:Int).toNat=0:=rfl;have z1:(1:Int).toNat=1:=rfl;simp only[BH,Fx,LP]at htk htk' hle hle';generalize hH1:(H.push _).push _=H1 at *;have hn1:H1.next=H.next+2:=by rw[<- hH1];rfl
 have g0:H1.get H.next=some (.cells [.int .i64 op,.slice (some ⟨b,0,none⟩) ([p,q]:List Ar).length cap] Qd false):=by rw[<- hH1,Qi,Le (by rw[Ql];omega),Qi,Lc rfl]
 have g1:H1.get (H.next+1)=some (.cells [.int .i64 0,.slice none 0 0] Qd false):=by rw[<- hH1,Qi,Lc (by rw[Ql])]
 generalize ([p,q]:List Ar).length=len at *;obtain⟨C,hC⟩:∃C,Qr [p,q]=C:=⟨_,rfl⟩;rw[hC]at hgb htk htk' hle hle';rw[Lw]at htk;have hcc:Qr [q,p]=q.cells++p.cells:=by simp[Qr]
 have hxe:Ext H H1:=hx1;unfold XJ;rw[hcc];clear hcc hgb' hk hk' hn hn' hv hC hx1;obtain⟨pk,⟨prc,prn⟩,⟨⟨pbc,pbn⟩,⟨pic,pin⟩,psc,pd,psz⟩,pn⟩:=p;obtain⟨qk,⟨qrc,qrn⟩,⟨⟨qbc,qbn⟩,⟨qic,qin⟩,qsc,qd,qsz⟩,qn⟩:=q;simp only[Ar.cells,Nm,LH]at htk htk' ⊢;simp(disch:=(first | omega | (simp only[hnP];try omega))) only[Qc8,Qk,simprocAttr,hH1,g0,g1,c0,c1,z0,z1,hgb,htk,htk',hle,hle',LP]
 simp(disch:=(first | omega | (simp only[hnP];try omega))) only[Qk,simprocAttr,List.drop_succ_cons,List.take_succ_cons,Rb,LH,Nm,QiE]
 refine .mk (by simp only[Q4,Ql];omega) ⟨_,rfl,⟨_,_,rfl,λ_=>⟨H1.next,Qe,false,rfl,?_⟩⟩,(hxe.push _).set (by omega) _,λid ⟨_,_,_,h⟩=>by cases h;omega⟩;rw[Qm,Le (by omega),Qi,Lc rfl]
def cF (ib:Int×Bool) (a:Ar):Ar:=if((WP a).1.k==3)=true then {(WP a).1 with n:=(JS (WP a).1.n ib.1 ib.2).1} else(WP a).1
theorem Qvs (ib:Int×Bool):∀l:List Ar,Qf5 l=0->Qi8 ib l=0->XG ib l=(l.map (cF ib),0)
 | [],_,_=>rfl
 | a::l,h1,h2=>by
  have ha:(Yg a==0)=true:=by
   unfold Qf5 at h1;split at h1
   ·assumption
   ·rename_i h9;rw[h1]at h9;exact absurd rfl h9
  have h1':Qf5 l=0:=by unfold Qf5 at h1;rw[Lc ha]at h1;exact h1
  have hE:WP a=(Qf4 a,0):=by unfold WP;rw[Lc ha]
  have hk:(Qf4 a).k=a.k:=by unfold Qf4;split;rfl;split<;>rfl
  have hn:(a.k==3)=true->(Qf4 a).n=a.n:=λh=>by
   have:=L0.1 h;unfold Qf4;rw[this];rfl
  have key:Qau ib a=(cF ib a,0)∧Qi8 ib l=0:=by
   unfold Qi8 at h2;unfold Qau cF;rw[hE];simp only[hk];cases h3:a.k==3 with
   | false=>rw[h3]at h2;exact⟨rfl,by simpa using h2⟩
   | true=>
    rw[h3]at h2;simp only[N3]at h2;cases h4:(JS a.n ib.1 ib.2).2==0 with
    | true=>
     rw[h4]at h2;rw[hn h3];refine⟨?_,by simpa using h2⟩;simp[L0.1 h4]
    | false=>
     rw[h4]at h2;have:(JS a.n ib.1 ib.2).2=0:=by simpa using h2
     rw[this]at h4;exact absurd h4 (by simp)
  unfold XG;rw[key.1,Qvs ib l h1' key.2];rfl
theorem Qz1 {op:Int} {l:List Ar} (h:XT op l=0):Xd op l=(op,Jg op (l.map (cF (WZ op l))),0):=by
 have hr:=QsL op l;rw[h]at hr;have:Qf5 l=0∧Qi8 (WZ op l) l=0:=by
  unfold QeI at hr;split at hr
  ·omega
  split at hr
  ·omega
  split at hr
  ·rename_i h9;rw[hr]at h9;exact absurd h9 (by simp)
  rename_i h9;split at hr
  ·omega
  exact⟨by simpa using h9,hr⟩
 unfold Xd;rw[h,Qvs _ l this.1 this.2];rfl
theorem Qz2 {op:Int} {l:List Ar} (h:(XT op l==0)=false):Xd op l=(0,[],XT op l):=by
 unfold Xd;rw[Lc h]
theorem QHt {size e n:Nat} {H0 H:Qa} {v:Value} {cs:List Value} (h:Gs size e H0 H v n cs) (hs:0<size):ZA H v n cs:=by
 rcases h with⟨rfl,rfl,rfl⟩ | ⟨b,rfl,h1,h2,h3⟩
 ·exact⟨none,0,rfl,λh=>absurd h (NX 0)⟩
 ·exact⟨_,_,rfl,λ_=>⟨b,e,false,rfl,h2⟩⟩
def QHu (op:Int) (l:List Ar) (H:Qa) (u:Value) (H':Qa):Prop:=
 Ext H H'∧∃v',u=.tuple #[.agg #[.int .i64 (Xd op l).1,v'],.int .i64 (Xd op l).2.2]∧XJ H' v' (Xd op l).2.1∧∀a n c,v'=.slice (some a) n c->H.next<=a.block∧a.block<H'.next
section
variable {H:Qa} {op:Int} {l:List Ar}
abbrev KD (H:Qa) (op:Int) (l:List Ar):Env->Qa->Prop:=Rt prog QjL H (QHu op l H)
structure CnF (H:Qa) (op:Int) (v:Value) (D:Nat) (w:Value) (m:List Ar) (A:Env) (H':Qa):Prop where
 x:Ext H H'
 lt:H.next+2<=D
 r1:A 1=.pointer (some ⟨H.next,0,none⟩)
 r2:A 2=.pointer (some ⟨H.next+1,0,none⟩)
 r5:A 5=.pointer (some ⟨D,0,none⟩)
 g0:H'.get H.next=some (.cells [.int .i64 op,v] Qd false)
 g1:H'.get (H.next+1)=some (.cells [.int .i64 0,.slice none 0 0] Qd false)
 gD:H'.get D=some (.cells [.int .i64 op,w] Qd false)
 ars:XJ H' w m
 hi:∀id,Ql6 w id->D<id
 hb:∀a n c,w=.slice (some a) n c->H.next<=a.block∧a.block<H'.next
theorem CnF.ext {v w:Value} {D:Nat} {m:List Ar} {A B:Env} {H1 H2:Qa} (h:CnF H op v D w m A H1) (hw:H1.Wf) (hx:Ext H1 H2) (e1:B 1=A 1) (e2:B 2=A 2) (e5:B 5=A 5):CnF H op v D w m B H2:=by
 have hn:=hx.next;exact⟨⟨by have:=h.x.next;omega,λid hid=>by rw[hx.get id (by have:=h.x.next;omega)];exact h.x.get id hid⟩,h.lt,e1.trans h.r1,e2.trans h.r2,e5.trans h.r5,by rw[hx.get _ (hw.lt h.g0)];exact h.g0,by rw[hx.get _ (hw.lt h.g1)];exact h.g1,by rw[hx.get _ (hw.lt h.gD)];exact h.gD,h.ars.ext hw hx,h.hi,λa n c e=>by have:=h.hb a n c e;omega⟩
def Ql7:PC:=(.seq (.ops [Ow 134 (.ld true 2 (t 5)),Ov (.st 2 (t 2) (t 134)),Om 3 (Ci 0)]) .ret)
theorem QGf {v w:Value} {D:Nat} {m:List Ar} {A:Env} {H1:Qa} (hw1:H1.Wf) (hF:CnF H op v D w m A H1) (hm:Xd op l=(op,m,0)) (e:Nat->Env->Qa->Prop):
  Qn prog Ql7 ⟨KD H op l,e⟩ (KD H op l) A H1:=by
 obtain⟨hx,hlt,r1,r2,r5,g0,g1,gD,hars,hhi,hhb⟩:=hF;obtain⟨ca,cap,rfl⟩:=QaS hars;simp(disch:=(first | omega | (simp only[hnP];try omega))) only[Ql7,Qk,simprocAttr,r2,r5,gD,g1,QbP]
 have hx2:Ext H (H1.set (H.next+1) (.cells [.int .i64 op,.slice ca m.length cap] Qd false)):=hx.set (by omega) _;refine .mk hx2.next ⟨hx2,_,by rw[hm],?_,hhb⟩;rw[hm];obtain⟨a1,cap1,e1,h1⟩:=hars;cases e1;refine⟨ca,cap,rfl,λhn=>?_⟩;obtain⟨b,e',ro,rfl,hb⟩:=h1 hn;have:=hhi b ⟨_,_,_,rfl⟩;exact⟨b,e',ro,rfl,by rw[Qm,Le (by omega)];exact hb⟩
theorem Qxi {v w w':Value} {D:Nat} {m m':List Ar} {A:Env} {H1 H2:Qa} (hw1:H1.Wf) (hF:CnF H op v D w m A H1) (hx:Ext H1 H2) (hw2:H2.Wf) (hm0:0<m'.length) (ha:XJ H2 w' m') (hn:∀id,Ql6 w' id->H1.next<=id) {B:Env} (e1:B 1=A 1) (e2:B 2=A 2) (e5:B 5=A 5):
  CnF H op v D w' m' B (H2.set D (.cells [.int .i64 op,w'] Qd false)):=by
 have h:=hF.ext (B:=B) hw1 hx e1 e2 e5;have hD:=hw1.lt hF.gD;refine⟨h.x.set (by have:=h.lt;omega) _,h.lt,h.r1,h.r2,h.r5,?_,?_,by rw[Qm,Lc rfl],?_,λid hid=>by have:=hn id hid;omega,λa n c e=>?_⟩
 ·rw[Qm,Le (by have:=h.lt;omega)];exact h.g0
 ·rw[Qm,Le (by have:=h.lt;omega)];exact h.g1
 ·obtain⟨a,cap,rfl,h1⟩:=ha;refine⟨a,cap,rfl,λhn0=>?_⟩;obtain⟨b,e,ro,rfl,hb⟩:=h1 hn0;have:=hn b ⟨_,_,_,rfl⟩;exact⟨b,e,ro,rfl,by rw[Qm,Le (by omega)];exact hb⟩
 ·obtain⟨a',cap,e',h1⟩:=ha;obtain⟨b,e9,ro,rfl,hb⟩:=h1 hm0;rw[e']at e hn;cases e;have:=hn b ⟨_,_,_,rfl⟩;have:=hF.x.next;exact⟨by show H.next<=b;omega,by show b<H2.next;exact hw2.lt hb⟩
theorem QB8 {op:Int} {l:List Ar} (h:QpA op l=true):∃x y,l=[x,y]:=by
 match l,h with
 | [x,y],_=>exact⟨x,y,rfl⟩
theorem QGg:Wx=(.seq (.block 2 (.seq (.ops [Ow 60 (.fldA 0 (t 1)),Ow 61 (.ld false 1 (t 60)),Ow 62 (.bin .eql (t 61) (Ci 16)),Om 63 (t 62),Og 64 (.ld true 2 (t 5)) 63 true,Og 65 (.call Xj [(t 64),(Ci 1),(Ci 3)]) 63 true,Ow 66 (.pick (t 63) (t 65) (.const (.bool false))),Om 59 (t 66)]) (.cond (t 59) Z0 Ww))) Ql7):=rfl
theorem QB9 {v w:Value} {D:Nat} {m:List Ar} {A:Env} {H1:Qa} (hw1:H1.Wf) (hF:CnF H op v D w m A H1) (hml:m.length<=4) (hm:Xd op l=(op,Jg op m,0)):
  Qn prog Wx ⟨KD H op l,X2⟩ (KD H op l) A H1:=by
 have hend:∀ (w:Value) (m:List Ar) (A:Env) (H1:Qa),H1.Wf->CnF H op v D w m A H1->Xd op l=(op,m,0)->Qn prog Ql7 ⟨KD H op l,X2⟩ (KD H op l) A H1:=λw m A H1 a b c=>QGf a b c X2;have hF0:=hF;obtain⟨hx,hlt,r1,r2,r5,g0,g1,gD,hars,hhi⟩:=hF;have hD:=hw1.lt gD;have hsw:∀ (x y:Ar) (ks:Kp) (A2:Env) (H2:Qa),m=[x,y]->H2.Wf->Ext H1 H2->A2 1=A 1->A2 2=A 2->A2 5=A 5->Jg op m=[y,x]->Qn prog (.ops [Ow 94 (.ld true 2 (t 5)),Ow 95 (.call Xn [(t 94)]),Ov (.st 2 (t 5) (t 95))]) ks (Qn prog Ql7 ⟨KD H op l,X2⟩ (KD H op l)) A2 H2:=by
  intro x y ks A2 H2 hm2 hw2 hx2 q1 q2 q5 hr;have hF2:=hF0.ext hw1 hx2 q1 q2 q5;subst hm2;simp(disch:=(first | omega | (simp only[hnP];try omega))) only[Qk,simprocAttr,hF2.r5,hF2.gD]
  refine(Qny op w x y H2 hF2.ars).thenW ?_;rintro _ H3 hn3 hw3 ⟨v',rfl,ha3,hx3,hn'⟩;obtain⟨b,cap,hb⟩:=QaS ha3;have gD3:H3.get D=some (.cells [.int .i64 op,w] Qd false):=by rw[hx3.get D (hw2.lt hF2.gD)];exact hF2.gD
  subst hb;simp(disch:=(first | omega | (simp only[hnP];try omega))) only[Qk,simprocAttr,hF2.r5,gD3]
  refine hend (.slice b ([y,x]:List Ar).length cap) [y,x] _ _ (hw3.set gD3 _) ?_ (by rw[hm,hr]);refine Qxi hw2 hF2 hx3 hw3 (by simp) ha3 hn' ?_ ?_ ?_
  all_goals simp only[Qg,simprocAttr]
 have hsw2:∀ (x y:Ar) (ks:Kp) (A2:Env) (H2:Qa),m=[x,y]->H2.Wf->Ext H1 H2->A2 1=A 1->A2 2=A 2->A2 5=A 5->Jg op m=[y,x]->Qn prog (.ops [Ow 132 (.ld true 2 (t 5)),Ow 133 (.call Xn [(t 132)]),Ov (.st 2 (t 5) (t 133))]) ks (Qn prog Ql7 ⟨KD H op l,X2⟩ (KD H op l)) A2 H2:=by
  intro x y ks A2 H2 hm2 hw2 hx2 q1 q2 q5 hr;have hF2:=hF0.ext hw1 hx2 q1 q2 q5;subst hm2;simp(disch:=(first | omega | (simp only[hnP];try omega))) only[Qk,simprocAttr,hF2.r5,hF2.gD]
  refine(Qny op w x y H2 hF2.ars).thenW ?_;rintro _ H3 hn3 hw3 ⟨v',rfl,ha3,hx3,hn'⟩;obtain⟨b,cap,hb⟩:=QaS ha3;have gD3:H3.get D=some (.cells [.int .i64 op,w] Qd false):=by rw[hx3.get D (hw2.lt hF2.gD)];exact hF2.gD
  subst hb;simp(disch:=(first | omega | (simp only[hnP];try omega))) only[Qk,simprocAttr,hF2.r5,gD3]
  refine hend (.slice b ([y,x]:List Ar).length cap) [y,x] _ _ (hw3.set gD3 _) ?_ (by rw[hm,hr]);refine Qxi hw2 hF2 hx3 hw3 (by simp) ha3 hn' ?_ ?_ ?_
  all_goals simp only[Qg,simprocAttr]
 have his:∀ (x y:Int) (H2:Qa),H2.Wf->Ext H1 H2->Qh prog Xj [.agg #[.int .i64 op,w],.int .i64 x,.int .i64 y] H2 λu H'=>u=.bool (Qd3 x y m)∧∃k,H'=H2.up k:=λx y H2 hw2 hx2=>Qxh op w m x y H2 (hars.ext hw1 hx2) (by omega)
 -- nothing more
 have hno:∀ (A2:Env) (H2:Qa),H2.Wf->Ext H1 H2->A2 1=A 1->A2 2=A 2->A2 5=A 5->Jg op m=m->Qn prog Ql7 ⟨KD H op l,X2⟩ (KD H op l) A2 H2:=λA2 H2 hw2 hx2 q1 q2 q5 hr=>hend w m _ _ hw2 (hF0.ext hw1 hx2 q1 q2 q5) (by rw[hm,hr])
 -- ranked
 have P3:∀ (A2:Env) (H2:Qa) (ks:Kp),H2.Wf->Ext H1 H2->A2 1=A 1->A2 2=A 2->A2 5=A 5->QqY op m=false->QrZ op m=false->Qn prog Z1 ks (Qn prog Ql7 ⟨KD H op l,X2⟩ (KD H op l)) A2 H2:=by
  intro A2 H2 ks hw2 hx2 q1 q2 q5 h1 h2;have hF2:=hF0.ext hw1 hx2 q1 q2 q5;have hr:Jg op m=if QpA op m=true then m.reverse else m:=by unfold Jg;rw[h1,h2];simp
  simp(disch:=(first | omega | (simp only[hnP];try omega))) only[Z1,Qk,simprocAttr,hF2.r1,hF2.r5,hF2.g0,hF2.gD]
  have hrno:(op==11)=false∨Qd3 1 1 m=false->Jg op m=m:=λh=>by
   rw[hr,Le];intro hk;obtain⟨x,y,hxy⟩:=QB8 hk;rw[hxy]at hk h;have hk2:((op==11)&&(((x.k==1)&&(y.k==1))&&(x.r.c==y.r.c))&&!(decide (x.r.n<=y.r.n)))=true:=hk;simp only[Lm]at hk2;rcases h with h | h
   ·rw[hk2.1.1]at h;cases h
   ·have:Qd3 1 1 [x,y]=((x.k==1)&&(y.k==1)):=rfl;rw[this,hk2.1.2.1.1,hk2.1.2.1.2]at h;cases h
  cases h11:op==11 with
  | false=>
   simp(disch:=(first | omega | (simp only[hnP];try omega))) only[Qk,simprocAttr]
   refine hno _ _ hw2 hx2 ?_ ?_ ?_ (hrno (.inl h11))
   all_goals simp only[Qg,simprocAttr,q1,q2,q5]
  | true=>
   simp(disch:=(first | omega | (simp only[hnP];try omega))) only[Qk,simprocAttr,hF2.r5,hF2.gD]
   refine(his 1 1 _ hw2 hx2).thenW ?_;rintro _ _ hn3 hw3 ⟨rfl,k3,rfl⟩;have hx3:Ext H1 (H2.up k3):=hx2.up hn3;cases hA:Qd3 1 1 m with
   | false=>
    simp(disch:=(first | omega | (simp only[hnP];try omega))) only[Qk,simprocAttr]
    refine hno _ _ hw3 hx3 ?_ ?_ ?_ (hrno (.inr hA))
    all_goals simp only[Qg,simprocAttr,q1,q2,q5]
   | true=>
    obtain⟨x,y,rfl⟩:=QhZ hA;have hF3:=hF0.ext (B:=A2) hw1 hx3 q1 q2 q5;obtain⟨a0,cap,hwv⟩:=QaS hF3.ars;have hars3:=hF3.ars;rw[hwv]at hars3;obtain⟨b,rfl,hbl,⟨e,ro,hgb⟩,d1,d3,htk,hle,hk,hn,ei⟩:=atI (H:=H2.up k3) (H':=H2.up k3) hars3 hw3 (.refl _) (by simp) (i:=0) (a:=x) rfl;have gD3:=hF3.gD;rw[hwv]at gD3;have c0:(0:Int)<=0∧(0:Int)<(([x,y]:List Ar).length:Int):=by simp
    have c1:(0:Int)<=1∧(1:Int)<(([x,y]:List Ar).length:Int):=by simp
    have z0:(0:Int).toNat=0:=rfl;have z1:(1:Int).toNat=1:=rfl;have f0:(Qr [x,y])[0 * 11+1]? = some (.int .i64 x.r.c):=rfl;have f1:(Qr [x,y])[0 * 11+1+1]? = some (.int .i64 x.r.n):=rfl;have f2:(Qr [x,y])[1 * 11+1]? = some (.int .i64 y.r.c):=rfl;have f3:(Qr [x,y])[1 * 11+1+1]? = some (.int .i64 y.r.n):=rfl;simp only[BH,Fx,LP]at f0 f1 f2 f3;simp only[Nat.reduceAdd]at f0 f1 f2 f3;have hrr:Jg op [x,y]=if((x.r.c==y.r.c)&&decide (y.r.n<x.r.n))=true then[y,x] else[x,y]:=by
     rw[hr];have hk2:(x.k==1)=true∧(y.k==1)=true:=by
      have:Qd3 1 1 [x,y]=((x.k==1)&&(y.k==1)):=rfl;rw[this]at hA;simpa using hA
     have:QpA op [x,y]=((x.r.c==y.r.c)&&decide (y.r.n<x.r.n)):=by
      show((op==11)&&QiV [x,y]&&!(decide (x.r.n<=y.r.n)))=_;rw[h11];show(true&&(((x.k==1)&&(y.k==1))&&(x.r.c==y.r.c))&&!(decide (x.r.n<=y.r.n)))=_;rw[hk2.1,hk2.2];simp only[LJ];congr 1
      by_cases hle:x.r.n<=y.r.n
      ·rw[Lp hle,Lj (by omega)];rfl
      ·rw[Lj hle,Lp (by omega)];rfl
     rw[this];rfl
    generalize Qr [x,y]=C at f0 f1 f2 f3 hgb;generalize ([x,y]:List Ar).length=len at gD3 c0 c1;simp(disch:=(first | omega | (simp only[hnP];try omega))) only[QaE,Qk,simprocAttr,hF3.r5,gD3,c0,c1,z0,z1,hgb,f0,f1,f2,f3]
    cases hcc:x.r.c==y.r.c with
    | false=>
     simp(disch:=(first | omega | (simp only[hnP];try omega))) only[Qk,simprocAttr]
     refine hno _ _ hw3 hx3 ?_ ?_ ?_ (by rw[hrr,hcc];rfl)
     all_goals simp only[Qg,simprocAttr,q1,q2,q5]
    | true=>
     simp(disch:=(first | omega | (simp only[hnP];try omega))) only[Qk,simprocAttr,hF3.r5,gD3,c0,c1,z0,z1,hgb,f0,f1,f2,f3]
     cases hnn:decide (y.r.n<x.r.n) with
     | false=>
      simp(disch:=(first | omega | (simp only[hnP];try omega))) only[Qk,simprocAttr]
      refine hno _ _ hw3 hx3 ?_ ?_ ?_ (by rw[hrr,hcc,hnn];rfl)
      all_goals simp only[Qg,simprocAttr,q1,q2,q5]
     | true=>
      simp only[G5,Qpi,Ky,Qbq,Nat.reduceBEq,bf,bt,Qgz,QpR,Lq];have hrl:Jg op [x,y]=[y,x]:=by rw[hrr,hcc,hnn];rfl
      refine hsw2 x y _ _ _ rfl hw3 hx3 ?_ ?_ ?_ hrl
      all_goals simp only[Qg,simprocAttr,q1,q2,q5]
 -- placed
 have P4:∀ (A2:Env) (H2:Qa) (ks:Kp),H2.Wf->Ext H1 H2->A2 1=A 1->A2 2=A 2->A2 5=A 5->QqY op m=false->Qn prog Ww ks (Qn prog Ql7 ⟨KD H op l,X2⟩ (KD H op l)) A2 H2:=by
  intro A2 H2 ks hw2 hx2 q1 q2 q5 h1;have hF2:=hF0.ext hw1 hx2 q1 q2 q5;have hpl:QrZ op m=((op==10||op==11)&&Qd3 1 2 m):=rfl;cases h10:op==10 with
  | true=>
   have hop:(op==10||op==11)=true:=by rw[h10];rfl
   simp(disch:=(first | omega | (simp only[hnP];try omega))) only[Ww,Qk,simprocAttr,hF2.r1,hF2.r5,hF2.g0,hF2.gD,h10]
   refine(his 1 2 _ hw2 hx2).thenW ?_;rintro _ _ hn3 hw3 ⟨rfl,k3,rfl⟩;have hx3:Ext H1 (H2.up k3):=hx2.up hn3;cases hA:Qd3 1 2 m with
   | false=>
    simp only[J7,VT,QdV,J8,Qlh,QdA,Qqm,G5,Qpi,Ky,Qbq,K8,Nat.reduceBEq,bf,bt,Qgz,Qhu,Ls,Lq];refine P3 _ _ _ hw3 hx3 ?_ ?_ ?_ h1 (by rw[hpl,hA,NJ])
    all_goals simp only[Qg,simprocAttr,q1,q2,q5]
   | true=>
    obtain⟨x,y,hxy⟩:=QhZ hA;simp only[J7,VT,QdV,J8,Qlh,QdA,Qqm,G5,Qpi,Ky,Qbq,K8,Nat.reduceBEq,bf,bt,Qgz,QpR,Ls,Lq];refine hsw x y _ _ _ hxy hw3 hx3 ?_ ?_ ?_ (by unfold Jg;rw[h1,hpl,hA,hop,hxy];rfl)
    all_goals simp only[Qg,simprocAttr,q1,q2,q5]
  | false=>
   cases h11:op==11 with
   | true=>
    have hop:(op==10||op==11)=true:=by rw[h11,Bd]
    simp(disch:=(first | omega | (simp only[hnP];try omega))) only[Ww,Qk,simprocAttr,hF2.r1,hF2.r5,hF2.g0,hF2.gD,h10,h11]
    refine(his 1 2 _ hw2 hx2).thenW ?_;rintro _ _ hn3 hw3 ⟨rfl,k3,rfl⟩;have hx3:Ext H1 (H2.up k3):=hx2.up hn3;cases hA:Qd3 1 2 m with
    | false=>
     simp only[J7,VT,QdV,J8,Qlh,QdA,Qqm,G5,Qpi,Ky,Qbq,K8,Nat.reduceBEq,bf,bt,Qgz,Qhu,Ls,Lq];refine P3 _ _ _ hw3 hx3 ?_ ?_ ?_ h1 (by rw[hpl,hA,NJ])
     all_goals simp only[Qg,simprocAttr,q1,q2,q5]
    | true=>
     obtain⟨x,y,hxy⟩:=QhZ hA;simp only[J7,VT,QdV,J8,Qlh,QdA,Qqm,G5,Qpi,Ky,Qbq,K8,Nat.reduceBEq,bf,bt,Qgz,QpR,Ls,Lq];refine hsw x y _ _ _ hxy hw3 hx3 ?_ ?_ ?_ (by unfold Jg;rw[h1,hpl,hA,hop,hxy];rfl)
     all_goals simp only[Qg,simprocAttr,q1,q2,q5]
   | false=>
    simp(disch:=(first | omega | (simp only[hnP];try omega))) only[Ww,Qk,simprocAttr,hF2.r1,hF2.r5,hF2.g0,hF2.gD,h10,h11]
    refine P3 _ _ _ hw2 hx2 ?_ ?_ ?_ h1 (by rw[hpl,h10,h11];rfl)
    all_goals simp only[Qg,simprocAttr,q1,q2,q5]
 have hdb:QqY op m=((op==16)&&Qd3 1 3 m):=rfl;simp only[QGg,K9,Qgy];cases h16:op==16 with
 | false=>
  simp(disch:=(first | omega | (simp only[hnP];try omega))) only[Qk,simprocAttr,r1,r5,g0,gD,h16]
  refine P4 _ _ _ hw1 (.refl _) ?_ ?_ ?_ (by rw[hdb,h16];rfl)
  all_goals simp only[Qg,simprocAttr]
 | true=>
  simp(disch:=(first | omega | (simp only[hnP];try omega))) only[Qk,simprocAttr,r1,r5,g0,gD,h16]
  refine(his 1 3 _ hw1 (.refl _)).thenW ?_;rintro _ _ hn3 hw3 ⟨rfl,k3,rfl⟩;have hx3:Ext H1 (H1.up k3):=(Ext.refl H1).up hn3;cases hA:Qd3 1 3 m with
  | false=>
   simp only[J7,VT,QdV,J8,Qlh,QdA,Qqm,G5,Qpi,Ky,Qbq,K8,Nat.reduceBEq,bf,bt,Qgz,Qhu,Ls,Lq];refine P4 _ _ _ hw3 hx3 ?_ ?_ ?_ (by rw[hdb,hA,NJ])
   all_goals simp only[Qg,simprocAttr]
  | true=>
   obtain⟨x,y,hxy⟩:=QhZ hA;subst hxy;have hF3:=hF0.ext (B:=A) hw1 hx3 rfl rfl rfl;obtain⟨a0,cap,hwv⟩:=QaS hF3.ars;have hars3:=hF3.ars;rw[hwv]at hars3;obtain⟨b,rfl,hbl,⟨e,ro,hgb⟩,d1,d3,htk,hle,hk,hn,ei⟩:=atI (H:=H1.up k3) (H':=H1.up k3) hars3 hw3 (.refl _) (by simp) (i:=0) (a:=x) rfl;obtain⟨b',hbb,hbl',⟨e',ro',hgb'⟩,d1',d3',htk',hle',hk',hn',ei'⟩:=atI (H:=H1.up k3) (H':=H1.up k3) hars3 hw3 (.refl _) (by simp) (i:=1) (a:=y) rfl;cases hbb;have gD3:=hF3.gD;rw[hwv]at gD3;have hrl:Jg op [x,y]=[x,x,y]:=by unfold Jg;rw[hdb,h16,hA];rfl
   have c0:(0:Int)<=0∧(0:Int)<(([x,y]:List Ar).length:Int):=by simp
   have c1:(0:Int)<=1∧(1:Int)<(([x,y]:List Ar).length:Int):=by simp
   have z0:(0:Int).toNat=0:=rfl;have z1:(1:Int).toNat=1:=rfl;simp only[BH,Fx,LP,Lw]at htk htk' hle hle';have hcc:Qr [x,x,y]=x.cells++(x.cells++y.cells):=by simp[Qr]
   have hput:=fun(H2:Qa) (w':Value) (hx2:Ext (H1.up k3) H2) (hw2:H2.Wf) (ha:XJ H2 w' [x,x,y]) (hnn:∀id,Ql6 w' id->(H1.up k3).next<=id) (B:Env) (e1:B 1=A 1) (e2:B 2=A 2) (e5:B 5=A 5)=>Qxi (A:=A) hw3 hF3 hx2 hw2 (by simp) ha hnn e1 e2 e5;generalize ([x,y]:List Ar).length=len at gD3 c0 c1;generalize Qr [x,y]=C at hgb hgb' htk htk' hle hle';have hrx:=hrl;unfold XJ at hput;rw[hcc]at hput;clear hcc hk hk' hn hn' hwv;have hfin:∀ (w':Value) (A2:Env) (H2:Qa),H2.Wf->CnF H op v D w' [x,x,y] A2 H2->Qn prog Ql7 ⟨KD H op l,X2⟩ (KD H op l) A2 H2:=λw' A2 H2 a b=>hend w' [x,x,y] A2 H2 a b (by rw[hm,hrl]);have hwf3:=hw3;have hD3:D<k3:=by have:=hw3.lt gD3;exact this
   clear hm hrl hrx hF0 hF3 hend hsw hsw2 his hno P3 P4 hars hars3 hA hdb;obtain⟨pk,⟨prc,prn⟩,⟨⟨pbc,pbn⟩,⟨pic,pin⟩,psc,pd,psz⟩,pn⟩:=x;obtain⟨qk,⟨qrc,qrn⟩,⟨⟨qbc,qbn⟩,⟨qic,qin⟩,qsc,qd,qsz⟩,qn⟩:=y;simp only[Ar.cells,Nm,LH]at htk htk' hput;simp(disch:=(first | omega | (simp only[hnP];try omega))) only[Z0,sxA,sxB,Nat.reduceBEq,Nat.reduceEqDiff,reduceCtorEq,mxD,mxB,Nat.reduceAdd,reduceIte,Nat.reduceLeDiff,splice,r5,gD3,c0,c1,z0,z1,hgb,htk,htk',hle,hle',LP]
   rw[Lc (by decide)];simp(disch:=(first | omega | (simp only[hnP];try omega))) only[Qk,simprocAttr,r5,gD3]
   refine hfin (.slice (some ⟨k3,0,none⟩) 3 3) _ _ ((hwf3.push _).set (b0:=.cells [.int .i64 op,.slice (some ⟨b,0,none⟩) len cap] Qd false) (by rw[Qi,Le (by rw[Wm];omega)];exact gD3) _) (hput _ _ ((Ext.refl _).push _) (hwf3.push _) ⟨_,_,rfl,λ_=>⟨k3,Qe,false,rfl,?_⟩⟩ (λid ⟨_,_,_,h⟩=>by cases h;exact Lb _) _ ?_ ?_ ?_)
   ·rw[Qi,Lc (by rw[Wm])]
   all_goals simp only[Qg,simprocAttr]
end
def Qyp:PC:=(.ops [Ow 53 (.fldA 1 (t 5)),Ow 54 (.ld false 1 (t 53)),Ow 55 (.ld true 11 (t 7)),Ow 56 (.bslice Qe 11 1 [.int .i64 0,.int .i64 0,.int .i64 0,.int .i64 0,.int .i64 0,.int .i64 0,.int .i64 0,.int .i64 0,.int .i64 0,.int .i64 0,.int .i64 0] [(0,(t 55))]),Ow 57 (.app Qe 11 88 (t 54) (t 56)),Ow 58 (.fldA 1 (t 5)),Ov (.st 1 (t 58) (t 57))])
theorem QGh:QaF=(.seq (.block 1 (.seq (.ops [Ow 28 (.fldA 1 (t 1)),Ow 29 (.ld false 1 (t 28)),Om 30 (t 6),Ow 31 (.idxS 11 (t 29) (t 30)),Ow 32 (.ld true 11 (t 31)),Ow 33 (.call Zk [(t 32)]),Om 27 (t 33),Ow 34 (.ext (t 27) 0),Ow 35 (.ext (t 27) 1),Ow 7 (.alloc Qe [.int .i64 0,.int .i64 0,.int .i64 0,.int .i64 0,.int .i64 0,.int .i64 0,.int .i64 0,.int .i64 0,.int .i64 0,.int .i64 0,.int .i64 0]),Ov (.st 11 (t 7) (t 34)),Om 8 (t 35)]) (.seq (.seq (.ops [Ow 36 (.fldA 0 (t 7)),Ow 37 (.ld false 1 (t 36)),Ow 38 (.bin .eql (t 37) (Ci 3))]) (.cond (t 38) Z2 .skip)) Qyp))) (.ops [Om 25 (t 6),Ow 26 (.bin .add (t 25) (Ci 1)),Om 6 (t 26)])):=rfl
structure CnL (HC:Qa) (D:Nat) (op:Int) (H:Qa) (w:Value) (d:List Ar) (A:Env) (H':Qa):Prop where
 wf:H'.Wf
 x:Ext HC H'
 r1:A 1=.pointer (some ⟨H.next,0,none⟩)
 r2:A 2=.pointer (some ⟨H.next+1,0,none⟩)
 r5:A 5=.pointer (some ⟨D,0,none⟩)
 gD:H'.get D=some (.cells [.int .i64 op,w] Qd false)
 gs:Gs 11 Qe HC H' w d.length (Qr d)
 ap:¬Ql6 w D
theorem CnL.ext {HC:Qa} {D:Nat} {op:Int} {H:Qa} {w:Value} {d:List Ar} {A B:Env} {H1 H2:Qa} (h:CnL HC D op H w d A H1) (hx:Ext H1 H2) (hw2:H2.Wf) (e1:B 1=A 1) (e2:B 2=A 2) (e5:B 5=A 5):CnL HC D op H w d B H2:=by
 have hn:=hx.next;have hn0:=h.x.next;refine⟨hw2,⟨by omega,λid hid=>by rw[hx.get id (by omega)];exact h.x.get id hid⟩,e1.trans h.r1,e2.trans h.r2,e5.trans h.r5,by rw[hx.get _ (h.wf.lt h.gD)];exact h.gD,h.gs.ext λid hid=>hx.get id ?_,h.ap⟩;exact(h.gs.low h.wf hid).2
theorem Qxj {HC:Qa} {D E:Nat} {op:Int} {H:Qa} {w:Value} {d:List Ar} {A:Env} {H':Qa} {ks:Kp} {k:Env->Qa->Prop} {b:Ar} (hF:CnL HC D op H w d A H') (hD:HC.next<=D) (hd:d.length<=100) (r7:A 7=.pointer (some ⟨E,0,none⟩)) (gE:H'.get E=some (.cells b.cells Qe false))
  (hk:∀ (B:Env) (w':Value) (H2:Qa),CnL HC D op H w' (d++[b]) B H2->B 6=A 6->k B H2):Qn prog Qyp ks k A H':=by
 obtain⟨hw,hx,r1,r2,r5,gD,hgs,hap⟩:=hF;have hDl:=hw.lt gD;have h11:b.cells.length=11:=rfl;have htk:List.take 11 b.cells=b.cells:=rfl;have hbf:QuN 11 [.int .i64 0,.int .i64 0,.int .i64 0,.int .i64 0,.int .i64 0,.int .i64 0,.int .i64 0,.int .i64 0,.int .i64 0,.int .i64 0,.int .i64 0] [(0,.agg b.cells.toArray)]=some b.cells:=rfl;have hone:(b.cells.all λv=>v.oneCell')=true:=rfl;have hone2:(b.cells.all (·.oneCell'))=true:=rfl;have hcs:Qr [b]=b.cells:=by simp[Qr]
 generalize hbc:b.cells=bc at *;have hle:0+11<=bc.length:=by omega
 have hle2:11<=bc.length:=by omega
 simp only[Qyp,Qst,VT,J7,J8,K8,Qht,QpS,QEL,Qsu,QAY,Qx3,NZ,Bq,QAT,Qpi,Ky,Qbq,Nat.reduceBEq,bf,bt,r5,r7,Qli,Qx1,gD,gE,Ls,Lq,hbf,QmZ,htk,QuO,Qx2,LP,N9,Bg,Bp,Lw,hle,hle2];have hg1:(H'.push (.cells bc Qe false)).get H'.next=some (.cells bc Qe false):=by rw[Qi,Lc rfl]
 have hx1:Ext HC (H'.push (.cells bc Qe false)):=hx.push _;have hw1:=hw.push (.cells bc Qe false);have hgs1:Gs 11 Qe HC (H'.push (.cells bc Qe false)) w d.length (Qr d):=hgs.ext λid hid=>by
  have:=(hgs.low hw hid).2;rw[Qi,Le (by omega)]
 have gD1:(H'.push (.cells bc Qe false)).get D=some (.cells [.int .i64 op,w] Qd false):=by rw[Qi,Le (by omega)];exact gD
 have hDl1:D<(H'.push (.cells bc Qe false)).next:=by rw[Ql];omega
 generalize (H'.push (.cells bc Qe false))=H1 at *;refine⟨w,rfl,trivial,?_⟩;refine QGe hgs1 hx1 hw1 (QB7 (c:=bc) hg1 (by decide) (by omega)) hone2 (Lb _) (by omega) (by omega) (by omega) ?_;intro v' H2 hgs2 hx2 hw2 hkeep hn2 hnew;have gD2:H2.get D=some (.cells [.int .i64 op,w] Qd false):=by rw[hkeep D hDl1 hap];exact gD1
 have hapD:¬Ql6 v' D:=λhi=>by have:=hnew D hi;omega
 have hone3:(([v']:List Value).all λx=>x.oneCell')=true:=by
  rcases hgs2 with⟨rfl,_⟩ | ⟨b',rfl,_⟩
  ·rfl
  ·rfl
 have hcells:v'.cells.toList=[v']:=by
  rcases hgs2 with⟨rfl,_⟩ | ⟨b',rfl,_⟩
  ·rfl
  ·rfl
 simp only[VT,QdV,J7,J8,K8,Qht,QpS,Qx3,Qpi,Ky,Qbq,Nat.reduceBEq,bf,bt,r5,Qli,Ls,Lq,Qqp,Qml,gD2,hcells,LP];refine⟨⟨rfl,by simp,hone3⟩,?_⟩;have hsp:splice [Value.int .i64 op,w] 1 [v']=[.int .i64 op,v']:=rfl;rw[hsp];refine hk _ v' _ ⟨hw2.set gD2 _,hx2.set hD _,?_,?_,?_,by rw[Qm,Lc rfl],?_,hapD⟩ ?_
 ·simp only[Qg,simprocAttr,r1]
 ·simp only[Qg,simprocAttr,r2]
 ·simp only[Qg,simprocAttr,r5]
 ·rw[Lh,Qg3,hcs];refine hgs2.ext λid hid=>?_;have:id≠D:=λh=>hapD (by rw[<- h];exact hid);rw[Qm,Le this]
 ·simp only[Qg,simprocAttr]
section
variable {H:Qa} {op:Int} {l:List Ar} {a0:Option Addr} {cap:Nat}
theorem QD3 (hw:H.Wf) (hv:XJ H (.slice a0 l.length cap) l) (hl:l.length<=4) (hI:∀a∈l,I64 a.n) (hc0:XT op l=0) {HC:Qa} {D:Nat} (hHC:HC.Wf) (hxC:Ext H HC) (hD:HC.next=D) (hD2:H.next+2<=D)
  (c0:HC.get H.next=some (.cells [.int .i64 op,.slice a0 l.length cap] Qd false)) (c1:HC.get (H.next+1)=some (.cells [.int .i64 0,.slice none 0 0] Qd false)) (A:Env) (H1:Qa) (hF:CnL HC D op H (.slice none 0 0) [] A H1) (r6:A 6=.int .i64 0):
  Qn prog (.seq (.block 0 (.loop Z3)) Wx) ⟨KD H op l,X2⟩ (KD H op l) A H1:=by
 have hend:∀ (w:Value) (A:Env) (H':Qa),CnL HC D op H w (l.map (cF (WZ op l))) A H'->Qn prog Wx ⟨KD H op l,X2⟩ (KD H op l) A H':=by
  intro w A H' ⟨hw',hx,r1,r2,r5,gD,hgs,hap⟩;have hn:=hx.next;refine QB9 (v:=.slice a0 l.length cap) (w:=w) (D:=D) (m:=l.map (cF (WZ op l))) hw' ⟨⟨by have:=hxC.next;omega,λid hid=>by rw[hx.get id (by have:=hxC.next;omega)];exact hxC.get id hid⟩,hD2,r1,r2,r5,by rw[hx.get _ (by omega)];exact c0,by rw[hx.get _ (by omega)];exact c1,gD,QHt hgs (by decide),λid hid=>?_,λa n c e=>?_⟩ (by rw[Nn];exact hl) (Qz1 hc0)
  ·have:=(hgs.low hw' hid).1;rcases Nq D id with h | h
   ·exact h
   ·exact absurd (by rw[show D=id by omega];exact hid) hap
  ·rcases hgs with⟨h,_⟩ | ⟨b,h,h2,h3,_⟩
   ·rw[h]at e;cases e
   ·rw[h]at e;cases e;have:=hxC.next;exact⟨by show H.next<=b;omega,by show b<H'.next;exact hw'.lt h3⟩
 simp only[K9,Qgy];refine QE (λm A' H'=>∃ (i:Nat) (w:Value),i<=l.length∧m=l.length - i∧CnL HC D op H w ((l.take i).map (cF (WZ op l))) A' H'∧A' 6=.int .i64 i) l.length ?_ ?_
 ·exact⟨0,_,L7 _,by omega,hF,r6⟩
 ·rintro m A' H' ⟨i,w,hi,rfl,hL,r6⟩;have hn:=hL.x.next;have g0:H'.get H.next=some (.cells [.int .i64 op,.slice a0 l.length cap] Qd false):=by rw[hL.x.get _ (by omega)];exact c0
  have hxH:Ext H H':=⟨by have:=hxC.next;omega,λid hid=>by rw[hL.x.get id (by have:=hxC.next;omega)];exact hxC.get id hid⟩;simp(disch:=(first | omega | (simp only[hnP];try omega))) only[Z3,Qk,simprocAttr,hL.r1,g0,r6]
  refine Qf (λh2=>?_) (λh2=>?_)
  ·have h2:i<l.length:=by have:=Lg h2;omega
   obtain⟨a,ha⟩:∃a,l[i]? = some a:=⟨_,La h2⟩;obtain⟨b,rfl,hbl,⟨e,ro,hgb⟩,d1,d3,htk,hle,hk,hnn,ei⟩:=atI hv hw hxH (by omega) ha;have han:=hI a (Ln ha);have hdl:((l.take i).map (cF (WZ op l))).length<=100:=by rw[Nn,Sb];omega
   have hstep:∀ (B:Env) (w':Value) (H2:Qa),CnL HC D op H w' ((l.take i).map (cF (WZ op l))++[cF (WZ op l) a]) B H2->B 6=.int .i64 i->Qn prog (.ops [Om 25 (t 6),Ow 26 (.bin .add (t 25) (Ci 1)),Om 6 (t 26)]) ⟨KD H op l,exK 0 (Qn prog Wx ⟨KD H op l,X2⟩ (KD H op l)) X2⟩ (Qx4 (λm A' H'=>∃ (i:Nat) (w:Value),i<=l.length∧m=l.length - i∧CnL HC D op H w ((l.take i).map (cF (WZ op l))) A' H'∧A' 6=.int .i64 i) (l.length - i)) B H2:=by
    intro B w' H2 hL2 q6;simp only[Qzq,simprocAttr,q6,ei];refine⟨l.length - (i+1),by omega,i+1,w',by omega,rfl,?_,?_⟩
    ·rw[Qoa l i a ha,N6];exact⟨hL2.wf,hL2.x,by simp only[Qg,simprocAttr];exact hL2.r1,by simp only[Qg,simprocAttr];exact hL2.r2,by simp only[Qg,simprocAttr];exact hL2.r5,hL2.gD,hL2.gs,hL2.ap⟩
    ·simp only[Qg,simprocAttr]
   simp(disch:=(first | omega | (simp only[hnP];try omega))) only[QGh,Qk,simprocAttr,hL.r1,g0,r6,d1,d3,hgb,htk,hle]
   refine(Qka a _).thenW ?_;rintro _ _ hn2 hw2 ⟨rfl,k,rfl⟩;have hcn:=QsC a han;have hcf:cF (WZ op l) a=if((WP a).1.k==3)=true then {(WP a).1 with n:=(JS (WP a).1.n (WZ op l).1 (WZ op l).2).1} else(WP a).1:=rfl
   rw[hcf]at hstep;clear hcf;generalize (WP a).1=ca at *;generalize (WP a).2=er at *;have hkH:H'.next<=k:=hn2;have hLk:∀ (B:Env) (H2:Qa),Ext (H'.up k) H2->H2.Wf->B 1=A' 1->B 2=A' 2->B 5=A' 5->CnL HC D op H w ((l.take i).map (cF (WZ op l))) B H2:=λB H2 hx2 hw2 e1 e2 e5=>hL.ext ⟨by have:=hx2.next;rw[Wm]at this;omega,λid hid=>by rw[hx2.get id (by rw[Wm];omega),W3]⟩ hw2 e1 e2 e5;have g0k:∀H2:Qa,Ext (H'.up k) H2->H2.get H.next=some (.cells [.int .i64 op,.slice (some ⟨b,0,none⟩) l.length cap] Qd false):=λH2 hx2=>by
    rw[hx2.get _ (by rw[Wm];omega),W3];exact g0
   have hrest:∀ (ks:Kp) (b:Ar) (B:Env) (H2:Qa) (nx:Env->Qa->Prop),(∀ (B:Env) (w':Value) (H2:Qa),CnL HC D op H w' ((l.take i).map (cF (WZ op l))++[b]) B H2->B 6=.int .i64 i->nx B H2)->Ext (H'.up k) H2->H2.Wf->B 1=A' 1->B 2=A' 2->B 5=A' 5->B 6=.int .i64 i->B 7=.pointer (some ⟨k,0,none⟩)->H2.get k=some (.cells b.cells Qe false)->Qn prog Qyp ks nx B H2:=by
    intro ks b B H2 nx hnx hx2 hw2 e1 e2 e5 e6 e7 gk;refine Qxj (hLk B H2 hx2 hw2 e1 e2 e5) (by omega) hdl e7 gk ?_;intro B2 w' H3 hL3 q6;exact hnx B2 w' H3 hL3 (q6.trans e6)
   obtain⟨ck,⟨crc,crn⟩,⟨⟨cbc,cbn⟩,⟨cic,cin⟩,csc,cd,csz⟩,cn⟩:=ca
   try simp only at hcn hstep
   simp(disch:=(first | omega | (simp only[hnP];try omega))) only[Ar.cells,Qk,simprocAttr]
   have hxk:∀C C',Ext (H'.up k) (((H'.up k).push (.cells C Qe false)).set k (.cells C' Qe false)):=λC C'=>((Ext.refl _).push _).set (by rw[Wm];exact Lb _) _;have hwk:∀C C',(((H'.up k).push (.cells C Qe false)).set k (.cells C' Qe false)).Wf:=λC C'=>(hw2.push _).set (b0:=.cells C Qe false) (by rw[Qi,Lc (by rw[Wm])]) _;have gkk:∀C C',(((H'.up k).push (.cells C Qe false)).set k (.cells C' Qe false)).get k=some (.cells C' Qe false):=λC C'=>by rw[Qm,Lc rfl]
   generalize hH2:((H'.up k).push _).set k _=H2;have hx2:Ext (H'.up k) H2:=by rw[<- hH2];exact hxk _ _
   have hw3:H2.Wf:=by rw[<- hH2];exact hwk _ _
   have gk:H2.get k=some (.cells [.int .i64 ck,.int .i64 crc,.int .i64 crn,.int .i64 cbc,.int .i64 cbn,.int .i64 cic,.int .i64 cin,.int .i64 csc,.int .i64 cd,.int .i64 csz,.int .i64 cn] Qe false):=by rw[<- hH2];exact gkk _ _
   clear hH2 hxk hwk gkk;cases h3:ck==3 with
   | false=>
    rw[h3]at hstep;simp only[K9,G5,Qql,Qpi,Ky,Qbq,Nat.reduceBEq,bf,bt,Qgz,Qhu,Ls,Lq];refine hrest _ ⟨ck,⟨crc,crn⟩,⟨⟨cbc,cbn⟩,⟨cic,cin⟩,csc,cd,csz⟩,cn⟩ _ _ _ ?_ hx2 hw3 ?_ ?_ ?_ ?_ ?_ gk
    ·intro B w' H3 hL3 q6;exact hstep B w' H3 (by simpa using hL3) q6
    all_goals simp only[Qg,simprocAttr,r6]
   | true=>
    rw[h3]at hstep;have hnk:=hx2.next;rw[Wm]at hnk;simp(disch:=(first | omega | (simp only[hnP];try omega))) only[Z2,Qk,simprocAttr,hL.r1,g0k H2 hx2]
    refine(Qnx op _ l H2 (hv.ext hw ⟨by omega,λid hid=>by rw[hx2.get id (by rw[Wm];omega),W3];exact hxH.get id hid⟩) (by omega)).thenW ?_;rintro _ _ hn4 hw4 ⟨rfl,k4,rfl⟩;have hkl:=hw3.lt gk;simp(disch:=(first | omega | (simp only[hnP];try omega))) only[Qk,simprocAttr,gk]
    refine(Qpb cn _ _ hcn _).thenW ?_;rintro _ _ hn5 hw5 ⟨rfl,rfl⟩;simp only[J7,VT,QdV,J8,QAP,QAQ,QAR,QpS,Qli,Qx3,Qqp,Qml,W3,gk,Qqm,Qpi,Ky,Qbq,K8,Qht,Nat.reduceBEq,bf,bt,Ls,Lq,LP,Qmp];refine⟨⟨rfl,by simp,rfl⟩,?_⟩;refine hrest _ ⟨ck,⟨crc,crn⟩,⟨⟨cbc,cbn⟩,⟨cic,cin⟩,csc,cd,csz⟩,(JS cn (WZ op l).1 (WZ op l).2).1⟩ _ _ _ ?_ ((hx2.up hn4).set (by rw[Wm];exact Lb _) _) (hw5.set (by rw[W3];exact gk) _) ?_ ?_ ?_ ?_ ?_ ?_
    ·intro B w' H3 hL3 q6;exact hstep B w' H3 (by simpa using hL3) q6
    all_goals (try simp only[Qg,simprocAttr,r6])
    rw[Qm,Lc rfl];rfl
  ·have h2:i=l.length:=by have:=Ll h2;omega
   subst h2;rw[Nr]at hL;simp only[Qzq,simprocAttr];refine hend w _ _ ⟨hL.wf,hL.x,?_,?_,?_,hL.gD,hL.gs,hL.ap⟩
   ·simp only[Qg,simprocAttr];exact hL.r1
   ·simp only[Qg,simprocAttr];exact hL.r2
   ·simp only[Qg,simprocAttr];exact hL.r5
end
theorem Qr9 (op:Int) (v:Value) (l:List Ar) (H:Qa) (hv:XJ H v l) (hl:l.length<=1000) (hI:∀a∈l,I64 a.n):Qh prog Gj [.agg #[.int .i64 op,v]] H (QHu op l H):=by
 refine QiB λhw=>?_;obtain⟨a0,cap,rfl⟩:=QaS hv;simp(disch:=(first | omega | (simp only[hnP];try omega))) only[QcC,Qk,simprocAttr]
 generalize hH1:(H.push _).push _=H1;have hx1:Ext H H1:=by rw[<- hH1];exact((Ext.refl H).push _).push _
 have hn1:H1.next=H.next+2:=by rw[<- hH1];rfl
 have g0:H1.get H.next=some (.cells [.int .i64 op,.slice a0 l.length cap] Qd false):=by rw[<- hH1,Qi,Le (by rw[Ql];omega),Qi,Lc rfl]
 have g1:H1.get (H.next+1)=some (.cells [.int .i64 0,.slice none 0 0] Qd false):=by rw[<- hH1,Qi,Lc (by rw[Ql])]
 have hw1:H1.Wf:=by rw[<- hH1];exact(hw.push _).push _
 clear hH1;refine(Qr8 op _ l H1 (hv.ext hw hx1) hl hI).thenW ?_;rintro _ _ hn2 hw2 ⟨rfl,k,rfl⟩;have hk:H.next+2<=k:=by rw[<- hn1];exact hn2
 cases hc:XT op l==0 with
 | false=>
  simp(disch:=(first | omega | (simp only[hnP];try omega))) only[Qk,simprocAttr,hc,g1,QbP]
  have hcan:=Qz2 hc;have hx2:Ext H ((H1.up k).set (H.next+1) (.cells [.int .i64 0,.slice none 0 0] Qd false)):=(hx1.up hn2).set (by omega) _;refine .mk hx2.next ⟨hx2,_,by rw[hcan],?_,λa n c e=>by cases e⟩;rw[hcan];exact⟨none,0,rfl,λh=>absurd h (NX 0)⟩
 | true=>
  have hc0:XT op l=0:=L0.1 hc;simp(disch:=(first | omega | (simp only[hnP];try omega))) only[QaG,Qk,simprocAttr,hc,g0]
  have hl4:l.length<=4:=QiX hc;have hL:=λA q1 q2 q5 q6=>QD3 (op:=op) hw hv hl4 hI hc0 (HC:=H1.up k) (D:=k) hw2 (hx1.up hn2) rfl hk (by rw[W3];exact g0) (by rw[W3];exact g1) A (((H1.up k).push (.cells [.int .i64 0,.slice none 0 0] Qd false)).set k (.cells [.int .i64 op,.slice none 0 0] Qd false)) ⟨(hw2.push _).set (b0:=.cells [.int .i64 0,.slice none 0 0] Qd false) (by rw[Qi,Lc (by rw[Wm])]) _,((Ext.refl _).push _).set (by rw[Wm];exact Lb _) _,q1,q2,q5,by rw[Qm,Lc rfl],.inl ⟨rfl,rfl,rfl⟩,fun⟨_,_,_,h⟩=>by cases h⟩ q6;simp only[K9,Qgy]at hL;refine hL _ ?_ ?_ ?_ ?_
  all_goals simp only[Qg,simprocAttr]
end Go.Proofs.YtfofbicfabokbaaGreatDoor.code
