/- The prefixes, read one behind the other, are the bytes ahead of the opcode. -/
import Derived.Test.YtmedjaegakinnaaGreatDoorLibR
import Derived.Test.YtmedjaegakinnaaGreatDoorLibN
set_option maxHeartbeats 4000000
set_option linter.defProp false
set_option linter.unusedVariables false
set_option linter.unusedSimpArgs false
set_option maxRecDepth 100000
namespace Go.Proofs.YtmedjaegakinnaaGreatDoor.code
open Go.Ab
def Q4 (left:Int):List UInt8:=(if hit left 0=true then[102] else[])++((if hit left 1=true then[242] else[])++(if hit left 2=true then[243] else[]))
def QmK (bs:List Int)(b:UInt8)(n:Int)(q:(b.toNat:Int)=n)(l:List UInt8)(c:Rr):JW bs (b::l) c=if((Wd bs c n).1==0)=true then JW bs l (Wd bs c n).2 else Wd bs c n:=by
 subst q;rfl
def Qlt (bs:List Int):∀ (n:Nat) (left:Int) (c:Rr),cnt left<=n->QjM bs n left c=JW bs (Q4 left) c
 | 0,left,c,h=>by
  have ac:hit left 0=false:=by unfold cnt at h;cases e:hit left 0<;>simp[e]at h ⊢
  have ad:hit left 1=false:=by unfold cnt at h;cases e:hit left 1<;>simp[e]at h ⊢
  have ae:hit left 2=false:=by unfold cnt at h;cases e:hit left 2<;>simp[e]at h ⊢
  unfold Q4;rw[ac,ad,ae];rfl
 | n+1,left,c,h=>by
  cases e0:hit left 0 with
  | true=>
   have ab:=QoF left 0 (by omega) e0;have q:Q4 left=102::Q4 (Qlm left (XG 0)):=by
    unfold Q4;rw[KE left 0 0 (by omega) (by omega),KE left 0 1 (by omega) (by omega),KE left 0 2 (by omega) (by omega),e0];simp
   rw[Qln bs n left c 0 (by omega) (λj aa=>by omega) e0,q,QmK bs 102 (Jz 0) rfl,Qlt bs n _ _ (by omega)]
  | false=>
   cases e1:hit left 1 with
   | true=>
    have ab:=QoF left 1 (by omega) e1;have q:Q4 left=242::Q4 (Qlm left (XG 1)):=by
     unfold Q4;rw[KE left 1 0 (by omega) (by omega),KE left 1 1 (by omega) (by omega),KE left 1 2 (by omega) (by omega),e0,e1];simp[e0]
    rw[Qln bs n left c 1 (by omega) (λj aa=>by rw[show j=0 by omega];exact e0) e1,q,QmK bs 242 (Jz 1) rfl,Qlt bs n _ _ (by omega)]
   | false=>
    cases e2:hit left 2 with
    | true=>
     have ab:=QoF left 2 (by omega) e2;have q:Q4 left=243::Q4 (Qlm left (XG 2)):=by
      unfold Q4;rw[KE left 2 0 (by omega) (by omega),KE left 2 1 (by omega) (by omega),KE left 2 2 (by omega) (by omega),e0,e1,e2];simp[e0]
     rw[Qln bs n left c 2 (by omega) (λj aa=>by rcases(show j=0∨j=1 by omega) with rfl | rfl<;>assumption) e2,q,QmK bs 243 (Jz 2) rfl,Qlt bs n _ _ (by omega)]
    | false=>
     rw[Qso bs (n+1) left c (λj aa=>by rcases(show j=0∨j=1∨j=2 by omega) with rfl | rfl | rfl<;>assumption)];unfold Q4;rw[e0,e1,e2];rfl
def Qhh (bs:List Int)(c:Rr):Kt bs c=Qhe bs (JW bs (Q4 c.x.f.pre) c):=by
 unfold Kt;rw[Qlt bs 4 _ _ (N8 (QCE _) (by omega))]
def QaL {bs:List Int}{c:Rr}{n:Int}(ac:bs.length<=1000000)(h:InB bs c.p)(q:(Wd bs c n).1=0):c.p<bs.length∧QQ bs c.p=n∧(Wd bs c n).2={c with p:=c.p+1}:=by
 unfold InB at h;have e:Wd bs c n=((Qb6 bs c.p n).1,{c with p:=(Qb6 bs c.p n).2}):=rfl;rw[e]at q ⊢;simp only at q;unfold Qb6 at q ⊢
 by_cases ab:(bs.length:Int)<=c.p;·rw[Lc ab]at q;cases q
 rw[Le ab]at q ⊢
 by_cases aa:(IntKind.i64.wrap (bs.getD c.p.toNat 0)==n)=false;·rw[Lc aa]at q;cases q
 rw[Le aa];refine⟨by omega,?_,?_⟩;·simpa[QQ] using aa
 simp only;rw[w64 (by unfold I64;omega)]
def QhK {bs:List Int}(aa:bs.length<=1000000):∀ (l:List UInt8) (c:Rr),InB bs c.p->(JW bs l c).1=0->(JW bs l c).2={c with p:=c.p+l.length}∧c.p+l.length<=bs.length∧∀j (h:j<l.length),QQ bs (c.p+j)=l[j].toNat
 | [],c,h,h0=>⟨by show c=_;simp,by simp;exact h.2,λj q=>absurd q (Nat.not_lt_zero _)⟩
 | n::l,c,h,h0=>by
  have e:JW bs (n::l) c=if((Wd bs c n.toNat).1==0)=true then JW bs l (Wd bs c n.toNat).2 else Wd bs c n.toNat:=rfl
  rw[e]at h0 ⊢
  by_cases z:((Wd bs c n.toNat).1==0)=true
  ·rw[Lc z]at h0 ⊢;obtain⟨ad,ab,ac⟩:=QaL aa h (by simpa using z);rw[ac]at h0 ⊢;have h':InB bs (c.p+1):=by unfold InB at *;omega
   obtain⟨k1,k2,k3⟩:=QhK aa l {c with p:=c.p+1} h' h0;refine⟨?_,?_,?_⟩;·rw[k1];simp only[Lo];congr 1;omega
   ·simp only[Lo]at k2 ⊢;omega
   intro j q;cases j with
   | zero=>simpa using ab
   | succ j=>
    have:=k3 j (by simpa using q);simp only at this;rw[show c.p+((j+1:Nat):Int)=c.p+1+j by omega,this];rfl
  rw[Le z]at h0;exfalso;rw[h0]at z;exact z rfl
def Jm (f:Fm):Qo f=Q4 f.pre++WG f.map:=by
 have e:∀i,hit f.pre i=Qlh f.pre (XG i):=λ_=>rfl;unfold Qo Q4;rw[e 0,e 1,e 2];show(bif Qlh f.pre 1 then[102] else[])++_=((if Qlh f.pre 1=true then[102] else[])++((if Qlh f.pre 2=true then[242] else[])++(if Qlh f.pre 4=true then[243] else[])))++_;cases Qlh f.pre 1<;>cases Qlh f.pre 2<;>cases Qlh f.pre 4<;>simp
def QiQ (bs:List Int)(p:Int):Bool:=decide (64<=QQ bs p)&&decide (QQ bs p<=79)
def QoH {bs:List Int}{c:Rr}(ac:bs.length<=1000000)(h:InB bs c.p)(q:(X5 bs c).1=0):c.p<bs.length∧(X5 bs c).2.x=c.x∧(X5 bs c).2.p=c.p+(if QiQ bs c.p=true then 1 else 0):=by
 unfold InB at h;have e:X5 bs c=if(bs.length:Int)<=c.p then(9,c)
  else if(decide (64<=QQ bs c.p)&&decide (QQ bs c.p<=79))=true then Ya (Qtw c (QQ bs c.p - 64).toNat) (YF (QQ bs c.p - 64).toNat 4 3) else Ya c 0:=rfl
 rw[e]at q ⊢
 by_cases ab:(bs.length:Int)<=c.p;·rw[Lc ab]at q;cases q
 rw[Le ab]at q ⊢;refine⟨by omega,?_⟩;unfold QiQ
 by_cases aa:(decide (64<=QQ bs c.p)&&decide (QQ bs c.p<=79))=true;·rw[Lc aa,Lc aa,QbN];refine⟨rfl,?_⟩;show IntKind.i64.wrap (c.p+1)=c.p+1;rw[w64 (by unfold I64;omega)]
 rw[Le aa,Le aa,QbN];exact⟨rfl,by omega⟩
def QtE {bs:List Int}{c:Rr}(ad:bs.length<=1000000)(h:InB bs c.p)(aa:(Kt bs c).1=0):
  (∀j (ag:j<(Q4 c.x.f.pre).length),QQ bs (c.p+j)=(Q4 c.x.f.pre)[j].toNat)∧c.p+(Q4 c.x.f.pre).length<bs.length∧
  ∃q:Int,q=c.p+(Q4 c.x.f.pre).length+(if QiQ bs (c.p+(Q4 c.x.f.pre).length)=true then 1 else 0)∧
   (∀j (ag:j<(WG c.x.f.map).length),QQ bs (q+j)=(WG c.x.f.map)[j].toNat)∧q+(WG c.x.f.map).length<=bs.length∧(Kt bs c).2.p=q+(WG c.x.f.map).length∧(Kt bs c).2.x=c.x:=by
 rw[Qhh]at aa ⊢;unfold Qhe at aa ⊢;generalize Q4 c.x.f.pre=pl at *
 by_cases ab:((JW bs pl c).1==0)=true
 ·rw[Lc ab]at aa ⊢;obtain⟨a1,a2,a3⟩:=QhK ad pl c h (by simpa using ab);rw[a1]at aa ⊢;have ae:InB bs (c.p+pl.length):=by unfold InB at *;omega
  unfold Qd4 at aa ⊢
  by_cases ac:((X5 bs {c with p:=c.p+pl.length}).1==0)=true
  ·rw[Lc ac]at aa ⊢;obtain⟨b1,b2,b3⟩:=QoH (c:={c with p:=c.p+pl.length}) ad ae (by simpa using ac);have ah:=Qp5 (bs:=bs) (c:={c with p:=c.p+pl.length}) ae ad;generalize X5 bs {c with p:=c.p+pl.length}=x at *;simp only at b1 b2 b3;rw[b2]at aa ⊢;obtain⟨d1,d2,d3⟩:=QhK ad _ x.2 ah aa;refine⟨a3,b1,x.2.p,b3,d3,d2,?_,?_⟩;·rw[d1]
   rw[d1];exact b2
  rw[Le ac]at aa;rw[aa]at ac;exact absurd rfl ac
 rw[Le ab]at aa;rw[aa]at ab;exact absurd rfl ab
def Qsr (n:Nat):Bool:=(IntKind.i64.wrap (IntKind.u8.wrap (BitVec.ofInt IntKind.u8.bits (n:Int) &&& BitVec.ofInt IntKind.u8.bits 7).toNat)==((n % 8:Nat):Int))&&(QFp (n:Int)==((n - n % 8:Nat):Int))&&(IntKind.i64.wrap (n:Int)==(n:Int))&&(Xa (n:Int)==(decide (64<=n)&&decide (n<=79)))
def QA5:(List.range 256).all Qsr=true:=by kernel_rfl
def Qlu {n:Nat}(h:n<256):Qsr n=true:=Li.1 QA5 n (LU.2 h)
def WO (bs:List Int):Prop:=∀b∈bs,0<=b∧b<=255
def WO.at {bs:List Int}(ae:WO bs){p:Int}(ag:0<=p)(h:p<bs.length):∃n:Nat,n<256∧bs[p.toNat]? = some (n:Int)∧bs.getD p.toNat 0=n∧QQ bs p=n:=by
 have q:p.toNat<bs.length:=by omega
 obtain⟨ah,ai⟩:=ae _ (Nb q);obtain⟨n,ad⟩:∃n:Nat,bs[p.toNat]=(n:Int):=⟨bs[p.toNat].toNat,by omega⟩;have ac:n<256:=by omega
 have ab:bs.getD p.toNat 0=n:=by rw[LX,La q,ad];rfl
 have aa:=Qlu ac;unfold Qsr at aa;simp only[Lm,L0]at aa;exact⟨n,ac,by rw[La q,ad],ab,by unfold QQ;rw[ab];exact aa.1.2⟩
def Ga (f:Fm)(c:Int):Bool:=bif decide (0<=Qh f.slots 4) then QFp c==f.code else IntKind.i64.wrap c==f.code
def Qx7 {bs:List Int}{c:Rr}(ac:bs.length<=1000000)(ae:WO bs)(ag:I64 c.x.f.code)(h:InB bs c.p)(q:(opF bs c).1=0):c.p<bs.length∧Ga c.x.f (bs.getD c.p.toNat 0)=true:=by
 have e:opF bs c=if(decide (Qh c.x.f.slots 4<0))=true then Wd bs c c.x.f.code
  else if(bs.length:Int)<=c.p then(9,c) else Wd bs {c with low:=ZA bs c.p} (IntKind.i64.wrap (c.x.f.code+ZA bs c.p)):=rfl
 rw[e]at q;unfold Ga;generalize Qh c.x.f.slots 4=i4 at *
 by_cases z:decide (i4<0)=true
 ·rw[Lc z]at q;obtain⟨a1,a2,_⟩:=QaL ac h q;have ab:decide (0<=i4)=false:=by simp at z ⊢;omega
  refine⟨a1,?_⟩;rw[ab,Ls];simpa[QQ] using a2
 rw[Le z]at q;have ab:decide (0<=i4)=true:=by simp at z ⊢;omega
 by_cases g:(bs.length:Int)<=c.p;·rw[Lc g]at q;cases q
 rw[Le g]at q;obtain⟨a1,a2,_⟩:=QaL (c:={c with low:=ZA bs c.p}) ac h q;obtain⟨n,ai,ak,ad,aj⟩:=ae.at h.1 (by omega);have aa:=Qlu ai;unfold Qsr at aa;simp only[Lm,L0]at aa;have ah:ZA bs c.p=((n % 8:Nat):Int):=by unfold ZA;rw[ad];exact aa.1.1.1
 simp only at a2;rw[aj,ah]at a2;refine⟨a1,?_⟩;rw[ab,Lq,ad,aa.1.1.2,L0];rw[NU]at a2;unfold I64 at ag;omega
def stp (f:Fm)(c:Int):List Int:=(Qo f).map (λb=>(b.toNat:Int))++[c]
def ZD (f:Fm)(l:List UInt8):Bool:=l.take (Qo f).length==Qo f&&decide ((Qo f).length<l.length)&&Ga f ((l.getD (Qo f).length 0).toNat:Int)
section
variable {L:List Fm} {f:Fm} {c:Int} {leads:List (List UInt8)}
def QcT:(stp f c).length=(Qo f).length+1:=by unfold stp;simp
def QA6 (aa:f.vex=false)(q:Ga f c=true){j:Nat}(ab:j<=(Qo f).length):Wp f j ((stp f c).getD j 0)=true:=by
 unfold Wp stp;rw[aa,Ls]
 by_cases h:j<(Qo f).length;·rw[La h,LX,LY (by simpa using h),LD,La h];simp
 obtain rfl:j=(Qo f).length:=by omega
 rw[N7 (Lb _),LX,LR (by simp)];have:Nat.blt (Qo f).length (Qo f).length=false:=by
  cases h':Nat.blt (Qo f).length (Qo f).length with
  | false=>rfl
  | true=>have:=RZ h';omega
 simp only[this,Nn,BJ,Bp,NB,Ls];exact q
structure Qoi (L:List Fm) (f:Fm) (c:Int) (d:Nat) (L':List Fm):Prop where
 mem:f∈L'
 sub:∀g∈L',g∈L
 tk:∀g∈L',∀j,j<d->Wp g j ((stp f c).getD j 0)=true
def Qoi.y (ac:f.vex=false)(aa:Ga f c=true){d:Nat}{L':List Fm}(h:Qoi L f c d L')(ab:d<=(Qo f).length):Qoi L f c (d+1) (L'.filter λg=>Wp g d ((stp f c).getD d 0)):=
 ⟨Bo.2 ⟨h.mem,QA6 ac aa ab⟩,λg q=>h.sub g (Bo.1 q).1,λg q j ad=>by
  by_cases e:j=d;·rw[e];exact(Bo.1 q).2
  exact h.tk g (Bo.1 q).1 j (by omega)⟩
def Qoi.shut (aj:Ga f c=true)(ai:∀g∈L,g.vex=false->Qo g∈leads)(am:∀l∈leads,ZD f l=false){L':List Fm}(h:Qoi L f c ((Qo f).length+1) L'):ZP ((Qo f).length+1) L'=false:=by
 cases L' with
 | nil=>rfl
 | cons g l=>
  have ac:=Ny (a:=g) (l:=l);show(bif g.vex then(Qo f).length+1==0 else Nat.ble ((Qo f).length+1) (Qo g).length)=false;cases ad:g.vex with
  | true=>rfl
  | false=>
   rw[Ls];cases ak:Nat.ble ((Qo f).length+1) (Qo g).length with
   | false=>rfl
   | true=>
    exfalso;have q:(Qo f).length<(Qo g).length:=by
     have:=RZ ak;omega
    have ag:∀j (ae:j<(Qo g).length),j<=(Qo f).length->(stp f c).getD j 0=((Qo g)[j].toNat:Int):=λj ae ao=>by
     have:=h.tk g ac j (by omega);unfold Wp at this;rw[ad,Ls,La ae]at this;simpa using this
    have aa:=am _ (ai g (h.sub g ac) ad);have t1:(Qo g).take (Qo f).length=Qo f:=by
     refine Rp (by rw[Sb];omega) λj an ab=>?_;have:=ag j (by omega) (by omega);rw[RK];have e:(stp f c).getD j 0=((Qo f)[j].toNat:Int):=by
      unfold stp;rw[LX,LY (by simpa using ab),LD,La ab];rfl
     rw[e]at this;have ah:(Qo f)[j].toNat=(Qo g)[j].toNat:=by omega
     exact(BK.1 ah).symm
    have t2:(((Qo g).getD (Qo f).length 0).toNat:Int)=c:=by
     have:=ag (Qo f).length q (Lb _);have e:(stp f c).getD (Qo f).length 0=c:=by
      unfold stp;rw[LX,LR (by simp)];simp
     rw[e]at this;rw[LX,La q,NB,this]
    unfold ZD at aa;rw[t1,t2,aj]at aa;simp[q]at aa
def QCZ (ad:f.vex=false)(q:Ga f c=true)(aa:∀g∈L,g.vex=false->Qo g∈leads)(ac:∀l∈leads,ZD f l=false):∀ (n d:Nat) (rest:List Int) (L':List Fm),n+d=(Qo f).length+1->Qoi L f c d L'->f∈Q7 ((stp f c).drop d++rest) false d L'
 | 0,d,rest,L',h,hL=>by
  obtain rfl:d=(Qo f).length+1:=by omega
  rw[NK (by rw[QcT];exact Lb _),LH];cases rest with
  | nil=>exact hL.mem
  | cons x r=>
   show f∈bif ZP ((Qo f).length+1) L' then _ else L'
   rw[hL.shut q aa ac];exact hL.mem
 | n+1,d,rest,L',h,hL=>by
  have ab:d<(stp f c).length:=by rw[QcT];omega
  rw[Nh ab,Nm];show f∈bif ZP d L' then(bif false&&Xa (stp f c)[d] then _ else Q7 ((stp f c).drop (d+1)++rest) (false&&_) (d+1) (L'.filter λae=>Wp ae d (stp f c)[d])) else L'
  cases ZP d L' with
  | false=>exact hL.mem
  | true=>
   have e:(stp f c)[d]=(stp f c).getD d 0:=by rw[LX,La ab];rfl
   rw[NG,NG,Lq,Ls,e];exact QCZ ad q aa ac n (d+1) rest _ (by omega) (hL.y ad q (by omega))
def QFK (ac:Ga f c=true)(ab:∀g∈L,g.vex=false->Qo g∈leads)(ad:∀l∈leads,ZD f l=false){L':List Fm}(q:Qoi L f c ((Qo f).length+1) L'):∀ (cs:List Int) (aa:Bool),f∈Q7 cs aa ((Qo f).length+1) L'
 | [],_=>q.mem
 | x::r,aa=>by
  show f∈bif ZP ((Qo f).length+1) L' then _ else L'
  rw[q.shut ac ab ad];exact q.mem
def QFL (ae:f.vex=false)(ab:Ga f c=true)(aa:∀g∈L,g.vex=false->Qo g∈leads)(ac:∀l∈leads,ZD f l=false){k:Nat}(ag:k<=(Qo f).length){r:Int}(ad:Xa r=true)(rest:List Int){L':List Fm}(q:Qoi L f c k L'):f∈Q7 (r::((stp f c).drop k++rest)) true k L':=by
 show f∈bif ZP k L' then(bif true&&Xa r then Q7 ((stp f c).drop k++rest) false k L' else _) else L'
 rw[ad];cases ZP k L' with
 | false=>exact q.mem
 | true=>exact QCZ ae ab aa ac ((Qo f).length+1 - k) k rest L' (by omega) q
def QIp (ag:f.vex=false)(q:Ga f c=true)(ac:∀g∈L,g.vex=false->Qo g∈leads)(ae:∀l∈leads,ZD f l=false){k:Nat}(aj:k<=(Qo f).length)(am:Xa ((stp f c).getD k 0)=false)(ai:k<(Qo f).length->(stp f c).getD k 0=15)(rest:List Int){L':List Fm}(ab:Qoi L f c k L'):f∈Q7 ((stp f c).drop k++rest) true k L':=by
 have ad:k<(stp f c).length:=by rw[QcT];omega
 have e:(stp f c)[k]=(stp f c).getD k 0:=by rw[LX,La ad];rfl
 rw[Nh ad,Nm,e];show f∈bif ZP k L' then(bif true&&Xa ((stp f c).getD k 0) then _ else Q7 ((stp f c).drop (k+1)++rest) (true&&((((stp f c).getD k 0)==102)||(((stp f c).getD k 0)==242)||(((stp f c).getD k 0)==243))) (k+1) (L'.filter λah=>Wp ah k ((stp f c).getD k 0))) else L'
 rw[am];cases ZP k L' with
 | false=>exact ab.mem
 | true=>
  have aa:=ab.y ag q aj;rw[NJ,Lq,Ls]
  by_cases ak:k<(Qo f).length;·rw[ai ak]at aa ⊢;exact QCZ ag q ac ae ((Qo f).length - k) (k+1) rest _ (by omega) aa
  obtain rfl:k=(Qo f).length:=by omega
  exact QFK q ac ae aa _ _
def Qzh (ad:f.vex=false)(aa:Ga f c=true){k:Nat}(ah:k<=(Qo f).length)(ab:∀j,j<k->Xa ((stp f c).getD j 0)=false∧((((stp f c).getD j 0)==102)||(((stp f c).getD j 0)==242)||(((stp f c).getD j 0)==243))=true)(q:List Int)(ac:∀L',Qoi L f c k L'->f∈Q7 q true k L'):
  ∀ (n d:Nat) (L':List Fm),n+d=k->Qoi L f c d L'->f∈Q7 (((stp f c).take k).drop d++q) true d L'
 | 0,d,L',h,hL=>by
  obtain rfl:d=k:=by omega
  rw[NK (by rw[Sb];omega),LH];exact ac L' hL
 | n+1,d,L',h,hL=>by
  have ai:d<((stp f c).take k).length:=by rw[Sb,QcT];omega
  have ag:d<(stp f c).length:=by rw[QcT];omega
  have e:((stp f c).take k)[d]=(stp f c).getD d 0:=by rw[RK,LX,La ag];rfl
  obtain⟨aj,ak⟩:=ab d (by omega);rw[Nh ai,Nm,e];show f∈bif ZP d L' then(bif true&&Xa ((stp f c).getD d 0) then _ else Q7 (((stp f c).take k).drop (d+1)++q) (true&&((((stp f c).getD d 0)==102)||(((stp f c).getD d 0)==242)||(((stp f c).getD d 0)==243))) (d+1) (L'.filter λae=>Wp ae d ((stp f c).getD d 0))) else L'
  rw[aj,ak];cases ZP d L' with
  | false=>exact hL.mem
  | true=>
   rw[NJ,Lq,Ls,Be];exact Qzh ad aa ah ab q ac n (d+1) _ (by omega) (hL.y ad aa (by omega))
end
def Qqc {bs:List Int}{f:Fm}(h:(QD bs f).e=0):∃c0:Rr,c0.x.f=f∧c0.p=0∧(Wc bs c0).1=0∧(opF bs (Wc bs c0).2).1=0∧(Vj bs (opF bs (Wc bs c0).2).2).1=0:=by
 obtain⟨c0,ad⟩:∃c0,c0=rd0 ⟨f,.slice none 0 0,.slice none 0 0⟩ (.slice none 0 0):=⟨_,rfl⟩;have e:QD bs f=bif (rdM bs c0).1==0 then Jk bs (rdM bs c0).2 else Y0 (rdM bs c0).1:=by rw[ad];rfl
 refine⟨c0,by rw[ad];rfl,by rw[ad];rfl,?_⟩;rw[e]at h;have aa:rdM bs c0=bif (rdO bs c0).1==0 then Vj bs (rdO bs c0).2 else rdO bs c0:=rfl
 have ac:rdO bs c0=bif (Wc bs c0).1==0 then opF bs (Wc bs c0).2 else Wc bs c0:=rfl
 have ab:(rdM bs c0).1=0:=by
  cases z:(rdM bs c0).1==0 with
  | true=>simpa using z
  | false=>rw[z]at h;exact h
 have q:(rdO bs c0).1=0:=by
  cases z:(rdO bs c0).1==0 with
  | true=>simpa using z
  | false=>rw[aa,z]at ab;exact ab
 have ae:(Wc bs c0).1=0:=by
  cases z:(Wc bs c0).1==0 with
  | true=>simpa using z
  | false=>rw[ac,z]at q;exact q
 have ag:((Wc bs c0).1==0)=true:=by rw[ae];rfl
 rw[ag,Lq]at ac;rw[ac]at q aa;have ah:((opF bs (Wc bs c0).2).1==0)=true:=by rw[q];rfl
 rw[ah,Lq]at aa;rw[aa]at ab;exact⟨ae,q,ab⟩
def seg {bs:List Int}(ab:WO bs):∀ (l:List UInt8) (p:Nat),(∀j (ac:j<l.length),QQ bs ((p:Int)+j)=l[j].toNat)->p+l.length<=bs.length->bs.drop p=l.map (λb=>(b.toNat:Int))++bs.drop (p+l.length)
 | [],p,_,_=>by simp
 | b::l,p,h,hl=>by
  simp only[Lo]at hl;have ad:p<bs.length:=by omega
  obtain⟨n,ai,q,ah,ae⟩:=ab.at (p:=(p:Int)) (by omega) (by omega);have aa:=h 0 (by simp);simp only[LG]at q;rw[show((p:Int)+(0:Nat))=p by omega,ae]at aa;rw[Nh ad,NZ,Nm];rw[La ad]at q;have e1:bs[p]=(b.toNat:Int):=by
   have:=Ly q;rw[this,aa];rfl
  have ag:=seg ab l (p+1) (λj ac=>by
   have:=h (j+1) (by simpa using ac);rw[show(((p+1:Nat):Int)+j)=(p:Int)+((j+1:Nat):Int) by omega,this];rfl) (by omega)
  rw[e1,ag,Lo,show p+1+l.length=p+(l.length+1) by omega]
def QvS (l:Int):∀b∈Q4 l,b=102∨b=242∨b=243:=by
 intro b q;unfold Q4 at q;rw[LI,LI]at q;rcases q with q | q | q
 ·split at q;·exact .inl (Sa.1 q)
  cases q
 ·split at q;·exact .inr (.inl (Sa.1 q))
  cases q
 split at q;·exact .inr (.inr (Sa.1 q))
 cases q
def Qss (n:Int)(h:0<(WG n).length):(WG n)[0]=15:=by
 rcases Qp4 n with e | e | e | e
 all_goals simp only[e]at h ⊢
 all_goals first
  | rfl
  | exact absurd h (NX 0)
def wOf (q:List Int):Int:=match q with
 | []=>0
 | r::_=>YF (r - 64).toNat 4 3
def Qqd (f:Fm)(c:Int)(q:List Int):Prop:=(q=[]∧Xa ((stp f c).getD (Q4 f.pre).length 0)=false)∨∃r,q=[r]∧Xa r=true
def QtF (f:Fm)(c:Int):stp f c=(Q4 f.pre).map (λb=>(b.toNat:Int))++((WG f.map).map (λb=>(b.toNat:Int))++[c]):=by unfold stp;rw[Jm,N6,LQ]
def Qqe (f:Fm)(c:Int):(stp f c).take (Q4 f.pre).length=(Q4 f.pre).map (λb=>(b.toNat:Int)):=by rw[QtF,NO (by simp),LF (by simp)]
def Qlv (f:Fm)(c:Int):(stp f c).drop (Q4 f.pre).length=(WG f.map).map (λb=>(b.toNat:Int))++[c]:=by rw[QtF,RF (by simp),NK (by simp),LH]
def QFM (f:Fm):(Q4 f.pre).length<=(Qo f).length:=by rw[Jm,Lh];omega
def Qzi (f:Fm)(c:Int):∀j,j<(Q4 f.pre).length->Xa ((stp f c).getD j 0)=false∧((((stp f c).getD j 0)==102)||(((stp f c).getD j 0)==242)||(((stp f c).getD j 0)==243))=true:=λj q=>by
 have e:(stp f c).getD j 0=((Q4 f.pre)[j].toNat:Int):=by
  rw[QtF,LX,LY (by simpa using q),LD,La q];rfl
 rw[e];rcases QvS f.pre _ (Nb q) with e | e | e<;>rw[e]<;>exact⟨by kernel_rfl,by decide⟩
def Qhi (f:Fm)(c:Int)(q rest:List Int):List Int:=(stp f c).take (Q4 f.pre).length++(q++((stp f c).drop (Q4 f.pre).length++rest))
def Qst {L:List Fm}{f:Fm}{c:Int}{aj:List (List UInt8)}{ak rest:List Int}(ae:f.vex=false)(aa:Ga f c=true)(an:f∈L)(ah:∀g∈L,g.vex=false->Qo g∈aj)(ai:∀l∈aj,ZD f l=false)(aq:Qqd f c ak):f∈Q7 (Qhi f c ak rest) true 0 L:=by
 have am:Qoi L f c 0 L:=⟨an,λg h=>h,λg _ j ao=>absurd ao (Nat.not_lt_zero _)⟩;have ac:=QFM f;unfold Qhi;have ag:=λau ar=>Qzh ae aa ac (Qzi f c) au ar (Q4 f.pre).length 0 L (by omega) am;rcases aq with⟨rfl,ad⟩ | ⟨r,rfl,ad⟩
 ·have:=ag ((stp f c).drop (Q4 f.pre).length++rest) (λL' q=>by
   refine QIp ae aa ah ai ac ad (λap=>?_) _ q;have ab:0<(WG f.map).length:=by rw[Jm,Lh]at ap;omega
   rw[QtF,LX,LR (by simp),Nn,BJ,LY (by simpa using ab),LD,La ab,Qss _ ab];rfl)
  rw[Lw]at this;exact this
 have:=ag ([r]++((stp f c).drop (Q4 f.pre).length++rest)) (λL' q=>QFL ae aa ah ai ac ad _ q);rw[Lw]at this;exact this
def wAt (bs:List Int)(p:Int):Int:=if QiQ bs p=true then YF (QQ bs p - 64).toNat 4 3 else 0
def QIq {bs:List Int}{c:Rr}(q:(X5 bs c).1=0):wAt bs c.p=c.x.f.w:=by
 have e:X5 bs c=if(bs.length:Int)<=c.p then(9,c)
  else if(decide (64<=QQ bs c.p)&&decide (QQ bs c.p<=79))=true then Ya (Qtw c (QQ bs c.p - 64).toNat) (YF (QQ bs c.p - 64).toNat 4 3) else Ya c 0:=rfl
 have ne:∀ (c':Rr) w,(Ya c' w).1=0->w=c'.x.f.w:=λc' w h=>by
  unfold Ya at h;split at h;·cases h
  rename_i ac;simp at ac;exact ac.1
 rw[e]at q;unfold wAt QiQ
 by_cases aa:(bs.length:Int)<=c.p;·rw[Lc aa]at q;cases q
 rw[Le aa]at q
 by_cases ab:(decide (64<=QQ bs c.p)&&decide (QQ bs c.p<=79))=true;·rw[Lc ab]at q ⊢;exact ne (Qtw c (QQ bs c.p - 64).toNat) _ q
 rw[Le ab]at q ⊢;exact ne c 0 q
def QIr {bs:List Int}{c:Rr}(ac:bs.length<=1000000)(h:InB bs c.p)(q:(Kt bs c).1=0):wAt bs (c.p+(Q4 c.x.f.pre).length)=c.x.f.w:=by
 rw[Qhh]at q;unfold Qhe at q;generalize Q4 c.x.f.pre=pl at *
 by_cases aa:((JW bs pl c).1==0)=true
 ·rw[Lc aa]at q;obtain⟨a1,a2,a3⟩:=QhK ac pl c h (by simpa using aa);rw[a1]at q;unfold Qd4 at q
  by_cases ab:((X5 bs {c with p:=c.p+pl.length}).1==0)=true;·exact QIq (c:={c with p:=c.p+pl.length}) (by simpa using ab)
  rw[Le ab]at q;rw[q]at ab;exact absurd rfl ab
 rw[Le aa]at q;rw[q]at aa;exact absurd rfl aa
def QC0 {bs:List Int}(ad:WO bs){p:Nat}(ag:p<bs.length):Xa bs[p]=QiQ bs p∧QQ bs p=bs[p]:=by
 obtain⟨n,ae,aa,ah,ac⟩:=ad.at (p:=(p:Int)) (by omega) (by omega);have q:=Qlu ae;unfold Qsr at q;simp only[Lm,L0]at q;simp only[LG]at aa;have ab:bs[p]=(n:Int):=by rw[La ag]at aa;exact Ly aa
 refine⟨?_,by rw[ac,ab]⟩;rw[ab,q.2];unfold QiQ;rw[ac,Ni];simp only[Lm,Lv];omega
def QvT {bs:List Int}(ag:WO bs){k:Nat}(ac:k<bs.length){q:Nat}(ad:(q:Int)=k+(if QiQ bs k=true then 1 else 0)):
  ∃aa:List Int,bs.drop k=aa++bs.drop q∧q=k+aa.length∧wAt bs k=wOf aa∧((aa=[]∧Xa bs[k]=false)∨∃r,aa=[r]∧Xa r=true):=by
 obtain⟨ae,ah⟩:=QC0 ag ac;unfold wAt;cases ab:QiQ bs k with
 | true=>
  rw[ab,Lc rfl]at ad;have:q=k+1:=by omega
  subst this;refine⟨[bs[k]],by rw[Nh ac];rfl,rfl,?_,.inr ⟨_,rfl,by rw[ae,ab]⟩⟩;rw[Lc rfl,ah];rfl
 | false=>
  rw[ab,Le (by decide)]at ad;have:q=k:=by omega
  subst this;exact⟨[],rfl,rfl,by rw[Le (by decide)];rfl,.inl ⟨rfl,by rw[ae,ab]⟩⟩
def Qsu {bs:List Int}{f:Fm}{c0:Rr}(ag:bs.length<=1000000)(ad:WO bs)(ar:I64 f.code)(ah:c0.x.f=f)(p0:c0.p=0)(ak:(Kt bs c0).1=0)(aq:(opF bs (Kt bs c0).2).1=0):
  ∃c ab rest,Ga f c=true∧bs=Qhi f c ab rest∧Qqd f c ab∧wOf ab=f.w∧(Kt bs c0).2.p=((Qo f).length+ab.length:Nat)∧c=bs.getD ((Qo f).length+ab.length) 0:=by
 have aj:InB bs c0.p:=by rw[p0];exact .zero bs
 obtain⟨a1,a2,q,a3,a4,a5,a6,a7⟩:=QtE ag aj ak;have ai:=QIr ag aj ak;have aw:=QtC (bs:=bs) (c:=c0) ag aj;obtain⟨b1,b2⟩:=Qx7 ag ad (by rw[a7,ah];exact ar) aw.2.2 aq;rw[a7,ah]at b2;rw[ah,p0]at a1 a2 a3 ai;rw[ah]at a4 a5 a6;rw[a6]at b1 b2;obtain⟨k,ac⟩:∃k,k=(Q4 f.pre).length:=⟨_,rfl⟩;obtain⟨c,ae⟩:∃c,c=bs.getD (q+(WG f.map).length).toNat 0:=⟨_,rfl⟩;rw[<- ae]at b2;have ay:=Qqe f c;have au:=Qlv f c;have s1:=seg ad (Q4 f.pre) 0 (λj av=>by simpa using a1 j av) (by omega);rw[Lw,LP,<- ay]at s1;obtain⟨aa,ap⟩:∃aa:Nat,q=(aa:Int):=⟨q.toNat,by rw[a3];split<;>omega⟩;rw[ap]at a3 a4 a5 b1 ae;have az:(0:Int)+(Q4 f.pre).length=k:=by omega
 rw[az]at a3 ai;have am:k<bs.length:=by omega
 obtain⟨ab,r1,r2,r3,r4⟩:=QvT ad am a3;have s2:=seg ad (WG f.map) aa a4 (by omega);have s3:bs.drop (aa+(WG f.map).length)=c::bs.drop (aa+(WG f.map).length+1):=by
  have ao:aa+(WG f.map).length<bs.length:=by omega
  rw[Nh ao];congr 1;rw[ae,show((aa:Int)+((WG f.map).length:Int)).toNat=aa+(WG f.map).length by omega,LX,La ao];rfl
 have s4:bs.drop aa=(stp f c).drop (Q4 f.pre).length++bs.drop (aa+(WG f.map).length+1):=by rw[s2,s3,au,LQ];rfl
 have an:(Qo f).length+ab.length=aa+(WG f.map).length:=by rw[Jm,Lh,<- ac];omega
 refine⟨c,ab,bs.drop (aa+(WG f.map).length+1),b2,?_,?_,by rw[<- r3];exact ai,by rw[a6,ap,an];omega,?_⟩;·unfold Qhi;rw[<- s4,<- r1,ac];exact s1
 ·rcases r4 with⟨rfl,h⟩ | h
  ·refine .inl ⟨rfl,?_⟩;rw[<- ac];have ax:aa=k:=by simpa using r2
   rw[ax]at s4;have aA:k<(stp f c).length:=by rw[QcT,Jm,Lh,<- ac];omega
   have e1:bs[k]? = ((stp f c).drop (Q4 f.pre).length++bs.drop (k+(WG f.map).length+1))[0]? := by rw[<- s4,Nk,N9]
   rw[LY (by rw[NT,<- ac];omega),Nk,N9,<- ac,La am]at e1;rw[LX,<- e1];exact h
  exact .inr h
 rw[an,ae];congr 1
def QnJ {L:List Fm}{bs:List Int}{f:Fm}{q:List (List UInt8)}(ak:bs.length<=1000000)(ah:WO bs)(an:f.vex=false)(ai:I64 f.code)(aj:f∈L)(ae:∀g∈L,g.vex=false->Qo g∈q)(am:∀l∈q,ZD f l=false){c0:Rr}(ao:c0.x.f=f)(p0:c0.p=0)(ad:(Kt bs c0).1=0)(ag:(opF bs (Kt bs c0).2).1=0):f∈Q7 bs true 0 L:=by
 obtain⟨c,ap,rest,aa,ab,ac,_⟩:=Qsu ak ah ai ao p0 ad ag;rw[ab];exact Qst an aa aj ae am ac
def Qsv (f:Fm):∀b∈Qo f,b≠196∧b≠197:=by
 intro b q;rw[Jm,LI]at q;rcases q with q | q;·rcases QvS _ b q with rfl | rfl | rfl<;>decide
 rcases Qp4 f.map with e | e | e | e<;>rw[e]at q;·rw[Sa.1 q];decide
 ·rcases LK.1 q with rfl | q;·decide
  rw[Sa.1 q];decide
 ·rcases LK.1 q with rfl | q;·decide
  rw[Sa.1 q];decide
 cases q
def Qzj {bs:List Int}{c:Rr}(h:(ZC bs c).1=0):bs.length≠0∧((bs.getD 0 0==196)||((bs.getD 0 0==197)&&(c.x.f.map==1)&&!(c.x.f.w==1)))=true:=by
 unfold ZC at h
 by_cases q:bs.length=0;·rw[Lc q]at h;cases h
 rw[Le q]at h;refine⟨q,?_⟩
 by_cases aa:((bs.getD 0 0==197)&&(c.x.f.map==1)&&!(c.x.f.w==1))=true;·rw[aa,Bd]
 rw[Le aa]at h
 by_cases ab:(bs.getD 0 0==196)=false;·rw[Lc ab]at h;cases h
 have ac:(bs.getD 0 0==196)=true:=by simpa using ab
 rw[ac,N1]
def QvU {L:List Fm}{bs:List Int}{f:Fm}(ap:f.vex=true)(ae:f∈L)(ah:bs.length≠0)(ai:((bs.getD 0 0==196)||((bs.getD 0 0==197)&&(f.map==1)&&!(f.w==1)))=true):f∈Q7 bs true 0 L:=by
 cases bs with
 | nil=>exact absurd rfl ah
 | cons c cs=>
  have ac:((c==196)||((c==197)&&(f.map==1)&&!(f.w==1)))=true:=ai;have ad:c=196∨c=197:=by
   rcases Nw _ _▸ac with q | q;·left;simpa using q
   right;simp only[Lm,L0]at q;exact q.1.1
  have am:Xa c=false:=by rcases ad with rfl | rfl<;>kernel_rfl
  have ao:Wp f 0 c=true:=by unfold Wp;rw[ap,Lq,ac];rfl
  have ag:f∈L.filter λg=>Wp g 0 c:=Bo.2 ⟨ae,ao⟩;have an:ZP 1 (L.filter λg=>Wp g 0 c)=false:=by
   cases e:L.filter λg=>Wp g 0 c with
   | nil=>rfl
   | cons g l=>
    have aj:g∈L.filter λg=>Wp g 0 c:=by rw[e];exact Ny ..
    have aa:=(Bo.1 aj).2;show(bif g.vex then(1==0) else Nat.ble 1 (Qo g).length)=false;cases ak:g.vex with
    | true=>rfl
    | false=>
     rw[Ls];cases ab:Qo g with
     | nil=>rfl
     | cons b r=>
      exfalso;unfold Wp at aa;rw[ak,Ls,ab]at aa;have tb:c=(b.toNat:Int):=by simpa using aa
      obtain⟨aq,ar⟩:=Qsv g b (by rw[ab];exact Ny ..);rcases ad with e | e;·exact aq (BK.1 (show b.toNat=(196:UInt8).toNat by show b.toNat=196;omega))
      exact ar (BK.1 (show b.toNat=(197:UInt8).toNat by show b.toNat=197;omega))
  show f∈bif ZP 0 L then(bif true&&Xa c then _ else Q7 cs (true&&_) 1 (L.filter λg=>Wp g 0 c)) else L
  rw[am];cases ZP 0 L with
  | false=>exact ae
  | true=>
   rw[NJ,Lq,Ls];cases cs with
   | nil=>exact ag
   | cons x r=>
    show f∈bif ZP 1 (L.filter λg=>Wp g 0 c) then _ else(L.filter λg=>Wp g 0 c)
    rw[an];exact ag
def QC1 {L:List Fm}{bs:List Int}{f:Fm}{ah:List (List UInt8)}(an:bs.length<=1000000)(ak:WO bs)(am:I64 f.code)(ag:f∈L)(aj:∀g∈L,g.vex=false->Qo g∈ah)(ao:f.vex=false->∀l∈ah,ZD f l=false)(h:(QD bs f).e=0):f∈Q7 bs true 0 L:=by
 obtain⟨c0,ab,p0,aa,ae,_⟩:=Qqc h;cases q:f.vex with
 | true=>
  have ac:Wc bs c0=ZC bs c0:=by unfold Wc;rw[ab,q];rfl
  rw[ac]at aa;obtain⟨ai,ad⟩:=Qzj aa;rw[ab]at ad;exact QvU q ag ai ad
 | false=>
  have ac:Wc bs c0=Kt bs c0:=by unfold Wc;rw[ab,q];rfl
  rw[ac]at aa ae;exact QnJ an ak q am ag aj (ao q) ab p0 aa ae
def QmL (bs:List Int)(f:Fm)(l:List Fm)(err:Int):QaK bs (f::l) err=if((QD bs f).e==0)=true then⟨(QD bs f).op,(QD bs f).l,(QD bs f).n,0⟩ else QaK bs l (if((QD bs f).e==9)=true then 9 else err):=rfl
def QvV {bs:List Int}:∀ (l:List Fm) (err:Int),(err=9∨∃f∈l,(QD bs f).e=9)->(QaK bs l err).e=0∨(QaK bs l err).e=9
 | [],err,h=>by
  rcases h with rfl | ⟨f,q,_⟩;·exact .inr rfl
  cases q
 | g::l,err,h=>by
  rw[QmL]
  by_cases z:((QD bs g).e==0)=true;·rw[Lc z];exact .inl rfl
  rw[Le z];refine QvV l _ ?_
  by_cases aa:((QD bs g).e==9)=true;·rw[Lc aa];exact .inl rfl
  rw[Le aa];rcases h with h | ⟨f,q,ab⟩;·exact .inl h
  rcases LK.1 q with rfl | q;·rw[ab]at aa;exact absurd rfl aa
  exact .inr ⟨f,q,ab⟩
def Qzk {bs:List Int}{f:Fm}(h:(QD bs f).e=0):∀ (l:List Fm) (err:Int),f∈l->(∀g∈l,(QD bs g).e=0->QD bs g=QD bs f)->QaK bs l err=QD bs f
 | [],_,q,_=>by cases q
 | g::l,err,q,hu=>by
  rw[QmL]
  by_cases z:((QD bs g).e==0)=true
  ·have e0:(QD bs g).e=0:=by simpa using z
   rw[Lc z,hu g (Ny ..) e0];rw[<- h]
  rw[Le z];rcases LK.1 q with rfl | q;·rw[h]at z;exact absurd rfl z
  exact Qzk h l _ q λaa ab=>hu aa (NA _ ab)
def X0 (f:Fm):∀ (b:List Int) (q:Bool) (d:Nat) (L:List Fm),f∈Q7 b q d L->f∈L
 | [],_,_,_,h=>h
 | c::cs,q,d,L,h=>by
  have h:f∈bif ZP d L then(bif q&&Xa c then Q7 cs false d L else Q7 cs (q&&((c==102)||(c==242)||(c==243))) (d+1) (L.filter λf=>Wp f d c)) else L:=h
  cases aa:ZP d L with
  | false=>rw[aa]at h;exact h
  | true=>
   rw[aa,Lq]at h;cases ab:q&&Xa c with
   | true=>rw[ab]at h;exact X0 f cs _ _ _ h
   | false=>rw[ab]at h;exact(Bo.1 (X0 f cs _ _ _ h)).1
def Qhj (f:Fm)(b:List Int):∀ (a:List Int) (q:Bool) (d:Nat) (L:List Fm),f∈Q7 (a++b) q d L->f∈Q7 a q d L
 | [],q,d,L,h=>X0 f b q d L h
 | c::cs,q,d,L,h=>by
  have h:f∈bif ZP d L then(bif q&&Xa c then Q7 (cs++b) false d L else Q7 (cs++b) (q&&((c==102)||(c==242)||(c==243))) (d+1) (L.filter λf=>Wp f d c)) else L:=h
  show f∈bif ZP d L then(bif q&&Xa c then Q7 cs false d L else Q7 cs (q&&((c==102)||(c==242)||(c==243))) (d+1) (L.filter λf=>Wp f d c)) else L
  cases aa:ZP d L with
  | false=>rw[aa]at h;exact h
  | true=>
   rw[aa,Lq]at h;rw[Lq];cases ab:q&&Xa c with
   | true=>rw[ab]at h;exact Qhj f b cs _ _ _ h
   | false=>rw[ab]at h;exact Qhj f b cs _ _ _ h
def Qqf {bs:List Int}{c:Rr}{n:Int}(h:InB bs c.p)(q:(Wd bs c n).1=9):c.p=bs.length:=by
 unfold InB at h;have e:Wd bs c n=((Qb6 bs c.p n).1,{c with p:=(Qb6 bs c.p n).2}):=rfl;rw[e]at q;simp only at q;unfold Qb6 at q
 by_cases ab:(bs.length:Int)<=c.p;·omega
 rw[Le ab]at q
 by_cases aa:(IntKind.i64.wrap (bs.getD c.p.toNat 0)==n)=false;·rw[Lc aa]at q;cases q
 rw[Le aa]at q;cases q
def Qqg {bs:List Int}(aa:bs.length<=1000000):∀ (l:List UInt8) (c:Rr),InB bs c.p->(JW bs l c).1=9->∃j,j<l.length∧c.p+j=bs.length∧∀i (hi:i<l.length),i<j->QQ bs (c.p+i)=l[i].toNat
 | [],c,h,h0=>by cases h0
 | n::l,c,h,h0=>by
  have e:JW bs (n::l) c=if((Wd bs c n.toNat).1==0)=true then JW bs l (Wd bs c n.toNat).2 else Wd bs c n.toNat:=rfl
  rw[e]at h0
  by_cases z:((Wd bs c n.toNat).1==0)=true
  ·rw[Lc z]at h0;obtain⟨ah,ac,ad⟩:=QaL aa h (by simpa using z);rw[ad]at h0;have h':InB bs (c.p+1):=by unfold InB at *;omega
   obtain⟨j,ae,ag,ab⟩:=Qqg aa l {c with p:=c.p+1} h' h0;simp only at ag ab;refine⟨j+1,by simpa using ae,by omega,λi hi q=>?_⟩;cases i with
   | zero=>simpa using ac
   | succ i=>
    have:=ab i (by simpa using hi) (by omega);rw[show c.p+((i+1:Nat):Int)=c.p+1+i by omega,this];rfl
  rw[Le z]at h0;exact⟨0,by simp,by have:=Qqf h h0;omega,λi hi q=>absurd q (Nat.not_lt_zero _)⟩
def QC2 {bs:List Int}{c:Rr}(h:InB bs c.p)(q:(X5 bs c).1=9):c.p=bs.length:=by
 unfold InB at h;have e:X5 bs c=if(bs.length:Int)<=c.p then(9,c)
  else if(decide (64<=QQ bs c.p)&&decide (QQ bs c.p<=79))=true then Ya (Qtw c (QQ bs c.p - 64).toNat) (YF (QQ bs c.p - 64).toNat 4 3) else Ya c 0:=rfl
 have ne:∀c' w,(Ya c' w).1≠9:=λc' w=>by unfold Ya;split<;>simp
 rw[e]at q
 by_cases aa:(bs.length:Int)<=c.p;·omega
 rw[Le aa]at q;split at q;·exact absurd q (ne _ _)
 exact absurd q (ne _ _)
def QA7 {bs:List Int}{f:Fm}(h:(QD bs f).e=9):∃c0:Rr,c0.x.f=f∧c0.p=0∧((Wc bs c0).1=9∨(Wc bs c0).1=0∧((opF bs (Wc bs c0).2).1=9∨(opF bs (Wc bs c0).2).1=0)):=by
 obtain⟨c0,ac⟩:∃c0,c0=rd0 ⟨f,.slice none 0 0,.slice none 0 0⟩ (.slice none 0 0):=⟨_,rfl⟩;have e:QD bs f=bif (rdM bs c0).1==0 then Jk bs (rdM bs c0).2 else Y0 (rdM bs c0).1:=by rw[ac];rfl
 refine⟨c0,by rw[ac];rfl,by rw[ac];rfl,?_⟩;rw[e]at h;have q:rdM bs c0=bif (rdO bs c0).1==0 then Vj bs (rdO bs c0).2 else rdO bs c0:=rfl
 have ab:rdO bs c0=bif (Wc bs c0).1==0 then opF bs (Wc bs c0).2 else Wc bs c0:=rfl
 cases aa:(Wc bs c0).1==0 with
 | false=>
  rw[aa,Ls]at ab;rw[ab,aa,Ls]at q;rw[q,aa,Ls]at h;exact .inl h
 | true=>
  rw[aa,Lq]at ab;rw[ab]at q;refine .inr ⟨by simpa using aa,?_⟩;cases ad:(opF bs (Wc bs c0).2).1==0 with
  | true=>exact .inr (by simpa using ad)
  | false=>
   rw[ad,Ls]at q;rw[q,ad,Ls]at h;exact .inl h
def QFN {bs:List Int}{c:Rr}(h:InB bs c.p)(q:(opF bs c).1=9):c.p=bs.length:=by
 have e:opF bs c=if(decide (Qh c.x.f.slots 4<0))=true then Wd bs c c.x.f.code
  else if(bs.length:Int)<=c.p then(9,c) else Wd bs {c with low:=ZA bs c.p} (IntKind.i64.wrap (c.x.f.code+ZA bs c.p)):=rfl
 rw[e]at q
 by_cases z:decide (Qh c.x.f.slots 4<0)=true;·rw[Lc z]at q;exact Qqf h q
 rw[Le z]at q
 by_cases g:(bs.length:Int)<=c.p;·unfold InB at h;omega
 rw[Le g]at q;exact Qqf (c:={c with low:=ZA bs c.p}) h q
section
variable {bs:List Int} {f:Fm} {c0:Rr}
def QvW {bs:List Int}{f:Fm}(q:WO bs){j:Nat}(aa:j<=(Q4 f.pre).length)(ab:j=bs.length)(h:∀i (hi:i<(Q4 f.pre).length),i<j->QQ bs ((0:Int)+i)=(Q4 f.pre)[i].toNat)(c:Int):
  ∃more,bs++more=Qhi f c [] []:=by
 have s:=seg q ((Q4 f.pre).take j) 0 (λi hi=>by
  rw[Sb]at hi;have:=h i (by omega) (by omega);rw[RK];simpa using this) (by rw[Sb];omega)
 rw[Lw,NK (by rw[Sb];omega),Na]at s;refine⟨((Q4 f.pre).drop j).map (λb=>(b.toNat:Int))++(stp f c).drop (Q4 f.pre).length,?_⟩;unfold Qhi;rw[s,<- LQ,<- N6,NW,Qqe,LH,Na]
def QvX {bs:List Int}{f:Fm}(ac:WO bs)(ag:∀j (ad:j<(Q4 f.pre).length),QQ bs ((0:Int)+j)=(Q4 f.pre)[j].toNat)(aj:(Q4 f.pre).length<bs.length){q:Int}(ae:q=(Q4 f.pre).length+(if QiQ bs (Q4 f.pre).length=true then 1 else 0)){j:Nat}(ad:j<=(WG f.map).length)(ai:q+j=bs.length)
  (h:∀i (hi:i<(WG f.map).length),i<j->QQ bs (q+i)=(WG f.map)[i].toNat) (c:Int) (ak:Xa ((stp f c).getD (Q4 f.pre).length 0)=false):
  ∃more ab,bs++more=Qhi f c ab []∧Qqd f c ab:=by
 obtain⟨aa,am⟩:∃aa:Nat,q=(aa:Int):=⟨q.toNat,by rw[ae];split<;>omega⟩;rw[am]at ae ai h;obtain⟨ab,r1,r2,r3,r4⟩:=QvT ac aj ae;have s1:=seg ac (Q4 f.pre) 0 (λj ad=>by simpa using ag j ad) (by omega);rw[Lw,LP,r1]at s1;have s:=seg ac ((WG f.map).take j) aa (λi hi=>by
  rw[Sb]at hi;have:=h i (by omega) (by omega);rw[RK];exact this) (by rw[Sb];omega)
 have ah:bs.drop (aa+((WG f.map).take j).length)=[]:=NK (by rw[Sb];omega);rw[ah,Na]at s;rw[s]at s1;refine⟨((WG f.map).drop j).map (λb=>(b.toNat:Int))++[c],ab,?_,?_⟩
 ·unfold Qhi;rw[Qqe,Qlv,Na];have e:(WG f.map).map (λb=>(b.toNat:Int))=((WG f.map).take j).map (λb=>(b.toNat:Int))++((WG f.map).drop j).map (λb=>(b.toNat:Int)):=by rw[<- N6,NW]
  rw[e]
  conv=>lhs;rw[s1]
  simp only[LQ]
 rcases r4 with⟨rfl,_⟩ | h;·exact .inl ⟨rfl,ak⟩
 exact .inr h
def QFO (aa:bs.length<=1000000)(ac:WO bs)(ao:c0.x.f=f)(p0:c0.p=0)(q:(Kt bs c0).1=9)(c:Int)(ag:Xa ((stp f c).getD (Q4 f.pre).length 0)=false):
  ∃more an,bs++more=Qhi f c an []∧Qqd f c an:=by
 have am:InB bs c0.p:=by rw[p0];exact .zero bs
 rw[Qhh]at q;unfold Qhe at q;rw[ao]at q
 by_cases aj:((JW bs (Q4 f.pre) c0).1==0)=true
 ·rw[Lc aj]at q;obtain⟨a1,a2,a3⟩:=QhK aa (Q4 f.pre) c0 am (by simpa using aj);rw[a1]at q;have ad:InB bs (c0.p+(Q4 f.pre).length):=by unfold InB at *;omega
  rw[p0]at a2 a3;unfold Qd4 at q
  by_cases ak:((X5 bs {c0 with p:=c0.p+(Q4 f.pre).length}).1==0)=true;·rw[Lc ak]at q;obtain⟨b1,b2,b3⟩:=QoH (c:={c0 with p:=c0.p+(Q4 f.pre).length}) aa ad (by simpa using ak);have ap:=Qp5 (bs:=bs) (c:={c0 with p:=c0.p+(Q4 f.pre).length}) ad aa;generalize X5 bs {c0 with p:=c0.p+(Q4 f.pre).length}=x at *;simp only at b1 b2 b3;rw[b2,ao]at q;obtain⟨j,ah,ai,ab⟩:=Qqg aa _ x.2 ap q;rw[p0,Int.zero_add]at b1 b3;exact QvX ac a3 (by omega) b3 (Nat.le_of_lt ah) ai ab c ag
  rw[Le ak]at q;have:=QC2 (c:={c0 with p:=c0.p+(Q4 f.pre).length}) ad q;simp only at this;rw[p0]at this;obtain⟨more,ae⟩:=QvW ac (Lb _) (by omega) (λi hi _=>a3 i hi) c;exact⟨more,[],ae,.inl ⟨rfl,ag⟩⟩
 rw[Le aj]at q;obtain⟨j,ah,ai,ab⟩:=Qqg aa _ c0 am q;rw[p0]at ai ab;obtain⟨more,ae⟩:=QvW ac (Nat.le_of_lt ah) (by omega) ab c;exact⟨more,[],ae,.inl ⟨rfl,ag⟩⟩
def QA8 (ab:bs.length<=1000000)(ai:WO bs)(ae:c0.x.f=f)(p0:c0.p=0)(ag:(Kt bs c0).1=0)(ah:(opF bs (Kt bs c0).2).1=9)(c:Int)(ak:Xa ((stp f c).getD (Q4 f.pre).length 0)=false):
  ∃more ad,bs++more=Qhi f c ad []∧Qqd f c ad:=by
 have aa:InB bs c0.p:=by rw[p0];exact .zero bs
 obtain⟨a1,a2,q,a3,a4,a5,a6,a7⟩:=QtE ab aa ag;have aj:=QtC (bs:=bs) (c:=c0) ab aa;have ac:=QFN aj.2.2 ah;rw[ae,p0]at a1 a2 a3;rw[ae]at a4 a5 a6;rw[a6]at ac;rw[Int.zero_add]at a2 a3;exact QvX ai a1 (by omega) a3 (Lb _) ac (λi hi _=>a4 i hi) c ak
end
def QC3 {bs:List Int}{c:Rr}(h:(ZC bs c).1≠4):bs.length=0∨((bs.getD 0 0==196)||((bs.getD 0 0==197)&&(c.x.f.map==1)&&!(c.x.f.w==1)))=true:=by
 unfold ZC at h
 by_cases q:bs.length=0;·exact .inl q
 rw[Le q]at h;refine .inr ?_
 by_cases aa:((bs.getD 0 0==197)&&(c.x.f.map==1)&&!(c.x.f.w==1))=true;·rw[aa,Bd]
 rw[Le aa]at h
 by_cases ab:(bs.getD 0 0==196)=false;·rw[Lc ab]at h;exact absurd rfl h
 have ac:(bs.getD 0 0==196)=true:=by simpa using ab
 rw[ac,N1]
def QC4 {L:List Fm}{bs:List Int}{f:Fm}{aq:List (List UInt8)}(ai:bs.length<=1000000)(ag:WO bs)(au:I64 f.code)(ad:f∈L)(an:∀g∈L,g.vex=false->Qo g∈aq)(ao:f.vex=false->∀l∈aq,ZD f l=false)
  (av:f.vex=false->Ga f f.code=true) (ap:f.vex=false->Xa ((stp f f.code).getD (Q4 f.pre).length 0)=false) (h:(QD bs f).e=9):f∈Q7 bs true 0 L:=by
 obtain⟨c0,aa,p0,ah⟩:=QA7 h;cases q:f.vex with
 | true=>
  have ae:Wc bs c0=ZC bs c0:=by unfold Wc;rw[aa,q];rfl
  have ar:(ZC bs c0).1≠4:=by rw[<- ae];rcases ah with h | ⟨h,_⟩<;>rw[h]<;>decide
  have ac:=QC3 ar;rw[aa]at ac
  by_cases ab:bs.length=0
  ·cases bs with
   | nil=>exact ad
   | cons _ _=>cases ab
  exact QvU q ad ab (ac.resolve_left ab)
 | false=>
  have ae:Wc bs c0=Kt bs c0:=by unfold Wc;rw[aa,q];rfl
  rw[ae]at ah;have ak:(∃more aj,bs++more=Qhi f f.code aj []∧Qqd f f.code aj)->f∈Q7 bs true 0 L:=by
   rintro⟨more,aj,ab,ac⟩;have:=Qst (rest:=[]) q (av q) ad an (ao q) ac;rw[<- ab]at this;exact Qhj f more bs _ _ _ this
  rcases ah with h | ⟨am,h | h⟩;·exact ak (QFO ai ag aa p0 h f.code (ap q))
  ·exact ak (QA8 ai ag aa p0 am h f.code (ap q))
  exact QnJ ai ag q au ad an (ao q) aa p0 am h
def QnK:List (List UInt8):=(List.range 8).flatMap λp=>(List.range 4).map λm=>Q4 (p:Nat)++WG (m:Nat)
def Qhk {bs:List Int}{c:Rr}(aa:bs.length<=1000000)(h:InB bs c.p)(q:(opF bs c).1=0):(opF bs c).2.p=c.p+1∧(opF bs c).2.x=c.x:=by
 have e:opF bs c=if(decide (Qh c.x.f.slots 4<0))=true then Wd bs c c.x.f.code
  else if(bs.length:Int)<=c.p then(9,c) else Wd bs {c with low:=ZA bs c.p} (IntKind.i64.wrap (c.x.f.code+ZA bs c.p)):=rfl
 rw[e]at q ⊢
 by_cases z:decide (Qh c.x.f.slots 4<0)=true;·rw[Lc z]at q ⊢;obtain⟨_,_,e⟩:=QaL aa h q;rw[e];exact⟨rfl,rfl⟩
 rw[Le z]at q ⊢
 by_cases g:(bs.length:Int)<=c.p;·rw[Lc g]at q;cases q
 rw[Le g]at q ⊢;obtain⟨_,_,e⟩:=QaL (c:={c with low:=ZA bs c.p}) aa h q;rw[e];exact⟨rfl,rfl⟩
def Qqh {bs:List Int}{c:Rr}(h:(ZC bs c).1=0):QcS (QT bs).1 c.x.f=false∧(ZC bs c).2.p=(QT bs).2.1∧(ZC bs c).2.x=c.x:=by
 have ad:∀c':Rr,(K8 bs c').1=0->QcS (QT bs).1 c'.x.f=false∧(K8 bs c').2.p=(QT bs).2.1∧(K8 bs c').2.x=c'.x:=λc' h=>by
  unfold K8 at h ⊢
  by_cases q:((QT bs).2.2==0)=false;·rw[Lc q]at h;have h:(QT bs).2.2=0:=h;rw[h]at q;cases q
  rw[Le q]at h ⊢
  by_cases aa:QcS (QT bs).1 c'.x.f=true;·rw[Lc aa]at h;cases h
  rw[Le aa]at h ⊢;split at h;·cases h
  rename_i ab;rw[Le ab];exact⟨by simpa using aa,rfl,rfl⟩
 unfold ZC at h ⊢
 by_cases q:bs.length=0;·rw[Lc q]at h;cases h
 rw[Le q]at h ⊢
 by_cases aa:((bs.getD 0 0==197)&&(c.x.f.map==1)&&!(c.x.f.w==1))=true;·rw[Lc aa]at h ⊢;exact ad c h
 rw[Le aa]at h ⊢
 by_cases ab:(bs.getD 0 0==196)=false;·rw[Lc ab]at h;cases h
 rw[Le ab]at h ⊢
 by_cases ac:bs.length<2;·rw[Lc ac]at h;cases h
 rw[Le ac]at h ⊢;split at h;·cases h
 rename_i ae;rw[Le ae];exact ad (ZB bs c) h
def pfx (c:Int):Bool:=(c==102)||(c==242)||(c==243)
def Qhl:List Int->List Int
 | []=>[]
 | c::cs=>bif Xa c then cs else bif pfx c then c::Qhl cs else c::cs
def Qsw (t:List Int):∀l:List Int,(∀x∈l,Xa x=false∧pfx x=true)->Qhl (l++t)=l++Qhl t
 | [],_=>rfl
 | x::l,h=>by
  obtain⟨q,aa⟩:=h x (Ny ..);show(bif Xa x then l++t else bif pfx x then x::Qhl (l++t) else x::(l++t))=_;rw[q,aa,Ls,Lq,Qsw t l λy ab=>h y (NA _ ab)];rfl
def QC5 {c:Int}{cs:List Int}(h:Xa c=false):∃r,Qhl (c::cs)=c::r:=by
 show ∃r,(bif Xa c then cs else bif pfx c then c::Qhl cs else c::cs)=c::r;rw[h,Ls];cases pfx c;·exact⟨cs,rfl⟩
 exact⟨Qhl cs,rfl⟩
def QjP {f:Fm}{c:Int}{ac rest:List Int}(h:Qqd f c ac):∃r,Qhl (Qhi f c ac rest)=stp f c++r:=by
 have ai:∀x∈(stp f c).take (Q4 f.pre).length,Xa x=false∧pfx x=true:=by
  intro x hx;obtain⟨j,ah,rfl⟩:=List.mem_iff_getElem.1 hx;rw[Sb]at ah;have ad:=Qzi f c j (by omega);have e:((stp f c).take (Q4 f.pre).length)[j]=(stp f c).getD j 0:=by rw[RK,LX,La (by omega)];rfl
  rw[e];exact ad
 have key:∀t r,Qhl t=(stp f c).drop (Q4 f.pre).length++r->Qhl ((stp f c).take (Q4 f.pre).length++t)=stp f c++r:=λt r h=>by
  rw[Qsw t _ ai,h,<- LQ,NW]
 unfold Qhi;rcases h with⟨rfl,q⟩ | ⟨r,rfl,q⟩
 ·rw[LH];have ab:(Q4 f.pre).length<(stp f c).length:=by rw[QcT,Jm,Lh];omega
  have ag:(stp f c).getD (Q4 f.pre).length 0=(stp f c)[(Q4 f.pre).length]:=by rw[LX,La ab];rfl
  rw[ag]at q;cases aa:WG f.map with
  | nil=>
   have e1:(stp f c).drop (Q4 f.pre).length=[c]:=by rw[Qlv,aa];rfl
   have e2:(stp f c)[(Q4 f.pre).length]=c:=by
    have:=Nh ab;rw[e1]at this;exact(Bf this).1.symm
   rw[e2]at q;obtain⟨r,aj⟩:=QC5 (cs:=rest) q;refine⟨r,key _ r ?_⟩;rw[e1];exact aj
  | cons b l=>
   have ae:b=15:=by
    have:=Qss f.map (by rw[aa];exact FH _);simp only[aa]at this;exact this
   subst ae;have e1:(stp f c).drop (Q4 f.pre).length=(15:Int)::(l.map (λb=>(b.toNat:Int))++[c]):=by rw[Qlv,aa];rfl
   refine⟨rest,key _ rest ?_⟩;rw[e1];rfl
 refine⟨rest,key _ rest ?_⟩;show(bif Xa r then((stp f c).drop (Q4 f.pre).length++rest) else _)=_;rw[q,Lq]
def Qqi (f:Fm)(c:Int){r:List Int}{j:Nat}(q:j<(Qo f).length):(stp f c++r)[j]? = some ((Qo f)[j].toNat:Int):=by
 unfold stp;rw[LQ,LY (by simpa using q),LD,La q];rfl
def Qqj (f:Fm)(c:Int){r:List Int}:(stp f c++r)[(Qo f).length]? = some c:=by
 unfold stp;rw[LQ,LR (by simp),Nn,BJ];rfl
def Qzl {f g:Fm}{c d:Int}{r s:List Int}(ac:Ga f c=true)(h:stp f c++r=stp g d++s)(q:(Qo f).length<(Qo g).length):ZD f (Qo g)=true:=by
 have t1:(Qo g).take (Qo f).length=Qo f:=by
  refine Rp (by rw[Sb];omega) λj ad aa=>?_;rw[RK];have e:=congrArg (λl=>l[j]?) h;rw[Qqi f c aa,Qqi g d (by omega)]at e;have:=Ly e;have ab:(Qo f)[j].toNat=(Qo g)[j].toNat:=by omega
  exact(BK.1 ab).symm
 have t2:(((Qo g).getD (Qo f).length 0).toNat:Int)=c:=by
  have e:=congrArg (λl=>l[(Qo f).length]?) h;rw[Qqj,Qqi g d q]at e;rw[LX,La q,NB];exact(Ly e).symm
 unfold ZD;rw[t1,t2,ac];simp[q]
def QA9 {f g:Fm}{c d:Int}{r s:List Int}(ae:Ga f c=true)(ag:Ga g d=true)(h:stp f c++r=stp g d++s)(q:ZD f (Qo g)=false)(aa:ZD g (Qo f)=false):Qo f=Qo g∧c=d:=by
 have ah:¬ (Qo f).length<(Qo g).length:=λab=>by rw[Qzl ae h ab]at q;cases q
 have ai:¬ (Qo g).length<(Qo f).length:=λab=>by rw[Qzl ag h.symm ab]at aa;cases aa
 have ac:(Qo f).length=(Qo g).length:=by omega
 have e1:Qo f=Qo g:=by
  refine Rp ac λj q aa=>?_;have e:=congrArg (λl=>l[j]?) h;rw[Qqi f c q,Qqi g d aa]at e;have:=Ly e;have ad:(Qo f)[j].toNat=(Qo g)[j].toNat:=by omega
  exact BK.1 ad
 refine⟨e1,?_⟩;have e:=congrArg (λl=>l[(Qo f).length]?) h;rw[Qqj,ac,Qqj]at e;exact Ly e
def QC6:((List.range 8).all λp=>(List.range 4).all λm=>(List.range 8).all λaa=>(List.range 4).all λq=>!((Q4 (p:Nat)++WG (m:Nat))==(Q4 (aa:Nat)++WG (q:Nat)))||(Nat.beq p aa&&Nat.beq m q))=true:=by kernel_rfl
def QrH (f:Fm):Bool:=
 decide (0<=f.code)&&decide (f.code<=255)&&Nat.beq f.shapes.length f.slots.length &&
 (f.vex||((f.l==0)&&decide (0<=f.pre)&&decide (f.pre<8)&&decide (0<=f.map)&&decide (f.map<4)&&Ga f f.code&&!Xa ((stp f f.code).getD (Q4 f.pre).length 0)&&(QnK.all λl=>!ZD f l)&&!((Qo f).isEmpty&&(Ga f 196||Ga f 197))))
structure Fit (f:Fm):Prop where
 l0:f.l=0
 p0:0<=f.pre
 p8:f.pre<8
 m0:0<=f.map
 m4:f.map<4
 op:Ga f f.code=true
 nr:Xa ((stp f f.code).getD (Q4 f.pre).length 0)=false
 no:∀l∈QnK,ZD f l=false
 nv:Qo f=[]->Ga f 196=false∧Ga f 197=false
def Qd8 {f:Fm}(h:QrH f=true):I64 f.code∧f.shapes.length=f.slots.length:=by
 unfold QrH at h;simp only[Lm,Lv]at h;exact⟨by unfold I64;omega,LA h.1.2⟩
def QaM {f:Fm}(h:QrH f=true)(ak:f.vex=false):Fit f:=by
 unfold QrH at h;simp only[Lm,Lv,ak,Nt,L0,Lr,Li]at h;obtain⟨_,⟨⟨⟨⟨⟨⟨⟨aa,ab⟩,ac⟩,ad⟩,ae⟩,ag⟩,ah⟩,ai⟩,q⟩:=h;refine⟨aa,ab,ac,ad,ae,ag,ah,ai,λe=>?_⟩;rw[e]at q;have aj:(Ga f 196||Ga f 197)=false:=q;exact BQ.1 aj
def Qly {f:Fm}(h:Fit f):Qo f∈QnK:=by
 unfold QnK;have p0:=h.p0;have p8:=h.p8;have m0:=h.m0;have m4:=h.m4;rw[NF];refine⟨f.pre.toNat,LU.2 (by omega),?_⟩;rw[N4];refine⟨f.map.toNat,LU.2 (by omega),?_⟩;rw[show((f.pre.toNat:Nat):Int)=f.pre by omega,show((f.map.toNat:Nat):Int)=f.map by omega,Jm]
def QC7 {f g:Fm}(q:Fit f)(aa:Fit g)(h:Qo f=Qo g):f.pre=g.pre∧f.map=g.map:=by
 have p0:=q.p0;have p8:=q.p8;have m0:=q.m0;have m4:=q.m4;have ad:=aa.p0;have ae:=aa.p8;have ab:=aa.m0;have ac:=aa.m4;have t:=Li.1 (Li.1 (Li.1 (Li.1 QC6 f.pre.toNat (LU.2 (by omega))) f.map.toNat (LU.2 (by omega))) g.pre.toNat (LU.2 (by omega))) g.map.toNat (LU.2 (by omega));rw[show((f.pre.toNat:Nat):Int)=f.pre by omega,show((f.map.toNat:Nat):Int)=f.map by omega,show((g.pre.toNat:Nat):Int)=g.pre by omega,show((g.map.toNat:Nat):Int)=g.map by omega,<- Jm,<- Jm,h,LO]at t;simp only[L8,Nt,Lm]at t;have e1:=LA t.1;have e2:=LA t.2;omega
def QFQ {f g:Fm}{c:Int}{aa ab rest ah:List Int}(q:Qhi f c aa rest=Qhi g c ab ah)(ae:f.pre=g.pre)(ag:stp f c=stp g c)(h:Qqd f c aa)(h':Qqd g c ab):aa=ab:=by
 unfold Qhi at q;unfold Qqd at h h';rw[<- ae,<- ag]at q h';have q:=List.append_cancel_left q;have ac:(Q4 f.pre).length<(stp f c).length:=by rw[QcT,Jm,Lh];omega
 have ad:(stp f c).getD (Q4 f.pre).length 0=(stp f c)[(Q4 f.pre).length]:=by rw[LX,La ac];rfl
 rw[Nh ac,<- ad]at q;generalize (stp f c).getD (Q4 f.pre).length 0=z at *;rcases h with⟨rfl,h⟩ | ⟨r,rfl,h⟩<;>rcases h' with⟨rfl,h'⟩ | ⟨ai,rfl,h'⟩;·rfl
 ·have:=(Bf q).1;rw[this,h']at h;cases h
 ·have:=(Bf q).1;rw[this,h']at h;cases h
 have:=(Bf q).1;rw[this]
def QvY {a b:Fm}{c:Int}(ac:0<=c)(ad:c<=255)(q:Ga a c=true)(aa:Ga b c=true):Qx8 a b=true:=by
 obtain⟨n,rfl⟩:∃n:Nat,c=n:=⟨c.toNat,by omega⟩;have ab:=Qlu (n:=n) (by omega);unfold Qsr at ab;simp only[Lm,L0]at ab;have e1:=ab.1.1.2;have e2:=ab.1.2;unfold Ga at q aa;unfold Qx8 QoI;generalize decide (0<=Qh a.slots 4)=A at *;generalize decide (0<=Qh b.slots 4)=B at *;cases A<;>cases B<;>simp only[Lq,Ls,L0,Lm]at *;·rw[e2]at q aa;exact⟨trivial,by omega⟩
 ·rw[e2]at q;rw[e1]at aa;refine⟨trivial,?_⟩;rw[Qlw _ (by unfold I64;omega)];omega
 ·rw[e1]at q;rw[e2]at aa;refine⟨?_,trivial⟩;rw[Qlw _ (by unfold I64;omega)];omega
 rw[e1]at q aa;rw[Qlw _ (by unfold I64;omega)];omega
def Qsx (f:Fm)(n:Int):Prop:=0<=Qh f.slots 2->G3 f n (f.shapes.getD (Qh f.slots 2).toNat 0)=true
def Qzm {bs:List Int}{c:Rr}(q:(Vj bs c).1=0):Qsx c.x.f (QQ bs c.p):=by
 intro hi;have e:Vj bs c=if decide (Qh c.x.f.slots 2<0)=true then(0,c)
  else if(bs.length:Int)<=c.p then(9,c)
  else if G3 c.x.f (QQ bs c.p) (c.x.f.shapes.getD (Qh c.x.f.slots 2).toNat 0)=false then(4,c)
  else if((rdF bs c.p c.xx c.bb).2==0)=false then((rdF bs c.p c.xx c.bb).2,c)
  else(0,{c with seen:=(rdF bs c.p c.xx c.bb).1,p:=(rdF bs c.p c.xx c.bb).1.ends}):=rfl
 rw[e]at q;rw[Le (by simp;omega)]at q
 by_cases g:(bs.length:Int)<=c.p;·rw[Lc g]at q;cases q
 rw[Le g]at q;cases aa:G3 c.x.f (QQ bs c.p) (c.x.f.shapes.getD (Qh c.x.f.slots 2).toNat 0) with
 | true=>rfl
 | false=>rw[Lc aa]at q;cases q
def QvZ {a b:Fm}{n:Int}(ao:a.shapes.length=a.slots.length)(ap:b.shapes.length=b.slots.length)(q:Qsx a n)(aa:Qsx b n):
  ((!decide (0<=Qh a.slots 2)||!decide (0<=Qh b.slots 2))||(!(decide (0<=a.digit)&&decide (0<=b.digit)&&!(a.digit==b.digit))&&!((Qoj a&&Qok b)||(Qok a&&Qoj b))))=true:=by
 unfold Qsx at q aa;have aq:=QoE a.slots 2;have ar:=QoE b.slots 2
 by_cases ag:0<=Qh a.slots 2
 ·by_cases ib:0<=Qh b.slots 2
  ·have q:=q ag;have aa:=aa ib;have an:Qd7 a=a.shapes.getD (Qh a.slots 2).toNat 0:=by unfold Qd7;rw[Lc ⟨ag,by omega⟩]
   have sb:Qd7 b=b.shapes.getD (Qh b.slots 2).toNat 0:=by unfold Qd7;rw[Lc ⟨ib,by omega⟩]
   rw[<- an]at q;rw[<- sb]at aa;have reg:∀f:Fm,Qoj f=true->G3 f n (Qd7 f)=true->(GM n 6==3)=true:=λf ac ab=>by
    unfold Qoj at ac;unfold G3 at ab;generalize Qd7 f=s at *;simp only[Lm,Lv]at ac;cases ad:GM n 6==3 with
    | true=>rfl
    | false=>
     rw[ad,Ls]at ab;have ae:szF s<0:=by unfold szF;repeat' (first | (split;· omega));omega
     rw[Lp ae]at ab;simp at ab
   have ah:∀f:Fm,Qok f=true->G3 f n (Qd7 f)=true->(GM n 6==3)=false:=λf ac ab=>by
    unfold Qok at ac;unfold G3 at ab;generalize Qd7 f=s at *;simp only[Nw,Lm,Lv,L0]at ac;cases ad:GM n 6==3 with
    | false=>rfl
    | true=>
     rw[ad,Lq]at ab;have ae:clF s=0:=by unfold clF;rw[Le (by omega),Le (by omega),Le (by omega),Le (by omega),Le (by omega),Le (by omega)]
     rw[ae]at ab;simp at ab
   have ak:(decide (0<=a.digit)&&decide (0<=b.digit)&&!(a.digit==b.digit))=false:=by
    unfold G3 at q aa;simp only[Lm,Lr]at q aa;have d1:=q.1;have d2:=aa.1
    by_cases ai:0<=a.digit
    ·by_cases aj:0<=b.digit;·simp only[Lp ai,Lp aj,LJ,Lu,L0]at d1 d2 ⊢;omega
     simp[aj]
    simp[ai]
   have am:((Qoj a&&Qok b)||(Qok a&&Qoj b))=false:=by
    cases r1:Qoj a<;>cases r2:Qok b<;>cases r3:Qok a<;>cases r4:Qoj b<;>first
     | rfl
     | (have:=reg a r1 q;rw[ah b r2 aa]at this;cases this)
     | (have:=reg b r4 aa;rw[ah a r3 q]at this;cases this)
   rw[ak,am];simp
  simp[ib]
 simp[ag]
def QmM {bs:List Int}{f:Fm}(aa:bs.length<=1000000)(ae:WO bs)(ak:I64 f.code)(aw:f.vex=false)(h:(QD bs f).e=0):
  ∃c q rest,Ga f c=true∧bs=Qhi f c q rest∧Qqd f c q∧wOf q=f.w∧0<=c∧c<=255∧Qsx f (QQ bs (((Qo f).length+q.length:Nat)+1)):=by
 obtain⟨c0,ac,p0,ad,ab,aj⟩:=Qqc h;have ap:Wc bs c0=Kt bs c0:=by unfold Wc;rw[ac,aw];rfl
 rw[ap]at ad ab aj;obtain⟨c,q,rest,aq,ar,au,av,ah,ai⟩:=Qsu aa ae ak ac p0 ad ab;have am:InB bs c0.p:=by rw[p0];exact .zero bs
 obtain⟨_,_,_,_,_,_,_,hx⟩:=QtE aa am ad;have an:=QtC (bs:=bs) (c:=c0) aa am;obtain⟨s1,s2⟩:=Qhk aa an.2.2 ab;have ao:=Qzm aj;obtain⟨b1,_⟩:=Qx7 aa ae (by rw[hx,ac];exact ak) an.2.2 ab;rw[s2,hx,ac,s1,ah]at ao;rw[ah]at b1;obtain⟨n,ax,ay,ag,az⟩:=ae.at (p:=(((Qo f).length+q.length:Nat):Int)) (by omega) b1;simp only[LG]at ag;exact⟨c,q,rest,aq,ar,au,av,by rw[ai,ag];omega,by rw[ai,ag];omega,ao⟩
def QmN {bs:List Int}{f:Fm}(ag:bs.length<=1000000)(am:WO bs)(an:I64 f.code)(ap:f.vex=true)(h:(QD bs f).e=0):
  QcS (QT bs).1 f=false∧Ga f (bs.getD (QT bs).2.1.toNat 0)=true∧(QT bs).2.1<bs.length∧Qsx f (QQ bs ((QT bs).2.1+1))∧bs.length≠0∧(bs.getD 0 0=196∨bs.getD 0 0=197):=by
 obtain⟨c0,q,p0,ab,ac,ad⟩:=Qqc h;have ak:Wc bs c0=ZC bs c0:=by unfold Wc;rw[q,ap];rfl
 rw[ak]at ab ac ad;obtain⟨ai,aa,v3⟩:=Qqh ab;obtain⟨aq,aj⟩:=Qzj ab;have ao:=Qty bs;have ae:InB bs (ZC bs c0).2.p:=by rw[aa];exact ao
 obtain⟨b1,b2⟩:=Qx7 ag am (by rw[v3,q];exact an) ae ac;obtain⟨s1,s2⟩:=Qhk ag ae ac;have ah:=Qzm ad;rw[s2,v3,q,s1,aa]at ah;rw[v3,q,aa]at b2;rw[aa]at b1;rw[q]at ai aj;refine⟨ai,b2,b1,ah,aq,?_⟩;rcases Nw _ _▸aj with h | h;·exact .inl (by simpa using h)
 simp only[Lm,L0]at h;exact .inr h.1.1
def QHa {bs:List Int}{f:Fm}(ai:bs.length<=1000000)(ah:WO bs)(ac:QrH f=true)(ad:f.vex=false)(h:(QD bs f).e=0)(ag:bs.length≠0)(aa:bs.getD 0 0=196∨bs.getD 0 0=197):False:=by
 obtain⟨c,ao,rest,a1,a2,a3,_⟩:=QmM ai ah (Qd8 ac).1 ad h;have ae:=QaM ac ad;obtain⟨r,q⟩:=QjP (rest:=rest) a3;rw[<- a2]at q;cases bs with
 | nil=>exact ag rfl
 | cons x t=>
  have aa:x=196∨x=197:=aa;have e:Qhl (x::t)=x::t:=by
   rcases aa with rfl | rfl<;>rfl
  rw[e]at q;cases ab:Qo f with
  | nil=>
   have:stp f c=[c]:=by unfold stp;rw[ab];rfl
   rw[this]at q;have hx:x=c:=(Bf q).1;obtain⟨am,an⟩:=ae.nv ab;rcases aa with e | e;·rw[<- hx,e,am]at a1;cases a1
   rw[<- hx,e,an]at a1;cases a1
  | cons b l=>
   have:stp f c=(b.toNat:Int)::(l.map (λb=>(b.toNat:Int))++[c]):=by unfold stp;rw[ab];rfl
   rw[this]at q;have hx:x=(b.toNat:Int):=(Bf q).1;obtain⟨aj,ak⟩:=Qsv f b (by rw[ab];exact Ny ..);rcases aa with e | e;·exact aj (BK.1 (show b.toNat=(196:UInt8).toNat by show b.toNat=196;omega))
   exact ak (BK.1 (show b.toNat=(197:UInt8).toNat by show b.toNat=197;omega))
def Qx9 {bs:List Int}{f g:Fm}(ab:bs.length<=1000000)(q:WO bs)(am:QrH f=true)(an:QrH g=true)(ak:(QD bs f).e=0)(ai:(QD bs g).e=0):Qlx f g=true:=by
 obtain⟨aw,aB⟩:=Qd8 am;obtain⟨aj,aC⟩:=Qd8 an;have ay:Qlx f g=((f.vex==g.vex)&&(f.pre==g.pre)&&(f.map==g.map)&&(f.l==g.l) &&
  !((!(f.w==g.w)&&!(f.w==-1)&&!(g.w==-1))||!Qx8 f g) &&
  ((!decide (0<=Qh f.slots 2)||!decide (0<=Qh g.slots 2))||(!(decide (0<=f.digit)&&decide (0<=g.digit)&&!(f.digit==g.digit))&&!((Qoj f&&Qok g)||(Qok f&&Qoj g))))):=rfl
 cases ac:f.vex with
 | false=>
  cases aa:g.vex with
  | false=>
   obtain⟨c,aR,rest,a1,a2,a3,a4,a5,a6,a7⟩:=QmM ab q aw ac ak;obtain⟨d,aS,aI,b1,b2,b3,b4,b5,b6,av⟩:=QmM ab q aj aa ai;have ag:=QaM am ac;have ah:=QaM an aa;obtain⟨r,az⟩:=QjP (rest:=rest) a3;obtain⟨s,aA⟩:=QjP (rest:=aI) b3;rw[<- a2]at az;rw[<- b2]at aA;obtain⟨e1,rfl⟩:=QA9 a1 b1 (az.symm.trans aA) (ag.no _ (Qly ah)) (ah.no _ (Qly ag));obtain⟨e2,e3⟩:=QC7 ag ah e1;have e4:stp f c=stp g c:=by unfold stp;rw[e1]
   have ax:=QFQ (a2.symm.trans b2) e2 e4 a3 b3;rw[<- ax,<- e1]at av;rw[<- ax]at b4;have ao:=QvZ aB aC a7 av;rw[ay,ao,QvY a5 a6 a1 b1,ac,aa,e2,e3,ag.l0,ah.l0,<- a4,<- b4];simp
  | true=>
   obtain⟨_,_,_,_,ap,aq⟩:=QmN ab q aj aa ai;exact(QHa ab q am ac ak ap aq).elim
 | true=>
  obtain⟨ar,aD,v3,aJ,ap,aq⟩:=QmN ab q aw ac ak;cases aa:g.vex with
  | false=>exact(QHa ab q an aa ai ap aq).elim
  | true=>
   obtain⟨au,aE,aT,aK,_⟩:=QmN ab q aj aa ai;have ao:=QvZ aB aC aJ aK;have aG:=Qty bs;obtain⟨n,k1,k2,k3,k4⟩:=q.at aG.1 v3;rw[k3]at aD aE;have aF:=QvY (by omega) (by omega) aD aE;unfold QcS at ar au;simp only[BQ,Lu,L0,BG]at ar au;obtain⟨⟨⟨aL,ad⟩,aM⟩,aN⟩:=ar;obtain⟨⟨⟨aO,ae⟩,aP⟩,aQ⟩:=au;have aH:(!(f.w==g.w)&&!(f.w==-1)&&!(g.w==-1))=false:=by
    rcases ad with ad | ad;·simp[ad]
    rcases ae with ae | ae;·simp[ae]
    simp[<- ad,<- ae]
   rw[ay,ao,aF,ac,aa,aH,<- aL,<- aO,<- aM,<- aP,<- aN,<- aQ];simp
def MoR (c:Rr)(J K:Nat)(r:Int×Rr):Prop:=r.1=0->c.p+J<=r.2.p∧r.2.p<=c.p+K
def SbR (n d:Nat)(r q:Int×Rr):Prop:=(r.1=9∧(q.1=0->(n:Int)<q.2.p+d))∨q=r
structure Stp (P:Rr->Prop) (J d:Nat) (K:Fm->Nat) (g:List Int->Rr->Int×Rr):Prop where
 mo:∀bs c,bs.length<=1000000->InB bs c.p->P c->MoR c J (K c.x.f) (g bs c)
 sb:∀bs more c,(bs++more).length<=1000000->InB bs c.p->P c->SbR bs.length d (g bs c) (g (bs++more) c)
 kp:∀bs c,bs.length<=1000000->InB bs c.p->Jl bs c (g bs c).2
def tru (_:Rr):Prop:=True
def thn (a b:List Int->Rr->Int×Rr)(bs:List Int)(c:Rr):Int×Rr:=if((a bs c).1==0)=true then b bs (a bs c).2 else a bs c
def InB.more {bs more:List Int}{p:Int}(h:InB bs p):InB (bs++more) p:=by
 unfold InB at *;rw[Lh];omega
def QeU {bs more:List Int}(h:(bs++more).length<=1000000):bs.length<=1000000:=by rw[Lh]at h;omega
def Stp.then {P:Rr->Prop}{Ja Jb ah ai d:Nat}{Ka Kb:Fm->Nat}{a b:List Int->Rr->Int×Rr}(ac:Stp P Ja ah Ka a)(ae:Stp tru Jb ai Kb b)(ak:ah<=Jb+d)(aj:ai<=d):Stp P (Ja+Jb) d (λf=>Ka f+Kb f) (thn a b):=by
 refine⟨λbs c aa ab ag q=>?_,λbs more c aa ab ag=>?_,λbs c aa ab=>?_⟩
 ·have ad:=ac.kp bs c aa ab;unfold thn at q ⊢
  by_cases z:((a bs c).1==0)=true;·rw[Lc z]at q ⊢;have ak:=ac.mo bs c aa ab ag (by simpa using z);have aj:=ae.mo bs (a bs c).2 aa ad.2.2 trivial q;rw[ad.1]at aj;omega
  rw[Le z]at q;rw[q]at z;exact absurd rfl z
 ·have am:=QeU aa;unfold thn;rcases ac.sb bs more c aa ab ag with⟨e1,e2⟩ | h
  ·rw[Le (by rw[e1];decide)];refine .inl ⟨e1,λq=>?_⟩
   by_cases z:((a (bs++more) c).1==0)=true;·rw[Lc z]at q ⊢;have an:=e2 (by simpa using z);have ao:=(ae.mo (bs++more) _ aa (ac.kp _ c aa ab.more).2.2 trivial q).1;omega
   rw[Le z]at q;rw[q]at z;exact absurd rfl z
  rw[h]
  by_cases z:((a bs c).1==0)=true
  ·rw[Lc z,Lc z];rcases ae.sb bs more _ aa (ac.kp bs c am ab).2.2 trivial with⟨e1,e2⟩ | h;·exact .inl ⟨e1,λq=>by have:=e2 q;omega⟩
   exact .inr h
  rw[Le z,Le z];exact .inr rfl
 have ad:=ac.kp bs c aa ab;unfold thn;split;·exact ad.trans (ae.kp bs _ aa ad.2.2)
 exact ad
def Stp.le {P Q:Rr->Prop}{J J' d d':Nat}{K K':Fm->Nat}{g:List Int->Rr->Int×Rr}(h:Stp P J d K g)(ad:∀c,Q c->P c)(ah:J'<=J)(ag:d<=d')(ae:∀f,K f<=K' f):Stp Q J' d' K' g:=
 ⟨λbs c aa ab ac q=>by have:=h.mo bs c aa ab (ad c ac) q;have:=ae c.x.f;omega,λbs more c aa ab ac=>by
  rcases h.sb bs more c aa ab (ad c ac) with⟨e1,e2⟩ | h;·exact .inl ⟨e1,λq=>by have:=e2 q;omega⟩
  exact .inr h,h.kp⟩
def Qhm {bs more:List Int}{p:Int}(q:0<=p)(h:p<bs.length):(bs++more).getD p.toNat 0=bs.getD p.toNat 0:=by
 rw[LX,LX,LY (by omega)]
def Qsy {bs more:List Int}{p:Int}(q:0<=p)(h:p<bs.length):QQ (bs++more) p=QQ bs p:=by unfold QQ;rw[Qhm q h]
def QeV (bs more:List Int):(bs.length:Int)<=(bs++more).length:=by rw[Lh];omega
def QtG (n:Int):Stp tru 1 0 (λ_=>1) (λbs c=>Wd bs c n):=by
 refine⟨λbs c aa q _ ab=>?_,λbs more c aa q _=>?_,λbs c aa q=>Qqa aa n q⟩
 ·have h:(Wd bs c n).2.p=c.p+1:=by rw[(QaL aa q ab).2.2]
  show _<=(Wd bs c n).2.p∧(Wd bs c n).2.p<=_;omega
 have ad:=QeV bs more
 by_cases h:(bs.length:Int)<=c.p
 ·have e:Wd bs c n=(9,c):=by unfold Wd Qb6;rw[Lc h]
  rw[e];refine .inl ⟨rfl,λab=>?_⟩;have ac:(Wd (bs++more) c n).2.p=c.p+1:=by rw[(QaL aa q.more ab).2.2]
  show _<(Wd (bs++more) c n).2.p+_;omega
 right;show Wd (bs++more) c n=Wd bs c n;unfold Wd Qb6;rw[Le h,Le (by have:=q.1;omega),Qhm q.1 (by omega)]
def QIt:Stp tru 0 0 (λ_=>0) (λ_ c=>((0:Int),c)):=
 ⟨λbs c aa q _ _=>(by show c.p+((0:Nat):Int)<=c.p∧c.p<=c.p+((0:Nat):Int);omega),λbs more c aa q _=>.inr rfl,λbs c aa q=>.self q⟩
def QtH:∀l:List UInt8,Stp tru 0 0 (λ_=>l.length) (λbs c=>JW bs l c)
 | []=>QIt
 | n::l=>((QtG n.toNat).then (QtH l) (L7 _) (Lb _)).le (λ_ h=>h) (L7 _) (Lb _) λ_=>by rw[Lo];omega
def Stp.byF {P:Rr->Prop}{J d:Nat}{K:Fm->Nat}{g:Fm->List Int->Rr->Int×Rr}(h:∀f,Stp P J d (λ_=>K f) (g f)):Stp P J d K (λbs c=>g c.x.f bs c):=
 ⟨λbs c q aa=>(h c.x.f).mo bs c q aa,λbs more c q aa=>(h c.x.f).sb bs more c q aa,λbs c q aa=>(h c.x.f).kp bs c q aa⟩
def QIu {bs:List Int}{c:Rr}(q:bs.length<=1000000)(aa:InB bs c.p):Jl bs c (X5 bs c).2:=by
 have e:(X5 bs c).2.x=c.x∧(X5 bs c).2.bv=c.bv:=by
  unfold X5
  repeat' split
  ·exact⟨rfl,rfl⟩
  ·rw[QbN];exact⟨rfl,rfl⟩
  rw[QbN];exact⟨rfl,rfl⟩
 exact⟨e.1,e.2,Qp5 aa q⟩
def QFR:Stp tru 0 1 (λ_=>1) X5:=by
 refine⟨λbs c aa q _ ab=>?_,λbs more c aa q _=>?_,λbs c aa q=>QIu aa q⟩;·obtain⟨_,_,h⟩:=QoH aa q ab;rw[h];split<;>omega
 have ac:=QeV bs more
 by_cases h:(bs.length:Int)<=c.p
 ·have e:X5 bs c=(9,c):=by unfold X5;rw[Lc h]
  rw[e];refine .inl ⟨rfl,λab=>?_⟩;obtain⟨_,_,h⟩:=QoH aa q.more ab;rw[h];split<;>omega
 right;unfold X5;rw[Le h,Le (by have:=q.1;omega),Qsy q.1 (by omega)]
def QC8:Stp tru 0 1 (λf=>1+(WG f.map).length) Qd4:=
 QFR.then (Stp.byF (K:=λf=>(WG f.map).length) (g:=λf bs c=>JW bs (WG f.map) c) λf=>QtH _) (Lb _) (L7 _)
def Qzn:Stp tru 0 1 (λf=>(Q4 f.pre).length+(1+(WG f.map).length)) Kt:=by
 have h:=(Stp.byF (K:=λf=>(Q4 f.pre).length) (g:=λf bs c=>JW bs (Q4 f.pre) c) λf=>QtH _).then QC8 (d:=1) (L7 _) (Lb _);have e:thn (λbs c=>JW bs (Q4 c.x.f.pre) c) Qd4=Kt:=by
  funext bs c;rw[Qhh];rfl
 rw[e]at h;exact h
def QC9:Stp tru 1 0 (λ_=>1) opF:=by
 have key:∀bs c,opF bs c=if(decide (Qh c.x.f.slots 4<0))=true then Wd bs c c.x.f.code else if(bs.length:Int)<=c.p then(9,c) else Wd bs {c with low:=ZA bs c.p} (IntKind.i64.wrap (c.x.f.code+ZA bs c.p)):=λ_ _=>rfl
 refine⟨λbs c aa q _ ac=>?_,λbs more c aa q _=>?_,λbs c aa q=>QCT aa q⟩;·have:=(Qhk aa q ac).1;omega
 have ae:=QeV bs more;rw[key,key]
 by_cases ab:(decide (Qh c.x.f.slots 4<0))=true;·rw[Lc ab,Lc ab];exact(QtG c.x.f.code).sb bs more c aa q trivial
 rw[Le ab,Le ab]
 by_cases h:(bs.length:Int)<=c.p;·rw[Lc h];refine .inl ⟨rfl,λac=>?_⟩;have ad:=(Qhk (c:=c) aa q.more (by rw[key,Le ab];exact ac)).1;rw[key,Le ab]at ad;rw[ad];omega
 rw[Le h,Le (by have:=q.1;omega)];have e:ZA (bs++more) c.p=ZA bs c.p:=by unfold ZA;rw[Qhm q.1 (by omega)]
 rw[e];exact(QtG _).sb bs more _ aa q trivial
def Qd9 {bs more:List Int}{k:Nat}(h:k<bs.length):(bs++more).getD k 0=bs.getD k 0:=by
 rw[LX,LX,LY h]
def Qqk {bs:List Int}(h:(QT bs).2.2=0):2<=(QT bs).2.1∧(QT bs).2.1<=3:=by
 have key:∀ (x:Vd×Int×Int),x=QT bs->x.2.2=0->2<=x.2.1∧x.2.1<=3:=λx e h=>by
  unfold QT at e
  repeat' split at e
  all_goals (rw[e]at h ⊢;first | (cases h;done) | exact⟨by simp,by simp⟩)
 exact key _ rfl h
def QDa {bs more:List Int}:((QT bs).2.2=9∧((QT (bs++more)).2.2=0->(bs.length:Int)<(QT (bs++more)).2.1))∨QT (bs++more)=QT bs:=by
 have ae:bs.length<=(bs++more).length:=by rw[Lh];omega
 by_cases q:bs.length=0
 ·have e:QT bs=(ZQ,0,9):=by unfold QT;rw[Lc q]
  rw[e];exact .inl ⟨rfl,λh=>by have:=Qqk h;omega⟩
 have aa:(bs++more).getD 0 0=bs.getD 0 0:=Qd9 (by omega)
 by_cases ab:bs.length<2
 ·by_cases z:(bs.getD 0 0==197)=true
  ·have e:QT bs=(ZQ,0,9):=by unfold QT;rw[Le q,Lc z,Lc ab]
   rw[e];exact .inl ⟨rfl,λh=>by have:=Qqk h;omega⟩
  by_cases y:(bs.getD 0 0==196)=false;·right;unfold QT;rw[Le q,Le (by omega),aa,Le z,Lc y,Le z,Lc y]
  have e:QT bs=(ZQ,0,9):=by unfold QT;rw[Le q,Le z,Le y,Lc ab]
  rw[e];exact .inl ⟨rfl,λh=>by have:=Qqk h;omega⟩
 have g1:(bs++more).getD 1 0=bs.getD 1 0:=Qd9 (by omega)
 by_cases z:(bs.getD 0 0==197)=true;·right;unfold QT;rw[Le q,Le (by omega),aa,Lc z,Lc z,Le ab,Le (by omega),g1]
 by_cases y:(bs.getD 0 0==196)=false;·right;unfold QT;rw[Le q,Le (by omega),aa,Le z,Lc y,Le z,Lc y]
 by_cases x:(decide (XF (KN (IntKind.i64.wrap (bs.getD 1 0)) 224) 31<1)||decide (3<XF (KN (IntKind.i64.wrap (bs.getD 1 0)) 224) 31))=true;·right;unfold QT;rw[Le q,Le (by omega),aa,Le z,Le y,Le z,Le y,Le ab,Le (by omega),g1,Lc x,Lc x]
 by_cases ac:bs.length<3
 ·have e:QT bs=(ZQ,0,9):=by unfold QT;rw[Le q,Le z,Le y,Le ab,Le x,Lc ac]
  rw[e];refine .inl ⟨rfl,λh=>?_⟩
  by_cases ad:(bs++more).length<3
  ·have e:QT (bs++more)=(ZQ,0,9):=by unfold QT;rw[Le (by omega),aa,Le z,Le y,Le (by omega),g1,Le x,Lc ad]
   rw[e]at h;cases h
  have e:(QT (bs++more)).2.1=3:=by unfold QT;rw[Le (by omega),aa,Le z,Le y,Le (by omega),g1,Le x,Le ad]
  rw[e];omega
 right;unfold QT;have g2:(bs++more).getD 2 0=bs.getD 2 0:=Qd9 (by omega);rw[Le q,Le (by omega),aa,Le z,Le y,Le z,Le y,Le ab,Le (by omega),g1,Le x,Le x,Le ac,Le (by omega),g2]
def QtI {bs:List Int}{c:Rr}(h:(K8 bs c).1=0):(QT bs).2.2=0∧(K8 bs c).2.p=(QT bs).2.1:=by
 unfold K8 at h ⊢
 by_cases q:((QT bs).2.2==0)=false;·rw[Lc q]at h;have h:(QT bs).2.2=0:=h;rw[h]at q;cases q
 rw[Le q]at h ⊢;have aa:(QT bs).2.2=0:=by simpa using q
 repeat' split
 all_goals exact⟨aa,rfl⟩
def Qv0 {bs more:List Int}{c:Rr}:SbR bs.length 0 (K8 bs c) (K8 (bs++more) c):=by
 rcases @QDa bs more with⟨q,aa⟩ | h
 ·have e:K8 bs c=(9,c):=by unfold K8;rw[q,Lc (by decide)]
  rw[e];refine .inl ⟨rfl,λh=>?_⟩;obtain⟨ab,ac⟩:=QtI h;rw[ac];have:=aa ab;omega
 right;unfold K8 QvK;rw[h]
def QDb:Stp (λc=>c.p=0) 1 0 (λ_=>3) ZC:=by
 refine⟨λbs c ah ad ag q=>?_,λbs more c ah ad ag=>?_,λbs c ah ad=>QCS ad⟩
 ·have aa:=(Qqh q).2.1;have ac:(QT bs).2.2=0:=by
   unfold ZC at q
   by_cases aa:bs.length=0;·rw[Lc aa]at q;cases q
   rw[Le aa]at q;split at q;·exact(QtI q).1
   split at q;·cases q
   split at q;·cases q
   split at q;·cases q
   exact(QtI q).1
  have:=Qqk ac;rw[aa,ag];omega
 have ai:bs.length<=(bs++more).length:=by rw[Lh];omega
 have ae:∀n:Nat,n<2->(ZC (bs++more) c).1=0->(n:Int)<(ZC (bs++more) c).2.p+(0:Nat):=λn aj h=>by
  have aa:=(Qqh h).2.1;have ac:(QT (bs++more)).2.2=0:=by
   unfold ZC at h
   repeat' split at h
   all_goals first | cases h | exact(QtI h).1
  have:=Qqk ac;omega
 by_cases q:bs.length=0
 ·have e:ZC bs c=(9,c):=by unfold ZC;rw[Lc q]
  rw[e];exact .inl ⟨rfl,ae bs.length (by omega)⟩
 have ab:(bs++more).getD 0 0=bs.getD 0 0:=Qd9 (by omega);have key:∀ (l:List Int),l.length≠0->ZC l c=if((l.getD 0 0==197)&&(c.x.f.map==1)&&!(c.x.f.w==1))=true then K8 l c
   else if(l.getD 0 0==196)=false then(4,c) else if l.length<2 then(9,c)
   else if(!(XF (IntKind.i64.wrap (l.getD 1 0)) 31==c.x.f.map)||!Xu c.x.f (ZB l c).r (ZB l c).xx (ZB l c).bb)=true then(4,ZB l c) else K8 l (ZB l c):=λl h=>by unfold ZC;rw[Le h]
 by_cases z:((bs.getD 0 0==197)&&(c.x.f.map==1)&&!(c.x.f.w==1))=true;·rw[key bs q,key (bs++more) (by omega),ab,Lc z,Lc z];exact Qv0
 by_cases y:(bs.getD 0 0==196)=false;·right;rw[key bs q,key (bs++more) (by omega),ab,Le z,Le z,Lc y,Lc y]
 by_cases aa:bs.length<2
 ·have e:ZC bs c=(9,c):=by rw[key bs q,Le z,Le y,Lc aa]
  rw[e];exact .inl ⟨rfl,ae bs.length (by omega)⟩
 have g1:(bs++more).getD 1 0=bs.getD 1 0:=Qd9 (by omega);have e3:ZB (bs++more) c=ZB bs c:=by unfold ZB;rw[g1]
 rw[key bs q,key (bs++more) (by omega),ab,Le z,Le z,Le y,Le y,Le aa,Le (show ¬ (bs++more).length<2 by omega),g1,e3]
 by_cases x:(!(XF (IntKind.i64.wrap (bs.getD 1 0)) 31==c.x.f.map)||!Xu c.x.f (ZB bs c).r (ZB bs c).xx (ZB bs c).bb)=true;·rw[Lc x,Lc x];exact .inr rfl
 rw[Le x,Le x];exact Qv0
def hdK (f:Fm):Nat:=if f.vex=true then 3 else(Q4 f.pre).length+(1+(WG f.map).length)
def Qv1:Stp (λc=>c.p=0) 0 1 hdK Wc:=by
 have e:∀c:Rr,c.x.f.vex=true->∀bs,Wc bs c=ZC bs c:=λc h bs=>by unfold Wc;rw[h];rfl
 have e':∀c:Rr,¬c.x.f.vex=true->∀bs,Wc bs c=Kt bs c:=λc h bs=>by unfold Wc;rw[(by simpa using h:c.x.f.vex=false)];rfl
 have ad:=QDb.le (P:=λc=>c.p=0) (Q:=λc=>c.p=0) (J':=0) (d':=1) (K':=λ_=>3) (λ_ h=>h) (by omega) (by omega) (λ_=>Lb _);refine⟨λbs c aa ab ac=>?_,λbs more c aa ab ac=>?_,λbs c aa ab=>QtD aa ab⟩
 ·by_cases q:c.x.f.vex=true;·rw[e c q];unfold hdK;rw[Lc q];exact ad.mo bs c aa ab ac
  rw[e' c q];unfold hdK;rw[Le q];exact Qzn.mo bs c aa ab trivial
 by_cases q:c.x.f.vex=true;·rw[e c q,e c q];exact ad.sb bs more c aa ab ac
 rw[e' c q,e' c q];exact Qzn.sb bs more c aa ab trivial
def Qv2 {bs more:List Int}{p:Nat}:∀i:Nat,p+i<=bs.length->Qlj (bs++more) p i=Qlj bs p i
 | 0,_=>rfl
 | i+1,h=>by
  unfold Qlj;rw[Qv2 i (by omega),Qd9 (by omega)]
def QIv {bs:List Int}{p sz:Int}{aa:Bool}(ab:0<=p)(ac:p<=bs.length)(q:GA sz=true)(h:(bs.length:Int) - p<sz):Q3 bs p sz aa=(0,9):=by
 unfold Q3;rw[Le (by rw[q];decide),Le (by simp;omega),Lc h]
def Qlz {bs more:List Int}{p sz:Int}{aa:Bool}(ac:0<=p)(ab:p<=bs.length):((Q3 bs p sz aa).2=9∧(bs.length:Int)<p+sz)∨Q3 (bs++more) p sz aa=Q3 bs p sz aa:=by
 have ae:=QeV bs more;cases q:GA sz with
 | false=>
  right;unfold Q3;rw[Lc q,Lc q]
 | true=>
  have ad:0<=sz:=by
   simp only[GA,Nw,L0]at q;omega
  by_cases h:(bs.length:Int) - p<sz;·rw[QIv ac ab q h];exact .inl ⟨rfl,by omega⟩
  right;have key:∀l:List Int,p<=l.length->¬ (l.length:Int) - p<sz->Q3 l p sz aa=if aa=true then(Qaz (IntKind.i64.wrap (Qlj l p.toNat sz.toNat)) (8 * sz),0) else(IntKind.i64.wrap (Qlj l p.toNat sz.toNat),0):=λl a b=>by
   unfold Q3;rw[Le (by rw[q];decide),Le (by simp;omega),Le b]
  rw[key bs ab h,key (bs++more) (by omega) (by omega),Qv2 _ (by omega)]
def VA {bs:List Int}{p sz:Int}{aa:Bool}(h:(Q3 bs p sz aa).2=0):0<=p∧p+sz<=bs.length:=by
 unfold Q3 at h;split at h;·cases h
 split at h;·cases h
 rename_i q;split at h;·cases h
 simp at q;omega
def SrR (n:Nat)(r q:Sn×Int):Prop:=(r.2=9∧(q.2=0->(n:Int)<q.1.ends))∨q=r
def Qql (md:Int)(m:Mm):WK md m=0∨WK md m=1∨WK md m=4:=by
 unfold WK
 repeat' split
 all_goals simp
def Qzo {mid p:Int}{m:Mm}(h:(Qd2 mid p m).2=0):(Qd2 mid p m).1.ends=p:=by
 unfold Qd2 at h ⊢;split;·rfl
 rename_i q;rw[Le q]at h;cases h
def Qqm {bs:List Int}{p md mid:Int}{m:Mm}(aa:bs.length<=1000000)(q:InB bs p)(h:(WC bs p md mid m).2=0):(WC bs p md mid m).1.ends=p+WK md m:=by
 have ab:=Qql md m;unfold InB at q;unfold WC at h ⊢
 by_cases z:(WK md m==0)=true;·rw[Lc z]at h ⊢;rw[Qzo h,eq_of_beq z];omega
 rw[Le z]at h ⊢
 by_cases y:((Q3 bs p (WK md m) true).2==0)=true;·rw[Lc y]at h ⊢;rw[Qzo h,w64 (by unfold I64;omega)]
 rw[Le y]at h;have h:(Q3 bs p (WK md m) true).2=0:=h;rw[h]at y;exact absurd rfl y
def QjQ {bs more:List Int}{p md mid:Int}{m:Mm}(ab:(bs++more).length<=1000000)(q:InB bs p):SrR bs.length (WC bs p md mid m) (WC (bs++more) p md mid m):=by
 by_cases z:(WK md m==0)=true;·right;unfold WC;rw[Lc z,Lc z]
 rcases @Qlz bs more p (WK md m) true q.1 q.2 with⟨aa,ac⟩ | h
 ·have e:WC bs p md mid m=(QK,9):=by unfold WC;rw[Le z,Le (by rw[aa];decide),aa]
  rw[e];exact .inl ⟨rfl,λh=>by rw[Qqm ab q.more h];omega⟩
 right;unfold WC;rw[h]
def Qzp {bs:List Int}{p md mid x bb:Int}(q:bs.length<=1000000)(ab:InB bs p)(h:(K5 bs p md mid x bb).2=0):p+1<=(K5 bs p md mid x bb).1.ends∧(K5 bs p md mid x bb).1.ends<=p+5:=by
 unfold K5 at h ⊢
 by_cases z:((Q3 bs p 1 false).2==0)=true
 ·rw[Lc z]at h ⊢;have aa:=VA (eq_of_beq z);have e1:IntKind.i64.wrap (p+1)=p+1:=w64 (by unfold I64;omega)
  by_cases y:((Qd1 (Q3 bs p 1 false).1 md x bb).2==0)=true;·rw[Lc y]at h ⊢;rw[e1]at h ⊢;rw[Qqm q ⟨by omega,by omega⟩ h];have:=Qql md (Qd1 (Q3 bs p 1 false).1 md x bb).1;omega
  rw[Le y]at h;have h:(Qd1 (Q3 bs p 1 false).1 md x bb).2=0:=h;rw[h]at y;exact absurd rfl y
 rw[Le z]at h;have h:(Q3 bs p 1 false).2=0:=h;rw[h]at z;exact absurd rfl z
def QBa {bs more:List Int}{p md mid x bb:Int}(aa:(bs++more).length<=1000000)(ab:InB bs p):SrR bs.length (K5 bs p md mid x bb) (K5 (bs++more) p md mid x bb):=by
 have ad:=QeU aa;rcases @Qlz bs more p 1 false ab.1 ab.2 with⟨q,ac⟩ | h
 ·have e:K5 bs p md mid x bb=(QK,9):=by unfold K5;rw[Le (by rw[q];decide),q]
  rw[e];exact .inl ⟨rfl,λh=>by have:=Qzp aa ab.more h;omega⟩
 unfold K5;rw[h]
 by_cases z:((Q3 bs p 1 false).2==0)=true
 ·have q:=VA (eq_of_beq z);have e1:IntKind.i64.wrap (p+1)=p+1:=w64 (by unfold I64;omega);rw[Lc z,Lc z,e1]
  by_cases y:((Qd1 (Q3 bs p 1 false).1 md x bb).2==0)=true;·rw[Lc y,Lc y];exact QjQ aa ⟨by omega,by omega⟩
  rw[Le y,Le y];exact .inr rfl
 rw[Le z,Le z];exact .inr rfl
def QDc {bs:List Int}{p md mid rm x bb:Int}(ad:bs.length<=1000000)(ae:InB bs p)(h:(JV bs p md mid rm x bb).2=0):p<=(JV bs p md mid rm x bb).1.ends∧(JV bs p md mid rm x bb).1.ends<=p+5:=by
 have ag:∀m:Mm,(WC bs p md mid m).2=0->p<=(WC bs p md mid m).1.ends∧(WC bs p md mid m).1.ends<=p+5:=λm h=>by
  rw[Qqm ad ae h];have:=Qql md m;omega
 unfold JV at h ⊢;split;·rename_i q;rw[Lc q]at h;cases h
 rename_i q;rw[Le q]at h;split;·show p<=p∧p<=p+5;omega
 rename_i ah;rw[Le ah]at h;split;·rename_i aa;rw[Lc aa]at h;have:=Qzp ad ae h;omega
 rename_i aa;rw[Le aa]at h;split
 ·rename_i ab;rw[Lc ab]at h;split;·rename_i ac;rw[Lc ac]at h;cases h
  rename_i ac;rw[Le ac]at h;exact ag _ h
 rename_i ab;rw[Le ab]at h;exact ag _ h
def Qya {bs more:List Int}{p md mid rm x bb:Int}(ae:(bs++more).length<=1000000)(ag:InB bs p):SrR bs.length (JV bs p md mid rm x bb) (JV (bs++more) p md mid rm x bb):=by
 unfold JV
 by_cases q:(x==1&&(md==3||!(rm==4)))=true;·rw[Lc q,Lc q];exact .inr rfl
 rw[Le q,Le q]
 by_cases aa:(md==3)=true;·rw[Lc aa,Lc aa];exact .inr rfl
 rw[Le aa,Le aa]
 by_cases ab:(rm==4)=true;·rw[Lc ab,Lc ab];exact QBa ae ag
 rw[Le ab,Le ab]
 by_cases ac:(md==0&&rm==5)=true
 ·rw[Lc ac,Lc ac]
  by_cases ad:(bb==1)=true;·rw[Lc ad,Lc ad];exact .inr rfl
  rw[Le ad,Le ad];exact QjQ ae ag
 rw[Le ac,Le ac];exact QjQ ae ag
def QHb {bs:List Int}{p x bb:Int}(aa:bs.length<=1000000)(h:(rdF bs p x bb).2=0):p+1<=(rdF bs p x bb).1.ends∧(rdF bs p x bb).1.ends<=p+6:=by
 unfold rdF at h ⊢;split;·rename_i q;rw[Lc q]at h;cases h
 rename_i q;rw[Le q]at h
 by_cases z:((Q3 bs p 1 false).2==0)=true;·rw[Lc z]at h ⊢;have q:=VA (eq_of_beq z);have e1:IntKind.i64.wrap (p+1)=p+1:=w64 (by unfold I64;omega);rw[e1]at h ⊢;have:=QDc aa ⟨by omega,by omega⟩ h;omega
 rw[Le z]at h;have h:(Q3 bs p 1 false).2=0:=h;rw[h]at z;exact absurd rfl z
def QFS {bs more:List Int}{p x bb:Int}(ab:(bs++more).length<=1000000)(q:InB bs p):SrR bs.length (rdF bs p x bb) (rdF (bs++more) p x bb):=by
 have ae:=QeU ab;have ad:=QeV bs more;have a1:decide ((bs.length:Int)<p)=false:=Lj (by have:=q.2;omega);have a2:decide (((bs++more).length:Int)<p)=false:=Lj (by have:=q.2;omega);have key:∀l:List Int,decide ((l.length:Int)<p)=false->rdF l p x bb=if(decide (p<0)||false||decide (x<0)||decide (1<x)||decide (bb<0)||decide (1<bb))=true then(QK,5)
   else if((Q3 l p 1 false).2==0)=true then JV l (IntKind.i64.wrap (p+1)) (QP (Q3 l p 1 false).1).1 (QP (Q3 l p 1 false).1).2.1 (QP (Q3 l p 1 false).1).2.2 x bb
   else(QK,(Q3 l p 1 false).2):=λl h=>by unfold rdF;rw[h]
 by_cases z:(decide (p<0)||false||decide (x<0)||decide (1<x)||decide (bb<0)||decide (1<bb))=true;·rw[key bs a1,key _ a2,Lc z,Lc z];exact .inr rfl
 rcases @Qlz bs more p 1 false q.1 q.2 with⟨aa,ac⟩ | h
 ·have e:rdF bs p x bb=(QK,9):=by rw[key bs a1,Le z,Le (by rw[aa];decide),aa]
  rw[e];exact .inl ⟨rfl,λh=>by have:=QHb ab h;omega⟩
 rw[key bs a1,key _ a2,Le z,Le z,h]
 by_cases y:((Q3 bs p 1 false).2==0)=true;·have aa:=VA (eq_of_beq y);have e1:IntKind.i64.wrap (p+1)=p+1:=w64 (by unfold I64;omega);rw[Lc y,Lc y,e1];exact Qya ab ⟨by omega,by omega⟩
 rw[Le y,Le y];exact .inr rfl
def mrK (f:Fm):Nat:=if decide (Qh f.slots 2<0)=true then 0 else 6
def Qzq:Stp tru 0 0 mrK Vj:=by
 have key:∀bs c,Vj bs c=if decide (Qh c.x.f.slots 2<0)=true then(0,c)
   else if(bs.length:Int)<=c.p then(9,c)
   else if G3 c.x.f (QQ bs c.p) (c.x.f.shapes.getD (Qh c.x.f.slots 2).toNat 0)=false then(4,c)
   else if((rdF bs c.p c.xx c.bb).2==0)=false then((rdF bs c.p c.xx c.bb).2,c)
   else(0,{c with seen:=(rdF bs c.p c.xx c.bb).1,p:=(rdF bs c.p c.xx c.bb).1.ends}):=λ_ _=>rfl
 have ag:∀bs c,bs.length<=1000000->¬decide (Qh c.x.f.slots 2<0)=true->(Vj bs c).1=0->c.p+1<=(Vj bs c).2.p∧(Vj bs c).2.p<=c.p+6:=λbs c aa z h=>by
  rw[key,Le z]at h ⊢;split at h;·cases h
  rename_i ac;rw[Le ac];split at h;·cases h
  rename_i ae;rw[Le ae];split at h;·rename_i ad;have h:(rdF bs c.p c.xx c.bb).2=0:=h;rw[h]at ad;cases ad
  rename_i ad;rw[Le ad];exact QHb aa (by simpa using ad)
 refine⟨λbs c aa ab _ q=>?_,λbs more c aa ab _=>?_,λbs c aa ab=>Qx5 aa ab⟩
 ·unfold mrK
  by_cases z:decide (Qh c.x.f.slots 2<0)=true
  ·rw[Lc z];have e:Vj bs c=(0,c):=by rw[key,Lc z]
   rw[e];show c.p+((0:Nat):Int)<=c.p∧c.p<=c.p+((0:Nat):Int);omega
  rw[Le z];have:=ag bs c aa z q;omega
 have ah:=QeV bs more
 by_cases z:decide (Qh c.x.f.slots 2<0)=true;·right;rw[key,key,Lc z,Lc z]
 by_cases h:(bs.length:Int)<=c.p
 ·have e:Vj bs c=(9,c):=by rw[key,Le z,Lc h]
  rw[e];exact .inl ⟨rfl,λq=>by have:=ag _ c aa z q;omega⟩
 have h':¬ ((bs++more).length:Int)<=c.p:=by
  have:=ab.1;omega
 rw[key bs c,key (bs++more) c,Le z,Le z,Le h,Le h',Qsy ab.1 (by omega)]
 by_cases y:G3 c.x.f (QQ bs c.p) (c.x.f.shapes.getD (Qh c.x.f.slots 2).toNat 0)=false;·rw[Lc y,Lc y];exact .inr rfl
 rw[Le y,Le y];rcases @QFS bs more c.p c.xx c.bb aa ab with⟨ac,ae⟩ | ac
 ·rw[ac,Lc (show((9:Int)==0)=false from rfl)];refine .inl ⟨rfl,λq=>?_⟩
  by_cases x:((rdF (bs++more) c.p c.xx c.bb).2==0)=false;·rw[Lc x]at q;have q:(rdF (bs++more) c.p c.xx c.bb).2=0:=q;rw[q]at x;cases x
  rw[Le x];have:=ae (by simpa using x);show(bs.length:Int)<(rdF (bs++more) c.p c.xx c.bb).1.ends+((0:Nat):Int);omega
 rw[ac];exact .inr rfl
def tlK (f:Fm):Nat:=(if decide (0<tl1 f)=true then(tl1 f).toNat else 0)+(if decide (0<=Qh f.slots 7)=true then 1 else 0)
def SdR (n:Nat)(d d':Dr):Prop:=(d.e=9∧(d'.e=0->(n:Int)<d'.n))∨d'=d
def QDd {op p:Int}{l:List Ar}(h:(Qda op p l).e=0):(Qda op p l).n=p:=by
 unfold Qda at h ⊢;split;·rename_i q;rw[Lc q]at h;cases h
 rfl
def QtJ {bs:List Int}{c:Rr}{n:Int}(ad:bs.length<=1000000)(aa:InB bs c.p)(h:(GW bs c n).e=0):(GW bs c n).n=c.p+(if decide (0<=Qh c.x.f.slots 7)=true then 1 else 0):=by
 have ag:=aa.2;have ae:=aa.1;unfold GW at h ⊢
 by_cases q:decide (0<=Qh c.x.f.slots 7)=true
 ·rw[Lc q]at h ⊢;rw[Lc q];split at h;·cases h
  rename_i ab;rw[Le ab];split at h;·cases h
  rename_i ac;rw[Le ac,QDd h,w64 (by unfold I64;omega)]
 rw[Le q]at h ⊢;rw[Le q,QDd h];omega
def Qv3 {bs more:List Int}{c:Rr}{n:Int}(ac:(bs++more).length<=1000000)(aa:InB bs c.p):SdR bs.length (GW bs c n) (GW (bs++more) c n):=by
 have ad:=QeV bs more
 by_cases q:decide (0<=Qh c.x.f.slots 7)=true
 ·by_cases h:(bs.length:Int)<=c.p
  ·have e:GW bs c n=Y0 9:=by unfold GW;rw[Lc q,Lc h]
   rw[e];exact .inl ⟨rfl,λab=>by rw[QtJ ac aa.more ab,Lc q];omega⟩
  right;have h':¬ ((bs++more).length:Int)<=c.p:=by have:=aa.1;omega
  have e1:Qlr (bs++more) c.p=Qlr bs c.p:=by unfold Qlr;rw[Qhm aa.1 (by omega)]
  have e2:hi4 (bs++more) c.p=hi4 bs c.p:=by unfold hi4;rw[Qhm aa.1 (by omega)]
  unfold GW;rw[Lc q,Lc q,Le h,Le h',e1,e2]
 right;unfold GW;rw[Le q,Le q]
def QtK {bs:List Int}{c:Rr}(ab:bs.length<=1000000)(aa:InB bs c.p)(h:(Jk bs c).e=0):(Jk bs c).n=c.p+tlK c.x.f:=by
 have ae:=aa.2;have ad:=aa.1;unfold tlK;unfold Jk at h ⊢
 by_cases q:decide (0<tl1 c.x.f)=true
 ·rw[Lc q]at h ⊢;rw[Lc q];have q:=Lg q
  by_cases z:((Q3 bs c.p (tl1 c.x.f) true).2==0)=false;·rw[Lc z]at h;have h:(Q3 bs c.p (tl1 c.x.f) true).2=0:=h;rw[h]at z;cases z
  rw[Le z]at h ⊢;have ac:=VA (by simpa using z);have e1:IntKind.i64.wrap (c.p+tl1 c.x.f)=c.p+tl1 c.x.f:=w64 (by unfold I64;omega);rw[QtJ ab (by show InB bs (IntKind.i64.wrap _);rw[e1];exact⟨by omega,by omega⟩) h];show IntKind.i64.wrap _+_=_;rw[e1];show c.p+tl1 c.x.f+(if decide (0<=Qh c.x.f.slots 7)=true then 1 else 0)=_;split<;>omega
 rw[Le q]at h ⊢;rw[Le q,QtJ ab aa h];split<;>omega
def QDe {bs more:List Int}{c:Rr}(aa:(bs++more).length<=1000000)(ab:InB bs c.p):SdR bs.length (Jk bs c) (Jk (bs++more) c):=by
 have ag:=ab.2;have ae:=ab.1;have ai:=QeU aa
 by_cases q:decide (0<tl1 c.x.f)=true
 ·rcases @Qlz bs more c.p (tl1 c.x.f) true ae ag with⟨ac,ah⟩ | h
  ·have e:Jk bs c=Y0 9:=by unfold Jk;rw[Lc q,ac,Lc (by decide)]
   rw[e];refine .inl ⟨rfl,λad=>?_⟩;rw[QtK aa ab.more ad];unfold tlK;rw[Lc q];omega
  unfold Jk;rw[Lc q,Lc q,h]
  by_cases z:((Q3 bs c.p (tl1 c.x.f) true).2==0)=false;·rw[Lc z,Lc z];exact .inr rfl
  rw[Le z,Le z];have ac:=VA (by simpa using z);have q:=Lg q;have e1:IntKind.i64.wrap (c.p+tl1 c.x.f)=c.p+tl1 c.x.f:=w64 (by unfold I64;omega);exact Qv3 aa (by show InB bs (IntKind.i64.wrap _);rw[e1];exact⟨by omega,by omega⟩)
 unfold Jk;rw[Le q,Le q];exact Qv3 aa ab
def Qv4 (a b:List Int->Rr->Int×Rr)(l:List Int)(c:Rr):thn a b l c=bif (a l c).1==0 then b l (a l c).2 else a l c:=by
 unfold thn;cases(a l c).1==0<;>rfl
def Qzr (l:List Int)(c:Rr):thn (thn Wc opF) Vj l c=rdM l c:=by
 have e:thn Wc opF l c=rdO l c:=Qv4 Wc opF l c;rw[Qv4,e];rfl
def Qsz {bs more:List Int}(f:Fm)(aa:(bs++more).length<=1000000):SdR bs.length (QD bs f) (QD (bs++more) f):=by
 have ah:=QeU aa;have ab:=(Qv1.then QC9 (d:=0) (Lb _) (Lb _)).then Qzq (d:=0) (Lb _) (Lb _);have e:=Qzr;have ac:∀l,QD l f=bif (rdM l (rd0 ⟨f,.slice none 0 0,.slice none 0 0⟩ (.slice none 0 0))).1==0 then Jk l (rdM l (rd0 ⟨f,.slice none 0 0,.slice none 0 0⟩ (.slice none 0 0))).2 else Y0 (rdM l (rd0 ⟨f,.slice none 0 0,.slice none 0 0⟩ (.slice none 0 0))).1:=λ_=>rfl
 have ad:=ab.sb bs more (rd0 ⟨f,.slice none 0 0,.slice none 0 0⟩ (.slice none 0 0)) aa (InB.zero bs) rfl;have ae:=ab.kp bs (rd0 ⟨f,.slice none 0 0,.slice none 0 0⟩ (.slice none 0 0)) ah (InB.zero bs);have ag:=ab.kp (bs++more) (rd0 ⟨f,.slice none 0 0,.slice none 0 0⟩ (.slice none 0 0)) aa (InB.zero _);rw[ac,ac];simp only[e]at ad ae ag;generalize rdM bs (rd0 ⟨f,.slice none 0 0,.slice none 0 0⟩ (.slice none 0 0))=r at *;generalize rdM (bs++more) (rd0 ⟨f,.slice none 0 0,.slice none 0 0⟩ (.slice none 0 0))=r' at *;rcases ad with⟨e1,e2⟩ | rfl
 ·left;rw[e1];refine⟨rfl,λq=>?_⟩;cases z:r'.1==0 with
  | false=>
   rw[z]at q;have q:r'.1=0:=q;rw[q]at z;cases z
  | true=>
   rw[z]at q;have q:(Jk (bs++more) r'.2).e=0:=q;have ai:=QtK aa ag.2.2 q;have aj:=e2 (eq_of_beq z);show(bs.length:Int)<(Jk (bs++more) r'.2).n;omega
 cases z:r'.1==0 with
 | false=>exact .inr rfl
 | true=>exact QDe aa ae.2.2
def QFT (f:Fm):Nat:=hdK f+1+mrK f+tlK f
def Qyb {bs:List Int}{f:Fm}(aa:bs.length<=1000000)(h:(QD bs f).e=0):0<(QD bs f).n∧(QD bs f).n<=QFT f:=by
 have ac:=(Qv1.then QC9 (d:=0) (Lb _) (Lb _)).then Qzq (d:=0) (Lb _) (Lb _);have e:=Qzr;have ad:QD bs f=bif (rdM bs (rd0 ⟨f,.slice none 0 0,.slice none 0 0⟩ (.slice none 0 0))).1==0 then Jk bs (rdM bs (rd0 ⟨f,.slice none 0 0,.slice none 0 0⟩ (.slice none 0 0))).2 else Y0 (rdM bs (rd0 ⟨f,.slice none 0 0,.slice none 0 0⟩ (.slice none 0 0))).1:=rfl
 have ab:=ac.mo bs (rd0 ⟨f,.slice none 0 0,.slice none 0 0⟩ (.slice none 0 0)) aa (InB.zero bs) rfl;have q:=ac.kp bs (rd0 ⟨f,.slice none 0 0,.slice none 0 0⟩ (.slice none 0 0)) aa (InB.zero bs);rw[ad]at h ⊢;simp only[e]at ab q;generalize ak:rdM bs (rd0 ⟨f,.slice none 0 0,.slice none 0 0⟩ (.slice none 0 0))=r at *;cases z:r.1==0 with
 | false=>
  rw[z]at h;have h:r.1=0:=h;rw[h]at z;cases z
 | true=>
  rw[z]at h;have h:(Jk bs r.2).e=0:=h;have ae:=QtK aa q.2.2 h;have ag:=ab (eq_of_beq z);have ah:r.2.x.f=f:=by rw[q.1];rfl
  rw[ah]at ae;have ai:(rd0 ⟨f,.slice none 0 0,.slice none 0 0⟩ (.slice none 0 0)).p=0:=rfl;have aj:(rd0 ⟨f,.slice none 0 0,.slice none 0 0⟩ (.slice none 0 0)).x.f=f:=rfl;rw[ai,aj]at ag;show 0<(Jk bs r.2).n∧(Jk bs r.2).n<=_;unfold QFT;omega
