/- The prefixes, read one behind the other, are the bytes ahead of the opcode. -/
import Derived.Test.YtfofbicfabokbaaGreatDoorLibR
import Derived.Test.YtfofbicfabokbaaGreatDoorLibA
import Derived.Test.YtfofbicfabokbaaGreatDoorC6One
import Derived.Test.YtfofbicfabokbaaGreatDoorLibI
set_option linter.unusedVariables false
set_option linter.unusedSimpArgs false
set_option maxRecDepth 100000
set_option maxHeartbeats 4000000
namespace Go.Proofs.YtfofbicfabokbaaGreatDoor.code
open Go.Ab
def QHh (left:Int):List UInt8:=(if hit left 0=true then[102] else[])++((if hit left 1=true then[242] else[])++(if hit left 2=true then[243] else[]))
theorem QIU (bs:List Int) (b:UInt8) (n:Int) (hb:(b.toNat:Int)=n) (l:List UInt8) (c:Rr):Qnm bs (b::l) c=if((XC bs c n).1==0)=true then Qnm bs l (XC bs c n).2 else XC bs c n:=by
 subst hb;rfl
theorem QIQ (bs:List Int):∀ (n:Nat) (left:Int) (c:Rr),cnt left<=n->QkX bs n left c=Qnm bs (QHh left) c
 | 0,left,c,h=>by
  have h0:hit left 0=false:=by unfold cnt at h;cases e:hit left 0<;>simp[e]at h ⊢
  have h1:hit left 1=false:=by unfold cnt at h;cases e:hit left 1<;>simp[e]at h ⊢
  have h2:hit left 2=false:=by unfold cnt at h;cases e:hit left 2<;>simp[e]at h ⊢
  unfold QHh;rw[h0,h1,h2];rfl
 | n+1,left,c,h=>by
  cases e0:hit left 0 with
  | true=>
   have hc:=QDA left 0 (by omega) e0;have hp:QHh left=102::QHh (Qpx left (Y9 0)):=by
    unfold QHh;rw[Qts left 0 0 (by omega) (by omega),Qts left 0 1 (by omega) (by omega),Qts left 0 2 (by omega) (by omega),e0];simp
   rw[QBd bs n left c 0 (by omega) (λj hj=>by omega) e0,hp,QIU bs 102 (VX 0) rfl,QIQ bs n _ _ (by omega)]
  | false=>
   cases e1:hit left 1 with
   | true=>
    have hc:=QDA left 1 (by omega) e1;have hp:QHh left=242::QHh (Qpx left (Y9 1)):=by
     unfold QHh;rw[Qts left 1 0 (by omega) (by omega),Qts left 1 1 (by omega) (by omega),Qts left 1 2 (by omega) (by omega),e0,e1];simp[e0]
    rw[QBd bs n left c 1 (by omega) (λj hj=>by rw[show j=0 by omega];exact e0) e1,hp,QIU bs 242 (VX 1) rfl,QIQ bs n _ _ (by omega)]
   | false=>
    cases e2:hit left 2 with
    | true=>
     have hc:=QDA left 2 (by omega) e2;have hp:QHh left=243::QHh (Qpx left (Y9 2)):=by
      unfold QHh;rw[Qts left 2 0 (by omega) (by omega),Qts left 2 1 (by omega) (by omega),Qts left 2 2 (by omega) (by omega),e0,e1,e2];simp[e0,e1]
     rw[QBd bs n left c 2 (by omega) (λj hj=>by rcases(show j=0∨j=1 by omega) with rfl | rfl<;>assumption) e2,hp,QIU bs 243 (VX 2) rfl,QIQ bs n _ _ (by omega)]
    | false=>
     rw[Qzw bs (n+1) left c (λj hj=>by rcases(show j=0∨j=1∨j=2 by omega) with rfl | rfl | rfl<;>assumption)];unfold QHh;rw[e0,e1,e2];rfl
theorem QI0 (bs:List Int) (c:Rr):QjW bs c=Qo2 bs (Qnm bs (QHh c.x.f.pre) c):=by
 unfold QjW;rw[QIQ bs 4 _ _ (N8 (QFJ _) (by omega))]
theorem QIN {bs:List Int} {c:Rr} {n:Int} (hl:bs.length<=1000000) (h:InB bs c.p) (h0:(XC bs c n).1=0):c.p<bs.length∧XI bs c.p=n∧(XC bs c n).2={c with p:=c.p+1}:=by
 unfold InB at h;have e:XC bs c n=((Qlu bs c.p n).1,{c with p:=(Qlu bs c.p n).2}):=rfl;rw[e]at h0 ⊢;simp only at h0;unfold Qlu at h0 ⊢
 by_cases h1:(bs.length:Int)<=c.p
 ·rw[Lc h1]at h0;cases h0
 ·rw[Le h1]at h0 ⊢
  by_cases h2:(IntKind.i64.wrap (bs.getD c.p.toNat 0)==n)=false
  ·rw[Lc h2]at h0;cases h0
  ·rw[Le h2];refine⟨by omega,?_,?_⟩
   ·simpa[XI] using h2
   ·simp only;rw[w64 (by unfold I64;omega)]
theorem QIR {bs:List Int} (hl:bs.length<=1000000):∀ (l:List UInt8) (c:Rr),InB bs c.p->(Qnm bs l c).1=0->(Qnm bs l c).2={c with p:=c.p+l.length}∧c.p+l.length<=bs.length∧∀j (h:j<l.length),XI bs (c.p+j)=l[j].toNat
 | [],c,h,h0=>⟨by show c=_;simp,by simp;exact h.2,λj hj=>absurd hj (Nat.not_lt_zero _)⟩
 | n::l,c,h,h0=>by
  have e:Qnm bs (n::l) c=if((XC bs c n.toNat).1==0)=true then Qnm bs l (XC bs c n.toNat).2 else XC bs c n.toNat:=rfl
  rw[e]at h0 ⊢
  by_cases z:((XC bs c n.toNat).1==0)=true
  ·rw[Lc z]at h0 ⊢;obtain⟨h1,h2,h3⟩:=QIN hl h (by simpa using z);rw[h3]at h0 ⊢;have h':InB bs (c.p+1):=by unfold InB at *;omega
   obtain⟨k1,k2,k3⟩:=QIR hl l {c with p:=c.p+1} h' h0;refine⟨?_,?_,?_⟩
   ·rw[k1];simp only[Lo];congr 1;omega
   ·simp only[Lo]at k2 ⊢;omega
   ·intro j hj;cases j with
    | zero=>simpa using h2
    | succ j=>
     have:=k3 j (by simpa using hj);simp only at this;rw[show c.p+((j+1:Nat):Int)=c.p+1+j by omega,this];rfl
  ·rw[Le z]at h0;exfalso;rw[h0]at z;exact z rfl
theorem QIr (f:Fm):Zs f=QHh f.pre++Qfg f.map:=by
 have e:∀i,hit f.pre i=Qzv f.pre (Y9 i):=λ_=>rfl;unfold Zs QHh;rw[e 0,e 1,e 2];show(bif Qzv f.pre 1 then[102] else[])++_=((if Qzv f.pre 1=true then[102] else[])++((if Qzv f.pre 2=true then[242] else[])++(if Qzv f.pre 4=true then[243] else[])))++_;cases Qzv f.pre 1<;>cases Qzv f.pre 2<;>cases Qzv f.pre 4<;>simp
def QIO (bs:List Int) (p:Int):Bool:=decide (64<=XI bs p)&&decide (XI bs p<=79)
theorem QJw {bs:List Int} {c:Rr} (hl:bs.length<=1000000) (h:InB bs c.p) (h0:(Qcr bs c).1=0):c.p<bs.length∧(Qcr bs c).2.x=c.x∧(Qcr bs c).2.p=c.p+(if QIO bs c.p=true then 1 else 0):=by
 unfold InB at h;have e:Qcr bs c=if(bs.length:Int)<=c.p then(9,c)
  else if(decide (64<=XI bs c.p)&&decide (XI bs c.p<=79))=true then QcQ (QqQ c (XI bs c.p - 64).toNat) (Jl (XI bs c.p - 64).toNat 4 3) else QcQ c 0:=rfl
 rw[e]at h0 ⊢
 by_cases h1:(bs.length:Int)<=c.p
 ·rw[Lc h1]at h0;cases h0
 ·rw[Le h1]at h0 ⊢;refine⟨by omega,?_⟩;unfold QIO
  by_cases h2:(decide (64<=XI bs c.p)&&decide (XI bs c.p<=79))=true
  ·rw[Lc h2,Lc h2,QkV];refine⟨rfl,?_⟩;show IntKind.i64.wrap (c.p+1)=c.p+1;rw[w64 (by unfold I64;omega)]
  ·rw[Le h2,Le h2,QkV];exact⟨rfl,by omega⟩
theorem QJg {bs:List Int} {c:Rr} (hl:bs.length<=1000000) (h:InB bs c.p) (h0:(QjW bs c).1=0):
  (∀j (hj:j<(QHh c.x.f.pre).length),XI bs (c.p+j)=(QHh c.x.f.pre)[j].toNat)∧c.p+(QHh c.x.f.pre).length<bs.length∧
  ∃q:Int,q=c.p+(QHh c.x.f.pre).length+(if QIO bs (c.p+(QHh c.x.f.pre).length)=true then 1 else 0)∧
   (∀j (hj:j<(Qfg c.x.f.map).length),XI bs (q+j)=(Qfg c.x.f.map)[j].toNat)∧q+(Qfg c.x.f.map).length<=bs.length∧(QjW bs c).2.p=q+(Qfg c.x.f.map).length∧(QjW bs c).2.x=c.x:=by
 rw[QI0]at h0 ⊢;unfold Qo2 at h0 ⊢;generalize QHh c.x.f.pre=pl at *
 by_cases z1:((Qnm bs pl c).1==0)=true
 ·rw[Lc z1]at h0 ⊢;obtain⟨a1,a2,a3⟩:=QIR hl pl c h (by simpa using z1);rw[a1]at h0 ⊢;have hi1:InB bs (c.p+pl.length):=by unfold InB at *;omega
  unfold Qnn at h0 ⊢
  by_cases z2:((Qcr bs {c with p:=c.p+pl.length}).1==0)=true
  ·rw[Lc z2]at h0 ⊢;obtain⟨b1,b2,b3⟩:=QJw (c:={c with p:=c.p+pl.length}) hl hi1 (by simpa using z2);have hk:=QBe (bs:=bs) (c:={c with p:=c.p+pl.length}) hi1 hl;generalize Qcr bs {c with p:=c.p+pl.length}=x at *;simp only at b1 b2 b3;rw[b2]at h0 ⊢;obtain⟨d1,d2,d3⟩:=QIR hl _ x.2 hk h0;refine⟨a3,b1,x.2.p,b3,d3,d2,?_,?_⟩
   ·rw[d1]
   ·rw[d1];exact b2
  ·rw[Le z2]at h0;rw[h0]at z2;exact absurd rfl z2
 ·rw[Le z1]at h0;rw[h0]at z1;exact absurd rfl z1
def QBK (n:Nat):Bool:=(IntKind.i64.wrap (IntKind.u8.wrap (BitVec.ofInt IntKind.u8.bits (n:Int) &&& BitVec.ofInt IntKind.u8.bits 7).toNat)==((n % 8:Nat):Int))&&(QDt (n:Int)==((n - n % 8:Nat):Int))&&(IntKind.i64.wrap (n:Int)==(n:Int))&&(Qvj (n:Int)==(decide (64<=n)&&decide (n<=79)))
theorem QzL:(List.range 256).all QBK=true:=by kernel_rfl
theorem QBL {n:Nat} (h:n<256):QBK n=true:=Li.1 QzL n (LU.2 h)
def Qnr (bs:List Int):Prop:=∀b∈bs,0<=b∧b<=255
theorem Qnr.at {bs:List Int} (hb:Qnr bs) {p:Int} (h0:0<=p) (h:p<bs.length):∃n:Nat,n<256∧bs[p.toNat]? = some (n:Int)∧bs.getD p.toNat 0=n∧XI bs p=n:=by
 have hk:p.toNat<bs.length:=by omega
 obtain⟨h1,h2⟩:=hb _ (Nb hk);obtain⟨n,hn⟩:∃n:Nat,bs[p.toNat]=(n:Int):=⟨bs[p.toNat].toNat,by omega⟩;have hlt:n<256:=by omega
 have hg:bs.getD p.toNat 0=n:=by rw[LX,La hk,hn];rfl
 have ht:=QBL hlt;unfold QBK at ht;simp only[Lm,L0]at ht;exact⟨n,hlt,by rw[La hk,hn],hg,by unfold XI;rw[hg];exact ht.1.2⟩
def QzM (f:Fm) (c:Int):Bool:=bif decide (0<=QC f.slots 4) then QDt c==f.code else IntKind.i64.wrap c==f.code
theorem QJs {bs:List Int} {c:Rr} (hl:bs.length<=1000000) (hb:Qnr bs) (hc:I64 c.x.f.code) (h:InB bs c.p) (h0:(opF bs c).1=0):c.p<bs.length∧QzM c.x.f (bs.getD c.p.toNat 0)=true:=by
 have e:opF bs c=if(decide (QC c.x.f.slots 4<0))=true then XC bs c c.x.f.code
  else if(bs.length:Int)<=c.p then(9,c) else XC bs {c with low:=QrY bs c.p} (IntKind.i64.wrap (c.x.f.code+QrY bs c.p)):=rfl
 rw[e]at h0;unfold QzM;generalize QC c.x.f.slots 4=i4 at *
 by_cases z:decide (i4<0)=true
 ·rw[Lc z]at h0;obtain⟨a1,a2,_⟩:=QIN hl h h0;have z':decide (0<=i4)=false:=by simp at z ⊢;omega
  refine⟨a1,?_⟩;rw[z',Ls];simpa[XI] using a2
 ·rw[Le z]at h0;have z':decide (0<=i4)=true:=by simp at z ⊢;omega
  by_cases g:(bs.length:Int)<=c.p
  ·rw[Lc g]at h0;cases h0
  ·rw[Le g]at h0;obtain⟨a1,a2,_⟩:=QIN (c:={c with low:=QrY bs c.p}) hl h h0;obtain⟨n,hn,hn1,hn2,hn3⟩:=hb.at h.1 (by omega);have ht:=QBL hn;unfold QBK at ht;simp only[Lm,L0]at ht;have hlow:QrY bs c.p=((n % 8:Nat):Int):=by unfold QrY;rw[hn2];exact ht.1.1.1
   simp only at a2;rw[hn3,hlow]at a2;refine⟨a1,?_⟩;rw[z',Lq,hn2,ht.1.1.2,L0];rw[NU]at a2;unfold I64 at hc;omega
def stp (f:Fm) (c:Int):List Int:=(Zs f).map (λb=>(b.toNat:Int))++[c]
def QFX (f:Fm) (l:List UInt8):Bool:=l.take (Zs f).length==Zs f&&decide ((Zs f).length<l.length)&&QzM f ((l.getD (Zs f).length 0).toNat:Int)
section
variable {L:List Fm} {f:Fm} {c:Int} {leads:List (List UInt8)}
theorem QIC:(stp f c).length=(Zs f).length+1:=by unfold stp;simp
theorem QzN (hv:f.vex=false) (hc:QzM f c=true) {j:Nat} (hj:j<=(Zs f).length):Jb f j ((stp f c).getD j 0)=true:=by
 unfold Jb stp;rw[hv,Ls]
 by_cases h:j<(Zs f).length
 ·rw[La h,LX,LY (by simpa using h),LD,La h];simp
 ·obtain rfl:j=(Zs f).length:=by omega
  rw[N7 (Lb _),LX,LR (by simp)];have:Nat.blt (Zs f).length (Zs f).length=false:=by
   cases h':Nat.blt (Zs f).length (Zs f).length with
   | false=>rfl
   | true=>have:=RZ h';omega
  simp only[this,Nn,BJ,Bp,NB,Ls];exact hc
structure QFY (L:List Fm) (f:Fm) (c:Int) (d:Nat) (L':List Fm):Prop where
 mem:f∈L'
 sub:∀g∈L',g∈L
 tk:∀g∈L',∀j,j<d->Jb g j ((stp f c).getD j 0)=true
theorem QFY.next (hv:f.vex=false) (hc:QzM f c=true) {d:Nat} {L':List Fm} (h:QFY L f c d L') (hd:d<=(Zs f).length):QFY L f c (d+1) (L'.filter λg=>Jb g d ((stp f c).getD d 0)):=
 ⟨Bo.2 ⟨h.mem,QzN hv hc hd⟩,λg hg=>h.sub g (Bo.1 hg).1,λg hg j hj=>by
  by_cases e:j=d
  ·rw[e];exact(Bo.1 hg).2
  ·exact h.tk g (Bo.1 hg).1 j (by omega)⟩
theorem QFY.shut (hc:QzM f c=true) (hLd:∀g∈L,g.vex=false->Zs g∈leads) (hno:∀l∈leads,QFX f l=false) {L':List Fm} (h:QFY L f c ((Zs f).length+1) L'):Qyc ((Zs f).length+1) L'=false:=by
 cases L' with
 | nil=>rfl
 | cons g l=>
  have hg:=Ny (a:=g) (l:=l);show(bif g.vex then(Zs f).length+1==0 else Nat.ble ((Zs f).length+1) (Zs g).length)=false;cases hgv:g.vex with
  | true=>rfl
  | false=>
   rw[Ls];cases hle:Nat.ble ((Zs f).length+1) (Zs g).length with
   | false=>rfl
   | true=>
    exfalso;have hlen:(Zs f).length<(Zs g).length:=by
     have:=RZ hle;omega
    have tj:∀j (hj:j<(Zs g).length),j<=(Zs f).length->(stp f c).getD j 0=((Zs g)[j].toNat:Int):=λj hj hj2=>by
     have:=h.tk g hg j (by omega);unfold Jb at this;rw[hgv,Ls,La hj]at this;simpa using this
    have hn:=hno _ (hLd g (h.sub g hg) hgv);have t1:(Zs g).take (Zs f).length=Zs f:=by
     refine Rp (by rw[Sb];omega) λj h1 h2=>?_;have:=tj j (by omega) (by omega);rw[RK];have e:(stp f c).getD j 0=((Zs f)[j].toNat:Int):=by
      unfold stp;rw[LX,LY (by simpa using h2),LD,La h2];rfl
     rw[e]at this;have h3:(Zs f)[j].toNat=(Zs g)[j].toNat:=by omega
     exact(BK.1 h3).symm
    have t2:(((Zs g).getD (Zs f).length 0).toNat:Int)=c:=by
     have:=tj (Zs f).length hlen (Lb _);have e:(stp f c).getD (Zs f).length 0=c:=by
      unfold stp;rw[LX,LR (by simp)];simp
     rw[e]at this;rw[LX,La hlen,NB,this]
    unfold QFX at hn;rw[t1,t2,hc]at hn;simp[hlen]at hn
theorem QJE (hv:f.vex=false) (hc:QzM f c=true) (hLd:∀g∈L,g.vex=false->Zs g∈leads) (hno:∀l∈leads,QFX f l=false):∀ (n d:Nat) (rest:List Int) (L':List Fm),n+d=(Zs f).length+1->QFY L f c d L'->f∈Qg9 ((stp f c).drop d++rest) false d L'
 | 0,d,rest,L',h,hL=>by
  obtain rfl:d=(Zs f).length+1:=by omega
  rw[NK (by rw[QIC];exact Lb _),LH];cases rest with
  | nil=>exact hL.mem
  | cons x r=>
   show f∈bif Qyc ((Zs f).length+1) L' then _ else L'
   rw[hL.shut hc hLd hno];exact hL.mem
 | n+1,d,rest,L',h,hL=>by
  have hd:d<(stp f c).length:=by rw[QIC];omega
  rw[Nh hd,Nm];show f∈bif Qyc d L' then(bif false&&Qvj (stp f c)[d] then _ else Qg9 ((stp f c).drop (d+1)++rest) (false&&_) (d+1) (L'.filter λf'=>Jb f' d (stp f c)[d])) else L'
  cases Qyc d L' with
  | false=>exact hL.mem
  | true=>
   have e:(stp f c)[d]=(stp f c).getD d 0:=by rw[LX,La hd];rfl
   rw[NG,NG,Lq,Ls,e];exact QJE hv hc hLd hno n (d+1) rest _ (by omega) (hL.next hv hc (by omega))
theorem QJP (hc:QzM f c=true) (hLd:∀g∈L,g.vex=false->Zs g∈leads) (hno:∀l∈leads,QFX f l=false) {L':List Fm} (hL:QFY L f c ((Zs f).length+1) L'):∀ (cs:List Int) (ah:Bool),f∈Qg9 cs ah ((Zs f).length+1) L'
 | [],_=>hL.mem
 | x::r,ah=>by
  show f∈bif Qyc ((Zs f).length+1) L' then _ else L'
  rw[hL.shut hc hLd hno];exact hL.mem
theorem QJQ (hv:f.vex=false) (hc:QzM f c=true) (hLd:∀g∈L,g.vex=false->Zs g∈leads) (hno:∀l∈leads,QFX f l=false) {k:Nat} (hk:k<=(Zs f).length) {r:Int} (hr:Qvj r=true) (rest:List Int) {L':List Fm} (hL:QFY L f c k L'):f∈Qg9 (r::((stp f c).drop k++rest)) true k L':=by
 show f∈bif Qyc k L' then(bif true&&Qvj r then Qg9 ((stp f c).drop k++rest) false k L' else _) else L'
 rw[hr];cases Qyc k L' with
 | false=>exact hL.mem
 | true=>exact QJE hv hc hLd hno ((Zs f).length+1 - k) k rest L' (by omega) hL
theorem QJY (hv:f.vex=false) (hc:QzM f c=true) (hLd:∀g∈L,g.vex=false->Zs g∈leads) (hno:∀l∈leads,QFX f l=false) {k:Nat} (hk:k<=(Zs f).length) (hr:Qvj ((stp f c).getD k 0)=false) (h15:k<(Zs f).length->(stp f c).getD k 0=15) (rest:List Int) {L':List Fm} (hL:QFY L f c k L'):f∈Qg9 ((stp f c).drop k++rest) true k L':=by
 have hd:k<(stp f c).length:=by rw[QIC];omega
 have e:(stp f c)[k]=(stp f c).getD k 0:=by rw[LX,La hd];rfl
 rw[Nh hd,Nm,e];show f∈bif Qyc k L' then(bif true&&Qvj ((stp f c).getD k 0) then _ else Qg9 ((stp f c).drop (k+1)++rest) (true&&((((stp f c).getD k 0)==102)||(((stp f c).getD k 0)==242)||(((stp f c).getD k 0)==243))) (k+1) (L'.filter λf'=>Jb f' k ((stp f c).getD k 0))) else L'
 rw[hr];cases Qyc k L' with
 | false=>exact hL.mem
 | true=>
  have hn:=hL.next hv hc hk;rw[NJ,Lq,Ls]
  by_cases hlt:k<(Zs f).length
  ·rw[h15 hlt]at hn ⊢;exact QJE hv hc hLd hno ((Zs f).length - k) (k+1) rest _ (by omega) hn
  ·obtain rfl:k=(Zs f).length:=by omega
   exact QJP hc hLd hno hn _ _
theorem QJx (hv:f.vex=false) (hc:QzM f c=true) {k:Nat} (hk:k<=(Zs f).length) (hp:∀j,j<k->Qvj ((stp f c).getD j 0)=false∧((((stp f c).getD j 0)==102)||(((stp f c).getD j 0)==242)||(((stp f c).getD j 0)==243))=true) (tl:List Int) (htl:∀L',QFY L f c k L'->f∈Qg9 tl true k L'):
  ∀ (n d:Nat) (L':List Fm),n+d=k->QFY L f c d L'->f∈Qg9 (((stp f c).take k).drop d++tl) true d L'
 | 0,d,L',h,hL=>by
  obtain rfl:d=k:=by omega
  rw[NK (by rw[Sb];omega),LH];exact htl L' hL
 | n+1,d,L',h,hL=>by
  have hl:d<((stp f c).take k).length:=by rw[Sb,QIC];omega
  have hd:d<(stp f c).length:=by rw[QIC];omega
  have e:((stp f c).take k)[d]=(stp f c).getD d 0:=by rw[RK,LX,La hd];rfl
  obtain⟨p1,p2⟩:=hp d (by omega);rw[Nh hl,Nm,e];show f∈bif Qyc d L' then(bif true&&Qvj ((stp f c).getD d 0) then _ else Qg9 (((stp f c).take k).drop (d+1)++tl) (true&&((((stp f c).getD d 0)==102)||(((stp f c).getD d 0)==242)||(((stp f c).getD d 0)==243))) (d+1) (L'.filter λf'=>Jb f' d ((stp f c).getD d 0))) else L'
  rw[p1,p2];cases Qyc d L' with
  | false=>exact hL.mem
  | true=>
   rw[NJ,Lq,Ls,Be];exact QJx hv hc hk hp tl htl n (d+1) _ (by omega) (hL.next hv hc (by omega))
end
theorem QI1 {bs:List Int} {f:Fm} (h:(Qnq bs f).e=0):∃c0:Rr,c0.x.f=f∧c0.p=0∧(Qe0 bs c0).1=0∧(opF bs (Qe0 bs c0).2).1=0∧(Qcs bs (opF bs (Qe0 bs c0).2).2).1=0:=by
 obtain⟨c0,hc0⟩:∃c0,c0=rd0 ⟨f,.slice none 0 0,.slice none 0 0⟩ (.slice none 0 0):=⟨_,rfl⟩;have e:Qnq bs f=bif (rdM bs c0).1==0 then Qob bs (rdM bs c0).2 else Qgi (rdM bs c0).1:=by rw[hc0];rfl
 refine⟨c0,by rw[hc0];rfl,by rw[hc0];rfl,?_⟩;rw[e]at h;have eM:rdM bs c0=bif (rdO bs c0).1==0 then Qcs bs (rdO bs c0).2 else rdO bs c0:=rfl
 have eO:rdO bs c0=bif (Qe0 bs c0).1==0 then opF bs (Qe0 bs c0).2 else Qe0 bs c0:=rfl
 have zM:(rdM bs c0).1=0:=by
  cases z:(rdM bs c0).1==0 with
  | true=>simpa using z
  | false=>rw[z]at h;exact h
 have zO:(rdO bs c0).1=0:=by
  cases z:(rdO bs c0).1==0 with
  | true=>simpa using z
  | false=>rw[eM,z]at zM;exact zM
 have zH:(Qe0 bs c0).1=0:=by
  cases z:(Qe0 bs c0).1==0 with
  | true=>simpa using z
  | false=>rw[eO,z]at zO;exact zO
 have z1:((Qe0 bs c0).1==0)=true:=by rw[zH];rfl
 rw[z1,Lq]at eO;rw[eO]at zO eM;have z2:((opF bs (Qe0 bs c0).2).1==0)=true:=by rw[zO];rfl
 rw[z2,Lq]at eM;rw[eM]at zM;exact⟨zH,zO,zM⟩
theorem seg {bs:List Int} (hb:Qnr bs):∀ (l:List UInt8) (p:Nat),(∀j (hj:j<l.length),XI bs ((p:Int)+j)=l[j].toNat)->p+l.length<=bs.length->bs.drop p=l.map (λb=>(b.toNat:Int))++bs.drop (p+l.length)
 | [],p,_,_=>by simp
 | b::l,p,h,hl=>by
  simp only[Lo]at hl;have hp:p<bs.length:=by omega
  obtain⟨n,hn,h1,h2,h3⟩:=hb.at (p:=(p:Int)) (by omega) (by omega);have h0:=h 0 (by simp);simp only[LG]at h1;rw[show((p:Int)+(0:Nat))=p by omega,h3]at h0;rw[Nh hp,NZ,Nm];rw[La hp]at h1;have e1:bs[p]=(b.toNat:Int):=by
   have:=Ly h1;rw[this,h0];rfl
  have ih:=seg hb l (p+1) (λj hj=>by
   have:=h (j+1) (by simpa using hj);rw[show(((p+1:Nat):Int)+j)=(p:Int)+((j+1:Nat):Int) by omega,this];rfl) (by omega)
  rw[e1,ih,Lo,show p+1+l.length=p+(l.length+1) by omega]
theorem QJk (l:Int):∀b∈QHh l,b=102∨b=242∨b=243:=by
 intro b hb;unfold QHh at hb;rw[LI,LI]at hb;rcases hb with hb | hb | hb
 ·split at hb
  ·exact .inl (Sa.1 hb)
  ·cases hb
 ·split at hb
  ·exact .inr (.inl (Sa.1 hb))
  ·cases hb
 ·split at hb
  ·exact .inr (.inr (Sa.1 hb))
  ·cases hb
theorem QJb (n:Int) (h:0<(Qfg n).length):(Qfg n)[0]=15:=by
 rcases QBc n with e | e | e | e
 all_goals simp only[e]at h ⊢
 all_goals first
  | rfl
  | exact absurd h (NX 0)
def wOf (rx:List Int):Int:=match rx with
 | []=>0
 | r::_=>Jl (r - 64).toNat 4 3
def QI2 (f:Fm) (c:Int) (rx:List Int):Prop:=(rx=[]∧Qvj ((stp f c).getD (QHh f.pre).length 0)=false)∨∃r,rx=[r]∧Qvj r=true
theorem QJh (f:Fm) (c:Int):stp f c=(QHh f.pre).map (λb=>(b.toNat:Int))++((Qfg f.map).map (λb=>(b.toNat:Int))++[c]):=by unfold stp;rw[QIr,N6,LQ]
theorem QI3 (f:Fm) (c:Int):(stp f c).take (QHh f.pre).length=(QHh f.pre).map (λb=>(b.toNat:Int)):=by rw[QJh,NO (by simp),LF (by simp)]
theorem QIS (f:Fm) (c:Int):(stp f c).drop (QHh f.pre).length=(Qfg f.map).map (λb=>(b.toNat:Int))++[c]:=by rw[QJh,RF (by simp),NK (by simp),LH]
theorem QJR (f:Fm):(QHh f.pre).length<=(Zs f).length:=by rw[QIr,Lh];omega
theorem QJy (f:Fm) (c:Int):∀j,j<(QHh f.pre).length->Qvj ((stp f c).getD j 0)=false∧((((stp f c).getD j 0)==102)||(((stp f c).getD j 0)==242)||(((stp f c).getD j 0)==243))=true:=λj hj=>by
 have e:(stp f c).getD j 0=((QHh f.pre)[j].toNat:Int):=by
  rw[QJh,LX,LY (by simpa using hj),LD,La hj];rfl
 rw[e];rcases QJk f.pre _ (Nb hj) with e | e | e<;>rw[e]<;>exact⟨by kernel_rfl,by decide⟩
def QIK (f:Fm) (c:Int) (rx rest:List Int):List Int:=(stp f c).take (QHh f.pre).length++(rx++((stp f c).drop (QHh f.pre).length++rest))
theorem QJc {L:List Fm} {f:Fm} {c:Int} {leads:List (List UInt8)} {rx rest:List Int} (hv:f.vex=false) (hc:QzM f c=true) (hf:f∈L) (hLd:∀g∈L,g.vex=false->Zs g∈leads) (hno:∀l∈leads,QFX f l=false) (hrx:QI2 f c rx):f∈Qg9 (QIK f c rx rest) true 0 L:=by
 have hL0:QFY L f c 0 L:=⟨hf,λg h=>h,λg _ j hj=>absurd hj (Nat.not_lt_zero _)⟩;have hkl:=QJR f;unfold QIK;have fin:=λtl htl=>QJx hv hc hkl (QJy f c) tl htl (QHh f.pre).length 0 L (by omega) hL0;rcases hrx with⟨rfl,hr⟩ | ⟨r,rfl,hr⟩
 ·have:=fin ((stp f c).drop (QHh f.pre).length++rest) (λL' hL'=>by
   refine QJY hv hc hLd hno hkl hr (λhlt=>?_) _ hL';have he:0<(Qfg f.map).length:=by rw[QIr,Lh]at hlt;omega
   rw[QJh,LX,LR (by simp),Nn,BJ,LY (by simpa using he),LD,La he,QJb _ he];rfl)
  rw[Lw]at this;exact this
 ·have:=fin ([r]++((stp f c).drop (QHh f.pre).length++rest)) (λL' hL'=>QJQ hv hc hLd hno hkl hr _ hL');rw[Lw]at this;exact this
def wAt (bs:List Int) (p:Int):Int:=if QIO bs p=true then Jl (XI bs p - 64).toNat 4 3 else 0
theorem QJZ {bs:List Int} {c:Rr} (h0:(Qcr bs c).1=0):wAt bs c.p=c.x.f.w:=by
 have e:Qcr bs c=if(bs.length:Int)<=c.p then(9,c)
  else if(decide (64<=XI bs c.p)&&decide (XI bs c.p<=79))=true then QcQ (QqQ c (XI bs c.p - 64).toNat) (Jl (XI bs c.p - 64).toNat 4 3) else QcQ c 0:=rfl
 have ne:∀ (c':Rr) w,(QcQ c' w).1=0->w=c'.x.f.w:=λc' w h=>by
  unfold QcQ at h;split at h
  ·cases h
  ·rename_i hn;simp at hn;exact hn.1
 rw[e]at h0;unfold wAt QIO
 by_cases h1:(bs.length:Int)<=c.p
 ·rw[Lc h1]at h0;cases h0
 ·rw[Le h1]at h0
  by_cases h2:(decide (64<=XI bs c.p)&&decide (XI bs c.p<=79))=true
  ·rw[Lc h2]at h0 ⊢;exact ne (QqQ c (XI bs c.p - 64).toNat) _ h0
  ·rw[Le h2]at h0 ⊢;exact ne c 0 h0
theorem QJ0 {bs:List Int} {c:Rr} (hl:bs.length<=1000000) (h:InB bs c.p) (h0:(QjW bs c).1=0):wAt bs (c.p+(QHh c.x.f.pre).length)=c.x.f.w:=by
 rw[QI0]at h0;unfold Qo2 at h0;generalize QHh c.x.f.pre=pl at *
 by_cases z1:((Qnm bs pl c).1==0)=true
 ·rw[Lc z1]at h0;obtain⟨a1,a2,a3⟩:=QIR hl pl c h (by simpa using z1);rw[a1]at h0;unfold Qnn at h0
  by_cases z2:((Qcr bs {c with p:=c.p+pl.length}).1==0)=true
  ·exact QJZ (c:={c with p:=c.p+pl.length}) (by simpa using z2)
  ·rw[Le z2]at h0;rw[h0]at z2;exact absurd rfl z2
 ·rw[Le z1]at h0;rw[h0]at z1;exact absurd rfl z1
theorem QJF {bs:List Int} (hb:Qnr bs) {p:Nat} (hp:p<bs.length):Qvj bs[p]=QIO bs p∧XI bs p=bs[p]:=by
 obtain⟨n,hn,n1,n2,n3⟩:=hb.at (p:=(p:Int)) (by omega) (by omega);have ht:=QBL hn;unfold QBK at ht;simp only[Lm,L0]at ht;simp only[LG]at n1;have hg:bs[p]=(n:Int):=by rw[La hp]at n1;exact Ly n1
 refine⟨?_,by rw[n3,hg]⟩;rw[hg,ht.2];unfold QIO;rw[n3,Ni];simp only[Lm,Lv];omega
theorem QJl {bs:List Int} (hb:Qnr bs) {k:Nat} (hk:k<bs.length) {qn:Nat} (hq:(qn:Int)=k+(if QIO bs k=true then 1 else 0)):
  ∃rx:List Int,bs.drop k=rx++bs.drop qn∧qn=k+rx.length∧wAt bs k=wOf rx∧((rx=[]∧Qvj bs[k]=false)∨∃r,rx=[r]∧Qvj r=true):=by
 obtain⟨i1,i2⟩:=QJF hb hk;unfold wAt;cases hr:QIO bs k with
 | true=>
  rw[hr,Lc rfl]at hq;have:qn=k+1:=by omega
  subst this;refine⟨[bs[k]],by rw[Nh hk];rfl,rfl,?_,.inr ⟨_,rfl,by rw[i1,hr]⟩⟩;rw[Lc rfl,i2];rfl
 | false=>
  rw[hr,Le (by decide)]at hq;have:qn=k:=by omega
  subst this;exact⟨[],rfl,rfl,by rw[Le (by decide)];rfl,.inl ⟨rfl,by rw[i1,hr]⟩⟩
theorem QJd {bs:List Int} {f:Fm} {c0:Rr} (hl:bs.length<=1000000) (hb:Qnr bs) (hcode:I64 f.code) (x0:c0.x.f=f) (p0:c0.p=0) (hH:(QjW bs c0).1=0) (hO:(opF bs (QjW bs c0).2).1=0):
  ∃c rx rest,QzM f c=true∧bs=QIK f c rx rest∧QI2 f c rx∧wOf rx=f.w∧(QjW bs c0).2.p=((Zs f).length+rx.length:Nat)∧c=bs.getD ((Zs f).length+rx.length) 0:=by
 have hin:InB bs c0.p:=by rw[p0];exact .zero bs
 obtain⟨a1,a2,q,a3,a4,a5,a6,a7⟩:=QJg hl hin hH;have hW:=QJ0 hl hin hH;have hk:=QFQ (bs:=bs) (c:=c0) hl hin;obtain⟨b1,b2⟩:=QJs hl hb (by rw[a7,x0];exact hcode) hk.2.2 hO;rw[a7,x0]at b2;rw[x0,p0]at a1 a2 a3 hW;rw[x0]at a4 a5 a6;rw[a6]at b1 b2;obtain⟨k,hkd⟩:∃k,k=(QHh f.pre).length:=⟨_,rfl⟩;obtain⟨c,hc⟩:∃c,c=bs.getD (q+(Qfg f.map).length).toNat 0:=⟨_,rfl⟩;rw[<- hc]at b2;have htk:=QI3 f c;have hdk:=QIS f c;have s1:=seg hb (QHh f.pre) 0 (λj hj=>by simpa using a1 j hj) (by omega);rw[Lw,LP,<- htk]at s1;obtain⟨qn,hqn⟩:∃qn:Nat,q=(qn:Int):=⟨q.toNat,by rw[a3];split<;>omega⟩;rw[hqn]at a3 a4 a5 b1 hc;have hz:(0:Int)+(QHh f.pre).length=k:=by omega
 rw[hz]at a3 hW;have hkb:k<bs.length:=by omega
 obtain⟨rx,r1,r2,r3,r4⟩:=QJl hb hkb a3;have s2:=seg hb (Qfg f.map) qn a4 (by omega);have s3:bs.drop (qn+(Qfg f.map).length)=c::bs.drop (qn+(Qfg f.map).length+1):=by
  have hp:qn+(Qfg f.map).length<bs.length:=by omega
  rw[Nh hp];congr 1;rw[hc,show((qn:Int)+((Qfg f.map).length:Int)).toNat=qn+(Qfg f.map).length by omega,LX,La hp];rfl
 have s4:bs.drop qn=(stp f c).drop (QHh f.pre).length++bs.drop (qn+(Qfg f.map).length+1):=by rw[s2,s3,hdk,LQ];rfl
 have hlen:(Zs f).length+rx.length=qn+(Qfg f.map).length:=by rw[QIr,Lh,<- hkd];omega
 refine⟨c,rx,bs.drop (qn+(Qfg f.map).length+1),b2,?_,?_,by rw[<- r3];exact hW,by rw[a6,hqn,hlen];omega,?_⟩
 ·unfold QIK;rw[<- s4,<- r1,hkd];exact s1
 ·rcases r4 with⟨rfl,h⟩ | h
  ·refine .inl ⟨rfl,?_⟩;rw[<- hkd];have hq:qn=k:=by simpa using r2
   rw[hq]at s4;have hd:k<(stp f c).length:=by rw[QIC,QIr,Lh,<- hkd];omega
   have e1:bs[k]? = ((stp f c).drop (QHh f.pre).length++bs.drop (k+(Qfg f.map).length+1))[0]? := by rw[<- s4,Nk,N9]
   rw[LY (by rw[NT,<- hkd];omega),Nk,N9,<- hkd,La hkb]at e1;rw[LX,<- e1];exact h
  ·exact .inr h
 ·rw[hlen,hc];congr 1
theorem QIY {L:List Fm} {bs:List Int} {f:Fm} {leads:List (List UInt8)} (hl:bs.length<=1000000) (hb:Qnr bs) (hv:f.vex=false) (hcode:I64 f.code) (hf:f∈L) (hLd:∀g∈L,g.vex=false->Zs g∈leads) (hno:∀l∈leads,QFX f l=false) {c0:Rr} (x0:c0.x.f=f) (p0:c0.p=0) (hH:(QjW bs c0).1=0) (hO:(opF bs (QjW bs c0).2).1=0):f∈Qg9 bs true 0 L:=by
 obtain⟨c,rx,rest,h1,h2,h3,_⟩:=QJd hl hb hcode x0 p0 hH hO;rw[h2];exact QJc hv h1 hf hLd hno h3
theorem QJe (f:Fm):∀b∈Zs f,b≠196∧b≠197:=by
 intro b hb;rw[QIr,LI]at hb;rcases hb with hb | hb
 ·rcases QJk _ b hb with rfl | rfl | rfl<;>decide
 ·rcases QBc f.map with e | e | e | e<;>rw[e]at hb
  ·rw[Sa.1 hb];decide
  ·rcases LK.1 hb with rfl | hb
   ·decide
   ·rw[Sa.1 hb];decide
  ·rcases LK.1 hb with rfl | hb
   ·decide
   ·rw[Sa.1 hb];decide
  ·cases hb
theorem QJz {bs:List Int} {c:Rr} (h:(Qpy bs c).1=0):bs.length≠0∧((bs.getD 0 0==196)||((bs.getD 0 0==197)&&(c.x.f.map==1)&&!(c.x.f.w==1)))=true:=by
 unfold Qpy at h
 by_cases h1:bs.length=0
 ·rw[Lc h1]at h;cases h
 ·rw[Le h1]at h;refine⟨h1,?_⟩
  by_cases h2:((bs.getD 0 0==197)&&(c.x.f.map==1)&&!(c.x.f.w==1))=true
  ·rw[h2,Bd]
  ·rw[Le h2]at h
   by_cases h3:(bs.getD 0 0==196)=false
   ·rw[Lc h3]at h;cases h
   ·have h4:(bs.getD 0 0==196)=true:=by simpa using h3
    rw[h4,N1]
theorem QJm {L:List Fm} {bs:List Int} {f:Fm} (hv:f.vex=true) (hf:f∈L) (h1:bs.length≠0) (h2:((bs.getD 0 0==196)||((bs.getD 0 0==197)&&(f.map==1)&&!(f.w==1)))=true):f∈Qg9 bs true 0 L:=by
 cases bs with
 | nil=>exact absurd rfl h1
 | cons c cs=>
  have h2':((c==196)||((c==197)&&(f.map==1)&&!(f.w==1)))=true:=h2;have hc:c=196∨c=197:=by
   rcases Nw _ _▸h2' with h3 | h3
   ·left;simpa using h3
   ·right;simp only[Lm,L0]at h3;exact h3.1.1
  have hrx:Qvj c=false:=by rcases hc with rfl | rfl<;>kernel_rfl
  have ht:Jb f 0 c=true:=by unfold Jb;rw[hv,Lq,h2'];rfl
  have hm:f∈L.filter λg=>Jb g 0 c:=Bo.2 ⟨hf,ht⟩;have hsh:Qyc 1 (L.filter λg=>Jb g 0 c)=false:=by
   cases e:L.filter λg=>Jb g 0 c with
   | nil=>rfl
   | cons g l=>
    have hg:g∈L.filter λg=>Jb g 0 c:=by rw[e];exact Ny ..
    have tg:=(Bo.1 hg).2;show(bif g.vex then(1==0) else Nat.ble 1 (Zs g).length)=false;cases hgv:g.vex with
    | true=>rfl
    | false=>
     rw[Ls];cases el:Zs g with
     | nil=>rfl
     | cons b r=>
      exfalso;unfold Jb at tg;rw[hgv,Ls,el]at tg;have tb:c=(b.toNat:Int):=by simpa using tg
      obtain⟨m1,m2⟩:=QJe g b (by rw[el];exact Ny ..);rcases hc with e | e
      ·exact m1 (BK.1 (show b.toNat=(196:UInt8).toNat by show b.toNat=196;omega))
      ·exact m2 (BK.1 (show b.toNat=(197:UInt8).toNat by show b.toNat=197;omega))
  show f∈bif Qyc 0 L then(bif true&&Qvj c then _ else Qg9 cs (true&&_) 1 (L.filter λg=>Jb g 0 c)) else L
  rw[hrx];cases Qyc 0 L with
  | false=>exact hf
  | true=>
   rw[NJ,Lq,Ls];cases cs with
   | nil=>exact hm
   | cons x r=>
    show f∈bif Qyc 1 (L.filter λg=>Jb g 0 c) then _ else(L.filter λg=>Jb g 0 c)
    rw[hsh];exact hm
theorem QJG {L:List Fm} {bs:List Int} {f:Fm} {leads:List (List UInt8)} (hl:bs.length<=1000000) (hb:Qnr bs) (hcode:I64 f.code) (hf:f∈L) (hLd:∀g∈L,g.vex=false->Zs g∈leads) (hno:f.vex=false->∀l∈leads,QFX f l=false) (h:(Qnq bs f).e=0):f∈Qg9 bs true 0 L:=by
 obtain⟨c0,x0,p0,hH,hO,_⟩:=QI1 h;cases hv:f.vex with
 | true=>
  have eH:Qe0 bs c0=Qpy bs c0:=by unfold Qe0;rw[x0,hv];rfl
  rw[eH]at hH;obtain⟨h1,h2⟩:=QJz hH;rw[x0]at h2;exact QJm hv hf h1 h2
 | false=>
  have eH:Qe0 bs c0=QjW bs c0:=by unfold Qe0;rw[x0,hv];rfl
  rw[eH]at hH hO;exact QIY hl hb hv hcode hf hLd (hno hv) x0 p0 hH hO
theorem QIV (bs:List Int) (f:Fm) (l:List Fm) (err:Int):QIG bs (f::l) err=if((Qnq bs f).e==0)=true then⟨(Qnq bs f).op,(Qnq bs f).l,(Qnq bs f).n,0⟩ else QIG bs l (if((Qnq bs f).e==9)=true then 9 else err):=rfl
theorem QJi {bs:List Int} {f:Fm} (h:(Qnq bs f).e=0):∀ (l:List Fm) (err:Int),f∈l->(∀g∈l,(Qnq bs g).e=0->Qnq bs g=Qnq bs f)->QIG bs l err=Qnq bs f
 | [],_,hf,_=>by cases hf
 | g::l,err,hf,hu=>by
  rw[QIV]
  by_cases z:((Qnq bs g).e==0)=true
  ·have e0:(Qnq bs g).e=0:=by simpa using z
   rw[Lc z,hu g (Ny ..) e0];rw[<- h]
  ·rw[Le z];rcases LK.1 hf with rfl | hf
   ·rw[h]at z;exact absurd rfl z
   ·exact QJi h l _ hf λg' hg'=>hu g' (NA _ hg')
theorem QIw (f:Fm):∀ (b:List Int) (ah:Bool) (d:Nat) (L:List Fm),f∈Qg9 b ah d L->f∈L
 | [],_,_,_,h=>h
 | c::cs,ah,d,L,h=>by
  have h:f∈bif Qyc d L then(bif ah&&Qvj c then Qg9 cs false d L else Qg9 cs (ah&&((c==102)||(c==242)||(c==243))) (d+1) (L.filter λf=>Jb f d c)) else L:=h
  cases ho:Qyc d L with
  | false=>rw[ho]at h;exact h
  | true=>
   rw[ho,Lq]at h;cases hr:ah&&Qvj c with
   | true=>rw[hr]at h;exact QIw f cs _ _ _ h
   | false=>rw[hr]at h;exact(Bo.1 (QIw f cs _ _ _ h)).1
theorem QIL (f:Fm) (b:List Int):∀ (a:List Int) (ah:Bool) (d:Nat) (L:List Fm),f∈Qg9 (a++b) ah d L->f∈Qg9 a ah d L
 | [],ah,d,L,h=>QIw f b ah d L h
 | c::cs,ah,d,L,h=>by
  have h:f∈bif Qyc d L then(bif ah&&Qvj c then Qg9 (cs++b) false d L else Qg9 (cs++b) (ah&&((c==102)||(c==242)||(c==243))) (d+1) (L.filter λf=>Jb f d c)) else L:=h
  show f∈bif Qyc d L then(bif ah&&Qvj c then Qg9 cs false d L else Qg9 cs (ah&&((c==102)||(c==242)||(c==243))) (d+1) (L.filter λf=>Jb f d c)) else L
  cases ho:Qyc d L with
  | false=>rw[ho]at h;exact h
  | true=>
   rw[ho,Lq]at h;rw[Lq];cases hr:ah&&Qvj c with
   | true=>rw[hr]at h;exact QIL f b cs _ _ _ h
   | false=>rw[hr]at h;exact QIL f b cs _ _ _ h
theorem QI4 {bs:List Int} {c:Rr} {n:Int} (h:InB bs c.p) (h0:(XC bs c n).1=9):c.p=bs.length:=by
 unfold InB at h;have e:XC bs c n=((Qlu bs c.p n).1,{c with p:=(Qlu bs c.p n).2}):=rfl;rw[e]at h0;simp only at h0;unfold Qlu at h0
 by_cases h1:(bs.length:Int)<=c.p
 ·omega
 ·rw[Le h1]at h0
  by_cases h2:(IntKind.i64.wrap (bs.getD c.p.toNat 0)==n)=false
  ·rw[Lc h2]at h0;cases h0
  ·rw[Le h2]at h0;cases h0
theorem QI5 {bs:List Int} (hl:bs.length<=1000000):∀ (l:List UInt8) (c:Rr),InB bs c.p->(Qnm bs l c).1=9->∃j,j<l.length∧c.p+j=bs.length∧∀i (hi:i<l.length),i<j->XI bs (c.p+i)=l[i].toNat
 | [],c,h,h0=>by cases h0
 | n::l,c,h,h0=>by
  have e:Qnm bs (n::l) c=if((XC bs c n.toNat).1==0)=true then Qnm bs l (XC bs c n.toNat).2 else XC bs c n.toNat:=rfl
  rw[e]at h0
  by_cases z:((XC bs c n.toNat).1==0)=true
  ·rw[Lc z]at h0;obtain⟨h1,h2,h3⟩:=QIN hl h (by simpa using z);rw[h3]at h0;have h':InB bs (c.p+1):=by unfold InB at *;omega
   obtain⟨j,j1,j2,j3⟩:=QI5 hl l {c with p:=c.p+1} h' h0;simp only at j2 j3;refine⟨j+1,by simpa using j1,by omega,λi hi hij=>?_⟩;cases i with
   | zero=>simpa using h2
   | succ i=>
    have:=j3 i (by simpa using hi) (by omega);rw[show c.p+((i+1:Nat):Int)=c.p+1+i by omega,this];rfl
  ·rw[Le z]at h0;exact⟨0,by simp,by have:=QI4 h h0;omega,λi hi hij=>absurd hij (Nat.not_lt_zero _)⟩
theorem QJH {bs:List Int} {c:Rr} (h:InB bs c.p) (h0:(Qcr bs c).1=9):c.p=bs.length:=by
 unfold InB at h;have e:Qcr bs c=if(bs.length:Int)<=c.p then(9,c)
  else if(decide (64<=XI bs c.p)&&decide (XI bs c.p<=79))=true then QcQ (QqQ c (XI bs c.p - 64).toNat) (Jl (XI bs c.p - 64).toNat 4 3) else QcQ c 0:=rfl
 have ne:∀c' w,(QcQ c' w).1≠9:=λc' w=>by unfold QcQ;split<;>simp
 rw[e]at h0
 by_cases h1:(bs.length:Int)<=c.p
 ·omega
 ·rw[Le h1]at h0;split at h0
  ·exact absurd h0 (ne _ _)
  ·exact absurd h0 (ne _ _)
theorem QJB {bs:List Int} {f:Fm} (h:(Qnq bs f).e=9):∃c0:Rr,c0.x.f=f∧c0.p=0∧((Qe0 bs c0).1=9∨(Qe0 bs c0).1=0∧((opF bs (Qe0 bs c0).2).1=9∨(opF bs (Qe0 bs c0).2).1=0)):=by
 obtain⟨c0,hc0⟩:∃c0,c0=rd0 ⟨f,.slice none 0 0,.slice none 0 0⟩ (.slice none 0 0):=⟨_,rfl⟩;have e:Qnq bs f=bif (rdM bs c0).1==0 then Qob bs (rdM bs c0).2 else Qgi (rdM bs c0).1:=by rw[hc0];rfl
 refine⟨c0,by rw[hc0];rfl,by rw[hc0];rfl,?_⟩;rw[e]at h;have eM:rdM bs c0=bif (rdO bs c0).1==0 then Qcs bs (rdO bs c0).2 else rdO bs c0:=rfl
 have eO:rdO bs c0=bif (Qe0 bs c0).1==0 then opF bs (Qe0 bs c0).2 else Qe0 bs c0:=rfl
 cases zH:(Qe0 bs c0).1==0 with
 | false=>
  rw[zH,Ls]at eO;rw[eO,zH,Ls]at eM;rw[eM,zH,Ls]at h;exact .inl h
 | true=>
  rw[zH,Lq]at eO;rw[eO]at eM;refine .inr ⟨by simpa using zH,?_⟩;cases zO:(opF bs (Qe0 bs c0).2).1==0 with
  | true=>exact .inr (by simpa using zO)
  | false=>
   rw[zO,Ls]at eM;rw[eM,zO,Ls]at h;exact .inl h
theorem QJS {bs:List Int} {c:Rr} (h:InB bs c.p) (h0:(opF bs c).1=9):c.p=bs.length:=by
 have e:opF bs c=if(decide (QC c.x.f.slots 4<0))=true then XC bs c c.x.f.code
  else if(bs.length:Int)<=c.p then(9,c) else XC bs {c with low:=QrY bs c.p} (IntKind.i64.wrap (c.x.f.code+QrY bs c.p)):=rfl
 rw[e]at h0
 by_cases z:decide (QC c.x.f.slots 4<0)=true
 ·rw[Lc z]at h0;exact QI4 h h0
 ·rw[Le z]at h0
  by_cases g:(bs.length:Int)<=c.p
  ·unfold InB at h;omega
  ·rw[Le g]at h0;exact QI4 (c:={c with low:=QrY bs c.p}) h h0
section
variable {bs:List Int} {f:Fm} {c0:Rr}
theorem QJn {bs:List Int} {f:Fm} (hb:Qnr bs) {j:Nat} (hj:j<=(QHh f.pre).length) (hjl:j=bs.length) (h:∀i (hi:i<(QHh f.pre).length),i<j->XI bs ((0:Int)+i)=(QHh f.pre)[i].toNat) (c:Int):
  ∃more,bs++more=QIK f c [] []:=by
 have s:=seg hb ((QHh f.pre).take j) 0 (λi hi=>by
  rw[Sb]at hi;have:=h i (by omega) (by omega);rw[RK];simpa using this) (by rw[Sb];omega)
 rw[Lw,NK (by rw[Sb];omega),Na]at s;refine⟨((QHh f.pre).drop j).map (λb=>(b.toNat:Int))++(stp f c).drop (QHh f.pre).length,?_⟩;unfold QIK;rw[s,<- LQ,<- N6,NW,QI3,LH,Na]
theorem QJo {bs:List Int} {f:Fm} (hb:Qnr bs) (h1:∀j (hj:j<(QHh f.pre).length),XI bs ((0:Int)+j)=(QHh f.pre)[j].toNat) (hk:(QHh f.pre).length<bs.length) {q:Int} (hq:q=(QHh f.pre).length+(if QIO bs (QHh f.pre).length=true then 1 else 0)) {j:Nat} (hj:j<=(Qfg f.map).length) (hjl:q+j=bs.length)
  (h:∀i (hi:i<(Qfg f.map).length),i<j->XI bs (q+i)=(Qfg f.map)[i].toNat) (c:Int) (hnr:Qvj ((stp f c).getD (QHh f.pre).length 0)=false):
  ∃more rx,bs++more=QIK f c rx []∧QI2 f c rx:=by
 obtain⟨qn,hqn⟩:∃qn:Nat,q=(qn:Int):=⟨q.toNat,by rw[hq];split<;>omega⟩;rw[hqn]at hq hjl h;obtain⟨rx,r1,r2,r3,r4⟩:=QJl hb hk hq;have s1:=seg hb (QHh f.pre) 0 (λj hj=>by simpa using h1 j hj) (by omega);rw[Lw,LP,r1]at s1;have s:=seg hb ((Qfg f.map).take j) qn (λi hi=>by
  rw[Sb]at hi;have:=h i (by omega) (by omega);rw[RK];exact this) (by rw[Sb];omega)
 have hd:bs.drop (qn+((Qfg f.map).take j).length)=[]:=NK (by rw[Sb];omega);rw[hd,Na]at s;rw[s]at s1;refine⟨((Qfg f.map).drop j).map (λb=>(b.toNat:Int))++[c],rx,?_,?_⟩
 ·unfold QIK;rw[QI3,QIS,Na];have e:(Qfg f.map).map (λb=>(b.toNat:Int))=((Qfg f.map).take j).map (λb=>(b.toNat:Int))++((Qfg f.map).drop j).map (λb=>(b.toNat:Int)):=by rw[<- N6,NW]
  rw[e]
  conv=>lhs;rw[s1]
  simp only[LQ]
 ·rcases r4 with⟨rfl,_⟩ | h
  ·exact .inl ⟨rfl,hnr⟩
  ·exact .inr h
theorem QJT (hl:bs.length<=1000000) (hb:Qnr bs) (x0:c0.x.f=f) (p0:c0.p=0) (h0:(QjW bs c0).1=9) (c:Int) (hnr:Qvj ((stp f c).getD (QHh f.pre).length 0)=false):
  ∃more rx,bs++more=QIK f c rx []∧QI2 f c rx:=by
 have hin:InB bs c0.p:=by rw[p0];exact .zero bs
 rw[QI0]at h0;unfold Qo2 at h0;rw[x0]at h0
 by_cases z1:((Qnm bs (QHh f.pre) c0).1==0)=true
 ·rw[Lc z1]at h0;obtain⟨a1,a2,a3⟩:=QIR hl (QHh f.pre) c0 hin (by simpa using z1);rw[a1]at h0;have hi1:InB bs (c0.p+(QHh f.pre).length):=by unfold InB at *;omega
  rw[p0]at a2 a3;unfold Qnn at h0
  by_cases z2:((Qcr bs {c0 with p:=c0.p+(QHh f.pre).length}).1==0)=true
  ·rw[Lc z2]at h0;obtain⟨b1,b2,b3⟩:=QJw (c:={c0 with p:=c0.p+(QHh f.pre).length}) hl hi1 (by simpa using z2);have hk:=QBe (bs:=bs) (c:={c0 with p:=c0.p+(QHh f.pre).length}) hi1 hl;generalize Qcr bs {c0 with p:=c0.p+(QHh f.pre).length}=x at *;simp only at b1 b2 b3;rw[b2,x0]at h0;obtain⟨j,j1,j2,j3⟩:=QI5 hl _ x.2 hk h0;rw[p0,Int.zero_add]at b1 b3;exact QJo hb a3 (by omega) b3 (Nat.le_of_lt j1) j2 j3 c hnr
  ·rw[Le z2]at h0;have:=QJH (c:={c0 with p:=c0.p+(QHh f.pre).length}) hi1 h0;simp only at this;rw[p0]at this;obtain⟨more,hm⟩:=QJn hb (Lb _) (by omega) (λi hi _=>a3 i hi) c;exact⟨more,[],hm,.inl ⟨rfl,hnr⟩⟩
 ·rw[Le z1]at h0;obtain⟨j,j1,j2,j3⟩:=QI5 hl _ c0 hin h0;rw[p0]at j2 j3;obtain⟨more,hm⟩:=QJn hb (Nat.le_of_lt j1) (by omega) j3 c;exact⟨more,[],hm,.inl ⟨rfl,hnr⟩⟩
theorem QJC (hl:bs.length<=1000000) (hb:Qnr bs) (x0:c0.x.f=f) (p0:c0.p=0) (hH:(QjW bs c0).1=0) (hO:(opF bs (QjW bs c0).2).1=9) (c:Int) (hnr:Qvj ((stp f c).getD (QHh f.pre).length 0)=false):
  ∃more rx,bs++more=QIK f c rx []∧QI2 f c rx:=by
 have hin:InB bs c0.p:=by rw[p0];exact .zero bs
 obtain⟨a1,a2,q,a3,a4,a5,a6,a7⟩:=QJg hl hin hH;have hk:=QFQ (bs:=bs) (c:=c0) hl hin;have hp:=QJS hk.2.2 hO;rw[x0,p0]at a1 a2 a3;rw[x0]at a4 a5 a6;rw[a6]at hp;rw[Int.zero_add]at a2 a3;exact QJo hb a1 (by omega) a3 (Lb _) hp (λi hi _=>a4 i hi) c hnr
end
theorem QJI {bs:List Int} {c:Rr} (h:(Qpy bs c).1≠4):bs.length=0∨((bs.getD 0 0==196)||((bs.getD 0 0==197)&&(c.x.f.map==1)&&!(c.x.f.w==1)))=true:=by
 unfold Qpy at h
 by_cases h1:bs.length=0
 ·exact .inl h1
 ·rw[Le h1]at h;refine .inr ?_
  by_cases h2:((bs.getD 0 0==197)&&(c.x.f.map==1)&&!(c.x.f.w==1))=true
  ·rw[h2,Bd]
  ·rw[Le h2]at h
   by_cases h3:(bs.getD 0 0==196)=false
   ·rw[Lc h3]at h;exact absurd rfl h
   ·have h4:(bs.getD 0 0==196)=true:=by simpa using h3
    rw[h4,N1]
theorem QJJ {L:List Fm} {bs:List Int} {f:Fm} {leads:List (List UInt8)} (hl:bs.length<=1000000) (hb:Qnr bs) (hcode:I64 f.code) (hf:f∈L) (hLd:∀g∈L,g.vex=false->Zs g∈leads) (hno:f.vex=false->∀l∈leads,QFX f l=false)
  (hop:f.vex=false->QzM f f.code=true) (hnr:f.vex=false->Qvj ((stp f f.code).getD (QHh f.pre).length 0)=false) (h:(Qnq bs f).e=9):f∈Qg9 bs true 0 L:=by
 obtain⟨c0,x0,p0,hc⟩:=QJB h;cases hv:f.vex with
 | true=>
  have eH:Qe0 bs c0=Qpy bs c0:=by unfold Qe0;rw[x0,hv];rfl
  have h4:(Qpy bs c0).1≠4:=by rw[<- eH];rcases hc with h | ⟨h,_⟩<;>rw[h]<;>decide
  have h2:=QJI h4;rw[x0]at h2
  by_cases h1:bs.length=0
  ·cases bs with
   | nil=>exact hf
   | cons _ _=>cases h1
  ·exact QJm hv hf h1 (h2.resolve_left h1)
 | false=>
  have eH:Qe0 bs c0=QjW bs c0:=by unfold Qe0;rw[x0,hv];rfl
  rw[eH]at hc;have fin:(∃more rx,bs++more=QIK f f.code rx []∧QI2 f f.code rx)->f∈Qg9 bs true 0 L:=by
   rintro⟨more,rx,h1,h2⟩;have:=QJc (rest:=[]) hv (hop hv) hf hLd (hno hv) h2;rw[<- h1]at this;exact QIL f more bs _ _ _ this
  rcases hc with h | ⟨hH,h | h⟩
  ·exact fin (QJT hl hb x0 p0 h f.code (hnr hv))
  ·exact fin (QJC hl hb x0 p0 hH h f.code (hnr hv))
  ·exact QIY hl hb hv hcode hf hLd (hno hv) x0 p0 hH h
def pfx (c:Int):Bool:=(c==102)||(c==242)||(c==243)
def QIM:List Int->List Int
 | []=>[]
 | c::cs=>bif Qvj c then cs else bif pfx c then c::QIM cs else c::cs
theorem QJf (t:List Int):∀l:List Int,(∀x∈l,Qvj x=false∧pfx x=true)->QIM (l++t)=l++QIM t
 | [],_=>rfl
 | x::l,h=>by
  obtain⟨h1,h2⟩:=h x (Ny ..);show(bif Qvj x then l++t else bif pfx x then x::QIM (l++t) else x::(l++t))=_;rw[h1,h2,Ls,Lq,QJf t l λy hy=>h y (NA _ hy)];rfl
theorem QJK {c:Int} {cs:List Int} (h:Qvj c=false):∃r,QIM (c::cs)=c::r:=by
 show ∃r,(bif Qvj c then cs else bif pfx c then c::QIM cs else c::cs)=c::r;rw[h,Ls];cases pfx c
 ·exact⟨cs,rfl⟩
 ·exact⟨QIM cs,rfl⟩
theorem QIP {f:Fm} {c:Int} {rx rest:List Int} (h:QI2 f c rx):∃r,QIM (QIK f c rx rest)=stp f c++r:=by
 have hp:∀x∈(stp f c).take (QHh f.pre).length,Qvj x=false∧pfx x=true:=by
  intro x hx;obtain⟨j,hj,rfl⟩:=List.mem_iff_getElem.1 hx;rw[Sb]at hj;have h1:=QJy f c j (by omega);have e:((stp f c).take (QHh f.pre).length)[j]=(stp f c).getD j 0:=by rw[RK,LX,La (by omega)];rfl
  rw[e];exact h1
 have key:∀t r,QIM t=(stp f c).drop (QHh f.pre).length++r->QIM ((stp f c).take (QHh f.pre).length++t)=stp f c++r:=λt r h=>by
  rw[QJf t _ hp,h,<- LQ,NW]
 unfold QIK;rcases h with⟨rfl,hr⟩ | ⟨r,rfl,hr⟩
 ·rw[LH];have hlt:(QHh f.pre).length<(stp f c).length:=by rw[QIC,QIr,Lh];omega
  have hd:(stp f c).getD (QHh f.pre).length 0=(stp f c)[(QHh f.pre).length]:=by rw[LX,La hlt];rfl
  rw[hd]at hr;cases he:Qfg f.map with
  | nil=>
   have e1:(stp f c).drop (QHh f.pre).length=[c]:=by rw[QIS,he];rfl
   have e2:(stp f c)[(QHh f.pre).length]=c:=by
    have:=Nh hlt;rw[e1]at this;exact(Bf this).1.symm
   rw[e2]at hr;obtain⟨r,hr2⟩:=QJK (cs:=rest) hr;refine⟨r,key _ r ?_⟩;rw[e1];exact hr2
  | cons b l=>
   have hb:b=15:=by
    have:=QJb f.map (by rw[he];exact FH _);simp only[he]at this;exact this
   subst hb;have e1:(stp f c).drop (QHh f.pre).length=(15:Int)::(l.map (λb=>(b.toNat:Int))++[c]):=by rw[QIS,he];rfl
   refine⟨rest,key _ rest ?_⟩;rw[e1];rfl
 ·refine⟨rest,key _ rest ?_⟩;show(bif Qvj r then((stp f c).drop (QHh f.pre).length++rest) else _)=_;rw[hr,Lq]
theorem QI6 (f:Fm) (c:Int) {r:List Int} {j:Nat} (hj:j<(Zs f).length):(stp f c++r)[j]? = some ((Zs f)[j].toNat:Int):=by
 unfold stp;rw[LQ,LY (by simpa using hj),LD,La hj];rfl
theorem QI7 (f:Fm) (c:Int) {r:List Int}:(stp f c++r)[(Zs f).length]? = some c:=by
 unfold stp;rw[LQ,LR (by simp),Nn,BJ];rfl
theorem QJA {f g:Fm} {c d:Int} {r s:List Int} (hc:QzM f c=true) (h:stp f c++r=stp g d++s) (hlt:(Zs f).length<(Zs g).length):QFX f (Zs g)=true:=by
 have t1:(Zs g).take (Zs f).length=Zs f:=by
  refine Rp (by rw[Sb];omega) λj h1 h2=>?_;rw[RK];have e:=congrArg (λl=>l[j]?) h;rw[QI6 f c h2,QI6 g d (by omega)]at e;have:=Ly e;have h3:(Zs f)[j].toNat=(Zs g)[j].toNat:=by omega
  exact(BK.1 h3).symm
 have t2:(((Zs g).getD (Zs f).length 0).toNat:Int)=c:=by
  have e:=congrArg (λl=>l[(Zs f).length]?) h;rw[QI7,QI6 g d hlt]at e;rw[LX,La hlt,NB];exact(Ly e).symm
 unfold QFX;rw[t1,t2,hc];simp[hlt]
theorem QJD {f g:Fm} {c d:Int} {r s:List Int} (hc:QzM f c=true) (hd:QzM g d=true) (h:stp f c++r=stp g d++s) (h1:QFX f (Zs g)=false) (h2:QFX g (Zs f)=false):Zs f=Zs g∧c=d:=by
 have n1:¬ (Zs f).length<(Zs g).length:=λhlt=>by rw[QJA hc h hlt]at h1;cases h1
 have n2:¬ (Zs g).length<(Zs f).length:=λhlt=>by rw[QJA hd h.symm hlt]at h2;cases h2
 have hl:(Zs f).length=(Zs g).length:=by omega
 have e1:Zs f=Zs g:=by
  refine Rp hl λj h1 h2=>?_;have e:=congrArg (λl=>l[j]?) h;rw[QI6 f c h1,QI6 g d h2]at e;have:=Ly e;have h3:(Zs f)[j].toNat=(Zs g)[j].toNat:=by omega
  exact BK.1 h3
 refine⟨e1,?_⟩;have e:=congrArg (λl=>l[(Zs f).length]?) h;rw[QI7,hl,QI7]at e;exact Ly e
def QHk:List (List UInt8):=(List.range 8).flatMap λp=>(List.range 4).map λm=>QHh (p:Nat)++Qfg (m:Nat)
theorem QJL:((List.range 8).all λp=>(List.range 4).all λm=>(List.range 8).all λp'=>(List.range 4).all λm'=>!((QHh (p:Nat)++Qfg (m:Nat))==(QHh (p':Nat)++Qfg (m':Nat)))||(Nat.beq p p'&&Nat.beq m m'))=true:=by kernel_rfl
def QH6 (f:Fm):Bool:=
 decide (0<=f.code)&&decide (f.code<=255)&&Nat.beq f.shapes.length f.slots.length &&
 (f.vex||((f.l==0)&&decide (0<=f.pre)&&decide (f.pre<8)&&decide (0<=f.map)&&decide (f.map<4)&&QzM f f.code&&!Qvj ((stp f f.code).getD (QHh f.pre).length 0)&&(QHk.all λl=>!QFX f l)&&!((Zs f).isEmpty&&(QzM f 196||QzM f 197))))
structure Fit (f:Fm):Prop where
 l0:f.l=0
 p0:0<=f.pre
 p8:f.pre<8
 m0:0<=f.map
 m4:f.map<4
 op:QzM f f.code=true
 nr:Qvj ((stp f f.code).getD (QHh f.pre).length 0)=false
 no:∀l∈QHk,QFX f l=false
 nv:Zs f=[]->QzM f 196=false∧QzM f 197=false
theorem QIH {f:Fm} (h:QH6 f=true):I64 f.code∧f.shapes.length=f.slots.length:=by
 unfold QH6 at h;simp only[Lm,Lv]at h;exact⟨by unfold I64;omega,LA h.1.2⟩
theorem QIJ {f:Fm} (h:QH6 f=true) (hv:f.vex=false):Fit f:=by
 unfold QH6 at h;simp only[Lm,Lv,hv,Nt,L0,Lr,Li]at h;obtain⟨_,⟨⟨⟨⟨⟨⟨⟨h1,h2⟩,h3⟩,h4⟩,h5⟩,h6⟩,h7⟩,h8⟩,h9⟩:=h;refine⟨h1,h2,h3,h4,h5,h6,h7,h8,λe=>?_⟩;rw[e]at h9;have h9':(QzM f 196||QzM f 197)=false:=h9;exact BQ.1 h9'
theorem QI8 {f:Fm} (h:Fit f):Zs f∈QHk:=by
 unfold QHk;have p0:=h.p0;have p8:=h.p8;have m0:=h.m0;have m4:=h.m4;rw[NF];refine⟨f.pre.toNat,LU.2 (by omega),?_⟩;rw[N4];refine⟨f.map.toNat,LU.2 (by omega),?_⟩;rw[show((f.pre.toNat:Nat):Int)=f.pre by omega,show((f.map.toNat:Nat):Int)=f.map by omega,QIr]
theorem QJM {f g:Fm} (hf:Fit f) (hg:Fit g) (h:Zs f=Zs g):f.pre=g.pre∧f.map=g.map:=by
 have p0:=hf.p0;have p8:=hf.p8;have m0:=hf.m0;have m4:=hf.m4;have q0:=hg.p0;have q8:=hg.p8;have n0:=hg.m0;have n4:=hg.m4;have t:=Li.1 (Li.1 (Li.1 (Li.1 QJL f.pre.toNat (LU.2 (by omega))) f.map.toNat (LU.2 (by omega))) g.pre.toNat (LU.2 (by omega))) g.map.toNat (LU.2 (by omega));rw[show((f.pre.toNat:Nat):Int)=f.pre by omega,show((f.map.toNat:Nat):Int)=f.map by omega,show((g.pre.toNat:Nat):Int)=g.pre by omega,show((g.map.toNat:Nat):Int)=g.map by omega,<- QIr,<- QIr,h,LO]at t;simp only[L8,Nt,Lm]at t;have e1:=LA t.1;have e2:=LA t.2;omega
theorem QJU {f g:Fm} {c:Int} {rx rx' rest rest':List Int} (hb:QIK f c rx rest=QIK g c rx' rest') (hp:f.pre=g.pre) (hs:stp f c=stp g c) (h:QI2 f c rx) (h':QI2 g c rx'):rx=rx':=by
 unfold QIK at hb;unfold QI2 at h h';rw[<- hp,<- hs]at hb h';have hb:=List.append_cancel_left hb;have hlt:(QHh f.pre).length<(stp f c).length:=by rw[QIC,QIr,Lh];omega
 have hd:(stp f c).getD (QHh f.pre).length 0=(stp f c)[(QHh f.pre).length]:=by rw[LX,La hlt];rfl
 rw[Nh hlt,<- hd]at hb;generalize (stp f c).getD (QHh f.pre).length 0=z at *;rcases h with⟨rfl,h⟩ | ⟨r,rfl,h⟩<;>rcases h' with⟨rfl,h'⟩ | ⟨r',rfl,h'⟩
 ·rfl
 ·have:=(Bf hb).1;rw[this,h']at h;cases h
 ·have:=(Bf hb).1;rw[this,h']at h;cases h
 ·have:=(Bf hb).1;rw[this]
theorem QJp {a b:Fm} {c:Int} (h0:0<=c) (h1:c<=255) (ha:QzM a c=true) (hb:QzM b c=true):QDP a b=true:=by
 obtain⟨n,rfl⟩:∃n:Nat,c=n:=⟨c.toNat,by omega⟩;have ht:=QBL (n:=n) (by omega);unfold QBK at ht;simp only[Lm,L0]at ht;have e1:=ht.1.1.2;have e2:=ht.1.2;unfold QzM at ha hb;unfold QDP QtH;generalize decide (0<=QC a.slots 4)=A at *;generalize decide (0<=QC b.slots 4)=B at *;cases A<;>cases B<;>simp only[Lq,Ls,L0,Lm]at *
 ·rw[e2]at ha hb;exact⟨trivial,by omega⟩
 ·rw[e2]at ha;rw[e1]at hb;refine⟨trivial,?_⟩;rw[Qyd _ (by unfold I64;omega)];omega
 ·rw[e1]at ha;rw[e2]at hb;refine⟨?_,trivial⟩;rw[Qyd _ (by unfold I64;omega)];omega
 ·rw[e1]at ha hb;rw[Qyd _ (by unfold I64;omega)];omega
theorem QJq {bs:List Int} {c:Rr} (hl:bs.length<=1000000) (h:InB bs c.p) (h0:(opF bs c).1=0):(opF bs c).2.p=c.p+1∧(opF bs c).2.x=c.x:=by
 have e:opF bs c=if(decide (QC c.x.f.slots 4<0))=true then XC bs c c.x.f.code
  else if(bs.length:Int)<=c.p then(9,c) else XC bs {c with low:=QrY bs c.p} (IntKind.i64.wrap (c.x.f.code+QrY bs c.p)):=rfl
 rw[e]at h0 ⊢
 by_cases z:decide (QC c.x.f.slots 4<0)=true
 ·rw[Lc z]at h0 ⊢;obtain⟨_,_,e⟩:=QIN hl h h0;rw[e];exact⟨rfl,rfl⟩
 ·rw[Le z]at h0 ⊢
  by_cases g:(bs.length:Int)<=c.p
  ·rw[Lc g]at h0;cases h0
  ·rw[Le g]at h0 ⊢;obtain⟨_,_,e⟩:=QIN (c:={c with low:=QrY bs c.p}) hl h h0;rw[e];exact⟨rfl,rfl⟩
def QHl (f:Fm) (n:Int):Prop:=0<=QC f.slots 2->Qnl f n (f.shapes.getD (QC f.slots 2).toNat 0)=true
theorem QDQ {bs:List Int} {c:Rr} (h0:(Qcs bs c).1=0):QHl c.x.f (XI bs c.p):=by
 intro hi;have e:Qcs bs c=if decide (QC c.x.f.slots 2<0)=true then(0,c)
  else if(bs.length:Int)<=c.p then(9,c)
  else if Qnl c.x.f (XI bs c.p) (c.x.f.shapes.getD (QC c.x.f.slots 2).toNat 0)=false then(4,c)
  else if((rdF bs c.p c.xx c.bb).2==0)=false then((rdF bs c.p c.xx c.bb).2,c)
  else(0,{c with seen:=(rdF bs c.p c.xx c.bb).1,p:=(rdF bs c.p c.xx c.bb).1.ends}):=rfl
 rw[e]at h0;rw[Le (by simp;omega)]at h0
 by_cases g:(bs.length:Int)<=c.p
 ·rw[Lc g]at h0;cases h0
 ·rw[Le g]at h0;cases hm:Qnl c.x.f (XI bs c.p) (c.x.f.shapes.getD (QC c.x.f.slots 2).toNat 0) with
  | true=>rfl
  | false=>rw[Lc hm]at h0;cases h0
theorem QJr {a b:Fm} {n:Int} (ha:a.shapes.length=a.slots.length) (hb:b.shapes.length=b.slots.length) (h1:QHl a n) (h2:QHl b n):
  ((!decide (0<=QC a.slots 2)||!decide (0<=QC b.slots 2))||(!(decide (0<=a.digit)&&decide (0<=b.digit)&&!(a.digit==b.digit))&&!((QHi a&&QHj b)||(QHj a&&QHi b))))=true:=by
 unfold QHl at h1 h2;have la:=Qtr a.slots 2;have lb:=Qtr b.slots 2
 by_cases ia:0<=QC a.slots 2
 ·by_cases ib:0<=QC b.slots 2
  ·have h1:=h1 ia;have h2:=h2 ib;have sa:Qvk a=a.shapes.getD (QC a.slots 2).toNat 0:=by unfold Qvk;rw[Lc ⟨ia,by omega⟩]
   have sb:Qvk b=b.shapes.getD (QC b.slots 2).toNat 0:=by unfold Qvk;rw[Lc ⟨ib,by omega⟩]
   rw[<- sa]at h1;rw[<- sb]at h2;have reg:∀f:Fm,QHi f=true->Qnl f n (Qvk f)=true->(QbE n 6==3)=true:=λf hr hm=>by
    unfold QHi at hr;unfold Qnl at hm;generalize Qvk f=s at *;simp only[Lm,Lv]at hr;cases h3:QbE n 6==3 with
    | true=>rfl
    | false=>
     rw[h3,Ls]at hm;have hz:szF s<0:=by unfold szF;repeat' (first | (split;· omega));omega
     rw[Lp hz]at hm;simp at hm
   have plc:∀f:Fm,QHj f=true->Qnl f n (Qvk f)=true->(QbE n 6==3)=false:=λf hr hm=>by
    unfold QHj at hr;unfold Qnl at hm;generalize Qvk f=s at *;simp only[Nw,Lm,Lv,L0]at hr;cases h3:QbE n 6==3 with
    | false=>rfl
    | true=>
     rw[h3,Lq]at hm;have hz:clF s=0:=by unfold clF;rw[Le (by omega),Le (by omega),Le (by omega),Le (by omega),Le (by omega),Le (by omega)]
     rw[hz]at hm;simp at hm
   have hd:(decide (0<=a.digit)&&decide (0<=b.digit)&&!(a.digit==b.digit))=false:=by
    unfold Qnl at h1 h2;simp only[Lm,Lr]at h1 h2;have d1:=h1.1;have d2:=h2.1
    by_cases za:0<=a.digit
    ·by_cases zb:0<=b.digit
     ·simp only[Lp za,Lp zb,LJ,Lu,L0]at d1 d2 ⊢;omega
     ·simp[zb]
    ·simp[za]
   have hrp:((QHi a&&QHj b)||(QHj a&&QHi b))=false:=by
    cases r1:QHi a<;>cases r2:QHj b<;>cases r3:QHj a<;>cases r4:QHi b<;>first
     | rfl
     | (have:=reg a r1 h1;rw[plc b r2 h2]at this;cases this)
     | (have:=reg b r4 h2;rw[plc a r3 h1]at this;cases this)
   rw[hd,hrp];simp
  ·simp[ib]
 ·simp[ia]
theorem QJN {bs:List Int} {c:Rr} (h:(Qpy bs c).1=0):Qo3 (YN bs).1 c.x.f=false∧(Qpy bs c).2.p=(YN bs).2.1∧(Qpy bs c).2.x=c.x:=by
 have tl:∀c':Rr,(QhW bs c').1=0->Qo3 (YN bs).1 c'.x.f=false∧(QhW bs c').2.p=(YN bs).2.1∧(QhW bs c').2.x=c'.x:=λc' h=>by
  unfold QhW at h ⊢
  by_cases h1:((YN bs).2.2==0)=false
  ·rw[Lc h1]at h;have h:(YN bs).2.2=0:=h;rw[h]at h1;cases h1
  ·rw[Le h1]at h ⊢
   by_cases h2:Qo3 (YN bs).1 c'.x.f=true
   ·rw[Lc h2]at h;cases h
   ·rw[Le h2]at h ⊢;split at h
    ·cases h
    ·rename_i h3;rw[Le h3];exact⟨by simpa using h2,rfl,rfl⟩
 unfold Qpy at h ⊢
 by_cases h1:bs.length=0
 ·rw[Lc h1]at h;cases h
 ·rw[Le h1]at h ⊢
  by_cases h2:((bs.getD 0 0==197)&&(c.x.f.map==1)&&!(c.x.f.w==1))=true
  ·rw[Lc h2]at h ⊢;exact tl c h
  ·rw[Le h2]at h ⊢
   by_cases h3:(bs.getD 0 0==196)=false
   ·rw[Lc h3]at h;cases h
   ·rw[Le h3]at h ⊢
    by_cases h4:bs.length<2
    ·rw[Lc h4]at h;cases h
    ·rw[Le h4]at h ⊢;split at h
     ·cases h
     ·rename_i h5;rw[Le h5];exact tl (Qgh bs c) h
theorem QIW {bs:List Int} {f:Fm} (hl:bs.length<=1000000) (hb:Qnr bs) (hcode:I64 f.code) (hv:f.vex=false) (h:(Qnq bs f).e=0):
  ∃c rx rest,QzM f c=true∧bs=QIK f c rx rest∧QI2 f c rx∧wOf rx=f.w∧0<=c∧c<=255∧QHl f (XI bs (((Zs f).length+rx.length:Nat)+1)):=by
 obtain⟨c0,x0,p0,hH,hO,hM⟩:=QI1 h;have eH:Qe0 bs c0=QjW bs c0:=by unfold Qe0;rw[x0,hv];rfl
 rw[eH]at hH hO hM;obtain⟨c,rx,rest,h1,h2,h3,h4,h5,h6⟩:=QJd hl hb hcode x0 p0 hH hO;have hin:InB bs c0.p:=by rw[p0];exact .zero bs
 obtain⟨_,_,_,_,_,_,_,hx⟩:=QJg hl hin hH;have hk:=QFQ (bs:=bs) (c:=c0) hl hin;obtain⟨s1,s2⟩:=QJq hl hk.2.2 hO;have hm:=QDQ hM;obtain⟨b1,_⟩:=QJs hl hb (by rw[hx,x0];exact hcode) hk.2.2 hO;rw[s2,hx,x0,s1,h5]at hm;rw[h5]at b1;obtain⟨n,n1,n2,n3,n4⟩:=hb.at (p:=(((Zs f).length+rx.length:Nat):Int)) (by omega) b1;simp only[LG]at n3;exact⟨c,rx,rest,h1,h2,h3,h4,by rw[h6,n3];omega,by rw[h6,n3];omega,hm⟩
theorem QIX {bs:List Int} {f:Fm} (hl:bs.length<=1000000) (hb:Qnr bs) (hcode:I64 f.code) (hv:f.vex=true) (h:(Qnq bs f).e=0):
  Qo3 (YN bs).1 f=false∧QzM f (bs.getD (YN bs).2.1.toNat 0)=true∧(YN bs).2.1<bs.length∧QHl f (XI bs ((YN bs).2.1+1))∧bs.length≠0∧(bs.getD 0 0=196∨bs.getD 0 0=197):=by
 obtain⟨c0,x0,p0,hH,hO,hM⟩:=QI1 h;have eH:Qe0 bs c0=Qpy bs c0:=by unfold Qe0;rw[x0,hv];rfl
 rw[eH]at hH hO hM;obtain⟨v1,v2,v3⟩:=QJN hH;obtain⟨w1,w2⟩:=QJz hH;have hp:=QBg bs;have hin:InB bs (Qpy bs c0).2.p:=by rw[v2];exact hp
 obtain⟨b1,b2⟩:=QJs hl hb (by rw[v3,x0];exact hcode) hin hO;obtain⟨s1,s2⟩:=QJq hl hin hO;have hm:=QDQ hM;rw[s2,v3,x0,s1,v2]at hm;rw[v3,x0,v2]at b2;rw[v2]at b1;rw[x0]at v1 w2;refine⟨v1,b2,b1,hm,w1,?_⟩;rcases Nw _ _▸w2 with h | h
 ·exact .inl (by simpa using h)
 ·simp only[Lm,L0]at h;exact .inr h.1.1
theorem QJX {bs:List Int} {f:Fm} (hl:bs.length<=1000000) (hb:Qnr bs) (hf:QH6 f=true) (hv:f.vex=false) (h:(Qnq bs f).e=0) (h1:bs.length≠0) (h2:bs.getD 0 0=196∨bs.getD 0 0=197):False:=by
 obtain⟨c,rx,rest,a1,a2,a3,_⟩:=QIW hl hb (QIH hf).1 hv h;have ff:=QIJ hf hv;obtain⟨r,hr⟩:=QIP (rest:=rest) a3;rw[<- a2]at hr;cases bs with
 | nil=>exact h1 rfl
 | cons x t=>
  have h2:x=196∨x=197:=h2;have e:QIM (x::t)=x::t:=by
   rcases h2 with rfl | rfl<;>rfl
  rw[e]at hr;cases hlf:Zs f with
  | nil=>
   have:stp f c=[c]:=by unfold stp;rw[hlf];rfl
   rw[this]at hr;have hx:x=c:=(Bf hr).1;obtain⟨n1,n2⟩:=ff.nv hlf;rcases h2 with e | e
   ·rw[<- hx,e,n1]at a1;cases a1
   ·rw[<- hx,e,n2]at a1;cases a1
  | cons b l=>
   have:stp f c=(b.toNat:Int)::(l.map (λb=>(b.toNat:Int))++[c]):=by unfold stp;rw[hlf];rfl
   rw[this]at hr;have hx:x=(b.toNat:Int):=(Bf hr).1;obtain⟨m1,m2⟩:=QJe f b (by rw[hlf];exact Ny ..);rcases h2 with e | e
   ·exact m1 (BK.1 (show b.toNat=(196:UInt8).toNat by show b.toNat=196;omega))
   ·exact m2 (BK.1 (show b.toNat=(197:UInt8).toNat by show b.toNat=197;omega))
theorem QJt {bs:List Int} {f g:Fm} (hl:bs.length<=1000000) (hb:Qnr bs) (hf:QH6 f=true) (hg:QH6 g=true) (h1:(Qnq bs f).e=0) (h2:(Qnq bs g).e=0):QsI f g=true:=by
 obtain⟨cf,sf⟩:=QIH hf;obtain⟨cg,sg⟩:=QIH hg;have eM:QsI f g=((f.vex==g.vex)&&(f.pre==g.pre)&&(f.map==g.map)&&(f.l==g.l) &&
  !((!(f.w==g.w)&&!(f.w==-1)&&!(g.w==-1))||!QDP f g) &&
  ((!decide (0<=QC f.slots 2)||!decide (0<=QC g.slots 2))||(!(decide (0<=f.digit)&&decide (0<=g.digit)&&!(f.digit==g.digit))&&!((QHi f&&QHj g)||(QHj f&&QHi g))))):=rfl
 cases vf:f.vex with
 | false=>
  cases vg:g.vex with
  | false=>
   obtain⟨c,rx,rest,a1,a2,a3,a4,a5,a6,a7⟩:=QIW hl hb cf vf h1;obtain⟨d,rx',rest',b1,b2,b3,b4,b5,b6,b7⟩:=QIW hl hb cg vg h2;have ff:=QIJ hf vf;have fg:=QIJ hg vg;obtain⟨r,hr⟩:=QIP (rest:=rest) a3;obtain⟨s,hs⟩:=QIP (rest:=rest') b3;rw[<- a2]at hr;rw[<- b2]at hs;obtain⟨e1,rfl⟩:=QJD a1 b1 (hr.symm.trans hs) (ff.no _ (QI8 fg)) (fg.no _ (QI8 ff));obtain⟨e2,e3⟩:=QJM ff fg e1;have e4:stp f c=stp g c:=by unfold stp;rw[e1]
   have e5:=QJU (a2.symm.trans b2) e2 e4 a3 b3;rw[<- e5,<- e1]at b7;rw[<- e5]at b4;have hm:=QJr sf sg a7 b7;rw[eM,hm,QJp a5 a6 a1 b1,vf,vg,e2,e3,ff.l0,fg.l0,<- a4,<- b4];simp
  | true=>
   obtain⟨_,_,_,_,n1,n2⟩:=QIX hl hb cg vg h2;exact(QJX hl hb hf vf h1 n1 n2).elim
 | true=>
  obtain⟨v1,v2,v3,v4,n1,n2⟩:=QIX hl hb cf vf h1;cases vg:g.vex with
  | false=>exact(QJX hl hb hg vg h2 n1 n2).elim
  | true=>
   obtain⟨w1,w2,w3,w4,_⟩:=QIX hl hb cg vg h2;have hm:=QJr sf sg v4 w4;have hp:=QBg bs;obtain⟨n,k1,k2,k3,k4⟩:=hb.at hp.1 v3;rw[k3]at v2 w2;have ho:=QJp (by omega) (by omega) v2 w2;unfold Qo3 at v1 w1;simp only[BQ,Lu,L0,BG]at v1 w1;obtain⟨⟨⟨x1,x2⟩,x3⟩,x4⟩:=v1;obtain⟨⟨⟨y1,y2⟩,y3⟩,y4⟩:=w1;have hw:(!(f.w==g.w)&&!(f.w==-1)&&!(g.w==-1))=false:=by
    rcases x2 with x2 | x2
    ·simp[x2]
    ·rcases y2 with y2 | y2
     ·simp[y2]
     ·simp[<- x2,<- y2]
   rw[eM,hm,ho,vf,vg,hw,<- x1,<- y1,<- x3,<- y3,<- x4,<- y4];simp
theorem Qo8 (ib:Int×Bool):∀l:List Ar,(XG ib l).1.length<=l.length
 | []=>Lb _
 | a::l=>by
  have:=Qo8 ib l;show(if((Qau ib a).2==0)=true then((Qau ib a).1::(XG ib l).1,(XG ib l).2) else([],(Qau ib a).2)).1.length<=_;split
  ·simp only[Lo];omega
  ·exact L7 _
theorem QzO (op:Int) (l:List Ar):(Jg op l).length<=l.length+1:=by
 unfold Jg;split
 ·split
  ·simp
  ·omega
 ·split
  ·simp
  ·split
   ·simp
   ·omega
theorem QBM (op p:Int) (l:List Ar):(QpB op p l).l.length<=5:=by
 unfold QpB;split
 ·exact L7 _
 ·rename_i h;show(Xd op l).2.1.length<=5;unfold Xd at h ⊢;split
  ·exact L7 _
  ·rename_i h1;split
   ·exact L7 _
   ·have h2:=QiX (op:=op) (l:=l) (by simpa using h1);have h3:=Qo8 (WZ op l) l;have h4:=QzO op (XG (WZ op l) l).1;show(Jg op (XG (WZ op l) l).1).length<=5;omega
theorem QBN (bs:List Int) (c:Rr):(Qob bs c).l.length<=5:=by
 have f8:∀c n,(QtC bs c n).l.length<=5:=λc n=>by
  unfold QtC
  repeat' split
  all_goals first
   | exact QBM _ _ _
   | exact L7 _
 unfold Qob
 repeat' split
 all_goals first
  | exact f8 _ _
  | exact L7 _
theorem QzP (bs:List Int) (f:Fm):(Qnq bs f).l.length<=5:=by
 unfold Qnq Qq1;cases(rdM bs (rd0 ⟨f,.slice none 0 0,.slice none 0 0⟩ (.slice none 0 0))).1==0
 ·exact L7 _
 ·exact QBN _ _
theorem QmE {P:Program} {f:Nat} {t:TypeId} {fs:Array Field} {xs ys:Array Value} (h:P.underlying t=some (.struct fs)) (hs:P.stoodInHeld t=false):aeq P (f+1) t (.agg xs) (.agg ys)=XV P (aeq P f) fs.toList xs ys:=by
 unfold aeq;rw[h];simp[hs]
theorem Qi9 {P:Program} {f:Nat} {t:TypeId} {k:IntKind} {a b:Int} (h:P.underlying t=some (.int k)):aeq P (f+1) t (.int k a) (.int k b)=some (a==b):=by
 unfold aeq;rw[h];simp
theorem JQ {P:Program} {eq:TypeId->Value->Value->Option Bool} {fd:Field} {fs:List Field} {xs ys:Array Value} {a b:Value} {r s:Bool} (hn:(fd.name == "_")=false) (ha:Qc5 P fd.type xs fd.offset=some a) (hb:Qc5 P fd.type ys fd.offset=some b) (he:eq fd.type a b=some r) (hr:XV P eq fs xs ys=some s):
  XV P eq (fd::fs) xs ys=some (r&&s):=by
 have hn':¬fd.name = "_" := by simpa using hn
 show(if fd.name = "_" then XV P eq fs xs ys else match Qc5 P fd.type xs fd.offset,Qc5 P fd.type ys fd.offset with
  | some a,some b=>match eq fd.type a b with
   | some true=>XV P eq fs xs ys
   | r=>r
  | _,_=>none)=_
 rw[Le hn',ha,hb];simp only[he];cases r
 ·rfl
 ·rw[hr];rfl
theorem Qrd {P:Program} {eq:TypeId->Value->Value->Option Bool} {xs ys:Array Value}:XV P eq [] xs ys=some true:=rfl
theorem Qre:prog.underlying 3=some (.int .i64):=by kernel_rfl
theorem QGn:prog.underlying Q5=some (.struct #[⟨ "Class",3,0,false, "", "",0⟩,⟨ "N",3,1,false, "", "",8⟩]):=by kernel_rfl
theorem QGo:prog.underlying Qq=some (.struct #[⟨ "Base",Q5,0,false, "", "",0⟩,⟨ "Index",Q5,2,false, "", "",16⟩,⟨ "Scale",3,4,false, "", "",32⟩,⟨ "Disp",3,5,false, "", "",40⟩,⟨ "Size",3,6,false, "", "",48⟩]):=by kernel_rfl
theorem QGp:prog.underlying Qe=some (.struct #[⟨ "Kind",3,0,false, "", "",0⟩,⟨ "R",Q5,1,false, "", "",8⟩,⟨ "M",Qq,3,false, "", "",24⟩,⟨ "N",3,10,false, "", "",80⟩]):=by kernel_rfl
theorem QtT (f:Nat) (a b c d:Int):aeq prog (f+2) Q5 (.agg #[.int .i64 a,.int .i64 b]) (.agg #[.int .i64 c,.int .i64 d])=some ((a==c)&&((b==d)&&true)):=by
 rw[QmE QGn (by kernel_rfl)];exact JQ (by rfl) (a:=.int .i64 a) (b:=.int .i64 c) (by kernel_rfl) (by kernel_rfl) (Qi9 Qre) (JQ (by rfl) (a:=.int .i64 b) (b:=.int .i64 d) (by kernel_rfl) (by kernel_rfl) (Qi9 Qre) Qrd)
theorem QEb (f:Nat) (a1 a2 a3 a4 a5 a6 a7 b1 b2 b3 b4 b5 b6 b7:Int):aeq prog (f+3) Qq (.agg #[.int .i64 a1,.int .i64 a2,.int .i64 a3,.int .i64 a4,.int .i64 a5,.int .i64 a6,.int .i64 a7]) (.agg #[.int .i64 b1,.int .i64 b2,.int .i64 b3,.int .i64 b4,.int .i64 b5,.int .i64 b6,.int .i64 b7]) =
  some (((a1==b1)&&((a2==b2)&&true))&&(((a3==b3)&&((a4==b4)&&true))&&((a5==b5)&&((a6==b6)&&((a7==b7)&&true))))):=by
 rw[QmE QGo (by kernel_rfl)];exact JQ (by rfl) (a:=.agg #[.int .i64 a1,.int .i64 a2]) (b:=.agg #[.int .i64 b1,.int .i64 b2]) (by kernel_rfl) (by kernel_rfl) (QtT f _ _ _ _)
  (JQ (by rfl) (a:=.agg #[.int .i64 a3,.int .i64 a4]) (b:=.agg #[.int .i64 b3,.int .i64 b4]) (by kernel_rfl) (by kernel_rfl) (QtT f _ _ _ _)
  (JQ (by rfl) (a:=.int .i64 a5) (b:=.int .i64 b5) (by kernel_rfl) (by kernel_rfl) (Qi9 Qre)
  (JQ (by rfl) (a:=.int .i64 a6) (b:=.int .i64 b6) (by kernel_rfl) (by kernel_rfl) (Qi9 Qre)
  (JQ (by rfl) (a:=.int .i64 a7) (b:=.int .i64 b7) (by kernel_rfl) (by kernel_rfl) (Qi9 Qre) Qrd))))
theorem QEc (f:Nat) (a b:Ar):aeq prog (f+4) Qe (.agg a.cells.toArray) (.agg b.cells.toArray)=some (decide (a=b)):=by
 obtain⟨k,⟨rc,rn⟩,⟨⟨bc,bn⟩,⟨ic,iN⟩,sc,dd,sz⟩,n⟩:=a;obtain⟨k',⟨rc',rn'⟩,⟨⟨bc',bn'⟩,⟨ic',iN'⟩,sc',dd',sz'⟩,n'⟩:=b;have e:=QmE (f:=f+3) (xs:=#[.int .i64 k,.int .i64 rc,.int .i64 rn,.int .i64 bc,.int .i64 bn,.int .i64 ic,.int .i64 iN,.int .i64 sc,.int .i64 dd,.int .i64 sz,.int .i64 n]) (ys:=#[.int .i64 k',.int .i64 rc',.int .i64 rn',.int .i64 bc',.int .i64 bn',.int .i64 ic',.int .i64 iN',.int .i64 sc',.int .i64 dd',.int .i64 sz',.int .i64 n']) QGp (by kernel_rfl)
 have e2:=JQ (P:=prog) (eq:=aeq prog (f+3)) (fd:=⟨ "Kind",3,0,false, "", "",0⟩) (by rfl) (a:=.int .i64 k) (b:=.int .i64 k') (xs:=#[.int .i64 k,.int .i64 rc,.int .i64 rn,.int .i64 bc,.int .i64 bn,.int .i64 ic,.int .i64 iN,.int .i64 sc,.int .i64 dd,.int .i64 sz,.int .i64 n]) (ys:=#[.int .i64 k',.int .i64 rc',.int .i64 rn',.int .i64 bc',.int .i64 bn',.int .i64 ic',.int .i64 iN',.int .i64 sc',.int .i64 dd',.int .i64 sz',.int .i64 n']) (by kernel_rfl) (by kernel_rfl) (Qi9 Qre)
  (JQ (fd:=⟨ "R",Q5,1,false, "", "",8⟩) (by rfl) (a:=.agg #[.int .i64 rc,.int .i64 rn]) (b:=.agg #[.int .i64 rc',.int .i64 rn']) (by kernel_rfl) (by kernel_rfl) (QtT (f+1) _ _ _ _)
  (JQ (fd:=⟨ "M",Qq,3,false, "", "",24⟩) (by rfl) (a:=.agg #[.int .i64 bc,.int .i64 bn,.int .i64 ic,.int .i64 iN,.int .i64 sc,.int .i64 dd,.int .i64 sz]) (b:=.agg #[.int .i64 bc',.int .i64 bn',.int .i64 ic',.int .i64 iN',.int .i64 sc',.int .i64 dd',.int .i64 sz']) (by kernel_rfl) (by kernel_rfl) (QEb f _ _ _ _ _ _ _ _ _ _ _ _ _ _)
  (JQ (fd:=⟨ "N",3,10,false, "", "",80⟩) (by rfl) (a:=.int .i64 n) (b:=.int .i64 n') (by kernel_rfl) (by kernel_rfl) (Qi9 Qre) Qrd)))
 refine(e.trans e2).trans ?_;congr 1;rw[Ni];simp[and_assoc]
theorem QGq {A:Env} {H:Qa} {k:Value->Qa->Prop} {x y:Operand} {t':TypeId} (a b:Ar) (hc:(Qln x||Qln y)=false) (hx:ev A x=.agg a.cells.toArray) (hy:ev A y=.agg b.cells.toArray):
  pr prog (.gen (.binOp .neq Qe x y t')) false A H k=k (.bool (!decide (a=b))) H:=by
 have hg:GH prog false Qe (.agg a.cells.toArray) (.agg b.cells.toArray)=true:=by
  have h:prog.eqGuardType prog.depth Qe=false:=by kernel_rfl
  simp[GH,QmO,Qus,h]
 have e:rop prog (.gen (.binOp .neq Qe x y t')) A H=some (.bool (!decide (a=b)),H):=by
  simp only[rop,aop,Qik,QuB,hx,hy,hc,Qp8,Qej,hg,Bj,N3,QEc 16];rfl
 refine(Wl _).trans ?_;rw[e,Qt]
theorem Qxk (va vb:Value) (xs ys:List Ar) (H:Qa) (ha:XJ H va xs) (hb:XJ H vb ys) (hlx:xs.length<=1000000) (hly:ys.length<=1000000):Qh prog Kc [va,vb] H λu H'=>u=.bool (decide (xs=ys))∧H'=H:=by
 refine Qh8 λhw=>?_;obtain⟨aa,acap,rfl,hsa⟩:=ha;obtain⟨ba,bcap,rfl,hsb⟩:=hb;simp only[Qco,Qb,simprocAttr]
 by_cases hne:xs.length=ys.length
 ·have e0:((xs.length:Int)==(ys.length:Int))=true:=by simp[hne]
  simp only[e0,Qb,simprocAttr];refine QE (λm A' H'=>∃i:Nat,i<=xs.length∧m=xs.length - i∧H'=H∧(∀j,j<i->xs[j]? = ys[j]?)∧A' 0=.slice aa xs.length acap∧A' 1=.slice ba ys.length bcap∧A' 5=.int .i64 i) xs.length ?_ ?_
  ·refine⟨0,L7 _,by omega,rfl,λj h=>by omega,?_,?_,?_⟩
   all_goals simp only[uxA,uxB,Nat.reduceBEq]
   rfl
  ·rintro m A' H' ⟨i,hi,rfl,hEq,hall,r0,r1,r5⟩;subst hEq;simp only[Qb,simprocAttr,r0,r1,r5];refine Qf (λh2=>?_) (λh2=>?_)
   ·have h2:i<xs.length:=by have:=Lg h2;omega
    obtain⟨b1,e1,ro1,rfl,hb1⟩:=hsa (by omega);obtain⟨b2,e2,ro2,rfl,hb2⟩:=hsb (by omega);have c1:(0:Int)<=i∧(i:Int)<xs.length:=by omega
    have c2:(0:Int)<=i∧(i:Int)<ys.length:=by omega
    have c3:(i:Int).toNat=i:=by omega
    have c4:i * 11+11<=xs.length * 11:=by omega
    have c5:i * 11+11<=ys.length * 11:=by omega
    have ei:IntKind.i64.wrap ((i:Int)+1)=((i+1:Nat):Int):=by rw[w64 (by unfold I64;omega)];omega
    have h2':i<ys.length:=by omega
    have p1:=La h2;have p2:=La h2';have d1:=VY xs i _ p1;have d2:=VY ys i _ p2;have n1:=W1 xs;have n2:=W1 ys;generalize xs[i]=x at *;generalize ys[i]=y at *;have a1:(x.cells.all λv=>v.oneCell')=true:=rfl;have a2:(y.cells.all λv=>v.oneCell')=true:=rfl;simp only[Qb,simprocAttr,r0,r1,r5,c1,c2,c3,c4,c5,hb1,hb2,d1,d2,n1,n2,a1,a2,WJ];rw[QGq x y rfl (by simp only[Qg,simprocAttr]) (by simp only[Qg,simprocAttr])]
    by_cases h3:x=y
    ·have e3:decide (x=y)=true:=Lp h3;simp only[Qb,simprocAttr,e3,r5,ei];refine⟨xs.length - (i+1),by omega,i+1,by omega,rfl,rfl,λj hj=>?_,?_,?_,?_⟩
     ·rcases Nq j i with h | h
      ·exact hall j h
      ·rw[show j=i by omega,p1,p2,h3]
     all_goals simp only[Qg,simprocAttr,r0,r1]
    ·have e3:decide (x=y)=false:=Lj h3;simp only[Qb,simprocAttr,e3,Jd];have h4:xs≠ys:=λh=>by
      rw[h,p2]at p1;exact h3 (Ly p1).symm
     exact .mk (Lb _) ⟨by rw[Lj h4],rfl⟩
   ·have h2:i=xs.length:=by have:=Ll h2;omega
    subst h2;simp only[Qb,simprocAttr,Jd];have heq:xs=ys:=by
     refine BA λi=>?_
     by_cases h1:i<xs.length
     ·exact hall i h1
     ·rw[N7 (by omega),N7 (by omega)]
    exact .mk (Lb _) ⟨by rw[Lp heq],rfl⟩
 ·have e0:((xs.length:Int)==(ys.length:Int))=false:=by simp;omega
  simp only[e0,Qb,simprocAttr,Jd];exact .mk (Lb _) ⟨by rw[Lj (λh=>hne (by rw[h]))],rfl⟩
theorem Qxl (o p:Int) (va vb:Value) (xs ys:List Ar) (H:Qa) (ha:XJ H va xs) (hb:XJ H vb ys) (hlx:xs.length<=1000000) (hly:ys.length<=1000000):Qh prog J9 [.agg #[.int .i64 o,va],.agg #[.int .i64 p,vb]] H λu H'=>u=.bool ((o==p)&&decide (xs=ys))∧∃k,H'=H.up k:=by
 refine Qh7 λhw=>?_;have hx:Ext H ((H.push (.cells [.int .i64 o,va] Qd false)).push (.cells [.int .i64 p,vb] Qd false)):=((Ext.refl H).push _).push _;have ha2:=ha.ext hw hx;have hb2:=hb.ext hw hx;have q:=Qxk va vb xs ys _ ha2 hb2 hlx hly;obtain⟨aa,acap,rfl,hsa⟩:=ha;obtain⟨ba,bcap,rfl,hsb⟩:=hb;simp only[Qcn,Qb,simprocAttr,Yw];cases h1:o==p
 ·simp only[Qb,simprocAttr,Yw];exact .ext hw hx ⟨rfl,_,rfl⟩
 ·simp only[Qb,simprocAttr,Yw];refine q.thenW ?_;rintro _ _ hn hw2 ⟨rfl,rfl⟩;simp only[Qb,simprocAttr,Yw];exact .ext hw hx ⟨by simp,_,rfl⟩
end Go.Proofs.YtfofbicfabokbaaGreatDoor.code
