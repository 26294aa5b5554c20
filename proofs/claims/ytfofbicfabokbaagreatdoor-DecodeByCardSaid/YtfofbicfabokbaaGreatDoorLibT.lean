/- The prefixes, read one behind the other, are the bytes ahead of the opcode. -/
import Derived.Test.YtfofbicfabokbaaGreatDoorLibR
import Derived.Test.YtfofbicfabokbaaGreatDoorLibA
import Derived.Test.YtfofbicfabokbaaGreatDoorC6One
import Derived.Test.YtfofbicfabokbaaGreatDoorLibI
set_option linter.unusedVariables false
set_option linter.unusedSimpArgs false
set_option maxRecDepth 100000
set_option maxHeartbeats 4000000
namespace Go.Proofs.YtfofbicfabokbaaGreatDoor.code
open Go.Ab
def QHh (left:Int):List UInt8:=(if hit left 0=true then[102] else[])++((if hit left 1=true then[242] else[])++(if hit left 2=true then[243] else[]))
def QBK (n:Nat):Bool:=(IntKind.i64.wrap (IntKind.u8.wrap (BitVec.ofInt IntKind.u8.bits (n:Int) &&& BitVec.ofInt IntKind.u8.bits 7).toNat)==((n % 8:Nat):Int))&&(QDt (n:Int)==((n - n % 8:Nat):Int))&&(IntKind.i64.wrap (n:Int)==(n:Int))&&(Qvj (n:Int)==(decide (64<=n)&&decide (n<=79)))
theorem QzL:(List.range 256).all QBK=true:=by kernel_rfl
theorem QBL {n:Nat} (h:n<256):QBK n=true:=Li.1 QzL n (LU.2 h)
def Qnr (bs:List Int):Prop:=∀b∈bs,0<=b∧b<=255
theorem Qnr.at {bs:List Int} (hb:Qnr bs) {p:Int} (h0:0<=p) (h:p<bs.length):∃n:Nat,n<256∧bs[p.toNat]? = some (n:Int)∧bs.getD p.toNat 0=n∧XI bs p=n:=by
 have hk:p.toNat<bs.length:=by omega
 obtain⟨h1,h2⟩:=hb _ (Nb hk);obtain⟨n,hn⟩:∃n:Nat,bs[p.toNat]=(n:Int):=⟨bs[p.toNat].toNat,by omega⟩;have hlt:n<256:=by omega
 have hg:bs.getD p.toNat 0=n:=by rw[LX,La hk,hn];rfl
 have ht:=QBL hlt;unfold QBK at ht;simp only[Lm,L0]at ht;exact⟨n,hlt,by rw[La hk,hn],hg,by unfold XI;rw[hg];exact ht.1.2⟩
def QzM (f:Fm) (c:Int):Bool:=bif decide (0<=QC f.slots 4) then QDt c==f.code else IntKind.i64.wrap c==f.code
def stp (f:Fm) (c:Int):List Int:=(Zs f).map (λb=>(b.toNat:Int))++[c]
def QFX (f:Fm) (l:List UInt8):Bool:=l.take (Zs f).length==Zs f&&decide ((Zs f).length<l.length)&&QzM f ((l.getD (Zs f).length 0).toNat:Int)
section
variable {L:List Fm} {f:Fm} {c:Int} {leads:List (List UInt8)}
theorem QzN (hv:f.vex=false) (hc:QzM f c=true) {j:Nat} (hj:j<=(Zs f).length):Jb f j ((stp f c).getD j 0)=true:=by
 unfold Jb stp;rw[hv,Ls]
 by_cases h:j<(Zs f).length
 ·rw[La h,LX,LY (by simpa using h),LD,La h];simp
 ·obtain rfl:j=(Zs f).length:=by omega
  rw[N7 (Lb _),LX,LR (by simp)];have:Nat.blt (Zs f).length (Zs f).length=false:=by
   cases h':Nat.blt (Zs f).length (Zs f).length with
   | false=>rfl
   | true=>have:=RZ h';omega
  simp only[this,Nn,BJ,Bp,NB,Ls];exact hc
structure QFY (L:List Fm) (f:Fm) (c:Int) (d:Nat) (L':List Fm):Prop where
 mem:f∈L'
 sub:∀g∈L',g∈L
 tk:∀g∈L',∀j,j<d->Jb g j ((stp f c).getD j 0)=true
theorem QFY.next (hv:f.vex=false) (hc:QzM f c=true) {d:Nat} {L':List Fm} (h:QFY L f c d L') (hd:d<=(Zs f).length):QFY L f c (d+1) (L'.filter λg=>Jb g d ((stp f c).getD d 0)):=
 ⟨Bo.2 ⟨h.mem,QzN hv hc hd⟩,λg hg=>h.sub g (Bo.1 hg).1,λg hg j hj=>by
  by_cases e:j=d
  ·rw[e];exact(Bo.1 hg).2
  ·exact h.tk g (Bo.1 hg).1 j (by omega)⟩
end
section
variable {bs:List Int} {f:Fm} {c0:Rr}
end
def QHk:List (List UInt8):=(List.range 8).flatMap λp=>(List.range 4).map λm=>QHh (p:Nat)++Qfg (m:Nat)
def QH6 (f:Fm):Bool:=
 decide (0<=f.code)&&decide (f.code<=255)&&Nat.beq f.shapes.length f.slots.length &&
 (f.vex||((f.l==0)&&decide (0<=f.pre)&&decide (f.pre<8)&&decide (0<=f.map)&&decide (f.map<4)&&QzM f f.code&&!Qvj ((stp f f.code).getD (QHh f.pre).length 0)&&(QHk.all λl=>!QFX f l)&&!((Zs f).isEmpty&&(QzM f 196||QzM f 197))))
def QHl (f:Fm) (n:Int):Prop:=0<=QC f.slots 2->Qnl f n (f.shapes.getD (QC f.slots 2).toNat 0)=true
theorem QDQ {bs:List Int} {c:Rr} (h0:(Qcs bs c).1=0):QHl c.x.f (XI bs c.p):=by
 intro hi;have e:Qcs bs c=if decide (QC c.x.f.slots 2<0)=true then(0,c)
  else if(bs.length:Int)<=c.p then(9,c)
  else if Qnl c.x.f (XI bs c.p) (c.x.f.shapes.getD (QC c.x.f.slots 2).toNat 0)=false then(4,c)
  else if((rdF bs c.p c.xx c.bb).2==0)=false then((rdF bs c.p c.xx c.bb).2,c)
  else(0,{c with seen:=(rdF bs c.p c.xx c.bb).1,p:=(rdF bs c.p c.xx c.bb).1.ends}):=rfl
 rw[e]at h0;rw[Le (by simp;omega)]at h0
 by_cases g:(bs.length:Int)<=c.p
 ·rw[Lc g]at h0;cases h0
 ·rw[Le g]at h0;cases hm:Qnl c.x.f (XI bs c.p) (c.x.f.shapes.getD (QC c.x.f.slots 2).toNat 0) with
  | true=>rfl
  | false=>rw[Lc hm]at h0;cases h0
theorem Qo8 (ib:Int×Bool):∀l:List Ar,(XG ib l).1.length<=l.length
 | []=>Lb _
 | a::l=>by
  have:=Qo8 ib l;show(if((Qau ib a).2==0)=true then((Qau ib a).1::(XG ib l).1,(XG ib l).2) else([],(Qau ib a).2)).1.length<=_;split
  ·simp only[Lo];omega
  ·exact L7 _
theorem QzO (op:Int) (l:List Ar):(Jg op l).length<=l.length+1:=by
 unfold Jg;split
 ·split
  ·simp
  ·omega
 ·split
  ·simp
  ·split
   ·simp
   ·omega
theorem QBM (op p:Int) (l:List Ar):(QpB op p l).l.length<=5:=by
 unfold QpB;split
 ·exact L7 _
 ·rename_i h;show(Xd op l).2.1.length<=5;unfold Xd at h ⊢;split
  ·exact L7 _
  ·rename_i h1;split
   ·exact L7 _
   ·have h2:=QiX (op:=op) (l:=l) (by simpa using h1);have h3:=Qo8 (WZ op l) l;have h4:=QzO op (XG (WZ op l) l).1;show(Jg op (XG (WZ op l) l).1).length<=5;omega
theorem QBN (bs:List Int) (c:Rr):(Qob bs c).l.length<=5:=by
 have f8:∀c n,(QtC bs c n).l.length<=5:=λc n=>by
  unfold QtC
  repeat' split
  all_goals first
   | exact QBM _ _ _
   | exact L7 _
 unfold Qob
 repeat' split
 all_goals first
  | exact f8 _ _
  | exact L7 _
theorem QzP (bs:List Int) (f:Fm):(Qnq bs f).l.length<=5:=by
 unfold Qnq Qq1;cases(rdM bs (rd0 ⟨f,.slice none 0 0,.slice none 0 0⟩ (.slice none 0 0))).1==0
 ·exact L7 _
 ·exact QBN _ _
theorem Qc2 (va vb:Value) (xs ys:List Int) (H:Qa) (ha:ZA H va xs.length (ints xs)) (hb:ZA H vb ys.length (ints ys)) (hlx:xs.length<=1000000) (hly:ys.length<=1000000):Qh prog YS [va,vb] H λu H'=>u=.bool (decide (xs=ys))∧H'=H:=by
 refine Qh9 λhw=>?_;obtain⟨aa,acap,rfl,hsa⟩:=ha;obtain⟨ba,bcap,rfl,hsb⟩:=hb;simp only[Qcp,Qb,simprocAttr]
 by_cases hne:xs.length=ys.length
 ·have e0:((xs.length:Int)==(ys.length:Int))=true:=by simp[hne]
  simp only[e0,Qb,simprocAttr];refine QE (λm A' H'=>∃i:Nat,i<=xs.length∧m=xs.length - i∧H'=H∧(∀j,j<i->xs.getD j 0=ys.getD j 0)∧A' 0=.slice aa xs.length acap∧A' 1=.slice ba ys.length bcap∧A' 12=.int .i64 xs.length∧A' 13=.int .i64 i) xs.length ?_ ?_
  ·refine⟨0,L7 _,by omega,rfl,λj h=>by omega,?_,?_,?_,?_⟩
   all_goals simp only[Qg,simprocAttr]
   all_goals rfl
  ·rintro m A' H' ⟨i,hi,rfl,hEq,hall,r0,r1,r12,r13⟩;subst hEq;simp only[Qb,simprocAttr,r0,r1,r12,r13];refine Qf (λh2=>?_) (λh2=>?_)
   ·have h2:i<xs.length:=by have:=Lg h2;omega
    obtain⟨b1,e1,ro1,rfl,hb1⟩:=hsa (by omega);obtain⟨b2,e2,ro2,rfl,hb2⟩:=hsb (by omega);have c1:(0:Int)<=i∧(i:Int)<xs.length:=by omega
    have c2:(0:Int)<=i∧(i:Int)<ys.length:=by omega
    have c3:(i:Int).toNat=i:=by omega
    have ei:IntKind.i64.wrap ((i:Int)+1)=((i+1:Nat):Int):=by rw[w64 (by unfold I64;omega)];omega
    have g1:=XQ (l:=xs) (i:=i) (by omega);have g2:=XQ (l:=ys) (i:=i) (by omega);simp only[Qb,simprocAttr,r0,r1,r12,r13,c1,c2,c3,hb1,hb2,g1,g2];refine Qf (λh3=>?_) (λh3=>?_)
    ·have h3:¬xs.getD i 0=ys.getD i 0:=by simpa using h3
     simp only[Qb,simprocAttr,Je];exact .mk (Lb _) ⟨by rw[Lj (λh=>h3 (by rw[h]))],rfl⟩
    ·have h3:xs.getD i 0=ys.getD i 0:=by simpa using h3
     simp only[Qb,simprocAttr,r13,ei];refine⟨xs.length - (i+1),by omega,i+1,by omega,rfl,rfl,λj hj=>?_,?_,?_,?_,?_⟩
     ·rcases Nq j i with h | h
      ·exact hall j h
      ·rw[show j=i by omega];exact h3
     all_goals simp only[Qg,simprocAttr,r0,r1,r12]
   ·have h2:i=xs.length:=by have:=Ll h2;omega
    subst h2;simp only[Qb,simprocAttr,Je];have heq:xs=ys:=by
     apply Rp hne;intro i h1 h2;have:=hall i h1;simpa[List.getD,La h1,La h2] using this
    exact .mk (Lb _) ⟨by rw[Lp heq],rfl⟩
 ·have e0:((xs.length:Int)==(ys.length:Int))=false:=by simp;omega
  simp only[e0,Qb,simprocAttr,Je];exact .mk (Lb _) ⟨by rw[Lj (λh=>hne (by rw[h]))],rfl⟩
def eqF (a b:Fm):Bool:=(a.op==b.op)&&decide (a.shapes=b.shapes)&&decide (a.slots=b.slots)&&(a.pre==b.pre)&&(a.map==b.map)&&(a.code==b.code)&&(a.digit==b.digit)&&(a.w==b.w)&&(a.vex==b.vex)&&(a.l==b.l)
theorem QGl (a b:Fm):eqF a b=decide (a=b):=by
 rw[Ni];obtain⟨a1,a2,a3,a4,a5,a6,a7,a8,a9,a10⟩:=a;obtain⟨b1,b2,b3,b4,b5,b6,b7,b8,b9,b10⟩:=b;simp[eqF,and_assoc];intro _;constructor
 ·rintro⟨h2,h3,h4,h5,h6,h7,h8,h9,h10⟩;exact⟨h4,h5,h6,h7,h8,h10,h9,h2,h3⟩
 ·rintro⟨h4,h5,h6,h7,h8,h10,h9,h2,h3⟩;exact⟨h2,h3,h4,h5,h6,h7,h8,h9,h10⟩
theorem QEa (x y:Lf) (H:Qa) (hx:x.At H) (hy:y.At H):Qh prog Qfw [.agg x.cells.toArray,.agg y.cells.toArray] H λu H'=>u=.bool (eqF x.f y.f)∧∃m,H'=H.up m:=by
 refine QpD λhw=>?_;have ex:(Value.agg x.cells.toArray).cells.toList=x.cells:=rfl;have ey:(Value.agg y.cells.toArray).cells.toList=y.cells:=rfl;have hxx:Ext H ((H.push (.cells x.cells Qc false)).push (.cells y.cells Qc false)):=((Ext.refl H).push _).push _;obtain⟨l1,l2,h1,h2⟩:=hx.ext hw hxx;obtain⟨l3,l4,h3,h4⟩:=hy.ext hw hxx;have x0:x.cells[0]? = some (.int .i64 x.f.op):=rfl;have x1:x.cells[1]? = some x.sv:=rfl;have x2:x.cells[2]? = some x.tv:=rfl;have x3:x.cells[3]? = some (.int .i64 x.f.pre):=rfl;have x4:x.cells[4]? = some (.int .i64 x.f.map):=rfl;have x5:x.cells[5]? = some (.int .i64 x.f.code):=rfl;have x6:x.cells[6]? = some (.int .i64 x.f.digit):=rfl;have x7:x.cells[7]? = some (.int .i64 x.f.w):=rfl;have x8:x.cells[8]? = some (.bool x.f.vex):=rfl;have x9:x.cells[9]? = some (.int .i64 x.f.l):=rfl;have y0:y.cells[0]? = some (.int .i64 y.f.op):=rfl;have y1:y.cells[1]? = some y.sv:=rfl;have y2:y.cells[2]? = some y.tv:=rfl;have y3:y.cells[3]? = some (.int .i64 y.f.pre):=rfl;have y4:y.cells[4]? = some (.int .i64 y.f.map):=rfl;have y5:y.cells[5]? = some (.int .i64 y.f.code):=rfl;have y6:y.cells[6]? = some (.int .i64 y.f.digit):=rfl;have y7:y.cells[7]? = some (.int .i64 y.f.w):=rfl;have y8:y.cells[8]? = some (.bool y.f.vex):=rfl;have y9:y.cells[9]? = some (.int .i64 y.f.l):=rfl;have fin:∀ (b:Bool),b=eqF x.f y.f->Ret H (λu H'=>u=.bool (eqF x.f y.f)∧∃m,H'=H.up m) (.bool b) ((H.push (.cells x.cells Qc false)).push (.cells y.cells Qc false)):=λb hb=>.ext hw hxx ⟨by rw[hb],_,rfl⟩;simp only[QjC,ex,ey,Qb,simprocAttr,x1,y1];refine(Qc2 _ _ x.f.shapes y.f.shapes _ h1 h3 (by omega) (by omega)).mono ?_;rintro _ _ ⟨rfl,rfl⟩;cases q1:decide (x.f.shapes=y.f.shapes)<;>simp only[Qb,simprocAttr,x2,y2,W6]
 ·exact fin _ (by simp[eqF,q1])
 refine(Qc2 _ _ x.f.slots y.f.slots _ h2 h4 (by omega) (by omega)).mono ?_;rintro _ _ ⟨rfl,rfl⟩;cases q2:decide (x.f.slots=y.f.slots)<;>simp only[Qb,simprocAttr,QgR,x0,y0,W6]
 ·exact fin _ (by simp[eqF,q1,q2])
 cases q0:x.f.op==y.f.op<;>simp only[Qb,simprocAttr,x3,y3,W6]
 ·exact fin _ (by simp[eqF,q0])
 cases q3:x.f.pre==y.f.pre<;>simp only[Qb,simprocAttr,x4,y4,W6]
 ·exact fin _ (by simp[eqF,q0,q1,q2,q3])
 cases q4:x.f.map==y.f.map<;>simp only[Qb,simprocAttr,x5,y5,W6]
 ·exact fin _ (by simp[eqF,q0,q1,q2,q3,q4])
 cases q5:x.f.code==y.f.code<;>simp only[Qb,simprocAttr,QgQ,x6,y6,W6]
 ·exact fin _ (by simp[eqF,q0,q1,q2,q3,q4,q5])
 cases q6:x.f.digit==y.f.digit<;>simp only[Qb,simprocAttr,x7,y7,W6]
 ·exact fin _ (by simp[eqF,q0,q1,q2,q3,q4,q5,q6])
 cases q7:x.f.w==y.f.w<;>simp only[Qb,simprocAttr,x8,y8,W6]
 ·exact fin _ (by simp[eqF,q0,q1,q2,q3,q4,q5,q6,q7])
 cases q8:x.f.vex==y.f.vex<;>simp only[Qb,simprocAttr,x9,y9,W6]
 ·exact fin _ (by simp[eqF,q0,q1,q2,q3,q4,q5,q6,q7,q8])
 exact fin _ (by simp[eqF,q0,q1,q2,q3,q4,q5,q6,q7,q8])
def byM (bs:List Int) (f:Fm) (L:List Fm):Dr:=if f∈L then Qnq bs f else Qgi 2
theorem QIg {T:Qa->Prop} {L:List Fm} {bs:List Int} (hO:∀op H,T H->Qh prog Kd [.int .i64 op] H λu H'=>QiS H H' u (L.filter λf=>f.op==op)) (hL:∀f∈L,f.shapes.length=f.slots.length) (x:Lf) (va:Value) (hT:∀H H',H.Wf->T H->Ext H H'->T H') (H:Qa) (ht:T H) (hx:x.At H) (hb:QbC H va bs) (hbl:bs.length<=100000):
  Qh prog Qkt [.agg x.cells.toArray,va] H (Qe1 H (byM bs x.f L)):=by
 refine QtS λhw=>?_;have ex:(Value.agg x.cells.toArray).cells.toList=x.cells:=rfl;have x0:x.cells[0]? = some (.int .i64 x.f.op):=rfl;have ax0:=YI hx;simp only[Qnz,ex,Qb,simprocAttr];have hx0:Ext H ((H.push (.cells x.cells Qc false)).push (.cells [.int .i64 0,.slice none 0 0] Qd false)):=((Ext.refl H).push _).push _;have hgf:((H.push (.cells x.cells Qc false)).push (.cells [.int .i64 0,.slice none 0 0] Qd false)).get H.next=some (.cells x.cells Qc false):=by rw[Qi,Ql,Le (by omega),Qi,Lc rfl]
 have hg0:((H.push (.cells x.cells Qc false)).push (.cells [.int .i64 0,.slice none 0 0] Qd false)).get (H.next+1)=some (.cells [.int .i64 0,.slice none 0 0] Qd false):=by rw[Qi,Ql,Lc rfl]
 have hw0:=(hw.push (.cells x.cells Qc false)).push (.cells [.int .i64 0,.slice none 0 0] Qd false);generalize (H.push (.cells x.cells Qc false)).push (.cells [.int .i64 0,.slice none 0 0] Qd false)=H0 at hx0 hgf hg0 hw0;simp only[Qb,simprocAttr,hgf,x0,Ql];refine(hO x.f.op H0 (hT _ _ hw ht hx0)).thenW ?_;rintro v1 H1 hn1 hw1 ⟨hx1,ys,e1,ha1,hl1,hf1⟩;obtain⟨⟨aa,cap,rfl,hsl⟩,hxa⟩:=id ha1.fms;obtain⟨r,hr⟩:∃r,r=byM bs x.f L:=⟨_,rfl⟩;rw[<- hr];have hmem:∀y∈ys,y.f∈L:=λy hy=>by
  have:y.f∈ys.map (·.f):=Rw hy;rw[e1]at this;exact(Bo.1 this).1
 have hback:x.f∈L->∃y∈ys,y.f=x.f:=λh=>by
  have:x.f∈L.filter λf=>f.op==x.f.op:=Bo.2 ⟨h,by simp⟩;rw[<- e1]at this;exact N4.1 this
 have hlt0:=hw0.lt hg0;have hltf:=hw0.lt hgf;simp only[Qb,simprocAttr];refine QE (λm A' H'=>∃ (k:Nat),k<=ys.length∧m=ys.length - k∧H'.Wf∧Ext H1 H'∧
   A' 1=va∧A' 2=.pointer (some ⟨H.next,0,none⟩)∧A' 4=.pointer (some ⟨H.next+1,0,none⟩)∧A' 11=.slice aa ys.length cap∧A' 12=.int .i64 ys.length∧A' 13=.int .i64 k∧∀y∈ys.take k,¬x.f=y.f) ys.length ?_ ?_
 ·refine⟨0,L7 _,by omega,hw1,.refl _,?_,?_,?_,?_,?_,?_,?_⟩
  rotate_right
  ·intro y hy;simp at hy
  all_goals simp only[Qg,simprocAttr]
  all_goals rfl
 ·rintro m A' H3 ⟨k,hk,rfl,hw3,hx3,r1,r2,r4,r11,r12,r13,hnot⟩;simp only[Qb,simprocAttr,r12,r13];have hg3:H3.get (H.next+1)=some (.cells [.int .i64 0,.slice none 0 0] Qd false):=by rw[(hx1.trans hx3).get _ hlt0];exact hg0
  have hgf3:H3.get H.next=some (.cells x.cells Qc false):=by rw[(hx1.trans hx3).get _ hltf];exact hgf
  refine Qf (λh3=>?_) (λh3=>?_)
  ·have h3:k<ys.length:=by have:=Lg h3;omega
   obtain⟨b1,e1',ro1,rfl,hg1⟩:=hsl (by omega);have hg3':H3.get b1=some (.cells (Q3 ys) e1' ro1):=by rw[hx3.get _ (hw1.lt hg1)];exact hg1
   have d1:(0:Int)<=k∧(k:Int)<ys.length:=by omega
   have d3:(k:Int).toNat=k:=by omega
   have d4:k * 10+10<=ys.length * 10:=by omega
   have ek:IntKind.i64.wrap ((k:Int)+1)=((k+1:Nat):Int):=by rw[w64 (by unfold I64;omega)];omega
   have hpk:=La h3;have dd:=QdI ys k _ hpk;have nn:=W0 ys;have hym:ys[k]∈ys:=Nb h3;have wk:=(hxa _ hym).ext hw1 hx3;have htk:ys.take (k+1)=ys.take k++[ys[k]]:=by rw[Nv,hpk];rfl
   generalize ys[k]=y at hpk dd hym wk htk;have ak:=YI wk;simp only[Qb,simprocAttr,r11,r13,d1,d3,d4,hg3',nn,dd,QG,Wu,ak];obtain⟨G1,hG1⟩:∃h,h=(H3.push (.cells [.int .i64 0,.slice none 0 0,.slice none 0 0,.int .i64 0,.int .i64 0,.int .i64 0,.int .i64 0,.int .i64 0,.bool false,.int .i64 0] Qc false)).set H3.next (.cells y.cells Qc false):=⟨_,rfl⟩;have hwG1:G1.Wf:=by rw[hG1];exact(hw3.push _).set (by rw[Qi,Lc rfl]) _
   have hxG1:Ext H3 G1:=by rw[hG1];exact((Ext.refl H3).push _).set (Lb _) _
   have hgy:G1.get H3.next=some (.cells y.cells Qc false):=by rw[hG1,Qm,Lc rfl]
   have hgfG:G1.get H.next=some (.cells x.cells Qc false):=by rw[hxG1.get _ (hw3.lt hgf3)];exact hgf3
   have hgG:G1.get (H.next+1)=some (.cells [.int .i64 0,.slice none 0 0] Qd false):=by rw[hxG1.get _ (hw3.lt hg3)];exact hg3
   simp only[<- hG1];clear hG1;have hxa1:Ext H G1:=(hx0.trans hx1).trans (hx3.trans hxG1);have wy:=wk.ext hw3 hxG1;have wx:=hx.ext hw hxa1;simp only[Qb,simprocAttr,r2,hgfG,hgy,QG,Wu,ax0,ak];refine(QEa x y G1 wx wy).thenW ?_;rintro _ _ hnq hwq ⟨rfl,kq,rfl⟩;have hkq:G1.next<=kq:=hnq;have hxq:=(Ext.refl G1).up hkq;rw[QGl];have hgyq:(G1.up kq).get H3.next=some (.cells y.cells Qc false):=by rw[W3];exact hgy
   have hgGq:(G1.up kq).get (H.next+1)=some (.cells [.int .i64 0,.slice none 0 0] Qd false):=by rw[W3];exact hgG
   by_cases he:x.f=y.f
   ·have he1:decide (x.f=y.f)=true:=Lp he;have hr2:r=Qnq bs y.f:=by
     rw[hr,byM,he,Lc (hmem y hym)]
    simp only[Qb,simprocAttr,he1,hgyq,QG,Wu,ak,r1];have byq:QbC (G1.up kq) va bs:=by
     obtain⟨a,c,hv,hby⟩:=hb;refine⟨a,c,hv,λhl=>?_⟩;obtain⟨bb,o,e,ro,cs,e1,hg,hcs⟩:=hby hl;exact⟨bb,o,e,ro,cs,e1,by rw[(hxa1.trans hxq).get bb (hw.lt hg),hg],hcs⟩
    refine(QFW y va bs (G1.up kq) (wy.ext hwG1 hxq) byq (by omega) (hL _ (hmem y hym))).thenW ?_;rintro _ G2 hn4 hw4 ⟨hxG2,v',rfl,hv',hfr⟩;rw[<- hr2]at *;obtain⟨va',vc',rfl,hv2⟩:=id hv';have hgG2:G2.get (H.next+1)=some (.cells [.int .i64 0,.slice none 0 0] Qd false):=by rw[hxG2.get _ (hwq.lt hgGq)];exact hgGq
    simp only[Qb,simprocAttr,r4,hgG2,Ql8];have hxx:Ext H (G2.set (H.next+1) (.cells [.int .i64 r.op,.slice va' r.l.length vc'] Qd false)):=(hxa1.trans (hxq.trans hxG2)).set (by omega) _;have hlt2:=hwq.lt hgGq;refine .mk hxx.next ⟨hxx,_,rfl,?_,λa n c h=>?_⟩
    ·refine⟨va',vc',rfl,λh=>?_⟩;obtain⟨b2,e2,ro2,rfl,hg⟩:=hv2 h;have h1:=hfr _ _ _ rfl;simp only at h1;exact⟨b2,e2,ro2,rfl,by rw[Qm,Le (by omega)];exact hg⟩
    ·have:=hfr a n c h;have:=(hxa1.trans hxq).next;omega
   ·have he1:decide (x.f=y.f)=false:=Lj he;simp only[Qb,simprocAttr,he1,r13,ek];refine⟨ys.length - (k+1),by omega,k+1,by omega,rfl,hwq,hx3.trans (hxG1.trans hxq),?_,?_,?_,?_,?_,?_,?_⟩
    rotate_right
    ·intro z hz;rw[htk,LI]at hz;rcases hz with hz | hz
     ·exact hnot z hz
     ·rw[Sa.1 hz];exact he
    all_goals simp only[Qg,simprocAttr,r1,r2,r4,r11,r12]
  ·have h3:k=ys.length:=by have:=Ll h3;omega
   subst h3;rw[Nr]at hnot;have hr2:r=Qgi 2:=by
    rw[hr,byM,Le];intro h;obtain⟨y,hy,e⟩:=hback h;exact hnot y hy e.symm
   have hxx:=hx0.trans (hx1.trans hx3);simp only[Qb,simprocAttr,r4,hg3,Ql8];have hxx2:=λC=>hxx.set (i:=H.next+1) (by omega) C;exact .mk (hxx2 _).next ⟨hxx2 _,_,by rw[hr2];rfl,by rw[hr2];exact⟨none,0,rfl,λh=>absurd h (NX 0)⟩,λa n c h=>by cases h⟩
theorem QmE {P:Program} {f:Nat} {t:TypeId} {fs:Array Field} {xs ys:Array Value} (h:P.underlying t=some (.struct fs)) (hs:P.stoodInHeld t=false):aeq P (f+1) t (.agg xs) (.agg ys)=XV P (aeq P f) fs.toList xs ys:=by
 unfold aeq;rw[h];simp[hs]
theorem Qi9 {P:Program} {f:Nat} {t:TypeId} {k:IntKind} {a b:Int} (h:P.underlying t=some (.int k)):aeq P (f+1) t (.int k a) (.int k b)=some (a==b):=by
 unfold aeq;rw[h];simp
theorem JQ {P:Program} {eq:TypeId->Value->Value->Option Bool} {fd:Field} {fs:List Field} {xs ys:Array Value} {a b:Value} {r s:Bool} (hn:(fd.name == "_")=false) (ha:Qc5 P fd.type xs fd.offset=some a) (hb:Qc5 P fd.type ys fd.offset=some b) (he:eq fd.type a b=some r) (hr:XV P eq fs xs ys=some s):
  XV P eq (fd::fs) xs ys=some (r&&s):=by
 have hn':¬fd.name = "_" := by simpa using hn
 show(if fd.name = "_" then XV P eq fs xs ys else match Qc5 P fd.type xs fd.offset,Qc5 P fd.type ys fd.offset with
  | some a,some b=>match eq fd.type a b with
   | some true=>XV P eq fs xs ys
   | r=>r
  | _,_=>none)=_
 rw[Le hn',ha,hb];simp only[he];cases r
 ·rfl
 ·rw[hr];rfl
theorem Qrd {P:Program} {eq:TypeId->Value->Value->Option Bool} {xs ys:Array Value}:XV P eq [] xs ys=some true:=rfl
theorem Qre:prog.underlying 3=some (.int .i64):=by kernel_rfl
theorem QGn:prog.underlying Q5=some (.struct #[⟨ "Class",3,0,false, "", "",0⟩,⟨ "N",3,1,false, "", "",8⟩]):=by kernel_rfl
theorem QGo:prog.underlying Qq=some (.struct #[⟨ "Base",Q5,0,false, "", "",0⟩,⟨ "Index",Q5,2,false, "", "",16⟩,⟨ "Scale",3,4,false, "", "",32⟩,⟨ "Disp",3,5,false, "", "",40⟩,⟨ "Size",3,6,false, "", "",48⟩]):=by kernel_rfl
theorem QGp:prog.underlying Qe=some (.struct #[⟨ "Kind",3,0,false, "", "",0⟩,⟨ "R",Q5,1,false, "", "",8⟩,⟨ "M",Qq,3,false, "", "",24⟩,⟨ "N",3,10,false, "", "",80⟩]):=by kernel_rfl
theorem QtT (f:Nat) (a b c d:Int):aeq prog (f+2) Q5 (.agg #[.int .i64 a,.int .i64 b]) (.agg #[.int .i64 c,.int .i64 d])=some ((a==c)&&((b==d)&&true)):=by
 rw[QmE QGn (by kernel_rfl)];exact JQ (by rfl) (a:=.int .i64 a) (b:=.int .i64 c) (by kernel_rfl) (by kernel_rfl) (Qi9 Qre) (JQ (by rfl) (a:=.int .i64 b) (b:=.int .i64 d) (by kernel_rfl) (by kernel_rfl) (Qi9 Qre) Qrd)
theorem QEb (f:Nat) (a1 a2 a3 a4 a5 a6 a7 b1 b2 b3 b4 b5 b6 b7:Int):aeq prog (f+3) Qq (.agg #[.int .i64 a1,.int .i64 a2,.int .i64 a3,.int .i64 a4,.int .i64 a5,.int .i64 a6,.int .i64 a7]) (.agg #[.int .i64 b1,.int .i64 b2,.int .i64 b3,.int .i64 b4,.int .i64 b5,.int .i64 b6,.int .i64 b7]) =
  some (((a1==b1)&&((a2==b2)&&true))&&(((a3==b3)&&((a4==b4)&&true))&&((a5==b5)&&((a6==b6)&&((a7==b7)&&true))))):=by
 rw[QmE QGo (by kernel_rfl)];exact JQ (by rfl) (a:=.agg #[.int .i64 a1,.int .i64 a2]) (b:=.agg #[.int .i64 b1,.int .i64 b2]) (by kernel_rfl) (by kernel_rfl) (QtT f _ _ _ _)
  (JQ (by rfl) (a:=.agg #[.int .i64 a3,.int .i64 a4]) (b:=.agg #[.int .i64 b3,.int .i64 b4]) (by kernel_rfl) (by kernel_rfl) (QtT f _ _ _ _)
  (JQ (by rfl) (a:=.int .i64 a5) (b:=.int .i64 b5) (by kernel_rfl) (by kernel_rfl) (Qi9 Qre)
  (JQ (by rfl) (a:=.int .i64 a6) (b:=.int .i64 b6) (by kernel_rfl) (by kernel_rfl) (Qi9 Qre)
  (JQ (by rfl) (a:=.int .i64 a7) (b:=.int .i64 b7) (by kernel_rfl) (by kernel_rfl) (Qi9 Qre) Qrd))))
theorem QEc (f:Nat) (a b:Ar):aeq prog (f+4) Qe (.agg a.cells.toArray) (.agg b.cells.toArray)=some (decide (a=b)):=by
 obtain⟨k,⟨rc,rn⟩,⟨⟨bc,bn⟩,⟨ic,iN⟩,sc,dd,sz⟩,n⟩:=a;obtain⟨k',⟨rc',rn'⟩,⟨⟨bc',bn'⟩,⟨ic',iN'⟩,sc',dd',sz'⟩,n'⟩:=b;have e:=QmE (f:=f+3) (xs:=#[.int .i64 k,.int .i64 rc,.int .i64 rn,.int .i64 bc,.int .i64 bn,.int .i64 ic,.int .i64 iN,.int .i64 sc,.int .i64 dd,.int .i64 sz,.int .i64 n]) (ys:=#[.int .i64 k',.int .i64 rc',.int .i64 rn',.int .i64 bc',.int .i64 bn',.int .i64 ic',.int .i64 iN',.int .i64 sc',.int .i64 dd',.int .i64 sz',.int .i64 n']) QGp (by kernel_rfl)
 have e2:=JQ (P:=prog) (eq:=aeq prog (f+3)) (fd:=⟨ "Kind",3,0,false, "", "",0⟩) (by rfl) (a:=.int .i64 k) (b:=.int .i64 k') (xs:=#[.int .i64 k,.int .i64 rc,.int .i64 rn,.int .i64 bc,.int .i64 bn,.int .i64 ic,.int .i64 iN,.int .i64 sc,.int .i64 dd,.int .i64 sz,.int .i64 n]) (ys:=#[.int .i64 k',.int .i64 rc',.int .i64 rn',.int .i64 bc',.int .i64 bn',.int .i64 ic',.int .i64 iN',.int .i64 sc',.int .i64 dd',.int .i64 sz',.int .i64 n']) (by kernel_rfl) (by kernel_rfl) (Qi9 Qre)
  (JQ (fd:=⟨ "R",Q5,1,false, "", "",8⟩) (by rfl) (a:=.agg #[.int .i64 rc,.int .i64 rn]) (b:=.agg #[.int .i64 rc',.int .i64 rn']) (by kernel_rfl) (by kernel_rfl) (QtT (f+1) _ _ _ _)
  (JQ (fd:=⟨ "M",Qq,3,false, "", "",24⟩) (by rfl) (a:=.agg #[.int .i64 bc,.int .i64 bn,.int .i64 ic,.int .i64 iN,.int .i64 sc,.int .i64 dd,.int .i64 sz]) (b:=.agg #[.int .i64 bc',.int .i64 bn',.int .i64 ic',.int .i64 iN',.int .i64 sc',.int .i64 dd',.int .i64 sz']) (by kernel_rfl) (by kernel_rfl) (QEb f _ _ _ _ _ _ _ _ _ _ _ _ _ _)
  (JQ (fd:=⟨ "N",3,10,false, "", "",80⟩) (by rfl) (a:=.int .i64 n) (b:=.int .i64 n') (by kernel_rfl) (by kernel_rfl) (Qi9 Qre) Qrd)))
 refine(e.trans e2).trans ?_;congr 1;rw[Ni];simp[and_assoc]
theorem QGq {A:Env} {H:Qa} {k:Value->Qa->Prop} {x y:Operand} {t':TypeId} (a b:Ar) (hc:(Qln x||Qln y)=false) (hx:ev A x=.agg a.cells.toArray) (hy:ev A y=.agg b.cells.toArray):
  pr prog (.gen (.binOp .neq Qe x y t')) false A H k=k (.bool (!decide (a=b))) H:=by
 have hg:GH prog false Qe (.agg a.cells.toArray) (.agg b.cells.toArray)=true:=by
  have h:prog.eqGuardType prog.depth Qe=false:=by kernel_rfl
  simp[GH,QmO,Qus,h]
 have e:rop prog (.gen (.binOp .neq Qe x y t')) A H=some (.bool (!decide (a=b)),H):=by
  simp only[rop,aop,Qik,QuB,hx,hy,hc,Qp8,Qej,hg,Bj,N3,QEc 16];rfl
 refine(Wl _).trans ?_;rw[e,Qt]
theorem Qxk (va vb:Value) (xs ys:List Ar) (H:Qa) (ha:XJ H va xs) (hb:XJ H vb ys) (hlx:xs.length<=1000000) (hly:ys.length<=1000000):Qh prog Kc [va,vb] H λu H'=>u=.bool (decide (xs=ys))∧H'=H:=by
 refine Qh8 λhw=>?_;obtain⟨aa,acap,rfl,hsa⟩:=ha;obtain⟨ba,bcap,rfl,hsb⟩:=hb;simp only[Qco,Qb,simprocAttr]
 by_cases hne:xs.length=ys.length
 ·have e0:((xs.length:Int)==(ys.length:Int))=true:=by simp[hne]
  simp only[e0,Qb,simprocAttr];refine QE (λm A' H'=>∃i:Nat,i<=xs.length∧m=xs.length - i∧H'=H∧(∀j,j<i->xs[j]? = ys[j]?)∧A' 0=.slice aa xs.length acap∧A' 1=.slice ba ys.length bcap∧A' 5=.int .i64 i) xs.length ?_ ?_
  ·refine⟨0,L7 _,by omega,rfl,λj h=>by omega,?_,?_,?_⟩
   all_goals simp only[uxA,uxB,Nat.reduceBEq]
   rfl
  ·rintro m A' H' ⟨i,hi,rfl,hEq,hall,r0,r1,r5⟩;subst hEq;simp only[Qb,simprocAttr,r0,r1,r5];refine Qf (λh2=>?_) (λh2=>?_)
   ·have h2:i<xs.length:=by have:=Lg h2;omega
    obtain⟨b1,e1,ro1,rfl,hb1⟩:=hsa (by omega);obtain⟨b2,e2,ro2,rfl,hb2⟩:=hsb (by omega);have c1:(0:Int)<=i∧(i:Int)<xs.length:=by omega
    have c2:(0:Int)<=i∧(i:Int)<ys.length:=by omega
    have c3:(i:Int).toNat=i:=by omega
    have c4:i * 11+11<=xs.length * 11:=by omega
    have c5:i * 11+11<=ys.length * 11:=by omega
    have ei:IntKind.i64.wrap ((i:Int)+1)=((i+1:Nat):Int):=by rw[w64 (by unfold I64;omega)];omega
    have h2':i<ys.length:=by omega
    have p1:=La h2;have p2:=La h2';have d1:=VY xs i _ p1;have d2:=VY ys i _ p2;have n1:=W1 xs;have n2:=W1 ys;generalize xs[i]=x at *;generalize ys[i]=y at *;have a1:(x.cells.all λv=>v.oneCell')=true:=rfl;have a2:(y.cells.all λv=>v.oneCell')=true:=rfl;simp only[Qb,simprocAttr,r0,r1,r5,c1,c2,c3,c4,c5,hb1,hb2,d1,d2,n1,n2,a1,a2,WJ];rw[QGq x y rfl (by simp only[Qg,simprocAttr]) (by simp only[Qg,simprocAttr])]
    by_cases h3:x=y
    ·have e3:decide (x=y)=true:=Lp h3;simp only[Qb,simprocAttr,e3,r5,ei];refine⟨xs.length - (i+1),by omega,i+1,by omega,rfl,rfl,λj hj=>?_,?_,?_,?_⟩
     ·rcases Nq j i with h | h
      ·exact hall j h
      ·rw[show j=i by omega,p1,p2,h3]
     all_goals simp only[Qg,simprocAttr,r0,r1]
    ·have e3:decide (x=y)=false:=Lj h3;simp only[Qb,simprocAttr,e3,Jd];have h4:xs≠ys:=λh=>by
      rw[h,p2]at p1;exact h3 (Ly p1).symm
     exact .mk (Lb _) ⟨by rw[Lj h4],rfl⟩
   ·have h2:i=xs.length:=by have:=Ll h2;omega
    subst h2;simp only[Qb,simprocAttr,Jd];have heq:xs=ys:=by
     refine BA λi=>?_
     by_cases h1:i<xs.length
     ·exact hall i h1
     ·rw[N7 (by omega),N7 (by omega)]
    exact .mk (Lb _) ⟨by rw[Lp heq],rfl⟩
 ·have e0:((xs.length:Int)==(ys.length:Int))=false:=by simp;omega
  simp only[e0,Qb,simprocAttr,Jd];exact .mk (Lb _) ⟨by rw[Lj (λh=>hne (by rw[h]))],rfl⟩
theorem Qxl (o p:Int) (va vb:Value) (xs ys:List Ar) (H:Qa) (ha:XJ H va xs) (hb:XJ H vb ys) (hlx:xs.length<=1000000) (hly:ys.length<=1000000):Qh prog J9 [.agg #[.int .i64 o,va],.agg #[.int .i64 p,vb]] H λu H'=>u=.bool ((o==p)&&decide (xs=ys))∧∃k,H'=H.up k:=by
 refine Qh7 λhw=>?_;have hx:Ext H ((H.push (.cells [.int .i64 o,va] Qd false)).push (.cells [.int .i64 p,vb] Qd false)):=((Ext.refl H).push _).push _;have ha2:=ha.ext hw hx;have hb2:=hb.ext hw hx;have q:=Qxk va vb xs ys _ ha2 hb2 hlx hly;obtain⟨aa,acap,rfl,hsa⟩:=ha;obtain⟨ba,bcap,rfl,hsb⟩:=hb;simp only[Qcn,Qb,simprocAttr,Yw];cases h1:o==p
 ·simp only[Qb,simprocAttr,Yw];exact .ext hw hx ⟨rfl,_,rfl⟩
 ·simp only[Qb,simprocAttr,Yw];refine q.thenW ?_;rintro _ _ hn hw2 ⟨rfl,rfl⟩;simp only[Qb,simprocAttr,Yw];exact .ext hw hx ⟨by simp,_,rfl⟩
end Go.Proofs.YtfofbicfabokbaaGreatDoor.code
