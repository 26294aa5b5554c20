/- linotyperef21's state: has, rm, place, bare, is, bits. -/
import Derived.Test.YtfofbicfabokbaaGreatDoorLibR
import Derived.Test.YtfofbicfabokbaaGreatDoorLibD
import Derived.Test.YtfofbicfabokbaaGreatDoorC9Ref
import Derived.KernelRfl
import Derived.Test.YtfofbicfabokbaaGreatDoorLibT
import Derived.Test.YtfofbicfabokbaaGreatDoorLibA
set_option linter.unusedVariables false
set_option linter.unusedSimpArgs false
set_option maxRecDepth 100000
set_option maxHeartbeats 4000000
namespace Go.Proofs.YtfofbicfabokbaaGreatDoor.code
open Go.Ab
def Rr.dc (c:Rr):List Value:=c.x.cells++([c.bv,.int .i64 c.p,.int .i64 c.r,.int .i64 c.xx,.int .i64 c.bb,.bool c.rex,.int .i64 c.v]++c.seen.cells)
theorem Qaw (c:Rr):c.dc.length=27:=rfl
theorem QtL (c:Rr):List.take 10 c.dc=c.x.cells:=rfl
theorem dc1 (c:Rr):c.dc[1]? = some c.x.sv:=rfl
theorem dc3 (c:Rr):c.dc[3]? = some (.int .i64 c.x.f.pre):=rfl
theorem dc4 (c:Rr):c.dc[4]? = some (.int .i64 c.x.f.map):=rfl
theorem dc6 (c:Rr):c.dc[6]? = some (.int .i64 c.x.f.digit):=rfl
theorem dc7 (c:Rr):c.dc[7]? = some (.int .i64 c.x.f.w):=rfl
theorem Qr6 (c:Rr):c.dc[10]? = some c.bv:=rfl
theorem Qgp (c:Rr):c.dc[11]? = some (.int .i64 c.p):=rfl
theorem QH7 (c:Rr):c.dc[12]? = some (.int .i64 c.r):=rfl
theorem QH8 (c:Rr):c.dc[13]? = some (.int .i64 c.xx):=rfl
theorem QHq (c:Rr):c.dc[14]? = some (.int .i64 c.bb):=rfl
theorem QDR (c:Rr):c.dc[15]? = some (.bool c.rex):=rfl
theorem QHr (c:Rr):c.dc[16]? = some (.int .i64 c.v):=rfl
theorem Qxa (c:Rr) (n:Int):List.take 11 c.dc++(Value.int .i64 n::List.drop 12 c.dc)=({c with p:=n}:Rr).dc:=rfl
theorem QH9 (c:Rr) (n:Int):List.take 12 c.dc++(Value.int .i64 n::List.drop 13 c.dc)=({c with r:=n}:Rr).dc:=rfl
theorem QIa (c:Rr) (n:Int):List.take 13 c.dc++(Value.int .i64 n::List.drop 14 c.dc)=({c with xx:=n}:Rr).dc:=rfl
theorem QIb (c:Rr) (n:Int):List.take 14 c.dc++(Value.int .i64 n::List.drop 15 c.dc)=({c with bb:=n}:Rr).dc:=rfl
theorem QF3 (c:Rr) (n:Bool):List.take 15 c.dc++(Value.bool n::List.drop 16 c.dc)=({c with rex:=n}:Rr).dc:=rfl
theorem QIc (c:Rr) (n:Int):List.take 16 c.dc++(Value.int .i64 n::List.drop 17 c.dc)=({c with v:=n}:Rr).dc:=rfl
abbrev Qc1:TypeId:=Qc6
structure Wg (H H':Qa) (b:Nat) (c:Rr):Prop where
 next:H.next<=H'.next
 get:∀id,id<H.next->id≠b->H'.get id=H.get id
 at_:H'.get b=some (.cells c.dc Qc1 false)
theorem Wg.refl {H:Qa} {b:Nat} {c:Rr} (h:H.get b=some (.cells c.dc Qc1 false)):Wg H H b c:=⟨Lb _,λ_ _ _=>rfl,h⟩
theorem Wg.trans {H H1 H2:Qa} {b:Nat} {c c':Rr} (h1:Wg H H1 b c) (h2:Wg H1 H2 b c'):Wg H H2 b c':=
 ⟨N8 h1.next h2.next,λid hid hne=>by rw[h2.get id (N5 hid h1.next) hne,h1.get id hid hne],h2.at_⟩
theorem Wg.ext {H H1 H2:Qa} {b:Nat} {c:Rr} (h1:Wg H H1 b c) (hw:H1.Wf) (hx:Ext H1 H2):Wg H H2 b c:=⟨N8 h1.next hx.next,λid hid hne=>by rw[hx.get id (N5 hid h1.next)];exact h1.get id hid hne,by rw[hx.get b (hw.lt h1.at_)];exact h1.at_⟩
theorem Wg.up {H H1:Qa} {b:Nat} {c:Rr} (h1:Wg H H1 b c) {k:Nat} (hk:H1.next<=k):Wg H (H1.up k) b c:=⟨N8 h1.next hk,λid hid hne=>by rw[W3];exact h1.get id hid hne,by rw[W3];exact h1.at_⟩
theorem Wg.set {H H1:Qa} {b:Nat} {c:Rr} (h1:Wg H H1 b c) (c':Rr):Wg H (H1.set b (.cells c'.dc Qc1 false)) b c':=⟨h1.next,λid hid hne=>by rw[Qm,Le hne];exact h1.get id hid hne,by rw[Qm,Lc rfl]⟩
def DP (H:Qa) (b:Nat) (R:Int×Rr):Value->Qa->Prop:=λu H'=>u=.int .i64 R.1∧∃c,Wg H H' b c∧(R.1=0->c=R.2)
structure DOk (f:Fm):Prop where
 len:f.shapes.length=f.slots.length
 pre:0<=f.pre∧f.pre<=5
 map:0<=f.map∧f.map<=3
 code:0<=f.code∧f.code<=255
 rm:0<=QC f.slots 2->(1<=f.shapes.getD (QC f.slots 2).toNat 0∧f.shapes.getD (QC f.slots 2).toNat 0<=19)∨f.shapes.getD (QC f.slots 2).toNat 0=34
 c8:0<=QC f.slots 4->f.code % 8=0
 vx:f.vex=true->1<=f.map∧(f.pre=0∨f.pre=1∨f.pre=2∨f.pre=4)∧(f.w=-1∨f.w=0∨f.w=1)
 lg:f.vex=false->f.w=0∨f.w=1
structure Qha (H0 H:Qa) (b:Nat) (c:Rr) (bs:List Int):Prop where
 wf:H0.Wf
 hx:Ext H0 H
 lo:H0.next<=b
 at_:H.get b=some (.cells c.dc Qc1 false)
 fm:c.x.At H0
 by_:QbC H0 c.bv bs
 len:bs.length<=1000000
 p0:0<=c.p∧c.p<=bs.length
 ok:DOk c.x.f
 byt:∀z∈bs,0<=z∧z<256
theorem Qha.only {H0 H H':Qa} {b:Nat} {c c':Rr} {bs:List Int} (h:Qha H0 H b c bs) (ho:Wg H H' b c') (hx:c'.x=c.x) (hb:c'.bv=c.bv) (hp:0<=c'.p∧c'.p<=bs.length):Qha H0 H' b c' bs:=
 ⟨h.wf,⟨N8 h.hx.next ho.next,λid hid=>by rw[ho.get id (N5 hid h.hx.next) (by have:=h.lo;omega),h.hx.get id hid]⟩,h.lo,ho.at_,by rw[hx];exact h.fm,by rw[hb];exact h.by_,h.len,hp,by rw[hx];exact h.ok,h.byt⟩
theorem Qha.fmH {H0 H:Qa} {b:Nat} {c:Rr} {bs:List Int} (h:Qha H0 H b c bs):c.x.At H:=h.fm.ext h.wf h.hx
def rmF (f:Fm):Int:=if decide (QC f.slots 2<0)=true then 0 else f.shapes.getD (QC f.slots 2).toNat 0
theorem Qvn {f:Fm} (ok:DOk f):decide (7<=rmF f)=!(decide (QC f.slots 2<0)||decide (szF (f.shapes.getD (QC f.slots 2).toNat 0)<0)):=by
 unfold rmF;cases h:decide (QC f.slots 2<0) with
 | true=>rfl
 | false=>
  have h2:=ok.rm (by have:=Ll h;omega);rw[Le (by decide),Nt];generalize f.shapes.getD (QC f.slots 2).toNat 0=s at *;have e:∀n:Fin 35,(((1:Int)<=(n:Nat)∧((n:Nat):Int)<=19)∨((n:Nat):Int)=34)->decide (7<=((n:Nat):Int))=!decide (szF (n:Nat)<0):=by decide
  have:=e ⟨s.toNat,by omega⟩;rw[show((⟨s.toNat,by omega⟩:Fin 35):Nat)=s.toNat from rfl,show((s.toNat:Nat):Int)=s by omega]at this;exact this h2
section
variable {H0:Qa} (b:Nat) (c:Rr) (bs:List Int) (H:Qa) (h:Qha H0 H b c bs)
include h
theorem Qnu (k:Int):Qh prog QL [.pointer (some ⟨b,0,none⟩),.int .i64 k] H λu H'=>u=.bool (decide (0<=QC c.x.f.slots k))∧∃m,H'=H.up m:=by
 refine Qf8 λhw=>?_;have hc:=h.at_;have hd:=h.fmH;have ec:(Value.agg c.x.cells.toArray).cells.toList=c.x.cells:=rfl;have l10:10<=c.dc.length:=by rw[Qaw];decide
 simp only[VM,Qb,simprocAttr,hc,QtL];refine⟨l10,(ZT c.x k H hd).thenW ?_⟩;rintro _ _ hn hw2 ⟨rfl,m,rfl⟩;simp only[Qb,simprocAttr,Qfi];exact .mk hn ⟨rfl,_,rfl⟩
theorem Qxb:Qh prog Xb [.pointer (some ⟨b,0,none⟩)] H λu H'=>u=.int .i64 (rmF c.x.f)∧∃m,H'=H.up m:=by
 refine Qgo λhw=>?_;have hc:=h.at_;have hd:=h.fmH;have ec:(Value.agg c.x.cells.toArray).cells.toList=c.x.cells:=rfl;have l10:10<=c.dc.length:=by rw[Qaw];decide
 have he:rmF c.x.f=if decide (QC c.x.f.slots 2<0)=true then 0 else c.x.f.shapes.getD (QC c.x.f.slots 2).toNat 0:=rfl
 have hlen:=h.ok.len;have hub:QC c.x.f.slots 2<c.x.f.slots.length:=Qtr _ _;simp only[Qai,Qb,simprocAttr,hc,QtL];refine⟨l10,(ZT c.x 2 H hd).thenW ?_⟩;rintro _ _ hn hw2 ⟨rfl,m,rfl⟩;generalize QC c.x.f.slots 2=k at *;simp only[Qb,simprocAttr];cases h1:decide (k<0) with
 | true=>
  rw[h1,Lc rfl]at he;simp only[Qb,simprocAttr,VR];exact .mk hn ⟨by rw[he],_,rfl⟩
 | false=>
  rw[h1,Le (by decide)]at he;have h1:=Ll h1;obtain⟨a1,c1,e1,hs1⟩:=id hd.2.2.1;obtain⟨b1,e,ro,rfl,hb1⟩:=hs1 (by omega);have g1:c.dc[1]? = some (.slice (some ⟨b1,0,none⟩) c.x.f.shapes.length c1):=by rw[dc1,e1]
  have d1:(0:Int)<=k∧k<c.x.f.shapes.length:=by omega
  have g2:=XQ (l:=c.x.f.shapes) (i:=k.toNat) (by omega);simp only[Qb,simprocAttr,hc,g1,d1,hb1,g2,W3,VR];exact .mk hn ⟨by rw[he],_,rfl⟩
theorem QsJ:Qh prog XD [.pointer (some ⟨b,0,none⟩)] H λu H'=>u=.bool (decide (7<=rmF c.x.f))∧∃m,H'=H.up m:=by
 refine QeG λhw=>?_;simp only[KW,Qb,simprocAttr];refine(Qxb b c bs H h).thenW ?_;rintro _ _ hn hw2 ⟨rfl,m,rfl⟩;simp only[Qb,simprocAttr,Qea];exact .mk hn ⟨rfl,_,rfl⟩
theorem QBS:Qh prog Ze [.pointer (some ⟨b,0,none⟩)] H λu H'=>u=.bool (decide (1<=rmF c.x.f)&&decide (rmF c.x.f<=14))∧∃m,H'=H.up m:=by
 refine Qfm λhw=>?_;simp only[GV,Qb,simprocAttr];refine(Qxb b c bs H h).thenW ?_;rintro _ _ hn hw2 ⟨rfl,m,rfl⟩;simp only[Qb,simprocAttr,Ft];cases h1:decide (1<=rmF c.x.f) with
 | false=>
  simp only[Qb,simprocAttr,KV];exact .mk hn ⟨rfl,_,rfl⟩
 | true=>
  simp only[Qb,simprocAttr];refine(Qxb b c bs _ (h.only ((Wg.refl h.at_).up hn) rfl rfl h.p0)).thenW ?_;rintro _ _ hn2 hw3 ⟨rfl,m2,rfl⟩;simp only[Qb,simprocAttr,KV];refine .mk ?_ ⟨rfl,m2,?_⟩
  ·simp only[Wm]at hn2 hn ⊢;omega
  ·rfl
theorem QF4 (n:Int):Qh prog ZY [.pointer (some ⟨b,0,none⟩),.int .i64 n] H (DP H b (XC bs c n)):=by
 refine Qgn λhw=>?_;obtain⟨hw0,hx,lo,hc,fm,by_,len,p0,ok,byt⟩:=id h;obtain⟨a,cap,hbv,hby⟩:=by_;have hbv':c.dc[10]? = some (.slice a bs.length cap):=by rw[Qr6,hbv]
 have oc:=Wg.refl hc;have he:XC bs c n=if(bs.length:Int)<=c.p then(9,c) else if(IntKind.i64.wrap (bs.getD c.p.toNat 0)==n)=false then(4,c) else(0,{c with p:=IntKind.i64.wrap (c.p+1)}):=by
  unfold XC Qlu;split
  ·rfl
  ·split<;>rfl
 simp only[Qah,Qb,simprocAttr,hc,Qgp,hbv',Qp];cases h1:c.p==(bs.length:Int) with
 | true=>
  rw[Lc (by have:=eq_of_beq h1;omega)]at he;simp only[Qb,simprocAttr,Zi];exact .mk (Lb _) ⟨by rw[he],c,oc,λh=>by rw[he]⟩
 | false=>
  have h1:¬c.p=(bs.length:Int):=by simpa using h1
  rw[Le (by omega)]at he;obtain⟨bb,o,e,ro,cs,rfl,hg,hcs⟩:=hby (by omega);have hg':H.get bb=some (.cells cs e ro):=(hx.get bb (hw0.lt hg)).trans hg;have c1:(0:Int)<=c.p∧c.p<bs.length:=by omega
  have g1:=hcs c.p.toNat (by omega);simp only[GX,Qb,simprocAttr,hc,Qgp,hbv',c1,hg',g1];cases q:IntKind.i64.wrap (bs.getD c.p.toNat 0)==n with
  | false=>
   rw[Lc q]at he;simp only[Qb,simprocAttr,LM,Zi];exact .mk (Lb _) ⟨by rw[he],c,oc,λh=>by rw[he]⟩
  | true=>
   rw[Le (by rw[q];decide)]at he;simp only[Qb,simprocAttr,L8,hc,Qgp,Qaw,Qxa,Zi];exact .mk (Lb _) ⟨by rw[he],_,oc.set _,λh=>by rw[he]⟩
def Qh5 (c:Rr) (r x m:Int):Int×Rr:=if ZB c.x.f r x m=true then(0,{c with r:=r,xx:=x,bb:=m}) else(4,c)
theorem Qq9 (r x m:Int) (hm:m=0∨m=1):Qh prog WW [.pointer (some ⟨b,0,none⟩),.int .i64 r,.int .i64 x,.int .i64 m] H (DP H b (Qh5 c r x m)):=by
 refine Qfl λhw=>?_;have ok:=h.ok;have hpl:=Qvn ok;obtain⟨R,hR⟩:∃R,R=Qh5 c r x m:=⟨_,rfl⟩;rw[<- hR];unfold Qh5 ZB at hR;have bad:∀ (A:Env) (H':Qa),A 8=.int .i64 4->Wg H H' b c->R=(4,c)->Rt prog Zh H (DP H b R) A H':=λA H' r8 ho hr=>by
  simp only[KU,r8];exact .mk ho.next ⟨by rw[hr],c,ho,λh=>by rw[hr]⟩
 have good:∀ (A:Env) (H':Qa),A 0=.pointer (some ⟨b,0,none⟩)->A 1=.int .i64 r->A 2=.int .i64 x->A 3=.int .i64 m->Wg H H' b c->R=(0,{c with r:=r,xx:=x,bb:=m})->Qn prog YD ⟨Rt prog Zh H (DP H b R),X2⟩ (Rt prog Zh H (DP H b R)) A H':=λA H' a0 a1 a2 a3 ho hr=>by
  have hc:=ho.at_;simp only[YD,Qb,simprocAttr,a0,a1,a2,a3,hc,Qaw,QH9,QIa,QIb,KU];exact .mk ho.next ⟨by rw[hr],_,((ho.set {c with r:=r}).set {c with r:=r,xx:=x}).set {c with r:=r,xx:=x,bb:=m},λh=>by rw[hr]⟩
 have oc:=Wg.refl h.at_;have next:∀k,H.next<=k->Qha H0 (H.up k) b c bs:=λk hk=>h.only (oc.up hk) rfl rfl h.p0;have q0:=Qnu (H0:=H0) b c bs;have qp:=QsJ (H0:=H0) b c bs;rw[hpl]at qp;have dn:∀a:Int,decide (0<=a)=!decide (a<0):=λa=>by
  cases h:decide (a<0) with
  | true=>have:=Lg h;rw[Lj (by omega)];rfl
  | false=>have:=Ll h;rw[Lp (by omega)];rfl
 simp only[dn]at q0 hR;have q1:=λH h=>q0 H h 1;have q2:=λH h=>q0 H h 2;have q4:=λH h=>q0 H h 4;clear q0;generalize decide (QC c.x.f.slots 1<0)=n1 at *;generalize decide (QC c.x.f.slots 2<0)=n2 at *;generalize decide (QC c.x.f.slots 4<0)=n4 at *;generalize decide (szF (c.x.f.shapes.getD (QC c.x.f.slots 2).toNat 0)<0)=sz at *;have hne:(m==1)=!(m==0):=by rcases hm with rfl | rfl<;>rfl
 rw[FP]at hR;have ho:=oc;have S:∀H',Wg H H' b c->Qha H0 H' b c bs:=λH' ho=>h.only ho rfl rfl h.p0;clear next hpl oc;simp only[GU,Qb,simprocAttr]
 repeat' (first
  | (refine Qo (λg=>?_) (λg=>?_)<;>(try simp only[Lr,Lu]at g)<;>simp only[Qb,simprocAttr,g])
  | (refine Qf (λg=>?_) (λg=>?_)<;>(try simp only[Lr,Lu]at g)<;>simp only[Qb,simprocAttr,g])
  | (refine(q1 _ (S _ ho)).thenW ?_;rintro _ _ hn hw2 ⟨rfl,k,rfl⟩;have ho:=ho.up (show _<=k from hn);simp only[Qb,simprocAttr])
  | (refine(qp _ (S _ ho)).thenW ?_;rintro _ _ hn hw2 ⟨rfl,k,rfl⟩;have ho:=ho.up (show _<=k from hn);simp only[Qb,simprocAttr])
  | (refine(q2 _ (S _ ho)).thenW ?_;rintro _ _ hn hw2 ⟨rfl,k,rfl⟩;have ho:=ho.up (show _<=k from hn);simp only[Qb,simprocAttr])
  | (refine(q4 _ (S _ ho)).thenW ?_;rintro _ _ hn hw2 ⟨rfl,k,rfl⟩;have ho:=ho.up (show _<=k from hn);simp only[Qb,simprocAttr])
  | fail)
 all_goals first
  | (refine bad _ _ ?_ ho ?_<;>first | (simp only[Qg,simprocAttr];done) | (rw[hR];clear bad good q1 q2 q4 qp S h hR;simp_all;done))
  | (refine good _ _ ?_ ?_ ?_ ?_ ho ?_<;>first | (simp only[Qg,simprocAttr];done) | (rw[hR];clear bad good q1 q2 q4 qp S h hR;simp_all;done))
  | (exfalso;clear bad good q1 q2 q4 qp S h hR;simp_all;done)
end
def QpC (bs:List Int):List Int->Rr->Int×Rr
 | [],c=>(0,c)
 | n::l,c=>if((XC bs c n).1==0)=true then QpC bs l (XC bs c n).2 else XC bs c n
def Qhb (pre:Int):List Int:=(if(pre % 2==1)=true then[102] else[])++(if decide (4<=pre)=true then[243] else if decide (2<=pre)=true then[242] else[])
theorem QBU (a b:List Int):ints (a++b)=ints a++ints b:=N6 ..
theorem QBV (H:Qa) (n:Int):Qcu 1 (.slice (some ⟨H.next,0,none⟩) 1 1) (H.push (.cells [.int .i64 n] 3 false))=some (1,ints [n]):=by
 rw[QdL (c:=[.int .i64 n]) (by rw[Qi,Lc rfl]) (by decide) (show 0+1 * 1<=1 by decide)];rfl
section
variable {H0:Qa} (b:Nat) (c:Rr) (bs:List Int) (H:Qa) (h:Qha H0 H b c bs)
include h
theorem Qyg (v:Value) (l:List Int) (hv:ZA H v l.length (ints l)) (hvb:∀id,inB v id->id≠b) (hl:l.length<=1000):Qh prog W7 [.pointer (some ⟨b,0,none⟩),v] H (DP H b (QpC bs l c)):=by
 refine Qga λhw=>?_;obtain⟨va,vc,rfl,hv1⟩:=hv;obtain⟨R,hR⟩:∃R,R=QpC bs l c:=⟨_,rfl⟩;rw[<- hR];simp only[VO,Qb,simprocAttr];refine QE (λm A' H'=>∃ (i:Nat) (c':Rr),i<=l.length∧m=l.length - i∧H'.Wf∧Wg H H' b c'∧Qha H0 H' b c' bs∧R=QpC bs (l.drop i) c'∧A' 0=.pointer (some ⟨b,0,none⟩)∧A' 1=.slice va l.length vc∧A' 5=.int .i64 i) l.length ?_ ?_
 ·refine⟨0,c,L7 _,by omega,hw,.refl h.at_,h,by rw[Lw];exact hR,?_,?_,?_⟩
  all_goals simp only[Qg,simprocAttr]
  all_goals rfl
 ·rintro m A' H' ⟨i,c',hi,rfl,hw',ho,hd,hr,r0,r1,r5⟩;simp only[KQ,Qb,simprocAttr,r1,r5,Qp];refine Qf (λh2=>?_) (λh2=>?_)
  ·have h2:i<l.length:=by have:=Lg h2;omega
   obtain⟨vb,e,ro,rfl,hgv⟩:=hv1 (by omega);have hne:=hvb vb ⟨_,_,_,rfl⟩;have g':H'.get vb=some (.cells (ints l) e ro):=by rw[ho.get vb (hw.lt hgv) hne];exact hgv
   have d1:(0:Int)<=i∧(i:Int)<l.length:=by omega
   have d3:(i:Int).toNat=i:=by omega
   have ei:IntKind.i64.wrap ((i:Int)+1)=((i+1:Nat):Int):=by rw[w64 (by unfold I64;omega)];omega
   have g2:=XQ (l:=l) (i:=i) h2;have hdr:l.drop i=l.getD i 0::l.drop (i+1):=by rw[Nh h2];simp[LX,h2]
   rw[hdr]at hr;generalize l.getD i 0=n at *;unfold QpC at hr;simp only[KP,Qb,simprocAttr,r0,r1,r5,d1,d3,g',g2];refine(QF4 b c' bs H' hd n).thenW ?_;rintro _ H2 hn2 hw2 ⟨rfl,c2,ho2,hc2⟩;have hb2:=QqP (n:=n) hd.p0 hd.len;simp only[Qb,simprocAttr];cases he:(XC bs c' n).1==0 with
   | false=>
    rw[he,Le (by decide)]at hr;simp only[Qb,simprocAttr,LM,GS];exact .mk (ho.trans ho2).next ⟨by rw[hr],c2,ho.trans ho2,λh=>by rw[hr]at h;rw[h]at he;exact absurd he (by decide)⟩
   | true=>
    rw[he,Lc rfl]at hr;obtain rfl:=hc2 (by simpa using he);simp only[Qb,simprocAttr,L8,r5,ei];refine⟨l.length - (i+1),by omega,i+1,_,by omega,rfl,hw2,ho.trans ho2,hd.only ho2 rfl rfl hb2,hr,?_,?_,?_⟩
    all_goals simp only[Qg,simprocAttr,r0,r1]
  ·have h2:i=l.length:=by have:=Ll h2;omega
   subst h2;rw[BU]at hr;simp only[Qb,simprocAttr,GS];exact .mk ho.next ⟨by rw[hr];rfl,c',ho,λ_=>by rw[hr];rfl⟩
theorem QzS:Qh prog YU [.pointer (some ⟨b,0,none⟩)] H λv H'=>Gx 1 3 H H' v (Qhb c.x.f.pre).length (ints (Qhb c.x.f.pre))∧Ext H H':=by
 refine QeF λhw=>?_;have hc:=h.at_;have hp:=h.ok.pre;have em:Int.tmod c.x.f.pre 2=c.x.f.pre % 2:=BM hp.1;obtain⟨L,hL⟩:∃L,L=Qhb c.x.f.pre:=⟨_,rfl⟩;rw[<- hL];unfold Qhb at hL;generalize hP:c.x.f.pre=pre at *;have hk:∀ (A:Env) (H':Qa) (l1:List Int) (v:Value),A 0=.pointer (some ⟨b,0,none⟩)->A 3=v->Gx 1 3 H H' v l1.length (ints l1)->Ext H H'->H'.Wf->l1.length<=5->L=l1++(if decide (4<=pre)=true then[243] else if decide (2<=pre)=true then[242] else[])->Qn prog Yi ⟨Rt prog GT H λv H'=>Gx 1 3 H H' v L.length (ints L)∧Ext H H',X2⟩ (Rt prog GT H λv H'=>Gx 1 3 H H' v L.length (ints L)∧Ext H H') A H':=by
  intro A H' l1 v a0 a3 hg hx hw' hl1 hLL;have hc':H'.get b=some (.cells c.dc Qc1 false):=by rw[hx.get b (hw.lt hc)];exact hc
  have g3:c.dc[3]? = some (.int .i64 pre):=by rw[dc3,hP]
  have app:∀ (n:Int) (k:Value->Qa->Prop),(∀v' H2,Gx 1 3 H H2 v' (l1++[n]).length (ints (l1++[n]))->Ext H H2->k v' H2)->Qiq 3 1 8 v (.slice (some ⟨H'.next,0,none⟩) 1 1) (H'.push (.cells [.int .i64 n] 3 false)) k:=λn k hk=>by
   refine QBT (hg.go hw' ((Ext.refl H').push _)) (hx.push _) (hw'.push _) (QBV H' n) rfl rfl (by omega) (by omega) λv' H2 h1 h2=>hk v' H2 ?_ h2.x;rw[Lh,QBU];exact h1
  obtain⟨a,cc,rfl⟩:=hg.slc;simp only[Yi,Qb,simprocAttr,a0,hc',g3,Ft];cases h4:decide (4<=pre) with
  | true=>
   rw[h4,Lc rfl]at hLL;simp only[Qb,simprocAttr,a3];refine app 243 _ λv' H2 h1 h2=>?_;simp only[Qb,simprocAttr,YC];exact .mk h2.next ⟨by rw[hLL];exact h1,h2⟩
  | false=>
   rw[h4,Le (by decide)]at hLL;simp only[JG,Qb,simprocAttr,a0,hc',g3,Ft];cases h5:decide (2<=pre) with
   | true=>
    rw[h5,Lc rfl]at hLL;simp only[Qb,simprocAttr,a3];refine app 242 _ λv' H2 h1 h2=>?_;simp only[Qb,simprocAttr,YC];exact .mk h2.next ⟨by rw[hLL];exact h1,h2⟩
   | false=>
    rw[h5,Le (by decide),Na]at hLL;simp only[Qb,simprocAttr,a3,YC];exact .mk hx.next ⟨by rw[hLL];exact hg,hx⟩
 have g3:c.dc[3]? = some (.int .i64 pre):=by rw[dc3,hP]
 simp only[KS,Qb,simprocAttr,hc,g3,em];cases h1:pre % 2==1 with
 | true=>
  rw[h1,Lc rfl]at hL;simp only[Qb,simprocAttr];have g0:Gx 1 3 H H (.slice none 0 0) 0 []:=.inl ⟨rfl,rfl,rfl⟩;refine QBT (m:=1) (ms:=ints [102]) (g0.go hw ((Ext.refl H).push _)) ((Ext.refl H).push _) (hw.push _) (QBV H 102) rfl rfl (by decide) (by decide) λv' H2 h1 h2=>?_;simp only[Qb,simprocAttr];refine hk _ H2 [102] v' ?_ ?_ h1 h2.x h2.w (by decide) hL
  all_goals simp only[Qg,simprocAttr]
 | false=>
  rw[h1,Le (by decide)]at hL;simp only[Qb,simprocAttr];refine hk _ H [] (.slice none 0 0) ?_ ?_ (.inl ⟨rfl,rfl,rfl⟩) (.refl H) hw (by decide) hL
  all_goals simp only[Qg,simprocAttr]
end
def QtM (m:Int):List Int:=if(m==1)=true then[15] else if(m==2)=true then[15,56] else if(m==3)=true then[15,58] else[]
theorem Qxc (m:Int) (H:Qa):Qh prog YV [.int .i64 m] H λv H'=>Gx 1 3 H H' v (QtM m).length (ints (QtM m))∧Ext H H':=by
 refine Qh2 λhw=>?_;have he:QtM m=if(m==1)=true then[15] else if(m==2)=true then[15,56] else if(m==3)=true then[15,58] else[]:=rfl
 have lit:∀l:List Int,0<l.length->Gx 1 3 H (H.push (.cells (ints l) 3 false)) (.slice (some ⟨H.next,0,none⟩) l.length l.length) l.length (ints l):=λl hl=>.inr ⟨_,_,rfl,Lb _,by rw[Qi,Lc rfl],by rw[QuY,NH],.inl rfl⟩;have hx:∀b,Ext H (H.push b):=λb=>(Ext.refl H).push b;simp only[Qb5,Qb,simprocAttr];cases h1:m==1 with
 | true=>
  rw[h1,Lc rfl]at he;simp only[Qb,simprocAttr,Yq];exact .mk (hx _).next ⟨by rw[he];exact lit [15] (by decide),hx _⟩
 | false=>
  rw[h1,Le (by decide)]at he;simp only[Qaf,Qb,simprocAttr];cases h2:m==2 with
  | true=>
   rw[h2,Lc rfl]at he;simp only[Qb,simprocAttr,Yq];exact .mk (hx _).next ⟨by rw[he];exact lit [15,56] (by decide),hx _⟩
  | false=>
   rw[h2,Le (by decide)]at he;simp only[Qb,simprocAttr];cases h3:m==3 with
   | true=>
    rw[h3,Lc rfl]at he;simp only[Qb,simprocAttr,Yq];exact .mk (hx _).next ⟨by rw[he];exact lit [15,58] (by decide),hx _⟩
   | false=>
    rw[h3,Le (by decide)]at he;simp only[Qb,simprocAttr,Yq];exact .mk (Lb _) ⟨by rw[he];exact .inl ⟨rfl,rfl,rfl⟩,.refl H⟩
theorem QBW (bs:List Int) (hl:bs.length<=1000000):∀ (l:List Int) (c:Rr),0<=c.p∧c.p<=bs.length->∃p,(QpC bs l c).2={c with p:=p}∧0<=p∧p<=bs.length
 | [],c,h=>⟨c.p,rfl,h⟩
 | n::l,c,h=>by
  unfold QpC;have h1:=QqP (n:=n) h hl;split
  ·obtain⟨p,e,hp⟩:=QBW bs hl l (XC bs c n).2 h1;exact⟨p,e,hp⟩
  ·exact⟨_,rfl,h1⟩
theorem QBX (m:Int):(QtM m).length<=1000:=by
 unfold QtM
 repeat' split
 all_goals decide
theorem Qxd (m:Int):(Qhb m).length<=1000:=by
 unfold Qhb;rw[Lh]
 repeat' split
 all_goals decide
theorem QzT (bs:List Int) (c:Rr) {pre:Int} (h:0<=pre∧pre<=5):QpC bs (Qhb pre) c=QkX bs 4 pre c:=by
 have:pre=0∨pre=1∨pre=2∨pre=3∨pre=4∨pre=5:=by omega
 rcases this with rfl | rfl | rfl | rfl | rfl | rfl
 all_goals rfl
theorem Qyh (bs:List Int) (m:Int) (c:Rr) (h:0<=m∧m<=3):QpC bs (QtM m) c=Qnm bs (Qfg m) c:=by
 have:m=0∨m=1∨m=2∨m=3:=by omega
 rcases this with rfl | rfl | rfl | rfl
 all_goals rfl
theorem QF5:∀m:Fin 16,Int.tmod (IntKind.i64.wrap (Int.tdiv (64+((m:Nat):Int)) 4)) 2=Jl m 4 2∧Int.tmod (IntKind.i64.wrap (Int.tdiv (64+((m:Nat):Int)) 2)) 2=Jl m 4 1∧Int.tmod (64+((m:Nat):Int)) 2=Jl m 4 0∧Int.tmod (IntKind.i64.wrap (Int.tdiv (64+((m:Nat):Int)) 8)) 2=Jl m 4 3∧(Jl m 4 0=0∨Jl m 4 0=1):=by decide
theorem Qxe {H0:Qa} (b:Nat) (c:Rr) (bs:List Int) (H:Qa) (h:Qha H0 H b c bs) (hv:c.x.f.vex=false) (hz:c.rex=false∧c.r=0∧c.xx=0∧c.bb=0):Qh prog YG [.pointer (some ⟨b,0,none⟩)] H (DP H b (QjW bs c)):=by
 refine Qd7 λhw=>?_;obtain⟨R,hR⟩:∃R,R=QjW bs c:=⟨_,rfl⟩;rw[<- hR];unfold QjW at hR;rw[<- QzT bs c h.ok.pre]at hR;have hw01:=h.ok.lg hv;have q0:=Qxc c.x.f.map
 -- the bytes of the map
 have esc:∀ (A:Env) (H1:Qa) (c1:Rr),H1.Wf->A 0=.pointer (some ⟨b,0,none⟩)->Wg H H1 b c1->Qha H0 H1 b c1 bs->c1.x=c.x->R=QpC bs (QtM c.x.f.map) c1->Qn prog (.seq (.ops [Om 82 (t 0),Om 83 (t 0),Ow 84 (.gen (.nilCheck (t 83))),Ow 85 (.fldA 0 (t 84)),Ow 86 (.fldA 4 (t 85)),Ow 87 (.ld false 1 (t 86)),Ow 88 (.call YV [(t 87)]),Ow 89 (.call W7 [(t 82),(t 88)]),Om 2 (t 89)]) .ret) ⟨Rt prog Xg H (DP H b R),X2⟩ (Rt prog Xg H (DP H b R)) A H1:=by
  intro A H1 c1 hw1 a0 ho hd hx hr;have hc:=ho.at_;have g4:c1.dc[4]? = some (.int .i64 c.x.f.map):=by rw[dc4,hx]
  simp only[Qb,simprocAttr,a0,hc,g4];refine(q0 H1).thenW ?_;rintro v H2 hn2 hw2 ⟨hg,hx2⟩;have ho2:=(Wg.refl hc).ext hw1 hx2;have hd2:=hd.only ho2 rfl rfl hd.p0;have hlb:=hw1.lt hc;simp only[Qb,simprocAttr];refine(Qyg b c1 bs H2 hd2 v (QtM c.x.f.map) hg.sl (λid hid e=>by have:=(hg.low hw2 hid).1;omega) (QBX _)).thenW ?_;rintro _ H3 hn3 hw3 ⟨rfl,c3,ho3,hc3⟩;simp only[Qb,simprocAttr,W5];have ho':=(ho.ext hw1 hx2).trans ho3;exact .mk ho'.next ⟨by rw[hr],c3,ho',λh=>by rw[hr]at h ⊢;exact hc3 h⟩
 simp only[JU,Qb,simprocAttr];refine(QzS b c bs H h).thenW ?_;rintro v H1 hn1 hw1 ⟨hg,hx1⟩;have ho1:=(Wg.refl h.at_).ext hw hx1;have hd1:=h.only ho1 rfl rfl h.p0;have hlb:=hw.lt h.at_;simp only[Qb,simprocAttr];refine(Qyg b c bs H1 hd1 v (Qhb c.x.f.pre) hg.sl (λid hid e=>by have:=(hg.low hw1 hid).1;omega) (Qxd _)).thenW ?_;rintro _ H2 hn2 hw2 ⟨rfl,c2,ho2,hc2⟩;have ho2:=ho1.trans ho2;simp only[Qb,simprocAttr];unfold Qo2 at hR;cases he:(QpC bs (Qhb c.x.f.pre) c).1==0 with
 | false=>
  rw[he,Le (by decide)]at hR;simp only[Qb,simprocAttr,LM,W5];exact .mk ho2.next ⟨by rw[hR],c2,ho2,λh=>by rw[hR]at h;rw[h]at he;exact absurd he (by decide)⟩
 | true=>
  rw[he,Lc rfl]at hR;obtain⟨p,ep,hp⟩:=QBW bs h.len (Qhb c.x.f.pre) c h.p0;rw[hc2 (by simpa using he),ep]at ho2;rw[ep]at hR;clear hc2 ep he;have hd2:=h.only ho2 rfl rfl hp;have hc:=ho2.at_;obtain⟨a,cap,hbv,hby⟩:=h.by_;generalize hcc:({c with p:=p}:Rr)=c2' at *;have hx2:c2'.x=c.x:=by rw[<- hcc]
  have hp2:c2'.p=p:=by rw[<- hcc]
  have hz2:c2'.rex=false∧c2'.r=0∧c2'.xx=0∧c2'.bb=0:=by rw[<- hcc];exact hz
  have hbv':c2'.dc[10]? = some (.slice a bs.length cap):=by rw[Qr6,<- hcc];exact congrArg some hbv
  have g11:c2'.dc[11]? = some (.int .i64 p):=by rw[Qgp,hp2]
  unfold Qnn at hR;simp only[Jk,Qb,simprocAttr,L8,hc,g11,hbv',Qp];cases h1:p==(bs.length:Int) with
  | true=>
   have h1:p=(bs.length:Int):=eq_of_beq h1;have e9:Qcr bs c2'=(9,c2'):=by unfold Qcr;rw[hp2,Lc (by omega)]
   rw[e9,Le (show ¬ ((9:Int)==0)=true by decide)]at hR;simp only[Qb,simprocAttr,W5];exact .mk ho2.next ⟨by rw[hR],c2',ho2,λh=>by rw[hR]⟩
  | false=>
   have h1:¬p=(bs.length:Int):=by simpa using h1
   obtain⟨bb,o,e,ro,cs,rfl,hgb,hcs⟩:=hby (by omega);have hg':H2.get bb=some (.cells cs e ro):=(hd2.hx.get bb (hd2.wf.lt hgb)).trans hgb;have c1:(0:Int)<=p∧p<bs.length:=by omega
   have g1:=hcs p.toNat (by omega);have eb:IntKind.i64.wrap (bs.getD p.toNat 0)=XI bs c2'.p:=by rw[hp2];rfl
   have hbr:0<=XI bs c2'.p∧XI bs c2'.p<256:=by
    rw[<- eb];have hm:bs.getD p.toNat 0∈bs:=by
     rw[LX,La (by omega)];exact Nb _
    have:=h.byt _ hm;rw[w64 (by unfold I64;omega)];exact this
   have hex:Qcr bs c2'=if(decide (64<=XI bs c2'.p)&&decide (XI bs c2'.p<=79))=true then QcQ (QqQ c2' (XI bs c2'.p - 64).toNat) (Jl (XI bs c2'.p - 64).toNat 4 3) else QcQ c2' 0:=by unfold Qcr;rw[hp2,Le (by omega)]
   generalize XI bs c2'.p=y at *;simp only[Jj,Qb,simprocAttr,hc,g11,hbv',c1,hg',g1,eb];have bad:∀ (A:Env) (H':Qa) (c':Rr),A 2=.int .i64 4->Wg H H' b c'->R.1=4->Rt prog Xg H (DP H b R) A H':=λA H' c' r2 ho hr=>by
    simp only[W5,r2];exact .mk ho.next ⟨by rw[hr],c',ho,λh=>by rw[hr]at h;cases h⟩
   have hnoX:(decide (64<=y)&&decide (y<=79))=false->∀ (H':Qa),Wg H H' b c2'->∀ (K:Env->Qa->Prop),(∀A:Env,A 0=.pointer (some ⟨b,0,none⟩)->R=QpC bs (QtM c.x.f.map) c2'->K A H')->∀A:Env,A 0=.pointer (some ⟨b,0,none⟩)->Qn prog XY ⟨Rt prog Xg H (DP H b R),X2⟩ K A H':=λhno H' ho' K hK A a0=>by
    have hc:=ho'.at_;have g7:c2'.dc[7]? = some (.int .i64 c.x.f.w):=by rw[dc7,hx2]
    rw[hno,Le (by decide)]at hex;have hal:ZB c2'.x.f c2'.r c2'.xx c2'.bb=true:=by unfold ZB;rw[hz2.2.1,hz2.2.2.1,hz2.2.2.2];rfl
    unfold QcQ at hex;rw[hal,L8,NI,hx2]at hex;simp only[XY,Qb,simprocAttr,a0,hc,g7];rcases hw01 with hw0 | hw1
    ·rw[hw0]at hex ⊢;have hex:Qcr bs c2'=(0,c2'):=hex;rw[hex,Lc (show((0:Int)==0)=true from rfl),hx2,<- Qyh bs _ _ h.ok.map]at hR;have z:((0:Int)==1)=false:=rfl;simp only[Qb,simprocAttr,z];refine hK _ ?_ hR;simp only[Qg,simprocAttr,a0]
    ·rw[hw1]at hex ⊢;have hex:Qcr bs c2'=(4,c2'):=hex;rw[hex,Le (show ¬ ((4:Int)==0)=true by decide)]at hR;have z:((1:Int)==1)=true:=rfl;simp only[Qb,simprocAttr,z];refine bad _ H' c2' ?_ ho' (by rw[hR]);simp only[Qg,simprocAttr]
   have e15:({c2' with rex:=false}:Rr).dc=c2'.dc:=by
    have:({c2' with rex:=false}:Rr)=c2':=by rw[<- hz2.1]
    rw[this]
   have g15:c2'.dc[15]? = some (.bool false):=by rw[QDR,hz2.1]
   cases h64:decide (64<=y) with
   | false=>
    simp only[Qb,simprocAttr,hc,Qaw,QF3,e15,g15];have ho3:=ho2.set c2';have hw3:=hw2.set hc (.cells c2'.dc Qc1 false);have hd3:=hd2.only ((Wg.refl hc).set c2') rfl rfl (by rw[hp2];exact hp);refine hnoX (by rw[h64];rfl) _ ho3 _ (λA a0 hr=>esc A _ c2' hw3 a0 ho3 hd3 hx2 hr) _ ?_;simp only[Qg,simprocAttr]
   | true=>
    simp only[Qb,simprocAttr];cases h79:decide (y<=79) with
    | false=>
     simp only[Qb,simprocAttr,hc,Qaw,QF3,e15,g15];have ho3:=ho2.set c2';have hw3:=hw2.set hc (.cells c2'.dc Qc1 false);have hd3:=hd2.only ((Wg.refl hc).set c2') rfl rfl (by rw[hp2];exact hp);refine hnoX (by rw[h64,h79];rfl) _ ho3 _ (λA a0 hr=>esc A _ c2' hw3 a0 ho3 hd3 hx2 hr) _ ?_;simp only[Qg,simprocAttr]
    | true=>
     have h64:=Lg h64;have h79:=Lg h79;rw[Lp h64,Lp h79,Bj,Lc rfl]at hex;obtain⟨m,hm⟩:∃m:Nat,y=64+m:=⟨(y - 64).toNat,by omega⟩;have hm16:m<16:=by omega
     have em:(y - 64).toNat=m:=by omega
     obtain⟨b1,b2,b3,b4,b5⟩:=QF5 ⟨m,hm16⟩;simp only at b1 b2 b3 b4 b5;rw[<- hm]at b1 b2 b3 b4;rw[em]at hex;have ep1:IntKind.i64.wrap (p+1)=p+1:=w64 (by have:=h.len;unfold I64;omega);obtain⟨c3,hc3⟩:∃c3:Rr,c3={c2' with rex:=true,p:=IntKind.i64.wrap (p+1)}:=⟨_,rfl⟩;have g15':({c2' with rex:=true}:Rr).dc[15]? = some (.bool true):=rfl;have g11':({c2' with rex:=true}:Rr).dc[11]? = some (.int .i64 p):=by rw[Qgp];exact congrArg (λz=>some (Value.int .i64 z)) hp2
     simp only[Qb,simprocAttr,hc,Qaw,QF3,g15',Ji,g11',Qxa,b1,b2,b3];have ho3:=(ho2.set {c2' with rex:=true}).set {c2' with rex:=true,p:=IntKind.i64.wrap (p+1)};have hw3:=(hw2.set hc (.cells ({c2' with rex:=true}:Rr).dc Qc1 false)).set (b0:=.cells ({c2' with rex:=true}:Rr).dc Qc1 false) (by rw[Qm,Lc rfl]) (.cells ({c2' with rex:=true,p:=IntKind.i64.wrap (p+1)}:Rr).dc Qc1 false);generalize Qa.set (Qa.set H2 b _) b _=H3 at *;rw[<- hc3]at ho3;have hx3:c3.x=c.x:=by rw[hc3];exact hx2
     have hp3:c3.p=p+1:=by rw[hc3];exact ep1
     have hd3:Qha H0 H3 b c3 bs:=h.only ho3 hx3 (by rw[hc3,<- hcc]) (by omega);refine(Qq9 b c3 bs H3 hd3 _ _ _ b5).thenW ?_;rintro _ H4 hn4 hw4 ⟨rfl,c4,ho4,hc4⟩;have ho4':=ho3.trans ho4;have erx:QqQ c2' m={c3 with r:=Jl m 4 2,xx:=Jl m 4 1,bb:=Jl m 4 0}:=by rw[hc3,<- hp2];rfl
     unfold QcQ at hex;unfold Qh5 at hc4 ⊢;have eal:ZB (QqQ c2' m).x.f (QqQ c2' m).r (QqQ c2' m).xx (QqQ c2' m).bb=ZB c3.x.f (Jl m 4 2) (Jl m 4 1) (Jl m 4 0):=by rw[erx]
     have erf:(QqQ c2' m).x.f.w=c.x.f.w:=by rw[erx];show c3.x.f.w=_;rw[hx3]
     rw[eal,erf]at hex;cases hal:ZB c3.x.f (Jl m 4 2) (Jl m 4 1) (Jl m 4 0) with
     | false=>
      rw[hal,LM,Bd,Lc rfl]at hex;rw[hex,Le (show ¬ ((4:Int)==0)=true by decide)]at hR;have z:((4:Int)==0)=false:=rfl;rw[Le (by decide)];simp only[Qb,simprocAttr,z,LM];refine bad _ H4 c4 ?_ ho4' (by rw[hR]);simp only[Qg,simprocAttr]
     | true=>
      rw[hal,L8,NI]at hex;rw[hal,Lc rfl]at hc4;rw[Lc rfl];have e4:=hc4 rfl;have z:((0:Int)==0)=true:=rfl;have hcc4:=ho4.at_;have hx4:c4.x=c.x:=by rw[e4];exact hx3
      have g7:c4.dc[7]? = some (.int .i64 c.x.f.w):=by rw[dc7,hx4]
      simp only[Qb,simprocAttr,z,L8,hcc4,g7,b4];cases hwb:Jl m 4 3==c.x.f.w with
      | false=>
       rw[hwb,LM,Lc rfl]at hex;rw[hex,Le (show ¬ ((4:Int)==0)=true by decide)]at hR;simp only[Qb,simprocAttr,LM];refine bad _ H4 c4 ?_ ho4' (by rw[hR]);simp only[Qg,simprocAttr]
      | true=>
       rw[hwb,L8,Le (by decide)]at hex;rw[hex,Lc (show((0:Int)==0)=true from rfl),erx,<- e4,hx4,<- Qyh bs _ _ h.ok.map]at hR;have hp4:c4.p=p+1:=by rw[e4];exact hp3
       have hb4:c4.bv=c.bv:=by rw[e4,hc3];show c2'.bv=_;rw[<- hcc]
       have hd4:=h.only ho4' hx4 hb4 (by omega);rw[L8,Qhu];refine esc _ H4 c4 hw4 ?_ ho4' hd4 hx4 hR;simp only[Qg,simprocAttr]
def ppD (pre:Int):Int:=if(pre==1)=true then 1 else if(pre==4)=true then 2 else if(pre==2)=true then 3 else 0
theorem QF6 (pre:Int) (H:Qa):Qh prog QbA [.int .i64 pre] H λu H'=>u=.int .i64 (ppD pre)∧H'=H:=by
 refine Qlx λhw=>?_;have he:ppD pre=if(pre==1)=true then 1 else if(pre==4)=true then 2 else if(pre==2)=true then 3 else 0:=rfl
 simp only[Qe4,Qb,simprocAttr];cases h1:pre==1 with
 | true=>rw[h1,Lc rfl]at he;simp only[Qb,simprocAttr,ZS];exact .mk (Lb _) ⟨by rw[he],rfl⟩
 | false=>
  rw[h1,Le (by decide)]at he;simp only[Qdq,Qb,simprocAttr];cases h2:pre==4 with
  | true=>rw[h2,Lc rfl]at he;simp only[Qb,simprocAttr,ZS];exact .mk (Lb _) ⟨by rw[he],rfl⟩
  | false=>
   rw[h2,Le (by decide)]at he;simp only[Qb,simprocAttr];cases h3:pre==2 with
   | true=>rw[h3,Lc rfl]at he;simp only[Qb,simprocAttr,ZS];exact .mk (Lb _) ⟨by rw[he],rfl⟩
   | false=>rw[h3,Le (by decide)]at he;simp only[Qb,simprocAttr,ZS];exact .mk (Lb _) ⟨by rw[he],rfl⟩
def Qi7 (y:Int):Int:=IntKind.i64.wrap (15 - (IntKind.i64.wrap (y.tdiv 8)).tmod 16)
def QDS (f:Fm) (y:Int):Bool:=((IntKind.i64.wrap (y.tdiv 4)).tmod 2==f.l)&&((y.tmod 4==ppD f.pre)&&((Qi7 y==0)||decide (0<=QC f.slots 3)))
def Qnv (c:Rr) (y:Int):Int×Rr:=if QDS c.x.f y=true then(0,{c with v:=Qi7 y}) else(4,c)
def Qyi (B:Int×Rr) (y:Int):Int×Rr:=if(B.1==0)=true then Qnv B.2 y else B
def nxP (c:Rr):Rr:={c with p:=IntKind.i64.wrap (c.p+1)}
def QzU (bs:List Int) (c:Rr):Int×Rr:=
 if(!(c.x.f.map==1)||(c.x.f.w==1))=true then(4,c) else if(c.p==(bs.length:Int))=true then(9,c)
 else Qyi (Qh5 (nxP c) (IntKind.i64.wrap (1 - IntKind.i64.wrap ((bs.getD c.p.toNat 0).tdiv 128))) 0 0) (bs.getD c.p.toNat 0)
def Qoh (bs:List Int) (c:Rr):Int×Rr:=
 if(c.p==(bs.length:Int))=true then(9,c) else
  let y:=bs.getD c.p.toNat 0
  let B:=Qh5 (nxP c) (IntKind.i64.wrap (1 - IntKind.i64.wrap (y.tdiv 128))) (IntKind.i64.wrap (1 - (IntKind.i64.wrap (y.tdiv 64)).tmod 2)) (IntKind.i64.wrap (1 - (IntKind.i64.wrap (y.tdiv 32)).tmod 2))
  if((B.1==0)&&(y.tmod 32==c.x.f.map))=false then(4,c) else
   if(B.2.p==(bs.length:Int))=true then(9,c) else
    let z:=bs.getD B.2.p.toNat 0
    if(decide (0<=c.x.f.w)&&!(IntKind.i64.wrap (z.tdiv 128)==c.x.f.w))=true then(4,c) else Qnv (nxP B.2) z
section
variable {H0:Qa} (b:Nat) (c:Rr) (bs:List Int) (H:Qa) (h:Qha H0 H b c bs)
include h
theorem Qra (y:Int):Qh prog XM [.pointer (some ⟨b,0,none⟩),.int .i64 y] H (DP H b (Qnv c y)):=by
 refine Qfn λhw=>?_;have hc:=h.at_;obtain⟨R,hR⟩:∃R,R=Qnv c y:=⟨_,rfl⟩;rw[<- hR];unfold Qnv QDS at hR;have ew:IntKind.i64.wrap (15 - (IntKind.i64.wrap (y.tdiv 8)).tmod 16)=Qi7 y:=rfl;have oc:=Wg.refl hc;have ho:=oc.set {c with v:=Qi7 y};have hw1:=hw.set hc (.cells ({c with v:=Qi7 y}:Rr).dc Qc1 false);have hd:Qha H0 (H.set b (.cells ({c with v:=Qi7 y}:Rr).dc Qc1 false)) b {c with v:=Qi7 y} bs:=h.only ho rfl rfl h.p0;have g9:({c with v:=Qi7 y}:Rr).dc[9]? = some (.int .i64 c.x.f.l):=rfl;have g3:({c with v:=Qi7 y}:Rr).dc[3]? = some (.int .i64 c.x.f.pre):=rfl;have g16:({c with v:=Qi7 y}:Rr).dc[16]? = some (.int .i64 (Qi7 y)):=rfl;have qh:∀H',Wg H H' b {c with v:=Qi7 y}->_:=λH' ho'=>Qnu (H0:=H0) b {c with v:=Qi7 y} bs H' (h.only ho' rfl rfl h.p0) 3;have hx1:({c with v:=Qi7 y}:Rr).x=c.x:=rfl;simp only[GW,Qb,simprocAttr,hc,Qaw,QIc,ew,g9];generalize Qa.set H b _=H1 at *;have hc1:=ho.at_;generalize ({c with v:=Qi7 y}:Rr)=c1 at *;have q3:=QF6 c.x.f.pre;have bad:∀ (A:Env) (H':Qa),A 4=.int .i64 4->Wg H H' b c1->R.1=4->Rt prog VQ H (DP H b R) A H':=λA H' r2 ho hr=>by
  simp only[K6,r2];exact .mk ho.next ⟨by rw[hr],c1,ho,λh=>by rw[hr]at h;cases h⟩
 have good:∀ (A:Env) (H':Qa),A 4=.int .i64 0->Wg H H' b c1->R=(0,c1)->Rt prog VQ H (DP H b R) A H':=λA H' r2 ho hr=>by
  simp only[K6,r2];exact .mk ho.next ⟨by rw[hr],c1,ho,λh=>by rw[hr]⟩
 cases e1:(IntKind.i64.wrap (y.tdiv 4)).tmod 2==c.x.f.l with
 | false=>
  rw[e1]at hR;simp only[Qb,simprocAttr,LM];refine bad _ H1 ?_ ho (by rw[hR];rfl);simp only[Qg,simprocAttr]
 | true=>
  rw[e1,LJ]at hR;simp only[Qb,simprocAttr,L8,hc1,g3];refine(q3 H1).thenW ?_;rintro _ H1 _ _ ⟨rfl,rfl⟩;simp only[Qb,simprocAttr];cases e2:y.tmod 4==ppD c.x.f.pre with
  | false=>
   rw[e2]at hR;simp only[Qb,simprocAttr,LM];refine bad _ H1 ?_ ho (by rw[hR];rfl);simp only[Qg,simprocAttr]
  | true=>
   rw[e2,LJ]at hR;simp only[Qb,simprocAttr,L8,hc1,g16];cases e3:Qi7 y==0 with
   | true=>
    rw[e3,N1,Lc rfl]at hR;simp only[Qb,simprocAttr,L8];refine good _ H1 ?_ ho hR;simp only[Qg,simprocAttr]
   | false=>
    rw[e3,Nt]at hR;simp only[Qb,simprocAttr,LM];refine(qh H1 ho).thenW ?_;rintro _ _ hn hw2 ⟨rfl,k,rfl⟩;have ho2:=ho.up (show _<=k from hn);rw[hx1];simp only[Qb,simprocAttr];cases e4:decide (0<=QC c.x.f.slots 3) with
    | true=>
     rw[e4,Lc rfl]at hR;simp only[Qb,simprocAttr,L8];refine good _ _ ?_ ho2 hR;simp only[Qg,simprocAttr]
    | false=>
     rw[e4]at hR;simp only[Qb,simprocAttr,LM];refine bad _ _ ?_ ho2 (by rw[hR];rfl);simp only[Qg,simprocAttr]
theorem Qoi (hp:¬c.p=(bs.length:Int)):∃ (bb o:Nat) (cs:List Value) (e:TypeId) (ro:Bool) (cap:Nat) (y:Int),c.dc[10]? = some (.slice (some ⟨bb,o,none⟩) bs.length cap)∧H.get bb=some (.cells cs e ro)∧cs[o+c.p.toNat]? = some (.int .u8 y)∧bb≠b∧y=bs.getD c.p.toNat 0∧0<=y∧y<256:=by
 obtain⟨a,cap,hbv,hby⟩:=h.by_;have hp0:=h.p0;obtain⟨bb,o,e,ro,cs,rfl,hgb,hcs⟩:=hby (by omega);refine⟨bb,o,cs,e,ro,cap,bs.getD c.p.toNat 0,by rw[Qr6,hbv],(h.hx.get bb (h.wf.lt hgb)).trans hgb,?_,?_,rfl,?_⟩
 ·exact hcs c.p.toNat (by omega)
 ·have:=h.wf.lt hgb;have:=h.lo;omega
 ·have hm:bs.getD c.p.toNat 0∈bs:=by
   rw[LX,La (by omega)];exact Nb _
  exact h.byt _ hm
theorem QmD (ho:Wg H H b c) (hp:¬c.p=(bs.length:Int)):0<=(nxP c).p∧(nxP c).p<=bs.length:=by
 have:=h.p0;have:=h.len;show 0<=IntKind.i64.wrap (c.p+1)∧IntKind.i64.wrap (c.p+1)<=bs.length;rw[w64 (by unfold I64;omega)];omega
theorem QDT:Qh prog Zu [.pointer (some ⟨b,0,none⟩)] H (DP H b (QzU bs c)):=by
 refine Qf9 λhw=>?_;have hc:=h.at_;obtain⟨a,cap,hbv,hby⟩:=h.by_;have hbv':c.dc[10]? = some (.slice a bs.length cap):=by rw[Qr6,hbv]
 have oc:=Wg.refl hc;obtain⟨R,hR⟩:∃R,R=QzU bs c:=⟨_,rfl⟩;rw[<- hR];unfold QzU at hR;have bad:∀ (A:Env) (H':Qa) (c':Rr) (n:Int),A 2=.int .i64 n->Wg H H' b c'->R.1=n->¬n=0->Rt prog ZD H (DP H b R) A H':=λA H' c' n r2 ho hr hn=>by
  simp only[GR,r2];exact .mk ho.next ⟨by rw[hr],c',ho,λh=>absurd (hr▸h) hn⟩
 have key:(!(c.x.f.map==1)||(c.x.f.w==1))=false->∀A:Env,A 0=.pointer (some ⟨b,0,none⟩)->Qn prog YJ ⟨Rt prog ZD H (DP H b R),X2⟩ (Rt prog ZD H (DP H b R)) A H:=by
  intro hg A a0;rw[hg,Le (by decide)]at hR;simp only[YJ,Qb,simprocAttr,a0,hc,Qgp,hbv',Qp];cases h1:c.p==(bs.length:Int) with
  | true=>
   rw[h1,Lc rfl]at hR;simp only[Qb,simprocAttr];refine bad _ H c 9 ?_ oc (by rw[hR]) (by decide);simp only[Qg,simprocAttr]
  | false=>
   rw[h1,Le (by decide)]at hR;have h1:¬c.p=(bs.length:Int):=by simpa using h1
   obtain⟨bb,o,cs,e,ro,cap',y,e10,hgb,hcs,hbn,hy,hy0,hy1⟩:=Qoi b c bs H h h1;rw[<- hy]at hR;have c1:(0:Int)<=c.p∧c.p<bs.length:=by have:=h.p0;omega
   have ey:IntKind.i64.wrap y=y:=w64 (by unfold I64;omega);have ho:=oc.set (nxP c);have hd:=h.only ho rfl rfl (QmD b c bs H h oc h1);have hw1:=hw.set hc (.cells (nxP c).dc Qc1 false);have enx:({c with p:=IntKind.i64.wrap (c.p+1)}:Rr)=nxP c:=rfl;simp only[KN,Qb,simprocAttr,a0,hc,Qgp,e10,c1,hgb,hcs,ey,Qaw,Qxa,enx];generalize Qa.set H b _=H1 at *;refine(Qq9 b (nxP c) bs H1 hd _ 0 0 (.inl rfl)).thenW ?_;rintro _ H2 hn2 hw2 ⟨rfl,c2,ho2,hc2⟩;have ho2:=ho.trans ho2;have hbx:(Qh5 (nxP c) (IntKind.i64.wrap (1 - IntKind.i64.wrap (y.tdiv 128))) 0 0).2.x=c.x∧(Qh5 (nxP c) (IntKind.i64.wrap (1 - IntKind.i64.wrap (y.tdiv 128))) 0 0).2.bv=c.bv∧(Qh5 (nxP c) (IntKind.i64.wrap (1 - IntKind.i64.wrap (y.tdiv 128))) 0 0).2.p=(nxP c).p:=by
    unfold Qh5;split<;>exact⟨rfl,rfl,rfl⟩
   generalize Qh5 (nxP c) (IntKind.i64.wrap (1 - IntKind.i64.wrap (y.tdiv 128))) 0 0=B at *;unfold Qyi at hR;simp only[Qb,simprocAttr];cases he:B.1==0 with
   | false=>
    rw[he,Le (by decide)]at hR;simp only[Qb,simprocAttr,LM];refine bad _ H2 c2 B.1 ?_ ho2 (by rw[hR]) (by simpa using he);simp only[Qg,simprocAttr]
   | true=>
    rw[he,Lc rfl]at hR;obtain rfl:=hc2 (by simpa using he);have hd2:=h.only ho2 hbx.1 hbx.2.1 (by rw[hbx.2.2];exact QmD b c bs H h oc h1);simp only[Qb,simprocAttr,L8,a0];refine(Qra b B.2 bs H2 hd2 y).thenW ?_;rintro _ H3 hn3 hw3 ⟨rfl,c3,ho3,hc3⟩;have ho3:=ho2.trans ho3;simp only[Qb,simprocAttr,GR];exact .mk ho3.next ⟨by rw[hR],c3,ho3,λh=>by rw[hR]at h ⊢;exact hc3 h⟩
 simp only[VN,Qb,simprocAttr,hc,dc4];cases e1:c.x.f.map==1 with
 | false=>
  rw[e1,LM,N1,Lc rfl]at hR;simp only[Qb,simprocAttr,LM];refine bad _ H c 4 ?_ oc (by rw[hR]) (by decide);simp only[Qg,simprocAttr]
 | true=>
  simp only[Qb,simprocAttr,L8,hc,dc7];cases e2:c.x.f.w==1 with
  | true=>
   rw[e2,Bd,Lc rfl]at hR;simp only[Qb,simprocAttr];refine bad _ H c 4 ?_ oc (by rw[hR]) (by decide);simp only[Qg,simprocAttr]
  | false=>
   simp only[Qb,simprocAttr];refine key (by rw[e1,e2];rfl) _ ?_;simp only[Qg,simprocAttr]
theorem QzV (hb5:∀y:Int,0<=y->y<256->IntKind.i64.wrap (1 - (IntKind.i64.wrap (y.tdiv 32)).tmod 2)=0∨IntKind.i64.wrap (1 - (IntKind.i64.wrap (y.tdiv 32)).tmod 2)=1):Qh prog YT [.pointer (some ⟨b,0,none⟩)] H (DP H b (Qoh bs c)):=by
 refine QeE λhw=>?_;have hc:=h.at_;obtain⟨a,cap,hbv,hby⟩:=h.by_;have hbv':c.dc[10]? = some (.slice a bs.length cap):=by rw[Qr6,hbv]
 have oc:=Wg.refl hc;obtain⟨R,hR⟩:∃R,R=Qoh bs c:=⟨_,rfl⟩;rw[<- hR];unfold Qoh at hR;simp only at hR;have bad:∀ (A:Env) (H':Qa) (c':Rr) (n:Int),A 2=.int .i64 n->Wg H H' b c'->R.1=n->¬n=0->Rt prog Qfk H (DP H b R) A H':=λA H' c' n r2 ho hr hn=>by
  simp only[YB,r2];exact .mk ho.next ⟨by rw[hr],c',ho,λh=>absurd (hr▸h) hn⟩
 simp only[KO,Qb,simprocAttr,hc,Qgp,hbv',Qp];cases h1:c.p==(bs.length:Int) with
 | true=>
  rw[h1,Lc rfl]at hR;simp only[Qb,simprocAttr];refine bad _ H c 9 ?_ oc (by rw[hR]) (by decide);simp only[Qg,simprocAttr]
 | false=>
  rw[h1,Le (by decide)]at hR;have h1:¬c.p=(bs.length:Int):=by simpa using h1
  obtain⟨bb,o,cs,e,ro,cap',y,e10,hgb,hcs,hbn,hy,hy0,hy1⟩:=Qoi b c bs H h h1;rw[<- hy]at hR;have c1:(0:Int)<=c.p∧c.p<bs.length:=by have:=h.p0;omega
  have ey:IntKind.i64.wrap y=y:=w64 (by unfold I64;omega);have ho:=oc.set (nxP c);have hd:=h.only ho rfl rfl (QmD b c bs H h oc h1);have hw1:=hw.set hc (.cells (nxP c).dc Qc1 false);have enx:({c with p:=IntKind.i64.wrap (c.p+1)}:Rr)=nxP c:=rfl;simp only[JF,Qb,simprocAttr,hc,Qgp,e10,c1,hgb,hcs,ey,Qaw,Qxa,enx];generalize Qa.set H b _=H1 at *;have b5:=hb5 y hy0 hy1;generalize IntKind.i64.wrap (1 - IntKind.i64.wrap (y.tdiv 128))=br at *;generalize IntKind.i64.wrap (1 - (IntKind.i64.wrap (y.tdiv 64)).tmod 2)=bx at *;generalize IntKind.i64.wrap (1 - (IntKind.i64.wrap (y.tdiv 32)).tmod 2)=bm at *;refine(Qq9 b (nxP c) bs H1 hd br bx bm b5).thenW ?_;rintro _ H2 hn2 hw2 ⟨rfl,c2,ho2,hc2⟩;have ho2:=ho.trans ho2;have hbx:(Qh5 (nxP c) br bx bm).2.x=c.x∧(Qh5 (nxP c) br bx bm).2.bv=c.bv∧(Qh5 (nxP c) br bx bm).2.p=(nxP c).p:=by
   unfold Qh5;split<;>exact⟨rfl,rfl,rfl⟩
  generalize Qh5 (nxP c) br bx bm=B at *;simp only[Qb,simprocAttr];cases he:B.1==0 with
  | false=>
   rw[he,NG,Lc rfl]at hR;simp only[Qb,simprocAttr,LM];refine bad _ H2 c2 4 ?_ ho2 (by rw[hR]) (by decide);simp only[Qg,simprocAttr]
  | true=>
   rw[he,LJ]at hR;obtain rfl:=hc2 (by simpa using he);have hd2:=h.only ho2 hbx.1 hbx.2.1 (by rw[hbx.2.2];exact QmD b c bs H h oc h1);have hcB:=ho2.at_;have g4:B.2.dc[4]? = some (.int .i64 c.x.f.map):=by rw[dc4,hbx.1]
   have g7:∀c':Rr,c'.x=B.2.x->c'.dc[7]? = some (.int .i64 c.x.f.w):=λc' h=>by rw[dc7,h,hbx.1]
   simp only[Qb,simprocAttr,L8,hcB,g4];cases hm:y.tmod 32==c.x.f.map with
   | false=>
    rw[hm,Lc rfl]at hR;simp only[Qb,simprocAttr,LM];refine bad _ H2 B.2 4 ?_ ho2 (by rw[hR]) (by decide);simp only[Qg,simprocAttr]
   | true=>
    rw[hm,Le (by decide)]at hR;obtain⟨a',cap2,hbv2,_⟩:=hd2.by_;have hbv2':B.2.dc[10]? = some (.slice a' bs.length cap2):=by rw[Qr6,hbv2]
    have oc2:=Wg.refl hcB;simp only[JE,Qb,simprocAttr,L8,hcB,Qgp,hbv2',Qp];cases h3:B.2.p==(bs.length:Int) with
    | true=>
     rw[h3,Lc rfl]at hR;simp only[Qb,simprocAttr];refine bad _ H2 B.2 9 ?_ ho2 (by rw[hR]) (by decide);simp only[Qg,simprocAttr]
    | false=>
     rw[h3,Le (by decide)]at hR;have h3:¬B.2.p=(bs.length:Int):=by simpa using h3
     obtain⟨bb,o,cs,e,ro,cap',z,e10,hgb,hcs,hbn,hz,hz0,hz1⟩:=Qoi b B.2 bs H2 hd2 h3;rw[<- hz]at hR;have c1:(0:Int)<=B.2.p∧B.2.p<bs.length:=by have:=hd2.p0;omega
     have ey:IntKind.i64.wrap z=z:=w64 (by unfold I64;omega);have ho3:=ho2.set (nxP B.2);have hn3:=QmD b B.2 bs H2 hd2 oc2 h3;have hd3:=hd2.only (oc2.set (nxP B.2)) rfl rfl hn3;have hw3:=hw2.set hcB (.cells (nxP B.2).dc Qc1 false);have enx:({B.2 with p:=IntKind.i64.wrap (B.2.p+1)}:Rr)=nxP B.2:=rfl;have g7':=g7 (nxP B.2) rfl;simp only[JD,Qb,simprocAttr,hcB,Qgp,e10,c1,hgb,hcs,ey,Qaw,Qxa,enx,g7',Ft];generalize Qa.set H2 b _=H3 at *;have hcx:=ho3.at_;cases e1:decide (0<=c.x.f.w) with
     | false=>
      rw[e1,NG,Le (by decide)]at hR;simp only[Qb,simprocAttr];refine(Qra b (nxP B.2) bs H3 hd3 z).thenW ?_;rintro _ H4 hn4 hw4 ⟨rfl,c3,ho4,hc3⟩;have ho4:=ho3.trans ho4;simp only[Qb,simprocAttr,YB];exact .mk ho4.next ⟨by rw[hR],c3,ho4,λh=>by rw[hR]at h ⊢;exact hc3 h⟩
     | true=>
      rw[e1,LJ]at hR;simp only[Qb,simprocAttr,hcx,g7'];cases e2:IntKind.i64.wrap (z.tdiv 128)==c.x.f.w with
      | false=>
       rw[e2,LM,Lc rfl]at hR;simp only[Qb,simprocAttr,LM];refine bad _ H3 (nxP B.2) 4 ?_ ho3 (by rw[hR]) (by decide);simp only[Qg,simprocAttr]
      | true=>
       rw[e2,L8,Le (by decide)]at hR;simp only[Qb,simprocAttr,L8];refine(Qra b (nxP B.2) bs H3 hd3 z).thenW ?_;rintro _ H4 hn4 hw4 ⟨rfl,c3,ho4,hc3⟩;have ho4:=ho3.trans ho4;simp only[Qb,simprocAttr,YB];exact .mk ho4.next ⟨by rw[hR],c3,ho4,λh=>by rw[hR]at h ⊢;exact hc3 h⟩
def Qr7 (bs:List Int) (c:Rr):Int×Rr:=
 if(c.p==(bs.length:Int))=true then(9,c) else if(bs.getD c.p.toNat 0==197)=true then QzU bs (nxP c) else if(bs.getD c.p.toNat 0==196)=true then Qoh bs (nxP c) else(4,c)
theorem QDU (hb5:∀y:Int,0<=y->y<256->IntKind.i64.wrap (1 - (IntKind.i64.wrap (y.tdiv 32)).tmod 2)=0∨IntKind.i64.wrap (1 - (IntKind.i64.wrap (y.tdiv 32)).tmod 2)=1):Qh prog Zt [.pointer (some ⟨b,0,none⟩)] H (DP H b (Qr7 bs c)):=by
 refine Qf6 λhw=>?_;have hc:=h.at_;obtain⟨a,cap,hbv,hby⟩:=h.by_;have hbv':c.dc[10]? = some (.slice a bs.length cap):=by rw[Qr6,hbv]
 have oc:=Wg.refl hc;obtain⟨R,hR⟩:∃R,R=Qr7 bs c:=⟨_,rfl⟩;rw[<- hR];unfold Qr7 at hR;simp only[VK,Qb,simprocAttr,hc,Qgp,hbv',Qp];cases h1:c.p==(bs.length:Int) with
 | true=>
  rw[h1,Lc rfl]at hR;simp only[Qb,simprocAttr,XH];exact .mk oc.next ⟨by rw[hR],c,oc,λh=>by rw[hR]⟩
 | false=>
  rw[h1,Le (by decide)]at hR;have h1:¬c.p=(bs.length:Int):=by simpa using h1
  obtain⟨bb,o,cs,e,ro,cap',y,e10,hgb,hcs,hbn,hy,hy0,hy1⟩:=Qoi b c bs H h h1;rw[<- hy]at hR;have c1:(0:Int)<=c.p∧c.p<bs.length:=by have:=h.p0;omega
  have ho:=oc.set (nxP c);have hd:=h.only ho rfl rfl (QmD b c bs H h oc h1);have enx:({c with p:=IntKind.i64.wrap (c.p+1)}:Rr)=nxP c:=rfl;simp only[KL,Qb,simprocAttr,hc,Qgp,e10,c1,hgb,hcs,Qaw,Qxa,enx];generalize Qa.set H b _=H1 at *;cases e1:y==197 with
  | true=>
   rw[e1,Lc rfl]at hR;simp only[Qb,simprocAttr];refine(QDT b (nxP c) bs H1 hd).thenW ?_;rintro _ H2 hn2 hw2 ⟨rfl,c2,ho2,hc2⟩;have ho2:=ho.trans ho2;simp only[Qb,simprocAttr,XH];exact .mk ho2.next ⟨by rw[hR],c2,ho2,λh=>by rw[hR]at h ⊢;exact hc2 h⟩
  | false=>
   rw[e1,Le (by decide)]at hR;simp only[Qb,simprocAttr];cases e2:y==196 with
   | true=>
    rw[e2,Lc rfl]at hR;simp only[Qb,simprocAttr];refine(QzV b (nxP c) bs H1 hd hb5).thenW ?_;rintro _ H2 hn2 hw2 ⟨rfl,c2,ho2,hc2⟩;have ho2:=ho.trans ho2;simp only[Qb,simprocAttr,XH];exact .mk ho2.next ⟨by rw[hR],c2,ho2,λh=>by rw[hR]at h ⊢;exact hc2 h⟩
   | false=>
    rw[e2,Le (by decide)]at hR;simp only[Qb,simprocAttr,XH];exact .mk ho.next ⟨by rw[hR],_,ho,λh=>by rw[hR]at h;cases h⟩
end
def vt1 (y:Int):Bool:=(IntKind.i64.wrap (1 - IntKind.i64.wrap (y.tdiv 128))==(vx2 y).r)&&(Qi7 y==(vx2 y).v)&&((IntKind.i64.wrap (y.tdiv 4)).tmod 2==(vx2 y).l)&&([0,1,2,4].all λpre=>(y.tmod 4==ppD pre)==((vx2 y).pre==pre))
def vt2 (y:Int):Bool:=(IntKind.i64.wrap (1 - IntKind.i64.wrap (y.tdiv 128))==VG y 7)&&(IntKind.i64.wrap (1 - (IntKind.i64.wrap (y.tdiv 64)).tmod 2)==VG y 6)&&(IntKind.i64.wrap (1 - (IntKind.i64.wrap (y.tdiv 32)).tmod 2)==VG y 5)&&(y.tmod 32==YM y 31)&&(QbE (QcP y 224) 7==VG y 7)&&(YM (QbE (QcP y 224) 6) 1==VG y 6)&&(YM (QbE (QcP y 224) 5) 1==VG y 5)&&(YM (QcP y 224) 31==YM y 31)&&(VG y 5==0||VG y 5==1)
def vt3 (y:Int):Bool:=(Qi7 y==(vx3 0 y).v)&&((IntKind.i64.wrap (y.tdiv 4)).tmod 2==(vx3 0 y).l)&&(IntKind.i64.wrap (y.tdiv 128)==(vx3 0 y).w)&&([0,1,2,4].all λpre=>(y.tmod 4==ppD pre)==((vx3 0 y).pre==pre))
theorem QF7:((List.range 256).all λy=>vt1 (y:Nat)&&vt2 (y:Nat)&&vt3 (y:Nat))=true:=by kernel_rfl
theorem QtN {y:Int} (h0:0<=y) (h1:y<256):vt1 y=true∧vt2 y=true∧vt3 y=true:=by
 have h:=Li.1 QF7 y.toNat (LU.2 (by omega));rw[show((y.toNat:Nat):Int)=y by omega,Lm,Lm]at h;exact⟨h.1.1,h.1.2,h.2⟩
theorem QHs (y:Int) (h0:0<=y) (h1:y<256):IntKind.i64.wrap (1 - (IntKind.i64.wrap (y.tdiv 32)).tmod 2)=0∨IntKind.i64.wrap (1 - (IntKind.i64.wrap (y.tdiv 32)).tmod 2)=1:=by
 have h:=(QtN h0 h1).2.1;unfold vt2 at h;simp only[Lm,L0,Nw]at h;rw[h.1.1.1.1.1.1.2];exact h.2
def Qrb (a b:Int×Rr):Prop:=a.1=b.1∧(a.1=0->a.2=b.2)
theorem Qk8 (a b:Rr):Qrb (4,a) (4,b):=⟨rfl,λh=>by cases h⟩
theorem QtO (a b:Rr):Qrb (9,a) (9,b):=⟨rfl,λh=>by cases h⟩
theorem Qrc (bs:List Int) (c d:Rr) (z:Int) (ok:DOk c.x.f) (hv:c.x.f.vex=true) (v:Vx) (n:Int) (hvf:YN bs=(v,n,0)) (hx:d.x=c.x) (hd:({d with v:=v.v}:Rr)=Qtu bs c) (hl:Qi7 z=v.v) (h1:(IntKind.i64.wrap (z.tdiv 4)).tmod 2=v.l) (h2:([0,1,2,4].all λpre=>(z.tmod 4==ppD pre)==(v.pre==pre))=true)
  (hm:(v.map==c.x.f.map)=true) (hw:((!(c.x.f.w==-1))&&!(v.w==c.x.f.w))=false) (ha:ZB c.x.f v.r v.x v.b=true):Qrb (Qnv d z) (QhW bs c):=by
 have hp:=(ok.vx hv).2.1;have h3:(z.tmod 4==ppD c.x.f.pre)=(v.pre==c.x.f.pre):=by
  simp only[Bv,BI,Be,Lm,L0]at h2;rcases hp with h | h | h | h<;>rw[h]
  ·exact h2.1
  ·exact h2.2.1
  ·exact h2.2.2.1
  ·exact h2.2.2.2
 have e1:Qo3 v c.x.f=(!(v.l==c.x.f.l)||!(v.pre==c.x.f.pre)):=by
  unfold Qo3;rw[hm,hw];rfl
 have e2:QDS d.x.f z=((v.l==c.x.f.l)&&((v.pre==c.x.f.pre)&&((v.v==0)||decide (0<=QC c.x.f.slots 3)))):=by
  unfold QDS;rw[hx,h1,h3,hl]
 have e3:decide (QC c.x.f.slots 3<0)=!decide (0<=QC c.x.f.slots 3):=by
  cases h:decide (0<=QC c.x.f.slots 3) with
  | true=>have:=Lg h;rw[Lj (by omega)];rfl
  | false=>have:=Ll h;rw[Lp (by omega)];rfl
 unfold Qnv QhW;rw[hvf,e2];simp only;rw[e1,ha,e3,Le (show ¬ ((0:Int)==0)=false by decide)];cases v.l==c.x.f.l with
 | false=>exact Qk8 _ _
 | true=>
  cases v.pre==c.x.f.pre with
  | false=>exact Qk8 _ _
  | true=>
   cases v.v==0<;>cases decide (0<=QC c.x.f.slots 3)
   ·exact Qk8 _ _
   all_goals exact⟨rfl,λ_=>by rw[hl];exact hd⟩
theorem QBY (bs:List Int) (c:Rr) (v:Vx) (n:Int) (hvf:YN bs=(v,n,0)) (ha:ZB c.x.f v.r v.x v.b=false):(QhW bs c).1=4:=by
 unfold QhW;rw[hvf];simp only;rw[Le (show ¬ ((0:Int)==0)=false by decide),ha];split
 ·rfl
 ·rw[LM,Bd,Lc rfl]
theorem QzW (bs:List Int) (c:Rr) (ok:DOk c.x.f) (hv:c.x.f.vex=true) (hp:c.p=0) (hby:∀z∈bs,0<=z∧z<256) (hl:bs.length<=1000000):Qrb (Qr7 bs c) (Qpy bs c):=by
 have hw:=(ok.vx hv).2.2;have hmp:=(ok.vx hv).1;have hg:∀k,k<bs.length->0<=bs.getD k 0∧bs.getD k 0<256:=λk hk=>by
  have:bs.getD k 0∈bs:=by rw[LX,La hk];exact Nb _
  exact hby _ this
 have n1:(nxP c).p=1:=by show IntKind.i64.wrap (c.p+1)=1;rw[hp];rfl
 unfold Qr7 Qpy;rw[hp]
 by_cases h0:bs.length=0
 ·rw[h0,Lc (show((0:Int)==((0:Nat):Int))=true from rfl),Lc rfl];exact QtO _ _
 ·rw[Le (by simp;omega),Le h0];rw[show Int.toNat 0=0 from rfl];cases h97:bs.getD 0 0==197 with
  | true=>
   have h96:(bs.getD 0 0==196)=false:=by rw[eq_of_beq h97];rfl
   rw[Lc rfl];unfold QzU;rw[show(nxP c).x=c.x from rfl,n1];cases hcm:c.x.f.map==1 with
   | false=>rw[h96,LM,N1,Lc rfl,NJ,NG,Le (by decide),Lc rfl];exact Qk8 _ _
   | true=>
    cases hcw:c.x.f.w==1 with
    | true=>rw[h96,Bd,Lc rfl,L8,NJ,Le (by decide),Lc rfl];exact Qk8 _ _
    | false=>
     rw[L8,NI,Le (by decide),LM,Bj,Bj,Lc rfl]
     by_cases h2:bs.length<2
     ·rw[Lc (by simp;omega)];have hvf:YN bs=(Qa5,0,9):=by unfold YN;rw[Le h0,h97,Lc rfl,Lc h2]
      unfold QhW;rw[hvf,Lc (show((9:Int)==0)=false from rfl)];exact QtO _ _
     ·have hvf:YN bs=(vx2 (bs.getD 1 0),2,0):=by unfold YN;rw[Le h0,h97,Lc rfl,Le h2]
      rw[Le (by simp;omega),show Int.toNat 1=1 from rfl];obtain⟨y0,y1⟩:=hg 1 (by omega);have ht:=(QtN y0 y1).1;unfold vt1 at ht;simp only[Lm,L0]at ht;obtain⟨⟨⟨t1,t2⟩,t3⟩,t4⟩:=ht;have hpc:Qtu bs c={c with r:=(vx2 (bs.getD 1 0)).r,xx:=0,bb:=0,v:=(vx2 (bs.getD 1 0)).v,p:=2}:=by unfold Qtu;rw[hvf];rfl
      generalize bs.getD 1 0=y at *;unfold Qyi Qh5;rw[t1];rw[show(nxP (nxP c)).x=c.x from rfl];cases hal:ZB c.x.f (vx2 y).r 0 0 with
      | false=>
       have:=QBY bs c (vx2 y) 2 hvf hal;rw[Le (show ¬false=true by decide),Le (show ¬ ((4:Int)==0)=true by decide)];exact⟨this.symm,λh=>by cases h⟩
      | true=>
       rw[Lc rfl,Lc (show((0:Int)==0)=true from rfl)];refine Qrc bs c _ y ok hv (vx2 y) 2 hvf rfl ?_ t2 t3 ?_ ?_ ?_ hal
       ·rw[hpc];have:(nxP (nxP c)).p=2:=by show IntKind.i64.wrap ((nxP c).p+1)=2;rw[n1];rfl
        show({nxP (nxP c) with r:=(vx2 y).r,xx:=0,bb:=0,v:=(vx2 y).v}:Rr)=_;rw[<- this];rfl
       ·exact t4
       ·rw[eq_of_beq hcm];rfl
       ·show(!(c.x.f.w==-1)&&!((0:Int)==c.x.f.w))=false;rcases hw with h | h | h<;>rw[h]<;>first | rfl | (rw[h]at hcw;cases hcw)
  | false=>
   rw[Le (show ¬false=true by decide),NG,NG,Le (show ¬false=true by decide)];cases h96:bs.getD 0 0==196 with
   | false=>rw[Le (by decide),Lc rfl];exact Qk8 _ _
   | true=>
    rw[Lc rfl,Le (show ¬true=false by decide)];unfold Qoh;rw[show(nxP c).x=c.x from rfl,n1]
    by_cases h2:bs.length<2
    ·rw[Lc h2,Lc (by simp;omega)];exact QtO _ _
    ·rw[Le h2,Le (by simp;omega),show Int.toNat 1=1 from rfl];obtain⟨y0,y1⟩:=hg 1 (by omega);have ht:=(QtN y0 y1).2.1;have ey:IntKind.i64.wrap (bs.getD 1 0)=bs.getD 1 0:=w64 (by unfold I64;omega);unfold vt2 at ht;simp only[Lm,L0]at ht;obtain⟨⟨⟨⟨⟨⟨⟨⟨t1,t2⟩,t3⟩,t4⟩,t5⟩,t6⟩,t7⟩,t8⟩,_⟩:=ht;have hp3:Qgh bs c={c with r:=VG (bs.getD 1 0) 7,xx:=VG (bs.getD 1 0) 6,bb:=VG (bs.getD 1 0) 5}:=by unfold Qgh;rw[ey]
     have hvfy:∀hmp:(YM (bs.getD 1 0) 31==c.x.f.map)=true,YN bs=if bs.length<3 then(Qa5,0,9) else(vx3 (bs.getD 1 0) (bs.getD 2 0),3,0):=λhmp'=>by
      have h3:=ok.map;have e:=eq_of_beq hmp';unfold YN;rw[Le h0,h97,Le (show ¬false=true by decide),h96,Le (show ¬true=false by decide),Le h2,ey,t8,e,Le (by simp;omega)]
     have hv3:∀z,(vx3 (bs.getD 1 0) z).r=VG (bs.getD 1 0) 7∧(vx3 (bs.getD 1 0) z).x=VG (bs.getD 1 0) 6∧(vx3 (bs.getD 1 0) z).b=VG (bs.getD 1 0) 5∧(vx3 (bs.getD 1 0) z).map=YM (bs.getD 1 0) 31:=λz=>by
      unfold vx3;simp only[ey,t5,t6,t7,t8,RU]
     rw[hp3,ey];generalize bs.getD 1 0=y at *;simp only[t1,t2,t3,t4];have n2:(nxP (nxP c)).p=2:=by show IntKind.i64.wrap ((nxP c).p+1)=2;rw[n1];rfl
     unfold Qh5;rw[show(nxP (nxP c)).x=c.x from rfl];cases hal:ZB c.x.f (VG y 7) (VG y 6) (VG y 5) with
     | false=>
      rw[Le (show ¬false=true by decide),Lc (show(((4:Int)==0)&&_)=false from rfl),LM,Bd,Lc rfl];exact Qk8 _ _
     | true=>
      cases hm:YM y 31==c.x.f.map with
      | false=>rw[Lc rfl,NJ,Lc rfl,LM,N1,Lc rfl];exact Qk8 _ _
      | true=>
       have hvf:=hvfy hm;rw[Lc rfl,Le (show ¬ (((0:Int)==0)&&true)=false by decide),L8,NI,Le (show ¬false=true by decide)];simp only[n2]
       by_cases h3:bs.length<3
       ·rw[Lc h3]at hvf;rw[Lc (by simp;omega)];unfold QhW;rw[hvf,Lc (show((9:Int)==0)=false from rfl)];exact QtO _ _
       ·rw[Le h3]at hvf;rw[Le (by simp;omega),show Int.toNat 2=2 from rfl];obtain⟨z0,z1⟩:=hg 2 (by omega);have hz:=(QtN z0 z1).2.2;unfold vt3 at hz;simp only[Lm,L0]at hz;obtain⟨⟨⟨s1,s2⟩,s3⟩,s4⟩:=hz;generalize bs.getD 2 0=z at *;obtain⟨v1,v2,v3,v4⟩:=hv3 z;have e3:(decide (0<=c.x.f.w)&&!(IntKind.i64.wrap (z.tdiv 128)==c.x.f.w))=(!(c.x.f.w==-1)&&!((vx3 y z).w==c.x.f.w)):=by
         rw[s3];rcases hw with h | h | h<;>rw[h]<;>rfl
        rw[e3];have hpc:Qtu bs {c with r:=VG y 7,xx:=VG y 6,bb:=VG y 5}={c with r:=VG y 7,xx:=VG y 6,bb:=VG y 5,v:=(vx3 y z).v,p:=3}:=by unfold Qtu;rw[hvf];simp only[v1,v2,v3]
        cases hwb:(!(c.x.f.w==-1)&&!((vx3 y z).w==c.x.f.w)) with
        | true=>
         rw[Lc rfl];refine⟨?_,λh=>by cases h⟩;unfold QhW;rw[hvf];simp only;rw[Le (show ¬ ((0:Int)==0)=false by decide),Lc];unfold Qo3;rw[hwb,Bd,N1,N1]
        | false=>
         rw[Le (show ¬false=true by decide)];refine Qrc bs {c with r:=VG y 7,xx:=VG y 6,bb:=VG y 5} _ z ok hv (vx3 y z) 3 hvf rfl ?_ s1 s2 s4 (by rw[v4];exact hm) hwb (by rw[v1,v2,v3];exact hal);rw[hpc];rfl
theorem Qyj (x:Int):BitVec.ofInt 64 (IntKind.i64.wrap x)=BitVec.ofInt 64 x:=by
 apply Fu;rw[B7,B7,NU];congr 1;omega
theorem QDV (S y:Int) (j:Nat) (h0:0<=S) (h1:S<2 ^ (8 * j)) (hy:0<=y∧y<256) (hj:j<8):
  IntKind.i64.wrap ((BitVec.ofInt 64 (IntKind.i64.wrap S) ||| BitVec.ofInt 64 (IntKind.i64.wrap (y * 2 ^ (8 * j)))).toNat)=IntKind.i64.wrap (S+y * 2 ^ (8 * j)):=by
 rw[Qyj,Qyj];have hp:(0:Int)<2 ^ (8 * j):=Int.pow_pos (by decide);have h64:S+y * 2 ^ (8 * j)<2 ^ 64:=by
  have e:(2:Int) ^ (8 * (j+1))=256 * 2 ^ (8 * j):=by rw[show 8 * (j+1)=8 * j+8 by omega,Int.pow_add,Hu];rfl
  refine Int.lt_of_lt_of_le (b:=2 ^ (8 * (j+1))) ?_ ?_
  ·rw[e];generalize (2:Int) ^ (8 * j)=q at *;have:y * q<=255 * q:=Int.mul_le_mul_of_nonneg_right (by omega) (Int.le_of_lt hp);omega
  ·have:=NP (show 0<2 by decide) (show 8 * (j+1)<=64 by omega);have e:∀k:Nat,(2:Int) ^ k=((2 ^ k:Nat):Int):=λk=>by rw[Int.natCast_pow];rfl
   rw[e,e];omega
 rw[QBO S y (8 * j) h0 hy.1 h1 h64];have:0<=y * 2 ^ (8 * j):=Int.mul_nonneg hy.1 (Int.le_of_lt hp);congr 1;omega
theorem QEU {l:List Int} (h:l.length=8) (hb:0<=leL l∧leL l<2 ^ (8 * l.length)):Qav l=IntKind.i64.wrap (leL l):=by
 obtain⟨h1,h2⟩:=hb;rw[h,show(2:Int) ^ (8 * 8)=18446744073709551616 from rfl]at h2;unfold Qav sgn;rw[h,Le (by decide),show(2:Int) ^ (8 * 8)=18446744073709551616 from rfl,show(2:Int) ^ (8 * 8 - 1)=9223372036854775808 from rfl,NU];split<;>omega
theorem Qxf (v:Value) (l:List Int) (H:Qa) (hb:QbC H v l) (hl:l.length=0∨l.length=1∨l.length=2∨l.length=4∨l.length=8) (hz:∀z∈l,0<=z∧z<256):Qh prog YW [v] H λu H'=>u=.int .i64 (Qav l)∧H'=H:=by
 refine Qh4 λhw=>?_;obtain⟨a,cap,rfl,hby⟩:=hb;have hlen:l.length<=8:=by omega
 have hg:=λk=>QeH hz k;simp only[Qcj,Qb,simprocAttr];refine QE (λm A' H'=>∃j:Nat,j<=l.length∧l.length - j=m∧H=H'∧A' 0=.slice a l.length cap∧A' 3=.int .i64 (IntKind.i64.wrap (leS l 0 j))∧A' 4=.int .i64 (j:Nat)) l.length ?_ ?_
 ·refine⟨0,L7 _,rfl,rfl,?_,?_,?_⟩
  all_goals simp only[Qg,simprocAttr]
  all_goals rfl
 ·rintro m A' H' ⟨j,hj,rfl,rfl,r0,r3,r4⟩;simp only[Qal,Qb,simprocAttr,r0,r4,Qp];refine Qf (λh2=>?_) (λh2=>?_)
  ·have h2:j<l.length:=by have:=Lg h2;omega
   obtain⟨b,o,e,ro,cs,rfl,hgb,hcs⟩:=hby (by omega);have c1:(0:Int)<=(j:Int)∧(j:Int)<l.length:=by omega
   have c3:(j:Int).toNat=j:=LG j;have g1:=hcs j h2;obtain⟨y0,y1⟩:=hg j;obtain⟨b1,b2⟩:=Qq5 hg 0 j;have es:leS l 0 (j+1)=leS l 0 j+l.getD j 0 * 2 ^ (8 * j):=by
    show leS l 0 j+l.getD (0+j) 0 * 2 ^ (8 * j)=_;rw[LP]
   generalize l.getD j 0=y at *;have ey:IntKind.i64.wrap y=y:=w64 (by unfold I64;omega);have e8:IntKind.i64.wrap (8 * (j:Int))=((8 * j:Nat):Int):=by rw[w64 (by unfold I64;omega)];omega
   have e9:min ((8 * j:Nat):Int).toNat IntKind.i64.bits=8 * j:=by show min _ 64=_;omega
   have e3:IntKind.i64.wrap ((j:Int)+1)=((j+1:Nat):Int):=by rw[w64 (by unfold I64;omega)];omega
   have eo:=QDV _ y j b1 b2 ⟨y0,y1⟩ (by omega);rw[<- es]at eo;simp only[Qak,Qb,simprocAttr,r0,r3,r4,c1,c3,hgb,g1,ey,e8,e3];refine⟨by omega,l.length - (j+1),by omega,j+1,by omega,rfl,rfl,?_,?_,?_⟩
   all_goals simp only[Qg,simprocAttr,r0]
   rw[e9];exact congrArg (Value.int .i64) eo
  ·have h2:j=l.length:=by have:=Ll h2;omega
   subst h2;have el:leS l 0 l.length=leL l:=by rw[QtJ l 0 l.length (by omega),Lw,Nr]
   rw[el]at r3;obtain⟨b1,b2⟩:=Qoe hz;simp only[Qaj,Qb,simprocAttr,r0,Qp,B4]
   by_cases h0:l.length=0
   ·have e:Qav l=IntKind.i64.wrap (leL l):=by unfold Qav;rw[Lc h0,N2.1 h0];rfl
    have z:decide ((0:Int)<(l.length:Int))=false:=by rw[NY];omega
    simp only[Qb,simprocAttr,z,r0,r3,Qp,Yv];exact .mk (Lb _) ⟨by rw[e],rfl⟩
   ·have z:decide ((0:Int)<(l.length:Int))=true:=by rw[Lv];omega
    by_cases h8:l.length=8
    ·have z8:decide ((l.length:Int)<8)=false:=by rw[NY];omega
     simp only[Qb,simprocAttr,z,z8,r0,r3,Qp,Yv];exact .mk (Lb _) ⟨by rw[QEU h8 ⟨b1,b2⟩],rfl⟩
    ·have z8:decide ((l.length:Int)<8)=true:=by rw[Lv];omega
     obtain⟨n,hn⟩:∃n,l.length=n+1:=⟨l.length - 1,by omega⟩;obtain⟨b,o,e,ro,cs,rfl,hgb,hcs⟩:=hby (by omega);have e1:IntKind.i64.wrap ((l.length:Int) - 1)=(n:Int):=by rw[w64 (by unfold I64;omega)];omega
     have c1:(0:Int)<=(n:Int)∧(n:Int)<l.length:=by omega
     have c3:(n:Int).toNat=n:=LG n;have g1:=hcs n (by omega);have ht:=Qye hz hn;have e8:IntKind.i64.wrap (8 * (l.length:Int))=8 * (l.length:Int):=w64 (by unfold I64;omega);have es:Qav l=if(2:Int) ^ (8 * (n+1) - 1)<=leL l then leL l - 2 ^ (8 * (n+1)) else leL l:=by
      unfold Qav sgn;rw[Le h0,hn]
     have bd:leL l<4294967296:=by
      rw[hn]at b2;obtain rfl | rfl | rfl:n=0∨n=1∨n=3:=by omega
      ·rw[show(2:Int) ^ (8 * (0+1))=256 from rfl]at b2;omega
      ·rw[show(2:Int) ^ (8 * (1+1))=65536 from rfl]at b2;omega
      ·exact b2
     have ew:IntKind.i64.wrap (leL l)=leL l:=w64 (by unfold I64;omega);rw[ew]at r3;simp only[Qb,simprocAttr,z,z8,r0,r3,Qp,e1,c1,c3,hgb,g1,Ft];cases hq:decide (128<=l.getD n 0) with
     | false=>
      rw[Le (λh=>Ll hq (ht.2 h))]at es;simp only[Qb,simprocAttr,r3,Yv];exact .mk (Lb _) ⟨by rw[es],rfl⟩
     | true=>
      rw[Lc (ht.1 (Lg hq))]at es;simp only[Qb,simprocAttr,r0,r3,Qp,e8];have ev:IntKind.i64.wrap (leL l - IntKind.i64.wrap (1 * 2 ^ min (8 * (l.length:Int)).toNat IntKind.i64.bits))=Qav l:=by
       rw[es,hn];obtain rfl | rfl | rfl:n=0∨n=1∨n=3:=by omega
       ·rw[show IntKind.i64.wrap (1 * 2 ^ min (8 * ((0+1:Nat):Int)).toNat IntKind.i64.bits)=256 from rfl,show(2:Int) ^ (8 * (0+1))=256 from rfl,w64 (by unfold I64;omega)]
       ·rw[show IntKind.i64.wrap (1 * 2 ^ min (8 * ((1+1:Nat):Int)).toNat IntKind.i64.bits)=65536 from rfl,show(2:Int) ^ (8 * (1+1))=65536 from rfl,w64 (by unfold I64;omega)]
       ·rw[show IntKind.i64.wrap (1 * 2 ^ min (8 * ((3+1:Nat):Int)).toNat IntKind.i64.bits)=4294967296 from rfl,show(2:Int) ^ (8 * (3+1))=4294967296 from rfl,w64 (by unfold I64;omega)]
      refine⟨by omega,?_⟩;simp only[Yv,Qg,simprocAttr,ev];exact .mk (Lb _) ⟨rfl,rfl⟩
def clD (s n:Int) (rex:Bool):Int:=if s=1∨s=7 then(if(!rex&&decide (4<=n)&&decide (n<=7))=true then 2 else 1) else if s=2∨s=8 then 3 else if s=3∨s=9 then 4 else if s=4∨s=10 then 5 else if s=6∨s=14 then 7 else 6
theorem Qh6 (s n:Int) (rex:Bool) (H:Qa):Qh prog WL [.int .i64 s,.int .i64 n,.bool rex] H λu H'=>u=.int .i64 (clD s n rex)∧H'=H:=by
 refine Qi5 λhw=>?_;have last:∀ (A:Env) (e:Nat->Env->Qa->Prop) (K:Env->Qa->Prop),A 1=.int .i64 n->A 2=.bool rex->(s=1∨s=7)->Qn prog Jc ⟨Rt prog Qj7 H (λu H'=>u=.int .i64 (clD s n rex)∧H'=H),e⟩ K A H:=by
  intro A e K a1 a2 hs;have he:clD s n rex=if(!rex&&decide (4<=n)&&decide (n<=7))=true then 2 else 1:=Lc hs
  generalize clD s n rex=r at *;cases rex<;>cases z1:decide (4<=n)<;>cases z2:decide (n<=7)<;>simp only[Jc,Qb,simprocAttr,a1,a2,Ft,z1,z2,L8,LM,JO]<;>refine .mk (Lb _) ⟨?_,rfl⟩<;>(rw[he,z1,z2];rfl)
 simp(disch:=(first | omega | (simp only[hnP];try omega))) only[QcZ,Qbg,Qbh,Qbi,Qbj,Qbk,Qbl,Qbm,Qbn,Qk,simprocAttr,JO]
 repeat' (first
   | (refine Qf (λh=>?_) (λh=>?_)<;>(try simp only[Lr,Lu]at h)<;>simp(disch:=(first | omega | (simp only[hnP];try omega))) only[Qk,simprocAttr,JO,h])
   | fail)
 all_goals simp only[L0,LC,Da]at *
 all_goals first
  | (refine last _ _ _ ?_ ?_ ?_<;>first | (simp only[Qg,simprocAttr];done) | (simp[*];done))
  | (refine .mk (Lb _) ⟨?_,rfl⟩;clear last;unfold clD;simp[*];done)
def szD (s:Int):Int:=if s=7 then 1 else if s=8∨s=34 then 2 else if s=9∨s=11∨s=16 then 4 else if s=10∨s=12∨s=17 then 8 else if s=13∨s=18 then 16 else if s=14∨s=19 then 32 else 0
theorem QBZ (s:Int) (H:Qa):Qh prog Ve [.int .i64 s] H λu H'=>u=.int .i64 (szD s)∧H'=H:=by
 refine Qj8 λhw=>?_;simp(disch:=(first | omega | (simp only[hnP];try omega))) only[Qdp,Qca,Qcb,Qcc,Qcd,Qce,Qcf,Qcg,Qch,Qci,Qk,simprocAttr,Qc0]
 repeat' (first
   | (refine Qf (λh=>?_) (λh=>?_)<;>(try simp only[Lr,Lu]at h)<;>simp(disch:=(first | omega | (simp only[hnP];try omega))) only[Qk,simprocAttr,Qc0,h])
   | fail)
 all_goals refine .mk (Lb _) ⟨?_,rfl⟩
 all_goals (simp only[L0,LC,Da]at *;simp only[szD];simp[*])
theorem Qlm (c n:Int) (H:Qa):Qh prog QZ [.int .i64 c,.int .i64 n] H (QkW H (QqR c n)):=by
 refine Qk5 λhw=>?_;simp only[Qef,Qb,simprocAttr,Qj6];exact .ext hw (((Ext.refl H).push _).set (Lb _) _) ⟨rfl,_,rfl⟩
theorem QzX (s:Int) (H:Qa):Qh prog Gq [.int .i64 s] H (QkW H (Qu8 s).cells):=by
 refine Qi4 λhw=>?_;rw[<- QqU];have hx:=(Ext.refl H).push (.cells [.int .i64 0,.int .i64 0,.int .i64 0,.int .i64 0,.int .i64 0,.int .i64 0,.int .i64 0,.int .i64 0,.int .i64 0,.int .i64 0,.int .i64 0] Qe false);have hg:(H.push (.cells [.int .i64 0,.int .i64 0,.int .i64 0,.int .i64 0,.int .i64 0,.int .i64 0,.int .i64 0,.int .i64 0,.int .i64 0,.int .i64 0,.int .i64 0] Qe false)).get H.next=some (.cells [.int .i64 0,.int .i64 0,.int .i64 0,.int .i64 0,.int .i64 0,.int .i64 0,.int .i64 0,.int .i64 0,.int .i64 0,.int .i64 0,.int .i64 0] Qe false):=by rw[Qi,Lc rfl]
 simp only[QcY,Qb,simprocAttr];generalize Qa.push H _=H1 at *
 repeat' (first
   | (refine Qf (λh=>?_) (λh=>?_)<;>(try simp only[Lr,Lu]at h)<;>simp only[Qbd,Qbe,Qbf,Qb,simprocAttr,Qb9,h,hg])
   | fail)
 all_goals (try (refine(Qlm _ _ _).thenW ?_;rintro _ _ hn hw2 ⟨rfl,k,rfl⟩;simp only[Qb,simprocAttr,W3,hg,Qb9];refine⟨by repeat' (first | rfl | constructor),Lb 11,?_⟩;have hx3:=hx.up (show _<=k from hn);refine Ret.ext hw (hx3.set (Lb _) _) ⟨?_,_,rfl⟩))
 all_goals (try refine Ret.ext hw (hx.set (Lb _) _) ⟨?_,_,rfl⟩)
 all_goals simp only[L0,LC,Da]at *
 all_goals (refine congrArg (λl:List Value=>Value.agg l.toArray) ?_;clear hg hx hw;unfold QA8;simp[*,QqR,QFF])
def rD (s n:Int) (rex:Bool):Ar:=⟨1,⟨clD s n rex,n⟩,Wh,0⟩
theorem Qk9 (s n:Int) (rex:Bool):QqR (clD s n rex) n=(rD s n rex).cells:=rfl
def q16 (n:Int):Int:=IntKind.i64.wrap ((IntKind.i64.wrap n).tdiv 16)
def tlX (f:Fm) (tl:List Int):List Int:=if 0<=QC f.slots 7 then tl.take (tl.length - 1) else tl
def QtP (c:Rr) (s slot:Int) (tl:List Int):Ar:=
 if(slot==6)=true then Qu8 s
 else if(slot==1)=true then rD s (IntKind.i64.wrap (c.seen.fld+IntKind.i64.wrap (8 * c.r))) c.rex
 else if(slot==3)=true then rD s c.v true
 else if(slot==4)=true then rD s (IntKind.i64.wrap (c.low+IntKind.i64.wrap (8 * c.bb))) c.rex
 else if(slot==7)=true then rD s (q16 (tl.getD (tl.length - 1) 0)) true
 else if(slot==2)=true then(if decide (0<=c.seen.reg)=true then rD s c.seen.reg c.rex else⟨2,⟨0,0⟩,{c.seen.m with sz:=szD s},0⟩)
 else if(s==26||s==27)=true then nA 4 (Qav (tlX c.x.f tl)) else nA 3 (Qav (tlX c.x.f tl))
theorem QId (c:Rr):c.dc[17]? = some (.int .i64 c.seen.fld):=rfl
theorem QF8 (c:Rr):c.dc[18]? = some (.int .i64 c.seen.reg):=rfl
theorem QIe (c:Rr):List.take 7 (List.drop 19 c.dc)=c.seen.m.cells:=rfl
theorem QtQ (f:Fm):tl1 f=0∨tl1 f=1∨tl1 f=2∨tl1 f=4∨tl1 f=8:=by
 have h0:∀s,tl0 s=0∨tl0 s=1∨tl0 s=2∨tl0 s=4∨tl0 s=8:=λs=>by
  unfold tl0
  repeat' split
  all_goals simp
 unfold tl1;split
 ·exact h0 _
 ·exact .inl rfl
section
variable {H0:Qa} (b:Nat) (c:Rr) (bs:List Int) (H:Qa) (h:Qha H0 H b c bs)
include h
theorem QDW (s slot:Int) (tv:Value) (tl:List Int) (hb:ByC H tv tl) (hz:∀z∈tl,0<=z∧z<256) (htl:(tl.length:Int)=tlF c.x.f) (h7:slot=7->0<=QC c.x.f.slots 7):Qh prog Zv [.pointer (some ⟨b,0,none⟩),.int .i64 s,.int .i64 slot,.int .i64 c.low,tv] H (QkW H (QtP c s slot tl).cells):=by
 refine Qgb λhw=>?_;obtain⟨hba,a,cap,rfl,hc1,hc2⟩:=id hb;obtain⟨R,hR⟩:∃R,R=QtP c s slot tl:=⟨_,rfl⟩;rw[<- hR];unfold QtP at hR;have hlt:=hw.lt h.at_;have hne:(b=H.next)=False:=by simp;omega
 have hx:=(Ext.refl H).push (.cells [.int .i64 0,.int .i64 0,.int .i64 0,.int .i64 0,.int .i64 0,.int .i64 0,.int .i64 0,.int .i64 0,.int .i64 0,.int .i64 0,.int .i64 0] Qe false);have hg:(H.push (.cells [.int .i64 0,.int .i64 0,.int .i64 0,.int .i64 0,.int .i64 0,.int .i64 0,.int .i64 0,.int .i64 0,.int .i64 0,.int .i64 0,.int .i64 0] Qe false)).get H.next=some (.cells [.int .i64 0,.int .i64 0,.int .i64 0,.int .i64 0,.int .i64 0,.int .i64 0,.int .i64 0,.int .i64 0,.int .i64 0,.int .i64 0,.int .i64 0] Qe false):=by rw[Qi,Lc rfl]
 have hw1:=hw.push (.cells [.int .i64 0,.int .i64 0,.int .i64 0,.int .i64 0,.int .i64 0,.int .i64 0,.int .i64 0,.int .i64 0,.int .i64 0,.int .i64 0,.int .i64 0] Qe false);simp only[VP,Qb,simprocAttr];generalize Qa.push H _=H1 at *;have hc:H1.get b=some (.cells c.dc Qc1 false):=(hx.get b hlt).trans h.at_;have hbn:b<H1.next:=hw1.lt hc;have sd:∀a:Ar,a.cells++List.drop a.cells.length [Value.int .i64 0,.int .i64 0,.int .i64 0,.int .i64 0,.int .i64 0,.int .i64 0,.int .i64 0,.int .i64 0,.int .i64 0,.int .i64 0,.int .i64 0]=a.cells:=λa=>Na _;have fin:∀H',Ext H H'->∀a:Ar,R=a->Ret H (QkW H R.cells) (.agg a.cells.toArray) H':=λH' hx' a e=>Ret.ext hw hx' ⟨by rw[e],_,rfl⟩;cases z6:slot==6 with
 | true=>
  rw[Lc z6]at hR;simp only[Qb,simprocAttr];refine(QzX s H1).thenW ?_;rintro _ _ hn hw2 ⟨rfl,k,rfl⟩;simp only[Qb,simprocAttr,W3,hg,Qz];exact⟨⟨rfl,Lb _,rfl⟩,Lb 11,fin _ ((hx.up (show _<=k from hn)).set (Lb _) _) _ hR⟩
 | false=>
 rw[Le (by rw[z6];decide)]at hR;simp only[J3,Qb,simprocAttr];cases z1:slot==1 with
 | true=>
  rw[Lc z1]at hR;simp only[KY,Qb,simprocAttr,hc,QH7,QDR,QId];generalize IntKind.i64.wrap (c.seen.fld+IntKind.i64.wrap (8 * c.r))=n at *;refine(Qh6 s n c.rex H1).thenW ?_;rintro _ _ hn0 _ ⟨rfl,rfl⟩;simp only[Qb,simprocAttr];refine(Qlm _ _ _).thenW ?_;rintro _ _ hn hw2 ⟨rfl,k,rfl⟩;rw[Qk9];simp only[Qb,simprocAttr,W3,hg,Qz];exact⟨⟨rfl,Lb _,rfl⟩,Lb 11,fin _ ((hx.up (show _<=k from hn)).set (Lb _) _) _ hR⟩
 | false=>
 rw[Le (by rw[z1];decide)]at hR;simp only[J2,Qb,simprocAttr];cases z3:slot==3 with
 | true=>
  rw[Lc z3]at hR;simp only[KZ,Qb,simprocAttr,hc,QHr];refine⟨hbn,(Qh6 s c.v true H1).thenW ?_⟩;rintro _ _ hn0 _ ⟨rfl,rfl⟩;simp only[Qb,simprocAttr,hc,QHr];refine⟨λ_ _=>rfl,rfl,?_⟩;refine(Qlm _ _ _).thenW ?_;rintro _ _ hn hw2 ⟨rfl,k,rfl⟩;rw[Qk9];simp only[Qb,simprocAttr,W3,hg,Qz];exact⟨⟨rfl,Lb _,rfl⟩,Lb 11,fin _ ((hx.up (show _<=k from hn)).set (Lb _) _) _ hR⟩
 | false=>
 rw[Le (by rw[z3];decide)]at hR;simp only[J1,Qb,simprocAttr];cases z4:slot==4 with
 | true=>
  rw[Lc z4]at hR;simp only[K1,Qb,simprocAttr,hc,QHq,QDR];generalize IntKind.i64.wrap (c.low+IntKind.i64.wrap (8 * c.bb))=n at *;refine(Qh6 s n c.rex H1).thenW ?_;rintro _ _ hn0 _ ⟨rfl,rfl⟩;simp only[Qb,simprocAttr];refine(Qlm _ _ _).thenW ?_;rintro _ _ hn hw2 ⟨rfl,k,rfl⟩;rw[Qk9];simp only[Qb,simprocAttr,W3,hg,Qz];exact⟨⟨rfl,Lb _,rfl⟩,Lb 11,fin _ ((hx.up (show _<=k from hn)).set (Lb _) _) _ hR⟩
 | false=>
 rw[Le (by rw[z4];decide)]at hR;simp only[JZ,Qb,simprocAttr];have ht1:=QtQ c.x.f;have hlen:tlF c.x.f=bif decide (0<=QC c.x.f.slots 7) then tl1 c.x.f+1 else tl1 c.x.f:=rfl
 cases z7:slot==7 with
 | true=>
  rw[Lc z7]at hR;have h7':=h7 (eq_of_beq z7);rw[Lp h7']at hlen;have hlen:tlF c.x.f=tl1 c.x.f+1:=hlen;have hl1:1<=tl.length∧tl.length<=9:=by omega
  obtain⟨a',c',e',hby⟩:=hba;cases e';obtain⟨bb,o,e,ro,cs,rfl,hgb,hcs⟩:=hby (by omega);have g1:=hcs (tl.length - 1) (by omega);have hgb':H1.get bb=some (.cells cs e ro):=(hx.get bb (hw.lt hgb)).trans hgb;have e1:IntKind.i64.wrap ((tl.length:Int) - 1)=((tl.length - 1:Nat):Int):=by rw[w64 (by unfold I64;omega)];omega
  have c1:(0:Int)<=((tl.length - 1:Nat):Int)∧((tl.length - 1:Nat):Int)<tl.length:=by omega
  have c3:((tl.length - 1:Nat):Int).toNat=tl.length - 1:=LG _;generalize tl.getD (tl.length - 1) 0=y at *;have eq:IntKind.i64.wrap ((IntKind.i64.wrap y).tdiv 16)=q16 y:=rfl;simp only[K2,Qb,simprocAttr,hc,Qp,e1,c1,c3,hgb',g1,eq];generalize q16 y=n at *;refine(Qh6 s n true H1).thenW ?_;rintro _ _ hn0 _ ⟨rfl,rfl⟩;simp only[Qb,simprocAttr];refine(Qlm _ _ _).thenW ?_;rintro _ _ hn hw2 ⟨rfl,k,rfl⟩;rw[Qk9];simp only[Qb,simprocAttr,W3,hg,Qz];exact⟨⟨rfl,Lb _,rfl⟩,Lb 11,fin _ ((hx.up (show _<=k from hn)).set (Lb _) _) _ hR⟩
 | false=>
 rw[Le (by rw[z7];decide)]at hR;simp only[JY,Qb,simprocAttr];cases z2:slot==2 with
 | true=>
  rw[Lc z2]at hR;simp only[K5,Qb,simprocAttr,hc,QF8,Ft];cases zr:decide (0<=c.seen.reg) with
  | true=>
   rw[Lc zr]at hR;simp only[K4,Qb,simprocAttr,hc,QF8,QDR];refine⟨hbn,(Qh6 s c.seen.reg c.rex H1).thenW ?_⟩;rintro _ _ hn0 _ ⟨rfl,rfl⟩;simp only[Qb,simprocAttr,hc,QF8];refine⟨λ_ _=>rfl,rfl,?_⟩;refine(Qlm _ _ _).thenW ?_;rintro _ _ hn hw2 ⟨rfl,k,rfl⟩;rw[Qk9];simp only[Qb,simprocAttr,W3,hg,Qz];exact⟨⟨rfl,Lb _,rfl⟩,Lb 11,fin _ ((hx.up (show _<=k from hn)).set (Lb _) _) _ hR⟩
  | false=>
   rw[Le (by rw[zr];decide)]at hR;simp only[K3,Qb,simprocAttr,hc,QIe];refine⟨by rw[Qaw];decide,⟨rfl,Lb _,rfl⟩,(QBZ s _).thenW ?_⟩;rintro _ _ hn0 hw2 ⟨rfl,rfl⟩;have sm:∀l:List Value,l.length=7->c.seen.m.cells++List.drop c.seen.m.cells.length l=c.seen.m.cells:=λl h=>by rw[NK (by rw[h];exact Lb 7),Na]
   rw[sm _ rfl];generalize hH2:Qa.set _ H1.next _=H2;have hx2:Ext H1 H2:=by rw[<- hH2];exact((Ext.refl _).push _).set (Lb _) _
   have hg2:H2.get H1.next=some (.cells c.seen.m.cells Qq false):=by rw[<- hH2,Qm,Lc rfl]
   have hgt:H.next<H1.next:=hw1.lt hg;have hg3:=(hx2.get _ hgt).trans hg;have hne1:H.next≠H1.next:=Nat.ne_of_lt hgt;clear hH2;have lm:c.seen.m.cells.length=7:=rfl;have tm:List.take 6 c.seen.m.cells++(Value.int .i64 (szD s)::List.drop 7 c.seen.m.cells)=({c.seen.m with sz:=szD s}:Mm).cells:=rfl;have t7:List.take 7 ({c.seen.m with sz:=szD s}:Mm).cells=({c.seen.m with sz:=szD s}:Mm).cells:=rfl;simp only[Qb,simprocAttr,hg2,lm,tm,t7,Qm,Lc];refine⟨Lb 7,?_⟩;have lM:({c.seen.m with sz:=szD s}:Mm).cells.length=7:=rfl;have aM:[Value.int .i64 2,.int .i64 0,.int .i64 0]++(({c.seen.m with sz:=szD s}:Mm).cells++[.int .i64 0])=(Ar.cells ⟨2,⟨0,0⟩,{c.seen.m with sz:=szD s},0⟩):=rfl;simp only[lM,Qb,simprocAttr,Qm,Le hne1,hg3,Lc,Qz];exact⟨⟨rfl,Lb 8,rfl⟩,Lb 8,fin _ (((hx.trans hx2).set (Nat.le_of_lt hgt) _).set (Lb _) _) _ hR⟩
 | false=>
 rw[Le (by rw[z2];decide)]at hR;simp only[Qb,simprocAttr];have last:∀ (A:Env) H' (v:Value) (l:List Int),Ext H H'->H'.get H.next=some (.cells [.int .i64 0,.int .i64 0,.int .i64 0,.int .i64 0,.int .i64 0,.int .i64 0,.int .i64 0,.int .i64 0,.int .i64 0,.int .i64 0,.int .i64 0] Qe false)->A 1=.int .i64 s->A 4=v->A 10=.pointer (some ⟨H.next,0,none⟩)->QbC H' v l->(l.length=0∨l.length=1∨l.length=2∨l.length=4∨l.length=8)->(∀z∈l,0<=z∧z<256)->tlX c.x.f tl=l->Qn prog YK ⟨Rt prog Qag H (QkW H R.cells),X2⟩ (Rt prog Qag H (QkW H R.cells)) A H':=by
  intro A H' v l hx' hg' r1 r4 r10 hb' hl' hz' hl;rw[hl]at hR;have hor:(s==26||s==27)=bif s==26 then true else s==27:=by cases s==26<;>rfl
  rw[hor]at hR;clear hor;simp only[YK,Qb,simprocAttr,r1];have qn:=Qxf v l H' hb' hl' hz';cases z26:s==26 with
  | true=>
   rw[z26]at hR;rw[Lc (show(bif true then true else s==27)=true from rfl)]at hR;simp only[Qb,simprocAttr,L8,r4,r10];refine qn.thenW ?_;rintro _ _ hn2 hw2 ⟨rfl,rfl⟩;simp only[Qb,simprocAttr,r10,hg',Qz];exact fin _ (hx'.set (Lb _) _) _ hR
  | false=>
   rw[z26]at hR;simp only[Qb,simprocAttr,LM,r1];cases z27:s==27 with
   | true=>
    rw[Lc (by rw[Ls];exact z27)]at hR;simp only[Qb,simprocAttr,r4,r10];refine qn.thenW ?_;rintro _ _ hn2 hw2 ⟨rfl,rfl⟩;simp only[Qb,simprocAttr,r10,hg',Qz];exact fin _ (hx'.set (Lb _) _) _ hR
   | false=>
    rw[Le (by rw[Ls,z27];decide)]at hR;simp only[Qb,simprocAttr,r4,r10];refine qn.thenW ?_;rintro _ _ hn2 hw2 ⟨rfl,rfl⟩;simp only[Qb,simprocAttr,r10,hg',Qz];exact fin _ (hx'.set (Lb _) _) _ hR
 simp only[KX,Qb,simprocAttr];refine(Qnu b c bs H1 (h.only ((Wg.refl h.at_).ext hw hx) rfl rfl h.p0) 7).thenW ?_;rintro _ _ hn hw2 ⟨rfl,k,rfl⟩;have hx3:=hx.up (show _<=k from hn);have hb3:QbC (H1.up k) (.slice a tl.length cap) tl:=hba.ext hw hx3;have hg3:=(W3 H1 k H.next).trans hg;simp only[Qb,simprocAttr];cases z:decide (0<=QC c.x.f.slots 7) with
 | false=>
  rw[z]at hlen;have hlen:tlF c.x.f=tl1 c.x.f:=hlen;simp only[Qb,simprocAttr];refine last _ _ (.slice a tl.length cap) tl hx3 hg3 ?_ ?_ ?_ hb3 (by omega) hz (Le (Ll z))
  all_goals simp only[Qg,simprocAttr]
 | true=>
  rw[z]at hlen;have hlen:tlF c.x.f=tl1 c.x.f+1:=hlen;have hl1:1<=tl.length∧tl.length<=9:=by omega
  have e1:IntKind.i64.wrap ((tl.length:Int) - 1)=((tl.length - 1:Nat):Int):=by rw[w64 (by unfold I64;omega)];omega
  obtain⟨a',c',es,hs⟩:=Qw5 hb3 ⟨hc1,hc2⟩ (p:=0) (n:=tl.length - 1) (by omega);have es':ZJ 1 (.slice a tl.length cap) none (some ((tl.length - 1:Nat):Int)) none=some (.slice a' (tl.length - 1) c'):=by rw[LP]at es;exact es
  simp only[Qb,simprocAttr,Qp,e1];refine⟨_,es',?_⟩;rw[Lw]at hs;refine last _ _ (.slice a' (tl.length - 1) c') (tl.take (tl.length - 1)) hx3 hg3 ?_ ?_ ?_ hs (by rw[Sb];omega) (λz hz'=>hz z (List.mem_of_mem_take hz')) (Lc (Lg z))
  all_goals simp only[Qg,simprocAttr]
end
theorem Qoj (x:Int):∀ (l:List Int) (k:Nat),x∈l->0<=QjA l x k
 | [],_,h=>by cases h
 | y::l,k,h=>by
  unfold QjA;split
  ·omega
  ·rename_i hne;refine Qoj x l (k+1) ?_;rcases LK.1 h with h | h
   ·exact absurd h hne
   ·exact h
def Qkb (c:Rr) (tl:List Int):List Ar:=(List.range c.x.f.shapes.length).map λk=>QtP c (c.x.f.shapes.getD k 0) (c.x.f.slots.getD k 0) tl
theorem QzY (c:Rr) (tl:List Int) (k:Nat) (h:k<c.x.f.shapes.length):(Qkb c tl).take (k+1)=(Qkb c tl).take k++[QtP c (c.x.f.shapes.getD k 0) (c.x.f.slots.getD k 0) tl]:=by
 unfold Qkb;rw[<- List.map_take,<- List.map_take,List.take_range,List.take_range,BC (by omega),BC (by omega),R0,N6];rfl
theorem dc0 (c:Rr):c.dc[0]? = some (.int .i64 c.x.f.op):=rfl
section
variable {H0:Qa} (b:Nat) (c:Rr) (bs:List Int) (H:Qa) (h:Qha H0 H b c bs)
include h
theorem QB0 (tv:Value) (tl:List Int) (hb:ByC H tv tl) (hz:∀z∈tl,0<=z∧z<256) (htl:(tl.length:Int)=tlF c.x.f):Qh prog Zd [.pointer (some ⟨b,0,none⟩),.int .i64 c.low,tv] H λu H'=>∃v',u=.agg #[.int .i64 c.x.f.op,v']∧Ext H H'∧XJ H' v' (Qkb c tl):=by
 refine Qfj λhw=>?_;have hlt:=hw.lt h.at_;have hsl:c.x.f.shapes.length=c.x.f.slots.length:=h.ok.len;have fmH:=h.fmH;obtain⟨sa,sc,se,ss⟩:=id fmH.2.2.1;obtain⟨ta,tc,te,ts⟩:=id fmH.2.2.2;have hsv:c.dc[1]? = some (.slice sa c.x.f.shapes.length sc):=by rw[dc1,se]
 have htv:c.dc[2]? = some (.slice ta c.x.f.slots.length tc):=by rw[<- te];rfl
 have hne:(b=H.next)=False:=by simp;omega
 have h7:∀k,k<c.x.f.slots.length->c.x.f.slots.getD k 0=7->0<=QC c.x.f.slots 7:=λk hk e=>Qoj 7 _ _ (by rw[<- e,LX,La hk];exact Nb hk);have hb5:=fmH.1;simp only[GQ,Qb,simprocAttr,h.at_,hne,dc0,LN];have hn1:H.next<=H.next+1:=by omega
 generalize hH1:Qa.set (Qa.push (Qa.push H _) _) _ _=H1;have hx0:Ext H (H.push (.cells [.int .i64 0,.slice none 0 0] Qd false)):=(Ext.refl H).push _;have hx1:Ext H H1:=by rw[<- hH1];exact(hx0.push _).set hn1 _
 have hw1:H1.Wf:=by rw[<- hH1];exact((hw.push _).push _).set ((Qi _ _ _).trans (Lc rfl)) _
 have gt:H1.get H.next=some (.cells [.int .i64 0,.slice none 0 0] Qd false):=by rw[<- hH1,Qm,Le (by omega),Qi,Le (show ¬H.next=(Qa.push H _).next from Nat.ne_of_lt (Rq _)),Qi,Lc rfl]
 have gi:H1.get (H.next+1)=some (.cells [.int .i64 c.x.f.op,.slice none 0 0] Qd false):=by rw[<- hH1,Qm,Lc rfl]
 have nx1:H1.next=H.next+2:=by rw[<- hH1];rfl
 clear hH1;refine QE (λm A' H'=>∃ (i:Nat) (v:Value),i<=c.x.f.shapes.length∧m=c.x.f.shapes.length - i∧A' 0=.pointer (some ⟨b,0,none⟩)∧A' 1=.int .i64 c.low∧A' 2=tv∧A' 6=.pointer (some ⟨H.next,0,none⟩)∧A' 7=.pointer (some ⟨H.next+1,0,none⟩)∧A' 8=.int .i64 i∧H'.Wf∧H1.next<=H'.next∧Ext H H'∧H'.get H.next=some (.cells [.int .i64 0,.slice none 0 0] Qd false)∧H'.get (H.next+1)=some (.cells [.int .i64 c.x.f.op,v] Qd false)∧Qmy H1 H' v ((Qkb c tl).take i)) c.x.f.shapes.length ?_ ?_
 ·refine⟨0,.slice none 0 0,L7 _,by omega,?_,?_,?_,?_,?_,?_,hw1,Lb _,hx1,gt,gi,.inl ⟨rfl,rfl⟩⟩
  all_goals simp only[Qg,simprocAttr]
  all_goals rfl
 ·rintro m A' H' ⟨i,v,hi,rfl,r0,r1,r2,r6,r7,r8,hw',hn',hx',gt',gi',hacc⟩;have hc':=(hx'.get b hlt).trans h.at_;simp only[JX,Qb,simprocAttr,r0,r8,hc',hsv,Qp]
  by_cases h3:i<c.x.f.shapes.length
  ·have h3':(i:Int)<c.x.f.shapes.length:=by omega
   have htk:=QzY c tl i h3;obtain⟨b1,e1,ro1,rfl,hb1⟩:=ss (by omega);obtain⟨b2,e2,ro2,rfl,hb2⟩:=ts (by omega);have hb1':=(hx'.get b1 (hw.lt hb1)).trans hb1;have hb2':=(hx'.get b2 (hw.lt hb2)).trans hb2;have d1:(0:Int)<=i∧(i:Int)<c.x.f.shapes.length:=by omega
   have d2:(0:Int)<=i∧(i:Int)<c.x.f.slots.length:=by omega
   have d3:(i:Int).toNat=i:=by omega
   have g1:=XQ (l:=c.x.f.shapes) (i:=i) (by omega);have g2:=XQ (l:=c.x.f.slots) (i:=i) (by omega);have h7':=h7 i (by omega);generalize c.x.f.shapes.getD i 0=s at *;generalize c.x.f.slots.getD i 0=sl at *;have ei:IntKind.i64.wrap ((i:Int)+1)=((i+1:Nat):Int):=by rw[w64 (by unfold I64;omega)];omega
   simp only[h3',Nf,JW,Qb,simprocAttr,r0,r1,r2,r7,r8,d1,d2,d3,hb1',g1,gi',hc',hsv,htv,hb2',g2];refine⟨hacc.below hw',?_⟩;have oc':=(Wg.refl h.at_).ext hw hx';refine(QDW b c bs H' (h.only oc' rfl rfl h.p0) s sl tv tl (hb.ext hw hx') hz htl h7').thenW ?_;rintro _ _ hn4 hw4 ⟨rfl,k4,rfl⟩;have hk4:H'.next<=k4:=hn4;have hx4:Ext H' (H'.up k4):=(Ext.refl H').up hk4;have ha4:=hacc.ext hw' hx4;have hx5:=hx'.trans hx4;have gt4:=(hx4.get _ (hw'.lt gt')).trans gt';have gi4:=(hx4.get _ (hw'.lt gi')).trans gi';have hm4:H1.next<=(H'.up k4).next:=N8 hn' hk4;refine⟨hx4.eqB,?_⟩;generalize H'.up k4=H4 at *;generalize QtP c s sl tl=x at *;have tk:List.take 11 x.cells=x.cells:=rfl;have xl:x.cells.length=11:=rfl;simp only[Qb,simprocAttr,r7,r8,xl,tk];have hx5':Ext H4 (H4.push (.cells x.cells Qe false)):=(Ext.refl H4).push _;have hw5:=hw4.push (.cells x.cells Qe false);have gt5:=(hx5'.get _ (hw4.lt gt4)).trans gt4;have gi5:=(hx5'.get _ (hw4.lt gi4)).trans gi4;have hx6:=hx5.trans hx5';have ha5:=ha4.ext hw4 hx5';have hlen:((Qkb c tl).take i).length<=100000:=by rw[Sb];omega
   have hbl:=ha4.below hw4;have hn5:H1.next<=(H4.push (.cells x.cells Qe false)).next:=N8 hm4 (Nat.le_succ _);refine ha5.app hn5 hw5 hlen (b1:=H4.next) (by rw[Qi,Lc rfl]) (λa l cc e=>?_) ?_
   ·rcases ha4 with⟨e2,_⟩ | ⟨b4,e2,_,hg4,_⟩
    ·rw[e2]at e;cases e
    ·rw[e2]at e;cases e;have:=hw4.lt hg4;show b4≠H4.next;omega
   ·intro v' H6 hw6 hn6 ha6 hfr hsame;have gt6:=(hsame H.next (by omega)).trans gt5;have gi6:=(hsame (H.next+1) (by omega)).trans gi5;have hx7:Ext H H6:=⟨N8 hx6.next hn6,λid hid=>by rw[hsame id (by omega)];exact hx6.get id hid⟩;rw[<- htk]at ha6;obtain⟨a',l',cc',rfl⟩:∃a' l' cc',v'=.slice a' l' cc':=by
     rcases ha6 with⟨rfl,_⟩ | ⟨b6,rfl,_⟩
     ·exact⟨_,_,_,rfl⟩
     ·exact⟨_,_,_,rfl⟩
    simp only[Qb,simprocAttr,r7,r8,gi6,ei];refine⟨_,?_,i+1,_,h3,rfl,?_,?_,?_,?_,?_,?_,hw6.set gi6 _,?_,hx7.set hn1 _,?_,?_,ha6.put (λa l cc e=>?_) _⟩
    ·omega
    all_goals (try simp only[Qg,simprocAttr,r0,r1,r2,r6,r7])
    ·exact N8 hn5 hn6
    ·rw[Qm,Le (show ¬H.next=H.next+1 by omega)];exact gt6
    ·rw[Qm,Lc rfl]
    ·have:=hfr a l cc e;omega
  ·have h3':¬ (i:Int)<c.x.f.shapes.length:=by omega
   obtain rfl:i=c.x.f.shapes.length:=by omega
   simp only[h3',NE,Qb,simprocAttr];have hall:(Qkb c tl).take c.x.f.shapes.length=Qkb c tl:=LF (by unfold Qkb;rw[Nn,BO];exact Lb _);rw[hall]at hacc;obtain⟨a',l',cc',rfl⟩:∃a' l' cc',v=.slice a' l' cc':=by
    rcases hacc with⟨rfl,_⟩ | ⟨b6,rfl,_⟩
    ·exact⟨_,_,_,rfl⟩
    ·exact⟨_,_,_,rfl⟩
   simp only[Qb,simprocAttr,r6,r7,gi',gt',QeD];refine .mk (hx'.set (Lb _) _).next ⟨_,rfl,hx'.set (Lb _) _,(hacc.put (i:=H.next) (λa l cc e=>?_) _).at⟩;rcases hacc with⟨e2,_⟩ | ⟨b4,e2,hb4,_,_⟩
   ·rw[e2]at e;cases e
   ·rw[e2]at e;cases e;show H.next≠b4;omega
end
theorem QB1 {x:Lf} {H:Qa} (hw:H.Wf) (hx:x.At H):∃H1,H.push (.cells x.cells Qc false)=H1∧H1.get H.next=some (.cells x.cells Qc false)∧Ext H H1∧H1.Wf∧x.At H1∧H1.next=H.next+1:=
 ⟨_,rfl,by rw[Qi,Lc rfl],(Ext.refl H).push _,hw.push _,hx.ext hw ((Ext.refl H).push _),rfl⟩
theorem QsK (x:Lf) (k:Int) (H:Qa) (hx:x.At H):Qh prog Jn [.agg x.cells.toArray,.int .i64 k] H λu H'=>u=.bool (decide (0<=QC x.f.slots k))∧∃m,H'=H.up m:=by
 refine Qk2 λhw=>?_;have ec:(Value.agg x.cells.toArray).cells.toList=x.cells:=rfl;have e10:x.cells.take 10=x.cells:=rfl;have l10:10<=x.cells.length:=Lb _;obtain⟨H1,e1,g1,x1,w1,a1,n1⟩:=QB1 hw hx;simp only[Qec,ec,Qb,simprocAttr,e1,g1,Lw,e10];refine⟨l10,?_⟩;refine(ZT x k H1 a1).thenW ?_;rintro _ _ hn hw2 ⟨rfl,m,rfl⟩;simp only[Qb,simprocAttr,Qj3];exact .ext hw (x1.up hn) ⟨rfl,_,rfl⟩
theorem Qvo (x:Lf) (H:Qa) (hx:x.At H):Qh prog Gl [.agg x.cells.toArray] H λu H'=>u=.bool (decide (0<=QC x.f.slots 2))∧∃m,H'=H.up m:=by
 refine Qi0 λhw=>?_;have ec:(Value.agg x.cells.toArray).cells.toList=x.cells:=rfl;have e10:x.cells.take 10=x.cells:=rfl;have l10:10<=x.cells.length:=Lb _;obtain⟨H1,e1,g1,x1,w1,a1,n1⟩:=QB1 hw hx;simp only[QcT,ec,Qb,simprocAttr,e1,g1,Lw,e10];refine⟨l10,?_⟩;refine(QsK x 2 H1 a1).thenW ?_;rintro _ _ hn hw2 ⟨rfl,m,rfl⟩;simp only[Qb,simprocAttr,Qh3];exact .ext hw (x1.up hn) ⟨rfl,_,rfl⟩
/-! ### Of numbers -/
theorem Qvp (s:Int) (H:Qa):Qh prog Gm [.int .i64 s] H λu H'=>u=.int .i64 (tl0 s)∧H'=H:=by
 refine Qi2 λhw=>?_;simp(disch:=(first | omega | (simp only[hnP];try omega))) only[QcU,Yr,Ys,Yt,Yu,Qk,simprocAttr,JM]
 repeat' (first
   | (refine Qo (λh=>?_) (λh=>?_)<;>(try simp only[Lr,Lu]at h)<;>simp(disch:=(first | omega | (simp only[hnP];try omega))) only[Yr,Ys,Yt,Yu,Qk,simprocAttr,JM,h])
   | (refine Qf (λh=>?_) (λh=>?_)<;>(try simp only[Lr,Lu]at h)<;>simp(disch:=(first | omega | (simp only[hnP];try omega))) only[Yr,Ys,Yt,Yu,Qk,simprocAttr,JM,h])
   | (with_reducible refine⟨by simp[Qs,plain],by omega,?_⟩)
   | (with_reducible refine⟨by simp[Qs,plain],?_⟩)
   | fail)
 all_goals refine .mk (Lb _) ⟨?_,rfl⟩
 all_goals simp only[L0,LC,Da]at *
 all_goals (unfold tl0;simp_all)
theorem Qxg (x:Lf) (H:Qa) (hx:x.At H):Qh prog Vc [.agg x.cells.toArray] H λu H'=>u=.int .i64 (tlF x.f)∧∃m,H'=H.up m:=by
 refine Qj0 λhw=>?_;have ex:(Value.agg x.cells.toArray).cells.toList=x.cells:=rfl;have hx0:Ext H (H.push (.cells x.cells Qc false)):=(Ext.refl H).push _;have hg0:(H.push (.cells x.cells Qc false)).get H.next=some (.cells x.cells Qc false):=by rw[Qi,Lc rfl]
 have hw0:=hw.push (.cells x.cells Qc false);obtain⟨l1,l2,h1,h2⟩:=hx.ext hw hx0;obtain⟨a1,c1,e1,s1⟩:=h1;have x1:x.cells[1]? = some (.slice a1 x.f.shapes.length c1):=by rw[<- e1];rfl
 have qs:=ZT x 5 _ (hx.ext hw hx0);have q7:=λm (hm:(H.push (.cells x.cells Qc false)).next<=m)=>QsK x 7 _ (hx.ext hw (hx0.up hm));have hs:tlF x.f=bif decide (0<=QC x.f.slots 7) then tl1 x.f+1 else tl1 x.f:=rfl
 have hs1:tl1 x.f=if(decide (0<=QC x.f.slots 5)&&decide (QC x.f.slots 5<x.f.shapes.length))=true then tl0 (x.f.shapes.getD (QC x.f.slots 5).toNat 0) else 0:=rfl
 have hle:=Qtv x.f;generalize tl1 x.f=n at *;generalize tlF x.f=r at *;generalize QC x.f.slots 7=i7 at *;simp only[Qdk,ex,Qb,simprocAttr,QG,Wu,x1];generalize H.push (.cells x.cells Qc false)=H1 at *;have last:∀ (A:Env) m,H1.next<=m->A 1=.pointer (some ⟨H.next,0,none⟩)->A 3=.int .i64 n->Qn prog JC ⟨Rt prog Qd9 H (λu H'=>u=.int .i64 r∧∃m,H'=H.up m),X2⟩ (Rt prog Qd9 H (λu H'=>u=.int .i64 r∧∃m,H'=H.up m)) A (H1.up m):=by
  intro A m hm a1' a3;simp only[JC,Qb,simprocAttr,a1',a3,hg0,QG,Wu];refine(q7 m hm).thenW ?_;rintro _ _ hn1 hw1 ⟨rfl,m2,rfl⟩;have hx2:=(hx0.up hm).up hn1;have en:IntKind.i64.wrap (n+1)=n+1:=w64 (by unfold I64;omega);cases z:decide (0<=i7) with
  | true=>
   rw[z]at hs;simp only[Qb,simprocAttr,z,a3,en,QcS];exact .ext hw hx2 ⟨by rw[hs];rfl,_,rfl⟩
  | false=>
   rw[z]at hs;simp only[Qb,simprocAttr,z,a3,QcS];exact .ext hw hx2 ⟨by rw[hs];rfl,_,rfl⟩
 refine qs.thenW ?_;rintro _ _ hn1 hw1 ⟨rfl,m1,rfl⟩;simp only[Wm]at hn1;generalize QC x.f.slots 5=i at *;simp only[Qb,simprocAttr,hg0,x1];refine Qo (λh=>?_) (λh=>?_)<;>simp only[Qb,simprocAttr,hg0,x1,h]
 ·have h0:0<=i:=Lg h;refine Qf (λh'=>?_) (λh'=>?_)<;>simp only[Qb,simprocAttr,hg0,x1]
  ·have h1:i<x.f.shapes.length:=Lg h';obtain⟨b1,e1',ro1,rfl,hb1⟩:=s1 (by omega);have g1:=XQ (l:=x.f.shapes) (i:=i.toNat) (by omega);rw[Lc (by rw[h,h'];rfl)]at hs1;generalize x.f.shapes.getD i.toNat 0=s at *;simp only[h0,h1,Qb,simprocAttr,hg0,x1,hb1,g1];refine(Qvp s _).thenW ?_;rintro _ _ _ _ ⟨rfl,rfl⟩;simp only[Qb,simprocAttr];refine last _ m1 hn1 ?_ ?_<;>simp only[Qg,simprocAttr,hs1]
  ·rw[Le (by rw[h,h'];decide)]at hs1;refine last _ m1 hn1 ?_ ?_<;>simp only[Qg,simprocAttr,hs1]
 ·rw[Le (by rw[h];simp)]at hs1;refine last _ m1 hn1 ?_ ?_<;>simp only[Qg,simprocAttr,hs1]
def mc (y:Int):Bool:=(IntKind.i64.wrap (y.tdiv 64)==QbE y 6)&&((IntKind.i64.wrap (y.tdiv 8)).tmod 8==YM (QbE y 3) 7)
theorem QF9:((List.range 256).all λy=>mc (y:Nat))=true:=by kernel_rfl
theorem QB2 {y:Int} (h0:0<=y) (h1:y<256):IntKind.i64.wrap (y.tdiv 64)=QbE y 6∧(IntKind.i64.wrap (y.tdiv 8)).tmod 8=YM (QbE y 3) 7:=by
 have h:=Li.1 QF9 y.toNat (LU.2 (by omega));rw[show((y.toNat:Nat):Int)=y by omega]at h;unfold mc at h;simp only[Lm,L0]at h;exact h
theorem QDX {f:Fm} (ok:DOk f) (hi:0<=QC f.slots 2):(decide (1<=rmF f)&&decide (rmF f<=14))=!(clF (f.shapes.getD (QC f.slots 2).toNat 0)==0)∧decide (7<=rmF f)=!decide (szF (f.shapes.getD (QC f.slots 2).toNat 0)<0):=by
 have h2:=ok.rm hi;have hp:=Qvn ok;unfold rmF at hp ⊢;rw[Lj (show ¬QC f.slots 2<0 by omega),Le (by decide)]at hp ⊢;rw[Nt]at hp;refine⟨?_,hp⟩;generalize f.shapes.getD (QC f.slots 2).toNat 0=s at *;have e:∀n:Fin 35,(((1:Int)<=(n:Nat)∧((n:Nat):Int)<=19)∨((n:Nat):Int)=34)->(decide (1<=((n:Nat):Int))&&decide (((n:Nat):Int)<=14))=!(clF (n:Nat)==0):=by decide
 have:=e ⟨s.toNat,by omega⟩;rw[show((⟨s.toNat,by omega⟩:Fin 35):Nat)=s.toNat from rfl,show((s.toNat:Nat):Int)=s by omega]at this;exact this h2
theorem QIf (c:Rr) (S:Sn):List.take 17 c.dc++(S.cells++List.drop 27 c.dc)=({c with seen:=S}:Rr).dc:=rfl
section
variable {H0:Qa} (b:Nat) (c:Rr) (bs:List Int) (H:Qa) (h:Qha H0 H b c bs)
include h
theorem QzZ (hcap:∃a cap,c.bv=.slice a bs.length cap∧bs.length<=cap∧cap<UNK) (hxb:(c.xx=0∨c.xx=1)∧(c.bb=0∨c.bb=1)):Qh prog YR [.pointer (some ⟨b,0,none⟩)] H (DP H b (Qcs bs c)):=by
 refine QeC λhw=>?_;have hc:=h.at_;have hd:=h.fmH;have ok:=h.ok;obtain⟨a,cap,hbv,hby⟩:=h.by_;have hbv':c.dc[10]? = some (.slice a bs.length cap):=by rw[Qr6,hbv]
 have hbc:ByC H c.bv bs:=⟨h.by_.ext h.wf h.hx,hcap⟩;have oc:=Wg.refl hc;have hp0:=h.p0;have ec:(Value.agg c.x.cells.toArray).cells.toList=c.x.cells:=rfl;have l10:10<=c.dc.length:=by rw[Qaw];decide
 obtain⟨R,hR⟩:∃R,R=Qcs bs c:=⟨_,rfl⟩;rw[<- hR];unfold Qcs at hR;have ret0:∀ (A:Env) (H':Qa) (n:Int) (c':Rr),A 2=.int .i64 n->Wg H H' b c'->R.1=n->(n=0->c'=R.2)->Rt prog Y7 H (DP H b R) A H':=λA H' n c' r2 ho hr hn=>by
  simp only[Qd8,r2];exact .mk ho.next ⟨by rw[hr],c',ho,λh=>hn (hr▸h)⟩
 simp only[KM,Qb,simprocAttr,hc,QtL];refine⟨l10,(Qvo c.x H hd).thenW ?_⟩;rintro _ _ hn hw2 ⟨rfl,k,rfl⟩;have ho:=oc.up (show _<=k from hn);simp only[Qb,simprocAttr];cases h2:decide (0<=QC c.x.f.slots 2) with
 | false=>
  have h2:=Ll h2;rw[Lc (by rw[Lv];omega)]at hR;simp only[Qb,simprocAttr,LM];refine ret0 _ _ 0 c ?_ ho (by rw[hR]) (λ_=>by rw[hR]);simp only[Qg,simprocAttr]
 | true=>
  have h2:=Lg h2;rw[Le (by rw[Lv];omega)]at hR;obtain⟨eb,epl⟩:=QDX ok h2;have qb:=λH' (ho:Wg H H' b c)=>QBS b c bs H' (h.only ho rfl rfl hp0);have qp:=λH' (ho:Wg H H' b c)=>QsJ b c bs H' (h.only ho rfl rfl hp0);rw[eb]at qb;rw[epl]at qp;unfold Qnl at hR;generalize c.x.f.shapes.getD (QC c.x.f.slots 2).toNat 0=s at *;have hcu:(H.up k).get b=some (.cells c.dc Qc1 false):=by rw[W3];exact hc
  simp only[JB,Qb,simprocAttr,L8,hcu,Qgp,hbv',Qp];cases h1:c.p==(bs.length:Int) with
  | true=>
   rw[Lc (by have:=eq_of_beq h1;omega)]at hR;simp only[Qb,simprocAttr];refine ret0 _ _ 9 c ?_ ho (by rw[hR]) (λh=>by cases h);simp only[Qg,simprocAttr]
  | false=>
   have h1:¬c.p=(bs.length:Int):=by simpa using h1
   rw[Le (by omega)]at hR;obtain⟨bb,o,cs,e,ro,cap',y,e10,hgb,hcs,hbn,hy,hy0,hy1⟩:=Qoi b c bs H h h1;have c1:(0:Int)<=c.p∧c.p<bs.length:=by omega
   have ey:IntKind.i64.wrap y=y:=w64 (by unfold I64;omega);obtain⟨t1,t2⟩:=QB2 hy0 hy1;have ebI:XI bs c.p=y:=by unfold XI;rw[<- hy];exact ey
   rw[ebI]at hR;have hgb':(H.up k).get bb=some (.cells cs e ro):=by rw[W3];exact hgb
   simp only[JA,Qb,simprocAttr,hcu,Qgp,dc6,e10,c1,hgb',hcs,ey,t1,t2,Ft];have hxk:Wg H (H.up k) b c:=ho;generalize hM:(QbE y 6==3)=M at *;generalize hz:decide (szF s<0)=Z at *;generalize hb2:(clF s==0)=B at *;generalize hd2:(YM (QbE y 3) 7==c.x.f.digit)=D at *;generalize decide ((0:Int)<=c.x.f.digit)=G at *;have hx0:Ext H (H.up k):=(Ext.refl H).up hn;have tail:∀ (A:Env) H',Ext H H'->A 0=.pointer (some ⟨b,0,none⟩)->R=(if((rdF bs c.p c.xx c.bb).2==0)=false then((rdF bs c.p c.xx c.bb).2,c) else(0,{c with seen:=(rdF bs c.p c.xx c.bb).1,p:=(rdF bs c.p c.xx c.bb).1.ends}))->Qn prog Yh ⟨Rt prog Y7 H (DP H b R),X2⟩ (Rt prog Y7 H (DP H b R)) A H':=by
    intro A H' hx' a0 hR;have hlt:=hw.lt hc;have ho':Wg H H' b c:=oc.ext hw hx';have hcm:H'.get b=some (.cells c.dc Qc1 false):=ho'.at_;have ep:c.p=((c.p.toNat:Nat):Int):=by omega
    have er:=Qyf bs h.byt h.len c.p.toNat c.xx c.bb (by omega) hxb.1 hxb.2;have qr:=Qw9 c.bv bs c.p.toNat c.xx c.bb H' (hbc.ext hw hx') h.len h.byt (by omega) hxb.1 hxb.2;rw[<- er,<- ep]at qr;generalize rdF bs c.p c.xx c.bb=S at *;simp only[Yh,Qb,simprocAttr,a0,hcm,Qr6,Qgp,QH8,QHq];refine qr.thenW ?_;rintro _ _ hn6 hw6 ⟨rfl,k6,rfl⟩;have ho6:Wg H (H'.up k6) b c:=ho'.up hn6;have hlt6:b<k6:=N5 hlt (N8 hx'.next hn6);have l1:(S.1.cells.all λx=>x.oneCell')=true:=rfl;have hS:(Value.agg S.1.cells.toArray).cells.toList=S.1.cells:=rfl;have l2:S.1.cells.length=10:=rfl;have sd:S.1.cells++List.drop S.1.cells.length [Value.int .i64 0,.int .i64 0,.int .i64 0,.int .i64 0,.int .i64 0,.int .i64 0,.int .i64 0,.int .i64 0,.int .i64 0,.int .i64 0]=S.1.cells:=Na _;simp only[Qb,simprocAttr];rw[sd];refine⟨⟨rfl,Lb _,rfl⟩,?_⟩;generalize hH2:Qa.set _ k6 _=H2;have hx2:Ext (H'.up k6) H2:=by rw[<- hH2];exact((Ext.refl _).push _).set (Lb _) _
    have hg2:H2.get k6=some (.cells S.1.cells QM false):=by rw[<- hH2,Qm,Lc rfl]
    have ho2:Wg H H2 b c:=ho6.ext hw6 hx2;have hc2:=ho2.at_;clear hH2;cases z:S.2==0 with
    | false=>
     rw[Lc z]at hR;simp only[Qb,simprocAttr,LM];refine ret0 _ _ S.2 c ?_ ho2 (by rw[hR]) (λhh=>by rw[hh]at z;cases z);simp only[Qg,simprocAttr]
    | true=>
     rw[Le (by rw[z];decide)]at hR;have e9:S.1.cells[9]? = some (.int .i64 S.1.ends):=rfl;have hne:k6≠b:=Nat.ne_of_gt hlt6;have t10:List.take 10 S.1.cells=S.1.cells:=rfl;simp only[Jz,Qb,simprocAttr,L8,hg2,hc2,a0,Qm,Le hne,Lc,t10,l2,Qaw,hS,e9,QIf];refine⟨rfl,ret0 _ _ 0 _ ?_ ((ho2.set {c with seen:=S.1}).set {c with seen:=S.1,p:=S.1.ends}) (by rw[hR]) (λ_=>by rw[hR])⟩;simp only[Qg,simprocAttr]
   repeat' (first
    | (refine Qo (λg=>?_) (λg=>?_)<;>(try simp only[Lr,Lu]at g)<;>simp only[Qb,simprocAttr,hcu,dc6,t1,t2,hM,hd2,g])
    | (refine Qf (λg=>?_) (λg=>?_)<;>(try simp only[Lr,Lu]at g)<;>simp only[Qb,simprocAttr,hcu,dc6,t1,t2,hM,hd2,g])
    | (refine(qb _ ho).thenW ?_;rintro _ _ hn hw2 ⟨rfl,k,rfl⟩;have ho:=ho.up (show _<=k from hn);have hx0:=hx0.up (show _<=k from hn);simp only[Qb,simprocAttr])
    | (refine(qp _ ho).thenW ?_;rintro _ _ hn hw2 ⟨rfl,k,rfl⟩;have ho:=ho.up (show _<=k from hn);have hx0:=hx0.up (show _<=k from hn);simp only[Qb,simprocAttr])
    | fail)
   all_goals first
    | (refine ret0 _ _ 4 c ?_ ho ?_ (λh=>by cases h)<;>first | (simp only[Qg,simprocAttr];done) | (rw[hR];clear tail ret0 qb qp h hR hM hz hb2 hd2 eb epl hcap hcs hbc hd hw2 t1 t2 ebI;simp_all;done))
    | (refine tail _ _ hx0 ?_ ?_<;>first | (simp only[Qg,simprocAttr];done) | (rw[hR];clear tail ret0 qb qp h hR hM hz hb2 hd2 eb epl hcap hcs hbc hd hw2 t1 t2 ebI;simp_all;done))
    | (exfalso;clear tail ret0 qb qp h hR hM hz hb2 hd2 eb epl hcap hcs hbc hd hw2 t1 t2 ebI;simp_all;done)
end
structure Bt (c:Rr):Prop where
 xx:c.xx=0∨c.xx=1
 bb:c.bb=0∨c.bb=1
 low:c.low=0
theorem Qyk (bs:List Int):∀ (n:Nat) (left:Int) (c:Rr),Bt c->Bt (QkX bs n left c).2
 | 0,_,_,h=>h
 | n+1,left,c,h=>by
  have go:∀i,Bt (if((XC bs c (VX i)).1==0)=true then QkX bs n (Qpx left (Y9 i)) (XC bs c (VX i)).2 else XC bs c (VX i)).2:=λi=>by
   split
   ·exact Qyk bs n _ _ ⟨h.xx,h.bb,h.low⟩
   ·exact⟨h.xx,h.bb,h.low⟩
  rw[QbY];split
  ·exact go 0
  ·split
   ·exact go 1
   ·split
    ·exact go 2
    ·exact h
theorem Qyl (bs:List Int):∀ (l:List UInt8) (c:Rr),Bt c->Bt (Qnm bs l c).2
 | [],_,h=>h
 | n::l,c,h=>by
  unfold Qnm;split
  ·exact Qyl bs l _ ⟨h.xx,h.bb,h.low⟩
  ·exact⟨h.xx,h.bb,h.low⟩
theorem Qym (n i k:Nat):Jl n i k=0∨Jl n i k=1:=by unfold Jl;split<;>simp
theorem QDY {bs:List Int} {c:Rr} (h:Bt c):Bt (QjW bs c).2:=by
 have he:∀c,Bt c->Bt (Qcr bs c).2:=λc h=>by
  unfold Qcr;split
  ·exact h
  ·split
   ·rw[QkV];exact⟨Qym _ _ _,Qym _ _ _,h.low⟩
   ·rw[QkV];exact h
 have hl:=Qyk bs 4 c.x.f.pre c h;unfold QjW Qo2;split
 ·unfold Qnn;split
  ·exact Qyl bs _ _ (he _ hl)
  ·exact he _ hl
 ·exact hl
theorem Qyn {y:Int} (k:Nat) (hk:0<(k:Int)) (h0:0<=y) (h1:y<256):IntKind.i64.wrap (1 - (IntKind.i64.wrap (y.tdiv k)).tmod 2)=0∨IntKind.i64.wrap (1 - (IntKind.i64.wrap (y.tdiv k)).tmod 2)=1:=by
 rw[Int.tdiv_eq_ediv_of_nonneg h0];have a0:=Int.ediv_nonneg h0 (Int.le_of_lt hk);have a1:=Int.ediv_le_self (k:Int) h0;rw[w64 (n:=y / (k:Int)) (by unfold I64;omega),BM a0,w64 (by unfold I64;omega)];omega
theorem Qyo {c:Rr} {r x m:Int} (h:Bt c) (hx:x=0∨x=1) (hm:m=0∨m=1):Bt (Qh5 c r x m).2:=by
 unfold Qh5;split
 ·exact⟨hx,hm,h.low⟩
 ·exact h
theorem Qvq {c:Rr} (y:Int) (h:Bt c):Bt (Qnv c y).2:=by
 unfold Qnv;split
 ·exact⟨h.xx,h.bb,h.low⟩
 ·exact h
theorem QDZ {bs:List Int} {c:Rr} (hz:∀z∈bs,0<=z∧z<256) (h:Bt c):Bt (Qr7 bs c).2:=by
 have hn:∀c:Rr,Bt c->Bt (nxP c):=λc h=>⟨h.xx,h.bb,h.low⟩;have b:=QeH hz;unfold Qr7;split
 ·exact h
 ·split
  ·unfold QzU;split
   ·exact hn _ h
   ·split
    ·exact hn _ h
    ·have:=Qyo (r:=IntKind.i64.wrap (1 - IntKind.i64.wrap ((bs.getD (nxP c).p.toNat 0).tdiv 128))) (hn _ (hn _ h)) (.inl rfl:(0:Int)=0∨(0:Int)=1) (.inl rfl:(0:Int)=0∨(0:Int)=1);unfold Qyi;split
     ·exact Qvq _ this
     ·exact this
  ·split
   ·unfold Qoh;split
    ·exact hn _ h
    ·have:=Qyo (r:=IntKind.i64.wrap (1 - IntKind.i64.wrap ((bs.getD (nxP c).p.toNat 0).tdiv 128))) (hn _ (hn _ h)) (Qyn 64 (by decide) (b (nxP c).p.toNat).1 (b (nxP c).p.toNat).2) (Qyn 32 (by decide) (b (nxP c).p.toNat).1 (b (nxP c).p.toNat).2);simp only;split
     ·exact hn _ h
     ·split
      ·exact hn _ h
      ·split
       ·exact hn _ h
       ·exact Qvq _ (hn _ this)
   ·exact h
def JP (bs:List Int) (c:Rr):Int×Rr:=bif c.x.f.vex then Qr7 bs c else QjW bs c
theorem QB3 {bs:List Int} {c:Rr} (hz:∀z∈bs,0<=z∧z<256) (h:Bt c):Bt (JP bs c).2:=by
 unfold JP;cases c.x.f.vex
 ·exact QDY h
 ·exact QDZ hz h
theorem Qpa (bs:List Int) (c:Rr) (ok:DOk c.x.f) (hp:c.p=0) (hby:∀z∈bs,0<=z∧z<256) (hl:bs.length<=1000000):Qrb (JP bs c) (Qe0 bs c):=by
 unfold JP Qe0;cases hv:c.x.f.vex
 ·exact⟨rfl,λ_=>rfl⟩
 ·exact QzW bs c ok hv hp hby hl
theorem Qz0 (bs:List Int) (c:Rr):(opF bs c).2.xx=c.xx∧(opF bs c).2.bb=c.bb:=by
 unfold opF;split
 ·exact⟨rfl,rfl⟩
 ·split<;>exact⟨rfl,rfl⟩
theorem QB4 {bs:List Int} (hz:∀z∈bs,0<=z∧z<256) (p:Nat) (x bb:Int) (hbb:bb=0∨bb=1) (h:(Qns bs p x bb).2=0):(0<=(Qns bs p x bb).1.reg↔(QY (bs.getD p 0)).1=3):=by
 obtain⟨y0,y1⟩:=QeH hz p;obtain⟨_,_,_,s4,s5,s6⟩:=Qog y0 y1;have dr:∀p n fld m,(Qgc bs p n fld m).2=0->(Qgc bs p n fld m).1.reg=-1:=λp n fld m h=>by
  unfold Qgc at h ⊢;split at h
  ·cases h
  ·rename_i hc;rw[Le hc]
 have sr:∀p md fld,(Qr5 bs p md fld x bb).2=0->(Qr5 bs p md fld x bb).1.reg=-1:=λp md fld h=>by
  unfold Qr5 at h ⊢;split at h
  ·cases h
  ·rename_i hc;rw[Le hc];simp only at h ⊢;split at h
   ·cases h
   ·rename_i hc2;rw[Le hc2];split at h
    ·rename_i hc3;rw[Lc hc3];exact dr _ _ _ _ h
    ·rename_i hc3;rw[Le hc3];exact dr _ _ _ _ h
 unfold Qns at h ⊢;generalize QY (bs.getD p 0)=s at *;split at h
 ·cases h
 ·rename_i h1;rw[Le h1];simp only at h ⊢;split at h
  ·rename_i h2;rw[Lc h2,sr _ _ _ h];simp only[Lm,Lr,LC,Da]at h2;exact⟨λh=>by omega,λh=>absurd h h2.1⟩
  ·rename_i h2;rw[Le h2];split at h
   ·cases h
   ·rename_i h3;rw[Le h3];split at h
    ·rename_i h4;rw[Lc h4];exact⟨λ_=>eq_of_beq h4,λ_=>by show 0<=s.2.2+8 * bb;omega⟩
    ·rename_i h4;rw[Le h4];have h4':¬s.1=3:=by simpa using h4
     split at h
     ·rename_i h5;rw[Lc h5,dr _ _ _ _ h];exact⟨λh=>by omega,λh=>absurd h h4'⟩
     ·rename_i h5;rw[Le h5,dr _ _ _ _ h];exact⟨λh=>by omega,λh=>absurd h h4'⟩
theorem QB5 {bs:List Int} {c:Rr} (hz:∀z∈bs,0<=z∧z<256) (hl:bs.length<=1000000) (hp:InB bs c.p) (hx:c.xx=0∨c.xx=1) (hbb:c.bb=0∨c.bb=1) (h:(Qcs bs c).1=0) (hi:0<=QC c.x.f.slots 2):
  (0<=(Qcs bs c).2.seen.reg->clF (c.x.f.shapes.getD (QC c.x.f.slots 2).toNat 0)≠0)∧((Qcs bs c).2.seen.reg<0->0<=szF (c.x.f.shapes.getD (QC c.x.f.slots 2).toNat 0)):=by
 have hat:=QDQ h hi;have ep:c.p=((c.p.toNat:Nat):Int):=by have:=hp.1;omega
 have hp2:=hp.2;have er:=Qyf bs hz hl c.p.toNat c.xx c.bb (by omega) hx hbb;rw[<- ep]at er;have hrr:=QB4 hz c.p.toNat c.xx c.bb hbb;rw[<- er]at hrr;obtain⟨y0,y1⟩:=QeH hz c.p.toNat;obtain⟨s1,_⟩:=Qog y0 y1;obtain⟨t1,_⟩:=QB2 y0 y1;have ey:XI bs c.p=bs.getD c.p.toNat 0:=by unfold XI;exact w64 (by unfold I64;omega)
 rw[ey]at hat;unfold Qcs at h ⊢;rw[Le (by simp;omega)]at h ⊢;split at h
 ·cases h
 ·rename_i h1;rw[Le h1];split at h
  ·cases h
  ·rename_i h2;rw[Le h2];split at h
   ·rename_i h3;simp only at h;rw[h]at h3;cases h3
   ·rename_i h3;rw[Le h3];have h0:(rdF bs c.p c.xx c.bb).2=0:=by simpa using h3
    have hr:=hrr h0;rw[<- s1,t1]at hr;show(0<=(rdF bs c.p c.xx c.bb).1.reg->_)∧((rdF bs c.p c.xx c.bb).1.reg<0->_);unfold Qnl at hat;rw[Lm]at hat;have hb:=hat.2;refine⟨λhg=>?_,λhg=>?_⟩
    ·rw[hr.1 hg]at hb;intro e;rw[e]at hb;cases hb
    ·have hn:¬QbE (bs.getD c.p.toNat 0) 6=3:=λe=>by have:=hr.2 e;omega
     rw[LC.2 hn]at hb;simp only[Ls,Lr,NY]at hb;omega
def cd8 (y:Int):Bool:=(IntKind.i64.wrap (IntKind.i64.wrap (y.tdiv 8) * 8)==y - y.tmod 8)&&(y.tmod 8==y % 8)&&(IntKind.i64.wrap (IntKind.u8.wrap (BitVec.ofInt IntKind.u8.bits y &&& BitVec.ofInt IntKind.u8.bits 7).toNat)==y % 8)
theorem QGa:((List.range 256).all λy=>cd8 (y:Nat))=true:=by kernel_rfl
theorem QGb {y:Int} (h0:0<=y) (h1:y<256):IntKind.i64.wrap (IntKind.i64.wrap (y.tdiv 8) * 8)=y - y % 8∧y.tmod 8=y % 8∧IntKind.i64.wrap (IntKind.u8.wrap (BitVec.ofInt IntKind.u8.bits y &&& BitVec.ofInt IntKind.u8.bits 7).toNat)=y % 8:=by
 have h:=Li.1 QGa y.toNat (LU.2 (by omega));rw[show((y.toNat:Nat):Int)=y by omega]at h;unfold cd8 at h;simp only[Lm,L0]at h;exact⟨by rw[h.1.1,h.1.2],h.1.2,h.2⟩
section
variable {H0:Qa} (b:Nat) (c:Rr) (bs:List Int) (H:Qa) (h:Qha H0 H b c bs)
include h
theorem QB6 (hz:c.low=0):Qh prog Zc [.pointer (some ⟨b,0,none⟩)] H λu H'=>∃low:Int,u=.tuple #[.int .i64 low,.int .i64 (opF bs c).1]∧∃c',Wg H H' b c'∧((opF bs c).1=0->c'=(opF bs c).2∧low=c'.low):=by
 refine Qfh λhw=>?_;have hc:=h.at_;obtain⟨a,cap,hbv,hby⟩:=h.by_;have hbv':c.dc[10]? = some (.slice a bs.length cap):=by rw[Qr6,hbv]
 have oc:=Wg.refl hc;have hp0:=h.p0;have hcode:=h.ok.code;have hc8:=h.ok.c8;obtain⟨R,hR⟩:∃R,R=opF bs c:=⟨_,rfl⟩;rw[<- hR];unfold opF at hR;have q4:∀ (H':Qa) (c':Rr),Wg H H' b c'->c'.x=c.x->c'.bv=c.bv->(0<=c'.p∧c'.p<=bs.length)->_:=λH' c' ho hx hb hp=>Qnu b c' bs H' (h.only ho hx hb hp) 4;have fin:∀ (A:Env) (H':Qa) (low n:Int) (c':Rr),A 2=.int .i64 low->A 3=.int .i64 n->Wg H H' b c'->R.1=n->(n=0->c'=R.2∧low=c'.low)->Rt prog Qf7 H (λu H'=>∃low:Int,u=.tuple #[.int .i64 low,.int .i64 R.1]∧∃c',Wg H H' b c'∧(R.1=0->c'=R.2∧low=c'.low)) A H':=λA H' low n c' r2 r3 ho hr hn=>by
  simp only[QeB,r2,r3];exact .mk ho.next ⟨low,by rw[hr],c',ho,λh=>hn (hr▸h)⟩
 simp only[GP,Qb,simprocAttr,hc,Qgp,hbv',Qp];cases h1:c.p==(bs.length:Int) with
 | true=>
  have h1:=eq_of_beq h1;have hr:R.1=9:=by
   rw[hR];split
   ·unfold XC Qlu;rw[Lc (by omega)]
   ·rw[Lc (by omega)]
  simp only[Qb,simprocAttr];refine fin _ H 0 9 c ?_ ?_ oc hr (λh=>by cases h)
  all_goals simp only[Qg,simprocAttr]
 | false=>
  have h1:¬c.p=(bs.length:Int):=by simpa using h1
  obtain⟨bb,o,cs,e,ro,cap',y,e10,hgb,hcs,hbn,hy,hy0,hy1⟩:=Qoi b c bs H h h1;have c1:(0:Int)<=c.p∧c.p<bs.length:=by omega
  have ey:IntKind.i64.wrap y=y:=w64 (by unfold I64;omega);obtain⟨t1,t2,t3⟩:=QGb hy0 hy1;have hl7:QrY bs c.p=y % 8:=by unfold QrY;rw[<- hy];exact t3
  have hex:∀n,Qlu bs c.p n=if(y==n)=false then(4,c.p) else(0,IntKind.i64.wrap (c.p+1)):=λn=>by
   unfold Qlu;rw[Le (by omega),<- hy,ey]
  have ho:=oc.set (nxP c);have hnp:=QmD b c bs H h oc h1;have hw1:=hw.set hc (.cells (nxP c).dc Qc1 false);have enx:({c with p:=IntKind.i64.wrap (c.p+1)}:Rr)=nxP c:=rfl;have g5:(nxP c).dc[5]? = some (.int .i64 c.x.f.code):=rfl;simp only[JV,Qb,simprocAttr,hc,Qgp,e10,c1,hgb,hcs,ey,Qaw,Qxa,enx];generalize Qa.set H b _=H1 at *;have hcx:=ho.at_;refine(q4 H1 (nxP c) ho rfl rfl hnp).thenW ?_;rintro _ _ hn hw2 ⟨rfl,k,rfl⟩;have ho2:=ho.up (show _<=k from hn);have hcu:(H1.up k).get b=some (.cells (nxP c).dc Qc1 false):=by rw[W3];exact hcx
  have q4':=q4 (H1.up k) (nxP c) ho2 rfl rfl hnp;rw[show(nxP c).x=c.x from rfl]at q4' ⊢;simp only[Qb,simprocAttr];cases h4:decide (0<=QC c.x.f.slots 4) with
  | true=>
   rw[h4]at q4';have h4:=Lg h4;have hc8:=hc8 h4;rw[Le (by simp;omega),Le (by omega),hl7]at hR;have ew:IntKind.i64.wrap (c.x.f.code+y % 8)=c.x.f.code+y % 8:=w64 (by unfold I64;omega);unfold XC at hR;rw[ew]at hR;simp only[hex]at hR;have heq:(y - y % 8==c.x.f.code)=(y==c.x.f.code+y % 8):=by rw[Ni];simp only[L0];omega
   simp only[Qb,simprocAttr,t1,hcu,g5,heq];cases hq:y==c.x.f.code+y % 8 with
   | true=>
    rw[hq,Le (by decide)]at hR;simp only[Qb,simprocAttr,t2];refine fin _ _ (y % 8) 0 {nxP c with low:=y % 8} ?_ ?_ ⟨ho2.next,ho2.get,ho2.at_⟩ (by rw[hR]) (λ_=>⟨by rw[hR];rfl,rfl⟩)
    all_goals simp only[Qg,simprocAttr]
   | false=>
    rw[hq,Lc rfl]at hR;simp only[YA,Qb,simprocAttr];refine q4'.thenW ?_;rintro _ _ hn2 hw3 ⟨rfl,k2,rfl⟩;have ho3:=ho2.up (show _<=k2 from hn2);simp only[Qb,simprocAttr];refine fin _ _ 0 4 (nxP c) ?_ ?_ ho3 (by rw[hR]) (λh=>by cases h)
    all_goals simp only[Qg,simprocAttr]
  | false=>
   rw[h4]at q4';have h4:=Ll h4;rw[Lc (by simp;omega)]at hR;unfold XC at hR;simp only[hex]at hR;simp only[YA,Qb,simprocAttr];refine q4'.thenW ?_;rintro _ _ hn2 hw3 ⟨rfl,k2,rfl⟩;have ho3:=ho2.up (show _<=k2 from hn2);have hcu2:((H1.up k).up k2).get b=some (.cells (nxP c).dc Qc1 false):=by rw[W3];exact hcu
   simp only[Qb,simprocAttr,hcu2,g5];cases hq:y==c.x.f.code with
   | true=>
    rw[hq,Le (by decide)]at hR;simp only[Qb,simprocAttr,L8];refine fin _ _ 0 0 (nxP c) ?_ ?_ ho3 (by rw[hR]) (λ_=>⟨by rw[hR];rfl,hz.symm⟩)
    all_goals simp only[Qg,simprocAttr]
   | false=>
    rw[hq,Lc rfl]at hR;simp only[Qb,simprocAttr,LM];refine fin _ _ 0 4 (nxP c) ?_ ?_ ho3 (by rw[hR]) (λh=>by cases h)
    all_goals simp only[Qg,simprocAttr]
end
def VZ (bs:List Int) (c:Rr):Int×Rr:=bif (JP bs c).1==0 then opF bs (JP bs c).2 else JP bs c
def Qhd (bs:List Int) (c:Rr):Int×Rr:=bif (VZ bs c).1==0 then Qcs bs (VZ bs c).2 else VZ bs c
def tlL (bs:List Int) (c:Rr):List Int:=(bs.drop c.p.toNat).take (tlF c.x.f).toNat
def Qvt (bs:List Int) (c:Rr):Dr:=
 if(bs.length:Int)<c.p+tlF c.x.f then Qgi 9
 else if(decide (0<=QC c.x.f.slots 7)&&!((bs.getD (c.p+tlF c.x.f - 1).toNat 0).tmod 16==0))=true then Qgi 4
 else QpB c.x.f.op (c.p+tlF c.x.f) (Qkb c (tlL bs c))
def byD (bs:List Int) (x:Lf) (bv:Value):Dr:=bif (Qhd bs (rd0 x bv)).1==0 then Qvt bs (Qhd bs (rd0 x bv)).2 else Qgi (Qhd bs (rd0 x bv)).1
theorem QCa {c:Rr} {tl:List Int} (hl:tl.length<=9) (hz:∀z∈tl,0<=z∧z<256) (ht:(tlX c.x.f tl).length<=8):∀a∈Qkb c tl,I64 a.n:=by
 have z:I64 0:=by unfold I64;omega
 have o:I64 1:=by unfold I64;omega
 have hn:I64 (Qav (tlX c.x.f tl)):=by
  have hm:∀z∈tlX c.x.f tl,0<=z∧z<256:=λz hz'=>by
   unfold tlX at hz';split at hz'
   ·exact hz z (List.mem_of_mem_take hz')
   ·exact hz z hz'
  obtain⟨h1,h2⟩:=Qoe hm
  by_cases h8:(tlX c.x.f tl).length=8
  ·rw[QEU h8 ⟨h1,h2⟩];exact Qq0 _
  ·have hp:(2:Int) ^ (8 * (tlX c.x.f tl).length)<=2 ^ 56:=by
    have:=NP (show 0<2 by decide) (show 8 * (tlX c.x.f tl).length<=56 by omega);have e:∀k:Nat,(2:Int) ^ k=((2 ^ k:Nat):Int):=λk=>by rw[Int.natCast_pow];rfl
    rw[e,e];omega
   rw[show(2:Int) ^ 56=72057594037927936 from rfl]at hp;unfold Qav sgn;split
   ·exact z
   ·split
    ·unfold I64;omega
    ·unfold I64;omega
 intro a ha;unfold Qkb at ha;rw[N4]at ha;obtain⟨k,_,rfl⟩:=ha;unfold QtP Qu8
 repeat' split
 all_goals first
  | exact hn
  | exact z
  | exact o
theorem Qla (H:Qa) (B:Blk):(H.push B).get H.next=some B:=by rw[Qi,Lc rfl]
theorem Qyq {H:Qa} {B:Blk} {id:Nat} (h:id<H.next):(H.push B).get id=H.get id:=by rw[Qi,Le (by omega)]
theorem QD4 {a a':Option Addr} {cap len p n c':Nat} {q:Int} (h:ZJ 1 (.slice a len cap) (some (p:Int)) (some q) none=some (.slice a' n c')) (hc:cap<UNK):c'=cap - p:=by
 unfold ZJ at h;cases a with
 | none=>
  simp only[NB,Br]at h;split at h
  ·cases h;rw[LG,LG]
  ·cases h
 | some a=>
  simp only[NB,Br]at h;rw[Le (by omega)]at h;split at h
  ·cases h;rw[LG,LG]
  ·cases h
theorem QD5 {H:Qa} {v:Value} {bs:List Int} (h:ByC H v bs) {p n:Nat} (hq:p+n<=bs.length):∃w,ZJ 1 v (some (p:Int)) (some ((p+n:Nat):Int)) none=some w∧ByC H w ((bs.drop p).take n):=by
 obtain⟨h1,a,cap,rfl,h2,h3⟩:=h;have hl:((bs.drop p).take n).length=n:=by rw[Sb,NT];omega
 obtain⟨a',c',e,hb⟩:=Qw5 h1 ⟨h2,h3⟩ hq;have:=QD4 e h3;exact⟨_,e,hb,a',c',by rw[hl],by rw[hl];omega,by omega⟩
theorem QCb {bs:List Int} {c:Rr} (ok:DOk c.x.f) (hp:c.p=0) (hz:∀z∈bs,0<=z∧z<256) (hl:bs.length<=1000000) (hb:Bt c):
  ((JP bs c).1=0->Jh bs c (JP bs c).2∧Bt (JP bs c).2)∧
  ((VZ bs c).1=0->Jh bs c (VZ bs c).2∧((VZ bs c).2.xx=0∨(VZ bs c).2.xx=1)∧((VZ bs c).2.bb=0∨(VZ bs c).2.bb=1))∧((Qhd bs c).1=0->Jh bs c (Qhd bs c).2):=by
 have i0:InB bs c.p:=by rw[hp];exact .zero bs
 have h1:(JP bs c).1=0->Jh bs c (JP bs c).2∧Bt (JP bs c).2:=λh=>by
  refine⟨?_,QB3 hz hb⟩;rw[(Qpa bs c ok hp hz hl).2 h];exact Qya hl i0
 have h2:(VZ bs c).1=0->Jh bs c (VZ bs c).2∧((VZ bs c).2.xx=0∨(VZ bs c).2.xx=1)∧((VZ bs c).2.bb=0∨(VZ bs c).2.bb=1):=λh=>by
  unfold VZ at h ⊢;cases z:(JP bs c).1==0 with
  | true=>
   obtain⟨k,b⟩:=h1 (eq_of_beq z);have:=QES (c:=(JP bs c).2) hl k.2.2;obtain⟨e1,e2⟩:=Qz0 bs (JP bs c).2;simp only[Lq];rw[e1,e2];exact⟨k.trans this,b.xx,b.bb⟩
  | false=>rw[z]at h;simp only[Ls]at h;rw[h]at z;cases z
 refine⟨h1,h2,λh=>?_⟩;unfold Qhd at h ⊢;cases z:(VZ bs c).1==0 with
 | true=>
  obtain⟨k,_⟩:=h2 (eq_of_beq z);exact k.trans (QBw hl k.2.2)
 | false=>rw[z]at h;simp only[Ls]at h;rw[h]at z;cases z
theorem QGi (x:Lf) (bv:Value) (bs:List Int) (H:Qa) (hx:x.At H) (hb:ByC H bv bs) (hl:bs.length<=1000000) (hz:∀z∈bs,0<=z∧z<256) (ok:DOk x.f):Qh prog Qbx [.agg x.cells.toArray,bv] H (Qe1 H (byD bs x bv)):=by
 refine Qlw λhw=>?_;have ec:(Value.agg x.cells.toArray).cells.toList=x.cells:=rfl;have e10:x.cells.take 10=x.cells:=rfl;have l10:x.cells.length=10:=rfl;obtain⟨r,hr⟩:∃r,r=byD bs x bv:=⟨_,rfl⟩;rw[<- hr];have ebv:bv.cells.toList=[bv]:=by obtain⟨_,a,cap,rfl,_⟩:=hb;rfl
 have b1:([bv]:List Value).length=1:=rfl;simp only[Qe3,ec,Qb,simprocAttr,l10,e10,Lc,ebv,b1];rw[Lc (by simp only[Lh,l10];decide)];have eB:List.take 10 (x.cells++[.slice none 0 0,.int .i64 0,.int .i64 0,.int .i64 0,.int .i64 0,.bool false,.int .i64 0,.int .i64 0,.int .i64 0,.int .i64 0,.int .i64 0,.int .i64 0,.int .i64 0,.int .i64 0,.int .i64 0,.int .i64 0,.int .i64 0])++bv::List.drop 11 (x.cells++[.slice none 0 0,.int .i64 0,.int .i64 0,.int .i64 0,.int .i64 0,.bool false,.int .i64 0,.int .i64 0,.int .i64 0,.int .i64 0,.int .i64 0,.int .i64 0,.int .i64 0,.int .i64 0,.int .i64 0,.int .i64 0,.int .i64 0])=(rd0 x bv).dc:=rfl;rw[eB];have eD:(Value.agg (rd0 x bv).dc.toArray).cells.toList=(rd0 x bv).dc:=rfl;obtain⟨c0,hc0⟩:∃c0,c0=rd0 x bv:=⟨_,rfl⟩;have cx:c0.x=x:=by rw[hc0];rfl
 have cv:c0.bv=bv:=by rw[hc0];rfl
 have cp:c0.p=0:=by rw[hc0];rfl
 have cz:c0.rex=false∧c0.r=0∧c0.xx=0∧c0.bb=0∧c0.low=0:=by rw[hc0];exact⟨rfl,rfl,rfl,rfl,rfl⟩
 unfold byD at hr;rw[<- hc0]at hr eD ⊢;clear eB hc0;simp only[Qb,simprocAttr,eD];have x0:Ext H (((H.push (.cells x.cells Qc false)).push (.cells [.int .i64 0,.slice none 0 0] Qd false)).push (.cells c0.dc Qc1 false)):=(((Ext.refl H).push _).push _).push _;have w0:=((hw.push (.cells x.cells Qc false)).push (.cells [.int .i64 0,.slice none 0 0] Qd false)).push (.cells c0.dc Qc1 false);have gx:(((H.push (.cells x.cells Qc false)).push (.cells [.int .i64 0,.slice none 0 0] Qd false)).push (.cells c0.dc Qc1 false)).get H.next=some (.cells x.cells Qc false):=(Qyq (show H.next<H.next+1+1 by omega)).trans ((Qyq (show H.next<H.next+1 by omega)).trans (Qla _ _));have gt:(((H.push (.cells x.cells Qc false)).push (.cells [.int .i64 0,.slice none 0 0] Qd false)).push (.cells c0.dc Qc1 false)).get (H.next+1)=some (.cells [.int .i64 0,.slice none 0 0] Qd false):=(Qyq (show H.next+1<H.next+1+1 by omega)).trans (Qla (H.push (.cells x.cells Qc false)) _);have gb:(((H.push (.cells x.cells Qc false)).push (.cells [.int .i64 0,.slice none 0 0] Qd false)).push (.cells c0.dc Qc1 false)).get (H.next+1+1)=some (.cells c0.dc Qc1 false):=Qla ((H.push (.cells x.cells Qc false)).push (.cells [.int .i64 0,.slice none 0 0] Qd false)) _;have n3:(((H.push (.cells x.cells Qc false)).push (.cells [.int .i64 0,.slice none 0 0] Qd false)).push (.cells c0.dc Qc1 false)).next=H.next+3:=rfl;generalize ((H.push (.cells x.cells Qc false)).push (.cells [.int .i64 0,.slice none 0 0] Qd false)).push (.cells c0.dc Qc1 false)=H3 at *;have bt0:Bt c0:=⟨.inl cz.2.2.1,.inl cz.2.2.2.1,cz.2.2.2.2⟩;have dt0:Qha H H3 (H.next+1+1) c0 bs:=⟨hw,x0,by omega,gb,by rw[cx];exact hx,by rw[cv];exact hb.1,hl,by rw[cp];omega,by rw[cx];exact ok,hz⟩;have oc0:=Wg.refl gb;have x8:x.cells[8]? = some (.bool x.f.vex):=rfl;have hne:(H.next=H.next+1+1)=False:=by simp;omega
 simp only[Qb,simprocAttr,hne,LN,x8];have n3':H3.next=H.next+1+1+1:=n3;have hbt:H.next<=H.next+1:=by omega
 have hbl:H.next<=H.next+1+1:=by omega
 have hbn:H.next+1≠H.next+1+1:=by omega
 have hxb:H.next≠H.next+1+1:=by omega
 have hxt:H.next≠H.next+1:=by omega
 have lt1:H.next+1<H3.next:=by omega
 have lt0:H.next<H3.next:=by omega
 have lt2:H.next+1+1<H3.next:=by omega
 clear n3 n3' hne;generalize H.next+1+1=b at *;generalize H.next+1=bt at *;obtain⟨k1,k2,k3⟩:=QCb (bs:=bs) (c:=c0) (by rw[cx];exact ok) cp hz hl bt0;have ext4:∀ {H4:Qa} {c':Rr},Wg H3 H4 b c'->Ext H H4:=λho=>⟨N8 x0.next ho.next,λid hid=>by rw[ho.get id (N5 hid x0.next) (by omega),x0.get id hid]⟩;have dt:∀ {H4:Qa} {c':Rr},Wg H3 H4 b c'->Jh bs c0 c'->Qha H H4 b c' bs:=λho hk=>dt0.only ho hk.1 hk.2.1 hk.2.2
 -- an error
 have bad:∀ (A:Env) (H4:Qa) (e:Int),Ext H H4->H4.get bt=some (.cells [.int .i64 0,.slice none 0 0] Qd false)->A 4=.pointer (some ⟨bt,0,none⟩)->A 5=.int .i64 0->A 6=.int .i64 e->r=Qgi e->Rt prog Wi H (Qe1 H r) A H4:=by
  intro A H4 e hx4 hg r4 r5 r6 he;simp only[Qd6,Qb,simprocAttr,r4,r5,r6,hg];exact .mk hx4.next ⟨hx4,_,by rw[he];rfl,by rw[he];exact⟨none,0,rfl,λh=>absurd h (NX 0)⟩,λa n c h=>by cases h⟩
 have s3:∀ (A:Env) (H4:Qa) (c':Rr),H4.Wf->Wg H3 H4 b c'->Jh bs c0 c'->A 1=bv->A 2=.pointer (some ⟨H.next,0,none⟩)->A 4=.pointer (some ⟨bt,0,none⟩)->A 7=.pointer (some ⟨b,0,none⟩)->A 9=.int .i64 c'.low->r=Qvt bs c'->Qn prog GB ⟨Rt prog Wi H (Qe1 H r),X2⟩ (Rt prog Wi H (Qe1 H r)) A H4:=by
  intro A H4 c' hw4 ho hk r1 r2 r4 r7 r9 he;have hx4:=ext4 ho;have gt4:=(ho.get bt lt1 hbn).trans gt;have gx4:=(ho.get H.next lt0 hxb).trans gx;have cx':c'.x=x:=hk.1.trans cx;have cv':c'.bv=bv:=hk.2.1.trans cv;have hp:=hk.2.2;have d4:=dt ho hk;unfold Qvt at he;have htl:=QtQ c'.x.f;have htf:tlF c'.x.f=bif decide (0<=QC c'.x.f.slots 7) then tl1 c'.x.f+1 else tl1 c'.x.f:=rfl
  have htb:0<=tlF c'.x.f∧tlF c'.x.f<=9:=by
   rw[htf];cases decide (0<=QC c'.x.f.slots 7)
   ·simp only[Ls];omega
   ·simp only[Lq];omega
  have hbs:=hb.ext hw hx4;obtain⟨p,ep⟩:∃p:Nat,c'.p=p:=⟨c'.p.toNat,by have:=hp.1;omega⟩;have hp2:=hp.2;obtain⟨n,en⟩:∃n:Nat,tlF c'.x.f=n:=⟨(tlF c'.x.f).toNat,by omega⟩;have ew:IntKind.i64.wrap ((p:Int)+(n:Int))=((p+n:Nat):Int):=by rw[w64 (by unfold I64;omega)];omega
  have hsum:c'.p+tlF c'.x.f=((p+n:Nat):Int):=by omega
  rw[hsum]at he;have hlb:∃a cap,bv=.slice a bs.length cap:=by obtain⟨_,a,cap,e,_⟩:=hb;exact⟨a,cap,e⟩
  obtain⟨ba,bc,ebv'⟩:=hlb;simp only[GB,Qb,simprocAttr,r2,gx4,e10,l10];have qt:=Qxg x H4 (hx.ext hw hx4);rw[show tlF x.f=n from by rw[<- cx'];exact en]at qt;refine qt.thenW ?_;rintro _ _ hn5 hw5 ⟨rfl,k5,rfl⟩;have ho5:=ho.up (show _<=k5 from hn5);have gt5:=(W3 H4 k5 bt).trans gt4;have hx5:=ext4 ho5;have d5:=dt ho5 hk;have hbs5:=hb.ext hw hx5;have gb5:=ho5.at_;clear gx4 gt4 d4 hbs hx4 qt hw4 ho;generalize H4.up k5=H5 at *;subst ebv';simp only[Qb,simprocAttr,r1,r7,gb5,Qgp,ep,ew,Qp,B4];have hlt1:decide ((bs.length:Int)<((p+n:Nat):Int))=decide (bs.length<p+n):=by rw[Ni,Lv,Lv];omega
  rw[hlt1];cases zl:decide (bs.length<p+n) with
  | true=>
   rw[Lc (by have:=Lg zl;omega)]at he;simp only[Qb,simprocAttr,r4,gt5];refine bad _ _ 9 (hx5.set hbt _) (by rw[Qm,Lc rfl]) ?_ ?_ ?_ he
   all_goals simp only[Qg,simprocAttr,r4]
  | false=>
  have hle:p+n<=bs.length:=by have:=Ll zl;omega
  rw[Le (by omega)]at he;simp only[Qdj,Qb,simprocAttr,r7];refine(Qnu b c' bs H5 d5 7).thenW ?_;rintro _ _ hn6 hw6 ⟨rfl,k6,rfl⟩;have ho6:=ho5.up (show _<=k6 from hn6);have gt6:=(W3 H5 k6 bt).trans gt5;have hx6:=ext4 ho6;have d6:=dt ho6 hk;have hbs6:=hb.ext hw hx6;have gb6:=ho6.at_;clear d5 hbs5 gb5 gt5 hx5 ho5 hw5;generalize H5.up k6=H6 at *;have s1:r=QpB c'.x.f.op ((p+n:Nat):Int) (Qkb c' (tlL bs c'))->∀ (A:Env),A 1=.slice ba bs.length bc->A 4=.pointer (some ⟨bt,0,none⟩)->A 7=.pointer (some ⟨b,0,none⟩)->A 9=.int .i64 c'.low->A 10=.int .i64 n->Qn prog GA ⟨Rt prog Wi H (Qe1 H r),X2⟩ (Rt prog Wi H (Qe1 H r)) A H6:=by
   intro he A r1 r4 r7 r9 r10;obtain⟨w,ew2,hbw⟩:=QD5 hbs6 hle;have etl:tlL bs c'=(bs.drop p).take n:=by unfold tlL;rw[ep,en,LG,LG]
   have tlen:(tlL bs c').length=n:=by rw[etl,Sb,NT];omega
   have tz:∀z∈tlL bs c',0<=z∧z<256:=λz hz'=>by rw[etl]at hz';exact hz z (List.mem_of_mem_drop (List.mem_of_mem_take hz'))
   rw[<- etl]at hbw;have tX:(tlX c'.x.f (tlL bs c')).length<=8:=by
    unfold tlX;split
    ·rw[Sb];omega
    ·rename_i hh;rw[Lj hh]at htf;simp only[Ls]at htf;omega
   have hI:=QCa (c:=c') (by omega) tz tX;have hls:(Qkb c' (tlL bs c')).length<=1000:=by unfold Qkb;rw[Nn,BO,cx'];exact hx.1
   have qi:=QB0 b c' bs H6 d6 w (tlL bs c') hbw tz (by rw[tlen,en]);simp only[GA,Qb,simprocAttr,r1,r7,r9,r10,gb6,Qgp,ep,ew];refine⟨w,ew2,?_⟩;refine qi.thenW ?_;rintro _ H7 hn7 hw7 ⟨v7,rfl,hx67,ha7⟩;simp only[Qb,simprocAttr];refine(Qr9 c'.x.f.op v7 _ H7 ha7 hls hI).thenW ?_;rintro _ H8 hn8 hw8 ⟨hx78,v8,rfl,ha8,hf8⟩;have hx8:=(hx6.trans hx67).trans hx78;have gt8:=((hx67.trans hx78).get bt (hw6.lt gt6)).trans gt6;have gb8:=((hx67.trans hx78).get b (hw6.lt gb6)).trans gb6;unfold QpB at he;generalize Xd c'.x.f.op (Qkb c' (tlL bs c'))=ic at *;obtain⟨va,vc,rfl,hv2⟩:=id ha8;have hlb8:=hw8.lt gb8;have hlt8:=hw8.lt gt8;simp only[Qb,simprocAttr];generalize hH9:Qa.set _ H8.next _=H9;have hx9:Ext H8 H9:=by rw[<- hH9];exact((Ext.refl H8).push _).set (Lb _) _
   have g9:H9.get H8.next=some (.cells [.int .i64 ic.1,.slice va ic.2.1.length vc] Qd false):=by rw[<- hH9,Qm,Lc rfl]
   clear hH9;have gt9:=(hx9.get bt hlt8).trans gt8;have gb9:=(hx9.get b hlb8).trans gb8;have hx9':=hx8.trans hx9;have hv9:=ha8.ext hw8 hx9;cases z:ic.2.2==0 with
   | false=>
    rw[Lc z]at he;simp only[Qb,simprocAttr,LM,r4,gt9];refine bad _ _ 4 (hx9'.set hbt _) (by rw[Qm,Lc rfl]) ?_ ?_ ?_ he
    all_goals simp only[Qg,simprocAttr,r4]
   | true=>
    rw[Le (by rw[z];decide)]at he;simp only[Qb,simprocAttr,L8,r4,r7,r10,g9,gt9,gb9,Qgp,ep,ew];refine⟨rfl,λe=>hbn e.symm,?_⟩;have hnx:=hx67.next;simp only[Qd6,Qb,simprocAttr,r4,Qm,Lc];refine .mk (hx9'.set hbt _).next ⟨hx9'.set hbt _,_,by rw[he],?_,λa k cc h=>?_⟩
    ·rw[he];obtain⟨va',vc',e9,hv⟩:=hv9;cases e9;refine⟨va,vc,rfl,λh=>?_⟩;obtain⟨b2,e2,ro2,rfl,hg⟩:=hv h;have h1:=(hf8 _ _ _ rfl).1;have h2:=hw6.lt gt6;simp only at h1;exact⟨b2,e2,ro2,rfl,by rw[Qm,Le (by omega)];exact hg⟩
    ·cases h;have h1:=(hf8 _ _ _ rfl).1;have h2:=hx6.next;omega
  cases z7:decide (0<=QC c'.x.f.slots 7) with
  | false=>
   rw[z7,NG,Le (by decide)]at he;simp only[Qb,simprocAttr];refine s1 he _ ?_ ?_ ?_ ?_ ?_
   all_goals simp only[Qg,simprocAttr,r1,r4,r7,r9]
  | true=>
   rw[z7,LJ]at he;rw[z7]at htf;simp only[Lq]at htf;have hn1:1<=n:=by omega
   obtain⟨bb,o,cs,e,ro,cap',y,e10',hgb,hcs,hbb,hy,hy0,hy1⟩:∃ (bb o:Nat) (cs:List Value) (e:TypeId) (ro:Bool) (cap:Nat) (y:Int),Value.slice ba bs.length bc=.slice (some ⟨bb,o,none⟩) bs.length cap∧H6.get bb=some (.cells cs e ro)∧cs[o+(p+n - 1)]? = some (.int .u8 y)∧True∧y=bs.getD (p+n - 1) 0∧0<=y∧y<256:=by
    obtain⟨⟨a,cap,e,hby⟩,_⟩:=hbs6;cases e;obtain⟨bb,o,e,ro,cs,rfl,hg,hcs⟩:=hby (by omega);have:=QeH hz (p+n - 1);exact⟨bb,o,cs,e,ro,bc,_,rfl,hg,hcs (p+n - 1) (by omega),trivial,rfl,this.1,this.2⟩
   cases e10';have e1:IntKind.i64.wrap (((p+n:Nat):Int) - 1)=((p+n - 1:Nat):Int):=by rw[w64 (by unfold I64;omega)];omega
   have d1:(0:Int)<=((p+n - 1:Nat):Int)∧((p+n - 1:Nat):Int)<bs.length:=by omega
   have d3:((p+n - 1:Nat):Int).toNat=p+n - 1:=LG _;have ey:(bs.getD (((p+n:Nat):Int) - 1).toNat 0)=y:=by rw[hy];congr 1;omega
   rw[ey]at he;simp only[Qb,simprocAttr,r1,r7,gb6,Qgp,ep,ew,e1,d1,d3,hgb,hcs];cases zy:y.tmod 16==0 with
   | false=>
    rw[zy,Lc (by decide)]at he;simp only[Qb,simprocAttr,LM,r4,gt6];refine bad _ _ 4 (hx6.set hbt _) (by rw[Qm,Lc rfl]) ?_ ?_ ?_ he
    all_goals simp only[Qg,simprocAttr,r4]
   | true=>
    rw[zy,Le (by decide)]at he;simp only[Qb,simprocAttr,L8];refine s1 he _ ?_ ?_ ?_ ?_ ?_
    all_goals simp only[Qg,simprocAttr,r1,r4,r7,r9]
 have s4:∀ (A:Env) (H4:Qa) (e:Int) (c':Rr) (low:Int),H4.Wf->Wg H3 H4 b c'->A 1=bv->A 2=.pointer (some ⟨H.next,0,none⟩)->A 4=.pointer (some ⟨bt,0,none⟩)->A 7=.pointer (some ⟨b,0,none⟩)->A 8=.int .i64 e->A 9=.int .i64 low->e=(Qhd bs c0).1->(e=0->c'=(Qhd bs c0).2∧low=(Qhd bs c0).2.low)->Qn prog GC ⟨Rt prog Wi H (Qe1 H r),X2⟩ (Rt prog Wi H (Qe1 H r)) A H4:=by
  intro A H4 e c' low hw4 ho r1 r2 r4 r7 r8 r9 he hc;have gt4:=(ho.get bt lt1 hbn).trans gt;have hlen:((Qhd bs c0).1==0)=(e==0):=by rw[he]
  rw[hlen]at hr;simp only[GC,Qb,simprocAttr,r8];cases z:e==0 with
  | false=>
   rw[z]at hr;simp only[Qb,simprocAttr,LM,r4,gt4];refine bad _ _ e ((ext4 ho).set hbt _) (by rw[Qm,Lc rfl]) ?_ ?_ ?_ (by rw[he];exact hr)
   all_goals simp only[Qg,simprocAttr,r4,r8]
  | true=>
   rw[z]at hr;obtain⟨e1,e2⟩:=hc (eq_of_beq z);have hk:=k3 (by rw[<- he];exact eq_of_beq z);rw[<- e1]at hk hr e2;simp only[Qb,simprocAttr,L8];refine s3 _ _ c' hw4 ho hk ?_ ?_ ?_ ?_ ?_ hr
   all_goals simp only[Qg,simprocAttr,r1,r2,r4,r7,r9]
   rw[e2]
 have s5:∀ (A:Env) (H4:Qa) (e:Int) (c':Rr) (low:Int),H4.Wf->Wg H3 H4 b c'->A 1=bv->A 2=.pointer (some ⟨H.next,0,none⟩)->A 4=.pointer (some ⟨bt,0,none⟩)->A 7=.pointer (some ⟨b,0,none⟩)->A 8=.int .i64 e->A 9=.int .i64 low->e=(VZ bs c0).1->(e=0->c'=(VZ bs c0).2∧low=(VZ bs c0).2.low)->Qn prog GD ⟨Rt prog Wi H (Qe1 H r),X2⟩ (Rt prog Wi H (Qe1 H r)) A H4:=by
  intro A H4 e c' low hw4 ho r1 r2 r4 r7 r8 r9 he hc;have hM:Qhd bs c0=bif e==0 then Qcs bs (VZ bs c0).2 else VZ bs c0:=by rw[he];rfl
  simp only[GD,Qb,simprocAttr,r8];cases z:e==0 with
  | false=>
   rw[z]at hM;have hM:Qhd bs c0=VZ bs c0:=hM;simp only[Qb,simprocAttr];refine s4 _ _ e c' low hw4 ho ?_ ?_ ?_ ?_ ?_ ?_ (by rw[hM];exact he) (by rw[hM];exact hc)
   all_goals simp only[Qg,simprocAttr,r1,r2,r4,r7,r8,r9]
  | true=>
   rw[z]at hM;have hM:Qhd bs c0=Qcs bs (VZ bs c0).2:=hM;obtain⟨e1,e2⟩:=hc (eq_of_beq z);obtain⟨hk,hb1,hb2⟩:=k2 (by rw[<- he];exact eq_of_beq z);rw[<- e1]at hM hk hb1 hb2 e2;have hlow:((Qcs bs c').1=0->(Qcs bs c').2.low=c'.low):=λ_=>by
    unfold Qcs
    repeat' split
    all_goals rfl
   simp only[Qb,simprocAttr,r7];have hcap:∃a cap,c'.bv=.slice a bs.length cap∧bs.length<=cap∧cap<UNK:=by
    rw[hk.2.1,cv];obtain⟨_,a,cap,e,h⟩:=hb;exact⟨a,cap,e,h⟩
   refine(QzZ b c' bs H4 (dt ho hk) hcap ⟨hb1,hb2⟩).thenW ?_;rintro _ H5 hn5 hw5 ⟨rfl,c5,ho5,hc5⟩;simp only[Qb,simprocAttr];refine s4 _ _ (Qcs bs c').1 c5 low hw5 (ho.trans ho5) ?_ ?_ ?_ ?_ ?_ ?_ (by rw[hM]) (λh=>by rw[hM];exact⟨hc5 h,by rw[e2,hlow h]⟩)
   all_goals simp only[Qg,simprocAttr,r1,r2,r4,r7,r9]
 have s6:∀ (A:Env) (H4:Qa) (e:Int) (c':Rr),H4.Wf->Wg H3 H4 b c'->A 1=bv->A 2=.pointer (some ⟨H.next,0,none⟩)->A 4=.pointer (some ⟨bt,0,none⟩)->A 7=.pointer (some ⟨b,0,none⟩)->A 8=.int .i64 e->e=(JP bs c0).1->(e=0->c'=(JP bs c0).2)->Qn prog GE ⟨Rt prog Wi H (Qe1 H r),X2⟩ (Rt prog Wi H (Qe1 H r)) A H4:=by
  intro A H4 e c' hw4 ho r1 r2 r4 r7 r8 he hc;have hM:VZ bs c0=bif e==0 then opF bs (JP bs c0).2 else JP bs c0:=by rw[he];rfl
  simp only[GE,Qb,simprocAttr,r8];cases z:e==0 with
  | false=>
   rw[z]at hM;have hM:VZ bs c0=JP bs c0:=hM;simp only[Qb,simprocAttr];refine s5 _ _ e c' 0 hw4 ho ?_ ?_ ?_ ?_ ?_ ?_ (by rw[hM];exact he) (λh=>by rw[h]at z;cases z)
   all_goals simp only[Qg,simprocAttr,r1,r2,r4,r7,r8]
  | true=>
   rw[z]at hM;have hM:VZ bs c0=opF bs (JP bs c0).2:=hM;have e1:=hc (eq_of_beq z);obtain⟨hk,hb1⟩:=k1 (by rw[<- he];exact eq_of_beq z);rw[<- e1]at hM hk hb1;simp only[Qb,simprocAttr,r7];refine(QB6 b c' bs H4 (dt ho hk) hb1.low).thenW ?_;rintro _ H5 hn5 hw5 ⟨low,rfl,c5,ho5,hc5⟩;simp only[Qb,simprocAttr];refine s5 _ _ (opF bs c').1 c5 low hw5 (ho.trans ho5) ?_ ?_ ?_ ?_ ?_ ?_ (by rw[hM]) (λh=>by rw[hM];exact⟨(hc5 h).1,by rw[(hc5 h).2,(hc5 h).1]⟩)
   all_goals simp only[Qg,simprocAttr,r1,r2,r4,r7]
 have hH:JP bs c0=bif x.f.vex then Qr7 bs c0 else QjW bs c0:=by unfold JP;rw[cx]
 cases zv:x.f.vex with
 | true=>
  rw[zv]at hH;have hH:JP bs c0=Qr7 bs c0:=hH;simp only[Qb,simprocAttr];refine(QDU b c0 bs H3 dt0 QHs).thenW ?_;rintro _ H5 hn5 hw5 ⟨rfl,c5,ho5,hc5⟩;simp only[Qb,simprocAttr];refine s6 _ _ _ c5 hw5 ho5 ?_ ?_ ?_ ?_ ?_ (by rw[hH]) (by rw[hH];exact hc5)
  all_goals simp only[Qg,simprocAttr]
 | false=>
  rw[zv]at hH;have hH:JP bs c0=QjW bs c0:=hH;simp only[Qb,simprocAttr];refine(Qxe b c0 bs H3 dt0 (by rw[cx];exact zv) ⟨cz.1,cz.2.1,cz.2.2.1,cz.2.2.2.1⟩).thenW ?_;rintro _ H5 hn5 hw5 ⟨rfl,c5,ho5,hc5⟩;simp only[Qb,simprocAttr];refine s6 _ _ _ c5 hw5 ho5 ?_ ?_ ?_ ?_ ?_ (by rw[hH]) (by rw[hH];exact hc5)
  all_goals simp only[Qg,simprocAttr]
def okS (f:Fm) (k:Nat):Bool:=
 let s:=f.shapes.getD k 0
 let l:=f.slots.getD k 0
 (!(l==1||l==4)||!(clF s==0))&&(!(l==3||l==7)||(!(clF s==0)&&!(s==1)&&!(s==7)))&&(!f.vex||(!(s==1)&&!(s==7)))&&(!(l==2)||QC f.slots 2==k)
def d2F (f:Fm):Bool:=(List.range f.shapes.length).all (okS f)
theorem QD6 {c:Rr} {s n:Int} (hs:clF s≠0) (hv:c.x.f.vex=true->s≠1∧s≠7):clD s n c.rex=Qzu c s n:=by
 unfold Qzu clD;unfold clF at hs ⊢
 by_cases h1:s=1∨s=7
 ·have hv':c.x.f.vex=false:=by
   cases h:c.x.f.vex with
   | false=>rfl
   | true=>have:=hv h;omega
  rw[Lc h1,Lc h1,hv'];cases c.rex<;>cases decide (4<=n)<;>cases decide (n<=7)<;>rfl
 ·rw[Le h1]at hs ⊢;rw[Le h1]
  by_cases h2:s=2∨s=8
  ·rw[Lc h2,Lc h2];rfl
  ·rw[Le h2]at hs ⊢;rw[Le h2]
   by_cases h3:s=3∨s=9
   ·rw[Lc h3,Lc h3];rfl
   ·rw[Le h3]at hs ⊢;rw[Le h3]
    by_cases h4:s=4∨s=10
    ·rw[Lc h4,Lc h4];rfl
    ·rw[Le h4]at hs ⊢;rw[Le h4]
     by_cases h5:s=5∨s=11∨s=12∨s=13
     ·rw[Lc h5,Le (by omega)];rfl
     ·rw[Le h5]at hs ⊢
      by_cases h6:s=6∨s=14
      ·rw[Lc h6,Lc h6];rfl
      ·rw[Le h6]at hs;exact absurd rfl hs
theorem Qyr {s n:Int} (b:Bool) (h1:s≠1) (h7:s≠7):clD s n true=clD s n b:=by
 unfold clD;rw[Le (show ¬ (s=1∨s=7) by omega),Le (show ¬ (s=1∨s=7) by omega)]
theorem QGj {s:Int} (h:0<=szF s):szD s=szF s:=by
 unfold szF at h ⊢;unfold szD
 by_cases h0:s=15
 ·subst h0;rfl
 ·rw[Le h0]at h ⊢
  by_cases h1:s=7
  ·rw[Lc h1,Lc h1]
  ·rw[Le h1]at h ⊢;rw[Le h1]
   by_cases h2:s=8∨s=34
   ·rw[Lc h2,Lc h2]
   ·rw[Le h2]at h ⊢;rw[Le h2]
    by_cases h3:s=9∨s=11∨s=16
    ·rw[Lc h3,Lc h3]
    ·rw[Le h3]at h ⊢;rw[Le h3]
     by_cases h4:s=10∨s=12∨s=17
     ·rw[Lc h4,Lc h4]
     ·rw[Le h4]at h ⊢;rw[Le h4]
      by_cases h5:s=13∨s=18
      ·rw[Lc h5,Lc h5]
      ·rw[Le h5]at h ⊢;rw[Le h5]
       by_cases h6:s=14∨s=19
       ·rw[Lc h6,Lc h6]
       ·rw[Le h6]at h;omega
theorem Qvu {c:Rr} {s n:Int} (hs:clF s≠0) (hv:c.x.f.vex=true->s≠1∧s≠7):rD s n c.rex=rA c s n:=by
 unfold rD rA;rw[QD6 hs hv]
theorem QGk {c:Rr} {s slot:Int} {tl:List Int} {n is4:Int} (h1:slot=1∨slot=4->clF s≠0) (h3:slot=3∨slot=7->clF s≠0∧s≠1∧s≠7) (hv:c.x.f.vex=true->s≠1∧s≠7) (h2:slot=2->(0<=c.seen.reg->clF s≠0)∧(c.seen.reg<0->0<=szF s)) (h7:slot=7->q16 (tl.getD (tl.length - 1) 0)=is4) (hn:Qav (tlX c.x.f tl)=n):QtP c s slot tl=opA c s slot n is4:=by
 unfold QtP opA;rw[hn];have b:∀a b:Int,¬a=b->¬ (a==b)=true:=λa b h=>by simpa using h
 have bT:∀a b:Int,a=b->(a==b)=true:=λa b h=>by simpa using h
 by_cases e6:slot=6
 ·rw[Lc (bT _ _ e6),Le (b slot 1 (by omega)),Le (b slot 3 (by omega)),Le (b slot 4 (by omega)),Le (b slot 7 (by omega)),Lc (bT _ _ e6)]
 rw[Le (b _ _ e6)]
 by_cases e1:slot=1
 ·rw[Lc (bT _ _ e1),Lc (bT _ _ e1),Qvu (h1 (.inl e1)) hv,Int.add_comm]
 rw[Le (b _ _ e1),Le (b _ _ e1)]
 by_cases e3:slot=3
 ·obtain⟨a1,a2,a3⟩:=h3 (.inl e3);rw[Lc (bT _ _ e3),Lc (bT _ _ e3),<- Qvu a1 hv];unfold rD;rw[Qyr c.rex a2 a3]
 rw[Le (b _ _ e3),Le (b _ _ e3)]
 by_cases e4:slot=4
 ·rw[Lc (bT _ _ e4),Lc (bT _ _ e4),Qvu (h1 (.inr e4)) hv,Int.add_comm]
 rw[Le (b _ _ e4),Le (b _ _ e4)]
 by_cases e7:slot=7
 ·obtain⟨a1,a2,a3⟩:=h3 (.inr e7);rw[Lc (bT _ _ e7),Lc (bT _ _ e7),h7 e7,<- Qvu a1 hv];unfold rD;rw[Qyr c.rex a2 a3]
 rw[Le (b _ _ e7),Le (b _ _ e7),Le (b _ _ e6)]
 by_cases e2:slot=2
 ·rw[Lc (bT _ _ e2),Lc (bT _ _ e2)];obtain⟨a1,a2⟩:=h2 e2
  by_cases hr:0<=c.seen.reg
  ·rw[Lc (Lp hr),Lc (Lp hr),Qvu (a1 hr) hv]
  ·rw[Le (by simpa using hr),Le (by simpa using hr),QGj (a2 (by omega))]
 rw[Le (b _ _ e2),Le (b _ _ e2)]
def lo4 (y:Int):Bool:=((IntKind.u8.wrap (BitVec.ofInt IntKind.u8.bits y &&& BitVec.ofInt IntKind.u8.bits 15).toNat==0)==(y.tmod 16==0))&&(q16 y==IntKind.i64.wrap (y.fdiv (2 ^ (min (Int.toNat 4) IntKind.u8.bits))))
theorem QD7:((List.range 256).all λy=>lo4 (y:Nat))=true:=by kernel_rfl
theorem QD8 {y:Int} (h0:0<=y) (h1:y<256):lo4 y=true:=by
 have h:=Li.1 QD7 y.toNat (LU.2 (by omega));rw[show((y.toNat:Nat):Int)=y by omega]at h;exact h
structure Rdy (bs:List Int) (c:Rr):Prop where
 z:∀z∈bs,0<=z∧z<256
 len:bs.length<=1000000
 p:InB bs c.p
 sl:c.x.f.shapes.length=c.x.f.slots.length
 d2:d2F c.x.f=true
 seen:0<=QC c.x.f.slots 2->(0<=c.seen.reg->clF (c.x.f.shapes.getD (QC c.x.f.slots 2).toNat 0)≠0)∧(c.seen.reg<0->0<=szF (c.x.f.shapes.getD (QC c.x.f.slots 2).toNat 0))
theorem QCc {bs:List Int} {c:Rr} (h:Rdy bs c) {tl:List Int} {n is4:Int} (h7:0<=QC c.x.f.slots 7->q16 (tl.getD (tl.length - 1) 0)=is4) (hn:Qav (tlX c.x.f tl)=n):Qkb c tl=opL c n is4:=by
 unfold Qkb opL;apply DC;intro k hk;have hk':=LU.1 hk;have hsl:=h.sl;have ok:=Li.1 h.d2 k hk;unfold okS at ok;simp only[Lm,Nw,Lr,LC,Da,L0,BQ]at ok;obtain⟨⟨⟨o1,o3⟩,ov⟩,o2⟩:=ok;refine QGk (λe=>?_) (λe=>?_) (λe=>?_) (λe=>?_) (λe=>h7 ?_) hn
 ·rcases o1 with o | o
  ·omega
  ·exact o
 ·rcases o3 with o | o
  ·omega
  ·exact⟨o.1.1,o.1.2,o.2⟩
 ·rcases ov with o | o
  ·rw[e]at o;cases o
  ·exact o
 ·rcases o2 with o | o
  ·exact absurd e o
  ·have:=h.seen (by omega);rw[o,LG]at this;exact this
 ·exact Qoj 7 _ _ (by rw[<- e,LX,La (by omega)];exact Nb (by omega))
theorem QCd {bs:List Int} {c:Rr} (h:Rdy bs c) (m:Nat) (hm:tl1 c.x.f=m):Qob bs c=if bs.length<c.p.toNat+m then Qgi 9 else QtC bs {c with p:=((c.p.toNat+m:Nat):Int)} (Qav ((bs.drop c.p.toNat).take m)):=by
 obtain⟨p0,p1⟩:=h.p;have hl:=h.len;obtain⟨p,ep⟩:∃p:Nat,c.p=p:=⟨c.p.toNat,by omega⟩;have h8:=QtQ c.x.f;unfold Qob;rw[hm]at h8 ⊢
 by_cases h0:m=0
 ·subst h0;rw[Le (by decide),Le (by omega),ep,LG,N9,<- ep];rfl
 ·rw[Lc (by simp;omega),ep,LG]
  by_cases hc:bs.length<p+m
  ·have hg:Yz bs p m true=(0,9):=by
    have hs:QiO (m:Int)=true:=by
     have:m=1∨m=2∨m=4∨m=8:=by omega
     rcases this with rfl | rfl | rfl | rfl<;>rfl
    unfold Yz;rw[hs,Le (by decide),Le (by simp;omega),Lc (by omega)]
   rw[hg,Lc hc,Lc (by rfl)]
  ·rw[Qvl h.z (by omega) (by omega),Le hc,Le (show ¬ ((0:Int)==0)=false by decide),w64 (by unfold I64;omega)];have:((p:Int)+(m:Int))=((p+m:Nat):Int):=by omega
   rw[this]
theorem QCe {bs:List Int} {c:Rr} (h:Rdy bs c):Qvt bs c=Qob bs c:=by
 obtain⟨p0,p1⟩:=h.p;have hl:=h.len;have h8:=QtQ c.x.f;obtain⟨m,hm⟩:∃m:Nat,tl1 c.x.f=m:=⟨(tl1 c.x.f).toNat,by omega⟩;obtain⟨p,ep⟩:∃p:Nat,c.p=p:=⟨c.p.toNat,by omega⟩;rw[QCd h m hm];have htf:tlF c.x.f=bif decide (0<=QC c.x.f.slots 7) then tl1 c.x.f+1 else tl1 c.x.f:=rfl
 have hsl:∀n,p+n<=bs.length->((bs.drop p).take n).length=n:=λn h=>by rw[Sb,NT];omega
 unfold Qvt QtC tlL;rw[ep,LG]
 by_cases h7:0<=QC c.x.f.slots 7
 ·rw[Lp h7,hm]at htf;simp only[Lq]at htf;rw[htf];show _=if bs.length<p+m then _ else if decide (0<=QC c.x.f.slots 7)=true then _ else _
  rw[Lc (Lp h7),Lp h7,LJ]
  by_cases hc:bs.length<p+m
  ·rw[Lc hc,Lc (by omega)]
  ·rw[Le hc];show _=if(bs.length:Int)<=((p+m:Nat):Int) then _ else _
   by_cases hc2:bs.length<=p+m
   ·rw[Lc (show(bs.length:Int)<(p:Int)+((m:Int)+1) by omega),Lc (show(bs.length:Int)<=((p+m:Nat):Int) by omega)]
   ·rw[Le (show ¬ (bs.length:Int)<(p:Int)+((m:Int)+1) by omega),Le (show ¬ (bs.length:Int)<=((p+m:Nat):Int) by omega)];obtain⟨y0,y1⟩:=QeH h.z (p+m);have ht:=QD8 y0 y1;unfold lo4 at ht;rw[Lm]at ht;have t1:(QsD bs ((p+m:Nat):Int)==0)=((bs.getD (p+m) 0).tmod 16==0):=eq_of_beq ht.1;have t2:q16 (bs.getD (p+m) 0)=hi4 bs ((p+m:Nat):Int):=eq_of_beq ht.2;have ei:((p:Int)+((m:Int)+1) - 1).toNat=p+m:=by omega
    show _=if(QsD bs ((p+m:Nat):Int)==0)=false then _ else QpB c.x.f.op (IntKind.i64.wrap (((p+m:Nat):Int)+1)) (opL c _ (hi4 bs ((p+m:Nat):Int)))
    rw[ei,t1];cases hy:(bs.getD (p+m) 0).tmod 16==0 with
    | false=>rw[Lc (by decide),Lc rfl]
    | true=>
     rw[Le (by decide),Le (by decide),w64 (n:=((p+m:Nat):Int)+1) (by unfold I64;omega)];have e1:(p:Int)+((m:Int)+1)=((p+m:Nat):Int)+1:=by omega
     have e2:((m:Int)+1).toNat=m+1:=by omega
     rw[e1,e2];have hlen:=hsl (m+1) (by omega);rw[QCc h (n:=Qav ((bs.drop p).take m)) (is4:=hi4 bs ((p+m:Nat):Int)) (λ_=>?_) ?_]
     ·unfold tlX;rw[Lc h7,hlen,Nat.add_sub_cancel,DE,BC (by omega)]
     ·rw[hlen,<- t2,Nat.add_sub_cancel,Qvm (by omega)]
 ·rw[Lj h7,hm]at htf;simp only[Ls]at htf;rw[htf];show _=if bs.length<p+m then _ else if decide (0<=QC c.x.f.slots 7)=true then _ else _
  rw[Le (show ¬decide (0<=QC c.x.f.slots 7)=true by simpa using h7),Lj h7,NG]
  by_cases hc:bs.length<p+m
  ·rw[Lc hc,Lc (by omega)]
  ·rw[Le hc,Le (by omega),Le (by decide),LG];have e1:(p:Int)+(m:Int)=((p+m:Nat):Int):=by omega
   rw[e1,QCc h (n:=Qav ((bs.drop p).take m)) (is4:=0) (λhh=>absurd hh h7) (by unfold tlX;rw[Le h7])];rfl
theorem QD9 {bs:List Int} {x:Lf} (bv:Value) (hz:∀z∈bs,0<=z∧z<256) (hl:bs.length<=1000000) (ok:DOk x.f) (d2:d2F x.f=true):byD bs x bv=Qnq bs x.f:=by
 rw[<- Qo5 bs x bv];have hb:Bt (rd0 x bv):=⟨.inl rfl,.inl rfl,rfl⟩;obtain⟨k1,k2,k3⟩:=QCb (bs:=bs) (c:=rd0 x bv) ok rfl hz hl hb;have ag:=Qpa bs (rd0 x bv) ok rfl hz hl;have aO:Qrb (VZ bs (rd0 x bv)) (rdO bs (rd0 x bv)):=by
  unfold VZ rdO rdH;obtain⟨a1,a2⟩:=ag;rw[<- a1];cases z:(JP bs (rd0 x bv)).1==0 with
  | true=>rw[<- a2 (eq_of_beq z)];exact⟨rfl,λ_=>rfl⟩
  | false=>exact⟨a1,a2⟩
 have aM:Qrb (Qhd bs (rd0 x bv)) (rdM bs (rd0 x bv)):=by
  unfold Qhd rdM;obtain⟨a1,a2⟩:=aO;rw[<- a1];cases z:(VZ bs (rd0 x bv)).1==0 with
  | true=>rw[<- a2 (eq_of_beq z)];exact⟨rfl,λ_=>rfl⟩
  | false=>exact⟨a1,a2⟩
 unfold byD Qq1;rw[<- aM.1];cases z:(Qhd bs (rd0 x bv)).1==0 with
 | false=>rfl
 | true=>
  have h0:=eq_of_beq z;rw[<- aM.2 h0];simp only[Lq];have hk:=k3 h0;have hx:(Qhd bs (rd0 x bv)).2.x=x:=hk.1;refine QCe ⟨hz,hl,hk.2.2,by rw[hx];exact ok.len,by rw[hx];exact d2,?_⟩;intro hi;rw[hx]at hi ⊢;cases zo:(VZ bs (rd0 x bv)).1==0 with
  | false=>
   have e:Qhd bs (rd0 x bv)=VZ bs (rd0 x bv):=by unfold Qhd;rw[zo];rfl
   rw[e]at h0;rw[h0]at zo;cases zo
  | true=>
   have e:Qhd bs (rd0 x bv)=Qcs bs (VZ bs (rd0 x bv)).2:=by unfold Qhd;rw[zo];rfl
   obtain⟨kO,b1,b2⟩:=k2 (eq_of_beq zo);have hxo:(VZ bs (rd0 x bv)).2.x=x:=kO.1;rw[e]at h0 ⊢;have:=QB5 hz hl kO.2.2 b1 b2 h0 (by rw[hxo];exact hi);rw[hxo]at this;exact this
structure DFm (f:Fm):Prop where
 ok:DOk f
 d2:d2F f=true
theorem QJu {T:Qa->Prop} {L:List Fm} {bs:List Int} (hR:∀H,T H->Qh prog Wt [] H λu H'=>QiS H H' u L) (hL:∀f∈L,DFm f) (va:Value) (hT:∀H H',H.Wf->T H->Ext H H'->T H') (H:Qa) (ht:T H) (hb:ByC H va bs) (hbl:bs.length<=1000000) (hz:∀z∈bs,0<=z∧z<256):
  Qh prog QIo [va] H (Qe1 H (QIG bs L 4)):=by
 refine QII λhw=>?_;simp only[QIy,Qb,simprocAttr];have hx0:Ext H (H.push (.cells [.int .i64 0,.slice none 0 0] Qd false)):=(Ext.refl H).push _;have hg0:(H.push (.cells [.int .i64 0,.slice none 0 0] Qd false)).get H.next=some (.cells [.int .i64 0,.slice none 0 0] Qd false):=by rw[Qi,Lc rfl]
 have hw0:=hw.push (.cells [.int .i64 0,.slice none 0 0] Qd false);generalize H.push (.cells [.int .i64 0,.slice none 0 0] Qd false)=H0 at hx0 hg0 hw0;refine(hR H0 (hT _ _ hw ht hx0)).thenW ?_;rintro v1 H1 hn1 hw1 ⟨hx1,ys,e1,ha1,hl1,hf1⟩;obtain⟨⟨aa,cap,rfl,hsl⟩,hxa⟩:=id ha1.fms;rw[<- e1]at hL;rw[<- e1];obtain⟨r,hr⟩:∃r,r=QIG bs (ys.map (·.f)) 4:=⟨_,rfl⟩;rw[<- hr];have hlt0:=hw0.lt hg0;simp only[Qb,simprocAttr];refine QE (λm A' H'=>∃ (k:Nat) (cut:Bool),k<=ys.length∧m=ys.length - k∧H'.Wf∧Ext H1 H'∧
   A' 0=va∧A' 2=.pointer (some ⟨H.next,0,none⟩)∧A' 5=.bool cut∧A' 6=.slice aa ys.length cap∧A' 7=.int .i64 k∧r=QIG bs ((ys.map (·.f)).drop k) (if cut=true then 9 else 4)) ys.length ?_ ?_
 ·refine⟨0,false,L7 _,by omega,hw1,.refl _,?_,?_,?_,?_,?_,hr⟩
  all_goals simp only[Qg,simprocAttr]
  all_goals rfl
 ·rintro m A' H3 ⟨k,cut,hk,rfl,hw3,hx3,r0,r2,r5,r6,r7,hrk⟩;have hg3:H3.get H.next=some (.cells [.int .i64 0,.slice none 0 0] Qd false):=by rw[(hx1.trans hx3).get _ hlt0];exact hg0
  simp only[QIv,Qb,simprocAttr,r6,r7,Qp];refine Qf (λh3=>?_) (λh3=>?_)
  ·have h3:k<ys.length:=by have:=Lg h3;omega
   obtain⟨b1,e1',ro1,rfl,hg1⟩:=hsl (by omega);have hg3':H3.get b1=some (.cells (Q3 ys) e1' ro1):=by rw[hx3.get _ (hw1.lt hg1)];exact hg1
   have d1:(0:Int)<=k∧(k:Int)<ys.length:=by omega
   have d3:(k:Int).toNat=k:=by omega
   have d4:k * 10+10<=ys.length * 10:=by omega
   have ek:IntKind.i64.wrap ((k:Int)+1)=((k+1:Nat):Int):=by rw[w64 (by unfold I64;omega)];omega
   have hpk:=La h3;have hmk:(ys.map (·.f))[k]? = some ys[k].f:=by rw[LD,hpk];rfl
   have dd:=QdI ys k _ hpk;have nn:=W0 ys;have hym:ys[k]∈ys:=Nb h3;have wk:=(hxa _ hym).ext hw1 hx3;rw[QJa bs hmk]at hrk;generalize ys[k]=x at hpk dd hym wk hrk;have ak:=YI wk;have hxa1:Ext H H3:=(hx0.trans hx1).trans hx3;have hLx:=hL x.f (Rw hym);simp only[QIu,Qb,simprocAttr,r0,r6,r7,d1,d3,d4,hg3',nn,dd,QG,Wu,ak];have qb:=QGi x va bs H3 wk (hb.ext hw hxa1) hbl hz hLx.ok;rw[QD9 va hz hbl hLx.ok hLx.d2]at qb;refine qb.thenW ?_;rintro _ G2 hn4 hw4 ⟨hxG2,v',rfl,hv',hfr⟩;generalize Qnq bs x.f=d at *;obtain⟨va',vc',rfl,hv2⟩:=id hv';have hgG2:G2.get H.next=some (.cells [.int .i64 0,.slice none 0 0] Qd false):=by rw[hxG2.get _ (hw3.lt hg3)];exact hg3
   have hltG:=hw4.lt hgG2;simp only[Qb,simprocAttr];generalize hG3:Qa.set _ G2.next _=G3;have hx23:Ext G2 G3:=by rw[<- hG3];exact((Ext.refl G2).push _).set (Lb _) _
   have hw5:G3.Wf:=by rw[<- hG3];exact(hw4.push _).set (by rw[Qi,Lc rfl]) _
   have g3:G3.get G2.next=some (.cells [.int .i64 d.op,.slice va' d.l.length vc'] Qd false):=by rw[<- hG3,Qm,Lc rfl]
   clear hG3;have hgG3:=(hx23.get _ hltG).trans hgG2;have hxf:=(hxa1.trans hxG2).trans hx23;cases z:d.e==0 with
   | true=>
    rw[Lc z]at hrk;have z0:d.e=0:=eq_of_beq z;simp only[Qb,simprocAttr,r2,g3,hgG3,QIl];have hGn:=hxa1.next;have hl3:=hw3.lt hg3;refine .mk (hxf.set (Lb _) _).next ⟨hxf.set (Lb _) _,_,by rw[hrk,z0],?_,λa n c h=>?_⟩
    ·rw[hrk];refine⟨va',vc',rfl,λh=>?_⟩;obtain⟨b2,e2,ro2,rfl,hg⟩:=hv2 h;have h1:=hfr _ _ _ rfl;have h2:=hw4.lt hg;simp only at h1;exact⟨b2,e2,ro2,rfl,by rw[Qm,Le (by omega),hx23.get _ h2];exact hg⟩
    ·have:=hfr a n c h;omega
   | false=>
    rw[Le (by rw[z];decide)]at hrk;simp only[Qb,simprocAttr,r5];have hxx:=hx3.trans (hxG2.trans hx23);cases cut with
    | true=>
     simp only[Qb,simprocAttr,L8,r7,ek];refine⟨ys.length - (k+1),by omega,k+1,true,by omega,rfl,hw5,hxx,?_,?_,?_,?_,?_,?_⟩
     all_goals (try simp only[Qg,simprocAttr,r0,r2,r5,r6])
     rw[hrk];cases d.e==9<;>rfl
    | false=>
     simp only[Qb,simprocAttr,LM,r7,ek];cases h9:d.e==9 with
     | true=>
      rw[Lc h9]at hrk;refine⟨ys.length - (k+1),by omega,k+1,true,by omega,rfl,hw5,hxx,?_,?_,?_,?_,?_,hrk⟩
      all_goals simp only[Qg,simprocAttr,r0,r2,r6]
     | false=>
      rw[Le (by rw[h9];decide)]at hrk;refine⟨ys.length - (k+1),by omega,k+1,false,by omega,rfl,hw5,hxx,?_,?_,?_,?_,?_,hrk⟩
      all_goals simp only[Qg,simprocAttr,r0,r2,r6]
  ·have h3:k=ys.length:=by have:=Ll h3;omega
   subst h3;rw[NR (by rw[Nn];exact Lb _)]at hrk;have hxx:=hx0.trans (hx1.trans hx3);cases cut with
   | true=>
    have hr2:r=Qgi 9:=hrk;simp only[QIk,Qb,simprocAttr,r2,r5,hg3,QIl];exact .mk (hxx.set (Lb _) _).next ⟨hxx.set (Lb _) _,_,by rw[hr2];rfl,by rw[hr2];exact⟨none,0,rfl,λh=>absurd h (NX 0)⟩,λa n c h=>by cases h⟩
   | false=>
    have hr2:r=Qgi 4:=hrk;simp only[QIk,Qb,simprocAttr,r2,r5,hg3,QIl];exact .mk (hxx.set (Lb _) _).next ⟨hxx.set (Lb _) _,_,by rw[hr2];rfl,by rw[hr2];exact⟨none,0,rfl,λh=>absurd h (NX 0)⟩,λa n c h=>by cases h⟩
theorem QJj {bs:List Int}:∀ (l:List Fm) (err:Int),(∀f∈l,(Qnq bs f).e≠0)->QIG bs l err=Qgi (if(l.any λf=>(Qnq bs f).e==9)=true then 9 else err)
 | [],_,_=>rfl
 | f::l,err,h=>by
  have h0:=h f (Ny ..);rw[QIV,Le (by simpa using h0),QJj l _ λg hg=>h g (NA _ hg),List.any_cons];cases(Qnq bs f).e==9 with
  | true=>rw[Lc rfl,N1,Lc rfl];split<;>rfl
  | false=>rw[Nt];rfl
theorem QJO {L M:List Fm} (hfit:∀f∈L,QH6 f=true) (hap:∀ (i k:Nat) (a b:Fm),L[i]? = some a->L[k]? = some b->QsI a b=decide (i=k)) (hM:∀f,f∈M↔f∈L) {bs:List Int} (hb:Qnr bs) (hl:bs.length<=1000000):QIG bs M 4=QIG bs (Qg9 bs true 0 L) 4:=by
 have hLd:∀g∈L,g.vex=false->Zs g∈QHk:=λg hg hv=>QI8 (QIJ (hfit g hg) hv);have hno:∀f∈L,f.vex=false->∀l∈QHk,QFX f l=false:=λf hf hv=>(QIJ (hfit f hf) hv).no;have uniq:∀f∈L,(Qnq bs f).e=0->∀g∈L,(Qnq bs g).e=0->Qnq bs g=Qnq bs f:=λf hf h g hg h'=>by
  obtain⟨i,hi⟩:=Bx.1 hf;obtain⟨j,hj⟩:=Bx.1 hg;have hm:=QJt hl hb (hfit f hf) (hfit g hg) h h';rw[hap i j f g hi hj]at hm;have e:=Lg hm;subst e;rw[hi]at hj;rw[Ly hj]
 by_cases hex:∃f∈L,(Qnq bs f).e=0
 ·obtain⟨f,hf,h⟩:=hex;rw[QJi h M 4 ((hM f).2 hf) λg hg h'=>uniq f hf h g ((hM g).1 hg) h',QJi h (Qg9 bs true 0 L) 4 (QJG hl hb (QIH (hfit f hf)).1 hf hLd (hno f hf) h) λg hg h'=>uniq f hf h g (QIw g bs true 0 L hg) h']
 ·have n0:∀f∈L,(Qnq bs f).e≠0:=λf hf h=>hex ⟨f,hf,h⟩;rw[QJj M 4 λf hf=>n0 f ((hM f).1 hf),QJj (Qg9 bs true 0 L) 4 λf hf=>n0 f (QIw f bs true 0 L hf)];have he:(M.any λf=>(Qnq bs f).e==9)=((Qg9 bs true 0 L).any λf=>(Qnq bs f).e==9):=by
   rw[Ni,Bh,Bh];constructor
   ·rintro⟨f,hf,h⟩;have hf:=(hM f).1 hf;exact⟨f,QJJ hl hb (QIH (hfit f hf)).1 hf hLd (hno f hf) (λhv=>(QIJ (hfit f hf) hv).op) (λhv=>(QIJ (hfit f hf) hv).nr) (eq_of_beq h),h⟩
   ·rintro⟨f,hf,h⟩;exact⟨f,(hM f).2 (QIw f bs true 0 L hf),h⟩
  rw[he]
end Go.Proofs.YtfofbicfabokbaaGreatDoor.code
