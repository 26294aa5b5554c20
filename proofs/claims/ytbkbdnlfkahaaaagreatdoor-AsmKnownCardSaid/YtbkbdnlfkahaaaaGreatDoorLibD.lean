/- decode: escape, lead, takes. -/
import Derived.Test.YtbkbdnlfkahaaaaGreatDoorLibA
set_option linter.unusedVariables false
set_option linter.unusedSimpArgs false
set_option maxRecDepth 100000
noncomputable section
namespace Go.Proofs.YtbkbdnlfkahaaaaGreatDoor.code
open Go.Ab
def QaH (n:Int):List UInt8:=bif n==1 then[15] else bif n==2 then[15,56] else bif n==3 then[15,58] else[]
theorem Kz (n:Int) (H:Qa):Qm prog Xj [.int .i64 n] H λu H'=>u=.string (mkS (QaH n))∧H'=H:=by
 refine JP λhw=>?_;simp only[Ym,QO,simprocAttr];cases h1:n==1<;>simp only[QO,simprocAttr,WU]
 ·cases h2:n==2<;>simp only[QO,simprocAttr,WU]
  ·cases h3:n==3<;>simp only[QO,simprocAttr,WU]
   ·exact .mk (Lb _) ⟨by simp[QaH,h1,h2,h3],rfl⟩
   ·exact .mk (Lb _) ⟨by simp[QaH,h1,h2,h3],rfl⟩
  ·exact .mk (Lb _) ⟨by simp[QaH,h1,h2],rfl⟩
 ·exact .mk (Lb _) ⟨by simp[QaH,h1],rfl⟩
def Qff (n b:Int):Bool:=!(IntKind.i64.wrap (BitVec.ofInt IntKind.i64.bits n &&& BitVec.ofInt IntKind.i64.bits b).toNat==0)
def Xm (f:Fm):List UInt8:=(bif Qff f.pre 1 then[102] else[])++((bif Qff f.pre 2 then[242] else[])++((bif Qff f.pre 4 then[243] else[])++QaH f.map))
theorem Qg8 (n:Int):(QaH n).length<=2:=by unfold QaH;cases n==1<;>cases n==2<;>cases n==3<;>simp
theorem ZJ (x:Lf) (H:Qa) (hx:x.At H):Qm prog W7 [.agg x.cells.toArray] H λu H'=>u=.string (mkS (Xm x.f))∧∃m,H'=H.up m:=by
 refine GC λhw=>?_;have ec:(Value.agg x.cells.toArray).cells.toList=x.cells:=rfl;have g3:x.cells[3]? = some (.int .i64 x.f.pre):=rfl;have g4:x.cells[4]? = some (.int .i64 x.f.map):=rfl;have he:=Qg8 x.f.map;obtain⟨q1,h1⟩:∃c,Qff x.f.pre 1=c:=⟨_,rfl⟩;obtain⟨q2,h2⟩:∃c,Qff x.f.pre 2=c:=⟨_,rfl⟩;obtain⟨q3,h3⟩:∃c,Qff x.f.pre 4=c:=⟨_,rfl⟩;have d1:(!(IntKind.i64.wrap (BitVec.ofInt IntKind.i64.bits x.f.pre &&& BitVec.ofInt IntKind.i64.bits 1).toNat==0))=q1:=h1;have d2:(!(IntKind.i64.wrap (BitVec.ofInt IntKind.i64.bits x.f.pre &&& BitVec.ofInt IntKind.i64.bits 2).toNat==0))=q2:=h2;have d3:(!(IntKind.i64.wrap (BitVec.ofInt IntKind.i64.bits x.f.pre &&& BitVec.ofInt IntKind.i64.bits 4).toNat==0))=q3:=h3;simp only[Zj,ec,QO,simprocAttr,g3,d1];have fin:∀ (l:List UInt8) (K:Value->Qa->Prop),l.length<=3->K (.string (mkS (l++QaH x.f.map))) (H.push (.cells x.cells Qb false))->True:=λ_ _ _ _=>trivial;cases q1<;>simp only[QO,simprocAttr,YZ,g3,d2,L9,Lo,LP,Nat.reduceAdd,Nat.reduceLeDiff,Bz,LH,Nm]
 all_goals cases q2<;>simp only[QO,simprocAttr,YZ,g3,d3,L9,Lo,LP,Nat.reduceAdd,Nat.reduceLeDiff,Bz,LH,Nm]
 all_goals cases q3<;>simp only[QO,simprocAttr,YZ,g4,L9,Lo,LP,Nat.reduceAdd,Nat.reduceLeDiff,Bz,LH,Nm]
 all_goals
  refine(Kz x.f.map _).mono ?_;rintro _ _ ⟨rfl,rfl⟩;simp only[QO,simprocAttr,YZ,Kr];refine⟨by first | omega | (simp only[L9,Lo];omega),.ext hw ((Ext.refl H).push _) ⟨by simp[Xm,h1,h2,h3],_,rfl⟩⟩
def Qlh (c:Int):Int:=IntKind.i64.wrap (IntKind.u8.wrap (BitVec.ofInt IntKind.u8.bits c &&& ~~~BitVec.ofInt IntKind.u8.bits 7).toNat)
def Wn (f:Fm) (d:Nat) (c:Int):Bool:=
 bif f.vex then(d==0)&&((c==196)||((c==197)&&(f.map==1)&&!(f.w==1)))
 else match (Xm f)[d]? with
  | some b=>c==(b.toNat:Int)
  | none=>bif Nat.blt (Xm f).length d then false else bif decide (0<=Qe9 f.slots 4) then Qlh c==f.code else IntKind.i64.wrap c==f.code
theorem GP (x:Lf) (d:Nat) (c:Int) (H:Qa) (hx:x.At H):Qm prog XI [.agg x.cells.toArray,.int .i64 d,.int .u8 c] H λu H'=>u=.bool (Wn x.f d c)∧∃m,H'=H.up m:=by
 refine Kt λhw=>?_;have ec:(Value.agg x.cells.toArray).cells.toList=x.cells:=rfl;have g8:x.cells[8]? = some (.bool x.f.vex):=rfl;have g4:x.cells[4]? = some (.int .i64 x.f.map):=rfl;have g5:x.cells[5]? = some (.int .i64 x.f.code):=rfl;have g7:x.cells[7]? = some (.int .i64 x.f.w):=rfl;have ha:=W3 hx;have hx1:Ext H (H.push (.cells x.cells Qb false)):=(Ext.refl H).push _;simp only[YL,ec,QO,simprocAttr,g8];cases hv:x.f.vex with
 | true=>
  have ed:((d:Int)==0)=(d==0):=by
   rw[Ni];simp
  simp only[QO,simprocAttr,ed];have ht:Wn x.f d c=((d==0)&&((c==196)||((c==197)&&(x.f.map==1)&&!(x.f.w==1)))):=by simp[Wn,hv]
  rw[ht];cases h1:d==0<;>simp only[QO,simprocAttr,Qv]
  ·exact .ext hw hx1 ⟨rfl,_,rfl⟩
  cases h2:c==196<;>simp only[QO,simprocAttr,Qv]
  ·cases h3:c==197<;>simp only[QO,simprocAttr,g4,Qv]
   ·exact .ext hw hx1 ⟨rfl,_,rfl⟩
   cases h4:x.f.map==1<;>simp only[QO,simprocAttr,g7,Qv]
   ·exact .ext hw hx1 ⟨rfl,_,rfl⟩
   exact .ext hw hx1 ⟨by simp,_,rfl⟩
  ·exact .ext hw hx1 ⟨rfl,_,rfl⟩
 | false=>
  simp only[QO,simprocAttr,Qn,Q4,ha];refine(ZJ x _ (hx.ext hw hx1)).thenW ?_;rintro _ _ hn hw2 ⟨rfl,m,rfl⟩;simp only[G9,Wi]at hn;have hx2:Ext H ((H.push (.cells x.cells Qb false)).up m):=hx1.up (by simp only[Wi];exact hn);have hg2:((H.push (.cells x.cells Qb false)).up m).get H.next=some (.cells x.cells Qb false):=by rw[Qbo,Qg,Lc rfl]
  have hb2:H.next<((H.push (.cells x.cells Qb false)).up m).next:=by simp only[G9];omega
  have eu:∀m',((H.push (.cells x.cells Qb false)).up m).up m'=(H.push (.cells x.cells Qb false)).up m':=λ_=>rfl;simp only[QO,simprocAttr,YZ];have hfin:∀ (H2:Qa),Ext H H2->∀ (b:Bool),b=Wn x.f d c->Ret H (λu H'=>u=.bool (Wn x.f d c)∧∃m,H'=H.up m) (.bool b) H2:=λH2 h2 b hb=>.ext hw h2 ⟨by rw[hb],_,rfl⟩;cases hl:decide ((d:Int)<((Xm x.f).length:Int)) with
  | true=>
   have hl:d<(Xm x.f).length:=by have:=Lg hl;omega
   have c1:(0:Int)<=d:=by omega
   have c2:(d:Int).toNat=d:=by omega
   have hg:=La hl;simp only[QO,simprocAttr,YZ,c1,c2,hg,Qv];refine hfin _ hx2 _ ?_;simp[Wn,hv,hg]
  | false=>
   have hl:(Xm x.f).length<=d:=by have:=Ll hl;omega
   have hg:(Xm x.f)[d]? = none:=N7 hl;simp only[QO,simprocAttr,YZ];cases hl2:decide (((Xm x.f).length:Int)<(d:Int)) with
   | true=>
    have hl2:(Xm x.f).length<d:=by have:=Lg hl2;omega
    simp only[QO,simprocAttr,Qv];refine hfin _ hx2 _ ?_;have:Nat.blt (Xm x.f).length d=true:=by simpa using hl2
    simp[Wn,hv,hg,this]
   | false=>
    have hl2:¬ (Xm x.f).length<d:=by have:=Ll hl2;omega
    have hb:Nat.blt (Xm x.f).length d=false:=by
     cases hb:Nat.blt (Xm x.f).length d with
     | false=>rfl
     | true=>exact absurd (by simpa using hb) hl2
    simp only[QO,simprocAttr,Qn,Q4,ha];refine(QaB x 4 _ (hx.ext hw hx2)).thenW ?_;rintro _ _ hn3 hw3 ⟨rfl,m3,rfl⟩;simp only[G9]at hn3;rw[eu];have hx3:Ext H ((H.push (.cells x.cells Qb false)).up m3):=hx1.up (by simp only[Wi];omega);simp only[QO,simprocAttr];cases h0:decide (0<=Qe9 x.f.slots 4) with
    | true=>
     simp only[QO,simprocAttr,g5,Qv];refine hfin _ hx3 _ ?_;simp[Wn,hv,hg,hb,h0,Qlh]
    | false=>
     simp only[QO,simprocAttr,g5,Qv];refine hfin _ hx3 _ ?_;simp[Wn,hv,hg,hb,h0]
theorem GQ (m:Option Nat):(Value.map m).cells.toList=[.map m]:=Nu rfl rfl
theorem Kj (m:Option Nat):(Value.map m).oneCell'=true:=Nu rfl rfl
def QbN (H H':Qa) (v:Value):Prop:=∀id,id<H.next->(∀a l c,v=.slice (some a) l c->id≠a.block)->H'.get id=H.get id
theorem QbN.a {H H':Qa} {v:Value} (h:QbN H H' v) (hw:H.Wf):YO H H' v:=λid bl hg hn=>by rw[h id (hw.lt hg) hn];exact hg
theorem Acc.app2 {H0 H:Qa} {v:Value} {ys:List Lf} {x:Lf} {b1:Nat} {K:Value->Qa->Prop} (h:Acc H0 H v ys) (hn0:H0.next<=H.next) (hw:H.Wf) (hxa:x.At H) (hl:ys.length<=100000) (hb1:H.get b1=some (.cells x.cells Qb false)) (hne:∀a l c,v=.slice (some a) l c->a.block≠b1)
  (hK:∀v' H',H'.Wf->H.next<=H'.next->Acc H0 H' v' (ys++[x])->(∃a l c,v'=.slice (some a) l c∧H.next<=a.block)->QbN H H' v->K v' H'):Qdl Qb 10 112 v (.slice (some ⟨b1,0,none⟩) 1 1) H K:=by
 have hsrc:JA 10 (.slice (some ⟨b1,0,none⟩) 1 1) H=some (1,x.cells):=by
  have:=Qd3 (size:=10) (m:=1) (b:=b1) (o:=0) (cap:=1) (c:=x.cells) (e:=Qb) (ro:=false) (H:=H) hb1 (by decide) (by rw[Qn];decide);rw[this];rfl
 have a1:=W3 hxa;rcases id h with⟨rfl,rfl⟩ | ⟨b,rfl,hb0,hgb,hyn,hya⟩
 ·refine QbB hsrc a1 (by decide) (by decide) (by decide) ?_;have hk:QbN H (H.push (.cells x.cells Qb false)) (.slice none 0 0):=λid hid _=>by rw[Qg,Le (by omega)]
  refine hK _ _ (hw.push _) (by simp) (.inr ⟨H.next,rfl,hn0,by rw[Qg,Lc rfl];simp[Qo],by simp,λy hy=>?_⟩) ⟨_,_,_,rfl,Lb _⟩ hk;simp only[LH,Sa]at hy;subst hy;exact(hk.a hw).at h hxa
 ·have hbl:=hw.lt hgb;have hbn:b≠b1:=hne _ _ _ rfl;refine QbA rfl hsrc a1 (by decide) (c:=Qo ys) hgb (by rw[QS];omega) (by omega) (by omega) (by unfold UNK;omega) ?_;have hk:QbN H ((H.kill b).push (.cells (Qo ys++x.cells) Qb false)) (.slice (some ⟨b,0,none⟩) ys.length (UNK+10)):=λid hid hn=>by
   rw[Qg,Le (by simp;omega),WW,Le (hn _ _ _ rfl)]
  refine hK (.slice (some ⟨H.next,0,none⟩) (ys.length+1) (UNK+10)) ((H.kill b).push (.cells (Qo ys++x.cells) Qb false)) ((hw.kill _).push _) (by simp)
   (.inr ⟨H.next,by simp,hn0,by rw[Qg,Lc (by simp),Kg],by simp,λy hy=>?_⟩) ⟨_,_,_,rfl,Lb _⟩ hk
  simp only[LI,Sa]at hy;rcases hy with hy | rfl
  ·exact(hk.a hw).at h (hya y hy)
  ·exact(hk.a hw).at h hxa
def Qfg (H0 H:Qa) (v:Value) (d:Nat) (ys:List Lf):Prop:=∃b mb fv,v=.pointer (some ⟨b,0,none⟩)∧H0.next<=b∧H0.next<=mb∧H.get b=some (.cells [.int .i64 d,fv,.map (some mb)] Qj false)∧H.get mb=some (.map [])∧Acc H0 H fv ys
theorem Yo.setMap {H:Qa} {v:Value} {n:Nat} {cs:List Value} {m:Nat} {es:List (Value×Value)} {b:Blk} (hm:H.get m=some (.map es)) (h:Yo H v n cs):Yo (H.set m b) v n cs:=by
 obtain⟨a,cap,rfl,h1⟩:=h;refine⟨a,cap,rfl,λhn=>?_⟩;obtain⟨b1,e1,ro1,rfl,hb1⟩:=h1 hn;refine⟨b1,e1,ro1,rfl,?_⟩;rw[Wa,Le (λe=>by subst e;rw[hm]at hb1;cases hb1)];exact hb1
theorem Lf.At.setMap {H:Qa} {x:Lf} {m:Nat} {es:List (Value×Value)} {b:Blk} (hm:H.get m=some (.map es)) (h:x.At H):x.At (H.set m b):=⟨h.1,h.2.1,h.2.2.1.setMap hm,h.2.2.2.setMap hm⟩
theorem Acc.setMap {H0 H:Qa} {v:Value} {ys:List Lf} {m:Nat} {es:List (Value×Value)} {b:Blk} (hm:H.get m=some (.map es)) (h:Acc H0 H v ys):Acc H0 (H.set m b) v ys:=by
 rcases h with h | ⟨b1,h1,h2,h3,h4,h5⟩
 ·exact .inl h
 ·refine .inr ⟨b1,h1,h2,?_,h4,λy hy=>(h5 y hy).setMap hm⟩;rw[Wa,Le (λe=>by subst e;rw[hm]at h3;cases h3)];exact h3
section
variable {T:Qa->Prop} {L:List Fm} (hR:∀H,T H->Qm prog QJ [] H λu H'=>QaC H H' u L)
include hR
theorem Vg (H:Qa) (ht:T H):Qm prog X5 [] H λu H'=>Ext H H'∧∃ys:List Lf,ys.map (·.f)=L∧Qfg H H' u 0 ys∧ys.length<=6000∧∀y∈ys,y.Fr H.next:=by
 refine GA λhw=>?_;simp only[Zh,QO,simprocAttr];refine(hR H ht).thenW ?_;rintro u H1 hn1 hw1 ⟨hx1,ys,e1,ha,hl,hf⟩;have hfm:=ha.fms;obtain⟨aa,cap,rfl,_⟩:=id hfm.1;simp only[QO,simprocAttr,Ke,GQ,Kj,Nat.reduceMul,Kq];have hx2:Ext H1 ((H1.push (.map [])).push (.cells [.int .i64 0,.slice aa ys.length cap,.map (some H1.next)] Qj false)):=((Ext.refl H1).push _).push _;refine .mk ((hx1.trans hx2).next) ⟨hx1.trans hx2,ys,e1,⟨H1.next+1,H1.next,_,rfl,by have:=hx1.next;omega,hx1.next,?_,?_,ha.ext hw1 hx2⟩,hl,hf⟩
 ·rw[Qg,Lc (by simp)];rfl
 ·rw[Qg,Le (by simp),Qg,Lc rfl]
end
def Qec (d:Nat) (L:List Fm):Bool:=match L with
 | []=>false
 | f::_=>bif f.vex then d==0 else Nat.ble d (Xm f).length
theorem Vh {H0 H:Qa} {v:Value} {d:Nat} {ys:List Lf} (hN:Qfg H0 H v d ys) (hl:ys.length<=6000):Qm prog WF [v] H λu H'=>u=.bool (Qec d (ys.map (·.f)))∧∃m,H'=H.up m:=by
 refine Zx λhw=>?_;obtain⟨b,mb,fv,rfl,hb0,hmb0,hb,hmb,ha⟩:=hN;have hfm:=ha.fms;obtain⟨⟨aa,cap,rfl,hsl⟩,hxa⟩:=id hfm;simp only[Xl,QO,simprocAttr,hb];cases h0:((ys.length:Int)==0) with
 | true=>
  have h0:ys=[]:=by
   have:(ys.length:Int)=0:=by simpa using h0
   exact N2.1 (by omega)
  simp only[QO,simprocAttr,Wm];exact .mk (Lb _) ⟨by rw[h0];rfl,_,rfl⟩
 | false=>
  have hlp:0<ys.length:=by
   have:¬ (ys.length:Int)=0:=by simpa using h0
   omega
  obtain⟨b1,e1,ro1,rfl,hb1⟩:=hsl hlp;have hy:=La hlp;have hop:∀z,ys[0]? = some z->Qec d (ys.map (·.f))=bif z.f.vex then d==0 else Nat.ble d (Xm z.f).length:=λz hz=>by
   cases ys with
   | nil=>simp at hz
   | cons a l=>simp at hz;subst hz;rfl
  generalize ys[0]'hlp=y at hy;have hym:=Ln hy;have hop:=hop y hy;have d1:(0:Int)<=0∧(0:Int)<(ys.length:Int):=by omega
  have d3:(0:Int).toNat=0:=rfl;have nn:=QS ys;have d4:10<=ys.length * 10:=by omega
  have dd:=Yp ys 0 y hy;rw[BH,Lw]at dd;have wk:=hxa y hym;have ak:=W3 wk;have g8:y.cells[8]? = some (.bool y.f.vex):=rfl;have hbl:=hw.lt hb;have hbn:¬b=H.next:=by omega
  simp only[QO,simprocAttr,hb,d1,d3,d4,hb1,nn,dd,Qn,Q4,ak,g8];obtain⟨G1,hG1⟩:∃h,h=(H.push (.cells [.int .i64 0,.slice none 0 0,.slice none 0 0,.int .i64 0,.int .i64 0,.int .i64 0,.int .i64 0,.int .i64 0,.bool false,.int .i64 0] Qb false)).set H.next (.cells y.cells Qb false):=⟨_,rfl⟩;have hwG1:G1.Wf:=by rw[hG1];exact(hw.push _).set (by rw[Qg,Lc rfl]) _
  have hxG1:Ext H G1:=by rw[hG1];exact((Ext.refl H).push _).set (Lb _) _
  have hgG1:G1.get H.next=some (.cells y.cells Qb false):=by rw[hG1,Wa,Lc rfl]
  have hbG1:G1.get b=some (.cells [.int .i64 d,.slice (some ⟨b1,0,none⟩) ys.length cap,.map (some mb)] Qj false):=by rw[hxG1.get _ hbl];exact hb
  simp only[<- hG1];cases hv:y.f.vex with
  | true=>
   rw[hv]at hop;have ed:((d:Int)==0)=(d==0):=by rw[Ni];simp
   simp only[QO,simprocAttr,hbG1,ed,Wm];exact .ext hw hxG1 ⟨by rw[hop];rfl,_,rfl⟩
  | false=>
   rw[hv]at hop;simp only[QO,simprocAttr,hbG1,hgG1,Qn,Q4,ak];refine⟨rfl,(ZJ y G1 (wk.ext hw hxG1)).thenW ?_⟩;rintro _ _ hn2 hw2 ⟨rfl,m2,rfl⟩;simp only[G9]at hn2;simp only[QO,simprocAttr,YZ,Wm];refine⟨λ_ _=>rfl,.ext hw (hxG1.up hn2) ⟨?_,_,rfl⟩⟩;rw[hop];congr 1;rw[Ni];simp
structure QbO (ty:TypeId):Prop where
 m:∃kt e td inf,prog.underlying ty=some (.map kt e)∧prog.underlying kt=some td∧prog.info? e=some inf∧inf.zero=some (.pointer none)∧∀c,XR td (.int .u8 c)=true
theorem Zl {H0 H:Qa} {v:Value} {d:Nat} {ys:List Lf} (hty:QbO QL) (hN:Qfg H0 H v d ys) (hx0:Ext H0 H) (hl:ys.length<=6000) (hd:d<=1000000) (c:Int):Qm prog Wt [v,.int .u8 c] H λu H'=>Ext H0 H'∧∃zs:List Lf,zs.map (·.f)=(ys.map (·.f)).filter (λf=>Wn f d c)∧Qfg H0 H' u (d+1) zs∧zs.length<=ys.length∧∀z∈zs,z∈ys:=by
 refine Zi λhw=>?_;obtain⟨kt,et,td,inf,ty1,ty2,ty3,ty4,ty5⟩:=hty.m;obtain⟨b,mb,fv,rfl,hb0,hmb0,hb,hmb,ha⟩:=hN;have hfm:=ha.fms;obtain⟨⟨aa,cap,rfl,hsl⟩,hxa⟩:=id hfm;have hbl:=hw.lt hb;have hmbl:=hw.lt hmb;have hbm:b≠mb:=λe=>by subst e;rw[hb]at hmb;cases hmb
 simp only[Xc,sxA,sxB,Nat.reduceBEq,Nat.reduceEqDiff,reduceCtorEq,mxA,mxB,Nat.reduceAdd,reduceIte,Nat.reduceLeDiff,splice,hb];rw[Qe6 (m:=mb) ty1 ty2 ty3 ty4 rfl (by simp only[uxA,uxB,Nat.reduceBEq]) (by simp only[uxA,uxB,Nat.reduceBEq];exact ty5 c) hmb];have n1:¬b=H.next:=by omega
 have n2:¬b=H.next+1:=by omega
 have ed:IntKind.i64.wrap ((d:Int)+1)=((d+1:Nat):Int):=by rw[w64 (by unfold I64;omega)];omega
 simp only[sxA,sxB,Nat.reduceBEq,Nat.reduceEqDiff,reduceCtorEq,mxA,mxB,Nat.reduceAdd,reduceIte,Nat.reduceLeDiff,splice,hb,n1,n2,ed,GQ,Kj,Nat.reduceMul];have hx1:Ext H ((H.push (.map [])).push (.cells [.int .i64 ((d+1:Nat):Int),.slice none 0 0,.map (some H.next)] Qj false)):=((Ext.refl H).push _).push _;have hm1:((H.push (.map [])).push (.cells [.int .i64 ((d+1:Nat):Int),.slice none 0 0,.map (some H.next)] Qj false)).get H.next=some (.map []):=by rw[Qg,Le (by simp),Qg,Lc rfl]
 have hb1:((H.push (.map [])).push (.cells [.int .i64 ((d+1:Nat):Int),.slice none 0 0,.map (some H.next)] Qj false)).get (H.next+1)=some (.cells [.int .i64 ((d+1:Nat):Int),.slice none 0 0,.map (some H.next)] Qj false):=by rw[Qg,Lc (by simp)]
 have hw1:=(hw.push (.map [])).push (.cells [.int .i64 ((d+1:Nat):Int),.slice none 0 0,.map (some H.next)] Qj false);have hn1:((H.push (.map [])).push (.cells [.int .i64 ((d+1:Nat):Int),.slice none 0 0,.map (some H.next)] Qj false)).next=H.next+2:=rfl;generalize (H.push (.map [])).push (.cells [.int .i64 ((d+1:Nat):Int),.slice none 0 0,.map (some H.next)] Qj false)=H1 at hx1 hm1 hb1 hw1 hn1;refine XH (λm A' H'=>∃ (k:Nat) (zs:List Lf) (av:Value),k<=ys.length∧m=ys.length - k∧H'.Wf∧Ext H H'∧H1.next<=H'.next∧H'.get H.next=some (.map [])∧H'.get (H.next+1)=some (.cells [.int .i64 ((d+1:Nat):Int),av,.map (some H.next)] Qj false)∧Acc H1 H' av zs∧
   zs.map (·.f)=((ys.take k).map (·.f)).filter (λf=>Wn f d c)∧zs.length<=k∧(∀z∈zs,z∈ys)∧
   A' 0=.pointer (some ⟨b,0,none⟩)∧A' 1=.int .u8 c∧A' 7=.pointer (some ⟨H.next+1,0,none⟩)∧A' 32=.slice aa ys.length cap∧A' 33=.int .i64 ys.length∧A' 34=.int .i64 k) ys.length ?_ ?_
 ·refine⟨0,[],.slice none 0 0,L7 _,by omega,hw1,hx1,Lb _,hm1,hb1,.inl ⟨rfl,rfl⟩,by simp,by simp,λz hz=>(by cases hz),?_,?_,?_,?_,?_,?_⟩
  all_goals simp only[uxA,uxB,Nat.reduceBEq]
  rfl
 ·rintro m A' H3 ⟨k,zs,av,hk,rfl,hw3,hx3,hn3,hm3,hb3,hac3,hzs,hzl,hzy,r0,r1,r7,r32,r33,r34⟩;simp only[sxA,sxB,Nat.reduceBEq,Nat.reduceEqDiff,reduceCtorEq,mxA,mxB,Nat.reduceAdd,reduceIte,Nat.reduceLeDiff,splice,r33,r34];have hbH3:H3.get b=some (.cells [.int .i64 (d:Int),.slice aa ys.length cap,.map (some mb)] Qj false):=by rw[hx3.get _ hbl];exact hb
  refine Yk (λh3=>?_) (λh3=>?_)
  ·have h3:k<ys.length:=by have:=Lg h3;omega
   obtain⟨b1,e1',ro1,rfl,hg1⟩:=hsl (by omega);have hg3:H3.get b1=some (.cells (Qo ys) e1' ro1):=by rw[hx3.get _ (hw.lt hg1)];exact hg1
   have d1:(0:Int)<=k∧(k:Int)<ys.length:=by omega
   have d3:(k:Int).toNat=k:=by omega
   have d4:k * 10+10<=ys.length * 10:=by omega
   have ek:IntKind.i64.wrap ((k:Int)+1)=((k+1:Nat):Int):=by rw[w64 (by unfold I64;omega)];omega
   have hpk:=La h3;have dd:=Yp ys k _ hpk;have nn:=QS ys;have hym:ys[k]∈ys:=Nb h3;have wk:=(hxa _ hym).ext hw hx3;have hxtk:ys.take (k+1)=ys.take k++[ys[k]]:=NM h3;generalize ys[k]=x at hpk dd hym wk hxtk;have ak:=W3 wk;have hbl3:=hw3.lt hbH3;have n3:¬b=H3.next:=by omega
   simp only[sxA,sxB,Nat.reduceBEq,Nat.reduceEqDiff,reduceCtorEq,mxA,mxB,Nat.reduceAdd,reduceIte,Nat.reduceLeDiff,splice,r0,r1,r7,r32,r34,d1,d3,d4,hg3,nn,dd,Qn,Q4,ak,hbH3,n3];obtain⟨G1,hG1⟩:∃h,h=(H3.push (.cells [.int .i64 0,.slice none 0 0,.slice none 0 0,.int .i64 0,.int .i64 0,.int .i64 0,.int .i64 0,.int .i64 0,.bool false,.int .i64 0] Qb false)).set H3.next (.cells x.cells Qb false):=⟨_,rfl⟩;have hwG1:G1.Wf:=by rw[hG1];exact(hw3.push _).set (by rw[Qg,Lc rfl]) _
   have hxG1:Ext H3 G1:=by rw[hG1];exact((Ext.refl H3).push _).set (Lb _) _
   have hgG1:G1.get H3.next=some (.cells x.cells Qb false):=by rw[hG1,Wa,Lc rfl]
   have hnG1:G1.next=H3.next+1:=by rw[hG1];rfl
   simp only[<- hG1];refine(GP x d c G1 (wk.ext hw3 hxG1)).thenW ?_;rintro _ G2 hn4 hw4 ⟨rfl,m4,rfl⟩;simp only[G9]at hn4;have hxG2:Ext H3 (G1.up m4):=hxG1.up hn4;have hgG2:(G1.up m4).get H3.next=some (.cells x.cells Qb false):=by rw[Qbo];exact hgG1
   have hnG2:H3.next+1<=(G1.up m4).next:=by simp only[G9];omega
   generalize G1.up m4=G2 at hw4 hxG2 hgG2 hnG2;have hfil:((ys.take (k+1)).map (·.f)).filter (λf=>Wn f d c)=((ys.take k).map (·.f)).filter (λf=>Wn f d c)++bif Wn x.f d c then[x.f] else[]:=by
    rw[hxtk,N6,Re];cases hpx:Wn x.f d c<;>simp[hpx]
   have hmG2:G2.get H.next=some (.map []):=by rw[hxG2.get _ (hw3.lt hm3)];exact hm3
   have hbG2:G2.get (H.next+1)=some (.cells [.int .i64 ((d+1:Nat):Int),av,.map (some H.next)] Qj false):=by rw[hxG2.get _ (hw3.lt hb3)];exact hb3
   simp only[sxA,sxB,Nat.reduceBEq,Nat.reduceEqDiff,reduceCtorEq,mxA,mxB,Nat.reduceAdd,reduceIte,Nat.reduceLeDiff,splice];cases hpx:Wn x.f d c
   ·rw[hpx]at hfil;simp only[sxA,sxB,Nat.reduceBEq,Nat.reduceEqDiff,reduceCtorEq,mxA,mxB,Nat.reduceAdd,reduceIte,Nat.reduceLeDiff,splice,r34,ek];refine⟨ys.length - (k+1),by omega,k+1,zs,av,by omega,rfl,hw4,hx3.trans hxG2,by omega,hmG2,hbG2,hac3.ext hw3 hxG2,by rw[hfil,hzs];simp,by omega,hzy,?_,?_,?_,?_,?_,?_⟩
    all_goals simp only[uxA,uxB,Nat.reduceBEq,r0,r1,r7,r32,r33]
   ·rw[hpx]at hfil;have n5:¬H.next+1=G2.next:=by omega
    simp only[sxA,sxB,Nat.reduceBEq,Nat.reduceEqDiff,reduceCtorEq,mxA,mxB,Nat.reduceAdd,reduceIte,Nat.reduceLeDiff,splice,r7,hgG2,hbG2,Qn,Q4,ak,n5];have hx5:Ext H3 (G2.push (.cells x.cells Qb false)):=hxG2.push _;have hac5:=hac3.ext hw3 hx5;refine Acc.app2 hac5 (by simp only[Wi];omega) (hw4.push _) (wk.ext hw3 hx5) (by omega) (by rw[Qg,Lc rfl]) (λa l c' hv e=>?_) λv' H6 y2 y3 y4 y5 y6=>?_
    ·rcases hac3 with⟨h,_⟩ | ⟨b2,h,_,h3',_⟩
     ·rw[h]at hv;cases hv
     ·rw[h]at hv;cases hv;have:=hw3.lt h3';simp only at e;omega
    ·obtain⟨a6,l6,c6,rfl,hb6⟩:=y5;simp only[Wi]at y3 hb6;have hav:∀id,id<H1.next->∀a l c,av=.slice (some a) l c->id≠a.block:=λid hid a l c e=>by
      rcases hac3 with⟨h,_⟩ | ⟨b2,h,h2,_⟩
      ·rw[h]at e;cases e
      ·rw[h]at e;cases e;simp only;omega
     have hb7:H6.get (H.next+1)=some (.cells [.int .i64 ((d+1:Nat):Int),av,.map (some H.next)] Qj false):=by
      rw[y6 _ (by simp only[Wi];omega) (hav _ (by omega)),Qg,Le n5];exact hbG2
     have hm7:H6.get H.next=some (.map []):=by
      rw[y6 _ (by simp only[Wi];omega) (hav _ (by omega)),Qg,Le (by omega)];exact hmG2
     have hx7:Ext H H6:=⟨by have:=hx3.next;omega,λid hid=>by
      rw[y6 _ (by simp only[Wi];omega) (hav _ (by omega)),Qg,Le (by omega),hxG2.get _ (by have:=hx3.next;omega)];exact hx3.get _ hid⟩
     simp only[sxA,sxB,Nat.reduceBEq,Nat.reduceEqDiff,reduceCtorEq,mxA,mxB,Nat.reduceAdd,reduceIte,Nat.reduceLeDiff,splice,r34,ek,hb7];refine⟨ys.length - (k+1),by omega,k+1,zs++[x],.slice (some a6) l6 c6,by omega,rfl,y2.set hb7 _,hx7.set (by omega) _,by simp only[QaI];omega,by rw[Wa,Le (by omega)];exact hm7,by rw[Wa,Lc rfl],?_,by rw[hfil,N6,hzs];simp,by simp;omega,?_,?_,?_,?_,?_,?_,?_⟩
     ·rcases y4 with⟨h,_⟩ | ⟨b8,h,g1,g2,g3,g4⟩
      ·cases h
      ·refine .inr ⟨b8,h,g1,?_,g3,λy hy=>?_⟩
       ·rw[Wa,Le (by omega)];exact g2
       ·have hq:=g4 y hy;have keep:∀ (s:Value) (l:List Int),Yo H6 s l.length (ints l)->Yo (H6.set (H.next+1) (.cells [.int .i64 ((d+1:Nat):Int),.slice (some a6) l6 c6,.map (some H.next)] Qj false)) s l.length (ints l):=λs l h=>by
         obtain⟨a,cp,rfl,h1⟩:=h;refine⟨a,cp,rfl,λhn=>?_⟩;obtain⟨bb,ee,rr,rfl,hbb⟩:=h1 hn;refine⟨bb,ee,rr,rfl,?_⟩;rw[Wa,Le (λe=>?_)]
         ·exact hbb
         ·subst e;rw[hb7]at hbb;simp only[Lt,Blk.cells.injEq]at hbb;have h2:(ints l)[2]? = some (.map (some H.next)):=by rw[<- hbb.1];rfl
          unfold ints at h2;rw[LD]at h2;cases hl2:l[2]? with
          | none=>rw[hl2]at h2;cases h2
          | some z=>rw[hl2]at h2;cases h2
        exact⟨hq.1,hq.2.1,keep _ _ hq.2.2.1,keep _ _ hq.2.2.2⟩
     ·intro z hz;simp only[LI,Sa]at hz;rcases hz with hz | rfl
      ·exact hzy z hz
      ·exact hym
     all_goals simp only[uxA,uxB,Nat.reduceBEq,r0,r1,r7,r32,r33]
  ·have h3:k=ys.length:=by have:=Ll h3;omega
   subst h3;have hmbH3:H3.get mb=some (.map []):=by rw[hx3.get _ hmbl];exact hmb
   simp only[sxA,sxB,Nat.reduceBEq,Nat.reduceEqDiff,reduceCtorEq,mxA,mxB,Nat.reduceAdd,reduceIte,Nat.reduceLeDiff,splice,r0,r1,r7,hbH3];rw[QgX (m:=mb) ty1 ty2 (by simp only[uxA,uxB,Nat.reduceBEq]) (by simp only[uxA,uxB,Nat.reduceBEq];exact ty5 c) hmbH3];simp only[sxA,sxB,Nat.reduceBEq,Nat.reduceEqDiff,reduceCtorEq,mxA,mxB,Nat.reduceAdd,reduceIte,Nat.reduceLeDiff,splice,r7,YT];have hx03:=hx0.trans hx3;rw[LF (Lb _)]at hzs;refine .mk (by simp only[QaI];exact hx3.next) ⟨hx03.set hmb0 _,zs,hzs,⟨H.next+1,H.next,av,rfl,by have:=hx0.next;omega,hx0.next,?_,?_,(hac3.mono (by have:=hx0.next;omega)).setMap hmbH3⟩,hzl,hzy⟩
   ·rw[Wa,Le (by omega)];exact hb3
   ·rw[Wa,Le (by omega)];exact hm3
def Qg9 (l:List Int):List Value:=l.map (.int .u8 ·)
def Qha (H:Qa) (v:Value) (bs:List Int):Prop:=∃a cap,v=.slice a bs.length cap∧(0<bs.length->∃b o c e ro,a=some ⟨b,o,none⟩∧H.get b=some (.cells c e ro)∧∀i,i<bs.length->c[o+i]? = some (.int .u8 (bs.getD i 0)))
theorem Qha.ext {H H':Qa} {v:Value} {bs:List Int} (hw:H.Wf) (he:Ext H H') (h:Qha H v bs):Qha H' v bs:=by
 obtain⟨a,cap,rfl,h1⟩:=h;refine⟨a,cap,rfl,λhn=>?_⟩;obtain⟨b,o,c,e,ro,rfl,hb,hc⟩:=h1 hn;exact⟨b,o,c,e,ro,rfl,by rw[he.get b (hw.lt hb)];exact hb,hc⟩
def Qhb (c:Int):Bool:=IntKind.u8.wrap (BitVec.ofInt IntKind.u8.bits c &&& BitVec.ofInt IntKind.u8.bits 240).toNat==64
def X7:List Int->Bool->Nat->List Fm->List Fm
 | [],_,_,L=>L
 | c::cs,ah,d,L=>bif Qec d L then(bif ah&&Qhb c then X7 cs false d L else X7 cs (ah&&((c==102)||(c==242)||(c==243))) (d+1) (L.filter λf=>Wn f d c)) else L
theorem ZK {T:Qa->Prop} {L:List Fm} (hR:∀H,T H->Qm prog QJ [] H λu H'=>QaC H H' u L) (hty:QbO QL) (va:Value) (bs:List Int) (H:Qa) (ht:T H) (hb:Qha H va bs) (hbl:bs.length<=100000):Qm prog Ww [va] H λu H'=>QaC H H' u (X7 bs true 0 L):=by
 refine Gz λhw=>?_;simp only[Zg,sxA,sxB,Nat.reduceBEq,Nat.reduceEqDiff,reduceCtorEq,mxA,mxB,Nat.reduceAdd,reduceIte,Nat.reduceLeDiff,splice];refine(Vg hR H ht).thenW ?_;rintro nv H1 hn1 hw1 ⟨hx1,ys,e1,hN,hl,hf⟩;obtain⟨aa,cap,rfl,hsl⟩:=id hb;simp only[sxA,sxB,Nat.reduceBEq,Nat.reduceEqDiff,reduceCtorEq,mxA,mxB,Nat.reduceAdd,reduceIte,Nat.reduceLeDiff,splice];refine XH (λm A' H'=>∃ (i:Nat) (ah:Bool) (d:Nat) (zs:List Lf),i<=bs.length∧m=bs.length - i∧H'.Wf∧Ext H H'∧Qfg H H' (A' 3) d zs∧X7 (bs.drop i) ah d (zs.map (·.f))=X7 bs true 0 L∧d<=i∧zs.length<=6000∧(∀z∈zs,z.Fr H.next)∧
   A' 4=.bool ah∧A' 8=.slice aa bs.length cap∧A' 9=.int .i64 bs.length∧A' 10=.int .i64 i) bs.length ?_ ?_
 ·refine⟨0,true,0,ys,L7 _,by omega,hw1,hx1,?_,by rw[Lw,e1],Lb _,hl,hf,?_,?_,?_,?_⟩
  all_goals simp only[uxA,uxB,Nat.reduceBEq]
  ·exact hN
  rfl
 ·rintro m A' H3 ⟨i,ah,d,zs,hi,rfl,hw3,hx3,hN3,hgo,hdi,hzl,hzf,r4,r8,r9,r10⟩;simp only[sxA,sxB,Nat.reduceBEq,Nat.reduceEqDiff,reduceCtorEq,mxA,mxB,Nat.reduceAdd,reduceIte,Nat.reduceLeDiff,splice,r9,r10];refine Yk (λh3=>?_) (λh3=>?_)
  ·have h3:i<bs.length:=by have:=Lg h3;omega
   obtain⟨b1,o1,c1,ee1,ro1,rfl,hg1,hc1⟩:=hsl (by omega);have hg3:H3.get b1=some (.cells c1 ee1 ro1):=by rw[hx3.get _ (hw.lt hg1)];exact hg1
   have d1:(0:Int)<=i∧(i:Int)<bs.length:=by omega
   have d3:(i:Int).toNat=i:=by omega
   have ek:IntKind.i64.wrap ((i:Int)+1)=((i+1:Nat):Int):=by rw[w64 (by unfold I64;omega)];omega
   have hci:=hc1 i h3;have hdr:bs.drop i=bs.getD i 0::bs.drop (i+1):=by
    rw[Nh h3];simp[List.getD,La h3]
   rw[hdr,X7]at hgo;generalize bs.getD i 0=c at hci hgo hdr;simp only[sxA,sxB,Nat.reduceBEq,Nat.reduceEqDiff,reduceCtorEq,mxA,mxB,Nat.reduceAdd,reduceIte,Nat.reduceLeDiff,splice,r8,r10,d1,d3,hg3,hci];refine(Vh hN3 hzl).thenW ?_;rintro _ _ hn4 hw4 ⟨rfl,m4,rfl⟩;simp only[G9]at hn4;have hxu:Ext H3 (H3.up m4):=(Ext.refl H3).up hn4;have hN4:Qfg H (H3.up m4) (A' 3) d zs:=by
    obtain⟨b,mb,fv,g1,g2,g3,g4,g5,g6⟩:=hN3;exact⟨b,mb,fv,g1,g2,g3,by rw[Qbo];exact g4,by rw[Qbo];exact g5,g6.ext hw3 hxu⟩
   have hx4:=hx3.trans hxu;generalize H3.up m4=H4 at hw4 hxu hN4 hx4;simp only[sxA,sxB,Nat.reduceBEq,Nat.reduceEqDiff,reduceCtorEq,mxA,mxB,Nat.reduceAdd,reduceIte,Nat.reduceLeDiff,splice];cases hop:Qec d (zs.map (·.f)) with
   | false=>
    rw[hop,Ls]at hgo;obtain⟨b,mb,fv,e3,hb0,hmb0,hgb,hmb,ha⟩:=hN4;simp only[sxA,sxB,Nat.reduceBEq,Nat.reduceEqDiff,reduceCtorEq,mxA,mxB,Nat.reduceAdd,reduceIte,Nat.reduceLeDiff,splice,e3,hgb,YK];exact .mk hx4.next ⟨hx4,zs,hgo,ha,hzl,hzf⟩
   | true=>
    rw[hop,Lq]at hgo;simp only[sxA,sxB,Nat.reduceBEq,Nat.reduceEqDiff,reduceCtorEq,mxA,mxB,Nat.reduceAdd,reduceIte,Nat.reduceLeDiff,splice,r4];have rexd:(IntKind.u8.wrap (BitVec.ofInt IntKind.u8.bits c &&& BitVec.ofInt IntKind.u8.bits 240).toNat==64)=Qhb c:=rfl;cases ah with
    | true=>
     simp only[LJ]at hgo;simp only[sxA,sxB,Nat.reduceBEq,Nat.reduceEqDiff,reduceCtorEq,mxA,mxB,Nat.reduceAdd,reduceIte,Nat.reduceLeDiff,splice,rexd];cases hrx:Qhb c with
     | true=>
      rw[hrx,Lq]at hgo;simp only[sxA,sxB,Nat.reduceBEq,Nat.reduceEqDiff,reduceCtorEq,mxA,mxB,Nat.reduceAdd,reduceIte,Nat.reduceLeDiff,splice,r10,ek];refine⟨bs.length - (i+1),by omega,i+1,false,d,zs,by omega,rfl,hw4,hx4,?_,hgo,by omega,hzl,hzf,?_,?_,?_,?_⟩
      all_goals simp only[uxA,uxB,Nat.reduceBEq,r8,r9]
      exact hN4
     | false=>
      rw[hrx,Ls]at hgo;cases q1:c==102<;>cases q2:c==242<;>cases q3:c==243<;>simp only[sxA,sxB,Nat.reduceBEq,Nat.reduceEqDiff,reduceCtorEq,mxA,mxB,Nat.reduceAdd,reduceIte,Nat.reduceLeDiff,splice,r4,q1,q2,q3]
      all_goals
       rw[q1,q2,q3]at hgo;simp only[NI,Bd,Nt,N1,Bool.or_self]at hgo;refine(Zl hty hN4 hx4 hzl (by omega) c).thenW ?_;rintro v6 H6 hn6 hw6 ⟨hx6,zs2,hz2,hN6,hl6,hs6⟩;simp only[sxA,sxB,Nat.reduceBEq,Nat.reduceEqDiff,reduceCtorEq,mxA,mxB,Nat.reduceAdd,reduceIte,Nat.reduceLeDiff,splice,r10,ek];refine⟨bs.length - (i+1),by omega,i+1,_,d+1,zs2,by omega,rfl,hw6,hx6,?_,by rw[hz2];exact hgo,by omega,by omega,λz hz=>hzf z (hs6 z hz),?_,?_,?_,?_⟩
       all_goals simp only[uxA,uxB,Nat.reduceBEq,r8,r9]
       first | exact hN6 | rfl
    | false=>
     simp only[NG,Ls]at hgo;simp only[sxA,sxB,Nat.reduceBEq,Nat.reduceEqDiff,reduceCtorEq,mxA,mxB,Nat.reduceAdd,reduceIte,Nat.reduceLeDiff,splice,r4];refine(Zl hty hN4 hx4 hzl (by omega) c).thenW ?_;rintro v6 H6 hn6 hw6 ⟨hx6,zs2,hz2,hN6,hl6,hs6⟩;simp only[sxA,sxB,Nat.reduceBEq,Nat.reduceEqDiff,reduceCtorEq,mxA,mxB,Nat.reduceAdd,reduceIte,Nat.reduceLeDiff,splice,r10,ek];refine⟨bs.length - (i+1),by omega,i+1,_,d+1,zs2,by omega,rfl,hw6,hx6,?_,by rw[hz2];exact hgo,by omega,by omega,λz hz=>hzf z (hs6 z hz),?_,?_,?_,?_⟩
     all_goals simp only[uxA,uxB,Nat.reduceBEq,r8,r9]
     first | exact hN6 | rfl
  ·have h3:i=bs.length:=by have:=Ll h3;omega
   subst h3;rw[NK (Lb _),X7]at hgo;obtain⟨b,mb,fv,e3,hb0,hmb0,hgb,hmb,ha⟩:=hN3;simp only[sxA,sxB,Nat.reduceBEq,Nat.reduceEqDiff,reduceCtorEq,mxA,mxB,Nat.reduceAdd,reduceIte,Nat.reduceLeDiff,splice,e3,hgb,YK];exact .mk hx3.next ⟨hx3,zs,hgo,ha,hzl,hzf⟩
def Qdv:Value->Option Int
 | .int .u8 n=>some n
 | _=>none
def Qw:List Value->Option (List Int)
 | []=>some []
 | v::l=>match Qdv v,Qw l with
  | some n,some r=>some (n::r)
  | _,_=>none
theorem GR:∀ {l:List Value} {bs:List Int},Qw l=some bs->l=Qg9 bs
 | [],bs,h=>by cases h;rfl
 | v::l,bs,h=>by
  unfold Qw at h;cases h1:Qdv v with
  | none=>rw[h1]at h;cases h
  | some n=>
   cases h2:Qw l with
   | none=>rw[h1,h2]at h;cases h
   | some r=>
    rw[h1,h2]at h;cases h;rw[GR h2];unfold Qdv at h1;split at h1
    ·cases h1;rfl
    ·cases h1
def QbP (G b id:Nat):Nat:=bif Nat.beq id G then b else id
theorem Qed (G b:Nat):QbP G b G=b:=by unfold QbP;rw[QV];simp
theorem Qee {G b id:Nat} (h:¬id=G):QbP G b id=id:=by unfold QbP;rw[QV];simp[h]
theorem Qlu (G b:Nat):WE (QbP G b) (G+1) G=some b:=by unfold WE;rw[XV,Qed];simp
theorem Qli {σ:Nat->Option Nat} {a b o n cap:Nat} (h:σ a=some b):mtV σ 6 (.slice (some ⟨b,o,none⟩) n cap) (.slice (some ⟨a,o,none⟩) n cap)=true:=by
 show(QeH (σ a) b&&Nat.beq o o&&X4 ⟨a,o,none⟩&&Nat.beq n n&&Nat.beq cap cap)=true;rw[h];simp[QeH,X4]
def Qdw (tabs:List Tab) (L:List Fm):CallF:=λf args H=>
 bif Nat.beq f Ww then(match args with
  | [.slice none 0 0]=>QbK tabs (X7 [] true 0 L) H
  | [.slice (some a) n cap]=>(match H.get a.block with
   | some (.cells c e ro)=>(match Qw ((c.drop a.off).take n) with
    | some bs=>bif XE tabs H&&(X4 a&&(c.all plain&&(Nat.beq bs.length n&&Nat.ble n 100000))) then
      some (shW (shM (QbP prog.globals.size a.block) (prog.globals.size+1) H.next) 6 (Qfb (prog.globals.size+1) (X7 bs true 0 L)),QY (shM (QbP prog.globals.size a.block) (prog.globals.size+1) H.next) (WB (prog.globals.size+1) (X7 bs true 0 L)) H) else none
    | none=>none)
   | _=>none)
  | _=>none) else none
theorem Qfh {tabs:List Tab} (ht:tabsOk tabs=true) (htab:∀t∈tabs,t.id<prog.globals.size) (hwf:(tabHeap prog.globals.size tabs).Wf) (htt:XL tabs (tabHeap prog.globals.size tabs)) {L:List Fm} (hR:∀H,XL tabs H->Qm prog QJ [] H λu H'=>QaC H H' u L) (hty:QbO QL)
  (he:entered prog Ww=true):CallOk prog (Qdw tabs L):=by
 intro f args H v H' h;unfold Qdw at h;cases b1:Nat.beq f Ww with
 | false=>rw[b1,Ls]at h;cases h
 | true=>
  rw[b1,Lq]at h;have:=LA b1;subst this;split at h
  ·exact GO ht htab hwf htt he rfl (λH hT=>ZK hR hty (.slice none 0 0) [] H hT ⟨none,0,rfl,λh=>by simp at h⟩ (by simp)) h
  ·rename_i a n cap;split at h
   ·rename_i c e ro hg;split at h
    ·rename_i bs hbs
     replace hbs:=GR hbs
     cases hcnd:(XE tabs H&&(X4 a&&(c.all plain&&(Nat.beq bs.length n&&Nat.ble n 100000)))) with
     | false=>rw[hcnd]at h;cases h
     | true=>
      rw[hcnd]at h;simp only[Lq,Lt,LB]at h;obtain⟨rfl,rfl⟩:=h;simp only[Lm,QV,Lv,BL]at hcnd;obtain⟨c1,c2,c3,c4,c5⟩:=hcnd;obtain⟨ab,ao,asp⟩:=a;have c2:=JQ c2;simp only at c2 hbs hg;subst c2;subst c4;refine .inl ⟨he,?_⟩;have hB:((tabHeap prog.globals.size tabs).push (.cells c e true)).next=prog.globals.size+1:=rfl;have hgB:((tabHeap prog.globals.size tabs).push (.cells c e true)).get prog.globals.size=some (.cells c e true):=by
       rw[Qg,Lc (show prog.globals.size=(tabHeap prog.globals.size tabs).next from rfl)]
      have hwB:=hwf.push (.cells c e true);have hTB:=Ju _ _ hwf htt ((Ext.refl (tabHeap prog.globals.size tabs)).push (.cells c e true));have hba:Qha ((tabHeap prog.globals.size tabs).push (.cells c e true)) (.slice (some ⟨prog.globals.size,ao,none⟩) bs.length cap) bs:=by
       refine⟨_,_,rfl,λ_=>⟨_,_,c,e,true,rfl,hgB,λi hi=>?_⟩⟩;have:((c.drop ao).take bs.length)[i]? = some (.int .u8 (bs.getD i 0)):=by
        rw[hbs];simp[Qg9,List.getD,La hi]
       rw[Nl,Lc hi,Nk]at this;exact this
      obtain⟨u,H1,hc,_,_,hx,ys,hy1,hy2,_,hy3⟩:=ZK hR hty _ bs _ hTB hba c5 hwB;have hd:=hc.does he;have hp:=VJ hB hy2 hy3;rw[hy1]at hp;refine QbG (B:=(tabHeap prog.globals.size tabs).push (.cells c e true)) hd (by rw[hB];omega) (λg hgl=>?_) hp (Qd7 _ _) (GJ _ _) H (λid b hb=>?_) ?_
      ·exact Qee (by omega)
      ·rw[Qg]at hb
       by_cases hid:id=(tabHeap prog.globals.size tabs).next
       ·rw[Lc hid]at hb;cases hb;refine⟨c,e,c,e,ro,rfl,?_,rfl,λj x y hx hy=>?_⟩
        ·have:id=prog.globals.size:=hid;rw[this,Qed];exact hg
        ·rw[hx]at hy;cases hy;exact Zw.plain (Li.1 c3 x (Ln hx))
       ·rw[Le hid]at hb;have hg':=ZW c1 id b hb;obtain⟨t,ht1,rfl,rfl⟩:=QP hb;have hne:¬t.id=prog.globals.size:=hid;refine⟨t.c,t.e,t.c,t.e,true,rfl,?_,rfl,λj x y hx hy=>?_⟩
        ·rw[Qee hne];exact hg'
        ·rw[hx]at hy;cases hy;exact Zw.plain (Li.1 (Li.1 ht t ht1) x (Ln hx))
      ·show(mtV (WE (QbP prog.globals.size ab) (prog.globals.size+1)) 6 (.slice (some ⟨ab,ao,none⟩) bs.length cap) (.slice (some ⟨prog.globals.size,ao,none⟩) bs.length cap)&&true)=true;rw[Qli (Qlu _ _)];rfl
    ·cases h
   ·cases h
  ·cases h
end Go.Proofs.YtbkbdnlfkahaaaaGreatDoor.code
