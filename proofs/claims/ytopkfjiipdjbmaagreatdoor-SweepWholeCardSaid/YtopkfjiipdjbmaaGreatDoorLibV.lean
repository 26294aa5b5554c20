import Derived.Test.YtopkfjiipdjbmaaGreatDoorLibZ
import Derived.Test.YtopkfjiipdjbmaaGreatDoorLibW
import Derived.Test.YtopkfjiipdjbmaaGreatDoorLibY
set_option maxHeartbeats 4000000
set_option linter.defProp false
set_option linter.unusedVariables false
set_option linter.unusedSimpArgs false
set_option maxRecDepth 100000
namespace Go.Proofs.YtopkfjiipdjbmaaGreatDoor.code
open Go.Ab
def stp (f:Fm)(c:Int):List Int:=(QbQ f).map (λb=>(b.toNat:Int))++[c]
def QM4 (f:Fm)(l:List UInt8):Bool:=l.take (QbQ f).length==QbQ f&&decide ((QbQ f).length<l.length)&&QNm f ((l.getD (QbQ f).length 0).toNat:Int)
section
variable {L:List Fm} {f:Fm} {c:Int} {leads:List (List UInt8)}
def QNc:(stp f c).length=(QbQ f).length+1:=by unfold stp;simp
def QN9 (ab:f.vex=false)(aa:QNm f c=true){j:Nat}(ac:j<=(QbQ f).length):Jz f j ((stp f c).getD j 0)=true:=by
 unfold Jz stp;rw[ab,Ls]
 by_cases h:j<(QbQ f).length;·rw[La h,LX,LY (by simpa using h),LD,La h];simp
 obtain rfl:j=(QbQ f).length:=by omega
 rw[N7 (Lb _),LX,LR (by simp)];have:Nat.blt (QbQ f).length (QbQ f).length=false:=by
  cases h':Nat.blt (QbQ f).length (QbQ f).length with
  | false=>rfl
  | true=>have:=RZ h';omega
 simp only[this,Nn,BJ,Bp,NB,Ls];exact aa
structure QNn (L:List Fm) (f:Fm) (c:Int) (d:Nat) (L':List Fm):Prop where
 mem:f∈L'
 sub:∀g∈L',g∈L
 tk:∀g∈L',∀j,j<d->Jz g j ((stp f c).getD j 0)=true
def QNn.y (ad:f.vex=false)(ab:QNm f c=true){d:Nat}{L':List Fm}(h:QNn L f c d L')(ac:d<=(QbQ f).length):QNn L f c (d+1) (L'.filter λg=>Jz g d ((stp f c).getD d 0)):=
 ⟨Bo.2 ⟨h.mem,QN9 ad ab ac⟩,λg aa=>h.sub g (Bo.1 aa).1,λg aa j ae=>by
  by_cases e:j=d;·rw[e];exact(Bo.1 aa).2
  exact h.tk g (Bo.1 aa).1 j (by omega)⟩
def QNn.shut (ak:QNm f c=true)(aj:∀g∈L,g.vex=false->QbQ g∈leads)(am:∀l∈leads,QM4 f l=false){L':List Fm}(h:QNn L f c ((QbQ f).length+1) L'):QyM ((QbQ f).length+1) L'=false:=by
 cases L' with
 | nil=>rfl
 | cons g l=>
  have ad:=Ny (a:=g) (l:=l);show(bif g.vex then(QbQ f).length+1==0 else Nat.ble ((QbQ f).length+1) (QbQ g).length)=false;cases ae:g.vex with
  | true=>rfl
  | false=>
   rw[Ls];cases al:Nat.ble ((QbQ f).length+1) (QbQ g).length with
   | false=>rfl
   | true=>
    exfalso;have aa:(QbQ f).length<(QbQ g).length:=by
     have:=RZ al;omega
    have ah:∀j (ag:j<(QbQ g).length),j<=(QbQ f).length->(stp f c).getD j 0=((QbQ g)[j].toNat:Int):=λj ag ao=>by
     have:=h.tk g ad j (by omega);unfold Jz at this;rw[ae,Ls,La ag]at this;simpa using this
    have ab:=am _ (aj g (h.sub g ad) ae);have t1:(QbQ g).take (QbQ f).length=QbQ f:=by
     refine Rp (by rw[Sb];omega) λj an ac=>?_;have:=ah j (by omega) (by omega);rw[RK];have e:(stp f c).getD j 0=((QbQ f)[j].toNat:Int):=by
      unfold stp;rw[LX,LY (by simpa using ac),LD,La ac];rfl
     rw[e]at this;have ai:(QbQ f)[j].toNat=(QbQ g)[j].toNat:=by omega
     exact(BK.1 ai).symm
    have t2:(((QbQ g).getD (QbQ f).length 0).toNat:Int)=c:=by
     have:=ah (QbQ f).length aa (Lb _);have e:(stp f c).getD (QbQ f).length 0=c:=by
      unfold stp;rw[LX,LR (by simp)];simp
     rw[e]at this;rw[LX,La aa,NB,this]
    unfold QM4 at ab;rw[t1,t2,ak]at ab;simp[aa]at ab
def QOi (ag:f.vex=false)(ab:QNm f c=true)(ac:∀g∈L,g.vex=false->QbQ g∈leads)(ae:∀l∈leads,QM4 f l=false):∀ (n d:Nat) (aa:List Int) (L':List Fm),n+d=(QbQ f).length+1->QNn L f c d L'->f∈Qbe ((stp f c).drop d++aa) false d L'
 | 0,d,aa,L',h,hL=>by
  obtain rfl:d=(QbQ f).length+1:=by omega
  rw[NK (by rw[QNc];exact Lb _),LH];cases aa with
  | nil=>exact hL.mem
  | cons x r=>
   show f∈bif QyM ((QbQ f).length+1) L' then _ else L'
   rw[hL.shut ab ac ae];exact hL.mem
 | n+1,d,aa,L',h,hL=>by
  have ad:d<(stp f c).length:=by rw[QNc];omega
  rw[Nh ad,Nm];show f∈bif QyM d L' then(bif false&&QyN (stp f c)[d] then _ else Qbe ((stp f c).drop (d+1)++aa) (false&&_) (d+1) (L'.filter λah=>Jz ah d (stp f c)[d])) else L'
  cases QyM d L' with
  | false=>exact hL.mem
  | true=>
   have e:(stp f c)[d]=(stp f c).getD d 0:=by rw[LX,La ad];rfl
   rw[NG,NG,Lq,Ls,e];exact QOi ag ab ac ae n (d+1) aa _ (by omega) (hL.y ag ab (by omega))
def QOE (ad:QNm f c=true)(ac:∀g∈L,g.vex=false->QbQ g∈leads)(ae:∀l∈leads,QM4 f l=false){L':List Fm}(aa:QNn L f c ((QbQ f).length+1) L'):∀ (cs:List Int) (ab:Bool),f∈Qbe cs ab ((QbQ f).length+1) L'
 | [],_=>aa.mem
 | x::r,ab=>by
  show f∈bif QyM ((QbQ f).length+1) L' then _ else L'
  rw[aa.shut ad ac ae];exact aa.mem
def QOF (ah:f.vex=false)(ad:QNm f c=true)(ac:∀g∈L,g.vex=false->QbQ g∈leads)(ae:∀l∈leads,QM4 f l=false){k:Nat}(ai:k<=(QbQ f).length){r:Int}(ag:QyN r=true)(aa:List Int){L':List Fm}(ab:QNn L f c k L'):f∈Qbe (r::((stp f c).drop k++aa)) true k L':=by
 show f∈bif QyM k L' then(bif true&&QyN r then Qbe ((stp f c).drop k++aa) false k L' else _) else L'
 rw[ag];cases QyM k L' with
 | false=>exact ab.mem
 | true=>exact QOi ah ad ac ae ((QbQ f).length+1 - k) k aa L' (by omega) ab
def QOS (ai:f.vex=false)(aa:QNm f c=true)(ae:∀g∈L,g.vex=false->QbQ g∈leads)(ah:∀l∈leads,QM4 f l=false){k:Nat}(al:k<=(QbQ f).length)(an:QyN ((stp f c).getD k 0)=false)(ak:k<(QbQ f).length->(stp f c).getD k 0=15)(ac:List Int){L':List Fm}(ad:QNn L f c k L'):f∈Qbe ((stp f c).drop k++ac) true k L':=by
 have ag:k<(stp f c).length:=by rw[QNc];omega
 have e:(stp f c)[k]=(stp f c).getD k 0:=by rw[LX,La ag];rfl
 rw[Nh ag,Nm,e];show f∈bif QyM k L' then(bif true&&QyN ((stp f c).getD k 0) then _ else Qbe ((stp f c).drop (k+1)++ac) (true&&((((stp f c).getD k 0)==102)||(((stp f c).getD k 0)==242)||(((stp f c).getD k 0)==243))) (k+1) (L'.filter λaj=>Jz aj k ((stp f c).getD k 0))) else L'
 rw[an];cases QyM k L' with
 | false=>exact ad.mem
 | true=>
  have ab:=ad.y ai aa al;rw[NJ,Lq,Ls]
  by_cases am:k<(QbQ f).length;·rw[ak am]at ab ⊢;exact QOi ai aa ae ah ((QbQ f).length - k) (k+1) ac _ (by omega) ab
  obtain rfl:k=(QbQ f).length:=by omega
  exact QOE aa ae ah ab _ _
def QNZ (ae:f.vex=false)(ab:QNm f c=true){k:Nat}(ai:k<=(QbQ f).length)(ac:∀j,j<k->QyN ((stp f c).getD j 0)=false∧((((stp f c).getD j 0)==102)||(((stp f c).getD j 0)==242)||(((stp f c).getD j 0)==243))=true)(aa:List Int)(ad:∀L',QNn L f c k L'->f∈Qbe aa true k L'):
  ∀ (n d:Nat) (L':List Fm),n+d=k->QNn L f c d L'->f∈Qbe (((stp f c).take k).drop d++aa) true d L'
 | 0,d,L',h,hL=>by
  obtain rfl:d=k:=by omega
  rw[NK (by rw[Sb];omega),LH];exact ad L' hL
 | n+1,d,L',h,hL=>by
  have aj:d<((stp f c).take k).length:=by rw[Sb,QNc];omega
  have ah:d<(stp f c).length:=by rw[QNc];omega
  have e:((stp f c).take k)[d]=(stp f c).getD d 0:=by rw[RK,LX,La ah];rfl
  obtain⟨p1,p2⟩:=ac d (by omega);rw[Nh aj,Nm,e];show f∈bif QyM d L' then(bif true&&QyN ((stp f c).getD d 0) then _ else Qbe (((stp f c).take k).drop (d+1)++aa) (true&&((((stp f c).getD d 0)==102)||(((stp f c).getD d 0)==242)||(((stp f c).getD d 0)==243))) (d+1) (L'.filter λag=>Jz ag d ((stp f c).getD d 0))) else L'
  rw[p1,p2];cases QyM d L' with
  | false=>exact hL.mem
  | true=>
   rw[NJ,Lq,Ls,Be];exact QNZ ae ab ai ac aa ad n (d+1) _ (by omega) (hL.y ae ab (by omega))
end
def QOj {bs:List Int}{f:Fm}(h:(Vz bs f).e=0):∃c0:Rr,c0.x.f=f∧c0.p=0∧(QbR bs c0).1=0∧(opF bs (QbR bs c0).2).1=0∧(QoI bs (opF bs (QbR bs c0).2).2).1=0:=by
 obtain⟨c0,ae⟩:∃c0,c0=rd0 ⟨f,.slice none 0 0,.slice none 0 0⟩ (.slice none 0 0):=⟨_,rfl⟩;have e:Vz bs f=bif (rdM bs c0).1==0 then QoT bs (rdM bs c0).2 else Qjx (rdM bs c0).1:=by rw[ae];rfl
 refine⟨c0,by rw[ae];rfl,by rw[ae];rfl,?_⟩;rw[e]at h;have ab:rdM bs c0=bif (rdO bs c0).1==0 then QoI bs (rdO bs c0).2 else rdO bs c0:=rfl
 have ad:rdO bs c0=bif (QbR bs c0).1==0 then opF bs (QbR bs c0).2 else QbR bs c0:=rfl
 have ac:(rdM bs c0).1=0:=by
  cases z:(rdM bs c0).1==0 with
  | true=>simpa using z
  | false=>rw[z]at h;exact h
 have aa:(rdO bs c0).1=0:=by
  cases z:(rdO bs c0).1==0 with
  | true=>simpa using z
  | false=>rw[ab,z]at ac;exact ac
 have ag:(QbR bs c0).1=0:=by
  cases z:(QbR bs c0).1==0 with
  | true=>simpa using z
  | false=>rw[ad,z]at aa;exact aa
 have ah:((QbR bs c0).1==0)=true:=by rw[ag];rfl
 rw[ah,Lq]at ad;rw[ad]at aa ab;have ai:((opF bs (QbR bs c0).2).1==0)=true:=by rw[aa];rfl
 rw[ai,Lq]at ab;rw[ab]at ac;exact⟨ag,aa,ac⟩
def seg {bs:List Int}(ac:QsU bs):∀ (l:List UInt8) (p:Nat),(∀j (ad:j<l.length),Zv bs ((p:Int)+j)=l[j].toNat)->p+l.length<=bs.length->bs.drop p=l.map (λb=>(b.toNat:Int))++bs.drop (p+l.length)
 | [],p,_,_=>by simp
 | b::l,p,h,hl=>by
  simp only[Lo]at hl;have ae:p<bs.length:=by omega
  obtain⟨n,aj,aa,ai,ag⟩:=ac.at (p:=(p:Int)) (by omega) (by omega);have ab:=h 0 (by simp);simp only[LG]at aa;rw[show((p:Int)+(0:Nat))=p by omega,ag]at ab;rw[Nh ae,NZ,Nm];rw[La ae]at aa;have e1:bs[p]=(b.toNat:Int):=by
   have:=Ly aa;rw[this,ab];rfl
  have ah:=seg ac l (p+1) (λj ad=>by
   have:=h (j+1) (by simpa using ad);rw[show(((p+1:Nat):Int)+j)=(p:Int)+((j+1:Nat):Int) by omega,this];rfl) (by omega)
  rw[e1,ah,Lo,show p+1+l.length=p+(l.length+1) by omega]
def QNI (l:Int):∀b∈QMP l,b=102∨b=242∨b=243:=by
 intro b aa;unfold QMP at aa;rw[LI,LI]at aa;rcases aa with aa | aa | aa
 ·split at aa;·exact .inl (Sa.1 aa)
  cases aa
 ·split at aa;·exact .inr (.inl (Sa.1 aa))
  cases aa
 split at aa;·exact .inr (.inr (Sa.1 aa))
 cases aa
def QOa (n:Int)(h:0<(QdF n).length):(QdF n)[0]=15:=by
 rcases QE7 n with e | e | e | e
 all_goals simp only[e]at h ⊢
 all_goals first
  | rfl
  | exact absurd h (NX 0)
def wOf (aa:List Int):Int:=match aa with
 | []=>0
 | r::_=>QdD (r - 64).toNat 4 3
def QOY (f:Fm)(c:Int)(aa:List Int):Prop:=(aa=[]∧QyN ((stp f c).getD (QMP f.pre).length 0)=false)∨∃r,aa=[r]∧QyN r=true
def QNB (f:Fm)(c:Int):stp f c=(QMP f.pre).map (λb=>(b.toNat:Int))++((QdF f.map).map (λb=>(b.toNat:Int))++[c]):=by unfold stp;rw[QM6,N6,LQ]
def QOk (f:Fm)(c:Int):(stp f c).take (QMP f.pre).length=(QMP f.pre).map (λb=>(b.toNat:Int)):=by rw[QNB,NO (by simp),LF (by simp)]
def QOl (f:Fm)(c:Int):(stp f c).drop (QMP f.pre).length=(QdF f.map).map (λb=>(b.toNat:Int))++[c]:=by rw[QNB,RF (by simp),NK (by simp),LH]
def QOG (f:Fm):(QMP f.pre).length<=(QbQ f).length:=by rw[QM6,Lh];omega
def QOH (f:Fm)(c:Int):∀j,j<(QMP f.pre).length->QyN ((stp f c).getD j 0)=false∧((((stp f c).getD j 0)==102)||(((stp f c).getD j 0)==242)||(((stp f c).getD j 0)==243))=true:=λj aa=>by
 have e:(stp f c).getD j 0=((QMP f.pre)[j].toNat:Int):=by
  rw[QNB,LX,LY (by simpa using aa),LD,La aa];rfl
 rw[e];rcases QNI f.pre _ (Nb aa) with e | e | e<;>rw[e]<;>exact⟨by kernel_rfl,by decide⟩
def QOI (f:Fm)(c:Int)(ab aa:List Int):List Int:=(stp f c).take (QMP f.pre).length++(ab++((stp f c).drop (QMP f.pre).length++aa))
def QOb {L:List Fm}{f:Fm}{c:Int}{al:List (List UInt8)}{am ah:List Int}(ag:f.vex=false)(ab:QNm f c=true)(ao:f∈L)(aj:∀g∈L,g.vex=false->QbQ g∈al)(ak:∀l∈al,QM4 f l=false)(ar:QOY f c am):f∈Qbe (QOI f c am ah) true 0 L:=by
 have an:QNn L f c 0 L:=⟨ao,λg h=>h,λg _ j ap=>absurd ap (Nat.not_lt_zero _)⟩;have ad:=QOG f;unfold QOI;have ai:=λav au=>QNZ ag ab ad (QOH f c) av au (QMP f.pre).length 0 L (by omega) an;rcases ar with⟨rfl,ae⟩ | ⟨r,rfl,ae⟩
 ·have:=ai ((stp f c).drop (QMP f.pre).length++ah) (λL' aa=>by
   refine QOS ag ab aj ak ad ae (λaq=>?_) _ aa;have ac:0<(QdF f.map).length:=by rw[QM6,Lh]at aq;omega
   rw[QNB,LX,LR (by simp),Nn,BJ,LY (by simpa using ac),LD,La ac,QOa _ ac];rfl)
  rw[Lw]at this;exact this
 have:=ai ([r]++((stp f c).drop (QMP f.pre).length++ah)) (λL' aa=>QOF ag ab aj ak ad ae _ aa);rw[Lw]at this;exact this
def wAt (bs:List Int)(p:Int):Int:=if QNi bs p=true then QdD (Zv bs p - 64).toNat 4 3 else 0
def QOT {bs:List Int}{c:Rr}(aa:(QdE bs c).1=0):wAt bs c.p=c.x.f.w:=by
 have e:QdE bs c=if(bs.length:Int)<=c.p then(9,c)
  else if(decide (64<=Zv bs c.p)&&decide (Zv bs c.p<=79))=true then QeT (QHE c (Zv bs c.p - 64).toNat) (QdD (Zv bs c.p - 64).toNat 4 3) else QeT c 0:=rfl
 have ne:∀ (c':Rr) w,(QeT c' w).1=0->w=c'.x.f.w:=λc' w h=>by
  unfold QeT at h;split at h;·cases h
  rename_i ad;simp at ad;exact ad.1
 rw[e]at aa;unfold wAt QNi
 by_cases ab:(bs.length:Int)<=c.p;·rw[Lc ab]at aa;cases aa
 rw[Le ab]at aa
 by_cases ac:(decide (64<=Zv bs c.p)&&decide (Zv bs c.p<=79))=true;·rw[Lc ac]at aa ⊢;exact ne (QHE c (Zv bs c.p - 64).toNat) _ aa
 rw[Le ac]at aa ⊢;exact ne c 0 aa
def QOU {bs:List Int}{c:Rr}(ad:bs.length<=1000000)(h:InB bs c.p)(aa:(QtF bs c).1=0):wAt bs (c.p+(QMP c.x.f.pre).length)=c.x.f.w:=by
 rw[QNp]at aa;unfold QuB at aa;generalize QMP c.x.f.pre=pl at *
 by_cases ab:((Qss bs pl c).1==0)=true
 ·rw[Lc ab]at aa;obtain⟨a1,a2,a3⟩:=QNo ad pl c h (by simpa using ab);rw[a1]at aa;unfold Qst at aa
  by_cases ac:((QdE bs {c with p:=c.p+pl.length}).1==0)=true;·exact QOT (c:={c with p:=c.p+pl.length}) (by simpa using ac)
  rw[Le ac]at aa;rw[aa]at ac;exact absurd rfl ac
 rw[Le ab]at aa;rw[aa]at ab;exact absurd rfl ab
def QOm {bs:List Int}(ae:QsU bs){p:Nat}(ah:p<bs.length):QyN bs[p]=QNi bs p∧Zv bs p=bs[p]:=by
 obtain⟨n,ag,ab,ai,ad⟩:=ae.at (p:=(p:Int)) (by omega) (by omega);have aa:=QFW ag;unfold QFV at aa;simp only[Lm,L0]at aa;simp only[LG]at ab;have ac:bs[p]=(n:Int):=by rw[La ah]at ab;exact Ly ab
 refine⟨?_,by rw[ad,ac]⟩;rw[ac,aa.2];unfold QNi;rw[ad,Ni];simp only[Lm,Lv];omega
def QOn {bs:List Int}(ah:QsU bs){k:Nat}(ad:k<bs.length){aa:Nat}(ae:(aa:Int)=k+(if QNi bs k=true then 1 else 0)):
  ∃ab:List Int,bs.drop k=ab++bs.drop aa∧aa=k+ab.length∧wAt bs k=wOf ab∧((ab=[]∧QyN bs[k]=false)∨∃r,ab=[r]∧QyN r=true):=by
 obtain⟨ag,ai⟩:=QOm ah ad;unfold wAt;cases ac:QNi bs k with
 | true=>
  rw[ac,Lc rfl]at ae;have:aa=k+1:=by omega
  subst this;refine⟨[bs[k]],by rw[Nh ad];rfl,rfl,?_,.inr ⟨_,rfl,by rw[ag,ac]⟩⟩;rw[Lc rfl,ai];rfl
 | false=>
  rw[ac,Le (by decide)]at ae;have:aa=k:=by omega
  subst this;exact⟨[],rfl,rfl,by rw[Le (by decide)];rfl,.inl ⟨rfl,by rw[ag,ac]⟩⟩
def QOc {bs:List Int}{f:Fm}{c0:Rr}(ah:bs.length<=1000000)(ae:QsU bs)(av:I64 f.code)(ai:c0.x.f=f)(p0:c0.p=0)(am:(QtF bs c0).1=0)(au:(opF bs (QtF bs c0).2).1=0):
  ∃c ab aD,QNm f c=true∧bs=QOI f c ab aD∧QOY f c ab∧wOf ab=f.w∧(QtF bs c0).2.p=((QbQ f).length+ab.length:Nat)∧c=bs.getD ((QbQ f).length+ab.length) 0:=by
 have ak:InB bs c0.p:=by rw[p0];exact .zero bs
 obtain⟨a1,a2,q,a3,a4,a5,a6,a7⟩:=QOD ah ak am;have aj:=QOU ah ak am;have az:=QKu (bs:=bs) (c:=c0) ah ak;obtain⟨b1,ad⟩:=QOP ah ae (by rw[a7,ai];exact av) az.2.2 au;rw[a7,ai]at ad;rw[ai,p0]at a1 a2 a3 aj;rw[ai]at a4 a5 a6;rw[a6]at b1 ad;obtain⟨k,ac⟩:∃k,k=(QMP f.pre).length:=⟨_,rfl⟩;obtain⟨c,ag⟩:∃c,c=bs.getD (q+(QdF f.map).length).toNat 0:=⟨_,rfl⟩;rw[<- ag]at ad;have aB:=QOk f c;have ax:=QOl f c;have ar:=seg ae (QMP f.pre) 0 (λj ay=>by simpa using a1 j ay) (by omega);rw[Lw,LP,<- aB]at ar;obtain⟨aa,aq⟩:∃aa:Nat,q=(aa:Int):=⟨q.toNat,by rw[a3];split<;>omega⟩;rw[aq]at a3 a4 a5 b1 ag;have aC:(0:Int)+(QMP f.pre).length=k:=by omega
 rw[aC]at a3 aj;have an:k<bs.length:=by omega
 obtain⟨ab,r1,r2,r3,r4⟩:=QOn ae an a3;have aE:=seg ae (QdF f.map) aa a4 (by omega);have aF:bs.drop (aa+(QdF f.map).length)=c::bs.drop (aa+(QdF f.map).length+1):=by
  have ap:aa+(QdF f.map).length<bs.length:=by omega
  rw[Nh ap];congr 1;rw[ag,show((aa:Int)+((QdF f.map).length:Int)).toNat=aa+(QdF f.map).length by omega,LX,La ap];rfl
 have al:bs.drop aa=(stp f c).drop (QMP f.pre).length++bs.drop (aa+(QdF f.map).length+1):=by rw[aE,aF,ax,LQ];rfl
 have ao:(QbQ f).length+ab.length=aa+(QdF f.map).length:=by rw[QM6,Lh,<- ac];omega
 refine⟨c,ab,bs.drop (aa+(QdF f.map).length+1),ad,?_,?_,by rw[<- r3];exact aj,by rw[a6,aq,ao];omega,?_⟩;·unfold QOI;rw[<- al,<- r1,ac];exact ar
 ·rcases r4 with⟨rfl,h⟩ | h
  ·refine .inl ⟨rfl,?_⟩;rw[<- ac];have aA:aa=k:=by simpa using r2
   rw[aA]at al;have aG:k<(stp f c).length:=by rw[QNc,QM6,Lh,<- ac];omega
   have e1:bs[k]? = ((stp f c).drop (QMP f.pre).length++bs.drop (k+(QdF f.map).length+1))[0]? := by rw[<- al,Nk,N9]
   rw[LY (by rw[NT,<- ac];omega),Nk,N9,<- ac,La an]at e1;rw[LX,<- e1];exact h
  exact .inr h
 rw[ao,ag];congr 1
def QNJ {L:List Fm}{bs:List Int}{f:Fm}{aa:List (List UInt8)}(al:bs.length<=1000000)(ai:QsU bs)(an:f.vex=false)(aj:I64 f.code)(ak:f∈L)(ag:∀g∈L,g.vex=false->QbQ g∈aa)(am:∀l∈aa,QM4 f l=false){c0:Rr}(ao:c0.x.f=f)(p0:c0.p=0)(ae:(QtF bs c0).1=0)(ah:(opF bs (QtF bs c0).2).1=0):f∈Qbe bs true 0 L:=by
 obtain⟨c,aq,ap,ab,ac,ad,_⟩:=QOc al ai aj ao p0 ae ah;rw[ac];exact QOb an ab ak ag am ad
def QOd (f:Fm):∀b∈QbQ f,b≠196∧b≠197:=by
 intro b aa;rw[QM6,LI]at aa;rcases aa with aa | aa;·rcases QNI _ b aa with rfl | rfl | rfl<;>decide
 rcases QE7 f.map with e | e | e | e<;>rw[e]at aa;·rw[Sa.1 aa];decide
 ·rcases LK.1 aa with rfl | aa;·decide
  rw[Sa.1 aa];decide
 ·rcases LK.1 aa with rfl | aa;·decide
  rw[Sa.1 aa];decide
 cases aa
def QOJ {bs:List Int}{c:Rr}(h:(QtG bs c).1=0):bs.length≠0∧((bs.getD 0 0==196)||((bs.getD 0 0==197)&&(c.x.f.map==1)&&!(c.x.f.w==1)))=true:=by
 unfold QtG at h
 by_cases aa:bs.length=0;·rw[Lc aa]at h;cases h
 rw[Le aa]at h;refine⟨aa,?_⟩
 by_cases ab:((bs.getD 0 0==197)&&(c.x.f.map==1)&&!(c.x.f.w==1))=true;·rw[ab,Bd]
 rw[Le ab]at h
 by_cases ac:(bs.getD 0 0==196)=false;·rw[Lc ac]at h;cases h
 have ad:(bs.getD 0 0==196)=true:=by simpa using ac
 rw[ad,N1]
def QOo {L:List Fm}{bs:List Int}{f:Fm}(ap:f.vex=true)(ag:f∈L)(ai:bs.length≠0)(aj:((bs.getD 0 0==196)||((bs.getD 0 0==197)&&(f.map==1)&&!(f.w==1)))=true):f∈Qbe bs true 0 L:=by
 cases bs with
 | nil=>exact absurd rfl ai
 | cons c cs=>
  have ad:((c==196)||((c==197)&&(f.map==1)&&!(f.w==1)))=true:=aj;have ae:c=196∨c=197:=by
   rcases Nw _ _▸ad with aa | aa;·left;simpa using aa
   right;simp only[Lm,L0]at aa;exact aa.1.1
  have am:QyN c=false:=by rcases ae with rfl | rfl<;>kernel_rfl
  have ao:Jz f 0 c=true:=by unfold Jz;rw[ap,Lq,ad];rfl
  have ah:f∈L.filter λg=>Jz g 0 c:=Bo.2 ⟨ag,ao⟩;have an:QyM 1 (L.filter λg=>Jz g 0 c)=false:=by
   cases e:L.filter λg=>Jz g 0 c with
   | nil=>rfl
   | cons g l=>
    have ak:g∈L.filter λg=>Jz g 0 c:=by rw[e];exact Ny ..
    have ab:=(Bo.1 ak).2;show(bif g.vex then(1==0) else Nat.ble 1 (QbQ g).length)=false;cases al:g.vex with
    | true=>rfl
    | false=>
     rw[Ls];cases ac:QbQ g with
     | nil=>rfl
     | cons b r=>
      exfalso;unfold Jz at ab;rw[al,Ls,ac]at ab;have tb:c=(b.toNat:Int):=by simpa using ab
      obtain⟨aq,ar⟩:=QOd g b (by rw[ac];exact Ny ..);rcases ae with e | e;·exact aq (BK.1 (show b.toNat=(196:UInt8).toNat by show b.toNat=196;omega))
      exact ar (BK.1 (show b.toNat=(197:UInt8).toNat by show b.toNat=197;omega))
  show f∈bif QyM 0 L then(bif true&&QyN c then _ else Qbe cs (true&&_) 1 (L.filter λg=>Jz g 0 c)) else L
  rw[am];cases QyM 0 L with
  | false=>exact ag
  | true=>
   rw[NJ,Lq,Ls];cases cs with
   | nil=>exact ah
   | cons x r=>
    show f∈bif QyM 1 (L.filter λg=>Jz g 0 c) then _ else(L.filter λg=>Jz g 0 c)
    rw[an];exact ah
def QOp {L:List Fm}{bs:List Int}{f:Fm}{ai:List (List UInt8)}(an:bs.length<=1000000)(al:QsU bs)(am:I64 f.code)(ah:f∈L)(ak:∀g∈L,g.vex=false->QbQ g∈ai)(ao:f.vex=false->∀l∈ai,QM4 f l=false)(h:(Vz bs f).e=0):f∈Qbe bs true 0 L:=by
 obtain⟨c0,ac,p0,ab,ag,_⟩:=QOj h;cases aa:f.vex with
 | true=>
  have ad:QbR bs c0=QtG bs c0:=by unfold QbR;rw[ac,aa];rfl
  rw[ad]at ab;obtain⟨aj,ae⟩:=QOJ ab;rw[ac]at ae;exact QOo aa ah aj ae
 | false=>
  have ad:QbR bs c0=QtF bs c0:=by unfold QbR;rw[ac,aa];rfl
  rw[ad]at ab ag;exact QNJ an al aa am ah ak (ao aa) ac p0 ab ag
def QNu (bs:List Int)(f:Fm)(l:List Fm)(err:Int):QsP bs (f::l) err=if((Vz bs f).e==0)=true then⟨(Vz bs f).op,(Vz bs f).l,(Vz bs f).n,0⟩ else QsP bs l (if((Vz bs f).e==9)=true then 9 else err):=rfl
def QNe (f:Fm):∀ (b:List Int) (aa:Bool) (d:Nat) (L:List Fm),f∈Qbe b aa d L->f∈L
 | [],_,_,_,h=>h
 | c::cs,aa,d,L,h=>by
  have h:f∈bif QyM d L then(bif aa&&QyN c then Qbe cs false d L else Qbe cs (aa&&((c==102)||(c==242)||(c==243))) (d+1) (L.filter λf=>Jz f d c)) else L:=h
  cases ab:QyM d L with
  | false=>rw[ab]at h;exact h
  | true=>
   rw[ab,Lq]at h;cases ac:aa&&QyN c with
   | true=>rw[ac]at h;exact QNe f cs _ _ _ h
   | false=>rw[ac]at h;exact(Bo.1 (QNe f cs _ _ _ h)).1
section
variable {bs:List Int} {f:Fm} {c0:Rr}
end
def QN0:List (List UInt8):=(List.range 8).flatMap λp=>(List.range 4).map λm=>QMP (p:Nat)++QdF (m:Nat)
def QNK {bs:List Int}{c:Rr}(ab:bs.length<=1000000)(h:InB bs c.p)(aa:(opF bs c).1=0):(opF bs c).2.p=c.p+1∧(opF bs c).2.x=c.x:=by
 have e:opF bs c=if(decide (Qy c.x.f.slots 4<0))=true then XF bs c c.x.f.code
  else if(bs.length:Int)<=c.p then(9,c) else XF bs {c with low:=Qyc bs c.p} (IntKind.i64.wrap (c.x.f.code+Qyc bs c.p)):=rfl
 rw[e]at aa ⊢
 by_cases z:decide (Qy c.x.f.slots 4<0)=true;·rw[Lc z]at aa ⊢;obtain⟨_,_,e⟩:=QM8 ab h aa;rw[e];exact⟨rfl,rfl⟩
 rw[Le z]at aa ⊢
 by_cases g:(bs.length:Int)<=c.p;·rw[Lc g]at aa;cases aa
 rw[Le g]at aa ⊢;obtain⟨_,_,e⟩:=QM8 (c:={c with low:=Qyc bs c.p}) ab h aa;rw[e];exact⟨rfl,rfl⟩
def QNL {bs:List Int}{c:Rr}(h:(QtG bs c).1=0):Qyd (YF bs).1 c.x.f=false∧(QtG bs c).2.p=(YF bs).2.1∧(QtG bs c).2.x=c.x:=by
 have ae:∀c':Rr,(QoJ bs c').1=0->Qyd (YF bs).1 c'.x.f=false∧(QoJ bs c').2.p=(YF bs).2.1∧(QoJ bs c').2.x=c'.x:=λc' h=>by
  unfold QoJ at h ⊢
  by_cases aa:((YF bs).2.2==0)=false;·rw[Lc aa]at h;have h:(YF bs).2.2=0:=h;rw[h]at aa;cases aa
  rw[Le aa]at h ⊢
  by_cases ab:Qyd (YF bs).1 c'.x.f=true;·rw[Lc ab]at h;cases h
  rw[Le ab]at h ⊢;split at h;·cases h
  rename_i ac;rw[Le ac];exact⟨by simpa using ab,rfl,rfl⟩
 unfold QtG at h ⊢
 by_cases aa:bs.length=0;·rw[Lc aa]at h;cases h
 rw[Le aa]at h ⊢
 by_cases ab:((bs.getD 0 0==197)&&(c.x.f.map==1)&&!(c.x.f.w==1))=true;·rw[Lc ab]at h ⊢;exact ae c h
 rw[Le ab]at h ⊢
 by_cases ac:(bs.getD 0 0==196)=false;·rw[Lc ac]at h;cases h
 rw[Le ac]at h ⊢
 by_cases ad:bs.length<2;·rw[Lc ad]at h;cases h
 rw[Le ad]at h ⊢;split at h;·cases h
 rename_i ag;rw[Le ag];exact ae (QfY bs c) h
def MoR (c:Rr)(J K:Nat)(r:Int×Rr):Prop:=r.1=0->c.p+J<=r.2.p∧r.2.p<=c.p+K
def SbR (n d:Nat)(r aa:Int×Rr):Prop:=(r.1=9∧(aa.1=0->(n:Int)<aa.2.p+d))∨aa=r
structure Stp (P:Rr->Prop) (J d:Nat) (K:Fm->Nat) (g:List Int->Rr->Int×Rr):Prop where
 mo:∀bs c,bs.length<=1000000->InB bs c.p->P c->MoR c J (K c.x.f) (g bs c)
 sb:∀bs more c,(bs++more).length<=1000000->InB bs c.p->P c->SbR bs.length d (g bs c) (g (bs++more) c)
 kp:∀bs c,bs.length<=1000000->InB bs c.p->KJ bs c (g bs c).2
def tru (_:Rr):Prop:=True
def thn (a b:List Int->Rr->Int×Rr)(bs:List Int)(c:Rr):Int×Rr:=if((a bs c).1==0)=true then b bs (a bs c).2 else a bs c
def InB.more {bs more:List Int}{p:Int}(h:InB bs p):InB (bs++more) p:=by
 unfold InB at *;rw[Lh];omega
def QM5 {bs more:List Int}(h:(bs++more).length<=1000000):bs.length<=1000000:=by rw[Lh]at h;omega
def Stp.then {P:Rr->Prop}{Ja Jb ai aj d:Nat}{Ka Kb:Fm->Nat}{a b:List Int->Rr->Int×Rr}(ad:Stp P Ja ai Ka a)(ag:Stp tru Jb aj Kb b)(al:ai<=Jb+d)(ak:aj<=d):Stp P (Ja+Jb) d (λf=>Ka f+Kb f) (thn a b):=by
 refine⟨λbs c ab ac ah aa=>?_,λbs more c ab ac ah=>?_,λbs c ab ac=>?_⟩
 ·have ae:=ad.kp bs c ab ac;unfold thn at aa ⊢
  by_cases z:((a bs c).1==0)=true;·rw[Lc z]at aa ⊢;have al:=ad.mo bs c ab ac ah (by simpa using z);have ak:=ag.mo bs (a bs c).2 ab ae.2.2 trivial aa;rw[ae.1]at ak;omega
  rw[Le z]at aa;rw[aa]at z;exact absurd rfl z
 ·have am:=QM5 ab;unfold thn;rcases ad.sb bs more c ab ac ah with⟨e1,e2⟩ | h
  ·rw[Le (by rw[e1];decide)];refine .inl ⟨e1,λaa=>?_⟩
   by_cases z:((a (bs++more) c).1==0)=true;·rw[Lc z]at aa ⊢;have an:=e2 (by simpa using z);have ao:=(ag.mo (bs++more) _ ab (ad.kp _ c ab ac.more).2.2 trivial aa).1;omega
   rw[Le z]at aa;rw[aa]at z;exact absurd rfl z
  rw[h]
  by_cases z:((a bs c).1==0)=true
  ·rw[Lc z,Lc z];rcases ag.sb bs more _ ab (ad.kp bs c am ac).2.2 trivial with⟨e1,e2⟩ | h;·exact .inl ⟨e1,λaa=>by have:=e2 aa;omega⟩
   exact .inr h
  rw[Le z,Le z];exact .inr rfl
 have ae:=ad.kp bs c ab ac;unfold thn;split;·exact ae.trans (ag.kp bs _ ab ae.2.2)
 exact ae
def Stp.le {P Q:Rr->Prop}{J J' d d':Nat}{K K':Fm->Nat}{g:List Int->Rr->Int×Rr}(h:Stp P J d K g)(ae:∀c,Q c->P c)(ai:J'<=J)(ah:d<=d')(ag:∀f,K f<=K' f):Stp Q J' d' K' g:=
 ⟨λbs c ab ac ad aa=>by have:=h.mo bs c ab ac (ae c ad) aa;have:=ag c.x.f;omega,λbs more c ab ac ad=>by
  rcases h.sb bs more c ab ac (ae c ad) with⟨e1,e2⟩ | h;·exact .inl ⟨e1,λaa=>by have:=e2 aa;omega⟩
  exact .inr h,h.kp⟩
def QNb {bs more:List Int}{p:Int}(aa:0<=p)(h:p<bs.length):(bs++more).getD p.toNat 0=bs.getD p.toNat 0:=by
 rw[LX,LX,LY (by omega)]
def QNv {bs more:List Int}{p:Int}(aa:0<=p)(h:p<bs.length):Zv (bs++more) p=Zv bs p:=by unfold Zv;rw[QNb aa h]
def QM9 (bs more:List Int):(bs.length:Int)<=(bs++more).length:=by rw[Lh];omega
def QNC (n:Int):Stp tru 1 0 (λ_=>1) (λbs c=>XF bs c n):=by
 refine⟨λbs c ab aa _ ac=>?_,λbs more c ab aa _=>?_,λbs c ab aa=>Qwp ab n aa⟩
 ·have h:(XF bs c n).2.p=c.p+1:=by rw[(QM8 ab aa ac).2.2]
  show _<=(XF bs c n).2.p∧(XF bs c n).2.p<=_;omega
 have ae:=QM9 bs more
 by_cases h:(bs.length:Int)<=c.p
 ·have e:XF bs c n=(9,c):=by unfold XF Qqn;rw[Lc h]
  rw[e];refine .inl ⟨rfl,λac=>?_⟩;have ad:(XF (bs++more) c n).2.p=c.p+1:=by rw[(QM8 ab aa.more ac).2.2]
  show _<(XF (bs++more) c n).2.p+_;omega
 right;show XF (bs++more) c n=XF bs c n;unfold XF Qqn;rw[Le h,Le (by have:=aa.1;omega),QNb aa.1 (by omega)]
def QOV:Stp tru 0 0 (λ_=>0) (λ_ c=>((0:Int),c)):=
 ⟨λbs c ab aa _ _=>(by show c.p+((0:Nat):Int)<=c.p∧c.p<=c.p+((0:Nat):Int);omega),λbs more c ab aa _=>.inr rfl,λbs c ab aa=>.self aa⟩
def QND:∀l:List UInt8,Stp tru 0 0 (λ_=>l.length) (λbs c=>Qss bs l c)
 | []=>QOV
 | n::l=>((QNC n.toNat).then (QND l) (L7 _) (Lb _)).le (λ_ h=>h) (L7 _) (Lb _) λ_=>by rw[Lo];omega
def Stp.byF {P:Rr->Prop}{J d:Nat}{K:Fm->Nat}{g:Fm->List Int->Rr->Int×Rr}(h:∀f,Stp P J d (λ_=>K f) (g f)):Stp P J d K (λbs c=>g c.x.f bs c):=
 ⟨λbs c aa ab=>(h c.x.f).mo bs c aa ab,λbs more c aa ab=>(h c.x.f).sb bs more c aa ab,λbs c aa ab=>(h c.x.f).kp bs c aa ab⟩
def QOW {bs:List Int}{c:Rr}(aa:bs.length<=1000000)(ab:InB bs c.p):KJ bs c (QdE bs c).2:=by
 have e:(QdE bs c).2.x=c.x∧(QdE bs c).2.bv=c.bv:=by
  unfold QdE
  repeat' split
  ·exact⟨rfl,rfl⟩
  ·rw[Qso];exact⟨rfl,rfl⟩
  rw[Qso];exact⟨rfl,rfl⟩
 exact⟨e.1,e.2,QE9 ab aa⟩
def QOK:Stp tru 0 1 (λ_=>1) QdE:=by
 refine⟨λbs c ab aa _ ac=>?_,λbs more c ab aa _=>?_,λbs c ab aa=>QOW ab aa⟩;·obtain⟨_,_,h⟩:=QNz ab aa ac;rw[h];split<;>omega
 have ad:=QM9 bs more
 by_cases h:(bs.length:Int)<=c.p
 ·have e:QdE bs c=(9,c):=by unfold QdE;rw[Lc h]
  rw[e];refine .inl ⟨rfl,λac=>?_⟩;obtain⟨_,_,h⟩:=QNz ab aa.more ac;rw[h];split<;>omega
 right;unfold QdE;rw[Le h,Le (by have:=aa.1;omega),QNv aa.1 (by omega)]
def QOq:Stp tru 0 1 (λf=>1+(QdF f.map).length) Qst:=
 QOK.then (Stp.byF (K:=λf=>(QdF f.map).length) (g:=λf bs c=>Qss bs (QdF f.map) c) λf=>QND _) (Lb _) (L7 _)
def QN1:Stp tru 0 1 (λf=>(QMP f.pre).length+(1+(QdF f.map).length)) QtF:=by
 have h:=(Stp.byF (K:=λf=>(QMP f.pre).length) (g:=λf bs c=>Qss bs (QMP f.pre) c) λf=>QND _).then QOq (d:=1) (L7 _) (Lb _);have e:thn (λbs c=>Qss bs (QMP c.x.f.pre) c) Qst=QtF:=by
  funext bs c;rw[QNp];rfl
 rw[e]at h;exact h
def QOr:Stp tru 1 0 (λ_=>1) opF:=by
 have key:∀bs c,opF bs c=if(decide (Qy c.x.f.slots 4<0))=true then XF bs c c.x.f.code else if(bs.length:Int)<=c.p then(9,c) else XF bs {c with low:=Qyc bs c.p} (IntKind.i64.wrap (c.x.f.code+Qyc bs c.p)):=λ_ _=>rfl
 refine⟨λbs c ab aa _ ad=>?_,λbs more c ab aa _=>?_,λbs c ab aa=>QIK ab aa⟩;·have:=(QNK ab aa ad).1;omega
 have ag:=QM9 bs more;rw[key,key]
 by_cases ac:(decide (Qy c.x.f.slots 4<0))=true;·rw[Lc ac,Lc ac];exact(QNC c.x.f.code).sb bs more c ab aa trivial
 rw[Le ac,Le ac]
 by_cases h:(bs.length:Int)<=c.p;·rw[Lc h];refine .inl ⟨rfl,λad=>?_⟩;have ae:=(QNK (c:=c) ab aa.more (by rw[key,Le ac];exact ad)).1;rw[key,Le ac]at ae;rw[ae];omega
 rw[Le h,Le (by have:=aa.1;omega)];have e:Qyc (bs++more) c.p=Qyc bs c.p:=by unfold Qyc;rw[QNb aa.1 (by omega)]
 rw[e];exact(QNC _).sb bs more _ ab aa trivial
def QM7 {bs more:List Int}{k:Nat}(h:k<bs.length):(bs++more).getD k 0=bs.getD k 0:=by
 rw[LX,LX,LY h]
def QNq {bs:List Int}(h:(YF bs).2.2=0):2<=(YF bs).2.1∧(YF bs).2.1<=3:=by
 have key:∀ (x:Vd×Int×Int),x=YF bs->x.2.2=0->2<=x.2.1∧x.2.1<=3:=λx e h=>by
  unfold YF at e
  repeat' split at e
  all_goals (rw[e]at h ⊢;first | (cases h;done) | exact⟨by simp,by simp⟩)
 exact key _ rfl h
def QOs {bs more:List Int}:((YF bs).2.2=9∧((YF (bs++more)).2.2=0->(bs.length:Int)<(YF (bs++more)).2.1))∨YF (bs++more)=YF bs:=by
 have ag:bs.length<=(bs++more).length:=by rw[Lh];omega
 by_cases aa:bs.length=0
 ·have e:YF bs=(Vv,0,9):=by unfold YF;rw[Lc aa]
  rw[e];exact .inl ⟨rfl,λh=>by have:=QNq h;omega⟩
 have ab:(bs++more).getD 0 0=bs.getD 0 0:=QM7 (by omega)
 by_cases ac:bs.length<2
 ·by_cases z:(bs.getD 0 0==197)=true
  ·have e:YF bs=(Vv,0,9):=by unfold YF;rw[Le aa,Lc z,Lc ac]
   rw[e];exact .inl ⟨rfl,λh=>by have:=QNq h;omega⟩
  by_cases y:(bs.getD 0 0==196)=false;·right;unfold YF;rw[Le aa,Le (by omega),ab,Le z,Lc y,Le z,Lc y]
  have e:YF bs=(Vv,0,9):=by unfold YF;rw[Le aa,Le z,Le y,Lc ac]
  rw[e];exact .inl ⟨rfl,λh=>by have:=QNq h;omega⟩
 have g1:(bs++more).getD 1 0=bs.getD 1 0:=QM7 (by omega)
 by_cases z:(bs.getD 0 0==197)=true;·right;unfold YF;rw[Le aa,Le (by omega),ab,Lc z,Lc z,Le ac,Le (by omega),g1]
 by_cases y:(bs.getD 0 0==196)=false;·right;unfold YF;rw[Le aa,Le (by omega),ab,Le z,Lc y,Le z,Lc y]
 by_cases x:(decide (Zk (Qbb (IntKind.i64.wrap (bs.getD 1 0)) 224) 31<1)||decide (3<Zk (Qbb (IntKind.i64.wrap (bs.getD 1 0)) 224) 31))=true;·right;unfold YF;rw[Le aa,Le (by omega),ab,Le z,Le y,Le z,Le y,Le ac,Le (by omega),g1,Lc x,Lc x]
 by_cases ad:bs.length<3
 ·have e:YF bs=(Vv,0,9):=by unfold YF;rw[Le aa,Le z,Le y,Le ac,Le x,Lc ad]
  rw[e];refine .inl ⟨rfl,λh=>?_⟩
  by_cases ae:(bs++more).length<3
  ·have e:YF (bs++more)=(Vv,0,9):=by unfold YF;rw[Le (by omega),ab,Le z,Le y,Le (by omega),g1,Le x,Lc ae]
   rw[e]at h;cases h
  have e:(YF (bs++more)).2.1=3:=by unfold YF;rw[Le (by omega),ab,Le z,Le y,Le (by omega),g1,Le x,Le ae]
  rw[e];omega
 right;unfold YF;have g2:(bs++more).getD 2 0=bs.getD 2 0:=QM7 (by omega);rw[Le aa,Le (by omega),ab,Le z,Le y,Le z,Le y,Le ac,Le (by omega),g1,Le x,Le x,Le ad,Le (by omega),g2]
def QNE {bs:List Int}{c:Rr}(h:(QoJ bs c).1=0):(YF bs).2.2=0∧(QoJ bs c).2.p=(YF bs).2.1:=by
 unfold QoJ at h ⊢
 by_cases aa:((YF bs).2.2==0)=false;·rw[Lc aa]at h;have h:(YF bs).2.2=0:=h;rw[h]at aa;cases aa
 rw[Le aa]at h ⊢;have ab:(YF bs).2.2=0:=by simpa using aa
 repeat' split
 all_goals exact⟨ab,rfl⟩
def QNM {bs more:List Int}{c:Rr}:SbR bs.length 0 (QoJ bs c) (QoJ (bs++more) c):=by
 rcases @QOs bs more with⟨aa,ab⟩ | h
 ·have e:QoJ bs c=(9,c):=by unfold QoJ;rw[aa,Lc (by decide)]
  rw[e];refine .inl ⟨rfl,λh=>?_⟩;obtain⟨ac,ad⟩:=QNE h;rw[ad];have:=ab ac;omega
 right;unfold QoJ QHQ;rw[h]
def QOt:Stp (λc=>c.p=0) 1 0 (λ_=>3) QtG:=by
 refine⟨λbs c ai ae ah aa=>?_,λbs more c ai ae ah=>?_,λbs c ai ae=>QKv ae⟩
 ·have ab:=(QNL aa).2.1;have ad:(YF bs).2.2=0:=by
   unfold QtG at aa
   by_cases ab:bs.length=0;·rw[Lc ab]at aa;cases aa
   rw[Le ab]at aa;split at aa;·exact(QNE aa).1
   split at aa;·cases aa
   split at aa;·cases aa
   split at aa;·cases aa
   exact(QNE aa).1
  have:=QNq ad;rw[ab,ah];omega
 have aj:bs.length<=(bs++more).length:=by rw[Lh];omega
 have ag:∀n:Nat,n<2->(QtG (bs++more) c).1=0->(n:Int)<(QtG (bs++more) c).2.p+(0:Nat):=λn ak h=>by
  have ab:=(QNL h).2.1;have ad:(YF (bs++more)).2.2=0:=by
   unfold QtG at h
   repeat' split at h
   all_goals first | cases h | exact(QNE h).1
  have:=QNq ad;omega
 by_cases aa:bs.length=0
 ·have e:QtG bs c=(9,c):=by unfold QtG;rw[Lc aa]
  rw[e];exact .inl ⟨rfl,ag bs.length (by omega)⟩
 have ac:(bs++more).getD 0 0=bs.getD 0 0:=QM7 (by omega);have key:∀ (l:List Int),l.length≠0->QtG l c=if((l.getD 0 0==197)&&(c.x.f.map==1)&&!(c.x.f.w==1))=true then QoJ l c
   else if(l.getD 0 0==196)=false then(4,c) else if l.length<2 then(9,c)
   else if(!(Zk (IntKind.i64.wrap (l.getD 1 0)) 31==c.x.f.map)||!Qdm c.x.f (QfY l c).r (QfY l c).xx (QfY l c).bb)=true then(4,QfY l c) else QoJ l (QfY l c):=λl h=>by unfold QtG;rw[Le h]
 by_cases z:((bs.getD 0 0==197)&&(c.x.f.map==1)&&!(c.x.f.w==1))=true;·rw[key bs aa,key (bs++more) (by omega),ac,Lc z,Lc z];exact QNM
 by_cases y:(bs.getD 0 0==196)=false;·right;rw[key bs aa,key (bs++more) (by omega),ac,Le z,Le z,Lc y,Lc y]
 by_cases ab:bs.length<2
 ·have e:QtG bs c=(9,c):=by rw[key bs aa,Le z,Le y,Lc ab]
  rw[e];exact .inl ⟨rfl,ag bs.length (by omega)⟩
 have g1:(bs++more).getD 1 0=bs.getD 1 0:=QM7 (by omega);have e3:QfY (bs++more) c=QfY bs c:=by unfold QfY;rw[g1]
 rw[key bs aa,key (bs++more) (by omega),ac,Le z,Le z,Le y,Le y,Le ab,Le (show ¬ (bs++more).length<2 by omega),g1,e3]
 by_cases x:(!(Zk (IntKind.i64.wrap (bs.getD 1 0)) 31==c.x.f.map)||!Qdm c.x.f (QfY bs c).r (QfY bs c).xx (QfY bs c).bb)=true;·rw[Lc x,Lc x];exact .inr rfl
 rw[Le x,Le x];exact QNM
def hdK (f:Fm):Nat:=if f.vex=true then 3 else(QMP f.pre).length+(1+(QdF f.map).length)
def QNN:Stp (λc=>c.p=0) 0 1 hdK QbR:=by
 have e:∀c:Rr,c.x.f.vex=true->∀bs,QbR bs c=QtG bs c:=λc h bs=>by unfold QbR;rw[h];rfl
 have e':∀c:Rr,¬c.x.f.vex=true->∀bs,QbR bs c=QtF bs c:=λc h bs=>by unfold QbR;rw[(by simpa using h:c.x.f.vex=false)];rfl
 have ae:=QOt.le (P:=λc=>c.p=0) (Q:=λc=>c.p=0) (J':=0) (d':=1) (K':=λ_=>3) (λ_ h=>h) (by omega) (by omega) (λ_=>Lb _);refine⟨λbs c ab ac ad=>?_,λbs more c ab ac ad=>?_,λbs c ab ac=>QBX ab ac⟩
 ·by_cases aa:c.x.f.vex=true;·rw[e c aa];unfold hdK;rw[Lc aa];exact ae.mo bs c ab ac ad
  rw[e' c aa];unfold hdK;rw[Le aa];exact QN1.mo bs c ab ac trivial
 by_cases aa:c.x.f.vex=true;·rw[e c aa,e c aa];exact ae.sb bs more c ab ac ad
 rw[e' c aa,e' c aa];exact QN1.sb bs more c ab ac trivial
def QNO {bs more:List Int}{p:Nat}:∀i:Nat,p+i<=bs.length->QC7 (bs++more) p i=QC7 bs p i
 | 0,_=>rfl
 | i+1,h=>by
  unfold QC7;rw[QNO i (by omega),QM7 (by omega)]
def QOX {bs:List Int}{p sz:Int}{ab:Bool}(ac:0<=p)(ad:p<=bs.length)(aa:QeP sz=true)(h:(bs.length:Int) - p<sz):XM bs p sz ab=(0,9):=by
 unfold XM;rw[Le (by rw[aa];decide),Le (by simp;omega),Lc h]
def QNj {bs more:List Int}{p sz:Int}{ab:Bool}(ad:0<=p)(ac:p<=bs.length):((XM bs p sz ab).2=9∧(bs.length:Int)<p+sz)∨XM (bs++more) p sz ab=XM bs p sz ab:=by
 have ag:=QM9 bs more;cases aa:QeP sz with
 | false=>
  right;unfold XM;rw[Lc aa,Lc aa]
 | true=>
  have ae:0<=sz:=by
   simp only[QeP,Nw,L0]at aa;omega
  by_cases h:(bs.length:Int) - p<sz;·rw[QOX ad ac aa h];exact .inl ⟨rfl,by omega⟩
  right;have key:∀l:List Int,p<=l.length->¬ (l.length:Int) - p<sz->XM l p sz ab=if ab=true then(QkV (IntKind.i64.wrap (QC7 l p.toNat sz.toNat)) (8 * sz),0) else(IntKind.i64.wrap (QC7 l p.toNat sz.toNat),0):=λl a b=>by
   unfold XM;rw[Le (by rw[aa];decide),Le (by simp;omega),Le b]
  rw[key bs ac h,key (bs++more) (by omega) (by omega),QNO _ (by omega)]
def QNd {bs:List Int}{p sz:Int}{ab:Bool}(h:(XM bs p sz ab).2=0):0<=p∧p+sz<=bs.length:=by
 unfold XM at h;split at h;·cases h
 split at h;·cases h
 rename_i aa;split at h;·cases h
 simp at aa;omega
def SrR (n:Nat)(r aa:Sn×Int):Prop:=(r.2=9∧(aa.2=0->(n:Int)<aa.1.ends))∨aa=r
def QNr (aa:Int)(m:Mm):Gc aa m=0∨Gc aa m=1∨Gc aa m=4:=by
 unfold Gc
 repeat' split
 all_goals simp
def QN2 {mid p:Int}{m:Mm}(h:(Qsl mid p m).2=0):(Qsl mid p m).1.ends=p:=by
 unfold Qsl at h ⊢;split;·rfl
 rename_i aa;rw[Le aa]at h;cases h
def QNs {bs:List Int}{p aa mid:Int}{m:Mm}(ac:bs.length<=1000000)(ab:InB bs p)(h:(QeS bs p aa mid m).2=0):(QeS bs p aa mid m).1.ends=p+Gc aa m:=by
 have ad:=QNr aa m;unfold InB at ab;unfold QeS at h ⊢
 by_cases z:(Gc aa m==0)=true;·rw[Lc z]at h ⊢;rw[QN2 h,eq_of_beq z];omega
 rw[Le z]at h ⊢
 by_cases y:((XM bs p (Gc aa m) true).2==0)=true;·rw[Lc y]at h ⊢;rw[QN2 h,w64 (by unfold I64;omega)]
 rw[Le y]at h;have h:(XM bs p (Gc aa m) true).2=0:=h;rw[h]at y;exact absurd rfl y
def QNf {bs more:List Int}{p aa mid:Int}{m:Mm}(ad:(bs++more).length<=1000000)(ab:InB bs p):SrR bs.length (QeS bs p aa mid m) (QeS (bs++more) p aa mid m):=by
 by_cases z:(Gc aa m==0)=true;·right;unfold QeS;rw[Lc z,Lc z]
 rcases @QNj bs more p (Gc aa m) true ab.1 ab.2 with⟨ac,ae⟩ | h
 ·have e:QeS bs p aa mid m=(Jx,9):=by unfold QeS;rw[Le z,Le (by rw[ac];decide),ac]
  rw[e];exact .inl ⟨rfl,λh=>by rw[QNs ad ab.more h];omega⟩
 right;unfold QeS;rw[h]
def QN3 {bs:List Int}{p aa mid x bb:Int}(ab:bs.length<=1000000)(ad:InB bs p)(h:(Qx7 bs p aa mid x bb).2=0):p+1<=(Qx7 bs p aa mid x bb).1.ends∧(Qx7 bs p aa mid x bb).1.ends<=p+5:=by
 unfold Qx7 at h ⊢
 by_cases z:((XM bs p 1 false).2==0)=true
 ·rw[Lc z]at h ⊢;have ac:=QNd (eq_of_beq z);have e1:IntKind.i64.wrap (p+1)=p+1:=w64 (by unfold I64;omega)
  by_cases y:((QtD (XM bs p 1 false).1 aa x bb).2==0)=true;·rw[Lc y]at h ⊢;rw[e1]at h ⊢;rw[QNs ab ⟨by omega,by omega⟩ h];have:=QNr aa (QtD (XM bs p 1 false).1 aa x bb).1;omega
  rw[Le y]at h;have h:(QtD (XM bs p 1 false).1 aa x bb).2=0:=h;rw[h]at y;exact absurd rfl y
 rw[Le z]at h;have h:(XM bs p 1 false).2=0:=h;rw[h]at z;exact absurd rfl z
def QOe {bs more:List Int}{p aa mid x bb:Int}(ac:(bs++more).length<=1000000)(ad:InB bs p):SrR bs.length (Qx7 bs p aa mid x bb) (Qx7 (bs++more) p aa mid x bb):=by
 have ag:=QM5 ac;rcases @QNj bs more p 1 false ad.1 ad.2 with⟨ab,ae⟩ | h
 ·have e:Qx7 bs p aa mid x bb=(Jx,9):=by unfold Qx7;rw[Le (by rw[ab];decide),ab]
  rw[e];exact .inl ⟨rfl,λh=>by have:=QN3 ac ad.more h;omega⟩
 unfold Qx7;rw[h]
 by_cases z:((XM bs p 1 false).2==0)=true
 ·have ab:=QNd (eq_of_beq z);have e1:IntKind.i64.wrap (p+1)=p+1:=w64 (by unfold I64;omega);rw[Lc z,Lc z,e1]
  by_cases y:((QtD (XM bs p 1 false).1 aa x bb).2==0)=true;·rw[Lc y,Lc y];exact QNf ac ⟨by omega,by omega⟩
  rw[Le y,Le y];exact .inr rfl
 rw[Le z,Le z];exact .inr rfl
def QOu {bs:List Int}{p aa mid ag x bb:Int}(ah:bs.length<=1000000)(ai:InB bs p)(h:(Qsm bs p aa mid ag x bb).2=0):p<=(Qsm bs p aa mid ag x bb).1.ends∧(Qsm bs p aa mid ag x bb).1.ends<=p+5:=by
 have aj:∀m:Mm,(QeS bs p aa mid m).2=0->p<=(QeS bs p aa mid m).1.ends∧(QeS bs p aa mid m).1.ends<=p+5:=λm h=>by
  rw[QNs ah ai h];have:=QNr aa m;omega
 unfold Qsm at h ⊢;split;·rename_i ab;rw[Lc ab]at h;cases h
 rename_i ab;rw[Le ab]at h;split;·show p<=p∧p<=p+5;omega
 rename_i ak;rw[Le ak]at h;split;·rename_i ac;rw[Lc ac]at h;have:=QN3 ah ai h;omega
 rename_i ac;rw[Le ac]at h;split
 ·rename_i ad;rw[Lc ad]at h;split;·rename_i ae;rw[Lc ae]at h;cases h
  rename_i ae;rw[Le ae]at h;exact aj _ h
 rename_i ad;rw[Le ad]at h;exact aj _ h
def QNU {bs more:List Int}{p aa mid ab x bb:Int}(ai:(bs++more).length<=1000000)(aj:InB bs p):SrR bs.length (Qsm bs p aa mid ab x bb) (Qsm (bs++more) p aa mid ab x bb):=by
 unfold Qsm
 by_cases ac:(x==1&&(aa==3||!(ab==4)))=true;·rw[Lc ac,Lc ac];exact .inr rfl
 rw[Le ac,Le ac]
 by_cases ad:(aa==3)=true;·rw[Lc ad,Lc ad];exact .inr rfl
 rw[Le ad,Le ad]
 by_cases ae:(ab==4)=true;·rw[Lc ae,Lc ae];exact QOe ai aj
 rw[Le ae,Le ae]
 by_cases ag:(aa==0&&ab==5)=true
 ·rw[Lc ag,Lc ag]
  by_cases ah:(bb==1)=true;·rw[Lc ah,Lc ah];exact .inr rfl
  rw[Le ah,Le ah];exact QNf ai aj
 rw[Le ag,Le ag];exact QNf ai aj
def QOO {bs:List Int}{p x bb:Int}(ab:bs.length<=1000000)(h:(rdF bs p x bb).2=0):p+1<=(rdF bs p x bb).1.ends∧(rdF bs p x bb).1.ends<=p+6:=by
 unfold rdF at h ⊢;split;·rename_i aa;rw[Lc aa]at h;cases h
 rename_i aa;rw[Le aa]at h
 by_cases z:((XM bs p 1 false).2==0)=true;·rw[Lc z]at h ⊢;have aa:=QNd (eq_of_beq z);have e1:IntKind.i64.wrap (p+1)=p+1:=w64 (by unfold I64;omega);rw[e1]at h ⊢;have:=QOu ab ⟨by omega,by omega⟩ h;omega
 rw[Le z]at h;have h:(XM bs p 1 false).2=0:=h;rw[h]at z;exact absurd rfl z
def QOL {bs more:List Int}{p x bb:Int}(ac:(bs++more).length<=1000000)(aa:InB bs p):SrR bs.length (rdF bs p x bb) (rdF (bs++more) p x bb):=by
 have ag:=QM5 ac;have ae:=QM9 bs more;have a1:decide ((bs.length:Int)<p)=false:=Lj (by have:=aa.2;omega);have a2:decide (((bs++more).length:Int)<p)=false:=Lj (by have:=aa.2;omega);have key:∀l:List Int,decide ((l.length:Int)<p)=false->rdF l p x bb=if(decide (p<0)||false||decide (x<0)||decide (1<x)||decide (bb<0)||decide (1<bb))=true then(Jx,5)
   else if((XM l p 1 false).2==0)=true then Qsm l (IntKind.i64.wrap (p+1)) (Xn (XM l p 1 false).1).1 (Xn (XM l p 1 false).1).2.1 (Xn (XM l p 1 false).1).2.2 x bb
   else(Jx,(XM l p 1 false).2):=λl h=>by unfold rdF;rw[h]
 by_cases z:(decide (p<0)||false||decide (x<0)||decide (1<x)||decide (bb<0)||decide (1<bb))=true;·rw[key bs a1,key _ a2,Lc z,Lc z];exact .inr rfl
 rcases @QNj bs more p 1 false aa.1 aa.2 with⟨ab,ad⟩ | h
 ·have e:rdF bs p x bb=(Jx,9):=by rw[key bs a1,Le z,Le (by rw[ab];decide),ab]
  rw[e];exact .inl ⟨rfl,λh=>by have:=QOO ac h;omega⟩
 rw[key bs a1,key _ a2,Le z,Le z,h]
 by_cases y:((XM bs p 1 false).2==0)=true;·have ab:=QNd (eq_of_beq y);have e1:IntKind.i64.wrap (p+1)=p+1:=w64 (by unfold I64;omega);rw[Lc y,Lc y,e1];exact QNU ac ⟨by omega,by omega⟩
 rw[Le y,Le y];exact .inr rfl
def mrK (f:Fm):Nat:=if decide (Qy f.slots 2<0)=true then 0 else 6
def QN4:Stp tru 0 0 mrK QoI:=by
 have key:∀bs c,QoI bs c=if decide (Qy c.x.f.slots 2<0)=true then(0,c)
   else if(bs.length:Int)<=c.p then(9,c)
   else if QBz c.x.f (Zv bs c.p) (c.x.f.shapes.getD (Qy c.x.f.slots 2).toNat 0)=false then(4,c)
   else if((rdF bs c.p c.xx c.bb).2==0)=false then((rdF bs c.p c.xx c.bb).2,c)
   else(0,{c with seen:=(rdF bs c.p c.xx c.bb).1,p:=(rdF bs c.p c.xx c.bb).1.ends}):=λ_ _=>rfl
 have ah:∀bs c,bs.length<=1000000->¬decide (Qy c.x.f.slots 2<0)=true->(QoI bs c).1=0->c.p+1<=(QoI bs c).2.p∧(QoI bs c).2.p<=c.p+6:=λbs c ab z h=>by
  rw[key,Le z]at h ⊢;split at h;·cases h
  rename_i ad;rw[Le ad];split at h;·cases h
  rename_i ag;rw[Le ag];split at h;·rename_i ae;have h:(rdF bs c.p c.xx c.bb).2=0:=h;rw[h]at ae;cases ae
  rename_i ae;rw[Le ae];exact QOO ab (by simpa using ae)
 refine⟨λbs c ab ac _ aa=>?_,λbs more c ab ac _=>?_,λbs c ab ac=>QFH ab ac⟩
 ·unfold mrK
  by_cases z:decide (Qy c.x.f.slots 2<0)=true
  ·rw[Lc z];have e:QoI bs c=(0,c):=by rw[key,Lc z]
   rw[e];show c.p+((0:Nat):Int)<=c.p∧c.p<=c.p+((0:Nat):Int);omega
  rw[Le z];have:=ah bs c ab z aa;omega
 have ai:=QM9 bs more
 by_cases z:decide (Qy c.x.f.slots 2<0)=true;·right;rw[key,key,Lc z,Lc z]
 by_cases h:(bs.length:Int)<=c.p
 ·have e:QoI bs c=(9,c):=by rw[key,Le z,Lc h]
  rw[e];exact .inl ⟨rfl,λaa=>by have:=ah _ c ab z aa;omega⟩
 have h':¬ ((bs++more).length:Int)<=c.p:=by
  have:=ac.1;omega
 rw[key bs c,key (bs++more) c,Le z,Le z,Le h,Le h',QNv ac.1 (by omega)]
 by_cases y:QBz c.x.f (Zv bs c.p) (c.x.f.shapes.getD (Qy c.x.f.slots 2).toNat 0)=false;·rw[Lc y,Lc y];exact .inr rfl
 rw[Le y,Le y];rcases @QOL bs more c.p c.xx c.bb ab ac with⟨ad,ag⟩ | ad
 ·rw[ad,Lc (show((9:Int)==0)=false from rfl)];refine .inl ⟨rfl,λaa=>?_⟩
  by_cases x:((rdF (bs++more) c.p c.xx c.bb).2==0)=false;·rw[Lc x]at aa;have aa:(rdF (bs++more) c.p c.xx c.bb).2=0:=aa;rw[aa]at x;cases x
  rw[Le x];have:=ag (by simpa using x);show(bs.length:Int)<(rdF (bs++more) c.p c.xx c.bb).1.ends+((0:Nat):Int);omega
 rw[ad];exact .inr rfl
def tlK (f:Fm):Nat:=(if decide (0<tl1 f)=true then(tl1 f).toNat else 0)+(if decide (0<=Qy f.slots 7)=true then 1 else 0)
def SdR (n:Nat)(d d':Dr):Prop:=(d.e=9∧(d'.e=0->(n:Int)<d'.n))∨d'=d
def QOv {op p:Int}{l:List Ar}(h:(QsL op p l).e=0):(QsL op p l).n=p:=by
 unfold QsL at h ⊢;split;·rename_i aa;rw[Lc aa]at h;cases h
 rfl
def QNF {bs:List Int}{c:Rr}{n:Int}(ae:bs.length<=1000000)(ab:InB bs c.p)(h:(QtS bs c n).e=0):(QtS bs c n).n=c.p+(if decide (0<=Qy c.x.f.slots 7)=true then 1 else 0):=by
 have ah:=ab.2;have ag:=ab.1;unfold QtS at h ⊢
 by_cases aa:decide (0<=Qy c.x.f.slots 7)=true
 ·rw[Lc aa]at h ⊢;rw[Lc aa];split at h;·cases h
  rename_i ac;rw[Le ac];split at h;·cases h
  rename_i ad;rw[Le ad,QOv h,w64 (by unfold I64;omega)]
 rw[Le aa]at h ⊢;rw[Le aa,QOv h];omega
def QNP {bs more:List Int}{c:Rr}{n:Int}(ad:(bs++more).length<=1000000)(ab:InB bs c.p):SdR bs.length (QtS bs c n) (QtS (bs++more) c n):=by
 have ae:=QM9 bs more
 by_cases aa:decide (0<=Qy c.x.f.slots 7)=true
 ·by_cases h:(bs.length:Int)<=c.p
  ·have e:QtS bs c n=Qjx 9:=by unfold QtS;rw[Lc aa,Lc h]
   rw[e];exact .inl ⟨rfl,λac=>by rw[QNF ad ab.more ac,Lc aa];omega⟩
  right;have h':¬ ((bs++more).length:Int)<=c.p:=by have:=ab.1;omega
  have e1:QBW (bs++more) c.p=QBW bs c.p:=by unfold QBW;rw[QNb ab.1 (by omega)]
  have e2:hi4 (bs++more) c.p=hi4 bs c.p:=by unfold hi4;rw[QNb ab.1 (by omega)]
  unfold QtS;rw[Lc aa,Lc aa,Le h,Le h',e1,e2]
 right;unfold QtS;rw[Le aa,Le aa]
def QNG {bs:List Int}{c:Rr}(ac:bs.length<=1000000)(ab:InB bs c.p)(h:(QoT bs c).e=0):(QoT bs c).n=c.p+tlK c.x.f:=by
 have ag:=ab.2;have ae:=ab.1;unfold tlK;unfold QoT at h ⊢
 by_cases aa:decide (0<tl1 c.x.f)=true
 ·rw[Lc aa]at h ⊢;rw[Lc aa];have aa:=Lg aa
  by_cases z:((XM bs c.p (tl1 c.x.f) true).2==0)=false;·rw[Lc z]at h;have h:(XM bs c.p (tl1 c.x.f) true).2=0:=h;rw[h]at z;cases z
  rw[Le z]at h ⊢;have ad:=QNd (by simpa using z);have e1:IntKind.i64.wrap (c.p+tl1 c.x.f)=c.p+tl1 c.x.f:=w64 (by unfold I64;omega);rw[QNF ac (by show InB bs (IntKind.i64.wrap _);rw[e1];exact⟨by omega,by omega⟩) h];show IntKind.i64.wrap _+_=_;rw[e1];show c.p+tl1 c.x.f+(if decide (0<=Qy c.x.f.slots 7)=true then 1 else 0)=_;split<;>omega
 rw[Le aa]at h ⊢;rw[Le aa,QNF ac ab h];split<;>omega
def QOw {bs more:List Int}{c:Rr}(ab:(bs++more).length<=1000000)(ac:InB bs c.p):SdR bs.length (QoT bs c) (QoT (bs++more) c):=by
 have ah:=ac.2;have ag:=ac.1;have aj:=QM5 ab
 by_cases aa:decide (0<tl1 c.x.f)=true
 ·rcases @QNj bs more c.p (tl1 c.x.f) true ag ah with⟨ad,ai⟩ | h
  ·have e:QoT bs c=Qjx 9:=by unfold QoT;rw[Lc aa,ad,Lc (by decide)]
   rw[e];refine .inl ⟨rfl,λae=>?_⟩;rw[QNG ab ac.more ae];unfold tlK;rw[Lc aa];omega
  unfold QoT;rw[Lc aa,Lc aa,h]
  by_cases z:((XM bs c.p (tl1 c.x.f) true).2==0)=false;·rw[Lc z,Lc z];exact .inr rfl
  rw[Le z,Le z];have ad:=QNd (by simpa using z);have aa:=Lg aa;have e1:IntKind.i64.wrap (c.p+tl1 c.x.f)=c.p+tl1 c.x.f:=w64 (by unfold I64;omega);exact QNP ab (by show InB bs (IntKind.i64.wrap _);rw[e1];exact⟨by omega,by omega⟩)
 unfold QoT;rw[Le aa,Le aa];exact QNP ab ac
def QNQ (a b:List Int->Rr->Int×Rr)(l:List Int)(c:Rr):thn a b l c=bif (a l c).1==0 then b l (a l c).2 else a l c:=by
 unfold thn;cases(a l c).1==0<;>rfl
def QN5 (l:List Int)(c:Rr):thn (thn QbR opF) QoI l c=rdM l c:=by
 have e:thn QbR opF l c=rdO l c:=QNQ QbR opF l c;rw[QNQ,e];rfl
def QNw {bs more:List Int}(f:Fm)(ab:(bs++more).length<=1000000):SdR bs.length (Vz bs f) (Vz (bs++more) f):=by
 have ai:=QM5 ab;have ac:=(QNN.then QOr (d:=0) (Lb _) (Lb _)).then QN4 (d:=0) (Lb _) (Lb _);have e:=QN5;have ad:∀l,Vz l f=bif (rdM l (rd0 ⟨f,.slice none 0 0,.slice none 0 0⟩ (.slice none 0 0))).1==0 then QoT l (rdM l (rd0 ⟨f,.slice none 0 0,.slice none 0 0⟩ (.slice none 0 0))).2 else Qjx (rdM l (rd0 ⟨f,.slice none 0 0,.slice none 0 0⟩ (.slice none 0 0))).1:=λ_=>rfl
 have ae:=ac.sb bs more (rd0 ⟨f,.slice none 0 0,.slice none 0 0⟩ (.slice none 0 0)) ab (InB.zero bs) rfl;have ag:=ac.kp bs (rd0 ⟨f,.slice none 0 0,.slice none 0 0⟩ (.slice none 0 0)) ai (InB.zero bs);have ah:=ac.kp (bs++more) (rd0 ⟨f,.slice none 0 0,.slice none 0 0⟩ (.slice none 0 0)) ab (InB.zero _);rw[ad,ad];simp only[e]at ae ag ah;generalize rdM bs (rd0 ⟨f,.slice none 0 0,.slice none 0 0⟩ (.slice none 0 0))=r at *;generalize rdM (bs++more) (rd0 ⟨f,.slice none 0 0,.slice none 0 0⟩ (.slice none 0 0))=r' at *;rcases ae with⟨e1,e2⟩ | rfl
 ·left;rw[e1];refine⟨rfl,λaa=>?_⟩;cases z:r'.1==0 with
  | false=>
   rw[z]at aa;have aa:r'.1=0:=aa;rw[aa]at z;cases z
  | true=>
   rw[z]at aa;have aa:(QoT (bs++more) r'.2).e=0:=aa;have aj:=QNG ab ah.2.2 aa;have ak:=e2 (eq_of_beq z);show(bs.length:Int)<(QoT (bs++more) r'.2).n;omega
 cases z:r'.1==0 with
 | false=>exact .inr rfl
 | true=>exact QOw ab ag.2.2
def QOf (f:Fm):Nat:=hdK f+1+mrK f+tlK f
def QNV {bs:List Int}{f:Fm}(ab:bs.length<=1000000)(h:(Vz bs f).e=0):0<(Vz bs f).n∧(Vz bs f).n<=QOf f:=by
 have ad:=(QNN.then QOr (d:=0) (Lb _) (Lb _)).then QN4 (d:=0) (Lb _) (Lb _);have e:=QN5;have ae:Vz bs f=bif (rdM bs (rd0 ⟨f,.slice none 0 0,.slice none 0 0⟩ (.slice none 0 0))).1==0 then QoT bs (rdM bs (rd0 ⟨f,.slice none 0 0,.slice none 0 0⟩ (.slice none 0 0))).2 else Qjx (rdM bs (rd0 ⟨f,.slice none 0 0,.slice none 0 0⟩ (.slice none 0 0))).1:=rfl
 have ac:=ad.mo bs (rd0 ⟨f,.slice none 0 0,.slice none 0 0⟩ (.slice none 0 0)) ab (InB.zero bs) rfl;have aa:=ad.kp bs (rd0 ⟨f,.slice none 0 0,.slice none 0 0⟩ (.slice none 0 0)) ab (InB.zero bs);rw[ae]at h ⊢;simp only[e]at ac aa;generalize al:rdM bs (rd0 ⟨f,.slice none 0 0,.slice none 0 0⟩ (.slice none 0 0))=r at *;cases z:r.1==0 with
 | false=>
  rw[z]at h;have h:r.1=0:=h;rw[h]at z;cases z
 | true=>
  rw[z]at h;have h:(QoT bs r.2).e=0:=h;have ag:=QNG ab aa.2.2 h;have ah:=ac (eq_of_beq z);have ai:r.2.x.f=f:=by rw[aa.1];rfl
  rw[ai]at ag;have aj:(rd0 ⟨f,.slice none 0 0,.slice none 0 0⟩ (.slice none 0 0)).p=0:=rfl;have ak:(rd0 ⟨f,.slice none 0 0,.slice none 0 0⟩ (.slice none 0 0)).x.f=f:=rfl;rw[aj,ak]at ah;show 0<(QoT bs r.2).n∧(QoT bs r.2).n<=_;unfold QOf;omega
def QOx (f:Fm):Bool:=decide (0<=f.code)&&decide (f.code<=255)&&(f.vex||(QN0.contains (QbQ f)&&QN0.all λl=>!QM4 f l))
def okM (w:List Int)(f:Fm):Bool:=(Vz w f).e==0
def QNg:∀ (b:List Int) (aa:Bool) (d:Nat) (L:List Fm),∃q,Qbe b aa d L=L.filter q
 | [],_,_,L=>⟨λ_=>true,(List.filter_eq_self.2 λ_ _=>rfl).symm⟩
 | c::cs,aa,d,L=>by
  show ∃q,(bif QyM d L then(bif aa&&QyN c then Qbe cs false d L else Qbe cs (aa&&((c==102)||(c==242)||(c==243))) (d+1) (L.filter λf=>Jz f d c)) else L)=_;cases QyM d L with
  | false=>exact⟨λ_=>true,(List.filter_eq_self.2 λ_ _=>rfl).symm⟩
  | true=>
   cases aa&&QyN c with
   | true=>exact QNg cs false d L
   | false=>
    obtain⟨q,e⟩:=QNg cs (aa&&((c==102)||(c==242)||(c==243))) (d+1) (L.filter λf=>Jz f d c);exact⟨_,e.trans (List.filter_filter ..)⟩
def QNR {p q:Fm->Bool}:∀L:List Fm,(∀f∈L,p f=true->q f=true)->(L.filter q).find? p=L.find? p
 | [],_=>rfl
 | f::L,h=>by
  have ae:=QNR L λg aa=>h g (NA _ aa);have ab:=h f (Ny ..);cases ac:p f<;>cases ad:q f<;>simp_all
def QNx {p q:Fm->Bool}{f:Fm}:∀L:List Fm,L.find? p=some f->(∀g∈L,q g=true->p g=true)->q f=true->L.find? q=some f
 | [],h,_,_=>by cases h
 | g::L,h,h1,h2=>by
  have ae:=λh=>QNx L h (λg aa=>h1 g (NA _ aa)) h2;have ab:=h1 g (Ny ..);cases ac:p g<;>cases ad:q g<;>simp_all
def QNy {w:List Int}{f:Fm}:∀ (l:List Fm) (err:Int),l.find? (okM w)=some f->QsP w l err=Vz w f
 | [],err,h=>by cases h
 | g::l,err,h=>by
  rw[QNu];rw[List.find?_cons]at h
  by_cases z:((Vz w g).e==0)=true;·rw[Lc z];rw[show okM w g=true from z]at h;cases h;rw[<- eq_of_beq z]
  rw[Le z];rw[show okM w g=false from Bool.eq_false_iff.2 z]at h;exact QNy l _ h
def QN6 {w:List Int}:∀ (l:List Fm) (err:Int),err≠0->(QsP w l err).e=0->∃f∈l,okM w f=true
 | [],err,h0,h=>absurd h h0
 | f::l,err,h0,h=>by
  rw[QNu]at h
  by_cases z:((Vz w f).e==0)=true;·exact⟨f,Ny ..,z⟩
  rw[Le z]at h;obtain⟨g,ab,aa⟩:=QN6 l _ (by split;decide;exact h0) h;exact⟨g,NA _ ab,aa⟩
section
variable {L:List Fm} (hfit:∀f∈L,QOx f=true) (hK:∀f∈L,QOf f<=15)
def QNW {w:List Int}(h:(QnJ L w).e=0):∃f∈L,okM w f=true:=by
 obtain⟨f,ab,aa⟩:=QN6 _ 4 (by decide) h;exact⟨f,QNe f w true 0 L ab,aa⟩
include hfit
def QOy {w:List Int}(ae:QsU w)(ag:w.length<=1000000){f:Fm}(h:L.find? (okM w)=some f):QnJ L w=Vz w f:=by
 obtain⟨q,e⟩:=QNg w true 0 L;have k:∀f∈L,0<=f.code∧f.code<=255∧(f.vex=false->QbQ f∈QN0∧∀l∈QN0,QM4 f l=false):=λf ab=>by
  have:=hfit f ab;unfold QOx at this;simp only[Lm,Lv,Nw,Li,Lr,List.contains_iff_mem]at this;refine⟨this.1.1,this.1.2,λaa=>?_⟩;rcases this.2 with h | h;·rw[aa]at h;cases h
  exact h
 refine QNy (Qbe w true 0 L) 4 ?_;rw[e,QNR L λg ac h=>?_,h];have ad:=QOp ag ae (by have:=k g ac;unfold I64;omega) ac (λf ab aa=>((k f ab).2.2 aa).1) (λaa=>((k g ac).2.2 aa).2) (eq_of_beq h);rw[e]at ad;exact(Bo.1 ad).2
def QNX {w:List Int}(ad:QsU w)(ae:w.length<=1000000)(h:∃f∈L,okM w f=true):∃f∈L,(Vz w f).e=0∧L.find? (okM w)=some f∧QnJ L w=Vz w f:=by
 cases aa:L.find? (okM w) with
 | none=>
  obtain⟨f,ab,ac⟩:=h;exact absurd ac (List.find?_eq_none.1 aa f ab)
 | some f=>
  have ag:okM w f=true:=List.find?_some aa;exact⟨f,List.mem_of_find?_eq_some aa,eq_of_beq ag,rfl,QOy hfit ad ae aa⟩
omit hfit in
def QOz {w more:List Int}(ab:(w++more).length<=1000000){f:Fm}(h:okM w f=true):okM (w++more) f=true:=by
 rcases QNw (bs:=w) (more:=more) f ab with⟨aa,_⟩ | aa;·rw[show(Vz w f).e=0 from eq_of_beq h]at aa;cases aa
 unfold okM;rw[aa];exact h
def QNt {w more:List Int}(ad:QsU (w++more))(ab:(w++more).length<=1000000)(h:(QnJ L (w++more)).e=0)(ah:(QnJ L (w++more)).n<=w.length):QnJ L w=QnJ L (w++more):=by
 have ag:QsU w:=λx hx=>ad x (List.mem_append_left _ hx);obtain⟨f,ai,ac,ae,e⟩:=QNX hfit ad ab (QNW h);rw[e]at ah ⊢;rcases QNw (bs:=w) (more:=more) f ab with⟨_,aa⟩ | aa;·have:=aa ac;omega
 rw[aa];refine QOy hfit ag (QM5 ab) (QNx L ae (λg _=>QOz ab) ?_);unfold okM;rw[<- aa,ac];rfl
def QOA {w more:List Int}(ad:QsU (w++more))(aa:(w++more).length<=1000000)(h:(QnJ L w).e=0):(QnJ L (w++more)).e=0:=by
 obtain⟨f,ae,ab⟩:=QNW h;obtain⟨g,_,ac,_,e⟩:=QNX hfit ad aa ⟨f,ae,QOz aa ab⟩;rw[e,ac]
include hK in
def QN7 {w:List Int}(ac:QsU w)(aa:w.length<=1000000)(h:(QnJ L w).e=0):0<(QnJ L w).n∧(QnJ L w).n<=15∧(QnJ L w).n<=w.length:=by
 obtain⟨f,ad,ab,_,e⟩:=QNX hfit ac aa (QNW h);rw[e];have ae:=QNV aa ab;have ag:=(QIk aa f ab).n.2;have ah:=hK f ad;omega
include hK in
def QOg {w:List Int}(ae:QsU w)(ah:w.length<=1000000):
  (isP (QnJ L (w.take 15))=true->QnJ L w=QnJ L (w.take 15)∧QnJ L (w.take (QnJ L (w.take 15)).n.toNat)=QnJ L (w.take 15))∧(isP (QnJ L (w.take 15))=false->(QnJ L w).e≠0):=by
 have aa:w=w.take 15++w.drop 15:=(NW 15 w).symm;have ag:QsU (w.take 15++w.drop 15):=by rw[<- aa];exact ae
 have ad:(w.take 15++w.drop 15).length<=1000000:=by rw[<- aa];exact ah
 have aj:QsU (w.take 15):=λx hx=>ae x (List.mem_of_mem_take hx);refine⟨λh=>?_,λh ab=>?_⟩
 ·unfold isP at h;rw[Lm]at h;have ab:(QnJ L (w.take 15)).e=0:=eq_of_beq h.1;have aq:=Lg h.2;have e:=QOA hfit ag ad ab;rw[<- aa]at e;have e0:=QN7 hfit hK ae ah e;have e:=QNt hfit ag ad (by rw[<- aa];exact e) (by rw[<- aa,Sb];omega);rw[<- aa]at e;refine⟨e.symm,?_⟩;have al:=(QN7 hfit hK aj (QM5 ad) ab).2.2;generalize ap:(QnJ L (w.take 15)).n.toNat=n;rw[Sb]at al;have ao:n<=15∧n<=w.length:=by omega
  have e2:w.take 15=w.take n++(w.take 15).drop n:=by
   have ai:=NW n (w.take 15);rw[DE,BC ao.1]at ai;exact ai.symm
  have am:QsU (w.take n++(w.take 15).drop n):=by rw[<- e2];exact aj
  have an:(w.take n++(w.take 15).drop n).length<=1000000:=by rw[<- e2];exact QM5 ad
  have ac:=QNt hfit am an (by rw[<- e2];exact ab) (by rw[<- e2,Sb];omega);rw[<- e2]at ac;exact ac
 have ak:=QN7 hfit hK ae ah ab;have e:QnJ L (w.take 15)=QnJ L w:=by
  have ac:=QNt hfit ag ad (by rw[<- aa];exact ab) (by rw[<- aa,Sb];omega);rw[<- aa]at ac;exact ac
 rw[e]at h;unfold isP at h;rw[ab,Lp ak.1]at h;cases h
end
def QNS (l:List Int)(k:Nat):l.take (l.take k).length=l.take k:=by
 rw[Sb];rcases Nat.le_total k l.length with h | h;·rw[BC h]
 rw[Nat.min_eq_right h,Nr,LF h]
def QOB (L:List Fm)(b:List Int)(a:Nat):(b.drop a).take (Y2 L b a).bs.length=(Y2 L b a).bs:=by
 unfold Y2;split;·exact QNS _ _
 exact QNS _ _
def QOZ (H:Qa)(b b':Blk):Ext H ((H.push b).set H.y b'):=((Ext.refl H).push b).set (Lb _) b'
def Gx.bsAt {H0 H:Qa}{v:Value}{l:List Int}(h:Gx 1 5 H0 H v l.length (bys l)):Qwq H v l:=by
 rcases h with⟨rfl,h,_⟩ | ⟨b,c,rfl,_,ab,_⟩;·exact⟨none,0,by rw[h],λaa=>by omega⟩
 refine⟨_,_,rfl,λaa=>⟨b,0,_,_,_,rfl,ab,λi hi=>?_⟩⟩;unfold bys;rw[LP,LD,La hi,LX,La hi];rfl
def QNk {H:Qa}{r:Dr}{u:Value}{H':Qa}(h:Qk9 H r u H'):Ext H H'∧∃a c,u=.tuple #[.agg #[.Z r.op,.slice a r.l.length c],.Z r.n,.Z r.e]:=by
 obtain⟨hx,v,rfl,aa,_⟩:=h;obtain⟨a,c,rfl,_⟩:=aa;exact⟨hx,_,_,rfl⟩
section
variable {L:List Fm} (hfit:∀f∈L,QOx f=true) (hK:∀f∈L,QOf f<=15)
include hfit hK
def QOC {b:List Int}{a:Nat}(al:a<b.length)(aj:QsU b)(am:b.length<=40):
  ((Y2 L b a).is=true->(QnJ L (b.drop a)).e=0∧(QnJ L (b.drop a)).n=((Y2 L b a).bs.length:Nat)∧(QnJ L (Y2 L b a).bs).n=(QnJ L (b.drop a)).n∧(QnJ L (Y2 L b a).bs).e=0)∧
  ((Y2 L b a).is=false->((QnJ L (b.drop a)).e==0)=false∧(Y2 L b a).bs.length=1):=by
 have ad:QsU (b.drop a):=λx hx=>aj x (List.mem_of_mem_drop hx);have ae:(b.drop a).length<=1000000:=by rw[NT];omega
 obtain⟨ag,ah⟩:=QOg hfit hK ad ae;unfold Y2
 by_cases z:isP (QnJ L ((b.drop a).take 15))=true;·rw[Lc z];obtain⟨ab,ai⟩:=ag z;have ac:=z;unfold isP at ac;rw[Lm]at ac;have aa:(QnJ L ((b.drop a).take 15)).e=0:=eq_of_beq ac.1;have ak:=QN7 hfit hK ad ae (by rw[ab];exact aa);refine⟨λ_=>?_,λh=>(by cases h)⟩;simp only;rw[ai,ab];rw[ab]at ak;refine⟨aa,?_,rfl,aa⟩;rw[Sb];omega
 rw[Le z];refine⟨λh=>(by cases h),λ_=>⟨?_,?_⟩⟩;·have:=ah (by simpa using z);simpa using this
 simp only;rw[Sb,NT];omega
end
section
variable {T:Qa->Prop} {L:List Fm} {lof:Int->List Fm} (hP:QrH T) (hT:∀H H',H.Wf->T H->Ext H H'->T H') (hO:∀op H,T H->Qe Pg 36 [.Z op] H λu H'=>QaY H H' u (lof op)) (hR0:∀H,T H->Qe Pg 48 [] H λu H'=>QaY H H' u L) (hty:QhN 64) (hsl:∀f∈L,f.shapes.length=f.slots.length) (hA:QOQ L lof)
 (hfit:∀f∈L,QOx f=true) (hK:∀f∈L,QOf f<=15)
include hP hT hO hR0 hty hsl hA hfit hK
def QNH {bv:Value}{b:List Int}{o:Int}(H:Qa)(aC:T H)(an:ZJ H bv b)(bh:QsU b)(cd:I64 o):
  Qe Pg 3 [bv,.Z o] H λu H'=>u=.bool true∧Ext H H':=by
 refine QM2 λaj=>?_;have bw:=an;obtain⟨av,ax,rfl,_⟩:=bw;simp only[QMX,Qb,simprocAttr];refine(QNA hP hT hO hR0 hty hsl hA H aC).w ?_;rintro _ H1 bZ b9 ⟨rfl,aa⟩;simp only[Qb,simprocAttr]
 by_cases aV:(b.length:Int)>40;·have z:decide ((b.length:Int)>40)=true:=Lp aV;simp only[Qb,simprocAttr,z,QMO];exact .mk aa.y ⟨rfl,aa⟩
 have z:decide ((b.length:Int)>40)=false:=Lj aV;have bU:((0:Int)==0)=true:=rfl;simp only[Qb,simprocAttr,z,QMV];cases ac:Qsk b.length o==0 with
 | false=>
  refine(QNa H1 (an.ext aj aa) ac).w ?_;rintro _ H1 _ b9 ⟨rfl,rfl⟩;have bn:Qsk b.length o=5∧(o<0∨140737488355328<o):=by
   unfold Qsk at ac ⊢;rw[Le (by omega)]at ac ⊢;split;·rename_i h;exact⟨rfl,h⟩
   rename_i h;rw[Le h]at ac;cases ac
  rw[bn.1];have bV:((5:Int)==5)=true:=rfl;have bW:((5:Int)==0)=false:=rfl;simp only[Qb,simprocAttr,bW,QMU,bV]
  by_cases aX:o<0;·have y:decide (o<0)=true:=Lp aX;simp only[Qb,simprocAttr,y,QMO];exact .mk aa.y ⟨rfl,aa⟩
  have y:decide (o<0)=false:=Lj aX;have aM:decide (o>140737488355328)=true:=Lp (by omega);simp only[Qb,simprocAttr,y,aM,QMO];exact .mk aa.y ⟨rfl,aa⟩
 | true=>
  have ac:=eq_of_beq ac;refine(QeU hP hT hO hR0 hty hsl H1 (hT _ _ aj aC aa) (an.ext aj aa) (by omega) (λz bI=>?_) ac).w ?_;·have:=bh z bI;omega
  rintro _ H2 ca ba ⟨v,rfl,ap,bE⟩;have ar:=aa.trans bE;have br:=QnK L b b.length 0 (L7 _);obtain⟨Q,aR⟩:∃Q,Q=XA L b b.length 0:=⟨_,rfl⟩;rw[<- aR]at ap br;have aW:(Q.map (svP lof o)).length=Q.length:=Nn _;obtain⟨bm,az,rfl⟩:=ap.slc;rw[aW]at ap;simp only[Qb,simprocAttr,bU,QMT,aW];refine Qp (λm A' H'=>∃i a:Nat,i<=Q.length∧a<=b.length∧m=Q.length - i∧Q.drop i=XA L b b.length a∧H'.Wf∧Ext H2 H'∧A' 0=.slice av b.length ax∧A' 1=.Z o∧A' 5=.bool true∧A' 6=.slice bm Q.length az∧A' 8=.Z a∧A' 9=.Z i) Q.length ?_ ?_
  ·refine⟨0,0,L7 _,L7 _,by omega,aR,ba,.refl _,?_,?_,?_,?_,?_,?_⟩
   all_goals simp only[Qf,simprocAttr]
   all_goals rfl
  rintro m A' H' ⟨i,a,hi,aT,rfl,ab,aq,ah,r0,r1,aJ,ae,r8,al⟩;simp only[QMS,Qb,simprocAttr,ae,al];refine Qg (λag=>?_) (λag=>?_)
  ·have ag:i<Q.length:=by have:=Lg ag;omega
   have aD:a<b.length:=by
    rcases Nq a b.length with h | h;·exact h
    exfalso;have e:XA L b b.length a=[]:=by
     cases bY:b.length with
     | zero=>rfl
     | succ n=>
      show(if a<b.length then _ else _)=_;rw[Le (by omega)]
    rw[e]at ab;have:=List.drop_eq_nil_iff.1 ab;omega
   obtain⟨n,aF⟩:∃n,b.length=n+1:=⟨b.length - 1,by omega⟩;have bz:XA L b b.length a=Y2 L b a::XA L b n (a+(Y2 L b a).bs.length):=by
    rw[aF];show(if a<b.length then _ else _)=_;rw[Lc aD]
   obtain⟨ce,aY⟩:=@Qga L b a aD;have bu:=QFZ L b a;have bx:=QOB L b a;obtain⟨bi,bj⟩:=QOC hfit hK aD bh (by omega);rw[bz]at ab;generalize Y2 L b a=p at *;have b5:Q[i]? = some p:=by
    have:=congrArg (λl=>l[0]?) ab;simpa[Nk] using this
   have b4:Q.drop (i+1)=XA L b b.length (a+p.bs.length):=by
    have:=congrArg (λl=>l.drop 1) ab;rw[QsV L b b.length n (a+p.bs.length) (by omega) (by omega)];simpa[Rc] using this
   have bq:(Q.map (svP lof o))[i]? = some (svP lof o p):=by rw[LD,b5];rfl
   obtain⟨au,rfl,D,cg,ai,am⟩:=(ap.go ba ah).at bq;have aH:D[i * 4]? = some (.Z (IntKind.i64.wrap (o+(a:Int)))):=by rw[<- bu];exact am.c0
   have aI:=am.c1;have ak:D[i * 4+3]? = some (.bool p.is):=am.c3;have ao:=am.bs;rw[show(svP lof o p).bs=p.bs from rfl]at ao;obtain⟨bN,sc,rfl⟩:=ao.slc;have d1:(0:Int)<=i∧(i:Int)<Q.length:=by omega
   have d3:(i:Int).toNat=i:=by omega
   have aN:IntKind.i64.wrap ((i:Int)+1)=((i+1:Nat):Int):=by rw[w64 (by unfold I64;omega)];omega
   have aA:IntKind.i64.wrap ((a:Int)+(p.bs.length:Int))=((a+p.bs.length:Nat):Int):=by rw[w64 (by unfold I64;omega)];omega
   have bS:decide ((p.bs.length:Int)<1)=false:=Lj (by omega);have aM:decide (((a+p.bs.length:Nat):Int)>b.length)=false:=Lj (by omega);have bT:(IntKind.i64.wrap (o+(a:Int))==IntKind.i64.wrap (o+(a:Int)))=true:=LO _;have aU:=an.ext aj (ar.trans ah);obtain⟨bO,bo,aZ⟩:=aU.sub (p:=a) (n:=p.bs.length) aY;rw[bx]at aZ;obtain⟨aK,bp,bA⟩:=aU.from (p:=a) (by omega);simp only[QMR,Qb,simprocAttr,r0,r1,ae,r8,al,d1,d3,ai,aH,aI,aA,bS,aM,bT];refine⟨bO,bo,?_⟩;refine(QIt _ _ p.bs p.bs H' ao.cellsB aZ.cells).w ?_;rintro _ H' _ aq ⟨rfl,rfl⟩;rw[QyU];simp only[Qb,simprocAttr,QMQ,r0,r8];refine⟨aK,bp,?_⟩;have aS:∀G,Ext H' G->T G:=λG hx=>hT _ _ aj aC ((ar.trans ah).trans hx);have b2:Qe Pg 8 [aK] H' (Qk9 H' (QnJ L (b.drop a))):=Qqw hR0 hty (λf aE=>hsl f (QoV f _ _ _ _ aE)) aK hT H' (aS _ (.refl _)) bA.bsAt (by rw[NT];omega);refine b2.w ?_;intro ch H3 cb bC b7;obtain⟨bF,a3,c3,rfl⟩:=QNk b7;simp only[Qb,simprocAttr];obtain⟨H4,aB⟩:∃h,h=(H3.push (.C [.Z 0,.slice none 0 0] 33)).set H3.y (.C [.Z (QnJ L (b.drop a)).op,.slice a3 (QnJ L (b.drop a)).l.length c3] 33):=⟨_,rfl⟩;have bG:Ext H3 H4:=by rw[aB];exact QOZ _ _ _
   have cf:H4.Wf:=by rw[aB];exact(bC.push _).set (by rw[Qc,Lc rfl]) _
   simp only[<- aB];have aG:=bF.trans bG;have b3:Qe Pg 8 [.slice bN p.bs.length sc] H4 (Qk9 H4 (QnJ L p.bs)):=Qqw hR0 hty (λf aE=>hsl f (QoV f _ _ _ _ aE)) _ hT H4 (aS _ aG) (ao.go aq aG).bsAt (by omega);refine b3.w ?_;intro ci H5 cc bc b8;obtain⟨bH,a5,ay,rfl⟩:=QNk b8;have bd:=aG.trans bH;have aP:=(bd.get _ (aq.lt ai)).trans ai;generalize QnJ L (b.drop a)=dA at *;generalize QnJ L p.bs=dB at *;have b6:¬au=H5.y:=by have:=bc.lt aP;omega
   simp only[Qb,simprocAttr,ae,al,d1,d3,aP,ak,b6];have bg:=bd.trans (QOZ H5 (.C [.Z 0,.slice none 0 0] 33) (.C [.Z dB.op,.slice a5 dB.l.length ay] 33));have bD:=(bc.push (.C [.Z 0,.slice none 0 0] 33)).set (i:=H5.y) (by rw[Qc,Lc rfl]) (.C [.Z dB.op,.slice a5 dB.l.length ay] 33);have bP:(p.is==(dA.e==0))=true:=by
    cases ad:p.is with
    | true=>rw[(bi ad).1];rfl
    | false=>rw[(bj ad).1];rfl
   rw[bP];generalize (H5.push (.C [.Z 0,.slice none 0 0] 33)).set H5.y (.C [.Z dB.op,.slice a5 dB.l.length ay] 33)=H6 at *;have aQ:=(bg.get _ (aq.lt ai)).trans ai;have aO:∀A6:Env,A6 0=.slice av b.length ax->A6 1=.Z o->A6 5=.bool true->A6 6=.S au Q.length az->A6 8=.Z ((a+p.bs.length:Nat):Int)->A6 9=.Z ((i+1:Nat):Int)->Quj (λm A' H'=>∃i a:Nat,i<=Q.length∧a<=b.length∧m=Q.length - i∧Q.drop i=XA L b b.length a∧H'.Wf∧Ext H2 H'∧A' 0=.slice av b.length ax∧A' 1=.Z o∧A' 5=.bool true∧A' 6=.S au Q.length az∧A' 8=.Z a∧A' 9=.Z i) (Q.length - i) A6 H6:=λA6 aH aI bJ bK bL bM=>
    ⟨Q.length - (i+1),by omega,i+1,a+p.bs.length,by omega,aY,rfl,b4,bD,ah.trans bg,aH,aI,bJ,bK,bL,bM⟩
   cases ad:p.is with
   | true=>
    obtain⟨k1,k2,k3,k4⟩:=bi ad;rw[ad]at ak;have aL:(dA.n==(p.bs.length:Int))=true:=by rw[k2];exact LO _
    have bQ:(dB.n==dA.n)=true:=by rw[k3];exact LO _
    have bR:(dB.e==0)=true:=by rw[k4];rfl
    simp only[Qb,simprocAttr,ae,r8,al,d1,d3,aQ,ak,aL,bQ,bR,aA,aN];refine aO _ ?_ ?_ ?_ ?_ ?_ ?_
    all_goals simp only[Qf,simprocAttr,r0,r1,aJ,ae]
   | false=>
    obtain⟨k1,k2⟩:=bj ad;rw[ad]at ak;have aL:((p.bs.length:Int)==1)=true:=by rw[k2];rfl
    simp only[Qb,simprocAttr,ae,r8,al,d1,d3,aQ,ak,aL,aA,aN];refine aO _ ?_ ?_ ?_ ?_ ?_ ?_
    all_goals simp only[Qf,simprocAttr,r0,r1,aJ,ae]
  have ag:i=Q.length:=by have:=Ll ag;omega
  subst ag;rw[BU]at ab;have aT:a=b.length:=by
   rcases Nq a b.length with h | h
   ·exfalso;obtain⟨n,aF⟩:∃n,b.length=n+1:=⟨b.length - 1,by omega⟩;rw[aF]at ab;have e:XA L b (n+1) a=Y2 L b a::XA L b n (a+(Y2 L b a).bs.length):=by
     show(if a<b.length then _ else _)=_;rw[Lc h]
    rw[e]at ab;cases ab
   omega
  subst aT;have bX:((b.length:Int)==b.length)=true:=LO _;simp only[Qb,simprocAttr,r0,aJ,r8,bX,QMO];exact .mk (ar.trans ah).y ⟨rfl,ar.trans ah⟩
end
def kn1:(((XA QiJ [144,6,131,192,5] 5 0).map (svP QDA 256)).map (λw=>(w.at_,w.is))==[(256,true),(257,false),(258,true)])=true:=by kernel_rfl
def kn2:(XA QiJ [64,144] 2 0).all (okP QDA)=false:=by kernel_rfl
def kn3:(XA QiJ [129,192,5,0,0,0] 6 0).all (okP QDA)=false:=by kernel_rfl
def QO0:QOQ QiJ QDA:=⟨QMM,eq_of_beq kn1,kn2,kn3⟩
def QOM:(QiJ.all QOx)=true:=by kernel_rfl
def QON:(QiJ.all λf=>decide (QOf f<=15))=true:=by kernel_rfl
def QNY (va:Value)(bs:List Int)(ae:QsU bs)(a:Int)(ac:I64 a)(H:Qa)(ab:QgB tab.tabs H)(ad:ByC H va bs):Qe Pg 3 [va,.Z a] H λu H'=>u=.bool true∧Ext H H':=
 QNH (T:=QgB tab.tabs) (lof:=QDA) QJQ QiH (λop H h=>QMi op H h) QJO QKI QLZ QO0 (λf aa=>Li.1 QOM f aa) (λf aa=>Lg (Li.1 QON f aa)) H ab ad.c ae ac
