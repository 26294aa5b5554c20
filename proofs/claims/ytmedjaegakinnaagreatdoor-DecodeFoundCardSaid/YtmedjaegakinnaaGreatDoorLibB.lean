/- Rows in memory of their own, full or grown. -/
import Derived.Test.YtmedjaegakinnaaGreatDoorLibA
import Derived.Test.YtmedjaegakinnaaGreatDoorAbD
import Derived.Test.YtmedjaegakinnaaGreatDoorLibR
import Derived.Test.YtmedjaegakinnaaGreatDoorLibI
set_option linter.defProp false
set_option linter.unusedVariables false
set_option linter.unusedSimpArgs false
set_option maxRecDepth 100000
set_option maxHeartbeats 4000000
noncomputable section
namespace Go.Proofs.YtmedjaegakinnaaGreatDoor.code
open Go.Ab
def bys (l:List Int):List Value:=l.map (Value.int .u8)
def Yn (l:List Int):(bys l).length=l.length:=Nn ..
def QaJ (l m:List Int):bys (l++m)=bys l++bys m:=N6 ..
def Vu (l:List Int):(bys l).all (·.oneCell')=true:=by
 rw[Li];intro v q;obtain⟨z,_,rfl⟩:=N4.1 q;rfl
def inB (v:Value)(id:Nat):Prop:=∃o n c,v=.slice (some ⟨id,o,none⟩) n c
def Gx (size:Nat)(e:TypeId)(H0 H:Qa)(v:Value)(n:Nat)(cs:List Value):Prop:=(v=.slice none 0 0∧n=0∧cs=[])∨∃b cap,v=.S b n cap∧H0.y<=b∧H.get b=some (.C cs e)∧cs.length=n * size∧(cap=n∨cap=UNK+size∧0<n)
def Gx.ext {size:Nat}{e:TypeId}{H0 H H':Qa}{v:Value}{n:Nat}{cs:List Value}(h:Gx size e H0 H v n cs)(ac:∀id,inB v id->H'.get id=H.get id):Gx size e H0 H' v n cs:=by
 rcases h with h | ⟨b,c,rfl,q,aa,ab⟩;·exact .inl h
 exact .inr ⟨b,c,rfl,q,by rw[ac b ⟨_,_,_,rfl⟩];exact aa,ab⟩
def Gx.go {size:Nat}{e:TypeId}{H0 H H':Qa}{v:Value}{n:Nat}{cs:List Value}(h:Gx size e H0 H v n cs)(ac:H.Wf)(hx:Ext H H'):Gx size e H0 H' v n cs:=by
 rcases h with h | ⟨b,c,rfl,aa,q,ab⟩;·exact .inl h
 exact .inr ⟨b,c,rfl,aa,by rw[hx.get b (ac.lt q)];exact q,ab⟩
def Gx.low {size:Nat}{e:TypeId}{H0 H:Qa}{v:Value}{n:Nat}{cs:List Value}(h:Gx size e H0 H v n cs)(ab:H.Wf){id:Nat}(hi:inB v id):H0.y<=id∧id<H.y:=by
 obtain⟨o,ad,c,rfl⟩:=hi;rcases h with⟨h,_,_⟩ | ⟨b,c,h,q,aa,ac⟩;·cases h
 cases h;exact⟨q,ab.lt aa⟩
def Gx.sl {size:Nat}{e:TypeId}{H0 H:Qa}{v:Value}{n:Nat}{cs:List Value}(h:Gx size e H0 H v n cs):VM H v n cs:=by
 rcases h with⟨rfl,rfl,rfl⟩ | ⟨b,c,rfl,aa,q,ab⟩;·exact⟨none,0,rfl,λh=>absurd h (NX 0)⟩
 exact⟨_,_,rfl,λ_=>⟨b,e,false,rfl,q⟩⟩
def Gx.slc {size:Nat}{e:TypeId}{H0 H:Qa}{v:Value}{n:Nat}{cs:List Value}(h:Gx size e H0 H v n cs):∃a c,v=.slice a n c:=by
 rcases h with⟨rfl,rfl,rfl⟩ | ⟨b,c,rfl,_⟩;·exact⟨_,_,rfl⟩
 exact⟨_,_,rfl⟩
def Gx.down {size:Nat}{e:TypeId}{H0 H1 H:Qa}{v:Value}{n:Nat}{cs:List Value}(h:Gx size e H1 H v n cs)(hx:H0.y<=H1.y):Gx size e H0 H v n cs:=by
 rcases h with h | ⟨b,c,rfl,ab,q,aa⟩;·exact .inl h
 exact .inr ⟨b,c,rfl,by omega,q,aa⟩
def Gx.src {size:Nat}{e:TypeId}{H0 H:Qa}{v:Value}{n:Nat}{cs:List Value}(h:Gx size e H0 H v n cs):Zx size v H=some (n,cs):=by
 rcases h with⟨rfl,rfl,rfl⟩ | ⟨b,c,rfl,ab,aa,ac,_⟩;·simp[Zx]
 by_cases q:n=0;·subst q;have:cs=[]:=N2.1 (by omega);subst this;simp[Zx]
 rw[Gg aa q (by omega),Lw,LF (by omega)]
structure GK (v v':Value) (H0 H H':Qa):Prop where
 x:Ext H0 H'
 w:H'.Wf
 keep:∀id,id<H.y->¬inB v id->H'.get id=H.get id
 y:H.y<=H'.y
 new:∀id,inB v' id->inB v id∨H.y<=id
def V6 {size:Nat}{e bytes:Nat}{H0 H:Qa}{v x:Value}{n m:Nat}{cs ms:List Value}{k:Value->Qa->Prop}(ao:Gx size e H0 H v n cs)(hx:Ext H0 H)(aa:H.Wf)(ag:Zx size x H=some (m,ms))(an:ms.all (·.oneCell')=true)(ak:ms.length=m * size)(ac:(n+m) * bytes<=140737488355328)(aq:n+m<=9223372036854775807)
  (h:∀ap H',Gx size e H0 H' ap (n+m) (cs++ms)->GK v ap H0 H H'->k ap H'):QfY e size bytes v x H k:=by
 have am:=hx.y
 by_cases ae:m=0
 ·subst ae;have aw:ms=[]:=N2.1 (by omega);subst aw;have az:Jr e size bytes v x H=some (v,H):=by
   unfold Jr;rw[ag];rcases ao with⟨rfl,rfl,rfl⟩ | ⟨b,c,rfl,au,ab,ah,ai⟩;·rfl
   simp only[BI,N3];rw[Lc];rcases ai with rfl | ⟨rfl,_⟩;·first | exact .inl (Lb _) | exact .inl (by omega) | simp
   first | exact .inl (by omega) | simp
  unfold QfY;rw[az,Qs];rw[N9,Na]at h;exact h v H ao ⟨hx,aa,λ_ _ _=>rfl,Lb _,λid hi=>.inl hi⟩
 rcases ao with⟨rfl,rfl,rfl⟩ | ⟨b,c,rfl,au,ab,ah,ai⟩;·refine Qgq ag an ae (by rw[LP]at ac;exact ac) (by omega) (h _ _ (.inr ⟨H.y,_,by rw[LP],am,by rw[Qc,Lc rfl,LH],by rw[LH,LP];exact ak,.inr ⟨rfl,by omega⟩⟩) ⟨hx.push _,aa.push _,λid ad _=>by rw[Qc,Le (by omega)],by rw[Qf];omega,?_⟩);rintro id ⟨o,ar,c,q⟩;cases q;exact .inr (Lb _)
 have aA:=aa.lt ab;rcases Nq c UNK with aj | aj
 ·have av:c=n:=by rcases ai with h | h;exact h;omega
  subst av;have e1:(cs.drop 0).take (c * size)++ms=cs++ms:=by rw[Lw,LF (by omega)]
  refine Qmd ag an ae ab (by omega) ac aq aj (by omega) (h _ _ (.inr ⟨H.y,_,rfl,am,by rw[Qc,Lc rfl,e1],by rw[Lh,ah,ak,Ry],.inr ⟨rfl,by omega⟩⟩) ⟨hx.push _,aa.push _,λid ad _=>by rw[Qc,Le (by omega)],by rw[Qf];omega,?_⟩);rintro id ⟨o,ar,c,q⟩;cases q;exact .inr (Lb _)
 refine Qkl rfl ag an ae ab (by rw[LP];omega) ac aq aj (h _ _ (.inr ⟨H.y,_,rfl,am,?_,by rw[Lh,ah,ak,Ry],.inr ⟨rfl,by omega⟩⟩) ⟨?_,?_,?_,by rw[Qf,QiY];omega,?_⟩);·rw[Qc,QiY,Lc rfl,Lw]
 ·refine⟨by rw[Qf,QiY];omega,λid ad=>?_⟩;rw[Qc,QiY,Le (by omega),WE,Le (by omega)];exact hx.get id ad
 ·exact(aa.kill b).push _
 ·intro id ad ax;have ay:¬id=b:=λh=>ax ⟨_,_,_,by rw[h]⟩;rw[Qc,QiY,Le (by omega),WE,Le ay]
 rintro id ⟨o,ar,c,q⟩;cases q;exact .inr (Lb _)
def QCu {size:Nat}{e bytes:Nat}{H0 H:Qa}{v x:Value}{n m:Nat}{cs ms:List Value}{k:Value->Qa->Prop}(an:Gx size e H0 H v n cs)(ak:∃a,v=.slice a n n)(ag:H.Wf)(ae:Zx size x H=some (m,ms))(ad:ms.all (·.oneCell')=true)(ab:m≠0)(ac:ms.length=m * size)(q:(n+m) * bytes<=140737488355328)(am:n+m<=9223372036854775807)(ao:n<UNK)
  (h:∀aa H',Gx size e H H' aa (n+m) (cs++ms)->Ext H H'->H'.Wf->(∃b,aa=.S b (n+m) (UNK+size))->k aa H'):QfY e size bytes v x H k:=by
 rcases an with⟨rfl,rfl,rfl⟩ | ⟨b,c,rfl,ap,ah,ai,aq⟩;·refine Qgq ae ad ab (by rw[LP]at q;exact q) (by omega) (h _ _ (.inr ⟨H.y,_,by rw[LP],Lb _,by rw[Qc,Lc rfl,LH],by rw[LH,LP];exact ac,.inr ⟨rfl,by omega⟩⟩) ((Ext.refl H).push _) (ag.push _) ⟨_,by rw[LP]⟩)
 obtain⟨a,aj⟩:=ak;cases aj;have e1:(cs.drop 0).take (n * size)++ms=cs++ms:=by rw[Lw,LF (by omega)]
 exact Qmd ae ad ab ah (by omega) q am ao (by omega) (h _ _ (.inr ⟨H.y,_,rfl,Lb _,by rw[Qc,Lc rfl,e1],by rw[Lh,ai,ac,Ry],.inr ⟨rfl,by omega⟩⟩) ((Ext.refl H).push _) (ag.push _) ⟨_,rfl⟩)
def QFn {size:Nat}{e:TypeId}{H0 H:Qa}{v:Value}{n:Nat}{cs:List Value}(h:Gx size e H0 H v n cs)(ag:n<UNK):∃a,Yh size v none (some (n:Int)) (some (n:Int))=some (.slice a n n)∧Gx size e H0 H (.slice a n n) n cs:=by
 rcases h with⟨rfl,rfl,rfl⟩ | ⟨b,c,rfl,aa,ab,ac,ae⟩;·exact⟨none,rfl,.inl ⟨rfl,rfl,rfl⟩⟩
 refine⟨some ⟨b,0,none⟩,?_,.inr ⟨b,n,rfl,aa,ab,ac,.inl rfl⟩⟩;unfold Yh;simp only[Br,NB];rcases Nq c UNK with q | q
 ·rw[Le (by omega),Lc (by omega),show(n:Int).toNat - (0:Int).toNat=n by omega]
  by_cases ad:n=0;·subst ad;rfl
  rw[Le (by omega),show 0+(0:Int).toNat * size=0 by simp]
 rw[Lc q,Lc (by omega),show(n:Int).toNat - (0:Int).toNat=n by omega,show 0+(0:Int).toNat * size=0 by simp]
def QDs (n bits:Int):Int:=if WD bits=false then 0 else IntKind.i64.wrap ((IntKind.u64.wrap (IntKind.u64.wrap n * 2 ^ (min (64 - bits).toNat 64))).fdiv (2 ^ (min (64 - bits).toNat 64)))
def Qv9 (n bits:Int)(H:Qa):Qe Pg 251 [.Z n,.Z bits] H λu H'=>u=.Z (QDs n bits)∧H'=H:=by
 refine Qth λab=>?_;simp only[Qk2,Qb,simprocAttr];refine(Kz bits H).w ?_;rintro _ H _ ab ⟨rfl,rfl⟩;simp only[Qb,simprocAttr];cases q:WD bits with
 | false=>
  simp only[Qb,simprocAttr,QiC];exact .mk (Lb _) ⟨by rw[QDs,Lc q],rfl⟩
 | true=>
  have ac:1<=bits∧bits<=64:=by simpa[WD] using q
  have e:IntKind.i64.wrap (64 - bits)=64 - bits:=w64 (by unfold I64;omega);have aa:0<=64 - bits:=by omega
  have b1:IntKind.u64.bits=64:=rfl;have b2:IntKind.i64.bits=64:=rfl;simp only[Qb,simprocAttr,e,aa,b1,QiC];exact .mk (Lb _) ⟨by rw[QDs,Le (by simp[q])],rfl⟩
def QiR (n bits:Int):Bool:=WD bits&&(Qaz n bits==n||QDs n bits==n)
def QtR (n bits:Int)(H:Qa):Qe Pg 190 [.Z n,.Z bits] H λu H'=>u=.bool (QiR n bits)∧H'=H:=by
 refine Qri λq=>?_;have aa:=λH=>Kz bits H;have ab:=λH=>QeG n bits H;have ac:=λH=>Qv9 n bits H;unfold QiR;simp only[Qiz,Qb,simprocAttr];refine(aa H).w ?_;rintro _ H _ q ⟨rfl,rfl⟩;cases WD bits with
 | false=>
  simp only[Qb,simprocAttr,Qbt];exact .mk (Lb _) ⟨rfl,rfl⟩
 | true=>
  simp only[Qb,simprocAttr];refine(ab H).w ?_;rintro _ H _ q ⟨rfl,rfl⟩;simp only[Qb,simprocAttr];cases Qaz n bits==n with
  | true=>
   simp only[Qb,simprocAttr,Qbt];exact .mk (Lb _) ⟨rfl,rfl⟩
  | false=>
   simp only[Qb,simprocAttr];refine(ac H).w ?_;rintro _ H _ q ⟨rfl,rfl⟩;simp only[Qb,simprocAttr,Qbt];exact .mk (Lb _) ⟨rfl,rfl⟩
def Qqt (n bits:Int):Bool:=WD bits&&(Qaz n bits==n)
def QtS (n bits:Int)(H:Qa):Qe Pg 286 [.Z n,.Z bits] H λu H'=>u=.bool (Qqt n bits)∧H'=H:=by
 refine Qrp λq=>?_;have aa:=λH=>Kz bits H;have ab:=λH=>QeG n bits H;unfold Qqt;simp only[QiE,Qb,simprocAttr];refine(aa H).w ?_;rintro _ H _ q ⟨rfl,rfl⟩;cases WD bits with
 | false=>
  simp only[Qb,simprocAttr,Qg0];exact .mk (Lb _) ⟨rfl,rfl⟩
 | true=>
  simp only[Qb,simprocAttr];refine(ab H).w ?_;rintro _ H _ q ⟨rfl,rfl⟩;simp only[Qb,simprocAttr,Qg0];exact .mk (Lb _) ⟨rfl,rfl⟩
def Qqu (n:Int)(i:Nat):Int:=IntKind.u8.wrap ((IntKind.u64.wrap n).fdiv (2 ^ (min (8 * i) 64)))
def YY (n:Int)(sz:Nat):List Int:=(List.range sz).map (Qqu n)
def ZE (n sz:Int):List Int×Int:=if GA sz=false then([],2) else if QiR n (8 * sz)=false then([],5) else(YY n sz.toNat,0)
def QnM (n sz:Int)(ay:I64 n)(H:Qa):Qe Pg 140 [.Z n,.Z sz] H λu H'=>∃v,u=.tuple #[v,.Z (ZE n sz).2]∧Gx 1 5 H H' v (ZE n sz).1.length (bys (ZE n sz).1)∧Ext H H':=by
 refine Qtf λab=>?_;unfold ZE;simp only[QkX,Qb,simprocAttr];refine(QiF sz H).w ?_;rintro _ H _ ab ⟨rfl,rfl⟩;cases am:GA sz with
 | false=>
  simp only[Qb,simprocAttr,Qc3];exact .mk (Lb _) ⟨_,rfl,.inl ⟨rfl,rfl,rfl⟩,.refl _⟩
 | true=>
  obtain⟨s,ar,aA,az⟩:∃s:Nat,sz=s∧s<=8∧1<=s:=by
   have:sz=1∨sz=2∨sz=4∨sz=8:=by simpa[GA,or_assoc] using am
   exact⟨sz.toNat,by omega,by omega,by omega⟩
  subst ar;have aw:IntKind.i64.wrap (8 * (s:Int))=8 * (s:Int):=w64 (by unfold I64;omega);simp only[Qb,simprocAttr,aw];refine(QtR n (8 * (s:Int)) H).w ?_;rintro _ H _ ab ⟨rfl,rfl⟩;cases ax:QiR n (8 * (s:Int)) with
  | false=>
   simp only[Qb,simprocAttr,Qc3];exact .mk (Lb _) ⟨_,rfl,.inl ⟨rfl,rfl,rfl⟩,.refl _⟩
  | true=>
   simp only[Qb,simprocAttr,reduceCtorEq,LG];refine⟨⟨by omega,by omega,by omega,by omega⟩,?_⟩;refine Qu (λm A' H'=>∃i:Nat,i<=s∧m=s - i∧H'.Wf∧Ext H H'∧H'.get H.y=some (.C (bys (YY n i)++List.replicate (s - i) (.int .u8 0)) 5)∧A' 0=.Z n∧A' 1=.Z s∧A' 6=.S H.y s s∧A' 18=.Z s∧A' 19=.Z i) s ?_ ?_
   ·refine⟨0,L7 _,by omega,ab.push _,(Ext.refl H).push _,?_,?_,?_,?_,?_,?_⟩
    ·rw[Qc,Lc rfl];have ao:XV [Value.int .u8 0].toArray s=List.replicate s (.int .u8 0):=by
      unfold XV;rw[Fv];refine⟨by simp,λb ap=>?_⟩;obtain⟨i,_,rfl⟩:=N4.1 ap;show([Value.int .u8 0].toArray)[i % 1]! = _;rw[Nat.mod_one];rfl
     exact congrArg (λc=>some (Blk.cells c 5 false)) ao
    all_goals simp only[Qd,simprocAttr]
    all_goals rfl
   rintro m A' H' ⟨i,hi,rfl,av,hx,aa,ag,r1,ac,ah,ai⟩;simp only[Qb,simprocAttr,ah,ai];refine Qg (λq=>?_) (λq=>?_)
   ·have q:i<s:=by have:=Lg q;omega
    have d1:(0:Int)<=i∧(i:Int)<s:=by omega
    have d3:(i:Int).toNat=i:=by omega
    have ak:IntKind.i64.wrap ((i:Int)+1)=((i+1:Nat):Int):=by rw[w64 (by unfold I64;omega)];omega
    have aj:IntKind.i64.wrap (8 * (i:Int))=((8 * i:Nat):Int):=by rw[w64 (by unfold I64;omega)];omega
    simp only[Qb,simprocAttr,ag,ac,ai,d1,d3,ak,aj,aa];have ae:(bys (YY n i)).length=i:=by rw[Yn];simp[YY]
    have au:splice (bys (YY n i)++List.replicate (s - i) (.int .u8 0)) i [.int .u8 (Qqu n i)]=bys (YY n (i+1))++List.replicate (s - (i+1)) (.int .u8 0):=by
     have e1:YY n (i+1)=YY n i++[Qqu n i]:=by simp[YY,R0]
     have e2:s - i=(s - (i+1))+1:=by omega
     unfold splice;rw[e1,QaJ,e2,List.replicate_succ,NO (by omega),LF (by omega),B3,ae];have aq:(YY n i).length=i:=by simp[YY]
     simp[bys,aq]
    refine⟨by omega,by rw[Lh,ae,List.length_replicate];omega,s - (i+1),by omega,i+1,by omega,rfl,?_,?_,?_,?_,?_,?_,?_,?_⟩;·exact av.set aa _
    ·exact hx.set (Lb _) _
    ·have an:min (((8 * i:Nat):Int)).toNat IntKind.u64.bits=min (8 * i) 64:=rfl;rw[Qj,Lc rfl,<- au];unfold Qqu splice;rw[an];rfl
    all_goals simp only[Qd,simprocAttr,ag,r1,ac,ah]
   have q:i=s:=by have:=Ll q;omega
   subst q;simp only[Qb,simprocAttr,ac,Qc3];rw[BJ,List.replicate_zero,Na]at aa;have ad:(YY n i).length=i:=by simp[YY]
   exact .mk hx.y ⟨_,rfl,.inr ⟨H.y,i,by rw[ad],Lb _,aa,by rw[Yn,NH],.inl (by rw[ad])⟩,hx⟩
def WY (r:Rg):Int:=if Wv r=true then r.n % 8 else 0
def XS (r:Rg):Int:=if Wv r=true then r.n / 8 else 0
def QIG {r:Rg}(h:Wv r=true):0<=r.n∧r.n<16:=by
 unfold Wv Qf6 at h;have h:=Lg h;split at h;·simp at h;omega
 split at h;·simp at h;omega
 split at h<;>simp at h<;>omega
def Qdb (r:Rg):0<=WY r∧WY r<8:=by
 unfold WY;split<;>omega
def QlB (r:Rg):0<=XS r∧XS r<2:=by
 unfold XS;split;·rename_i h;have:=QIG h;omega
 omega
def Vn (r:Rg)(H:Qa):Qe Pg 141 [.agg r.cells.toArray] H λu H'=>u=.Z (WY r)∧∃k,H'=H.up k:=by
 refine QxL λac=>?_;have q:=K3 r;have ab:=@QIG r;unfold WY;obtain⟨v,ev⟩:∃v,Wv r=v:=⟨_,rfl⟩;rw[ev]at q ab ⊢;obtain⟨c,n⟩:=r;simp only[Rg.cells]at q;simp only[Rg.cells,QpF,Qb,simprocAttr];refine(q _).w ?_;rintro _ _ aa ae ⟨rfl,k,rfl⟩;simp only[Qf,Q8]at aa;cases v with
 | false=>
  simp only[Qb,simprocAttr,Qnx];exact .ext ac (((Ext.refl H).push _).up (by rw[Qf];exact aa)) ⟨by simp,_,rfl⟩
 | true=>
  have ad:=ab rfl;simp only[sxA,sxB,Nat.reduceBEq,Nat.reduceEqDiff,reduceCtorEq,mxA,mxB,Nat.reduceAdd,reduceIte,Nat.reduceLeDiff,splice,Qnx];have e:n.tmod 8=n % 8:=BM ad.1;exact⟨by decide,.ext ac (((Ext.refl H).push _).up (by rw[Qf];exact aa)) ⟨by rw[e],_,rfl⟩⟩
def QbR (r:Rg)(H:Qa):Qe Pg 192 [.agg r.cells.toArray] H λu H'=>u=.Z (XS r)∧∃k,H'=H.up k:=by
 refine Qvq λad=>?_;have q:=K3 r;have ac:=@QIG r;unfold XS;obtain⟨v,ev⟩:∃v,Wv r=v:=⟨_,rfl⟩;rw[ev]at q ac ⊢;obtain⟨c,n⟩:=r;simp only[Rg.cells]at q;simp only[Rg.cells,Qny,Qb,simprocAttr];refine(q _).w ?_;rintro _ _ aa ag ⟨rfl,k,rfl⟩;simp only[Qf,Q8]at aa;cases v with
 | false=>
  simp only[Qb,simprocAttr,QkZ];exact .ext ad (((Ext.refl H).push _).up (by rw[Qf];exact aa)) ⟨by simp,_,rfl⟩
 | true=>
  have ab:=ac rfl;simp only[sxA,sxB,Nat.reduceBEq,Nat.reduceEqDiff,reduceCtorEq,mxA,mxB,Nat.reduceAdd,reduceIte,Nat.reduceLeDiff,splice,QkZ];have e:IntKind.i64.wrap (n.tdiv 8)=n / 8:=by
   rw[Int.tdiv_eq_ediv_of_nonneg ab.1];have ae:0<=n∧n<16:=ab;exact w64 (show I64 (n / 8) by unfold I64;omega)
  exact⟨by decide,.ext ad (((Ext.refl H).push _).up (by rw[Qf];exact aa)) ⟨by rw[e],_,rfl⟩⟩
def Qhn (r:Rg):Bool:=(r.c==1)&&decide (4<=r.n)&&decide (r.n<=7)
def QnN (r:Rg):Bool:=(r.c==2)&&Wv r
def Qwa (r:Rg)(H:Qa):Qe Pg 263 [.agg r.cells.toArray] H λu H'=>u=.bool (Qhn r)∧∃k,H'=H.up k:=by
 refine Qtl λaa=>?_;obtain⟨c,n⟩:=r;unfold Qhn;simp only[Rg.cells,Qk5,Qb,simprocAttr];cases h:c==1<;>cases q:decide (4<=n)<;>simp only[Qb,simprocAttr,q,Qro]
 all_goals exact .ext aa ((Ext.refl H).push _) ⟨by simp,_,rfl⟩
def Qye (r:Rg)(H:Qa):Qe Pg 264 [.agg r.cells.toArray] H λu H'=>u=.bool (QnN r)∧∃k,H'=H.up k:=by
 refine Qvt λab=>?_;have q:=K3 r;unfold QnN;obtain⟨v,ev⟩:∃v,Wv r=v:=⟨_,rfl⟩;rw[ev]at q ⊢;obtain⟨c,n⟩:=r;simp only[Rg.cells]at q;simp only[Rg.cells,QnB,Qb,simprocAttr];cases h:c==2 with
 | false=>
  simp only[Qb,simprocAttr,Qk6];exact .ext ab ((Ext.refl H).push _) ⟨rfl,_,rfl⟩
 | true=>
  simp only[Qb,simprocAttr];refine(q _).w ?_;rintro _ _ aa ac ⟨rfl,k,rfl⟩;simp only[Qf,Q8]at aa;simp only[Qb,simprocAttr,Qk6];exact .ext ab (((Ext.refl H).push _).up (by rw[Qf];exact aa)) ⟨rfl,_,rfl⟩
def Qn (h m l:Int):Int:=h * 64+m * 8+l
def QDu:∀h:Fin 4,∀m:Fin 8,∀l:Fin 8,IntKind.u8.wrap (IntKind.i64.wrap (BitVec.ofInt IntKind.i64.bits (IntKind.i64.wrap (BitVec.ofInt IntKind.i64.bits (IntKind.i64.wrap ((h:Nat) * 2 ^ min ((6:Int)).toNat IntKind.i64.bits)) ||| BitVec.ofInt IntKind.i64.bits (IntKind.i64.wrap ((m:Nat) * 2 ^ min ((3:Int)).toNat IntKind.i64.bits))).toNat) ||| BitVec.ofInt IntKind.i64.bits ((l:Nat):Int)).toNat)=Qn (h:Nat) (m:Nat) (l:Nat):=by decide +kernel
def Yq (h m l:Int)(q:0<=h∧h<4)(ab:0<=m∧m<8)(aa:0<=l∧l<8)(H:Qa):Qe Pg 191 [.Z h,.Z m,.Z l] H λu H'=>u=.int .u8 (Qn h m l)∧H'=H:=by
 refine Qrj λac=>?_;simp only[QiA,sxA,sxB,Nat.reduceBEq,Nat.reduceEqDiff,reduceCtorEq,mxA,mxB,Nat.reduceAdd,reduceIte,Nat.reduceLeDiff,splice,QpG];have e:=QDu ⟨h.toNat,by omega⟩ ⟨m.toNat,by omega⟩ ⟨l.toNat,by omega⟩;simp only[Bi q.1,Bi ab.1,Bi aa.1]at e;refine⟨by decide,by decide,.mk (Lb _) ⟨?_,rfl⟩⟩;rw[<- e]
def QcU (n sz:Int)(q:I64 n)(H:Qa):Qe Pg 254 [.Z n,.Z sz] H λv H'=>Gx 1 5 H H' v (ZE n sz).1.length (bys (ZE n sz).1)∧Ext H H':=by
 refine Qti λab=>?_;simp only[Qk3,Qb,simprocAttr];refine(QnM n sz q H).w ?_;rintro _ H1 _ ac ⟨v,rfl,aa,hx⟩;simp only[Qb,simprocAttr,Qrl];exact .mk hx.y ⟨aa,hx⟩
def noK:CallF:=λ_ _ _=>none
def QDv:CallOk Pg noK:=λ_ _ _ _ _ h=>by cases h
def isW (u:Value):Option (Value×Qa)->Bool
 | some (v,_)=>Qdi 6 u v
 | none=>false
def Qwb {F G k:Nat}{f:FuncId}{args:List Value}{u:Value}(q:entered Pg f=true)(aa:args.all Ab.plain=true)(ad:Ab.plain u=true)(h:isW u ((run Pg noK F G k).fn f args (H0 Pg))=true)(H:Qa):Qe Pg f args H λv H'=>v=u∧H'=H:=by
 unfold isW at h;split at h;·rename_i v H1 ac;have ab:=((Ql8 QDv k).fn f args _ _ H1 ac).does q;have e:u=v:=Qcd 6 _ _ h;subst e;exact Qq6 q (QCq ab aa ad H)
 cases h
def ZF (n:Int):Int:=if n=2 then 1 else if n=4 then 2 else if n=8 then 3 else 0
def QlC (n:Int):0<=ZF n∧ZF n<4:=by unfold ZF;repeat' (split<;>try omega)
def Qyf:(([1,2,4,8]:List Int).all λn=>isW (.Z (ZF n)) ((run Pg noK 100 5 10).fn 256 [.Z n] (H0 Pg)))=true:=by kernel_rfl
def QiS (n:Int)(q:WF n=true)(H:Qa):Qe Pg 256 [.Z n] H λu H'=>u=.Z (ZF n)∧H'=H:=by
 have aa:n∈([1,2,4,8]:List Int):=by
  unfold WF at q;simp only[Nw,L0]at q;simp only[LK,Ns,NN];omega
 exact Qwb (by kernel_rfl) rfl rfl (Li.1 Qyf n aa) H
structure Ld where
 b:List Int
 x:Int
 h:Int
 deriving DecidableEq
def LdV (H0 H:Qa)(w:Ld)(v:Value):Prop:=∃s,v=.agg #[s,.Z w.x,.Z w.h]∧Gx 1 5 H0 H s w.b.length (bys w.b)
def Qho (n sz:Int)(h:sz<=8):(ZE n sz).1.length<=8:=by
 unfold ZE;split;·simp
 split;·simp
 simp[YY];omega
def GP (mid:Int)(q:Rg)(f d:Int):Ld:=⟨[Qn 0 mid 4,bif isR q 0 0 then Qn 0 4 5 else Qn (ZF f) (WY q) 5]++(ZE d 4).1,XS q,0⟩
def QiT (mid:Int)(q:Rg)(f d:Int)(aG:0<=mid∧mid<8)(aD:isR q 0 0=false->WF f=true)(aB:I64 d)(H:Qa):
  Qe Pg 255 [.Z mid,.agg q.cells.toArray,.Z f,.Z d] H λv H'=>LdV H H' (GP mid q f d) v∧Ext H H':=by
 refine QpK λaK=>?_;have ap:=Qdb q;have aI:=QlC f;have aj:=Vn q;have ak:=QbR q;have aY:=Qho d 4 (by decide);have aC:(q.c==0&&q.n==0)=isR q 0 0:=rfl;have ay:Qn 0 4 5=37:=rfl;obtain⟨w,aa⟩:∃w,w=GP mid q f d:=⟨_,rfl⟩;rw[<- aa];unfold GP at aa;obtain⟨lo,an⟩:∃lo,WY q=lo:=⟨_,rfl⟩;obtain⟨hi,am⟩:∃hi,XS q=hi:=⟨_,rfl⟩;rw[an]at aj ap aa;rw[am]at ak aa;clear an am;obtain⟨c,n⟩:=q;simp only[Rg.cells]at aj ak;simp only[Rg.cells,QgU,Qb,simprocAttr];generalize ab:Qa.push (Qa.push H _) _=H1;have av:Ext H H1:=by rw[<- ab];exact((Ext.refl H).push _).push _
 have aL:H1.Wf:=by rw[<- ab];exact(aK.push _).push _
 have ae:H1.get H.y=some (.C [.Z c,.Z n] 46):=by rw[<- ab,Qc,Le (by rw[Qf];omega),Qc,Lc rfl]
 have g1:H1.get (H.y+1)=some (.C [.slice none 0 0,.Z 0,.Z 0] 159):=by rw[<- ab,Qc,Lc (by rw[Qf])]
 have aX:H1.y=H.y+2:=by rw[<- ab];rfl
 clear ab;refine(Yq 0 4 5 (by decide) (by decide) (by decide) H1).w ?_;rintro _ H1 _ _ ⟨rfl,rfl⟩
 -- the end,of any byte of SIB
 have ao:∀ (sib:Int) (A:Env) (H2:Qa),Ext H1 H2->H2.Wf->w=⟨[Qn 0 mid 4,sib]++(ZE d 4).1,hi,0⟩->A 0=.Z mid->A 3=.Z d->A 5=.P H.y->A 8=.P (H.y+1)->A 9=.int .u8 sib->
   Qm Pg (.seq (.ops [Om 20 (t 0),Ow 21 (.call 191 [(Ci 0),(t 20),(Ci 4)]),Om 22 (t 9),Ow 23 (.bslice 5 1 2 [.int .u8 0,.int .u8 0] [(0,(t 21)),(1,(t 22))]),Om 24 (t 3),Ow 25 (.call 254 [(t 24),(Ci 4)]),Ow 26 (.app 5 1 1 (t 23) (t 25)),Om 10 (t 26)]) (.seq (.ops [Om 27 (t 10),Ow 28 (.ld true 2 (t 5)),Ow 29 (.call 192 [(t 28)]),Ow 30 (.build [.slice none 0 0,.Z 0,.Z 0] [(0,1,(t 27)),(1,1,(t 29))]),Ov (.st 3 (t 8) (t 30))]) .ret)) ⟨Rt Pg Tryz.f255 H λv H'=>LdV H H' w v∧Ext H H',X4⟩ (Rt Pg Tryz.f255 H λv H'=>LdV H H' w v∧Ext H H') A H2:=by
  intro sib A H2 ad aM e aR r3 aS r8 aT;simp only[Qb,simprocAttr,aR];refine(Yq 0 mid 4 (by decide) aG (by decide) H2).w ?_;rintro _ H2 _ _ ⟨rfl,rfl⟩;simp only[Qb,simprocAttr,r3,aT];have aN:=(Ext.refl H2).push (.C [.int .u8 (Qn 0 mid 4),.int .u8 sib] 5);have ah:=aM.push (.C [.int .u8 (Qn 0 mid 4),.int .u8 sib] 5);have aH:Gx 1 5 H2 (H2.push (.C [.int .u8 (Qn 0 mid 4),.int .u8 sib] 5)) (.S H2.y 2 2) 2 (bys [Qn 0 mid 4,sib]):=.inr ⟨_,_,rfl,Lb _,by rw[Qc,Lc rfl];rfl,rfl,.inl rfl⟩;generalize H2.push _=H3 at *;refine(QcU d 4 aB H3).w ?_;rintro ba H4 _ au ⟨aJ,aw⟩;simp only[Qb,simprocAttr];refine V6 (aH.go ah aw) (aN.trans aw) au aJ.src (Vu _) (by rw[Yn,NH]) (by omega) (by omega) ?_;intro bc H5 ag ac;have aQ:H5.get H.y=some (.C [.Z c,.Z n] 46):=by rw[(ad.trans ac.x).get _ (by omega)];exact ae
  simp only[Qb,simprocAttr,aS,aQ];refine(ak H5).w ?_;rintro _ _ ar aZ ⟨rfl,k,rfl⟩;simp only[Q8]at ar;have aO:=(ad.trans ac.x).up ar;have k1:H5.get (H.y+1)=some (.C [.slice none 0 0,.Z 0,.Z 0] 159):=by rw[(ad.trans ac.x).get _ (by omega)];exact g1
  obtain⟨a5,az,rfl⟩:=ag.slc;simp only[Qb,simprocAttr,r8,k1,Qoa];have aP:=av.trans aO;have ax:=aP.set (i:=H.y+1) (by omega) (.C [.slice a5 (2+(ZE d 4).1.length) az,.Z hi,.Z 0] 159);refine .mk ax.y ⟨⟨_,by rw[e],?_⟩,ax⟩;have aF:w.b.length=2+(ZE d 4).1.length:=by rw[e];simp only[Lh,Lo,L9]
  have aA:bys w.b=bys [Qn 0 mid 4,sib]++bys (ZE d 4).1:=by rw[e,QaJ]
  have aU:=av.y;have aV:=ad.y;rw[aF,aA];refine(ag.down (H0:=H) (by omega)).ext λid aE=>?_;have aW:=ag.low ac.w aE;rw[Qj,Le (by omega),XB]
 simp only[Qb,simprocAttr,ae,QO,aC];cases ai:isR ⟨c,n⟩ 0 0 with
 | true=>
  rw[ai,Lq]at aa;simp only[L8,Qjb,Qpi];refine ao 37 _ H1 (.refl _) aL ?_ ?_ ?_ ?_ ?_ ?_;·rw[aa,ay]
  all_goals simp only[Qd,simprocAttr,ay]
 | false=>
  rw[ai,Ls]at aa;simp only[LM,Qy4,Qb,simprocAttr];refine⟨by omega,?_⟩;refine(QiS f (aD ai) H1).w ?_;rintro _ H1 _ _ ⟨rfl,rfl⟩;simp only[Qb,simprocAttr,ae];refine⟨λ_ _=>rfl,by simp[Qp,Ab.plain],?_⟩;refine(aj H1).w ?_;rintro _ _ aq ah ⟨rfl,k,rfl⟩;simp only[Q8]at aq;simp only[Qb,simprocAttr];refine(Yq (ZF f) lo 5 aI ap (by decide) _).w ?_;rintro _ _ _ au ⟨rfl,rfl⟩;simp only[Qkg,Qey,QhF,Qy5];refine ao _ _ (H1.up k) ((Ext.refl H1).up aq) ah aa ?_ ?_ ?_ ?_ ?_
  all_goals simp only[Qd,simprocAttr]
def QhM (f:Fn)(a b:Array Value):(Value.func f a b).cells.toList=[.func f a b]:=Nu rfl rfl
def Qqv (f:Fn)(a b:Array Value):(Value.func f a b).oneCell'=true:=Nu rfl rfl
def QhN {l:Nat}{args:List Value}{H:Qa}{k ab:Value->Qa->Prop}(h:YQ Pg l args H k)(ae:∀v H',H.y<=H'.y->H'.Wf->k v H'->ab v H'):YQ Pg l args H ab:=by
 intro ag;obtain⟨v,H',ac,q,aa,ad⟩:=h ag;exact⟨v,H',ac,q,aa,ae v H' q aa ad⟩
structure CK (Own:Qa->Nat->Prop) (H H':Qa):Prop where
 y:H.y<=H'.y
 w:H'.Wf
 keep:∀id,id<H.y->¬Own H id->H'.get id=H.get id
 own:∀id,Own H' id->Own H id∨H.y<=id
def CK.trans {Own:Qa->Nat->Prop}{H H' H'':Qa}(h:CK Own H H')(h':CK Own H' H''):CK Own H H'':=by
 have ad:=h.y;have ae:=h'.y;refine⟨by omega,h'.w,λid aa q=>?_,λid aa=>?_⟩;·rw[h'.keep id (by omega) (λac=>by rcases h.own id ac with ab | ab;exact q ab;omega),h.keep id aa q]
 rcases h'.own id aa with q | q;·exact h.own id q
 exact .inr (by omega)
structure Cns {α:Type} (base:Nat) (l:Nat) (items:List α) (It:Qa->Qa->α->Value->Prop) (R:Nat->Qa->Prop) (Own:Qa->Nat->Prop):Prop where
 ext:∀j H H',R j H->H.Wf->Ext H H'->R j H'∧∀id,Own H' id->Own H id
 low:∀j H id,R j H->Own H id->id<H.y
 go:∀j w H0 H v,items[j]? = some w->R j H->R j H0->H0.Wf->It H0 H w v->base<=H0.y->Ext H0 H->(∀id,Own H id->Own H0 id)->YQ Pg l [v] H λu H'=>u=.bool true∧R (j+1) H'∧CK Own H H'
def Cns.ck {α:Type}{base l:Nat}{ad:List α}{It:Qa->Qa->α->Value->Prop}{R:Nat->Qa->Prop}{Own:Qa->Nat->Prop}(h:Cns base l ad It R Own){j:Nat}{H H':Qa}(aa:R j H)(ab:H.Wf)(hx:Ext H H')(ac:H'.Wf):CK Own H H':=
 ⟨hx.y,ac,λid q _=>hx.get id q,λid q=>.inl ((h.ext j H H' aa ab hx).2 id q)⟩
def QDw (md:Nat)(m:Mm):Bool:=if md=0 then(m.d==0)&&!(WY m.b==5) else if md=1 then Qqt m.d 8 else true
def Qf8 (md:Nat)(m:Mm):List Int:=if md=0 then[] else if md=1 then(ZE m.d 1).1 else(ZE m.d 4).1
def Zh (mid rm:Int)(sib:List Int)(m:Mm)(md:Nat):List Ld:=if QDw md m=true then[⟨[Qn md mid rm]++sib++Qf8 md m,XS m.i,XS m.b⟩] else[]
def Xr (mid rm:Int)(sib:List Int)(m:Mm):List Ld:=(List.range 3).flatMap (Zh mid rm sib m)
def QlD:List Value:=[.func (.func 283) #[] #[],.func (.func 284) #[] #[],.func (.func 285) #[] #[],.func (.func 287) #[] #[],.func (.func 288) #[] #[],.func (.func 289) #[] #[]]
def Qol (H:Qa):Qe Pg 274 [] H λu H'=>u=.S H.y 3 3∧H'=H.push (.C QlD 298):=by
 refine Qmy λq=>?_;simp only[QdL,Qb,simprocAttr,QhM,Nat.reduceMul,Qk7];exact .mk (by rw[Qf];omega) ⟨rfl,rfl⟩
def QIH (d lo:Int)(H:Qa):Qe Pg 283 [.Z d,.Z lo] H λu H'=>u=.bool ((d==0)&&!(lo==5))∧H'=H:=by
 refine QjA λq=>?_;simp only[Qbw,Qb,simprocAttr];cases h:d==0<;>simp only[Qb,simprocAttr,QhU]
 all_goals exact .mk (Lb _) ⟨rfl,rfl⟩
def QII (d lo:Int)(H:Qa):Qe Pg 285 [.Z d,.Z lo] H λu H'=>u=.bool (Qqt d 8)∧H'=H:=by
 refine QjC λq=>?_;simp only[Qby,Qb,simprocAttr];refine(QtS d 8 H).w ?_;rintro _ H _ _ ⟨rfl,rfl⟩;simp only[Qb,simprocAttr,QhW];exact .mk (Lb _) ⟨rfl,rfl⟩
def QIJ (d lo:Int)(H:Qa):Qe Pg 288 [.Z d,.Z lo] H λu H'=>u=.bool true∧H'=H:=by
 refine QjE λq=>?_;simp only[QbA,Qb,simprocAttr,QhY];exact .mk (Lb _) ⟨rfl,rfl⟩
def QIK (d:Int)(H:Qa):Qe Pg 284 [.Z d] H λv H'=>Gx 1 5 H H' v 0 []∧Ext H H':=by
 refine QjB λq=>?_;simp only[Qbx,Qb,simprocAttr,QhV];exact .mk (Lb _) ⟨.inl ⟨rfl,rfl,rfl⟩,.refl _⟩
def QIL (d:Int)(q:I64 d)(H:Qa):Qe Pg 287 [.Z d] H λv H'=>Gx 1 5 H H' v (ZE d 1).1.length (bys (ZE d 1).1)∧Ext H H':=by
 refine QjD λab=>?_;simp only[Qbz,Qb,simprocAttr];refine(QcU d 1 q H).w ?_;rintro v H1 _ _ ⟨aa,hx⟩;simp only[Qb,simprocAttr,QhX];exact .mk hx.y ⟨aa,hx⟩
def QIM (d:Int)(q:I64 d)(H:Qa):Qe Pg 289 [.Z d] H λv H'=>Gx 1 5 H H' v (ZE d 4).1.length (bys (ZE d 4).1)∧Ext H H':=by
 refine QjF λab=>?_;simp only[QbB,Qb,simprocAttr];refine(QcU d 4 q H).w ?_;rintro v H1 _ _ ⟨aa,hx⟩;simp only[Qb,simprocAttr,QhZ];exact .mk hx.y ⟨aa,hx⟩
def QIN (md:Nat)(h:md<3)(m:Mm)(q:I64 m.d):∃f g:FuncId,(QlD.drop (md * 2)).take 2=[.func (.func f) #[] #[],.func (.func g) #[] #[]]∧(∀H,Qe Pg f [.Z m.d,.Z (WY m.b)] H λu H'=>u=.bool (QDw md m)∧H'=H)∧(∀H,Qe Pg g [.Z m.d] H λv H'=>Gx 1 5 H H' v (Qf8 md m).length (bys (Qf8 md m))∧Ext H H'):=by
 rcases md with _ | _ | _ | md;·exact⟨_,_,rfl,QIH m.d (WY m.b),QIK m.d⟩
 ·exact⟨_,_,rfl,QII m.d (WY m.b),QIL m.d q⟩
 ·exact⟨_,_,rfl,QIJ m.d (WY m.b),QIM m.d q⟩
 omega
def Qwc (md:Nat)(m:Mm):(Qf8 md m).length<=8:=by
 unfold Qf8;split;·simp
 split;·exact Qho _ _ (by decide)
 exact Qho _ _ (by decide)
def Qhp (mid rm:Int)(sib:List Int)(m:Mm)(md:Nat):(List.range (md+1)).flatMap (Zh mid rm sib m)=(List.range md).flatMap (Zh mid rm sib m)++Zh mid rm sib m md:=by
 rw[R0,Bm];simp
def Qqw {base l:Nat}{aC:List Ld}{R:Nat->Qa->Prop}{Own:Qa->Nat->Prop}(q:Cns base l aC LdV R Own)(mid rm:Int)(bF:0<=mid∧mid<8)(bI:0<=rm∧rm<8){sib:List Int}(cr:sib.length<=8){sv:Value}(m:Mm)(br:I64 m.d)(ai:Nat){Hs H:Qa}(ce:base<=H.y)(am:R ai H)(bJ:Gx 1 5 Hs H sv sib.length (bys sib))(bN:∀id,inB sv id->¬Own H id)
  (hit:∀i w,(Xr mid rm sib m)[i]? = some w->aC[ai+i]? = some w):
  Qe Pg 257 [.func (.yield l) #[] #[],.Z mid,.Z rm,sv,.agg m.cells.toArray] H λu H'=>u=.bool true∧R (ai+(Xr mid rm sib m).length) H'∧CK Own H H':=by
 refine QdK λap=>?_;have ca:=QIN;have cf:sv=sv:=rfl;obtain⟨aF,cb⟩:∃aF:Value,aF=.agg m.cells.toArray:=⟨_,rfl⟩;have bh:(Value.agg m.cells.toArray).cells.toList=m.cells:=rfl;simp only[K2,bh,QbZ,simprocAttr];have aY:=(Ext.refl H).push (.C m.cells 48);have bO:=ap.push (.C m.cells 48);have aO:(H.push (.C m.cells 48)).get H.y=some (.C m.cells 48):=by rw[Qc,Lc rfl]
 generalize H.push (.C m.cells 48)=H1 at *;refine(Qol H1).w ?_;rintro _ Hb cq ad ⟨rfl,av⟩;have bd:Ext H1 Hb:=by rw[av];exact(Ext.refl H1).push _
 have aQ:Hb.get H1.y=some (.C QlD 298):=by rw[av,Qc,Lc rfl]
 have ax:Hb.get H.y=some (.C m.cells 48):=by rw[bd.get _ (bO.lt aO)];exact aO
 clear av;have ar:=aY.trans bd;obtain⟨aN,aw⟩:=q.ext _ _ _ am ap ar;have aU:=q.low ai H;have aX:=bJ.go ap ar;simp only[QbZ,simprocAttr];refine Qu (λk A' H'=>∃md:Nat,md<=3∧k=3 - md∧R (ai+((List.range md).flatMap (Zh mid rm sib m)).length) H'∧CK Own Hb H'∧A' 0=.func (.yield l) #[] #[]∧A' 1=.Z mid∧A' 2=.Z rm∧A' 3=sv∧A' 9=.P H.y∧A' 14=.S H1.y 3 3∧A' 15=.Z 3∧A' 16=.Z md) 3 ?_ ?_
 ·refine⟨0,by omega,rfl,aN,q.ck aN ad (.refl _) ad,?_,?_,?_,?_,?_,?_,?_,?_⟩
  all_goals simp only[Qd,simprocAttr]
  all_goals rfl
 rintro k A' Ha ⟨md,cl,rfl,ag,aa,aD,r1,r2,r3,ae,aE,r15,au⟩;have ac:=aa.w;have cp:=aa.y;have bG:¬Own Hb H.y:=λh=>by have:=aU _ am (aw _ h);omega
 have bH:¬Own Hb H1.y:=λh=>by have:=aU _ am (aw _ h);have:=aY.y;omega
 have aj:Ha.get H.y=some (.C m.cells 48):=by rw[aa.keep _ (ad.lt ax) bG];exact ax
 have gx:Ha.get H1.y=some (.C QlD 298):=by rw[aa.keep _ (ad.lt aQ) bH];exact aQ
 simp only[JO,Qb,simprocAttr,r15,au];refine Qg (λab=>?_) (λab=>?_)
 ·have ab:md<3:=by have:=Lg ab;omega
  obtain⟨f,g,bw,bY,bZ⟩:=ca md ab m br;have d1:(0:Int)<=md∧(md:Int)<(3:Nat):=by omega
  have d3:(md:Int).toNat=md:=by omega
  have aG:IntKind.i64.wrap ((md:Int)+1)=((md+1:Nat):Int):=by rw[w64 (by unfold I64;omega)];omega
  have bE:md * 2+2<=QlD.length:=by show md * 2+2<=6;omega
  simp only[JN,sxA,sxB,Nat.reduceBEq,Nat.reduceEqDiff,reduceCtorEq,mxA,mxB,Nat.reduceAdd,reduceIte,Nat.reduceLeDiff,splice,ae,aE,au,d1,d3,gx,bw,Qqv];have cj:=ad.lt ax;have bX:¬H.y=Ha.y:=by omega
  have aM:=aj;simp only[Mm.cells]at aM;refine⟨bE,by simp[Qp,Ab.plain],?_⟩;simp only[Qb,simprocAttr,ae,bX,aM];generalize ak:(Ha.push _).set Ha.y _=H3;have bV:Ext Ha H3:=by rw[<- ak];exact((Ext.refl Ha).push _).set (Lb _) _
  have bQ:H3.Wf:=by rw[<- ak];exact(ac.push _).set (b0:=.C [.nilFunc,.nilFunc] 298) (by rw[Qc,Lc rfl]) _
  have aH:H3.get Ha.y=some (.C [.func (.func f) #[] #[],.func (.func g) #[] #[]] 298):=by rw[<- ak,Qj,Lc rfl]
  clear ak;have ci:=bQ.lt aH;refine⟨by simp[Qp,Ab.plain],?_⟩;refine(Vn m.b H3).w ?_;rintro _ _ az aq ⟨rfl,k,rfl⟩;simp only[Q8]at az;have ah:=bV.up az;simp only[Qb,simprocAttr,QaZ];refine⟨((Ext.refl H3).up az).eqB,?_⟩;have aI:(H3.up k).get Ha.y=some (.C [.func (.func f) #[] #[],.func (.func g) #[] #[]] 298):=by rw[XB];exact aH
  generalize H3.up k=H4 at *;refine(bY H4).w ?_;rintro _ H4 _ _ ⟨rfl,rfl⟩;obtain⟨bq,cc⟩:=q.ext _ _ _ ag ac ah;have bC:CK Own Hb H4:=aa.trans (q.ck ag ac ah aq);cases aV:QDw md m with
  | false=>
   simp only[Qb,simprocAttr,au,aG];have bD:Zh mid rm sib m md=[]:=by unfold Zh;rw[Le (by simp[aV])]
   refine⟨3 - (md+1),by omega,md+1,by omega,rfl,?_,bC,?_,?_,?_,?_,?_,?_,?_,?_⟩;·rw[Qhp,bD,Na];exact bq
   all_goals simp only[Qd,simprocAttr,aD,r1,r2,r3,ae,aE,r15]
  | true=>
   simp only[JM,Qb,simprocAttr,r1,r2];refine(Yq md mid rm (by omega) bF bI H4).w ?_;rintro _ H4 _ _ ⟨rfl,rfl⟩;simp only[Qb,simprocAttr,r3];have bM:Gx 1 5 Hs Ha sv sib.length (bys sib):=aX.ext λid aR=>aa.keep id (by have:=aX.low ad aR;omega) (λh=>bN id aR (aw id h));have bK:=bM.go ac ah;have aZ:=(Ext.refl H4).push (.C [.int .u8 (Qn md mid rm)] 5);have bR:=aq.push (.C [.int .u8 (Qn md mid rm)] 5);have bz:Gx 1 5 H4 (H4.push (.C [.int .u8 (Qn md mid rm)] 5)) (.S H4.y 1 1) 1 (bys [Qn md mid rm]):=.inr ⟨_,_,rfl,Lb _,by rw[Qc,Lc rfl];rfl,rfl,.inl rfl⟩;have bL:=bK.go aq aZ;generalize H4.push _=H5 at *;have ch:=Qwc md m;refine V6 bz aZ bR bL.src (Vu _) (by rw[Yn,NH]) (by omega) (by omega) ?_;intro cv H6 b7 an;have bi:H6.get Ha.y=some (.C [.func (.func f) #[] #[],.func (.func g) #[] #[]] 298):=by rw[an.x.get _ (aq.lt aI)];exact aI
   have bW:=ah.trans an.x;have aJ:H6.get H.y=some (.C m.cells 48):=by rw[bW.get _ (by omega)];exact aj
   simp only[Mm.cells]at aJ;simp only[Qb,simprocAttr,bi,aJ,QaZ,ae];refine(bZ H6).w ?_;rintro cw H7 co bS ⟨b8,ba⟩;simp only[Qb,simprocAttr];refine V6 (b7.go an.w ba) (an.x.trans ba) bS b8.src (Vu _) (by rw[Yn,NH]) (by omega) (by omega) ?_;intro cx H8 aP aS;obtain⟨a8,bg,rfl⟩:=aP.slc;have aB:=ah.trans aS.x;have aK:H8.get H.y=some (.C m.cells 48):=by rw[aB.get _ (by omega)];exact aj
   simp only[Mm.cells]at aK;have bT:=aS.w;simp only[Qb,simprocAttr,aK,aD,ae];have cg:=aB.y;refine⟨by omega,?_⟩;refine(QbR m.i H8).w ?_;rintro _ _ ao bU ⟨rfl,k9,rfl⟩;simp only[Q8]at ao;have bc:=aB.up ao;have aL:(H8.up k9).get H.y=some (.C m.cells 48):=by rw[bc.get _ (by omega)];exact aj
   simp only[Mm.cells]at aL;have bu:=((Ext.refl H8).up ao).eqB;have b9:=aP.go bT ((Ext.refl H8).up ao);generalize H8.up k9=H9 at *;simp only[Qb,simprocAttr,aL,ae];refine⟨bu,by simp[Qp,Ab.plain],?_⟩;refine(QbR m.b H9).w ?_;rintro _ _ ay bP ⟨rfl,k10,rfl⟩;simp only[Q8]at ay;have aA:=bc.up ay;have bx:=b9.go bU ((Ext.refl H9).up ay);obtain⟨bo,bn⟩:=q.ext _ _ _ ag ac aA;generalize H9.up k10=H10 at *;simp only[Qb,simprocAttr,QaR];have aW:Zh mid rm sib m md=[⟨[Qn md mid rm]++sib++Qf8 md m,XS m.i,XS m.b⟩]:=by unfold Zh;rw[Lc aV]
   have bA:aC[ai+((List.range md).flatMap (Zh mid rm sib m)).length]? = some ⟨[Qn md mid rm]++sib++Qf8 md m,XS m.i,XS m.b⟩:=by
    refine hit _ _ ?_;unfold Xr;have bj:List.range 3=List.range (md+1)++(List.range 3).drop (md+1):=by
     rcases md with _ | _ | _ | md;·rfl
     ·rfl
     ·rfl
     omega
    rw[bj,Bm,Qhp,aW,LQ,LR (Lb _),BJ];rfl
   have bm:LdV Ha H10 ⟨[Qn md mid rm]++sib++Qf8 md m,XS m.i,XS m.b⟩ (.agg #[.slice a8 (1+sib.length+(Qf8 md m).length) bg,.Z (XS m.i),.Z (XS m.b)]):=by
    have e1:([Qn md mid rm]++sib++Qf8 md m).length=1+sib.length+(Qf8 md m).length:=by simp only[Lh,Lo,L9]
    have e2:bys ([Qn md mid rm]++sib++Qf8 md m)=bys [Qn md mid rm]++bys sib++bys (Qf8 md m):=by rw[QaJ,QaJ]
    refine⟨_,rfl,?_⟩;show Gx 1 5 Ha H10 _ ([Qn md mid rm]++sib++Qf8 md m).length (bys ([Qn md mid rm]++sib++Qf8 md m));rw[e1,e2];exact bx.down ah.y
   refine QhN (q.go _ _ Ha H10 _ bA bo ag ac bm (by have:=ar.y;omega) aA bn) ?_;rintro _ H11 cm ct ⟨rfl,bp,bB⟩;simp only[Qb,simprocAttr,au,aG];refine⟨3 - (md+1),by omega,md+1,by omega,rfl,?_,?_,?_,?_,?_,?_,?_,?_,?_,?_⟩;·rw[Qhp,aW,Lh];exact bp
   ·exact(aa.trans (q.ck ag ac aA bP)).trans bB
   all_goals simp only[Qd,simprocAttr,aD,r1,r2,r3,ae,aE,r15]
 have ab:md=3:=by have:=Ll ab;omega
 subst ab;simp only[Qb,simprocAttr,Qc5];have aT:CK Own H Ha:=(q.ck am ap ar ad).trans aa;exact .mk aT.y ⟨rfl,ag,aT⟩
def Y3 (mid:Int)(m:Mm):List Ld:=
 if(m.b.c==8)=true then[⟨[Qn 0 mid 5]++(ZE m.d 4).1,0,0⟩]
 else if isR m.b 0 0=true then[GP mid m.i m.sc m.d]
 else if isR m.i 0 0=false then Xr mid 4 [Qn (ZF m.sc) (WY m.i) (WY m.b)] m
 else(if(WY m.b==4)=true then[] else Xr mid (WY m.b) [] m)++(Xr mid 4 [Qn 0 4 (WY m.b)] m++(if(m.b.n==4)=true then[] else[GP mid m.b 1 m.d]))
def Qqx (H:Qa)(b:Int):Gx 1 5 H (H.push (.C [.int .u8 b] 5)) (.S H.y 1 1) 1 (bys [b]):=.inr ⟨_,_,rfl,Lb _,by rw[Qc,Lc rfl];rfl,rfl,.inl rfl⟩
section
variable {base l:Nat} {R:Nat->Qa->Prop} {Own:Qa->Nat->Prop} {mid:Int} {m:Mm} {H:Qa} {bm bi:Nat}
def QrI (q:Cns base l (Y3 mid m) LdV R Own)(cb:base<=H.y)(av:0<=mid∧mid<8)(ar:I64 m.d)(bd:isR m.i 0 0=false->WF m.sc=true)(aN:R 0 H)(aJ:H.get bm=some (.C m.cells 48))(aV:H.get bi=some (.C [.Z mid] 3))(bY:¬Own H bm)(bX:¬Own H bi):
  Qe Pg 253 [.func (.yield l) #[] #[],.P bm,.P bi] H λu H'=>R (Y3 mid m).length H'∧CK Own H H':=by
 refine Qn9 λaH=>?_;have aS:=Qdb m.b;have bM:=Qdb m.i;have bN:=QlC m.sc;have bL:=aH.lt aJ;have bK:=aH.lt aV;have bu:=Vn m.b;have bw:=Vn m.i;have bF:(m.b.c==0&&m.b.n==0)=isR m.b 0 0:=rfl;have bG:(m.i.c==0&&m.i.n==0)=isR m.i 0 0:=rfl;have aK:=aJ;simp only[Mm.cells]at aK;simp only[Rg.cells]at bu bw;simp only[Qfy,Qb,simprocAttr,aK];refine(bu H).w ?_;rintro _ _ bn bR ⟨rfl,k1,rfl⟩;simp only[Q8]at bn;have bW:¬bm=k1:=by omega
 simp only[Qb,simprocAttr,bW,aK];generalize aA:((H.up k1).push _).set k1 _=H2;have am:Ext H H2:=by rw[<- aA];exact(((Ext.refl H).up bn).push _).set (by omega) _
 have ab:H2.Wf:=by rw[<- aA];exact(bR.push _).set (b0:=.C [.Z 0,.Z 0] 46) (by rw[Qc,Lc (by rw[Q8])]) _
 have cc:k1<H2.y:=by rw[<- aA,QR,Qf,Q8];omega
 have aU:H2.get k1=some (.C [.Z 0,.Z 0] 46):=by rw[<- aA,Qj,Lc rfl]
 have aj:H2.get bm=some (.C m.cells 48):=by rw[am.get _ bL];exact aJ
 have an:H2.get bi=some (.C [.Z mid] 3):=by rw[am.get _ bK];exact aV
 clear aA;obtain⟨ag,aL⟩:=q.ext _ _ _ aN aH am;have aE:=q.ck aN aH am ab;have br:¬Own H2 bm:=λh=>bY (aL _ h);have bq:¬Own H2 bi:=λh=>bX (aL _ h);have cl:¬Own H2 k1:=λh=>by have:=q.low _ _ _ aN (aL _ h);omega
 obtain⟨W,aa⟩:∃W,W=Y3 mid m:=⟨_,rfl⟩;rw[<- aa]at q ⊢;unfold Y3 at aa;have ao:=aj;simp only[Mm.cells]at ao;cases aZ:m.b.c==8 with
 | true=>
  rw[aZ,Lc rfl]at aa;simp only[Qb,simprocAttr,an];refine⟨by omega,?_⟩;refine(Yq 0 mid 5 (by decide) av (by decide) H2).w ?_;rintro _ H2 _ _ ⟨rfl,rfl⟩;have ai:=(Ext.refl H2).push (.C [.int .u8 (Qn 0 mid 5)] 5);have ak:=ab.push (.C [.int .u8 (Qn 0 mid 5)] 5);have bH:=Qqx H2 (Qn 0 mid 5);have ay:(H2.push (.C [.int .u8 (Qn 0 mid 5)] 5)).get bm=some (.C m.cells 48):=by rw[ai.get _ (by have:=ab.lt aj;omega)];exact aj
  have bT:¬bm=H2.y:=by have:=ab.lt aj;omega
  simp only[Mm.cells]at ay;simp only[Qb,simprocAttr,bT,ao];generalize H2.push _=H3 at *;refine⟨λ_ _=>rfl,by simp[Qp,Ab.plain],?_⟩;refine(QcU m.d 4 ar H3).w ?_;rintro cm H4 _ aw ⟨aC,ae⟩;have ci:=Qho m.d 4 (by decide);simp only[Qb,simprocAttr];refine⟨ae.eqB,?_⟩;refine V6 (bH.go ak ae) (ai.trans ae) aw aC.src (Vu _) (by rw[Yn,NH]) (by omega) (by omega) ?_;intro co H5 bg aF;obtain⟨a5,ca,rfl⟩:=bg.slc;obtain⟨bA,b8⟩:=q.ext _ _ _ ag ab aF.x;have bD:=aE.trans (q.ck ag ab aF.x aF.w);simp only[Qb,simprocAttr,QaR];refine QhN (q.go 0 ⟨[Qn 0 mid 5]++(ZE m.d 4).1,0,0⟩ H2 H5 _ (by rw[aa];rfl) bA ag ab ⟨_,rfl,?_⟩ (by have:=am.y;omega) aF.x b8) ?_;·show Gx 1 5 H2 H5 _ ([Qn 0 mid 5]++(ZE m.d 4).1).length (bys ([Qn 0 mid 5]++(ZE m.d 4).1));rw[QaJ,Lh];exact bg
  rintro _ H6 aG ap ⟨rfl,ac,ah⟩;have ad:=bD.trans ah;simp only[Qb,simprocAttr,YN];exact .mk ad.y ⟨by rw[aa];exact ac,ad⟩
 | false=>
  rw[aZ,Le (by simp)]at aa;simp only[QcN,Qb,simprocAttr,ao,aU,QO,bF];cases bc:isR m.b 0 0 with
  | true=>
   rw[bc,Lc rfl]at aa;simp only[Qb,simprocAttr,ao,an];refine(QiT mid m.i m.sc m.d av bd ar H2).w ?_;rintro v3 H3 _ ak ⟨bP,ai⟩;obtain⟨aB,ba⟩:=q.ext _ _ _ ag ab ai;have aP:=aE.trans (q.ck ag ab ai ak);simp only[Qb,simprocAttr,QaR];refine QhN (q.go 0 _ H2 H3 _ (by rw[aa];rfl) aB ag ab bP (by have:=am.y;omega) ai ba) ?_;rintro _ H6 aG ap ⟨rfl,ac,ah⟩;have ad:=aP.trans ah;simp only[Qb,simprocAttr,YN];exact .mk ad.y ⟨by rw[aa];exact ac,ad⟩
  | false=>
   rw[bc,Le (by simp)]at aa;simp only[QcM,Qb,simprocAttr,ao,aU,QO,bG];cases aR:isR m.i 0 0 with
   | false=>
    rw[aR,Lc rfl]at aa;simp only[QcJ,Qb,simprocAttr,ao];refine⟨by omega,?_⟩;refine(QiS m.sc (bd aR) H2).w ?_;rintro _ H2 _ _ ⟨rfl,rfl⟩;simp only[Qb,simprocAttr,ao];refine⟨λ_ _=>rfl,by simp[Qp,Ab.plain],?_⟩;refine(bw H2).w ?_;rintro _ _ bo ak ⟨rfl,k3,rfl⟩;simp only[Q8]at bo;have ai:=(Ext.refl H2).up bo;have ay:(H2.up k3).get bm=some (.C m.cells 48):=by rw[XB];exact aj
    have bz:(H2.up k3).get bi=some (.C [.Z mid] 3):=by rw[XB];exact an
    simp only[Mm.cells]at ay;obtain⟨aB,ba⟩:=q.ext _ _ _ ag ab ai;have aP:=aE.trans (q.ck ag ab ai ak);generalize H2.up k3=H3 at *;simp only[Qb,simprocAttr];refine(Yq _ _ _ bN bM aS H3).w ?_;rintro _ H3 _ _ ⟨rfl,rfl⟩;simp only[Qb,simprocAttr,bz];have ce:=ak.lt ay;have bU:¬bm=H3.y:=by omega
    simp only[Qb,simprocAttr,bU,ay];have ae:=(Ext.refl H3).push (.C [.int .u8 (Qn (ZF m.sc) (WY m.i) (WY m.b))] 5);have aw:=ak.push (.C [.int .u8 (Qn (ZF m.sc) (WY m.i) (WY m.b))] 5);have aC:=Qqx H3 (Qn (ZF m.sc) (WY m.i) (WY m.b));generalize H3.push _=H4 at *;obtain⟨aO,aM⟩:=q.ext _ _ _ aB ak ae;have aQ:=aP.trans (q.ck aB ak ae aw);refine(Qqw q mid 4 av (by decide) (sib:=[Qn (ZF m.sc) (WY m.i) (WY m.b)]) (by simp) m ar 0 (by have:=am.y;have:=ai.y;have:=ae.y;omega) aO aC (λid ⟨o,n,c,e⟩ h=>by cases e;have:=q.low _ _ _ aB (aM _ h);omega) (λi w h=>by rw[aa,LP];exact h)).w ?_;rintro _ H6 aG ap ⟨rfl,ac,ah⟩;have ad:=aQ.trans ah;simp only[Qb,simprocAttr,YN];exact .mk ad.y ⟨by rw[aa];rw[LP]at ac;exact ac,ad⟩
   | true=>
    rw[aR,Le (by simp)]at aa
    -- the last two ways,behind what is told
    have bp:∀ (pre:List Ld) (Hx:Qa) (A:Env),W=pre++(Xr mid 4 [Qn 0 4 (WY m.b)] m++(if(m.b.n==4)=true then[] else[GP mid m.b 1 m.d]))->R pre.length Hx->CK Own H2 Hx->A 0=.func (.yield l) #[] #[]->A 1=.P bm->A 2=.P bi->A 5=.Z (WY m.b)->
      Qm Pg Gy ⟨Rt Pg Tryz.f253 H λu H'=>R W.length H'∧CK Own H H',exK 0 (Rt Pg Tryz.f253 H λu H'=>R W.length H'∧CK Own H H') X4⟩ (Rt Pg Tryz.f253 H λu H'=>R W.length H'∧CK Own H H') A Hx:=by
     intro pre Hx A aq aD au bx r1 r2 bZ;have ax:=au.w;have aX:Hx.get bm=some (.C m.cells 48):=by rw[au.keep _ (ab.lt aj) br];exact aj
     have aW:Hx.get bi=some (.C [.Z mid] 3):=by rw[au.keep _ (ab.lt an) bq];exact an
     have aY:=aX;simp only[Mm.cells]at aY;have cf:=ax.lt aX;have cg:=ax.lt aW;simp only[Gy,Qb,simprocAttr,bx,r1,r2,bZ,aW];refine⟨by simp[Qp,Ab.plain],by omega,?_⟩;refine(Yq 0 4 _ (by decide) (by decide) aS Hx).w ?_;rintro _ Hx _ _ ⟨rfl,rfl⟩;have bV:¬bm=Hx.y:=by omega
     simp only[Qb,simprocAttr,bV,r1,aY];have ae:=(Ext.refl Hx).push (.C [.int .u8 (Qn 0 4 (WY m.b))] 5);have aw:=ax.push (.C [.int .u8 (Qn 0 4 (WY m.b))] 5);have aC:=Qqx Hx (Qn 0 4 (WY m.b));obtain⟨aO,aM⟩:=q.ext _ _ _ aD ax ae;have aQ:=(aE.trans au).trans (q.ck aD ax ae aw);refine⟨λ_ _=>rfl,by simp[Qp,Ab.plain],?_⟩;generalize Hx.push _=H4 at *;have bO:∀i w,(Xr mid 4 [Qn 0 4 (WY m.b)] m)[i]? = some w->W[pre.length+i]? = some w:=λi w h=>by
      have hi:=(Lk.1 h).1;rw[aq,LR (Ro _ _),NL,LY hi];exact h
     refine(Qqw q mid 4 av (by decide) (sib:=[Qn 0 4 (WY m.b)]) (by simp) m ar pre.length (by have:=am.y;have:=au.y;have:=ae.y;omega) aO aC (λid ⟨o,n,c,e⟩ h=>by cases e;have:=q.low _ _ _ aD (aM _ h);omega) bO).w ?_;rintro _ H6 aG ap ⟨rfl,ac,ah⟩;have ad:=aQ.trans ah;have bj:=(au.trans (q.ck aD ax ae aw)).trans ah;have aI:H6.get bm=some (.C m.cells 48):=by rw[bj.keep _ (ab.lt aj) br];exact aj
     have b7:H6.get bi=some (.C [.Z mid] 3):=by rw[bj.keep _ (ab.lt an) bq];exact an
     simp only[Mm.cells]at aI;simp only[QcK,Qb,simprocAttr,r1,aI];cases az:m.b.n==4 with
     | true=>
      rw[az,Lc rfl,Na]at aq;simp only[Qb,simprocAttr,YN];exact .mk ad.y ⟨by rw[aq,Lh];exact ac,ad⟩
     | false=>
      rw[az,Le (by simp)]at aq;simp only[Qb,simprocAttr,bx,r1,r2,aI,b7];refine(QiT mid m.b 1 m.d av (λ_=>rfl) ar H6).w ?_;rintro cp H8 _ bS ⟨bQ,aT⟩;obtain⟨bB,b9⟩:=q.ext _ _ _ ac ap aT;have bE:=ad.trans (q.ck ac ap aT bS);simp only[Qb,simprocAttr,QaR];have bI:W[pre.length+(Xr mid 4 [Qn 0 4 (WY m.b)] m).length]? = some (GP mid m.b 1 m.d):=by
       rw[aq,LR (Ro _ _),NL,LR (Lb _),BJ];rfl
      refine QhN (q.go _ _ H6 H8 _ bI bB ac ap bQ (by have:=ad.y;omega) aT b9) ?_;rintro _ H9 ch cj ⟨rfl,bC,bJ⟩;have bh:=bE.trans bJ;simp only[Qb,simprocAttr,YN];refine .mk bh.y ⟨?_,bh⟩;have:W.length=pre.length+(Xr mid 4 [Qn 0 4 (WY m.b)] m).length+1:=by rw[aq];simp only[Lh,Lo,L9];omega
      rw[this];exact bC
    simp only[QcL,Qb,simprocAttr];cases az:WY m.b==4 with
    | true=>
     rw[az,Lc rfl]at aa;simp only[Qb,simprocAttr];refine bp [] H2 _ aa ag (q.ck ag ab (.refl _) ab) ?_ ?_ ?_ ?_
     all_goals simp only[Qd,simprocAttr]
    | false=>
     rw[az,Le (by simp)]at aa;simp only[Qb,simprocAttr,ao,an];refine(Qqw q mid (WY m.b) av aS (sib:=[]) (by simp) m ar 0 (by have:=am.y;omega) ag (Hs:=H2) (.inl ⟨rfl,rfl,rfl⟩) (λid ⟨o,n,c,e⟩=>by cases e) (λi w h=>by
      have hi:=(Lk.1 h).1;rw[aa,LP,LY hi];exact h)).w ?_
     rintro _ H6 aG ap ⟨rfl,ac,ah⟩;simp only[Qb,simprocAttr];rw[LP]at ac;refine bp _ H6 _ aa ac ah ?_ ?_ ?_ ?_
     all_goals simp only[Qd,simprocAttr]
end
def ldC (ss:List Value)(ws:List Ld):List Value:=(ss.zip ws).flatMap λp=>[p.1,.Z p.2.x,.Z p.2.h]
def QtW:∀ (ss:List Value) (ws:List Ld),ss.length=ws.length->(ldC ss ws).length=ws.length * 3
 | [],[],_=>rfl
 | s::ss,w::ws,h=>by
  have:=QtW ss ws (by simpa using h);unfold ldC at *;simp only[BF,Ba,Lh,Lo,L9,this];omega
def QDx (ss:List Value)(ws:List Ld)(h:ss.length=ws.length)(s:Value)(w:Ld):ldC (ss++[s]) (ws++[w])=ldC ss ws++[s,.Z w.x,.Z w.h]:=by
 unfold ldC;rw[List.zip_append h,Bm];rfl
structure Yb (e:TypeId) (H0 H:Qa) (v:Value) (ws:List Ld):Prop where
 it:∃ss:List Value,ss.length=ws.length∧Gx 3 e H0 H v ws.length (ldC ss ws)∧∀ (j:Nat) s w,ss[j]? = some s->ws[j]? = some w->Gx 1 5 H0 H s w.b.length (bys w.b)
def Yb.nil (e:TypeId)(H0 H:Qa):Yb e H0 H (.slice none 0 0) []:=⟨[],rfl,.inl ⟨rfl,rfl,rfl⟩,λj s w h=>by simp at h⟩
def Yb.go {e:TypeId}{H0 H H':Qa}{v:Value}{ws:List Ld}(h:Yb e H0 H v ws)(q:H.Wf)(hx:Ext H H'):Yb e H0 H' v ws:=by
 obtain⟨ss,aa,ab,ac⟩:=h.it;exact⟨ss,aa,ab.go q hx,λj s w ad ae=>(ac j s w ad ae).go q hx⟩
def Yb.slc {e:TypeId}{H0 H:Qa}{v:Value}{ws:List Ld}(h:Yb e H0 H v ws):∃a c,v=.slice a ws.length c:=by
 obtain⟨ss,aa,q,ab⟩:=h.it;exact q.slc
def Yb.down {e:TypeId}{H0 H1 H:Qa}{v:Value}{ws:List Ld}(h:Yb e H1 H v ws)(hx:H0.y<=H1.y):Yb e H0 H v ws:=by
 obtain⟨ss,q,aa,ab⟩:=h.it;exact⟨ss,q,aa.down hx,λj s w ac ad=>(ab j s w ac ad).down hx⟩
def Yb.keep {e:TypeId}{H0 H H':Qa}{v:Value}{ws:List Ld}(h:Yb e H0 H v ws)(ad:∀id,H0.y<=id->(inB v id∨∃cs,H.get id=some (.C cs 5))->H'.get id=H.get id):Yb e H0 H' v ws:=by
 obtain⟨ss,ae,q,ag⟩:=h.it;refine⟨ss,ae,?_,λj s w ah ai=>?_⟩
 ·rcases q with q | ⟨b,c,rfl,aa,ab,ac⟩;·exact .inl q
  exact .inr ⟨b,c,rfl,aa,by rw[ad b aa (.inl ⟨_,_,_,rfl⟩)];exact ab,ac⟩
 rcases ag j s w ah ai with q | ⟨b,c,rfl,aa,ab,ac⟩;·exact .inl q
 exact .inr ⟨b,c,rfl,aa,by rw[ad b aa (.inr ⟨_,ab⟩)];exact ab,ac⟩
def Qzy {e bytes:Nat}(ar:e≠5){H0 H:Qa}{v s:Value}{w:Ld}{ws:List Ld}{ss:List Value}{k:Value->Qa->Prop}{x:Value}(ah:ss.length=ws.length)(ae:Gx 3 e H0 H v ws.length (ldC ss ws))(ap:∀ (j:Nat) s w,ss[j]? = some s->ws[j]? = some w->Gx 1 5 H0 H s w.b.length (bys w.b))(hx:Ext H0 H)(am:H.Wf)(ak:Gx 1 5 H0 H s w.b.length (bys w.b))(az:Zx 3 x H=some (1,[s,.Z w.x,.Z w.h]))(aq:(ws.length+1) * bytes<=140737488355328)(av:ws.length+1<=9223372036854775807)
  (h:∀ad H',(ss++[s]).length=(ws++[w]).length->Gx 3 e H0 H' ad (ws++[w]).length (ldC (ss++[s]) (ws++[w]))->(∀ (j:Nat) ag w',(ss++[s])[j]? = some ag->(ws++[w])[j]? = some w'->Gx 1 5 H0 H' ag w'.b.length (bys w'.b))->GK v ad H0 H H'->k ad H'):QfY e 3 bytes v x H k:=by
 have ax:([s,.Z w.x,.Z w.h]:List Value).all (·.oneCell')=true:=by
  obtain⟨a,c,rfl⟩:=ak.slc;rfl
 refine V6 ae hx am az ax rfl aq av ?_;intro ad H' au aj;refine h ad H' (by simp[ah]) ?_ (λj ag w' q ab=>?_) aj;·rw[QDx _ _ ah,Lh];exact au
 have aw:∀id c',H.get id=some (.C c' 5)->¬inB v id:=λid c' ai hi=>by
  obtain⟨o,aA,c,rfl⟩:=hi;rcases ae with⟨h,_,_⟩ | ⟨b,c,h,an,ac,ao⟩;·cases h
  cases h;rw[ac]at ai;cases ai;exact ar rfl
 have key:∀ {s:Value} {bs:List Int},Gx 1 5 H0 H s bs.length (bys bs)->Gx 1 5 H0 H' s bs.length (bys bs):=λay=>by
  rcases ay with ae | ⟨b,c,rfl,an,ac,ao⟩;·exact .inl ae
  exact .inr ⟨b,c,rfl,an,by rw[aj.keep b (am.lt ac) (aw b _ ac)];exact ac,ao⟩
 rcases Dj j ss.length with aa | aa | aa;·rw[LY aa]at q;rw[LY (by omega)]at ab;exact key (ap j ag w' q ab)
 ·rw[LR (by omega)]at q ab;rw[aa,BJ]at q;rw[aa,ah,BJ]at ab;cases q;cases ab;exact key ak
 have:=(Lk.1 q).1;simp at this;omega
def QIO {e bytes:Nat}(ae:e≠5){H0 H:Qa}{v s:Value}{w:Ld}{ws:List Ld}{k:Value->Qa->Prop}{x:Value}(ag:Yb e H0 H v ws)(hx:Ext H0 H)(ak:H.Wf)(ai:Gx 1 5 H0 H s w.b.length (bys w.b))(aj:Zx 3 x H=some (1,[s,.Z w.x,.Z w.h]))(ad:(ws.length+1) * bytes<=140737488355328)(ah:ws.length+1<=9223372036854775807)
  (h:∀q H',Yb e H0 H' q (ws++[w])->GK v q H0 H H'->k q H'):QfY e 3 bytes v x H k:=by
 obtain⟨ss,aa,ab,ac⟩:=ag.it;exact Qzy ae aa ab ac hx ak ai aj ad ah λq H' a b c d=>h q H' ⟨_,a,b,c⟩ d
def Inc (ss:List Value)(U:Nat):Prop:=ss.Pairwise (λs q=>∀a b,inB s a->inB q b->a<b)∧∀s∈ss,∀a,inB s a->a<U
def Inc.mono {ss:List Value}{U U':Nat}(h:Inc ss U)(ab:U<=U'):Inc ss U':=⟨h.1,λs aa a q=>N5 (h.2 s aa a q) ab⟩
def Inc.snoc {ss:List Value}{U U':Nat}(h:Inc ss U)(ad:U<=U'){s:Value}(aa:∀a,inB s a->U<=a∧a<U'):Inc (ss++[s]) U':=by
 refine⟨List.pairwise_append.2 ⟨h.1,Bw _ _,λx hx y ac a b q ab=>?_⟩,λx hx a q=>?_⟩;·cases Sa.1 ac;have:=h.2 x hx a q;have:=(aa b ab).1;omega
 rcases LI.1 hx with hx | hx;·have:=h.2 x hx a q;omega
 cases Sa.1 hx;exact(aa a q).2
structure LsU (e:TypeId) (H0 H:Qa) (v:Value) (ws:List Ld) (U:Nat):Prop where
 it:∃ss:List Value,ss.length=ws.length∧Gx 3 e H0 H v ws.length (ldC ss ws)∧(∀ (j:Nat) s w,ss[j]? = some s->ws[j]? = some w->Gx 1 5 H0 H s w.b.length (bys w.b))∧Inc ss U
section
variable {e:TypeId} {H0 H H' H1:Qa} {v:Value} {ws:List Ld} {U U':Nat}
def LsU.ls (h:LsU e H0 H v ws U):Yb e H0 H v ws:=by
 obtain⟨ss,q,aa,ab,_⟩:=h.it;exact⟨ss,q,aa,ab⟩
def LsU.nil (e:TypeId)(H0 H:Qa)(U:Nat):LsU e H0 H (.slice none 0 0) [] U:=⟨[],rfl,.inl ⟨rfl,rfl,rfl⟩,λj s w h=>by simp at h,List.Pairwise.nil,λs h=>by cases h⟩
def LsU.mono (h:LsU e H0 H v ws U)(ad:U<=U'):LsU e H0 H v ws U':=by
 obtain⟨ss,q,aa,ab,ac⟩:=h.it;exact⟨ss,q,aa,ab,ac.mono ad⟩
def LsU.of (h:LsU e H0 H v ws U)(q:∀ {size e v n cs},Gx size e H0 H v n cs->Gx size e H1 H' v n cs):LsU e H1 H' v ws U:=by
 obtain⟨ss,aa,ab,ac,ad⟩:=h.it;exact⟨ss,aa,q ab,λj s w a b=>q (ac j s w a b),ad⟩
def LsU.go (h:LsU e H0 H v ws U)(q:H.Wf)(hx:Ext H H'):LsU e H0 H' v ws U:=h.of λg=>g.go q hx
def LsU.down (h:LsU e H1 H v ws U)(hx:H0.y<=H1.y):LsU e H0 H v ws U:=h.of λg=>g.down hx
end
def Qzz {e bytes:Nat}(ag:e≠5){H0 H:Qa}{v s:Value}{w:Ld}{ws:List Ld}{U U':Nat}{k:Value->Qa->Prop}{x:Value}(ah:LsU e H0 H v ws U)(an:U<=U')(am:∀a,inB s a->U<=a∧a<U')(hx:Ext H0 H)(ao:H.Wf)(aj:Gx 1 5 H0 H s w.b.length (bys w.b))(ak:Zx 3 x H=some (1,[s,.Z w.x,.Z w.h]))(ae:(ws.length+1) * bytes<=140737488355328)(ai:ws.length+1<=9223372036854775807)
  (h:∀q H',LsU e H0 H' q (ws++[w]) U'->GK v q H0 H H'->k q H'):QfY e 3 bytes v x H k:=by
 obtain⟨ss,aa,ab,ac,ad⟩:=ah.it;exact Qzy ag aa ab ac hx ao aj ak ae ai λq H' a b c d=>h q H' ⟨_,a,b,c,ad.snoc an am⟩ d
def clR (e:TypeId)(Hb:Qa)(cB lB:Nat)(eC:TypeId)(bl:Blk)(W:List Ld)(j:Nat)(H':Qa):Prop:=
 H'.get lB=some bl∧Hb.y<=H'.y∧(∀id,id<Hb.y->id≠cB->id≠lB->H'.get id=Hb.get id)∧∃v,H'.get cB=some (.C [v] eC)∧Yb e Hb H' v (W.take j)∧∀id,inB v id->id<H'.y∧Hb.y<=id
def clO (cB lB:Nat)(eC:TypeId)(H:Qa)(id:Nat):Prop:=id=cB∨id=lB∨∃v,H.get cB=some (.C [v] eC)∧inB v id
def QF2 {e:TypeId}{Hb:Qa}{cB lB:Nat}(aj:cB<Hb.y)(ak:lB<Hb.y){eC:TypeId}{bl:Blk}{W:List Ld}{j:Nat}{H1 H2:Qa}(h:clR e Hb cB lB eC bl W j H1)(ag:H1.Wf)(hx:Ext H1 H2):clR e Hb cB lB eC bl W j H2∧∀id,clO cB lB eC H2 id->clO cB lB eC H1 id:=by
 obtain⟨aa,ai,ab,v,ac,ad,ae⟩:=h;have am:=hx.y;have q:=hx.get cB (by omega);refine⟨⟨by rw[hx.get lB (by omega)];exact aa,by omega,λid a b c=>by rw[hx.get id (by omega)];exact ab id a b c,v,by rw[q];exact ac,ad.go ag hx,λid hi=>?_⟩,λid hi=>?_⟩;·have:=ae id hi;exact⟨by omega,this.2⟩
 rcases hi with h | h | ⟨ah,h,hi⟩;·exact .inl h
 ·exact .inr (.inl h)
 exact .inr (.inr ⟨ah,by rw[<- q];exact h,hi⟩)
def QF3 {e:TypeId}{Hb:Qa}{cB lB:Nat}(ag:cB<Hb.y)(ah:lB<Hb.y){eC:TypeId}{bl:Blk}{W:List Ld}{j:Nat}{H1:Qa}(h:clR e Hb cB lB eC bl W j H1){id:Nat}(hi:clO cB lB eC H1 id):id<H1.y:=by
 obtain⟨ab,ac,ad,v,q,ae,aa⟩:=h;rcases hi with rfl | rfl | ⟨ai,h,hi⟩;·omega
 ·omega
 rw[q]at h;cases h;exact(aa id hi).1
def Qwd (f:FuncId)(aN:entered Pg f=true)(ys:List Value)(W:List Ld)(bo:W.length<=1000)(H:Qa)
  (aP:∀ (l:Nat) (R:Nat->Qa->Prop) (Own:Qa->Nat->Prop) (H':Qa),Cns H'.y l W LdV R Own->R 0 H'->Ext H H'->(∀id,id<H.y->¬Own H' id)->Qe Pg f ([.func (.yield l) #[] #[]]++ys) H' λu H2=>R W.length H2∧CK Own H' H2):
  Qe Pg 252 [.slice none 0 0,.func (.func f) #[] ys.toArray] H λv H'=>Yb 159 H H' v W∧Ext H H':=by
 refine Ju λaW=>?_;simp only[Xx,Qb,simprocAttr];generalize ae:H.push _=H1;obtain⟨eC,aF⟩:∃eC,H1.get H.y=some (.C [.slice none 0 0] eC):=⟨_,by rw[<- ae,Qc,Lc rfl]⟩;have ba:Ext H H1:=by rw[<- ae];exact(Ext.refl H).push _
 have aX:H1.Wf:=by rw[<- ae];exact aW.push _
 have aR:H1.y=H.y+1:=by rw[<- ae];rfl
 clear ae;simp only[Qd,simprocAttr,Qez];rw[Qpo f [] ys];intro L aL;refine⟨aN,?_⟩;have aA:Ext H (H1.push (L none)):=ba.push _;have bx:(H1.push (L none)).y=H.y+2:=by rw[Qf,aR]
 have ar:(H1.push (L none)).get H.y=some (.C [.slice none 0 0] eC):=by rw[Qc,Le (by omega)];exact aF
 have aH:(H1.push (L none)).get H1.y=some (L none):=by rw[Qc,Lc rfl]
 have b9:=aX.push (L none);generalize H1.push (L none)=Hb at *;have av:H.y<Hb.y:=by omega
 have ax:H1.y<Hb.y:=by omega
 refine(aP H1.y (clR 159 Hb H.y H1.y eC (L none) W) (clO H.y H1.y eC) Hb ⟨?_,?_,?_⟩ ?_ aA ?_).w ?_;·exact λj Ha Hc h aZ hx=>QF2 av ax h aZ hx
 ·exact λj Ha id h hi=>QF3 av ax h hi
 ·rintro j w H0' H1' bC aw aK _ _ ⟨s,rfl,aS⟩ aM bA bn ap;obtain⟨an,aI,ao,v,ad,ai,aJ⟩:=aK;refine aL H1.y _ H1' _ an rfl ?_ ap;have bq:=(Lk.1 aw).1;have az:Gx 1 5 Hb H1' s w.b.length (bys w.b):=aS.down aM
  -- the loop's QuH is taken away while its body runs
  have ab:∀id,id≠H1.y->(H1'.kill H1.y).get id=H1'.get id:=λid aa=>by rw[WE,Le aa]
  have ay:(H1'.kill H1.y).y=H1'.y:=rfl;have aq:(H1'.kill H1.y).Wf:=ap.kill _;have k5:=(ab H.y (by omega)).trans ad;have k6:Yb 159 Hb (H1'.kill H1.y) v (W.take j):=ai.keep λid aa _=>ab id (by omega);have ks:Gx 1 5 Hb (H1'.kill H1.y) s w.b.length (bys w.b):=az.ext λid aa=>ab id (by have:=az.low ap aa;omega);have k3:∀id,id<Hb.y->id≠H.y->id≠H1.y->(H1'.kill H1.y).get id=Hb.get id:=λid a b c=>(ab id c).trans (ao id a b c);generalize bm:H1'.kill H1.y=Hk at *;obtain⟨a,c,rfl⟩:=ks.slc;obtain⟨ak,am,rfl⟩:=k6.slc;have bg:¬H.y=Hk.y:=by omega
  simp only[Qjg,Qmc,Qb,simprocAttr,bg,k5];generalize ag:Qa.push (Qa.set (Qa.push Hk _) _ _) _=H5;have ah:Ext Hk H5:=by rw[<- ag];exact(((Ext.refl Hk).push _).set (Lb _) _).push _
  have aY:H5.Wf:=by rw[<- ag];exact((aq.push _).set (b0:=.C [.slice none 0 0,.Z 0,.Z 0] 159) (by rw[Qc,Lc rfl]) _).push _
  have aG:H5.get (Hk.y+1)=some (.C [.slice a w.b.length c,.Z w.x,.Z w.h] 159):=by rw[<- ag,Qc,Lc (by rw[QR,Qf])]
  have bw:H5.y=Hk.y+2:=by rw[<- ag,Qf,QR,Qf]
  clear ag;have aT:Zx 3 (.S (Hk.y+1) 1 1) H5=some (1,[.slice a w.b.length c,.Z w.x,.Z w.h]):=by
   rw[Gg aG (by decide) (by simp)];rfl
  have br:(W.take j).length<=1000:=by rw[Sb];omega
  -- what was there when the loop began may have changed at its variable and its QuH alone;the rest of the list is new
  have bc:∃Hz:Qa,Ext Hz H5∧Hz.y=Hb.y:=⟨⟨Hb.y,H5.tr⟩,⟨by show Hb.y<=H5.y;omega,λid _=>rfl⟩,rfl⟩;obtain⟨Hz,aC,b7⟩:=bc;have aQ:Yb 159 Hz H5 (.slice ak (W.take j).length am) (W.take j):=(k6.go aq ah).down (by omega);have aU:Gx 1 5 Hz H5 (.slice a w.b.length c) w.b.length (bys w.b):=(ks.go aq ah).down (by omega);refine QIO (by decide) aQ aC aY aU aT (by omega) (by omega) ?_;intro bj H6 aj ac;obtain⟨aE,c',rfl⟩:=aj.slc;have aV:W.take (j+1)=W.take j++[w]:=by rw[Nv,aw];rfl
  rw[<- aV]at aj ac ⊢;have au:∀id,id<Hb.y->H6.get id=H5.get id:=λid aa=>(ac.x.get id (by omega)).trans (aC.get id (by omega)).symm;have bd:H6.get H.y=some (.C [.slice ak (W.take j).length am] eC):=by rw[au _ (by omega),ah.get _ (by omega)];exact k5
  have bz:=ac.y;simp only[Qb,simprocAttr,Qjf,bd];refine⟨by omega,⟨by rw[Qj,Lc rfl],by rw[QR,QR];omega,λid p q r=>?_,.slice aE (W.take (j+1)).length c',?_,?_,λid hi=>?_⟩,⟨by rw[QR,QR];omega,?_,λid p q=>?_,λid hi=>?_⟩⟩;·rw[Qj,Le r,Qj,Le q,au _ (by omega),ah.get _ (by omega)];exact k3 id p q r
  ·rw[Qj,Le (by omega),Qj,Lc rfl]
  ·refine Yb.keep (H0:=Hb) (H:=H6) (aj.down (by omega)) λid aa _=>?_;rw[Qj,Le (by omega),Qj,Le (by omega)]
  ·obtain⟨ss,_,aO,_⟩:=aj.it;have:=aO.low ac.w hi;rw[QR,QR];exact⟨this.2,by omega⟩
  ·intro id aa;rw[QR,QR]at aa;rw[Qj,Le (by omega),Qj,Le (by omega)];exact ac.w id aa
  ·have bh:id≠H.y:=λh=>q (.inl h);have aD:id≠H1.y:=λh=>q (.inr (.inl h));have bi:¬inB (.slice ak (W.take j).length am) id:=λh=>q (.inr (.inr ⟨_,ad,h⟩));rw[Qj,Le aD,Qj,Le bh,ac.keep id (by omega) bi,ah.get _ (by omega),ab id aD]
  rcases hi with h | h | ⟨bB,h,hi⟩;·exact .inl (.inl h)
  ·exact .inl (.inr (.inl h))
  rw[Qj,Le (by omega),Qj,Lc rfl]at h;cases h;rcases ac.new id hi with h | h;·exact .inl (.inr (.inr ⟨_,ad,h⟩))
  exact .inr (by omega)
 ·exact⟨aH,Lb _,λ_ _ _ _=>rfl,_,ar,Yb.nil _ _ _,λid ⟨o,n,c,h⟩=>by cases h⟩
 ·rintro id aa (h | h | ⟨bj,h,hi⟩);·omega
  ·omega
  rw[ar]at h;cases h;obtain⟨o,n,c,h⟩:=hi;cases h
 rintro u H2 bu b8 ⟨⟨an,aI,ao,v,ad,ai,aJ⟩,bp⟩;refine⟨none,an,?_⟩;have ab:∀id,id≠H1.y->(H2.kill H1.y).get id=H2.get id:=λid aa=>by rw[WE,Le aa]
 have ay:(H2.kill H1.y).y=H2.y:=rfl;have k5:=(ab H.y (by omega)).trans ad;rw[Nr]at ai;have k6:Yb 159 Hb (H2.kill H1.y) v W:=ai.keep λid aa _=>ab id (by omega);have aB:Ext H (H2.kill H1.y):=⟨by rw[ay];omega,λid aa=>by rw[ab id (by omega),ao id (by omega) (by omega) (by omega)];exact aA.get id aa⟩;generalize H2.kill H1.y=H3 at *;simp only[Qb,simprocAttr,Qmb,k5,Jd];exact .mk aB.y ⟨k6.down (by omega),aB⟩
def QBg (f:FuncId)(aa:entered Pg f=true)(ys:List Value)(W:List Ld)(q:W.length<=1000)(H:Qa)
  (ab:∀ (l:Nat) (R:Nat->Qa->Prop) (Own:Qa->Nat->Prop) (H':Qa),Cns H'.y l W LdV R Own->R 0 H'->Ext H H'->(∀id,id<H.y->¬Own H' id)->Qe Pg f ([.func (.yield l) #[] #[]]++ys) H' λu H2=>R W.length H2∧CK Own H' H2):
  Qe Pg 193 [.func (.func f) #[] ys.toArray] H λv H'=>Yb 159 H H' v W∧Ext H H':=by
 refine Qbu λad=>?_;simp only[Z9,Qb,simprocAttr];refine(Qwd f aa ys W q H ab).w ?_;rintro v H1 _ _ ⟨ac,hx⟩;simp only[Qb,simprocAttr,QaI];exact .mk hx.y ⟨ac,hx⟩
def Qec (mid:Int)(a:Ar):List Ld×Int:=
 if(decide (mid<0)||decide (mid>7))=true then([],5)
 else if(QJ a==0)=false then([],QJ a)
 else if(a.k==1)=true then([⟨[Qn 3 mid (WY a.r)],0,XS a.r⟩],0)
 else if(a.k==2)=true then(Y3 mid (QH a.m),0)
 else([],2)
def QjU (mid rm:Int)(sib:List Int)(m:Mm):(Xr mid rm sib m).length<=3:=by
 have h:∀md,(Zh mid rm sib m md).length<=1:=λmd=>by unfold Zh;split<;>simp
 have e:Xr mid rm sib m=Zh mid rm sib m 0++(Zh mid rm sib m 1++(Zh mid rm sib m 2++[])):=rfl;have q:=h 0;have aa:=h 1;have ab:=h 2;rw[e];simp only[Lh,L9];omega
def Qwe (mid:Int)(m:Mm):(Y3 mid m).length<=8:=by
 unfold Y3;split;·simp
 split;·simp
 split;·have:=QjU mid 4 [Qn (ZF m.sc) (WY m.i) (WY m.b)] m;omega
 have q:=QjU mid (WY m.b) [] m;have aa:=QjU mid 4 [Qn 0 4 (WY m.b)] m;simp only[Lh];split<;>split<;>simp<;>omega
def QtX (mid:Int)(m:Mm)(H:Qa):Qe Pg 194 [.Z mid,.agg m.cells.toArray] H λu H'=>∃aa q,u=.func (.func 253) #[] #[.P aa,.P q]∧Ext H H'∧H.y<=aa∧H.y<=q∧H'.get aa=some (.C m.cells 48)∧H'.get q=some (.C [.Z mid] 3):=by
 refine Qrk λac=>?_;have ab:(Value.agg m.cells.toArray).cells.toList=m.cells:=rfl;simp only[QiB,ab,Qb,simprocAttr,QpH];have hx:Ext H ((H.push (.C [.Z mid] 3)).push (.C m.cells 48)):=((Ext.refl H).push _).push _;exact .mk hx.y ⟨_,_,rfl,hx,by omega,Lb _,by rw[Qc,Lc (by rw[Qf])],by rw[Qc,Le (by rw[Qf];omega),Qc,Lc rfl]⟩
def QDy {m:Mm}(h:Qv m=0):-2147483648<=m.d∧m.d<=2147483647:=by
 unfold Qv at h;split at h;·simp at h
 rename_i q;simp at q;omega
def QsC {m:Mm}(h:Qv m=0)(hi:isR m.i 0 0=false):WF m.sc=true:=by
 unfold Qv at h;split at h;·simp at h
 split at h;·simp at h
 split at h;·simp at h
 split at h;·simp at h
 split at h;·rename_i q;rw[q]at hi;cases hi
 split at h;·simp at h
 rename_i aa;cases e:WF m.sc with
 | true=>rfl
 | false=>simp[e]at aa
def QDz (m:Mm):(QH m).d=m.d:=by unfold QH;split<;>(try rfl);split<;>(try rfl);split<;>rfl
def QBh {m:Mm}(h:Qv m=0)(hi:isR (QH m).i 0 0=false):WF (QH m).sc=true:=by
 unfold QH at hi ⊢;split;·rename_i q;rw[Lc q]at hi;exact QsC h hi
 rename_i q;rw[Le q]at hi;split;·rename_i aa;rw[Lc aa]at hi;cases hi
 rename_i aa;rw[Le aa]at hi;have ab:isR m.i 0 0=false:=by
  cases e:isR m.i 0 0 with
  | false=>rfl
  | true=>simp[e]at q
 have:=QsC h ab;split<;>exact this
def Qwf (mid:Int)(a:Ar)(H:Qa):Qe Pg 142 [.Z mid,.agg a.cells.toArray] H λu H'=>∃v,u=.tuple #[v,.Z (Qec mid a).2]∧Yb 159 H H' v (Qec mid a).1∧Ext H H':=by
 refine Qtg λbo=>?_;have br:=KD a;have aS:=Vn a.r;have aT:=QbR a.r;have aD:=Qg8 a.m;have ar:Zf a.m=if Qv a.m=0 then(QH a.m,0) else(Wa,Qv a.m):=rfl
 have aG:∀h:(a.k==2)=true,QJ a=Qv a.m:=λh=>by
  have:a.k=2:=by simpa using h
  simp[QJ,this]
 have aI:=Qdb a.r;obtain⟨w,q⟩:∃w,w=Qec mid a:=⟨_,rfl⟩;rw[<- q];unfold Qec at q;have aZ:(Value.agg a.cells.toArray).cells.toList=a.cells:=rfl;have aA:=(Ext.refl H).push (.C a.cells 50);have bA:=bo.push (.C a.cells 50);have av:(H.push (.C a.cells 50)).get H.y=some (.C a.cells 50):=by rw[Qc,Lc rfl]
 have b9:(H.push (.C a.cells 50)).y=H.y+1:=rfl;have bw:=av;have aY:a.cells.take 11=a.cells:=rfl;simp only[QkY,aZ,QbZ,simprocAttr];generalize H.push (.C a.cells 50)=H1 at *;have aF:∀ (A:Env),w=([],5)->A 4=.slice none 0 0->A 5=.Z 5->Rt Pg Tryz.f142 H (λu H'=>∃v,u=.tuple #[v,.Z w.2]∧Yb 159 H H' v w.1∧Ext H H') A H1:=by
  intro A e r4 bu;subst e;simp only[J8,r4,bu];exact .mk aA.y ⟨_,rfl,Yb.nil _ _ _,aA⟩
 have bi:(decide (mid<0)||decide (mid>7))=false->∀ (A:Env),A 0=.Z mid->A 3=.P H.y->Qm Pg Qbs ⟨Rt Pg Tryz.f142 H (λu H'=>∃v,u=.tuple #[v,.Z w.2]∧Yb 159 H H' v w.1∧Ext H H'),X4⟩ (Rt Pg Tryz.f142 H (λu H'=>∃v,u=.tuple #[v,.Z w.2]∧Yb 159 H H' v w.1∧Ext H H')) A H1:=by
  intro aJ A aV r3;have aK:0<=mid∧mid<8:=by simp at aJ;omega
  rw[aJ,Le (by simp)]at q;simp only[Qbs,Qb,simprocAttr,r3,av,aY];refine⟨Lb _,?_⟩;refine(br H1).w ?_;rintro _ _ aL bB ⟨rfl,k,rfl⟩;simp only[Q8]at aL;have ab:=aA.up aL;have ad:(H1.up k).get H.y=some (.C a.cells 50):=by rw[XB];exact av
  generalize H1.up k=H2 at *;simp only[Qb,simprocAttr];cases au:QJ a==0 with
  | false=>
   rw[au,Lc rfl]at q;subst q;simp only[Qb,simprocAttr,J8];exact .mk ab.y ⟨_,rfl,Yb.nil _ _ _,ab⟩
  | true=>
   rw[au,Le (by simp)]at q;have bd:QJ a=0:=by simpa using au
   obtain⟨bD,⟨am,an⟩,⟨⟨ao,ap⟩,⟨aB,aC⟩,sc,d,sz⟩,n⟩:=a;simp only[Ar.cells,Rg.cells,Mm.cells]at ad aS aT aD;simp only[QgR,Qb,simprocAttr,r3,ad];simp only at q aI ar aG;refine Qg (λh=>?_) (λh=>?_)
   ·rw[h,Lc rfl]at q;simp only[QgO,Qb,simprocAttr,aV,r3,ad];refine(aS H2).w ?_;rintro _ _ ae az ⟨rfl,k3,rfl⟩;simp only[Q8]at ae;have ag:=ab.up ae;have aw:=ad;rw[<- XB H2 k3]at aw;generalize H2.up k3=H3 at *;simp only[Qb,simprocAttr];refine(Yq 3 mid _ (by decide) aK aI H3).w ?_;rintro _ H3 _ _ ⟨rfl,rfl⟩;have aj:=ag.push (.C [.int .u8 (Qn 3 mid (WY ⟨am,an⟩))] 5);have bp:=az.push (.C [.int .u8 (Qn 3 mid (WY ⟨am,an⟩))] 5);have bg:=Qqx H3 (Qn 3 mid (WY ⟨am,an⟩));have bz:=az.lt aw;have bq:¬H.y=H3.y:=by omega
    simp only[Qb,simprocAttr,bq,aw,r3];generalize H3.push _=H4 at *;refine(aT H4).w ?_;rintro _ _ ay ai ⟨rfl,k5,rfl⟩;simp only[Q8]at ay;have ah:=aj.up ay;have bh:=bg.go bp ((Ext.refl H4).up ay);generalize H4.up k5=H5 at *;simp only[Qb,simprocAttr,J8];have b7:=ab.y;have ak:=ah.push (.C [.S H3.y 1 1,.Z 0,.Z (XS ⟨am,an⟩)] 159);have b8:=ag.y;refine .mk ak.y ⟨_,by rw[q],⟨[.S H3.y 1 1],by rw[q];rfl,?_,?_⟩,ak⟩;·rw[q];exact .inr ⟨_,_,rfl,by have:=ah.y;omega,by rw[Qc,Lc rfl];rfl,rfl,.inl rfl⟩
    intro j s w' aN aO;rw[q]at aO;rcases j with _ | j;·cases aN;cases aO;exact(bh.go ai ((Ext.refl H5).push _)).down (by omega)
    simp at aN
   rw[h,Le (by simp)]at q;simp only[QgQ,Qb,simprocAttr];refine Qg (λaa=>?_) (λaa=>?_)
   ·rw[aa,Lc rfl]at q;simp only[QgP,Qb,simprocAttr,r3,ad];have ax:=(aG aa).symm.trans bd;rw[Lc ax]at ar;rw[ar]at aD;refine(aD H2).w ?_;rintro _ _ ae az ⟨rfl,k3,rfl⟩;simp only[Q8]at ae;have ag:=ab.up ae;generalize H2.up k3=H3 at *;generalize aH:QH ⟨⟨ao,ap⟩,⟨aB,aC⟩,sc,d,sz⟩=m at *;have bj:I64 m.d:=by
     have bx:=QDy ax;have ac:=QDz ⟨⟨ao,ap⟩,⟨aB,aC⟩,sc,d,sz⟩;rw[aH]at ac;rw[ac];unfold I64;omega
    have bm:isR m.i 0 0=false->WF m.sc=true:=by
     have ac:=@QBh ⟨⟨ao,ap⟩,⟨aB,aC⟩,sc,d,sz⟩ ax;rw[aH]at ac;exact ac
    simp only[Qb,simprocAttr,LO,aV];generalize aE:Qa.set (Qa.push H3 _) _ _=H4;have aj:Ext H H4:=by rw[<- aE];exact(ag.push _).set (by have:=ag.y;omega) _
    clear aE;have aU:=QtX mid m H4;simp only[Mm.cells]at aU;refine aU.w ?_;rintro _ H5 _ ai ⟨aX,aW,rfl,ah,o1,o2,g1,g2⟩;have aQ:=ai.lt g1;have aR:=ai.lt g2;have bC:=Qwe mid m;simp only[Qb,simprocAttr];refine(QBg 253 (by kernel_rfl) [.P aX,.P aW] (Y3 mid m) (by omega) H5 ?_).w ?_;·intro l R Own H' bc ba hx aM;exact QrI bc (Lb _) aK bj bm ba (by rw[hx.get _ aQ];exact g1) (by rw[hx.get _ aR];exact g2) (aM _ aQ) (aM _ aR)
    rintro v H6 _ _ ⟨bn,ak⟩;have aP:=(aj.trans ah).trans ak;simp only[Qb,simprocAttr,J8];exact .mk aP.y ⟨v,by rw[q],by rw[q];exact bn.down (aj.trans ah).y,aP⟩
   rw[aa,Le (by simp)]at q;subst q;simp only[Qb,simprocAttr,J8];exact .mk ab.y ⟨_,rfl,Yb.nil _ _ _,ab⟩
 cases aq:decide (mid<0) with
 | true=>
  rw[aq,N1,Lc rfl]at q;simp only[Qb,simprocAttr];refine aF _ q ?_ ?_
  all_goals simp only[Qd,simprocAttr]
 | false=>
  cases aa:decide (mid>7) with
  | true=>
   rw[aq,aa,Bd,Lc rfl]at q;simp only[Qb,simprocAttr,aa];refine aF _ q ?_ ?_
   all_goals simp only[Qd,simprocAttr]
  | false=>
   simp only[Qb,simprocAttr,aa];refine bi (by rw[aq,aa];rfl) _ ?_ ?_
   all_goals simp only[Qd,simprocAttr]
def QaN (pre:Int):List Int:=(if pre % 2=1 then[102] else[])++((if pre / 2 % 2=1 then[242] else[])++(if pre / 4 % 2=1 then[243] else[]))
def QbS (pre q:Int):List Int:=QaN pre++(if 0<=q then[64+q] else[])
def QKb:Option (Value×Qa)->Nat
 | some (.tuple xs,_)=>match xs.toList with | .slice (some a) _ _::_=>a.block | _=>0
 | _=>0
def QzA (bs:List Int)(e:Int):Value:=.tuple #[bif bs.isEmpty then .slice none 0 0 else .S Pg.globals.size bs.length (UNK+1),.Z e]
def QzB (r:Option (Value×Qa))(bs:List Int):List Row:=bif bs.isEmpty then[] else[⟨QKb r,bys bs,5,false⟩]
def QDA (f:FuncId)(args:List Value):Option (Value×Qa):=(run Pg noK 2000 5 20).fn f args (Y7 Pg.globals.size [])
def QtZ {f:FuncId}{args:List Value}{bs:List Int}{e:Int}(ac:entered Pg f=true)(ae:args.all X2=true)(h:QpQ Pg.globals.size (QzA bs e) (QzB (QDA f args) bs) (QDA f args)=true)(H:Qa):Qe Pg f args H λu H'=>∃v,u=.tuple #[v,.Z e]∧Gx 1 5 H H' v bs.length (bys bs)∧Ext H H':=by
 have ab:=QCp QDv (tabs:=[]) ac ae rfl h H rfl;intro ad;cases q:bs.isEmpty with
 | true=>
  have ag:bs=[]:=DF.1 q;subst ag;exact⟨_,_,.inl ⟨ac,ab⟩,Lb _,ad,.slice none 0 0,rfl,.inl ⟨rfl,rfl,rfl⟩,.refl _⟩
 | false=>
  have hx:Ext H (H.push (.C (bys bs) 5)):=(Ext.refl H).push _;refine⟨.tuple #[.S H.y bs.length (UNK+1),.Z e],H.push (.C (bys bs) 5),.inl ⟨ac,?_⟩,hx.y,ad.push _,_,rfl,.inr ⟨_,_,rfl,Lb _,by rw[Qc,Lc rfl],by rw[Yn,NH],.inr ⟨rfl,by cases bs with | nil=>cases q | cons=>simp⟩⟩,hx⟩
  by_cases ai:Pg.globals.size<=H.y
  ·have e1:shV Pg.globals.size (H.y - Pg.globals.size) 6 (QzA bs e)=.tuple #[.S H.y bs.length (UNK+1),.Z e]:=by
    have aa:shN Pg.globals.size (H.y - Pg.globals.size) Pg.globals.size=H.y:=by
     unfold shN;have:Nat.blt Pg.globals.size Pg.globals.size=false:=by
      cases ah:Nat.blt Pg.globals.size Pg.globals.size with
      | false=>rfl
      | true=>rw[B5]at ah;omega
     rw[this,Ls];omega
    unfold QzA;rw[q,Ls];show Value.tuple #[.slice (some ⟨shN Pg.globals.size (H.y - Pg.globals.size) Pg.globals.size,0,none⟩) bs.length (UNK+1),.Z e]=_;rw[aa]
   have e2:Qrq Pg.globals.size (QzB (QDA f args) bs) H=H.push (.C (bys bs) 5):=by
    have e3:(bys bs).map (shV Pg.globals.size (H.y - Pg.globals.size) 6)=bys bs:=by
     unfold bys;rw[Ht];rfl
    unfold QzB;rw[q,Ls];show H.push (.C ((bys bs).map (shV Pg.globals.size (H.y - Pg.globals.size) 6)) 5)=_;rw[e3]
   rw[e1,e2]at ab;exact ab
  intro ρ w args' aa _;exfalso;obtain⟨i,hi,_⟩:=aa.glob H.y (by omega);rw[aa.none_next]at hi;cases hi
def Qt0:List (Int×Int):=([0,1,2,3,4,5]:List Int).flatMap λp=>((List.range 17).map fun(k:Nat)=>(p,(k:Int) - 1))
def QDB:(Qt0.all λp=>QpQ Pg.globals.size (QzA (QbS p.1 p.2) 0) (QzB (QDA 201 [.Z p.1,.Z p.2]) (QbS p.1 p.2)) (QDA 201 [.Z p.1,.Z p.2]))=true:=by kernel_rfl
def QBi (pre q:Int)(ab:0<=pre∧pre<=5)(ac:-1<=q∧q<=15)(H:Qa):Qe Pg 201 [.Z pre,.Z q] H λu H'=>∃v,u=.tuple #[v,.Z 0]∧Gx 1 5 H H' v (QbS pre q).length (bys (QbS pre q))∧Ext H H':=by
 have aa:(pre,q)∈Qt0:=by
  unfold Qt0;rw[NF];refine⟨pre,?_,N4.2 ⟨(q+1).toNat,LU.2 (by omega),?_⟩⟩;·simp only[LK,Ns,NN];omega
  have:((q+1).toNat:Int) - 1=q:=by omega
  rw[this]
 exact QtZ (by kernel_rfl) rfl (Li.1 QDB _ aa) H
def QHg (n:Int)(p:Int×Int):Int:=IntKind.i64.wrap (BitVec.ofInt IntKind.i64.bits (IntKind.i64.wrap (n * 2 ^ (min p.2.toNat IntKind.i64.bits))) ||| BitVec.ofInt IntKind.i64.bits p.1).toNat
def QqA (q:List (Int×Int)):Int:=q.foldl QHg 0
def prs (q:List (Int×Int)):List Value:=q.flatMap λp=>[.Z p.1,.Z p.2]
def QzC:∀q:List (Int×Int),(prs q).length=q.length * 2
 | []=>rfl
 | p::q=>by
  have:=QzC q;unfold prs at *;rw[Ba,Lh,this];simp;omega
def QDC:∀ (aa:List (Int×Int)) (i:Nat) (p:Int×Int),aa[i]? = some p->((prs aa).drop (i * 2)).take 2=[.Z p.1,.Z p.2]
 | [],i,p,h=>by simp at h
 | q::aa,0,p,h=>by simp at h;subst h;rfl
 | q::aa,i+1,p,h=>by
  have:=QDC aa i p (by simpa using h);have e:prs (q::aa)=[.Z q.1,.Z q.2]++prs aa:=rfl;rw[e,show(i+1) * 2=2+i * 2 by omega,<- Rc];exact this
def QsD (q:List (Int×Int))(an:∀p∈q,0<=p.2)(ar:q.length<=100){b cap:Nat}{e:TypeId}{ro:Bool}(H:Qa)(ac:H.get b=some (.cells (prs q) e ro)):Qe Pg 260 [.S b q.length cap] H λu H'=>u=.Z (QqA q)∧Ext H H':=by
 refine QxN λad=>?_;have am:=ad.lt ac;simp only[QpL,Qb,simprocAttr];refine Qu (λm A' H'=>∃i:Nat,i<=q.length∧m=q.length - i∧H'.Wf∧Ext H H'∧A' 3=.Z (QqA (q.take i))∧A' 6=.S b q.length cap∧A' 7=.Z q.length∧A' 8=.Z i) q.length ?_ ?_
 ·refine⟨0,L7 _,by omega,ad,.refl _,?_,?_,?_,?_⟩
  all_goals simp only[Qd,simprocAttr]
  all_goals rfl
 rintro m A' H' ⟨i,hi,rfl,aq,hx,r3,ae,ag,r8⟩;simp only[Qb,simprocAttr,ag,r8];refine Qg (λaa=>?_) (λaa=>?_)
 ·have aa:i<q.length:=by have:=Lg aa;omega
  obtain⟨p,ab⟩:∃p,q[i]? = some p:=⟨_,La aa⟩;have ai:=an p (Ln ab);have d1:(0:Int)<=i∧(i:Int)<q.length:=by omega
  have d3:(i:Int).toNat=i:=by omega
  have ah:IntKind.i64.wrap ((i:Int)+1)=((i+1:Nat):Int):=by rw[w64 (by unfold I64;omega)];omega
  have ak:i * 2+2<=(prs q).length:=by rw[QzC];omega
  have aj:H'.get b=some (.cells (prs q) e ro):=by rw[hx.get _ am];exact ac
  have ao:=QDC q i p ab;have ap:QqA (q.take (i+1))=QHg (QqA (q.take i)) p:=by
   unfold QqA;rw[Nv,ab,List.foldl_append];rfl
  simp only[Qb,simprocAttr,r3,ae,r8,d1,d3,aj,ao,ai];refine⟨ak,?_⟩;refine⟨q.length - (i+1),by omega,i+1,by omega,rfl,?_,((hx.push _).set (by have:=hx.y;omega) _),?_,?_,?_,?_⟩;·exact(aq.push _).set (b0:=.C [.Z 0,.Z 0] 274) (by rw[Qc,Lc rfl]) _
  ·rw[ap];simp only[Qd,simprocAttr];rfl
  all_goals simp only[Qd,simprocAttr,ae,ag,ah]
 have aa:i=q.length:=by have:=Ll aa;omega
 subst aa;rw[Nr]at r3;simp only[Qb,simprocAttr,r3,Qvr];exact .mk hx.y ⟨rfl,hx⟩
structure Vx where
 r:Int
 x:Int
 b:Int
 mp:Int
 w:Int
 v:Int
 l:Int
 pre:Int
def Vx.cells (y:Vx):List Value:=[.Z y.r,.Z y.x,.Z y.b,.Z y.mp,.Z y.w,.Z y.v,.Z y.l,.Z y.pre]
structure Vx.Ok (y:Vx):Prop where
 r:0<=y.r∧y.r<2
 x:0<=y.x∧y.x<2
 b:0<=y.b∧y.b<2
 mp:1<=y.mp∧y.mp<4
 w:0<=y.w∧y.w<2
 v:0<=y.v∧y.v<16
 l:0<=y.l∧y.l<2
 pre:y.pre=0∨y.pre=1∨y.pre=2∨y.pre=4
def QbT (n:Int):Int:=if n=1 then 1 else if n=4 then 2 else if n=2 then 3 else 0
def QoO (n:Int):0<=QbT n∧QbT n<4:=by unfold QbT;repeat' (split<;>try omega)
def QlE (n:Int)(H:Qa):Qe Pg 261 [.Z n] H λu H'=>u=.Z (QbT n)∧H'=H:=by
 refine Qrn λq=>?_;simp only[QiD,Qb,simprocAttr];unfold QbT
 repeat' (first
  | (refine Qg (λh=>?_) (λh=>?_)<;>(try simp only[L0,LC,Da]at h)<;>simp only[QbZ,simprocAttr,h,QpM,N3,LN])
  | fail)
 all_goals exact .mk (Lb _) ⟨rfl,rfl⟩
def vb2 (y:Vx):Int:=(1 - y.r) * 128+(15 - y.v) * 8+y.l * 4+QbT y.pre
def vbm (y:Vx):Int:=(1 - y.r) * 128+(1 - y.x) * 64+(1 - y.b) * 32+y.mp
def vbn (y:Vx):Int:=y.w * 128+(15 - y.v) * 8+y.l * 4+QbT y.pre
def Jn (y:Vx):List Int:=[196,vbm y,vbn y]
def QF6:∀r:Fin 2,∀v:Fin 16,∀l:Fin 2,∀p:Fin 4,IntKind.u8.wrap (IntKind.i64.wrap (BitVec.ofInt IntKind.i64.bits (QqA [((r:Nat),1),((v:Nat),4),((l:Nat),1),((p:Nat),2)]) ^^^ BitVec.ofInt IntKind.i64.bits 248).toNat)=(1 - (r:Nat):Int) * 128+(15 - (v:Nat):Int) * 8+(l:Nat) * 4+(p:Nat):=by decide +kernel
def QF7:∀r:Fin 2,∀v:Fin 16,∀l:Fin 2,∀p:Fin 4,IntKind.u8.wrap (IntKind.i64.wrap (BitVec.ofInt IntKind.i64.bits (QqA [((r:Nat),1),((v:Nat),4),((l:Nat),1),((p:Nat),2)]) ^^^ BitVec.ofInt IntKind.i64.bits 120).toNat)=((r:Nat):Int) * 128+(15 - (v:Nat):Int) * 8+(l:Nat) * 4+(p:Nat):=by decide +kernel
def QF8:∀r:Fin 2,∀x:Fin 2,∀b:Fin 2,∀m:Fin 4,IntKind.u8.wrap (IntKind.i64.wrap (BitVec.ofInt IntKind.i64.bits (QqA [((r:Nat),1),((x:Nat),1),((b:Nat),1),((m:Nat),5)]) ^^^ BitVec.ofInt IntKind.i64.bits 224).toNat)=(1 - (r:Nat):Int) * 128+(1 - (x:Nat):Int) * 64+(1 - (b:Nat):Int) * 32+(m:Nat):=by decide +kernel
def QIQ {y:Vx}(h:y.Ok):IntKind.u8.wrap (IntKind.i64.wrap (BitVec.ofInt IntKind.i64.bits (QqA [(y.r,1),(y.v,4),(y.l,1),(QbT y.pre,2)]) ^^^ BitVec.ofInt IntKind.i64.bits 248).toNat)=vb2 y:=by
 have aa:=QoO y.pre;have ab:=h.r;have ac:=h.v;have q:=h.l;have e:=QF6 ⟨y.r.toNat,by omega⟩ ⟨y.v.toNat,by omega⟩ ⟨y.l.toNat,by omega⟩ ⟨(QbT y.pre).toNat,by omega⟩;simp only[Bi ab.1,Bi ac.1,Bi q.1,Bi aa.1]at e;exact e
def QIR {y:Vx}(h:y.Ok):IntKind.u8.wrap (IntKind.i64.wrap (BitVec.ofInt IntKind.i64.bits (QqA [(y.w,1),(y.v,4),(y.l,1),(QbT y.pre,2)]) ^^^ BitVec.ofInt IntKind.i64.bits 120).toNat)=vbn y:=by
 have aa:=QoO y.pre;have ab:=h.w;have ac:=h.v;have q:=h.l;have e:=QF7 ⟨y.w.toNat,by omega⟩ ⟨y.v.toNat,by omega⟩ ⟨y.l.toNat,by omega⟩ ⟨(QbT y.pre).toNat,by omega⟩;simp only[Bi ab.1,Bi ac.1,Bi q.1,Bi aa.1]at e;exact e
def QIS {y:Vx}(h:y.Ok):IntKind.u8.wrap (IntKind.i64.wrap (BitVec.ofInt IntKind.i64.bits (QqA [(y.r,1),(y.x,1),(y.b,1),(y.mp,5)]) ^^^ BitVec.ofInt IntKind.i64.bits 224).toNat)=vbm y:=by
 have ab:=h.r;have hx:=h.x;have q:=h.b;have ac:=h.mp;have aa:0<=y.mp:=by omega
 have e:=QF8 ⟨y.r.toNat,by omega⟩ ⟨y.x.toNat,by omega⟩ ⟨y.b.toNat,by omega⟩ ⟨y.mp.toNat,by omega⟩;simp only[Bi ab.1,Bi hx.1,Bi q.1,Bi aa]at e;exact e
def QqB {y:Vx}(h:y.Ok)(H:Qa):Qe Pg 262 [.agg y.cells.toArray] H λv H'=>Gx 1 5 H H' v 3 (bys (Jn y))∧Ext H H'∧∃a,v=.slice a 3 3:=by
 refine Qvs λaq=>?_;have ab:=QIS h;have ac:=QIR h;unfold Jn;generalize vbm y=zm at *;generalize vbn y=zn at *;have ad:=fun(ao:List (Int×Int)) hp hl (b cap:Nat) e ro (H:Qa)=>QsD (cap:=cap) (b:=b) (e:=e) (ro:=ro) ao hp hl H;obtain⟨r,x,b,mp,w,v,l,pre⟩:=y;simp only at ab ac;simp only[Vx.cells,QnA,Qb,simprocAttr,Nat.reduceMul];generalize q:Qa.push (Qa.push H _) _=H1;have aj:Ext H H1:=by rw[<- q];exact((Ext.refl H).push _).push _
 have g1:H1.get (H.y+1)=some (.C (prs [(r,1),(x,1),(b,1),(mp,5)]) 274):=by rw[<- q,Qc,Lc (by rw[Qf])];rfl
 have ai:H1.get H.y=some (.C [.Z r,.Z x,.Z b,.Z mp,.Z w,.Z v,.Z l,.Z pre] 134):=by rw[<- q,Qc,Le (by rw[Qf];omega),Qc,Lc rfl]
 have ap:H1.y=H.y+2:=by rw[<- q];rfl
 clear q;refine(ad [(r,1),(x,1),(b,1),(mp,5)] (by simp) (by simp) _ _ _ _ H1 g1).w ?_;rintro _ H2 _ ar ⟨rfl,ae⟩;have an:=(ae.get H.y (by omega)).trans ai;simp only[Qb,simprocAttr,an];refine⟨by simp[Qp,Ab.plain],by simp[Qp,Ab.plain],by simp[Qp,Ab.plain],?_⟩;refine(QlE pre H2).w ?_;rintro _ H2 _ _ ⟨rfl,rfl⟩;simp only[Qb,simprocAttr,Nat.reduceMul];refine⟨λ_ _=>rfl,?_⟩;generalize aa:Qa.push H2 _=H3;have ak:Ext H2 H3:=by rw[<- aa];exact(Ext.refl H2).push _
 have g3:H3.get H2.y=some (.C (prs [(w,1),(v,4),(l,1),(QbT pre,2)]) 274):=by rw[<- aa,Qc,Lc rfl];rfl
 clear aa;refine(ad [(w,1),(v,4),(l,1),(QbT pre,2)] (by simp) (by simp) _ _ _ _ H3 g3).w ?_;rintro _ H4 _ au ⟨rfl,am⟩;simp only[Qb,simprocAttr,ab,ac,Qtk];have ag:=(((aj.trans ae).trans ak).trans am);have ah:=ag.push (.C [.int .u8 196,.int .u8 zm,.int .u8 zn] 5);exact .mk ah.y ⟨.inr ⟨_,_,rfl,ag.y,by rw[Qc,Lc rfl];rfl,rfl,.inl rfl⟩,ah,_,rfl⟩
def Qwi {y:Vx}(h:y.Ok)(H:Qa):Qe Pg 259 [.agg y.cells.toArray] H λu H'=>u=.Z 0∧Ext H H':=by
 refine Qtj λau=>?_;have ar:=h;obtain⟨ag,q,ah,ao,ai,ap,aj,ak⟩:=h;obtain⟨r,x,b,mp,w,v,l,pre⟩:=y;simp only at ag q ah ao ai ap aj ak;simp only[Vx.cells,Qk4,Qb,simprocAttr];generalize aa:Qa.push (Qa.push H _) _=H1;have am:Ext H H1:=by rw[<- aa];exact((Ext.refl H).push _).push _
 have g1:H1.get (H.y+1)=some (.C (ints [r,x,b,w,l]) 3):=by rw[<- aa,Qc,Lc (by rw[Qf])];rfl
 have ae:H1.get H.y=some (.C [.Z r,.Z x,.Z b,.Z mp,.Z w,.Z v,.Z l,.Z pre] 134):=by rw[<- aa,Qc,Le (by rw[Qf];omega),Qc,Lc rfl]
 clear aa;refine Qu (λm A' H'=>∃i:Nat,i<=5∧m=5 - i∧H'=H1∧A' 1=.P H.y∧A' 15=.S (H.y+1) 5 5∧A' 16=.Z 5∧A' 17=.Z i) 5 ?_ ?_
 ·refine⟨0,by omega,rfl,rfl,?_,?_,?_,?_⟩
  all_goals simp only[Qd,simprocAttr]
  all_goals rfl
 rintro m A' H' ⟨i,hi,rfl,rfl,r1,r15,ac,ab⟩;simp only[QgZ,Qb,simprocAttr,ac,ab];refine Qg (λq=>?_) (λq=>?_)
 ·have q:i<5:=by have:=Lg q;omega
  obtain⟨z,aq,av⟩:∃z,(ints [r,x,b,w,l])[i]? = some (.Z z)∧0<=z∧z<2:=by
   rcases i with _ | _ | _ | _ | _ | i;·exact⟨r,rfl,ag⟩
   ·exact⟨x,rfl,by assumption⟩
   ·exact⟨b,rfl,ah⟩
   ·exact⟨w,rfl,ai⟩
   ·exact⟨l,rfl,aj⟩
   omega
  have d1:(0:Int)<=i∧(i:Int)<(5:Nat):=by omega
  have d3:(i:Int).toNat=i:=by omega
  have ad:IntKind.i64.wrap ((i:Int)+1)=((i+1:Nat):Int):=by rw[w64 (by unfold I64;omega)];omega
  simp only[QgY,sxA,sxB,Nat.reduceBEq,Nat.reduceEqDiff,reduceCtorEq,mxA,mxB,Nat.reduceAdd,reduceIte,Nat.reduceLeDiff,splice,r15,ab,d1,d3,g1,aq];rcases(show z=0∨z=1 by omega) with rfl | rfl
  ·simp only[Qb,simprocAttr,LO,ab,ad];refine⟨5 - (i+1),by omega,i+1,by omega,rfl,rfl,?_,?_,?_,?_⟩
   all_goals simp only[Qd,simprocAttr,r1,r15,ac]
  have an:((1:Int)==0)=false:=rfl;simp only[Qb,simprocAttr,an,LO,ab,ad];refine⟨5 - (i+1),by omega,i+1,by omega,rfl,rfl,?_,?_,?_,?_⟩
  all_goals simp only[Qd,simprocAttr,r1,r15,ac]
 have e1:decide (mp<1)=false:=Lj (by omega);have e2:decide (3<mp)=false:=Lj (by omega);have e3:decide (v<0)=false:=Lj (by omega);have e4:decide (15<v)=false:=Lj (by omega);simp only[QgX,Qb,simprocAttr,r1,ae,e1,e2,e3,e4];rcases ak with rfl | rfl | rfl | rfl
 all_goals simp only[QgW,QgV,Qb,simprocAttr,r1,ae,LO,Int.reduceBEq,Qrm]
 all_goals exact .mk am.y ⟨rfl,am⟩
structure GY (e:TypeId) (H0 H:Qa) (v:Value) (bss:List (List Int)):Prop where
 ne:e≠5
 it:∃ss:List Value,ss.length=bss.length∧Gx 1 e H0 H v bss.length ss∧∀ (j:Nat) s bs,ss[j]? = some s->bss[j]? = some bs->Gx 1 5 H0 H s bs.length (bys bs)
def GY.nil {e:TypeId}(q:e≠5)(H0 H:Qa):GY e H0 H (.slice none 0 0) []:=⟨q,[],rfl,.inl ⟨rfl,rfl,rfl⟩,λj s w h=>by simp at h⟩
def GY.go {e:TypeId}{H0 H H':Qa}{v:Value}{ws:List (List Int)}(h:GY e H0 H v ws)(q:H.Wf)(hx:Ext H H'):GY e H0 H' v ws:=by
 obtain⟨ss,aa,ab,ac⟩:=h.it;exact⟨h.ne,ss,aa,ab.go q hx,λj s w ad ae=>(ac j s w ad ae).go q hx⟩
def GY.down {e:TypeId}{H0 H1 H:Qa}{v:Value}{ws:List (List Int)}(h:GY e H1 H v ws)(hx:H0.y<=H1.y):GY e H0 H v ws:=by
 obtain⟨ss,q,aa,ab⟩:=h.it;exact⟨h.ne,ss,q,aa.down hx,λj s w ac ad=>(ab j s w ac ad).down hx⟩
def GY.slc {e:TypeId}{H0 H:Qa}{v:Value}{ws:List (List Int)}(h:GY e H0 H v ws):∃a c,v=.slice a ws.length c:=by
 obtain⟨ss,aa,q,ab⟩:=h.it;exact q.slc
def Qt1 {e bytes:Nat}{H0 H:Qa}{v s x:Value}{bs:List Int}{ws:List (List Int)}{k:Value->Qa->Prop}(ag:GY e H0 H v ws)(hx:Ext H0 H)(am:H.Wf)(ak:Gx 1 5 H0 H s bs.length (bys bs))(ay:Zx 1 x H=some (1,[s]))(aq:(ws.length+1) * bytes<=140737488355328)(au:ws.length+1<=9223372036854775807)
  (h:∀ad H',GY e H0 H' ad (ws++[bs])->GK v ad H0 H H'->k ad H'):QfY e 1 bytes v x H k:=by
 obtain⟨ss,ah,ae,ap⟩:=ag.it;have aw:([s]:List Value).all (·.oneCell')=true:=by
  obtain⟨a,c,rfl⟩:=ak.slc;rfl
 refine V6 ae hx am ay aw rfl aq au ?_;intro ad H' ar aj;refine h ad H' ⟨ag.ne,ss++[s],by simp[ah],?_,λj az w' q ab=>?_⟩ aj;·rw[Lh];exact ar
 have av:∀id c',H.get id=some (.C c' 5)->¬inB v id:=λid c' ai hi=>by
  obtain⟨o,aA,c,rfl⟩:=hi;rcases ae with⟨h,_,_⟩ | ⟨b,c,h,an,ac,ao⟩;·cases h
  cases h;rw[ac]at ai;cases ai;exact ag.ne rfl
 have key:∀ {s:Value} {bs:List Int},Gx 1 5 H0 H s bs.length (bys bs)->Gx 1 5 H0 H' s bs.length (bys bs):=λax=>by
  rcases ax with ae | ⟨b,c,rfl,an,ac,ao⟩;·exact .inl ae
  exact .inr ⟨b,c,rfl,an,by rw[aj.keep b (am.lt ac) (av b _ ac)];exact ac,ao⟩
 rcases Dj j ss.length with aa | aa | aa;·rw[LY aa]at q;rw[LY (by omega)]at ab;exact key (ap j az w' q ab)
 ·rw[LR (by omega)]at q ab;rw[aa,BJ]at q;rw[aa,ah,BJ]at ab;cases q;cases ab;exact key ak
 have:=(Lk.1 q).1;simp at this;omega
def QqC (y:Vx)(any:Bool):List (List Int):=
 (if(y.x=0∧y.b=0∧(any=true∨y.w=0))∧y.mp=1 then[[197,vb2 y]] else[])++([Jn (bif any then {y with w:=0} else y)]++(bif any then[Jn {y with w:=1}] else[]))
def Vx.Ok.setW {y:Vx}(h:y.Ok)(n:Int)(q:0<=n∧n<2):Vx.Ok {y with w:=n}:=⟨h.r,h.x,h.b,h.mp,q,h.v,h.l,h.pre⟩
section
variable {H:Qa} {W:List (List Int)}
abbrev KV (H:Qa)(W:List (List Int)):Env->Qa->Prop:=Rt Pg Tryz.f198 H λu H'=>∃v,u=.tuple #[v,.Z 0]∧GY 22 H H' v W∧Ext H H'
def QoP (H:Qa)(s:Value):Zx 1 (.S H.y 1 1) (H.push (.C [s] 22))=some (1,[s]):=Qvk (by rw[Qc,Lc rfl])
def GY.keep {e:TypeId}{H0 H H':Qa}{v:Value}{ws:List (List Int)}(h:GY e H0 H v ws)(ad:∀id,H0.y<=id->H'.get id=H.get id):GY e H0 H' v ws:=by
 obtain⟨ss,ab,q,ac⟩:=h.it;have key:∀ {e:TypeId} {v:Value} {n:Nat} {cs:List Value},Gx 1 e H0 H v n cs->Gx 1 e H0 H' v n cs:=λae=>by
  rcases ae with q | ⟨b,c,rfl,aa,ag,ah⟩;·exact .inl q
  exact .inr ⟨b,c,rfl,aa,by rw[ad b aa];exact ag,ah⟩
 exact⟨h.ne,ss,ab,key q,λj s w a b=>key (ac j s w a b)⟩
def QKc {y:Vx}(h:y.Ok)(any:Bool){ws:List (List Int)}(aO:ws.length<=5){v:Value}{A:Env}{Hb H1:Qa}(aT:Hb.y=H.y+1)(aB:GY 22 Hb H1 v ws)(ag:Ext Hb H1)(hx:Ext H H1)(aE:H1.Wf)(aj:H1.get H.y=some (.C y.cells 134))(r1:A 1=.bool any)(r2:A 2=.P H.y)(aK:A 7=v)(q:W=ws++([Jn y]++(bif any then[Jn {y with w:=1}] else[]))):
  Qm Pg Gw ⟨KV H W,X4⟩ (KV H W) A H1:=by
 have aU:=ag.y;have aq:=QqB h;have ar:=QqB (h.setW 1 (by decide));obtain⟨aa,ah⟩:∃aa,aa=Jn y:=⟨_,rfl⟩;obtain⟨ab,ai⟩:∃ab,ab=Jn {y with w:=1}:=⟨_,rfl⟩;have aI:aa.length=3:=by rw[ah];rfl
 have aJ:ab.length=3:=by rw[ai];rfl
 rw[<- ah]at aq q;rw[<- ai]at ar q;clear ah ai;obtain⟨r,x,b,mp,w,aN,l,pre⟩:=y;simp only[Vx.cells]at aj aq ar;simp only[Gw,Qb,simprocAttr,r2,aK,aj];refine(aq H1).w ?_;rintro s2 H2 aP an ⟨ak,ax,a2,rfl⟩
 replace ak:Gx 1 5 H1 H2 (.slice a2 3 3) aa.length (bys aa):=by rw[aI];exact ak
 simp only[Qb,simprocAttr];refine Qt1 (H0:=Hb) (bs:=aa) ((aB.go aE ax).go an ((Ext.refl H2).push _)) ((ag.trans ax).push _) (an.push _) ((ak.go an ((Ext.refl H2).push _)).down (by omega)) (QoP H2 _) (by omega) (by omega) ?_;intro aL H4 aw ad;have au:H4.get H.y=some (.C [.Z r,.Z x,.Z b,.Z mp,.Z w,.Z aN,.Z l,.Z pre] 134):=by rw[(ad.x).get _ (by omega),<- ag.get _ (by omega)];exact aj
 have ap:Ext H H4:=⟨by have:=ad.x.y;omega,λid ae=>by rw[ad.x.get id (by omega),<- ag.get id (by omega)];exact hx.get id ae⟩;cases any with
 | false=>
  rw[Ls,Na]at q;simp only[Qb,simprocAttr,r1,Qnz];exact .mk ap.y ⟨aL,rfl,by rw[q];exact aw.down (by omega),ap⟩
 | true=>
  rw[Lq]at q;simp only[Qb,simprocAttr,r1,r2,au];generalize ac:Qa.set H4 _ _=H5;have aG:Ext H H5:=by rw[<- ac];exact ap.set (Lb _) _
  have aF:H5.Wf:=by rw[<- ac];exact ad.w.set au _
  have k5:∀id,Hb.y<=id->H5.get id=H4.get id:=λid ae=>by rw[<- ac,Qj,Le (by omega)]
  have aC:=aw.keep k5;have aR:H5.y=H4.y:=by rw[<- ac];rfl
  have aQ:=ad.x.y;clear ac;refine(ar H5).w ?_;rintro aW H6 aS ao ⟨am,ay,a6,rfl⟩
  replace am:Gx 1 5 H5 H6 (.slice a6 3 3) ab.length (bys ab):=by rw[aJ];exact am
  simp only[Qb,simprocAttr];have aH:∃Hz:Qa,Ext Hz H5∧Hz.y=Hb.y:=⟨⟨Hb.y,H5.tr⟩,⟨by show Hb.y<=H5.y;omega,λid _=>rfl⟩,rfl⟩;obtain⟨Hz,aA,aV⟩:=aH;refine Qt1 (H0:=Hz) (bs:=ab) (((aC.go aF ay).go ao ((Ext.refl H6).push _)).down (by omega)) ((aA.trans ay).push _) (ao.push _) ((am.go ao ((Ext.refl H6).push _)).down (by omega)) (QoP H6 _) (by rw[Lh,Bb];omega) (by rw[Lh,Bb];omega) ?_;intro aM H7 aD av;have az:Ext H H7:=⟨by have:=av.x.y;omega,λid ae=>by rw[av.x.get id (by omega),<- aA.get id (by omega)];exact aG.get id ae⟩;simp only[Qb,simprocAttr,Qnz];exact .mk az.y ⟨aM,rfl,by rw[q,<- LQ];exact aD.down (by omega),az⟩
def QKd {y:Vx}(h:y.Ok)(any:Bool){A:Env}{Hb H1:Qa}(aw:Hb.y=H.y+1)(ac:Ext Hb H1)(hx:Ext H H1)(aJ:H1.Wf)(aa:H1.get H.y=some (.C y.cells 134))(r1:A 1=.bool any)(r2:A 2=.P H.y)(ae:W=(if(y.x=0∧y.b=0∧y.w=0)∧y.mp=1 then[[197,vb2 y]] else[])++([Jn y]++(bif any then[Jn {y with w:=1}] else[]))):
  Qm Pg QeC ⟨KV H W,X4⟩ (KV H W) A H1:=by
 have aS:=ac.y;have av:=aa;have ag:=QIQ h;have aE:=fun(aP:List (Int×Int)) hp hl (b cap:Nat) e ro (H:Qa)=>QsD (cap:=cap) (b:=b) (e:=e) (ro:=ro) aP hp hl H;have au:=λA=>QKc (H:=H) (W:=W) (A:=A) h any (ws:=[]) (by simp) aw (GY.nil (e:=22) (by decide) Hb H1) ac hx aJ aa;have ab:∀A,A 1=.bool any->A 2=.P H.y->A 7=.slice none 0 0->¬ ((y.x=0∧y.b=0∧y.w=0)∧y.mp=1)->Qm Pg Gw ⟨KV H W,X4⟩ (KV H W) A H1:=λA a1 a2 a7 aG=>au A a1 a2 a7 (by rw[ae,Le aG]);obtain⟨q,ah⟩:∃q,q=vb2 y:=⟨_,rfl⟩;have aB:(y.x=0∧y.b=0∧y.w=0)∧y.mp=1->∀ (A:Env) (H4:Qa) (aq:Value),GY 22 Hb H4 aq [[197,q]]->Ext Hb H4->Ext H H4->H4.Wf->A 1=.bool any->A 2=.P H.y->A 7=aq->Qm Pg Gw ⟨KV H W,X4⟩ (KV H W) A H4:=by
  intro aO A H4 aq aH az ap an a1 a2 a7;refine QKc h any (ws:=[[197,q]]) (by simp) aw aH az ap an (by rw[az.get _ (by omega),<- ac.get _ (by omega)];exact av) a1 a2 a7 (by rw[ae,Lc aO,ah])
 rw[<- ah]at ag;clear ah ae au av h;obtain⟨r,x,b,mp,w,v,l,pre⟩:=y;simp only[Vx.cells]at aa;simp only at aB ab ag;simp only[QeC,Qb,simprocAttr,r2,aa];cases ar:x==0 with
 | false=>
  have ao:¬x=0:=by simpa using ar
  simp only[Qb,simprocAttr];refine ab _ ?_ ?_ ?_ (λh=>ao h.1.1)
  all_goals simp only[Qd,simprocAttr,r1,r2]
 | true=>
  have ao:x=0:=by simpa using ar
  simp only[Qb,simprocAttr,r2,aa];cases e2:b==0 with
  | false=>
   have aj:¬b=0:=by simpa using e2
   simp only[Qb,simprocAttr];refine ab _ ?_ ?_ ?_ (λh=>aj h.1.2.1)
   all_goals simp only[Qd,simprocAttr,r1,r2]
  | true=>
   have aj:b=0:=by simpa using e2
   simp only[Qb,simprocAttr,r2,aa];cases e3:w==0 with
   | false=>
    have am:¬w=0:=by simpa using e3
    simp only[Qb,simprocAttr];refine ab _ ?_ ?_ ?_ (λh=>am h.1.2.2)
    all_goals simp only[Qd,simprocAttr,r1,r2]
   | true=>
    have am:w=0:=by simpa using e3
    simp only[Qb,simprocAttr,r2,aa];cases e4:mp==1 with
    | false=>
     have ak:¬mp=1:=by simpa using e4
     simp only[Qb,simprocAttr];refine ab _ ?_ ?_ ?_ (λh=>ak h.2)
     all_goals simp only[Qd,simprocAttr,r1,r2]
    | true=>
     have ak:mp=1:=by simpa using e4
     simp only[Qk0,Qb,simprocAttr,r2,aa];refine⟨by simp[Qp,Ab.plain],by simp[Qp,Ab.plain],by simp[Qp,Ab.plain],?_⟩;refine(QlE pre H1).w ?_;rintro _ H1 _ _ ⟨rfl,rfl⟩;simp only[Qb,simprocAttr,Nat.reduceMul];refine⟨λ_ _=>rfl,?_⟩;generalize ai:Qa.push H1 _=H3;have aL:Ext H1 H3:=by rw[<- ai];exact(Ext.refl H1).push _
     have g3:H3.get H1.y=some (.C (prs [(r,1),(v,4),(l,1),(QbT pre,2)]) 274):=by rw[<- ai,Qc,Lc rfl];rfl
     clear ai;refine(aE [(r,1),(v,4),(l,1),(QbT pre,2)] (by simp) (by simp) _ _ _ _ H3 g3).w ?_;rintro _ H4 _ an ⟨rfl,ap⟩;simp only[Qb,simprocAttr,ag];have ay:=aL.trans ap;have aM:=(Ext.refl H4).push (.C [.int .u8 197,.int .u8 q] 5);have ax:=an.push (.C [.int .u8 197,.int .u8 q] 5);have aC:Gx 1 5 H4 (H4.push (.C [.int .u8 197,.int .u8 q] 5)) (.S H4.y 2 2) 2 (bys [197,q]):=.inr ⟨_,_,rfl,Lb _,by rw[Qc,Lc rfl];rfl,rfl,.inl rfl⟩;have aR:=ay.y;have aF:(H4.push (.C [.int .u8 197,.int .u8 q] 5)).y=H4.y+1:=rfl;generalize H4.push (.C [.int .u8 197,.int .u8 q] 5)=H5 at *;have aK:=ay.trans aM;have aA:=(Ext.refl H5).push (.C [.S H4.y 2 2] 22);refine Qt1 (H0:=Hb) (bs:=[197,q]) (GY.nil (e:=22) (by decide) Hb _) ((ac.trans aK).trans aA) (ax.push _) ((aC.go ax aA).down (by omega)) (by rw[<- aF];exact QoP H5 _) (by simp) (by simp) ?_;intro aQ H7 aI ad;have aN:Ext H H7:=⟨by have:=ad.x.y;omega,λid aD=>by rw[ad.x.get id (by omega),<- ac.get id (by omega)];exact hx.get id aD⟩;simp only[Qkg,Qey,QhF,Qy5];refine aB ⟨⟨ao,aj,am⟩,ak⟩ _ H7 aQ aI ad.x aN ad.w ?_ ?_ ?_
     all_goals simp only[Qd,simprocAttr,r1,r2]
end
def QF9 (y:Vx)(any:Bool)(q:Vx)(h:q=bif any then {y with w:=0} else y):QqC y any=(if(q.x=0∧q.b=0∧q.w=0)∧q.mp=1 then[[197,vb2 q]] else[])++([Jn q]++(bif any then[Jn {q with w:=1}] else[])):=by
 subst h;unfold QqC;cases any with
 | true=>simp only[Lq,true_or,Hr,vb2]
 | false=>simp only[Ls,LV,false_or]
def QBj {y:Vx}(h:y.Ok)(any:Bool)(H:Qa):Qe Pg 198 [.agg y.cells.toArray,.bool any] H λu H'=>∃v,u=.tuple #[v,.Z 0]∧GY 22 H H' v (QqC y any)∧Ext H H':=by
 refine QxM λaq=>?_;obtain⟨q,ac⟩:∃q:Vx,q=bif any then {y with w:=0} else y:=⟨_,rfl⟩
 have am:q.Ok:=by rw[ac];cases any with | true=>exact h.setW 0 (by decide) | false=>exact h
 have eL:=QF9 y any q ac;have aa:q.cells=bif any then[.Z y.r,.Z y.x,.Z y.b,.Z y.mp,.Z 0,.Z y.v,.Z y.l,.Z y.pre] else y.cells:=by rw[ac];cases any<;>rfl
 have an:=Qwi h;have ai:=(Ext.refl H).push (.C y.cells 134);have ar:=aq.push (.C y.cells 134);have ag:(H.push (.C y.cells 134)).get H.y=some (.C y.cells 134):=by rw[Qc,Lc rfl]
 have ap:(H.push (.C y.cells 134)).y=H.y+1:=rfl;obtain⟨W,ae⟩:∃W,W=QqC y any:=⟨_,rfl⟩;rw[<- ae]at eL ⊢;clear ae ac h;obtain⟨r,x,b,mp,w,v,l,pre⟩:=y;simp only[Vx.cells]at ai ar ag ap an aa;simp only[Vx.cells,QpJ,Qb,simprocAttr];generalize H.push _=H1 at *;refine(an H1).w ?_;rintro _ H2 aw ah ⟨rfl,ak⟩;have ad:=(ak.get H.y (by omega)).trans ag;have aj:=ai.trans ak;simp only[Qb,simprocAttr,LO];cases any with
 | true=>
  rw[Lq]at aa;simp only[QeD,Qb,simprocAttr,ad];generalize ab:Qa.set H2 _ _=H3;have av:Ext H H3:=by rw[<- ab];exact aj.set (Lb _) _
  have au:H3.Wf:=by rw[<- ab];exact ah.set ad _
  have ao:H3.get H.y=some (.C q.cells 134):=by rw[<- ab,Qj,Lc rfl];exact congrArg (λc=>some (Blk.cells c 134 false)) aa.symm
  have ax:H3.y=H2.y:=by rw[<- ab];rfl
  clear ab;refine QKd (H:=H) (Hb:=⟨H.y+1,H3.tr⟩) am true rfl ⟨by show H.y+1<=H3.y;omega,λid _=>rfl⟩ av au ao ?_ ?_ eL
  all_goals simp only[Qd,simprocAttr]
 | false=>
  rw[Ls]at aa;simp only[QeD,Qb,simprocAttr];refine QKd (H:=H) (Hb:=⟨H.y+1,H2.tr⟩) am false rfl ⟨by show H.y+1<=H2.y;omega,λid _=>rfl⟩ aj ah (by rw[ad];exact congrArg (λc=>some (Blk.cells c 134 false)) aa.symm) ?_ ?_ eL
  all_goals simp only[Qd,simprocAttr]
def Gb (m:Int):List Int:=if(m==1)=true then[15] else if(m==2)=true then[15,56] else if(m==3)=true then[15,58] else[]
def Qom (m:Int)(H:Qa):Qe Pg 202 [.Z m] H λv H'=>Gx 1 5 H H' v (Gb m).length (bys (Gb m))∧Ext H H':=by
 refine Qmx λad=>?_;have q:∀bs:List Int,Gx 1 5 H (H.push (.C (bys bs) 5)) (.S H.y bs.length bs.length) bs.length (bys bs):=λbs=>.inr ⟨_,_,rfl,Lb _,by rw[Qc,Lc rfl],by rw[Yn,NH],.inl rfl⟩;simp only[QdJ,Qb,simprocAttr];unfold Gb;cases aa:m==1 with
 | true=>
  simp only[Qb,simprocAttr,ZM];exact .mk ((Ext.refl H).push _).y ⟨q [15],(Ext.refl H).push _⟩
 | false=>
  simp only[Qb,simprocAttr];cases ab:m==2 with
  | true=>
   simp only[Qb,simprocAttr,ZM];exact .mk ((Ext.refl H).push _).y ⟨q [15,56],(Ext.refl H).push _⟩
  | false=>
   simp only[Qb,simprocAttr];cases ac:m==3 with
   | true=>
    simp only[Qb,simprocAttr,ZM];exact .mk ((Ext.refl H).push _).y ⟨q [15,58],(Ext.refl H).push _⟩
   | false=>
    simp only[Qb,simprocAttr,ZM];exact .mk (Lb _) ⟨.inl ⟨rfl,rfl,rfl⟩,.refl _⟩
def VP (w r x b:Int):Int:=w * 8+r * 4+x * 2+b
def QDD:List (Int×Int×Int×Int):=([0,1]:List Int).flatMap λw=>([0,1]:List Int).flatMap λr=>([0,1]:List Int).flatMap λx=>([0,1]:List Int).map λb=>(w,r,x,b)
def QBk:(QDD.all λp=>isW (.Z (VP p.1 p.2.1 p.2.2.1 p.2.2.2)) ((run Pg noK 200 5 10).fn 200 [.Z p.1,.Z p.2.1,.Z p.2.2.1,.Z p.2.2.2] (H0 Pg)))=true:=by kernel_rfl
def QBl (w r x b:Int)(ad:0<=w∧w<2)(ac:0<=r∧r<2)(hx:0<=x∧x<2)(aa:0<=b∧b<2)(H:Qa):Qe Pg 200 [.Z w,.Z r,.Z x,.Z b] H λu H'=>u=.Z (VP w r x b)∧H'=H:=by
 have q:∀n:Int,0<=n∧n<2->n∈([0,1]:List Int):=λn ae=>by
  simp only[LK,Ns,NN];omega
 have ab:(w,r,x,b)∈QDD:=by
  unfold QDD;rw[NF];refine⟨w,q w ad,NF.2 ⟨r,q r ac,NF.2 ⟨x,q x hx,N4.2 ⟨b,q b aa,rfl⟩⟩⟩⟩
 exact Qwb (by kernel_rfl) rfl rfl (Li.1 QBk _ ab) H
def QbU (f:Fm)(l:List Ar)(s:Int):Int:=if 0<=Qh f.slots s then XS ((l[(Qh f.slots s).toNat]?.getD WN).r) else 0
def QzD (x:Int):∀ (l:List Int) (k:Nat),Ke l x k<k+l.length
 | [],k=>by show(-1:Int)<_;simp;omega
 | y::l,k=>by
  unfold Ke;split;·simp;omega
  have:=QzD x l (k+1);simp at this ⊢;omega
def QqD (l:List Int)(x:Int):Qh l x<l.length:=by
 have:=QzD x l 0;simpa[Qh] using this
def Qe1 {l:List Ar}{i:Nat}{a:Ar}(h:l[i]? = some a):((Ql l).drop (i * 11+1)).take 2=[.Z a.r.c,.Z a.r.n]:=by
 have q:=XU l i a h;have aa:(((Ql l).drop (i * 11)).take 11).drop 1=a.cells.drop 1:=by rw[q]
 rw[<- Rc];have ab:((((Ql l).drop (i * 11)).drop 1).take 2)=((((Ql l).drop (i * 11)).take 11).drop 1).take 2:=by
  rw[List.drop_take,DE];rfl
 rw[ab,aa];rfl
def QiV (x:Lf)(op:Int)(va:Value)(l:List Ar)(s:Int)(H:Qa)(hx:x.At H)(aA:Wg H va l)(aE:l.length<=1000)(aF:x.f.slots.length=l.length):Qe Pg 197 [.agg x.cells.toArray,.agg #[.Z op,va],.Z s] H λu H'=>u=.Z (QbU x.f l s)∧Ext H H':=by
 refine QpI λae=>?_;have an:(Value.agg x.cells.toArray).cells.toList=x.cells:=rfl;have am:x.cells.take 10=x.cells:=rfl;have aC:10<=x.cells.length:=Lb _;obtain⟨a0,cap,rfl,ar⟩:=aA;have ak:Ext H (H.push (.C x.cells 57)):=(Ext.refl H).push _;simp only[QgT,an,QbZ,simprocAttr];generalize aa:Qa.push H _=H1;have g1:H1.get H.y=some (.C x.cells 57):=by rw[<- aa,Qc,Lc rfl]
 have aB:Ext H H1:=by rw[<- aa];exact ak
 have aG:H1.y=H.y+1:=by rw[<- aa];rfl
 have aI:H1.Wf:=by rw[<- aa];exact ae.push _
 clear aa ak;simp only[Qb,simprocAttr];generalize ab:Qa.push H1 _=H2;have aj:Ext H H2:=by rw[<- ab];exact aB.push _
 have g2:H2.get H.y=some (.C x.cells 57):=by rw[<- ab,Qc,Le (by omega)];exact g1
 have ao:H2.get H1.y=some (.C [.Z op,.slice a0 l.length cap] 26):=by rw[<- ab,Qc,Lc rfl]
 have aH:H2.y=H1.y+1:=by rw[<- ab];rfl
 clear ab;have aD:¬H.y=H1.y:=by omega
 simp only[Qb,simprocAttr,aD,g1,am];refine⟨aC,?_⟩;refine(QG x s H2 (hx.ext ae aj)).w ?_;rintro _ _ ai aJ ⟨rfl,k,rfl⟩;simp only[Q8]at ai;have ac:=aj.up ai;have ap:(H2.up k).get H1.y=some (.C [.Z op,.slice a0 l.length cap] 26):=by rw[XB];exact ao
 generalize H2.up k=H3 at *;have ay:=QqD x.f.slots s;simp only[Qb,simprocAttr];unfold QbU;refine Qg (λh=>?_) (λh=>?_)
 ·have aq:0<=Qh x.f.slots s:=Lg h;rw[Lc aq];obtain⟨i,hi⟩:∃i:Nat,Qh x.f.slots s=i:=⟨(Qh x.f.slots s).toNat,by omega⟩;rw[hi]at ay ⊢;have aw:i<l.length:=by omega
  obtain⟨a,ag⟩:∃a,l[i]? = some a:=⟨_,La aw⟩;obtain⟨b,e,ro,rfl,ah⟩:=ar (by omega);have au:H3.get b=some (.cells (Ql l) e ro):=by rw[ac.get b (ae.lt ah)];exact ah
  have az:=Qe1 ag;have ax:i * 11+1+2<=(Ql l).length:=by rw[Wb];omega
  have d1:(0:Int)<=i∧(i:Int)<l.length:=by omega
  have d3:(i:Int).toNat=i:=by omega
  have av:(l[i]?.getD WN).r=a.r:=by rw[ag];rfl
  have q:=QbR a.r H3;simp only[Rg.cells]at q;simp only[Qb,simprocAttr,ap,d1,d3,au,az,av];refine⟨ax,?_⟩;refine q.w ?_;rintro _ _ ad aK ⟨rfl,k4,rfl⟩;simp only[Q8]at ad;simp only[Qb,simprocAttr,Qfx];exact .mk (ac.up ad).y ⟨rfl,ac.up ad⟩
 rw[Le (by have:=Ll h;omega)];simp only[Qb,simprocAttr,Qfx];exact .mk ac.y ⟨rfl,ac⟩
def QcV (l:List Ar):Bool:=l.any λa=>a.k==1&&Qhn a.r
def QlF (l:List Ar):Bool:=l.any λa=>a.k==1&&QnN a.r
def chF (bits:Int)(l:List Ar):List Int:=if(decide (0<bits)||QcV l)=true then(if QlF l=true then[] else[bits]) else if QlF l=true then[-1] else[-1,0]
def QmO (op bits:Int)(va:Value)(l:List Ar)(H:Qa)(aK:Wg H va l)(aZ:l.length<=1000):Qe Pg 199 [.agg #[.Z op,va],.Z bits] H λv H'=>Gx 1 3 H H' v (chF bits l).length (ints (chF bits l))∧Ext H H':=by
 refine Qk1 λaz=>?_;obtain⟨a0,cap,rfl,aG⟩:=aK;simp only[QcI,Qb,simprocAttr];generalize ak:Qa.push H _=H1;have aO:Ext H H1:=by rw[<- ak];exact(Ext.refl H).push _
 have aM:H1.Wf:=by rw[<- ak];exact az.push _
 clear ak;refine Qu (λm A' H'=>∃i:Nat,i<=l.length∧m=l.length - i∧H'.Wf∧Ext H H'∧A' 1=.Z bits∧A' 5=.bool (decide (0<bits)||QcV (l.take i))∧A' 6=.bool (QlF (l.take i))∧A' 12=.slice a0 l.length cap∧A' 13=.Z l.length∧A' 14=.Z i) l.length ?_ ?_
 ·refine⟨0,L7 _,by omega,aM,aO,?_,?_,?_,?_,?_,?_⟩
  all_goals simp only[Qd,simprocAttr]
  all_goals simp[QcV,QlF]
 rintro m A' H' ⟨i,hi,rfl,aL,hx,r1,ac,ad,ae,r13,ab⟩;simp only[Qax,Qb,simprocAttr,r13,ab];refine Qg (λaa=>?_) (λaa=>?_)
 ·have aa:i<l.length:=by have:=Lg aa;omega
  obtain⟨a,aq⟩:∃a,l[i]? = some a:=⟨_,La aa⟩;obtain⟨b,e,ro,rfl,au⟩:=aG (by omega);have aI:H'.get b=some (.cells (Ql l) e ro):=by rw[hx.get b (az.lt au)];exact au
  have ax:=XU l i a aq;have aJ:i * 11+11<=(Ql l).length:=by rw[Wb];omega
  have d1:(0:Int)<=i∧(i:Int)<l.length:=by omega
  have d3:(i:Int).toNat=i:=by omega
  have ag:IntKind.i64.wrap ((i:Int)+1)=((i+1:Nat):Int):=by rw[w64 (by unfold I64;omega)];omega
  have ay:l.take (i+1)=l.take i++[a]:=by rw[Nv,aq];rfl
  have ap:QcV (l.take (i+1))=(QcV (l.take i)||(a.k==1&&Qhn a.r)):=by unfold QcV;rw[ay,Rz];simp
  have hB:QlF (l.take (i+1))=(QlF (l.take i)||(a.k==1&&QnN a.r)):=by unfold QlF;rw[ay,Rz];simp
  have aC:=Qwa a.r;have an:=Qye a.r;obtain⟨ao,⟨aX,aY⟩,⟨⟨aD,aE⟩,⟨aP,aQ⟩,sc,d,sz⟩,n⟩:=a;simp only[Rg.cells]at aC an;simp only[Ar.cells]at ax;simp only at ap hB;generalize QcV (l.take i)=N at *;generalize QlF (l.take i)=B at *;simp only[Qaw,Qb,simprocAttr,ae,ab,d1,d3,aI,ax];refine⟨aJ,?_⟩;generalize ai:(Qa.push H' _).set _ _=H2;have aj:Ext H H2:=by rw[<- ai];exact(hx.push _).set (by have:=hx.y;omega) _
  have aA:H2.Wf:=by rw[<- ai];exact(aL.push _).set (b0:=.C [.Z 0,.Z 0,.Z 0,.Z 0,.Z 0,.Z 0,.Z 0,.Z 0,.Z 0,.Z 0,.Z 0] 50) (by rw[Qc,Lc rfl]) _
  have g2:H2.get H'.y=some (.C [.Z ao,.Z aX,.Z aY,.Z aD,.Z aE,.Z aP,.Z aQ,.Z sc,.Z d,.Z sz,.Z n] 50):=by rw[<- ai,Qj,Lc rfl]
  clear ai
  -- the end of a round
  have q:∀ (A2:Env) (H3:Qa),Ext H H3->H3.Wf->A2 1=.Z bits->A2 5=.bool (decide (0<bits)||QcV (l.take (i+1)))->A2 6=.bool (QlF (l.take (i+1)))->A2 12=.S b l.length cap->A2 13=.Z l.length->A2 14=.Z ((i+1:Nat):Int)->Qvj (λm A' H'=>∃i:Nat,i<=l.length∧m=l.length - i∧H'.Wf∧Ext H H'∧A' 1=.Z bits∧A' 5=.bool (decide (0<bits)||QcV (l.take i))∧A' 6=.bool (QlF (l.take i))∧A' 12=.S b l.length cap∧A' 13=.Z l.length∧A' 14=.Z i) (l.length - i) A2 H3:=
   λA2 H3 e1 e2 aR aV aW aS aT aU=>⟨l.length - (i+1),by omega,i+1,by omega,rfl,e2,e1,aR,aV,aW,aS,aT,aU⟩
  rw[ap,hB]at q;cases av:ao==1 with
  | false=>
   rw[av,NG,NI,NG,NI]at q;simp only[Qb,simprocAttr,ab,ag];refine q _ H2 aj aA ?_ ?_ ?_ ?_ ?_ ?_
   all_goals simp only[Qd,simprocAttr,r1,ac,ad,ae,r13]
  | true=>
   rw[av,LJ,LJ,<- FP]at q;obtain⟨N',aF⟩:∃N',N'=(decide (0<bits)||N):=⟨_,rfl⟩;rw[<- aF]at q ac;cases N' with
   | true=>
    rw[N1]at q;cases B with
    | true=>
     rw[N1]at q;simp only[YI,Qb,simprocAttr,ac,ad,ab,ag];refine q _ H2 aj aA ?_ ?_ ?_ ?_ ?_ ?_
     all_goals simp only[Qd,simprocAttr,r1,ae,r13]
    | false=>
     rw[Nt]at q;simp only[YI,Qb,simprocAttr,ac,ad,g2];refine(an H2).w ?_;rintro _ _ ah am ⟨rfl,k4,rfl⟩;simp only[Q8]at ah;simp only[Qb,simprocAttr,ab,ag];refine q _ _ (aj.up ah) am ?_ ?_ ?_ ?_ ?_ ?_
     all_goals simp only[Qd,simprocAttr,r1,ae,r13]
   | false=>
    rw[Nt]at q;simp only[YI,Qb,simprocAttr,ac,g2];refine(aC H2).w ?_;rintro _ _ aw aN ⟨rfl,k3,rfl⟩;simp only[Q8]at aw;have aB:=aj.up aw;have g3:=g2;rw[<- XB H2 k3]at g3;generalize H2.up k3=H3 at *;cases B with
    | true=>
     rw[N1]at q;simp only[Qb,simprocAttr,ad,ab,ag];refine q _ H3 aB aN ?_ ?_ ?_ ?_ ?_ ?_
     all_goals simp only[Qd,simprocAttr,r1,ae,r13]
    | false=>
     rw[Nt]at q;simp only[Qb,simprocAttr,ad,g3];refine(an H3).w ?_;rintro _ _ ah am ⟨rfl,k4,rfl⟩;simp only[Q8]at ah;simp only[Qb,simprocAttr,ab,ag];refine q _ _ (aB.up ah) am ?_ ?_ ?_ ?_ ?_ ?_
     all_goals simp only[Qd,simprocAttr,r1,ae,r13]
 have aa:i=l.length:=by have:=Ll aa;omega
 subst aa;rw[Nr]at ac ad;have ar:∀z:Int,Gx 1 3 H (H'.push (.C [.Z z] 3)) (.S H'.y 1 1) 1 (ints [z]):=λz=>.inr ⟨_,_,rfl,hx.y,by rw[Qc,Lc rfl];rfl,rfl,.inl rfl⟩;have aH:Gx 1 3 H (H'.push (.C [.Z (-1),.Z 0] 3)) (.S H'.y 2 2) 2 (ints [-1,0]):=.inr ⟨_,_,rfl,hx.y,by rw[Qc,Lc rfl];rfl,rfl,.inl rfl⟩;unfold chF;generalize (decide (0<bits)||QcV l)=N at *;generalize QlF l=B at *;cases N<;>cases B<;>simp only[Qav,Qau,Qb,simprocAttr,r1,ac,ad,Qjz,LV];·exact .mk (hx.push _).y ⟨aH,hx.push _⟩
 ·exact .mk (hx.push _).y ⟨ar (-1),hx.push _⟩
 ·exact .mk (hx.push _).y ⟨ar bits,hx.push _⟩
 exact .mk hx.y ⟨.inl ⟨rfl,rfl,rfl⟩,hx⟩
structure FOk (f:Fm):Prop where
 pre:0<=f.pre∧f.pre<=5
 map:0<=f.map∧f.map<=3
 w:f.vex=false->f.w=0∨f.w=1
 vx:f.vex=true->f.map≠0∧(f.pre=0∨f.pre=1∨f.pre=2∨f.pre=4)∧(-1<=f.w∧f.w<=1)∧(f.l=0∨f.l=1)
def QlG (f:Fm)(l:List Ar)(s:Int):Int:=if 0<=Qh f.slots s then((l[(Qh f.slots s).toNat]?.getD WN).r).n else 0
def hB (f:Fm)(l:List Ar)(h:Int):Int:=if 0<=Qh f.slots 4 then QbU f l 4 else h
def QqE (w:Int):Int:=if 0>w then 0 else w
def vxF (f:Fm)(l:List Ar)(x h:Int):Vx:=⟨QbU f l 1,x,hB f l h,f.map,QqE f.w,QlG f l 3,f.l,f.pre⟩
def GQ (f:Fm)(l:List Ar)(x h:Int):List (List Int):=
 if f.vex=true then QqC (vxF f l x h) (f.w==-1)
 else(chF (VP f.w (QbU f l 1) x (hB f l h)) l).map λn=>QbS f.pre n++Gb f.map
def QhO (f:Fm)(l:List Ar)(s:Int):0<=QbU f l s∧QbU f l s<2:=by
 unfold QbU;split;·exact QlB _
 omega
section
variable {x:Lf} {op:Int} {va:Value} {l:List Ar} {H:Qa}
abbrev KH (H:Qa)(W:List (List Int)):Env->Qa->Prop:=Rt Pg Tryz.f145 H λv H'=>GY 22 H H' v W∧Ext H H'
structure HdF (H H':Qa) (x:Lf) (op:Int) (va:Value) (A:Env):Prop where
 xt:Ext H H'
 w:H'.Wf
 g3:H'.get H.y=some (.C x.cells 57)
 g4:H'.get (H.y+1)=some (.C [.Z op,va] 26)
 lt:H.y+2<=H'.y
 r3:A 3=.P H.y
 r4:A 4=.P (H.y+1)
def HdF.go {H' H'':Qa}{A B:Env}(h:HdF H H' x op va A)(hx:Ext H' H'')(q:H''.Wf)(e3:B 3=A 3)(e4:B 4=A 4):HdF H H'' x op va B:=
 ⟨h.xt.trans hx,q,by rw[hx.get _ (by have:=h.lt;omega)];exact h.g3,by rw[hx.get _ (by have:=h.lt;omega)];exact h.g4,by have:=h.lt;have:=hx.y;omega,e3.trans h.r3,e4.trans h.r4⟩
def QK2 (ar:FOk x.f)(bh:x.f.vex=false)(bm:H.Wf)(hx:x.At H)(aq:Wg H va l)(bj:∀n,H.y<=n->Qp n 6 (.agg #[.Z op,va])=true)(aX:l.length<=1000){r xx b:Int}(bd:0<=r∧r<2)(bp:0<=xx∧xx<2)(aP:0<=b∧b<2){W:List (List Int)}(aK:W=(chF (VP x.f.w r xx b) l).map λn=>QbS x.f.pre n++Gb x.f.map){A:Env}{H1:Qa}(ap:HdF H H1 x op va A)(bq:A 7=.Z r)(r8:A 8=.Z xx)(br:A 9=.Z b):
  Qm Pg Gr ⟨KH H W,X4⟩ (KH H W) A H1:=by
 obtain⟨a0,cap,rfl,b7⟩:=id aq;have aN:=ap;obtain⟨ai,bE,g3,g4,bD,r3,r4⟩:=ap;have aJ:x.cells[7]? = some (.Z x.f.w):=rfl;have bF:=ar.w bh;simp only[Gr,Qb,simprocAttr,r3,r4,bq,r8,br,g3,g4,aJ];have bc:=ai.y;refine⟨bj _ bc,?_⟩;refine(QBl x.f.w r xx b (by omega) bd bp aP H1).w ?_;rintro _ H1 _ _ ⟨rfl,rfl⟩;simp only[Qb,simprocAttr];refine⟨λ_ _=>rfl,?_⟩;refine(QmO op (VP x.f.w r xx b) _ l H1 (aq.ext bm ai) aX).w ?_;rintro bG H2 _ ah ⟨aS,aj⟩;have b8:0<=VP x.f.w r xx b∧VP x.f.w r xx b<=15:=by unfold VP;omega
 have aR:∀n∈chF (VP x.f.w r xx b) l,-1<=n∧n<=15:=by
  intro n q;unfold chF at q;split at q
  ·split at q;·cases q
   simp at q;omega
  split at q;·simp at q;omega
  simp at q;omega
 have b9:(chF (VP x.f.w r xx b) l).length<=2:=by
  unfold chF;split;·split<;>simp
  split<;>simp
 generalize chF (VP x.f.w r xx b) l=C at *;have bg:=aS.sl;obtain⟨aH,aI,rfl,aO⟩:=bg;simp only[Qb,simprocAttr];have e3:x.cells[3]? = some (.Z x.f.pre):=rfl;have e4:x.cells[4]? = some (.Z x.f.map):=rfl;have bz:∀B:Env,B 3=A 3->B 4=A 4->HdF H H2 x op (.slice a0 l.length cap) B:=λB an ao=>aN.go aj ah an ao;have ay:=ai.trans aj;have aY:=ay.y;refine Qu (λm A' H'=>∃ (i:Nat) (v:Value),i<=C.length∧m=C.length - i∧Ext H2 H'∧GY 22 H2 H' v ((C.take i).map λn=>QbS x.f.pre n++Gb x.f.map)∧H'.Wf∧A' 3=.P H.y∧A' 14=v∧A' 77=.slice aH C.length aI∧A' 78=.Z C.length∧A' 79=.Z i) C.length ?_ ?_
 ·refine⟨0,.slice none 0 0,L7 _,by omega,.refl _,GY.nil (by decide) _ _,ah,?_,?_,?_,?_,?_⟩
  all_goals simp only[Qd,simprocAttr,r3]
  all_goals rfl
 rintro m A' H' ⟨i,v,hi,rfl,ab,ag,ax,ak,aE,aF,aG,am⟩;simp only[QcH,Qb,simprocAttr,aG,am];refine Qg (λaa=>?_) (λaa=>?_)
 ·have aa:i<C.length:=by have:=Lg aa;omega
  obtain⟨n,q⟩:∃n,C[i]? = some n:=⟨_,La aa⟩;have aZ:=aR n (Ln q);obtain⟨b',e',bu,rfl,av⟩:=aO (by omega);have aW:H'.get b'=some (.cells (ints C) e' bu):=by rw[ab.get b' (ah.lt av)];exact av
  have aQ:(ints C)[i]? = some (.Z n):=by unfold ints;rw[LD,q];rfl
  have d1:(0:Int)<=i∧(i:Int)<C.length:=by omega
  have d3:(i:Int).toNat=i:=by omega
  have aL:IntKind.i64.wrap ((i:Int)+1)=((i+1:Nat):Int):=by rw[w64 (by unfold I64;omega)];omega
  have ad:H'.get H.y=some (.C x.cells 57):=by rw[(aj.trans ab).get _ (by omega)];exact g3
  simp only[QcG,Qb,simprocAttr,ak,aF,am,d1,d3,aW,aQ,ad,e3];refine(QBi x.f.pre n ar.pre aZ H').w ?_;rintro _ H3 _ bn ⟨v3,rfl,aT,az⟩;have aM:H3.get H.y=some (.C x.cells 57):=by rw[az.get _ (ax.lt ad)];exact ad
  simp only[Qb,simprocAttr,LO,ak,aE,aM,e4];refine(Qom x.f.map H3).w ?_;rintro bH H4 _ bo ⟨aU,aA⟩;have bB:(Gb x.f.map).length<=2:=by unfold Gb;repeat' (split<;>try simp)
  have bC:(QbS x.f.pre n).length<=4:=by
   unfold QbS QaN;simp only[Lh];have bx:(if x.f.pre % 2=1 then([102]:List Int) else[]).length<=1:=by split<;>simp
   have aa:(if x.f.pre / 2 % 2=1 then([242]:List Int) else[]).length<=1:=by split<;>simp
   have an:(if x.f.pre / 4 % 2=1 then([243]:List Int) else[]).length<=1:=by split<;>simp
   have ao:(if 0<=n then([64+n]:List Int) else[]).length<=1:=by split<;>simp
   omega
  simp only[Qb,simprocAttr];refine V6 (aT.go bn aA) (az.trans aA) bo aU.src (Vu _) (by rw[Yn,NH]) (by omega) (by omega) ?_;intro bI H5 au ae;obtain⟨a5,ac,rfl⟩:=au.slc;simp only[Qb,simprocAttr];have aB:=(Ext.refl H5).push (.C [.slice a5 ((QbS x.f.pre n).length+(Gb x.f.map).length) ac] 22);have aC:=ae.x.trans aB;have ba:=ab.y;have aV:Gx 1 5 H2 (H5.push (.C [.slice a5 ((QbS x.f.pre n).length+(Gb x.f.map).length) ac] 22)) (.slice a5 ((QbS x.f.pre n).length+(Gb x.f.map).length) ac) (QbS x.f.pre n++Gb x.f.map).length (bys (QbS x.f.pre n++Gb x.f.map)):=by
   rw[Lh,QaJ];exact(au.go ae.w aB).down ba
  have bA:((C.take i).map λn=>QbS x.f.pre n++Gb x.f.map).length<=2:=by rw[Nn,Sb];omega
  refine Qt1 (ag.go ax aC) (ab.trans aC) (ae.w.push _) aV (QoP H5 _) (by omega) (by omega) ?_;intro bw H7 bi aw;simp only[Qb,simprocAttr,am,aL];refine⟨C.length - (i+1),by omega,i+1,bw,by omega,rfl,aw.x,?_,aw.w,?_,?_,?_,?_,?_⟩
  ·have:(C.take (i+1)).map (λn=>QbS x.f.pre n++Gb x.f.map)=(C.take i).map (λn=>QbS x.f.pre n++Gb x.f.map)++[QbS x.f.pre n++Gb x.f.map]:=by
    rw[Nv,q,N6];rfl
   rw[this];exact bi
  all_goals simp only[Qd,simprocAttr,ak,aF,aG]
 have aa:i=C.length:=by have:=Ll aa;omega
 subst aa;rw[Nr]at ag;simp only[Qb,simprocAttr,aE,QdI];have aD:=ay.trans ab;exact .mk aD.y ⟨by rw[aK];exact ag.down aY,aD⟩
def QnO {l:List Ar}{i:Nat}{a:Ar}(h:l[i]? = some a):(Ql l)[i * 11+1+1]? = some (.Z a.r.n):=by
 have q:=Qe1 h;have:=congrArg (·[1]?) q;simp only[Nl,Nk]at this;simpa using this
def QK3 (ap:H.Wf)(hx:x.At H)(aH:Wg H va l)(ba:l.length<=1000)(bh:x.f.slots.length=l.length){r xx b:Int}{y:Vx}(aS:y.Ok)(aj:y=⟨r,xx,b,x.f.map,QqE x.f.w,QlG x.f l 3,x.f.l,x.f.pre⟩){W:List (List Int)}(az:W=QqC y (x.f.w==-1)){A:Env}{H1:Qa}(aG:HdF H H1 x op va A)(aY:A 7=.Z r)(r8:A 8=.Z xx)(aZ:A 9=.Z b)(ks:Kp)(aM:ks=⟨KH H W,X4⟩)(k:Env->Qa->Prop):
  Qm Pg Gt ks k A H1:=by
 subst aM;obtain⟨a0,cap,rfl,aI⟩:=id aH;obtain⟨ar,aP,g3,g4,bc,r3,r4⟩:=aG;have e3:x.cells[3]? = some (.Z x.f.pre):=rfl;have e4:x.cells[4]? = some (.Z x.f.map):=rfl;have ai:x.cells[7]? = some (.Z x.f.w):=rfl;have ay:x.cells[9]? = some (.Z x.f.l):=rfl;have ax:x.cells.take 10=x.cells:=rfl;have aT:10<=x.cells.length:=Lb _;have aK:=QqD x.f.slots 3;simp only[Gt,Qb,simprocAttr,r3,aY,r8,aZ,g3,e4,ai];rw[QFj (ik:=.i64) (a:=x.f.w) (b:=0) (by simp only[Qd,simprocAttr]) (by simp only[Qd,simprocAttr])];simp only[Qb,simprocAttr,r3,g3,e3,ay];generalize ab:(Qa.push H1 _).set _ _=H2;have ac:Ext H1 H2:=by rw[<- ab];exact((Ext.refl H1).push _).set (Lb _) _
 have aQ:H2.Wf:=by rw[<- ab];exact(aP.push _).set (b0:=.C [.Z 0,.Z 0,.Z 0,.Z 0,.Z 0,.Z 0,.Z 0,.Z 0] 134) (by rw[Qc,Lc rfl]) _
 have g2:H2.get H1.y=some (.C [.Z r,.Z xx,.Z b,.Z x.f.map,.Z (QqE x.f.w),.Z 0,.Z x.f.l,.Z x.f.pre] 134):=by rw[<- ab,Qj,Lc rfl];rfl
 have aC:H2.get H.y=some (.C x.cells 57):=by rw[ac.get _ (by omega)];exact g3
 clear ab;have aw:¬H.y=H1.y:=by omega
 simp only[Qb,simprocAttr,aw,ax];refine⟨aT,?_⟩;refine(QG x 3 H2 (hx.ext ap (ar.trans ac))).w ?_;rintro _ _ ao aq ⟨rfl,k3,rfl⟩;simp only[Q8]at ao;have ah:=(ar.trans ac).up ao;have bd:=aQ.lt g2;have aa:=g2;have ae:=aC;rw[<- XB H2 k3]at aa ae;have aD:(H2.up k3).get (H.y+1)=some (.C [.Z op,.slice a0 l.length cap] 26):=by rw[XB,ac.get _ (by omega)];exact g4
 have bg:H1.y<(H2.up k3).y:=by rw[Q8];omega
 generalize H2.up k3=H3 at *
 -- the end: the VEX stands in its block
 have am:∀ (A2:Env) (H4:Qa),Ext H H4->H4.Wf->H4.get H1.y=some (.C y.cells 134)->H4.get H.y=some (.C x.cells 57)->A2 3=.P H.y->A2 10=.P H1.y->Qm Pg Gs ⟨KH H W,X4⟩ k A2 H4:=by
  intro A2 H4 au bi aF aE aW aV;have aX:=QBj aS (x.f.w==-1) H4;have aB:y.cells.take 8=y.cells:=rfl;have aU:8<=y.cells.length:=Lb _;simp only[Gs,Qb,simprocAttr,aW,aV,aF,aE,aB,ai];refine⟨aU,?_⟩;refine aX.w ?_;rintro _ H5 _ bj ⟨v,rfl,aO,aR⟩;simp only[Qb,simprocAttr,LO,QdI];have av:=au.trans aR;exact .mk av.y ⟨by rw[az];exact aO.down au.y,av⟩
 simp only[Qb,simprocAttr];refine Qg (λh=>?_) (λh=>?_)
 ·have ag:0<=Qh x.f.slots 3:=Lg h;have q:QlG x.f l 3=((l[(Qh x.f.slots 3).toNat]?.getD WN).r).n:=by unfold QlG;rw[Lc ag]
  obtain⟨i,hi⟩:∃i:Nat,Qh x.f.slots 3=i:=⟨(Qh x.f.slots 3).toNat,by omega⟩;rw[hi]at aK q ⊢;have aL:i<l.length:=by omega
  obtain⟨a,ak⟩:∃a,l[i]? = some a:=⟨_,La aL⟩;obtain⟨b',e,ro,rfl,an⟩:=aI (by omega);have aJ:H3.get b'=some (.cells (Ql l) e ro):=by rw[ah.get b' (ap.lt an)];exact an
  have aN:=QnO ak;have d1:(0:Int)<=i∧(i:Int)<l.length:=by omega
  have d3:(i:Int).toNat=i:=by omega
  have aA:QlG x.f l 3=a.r.n:=by rw[q,d3,ak];rfl
  have ad:y.cells=[.Z r,.Z xx,.Z b,.Z x.f.map,.Z (QqE x.f.w),.Z a.r.n,.Z x.f.l,.Z x.f.pre]:=by rw[aj,aA];rfl
  simp only[Qb,simprocAttr,r4,aD,d1,d3,aJ,aN,aa];refine am _ _ (ah.set (by omega) _) (aq.set aa _) ?_ ?_ ?_ ?_;·rw[Qj,Lc rfl,ad]
  ·rw[Qj,Le aw];exact ae
  all_goals simp only[Qd,simprocAttr,r3]
 have ag:¬0<=Qh x.f.slots 3:=Ll h;have q:QlG x.f l 3=0:=by unfold QlG;rw[Le ag]
 have ad:y.cells=[.Z r,.Z xx,.Z b,.Z x.f.map,.Z (QqE x.f.w),.Z 0,.Z x.f.l,.Z x.f.pre]:=by rw[aj,q];rfl
 simp only[Qb,simprocAttr];refine am _ H3 ah aq (by rw[ad];exact aa) ae ?_ ?_
 all_goals simp only[Qd,simprocAttr,r3]
end
def QqF {x:Lf}{op:Int}{va:Value}{l:List Ar}(aT:FOk x.f)(H:Qa)(hx:x.At H)(ah:Wg H va l)(aW:∀n,H.y<=n->Qp n 6 (.agg #[.Z op,va])=true)(aj:l.length<=1000)(au:x.f.slots.length=l.length){aa q:Int}(aV:0<=aa∧aa<2)(aU:0<=q∧q<2)(bc:x.f.vex=true->(vxF x.f l aa q).Ok){aH:Option Addr}{aI sc:Nat}:
  Qe Pg 145 [.agg x.cells.toArray,.agg #[.Z op,va],.agg #[.slice aH aI sc,.Z aa,.Z q]] H λv H'=>GY 22 H H' v (GQ x.f l aa q)∧Ext H H':=by
 refine Qn8 λab=>?_;have aL:(Value.agg x.cells.toArray).cells.toList=x.cells:=rfl;have am:x.cells.take 10=x.cells:=rfl;have aJ:x.cells[8]? = some (.bool x.f.vex):=rfl;have ax:10<=x.cells.length:=Lb _;obtain⟨W,an⟩:∃W,W=GQ x.f l aa q:=⟨_,rfl⟩;rw[<- an];obtain⟨a0,cap,rfl⟩:=Xt ah;simp only[Qfw,aL,QbZ,simprocAttr];generalize ag:Qa.push H (.C x.cells 57)=H1;have g1:H1.get H.y=some (.C x.cells 57):=by rw[<- ag,Qc,Lc rfl]
 have aZ:Ext H H1:=by rw[<- ag];exact(Ext.refl H).push _
 have aB:H1.y=H.y+1:=by rw[<- ag];rfl
 have aX:H1.Wf:=by rw[<- ag];exact ab.push _
 clear ag;simp only[Qb,simprocAttr,aB];generalize ac:Qa.push (Qa.push H1 _) _=H2;have av:Ext H H2:=by rw[<- ac];exact(aZ.push _).push _
 have bn:H2.Wf:=by rw[<- ac];exact(aX.push _).push _
 have aM:H2.get H.y=some (.C x.cells 57):=by rw[<- ac,Qc,Le (by rw[Qf];omega),Qc,Le (by omega)];exact g1
 have ay:H2.get (H.y+1)=some (.C [.Z op,.slice a0 l.length cap] 26):=by rw[<- ac,Qc,Le (by rw[Qf];omega),Qc,Lc (by omega)]
 have aN:H2.get (H.y+2)=some (.C [.slice aH aI sc,.Z aa,.Z q] 159):=by rw[<- ac,Qc,Lc (by rw[Qf];omega)]
 have bh:H2.y=H.y+3:=by rw[<- ac,Qf,Qf,aB]
 clear ac;have bd:¬H.y=H.y+1+1:=by omega
 have bp:¬H.y+1=H.y+1+1:=by omega
 have aQ:=QhO x.f l 1;have aR:=QhO x.f l 4;simp only[Qb,simprocAttr,bd,g1,ay,am];refine⟨ax,⟨by omega,by omega⟩,?_⟩;refine(QiV x op _ l 1 H2 (hx.ext ab av) (ah.ext ab av) aj au).w ?_;rintro _ H3 bi bo ⟨rfl,ad⟩;have aD:=av.trans ad;have az:=(ad.get H.y (by omega)).trans aM;have aO:=(ad.get (H.y+1) (by omega)).trans ay;have aP:=(ad.get (H.y+2) (by omega)).trans aN;have ba:=ad.eqB;simp only[Qb,simprocAttr,az,aP,am];refine⟨ba,by simp[Qp,Ab.plain],by simp[Qp,Ab.plain],ax,?_⟩;refine(QG x 4 H3 (hx.ext ab aD)).w ?_;rintro _ _ aC aY ⟨rfl,k4,rfl⟩;simp only[Q8]at aC;have aw:=aD.up aC;have ao:=az;have ap:=aO;rw[<- XB H3 k4]at ao ap;have bj:H.y+3<=(H3.up k4).y:=by rw[Q8];have:=ad.y;omega
 generalize H3.up k4=H4 at *
 -- the last part,with the bit that the opcode's register may give
 have aA:∀ (A:Env) (H5:Qa) (b:Int),Ext H4 H5->H5.Wf->b=hB x.f l q->A 3=.P H.y->A 4=.P (H.y+1)->A 7=.Z (QbU x.f l 1)->A 8=.Z aa->A 9=.Z b->Qm Pg Gu ⟨KH H W,X4⟩ (KH H W) A H5:=by
  intro A H5 b ae ai aK aE bg aF p8 aG;subst aK;have ar:HdF H H5 x op (.slice a0 l.length cap) A:=⟨aw.trans ae,ai,by rw[ae.get _ (by omega)];exact ao,by rw[ae.get _ (by omega)];exact ap,by have:=ae.y;omega,aE,bg⟩;have aS:0<=hB x.f l q∧hB x.f l q<2:=by unfold hB;split;exact aR;exact aU
  simp only[Gu,Qb,simprocAttr,aE,ar.g3,aJ];cases ak:x.f.vex with
  | true=>
   simp only[QbZ,simprocAttr];refine QK3 (y:=vxF x.f l aa q) ab hx ah aj au (bc ak) rfl (by rw[an];unfold GQ;rw[Lc ak]) (ar.go (.refl _) ai ?_ ?_) ?_ ?_ ?_ _ rfl _
   all_goals simp only[Qd,simprocAttr,aF,p8,aG]
  | false=>
   simp only[QbZ,simprocAttr];refine QK2 aT ak ab hx ah aW aj aQ aV aS (by rw[an];unfold GQ;rw[Le (by simp[ak])]) (ar.go (.refl _) ai ?_ ?_) ?_ ?_ ?_
   all_goals simp only[Qd,simprocAttr,aF,p8,aG]
 simp only[Qb,simprocAttr];refine Qg (λh=>?_) (λh=>?_)
 ·have aq:0<=Qh x.f.slots 4:=Lg h;simp only[Qb,simprocAttr,ao,ap,am];refine⟨ax,?_⟩;refine(QiV x op _ l 4 H4 (hx.ext ab aw) (ah.ext ab aw) aj au).w ?_;rintro _ H5 bm ai ⟨rfl,ae⟩;simp only[Qkg,Qey,QhF,Qy5];refine aA _ H5 _ ae ai (by unfold hB;rw[Lc aq]) ?_ ?_ ?_ ?_ ?_
  all_goals simp only[Qd,simprocAttr]
 have aq:¬0<=Qh x.f.slots 4:=Ll h;simp only[Qjb,Qpi];refine aA _ H4 _ (.refl _) aY (by unfold hB;rw[Le aq]) ?_ ?_ ?_ ?_ ?_
 all_goals simp only[Qd,simprocAttr]
