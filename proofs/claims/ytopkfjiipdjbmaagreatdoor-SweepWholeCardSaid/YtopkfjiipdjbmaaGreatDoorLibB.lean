import Derived.Test.YtopkfjiipdjbmaaGreatDoorLibA
import Derived.Test.YtopkfjiipdjbmaaGreatDoorAbD
import Derived.Test.YtopkfjiipdjbmaaGreatDoorLibR
import Derived.Test.YtopkfjiipdjbmaaGreatDoorLibI
set_option linter.defProp false
set_option linter.unusedVariables false
set_option linter.unusedSimpArgs false
set_option maxRecDepth 100000
set_option maxHeartbeats 4000000
noncomputable section
namespace Go.Proofs.YtopkfjiipdjbmaaGreatDoor.code
open Go.Ab
def bys (l:List Int):List Value:=l.map (Value.int .u8)
def ZR (l:List Int):(bys l).length=l.length:=Nn ..
def Qb4 (l m:List Int):bys (l++m)=bys l++bys m:=N6 ..
def Qb5 (l:List Int):(bys l).all (·.oneCell')=true:=by
 rw[Li];intro v aa;obtain⟨z,_,rfl⟩:=N4.1 aa;rfl
def inB (v:Value)(id:Nat):Prop:=∃o n c,v=.slice (some ⟨id,o,none⟩) n c
def Gx (size:Nat)(e:TypeId)(H0 H:Qa)(v:Value)(n:Nat)(cs:List Value):Prop:=(v=.slice none 0 0∧n=0∧cs=[])∨∃b cap,v=.S b n cap∧H0.y<=b∧H.get b=some (.C cs e)∧cs.length=n * size∧(cap=n∨cap=UNK+size∧0<n)
def Gx.ext {size:Nat}{e:TypeId}{H0 H H':Qa}{v:Value}{n:Nat}{cs:List Value}(h:Gx size e H0 H v n cs)(ad:∀id,inB v id->H'.get id=H.get id):Gx size e H0 H' v n cs:=by
 rcases h with h | ⟨b,c,rfl,aa,ab,ac⟩;·exact .inl h
 exact .inr ⟨b,c,rfl,aa,by rw[ad b ⟨_,_,_,rfl⟩];exact ab,ac⟩
def Gx.go {size:Nat}{e:TypeId}{H0 H H':Qa}{v:Value}{n:Nat}{cs:List Value}(h:Gx size e H0 H v n cs)(ad:H.Wf)(hx:Ext H H'):Gx size e H0 H' v n cs:=by
 rcases h with h | ⟨b,c,rfl,ab,aa,ac⟩;·exact .inl h
 exact .inr ⟨b,c,rfl,ab,by rw[hx.get b (ad.lt aa)];exact aa,ac⟩
def Gx.low {size:Nat}{e:TypeId}{H0 H:Qa}{v:Value}{n:Nat}{cs:List Value}(h:Gx size e H0 H v n cs)(ac:H.Wf){id:Nat}(hi:inB v id):H0.y<=id∧id<H.y:=by
 obtain⟨o,ae,c,rfl⟩:=hi;rcases h with⟨h,_,_⟩ | ⟨b,c,h,aa,ab,ad⟩;·cases h
 cases h;exact⟨aa,ac.lt ab⟩
def Gx.sl {size:Nat}{e:TypeId}{H0 H:Qa}{v:Value}{n:Nat}{cs:List Value}(h:Gx size e H0 H v n cs):Qaa H v n cs:=by
 rcases h with⟨rfl,rfl,rfl⟩ | ⟨b,c,rfl,ab,aa,ac⟩;·exact⟨none,0,rfl,λh=>absurd h (NX 0)⟩
 exact⟨_,_,rfl,λ_=>⟨b,e,false,rfl,aa⟩⟩
def Gx.slc {size:Nat}{e:TypeId}{H0 H:Qa}{v:Value}{n:Nat}{cs:List Value}(h:Gx size e H0 H v n cs):∃a c,v=.slice a n c:=by
 rcases h with⟨rfl,rfl,rfl⟩ | ⟨b,c,rfl,_⟩;·exact⟨_,_,rfl⟩
 exact⟨_,_,rfl⟩
def Gx.down {size:Nat}{e:TypeId}{H0 H1 H:Qa}{v:Value}{n:Nat}{cs:List Value}(h:Gx size e H1 H v n cs)(hx:H0.y<=H1.y):Gx size e H0 H v n cs:=by
 rcases h with h | ⟨b,c,rfl,ac,aa,ab⟩;·exact .inl h
 exact .inr ⟨b,c,rfl,by omega,aa,ab⟩
def Gx.src {size:Nat}{e:TypeId}{H0 H:Qa}{v:Value}{n:Nat}{cs:List Value}(h:Gx size e H0 H v n cs):YX size v H=some (n,cs):=by
 rcases h with⟨rfl,rfl,rfl⟩ | ⟨b,c,rfl,ac,ab,ad,_⟩;·simp[YX]
 by_cases aa:n=0;·subst aa;have:cs=[]:=N2.1 (by omega);subst this;simp[YX]
 rw[KM ab aa (by omega),Lw,LF (by omega)]
structure GK (v v':Value) (H0 H H':Qa):Prop where
 x:Ext H0 H'
 w:H'.Wf
 keep:∀id,id<H.y->¬inB v id->H'.get id=H.get id
 y:H.y<=H'.y
 new:∀id,inB v' id->inB v id∨H.y<=id
def Qdk {size:Nat}{e bytes:Nat}{H0 H:Qa}{v x:Value}{n m:Nat}{cs ms:List Value}{k:Value->Qa->Prop}(ao:Gx size e H0 H v n cs)(hx:Ext H0 H)(ab:H.Wf)(ah:YX size x H=some (m,ms))(an:ms.all (·.oneCell')=true)(al:ms.length=m * size)(ad:(n+m) * bytes<=140737488355328)(aq:n+m<=9223372036854775807)
  (h:∀ap H',Gx size e H0 H' ap (n+m) (cs++ms)->GK v ap H0 H H'->k ap H'):Qdv e size bytes v x H k:=by
 have am:=hx.y
 by_cases ag:m=0
 ·subst ag;have ax:ms=[]:=N2.1 (by omega);subst ax;have aA:Y7 e size bytes v x H=some (v,H):=by
   unfold Y7;rw[ah];rcases ao with⟨rfl,rfl,rfl⟩ | ⟨b,c,rfl,au,ac,ai,aj⟩;·rfl
   simp only[BI,N3];rw[Lc];rcases aj with rfl | ⟨rfl,_⟩;·first | exact .inl (Lb _) | exact .inl (by omega) | simp
   first | exact .inl (by omega) | simp
  unfold Qdv;rw[aA,Qs];rw[N9,Na]at h;exact h v H ao ⟨hx,ab,λ_ _ _=>rfl,Lb _,λid hi=>.inl hi⟩
 rcases ao with⟨rfl,rfl,rfl⟩ | ⟨b,c,rfl,au,ac,ai,aj⟩;·refine Qe2 ah an ag (by rw[LP]at ad;exact ad) (by omega) (h _ _ (.inr ⟨H.y,_,by rw[LP],am,by rw[Qc,Lc rfl,LH],by rw[LH,LP];exact al,.inr ⟨rfl,by omega⟩⟩) ⟨hx.push _,ab.push _,λid ae _=>by rw[Qc,Le (by omega)],by rw[Qd];omega,?_⟩);rintro id ⟨o,ar,c,aa⟩;cases aa;exact .inr (Lb _)
 have aB:=ab.lt ac;rcases Nq c UNK with ak | ak
 ·have av:c=n:=by rcases aj with h | h;exact h;omega
  subst av;have e1:(cs.drop 0).take (c * size)++ms=cs++ms:=by rw[Lw,LF (by omega)]
  refine QjJ ah an ag ac (by omega) ad aq ak (by omega) (h _ _ (.inr ⟨H.y,_,rfl,am,by rw[Qc,Lc rfl,e1],by rw[Lh,ai,al,Ry],.inr ⟨rfl,by omega⟩⟩) ⟨hx.push _,ab.push _,λid ae _=>by rw[Qc,Le (by omega)],by rw[Qd];omega,?_⟩);rintro id ⟨o,ar,c,aa⟩;cases aa;exact .inr (Lb _)
 refine Qin rfl ah an ag ac (by rw[LP];omega) ad aq ak (h _ _ (.inr ⟨H.y,_,rfl,am,?_,by rw[Lh,ai,al,Ry],.inr ⟨rfl,by omega⟩⟩) ⟨?_,?_,?_,by rw[Qd,QaN];omega,?_⟩);·rw[Qc,QaN,Lc rfl,Lw]
 ·refine⟨by rw[Qd,QaN];omega,λid ae=>?_⟩;rw[Qc,QaN,Le (by omega),Q0,Le (by omega)];exact hx.get id ae
 ·exact(ab.kill b).push _
 ·intro id ae ay;have az:¬id=b:=λh=>ay ⟨_,_,_,by rw[h]⟩;rw[Qc,QaN,Le (by omega),Q0,Le az]
 rintro id ⟨o,ar,c,aa⟩;cases aa;exact .inr (Lb _)
def QEZ {size:Nat}{e bytes:Nat}{H0 H:Qa}{v x:Value}{n m:Nat}{cs ms:List Value}{k:Value->Qa->Prop}(an:Gx size e H0 H v n cs)(al:∃a,v=.slice a n n)(ah:H.Wf)(ag:YX size x H=some (m,ms))(ae:ms.all (·.oneCell')=true)(ac:m≠0)(ad:ms.length=m * size)(aa:(n+m) * bytes<=140737488355328)(am:n+m<=9223372036854775807)(ao:n<UNK)
  (h:∀ab H',Gx size e H H' ab (n+m) (cs++ms)->Ext H H'->H'.Wf->(∃b,ab=.S b (n+m) (UNK+size))->k ab H'):Qdv e size bytes v x H k:=by
 rcases an with⟨rfl,rfl,rfl⟩ | ⟨b,c,rfl,ap,ai,aj,aq⟩;·refine Qe2 ag ae ac (by rw[LP]at aa;exact aa) (by omega) (h _ _ (.inr ⟨H.y,_,by rw[LP],Lb _,by rw[Qc,Lc rfl,LH],by rw[LH,LP];exact ad,.inr ⟨rfl,by omega⟩⟩) ((Ext.refl H).push _) (ah.push _) ⟨_,by rw[LP]⟩)
 obtain⟨a,ak⟩:=al;cases ak;have e1:(cs.drop 0).take (n * size)++ms=cs++ms:=by rw[Lw,LF (by omega)]
 exact QjJ ag ae ac ai (by omega) aa am ao (by omega) (h _ _ (.inr ⟨H.y,_,rfl,Lb _,by rw[Qc,Lc rfl,e1],by rw[Lh,aj,ad,Ry],.inr ⟨rfl,by omega⟩⟩) ((Ext.refl H).push _) (ah.push _) ⟨_,rfl⟩)
def QHA {size:Nat}{e:TypeId}{H0 H:Qa}{v:Value}{n:Nat}{cs:List Value}(h:Gx size e H0 H v n cs)(ah:n<UNK):∃a,Y3 size v none (some (n:Int)) (some (n:Int))=some (.slice a n n)∧Gx size e H0 H (.slice a n n) n cs:=by
 rcases h with⟨rfl,rfl,rfl⟩ | ⟨b,c,rfl,ab,ac,ad,ag⟩;·exact⟨none,rfl,.inl ⟨rfl,rfl,rfl⟩⟩
 refine⟨some ⟨b,0,none⟩,?_,.inr ⟨b,n,rfl,ab,ac,ad,.inl rfl⟩⟩;unfold Y3;simp only[Br,NB];rcases Nq c UNK with aa | aa
 ·rw[Le (by omega),Lc (by omega),show(n:Int).toNat - (0:Int).toNat=n by omega]
  by_cases ae:n=0;·subst ae;rfl
  rw[Le (by omega),show 0+(0:Int).toNat * size=0 by simp]
 rw[Lc aa,Lc (by omega),show(n:Int).toNat - (0:Int).toNat=n by omega,show 0+(0:Int).toNat * size=0 by simp]
def QHR (n bits:Int):Int:=if Zu bits=false then 0 else IntKind.i64.wrap ((IntKind.u64.wrap (IntKind.u64.wrap n * 2 ^ (min (64 - bits).toNat 64))).fdiv (2 ^ (min (64 - bits).toNat 64)))
def Qye (n bits:Int)(H:Qa):Qe Pg 304 [.Z n,.Z bits] H λu H'=>u=.Z (QHR n bits)∧H'=H:=by
 refine QvV λab=>?_;simp only[Qni,Qb,simprocAttr];refine(KU bits H).w ?_;rintro _ H _ ab ⟨rfl,rfl⟩;simp only[Qb,simprocAttr];cases q:Zu bits with
 | false=>
  simp only[Qb,simprocAttr,QkF];exact .mk (Lb _) ⟨by rw[QHR,Lc q],rfl⟩
 | true=>
  have ad:1<=bits∧bits<=64:=by simpa[Zu] using q
  have e:IntKind.i64.wrap (64 - bits)=64 - bits:=w64 (by unfold I64;omega);have aa:0<=64 - bits:=by omega
  have b1:IntKind.u64.bits=64:=rfl;have ac:IntKind.i64.bits=64:=rfl;simp only[Qb,simprocAttr,e,aa,b1,QkF];exact .mk (Lb _) ⟨by rw[QHR,Le (by simp[q])],rfl⟩
def QBB (n bits:Int):Bool:=Zu bits&&(QkV n bits==n||QHR n bits==n)
def Qv5 (n bits:Int)(H:Qa):Qe Pg 280 [.Z n,.Z bits] H λu H'=>u=.bool (QBB n bits)∧H'=H:=by
 refine Qts λaa=>?_;have ab:=λH=>KU bits H;have ac:=λH=>QgH n bits H;have ad:=λH=>Qye n bits H;unfold QBB;simp only[QkC,Qb,simprocAttr];refine(ab H).w ?_;rintro _ H _ aa ⟨rfl,rfl⟩;cases Zu bits with
 | false=>
  simp only[Qb,simprocAttr,QcU];exact .mk (Lb _) ⟨rfl,rfl⟩
 | true=>
  simp only[Qb,simprocAttr];refine(ac H).w ?_;rintro _ H _ aa ⟨rfl,rfl⟩;simp only[Qb,simprocAttr];cases QkV n bits==n with
  | true=>
   simp only[Qb,simprocAttr,QcU];exact .mk (Lb _) ⟨rfl,rfl⟩
  | false=>
   simp only[Qb,simprocAttr];refine(ad H).w ?_;rintro _ H _ aa ⟨rfl,rfl⟩;simp only[Qb,simprocAttr,QcU];exact .mk (Lb _) ⟨rfl,rfl⟩
def QBC (n bits:Int):Bool:=Zu bits&&(QkV n bits==n)
def Qv6 (n bits:Int)(H:Qa):Qe Pg 336 [.Z n,.Z bits] H λu H'=>u=.bool (QBC n bits)∧H'=H:=by
 refine Qtz λaa=>?_;have ab:=λH=>KU bits H;have ac:=λH=>QgH n bits H;unfold QBC;simp only[QkH,Qb,simprocAttr];refine(ab H).w ?_;rintro _ H _ aa ⟨rfl,rfl⟩;cases Zu bits with
 | false=>
  simp only[Qb,simprocAttr,Qja];exact .mk (Lb _) ⟨rfl,rfl⟩
 | true=>
  simp only[Qb,simprocAttr];refine(ac H).w ?_;rintro _ H _ aa ⟨rfl,rfl⟩;simp only[Qb,simprocAttr,Qja];exact .mk (Lb _) ⟨rfl,rfl⟩
def QBD (n:Int)(i:Nat):Int:=IntKind.u8.wrap ((IntKind.u64.wrap n).fdiv (2 ^ (min (8 * i) 64)))
def QlW (n:Int)(sz:Nat):List Int:=(List.range sz).map (QBD n)
def Qak (n sz:Int):List Int×Int:=if QeP sz=false then([],2) else if QBB n (8 * sz)=false then([],5) else(QlW n sz.toNat,0)
def QpN (n sz:Int)(ay:I64 n)(H:Qa):Qe Pg 218 [.Z n,.Z sz] H λu H'=>∃v,u=.tuple #[v,.Z (Qak n sz).2]∧Gx 1 5 H H' v (Qak n sz).1.length (bys (Qak n sz).1)∧Ext H H':=by
 refine QvT λac=>?_;unfold Qak;simp only[Qnd,Qb,simprocAttr];refine(QkU sz H).w ?_;rintro _ H _ ac ⟨rfl,rfl⟩;cases al:QeP sz with
 | false=>
  simp only[Qb,simprocAttr,QeI];exact .mk (Lb _) ⟨_,rfl,.inl ⟨rfl,rfl,rfl⟩,.refl _⟩
 | true=>
  obtain⟨s,aq,aA,az⟩:∃s:Nat,sz=s∧s<=8∧1<=s:=by
   have:sz=1∨sz=2∨sz=4∨sz=8:=by simpa[QeP,or_assoc] using al
   exact⟨sz.toNat,by omega,by omega,by omega⟩
  subst aq;have av:IntKind.i64.wrap (8 * (s:Int))=8 * (s:Int):=w64 (by unfold I64;omega);simp only[Qb,simprocAttr,av];refine(Qv5 n (8 * (s:Int)) H).w ?_;rintro _ H _ ac ⟨rfl,rfl⟩;cases ax:QBB n (8 * (s:Int)) with
  | false=>
   simp only[Qb,simprocAttr,QeI];exact .mk (Lb _) ⟨_,rfl,.inl ⟨rfl,rfl,rfl⟩,.refl _⟩
  | true=>
   simp only[Qb,simprocAttr,reduceCtorEq,LG];refine⟨⟨by omega,by omega,by omega,by omega⟩,?_⟩;refine Qp (λm A' H'=>∃i:Nat,i<=s∧m=s - i∧H'.Wf∧Ext H H'∧H'.get H.y=some (.C (bys (QlW n i)++List.replicate (s - i) (.int .u8 0)) 5)∧A' 0=.Z n∧A' 1=.Z s∧A' 6=.S H.y s s∧A' 18=.Z s∧A' 19=.Z i) s ?_ ?_
   ·refine⟨0,L7 _,by omega,ac.push _,(Ext.refl H).push _,?_,?_,?_,?_,?_,?_⟩
    ·rw[Qc,Lc rfl];have an:XG [Value.int .u8 0].toArray s=List.replicate s (.int .u8 0):=by
      unfold XG;rw[Fv];refine⟨by simp,λb ao=>?_⟩;obtain⟨i,_,rfl⟩:=N4.1 ao;show([Value.int .u8 0].toArray)[i % 1]! = _;rw[Nat.mod_one];rfl
     exact congrArg (λc=>some (Blk.cells c 5 false)) an
    all_goals simp only[Qf,simprocAttr]
    all_goals rfl
   rintro m A' H' ⟨i,hi,rfl,au,hx,ab,r0,r1,ad,ah,ai⟩;simp only[Qb,simprocAttr,ah,ai];refine Qg (λaa=>?_) (λaa=>?_)
   ·have aa:i<s:=by have:=Lg aa;omega
    have d1:(0:Int)<=i∧(i:Int)<s:=by omega
    have d3:(i:Int).toNat=i:=by omega
    have ak:IntKind.i64.wrap ((i:Int)+1)=((i+1:Nat):Int):=by rw[w64 (by unfold I64;omega)];omega
    have aj:IntKind.i64.wrap (8 * (i:Int))=((8 * i:Nat):Int):=by rw[w64 (by unfold I64;omega)];omega
    simp only[Qb,simprocAttr,r0,ad,ai,d1,d3,ak,aj,ab];have ag:(bys (QlW n i)).length=i:=by rw[ZR];simp[QlW]
    have ar:splice (bys (QlW n i)++List.replicate (s - i) (.int .u8 0)) i [.int .u8 (QBD n i)]=bys (QlW n (i+1))++List.replicate (s - (i+1)) (.int .u8 0):=by
     have e1:QlW n (i+1)=QlW n i++[QBD n i]:=by simp[QlW,R0]
     have e2:s - i=(s - (i+1))+1:=by omega
     unfold splice;rw[e1,Qb4,e2,List.replicate_succ,NO (by omega),LF (by omega),B3,ag];have ap:(QlW n i).length=i:=by simp[QlW]
     simp[bys,ap]
    refine⟨by omega,by rw[Lh,ag,List.length_replicate];omega,s - (i+1),by omega,i+1,by omega,rfl,?_,?_,?_,?_,?_,?_,?_,?_⟩;·exact au.set ab _
    ·exact hx.set (Lb _) _
    ·have am:min (((8 * i:Nat):Int)).toNat IntKind.u64.bits=min (8 * i) 64:=rfl;rw[Qh,Lc rfl,<- ar];unfold QBD splice;rw[am];rfl
    all_goals simp only[Qf,simprocAttr,r0,r1,ad,ah]
   have aa:i=s:=by have:=Ll aa;omega
   subst aa;simp only[Qb,simprocAttr,ad,QeI];rw[BJ,List.replicate_zero,Na]at ab;have ae:(QlW n i).length=i:=by simp[QlW]
   exact .mk hx.y ⟨_,rfl,.inr ⟨H.y,i,by rw[ae],Lb _,ab,by rw[ZR,NH],.inl (by rw[ae])⟩,hx⟩
def Xz (r:Rg):Int:=if WC r=true then r.n % 8 else 0
def GI (r:Rg):Int:=if WC r=true then r.n / 8 else 0
def QJ6 {r:Rg}(h:WC r=true):0<=r.n∧r.n<16:=by
 unfold WC Qgw at h;have h:=Lg h;split at h;·simp at h;omega
 split at h;·simp at h;omega
 split at h<;>simp at h<;>omega
def Qv7 (r:Rg):0<=Xz r∧Xz r<8:=by
 unfold Xz;split<;>omega
def Qnv (r:Rg):0<=GI r∧GI r<2:=by
 unfold GI;split;·rename_i h;have:=QJ6 h;omega
 omega
def Qal (r:Rg)(H:Qa):Qe Pg 219 [.agg r.cells.toArray] H λu H'=>u=.Z (Xz r)∧∃k,H'=H.up k:=by
 refine QAq λac=>?_;have q:=Gy r;have ab:=@QJ6 r;unfold Xz;obtain⟨v,ev⟩:∃v,WC r=v:=⟨_,rfl⟩;rw[ev]at q ab ⊢;obtain⟨c,n⟩:=r;simp only[Rg.cells]at q;simp only[Rg.cells,Qr9,Qb,simprocAttr];refine(q _).w ?_;rintro _ _ aa ae ⟨rfl,k,rfl⟩;simp only[Qd,Qw]at aa;cases v with
 | false=>
  simp only[Qb,simprocAttr,QpG];exact .ext ac (((Ext.refl H).push _).up (by rw[Qd];exact aa)) ⟨by simp,_,rfl⟩
 | true=>
  have ad:=ab rfl;simp only[sxA,sxB,Nat.reduceBEq,Nat.reduceEqDiff,reduceCtorEq,mxA,mxB,Nat.reduceAdd,reduceIte,Nat.reduceLeDiff,splice,QpG];have e:n.tmod 8=n % 8:=BM ad.1;exact⟨by decide,.ext ac (((Ext.refl H).push _).up (by rw[Qd];exact aa)) ⟨by rw[e],_,rfl⟩⟩
def Qdo (r:Rg)(H:Qa):Qe Pg 282 [.agg r.cells.toArray] H λu H'=>u=.Z (GI r)∧∃k,H'=H.up k:=by
 refine Qx0 λad=>?_;have q:=Gy r;have ac:=@QJ6 r;unfold GI;obtain⟨v,ev⟩:∃v,WC r=v:=⟨_,rfl⟩;rw[ev]at q ac ⊢;obtain⟨c,n⟩:=r;simp only[Rg.cells]at q;simp only[Rg.cells,QpH,Qb,simprocAttr];refine(q _).w ?_;rintro _ _ aa ag ⟨rfl,k,rfl⟩;simp only[Qd,Qw]at aa;cases v with
 | false=>
  simp only[Qb,simprocAttr,Qnf];exact .ext ad (((Ext.refl H).push _).up (by rw[Qd];exact aa)) ⟨by simp,_,rfl⟩
 | true=>
  have ab:=ac rfl;simp only[sxA,sxB,Nat.reduceBEq,Nat.reduceEqDiff,reduceCtorEq,mxA,mxB,Nat.reduceAdd,reduceIte,Nat.reduceLeDiff,splice,Qnf];have e:IntKind.i64.wrap (n.tdiv 8)=n / 8:=by
   rw[Int.tdiv_eq_ediv_of_nonneg ab.1];have ae:0<=n∧n<16:=ab;exact w64 (show I64 (n / 8) by unfold I64;omega)
  exact⟨by decide,.ext ad (((Ext.refl H).push _).up (by rw[Qd];exact aa)) ⟨by rw[e],_,rfl⟩⟩
def Qv8 (r:Rg):Bool:=(r.c==1)&&decide (4<=r.n)&&decide (r.n<=7)
def QBE (r:Rg):Bool:=(r.c==2)&&WC r
def Qyf (r:Rg)(H:Qa):Qe Pg 315 [.agg r.cells.toArray] H λu H'=>u=.bool (Qv8 r)∧∃k,H'=H.up k:=by
 refine QvZ λab=>?_;obtain⟨c,n⟩:=r;unfold Qv8;simp only[Rg.cells,Qnl,Qb,simprocAttr];cases h:c==1<;>cases aa:decide (4<=n)<;>simp only[Qb,simprocAttr,aa,Qty]
 all_goals exact .ext ab ((Ext.refl H).push _) ⟨by simp,_,rfl⟩
def QAC (r:Rg)(H:Qa):Qe Pg 316 [.agg r.cells.toArray] H λu H'=>u=.bool (QBE r)∧∃k,H'=H.up k:=by
 refine Qx3 λab=>?_;have q:=Gy r;unfold QBE;obtain⟨v,ev⟩:∃v,WC r=v:=⟨_,rfl⟩;rw[ev]at q ⊢;obtain⟨c,n⟩:=r;simp only[Rg.cells]at q;simp only[Rg.cells,QpK,Qb,simprocAttr];cases h:c==2 with
 | false=>
  simp only[Qb,simprocAttr,Qnm];exact .ext ab ((Ext.refl H).push _) ⟨rfl,_,rfl⟩
 | true=>
  simp only[Qb,simprocAttr];refine(q _).w ?_;rintro _ _ aa ac ⟨rfl,k,rfl⟩;simp only[Qd,Qw]at aa;simp only[Qb,simprocAttr,Qnm];exact .ext ab (((Ext.refl H).push _).up (by rw[Qd];exact aa)) ⟨rfl,_,rfl⟩
def QR (h m l:Int):Int:=h * 64+m * 8+l
def QFe:∀h:Fin 4,∀m:Fin 8,∀l:Fin 8,IntKind.u8.wrap (IntKind.i64.wrap (BitVec.ofInt IntKind.i64.bits (IntKind.i64.wrap (BitVec.ofInt IntKind.i64.bits (IntKind.i64.wrap ((h:Nat) * 2 ^ min ((6:Int)).toNat IntKind.i64.bits)) ||| BitVec.ofInt IntKind.i64.bits (IntKind.i64.wrap ((m:Nat) * 2 ^ min ((3:Int)).toNat IntKind.i64.bits))).toNat) ||| BitVec.ofInt IntKind.i64.bits ((l:Nat):Int)).toNat)=QR (h:Nat) (m:Nat) (l:Nat):=by decide +kernel
def Yq (h m l:Int)(aa:0<=h∧h<4)(ac:0<=m∧m<8)(ab:0<=l∧l<8)(H:Qa):Qe Pg 281 [.Z h,.Z m,.Z l] H λu H'=>u=.int .u8 (QR h m l)∧H'=H:=by
 refine Qtt λad=>?_;simp only[QkD,sxA,sxB,Nat.reduceBEq,Nat.reduceEqDiff,reduceCtorEq,mxA,mxB,Nat.reduceAdd,reduceIte,Nat.reduceLeDiff,splice,Qsa];have e:=QFe ⟨h.toNat,by omega⟩ ⟨m.toNat,by omega⟩ ⟨l.toNat,by omega⟩;simp only[Bi aa.1,Bi ac.1,Bi ab.1]at e;refine⟨by decide,by decide,.mk (Lb _) ⟨?_,rfl⟩⟩;rw[<- e]
def Qex (n sz:Int)(aa:I64 n)(H:Qa):Qe Pg 307 [.Z n,.Z sz] H λv H'=>Gx 1 5 H H' v (Qak n sz).1.length (bys (Qak n sz).1)∧Ext H H':=by
 refine QvW λac=>?_;simp only[Qnj,Qb,simprocAttr];refine(QpN n sz aa H).w ?_;rintro _ H1 _ ad ⟨v,rfl,ab,hx⟩;simp only[Qb,simprocAttr,Qtv];exact .mk hx.y ⟨ab,hx⟩
def noK:CallF:=λ_ _ _=>none
def QFf:CallOk Pg noK:=λ_ _ _ _ _ h=>by cases h
def isW (u:Value):Option (Value×Qa)->Bool
 | some (v,_)=>Qch 6 u v
 | none=>false
def Qyg {F G k:Nat}{f:FuncId}{args:List Value}{u:Value}(aa:entered Pg f=true)(ab:args.all Ab.plain=true)(ae:Ab.plain u=true)(h:isW u ((run Pg noK F G k).fn f args (H0 Pg))=true)(H:Qa):Qe Pg f args H λv H'=>v=u∧H'=H:=by
 unfold isW at h;split at h;·rename_i v H1 ad;have ac:=((Qe1 QFf k).fn f args _ _ H1 ad).does aa;have e:u=v:=GP 6 _ _ h;subst e;exact QeB aa (Qxc ac ab ae H)
 cases h
def Qam (n:Int):Int:=if n=2 then 1 else if n=4 then 2 else if n=8 then 3 else 0
def Qyh (n:Int):0<=Qam n∧Qam n<4:=by unfold Qam;repeat' (split<;>try omega)
def QAD:(([1,2,4,8]:List Int).all λn=>isW (.Z (Qam n)) ((run Pg noK 100 5 10).fn 309 [.Z n] (H0 Pg)))=true:=by kernel_rfl
def Qk0 (n:Int)(aa:Wz n=true)(H:Qa):Qe Pg 309 [.Z n] H λu H'=>u=.Z (Qam n)∧H'=H:=by
 have ab:n∈([1,2,4,8]:List Int):=by
  unfold Wz at aa;simp only[Nw,L0]at aa;simp only[LK,Ns,NN];omega
 exact Qyg (by kernel_rfl) rfl rfl (Li.1 QAD n ab) H
structure Ld where
 b:List Int
 x:Int
 h:Int
 deriving DecidableEq
def LdV (H0 H:Qa)(w:Ld)(v:Value):Prop:=∃s,v=.agg #[s,.Z w.x,.Z w.h]∧Gx 1 5 H0 H s w.b.length (bys w.b)
def Qjn (n sz:Int)(h:sz<=8):(Qak n sz).1.length<=8:=by
 unfold Qak;split;·simp
 split;·simp
 simp[QlW];omega
def QgI (mid:Int)(aa:Rg)(f d:Int):Ld:=⟨[QR 0 mid 4,bif isR aa 0 0 then QR 0 4 5 else QR (Qam f) (Xz aa) 5]++(Qak d 4).1,GI aa,0⟩
def Qk1 (mid:Int)(aa:Rg)(f d:Int)(aH:0<=mid∧mid<8)(aE:isR aa 0 0=false->Wz f=true)(aC:I64 d)(H:Qa):
  Qe Pg 308 [.Z mid,.agg aa.cells.toArray,.Z f,.Z d] H λv H'=>LdV H H' (QgI mid aa f d) v∧Ext H H':=by
 refine Qse λaL=>?_;have ap:=Qv7 aa;have aJ:=Qyh f;have ak:=Qal aa;have al:=Qdo aa;have aY:=Qjn d 4 (by decide);have aD:(aa.c==0&&aa.n==0)=isR aa 0 0:=rfl;have az:QR 0 4 5=37:=rfl;obtain⟨w,ab⟩:∃w,w=QgI mid aa f d:=⟨_,rfl⟩;rw[<- ab];unfold QgI at ab;obtain⟨lo,an⟩:∃lo,Xz aa=lo:=⟨_,rfl⟩;obtain⟨hi,am⟩:∃hi,GI aa=hi:=⟨_,rfl⟩;rw[an]at ak ap ab;rw[am]at al ab;clear an am;obtain⟨c,n⟩:=aa;simp only[Rg.cells]at ak al;simp only[Rg.cells,Qi4,Qb,simprocAttr];generalize ac:Qa.push (Qa.push H _) _=H1;have av:Ext H H1:=by rw[<- ac];exact((Ext.refl H).push _).push _
 have aM:H1.Wf:=by rw[<- ac];exact(aL.push _).push _
 have ag:H1.get H.y=some (.C [.Z c,.Z n] 68):=by rw[<- ac,Qc,Le (by rw[Qd];omega),Qc,Lc rfl]
 have g1:H1.get (H.y+1)=some (.C [.slice none 0 0,.Z 0,.Z 0] 210):=by rw[<- ac,Qc,Lc (by rw[Qd])]
 have aX:H1.y=H.y+2:=by rw[<- ac];rfl
 clear ac;refine(Yq 0 4 5 (by decide) (by decide) (by decide) H1).w ?_;rintro _ H1 _ _ ⟨rfl,rfl⟩
 -- the end,of any byte of SIB
 have ao:∀ (sib:Int) (A:Env) (H2:Qa),Ext H1 H2->H2.Wf->w=⟨[QR 0 mid 4,sib]++(Qak d 4).1,hi,0⟩->A 0=.Z mid->A 3=.Z d->A 5=.P H.y->A 8=.P (H.y+1)->A 9=.int .u8 sib->
   Qk Pg (.seq (.ops [Om 20 (t 0),Ow 21 (.call 281 [(Ci 0),(t 20),(Ci 4)]),Om 22 (t 9),Ow 23 (.bslice 5 1 2 [.int .u8 0,.int .u8 0] [(0,(t 21)),(1,(t 22))]),Om 24 (t 3),Ow 25 (.call 307 [(t 24),(Ci 4)]),Ow 26 (.app 5 1 1 (t 23) (t 25)),Om 10 (t 26)]) (.seq (.ops [Om 27 (t 10),Ow 28 (.ld true 2 (t 5)),Ow 29 (.call 282 [(t 28)]),Ow 30 (.build [.slice none 0 0,.Z 0,.Z 0] [(0,1,(t 27)),(1,1,(t 29))]),Ov (.st 3 (t 8) (t 30))]) .ret)) ⟨Rt Pg Tryz.f308 H λv H'=>LdV H H' w v∧Ext H H',Xi⟩ (Rt Pg Tryz.f308 H λv H'=>LdV H H' w v∧Ext H H') A H2:=by
  intro sib A H2 ae aN e r0 r3 aS r8 aT;simp only[Qb,simprocAttr,r0];refine(Yq 0 mid 4 (by decide) aH (by decide) H2).w ?_;rintro _ H2 _ _ ⟨rfl,rfl⟩;simp only[Qb,simprocAttr,r3,aT];have aO:=(Ext.refl H2).push (.C [.int .u8 (QR 0 mid 4),.int .u8 sib] 5);have ai:=aN.push (.C [.int .u8 (QR 0 mid 4),.int .u8 sib] 5);have aI:Gx 1 5 H2 (H2.push (.C [.int .u8 (QR 0 mid 4),.int .u8 sib] 5)) (.S H2.y 2 2) 2 (bys [QR 0 mid 4,sib]):=.inr ⟨_,_,rfl,Lb _,by rw[Qc,Lc rfl];rfl,rfl,.inl rfl⟩;generalize H2.push _=H3 at *;refine(Qex d 4 aC H3).w ?_;rintro ba H4 _ au ⟨aK,ax⟩;simp only[Qb,simprocAttr];refine Qdk (aI.go ai ax) (aO.trans ax) au aK.src (Qb5 _) (by rw[ZR,NH]) (by omega) (by omega) ?_;intro bc H5 ah ad;have aR:H5.get H.y=some (.C [.Z c,.Z n] 68):=by rw[(ae.trans ad.x).get _ (by omega)];exact ag
  simp only[Qb,simprocAttr,aS,aR];refine(al H5).w ?_;rintro _ _ ar aZ ⟨rfl,k,rfl⟩;simp only[Qw]at ar;have aP:=(ae.trans ad.x).up ar;have k1:H5.get (H.y+1)=some (.C [.slice none 0 0,.Z 0,.Z 0] 210):=by rw[(ae.trans ad.x).get _ (by omega)];exact g1
  obtain⟨a5,aA,rfl⟩:=ah.slc;simp only[Qb,simprocAttr,r8,k1,Qqi];have aQ:=av.trans aP;have ay:=aQ.set (i:=H.y+1) (by omega) (.C [.slice a5 (2+(Qak d 4).1.length) aA,.Z hi,.Z 0] 210);refine .mk ay.y ⟨⟨_,by rw[e],?_⟩,ay⟩;have aG:w.b.length=2+(Qak d 4).1.length:=by rw[e];simp only[Lh,Lo,L9]
  have aB:bys w.b=bys [QR 0 mid 4,sib]++bys (Qak d 4).1:=by rw[e,Qb4]
  have aU:=av.y;have aV:=ae.y;rw[aG,aB];refine(ah.down (H0:=H) (by omega)).ext λid aF=>?_;have aW:=ah.low ad.w aF;rw[Qh,Le (by omega),Xo]
 simp only[Qb,simprocAttr,ag,QE,aD];cases aj:isR ⟨c,n⟩ 0 0 with
 | true=>
  rw[aj,Lq]at ab;simp only[L8,Qll,Qrg];refine ao 37 _ H1 (.refl _) aM ?_ ?_ ?_ ?_ ?_ ?_;·rw[ab,az]
  all_goals simp only[Qf,simprocAttr,az]
 | false=>
  rw[aj,Ls]at ab;simp only[LM,QA3,Qb,simprocAttr];refine⟨by omega,?_⟩;refine(Qk0 f (aE aj) H1).w ?_;rintro _ H1 _ _ ⟨rfl,rfl⟩;simp only[Qb,simprocAttr,ag];refine⟨λ_ _=>rfl,by simp[Qj,Ab.plain],?_⟩;refine(ak H1).w ?_;rintro _ _ aq ai ⟨rfl,k,rfl⟩;simp only[Qw]at aq;simp only[Qb,simprocAttr];refine(Yq (Qam f) lo 5 aJ ap (by decide) _).w ?_;rintro _ _ _ au ⟨rfl,rfl⟩;simp only[Qcj,KZ,QjH,QA4];refine ao _ _ (H1.up k) ((Ext.refl H1).up aq) ai ab ?_ ?_ ?_ ?_ ?_
  all_goals simp only[Qf,simprocAttr]
def QJ7 (pre:Int):List Int:=(if pre % 2=1 then[102] else[])++((if pre / 2 % 2=1 then[242] else[])++(if pre / 4 % 2=1 then[243] else[]))
def QfZ (pre aa:Int):List Int:=QJ7 pre++(if 0<=aa then[64+aa] else[])
def QLp:Option (Value×Qa)->Nat
 | some (.tuple xs,_)=>match xs.toList with | .slice (some a) _ _::_=>a.block | _=>0
 | _=>0
def QBF (bs:List Int)(e:Int):Value:=.tuple #[bif bs.isEmpty then .slice none 0 0 else .S Pg.globals.size bs.length (UNK+1),.Z e]
def QBG (r:Option (Value×Qa))(bs:List Int):List Row:=bif bs.isEmpty then[] else[⟨QLp r,bys bs,5,false⟩]
def QFg (f:FuncId)(args:List Value):Option (Value×Qa):=(run Pg noK 2000 5 20).fn f args (Xs Pg.globals.size [])
def Qv9 {f:FuncId}{args:List Value}{bs:List Int}{e:Int}(ad:entered Pg f=true)(ag:args.all Xq=true)(h:Qpu Pg.globals.size (QBF bs e) (QBG (QFg f args) bs) (QFg f args)=true)(H:Qa):Qe Pg f args H λu H'=>∃v,u=.tuple #[v,.Z e]∧Gx 1 5 H H' v bs.length (bys bs)∧Ext H H':=by
 have ac:=Qxb QFf (tabs:=[]) ad ag rfl h H rfl;intro ae;cases aa:bs.isEmpty with
 | true=>
  have ah:bs=[]:=DF.1 aa;subst ah;exact⟨_,_,.inl ⟨ad,ac⟩,Lb _,ae,.slice none 0 0,rfl,.inl ⟨rfl,rfl,rfl⟩,.refl _⟩
 | false=>
  have hx:Ext H (H.push (.C (bys bs) 5)):=(Ext.refl H).push _;refine⟨.tuple #[.S H.y bs.length (UNK+1),.Z e],H.push (.C (bys bs) 5),.inl ⟨ad,?_⟩,hx.y,ae.push _,_,rfl,.inr ⟨_,_,rfl,Lb _,by rw[Qc,Lc rfl],by rw[ZR,NH],.inr ⟨rfl,by cases bs with | nil=>cases aa | cons=>simp⟩⟩,hx⟩
  by_cases aj:Pg.globals.size<=H.y
  ·have e1:shV Pg.globals.size (H.y - Pg.globals.size) 6 (QBF bs e)=.tuple #[.S H.y bs.length (UNK+1),.Z e]:=by
    have ab:shN Pg.globals.size (H.y - Pg.globals.size) Pg.globals.size=H.y:=by
     unfold shN;have:Nat.blt Pg.globals.size Pg.globals.size=false:=by
      cases ai:Nat.blt Pg.globals.size Pg.globals.size with
      | false=>rfl
      | true=>rw[B5]at ai;omega
     rw[this,Ls];omega
    unfold QBF;rw[aa,Ls];show Value.tuple #[.slice (some ⟨shN Pg.globals.size (H.y - Pg.globals.size) Pg.globals.size,0,none⟩) bs.length (UNK+1),.Z e]=_;rw[ab]
   have e2:Qp1 Pg.globals.size (QBG (QFg f args) bs) H=H.push (.C (bys bs) 5):=by
    have e3:(bys bs).map (shV Pg.globals.size (H.y - Pg.globals.size) 6)=bys bs:=by
     unfold bys;rw[Ht];rfl
    unfold QBG;rw[aa,Ls];show H.push (.C ((bys bs).map (shV Pg.globals.size (H.y - Pg.globals.size) 6)) 5)=_;rw[e3]
   rw[e1,e2]at ac;exact ac
  intro ρ w args' ab _;exfalso;obtain⟨i,hi,_⟩:=ab.glob H.y (by omega);rw[ab.none_next]at hi;cases hi
def Qwa:List (Int×Int):=([0,1,2,3,4,5]:List Int).flatMap λp=>((List.range 17).map fun(k:Nat)=>(p,(k:Int) - 1))
def QFh:(Qwa.all λp=>Qpu Pg.globals.size (QBF (QfZ p.1 p.2) 0) (QBG (QFg 290 [.Z p.1,.Z p.2]) (QfZ p.1 p.2)) (QFg 290 [.Z p.1,.Z p.2]))=true:=by kernel_rfl
def QDb (pre aa:Int)(ac:0<=pre∧pre<=5)(ad:-1<=aa∧aa<=15)(H:Qa):Qe Pg 290 [.Z pre,.Z aa] H λu H'=>∃v,u=.tuple #[v,.Z 0]∧Gx 1 5 H H' v (QfZ pre aa).length (bys (QfZ pre aa))∧Ext H H':=by
 have ab:(pre,aa)∈Qwa:=by
  unfold Qwa;rw[NF];refine⟨pre,?_,N4.2 ⟨(aa+1).toNat,LU.2 (by omega),?_⟩⟩;·simp only[LK,Ns,NN];omega
  have:((aa+1).toNat:Int) - 1=aa:=by omega
  rw[this]
 exact Qv9 (by kernel_rfl) rfl (Li.1 QFh _ ab) H
def QIJ (n:Int)(p:Int×Int):Int:=IntKind.i64.wrap (BitVec.ofInt IntKind.i64.bits (IntKind.i64.wrap (n * 2 ^ (min p.2.toNat IntKind.i64.bits))) ||| BitVec.ofInt IntKind.i64.bits p.1).toNat
def Qsv (aa:List (Int×Int)):Int:=aa.foldl QIJ 0
def prs (aa:List (Int×Int)):List Value:=aa.flatMap λp=>[.Z p.1,.Z p.2]
def QBH:∀aa:List (Int×Int),(prs aa).length=aa.length * 2
 | []=>rfl
 | p::aa=>by
  have:=QBH aa;unfold prs at *;rw[Ba,Lh,this];simp;omega
def QFi:∀ (aa:List (Int×Int)) (i:Nat) (p:Int×Int),aa[i]? = some p->((prs aa).drop (i * 2)).take 2=[.Z p.1,.Z p.2]
 | [],i,p,h=>by simp at h
 | q::aa,0,p,h=>by simp at h;subst h;rfl
 | q::aa,i+1,p,h=>by
  have:=QFi aa i p (by simpa using h);have e:prs (q::aa)=[.Z q.1,.Z q.2]++prs aa:=rfl;rw[e,show(i+1) * 2=2+i * 2 by omega,<- Rc];exact this
def QuC (aa:List (Int×Int))(an:∀p∈aa,0<=p.2)(ar:aa.length<=100){b cap:Nat}{e:TypeId}{ro:Bool}(H:Qa)(ad:H.get b=some (.cells (prs aa) e ro)):Qe Pg 312 [.S b aa.length cap] H λu H'=>u=.Z (Qsv aa)∧Ext H H':=by
 refine QAs λae=>?_;have am:=ae.lt ad;simp only[Qsf,Qb,simprocAttr];refine Qp (λm A' H'=>∃i:Nat,i<=aa.length∧m=aa.length - i∧H'.Wf∧Ext H H'∧A' 3=.Z (Qsv (aa.take i))∧A' 6=.S b aa.length cap∧A' 7=.Z aa.length∧A' 8=.Z i) aa.length ?_ ?_
 ·refine⟨0,L7 _,by omega,ae,.refl _,?_,?_,?_,?_⟩
  all_goals simp only[Qf,simprocAttr]
  all_goals rfl
 rintro m A' H' ⟨i,hi,rfl,aq,hx,r3,ag,ah,r8⟩;simp only[Qb,simprocAttr,ah,r8];refine Qg (λab=>?_) (λab=>?_)
 ·have ab:i<aa.length:=by have:=Lg ab;omega
  obtain⟨p,ac⟩:∃p,aa[i]? = some p:=⟨_,La ab⟩;have aj:=an p (Ln ac);have d1:(0:Int)<=i∧(i:Int)<aa.length:=by omega
  have d3:(i:Int).toNat=i:=by omega
  have ai:IntKind.i64.wrap ((i:Int)+1)=((i+1:Nat):Int):=by rw[w64 (by unfold I64;omega)];omega
  have al:i * 2+2<=(prs aa).length:=by rw[QBH];omega
  have ak:H'.get b=some (.cells (prs aa) e ro):=by rw[hx.get _ am];exact ad
  have ao:=QFi aa i p ac;have ap:Qsv (aa.take (i+1))=QIJ (Qsv (aa.take i)) p:=by
   unfold Qsv;rw[Nv,ac,List.foldl_append];rfl
  simp only[Qb,simprocAttr,r3,ag,r8,d1,d3,ak,ao,aj];refine⟨al,?_⟩;refine⟨aa.length - (i+1),by omega,i+1,by omega,rfl,?_,((hx.push _).set (by have:=hx.y;omega) _),?_,?_,?_,?_⟩;·exact(aq.push _).set (b0:=.C [.Z 0,.Z 0] 342) (by rw[Qc,Lc rfl]) _
  ·rw[ap];simp only[Qf,simprocAttr];rfl
  all_goals simp only[Qf,simprocAttr,ag,ah,ai]
 have ab:i=aa.length:=by have:=Ll ab;omega
 subst ab;rw[Nr]at r3;simp only[Qb,simprocAttr,r3,Qx1];exact .mk hx.y ⟨rfl,hx⟩
structure Vx where
 r:Int
 x:Int
 b:Int
 mp:Int
 w:Int
 v:Int
 l:Int
 pre:Int
def Vx.cells (y:Vx):List Value:=[.Z y.r,.Z y.x,.Z y.b,.Z y.mp,.Z y.w,.Z y.v,.Z y.l,.Z y.pre]
structure Vx.Ok (y:Vx):Prop where
 r:0<=y.r∧y.r<2
 x:0<=y.x∧y.x<2
 b:0<=y.b∧y.b<2
 mp:1<=y.mp∧y.mp<4
 w:0<=y.w∧y.w<2
 v:0<=y.v∧y.v<16
 l:0<=y.l∧y.l<2
 pre:y.pre=0∨y.pre=1∨y.pre=2∨y.pre=4
def Qdp (n:Int):Int:=if n=1 then 1 else if n=4 then 2 else if n=2 then 3 else 0
def QBI (n:Int):0<=Qdp n∧Qdp n<4:=by unfold Qdp;repeat' (split<;>try omega)
def Qnw (n:Int)(H:Qa):Qe Pg 313 [.Z n] H λu H'=>u=.Z (Qdp n)∧H'=H:=by
 refine Qtx λaa=>?_;simp only[QkG,Qb,simprocAttr];unfold Qdp
 repeat' (first
  | (refine Qg (λh=>?_) (λh=>?_)<;>(try simp only[L0,LC,Da]at h)<;>simp only[Wu,simprocAttr,h,Qsg,N3,LN])
  | fail)
 all_goals exact .mk (Lb _) ⟨rfl,rfl⟩
def vb2 (y:Vx):Int:=(1 - y.r) * 128+(15 - y.v) * 8+y.l * 4+Qdp y.pre
def vbm (y:Vx):Int:=(1 - y.r) * 128+(1 - y.x) * 64+(1 - y.b) * 32+y.mp
def vbn (y:Vx):Int:=y.w * 128+(15 - y.v) * 8+y.l * 4+Qdp y.pre
def Qf0 (y:Vx):List Int:=[196,vbm y,vbn y]
def QHS:∀r:Fin 2,∀v:Fin 16,∀l:Fin 2,∀p:Fin 4,IntKind.u8.wrap (IntKind.i64.wrap (BitVec.ofInt IntKind.i64.bits (Qsv [((r:Nat),1),((v:Nat),4),((l:Nat),1),((p:Nat),2)]) ^^^ BitVec.ofInt IntKind.i64.bits 248).toNat)=(1 - (r:Nat):Int) * 128+(15 - (v:Nat):Int) * 8+(l:Nat) * 4+(p:Nat):=by decide +kernel
def QHT:∀r:Fin 2,∀v:Fin 16,∀l:Fin 2,∀p:Fin 4,IntKind.u8.wrap (IntKind.i64.wrap (BitVec.ofInt IntKind.i64.bits (Qsv [((r:Nat),1),((v:Nat),4),((l:Nat),1),((p:Nat),2)]) ^^^ BitVec.ofInt IntKind.i64.bits 120).toNat)=((r:Nat):Int) * 128+(15 - (v:Nat):Int) * 8+(l:Nat) * 4+(p:Nat):=by decide +kernel
def QHU:∀r:Fin 2,∀x:Fin 2,∀b:Fin 2,∀m:Fin 4,IntKind.u8.wrap (IntKind.i64.wrap (BitVec.ofInt IntKind.i64.bits (Qsv [((r:Nat),1),((x:Nat),1),((b:Nat),1),((m:Nat),5)]) ^^^ BitVec.ofInt IntKind.i64.bits 224).toNat)=(1 - (r:Nat):Int) * 128+(1 - (x:Nat):Int) * 64+(1 - (b:Nat):Int) * 32+(m:Nat):=by decide +kernel
def QJ8 {y:Vx}(h:y.Ok):IntKind.u8.wrap (IntKind.i64.wrap (BitVec.ofInt IntKind.i64.bits (Qsv [(y.r,1),(y.v,4),(y.l,1),(Qdp y.pre,2)]) ^^^ BitVec.ofInt IntKind.i64.bits 248).toNat)=vb2 y:=by
 have ab:=QBI y.pre;have ac:=h.r;have ad:=h.v;have aa:=h.l;have e:=QHS ⟨y.r.toNat,by omega⟩ ⟨y.v.toNat,by omega⟩ ⟨y.l.toNat,by omega⟩ ⟨(Qdp y.pre).toNat,by omega⟩;simp only[Bi ac.1,Bi ad.1,Bi aa.1,Bi ab.1]at e;exact e
def QJ9 {y:Vx}(h:y.Ok):IntKind.u8.wrap (IntKind.i64.wrap (BitVec.ofInt IntKind.i64.bits (Qsv [(y.w,1),(y.v,4),(y.l,1),(Qdp y.pre,2)]) ^^^ BitVec.ofInt IntKind.i64.bits 120).toNat)=vbn y:=by
 have ab:=QBI y.pre;have ac:=h.w;have ad:=h.v;have aa:=h.l;have e:=QHT ⟨y.w.toNat,by omega⟩ ⟨y.v.toNat,by omega⟩ ⟨y.l.toNat,by omega⟩ ⟨(Qdp y.pre).toNat,by omega⟩;simp only[Bi ac.1,Bi ad.1,Bi aa.1,Bi ab.1]at e;exact e
def QKa {y:Vx}(h:y.Ok):IntKind.u8.wrap (IntKind.i64.wrap (BitVec.ofInt IntKind.i64.bits (Qsv [(y.r,1),(y.x,1),(y.b,1),(y.mp,5)]) ^^^ BitVec.ofInt IntKind.i64.bits 224).toNat)=vbm y:=by
 have ac:=h.r;have hx:=h.x;have aa:=h.b;have ad:=h.mp;have ab:0<=y.mp:=by omega
 have e:=QHU ⟨y.r.toNat,by omega⟩ ⟨y.x.toNat,by omega⟩ ⟨y.b.toNat,by omega⟩ ⟨y.mp.toNat,by omega⟩;simp only[Bi ac.1,Bi hx.1,Bi aa.1,Bi ab]at e;exact e
def Qsw {y:Vx}(h:y.Ok)(H:Qa):Qe Pg 314 [.agg y.cells.toArray] H λv H'=>Gx 1 5 H H' v 3 (bys (Qf0 y))∧Ext H H'∧∃a,v=.slice a 3 3:=by
 refine Qx2 λaq=>?_;have ac:=QKa h;have ad:=QJ9 h;unfold Qf0;generalize vbm y=zm at *;generalize vbn y=zn at *;have ae:=fun(ao:List (Int×Int)) hp hl (b cap:Nat) e ro (H:Qa)=>QuC (cap:=cap) (b:=b) (e:=e) (ro:=ro) ao hp hl H;obtain⟨r,x,b,mp,w,v,l,pre⟩:=y;simp only at ac ad;simp only[Vx.cells,QpJ,Qb,simprocAttr,Nat.reduceMul];generalize aa:Qa.push (Qa.push H _) _=H1;have ak:Ext H H1:=by rw[<- aa];exact((Ext.refl H).push _).push _
 have g1:H1.get (H.y+1)=some (.C (prs [(r,1),(x,1),(b,1),(mp,5)]) 342):=by rw[<- aa,Qc,Lc (by rw[Qd])];rfl
 have aj:H1.get H.y=some (.C [.Z r,.Z x,.Z b,.Z mp,.Z w,.Z v,.Z l,.Z pre] 154):=by rw[<- aa,Qc,Le (by rw[Qd];omega),Qc,Lc rfl]
 have ap:H1.y=H.y+2:=by rw[<- aa];rfl
 clear aa;refine(ae [(r,1),(x,1),(b,1),(mp,5)] (by simp) (by simp) _ _ _ _ H1 g1).w ?_;rintro _ H2 _ ar ⟨rfl,ag⟩;have an:=(ag.get H.y (by omega)).trans aj;simp only[Qb,simprocAttr,an];refine⟨by simp[Qj,Ab.plain],by simp[Qj,Ab.plain],by simp[Qj,Ab.plain],?_⟩;refine(Qnw pre H2).w ?_;rintro _ H2 _ _ ⟨rfl,rfl⟩;simp only[Qb,simprocAttr,Nat.reduceMul];refine⟨λ_ _=>rfl,?_⟩;generalize ab:Qa.push H2 _=H3;have al:Ext H2 H3:=by rw[<- ab];exact(Ext.refl H2).push _
 have g3:H3.get H2.y=some (.C (prs [(w,1),(v,4),(l,1),(Qdp pre,2)]) 342):=by rw[<- ab,Qc,Lc rfl];rfl
 clear ab;refine(ae [(w,1),(v,4),(l,1),(Qdp pre,2)] (by simp) (by simp) _ _ _ _ H3 g3).w ?_;rintro _ H4 _ au ⟨rfl,am⟩;simp only[Qb,simprocAttr,ac,ad,QvY];have ah:=(((ak.trans ag).trans al).trans am);have ai:=ah.push (.C [.int .u8 196,.int .u8 zm,.int .u8 zn] 5);exact .mk ai.y ⟨.inr ⟨_,_,rfl,ah.y,by rw[Qc,Lc rfl];rfl,rfl,.inl rfl⟩,ai,_,rfl⟩
def Qyi {y:Vx}(h:y.Ok)(H:Qa):Qe Pg 311 [.agg y.cells.toArray] H λu H'=>u=.Z 0∧Ext H H':=by
 refine QvX λau=>?_;have ar:=h;obtain⟨ah,aa,ai,ao,aj,ap,ak,al⟩:=h;obtain⟨r,x,b,mp,w,v,l,pre⟩:=y;simp only at ah aa ai ao aj ap ak al;simp only[Vx.cells,Qnk,Qb,simprocAttr];generalize ab:Qa.push (Qa.push H _) _=H1;have am:Ext H H1:=by rw[<- ab];exact((Ext.refl H).push _).push _
 have g1:H1.get (H.y+1)=some (.C (ints [r,x,b,w,l]) 3):=by rw[<- ab,Qc,Lc (by rw[Qd])];rfl
 have ag:H1.get H.y=some (.C [.Z r,.Z x,.Z b,.Z mp,.Z w,.Z v,.Z l,.Z pre] 154):=by rw[<- ab,Qc,Le (by rw[Qd];omega),Qc,Lc rfl]
 clear ab;refine Qp (λm A' H'=>∃i:Nat,i<=5∧m=5 - i∧H'=H1∧A' 1=.P H.y∧A' 15=.S (H.y+1) 5 5∧A' 16=.Z 5∧A' 17=.Z i) 5 ?_ ?_
 ·refine⟨0,by omega,rfl,rfl,?_,?_,?_,?_⟩
  all_goals simp only[Qf,simprocAttr]
  all_goals rfl
 rintro m A' H' ⟨i,hi,rfl,rfl,r1,r15,ad,ac⟩;simp only[Qi9,Qb,simprocAttr,ad,ac];refine Qg (λaa=>?_) (λaa=>?_)
 ·have aa:i<5:=by have:=Lg aa;omega
  obtain⟨z,aq,av⟩:∃z,(ints [r,x,b,w,l])[i]? = some (.Z z)∧0<=z∧z<2:=by
   rcases i with _ | _ | _ | _ | _ | i;·exact⟨r,rfl,ah⟩
   ·exact⟨x,rfl,by assumption⟩
   ·exact⟨b,rfl,ai⟩
   ·exact⟨w,rfl,aj⟩
   ·exact⟨l,rfl,ak⟩
   omega
  have d1:(0:Int)<=i∧(i:Int)<(5:Nat):=by omega
  have d3:(i:Int).toNat=i:=by omega
  have ae:IntKind.i64.wrap ((i:Int)+1)=((i+1:Nat):Int):=by rw[w64 (by unfold I64;omega)];omega
  simp only[Qi8,sxA,sxB,Nat.reduceBEq,Nat.reduceEqDiff,reduceCtorEq,mxA,mxB,Nat.reduceAdd,reduceIte,Nat.reduceLeDiff,splice,r15,ac,d1,d3,g1,aq];rcases(show z=0∨z=1 by omega) with rfl | rfl
  ·simp only[Qb,simprocAttr,LO,ac,ae];refine⟨5 - (i+1),by omega,i+1,by omega,rfl,rfl,?_,?_,?_,?_⟩
   all_goals simp only[Qf,simprocAttr,r1,r15,ad]
  have an:((1:Int)==0)=false:=rfl;simp only[Qb,simprocAttr,an,LO,ac,ae];refine⟨5 - (i+1),by omega,i+1,by omega,rfl,rfl,?_,?_,?_,?_⟩
  all_goals simp only[Qf,simprocAttr,r1,r15,ad]
 have e1:decide (mp<1)=false:=Lj (by omega);have e2:decide (3<mp)=false:=Lj (by omega);have e3:decide (v<0)=false:=Lj (by omega);have e4:decide (15<v)=false:=Lj (by omega);simp only[Qi7,Qb,simprocAttr,r1,ag,e1,e2,e3,e4];rcases al with rfl | rfl | rfl | rfl
 all_goals simp only[Qi6,Qi5,Qb,simprocAttr,r1,ag,LO,Int.reduceBEq,Qtw]
 all_goals exact .mk am.y ⟨rfl,am⟩
structure VO (e:TypeId) (H0 H:Qa) (v:Value) (bss:List (List Int)):Prop where
 ne:e≠5
 it:∃ss:List Value,ss.length=bss.length∧Gx 1 e H0 H v bss.length ss∧∀ (j:Nat) s bs,ss[j]? = some s->bss[j]? = some bs->Gx 1 5 H0 H s bs.length (bys bs)
def VO.nil {e:TypeId}(aa:e≠5)(H0 H:Qa):VO e H0 H (.slice none 0 0) []:=⟨aa,[],rfl,.inl ⟨rfl,rfl,rfl⟩,λj s w h=>by simp at h⟩
def VO.go {e:TypeId}{H0 H H':Qa}{v:Value}{ws:List (List Int)}(h:VO e H0 H v ws)(aa:H.Wf)(hx:Ext H H'):VO e H0 H' v ws:=by
 obtain⟨ss,ab,ac,ad⟩:=h.it;exact⟨h.ne,ss,ab,ac.go aa hx,λj s w ae ag=>(ad j s w ae ag).go aa hx⟩
def VO.down {e:TypeId}{H0 H1 H:Qa}{v:Value}{ws:List (List Int)}(h:VO e H1 H v ws)(hx:H0.y<=H1.y):VO e H0 H v ws:=by
 obtain⟨ss,aa,ab,ac⟩:=h.it;exact⟨h.ne,ss,aa,ab.down hx,λj s w ad ae=>(ac j s w ad ae).down hx⟩
def VO.slc {e:TypeId}{H0 H:Qa}{v:Value}{ws:List (List Int)}(h:VO e H0 H v ws):∃a c,v=.slice a ws.length c:=by
 obtain⟨ss,ab,aa,ac⟩:=h.it;exact aa.slc
def Qwb {e bytes:Nat}{H0 H:Qa}{v s x:Value}{bs:List Int}{ws:List (List Int)}{k:Value->Qa->Prop}(ah:VO e H0 H v ws)(hx:Ext H0 H)(am:H.Wf)(al:Gx 1 5 H0 H s bs.length (bys bs))(az:YX 1 x H=some (1,[s]))(aq:(ws.length+1) * bytes<=140737488355328)(au:ws.length+1<=9223372036854775807)
  (h:∀ae H',VO e H0 H' ae (ws++[bs])->GK v ae H0 H H'->k ae H'):Qdv e 1 bytes v x H k:=by
 obtain⟨ss,ai,ag,ap⟩:=ah.it;have ax:([s]:List Value).all (·.oneCell')=true:=by
  obtain⟨a,c,rfl⟩:=al.slc;rfl
 refine Qdk ag hx am az ax rfl aq au ?_;intro ae H' ar ak;refine h ae H' ⟨ah.ne,ss++[s],by simp[ai],?_,λj aA w' aa ac=>?_⟩ ak;·rw[Lh];exact ar
 have av:∀id c',H.get id=some (.C c' 5)->¬inB v id:=λid c' aj hi=>by
  obtain⟨o,aB,c,rfl⟩:=hi;rcases ag with⟨h,_,_⟩ | ⟨b,c,h,an,ad,ao⟩;·cases h
  cases h;rw[ad]at aj;cases aj;exact ah.ne rfl
 have key:∀ {s:Value} {bs:List Int},Gx 1 5 H0 H s bs.length (bys bs)->Gx 1 5 H0 H' s bs.length (bys bs):=λay=>by
  rcases ay with ag | ⟨b,c,rfl,an,ad,ao⟩;·exact .inl ag
  exact .inr ⟨b,c,rfl,an,by rw[ak.keep b (am.lt ad) (av b _ ad)];exact ad,ao⟩
 rcases Dj j ss.length with ab | ab | ab;·rw[LY ab]at aa;rw[LY (by omega)]at ac;exact key (ap j aA w' aa ac)
 ·rw[LR (by omega)]at aa ac;rw[ab,BJ]at aa;rw[ab,ai,BJ]at ac;cases aa;cases ac;exact key al
 have:=(Lk.1 aa).1;simp at this;omega
def QAE (y:Vx)(any:Bool):List (List Int):=
 (if(y.x=0∧y.b=0∧(any=true∨y.w=0))∧y.mp=1 then[[197,vb2 y]] else[])++([Qf0 (bif any then {y with w:=0} else y)]++(bif any then[Qf0 {y with w:=1}] else[]))
def Vx.Ok.setW {y:Vx}(h:y.Ok)(n:Int)(aa:0<=n∧n<2):Vx.Ok {y with w:=n}:=⟨h.r,h.x,h.b,h.mp,aa,h.v,h.l,h.pre⟩
section
variable {H:Qa} {W:List (List Int)}
abbrev KV (H:Qa)(W:List (List Int)):Env->Qa->Prop:=Rt Pg Tryz.f287 H λu H'=>∃v,u=.tuple #[v,.Z 0]∧VO 22 H H' v W∧Ext H H'
def QqL (H:Qa)(s:Value):YX 1 (.S H.y 1 1) (H.push (.C [s] 22))=some (1,[s]):=Qw7 (by rw[Qc,Lc rfl])
def VO.keep {e:TypeId}{H0 H H':Qa}{v:Value}{ws:List (List Int)}(h:VO e H0 H v ws)(ae:∀id,H0.y<=id->H'.get id=H.get id):VO e H0 H' v ws:=by
 obtain⟨ss,ac,aa,ad⟩:=h.it;have key:∀ {e:TypeId} {v:Value} {n:Nat} {cs:List Value},Gx 1 e H0 H v n cs->Gx 1 e H0 H' v n cs:=λag=>by
  rcases ag with aa | ⟨b,c,rfl,ab,ah,ai⟩;·exact .inl aa
  exact .inr ⟨b,c,rfl,ab,by rw[ae b ab];exact ah,ai⟩
 exact⟨h.ne,ss,ac,key aa,λj s w a b=>key (ad j s w a b)⟩
def QLq {y:Vx}(h:y.Ok)(any:Bool){ws:List (List Int)}(aP:ws.length<=5){v:Value}{A:Env}{Hb H1:Qa}(aU:Hb.y=H.y+1)(aC:VO 22 Hb H1 v ws)(ah:Ext Hb H1)(hx:Ext H H1)(aF:H1.Wf)(ak:H1.get H.y=some (.C y.cells 154))(r1:A 1=.bool any)(r2:A 2=.P H.y)(aL:A 7=v)(aa:W=ws++([Qf0 y]++(bif any then[Qf0 {y with w:=1}] else[]))):
  Qk Pg Vr ⟨KV H W,Xi⟩ (KV H W) A H1:=by
 have aV:=ah.y;have aq:=Qsw h;have ar:=Qsw (h.setW 1 (by decide));obtain⟨ab,ai⟩:∃ab,ab=Qf0 y:=⟨_,rfl⟩;obtain⟨ac,aj⟩:∃ac,ac=Qf0 {y with w:=1}:=⟨_,rfl⟩;have aJ:ab.length=3:=by rw[ai];rfl
 have aK:ac.length=3:=by rw[aj];rfl
 rw[<- ai]at aq aa;rw[<- aj]at ar aa;clear ai aj;obtain⟨r,x,b,mp,w,aO,l,pre⟩:=y;simp only[Vx.cells]at ak aq ar;simp only[Vr,Qb,simprocAttr,r2,aL,ak];refine(aq H1).w ?_;rintro aX H2 aQ an ⟨al,ay,a2,rfl⟩
 replace al:Gx 1 5 H1 H2 (.slice a2 3 3) ab.length (bys ab):=by rw[aJ];exact al
 simp only[Qb,simprocAttr];refine Qwb (H0:=Hb) (bs:=ab) ((aC.go aF ay).go an ((Ext.refl H2).push _)) ((ah.trans ay).push _) (an.push _) ((al.go an ((Ext.refl H2).push _)).down (by omega)) (QqL H2 _) (by omega) (by omega) ?_;intro aM H4 ax ae;have au:H4.get H.y=some (.C [.Z r,.Z x,.Z b,.Z mp,.Z w,.Z aO,.Z l,.Z pre] 154):=by rw[(ae.x).get _ (by omega),<- ah.get _ (by omega)];exact ak
 have ap:Ext H H4:=⟨by have:=ae.x.y;omega,λid ag=>by rw[ae.x.get id (by omega),<- ah.get id (by omega)];exact hx.get id ag⟩;cases any with
 | false=>
  rw[Ls,Na]at aa;simp only[Qb,simprocAttr,r1,QpI];exact .mk ap.y ⟨aM,rfl,by rw[aa];exact ax.down (by omega),ap⟩
 | true=>
  rw[Lq]at aa;simp only[Qb,simprocAttr,r1,r2,au];generalize ad:Qa.set H4 _ _=H5;have aH:Ext H H5:=by rw[<- ad];exact ap.set (Lb _) _
  have aG:H5.Wf:=by rw[<- ad];exact ae.w.set au _
  have k5:∀id,Hb.y<=id->H5.get id=H4.get id:=λid ag=>by rw[<- ad,Qh,Le (by omega)]
  have aD:=ax.keep k5;have aS:H5.y=H4.y:=by rw[<- ad];rfl
  have aR:=ae.x.y;clear ad;refine(ar H5).w ?_;rintro aY H6 aT ao ⟨am,az,a6,rfl⟩
  replace am:Gx 1 5 H5 H6 (.slice a6 3 3) ac.length (bys ac):=by rw[aK];exact am
  simp only[Qb,simprocAttr];have aI:∃Hz:Qa,Ext Hz H5∧Hz.y=Hb.y:=⟨⟨Hb.y,H5.tr⟩,⟨by show Hb.y<=H5.y;omega,λid _=>rfl⟩,rfl⟩;obtain⟨Hz,aB,aW⟩:=aI;refine Qwb (H0:=Hz) (bs:=ac) (((aD.go aG az).go ao ((Ext.refl H6).push _)).down (by omega)) ((aB.trans az).push _) (ao.push _) ((am.go ao ((Ext.refl H6).push _)).down (by omega)) (QqL H6 _) (by rw[Lh,Bb];omega) (by rw[Lh,Bb];omega) ?_;intro aN H7 aE av;have aA:Ext H H7:=⟨by have:=av.x.y;omega,λid ag=>by rw[av.x.get id (by omega),<- aB.get id (by omega)];exact aH.get id ag⟩;simp only[Qb,simprocAttr,QpI];exact .mk aA.y ⟨aN,rfl,by rw[aa,<- LQ];exact aE.down (by omega),aA⟩
def QLr {y:Vx}(h:y.Ok)(any:Bool){A:Env}{Hb H1:Qa}(ax:Hb.y=H.y+1)(ad:Ext Hb H1)(hx:Ext H H1)(aK:H1.Wf)(ab:H1.get H.y=some (.C y.cells 154))(r1:A 1=.bool any)(r2:A 2=.P H.y)(ag:W=(if(y.x=0∧y.b=0∧y.w=0)∧y.mp=1 then[[197,vb2 y]] else[])++([Qf0 y]++(bif any then[Qf0 {y with w:=1}] else[]))):
  Qk Pg QgE ⟨KV H W,Xi⟩ (KV H W) A H1:=by
 have aT:=ad.y;have av:=ab;have ah:=QJ8 h;have aF:=fun(aQ:List (Int×Int)) hp hl (b cap:Nat) e ro (H:Qa)=>QuC (cap:=cap) (b:=b) (e:=e) (ro:=ro) aQ hp hl H;have au:=λA=>QLq (H:=H) (W:=W) (A:=A) h any (ws:=[]) (by simp) ax (VO.nil (e:=22) (by decide) Hb H1) ad hx aK ab;have ac:∀A,A 1=.bool any->A 2=.P H.y->A 7=.slice none 0 0->¬ ((y.x=0∧y.b=0∧y.w=0)∧y.mp=1)->Qk Pg Vr ⟨KV H W,Xi⟩ (KV H W) A H1:=λA a1 a2 a7 aH=>au A a1 a2 a7 (by rw[ag,Le aH]);obtain⟨aa,ai⟩:∃aa,aa=vb2 y:=⟨_,rfl⟩;have aC:(y.x=0∧y.b=0∧y.w=0)∧y.mp=1->∀ (A:Env) (H4:Qa) (aq:Value),VO 22 Hb H4 aq [[197,aa]]->Ext Hb H4->Ext H H4->H4.Wf->A 1=.bool any->A 2=.P H.y->A 7=aq->Qk Pg Vr ⟨KV H W,Xi⟩ (KV H W) A H4:=by
  intro aP A H4 aq aI aA ap an a1 a2 a7;refine QLq h any (ws:=[[197,aa]]) (by simp) ax aI aA ap an (by rw[aA.get _ (by omega),<- ad.get _ (by omega)];exact av) a1 a2 a7 (by rw[ag,Lc aP,ai])
 rw[<- ai]at ah;clear ai ag au av h;obtain⟨r,x,b,mp,w,v,l,pre⟩:=y;simp only[Vx.cells]at ab;simp only at aC ac ah;simp only[QgE,Qb,simprocAttr,r2,ab];cases ar:x==0 with
 | false=>
  have ao:¬x=0:=by simpa using ar
  simp only[Qb,simprocAttr];refine ac _ ?_ ?_ ?_ (λh=>ao h.1.1)
  all_goals simp only[Qf,simprocAttr,r1,r2]
 | true=>
  have ao:x=0:=by simpa using ar
  simp only[Qb,simprocAttr,r2,ab];cases e2:b==0 with
  | false=>
   have ak:¬b=0:=by simpa using e2
   simp only[Qb,simprocAttr];refine ac _ ?_ ?_ ?_ (λh=>ak h.1.2.1)
   all_goals simp only[Qf,simprocAttr,r1,r2]
  | true=>
   have ak:b=0:=by simpa using e2
   simp only[Qb,simprocAttr,r2,ab];cases e3:w==0 with
   | false=>
    have am:¬w=0:=by simpa using e3
    simp only[Qb,simprocAttr];refine ac _ ?_ ?_ ?_ (λh=>am h.1.2.2)
    all_goals simp only[Qf,simprocAttr,r1,r2]
   | true=>
    have am:w=0:=by simpa using e3
    simp only[Qb,simprocAttr,r2,ab];cases e4:mp==1 with
    | false=>
     have al:¬mp=1:=by simpa using e4
     simp only[Qb,simprocAttr];refine ac _ ?_ ?_ ?_ (λh=>al h.2)
     all_goals simp only[Qf,simprocAttr,r1,r2]
    | true=>
     have al:mp=1:=by simpa using e4
     simp only[Qng,Qb,simprocAttr,r2,ab];refine⟨by simp[Qj,Ab.plain],by simp[Qj,Ab.plain],by simp[Qj,Ab.plain],?_⟩;refine(Qnw pre H1).w ?_;rintro _ H1 _ _ ⟨rfl,rfl⟩;simp only[Qb,simprocAttr,Nat.reduceMul];refine⟨λ_ _=>rfl,?_⟩;generalize aj:Qa.push H1 _=H3;have aM:Ext H1 H3:=by rw[<- aj];exact(Ext.refl H1).push _
     have g3:H3.get H1.y=some (.C (prs [(r,1),(v,4),(l,1),(Qdp pre,2)]) 342):=by rw[<- aj,Qc,Lc rfl];rfl
     clear aj;refine(aF [(r,1),(v,4),(l,1),(Qdp pre,2)] (by simp) (by simp) _ _ _ _ H3 g3).w ?_;rintro _ H4 _ an ⟨rfl,ap⟩;simp only[Qb,simprocAttr,ah];have az:=aM.trans ap;have aN:=(Ext.refl H4).push (.C [.int .u8 197,.int .u8 aa] 5);have ay:=an.push (.C [.int .u8 197,.int .u8 aa] 5);have aD:Gx 1 5 H4 (H4.push (.C [.int .u8 197,.int .u8 aa] 5)) (.S H4.y 2 2) 2 (bys [197,aa]):=.inr ⟨_,_,rfl,Lb _,by rw[Qc,Lc rfl];rfl,rfl,.inl rfl⟩;have aS:=az.y;have aG:(H4.push (.C [.int .u8 197,.int .u8 aa] 5)).y=H4.y+1:=rfl;generalize H4.push (.C [.int .u8 197,.int .u8 aa] 5)=H5 at *;have aL:=az.trans aN;have aB:=(Ext.refl H5).push (.C [.S H4.y 2 2] 22);refine Qwb (H0:=Hb) (bs:=[197,aa]) (VO.nil (e:=22) (by decide) Hb _) ((ad.trans aL).trans aB) (ay.push _) ((aD.go ay aB).down (by omega)) (by rw[<- aG];exact QqL H5 _) (by simp) (by simp) ?_;intro aR H7 aJ ae;have aO:Ext H H7:=⟨by have:=ae.x.y;omega,λid aE=>by rw[ae.x.get id (by omega),<- ad.get id (by omega)];exact hx.get id aE⟩;simp only[Qcj,KZ,QjH,QA4];refine aC ⟨⟨ao,ak,am⟩,al⟩ _ H7 aR aJ ae.x aO ae.w ?_ ?_ ?_
     all_goals simp only[Qf,simprocAttr,r1,r2]
end
def QHV (y:Vx)(any:Bool)(aa:Vx)(h:aa=bif any then {y with w:=0} else y):QAE y any=(if(aa.x=0∧aa.b=0∧aa.w=0)∧aa.mp=1 then[[197,vb2 aa]] else[])++([Qf0 aa]++(bif any then[Qf0 {aa with w:=1}] else[])):=by
 subst h;unfold QAE;cases any with
 | true=>simp only[Lq,true_or,Hr,vb2]
 | false=>simp only[Ls,LV,false_or]
def QDc {y:Vx}(h:y.Ok)(any:Bool)(H:Qa):Qe Pg 287 [.agg y.cells.toArray,.bool any] H λu H'=>∃v,u=.tuple #[v,.Z 0]∧VO 22 H H' v (QAE y any)∧Ext H H':=by
 refine QAr λaq=>?_;obtain⟨aa,ad⟩:∃aa:Vx,aa=bif any then {y with w:=0} else y:=⟨_,rfl⟩
 have am:aa.Ok:=by rw[ad];cases any with | true=>exact h.setW 0 (by decide) | false=>exact h
 have eL:=QHV y any aa ad;have ab:aa.cells=bif any then[.Z y.r,.Z y.x,.Z y.b,.Z y.mp,.Z 0,.Z y.v,.Z y.l,.Z y.pre] else y.cells:=by rw[ad];cases any<;>rfl
 have an:=Qyi h;have aj:=(Ext.refl H).push (.C y.cells 154);have ar:=aq.push (.C y.cells 154);have ah:(H.push (.C y.cells 154)).get H.y=some (.C y.cells 154):=by rw[Qc,Lc rfl]
 have ap:(H.push (.C y.cells 154)).y=H.y+1:=rfl;obtain⟨W,ag⟩:∃W,W=QAE y any:=⟨_,rfl⟩;rw[<- ag]at eL ⊢;clear ag ad h;obtain⟨r,x,b,mp,w,v,l,pre⟩:=y;simp only[Vx.cells]at aj ar ah ap an ab;simp only[Vx.cells,Qsd,Qb,simprocAttr];generalize H.push _=H1 at *;refine(an H1).w ?_;rintro _ H2 ax ai ⟨rfl,al⟩;have ae:=(al.get H.y (by omega)).trans ah;have ak:=aj.trans al;simp only[Qb,simprocAttr,LO];cases any with
 | true=>
  rw[Lq]at ab;simp only[QgF,Qb,simprocAttr,ae];generalize ac:Qa.set H2 _ _=H3;have av:Ext H H3:=by rw[<- ac];exact ak.set (Lb _) _
  have au:H3.Wf:=by rw[<- ac];exact ai.set ae _
  have ao:H3.get H.y=some (.C aa.cells 154):=by rw[<- ac,Qh,Lc rfl];exact congrArg (λc=>some (Blk.cells c 154 false)) ab.symm
  have ay:H3.y=H2.y:=by rw[<- ac];rfl
  clear ac;refine QLr (H:=H) (Hb:=⟨H.y+1,H3.tr⟩) am true rfl ⟨by show H.y+1<=H3.y;omega,λid _=>rfl⟩ av au ao ?_ ?_ eL
  all_goals simp only[Qf,simprocAttr]
 | false=>
  rw[Ls]at ab;simp only[QgF,Qb,simprocAttr];refine QLr (H:=H) (Hb:=⟨H.y+1,H2.tr⟩) am false rfl ⟨by show H.y+1<=H2.y;omega,λid _=>rfl⟩ ak ai (by rw[ae];exact congrArg (λc=>some (Blk.cells c 154 false)) ab.symm) ?_ ?_ eL
  all_goals simp only[Qf,simprocAttr]
def QgJ (m:Int):List Int:=if(m==1)=true then[15] else if(m==2)=true then[15,56] else if(m==3)=true then[15,58] else[]
def Qqo (m:Int)(H:Qa):Qe Pg 291 [.Z m] H λv H'=>Gx 1 5 H H' v (QgJ m).length (bys (QgJ m))∧Ext H H':=by
 refine QoB λae=>?_;have aa:∀bs:List Int,Gx 1 5 H (H.push (.C (bys bs) 5)) (.S H.y bs.length bs.length) bs.length (bys bs):=λbs=>.inr ⟨_,_,rfl,Lb _,by rw[Qc,Lc rfl],by rw[ZR,NH],.inl rfl⟩;simp only[QfO,Qb,simprocAttr];unfold QgJ;cases ab:m==1 with
 | true=>
  simp only[Qb,simprocAttr,ZM];exact .mk ((Ext.refl H).push _).y ⟨aa [15],(Ext.refl H).push _⟩
 | false=>
  simp only[Qb,simprocAttr];cases ac:m==2 with
  | true=>
   simp only[Qb,simprocAttr,ZM];exact .mk ((Ext.refl H).push _).y ⟨aa [15,56],(Ext.refl H).push _⟩
  | false=>
   simp only[Qb,simprocAttr];cases ad:m==3 with
   | true=>
    simp only[Qb,simprocAttr,ZM];exact .mk ((Ext.refl H).push _).y ⟨aa [15,58],(Ext.refl H).push _⟩
   | false=>
    simp only[Qb,simprocAttr,ZM];exact .mk (Lb _) ⟨.inl ⟨rfl,rfl,rfl⟩,.refl _⟩
def Qsx (w r x b:Int):Int:=w * 8+r * 4+x * 2+b
def QFj:List (Int×Int×Int×Int):=([0,1]:List Int).flatMap λw=>([0,1]:List Int).flatMap λr=>([0,1]:List Int).flatMap λx=>([0,1]:List Int).map λb=>(w,r,x,b)
def QDd:(QFj.all λp=>isW (.Z (Qsx p.1 p.2.1 p.2.2.1 p.2.2.2)) ((run Pg noK 200 5 10).fn 289 [.Z p.1,.Z p.2.1,.Z p.2.2.1,.Z p.2.2.2] (H0 Pg)))=true:=by kernel_rfl
def QDe (w r x b:Int)(ae:0<=w∧w<2)(ad:0<=r∧r<2)(hx:0<=x∧x<2)(ab:0<=b∧b<2)(H:Qa):Qe Pg 289 [.Z w,.Z r,.Z x,.Z b] H λu H'=>u=.Z (Qsx w r x b)∧H'=H:=by
 have aa:∀n:Int,0<=n∧n<2->n∈([0,1]:List Int):=λn ag=>by
  simp only[LK,Ns,NN];omega
 have ac:(w,r,x,b)∈QFj:=by
  unfold QFj;rw[NF];refine⟨w,aa w ae,NF.2 ⟨r,aa r ad,NF.2 ⟨x,aa x hx,N4.2 ⟨b,aa b ab,rfl⟩⟩⟩⟩
 exact Qyg (by kernel_rfl) rfl rfl (Li.1 QDd _ ac) H
def Qnx (f:Fm)(l:List Ar)(s:Int):Int:=if 0<=Qy f.slots s then GI ((l[(Qy f.slots s).toNat]?.getD WY).r) else 0
def QBJ (x:Int):∀ (l:List Int) (k:Nat),Ve l x k<k+l.length
 | [],k=>by show(-1:Int)<_;simp;omega
 | y::l,k=>by
  unfold Ve;split;·simp;omega
  have:=QBJ x l (k+1);simp at this ⊢;omega
def Qyj (l:List Int)(x:Int):Qy l x<l.length:=by
 have:=QBJ x l 0;simpa[Qy] using this
def QgK {l:List Ar}{i:Nat}{a:Ar}(h:l[i]? = some a):((Qm l).drop (i * 11+1)).take 2=[.Z a.r.c,.Z a.r.n]:=by
 have aa:=X4 l i a h;have ab:(((Qm l).drop (i * 11)).take 11).drop 1=a.cells.drop 1:=by rw[aa]
 rw[<- Rc];have ac:((((Qm l).drop (i * 11)).drop 1).take 2)=((((Qm l).drop (i * 11)).take 11).drop 1).take 2:=by
  rw[List.drop_take,DE];rfl
 rw[ac,ab];rfl
def Qk2 (x:Lf)(op:Int)(va:Value)(l:List Ar)(s:Int)(H:Qa)(hx:x.At H)(aA:QQ H va l)(aE:l.length<=1000)(aF:x.f.slots.length=l.length):Qe Pg 286 [.agg x.cells.toArray,.agg #[.Z op,va],.Z s] H λu H'=>u=.Z (Qnx x.f l s)∧Ext H H':=by
 refine Qsc λae=>?_;have am:(Value.agg x.cells.toArray).cells.toList=x.cells:=rfl;have al:x.cells.take 10=x.cells:=rfl;have aC:10<=x.cells.length:=Lb _;obtain⟨a0,cap,rfl,aq⟩:=aA;have ak:Ext H (H.push (.C x.cells 51)):=(Ext.refl H).push _;simp only[Qi3,am,Wu,simprocAttr];generalize aa:Qa.push H _=H1;have g1:H1.get H.y=some (.C x.cells 51):=by rw[<- aa,Qc,Lc rfl]
 have aB:Ext H H1:=by rw[<- aa];exact ak
 have aG:H1.y=H.y+1:=by rw[<- aa];rfl
 have aI:H1.Wf:=by rw[<- aa];exact ae.push _
 clear aa ak;simp only[Qb,simprocAttr];generalize ab:Qa.push H1 _=H2;have aj:Ext H H2:=by rw[<- ab];exact aB.push _
 have g2:H2.get H.y=some (.C x.cells 51):=by rw[<- ab,Qc,Le (by omega)];exact g1
 have an:H2.get H1.y=some (.C [.Z op,.slice a0 l.length cap] 33):=by rw[<- ab,Qc,Lc rfl]
 have aH:H2.y=H1.y+1:=by rw[<- ab];rfl
 clear ab;have aD:¬H.y=H1.y:=by omega
 simp only[Qb,simprocAttr,aD,g1,al];refine⟨aC,?_⟩;refine(QH x s H2 (hx.ext ae aj)).w ?_;rintro _ _ ai aJ ⟨rfl,k,rfl⟩;simp only[Qw]at ai;have ac:=aj.up ai;have ao:(H2.up k).get H1.y=some (.C [.Z op,.slice a0 l.length cap] 33):=by rw[Xo];exact an
 generalize H2.up k=H3 at *;have ay:=Qyj x.f.slots s;simp only[Qb,simprocAttr];unfold Qnx;refine Qg (λh=>?_) (λh=>?_)
 ·have ap:0<=Qy x.f.slots s:=Lg h;rw[Lc ap];obtain⟨i,hi⟩:∃i:Nat,Qy x.f.slots s=i:=⟨(Qy x.f.slots s).toNat,by omega⟩;rw[hi]at ay ⊢;have av:i<l.length:=by omega
  obtain⟨a,ag⟩:∃a,l[i]? = some a:=⟨_,La av⟩;obtain⟨b,e,ro,rfl,ah⟩:=aq (by omega);have ar:H3.get b=some (.cells (Qm l) e ro):=by rw[ac.get b (ae.lt ah)];exact ah
  have az:=QgK ag;have ax:i * 11+1+2<=(Qm l).length:=by rw[Q7];omega
  have d1:(0:Int)<=i∧(i:Int)<l.length:=by omega
  have d3:(i:Int).toNat=i:=by omega
  have au:(l[i]?.getD WY).r=a.r:=by rw[ag];rfl
  have q:=Qdo a.r H3;simp only[Rg.cells]at q;simp only[Qb,simprocAttr,ao,d1,d3,ar,az,au];refine⟨ax,?_⟩;refine q.w ?_;rintro _ _ ad aK ⟨rfl,k4,rfl⟩;simp only[Qw]at ad;simp only[Qb,simprocAttr,Qhy];exact .mk (ac.up ad).y ⟨rfl,ac.up ad⟩
 rw[Le (by have:=Ll h;omega)];simp only[Qb,simprocAttr,Qhy];exact .mk ac.y ⟨rfl,ac⟩
def Qk3 (l:List Ar):Bool:=l.any λa=>a.k==1&&Qv8 a.r
def Qsy (l:List Ar):Bool:=l.any λa=>a.k==1&&QBE a.r
def chF (bits:Int)(l:List Ar):List Int:=if(decide (0<bits)||Qk3 l)=true then(if Qsy l=true then[] else[bits]) else if Qsy l=true then[-1] else[-1,0]
def QoK (op bits:Int)(va:Value)(l:List Ar)(H:Qa)(aL:QQ H va l)(aZ:l.length<=1000):Qe Pg 288 [.agg #[.Z op,va],.Z bits] H λv H'=>Gx 1 3 H H' v (chF bits l).length (ints (chF bits l))∧Ext H H':=by
 refine Qnh λaA=>?_;obtain⟨a0,cap,rfl,aH⟩:=aL;simp only[Qen,Qb,simprocAttr];generalize al:Qa.push H _=H1;have aP:Ext H H1:=by rw[<- al];exact(Ext.refl H).push _
 have aN:H1.Wf:=by rw[<- al];exact aA.push _
 clear al;refine Qp (λm A' H'=>∃i:Nat,i<=l.length∧m=l.length - i∧H'.Wf∧Ext H H'∧A' 1=.Z bits∧A' 5=.bool (decide (0<bits)||Qk3 (l.take i))∧A' 6=.bool (Qsy (l.take i))∧A' 12=.slice a0 l.length cap∧A' 13=.Z l.length∧A' 14=.Z i) l.length ?_ ?_
 ·refine⟨0,L7 _,by omega,aN,aP,?_,?_,?_,?_,?_,?_⟩
  all_goals simp only[Qf,simprocAttr]
  all_goals simp[Qk3,Qsy]
 rintro m A' H' ⟨i,hi,rfl,aM,hx,r1,ad,ae,ag,r13,ac⟩;simp only[QbB,Qb,simprocAttr,r13,ac];refine Qg (λab=>?_) (λab=>?_)
 ·have ab:i<l.length:=by have:=Lg ab;omega
  obtain⟨a,aq⟩:∃a,l[i]? = some a:=⟨_,La ab⟩;obtain⟨b,e,ro,rfl,au⟩:=aH (by omega);have aJ:H'.get b=some (.cells (Qm l) e ro):=by rw[hx.get b (aA.lt au)];exact au
  have ay:=X4 l i a aq;have aK:i * 11+11<=(Qm l).length:=by rw[Q7];omega
  have d1:(0:Int)<=i∧(i:Int)<l.length:=by omega
  have d3:(i:Int).toNat=i:=by omega
  have ah:IntKind.i64.wrap ((i:Int)+1)=((i+1:Nat):Int):=by rw[w64 (by unfold I64;omega)];omega
  have az:l.take (i+1)=l.take i++[a]:=by rw[Nv,aq];rfl
  have ap:Qk3 (l.take (i+1))=(Qk3 (l.take i)||(a.k==1&&Qv8 a.r)):=by unfold Qk3;rw[az,Rz];simp
  have hB:Qsy (l.take (i+1))=(Qsy (l.take i)||(a.k==1&&QBE a.r)):=by unfold Qsy;rw[az,Rz];simp
  have aD:=Qyf a.r;have an:=QAC a.r;obtain⟨ao,⟨aX,aY⟩,⟨⟨aE,aF⟩,⟨aQ,aR⟩,sc,d,sz⟩,n⟩:=a;simp only[Rg.cells]at aD an;simp only[Ar.cells]at ay;simp only at ap hB;generalize Qk3 (l.take i)=N at *;generalize Qsy (l.take i)=B at *;simp only[QbA,Qb,simprocAttr,ag,ac,d1,d3,aJ,ay];refine⟨aK,?_⟩;generalize aj:(Qa.push H' _).set _ _=H2;have ak:Ext H H2:=by rw[<- aj];exact(hx.push _).set (by have:=hx.y;omega) _
  have aB:H2.Wf:=by rw[<- aj];exact(aM.push _).set (b0:=.C [.Z 0,.Z 0,.Z 0,.Z 0,.Z 0,.Z 0,.Z 0,.Z 0,.Z 0,.Z 0,.Z 0] 95) (by rw[Qc,Lc rfl]) _
  have g2:H2.get H'.y=some (.C [.Z ao,.Z aX,.Z aY,.Z aE,.Z aF,.Z aQ,.Z aR,.Z sc,.Z d,.Z sz,.Z n] 95):=by rw[<- aj,Qh,Lc rfl]
  clear aj
  -- the end of a round
  have aa:∀ (A2:Env) (H3:Qa),Ext H H3->H3.Wf->A2 1=.Z bits->A2 5=.bool (decide (0<bits)||Qk3 (l.take (i+1)))->A2 6=.bool (Qsy (l.take (i+1)))->A2 12=.S b l.length cap->A2 13=.Z l.length->A2 14=.Z ((i+1:Nat):Int)->Quj (λm A' H'=>∃i:Nat,i<=l.length∧m=l.length - i∧H'.Wf∧Ext H H'∧A' 1=.Z bits∧A' 5=.bool (decide (0<bits)||Qk3 (l.take i))∧A' 6=.bool (Qsy (l.take i))∧A' 12=.S b l.length cap∧A' 13=.Z l.length∧A' 14=.Z i) (l.length - i) A2 H3:=
   λA2 H3 e1 e2 p1 aV aW aS aT aU=>⟨l.length - (i+1),by omega,i+1,by omega,rfl,e2,e1,p1,aV,aW,aS,aT,aU⟩
  rw[ap,hB]at aa;cases av:ao==1 with
  | false=>
   rw[av,NG,NI,NG,NI]at aa;simp only[Qb,simprocAttr,ac,ah];refine aa _ H2 ak aB ?_ ?_ ?_ ?_ ?_ ?_
   all_goals simp only[Qf,simprocAttr,r1,ad,ae,ag,r13]
  | true=>
   rw[av,LJ,LJ,<- FP]at aa;obtain⟨N',aG⟩:∃N',N'=(decide (0<bits)||N):=⟨_,rfl⟩;rw[<- aG]at aa ad;cases N' with
   | true=>
    rw[N1]at aa;cases B with
    | true=>
     rw[N1]at aa;simp only[YI,Qb,simprocAttr,ad,ae,ac,ah];refine aa _ H2 ak aB ?_ ?_ ?_ ?_ ?_ ?_
     all_goals simp only[Qf,simprocAttr,r1,ag,r13]
    | false=>
     rw[Nt]at aa;simp only[YI,Qb,simprocAttr,ad,ae,g2];refine(an H2).w ?_;rintro _ _ ai am ⟨rfl,k4,rfl⟩;simp only[Qw]at ai;simp only[Qb,simprocAttr,ac,ah];refine aa _ _ (ak.up ai) am ?_ ?_ ?_ ?_ ?_ ?_
     all_goals simp only[Qf,simprocAttr,r1,ag,r13]
   | false=>
    rw[Nt]at aa;simp only[YI,Qb,simprocAttr,ad,g2];refine(aD H2).w ?_;rintro _ _ ax aO ⟨rfl,k3,rfl⟩;simp only[Qw]at ax;have aC:=ak.up ax;have g3:=g2;rw[<- Xo H2 k3]at g3;generalize H2.up k3=H3 at *;cases B with
    | true=>
     rw[N1]at aa;simp only[Qb,simprocAttr,ae,ac,ah];refine aa _ H3 aC aO ?_ ?_ ?_ ?_ ?_ ?_
     all_goals simp only[Qf,simprocAttr,r1,ag,r13]
    | false=>
     rw[Nt]at aa;simp only[Qb,simprocAttr,ae,g3];refine(an H3).w ?_;rintro _ _ ai am ⟨rfl,k4,rfl⟩;simp only[Qw]at ai;simp only[Qb,simprocAttr,ac,ah];refine aa _ _ (aC.up ai) am ?_ ?_ ?_ ?_ ?_ ?_
     all_goals simp only[Qf,simprocAttr,r1,ag,r13]
 have ab:i=l.length:=by have:=Ll ab;omega
 subst ab;rw[Nr]at ad ae;have ar:∀z:Int,Gx 1 3 H (H'.push (.C [.Z z] 3)) (.S H'.y 1 1) 1 (ints [z]):=λz=>.inr ⟨_,_,rfl,hx.y,by rw[Qc,Lc rfl];rfl,rfl,.inl rfl⟩;have aI:Gx 1 3 H (H'.push (.C [.Z (-1),.Z 0] 3)) (.S H'.y 2 2) 2 (ints [-1,0]):=.inr ⟨_,_,rfl,hx.y,by rw[Qc,Lc rfl];rfl,rfl,.inl rfl⟩;unfold chF;generalize (decide (0<bits)||Qk3 l)=N at *;generalize Qsy l=B at *;cases N<;>cases B<;>simp only[Qbz,Qby,Qb,simprocAttr,r1,ad,ae,QlP,LV];·exact .mk (hx.push _).y ⟨aI,hx.push _⟩
 ·exact .mk (hx.push _).y ⟨ar (-1),hx.push _⟩
 ·exact .mk (hx.push _).y ⟨ar bits,hx.push _⟩
 exact .mk hx.y ⟨.inl ⟨rfl,rfl,rfl⟩,hx⟩
structure FOk (f:Fm):Prop where
 pre:0<=f.pre∧f.pre<=5
 map:0<=f.map∧f.map<=3
 w:f.vex=false->f.w=0∨f.w=1
 vx:f.vex=true->f.map≠0∧(f.pre=0∨f.pre=1∨f.pre=2∨f.pre=4)∧(-1<=f.w∧f.w<=1)∧(f.l=0∨f.l=1)
def QtH (f:Fm)(l:List Ar)(s:Int):Int:=if 0<=Qy f.slots s then((l[(Qy f.slots s).toNat]?.getD WY).r).n else 0
def hB (f:Fm)(l:List Ar)(h:Int):Int:=if 0<=Qy f.slots 4 then Qnx f l 4 else h
def Qyk (w:Int):Int:=if 0>w then 0 else w
def vxF (f:Fm)(l:List Ar)(x h:Int):Vx:=⟨Qnx f l 1,x,hB f l h,f.map,Qyk f.w,QtH f l 3,f.l,f.pre⟩
def QgL (f:Fm)(l:List Ar)(x h:Int):List (List Int):=
 if f.vex=true then QAE (vxF f l x h) (f.w==-1)
 else(chF (Qsx f.w (Qnx f l 1) x (hB f l h)) l).map λn=>QfZ f.pre n++QgJ f.map
def QqM (f:Fm)(l:List Ar)(s:Int):0<=Qnx f l s∧Qnx f l s<2:=by
 unfold Qnx;split;·exact Qnv _
 omega
section
variable {x:Lf} {op:Int} {va:Value} {l:List Ar} {H:Qa}
abbrev KH (H:Qa)(W:List (List Int)):Env->Qa->Prop:=Rt Pg Tryz.f223 H λv H'=>VO 22 H H' v W∧Ext H H'
structure HdF (H H':Qa) (x:Lf) (op:Int) (va:Value) (A:Env):Prop where
 xt:Ext H H'
 w:H'.Wf
 g3:H'.get H.y=some (.C x.cells 51)
 g4:H'.get (H.y+1)=some (.C [.Z op,va] 33)
 lt:H.y+2<=H'.y
 r3:A 3=.P H.y
 r4:A 4=.P (H.y+1)
def HdF.go {H' H'':Qa}{A B:Env}(h:HdF H H' x op va A)(hx:Ext H' H'')(aa:H''.Wf)(e3:B 3=A 3)(e4:B 4=A 4):HdF H H'' x op va B:=
 ⟨h.xt.trans hx,aa,by rw[hx.get _ (by have:=h.lt;omega)];exact h.g3,by rw[hx.get _ (by have:=h.lt;omega)];exact h.g4,by have:=h.lt;have:=hx.y;omega,e3.trans h.r3,e4.trans h.r4⟩
def QMt (ar:FOk x.f)(bi:x.f.vex=false)(bn:H.Wf)(hx:x.At H)(aq:QQ H va l)(bm:∀n,H.y<=n->Qj n 6 (.agg #[.Z op,va])=true)(aY:l.length<=1000){r xx b:Int}(bg:0<=r∧r<2)(bq:0<=xx∧xx<2)(aQ:0<=b∧b<2){W:List (List Int)}(aL:W=(chF (Qsx x.f.w r xx b) l).map λn=>QfZ x.f.pre n++QgJ x.f.map){A:Env}{H1:Qa}(ap:HdF H H1 x op va A)(br:A 7=.Z r)(r8:A 8=.Z xx)(bu:A 9=.Z b):
  Qk Pg Vn ⟨KH H W,Xi⟩ (KH H W) A H1:=by
 obtain⟨a0,cap,rfl,b3⟩:=id aq;have aO:=ap;obtain⟨aj,bA,g3,g4,b9,r3,r4⟩:=ap;have aK:x.cells[7]? = some (.Z x.f.w):=rfl;have bC:=ar.w bi;simp only[Vn,Qb,simprocAttr,r3,r4,br,r8,bu,g3,g4,aK];have bd:=aj.y;refine⟨bm _ bd,?_⟩;refine(QDe x.f.w r xx b (by omega) bg bq aQ H1).w ?_;rintro _ H1 _ _ ⟨rfl,rfl⟩;simp only[Qb,simprocAttr];refine⟨λ_ _=>rfl,?_⟩;refine(QoK op (Qsx x.f.w r xx b) _ l H1 (aq.ext bn aj) aY).w ?_;rintro bD H2 _ ai ⟨aT,ak⟩;have b4:0<=Qsx x.f.w r xx b∧Qsx x.f.w r xx b<=15:=by unfold Qsx;omega
 have aS:∀n∈chF (Qsx x.f.w r xx b) l,-1<=n∧n<=15:=by
  intro n aa;unfold chF at aa;split at aa
  ·split at aa;·cases aa
   simp at aa;omega
  split at aa;·simp at aa;omega
  simp at aa;omega
 have b5:(chF (Qsx x.f.w r xx b) l).length<=2:=by
  unfold chF;split;·split<;>simp
  split<;>simp
 generalize chF (Qsx x.f.w r xx b) l=C at *;have bh:=aT.sl;obtain⟨aI,aJ,rfl,aP⟩:=bh;simp only[Qb,simprocAttr];have e3:x.cells[3]? = some (.Z x.f.pre):=rfl;have e4:x.cells[4]? = some (.Z x.f.map):=rfl;have b2:∀B:Env,B 3=A 3->B 4=A 4->HdF H H2 x op (.slice a0 l.length cap) B:=λB an ao=>aO.go ak ai an ao;have az:=aj.trans ak;have aZ:=az.y;refine Qp (λm A' H'=>∃ (i:Nat) (v:Value),i<=C.length∧m=C.length - i∧Ext H2 H'∧VO 22 H2 H' v ((C.take i).map λn=>QfZ x.f.pre n++QgJ x.f.map)∧H'.Wf∧A' 3=.P H.y∧A' 14=v∧A' 77=.slice aI C.length aJ∧A' 78=.Z C.length∧A' 79=.Z i) C.length ?_ ?_
 ·refine⟨0,.slice none 0 0,L7 _,by omega,.refl _,VO.nil (by decide) _ _,ai,?_,?_,?_,?_,?_⟩
  all_goals simp only[Qf,simprocAttr,r3]
  all_goals rfl
 rintro m A' H' ⟨i,v,hi,rfl,ac,ah,ay,al,aF,aG,aH,am⟩;simp only[Qem,Qb,simprocAttr,aH,am];refine Qg (λab=>?_) (λab=>?_)
 ·have ab:i<C.length:=by have:=Lg ab;omega
  obtain⟨n,aa⟩:∃n,C[i]? = some n:=⟨_,La ab⟩;have ba:=aS n (Ln aa);obtain⟨b',e',bw,rfl,av⟩:=aP (by omega);have aX:H'.get b'=some (.cells (ints C) e' bw):=by rw[ac.get b' (ai.lt av)];exact av
  have aR:(ints C)[i]? = some (.Z n):=by unfold ints;rw[LD,aa];rfl
  have d1:(0:Int)<=i∧(i:Int)<C.length:=by omega
  have d3:(i:Int).toNat=i:=by omega
  have aM:IntKind.i64.wrap ((i:Int)+1)=((i+1:Nat):Int):=by rw[w64 (by unfold I64;omega)];omega
  have ae:H'.get H.y=some (.C x.cells 51):=by rw[(ak.trans ac).get _ (by omega)];exact g3
  simp only[Qel,Qb,simprocAttr,al,aG,am,d1,d3,aX,aR,ae,e3];refine(QDb x.f.pre n ar.pre ba H').w ?_;rintro _ H3 _ bo ⟨bE,rfl,aU,aA⟩;have aN:H3.get H.y=some (.C x.cells 51):=by rw[aA.get _ (ay.lt ae)];exact ae
  simp only[Qb,simprocAttr,LO,al,aF,aN,e4];refine(Qqo x.f.map H3).w ?_;rintro bF H4 _ bp ⟨aV,aB⟩;have b7:(QgJ x.f.map).length<=2:=by unfold QgJ;repeat' (split<;>try simp)
  have b8:(QfZ x.f.pre n).length<=4:=by
   unfold QfZ QJ7;simp only[Lh];have bz:(if x.f.pre % 2=1 then([102]:List Int) else[]).length<=1:=by split<;>simp
   have ab:(if x.f.pre / 2 % 2=1 then([242]:List Int) else[]).length<=1:=by split<;>simp
   have an:(if x.f.pre / 4 % 2=1 then([243]:List Int) else[]).length<=1:=by split<;>simp
   have ao:(if 0<=n then([64+n]:List Int) else[]).length<=1:=by split<;>simp
   omega
  simp only[Qb,simprocAttr];refine Qdk (aU.go bo aB) (aA.trans aB) bp aV.src (Qb5 _) (by rw[ZR,NH]) (by omega) (by omega) ?_;intro bG H5 au ag;obtain⟨a5,ad,rfl⟩:=au.slc;simp only[Qb,simprocAttr];have aC:=(Ext.refl H5).push (.C [.slice a5 ((QfZ x.f.pre n).length+(QgJ x.f.map).length) ad] 22);have aD:=ag.x.trans aC;have bc:=ac.y;have aW:Gx 1 5 H2 (H5.push (.C [.slice a5 ((QfZ x.f.pre n).length+(QgJ x.f.map).length) ad] 22)) (.slice a5 ((QfZ x.f.pre n).length+(QgJ x.f.map).length) ad) (QfZ x.f.pre n++QgJ x.f.map).length (bys (QfZ x.f.pre n++QgJ x.f.map)):=by
   rw[Lh,Qb4];exact(au.go ag.w aC).down bc
  have b6:((C.take i).map λn=>QfZ x.f.pre n++QgJ x.f.map).length<=2:=by rw[Nn,Sb];omega
  refine Qwb (ah.go ay aD) (ac.trans aD) (ag.w.push _) aW (QqL H5 _) (by omega) (by omega) ?_;intro bx H7 bj ax;simp only[Qb,simprocAttr,am,aM];refine⟨C.length - (i+1),by omega,i+1,bx,by omega,rfl,ax.x,?_,ax.w,?_,?_,?_,?_,?_⟩
  ·have:(C.take (i+1)).map (λn=>QfZ x.f.pre n++QgJ x.f.map)=(C.take i).map (λn=>QfZ x.f.pre n++QgJ x.f.map)++[QfZ x.f.pre n++QgJ x.f.map]:=by
    rw[Nv,aa,N6];rfl
   rw[this];exact bj
  all_goals simp only[Qf,simprocAttr,al,aG,aH]
 have ab:i=C.length:=by have:=Ll ab;omega
 subst ab;rw[Nr]at ah;simp only[Qb,simprocAttr,aF,QfN];have aE:=az.trans ac;exact .mk aE.y ⟨by rw[aL];exact ah.down aZ,aE⟩
def QpO {l:List Ar}{i:Nat}{a:Ar}(h:l[i]? = some a):(Qm l)[i * 11+1+1]? = some (.Z a.r.n):=by
 have aa:=QgK h;have:=congrArg (·[1]?) aa;simp only[Nl,Nk]at this;simpa using this
def QMu (ap:H.Wf)(hx:x.At H)(aI:QQ H va l)(bc:l.length<=1000)(bi:x.f.slots.length=l.length){r xx b:Int}{y:Vx}(aT:y.Ok)(ak:y=⟨r,xx,b,x.f.map,Qyk x.f.w,QtH x.f l 3,x.f.l,x.f.pre⟩){W:List (List Int)}(aA:W=QAE y (x.f.w==-1)){A:Env}{H1:Qa}(aH:HdF H H1 x op va A)(aZ:A 7=.Z r)(r8:A 8=.Z xx)(ba:A 9=.Z b)(ks:Kp)(aN:ks=⟨KH H W,Xi⟩)(k:Env->Qa->Prop):
  Qk Pg Vp ks k A H1:=by
 subst aN;obtain⟨a0,cap,rfl,aJ⟩:=id aI;obtain⟨ar,aQ,g3,g4,bd,r3,r4⟩:=aH;have e3:x.cells[3]? = some (.Z x.f.pre):=rfl;have e4:x.cells[4]? = some (.Z x.f.map):=rfl;have aj:x.cells[7]? = some (.Z x.f.w):=rfl;have az:x.cells[9]? = some (.Z x.f.l):=rfl;have ay:x.cells.take 10=x.cells:=rfl;have aU:10<=x.cells.length:=Lb _;have aL:=Qyj x.f.slots 3;simp only[Vp,Qb,simprocAttr,r3,aZ,r8,ba,g3,e4,aj];rw[QGX (ik:=.i64) (a:=x.f.w) (b:=0) (by simp only[Qf,simprocAttr]) (by simp only[Qf,simprocAttr])];simp only[Qb,simprocAttr,r3,g3,e3,az];generalize ac:(Qa.push H1 _).set _ _=H2;have ad:Ext H1 H2:=by rw[<- ac];exact((Ext.refl H1).push _).set (Lb _) _
 have aR:H2.Wf:=by rw[<- ac];exact(aQ.push _).set (b0:=.C [.Z 0,.Z 0,.Z 0,.Z 0,.Z 0,.Z 0,.Z 0,.Z 0] 154) (by rw[Qc,Lc rfl]) _
 have g2:H2.get H1.y=some (.C [.Z r,.Z xx,.Z b,.Z x.f.map,.Z (Qyk x.f.w),.Z 0,.Z x.f.l,.Z x.f.pre] 154):=by rw[<- ac,Qh,Lc rfl];rfl
 have aD:H2.get H.y=some (.C x.cells 51):=by rw[ad.get _ (by omega)];exact g3
 clear ac;have ax:¬H.y=H1.y:=by omega
 simp only[Qb,simprocAttr,ax,ay];refine⟨aU,?_⟩;refine(QH x 3 H2 (hx.ext ap (ar.trans ad))).w ?_;rintro _ _ ao aq ⟨rfl,k3,rfl⟩;simp only[Qw]at ao;have ai:=(ar.trans ad).up ao;have bg:=aR.lt g2;have ab:=g2;have ag:=aD;rw[<- Xo H2 k3]at ab ag;have aE:(H2.up k3).get (H.y+1)=some (.C [.Z op,.slice a0 l.length cap] 33):=by rw[Xo,ad.get _ (by omega)];exact g4
 have bh:H1.y<(H2.up k3).y:=by rw[Qw];omega
 generalize H2.up k3=H3 at *
 -- the end: the VEX stands in its block
 have am:∀ (A2:Env) (H4:Qa),Ext H H4->H4.Wf->H4.get H1.y=some (.C y.cells 154)->H4.get H.y=some (.C x.cells 51)->A2 3=.P H.y->A2 10=.P H1.y->Qk Pg Vo ⟨KH H W,Xi⟩ k A2 H4:=by
  intro A2 H4 au bj aG aF aX aW;have aY:=QDc aT (x.f.w==-1) H4;have aC:y.cells.take 8=y.cells:=rfl;have aV:8<=y.cells.length:=Lb _;simp only[Vo,Qb,simprocAttr,aX,aW,aG,aF,aC,aj];refine⟨aV,?_⟩;refine aY.w ?_;rintro _ H5 _ bm ⟨v,rfl,aP,aS⟩;simp only[Qb,simprocAttr,LO,QfN];have av:=au.trans aS;exact .mk av.y ⟨by rw[aA];exact aP.down au.y,av⟩
 simp only[Qb,simprocAttr];refine Qg (λh=>?_) (λh=>?_)
 ·have ah:0<=Qy x.f.slots 3:=Lg h;have aa:QtH x.f l 3=((l[(Qy x.f.slots 3).toNat]?.getD WY).r).n:=by unfold QtH;rw[Lc ah]
  obtain⟨i,hi⟩:∃i:Nat,Qy x.f.slots 3=i:=⟨(Qy x.f.slots 3).toNat,by omega⟩;rw[hi]at aL aa ⊢;have aM:i<l.length:=by omega
  obtain⟨a,al⟩:∃a,l[i]? = some a:=⟨_,La aM⟩;obtain⟨b',e,ro,rfl,an⟩:=aJ (by omega);have aK:H3.get b'=some (.cells (Qm l) e ro):=by rw[ai.get b' (ap.lt an)];exact an
  have aO:=QpO al;have d1:(0:Int)<=i∧(i:Int)<l.length:=by omega
  have d3:(i:Int).toNat=i:=by omega
  have aB:QtH x.f l 3=a.r.n:=by rw[aa,d3,al];rfl
  have ae:y.cells=[.Z r,.Z xx,.Z b,.Z x.f.map,.Z (Qyk x.f.w),.Z a.r.n,.Z x.f.l,.Z x.f.pre]:=by rw[ak,aB];rfl
  simp only[Qb,simprocAttr,r4,aE,d1,d3,aK,aO,ab];refine am _ _ (ai.set (by omega) _) (aq.set ab _) ?_ ?_ ?_ ?_;·rw[Qh,Lc rfl,ae]
  ·rw[Qh,Le ax];exact ag
  all_goals simp only[Qf,simprocAttr,r3]
 have ah:¬0<=Qy x.f.slots 3:=Ll h;have aa:QtH x.f l 3=0:=by unfold QtH;rw[Le ah]
 have ae:y.cells=[.Z r,.Z xx,.Z b,.Z x.f.map,.Z (Qyk x.f.w),.Z 0,.Z x.f.l,.Z x.f.pre]:=by rw[ak,aa];rfl
 simp only[Qb,simprocAttr];refine am _ H3 ai aq (by rw[ae];exact ab) ag ?_ ?_
 all_goals simp only[Qf,simprocAttr,r3]
end
def Qsz {x:Lf}{op:Int}{va:Value}{l:List Ar}(aV:FOk x.f)(H:Qa)(hx:x.At H)(ai:QQ H va l)(aY:∀n,H.y<=n->Qj n 6 (.agg #[.Z op,va])=true)(ak:l.length<=1000)(au:x.f.slots.length=l.length){ab aa:Int}(aX:0<=ab∧ab<2)(aW:0<=aa∧aa<2)(bg:x.f.vex=true->(vxF x.f l ab aa).Ok){aJ:Option Addr}{aK sc:Nat}:
  Qe Pg 223 [.agg x.cells.toArray,.agg #[.Z op,va],.agg #[.slice aJ aK sc,.Z ab,.Z aa]] H λv H'=>VO 22 H H' v (QgL x.f l ab aa)∧Ext H H':=by
 refine Qqg λac=>?_;have aN:(Value.agg x.cells.toArray).cells.toList=x.cells:=rfl;have am:x.cells.take 10=x.cells:=rfl;have aL:x.cells[8]? = some (.bool x.f.vex):=rfl;have ay:10<=x.cells.length:=Lb _;obtain⟨W,an⟩:∃W,W=QgL x.f l ab aa:=⟨_,rfl⟩;rw[<- an];obtain⟨a0,cap,rfl⟩:=Wd ai;simp only[Qhx,aN,Wu,simprocAttr];generalize ah:Qa.push H (.C x.cells 51)=H1;have g1:H1.get H.y=some (.C x.cells 51):=by rw[<- ah,Qc,Lc rfl]
 have bc:Ext H H1:=by rw[<- ah];exact(Ext.refl H).push _
 have aC:H1.y=H.y+1:=by rw[<- ah];rfl
 have aZ:H1.Wf:=by rw[<- ah];exact ac.push _
 clear ah;simp only[Qb,simprocAttr,aC];generalize ad:Qa.push (Qa.push H1 _) _=H2;have av:Ext H H2:=by rw[<- ad];exact(bc.push _).push _
 have bp:H2.Wf:=by rw[<- ad];exact(aZ.push _).push _
 have aO:H2.get H.y=some (.C x.cells 51):=by rw[<- ad,Qc,Le (by rw[Qd];omega),Qc,Le (by omega)];exact g1
 have az:H2.get (H.y+1)=some (.C [.Z op,.slice a0 l.length cap] 33):=by rw[<- ad,Qc,Le (by rw[Qd];omega),Qc,Lc (by omega)]
 have aP:H2.get (H.y+2)=some (.C [.slice aJ aK sc,.Z ab,.Z aa] 210):=by rw[<- ad,Qc,Lc (by rw[Qd];omega)]
 have bj:H2.y=H.y+3:=by rw[<- ad,Qd,Qd,aC]
 clear ad;have bh:¬H.y=H.y+1+1:=by omega
 have br:¬H.y+1=H.y+1+1:=by omega
 have aS:=QqM x.f l 1;have aT:=QqM x.f l 4;simp only[Qb,simprocAttr,bh,g1,az,am];refine⟨ay,⟨by omega,by omega⟩,?_⟩;refine(Qk2 x op _ l 1 H2 (hx.ext ac av) (ai.ext ac av) ak au).w ?_;rintro _ H3 bm bq ⟨rfl,ae⟩;have aE:=av.trans ae;have aA:=(ae.get H.y (by omega)).trans aO;have aQ:=(ae.get (H.y+1) (by omega)).trans az;have aR:=(ae.get (H.y+2) (by omega)).trans aP;have bd:=ae.eqB;simp only[Qb,simprocAttr,aA,aR,am];refine⟨bd,by simp[Qj,Ab.plain],by simp[Qj,Ab.plain],ay,?_⟩;refine(QH x 4 H3 (hx.ext ac aE)).w ?_;rintro _ _ aD ba ⟨rfl,k4,rfl⟩;simp only[Qw]at aD;have ax:=aE.up aD;have ao:=aA;have ap:=aQ;rw[<- Xo H3 k4]at ao ap;have bn:H.y+3<=(H3.up k4).y:=by rw[Qw];have:=ae.y;omega
 generalize H3.up k4=H4 at *
 -- the last part,with the bit that the opcode's register may give
 have aB:∀ (A:Env) (H5:Qa) (b:Int),Ext H4 H5->H5.Wf->b=hB x.f l aa->A 3=.P H.y->A 4=.P (H.y+1)->A 7=.Z (Qnx x.f l 1)->A 8=.Z ab->A 9=.Z b->Qk Pg Vq ⟨KH H W,Xi⟩ (KH H W) A H5:=by
  intro A H5 b ag aj aM aF bi aG aH aI;subst aM;have ar:HdF H H5 x op (.slice a0 l.length cap) A:=⟨ax.trans ag,aj,by rw[ag.get _ (by omega)];exact ao,by rw[ag.get _ (by omega)];exact ap,by have:=ag.y;omega,aF,bi⟩;have aU:0<=hB x.f l aa∧hB x.f l aa<2:=by unfold hB;split;exact aT;exact aW
  simp only[Vq,Qb,simprocAttr,aF,ar.g3,aL];cases al:x.f.vex with
  | true=>
   simp only[Wu,simprocAttr];refine QMu (y:=vxF x.f l ab aa) ac hx ai ak au (bg al) rfl (by rw[an];unfold QgL;rw[Lc al]) (ar.go (.refl _) aj ?_ ?_) ?_ ?_ ?_ _ rfl _
   all_goals simp only[Qf,simprocAttr,aG,aH,aI]
  | false=>
   simp only[Wu,simprocAttr];refine QMt aV al ac hx ai aY ak aS aX aU (by rw[an];unfold QgL;rw[Le (by simp[al])]) (ar.go (.refl _) aj ?_ ?_) ?_ ?_ ?_
   all_goals simp only[Qf,simprocAttr,aG,aH,aI]
 simp only[Qb,simprocAttr];refine Qg (λh=>?_) (λh=>?_)
 ·have aq:0<=Qy x.f.slots 4:=Lg h;simp only[Qb,simprocAttr,ao,ap,am];refine⟨ay,?_⟩;refine(Qk2 x op _ l 4 H4 (hx.ext ac ax) (ai.ext ac ax) ak au).w ?_;rintro _ H5 bo aj ⟨rfl,ag⟩;simp only[Qcj,KZ,QjH,QA4];refine aB _ H5 _ ag aj (by unfold hB;rw[Lc aq]) ?_ ?_ ?_ ?_ ?_
  all_goals simp only[Qf,simprocAttr]
 have aq:¬0<=Qy x.f.slots 4:=Ll h;simp only[Qll,Qrg];refine aB _ H4 _ (.refl _) ba (by unfold hB;rw[Le aq]) ?_ ?_ ?_ ?_ ?_
 all_goals simp only[Qf,simprocAttr]
def JI (f:Fn)(a b:Array Value):(Value.func f a b).cells.toList=[.func f a b]:=Nu rfl rfl
def Zm (f:Fn)(a b:Array Value):(Value.func f a b).oneCell'=true:=Nu rfl rfl
def QgM {l:Nat}{args:List Value}{H:Qa}{k ac:Value->Qa->Prop}(h:YQ Pg l args H k)(ag:∀v H',H.y<=H'.y->H'.Wf->k v H'->ac v H'):YQ Pg l args H ac:=by
 intro ah;obtain⟨v,H',ad,aa,ab,ae⟩:=h ah;exact⟨v,H',ad,aa,ab,ag v H' aa ab ae⟩
structure CK (Own:Qa->Nat->Prop) (H H':Qa):Prop where
 y:H.y<=H'.y
 w:H'.Wf
 keep:∀id,id<H.y->¬Own H id->H'.get id=H.get id
 own:∀id,Own H' id->Own H id∨H.y<=id
def CK.trans {Own:Qa->Nat->Prop}{H H' H'':Qa}(h:CK Own H H')(h':CK Own H' H''):CK Own H H'':=by
 have ae:=h.y;have ag:=h'.y;refine⟨by omega,h'.w,λid ab aa=>?_,λid ab=>?_⟩;·rw[h'.keep id (by omega) (λad=>by rcases h.own id ad with ac | ac;exact aa ac;omega),h.keep id ab aa]
 rcases h'.own id ab with aa | aa;·exact h.own id aa
 exact .inr (by omega)
structure Cns {α:Type} (base:Nat) (l:Nat) (items:List α) (It:Qa->Qa->α->Value->Prop) (R:Nat->Qa->Prop) (Own:Qa->Nat->Prop):Prop where
 ext:∀j H H',R j H->H.Wf->Ext H H'->R j H'∧∀id,Own H' id->Own H id
 low:∀j H id,R j H->Own H id->id<H.y
 go:∀j w H0 H v,items[j]? = some w->R j H->R j H0->H0.Wf->It H0 H w v->base<=H0.y->Ext H0 H->(∀id,Own H id->Own H0 id)->YQ Pg l [v] H λu H'=>u=.bool true∧R (j+1) H'∧CK Own H H'
def Cns.ck {α:Type}{base l:Nat}{ae:List α}{It:Qa->Qa->α->Value->Prop}{R:Nat->Qa->Prop}{Own:Qa->Nat->Prop}(h:Cns base l ae It R Own){j:Nat}{H H':Qa}(ab:R j H)(ac:H.Wf)(hx:Ext H H')(ad:H'.Wf):CK Own H H':=
 ⟨hx.y,ad,λid aa _=>hx.get id aa,λid aa=>.inl ((h.ext j H H' ab ac hx).2 id aa)⟩
def QKb (aa:Nat)(m:Mm):Bool:=if aa=0 then(m.d==0)&&!(Xz m.b==5) else if aa=1 then QBC m.d 8 else true
def QlY (aa:Nat)(m:Mm):List Int:=if aa=0 then[] else if aa=1 then(Qak m.d 1).1 else(Qak m.d 4).1
def Kb (mid ab:Int)(sib:List Int)(m:Mm)(aa:Nat):List Ld:=if QKb aa m=true then[⟨[QR aa mid ab]++sib++QlY aa m,GI m.i,GI m.b⟩] else[]
def ZT (mid aa:Int)(sib:List Int)(m:Mm):List Ld:=(List.range 3).flatMap (Kb mid aa sib m)
def QnA:List Value:=[.func (.func 333) #[] #[],.func (.func 334) #[] #[],.func (.func 335) #[] #[],.func (.func 337) #[] #[],.func (.func 338) #[] #[],.func (.func 339) #[] #[]]
def Qqr (H:Qa):Qe Pg 327 [] H λu H'=>u=.S H.y 3 3∧H'=H.push (.C QnA 367):=by
 refine QoC λaa=>?_;simp only[QfQ,Qb,simprocAttr,JI,Nat.reduceMul,Qnn];exact .mk (by rw[Qd];omega) ⟨rfl,rfl⟩
def QKc (d lo:Int)(H:Qa):Qe Pg 333 [.Z d,.Z lo] H λu H'=>u=.bool ((d==0)&&!(lo==5))∧H'=H:=by
 refine QlQ λaa=>?_;simp only[QcX,Qb,simprocAttr];cases h:d==0<;>simp only[Qb,simprocAttr,Qj4]
 all_goals exact .mk (Lb _) ⟨rfl,rfl⟩
def QKd (d lo:Int)(H:Qa):Qe Pg 335 [.Z d,.Z lo] H λu H'=>u=.bool (QBC d 8)∧H'=H:=by
 refine QlS λaa=>?_;simp only[QcZ,Qb,simprocAttr];refine(Qv6 d 8 H).w ?_;rintro _ H _ _ ⟨rfl,rfl⟩;simp only[Qb,simprocAttr,Qj6];exact .mk (Lb _) ⟨rfl,rfl⟩
def QKe (d lo:Int)(H:Qa):Qe Pg 338 [.Z d,.Z lo] H λu H'=>u=.bool true∧H'=H:=by
 refine QlU λaa=>?_;simp only[Qc1,Qb,simprocAttr,Qj8];exact .mk (Lb _) ⟨rfl,rfl⟩
def QKf (d:Int)(H:Qa):Qe Pg 334 [.Z d] H λv H'=>Gx 1 5 H H' v 0 []∧Ext H H':=by
 refine QlR λaa=>?_;simp only[QcY,Qb,simprocAttr,Qj5];exact .mk (Lb _) ⟨.inl ⟨rfl,rfl,rfl⟩,.refl _⟩
def QKg (d:Int)(aa:I64 d)(H:Qa):Qe Pg 337 [.Z d] H λv H'=>Gx 1 5 H H' v (Qak d 1).1.length (bys (Qak d 1).1)∧Ext H H':=by
 refine QlT λac=>?_;simp only[Qc0,Qb,simprocAttr];refine(Qex d 1 aa H).w ?_;rintro v H1 _ _ ⟨ab,hx⟩;simp only[Qb,simprocAttr,Qj7];exact .mk hx.y ⟨ab,hx⟩
def QKh (d:Int)(aa:I64 d)(H:Qa):Qe Pg 339 [.Z d] H λv H'=>Gx 1 5 H H' v (Qak d 4).1.length (bys (Qak d 4).1)∧Ext H H':=by
 refine QlV λac=>?_;simp only[Qc2,Qb,simprocAttr];refine(Qex d 4 aa H).w ?_;rintro v H1 _ _ ⟨ab,hx⟩;simp only[Qb,simprocAttr,Qj9];exact .mk hx.y ⟨ab,hx⟩
def QKi (aa:Nat)(h:aa<3)(m:Mm)(ab:I64 m.d):∃f g:FuncId,(QnA.drop (aa * 2)).take 2=[.func (.func f) #[] #[],.func (.func g) #[] #[]]∧(∀H,Qe Pg f [.Z m.d,.Z (Xz m.b)] H λu H'=>u=.bool (QKb aa m)∧H'=H)∧(∀H,Qe Pg g [.Z m.d] H λv H'=>Gx 1 5 H H' v (QlY aa m).length (bys (QlY aa m))∧Ext H H'):=by
 rcases aa with _ | _ | _ | aa;·exact⟨_,_,rfl,QKc m.d (Xz m.b),QKf m.d⟩
 ·exact⟨_,_,rfl,QKd m.d (Xz m.b),QKg m.d ab⟩
 ·exact⟨_,_,rfl,QKe m.d (Xz m.b),QKh m.d ab⟩
 omega
def Qyn (aa:Nat)(m:Mm):(QlY aa m).length<=8:=by
 unfold QlY;split;·simp
 split;·exact Qjn _ _ (by decide)
 exact Qjn _ _ (by decide)
def Qjt (mid ab:Int)(sib:List Int)(m:Mm)(aa:Nat):(List.range (aa+1)).flatMap (Kb mid ab sib m)=(List.range aa).flatMap (Kb mid ab sib m)++Kb mid ab sib m aa:=by
 rw[R0,Bm];simp
def QsF {base l:Nat}{aF:List Ld}{R:Nat->Qa->Prop}{Own:Qa->Nat->Prop}(ac:Cns base l aF LdV R Own)(mid ab:Int)(bD:0<=mid∧mid<8)(bG:0<=ab∧ab<8){sib:List Int}(cn:sib.length<=8){sv:Value}(m:Mm)(bw:I64 m.d)(al:Nat){Hs H:Qa}(cb:base<=H.y)(ao:R al H)(bH:Gx 1 5 Hs H sv sib.length (bys sib))(bL:∀id,inB sv id->¬Own H id)
  (hit:∀i w,(ZT mid ab sib m)[i]? = some w->aF[al+i]? = some w):
  Qe Pg 310 [.func (.yield l) #[] #[],.Z mid,.Z ab,sv,.agg m.cells.toArray] H λu H'=>u=.bool true∧R (al+(ZT mid ab sib m).length) H'∧CK Own H H':=by
 refine QfP λar=>?_;have bY:=QKi;have cc:sv=sv:=rfl;obtain⟨aH,bZ⟩:∃aH:Value,aH=.agg m.cells.toArray:=⟨_,rfl⟩;have bj:(Value.agg m.cells.toArray).cells.toList=m.cells:=rfl;simp only[GC,bj,Wu,simprocAttr];have ba:=(Ext.refl H).push (.C m.cells 70);have bM:=ar.push (.C m.cells 70);have aQ:(H.push (.C m.cells 70)).get H.y=some (.C m.cells 70):=by rw[Qc,Lc rfl]
 generalize H.push (.C m.cells 70)=H1 at *;refine(Qqr H1).w ?_;rintro _ Hb cm ah ⟨rfl,ay⟩;have bh:Ext H1 Hb:=by rw[ay];exact(Ext.refl H1).push _
 have aS:Hb.get H1.y=some (.C QnA 367):=by rw[ay,Qc,Lc rfl]
 have aA:Hb.get H.y=some (.C m.cells 70):=by rw[bh.get _ (bM.lt aQ)];exact aQ
 clear ay;have av:=ba.trans bh;obtain⟨aP,az⟩:=ac.ext _ _ _ ao ar av;have aW:=ac.low al H;have aZ:=bH.go ar av;simp only[Wu,simprocAttr];refine Qp (λk A' H'=>∃aa:Nat,aa<=3∧k=3 - aa∧R (al+((List.range aa).flatMap (Kb mid ab sib m)).length) H'∧CK Own Hb H'∧A' 0=.func (.yield l) #[] #[]∧A' 1=.Z mid∧A' 2=.Z ab∧A' 3=sv∧A' 9=.P H.y∧A' 14=.S H1.y 3 3∧A' 15=.Z 3∧A' 16=.Z aa) 3 ?_ ?_
 ·refine⟨0,by omega,rfl,aP,ac.ck aP ah (.refl _) ah,?_,?_,?_,?_,?_,?_,?_,?_⟩
  all_goals simp only[Qf,simprocAttr]
  all_goals rfl
 rintro k A' Ha ⟨aa,ch,rfl,aj,ad,r0,r1,r2,r3,ai,aG,r15,ax⟩;have ag:=ad.w;have cl:=ad.y;have bE:¬Own Hb H.y:=λh=>by have:=aW _ ao (az _ h);omega
 have bF:¬Own Hb H1.y:=λh=>by have:=aW _ ao (az _ h);have:=ba.y;omega
 have am:Ha.get H.y=some (.C m.cells 70):=by rw[ad.keep _ (ah.lt aA) bE];exact aA
 have gx:Ha.get H1.y=some (.C QnA 367):=by rw[ad.keep _ (ah.lt aS) bF];exact aS
 simp only[JQ,Qb,simprocAttr,r15,ax];refine Qg (λae=>?_) (λae=>?_)
 ·have ae:aa<3:=by have:=Lg ae;omega
  obtain⟨f,g,bz,bW,bX⟩:=bY aa ae m bw;have d1:(0:Int)<=aa∧(aa:Int)<(3:Nat):=by omega
  have d3:(aa:Int).toNat=aa:=by omega
  have aI:IntKind.i64.wrap ((aa:Int)+1)=((aa+1:Nat):Int):=by rw[w64 (by unfold I64;omega)];omega
  have bC:aa * 2+2<=QnA.length:=by show aa * 2+2<=6;omega
  simp only[JP,sxA,sxB,Nat.reduceBEq,Nat.reduceEqDiff,reduceCtorEq,mxA,mxB,Nat.reduceAdd,reduceIte,Nat.reduceLeDiff,splice,ai,aG,ax,d1,d3,gx,bz,Zm];have cg:=ah.lt aA;have bV:¬H.y=Ha.y:=by omega
  have aO:=am;simp only[Mm.cells]at aO;refine⟨bC,by simp[Qj,Ab.plain],?_⟩;simp only[Qb,simprocAttr,ai,bV,aO];generalize an:(Ha.push _).set Ha.y _=H3;have bT:Ext Ha H3:=by rw[<- an];exact((Ext.refl Ha).push _).set (Lb _) _
  have bO:H3.Wf:=by rw[<- an];exact(ag.push _).set (b0:=.C [.nilFunc,.nilFunc] 367) (by rw[Qc,Lc rfl]) _
  have aJ:H3.get Ha.y=some (.C [.func (.func f) #[] #[],.func (.func g) #[] #[]] 367):=by rw[<- an,Qh,Lc rfl]
  clear an;have cf:=bO.lt aJ;refine⟨by simp[Qj,Ab.plain],?_⟩;refine(Qal m.b H3).w ?_;rintro _ _ aC au ⟨rfl,k,rfl⟩;simp only[Qw]at aC;have ak:=bT.up aC;simp only[Qb,simprocAttr,QaA];refine⟨((Ext.refl H3).up aC).eqB,?_⟩;have aK:(H3.up k).get Ha.y=some (.C [.func (.func f) #[] #[],.func (.func g) #[] #[]] 367):=by rw[Xo];exact aJ
  generalize H3.up k=H4 at *;refine(bW H4).w ?_;rintro _ H4 _ _ ⟨rfl,rfl⟩;obtain⟨bu,ca⟩:=ac.ext _ _ _ aj ag ak;have b9:CK Own Hb H4:=ad.trans (ac.ck aj ag ak au);cases aX:QKb aa m with
  | false=>
   simp only[Qb,simprocAttr,ax,aI];have bA:Kb mid ab sib m aa=[]:=by unfold Kb;rw[Le (by simp[aX])]
   refine⟨3 - (aa+1),by omega,aa+1,by omega,rfl,?_,b9,?_,?_,?_,?_,?_,?_,?_,?_⟩;·rw[Qjt,bA,Na];exact bu
   all_goals simp only[Qf,simprocAttr,r0,r1,r2,r3,ai,aG,r15]
  | true=>
   simp only[JO,Qb,simprocAttr,r1,r2];refine(Yq aa mid ab (by omega) bD bG H4).w ?_;rintro _ H4 _ _ ⟨rfl,rfl⟩;simp only[Qb,simprocAttr,r3];have bK:Gx 1 5 Hs Ha sv sib.length (bys sib):=aZ.ext λid aT=>ad.keep id (by have:=aZ.low ah aT;omega) (λh=>bL id aT (az id h));have bI:=bK.go ag ak;have bc:=(Ext.refl H4).push (.C [.int .u8 (QR aa mid ab)] 5);have bP:=au.push (.C [.int .u8 (QR aa mid ab)] 5);have b3:Gx 1 5 H4 (H4.push (.C [.int .u8 (QR aa mid ab)] 5)) (.S H4.y 1 1) 1 (bys [QR aa mid ab]):=.inr ⟨_,_,rfl,Lb _,by rw[Qc,Lc rfl];rfl,rfl,.inl rfl⟩;have bJ:=bI.go au bc;generalize H4.push _=H5 at *;have ce:=Qyn aa m;refine Qdk b3 bc bP bJ.src (Qb5 _) (by rw[ZR,NH]) (by omega) (by omega) ?_;intro cp H6 b4 ap;have bm:H6.get Ha.y=some (.C [.func (.func f) #[] #[],.func (.func g) #[] #[]] 367):=by rw[ap.x.get _ (au.lt aK)];exact aK
   have bU:=ak.trans ap.x;have aL:H6.get H.y=some (.C m.cells 70):=by rw[bU.get _ (by omega)];exact am
   simp only[Mm.cells]at aL;simp only[Qb,simprocAttr,bm,aL,QaA,ai];refine(bX H6).w ?_;rintro cq H7 cj bQ ⟨b5,bd⟩;simp only[Qb,simprocAttr];refine Qdk (b4.go ap.w bd) (ap.x.trans bd) bQ b5.src (Qb5 _) (by rw[ZR,NH]) (by omega) (by omega) ?_;intro cr H8 aR aU;obtain⟨a8,bi,rfl⟩:=aR.slc;have aE:=ak.trans aU.x;have aM:H8.get H.y=some (.C m.cells 70):=by rw[aE.get _ (by omega)];exact am
   simp only[Mm.cells]at aM;have bR:=aU.w;simp only[Qb,simprocAttr,aM,r0,ai];have cd:=aE.y;refine⟨by omega,?_⟩;refine(Qdo m.i H8).w ?_;rintro _ _ aq bS ⟨rfl,k9,rfl⟩;simp only[Qw]at aq;have bg:=aE.up aq;have aN:(H8.up k9).get H.y=some (.C m.cells 70):=by rw[bg.get _ (by omega)];exact am
   simp only[Mm.cells]at aN;have bx:=((Ext.refl H8).up aq).eqB;have b6:=aR.go bR ((Ext.refl H8).up aq);generalize H8.up k9=H9 at *;simp only[Qb,simprocAttr,aN,ai];refine⟨bx,by simp[Qj,Ab.plain],?_⟩;refine(Qdo m.b H9).w ?_;rintro _ _ aB bN ⟨rfl,k10,rfl⟩;simp only[Qw]at aB;have aD:=bg.up aB;have b2:=b6.go bS ((Ext.refl H9).up aB);obtain⟨bq,bp⟩:=ac.ext _ _ _ aj ag aD;generalize H9.up k10=H10 at *;simp only[Qb,simprocAttr,Zz];have aY:Kb mid ab sib m aa=[⟨[QR aa mid ab]++sib++QlY aa m,GI m.i,GI m.b⟩]:=by unfold Kb;rw[Lc aX]
   have b7:aF[al+((List.range aa).flatMap (Kb mid ab sib m)).length]? = some ⟨[QR aa mid ab]++sib++QlY aa m,GI m.i,GI m.b⟩:=by
    refine hit _ _ ?_;unfold ZT;have bn:List.range 3=List.range (aa+1)++(List.range 3).drop (aa+1):=by
     rcases aa with _ | _ | _ | aa;·rfl
     ·rfl
     ·rfl
     omega
    rw[bn,Bm,Qjt,aY,LQ,LR (Lb _),BJ];rfl
   have bo:LdV Ha H10 ⟨[QR aa mid ab]++sib++QlY aa m,GI m.i,GI m.b⟩ (.agg #[.slice a8 (1+sib.length+(QlY aa m).length) bi,.Z (GI m.i),.Z (GI m.b)]):=by
    have e1:([QR aa mid ab]++sib++QlY aa m).length=1+sib.length+(QlY aa m).length:=by simp only[Lh,Lo,L9]
    have e2:bys ([QR aa mid ab]++sib++QlY aa m)=bys [QR aa mid ab]++bys sib++bys (QlY aa m):=by rw[Qb4,Qb4]
    refine⟨_,rfl,?_⟩;show Gx 1 5 Ha H10 _ ([QR aa mid ab]++sib++QlY aa m).length (bys ([QR aa mid ab]++sib++QlY aa m));rw[e1,e2];exact b2.down ak.y
   refine QgM (ac.go _ _ Ha H10 _ b7 bq aj ag bo (by have:=av.y;omega) aD bp) ?_;rintro _ H11 ci co ⟨rfl,br,b8⟩;simp only[Qb,simprocAttr,ax,aI];refine⟨3 - (aa+1),by omega,aa+1,by omega,rfl,?_,?_,?_,?_,?_,?_,?_,?_,?_,?_⟩;·rw[Qjt,aY,Lh];exact br
   ·exact(ad.trans (ac.ck aj ag aD bN)).trans b8
   all_goals simp only[Qf,simprocAttr,r0,r1,r2,r3,ai,aG,r15]
 have ae:aa=3:=by have:=Ll ae;omega
 subst ae;simp only[Qb,simprocAttr,QeK];have aV:CK Own H Ha:=(ac.ck ao ar av ah).trans ad;exact .mk aV.y ⟨rfl,aj,aV⟩
def Qk7 (mid:Int)(m:Mm):List Ld:=
 if(m.b.c==8)=true then[⟨[QR 0 mid 5]++(Qak m.d 4).1,0,0⟩]
 else if isR m.b 0 0=true then[QgI mid m.i m.sc m.d]
 else if isR m.i 0 0=false then ZT mid 4 [QR (Qam m.sc) (Xz m.i) (Xz m.b)] m
 else(if(Xz m.b==4)=true then[] else ZT mid (Xz m.b) [] m)++(ZT mid 4 [QR 0 4 (Xz m.b)] m++(if(m.b.n==4)=true then[] else[QgI mid m.b 1 m.d]))
def QsH (H:Qa)(b:Int):Gx 1 5 H (H.push (.C [.int .u8 b] 5)) (.S H.y 1 1) 1 (bys [b]):=.inr ⟨_,_,rfl,Lb _,by rw[Qc,Lc rfl];rfl,rfl,.inl rfl⟩
section
variable {base l:Nat} {R:Nat->Qa->Prop} {Own:Qa->Nat->Prop} {mid:Int} {m:Mm} {H:Qa} {bm bi:Nat}
def QtP (aa:Cns base l (Qk7 mid m) LdV R Own)(bX:base<=H.y)(av:0<=mid∧mid<8)(ar:I64 m.d)(bg:isR m.i 0 0=false->Wz m.sc=true)(aO:R 0 H)(aK:H.get bm=some (.C m.cells 70))(aW:H.get bi=some (.C [.Z mid] 3))(bU:¬Own H bm)(bT:¬Own H bi):
  Qe Pg 306 [.func (.yield l) #[] #[],.P bm,.P bi] H λu H'=>R (Qk7 mid m).length H'∧CK Own H H':=by
 refine Qqh λaI=>?_;have aT:=Qv7 m.b;have bI:=Qv7 m.i;have bJ:=Qyh m.sc;have bH:=aI.lt aK;have bG:=aI.lt aW;have bw:=Qal m.b;have bx:=Qal m.i;have bA:(m.b.c==0&&m.b.n==0)=isR m.b 0 0:=rfl;have bC:(m.i.c==0&&m.i.n==0)=isR m.i 0 0:=rfl;have aL:=aK;simp only[Mm.cells]at aL;simp only[Rg.cells]at bw bx;simp only[Qhz,Qb,simprocAttr,aL];refine(bw H).w ?_;rintro _ _ bo bN ⟨rfl,k1,rfl⟩;simp only[Qw]at bo;have bS:¬bm=k1:=by omega
 simp only[Qb,simprocAttr,bS,aL];generalize aB:((H.up k1).push _).set k1 _=H2;have am:Ext H H2:=by rw[<- aB];exact(((Ext.refl H).up bo).push _).set (by omega) _
 have ac:H2.Wf:=by rw[<- aB];exact(bN.push _).set (b0:=.C [.Z 0,.Z 0] 68) (by rw[Qc,Lc (by rw[Qw])]) _
 have bY:k1<H2.y:=by rw[<- aB,Qo,Qd,Qw];omega
 have aV:H2.get k1=some (.C [.Z 0,.Z 0] 68):=by rw[<- aB,Qh,Lc rfl]
 have ak:H2.get bm=some (.C m.cells 70):=by rw[am.get _ bH];exact aK
 have an:H2.get bi=some (.C [.Z mid] 3):=by rw[am.get _ bG];exact aW
 clear aB;obtain⟨ah,aM⟩:=aa.ext _ _ _ aO aI am;have aF:=aa.ck aO aI am ac;have bu:¬Own H2 bm:=λh=>bU (aM _ h);have br:¬Own H2 bi:=λh=>bT (aM _ h);have cf:¬Own H2 k1:=λh=>by have:=aa.low _ _ _ aO (aM _ h);omega
 obtain⟨W,ab⟩:∃W,W=Qk7 mid m:=⟨_,rfl⟩;rw[<- ab]at aa ⊢;unfold Qk7 at ab;have ao:=ak;simp only[Mm.cells]at ao;cases ba:m.b.c==8 with
 | true=>
  rw[ba,Lc rfl]at ab;simp only[Qb,simprocAttr,an];refine⟨by omega,?_⟩;refine(Yq 0 mid 5 (by decide) av (by decide) H2).w ?_;rintro _ H2 _ _ ⟨rfl,rfl⟩;have aj:=(Ext.refl H2).push (.C [.int .u8 (QR 0 mid 5)] 5);have al:=ac.push (.C [.int .u8 (QR 0 mid 5)] 5);have bD:=QsH H2 (QR 0 mid 5);have az:(H2.push (.C [.int .u8 (QR 0 mid 5)] 5)).get bm=some (.C m.cells 70):=by rw[aj.get _ (by have:=ac.lt ak;omega)];exact ak
  have bP:¬bm=H2.y:=by have:=ac.lt ak;omega
  simp only[Mm.cells]at az;simp only[Qb,simprocAttr,bP,ao];generalize H2.push _=H3 at *;refine⟨λ_ _=>rfl,by simp[Qj,Ab.plain],?_⟩;refine(Qex m.d 4 ar H3).w ?_;rintro ch H4 _ ax ⟨aD,ag⟩;have cd:=Qjn m.d 4 (by decide);simp only[Qb,simprocAttr];refine⟨ag.eqB,?_⟩;refine Qdk (bD.go al ag) (aj.trans ag) ax aD.src (Qb5 _) (by rw[ZR,NH]) (by omega) (by omega) ?_;intro ci H5 bh aG;obtain⟨a5,bW,rfl⟩:=bh.slc;obtain⟨b5,b3⟩:=aa.ext _ _ _ ah ac aG.x;have b8:=aF.trans (aa.ck ah ac aG.x aG.w);simp only[Qb,simprocAttr,Zz];refine QgM (aa.go 0 ⟨[QR 0 mid 5]++(Qak m.d 4).1,0,0⟩ H2 H5 _ (by rw[ab];rfl) b5 ah ac ⟨_,rfl,?_⟩ (by have:=am.y;omega) aG.x b3) ?_;·show Gx 1 5 H2 H5 _ ([QR 0 mid 5]++(Qak m.d 4).1).length (bys ([QR 0 mid 5]++(Qak m.d 4).1));rw[Qb4,Lh];exact bh
  rintro _ H6 aH ap ⟨rfl,ad,ai⟩;have ae:=b8.trans ai;simp only[Qb,simprocAttr,YW];exact .mk ae.y ⟨by rw[ab];exact ad,ae⟩
 | false=>
  rw[ba,Le (by simp)]at ab;simp only[Qes,Qb,simprocAttr,ao,aV,QE,bA];cases bd:isR m.b 0 0 with
  | true=>
   rw[bd,Lc rfl]at ab;simp only[Qb,simprocAttr,ao,an];refine(Qk1 mid m.i m.sc m.d av bg ar H2).w ?_;rintro cg H3 _ al ⟨bL,aj⟩;obtain⟨aC,bc⟩:=aa.ext _ _ _ ah ac aj;have aQ:=aF.trans (aa.ck ah ac aj al);simp only[Qb,simprocAttr,Zz];refine QgM (aa.go 0 _ H2 H3 _ (by rw[ab];rfl) aC ah ac bL (by have:=am.y;omega) aj bc) ?_;rintro _ H6 aH ap ⟨rfl,ad,ai⟩;have ae:=aQ.trans ai;simp only[Qb,simprocAttr,YW];exact .mk ae.y ⟨by rw[ab];exact ad,ae⟩
  | false=>
   rw[bd,Le (by simp)]at ab;simp only[Qer,Qb,simprocAttr,ao,aV,QE,bC];cases aS:isR m.i 0 0 with
   | false=>
    rw[aS,Lc rfl]at ab;simp only[Qeo,Qb,simprocAttr,ao];refine⟨by omega,?_⟩;refine(Qk0 m.sc (bg aS) H2).w ?_;rintro _ H2 _ _ ⟨rfl,rfl⟩;simp only[Qb,simprocAttr,ao];refine⟨λ_ _=>rfl,by simp[Qj,Ab.plain],?_⟩;refine(bx H2).w ?_;rintro _ _ bp al ⟨rfl,k3,rfl⟩;simp only[Qw]at bp;have aj:=(Ext.refl H2).up bp;have az:(H2.up k3).get bm=some (.C m.cells 70):=by rw[Xo];exact ak
    have bz:(H2.up k3).get bi=some (.C [.Z mid] 3):=by rw[Xo];exact an
    simp only[Mm.cells]at az;obtain⟨aC,bc⟩:=aa.ext _ _ _ ah ac aj;have aQ:=aF.trans (aa.ck ah ac aj al);generalize H2.up k3=H3 at *;simp only[Qb,simprocAttr];refine(Yq _ _ _ bJ bI aT H3).w ?_;rintro _ H3 _ _ ⟨rfl,rfl⟩;simp only[Qb,simprocAttr,bz];have bZ:=al.lt az;have bQ:¬bm=H3.y:=by omega
    simp only[Qb,simprocAttr,bQ,az];have ag:=(Ext.refl H3).push (.C [.int .u8 (QR (Qam m.sc) (Xz m.i) (Xz m.b))] 5);have ax:=al.push (.C [.int .u8 (QR (Qam m.sc) (Xz m.i) (Xz m.b))] 5);have aD:=QsH H3 (QR (Qam m.sc) (Xz m.i) (Xz m.b));generalize H3.push _=H4 at *;obtain⟨aP,aN⟩:=aa.ext _ _ _ aC al ag;have aR:=aQ.trans (aa.ck aC al ag ax);refine(QsF aa mid 4 av (by decide) (sib:=[QR (Qam m.sc) (Xz m.i) (Xz m.b)]) (by simp) m ar 0 (by have:=am.y;have:=aj.y;have:=ag.y;omega) aP aD (λid ⟨o,n,c,e⟩ h=>by cases e;have:=aa.low _ _ _ aC (aN _ h);omega) (λi w h=>by rw[ab,LP];exact h)).w ?_;rintro _ H6 aH ap ⟨rfl,ad,ai⟩;have ae:=aR.trans ai;simp only[Qb,simprocAttr,YW];exact .mk ae.y ⟨by rw[ab];rw[LP]at ad;exact ad,ae⟩
   | true=>
    rw[aS,Le (by simp)]at ab
    -- the last two ways,behind what is told
    have bq:∀ (pre:List Ld) (Hx:Qa) (A:Env),W=pre++(ZT mid 4 [QR 0 4 (Xz m.b)] m++(if(m.b.n==4)=true then[] else[QgI mid m.b 1 m.d]))->R pre.length Hx->CK Own H2 Hx->A 0=.func (.yield l) #[] #[]->A 1=.P bm->A 2=.P bi->A 5=.Z (Xz m.b)->
      Qk Pg Vs ⟨Rt Pg Tryz.f306 H λu H'=>R W.length H'∧CK Own H H',exK 0 (Rt Pg Tryz.f306 H λu H'=>R W.length H'∧CK Own H H') Xi⟩ (Rt Pg Tryz.f306 H λu H'=>R W.length H'∧CK Own H H') A Hx:=by
     intro pre Hx A aq aE au r0 r1 r2 bV;have ay:=au.w;have aY:Hx.get bm=some (.C m.cells 70):=by rw[au.keep _ (ac.lt ak) bu];exact ak
     have aX:Hx.get bi=some (.C [.Z mid] 3):=by rw[au.keep _ (ac.lt an) br];exact an
     have aZ:=aY;simp only[Mm.cells]at aZ;have ca:=ay.lt aY;have cb:=ay.lt aX;simp only[Vs,Qb,simprocAttr,r0,r1,r2,bV,aX];refine⟨by simp[Qj,Ab.plain],by omega,?_⟩;refine(Yq 0 4 _ (by decide) (by decide) aT Hx).w ?_;rintro _ Hx _ _ ⟨rfl,rfl⟩;have bR:¬bm=Hx.y:=by omega
     simp only[Qb,simprocAttr,bR,r1,aZ];have ag:=(Ext.refl Hx).push (.C [.int .u8 (QR 0 4 (Xz m.b))] 5);have ax:=ay.push (.C [.int .u8 (QR 0 4 (Xz m.b))] 5);have aD:=QsH Hx (QR 0 4 (Xz m.b));obtain⟨aP,aN⟩:=aa.ext _ _ _ aE ay ag;have aR:=(aF.trans au).trans (aa.ck aE ay ag ax);refine⟨λ_ _=>rfl,by simp[Qj,Ab.plain],?_⟩;generalize Hx.push _=H4 at *;have bK:∀i w,(ZT mid 4 [QR 0 4 (Xz m.b)] m)[i]? = some w->W[pre.length+i]? = some w:=λi w h=>by
      have hi:=(Lk.1 h).1;rw[aq,LR (Ro _ _),NL,LY hi];exact h
     refine(QsF aa mid 4 av (by decide) (sib:=[QR 0 4 (Xz m.b)]) (by simp) m ar pre.length (by have:=am.y;have:=au.y;have:=ag.y;omega) aP aD (λid ⟨o,n,c,e⟩ h=>by cases e;have:=aa.low _ _ _ aE (aN _ h);omega) bK).w ?_;rintro _ H6 aH ap ⟨rfl,ad,ai⟩;have ae:=aR.trans ai;have bn:=(au.trans (aa.ck aE ay ag ax)).trans ai;have aJ:H6.get bm=some (.C m.cells 70):=by rw[bn.keep _ (ac.lt ak) bu];exact ak
     have b2:H6.get bi=some (.C [.Z mid] 3):=by rw[bn.keep _ (ac.lt an) br];exact an
     simp only[Mm.cells]at aJ;simp only[Qep,Qb,simprocAttr,r1,aJ];cases aA:m.b.n==4 with
     | true=>
      rw[aA,Lc rfl,Na]at aq;simp only[Qb,simprocAttr,YW];exact .mk ae.y ⟨by rw[aq,Lh];exact ad,ae⟩
     | false=>
      rw[aA,Le (by simp)]at aq;simp only[Qb,simprocAttr,r0,r1,r2,aJ,b2];refine(Qk1 mid m.b 1 m.d av (λ_=>rfl) ar H6).w ?_;rintro cj H8 _ bO ⟨bM,aU⟩;obtain⟨b6,b4⟩:=aa.ext _ _ _ ad ap aU;have b9:=ae.trans (aa.ck ad ap aU bO);simp only[Qb,simprocAttr,Zz];have bE:W[pre.length+(ZT mid 4 [QR 0 4 (Xz m.b)] m).length]? = some (QgI mid m.b 1 m.d):=by
       rw[aq,LR (Ro _ _),NL,LR (Lb _),BJ];rfl
      refine QgM (aa.go _ _ H6 H8 _ bE b6 ad ap bM (by have:=ae.y;omega) aU b4) ?_;rintro _ H9 cc ce ⟨rfl,b7,bF⟩;have bj:=b9.trans bF;simp only[Qb,simprocAttr,YW];refine .mk bj.y ⟨?_,bj⟩;have:W.length=pre.length+(ZT mid 4 [QR 0 4 (Xz m.b)] m).length+1:=by rw[aq];simp only[Lh,Lo,L9];omega
      rw[this];exact b7
    simp only[Qeq,Qb,simprocAttr];cases aA:Xz m.b==4 with
    | true=>
     rw[aA,Lc rfl]at ab;simp only[Qb,simprocAttr];refine bq [] H2 _ ab ah (aa.ck ah ac (.refl _) ac) ?_ ?_ ?_ ?_
     all_goals simp only[Qf,simprocAttr]
    | false=>
     rw[aA,Le (by simp)]at ab;simp only[Qb,simprocAttr,ao,an];refine(QsF aa mid (Xz m.b) av aT (sib:=[]) (by simp) m ar 0 (by have:=am.y;omega) ah (Hs:=H2) (.inl ⟨rfl,rfl,rfl⟩) (λid ⟨o,n,c,e⟩=>by cases e) (λi w h=>by
      have hi:=(Lk.1 h).1;rw[ab,LP,LY hi];exact h)).w ?_
     rintro _ H6 aH ap ⟨rfl,ad,ai⟩;simp only[Qb,simprocAttr];rw[LP]at ad;refine bq _ H6 _ ab ad ai ?_ ?_ ?_ ?_
     all_goals simp only[Qf,simprocAttr]
end
def ldC (ss:List Value)(ws:List Ld):List Value:=(ss.zip ws).flatMap λp=>[p.1,.Z p.2.x,.Z p.2.h]
def QnC:∀ (ss:List Value) (ws:List Ld),ss.length=ws.length->(ldC ss ws).length=ws.length * 3
 | [],[],_=>rfl
 | s::ss,w::ws,h=>by
  have:=QnC ss ws (by simpa using h);unfold ldC at *;simp only[BF,Ba,Lh,Lo,L9,this];omega
def QFm (ss:List Value)(ws:List Ld)(h:ss.length=ws.length)(s:Value)(w:Ld):ldC (ss++[s]) (ws++[w])=ldC ss ws++[s,.Z w.x,.Z w.h]:=by
 unfold ldC;rw[List.zip_append h,Bm];rfl
structure XZ (e:TypeId) (H0 H:Qa) (v:Value) (ws:List Ld):Prop where
 it:∃ss:List Value,ss.length=ws.length∧Gx 3 e H0 H v ws.length (ldC ss ws)∧∀ (j:Nat) s w,ss[j]? = some s->ws[j]? = some w->Gx 1 5 H0 H s w.b.length (bys w.b)
def XZ.nil (e:TypeId)(H0 H:Qa):XZ e H0 H (.slice none 0 0) []:=⟨[],rfl,.inl ⟨rfl,rfl,rfl⟩,λj s w h=>by simp at h⟩
def XZ.go {e:TypeId}{H0 H H':Qa}{v:Value}{ws:List Ld}(h:XZ e H0 H v ws)(aa:H.Wf)(hx:Ext H H'):XZ e H0 H' v ws:=by
 obtain⟨ss,ab,ac,ad⟩:=h.it;exact⟨ss,ab,ac.go aa hx,λj s w ae ag=>(ad j s w ae ag).go aa hx⟩
def XZ.slc {e:TypeId}{H0 H:Qa}{v:Value}{ws:List Ld}(h:XZ e H0 H v ws):∃a c,v=.slice a ws.length c:=by
 obtain⟨ss,ab,aa,ac⟩:=h.it;exact aa.slc
def XZ.down {e:TypeId}{H0 H1 H:Qa}{v:Value}{ws:List Ld}(h:XZ e H1 H v ws)(hx:H0.y<=H1.y):XZ e H0 H v ws:=by
 obtain⟨ss,aa,ab,ac⟩:=h.it;exact⟨ss,aa,ab.down hx,λj s w ad ae=>(ac j s w ad ae).down hx⟩
def XZ.keep {e:TypeId}{H0 H H':Qa}{v:Value}{ws:List Ld}(h:XZ e H0 H v ws)(ae:∀id,H0.y<=id->(inB v id∨∃cs,H.get id=some (.C cs 5))->H'.get id=H.get id):XZ e H0 H' v ws:=by
 obtain⟨ss,ag,aa,ah⟩:=h.it;refine⟨ss,ag,?_,λj s w ai aj=>?_⟩
 ·rcases aa with aa | ⟨b,c,rfl,ab,ac,ad⟩;·exact .inl aa
  exact .inr ⟨b,c,rfl,ab,by rw[ae b ab (.inl ⟨_,_,_,rfl⟩)];exact ac,ad⟩
 rcases ah j s w ai aj with aa | ⟨b,c,rfl,ab,ac,ad⟩;·exact .inl aa
 exact .inr ⟨b,c,rfl,ab,by rw[ae b ab (.inr ⟨_,ac⟩)];exact ac,ad⟩
def QBN {e bytes:Nat}(ar:e≠5){H0 H:Qa}{v s:Value}{w:Ld}{ws:List Ld}{ss:List Value}{k:Value->Qa->Prop}{x:Value}(ai:ss.length=ws.length)(ag:Gx 3 e H0 H v ws.length (ldC ss ws))(ap:∀ (j:Nat) s w,ss[j]? = some s->ws[j]? = some w->Gx 1 5 H0 H s w.b.length (bys w.b))(hx:Ext H0 H)(am:H.Wf)(al:Gx 1 5 H0 H s w.b.length (bys w.b))(aA:YX 3 x H=some (1,[s,.Z w.x,.Z w.h]))(aq:(ws.length+1) * bytes<=140737488355328)(av:ws.length+1<=9223372036854775807)
  (h:∀ae H',(ss++[s]).length=(ws++[w]).length->Gx 3 e H0 H' ae (ws++[w]).length (ldC (ss++[s]) (ws++[w]))->(∀ (j:Nat) ah w',(ss++[s])[j]? = some ah->(ws++[w])[j]? = some w'->Gx 1 5 H0 H' ah w'.b.length (bys w'.b))->GK v ae H0 H H'->k ae H'):Qdv e 3 bytes v x H k:=by
 have ay:([s,.Z w.x,.Z w.h]:List Value).all (·.oneCell')=true:=by
  obtain⟨a,c,rfl⟩:=al.slc;rfl
 refine Qdk ag hx am aA ay rfl aq av ?_;intro ae H' au ak;refine h ae H' (by simp[ai]) ?_ (λj ah w' aa ac=>?_) ak;·rw[QFm _ _ ai,Lh];exact au
 have ax:∀id c',H.get id=some (.C c' 5)->¬inB v id:=λid c' aj hi=>by
  obtain⟨o,aB,c,rfl⟩:=hi;rcases ag with⟨h,_,_⟩ | ⟨b,c,h,an,ad,ao⟩;·cases h
  cases h;rw[ad]at aj;cases aj;exact ar rfl
 have key:∀ {s:Value} {bs:List Int},Gx 1 5 H0 H s bs.length (bys bs)->Gx 1 5 H0 H' s bs.length (bys bs):=λaz=>by
  rcases az with ag | ⟨b,c,rfl,an,ad,ao⟩;·exact .inl ag
  exact .inr ⟨b,c,rfl,an,by rw[ak.keep b (am.lt ad) (ax b _ ad)];exact ad,ao⟩
 rcases Dj j ss.length with ab | ab | ab;·rw[LY ab]at aa;rw[LY (by omega)]at ac;exact key (ap j ah w' aa ac)
 ·rw[LR (by omega)]at aa ac;rw[ab,BJ]at aa;rw[ab,ai,BJ]at ac;cases aa;cases ac;exact key al
 have:=(Lk.1 aa).1;simp at this;omega
def QKj {e bytes:Nat}(ag:e≠5){H0 H:Qa}{v s:Value}{w:Ld}{ws:List Ld}{k:Value->Qa->Prop}{x:Value}(ah:XZ e H0 H v ws)(hx:Ext H0 H)(al:H.Wf)(aj:Gx 1 5 H0 H s w.b.length (bys w.b))(ak:YX 3 x H=some (1,[s,.Z w.x,.Z w.h]))(ae:(ws.length+1) * bytes<=140737488355328)(ai:ws.length+1<=9223372036854775807)
  (h:∀aa H',XZ e H0 H' aa (ws++[w])->GK v aa H0 H H'->k aa H'):Qdv e 3 bytes v x H k:=by
 obtain⟨ss,ab,ac,ad⟩:=ah.it;exact QBN ag ab ac ad hx al aj ak ae ai λaa H' a b c d=>h aa H' ⟨_,a,b,c⟩ d
def Inc (ss:List Value)(U:Nat):Prop:=ss.Pairwise (λs aa=>∀a b,inB s a->inB aa b->a<b)∧∀s∈ss,∀a,inB s a->a<U
def Inc.mono {ss:List Value}{U U':Nat}(h:Inc ss U)(ac:U<=U'):Inc ss U':=⟨h.1,λs ab a aa=>N5 (h.2 s ab a aa) ac⟩
def Inc.snoc {ss:List Value}{U U':Nat}(h:Inc ss U)(ae:U<=U'){s:Value}(ab:∀a,inB s a->U<=a∧a<U'):Inc (ss++[s]) U':=by
 refine⟨List.pairwise_append.2 ⟨h.1,Bw _ _,λx hx y ad a b aa ac=>?_⟩,λx hx a aa=>?_⟩;·cases Sa.1 ad;have:=h.2 x hx a aa;have:=(ab b ac).1;omega
 rcases LI.1 hx with hx | hx;·have:=h.2 x hx a aa;omega
 cases Sa.1 hx;exact(ab a aa).2
structure LsU (e:TypeId) (H0 H:Qa) (v:Value) (ws:List Ld) (U:Nat):Prop where
 it:∃ss:List Value,ss.length=ws.length∧Gx 3 e H0 H v ws.length (ldC ss ws)∧(∀ (j:Nat) s w,ss[j]? = some s->ws[j]? = some w->Gx 1 5 H0 H s w.b.length (bys w.b))∧Inc ss U
section
variable {e:TypeId} {H0 H H' H1:Qa} {v:Value} {ws:List Ld} {U U':Nat}
def LsU.ls (h:LsU e H0 H v ws U):XZ e H0 H v ws:=by
 obtain⟨ss,aa,ab,ac,_⟩:=h.it;exact⟨ss,aa,ab,ac⟩
def LsU.nil (e:TypeId)(H0 H:Qa)(U:Nat):LsU e H0 H (.slice none 0 0) [] U:=⟨[],rfl,.inl ⟨rfl,rfl,rfl⟩,λj s w h=>by simp at h,List.Pairwise.nil,λs h=>by cases h⟩
def LsU.mono (h:LsU e H0 H v ws U)(ae:U<=U'):LsU e H0 H v ws U':=by
 obtain⟨ss,aa,ab,ac,ad⟩:=h.it;exact⟨ss,aa,ab,ac,ad.mono ae⟩
def LsU.of (h:LsU e H0 H v ws U)(aa:∀ {size e v n cs},Gx size e H0 H v n cs->Gx size e H1 H' v n cs):LsU e H1 H' v ws U:=by
 obtain⟨ss,ab,ac,ad,ae⟩:=h.it;exact⟨ss,ab,aa ac,λj s w a b=>aa (ad j s w a b),ae⟩
def LsU.go (h:LsU e H0 H v ws U)(aa:H.Wf)(hx:Ext H H'):LsU e H0 H' v ws U:=h.of λg=>g.go aa hx
def LsU.down (h:LsU e H1 H v ws U)(hx:H0.y<=H1.y):LsU e H0 H v ws U:=h.of λg=>g.down hx
end
def QBO {e bytes:Nat}(ah:e≠5){H0 H:Qa}{v s:Value}{w:Ld}{ws:List Ld}{U U':Nat}{k:Value->Qa->Prop}{x:Value}(ai:LsU e H0 H v ws U)(an:U<=U')(am:∀a,inB s a->U<=a∧a<U')(hx:Ext H0 H)(ao:H.Wf)(ak:Gx 1 5 H0 H s w.b.length (bys w.b))(al:YX 3 x H=some (1,[s,.Z w.x,.Z w.h]))(ag:(ws.length+1) * bytes<=140737488355328)(aj:ws.length+1<=9223372036854775807)
  (h:∀aa H',LsU e H0 H' aa (ws++[w]) U'->GK v aa H0 H H'->k aa H'):Qdv e 3 bytes v x H k:=by
 obtain⟨ss,ab,ac,ad,ae⟩:=ai.it;exact QBN ah ab ac ad hx ao ak al ag aj λaa H' a b c d=>h aa H' ⟨_,a,b,c,ae.snoc an am⟩ d
def clR (e:TypeId)(Hb:Qa)(cB lB:Nat)(eC:TypeId)(bl:Blk)(W:List Ld)(j:Nat)(H':Qa):Prop:=
 H'.get lB=some bl∧Hb.y<=H'.y∧(∀id,id<Hb.y->id≠cB->id≠lB->H'.get id=Hb.get id)∧∃v,H'.get cB=some (.C [v] eC)∧XZ e Hb H' v (W.take j)∧∀id,inB v id->id<H'.y∧Hb.y<=id
def clO (cB lB:Nat)(eC:TypeId)(H:Qa)(id:Nat):Prop:=id=cB∨id=lB∨∃v,H.get cB=some (.C [v] eC)∧inB v id
def QH2 {e:TypeId}{Hb:Qa}{cB lB:Nat}(ak:cB<Hb.y)(al:lB<Hb.y){eC:TypeId}{bl:Blk}{W:List Ld}{j:Nat}{H1 H2:Qa}(h:clR e Hb cB lB eC bl W j H1)(ah:H1.Wf)(hx:Ext H1 H2):clR e Hb cB lB eC bl W j H2∧∀id,clO cB lB eC H2 id->clO cB lB eC H1 id:=by
 obtain⟨ab,aj,ac,v,ad,ae,ag⟩:=h;have am:=hx.y;have aa:=hx.get cB (by omega);refine⟨⟨by rw[hx.get lB (by omega)];exact ab,by omega,λid a b c=>by rw[hx.get id (by omega)];exact ac id a b c,v,by rw[aa];exact ad,ae.go ah hx,λid hi=>?_⟩,λid hi=>?_⟩;·have:=ag id hi;exact⟨by omega,this.2⟩
 rcases hi with h | h | ⟨ai,h,hi⟩;·exact .inl h
 ·exact .inr (.inl h)
 exact .inr (.inr ⟨ai,by rw[<- aa];exact h,hi⟩)
def QH3 {e:TypeId}{Hb:Qa}{cB lB:Nat}(ah:cB<Hb.y)(ai:lB<Hb.y){eC:TypeId}{bl:Blk}{W:List Ld}{j:Nat}{H1:Qa}(h:clR e Hb cB lB eC bl W j H1){id:Nat}(hi:clO cB lB eC H1 id):id<H1.y:=by
 obtain⟨ac,ad,ae,v,aa,ag,ab⟩:=h;rcases hi with rfl | rfl | ⟨aj,h,hi⟩;·omega
 ·omega
 rw[aa]at h;cases h;exact(ab id hi).1
def Qyo (f:FuncId)(aO:entered Pg f=true)(aq:List Value)(W:List Ld)(bp:W.length<=1000)(H:Qa)
  (aQ:∀ (l:Nat) (R:Nat->Qa->Prop) (Own:Qa->Nat->Prop) (H':Qa),Cns H'.y l W LdV R Own->R 0 H'->Ext H H'->(∀id,id<H.y->¬Own H' id)->Qe Pg f ([.func (.yield l) #[] #[]]++aq) H' λu H2=>R W.length H2∧CK Own H' H2):
  Qe Pg 305 [.slice none 0 0,.func (.func f) #[] aq.toArray] H λv H'=>XZ 210 H H' v W∧Ext H H':=by
 refine JG λaX=>?_;simp only[Xf,Qb,simprocAttr];generalize ae:H.push _=H1;obtain⟨eC,aG⟩:∃eC,H1.get H.y=some (.C [.slice none 0 0] eC):=⟨_,by rw[<- ae,Qc,Lc rfl]⟩;have bc:Ext H H1:=by rw[<- ae];exact(Ext.refl H).push _
 have aY:H1.Wf:=by rw[<- ae];exact aX.push _
 have aS:H1.y=H.y+1:=by rw[<- ae];rfl
 clear ae;simp only[Qf,simprocAttr,Ya];rw[QaB f [] aq];intro L aM;refine⟨aO,?_⟩;have aB:Ext H (H1.push (L none)):=bc.push _;have bz:(H1.push (L none)).y=H.y+2:=by rw[Qd,aS]
 have ar:(H1.push (L none)).get H.y=some (.C [.slice none 0 0] eC):=by rw[Qc,Le (by omega)];exact aG
 have aI:(H1.push (L none)).get H1.y=some (L none):=by rw[Qc,Lc rfl]
 have b5:=aY.push (L none);generalize H1.push (L none)=Hb at *;have av:H.y<Hb.y:=by omega
 have ay:H1.y<Hb.y:=by omega
 refine(aQ H1.y (clR 210 Hb H.y H1.y eC (L none) W) (clO H.y H1.y eC) Hb ⟨?_,?_,?_⟩ ?_ aB ?_).w ?_;·exact λj Ha Hc h ba hx=>QH2 av ay h ba hx
 ·exact λj Ha id h hi=>QH3 av ay h hi
 ·rintro j w H0' H1' b8 ax aL _ _ ⟨s,rfl,aT⟩ aN b6 bo ao;obtain⟨am,aJ,an,v,ad,ai,aK⟩:=aL;refine aM H1.y _ H1' _ am rfl ?_ ao;have br:=(Lk.1 ax).1;have aA:Gx 1 5 Hb H1' s w.b.length (bys w.b):=aT.down aN
  -- the loop's Qww is taken away while its body runs
  have ab:∀id,id≠H1.y->(H1'.kill H1.y).get id=H1'.get id:=λid aa=>by rw[Q0,Le aa]
  have az:(H1'.kill H1.y).y=H1'.y:=rfl;have ap:(H1'.kill H1.y).Wf:=ao.kill _;have k5:=(ab H.y (by omega)).trans ad;have k6:XZ 210 Hb (H1'.kill H1.y) v (W.take j):=ai.keep λid aa _=>ab id (by omega);have ks:Gx 1 5 Hb (H1'.kill H1.y) s w.b.length (bys w.b):=aA.ext λid aa=>ab id (by have:=aA.low ao aa;omega);have k3:∀id,id<Hb.y->id≠H.y->id≠H1.y->(H1'.kill H1.y).get id=Hb.get id:=λid a b c=>(ab id c).trans (an id a b c);generalize bn:H1'.kill H1.y=Hk at *;obtain⟨a,c,rfl⟩:=ks.slc;obtain⟨ak,al,rfl⟩:=k6.slc;have bh:¬H.y=Hk.y:=by omega
  simp only[K3,V6,Qb,simprocAttr,bh,k5];generalize ag:Qa.push (Qa.set (Qa.push Hk _) _ _) _=H5;have ah:Ext Hk H5:=by rw[<- ag];exact(((Ext.refl Hk).push _).set (Lb _) _).push _
  have aZ:H5.Wf:=by rw[<- ag];exact((ap.push _).set (b0:=.C [.slice none 0 0,.Z 0,.Z 0] 210) (by rw[Qc,Lc rfl]) _).push _
  have aH:H5.get (Hk.y+1)=some (.C [.slice a w.b.length c,.Z w.x,.Z w.h] 210):=by rw[<- ag,Qc,Lc (by rw[Qo,Qd])]
  have bx:H5.y=Hk.y+2:=by rw[<- ag,Qd,Qo,Qd]
  clear ag;have aU:YX 3 (.S (Hk.y+1) 1 1) H5=some (1,[.slice a w.b.length c,.Z w.x,.Z w.h]):=by
   rw[KM aH (by decide) (by simp)];rfl
  have bu:(W.take j).length<=1000:=by rw[Sb];omega
  -- what was there when the loop began may have changed at its variable and its Qww alone;the rest of the list is new
  have bd:∃Hz:Qa,Ext Hz H5∧Hz.y=Hb.y:=⟨⟨Hb.y,H5.tr⟩,⟨by show Hb.y<=H5.y;omega,λid _=>rfl⟩,rfl⟩;obtain⟨Hz,aD,b3⟩:=bd;have aR:XZ 210 Hz H5 (.slice ak (W.take j).length al) (W.take j):=(k6.go ap ah).down (by omega);have aV:Gx 1 5 Hz H5 (.slice a w.b.length c) w.b.length (bys w.b):=(ks.go ap ah).down (by omega);refine QKj (by decide) aR aD aZ aV aU (by omega) (by omega) ?_;intro bm H6 aj ac;obtain⟨aF,c',rfl⟩:=aj.slc;have aW:W.take (j+1)=W.take j++[w]:=by rw[Nv,ax];rfl
  rw[<- aW]at aj ac ⊢;have au:∀id,id<Hb.y->H6.get id=H5.get id:=λid aa=>(ac.x.get id (by omega)).trans (aD.get id (by omega)).symm;have bg:H6.get H.y=some (.C [.slice ak (W.take j).length al] eC):=by rw[au _ (by omega),ah.get _ (by omega)];exact k5
  have b2:=ac.y;simp only[Qb,simprocAttr,K2,bg];refine⟨by omega,⟨by rw[Qh,Lc rfl],by rw[Qo,Qo];omega,λid p q r=>?_,.slice aF (W.take (j+1)).length c',?_,?_,λid hi=>?_⟩,⟨by rw[Qo,Qo];omega,?_,λid p q=>?_,λid hi=>?_⟩⟩;·rw[Qh,Le r,Qh,Le q,au _ (by omega),ah.get _ (by omega)];exact k3 id p q r
  ·rw[Qh,Le (by omega),Qh,Lc rfl]
  ·refine XZ.keep (H0:=Hb) (H:=H6) (aj.down (by omega)) λid aa _=>?_;rw[Qh,Le (by omega),Qh,Le (by omega)]
  ·obtain⟨ss,_,aP,_⟩:=aj.it;have:=aP.low ac.w hi;rw[Qo,Qo];exact⟨this.2,by omega⟩
  ·intro id aa;rw[Qo,Qo]at aa;rw[Qh,Le (by omega),Qh,Le (by omega)];exact ac.w id aa
  ·have bi:id≠H.y:=λh=>q (.inl h);have aE:id≠H1.y:=λh=>q (.inr (.inl h));have bj:¬inB (.slice ak (W.take j).length al) id:=λh=>q (.inr (.inr ⟨_,ad,h⟩));rw[Qh,Le aE,Qh,Le bi,ac.keep id (by omega) bj,ah.get _ (by omega),ab id aE]
  rcases hi with h | h | ⟨b7,h,hi⟩;·exact .inl (.inl h)
  ·exact .inl (.inr (.inl h))
  rw[Qh,Le (by omega),Qh,Lc rfl]at h;cases h;rcases ac.new id hi with h | h;·exact .inl (.inr (.inr ⟨_,ad,h⟩))
  exact .inr (by omega)
 ·exact⟨aI,Lb _,λ_ _ _ _=>rfl,_,ar,XZ.nil _ _ _,λid ⟨o,n,c,h⟩=>by cases h⟩
 ·rintro id aa (h | h | ⟨bm,h,hi⟩);·omega
  ·omega
  rw[ar]at h;cases h;obtain⟨o,n,c,h⟩:=hi;cases h
 rintro u H2 bw b4 ⟨⟨am,aJ,an,v,ad,ai,aK⟩,bq⟩;refine⟨none,am,?_⟩;have ab:∀id,id≠H1.y->(H2.kill H1.y).get id=H2.get id:=λid aa=>by rw[Q0,Le aa]
 have az:(H2.kill H1.y).y=H2.y:=rfl;have k5:=(ab H.y (by omega)).trans ad;rw[Nr]at ai;have k6:XZ 210 Hb (H2.kill H1.y) v W:=ai.keep λid aa _=>ab id (by omega);have aC:Ext H (H2.kill H1.y):=⟨by rw[az];omega,λid aa=>by rw[ab id (by omega),an id (by omega) (by omega) (by omega)];exact aB.get id aa⟩;generalize H2.kill H1.y=H3 at *;simp only[Qb,simprocAttr,V5,k5,Jj];exact .mk aC.y ⟨k6.down (by omega),aC⟩
def QDg (f:FuncId)(ac:entered Pg f=true)(aa:List Value)(W:List Ld)(ab:W.length<=1000)(H:Qa)
  (ad:∀ (l:Nat) (R:Nat->Qa->Prop) (Own:Qa->Nat->Prop) (H':Qa),Cns H'.y l W LdV R Own->R 0 H'->Ext H H'->(∀id,id<H.y->¬Own H' id)->Qe Pg f ([.func (.yield l) #[] #[]]++aa) H' λu H2=>R W.length H2∧CK Own H' H2):
  Qe Pg 283 [.func (.func f) #[] aa.toArray] H λv H'=>XZ 210 H H' v W∧Ext H H':=by
 refine QcV λag=>?_;simp only[Ji,Qb,simprocAttr];refine(Qyo f ac aa W ab H ad).w ?_;rintro v H1 _ _ ⟨ae,hx⟩;simp only[Qb,simprocAttr,Qb3];exact .mk hx.y ⟨ae,hx⟩
def Qqt (mid:Int)(a:Ar):List Ld×Int:=
 if(decide (mid<0)||decide (mid>7))=true then([],5)
 else if(WD a==0)=false then([],WD a)
 else if(a.k==1)=true then([⟨[QR 3 mid (Xz a.r)],0,GI a.r⟩],0)
 else if(a.k==2)=true then(Qk7 mid (Wt a.m),0)
 else([],2)
def QlZ (mid aa:Int)(sib:List Int)(m:Mm):(ZT mid aa sib m).length<=3:=by
 have h:∀ab,(Kb mid aa sib m ab).length<=1:=λab=>by unfold Kb;split<;>simp
 have e:ZT mid aa sib m=Kb mid aa sib m 0++(Kb mid aa sib m 1++(Kb mid aa sib m 2++[])):=rfl;have ac:=h 0;have ad:=h 1;have ae:=h 2;rw[e];simp only[Lh,L9];omega
def Qyp (mid:Int)(m:Mm):(Qk7 mid m).length<=8:=by
 unfold Qk7;split;·simp
 split;·simp
 split;·have:=QlZ mid 4 [QR (Qam m.sc) (Xz m.i) (Xz m.b)] m;omega
 have aa:=QlZ mid (Xz m.b) [] m;have ab:=QlZ mid 4 [QR 0 4 (Xz m.b)] m;simp only[Lh];split<;>split<;>simp<;>omega
def Qwj (mid:Int)(m:Mm)(H:Qa):Qe Pg 284 [.Z mid,.agg m.cells.toArray] H λu H'=>∃ab aa,u=.func (.func 306) #[] #[.P ab,.P aa]∧Ext H H'∧H.y<=ab∧H.y<=aa∧H'.get ab=some (.C m.cells 70)∧H'.get aa=some (.C [.Z mid] 3):=by
 refine Qtu λad=>?_;have ac:(Value.agg m.cells.toArray).cells.toList=m.cells:=rfl;simp only[QkE,ac,Qb,simprocAttr,Qsb];have hx:Ext H ((H.push (.C [.Z mid] 3)).push (.C m.cells 70)):=((Ext.refl H).push _).push _;exact .mk hx.y ⟨_,_,rfl,hx,by omega,Lb _,by rw[Qc,Lc (by rw[Qd])],by rw[Qc,Le (by rw[Qd];omega),Qc,Lc rfl]⟩
def QFn {m:Mm}(h:QI m=0):-2147483648<=m.d∧m.d<=2147483647:=by
 unfold QI at h;split at h;·simp at h
 rename_i aa;simp at aa;omega
def QuF {m:Mm}(h:QI m=0)(hi:isR m.i 0 0=false):Wz m.sc=true:=by
 unfold QI at h;split at h;·simp at h
 split at h;·simp at h
 split at h;·simp at h
 split at h;·simp at h
 split at h;·rename_i aa;rw[aa]at hi;cases hi
 split at h;·simp at h
 rename_i ab;cases e:Wz m.sc with
 | true=>rfl
 | false=>simp[e]at ab
def QFo (m:Mm):(Wt m).d=m.d:=by unfold Wt;split<;>(try rfl);split<;>(try rfl);split<;>rfl
def QDh {m:Mm}(h:QI m=0)(hi:isR (Wt m).i 0 0=false):Wz (Wt m).sc=true:=by
 unfold Wt at hi ⊢;split;·rename_i aa;rw[Lc aa]at hi;exact QuF h hi
 rename_i aa;rw[Le aa]at hi;split;·rename_i ab;rw[Lc ab]at hi;cases hi
 rename_i ab;rw[Le ab]at hi;have ac:isR m.i 0 0=false:=by
  cases e:isR m.i 0 0 with
  | false=>rfl
  | true=>simp[e]at aa
 have:=QuF h ac;split<;>exact this
def Qyq (mid:Int)(a:Ar)(H:Qa):Qe Pg 220 [.Z mid,.agg a.cells.toArray] H λu H'=>∃v,u=.tuple #[v,.Z (Qqt mid a).2]∧XZ 210 H H' v (Qqt mid a).1∧Ext H H':=by
 refine QvU λbo=>?_;have br:=KR a;have aT:=Qal a.r;have aU:=Qdo a.r;have aE:=QiF a.m;have ar:Qat a.m=if QI a.m=0 then(Wt a.m,0) else(WX,QI a.m):=rfl
 have aH:∀h:(a.k==2)=true,WD a=QI a.m:=λh=>by
  have:a.k=2:=by simpa using h
  simp[WD,this]
 have aJ:=Qv7 a.r;obtain⟨w,aa⟩:∃w,w=Qqt mid a:=⟨_,rfl⟩;rw[<- aa];unfold Qqt at aa;have aZ:(Value.agg a.cells.toArray).cells.toList=a.cells:=rfl;have aB:=(Ext.refl H).push (.C a.cells 95);have b5:=bo.push (.C a.cells 95);have av:(H.push (.C a.cells 95)).get H.y=some (.C a.cells 95):=by rw[Qc,Lc rfl]
 have b4:(H.push (.C a.cells 95)).y=H.y+1:=rfl;have bw:=av;have aY:a.cells.take 11=a.cells:=rfl;simp only[Qne,aZ,Wu,simprocAttr];generalize H.push (.C a.cells 95)=H1 at *;have aG:∀ (A:Env),w=([],5)->A 4=.slice none 0 0->A 5=.Z 5->Rt Pg Tryz.f220 H (λu H'=>∃v,u=.tuple #[v,.Z w.2]∧XZ 210 H H' v w.1∧Ext H H') A H1:=by
  intro A e r4 bu;subst e;simp only[Kz,r4,bu];exact .mk aB.y ⟨_,rfl,XZ.nil _ _ _,aB⟩
 have bi:(decide (mid<0)||decide (mid>7))=false->∀ (A:Env),A 0=.Z mid->A 3=.P H.y->Qk Pg QcT ⟨Rt Pg Tryz.f220 H (λu H'=>∃v,u=.tuple #[v,.Z w.2]∧XZ 210 H H' v w.1∧Ext H H'),Xi⟩ (Rt Pg Tryz.f220 H (λu H'=>∃v,u=.tuple #[v,.Z w.2]∧XZ 210 H H' v w.1∧Ext H H')) A H1:=by
  intro aK A r0 r3;have aL:0<=mid∧mid<8:=by simp at aK;omega
  rw[aK,Le (by simp)]at aa;simp only[QcT,Qb,simprocAttr,r3,av,aY];refine⟨Lb _,?_⟩;refine(br H1).w ?_;rintro _ _ aM b6 ⟨rfl,k,rfl⟩;simp only[Qw]at aM;have ac:=aB.up aM;have ae:(H1.up k).get H.y=some (.C a.cells 95):=by rw[Xo];exact av
  generalize H1.up k=H2 at *;simp only[Qb,simprocAttr];cases au:WD a==0 with
  | false=>
   rw[au,Lc rfl]at aa;subst aa;simp only[Qb,simprocAttr,Kz];exact .mk ac.y ⟨_,rfl,XZ.nil _ _ _,ac⟩
  | true=>
   rw[au,Le (by simp)]at aa;have bd:WD a=0:=by simpa using au
   obtain⟨b8,⟨am,an⟩,⟨⟨ao,ap⟩,⟨aC,aD⟩,sc,d,sz⟩,n⟩:=a;simp only[Ar.cells,Rg.cells,Mm.cells]at ae aT aU aE;simp only[Qi1,Qb,simprocAttr,r3,ae];simp only at aa aJ ar aH;refine Qg (λh=>?_) (λh=>?_)
   ·rw[h,Lc rfl]at aa;simp only[QiY,Qb,simprocAttr,r0,r3,ae];refine(aT H2).w ?_;rintro _ _ ag aA ⟨rfl,k3,rfl⟩;simp only[Qw]at ag;have ah:=ac.up ag;have ax:=ae;rw[<- Xo H2 k3]at ax;generalize H2.up k3=H3 at *;simp only[Qb,simprocAttr];refine(Yq 3 mid _ (by decide) aL aJ H3).w ?_;rintro _ H3 _ _ ⟨rfl,rfl⟩;have ak:=ah.push (.C [.int .u8 (QR 3 mid (Xz ⟨am,an⟩))] 5);have bp:=aA.push (.C [.int .u8 (QR 3 mid (Xz ⟨am,an⟩))] 5);have bg:=QsH H3 (QR 3 mid (Xz ⟨am,an⟩));have bz:=aA.lt ax;have bq:¬H.y=H3.y:=by omega
    simp only[Qb,simprocAttr,bq,ax,r3];generalize H3.push _=H4 at *;refine(aU H4).w ?_;rintro _ _ az aj ⟨rfl,k5,rfl⟩;simp only[Qw]at az;have ai:=ak.up az;have bh:=bg.go bp ((Ext.refl H4).up az);generalize H4.up k5=H5 at *;simp only[Qb,simprocAttr,Kz];have b2:=ac.y;have al:=ai.push (.C [.S H3.y 1 1,.Z 0,.Z (GI ⟨am,an⟩)] 210);have b3:=ah.y;refine .mk al.y ⟨_,by rw[aa],⟨[.S H3.y 1 1],by rw[aa];rfl,?_,?_⟩,al⟩;·rw[aa];exact .inr ⟨_,_,rfl,by have:=ai.y;omega,by rw[Qc,Lc rfl];rfl,rfl,.inl rfl⟩
    intro j s w' aO aP;rw[aa]at aP;rcases j with _ | j;·cases aO;cases aP;exact(bh.go aj ((Ext.refl H5).push _)).down (by omega)
    simp at aO
   rw[h,Le (by simp)]at aa;simp only[Qi0,Qb,simprocAttr];refine Qg (λab=>?_) (λab=>?_)
   ·rw[ab,Lc rfl]at aa;simp only[QiZ,Qb,simprocAttr,r3,ae];have ay:=(aH ab).symm.trans bd;rw[Lc ay]at ar;rw[ar]at aE;refine(aE H2).w ?_;rintro _ _ ag aA ⟨rfl,k3,rfl⟩;simp only[Qw]at ag;have ah:=ac.up ag;generalize H2.up k3=H3 at *;generalize aI:Wt ⟨⟨ao,ap⟩,⟨aC,aD⟩,sc,d,sz⟩=m at *;have bj:I64 m.d:=by
     have bx:=QFn ay;have ad:=QFo ⟨⟨ao,ap⟩,⟨aC,aD⟩,sc,d,sz⟩;rw[aI]at ad;rw[ad];unfold I64;omega
    have bm:isR m.i 0 0=false->Wz m.sc=true:=by
     have ad:=@QDh ⟨⟨ao,ap⟩,⟨aC,aD⟩,sc,d,sz⟩ ay;rw[aI]at ad;exact ad
    simp only[Qb,simprocAttr,LO,r0];generalize aF:Qa.set (Qa.push H3 _) _ _=H4;have ak:Ext H H4:=by rw[<- aF];exact(ah.push _).set (by have:=ah.y;omega) _
    clear aF;have aV:=Qwj mid m H4;simp only[Mm.cells]at aV;refine aV.w ?_;rintro _ H5 _ aj ⟨aX,aW,rfl,ai,o1,o2,g1,g2⟩;have aR:=aj.lt g1;have aS:=aj.lt g2;have b7:=Qyp mid m;simp only[Qb,simprocAttr];refine(QDg 306 (by kernel_rfl) [.P aX,.P aW] (Qk7 mid m) (by omega) H5 ?_).w ?_;·intro l R Own H' bc ba hx aN;exact QtP bc (Lb _) aL bj bm ba (by rw[hx.get _ aR];exact g1) (by rw[hx.get _ aS];exact g2) (aN _ aR) (aN _ aS)
    rintro v H6 _ _ ⟨bn,al⟩;have aQ:=(ak.trans ai).trans al;simp only[Qb,simprocAttr,Kz];exact .mk aQ.y ⟨v,by rw[aa],by rw[aa];exact bn.down (ak.trans ai).y,aQ⟩
   rw[ab,Le (by simp)]at aa;subst aa;simp only[Qb,simprocAttr,Kz];exact .mk ac.y ⟨_,rfl,XZ.nil _ _ _,ac⟩
 cases aq:decide (mid<0) with
 | true=>
  rw[aq,N1,Lc rfl]at aa;simp only[Qb,simprocAttr];refine aG _ aa ?_ ?_
  all_goals simp only[Qf,simprocAttr]
 | false=>
  cases ab:decide (mid>7) with
  | true=>
   rw[aq,ab,Bd,Lc rfl]at aa;simp only[Qb,simprocAttr,ab];refine aG _ aa ?_ ?_
   all_goals simp only[Qf,simprocAttr]
  | false=>
   simp only[Qb,simprocAttr,ab];refine bi (by rw[aq,ab];rfl) _ ?_ ?_
   all_goals simp only[Qf,simprocAttr]
